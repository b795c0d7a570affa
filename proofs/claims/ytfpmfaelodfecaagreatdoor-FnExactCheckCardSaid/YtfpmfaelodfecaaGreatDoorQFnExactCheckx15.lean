import Derived.Test.YtfpmfaelodfecaaGreatDoorQFnExactCheckx0
import Derived.Test.YtfpmfaelodfecaaGreatDoorQFnExactCheckx12
import Derived.Test.YtfpmfaelodfecaaGreatDoorVMSh2
import Derived.Test.YtfpmfaelodfecaaGreatDoorQFnExactCheckx9
namespace Go.Proofs.YtfpmfaelodfecaaGreatDoor.QFnExactCheck
open Go.RowKit Go.Proofs.YtfpmfaelodfecaaGreatDoorW.PrintWords Go.Proofs.YtfpmfaelodfecaaGreatDoorW.PrintLast Go.Proofs.YtfpmfaelodfecaaGreatDoorW.PrintMore Go.Proofs.YtfpmfaelodfecaaGreatDoor.Sh
attribute [local go_sem] max2_int min2_int max_two min_two max_three min_three max_four min_four
set_option linter.unusedVariables false
set_option linter.unusedSimpArgs false
set_option maxHeartbeats 8000000
set_option maxRecDepth 100000
-- shrunk

/-! ### impl_Forms: function 54 -/
mutual
def impl_Forms.j0 : Nat → List (S82) → Bool → ByteArray → ByteArray → Option (List ByteArray)
 | 0, _, _, _, _ => none
 | k + 1, x0, x21, x293000, x293001 => if x21 = true then (some (([] : List ByteArray))) else ((some (([false, true] : List Bool) : List Bool)).bind fun y301 => (impl_Forms.l0 k x0 (([x293000] : List ByteArray)) y301 (y301.length : Int) 0 x293000 x293001))
def impl_Forms.l0 : Nat → List (S82) → List ByteArray → List Bool → Int → Int → ByteArray → ByteArray → Option (List ByteArray)
 | 0, _, _, _, _, _, _, _ => none
 | k + 1, x0, x5, x26, x27, x28, x293000, x293001 => if x28 < x27 then (if 0 ≤ x28 then (if x28 < (x26.length : Int) then ((some (([] : List ByteArray) : List ByteArray)).bind fun y308 => (if y308.length + x5.length < 8796093022208 then ((some (y308 ++ x5 : List ByteArray)).bind fun y311 => (impl_Forms.l1 k x0 x5 (rdOf false x26 x28) x26 x27 x28 y311 (y311.length : Int) 0 x293000 x293001)) else (none))) else (none)) else (none)) else ((impl_sorted.f x5).bind fun t304 => (some t304))
def impl_Forms.l1 : Nat → List (S82) → List ByteArray → Bool → List Bool → Int → Int → List ByteArray → Int → Int → ByteArray → ByteArray → Option (List ByteArray)
 | 0, _, _, _, _, _, _, _, _, _, _, _ => none
 | k + 1, x0, x5, x7, x26, x27, x28, x34, x35, x36, x293000, x293001 => if x36 < x35 then (if 0 ≤ x36 then (if x36 < (x34.length : Int) then (impl_Forms.l2 k x0 x5 x7 (rdOf ByteArray.empty x34 x36) x26 x27 x28 x34 x35 x36 x0 (x0.length : Int) 0 x293000 x293001) else (none)) else (none)) else (impl_Forms.l0 k x0 x5 x26 x27 (wrap64 (x28 + 1)) x293000 x293001)
def impl_Forms.l2 : Nat → List (S82) → List ByteArray → Bool → ByteArray → List Bool → Int → Int → List ByteArray → Int → Int → List (S82) → Int → Int → ByteArray → ByteArray → Option (List ByteArray)
 | 0, _, _, _, _, _, _, _, _, _, _, _, _, _, _, _ => none
 | k + 1, x0, x5, x7, x9, x26, x27, x28, x34, x35, x36, x40, x41, x42, x293000, x293001 => if x42 < x41 then (if 0 ≤ x42 then (if x42 < (x40.length : Int) then (if (((rd_T82 x40 x42).f1) != x7) = true then (impl_Forms.j4 k x0 x5 x7 x9 x26 x27 x28 x34 x35 x36 x40 x41 x42 true x293000 x293001 ((rd_T82 x40 x42).f0) ((rd_T82 x40 x42).f1) ((rd_T82 x40 x42).f2) ((rd_T82 x40 x42).f3) ((rd_T82 x40 x42).f4)) else ((strings_Contains.f x293001 ((rd_T82 x40 x42).f0)).bind fun t317 => (impl_Forms.j4 k x0 x5 x7 x9 x26 x27 x28 x34 x35 x36 x40 x41 x42 (!t317) x293000 x293001 ((rd_T82 x40 x42).f0) ((rd_T82 x40 x42).f1) ((rd_T82 x40 x42).f2) ((rd_T82 x40 x42).f3) ((rd_T82 x40 x42).f4)))) else (none)) else (none)) else (impl_Forms.l1 k x0 x5 x7 x26 x27 x28 x34 x35 (wrap64 (x36 + 1)) x293000 x293001)
def impl_Forms.j4 : Nat → List (S82) → List ByteArray → Bool → ByteArray → List Bool → Int → Int → List ByteArray → Int → Int → List (S82) → Int → Int → Bool → ByteArray → ByteArray → ByteArray → Bool → ByteArray → ByteArray → ByteArray → Option (List ByteArray)
 | 0, _, _, _, _, _, _, _, _, _, _, _, _, _, _, _, _, _, _, _, _, _ => none
 | k + 1, x0, x5, x7, x9, x26, x27, x28, x34, x35, x36, x40, x41, x42, x57, x293000, x293001, x317000, x317001, x317002, x317003, x317004 => if x57 = true then (impl_Forms.l2 k x0 x5 x7 x9 x26 x27 x28 x34 x35 x36 x40 x41 (wrap64 (x42 + 1)) x293000 x293001) else (if x7 = true then (impl_Forms.j5 k x0 x5 x7 x9 x26 x27 x28 x34 x35 x36 x40 x41 x42 true x293000 x293001 x317000 x317001 x317002 x317003 x317004) else (impl_Forms.j5 k x0 x5 x7 x9 x26 x27 x28 x34 x35 x36 x40 x41 x42 (x9.toList == x293000.toList) x293000 x293001 x317000 x317001 x317002 x317003 x317004))
def impl_Forms.j5 : Nat → List (S82) → List ByteArray → Bool → ByteArray → List Bool → Int → Int → List ByteArray → Int → Int → List (S82) → Int → Int → Bool → ByteArray → ByteArray → ByteArray → Bool → ByteArray → ByteArray → ByteArray → Option (List ByteArray)
 | 0, _, _, _, _, _, _, _, _, _, _, _, _, _, _, _, _, _, _, _, _, _ => none
 | k + 1, x0, x5, x7, x9, x26, x27, x28, x34, x35, x36, x40, x41, x42, x64, x293000, x293001, x317000, x317001, x317002, x317003, x317004 => if x64 = true then ((impl_AffixDo.f k x317000 x317001 x317002 x317003 x317004 x9).bind fun bt318 => (if bt318.2 = true then (if x5.length < 8796093022208 then (impl_Forms.l2 k x0 (x5 ++ [bt318.1]) x7 x9 x26 x27 x28 x34 x35 x36 x40 x41 (wrap64 (x42 + 1)) x293000 x293001) else (none)) else (impl_Forms.l2 k x0 x5 x7 x9 x26 x27 x28 x34 x35 x36 x40 x41 (wrap64 (x42 + 1)) x293000 x293001))) else (impl_Forms.l2 k x0 x5 x7 x9 x26 x27 x28 x34 x35 x36 x40 x41 (wrap64 (x42 + 1)) x293000 x293001)
end
def impl_Forms.f (k : Nat) (l0 : List (S82)) (a1_0 : ByteArray) (a1_1 : ByteArray) : Option (List ByteArray) := (impl_affixesOk.f k l0).bind fun t293 => (if t293 = true then ((impl_entryOk.f k a1_0 a1_1).bind fun t294 => (impl_Forms.j0 k l0 (!t294) a1_0 a1_1)) else (impl_Forms.j0 k l0 true a1_0 a1_1))
theorem impl_Forms.calls (k : Nat) (A0 : Option Addr) (c0 : Nat) (l0 : List (S82)) (a1_0 : ByteArray) (a1_1 : ByteArray) (r : List ByteArray) (w : World) (hr0 : Kd.C k82 w A0 l0.length l0) (hc0 : l0.length ≤ c0) (h : impl_Forms.f k l0 a1_0 a1_1 = some r) :
  Calls Tryz.prog 54 #[.slice A0 l0.length c0, .agg #[.string a1_0, .string a1_1]] w fun e w' => ∃ v0_ : Value, e = .returned (v0_) ∧ Kd.R Kd.string 9 w' w.heap.size (fun _ => True) v0_ r ∧ Below w.heap.size w w' := by
 have hu78 := Tryz.underlying78; have hu82 := Tryz.underlying82; have HR0 := am hr0; have HC0 := am hc0; clear hr0 hc0; have HB := am (Below.refl w.heap.size w)
 have H : ((impl_affixesOk.f k l0).bind fun t293 => (if t293 = true then ((impl_entryOk.f k a1_0 a1_1).bind fun t294 => (impl_Forms.j0 k l0 (!t294) a1_0 a1_1)) else (impl_Forms.j0 k l0 true a1_0 a1_1))) = some r := h
 clear h; have HC3 := am H; clear H; go_enter Tryz.func54, Tryz.ntmps54
 go_upto_region 1 with (first | ((with_reducible refine gate_dst (N := 3) rfl ?_); refine bx 3 (cs := #[.string a1_0, .string a1_1]) (t := 78) ?_; intro gb292 hg w4 hbox hb; have BK292 := am (hbox); have GW292 := am ((b0_ : w.heap.size ≤ gb292)); have GE292 := am ((b0_ : w.heap.size ≤ gb292)); replace HB := am (below_step bel hb); clear hb hbox hg))
 (try simp only [Act.put, List.setIfInBounds_toArray, List.set_cons_zero, List.set_cons_succ])
 go_cut [21] (fun v21 wc => ∃ (kq : Nat) (x21_2 : Bool), v21 = .bool x21_2 ∧ Aside0 (impl_Forms.j0 kq l0 x21_2 a1_0 a1_1 = some r) ∧ Aside0 (kq ≤ k) ∧ Aside0 (wc.heap[gb292]? = some (.cells #[.string a1_0, .string a1_1] 78 (0, 0))) ∧ Aside0 (Below w.heap.size w wc))
 case first =>
  have H := HC3.out; clear HC3; replace H := bs H; obtain ⟨t293, A50, H⟩ := H; replace H : (if t293 = true then ((impl_entryOk.f k a1_0 a1_1).bind fun t294 => (impl_Forms.j0 k l0 (!t294) a1_0 a1_1)) else (impl_Forms.j0 k l0 true a1_0 a1_1)) = some r := H; have A5 := Aside0.mk A50; clear A50
  by_cases c6 : t293 = true
  ·subst c6
   have H1 : ((impl_entryOk.f k a1_0 a1_1).bind fun t294 => (impl_Forms.j0 k l0 (!t294) a1_0 a1_1)) = some r := b8_
   replace H := H1; clear H1
   replace H := bs H; obtain ⟨t294, A70, H⟩ := H; replace H : (impl_Forms.j0 k l0 (!t294) a1_0 a1_1) = some r := H; have A7 := Aside0.mk A70; clear A70
   have H' := am H
   clear H
   go_wp2_with (first | ((with_reducible refine gate_callee (f := 52) rfl ?_); refine goesL_ (some 15) rfl rfl Tryz.func52 (by kernel_rfl) rfl #[.slice A0 l0.length c0] rfl mq ?_; (with_reducible refine (impl_affixesOk.calls k _ _ l0 true _ ?side1 ?side2 A5.out).mono ?_); (case side1 => exact cq (Kd.C_below HR0.out HB.out)); (case side2 => exact HC0.out); rintro e w8 ⟨rfl, hb⟩; refine ⟨_, rfl, ?_⟩; replace BK292 := am (blk_below (g := gb292) (o := .cells #[.string a1_0, .string a1_1] 78 (0, 0)) (bq BK292.out) hb); replace HB := am (below_step (bel1 GE292.out) hb); (try clear hb); (try clear hb2); (try clear hk); (try clear hi); have hcz9_0 := bc BK292.out 0; have hcz9_1 := bc BK292.out 1; have hfz9_0 := bf BK292.out 0; have hfz9_1 := bf BK292.out 1) | (go_at_call 76; (with_reducible refine (impl_entryOk.calls k a1_0 a1_1 t294 _ A7.out).mono ?_); rintro e w10 ⟨rfl, hb⟩; replace BK292 := am (blk_below (g := gb292) (o := .cells #[.string a1_0, .string a1_1] 78 (0, 0)) (bq BK292.out) hb); replace HB := am (below_step (bel1 GE292.out) hb); (try clear hb); (try clear hb2); (try clear hk); (try clear hi)))
   go_meet
   case rel => exact ⟨_, (!t294), sq, H', ⟨b15_⟩, ⟨bq BK292.out⟩, ⟨bel1 GE292.out⟩⟩
  replace c6 := Bool.eq_false_iff.mpr c6; subst c6
  have H1 : (impl_Forms.j0 k l0 true a1_0 a1_1) = some r := b2_
  replace H := H1; clear H1
  have H' := am H
  clear H
  go_wp2_with (first | ((with_reducible refine gate_callee (f := 52) rfl ?_); refine goesL_ (some 15) rfl rfl Tryz.func52 (by kernel_rfl) rfl #[.slice A0 l0.length c0] rfl mq ?_; (with_reducible refine (impl_affixesOk.calls k _ _ l0 false _ ?side1 ?side2 A5.out).mono ?_); (case side1 => exact cq (Kd.C_below HR0.out HB.out)); (case side2 => exact HC0.out); rintro e w11 ⟨rfl, hb⟩; refine ⟨_, rfl, ?_⟩; replace BK292 := am (blk_below (g := gb292) (o := .cells #[.string a1_0, .string a1_1] 78 (0, 0)) (bq BK292.out) hb); replace HB := am (below_step (bel1 GE292.out) hb); (try clear hb); (try clear hb2); (try clear hk); (try clear hi)))
  go_meet
  case rel => exact ⟨_, (true), sq, H', ⟨b15_⟩, ⟨bq BK292.out⟩, ⟨bel1 GE292.out⟩⟩
 case rest =>
  clear HC3; (try clear p2); (try clear c5); (try clear c6); (try clear hcz9_0); (try clear hcz9_1); (try clear hfz9_0); (try clear hfz9_1); obtain ⟨kq, x21_2, rfl, HA, HJ2, BK292, HB⟩ := hcut
  cases kq with
  | zero => exact absurd HA.out (by simp [impl_Forms.j0])
  | succ kj2 =>
   have H := HA.out; clear HA
   simp only [impl_Forms.j0] at H
   by_cases c12 : x21_2 = true
   ·subst c12
    have H1 : (some (([] : List ByteArray))) = some r := b8_
    replace H := H1; clear H1
    obtain ⟨y295, hy295⟩ : ∃ y_ : List ByteArray, y_ = (([] : List ByteArray)) := ⟨_, rfl⟩
    replace H : (some y295) = some r := by first | (rw [hy295]; with_reducible exact H) | (have H2_ := bm H; rw [hy295]; with_reducible exact H2_) | (with_reducible exact bm H) | with_reducible exact H | (rw [hy295]; exact H) | exact H
    have Ny295 := am hy295; clear hy295; obtain rfl := Option.some.inj H
    go_wp2_with (first | ((with_reducible refine gate_dst (N := 22) rfl ?_); refine Kd.R_lit Kd.string _ 9 ?hg (N := 22) ?hd (xs := ([] : List ByteArray)) (inner := []) (ok := fun _ => True) (okp := fun _ => True) ?hr ?hp (fun _ hk => hk) trivial (Below.refl _ _) (Nat.le_refl _) (by simp) ?_; (case hd => rfl); (case hg => rfl); (case hr => first | (go_simp; done) | (go_simp; rfl)); (case hp => exact (Reps.none _ _)); intro v296 w13 ho14 hb hg_ hnew_; clear hg_ hnew_; (first | rw [← Ny295.out] at ho14 | (simp only [Int.reduceToNat] at ho14; rw [← Ny295.out] at ho14) | (simp only [Int.toNat_natCast] at ho14; rw [← Ny295.out] at ho14)); have HO297 := am (Kd.R_lower ho14 (below_size (bel1 GE292.out))); replace BK292 := am (blk_below (g := gb292) (o := .cells #[.string a1_0, .string a1_1] 78 (0, 0)) (bq BK292.out) hb); replace HB := am (below_step (bel1 GE292.out) hb); clear hb ho14))
    go_ret
    exact ⟨_, eq_, by (with_reducible repeat (first | apply Kd.R_alloc | apply Kd.R_drewN | apply Kd.R_drew)); exact HO297.out, bel1 GE292.out⟩
   replace c12 := Bool.eq_false_iff.mpr c12; subst c12
   have H1 : ((some (([false, true] : List Bool) : List Bool)).bind fun y301 => (impl_Forms.l0 kj2 l0 (([a1_0] : List ByteArray)) y301 (y301.length : Int) 0 a1_0 a1_1)) = some r := b2_
   replace H := H1; clear H1
   obtain ⟨y298, hy298⟩ : ∃ y_ : List ByteArray, y_ = (([a1_0] : List ByteArray)) := ⟨_, rfl⟩
   replace H : ((some (([false, true] : List Bool) : List Bool)).bind fun y301 => (impl_Forms.l0 kj2 l0 y298 y301 (y301.length : Int) 0 a1_0 a1_1)) = some r := by first | (rw [hy298]; with_reducible exact H) | (have H2_ := bm H; rw [hy298]; with_reducible exact H2_) | (with_reducible exact bm H) | with_reducible exact H | (rw [hy298]; exact H) | exact H
   have Ny298 := am hy298; clear hy298; obtain ⟨y301, hy301⟩ : ∃ y_ : List Bool, y_ = (([false, true] : List Bool)) := ⟨_, rfl⟩
   replace H : (impl_Forms.l0 kj2 l0 y298 y301 (y301.length : Int) 0 a1_0 a1_1) = some r := by first | (rw [hy301]; with_reducible exact H) | (have H2_ := bm H; rw [hy301]; with_reducible exact H2_) | (with_reducible exact bm H) | with_reducible exact H | (rw [hy301]; exact H) | exact H
   have Ny301 := am hy301; clear hy301
   have H' := am H
   clear H; have hcz15_0 := bc BK292.out 0; have hcz15_1 := bc BK292.out 1; have hfz15_0 := bf BK292.out 0; have hfz15_1 := bf BK292.out 1
   go_wp2_with (first | ((with_reducible refine gate_dst (N := 25) rfl ?_); refine Kd.R_lit Kd.string _ 9 ?hg (N := 25) ?hd (xs := ([a1_0] : List ByteArray)) (inner := [.string a1_0]) (ok := fun _ => True) (okp := fun _ => True) ?hr ?hp (fun _ hk => hk) trivial (Below.refl _ _) (Nat.le_refl _) (by simp) ?_; (case hd => rfl); (case hg => rfl); (case hr => first | (go_simp; done) | (go_simp; rfl)); (case hp => exact (Reps.one (show Kd.M Kd.string _ _ _ a1_0 [.string a1_0] from rfl) (Reps.none _ _))); intro v299 w16 ho17 hb hg_ hnew_; clear hg_ hnew_; (first | rw [← Ny298.out] at ho17 | (simp only [Int.reduceToNat] at ho17; rw [← Ny298.out] at ho17) | (simp only [Int.toNat_natCast] at ho17; rw [← Ny298.out] at ho17)); have HO300 := am (Kd.R_lower ho17 (below_size (bel1 GE292.out))); replace BK292 := am (blk_below (g := gb292) (o := .cells #[.string a1_0, .string a1_1] 78 (0, 0)) (bq BK292.out) hb); replace HB := am (below_step (bel1 GE292.out) hb); clear hb ho17) | ((with_reducible refine gate_dst (N := 26) rfl ?_); refine Kd.R_lit Kd.bool _ 4 ?hg (N := 26) ?hd (xs := ([false, true] : List Bool)) (inner := [.bool false, .bool true]) (ok := fun _ => True) (okp := fun _ => True) ?hr ?hp (fun _ hk => hk) trivial (Below.refl _ _) (Nat.le_refl _) (by simp) ?_; (case hd => rfl); (case hg => rfl); (case hr => first | (go_simp; done) | (go_simp; rfl)); (case hp => exact (Reps.one (show Kd.M Kd.bool _ _ _ false [.bool false] from rfl) (Reps.one (show Kd.M Kd.bool _ _ _ true [.bool true] from rfl) (Reps.none _ _)))); intro v302 w18 ho19 hb hg_ hnew_; clear hg_ hnew_; (first | rw [← Ny301.out] at ho19 | (simp only [Int.reduceToNat] at ho19; rw [← Ny301.out] at ho19) | (simp only [Int.toNat_natCast] at ho19; rw [← Ny301.out] at ho19)); replace HO300 := am (Kd.R_below (rq HO300.out) hb); have HO303 := am (Kd.R_lower ho19 (below_size (bel1 GE292.out))); replace BK292 := am (blk_below (g := gb292) (o := .cells #[.string a1_0, .string a1_1] 78 (0, 0)) (bq BK292.out) hb); replace HB := am (below_step (bel1 GE292.out) hb); clear hb ho19; obtain ⟨Ao20, co20, eo20⟩ := Kd.R_slice HO303.out; subst eo20))
   go_loopg [5, 28] kj2 (fun kq v5 v28 w' => ∃ (x5_2 : List ByteArray) (x28_2 : Int), v28 = .int .i64 x28_2 ∧ Aside0 (impl_Forms.l0 kq l0 x5_2 y301 (y301.length : Int) x28_2 a1_0 a1_1 = some r) ∧ Aside0 (kq ≤ kj2) ∧ Aside0 (Kd.R Kd.string 9 w' w.heap.size (fun _ => True) v5 x5_2) ∧ Aside0 (Kd.R Kd.bool 4 w' w.heap.size (fun _ => True) (.slice Ao20 y301.length co20) y301) ∧ Aside0 (w'.heap[gb292]? = some (.cells #[.string a1_0, .string a1_1] 78 (0, 0))) ∧ Aside0 (Below w.heap.size w w'))
   case atStart => exact ⟨(y298), (0), sq, H', ⟨Nat.le_refl _⟩, ⟨rq HO300.out⟩, ⟨rq HO303.out⟩, ⟨bq BK292.out⟩, ⟨bel1 GE292.out⟩⟩
   case round =>
    clear H'; (try clear c1); (try clear p2); (try clear c5); (try clear c6); (try clear c12); (try clear hcz15_0); (try clear hcz15_1); (try clear hcz9_0); (try clear hcz9_1); (try clear hfz15_0); (try clear hfz15_1); (try clear hfz9_0); (try clear hfz9_1); (try clear p2); obtain ⟨x5_2, x28_2, rfl, HA, HK2, HO_5, HO_26, BK292, HB⟩ := hrel
    cases gk with
    | zero => exact absurd HA.out (by simp [impl_Forms.l0])
    | succ k2 =>
     have H := HA.out; clear HA
     simp only [impl_Forms.l0] at H
     by_cases c21 : x28_2 < (y301.length : Int)
     ·rw [if_pos c21] at H; have c21b0 := decide_eq_true c21; clear c21
      replace H := it H; obtain ⟨c22b0, H⟩ := H
      replace H := it H; obtain ⟨c23b0, H⟩ := H; obtain ⟨y308, hy308⟩ : ∃ y_ : List ByteArray, y_ = (([] : List ByteArray)) := ⟨_, rfl⟩
      replace H : (if y308.length + x5_2.length < 8796093022208 then ((some (y308 ++ x5_2 : List ByteArray)).bind fun y311 => (impl_Forms.l1 k2 l0 x5_2 (rdOf false y301 x28_2) y301 (y301.length : Int) x28_2 y311 (y311.length : Int) 0 a1_0 a1_1)) else (none)) = some r := by first | (rw [hy308]; with_reducible exact H) | (have H2_ := bm H; rw [hy308]; with_reducible exact H2_) | (with_reducible exact bm H) | with_reducible exact H | (rw [hy308]; exact H) | exact H
      have Ny308 := am hy308; clear hy308
      replace H := ip H; obtain ⟨c24, H⟩ := H; have LMc24 := Aside0.mk c24; clear c24; obtain ⟨y311, hy311⟩ : ∃ y_ : List ByteArray, y_ = (y308 ++ x5_2) := ⟨_, rfl⟩
      replace H : (impl_Forms.l1 k2 l0 x5_2 (rdOf false y301 x28_2) y301 (y301.length : Int) x28_2 y311 (y311.length : Int) 0 a1_0 a1_1) = some r := by first | (rw [hy311]; with_reducible exact H) | (have H2_ := bm H; rw [hy311]; with_reducible exact H2_) | (with_reducible exact bm H) | with_reducible exact H | (rw [hy311]; exact H) | exact H
      have Ny311 := am hy311; clear hy311
      have H' := am H
      clear H
      have p307 : 0 ≤ (x28_2 : Int) := of_decide_eq_true ad
      have q307 : x28_2 < (y301.length : Int) := of_decide_eq_true ad
      obtain ⟨ad307, e307, hx307_0⟩ := Kd.at_bool (Kd.R_reads' HO_26.out).2.2 x28_2 p307 q307
      cases e307
      replace p307 := eq_true p307; replace q307 := eq_true q307
      go_wp2_with (first | ((with_reducible refine gate_dst (N := 32) rfl ?_); refine Kd.R_lit Kd.string _ 9 ?hg (N := 32) ?hd (xs := ([] : List ByteArray)) (inner := []) (ok := fun _ => True) (okp := fun _ => True) ?hr ?hp (fun _ hk => hk) trivial (Below.refl _ _) (Nat.le_refl _) (by simp) ?_; (case hd => rfl); (case hg => rfl); (case hr => first | (go_simp; done) | (go_simp; rfl)); (case hp => exact (Reps.none _ _)); intro v309 w25 ho26 hb hg_ hnew_; clear hg_ hnew_; (first | rw [← Ny308.out] at ho26 | (simp only [Int.reduceToNat] at ho26; rw [← Ny308.out] at ho26) | (simp only [Int.toNat_natCast] at ho26; rw [← Ny308.out] at ho26)); replace HO_26 := am (Kd.R_below (rq HO_26.out) hb); have HO310 := am (Kd.R_lower (Kd.R_new' ho26 (Kd.R_lt (rq HO_5.out))) (below_size (bel1 GE292.out))); replace HO_5 := am (Kd.R_elder' (rq HO_5.out) (Kd.R_base ho26) hb); replace BK292 := am (blk_below (g := gb292) (o := .cells #[.string a1_0, .string a1_1] 78 (0, 0)) (bq BK292.out) hb); replace HB := am (below_step (bel1 GE292.out) hb); clear hb ho26; obtain ⟨Ao28, co28, eo28⟩ := Kd.R_slice HO_5.out; subst eo28) | ((with_reducible refine gate_builtin (b := .append) (xs := #[.tmp 32, .tmp 33]) rfl ?_); at_builtin; refine Kd.R_append_rows Kd.string (w0 := w) w.heap.size rfl (.tmp 32) (.tmp 33) 49 9 (.string ⟨#[]⟩) 16 rfl Tryz.underlying49 info9 rfl (by decide) (by omega) v309 y308 x5_2 _ _ _ (fun k_ => some k_ ≠ (.slice Ao28 x5_2.length co28 : Value).ownBlock) (fun _ => False) rfl rfl ?aO ?aR (fun _ _ h => h) (fun _ h => h.elim) ?aF ?aB ?aS ?aL ?_; (case aR => exact cq (Kd.R_reads' HO_5.out).2.2); (case aB => exact (bel1 GE292.out)); (case aF => exact (fun k_ hk => Kd.fresh' (Kd.R_lt (rq HO_5.out)) k_ hk)); (case aO => exact (rq (Kd.R_mono HO310.out (fun _ hk => hk.2)))); (case aS => exact (below_size (bel1 GE292.out))); (case aL => have := LMc24.out; omega); intro v312 w27 ho hb hg hat; rw [← Ny311.out] at ho; replace HO_5 := am (Kd.R_after (ok := (fun _ => True)) (rq HO_5.out) hg hat); replace HO_26 := am (Kd.R_over' (rq HO_26.out) (Kd.R_typed (rq HO310.out)) (by decide) hg); replace BK292 := am (blk_grown (g := gb292) (o := .cells #[.string a1_0, .string a1_1] 78 (0, 0)) (bq BK292.out) hg (Kd.R_ne HO310.out BK292.out (by decide))); replace HB := am (hb); have HO313 := am (ho); clear HO310; clear ho hb hg hat; obtain ⟨Ao29, co29, eo29⟩ := Kd.R_slice HO313.out; subst eo29))
      go_loopg [5, 36] k2 (fun kq v5 v36 w' => ∃ (x5_3 : List ByteArray) (x36_3 : Int), v36 = .int .i64 x36_3 ∧ Aside0 (impl_Forms.l1 kq l0 x5_3 (rdOf false y301 x28_2) y301 (y301.length : Int) x28_2 y311 (y311.length : Int) x36_3 a1_0 a1_1 = some r) ∧ Aside0 (kq ≤ k2) ∧ Aside0 (Kd.R Kd.string 9 w' w.heap.size (fun k_ => some k_ ≠ ((.slice Ao29 y311.length co29) : Value).ownBlock) v5 x5_3) ∧ Aside0 (Kd.R Kd.bool 4 w' w.heap.size (fun _ => True) (.slice (some ad307) y301.length co20) y301) ∧ Aside0 (Kd.R Kd.string 9 w' w.heap.size (fun k_ => some k_ ≠ (v5 : Value).ownBlock) (.slice Ao29 y311.length co29) y311) ∧ Aside0 (w'.heap[gb292]? = some (.cells #[.string a1_0, .string a1_1] 78 (0, 0))) ∧ Aside0 (Below w.heap.size w w'))
      case atStart => exact ⟨(x5_2), (0), sq, H', ⟨Nat.le_refl _⟩, ⟨rq (Kd.R_mono HO_5.out (fun _ hk => hk.2))⟩, ⟨rq HO_26.out⟩, ⟨rq HO313.out⟩, ⟨bq BK292.out⟩, ⟨bel1 GE292.out⟩⟩
      case round =>
       clear H'; (try clear c1); (try clear c2); (try clear p2); (try clear p3); (try clear q3); (try clear hx3); (try clear c5); (try clear c6); (try clear c12); (try clear c21); (try clear c21b0); (try clear c22); (try clear c22b0); (try clear c23); (try clear c23b0); (try clear c24); (try clear hcz15_0); (try clear hcz15_1); (try clear hcz9_0); (try clear hcz9_1); (try clear hfz15_0); (try clear hfz15_1); (try clear hfz9_0); (try clear hfz9_1); (try clear hx307_0); (try clear p2); (try clear p307); (try clear q307); obtain ⟨x5_3, x36_3, rfl, HA, HK3, HO_5, HO_26, HO_34, BK292, HB⟩ := hrel
       cases gk with
       | zero => exact absurd HA.out (by simp [impl_Forms.l1])
       | succ k3 =>
        have H := HA.out; clear HA
        simp only [impl_Forms.l1] at H
        by_cases c30 : x36_3 < (y311.length : Int)
        ·rw [if_pos c30] at H; have c30b0 := decide_eq_true c30; clear c30
         replace H := it H; obtain ⟨c31b0, H⟩ := H
         replace H := it H; obtain ⟨c32b0, H⟩ := H
         have H' := am H
         clear H
         have p314 : 0 ≤ (x36_3 : Int) := of_decide_eq_true ad
         have q314 : x36_3 < (y311.length : Int) := of_decide_eq_true ad
         obtain ⟨ad314, e314, hx314_0⟩ := Kd.at_string (Kd.R_reads' HO_34.out).2.2 x36_3 p314 q314
         cases e314
         replace p314 := eq_true p314; replace q314 := eq_true q314; go_wp2
         go_loopg [5, 42] k3 (fun kq v5 v42 w' => ∃ (x5_4 : List ByteArray) (x42_4 : Int), v42 = .int .i64 x42_4 ∧ Aside0 (impl_Forms.l2 kq l0 x5_4 (rdOf false y301 x28_2) (rdOf ByteArray.empty y311 x36_3) y301 (y301.length : Int) x28_2 y311 (y311.length : Int) x36_3 l0 (l0.length : Int) x42_4 a1_0 a1_1 = some r) ∧ Aside0 (kq ≤ k3) ∧ Aside0 (Kd.R Kd.string 9 w' w.heap.size (fun k_ => some k_ ≠ ((.slice (some ad314) y311.length co29) : Value).ownBlock) v5 x5_4) ∧ Aside0 (Kd.R Kd.bool 4 w' w.heap.size (fun _ => True) (.slice (some ad307) y301.length co20) y301) ∧ Aside0 (Kd.R Kd.string 9 w' w.heap.size (fun k_ => some k_ ≠ (v5 : Value).ownBlock) (.slice (some ad314) y311.length co29) y311) ∧ Aside0 (w'.heap[gb292]? = some (.cells #[.string a1_0, .string a1_1] 78 (0, 0))) ∧ Aside0 (Below w.heap.size w w'))
         case atStart => exact ⟨(x5_3), (0), sq, H', ⟨Nat.le_refl _⟩, ⟨rq HO_5.out⟩, ⟨rq HO_26.out⟩, ⟨rq HO_34.out⟩, ⟨bq BK292.out⟩, ⟨bel1 GE292.out⟩⟩
         case round =>
          clear H'; (try clear c1); (try clear c2); (try clear p2); (try clear c3); (try clear p3); (try clear q3); (try clear hx3); (try clear c5); (try clear c6); (try clear c12); (try clear c21); (try clear c21b0); (try clear c22); (try clear c22b0); (try clear c23); (try clear c23b0); (try clear c24); (try clear c30); (try clear c30b0); (try clear p30); (try clear q30); (try clear hx30); (try clear c31); (try clear c31b0); (try clear p31); (try clear q31); (try clear hx31); (try clear c32); (try clear c32b0); (try clear hcz15_0); (try clear hcz15_1); (try clear hcz9_0); (try clear hcz9_1); (try clear hfz15_0); (try clear hfz15_1); (try clear hfz9_0); (try clear hfz9_1); (try clear hx307_0); (try clear hx314_0); (try clear p2); (try clear p3); (try clear p307); (try clear p314); (try clear q3); (try clear q307); (try clear q314); obtain ⟨x5_4, x42_4, rfl, HA, HK4, HO_5, HO_26, HO_34, BK292, HB⟩ := hrel
          cases gk with
          | zero => exact absurd HA.out (by simp [impl_Forms.l2])
          | succ k4 =>
           have H := HA.out; clear HA
           simp only [impl_Forms.l2] at H
           by_cases c33 : x42_4 < (l0.length : Int)
           ·rw [if_pos c33] at H; have c33b0 := decide_eq_true c33; clear c33
            replace H := it H; obtain ⟨c34b0, H⟩ := H
            replace H := it H; obtain ⟨c35b0, H⟩ := H; have HC36 := am H; clear H
            have p315 : 0 ≤ (x42_4 : Int) := of_decide_eq_true ad
            have q315 : x42_4 < (l0.length : Int) := of_decide_eq_true ad
            obtain ⟨ad315, e315, hx315_0, hx315_1, hx315_2, hx315_3, hx315_4⟩ := at_T82 HR0.out x42_4 p315 q315
            cases e315
            replace hx315_0 := kp HB.out hx315_0; replace hx315_1 := kp HB.out hx315_1; replace hx315_2 := kp HB.out hx315_2; replace hx315_3 := kp HB.out hx315_3; replace hx315_4 := kp HB.out hx315_4; replace p315 := eq_true p315; replace q315 := eq_true q315
            go_upto_region 13 with (first | ((with_reducible refine gate_dst (N := 11) rfl ?_); refine bx 11 (cs := #[.string (⟨#[]⟩ : ByteArray), .bool false, .string (⟨#[]⟩ : ByteArray), .string (⟨#[]⟩ : ByteArray), .string (⟨#[]⟩ : ByteArray)]) (t := 82) ?_; intro gb316 hg w37 hbox hb; replace HO_5 := am (Kd.R_below (rq HO_5.out) hb); replace HO_26 := am (Kd.R_below (rq HO_26.out) hb); replace HO_34 := am (Kd.R_below (rq HO_34.out) hb); have BK316 := am (hbox); have GW316 := am ((by rw [hg]; exact (below_size (bel1 GE292.out)) : w.heap.size ≤ gb316)); have GE316 := am ((by rw [hg]; exact (below_size (bel1 GE292.out)) : w.heap.size ≤ gb316)); replace HB := am (below_step (bel1 GE292.out) hb); have NB292_316 := am ((by rw [hg]; exact Nat.ne_of_lt (blk_lt (g := gb292) (o := .cells #[.string a1_0, .string a1_1] 78 (0, 0)) (bq BK292.out)) : gb292 ≠ gb316)); have NB316_292 := am ((by rw [hg]; exact Nat.ne_of_gt (blk_lt (g := gb292) (o := .cells #[.string a1_0, .string a1_1] 78 (0, 0)) (bq BK292.out)) : gb316 ≠ gb292)); replace BK292 := am (blk_below (g := gb292) (o := .cells #[.string a1_0, .string a1_1] 78 (0, 0)) (bq BK292.out) hb); clear hb hbox hg; have hnb38 := NB316_292.out; have hnc38 := NB292_316.out; have hcz39_0 := bc BK316.out 0; have hcz39_1 := bc BK316.out 1; have hcz39_2 := bc BK316.out 2; have hcz39_3 := bc BK316.out 3; have hcz39_4 := bc BK316.out 4; have hfz39_0 := bf BK316.out 0; have hfz39_1 := bf BK316.out 1; have hfz39_2 := bf BK316.out 2; have hfz39_3 := bf BK316.out 3; have hfz39_4 := bf BK316.out 4))
            (try simp only [Act.put, List.setIfInBounds_toArray, List.set_cons_zero, List.set_cons_succ])
            go_cut [57] (fun v57 wc => ∃ (kq : Nat) (x57_35 : Bool), v57 = .bool x57_35 ∧ Aside0 (impl_Forms.j4 kq l0 x5_4 (rdOf false y301 x28_2) (rdOf ByteArray.empty y311 x36_3) y301 (y301.length : Int) x28_2 y311 (y311.length : Int) x36_3 l0 (l0.length : Int) x42_4 x57_35 a1_0 a1_1 ((rd_T82 l0 x42_4).f0) ((rd_T82 l0 x42_4).f1) ((rd_T82 l0 x42_4).f2) ((rd_T82 l0 x42_4).f3) ((rd_T82 l0 x42_4).f4) = some r) ∧ Aside0 (kq ≤ k4) ∧ Aside0 (Kd.R Kd.string 9 wc w.heap.size (fun k_ => some k_ ≠ ((.slice (some ad314) y311.length co29) : Value).ownBlock) u5 x5_4) ∧ Aside0 (Kd.R Kd.bool 4 wc w.heap.size (fun _ => True) (.slice (some ad307) y301.length co20) y301) ∧ Aside0 (Kd.R Kd.string 9 wc w.heap.size (fun k_ => some k_ ≠ (u5 : Value).ownBlock) (.slice (some ad314) y311.length co29) y311) ∧ Aside0 (wc.heap[gb292]? = some (.cells #[.string a1_0, .string a1_1] 78 (0, 0))) ∧ Aside0 (wc.heap[gb316]? = some (.cells #[.string ((rd_T82 l0 x42_4).f0), .bool ((rd_T82 l0 x42_4).f1), .string ((rd_T82 l0 x42_4).f2), .string ((rd_T82 l0 x42_4).f3), .string ((rd_T82 l0 x42_4).f4)] 82 (0, 0))) ∧ Aside0 (Below w.heap.size w wc))
            case first =>
             have H := HC36.out; clear HC36
             by_cases c40 : (((rd_T82 l0 x42_4).f1) != (rdOf false y301 x28_2)) = true
             ·rw [if_pos c40] at H
              have c40b0 : (((rd_T82 l0 x42_4).f1) != (rdOf false y301 x28_2)) = true := c40
              (try (have c40b1 : decide (((rd_T82 l0 x42_4).f1) = (rdOf false y301 x28_2)) = false := by simpa using c40))
              (try (have c40b2 : (((rd_T82 l0 x42_4).f1) == (rdOf false y301 x28_2)) = false := by simpa using c40))
              (try (have c40b3 : ¬ (((rd_T82 l0 x42_4).f1) = (rdOf false y301 x28_2)) := by simpa using c40))
              clear c40
              (first | rw [c40b0] | (simp only [i64_w, i32_w]; rw [c40b0]) | skip)
              have H' := am H
              clear H; have hnb41 := NB316_292.out; have hnc41 := NB292_316.out; have hcz42_0 := bc BK316.out 0; have hcz42_1 := bc BK316.out 1; have hcz42_2 := bc BK316.out 2; have hcz42_3 := bc BK316.out 3; have hcz42_4 := bc BK316.out 4; have hfz42_0 := bf BK316.out 0; have hfz42_1 := bf BK316.out 1; have hfz42_2 := bf BK316.out 2; have hfz42_3 := bf BK316.out 3; have hfz42_4 := bf BK316.out 4; go_wp2
              go_meet
              case rel => exact ⟨_, (true), sq, H', ⟨by have := HJ2.out; have := HK2.out; have := HK3.out; have := HK4.out; first | omega | exact Nat.le_refl _⟩, ⟨rq (Kd.R_mono (Kd.R_far (p := ⟨gb316, 4, none⟩) (Kd.R_far (p := ⟨gb316, 3, none⟩) (Kd.R_far (p := ⟨gb316, 2, none⟩) (Kd.R_far (p := ⟨gb316, 1, none⟩) (Kd.R_far (p := ⟨gb316, 0, none⟩) (Kd.R_types HO_5.out BK316.out (by decide)) (fun _ hk => hk.2) (.string ((rd_T82 l0 x42_4).f0))) (fun _ hk => hk.2) (.bool ((rd_T82 l0 x42_4).f1))) (fun _ hk => hk.2) (.string ((rd_T82 l0 x42_4).f2))) (fun _ hk => hk.2) (.string ((rd_T82 l0 x42_4).f3))) (fun _ hk => hk.2) (.string ((rd_T82 l0 x42_4).f4))) (fun _ hk => hk.1))⟩, ⟨rq (Kd.R_mono (Kd.R_far (p := ⟨gb316, 4, none⟩) (Kd.R_far (p := ⟨gb316, 3, none⟩) (Kd.R_far (p := ⟨gb316, 2, none⟩) (Kd.R_far (p := ⟨gb316, 1, none⟩) (Kd.R_far (p := ⟨gb316, 0, none⟩) (Kd.R_types HO_26.out BK316.out (by decide)) (fun _ hk => hk.2) (.string ((rd_T82 l0 x42_4).f0))) (fun _ hk => hk.2) (.bool ((rd_T82 l0 x42_4).f1))) (fun _ hk => hk.2) (.string ((rd_T82 l0 x42_4).f2))) (fun _ hk => hk.2) (.string ((rd_T82 l0 x42_4).f3))) (fun _ hk => hk.2) (.string ((rd_T82 l0 x42_4).f4))) (fun _ hk => trivial))⟩, ⟨rq (Kd.R_mono (Kd.R_far (p := ⟨gb316, 4, none⟩) (Kd.R_far (p := ⟨gb316, 3, none⟩) (Kd.R_far (p := ⟨gb316, 2, none⟩) (Kd.R_far (p := ⟨gb316, 1, none⟩) (Kd.R_far (p := ⟨gb316, 0, none⟩) (Kd.R_types HO_34.out BK316.out (by decide)) (fun _ hk => hk.2) (.string ((rd_T82 l0 x42_4).f0))) (fun _ hk => hk.2) (.bool ((rd_T82 l0 x42_4).f1))) (fun _ hk => hk.2) (.string ((rd_T82 l0 x42_4).f2))) (fun _ hk => hk.2) (.string ((rd_T82 l0 x42_4).f3))) (fun _ hk => hk.2) (.string ((rd_T82 l0 x42_4).f4))) (fun _ hk => hk.1))⟩, ⟨b9_⟩, ⟨b4_⟩, ⟨bel2 GE292.out GE316.out⟩⟩
             rw [if_neg c40] at H
             have c40b0 : (((rd_T82 l0 x42_4).f1) != (rdOf false y301 x28_2)) = false := by simpa using c40
             (try (have c40b1 : decide (((rd_T82 l0 x42_4).f1) = (rdOf false y301 x28_2)) = true := by simpa using c40))
             (try (have c40b2 : (((rd_T82 l0 x42_4).f1) == (rdOf false y301 x28_2)) = true := by simpa using c40))
             clear c40
             (first | rw [c40b0] | (simp only [i64_w, i32_w]; rw [c40b0]) | skip)
             replace H := bs H; obtain ⟨t317, A430, H⟩ := H; replace H : (impl_Forms.j4 k4 l0 x5_4 (rdOf false y301 x28_2) (rdOf ByteArray.empty y311 x36_3) y301 (y301.length : Int) x28_2 y311 (y311.length : Int) x36_3 l0 (l0.length : Int) x42_4 (!t317) a1_0 a1_1 ((rd_T82 l0 x42_4).f0) ((rd_T82 l0 x42_4).f1) ((rd_T82 l0 x42_4).f2) ((rd_T82 l0 x42_4).f3) ((rd_T82 l0 x42_4).f4)) = some r := H; have A43 := Aside0.mk A430; clear A430
             have H' := am H
             clear H; have hnb44 := NB316_292.out; have hnc44 := NB292_316.out; have hcz45_0 := bc BK316.out 0; have hcz45_1 := bc BK316.out 1; have hcz45_2 := bc BK316.out 2; have hcz45_3 := bc BK316.out 3; have hcz45_4 := bc BK316.out 4; have hfz45_0 := bf BK316.out 0; have hfz45_1 := bf BK316.out 1; have hfz45_2 := bf BK316.out 2; have hfz45_3 := bf BK316.out 3; have hfz45_4 := bf BK316.out 4; have hcz46_0 := bc BK292.out 0; have hcz46_1 := bc BK292.out 1; have hfz46_0 := bf BK292.out 0; have hfz46_1 := bf BK292.out 1
             go_wp2_with (first | (go_at_call 77; (with_reducible refine (strings_Contains.calls a1_1 ((rd_T82 l0 x42_4).f0) t317 _ A43.out).mono ?_); rintro e w' ⟨rfl, ⟨nd, rfl⟩⟩))
             go_meet
             case rel => exact ⟨_, (!t317), sq, H', ⟨by have := HJ2.out; have := HK2.out; have := HK3.out; have := HK4.out; first | omega | exact Nat.le_refl _⟩, ⟨rq (Kd.R_mono (Kd.R_far (p := ⟨gb316, 4, none⟩) (Kd.R_far (p := ⟨gb316, 3, none⟩) (Kd.R_far (p := ⟨gb316, 2, none⟩) (Kd.R_far (p := ⟨gb316, 1, none⟩) (Kd.R_far (p := ⟨gb316, 0, none⟩) (Kd.R_types HO_5.out BK316.out (by decide)) (fun _ hk => hk.2) (.string ((rd_T82 l0 x42_4).f0))) (fun _ hk => hk.2) (.bool ((rd_T82 l0 x42_4).f1))) (fun _ hk => hk.2) (.string ((rd_T82 l0 x42_4).f2))) (fun _ hk => hk.2) (.string ((rd_T82 l0 x42_4).f3))) (fun _ hk => hk.2) (.string ((rd_T82 l0 x42_4).f4))) (fun _ hk => hk.1))⟩, ⟨rq (Kd.R_mono (Kd.R_far (p := ⟨gb316, 4, none⟩) (Kd.R_far (p := ⟨gb316, 3, none⟩) (Kd.R_far (p := ⟨gb316, 2, none⟩) (Kd.R_far (p := ⟨gb316, 1, none⟩) (Kd.R_far (p := ⟨gb316, 0, none⟩) (Kd.R_types HO_26.out BK316.out (by decide)) (fun _ hk => hk.2) (.string ((rd_T82 l0 x42_4).f0))) (fun _ hk => hk.2) (.bool ((rd_T82 l0 x42_4).f1))) (fun _ hk => hk.2) (.string ((rd_T82 l0 x42_4).f2))) (fun _ hk => hk.2) (.string ((rd_T82 l0 x42_4).f3))) (fun _ hk => hk.2) (.string ((rd_T82 l0 x42_4).f4))) (fun _ hk => trivial))⟩, ⟨rq (Kd.R_mono (Kd.R_far (p := ⟨gb316, 4, none⟩) (Kd.R_far (p := ⟨gb316, 3, none⟩) (Kd.R_far (p := ⟨gb316, 2, none⟩) (Kd.R_far (p := ⟨gb316, 1, none⟩) (Kd.R_far (p := ⟨gb316, 0, none⟩) (Kd.R_types HO_34.out BK316.out (by decide)) (fun _ hk => hk.2) (.string ((rd_T82 l0 x42_4).f0))) (fun _ hk => hk.2) (.bool ((rd_T82 l0 x42_4).f1))) (fun _ hk => hk.2) (.string ((rd_T82 l0 x42_4).f2))) (fun _ hk => hk.2) (.string ((rd_T82 l0 x42_4).f3))) (fun _ hk => hk.2) (.string ((rd_T82 l0 x42_4).f4))) (fun _ hk => hk.1))⟩, ⟨b9_⟩, ⟨b4_⟩, ⟨bel2 GE292.out GE316.out⟩⟩
            case rest =>
             clear HC36; (try clear c1); (try clear c2); (try clear p2); (try clear c3); (try clear p3); (try clear q3); (try clear hx3); (try clear c4); (try clear c5); (try clear c6); (try clear c12); (try clear c21); (try clear c21b0); (try clear c22); (try clear c22b0); (try clear c23); (try clear c23b0); (try clear c24); (try clear c30); (try clear c30b0); (try clear p30); (try clear q30); (try clear hx30); (try clear c31); (try clear c31b0); (try clear p31); (try clear q31); (try clear hx31); (try clear c32); (try clear c32b0); (try clear c33); (try clear c33b0); (try clear c34); (try clear c34b0); (try clear c35); (try clear c35b0); (try clear c38); (try clear c40); (try clear c40b0); (try clear c40b1); (try clear c40b2); (try clear c41); (try clear c44); (try clear hcz15_0); (try clear hcz15_1); (try clear hcz39_0); (try clear hcz39_1); (try clear hcz39_2); (try clear hcz39_3); (try clear hcz39_4); (try clear hcz42_0); (try clear hcz42_1); (try clear hcz42_2); (try clear hcz42_3); (try clear hcz42_4); (try clear hcz45_0); (try clear hcz45_1); (try clear hcz45_2); (try clear hcz45_3); (try clear hcz45_4); (try clear hcz46_0); (try clear hcz46_1); (try clear hcz9_0); (try clear hcz9_1); (try clear hfz15_0); (try clear hfz15_1); (try clear hfz39_0); (try clear hfz39_1); (try clear hfz39_2); (try clear hfz39_3); (try clear hfz39_4); (try clear hfz42_0); (try clear hfz42_1); (try clear hfz42_2); (try clear hfz42_3); (try clear hfz42_4); (try clear hfz45_0); (try clear hfz45_1); (try clear hfz45_2); (try clear hfz45_3); (try clear hfz45_4); (try clear hfz46_0); (try clear hfz46_1); (try clear hfz9_0); (try clear hfz9_1); (try clear hx307_0); (try clear hx314_0); (try clear hx315_0); (try clear hx315_1); (try clear hx315_2); (try clear hx315_3); (try clear hx315_4); (try clear p2); (try clear p3); (try clear p30); (try clear p307); (try clear p31); (try clear p314); (try clear p315); (try clear q3); (try clear q30); (try clear q307); (try clear q31); (try clear q314); (try clear q315); obtain ⟨kq, x57_35, rfl, HA, HJ35, HO_5, HO_26, HO_34, BK292, BK316, HB⟩ := hcut
             cases kq with
             | zero => exact absurd HA.out (by simp [impl_Forms.j4])
             | succ kj35 =>
              have H := HA.out; clear HA
              simp only [impl_Forms.j4] at H
              by_cases c47 : x57_35 = true
              ·subst c47
               have H1 : (impl_Forms.l2 kj35 l0 x5_4 (rdOf false y301 x28_2) (rdOf ByteArray.empty y311 x36_3) y301 (y301.length : Int) x28_2 y311 (y311.length : Int) x36_3 l0 (l0.length : Int) (wrap64 (x42_4 + 1)) a1_0 a1_1) = some r := b8_
               replace H := H1; clear H1
               have H' := am H
               clear H; go_wp2
               go_roundg kj35
               case measure => have := HJ2.out; have := HK2.out; have := HK3.out; have := HK4.out; have := HJ35.out; omega
               case rel => exact ⟨(x5_4), (wrap64 (x42_4 + 1)), sq, H', ⟨by have := HJ2.out; have := HK2.out; have := HK3.out; have := HK4.out; have := HJ35.out; omega⟩, ⟨rq HO_5.out⟩, ⟨rq HO_26.out⟩, ⟨rq HO_34.out⟩, ⟨bq BK292.out⟩, ⟨bel2 GE292.out GE316.out⟩⟩
              replace c47 := Bool.eq_false_iff.mpr c47; subst c47
              have H1 : (if (rdOf false y301 x28_2) = true then (impl_Forms.j5 kj35 l0 x5_4 (rdOf false y301 x28_2) (rdOf ByteArray.empty y311 x36_3) y301 (y301.length : Int) x28_2 y311 (y311.length : Int) x36_3 l0 (l0.length : Int) x42_4 true a1_0 a1_1 ((rd_T82 l0 x42_4).f0) ((rd_T82 l0 x42_4).f1) ((rd_T82 l0 x42_4).f2) ((rd_T82 l0 x42_4).f3) ((rd_T82 l0 x42_4).f4)) else (impl_Forms.j5 kj35 l0 x5_4 (rdOf false y301 x28_2) (rdOf ByteArray.empty y311 x36_3) y301 (y301.length : Int) x28_2 y311 (y311.length : Int) x36_3 l0 (l0.length : Int) x42_4 ((rdOf ByteArray.empty y311 x36_3).toList == a1_0.toList) a1_0 a1_1 ((rd_T82 l0 x42_4).f0) ((rd_T82 l0 x42_4).f1) ((rd_T82 l0 x42_4).f2) ((rd_T82 l0 x42_4).f3) ((rd_T82 l0 x42_4).f4))) = some r := b2_
              replace H := H1; clear H1
              have HC48 := am H; clear H
              go_upto_region 14 with (fail)
              go_cut [64] (fun v64 wc => ∃ (kq : Nat) (x64_47 : Bool), v64 = .bool x64_47 ∧ Aside0 (impl_Forms.j5 kq l0 x5_4 (rdOf false y301 x28_2) (rdOf ByteArray.empty y311 x36_3) y301 (y301.length : Int) x28_2 y311 (y311.length : Int) x36_3 l0 (l0.length : Int) x42_4 x64_47 a1_0 a1_1 ((rd_T82 l0 x42_4).f0) ((rd_T82 l0 x42_4).f1) ((rd_T82 l0 x42_4).f2) ((rd_T82 l0 x42_4).f3) ((rd_T82 l0 x42_4).f4) = some r) ∧ Aside0 (kq ≤ kj35) ∧ Aside0 (Kd.R Kd.string 9 wc w.heap.size (fun k_ => some k_ ≠ ((.slice (some ad314) y311.length co29) : Value).ownBlock) u5 x5_4) ∧ Aside0 (Kd.R Kd.bool 4 wc w.heap.size (fun _ => True) (.slice (some ad307) y301.length co20) y301) ∧ Aside0 (Kd.R Kd.string 9 wc w.heap.size (fun k_ => some k_ ≠ (u5 : Value).ownBlock) (.slice (some ad314) y311.length co29) y311) ∧ Aside0 (wc.heap[gb292]? = some (.cells #[.string a1_0, .string a1_1] 78 (0, 0))) ∧ Aside0 (wc.heap[gb316]? = some (.cells #[.string ((rd_T82 l0 x42_4).f0), .bool ((rd_T82 l0 x42_4).f1), .string ((rd_T82 l0 x42_4).f2), .string ((rd_T82 l0 x42_4).f3), .string ((rd_T82 l0 x42_4).f4)] 82 (0, 0))) ∧ Aside0 (Below w.heap.size w wc))
              case first =>
               have H := HC48.out; clear HC48; obtain ⟨bq49, hbq49⟩ : ∃ b_ : Bool, b_ = (rdOf false y301 x28_2) := ⟨_, rfl⟩
               replace H : (if (bq49) = true then (impl_Forms.j5 kj35 l0 x5_4 (bq49) (rdOf ByteArray.empty y311 x36_3) y301 (y301.length : Int) x28_2 y311 (y311.length : Int) x36_3 l0 (l0.length : Int) x42_4 true a1_0 a1_1 ((rd_T82 l0 x42_4).f0) ((rd_T82 l0 x42_4).f1) ((rd_T82 l0 x42_4).f2) ((rd_T82 l0 x42_4).f3) ((rd_T82 l0 x42_4).f4)) else (impl_Forms.j5 kj35 l0 x5_4 (bq49) (rdOf ByteArray.empty y311 x36_3) y301 (y301.length : Int) x28_2 y311 (y311.length : Int) x36_3 l0 (l0.length : Int) x42_4 ((rdOf ByteArray.empty y311 x36_3).toList == a1_0.toList) a1_0 a1_1 ((rd_T82 l0 x42_4).f0) ((rd_T82 l0 x42_4).f1) ((rd_T82 l0 x42_4).f2) ((rd_T82 l0 x42_4).f3) ((rd_T82 l0 x42_4).f4))) = some r := by rw [← hbq49] at H; exact H
               have Nbq49 := am hbq49; clear hbq49
               (try rw [← Nbq49.out])
               by_cases c50 : (bq49) = true
               ·rw [if_pos c50] at H
                have c50b0 : (bq49) = true := c50
                have e7_ : rdOf false y301 x28_2 = true := Nbq49.out.symm.trans c50b0
                subst c50b0
                simp only [e7_] at *
                clear c50
                have H' := am H
                clear H; go_wp2
                go_meet
                case rel => exact ⟨_, (true), sq, H', ⟨by have := HJ2.out; have := HK2.out; have := HK3.out; have := HK4.out; have := HJ35.out; first | omega | exact Nat.le_refl _⟩, ⟨rq HO_5.out⟩, ⟨rq HO_26.out⟩, ⟨rq HO_34.out⟩, ⟨bq BK292.out⟩, ⟨bq BK316.out⟩, ⟨bel2 GE292.out GE316.out⟩⟩
               rw [if_neg c50] at H
               have c50b0 : (bq49) = false := by simpa using c50
               have e7_ : rdOf false y301 x28_2 = false := Nbq49.out.symm.trans c50b0
               subst c50b0
               simp only [e7_] at *
               clear c50
               have H' := am H
               clear H; have hnb51 := NB292_316.out; have hnc51 := NB316_292.out; have hcz52_0 := bc BK292.out 0; have hcz52_1 := bc BK292.out 1; have hfz52_0 := bf BK292.out 0; have hfz52_1 := bf BK292.out 1; go_wp2
               go_meet
               case rel => exact ⟨_, (((rdOf ByteArray.empty y311 x36_3).toList == a1_0.toList)), sq, H', ⟨by have := HJ2.out; have := HK2.out; have := HK3.out; have := HK4.out; have := HJ35.out; first | omega | exact Nat.le_refl _⟩, ⟨rq HO_5.out⟩, ⟨rq HO_26.out⟩, ⟨rq HO_34.out⟩, ⟨bq BK292.out⟩, ⟨bq BK316.out⟩, ⟨bel2 GE292.out GE316.out⟩⟩
              case rest =>
               clear HC48; (try clear c1); (try clear c2); (try clear p2); (try clear c3); (try clear p3); (try clear q3); (try clear hx3); (try clear c4); (try clear q4); (try clear c5); (try clear c6); (try clear p6); (try clear c12); (try clear c21); (try clear c21b0); (try clear c22); (try clear c22b0); (try clear c23); (try clear c23b0); (try clear c24); (try clear c30); (try clear c30b0); (try clear p30); (try clear q30); (try clear hx30); (try clear c31); (try clear c31b0); (try clear p31); (try clear q31); (try clear hx31); (try clear c32); (try clear c32b0); (try clear c33); (try clear c33b0); (try clear c34); (try clear c34b0); (try clear c35); (try clear c35b0); (try clear c38); (try clear c40); (try clear c40b0); (try clear c40b1); (try clear c40b2); (try clear c41); (try clear c44); (try clear c47); (try clear q49); (try clear c50); (try clear c50b0); (try clear c51); (try clear c52); (try clear hcz15_0); (try clear hcz15_1); (try clear hcz39_0); (try clear hcz39_1); (try clear hcz39_2); (try clear hcz39_3); (try clear hcz39_4); (try clear hcz42_0); (try clear hcz42_1); (try clear hcz42_2); (try clear hcz42_3); (try clear hcz42_4); (try clear hcz45_0); (try clear hcz45_1); (try clear hcz45_2); (try clear hcz45_3); (try clear hcz45_4); (try clear hcz46_0); (try clear hcz46_1); (try clear hcz52_0); (try clear hcz52_1); (try clear hcz9_0); (try clear hcz9_1); (try clear hfz15_0); (try clear hfz15_1); (try clear hfz39_0); (try clear hfz39_1); (try clear hfz39_2); (try clear hfz39_3); (try clear hfz39_4); (try clear hfz42_0); (try clear hfz42_1); (try clear hfz42_2); (try clear hfz42_3); (try clear hfz42_4); (try clear hfz45_0); (try clear hfz45_1); (try clear hfz45_2); (try clear hfz45_3); (try clear hfz45_4); (try clear hfz46_0); (try clear hfz46_1); (try clear hfz52_0); (try clear hfz52_1); (try clear hfz9_0); (try clear hfz9_1); (try clear hx307_0); (try clear hx314_0); (try clear hx315_0); (try clear hx315_1); (try clear hx315_2); (try clear hx315_3); (try clear hx315_4); (try clear p2); (try clear p3); (try clear p30); (try clear p307); (try clear p31); (try clear p314); (try clear p315); (try clear q3); (try clear q30); (try clear q307); (try clear q31); (try clear q314); (try clear q315); obtain ⟨kq, x64_47, rfl, HA, HJ47, HO_5, HO_26, HO_34, BK292, BK316, HB⟩ := hcut
               cases kq with
               | zero => exact absurd HA.out (by simp [impl_Forms.j5])
               | succ kj47 =>
                have H := HA.out; clear HA
                simp only [impl_Forms.j5] at H
                by_cases c53 : x64_47 = true
                ·subst c53
                 have H1 : ((impl_AffixDo.f kj47 ((rd_T82 l0 x42_4).f0) ((rd_T82 l0 x42_4).f1) ((rd_T82 l0 x42_4).f2) ((rd_T82 l0 x42_4).f3) ((rd_T82 l0 x42_4).f4) (rdOf ByteArray.empty y311 x36_3)).bind fun bt318 => (if bt318.2 = true then (if x5_4.length < 8796093022208 then (impl_Forms.l2 kj47 l0 (x5_4 ++ [bt318.1]) (rdOf false y301 x28_2) (rdOf ByteArray.empty y311 x36_3) y301 (y301.length : Int) x28_2 y311 (y311.length : Int) x36_3 l0 (l0.length : Int) (wrap64 (x42_4 + 1)) a1_0 a1_1) else (none)) else (impl_Forms.l2 kj47 l0 x5_4 (rdOf false y301 x28_2) (rdOf ByteArray.empty y311 x36_3) y301 (y301.length : Int) x28_2 y311 (y311.length : Int) x36_3 l0 (l0.length : Int) (wrap64 (x42_4 + 1)) a1_0 a1_1))) = some r := b8_
                 replace H := H1; clear H1
                 replace H := bs H; obtain ⟨⟨t318, t319⟩, A540, H⟩ := H; replace H : (if t319 = true then (if x5_4.length < 8796093022208 then (impl_Forms.l2 kj47 l0 (x5_4 ++ [t318]) (rdOf false y301 x28_2) (rdOf ByteArray.empty y311 x36_3) y301 (y301.length : Int) x28_2 y311 (y311.length : Int) x36_3 l0 (l0.length : Int) (wrap64 (x42_4 + 1)) a1_0 a1_1) else (none)) else (impl_Forms.l2 kj47 l0 x5_4 (rdOf false y301 x28_2) (rdOf ByteArray.empty y311 x36_3) y301 (y301.length : Int) x28_2 y311 (y311.length : Int) x36_3 l0 (l0.length : Int) (wrap64 (x42_4 + 1)) a1_0 a1_1)) = some r := H; have A54 := Aside0.mk A540; clear A540
                 by_cases c55 : t319 = true
                 ·subst c55
                  have H1 : (if x5_4.length < 8796093022208 then (impl_Forms.l2 kj47 l0 (x5_4 ++ [t318]) (rdOf false y301 x28_2) (rdOf ByteArray.empty y311 x36_3) y301 (y301.length : Int) x28_2 y311 (y311.length : Int) x36_3 l0 (l0.length : Int) (wrap64 (x42_4 + 1)) a1_0 a1_1) else (none)) = some r := b8_
                  replace H := H1; clear H1
                  replace H := ip H; obtain ⟨c56, H⟩ := H; have LMc56 := Aside0.mk c56; clear c56; obtain ⟨y320, hy320⟩ : ∃ y_ : List ByteArray, y_ = (x5_4 ++ [t318]) := ⟨_, rfl⟩
                  replace H : (impl_Forms.l2 kj47 l0 y320 (rdOf false y301 x28_2) (rdOf ByteArray.empty y311 x36_3) y301 (y301.length : Int) x28_2 y311 (y311.length : Int) x36_3 l0 (l0.length : Int) (wrap64 (x42_4 + 1)) a1_0 a1_1) = some r := by first | (rw [hy320]; with_reducible exact H) | (have H2_ := bm H; rw [hy320]; with_reducible exact H2_) | (with_reducible exact bm H) | with_reducible exact H | (rw [hy320]; exact H) | exact H
                  have Ny320 := am hy320; clear hy320
                  have H' := am H
                  clear H; have hnb57 := NB316_292.out; have hnc57 := NB292_316.out; have hcz58_0 := bc BK316.out 0; have hcz58_1 := bc BK316.out 1; have hcz58_2 := bc BK316.out 2; have hcz58_3 := bc BK316.out 3; have hcz58_4 := bc BK316.out 4; have hfz58_0 := bf BK316.out 0; have hfz58_1 := bf BK316.out 1; have hfz58_2 := bf BK316.out 2; have hfz58_3 := bf BK316.out 3; have hfz58_4 := bf BK316.out 4
                  go_wp2_with (first | ((with_reducible refine gate_callee (f := 78) rfl ?_); refine goesL_ (some 68) rfl rfl Tryz.func78 (by kernel_rfl) rfl #[.agg #[.string ((rd_T82 l0 x42_4).f0), .bool ((rd_T82 l0 x42_4).f1), .string ((rd_T82 l0 x42_4).f2), .string ((rd_T82 l0 x42_4).f3), .string ((rd_T82 l0 x42_4).f4)], .string (rdOf ByteArray.empty y311 x36_3)] rfl mq ?_; (with_reducible refine (impl_AffixDo.calls kj47 ((rd_T82 l0 x42_4).f0) ((rd_T82 l0 x42_4).f1) ((rd_T82 l0 x42_4).f2) ((rd_T82 l0 x42_4).f3) ((rd_T82 l0 x42_4).f4) (rdOf ByteArray.empty y311 x36_3) t318 true _ A54.out).mono ?_); rintro e w59 ⟨rfl, hb⟩; refine ⟨_, rfl, ?_⟩; replace HO_5 := am (Kd.R_below (rq HO_5.out) hb); replace HO_26 := am (Kd.R_below (rq HO_26.out) hb); replace HO_34 := am (Kd.R_below (rq HO_34.out) hb); replace BK292 := am (blk_below (g := gb292) (o := .cells #[.string a1_0, .string a1_1] 78 (0, 0)) (bq BK292.out) hb); replace BK316 := am (blk_below (g := gb316) (o := .cells #[.string ((rd_T82 l0 x42_4).f0), .bool ((rd_T82 l0 x42_4).f1), .string ((rd_T82 l0 x42_4).f2), .string ((rd_T82 l0 x42_4).f3), .string ((rd_T82 l0 x42_4).f4)] 82 (0, 0)) (bq BK316.out) hb); replace HB := am (below_step (bel2 GE292.out GE316.out) hb); (try clear hb); (try clear hb2); (try clear hk); (try clear hi)) | ((with_reducible refine gate_builtin (b := .append) (xs := #[.tmp 72, .tmp 74]) rfl ?_); at_builtin; refine Kd.R_append Kd.string (w0 := w) w.heap.size rfl (.tmp 72) (.tmp 74) 49 9 (.string ⟨#[]⟩) 16 rfl Tryz.underlying49 info9 rfl (by decide) (by omega) u5 x5_4 t318 [.string t318] (fun k_ => some k_ ≠ (.slice (some ad314) y311.length co29 : Value).ownBlock) (fun _ => False) rfl rfl ?aP (fun _ hk => hk.elim) ?aF ?aO ?aB ?aS ?aL ?_; (case aP => exact rfl); (case aB => exact (bel2 GE292.out GE316.out)); (case aF => exact (fun k_ hk => Kd.fresh' (Kd.R_lt (rq HO_34.out)) k_ hk)); (case aO => exact (rq HO_5.out)); (case aS => exact (below_size (bel2 GE292.out GE316.out))); (case aL => have := LMc56.out; omega); intro v321 w60 ho hb hg hat; rw [← Ny320.out] at ho; replace HO_26 := am (Kd.R_over' (rq HO_26.out) (Kd.R_typed (rq HO_5.out)) (by decide) hg); replace HO_34 := am (Kd.R_after (ok := (fun _ => True)) (rq (Kd.R_mono HO_34.out (fun _ hk => ⟨trivial, hk⟩))) hg hat); replace BK292 := am (blk_grown (g := gb292) (o := .cells #[.string a1_0, .string a1_1] 78 (0, 0)) (bq BK292.out) hg (Kd.R_ne HO_5.out BK292.out (by decide))); replace BK316 := am (blk_grown (g := gb316) (o := .cells #[.string ((rd_T82 l0 x42_4).f0), .bool ((rd_T82 l0 x42_4).f1), .string ((rd_T82 l0 x42_4).f2), .string ((rd_T82 l0 x42_4).f3), .string ((rd_T82 l0 x42_4).f4)] 82 (0, 0)) (bq BK316.out) hg (Kd.R_ne HO_5.out BK316.out (by decide))); replace HB := am (hb); have HO322 := am (ho); clear HO_5; clear ho hb hg hat))
                  go_roundg kj47
                  case measure => have := HJ2.out; have := HK2.out; have := HK3.out; have := HK4.out; have := HJ35.out; have := HJ47.out; omega
                  case rel => exact ⟨(y320), (wrap64 (x42_4 + 1)), sq, H', ⟨b30_⟩, ⟨rq HO322.out⟩, ⟨rq HO_26.out⟩, ⟨rq (Kd.R_mono HO_34.out (fun _ hk => hk.2))⟩, ⟨bq BK292.out⟩, ⟨bel2 GE292.out GE316.out⟩⟩
                 replace c55 := Bool.eq_false_iff.mpr c55; subst c55
                 have H1 : (impl_Forms.l2 kj47 l0 x5_4 (rdOf false y301 x28_2) (rdOf ByteArray.empty y311 x36_3) y301 (y301.length : Int) x28_2 y311 (y311.length : Int) x36_3 l0 (l0.length : Int) (wrap64 (x42_4 + 1)) a1_0 a1_1) = some r := b2_
                 replace H := H1; clear H1
                 have H' := am H
                 clear H; have hnb61 := NB316_292.out; have hnc61 := NB292_316.out; have hcz62_0 := bc BK316.out 0; have hcz62_1 := bc BK316.out 1; have hcz62_2 := bc BK316.out 2; have hcz62_3 := bc BK316.out 3; have hcz62_4 := bc BK316.out 4; have hfz62_0 := bf BK316.out 0; have hfz62_1 := bf BK316.out 1; have hfz62_2 := bf BK316.out 2; have hfz62_3 := bf BK316.out 3; have hfz62_4 := bf BK316.out 4
                 go_wp2_with (first | ((with_reducible refine gate_callee (f := 78) rfl ?_); refine goesL_ (some 68) rfl rfl Tryz.func78 (by kernel_rfl) rfl #[.agg #[.string ((rd_T82 l0 x42_4).f0), .bool ((rd_T82 l0 x42_4).f1), .string ((rd_T82 l0 x42_4).f2), .string ((rd_T82 l0 x42_4).f3), .string ((rd_T82 l0 x42_4).f4)], .string (rdOf ByteArray.empty y311 x36_3)] rfl mq ?_; (with_reducible refine (impl_AffixDo.calls kj47 ((rd_T82 l0 x42_4).f0) ((rd_T82 l0 x42_4).f1) ((rd_T82 l0 x42_4).f2) ((rd_T82 l0 x42_4).f3) ((rd_T82 l0 x42_4).f4) (rdOf ByteArray.empty y311 x36_3) t318 false _ A54.out).mono ?_); rintro e w63 ⟨rfl, hb⟩; refine ⟨_, rfl, ?_⟩; replace HO_5 := am (Kd.R_below (rq HO_5.out) hb); replace HO_26 := am (Kd.R_below (rq HO_26.out) hb); replace HO_34 := am (Kd.R_below (rq HO_34.out) hb); replace BK292 := am (blk_below (g := gb292) (o := .cells #[.string a1_0, .string a1_1] 78 (0, 0)) (bq BK292.out) hb); replace BK316 := am (blk_below (g := gb316) (o := .cells #[.string ((rd_T82 l0 x42_4).f0), .bool ((rd_T82 l0 x42_4).f1), .string ((rd_T82 l0 x42_4).f2), .string ((rd_T82 l0 x42_4).f3), .string ((rd_T82 l0 x42_4).f4)] 82 (0, 0)) (bq BK316.out) hb); replace HB := am (below_step (bel2 GE292.out GE316.out) hb); (try clear hb); (try clear hb2); (try clear hk); (try clear hi)))
                 go_roundg kj47
                 case measure => have := HJ2.out; have := HK2.out; have := HK3.out; have := HK4.out; have := HJ35.out; have := HJ47.out; omega
                 case rel => exact ⟨(x5_4), (wrap64 (x42_4 + 1)), sq, H', ⟨b30_⟩, ⟨rq HO_5.out⟩, ⟨rq HO_26.out⟩, ⟨rq HO_34.out⟩, ⟨bq BK292.out⟩, ⟨bel2 GE292.out GE316.out⟩⟩
                replace c53 := Bool.eq_false_iff.mpr c53; subst c53
                have H1 : (impl_Forms.l2 kj47 l0 x5_4 (rdOf false y301 x28_2) (rdOf ByteArray.empty y311 x36_3) y301 (y301.length : Int) x28_2 y311 (y311.length : Int) x36_3 l0 (l0.length : Int) (wrap64 (x42_4 + 1)) a1_0 a1_1) = some r := b2_
                replace H := H1; clear H1
                have H' := am H
                clear H; go_wp2
                go_roundg kj47
                case measure => have := HJ2.out; have := HK2.out; have := HK3.out; have := HK4.out; have := HJ35.out; have := HJ47.out; omega
                case rel => exact ⟨(x5_4), (wrap64 (x42_4 + 1)), sq, H', ⟨b30_⟩, ⟨rq HO_5.out⟩, ⟨rq HO_26.out⟩, ⟨rq HO_34.out⟩, ⟨bq BK292.out⟩, ⟨bel2 GE292.out GE316.out⟩⟩
           rw [if_neg c33] at H; have c33b0 := decide_eq_false c33; clear c33
           have H' := am H
           clear H; go_wp2
           go_roundg k4
           case measure => have := HJ2.out; have := HK2.out; have := HK3.out; have := HK4.out; omega
           case rel => exact ⟨(x5_4), (wrap64 (x36_3 + 1)), sq, H', ⟨by have := HJ2.out; have := HK2.out; have := HK3.out; have := HK4.out; omega⟩, ⟨rq HO_5.out⟩, ⟨rq HO_26.out⟩, ⟨rq HO_34.out⟩, ⟨bq BK292.out⟩, ⟨bel1 GE292.out⟩⟩
        rw [if_neg c30] at H; have c30b0 := decide_eq_false c30; clear c30
        have H' := am H
        clear H; go_wp2
        go_roundg k3
        case measure => have := HJ2.out; have := HK2.out; have := HK3.out; omega
        case rel => exact ⟨(x5_3), (wrap64 (x28_2 + 1)), sq, H', ⟨by have := HJ2.out; have := HK2.out; have := HK3.out; omega⟩, ⟨rq (Kd.R_mono HO_5.out (fun _ hk => trivial))⟩, ⟨rq HO_26.out⟩, ⟨bq BK292.out⟩, ⟨bel1 GE292.out⟩⟩
     rw [if_neg c21] at H; have c21b0 := decide_eq_false c21; clear c21; replace H := bs H; obtain ⟨t304, A640, H⟩ := H; replace H : (some t304) = some r := H; have A64 := Aside0.mk A640; clear A640; obtain rfl := Option.some.inj H; obtain ⟨Ao65, co65, eo65⟩ := Kd.R_slice HO_5.out; subst eo65
     go_wp2_with (first | ((with_reducible refine gate_callee (f := 55) rfl ?_); refine goesL_ (some 80) rfl rfl Tryz.func55 (by kernel_rfl) rfl #[.slice Ao65 x5_2.length co65] rfl mq ?_; (with_reducible refine (impl_sorted.calls _ _ x5_2 t304 _ ?side1 ?side2 A64.out).mono ?_); (case side1 => exact cq (Kd.R_reads' HO_5.out).2.2); (case side2 => exact (Kd.R_reads' HO_5.out).2.1); rintro e w66 ⟨v305, rfl, ho0, hb⟩; refine ⟨_, rfl, ?_⟩; replace HO_26 := am (Kd.R_below (rq HO_26.out) hb); have HO306 := am (Kd.R_lower (Kd.R_new' ho0 (Kd.R_lt (rq HO_5.out))) (below_size (bel1 GE292.out))); replace HO_5 := am (Kd.R_elder' (rq HO_5.out) (Kd.R_base ho0) hb); replace BK292 := am (blk_below (g := gb292) (o := .cells #[.string a1_0, .string a1_1] 78 (0, 0)) (bq BK292.out) hb); replace HB := am (below_step (bel1 GE292.out) hb); (try clear hb); (try clear hb2); (try clear hk); (try clear hi); (try clear ho0)))
     go_ret
     exact ⟨_, eq_, by (with_reducible repeat (first | apply Kd.R_alloc | apply Kd.R_drewN | apply Kd.R_drew)); exact Kd.R_mono HO306.out (fun _ hk => trivial), bel1 GE292.out⟩
-- shrunk

/-! ### impl_Book_words: function 27 -/
def impl_Book_words.l0 : Nat → List ByteArray → List (S78) → Int → Int → List (S82) → List (S78) → Option (List ByteArray)
 | 0, _, _, _, _, _, _ => none
 | k + 1, x3, x8, x9, x10, x324000, x324001 => if x10 < x9 then (if 0 ≤ x10 then (if x10 < (x8.length : Int) then ((impl_Forms.f k x324000 ((rd_T78 x8 x10).f0) ((rd_T78 x8 x10).f1)).bind fun t329 => (if x3.length + t329.length < 8796093022208 then (impl_Book_words.l0 k (x3 ++ t329) x8 x9 (wrap64 (x10 + 1)) x324000 x324001) else (none))) else (none)) else (none)) else ((impl_sorted.f x3).bind fun t335 => (some t335))
def impl_Book_words.f (k : Nat) (l0_0 : List (S82)) (l0_1 : List (S78)) : Option (List ByteArray) := impl_Book_words.l0 k (([] : List ByteArray)) l0_1 (l0_1.length : Int) 0 l0_0 l0_1
theorem impl_Book_words.calls (k : Nat) (A0_0 : Option Addr) (c0_0 : Nat) (l0_0 : List (S82)) (A0_1 : Option Addr) (c0_1 : Nat) (l0_1 : List (S78)) (r : List ByteArray) (w : World) (hr0_0 : Kd.C k82 w A0_0 l0_0.length l0_0) (hc0_0 : l0_0.length ≤ c0_0) (hr0_1 : Kd.C k78 w A0_1 l0_1.length l0_1) (hc0_1 : l0_1.length ≤ c0_1) (h : impl_Book_words.f k l0_0 l0_1 = some r) :
  Calls Tryz.prog 27 #[.agg #[.slice A0_0 l0_0.length c0_0, .slice A0_1 l0_1.length c0_1]] w fun e w' => ∃ v0_ : Value, e = .returned (v0_) ∧ Kd.R Kd.string 9 w' w.heap.size (fun _ => True) v0_ r ∧ Below w.heap.size w w' := by
 have hu32 := Tryz.underlying32; have hu78 := Tryz.underlying78; have HR0_0 := am hr0_0; have HC0_0 := am hc0_0; clear hr0_0 hc0_0; have HR0_1 := am hr0_1; have HC0_1 := am hc0_1; clear hr0_1 hc0_1; have HB := am (Below.refl w.heap.size w)
 have H : (impl_Book_words.l0 k (([] : List ByteArray)) l0_1 (l0_1.length : Int) 0 l0_0 l0_1) = some r := h
 clear h; obtain ⟨y324, hy324⟩ : ∃ y_ : List ByteArray, y_ = (([] : List ByteArray)) := ⟨_, rfl⟩
 replace H : (impl_Book_words.l0 k y324 l0_1 (l0_1.length : Int) 0 l0_0 l0_1) = some r := by first | (rw [hy324]; with_reducible exact H) | (have H2_ := bm H; rw [hy324]; with_reducible exact H2_) | (with_reducible exact bm H) | with_reducible exact H | (rw [hy324]; exact H) | exact H
 have Ny324 := am hy324; clear hy324
 have H' := am H
 clear H; go_enter Tryz.func27, Tryz.ntmps27
 go_wp2_with (first | ((with_reducible refine gate_dst (N := 1) rfl ?_); refine bx 1 (cs := #[.slice A0_0 l0_0.length c0_0, .slice A0_1 l0_1.length c0_1]) (t := 32) ?_; intro gb323 hg w2 hbox hb; have BK323 := am (hbox); have GW323 := am ((b0_ : w.heap.size ≤ gb323)); have GE323 := am ((b0_ : w.heap.size ≤ gb323)); replace HB := am (below_step bel hb); clear hb hbox hg) | ((with_reducible refine gate_dst (N := 6) rfl ?_); refine Kd.R_lit Kd.string _ 9 ?hg (N := 6) ?hd (xs := ([] : List ByteArray)) (inner := []) (ok := fun _ => True) (okp := fun _ => True) ?hr ?hp (fun _ hk => hk) trivial (Below.refl _ _) (Nat.le_refl _) (by simp) ?_; (case hd => rfl); (case hg => rfl); (case hr => first | (go_simp; done) | (go_simp; rfl)); (case hp => exact (Reps.none _ _)); intro v325 w3 ho4 hb hg_ hnew_; clear hg_ hnew_; (first | rw [← Ny324.out] at ho4 | (simp only [Int.reduceToNat] at ho4; rw [← Ny324.out] at ho4) | (simp only [Int.toNat_natCast] at ho4; rw [← Ny324.out] at ho4)); have HO326 := am (Kd.R_lower ho4 (below_size (bel1 GE323.out))); replace BK323 := am (blk_below (g := gb323) (o := .cells #[.slice A0_0 l0_0.length c0_0, .slice A0_1 l0_1.length c0_1] 32 (0, 0)) (bq BK323.out) hb); replace HB := am (below_step (bel1 GE323.out) hb); clear hb ho4; have hcz5_0 := bc BK323.out 0; have hcz5_1 := bc BK323.out 1; have hfz5_0 := bf BK323.out 0; have hfz5_1 := bf BK323.out 1))
 go_loopg [3, 10] k (fun kq v3 v10 w' => ∃ (x3_1 : List ByteArray) (x10_1 : Int), v10 = .int .i64 x10_1 ∧ Aside0 (impl_Book_words.l0 kq x3_1 l0_1 (l0_1.length : Int) x10_1 l0_0 l0_1 = some r) ∧ Aside0 (kq ≤ k) ∧ Aside0 (Kd.R Kd.string 9 w' w.heap.size (fun _ => True) v3 x3_1) ∧ Aside0 (w'.heap[gb323]? = some (.cells #[(.slice A0_0 l0_0.length c0_0), (.slice A0_1 l0_1.length c0_1)] 32 (0, 0))) ∧ Aside0 (Below w.heap.size w w'))
 case atStart => exact ⟨(y324), (0), sq, H', ⟨Nat.le_refl _⟩, ⟨rq HO326.out⟩, ⟨bq BK323.out⟩, ⟨bel1 GE323.out⟩⟩
 case round =>
  clear H'; (try clear c2); (try clear p2); (try clear hcz5_0); (try clear hcz5_1); (try clear hfz5_0); (try clear hfz5_1); obtain ⟨x3_1, x10_1, rfl, HA, HK1, HO_3, BK323, HB⟩ := hrel
  cases gk with
  | zero => exact absurd HA.out (by simp [impl_Book_words.l0])
  | succ k1 =>
   have H := HA.out; clear HA
   simp only [impl_Book_words.l0] at H
   by_cases c6 : x10_1 < (l0_1.length : Int)
   ·rw [if_pos c6] at H; have c6b0 := decide_eq_true c6; clear c6
    replace H := it H; obtain ⟨c7b0, H⟩ := H
    replace H := it H; obtain ⟨c8b0, H⟩ := H; replace H := bs H; obtain ⟨t329, A90, H⟩ := H; replace H : (if x3_1.length + t329.length < 8796093022208 then (impl_Book_words.l0 k1 (x3_1 ++ t329) l0_1 (l0_1.length : Int) (wrap64 (x10_1 + 1)) l0_0 l0_1) else (none)) = some r := H; have A9 := Aside0.mk A90; clear A90
    replace H := ip H; obtain ⟨c10, H⟩ := H; have LMc10 := Aside0.mk c10; clear c10; obtain ⟨y332, hy332⟩ : ∃ y_ : List ByteArray, y_ = (x3_1 ++ t329) := ⟨_, rfl⟩
    replace H : (impl_Book_words.l0 k1 y332 l0_1 (l0_1.length : Int) (wrap64 (x10_1 + 1)) l0_0 l0_1) = some r := by first | (rw [hy332]; with_reducible exact H) | (have H2_ := bm H; rw [hy332]; with_reducible exact H2_) | (with_reducible exact bm H) | with_reducible exact H | (rw [hy332]; exact H) | exact H
    have Ny332 := am hy332; clear hy332
    have H' := am H
    clear H
    have p327 : 0 ≤ (x10_1 : Int) := of_decide_eq_true ad
    have q327 : x10_1 < (l0_1.length : Int) := of_decide_eq_true ad
    obtain ⟨ad327, e327, hx327_0, hx327_1⟩ := at_T78 HR0_1.out x10_1 p327 q327
    cases e327
    replace hx327_0 := kp HB.out hx327_0; replace hx327_1 := kp HB.out hx327_1; replace p327 := eq_true p327; replace q327 := eq_true q327
    go_wp2_with (first | ((with_reducible refine gate_dst (N := 5) rfl ?_); refine bx 5 (cs := #[.string (⟨#[]⟩ : ByteArray), .string (⟨#[]⟩ : ByteArray)]) (t := 78) ?_; intro gb328 hg w11 hbox hb; replace HO_3 := am (Kd.R_below (rq HO_3.out) hb); have BK328 := am (hbox); have GW328 := am ((by rw [hg]; exact (below_size (bel1 GE323.out)) : w.heap.size ≤ gb328)); have GE328 := am ((by rw [hg]; exact (below_size (bel1 GE323.out)) : w.heap.size ≤ gb328)); replace HB := am (below_step (bel1 GE323.out) hb); have NB323_328 := am ((by rw [hg]; exact Nat.ne_of_lt (blk_lt (g := gb323) (o := .cells #[.slice A0_0 l0_0.length c0_0, .slice (some ad327) l0_1.length c0_1] 32 (0, 0)) (bq BK323.out)) : gb323 ≠ gb328)); have NB328_323 := am ((by rw [hg]; exact Nat.ne_of_gt (blk_lt (g := gb323) (o := .cells #[.slice A0_0 l0_0.length c0_0, .slice (some ad327) l0_1.length c0_1] 32 (0, 0)) (bq BK323.out)) : gb328 ≠ gb323)); replace BK323 := am (blk_below (g := gb323) (o := .cells #[.slice A0_0 l0_0.length c0_0, .slice (some ad327) l0_1.length c0_1] 32 (0, 0)) (bq BK323.out) hb); clear hb hbox hg; have hnb12 := NB328_323.out; have hnc12 := NB323_328.out; have hcz13_0 := bc BK328.out 0; have hcz13_1 := bc BK328.out 1; have hfz13_0 := bf BK328.out 0; have hfz13_1 := bf BK328.out 1; have hcz14_0 := bc BK323.out 0; have hcz14_1 := bc BK323.out 1; have hfz14_0 := bf BK323.out 0; have hfz14_1 := bf BK323.out 1) | ((with_reducible refine gate_callee (f := 54) rfl ?_); refine goesL_ (some 18) rfl rfl Tryz.func54 (by kernel_rfl) rfl #[.slice A0_0 l0_0.length c0_0, .agg #[.string ((rd_T78 l0_1 x10_1).f0), .string ((rd_T78 l0_1 x10_1).f1)]] rfl mq ?_; (with_reducible refine (impl_Forms.calls k1 _ _ l0_0 ((rd_T78 l0_1 x10_1).f0) ((rd_T78 l0_1 x10_1).f1) t329 _ ?side1 ?side2 A9.out).mono ?_); (case side1 => exact Kd.C_below HR0_0.out (bel2 GE323.out GE328.out)); (case side2 => exact HC0_0.out); rintro e w15 ⟨v330, rfl, ho0, hb⟩; refine ⟨_, rfl, ?_⟩; have HO331 := am (Kd.R_lower (Kd.R_new' ho0 (Kd.R_lt (rq ((Kd.R_mono (Kd.R_far (p := ⟨gb328, 1, none⟩) (Kd.R_far (p := ⟨gb328, 0, none⟩) (Kd.R_types HO_3.out BK328.out (by decide)) (fun _ hk => hk.2) (.string ((rd_T78 l0_1 x10_1).f0))) (fun _ hk => hk.2) (.string ((rd_T78 l0_1 x10_1).f1))) (fun _ h_ => h_.1)))))) (below_size (bel2 GE323.out GE328.out))); replace HO_3 := am (Kd.R_elder' (rq ((Kd.R_mono (Kd.R_far (p := ⟨gb328, 1, none⟩) (Kd.R_far (p := ⟨gb328, 0, none⟩) (Kd.R_types HO_3.out BK328.out (by decide)) (fun _ hk => hk.2) (.string ((rd_T78 l0_1 x10_1).f0))) (fun _ hk => hk.2) (.string ((rd_T78 l0_1 x10_1).f1))) (fun _ h_ => h_.1)))) (Kd.R_base ho0) hb); replace BK323 := am (blk_below (g := gb323) (o := .cells #[.slice A0_0 l0_0.length c0_0, .slice (some ad327) l0_1.length c0_1] 32 (0, 0)) (by (with_reducible repeat (first | refine blk_drewN ?_ _ | refine blk_drew ?_ | refine blk_alloc ?_ _)); refine blk_far ?_ NB323_328.out _; (with_reducible repeat (first | refine blk_drewN ?_ _ | refine blk_drew ?_ | refine blk_alloc ?_ _)); refine blk_far ?_ NB323_328.out _; (with_reducible repeat (first | refine blk_drewN ?_ _ | refine blk_drew ?_ | refine blk_alloc ?_ _)); exact BK323.out) hb); replace BK328 := am (blk_below (g := gb328) (o := .cells #[.string ((rd_T78 l0_1 x10_1).f0), .string ((rd_T78 l0_1 x10_1).f1)] 78 (0, 0)) (by (with_reducible repeat (first | refine blk_drewN ?_ _ | refine blk_drew ?_ | refine blk_alloc ?_ _)); refine blk_put (cs := #[.string ((rd_T78 l0_1 x10_1).f0), .string (⟨#[]⟩ : ByteArray)]) ?_ 1 _ rfl; (with_reducible repeat (first | refine blk_drewN ?_ _ | refine blk_drew ?_ | refine blk_alloc ?_ _)); refine blk_put (cs := #[.string (⟨#[]⟩ : ByteArray), .string (⟨#[]⟩ : ByteArray)]) ?_ 0 _ rfl; (with_reducible repeat (first | refine blk_drewN ?_ _ | refine blk_drew ?_ | refine blk_alloc ?_ _)); exact BK328.out) hb); replace HB := am (below_step (bel2 GE323.out GE328.out) hb); (try clear hb); (try clear hb2); (try clear hk); (try clear hi); (try clear ho0); obtain ⟨Ao17, co17, eo17⟩ := Kd.R_slice HO331.out; subst eo17) | ((with_reducible refine gate_builtin (b := .append) (xs := #[.tmp 14, .tmp 18]) rfl ?_); at_builtin; refine Kd.R_append_rows Kd.string (w0 := w) w.heap.size rfl (.tmp 14) (.tmp 18) 49 9 (.string ⟨#[]⟩) 16 rfl Tryz.underlying49 info9 rfl (by decide) (by omega) u3 x3_1 t329 _ _ _ (fun k_ => some k_ ≠ (.slice Ao17 t329.length co17 : Value).ownBlock) (fun _ => False) rfl rfl ?aO ?aR (fun _ _ h => h) (fun _ h => h.elim) ?aF ?aB ?aS ?aL ?_; (case aR => exact cq (Kd.R_reads' HO331.out).2.2); (case aB => exact (bel2 GE323.out GE328.out)); (case aF => exact (fun k_ hk => Kd.fresh' (Kd.R_lt (rq HO331.out)) k_ hk)); (case aO => exact (rq (Kd.R_mono HO_3.out (fun _ hk => hk.2)))); (case aS => exact (below_size (bel2 GE323.out GE328.out))); (case aL => have := LMc10.out; omega); intro v333 w16 ho hb hg hat; rw [← Ny332.out] at ho; replace BK323 := am (blk_grown (g := gb323) (o := .cells #[.slice A0_0 l0_0.length c0_0, .slice (some ad327) l0_1.length c0_1] 32 (0, 0)) (bq BK323.out) hg (Kd.R_ne HO_3.out BK323.out (by decide))); replace BK328 := am (blk_grown (g := gb328) (o := .cells #[.string ((rd_T78 l0_1 x10_1).f0), .string ((rd_T78 l0_1 x10_1).f1)] 78 (0, 0)) (bq BK328.out) hg (Kd.R_ne HO_3.out BK328.out (by decide))); replace HO331 := am (Kd.R_after (ok := (fun _ => True)) (rq HO331.out) hg hat); replace HB := am (hb); have HO334 := am (ho); clear HO_3; clear ho hb hg hat))
    go_roundg k1
    case measure => have := HK1.out; omega
    case rel => exact ⟨(y332), (wrap64 (x10_1 + 1)), sq, H', ⟨b14_⟩, ⟨rq (Kd.R_mono HO334.out (fun _ hk => trivial))⟩, ⟨bq BK323.out⟩, ⟨bel2 GE323.out GE328.out⟩⟩
   rw [if_neg c6] at H; have c6b0 := decide_eq_false c6; clear c6; replace H := bs H; obtain ⟨t335, A180, H⟩ := H; replace H : (some t335) = some r := H; have A18 := Aside0.mk A180; clear A180; obtain rfl := Option.some.inj H; obtain ⟨Ao19, co19, eo19⟩ := Kd.R_slice HO_3.out; subst eo19
   go_wp2_with (first | ((with_reducible refine gate_callee (f := 55) rfl ?_); refine goesL_ (some 22) rfl rfl Tryz.func55 (by kernel_rfl) rfl #[.slice Ao19 x3_1.length co19] rfl mq ?_; (with_reducible refine (impl_sorted.calls _ _ x3_1 t335 _ ?side1 ?side2 A18.out).mono ?_); (case side1 => exact cq (Kd.R_reads' HO_3.out).2.2); (case side2 => exact (Kd.R_reads' HO_3.out).2.1); rintro e w20 ⟨v336, rfl, ho0, hb⟩; refine ⟨_, rfl, ?_⟩; have HO337 := am (Kd.R_lower (Kd.R_new' ho0 (Kd.R_lt (rq HO_3.out))) (below_size (bel1 GE323.out))); replace HO_3 := am (Kd.R_elder' (rq HO_3.out) (Kd.R_base ho0) hb); replace BK323 := am (blk_below (g := gb323) (o := .cells #[.slice A0_0 l0_0.length c0_0, .slice A0_1 l0_1.length c0_1] 32 (0, 0)) (bq BK323.out) hb); replace HB := am (below_step (bel1 GE323.out) hb); (try clear hb); (try clear hb2); (try clear hk); (try clear hi); (try clear ho0)))
   go_ret
   exact ⟨_, eq_, by (with_reducible repeat (first | apply Kd.R_alloc | apply Kd.R_drewN | apply Kd.R_drew)); exact Kd.R_mono HO337.out (fun _ hk => trivial), bel1 GE323.out⟩

/-! ### impl_letter: function 28 -/
def impl_letter.f (a0 : Int) : Option (Bool) := if a0 ≥ 97 then (if a0 ≤ 122 then (some true) else ((impl_upper.f a0).bind fun t338 => (some t338))) else ((impl_upper.f a0).bind fun t339 => (some t339))
theorem impl_letter.calls (a0 : Int) (r : Bool) (w : World) (h : impl_letter.f a0 = some r) :
  Calls Tryz.prog 28 #[.int .u8 a0] w fun e w' => e = .returned (.bool r) ∧ Drawn0 w w' := by
 have H : (if a0 ≥ 97 then (if a0 ≤ 122 then (some true) else ((impl_upper.f a0).bind fun t338 => (some t338))) else ((impl_upper.f a0).bind fun t339 => (some t339))) = some r := h
 clear h
 by_cases c2 : a0 ≥ 97
 ·rw [if_pos c2] at H; have c2b0 := decide_eq_true c2; clear c2
  by_cases c3 : a0 ≤ 122
  ·rw [if_pos c3] at H; have c3b0 := decide_eq_true c3; clear c3; obtain rfl := Option.some.inj H; go_enter Tryz.func28, Tryz.ntmps28; go_wp2; go_ret
   exact ⟨sq, dr⟩
  rw [if_neg c3] at H; have c3b0 := decide_eq_false c3; clear c3; replace H := bs H; obtain ⟨t338, A40, H⟩ := H; replace H : (some t338) = some r := H; have A4 := Aside0.mk A40; clear A40; obtain rfl := Option.some.inj H; go_enter Tryz.func28, Tryz.ntmps28
  go_wp2_with (first | (go_at_call 56; (with_reducible refine (impl_upper.calls a0 t338 _ A4.out).mono ?_); rintro e w' ⟨rfl, ⟨nd, rfl⟩⟩))
  go_ret
  exact ⟨sq, dr⟩
 rw [if_neg c2] at H; have c2b0 := decide_eq_false c2; clear c2; replace H := bs H; obtain ⟨t339, A50, H⟩ := H; replace H : (some t339) = some r := H; have A5 := Aside0.mk A50; clear A50; obtain rfl := Option.some.inj H; go_enter Tryz.func28, Tryz.ntmps28
 go_wp2_with (first | (go_at_call 56; (with_reducible refine (impl_upper.calls a0 t339 _ A5.out).mono ?_); rintro e w' ⟨rfl, ⟨nd, rfl⟩⟩))
 go_ret
 exact ⟨sq, dr⟩

/-! ### strings_ToLower: function 29 -/
/-- ToLower, of a text of plain letters. -/
def strings_ToLower.f (a0 : ByteArray) : Option ByteArray := if a0.size ≤ 1000000000 ∧ (a0.data.toList.all fun b => decide (b.toNat < 128)) = true then some ⟨(Go.Lib.toLowerA a0.data.toList).toArray⟩ else none
theorem strings_ToLower.extra : Builder.Extra Tryz.prog Try.layLow_ren := {
 sizeBuilder := by kernel_rfl,
 liesBuilder := by kernel_rfl,
 t5 := Tryz.underlying5,
 a5 := Tryz.isAgg5,
 z5 := Tryz.sizeOf5,
 v5 := Tryz.zeroValue5,
 infoByte := by kernel_rfl,
 cellsByte := by kernel_rfl,
 sizeByte := by kernel_rfl,
 neB5 := by decide }
theorem strings_ToLower.calls (a0 : ByteArray) (r : ByteArray) (w : World) (h : strings_ToLower.f a0 = some r) :
  Calls Tryz.prog 29 #[.string a0] w fun e w' => e = .returned (.string r) ∧ Below w.heap.size w w' := by
 unfold strings_ToLower.f at h
 split at h
 case isFalse => cases h
 rename_i hz; obtain rfl := Option.some.inj h
 have := Any.strings_ToLower_ascii Try.layLow strings_ToLower.extra a0 w (by omega) (fun j b hb => of_decide_eq_true (List.all_eq_true.1 hz.2 b (List.mem_of_getElem? hb)))
 change Calls Tryz.prog 29 _ _ _ at this
 exact this

/-! ### slices_Index_string_string: function 63 -/
def slices_Index_string_string.l0 : Nat → List ByteArray → ByteArray → Int → Int → Option (Int)
 | 0, _, _, _, _ => none
 | k + 1, x0, x1, x7, x8 => if x8 < x7 then (if 0 ≤ x8 then (if x8 < (x0.length : Int) then (if x1.toList = (rdOf ByteArray.empty x0 x8).toList then (some x8) else (slices_Index_string_string.l0 k x0 x1 x7 (wrap64 (x8 + 1)))) else (none)) else (none)) else (some (-1))
def slices_Index_string_string.f (k : Nat) (l0 : List ByteArray) (a1 : ByteArray) : Option (Int) := slices_Index_string_string.l0 k l0 a1 (l0.length : Int) 0
theorem slices_Index_string_string.calls (k : Nat) (A0 : Option Addr) (c0 : Nat) (l0 : List ByteArray) (a1 : ByteArray) (r : Int) (w : World) (hr0 : Kd.C Kd.string w A0 l0.length l0) (hc0 : l0.length ≤ c0) (h : slices_Index_string_string.f k l0 a1 = some r) :
  Calls Tryz.prog 63 #[.slice A0 l0.length c0, .string a1] w fun e w' => e = .returned (.int .i64 r) ∧ Drawn0 w w' := by
 have HR0 := am hr0; have HC0 := am hc0; clear hr0 hc0
 have H : (slices_Index_string_string.l0 k l0 a1 (l0.length : Int) 0) = some r := h
 clear h
 have H' := am H
 clear H; go_enter Tryz.func63, Tryz.ntmps63; go_wp2
 go_loopg [8] k (fun kq v8 w' => ∃ (x8_1 : Int), v8 = .int .i64 x8_1 ∧ Aside0 (slices_Index_string_string.l0 kq l0 a1 (l0.length : Int) x8_1 = some r) ∧ Aside0 (kq ≤ k) ∧ Drawn0 w w')
 case atStart => exact ⟨(0), sq, H', ⟨Nat.le_refl _⟩, dr⟩
 case round =>
  clear H'; (try clear p2); obtain ⟨x8_1, rfl, HA, HK1, ⟨m1, rfl⟩⟩ := hrel
  cases gk with
  | zero => exact absurd HA.out (by simp [slices_Index_string_string.l0])
  | succ k1 =>
   have H := HA.out; clear HA
   simp only [slices_Index_string_string.l0] at H
   by_cases c3 : x8_1 < (l0.length : Int)
   ·rw [if_pos c3] at H; have c3b0 := decide_eq_true c3; clear c3
    replace H := it H; obtain ⟨c4b0, H⟩ := H
    replace H := it H; obtain ⟨c5b0, H⟩ := H
    by_cases c6 : a1.toList = (rdOf ByteArray.empty l0 x8_1).toList
    ·rw [if_pos c6] at H
     have c6b0 : (a1.toList == (rdOf ByteArray.empty l0 x8_1).toList) = true := beq_iff_eq.mpr c6
     have c6b1 : (a1.toList != (rdOf ByteArray.empty l0 x8_1).toList) = false := bne_eq_false_iff_eq.mpr c6
     clear c6; obtain rfl := Option.some.inj H
     have p340 : 0 ≤ (x8_1 : Int) := of_decide_eq_true ad
     have q340 : x8_1 < (l0.length : Int) := of_decide_eq_true ad
     obtain ⟨ad340, e340, hx340_0⟩ := Kd.at_string HR0.out x8_1 p340 q340
     cases e340
     replace p340 := eq_true p340; replace q340 := eq_true q340; go_wp2; go_ret
     exact ⟨sq, dr⟩
    rw [if_neg c6] at H
    have c6b0 : (a1.toList == (rdOf ByteArray.empty l0 x8_1).toList) = false := beq_eq_false_iff_ne.mpr c6
    have c6b1 : (a1.toList != (rdOf ByteArray.empty l0 x8_1).toList) = true := bne_iff_ne.mpr c6
    have H' := am H
    clear H
    have p340 : 0 ≤ (x8_1 : Int) := of_decide_eq_true ad
    have q340 : x8_1 < (l0.length : Int) := of_decide_eq_true ad
    obtain ⟨ad340, e340, hx340_0⟩ := Kd.at_string HR0.out x8_1 p340 q340
    cases e340
    replace p340 := eq_true p340; replace q340 := eq_true q340; go_wp2
    go_roundg k1
    case measure => have := HK1.out; omega
    case rel => exact ⟨(wrap64 (x8_1 + 1)), sq, H', ⟨b14_⟩, dr⟩
   rw [if_neg c3] at H; have c3b0 := decide_eq_false c3; clear c3; obtain rfl := Option.some.inj H; go_wp2; go_ret
   exact ⟨sq, dr⟩

/-! ### slices_Contains_string_string: function 30 -/
def slices_Contains_string_string.f (k : Nat) (l0 : List ByteArray) (a1 : ByteArray) : Option (Bool) := (slices_Index_string_string.f k l0 a1).bind fun t341 => (some (decide (t341 ≥ 0)))
theorem slices_Contains_string_string.calls (k : Nat) (A0 : Option Addr) (c0 : Nat) (l0 : List ByteArray) (a1 : ByteArray) (r : Bool) (w : World) (hr0 : Kd.C Kd.string w A0 l0.length l0) (hc0 : l0.length ≤ c0) (h : slices_Contains_string_string.f k l0 a1 = some r) :
  Calls Tryz.prog 30 #[.slice A0 l0.length c0, .string a1] w fun e w' => e = .returned (.bool r) ∧ Drawn0 w w' := by
 have HR0 := am hr0; have HC0 := am hc0; clear hr0 hc0
 have H : ((slices_Index_string_string.f k l0 a1).bind fun t341 => (some (decide (t341 ≥ 0)))) = some r := h
 clear h; replace H := bs H; obtain ⟨t341, A30, H⟩ := H; replace H : (some (decide (t341 ≥ 0))) = some r := H; have A3 := Aside0.mk A30; clear A30; obtain rfl := Option.some.inj H; go_enter Tryz.func30, Tryz.ntmps30
 go_wp2_with (first | ((with_reducible refine gate_callee (f := 63) rfl ?_); refine goesL_ (some 7) rfl rfl Tryz.func63 (by kernel_rfl) rfl #[.slice A0 l0.length c0, .string a1] rfl mq ?_; (with_reducible refine (slices_Index_string_string.calls k _ _ l0 a1 t341 _ ?side1 ?side2 A3.out).mono ?_); (case side1 => repeat (first | exact HR0.out | (with_reducible refine Kd.C_alloc ?_ _) | (with_reducible refine Kd.C_drewN ?_ _) | (with_reducible refine Kd.C_drew ?_))); (case side2 => exact HC0.out); rintro e w' ⟨rfl, ⟨nd, rfl⟩⟩; refine ⟨_, rfl, ?_⟩))
 go_ret
 exact ⟨sq, dr⟩
-- shrunk

/-! ### impl_Check: function 8 -/
mutual
def impl_Check.j0 : Nat → ByteArray → List (S43) → Bool → List (S82) → List (S78) → Option ((List (S43)))
 | 0, _, _, _, _, _ => none
 | k + 1, x1, x5, x18, x343000, x343001 => if x18 = true then (some x5) else ((impl_Book_words.f k x343000 x343001).bind fun t347 => (impl_Check.l0 k x1 x5 t347 0))
def impl_Check.l0 : Nat → ByteArray → List (S43) → List ByteArray → Int → Option ((List (S43)))
 | 0, _, _, _, _ => none
 | k + 1, x1, x5, x6, x7 => if x7 < (x1.size : Int) then (if 0 ≤ x7 then ((impl_letter.f (bt x1 x7)).bind fun t350 => (if t350 = true then (impl_Check.l1 k x1 x5 x6 x7 x7) else (impl_Check.l0 k x1 x5 x6 (wrap64 (x7 + 1))))) else (none)) else (some x5)
def impl_Check.j3 : Nat → ByteArray → List (S43) → List ByteArray → Int → Int → Option ((List (S43)))
 | 0, _, _, _, _, _ => none
 | k + 1, x1, x5, x6, x7, x8 => if 0 ≤ x7 then (if x7 ≤ x8 then (if x8 ≤ (x1.size : Int) then ((strings_ToLower.f (x1.extract (x7 : Int).toNat (x8 : Int).toNat)).bind fun t352 => ((slices_Contains_string_string.f k x6 t352).bind fun t353 => (if t353 = true then (impl_Check.l0 k x1 x5 x6 x8) else (if x5.length < 5864062014805 then (impl_Check.l0 k x1 (x5 ++ [(⟨t352, x7⟩ : S43)]) x6 x8) else (none))))) else (none)) else (none)) else (none)
def impl_Check.l1 : Nat → ByteArray → List (S43) → List ByteArray → Int → Int → Option ((List (S43)))
 | 0, _, _, _, _, _ => none
 | k + 1, x1, x5, x6, x7, x8 => if x8 < (x1.size : Int) then (if 0 ≤ x8 then ((impl_letter.f (bt x1 x8)).bind fun t351 => (if t351 = true then (impl_Check.l1 k x1 x5 x6 x7 (wrap64 (x8 + 1))) else (impl_Check.j3 k x1 x5 x6 x7 x8))) else (none)) else (impl_Check.j3 k x1 x5 x6 x7 x8)
end
def impl_Check.f (k : Nat) (l0_0 : List (S82)) (l0_1 : List (S78)) (a1 : ByteArray) : Option ((List (S43))) := (some (([] : List (S43)) : List (S43))).bind fun y343 => ((impl_BookOk.f k l0_0 l0_1).bind fun t346 => (if t346 = true then (impl_Check.j0 k a1 y343 (decide ((a1.size : Int) > 300)) l0_0 l0_1) else (impl_Check.j0 k a1 y343 true l0_0 l0_1)))
theorem impl_Check.calls (k : Nat) (A0_0 : Option Addr) (c0_0 : Nat) (l0_0 : List (S82)) (A0_1 : Option Addr) (c0_1 : Nat) (l0_1 : List (S78)) (a1 : ByteArray) (r : List (S43)) (w : World) (hr0_0 : Kd.C k82 w A0_0 l0_0.length l0_0) (hc0_0 : l0_0.length ≤ c0_0) (hr0_1 : Kd.C k78 w A0_1 l0_1.length l0_1) (hc0_1 : l0_1.length ≤ c0_1) (h : impl_Check.f k l0_0 l0_1 a1 = some r) :
  Calls Tryz.prog 8 #[.agg #[.slice A0_0 l0_0.length c0_0, .slice A0_1 l0_1.length c0_1], .string a1] w fun e w' => ∃ v0_ : Value, e = .returned (v0_) ∧ Kd.R k43 43 w' w.heap.size (fun _ => True) v0_ r ∧ Below w.heap.size w w' := by
 have hu32 := Tryz.underlying32; have hu43 := Tryz.underlying43; have HR0_0 := am hr0_0; have HC0_0 := am hc0_0; clear hr0_0 hc0_0; have HR0_1 := am hr0_1; have HC0_1 := am hc0_1; clear hr0_1 hc0_1; have HB := am (Below.refl w.heap.size w)
 have H : ((some (([] : List (S43)) : List (S43))).bind fun y343 => ((impl_BookOk.f k l0_0 l0_1).bind fun t346 => (if t346 = true then (impl_Check.j0 k a1 y343 (decide ((a1.size : Int) > 300)) l0_0 l0_1) else (impl_Check.j0 k a1 y343 true l0_0 l0_1)))) = some r := h
 clear h; obtain ⟨y343, hy343⟩ : ∃ y_ : List (S43), y_ = (([] : List (S43))) := ⟨_, rfl⟩
 replace H : ((impl_BookOk.f k l0_0 l0_1).bind fun t346 => (if t346 = true then (impl_Check.j0 k a1 y343 (decide ((a1.size : Int) > 300)) l0_0 l0_1) else (impl_Check.j0 k a1 y343 true l0_0 l0_1))) = some r := by first | (rw [hy343]; with_reducible exact H) | (have H2_ := bm H; rw [hy343]; with_reducible exact H2_) | (with_reducible exact bm H) | with_reducible exact H | (rw [hy343]; exact H) | exact H
 have Ny343 := am hy343; clear hy343; have HC3 := am H; clear H; go_enter Tryz.func8, Tryz.ntmps8
 go_upto_region 2 with (first | ((with_reducible refine gate_dst (N := 2) rfl ?_); (try (refine gate_guard (by rfl) ?_; dsimp only)); refine bx 2 (cs := #[.slice A0_0 l0_0.length c0_0, .slice A0_1 l0_1.length c0_1]) (t := 32) ?_; intro gb342 hg w4 hbox hb; have BK342 := am (hbox); have GW342 := am ((b0_ : w.heap.size ≤ gb342)); have GE342 := am ((b0_ : w.heap.size ≤ gb342)); replace HB := am (below_step bel hb); clear hb hbox hg) | ((with_reducible refine gate_dst (N := 10) rfl ?_); (try (refine gate_guard (by rfl) ?_; dsimp only)); refine Kd.R_lit k43 _ 43 ?hg (N := 10) ?hd (xs := ([] : List (S43))) (inner := []) (ok := fun _ => True) (okp := fun _ => True) ?hr ?hp (fun _ hk => hk) trivial (Below.refl _ _) (Nat.le_refl _) (by simp) ?_; (case hd => rfl); (case hg => rfl); (case hr => first | (go_simp; done) | (go_simp; rfl)); (case hp => exact (Reps.none _ _)); intro v344 w5 ho6 hb hg_ hnew_; clear hg_ hnew_; (first | rw [← Ny343.out] at ho6 | (simp only [Int.reduceToNat] at ho6; rw [← Ny343.out] at ho6) | (simp only [Int.toNat_natCast] at ho6; rw [← Ny343.out] at ho6)); have HO345 := am (Kd.R_lower ho6 (below_size (bel1 GE342.out))); replace BK342 := am (blk_below (g := gb342) (o := .cells #[.slice A0_0 l0_0.length c0_0, .slice A0_1 l0_1.length c0_1] 32 (0, 0)) (bq BK342.out) hb); replace HB := am (below_step (bel1 GE342.out) hb); clear hb ho6))
 (try simp only [Act.put, List.setIfInBounds_toArray, List.set_cons_zero, List.set_cons_succ])
 go_cut [18] (fun v18 wc => ∃ (kq : Nat) (x18_2 : Bool), v18 = .bool x18_2 ∧ Aside0 (impl_Check.j0 kq a1 y343 x18_2 l0_0 l0_1 = some r) ∧ Aside0 (kq ≤ k) ∧ Aside0 (Kd.R k43 43 wc w.heap.size (fun _ => True) v344 y343) ∧ Aside0 (wc.heap[gb342]? = some (.cells #[(.slice A0_0 l0_0.length c0_0), (.slice A0_1 l0_1.length c0_1)] 32 (0, 0))) ∧ Aside0 (Below w.heap.size w wc))
 case first =>
  have H := HC3.out; clear HC3; replace H := bs H; obtain ⟨t346, A70, H⟩ := H; replace H : (if t346 = true then (impl_Check.j0 k a1 y343 (decide ((a1.size : Int) > 300)) l0_0 l0_1) else (impl_Check.j0 k a1 y343 true l0_0 l0_1)) = some r := H; have A7 := Aside0.mk A70; clear A70
  by_cases c8 : t346 = true
  ·subst c8
   have H1 : (impl_Check.j0 k a1 y343 (decide ((a1.size : Int) > 300)) l0_0 l0_1) = some r := b8_
   replace H := H1; clear H1
   have H' := am H
   clear H; have hcz9_0 := bc BK342.out 0; have hcz9_1 := bc BK342.out 1; have hfz9_0 := bf BK342.out 0; have hfz9_1 := bf BK342.out 1
   go_wp2_with (first | ((with_reducible refine gate_callee (f := 26) rfl ?_); refine goesL_ (some 12) rfl rfl Tryz.func26 (by kernel_rfl) rfl #[.agg #[.slice A0_0 l0_0.length c0_0, .slice A0_1 l0_1.length c0_1]] rfl mq ?_; (with_reducible refine (impl_BookOk.calls k _ _ l0_0 _ _ l0_1 true _ ?side1 ?side2 ?side3 ?side4 A7.out).mono ?_); (case side1 => exact cq (Kd.C_below HR0_0.out HB.out)); (case side2 => exact HC0_0.out); (case side3 => exact cq (Kd.C_below HR0_1.out HB.out)); (case side4 => exact HC0_1.out); rintro e w10 ⟨rfl, hb⟩; refine ⟨_, rfl, ?_⟩; replace HO345 := am (Kd.R_below (rq HO345.out) hb); replace BK342 := am (blk_below (g := gb342) (o := .cells #[.slice A0_0 l0_0.length c0_0, .slice A0_1 l0_1.length c0_1] 32 (0, 0)) (bq BK342.out) hb); replace HB := am (below_step (bel1 GE342.out) hb); (try clear hb); (try clear hb2); (try clear hk); (try clear hi)))
   go_meet
   case rel => exact ⟨_, (decide ((a1.size : Int) > 300)), sq, H', ⟨b15_⟩, ⟨rq HO345.out⟩, ⟨bq BK342.out⟩, ⟨bel1 GE342.out⟩⟩
  replace c8 := Bool.eq_false_iff.mpr c8; subst c8
  have H1 : (impl_Check.j0 k a1 y343 true l0_0 l0_1) = some r := b2_
  replace H := H1; clear H1
  have H' := am H
  clear H; have hcz11_0 := bc BK342.out 0; have hcz11_1 := bc BK342.out 1; have hfz11_0 := bf BK342.out 0; have hfz11_1 := bf BK342.out 1
  go_wp2_with (first | ((with_reducible refine gate_callee (f := 26) rfl ?_); refine goesL_ (some 12) rfl rfl Tryz.func26 (by kernel_rfl) rfl #[.agg #[.slice A0_0 l0_0.length c0_0, .slice A0_1 l0_1.length c0_1]] rfl mq ?_; (with_reducible refine (impl_BookOk.calls k _ _ l0_0 _ _ l0_1 false _ ?side1 ?side2 ?side3 ?side4 A7.out).mono ?_); (case side1 => exact cq (Kd.C_below HR0_0.out HB.out)); (case side2 => exact HC0_0.out); (case side3 => exact cq (Kd.C_below HR0_1.out HB.out)); (case side4 => exact HC0_1.out); rintro e w12 ⟨rfl, hb⟩; refine ⟨_, rfl, ?_⟩; replace HO345 := am (Kd.R_below (rq HO345.out) hb); replace BK342 := am (blk_below (g := gb342) (o := .cells #[.slice A0_0 l0_0.length c0_0, .slice A0_1 l0_1.length c0_1] 32 (0, 0)) (bq BK342.out) hb); replace HB := am (below_step (bel1 GE342.out) hb); (try clear hb); (try clear hb2); (try clear hk); (try clear hi)))
  go_meet
  case rel => exact ⟨_, (true), sq, H', ⟨b15_⟩, ⟨rq HO345.out⟩, ⟨bq BK342.out⟩, ⟨bel1 GE342.out⟩⟩
 case rest =>
  clear HC3; (try clear c2); (try clear p2); (try clear c8); (try clear hcz11_0); (try clear hcz11_1); (try clear hcz9_0); (try clear hcz9_1); (try clear hfz11_0); (try clear hfz11_1); (try clear hfz9_0); (try clear hfz9_1); obtain ⟨kq, x18_2, rfl, HA, HJ2, HO_5, BK342, HB⟩ := hcut
  cases kq with
  | zero => exact absurd HA.out (by simp [impl_Check.j0])
  | succ kj2 =>
   have H := HA.out; clear HA
   simp only [impl_Check.j0] at H
   by_cases c13 : x18_2 = true
   ·subst c13
    have H1 : (some y343) = some r := b8_
    replace H := H1; clear H1
    obtain rfl := Option.some.inj H; go_wp2; go_ret
    exact ⟨_, eq_, b22_, bel1 GE342.out⟩
   replace c13 := Bool.eq_false_iff.mpr c13; subst c13
   have H1 : ((impl_Book_words.f kj2 l0_0 l0_1).bind fun t347 => (impl_Check.l0 kj2 a1 y343 t347 0)) = some r := b2_
   replace H := H1; clear H1
   replace H := bs H; obtain ⟨t347, A140, H⟩ := H; replace H : (impl_Check.l0 kj2 a1 y343 t347 0) = some r := H; have A14 := Aside0.mk A140; clear A140
   have H' := am H
   clear H; have hcz15_0 := bc BK342.out 0; have hcz15_1 := bc BK342.out 1; have hfz15_0 := bf BK342.out 0; have hfz15_1 := bf BK342.out 1
   go_wp2_with (first | ((with_reducible refine gate_callee (f := 27) rfl ?_); refine goesL_ (some 21) rfl rfl Tryz.func27 (by kernel_rfl) rfl #[.agg #[.slice A0_0 l0_0.length c0_0, .slice A0_1 l0_1.length c0_1]] rfl mq ?_; (with_reducible refine (impl_Book_words.calls kj2 _ _ l0_0 _ _ l0_1 t347 _ ?side1 ?side2 ?side3 ?side4 A14.out).mono ?_); (case side1 => exact cq (Kd.C_below HR0_0.out HB.out)); (case side2 => exact HC0_0.out); (case side3 => exact cq (Kd.C_below HR0_1.out HB.out)); (case side4 => exact HC0_1.out); rintro e w16 ⟨v348, rfl, ho0, hb⟩; refine ⟨_, rfl, ?_⟩; replace HO_5 := am (Kd.R_below (rq HO_5.out) hb); have HO349 := am (Kd.R_lower ho0 (below_size (bel1 GE342.out))); replace BK342 := am (blk_below (g := gb342) (o := .cells #[.slice A0_0 l0_0.length c0_0, .slice A0_1 l0_1.length c0_1] 32 (0, 0)) (bq BK342.out) hb); replace HB := am (below_step (bel1 GE342.out) hb); (try clear hb); (try clear hb2); (try clear hk); (try clear hi); (try clear ho0)))
   go_loopg [5, 7] kj2 (fun kq v5 v7 w' => ∃ (x5_2 : List (S43)) (x7_2 : Int), v7 = .int .i64 x7_2 ∧ Aside0 (impl_Check.l0 kq a1 x5_2 t347 x7_2 = some r) ∧ Aside0 (kq ≤ kj2) ∧ Aside0 (Kd.R k43 43 w' w.heap.size (fun _ => True) v5 x5_2) ∧ Aside0 (Kd.R Kd.string 9 w' w.heap.size (fun _ => True) v348 t347) ∧ Aside0 (w'.heap[gb342]? = some (.cells #[(.slice A0_0 l0_0.length c0_0), (.slice A0_1 l0_1.length c0_1)] 32 (0, 0))) ∧ Aside0 (Below w.heap.size w w'))
   case atStart => exact ⟨(y343), (0), sq, H', ⟨Nat.le_refl _⟩, ⟨rq HO_5.out⟩, ⟨rq HO349.out⟩, ⟨bq BK342.out⟩, ⟨bel1 GE342.out⟩⟩
   case round =>
    clear H'; (try clear c1); (try clear c2); (try clear p2); (try clear c8); (try clear c13); (try clear hcz11_0); (try clear hcz11_1); (try clear hcz15_0); (try clear hcz15_1); (try clear hcz9_0); (try clear hcz9_1); (try clear hfz11_0); (try clear hfz11_1); (try clear hfz15_0); (try clear hfz15_1); (try clear hfz9_0); (try clear hfz9_1); (try clear p2); obtain ⟨x5_2, x7_2, rfl, HA, HK2, HO_5, HO_6, BK342, HB⟩ := hrel
    cases gk with
    | zero => exact absurd HA.out (by simp [impl_Check.l0])
    | succ k2 =>
     have H := HA.out; clear HA
     simp only [impl_Check.l0] at H
     by_cases c17 : x7_2 < (a1.size : Int)
     ·rw [if_pos c17] at H; have c17b0 := decide_eq_true c17; clear c17
      replace H := it H; obtain ⟨c18b0, H⟩ := H; replace H := bs H; obtain ⟨t350, A200, H⟩ := H; replace H : (if t350 = true then (impl_Check.l1 k2 a1 x5_2 t347 x7_2 x7_2) else (impl_Check.l0 k2 a1 x5_2 t347 (wrap64 (x7_2 + 1)))) = some r := H; have A20 := Aside0.mk A200; clear A200
      by_cases c21 : t350 = true
      ·subst c21
       have H1 : (impl_Check.l1 k2 a1 x5_2 t347 x7_2 x7_2) = some r := b8_
       replace H := H1; clear H1
       have HC22 := am H; clear H
       have p19 : 0 ≤ (x7_2 : Int) := of_decide_eq_true ad
       have q19 : x7_2 < (a1.size : Int) := of_decide_eq_true ad
       have hx19 := bt_at a1 x7_2; replace p19 := eq_true p19; replace q19 := eq_true q19
       go_upto_block 2 with (first | ((with_reducible refine gate_callee (f := 28) rfl ?_); refine goesL_ (some 29) rfl rfl Tryz.func28 (by kernel_rfl) rfl #[.int .u8 (bt a1 x7_2)] rfl mq ?_; (with_reducible refine (impl_letter.calls (bt a1 x7_2) true _ A20.out).mono ?_); rintro e w' ⟨rfl, ⟨nd, rfl⟩⟩; refine ⟨_, rfl, ?_⟩))
       (try simp only [Act.put, List.setIfInBounds_toArray, List.set_cons_zero, List.set_cons_succ])
       go_cut [8] (fun v8 wc => ∃ (kq : Nat) (x8_21 : Int), v8 = .int .i64 x8_21 ∧ Aside0 (impl_Check.j3 kq a1 x5_2 t347 x7_2 x8_21 = some r) ∧ Aside0 (kq ≤ k2) ∧ Aside0 (Kd.R k43 43 wc w.heap.size (fun _ => True) u5 x5_2) ∧ Aside0 (Kd.R Kd.string 9 wc w.heap.size (fun _ => True) v348 t347) ∧ Aside0 (wc.heap[gb342]? = some (.cells #[(.slice A0_0 l0_0.length c0_0), (.slice A0_1 l0_1.length c0_1)] 32 (0, 0))) ∧ Aside0 (Below w.heap.size w wc))
       case first =>
        have H := HC22.out; clear HC22
        have H' := am H
        clear H; go_wp2
        go_loopg [8] k2 (fun kq v8 w' => ∃ (x8_3 : Int), v8 = .int .i64 x8_3 ∧ Aside0 (impl_Check.l1 kq a1 x5_2 t347 x7_2 x8_3 = some r) ∧ Aside0 (kq ≤ k2) ∧ Aside0 (Kd.R k43 43 w' w.heap.size (fun _ => True) u5 x5_2) ∧ Aside0 (Kd.R Kd.string 9 w' w.heap.size (fun _ => True) v348 t347) ∧ Aside0 (w'.heap[gb342]? = some (.cells #[(.slice A0_0 l0_0.length c0_0), (.slice A0_1 l0_1.length c0_1)] 32 (0, 0))) ∧ Aside0 (Below w.heap.size w w'))
        case atStart => exact ⟨(x7_2), sq, H', ⟨Nat.le_refl _⟩, ⟨rq HO_5.out⟩, ⟨rq HO_6.out⟩, ⟨bq BK342.out⟩, ⟨bel1 GE342.out⟩⟩
        case round =>
         clear H'; (try clear c1); (try clear p1); (try clear q1); (try clear hx1); (try clear c2); (try clear p2); (try clear p6); (try clear c8); (try clear c13); (try clear c17); (try clear c17b0); (try clear c18); (try clear c18b0); (try clear p19); (try clear q19); (try clear hx19); (try clear c21); (try clear hcz11_0); (try clear hcz11_1); (try clear hcz15_0); (try clear hcz15_1); (try clear hcz9_0); (try clear hcz9_1); (try clear hfz11_0); (try clear hfz11_1); (try clear hfz15_0); (try clear hfz15_1); (try clear hfz9_0); (try clear hfz9_1); (try clear p19); (try clear p2); (try clear q19); obtain ⟨x8_3, rfl, HA, HK3, HO_5, HO_6, BK342, HB⟩ := hrel
         cases gk with
         | zero => exact absurd HA.out (by simp [impl_Check.l1])
         | succ k3 =>
          have H := HA.out; clear HA
          simp only [impl_Check.l1] at H
          by_cases c23 : x8_3 < (a1.size : Int)
          ·rw [if_pos c23] at H; have c23b0 := decide_eq_true c23; clear c23
           (first | rw [c23b0] | (simp only [i64_w, i32_w]; rw [c23b0]) | skip)
           replace H := it H; obtain ⟨c24b0, H⟩ := H; replace H := bs H; obtain ⟨t351, A260, H⟩ := H; replace H : (if t351 = true then (impl_Check.l1 k3 a1 x5_2 t347 x7_2 (wrap64 (x8_3 + 1))) else (impl_Check.j3 k3 a1 x5_2 t347 x7_2 x8_3)) = some r := H; have A26 := Aside0.mk A260; clear A260
           by_cases c27 : t351 = true
           ·subst c27
            have H1 : (impl_Check.l1 k3 a1 x5_2 t347 x7_2 (wrap64 (x8_3 + 1))) = some r := b8_
            replace H := H1; clear H1
            have H' := am H
            clear H
            have p25 : 0 ≤ (x8_3 : Int) := of_decide_eq_true ad
            have q25 : x8_3 < (a1.size : Int) := of_decide_eq_true ad
            have hx25 := bt_at a1 x8_3; replace p25 := eq_true p25; replace q25 := eq_true q25
            go_wp2_with (first | (go_at_call 28; (with_reducible refine (impl_letter.calls (bt a1 x8_3) true _ A26.out).mono ?_); rintro e w' ⟨rfl, ⟨nd, rfl⟩⟩))
            go_roundg k3
            case measure => have := HJ2.out; have := HK2.out; have := HK3.out; omega
            case rel => exact ⟨(wrap64 (x8_3 + 1)), sq, H', ⟨by have := HJ2.out; have := HK2.out; have := HK3.out; omega⟩, ⟨rq HO_5.out⟩, ⟨rq HO_6.out⟩, ⟨bq BK342.out⟩, ⟨bel1 GE342.out⟩⟩
           replace c27 := Bool.eq_false_iff.mpr c27; subst c27
           have H1 : (impl_Check.j3 k3 a1 x5_2 t347 x7_2 x8_3) = some r := b2_
           replace H := H1; clear H1
           have H' := am H
           clear H
           have p25 : 0 ≤ (x8_3 : Int) := of_decide_eq_true ad
           have q25 : x8_3 < (a1.size : Int) := of_decide_eq_true ad
           have hx25 := bt_at a1 x8_3; replace p25 := eq_true p25; replace q25 := eq_true q25
           go_wp2_with (first | (go_at_call 28; (with_reducible refine (impl_letter.calls (bt a1 x8_3) false _ A26.out).mono ?_); rintro e w' ⟨rfl, ⟨nd, rfl⟩⟩))
           go_meet
           case rel => exact ⟨_, (x8_3), sq, H', ⟨by have := HJ2.out; have := HK2.out; have := HK3.out; first | omega | exact Nat.le_refl _⟩, ⟨rq HO_5.out⟩, ⟨rq HO_6.out⟩, ⟨bq BK342.out⟩, ⟨bel1 GE342.out⟩⟩
          rw [if_neg c23] at H; have c23b0 := decide_eq_false c23; clear c23
          (first | rw [c23b0] | (simp only [i64_w, i32_w]; rw [c23b0]) | skip)
          have H' := am H
          clear H; go_wp2
          go_meet
          case rel => exact ⟨_, (x8_3), sq, H', ⟨by have := HJ2.out; have := HK2.out; have := HK3.out; first | omega | exact Nat.le_refl _⟩, ⟨rq HO_5.out⟩, ⟨rq HO_6.out⟩, ⟨bq BK342.out⟩, ⟨bel1 GE342.out⟩⟩
       case rest =>
        clear HC22; (try clear c1); (try clear p1); (try clear q1); (try clear hx1); (try clear c2); (try clear p2); (try clear q2); (try clear hx2); (try clear p6); (try clear c8); (try clear c13); (try clear c17); (try clear c17b0); (try clear c18); (try clear c18b0); (try clear p19); (try clear q19); (try clear hx19); (try clear c21); (try clear c23); (try clear c23b0); (try clear c24); (try clear c24b0); (try clear p25); (try clear q25); (try clear hx25); (try clear c26); (try clear c27); (try clear hcz11_0); (try clear hcz11_1); (try clear hcz15_0); (try clear hcz15_1); (try clear hcz9_0); (try clear hcz9_1); (try clear hfz11_0); (try clear hfz11_1); (try clear hfz15_0); (try clear hfz15_1); (try clear hfz9_0); (try clear hfz9_1); (try clear p1); (try clear p19); (try clear p2); (try clear p25); (try clear p6); (try clear q1); (try clear q19); (try clear q25); obtain ⟨kq, x8_21, rfl, HA, HJ21, HO_5, HO_6, BK342, HB⟩ := hcut
        cases kq with
        | zero => exact absurd HA.out (by simp [impl_Check.j3])
        | succ kj21 =>
         have H := HA.out; clear HA
         simp only [impl_Check.j3] at H
         replace H := ip H; obtain ⟨c28, H⟩ := H; have c28b0 := eq_true c28
         have c28b1 : decide (0 ≤ x7_2) = true := decide_eq_true c28
         clear c28
         replace H := ip H; obtain ⟨c29, H⟩ := H; have c29b0 := eq_true c29
         have c29b1 : decide (x7_2 ≤ x8_21) = true := decide_eq_true c29
         clear c29
         replace H := ip H; obtain ⟨c30, H⟩ := H; have c30b0 := eq_true c30
         have c30b1 : decide (x8_21 ≤ (a1.size : Int)) = true := decide_eq_true c30
         clear c30; replace H := bs H; obtain ⟨t352, A310, H⟩ := H; replace H : ((slices_Contains_string_string.f kj21 t347 t352).bind fun t353 => (if t353 = true then (impl_Check.l0 kj21 a1 x5_2 t347 x8_21) else (if x5_2.length < 5864062014805 then (impl_Check.l0 kj21 a1 (x5_2 ++ [(⟨t352, x7_2⟩ : S43)]) t347 x8_21) else (none)))) = some r := H; have A31 := Aside0.mk A310; clear A310; replace H := bs H; obtain ⟨t353, A320, H⟩ := H; replace H : (if t353 = true then (impl_Check.l0 kj21 a1 x5_2 t347 x8_21) else (if x5_2.length < 5864062014805 then (impl_Check.l0 kj21 a1 (x5_2 ++ [(⟨t352, x7_2⟩ : S43)]) t347 x8_21) else (none))) = some r := H; have A32 := Aside0.mk A320; clear A320
         by_cases c33 : t353 = true
         ·subst c33
          have H1 : (impl_Check.l0 kj21 a1 x5_2 t347 x8_21) = some r := b8_
          replace H := H1; clear H1
          have H' := am H
          clear H
          go_wp2_with (first | ((with_reducible refine gate_callee (f := 29) rfl ?_); refine goesL_ (some 50) rfl rfl Tryz.func29 (by kernel_rfl) rfl #[.string (a1.extract (x7_2 : Int).toNat (x8_21 : Int).toNat)] rfl mq ?_; (with_reducible refine (strings_ToLower.calls (a1.extract (x7_2 : Int).toNat (x8_21 : Int).toNat) t352 _ A31.out).mono ?_); rintro e w34 ⟨rfl, hb⟩; refine ⟨_, rfl, ?_⟩; replace HO_5 := am (Kd.R_below (rq HO_5.out) hb); replace HO_6 := am (Kd.R_below (rq HO_6.out) hb); replace BK342 := am (blk_below (g := gb342) (o := .cells #[.slice A0_0 l0_0.length c0_0, .slice A0_1 l0_1.length c0_1] 32 (0, 0)) (bq BK342.out) hb); replace HB := am (below_step (bel1 GE342.out) hb); (try clear hb); (try clear hb2); (try clear hk); (try clear hi); obtain ⟨Ao35, co35, eo35⟩ := Kd.R_slice HO_6.out; subst eo35) | ((with_reducible refine gate_callee (f := 30) rfl ?_); refine goesL_ (some 53) rfl rfl Tryz.func30 (by kernel_rfl) rfl #[.slice Ao35 t347.length co35, .string t352] rfl mq ?_; (with_reducible refine (slices_Contains_string_string.calls kj21 _ _ t347 t352 true _ ?side1 ?side2 A32.out).mono ?_); (case side1 => exact cq (Kd.R_reads' HO_6.out).2.2); (case side2 => exact (Kd.R_reads' HO_6.out).2.1); rintro e w' ⟨rfl, ⟨nd, rfl⟩⟩; refine ⟨_, rfl, ?_⟩))
          go_roundg kj21
          case measure => have := HJ2.out; have := HK2.out; have := HJ21.out; omega
          case rel => exact ⟨(x5_2), (x8_21), sq, H', ⟨by have := HJ2.out; have := HK2.out; have := HJ21.out; omega⟩, ⟨rq HO_5.out⟩, ⟨rq HO_6.out⟩, ⟨bq BK342.out⟩, ⟨bel1 GE342.out⟩⟩
         replace c33 := Bool.eq_false_iff.mpr c33; subst c33
         have H1 : (if x5_2.length < 5864062014805 then (impl_Check.l0 kj21 a1 (x5_2 ++ [(⟨t352, x7_2⟩ : S43)]) t347 x8_21) else (none)) = some r := b2_
         replace H := H1; clear H1
         replace H := ip H; obtain ⟨c36, H⟩ := H; have LMc36 := Aside0.mk c36; clear c36; obtain ⟨y354, hy354⟩ : ∃ y_ : List (S43), y_ = (x5_2 ++ [(⟨t352, x7_2⟩ : S43)]) := ⟨_, rfl⟩
         replace H : (impl_Check.l0 kj21 a1 y354 t347 x8_21) = some r := by first | (rw [hy354]; with_reducible exact H) | (have H2_ := bm H; rw [hy354]; with_reducible exact H2_) | (with_reducible exact bm H) | with_reducible exact H | (rw [hy354]; exact H) | exact H
         have Ny354 := am hy354; clear hy354
         have H' := am H
         clear H
         go_wp2_with (first | ((with_reducible refine gate_callee (f := 29) rfl ?_); refine goesL_ (some 50) rfl rfl Tryz.func29 (by kernel_rfl) rfl #[.string (a1.extract (x7_2 : Int).toNat (x8_21 : Int).toNat)] rfl mq ?_; (with_reducible refine (strings_ToLower.calls (a1.extract (x7_2 : Int).toNat (x8_21 : Int).toNat) t352 _ A31.out).mono ?_); rintro e w37 ⟨rfl, hb⟩; refine ⟨_, rfl, ?_⟩; replace HO_5 := am (Kd.R_below (rq HO_5.out) hb); replace HO_6 := am (Kd.R_below (rq HO_6.out) hb); replace BK342 := am (blk_below (g := gb342) (o := .cells #[.slice A0_0 l0_0.length c0_0, .slice A0_1 l0_1.length c0_1] 32 (0, 0)) (bq BK342.out) hb); replace HB := am (below_step (bel1 GE342.out) hb); (try clear hb); (try clear hb2); (try clear hk); (try clear hi); obtain ⟨Ao38, co38, eo38⟩ := Kd.R_slice HO_6.out; subst eo38) | ((with_reducible refine gate_callee (f := 30) rfl ?_); refine goesL_ (some 53) rfl rfl Tryz.func30 (by kernel_rfl) rfl #[.slice Ao38 t347.length co38, .string t352] rfl mq ?_; (with_reducible refine (slices_Contains_string_string.calls kj21 _ _ t347 t352 false _ ?side1 ?side2 A32.out).mono ?_); (case side1 => exact cq (Kd.R_reads' HO_6.out).2.2); (case side2 => exact (Kd.R_reads' HO_6.out).2.1); rintro e w' ⟨rfl, ⟨nd, rfl⟩⟩; refine ⟨_, rfl, ?_⟩) | ((with_reducible refine gate_builtin (b := .append) (xs := #[.tmp 55, .tmp 59]) rfl ?_); (try (refine gate_guard (by rfl) ?_; dsimp only)); at_builtin; refine Kd.R_append k43 (w0 := w) w.heap.size rfl (.tmp 55) (.tmp 59) 27 43 (.agg #[(.string ⟨#[]⟩), (.int .i64 0)]) 24 rfl Tryz.underlying27 info43 rfl (by decide) (by omega) u5 x5_2 (⟨t352, x7_2⟩ : S43) [.string t352, .int .i64 x7_2] (fun _ => True) (fun _ => False) rfl rfl ?aP (fun _ hk => hk.elim) ?aF ?aO ?aB ?aS ?aL ?_; (case aP => exact k43_mkM _ _ _ (⟨t352, x7_2⟩ : S43)); (case aB => exact (bel1 GE342.out)); (case aF => exact (fun _ _ => trivial)); (case aO => exact (rq HO_5.out)); (case aS => exact (below_size (bel1 GE342.out))); (case aL => have := LMc36.out; omega); intro v355 w39 ho hb hg hat; rw [← Ny354.out] at ho; replace HO_6 := am (Kd.R_over' (rq HO_6.out) (Kd.R_typed (rq HO_5.out)) (by decide) hg); replace BK342 := am (blk_grown (g := gb342) (o := .cells #[.slice A0_0 l0_0.length c0_0, .slice A0_1 l0_1.length c0_1] 32 (0, 0)) (bq BK342.out) hg (Kd.R_ne HO_5.out BK342.out (by decide))); replace HB := am (hb); have HO356 := am (ho); clear HO_5; clear ho hb hg hat))
         go_roundg kj21
         case measure => have := HJ2.out; have := HK2.out; have := HJ21.out; omega
         case rel => exact ⟨(y354), (x8_21), sq, H', ⟨by have := HJ2.out; have := HK2.out; have := HJ21.out; omega⟩, ⟨rq HO356.out⟩, ⟨rq HO_6.out⟩, ⟨bq BK342.out⟩, ⟨bel1 GE342.out⟩⟩
      replace c21 := Bool.eq_false_iff.mpr c21; subst c21
      have H1 : (impl_Check.l0 k2 a1 x5_2 t347 (wrap64 (x7_2 + 1))) = some r := b2_
      replace H := H1; clear H1
      have H' := am H
      clear H
      have p19 : 0 ≤ (x7_2 : Int) := of_decide_eq_true ad
      have q19 : x7_2 < (a1.size : Int) := of_decide_eq_true ad
      have hx19 := bt_at a1 x7_2; replace p19 := eq_true p19; replace q19 := eq_true q19
      go_wp2_with (first | ((with_reducible refine gate_callee (f := 28) rfl ?_); refine goesL_ (some 29) rfl rfl Tryz.func28 (by kernel_rfl) rfl #[.int .u8 (bt a1 x7_2)] rfl mq ?_; (with_reducible refine (impl_letter.calls (bt a1 x7_2) false _ A20.out).mono ?_); rintro e w' ⟨rfl, ⟨nd, rfl⟩⟩; refine ⟨_, rfl, ?_⟩))
      go_roundg k2
      case measure => have := HJ2.out; have := HK2.out; omega
      case rel => exact ⟨(x5_2), (wrap64 (x7_2 + 1)), sq, H', ⟨by have := HJ2.out; have := HK2.out; omega⟩, ⟨rq HO_5.out⟩, ⟨rq HO_6.out⟩, ⟨bq BK342.out⟩, ⟨bel1 GE342.out⟩⟩
     rw [if_neg c17] at H; have c17b0 := decide_eq_false c17; clear c17; obtain rfl := Option.some.inj H; go_wp2; go_ret
     exact ⟨_, eq_, b22_, bel1 GE342.out⟩

/-! ### laws_eqGuess: function 31 -/
def laws_eqGuess.f (a0_0 : ByteArray) (a0_1 : Int) (a1_0 : ByteArray) (a1_1 : Int) : Option (Bool) := if a0_0.toList = a1_0.toList then (if a0_1 = a1_1 then (some true) else (some false)) else (some false)
theorem laws_eqGuess.calls (a0_0 : ByteArray) (a0_1 : Int) (a1_0 : ByteArray) (a1_1 : Int) (r : Bool) (w : World) (h : laws_eqGuess.f a0_0 a0_1 a1_0 a1_1 = some r) :
  Calls Tryz.prog 31 #[.agg #[.string a0_0, .int .i64 a0_1], .agg #[.string a1_0, .int .i64 a1_1]] w fun e w' => e = .returned (.bool r) ∧ Below w.heap.size w w' := by
 have hu43 := Tryz.underlying43; have HB := am (Below.refl w.heap.size w)
 have H : (if a0_0.toList = a1_0.toList then (if a0_1 = a1_1 then (some true) else (some false)) else (some false)) = some r := h
 clear h
 by_cases c3 : a0_0.toList = a1_0.toList
 ·rw [if_pos c3] at H
  have c3b0 : (a0_0.toList == a1_0.toList) = true := beq_iff_eq.mpr c3
  have c3b1 : (a0_0.toList != a1_0.toList) = false := bne_eq_false_iff_eq.mpr c3
  clear c3
  by_cases c4 : a0_1 = a1_1
  ·rw [if_pos c4] at H
   have c4b0 : (a0_1 == a1_1) = true := beq_iff_eq.mpr c4
   have c4b1 : (a0_1 != a1_1) = false := bne_eq_false_iff_eq.mpr c4
   clear c4; obtain rfl := Option.some.inj H; go_enter Tryz.func31, Tryz.ntmps31
   go_wp2_with (first | ((with_reducible refine gate_dst (N := 2) rfl ?_); refine bx 2 (cs := #[.string a0_0, .int .i64 a0_1]) (t := 43) ?_; intro gb357 hg w5 hbox hb; have BK357 := am (hbox); have GW357 := am ((b0_ : w.heap.size ≤ gb357)); have GE357 := am ((b0_ : w.heap.size ≤ gb357)); replace HB := am (below_step bel hb); clear hb hbox hg) | ((with_reducible refine gate_dst (N := 3) rfl ?_); refine bx 3 (cs := #[.string a1_0, .int .i64 a1_1]) (t := 43) ?_; intro gb358 hg w6 hbox hb; have BK358 := am (hbox); have GW358 := am ((b38_ : w.heap.size ≤ gb358)); have GE358 := am ((b38_ : w.heap.size ≤ gb358)); replace HB := am (below_step (bel1 GE357.out) hb); have NB357_358 := am ((b24_ : gb357 ≠ gb358)); have NB358_357 := am ((b25_ : gb358 ≠ gb357)); replace BK357 := am (blk_below (g := gb357) (o := .cells #[.string a0_0, .int .i64 a0_1] 43 (0, 0)) (bq BK357.out) hb); clear hb hbox hg; have hnb7 := NB357_358.out; have hnc7 := NB358_357.out; have hcz8_0 := bc BK357.out 0; have hcz8_1 := bc BK357.out 1; have hfz8_0 := bf BK357.out 0; have hfz8_1 := bf BK357.out 1; have hcz9_0 := bc BK358.out 0; have hcz9_1 := bc BK358.out 1; have hfz9_0 := bf BK358.out 0; have hfz9_1 := bf BK358.out 1))
   go_ret
   exact ⟨eq_, bel2 GE357.out GE358.out⟩
  rw [if_neg c4] at H
  have c4b0 : (a0_1 == a1_1) = false := beq_eq_false_iff_ne.mpr c4
  have c4b1 : (a0_1 != a1_1) = true := bne_iff_ne.mpr c4
  obtain rfl := Option.some.inj H; go_enter Tryz.func31, Tryz.ntmps31
  go_wp2_with (first | ((with_reducible refine gate_dst (N := 2) rfl ?_); refine bx 2 (cs := #[.string a0_0, .int .i64 a0_1]) (t := 43) ?_; intro gb357 hg w10 hbox hb; have BK357 := am (hbox); have GW357 := am ((b0_ : w.heap.size ≤ gb357)); have GE357 := am ((b0_ : w.heap.size ≤ gb357)); replace HB := am (below_step bel hb); clear hb hbox hg) | ((with_reducible refine gate_dst (N := 3) rfl ?_); refine bx 3 (cs := #[.string a1_0, .int .i64 a1_1]) (t := 43) ?_; intro gb358 hg w11 hbox hb; have BK358 := am (hbox); have GW358 := am ((b38_ : w.heap.size ≤ gb358)); have GE358 := am ((b38_ : w.heap.size ≤ gb358)); replace HB := am (below_step (bel1 GE357.out) hb); have NB357_358 := am ((b24_ : gb357 ≠ gb358)); have NB358_357 := am ((b25_ : gb358 ≠ gb357)); replace BK357 := am (blk_below (g := gb357) (o := .cells #[.string a0_0, .int .i64 a0_1] 43 (0, 0)) (bq BK357.out) hb); clear hb hbox hg; have hnb12 := NB357_358.out; have hnc12 := NB358_357.out; have hcz13_0 := bc BK357.out 0; have hcz13_1 := bc BK357.out 1; have hfz13_0 := bf BK357.out 0; have hfz13_1 := bf BK357.out 1; have hcz14_0 := bc BK358.out 0; have hcz14_1 := bc BK358.out 1; have hfz14_0 := bf BK358.out 0; have hfz14_1 := bf BK358.out 1))
  go_ret
  exact ⟨eq_, bel2 GE357.out GE358.out⟩
 rw [if_neg c3] at H
 have c3b0 : (a0_0.toList == a1_0.toList) = false := beq_eq_false_iff_ne.mpr c3
 have c3b1 : (a0_0.toList != a1_0.toList) = true := bne_iff_ne.mpr c3
 obtain rfl := Option.some.inj H; go_enter Tryz.func31, Tryz.ntmps31
 go_wp2_with (first | ((with_reducible refine gate_dst (N := 2) rfl ?_); refine bx 2 (cs := #[.string a0_0, .int .i64 a0_1]) (t := 43) ?_; intro gb357 hg w15 hbox hb; have BK357 := am (hbox); have GW357 := am ((b0_ : w.heap.size ≤ gb357)); have GE357 := am ((b0_ : w.heap.size ≤ gb357)); replace HB := am (below_step bel hb); clear hb hbox hg) | ((with_reducible refine gate_dst (N := 3) rfl ?_); refine bx 3 (cs := #[.string a1_0, .int .i64 a1_1]) (t := 43) ?_; intro gb358 hg w16 hbox hb; have BK358 := am (hbox); have GW358 := am ((b38_ : w.heap.size ≤ gb358)); have GE358 := am ((b38_ : w.heap.size ≤ gb358)); replace HB := am (below_step (bel1 GE357.out) hb); have NB357_358 := am ((b24_ : gb357 ≠ gb358)); have NB358_357 := am ((b25_ : gb358 ≠ gb357)); replace BK357 := am (blk_below (g := gb357) (o := .cells #[.string a0_0, .int .i64 a0_1] 43 (0, 0)) (bq BK357.out) hb); clear hb hbox hg; have hnb17 := NB357_358.out; have hnc17 := NB358_357.out; have hcz18_0 := bc BK357.out 0; have hcz18_1 := bc BK357.out 1; have hfz18_0 := bf BK357.out 0; have hfz18_1 := bf BK357.out 1; have hcz19_0 := bc BK358.out 0; have hcz19_1 := bc BK358.out 1; have hfz19_0 := bf BK358.out 0; have hfz19_1 := bf BK358.out 1))
 go_ret
 exact ⟨eq_, bel2 GE357.out GE358.out⟩
-- shrunk

/-! ### laws_eqGuessS: function 9 -/
def laws_eqGuessS.l0 : Nat → List (S43) → List (S43) → Int → Option (Bool)
 | 0, _, _, _ => none
 | k + 1, x0, x1, x5 => if x5 < (x0.length : Int) then (if 0 ≤ x5 then (if x5 < (x1.length : Int) then ((laws_eqGuess.f ((rd_T43 x0 x5).f0) ((rd_T43 x0 x5).f1) ((rd_T43 x1 x5).f0) ((rd_T43 x1 x5).f1)).bind fun t361 => (if t361 = true then (laws_eqGuessS.l0 k x0 x1 (wrap64 (x5 + 1))) else (some false))) else (none)) else (none)) else (some true)
def laws_eqGuessS.f (k : Nat) (l0 : List (S43)) (l1 : List (S43)) : Option (Bool) := if (l0.length : Int) = (l1.length : Int) then (laws_eqGuessS.l0 k l0 l1 0) else (some false)
def laws_eqGuessS.T6 : Bool × List (List Nat × List Nat) := (true, [([], []), ([], []), ([0, 1], [0, 1]), ([2], [2]), ([], []), ([], []), ([4, 5], [4, 5]), ([6], [6]), ([3, 7], [3, 7]), ([8], [8])])
def laws_eqGuessS.B6 : List Nat := [0, 0, 3, 7, 0, 0, 48, 112, 255, 511]
theorem laws_eqGuessS.tab6 : rtab .any (opsOf Tryz.f9 6) = laws_eqGuessS.T6 := by kernel_rfl
theorem laws_eqGuessS.bits6 : waitsOk laws_eqGuessS.T6.2 laws_eqGuessS.B6 = true := by kernel_rfl
theorem laws_eqGuessS.calls (k : Nat) (A0 : Option Addr) (c0 : Nat) (l0 : List (S43)) (A1 : Option Addr) (c1 : Nat) (l1 : List (S43)) (r : Bool) (w : World) (hr0 : Kd.C k43 w A0 l0.length l0) (hc0 : l0.length ≤ c0) (hr1 : Kd.C k43 w A1 l1.length l1) (hc1 : l1.length ≤ c1) (h : laws_eqGuessS.f k l0 l1 = some r) :
  Calls Tryz.prog 9 #[.slice A0 l0.length c0, .slice A1 l1.length c1] w fun e w' => e = .returned (.bool r) ∧ Below w.heap.size w w' := by
 have hu43 := Tryz.underlying43; have HR0 := am hr0; have HC0 := am hc0; clear hr0 hc0; have HR1 := am hr1; have HC1 := am hc1; clear hr1 hc1; have HB := am (Below.refl w.heap.size w)
 have H : (if (l0.length : Int) = (l1.length : Int) then (laws_eqGuessS.l0 k l0 l1 0) else (some false)) = some r := h
 clear h
 by_cases c3 : (l0.length : Int) = (l1.length : Int)
 ·rw [if_pos c3] at H
  have c3b0 : ((l0.length : Int) == (l1.length : Int)) = true := beq_iff_eq.mpr c3
  have c3b1 : ((l0.length : Int) != (l1.length : Int)) = false := bne_eq_false_iff_eq.mpr c3
  have c3b2 : (l0.length == l1.length) = true := b37_
  clear c3
  have H' := am H
  clear H; go_enter Tryz.func9, Tryz.ntmps9; go_wp2
  go_loopg [5] k (fun kq v5 w' => ∃ (x5_1 : Int), v5 = .int .i64 x5_1 ∧ Aside0 (laws_eqGuessS.l0 kq l0 l1 x5_1 = some r) ∧ Aside0 (kq ≤ k) ∧ Aside0 (Below w.heap.size w w'))
  case atStart => exact ⟨(0), sq, H', ⟨Nat.le_refl _⟩, ⟨bel⟩⟩
  case round =>
   clear H'; (try clear c1); (try clear p2); (try clear c3); (try clear c3b0); (try clear c3b1); (try clear c3b2); obtain ⟨x5_1, rfl, HA, HK1, HB⟩ := hrel
   cases gk with
   | zero => exact absurd HA.out (by simp [laws_eqGuessS.l0])
   | succ k1 =>
    have H := HA.out; clear HA
    simp only [laws_eqGuessS.l0] at H
    by_cases c4 : x5_1 < (l0.length : Int)
    ·rw [if_pos c4] at H; have c4b0 := decide_eq_true c4; clear c4
     replace H := it H; obtain ⟨c5b0, H⟩ := H
     replace H := it H; obtain ⟨c6b0, H⟩ := H; replace H := bs H; obtain ⟨t361, A70, H⟩ := H; replace H : (if t361 = true then (laws_eqGuessS.l0 k1 l0 l1 (wrap64 (x5_1 + 1))) else (some false)) = some r := H; have A7 := Aside0.mk A70; clear A70
     by_cases c8 : t361 = true
     ·subst c8
      have H1 : (laws_eqGuessS.l0 k1 l0 l1 (wrap64 (x5_1 + 1))) = some r := b8_
      replace H := H1; clear H1
      have H' := am H
      clear H
      try go_wp2
      replace HB := am (below_drew1 HB.out)
      have p359 : 0 ≤ (x5_1 : Int) := of_decide_eq_true ad
      have q359 : x5_1 < (l0.length : Int) := of_decide_eq_true ad
      obtain ⟨ad359, e359, hx359_0, hx359_1⟩ := at_T43 HR0.out x5_1 p359 q359; have hw359_1 := hx359_1; have hw359_0 := hx359_0
      cases e359
      replace hx359_0 := kp HB.out hx359_0; replace hx359_1 := kp HB.out hx359_1; replace p359 := eq_true p359; replace q359 := eq_true q359
      have p360 : 0 ≤ (x5_1 : Int) := of_decide_eq_true ad
      have q360 : x5_1 < (l1.length : Int) := of_decide_eq_true ad
      obtain ⟨ad360, e360, hx360_0, hx360_1⟩ := at_T43 HR1.out x5_1 p360 q360; have hw360_1 := hx360_1; have hw360_0 := hx360_0
      cases e360
      replace hx360_0 := kp HB.out hx360_0; replace hx360_1 := kp HB.out hx360_1; replace p360 := eq_true p360; replace q360 := eq_true q360
      refine st (n := 10) (S := fun w' => w'.cell? (ad359.add ((x5_1).toNat * 2)) = some (.string ((rd_T43 l0 x5_1).f0)) ∧ w'.cell? ⟨(ad359.add ((x5_1).toNat * 2)).block, (ad359.add ((x5_1).toNat * 2)).off + 1, none⟩ = some (.int .i64 ((rd_T43 l0 x5_1).f1)) ∧ w'.cell? (ad360.add ((x5_1).toNat * 2)) = some (.string ((rd_T43 l1 x5_1).f0)) ∧ w'.cell? ⟨(ad360.add ((x5_1).toNat * 2)).block, (ad360.add ((x5_1).toNat * 2)).off + 1, none⟩ = some (.int .i64 ((rd_T43 l1 x5_1).f1))) (ds := []) ⟨(kp HB.out hw359_0), (kp HB.out hw359_1), (kp HB.out hw360_0), (kp HB.out hw360_1)⟩ (fun hHeld => ?_); refine with_tabW laws_eqGuessS.tab6 laws_eqGuessS.bits6 (fun HT_ HW_ => ?_)
      generalize wr.drew = w9 at HB hx359_0 hx359_1 hx360_0 hx360_1 hHeld ⊢
      refine pu 0 17 ?_
      refine pu 1 18 ?_
      refine pu 2 19 ?_
      refine pu 4 21 ?_
      refine pu 5 22 ?_
      refine pu 6 23 ?_
      refine tk4 3 20 hHeld ?_
      refine tk4 7 24 hHeld ?_
      refine on1 8 25 (fun K hK => ?_)
      refine goes_ Tryz.func31 (by kernel_rfl) rfl #[.agg #[.string ((rd_T43 l0 x5_1).f0), .int .i64 ((rd_T43 l0 x5_1).f1)], .agg #[.string ((rd_T43 l1 x5_1).f0), .int .i64 ((rd_T43 l1 x5_1).f1)]] (by rfl) rfl rfl mq ?_
      with_reducible refine (laws_eqGuess.calls ((rd_T43 l0 x5_1).f0) ((rd_T43 l0 x5_1).f1) ((rd_T43 l1 x5_1).f0) ((rd_T43 l1 x5_1).f1) true _ A7.out).mono ?_
      rintro e w10 ⟨rfl, hb⟩
      refine ⟨_, rfl, ?_⟩
      replace HB := am (below_step bel hb)
      (try clear hb)
      (try clear hb2)
      (try clear hk)
      (try clear hi)
      refine hK.out _ _ ⟨(kp HB.out hw359_0), (kp HB.out hw359_1), (kp HB.out hw360_0), (kp HB.out hw360_1)⟩ (fun hHeld => ?_)
      clear hK K
      refine norm_ (a' := ?_) ?_ ?_
      rotate_left
      ·show Act.put _ (some 25) _ = _
       simp only [Act.put, List.setIfInBounds_toArray, List.set_cons_zero, List.set_cons_succ, i64_w, i32_w]
       rfl
      refine pu 9 26 ?_
      refine done_ (done_of HT_.out (by kernel_rfl)) ?_
      try go_wp2
      go_roundg k1
      case measure => have := HK1.out; omega
      case rel => exact ⟨(wrap64 (x5_1 + 1)), sq, H', ⟨b14_⟩, ⟨bel⟩⟩
     replace c8 := Bool.eq_false_iff.mpr c8; subst c8
     have H1 : (some false) = some r := b2_
     replace H := H1; clear H1
     obtain rfl := Option.some.inj H
     try go_wp2
     replace HB := am (below_drew1 HB.out)
     have p359 : 0 ≤ (x5_1 : Int) := of_decide_eq_true ad
     have q359 : x5_1 < (l0.length : Int) := of_decide_eq_true ad
     obtain ⟨ad359, e359, hx359_0, hx359_1⟩ := at_T43 HR0.out x5_1 p359 q359; have hw359_1 := hx359_1; have hw359_0 := hx359_0
     cases e359
     replace hx359_0 := kp HB.out hx359_0; replace hx359_1 := kp HB.out hx359_1; replace p359 := eq_true p359; replace q359 := eq_true q359
     have p360 : 0 ≤ (x5_1 : Int) := of_decide_eq_true ad
     have q360 : x5_1 < (l1.length : Int) := of_decide_eq_true ad
     obtain ⟨ad360, e360, hx360_0, hx360_1⟩ := at_T43 HR1.out x5_1 p360 q360; have hw360_1 := hx360_1; have hw360_0 := hx360_0
     cases e360
     replace hx360_0 := kp HB.out hx360_0; replace hx360_1 := kp HB.out hx360_1; replace p360 := eq_true p360; replace q360 := eq_true q360
     refine st (n := 10) (S := fun w' => w'.cell? (ad359.add ((x5_1).toNat * 2)) = some (.string ((rd_T43 l0 x5_1).f0)) ∧ w'.cell? ⟨(ad359.add ((x5_1).toNat * 2)).block, (ad359.add ((x5_1).toNat * 2)).off + 1, none⟩ = some (.int .i64 ((rd_T43 l0 x5_1).f1)) ∧ w'.cell? (ad360.add ((x5_1).toNat * 2)) = some (.string ((rd_T43 l1 x5_1).f0)) ∧ w'.cell? ⟨(ad360.add ((x5_1).toNat * 2)).block, (ad360.add ((x5_1).toNat * 2)).off + 1, none⟩ = some (.int .i64 ((rd_T43 l1 x5_1).f1))) (ds := []) ⟨(kp HB.out hw359_0), (kp HB.out hw359_1), (kp HB.out hw360_0), (kp HB.out hw360_1)⟩ (fun hHeld => ?_); refine with_tabW laws_eqGuessS.tab6 laws_eqGuessS.bits6 (fun HT_ HW_ => ?_)
     generalize wr.drew = w11 at HB hx359_0 hx359_1 hx360_0 hx360_1 hHeld ⊢
     refine pu 0 17 ?_
     refine pu 1 18 ?_
     refine pu 2 19 ?_
     refine pu 4 21 ?_
     refine pu 5 22 ?_
     refine pu 6 23 ?_
     refine tk4 3 20 hHeld ?_
     refine tk4 7 24 hHeld ?_
     refine on1 8 25 (fun K hK => ?_)
     refine goes_ Tryz.func31 (by kernel_rfl) rfl #[.agg #[.string ((rd_T43 l0 x5_1).f0), .int .i64 ((rd_T43 l0 x5_1).f1)], .agg #[.string ((rd_T43 l1 x5_1).f0), .int .i64 ((rd_T43 l1 x5_1).f1)]] (by rfl) rfl rfl mq ?_
     with_reducible refine (laws_eqGuess.calls ((rd_T43 l0 x5_1).f0) ((rd_T43 l0 x5_1).f1) ((rd_T43 l1 x5_1).f0) ((rd_T43 l1 x5_1).f1) false _ A7.out).mono ?_
     rintro e w12 ⟨rfl, hb⟩
     refine ⟨_, rfl, ?_⟩
     replace HB := am (below_step bel hb)
     (try clear hb)
     (try clear hb2)
     (try clear hk)
     (try clear hi)
     refine hK.out _ _ ⟨(kp HB.out hw359_0), (kp HB.out hw359_1), (kp HB.out hw360_0), (kp HB.out hw360_1)⟩ (fun hHeld => ?_)
     clear hK K
     refine norm_ (a' := ?_) ?_ ?_
     rotate_left
     ·show Act.put _ (some 25) _ = _
      simp only [Act.put, List.setIfInBounds_toArray, List.set_cons_zero, List.set_cons_succ, i64_w, i32_w]
      rfl
     refine pu 9 26 ?_
     refine done_ (done_of HT_.out (by kernel_rfl)) ?_
     try go_wp2
     go_ret
     exact ⟨eq_, bel⟩
    rw [if_neg c4] at H; have c4b0 := decide_eq_false c4; clear c4; obtain rfl := Option.some.inj H; go_wp2; go_ret
    exact ⟨eq_, bel⟩
 rw [if_neg c3] at H
 have c3b0 : ((l0.length : Int) == (l1.length : Int)) = false := beq_eq_false_iff_ne.mpr c3
 have c3b1 : ((l0.length : Int) != (l1.length : Int)) = true := bne_iff_ne.mpr c3
 have c3b2 : (l0.length == l1.length) = false := b37_
 obtain rfl := Option.some.inj H; go_enter Tryz.func9, Tryz.ntmps9; go_wp2; go_ret
 exact ⟨eq_, bel⟩

/-! ### laws_eqAffix: function 64 -/
def laws_eqAffix.f (a0_0 : ByteArray) (a0_1 : Bool) (a0_2 : ByteArray) (a0_3 : ByteArray) (a0_4 : ByteArray) (a1_0 : ByteArray) (a1_1 : Bool) (a1_2 : ByteArray) (a1_3 : ByteArray) (a1_4 : ByteArray) : Option (Bool) := if a0_0.toList = a1_0.toList then (if (a0_1 != a1_1) = true then (some false) else (if a0_2.toList = a1_2.toList then (if a0_3.toList = a1_3.toList then (if a0_4.toList = a1_4.toList then (some true) else (some false)) else (some false)) else (some false))) else (some false)
theorem laws_eqAffix.calls (a0_0 : ByteArray) (a0_1 : Bool) (a0_2 : ByteArray) (a0_3 : ByteArray) (a0_4 : ByteArray) (a1_0 : ByteArray) (a1_1 : Bool) (a1_2 : ByteArray) (a1_3 : ByteArray) (a1_4 : ByteArray) (r : Bool) (w : World) (h : laws_eqAffix.f a0_0 a0_1 a0_2 a0_3 a0_4 a1_0 a1_1 a1_2 a1_3 a1_4 = some r) :
  Calls Tryz.prog 64 #[.agg #[.string a0_0, .bool a0_1, .string a0_2, .string a0_3, .string a0_4], .agg #[.string a1_0, .bool a1_1, .string a1_2, .string a1_3, .string a1_4]] w fun e w' => e = .returned (.bool r) ∧ Below w.heap.size w w' := by
 have hu82 := Tryz.underlying82; have HB := am (Below.refl w.heap.size w)
 have H : (if a0_0.toList = a1_0.toList then (if (a0_1 != a1_1) = true then (some false) else (if a0_2.toList = a1_2.toList then (if a0_3.toList = a1_3.toList then (if a0_4.toList = a1_4.toList then (some true) else (some false)) else (some false)) else (some false))) else (some false)) = some r := h
 clear h
 by_cases c3 : a0_0.toList = a1_0.toList
 ·rw [if_pos c3] at H
  have c3b0 : (a0_0.toList == a1_0.toList) = true := beq_iff_eq.mpr c3
  have c3b1 : (a0_0.toList != a1_0.toList) = false := bne_eq_false_iff_eq.mpr c3
  clear c3
  by_cases c4 : (a0_1 != a1_1) = true
  ·rw [if_pos c4] at H
   have c4b0 : (a0_1 != a1_1) = true := c4
   (try (have c4b1 : decide (a0_1 = a1_1) = false := by simpa using c4))
   (try (have c4b2 : (a0_1 == a1_1) = false := by simpa using c4))
   (try (have c4b3 : ¬ (a0_1 = a1_1) := by simpa using c4))
   clear c4; obtain rfl := Option.some.inj H; go_enter Tryz.func64, Tryz.ntmps64
   go_wp2_with (first | ((with_reducible refine gate_dst (N := 2) rfl ?_); refine bx 2 (cs := #[.string a0_0, .bool a0_1, .string a0_2, .string a0_3, .string a0_4]) (t := 82) ?_; intro gb362 hg w5 hbox hb; have BK362 := am (hbox); have GW362 := am ((b0_ : w.heap.size ≤ gb362)); have GE362 := am ((b0_ : w.heap.size ≤ gb362)); replace HB := am (below_step bel hb); clear hb hbox hg) | ((with_reducible refine gate_dst (N := 3) rfl ?_); refine bx 3 (cs := #[.string a1_0, .bool a1_1, .string a1_2, .string a1_3, .string a1_4]) (t := 82) ?_; intro gb363 hg w6 hbox hb; have BK363 := am (hbox); have GW363 := am ((b16_ : w.heap.size ≤ gb363)); have GE363 := am ((b16_ : w.heap.size ≤ gb363)); replace HB := am (below_step (bel1 GE362.out) hb); have NB362_363 := am ((b11_ : gb362 ≠ gb363)); have NB363_362 := am ((b12_ : gb363 ≠ gb362)); replace BK362 := am (blk_below (g := gb362) (o := .cells #[.string a0_0, .bool a0_1, .string a0_2, .string a0_3, .string a0_4] 82 (0, 0)) (bq BK362.out) hb); clear hb hbox hg; have hnb7 := NB362_363.out; have hnc7 := NB363_362.out; have hcz8_0 := bc BK362.out 0; have hcz8_1 := bc BK362.out 1; have hcz8_2 := bc BK362.out 2; have hcz8_3 := bc BK362.out 3; have hcz8_4 := bc BK362.out 4; have hfz8_0 := bf BK362.out 0; have hfz8_1 := bf BK362.out 1; have hfz8_2 := bf BK362.out 2; have hfz8_3 := bf BK362.out 3; have hfz8_4 := bf BK362.out 4; have hcz9_0 := bc BK363.out 0; have hcz9_1 := bc BK363.out 1; have hcz9_2 := bc BK363.out 2; have hcz9_3 := bc BK363.out 3; have hcz9_4 := bc BK363.out 4; have hfz9_0 := bf BK363.out 0; have hfz9_1 := bf BK363.out 1; have hfz9_2 := bf BK363.out 2; have hfz9_3 := bf BK363.out 3; have hfz9_4 := bf BK363.out 4))
   go_ret
   exact ⟨eq_, bel2 GE362.out GE363.out⟩
  rw [if_neg c4] at H
  have c4b0 : (a0_1 != a1_1) = false := by simpa using c4
  (try (have c4b1 : decide (a0_1 = a1_1) = true := by simpa using c4))
  (try (have c4b2 : (a0_1 == a1_1) = true := by simpa using c4))
  clear c4
  by_cases c10 : a0_2.toList = a1_2.toList
  ·rw [if_pos c10] at H
   have c10b0 : (a0_2.toList == a1_2.toList) = true := beq_iff_eq.mpr c10
   have c10b1 : (a0_2.toList != a1_2.toList) = false := bne_eq_false_iff_eq.mpr c10
   clear c10
   by_cases c11 : a0_3.toList = a1_3.toList
   ·rw [if_pos c11] at H
    have c11b0 : (a0_3.toList == a1_3.toList) = true := beq_iff_eq.mpr c11
    have c11b1 : (a0_3.toList != a1_3.toList) = false := bne_eq_false_iff_eq.mpr c11
    clear c11
    by_cases c12 : a0_4.toList = a1_4.toList
    ·rw [if_pos c12] at H
     have c12b0 : (a0_4.toList == a1_4.toList) = true := beq_iff_eq.mpr c12
     have c12b1 : (a0_4.toList != a1_4.toList) = false := bne_eq_false_iff_eq.mpr c12
     clear c12; obtain rfl := Option.some.inj H; go_enter Tryz.func64, Tryz.ntmps64
     go_wp2_with (first | ((with_reducible refine gate_dst (N := 2) rfl ?_); refine bx 2 (cs := #[.string a0_0, .bool a0_1, .string a0_2, .string a0_3, .string a0_4]) (t := 82) ?_; intro gb362 hg w13 hbox hb; have BK362 := am (hbox); have GW362 := am ((b0_ : w.heap.size ≤ gb362)); have GE362 := am ((b0_ : w.heap.size ≤ gb362)); replace HB := am (below_step bel hb); clear hb hbox hg) | ((with_reducible refine gate_dst (N := 3) rfl ?_); refine bx 3 (cs := #[.string a1_0, .bool a1_1, .string a1_2, .string a1_3, .string a1_4]) (t := 82) ?_; intro gb363 hg w14 hbox hb; have BK363 := am (hbox); have GW363 := am ((b16_ : w.heap.size ≤ gb363)); have GE363 := am ((b16_ : w.heap.size ≤ gb363)); replace HB := am (below_step (bel1 GE362.out) hb); have NB362_363 := am ((b11_ : gb362 ≠ gb363)); have NB363_362 := am ((b12_ : gb363 ≠ gb362)); replace BK362 := am (blk_below (g := gb362) (o := .cells #[.string a0_0, .bool a0_1, .string a0_2, .string a0_3, .string a0_4] 82 (0, 0)) (bq BK362.out) hb); clear hb hbox hg; have hnb15 := NB362_363.out; have hnc15 := NB363_362.out; have hcz16_0 := bc BK362.out 0; have hcz16_1 := bc BK362.out 1; have hcz16_2 := bc BK362.out 2; have hcz16_3 := bc BK362.out 3; have hcz16_4 := bc BK362.out 4; have hfz16_0 := bf BK362.out 0; have hfz16_1 := bf BK362.out 1; have hfz16_2 := bf BK362.out 2; have hfz16_3 := bf BK362.out 3; have hfz16_4 := bf BK362.out 4; have hcz17_0 := bc BK363.out 0; have hcz17_1 := bc BK363.out 1; have hcz17_2 := bc BK363.out 2; have hcz17_3 := bc BK363.out 3; have hcz17_4 := bc BK363.out 4; have hfz17_0 := bf BK363.out 0; have hfz17_1 := bf BK363.out 1; have hfz17_2 := bf BK363.out 2; have hfz17_3 := bf BK363.out 3; have hfz17_4 := bf BK363.out 4))
     go_ret
     exact ⟨eq_, bel2 GE362.out GE363.out⟩
    rw [if_neg c12] at H
    have c12b0 : (a0_4.toList == a1_4.toList) = false := beq_eq_false_iff_ne.mpr c12
    have c12b1 : (a0_4.toList != a1_4.toList) = true := bne_iff_ne.mpr c12
    obtain rfl := Option.some.inj H; go_enter Tryz.func64, Tryz.ntmps64
    go_wp2_with (first | ((with_reducible refine gate_dst (N := 2) rfl ?_); refine bx 2 (cs := #[.string a0_0, .bool a0_1, .string a0_2, .string a0_3, .string a0_4]) (t := 82) ?_; intro gb362 hg w18 hbox hb; have BK362 := am (hbox); have GW362 := am ((b0_ : w.heap.size ≤ gb362)); have GE362 := am ((b0_ : w.heap.size ≤ gb362)); replace HB := am (below_step bel hb); clear hb hbox hg) | ((with_reducible refine gate_dst (N := 3) rfl ?_); refine bx 3 (cs := #[.string a1_0, .bool a1_1, .string a1_2, .string a1_3, .string a1_4]) (t := 82) ?_; intro gb363 hg w19 hbox hb; have BK363 := am (hbox); have GW363 := am ((b16_ : w.heap.size ≤ gb363)); have GE363 := am ((b16_ : w.heap.size ≤ gb363)); replace HB := am (below_step (bel1 GE362.out) hb); have NB362_363 := am ((b11_ : gb362 ≠ gb363)); have NB363_362 := am ((b12_ : gb363 ≠ gb362)); replace BK362 := am (blk_below (g := gb362) (o := .cells #[.string a0_0, .bool a0_1, .string a0_2, .string a0_3, .string a0_4] 82 (0, 0)) (bq BK362.out) hb); clear hb hbox hg; have hnb20 := NB362_363.out; have hnc20 := NB363_362.out; have hcz21_0 := bc BK362.out 0; have hcz21_1 := bc BK362.out 1; have hcz21_2 := bc BK362.out 2; have hcz21_3 := bc BK362.out 3; have hcz21_4 := bc BK362.out 4; have hfz21_0 := bf BK362.out 0; have hfz21_1 := bf BK362.out 1; have hfz21_2 := bf BK362.out 2; have hfz21_3 := bf BK362.out 3; have hfz21_4 := bf BK362.out 4; have hcz22_0 := bc BK363.out 0; have hcz22_1 := bc BK363.out 1; have hcz22_2 := bc BK363.out 2; have hcz22_3 := bc BK363.out 3; have hcz22_4 := bc BK363.out 4; have hfz22_0 := bf BK363.out 0; have hfz22_1 := bf BK363.out 1; have hfz22_2 := bf BK363.out 2; have hfz22_3 := bf BK363.out 3; have hfz22_4 := bf BK363.out 4))
    go_ret
    exact ⟨eq_, bel2 GE362.out GE363.out⟩
   rw [if_neg c11] at H
   have c11b0 : (a0_3.toList == a1_3.toList) = false := beq_eq_false_iff_ne.mpr c11
   have c11b1 : (a0_3.toList != a1_3.toList) = true := bne_iff_ne.mpr c11
   obtain rfl := Option.some.inj H; go_enter Tryz.func64, Tryz.ntmps64
   go_wp2_with (first | ((with_reducible refine gate_dst (N := 2) rfl ?_); refine bx 2 (cs := #[.string a0_0, .bool a0_1, .string a0_2, .string a0_3, .string a0_4]) (t := 82) ?_; intro gb362 hg w23 hbox hb; have BK362 := am (hbox); have GW362 := am ((b0_ : w.heap.size ≤ gb362)); have GE362 := am ((b0_ : w.heap.size ≤ gb362)); replace HB := am (below_step bel hb); clear hb hbox hg) | ((with_reducible refine gate_dst (N := 3) rfl ?_); refine bx 3 (cs := #[.string a1_0, .bool a1_1, .string a1_2, .string a1_3, .string a1_4]) (t := 82) ?_; intro gb363 hg w24 hbox hb; have BK363 := am (hbox); have GW363 := am ((b16_ : w.heap.size ≤ gb363)); have GE363 := am ((b16_ : w.heap.size ≤ gb363)); replace HB := am (below_step (bel1 GE362.out) hb); have NB362_363 := am ((b11_ : gb362 ≠ gb363)); have NB363_362 := am ((b12_ : gb363 ≠ gb362)); replace BK362 := am (blk_below (g := gb362) (o := .cells #[.string a0_0, .bool a0_1, .string a0_2, .string a0_3, .string a0_4] 82 (0, 0)) (bq BK362.out) hb); clear hb hbox hg; have hnb25 := NB362_363.out; have hnc25 := NB363_362.out; have hcz26_0 := bc BK362.out 0; have hcz26_1 := bc BK362.out 1; have hcz26_2 := bc BK362.out 2; have hcz26_3 := bc BK362.out 3; have hcz26_4 := bc BK362.out 4; have hfz26_0 := bf BK362.out 0; have hfz26_1 := bf BK362.out 1; have hfz26_2 := bf BK362.out 2; have hfz26_3 := bf BK362.out 3; have hfz26_4 := bf BK362.out 4; have hcz27_0 := bc BK363.out 0; have hcz27_1 := bc BK363.out 1; have hcz27_2 := bc BK363.out 2; have hcz27_3 := bc BK363.out 3; have hcz27_4 := bc BK363.out 4; have hfz27_0 := bf BK363.out 0; have hfz27_1 := bf BK363.out 1; have hfz27_2 := bf BK363.out 2; have hfz27_3 := bf BK363.out 3; have hfz27_4 := bf BK363.out 4))
   go_ret
   exact ⟨eq_, bel2 GE362.out GE363.out⟩
  rw [if_neg c10] at H
  have c10b0 : (a0_2.toList == a1_2.toList) = false := beq_eq_false_iff_ne.mpr c10
  have c10b1 : (a0_2.toList != a1_2.toList) = true := bne_iff_ne.mpr c10
  obtain rfl := Option.some.inj H; go_enter Tryz.func64, Tryz.ntmps64
  go_wp2_with (first | ((with_reducible refine gate_dst (N := 2) rfl ?_); refine bx 2 (cs := #[.string a0_0, .bool a0_1, .string a0_2, .string a0_3, .string a0_4]) (t := 82) ?_; intro gb362 hg w28 hbox hb; have BK362 := am (hbox); have GW362 := am ((b0_ : w.heap.size ≤ gb362)); have GE362 := am ((b0_ : w.heap.size ≤ gb362)); replace HB := am (below_step bel hb); clear hb hbox hg) | ((with_reducible refine gate_dst (N := 3) rfl ?_); refine bx 3 (cs := #[.string a1_0, .bool a1_1, .string a1_2, .string a1_3, .string a1_4]) (t := 82) ?_; intro gb363 hg w29 hbox hb; have BK363 := am (hbox); have GW363 := am ((b16_ : w.heap.size ≤ gb363)); have GE363 := am ((b16_ : w.heap.size ≤ gb363)); replace HB := am (below_step (bel1 GE362.out) hb); have NB362_363 := am ((b11_ : gb362 ≠ gb363)); have NB363_362 := am ((b12_ : gb363 ≠ gb362)); replace BK362 := am (blk_below (g := gb362) (o := .cells #[.string a0_0, .bool a0_1, .string a0_2, .string a0_3, .string a0_4] 82 (0, 0)) (bq BK362.out) hb); clear hb hbox hg; have hnb30 := NB362_363.out; have hnc30 := NB363_362.out; have hcz31_0 := bc BK362.out 0; have hcz31_1 := bc BK362.out 1; have hcz31_2 := bc BK362.out 2; have hcz31_3 := bc BK362.out 3; have hcz31_4 := bc BK362.out 4; have hfz31_0 := bf BK362.out 0; have hfz31_1 := bf BK362.out 1; have hfz31_2 := bf BK362.out 2; have hfz31_3 := bf BK362.out 3; have hfz31_4 := bf BK362.out 4; have hcz32_0 := bc BK363.out 0; have hcz32_1 := bc BK363.out 1; have hcz32_2 := bc BK363.out 2; have hcz32_3 := bc BK363.out 3; have hcz32_4 := bc BK363.out 4; have hfz32_0 := bf BK363.out 0; have hfz32_1 := bf BK363.out 1; have hfz32_2 := bf BK363.out 2; have hfz32_3 := bf BK363.out 3; have hfz32_4 := bf BK363.out 4))
  go_ret
  exact ⟨eq_, bel2 GE362.out GE363.out⟩
 rw [if_neg c3] at H
 have c3b0 : (a0_0.toList == a1_0.toList) = false := beq_eq_false_iff_ne.mpr c3
 have c3b1 : (a0_0.toList != a1_0.toList) = true := bne_iff_ne.mpr c3
 obtain rfl := Option.some.inj H; go_enter Tryz.func64, Tryz.ntmps64
 go_wp2_with (first | ((with_reducible refine gate_dst (N := 2) rfl ?_); refine bx 2 (cs := #[.string a0_0, .bool a0_1, .string a0_2, .string a0_3, .string a0_4]) (t := 82) ?_; intro gb362 hg w33 hbox hb; have BK362 := am (hbox); have GW362 := am ((b0_ : w.heap.size ≤ gb362)); have GE362 := am ((b0_ : w.heap.size ≤ gb362)); replace HB := am (below_step bel hb); clear hb hbox hg) | ((with_reducible refine gate_dst (N := 3) rfl ?_); refine bx 3 (cs := #[.string a1_0, .bool a1_1, .string a1_2, .string a1_3, .string a1_4]) (t := 82) ?_; intro gb363 hg w34 hbox hb; have BK363 := am (hbox); have GW363 := am ((b16_ : w.heap.size ≤ gb363)); have GE363 := am ((b16_ : w.heap.size ≤ gb363)); replace HB := am (below_step (bel1 GE362.out) hb); have NB362_363 := am ((b11_ : gb362 ≠ gb363)); have NB363_362 := am ((b12_ : gb363 ≠ gb362)); replace BK362 := am (blk_below (g := gb362) (o := .cells #[.string a0_0, .bool a0_1, .string a0_2, .string a0_3, .string a0_4] 82 (0, 0)) (bq BK362.out) hb); clear hb hbox hg; have hnb35 := NB362_363.out; have hnc35 := NB363_362.out; have hcz36_0 := bc BK362.out 0; have hcz36_1 := bc BK362.out 1; have hcz36_2 := bc BK362.out 2; have hcz36_3 := bc BK362.out 3; have hcz36_4 := bc BK362.out 4; have hfz36_0 := bf BK362.out 0; have hfz36_1 := bf BK362.out 1; have hfz36_2 := bf BK362.out 2; have hfz36_3 := bf BK362.out 3; have hfz36_4 := bf BK362.out 4; have hcz37_0 := bc BK363.out 0; have hcz37_1 := bc BK363.out 1; have hcz37_2 := bc BK363.out 2; have hcz37_3 := bc BK363.out 3; have hcz37_4 := bc BK363.out 4; have hfz37_0 := bf BK363.out 0; have hfz37_1 := bf BK363.out 1; have hfz37_2 := bf BK363.out 2; have hfz37_3 := bf BK363.out 3; have hfz37_4 := bf BK363.out 4))
 go_ret
 exact ⟨eq_, bel2 GE362.out GE363.out⟩

/-! ### laws_eqAffixS: function 32 -/
def laws_eqAffixS.l0 : Nat → List (S82) → List (S82) → Int → Option (Bool)
 | 0, _, _, _ => none
 | k + 1, x0, x1, x5 => if x5 < (x0.length : Int) then (if 0 ≤ x5 then (if x5 < (x1.length : Int) then ((laws_eqAffix.f ((rd_T82 x0 x5).f0) ((rd_T82 x0 x5).f1) ((rd_T82 x0 x5).f2) ((rd_T82 x0 x5).f3) ((rd_T82 x0 x5).f4) ((rd_T82 x1 x5).f0) ((rd_T82 x1 x5).f1) ((rd_T82 x1 x5).f2) ((rd_T82 x1 x5).f3) ((rd_T82 x1 x5).f4)).bind fun t366 => (if t366 = true then (laws_eqAffixS.l0 k x0 x1 (wrap64 (x5 + 1))) else (some false))) else (none)) else (none)) else (some true)
def laws_eqAffixS.f (k : Nat) (l0 : List (S82)) (l1 : List (S82)) : Option (Bool) := if (l0.length : Int) = (l1.length : Int) then (laws_eqAffixS.l0 k l0 l1 0) else (some false)
def laws_eqAffixS.T6 : Bool × List (List Nat × List Nat) := (true, [([], []), ([], []), ([0, 1], [0, 1]), ([2], [2]), ([], []), ([], []), ([4, 5], [4, 5]), ([6], [6]), ([3, 7], [3, 7]), ([8], [8])])
def laws_eqAffixS.B6 : List Nat := [0, 0, 3, 7, 0, 0, 48, 112, 255, 511]
theorem laws_eqAffixS.tab6 : rtab .any (opsOf Tryz.f32 6) = laws_eqAffixS.T6 := by kernel_rfl
theorem laws_eqAffixS.bits6 : waitsOk laws_eqAffixS.T6.2 laws_eqAffixS.B6 = true := by kernel_rfl
theorem laws_eqAffixS.calls (k : Nat) (A0 : Option Addr) (c0 : Nat) (l0 : List (S82)) (A1 : Option Addr) (c1 : Nat) (l1 : List (S82)) (r : Bool) (w : World) (hr0 : Kd.C k82 w A0 l0.length l0) (hc0 : l0.length ≤ c0) (hr1 : Kd.C k82 w A1 l1.length l1) (hc1 : l1.length ≤ c1) (h : laws_eqAffixS.f k l0 l1 = some r) :
  Calls Tryz.prog 32 #[.slice A0 l0.length c0, .slice A1 l1.length c1] w fun e w' => e = .returned (.bool r) ∧ Below w.heap.size w w' := by
 have hu82 := Tryz.underlying82; have HR0 := am hr0; have HC0 := am hc0; clear hr0 hc0; have HR1 := am hr1; have HC1 := am hc1; clear hr1 hc1; have HB := am (Below.refl w.heap.size w)
 have H : (if (l0.length : Int) = (l1.length : Int) then (laws_eqAffixS.l0 k l0 l1 0) else (some false)) = some r := h
 clear h
 by_cases c3 : (l0.length : Int) = (l1.length : Int)
 ·rw [if_pos c3] at H
  have c3b0 : ((l0.length : Int) == (l1.length : Int)) = true := beq_iff_eq.mpr c3
  have c3b1 : ((l0.length : Int) != (l1.length : Int)) = false := bne_eq_false_iff_eq.mpr c3
  have c3b2 : (l0.length == l1.length) = true := b37_
  clear c3
  have H' := am H
  clear H; go_enter Tryz.func32, Tryz.ntmps32; go_wp2
  go_loopg [5] k (fun kq v5 w' => ∃ (x5_1 : Int), v5 = .int .i64 x5_1 ∧ Aside0 (laws_eqAffixS.l0 kq l0 l1 x5_1 = some r) ∧ Aside0 (kq ≤ k) ∧ Aside0 (Below w.heap.size w w'))
  case atStart => exact ⟨(0), sq, H', ⟨Nat.le_refl _⟩, ⟨bel⟩⟩
  case round =>
   clear H'; (try clear c1); (try clear p2); (try clear c3); (try clear c3b0); (try clear c3b1); (try clear c3b2); obtain ⟨x5_1, rfl, HA, HK1, HB⟩ := hrel
   cases gk with
   | zero => exact absurd HA.out (by simp [laws_eqAffixS.l0])
   | succ k1 =>
    have H := HA.out; clear HA
    simp only [laws_eqAffixS.l0] at H
    by_cases c4 : x5_1 < (l0.length : Int)
    ·rw [if_pos c4] at H; have c4b0 := decide_eq_true c4; clear c4
     replace H := it H; obtain ⟨c5b0, H⟩ := H
     replace H := it H; obtain ⟨c6b0, H⟩ := H; replace H := bs H; obtain ⟨t366, A70, H⟩ := H; replace H : (if t366 = true then (laws_eqAffixS.l0 k1 l0 l1 (wrap64 (x5_1 + 1))) else (some false)) = some r := H; have A7 := Aside0.mk A70; clear A70
     by_cases c8 : t366 = true
     ·subst c8
      have H1 : (laws_eqAffixS.l0 k1 l0 l1 (wrap64 (x5_1 + 1))) = some r := b8_
      replace H := H1; clear H1
      have H' := am H
      clear H
      try go_wp2
      replace HB := am (below_drew1 HB.out)
      have p364 : 0 ≤ (x5_1 : Int) := of_decide_eq_true ad
      have q364 : x5_1 < (l0.length : Int) := of_decide_eq_true ad
      obtain ⟨ad364, e364, hx364_0, hx364_1, hx364_2, hx364_3, hx364_4⟩ := at_T82 HR0.out x5_1 p364 q364; have hw364_4 := hx364_4; have hw364_3 := hx364_3; have hw364_2 := hx364_2; have hw364_1 := hx364_1; have hw364_0 := hx364_0
      cases e364
      replace hx364_0 := kp HB.out hx364_0; replace hx364_1 := kp HB.out hx364_1; replace hx364_2 := kp HB.out hx364_2; replace hx364_3 := kp HB.out hx364_3; replace hx364_4 := kp HB.out hx364_4; replace p364 := eq_true p364; replace q364 := eq_true q364
      have p365 : 0 ≤ (x5_1 : Int) := of_decide_eq_true ad
      have q365 : x5_1 < (l1.length : Int) := of_decide_eq_true ad
      obtain ⟨ad365, e365, hx365_0, hx365_1, hx365_2, hx365_3, hx365_4⟩ := at_T82 HR1.out x5_1 p365 q365; have hw365_4 := hx365_4; have hw365_3 := hx365_3; have hw365_2 := hx365_2; have hw365_1 := hx365_1; have hw365_0 := hx365_0
      cases e365
      replace hx365_0 := kp HB.out hx365_0; replace hx365_1 := kp HB.out hx365_1; replace hx365_2 := kp HB.out hx365_2; replace hx365_3 := kp HB.out hx365_3; replace hx365_4 := kp HB.out hx365_4; replace p365 := eq_true p365; replace q365 := eq_true q365
      refine st (n := 10) (S := fun w' => w'.cell? (ad364.add ((x5_1).toNat * 5)) = some (.string ((rd_T82 l0 x5_1).f0)) ∧ w'.cell? ⟨(ad364.add ((x5_1).toNat * 5)).block, (ad364.add ((x5_1).toNat * 5)).off + 1, none⟩ = some (.bool ((rd_T82 l0 x5_1).f1)) ∧ w'.cell? ⟨(ad364.add ((x5_1).toNat * 5)).block, (ad364.add ((x5_1).toNat * 5)).off + 2, none⟩ = some (.string ((rd_T82 l0 x5_1).f2)) ∧ w'.cell? ⟨(ad364.add ((x5_1).toNat * 5)).block, (ad364.add ((x5_1).toNat * 5)).off + 3, none⟩ = some (.string ((rd_T82 l0 x5_1).f3)) ∧ w'.cell? ⟨(ad364.add ((x5_1).toNat * 5)).block, (ad364.add ((x5_1).toNat * 5)).off + 4, none⟩ = some (.string ((rd_T82 l0 x5_1).f4)) ∧ w'.cell? (ad365.add ((x5_1).toNat * 5)) = some (.string ((rd_T82 l1 x5_1).f0)) ∧ w'.cell? ⟨(ad365.add ((x5_1).toNat * 5)).block, (ad365.add ((x5_1).toNat * 5)).off + 1, none⟩ = some (.bool ((rd_T82 l1 x5_1).f1)) ∧ w'.cell? ⟨(ad365.add ((x5_1).toNat * 5)).block, (ad365.add ((x5_1).toNat * 5)).off + 2, none⟩ = some (.string ((rd_T82 l1 x5_1).f2)) ∧ w'.cell? ⟨(ad365.add ((x5_1).toNat * 5)).block, (ad365.add ((x5_1).toNat * 5)).off + 3, none⟩ = some (.string ((rd_T82 l1 x5_1).f3)) ∧ w'.cell? ⟨(ad365.add ((x5_1).toNat * 5)).block, (ad365.add ((x5_1).toNat * 5)).off + 4, none⟩ = some (.string ((rd_T82 l1 x5_1).f4))) (ds := []) ⟨(kp HB.out hw364_0), (kp HB.out hw364_1), (kp HB.out hw364_2), (kp HB.out hw364_3), (kp HB.out hw364_4), (kp HB.out hw365_0), (kp HB.out hw365_1), (kp HB.out hw365_2), (kp HB.out hw365_3), (kp HB.out hw365_4)⟩ (fun hHeld => ?_); refine with_tabW laws_eqAffixS.tab6 laws_eqAffixS.bits6 (fun HT_ HW_ => ?_)
      generalize wr.drew = w9 at HB hx364_0 hx364_1 hx364_2 hx364_3 hx364_4 hx365_0 hx365_1 hx365_2 hx365_3 hx365_4 hHeld ⊢
      refine pu 0 17 ?_
      refine pu 1 18 ?_
      refine pu 2 19 ?_
      refine pu 4 21 ?_
      refine pu 5 22 ?_
      refine pu 6 23 ?_
      refine take_ (i := 3) (N := some 20) (v := ?_) (a' := ?_) #[true, true, true, true, true, true, true, false, false, false] rfl rfl (take_ofW HT_.out HW_.out (by kernel_rfl)) (fun _ _ _ h => h) (Or.inl ⟨by rfl, ?_⟩) hHeld ?_ ?_
      rotate_left
      ·rintro w' ⟨s0, s1, s2, s3, s4, s5, s6, s7, s8, s9⟩
       go_simp
       with_reducible rfl
      rotate_left
      ·simp only [Act.put, List.setIfInBounds_toArray, List.set_cons_zero, List.set_cons_succ, i64_w, i32_w]
       rfl
      refine take_ (i := 7) (N := some 24) (v := ?_) (a' := ?_) #[true, true, true, true, true, true, true, true, false, false] rfl rfl (take_ofW HT_.out HW_.out (by kernel_rfl)) (fun _ _ _ h => h) (Or.inl ⟨by rfl, ?_⟩) hHeld ?_ ?_
      rotate_left
      ·rintro w' ⟨s0, s1, s2, s3, s4, s5, s6, s7, s8, s9⟩
       go_simp
       with_reducible rfl
      rotate_left
      ·simp only [Act.put, List.setIfInBounds_toArray, List.set_cons_zero, List.set_cons_succ, i64_w, i32_w]
       rfl
      refine on1 8 25 (fun K hK => ?_)
      refine goes_ Tryz.func64 (by kernel_rfl) rfl #[.agg #[.string ((rd_T82 l0 x5_1).f0), .bool ((rd_T82 l0 x5_1).f1), .string ((rd_T82 l0 x5_1).f2), .string ((rd_T82 l0 x5_1).f3), .string ((rd_T82 l0 x5_1).f4)], .agg #[.string ((rd_T82 l1 x5_1).f0), .bool ((rd_T82 l1 x5_1).f1), .string ((rd_T82 l1 x5_1).f2), .string ((rd_T82 l1 x5_1).f3), .string ((rd_T82 l1 x5_1).f4)]] (by rfl) rfl rfl mq ?_
      with_reducible refine (laws_eqAffix.calls ((rd_T82 l0 x5_1).f0) ((rd_T82 l0 x5_1).f1) ((rd_T82 l0 x5_1).f2) ((rd_T82 l0 x5_1).f3) ((rd_T82 l0 x5_1).f4) ((rd_T82 l1 x5_1).f0) ((rd_T82 l1 x5_1).f1) ((rd_T82 l1 x5_1).f2) ((rd_T82 l1 x5_1).f3) ((rd_T82 l1 x5_1).f4) true _ A7.out).mono ?_
      rintro e w10 ⟨rfl, hb⟩
      refine ⟨_, rfl, ?_⟩
      replace HB := am (below_step bel hb)
      (try clear hb)
      (try clear hb2)
      (try clear hk)
      (try clear hi)
      refine hK.out _ _ ⟨(kp HB.out hw364_0), (kp HB.out hw364_1), (kp HB.out hw364_2), (kp HB.out hw364_3), (kp HB.out hw364_4), (kp HB.out hw365_0), (kp HB.out hw365_1), (kp HB.out hw365_2), (kp HB.out hw365_3), (kp HB.out hw365_4)⟩ (fun hHeld => ?_)
      clear hK K
      refine norm_ (a' := ?_) ?_ ?_
      rotate_left
      ·show Act.put _ (some 25) _ = _
       simp only [Act.put, List.setIfInBounds_toArray, List.set_cons_zero, List.set_cons_succ, i64_w, i32_w]
       rfl
      refine pu 9 26 ?_
      refine done_ (done_of HT_.out (by kernel_rfl)) ?_
      try go_wp2
      go_roundg k1
      case measure => have := HK1.out; omega
      case rel => exact ⟨(wrap64 (x5_1 + 1)), sq, H', ⟨b14_⟩, ⟨bel⟩⟩
     replace c8 := Bool.eq_false_iff.mpr c8; subst c8
     have H1 : (some false) = some r := b2_
     replace H := H1; clear H1
     obtain rfl := Option.some.inj H
     try go_wp2
     replace HB := am (below_drew1 HB.out)
     have p364 : 0 ≤ (x5_1 : Int) := of_decide_eq_true ad
     have q364 : x5_1 < (l0.length : Int) := of_decide_eq_true ad
     obtain ⟨ad364, e364, hx364_0, hx364_1, hx364_2, hx364_3, hx364_4⟩ := at_T82 HR0.out x5_1 p364 q364; have hw364_4 := hx364_4; have hw364_3 := hx364_3; have hw364_2 := hx364_2; have hw364_1 := hx364_1; have hw364_0 := hx364_0
     cases e364
     replace hx364_0 := kp HB.out hx364_0; replace hx364_1 := kp HB.out hx364_1; replace hx364_2 := kp HB.out hx364_2; replace hx364_3 := kp HB.out hx364_3; replace hx364_4 := kp HB.out hx364_4; replace p364 := eq_true p364; replace q364 := eq_true q364
     have p365 : 0 ≤ (x5_1 : Int) := of_decide_eq_true ad
     have q365 : x5_1 < (l1.length : Int) := of_decide_eq_true ad
     obtain ⟨ad365, e365, hx365_0, hx365_1, hx365_2, hx365_3, hx365_4⟩ := at_T82 HR1.out x5_1 p365 q365; have hw365_4 := hx365_4; have hw365_3 := hx365_3; have hw365_2 := hx365_2; have hw365_1 := hx365_1; have hw365_0 := hx365_0
     cases e365
     replace hx365_0 := kp HB.out hx365_0; replace hx365_1 := kp HB.out hx365_1; replace hx365_2 := kp HB.out hx365_2; replace hx365_3 := kp HB.out hx365_3; replace hx365_4 := kp HB.out hx365_4; replace p365 := eq_true p365; replace q365 := eq_true q365
     refine st (n := 10) (S := fun w' => w'.cell? (ad364.add ((x5_1).toNat * 5)) = some (.string ((rd_T82 l0 x5_1).f0)) ∧ w'.cell? ⟨(ad364.add ((x5_1).toNat * 5)).block, (ad364.add ((x5_1).toNat * 5)).off + 1, none⟩ = some (.bool ((rd_T82 l0 x5_1).f1)) ∧ w'.cell? ⟨(ad364.add ((x5_1).toNat * 5)).block, (ad364.add ((x5_1).toNat * 5)).off + 2, none⟩ = some (.string ((rd_T82 l0 x5_1).f2)) ∧ w'.cell? ⟨(ad364.add ((x5_1).toNat * 5)).block, (ad364.add ((x5_1).toNat * 5)).off + 3, none⟩ = some (.string ((rd_T82 l0 x5_1).f3)) ∧ w'.cell? ⟨(ad364.add ((x5_1).toNat * 5)).block, (ad364.add ((x5_1).toNat * 5)).off + 4, none⟩ = some (.string ((rd_T82 l0 x5_1).f4)) ∧ w'.cell? (ad365.add ((x5_1).toNat * 5)) = some (.string ((rd_T82 l1 x5_1).f0)) ∧ w'.cell? ⟨(ad365.add ((x5_1).toNat * 5)).block, (ad365.add ((x5_1).toNat * 5)).off + 1, none⟩ = some (.bool ((rd_T82 l1 x5_1).f1)) ∧ w'.cell? ⟨(ad365.add ((x5_1).toNat * 5)).block, (ad365.add ((x5_1).toNat * 5)).off + 2, none⟩ = some (.string ((rd_T82 l1 x5_1).f2)) ∧ w'.cell? ⟨(ad365.add ((x5_1).toNat * 5)).block, (ad365.add ((x5_1).toNat * 5)).off + 3, none⟩ = some (.string ((rd_T82 l1 x5_1).f3)) ∧ w'.cell? ⟨(ad365.add ((x5_1).toNat * 5)).block, (ad365.add ((x5_1).toNat * 5)).off + 4, none⟩ = some (.string ((rd_T82 l1 x5_1).f4))) (ds := []) ⟨(kp HB.out hw364_0), (kp HB.out hw364_1), (kp HB.out hw364_2), (kp HB.out hw364_3), (kp HB.out hw364_4), (kp HB.out hw365_0), (kp HB.out hw365_1), (kp HB.out hw365_2), (kp HB.out hw365_3), (kp HB.out hw365_4)⟩ (fun hHeld => ?_); refine with_tabW laws_eqAffixS.tab6 laws_eqAffixS.bits6 (fun HT_ HW_ => ?_)
     generalize wr.drew = w11 at HB hx364_0 hx364_1 hx364_2 hx364_3 hx364_4 hx365_0 hx365_1 hx365_2 hx365_3 hx365_4 hHeld ⊢
     refine pu 0 17 ?_
     refine pu 1 18 ?_
     refine pu 2 19 ?_
     refine pu 4 21 ?_
     refine pu 5 22 ?_
     refine pu 6 23 ?_
     refine take_ (i := 3) (N := some 20) (v := ?_) (a' := ?_) #[true, true, true, true, true, true, true, false, false, false] rfl rfl (take_ofW HT_.out HW_.out (by kernel_rfl)) (fun _ _ _ h => h) (Or.inl ⟨by rfl, ?_⟩) hHeld ?_ ?_
     rotate_left
     ·rintro w' ⟨s0, s1, s2, s3, s4, s5, s6, s7, s8, s9⟩
      go_simp
      with_reducible rfl
     rotate_left
     ·simp only [Act.put, List.setIfInBounds_toArray, List.set_cons_zero, List.set_cons_succ, i64_w, i32_w]
      rfl
     refine take_ (i := 7) (N := some 24) (v := ?_) (a' := ?_) #[true, true, true, true, true, true, true, true, false, false] rfl rfl (take_ofW HT_.out HW_.out (by kernel_rfl)) (fun _ _ _ h => h) (Or.inl ⟨by rfl, ?_⟩) hHeld ?_ ?_
     rotate_left
     ·rintro w' ⟨s0, s1, s2, s3, s4, s5, s6, s7, s8, s9⟩
      go_simp
      with_reducible rfl
     rotate_left
     ·simp only [Act.put, List.setIfInBounds_toArray, List.set_cons_zero, List.set_cons_succ, i64_w, i32_w]
      rfl
     refine on1 8 25 (fun K hK => ?_)
     refine goes_ Tryz.func64 (by kernel_rfl) rfl #[.agg #[.string ((rd_T82 l0 x5_1).f0), .bool ((rd_T82 l0 x5_1).f1), .string ((rd_T82 l0 x5_1).f2), .string ((rd_T82 l0 x5_1).f3), .string ((rd_T82 l0 x5_1).f4)], .agg #[.string ((rd_T82 l1 x5_1).f0), .bool ((rd_T82 l1 x5_1).f1), .string ((rd_T82 l1 x5_1).f2), .string ((rd_T82 l1 x5_1).f3), .string ((rd_T82 l1 x5_1).f4)]] (by rfl) rfl rfl mq ?_
     with_reducible refine (laws_eqAffix.calls ((rd_T82 l0 x5_1).f0) ((rd_T82 l0 x5_1).f1) ((rd_T82 l0 x5_1).f2) ((rd_T82 l0 x5_1).f3) ((rd_T82 l0 x5_1).f4) ((rd_T82 l1 x5_1).f0) ((rd_T82 l1 x5_1).f1) ((rd_T82 l1 x5_1).f2) ((rd_T82 l1 x5_1).f3) ((rd_T82 l1 x5_1).f4) false _ A7.out).mono ?_
     rintro e w12 ⟨rfl, hb⟩
     refine ⟨_, rfl, ?_⟩
     replace HB := am (below_step bel hb)
     (try clear hb)
     (try clear hb2)
     (try clear hk)
     (try clear hi)
     refine hK.out _ _ ⟨(kp HB.out hw364_0), (kp HB.out hw364_1), (kp HB.out hw364_2), (kp HB.out hw364_3), (kp HB.out hw364_4), (kp HB.out hw365_0), (kp HB.out hw365_1), (kp HB.out hw365_2), (kp HB.out hw365_3), (kp HB.out hw365_4)⟩ (fun hHeld => ?_)
     clear hK K
     refine norm_ (a' := ?_) ?_ ?_
     rotate_left
     ·show Act.put _ (some 25) _ = _
      simp only [Act.put, List.setIfInBounds_toArray, List.set_cons_zero, List.set_cons_succ, i64_w, i32_w]
      rfl
     refine pu 9 26 ?_
     refine done_ (done_of HT_.out (by kernel_rfl)) ?_
     try go_wp2
     go_ret
     exact ⟨eq_, bel⟩
    rw [if_neg c4] at H; have c4b0 := decide_eq_false c4; clear c4; obtain rfl := Option.some.inj H; go_wp2; go_ret
    exact ⟨eq_, bel⟩
 rw [if_neg c3] at H
 have c3b0 : ((l0.length : Int) == (l1.length : Int)) = false := beq_eq_false_iff_ne.mpr c3
 have c3b1 : ((l0.length : Int) != (l1.length : Int)) = true := bne_iff_ne.mpr c3
 have c3b2 : (l0.length == l1.length) = false := b37_
 obtain rfl := Option.some.inj H; go_enter Tryz.func32, Tryz.ntmps32; go_wp2; go_ret
 exact ⟨eq_, bel⟩
end Go.Proofs.YtfpmfaelodfecaaGreatDoor.QFnExactCheck

import Derived.Test.YtfpmfaelodfecaaGreatDoorQFnCheckx0
import Derived.Test.YtfpmfaelodfecaaGreatDoorQFnCheckx6
import Derived.Test.YtfpmfaelodfecaaGreatDoorVMSh2
namespace Go.Proofs.YtfpmfaelodfecaaGreatDoor.QFnCheck
open Go.RowKit Go.Proofs.YtfpmfaelodfecaaGreatDoorW.PrintWords Go.Proofs.YtfpmfaelodfecaaGreatDoorW.PrintLast Go.Proofs.YtfpmfaelodfecaaGreatDoorW.PrintMore Go.Proofs.YtfpmfaelodfecaaGreatDoor.Sh
attribute [local go_sem] max2_int min2_int max_two min_two max_three min_three max_four min_four
set_option linter.unusedVariables false
set_option linter.unusedSimpArgs false
set_option maxHeartbeats 8000000
set_option maxRecDepth 100000
-- shrunk

/-! ### spec_Check: function 6 -/
mutual
def spec_Check.j0 : Nat → ByteArray → List (S43) → Bool → List (S82) → List (S78) → Option ((List (S43)))
 | 0, _, _, _, _, _ => none
 | k + 1, x1, x5, x18, x194000, x194001 => if x18 = true then (some x5) else ((spec_l2Words.f k x194000 x194001).bind fun t198 => (spec_Check.l0 k x1 x5 t198 0))
def spec_Check.l0 : Nat → ByteArray → List (S43) → List ByteArray → Int → Option ((List (S43)))
 | 0, _, _, _, _ => none
 | k + 1, x1, x5, x6, x7 => if x7 < (x1.size : Int) then (if 0 ≤ x7 then ((spec_l4Letter.f (bt x1 x7)).bind fun t201 => (if t201 = true then (if x7 > 0 then (if 0 ≤ (wrap64 (x7 - 1)) then (if (wrap64 (x7 - 1)) < (x1.size : Int) then ((spec_l4Letter.f (bt x1 (wrap64 (x7 - 1)))).bind fun t202 => (spec_Check.j2 k x1 x5 x6 x7 t202)) else (none)) else (none)) else (spec_Check.j2 k x1 x5 x6 x7 false)) else (spec_Check.j2 k x1 x5 x6 x7 true))) else (none)) else (some x5)
def spec_Check.j2 : Nat → ByteArray → List (S43) → List ByteArray → Int → Bool → Option ((List (S43)))
 | 0, _, _, _, _, _ => none
 | k + 1, x1, x5, x6, x7, x43 => if x43 = true then (spec_Check.l0 k x1 x5 x6 (wrap64 (x7 + 1))) else (spec_Check.l1 k x1 x5 x6 x7 x7)
def spec_Check.j4 : Nat → ByteArray → List (S43) → List ByteArray → Int → Int → Option ((List (S43)))
 | 0, _, _, _, _, _ => none
 | k + 1, x1, x5, x6, x7, x8 => if 0 ≤ x7 then (if x7 ≤ x8 then (if x8 ≤ (x1.size : Int) then ((spec_l4Small.f (x1.extract (x7 : Int).toNat (x8 : Int).toNat)).bind fun t204 => ((spec_l2In.f k x6 t204).bind fun t205 => (if t205 = true then (spec_Check.l0 k x1 x5 x6 (wrap64 (x7 + 1))) else (if x5.length < 5864062014805 then (spec_Check.l0 k x1 (x5 ++ [(⟨t204, x7⟩ : S43)]) x6 (wrap64 (x7 + 1))) else (none))))) else (none)) else (none)) else (none)
def spec_Check.l1 : Nat → ByteArray → List (S43) → List ByteArray → Int → Int → Option ((List (S43)))
 | 0, _, _, _, _, _ => none
 | k + 1, x1, x5, x6, x7, x8 => if x8 < (x1.size : Int) then (if 0 ≤ x8 then ((spec_l4Letter.f (bt x1 x8)).bind fun t203 => (if t203 = true then (spec_Check.l1 k x1 x5 x6 x7 (wrap64 (x8 + 1))) else (spec_Check.j4 k x1 x5 x6 x7 x8))) else (none)) else (spec_Check.j4 k x1 x5 x6 x7 x8)
end
def spec_Check.f (k : Nat) (l0_0 : List (S82)) (l0_1 : List (S78)) (a1 : ByteArray) : Option ((List (S43))) := (some (([] : List (S43)) : List (S43))).bind fun y194 => ((spec_BookOk.f k l0_0 l0_1).bind fun t197 => (if t197 = true then (spec_Check.j0 k a1 y194 (decide ((a1.size : Int) > 300)) l0_0 l0_1) else (spec_Check.j0 k a1 y194 true l0_0 l0_1)))
theorem spec_Check.calls (k : Nat) (A0_0 : Option Addr) (c0_0 : Nat) (l0_0 : List (S82)) (A0_1 : Option Addr) (c0_1 : Nat) (l0_1 : List (S78)) (a1 : ByteArray) (r : List (S43)) (w : World) (hr0_0 : Kd.C k82 w A0_0 l0_0.length l0_0) (hc0_0 : l0_0.length ≤ c0_0) (hr0_1 : Kd.C k78 w A0_1 l0_1.length l0_1) (hc0_1 : l0_1.length ≤ c0_1) (h : spec_Check.f k l0_0 l0_1 a1 = some r) :
  Calls Tryz.prog 6 #[.agg #[.slice A0_0 l0_0.length c0_0, .slice A0_1 l0_1.length c0_1], .string a1] w fun e w' => ∃ v0_ : Value, e = .returned (v0_) ∧ Kd.R k43 43 w' w.heap.size (fun _ => True) v0_ r ∧ Below w.heap.size w w' := by
 have hu32 := Tryz.underlying32; have hu43 := Tryz.underlying43; have HR0_0 := am hr0_0; have HC0_0 := am hc0_0; clear hr0_0 hc0_0; have HR0_1 := am hr0_1; have HC0_1 := am hc0_1; clear hr0_1 hc0_1; have HB := am (Below.refl w.heap.size w)
 have H : ((some (([] : List (S43)) : List (S43))).bind fun y194 => ((spec_BookOk.f k l0_0 l0_1).bind fun t197 => (if t197 = true then (spec_Check.j0 k a1 y194 (decide ((a1.size : Int) > 300)) l0_0 l0_1) else (spec_Check.j0 k a1 y194 true l0_0 l0_1)))) = some r := h
 clear h; obtain ⟨y194, hy194⟩ : ∃ y_ : List (S43), y_ = (([] : List (S43))) := ⟨_, rfl⟩
 replace H : ((spec_BookOk.f k l0_0 l0_1).bind fun t197 => (if t197 = true then (spec_Check.j0 k a1 y194 (decide ((a1.size : Int) > 300)) l0_0 l0_1) else (spec_Check.j0 k a1 y194 true l0_0 l0_1))) = some r := by first | (rw [hy194]; with_reducible exact H) | (have H2_ := bm H; rw [hy194]; with_reducible exact H2_) | (with_reducible exact bm H) | with_reducible exact H | (rw [hy194]; exact H) | exact H
 have Ny194 := am hy194; clear hy194; have HC3 := am H; clear H; go_enter Tryz.func6, Tryz.ntmps6
 go_upto_region 2 with (first | ((with_reducible refine gate_dst (N := 2) rfl ?_); (try (refine gate_guard (by rfl) ?_; dsimp only)); refine bx 2 (cs := #[.slice A0_0 l0_0.length c0_0, .slice A0_1 l0_1.length c0_1]) (t := 32) ?_; intro gb193 hg w4 hbox hb; have BK193 := am (hbox); have GW193 := am ((b19_ : w.heap.size ≤ gb193)); have GE193 := am ((b19_ : w.heap.size ≤ gb193)); replace HB := am (below_step bel hb); clear hb hbox hg) | ((with_reducible refine gate_dst (N := 10) rfl ?_); (try (refine gate_guard (by rfl) ?_; dsimp only)); refine Kd.R_lit k43 _ 43 ?hg (N := 10) ?hd (xs := ([] : List (S43))) (inner := []) (ok := fun _ => True) (okp := fun _ => True) ?hr ?hp (fun _ hk => hk) trivial (Below.refl _ _) (Nat.le_refl _) (by simp) ?_; (case hd => rfl); (case hg => rfl); (case hr => first | (go_simp; done) | (go_simp; rfl)); (case hp => exact (Reps.none _ _)); intro v195 w5 ho6 hb hg_ hnew_; clear hg_ hnew_; (first | rw [← Ny194.out] at ho6 | (simp only [Int.reduceToNat] at ho6; rw [← Ny194.out] at ho6) | (simp only [Int.toNat_natCast] at ho6; rw [← Ny194.out] at ho6)); have HO196 := am (Kd.R_lower ho6 (below_size (bel1 GE193.out))); replace BK193 := am (blk_below (g := gb193) (o := .cells #[.slice A0_0 l0_0.length c0_0, .slice A0_1 l0_1.length c0_1] 32 (0, 0)) (bq BK193.out) hb); replace HB := am (below_step (bel1 GE193.out) hb); clear hb ho6))
 (try simp only [Act.put, List.setIfInBounds_toArray, List.set_cons_zero, List.set_cons_succ])
 go_cut [18] (fun v18 wc => ∃ (kq : Nat) (x18_2 : Bool), v18 = .bool x18_2 ∧ Aside0 (spec_Check.j0 kq a1 y194 x18_2 l0_0 l0_1 = some r) ∧ Aside0 (kq ≤ k) ∧ Aside0 (Kd.R k43 43 wc w.heap.size (fun _ => True) v195 y194) ∧ Aside0 (wc.heap[gb193]? = some (.cells #[(.slice A0_0 l0_0.length c0_0), (.slice A0_1 l0_1.length c0_1)] 32 (0, 0))) ∧ Aside0 (Below w.heap.size w wc))
 case first =>
  have H := HC3.out; clear HC3; replace H := bs H; obtain ⟨t197, A70, H⟩ := H; replace H : (if t197 = true then (spec_Check.j0 k a1 y194 (decide ((a1.size : Int) > 300)) l0_0 l0_1) else (spec_Check.j0 k a1 y194 true l0_0 l0_1)) = some r := H; have A7 := Aside0.mk A70; clear A70
  by_cases c8 : t197 = true
  ·subst c8
   have H1 : (spec_Check.j0 k a1 y194 (decide ((a1.size : Int) > 300)) l0_0 l0_1) = some r := b32_
   replace H := H1; clear H1
   have H' := am H
   clear H; have hcz9_0 := bc BK193.out 0; have hcz9_1 := bc BK193.out 1; have hfz9_0 := bf BK193.out 0; have hfz9_1 := bf BK193.out 1
   go_wp2_with (first | ((with_reducible refine gate_callee (f := 19) rfl ?_); refine goesL_ (some 12) rfl rfl Tryz.func19 (by kernel_rfl) rfl #[.agg #[.slice A0_0 l0_0.length c0_0, .slice A0_1 l0_1.length c0_1]] rfl mq ?_; (with_reducible refine (spec_BookOk.calls k _ _ l0_0 _ _ l0_1 true _ ?side1 ?side2 ?side3 ?side4 A7.out).mono ?_); (case side1 => exact cq (Kd.C_below HR0_0.out HB.out)); (case side2 => exact HC0_0.out); (case side3 => exact cq (Kd.C_below HR0_1.out HB.out)); (case side4 => exact HC0_1.out); rintro e w10 ⟨rfl, hb⟩; refine ⟨_, rfl, ?_⟩; replace HO196 := am (Kd.R_below (rq HO196.out) hb); replace BK193 := am (blk_below (g := gb193) (o := .cells #[.slice A0_0 l0_0.length c0_0, .slice A0_1 l0_1.length c0_1] 32 (0, 0)) (bq BK193.out) hb); replace HB := am (below_step (bel1 GE193.out) hb); (try clear hb); (try clear hb2); (try clear hk); (try clear hi)))
   go_meet
   case rel => exact ⟨_, (decide ((a1.size : Int) > 300)), sq, H', ⟨b57_⟩, ⟨rq HO196.out⟩, ⟨bq BK193.out⟩, ⟨bel1 GE193.out⟩⟩
  replace c8 := Bool.eq_false_iff.mpr c8; subst c8
  have H1 : (spec_Check.j0 k a1 y194 true l0_0 l0_1) = some r := b13_
  replace H := H1; clear H1
  have H' := am H
  clear H; have hcz11_0 := bc BK193.out 0; have hcz11_1 := bc BK193.out 1; have hfz11_0 := bf BK193.out 0; have hfz11_1 := bf BK193.out 1
  go_wp2_with (first | ((with_reducible refine gate_callee (f := 19) rfl ?_); refine goesL_ (some 12) rfl rfl Tryz.func19 (by kernel_rfl) rfl #[.agg #[.slice A0_0 l0_0.length c0_0, .slice A0_1 l0_1.length c0_1]] rfl mq ?_; (with_reducible refine (spec_BookOk.calls k _ _ l0_0 _ _ l0_1 false _ ?side1 ?side2 ?side3 ?side4 A7.out).mono ?_); (case side1 => exact cq (Kd.C_below HR0_0.out HB.out)); (case side2 => exact HC0_0.out); (case side3 => exact cq (Kd.C_below HR0_1.out HB.out)); (case side4 => exact HC0_1.out); rintro e w12 ⟨rfl, hb⟩; refine ⟨_, rfl, ?_⟩; replace HO196 := am (Kd.R_below (rq HO196.out) hb); replace BK193 := am (blk_below (g := gb193) (o := .cells #[.slice A0_0 l0_0.length c0_0, .slice A0_1 l0_1.length c0_1] 32 (0, 0)) (bq BK193.out) hb); replace HB := am (below_step (bel1 GE193.out) hb); (try clear hb); (try clear hb2); (try clear hk); (try clear hi)))
  go_meet
  case rel => exact ⟨_, (true), sq, H', ⟨b57_⟩, ⟨rq HO196.out⟩, ⟨bq BK193.out⟩, ⟨bel1 GE193.out⟩⟩
 case rest =>
  clear HC3; (try clear c1); (try clear p2); (try clear c6); (try clear c8); (try clear hcz11_0); (try clear hcz11_1); (try clear hcz9_0); (try clear hcz9_1); (try clear hfz11_0); (try clear hfz11_1); (try clear hfz9_0); (try clear hfz9_1); obtain ⟨kq, x18_2, rfl, HA, HJ2, HO_5, BK193, HB⟩ := hcut
  cases kq with
  | zero => exact absurd HA.out (by simp [spec_Check.j0])
  | succ kj2 =>
   have H := HA.out; clear HA
   simp only [spec_Check.j0] at H
   by_cases c13 : x18_2 = true
   ·subst c13
    have H1 : (some y194) = some r := b32_
    replace H := H1; clear H1
    obtain rfl := Option.some.inj H; go_wp2; go_ret
    exact ⟨_, eq_, b66_, bel1 GE193.out⟩
   replace c13 := Bool.eq_false_iff.mpr c13; subst c13
   have H1 : ((spec_l2Words.f kj2 l0_0 l0_1).bind fun t198 => (spec_Check.l0 kj2 a1 y194 t198 0)) = some r := b13_
   replace H := H1; clear H1
   replace H := bs H; obtain ⟨t198, A140, H⟩ := H; replace H : (spec_Check.l0 kj2 a1 y194 t198 0) = some r := H; have A14 := Aside0.mk A140; clear A140
   have H' := am H
   clear H; have hcz15_0 := bc BK193.out 0; have hcz15_1 := bc BK193.out 1; have hfz15_0 := bf BK193.out 0; have hfz15_1 := bf BK193.out 1
   go_wp2_with (first | ((with_reducible refine gate_callee (f := 20) rfl ?_); refine goesL_ (some 21) rfl rfl Tryz.func20 (by kernel_rfl) rfl #[.agg #[.slice A0_0 l0_0.length c0_0, .slice A0_1 l0_1.length c0_1]] rfl mq ?_; (with_reducible refine (spec_l2Words.calls kj2 _ _ l0_0 _ _ l0_1 t198 _ ?side1 ?side2 ?side3 ?side4 A14.out).mono ?_); (case side1 => exact cq (Kd.C_below HR0_0.out HB.out)); (case side2 => exact HC0_0.out); (case side3 => exact cq (Kd.C_below HR0_1.out HB.out)); (case side4 => exact HC0_1.out); rintro e w16 ⟨v199, rfl, ho0, hb⟩; refine ⟨_, rfl, ?_⟩; have HO200 := am (Kd.V_lower (Kd.V_mono (ok' := fun k_ => some k_ ≠ (v195 : Value).ownBlock ∧ k_ ≠ gb193) ho0 (fun k_ hk_ => ⟨(Kd.fresh' (Kd.R_lt (rq HO_5.out)) k_ hk_), (Kd.freshB (g := gb193) (o := .cells #[.slice A0_0 l0_0.length c0_0, .slice A0_1 l0_1.length c0_1] 32 (0, 0)) (bq BK193.out) k_ hk_)⟩)) (below_size (bel1 GE193.out))); replace HO_5 := am (Kd.R_below (rq HO_5.out) hb); replace BK193 := am (blk_below (g := gb193) (o := .cells #[.slice A0_0 l0_0.length c0_0, .slice A0_1 l0_1.length c0_1] 32 (0, 0)) (bq BK193.out) hb); replace HB := am (below_step (bel1 GE193.out) hb); (try clear hb); (try clear hb2); (try clear hk); (try clear hi); (try clear ho0)))
   go_loopg [5, 7] kj2 (fun kq v5 v7 w' => ∃ (x5_2 : List (S43)) (x7_2 : Int), v7 = .int .i64 x7_2 ∧ Aside0 (spec_Check.l0 kq a1 x5_2 t198 x7_2 = some r) ∧ Aside0 (kq ≤ kj2) ∧ Aside0 (Kd.R k43 43 w' w.heap.size (fun _ => True) v5 x5_2) ∧ Aside0 (Kd.V Kd.string 9 w' w.heap.size (fun k_ => some k_ ≠ (v5 : Value).ownBlock ∧ k_ ≠ gb193) v199 t198) ∧ Aside0 (w'.heap[gb193]? = some (.cells #[(.slice A0_0 l0_0.length c0_0), (.slice A0_1 l0_1.length c0_1)] 32 (0, 0))) ∧ Aside0 (Below w.heap.size w w'))
   case atStart => exact ⟨(y194), (0), sq, H', ⟨Nat.le_refl _⟩, ⟨rq HO_5.out⟩, ⟨vq HO200.out⟩, ⟨bq BK193.out⟩, ⟨bel1 GE193.out⟩⟩
   case round =>
    clear H'; (try clear c1); (try clear c2); (try clear p2); (try clear c6); (try clear c8); (try clear c13); (try clear hcz11_0); (try clear hcz11_1); (try clear hcz15_0); (try clear hcz15_1); (try clear hcz9_0); (try clear hcz9_1); (try clear hfz11_0); (try clear hfz11_1); (try clear hfz15_0); (try clear hfz15_1); (try clear hfz9_0); (try clear hfz9_1); (try clear p2); obtain ⟨x5_2, x7_2, rfl, HA, HK2, HO_5, HO_6, BK193, HB⟩ := hrel
    cases gk with
    | zero => exact absurd HA.out (by simp [spec_Check.l0])
    | succ k2 =>
     have H := HA.out; clear HA
     simp only [spec_Check.l0] at H
     by_cases c17 : x7_2 < (a1.size : Int)
     ·rw [if_pos c17] at H; have c17b0 := decide_eq_true c17; clear c17; have HC18 := am H; clear H
      go_upto_region 8 with (fail)
      go_cut [43] (fun v43 wc => ∃ (kq : Nat) (x43_17 : Bool), v43 = .bool x43_17 ∧ Aside0 (spec_Check.j2 kq a1 x5_2 t198 x7_2 x43_17 = some r) ∧ Aside0 (kq ≤ k2) ∧ Aside0 (Kd.R k43 43 wc w.heap.size (fun _ => True) u5 x5_2) ∧ Aside0 (Kd.V Kd.string 9 wc w.heap.size (fun k_ => some k_ ≠ (u5 : Value).ownBlock ∧ k_ ≠ gb193) v199 t198) ∧ Aside0 (wc.heap[gb193]? = some (.cells #[(.slice A0_0 l0_0.length c0_0), (.slice A0_1 l0_1.length c0_1)] 32 (0, 0))) ∧ Aside0 (Below w.heap.size w wc))
      case first =>
       have H := HC18.out; clear HC18
       replace H := it H; obtain ⟨c19b0, H⟩ := H
       (first | rw [c19b0] | (simp only [i64_w, i32_w]; rw [c19b0]) | skip)
       replace H := bs H; obtain ⟨t201, A210, H⟩ := H; replace H : (if t201 = true then (if x7_2 > 0 then (if 0 ≤ (wrap64 (x7_2 - 1)) then (if (wrap64 (x7_2 - 1)) < (a1.size : Int) then ((spec_l4Letter.f (bt a1 (wrap64 (x7_2 - 1)))).bind fun t202 => (spec_Check.j2 k2 a1 x5_2 t198 x7_2 t202)) else (none)) else (none)) else (spec_Check.j2 k2 a1 x5_2 t198 x7_2 false)) else (spec_Check.j2 k2 a1 x5_2 t198 x7_2 true)) = some r := H; have A21 := Aside0.mk A210; clear A210
       by_cases c22 : t201 = true
       ·subst c22
        have H1 : (if x7_2 > 0 then (if 0 ≤ (wrap64 (x7_2 - 1)) then (if (wrap64 (x7_2 - 1)) < (a1.size : Int) then ((spec_l4Letter.f (bt a1 (wrap64 (x7_2 - 1)))).bind fun t202 => (spec_Check.j2 k2 a1 x5_2 t198 x7_2 t202)) else (none)) else (none)) else (spec_Check.j2 k2 a1 x5_2 t198 x7_2 false)) = some r := b32_
        replace H := H1; clear H1
        by_cases c23 : x7_2 > 0
        ·rw [if_pos c23] at H; have c23b0 := decide_eq_true c23; clear c23; obtain ⟨ji24, hji24⟩ : ∃ j_ : Int, (wrap64 (x7_2 - 1)) = j_ := ⟨_, rfl⟩
         replace H : (if 0 ≤ (ji24) then (if (ji24) < (a1.size : Int) then ((spec_l4Letter.f (bt a1 (ji24))).bind fun t202 => (spec_Check.j2 k2 a1 x5_2 t198 x7_2 t202)) else (none)) else (none)) = some r := by first | (rw [hji24] at H; exact H) | (simp only [hji24] at H ⊢; exact H)
         (try rw [hji24] at A21)
         have hji24w : (IntKind.i64.wrap (x7_2 - 1)) = ji24 := (i64_w _).trans hji24
         replace H := it H; obtain ⟨c25b0, H⟩ := H
         replace H := it H; obtain ⟨c26b0, H⟩ := H; replace H := bs H; obtain ⟨t202, A280, H⟩ := H; replace H : (spec_Check.j2 k2 a1 x5_2 t198 x7_2 t202) = some r := H; have A28 := Aside0.mk A280; clear A280
         have H' := am H
         clear H
         have p20 : 0 ≤ (x7_2 : Int) := of_decide_eq_true ad
         have q20 : x7_2 < (a1.size : Int) := of_decide_eq_true ad
         have hx20 := bt_at a1 x7_2; replace p20 := eq_true p20; replace q20 := eq_true q20
         go_wp2_with (first | ((with_reducible refine gate_callee (f := 21) rfl ?_); refine goesL_ (some 31) rfl rfl Tryz.func21 (by kernel_rfl) rfl #[.int .u8 (bt a1 x7_2)] rfl mq ?_; (with_reducible refine (spec_l4Letter.calls (bt a1 x7_2) true _ A21.out).mono ?_); rintro e w' ⟨rfl, ⟨nd, rfl⟩⟩; refine ⟨_, rfl, ?_⟩; have p27 : 0 ≤ ((ji24) : Int) := of_decide_eq_true ad; have q27 : (ji24) < (a1.size : Int) := of_decide_eq_true ad; have hx27 := bt_at a1 (ji24); replace p27 := eq_true p27; replace q27 := eq_true q27) | (go_at_call 21; (with_reducible refine (spec_l4Letter.calls (bt a1 (ji24)) t202 _ A28.out).mono ?_); rintro e w' ⟨rfl, ⟨nd, rfl⟩⟩))
         go_meet
         case rel => exact ⟨_, (t202), sq, H', ⟨b76_⟩, ⟨rq HO_5.out⟩, ⟨vq HO_6.out⟩, ⟨bq BK193.out⟩, ⟨bel1 GE193.out⟩⟩
        rw [if_neg c23] at H; have c23b0 := decide_eq_false c23; clear c23
        have H' := am H
        clear H
        have p20 : 0 ≤ (x7_2 : Int) := of_decide_eq_true ad
        have q20 : x7_2 < (a1.size : Int) := of_decide_eq_true ad
        have hx20 := bt_at a1 x7_2; replace p20 := eq_true p20; replace q20 := eq_true q20
        go_wp2_with (first | ((with_reducible refine gate_callee (f := 21) rfl ?_); refine goesL_ (some 31) rfl rfl Tryz.func21 (by kernel_rfl) rfl #[.int .u8 (bt a1 x7_2)] rfl mq ?_; (with_reducible refine (spec_l4Letter.calls (bt a1 x7_2) true _ A21.out).mono ?_); rintro e w' ⟨rfl, ⟨nd, rfl⟩⟩; refine ⟨_, rfl, ?_⟩))
        go_meet
        case rel => exact ⟨_, (false), sq, H', ⟨b76_⟩, ⟨rq HO_5.out⟩, ⟨vq HO_6.out⟩, ⟨bq BK193.out⟩, ⟨bel1 GE193.out⟩⟩
       replace c22 := Bool.eq_false_iff.mpr c22; subst c22
       have H1 : (spec_Check.j2 k2 a1 x5_2 t198 x7_2 true) = some r := b13_
       replace H := H1; clear H1
       have H' := am H
       clear H
       have p20 : 0 ≤ (x7_2 : Int) := of_decide_eq_true ad
       have q20 : x7_2 < (a1.size : Int) := of_decide_eq_true ad
       have hx20 := bt_at a1 x7_2; replace p20 := eq_true p20; replace q20 := eq_true q20
       go_wp2_with (first | ((with_reducible refine gate_callee (f := 21) rfl ?_); refine goesL_ (some 31) rfl rfl Tryz.func21 (by kernel_rfl) rfl #[.int .u8 (bt a1 x7_2)] rfl mq ?_; (with_reducible refine (spec_l4Letter.calls (bt a1 x7_2) false _ A21.out).mono ?_); rintro e w' ⟨rfl, ⟨nd, rfl⟩⟩; refine ⟨_, rfl, ?_⟩))
       go_meet
       case rel => exact ⟨_, (true), sq, H', ⟨b76_⟩, ⟨rq HO_5.out⟩, ⟨vq HO_6.out⟩, ⟨bq BK193.out⟩, ⟨bel1 GE193.out⟩⟩
      case rest =>
       clear HC18; (try clear c1); (try clear c2); (try clear p2); (try clear q2); (try clear hx2); (try clear c6); (try clear p6); (try clear c8); (try clear c13); (try clear c17); (try clear c17b0); (try clear c19); (try clear c19b0); (try clear c20); (try clear p20); (try clear q20); (try clear hx20); (try clear c21); (try clear c22); (try clear c23); (try clear c23b0); (try clear c25); (try clear c25b0); (try clear c26); (try clear c26b0); (try clear p27); (try clear q27); (try clear hx27); (try clear hcz11_0); (try clear hcz11_1); (try clear hcz15_0); (try clear hcz15_1); (try clear hcz9_0); (try clear hcz9_1); (try clear hfz11_0); (try clear hfz11_1); (try clear hfz15_0); (try clear hfz15_1); (try clear hfz9_0); (try clear hfz9_1); (try clear p2); (try clear p20); (try clear p27); (try clear q20); (try clear q27); obtain ⟨kq, x43_17, rfl, HA, HJ17, HO_5, HO_6, BK193, HB⟩ := hcut
       cases kq with
       | zero => exact absurd HA.out (by simp [spec_Check.j2])
       | succ kj17 =>
        have H := HA.out; clear HA
        simp only [spec_Check.j2] at H
        by_cases c29 : x43_17 = true
        ·subst c29
         have H1 : (spec_Check.l0 kj17 a1 x5_2 t198 (wrap64 (x7_2 + 1))) = some r := b32_
         replace H := H1; clear H1
         have H' := am H
         clear H; go_wp2
         go_roundg kj17
         case measure => have := HJ2.out; have := HK2.out; have := HJ17.out; omega
         case rel => exact ⟨(x5_2), (wrap64 (x7_2 + 1)), sq, H', ⟨by have := HJ2.out; have := HK2.out; have := HJ17.out; omega⟩, ⟨rq HO_5.out⟩, ⟨vq HO_6.out⟩, ⟨bq BK193.out⟩, ⟨bel1 GE193.out⟩⟩
        replace c29 := Bool.eq_false_iff.mpr c29; subst c29
        have H1 : (spec_Check.l1 kj17 a1 x5_2 t198 x7_2 x7_2) = some r := b13_
        replace H := H1; clear H1
        have HC30 := am H; clear H
        go_upto_block 2 with (fail)
        go_cut [8] (fun v8 wc => ∃ (kq : Nat) (x8_29 : Int), v8 = .int .i64 x8_29 ∧ Aside0 (spec_Check.j4 kq a1 x5_2 t198 x7_2 x8_29 = some r) ∧ Aside0 (kq ≤ kj17) ∧ Aside0 (Kd.R k43 43 wc w.heap.size (fun _ => True) u5 x5_2) ∧ Aside0 (Kd.V Kd.string 9 wc w.heap.size (fun k_ => some k_ ≠ (u5 : Value).ownBlock ∧ k_ ≠ gb193) v199 t198) ∧ Aside0 (wc.heap[gb193]? = some (.cells #[(.slice A0_0 l0_0.length c0_0), (.slice A0_1 l0_1.length c0_1)] 32 (0, 0))) ∧ Aside0 (Below w.heap.size w wc))
        case first =>
         have H := HC30.out; clear HC30
         have H' := am H
         clear H; go_wp2
         go_loopg [8] kj17 (fun kq v8 w' => ∃ (x8_4 : Int), v8 = .int .i64 x8_4 ∧ Aside0 (spec_Check.l1 kq a1 x5_2 t198 x7_2 x8_4 = some r) ∧ Aside0 (kq ≤ kj17) ∧ Aside0 (Kd.R k43 43 w' w.heap.size (fun _ => True) u5 x5_2) ∧ Aside0 (Kd.V Kd.string 9 w' w.heap.size (fun k_ => some k_ ≠ (u5 : Value).ownBlock ∧ k_ ≠ gb193) v199 t198) ∧ Aside0 (w'.heap[gb193]? = some (.cells #[(.slice A0_0 l0_0.length c0_0), (.slice A0_1 l0_1.length c0_1)] 32 (0, 0))) ∧ Aside0 (Below w.heap.size w w'))
         case atStart => exact ⟨(x7_2), sq, H', ⟨Nat.le_refl _⟩, ⟨rq HO_5.out⟩, ⟨vq HO_6.out⟩, ⟨bq BK193.out⟩, ⟨bel1 GE193.out⟩⟩
         case round =>
          clear H'; (try clear c1); (try clear c2); (try clear p2); (try clear q2); (try clear hx2); (try clear c6); (try clear p6); (try clear c8); (try clear c13); (try clear c17); (try clear c17b0); (try clear c19); (try clear c19b0); (try clear c20); (try clear p20); (try clear q20); (try clear hx20); (try clear c21); (try clear c22); (try clear c23); (try clear c23b0); (try clear c25); (try clear c25b0); (try clear c26); (try clear c26b0); (try clear p27); (try clear q27); (try clear hx27); (try clear c29); (try clear hcz11_0); (try clear hcz11_1); (try clear hcz15_0); (try clear hcz15_1); (try clear hcz9_0); (try clear hcz9_1); (try clear hfz11_0); (try clear hfz11_1); (try clear hfz15_0); (try clear hfz15_1); (try clear hfz9_0); (try clear hfz9_1); (try clear p2); (try clear p20); (try clear p27); (try clear p6); (try clear q2); (try clear q20); (try clear q27); obtain ⟨x8_4, rfl, HA, HK4, HO_5, HO_6, BK193, HB⟩ := hrel
          cases gk with
          | zero => exact absurd HA.out (by simp [spec_Check.l1])
          | succ k4 =>
           have H := HA.out; clear HA
           simp only [spec_Check.l1] at H
           by_cases c31 : x8_4 < (a1.size : Int)
           ·rw [if_pos c31] at H; have c31b0 := decide_eq_true c31; clear c31
            (first | rw [c31b0] | (simp only [i64_w, i32_w]; rw [c31b0]) | skip)
            replace H := it H; obtain ⟨c32b0, H⟩ := H; replace H := bs H; obtain ⟨t203, A340, H⟩ := H; replace H : (if t203 = true then (spec_Check.l1 k4 a1 x5_2 t198 x7_2 (wrap64 (x8_4 + 1))) else (spec_Check.j4 k4 a1 x5_2 t198 x7_2 x8_4)) = some r := H; have A34 := Aside0.mk A340; clear A340
            by_cases c35 : t203 = true
            ·subst c35
             have H1 : (spec_Check.l1 k4 a1 x5_2 t198 x7_2 (wrap64 (x8_4 + 1))) = some r := b32_
             replace H := H1; clear H1
             have H' := am H
             clear H
             have p33 : 0 ≤ (x8_4 : Int) := of_decide_eq_true ad
             have q33 : x8_4 < (a1.size : Int) := of_decide_eq_true ad
             have hx33 := bt_at a1 x8_4; replace p33 := eq_true p33; replace q33 := eq_true q33
             go_wp2_with (first | (go_at_call 21; (with_reducible refine (spec_l4Letter.calls (bt a1 x8_4) true _ A34.out).mono ?_); rintro e w' ⟨rfl, ⟨nd, rfl⟩⟩))
             go_roundg k4
             case measure => have := HJ2.out; have := HK2.out; have := HJ17.out; have := HK4.out; omega
             case rel => exact ⟨(wrap64 (x8_4 + 1)), sq, H', ⟨by have := HJ2.out; have := HK2.out; have := HJ17.out; have := HK4.out; omega⟩, ⟨rq HO_5.out⟩, ⟨vq HO_6.out⟩, ⟨bq BK193.out⟩, ⟨bel1 GE193.out⟩⟩
            replace c35 := Bool.eq_false_iff.mpr c35; subst c35
            have H1 : (spec_Check.j4 k4 a1 x5_2 t198 x7_2 x8_4) = some r := b13_
            replace H := H1; clear H1
            have H' := am H
            clear H
            have p33 : 0 ≤ (x8_4 : Int) := of_decide_eq_true ad
            have q33 : x8_4 < (a1.size : Int) := of_decide_eq_true ad
            have hx33 := bt_at a1 x8_4; replace p33 := eq_true p33; replace q33 := eq_true q33
            go_wp2_with (first | (go_at_call 21; (with_reducible refine (spec_l4Letter.calls (bt a1 x8_4) false _ A34.out).mono ?_); rintro e w' ⟨rfl, ⟨nd, rfl⟩⟩))
            go_meet
            case rel => exact ⟨_, (x8_4), sq, H', ⟨by have := HJ2.out; have := HK2.out; have := HJ17.out; have := HK4.out; first | omega | exact Nat.le_refl _⟩, ⟨rq HO_5.out⟩, ⟨vq HO_6.out⟩, ⟨bq BK193.out⟩, ⟨bel1 GE193.out⟩⟩
           rw [if_neg c31] at H; have c31b0 := decide_eq_false c31; clear c31
           (first | rw [c31b0] | (simp only [i64_w, i32_w]; rw [c31b0]) | skip)
           have H' := am H
           clear H; go_wp2
           go_meet
           case rel => exact ⟨_, (x8_4), sq, H', ⟨by have := HJ2.out; have := HK2.out; have := HJ17.out; have := HK4.out; first | omega | exact Nat.le_refl _⟩, ⟨rq HO_5.out⟩, ⟨vq HO_6.out⟩, ⟨bq BK193.out⟩, ⟨bel1 GE193.out⟩⟩
        case rest =>
         clear HC30; (try clear c1); (try clear c2); (try clear p2); (try clear q2); (try clear hx2); (try clear c3); (try clear p3); (try clear q3); (try clear hx3); (try clear c6); (try clear p6); (try clear c8); (try clear c13); (try clear c17); (try clear c17b0); (try clear c19); (try clear c19b0); (try clear c20); (try clear p20); (try clear q20); (try clear hx20); (try clear c21); (try clear c22); (try clear c23); (try clear c23b0); (try clear c25); (try clear c25b0); (try clear c26); (try clear c26b0); (try clear p27); (try clear q27); (try clear hx27); (try clear c29); (try clear c31); (try clear c31b0); (try clear c32); (try clear c32b0); (try clear p33); (try clear q33); (try clear hx33); (try clear c35); (try clear hcz11_0); (try clear hcz11_1); (try clear hcz15_0); (try clear hcz15_1); (try clear hcz9_0); (try clear hcz9_1); (try clear hfz11_0); (try clear hfz11_1); (try clear hfz15_0); (try clear hfz15_1); (try clear hfz9_0); (try clear hfz9_1); (try clear p2); (try clear p20); (try clear p27); (try clear p33); (try clear p6); (try clear q2); (try clear q20); (try clear q27); (try clear q33); obtain ⟨kq, x8_29, rfl, HA, HJ29, HO_5, HO_6, BK193, HB⟩ := hcut
         cases kq with
         | zero => exact absurd HA.out (by simp [spec_Check.j4])
         | succ kj29 =>
          have H := HA.out; clear HA
          simp only [spec_Check.j4] at H
          replace H := ip H; obtain ⟨c36, H⟩ := H; have c36b0 := eq_true c36
          have c36b1 : decide (0 ≤ x7_2) = true := decide_eq_true c36
          clear c36
          replace H := ip H; obtain ⟨c37, H⟩ := H; have c37b0 := eq_true c37
          have c37b1 : decide (x7_2 ≤ x8_29) = true := decide_eq_true c37
          clear c37
          replace H := ip H; obtain ⟨c38, H⟩ := H; have c38b0 := eq_true c38
          have c38b1 : decide (x8_29 ≤ (a1.size : Int)) = true := decide_eq_true c38
          clear c38; replace H := bs H; obtain ⟨t204, A390, H⟩ := H; replace H : ((spec_l2In.f kj29 t198 t204).bind fun t205 => (if t205 = true then (spec_Check.l0 kj29 a1 x5_2 t198 (wrap64 (x7_2 + 1))) else (if x5_2.length < 5864062014805 then (spec_Check.l0 kj29 a1 (x5_2 ++ [(⟨t204, x7_2⟩ : S43)]) t198 (wrap64 (x7_2 + 1))) else (none)))) = some r := H; have A39 := Aside0.mk A390; clear A390; replace H := bs H; obtain ⟨t205, A400, H⟩ := H; replace H : (if t205 = true then (spec_Check.l0 kj29 a1 x5_2 t198 (wrap64 (x7_2 + 1))) else (if x5_2.length < 5864062014805 then (spec_Check.l0 kj29 a1 (x5_2 ++ [(⟨t204, x7_2⟩ : S43)]) t198 (wrap64 (x7_2 + 1))) else (none))) = some r := H; have A40 := Aside0.mk A400; clear A400
          by_cases c41 : t205 = true
          ·subst c41
           have H1 : (spec_Check.l0 kj29 a1 x5_2 t198 (wrap64 (x7_2 + 1))) = some r := b32_
           replace H := H1; clear H1
           have H' := am H
           clear H
           go_wp2_with (first | ((with_reducible refine gate_callee (f := 22) rfl ?_); refine goesL_ (some 61) rfl rfl Tryz.func22 (by kernel_rfl) rfl #[.string (a1.extract (x7_2 : Int).toNat (x8_29 : Int).toNat)] rfl mq ?_; (with_reducible refine (spec_l4Small.calls (a1.extract (x7_2 : Int).toNat (x8_29 : Int).toNat) t204 _ A39.out).mono ?_); rintro e w42 ⟨rfl, hb⟩; refine ⟨_, rfl, ?_⟩; replace HO_5 := am (Kd.R_below (rq HO_5.out) hb); replace HO_6 := am (Kd.V_below (vq HO_6.out) hb); replace BK193 := am (blk_below (g := gb193) (o := .cells #[.slice A0_0 l0_0.length c0_0, .slice A0_1 l0_1.length c0_1] 32 (0, 0)) (bq BK193.out) hb); replace HB := am (below_step (bel1 GE193.out) hb); (try clear hb); (try clear hb2); (try clear hk); (try clear hi); obtain ⟨Ao43, co43, eo43⟩ := Kd.V_slice HO_6.out; subst eo43) | ((with_reducible refine gate_callee (f := 23) rfl ?_); refine goesL_ (some 64) rfl rfl Tryz.func23 (by kernel_rfl) rfl #[.slice Ao43 t198.length co43, .string t204] rfl mq ?_; (with_reducible refine (spec_l2In.calls kj29 _ _ t198 t204 true _ ?side1 ?side2 A40.out).mono ?_); (case side1 => exact cq (Kd.V_reads' HO_6.out).2.2); (case side2 => exact (Kd.V_reads' HO_6.out).2.1); rintro e w' ⟨rfl, ⟨nd, rfl⟩⟩; refine ⟨_, rfl, ?_⟩))
           go_roundg kj29
           case measure => have := HJ2.out; have := HK2.out; have := HJ17.out; have := HJ29.out; omega
           case rel => exact ⟨(x5_2), (wrap64 (x7_2 + 1)), sq, H', ⟨by have := HJ2.out; have := HK2.out; have := HJ17.out; have := HJ29.out; omega⟩, ⟨rq HO_5.out⟩, ⟨vq HO_6.out⟩, ⟨bq BK193.out⟩, ⟨bel1 GE193.out⟩⟩
          replace c41 := Bool.eq_false_iff.mpr c41; subst c41
          have H1 : (if x5_2.length < 5864062014805 then (spec_Check.l0 kj29 a1 (x5_2 ++ [(⟨t204, x7_2⟩ : S43)]) t198 (wrap64 (x7_2 + 1))) else (none)) = some r := b13_
          replace H := H1; clear H1
          replace H := ip H; obtain ⟨c44, H⟩ := H; have LMc44 := Aside0.mk c44; clear c44; obtain ⟨y206, hy206⟩ : ∃ y_ : List (S43), y_ = (x5_2 ++ [(⟨t204, x7_2⟩ : S43)]) := ⟨_, rfl⟩
          replace H : (spec_Check.l0 kj29 a1 y206 t198 (wrap64 (x7_2 + 1))) = some r := by first | (rw [hy206]; with_reducible exact H) | (have H2_ := bm H; rw [hy206]; with_reducible exact H2_) | (with_reducible exact bm H) | with_reducible exact H | (rw [hy206]; exact H) | exact H
          have Ny206 := am hy206; clear hy206
          have H' := am H
          clear H
          go_wp2_with (first | ((with_reducible refine gate_callee (f := 22) rfl ?_); refine goesL_ (some 61) rfl rfl Tryz.func22 (by kernel_rfl) rfl #[.string (a1.extract (x7_2 : Int).toNat (x8_29 : Int).toNat)] rfl mq ?_; (with_reducible refine (spec_l4Small.calls (a1.extract (x7_2 : Int).toNat (x8_29 : Int).toNat) t204 _ A39.out).mono ?_); rintro e w45 ⟨rfl, hb⟩; refine ⟨_, rfl, ?_⟩; replace HO_5 := am (Kd.R_below (rq HO_5.out) hb); replace HO_6 := am (Kd.V_below (vq HO_6.out) hb); replace BK193 := am (blk_below (g := gb193) (o := .cells #[.slice A0_0 l0_0.length c0_0, .slice A0_1 l0_1.length c0_1] 32 (0, 0)) (bq BK193.out) hb); replace HB := am (below_step (bel1 GE193.out) hb); (try clear hb); (try clear hb2); (try clear hk); (try clear hi); obtain ⟨Ao46, co46, eo46⟩ := Kd.V_slice HO_6.out; subst eo46) | ((with_reducible refine gate_callee (f := 23) rfl ?_); refine goesL_ (some 64) rfl rfl Tryz.func23 (by kernel_rfl) rfl #[.slice Ao46 t198.length co46, .string t204] rfl mq ?_; (with_reducible refine (spec_l2In.calls kj29 _ _ t198 t204 false _ ?side1 ?side2 A40.out).mono ?_); (case side1 => exact cq (Kd.V_reads' HO_6.out).2.2); (case side2 => exact (Kd.V_reads' HO_6.out).2.1); rintro e w' ⟨rfl, ⟨nd, rfl⟩⟩; refine ⟨_, rfl, ?_⟩) | ((with_reducible refine gate_builtin (b := .append) (xs := #[.tmp 66, .tmp 70]) rfl ?_); (try (refine gate_guard (by rfl) ?_; dsimp only)); at_builtin; refine Kd.R_append k43 (w0 := w) w.heap.size rfl (.tmp 66) (.tmp 70) 27 43 (.agg #[(.string ⟨#[]⟩), (.int .i64 0)]) 24 rfl Tryz.underlying27 info43 rfl (by decide) (by omega) u5 x5_2 (⟨t204, x7_2⟩ : S43) [.string t204, .int .i64 x7_2] (fun _ => True) (fun _ => False) rfl rfl ?aP (fun _ hk => hk.elim) ?aF ?aO ?aB ?aS ?aL ?_; (case aP => exact k43_mkM _ _ _ (⟨t204, x7_2⟩ : S43)); (case aB => exact (bel1 GE193.out)); (case aF => exact (fun _ _ => trivial)); (case aO => exact (rq HO_5.out)); (case aS => exact (below_size (bel1 GE193.out))); (case aL => have := LMc44.out; omega); intro v207 w47 ho hb hg hat; rw [← Ny206.out] at ho; replace HO_6 := am (Kd.V_afterv (ok := (fun k_ => k_ ≠ gb193)) (vq (Kd.V_mono HO_6.out (fun _ hk => ⟨hk.2, hk.1⟩))) hg hat); replace BK193 := am (blk_grown (g := gb193) (o := .cells #[.slice A0_0 l0_0.length c0_0, .slice A0_1 l0_1.length c0_1] 32 (0, 0)) (bq BK193.out) hg (Kd.R_ne HO_5.out BK193.out (by decide))); replace HB := am (hb); have HO208 := am (ho); clear HO_5; clear ho hb hg hat))
          go_roundg kj29
          case measure => have := HJ2.out; have := HK2.out; have := HJ17.out; have := HJ29.out; omega
          case rel => exact ⟨(y206), (wrap64 (x7_2 + 1)), sq, H', ⟨by have := HJ2.out; have := HK2.out; have := HJ17.out; have := HJ29.out; omega⟩, ⟨rq HO208.out⟩, ⟨vq (Kd.V_mono HO_6.out (fun _ hk => ⟨hk.2, hk.1⟩))⟩, ⟨bq BK193.out⟩, ⟨bel1 GE193.out⟩⟩
     rw [if_neg c17] at H; have c17b0 := decide_eq_false c17; clear c17; obtain rfl := Option.some.inj H; go_wp2; go_ret
     exact ⟨_, eq_, b66_, bel1 GE193.out⟩

/-! ### impl_upper: function 56 -/
def impl_upper.f (a0 : Int) : Option (Bool) := if a0 ≥ 65 then (some (decide (a0 ≤ 90))) else (some false)
theorem impl_upper.calls (a0 : Int) (r : Bool) (w : World) (h : impl_upper.f a0 = some r) :
  Calls Tryz.prog 56 #[.int .u8 a0] w fun e w' => e = .returned (.bool r) ∧ Drawn0 w w' := by
 have H : (if a0 ≥ 65 then (some (decide (a0 ≤ 90))) else (some false)) = some r := h
 clear h
 by_cases c2 : a0 ≥ 65
 ·rw [if_pos c2] at H; have c2b0 := decide_eq_true c2; clear c2; obtain rfl := Option.some.inj H; go_enter Tryz.func56, Tryz.ntmps56; go_wp2; go_ret
  exact ⟨sq, dr⟩
 rw [if_neg c2] at H; have c2b0 := decide_eq_false c2; clear c2; obtain rfl := Option.some.inj H; go_enter Tryz.func56, Tryz.ntmps56; go_wp2; go_ret
 exact ⟨sq, dr⟩
-- shrunk

attribute [local go_sem high] eqA82
/-! ### impl_lower: function 96 -/
def impl_lower.l0 : Nat → ByteArray → Int → Int → Option (Bool)
 | 0, _, _, _ => none
 | k + 1, x0, x5, x6 => if x6 < x5 then (if 0 ≤ x6 then (if x6 < (x0.size : Int) then (if (bt x0 x6) < 97 then (some false) else (if (bt x0 x6) > 122 then (some false) else (impl_lower.l0 k x0 x5 (wrap64 (x6 + 1))))) else (none)) else (none)) else (some true)
def impl_lower.f (k : Nat) (a0 : ByteArray) : Option (Bool) := impl_lower.l0 k a0 (a0.size : Int) 0
theorem impl_lower.calls (k : Nat) (a0 : ByteArray) (r : Bool) (w : World) (h : impl_lower.f k a0 = some r) :
  Calls Tryz.prog 96 #[.string a0] w fun e w' => e = .returned (.bool r) ∧ Drawn0 w w' := by
 have H : (impl_lower.l0 k a0 (a0.size : Int) 0) = some r := h
 clear h
 have H' := am H
 clear H; go_enter Tryz.func96, Tryz.ntmps96; go_wp2
 go_loopg [6] k (fun kq v6 w' => ∃ (x6_1 : Int), v6 = .int .i64 x6_1 ∧ Aside0 (impl_lower.l0 kq a0 (a0.size : Int) x6_1 = some r) ∧ Aside0 (kq ≤ k) ∧ Drawn0 w w')
 case atStart => exact ⟨(0), sq, H', ⟨Nat.le_refl _⟩, dr⟩
 case round =>
  clear H'; obtain ⟨x6_1, rfl, HA, HK1, ⟨m1, rfl⟩⟩ := hrel
  cases gk with
  | zero => exact absurd HA.out (by simp [impl_lower.l0])
  | succ k1 =>
   have H := HA.out; clear HA
   simp only [impl_lower.l0] at H
   by_cases c2 : x6_1 < (a0.size : Int)
   ·rw [if_pos c2] at H; have c2b0 := decide_eq_true c2; clear c2
    replace H := it H; obtain ⟨c3b0, H⟩ := H
    replace H := it H; obtain ⟨c4b0, H⟩ := H
    by_cases c6 : (bt a0 x6_1) < 97
    ·rw [if_pos c6] at H; have c6b0 := decide_eq_true c6; clear c6; obtain rfl := Option.some.inj H
     have p5 : 0 ≤ (x6_1 : Int) := of_decide_eq_true ad
     have q5 : x6_1 < (a0.size : Int) := of_decide_eq_true ad
     have hx5 := bt_at a0 x6_1; replace p5 := eq_true p5; replace q5 := eq_true q5; go_wp2; go_ret
     exact ⟨sq, dr⟩
    rw [if_neg c6] at H; have c6b0 := decide_eq_false c6; clear c6
    by_cases c8 : (bt a0 x6_1) > 122
    ·rw [if_pos c8] at H; have c8b0 := decide_eq_true c8; clear c8; obtain rfl := Option.some.inj H
     have p5 : 0 ≤ (x6_1 : Int) := of_decide_eq_true ad
     have q5 : x6_1 < (a0.size : Int) := of_decide_eq_true ad
     have hx5 := bt_at a0 x6_1; replace p5 := eq_true p5; replace q5 := eq_true q5
     have p7 : 0 ≤ (x6_1 : Int) := of_decide_eq_true ad
     have q7 : x6_1 < (a0.size : Int) := of_decide_eq_true ad
     have hx7 := bt_at a0 x6_1; replace p7 := eq_true p7; replace q7 := eq_true q7; go_wp2; go_ret
     exact ⟨sq, dr⟩
    rw [if_neg c8] at H; have c8b0 := decide_eq_false c8; clear c8
    have H' := am H
    clear H
    have p5 : 0 ≤ (x6_1 : Int) := of_decide_eq_true ad
    have q5 : x6_1 < (a0.size : Int) := of_decide_eq_true ad
    have hx5 := bt_at a0 x6_1; replace p5 := eq_true p5; replace q5 := eq_true q5
    have p7 : 0 ≤ (x6_1 : Int) := of_decide_eq_true ad
    have q7 : x6_1 < (a0.size : Int) := of_decide_eq_true ad
    have hx7 := bt_at a0 x6_1; replace p7 := eq_true p7; replace q7 := eq_true q7; go_wp2
    go_roundg k1
    case measure => have := HK1.out; omega
    case rel => exact ⟨(wrap64 (x6_1 + 1)), sq, H', ⟨b63_⟩, dr⟩
   rw [if_neg c2] at H; have c2b0 := decide_eq_false c2; clear c2; obtain rfl := Option.some.inj H; go_wp2; go_ret
   exact ⟨sq, dr⟩

/-! ### stringslite_HasPrefix: function 109 -/
def stringslite_HasPrefix.f (a0 : ByteArray) (a1 : ByteArray) : Option (Bool) := if (a0.size : Int) ≥ (a1.size : Int) then (if 0 ≤ (a1.size : Int) then (if (a1.size : Int) ≤ (a0.size : Int) then (some ((a0.extract 0 a1.size).toList == a1.toList)) else (none)) else (none)) else (some false)
theorem stringslite_HasPrefix.calls (a0 : ByteArray) (a1 : ByteArray) (r : Bool) (w : World) (h : stringslite_HasPrefix.f a0 a1 = some r) :
  Calls Tryz.prog 109 #[.string a0, .string a1] w fun e w' => e = .returned (.bool r) ∧ Drawn0 w w' := by
 have H : (if (a0.size : Int) ≥ (a1.size : Int) then (if 0 ≤ (a1.size : Int) then (if (a1.size : Int) ≤ (a0.size : Int) then (some ((a0.extract 0 a1.size).toList == a1.toList)) else (none)) else (none)) else (some false)) = some r := h
 clear h
 by_cases c3 : (a0.size : Int) ≥ (a1.size : Int)
 ·rw [if_pos c3] at H; have c3b0 := decide_eq_true c3
  have c3b1 : decide (a1.size ≤ a0.size) = true := decide_eq_true (Int.ofNat_le.mp c3)
  clear c3
  replace H := ip H; obtain ⟨c4, H⟩ := H; have c4b0 := eq_true c4
  have c4b1 : decide (0 ≤ (a1.size : Int)) = true := decide_eq_true c4
  clear c4
  replace H := ip H; obtain ⟨c5, H⟩ := H; have c5b0 := eq_true c5
  have c5b9 : (a1.size ≤ a0.size) = True := eq_true (by omega)
  have c5b6 : decide (a1.size ≤ a0.size) = true := decide_eq_true (by omega)
  have c5b1 : decide ((a1.size : Int) ≤ (a0.size : Int)) = true := decide_eq_true c5
  clear c5; obtain rfl := Option.some.inj H; go_enter Tryz.func109, Tryz.ntmps109; go_wp2; go_ret
  exact ⟨sq, dr⟩
 rw [if_neg c3] at H; have c3b0 := decide_eq_false c3
 have c3b1 : decide (a1.size ≤ a0.size) = false := decide_eq_false (fun h => c3 (Int.ofNat_le.mpr h))
 clear c3; obtain rfl := Option.some.inj H; go_enter Tryz.func109, Tryz.ntmps109; go_wp2; go_ret
 exact ⟨sq, dr⟩

/-! ### strings_HasPrefix: function 97 -/
def strings_HasPrefix.f (a0 : ByteArray) (a1 : ByteArray) : Option (Bool) := (stringslite_HasPrefix.f a0 a1).bind fun t209 => (some t209)
theorem strings_HasPrefix.calls (a0 : ByteArray) (a1 : ByteArray) (r : Bool) (w : World) (h : strings_HasPrefix.f a0 a1 = some r) :
  Calls Tryz.prog 97 #[.string a0, .string a1] w fun e w' => e = .returned (.bool r) ∧ Drawn0 w w' := by
 have H : ((stringslite_HasPrefix.f a0 a1).bind fun t209 => (some t209)) = some r := h
 clear h; replace H := bs H; obtain ⟨t209, A30, H⟩ := H; replace H : (some t209) = some r := H; have A3 := Aside0.mk A30; clear A30; obtain rfl := Option.some.inj H; go_enter Tryz.func97, Tryz.ntmps97
 go_wp2_with (first | ((with_reducible refine gate_callee (f := 109) rfl ?_); refine goesL_ (some 7) rfl rfl Tryz.func109 (by kernel_rfl) rfl #[.string a0, .string a1] rfl mq ?_; (with_reducible refine (stringslite_HasPrefix.calls a0 a1 t209 _ A3.out).mono ?_); rintro e w' ⟨rfl, ⟨nd, rfl⟩⟩; refine ⟨_, rfl, ?_⟩))
 go_ret
 exact ⟨sq, dr⟩

/-! ### stringslite_HasSuffix: function 110 -/
def stringslite_HasSuffix.f (a0 : ByteArray) (a1 : ByteArray) : Option (Bool) := if (a0.size : Int) ≥ (a1.size : Int) then (if 0 ≤ (wrap64 ((a0.size : Int) - (a1.size : Int))) then (if (wrap64 ((a0.size : Int) - (a1.size : Int))) ≤ (a0.size : Int) then (some ((a0.extract ((wrap64 ((a0.size : Int) - (a1.size : Int))) : Int).toNat a0.size).toList == a1.toList)) else (none)) else (none)) else (some false)
theorem stringslite_HasSuffix.calls (a0 : ByteArray) (a1 : ByteArray) (r : Bool) (w : World) (h : stringslite_HasSuffix.f a0 a1 = some r) :
  Calls Tryz.prog 110 #[.string a0, .string a1] w fun e w' => e = .returned (.bool r) ∧ Drawn0 w w' := by
 have H : (if (a0.size : Int) ≥ (a1.size : Int) then (if 0 ≤ (wrap64 ((a0.size : Int) - (a1.size : Int))) then (if (wrap64 ((a0.size : Int) - (a1.size : Int))) ≤ (a0.size : Int) then (some ((a0.extract ((wrap64 ((a0.size : Int) - (a1.size : Int))) : Int).toNat a0.size).toList == a1.toList)) else (none)) else (none)) else (some false)) = some r := h
 clear h
 by_cases c3 : (a0.size : Int) ≥ (a1.size : Int)
 ·rw [if_pos c3] at H; have c3b0 := decide_eq_true c3
  have c3b1 : decide (a1.size ≤ a0.size) = true := decide_eq_true (Int.ofNat_le.mp c3)
  clear c3; obtain ⟨ji4, hji4⟩ : ∃ j_ : Int, (wrap64 ((a0.size : Int) - (a1.size : Int))) = j_ := ⟨_, rfl⟩
  replace H : (if 0 ≤ (ji4) then (if (ji4) ≤ (a0.size : Int) then (some ((a0.extract ((ji4) : Int).toNat a0.size).toList == a1.toList)) else (none)) else (none)) = some r := by first | (rw [hji4] at H; exact H) | (simp only [hji4] at H ⊢; exact H)
  have hji4w : (IntKind.i64.wrap ((a0.size : Int) - (a1.size : Int))) = ji4 := (i64_w _).trans hji4
  replace H := ip H; obtain ⟨c5, H⟩ := H; have c5b0 := eq_true c5
  have c5b1 : decide (0 ≤ (ji4)) = true := decide_eq_true c5
  clear c5
  replace H := ip H; obtain ⟨c6, H⟩ := H; have c6b0 := eq_true c6
  have c6b1 : decide ((ji4) ≤ (a0.size : Int)) = true := decide_eq_true c6
  clear c6; obtain rfl := Option.some.inj H; go_enter Tryz.func110, Tryz.ntmps110; go_wp2; go_ret
  exact ⟨by first | rfl | (simp; done) | (simp only [← hji4] <;> (first | rfl | simp)) | (simp [*]; done), dr⟩
 rw [if_neg c3] at H; have c3b0 := decide_eq_false c3
 have c3b1 : decide (a1.size ≤ a0.size) = false := decide_eq_false (fun h => c3 (Int.ofNat_le.mpr h))
 clear c3; obtain rfl := Option.some.inj H; go_enter Tryz.func110, Tryz.ntmps110; go_wp2; go_ret
 exact ⟨sq, dr⟩

/-! ### strings_HasSuffix: function 98 -/
def strings_HasSuffix.f (a0 : ByteArray) (a1 : ByteArray) : Option (Bool) := (stringslite_HasSuffix.f a0 a1).bind fun t210 => (some t210)
theorem strings_HasSuffix.calls (a0 : ByteArray) (a1 : ByteArray) (r : Bool) (w : World) (h : strings_HasSuffix.f a0 a1 = some r) :
  Calls Tryz.prog 98 #[.string a0, .string a1] w fun e w' => e = .returned (.bool r) ∧ Drawn0 w w' := by
 have H : ((stringslite_HasSuffix.f a0 a1).bind fun t210 => (some t210)) = some r := h
 clear h; replace H := bs H; obtain ⟨t210, A30, H⟩ := H; replace H : (some t210) = some r := H; have A3 := Aside0.mk A30; clear A30; obtain rfl := Option.some.inj H; go_enter Tryz.func98, Tryz.ntmps98
 go_wp2_with (first | ((with_reducible refine gate_callee (f := 110) rfl ?_); refine goesL_ (some 7) rfl rfl Tryz.func110 (by kernel_rfl) rfl #[.string a0, .string a1] rfl mq ?_; (with_reducible refine (stringslite_HasSuffix.calls a0 a1 t210 _ A3.out).mono ?_); rintro e w' ⟨rfl, ⟨nd, rfl⟩⟩; refine ⟨_, rfl, ?_⟩))
 go_ret
 exact ⟨sq, dr⟩

/-! ### impl_AffixOk: function 74 -/
mutual
def impl_AffixOk.j0 : Nat → Bool → ByteArray → Bool → ByteArray → ByteArray → ByteArray → Option (Bool)
 | 0, _, _, _, _, _, _ => none
 | k + 1, x15, x212000, x212001, x212002, x212003, x212004 => if x15 = true then (some false) else ((some (([x212002, x212003, x212004] : List ByteArray) : List ByteArray)).bind fun y213 => (impl_AffixOk.l0 k y213 (y213.length : Int) 0 x212000 x212001 x212002 x212003 x212004))
def impl_AffixOk.l0 : Nat → List ByteArray → Int → Int → ByteArray → Bool → ByteArray → ByteArray → ByteArray → Option (Bool)
 | 0, _, _, _, _, _, _, _, _ => none
 | k + 1, x22, x23, x24, x212000, x212001, x212002, x212003, x212004 => if x24 < x23 then (if 0 ≤ x24 then (if x24 < (x22.length : Int) then (if ((rdOf ByteArray.empty x22 x24).size : Int) > 4 then (some false) else ((impl_lower.f k (rdOf ByteArray.empty x22 x24)).bind fun t217 => (if t217 = true then (impl_AffixOk.l0 k x22 x23 (wrap64 (x24 + 1)) x212000 x212001 x212002 x212003 x212004) else (some false)))) else (none)) else (none)) else (if x212001 = true then ((strings_HasPrefix.f x212004 x212002).bind fun t218 => (some t218)) else ((strings_HasSuffix.f x212004 x212002).bind fun t219 => (some t219)))
end
def impl_AffixOk.f (k : Nat) (a0_0 : ByteArray) (a0_1 : Bool) (a0_2 : ByteArray) (a0_3 : ByteArray) (a0_4 : ByteArray) : Option (Bool) := if (a0_0.size : Int) = 1 then (if 0 < (a0_0.size : Int) then ((impl_upper.f (bt a0_0 0)).bind fun t212 => (impl_AffixOk.j0 k (!t212) a0_0 a0_1 a0_2 a0_3 a0_4)) else (none)) else (impl_AffixOk.j0 k true a0_0 a0_1 a0_2 a0_3 a0_4)
theorem impl_AffixOk.calls (k : Nat) (a0_0 : ByteArray) (a0_1 : Bool) (a0_2 : ByteArray) (a0_3 : ByteArray) (a0_4 : ByteArray) (r : Bool) (w : World) (h : impl_AffixOk.f k a0_0 a0_1 a0_2 a0_3 a0_4 = some r) :
  Calls Tryz.prog 74 #[.agg #[.string a0_0, .bool a0_1, .string a0_2, .string a0_3, .string a0_4]] w fun e w' => e = .returned (.bool r) ∧ Below w.heap.size w w' := by
 have hu82 := Tryz.underlying82; have HB := am (Below.refl w.heap.size w)
 have H : (if (a0_0.size : Int) = 1 then (if 0 < (a0_0.size : Int) then ((impl_upper.f (bt a0_0 0)).bind fun t212 => (impl_AffixOk.j0 k (!t212) a0_0 a0_1 a0_2 a0_3 a0_4)) else (none)) else (impl_AffixOk.j0 k true a0_0 a0_1 a0_2 a0_3 a0_4)) = some r := h
 clear h; have HC2 := am H; clear H; go_enter Tryz.func74, Tryz.ntmps74
 go_upto_region 1 with (first | ((with_reducible refine gate_dst (N := 1) rfl ?_); refine bx 1 (cs := #[.string a0_0, .bool a0_1, .string a0_2, .string a0_3, .string a0_4]) (t := 82) ?_; intro gb211 hg w3 hbox hb; have BK211 := am (hbox); have GW211 := am ((b19_ : w.heap.size ≤ gb211)); have GE211 := am ((b19_ : w.heap.size ≤ gb211)); replace HB := am (below_step bel hb); clear hb hbox hg))
 (try simp only [Act.put, List.setIfInBounds_toArray, List.set_cons_zero, List.set_cons_succ])
 go_cut [15] (fun v15 wc => ∃ (kq : Nat) (x15_1 : Bool), v15 = .bool x15_1 ∧ Aside0 (impl_AffixOk.j0 kq x15_1 a0_0 a0_1 a0_2 a0_3 a0_4 = some r) ∧ Aside0 (kq ≤ k) ∧ Aside0 (wc.heap[gb211]? = some (.cells #[.string a0_0, .bool a0_1, .string a0_2, .string a0_3, .string a0_4] 82 (0, 0))) ∧ Aside0 (Below w.heap.size w wc))
 case first =>
  have H := HC2.out; clear HC2
  by_cases c4 : (a0_0.size : Int) = 1
  ·rw [if_pos c4] at H
   have c4b0 : ((a0_0.size : Int) == 1) = true := beq_iff_eq.mpr c4
   have c4b1 : ((a0_0.size : Int) != 1) = false := bne_eq_false_iff_eq.mpr c4
   clear c4
   (first | rw [c4b0] | (simp only [i64_w, i32_w]; rw [c4b0]) | skip)
   replace H := ip H; obtain ⟨c5, H⟩ := H; have c5b0 := decide_eq_true c5
   have c5b1 : decide (0 < a0_0.size) = true := decide_eq_true (by omega)
   clear c5; replace H := bs H; obtain ⟨t212, A70, H⟩ := H; replace H : (impl_AffixOk.j0 k (!t212) a0_0 a0_1 a0_2 a0_3 a0_4) = some r := H; have A7 := Aside0.mk A70; clear A70
   have H' := am H
   clear H; have hcz8_0 := bc BK211.out 0; have hcz8_1 := bc BK211.out 1; have hcz8_2 := bc BK211.out 2; have hcz8_3 := bc BK211.out 3; have hcz8_4 := bc BK211.out 4; have hfz8_0 := bf BK211.out 0; have hfz8_1 := bf BK211.out 1; have hfz8_2 := bf BK211.out 2; have hfz8_3 := bf BK211.out 3; have hfz8_4 := bf BK211.out 4
   have p6 : 0 ≤ (0 : Int) := (by omega)
   have q6 : 0 < a0_0.size := (by have : (0 : Int) < (a0_0.size : Int) := of_decide_eq_true ad; omega)
   have hx6 : ∀ h : 0 < a0_0.size, ((a0_0[0]'h).toNat : Int) = bt a0_0 0 := bt_at a0_0 0
   clear p6
   have qi6 : (0 < (a0_0.size : Int)) = True := eq_true (of_decide_eq_true ad)
   replace q6 := eq_true q6
   go_wp2_with (first | (go_at_call 56; (with_reducible refine (impl_upper.calls (bt a0_0 0) t212 _ A7.out).mono ?_); rintro e w' ⟨rfl, ⟨nd, rfl⟩⟩))
   go_meet
   case rel => exact ⟨_, (!t212), sq, H', ⟨b57_⟩, ⟨bq BK211.out⟩, ⟨bel1 GE211.out⟩⟩
  rw [if_neg c4] at H
  have c4b0 : ((a0_0.size : Int) == 1) = false := beq_eq_false_iff_ne.mpr c4
  have c4b1 : ((a0_0.size : Int) != 1) = true := bne_iff_ne.mpr c4
  (first | rw [c4b0] | (simp only [i64_w, i32_w]; rw [c4b0]) | skip)
  have H' := am H
  clear H; have hcz9_0 := bc BK211.out 0; have hcz9_1 := bc BK211.out 1; have hcz9_2 := bc BK211.out 2; have hcz9_3 := bc BK211.out 3; have hcz9_4 := bc BK211.out 4; have hfz9_0 := bf BK211.out 0; have hfz9_1 := bf BK211.out 1; have hfz9_2 := bf BK211.out 2; have hfz9_3 := bf BK211.out 3; have hfz9_4 := bf BK211.out 4; go_wp2
  go_meet
  case rel => exact ⟨_, (true), sq, H', ⟨b57_⟩, ⟨bq BK211.out⟩, ⟨bel1 GE211.out⟩⟩
 case rest =>
  clear HC2; (try clear p2); (try clear c4); (try clear c4b0); (try clear c4b1); (try clear c5); (try clear c5b0); (try clear c5b1); (try clear p6); (try clear q6); (try clear hx6); (try clear qi6); (try clear c7); (try clear hcz8_0); (try clear hcz8_1); (try clear hcz8_2); (try clear hcz8_3); (try clear hcz8_4); (try clear hcz9_0); (try clear hcz9_1); (try clear hcz9_2); (try clear hcz9_3); (try clear hcz9_4); (try clear hfz8_0); (try clear hfz8_1); (try clear hfz8_2); (try clear hfz8_3); (try clear hfz8_4); (try clear hfz9_0); (try clear hfz9_1); (try clear hfz9_2); (try clear hfz9_3); (try clear hfz9_4); (try clear p6); (try clear q6); obtain ⟨kq, x15_1, rfl, HA, HJ1, BK211, HB⟩ := hcut
  cases kq with
  | zero => exact absurd HA.out (by simp [impl_AffixOk.j0])
  | succ kj1 =>
   have H := HA.out; clear HA
   simp only [impl_AffixOk.j0] at H
   by_cases c10 : x15_1 = true
   ·subst c10
    have H1 : (some false) = some r := b32_
    replace H := H1; clear H1
    obtain rfl := Option.some.inj H; go_wp2; go_ret
    exact ⟨eq_, bel1 GE211.out⟩
   replace c10 := Bool.eq_false_iff.mpr c10; subst c10
   have H1 : ((some (([a0_2, a0_3, a0_4] : List ByteArray) : List ByteArray)).bind fun y213 => (impl_AffixOk.l0 kj1 y213 (y213.length : Int) 0 a0_0 a0_1 a0_2 a0_3 a0_4)) = some r := b13_
   replace H := H1; clear H1
   obtain ⟨y213, hy213⟩ : ∃ y_ : List ByteArray, y_ = (([a0_2, a0_3, a0_4] : List ByteArray)) := ⟨_, rfl⟩
   replace H : (impl_AffixOk.l0 kj1 y213 (y213.length : Int) 0 a0_0 a0_1 a0_2 a0_3 a0_4) = some r := by first | (rw [hy213]; with_reducible exact H) | (have H2_ := bm H; rw [hy213]; with_reducible exact H2_) | (with_reducible exact bm H) | with_reducible exact H | (rw [hy213]; exact H) | exact H
   have Ny213 := am hy213; clear hy213
   have H' := am H
   clear H; have hcz11_0 := bc BK211.out 0; have hcz11_1 := bc BK211.out 1; have hcz11_2 := bc BK211.out 2; have hcz11_3 := bc BK211.out 3; have hcz11_4 := bc BK211.out 4; have hfz11_0 := bf BK211.out 0; have hfz11_1 := bf BK211.out 1; have hfz11_2 := bf BK211.out 2; have hfz11_3 := bf BK211.out 3; have hfz11_4 := bf BK211.out 4
   go_wp2_with (first | ((with_reducible refine gate_dst (N := 22) rfl ?_); refine Kd.R_lit Kd.string _ 9 ?hg (N := 22) ?hd (xs := ([a0_2, a0_3, a0_4] : List ByteArray)) (inner := [.string a0_2, .string a0_3, .string a0_4]) (ok := fun _ => True) (okp := fun _ => True) ?hr ?hp (fun _ hk => hk) trivial (Below.refl _ _) (Nat.le_refl _) (by simp) ?_; (case hd => rfl); (case hg => rfl); (case hr => first | (go_simp; done) | (go_simp; rfl)); (case hp => exact (Reps.one (show Kd.M Kd.string _ _ _ a0_2 [.string a0_2] from rfl) (Reps.one (show Kd.M Kd.string _ _ _ a0_3 [.string a0_3] from rfl) (Reps.one (show Kd.M Kd.string _ _ _ a0_4 [.string a0_4] from rfl) (Reps.none _ _))))); intro v214 w12 ho13 hb hg_ hnew_; clear hg_ hnew_; (first | rw [← Ny213.out] at ho13 | (simp only [Int.reduceToNat] at ho13; rw [← Ny213.out] at ho13) | (simp only [Int.toNat_natCast] at ho13; rw [← Ny213.out] at ho13)); have HO215 := am (Kd.R_lower ho13 (below_size (bel1 GE211.out))); replace BK211 := am (blk_below (g := gb211) (o := .cells #[.string a0_0, .bool a0_1, .string a0_2, .string a0_3, .string a0_4] 82 (0, 0)) (bq BK211.out) hb); replace HB := am (below_step (bel1 GE211.out) hb); clear hb ho13; obtain ⟨Ao14, co14, eo14⟩ := Kd.R_slice HO215.out; subst eo14))
   go_loopg [24] kj1 (fun kq v24 w' => ∃ (x24_2 : Int), v24 = .int .i64 x24_2 ∧ Aside0 (impl_AffixOk.l0 kq y213 (y213.length : Int) x24_2 a0_0 a0_1 a0_2 a0_3 a0_4 = some r) ∧ Aside0 (kq ≤ kj1) ∧ Aside0 (Kd.R Kd.string 9 w' w.heap.size (fun _ => True) (.slice Ao14 y213.length co14) y213) ∧ Aside0 (w'.heap[gb211]? = some (.cells #[.string a0_0, .bool a0_1, .string a0_2, .string a0_3, .string a0_4] 82 (0, 0))) ∧ Aside0 (Below w.heap.size w w'))
   case atStart => exact ⟨(0), sq, H', ⟨Nat.le_refl _⟩, ⟨rq HO215.out⟩, ⟨bq BK211.out⟩, ⟨bel1 GE211.out⟩⟩
   case round =>
    clear H'; (try clear c1); (try clear p2); (try clear c4); (try clear c4b0); (try clear c4b1); (try clear c5); (try clear c5b0); (try clear c5b1); (try clear p6); (try clear q6); (try clear hx6); (try clear qi6); (try clear c7); (try clear c10); (try clear hcz11_0); (try clear hcz11_1); (try clear hcz11_2); (try clear hcz11_3); (try clear hcz11_4); (try clear hcz8_0); (try clear hcz8_1); (try clear hcz8_2); (try clear hcz8_3); (try clear hcz8_4); (try clear hcz9_0); (try clear hcz9_1); (try clear hcz9_2); (try clear hcz9_3); (try clear hcz9_4); (try clear hfz11_0); (try clear hfz11_1); (try clear hfz11_2); (try clear hfz11_3); (try clear hfz11_4); (try clear hfz8_0); (try clear hfz8_1); (try clear hfz8_2); (try clear hfz8_3); (try clear hfz8_4); (try clear hfz9_0); (try clear hfz9_1); (try clear hfz9_2); (try clear hfz9_3); (try clear hfz9_4); (try clear p2); (try clear p6); (try clear q6); obtain ⟨x24_2, rfl, HA, HK2, HO_22, BK211, HB⟩ := hrel
    cases gk with
    | zero => exact absurd HA.out (by simp [impl_AffixOk.l0])
    | succ k2 =>
     have H := HA.out; clear HA
     simp only [impl_AffixOk.l0] at H
     by_cases c15 : x24_2 < (y213.length : Int)
     ·rw [if_pos c15] at H; have c15b0 := decide_eq_true c15; clear c15
      replace H := it H; obtain ⟨c16b0, H⟩ := H
      replace H := it H; obtain ⟨c17b0, H⟩ := H
      by_cases c18 : ((rdOf ByteArray.empty y213 x24_2).size : Int) > 4
      ·rw [if_pos c18] at H; have c18b0 := decide_eq_true c18
       have c18b1 : decide (4 < (rdOf ByteArray.empty y213 x24_2).size) = true := decide_eq_true (by omega)
       clear c18; obtain rfl := Option.some.inj H
       have p216 : 0 ≤ (x24_2 : Int) := of_decide_eq_true ad
       have q216 : x24_2 < (y213.length : Int) := of_decide_eq_true ad
       obtain ⟨ad216, e216, hx216_0⟩ := Kd.at_string (Kd.R_reads' HO_22.out).2.2 x24_2 p216 q216
       cases e216
       replace p216 := eq_true p216; replace q216 := eq_true q216; go_wp2; go_ret
       exact ⟨eq_, bel1 GE211.out⟩
      rw [if_neg c18] at H; have c18b0 := decide_eq_false c18
      have c18b1 : decide (4 < (rdOf ByteArray.empty y213 x24_2).size) = false := decide_eq_false (by omega)
      clear c18; replace H := bs H; obtain ⟨t217, A190, H⟩ := H; replace H : (if t217 = true then (impl_AffixOk.l0 k2 y213 (y213.length : Int) (wrap64 (x24_2 + 1)) a0_0 a0_1 a0_2 a0_3 a0_4) else (some false)) = some r := H; have A19 := Aside0.mk A190; clear A190
      by_cases c20 : t217 = true
      ·subst c20
       have H1 : (impl_AffixOk.l0 k2 y213 (y213.length : Int) (wrap64 (x24_2 + 1)) a0_0 a0_1 a0_2 a0_3 a0_4) = some r := b32_
       replace H := H1; clear H1
       have H' := am H
       clear H
       have p216 : 0 ≤ (x24_2 : Int) := of_decide_eq_true ad
       have q216 : x24_2 < (y213.length : Int) := of_decide_eq_true ad
       obtain ⟨ad216, e216, hx216_0⟩ := Kd.at_string (Kd.R_reads' HO_22.out).2.2 x24_2 p216 q216
       cases e216
       replace p216 := eq_true p216; replace q216 := eq_true q216
       go_wp2_with (first | (go_at_call 96; (with_reducible refine (impl_lower.calls k2 (rdOf ByteArray.empty y213 x24_2) true _ A19.out).mono ?_); rintro e w' ⟨rfl, ⟨nd, rfl⟩⟩))
       go_roundg k2
       case measure => have := HJ1.out; have := HK2.out; omega
       case rel => exact ⟨(wrap64 (x24_2 + 1)), sq, H', ⟨by have := HJ1.out; have := HK2.out; omega⟩, ⟨rq HO_22.out⟩, ⟨bq BK211.out⟩, ⟨bel1 GE211.out⟩⟩
      replace c20 := Bool.eq_false_iff.mpr c20; subst c20
      have H1 : (some false) = some r := b13_
      replace H := H1; clear H1
      obtain rfl := Option.some.inj H
      have p216 : 0 ≤ (x24_2 : Int) := of_decide_eq_true ad
      have q216 : x24_2 < (y213.length : Int) := of_decide_eq_true ad
      obtain ⟨ad216, e216, hx216_0⟩ := Kd.at_string (Kd.R_reads' HO_22.out).2.2 x24_2 p216 q216
      cases e216
      replace p216 := eq_true p216; replace q216 := eq_true q216
      go_wp2_with (first | (go_at_call 96; (with_reducible refine (impl_lower.calls k2 (rdOf ByteArray.empty y213 x24_2) false _ A19.out).mono ?_); rintro e w' ⟨rfl, ⟨nd, rfl⟩⟩))
      go_ret
      exact ⟨eq_, bel1 GE211.out⟩
     rw [if_neg c15] at H; have c15b0 := decide_eq_false c15; clear c15
     by_cases c21 : a0_1 = true
     ·subst c21
      have H1 : ((strings_HasPrefix.f a0_4 a0_2).bind fun t218 => (some t218)) = some r := b32_
      replace H := H1; clear H1
      replace H := bs H; obtain ⟨t218, A220, H⟩ := H; replace H : (some t218) = some r := H; have A22 := Aside0.mk A220; clear A220; obtain rfl := Option.some.inj H; have hcz23_0 := bc BK211.out 0; have hcz23_1 := bc BK211.out 1; have hcz23_2 := bc BK211.out 2; have hcz23_3 := bc BK211.out 3; have hcz23_4 := bc BK211.out 4; have hfz23_0 := bf BK211.out 0; have hfz23_1 := bf BK211.out 1; have hfz23_2 := bf BK211.out 2; have hfz23_3 := bf BK211.out 3; have hfz23_4 := bf BK211.out 4
      go_wp2_with (first | ((with_reducible refine gate_callee (f := 97) rfl ?_); refine goesL_ (some 43) rfl rfl Tryz.func97 (by kernel_rfl) rfl #[.string a0_4, .string a0_2] rfl mq ?_; (with_reducible refine (strings_HasPrefix.calls a0_4 a0_2 t218 _ A22.out).mono ?_); rintro e w' ⟨rfl, ⟨nd, rfl⟩⟩; refine ⟨_, rfl, ?_⟩))
      go_ret
      exact ⟨eq_, bel1 GE211.out⟩
     replace c21 := Bool.eq_false_iff.mpr c21; subst c21
     have H1 : ((strings_HasSuffix.f a0_4 a0_2).bind fun t219 => (some t219)) = some r := b13_
     replace H := H1; clear H1
     replace H := bs H; obtain ⟨t219, A240, H⟩ := H; replace H : (some t219) = some r := H; have A24 := Aside0.mk A240; clear A240; obtain rfl := Option.some.inj H; have hcz25_0 := bc BK211.out 0; have hcz25_1 := bc BK211.out 1; have hcz25_2 := bc BK211.out 2; have hcz25_3 := bc BK211.out 3; have hcz25_4 := bc BK211.out 4; have hfz25_0 := bf BK211.out 0; have hfz25_1 := bf BK211.out 1; have hfz25_2 := bf BK211.out 2; have hfz25_3 := bf BK211.out 3; have hfz25_4 := bf BK211.out 4
     go_wp2_with (first | ((with_reducible refine gate_callee (f := 98) rfl ?_); refine goesL_ (some 48) rfl rfl Tryz.func98 (by kernel_rfl) rfl #[.string a0_4, .string a0_2] rfl mq ?_; (with_reducible refine (strings_HasSuffix.calls a0_4 a0_2 t219 _ A24.out).mono ?_); rintro e w' ⟨rfl, ⟨nd, rfl⟩⟩; refine ⟨_, rfl, ?_⟩))
     go_ret
     exact ⟨eq_, bel1 GE211.out⟩

/-! ### impl_Affix_99: function 99 -/
def impl_Affix_99.l0 : Nat → List (S82) → Int → Int → ByteArray → Bool → ByteArray → ByteArray → ByteArray → Option (Int)
 | 0, _, _, _, _, _, _, _, _ => none
 | k + 1, x0, x7, x8, x221000, x221001, x221002, x221003, x221004 => if x8 < x7 then (if 0 ≤ x8 then (if x8 < (x0.length : Int) then (if (x221000.toList == (((rd_T82 x0 x8).f0).toList) && (x221001 == ((rd_T82 x0 x8).f1) && (x221002.toList == (((rd_T82 x0 x8).f2).toList) && (x221003.toList == (((rd_T82 x0 x8).f3).toList) && (x221004.toList == (((rd_T82 x0 x8).f4).toList)))))) = true then (some x8) else (impl_Affix_99.l0 k x0 x7 (wrap64 (x8 + 1)) x221000 x221001 x221002 x221003 x221004)) else (none)) else (none)) else (some (-1))
def impl_Affix_99.f (k : Nat) (l0 : List (S82)) (a1_0 : ByteArray) (a1_1 : Bool) (a1_2 : ByteArray) (a1_3 : ByteArray) (a1_4 : ByteArray) : Option (Int) := impl_Affix_99.l0 k l0 (l0.length : Int) 0 a1_0 a1_1 a1_2 a1_3 a1_4
theorem impl_Affix_99.calls (k : Nat) (A0 : Option Addr) (c0 : Nat) (l0 : List (S82)) (a1_0 : ByteArray) (a1_1 : Bool) (a1_2 : ByteArray) (a1_3 : ByteArray) (a1_4 : ByteArray) (r : Int) (w : World) (hr0 : Kd.C k82 w A0 l0.length l0) (hc0 : l0.length ≤ c0) (h : impl_Affix_99.f k l0 a1_0 a1_1 a1_2 a1_3 a1_4 = some r) :
  Calls Tryz.prog 99 #[.slice A0 l0.length c0, .agg #[.string a1_0, .bool a1_1, .string a1_2, .string a1_3, .string a1_4]] w fun e w' => e = .returned (.int .i64 r) ∧ Below w.heap.size w w' := by
 have hu82 := Tryz.underlying82; have HR0 := am hr0; have HC0 := am hc0; clear hr0 hc0; have HB := am (Below.refl w.heap.size w)
 have H : (impl_Affix_99.l0 k l0 (l0.length : Int) 0 a1_0 a1_1 a1_2 a1_3 a1_4) = some r := h
 clear h
 have H' := am H
 clear H; go_enter Tryz.func99, Tryz.ntmps99
 go_wp2_with (first | ((with_reducible refine gate_dst (N := 3) rfl ?_); refine bx 3 (cs := #[.string a1_0, .bool a1_1, .string a1_2, .string a1_3, .string a1_4]) (t := 82) ?_; intro gb220 hg w3 hbox hb; have BK220 := am (hbox); have GW220 := am ((b19_ : w.heap.size ≤ gb220)); have GE220 := am ((b19_ : w.heap.size ≤ gb220)); replace HB := am (below_step bel hb); clear hb hbox hg))
 repeat (go_quiet (first | ((with_reducible refine gate_dst (N := 3) rfl ?_); refine bx 3 (cs := #[.string a1_0, .bool a1_1, .string a1_2, .string a1_3, .string a1_4]) (t := 82) ?_; intro gb220 hg w3 hbox hb; have BK220 := am (hbox); have GW220 := am ((b19_ : w.heap.size ≤ gb220)); have GE220 := am ((b19_ : w.heap.size ≤ gb220)); replace HB := am (below_step bel hb); clear hb hbox hg)); try go_wp2_with (first | ((with_reducible refine gate_dst (N := 3) rfl ?_); refine bx 3 (cs := #[.string a1_0, .bool a1_1, .string a1_2, .string a1_3, .string a1_4]) (t := 82) ?_; intro gb220 hg w3 hbox hb; have BK220 := am (hbox); have GW220 := am ((b19_ : w.heap.size ≤ gb220)); have GE220 := am ((b19_ : w.heap.size ≤ gb220)); replace HB := am (below_step bel hb); clear hb hbox hg)))
 go_loopg [8] k (fun kq v8 w' => ∃ (x8_1 : Int), v8 = .int .i64 x8_1 ∧ Aside0 (impl_Affix_99.l0 kq l0 (l0.length : Int) x8_1 a1_0 a1_1 a1_2 a1_3 a1_4 = some r) ∧ Aside0 (kq ≤ k) ∧ Aside0 (w'.heap[gb220]? = some (.cells #[.string a1_0, .bool a1_1, .string a1_2, .string a1_3, .string a1_4] 82 (0, 0))) ∧ Aside0 (Below w.heap.size w w'))
 case atStart => exact ⟨(0), sq, H', ⟨Nat.le_refl _⟩, ⟨bq BK220.out⟩, ⟨bel1 GE220.out⟩⟩
 case round =>
  clear H'; (try clear p2); obtain ⟨x8_1, rfl, HA, HK1, BK220, HB⟩ := hrel
  cases gk with
  | zero => exact absurd HA.out (by simp [impl_Affix_99.l0])
  | succ k1 =>
   have H := HA.out; clear HA
   simp only [impl_Affix_99.l0] at H
   by_cases c4 : x8_1 < (l0.length : Int)
   ·rw [if_pos c4] at H; have c4b0 := decide_eq_true c4; clear c4
    replace H := it H; obtain ⟨c5b0, H⟩ := H
    replace H := it H; obtain ⟨c6b0, H⟩ := H
    by_cases c7 : (a1_0.toList == (((rd_T82 l0 x8_1).f0).toList) && (a1_1 == ((rd_T82 l0 x8_1).f1) && (a1_2.toList == (((rd_T82 l0 x8_1).f2).toList) && (a1_3.toList == (((rd_T82 l0 x8_1).f3).toList) && (a1_4.toList == (((rd_T82 l0 x8_1).f4).toList)))))) = true
    ·rw [if_pos c7] at H
     have c7b0 : (a1_0.toList == (((rd_T82 l0 x8_1).f0).toList) && (a1_1 == ((rd_T82 l0 x8_1).f1) && (a1_2.toList == (((rd_T82 l0 x8_1).f2).toList) && (a1_3.toList == (((rd_T82 l0 x8_1).f3).toList) && (a1_4.toList == (((rd_T82 l0 x8_1).f4).toList)))))) = true := c7
     (try (have c7b1 : decide (a1_0.toList = (((rd_T82 l0 x8_1).f0).toList) && (a1_1 == ((rd_T82 l0 x8_1).f1) && (a1_2.toList == (((rd_T82 l0 x8_1).f2).toList) && (a1_3.toList == (((rd_T82 l0 x8_1).f3).toList) && (a1_4.toList == (((rd_T82 l0 x8_1).f4).toList)))))) = true := by simpa using c7))
     (try (have c7b2 : (a1_0.toList == (((rd_T82 l0 x8_1).f0).toList) && (a1_1 == ((rd_T82 l0 x8_1).f1) && (a1_2.toList == (((rd_T82 l0 x8_1).f2).toList) && (a1_3.toList == (((rd_T82 l0 x8_1).f3).toList) && (a1_4.toList == (((rd_T82 l0 x8_1).f4).toList)))))) = true := by simpa using c7))
     clear c7; obtain rfl := Option.some.inj H; have hcz8_0 := bc BK220.out 0; have hcz8_1 := bc BK220.out 1; have hcz8_2 := bc BK220.out 2; have hcz8_3 := bc BK220.out 3; have hcz8_4 := bc BK220.out 4; have hfz8_0 := bf BK220.out 0; have hfz8_1 := bf BK220.out 1; have hfz8_2 := bf BK220.out 2; have hfz8_3 := bf BK220.out 3; have hfz8_4 := bf BK220.out 4
     have p221 : 0 ≤ (x8_1 : Int) := of_decide_eq_true ad
     have q221 : x8_1 < (l0.length : Int) := of_decide_eq_true ad
     obtain ⟨ad221, e221, hx221_0, hx221_1, hx221_2, hx221_3, hx221_4⟩ := at_T82 HR0.out x8_1 p221 q221
     cases e221
     replace hx221_0 := kp HB.out hx221_0; replace hx221_1 := kp HB.out hx221_1; replace hx221_2 := kp HB.out hx221_2; replace hx221_3 := kp HB.out hx221_3; replace hx221_4 := kp HB.out hx221_4; replace p221 := eq_true p221; replace q221 := eq_true q221; go_wp2
     repeat (go_quiet (fail); try go_wp2)
     go_ret
     exact ⟨eq_, bel1 GE220.out⟩
    rw [if_neg c7] at H
    have c7b0 : (a1_0.toList == (((rd_T82 l0 x8_1).f0).toList) && (a1_1 == ((rd_T82 l0 x8_1).f1) && (a1_2.toList == (((rd_T82 l0 x8_1).f2).toList) && (a1_3.toList == (((rd_T82 l0 x8_1).f3).toList) && (a1_4.toList == (((rd_T82 l0 x8_1).f4).toList)))))) = false := by simpa using c7
    (try (have c7b1 : decide (a1_0.toList = (((rd_T82 l0 x8_1).f0).toList) && (a1_1 == ((rd_T82 l0 x8_1).f1) && (a1_2.toList == (((rd_T82 l0 x8_1).f2).toList) && (a1_3.toList == (((rd_T82 l0 x8_1).f3).toList) && (a1_4.toList == (((rd_T82 l0 x8_1).f4).toList)))))) = false := by simpa using c7))
    (try (have c7b2 : (a1_0.toList == (((rd_T82 l0 x8_1).f0).toList) && (a1_1 == ((rd_T82 l0 x8_1).f1) && (a1_2.toList == (((rd_T82 l0 x8_1).f2).toList) && (a1_3.toList == (((rd_T82 l0 x8_1).f3).toList) && (a1_4.toList == (((rd_T82 l0 x8_1).f4).toList)))))) = false := by simpa using c7))
    (try (have c7b3 : ¬ (a1_0.toList = (((rd_T82 l0 x8_1).f0).toList) && (a1_1 == ((rd_T82 l0 x8_1).f1) && (a1_2.toList == (((rd_T82 l0 x8_1).f2).toList) && (a1_3.toList == (((rd_T82 l0 x8_1).f3).toList) && (a1_4.toList == (((rd_T82 l0 x8_1).f4).toList)))))) := by simpa using c7))
    clear c7
    have H' := am H
    clear H; have hcz9_0 := bc BK220.out 0; have hcz9_1 := bc BK220.out 1; have hcz9_2 := bc BK220.out 2; have hcz9_3 := bc BK220.out 3; have hcz9_4 := bc BK220.out 4; have hfz9_0 := bf BK220.out 0; have hfz9_1 := bf BK220.out 1; have hfz9_2 := bf BK220.out 2; have hfz9_3 := bf BK220.out 3; have hfz9_4 := bf BK220.out 4
    have p221 : 0 ≤ (x8_1 : Int) := of_decide_eq_true ad
    have q221 : x8_1 < (l0.length : Int) := of_decide_eq_true ad
    obtain ⟨ad221, e221, hx221_0, hx221_1, hx221_2, hx221_3, hx221_4⟩ := at_T82 HR0.out x8_1 p221 q221
    cases e221
    replace hx221_0 := kp HB.out hx221_0; replace hx221_1 := kp HB.out hx221_1; replace hx221_2 := kp HB.out hx221_2; replace hx221_3 := kp HB.out hx221_3; replace hx221_4 := kp HB.out hx221_4; replace p221 := eq_true p221; replace q221 := eq_true q221; go_wp2
    repeat (go_quiet (fail); try go_wp2)
    go_roundg k1
    case measure => have := HK1.out; omega
    case rel => exact ⟨(wrap64 (x8_1 + 1)), sq, H', ⟨b63_⟩, ⟨bq BK220.out⟩, ⟨bel1 GE220.out⟩⟩
   rw [if_neg c4] at H; have c4b0 := decide_eq_false c4; clear c4; obtain rfl := Option.some.inj H; go_wp2
   repeat (go_quiet (fail); try go_wp2)
   go_ret
   exact ⟨eq_, bel1 GE220.out⟩

/-! ### impl_Affix_75: function 75 -/
def impl_Affix_75.f (k : Nat) (l0 : List (S82)) (a1_0 : ByteArray) (a1_1 : Bool) (a1_2 : ByteArray) (a1_3 : ByteArray) (a1_4 : ByteArray) : Option (Bool) := (impl_Affix_99.f k l0 a1_0 a1_1 a1_2 a1_3 a1_4).bind fun t223 => (some (decide (t223 ≥ 0)))
theorem impl_Affix_75.calls (k : Nat) (A0 : Option Addr) (c0 : Nat) (l0 : List (S82)) (a1_0 : ByteArray) (a1_1 : Bool) (a1_2 : ByteArray) (a1_3 : ByteArray) (a1_4 : ByteArray) (r : Bool) (w : World) (hr0 : Kd.C k82 w A0 l0.length l0) (hc0 : l0.length ≤ c0) (h : impl_Affix_75.f k l0 a1_0 a1_1 a1_2 a1_3 a1_4 = some r) :
  Calls Tryz.prog 75 #[.slice A0 l0.length c0, .agg #[.string a1_0, .bool a1_1, .string a1_2, .string a1_3, .string a1_4]] w fun e w' => e = .returned (.bool r) ∧ Below w.heap.size w w' := by
 have hu82 := Tryz.underlying82; have HR0 := am hr0; have HC0 := am hc0; clear hr0 hc0; have HB := am (Below.refl w.heap.size w)
 have H : ((impl_Affix_99.f k l0 a1_0 a1_1 a1_2 a1_3 a1_4).bind fun t223 => (some (decide (t223 ≥ 0)))) = some r := h
 clear h; replace H := bs H; obtain ⟨t223, A30, H⟩ := H; replace H : (some (decide (t223 ≥ 0))) = some r := H; have A3 := Aside0.mk A30; clear A30; obtain rfl := Option.some.inj H; go_enter Tryz.func75, Tryz.ntmps75
 go_wp2_with (first | ((with_reducible refine gate_dst (N := 3) rfl ?_); refine bx 3 (cs := #[.string a1_0, .bool a1_1, .string a1_2, .string a1_3, .string a1_4]) (t := 82) ?_; intro gb222 hg w4 hbox hb; have BK222 := am (hbox); have GW222 := am ((b19_ : w.heap.size ≤ gb222)); have GE222 := am ((b19_ : w.heap.size ≤ gb222)); replace HB := am (below_step bel hb); clear hb hbox hg; have hcz5_0 := bc BK222.out 0; have hcz5_1 := bc BK222.out 1; have hcz5_2 := bc BK222.out 2; have hcz5_3 := bc BK222.out 3; have hcz5_4 := bc BK222.out 4; have hfz5_0 := bf BK222.out 0; have hfz5_1 := bf BK222.out 1; have hfz5_2 := bf BK222.out 2; have hfz5_3 := bf BK222.out 3; have hfz5_4 := bf BK222.out 4) | ((with_reducible refine gate_callee (f := 99) rfl ?_); refine goesL_ (some 7) rfl rfl Tryz.func99 (by kernel_rfl) rfl #[.slice A0 l0.length c0, .agg #[.string a1_0, .bool a1_1, .string a1_2, .string a1_3, .string a1_4]] rfl mq ?_; (with_reducible refine (impl_Affix_99.calls k _ _ l0 a1_0 a1_1 a1_2 a1_3 a1_4 t223 _ ?side1 ?side2 A3.out).mono ?_); (case side1 => exact cq (Kd.C_below HR0.out HB.out)); (case side2 => exact HC0.out); rintro e w6 ⟨rfl, hb⟩; refine ⟨_, rfl, ?_⟩; replace BK222 := am (blk_below (g := gb222) (o := .cells #[.string a1_0, .bool a1_1, .string a1_2, .string a1_3, .string a1_4] 82 (0, 0)) (bq BK222.out) hb); replace HB := am (below_step (bel1 GE222.out) hb); (try clear hb); (try clear hb2); (try clear hk); (try clear hi)))
 go_ret
 exact ⟨eq_, bel1 GE222.out⟩
-- shrunk

/-! ### impl_affixesOk: function 52 -/
def impl_affixesOk.l0 : Nat → List (S82) → List (S82) → Int → Int → Option (Bool)
 | 0, _, _, _, _ => none
 | k + 1, x0, x5, x6, x7 => if x7 < x6 then (if 0 ≤ x7 then (if x7 < (x5.length : Int) then ((impl_AffixOk.f k ((rd_T82 x5 x7).f0) ((rd_T82 x5 x7).f1) ((rd_T82 x5 x7).f2) ((rd_T82 x5 x7).f3) ((rd_T82 x5 x7).f4)).bind fun t226 => (if t226 = true then (if x7 ≤ (x0.length : Int) then ((impl_Affix_75.f k (x0.take (x7 : Int).toNat) ((rd_T82 x5 x7).f0) ((rd_T82 x5 x7).f1) ((rd_T82 x5 x7).f2) ((rd_T82 x5 x7).f3) ((rd_T82 x5 x7).f4)).bind fun t231 => (if t231 = true then (some false) else (impl_affixesOk.l0 k x0 x5 x6 (wrap64 (x7 + 1))))) else (none)) else (some false))) else (none)) else (none)) else (some (decide ((x0.length : Int) ≤ 8)))
def impl_affixesOk.f (k : Nat) (l0 : List (S82)) : Option (Bool) := impl_affixesOk.l0 k l0 l0 (l0.length : Int) 0
def impl_affixesOk.T4 : Bool × List (List Nat × List Nat) := (true, [([], []), ([0], [0]), ([1], [1]), ([2, 1], [2]), ([3], [3]), ([3], [3]), ([4, 5, 3], [3, 4, 5]), ([3], [3]), ([6, 7, 3, 3], [3, 6, 7]), ([3, 8], [3, 8])])
def impl_affixesOk.B4 : List Nat := [0, 1, 3, 7, 15, 15, 63, 15, 255, 511]
theorem impl_affixesOk.tab4 : rtab .any (opsOf Tryz.f52 4) = impl_affixesOk.T4 := by kernel_rfl
theorem impl_affixesOk.bits4 : waitsOk impl_affixesOk.T4.2 impl_affixesOk.B4 = true := by kernel_rfl
theorem impl_affixesOk.calls (k : Nat) (A0 : Option Addr) (c0 : Nat) (l0 : List (S82)) (r : Bool) (w : World) (hr0 : Kd.C k82 w A0 l0.length l0) (hc0 : l0.length ≤ c0) (h : impl_affixesOk.f k l0 = some r) :
  Calls Tryz.prog 52 #[.slice A0 l0.length c0] w fun e w' => e = .returned (.bool r) ∧ Below w.heap.size w w' := by
 have hu82 := Tryz.underlying82; have HR0 := am hr0; have HC0 := am hc0; clear hr0 hc0; have HB := am (Below.refl w.heap.size w)
 have H : (impl_affixesOk.l0 k l0 l0 (l0.length : Int) 0) = some r := h
 clear h
 have H' := am H
 clear H; go_enter Tryz.func52, Tryz.ntmps52; go_wp2
 go_loopg [7] k (fun kq v7 w' => ∃ (x7_1 : Int), v7 = .int .i64 x7_1 ∧ Aside0 (impl_affixesOk.l0 kq l0 l0 (l0.length : Int) x7_1 = some r) ∧ Aside0 (kq ≤ k) ∧ Aside0 (Below w.heap.size w w'))
 case atStart => exact ⟨(0), sq, H', ⟨Nat.le_refl _⟩, ⟨bel⟩⟩
 case round =>
  clear H'; obtain ⟨x7_1, rfl, HA, HK1, HB⟩ := hrel
  cases gk with
  | zero => exact absurd HA.out (by simp [impl_affixesOk.l0])
  | succ k1 =>
   have H := HA.out; clear HA
   simp only [impl_affixesOk.l0] at H
   by_cases c2 : x7_1 < (l0.length : Int)
   ·rw [if_pos c2] at H; have c2b0 := decide_eq_true c2; clear c2
    replace H := it H; obtain ⟨c3b0, H⟩ := H
    replace H := it H; obtain ⟨c4b0, H⟩ := H; replace H := bs H; obtain ⟨t226, A50, H⟩ := H; replace H : (if t226 = true then (if x7_1 ≤ (l0.length : Int) then ((impl_Affix_75.f k1 (l0.take (x7_1 : Int).toNat) ((rd_T82 l0 x7_1).f0) ((rd_T82 l0 x7_1).f1) ((rd_T82 l0 x7_1).f2) ((rd_T82 l0 x7_1).f3) ((rd_T82 l0 x7_1).f4)).bind fun t231 => (if t231 = true then (some false) else (impl_affixesOk.l0 k1 l0 l0 (l0.length : Int) (wrap64 (x7_1 + 1))))) else (none)) else (some false)) = some r := H; have A5 := Aside0.mk A50; clear A50
    by_cases c6 : t226 = true
    ·subst c6
     have H1 : (if x7_1 ≤ (l0.length : Int) then ((impl_Affix_75.f k1 (l0.take (x7_1 : Int).toNat) ((rd_T82 l0 x7_1).f0) ((rd_T82 l0 x7_1).f1) ((rd_T82 l0 x7_1).f2) ((rd_T82 l0 x7_1).f3) ((rd_T82 l0 x7_1).f4)).bind fun t231 => (if t231 = true then (some false) else (impl_affixesOk.l0 k1 l0 l0 (l0.length : Int) (wrap64 (x7_1 + 1))))) else (none)) = some r := b32_
     replace H := H1; clear H1
     have c7b0 := eq_true (of_decide_eq_true ad : 0 ≤ x7_1)
     replace H := ip H; obtain ⟨c8, H⟩ := H; have c8b0 := eq_true c8
     have c8b1 : decide (x7_1 ≤ (l0.length : Int)) = true := decide_eq_true c8
     clear c8; obtain ⟨y227, hy227⟩ : ∃ y_ : List (S82), y_ = (l0.take (x7_1 : Int).toNat) := ⟨_, rfl⟩
     replace H : ((impl_Affix_75.f k1 y227 ((rd_T82 l0 x7_1).f0) ((rd_T82 l0 x7_1).f1) ((rd_T82 l0 x7_1).f2) ((rd_T82 l0 x7_1).f3) ((rd_T82 l0 x7_1).f4)).bind fun t231 => (if t231 = true then (some false) else (impl_affixesOk.l0 k1 l0 l0 (l0.length : Int) (wrap64 (x7_1 + 1))))) = some r := by first | (rw [hy227]; with_reducible exact H) | (have H2_ := bm H; rw [hy227]; with_reducible exact H2_) | (with_reducible exact bm H) | with_reducible exact H | (rw [hy227]; exact H) | exact H
     have Ny227 := am hy227; clear hy227; replace H := bs H; obtain ⟨t231, A90, H⟩ := H; replace H : (if t231 = true then (some false) else (impl_affixesOk.l0 k1 l0 l0 (l0.length : Int) (wrap64 (x7_1 + 1)))) = some r := H; have A9 := Aside0.mk A90; clear A90
     by_cases c10 : t231 = true
     ·subst c10
      have H1 : (some false) = some r := b32_
      replace H := H1; clear H1
      obtain rfl := Option.some.inj H
      have p224 : 0 ≤ (x7_1 : Int) := of_decide_eq_true ad
      have q224 : x7_1 < (l0.length : Int) := of_decide_eq_true ad
      obtain ⟨ad224, e224, hx224_0, hx224_1, hx224_2, hx224_3, hx224_4⟩ := at_T82 HR0.out x7_1 p224 q224
      cases e224
      replace hx224_0 := kp HB.out hx224_0; replace hx224_1 := kp HB.out hx224_1; replace hx224_2 := kp HB.out hx224_2; replace hx224_3 := kp HB.out hx224_3; replace hx224_4 := kp HB.out hx224_4; replace p224 := eq_true p224; replace q224 := eq_true q224
      try go_wp2_with (first | ((with_reducible refine gate_dst (N := 4) rfl ?_); refine bx 4 (cs := #[.string (⟨#[]⟩ : ByteArray), .bool false, .string (⟨#[]⟩ : ByteArray), .string (⟨#[]⟩ : ByteArray), .string (⟨#[]⟩ : ByteArray)]) (t := 82) ?_; intro gb225 hg w11 hbox hb; have BK225 := am (hbox); have GW225 := am ((b19_ : w.heap.size ≤ gb225)); have GE225 := am ((b19_ : w.heap.size ≤ gb225)); replace HB := am (below_step bel hb); clear hb hbox hg; have hcz12_0 := bc BK225.out 0; have hcz12_1 := bc BK225.out 1; have hcz12_2 := bc BK225.out 2; have hcz12_3 := bc BK225.out 3; have hcz12_4 := bc BK225.out 4; have hfz12_0 := bf BK225.out 0; have hfz12_1 := bf BK225.out 1; have hfz12_2 := bf BK225.out 2; have hfz12_3 := bf BK225.out 3; have hfz12_4 := bf BK225.out 4))
      have n0_ : Aside0 ((((((w11.setCell ⟨gb225, 0, none⟩ (.string ((rd_T82 l0 x7_1).f0))).setCell ⟨gb225, 1, none⟩ (.bool ((rd_T82 l0 x7_1).f1))).setCell ⟨gb225, 2, none⟩ (.string ((rd_T82 l0 x7_1).f2))).setCell ⟨gb225, 3, none⟩ (.string ((rd_T82 l0 x7_1).f3))).setCell ⟨gb225, 4, none⟩ (.string ((rd_T82 l0 x7_1).f4))).heap[gb225]? = some (.cells #[.string ((rd_T82 l0 x7_1).f0), .bool ((rd_T82 l0 x7_1).f1), .string ((rd_T82 l0 x7_1).f2), .string ((rd_T82 l0 x7_1).f3), .string ((rd_T82 l0 x7_1).f4)] 82 (0, 0))) := ⟨b8_⟩
      have n1_ : Aside0 (Below w.heap.size w (((((w11.setCell ⟨gb225, 0, none⟩ (.string ((rd_T82 l0 x7_1).f0))).setCell ⟨gb225, 1, none⟩ (.bool ((rd_T82 l0 x7_1).f1))).setCell ⟨gb225, 2, none⟩ (.string ((rd_T82 l0 x7_1).f2))).setCell ⟨gb225, 3, none⟩ (.string ((rd_T82 l0 x7_1).f3))).setCell ⟨gb225, 4, none⟩ (.string ((rd_T82 l0 x7_1).f4)))) := ⟨bel1 GE225.out⟩
      (try clear BK225)
      (try clear HB)
      generalize (((((w11.setCell ⟨gb225, 0, none⟩ (.string ((rd_T82 l0 x7_1).f0))).setCell ⟨gb225, 1, none⟩ (.bool ((rd_T82 l0 x7_1).f1))).setCell ⟨gb225, 2, none⟩ (.string ((rd_T82 l0 x7_1).f2))).setCell ⟨gb225, 3, none⟩ (.string ((rd_T82 l0 x7_1).f3))).setCell ⟨gb225, 4, none⟩ (.string ((rd_T82 l0 x7_1).f4))) = w13 at n0_ n1_ ⊢
      have BK225 := n0_; have HB := n1_; clear n0_ n1_; replace BK225 := am (blk_drew BK225.out); replace HB := am (below_drew1 HB.out)
      refine st (n := 10) (S := fun w' => w'.cell? ⟨gb225, 0, none⟩ = some (.string ((rd_T82 l0 x7_1).f0)) ∧ w'.cell? ⟨gb225, 1, none⟩ = some (.bool ((rd_T82 l0 x7_1).f1)) ∧ w'.cell? ⟨gb225, 2, none⟩ = some (.string ((rd_T82 l0 x7_1).f2)) ∧ w'.cell? ⟨gb225, 3, none⟩ = some (.string ((rd_T82 l0 x7_1).f3)) ∧ w'.cell? ⟨gb225, 4, none⟩ = some (.string ((rd_T82 l0 x7_1).f4))) (ds := []) ⟨(blk_cell BK225.out 0).trans rfl, (blk_cell BK225.out 1).trans rfl, (blk_cell BK225.out 2).trans rfl, (blk_cell BK225.out 3).trans rfl, (blk_cell BK225.out 4).trans rfl⟩ (fun hHeld => ?_); refine with_tabW impl_affixesOk.tab4 impl_affixesOk.bits4 (fun HT_ HW_ => ?_)
      generalize w13.drew = w14 at BK225 HB hHeld ⊢
      refine tk5 0 12 hHeld ?_
      refine on1 1 13 (fun K hK => ?_)
      refine goes_ Tryz.func74 (by kernel_rfl) rfl #[.agg #[.string ((rd_T82 l0 x7_1).f0), .bool ((rd_T82 l0 x7_1).f1), .string ((rd_T82 l0 x7_1).f2), .string ((rd_T82 l0 x7_1).f3), .string ((rd_T82 l0 x7_1).f4)]] (by rfl) rfl rfl mq ?_
      with_reducible refine (impl_AffixOk.calls k1 ((rd_T82 l0 x7_1).f0) ((rd_T82 l0 x7_1).f1) ((rd_T82 l0 x7_1).f2) ((rd_T82 l0 x7_1).f3) ((rd_T82 l0 x7_1).f4) true _ A5.out).mono ?_
      rintro e w15 ⟨rfl, hb⟩
      refine ⟨_, rfl, ?_⟩
      replace BK225 := am (blk_below (g := gb225) (o := .cells #[.string ((rd_T82 l0 x7_1).f0), .bool ((rd_T82 l0 x7_1).f1), .string ((rd_T82 l0 x7_1).f2), .string ((rd_T82 l0 x7_1).f3), .string ((rd_T82 l0 x7_1).f4)] 82 (0, 0)) (bq BK225.out) hb); replace HB := am (below_step (bel1 GE225.out) hb)
      (try clear hb)
      (try clear hb2)
      (try clear hk)
      (try clear hi)
      have q16 : (x7_1 : Int) ≤ ((l0.length : Int) : Int) := of_decide_eq_true ad
      obtain ⟨i016, hi016, _, hsz16, _⟩ := info_parts info82
      have hroom16 : l0.length ≤ c0 := HC0.out
      have hC16 : Kd.C k82 _ (some ad224) l0.length l0 := HR0.out
      have hcut16 := cut_to (P := Tryz.prog) 29 82 .i64 Tryz.underlying29 hi016 (some ad224) l0.length c0 x7_1 (of_decide_eq_true ad) q16 hroom16
      have hr16 := Kd.C_take (m := (x7_1 : Int).toNat) hC16 (by omega)
      have hy16 : y227.length = (x7_1 : Int).toNat := (by rw [Ny227.out, List.length_take]; omega)
      rw [← Ny227.out] at hr16; rw [← hy16] at hcut16; have HR230 := am hr16
      have HC230 := am (show y227.length ≤ c0 from by omega)
      clear hr16 hC16 hroom16 hi016 hsz16; have KY16 := am hy16; clear hy16; replace q16 := eq_true q16
      refine hK.out _ _ ⟨(blk_cell BK225.out 0).trans rfl, (blk_cell BK225.out 1).trans rfl, (blk_cell BK225.out 2).trans rfl, (blk_cell BK225.out 3).trans rfl, (blk_cell BK225.out 4).trans rfl⟩ (fun hHeld => ?_)
      clear hK K
      refine norm_ (a' := ?_) ?_ ?_
      rotate_left
      ·show Act.put _ (some 13) _ = _
       simp only [Act.put, List.setIfInBounds_toArray, List.set_cons_zero, List.set_cons_succ, i64_w, i32_w]
       rfl
      refine pu 2 14 ?_
      refine pu 3 15 ?_
      refine pu 4 16 ?_
      refine pu 5 17 ?_
      refine pu 6 18 ?_
      refine tk5 7 19 hHeld ?_
      refine on1 8 20 (fun K hK => ?_)
      refine goes_ Tryz.func75 (by kernel_rfl) rfl #[.slice (some ad224) y227.length c0, .agg #[.string ((rd_T82 l0 x7_1).f0), .bool ((rd_T82 l0 x7_1).f1), .string ((rd_T82 l0 x7_1).f2), .string ((rd_T82 l0 x7_1).f3), .string ((rd_T82 l0 x7_1).f4)]] (by rfl) rfl rfl mq ?_
      with_reducible refine (impl_Affix_75.calls k1 _ _ y227 ((rd_T82 l0 x7_1).f0) ((rd_T82 l0 x7_1).f1) ((rd_T82 l0 x7_1).f2) ((rd_T82 l0 x7_1).f3) ((rd_T82 l0 x7_1).f4) true _ ?side1 ?side2 A9.out).mono ?_
      (case side1 => exact cq (Kd.C_below HR230.out HB.out)); (case side2 => exact HC230.out)
      rintro e w17 ⟨rfl, hb⟩
      refine ⟨_, rfl, ?_⟩
      replace BK225 := am (blk_below (g := gb225) (o := .cells #[.string ((rd_T82 l0 x7_1).f0), .bool ((rd_T82 l0 x7_1).f1), .string ((rd_T82 l0 x7_1).f2), .string ((rd_T82 l0 x7_1).f3), .string ((rd_T82 l0 x7_1).f4)] 82 (0, 0)) (bq BK225.out) hb); replace HB := am (below_step (bel1 GE225.out) hb)
      (try clear hb)
      (try clear hb2)
      (try clear hk)
      (try clear hi)
      refine hK.out _ _ ⟨(blk_cell BK225.out 0).trans rfl, (blk_cell BK225.out 1).trans rfl, (blk_cell BK225.out 2).trans rfl, (blk_cell BK225.out 3).trans rfl, (blk_cell BK225.out 4).trans rfl⟩ (fun hHeld => ?_)
      clear hK K
      refine norm_ (a' := ?_) ?_ ?_
      rotate_left
      ·show Act.put _ (some 20) _ = _
       simp only [Act.put, List.setIfInBounds_toArray, List.set_cons_zero, List.set_cons_succ, i64_w, i32_w]
       rfl
      refine pu 9 21 ?_
      refine done_ (done_of HT_.out (by kernel_rfl)) ?_
      try go_wp2
      go_ret
      exact ⟨eq_, bel1 GE225.out⟩
     replace c10 := Bool.eq_false_iff.mpr c10; subst c10
     have H1 : (impl_affixesOk.l0 k1 l0 l0 (l0.length : Int) (wrap64 (x7_1 + 1))) = some r := b13_
     replace H := H1; clear H1
     have H' := am H
     clear H
     have p224 : 0 ≤ (x7_1 : Int) := of_decide_eq_true ad
     have q224 : x7_1 < (l0.length : Int) := of_decide_eq_true ad
     obtain ⟨ad224, e224, hx224_0, hx224_1, hx224_2, hx224_3, hx224_4⟩ := at_T82 HR0.out x7_1 p224 q224
     cases e224
     replace hx224_0 := kp HB.out hx224_0; replace hx224_1 := kp HB.out hx224_1; replace hx224_2 := kp HB.out hx224_2; replace hx224_3 := kp HB.out hx224_3; replace hx224_4 := kp HB.out hx224_4; replace p224 := eq_true p224; replace q224 := eq_true q224
     try go_wp2_with (first | ((with_reducible refine gate_dst (N := 4) rfl ?_); refine bx 4 (cs := #[.string (⟨#[]⟩ : ByteArray), .bool false, .string (⟨#[]⟩ : ByteArray), .string (⟨#[]⟩ : ByteArray), .string (⟨#[]⟩ : ByteArray)]) (t := 82) ?_; intro gb225 hg w18 hbox hb; have BK225 := am (hbox); have GW225 := am ((b19_ : w.heap.size ≤ gb225)); have GE225 := am ((b19_ : w.heap.size ≤ gb225)); replace HB := am (below_step bel hb); clear hb hbox hg; have hcz19_0 := bc BK225.out 0; have hcz19_1 := bc BK225.out 1; have hcz19_2 := bc BK225.out 2; have hcz19_3 := bc BK225.out 3; have hcz19_4 := bc BK225.out 4; have hfz19_0 := bf BK225.out 0; have hfz19_1 := bf BK225.out 1; have hfz19_2 := bf BK225.out 2; have hfz19_3 := bf BK225.out 3; have hfz19_4 := bf BK225.out 4))
     have n0_ : Aside0 ((((((w18.setCell ⟨gb225, 0, none⟩ (.string ((rd_T82 l0 x7_1).f0))).setCell ⟨gb225, 1, none⟩ (.bool ((rd_T82 l0 x7_1).f1))).setCell ⟨gb225, 2, none⟩ (.string ((rd_T82 l0 x7_1).f2))).setCell ⟨gb225, 3, none⟩ (.string ((rd_T82 l0 x7_1).f3))).setCell ⟨gb225, 4, none⟩ (.string ((rd_T82 l0 x7_1).f4))).heap[gb225]? = some (.cells #[.string ((rd_T82 l0 x7_1).f0), .bool ((rd_T82 l0 x7_1).f1), .string ((rd_T82 l0 x7_1).f2), .string ((rd_T82 l0 x7_1).f3), .string ((rd_T82 l0 x7_1).f4)] 82 (0, 0))) := ⟨b8_⟩
     have n1_ : Aside0 (Below w.heap.size w (((((w18.setCell ⟨gb225, 0, none⟩ (.string ((rd_T82 l0 x7_1).f0))).setCell ⟨gb225, 1, none⟩ (.bool ((rd_T82 l0 x7_1).f1))).setCell ⟨gb225, 2, none⟩ (.string ((rd_T82 l0 x7_1).f2))).setCell ⟨gb225, 3, none⟩ (.string ((rd_T82 l0 x7_1).f3))).setCell ⟨gb225, 4, none⟩ (.string ((rd_T82 l0 x7_1).f4)))) := ⟨bel1 GE225.out⟩
     (try clear BK225)
     (try clear HB)
     generalize (((((w18.setCell ⟨gb225, 0, none⟩ (.string ((rd_T82 l0 x7_1).f0))).setCell ⟨gb225, 1, none⟩ (.bool ((rd_T82 l0 x7_1).f1))).setCell ⟨gb225, 2, none⟩ (.string ((rd_T82 l0 x7_1).f2))).setCell ⟨gb225, 3, none⟩ (.string ((rd_T82 l0 x7_1).f3))).setCell ⟨gb225, 4, none⟩ (.string ((rd_T82 l0 x7_1).f4))) = w20 at n0_ n1_ ⊢
     have BK225 := n0_; have HB := n1_; clear n0_ n1_; replace BK225 := am (blk_drew BK225.out); replace HB := am (below_drew1 HB.out)
     refine st (n := 10) (S := fun w' => w'.cell? ⟨gb225, 0, none⟩ = some (.string ((rd_T82 l0 x7_1).f0)) ∧ w'.cell? ⟨gb225, 1, none⟩ = some (.bool ((rd_T82 l0 x7_1).f1)) ∧ w'.cell? ⟨gb225, 2, none⟩ = some (.string ((rd_T82 l0 x7_1).f2)) ∧ w'.cell? ⟨gb225, 3, none⟩ = some (.string ((rd_T82 l0 x7_1).f3)) ∧ w'.cell? ⟨gb225, 4, none⟩ = some (.string ((rd_T82 l0 x7_1).f4))) (ds := []) ⟨(blk_cell BK225.out 0).trans rfl, (blk_cell BK225.out 1).trans rfl, (blk_cell BK225.out 2).trans rfl, (blk_cell BK225.out 3).trans rfl, (blk_cell BK225.out 4).trans rfl⟩ (fun hHeld => ?_); refine with_tabW impl_affixesOk.tab4 impl_affixesOk.bits4 (fun HT_ HW_ => ?_)
     generalize w20.drew = w21 at BK225 HB hHeld ⊢
     refine tk5 0 12 hHeld ?_
     refine on1 1 13 (fun K hK => ?_)
     refine goes_ Tryz.func74 (by kernel_rfl) rfl #[.agg #[.string ((rd_T82 l0 x7_1).f0), .bool ((rd_T82 l0 x7_1).f1), .string ((rd_T82 l0 x7_1).f2), .string ((rd_T82 l0 x7_1).f3), .string ((rd_T82 l0 x7_1).f4)]] (by rfl) rfl rfl mq ?_
     with_reducible refine (impl_AffixOk.calls k1 ((rd_T82 l0 x7_1).f0) ((rd_T82 l0 x7_1).f1) ((rd_T82 l0 x7_1).f2) ((rd_T82 l0 x7_1).f3) ((rd_T82 l0 x7_1).f4) true _ A5.out).mono ?_
     rintro e w22 ⟨rfl, hb⟩
     refine ⟨_, rfl, ?_⟩
     replace BK225 := am (blk_below (g := gb225) (o := .cells #[.string ((rd_T82 l0 x7_1).f0), .bool ((rd_T82 l0 x7_1).f1), .string ((rd_T82 l0 x7_1).f2), .string ((rd_T82 l0 x7_1).f3), .string ((rd_T82 l0 x7_1).f4)] 82 (0, 0)) (bq BK225.out) hb); replace HB := am (below_step (bel1 GE225.out) hb)
     (try clear hb)
     (try clear hb2)
     (try clear hk)
     (try clear hi)
     have q23 : (x7_1 : Int) ≤ ((l0.length : Int) : Int) := of_decide_eq_true ad
     obtain ⟨i023, hi023, _, hsz23, _⟩ := info_parts info82
     have hroom23 : l0.length ≤ c0 := HC0.out
     have hC23 : Kd.C k82 _ (some ad224) l0.length l0 := HR0.out
     have hcut23 := cut_to (P := Tryz.prog) 29 82 .i64 Tryz.underlying29 hi023 (some ad224) l0.length c0 x7_1 (of_decide_eq_true ad) q23 hroom23
     have hr23 := Kd.C_take (m := (x7_1 : Int).toNat) hC23 (by omega)
     have hy23 : y227.length = (x7_1 : Int).toNat := (by rw [Ny227.out, List.length_take]; omega)
     rw [← Ny227.out] at hr23; rw [← hy23] at hcut23; have HR230 := am hr23
     have HC230 := am (show y227.length ≤ c0 from by omega)
     clear hr23 hC23 hroom23 hi023 hsz23; have KY23 := am hy23; clear hy23; replace q23 := eq_true q23
     refine hK.out _ _ ⟨(blk_cell BK225.out 0).trans rfl, (blk_cell BK225.out 1).trans rfl, (blk_cell BK225.out 2).trans rfl, (blk_cell BK225.out 3).trans rfl, (blk_cell BK225.out 4).trans rfl⟩ (fun hHeld => ?_)
     clear hK K
     refine norm_ (a' := ?_) ?_ ?_
     rotate_left
     ·show Act.put _ (some 13) _ = _
      simp only [Act.put, List.setIfInBounds_toArray, List.set_cons_zero, List.set_cons_succ, i64_w, i32_w]
      rfl
     refine pu 2 14 ?_
     refine pu 3 15 ?_
     refine pu 4 16 ?_
     refine pu 5 17 ?_
     refine pu 6 18 ?_
     refine tk5 7 19 hHeld ?_
     refine on1 8 20 (fun K hK => ?_)
     refine goes_ Tryz.func75 (by kernel_rfl) rfl #[.slice (some ad224) y227.length c0, .agg #[.string ((rd_T82 l0 x7_1).f0), .bool ((rd_T82 l0 x7_1).f1), .string ((rd_T82 l0 x7_1).f2), .string ((rd_T82 l0 x7_1).f3), .string ((rd_T82 l0 x7_1).f4)]] (by rfl) rfl rfl mq ?_
     with_reducible refine (impl_Affix_75.calls k1 _ _ y227 ((rd_T82 l0 x7_1).f0) ((rd_T82 l0 x7_1).f1) ((rd_T82 l0 x7_1).f2) ((rd_T82 l0 x7_1).f3) ((rd_T82 l0 x7_1).f4) false _ ?side1 ?side2 A9.out).mono ?_
     (case side1 => exact cq (Kd.C_below HR230.out HB.out)); (case side2 => exact HC230.out)
     rintro e w24 ⟨rfl, hb⟩
     refine ⟨_, rfl, ?_⟩
     replace BK225 := am (blk_below (g := gb225) (o := .cells #[.string ((rd_T82 l0 x7_1).f0), .bool ((rd_T82 l0 x7_1).f1), .string ((rd_T82 l0 x7_1).f2), .string ((rd_T82 l0 x7_1).f3), .string ((rd_T82 l0 x7_1).f4)] 82 (0, 0)) (bq BK225.out) hb); replace HB := am (below_step (bel1 GE225.out) hb)
     (try clear hb)
     (try clear hb2)
     (try clear hk)
     (try clear hi)
     refine hK.out _ _ ⟨(blk_cell BK225.out 0).trans rfl, (blk_cell BK225.out 1).trans rfl, (blk_cell BK225.out 2).trans rfl, (blk_cell BK225.out 3).trans rfl, (blk_cell BK225.out 4).trans rfl⟩ (fun hHeld => ?_)
     clear hK K
     refine norm_ (a' := ?_) ?_ ?_
     rotate_left
     ·show Act.put _ (some 20) _ = _
      simp only [Act.put, List.setIfInBounds_toArray, List.set_cons_zero, List.set_cons_succ, i64_w, i32_w]
      rfl
     refine pu 9 21 ?_
     refine done_ (done_of HT_.out (by kernel_rfl)) ?_
     try go_wp2
     go_roundg k1
     case measure => have := HK1.out; omega
     case rel => exact ⟨(wrap64 (x7_1 + 1)), sq, H', ⟨b63_⟩, ⟨bel1 GE225.out⟩⟩
    replace c6 := Bool.eq_false_iff.mpr c6; subst c6
    have H1 : (some false) = some r := b13_
    replace H := H1; clear H1
    obtain rfl := Option.some.inj H
    have p224 : 0 ≤ (x7_1 : Int) := of_decide_eq_true ad
    have q224 : x7_1 < (l0.length : Int) := of_decide_eq_true ad
    obtain ⟨ad224, e224, hx224_0, hx224_1, hx224_2, hx224_3, hx224_4⟩ := at_T82 HR0.out x7_1 p224 q224
    cases e224
    replace hx224_0 := kp HB.out hx224_0; replace hx224_1 := kp HB.out hx224_1; replace hx224_2 := kp HB.out hx224_2; replace hx224_3 := kp HB.out hx224_3; replace hx224_4 := kp HB.out hx224_4; replace p224 := eq_true p224; replace q224 := eq_true q224
    try go_wp2_with (first | ((with_reducible refine gate_dst (N := 4) rfl ?_); refine bx 4 (cs := #[.string (⟨#[]⟩ : ByteArray), .bool false, .string (⟨#[]⟩ : ByteArray), .string (⟨#[]⟩ : ByteArray), .string (⟨#[]⟩ : ByteArray)]) (t := 82) ?_; intro gb225 hg w25 hbox hb; have BK225 := am (hbox); have GW225 := am ((b19_ : w.heap.size ≤ gb225)); have GE225 := am ((b19_ : w.heap.size ≤ gb225)); replace HB := am (below_step bel hb); clear hb hbox hg; have hcz26_0 := bc BK225.out 0; have hcz26_1 := bc BK225.out 1; have hcz26_2 := bc BK225.out 2; have hcz26_3 := bc BK225.out 3; have hcz26_4 := bc BK225.out 4; have hfz26_0 := bf BK225.out 0; have hfz26_1 := bf BK225.out 1; have hfz26_2 := bf BK225.out 2; have hfz26_3 := bf BK225.out 3; have hfz26_4 := bf BK225.out 4))
    have n0_ : Aside0 ((((((w25.setCell ⟨gb225, 0, none⟩ (.string ((rd_T82 l0 x7_1).f0))).setCell ⟨gb225, 1, none⟩ (.bool ((rd_T82 l0 x7_1).f1))).setCell ⟨gb225, 2, none⟩ (.string ((rd_T82 l0 x7_1).f2))).setCell ⟨gb225, 3, none⟩ (.string ((rd_T82 l0 x7_1).f3))).setCell ⟨gb225, 4, none⟩ (.string ((rd_T82 l0 x7_1).f4))).heap[gb225]? = some (.cells #[.string ((rd_T82 l0 x7_1).f0), .bool ((rd_T82 l0 x7_1).f1), .string ((rd_T82 l0 x7_1).f2), .string ((rd_T82 l0 x7_1).f3), .string ((rd_T82 l0 x7_1).f4)] 82 (0, 0))) := ⟨b8_⟩
    have n1_ : Aside0 (Below w.heap.size w (((((w25.setCell ⟨gb225, 0, none⟩ (.string ((rd_T82 l0 x7_1).f0))).setCell ⟨gb225, 1, none⟩ (.bool ((rd_T82 l0 x7_1).f1))).setCell ⟨gb225, 2, none⟩ (.string ((rd_T82 l0 x7_1).f2))).setCell ⟨gb225, 3, none⟩ (.string ((rd_T82 l0 x7_1).f3))).setCell ⟨gb225, 4, none⟩ (.string ((rd_T82 l0 x7_1).f4)))) := ⟨bel1 GE225.out⟩
    (try clear BK225)
    (try clear HB)
    generalize (((((w25.setCell ⟨gb225, 0, none⟩ (.string ((rd_T82 l0 x7_1).f0))).setCell ⟨gb225, 1, none⟩ (.bool ((rd_T82 l0 x7_1).f1))).setCell ⟨gb225, 2, none⟩ (.string ((rd_T82 l0 x7_1).f2))).setCell ⟨gb225, 3, none⟩ (.string ((rd_T82 l0 x7_1).f3))).setCell ⟨gb225, 4, none⟩ (.string ((rd_T82 l0 x7_1).f4))) = w27 at n0_ n1_ ⊢
    have BK225 := n0_; have HB := n1_; clear n0_ n1_; replace BK225 := am (blk_drew BK225.out); replace HB := am (below_drew1 HB.out)
    refine st (n := 10) (S := fun w' => w'.cell? ⟨gb225, 0, none⟩ = some (.string ((rd_T82 l0 x7_1).f0)) ∧ w'.cell? ⟨gb225, 1, none⟩ = some (.bool ((rd_T82 l0 x7_1).f1)) ∧ w'.cell? ⟨gb225, 2, none⟩ = some (.string ((rd_T82 l0 x7_1).f2)) ∧ w'.cell? ⟨gb225, 3, none⟩ = some (.string ((rd_T82 l0 x7_1).f3)) ∧ w'.cell? ⟨gb225, 4, none⟩ = some (.string ((rd_T82 l0 x7_1).f4))) (ds := []) ⟨(blk_cell BK225.out 0).trans rfl, (blk_cell BK225.out 1).trans rfl, (blk_cell BK225.out 2).trans rfl, (blk_cell BK225.out 3).trans rfl, (blk_cell BK225.out 4).trans rfl⟩ (fun hHeld => ?_); refine with_tabW impl_affixesOk.tab4 impl_affixesOk.bits4 (fun HT_ HW_ => ?_)
    generalize w27.drew = w28 at BK225 HB hHeld ⊢
    refine tk5 0 12 hHeld ?_
    refine on1 1 13 (fun K hK => ?_)
    refine goes_ Tryz.func74 (by kernel_rfl) rfl #[.agg #[.string ((rd_T82 l0 x7_1).f0), .bool ((rd_T82 l0 x7_1).f1), .string ((rd_T82 l0 x7_1).f2), .string ((rd_T82 l0 x7_1).f3), .string ((rd_T82 l0 x7_1).f4)]] (by rfl) rfl rfl mq ?_
    with_reducible refine (impl_AffixOk.calls k1 ((rd_T82 l0 x7_1).f0) ((rd_T82 l0 x7_1).f1) ((rd_T82 l0 x7_1).f2) ((rd_T82 l0 x7_1).f3) ((rd_T82 l0 x7_1).f4) false _ A5.out).mono ?_
    rintro e w29 ⟨rfl, hb⟩
    refine ⟨_, rfl, ?_⟩
    replace BK225 := am (blk_below (g := gb225) (o := .cells #[.string ((rd_T82 l0 x7_1).f0), .bool ((rd_T82 l0 x7_1).f1), .string ((rd_T82 l0 x7_1).f2), .string ((rd_T82 l0 x7_1).f3), .string ((rd_T82 l0 x7_1).f4)] 82 (0, 0)) (bq BK225.out) hb); replace HB := am (below_step (bel1 GE225.out) hb)
    (try clear hb)
    (try clear hb2)
    (try clear hk)
    (try clear hi)
    refine hK.out _ _ ⟨(blk_cell BK225.out 0).trans rfl, (blk_cell BK225.out 1).trans rfl, (blk_cell BK225.out 2).trans rfl, (blk_cell BK225.out 3).trans rfl, (blk_cell BK225.out 4).trans rfl⟩ (fun hHeld => ?_)
    clear hK K
    refine norm_ (a' := ?_) ?_ ?_
    rotate_left
    ·show Act.put _ (some 13) _ = _
     simp only [Act.put, List.setIfInBounds_toArray, List.set_cons_zero, List.set_cons_succ, i64_w, i32_w]
     rfl
    refine pu 2 14 ?_
    refine pu 3 15 ?_
    refine puu 4 16 ?_
    refine puu 5 17 ?_
    refine puu 6 18 ?_
    refine puu 7 19 ?_
    refine puu 8 20 ?_
    refine pu 9 21 ?_
    refine done_ (done_of HT_.out (by kernel_rfl)) ?_
    try go_wp2
    go_ret
    exact ⟨eq_, bel1 GE225.out⟩
   rw [if_neg c2] at H; have c2b0 := decide_eq_false c2; clear c2; obtain rfl := Option.some.inj H; go_wp2; go_ret
   exact ⟨eq_, bel⟩

/-! ### impl_within: function 111 -/
def impl_within.f (a0 : Int) (a1 : Int) (a2 : Int) : Option (Bool) := if a0 ≥ a1 then (some (decide (a0 ≤ a2))) else (some false)
theorem impl_within.calls (a0 : Int) (a1 : Int) (a2 : Int) (r : Bool) (w : World) (h : impl_within.f a0 a1 a2 = some r) :
  Calls Tryz.prog 111 #[.int .i64 a0, .int .i64 a1, .int .i64 a2] w fun e w' => e = .returned (.bool r) ∧ Drawn0 w w' := by
 have H : (if a0 ≥ a1 then (some (decide (a0 ≤ a2))) else (some false)) = some r := h
 clear h
 by_cases c4 : a0 ≥ a1
 ·rw [if_pos c4] at H; have c4b0 := decide_eq_true c4; clear c4; obtain rfl := Option.some.inj H; go_enter Tryz.func111, Tryz.ntmps111; go_wp2; go_ret
  exact ⟨sq, dr⟩
 rw [if_neg c4] at H; have c4b0 := decide_eq_false c4; clear c4; obtain rfl := Option.some.inj H; go_enter Tryz.func111, Tryz.ntmps111; go_wp2; go_ret
 exact ⟨sq, dr⟩

/-! ### impl_WordOk: function 100 -/
def impl_WordOk.f (k : Nat) (a0 : ByteArray) : Option (Bool) := (impl_within.f (a0.size : Int) 1 12).bind fun t232 => (if t232 = true then ((impl_lower.f k a0).bind fun t233 => (some t233)) else (some false))
theorem impl_WordOk.calls (k : Nat) (a0 : ByteArray) (r : Bool) (w : World) (h : impl_WordOk.f k a0 = some r) :
  Calls Tryz.prog 100 #[.string a0] w fun e w' => e = .returned (.bool r) ∧ Drawn0 w w' := by
 have H : ((impl_within.f (a0.size : Int) 1 12).bind fun t232 => (if t232 = true then ((impl_lower.f k a0).bind fun t233 => (some t233)) else (some false))) = some r := h
 clear h; replace H := bs H; obtain ⟨t232, A20, H⟩ := H; replace H : (if t232 = true then ((impl_lower.f k a0).bind fun t233 => (some t233)) else (some false)) = some r := H; have A2 := Aside0.mk A20; clear A20
 by_cases c3 : t232 = true
 ·subst c3
  have H1 : ((impl_lower.f k a0).bind fun t233 => (some t233)) = some r := b32_
  replace H := H1; clear H1
  replace H := bs H; obtain ⟨t233, A40, H⟩ := H; replace H : (some t233) = some r := H; have A4 := Aside0.mk A40; clear A40; obtain rfl := Option.some.inj H; go_enter Tryz.func100, Tryz.ntmps100
  go_wp2_with (first | ((with_reducible refine gate_callee (f := 111) rfl ?_); refine goesL_ (some 5) rfl rfl Tryz.func111 (by kernel_rfl) rfl #[.int .i64 (a0.size : Int), .int .i64 1, .int .i64 12] rfl mq ?_; (with_reducible refine (impl_within.calls (a0.size : Int) 1 12 true _ A2.out).mono ?_); rintro e w' ⟨rfl, ⟨nd, rfl⟩⟩; refine ⟨_, rfl, ?_⟩) | (go_at_call 96; (with_reducible refine (impl_lower.calls k a0 t233 _ A4.out).mono ?_); rintro e w' ⟨rfl, ⟨nd, rfl⟩⟩))
  go_ret
  exact ⟨sq, dr⟩
 replace c3 := Bool.eq_false_iff.mpr c3; subst c3
 have H1 : (some false) = some r := b13_
 replace H := H1; clear H1
 obtain rfl := Option.some.inj H; go_enter Tryz.func100, Tryz.ntmps100
 go_wp2_with (first | ((with_reducible refine gate_callee (f := 111) rfl ?_); refine goesL_ (some 5) rfl rfl Tryz.func111 (by kernel_rfl) rfl #[.int .i64 (a0.size : Int), .int .i64 1, .int .i64 12] rfl mq ?_; (with_reducible refine (impl_within.calls (a0.size : Int) 1 12 false _ A2.out).mono ?_); rintro e w' ⟨rfl, ⟨nd, rfl⟩⟩; refine ⟨_, rfl, ?_⟩))
 go_ret
 exact ⟨sq, dr⟩

/-! ### impl_entryOk: function 76 -/
def impl_entryOk.l0 : Nat → Int → Int → ByteArray → ByteArray → Option (Bool)
 | 0, _, _, _, _ => none
 | k + 1, x6, x7, x235000, x235001 => if x7 < x6 then (if 0 ≤ x7 then (if x7 < (x235001.size : Int) then ((impl_upper.f (bt x235001 x7)).bind fun t235 => (if t235 = true then (if x7 > 0 then (if 0 ≤ (wrap64 (x7 - 1)) then (if (wrap64 (x7 - 1)) < (x235001.size : Int) then (if (bt x235001 (wrap64 (x7 - 1))) ≥ (bt x235001 x7) then (some false) else (impl_entryOk.l0 k x6 (wrap64 (x7 + 1)) x235000 x235001)) else (none)) else (none)) else (impl_entryOk.l0 k x6 (wrap64 (x7 + 1)) x235000 x235001)) else (some false))) else (none)) else (none)) else ((impl_WordOk.f k x235000).bind fun t236 => (if t236 = true then (some (decide ((x235001.size : Int) ≤ 4))) else (some false)))
def impl_entryOk.f (k : Nat) (a0_0 : ByteArray) (a0_1 : ByteArray) : Option (Bool) := impl_entryOk.l0 k (a0_1.size : Int) 0 a0_0 a0_1
theorem impl_entryOk.calls (k : Nat) (a0_0 : ByteArray) (a0_1 : ByteArray) (r : Bool) (w : World) (h : impl_entryOk.f k a0_0 a0_1 = some r) :
  Calls Tryz.prog 76 #[.agg #[.string a0_0, .string a0_1]] w fun e w' => e = .returned (.bool r) ∧ Below w.heap.size w w' := by
 have hu78 := Tryz.underlying78; have HB := am (Below.refl w.heap.size w)
 have H : (impl_entryOk.l0 k (a0_1.size : Int) 0 a0_0 a0_1) = some r := h
 clear h
 have H' := am H
 clear H; go_enter Tryz.func76, Tryz.ntmps76
 go_wp2_with (first | ((with_reducible refine gate_dst (N := 1) rfl ?_); (try (refine gate_guard (by rfl) ?_; dsimp only)); refine bx 1 (cs := #[.string a0_0, .string a0_1]) (t := 78) ?_; intro gb234 hg w2 hbox hb; have BK234 := am (hbox); have GW234 := am ((b19_ : w.heap.size ≤ gb234)); have GE234 := am ((b19_ : w.heap.size ≤ gb234)); replace HB := am (below_step bel hb); clear hb hbox hg; have hcz3_0 := bc BK234.out 0; have hcz3_1 := bc BK234.out 1; have hfz3_0 := bf BK234.out 0; have hfz3_1 := bf BK234.out 1))
 repeat (go_quiet (first | ((with_reducible refine gate_dst (N := 1) rfl ?_); (try (refine gate_guard (by rfl) ?_; dsimp only)); refine bx 1 (cs := #[.string a0_0, .string a0_1]) (t := 78) ?_; intro gb234 hg w2 hbox hb; have BK234 := am (hbox); have GW234 := am ((b19_ : w.heap.size ≤ gb234)); have GE234 := am ((b19_ : w.heap.size ≤ gb234)); replace HB := am (below_step bel hb); clear hb hbox hg; have hcz3_0 := bc BK234.out 0; have hcz3_1 := bc BK234.out 1; have hfz3_0 := bf BK234.out 0; have hfz3_1 := bf BK234.out 1)); try go_wp2_with (first | ((with_reducible refine gate_dst (N := 1) rfl ?_); (try (refine gate_guard (by rfl) ?_; dsimp only)); refine bx 1 (cs := #[.string a0_0, .string a0_1]) (t := 78) ?_; intro gb234 hg w2 hbox hb; have BK234 := am (hbox); have GW234 := am ((b19_ : w.heap.size ≤ gb234)); have GE234 := am ((b19_ : w.heap.size ≤ gb234)); replace HB := am (below_step bel hb); clear hb hbox hg; have hcz3_0 := bc BK234.out 0; have hcz3_1 := bc BK234.out 1; have hfz3_0 := bf BK234.out 0; have hfz3_1 := bf BK234.out 1)))
 go_loopg [7] k (fun kq v7 w' => ∃ (x7_1 : Int), v7 = .int .i64 x7_1 ∧ Aside0 (impl_entryOk.l0 kq (a0_1.size : Int) x7_1 a0_0 a0_1 = some r) ∧ Aside0 (kq ≤ k) ∧ Aside0 (w'.heap[gb234]? = some (.cells #[.string a0_0, .string a0_1] 78 (0, 0))) ∧ Aside0 (Below w.heap.size w w'))
 case atStart => exact ⟨(0), sq, H', ⟨Nat.le_refl _⟩, ⟨bq BK234.out⟩, ⟨bel1 GE234.out⟩⟩
 case round =>
  clear H'; (try clear p2); (try clear hcz3_0); (try clear hcz3_1); (try clear hfz3_0); (try clear hfz3_1); obtain ⟨x7_1, rfl, HA, HK1, BK234, HB⟩ := hrel
  cases gk with
  | zero => exact absurd HA.out (by simp [impl_entryOk.l0])
  | succ k1 =>
   have H := HA.out; clear HA
   simp only [impl_entryOk.l0] at H
   by_cases c4 : x7_1 < (a0_1.size : Int)
   ·rw [if_pos c4] at H; have c4b0 := decide_eq_true c4; clear c4
    replace H := it H; obtain ⟨c5b0, H⟩ := H
    replace H := it H; obtain ⟨c6b0, H⟩ := H; replace H := bs H; obtain ⟨t235, A80, H⟩ := H; replace H : (if t235 = true then (if x7_1 > 0 then (if 0 ≤ (wrap64 (x7_1 - 1)) then (if (wrap64 (x7_1 - 1)) < (a0_1.size : Int) then (if (bt a0_1 (wrap64 (x7_1 - 1))) ≥ (bt a0_1 x7_1) then (some false) else (impl_entryOk.l0 k1 (a0_1.size : Int) (wrap64 (x7_1 + 1)) a0_0 a0_1)) else (none)) else (none)) else (impl_entryOk.l0 k1 (a0_1.size : Int) (wrap64 (x7_1 + 1)) a0_0 a0_1)) else (some false)) = some r := H; have A8 := Aside0.mk A80; clear A80
    by_cases c9 : t235 = true
    ·subst c9
     have H1 : (if x7_1 > 0 then (if 0 ≤ (wrap64 (x7_1 - 1)) then (if (wrap64 (x7_1 - 1)) < (a0_1.size : Int) then (if (bt a0_1 (wrap64 (x7_1 - 1))) ≥ (bt a0_1 x7_1) then (some false) else (impl_entryOk.l0 k1 (a0_1.size : Int) (wrap64 (x7_1 + 1)) a0_0 a0_1)) else (none)) else (none)) else (impl_entryOk.l0 k1 (a0_1.size : Int) (wrap64 (x7_1 + 1)) a0_0 a0_1)) = some r := b32_
     replace H := H1; clear H1
     by_cases c10 : x7_1 > 0
     ·rw [if_pos c10] at H; have c10b0 := decide_eq_true c10; clear c10; obtain ⟨ji11, hji11⟩ : ∃ j_ : Int, (wrap64 (x7_1 - 1)) = j_ := ⟨_, rfl⟩
      replace H : (if 0 ≤ (ji11) then (if (ji11) < (a0_1.size : Int) then (if (bt a0_1 (ji11)) ≥ (bt a0_1 x7_1) then (some false) else (impl_entryOk.l0 k1 (a0_1.size : Int) (wrap64 (x7_1 + 1)) a0_0 a0_1)) else (none)) else (none)) = some r := by first | (rw [hji11] at H; exact H) | (simp only [hji11] at H ⊢; exact H)
      (try rw [hji11] at A8)
      have hji11w : (IntKind.i64.wrap (x7_1 - 1)) = ji11 := (i64_w _).trans hji11
      replace H := it H; obtain ⟨c12b0, H⟩ := H
      replace H := it H; obtain ⟨c13b0, H⟩ := H
      by_cases c16 : (bt a0_1 (ji11)) ≥ (bt a0_1 x7_1)
      ·rw [if_pos c16] at H; have c16b0 := decide_eq_true c16; clear c16; obtain rfl := Option.some.inj H; have hcz17_0 := bc BK234.out 0; have hcz17_1 := bc BK234.out 1; have hfz17_0 := bf BK234.out 0; have hfz17_1 := bf BK234.out 1
       have p7 : 0 ≤ (x7_1 : Int) := of_decide_eq_true ad
       have q7 : x7_1 < (a0_1.size : Int) := of_decide_eq_true ad
       have hx7 := bt_at a0_1 x7_1; replace p7 := eq_true p7; replace q7 := eq_true q7
       try have p14 : 0 ≤ ((ji11) : Int) := of_decide_eq_true ad
       try have q14 : (ji11) < (a0_1.size : Int) := of_decide_eq_true ad
       try have hx14 := bt_at a0_1 (ji11)
       try replace p14 := eq_true p14
       try replace q14 := eq_true q14
       try have p15 : 0 ≤ (x7_1 : Int) := of_decide_eq_true ad
       try have q15 : x7_1 < (a0_1.size : Int) := of_decide_eq_true ad
       try have hx15 := bt_at a0_1 x7_1
       try replace p15 := eq_true p15
       try replace q15 := eq_true q15
       go_wp2_with (first | (go_at_call 56; (with_reducible refine (impl_upper.calls (bt a0_1 x7_1) true _ A8.out).mono ?_); rintro e w' ⟨rfl, ⟨nd, rfl⟩⟩; first | exact ⟨rfl, _, World.drewN_drewN _ _ _⟩ | exact ⟨rfl, _, Eq.trans (World.drewN_drewN _ _ _) (congrArg (World.drewN _) (Nat.add_assoc _ _ _))⟩ | (have p14 : 0 ≤ ((ji11) : Int) := of_decide_eq_true ad; have q14 : (ji11) < (a0_1.size : Int) := of_decide_eq_true ad; have hx14 := bt_at a0_1 (ji11); replace p14 := eq_true p14; replace q14 := eq_true q14; have p15 : 0 ≤ (x7_1 : Int) := of_decide_eq_true ad; have q15 : x7_1 < (a0_1.size : Int) := of_decide_eq_true ad; have hx15 := bt_at a0_1 x7_1; replace p15 := eq_true p15; replace q15 := eq_true q15)))
       repeat (go_quiet (first | (go_at_call 56; (with_reducible refine (impl_upper.calls (bt a0_1 x7_1) true _ A8.out).mono ?_); rintro e w' ⟨rfl, ⟨nd, rfl⟩⟩; first | exact ⟨rfl, _, World.drewN_drewN _ _ _⟩ | exact ⟨rfl, _, Eq.trans (World.drewN_drewN _ _ _) (congrArg (World.drewN _) (Nat.add_assoc _ _ _))⟩ | (have p14 : 0 ≤ ((ji11) : Int) := of_decide_eq_true ad; have q14 : (ji11) < (a0_1.size : Int) := of_decide_eq_true ad; have hx14 := bt_at a0_1 (ji11); replace p14 := eq_true p14; replace q14 := eq_true q14; have p15 : 0 ≤ (x7_1 : Int) := of_decide_eq_true ad; have q15 : x7_1 < (a0_1.size : Int) := of_decide_eq_true ad; have hx15 := bt_at a0_1 x7_1; replace p15 := eq_true p15; replace q15 := eq_true q15))); try go_wp2_with (first | (go_at_call 56; (with_reducible refine (impl_upper.calls (bt a0_1 x7_1) true _ A8.out).mono ?_); rintro e w' ⟨rfl, ⟨nd, rfl⟩⟩; first | exact ⟨rfl, _, World.drewN_drewN _ _ _⟩ | exact ⟨rfl, _, Eq.trans (World.drewN_drewN _ _ _) (congrArg (World.drewN _) (Nat.add_assoc _ _ _))⟩ | (have p14 : 0 ≤ ((ji11) : Int) := of_decide_eq_true ad; have q14 : (ji11) < (a0_1.size : Int) := of_decide_eq_true ad; have hx14 := bt_at a0_1 (ji11); replace p14 := eq_true p14; replace q14 := eq_true q14; have p15 : 0 ≤ (x7_1 : Int) := of_decide_eq_true ad; have q15 : x7_1 < (a0_1.size : Int) := of_decide_eq_true ad; have hx15 := bt_at a0_1 x7_1; replace p15 := eq_true p15; replace q15 := eq_true q15))))
       go_ret
       exact ⟨by first | rfl | (simp [errW_none, errW_some] <;> rfl) | (simp only [← hji11]; first | rfl | (simp [errW_none, errW_some] <;> rfl)) | (simp [*, errW_none, errW_some] <;> rfl), bel1 GE234.out⟩
      rw [if_neg c16] at H; have c16b0 := decide_eq_false c16; clear c16
      have H' := am H
      clear H; have hcz18_0 := bc BK234.out 0; have hcz18_1 := bc BK234.out 1; have hfz18_0 := bf BK234.out 0; have hfz18_1 := bf BK234.out 1
      have p7 : 0 ≤ (x7_1 : Int) := of_decide_eq_true ad
      have q7 : x7_1 < (a0_1.size : Int) := of_decide_eq_true ad
      have hx7 := bt_at a0_1 x7_1; replace p7 := eq_true p7; replace q7 := eq_true q7
      try have p14 : 0 ≤ ((ji11) : Int) := of_decide_eq_true ad
      try have q14 : (ji11) < (a0_1.size : Int) := of_decide_eq_true ad
      try have hx14 := bt_at a0_1 (ji11)
      try replace p14 := eq_true p14
      try replace q14 := eq_true q14
      try have p15 : 0 ≤ (x7_1 : Int) := of_decide_eq_true ad
      try have q15 : x7_1 < (a0_1.size : Int) := of_decide_eq_true ad
      try have hx15 := bt_at a0_1 x7_1
      try replace p15 := eq_true p15
      try replace q15 := eq_true q15
      go_wp2_with (first | (go_at_call 56; (with_reducible refine (impl_upper.calls (bt a0_1 x7_1) true _ A8.out).mono ?_); rintro e w' ⟨rfl, ⟨nd, rfl⟩⟩; first | exact ⟨rfl, _, World.drewN_drewN _ _ _⟩ | exact ⟨rfl, _, Eq.trans (World.drewN_drewN _ _ _) (congrArg (World.drewN _) (Nat.add_assoc _ _ _))⟩ | (have p14 : 0 ≤ ((ji11) : Int) := of_decide_eq_true ad; have q14 : (ji11) < (a0_1.size : Int) := of_decide_eq_true ad; have hx14 := bt_at a0_1 (ji11); replace p14 := eq_true p14; replace q14 := eq_true q14; have p15 : 0 ≤ (x7_1 : Int) := of_decide_eq_true ad; have q15 : x7_1 < (a0_1.size : Int) := of_decide_eq_true ad; have hx15 := bt_at a0_1 x7_1; replace p15 := eq_true p15; replace q15 := eq_true q15)))
      repeat (go_quiet (first | (go_at_call 56; (with_reducible refine (impl_upper.calls (bt a0_1 x7_1) true _ A8.out).mono ?_); rintro e w' ⟨rfl, ⟨nd, rfl⟩⟩; first | exact ⟨rfl, _, World.drewN_drewN _ _ _⟩ | exact ⟨rfl, _, Eq.trans (World.drewN_drewN _ _ _) (congrArg (World.drewN _) (Nat.add_assoc _ _ _))⟩ | (have p14 : 0 ≤ ((ji11) : Int) := of_decide_eq_true ad; have q14 : (ji11) < (a0_1.size : Int) := of_decide_eq_true ad; have hx14 := bt_at a0_1 (ji11); replace p14 := eq_true p14; replace q14 := eq_true q14; have p15 : 0 ≤ (x7_1 : Int) := of_decide_eq_true ad; have q15 : x7_1 < (a0_1.size : Int) := of_decide_eq_true ad; have hx15 := bt_at a0_1 x7_1; replace p15 := eq_true p15; replace q15 := eq_true q15))); try go_wp2_with (first | (go_at_call 56; (with_reducible refine (impl_upper.calls (bt a0_1 x7_1) true _ A8.out).mono ?_); rintro e w' ⟨rfl, ⟨nd, rfl⟩⟩; first | exact ⟨rfl, _, World.drewN_drewN _ _ _⟩ | exact ⟨rfl, _, Eq.trans (World.drewN_drewN _ _ _) (congrArg (World.drewN _) (Nat.add_assoc _ _ _))⟩ | (have p14 : 0 ≤ ((ji11) : Int) := of_decide_eq_true ad; have q14 : (ji11) < (a0_1.size : Int) := of_decide_eq_true ad; have hx14 := bt_at a0_1 (ji11); replace p14 := eq_true p14; replace q14 := eq_true q14; have p15 : 0 ≤ (x7_1 : Int) := of_decide_eq_true ad; have q15 : x7_1 < (a0_1.size : Int) := of_decide_eq_true ad; have hx15 := bt_at a0_1 x7_1; replace p15 := eq_true p15; replace q15 := eq_true q15))))
      go_roundg k1
      case measure => have := HK1.out; omega
      case rel => exact ⟨(wrap64 (x7_1 + 1)), sq, H', ⟨b63_⟩, ⟨bq BK234.out⟩, ⟨bel1 GE234.out⟩⟩
     rw [if_neg c10] at H; have c10b0 := decide_eq_false c10; clear c10
     have H' := am H
     clear H; have hcz19_0 := bc BK234.out 0; have hcz19_1 := bc BK234.out 1; have hfz19_0 := bf BK234.out 0; have hfz19_1 := bf BK234.out 1
     have p7 : 0 ≤ (x7_1 : Int) := of_decide_eq_true ad
     have q7 : x7_1 < (a0_1.size : Int) := of_decide_eq_true ad
     have hx7 := bt_at a0_1 x7_1; replace p7 := eq_true p7; replace q7 := eq_true q7
     go_wp2_with (first | (go_at_call 56; (with_reducible refine (impl_upper.calls (bt a0_1 x7_1) true _ A8.out).mono ?_); rintro e w' ⟨rfl, ⟨nd, rfl⟩⟩; (try first | exact ⟨rfl, _, World.drewN_drewN _ _ _⟩ | exact ⟨rfl, _, Eq.trans (World.drewN_drewN _ _ _) (congrArg (World.drewN _) (Nat.add_assoc _ _ _))⟩)))
     repeat (go_quiet (first | (go_at_call 56; (with_reducible refine (impl_upper.calls (bt a0_1 x7_1) true _ A8.out).mono ?_); rintro e w' ⟨rfl, ⟨nd, rfl⟩⟩; (try first | exact ⟨rfl, _, World.drewN_drewN _ _ _⟩ | exact ⟨rfl, _, Eq.trans (World.drewN_drewN _ _ _) (congrArg (World.drewN _) (Nat.add_assoc _ _ _))⟩))); try go_wp2_with (first | (go_at_call 56; (with_reducible refine (impl_upper.calls (bt a0_1 x7_1) true _ A8.out).mono ?_); rintro e w' ⟨rfl, ⟨nd, rfl⟩⟩; (try first | exact ⟨rfl, _, World.drewN_drewN _ _ _⟩ | exact ⟨rfl, _, Eq.trans (World.drewN_drewN _ _ _) (congrArg (World.drewN _) (Nat.add_assoc _ _ _))⟩))))
     go_roundg k1
     case measure => have := HK1.out; omega
     case rel => exact ⟨(wrap64 (x7_1 + 1)), sq, H', ⟨b63_⟩, ⟨bq BK234.out⟩, ⟨bel1 GE234.out⟩⟩
    replace c9 := Bool.eq_false_iff.mpr c9; subst c9
    have H1 : (some false) = some r := b13_
    replace H := H1; clear H1
    obtain rfl := Option.some.inj H; have hcz20_0 := bc BK234.out 0; have hcz20_1 := bc BK234.out 1; have hfz20_0 := bf BK234.out 0; have hfz20_1 := bf BK234.out 1
    have p7 : 0 ≤ (x7_1 : Int) := of_decide_eq_true ad
    have q7 : x7_1 < (a0_1.size : Int) := of_decide_eq_true ad
    have hx7 := bt_at a0_1 x7_1; replace p7 := eq_true p7; replace q7 := eq_true q7
    go_wp2_with (first | (go_at_call 56; (with_reducible refine (impl_upper.calls (bt a0_1 x7_1) false _ A8.out).mono ?_); rintro e w' ⟨rfl, ⟨nd, rfl⟩⟩; (try first | exact ⟨rfl, _, World.drewN_drewN _ _ _⟩ | exact ⟨rfl, _, Eq.trans (World.drewN_drewN _ _ _) (congrArg (World.drewN _) (Nat.add_assoc _ _ _))⟩)))
    repeat (go_quiet (first | (go_at_call 56; (with_reducible refine (impl_upper.calls (bt a0_1 x7_1) false _ A8.out).mono ?_); rintro e w' ⟨rfl, ⟨nd, rfl⟩⟩; (try first | exact ⟨rfl, _, World.drewN_drewN _ _ _⟩ | exact ⟨rfl, _, Eq.trans (World.drewN_drewN _ _ _) (congrArg (World.drewN _) (Nat.add_assoc _ _ _))⟩))); try go_wp2_with (first | (go_at_call 56; (with_reducible refine (impl_upper.calls (bt a0_1 x7_1) false _ A8.out).mono ?_); rintro e w' ⟨rfl, ⟨nd, rfl⟩⟩; (try first | exact ⟨rfl, _, World.drewN_drewN _ _ _⟩ | exact ⟨rfl, _, Eq.trans (World.drewN_drewN _ _ _) (congrArg (World.drewN _) (Nat.add_assoc _ _ _))⟩))))
    go_ret
    exact ⟨eq_, bel1 GE234.out⟩
   rw [if_neg c4] at H; have c4b0 := decide_eq_false c4; clear c4; replace H := bs H; obtain ⟨t236, A210, H⟩ := H; replace H : (if t236 = true then (some (decide ((a0_1.size : Int) ≤ 4))) else (some false)) = some r := H; have A21 := Aside0.mk A210; clear A210
   by_cases c22 : t236 = true
   ·subst c22
    have H1 : (some (decide ((a0_1.size : Int) ≤ 4))) = some r := b32_
    replace H := H1; clear H1
    obtain rfl := Option.some.inj H; have hcz23_0 := bc BK234.out 0; have hcz23_1 := bc BK234.out 1; have hfz23_0 := bf BK234.out 0; have hfz23_1 := bf BK234.out 1
    go_wp2_with (first | (go_at_call 100; (with_reducible refine (impl_WordOk.calls k1 a0_0 true _ A21.out).mono ?_); rintro e w' ⟨rfl, ⟨nd, rfl⟩⟩; (try first | exact ⟨rfl, _, World.drewN_drewN _ _ _⟩ | exact ⟨rfl, _, Eq.trans (World.drewN_drewN _ _ _) (congrArg (World.drewN _) (Nat.add_assoc _ _ _))⟩)))
    repeat (go_quiet (first | (go_at_call 100; (with_reducible refine (impl_WordOk.calls k1 a0_0 true _ A21.out).mono ?_); rintro e w' ⟨rfl, ⟨nd, rfl⟩⟩; (try first | exact ⟨rfl, _, World.drewN_drewN _ _ _⟩ | exact ⟨rfl, _, Eq.trans (World.drewN_drewN _ _ _) (congrArg (World.drewN _) (Nat.add_assoc _ _ _))⟩))); try go_wp2_with (first | (go_at_call 100; (with_reducible refine (impl_WordOk.calls k1 a0_0 true _ A21.out).mono ?_); rintro e w' ⟨rfl, ⟨nd, rfl⟩⟩; (try first | exact ⟨rfl, _, World.drewN_drewN _ _ _⟩ | exact ⟨rfl, _, Eq.trans (World.drewN_drewN _ _ _) (congrArg (World.drewN _) (Nat.add_assoc _ _ _))⟩))))
    go_ret
    exact ⟨eq_, bel1 GE234.out⟩
   replace c22 := Bool.eq_false_iff.mpr c22; subst c22
   have H1 : (some false) = some r := b13_
   replace H := H1; clear H1
   obtain rfl := Option.some.inj H; have hcz24_0 := bc BK234.out 0; have hcz24_1 := bc BK234.out 1; have hfz24_0 := bf BK234.out 0; have hfz24_1 := bf BK234.out 1
   go_wp2_with (first | (go_at_call 100; (with_reducible refine (impl_WordOk.calls k1 a0_0 false _ A21.out).mono ?_); rintro e w' ⟨rfl, ⟨nd, rfl⟩⟩; (try first | exact ⟨rfl, _, World.drewN_drewN _ _ _⟩ | exact ⟨rfl, _, Eq.trans (World.drewN_drewN _ _ _) (congrArg (World.drewN _) (Nat.add_assoc _ _ _))⟩)))
   repeat (go_quiet (first | (go_at_call 100; (with_reducible refine (impl_WordOk.calls k1 a0_0 false _ A21.out).mono ?_); rintro e w' ⟨rfl, ⟨nd, rfl⟩⟩; (try first | exact ⟨rfl, _, World.drewN_drewN _ _ _⟩ | exact ⟨rfl, _, Eq.trans (World.drewN_drewN _ _ _) (congrArg (World.drewN _) (Nat.add_assoc _ _ _))⟩))); try go_wp2_with (first | (go_at_call 100; (with_reducible refine (impl_WordOk.calls k1 a0_0 false _ A21.out).mono ?_); rintro e w' ⟨rfl, ⟨nd, rfl⟩⟩; (try first | exact ⟨rfl, _, World.drewN_drewN _ _ _⟩ | exact ⟨rfl, _, Eq.trans (World.drewN_drewN _ _ _) (congrArg (World.drewN _) (Nat.add_assoc _ _ _))⟩))))
   go_ret
   exact ⟨eq_, bel1 GE234.out⟩
-- shrunk

/-! ### impl_entriesOk: function 53 -/
def impl_entriesOk.l0 : Nat → List (S78) → List (S78) → Int → Int → Option (Bool)
 | 0, _, _, _, _ => none
 | k + 1, x0, x5, x6, x7 => if x7 < x6 then (if 0 ≤ x7 then (if x7 < (x5.length : Int) then ((impl_entryOk.f k ((rd_T78 x5 x7).f0) ((rd_T78 x5 x7).f1)).bind fun t239 => (if t239 = true then (if x7 > 0 then (if 0 ≤ (wrap64 (x7 - 1)) then (if (wrap64 (x7 - 1)) < (x0.length : Int) then (if ((Op.bytesLess (((rd_T78 x0 (wrap64 (x7 - 1))).f0).toList) (((rd_T78 x5 x7).f0).toList)) = true) then (impl_entriesOk.l0 k x0 x5 x6 (wrap64 (x7 + 1))) else (some false)) else (none)) else (none)) else (impl_entriesOk.l0 k x0 x5 x6 (wrap64 (x7 + 1)))) else (some false))) else (none)) else (none)) else (some (decide ((x0.length : Int) ≤ 24)))
def impl_entriesOk.f (k : Nat) (l0 : List (S78)) : Option (Bool) := impl_entriesOk.l0 k l0 l0 (l0.length : Int) 0
def impl_entriesOk.T4 : Bool × List (List Nat × List Nat) := (true, [([], []), ([0], [0]), ([1], [1]), ([2, 1], [2]), ([3], [3]), ([4, 3], [3, 4]), ([5, 3, 3], [3, 5]), ([6], [6]), ([6], [6]), ([8, 6], [6, 8]), ([7, 9, 6], [6, 7, 9]), ([10, 6], [6, 10]), ([11, 6], [6, 11]), ([6], [6]), ([13, 6], [6, 13]), ([12, 14, 6], [6, 12, 14]), ([6, 15, 3], [3, 6, 15]), ([3, 16], [3, 16])])
def impl_entriesOk.B4 : List Nat := [0, 1, 3, 7, 15, 31, 63, 127, 127, 383, 1023, 2047, 4095, 127, 8319, 32767, 65535, 131071]
theorem impl_entriesOk.tab4 : rtab .any (opsOf Tryz.f53 4) = impl_entriesOk.T4 := by kernel_rfl
theorem impl_entriesOk.bits4 : waitsOk impl_entriesOk.T4.2 impl_entriesOk.B4 = true := by kernel_rfl
theorem impl_entriesOk.calls (k : Nat) (A0 : Option Addr) (c0 : Nat) (l0 : List (S78)) (r : Bool) (w : World) (hr0 : Kd.C k78 w A0 l0.length l0) (hc0 : l0.length ≤ c0) (h : impl_entriesOk.f k l0 = some r) :
  Calls Tryz.prog 53 #[.slice A0 l0.length c0] w fun e w' => e = .returned (.bool r) ∧ Below w.heap.size w w' := by
 have hu78 := Tryz.underlying78; have HR0 := am hr0; have HC0 := am hc0; clear hr0 hc0; have HB := am (Below.refl w.heap.size w)
 have H : (impl_entriesOk.l0 k l0 l0 (l0.length : Int) 0) = some r := h
 clear h
 have H' := am H
 clear H; go_enter Tryz.func53, Tryz.ntmps53; go_wp2
 go_loopg [7] k (fun kq v7 w' => ∃ (x7_1 : Int), v7 = .int .i64 x7_1 ∧ Aside0 (impl_entriesOk.l0 kq l0 l0 (l0.length : Int) x7_1 = some r) ∧ Aside0 (kq ≤ k) ∧ Aside0 (Below w.heap.size w w'))
 case atStart => exact ⟨(0), sq, H', ⟨Nat.le_refl _⟩, ⟨bel⟩⟩
 case round =>
  clear H'; obtain ⟨x7_1, rfl, HA, HK1, HB⟩ := hrel
  cases gk with
  | zero => exact absurd HA.out (by simp [impl_entriesOk.l0])
  | succ k1 =>
   have H := HA.out; clear HA
   simp only [impl_entriesOk.l0] at H
   by_cases c2 : x7_1 < (l0.length : Int)
   ·rw [if_pos c2] at H; have c2b0 := decide_eq_true c2; clear c2
    replace H := it H; obtain ⟨c3b0, H⟩ := H
    replace H := it H; obtain ⟨c4b0, H⟩ := H; replace H := bs H; obtain ⟨t239, A50, H⟩ := H; replace H : (if t239 = true then (if x7_1 > 0 then (if 0 ≤ (wrap64 (x7_1 - 1)) then (if (wrap64 (x7_1 - 1)) < (l0.length : Int) then (if ((Op.bytesLess (((rd_T78 l0 (wrap64 (x7_1 - 1))).f0).toList) (((rd_T78 l0 x7_1).f0).toList)) = true) then (impl_entriesOk.l0 k1 l0 l0 (l0.length : Int) (wrap64 (x7_1 + 1))) else (some false)) else (none)) else (none)) else (impl_entriesOk.l0 k1 l0 l0 (l0.length : Int) (wrap64 (x7_1 + 1)))) else (some false)) = some r := H; have A5 := Aside0.mk A50; clear A50
    by_cases c6 : t239 = true
    ·subst c6
     have H1 : (if x7_1 > 0 then (if 0 ≤ (wrap64 (x7_1 - 1)) then (if (wrap64 (x7_1 - 1)) < (l0.length : Int) then (if ((Op.bytesLess (((rd_T78 l0 (wrap64 (x7_1 - 1))).f0).toList) (((rd_T78 l0 x7_1).f0).toList)) = true) then (impl_entriesOk.l0 k1 l0 l0 (l0.length : Int) (wrap64 (x7_1 + 1))) else (some false)) else (none)) else (none)) else (impl_entriesOk.l0 k1 l0 l0 (l0.length : Int) (wrap64 (x7_1 + 1)))) = some r := b32_
     replace H := H1; clear H1
     by_cases c7 : x7_1 > 0
     ·rw [if_pos c7] at H; have c7b0 := decide_eq_true c7; clear c7; obtain ⟨ji8, hji8⟩ : ∃ j_ : Int, (wrap64 (x7_1 - 1)) = j_ := ⟨_, rfl⟩
      replace H : (if 0 ≤ (ji8) then (if (ji8) < (l0.length : Int) then (if ((Op.bytesLess (((rd_T78 l0 (ji8)).f0).toList) (((rd_T78 l0 x7_1).f0).toList)) = true) then (impl_entriesOk.l0 k1 l0 l0 (l0.length : Int) (wrap64 (x7_1 + 1))) else (some false)) else (none)) else (none)) = some r := by first | (rw [hji8] at H; exact H) | (simp only [hji8] at H ⊢; exact H)
      (try rw [hji8] at A5)
      have hji8w : (IntKind.i64.wrap (x7_1 - 1)) = ji8 := (i64_w _).trans hji8
      replace H := it H; obtain ⟨c9b0, H⟩ := H
      replace H := it H; obtain ⟨c10b0, H⟩ := H
      by_cases c11 : ((Op.bytesLess (((rd_T78 l0 (ji8)).f0).toList) (((rd_T78 l0 x7_1).f0).toList)) = true)
      ·rw [if_pos c11] at H
       have c11b0 : (Op.bytesLess (((rd_T78 l0 (ji8)).f0).toList) (((rd_T78 l0 x7_1).f0).toList)) = true := c11
       clear c11
       have H' := am H
       clear H
       have p237 : 0 ≤ (x7_1 : Int) := of_decide_eq_true ad
       have q237 : x7_1 < (l0.length : Int) := of_decide_eq_true ad
       obtain ⟨ad237, e237, hx237_0, hx237_1⟩ := at_T78 HR0.out x7_1 p237 q237
       cases e237
       replace hx237_0 := kp HB.out hx237_0; replace hx237_1 := kp HB.out hx237_1; replace p237 := eq_true p237; replace q237 := eq_true q237
       try go_wp2_with (first | ((with_reducible refine gate_dst (N := 4) rfl ?_); refine bx 4 (cs := #[.string (⟨#[]⟩ : ByteArray), .string (⟨#[]⟩ : ByteArray)]) (t := 78) ?_; intro gb238 hg w12 hbox hb; have BK238 := am (hbox); have GW238 := am ((b19_ : w.heap.size ≤ gb238)); have GE238 := am ((b19_ : w.heap.size ≤ gb238)); replace HB := am (below_step bel hb); clear hb hbox hg; have hcz13_0 := bc BK238.out 0; have hcz13_1 := bc BK238.out 1; have hfz13_0 := bf BK238.out 0; have hfz13_1 := bf BK238.out 1))
       have n0_ : Aside0 (((w12.setCell ⟨gb238, 0, none⟩ (.string ((rd_T78 l0 x7_1).f0))).setCell ⟨gb238, 1, none⟩ (.string ((rd_T78 l0 x7_1).f1))).heap[gb238]? = some (.cells #[.string ((rd_T78 l0 x7_1).f0), .string ((rd_T78 l0 x7_1).f1)] 78 (0, 0))) := ⟨b26_⟩
       have n1_ : Aside0 (Below w.heap.size w ((w12.setCell ⟨gb238, 0, none⟩ (.string ((rd_T78 l0 x7_1).f0))).setCell ⟨gb238, 1, none⟩ (.string ((rd_T78 l0 x7_1).f1)))) := ⟨bel1 GE238.out⟩
       (try clear BK238)
       (try clear HB)
       generalize ((w12.setCell ⟨gb238, 0, none⟩ (.string ((rd_T78 l0 x7_1).f0))).setCell ⟨gb238, 1, none⟩ (.string ((rd_T78 l0 x7_1).f1))) = w14 at n0_ n1_ ⊢
       have BK238 := n0_; have HB := n1_; clear n0_ n1_; replace BK238 := am (blk_drew BK238.out); replace HB := am (below_drew1 HB.out)
       have p240 : 0 ≤ ((ji8) : Int) := of_decide_eq_true ad
       have q240 : (ji8) < (l0.length : Int) := of_decide_eq_true ad
       obtain ⟨ad240, e240, hx240_0, hx240_1⟩ := at_T78 HR0.out (ji8) p240 q240; have hw240_1 := hx240_1; have hw240_0 := hx240_0
       obtain rfl : ad237 = ad240 := (by injection e240)
       replace hx240_0 := kp HB.out hx240_0; replace hx240_1 := kp HB.out hx240_1; replace p240 := eq_true p240; replace q240 := eq_true q240
       refine st (n := 18) (S := fun w' => w'.cell? ⟨gb238, 0, none⟩ = some (.string ((rd_T78 l0 x7_1).f0)) ∧ w'.cell? ⟨gb238, 1, none⟩ = some (.string ((rd_T78 l0 x7_1).f1)) ∧ w'.cell? (ad237.add (((ji8)).toNat * 2)) = some (.string ((rd_T78 l0 (ji8)).f0)) ∧ w'.cell? ⟨(ad237.add (((ji8)).toNat * 2)).block, (ad237.add (((ji8)).toNat * 2)).off + 1, none⟩ = some (.string ((rd_T78 l0 (ji8)).f1))) (ds := []) ⟨(blk_cell BK238.out 0).trans rfl, (blk_cell BK238.out 1).trans rfl, (kp HB.out hw240_0), (kp HB.out hw240_1)⟩ (fun hHeld => ?_); refine with_tabW impl_entriesOk.tab4 impl_entriesOk.bits4 (fun HT_ HW_ => ?_)
       generalize w14.drew = w15 at BK238 HB hx240_0 hx240_1 hHeld ⊢
       refine tk4 0 12 hHeld ?_
       refine on1 1 13 (fun K hK => ?_)
       refine goes_ Tryz.func76 (by kernel_rfl) rfl #[.agg #[.string ((rd_T78 l0 x7_1).f0), .string ((rd_T78 l0 x7_1).f1)]] (by rfl) rfl rfl mq ?_
       with_reducible refine (impl_entryOk.calls k1 ((rd_T78 l0 x7_1).f0) ((rd_T78 l0 x7_1).f1) true _ A5.out).mono ?_
       rintro e w16 ⟨rfl, hb⟩
       refine ⟨_, rfl, ?_⟩
       replace BK238 := am (blk_below (g := gb238) (o := .cells #[.string ((rd_T78 l0 x7_1).f0), .string ((rd_T78 l0 x7_1).f1)] 78 (0, 0)) (bq BK238.out) hb); replace HB := am (below_step (bel1 GE238.out) hb)
       (try clear hb)
       (try clear hb2)
       (try clear hk)
       (try clear hi)
       refine hK.out _ _ ⟨(blk_cell BK238.out 0).trans rfl, (blk_cell BK238.out 1).trans rfl, (kp HB.out hw240_0), (kp HB.out hw240_1)⟩ (fun hHeld => ?_)
       clear hK K
       refine norm_ (a' := ?_) ?_ ?_
       rotate_left
       ·show Act.put _ (some 13) _ = _
        simp only [Act.put, List.setIfInBounds_toArray, List.set_cons_zero, List.set_cons_succ, i64_w, i32_w]
        rfl
       refine pu 2 14 ?_
       refine pu 3 15 ?_
       refine pu 4 16 ?_
       refine pu 5 17 ?_
       refine pu 6 18 ?_
       refine pu 7 19 ?_
       refine pu 8 20 ?_
       refine pu 9 21 ?_
       refine pu 10 22 ?_
       refine pu 11 23 ?_
       refine pu 13 25 ?_
       refine tk4 12 24 hHeld ?_
       refine tk4 14 26 hHeld ?_
       refine pu 15 27 ?_
       refine pu 16 28 ?_
       refine pu 17 29 ?_
       refine done_ (done_of HT_.out (by kernel_rfl)) ?_
       try go_wp2
       go_roundg k1
       case measure => have := HK1.out; omega
       case rel => exact ⟨(wrap64 (x7_1 + 1)), sq, H', ⟨b63_⟩, ⟨bel1 GE238.out⟩⟩
      rw [if_neg c11] at H
      have c11b0 : (Op.bytesLess (((rd_T78 l0 (ji8)).f0).toList) (((rd_T78 l0 x7_1).f0).toList)) = false := by simpa using c11
      clear c11; obtain rfl := Option.some.inj H
      have p237 : 0 ≤ (x7_1 : Int) := of_decide_eq_true ad
      have q237 : x7_1 < (l0.length : Int) := of_decide_eq_true ad
      obtain ⟨ad237, e237, hx237_0, hx237_1⟩ := at_T78 HR0.out x7_1 p237 q237
      cases e237
      replace hx237_0 := kp HB.out hx237_0; replace hx237_1 := kp HB.out hx237_1; replace p237 := eq_true p237; replace q237 := eq_true q237
      try go_wp2_with (first | ((with_reducible refine gate_dst (N := 4) rfl ?_); refine bx 4 (cs := #[.string (⟨#[]⟩ : ByteArray), .string (⟨#[]⟩ : ByteArray)]) (t := 78) ?_; intro gb238 hg w17 hbox hb; have BK238 := am (hbox); have GW238 := am ((b19_ : w.heap.size ≤ gb238)); have GE238 := am ((b19_ : w.heap.size ≤ gb238)); replace HB := am (below_step bel hb); clear hb hbox hg; have hcz18_0 := bc BK238.out 0; have hcz18_1 := bc BK238.out 1; have hfz18_0 := bf BK238.out 0; have hfz18_1 := bf BK238.out 1))
      have n0_ : Aside0 (((w17.setCell ⟨gb238, 0, none⟩ (.string ((rd_T78 l0 x7_1).f0))).setCell ⟨gb238, 1, none⟩ (.string ((rd_T78 l0 x7_1).f1))).heap[gb238]? = some (.cells #[.string ((rd_T78 l0 x7_1).f0), .string ((rd_T78 l0 x7_1).f1)] 78 (0, 0))) := ⟨b26_⟩
      have n1_ : Aside0 (Below w.heap.size w ((w17.setCell ⟨gb238, 0, none⟩ (.string ((rd_T78 l0 x7_1).f0))).setCell ⟨gb238, 1, none⟩ (.string ((rd_T78 l0 x7_1).f1)))) := ⟨bel1 GE238.out⟩
      (try clear BK238)
      (try clear HB)
      generalize ((w17.setCell ⟨gb238, 0, none⟩ (.string ((rd_T78 l0 x7_1).f0))).setCell ⟨gb238, 1, none⟩ (.string ((rd_T78 l0 x7_1).f1))) = w19 at n0_ n1_ ⊢
      have BK238 := n0_; have HB := n1_; clear n0_ n1_; replace BK238 := am (blk_drew BK238.out); replace HB := am (below_drew1 HB.out)
      have p240 : 0 ≤ ((ji8) : Int) := of_decide_eq_true ad
      have q240 : (ji8) < (l0.length : Int) := of_decide_eq_true ad
      obtain ⟨ad240, e240, hx240_0, hx240_1⟩ := at_T78 HR0.out (ji8) p240 q240; have hw240_1 := hx240_1; have hw240_0 := hx240_0
      obtain rfl : ad237 = ad240 := (by injection e240)
      replace hx240_0 := kp HB.out hx240_0; replace hx240_1 := kp HB.out hx240_1; replace p240 := eq_true p240; replace q240 := eq_true q240
      refine st (n := 18) (S := fun w' => w'.cell? ⟨gb238, 0, none⟩ = some (.string ((rd_T78 l0 x7_1).f0)) ∧ w'.cell? ⟨gb238, 1, none⟩ = some (.string ((rd_T78 l0 x7_1).f1)) ∧ w'.cell? (ad237.add (((ji8)).toNat * 2)) = some (.string ((rd_T78 l0 (ji8)).f0)) ∧ w'.cell? ⟨(ad237.add (((ji8)).toNat * 2)).block, (ad237.add (((ji8)).toNat * 2)).off + 1, none⟩ = some (.string ((rd_T78 l0 (ji8)).f1))) (ds := []) ⟨(blk_cell BK238.out 0).trans rfl, (blk_cell BK238.out 1).trans rfl, (kp HB.out hw240_0), (kp HB.out hw240_1)⟩ (fun hHeld => ?_); refine with_tabW impl_entriesOk.tab4 impl_entriesOk.bits4 (fun HT_ HW_ => ?_)
      generalize w19.drew = w20 at BK238 HB hx240_0 hx240_1 hHeld ⊢
      refine tk4 0 12 hHeld ?_
      refine on1 1 13 (fun K hK => ?_)
      refine goes_ Tryz.func76 (by kernel_rfl) rfl #[.agg #[.string ((rd_T78 l0 x7_1).f0), .string ((rd_T78 l0 x7_1).f1)]] (by rfl) rfl rfl mq ?_
      with_reducible refine (impl_entryOk.calls k1 ((rd_T78 l0 x7_1).f0) ((rd_T78 l0 x7_1).f1) true _ A5.out).mono ?_
      rintro e w21 ⟨rfl, hb⟩
      refine ⟨_, rfl, ?_⟩
      replace BK238 := am (blk_below (g := gb238) (o := .cells #[.string ((rd_T78 l0 x7_1).f0), .string ((rd_T78 l0 x7_1).f1)] 78 (0, 0)) (bq BK238.out) hb); replace HB := am (below_step (bel1 GE238.out) hb)
      (try clear hb)
      (try clear hb2)
      (try clear hk)
      (try clear hi)
      refine hK.out _ _ ⟨(blk_cell BK238.out 0).trans rfl, (blk_cell BK238.out 1).trans rfl, (kp HB.out hw240_0), (kp HB.out hw240_1)⟩ (fun hHeld => ?_)
      clear hK K
      refine norm_ (a' := ?_) ?_ ?_
      rotate_left
      ·show Act.put _ (some 13) _ = _
       simp only [Act.put, List.setIfInBounds_toArray, List.set_cons_zero, List.set_cons_succ, i64_w, i32_w]
       rfl
      refine pu 2 14 ?_
      refine pu 3 15 ?_
      refine pu 4 16 ?_
      refine pu 5 17 ?_
      refine pu 6 18 ?_
      refine pu 7 19 ?_
      refine pu 8 20 ?_
      refine pu 9 21 ?_
      refine pu 10 22 ?_
      refine pu 11 23 ?_
      refine pu 13 25 ?_
      refine tk4 12 24 hHeld ?_
      refine tk4 14 26 hHeld ?_
      refine pu 15 27 ?_
      refine pu 16 28 ?_
      refine pu 17 29 ?_
      refine done_ (done_of HT_.out (by kernel_rfl)) ?_
      try go_wp2
      go_ret
      exact ⟨b73_, bel1 GE238.out⟩
     rw [if_neg c7] at H; have c7b0 := decide_eq_false c7; clear c7
     have H' := am H
     clear H
     have p237 : 0 ≤ (x7_1 : Int) := of_decide_eq_true ad
     have q237 : x7_1 < (l0.length : Int) := of_decide_eq_true ad
     obtain ⟨ad237, e237, hx237_0, hx237_1⟩ := at_T78 HR0.out x7_1 p237 q237
     cases e237
     replace hx237_0 := kp HB.out hx237_0; replace hx237_1 := kp HB.out hx237_1; replace p237 := eq_true p237; replace q237 := eq_true q237
     try go_wp2_with (first | ((with_reducible refine gate_dst (N := 4) rfl ?_); refine bx 4 (cs := #[.string (⟨#[]⟩ : ByteArray), .string (⟨#[]⟩ : ByteArray)]) (t := 78) ?_; intro gb238 hg w22 hbox hb; have BK238 := am (hbox); have GW238 := am ((b19_ : w.heap.size ≤ gb238)); have GE238 := am ((b19_ : w.heap.size ≤ gb238)); replace HB := am (below_step bel hb); clear hb hbox hg; have hcz23_0 := bc BK238.out 0; have hcz23_1 := bc BK238.out 1; have hfz23_0 := bf BK238.out 0; have hfz23_1 := bf BK238.out 1))
     have n0_ : Aside0 (((w22.setCell ⟨gb238, 0, none⟩ (.string ((rd_T78 l0 x7_1).f0))).setCell ⟨gb238, 1, none⟩ (.string ((rd_T78 l0 x7_1).f1))).heap[gb238]? = some (.cells #[.string ((rd_T78 l0 x7_1).f0), .string ((rd_T78 l0 x7_1).f1)] 78 (0, 0))) := ⟨b26_⟩
     have n1_ : Aside0 (Below w.heap.size w ((w22.setCell ⟨gb238, 0, none⟩ (.string ((rd_T78 l0 x7_1).f0))).setCell ⟨gb238, 1, none⟩ (.string ((rd_T78 l0 x7_1).f1)))) := ⟨bel1 GE238.out⟩
     (try clear BK238)
     (try clear HB)
     generalize ((w22.setCell ⟨gb238, 0, none⟩ (.string ((rd_T78 l0 x7_1).f0))).setCell ⟨gb238, 1, none⟩ (.string ((rd_T78 l0 x7_1).f1))) = w24 at n0_ n1_ ⊢
     have BK238 := n0_; have HB := n1_; clear n0_ n1_; replace BK238 := am (blk_drew BK238.out); replace HB := am (below_drew1 HB.out)
     refine st (n := 18) (S := fun w' => w'.cell? ⟨gb238, 0, none⟩ = some (.string ((rd_T78 l0 x7_1).f0)) ∧ w'.cell? ⟨gb238, 1, none⟩ = some (.string ((rd_T78 l0 x7_1).f1))) (ds := []) ⟨(blk_cell BK238.out 0).trans rfl, (blk_cell BK238.out 1).trans rfl⟩ (fun hHeld => ?_); refine with_tabW impl_entriesOk.tab4 impl_entriesOk.bits4 (fun HT_ HW_ => ?_)
     generalize w24.drew = w25 at BK238 HB hHeld ⊢
     refine tk2 0 12 hHeld ?_
     refine on1 1 13 (fun K hK => ?_)
     refine goes_ Tryz.func76 (by kernel_rfl) rfl #[.agg #[.string ((rd_T78 l0 x7_1).f0), .string ((rd_T78 l0 x7_1).f1)]] (by rfl) rfl rfl mq ?_
     with_reducible refine (impl_entryOk.calls k1 ((rd_T78 l0 x7_1).f0) ((rd_T78 l0 x7_1).f1) true _ A5.out).mono ?_
     rintro e w26 ⟨rfl, hb⟩
     refine ⟨_, rfl, ?_⟩
     replace BK238 := am (blk_below (g := gb238) (o := .cells #[.string ((rd_T78 l0 x7_1).f0), .string ((rd_T78 l0 x7_1).f1)] 78 (0, 0)) (bq BK238.out) hb); replace HB := am (below_step (bel1 GE238.out) hb)
     (try clear hb)
     (try clear hb2)
     (try clear hk)
     (try clear hi)
     refine hK.out _ _ ⟨(blk_cell BK238.out 0).trans rfl, (blk_cell BK238.out 1).trans rfl⟩ (fun hHeld => ?_)
     clear hK K
     refine norm_ (a' := ?_) ?_ ?_
     rotate_left
     ·show Act.put _ (some 13) _ = _
      simp only [Act.put, List.setIfInBounds_toArray, List.set_cons_zero, List.set_cons_succ, i64_w, i32_w]
      rfl
     refine pu 2 14 ?_
     refine pu 3 15 ?_
     refine pu 4 16 ?_
     refine pu 5 17 ?_
     refine pu 6 18 ?_
     refine puu 7 19 ?_
     refine puu 8 20 ?_
     refine puu 9 21 ?_
     refine puu 10 22 ?_
     refine puu 11 23 ?_
     refine puu 12 24 ?_
     refine puu 13 25 ?_
     refine puu 14 26 ?_
     refine puu 15 27 ?_
     refine pu 16 28 ?_
     refine pu 17 29 ?_
     refine done_ (done_of HT_.out (by kernel_rfl)) ?_
     try go_wp2
     go_roundg k1
     case measure => have := HK1.out; omega
     case rel => exact ⟨(wrap64 (x7_1 + 1)), sq, H', ⟨b63_⟩, ⟨bel1 GE238.out⟩⟩
    replace c6 := Bool.eq_false_iff.mpr c6; subst c6
    have H1 : (some false) = some r := b13_
    replace H := H1; clear H1
    obtain rfl := Option.some.inj H
    have p237 : 0 ≤ (x7_1 : Int) := of_decide_eq_true ad
    have q237 : x7_1 < (l0.length : Int) := of_decide_eq_true ad
    obtain ⟨ad237, e237, hx237_0, hx237_1⟩ := at_T78 HR0.out x7_1 p237 q237
    cases e237
    replace hx237_0 := kp HB.out hx237_0; replace hx237_1 := kp HB.out hx237_1; replace p237 := eq_true p237; replace q237 := eq_true q237
    try go_wp2_with (first | ((with_reducible refine gate_dst (N := 4) rfl ?_); refine bx 4 (cs := #[.string (⟨#[]⟩ : ByteArray), .string (⟨#[]⟩ : ByteArray)]) (t := 78) ?_; intro gb238 hg w27 hbox hb; have BK238 := am (hbox); have GW238 := am ((b19_ : w.heap.size ≤ gb238)); have GE238 := am ((b19_ : w.heap.size ≤ gb238)); replace HB := am (below_step bel hb); clear hb hbox hg; have hcz28_0 := bc BK238.out 0; have hcz28_1 := bc BK238.out 1; have hfz28_0 := bf BK238.out 0; have hfz28_1 := bf BK238.out 1))
    have n0_ : Aside0 (((w27.setCell ⟨gb238, 0, none⟩ (.string ((rd_T78 l0 x7_1).f0))).setCell ⟨gb238, 1, none⟩ (.string ((rd_T78 l0 x7_1).f1))).heap[gb238]? = some (.cells #[.string ((rd_T78 l0 x7_1).f0), .string ((rd_T78 l0 x7_1).f1)] 78 (0, 0))) := ⟨b26_⟩
    have n1_ : Aside0 (Below w.heap.size w ((w27.setCell ⟨gb238, 0, none⟩ (.string ((rd_T78 l0 x7_1).f0))).setCell ⟨gb238, 1, none⟩ (.string ((rd_T78 l0 x7_1).f1)))) := ⟨bel1 GE238.out⟩
    (try clear BK238)
    (try clear HB)
    generalize ((w27.setCell ⟨gb238, 0, none⟩ (.string ((rd_T78 l0 x7_1).f0))).setCell ⟨gb238, 1, none⟩ (.string ((rd_T78 l0 x7_1).f1))) = w29 at n0_ n1_ ⊢
    have BK238 := n0_; have HB := n1_; clear n0_ n1_; replace BK238 := am (blk_drew BK238.out); replace HB := am (below_drew1 HB.out)
    refine st (n := 18) (S := fun w' => w'.cell? ⟨gb238, 0, none⟩ = some (.string ((rd_T78 l0 x7_1).f0)) ∧ w'.cell? ⟨gb238, 1, none⟩ = some (.string ((rd_T78 l0 x7_1).f1))) (ds := []) ⟨(blk_cell BK238.out 0).trans rfl, (blk_cell BK238.out 1).trans rfl⟩ (fun hHeld => ?_); refine with_tabW impl_entriesOk.tab4 impl_entriesOk.bits4 (fun HT_ HW_ => ?_)
    generalize w29.drew = w30 at BK238 HB hHeld ⊢
    refine tk2 0 12 hHeld ?_
    refine on1 1 13 (fun K hK => ?_)
    refine goes_ Tryz.func76 (by kernel_rfl) rfl #[.agg #[.string ((rd_T78 l0 x7_1).f0), .string ((rd_T78 l0 x7_1).f1)]] (by rfl) rfl rfl mq ?_
    with_reducible refine (impl_entryOk.calls k1 ((rd_T78 l0 x7_1).f0) ((rd_T78 l0 x7_1).f1) false _ A5.out).mono ?_
    rintro e w31 ⟨rfl, hb⟩
    refine ⟨_, rfl, ?_⟩
    replace BK238 := am (blk_below (g := gb238) (o := .cells #[.string ((rd_T78 l0 x7_1).f0), .string ((rd_T78 l0 x7_1).f1)] 78 (0, 0)) (bq BK238.out) hb); replace HB := am (below_step (bel1 GE238.out) hb)
    (try clear hb)
    (try clear hb2)
    (try clear hk)
    (try clear hi)
    refine hK.out _ _ ⟨(blk_cell BK238.out 0).trans rfl, (blk_cell BK238.out 1).trans rfl⟩ (fun hHeld => ?_)
    clear hK K
    refine norm_ (a' := ?_) ?_ ?_
    rotate_left
    ·show Act.put _ (some 13) _ = _
     simp only [Act.put, List.setIfInBounds_toArray, List.set_cons_zero, List.set_cons_succ, i64_w, i32_w]
     rfl
    refine pu 2 14 ?_
    refine pu 3 15 ?_
    refine puu 4 16 ?_
    refine puu 5 17 ?_
    refine puu 6 18 ?_
    refine puu 7 19 ?_
    refine puu 8 20 ?_
    refine puu 9 21 ?_
    refine puu 10 22 ?_
    refine puu 11 23 ?_
    refine puu 12 24 ?_
    refine puu 13 25 ?_
    refine puu 14 26 ?_
    refine puu 15 27 ?_
    refine puu 16 28 ?_
    refine pu 17 29 ?_
    refine done_ (done_of HT_.out (by kernel_rfl)) ?_
    try go_wp2
    go_ret
    exact ⟨eq_, bel1 GE238.out⟩
   rw [if_neg c2] at H; have c2b0 := decide_eq_false c2; clear c2; obtain rfl := Option.some.inj H; go_wp2; go_ret
   exact ⟨eq_, bel⟩

/-! ### impl_BookOk: function 26 -/
def impl_BookOk.f (k : Nat) (l0_0 : List (S82)) (l0_1 : List (S78)) : Option (Bool) := (impl_affixesOk.f k l0_0).bind fun t242 => (if t242 = true then ((impl_entriesOk.f k l0_1).bind fun t243 => (some t243)) else (some false))
theorem impl_BookOk.calls (k : Nat) (A0_0 : Option Addr) (c0_0 : Nat) (l0_0 : List (S82)) (A0_1 : Option Addr) (c0_1 : Nat) (l0_1 : List (S78)) (r : Bool) (w : World) (hr0_0 : Kd.C k82 w A0_0 l0_0.length l0_0) (hc0_0 : l0_0.length ≤ c0_0) (hr0_1 : Kd.C k78 w A0_1 l0_1.length l0_1) (hc0_1 : l0_1.length ≤ c0_1) (h : impl_BookOk.f k l0_0 l0_1 = some r) :
  Calls Tryz.prog 26 #[.agg #[.slice A0_0 l0_0.length c0_0, .slice A0_1 l0_1.length c0_1]] w fun e w' => e = .returned (.bool r) ∧ Below w.heap.size w w' := by
 have hu32 := Tryz.underlying32; have HR0_0 := am hr0_0; have HC0_0 := am hc0_0; clear hr0_0 hc0_0; have HR0_1 := am hr0_1; have HC0_1 := am hc0_1; clear hr0_1 hc0_1; have HB := am (Below.refl w.heap.size w)
 have H : ((impl_affixesOk.f k l0_0).bind fun t242 => (if t242 = true then ((impl_entriesOk.f k l0_1).bind fun t243 => (some t243)) else (some false))) = some r := h
 clear h; replace H := bs H; obtain ⟨t242, A20, H⟩ := H; replace H : (if t242 = true then ((impl_entriesOk.f k l0_1).bind fun t243 => (some t243)) else (some false)) = some r := H; have A2 := Aside0.mk A20; clear A20
 by_cases c3 : t242 = true
 ·subst c3
  have H1 : ((impl_entriesOk.f k l0_1).bind fun t243 => (some t243)) = some r := b32_
  replace H := H1; clear H1
  replace H := bs H; obtain ⟨t243, A40, H⟩ := H; replace H : (some t243) = some r := H; have A4 := Aside0.mk A40; clear A40; obtain rfl := Option.some.inj H; go_enter Tryz.func26, Tryz.ntmps26
  go_wp2_with (first | ((with_reducible refine gate_dst (N := 1) rfl ?_); refine bx 1 (cs := #[.slice A0_0 l0_0.length c0_0, .slice A0_1 l0_1.length c0_1]) (t := 32) ?_; intro gb241 hg w5 hbox hb; have BK241 := am (hbox); have GW241 := am ((b19_ : w.heap.size ≤ gb241)); have GE241 := am ((b19_ : w.heap.size ≤ gb241)); replace HB := am (below_step bel hb); clear hb hbox hg; have hcz6_0 := bc BK241.out 0; have hcz6_1 := bc BK241.out 1; have hfz6_0 := bf BK241.out 0; have hfz6_1 := bf BK241.out 1) | ((with_reducible refine gate_callee (f := 52) rfl ?_); refine goesL_ (some 5) rfl rfl Tryz.func52 (by kernel_rfl) rfl #[.slice A0_0 l0_0.length c0_0] rfl mq ?_; (with_reducible refine (impl_affixesOk.calls k _ _ l0_0 true _ ?side1 ?side2 A2.out).mono ?_); (case side1 => exact cq (Kd.C_below HR0_0.out HB.out)); (case side2 => exact HC0_0.out); rintro e w7 ⟨rfl, hb⟩; refine ⟨_, rfl, ?_⟩; replace BK241 := am (blk_below (g := gb241) (o := .cells #[.slice A0_0 l0_0.length c0_0, .slice A0_1 l0_1.length c0_1] 32 (0, 0)) (bq BK241.out) hb); replace HB := am (below_step (bel1 GE241.out) hb); (try clear hb); (try clear hb2); (try clear hk); (try clear hi); have hcz8_0 := bc BK241.out 0; have hcz8_1 := bc BK241.out 1; have hfz8_0 := bf BK241.out 0; have hfz8_1 := bf BK241.out 1) | (go_at_call 53; (with_reducible refine (impl_entriesOk.calls k _ _ l0_1 t243 _ ?side1 ?side2 A4.out).mono ?_); (case side1 => exact cq (Kd.C_below HR0_1.out HB.out)); (case side2 => exact HC0_1.out); rintro e w9 ⟨rfl, hb⟩; replace BK241 := am (blk_below (g := gb241) (o := .cells #[.slice A0_0 l0_0.length c0_0, .slice A0_1 l0_1.length c0_1] 32 (0, 0)) (bq BK241.out) hb); replace HB := am (below_step (bel1 GE241.out) hb); (try clear hb); (try clear hb2); (try clear hk); (try clear hi)))
  go_ret
  exact ⟨eq_, bel1 GE241.out⟩
 replace c3 := Bool.eq_false_iff.mpr c3; subst c3
 have H1 : (some false) = some r := b13_
 replace H := H1; clear H1
 obtain rfl := Option.some.inj H; go_enter Tryz.func26, Tryz.ntmps26
 go_wp2_with (first | ((with_reducible refine gate_dst (N := 1) rfl ?_); refine bx 1 (cs := #[.slice A0_0 l0_0.length c0_0, .slice A0_1 l0_1.length c0_1]) (t := 32) ?_; intro gb241 hg w10 hbox hb; have BK241 := am (hbox); have GW241 := am ((b19_ : w.heap.size ≤ gb241)); have GE241 := am ((b19_ : w.heap.size ≤ gb241)); replace HB := am (below_step bel hb); clear hb hbox hg; have hcz11_0 := bc BK241.out 0; have hcz11_1 := bc BK241.out 1; have hfz11_0 := bf BK241.out 0; have hfz11_1 := bf BK241.out 1) | ((with_reducible refine gate_callee (f := 52) rfl ?_); refine goesL_ (some 5) rfl rfl Tryz.func52 (by kernel_rfl) rfl #[.slice A0_0 l0_0.length c0_0] rfl mq ?_; (with_reducible refine (impl_affixesOk.calls k _ _ l0_0 false _ ?side1 ?side2 A2.out).mono ?_); (case side1 => exact cq (Kd.C_below HR0_0.out HB.out)); (case side2 => exact HC0_0.out); rintro e w12 ⟨rfl, hb⟩; refine ⟨_, rfl, ?_⟩; replace BK241 := am (blk_below (g := gb241) (o := .cells #[.slice A0_0 l0_0.length c0_0, .slice A0_1 l0_1.length c0_1] 32 (0, 0)) (bq BK241.out) hb); replace HB := am (below_step (bel1 GE241.out) hb); (try clear hb); (try clear hb2); (try clear hk); (try clear hi)))
 go_ret
 exact ⟨eq_, bel1 GE241.out⟩
end Go.Proofs.YtfpmfaelodfecaaGreatDoor.QFnCheck

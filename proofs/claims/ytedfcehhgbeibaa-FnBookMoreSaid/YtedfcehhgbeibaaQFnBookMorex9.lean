import Derived.Test.YtedfcehhgbeibaaQFnBookMorex0
import Derived.Test.YtedfcehhgbeibaaQFnBookMorex1
import Derived.Test.YtedfcehhgbeibaaQFnBookMorex8
import Derived.Test.YtedfcehhgbeibaaVMSh2
namespace Go.Proofs.Ytedfcehhgbeibaa.QFnBookMore
open Go.RowKit Go.Proofs.YtedfcehhgbeibaaW.PrintWords Go.Proofs.YtedfcehhgbeibaaW.PrintLast Go.Proofs.YtedfcehhgbeibaaW.PrintMore Go.Proofs.Ytedfcehhgbeibaa.Sh
attribute [local go_sem] max2_int min2_int max_two min_two max_three min_three max_four min_four   -- for this text's walks alone
set_option linter.unusedVariables false
set_option linter.unusedSimpArgs false
-- shrunk

attribute [local go_sem high] eqA44
/-! ### impl_upper: function 93 -/
def impl_upper.f (a0 : Int) : Option (Bool) := if a0 ≥ 65 then (some (decide (a0 ≤ 90))) else (some false)
set_option maxHeartbeats 8000000 in
set_option maxRecDepth 100000 in
theorem impl_upper.calls (a0 : Int) (r : Bool) (w : World) (h : impl_upper.f a0 = some r) :
  Calls Try.prog 93 #[.int .u8 a0] w fun e w' => e = .returned (.bool r) ∧ Drawn0 w w' := by
 have H : (if a0 ≥ 65 then (some (decide (a0 ≤ 90))) else (some false)) = some r := h
 clear h
 by_cases c2 : a0 ≥ 65
 ·rw [if_pos c2] at H; have c2b0 := decide_eq_true c2; clear c2; obtain rfl := Option.some.inj H; go_enter Try.func93, Try.ntmps93; go_wp2; go_ret
  exact ⟨sq, dr⟩
 ·rw [if_neg c2] at H; have c2b0 := decide_eq_false c2; clear c2; obtain rfl := Option.some.inj H; go_enter Try.func93, Try.ntmps93; go_wp2; go_ret
  exact ⟨sq, dr⟩

/-! ### impl_AffixOk: function 69 -/
mutual
def impl_AffixOk.j0 : Nat → Bool → ByteArray → Bool → ByteArray → ByteArray → ByteArray → Option (Bool)
 | 0, _, _, _, _, _, _ => none
 | k + 1, x15, x206000, x206001, x206002, x206003, x206004 => if x15 = true then (some false) else ((some (([x206002, x206003, x206004] : List ByteArray) : List ByteArray)).bind fun y207 => (impl_AffixOk.l0 k y207 (y207.length : Int) 0 x206000 x206001 x206002 x206003 x206004))
def impl_AffixOk.l0 : Nat → List ByteArray → Int → Int → ByteArray → Bool → ByteArray → ByteArray → ByteArray → Option (Bool)
 | 0, _, _, _, _, _, _, _, _ => none
 | k + 1, x22, x23, x24, x206000, x206001, x206002, x206003, x206004 => if x24 < x23 then (if 0 ≤ x24 then (if x24 < (x22.length : Int) then (if ((rdOf ByteArray.empty x22 x24).size : Int) > 4 then (some false) else ((impl_lower.f k (rdOf ByteArray.empty x22 x24)).bind fun t211 => (if t211 = true then (impl_AffixOk.l0 k x22 x23 (wrap64 (x24 + 1)) x206000 x206001 x206002 x206003 x206004) else (some false)))) else (none)) else (none)) else (if x206001 = true then ((strings_HasPrefix.f x206004 x206002).bind fun t212 => (some t212)) else ((strings_HasSuffix.f x206004 x206002).bind fun t213 => (some t213)))
end
def impl_AffixOk.f (k : Nat) (a0_0 : ByteArray) (a0_1 : Bool) (a0_2 : ByteArray) (a0_3 : ByteArray) (a0_4 : ByteArray) : Option (Bool) := if (a0_0.size : Int) = 1 then (if 0 < (a0_0.size : Int) then ((impl_upper.f (bt a0_0 0)).bind fun t206 => (impl_AffixOk.j0 k (!t206) a0_0 a0_1 a0_2 a0_3 a0_4)) else (none)) else (impl_AffixOk.j0 k true a0_0 a0_1 a0_2 a0_3 a0_4)
theorem impl_AffixOk.mono_l : ∀ k, (∀ y0 y1 y2 y3 y4 y5, LeO (impl_AffixOk.j0 k y0 y1 y2 y3 y4 y5) (impl_AffixOk.j0 (k + 1) y0 y1 y2 y3 y4 y5)) ∧ (∀ y0 y1 y2 y3 y4 y5 y6 y7, LeO (impl_AffixOk.l0 k y0 y1 y2 y3 y4 y5 y6 y7) (impl_AffixOk.l0 (k + 1) y0 y1 y2 y3 y4 y5 y6 y7))
 | 0 => ⟨fun _ _ _ _ _ _ r h => by simp [impl_AffixOk.j0] at h, fun _ _ _ _ _ _ _ _ r h => by simp [impl_AffixOk.l0] at h⟩
 | k + 1 => by
  obtain ⟨ih0, ih1⟩ := impl_AffixOk.mono_l k
  refine ⟨?_, ?_⟩
  ·intro y0 y1 y2 y3 y4 y5
   unfold impl_AffixOk.j0
   repeat' first | (with_reducible first | exact ih0 _ _ _ _ _ _ | exact ih1 _ _ _ _ _ _ _ _ | exact impl_lower.mono _ _ | exact LeO.refl _ | exact LeO.none _ | refine LeO.ite ?_ ?_ | refine LeO.bind ?_ (fun _ => ?_)) | exact ih0 _ _ _ _ _ _ | exact ih1 _ _ _ _ _ _ _ _ | exact impl_lower.mono _ _ | exact LeO.none _ | refine LeO.ite ?_ ?_ | refine LeO.bind ?_ (fun _ => ?_)
  ·intro y0 y1 y2 y3 y4 y5 y6 y7
   unfold impl_AffixOk.l0
   repeat' first | (with_reducible first | exact ih0 _ _ _ _ _ _ | exact ih1 _ _ _ _ _ _ _ _ | exact impl_lower.mono _ _ | exact LeO.refl _ | exact LeO.none _ | refine LeO.ite ?_ ?_ | refine LeO.bind ?_ (fun _ => ?_)) | exact ih0 _ _ _ _ _ _ | exact ih1 _ _ _ _ _ _ _ _ | exact impl_lower.mono _ _ | exact LeO.none _ | refine LeO.ite ?_ ?_ | refine LeO.bind ?_ (fun _ => ?_)
theorem impl_AffixOk.mono : ∀ a0 a1 a2 a3 a4 k, LeO (impl_AffixOk.f k a0 a1 a2 a3 a4) (impl_AffixOk.f (k + 1) a0 a1 a2 a3 a4) := by
 intro a0 a1 a2 a3 a4 k; obtain ⟨ih0, ih1⟩ := impl_AffixOk.mono_l k
 unfold impl_AffixOk.f
 repeat' first | (with_reducible first | exact ih0 _ _ _ _ _ _ | exact ih1 _ _ _ _ _ _ _ _ | exact impl_lower.mono _ _ | exact LeO.refl _ | exact LeO.none _ | refine LeO.ite ?_ ?_ | refine LeO.bind ?_ (fun _ => ?_)) | exact ih0 _ _ _ _ _ _ | exact ih1 _ _ _ _ _ _ _ _ | exact impl_lower.mono _ _ | exact LeO.none _ | refine LeO.ite ?_ ?_ | refine LeO.bind ?_ (fun _ => ?_)
set_option maxHeartbeats 8000000 in
set_option maxRecDepth 100000 in
theorem impl_AffixOk.calls (k : Nat) (a0_0 : ByteArray) (a0_1 : Bool) (a0_2 : ByteArray) (a0_3 : ByteArray) (a0_4 : ByteArray) (r : Bool) (w : World) (h : impl_AffixOk.f k a0_0 a0_1 a0_2 a0_3 a0_4 = some r) :
  Calls Try.prog 69 #[.agg #[.string a0_0, .bool a0_1, .string a0_2, .string a0_3, .string a0_4]] w fun e w' => e = .returned (.bool r) ∧ Below w.heap.size w w' := by
 have hu44 := Try.underlying44; have HB := am (Below.refl w.heap.size w)
 have H : (if (a0_0.size : Int) = 1 then (if 0 < (a0_0.size : Int) then ((impl_upper.f (bt a0_0 0)).bind fun t206 => (impl_AffixOk.j0 k (!t206) a0_0 a0_1 a0_2 a0_3 a0_4)) else (none)) else (impl_AffixOk.j0 k true a0_0 a0_1 a0_2 a0_3 a0_4)) = some r := h
 clear h; have HC2 := am H; clear H; go_enter Try.func69, Try.ntmps69
 go_upto_region 1 with (first | ((with_reducible refine gate_dst (N := 1) rfl ?_); refine bx 1 (cs := #[.string a0_0, .bool a0_1, .string a0_2, .string a0_3, .string a0_4]) (t := 44) ?_; intro gb205 hg w3 hbox hb; have BK205 := am (hbox); have GW205 := am ((b18_ : w.heap.size ≤ gb205)); have GE205 := am ((b18_ : w.heap.size ≤ gb205)); replace HB := am (below_step bel hb); clear hb hbox hg))
 (try simp only [Act.put, List.setIfInBounds_toArray, List.set_cons_zero, List.set_cons_succ])
 go_cut [15] (fun v15 wc => ∃ (kq : Nat) (x15_1 : Bool), v15 = .bool x15_1 ∧ Aside0 (impl_AffixOk.j0 kq x15_1 a0_0 a0_1 a0_2 a0_3 a0_4 = some r) ∧ Aside0 (kq ≤ k) ∧ Aside0 (wc.heap[gb205]? = some (.cells #[.string a0_0, .bool a0_1, .string a0_2, .string a0_3, .string a0_4] 44 (0, 0))) ∧ Aside0 (Below w.heap.size w wc))
 case first =>
  have H := HC2.out; clear HC2
  by_cases c4 : (a0_0.size : Int) = 1
  ·rw [if_pos c4] at H
   have c4b0 : ((a0_0.size : Int) == 1) = true := beq_iff_eq.mpr c4
   have c4b1 : ((a0_0.size : Int) != 1) = false := bne_eq_false_iff_eq.mpr c4
   clear c4
   (first | rw [c4b0] | (simp only [i64_w, i32_w]; rw [c4b0]) | skip)
   by_cases c5 : 0 < (a0_0.size : Int)
   ·rw [if_pos c5] at H; have c5b0 := decide_eq_true c5
    have c5b1 : decide (0 < a0_0.size) = true := decide_eq_true (by omega)
    clear c5; replace H := Option.bind_eq_some_iff.mp H; obtain ⟨t206, A70, H⟩ := H; replace H : (impl_AffixOk.j0 k (!t206) a0_0 a0_1 a0_2 a0_3 a0_4) = some r := H; have A7 := Aside0.mk A70; clear A70
    have H' := am H
    clear H; have hcz8_0 := bc BK205.out 0; have hcz8_1 := bc BK205.out 1; have hcz8_2 := bc BK205.out 2; have hcz8_3 := bc BK205.out 3; have hcz8_4 := bc BK205.out 4; have hfz8_0 := bf BK205.out 0; have hfz8_1 := bf BK205.out 1; have hfz8_2 := bf BK205.out 2; have hfz8_3 := bf BK205.out 3; have hfz8_4 := bf BK205.out 4
    have p6 : 0 ≤ (0 : Int) := (by omega)
    have q6 : 0 < a0_0.size := (by have : (0 : Int) < (a0_0.size : Int) := of_decide_eq_true ad; omega)
    have hx6 : ∀ h : 0 < a0_0.size, ((a0_0[0]'h).toNat : Int) = bt a0_0 0 := bt_at a0_0 0
    clear p6
    have qi6 : (0 < (a0_0.size : Int)) = True := eq_true (of_decide_eq_true ad)
    replace q6 := eq_true q6
    go_wp2_with (first | (go_at_call 93; (with_reducible refine (impl_upper.calls (bt a0_0 0) t206 _ A7.out).mono ?_); rintro e w' ⟨rfl, ⟨nd, rfl⟩⟩))
    go_meet
    case rel => exact ⟨_, (!t206), sq, H', ⟨b53_⟩, ⟨bq BK205.out⟩, ⟨bel1 GE205.out⟩⟩
   ·rw [if_neg c5] at H
    exact absurd H (by simp)
  ·rw [if_neg c4] at H
   have c4b0 : ((a0_0.size : Int) == 1) = false := beq_eq_false_iff_ne.mpr c4
   have c4b1 : ((a0_0.size : Int) != 1) = true := bne_iff_ne.mpr c4
   (first | rw [c4b0] | (simp only [i64_w, i32_w]; rw [c4b0]) | skip)
   have H' := am H
   clear H; have hcz9_0 := bc BK205.out 0; have hcz9_1 := bc BK205.out 1; have hcz9_2 := bc BK205.out 2; have hcz9_3 := bc BK205.out 3; have hcz9_4 := bc BK205.out 4; have hfz9_0 := bf BK205.out 0; have hfz9_1 := bf BK205.out 1; have hfz9_2 := bf BK205.out 2; have hfz9_3 := bf BK205.out 3; have hfz9_4 := bf BK205.out 4; go_wp2
   go_meet
   case rel => exact ⟨_, (true), sq, H', ⟨b53_⟩, ⟨bq BK205.out⟩, ⟨bel1 GE205.out⟩⟩
 case rest =>
  clear HC2; (try clear p2); (try clear c4); (try clear c4b0); (try clear c4b1); (try clear c5); (try clear c5b0); (try clear c5b1); (try clear c6); (try clear p6); (try clear q6); (try clear hx6); (try clear qi6); (try clear hcz8_0); (try clear hcz8_1); (try clear hcz8_2); (try clear hcz8_3); (try clear hcz8_4); (try clear hcz9_0); (try clear hcz9_1); (try clear hcz9_2); (try clear hcz9_3); (try clear hcz9_4); (try clear hfz8_0); (try clear hfz8_1); (try clear hfz8_2); (try clear hfz8_3); (try clear hfz8_4); (try clear hfz9_0); (try clear hfz9_1); (try clear hfz9_2); (try clear hfz9_3); (try clear hfz9_4); (try clear p6); (try clear q6); obtain ⟨kq, x15_1, rfl, HA, HJ1, BK205, HB⟩ := hcut
  cases kq with
  | zero => exact absurd HA.out (by simp [impl_AffixOk.j0])
  | succ kj1 =>
   have H := HA.out; clear HA
   simp only [impl_AffixOk.j0] at H
   by_cases c10 : x15_1 = true
   ·subst c10
    have H1 : (some false) = some r := b31_
    replace H := H1; clear H1
    obtain rfl := Option.some.inj H; go_wp2; go_ret
    exact ⟨eq_, bel1 GE205.out⟩
   ·replace c10 := Bool.eq_false_iff.mpr c10; subst c10
    have H1 : ((some (([a0_2, a0_3, a0_4] : List ByteArray) : List ByteArray)).bind fun y207 => (impl_AffixOk.l0 kj1 y207 (y207.length : Int) 0 a0_0 a0_1 a0_2 a0_3 a0_4)) = some r := b17_
    replace H := H1; clear H1
    obtain ⟨y207, hy207⟩ : ∃ y_ : List ByteArray, y_ = (([a0_2, a0_3, a0_4] : List ByteArray)) := ⟨_, rfl⟩
    replace H : (impl_AffixOk.l0 kj1 y207 (y207.length : Int) 0 a0_0 a0_1 a0_2 a0_3 a0_4) = some r := by first | (rw [hy207]; with_reducible exact H) | (have H2_ := (Option.bind_some _ _).symm.trans H; rw [hy207]; with_reducible exact H2_) | (have H2_ := (Option.bind_some _ _).symm.trans H; with_reducible exact H2_) | with_reducible exact H | (rw [hy207]; exact H) | exact H
    have Ny207 := am hy207; clear hy207
    have H' := am H
    clear H; have hcz11_0 := bc BK205.out 0; have hcz11_1 := bc BK205.out 1; have hcz11_2 := bc BK205.out 2; have hcz11_3 := bc BK205.out 3; have hcz11_4 := bc BK205.out 4; have hfz11_0 := bf BK205.out 0; have hfz11_1 := bf BK205.out 1; have hfz11_2 := bf BK205.out 2; have hfz11_3 := bf BK205.out 3; have hfz11_4 := bf BK205.out 4
    go_wp2_with (first | ((with_reducible refine gate_dst (N := 22) rfl ?_); refine Kd.R_lit Kd.string _ 9 ?hg (N := 22) ?hd (xs := ([a0_2, a0_3, a0_4] : List ByteArray)) (inner := [.string a0_2, .string a0_3, .string a0_4]) (ok := fun _ => True) (okp := fun _ => True) ?hr ?hp (fun _ hk => hk) trivial (Below.refl _ _) (Nat.le_refl _) (by simp) ?_; (case hd => rfl); (case hg => rfl); (case hr => first | (go_simp; done) | (go_simp; rfl)); (case hp => exact (Reps.one (show Kd.M Kd.string _ _ _ a0_2 [.string a0_2] from rfl) (Reps.one (show Kd.M Kd.string _ _ _ a0_3 [.string a0_3] from rfl) (Reps.one (show Kd.M Kd.string _ _ _ a0_4 [.string a0_4] from rfl) (Reps.none _ _))))); intro v208 w12 ho13 hb hg_ hnew_; clear hg_ hnew_; (first | rw [← Ny207.out] at ho13 | (simp only [Int.reduceToNat] at ho13; rw [← Ny207.out] at ho13) | (simp only [Int.toNat_natCast] at ho13; rw [← Ny207.out] at ho13)); have HO209 := am (Kd.R_lower ho13 (below_size (bel1 GE205.out))); replace BK205 := am (blk_below (g := gb205) (o := .cells #[.string a0_0, .bool a0_1, .string a0_2, .string a0_3, .string a0_4] 44 (0, 0)) (bq BK205.out) hb); replace HB := am (below_step (bel1 GE205.out) hb); clear hb ho13; obtain ⟨Ao14, co14, eo14⟩ := Kd.R_slice HO209.out; subst eo14))
    go_loopg [24] kj1 (fun kq v24 w' => ∃ (x24_2 : Int), v24 = .int .i64 x24_2 ∧ Aside0 (impl_AffixOk.l0 kq y207 (y207.length : Int) x24_2 a0_0 a0_1 a0_2 a0_3 a0_4 = some r) ∧ Aside0 (kq ≤ kj1) ∧ Aside0 (Kd.R Kd.string 9 w' w.heap.size (fun _ => True) (.slice Ao14 y207.length co14) y207) ∧ Aside0 (w'.heap[gb205]? = some (.cells #[.string a0_0, .bool a0_1, .string a0_2, .string a0_3, .string a0_4] 44 (0, 0))) ∧ Aside0 (Below w.heap.size w w'))
    case atStart => exact ⟨(0), sq, H', ⟨Nat.le_refl _⟩, ⟨rq HO209.out⟩, ⟨bq BK205.out⟩, ⟨bel1 GE205.out⟩⟩
    case round =>
     clear H'; (try clear c1); (try clear p2); (try clear c4); (try clear c4b0); (try clear c4b1); (try clear c5); (try clear c5b0); (try clear c5b1); (try clear c6); (try clear p6); (try clear q6); (try clear hx6); (try clear qi6); (try clear c10); (try clear hcz11_0); (try clear hcz11_1); (try clear hcz11_2); (try clear hcz11_3); (try clear hcz11_4); (try clear hcz8_0); (try clear hcz8_1); (try clear hcz8_2); (try clear hcz8_3); (try clear hcz8_4); (try clear hcz9_0); (try clear hcz9_1); (try clear hcz9_2); (try clear hcz9_3); (try clear hcz9_4); (try clear hfz11_0); (try clear hfz11_1); (try clear hfz11_2); (try clear hfz11_3); (try clear hfz11_4); (try clear hfz8_0); (try clear hfz8_1); (try clear hfz8_2); (try clear hfz8_3); (try clear hfz8_4); (try clear hfz9_0); (try clear hfz9_1); (try clear hfz9_2); (try clear hfz9_3); (try clear hfz9_4); (try clear p2); (try clear p6); (try clear q6); obtain ⟨x24_2, rfl, HA, HK2, HO_22, BK205, HB⟩ := hrel
     cases gk with
     | zero => exact absurd HA.out (by simp [impl_AffixOk.l0])
     | succ k2 =>
      have H := HA.out; clear HA
      simp only [impl_AffixOk.l0] at H
      by_cases c15 : x24_2 < (y207.length : Int)
      ·rw [if_pos c15] at H; have c15b0 := decide_eq_true c15; clear c15
       by_cases c16 : 0 ≤ x24_2
       ·rw [if_pos c16] at H; have c16b0 := decide_eq_true c16; clear c16
        by_cases c17 : x24_2 < (y207.length : Int)
        ·rw [if_pos c17] at H; have c17b0 := decide_eq_true c17; clear c17
         by_cases c18 : ((rdOf ByteArray.empty y207 x24_2).size : Int) > 4
         ·rw [if_pos c18] at H; have c18b0 := decide_eq_true c18
          have c18b1 : decide (4 < (rdOf ByteArray.empty y207 x24_2).size) = true := decide_eq_true (by omega)
          clear c18; obtain rfl := Option.some.inj H
          have p210 : 0 ≤ (x24_2 : Int) := of_decide_eq_true ad
          have q210 : x24_2 < (y207.length : Int) := of_decide_eq_true ad
          obtain ⟨ad210, e210, hx210_0⟩ := Kd.at_string (Kd.R_reads' HO_22.out).2.2 x24_2 p210 q210
          cases e210
          replace p210 := eq_true p210; replace q210 := eq_true q210; go_wp2; go_ret
          exact ⟨eq_, bel1 GE205.out⟩
         ·rw [if_neg c18] at H; have c18b0 := decide_eq_false c18
          have c18b1 : decide (4 < (rdOf ByteArray.empty y207 x24_2).size) = false := decide_eq_false (by omega)
          clear c18; replace H := Option.bind_eq_some_iff.mp H; obtain ⟨t211, A190, H⟩ := H; replace H : (if t211 = true then (impl_AffixOk.l0 k2 y207 (y207.length : Int) (wrap64 (x24_2 + 1)) a0_0 a0_1 a0_2 a0_3 a0_4) else (some false)) = some r := H; have A19 := Aside0.mk A190; clear A190
          by_cases c20 : t211 = true
          ·subst c20
           have H1 : (impl_AffixOk.l0 k2 y207 (y207.length : Int) (wrap64 (x24_2 + 1)) a0_0 a0_1 a0_2 a0_3 a0_4) = some r := b31_
           replace H := H1; clear H1
           have H' := am H
           clear H
           have p210 : 0 ≤ (x24_2 : Int) := of_decide_eq_true ad
           have q210 : x24_2 < (y207.length : Int) := of_decide_eq_true ad
           obtain ⟨ad210, e210, hx210_0⟩ := Kd.at_string (Kd.R_reads' HO_22.out).2.2 x24_2 p210 q210
           cases e210
           replace p210 := eq_true p210; replace q210 := eq_true q210
           go_wp2_with (first | (go_at_call 73; (with_reducible refine (impl_lower.calls k2 (rdOf ByteArray.empty y207 x24_2) true _ A19.out).mono ?_); rintro e w' ⟨rfl, ⟨nd, rfl⟩⟩))
           go_roundg k2
           case measure => have := HJ1.out; have := HK2.out; omega
           case rel => exact ⟨(wrap64 (x24_2 + 1)), sq, H', ⟨by have := HJ1.out; have := HK2.out; omega⟩, ⟨rq HO_22.out⟩, ⟨bq BK205.out⟩, ⟨bel1 GE205.out⟩⟩
          ·replace c20 := Bool.eq_false_iff.mpr c20; subst c20
           have H1 : (some false) = some r := b17_
           replace H := H1; clear H1
           obtain rfl := Option.some.inj H
           have p210 : 0 ≤ (x24_2 : Int) := of_decide_eq_true ad
           have q210 : x24_2 < (y207.length : Int) := of_decide_eq_true ad
           obtain ⟨ad210, e210, hx210_0⟩ := Kd.at_string (Kd.R_reads' HO_22.out).2.2 x24_2 p210 q210
           cases e210
           replace p210 := eq_true p210; replace q210 := eq_true q210
           go_wp2_with (first | (go_at_call 73; (with_reducible refine (impl_lower.calls k2 (rdOf ByteArray.empty y207 x24_2) false _ A19.out).mono ?_); rintro e w' ⟨rfl, ⟨nd, rfl⟩⟩))
           go_ret
           exact ⟨eq_, bel1 GE205.out⟩
        ·rw [if_neg c17] at H
         exact absurd H (by simp)
       ·rw [if_neg c16] at H
        exact absurd H (by simp)
      ·rw [if_neg c15] at H; have c15b0 := decide_eq_false c15; clear c15
       by_cases c21 : a0_1 = true
       ·subst c21
        have H1 : ((strings_HasPrefix.f a0_4 a0_2).bind fun t212 => (some t212)) = some r := b31_
        replace H := H1; clear H1
        replace H := Option.bind_eq_some_iff.mp H; obtain ⟨t212, A220, H⟩ := H; replace H : (some t212) = some r := H; have A22 := Aside0.mk A220; clear A220; obtain rfl := Option.some.inj H; have hcz23_0 := bc BK205.out 0; have hcz23_1 := bc BK205.out 1; have hcz23_2 := bc BK205.out 2; have hcz23_3 := bc BK205.out 3; have hcz23_4 := bc BK205.out 4; have hfz23_0 := bf BK205.out 0; have hfz23_1 := bf BK205.out 1; have hfz23_2 := bf BK205.out 2; have hfz23_3 := bf BK205.out 3; have hfz23_4 := bf BK205.out 4
        go_wp2_with (first | ((with_reducible refine gate_callee (f := 70) rfl ?_); refine goesL_ (some 43) rfl rfl Try.func70 (by kernel_rfl) rfl #[.string a0_4, .string a0_2] rfl mq ?_; (with_reducible refine (strings_HasPrefix.calls a0_4 a0_2 t212 _ A22.out).mono ?_); rintro e w' ⟨rfl, ⟨nd, rfl⟩⟩; refine ⟨_, rfl, ?_⟩))
        go_ret
        exact ⟨eq_, bel1 GE205.out⟩
       ·replace c21 := Bool.eq_false_iff.mpr c21; subst c21
        have H1 : ((strings_HasSuffix.f a0_4 a0_2).bind fun t213 => (some t213)) = some r := b17_
        replace H := H1; clear H1
        replace H := Option.bind_eq_some_iff.mp H; obtain ⟨t213, A240, H⟩ := H; replace H : (some t213) = some r := H; have A24 := Aside0.mk A240; clear A240; obtain rfl := Option.some.inj H; have hcz25_0 := bc BK205.out 0; have hcz25_1 := bc BK205.out 1; have hcz25_2 := bc BK205.out 2; have hcz25_3 := bc BK205.out 3; have hcz25_4 := bc BK205.out 4; have hfz25_0 := bf BK205.out 0; have hfz25_1 := bf BK205.out 1; have hfz25_2 := bf BK205.out 2; have hfz25_3 := bf BK205.out 3; have hfz25_4 := bf BK205.out 4
        go_wp2_with (first | ((with_reducible refine gate_callee (f := 71) rfl ?_); refine goesL_ (some 48) rfl rfl Try.func71 (by kernel_rfl) rfl #[.string a0_4, .string a0_2] rfl mq ?_; (with_reducible refine (strings_HasSuffix.calls a0_4 a0_2 t213 _ A24.out).mono ?_); rintro e w' ⟨rfl, ⟨nd, rfl⟩⟩; refine ⟨_, rfl, ?_⟩))
        go_ret
        exact ⟨eq_, bel1 GE205.out⟩

/-! ### impl_Affix_112: function 112 -/
def impl_Affix_112.l0 : Nat → List (S44) → Int → Int → ByteArray → Bool → ByteArray → ByteArray → ByteArray → Option (Int)
 | 0, _, _, _, _, _, _, _, _ => none
 | k + 1, x0, x7, x8, x215000, x215001, x215002, x215003, x215004 => if x8 < x7 then (if 0 ≤ x8 then (if x8 < (x0.length : Int) then (if (x215000.toList == (((rd_T44 x0 x8).f0).toList) && (x215001 == ((rd_T44 x0 x8).f1) && (x215002.toList == (((rd_T44 x0 x8).f2).toList) && (x215003.toList == (((rd_T44 x0 x8).f3).toList) && (x215004.toList == (((rd_T44 x0 x8).f4).toList)))))) = true then (some x8) else (impl_Affix_112.l0 k x0 x7 (wrap64 (x8 + 1)) x215000 x215001 x215002 x215003 x215004)) else (none)) else (none)) else (some (-1))
def impl_Affix_112.f (k : Nat) (l0 : List (S44)) (a1_0 : ByteArray) (a1_1 : Bool) (a1_2 : ByteArray) (a1_3 : ByteArray) (a1_4 : ByteArray) : Option (Int) := impl_Affix_112.l0 k l0 (l0.length : Int) 0 a1_0 a1_1 a1_2 a1_3 a1_4
theorem impl_Affix_112.mono_l : ∀ k, (∀ y0 y1 y2 y3 y4 y5 y6 y7, LeO (impl_Affix_112.l0 k y0 y1 y2 y3 y4 y5 y6 y7) (impl_Affix_112.l0 (k + 1) y0 y1 y2 y3 y4 y5 y6 y7))
 | 0 => fun _ _ _ _ _ _ _ _ r h => by simp [impl_Affix_112.l0] at h
 | k + 1 => by
  have ih0 := impl_Affix_112.mono_l k
  ·intro y0 y1 y2 y3 y4 y5 y6 y7
   unfold impl_Affix_112.l0
   repeat' first | (with_reducible first | exact ih0 _ _ _ _ _ _ _ _ | exact LeO.refl _ | exact LeO.none _ | refine LeO.ite ?_ ?_ | refine LeO.bind ?_ (fun _ => ?_)) | exact ih0 _ _ _ _ _ _ _ _ | exact LeO.none _ | refine LeO.ite ?_ ?_ | refine LeO.bind ?_ (fun _ => ?_)
theorem impl_Affix_112.mono : ∀ a0 a1 a2 a3 a4 a5 k, LeO (impl_Affix_112.f k a0 a1 a2 a3 a4 a5) (impl_Affix_112.f (k + 1) a0 a1 a2 a3 a4 a5) := by
 intro a0 a1 a2 a3 a4 a5 k; have ih0 := impl_Affix_112.mono_l k
 unfold impl_Affix_112.f
 repeat' first | (with_reducible first | exact ih0 _ _ _ _ _ _ _ _ | exact LeO.refl _ | exact LeO.none _ | refine LeO.ite ?_ ?_ | refine LeO.bind ?_ (fun _ => ?_)) | exact ih0 _ _ _ _ _ _ _ _ | exact LeO.none _ | refine LeO.ite ?_ ?_ | refine LeO.bind ?_ (fun _ => ?_)
set_option maxHeartbeats 8000000 in
set_option maxRecDepth 100000 in
theorem impl_Affix_112.calls (k : Nat) (A0 : Option Addr) (c0 : Nat) (l0 : List (S44)) (a1_0 : ByteArray) (a1_1 : Bool) (a1_2 : ByteArray) (a1_3 : ByteArray) (a1_4 : ByteArray) (r : Int) (w : World) (hr0 : Kd.C k44 w A0 l0.length l0) (hc0 : l0.length ≤ c0) (h : impl_Affix_112.f k l0 a1_0 a1_1 a1_2 a1_3 a1_4 = some r) :
  Calls Try.prog 112 #[.slice A0 l0.length c0, .agg #[.string a1_0, .bool a1_1, .string a1_2, .string a1_3, .string a1_4]] w fun e w' => e = .returned (.int .i64 r) ∧ Below w.heap.size w w' := by
 have hu44 := Try.underlying44; have HR0 := am hr0; have HC0 := am hc0; clear hr0 hc0; have HB := am (Below.refl w.heap.size w)
 have H : (impl_Affix_112.l0 k l0 (l0.length : Int) 0 a1_0 a1_1 a1_2 a1_3 a1_4) = some r := h
 clear h
 have H' := am H
 clear H; go_enter Try.func112, Try.ntmps112
 go_wp2_with (first | ((with_reducible refine gate_dst (N := 3) rfl ?_); refine bx 3 (cs := #[.string a1_0, .bool a1_1, .string a1_2, .string a1_3, .string a1_4]) (t := 44) ?_; intro gb214 hg w3 hbox hb; have BK214 := am (hbox); have GW214 := am ((b18_ : w.heap.size ≤ gb214)); have GE214 := am ((b18_ : w.heap.size ≤ gb214)); replace HB := am (below_step bel hb); clear hb hbox hg))
 repeat (go_quiet (first | ((with_reducible refine gate_dst (N := 3) rfl ?_); refine bx 3 (cs := #[.string a1_0, .bool a1_1, .string a1_2, .string a1_3, .string a1_4]) (t := 44) ?_; intro gb214 hg w3 hbox hb; have BK214 := am (hbox); have GW214 := am ((b18_ : w.heap.size ≤ gb214)); have GE214 := am ((b18_ : w.heap.size ≤ gb214)); replace HB := am (below_step bel hb); clear hb hbox hg)); try go_wp2_with (first | ((with_reducible refine gate_dst (N := 3) rfl ?_); refine bx 3 (cs := #[.string a1_0, .bool a1_1, .string a1_2, .string a1_3, .string a1_4]) (t := 44) ?_; intro gb214 hg w3 hbox hb; have BK214 := am (hbox); have GW214 := am ((b18_ : w.heap.size ≤ gb214)); have GE214 := am ((b18_ : w.heap.size ≤ gb214)); replace HB := am (below_step bel hb); clear hb hbox hg)))
 go_loopg [8] k (fun kq v8 w' => ∃ (x8_1 : Int), v8 = .int .i64 x8_1 ∧ Aside0 (impl_Affix_112.l0 kq l0 (l0.length : Int) x8_1 a1_0 a1_1 a1_2 a1_3 a1_4 = some r) ∧ Aside0 (kq ≤ k) ∧ Aside0 (w'.heap[gb214]? = some (.cells #[.string a1_0, .bool a1_1, .string a1_2, .string a1_3, .string a1_4] 44 (0, 0))) ∧ Aside0 (Below w.heap.size w w'))
 case atStart => exact ⟨(0), sq, H', ⟨Nat.le_refl _⟩, ⟨bq BK214.out⟩, ⟨bel1 GE214.out⟩⟩
 case round =>
  clear H'; (try clear c1); (try clear p2); obtain ⟨x8_1, rfl, HA, HK1, BK214, HB⟩ := hrel
  cases gk with
  | zero => exact absurd HA.out (by simp [impl_Affix_112.l0])
  | succ k1 =>
   have H := HA.out; clear HA
   simp only [impl_Affix_112.l0] at H
   by_cases c4 : x8_1 < (l0.length : Int)
   ·rw [if_pos c4] at H; have c4b0 := decide_eq_true c4; clear c4
    by_cases c5 : 0 ≤ x8_1
    ·rw [if_pos c5] at H; have c5b0 := decide_eq_true c5; clear c5
     by_cases c6 : x8_1 < (l0.length : Int)
     ·rw [if_pos c6] at H; have c6b0 := decide_eq_true c6; clear c6
      by_cases c7 : (a1_0.toList == (((rd_T44 l0 x8_1).f0).toList) && (a1_1 == ((rd_T44 l0 x8_1).f1) && (a1_2.toList == (((rd_T44 l0 x8_1).f2).toList) && (a1_3.toList == (((rd_T44 l0 x8_1).f3).toList) && (a1_4.toList == (((rd_T44 l0 x8_1).f4).toList)))))) = true
      ·rw [if_pos c7] at H
       have c7b0 : (a1_0.toList == (((rd_T44 l0 x8_1).f0).toList) && (a1_1 == ((rd_T44 l0 x8_1).f1) && (a1_2.toList == (((rd_T44 l0 x8_1).f2).toList) && (a1_3.toList == (((rd_T44 l0 x8_1).f3).toList) && (a1_4.toList == (((rd_T44 l0 x8_1).f4).toList)))))) = true := c7
       (try (have c7b1 : decide (a1_0.toList = (((rd_T44 l0 x8_1).f0).toList) && (a1_1 == ((rd_T44 l0 x8_1).f1) && (a1_2.toList == (((rd_T44 l0 x8_1).f2).toList) && (a1_3.toList == (((rd_T44 l0 x8_1).f3).toList) && (a1_4.toList == (((rd_T44 l0 x8_1).f4).toList)))))) = true := by simpa using c7))
       (try (have c7b2 : (a1_0.toList == (((rd_T44 l0 x8_1).f0).toList) && (a1_1 == ((rd_T44 l0 x8_1).f1) && (a1_2.toList == (((rd_T44 l0 x8_1).f2).toList) && (a1_3.toList == (((rd_T44 l0 x8_1).f3).toList) && (a1_4.toList == (((rd_T44 l0 x8_1).f4).toList)))))) = true := by simpa using c7))
       clear c7; obtain rfl := Option.some.inj H; have hcz8_0 := bc BK214.out 0; have hcz8_1 := bc BK214.out 1; have hcz8_2 := bc BK214.out 2; have hcz8_3 := bc BK214.out 3; have hcz8_4 := bc BK214.out 4; have hfz8_0 := bf BK214.out 0; have hfz8_1 := bf BK214.out 1; have hfz8_2 := bf BK214.out 2; have hfz8_3 := bf BK214.out 3; have hfz8_4 := bf BK214.out 4
       have p215 : 0 ≤ (x8_1 : Int) := of_decide_eq_true ad
       have q215 : x8_1 < (l0.length : Int) := of_decide_eq_true ad
       obtain ⟨ad215, e215, hx215_0, hx215_1, hx215_2, hx215_3, hx215_4⟩ := at_T44 HR0.out x8_1 p215 q215
       cases e215
       replace hx215_0 := kp HB.out hx215_0; replace hx215_1 := kp HB.out hx215_1; replace hx215_2 := kp HB.out hx215_2; replace hx215_3 := kp HB.out hx215_3; replace hx215_4 := kp HB.out hx215_4; replace p215 := eq_true p215; replace q215 := eq_true q215; go_wp2
       repeat (go_quiet (fail); try go_wp2)
       go_ret
       exact ⟨eq_, bel1 GE214.out⟩
      ·rw [if_neg c7] at H
       have c7b0 : (a1_0.toList == (((rd_T44 l0 x8_1).f0).toList) && (a1_1 == ((rd_T44 l0 x8_1).f1) && (a1_2.toList == (((rd_T44 l0 x8_1).f2).toList) && (a1_3.toList == (((rd_T44 l0 x8_1).f3).toList) && (a1_4.toList == (((rd_T44 l0 x8_1).f4).toList)))))) = false := by simpa using c7
       (try (have c7b1 : decide (a1_0.toList = (((rd_T44 l0 x8_1).f0).toList) && (a1_1 == ((rd_T44 l0 x8_1).f1) && (a1_2.toList == (((rd_T44 l0 x8_1).f2).toList) && (a1_3.toList == (((rd_T44 l0 x8_1).f3).toList) && (a1_4.toList == (((rd_T44 l0 x8_1).f4).toList)))))) = false := by simpa using c7))
       (try (have c7b2 : (a1_0.toList == (((rd_T44 l0 x8_1).f0).toList) && (a1_1 == ((rd_T44 l0 x8_1).f1) && (a1_2.toList == (((rd_T44 l0 x8_1).f2).toList) && (a1_3.toList == (((rd_T44 l0 x8_1).f3).toList) && (a1_4.toList == (((rd_T44 l0 x8_1).f4).toList)))))) = false := by simpa using c7))
       (try (have c7b3 : ¬ (a1_0.toList = (((rd_T44 l0 x8_1).f0).toList) && (a1_1 == ((rd_T44 l0 x8_1).f1) && (a1_2.toList == (((rd_T44 l0 x8_1).f2).toList) && (a1_3.toList == (((rd_T44 l0 x8_1).f3).toList) && (a1_4.toList == (((rd_T44 l0 x8_1).f4).toList)))))) := by simpa using c7))
       clear c7
       have H' := am H
       clear H; have hcz9_0 := bc BK214.out 0; have hcz9_1 := bc BK214.out 1; have hcz9_2 := bc BK214.out 2; have hcz9_3 := bc BK214.out 3; have hcz9_4 := bc BK214.out 4; have hfz9_0 := bf BK214.out 0; have hfz9_1 := bf BK214.out 1; have hfz9_2 := bf BK214.out 2; have hfz9_3 := bf BK214.out 3; have hfz9_4 := bf BK214.out 4
       have p215 : 0 ≤ (x8_1 : Int) := of_decide_eq_true ad
       have q215 : x8_1 < (l0.length : Int) := of_decide_eq_true ad
       obtain ⟨ad215, e215, hx215_0, hx215_1, hx215_2, hx215_3, hx215_4⟩ := at_T44 HR0.out x8_1 p215 q215
       cases e215
       replace hx215_0 := kp HB.out hx215_0; replace hx215_1 := kp HB.out hx215_1; replace hx215_2 := kp HB.out hx215_2; replace hx215_3 := kp HB.out hx215_3; replace hx215_4 := kp HB.out hx215_4; replace p215 := eq_true p215; replace q215 := eq_true q215; go_wp2
       repeat (go_quiet (fail); try go_wp2)
       go_roundg k1
       case measure => have := HK1.out; omega
       case rel => exact ⟨(wrap64 (x8_1 + 1)), sq, H', ⟨b58_⟩, ⟨bq BK214.out⟩, ⟨bel1 GE214.out⟩⟩
     ·rw [if_neg c6] at H
      exact absurd H (by simp)
    ·rw [if_neg c5] at H
     exact absurd H (by simp)
   ·rw [if_neg c4] at H; have c4b0 := decide_eq_false c4; clear c4; obtain rfl := Option.some.inj H; go_wp2
    repeat (go_quiet (fail); try go_wp2)
    go_ret
    exact ⟨eq_, bel1 GE214.out⟩

/-! ### impl_Affix_92: function 92 -/
def impl_Affix_92.f (k : Nat) (l0 : List (S44)) (a1_0 : ByteArray) (a1_1 : Bool) (a1_2 : ByteArray) (a1_3 : ByteArray) (a1_4 : ByteArray) : Option (Bool) := (impl_Affix_112.f k l0 a1_0 a1_1 a1_2 a1_3 a1_4).bind fun t217 => (some (decide (t217 ≥ 0)))
theorem impl_Affix_92.mono : ∀ a0 a1 a2 a3 a4 a5 k, LeO (impl_Affix_92.f k a0 a1 a2 a3 a4 a5) (impl_Affix_92.f (k + 1) a0 a1 a2 a3 a4 a5) := by
 intro a0 a1 a2 a3 a4 a5 k
 unfold impl_Affix_92.f
 repeat' first | (with_reducible first | exact impl_Affix_112.mono _ _ _ _ _ _ _ | exact LeO.refl _ | exact LeO.none _ | refine LeO.ite ?_ ?_ | refine LeO.bind ?_ (fun _ => ?_)) | exact impl_Affix_112.mono _ _ _ _ _ _ _ | exact LeO.none _ | refine LeO.ite ?_ ?_ | refine LeO.bind ?_ (fun _ => ?_)
set_option maxHeartbeats 8000000 in
set_option maxRecDepth 100000 in
theorem impl_Affix_92.calls (k : Nat) (A0 : Option Addr) (c0 : Nat) (l0 : List (S44)) (a1_0 : ByteArray) (a1_1 : Bool) (a1_2 : ByteArray) (a1_3 : ByteArray) (a1_4 : ByteArray) (r : Bool) (w : World) (hr0 : Kd.C k44 w A0 l0.length l0) (hc0 : l0.length ≤ c0) (h : impl_Affix_92.f k l0 a1_0 a1_1 a1_2 a1_3 a1_4 = some r) :
  Calls Try.prog 92 #[.slice A0 l0.length c0, .agg #[.string a1_0, .bool a1_1, .string a1_2, .string a1_3, .string a1_4]] w fun e w' => e = .returned (.bool r) ∧ Below w.heap.size w w' := by
 have hu44 := Try.underlying44; have HR0 := am hr0; have HC0 := am hc0; clear hr0 hc0; have HB := am (Below.refl w.heap.size w)
 have H : ((impl_Affix_112.f k l0 a1_0 a1_1 a1_2 a1_3 a1_4).bind fun t217 => (some (decide (t217 ≥ 0)))) = some r := h
 clear h; replace H := Option.bind_eq_some_iff.mp H; obtain ⟨t217, A30, H⟩ := H; replace H : (some (decide (t217 ≥ 0))) = some r := H; have A3 := Aside0.mk A30; clear A30; obtain rfl := Option.some.inj H; go_enter Try.func92, Try.ntmps92
 go_wp2_with (first | ((with_reducible refine gate_dst (N := 3) rfl ?_); refine bx 3 (cs := #[.string a1_0, .bool a1_1, .string a1_2, .string a1_3, .string a1_4]) (t := 44) ?_; intro gb216 hg w4 hbox hb; have BK216 := am (hbox); have GW216 := am ((b18_ : w.heap.size ≤ gb216)); have GE216 := am ((b18_ : w.heap.size ≤ gb216)); replace HB := am (below_step bel hb); clear hb hbox hg; have hcz5_0 := bc BK216.out 0; have hcz5_1 := bc BK216.out 1; have hcz5_2 := bc BK216.out 2; have hcz5_3 := bc BK216.out 3; have hcz5_4 := bc BK216.out 4; have hfz5_0 := bf BK216.out 0; have hfz5_1 := bf BK216.out 1; have hfz5_2 := bf BK216.out 2; have hfz5_3 := bf BK216.out 3; have hfz5_4 := bf BK216.out 4) | ((with_reducible refine gate_callee (f := 112) rfl ?_); refine goesL_ (some 7) rfl rfl Try.func112 (by kernel_rfl) rfl #[.slice A0 l0.length c0, .agg #[.string a1_0, .bool a1_1, .string a1_2, .string a1_3, .string a1_4]] rfl mq ?_; (with_reducible refine (impl_Affix_112.calls k _ _ l0 a1_0 a1_1 a1_2 a1_3 a1_4 t217 _ ?side1 ?side2 A3.out).mono ?_); (case side1 => exact cq (Kd.C_below HR0.out HB.out)); (case side2 => exact HC0.out); rintro e w6 ⟨rfl, hb⟩; refine ⟨_, rfl, ?_⟩; replace BK216 := am (blk_below (g := gb216) (o := .cells #[.string a1_0, .bool a1_1, .string a1_2, .string a1_3, .string a1_4] 44 (0, 0)) (bq BK216.out) hb); replace HB := am (below_step (bel1 GE216.out) hb); (try clear hb); (try clear hb2); (try clear hk); (try clear hi)))
 go_ret
 exact ⟨eq_, bel1 GE216.out⟩

end Go.Proofs.Ytedfcehhgbeibaa.QFnBookMore

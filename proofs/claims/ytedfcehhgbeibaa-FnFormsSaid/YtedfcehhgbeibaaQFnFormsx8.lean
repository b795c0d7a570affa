import Derived.Test.YtedfcehhgbeibaaQFnFormsx0
import Derived.Test.YtedfcehhgbeibaaQFnFormsx7
import Derived.Test.YtedfcehhgbeibaaVMSh2
namespace Go.Proofs.Ytedfcehhgbeibaa.QFnForms
open Go.RowKit Go.Proofs.YtedfcehhgbeibaaW.PrintWords Go.Proofs.YtedfcehhgbeibaaW.PrintLast Go.Proofs.YtedfcehhgbeibaaW.PrintMore Go.Proofs.Ytedfcehhgbeibaa.Sh
attribute [local go_sem] max2_int min2_int max_two min_two max_three min_three max_four min_four   -- for this text's walks alone
set_option linter.unusedVariables false
set_option linter.unusedSimpArgs false
-- shrunk

/-! ### impl_AffixOk: function 69 -/
mutual
def impl_AffixOk.j0 : Nat → Bool → ByteArray → Bool → ByteArray → ByteArray → ByteArray → Option (Bool)
 | 0, _, _, _, _, _, _ => none
 | k + 1, x15, x191000, x191001, x191002, x191003, x191004 => if x15 = true then (some false) else ((some (([x191002, x191003, x191004] : List ByteArray) : List ByteArray)).bind fun y192 => (impl_AffixOk.l0 k y192 (y192.length : Int) 0 x191000 x191001 x191002 x191003 x191004))
def impl_AffixOk.l0 : Nat → List ByteArray → Int → Int → ByteArray → Bool → ByteArray → ByteArray → ByteArray → Option (Bool)
 | 0, _, _, _, _, _, _, _, _ => none
 | k + 1, x22, x23, x24, x191000, x191001, x191002, x191003, x191004 => if x24 < x23 then (if 0 ≤ x24 then (if x24 < (x22.length : Int) then (if ((rdOf ByteArray.empty x22 x24).size : Int) > 4 then (some false) else ((impl_lower.f k (rdOf ByteArray.empty x22 x24)).bind fun t196 => (if t196 = true then (impl_AffixOk.l0 k x22 x23 (wrap64 (x24 + 1)) x191000 x191001 x191002 x191003 x191004) else (some false)))) else (none)) else (none)) else (if x191001 = true then ((strings_HasPrefix.f x191004 x191002).bind fun t197 => (some t197)) else ((strings_HasSuffix.f x191004 x191002).bind fun t198 => (some t198)))
end
def impl_AffixOk.f (k : Nat) (a0_0 : ByteArray) (a0_1 : Bool) (a0_2 : ByteArray) (a0_3 : ByteArray) (a0_4 : ByteArray) : Option (Bool) := if (a0_0.size : Int) = 1 then (if 0 < (a0_0.size : Int) then ((impl_upper.f (bt a0_0 0)).bind fun t191 => (impl_AffixOk.j0 k (!t191) a0_0 a0_1 a0_2 a0_3 a0_4)) else (none)) else (impl_AffixOk.j0 k true a0_0 a0_1 a0_2 a0_3 a0_4)
theorem impl_AffixOk.mono_l : ∀ k, (∀ y0 y1 y2 y3 y4 y5, LeO (impl_AffixOk.j0 k y0 y1 y2 y3 y4 y5) (impl_AffixOk.j0 (k + 1) y0 y1 y2 y3 y4 y5)) ∧ (∀ y0 y1 y2 y3 y4 y5 y6 y7, LeO (impl_AffixOk.l0 k y0 y1 y2 y3 y4 y5 y6 y7) (impl_AffixOk.l0 (k + 1) y0 y1 y2 y3 y4 y5 y6 y7))
 | 0 => ⟨fun _ _ _ _ _ _ r h => by simp [impl_AffixOk.j0] at h, fun _ _ _ _ _ _ _ _ r h => by simp [impl_AffixOk.l0] at h⟩
 | k + 1 => by
  obtain ⟨ih0, ih1⟩ := impl_AffixOk.mono_l k
  refine ⟨?_, ?_⟩
  ·intro y0 y1 y2 y3 y4 y5
   unfold impl_AffixOk.j0
   repeat' first | (with_reducible first | exact ih0 _ _ _ _ _ _ | exact ih1 _ _ _ _ _ _ _ _ | exact impl_lower.mono _ _ | exact LeO.refl _ | exact LeO.none _ | refine LeO.ite ?_ ?_ | refine LeO.bind ?_ (fun _ => ?_)) | exact ih0 _ _ _ _ _ _ | exact ih1 _ _ _ _ _ _ _ _ | exact impl_lower.mono _ _ | exact LeO.none _ | refine LeO.ite ?_ ?_ | refine LeO.bind ?_ (fun _ => ?_)
  ·intro y0 y1 y2 y3 y4 y5 y6 y7
   unfold impl_AffixOk.l0
   repeat' first | (with_reducible first | exact ih0 _ _ _ _ _ _ | exact ih1 _ _ _ _ _ _ _ _ | exact impl_lower.mono _ _ | exact LeO.refl _ | exact LeO.none _ | refine LeO.ite ?_ ?_ | refine LeO.bind ?_ (fun _ => ?_)) | exact ih0 _ _ _ _ _ _ | exact ih1 _ _ _ _ _ _ _ _ | exact impl_lower.mono _ _ | exact LeO.none _ | refine LeO.ite ?_ ?_ | refine LeO.bind ?_ (fun _ => ?_)
theorem impl_AffixOk.mono : ∀ a0 a1 a2 a3 a4 k, LeO (impl_AffixOk.f k a0 a1 a2 a3 a4) (impl_AffixOk.f (k + 1) a0 a1 a2 a3 a4) := by
 intro a0 a1 a2 a3 a4 k; obtain ⟨ih0, ih1⟩ := impl_AffixOk.mono_l k
 unfold impl_AffixOk.f
 repeat' first | (with_reducible first | exact ih0 _ _ _ _ _ _ | exact ih1 _ _ _ _ _ _ _ _ | exact impl_lower.mono _ _ | exact LeO.refl _ | exact LeO.none _ | refine LeO.ite ?_ ?_ | refine LeO.bind ?_ (fun _ => ?_)) | exact ih0 _ _ _ _ _ _ | exact ih1 _ _ _ _ _ _ _ _ | exact impl_lower.mono _ _ | exact LeO.none _ | refine LeO.ite ?_ ?_ | refine LeO.bind ?_ (fun _ => ?_)
set_option maxHeartbeats 8000000 in
set_option maxRecDepth 100000 in
theorem impl_AffixOk.calls (k : Nat) (a0_0 : ByteArray) (a0_1 : Bool) (a0_2 : ByteArray) (a0_3 : ByteArray) (a0_4 : ByteArray) (r : Bool) (w : World) (h : impl_AffixOk.f k a0_0 a0_1 a0_2 a0_3 a0_4 = some r) :
  Calls Try.prog 69 #[.agg #[.string a0_0, .bool a0_1, .string a0_2, .string a0_3, .string a0_4]] w fun e w' => e = .returned (.bool r) ∧ Below w.heap.size w w' := by
 have hu44 := Try.underlying44; have HB := am (Below.refl w.heap.size w)
 have H : (if (a0_0.size : Int) = 1 then (if 0 < (a0_0.size : Int) then ((impl_upper.f (bt a0_0 0)).bind fun t191 => (impl_AffixOk.j0 k (!t191) a0_0 a0_1 a0_2 a0_3 a0_4)) else (none)) else (impl_AffixOk.j0 k true a0_0 a0_1 a0_2 a0_3 a0_4)) = some r := h
 clear h; have HC2 := am H; clear H; go_enter Try.func69, Try.ntmps69
 go_upto_region 1 with (first | ((with_reducible refine gate_dst (N := 1) rfl ?_); refine bx 1 (cs := #[.string a0_0, .bool a0_1, .string a0_2, .string a0_3, .string a0_4]) (t := 44) ?_; intro gb190 hg w3 hbox hb; have BK190 := am (hbox); have GW190 := am ((b22_ : w.heap.size ≤ gb190)); have GE190 := am ((b22_ : w.heap.size ≤ gb190)); replace HB := am (below_step bel hb); clear hb hbox hg))
 (try simp only [Act.put, List.setIfInBounds_toArray, List.set_cons_zero, List.set_cons_succ])
 go_cut [15] (fun v15 wc => ∃ (kq : Nat) (x15_1 : Bool), v15 = .bool x15_1 ∧ Aside0 (impl_AffixOk.j0 kq x15_1 a0_0 a0_1 a0_2 a0_3 a0_4 = some r) ∧ Aside0 (kq ≤ k) ∧ Aside0 (wc.heap[gb190]? = some (.cells #[.string a0_0, .bool a0_1, .string a0_2, .string a0_3, .string a0_4] 44 (0, 0))) ∧ Aside0 (Below w.heap.size w wc))
 case first =>
  have H := HC2.out; clear HC2
  by_cases c4 : (a0_0.size : Int) = 1
  ·rw [if_pos c4] at H
   have c4b0 : ((a0_0.size : Int) == 1) = true := beq_iff_eq.mpr c4
   have c4b1 : ((a0_0.size : Int) != 1) = false := bne_eq_false_iff_eq.mpr c4
   clear c4
   (first | rw [c4b0] | (simp only [i64_w, i32_w]; rw [c4b0]) | skip)
   by_cases c5 : 0 < (a0_0.size : Int)
   ·rw [if_pos c5] at H; have c5b0 := decide_eq_true c5
    have c5b1 : decide (0 < a0_0.size) = true := decide_eq_true (by omega)
    clear c5; replace H := Option.bind_eq_some_iff.mp H; obtain ⟨t191, A70, H⟩ := H; replace H : (impl_AffixOk.j0 k (!t191) a0_0 a0_1 a0_2 a0_3 a0_4) = some r := H; have A7 := Aside0.mk A70; clear A70
    have H' := am H
    clear H; have hcz8_0 := bc BK190.out 0; have hcz8_1 := bc BK190.out 1; have hcz8_2 := bc BK190.out 2; have hcz8_3 := bc BK190.out 3; have hcz8_4 := bc BK190.out 4; have hfz8_0 := bf BK190.out 0; have hfz8_1 := bf BK190.out 1; have hfz8_2 := bf BK190.out 2; have hfz8_3 := bf BK190.out 3; have hfz8_4 := bf BK190.out 4
    have p6 : 0 ≤ (0 : Int) := (by omega)
    have q6 : 0 < a0_0.size := (by have : (0 : Int) < (a0_0.size : Int) := of_decide_eq_true ad; omega)
    have hx6 : ∀ h : 0 < a0_0.size, ((a0_0[0]'h).toNat : Int) = bt a0_0 0 := bt_at a0_0 0
    clear p6
    have qi6 : (0 < (a0_0.size : Int)) = True := eq_true (of_decide_eq_true ad)
    replace q6 := eq_true q6
    go_wp2_with (first | (go_at_call 93; (with_reducible refine (impl_upper.calls (bt a0_0 0) t191 _ A7.out).mono ?_); rintro e w' ⟨rfl, ⟨nd, rfl⟩⟩))
    go_meet
    case rel => exact ⟨_, (!t191), sq, H', ⟨b68_⟩, ⟨bq BK190.out⟩, ⟨bel1 GE190.out⟩⟩
   ·rw [if_neg c5] at H
    exact absurd H (by simp)
  ·rw [if_neg c4] at H
   have c4b0 : ((a0_0.size : Int) == 1) = false := beq_eq_false_iff_ne.mpr c4
   have c4b1 : ((a0_0.size : Int) != 1) = true := bne_iff_ne.mpr c4
   (first | rw [c4b0] | (simp only [i64_w, i32_w]; rw [c4b0]) | skip)
   have H' := am H
   clear H; have hcz9_0 := bc BK190.out 0; have hcz9_1 := bc BK190.out 1; have hcz9_2 := bc BK190.out 2; have hcz9_3 := bc BK190.out 3; have hcz9_4 := bc BK190.out 4; have hfz9_0 := bf BK190.out 0; have hfz9_1 := bf BK190.out 1; have hfz9_2 := bf BK190.out 2; have hfz9_3 := bf BK190.out 3; have hfz9_4 := bf BK190.out 4; go_wp2
   go_meet
   case rel => exact ⟨_, (true), sq, H', ⟨b68_⟩, ⟨bq BK190.out⟩, ⟨bel1 GE190.out⟩⟩
 case rest =>
  clear HC2; (try clear p2); (try clear c4); (try clear c4b0); (try clear c4b1); (try clear c5); (try clear c5b0); (try clear c5b1); (try clear c6); (try clear p6); (try clear q6); (try clear hx6); (try clear qi6); (try clear hcz8_0); (try clear hcz8_1); (try clear hcz8_2); (try clear hcz8_3); (try clear hcz8_4); (try clear hcz9_0); (try clear hcz9_1); (try clear hcz9_2); (try clear hcz9_3); (try clear hcz9_4); (try clear hfz8_0); (try clear hfz8_1); (try clear hfz8_2); (try clear hfz8_3); (try clear hfz8_4); (try clear hfz9_0); (try clear hfz9_1); (try clear hfz9_2); (try clear hfz9_3); (try clear hfz9_4); (try clear p6); (try clear q6); obtain ⟨kq, x15_1, rfl, HA, HJ1, BK190, HB⟩ := hcut
  cases kq with
  | zero => exact absurd HA.out (by simp [impl_AffixOk.j0])
  | succ kj1 =>
   have H := HA.out; clear HA
   simp only [impl_AffixOk.j0] at H
   by_cases c10 : x15_1 = true
   ·subst c10
    have H1 : (some false) = some r := b32_
    replace H := H1; clear H1
    obtain rfl := Option.some.inj H; go_wp2; go_ret
    exact ⟨eq_, bel1 GE190.out⟩
   ·replace c10 := Bool.eq_false_iff.mpr c10; subst c10
    have H1 : ((some (([a0_2, a0_3, a0_4] : List ByteArray) : List ByteArray)).bind fun y192 => (impl_AffixOk.l0 kj1 y192 (y192.length : Int) 0 a0_0 a0_1 a0_2 a0_3 a0_4)) = some r := b18_
    replace H := H1; clear H1
    obtain ⟨y192, hy192⟩ : ∃ y_ : List ByteArray, y_ = (([a0_2, a0_3, a0_4] : List ByteArray)) := ⟨_, rfl⟩
    replace H : (impl_AffixOk.l0 kj1 y192 (y192.length : Int) 0 a0_0 a0_1 a0_2 a0_3 a0_4) = some r := by first | (rw [hy192]; with_reducible exact H) | (have H2_ := (Option.bind_some _ _).symm.trans H; rw [hy192]; with_reducible exact H2_) | (have H2_ := (Option.bind_some _ _).symm.trans H; with_reducible exact H2_) | with_reducible exact H | (rw [hy192]; exact H) | exact H
    have Ny192 := am hy192; clear hy192
    have H' := am H
    clear H; have hcz11_0 := bc BK190.out 0; have hcz11_1 := bc BK190.out 1; have hcz11_2 := bc BK190.out 2; have hcz11_3 := bc BK190.out 3; have hcz11_4 := bc BK190.out 4; have hfz11_0 := bf BK190.out 0; have hfz11_1 := bf BK190.out 1; have hfz11_2 := bf BK190.out 2; have hfz11_3 := bf BK190.out 3; have hfz11_4 := bf BK190.out 4
    go_wp2_with (first | ((with_reducible refine gate_dst (N := 22) rfl ?_); refine Kd.R_lit Kd.string _ 9 ?hg (N := 22) ?hd (xs := ([a0_2, a0_3, a0_4] : List ByteArray)) (inner := [.string a0_2, .string a0_3, .string a0_4]) (ok := fun _ => True) (okp := fun _ => True) ?hr ?hp (fun _ hk => hk) trivial (Below.refl _ _) (Nat.le_refl _) (by simp) ?_; (case hd => rfl); (case hg => rfl); (case hr => first | (go_simp; done) | (go_simp; rfl)); (case hp => exact (Reps.one (show Kd.M Kd.string _ _ _ a0_2 [.string a0_2] from rfl) (Reps.one (show Kd.M Kd.string _ _ _ a0_3 [.string a0_3] from rfl) (Reps.one (show Kd.M Kd.string _ _ _ a0_4 [.string a0_4] from rfl) (Reps.none _ _))))); intro v193 w12 ho13 hb hg_ hnew_; clear hg_ hnew_; (first | rw [← Ny192.out] at ho13 | (simp only [Int.reduceToNat] at ho13; rw [← Ny192.out] at ho13) | (simp only [Int.toNat_natCast] at ho13; rw [← Ny192.out] at ho13)); have HO194 := am (Kd.R_lower ho13 (below_size (bel1 GE190.out))); replace BK190 := am (blk_below (g := gb190) (o := .cells #[.string a0_0, .bool a0_1, .string a0_2, .string a0_3, .string a0_4] 44 (0, 0)) (bq BK190.out) hb); replace HB := am (below_step (bel1 GE190.out) hb); clear hb ho13; obtain ⟨Ao14, co14, eo14⟩ := Kd.R_slice HO194.out; subst eo14))
    go_loopg [24] kj1 (fun kq v24 w' => ∃ (x24_2 : Int), v24 = .int .i64 x24_2 ∧ Aside0 (impl_AffixOk.l0 kq y192 (y192.length : Int) x24_2 a0_0 a0_1 a0_2 a0_3 a0_4 = some r) ∧ Aside0 (kq ≤ kj1) ∧ Aside0 (Kd.R Kd.string 9 w' w.heap.size (fun _ => True) (.slice Ao14 y192.length co14) y192) ∧ Aside0 (w'.heap[gb190]? = some (.cells #[.string a0_0, .bool a0_1, .string a0_2, .string a0_3, .string a0_4] 44 (0, 0))) ∧ Aside0 (Below w.heap.size w w'))
    case atStart => exact ⟨(0), sq, H', ⟨Nat.le_refl _⟩, ⟨rq HO194.out⟩, ⟨bq BK190.out⟩, ⟨bel1 GE190.out⟩⟩
    case round =>
     clear H'; (try clear c1); (try clear p2); (try clear c4); (try clear c4b0); (try clear c4b1); (try clear c5); (try clear c5b0); (try clear c5b1); (try clear c6); (try clear p6); (try clear q6); (try clear hx6); (try clear qi6); (try clear c10); (try clear hcz11_0); (try clear hcz11_1); (try clear hcz11_2); (try clear hcz11_3); (try clear hcz11_4); (try clear hcz8_0); (try clear hcz8_1); (try clear hcz8_2); (try clear hcz8_3); (try clear hcz8_4); (try clear hcz9_0); (try clear hcz9_1); (try clear hcz9_2); (try clear hcz9_3); (try clear hcz9_4); (try clear hfz11_0); (try clear hfz11_1); (try clear hfz11_2); (try clear hfz11_3); (try clear hfz11_4); (try clear hfz8_0); (try clear hfz8_1); (try clear hfz8_2); (try clear hfz8_3); (try clear hfz8_4); (try clear hfz9_0); (try clear hfz9_1); (try clear hfz9_2); (try clear hfz9_3); (try clear hfz9_4); (try clear p2); (try clear p6); (try clear q6); obtain ⟨x24_2, rfl, HA, HK2, HO_22, BK190, HB⟩ := hrel
     cases gk with
     | zero => exact absurd HA.out (by simp [impl_AffixOk.l0])
     | succ k2 =>
      have H := HA.out; clear HA
      simp only [impl_AffixOk.l0] at H
      by_cases c15 : x24_2 < (y192.length : Int)
      ·rw [if_pos c15] at H; have c15b0 := decide_eq_true c15; clear c15
       by_cases c16 : 0 ≤ x24_2
       ·rw [if_pos c16] at H; have c16b0 := decide_eq_true c16; clear c16
        by_cases c17 : x24_2 < (y192.length : Int)
        ·rw [if_pos c17] at H; have c17b0 := decide_eq_true c17; clear c17
         by_cases c18 : ((rdOf ByteArray.empty y192 x24_2).size : Int) > 4
         ·rw [if_pos c18] at H; have c18b0 := decide_eq_true c18
          have c18b1 : decide (4 < (rdOf ByteArray.empty y192 x24_2).size) = true := decide_eq_true (by omega)
          clear c18; obtain rfl := Option.some.inj H
          have p195 : 0 ≤ (x24_2 : Int) := of_decide_eq_true ad
          have q195 : x24_2 < (y192.length : Int) := of_decide_eq_true ad
          obtain ⟨ad195, e195, hx195_0⟩ := Kd.at_string (Kd.R_reads' HO_22.out).2.2 x24_2 p195 q195
          cases e195
          replace p195 := eq_true p195; replace q195 := eq_true q195; go_wp2; go_ret
          exact ⟨eq_, bel1 GE190.out⟩
         ·rw [if_neg c18] at H; have c18b0 := decide_eq_false c18
          have c18b1 : decide (4 < (rdOf ByteArray.empty y192 x24_2).size) = false := decide_eq_false (by omega)
          clear c18; replace H := Option.bind_eq_some_iff.mp H; obtain ⟨t196, A190, H⟩ := H; replace H : (if t196 = true then (impl_AffixOk.l0 k2 y192 (y192.length : Int) (wrap64 (x24_2 + 1)) a0_0 a0_1 a0_2 a0_3 a0_4) else (some false)) = some r := H; have A19 := Aside0.mk A190; clear A190
          by_cases c20 : t196 = true
          ·subst c20
           have H1 : (impl_AffixOk.l0 k2 y192 (y192.length : Int) (wrap64 (x24_2 + 1)) a0_0 a0_1 a0_2 a0_3 a0_4) = some r := b32_
           replace H := H1; clear H1
           have H' := am H
           clear H
           have p195 : 0 ≤ (x24_2 : Int) := of_decide_eq_true ad
           have q195 : x24_2 < (y192.length : Int) := of_decide_eq_true ad
           obtain ⟨ad195, e195, hx195_0⟩ := Kd.at_string (Kd.R_reads' HO_22.out).2.2 x24_2 p195 q195
           cases e195
           replace p195 := eq_true p195; replace q195 := eq_true q195
           go_wp2_with (first | (go_at_call 73; (with_reducible refine (impl_lower.calls k2 (rdOf ByteArray.empty y192 x24_2) true _ A19.out).mono ?_); rintro e w' ⟨rfl, ⟨nd, rfl⟩⟩))
           go_roundg k2
           case measure => have := HJ1.out; have := HK2.out; omega
           case rel => exact ⟨(wrap64 (x24_2 + 1)), sq, H', ⟨by have := HJ1.out; have := HK2.out; omega⟩, ⟨rq HO_22.out⟩, ⟨bq BK190.out⟩, ⟨bel1 GE190.out⟩⟩
          ·replace c20 := Bool.eq_false_iff.mpr c20; subst c20
           have H1 : (some false) = some r := b18_
           replace H := H1; clear H1
           obtain rfl := Option.some.inj H
           have p195 : 0 ≤ (x24_2 : Int) := of_decide_eq_true ad
           have q195 : x24_2 < (y192.length : Int) := of_decide_eq_true ad
           obtain ⟨ad195, e195, hx195_0⟩ := Kd.at_string (Kd.R_reads' HO_22.out).2.2 x24_2 p195 q195
           cases e195
           replace p195 := eq_true p195; replace q195 := eq_true q195
           go_wp2_with (first | (go_at_call 73; (with_reducible refine (impl_lower.calls k2 (rdOf ByteArray.empty y192 x24_2) false _ A19.out).mono ?_); rintro e w' ⟨rfl, ⟨nd, rfl⟩⟩))
           go_ret
           exact ⟨eq_, bel1 GE190.out⟩
        ·rw [if_neg c17] at H
         exact absurd H (by simp)
       ·rw [if_neg c16] at H
        exact absurd H (by simp)
      ·rw [if_neg c15] at H; have c15b0 := decide_eq_false c15; clear c15
       by_cases c21 : a0_1 = true
       ·subst c21
        have H1 : ((strings_HasPrefix.f a0_4 a0_2).bind fun t197 => (some t197)) = some r := b32_
        replace H := H1; clear H1
        replace H := Option.bind_eq_some_iff.mp H; obtain ⟨t197, A220, H⟩ := H; replace H : (some t197) = some r := H; have A22 := Aside0.mk A220; clear A220; obtain rfl := Option.some.inj H; have hcz23_0 := bc BK190.out 0; have hcz23_1 := bc BK190.out 1; have hcz23_2 := bc BK190.out 2; have hcz23_3 := bc BK190.out 3; have hcz23_4 := bc BK190.out 4; have hfz23_0 := bf BK190.out 0; have hfz23_1 := bf BK190.out 1; have hfz23_2 := bf BK190.out 2; have hfz23_3 := bf BK190.out 3; have hfz23_4 := bf BK190.out 4
        go_wp2_with (first | ((with_reducible refine gate_callee (f := 70) rfl ?_); refine goesL_ (some 43) rfl rfl Try.func70 (by kernel_rfl) rfl #[.string a0_4, .string a0_2] rfl mq ?_; (with_reducible refine (strings_HasPrefix.calls a0_4 a0_2 t197 _ A22.out).mono ?_); rintro e w' ⟨rfl, ⟨nd, rfl⟩⟩; refine ⟨_, rfl, ?_⟩))
        go_ret
        exact ⟨eq_, bel1 GE190.out⟩
       ·replace c21 := Bool.eq_false_iff.mpr c21; subst c21
        have H1 : ((strings_HasSuffix.f a0_4 a0_2).bind fun t198 => (some t198)) = some r := b18_
        replace H := H1; clear H1
        replace H := Option.bind_eq_some_iff.mp H; obtain ⟨t198, A240, H⟩ := H; replace H : (some t198) = some r := H; have A24 := Aside0.mk A240; clear A240; obtain rfl := Option.some.inj H; have hcz25_0 := bc BK190.out 0; have hcz25_1 := bc BK190.out 1; have hcz25_2 := bc BK190.out 2; have hcz25_3 := bc BK190.out 3; have hcz25_4 := bc BK190.out 4; have hfz25_0 := bf BK190.out 0; have hfz25_1 := bf BK190.out 1; have hfz25_2 := bf BK190.out 2; have hfz25_3 := bf BK190.out 3; have hfz25_4 := bf BK190.out 4
        go_wp2_with (first | ((with_reducible refine gate_callee (f := 71) rfl ?_); refine goesL_ (some 48) rfl rfl Try.func71 (by kernel_rfl) rfl #[.string a0_4, .string a0_2] rfl mq ?_; (with_reducible refine (strings_HasSuffix.calls a0_4 a0_2 t198 _ A24.out).mono ?_); rintro e w' ⟨rfl, ⟨nd, rfl⟩⟩; refine ⟨_, rfl, ?_⟩))
        go_ret
        exact ⟨eq_, bel1 GE190.out⟩

/-! ### impl_AffixDo: function 28 -/
def impl_AffixDo.j0 : Nat → ByteArray → Bool → ByteArray → Bool → ByteArray → ByteArray → ByteArray → Option (ByteArray × Bool)
 | 0, _, _, _, _, _, _, _ => none
 | k + 1, x1, x14, x200000, x200001, x200002, x200003, x200004 => if x14 = true then (some ((⟨#[]⟩ : ByteArray), false)) else (if x200001 = true then ((strings_HasPrefix.f x1 x200004).bind fun t202 => (if t202 = true then (if 0 ≤ (x200002.size : Int) then (if (x200002.size : Int) ≤ (x1.size : Int) then (if x200003.size + (x1.extract x200002.size x1.size).size ≤ 9223372036854775807 then ((impl_WordOk.f k (x200003 ++ (x1.extract x200002.size x1.size))).bind fun t203 => (if t203 = true then (some (x200003 ++ (x1.extract x200002.size x1.size), true)) else (some ((⟨#[]⟩ : ByteArray), false)))) else (none)) else (none)) else (none)) else (some ((⟨#[]⟩ : ByteArray), false)))) else ((strings_HasSuffix.f x1 x200004).bind fun t204 => (if t204 = true then (if 0 ≤ (wrap64 ((x1.size : Int) - (x200002.size : Int))) then (if (wrap64 ((x1.size : Int) - (x200002.size : Int))) ≤ (x1.size : Int) then (if (x1.extract 0 ((wrap64 ((x1.size : Int) - (x200002.size : Int))) : Int).toNat).size + x200003.size ≤ 9223372036854775807 then ((impl_WordOk.f k ((x1.extract 0 ((wrap64 ((x1.size : Int) - (x200002.size : Int))) : Int).toNat) ++ x200003)).bind fun t205 => (if t205 = true then (some ((x1.extract 0 ((wrap64 ((x1.size : Int) - (x200002.size : Int))) : Int).toNat) ++ x200003, true)) else (some ((⟨#[]⟩ : ByteArray), false)))) else (none)) else (none)) else (none)) else (some ((⟨#[]⟩ : ByteArray), false)))))
def impl_AffixDo.f (k : Nat) (a0_0 : ByteArray) (a0_1 : Bool) (a0_2 : ByteArray) (a0_3 : ByteArray) (a0_4 : ByteArray) (a1 : ByteArray) : Option (ByteArray × Bool) := (impl_AffixOk.f k a0_0 a0_1 a0_2 a0_3 a0_4).bind fun t200 => (if t200 = true then ((impl_WordOk.f k a1).bind fun t201 => (impl_AffixDo.j0 k a1 (!t201) a0_0 a0_1 a0_2 a0_3 a0_4)) else (impl_AffixDo.j0 k a1 true a0_0 a0_1 a0_2 a0_3 a0_4))
theorem impl_AffixDo.mono_l : ∀ k, (∀ y0 y1 y2 y3 y4 y5 y6, LeO (impl_AffixDo.j0 k y0 y1 y2 y3 y4 y5 y6) (impl_AffixDo.j0 (k + 1) y0 y1 y2 y3 y4 y5 y6))
 | 0 => fun _ _ _ _ _ _ _ r h => by simp [impl_AffixDo.j0] at h
 | k + 1 => by
  have ih0 := impl_AffixDo.mono_l k
  ·intro y0 y1 y2 y3 y4 y5 y6
   unfold impl_AffixDo.j0
   repeat' first | (with_reducible first | exact ih0 _ _ _ _ _ _ _ | exact impl_AffixOk.mono _ _ _ _ _ _ | exact impl_WordOk.mono _ _ | exact LeO.refl _ | exact LeO.none _ | refine LeO.ite ?_ ?_ | refine LeO.bind ?_ (fun _ => ?_)) | exact ih0 _ _ _ _ _ _ _ | exact impl_AffixOk.mono _ _ _ _ _ _ | exact impl_WordOk.mono _ _ | exact LeO.none _ | refine LeO.ite ?_ ?_ | refine LeO.bind ?_ (fun _ => ?_)
theorem impl_AffixDo.mono : ∀ a0 a1 a2 a3 a4 a5 k, LeO (impl_AffixDo.f k a0 a1 a2 a3 a4 a5) (impl_AffixDo.f (k + 1) a0 a1 a2 a3 a4 a5) := by
 intro a0 a1 a2 a3 a4 a5 k; have ih0 := impl_AffixDo.mono_l k
 unfold impl_AffixDo.f
 repeat' first | (with_reducible first | exact ih0 _ _ _ _ _ _ _ | exact impl_AffixOk.mono _ _ _ _ _ _ | exact impl_WordOk.mono _ _ | exact LeO.refl _ | exact LeO.none _ | refine LeO.ite ?_ ?_ | refine LeO.bind ?_ (fun _ => ?_)) | exact ih0 _ _ _ _ _ _ _ | exact impl_AffixOk.mono _ _ _ _ _ _ | exact impl_WordOk.mono _ _ | exact LeO.none _ | refine LeO.ite ?_ ?_ | refine LeO.bind ?_ (fun _ => ?_)
set_option maxHeartbeats 8000000 in
set_option maxRecDepth 100000 in
theorem impl_AffixDo.calls (k : Nat) (a0_0 : ByteArray) (a0_1 : Bool) (a0_2 : ByteArray) (a0_3 : ByteArray) (a0_4 : ByteArray) (a1 : ByteArray) (r1 : ByteArray) (r2 : Bool) (w : World) (h : impl_AffixDo.f k a0_0 a0_1 a0_2 a0_3 a0_4 a1 = some (r1, r2)) :
  Calls Try.prog 28 #[.agg #[.string a0_0, .bool a0_1, .string a0_2, .string a0_3, .string a0_4], .string a1] w fun e w' => e = .returned (.tuple #[.string r1, .bool r2]) ∧ Below w.heap.size w w' := by
 have hu44 := Try.underlying44; have HB := am (Below.refl w.heap.size w)
 have H : ((impl_AffixOk.f k a0_0 a0_1 a0_2 a0_3 a0_4).bind fun t200 => (if t200 = true then ((impl_WordOk.f k a1).bind fun t201 => (impl_AffixDo.j0 k a1 (!t201) a0_0 a0_1 a0_2 a0_3 a0_4)) else (impl_AffixDo.j0 k a1 true a0_0 a0_1 a0_2 a0_3 a0_4))) = some (r1, r2) := h
 clear h; have HC3 := am H; clear H; go_enter Try.func28, Try.ntmps28
 go_upto_region 1 with (first | ((with_reducible refine gate_dst (N := 2) rfl ?_); refine bx 2 (cs := #[.string a0_0, .bool a0_1, .string a0_2, .string a0_3, .string a0_4]) (t := 44) ?_; intro gb199 hg w4 hbox hb; have BK199 := am (hbox); have GW199 := am ((b22_ : w.heap.size ≤ gb199)); have GE199 := am ((b22_ : w.heap.size ≤ gb199)); replace HB := am (below_step bel hb); clear hb hbox hg))
 repeat (go_quiet (first | ((with_reducible refine gate_dst (N := 2) rfl ?_); refine bx 2 (cs := #[.string a0_0, .bool a0_1, .string a0_2, .string a0_3, .string a0_4]) (t := 44) ?_; intro gb199 hg w4 hbox hb; have BK199 := am (hbox); have GW199 := am ((b22_ : w.heap.size ≤ gb199)); have GE199 := am ((b22_ : w.heap.size ≤ gb199)); replace HB := am (below_step bel hb); clear hb hbox hg)); go_upto_region 1 with (first | ((with_reducible refine gate_dst (N := 2) rfl ?_); refine bx 2 (cs := #[.string a0_0, .bool a0_1, .string a0_2, .string a0_3, .string a0_4]) (t := 44) ?_; intro gb199 hg w4 hbox hb; have BK199 := am (hbox); have GW199 := am ((b22_ : w.heap.size ≤ gb199)); have GE199 := am ((b22_ : w.heap.size ≤ gb199)); replace HB := am (below_step bel hb); clear hb hbox hg)))
 (try simp only [Act.put, List.setIfInBounds_toArray, List.set_cons_zero, List.set_cons_succ])
 go_cut [14] (fun v14 wc => ∃ (kq : Nat) (x14_2 : Bool), v14 = .bool x14_2 ∧ Aside0 (impl_AffixDo.j0 kq a1 x14_2 a0_0 a0_1 a0_2 a0_3 a0_4 = some (r1, r2)) ∧ Aside0 (kq ≤ k) ∧ Aside0 (wc.heap[gb199]? = some (.cells #[.string a0_0, .bool a0_1, .string a0_2, .string a0_3, .string a0_4] 44 (0, 0))) ∧ Aside0 (Below w.heap.size w wc))
 case first =>
  have H := HC3.out; clear HC3; replace H := Option.bind_eq_some_iff.mp H; obtain ⟨t200, A50, H⟩ := H; replace H : (if t200 = true then ((impl_WordOk.f k a1).bind fun t201 => (impl_AffixDo.j0 k a1 (!t201) a0_0 a0_1 a0_2 a0_3 a0_4)) else (impl_AffixDo.j0 k a1 true a0_0 a0_1 a0_2 a0_3 a0_4)) = some (r1, r2) := H; have A5 := Aside0.mk A50; clear A50
  by_cases c6 : t200 = true
  ·subst c6
   have H1 : ((impl_WordOk.f k a1).bind fun t201 => (impl_AffixDo.j0 k a1 (!t201) a0_0 a0_1 a0_2 a0_3 a0_4)) = some (r1, r2) := b32_
   replace H := H1; clear H1
   replace H := Option.bind_eq_some_iff.mp H; obtain ⟨t201, A70, H⟩ := H; replace H : (impl_AffixDo.j0 k a1 (!t201) a0_0 a0_1 a0_2 a0_3 a0_4) = some (r1, r2) := H; have A7 := Aside0.mk A70; clear A70
   have H' := am H
   clear H; have hcz8_0 := bc BK199.out 0; have hcz8_1 := bc BK199.out 1; have hcz8_2 := bc BK199.out 2; have hcz8_3 := bc BK199.out 3; have hcz8_4 := bc BK199.out 4; have hfz8_0 := bf BK199.out 0; have hfz8_1 := bf BK199.out 1; have hfz8_2 := bf BK199.out 2; have hfz8_3 := bf BK199.out 3; have hfz8_4 := bf BK199.out 4
   go_wp2_with (first | (go_at_call 69; (with_reducible refine (impl_AffixOk.calls k a0_0 a0_1 a0_2 a0_3 a0_4 true _ A5.out).mono ?_); rintro e w9 ⟨rfl, hb⟩; replace BK199 := am (blk_below (g := gb199) (o := .cells #[.string a0_0, .bool a0_1, .string a0_2, .string a0_3, .string a0_4] 44 (0, 0)) (bq BK199.out) hb); replace HB := am (below_step (bel1 GE199.out) hb); (try clear hb); (try clear hb2); (try clear hk); (try clear hi)) | (go_at_call 30; (with_reducible refine (impl_WordOk.calls k a1 t201 _ A7.out).mono ?_); rintro e w' ⟨rfl, ⟨nd, rfl⟩⟩; (try first | exact ⟨rfl, _, World.drewN_drewN _ _ _⟩ | exact ⟨rfl, _, Eq.trans (World.drewN_drewN _ _ _) (congrArg (World.drewN _) (Nat.add_assoc _ _ _))⟩)))
   repeat (go_quiet (first | (go_at_call 69; (with_reducible refine (impl_AffixOk.calls k a0_0 a0_1 a0_2 a0_3 a0_4 true _ A5.out).mono ?_); rintro e w9 ⟨rfl, hb⟩; replace BK199 := am (blk_below (g := gb199) (o := .cells #[.string a0_0, .bool a0_1, .string a0_2, .string a0_3, .string a0_4] 44 (0, 0)) (bq BK199.out) hb); replace HB := am (below_step (bel1 GE199.out) hb); (try clear hb); (try clear hb2); (try clear hk); (try clear hi)) | (go_at_call 30; (with_reducible refine (impl_WordOk.calls k a1 t201 _ A7.out).mono ?_); rintro e w' ⟨rfl, ⟨nd, rfl⟩⟩; (try first | exact ⟨rfl, _, World.drewN_drewN _ _ _⟩ | exact ⟨rfl, _, Eq.trans (World.drewN_drewN _ _ _) (congrArg (World.drewN _) (Nat.add_assoc _ _ _))⟩))); try go_wp2_with (first | (go_at_call 69; (with_reducible refine (impl_AffixOk.calls k a0_0 a0_1 a0_2 a0_3 a0_4 true _ A5.out).mono ?_); rintro e w9 ⟨rfl, hb⟩; replace BK199 := am (blk_below (g := gb199) (o := .cells #[.string a0_0, .bool a0_1, .string a0_2, .string a0_3, .string a0_4] 44 (0, 0)) (bq BK199.out) hb); replace HB := am (below_step (bel1 GE199.out) hb); (try clear hb); (try clear hb2); (try clear hk); (try clear hi)) | (go_at_call 30; (with_reducible refine (impl_WordOk.calls k a1 t201 _ A7.out).mono ?_); rintro e w' ⟨rfl, ⟨nd, rfl⟩⟩; (try first | exact ⟨rfl, _, World.drewN_drewN _ _ _⟩ | exact ⟨rfl, _, Eq.trans (World.drewN_drewN _ _ _) (congrArg (World.drewN _) (Nat.add_assoc _ _ _))⟩))))
   go_meet
   case rel => exact ⟨_, (!t201), sq, H', ⟨b68_⟩, ⟨bq BK199.out⟩, ⟨bel1 GE199.out⟩⟩
  ·replace c6 := Bool.eq_false_iff.mpr c6; subst c6
   have H1 : (impl_AffixDo.j0 k a1 true a0_0 a0_1 a0_2 a0_3 a0_4) = some (r1, r2) := b18_
   replace H := H1; clear H1
   have H' := am H
   clear H; have hcz10_0 := bc BK199.out 0; have hcz10_1 := bc BK199.out 1; have hcz10_2 := bc BK199.out 2; have hcz10_3 := bc BK199.out 3; have hcz10_4 := bc BK199.out 4; have hfz10_0 := bf BK199.out 0; have hfz10_1 := bf BK199.out 1; have hfz10_2 := bf BK199.out 2; have hfz10_3 := bf BK199.out 3; have hfz10_4 := bf BK199.out 4
   go_wp2_with (first | (go_at_call 69; (with_reducible refine (impl_AffixOk.calls k a0_0 a0_1 a0_2 a0_3 a0_4 false _ A5.out).mono ?_); rintro e w11 ⟨rfl, hb⟩; replace BK199 := am (blk_below (g := gb199) (o := .cells #[.string a0_0, .bool a0_1, .string a0_2, .string a0_3, .string a0_4] 44 (0, 0)) (bq BK199.out) hb); replace HB := am (below_step (bel1 GE199.out) hb); (try clear hb); (try clear hb2); (try clear hk); (try clear hi)))
   repeat (go_quiet (first | (go_at_call 69; (with_reducible refine (impl_AffixOk.calls k a0_0 a0_1 a0_2 a0_3 a0_4 false _ A5.out).mono ?_); rintro e w11 ⟨rfl, hb⟩; replace BK199 := am (blk_below (g := gb199) (o := .cells #[.string a0_0, .bool a0_1, .string a0_2, .string a0_3, .string a0_4] 44 (0, 0)) (bq BK199.out) hb); replace HB := am (below_step (bel1 GE199.out) hb); (try clear hb); (try clear hb2); (try clear hk); (try clear hi))); try go_wp2_with (first | (go_at_call 69; (with_reducible refine (impl_AffixOk.calls k a0_0 a0_1 a0_2 a0_3 a0_4 false _ A5.out).mono ?_); rintro e w11 ⟨rfl, hb⟩; replace BK199 := am (blk_below (g := gb199) (o := .cells #[.string a0_0, .bool a0_1, .string a0_2, .string a0_3, .string a0_4] 44 (0, 0)) (bq BK199.out) hb); replace HB := am (below_step (bel1 GE199.out) hb); (try clear hb); (try clear hb2); (try clear hk); (try clear hi))))
   go_meet
   case rel => exact ⟨_, (true), sq, H', ⟨b68_⟩, ⟨bq BK199.out⟩, ⟨bel1 GE199.out⟩⟩
 case rest =>
  clear HC3; (try clear c2); (try clear p2); (try clear c6); (try clear hcz10_0); (try clear hcz10_1); (try clear hcz10_2); (try clear hcz10_3); (try clear hcz10_4); (try clear hcz8_0); (try clear hcz8_1); (try clear hcz8_2); (try clear hcz8_3); (try clear hcz8_4); (try clear hfz10_0); (try clear hfz10_1); (try clear hfz10_2); (try clear hfz10_3); (try clear hfz10_4); (try clear hfz8_0); (try clear hfz8_1); (try clear hfz8_2); (try clear hfz8_3); (try clear hfz8_4); obtain ⟨kq, x14_2, rfl, HA, HJ2, BK199, HB⟩ := hcut
  cases kq with
  | zero => exact absurd HA.out (by simp [impl_AffixDo.j0])
  | succ kj2 =>
   have H := HA.out; clear HA
   simp only [impl_AffixDo.j0] at H
   by_cases c12 : x14_2 = true
   ·subst c12
    have H1 : (some ((⟨#[]⟩ : ByteArray), false)) = some (r1, r2) := b32_
    replace H := H1; clear H1
    simp only [Option.some.injEq, Prod.mk.injEq] at H
    obtain ⟨rfl, rfl⟩ := H; go_wp2
    repeat (go_quiet (fail); try go_wp2)
    go_ret2
    exact ⟨eq_, bel1 GE199.out⟩
   ·replace c12 := Bool.eq_false_iff.mpr c12; subst c12
    have H1 : (if a0_1 = true then ((strings_HasPrefix.f a1 a0_4).bind fun t202 => (if t202 = true then (if 0 ≤ (a0_2.size : Int) then (if (a0_2.size : Int) ≤ (a1.size : Int) then (if a0_3.size + (a1.extract a0_2.size a1.size).size ≤ 9223372036854775807 then ((impl_WordOk.f kj2 (a0_3 ++ (a1.extract a0_2.size a1.size))).bind fun t203 => (if t203 = true then (some (a0_3 ++ (a1.extract a0_2.size a1.size), true)) else (some ((⟨#[]⟩ : ByteArray), false)))) else (none)) else (none)) else (none)) else (some ((⟨#[]⟩ : ByteArray), false)))) else ((strings_HasSuffix.f a1 a0_4).bind fun t204 => (if t204 = true then (if 0 ≤ (wrap64 ((a1.size : Int) - (a0_2.size : Int))) then (if (wrap64 ((a1.size : Int) - (a0_2.size : Int))) ≤ (a1.size : Int) then (if (a1.extract 0 ((wrap64 ((a1.size : Int) - (a0_2.size : Int))) : Int).toNat).size + a0_3.size ≤ 9223372036854775807 then ((impl_WordOk.f kj2 ((a1.extract 0 ((wrap64 ((a1.size : Int) - (a0_2.size : Int))) : Int).toNat) ++ a0_3)).bind fun t205 => (if t205 = true then (some ((a1.extract 0 ((wrap64 ((a1.size : Int) - (a0_2.size : Int))) : Int).toNat) ++ a0_3, true)) else (some ((⟨#[]⟩ : ByteArray), false)))) else (none)) else (none)) else (none)) else (some ((⟨#[]⟩ : ByteArray), false))))) = some (r1, r2) := b18_
    replace H := H1; clear H1
    by_cases c13 : a0_1 = true
    ·subst c13
     have H1 : ((strings_HasPrefix.f a1 a0_4).bind fun t202 => (if t202 = true then (if 0 ≤ (a0_2.size : Int) then (if (a0_2.size : Int) ≤ (a1.size : Int) then (if a0_3.size + (a1.extract a0_2.size a1.size).size ≤ 9223372036854775807 then ((impl_WordOk.f kj2 (a0_3 ++ (a1.extract a0_2.size a1.size))).bind fun t203 => (if t203 = true then (some (a0_3 ++ (a1.extract a0_2.size a1.size), true)) else (some ((⟨#[]⟩ : ByteArray), false)))) else (none)) else (none)) else (none)) else (some ((⟨#[]⟩ : ByteArray), false)))) = some (r1, r2) := b32_
     replace H := H1; clear H1
     replace H := Option.bind_eq_some_iff.mp H; obtain ⟨t202, A140, H⟩ := H; replace H : (if t202 = true then (if 0 ≤ (a0_2.size : Int) then (if (a0_2.size : Int) ≤ (a1.size : Int) then (if a0_3.size + (a1.extract a0_2.size a1.size).size ≤ 9223372036854775807 then ((impl_WordOk.f kj2 (a0_3 ++ (a1.extract a0_2.size a1.size))).bind fun t203 => (if t203 = true then (some (a0_3 ++ (a1.extract a0_2.size a1.size), true)) else (some ((⟨#[]⟩ : ByteArray), false)))) else (none)) else (none)) else (none)) else (some ((⟨#[]⟩ : ByteArray), false))) = some (r1, r2) := H; have A14 := Aside0.mk A140; clear A140
     by_cases c15 : t202 = true
     ·subst c15
      have H1 : (if 0 ≤ (a0_2.size : Int) then (if (a0_2.size : Int) ≤ (a1.size : Int) then (if a0_3.size + (a1.extract a0_2.size a1.size).size ≤ 9223372036854775807 then ((impl_WordOk.f kj2 (a0_3 ++ (a1.extract a0_2.size a1.size))).bind fun t203 => (if t203 = true then (some (a0_3 ++ (a1.extract a0_2.size a1.size), true)) else (some ((⟨#[]⟩ : ByteArray), false)))) else (none)) else (none)) else (none)) = some (r1, r2) := b32_
      replace H := H1; clear H1
      by_cases c16 : 0 ≤ (a0_2.size : Int)
      ·rw [if_pos c16] at H; have c16b0 := eq_true c16
       have c16b1 : decide (0 ≤ (a0_2.size : Int)) = true := decide_eq_true c16
       clear c16
       by_cases c17 : (a0_2.size : Int) ≤ (a1.size : Int)
       ·rw [if_pos c17] at H; have c17b0 := eq_true c17
        have c17b9 : (a0_2.size ≤ a1.size) = True := eq_true (by omega)
        have c17b6 : decide (a0_2.size ≤ a1.size) = true := decide_eq_true (by omega)
        have c17b1 : decide ((a0_2.size : Int) ≤ (a1.size : Int)) = true := decide_eq_true c17
        clear c17
        by_cases c18 : a0_3.size + (a1.extract a0_2.size a1.size).size ≤ 9223372036854775807
        ·rw [if_pos c18] at H; have c18b0 := eq_true c18; have c18b5 := c18
         try simp at c18b5
         try have c18b4 := eq_false (Nat.not_lt.2 c18b5)
         try have c18b3 : (9223372036854775807 < a0_3.size + (a1.size - a0_2.size)) = False := by
               have h_ := c18
               simp only [ByteArray.size_append, ByteArray.size_extract] at h_
               exact eq_false (by omega)
         have c18b1 : decide (a0_3.size + (a1.extract a0_2.size a1.size).size ≤ 9223372036854775807) = true := decide_eq_true c18
         try have c18b2 : (9223372036854775807 < a0_3.size + (a1.extract a0_2.size a1.size).size) = False := eq_false (Nat.not_lt.2 c18)
         replace H := Option.bind_eq_some_iff.mp H; obtain ⟨t203, A190, H⟩ := H; replace H : (if t203 = true then (some (a0_3 ++ (a1.extract a0_2.size a1.size), true)) else (some ((⟨#[]⟩ : ByteArray), false))) = some (r1, r2) := H; have A19 := Aside0.mk A190; clear A190
         by_cases c20 : t203 = true
         ·subst c20
          have H1 : (some (a0_3 ++ (a1.extract a0_2.size a1.size), true)) = some (r1, r2) := b32_
          replace H := H1; clear H1
          simp only [Option.some.injEq, Prod.mk.injEq] at H
          obtain ⟨rfl, rfl⟩ := H; have hcz21_0 := bc BK199.out 0; have hcz21_1 := bc BK199.out 1; have hcz21_2 := bc BK199.out 2; have hcz21_3 := bc BK199.out 3; have hcz21_4 := bc BK199.out 4; have hfz21_0 := bf BK199.out 0; have hfz21_1 := bf BK199.out 1; have hfz21_2 := bf BK199.out 2; have hfz21_3 := bf BK199.out 3; have hfz21_4 := bf BK199.out 4
          go_wp2_with (first | (go_at_call 70; (with_reducible refine (strings_HasPrefix.calls a1 a0_4 true _ A14.out).mono ?_); rintro e w' ⟨rfl, ⟨nd, rfl⟩⟩; (try first | exact ⟨rfl, _, World.drewN_drewN _ _ _⟩ | exact ⟨rfl, _, Eq.trans (World.drewN_drewN _ _ _) (congrArg (World.drewN _) (Nat.add_assoc _ _ _))⟩)) | (go_at_call 30; (with_reducible refine (impl_WordOk.calls kj2 (a0_3 ++ (a1.extract a0_2.size a1.size)) true _ A19.out).mono ?_); rintro e w' ⟨rfl, ⟨nd, rfl⟩⟩; (try first | exact ⟨rfl, _, World.drewN_drewN _ _ _⟩ | exact ⟨rfl, _, Eq.trans (World.drewN_drewN _ _ _) (congrArg (World.drewN _) (Nat.add_assoc _ _ _))⟩)))
          repeat (go_quiet (first | (go_at_call 70; (with_reducible refine (strings_HasPrefix.calls a1 a0_4 true _ A14.out).mono ?_); rintro e w' ⟨rfl, ⟨nd, rfl⟩⟩; (try first | exact ⟨rfl, _, World.drewN_drewN _ _ _⟩ | exact ⟨rfl, _, Eq.trans (World.drewN_drewN _ _ _) (congrArg (World.drewN _) (Nat.add_assoc _ _ _))⟩)) | (go_at_call 30; (with_reducible refine (impl_WordOk.calls kj2 (a0_3 ++ (a1.extract a0_2.size a1.size)) true _ A19.out).mono ?_); rintro e w' ⟨rfl, ⟨nd, rfl⟩⟩; (try first | exact ⟨rfl, _, World.drewN_drewN _ _ _⟩ | exact ⟨rfl, _, Eq.trans (World.drewN_drewN _ _ _) (congrArg (World.drewN _) (Nat.add_assoc _ _ _))⟩))); try go_wp2_with (first | (go_at_call 70; (with_reducible refine (strings_HasPrefix.calls a1 a0_4 true _ A14.out).mono ?_); rintro e w' ⟨rfl, ⟨nd, rfl⟩⟩; (try first | exact ⟨rfl, _, World.drewN_drewN _ _ _⟩ | exact ⟨rfl, _, Eq.trans (World.drewN_drewN _ _ _) (congrArg (World.drewN _) (Nat.add_assoc _ _ _))⟩)) | (go_at_call 30; (with_reducible refine (impl_WordOk.calls kj2 (a0_3 ++ (a1.extract a0_2.size a1.size)) true _ A19.out).mono ?_); rintro e w' ⟨rfl, ⟨nd, rfl⟩⟩; (try first | exact ⟨rfl, _, World.drewN_drewN _ _ _⟩ | exact ⟨rfl, _, Eq.trans (World.drewN_drewN _ _ _) (congrArg (World.drewN _) (Nat.add_assoc _ _ _))⟩))))
          go_ret2
          exact ⟨eq_, bel1 GE199.out⟩
         ·replace c20 := Bool.eq_false_iff.mpr c20; subst c20
          have H1 : (some ((⟨#[]⟩ : ByteArray), false)) = some (r1, r2) := b18_
          replace H := H1; clear H1
          simp only [Option.some.injEq, Prod.mk.injEq] at H
          obtain ⟨rfl, rfl⟩ := H; have hcz22_0 := bc BK199.out 0; have hcz22_1 := bc BK199.out 1; have hcz22_2 := bc BK199.out 2; have hcz22_3 := bc BK199.out 3; have hcz22_4 := bc BK199.out 4; have hfz22_0 := bf BK199.out 0; have hfz22_1 := bf BK199.out 1; have hfz22_2 := bf BK199.out 2; have hfz22_3 := bf BK199.out 3; have hfz22_4 := bf BK199.out 4
          go_wp2_with (first | (go_at_call 70; (with_reducible refine (strings_HasPrefix.calls a1 a0_4 true _ A14.out).mono ?_); rintro e w' ⟨rfl, ⟨nd, rfl⟩⟩; (try first | exact ⟨rfl, _, World.drewN_drewN _ _ _⟩ | exact ⟨rfl, _, Eq.trans (World.drewN_drewN _ _ _) (congrArg (World.drewN _) (Nat.add_assoc _ _ _))⟩)) | (go_at_call 30; (with_reducible refine (impl_WordOk.calls kj2 (a0_3 ++ (a1.extract a0_2.size a1.size)) false _ A19.out).mono ?_); rintro e w' ⟨rfl, ⟨nd, rfl⟩⟩; (try first | exact ⟨rfl, _, World.drewN_drewN _ _ _⟩ | exact ⟨rfl, _, Eq.trans (World.drewN_drewN _ _ _) (congrArg (World.drewN _) (Nat.add_assoc _ _ _))⟩)))
          repeat (go_quiet (first | (go_at_call 70; (with_reducible refine (strings_HasPrefix.calls a1 a0_4 true _ A14.out).mono ?_); rintro e w' ⟨rfl, ⟨nd, rfl⟩⟩; (try first | exact ⟨rfl, _, World.drewN_drewN _ _ _⟩ | exact ⟨rfl, _, Eq.trans (World.drewN_drewN _ _ _) (congrArg (World.drewN _) (Nat.add_assoc _ _ _))⟩)) | (go_at_call 30; (with_reducible refine (impl_WordOk.calls kj2 (a0_3 ++ (a1.extract a0_2.size a1.size)) false _ A19.out).mono ?_); rintro e w' ⟨rfl, ⟨nd, rfl⟩⟩; (try first | exact ⟨rfl, _, World.drewN_drewN _ _ _⟩ | exact ⟨rfl, _, Eq.trans (World.drewN_drewN _ _ _) (congrArg (World.drewN _) (Nat.add_assoc _ _ _))⟩))); try go_wp2_with (first | (go_at_call 70; (with_reducible refine (strings_HasPrefix.calls a1 a0_4 true _ A14.out).mono ?_); rintro e w' ⟨rfl, ⟨nd, rfl⟩⟩; (try first | exact ⟨rfl, _, World.drewN_drewN _ _ _⟩ | exact ⟨rfl, _, Eq.trans (World.drewN_drewN _ _ _) (congrArg (World.drewN _) (Nat.add_assoc _ _ _))⟩)) | (go_at_call 30; (with_reducible refine (impl_WordOk.calls kj2 (a0_3 ++ (a1.extract a0_2.size a1.size)) false _ A19.out).mono ?_); rintro e w' ⟨rfl, ⟨nd, rfl⟩⟩; (try first | exact ⟨rfl, _, World.drewN_drewN _ _ _⟩ | exact ⟨rfl, _, Eq.trans (World.drewN_drewN _ _ _) (congrArg (World.drewN _) (Nat.add_assoc _ _ _))⟩))))
          go_ret2
          exact ⟨eq_, bel1 GE199.out⟩
        ·rw [if_neg c18] at H
         exact absurd H (by simp)
       ·rw [if_neg c17] at H
        exact absurd H (by simp)
      ·rw [if_neg c16] at H
       exact absurd H (by simp)
     ·replace c15 := Bool.eq_false_iff.mpr c15; subst c15
      have H1 : (some ((⟨#[]⟩ : ByteArray), false)) = some (r1, r2) := b18_
      replace H := H1; clear H1
      simp only [Option.some.injEq, Prod.mk.injEq] at H
      obtain ⟨rfl, rfl⟩ := H; have hcz23_0 := bc BK199.out 0; have hcz23_1 := bc BK199.out 1; have hcz23_2 := bc BK199.out 2; have hcz23_3 := bc BK199.out 3; have hcz23_4 := bc BK199.out 4; have hfz23_0 := bf BK199.out 0; have hfz23_1 := bf BK199.out 1; have hfz23_2 := bf BK199.out 2; have hfz23_3 := bf BK199.out 3; have hfz23_4 := bf BK199.out 4
      go_wp2_with (first | (go_at_call 70; (with_reducible refine (strings_HasPrefix.calls a1 a0_4 false _ A14.out).mono ?_); rintro e w' ⟨rfl, ⟨nd, rfl⟩⟩; (try first | exact ⟨rfl, _, World.drewN_drewN _ _ _⟩ | exact ⟨rfl, _, Eq.trans (World.drewN_drewN _ _ _) (congrArg (World.drewN _) (Nat.add_assoc _ _ _))⟩)))
      repeat (go_quiet (first | (go_at_call 70; (with_reducible refine (strings_HasPrefix.calls a1 a0_4 false _ A14.out).mono ?_); rintro e w' ⟨rfl, ⟨nd, rfl⟩⟩; (try first | exact ⟨rfl, _, World.drewN_drewN _ _ _⟩ | exact ⟨rfl, _, Eq.trans (World.drewN_drewN _ _ _) (congrArg (World.drewN _) (Nat.add_assoc _ _ _))⟩))); try go_wp2_with (first | (go_at_call 70; (with_reducible refine (strings_HasPrefix.calls a1 a0_4 false _ A14.out).mono ?_); rintro e w' ⟨rfl, ⟨nd, rfl⟩⟩; (try first | exact ⟨rfl, _, World.drewN_drewN _ _ _⟩ | exact ⟨rfl, _, Eq.trans (World.drewN_drewN _ _ _) (congrArg (World.drewN _) (Nat.add_assoc _ _ _))⟩))))
      go_ret2
      exact ⟨eq_, bel1 GE199.out⟩
    ·replace c13 := Bool.eq_false_iff.mpr c13; subst c13
     have H1 : ((strings_HasSuffix.f a1 a0_4).bind fun t204 => (if t204 = true then (if 0 ≤ (wrap64 ((a1.size : Int) - (a0_2.size : Int))) then (if (wrap64 ((a1.size : Int) - (a0_2.size : Int))) ≤ (a1.size : Int) then (if (a1.extract 0 ((wrap64 ((a1.size : Int) - (a0_2.size : Int))) : Int).toNat).size + a0_3.size ≤ 9223372036854775807 then ((impl_WordOk.f kj2 ((a1.extract 0 ((wrap64 ((a1.size : Int) - (a0_2.size : Int))) : Int).toNat) ++ a0_3)).bind fun t205 => (if t205 = true then (some ((a1.extract 0 ((wrap64 ((a1.size : Int) - (a0_2.size : Int))) : Int).toNat) ++ a0_3, true)) else (some ((⟨#[]⟩ : ByteArray), false)))) else (none)) else (none)) else (none)) else (some ((⟨#[]⟩ : ByteArray), false)))) = some (r1, r2) := b18_
     replace H := H1; clear H1
     replace H := Option.bind_eq_some_iff.mp H; obtain ⟨t204, A240, H⟩ := H; replace H : (if t204 = true then (if 0 ≤ (wrap64 ((a1.size : Int) - (a0_2.size : Int))) then (if (wrap64 ((a1.size : Int) - (a0_2.size : Int))) ≤ (a1.size : Int) then (if (a1.extract 0 ((wrap64 ((a1.size : Int) - (a0_2.size : Int))) : Int).toNat).size + a0_3.size ≤ 9223372036854775807 then ((impl_WordOk.f kj2 ((a1.extract 0 ((wrap64 ((a1.size : Int) - (a0_2.size : Int))) : Int).toNat) ++ a0_3)).bind fun t205 => (if t205 = true then (some ((a1.extract 0 ((wrap64 ((a1.size : Int) - (a0_2.size : Int))) : Int).toNat) ++ a0_3, true)) else (some ((⟨#[]⟩ : ByteArray), false)))) else (none)) else (none)) else (none)) else (some ((⟨#[]⟩ : ByteArray), false))) = some (r1, r2) := H; have A24 := Aside0.mk A240; clear A240
     by_cases c25 : t204 = true
     ·subst c25
      have H1 : (if 0 ≤ (wrap64 ((a1.size : Int) - (a0_2.size : Int))) then (if (wrap64 ((a1.size : Int) - (a0_2.size : Int))) ≤ (a1.size : Int) then (if (a1.extract 0 ((wrap64 ((a1.size : Int) - (a0_2.size : Int))) : Int).toNat).size + a0_3.size ≤ 9223372036854775807 then ((impl_WordOk.f kj2 ((a1.extract 0 ((wrap64 ((a1.size : Int) - (a0_2.size : Int))) : Int).toNat) ++ a0_3)).bind fun t205 => (if t205 = true then (some ((a1.extract 0 ((wrap64 ((a1.size : Int) - (a0_2.size : Int))) : Int).toNat) ++ a0_3, true)) else (some ((⟨#[]⟩ : ByteArray), false)))) else (none)) else (none)) else (none)) = some (r1, r2) := b32_
      replace H := H1; clear H1
      obtain ⟨ji26, hji26⟩ : ∃ j_ : Int, (wrap64 ((a1.size : Int) - (a0_2.size : Int))) = j_ := ⟨_, rfl⟩
      replace H : (if 0 ≤ (ji26) then (if (ji26) ≤ (a1.size : Int) then (if (a1.extract 0 ((ji26) : Int).toNat).size + a0_3.size ≤ 9223372036854775807 then ((impl_WordOk.f kj2 ((a1.extract 0 ((ji26) : Int).toNat) ++ a0_3)).bind fun t205 => (if t205 = true then (some ((a1.extract 0 ((ji26) : Int).toNat) ++ a0_3, true)) else (some ((⟨#[]⟩ : ByteArray), false)))) else (none)) else (none)) else (none)) = some (r1, r2) := by first | (rw [hji26] at H; exact H) | (simp only [hji26] at H ⊢; exact H)
      (try rw [hji26] at A24)
      have hji26w : (IntKind.i64.wrap ((a1.size : Int) - (a0_2.size : Int))) = ji26 := (i64_w _).trans hji26
      by_cases c27 : 0 ≤ (ji26)
      ·rw [if_pos c27] at H; have c27b0 := eq_true c27
       have c27b1 : decide (0 ≤ (ji26)) = true := decide_eq_true c27
       clear c27
       by_cases c28 : (ji26) ≤ (a1.size : Int)
       ·rw [if_pos c28] at H; have c28b0 := eq_true c28
        have c28b1 : decide ((ji26) ≤ (a1.size : Int)) = true := decide_eq_true c28
        clear c28
        by_cases c29 : (a1.extract 0 ((ji26) : Int).toNat).size + a0_3.size ≤ 9223372036854775807
        ·rw [if_pos c29] at H; have c29b0 := eq_true c29; have c29b5 := c29
         try simp at c29b5
         try have c29b4 := eq_false (Nat.not_lt.2 c29b5)
         try have c29b3 : (9223372036854775807 < ((ji26) : Int).toNat + a0_3.size) = False := by
               have h_ := c29
               simp only [ByteArray.size_append, ByteArray.size_extract] at h_
               have g0_ : ((ji26)) ≤ (a1.size : Int) := of_decide_eq_true ad
               exact eq_false (by omega)
         have c29b1 : decide ((a1.extract 0 ((ji26) : Int).toNat).size + a0_3.size ≤ 9223372036854775807) = true := decide_eq_true c29
         try have c29b2 : (9223372036854775807 < (a1.extract 0 ((ji26) : Int).toNat).size + a0_3.size) = False := eq_false (Nat.not_lt.2 c29)
         replace H := Option.bind_eq_some_iff.mp H; obtain ⟨t205, A300, H⟩ := H; replace H : (if t205 = true then (some ((a1.extract 0 ((ji26) : Int).toNat) ++ a0_3, true)) else (some ((⟨#[]⟩ : ByteArray), false))) = some (r1, r2) := H; have A30 := Aside0.mk A300; clear A300
         by_cases c31 : t205 = true
         ·subst c31
          have H1 : (some ((a1.extract 0 ((ji26) : Int).toNat) ++ a0_3, true)) = some (r1, r2) := b32_
          replace H := H1; clear H1
          simp only [Option.some.injEq, Prod.mk.injEq] at H
          obtain ⟨rfl, rfl⟩ := H; have hcz32_0 := bc BK199.out 0; have hcz32_1 := bc BK199.out 1; have hcz32_2 := bc BK199.out 2; have hcz32_3 := bc BK199.out 3; have hcz32_4 := bc BK199.out 4; have hfz32_0 := bf BK199.out 0; have hfz32_1 := bf BK199.out 1; have hfz32_2 := bf BK199.out 2; have hfz32_3 := bf BK199.out 3; have hfz32_4 := bf BK199.out 4
          go_wp2_with (first | (go_at_call 71; (with_reducible refine (strings_HasSuffix.calls a1 a0_4 true _ A24.out).mono ?_); rintro e w' ⟨rfl, ⟨nd, rfl⟩⟩; (try first | exact ⟨rfl, _, World.drewN_drewN _ _ _⟩ | exact ⟨rfl, _, Eq.trans (World.drewN_drewN _ _ _) (congrArg (World.drewN _) (Nat.add_assoc _ _ _))⟩)) | (go_at_call 30; (with_reducible refine (impl_WordOk.calls kj2 ((a1.extract 0 ((ji26) : Int).toNat) ++ a0_3) true _ A30.out).mono ?_); rintro e w' ⟨rfl, ⟨nd, rfl⟩⟩; (try first | exact ⟨rfl, _, World.drewN_drewN _ _ _⟩ | exact ⟨rfl, _, Eq.trans (World.drewN_drewN _ _ _) (congrArg (World.drewN _) (Nat.add_assoc _ _ _))⟩)))
          repeat (go_quiet (first | (go_at_call 71; (with_reducible refine (strings_HasSuffix.calls a1 a0_4 true _ A24.out).mono ?_); rintro e w' ⟨rfl, ⟨nd, rfl⟩⟩; (try first | exact ⟨rfl, _, World.drewN_drewN _ _ _⟩ | exact ⟨rfl, _, Eq.trans (World.drewN_drewN _ _ _) (congrArg (World.drewN _) (Nat.add_assoc _ _ _))⟩)) | (go_at_call 30; (with_reducible refine (impl_WordOk.calls kj2 ((a1.extract 0 ((ji26) : Int).toNat) ++ a0_3) true _ A30.out).mono ?_); rintro e w' ⟨rfl, ⟨nd, rfl⟩⟩; (try first | exact ⟨rfl, _, World.drewN_drewN _ _ _⟩ | exact ⟨rfl, _, Eq.trans (World.drewN_drewN _ _ _) (congrArg (World.drewN _) (Nat.add_assoc _ _ _))⟩))); try go_wp2_with (first | (go_at_call 71; (with_reducible refine (strings_HasSuffix.calls a1 a0_4 true _ A24.out).mono ?_); rintro e w' ⟨rfl, ⟨nd, rfl⟩⟩; (try first | exact ⟨rfl, _, World.drewN_drewN _ _ _⟩ | exact ⟨rfl, _, Eq.trans (World.drewN_drewN _ _ _) (congrArg (World.drewN _) (Nat.add_assoc _ _ _))⟩)) | (go_at_call 30; (with_reducible refine (impl_WordOk.calls kj2 ((a1.extract 0 ((ji26) : Int).toNat) ++ a0_3) true _ A30.out).mono ?_); rintro e w' ⟨rfl, ⟨nd, rfl⟩⟩; (try first | exact ⟨rfl, _, World.drewN_drewN _ _ _⟩ | exact ⟨rfl, _, Eq.trans (World.drewN_drewN _ _ _) (congrArg (World.drewN _) (Nat.add_assoc _ _ _))⟩))))
          go_ret2
          exact ⟨b77_, bel1 GE199.out⟩
         ·replace c31 := Bool.eq_false_iff.mpr c31; subst c31
          have H1 : (some ((⟨#[]⟩ : ByteArray), false)) = some (r1, r2) := b18_
          replace H := H1; clear H1
          simp only [Option.some.injEq, Prod.mk.injEq] at H
          obtain ⟨rfl, rfl⟩ := H; have hcz33_0 := bc BK199.out 0; have hcz33_1 := bc BK199.out 1; have hcz33_2 := bc BK199.out 2; have hcz33_3 := bc BK199.out 3; have hcz33_4 := bc BK199.out 4; have hfz33_0 := bf BK199.out 0; have hfz33_1 := bf BK199.out 1; have hfz33_2 := bf BK199.out 2; have hfz33_3 := bf BK199.out 3; have hfz33_4 := bf BK199.out 4
          go_wp2_with (first | (go_at_call 71; (with_reducible refine (strings_HasSuffix.calls a1 a0_4 true _ A24.out).mono ?_); rintro e w' ⟨rfl, ⟨nd, rfl⟩⟩; (try first | exact ⟨rfl, _, World.drewN_drewN _ _ _⟩ | exact ⟨rfl, _, Eq.trans (World.drewN_drewN _ _ _) (congrArg (World.drewN _) (Nat.add_assoc _ _ _))⟩)) | (go_at_call 30; (with_reducible refine (impl_WordOk.calls kj2 ((a1.extract 0 ((ji26) : Int).toNat) ++ a0_3) false _ A30.out).mono ?_); rintro e w' ⟨rfl, ⟨nd, rfl⟩⟩; (try first | exact ⟨rfl, _, World.drewN_drewN _ _ _⟩ | exact ⟨rfl, _, Eq.trans (World.drewN_drewN _ _ _) (congrArg (World.drewN _) (Nat.add_assoc _ _ _))⟩)))
          repeat (go_quiet (first | (go_at_call 71; (with_reducible refine (strings_HasSuffix.calls a1 a0_4 true _ A24.out).mono ?_); rintro e w' ⟨rfl, ⟨nd, rfl⟩⟩; (try first | exact ⟨rfl, _, World.drewN_drewN _ _ _⟩ | exact ⟨rfl, _, Eq.trans (World.drewN_drewN _ _ _) (congrArg (World.drewN _) (Nat.add_assoc _ _ _))⟩)) | (go_at_call 30; (with_reducible refine (impl_WordOk.calls kj2 ((a1.extract 0 ((ji26) : Int).toNat) ++ a0_3) false _ A30.out).mono ?_); rintro e w' ⟨rfl, ⟨nd, rfl⟩⟩; (try first | exact ⟨rfl, _, World.drewN_drewN _ _ _⟩ | exact ⟨rfl, _, Eq.trans (World.drewN_drewN _ _ _) (congrArg (World.drewN _) (Nat.add_assoc _ _ _))⟩))); try go_wp2_with (first | (go_at_call 71; (with_reducible refine (strings_HasSuffix.calls a1 a0_4 true _ A24.out).mono ?_); rintro e w' ⟨rfl, ⟨nd, rfl⟩⟩; (try first | exact ⟨rfl, _, World.drewN_drewN _ _ _⟩ | exact ⟨rfl, _, Eq.trans (World.drewN_drewN _ _ _) (congrArg (World.drewN _) (Nat.add_assoc _ _ _))⟩)) | (go_at_call 30; (with_reducible refine (impl_WordOk.calls kj2 ((a1.extract 0 ((ji26) : Int).toNat) ++ a0_3) false _ A30.out).mono ?_); rintro e w' ⟨rfl, ⟨nd, rfl⟩⟩; (try first | exact ⟨rfl, _, World.drewN_drewN _ _ _⟩ | exact ⟨rfl, _, Eq.trans (World.drewN_drewN _ _ _) (congrArg (World.drewN _) (Nat.add_assoc _ _ _))⟩))))
          go_ret2
          exact ⟨b77_, bel1 GE199.out⟩
        ·rw [if_neg c29] at H
         exact absurd H (by simp)
       ·rw [if_neg c28] at H
        exact absurd H (by simp)
      ·rw [if_neg c27] at H
       exact absurd H (by simp)
     ·replace c25 := Bool.eq_false_iff.mpr c25; subst c25
      have H1 : (some ((⟨#[]⟩ : ByteArray), false)) = some (r1, r2) := b18_
      replace H := H1; clear H1
      simp only [Option.some.injEq, Prod.mk.injEq] at H
      obtain ⟨rfl, rfl⟩ := H; have hcz34_0 := bc BK199.out 0; have hcz34_1 := bc BK199.out 1; have hcz34_2 := bc BK199.out 2; have hcz34_3 := bc BK199.out 3; have hcz34_4 := bc BK199.out 4; have hfz34_0 := bf BK199.out 0; have hfz34_1 := bf BK199.out 1; have hfz34_2 := bf BK199.out 2; have hfz34_3 := bf BK199.out 3; have hfz34_4 := bf BK199.out 4
      go_wp2_with (first | (go_at_call 71; (with_reducible refine (strings_HasSuffix.calls a1 a0_4 false _ A24.out).mono ?_); rintro e w' ⟨rfl, ⟨nd, rfl⟩⟩; (try first | exact ⟨rfl, _, World.drewN_drewN _ _ _⟩ | exact ⟨rfl, _, Eq.trans (World.drewN_drewN _ _ _) (congrArg (World.drewN _) (Nat.add_assoc _ _ _))⟩)))
      repeat (go_quiet (first | (go_at_call 71; (with_reducible refine (strings_HasSuffix.calls a1 a0_4 false _ A24.out).mono ?_); rintro e w' ⟨rfl, ⟨nd, rfl⟩⟩; (try first | exact ⟨rfl, _, World.drewN_drewN _ _ _⟩ | exact ⟨rfl, _, Eq.trans (World.drewN_drewN _ _ _) (congrArg (World.drewN _) (Nat.add_assoc _ _ _))⟩))); try go_wp2_with (first | (go_at_call 71; (with_reducible refine (strings_HasSuffix.calls a1 a0_4 false _ A24.out).mono ?_); rintro e w' ⟨rfl, ⟨nd, rfl⟩⟩; (try first | exact ⟨rfl, _, World.drewN_drewN _ _ _⟩ | exact ⟨rfl, _, Eq.trans (World.drewN_drewN _ _ _) (congrArg (World.drewN _) (Nat.add_assoc _ _ _))⟩))))
      go_ret2
      exact ⟨eq_, bel1 GE199.out⟩

end Go.Proofs.Ytedfcehhgbeibaa.QFnForms

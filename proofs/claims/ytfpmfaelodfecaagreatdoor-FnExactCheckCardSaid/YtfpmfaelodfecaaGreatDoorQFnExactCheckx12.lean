import Derived.Test.YtfpmfaelodfecaaGreatDoorQFnExactCheckx0
import Derived.Test.YtfpmfaelodfecaaGreatDoorQFnExactCheckx9
import Derived.Test.YtfpmfaelodfecaaGreatDoorVMSh2
namespace Go.Proofs.YtfpmfaelodfecaaGreatDoor.QFnExactCheck
open Go.RowKit Go.Proofs.YtfpmfaelodfecaaGreatDoorW.PrintWords Go.Proofs.YtfpmfaelodfecaaGreatDoorW.PrintLast Go.Proofs.YtfpmfaelodfecaaGreatDoorW.PrintMore Go.Proofs.YtfpmfaelodfecaaGreatDoor.Sh
attribute [local go_sem] max2_int min2_int max_two min_two max_three min_three max_four min_four
set_option linter.unusedVariables false
set_option linter.unusedSimpArgs false
set_option maxHeartbeats 8000000
set_option maxRecDepth 100000
-- shrunk

/-! ### impl_affixesOk: function 52 -/
def impl_affixesOk.l0 : Nat → List (S82) → List (S82) → Int → Int → Option (Bool)
 | 0, _, _, _, _ => none
 | k + 1, x0, x5, x6, x7 => if x7 < x6 then (if 0 ≤ x7 then (if x7 < (x5.length : Int) then ((impl_AffixOk.f k ((rd_T82 x5 x7).f0) ((rd_T82 x5 x7).f1) ((rd_T82 x5 x7).f2) ((rd_T82 x5 x7).f3) ((rd_T82 x5 x7).f4)).bind fun t267 => (if t267 = true then (if x7 ≤ (x0.length : Int) then ((impl_Affix_75.f k (x0.take (x7 : Int).toNat) ((rd_T82 x5 x7).f0) ((rd_T82 x5 x7).f1) ((rd_T82 x5 x7).f2) ((rd_T82 x5 x7).f3) ((rd_T82 x5 x7).f4)).bind fun t272 => (if t272 = true then (some false) else (impl_affixesOk.l0 k x0 x5 x6 (wrap64 (x7 + 1))))) else (none)) else (some false))) else (none)) else (none)) else (some (decide ((x0.length : Int) ≤ 8)))
def impl_affixesOk.f (k : Nat) (l0 : List (S82)) : Option (Bool) := impl_affixesOk.l0 k l0 l0 (l0.length : Int) 0
def impl_affixesOk.T4 : Bool × List (List Nat × List Nat) := (true, [([], []), ([0], [0]), ([1], [1]), ([2, 1], [2]), ([3], [3]), ([3], [3]), ([4, 5, 3], [3, 4, 5]), ([3], [3]), ([6, 7, 3, 3], [3, 6, 7]), ([3, 8], [3, 8])])
def impl_affixesOk.B4 : List Nat := [0, 1, 3, 7, 15, 15, 63, 15, 255, 511]
theorem impl_affixesOk.tab4 : rtab .any (opsOf Tryz.f52 4) = impl_affixesOk.T4 := by kernel_rfl
theorem impl_affixesOk.bits4 : waitsOk impl_affixesOk.T4.2 impl_affixesOk.B4 = true := by kernel_rfl
theorem impl_affixesOk.calls (k : Nat) (A0 : Option Addr) (c0 : Nat) (l0 : List (S82)) (r : Bool) (w : World) (hr0 : Kd.C k82 w A0 l0.length l0) (hc0 : l0.length ≤ c0) (h : impl_affixesOk.f k l0 = some r) :
  Calls Tryz.prog 52 #[.slice A0 l0.length c0] w fun e w' => e = .returned (.bool r) ∧ Below w.heap.size w w' := by
 have hu82 := Tryz.underlying82; have HR0 := am hr0; have HC0 := am hc0; clear hr0 hc0; have HB := am (Below.refl w.heap.size w)
 have H : (impl_affixesOk.l0 k l0 l0 (l0.length : Int) 0) = some r := h
 clear h
 have H' := am H
 clear H; go_enter Tryz.func52, Tryz.ntmps52; go_wp2
 go_loopg [7] k (fun kq v7 w' => ∃ (x7_1 : Int), v7 = .int .i64 x7_1 ∧ Aside0 (impl_affixesOk.l0 kq l0 l0 (l0.length : Int) x7_1 = some r) ∧ Aside0 (kq ≤ k) ∧ Aside0 (Below w.heap.size w w'))
 case atStart => exact ⟨(0), sq, H', ⟨Nat.le_refl _⟩, ⟨bel⟩⟩
 case round =>
  clear H'; obtain ⟨x7_1, rfl, HA, HK1, HB⟩ := hrel
  cases gk with
  | zero => exact absurd HA.out (by simp [impl_affixesOk.l0])
  | succ k1 =>
   have H := HA.out; clear HA
   simp only [impl_affixesOk.l0] at H
   by_cases c2 : x7_1 < (l0.length : Int)
   ·rw [if_pos c2] at H; have c2b0 := decide_eq_true c2; clear c2
    replace H := it H; obtain ⟨c3b0, H⟩ := H
    replace H := it H; obtain ⟨c4b0, H⟩ := H; replace H := bs H; obtain ⟨t267, A50, H⟩ := H; replace H : (if t267 = true then (if x7_1 ≤ (l0.length : Int) then ((impl_Affix_75.f k1 (l0.take (x7_1 : Int).toNat) ((rd_T82 l0 x7_1).f0) ((rd_T82 l0 x7_1).f1) ((rd_T82 l0 x7_1).f2) ((rd_T82 l0 x7_1).f3) ((rd_T82 l0 x7_1).f4)).bind fun t272 => (if t272 = true then (some false) else (impl_affixesOk.l0 k1 l0 l0 (l0.length : Int) (wrap64 (x7_1 + 1))))) else (none)) else (some false)) = some r := H; have A5 := Aside0.mk A50; clear A50
    by_cases c6 : t267 = true
    ·subst c6
     have H1 : (if x7_1 ≤ (l0.length : Int) then ((impl_Affix_75.f k1 (l0.take (x7_1 : Int).toNat) ((rd_T82 l0 x7_1).f0) ((rd_T82 l0 x7_1).f1) ((rd_T82 l0 x7_1).f2) ((rd_T82 l0 x7_1).f3) ((rd_T82 l0 x7_1).f4)).bind fun t272 => (if t272 = true then (some false) else (impl_affixesOk.l0 k1 l0 l0 (l0.length : Int) (wrap64 (x7_1 + 1))))) else (none)) = some r := b8_
     replace H := H1; clear H1
     have c7b0 := eq_true (of_decide_eq_true ad : 0 ≤ x7_1)
     replace H := ip H; obtain ⟨c8, H⟩ := H; have c8b0 := eq_true c8
     have c8b1 : decide (x7_1 ≤ (l0.length : Int)) = true := decide_eq_true c8
     clear c8; obtain ⟨y268, hy268⟩ : ∃ y_ : List (S82), y_ = (l0.take (x7_1 : Int).toNat) := ⟨_, rfl⟩
     replace H : ((impl_Affix_75.f k1 y268 ((rd_T82 l0 x7_1).f0) ((rd_T82 l0 x7_1).f1) ((rd_T82 l0 x7_1).f2) ((rd_T82 l0 x7_1).f3) ((rd_T82 l0 x7_1).f4)).bind fun t272 => (if t272 = true then (some false) else (impl_affixesOk.l0 k1 l0 l0 (l0.length : Int) (wrap64 (x7_1 + 1))))) = some r := by first | (rw [hy268]; with_reducible exact H) | (have H2_ := bm H; rw [hy268]; with_reducible exact H2_) | (with_reducible exact bm H) | with_reducible exact H | (rw [hy268]; exact H) | exact H
     have Ny268 := am hy268; clear hy268; replace H := bs H; obtain ⟨t272, A90, H⟩ := H; replace H : (if t272 = true then (some false) else (impl_affixesOk.l0 k1 l0 l0 (l0.length : Int) (wrap64 (x7_1 + 1)))) = some r := H; have A9 := Aside0.mk A90; clear A90
     by_cases c10 : t272 = true
     ·subst c10
      have H1 : (some false) = some r := b8_
      replace H := H1; clear H1
      obtain rfl := Option.some.inj H
      have p265 : 0 ≤ (x7_1 : Int) := of_decide_eq_true ad
      have q265 : x7_1 < (l0.length : Int) := of_decide_eq_true ad
      obtain ⟨ad265, e265, hx265_0, hx265_1, hx265_2, hx265_3, hx265_4⟩ := at_T82 HR0.out x7_1 p265 q265
      cases e265
      replace hx265_0 := kp HB.out hx265_0; replace hx265_1 := kp HB.out hx265_1; replace hx265_2 := kp HB.out hx265_2; replace hx265_3 := kp HB.out hx265_3; replace hx265_4 := kp HB.out hx265_4; replace p265 := eq_true p265; replace q265 := eq_true q265
      try go_wp2_with (first | ((with_reducible refine gate_dst (N := 4) rfl ?_); refine bx 4 (cs := #[.string (⟨#[]⟩ : ByteArray), .bool false, .string (⟨#[]⟩ : ByteArray), .string (⟨#[]⟩ : ByteArray), .string (⟨#[]⟩ : ByteArray)]) (t := 82) ?_; intro gb266 hg w11 hbox hb; have BK266 := am (hbox); have GW266 := am ((b0_ : w.heap.size ≤ gb266)); have GE266 := am ((b0_ : w.heap.size ≤ gb266)); replace HB := am (below_step bel hb); clear hb hbox hg; have hcz12_0 := bc BK266.out 0; have hcz12_1 := bc BK266.out 1; have hcz12_2 := bc BK266.out 2; have hcz12_3 := bc BK266.out 3; have hcz12_4 := bc BK266.out 4; have hfz12_0 := bf BK266.out 0; have hfz12_1 := bf BK266.out 1; have hfz12_2 := bf BK266.out 2; have hfz12_3 := bf BK266.out 3; have hfz12_4 := bf BK266.out 4))
      have n0_ : Aside0 ((((((w11.setCell ⟨gb266, 0, none⟩ (.string ((rd_T82 l0 x7_1).f0))).setCell ⟨gb266, 1, none⟩ (.bool ((rd_T82 l0 x7_1).f1))).setCell ⟨gb266, 2, none⟩ (.string ((rd_T82 l0 x7_1).f2))).setCell ⟨gb266, 3, none⟩ (.string ((rd_T82 l0 x7_1).f3))).setCell ⟨gb266, 4, none⟩ (.string ((rd_T82 l0 x7_1).f4))).heap[gb266]? = some (.cells #[.string ((rd_T82 l0 x7_1).f0), .bool ((rd_T82 l0 x7_1).f1), .string ((rd_T82 l0 x7_1).f2), .string ((rd_T82 l0 x7_1).f3), .string ((rd_T82 l0 x7_1).f4)] 82 (0, 0))) := ⟨b1_⟩
      have n1_ : Aside0 (Below w.heap.size w (((((w11.setCell ⟨gb266, 0, none⟩ (.string ((rd_T82 l0 x7_1).f0))).setCell ⟨gb266, 1, none⟩ (.bool ((rd_T82 l0 x7_1).f1))).setCell ⟨gb266, 2, none⟩ (.string ((rd_T82 l0 x7_1).f2))).setCell ⟨gb266, 3, none⟩ (.string ((rd_T82 l0 x7_1).f3))).setCell ⟨gb266, 4, none⟩ (.string ((rd_T82 l0 x7_1).f4)))) := ⟨bel1 GE266.out⟩
      (try clear BK266)
      (try clear HB)
      generalize (((((w11.setCell ⟨gb266, 0, none⟩ (.string ((rd_T82 l0 x7_1).f0))).setCell ⟨gb266, 1, none⟩ (.bool ((rd_T82 l0 x7_1).f1))).setCell ⟨gb266, 2, none⟩ (.string ((rd_T82 l0 x7_1).f2))).setCell ⟨gb266, 3, none⟩ (.string ((rd_T82 l0 x7_1).f3))).setCell ⟨gb266, 4, none⟩ (.string ((rd_T82 l0 x7_1).f4))) = w13 at n0_ n1_ ⊢
      have BK266 := n0_; have HB := n1_; clear n0_ n1_; replace BK266 := am (blk_drew BK266.out); replace HB := am (below_drew1 HB.out)
      refine st (n := 10) (S := fun w' => w'.cell? ⟨gb266, 0, none⟩ = some (.string ((rd_T82 l0 x7_1).f0)) ∧ w'.cell? ⟨gb266, 1, none⟩ = some (.bool ((rd_T82 l0 x7_1).f1)) ∧ w'.cell? ⟨gb266, 2, none⟩ = some (.string ((rd_T82 l0 x7_1).f2)) ∧ w'.cell? ⟨gb266, 3, none⟩ = some (.string ((rd_T82 l0 x7_1).f3)) ∧ w'.cell? ⟨gb266, 4, none⟩ = some (.string ((rd_T82 l0 x7_1).f4))) (ds := []) ⟨(blk_cell BK266.out 0).trans rfl, (blk_cell BK266.out 1).trans rfl, (blk_cell BK266.out 2).trans rfl, (blk_cell BK266.out 3).trans rfl, (blk_cell BK266.out 4).trans rfl⟩ (fun hHeld => ?_); refine with_tabW impl_affixesOk.tab4 impl_affixesOk.bits4 (fun HT_ HW_ => ?_)
      generalize w13.drew = w14 at BK266 HB hHeld ⊢
      refine tk5 0 12 hHeld ?_
      refine on1 1 13 (fun K hK => ?_)
      refine goes_ Tryz.func74 (by kernel_rfl) rfl #[.agg #[.string ((rd_T82 l0 x7_1).f0), .bool ((rd_T82 l0 x7_1).f1), .string ((rd_T82 l0 x7_1).f2), .string ((rd_T82 l0 x7_1).f3), .string ((rd_T82 l0 x7_1).f4)]] (by rfl) rfl rfl mq ?_
      with_reducible refine (impl_AffixOk.calls k1 ((rd_T82 l0 x7_1).f0) ((rd_T82 l0 x7_1).f1) ((rd_T82 l0 x7_1).f2) ((rd_T82 l0 x7_1).f3) ((rd_T82 l0 x7_1).f4) true _ A5.out).mono ?_
      rintro e w15 ⟨rfl, hb⟩
      refine ⟨_, rfl, ?_⟩
      replace BK266 := am (blk_below (g := gb266) (o := .cells #[.string ((rd_T82 l0 x7_1).f0), .bool ((rd_T82 l0 x7_1).f1), .string ((rd_T82 l0 x7_1).f2), .string ((rd_T82 l0 x7_1).f3), .string ((rd_T82 l0 x7_1).f4)] 82 (0, 0)) (bq BK266.out) hb); replace HB := am (below_step (bel1 GE266.out) hb)
      (try clear hb)
      (try clear hb2)
      (try clear hk)
      (try clear hi)
      have q16 : (x7_1 : Int) ≤ ((l0.length : Int) : Int) := of_decide_eq_true ad
      obtain ⟨i016, hi016, _, hsz16, _⟩ := info_parts info82
      have hroom16 : l0.length ≤ c0 := HC0.out
      have hC16 : Kd.C k82 _ (some ad265) l0.length l0 := HR0.out
      have hcut16 := cut_to (P := Tryz.prog) 29 82 .i64 Tryz.underlying29 hi016 (some ad265) l0.length c0 x7_1 (of_decide_eq_true ad) q16 hroom16
      have hr16 := Kd.C_take (m := (x7_1 : Int).toNat) hC16 (by omega)
      have hy16 : y268.length = (x7_1 : Int).toNat := (by rw [Ny268.out, List.length_take]; omega)
      rw [← Ny268.out] at hr16; rw [← hy16] at hcut16; have HR271 := am hr16
      have HC271 := am (show y268.length ≤ c0 from by omega)
      clear hr16 hC16 hroom16 hi016 hsz16; have KY16 := am hy16; clear hy16; replace q16 := eq_true q16
      refine hK.out _ _ ⟨(blk_cell BK266.out 0).trans rfl, (blk_cell BK266.out 1).trans rfl, (blk_cell BK266.out 2).trans rfl, (blk_cell BK266.out 3).trans rfl, (blk_cell BK266.out 4).trans rfl⟩ (fun hHeld => ?_)
      clear hK K
      refine norm_ (a' := ?_) ?_ ?_
      rotate_left
      ·show Act.put _ (some 13) _ = _
       simp only [Act.put, List.setIfInBounds_toArray, List.set_cons_zero, List.set_cons_succ, i64_w, i32_w]
       rfl
      refine pu 2 14 ?_
      refine pu 3 15 ?_
      refine pu 4 16 ?_
      refine pu 5 17 ?_
      refine pu 6 18 ?_
      refine tk5 7 19 hHeld ?_
      refine on1 8 20 (fun K hK => ?_)
      refine goes_ Tryz.func75 (by kernel_rfl) rfl #[.slice (some ad265) y268.length c0, .agg #[.string ((rd_T82 l0 x7_1).f0), .bool ((rd_T82 l0 x7_1).f1), .string ((rd_T82 l0 x7_1).f2), .string ((rd_T82 l0 x7_1).f3), .string ((rd_T82 l0 x7_1).f4)]] (by rfl) rfl rfl mq ?_
      with_reducible refine (impl_Affix_75.calls k1 _ _ y268 ((rd_T82 l0 x7_1).f0) ((rd_T82 l0 x7_1).f1) ((rd_T82 l0 x7_1).f2) ((rd_T82 l0 x7_1).f3) ((rd_T82 l0 x7_1).f4) true _ ?side1 ?side2 A9.out).mono ?_
      (case side1 => exact cq (Kd.C_below HR271.out HB.out)); (case side2 => exact HC271.out)
      rintro e w17 ⟨rfl, hb⟩
      refine ⟨_, rfl, ?_⟩
      replace BK266 := am (blk_below (g := gb266) (o := .cells #[.string ((rd_T82 l0 x7_1).f0), .bool ((rd_T82 l0 x7_1).f1), .string ((rd_T82 l0 x7_1).f2), .string ((rd_T82 l0 x7_1).f3), .string ((rd_T82 l0 x7_1).f4)] 82 (0, 0)) (bq BK266.out) hb); replace HB := am (below_step (bel1 GE266.out) hb)
      (try clear hb)
      (try clear hb2)
      (try clear hk)
      (try clear hi)
      refine hK.out _ _ ⟨(blk_cell BK266.out 0).trans rfl, (blk_cell BK266.out 1).trans rfl, (blk_cell BK266.out 2).trans rfl, (blk_cell BK266.out 3).trans rfl, (blk_cell BK266.out 4).trans rfl⟩ (fun hHeld => ?_)
      clear hK K
      refine norm_ (a' := ?_) ?_ ?_
      rotate_left
      ·show Act.put _ (some 20) _ = _
       simp only [Act.put, List.setIfInBounds_toArray, List.set_cons_zero, List.set_cons_succ, i64_w, i32_w]
       rfl
      refine pu 9 21 ?_
      refine done_ (done_of HT_.out (by kernel_rfl)) ?_
      try go_wp2
      go_ret
      exact ⟨eq_, bel1 GE266.out⟩
     replace c10 := Bool.eq_false_iff.mpr c10; subst c10
     have H1 : (impl_affixesOk.l0 k1 l0 l0 (l0.length : Int) (wrap64 (x7_1 + 1))) = some r := b2_
     replace H := H1; clear H1
     have H' := am H
     clear H
     have p265 : 0 ≤ (x7_1 : Int) := of_decide_eq_true ad
     have q265 : x7_1 < (l0.length : Int) := of_decide_eq_true ad
     obtain ⟨ad265, e265, hx265_0, hx265_1, hx265_2, hx265_3, hx265_4⟩ := at_T82 HR0.out x7_1 p265 q265
     cases e265
     replace hx265_0 := kp HB.out hx265_0; replace hx265_1 := kp HB.out hx265_1; replace hx265_2 := kp HB.out hx265_2; replace hx265_3 := kp HB.out hx265_3; replace hx265_4 := kp HB.out hx265_4; replace p265 := eq_true p265; replace q265 := eq_true q265
     try go_wp2_with (first | ((with_reducible refine gate_dst (N := 4) rfl ?_); refine bx 4 (cs := #[.string (⟨#[]⟩ : ByteArray), .bool false, .string (⟨#[]⟩ : ByteArray), .string (⟨#[]⟩ : ByteArray), .string (⟨#[]⟩ : ByteArray)]) (t := 82) ?_; intro gb266 hg w18 hbox hb; have BK266 := am (hbox); have GW266 := am ((b0_ : w.heap.size ≤ gb266)); have GE266 := am ((b0_ : w.heap.size ≤ gb266)); replace HB := am (below_step bel hb); clear hb hbox hg; have hcz19_0 := bc BK266.out 0; have hcz19_1 := bc BK266.out 1; have hcz19_2 := bc BK266.out 2; have hcz19_3 := bc BK266.out 3; have hcz19_4 := bc BK266.out 4; have hfz19_0 := bf BK266.out 0; have hfz19_1 := bf BK266.out 1; have hfz19_2 := bf BK266.out 2; have hfz19_3 := bf BK266.out 3; have hfz19_4 := bf BK266.out 4))
     have n0_ : Aside0 ((((((w18.setCell ⟨gb266, 0, none⟩ (.string ((rd_T82 l0 x7_1).f0))).setCell ⟨gb266, 1, none⟩ (.bool ((rd_T82 l0 x7_1).f1))).setCell ⟨gb266, 2, none⟩ (.string ((rd_T82 l0 x7_1).f2))).setCell ⟨gb266, 3, none⟩ (.string ((rd_T82 l0 x7_1).f3))).setCell ⟨gb266, 4, none⟩ (.string ((rd_T82 l0 x7_1).f4))).heap[gb266]? = some (.cells #[.string ((rd_T82 l0 x7_1).f0), .bool ((rd_T82 l0 x7_1).f1), .string ((rd_T82 l0 x7_1).f2), .string ((rd_T82 l0 x7_1).f3), .string ((rd_T82 l0 x7_1).f4)] 82 (0, 0))) := ⟨b1_⟩
     have n1_ : Aside0 (Below w.heap.size w (((((w18.setCell ⟨gb266, 0, none⟩ (.string ((rd_T82 l0 x7_1).f0))).setCell ⟨gb266, 1, none⟩ (.bool ((rd_T82 l0 x7_1).f1))).setCell ⟨gb266, 2, none⟩ (.string ((rd_T82 l0 x7_1).f2))).setCell ⟨gb266, 3, none⟩ (.string ((rd_T82 l0 x7_1).f3))).setCell ⟨gb266, 4, none⟩ (.string ((rd_T82 l0 x7_1).f4)))) := ⟨bel1 GE266.out⟩
     (try clear BK266)
     (try clear HB)
     generalize (((((w18.setCell ⟨gb266, 0, none⟩ (.string ((rd_T82 l0 x7_1).f0))).setCell ⟨gb266, 1, none⟩ (.bool ((rd_T82 l0 x7_1).f1))).setCell ⟨gb266, 2, none⟩ (.string ((rd_T82 l0 x7_1).f2))).setCell ⟨gb266, 3, none⟩ (.string ((rd_T82 l0 x7_1).f3))).setCell ⟨gb266, 4, none⟩ (.string ((rd_T82 l0 x7_1).f4))) = w20 at n0_ n1_ ⊢
     have BK266 := n0_; have HB := n1_; clear n0_ n1_; replace BK266 := am (blk_drew BK266.out); replace HB := am (below_drew1 HB.out)
     refine st (n := 10) (S := fun w' => w'.cell? ⟨gb266, 0, none⟩ = some (.string ((rd_T82 l0 x7_1).f0)) ∧ w'.cell? ⟨gb266, 1, none⟩ = some (.bool ((rd_T82 l0 x7_1).f1)) ∧ w'.cell? ⟨gb266, 2, none⟩ = some (.string ((rd_T82 l0 x7_1).f2)) ∧ w'.cell? ⟨gb266, 3, none⟩ = some (.string ((rd_T82 l0 x7_1).f3)) ∧ w'.cell? ⟨gb266, 4, none⟩ = some (.string ((rd_T82 l0 x7_1).f4))) (ds := []) ⟨(blk_cell BK266.out 0).trans rfl, (blk_cell BK266.out 1).trans rfl, (blk_cell BK266.out 2).trans rfl, (blk_cell BK266.out 3).trans rfl, (blk_cell BK266.out 4).trans rfl⟩ (fun hHeld => ?_); refine with_tabW impl_affixesOk.tab4 impl_affixesOk.bits4 (fun HT_ HW_ => ?_)
     generalize w20.drew = w21 at BK266 HB hHeld ⊢
     refine tk5 0 12 hHeld ?_
     refine on1 1 13 (fun K hK => ?_)
     refine goes_ Tryz.func74 (by kernel_rfl) rfl #[.agg #[.string ((rd_T82 l0 x7_1).f0), .bool ((rd_T82 l0 x7_1).f1), .string ((rd_T82 l0 x7_1).f2), .string ((rd_T82 l0 x7_1).f3), .string ((rd_T82 l0 x7_1).f4)]] (by rfl) rfl rfl mq ?_
     with_reducible refine (impl_AffixOk.calls k1 ((rd_T82 l0 x7_1).f0) ((rd_T82 l0 x7_1).f1) ((rd_T82 l0 x7_1).f2) ((rd_T82 l0 x7_1).f3) ((rd_T82 l0 x7_1).f4) true _ A5.out).mono ?_
     rintro e w22 ⟨rfl, hb⟩
     refine ⟨_, rfl, ?_⟩
     replace BK266 := am (blk_below (g := gb266) (o := .cells #[.string ((rd_T82 l0 x7_1).f0), .bool ((rd_T82 l0 x7_1).f1), .string ((rd_T82 l0 x7_1).f2), .string ((rd_T82 l0 x7_1).f3), .string ((rd_T82 l0 x7_1).f4)] 82 (0, 0)) (bq BK266.out) hb); replace HB := am (below_step (bel1 GE266.out) hb)
     (try clear hb)
     (try clear hb2)
     (try clear hk)
     (try clear hi)
     have q23 : (x7_1 : Int) ≤ ((l0.length : Int) : Int) := of_decide_eq_true ad
     obtain ⟨i023, hi023, _, hsz23, _⟩ := info_parts info82
     have hroom23 : l0.length ≤ c0 := HC0.out
     have hC23 : Kd.C k82 _ (some ad265) l0.length l0 := HR0.out
     have hcut23 := cut_to (P := Tryz.prog) 29 82 .i64 Tryz.underlying29 hi023 (some ad265) l0.length c0 x7_1 (of_decide_eq_true ad) q23 hroom23
     have hr23 := Kd.C_take (m := (x7_1 : Int).toNat) hC23 (by omega)
     have hy23 : y268.length = (x7_1 : Int).toNat := (by rw [Ny268.out, List.length_take]; omega)
     rw [← Ny268.out] at hr23; rw [← hy23] at hcut23; have HR271 := am hr23
     have HC271 := am (show y268.length ≤ c0 from by omega)
     clear hr23 hC23 hroom23 hi023 hsz23; have KY23 := am hy23; clear hy23; replace q23 := eq_true q23
     refine hK.out _ _ ⟨(blk_cell BK266.out 0).trans rfl, (blk_cell BK266.out 1).trans rfl, (blk_cell BK266.out 2).trans rfl, (blk_cell BK266.out 3).trans rfl, (blk_cell BK266.out 4).trans rfl⟩ (fun hHeld => ?_)
     clear hK K
     refine norm_ (a' := ?_) ?_ ?_
     rotate_left
     ·show Act.put _ (some 13) _ = _
      simp only [Act.put, List.setIfInBounds_toArray, List.set_cons_zero, List.set_cons_succ, i64_w, i32_w]
      rfl
     refine pu 2 14 ?_
     refine pu 3 15 ?_
     refine pu 4 16 ?_
     refine pu 5 17 ?_
     refine pu 6 18 ?_
     refine tk5 7 19 hHeld ?_
     refine on1 8 20 (fun K hK => ?_)
     refine goes_ Tryz.func75 (by kernel_rfl) rfl #[.slice (some ad265) y268.length c0, .agg #[.string ((rd_T82 l0 x7_1).f0), .bool ((rd_T82 l0 x7_1).f1), .string ((rd_T82 l0 x7_1).f2), .string ((rd_T82 l0 x7_1).f3), .string ((rd_T82 l0 x7_1).f4)]] (by rfl) rfl rfl mq ?_
     with_reducible refine (impl_Affix_75.calls k1 _ _ y268 ((rd_T82 l0 x7_1).f0) ((rd_T82 l0 x7_1).f1) ((rd_T82 l0 x7_1).f2) ((rd_T82 l0 x7_1).f3) ((rd_T82 l0 x7_1).f4) false _ ?side1 ?side2 A9.out).mono ?_
     (case side1 => exact cq (Kd.C_below HR271.out HB.out)); (case side2 => exact HC271.out)
     rintro e w24 ⟨rfl, hb⟩
     refine ⟨_, rfl, ?_⟩
     replace BK266 := am (blk_below (g := gb266) (o := .cells #[.string ((rd_T82 l0 x7_1).f0), .bool ((rd_T82 l0 x7_1).f1), .string ((rd_T82 l0 x7_1).f2), .string ((rd_T82 l0 x7_1).f3), .string ((rd_T82 l0 x7_1).f4)] 82 (0, 0)) (bq BK266.out) hb); replace HB := am (below_step (bel1 GE266.out) hb)
     (try clear hb)
     (try clear hb2)
     (try clear hk)
     (try clear hi)
     refine hK.out _ _ ⟨(blk_cell BK266.out 0).trans rfl, (blk_cell BK266.out 1).trans rfl, (blk_cell BK266.out 2).trans rfl, (blk_cell BK266.out 3).trans rfl, (blk_cell BK266.out 4).trans rfl⟩ (fun hHeld => ?_)
     clear hK K
     refine norm_ (a' := ?_) ?_ ?_
     rotate_left
     ·show Act.put _ (some 20) _ = _
      simp only [Act.put, List.setIfInBounds_toArray, List.set_cons_zero, List.set_cons_succ, i64_w, i32_w]
      rfl
     refine pu 9 21 ?_
     refine done_ (done_of HT_.out (by kernel_rfl)) ?_
     try go_wp2
     go_roundg k1
     case measure => have := HK1.out; omega
     case rel => exact ⟨(wrap64 (x7_1 + 1)), sq, H', ⟨b14_⟩, ⟨bel1 GE266.out⟩⟩
    replace c6 := Bool.eq_false_iff.mpr c6; subst c6
    have H1 : (some false) = some r := b2_
    replace H := H1; clear H1
    obtain rfl := Option.some.inj H
    have p265 : 0 ≤ (x7_1 : Int) := of_decide_eq_true ad
    have q265 : x7_1 < (l0.length : Int) := of_decide_eq_true ad
    obtain ⟨ad265, e265, hx265_0, hx265_1, hx265_2, hx265_3, hx265_4⟩ := at_T82 HR0.out x7_1 p265 q265
    cases e265
    replace hx265_0 := kp HB.out hx265_0; replace hx265_1 := kp HB.out hx265_1; replace hx265_2 := kp HB.out hx265_2; replace hx265_3 := kp HB.out hx265_3; replace hx265_4 := kp HB.out hx265_4; replace p265 := eq_true p265; replace q265 := eq_true q265
    try go_wp2_with (first | ((with_reducible refine gate_dst (N := 4) rfl ?_); refine bx 4 (cs := #[.string (⟨#[]⟩ : ByteArray), .bool false, .string (⟨#[]⟩ : ByteArray), .string (⟨#[]⟩ : ByteArray), .string (⟨#[]⟩ : ByteArray)]) (t := 82) ?_; intro gb266 hg w25 hbox hb; have BK266 := am (hbox); have GW266 := am ((b0_ : w.heap.size ≤ gb266)); have GE266 := am ((b0_ : w.heap.size ≤ gb266)); replace HB := am (below_step bel hb); clear hb hbox hg; have hcz26_0 := bc BK266.out 0; have hcz26_1 := bc BK266.out 1; have hcz26_2 := bc BK266.out 2; have hcz26_3 := bc BK266.out 3; have hcz26_4 := bc BK266.out 4; have hfz26_0 := bf BK266.out 0; have hfz26_1 := bf BK266.out 1; have hfz26_2 := bf BK266.out 2; have hfz26_3 := bf BK266.out 3; have hfz26_4 := bf BK266.out 4))
    have n0_ : Aside0 ((((((w25.setCell ⟨gb266, 0, none⟩ (.string ((rd_T82 l0 x7_1).f0))).setCell ⟨gb266, 1, none⟩ (.bool ((rd_T82 l0 x7_1).f1))).setCell ⟨gb266, 2, none⟩ (.string ((rd_T82 l0 x7_1).f2))).setCell ⟨gb266, 3, none⟩ (.string ((rd_T82 l0 x7_1).f3))).setCell ⟨gb266, 4, none⟩ (.string ((rd_T82 l0 x7_1).f4))).heap[gb266]? = some (.cells #[.string ((rd_T82 l0 x7_1).f0), .bool ((rd_T82 l0 x7_1).f1), .string ((rd_T82 l0 x7_1).f2), .string ((rd_T82 l0 x7_1).f3), .string ((rd_T82 l0 x7_1).f4)] 82 (0, 0))) := ⟨b1_⟩
    have n1_ : Aside0 (Below w.heap.size w (((((w25.setCell ⟨gb266, 0, none⟩ (.string ((rd_T82 l0 x7_1).f0))).setCell ⟨gb266, 1, none⟩ (.bool ((rd_T82 l0 x7_1).f1))).setCell ⟨gb266, 2, none⟩ (.string ((rd_T82 l0 x7_1).f2))).setCell ⟨gb266, 3, none⟩ (.string ((rd_T82 l0 x7_1).f3))).setCell ⟨gb266, 4, none⟩ (.string ((rd_T82 l0 x7_1).f4)))) := ⟨bel1 GE266.out⟩
    (try clear BK266)
    (try clear HB)
    generalize (((((w25.setCell ⟨gb266, 0, none⟩ (.string ((rd_T82 l0 x7_1).f0))).setCell ⟨gb266, 1, none⟩ (.bool ((rd_T82 l0 x7_1).f1))).setCell ⟨gb266, 2, none⟩ (.string ((rd_T82 l0 x7_1).f2))).setCell ⟨gb266, 3, none⟩ (.string ((rd_T82 l0 x7_1).f3))).setCell ⟨gb266, 4, none⟩ (.string ((rd_T82 l0 x7_1).f4))) = w27 at n0_ n1_ ⊢
    have BK266 := n0_; have HB := n1_; clear n0_ n1_; replace BK266 := am (blk_drew BK266.out); replace HB := am (below_drew1 HB.out)
    refine st (n := 10) (S := fun w' => w'.cell? ⟨gb266, 0, none⟩ = some (.string ((rd_T82 l0 x7_1).f0)) ∧ w'.cell? ⟨gb266, 1, none⟩ = some (.bool ((rd_T82 l0 x7_1).f1)) ∧ w'.cell? ⟨gb266, 2, none⟩ = some (.string ((rd_T82 l0 x7_1).f2)) ∧ w'.cell? ⟨gb266, 3, none⟩ = some (.string ((rd_T82 l0 x7_1).f3)) ∧ w'.cell? ⟨gb266, 4, none⟩ = some (.string ((rd_T82 l0 x7_1).f4))) (ds := []) ⟨(blk_cell BK266.out 0).trans rfl, (blk_cell BK266.out 1).trans rfl, (blk_cell BK266.out 2).trans rfl, (blk_cell BK266.out 3).trans rfl, (blk_cell BK266.out 4).trans rfl⟩ (fun hHeld => ?_); refine with_tabW impl_affixesOk.tab4 impl_affixesOk.bits4 (fun HT_ HW_ => ?_)
    generalize w27.drew = w28 at BK266 HB hHeld ⊢
    refine tk5 0 12 hHeld ?_
    refine on1 1 13 (fun K hK => ?_)
    refine goes_ Tryz.func74 (by kernel_rfl) rfl #[.agg #[.string ((rd_T82 l0 x7_1).f0), .bool ((rd_T82 l0 x7_1).f1), .string ((rd_T82 l0 x7_1).f2), .string ((rd_T82 l0 x7_1).f3), .string ((rd_T82 l0 x7_1).f4)]] (by rfl) rfl rfl mq ?_
    with_reducible refine (impl_AffixOk.calls k1 ((rd_T82 l0 x7_1).f0) ((rd_T82 l0 x7_1).f1) ((rd_T82 l0 x7_1).f2) ((rd_T82 l0 x7_1).f3) ((rd_T82 l0 x7_1).f4) false _ A5.out).mono ?_
    rintro e w29 ⟨rfl, hb⟩
    refine ⟨_, rfl, ?_⟩
    replace BK266 := am (blk_below (g := gb266) (o := .cells #[.string ((rd_T82 l0 x7_1).f0), .bool ((rd_T82 l0 x7_1).f1), .string ((rd_T82 l0 x7_1).f2), .string ((rd_T82 l0 x7_1).f3), .string ((rd_T82 l0 x7_1).f4)] 82 (0, 0)) (bq BK266.out) hb); replace HB := am (below_step (bel1 GE266.out) hb)
    (try clear hb)
    (try clear hb2)
    (try clear hk)
    (try clear hi)
    refine hK.out _ _ ⟨(blk_cell BK266.out 0).trans rfl, (blk_cell BK266.out 1).trans rfl, (blk_cell BK266.out 2).trans rfl, (blk_cell BK266.out 3).trans rfl, (blk_cell BK266.out 4).trans rfl⟩ (fun hHeld => ?_)
    clear hK K
    refine norm_ (a' := ?_) ?_ ?_
    rotate_left
    ·show Act.put _ (some 13) _ = _
     simp only [Act.put, List.setIfInBounds_toArray, List.set_cons_zero, List.set_cons_succ, i64_w, i32_w]
     rfl
    refine pu 2 14 ?_
    refine pu 3 15 ?_
    refine puu 4 16 ?_
    refine puu 5 17 ?_
    refine puu 6 18 ?_
    refine puu 7 19 ?_
    refine puu 8 20 ?_
    refine pu 9 21 ?_
    refine done_ (done_of HT_.out (by kernel_rfl)) ?_
    try go_wp2
    go_ret
    exact ⟨eq_, bel1 GE266.out⟩
   rw [if_neg c2] at H; have c2b0 := decide_eq_false c2; clear c2; obtain rfl := Option.some.inj H; go_wp2; go_ret
   exact ⟨eq_, bel⟩

/-! ### impl_within: function 111 -/
def impl_within.f (a0 : Int) (a1 : Int) (a2 : Int) : Option (Bool) := if a0 ≥ a1 then (some (decide (a0 ≤ a2))) else (some false)
theorem impl_within.calls (a0 : Int) (a1 : Int) (a2 : Int) (r : Bool) (w : World) (h : impl_within.f a0 a1 a2 = some r) :
  Calls Tryz.prog 111 #[.int .i64 a0, .int .i64 a1, .int .i64 a2] w fun e w' => e = .returned (.bool r) ∧ Drawn0 w w' := by
 have H : (if a0 ≥ a1 then (some (decide (a0 ≤ a2))) else (some false)) = some r := h
 clear h
 by_cases c4 : a0 ≥ a1
 ·rw [if_pos c4] at H; have c4b0 := decide_eq_true c4; clear c4; obtain rfl := Option.some.inj H; go_enter Tryz.func111, Tryz.ntmps111; go_wp2; go_ret
  exact ⟨sq, dr⟩
 rw [if_neg c4] at H; have c4b0 := decide_eq_false c4; clear c4; obtain rfl := Option.some.inj H; go_enter Tryz.func111, Tryz.ntmps111; go_wp2; go_ret
 exact ⟨sq, dr⟩

/-! ### impl_WordOk: function 100 -/
def impl_WordOk.f (k : Nat) (a0 : ByteArray) : Option (Bool) := (impl_within.f (a0.size : Int) 1 12).bind fun t273 => (if t273 = true then ((impl_lower.f k a0).bind fun t274 => (some t274)) else (some false))
theorem impl_WordOk.calls (k : Nat) (a0 : ByteArray) (r : Bool) (w : World) (h : impl_WordOk.f k a0 = some r) :
  Calls Tryz.prog 100 #[.string a0] w fun e w' => e = .returned (.bool r) ∧ Drawn0 w w' := by
 have H : ((impl_within.f (a0.size : Int) 1 12).bind fun t273 => (if t273 = true then ((impl_lower.f k a0).bind fun t274 => (some t274)) else (some false))) = some r := h
 clear h; replace H := bs H; obtain ⟨t273, A20, H⟩ := H; replace H : (if t273 = true then ((impl_lower.f k a0).bind fun t274 => (some t274)) else (some false)) = some r := H; have A2 := Aside0.mk A20; clear A20
 by_cases c3 : t273 = true
 ·subst c3
  have H1 : ((impl_lower.f k a0).bind fun t274 => (some t274)) = some r := b8_
  replace H := H1; clear H1
  replace H := bs H; obtain ⟨t274, A40, H⟩ := H; replace H : (some t274) = some r := H; have A4 := Aside0.mk A40; clear A40; obtain rfl := Option.some.inj H; go_enter Tryz.func100, Tryz.ntmps100
  go_wp2_with (first | ((with_reducible refine gate_callee (f := 111) rfl ?_); refine goesL_ (some 5) rfl rfl Tryz.func111 (by kernel_rfl) rfl #[.int .i64 (a0.size : Int), .int .i64 1, .int .i64 12] rfl mq ?_; (with_reducible refine (impl_within.calls (a0.size : Int) 1 12 true _ A2.out).mono ?_); rintro e w' ⟨rfl, ⟨nd, rfl⟩⟩; refine ⟨_, rfl, ?_⟩) | (go_at_call 96; (with_reducible refine (impl_lower.calls k a0 t274 _ A4.out).mono ?_); rintro e w' ⟨rfl, ⟨nd, rfl⟩⟩))
  go_ret
  exact ⟨sq, dr⟩
 replace c3 := Bool.eq_false_iff.mpr c3; subst c3
 have H1 : (some false) = some r := b2_
 replace H := H1; clear H1
 obtain rfl := Option.some.inj H; go_enter Tryz.func100, Tryz.ntmps100
 go_wp2_with (first | ((with_reducible refine gate_callee (f := 111) rfl ?_); refine goesL_ (some 5) rfl rfl Tryz.func111 (by kernel_rfl) rfl #[.int .i64 (a0.size : Int), .int .i64 1, .int .i64 12] rfl mq ?_; (with_reducible refine (impl_within.calls (a0.size : Int) 1 12 false _ A2.out).mono ?_); rintro e w' ⟨rfl, ⟨nd, rfl⟩⟩; refine ⟨_, rfl, ?_⟩))
 go_ret
 exact ⟨sq, dr⟩

/-! ### impl_entryOk: function 76 -/
def impl_entryOk.l0 : Nat → Int → Int → ByteArray → ByteArray → Option (Bool)
 | 0, _, _, _, _ => none
 | k + 1, x6, x7, x276000, x276001 => if x7 < x6 then (if 0 ≤ x7 then (if x7 < (x276001.size : Int) then ((impl_upper.f (bt x276001 x7)).bind fun t276 => (if t276 = true then (if x7 > 0 then (if 0 ≤ (wrap64 (x7 - 1)) then (if (wrap64 (x7 - 1)) < (x276001.size : Int) then (if (bt x276001 (wrap64 (x7 - 1))) ≥ (bt x276001 x7) then (some false) else (impl_entryOk.l0 k x6 (wrap64 (x7 + 1)) x276000 x276001)) else (none)) else (none)) else (impl_entryOk.l0 k x6 (wrap64 (x7 + 1)) x276000 x276001)) else (some false))) else (none)) else (none)) else ((impl_WordOk.f k x276000).bind fun t277 => (if t277 = true then (some (decide ((x276001.size : Int) ≤ 4))) else (some false)))
def impl_entryOk.f (k : Nat) (a0_0 : ByteArray) (a0_1 : ByteArray) : Option (Bool) := impl_entryOk.l0 k (a0_1.size : Int) 0 a0_0 a0_1
theorem impl_entryOk.calls (k : Nat) (a0_0 : ByteArray) (a0_1 : ByteArray) (r : Bool) (w : World) (h : impl_entryOk.f k a0_0 a0_1 = some r) :
  Calls Tryz.prog 76 #[.agg #[.string a0_0, .string a0_1]] w fun e w' => e = .returned (.bool r) ∧ Below w.heap.size w w' := by
 have hu78 := Tryz.underlying78; have HB := am (Below.refl w.heap.size w)
 have H : (impl_entryOk.l0 k (a0_1.size : Int) 0 a0_0 a0_1) = some r := h
 clear h
 have H' := am H
 clear H; go_enter Tryz.func76, Tryz.ntmps76
 go_wp2_with (first | ((with_reducible refine gate_dst (N := 1) rfl ?_); (try (refine gate_guard (by rfl) ?_; dsimp only)); refine bx 1 (cs := #[.string a0_0, .string a0_1]) (t := 78) ?_; intro gb275 hg w2 hbox hb; have BK275 := am (hbox); have GW275 := am ((b0_ : w.heap.size ≤ gb275)); have GE275 := am ((b0_ : w.heap.size ≤ gb275)); replace HB := am (below_step bel hb); clear hb hbox hg; have hcz3_0 := bc BK275.out 0; have hcz3_1 := bc BK275.out 1; have hfz3_0 := bf BK275.out 0; have hfz3_1 := bf BK275.out 1))
 repeat (go_quiet (first | ((with_reducible refine gate_dst (N := 1) rfl ?_); (try (refine gate_guard (by rfl) ?_; dsimp only)); refine bx 1 (cs := #[.string a0_0, .string a0_1]) (t := 78) ?_; intro gb275 hg w2 hbox hb; have BK275 := am (hbox); have GW275 := am ((b0_ : w.heap.size ≤ gb275)); have GE275 := am ((b0_ : w.heap.size ≤ gb275)); replace HB := am (below_step bel hb); clear hb hbox hg; have hcz3_0 := bc BK275.out 0; have hcz3_1 := bc BK275.out 1; have hfz3_0 := bf BK275.out 0; have hfz3_1 := bf BK275.out 1)); try go_wp2_with (first | ((with_reducible refine gate_dst (N := 1) rfl ?_); (try (refine gate_guard (by rfl) ?_; dsimp only)); refine bx 1 (cs := #[.string a0_0, .string a0_1]) (t := 78) ?_; intro gb275 hg w2 hbox hb; have BK275 := am (hbox); have GW275 := am ((b0_ : w.heap.size ≤ gb275)); have GE275 := am ((b0_ : w.heap.size ≤ gb275)); replace HB := am (below_step bel hb); clear hb hbox hg; have hcz3_0 := bc BK275.out 0; have hcz3_1 := bc BK275.out 1; have hfz3_0 := bf BK275.out 0; have hfz3_1 := bf BK275.out 1)))
 go_loopg [7] k (fun kq v7 w' => ∃ (x7_1 : Int), v7 = .int .i64 x7_1 ∧ Aside0 (impl_entryOk.l0 kq (a0_1.size : Int) x7_1 a0_0 a0_1 = some r) ∧ Aside0 (kq ≤ k) ∧ Aside0 (w'.heap[gb275]? = some (.cells #[.string a0_0, .string a0_1] 78 (0, 0))) ∧ Aside0 (Below w.heap.size w w'))
 case atStart => exact ⟨(0), sq, H', ⟨Nat.le_refl _⟩, ⟨bq BK275.out⟩, ⟨bel1 GE275.out⟩⟩
 case round =>
  clear H'; (try clear p2); (try clear hcz3_0); (try clear hcz3_1); (try clear hfz3_0); (try clear hfz3_1); obtain ⟨x7_1, rfl, HA, HK1, BK275, HB⟩ := hrel
  cases gk with
  | zero => exact absurd HA.out (by simp [impl_entryOk.l0])
  | succ k1 =>
   have H := HA.out; clear HA
   simp only [impl_entryOk.l0] at H
   by_cases c4 : x7_1 < (a0_1.size : Int)
   ·rw [if_pos c4] at H; have c4b0 := decide_eq_true c4; clear c4
    replace H := it H; obtain ⟨c5b0, H⟩ := H
    replace H := it H; obtain ⟨c6b0, H⟩ := H; replace H := bs H; obtain ⟨t276, A80, H⟩ := H; replace H : (if t276 = true then (if x7_1 > 0 then (if 0 ≤ (wrap64 (x7_1 - 1)) then (if (wrap64 (x7_1 - 1)) < (a0_1.size : Int) then (if (bt a0_1 (wrap64 (x7_1 - 1))) ≥ (bt a0_1 x7_1) then (some false) else (impl_entryOk.l0 k1 (a0_1.size : Int) (wrap64 (x7_1 + 1)) a0_0 a0_1)) else (none)) else (none)) else (impl_entryOk.l0 k1 (a0_1.size : Int) (wrap64 (x7_1 + 1)) a0_0 a0_1)) else (some false)) = some r := H; have A8 := Aside0.mk A80; clear A80
    by_cases c9 : t276 = true
    ·subst c9
     have H1 : (if x7_1 > 0 then (if 0 ≤ (wrap64 (x7_1 - 1)) then (if (wrap64 (x7_1 - 1)) < (a0_1.size : Int) then (if (bt a0_1 (wrap64 (x7_1 - 1))) ≥ (bt a0_1 x7_1) then (some false) else (impl_entryOk.l0 k1 (a0_1.size : Int) (wrap64 (x7_1 + 1)) a0_0 a0_1)) else (none)) else (none)) else (impl_entryOk.l0 k1 (a0_1.size : Int) (wrap64 (x7_1 + 1)) a0_0 a0_1)) = some r := b8_
     replace H := H1; clear H1
     by_cases c10 : x7_1 > 0
     ·rw [if_pos c10] at H; have c10b0 := decide_eq_true c10; clear c10; obtain ⟨ji11, hji11⟩ : ∃ j_ : Int, (wrap64 (x7_1 - 1)) = j_ := ⟨_, rfl⟩
      replace H : (if 0 ≤ (ji11) then (if (ji11) < (a0_1.size : Int) then (if (bt a0_1 (ji11)) ≥ (bt a0_1 x7_1) then (some false) else (impl_entryOk.l0 k1 (a0_1.size : Int) (wrap64 (x7_1 + 1)) a0_0 a0_1)) else (none)) else (none)) = some r := by first | (rw [hji11] at H; exact H) | (simp only [hji11] at H ⊢; exact H)
      (try rw [hji11] at A8)
      have hji11w : (IntKind.i64.wrap (x7_1 - 1)) = ji11 := (i64_w _).trans hji11
      replace H := it H; obtain ⟨c12b0, H⟩ := H
      replace H := it H; obtain ⟨c13b0, H⟩ := H
      by_cases c16 : (bt a0_1 (ji11)) ≥ (bt a0_1 x7_1)
      ·rw [if_pos c16] at H; have c16b0 := decide_eq_true c16; clear c16; obtain rfl := Option.some.inj H; have hcz17_0 := bc BK275.out 0; have hcz17_1 := bc BK275.out 1; have hfz17_0 := bf BK275.out 0; have hfz17_1 := bf BK275.out 1
       have p7 : 0 ≤ (x7_1 : Int) := of_decide_eq_true ad
       have q7 : x7_1 < (a0_1.size : Int) := of_decide_eq_true ad
       have hx7 := bt_at a0_1 x7_1; replace p7 := eq_true p7; replace q7 := eq_true q7
       try have p14 : 0 ≤ ((ji11) : Int) := of_decide_eq_true ad
       try have q14 : (ji11) < (a0_1.size : Int) := of_decide_eq_true ad
       try have hx14 := bt_at a0_1 (ji11)
       try replace p14 := eq_true p14
       try replace q14 := eq_true q14
       try have p15 : 0 ≤ (x7_1 : Int) := of_decide_eq_true ad
       try have q15 : x7_1 < (a0_1.size : Int) := of_decide_eq_true ad
       try have hx15 := bt_at a0_1 x7_1
       try replace p15 := eq_true p15
       try replace q15 := eq_true q15
       go_wp2_with (first | (go_at_call 56; (with_reducible refine (impl_upper.calls (bt a0_1 x7_1) true _ A8.out).mono ?_); rintro e w' ⟨rfl, ⟨nd, rfl⟩⟩; first | exact ⟨rfl, _, World.drewN_drewN _ _ _⟩ | exact ⟨rfl, _, Eq.trans (World.drewN_drewN _ _ _) (congrArg (World.drewN _) (Nat.add_assoc _ _ _))⟩ | (have p14 : 0 ≤ ((ji11) : Int) := of_decide_eq_true ad; have q14 : (ji11) < (a0_1.size : Int) := of_decide_eq_true ad; have hx14 := bt_at a0_1 (ji11); replace p14 := eq_true p14; replace q14 := eq_true q14; have p15 : 0 ≤ (x7_1 : Int) := of_decide_eq_true ad; have q15 : x7_1 < (a0_1.size : Int) := of_decide_eq_true ad; have hx15 := bt_at a0_1 x7_1; replace p15 := eq_true p15; replace q15 := eq_true q15)))
       repeat (go_quiet (first | (go_at_call 56; (with_reducible refine (impl_upper.calls (bt a0_1 x7_1) true _ A8.out).mono ?_); rintro e w' ⟨rfl, ⟨nd, rfl⟩⟩; first | exact ⟨rfl, _, World.drewN_drewN _ _ _⟩ | exact ⟨rfl, _, Eq.trans (World.drewN_drewN _ _ _) (congrArg (World.drewN _) (Nat.add_assoc _ _ _))⟩ | (have p14 : 0 ≤ ((ji11) : Int) := of_decide_eq_true ad; have q14 : (ji11) < (a0_1.size : Int) := of_decide_eq_true ad; have hx14 := bt_at a0_1 (ji11); replace p14 := eq_true p14; replace q14 := eq_true q14; have p15 : 0 ≤ (x7_1 : Int) := of_decide_eq_true ad; have q15 : x7_1 < (a0_1.size : Int) := of_decide_eq_true ad; have hx15 := bt_at a0_1 x7_1; replace p15 := eq_true p15; replace q15 := eq_true q15))); try go_wp2_with (first | (go_at_call 56; (with_reducible refine (impl_upper.calls (bt a0_1 x7_1) true _ A8.out).mono ?_); rintro e w' ⟨rfl, ⟨nd, rfl⟩⟩; first | exact ⟨rfl, _, World.drewN_drewN _ _ _⟩ | exact ⟨rfl, _, Eq.trans (World.drewN_drewN _ _ _) (congrArg (World.drewN _) (Nat.add_assoc _ _ _))⟩ | (have p14 : 0 ≤ ((ji11) : Int) := of_decide_eq_true ad; have q14 : (ji11) < (a0_1.size : Int) := of_decide_eq_true ad; have hx14 := bt_at a0_1 (ji11); replace p14 := eq_true p14; replace q14 := eq_true q14; have p15 : 0 ≤ (x7_1 : Int) := of_decide_eq_true ad; have q15 : x7_1 < (a0_1.size : Int) := of_decide_eq_true ad; have hx15 := bt_at a0_1 x7_1; replace p15 := eq_true p15; replace q15 := eq_true q15))))
       go_ret
       exact ⟨by first | rfl | (simp [errW_none, errW_some] <;> rfl) | (simp only [← hji11]; first | rfl | (simp [errW_none, errW_some] <;> rfl)) | (simp [*, errW_none, errW_some] <;> rfl), bel1 GE275.out⟩
      rw [if_neg c16] at H; have c16b0 := decide_eq_false c16; clear c16
      have H' := am H
      clear H; have hcz18_0 := bc BK275.out 0; have hcz18_1 := bc BK275.out 1; have hfz18_0 := bf BK275.out 0; have hfz18_1 := bf BK275.out 1
      have p7 : 0 ≤ (x7_1 : Int) := of_decide_eq_true ad
      have q7 : x7_1 < (a0_1.size : Int) := of_decide_eq_true ad
      have hx7 := bt_at a0_1 x7_1; replace p7 := eq_true p7; replace q7 := eq_true q7
      try have p14 : 0 ≤ ((ji11) : Int) := of_decide_eq_true ad
      try have q14 : (ji11) < (a0_1.size : Int) := of_decide_eq_true ad
      try have hx14 := bt_at a0_1 (ji11)
      try replace p14 := eq_true p14
      try replace q14 := eq_true q14
      try have p15 : 0 ≤ (x7_1 : Int) := of_decide_eq_true ad
      try have q15 : x7_1 < (a0_1.size : Int) := of_decide_eq_true ad
      try have hx15 := bt_at a0_1 x7_1
      try replace p15 := eq_true p15
      try replace q15 := eq_true q15
      go_wp2_with (first | (go_at_call 56; (with_reducible refine (impl_upper.calls (bt a0_1 x7_1) true _ A8.out).mono ?_); rintro e w' ⟨rfl, ⟨nd, rfl⟩⟩; first | exact ⟨rfl, _, World.drewN_drewN _ _ _⟩ | exact ⟨rfl, _, Eq.trans (World.drewN_drewN _ _ _) (congrArg (World.drewN _) (Nat.add_assoc _ _ _))⟩ | (have p14 : 0 ≤ ((ji11) : Int) := of_decide_eq_true ad; have q14 : (ji11) < (a0_1.size : Int) := of_decide_eq_true ad; have hx14 := bt_at a0_1 (ji11); replace p14 := eq_true p14; replace q14 := eq_true q14; have p15 : 0 ≤ (x7_1 : Int) := of_decide_eq_true ad; have q15 : x7_1 < (a0_1.size : Int) := of_decide_eq_true ad; have hx15 := bt_at a0_1 x7_1; replace p15 := eq_true p15; replace q15 := eq_true q15)))
      repeat (go_quiet (first | (go_at_call 56; (with_reducible refine (impl_upper.calls (bt a0_1 x7_1) true _ A8.out).mono ?_); rintro e w' ⟨rfl, ⟨nd, rfl⟩⟩; first | exact ⟨rfl, _, World.drewN_drewN _ _ _⟩ | exact ⟨rfl, _, Eq.trans (World.drewN_drewN _ _ _) (congrArg (World.drewN _) (Nat.add_assoc _ _ _))⟩ | (have p14 : 0 ≤ ((ji11) : Int) := of_decide_eq_true ad; have q14 : (ji11) < (a0_1.size : Int) := of_decide_eq_true ad; have hx14 := bt_at a0_1 (ji11); replace p14 := eq_true p14; replace q14 := eq_true q14; have p15 : 0 ≤ (x7_1 : Int) := of_decide_eq_true ad; have q15 : x7_1 < (a0_1.size : Int) := of_decide_eq_true ad; have hx15 := bt_at a0_1 x7_1; replace p15 := eq_true p15; replace q15 := eq_true q15))); try go_wp2_with (first | (go_at_call 56; (with_reducible refine (impl_upper.calls (bt a0_1 x7_1) true _ A8.out).mono ?_); rintro e w' ⟨rfl, ⟨nd, rfl⟩⟩; first | exact ⟨rfl, _, World.drewN_drewN _ _ _⟩ | exact ⟨rfl, _, Eq.trans (World.drewN_drewN _ _ _) (congrArg (World.drewN _) (Nat.add_assoc _ _ _))⟩ | (have p14 : 0 ≤ ((ji11) : Int) := of_decide_eq_true ad; have q14 : (ji11) < (a0_1.size : Int) := of_decide_eq_true ad; have hx14 := bt_at a0_1 (ji11); replace p14 := eq_true p14; replace q14 := eq_true q14; have p15 : 0 ≤ (x7_1 : Int) := of_decide_eq_true ad; have q15 : x7_1 < (a0_1.size : Int) := of_decide_eq_true ad; have hx15 := bt_at a0_1 x7_1; replace p15 := eq_true p15; replace q15 := eq_true q15))))
      go_roundg k1
      case measure => have := HK1.out; omega
      case rel => exact ⟨(wrap64 (x7_1 + 1)), sq, H', ⟨b14_⟩, ⟨bq BK275.out⟩, ⟨bel1 GE275.out⟩⟩
     rw [if_neg c10] at H; have c10b0 := decide_eq_false c10; clear c10
     have H' := am H
     clear H; have hcz19_0 := bc BK275.out 0; have hcz19_1 := bc BK275.out 1; have hfz19_0 := bf BK275.out 0; have hfz19_1 := bf BK275.out 1
     have p7 : 0 ≤ (x7_1 : Int) := of_decide_eq_true ad
     have q7 : x7_1 < (a0_1.size : Int) := of_decide_eq_true ad
     have hx7 := bt_at a0_1 x7_1; replace p7 := eq_true p7; replace q7 := eq_true q7
     go_wp2_with (first | (go_at_call 56; (with_reducible refine (impl_upper.calls (bt a0_1 x7_1) true _ A8.out).mono ?_); rintro e w' ⟨rfl, ⟨nd, rfl⟩⟩; (try first | exact ⟨rfl, _, World.drewN_drewN _ _ _⟩ | exact ⟨rfl, _, Eq.trans (World.drewN_drewN _ _ _) (congrArg (World.drewN _) (Nat.add_assoc _ _ _))⟩)))
     repeat (go_quiet (first | (go_at_call 56; (with_reducible refine (impl_upper.calls (bt a0_1 x7_1) true _ A8.out).mono ?_); rintro e w' ⟨rfl, ⟨nd, rfl⟩⟩; (try first | exact ⟨rfl, _, World.drewN_drewN _ _ _⟩ | exact ⟨rfl, _, Eq.trans (World.drewN_drewN _ _ _) (congrArg (World.drewN _) (Nat.add_assoc _ _ _))⟩))); try go_wp2_with (first | (go_at_call 56; (with_reducible refine (impl_upper.calls (bt a0_1 x7_1) true _ A8.out).mono ?_); rintro e w' ⟨rfl, ⟨nd, rfl⟩⟩; (try first | exact ⟨rfl, _, World.drewN_drewN _ _ _⟩ | exact ⟨rfl, _, Eq.trans (World.drewN_drewN _ _ _) (congrArg (World.drewN _) (Nat.add_assoc _ _ _))⟩))))
     go_roundg k1
     case measure => have := HK1.out; omega
     case rel => exact ⟨(wrap64 (x7_1 + 1)), sq, H', ⟨b14_⟩, ⟨bq BK275.out⟩, ⟨bel1 GE275.out⟩⟩
    replace c9 := Bool.eq_false_iff.mpr c9; subst c9
    have H1 : (some false) = some r := b2_
    replace H := H1; clear H1
    obtain rfl := Option.some.inj H; have hcz20_0 := bc BK275.out 0; have hcz20_1 := bc BK275.out 1; have hfz20_0 := bf BK275.out 0; have hfz20_1 := bf BK275.out 1
    have p7 : 0 ≤ (x7_1 : Int) := of_decide_eq_true ad
    have q7 : x7_1 < (a0_1.size : Int) := of_decide_eq_true ad
    have hx7 := bt_at a0_1 x7_1; replace p7 := eq_true p7; replace q7 := eq_true q7
    go_wp2_with (first | (go_at_call 56; (with_reducible refine (impl_upper.calls (bt a0_1 x7_1) false _ A8.out).mono ?_); rintro e w' ⟨rfl, ⟨nd, rfl⟩⟩; (try first | exact ⟨rfl, _, World.drewN_drewN _ _ _⟩ | exact ⟨rfl, _, Eq.trans (World.drewN_drewN _ _ _) (congrArg (World.drewN _) (Nat.add_assoc _ _ _))⟩)))
    repeat (go_quiet (first | (go_at_call 56; (with_reducible refine (impl_upper.calls (bt a0_1 x7_1) false _ A8.out).mono ?_); rintro e w' ⟨rfl, ⟨nd, rfl⟩⟩; (try first | exact ⟨rfl, _, World.drewN_drewN _ _ _⟩ | exact ⟨rfl, _, Eq.trans (World.drewN_drewN _ _ _) (congrArg (World.drewN _) (Nat.add_assoc _ _ _))⟩))); try go_wp2_with (first | (go_at_call 56; (with_reducible refine (impl_upper.calls (bt a0_1 x7_1) false _ A8.out).mono ?_); rintro e w' ⟨rfl, ⟨nd, rfl⟩⟩; (try first | exact ⟨rfl, _, World.drewN_drewN _ _ _⟩ | exact ⟨rfl, _, Eq.trans (World.drewN_drewN _ _ _) (congrArg (World.drewN _) (Nat.add_assoc _ _ _))⟩))))
    go_ret
    exact ⟨eq_, bel1 GE275.out⟩
   rw [if_neg c4] at H; have c4b0 := decide_eq_false c4; clear c4; replace H := bs H; obtain ⟨t277, A210, H⟩ := H; replace H : (if t277 = true then (some (decide ((a0_1.size : Int) ≤ 4))) else (some false)) = some r := H; have A21 := Aside0.mk A210; clear A210
   by_cases c22 : t277 = true
   ·subst c22
    have H1 : (some (decide ((a0_1.size : Int) ≤ 4))) = some r := b8_
    replace H := H1; clear H1
    obtain rfl := Option.some.inj H; have hcz23_0 := bc BK275.out 0; have hcz23_1 := bc BK275.out 1; have hfz23_0 := bf BK275.out 0; have hfz23_1 := bf BK275.out 1
    go_wp2_with (first | (go_at_call 100; (with_reducible refine (impl_WordOk.calls k1 a0_0 true _ A21.out).mono ?_); rintro e w' ⟨rfl, ⟨nd, rfl⟩⟩; (try first | exact ⟨rfl, _, World.drewN_drewN _ _ _⟩ | exact ⟨rfl, _, Eq.trans (World.drewN_drewN _ _ _) (congrArg (World.drewN _) (Nat.add_assoc _ _ _))⟩)))
    repeat (go_quiet (first | (go_at_call 100; (with_reducible refine (impl_WordOk.calls k1 a0_0 true _ A21.out).mono ?_); rintro e w' ⟨rfl, ⟨nd, rfl⟩⟩; (try first | exact ⟨rfl, _, World.drewN_drewN _ _ _⟩ | exact ⟨rfl, _, Eq.trans (World.drewN_drewN _ _ _) (congrArg (World.drewN _) (Nat.add_assoc _ _ _))⟩))); try go_wp2_with (first | (go_at_call 100; (with_reducible refine (impl_WordOk.calls k1 a0_0 true _ A21.out).mono ?_); rintro e w' ⟨rfl, ⟨nd, rfl⟩⟩; (try first | exact ⟨rfl, _, World.drewN_drewN _ _ _⟩ | exact ⟨rfl, _, Eq.trans (World.drewN_drewN _ _ _) (congrArg (World.drewN _) (Nat.add_assoc _ _ _))⟩))))
    go_ret
    exact ⟨eq_, bel1 GE275.out⟩
   replace c22 := Bool.eq_false_iff.mpr c22; subst c22
   have H1 : (some false) = some r := b2_
   replace H := H1; clear H1
   obtain rfl := Option.some.inj H; have hcz24_0 := bc BK275.out 0; have hcz24_1 := bc BK275.out 1; have hfz24_0 := bf BK275.out 0; have hfz24_1 := bf BK275.out 1
   go_wp2_with (first | (go_at_call 100; (with_reducible refine (impl_WordOk.calls k1 a0_0 false _ A21.out).mono ?_); rintro e w' ⟨rfl, ⟨nd, rfl⟩⟩; (try first | exact ⟨rfl, _, World.drewN_drewN _ _ _⟩ | exact ⟨rfl, _, Eq.trans (World.drewN_drewN _ _ _) (congrArg (World.drewN _) (Nat.add_assoc _ _ _))⟩)))
   repeat (go_quiet (first | (go_at_call 100; (with_reducible refine (impl_WordOk.calls k1 a0_0 false _ A21.out).mono ?_); rintro e w' ⟨rfl, ⟨nd, rfl⟩⟩; (try first | exact ⟨rfl, _, World.drewN_drewN _ _ _⟩ | exact ⟨rfl, _, Eq.trans (World.drewN_drewN _ _ _) (congrArg (World.drewN _) (Nat.add_assoc _ _ _))⟩))); try go_wp2_with (first | (go_at_call 100; (with_reducible refine (impl_WordOk.calls k1 a0_0 false _ A21.out).mono ?_); rintro e w' ⟨rfl, ⟨nd, rfl⟩⟩; (try first | exact ⟨rfl, _, World.drewN_drewN _ _ _⟩ | exact ⟨rfl, _, Eq.trans (World.drewN_drewN _ _ _) (congrArg (World.drewN _) (Nat.add_assoc _ _ _))⟩))))
   go_ret
   exact ⟨eq_, bel1 GE275.out⟩
-- shrunk

/-! ### impl_entriesOk: function 53 -/
def impl_entriesOk.l0 : Nat → List (S78) → List (S78) → Int → Int → Option (Bool)
 | 0, _, _, _, _ => none
 | k + 1, x0, x5, x6, x7 => if x7 < x6 then (if 0 ≤ x7 then (if x7 < (x5.length : Int) then ((impl_entryOk.f k ((rd_T78 x5 x7).f0) ((rd_T78 x5 x7).f1)).bind fun t280 => (if t280 = true then (if x7 > 0 then (if 0 ≤ (wrap64 (x7 - 1)) then (if (wrap64 (x7 - 1)) < (x0.length : Int) then (if ((Op.bytesLess (((rd_T78 x0 (wrap64 (x7 - 1))).f0).toList) (((rd_T78 x5 x7).f0).toList)) = true) then (impl_entriesOk.l0 k x0 x5 x6 (wrap64 (x7 + 1))) else (some false)) else (none)) else (none)) else (impl_entriesOk.l0 k x0 x5 x6 (wrap64 (x7 + 1)))) else (some false))) else (none)) else (none)) else (some (decide ((x0.length : Int) ≤ 24)))
def impl_entriesOk.f (k : Nat) (l0 : List (S78)) : Option (Bool) := impl_entriesOk.l0 k l0 l0 (l0.length : Int) 0
def impl_entriesOk.T4 : Bool × List (List Nat × List Nat) := (true, [([], []), ([0], [0]), ([1], [1]), ([2, 1], [2]), ([3], [3]), ([4, 3], [3, 4]), ([5, 3, 3], [3, 5]), ([6], [6]), ([6], [6]), ([8, 6], [6, 8]), ([7, 9, 6], [6, 7, 9]), ([10, 6], [6, 10]), ([11, 6], [6, 11]), ([6], [6]), ([13, 6], [6, 13]), ([12, 14, 6], [6, 12, 14]), ([6, 15, 3], [3, 6, 15]), ([3, 16], [3, 16])])
def impl_entriesOk.B4 : List Nat := [0, 1, 3, 7, 15, 31, 63, 127, 127, 383, 1023, 2047, 4095, 127, 8319, 32767, 65535, 131071]
theorem impl_entriesOk.tab4 : rtab .any (opsOf Tryz.f53 4) = impl_entriesOk.T4 := by kernel_rfl
theorem impl_entriesOk.bits4 : waitsOk impl_entriesOk.T4.2 impl_entriesOk.B4 = true := by kernel_rfl
theorem impl_entriesOk.calls (k : Nat) (A0 : Option Addr) (c0 : Nat) (l0 : List (S78)) (r : Bool) (w : World) (hr0 : Kd.C k78 w A0 l0.length l0) (hc0 : l0.length ≤ c0) (h : impl_entriesOk.f k l0 = some r) :
  Calls Tryz.prog 53 #[.slice A0 l0.length c0] w fun e w' => e = .returned (.bool r) ∧ Below w.heap.size w w' := by
 have hu78 := Tryz.underlying78; have HR0 := am hr0; have HC0 := am hc0; clear hr0 hc0; have HB := am (Below.refl w.heap.size w)
 have H : (impl_entriesOk.l0 k l0 l0 (l0.length : Int) 0) = some r := h
 clear h
 have H' := am H
 clear H; go_enter Tryz.func53, Tryz.ntmps53; go_wp2
 go_loopg [7] k (fun kq v7 w' => ∃ (x7_1 : Int), v7 = .int .i64 x7_1 ∧ Aside0 (impl_entriesOk.l0 kq l0 l0 (l0.length : Int) x7_1 = some r) ∧ Aside0 (kq ≤ k) ∧ Aside0 (Below w.heap.size w w'))
 case atStart => exact ⟨(0), sq, H', ⟨Nat.le_refl _⟩, ⟨bel⟩⟩
 case round =>
  clear H'; obtain ⟨x7_1, rfl, HA, HK1, HB⟩ := hrel
  cases gk with
  | zero => exact absurd HA.out (by simp [impl_entriesOk.l0])
  | succ k1 =>
   have H := HA.out; clear HA
   simp only [impl_entriesOk.l0] at H
   by_cases c2 : x7_1 < (l0.length : Int)
   ·rw [if_pos c2] at H; have c2b0 := decide_eq_true c2; clear c2
    replace H := it H; obtain ⟨c3b0, H⟩ := H
    replace H := it H; obtain ⟨c4b0, H⟩ := H; replace H := bs H; obtain ⟨t280, A50, H⟩ := H; replace H : (if t280 = true then (if x7_1 > 0 then (if 0 ≤ (wrap64 (x7_1 - 1)) then (if (wrap64 (x7_1 - 1)) < (l0.length : Int) then (if ((Op.bytesLess (((rd_T78 l0 (wrap64 (x7_1 - 1))).f0).toList) (((rd_T78 l0 x7_1).f0).toList)) = true) then (impl_entriesOk.l0 k1 l0 l0 (l0.length : Int) (wrap64 (x7_1 + 1))) else (some false)) else (none)) else (none)) else (impl_entriesOk.l0 k1 l0 l0 (l0.length : Int) (wrap64 (x7_1 + 1)))) else (some false)) = some r := H; have A5 := Aside0.mk A50; clear A50
    by_cases c6 : t280 = true
    ·subst c6
     have H1 : (if x7_1 > 0 then (if 0 ≤ (wrap64 (x7_1 - 1)) then (if (wrap64 (x7_1 - 1)) < (l0.length : Int) then (if ((Op.bytesLess (((rd_T78 l0 (wrap64 (x7_1 - 1))).f0).toList) (((rd_T78 l0 x7_1).f0).toList)) = true) then (impl_entriesOk.l0 k1 l0 l0 (l0.length : Int) (wrap64 (x7_1 + 1))) else (some false)) else (none)) else (none)) else (impl_entriesOk.l0 k1 l0 l0 (l0.length : Int) (wrap64 (x7_1 + 1)))) = some r := b8_
     replace H := H1; clear H1
     by_cases c7 : x7_1 > 0
     ·rw [if_pos c7] at H; have c7b0 := decide_eq_true c7; clear c7; obtain ⟨ji8, hji8⟩ : ∃ j_ : Int, (wrap64 (x7_1 - 1)) = j_ := ⟨_, rfl⟩
      replace H : (if 0 ≤ (ji8) then (if (ji8) < (l0.length : Int) then (if ((Op.bytesLess (((rd_T78 l0 (ji8)).f0).toList) (((rd_T78 l0 x7_1).f0).toList)) = true) then (impl_entriesOk.l0 k1 l0 l0 (l0.length : Int) (wrap64 (x7_1 + 1))) else (some false)) else (none)) else (none)) = some r := by first | (rw [hji8] at H; exact H) | (simp only [hji8] at H ⊢; exact H)
      (try rw [hji8] at A5)
      have hji8w : (IntKind.i64.wrap (x7_1 - 1)) = ji8 := (i64_w _).trans hji8
      replace H := it H; obtain ⟨c9b0, H⟩ := H
      replace H := it H; obtain ⟨c10b0, H⟩ := H
      by_cases c11 : ((Op.bytesLess (((rd_T78 l0 (ji8)).f0).toList) (((rd_T78 l0 x7_1).f0).toList)) = true)
      ·rw [if_pos c11] at H
       have c11b0 : (Op.bytesLess (((rd_T78 l0 (ji8)).f0).toList) (((rd_T78 l0 x7_1).f0).toList)) = true := c11
       clear c11
       have H' := am H
       clear H
       have p278 : 0 ≤ (x7_1 : Int) := of_decide_eq_true ad
       have q278 : x7_1 < (l0.length : Int) := of_decide_eq_true ad
       obtain ⟨ad278, e278, hx278_0, hx278_1⟩ := at_T78 HR0.out x7_1 p278 q278
       cases e278
       replace hx278_0 := kp HB.out hx278_0; replace hx278_1 := kp HB.out hx278_1; replace p278 := eq_true p278; replace q278 := eq_true q278
       try go_wp2_with (first | ((with_reducible refine gate_dst (N := 4) rfl ?_); refine bx 4 (cs := #[.string (⟨#[]⟩ : ByteArray), .string (⟨#[]⟩ : ByteArray)]) (t := 78) ?_; intro gb279 hg w12 hbox hb; have BK279 := am (hbox); have GW279 := am ((b0_ : w.heap.size ≤ gb279)); have GE279 := am ((b0_ : w.heap.size ≤ gb279)); replace HB := am (below_step bel hb); clear hb hbox hg; have hcz13_0 := bc BK279.out 0; have hcz13_1 := bc BK279.out 1; have hfz13_0 := bf BK279.out 0; have hfz13_1 := bf BK279.out 1))
       have n0_ : Aside0 (((w12.setCell ⟨gb279, 0, none⟩ (.string ((rd_T78 l0 x7_1).f0))).setCell ⟨gb279, 1, none⟩ (.string ((rd_T78 l0 x7_1).f1))).heap[gb279]? = some (.cells #[.string ((rd_T78 l0 x7_1).f0), .string ((rd_T78 l0 x7_1).f1)] 78 (0, 0))) := ⟨b6_⟩
       have n1_ : Aside0 (Below w.heap.size w ((w12.setCell ⟨gb279, 0, none⟩ (.string ((rd_T78 l0 x7_1).f0))).setCell ⟨gb279, 1, none⟩ (.string ((rd_T78 l0 x7_1).f1)))) := ⟨bel1 GE279.out⟩
       (try clear BK279)
       (try clear HB)
       generalize ((w12.setCell ⟨gb279, 0, none⟩ (.string ((rd_T78 l0 x7_1).f0))).setCell ⟨gb279, 1, none⟩ (.string ((rd_T78 l0 x7_1).f1))) = w14 at n0_ n1_ ⊢
       have BK279 := n0_; have HB := n1_; clear n0_ n1_; replace BK279 := am (blk_drew BK279.out); replace HB := am (below_drew1 HB.out)
       have p281 : 0 ≤ ((ji8) : Int) := of_decide_eq_true ad
       have q281 : (ji8) < (l0.length : Int) := of_decide_eq_true ad
       obtain ⟨ad281, e281, hx281_0, hx281_1⟩ := at_T78 HR0.out (ji8) p281 q281; have hw281_1 := hx281_1; have hw281_0 := hx281_0
       obtain rfl : ad278 = ad281 := (by injection e281)
       replace hx281_0 := kp HB.out hx281_0; replace hx281_1 := kp HB.out hx281_1; replace p281 := eq_true p281; replace q281 := eq_true q281
       refine st (n := 18) (S := fun w' => w'.cell? ⟨gb279, 0, none⟩ = some (.string ((rd_T78 l0 x7_1).f0)) ∧ w'.cell? ⟨gb279, 1, none⟩ = some (.string ((rd_T78 l0 x7_1).f1)) ∧ w'.cell? (ad278.add (((ji8)).toNat * 2)) = some (.string ((rd_T78 l0 (ji8)).f0)) ∧ w'.cell? ⟨(ad278.add (((ji8)).toNat * 2)).block, (ad278.add (((ji8)).toNat * 2)).off + 1, none⟩ = some (.string ((rd_T78 l0 (ji8)).f1))) (ds := []) ⟨(blk_cell BK279.out 0).trans rfl, (blk_cell BK279.out 1).trans rfl, (kp HB.out hw281_0), (kp HB.out hw281_1)⟩ (fun hHeld => ?_); refine with_tabW impl_entriesOk.tab4 impl_entriesOk.bits4 (fun HT_ HW_ => ?_)
       generalize w14.drew = w15 at BK279 HB hx281_0 hx281_1 hHeld ⊢
       refine tk4 0 12 hHeld ?_
       refine on1 1 13 (fun K hK => ?_)
       refine goes_ Tryz.func76 (by kernel_rfl) rfl #[.agg #[.string ((rd_T78 l0 x7_1).f0), .string ((rd_T78 l0 x7_1).f1)]] (by rfl) rfl rfl mq ?_
       with_reducible refine (impl_entryOk.calls k1 ((rd_T78 l0 x7_1).f0) ((rd_T78 l0 x7_1).f1) true _ A5.out).mono ?_
       rintro e w16 ⟨rfl, hb⟩
       refine ⟨_, rfl, ?_⟩
       replace BK279 := am (blk_below (g := gb279) (o := .cells #[.string ((rd_T78 l0 x7_1).f0), .string ((rd_T78 l0 x7_1).f1)] 78 (0, 0)) (bq BK279.out) hb); replace HB := am (below_step (bel1 GE279.out) hb)
       (try clear hb)
       (try clear hb2)
       (try clear hk)
       (try clear hi)
       refine hK.out _ _ ⟨(blk_cell BK279.out 0).trans rfl, (blk_cell BK279.out 1).trans rfl, (kp HB.out hw281_0), (kp HB.out hw281_1)⟩ (fun hHeld => ?_)
       clear hK K
       refine norm_ (a' := ?_) ?_ ?_
       rotate_left
       ·show Act.put _ (some 13) _ = _
        simp only [Act.put, List.setIfInBounds_toArray, List.set_cons_zero, List.set_cons_succ, i64_w, i32_w]
        rfl
       refine pu 2 14 ?_
       refine pu 3 15 ?_
       refine pu 4 16 ?_
       refine pu 5 17 ?_
       refine pu 6 18 ?_
       refine pu 7 19 ?_
       refine pu 8 20 ?_
       refine pu 9 21 ?_
       refine pu 10 22 ?_
       refine pu 11 23 ?_
       refine pu 13 25 ?_
       refine tk4 12 24 hHeld ?_
       refine tk4 14 26 hHeld ?_
       refine pu 15 27 ?_
       refine pu 16 28 ?_
       refine pu 17 29 ?_
       refine done_ (done_of HT_.out (by kernel_rfl)) ?_
       try go_wp2
       go_roundg k1
       case measure => have := HK1.out; omega
       case rel => exact ⟨(wrap64 (x7_1 + 1)), sq, H', ⟨b14_⟩, ⟨bel1 GE279.out⟩⟩
      rw [if_neg c11] at H
      have c11b0 : (Op.bytesLess (((rd_T78 l0 (ji8)).f0).toList) (((rd_T78 l0 x7_1).f0).toList)) = false := by simpa using c11
      clear c11; obtain rfl := Option.some.inj H
      have p278 : 0 ≤ (x7_1 : Int) := of_decide_eq_true ad
      have q278 : x7_1 < (l0.length : Int) := of_decide_eq_true ad
      obtain ⟨ad278, e278, hx278_0, hx278_1⟩ := at_T78 HR0.out x7_1 p278 q278
      cases e278
      replace hx278_0 := kp HB.out hx278_0; replace hx278_1 := kp HB.out hx278_1; replace p278 := eq_true p278; replace q278 := eq_true q278
      try go_wp2_with (first | ((with_reducible refine gate_dst (N := 4) rfl ?_); refine bx 4 (cs := #[.string (⟨#[]⟩ : ByteArray), .string (⟨#[]⟩ : ByteArray)]) (t := 78) ?_; intro gb279 hg w17 hbox hb; have BK279 := am (hbox); have GW279 := am ((b0_ : w.heap.size ≤ gb279)); have GE279 := am ((b0_ : w.heap.size ≤ gb279)); replace HB := am (below_step bel hb); clear hb hbox hg; have hcz18_0 := bc BK279.out 0; have hcz18_1 := bc BK279.out 1; have hfz18_0 := bf BK279.out 0; have hfz18_1 := bf BK279.out 1))
      have n0_ : Aside0 (((w17.setCell ⟨gb279, 0, none⟩ (.string ((rd_T78 l0 x7_1).f0))).setCell ⟨gb279, 1, none⟩ (.string ((rd_T78 l0 x7_1).f1))).heap[gb279]? = some (.cells #[.string ((rd_T78 l0 x7_1).f0), .string ((rd_T78 l0 x7_1).f1)] 78 (0, 0))) := ⟨b6_⟩
      have n1_ : Aside0 (Below w.heap.size w ((w17.setCell ⟨gb279, 0, none⟩ (.string ((rd_T78 l0 x7_1).f0))).setCell ⟨gb279, 1, none⟩ (.string ((rd_T78 l0 x7_1).f1)))) := ⟨bel1 GE279.out⟩
      (try clear BK279)
      (try clear HB)
      generalize ((w17.setCell ⟨gb279, 0, none⟩ (.string ((rd_T78 l0 x7_1).f0))).setCell ⟨gb279, 1, none⟩ (.string ((rd_T78 l0 x7_1).f1))) = w19 at n0_ n1_ ⊢
      have BK279 := n0_; have HB := n1_; clear n0_ n1_; replace BK279 := am (blk_drew BK279.out); replace HB := am (below_drew1 HB.out)
      have p281 : 0 ≤ ((ji8) : Int) := of_decide_eq_true ad
      have q281 : (ji8) < (l0.length : Int) := of_decide_eq_true ad
      obtain ⟨ad281, e281, hx281_0, hx281_1⟩ := at_T78 HR0.out (ji8) p281 q281; have hw281_1 := hx281_1; have hw281_0 := hx281_0
      obtain rfl : ad278 = ad281 := (by injection e281)
      replace hx281_0 := kp HB.out hx281_0; replace hx281_1 := kp HB.out hx281_1; replace p281 := eq_true p281; replace q281 := eq_true q281
      refine st (n := 18) (S := fun w' => w'.cell? ⟨gb279, 0, none⟩ = some (.string ((rd_T78 l0 x7_1).f0)) ∧ w'.cell? ⟨gb279, 1, none⟩ = some (.string ((rd_T78 l0 x7_1).f1)) ∧ w'.cell? (ad278.add (((ji8)).toNat * 2)) = some (.string ((rd_T78 l0 (ji8)).f0)) ∧ w'.cell? ⟨(ad278.add (((ji8)).toNat * 2)).block, (ad278.add (((ji8)).toNat * 2)).off + 1, none⟩ = some (.string ((rd_T78 l0 (ji8)).f1))) (ds := []) ⟨(blk_cell BK279.out 0).trans rfl, (blk_cell BK279.out 1).trans rfl, (kp HB.out hw281_0), (kp HB.out hw281_1)⟩ (fun hHeld => ?_); refine with_tabW impl_entriesOk.tab4 impl_entriesOk.bits4 (fun HT_ HW_ => ?_)
      generalize w19.drew = w20 at BK279 HB hx281_0 hx281_1 hHeld ⊢
      refine tk4 0 12 hHeld ?_
      refine on1 1 13 (fun K hK => ?_)
      refine goes_ Tryz.func76 (by kernel_rfl) rfl #[.agg #[.string ((rd_T78 l0 x7_1).f0), .string ((rd_T78 l0 x7_1).f1)]] (by rfl) rfl rfl mq ?_
      with_reducible refine (impl_entryOk.calls k1 ((rd_T78 l0 x7_1).f0) ((rd_T78 l0 x7_1).f1) true _ A5.out).mono ?_
      rintro e w21 ⟨rfl, hb⟩
      refine ⟨_, rfl, ?_⟩
      replace BK279 := am (blk_below (g := gb279) (o := .cells #[.string ((rd_T78 l0 x7_1).f0), .string ((rd_T78 l0 x7_1).f1)] 78 (0, 0)) (bq BK279.out) hb); replace HB := am (below_step (bel1 GE279.out) hb)
      (try clear hb)
      (try clear hb2)
      (try clear hk)
      (try clear hi)
      refine hK.out _ _ ⟨(blk_cell BK279.out 0).trans rfl, (blk_cell BK279.out 1).trans rfl, (kp HB.out hw281_0), (kp HB.out hw281_1)⟩ (fun hHeld => ?_)
      clear hK K
      refine norm_ (a' := ?_) ?_ ?_
      rotate_left
      ·show Act.put _ (some 13) _ = _
       simp only [Act.put, List.setIfInBounds_toArray, List.set_cons_zero, List.set_cons_succ, i64_w, i32_w]
       rfl
      refine pu 2 14 ?_
      refine pu 3 15 ?_
      refine pu 4 16 ?_
      refine pu 5 17 ?_
      refine pu 6 18 ?_
      refine pu 7 19 ?_
      refine pu 8 20 ?_
      refine pu 9 21 ?_
      refine pu 10 22 ?_
      refine pu 11 23 ?_
      refine pu 13 25 ?_
      refine tk4 12 24 hHeld ?_
      refine tk4 14 26 hHeld ?_
      refine pu 15 27 ?_
      refine pu 16 28 ?_
      refine pu 17 29 ?_
      refine done_ (done_of HT_.out (by kernel_rfl)) ?_
      try go_wp2
      go_ret
      exact ⟨b29_, bel1 GE279.out⟩
     rw [if_neg c7] at H; have c7b0 := decide_eq_false c7; clear c7
     have H' := am H
     clear H
     have p278 : 0 ≤ (x7_1 : Int) := of_decide_eq_true ad
     have q278 : x7_1 < (l0.length : Int) := of_decide_eq_true ad
     obtain ⟨ad278, e278, hx278_0, hx278_1⟩ := at_T78 HR0.out x7_1 p278 q278
     cases e278
     replace hx278_0 := kp HB.out hx278_0; replace hx278_1 := kp HB.out hx278_1; replace p278 := eq_true p278; replace q278 := eq_true q278
     try go_wp2_with (first | ((with_reducible refine gate_dst (N := 4) rfl ?_); refine bx 4 (cs := #[.string (⟨#[]⟩ : ByteArray), .string (⟨#[]⟩ : ByteArray)]) (t := 78) ?_; intro gb279 hg w22 hbox hb; have BK279 := am (hbox); have GW279 := am ((b0_ : w.heap.size ≤ gb279)); have GE279 := am ((b0_ : w.heap.size ≤ gb279)); replace HB := am (below_step bel hb); clear hb hbox hg; have hcz23_0 := bc BK279.out 0; have hcz23_1 := bc BK279.out 1; have hfz23_0 := bf BK279.out 0; have hfz23_1 := bf BK279.out 1))
     have n0_ : Aside0 (((w22.setCell ⟨gb279, 0, none⟩ (.string ((rd_T78 l0 x7_1).f0))).setCell ⟨gb279, 1, none⟩ (.string ((rd_T78 l0 x7_1).f1))).heap[gb279]? = some (.cells #[.string ((rd_T78 l0 x7_1).f0), .string ((rd_T78 l0 x7_1).f1)] 78 (0, 0))) := ⟨b6_⟩
     have n1_ : Aside0 (Below w.heap.size w ((w22.setCell ⟨gb279, 0, none⟩ (.string ((rd_T78 l0 x7_1).f0))).setCell ⟨gb279, 1, none⟩ (.string ((rd_T78 l0 x7_1).f1)))) := ⟨bel1 GE279.out⟩
     (try clear BK279)
     (try clear HB)
     generalize ((w22.setCell ⟨gb279, 0, none⟩ (.string ((rd_T78 l0 x7_1).f0))).setCell ⟨gb279, 1, none⟩ (.string ((rd_T78 l0 x7_1).f1))) = w24 at n0_ n1_ ⊢
     have BK279 := n0_; have HB := n1_; clear n0_ n1_; replace BK279 := am (blk_drew BK279.out); replace HB := am (below_drew1 HB.out)
     refine st (n := 18) (S := fun w' => w'.cell? ⟨gb279, 0, none⟩ = some (.string ((rd_T78 l0 x7_1).f0)) ∧ w'.cell? ⟨gb279, 1, none⟩ = some (.string ((rd_T78 l0 x7_1).f1))) (ds := []) ⟨(blk_cell BK279.out 0).trans rfl, (blk_cell BK279.out 1).trans rfl⟩ (fun hHeld => ?_); refine with_tabW impl_entriesOk.tab4 impl_entriesOk.bits4 (fun HT_ HW_ => ?_)
     generalize w24.drew = w25 at BK279 HB hHeld ⊢
     refine tk2 0 12 hHeld ?_
     refine on1 1 13 (fun K hK => ?_)
     refine goes_ Tryz.func76 (by kernel_rfl) rfl #[.agg #[.string ((rd_T78 l0 x7_1).f0), .string ((rd_T78 l0 x7_1).f1)]] (by rfl) rfl rfl mq ?_
     with_reducible refine (impl_entryOk.calls k1 ((rd_T78 l0 x7_1).f0) ((rd_T78 l0 x7_1).f1) true _ A5.out).mono ?_
     rintro e w26 ⟨rfl, hb⟩
     refine ⟨_, rfl, ?_⟩
     replace BK279 := am (blk_below (g := gb279) (o := .cells #[.string ((rd_T78 l0 x7_1).f0), .string ((rd_T78 l0 x7_1).f1)] 78 (0, 0)) (bq BK279.out) hb); replace HB := am (below_step (bel1 GE279.out) hb)
     (try clear hb)
     (try clear hb2)
     (try clear hk)
     (try clear hi)
     refine hK.out _ _ ⟨(blk_cell BK279.out 0).trans rfl, (blk_cell BK279.out 1).trans rfl⟩ (fun hHeld => ?_)
     clear hK K
     refine norm_ (a' := ?_) ?_ ?_
     rotate_left
     ·show Act.put _ (some 13) _ = _
      simp only [Act.put, List.setIfInBounds_toArray, List.set_cons_zero, List.set_cons_succ, i64_w, i32_w]
      rfl
     refine pu 2 14 ?_
     refine pu 3 15 ?_
     refine pu 4 16 ?_
     refine pu 5 17 ?_
     refine pu 6 18 ?_
     refine puu 7 19 ?_
     refine puu 8 20 ?_
     refine puu 9 21 ?_
     refine puu 10 22 ?_
     refine puu 11 23 ?_
     refine puu 12 24 ?_
     refine puu 13 25 ?_
     refine puu 14 26 ?_
     refine puu 15 27 ?_
     refine pu 16 28 ?_
     refine pu 17 29 ?_
     refine done_ (done_of HT_.out (by kernel_rfl)) ?_
     try go_wp2
     go_roundg k1
     case measure => have := HK1.out; omega
     case rel => exact ⟨(wrap64 (x7_1 + 1)), sq, H', ⟨b14_⟩, ⟨bel1 GE279.out⟩⟩
    replace c6 := Bool.eq_false_iff.mpr c6; subst c6
    have H1 : (some false) = some r := b2_
    replace H := H1; clear H1
    obtain rfl := Option.some.inj H
    have p278 : 0 ≤ (x7_1 : Int) := of_decide_eq_true ad
    have q278 : x7_1 < (l0.length : Int) := of_decide_eq_true ad
    obtain ⟨ad278, e278, hx278_0, hx278_1⟩ := at_T78 HR0.out x7_1 p278 q278
    cases e278
    replace hx278_0 := kp HB.out hx278_0; replace hx278_1 := kp HB.out hx278_1; replace p278 := eq_true p278; replace q278 := eq_true q278
    try go_wp2_with (first | ((with_reducible refine gate_dst (N := 4) rfl ?_); refine bx 4 (cs := #[.string (⟨#[]⟩ : ByteArray), .string (⟨#[]⟩ : ByteArray)]) (t := 78) ?_; intro gb279 hg w27 hbox hb; have BK279 := am (hbox); have GW279 := am ((b0_ : w.heap.size ≤ gb279)); have GE279 := am ((b0_ : w.heap.size ≤ gb279)); replace HB := am (below_step bel hb); clear hb hbox hg; have hcz28_0 := bc BK279.out 0; have hcz28_1 := bc BK279.out 1; have hfz28_0 := bf BK279.out 0; have hfz28_1 := bf BK279.out 1))
    have n0_ : Aside0 (((w27.setCell ⟨gb279, 0, none⟩ (.string ((rd_T78 l0 x7_1).f0))).setCell ⟨gb279, 1, none⟩ (.string ((rd_T78 l0 x7_1).f1))).heap[gb279]? = some (.cells #[.string ((rd_T78 l0 x7_1).f0), .string ((rd_T78 l0 x7_1).f1)] 78 (0, 0))) := ⟨b6_⟩
    have n1_ : Aside0 (Below w.heap.size w ((w27.setCell ⟨gb279, 0, none⟩ (.string ((rd_T78 l0 x7_1).f0))).setCell ⟨gb279, 1, none⟩ (.string ((rd_T78 l0 x7_1).f1)))) := ⟨bel1 GE279.out⟩
    (try clear BK279)
    (try clear HB)
    generalize ((w27.setCell ⟨gb279, 0, none⟩ (.string ((rd_T78 l0 x7_1).f0))).setCell ⟨gb279, 1, none⟩ (.string ((rd_T78 l0 x7_1).f1))) = w29 at n0_ n1_ ⊢
    have BK279 := n0_; have HB := n1_; clear n0_ n1_; replace BK279 := am (blk_drew BK279.out); replace HB := am (below_drew1 HB.out)
    refine st (n := 18) (S := fun w' => w'.cell? ⟨gb279, 0, none⟩ = some (.string ((rd_T78 l0 x7_1).f0)) ∧ w'.cell? ⟨gb279, 1, none⟩ = some (.string ((rd_T78 l0 x7_1).f1))) (ds := []) ⟨(blk_cell BK279.out 0).trans rfl, (blk_cell BK279.out 1).trans rfl⟩ (fun hHeld => ?_); refine with_tabW impl_entriesOk.tab4 impl_entriesOk.bits4 (fun HT_ HW_ => ?_)
    generalize w29.drew = w30 at BK279 HB hHeld ⊢
    refine tk2 0 12 hHeld ?_
    refine on1 1 13 (fun K hK => ?_)
    refine goes_ Tryz.func76 (by kernel_rfl) rfl #[.agg #[.string ((rd_T78 l0 x7_1).f0), .string ((rd_T78 l0 x7_1).f1)]] (by rfl) rfl rfl mq ?_
    with_reducible refine (impl_entryOk.calls k1 ((rd_T78 l0 x7_1).f0) ((rd_T78 l0 x7_1).f1) false _ A5.out).mono ?_
    rintro e w31 ⟨rfl, hb⟩
    refine ⟨_, rfl, ?_⟩
    replace BK279 := am (blk_below (g := gb279) (o := .cells #[.string ((rd_T78 l0 x7_1).f0), .string ((rd_T78 l0 x7_1).f1)] 78 (0, 0)) (bq BK279.out) hb); replace HB := am (below_step (bel1 GE279.out) hb)
    (try clear hb)
    (try clear hb2)
    (try clear hk)
    (try clear hi)
    refine hK.out _ _ ⟨(blk_cell BK279.out 0).trans rfl, (blk_cell BK279.out 1).trans rfl⟩ (fun hHeld => ?_)
    clear hK K
    refine norm_ (a' := ?_) ?_ ?_
    rotate_left
    ·show Act.put _ (some 13) _ = _
     simp only [Act.put, List.setIfInBounds_toArray, List.set_cons_zero, List.set_cons_succ, i64_w, i32_w]
     rfl
    refine pu 2 14 ?_
    refine pu 3 15 ?_
    refine puu 4 16 ?_
    refine puu 5 17 ?_
    refine puu 6 18 ?_
    refine puu 7 19 ?_
    refine puu 8 20 ?_
    refine puu 9 21 ?_
    refine puu 10 22 ?_
    refine puu 11 23 ?_
    refine puu 12 24 ?_
    refine puu 13 25 ?_
    refine puu 14 26 ?_
    refine puu 15 27 ?_
    refine puu 16 28 ?_
    refine pu 17 29 ?_
    refine done_ (done_of HT_.out (by kernel_rfl)) ?_
    try go_wp2
    go_ret
    exact ⟨eq_, bel1 GE279.out⟩
   rw [if_neg c2] at H; have c2b0 := decide_eq_false c2; clear c2; obtain rfl := Option.some.inj H; go_wp2; go_ret
   exact ⟨eq_, bel⟩

/-! ### impl_BookOk: function 26 -/
def impl_BookOk.f (k : Nat) (l0_0 : List (S82)) (l0_1 : List (S78)) : Option (Bool) := (impl_affixesOk.f k l0_0).bind fun t283 => (if t283 = true then ((impl_entriesOk.f k l0_1).bind fun t284 => (some t284)) else (some false))
theorem impl_BookOk.calls (k : Nat) (A0_0 : Option Addr) (c0_0 : Nat) (l0_0 : List (S82)) (A0_1 : Option Addr) (c0_1 : Nat) (l0_1 : List (S78)) (r : Bool) (w : World) (hr0_0 : Kd.C k82 w A0_0 l0_0.length l0_0) (hc0_0 : l0_0.length ≤ c0_0) (hr0_1 : Kd.C k78 w A0_1 l0_1.length l0_1) (hc0_1 : l0_1.length ≤ c0_1) (h : impl_BookOk.f k l0_0 l0_1 = some r) :
  Calls Tryz.prog 26 #[.agg #[.slice A0_0 l0_0.length c0_0, .slice A0_1 l0_1.length c0_1]] w fun e w' => e = .returned (.bool r) ∧ Below w.heap.size w w' := by
 have hu32 := Tryz.underlying32; have HR0_0 := am hr0_0; have HC0_0 := am hc0_0; clear hr0_0 hc0_0; have HR0_1 := am hr0_1; have HC0_1 := am hc0_1; clear hr0_1 hc0_1; have HB := am (Below.refl w.heap.size w)
 have H : ((impl_affixesOk.f k l0_0).bind fun t283 => (if t283 = true then ((impl_entriesOk.f k l0_1).bind fun t284 => (some t284)) else (some false))) = some r := h
 clear h; replace H := bs H; obtain ⟨t283, A20, H⟩ := H; replace H : (if t283 = true then ((impl_entriesOk.f k l0_1).bind fun t284 => (some t284)) else (some false)) = some r := H; have A2 := Aside0.mk A20; clear A20
 by_cases c3 : t283 = true
 ·subst c3
  have H1 : ((impl_entriesOk.f k l0_1).bind fun t284 => (some t284)) = some r := b8_
  replace H := H1; clear H1
  replace H := bs H; obtain ⟨t284, A40, H⟩ := H; replace H : (some t284) = some r := H; have A4 := Aside0.mk A40; clear A40; obtain rfl := Option.some.inj H; go_enter Tryz.func26, Tryz.ntmps26
  go_wp2_with (first | ((with_reducible refine gate_dst (N := 1) rfl ?_); refine bx 1 (cs := #[.slice A0_0 l0_0.length c0_0, .slice A0_1 l0_1.length c0_1]) (t := 32) ?_; intro gb282 hg w5 hbox hb; have BK282 := am (hbox); have GW282 := am ((b0_ : w.heap.size ≤ gb282)); have GE282 := am ((b0_ : w.heap.size ≤ gb282)); replace HB := am (below_step bel hb); clear hb hbox hg; have hcz6_0 := bc BK282.out 0; have hcz6_1 := bc BK282.out 1; have hfz6_0 := bf BK282.out 0; have hfz6_1 := bf BK282.out 1) | ((with_reducible refine gate_callee (f := 52) rfl ?_); refine goesL_ (some 5) rfl rfl Tryz.func52 (by kernel_rfl) rfl #[.slice A0_0 l0_0.length c0_0] rfl mq ?_; (with_reducible refine (impl_affixesOk.calls k _ _ l0_0 true _ ?side1 ?side2 A2.out).mono ?_); (case side1 => exact cq (Kd.C_below HR0_0.out HB.out)); (case side2 => exact HC0_0.out); rintro e w7 ⟨rfl, hb⟩; refine ⟨_, rfl, ?_⟩; replace BK282 := am (blk_below (g := gb282) (o := .cells #[.slice A0_0 l0_0.length c0_0, .slice A0_1 l0_1.length c0_1] 32 (0, 0)) (bq BK282.out) hb); replace HB := am (below_step (bel1 GE282.out) hb); (try clear hb); (try clear hb2); (try clear hk); (try clear hi); have hcz8_0 := bc BK282.out 0; have hcz8_1 := bc BK282.out 1; have hfz8_0 := bf BK282.out 0; have hfz8_1 := bf BK282.out 1) | (go_at_call 53; (with_reducible refine (impl_entriesOk.calls k _ _ l0_1 t284 _ ?side1 ?side2 A4.out).mono ?_); (case side1 => exact cq (Kd.C_below HR0_1.out HB.out)); (case side2 => exact HC0_1.out); rintro e w9 ⟨rfl, hb⟩; replace BK282 := am (blk_below (g := gb282) (o := .cells #[.slice A0_0 l0_0.length c0_0, .slice A0_1 l0_1.length c0_1] 32 (0, 0)) (bq BK282.out) hb); replace HB := am (below_step (bel1 GE282.out) hb); (try clear hb); (try clear hb2); (try clear hk); (try clear hi)))
  go_ret
  exact ⟨eq_, bel1 GE282.out⟩
 replace c3 := Bool.eq_false_iff.mpr c3; subst c3
 have H1 : (some false) = some r := b2_
 replace H := H1; clear H1
 obtain rfl := Option.some.inj H; go_enter Tryz.func26, Tryz.ntmps26
 go_wp2_with (first | ((with_reducible refine gate_dst (N := 1) rfl ?_); refine bx 1 (cs := #[.slice A0_0 l0_0.length c0_0, .slice A0_1 l0_1.length c0_1]) (t := 32) ?_; intro gb282 hg w10 hbox hb; have BK282 := am (hbox); have GW282 := am ((b0_ : w.heap.size ≤ gb282)); have GE282 := am ((b0_ : w.heap.size ≤ gb282)); replace HB := am (below_step bel hb); clear hb hbox hg; have hcz11_0 := bc BK282.out 0; have hcz11_1 := bc BK282.out 1; have hfz11_0 := bf BK282.out 0; have hfz11_1 := bf BK282.out 1) | ((with_reducible refine gate_callee (f := 52) rfl ?_); refine goesL_ (some 5) rfl rfl Tryz.func52 (by kernel_rfl) rfl #[.slice A0_0 l0_0.length c0_0] rfl mq ?_; (with_reducible refine (impl_affixesOk.calls k _ _ l0_0 false _ ?side1 ?side2 A2.out).mono ?_); (case side1 => exact cq (Kd.C_below HR0_0.out HB.out)); (case side2 => exact HC0_0.out); rintro e w12 ⟨rfl, hb⟩; refine ⟨_, rfl, ?_⟩; replace BK282 := am (blk_below (g := gb282) (o := .cells #[.slice A0_0 l0_0.length c0_0, .slice A0_1 l0_1.length c0_1] 32 (0, 0)) (bq BK282.out) hb); replace HB := am (below_step (bel1 GE282.out) hb); (try clear hb); (try clear hb2); (try clear hk); (try clear hi)))
 go_ret
 exact ⟨eq_, bel1 GE282.out⟩
-- shrunk

/-! ### impl_sorted: function 55 -/
/-- A list in ascending order, each once. -/
def impl_sorted.f (l0 : List ByteArray) : Option (List ByteArray) := if l0.length ≤ 1000000000 then some (M.setL l0) else none
def impl_sorted.ba (l : List UInt8) : ByteArray := ⟨l.toArray⟩
theorem impl_sorted.encs_ba (ss : List (List UInt8)) : encs Value.string (ss.map impl_sorted.ba) = ss.map encStr := by
 unfold encs
 rw [List.map_map]
 rfl
theorem impl_sorted.own {W : World} {base : Nat} {v : Value} {ss : List (List UInt8)} (h : Kd.R Kd.string 9 W base (fun _ => True) v (ss.map impl_sorted.ba)) : W.ownsRow base 9 1 v ss.length (ss.map encStr) := by
 have := Kd.own_of_R h
 rw [impl_sorted.encs_ba, List.length_map] at this
 exact this
theorem impl_sorted.row {W : World} {base : Nat} {v : Value} {ss : List (List UInt8)} (h : W.ownsRow base 9 1 v ss.length (ss.map encStr)) : Kd.R Kd.string 9 W base (fun _ => True) v (ss.map impl_sorted.ba) :=
 Kd.R_of_own (by rw [impl_sorted.encs_ba, List.length_map]; exact h) (fun _ _ => trivial)
theorem impl_sorted.holds {w : World} {base : Nat} {g n cap : Nat} {zs : List (List UInt8)} (h : w.ownsRow base 9 1 (.slice (some ⟨g, 0, none⟩) n cap) n (zs.map encStr)) :
  base ≤ g ∧ g < w.heap.size ∧ n ≤ cap ∧ zs.length = n ∧ Sort.Holds encStr w g 0 zs.toArray := by
 obtain ⟨g', cap', e, h1, h2, h3, _, h5, h6⟩ := Go.Lib.holds_of_ownsRow h (by intro e; cases e)
 cases e
 exact ⟨h1, h2, h3, h5, h6⟩
set_option maxHeartbeats 1000000 in
theorem impl_sorted.sort {w0 W : World} {base : Nat} {v : Value} {ss : List (List UInt8)} (h : Kd.R Kd.string 9 W base (fun _ => True) v (ss.map impl_sorted.ba)) (hB : Below base w0 W) (hbase : base ≤ W.heap.size) (hl : ss.length ≤ 1000000000) :
  Calls Tryz.prog 79 #[v] W fun e w' => e = .returned (.tuple #[]) ∧ Kd.R Kd.string 9 w' base (fun _ => True) v ((ss.mergeSort M.leU).map impl_sorted.ba) ∧ Below base w0 w' ∧ base ≤ w'.heap.size := by
 have ho := impl_sorted.own h
 rcases ho.2 with ⟨rfl, h0⟩ | ⟨g, cap, cur, rfl, hb, hg, h1, h2, h3, h4⟩
 ·have e0 : ss = [] := List.length_eq_zero_iff.1 h0
  subst e0
  have := Any.slices_Sort_string_none Try.laySort none 0 W
  change Calls Tryz.prog 79 _ _ _ at this
  refine this.mono ?_
  rintro e w' ⟨he, rfl⟩
  exact ⟨he, by simpa using h, hB, hbase⟩
 ·obtain ⟨hbg, hgl, hc, _, hH⟩ := impl_sorted.holds ho
  have := Any.slices_Sort_string Try.laySort g 0 cap ss W hH hgl (by omega)
  change Calls Tryz.prog 79 _ _ _ at this
  refine this.mono ?_
  rintro e w' ⟨he, n, os, rfl⟩
  have hl2 : (ss.mergeSort M.leU).length = ss.length := List.length_mergeSort ss
  have hs := ownsRow_sorted (n := n) (os := os) (ts := ss.mergeSort M.leU) hl2 hb hg h1 h2 h3; rw [← hl2] at hs
  refine ⟨he, ?_, ?_, ?_⟩
  ·have := impl_sorted.row hs
   rw [hl2] at this
   exact this
  ·exact hB.grown (grownBy_sorted _) hbase (fun j hj => by cases hj; exact hbg)
  ·exact Nat.le_trans hbase (grownBy_sorted (w := W) (g := g) (n := n) (os := os) (ss.mergeSort M.leU).toArray).size
set_option maxHeartbeats 1000000 in
theorem impl_sorted.compact {w0 W : World} {base : Nat} {v : Value} {ss : List (List UInt8)} (h : Kd.R Kd.string 9 W base (fun _ => True) v (ss.map impl_sorted.ba)) (hB : Below base w0 W) (hbase : base ≤ W.heap.size) (hl : ss.length ≤ 1000000000) :
  Calls Tryz.prog 80 #[v] W fun e w' => ∃ A c, e = .returned (.slice A (Go.Lib.compact ss).length c) ∧ Kd.R Kd.string 9 w' base (fun _ => True) (.slice A (Go.Lib.compact ss).length c) ((Go.Lib.compact ss).map impl_sorted.ba) ∧ Below base w0 w' ∧ W.grownBy w' v.ownBlock := by
 have ho := impl_sorted.own h
 rcases ho.2 with ⟨rfl, h0⟩ | ⟨g, cap, cur, rfl, hb, hg, h1, h2, h3, h4⟩
 ·have e0 : ss = [] := List.length_eq_zero_iff.1 h0
  subst e0
  have := Any.slices_Compact_string_empty Try.layCompact none 0 W
  change Calls Tryz.prog 80 _ _ _ at this
  refine this.mono ?_
  rintro e w' ⟨he, rfl⟩
  exact ⟨none, 0, he, h, hB, ⟨rfl, rfl, rfl, Nat.le_refl _, fun _ _ _ => rfl⟩⟩
 ·obtain ⟨hbg, hgl, hc, _, hH⟩ := impl_sorted.holds ho
  have := Any.slices_Compact_string Try.layCompact g 0 cap ss W hH (by omega) h1
  change Calls Tryz.prog 80 _ _ _ at this
  refine this.mono ?_
  rintro e w' ⟨he, q, rfl⟩
  have hle := Go.Lib.compact_length_le ss
  have hc2 := Go.Lib.ownsRow_putRow (q := q) (k := (Go.Lib.compact ss).length) (ys := Go.Lib.compact ss ++ List.replicate (ss.length - (Go.Lib.compact ss).length) []) ho (by simp; omega) (by omega)
  rw [List.take_left] at hc2
  refine ⟨_, _, he, impl_sorted.row hc2, Go.Lib.below_putRow hB hbg, rfl, rfl, rfl, by simp [Sort.putRow, Sort.mapBlock, Sort.ahead], fun k hk hne => ?_⟩
  have : g ≠ k := fun e => hne (by rw [← e]; rfl)
  simp [Sort.putRow, Sort.mapBlock, Sort.ahead, Array.getElem?_modify, this]
theorem impl_sorted.apart {W W1 : World} {base : Nat} {v v9 : Value} {xs : List ByteArray} (h : Kd.R Kd.string 9 W base (fun _ => True) v xs) (h9 : Kd.R Kd.string 9 W1 base (fun _ => True) v9 []) (hn : ∃ b, v9.ownBlock = some b ∧ W.heap.size ≤ b) :
  Kd.R Kd.string 9 W1 base (fun k => some k ≠ v.ownBlock) v9 [] := by
 refine Kd.R_of_own (Kd.own_of_R h9) (fun k hk => ?_)
 obtain ⟨b, hb, hle⟩ := hn; rw [hb] at hk
 cases hk
 intro e
 rcases (Kd.own_of_R h).2 with ⟨rfl, _⟩ | ⟨g, cap, cur, rfl, hbg, hg, _⟩
 ·simp [Value.ownBlock] at e
 ·have e2 : k = g := by simpa [Value.ownBlock] using e
  have := (Array.getElem?_eq_some_iff.1 hg).1
  omega
theorem impl_sorted.ba_of (l : List ByteArray) : (l.map (·.data.toList)).map impl_sorted.ba = l := by
 rw [List.map_map]
 conv => rhs; rw [← List.map_id l]
 exact List.map_congr_left (fun x _ => M.ba_of x)
theorem impl_sorted.compactL {w0 W : World} {base : Nat} {v : Value} {l : List ByteArray} (h : Kd.R Kd.string 9 W base (fun _ => True) v (((l.map (·.data.toList)).mergeSort M.leU).map impl_sorted.ba)) (hB : Below base w0 W) (hbase : base ≤ W.heap.size) (hl : l.length ≤ 1000000000) :
  Calls Tryz.prog 80 #[v] W fun e w' => ∃ A c, e = .returned (.slice A (M.setL l).length c) ∧ Kd.R Kd.string 9 w' base (fun _ => True) (.slice A (M.setL l).length c) (M.setL l) ∧ Below base w0 w' ∧ W.grownBy w' v.ownBlock := by
 have := impl_sorted.compact (w0 := w0) h hB hbase (by rw [List.length_mergeSort, List.length_map]; exact hl)
 rw [M.sorted_eq, List.length_map, impl_sorted.ba_of] at this
 exact this

set_option maxHeartbeats 4000000 in
set_option maxRecDepth 100000 in
theorem impl_sorted.calls (A0 : Option Addr) (c0 : Nat) (l0 : List ByteArray) (r : List ByteArray) (w : World) (hr0 : Kd.C Kd.string w A0 l0.length l0) (hc0 : l0.length ≤ c0) (h : impl_sorted.f l0 = some r) :
  Calls Tryz.prog 55 #[.slice A0 l0.length c0] w fun e w' => ∃ v0_ : Value, e = .returned (v0_) ∧ Kd.R Kd.string 9 w' w.heap.size (fun _ => True) v0_ r ∧ Below w.heap.size w w' := by
 unfold impl_sorted.f at h
 split at h
 case isFalse => cases h
 rename_i hsz; obtain rfl := Option.some.inj h; clear h; have hsl := M.setL_length l0; have HR := am hr0; clear hr0; go_enter Tryz.func55, Tryz.ntmps55
 go_wp2_with (first
  | ((with_reducible refine gate_dst (N := 4) rfl ?_); refine Kd.R_lit Kd.string w.heap.size 9 ?hg (N := 4) ?hd (xs := ([] : List ByteArray)) (inner := []) (ok := fun _ => True) (okp := fun _ => True) ?hr ?hp (fun _ hk => hk) trivial (Below.refl _ _) (Nat.le_refl _) (by simp) ?_; (case hd => rfl); (case hg => rfl); (case hr => first | (go_simp; done) | (go_simp; rfl)); (case hp => exact (Reps.none _ _)); intro v4 w1 ho hb hg_ hnew_; have HO4 := am ho; have HB1 := am hb; clear ho hb hg_ hnew_)
  | ((with_reducible refine gate_builtin (b := .append) (xs := #[.tmp 4, .tmp 5]) rfl ?_); at_builtin; refine Kd.R_append_row Value.string (⟨#[]⟩ : ByteArray) (h1 := fun _ => rfl) (w0 := w) w.heap.size rfl (.tmp 4) (.tmp 5) 49 9 (.string ⟨#[]⟩) 16 rfl Tryz.underlying49 info9 rfl (by decide) v4 [] l0 A0 l0.length c0 (fun _ => True) rfl rfl (fun _ _ => trivial) HO4.out (Kd.C_below HR.out HB1.out) HB1.out (below_size HB1.out) (by simp; omega) ?_; intro v6 w2 ho hb hg_ hat_; rw [List.nil_append] at ho; have HO6 := am ho; have HB2 := am hb; clear ho hb hg_ hat_ HO4 HB1)
  | (go_at_call 79; refine (impl_sorted.sort (w0 := w) (base := w.heap.size) (ss := l0.map (·.data.toList)) (by rw [impl_sorted.ba_of]; exact HO6.out) HB2.out (below_size HB2.out) (by simpa using hsz)).mono ?_; rintro e w3 ⟨rfl, hR3, hB3, hs3⟩; have HO7 := am hR3; have HB3 := am hB3; clear hR3 hB3 hs3 HO6 HB2)
  | ((with_reducible refine gate_dst (N := 9) rfl ?_); refine Kd.R_lit Kd.string w.heap.size 9 ?hg (N := 9) ?hd (xs := ([] : List ByteArray)) (inner := []) (ok := fun _ => True) (okp := fun _ => True) ?hr ?hp (fun _ hk => hk) trivial HB3.out (below_size HB3.out) (by simp) ?_; (case hd => rfl); (case hg => rfl); (case hr => first | (go_simp; done) | (go_simp; rfl)); (case hp => exact (Reps.none _ _)); intro v9 w4 ho hb hg_ hnew_; have HO8 := am (Kd.R_mono (Kd.R_grown HO7.out hg_ (fun _ _ h => by cases h)) (fun _ _ => trivial)); have HO9 := am (impl_sorted.apart HO7.out ho hnew_); have HB4 := am hb; clear ho hb hg_ hnew_ HO7 HB3)
  | (go_at_call 80; refine (impl_sorted.compactL (w0 := w) (base := w.heap.size) HO8.out HB4.out (below_size HB4.out) hsz).mono ?_; rintro e w5 ⟨A5, c5, rfl, hR5, hB5, hg5⟩; have HO5 := am hR5; have HO9' := am (Kd.R_mono (Kd.R_grown HO9.out hg5 (fun _ h => h)) (fun _ _ => trivial)); have HB5 := am hB5; clear hR5 hB5 hg5 HO8 HO9 HB4)
  | ((with_reducible refine gate_builtin (b := .append) (xs := #[.tmp 9, .tmp 11]) rfl ?_); at_builtin; refine Kd.R_append_row Value.string (⟨#[]⟩ : ByteArray) (h1 := fun _ => rfl) (w0 := w) w.heap.size rfl (.tmp 9) (.tmp 11) 49 9 (.string ⟨#[]⟩) 16 rfl Tryz.underlying49 info9 rfl (by decide) v9 [] (M.setL l0) A5 (M.setL l0).length c5 (fun _ => True) rfl rfl (fun _ _ => trivial) HO9'.out (Kd.R_reads' HO5.out).2.2 HB5.out (below_size HB5.out) (by simp; omega) ?_; intro v12 w6 ho hb hg_ hat_; rw [List.nil_append] at ho; have HO12 := am ho; have HB6 := am hb; clear ho hb hg_ hat_ HO9' HB5))
 go_ret
 exact ⟨v12, rfl, HO12.out, HB6.out⟩

/-! ### strings_Contains: function 77 -/
/-- Contains, of a text of one byte. -/
def strings_Contains.f (a0 : ByteArray) (a1 : ByteArray) : Option Bool := if a1.size = 1 then some (a0.data.toList.contains (a1.data.toList.headD 0)) else none
theorem strings_Contains.index (s : List UInt8) (c : UInt8) : decide (0 ≤ Go.Lib.indexByte s c) = s.contains c := by
 have h1 : ∀ s : List UInt8, -1 ≤ Go.Lib.indexByte s c := by
  intro s
  induction s with
  | nil => simp [Go.Lib.indexByte]
  | cons b l ih =>
   unfold Go.Lib.indexByte
   split
   ·omega
   ·split <;> omega
 induction s with
 | nil => simp [Go.Lib.indexByte]
 | cons b l ih =>
  unfold Go.Lib.indexByte
  rw [List.contains_cons]
  by_cases e : b = c
  ·subst e
   simp
  ·have e2 : (b == c) = false := by simpa using e
   have e3 : (c == b) = false := by simpa using fun h => e h.symm
   rw [e2, e3, Bool.false_or, ← ih]
   have := h1 l
   simp only [Bool.false_eq_true, if_false, beq_iff_eq]
   rw [decide_eq_decide]
   split <;> omega
theorem strings_Contains.calls (a0 : ByteArray) (a1 : ByteArray) (r : Bool) (w : World) (h : strings_Contains.f a0 a1 = some r) :
  Calls Tryz.prog 77 #[.string a0, .string a1] w fun e w' => e = .returned (.bool r) ∧ Drawn0 w w' := by
 unfold strings_Contains.f at h
 split at h
 case isFalse => cases h
 rename_i hs; obtain rfl := Option.some.inj h; obtain ⟨⟨l⟩⟩ := a1
 match l, hs with
 | [c], _ =>
  have := Any.strings_Contains_one Try.layHas a0 c w
  change Calls Tryz.prog 77 _ _ _ at this
  refine this.mono ?_
  rintro e w' ⟨he, rfl⟩
  refine ⟨?_, 0, rfl⟩
  rw [he, strings_Contains.index]
  rfl

/-! ### impl_AffixDo: function 78 -/
def impl_AffixDo.j0 : Nat → ByteArray → Bool → ByteArray → Bool → ByteArray → ByteArray → ByteArray → Option (ByteArray × Bool)
 | 0, _, _, _, _, _, _, _ => none
 | k + 1, x1, x14, x286000, x286001, x286002, x286003, x286004 => if x14 = true then (some ((⟨#[]⟩ : ByteArray), false)) else (if x286001 = true then ((strings_HasPrefix.f x1 x286004).bind fun t288 => (if t288 = true then (if 0 ≤ (x286002.size : Int) then (if (x286002.size : Int) ≤ (x1.size : Int) then (if x286003.size + (x1.extract x286002.size x1.size).size ≤ 9223372036854775807 then ((impl_WordOk.f k (x286003 ++ (x1.extract x286002.size x1.size))).bind fun t289 => (if t289 = true then (some (x286003 ++ (x1.extract x286002.size x1.size), true)) else (some ((⟨#[]⟩ : ByteArray), false)))) else (none)) else (none)) else (none)) else (some ((⟨#[]⟩ : ByteArray), false)))) else ((strings_HasSuffix.f x1 x286004).bind fun t290 => (if t290 = true then (if 0 ≤ (wrap64 ((x1.size : Int) - (x286002.size : Int))) then (if (wrap64 ((x1.size : Int) - (x286002.size : Int))) ≤ (x1.size : Int) then (if (x1.extract 0 ((wrap64 ((x1.size : Int) - (x286002.size : Int))) : Int).toNat).size + x286003.size ≤ 9223372036854775807 then ((impl_WordOk.f k ((x1.extract 0 ((wrap64 ((x1.size : Int) - (x286002.size : Int))) : Int).toNat) ++ x286003)).bind fun t291 => (if t291 = true then (some ((x1.extract 0 ((wrap64 ((x1.size : Int) - (x286002.size : Int))) : Int).toNat) ++ x286003, true)) else (some ((⟨#[]⟩ : ByteArray), false)))) else (none)) else (none)) else (none)) else (some ((⟨#[]⟩ : ByteArray), false)))))
def impl_AffixDo.f (k : Nat) (a0_0 : ByteArray) (a0_1 : Bool) (a0_2 : ByteArray) (a0_3 : ByteArray) (a0_4 : ByteArray) (a1 : ByteArray) : Option (ByteArray × Bool) := (impl_AffixOk.f k a0_0 a0_1 a0_2 a0_3 a0_4).bind fun t286 => (if t286 = true then ((impl_WordOk.f k a1).bind fun t287 => (impl_AffixDo.j0 k a1 (!t287) a0_0 a0_1 a0_2 a0_3 a0_4)) else (impl_AffixDo.j0 k a1 true a0_0 a0_1 a0_2 a0_3 a0_4))
theorem impl_AffixDo.calls (k : Nat) (a0_0 : ByteArray) (a0_1 : Bool) (a0_2 : ByteArray) (a0_3 : ByteArray) (a0_4 : ByteArray) (a1 : ByteArray) (r1 : ByteArray) (r2 : Bool) (w : World) (h : impl_AffixDo.f k a0_0 a0_1 a0_2 a0_3 a0_4 a1 = some (r1, r2)) :
  Calls Tryz.prog 78 #[.agg #[.string a0_0, .bool a0_1, .string a0_2, .string a0_3, .string a0_4], .string a1] w fun e w' => e = .returned (.tuple #[.string r1, .bool r2]) ∧ Below w.heap.size w w' := by
 have hu82 := Tryz.underlying82; have HB := am (Below.refl w.heap.size w)
 have H : ((impl_AffixOk.f k a0_0 a0_1 a0_2 a0_3 a0_4).bind fun t286 => (if t286 = true then ((impl_WordOk.f k a1).bind fun t287 => (impl_AffixDo.j0 k a1 (!t287) a0_0 a0_1 a0_2 a0_3 a0_4)) else (impl_AffixDo.j0 k a1 true a0_0 a0_1 a0_2 a0_3 a0_4))) = some (r1, r2) := h
 clear h; have HC3 := am H; clear H; go_enter Tryz.func78, Tryz.ntmps78
 go_upto_region 1 with (first | ((with_reducible refine gate_dst (N := 2) rfl ?_); refine bx 2 (cs := #[.string a0_0, .bool a0_1, .string a0_2, .string a0_3, .string a0_4]) (t := 82) ?_; intro gb285 hg w4 hbox hb; have BK285 := am (hbox); have GW285 := am ((b0_ : w.heap.size ≤ gb285)); have GE285 := am ((b0_ : w.heap.size ≤ gb285)); replace HB := am (below_step bel hb); clear hb hbox hg))
 repeat (go_quiet (first | ((with_reducible refine gate_dst (N := 2) rfl ?_); refine bx 2 (cs := #[.string a0_0, .bool a0_1, .string a0_2, .string a0_3, .string a0_4]) (t := 82) ?_; intro gb285 hg w4 hbox hb; have BK285 := am (hbox); have GW285 := am ((b0_ : w.heap.size ≤ gb285)); have GE285 := am ((b0_ : w.heap.size ≤ gb285)); replace HB := am (below_step bel hb); clear hb hbox hg)); go_upto_region 1 with (first | ((with_reducible refine gate_dst (N := 2) rfl ?_); refine bx 2 (cs := #[.string a0_0, .bool a0_1, .string a0_2, .string a0_3, .string a0_4]) (t := 82) ?_; intro gb285 hg w4 hbox hb; have BK285 := am (hbox); have GW285 := am ((b0_ : w.heap.size ≤ gb285)); have GE285 := am ((b0_ : w.heap.size ≤ gb285)); replace HB := am (below_step bel hb); clear hb hbox hg)))
 (try simp only [Act.put, List.setIfInBounds_toArray, List.set_cons_zero, List.set_cons_succ])
 go_cut [14] (fun v14 wc => ∃ (kq : Nat) (x14_2 : Bool), v14 = .bool x14_2 ∧ Aside0 (impl_AffixDo.j0 kq a1 x14_2 a0_0 a0_1 a0_2 a0_3 a0_4 = some (r1, r2)) ∧ Aside0 (kq ≤ k) ∧ Aside0 (wc.heap[gb285]? = some (.cells #[.string a0_0, .bool a0_1, .string a0_2, .string a0_3, .string a0_4] 82 (0, 0))) ∧ Aside0 (Below w.heap.size w wc))
 case first =>
  have H := HC3.out; clear HC3; replace H := bs H; obtain ⟨t286, A50, H⟩ := H; replace H : (if t286 = true then ((impl_WordOk.f k a1).bind fun t287 => (impl_AffixDo.j0 k a1 (!t287) a0_0 a0_1 a0_2 a0_3 a0_4)) else (impl_AffixDo.j0 k a1 true a0_0 a0_1 a0_2 a0_3 a0_4)) = some (r1, r2) := H; have A5 := Aside0.mk A50; clear A50
  by_cases c6 : t286 = true
  ·subst c6
   have H1 : ((impl_WordOk.f k a1).bind fun t287 => (impl_AffixDo.j0 k a1 (!t287) a0_0 a0_1 a0_2 a0_3 a0_4)) = some (r1, r2) := b8_
   replace H := H1; clear H1
   replace H := bs H; obtain ⟨t287, A70, H⟩ := H; replace H : (impl_AffixDo.j0 k a1 (!t287) a0_0 a0_1 a0_2 a0_3 a0_4) = some (r1, r2) := H; have A7 := Aside0.mk A70; clear A70
   have H' := am H
   clear H; have hcz8_0 := bc BK285.out 0; have hcz8_1 := bc BK285.out 1; have hcz8_2 := bc BK285.out 2; have hcz8_3 := bc BK285.out 3; have hcz8_4 := bc BK285.out 4; have hfz8_0 := bf BK285.out 0; have hfz8_1 := bf BK285.out 1; have hfz8_2 := bf BK285.out 2; have hfz8_3 := bf BK285.out 3; have hfz8_4 := bf BK285.out 4
   go_wp2_with (first | (go_at_call 74; (with_reducible refine (impl_AffixOk.calls k a0_0 a0_1 a0_2 a0_3 a0_4 true _ A5.out).mono ?_); rintro e w9 ⟨rfl, hb⟩; replace BK285 := am (blk_below (g := gb285) (o := .cells #[.string a0_0, .bool a0_1, .string a0_2, .string a0_3, .string a0_4] 82 (0, 0)) (bq BK285.out) hb); replace HB := am (below_step (bel1 GE285.out) hb); (try clear hb); (try clear hb2); (try clear hk); (try clear hi)) | (go_at_call 100; (with_reducible refine (impl_WordOk.calls k a1 t287 _ A7.out).mono ?_); rintro e w' ⟨rfl, ⟨nd, rfl⟩⟩; (try first | exact ⟨rfl, _, World.drewN_drewN _ _ _⟩ | exact ⟨rfl, _, Eq.trans (World.drewN_drewN _ _ _) (congrArg (World.drewN _) (Nat.add_assoc _ _ _))⟩)))
   repeat (go_quiet (first | (go_at_call 74; (with_reducible refine (impl_AffixOk.calls k a0_0 a0_1 a0_2 a0_3 a0_4 true _ A5.out).mono ?_); rintro e w9 ⟨rfl, hb⟩; replace BK285 := am (blk_below (g := gb285) (o := .cells #[.string a0_0, .bool a0_1, .string a0_2, .string a0_3, .string a0_4] 82 (0, 0)) (bq BK285.out) hb); replace HB := am (below_step (bel1 GE285.out) hb); (try clear hb); (try clear hb2); (try clear hk); (try clear hi)) | (go_at_call 100; (with_reducible refine (impl_WordOk.calls k a1 t287 _ A7.out).mono ?_); rintro e w' ⟨rfl, ⟨nd, rfl⟩⟩; (try first | exact ⟨rfl, _, World.drewN_drewN _ _ _⟩ | exact ⟨rfl, _, Eq.trans (World.drewN_drewN _ _ _) (congrArg (World.drewN _) (Nat.add_assoc _ _ _))⟩))); try go_wp2_with (first | (go_at_call 74; (with_reducible refine (impl_AffixOk.calls k a0_0 a0_1 a0_2 a0_3 a0_4 true _ A5.out).mono ?_); rintro e w9 ⟨rfl, hb⟩; replace BK285 := am (blk_below (g := gb285) (o := .cells #[.string a0_0, .bool a0_1, .string a0_2, .string a0_3, .string a0_4] 82 (0, 0)) (bq BK285.out) hb); replace HB := am (below_step (bel1 GE285.out) hb); (try clear hb); (try clear hb2); (try clear hk); (try clear hi)) | (go_at_call 100; (with_reducible refine (impl_WordOk.calls k a1 t287 _ A7.out).mono ?_); rintro e w' ⟨rfl, ⟨nd, rfl⟩⟩; (try first | exact ⟨rfl, _, World.drewN_drewN _ _ _⟩ | exact ⟨rfl, _, Eq.trans (World.drewN_drewN _ _ _) (congrArg (World.drewN _) (Nat.add_assoc _ _ _))⟩))))
   go_meet
   case rel => exact ⟨_, (!t287), sq, H', ⟨b15_⟩, ⟨bq BK285.out⟩, ⟨bel1 GE285.out⟩⟩
  replace c6 := Bool.eq_false_iff.mpr c6; subst c6
  have H1 : (impl_AffixDo.j0 k a1 true a0_0 a0_1 a0_2 a0_3 a0_4) = some (r1, r2) := b2_
  replace H := H1; clear H1
  have H' := am H
  clear H; have hcz10_0 := bc BK285.out 0; have hcz10_1 := bc BK285.out 1; have hcz10_2 := bc BK285.out 2; have hcz10_3 := bc BK285.out 3; have hcz10_4 := bc BK285.out 4; have hfz10_0 := bf BK285.out 0; have hfz10_1 := bf BK285.out 1; have hfz10_2 := bf BK285.out 2; have hfz10_3 := bf BK285.out 3; have hfz10_4 := bf BK285.out 4
  go_wp2_with (first | (go_at_call 74; (with_reducible refine (impl_AffixOk.calls k a0_0 a0_1 a0_2 a0_3 a0_4 false _ A5.out).mono ?_); rintro e w11 ⟨rfl, hb⟩; replace BK285 := am (blk_below (g := gb285) (o := .cells #[.string a0_0, .bool a0_1, .string a0_2, .string a0_3, .string a0_4] 82 (0, 0)) (bq BK285.out) hb); replace HB := am (below_step (bel1 GE285.out) hb); (try clear hb); (try clear hb2); (try clear hk); (try clear hi)))
  repeat (go_quiet (first | (go_at_call 74; (with_reducible refine (impl_AffixOk.calls k a0_0 a0_1 a0_2 a0_3 a0_4 false _ A5.out).mono ?_); rintro e w11 ⟨rfl, hb⟩; replace BK285 := am (blk_below (g := gb285) (o := .cells #[.string a0_0, .bool a0_1, .string a0_2, .string a0_3, .string a0_4] 82 (0, 0)) (bq BK285.out) hb); replace HB := am (below_step (bel1 GE285.out) hb); (try clear hb); (try clear hb2); (try clear hk); (try clear hi))); try go_wp2_with (first | (go_at_call 74; (with_reducible refine (impl_AffixOk.calls k a0_0 a0_1 a0_2 a0_3 a0_4 false _ A5.out).mono ?_); rintro e w11 ⟨rfl, hb⟩; replace BK285 := am (blk_below (g := gb285) (o := .cells #[.string a0_0, .bool a0_1, .string a0_2, .string a0_3, .string a0_4] 82 (0, 0)) (bq BK285.out) hb); replace HB := am (below_step (bel1 GE285.out) hb); (try clear hb); (try clear hb2); (try clear hk); (try clear hi))))
  go_meet
  case rel => exact ⟨_, (true), sq, H', ⟨b15_⟩, ⟨bq BK285.out⟩, ⟨bel1 GE285.out⟩⟩
 case rest =>
  clear HC3; (try clear p2); (try clear c6); (try clear c7); (try clear hcz10_0); (try clear hcz10_1); (try clear hcz10_2); (try clear hcz10_3); (try clear hcz10_4); (try clear hcz8_0); (try clear hcz8_1); (try clear hcz8_2); (try clear hcz8_3); (try clear hcz8_4); (try clear hfz10_0); (try clear hfz10_1); (try clear hfz10_2); (try clear hfz10_3); (try clear hfz10_4); (try clear hfz8_0); (try clear hfz8_1); (try clear hfz8_2); (try clear hfz8_3); (try clear hfz8_4); obtain ⟨kq, x14_2, rfl, HA, HJ2, BK285, HB⟩ := hcut
  cases kq with
  | zero => exact absurd HA.out (by simp [impl_AffixDo.j0])
  | succ kj2 =>
   have H := HA.out; clear HA
   simp only [impl_AffixDo.j0] at H
   by_cases c12 : x14_2 = true
   ·subst c12
    have H1 : (some ((⟨#[]⟩ : ByteArray), false)) = some (r1, r2) := b8_
    replace H := H1; clear H1
    simp only [Option.some.injEq, Prod.mk.injEq] at H
    obtain ⟨rfl, rfl⟩ := H; go_wp2
    repeat (go_quiet (fail); try go_wp2)
    go_ret2
    exact ⟨eq_, bel1 GE285.out⟩
   replace c12 := Bool.eq_false_iff.mpr c12; subst c12
   have H1 : (if a0_1 = true then ((strings_HasPrefix.f a1 a0_4).bind fun t288 => (if t288 = true then (if 0 ≤ (a0_2.size : Int) then (if (a0_2.size : Int) ≤ (a1.size : Int) then (if a0_3.size + (a1.extract a0_2.size a1.size).size ≤ 9223372036854775807 then ((impl_WordOk.f kj2 (a0_3 ++ (a1.extract a0_2.size a1.size))).bind fun t289 => (if t289 = true then (some (a0_3 ++ (a1.extract a0_2.size a1.size), true)) else (some ((⟨#[]⟩ : ByteArray), false)))) else (none)) else (none)) else (none)) else (some ((⟨#[]⟩ : ByteArray), false)))) else ((strings_HasSuffix.f a1 a0_4).bind fun t290 => (if t290 = true then (if 0 ≤ (wrap64 ((a1.size : Int) - (a0_2.size : Int))) then (if (wrap64 ((a1.size : Int) - (a0_2.size : Int))) ≤ (a1.size : Int) then (if (a1.extract 0 ((wrap64 ((a1.size : Int) - (a0_2.size : Int))) : Int).toNat).size + a0_3.size ≤ 9223372036854775807 then ((impl_WordOk.f kj2 ((a1.extract 0 ((wrap64 ((a1.size : Int) - (a0_2.size : Int))) : Int).toNat) ++ a0_3)).bind fun t291 => (if t291 = true then (some ((a1.extract 0 ((wrap64 ((a1.size : Int) - (a0_2.size : Int))) : Int).toNat) ++ a0_3, true)) else (some ((⟨#[]⟩ : ByteArray), false)))) else (none)) else (none)) else (none)) else (some ((⟨#[]⟩ : ByteArray), false))))) = some (r1, r2) := b2_
   replace H := H1; clear H1
   by_cases c13 : a0_1 = true
   ·subst c13
    have H1 : ((strings_HasPrefix.f a1 a0_4).bind fun t288 => (if t288 = true then (if 0 ≤ (a0_2.size : Int) then (if (a0_2.size : Int) ≤ (a1.size : Int) then (if a0_3.size + (a1.extract a0_2.size a1.size).size ≤ 9223372036854775807 then ((impl_WordOk.f kj2 (a0_3 ++ (a1.extract a0_2.size a1.size))).bind fun t289 => (if t289 = true then (some (a0_3 ++ (a1.extract a0_2.size a1.size), true)) else (some ((⟨#[]⟩ : ByteArray), false)))) else (none)) else (none)) else (none)) else (some ((⟨#[]⟩ : ByteArray), false)))) = some (r1, r2) := b8_
    replace H := H1; clear H1
    replace H := bs H; obtain ⟨t288, A140, H⟩ := H; replace H : (if t288 = true then (if 0 ≤ (a0_2.size : Int) then (if (a0_2.size : Int) ≤ (a1.size : Int) then (if a0_3.size + (a1.extract a0_2.size a1.size).size ≤ 9223372036854775807 then ((impl_WordOk.f kj2 (a0_3 ++ (a1.extract a0_2.size a1.size))).bind fun t289 => (if t289 = true then (some (a0_3 ++ (a1.extract a0_2.size a1.size), true)) else (some ((⟨#[]⟩ : ByteArray), false)))) else (none)) else (none)) else (none)) else (some ((⟨#[]⟩ : ByteArray), false))) = some (r1, r2) := H; have A14 := Aside0.mk A140; clear A140
    by_cases c15 : t288 = true
    ·subst c15
     have H1 : (if 0 ≤ (a0_2.size : Int) then (if (a0_2.size : Int) ≤ (a1.size : Int) then (if a0_3.size + (a1.extract a0_2.size a1.size).size ≤ 9223372036854775807 then ((impl_WordOk.f kj2 (a0_3 ++ (a1.extract a0_2.size a1.size))).bind fun t289 => (if t289 = true then (some (a0_3 ++ (a1.extract a0_2.size a1.size), true)) else (some ((⟨#[]⟩ : ByteArray), false)))) else (none)) else (none)) else (none)) = some (r1, r2) := b8_
     replace H := H1; clear H1
     replace H := ip H; obtain ⟨c16, H⟩ := H; have c16b0 := eq_true c16
     have c16b1 : decide (0 ≤ (a0_2.size : Int)) = true := decide_eq_true c16
     clear c16
     replace H := ip H; obtain ⟨c17, H⟩ := H; have c17b0 := eq_true c17
     have c17b9 : (a0_2.size ≤ a1.size) = True := eq_true (by omega)
     have c17b6 : decide (a0_2.size ≤ a1.size) = true := decide_eq_true (by omega)
     have c17b1 : decide ((a0_2.size : Int) ≤ (a1.size : Int)) = true := decide_eq_true c17
     clear c17
     replace H := ip H; obtain ⟨c18, H⟩ := H; have c18b0 := eq_true c18; have c18b5 := c18
     try simp at c18b5
     try have c18b4 := eq_false (Nat.not_lt.2 c18b5)
     try have c18b3 : (9223372036854775807 < a0_3.size + (a1.size - a0_2.size)) = False := by
           have h_ := c18
           simp only [ByteArray.size_append, ByteArray.size_extract] at h_
           exact eq_false (by omega)
     have c18b1 : decide (a0_3.size + (a1.extract a0_2.size a1.size).size ≤ 9223372036854775807) = true := decide_eq_true c18
     try have c18b2 : (9223372036854775807 < a0_3.size + (a1.extract a0_2.size a1.size).size) = False := eq_false (Nat.not_lt.2 c18)
     replace H := bs H; obtain ⟨t289, A190, H⟩ := H; replace H : (if t289 = true then (some (a0_3 ++ (a1.extract a0_2.size a1.size), true)) else (some ((⟨#[]⟩ : ByteArray), false))) = some (r1, r2) := H; have A19 := Aside0.mk A190; clear A190
     by_cases c20 : t289 = true
     ·subst c20
      have H1 : (some (a0_3 ++ (a1.extract a0_2.size a1.size), true)) = some (r1, r2) := b8_
      replace H := H1; clear H1
      simp only [Option.some.injEq, Prod.mk.injEq] at H
      obtain ⟨rfl, rfl⟩ := H; have hcz21_0 := bc BK285.out 0; have hcz21_1 := bc BK285.out 1; have hcz21_2 := bc BK285.out 2; have hcz21_3 := bc BK285.out 3; have hcz21_4 := bc BK285.out 4; have hfz21_0 := bf BK285.out 0; have hfz21_1 := bf BK285.out 1; have hfz21_2 := bf BK285.out 2; have hfz21_3 := bf BK285.out 3; have hfz21_4 := bf BK285.out 4
      go_wp2_with (first | (go_at_call 97; (with_reducible refine (strings_HasPrefix.calls a1 a0_4 true _ A14.out).mono ?_); rintro e w' ⟨rfl, ⟨nd, rfl⟩⟩; (try first | exact ⟨rfl, _, World.drewN_drewN _ _ _⟩ | exact ⟨rfl, _, Eq.trans (World.drewN_drewN _ _ _) (congrArg (World.drewN _) (Nat.add_assoc _ _ _))⟩)) | (go_at_call 100; (with_reducible refine (impl_WordOk.calls kj2 (a0_3 ++ (a1.extract a0_2.size a1.size)) true _ A19.out).mono ?_); rintro e w' ⟨rfl, ⟨nd, rfl⟩⟩; (try first | exact ⟨rfl, _, World.drewN_drewN _ _ _⟩ | exact ⟨rfl, _, Eq.trans (World.drewN_drewN _ _ _) (congrArg (World.drewN _) (Nat.add_assoc _ _ _))⟩)))
      repeat (go_quiet (first | (go_at_call 97; (with_reducible refine (strings_HasPrefix.calls a1 a0_4 true _ A14.out).mono ?_); rintro e w' ⟨rfl, ⟨nd, rfl⟩⟩; (try first | exact ⟨rfl, _, World.drewN_drewN _ _ _⟩ | exact ⟨rfl, _, Eq.trans (World.drewN_drewN _ _ _) (congrArg (World.drewN _) (Nat.add_assoc _ _ _))⟩)) | (go_at_call 100; (with_reducible refine (impl_WordOk.calls kj2 (a0_3 ++ (a1.extract a0_2.size a1.size)) true _ A19.out).mono ?_); rintro e w' ⟨rfl, ⟨nd, rfl⟩⟩; (try first | exact ⟨rfl, _, World.drewN_drewN _ _ _⟩ | exact ⟨rfl, _, Eq.trans (World.drewN_drewN _ _ _) (congrArg (World.drewN _) (Nat.add_assoc _ _ _))⟩))); try go_wp2_with (first | (go_at_call 97; (with_reducible refine (strings_HasPrefix.calls a1 a0_4 true _ A14.out).mono ?_); rintro e w' ⟨rfl, ⟨nd, rfl⟩⟩; (try first | exact ⟨rfl, _, World.drewN_drewN _ _ _⟩ | exact ⟨rfl, _, Eq.trans (World.drewN_drewN _ _ _) (congrArg (World.drewN _) (Nat.add_assoc _ _ _))⟩)) | (go_at_call 100; (with_reducible refine (impl_WordOk.calls kj2 (a0_3 ++ (a1.extract a0_2.size a1.size)) true _ A19.out).mono ?_); rintro e w' ⟨rfl, ⟨nd, rfl⟩⟩; (try first | exact ⟨rfl, _, World.drewN_drewN _ _ _⟩ | exact ⟨rfl, _, Eq.trans (World.drewN_drewN _ _ _) (congrArg (World.drewN _) (Nat.add_assoc _ _ _))⟩))))
      go_ret2
      exact ⟨eq_, bel1 GE285.out⟩
     replace c20 := Bool.eq_false_iff.mpr c20; subst c20
     have H1 : (some ((⟨#[]⟩ : ByteArray), false)) = some (r1, r2) := b2_
     replace H := H1; clear H1
     simp only [Option.some.injEq, Prod.mk.injEq] at H
     obtain ⟨rfl, rfl⟩ := H; have hcz22_0 := bc BK285.out 0; have hcz22_1 := bc BK285.out 1; have hcz22_2 := bc BK285.out 2; have hcz22_3 := bc BK285.out 3; have hcz22_4 := bc BK285.out 4; have hfz22_0 := bf BK285.out 0; have hfz22_1 := bf BK285.out 1; have hfz22_2 := bf BK285.out 2; have hfz22_3 := bf BK285.out 3; have hfz22_4 := bf BK285.out 4
     go_wp2_with (first | (go_at_call 97; (with_reducible refine (strings_HasPrefix.calls a1 a0_4 true _ A14.out).mono ?_); rintro e w' ⟨rfl, ⟨nd, rfl⟩⟩; (try first | exact ⟨rfl, _, World.drewN_drewN _ _ _⟩ | exact ⟨rfl, _, Eq.trans (World.drewN_drewN _ _ _) (congrArg (World.drewN _) (Nat.add_assoc _ _ _))⟩)) | (go_at_call 100; (with_reducible refine (impl_WordOk.calls kj2 (a0_3 ++ (a1.extract a0_2.size a1.size)) false _ A19.out).mono ?_); rintro e w' ⟨rfl, ⟨nd, rfl⟩⟩; (try first | exact ⟨rfl, _, World.drewN_drewN _ _ _⟩ | exact ⟨rfl, _, Eq.trans (World.drewN_drewN _ _ _) (congrArg (World.drewN _) (Nat.add_assoc _ _ _))⟩)))
     repeat (go_quiet (first | (go_at_call 97; (with_reducible refine (strings_HasPrefix.calls a1 a0_4 true _ A14.out).mono ?_); rintro e w' ⟨rfl, ⟨nd, rfl⟩⟩; (try first | exact ⟨rfl, _, World.drewN_drewN _ _ _⟩ | exact ⟨rfl, _, Eq.trans (World.drewN_drewN _ _ _) (congrArg (World.drewN _) (Nat.add_assoc _ _ _))⟩)) | (go_at_call 100; (with_reducible refine (impl_WordOk.calls kj2 (a0_3 ++ (a1.extract a0_2.size a1.size)) false _ A19.out).mono ?_); rintro e w' ⟨rfl, ⟨nd, rfl⟩⟩; (try first | exact ⟨rfl, _, World.drewN_drewN _ _ _⟩ | exact ⟨rfl, _, Eq.trans (World.drewN_drewN _ _ _) (congrArg (World.drewN _) (Nat.add_assoc _ _ _))⟩))); try go_wp2_with (first | (go_at_call 97; (with_reducible refine (strings_HasPrefix.calls a1 a0_4 true _ A14.out).mono ?_); rintro e w' ⟨rfl, ⟨nd, rfl⟩⟩; (try first | exact ⟨rfl, _, World.drewN_drewN _ _ _⟩ | exact ⟨rfl, _, Eq.trans (World.drewN_drewN _ _ _) (congrArg (World.drewN _) (Nat.add_assoc _ _ _))⟩)) | (go_at_call 100; (with_reducible refine (impl_WordOk.calls kj2 (a0_3 ++ (a1.extract a0_2.size a1.size)) false _ A19.out).mono ?_); rintro e w' ⟨rfl, ⟨nd, rfl⟩⟩; (try first | exact ⟨rfl, _, World.drewN_drewN _ _ _⟩ | exact ⟨rfl, _, Eq.trans (World.drewN_drewN _ _ _) (congrArg (World.drewN _) (Nat.add_assoc _ _ _))⟩))))
     go_ret2
     exact ⟨eq_, bel1 GE285.out⟩
    replace c15 := Bool.eq_false_iff.mpr c15; subst c15
    have H1 : (some ((⟨#[]⟩ : ByteArray), false)) = some (r1, r2) := b2_
    replace H := H1; clear H1
    simp only [Option.some.injEq, Prod.mk.injEq] at H
    obtain ⟨rfl, rfl⟩ := H; have hcz23_0 := bc BK285.out 0; have hcz23_1 := bc BK285.out 1; have hcz23_2 := bc BK285.out 2; have hcz23_3 := bc BK285.out 3; have hcz23_4 := bc BK285.out 4; have hfz23_0 := bf BK285.out 0; have hfz23_1 := bf BK285.out 1; have hfz23_2 := bf BK285.out 2; have hfz23_3 := bf BK285.out 3; have hfz23_4 := bf BK285.out 4
    go_wp2_with (first | (go_at_call 97; (with_reducible refine (strings_HasPrefix.calls a1 a0_4 false _ A14.out).mono ?_); rintro e w' ⟨rfl, ⟨nd, rfl⟩⟩; (try first | exact ⟨rfl, _, World.drewN_drewN _ _ _⟩ | exact ⟨rfl, _, Eq.trans (World.drewN_drewN _ _ _) (congrArg (World.drewN _) (Nat.add_assoc _ _ _))⟩)))
    repeat (go_quiet (first | (go_at_call 97; (with_reducible refine (strings_HasPrefix.calls a1 a0_4 false _ A14.out).mono ?_); rintro e w' ⟨rfl, ⟨nd, rfl⟩⟩; (try first | exact ⟨rfl, _, World.drewN_drewN _ _ _⟩ | exact ⟨rfl, _, Eq.trans (World.drewN_drewN _ _ _) (congrArg (World.drewN _) (Nat.add_assoc _ _ _))⟩))); try go_wp2_with (first | (go_at_call 97; (with_reducible refine (strings_HasPrefix.calls a1 a0_4 false _ A14.out).mono ?_); rintro e w' ⟨rfl, ⟨nd, rfl⟩⟩; (try first | exact ⟨rfl, _, World.drewN_drewN _ _ _⟩ | exact ⟨rfl, _, Eq.trans (World.drewN_drewN _ _ _) (congrArg (World.drewN _) (Nat.add_assoc _ _ _))⟩))))
    go_ret2
    exact ⟨eq_, bel1 GE285.out⟩
   replace c13 := Bool.eq_false_iff.mpr c13; subst c13
   have H1 : ((strings_HasSuffix.f a1 a0_4).bind fun t290 => (if t290 = true then (if 0 ≤ (wrap64 ((a1.size : Int) - (a0_2.size : Int))) then (if (wrap64 ((a1.size : Int) - (a0_2.size : Int))) ≤ (a1.size : Int) then (if (a1.extract 0 ((wrap64 ((a1.size : Int) - (a0_2.size : Int))) : Int).toNat).size + a0_3.size ≤ 9223372036854775807 then ((impl_WordOk.f kj2 ((a1.extract 0 ((wrap64 ((a1.size : Int) - (a0_2.size : Int))) : Int).toNat) ++ a0_3)).bind fun t291 => (if t291 = true then (some ((a1.extract 0 ((wrap64 ((a1.size : Int) - (a0_2.size : Int))) : Int).toNat) ++ a0_3, true)) else (some ((⟨#[]⟩ : ByteArray), false)))) else (none)) else (none)) else (none)) else (some ((⟨#[]⟩ : ByteArray), false)))) = some (r1, r2) := b2_
   replace H := H1; clear H1
   replace H := bs H; obtain ⟨t290, A240, H⟩ := H; replace H : (if t290 = true then (if 0 ≤ (wrap64 ((a1.size : Int) - (a0_2.size : Int))) then (if (wrap64 ((a1.size : Int) - (a0_2.size : Int))) ≤ (a1.size : Int) then (if (a1.extract 0 ((wrap64 ((a1.size : Int) - (a0_2.size : Int))) : Int).toNat).size + a0_3.size ≤ 9223372036854775807 then ((impl_WordOk.f kj2 ((a1.extract 0 ((wrap64 ((a1.size : Int) - (a0_2.size : Int))) : Int).toNat) ++ a0_3)).bind fun t291 => (if t291 = true then (some ((a1.extract 0 ((wrap64 ((a1.size : Int) - (a0_2.size : Int))) : Int).toNat) ++ a0_3, true)) else (some ((⟨#[]⟩ : ByteArray), false)))) else (none)) else (none)) else (none)) else (some ((⟨#[]⟩ : ByteArray), false))) = some (r1, r2) := H; have A24 := Aside0.mk A240; clear A240
   by_cases c25 : t290 = true
   ·subst c25
    have H1 : (if 0 ≤ (wrap64 ((a1.size : Int) - (a0_2.size : Int))) then (if (wrap64 ((a1.size : Int) - (a0_2.size : Int))) ≤ (a1.size : Int) then (if (a1.extract 0 ((wrap64 ((a1.size : Int) - (a0_2.size : Int))) : Int).toNat).size + a0_3.size ≤ 9223372036854775807 then ((impl_WordOk.f kj2 ((a1.extract 0 ((wrap64 ((a1.size : Int) - (a0_2.size : Int))) : Int).toNat) ++ a0_3)).bind fun t291 => (if t291 = true then (some ((a1.extract 0 ((wrap64 ((a1.size : Int) - (a0_2.size : Int))) : Int).toNat) ++ a0_3, true)) else (some ((⟨#[]⟩ : ByteArray), false)))) else (none)) else (none)) else (none)) = some (r1, r2) := b8_
    replace H := H1; clear H1
    obtain ⟨ji26, hji26⟩ : ∃ j_ : Int, (wrap64 ((a1.size : Int) - (a0_2.size : Int))) = j_ := ⟨_, rfl⟩
    replace H : (if 0 ≤ (ji26) then (if (ji26) ≤ (a1.size : Int) then (if (a1.extract 0 ((ji26) : Int).toNat).size + a0_3.size ≤ 9223372036854775807 then ((impl_WordOk.f kj2 ((a1.extract 0 ((ji26) : Int).toNat) ++ a0_3)).bind fun t291 => (if t291 = true then (some ((a1.extract 0 ((ji26) : Int).toNat) ++ a0_3, true)) else (some ((⟨#[]⟩ : ByteArray), false)))) else (none)) else (none)) else (none)) = some (r1, r2) := by first | (rw [hji26] at H; exact H) | (simp only [hji26] at H ⊢; exact H)
    (try rw [hji26] at A24)
    have hji26w : (IntKind.i64.wrap ((a1.size : Int) - (a0_2.size : Int))) = ji26 := (i64_w _).trans hji26
    replace H := ip H; obtain ⟨c27, H⟩ := H; have c27b0 := eq_true c27
    have c27b1 : decide (0 ≤ (ji26)) = true := decide_eq_true c27
    clear c27
    replace H := ip H; obtain ⟨c28, H⟩ := H; have c28b0 := eq_true c28
    have c28b1 : decide ((ji26) ≤ (a1.size : Int)) = true := decide_eq_true c28
    clear c28
    replace H := ip H; obtain ⟨c29, H⟩ := H; have c29b0 := eq_true c29; have c29b5 := c29
    try simp at c29b5
    try have c29b4 := eq_false (Nat.not_lt.2 c29b5)
    try have c29b3 : (9223372036854775807 < ((ji26) : Int).toNat + a0_3.size) = False := by
          have h_ := c29
          simp only [ByteArray.size_append, ByteArray.size_extract] at h_
          have g0_ : ((ji26)) ≤ (a1.size : Int) := of_decide_eq_true ad
          exact eq_false (by omega)
    have c29b1 : decide ((a1.extract 0 ((ji26) : Int).toNat).size + a0_3.size ≤ 9223372036854775807) = true := decide_eq_true c29
    try have c29b2 : (9223372036854775807 < (a1.extract 0 ((ji26) : Int).toNat).size + a0_3.size) = False := eq_false (Nat.not_lt.2 c29)
    replace H := bs H; obtain ⟨t291, A300, H⟩ := H; replace H : (if t291 = true then (some ((a1.extract 0 ((ji26) : Int).toNat) ++ a0_3, true)) else (some ((⟨#[]⟩ : ByteArray), false))) = some (r1, r2) := H; have A30 := Aside0.mk A300; clear A300
    by_cases c31 : t291 = true
    ·subst c31
     have H1 : (some ((a1.extract 0 ((ji26) : Int).toNat) ++ a0_3, true)) = some (r1, r2) := b8_
     replace H := H1; clear H1
     simp only [Option.some.injEq, Prod.mk.injEq] at H
     obtain ⟨rfl, rfl⟩ := H; have hcz32_0 := bc BK285.out 0; have hcz32_1 := bc BK285.out 1; have hcz32_2 := bc BK285.out 2; have hcz32_3 := bc BK285.out 3; have hcz32_4 := bc BK285.out 4; have hfz32_0 := bf BK285.out 0; have hfz32_1 := bf BK285.out 1; have hfz32_2 := bf BK285.out 2; have hfz32_3 := bf BK285.out 3; have hfz32_4 := bf BK285.out 4
     go_wp2_with (first | (go_at_call 98; (with_reducible refine (strings_HasSuffix.calls a1 a0_4 true _ A24.out).mono ?_); rintro e w' ⟨rfl, ⟨nd, rfl⟩⟩; (try first | exact ⟨rfl, _, World.drewN_drewN _ _ _⟩ | exact ⟨rfl, _, Eq.trans (World.drewN_drewN _ _ _) (congrArg (World.drewN _) (Nat.add_assoc _ _ _))⟩)) | (go_at_call 100; (with_reducible refine (impl_WordOk.calls kj2 ((a1.extract 0 ((ji26) : Int).toNat) ++ a0_3) true _ A30.out).mono ?_); rintro e w' ⟨rfl, ⟨nd, rfl⟩⟩; (try first | exact ⟨rfl, _, World.drewN_drewN _ _ _⟩ | exact ⟨rfl, _, Eq.trans (World.drewN_drewN _ _ _) (congrArg (World.drewN _) (Nat.add_assoc _ _ _))⟩)))
     repeat (go_quiet (first | (go_at_call 98; (with_reducible refine (strings_HasSuffix.calls a1 a0_4 true _ A24.out).mono ?_); rintro e w' ⟨rfl, ⟨nd, rfl⟩⟩; (try first | exact ⟨rfl, _, World.drewN_drewN _ _ _⟩ | exact ⟨rfl, _, Eq.trans (World.drewN_drewN _ _ _) (congrArg (World.drewN _) (Nat.add_assoc _ _ _))⟩)) | (go_at_call 100; (with_reducible refine (impl_WordOk.calls kj2 ((a1.extract 0 ((ji26) : Int).toNat) ++ a0_3) true _ A30.out).mono ?_); rintro e w' ⟨rfl, ⟨nd, rfl⟩⟩; (try first | exact ⟨rfl, _, World.drewN_drewN _ _ _⟩ | exact ⟨rfl, _, Eq.trans (World.drewN_drewN _ _ _) (congrArg (World.drewN _) (Nat.add_assoc _ _ _))⟩))); try go_wp2_with (first | (go_at_call 98; (with_reducible refine (strings_HasSuffix.calls a1 a0_4 true _ A24.out).mono ?_); rintro e w' ⟨rfl, ⟨nd, rfl⟩⟩; (try first | exact ⟨rfl, _, World.drewN_drewN _ _ _⟩ | exact ⟨rfl, _, Eq.trans (World.drewN_drewN _ _ _) (congrArg (World.drewN _) (Nat.add_assoc _ _ _))⟩)) | (go_at_call 100; (with_reducible refine (impl_WordOk.calls kj2 ((a1.extract 0 ((ji26) : Int).toNat) ++ a0_3) true _ A30.out).mono ?_); rintro e w' ⟨rfl, ⟨nd, rfl⟩⟩; (try first | exact ⟨rfl, _, World.drewN_drewN _ _ _⟩ | exact ⟨rfl, _, Eq.trans (World.drewN_drewN _ _ _) (congrArg (World.drewN _) (Nat.add_assoc _ _ _))⟩))))
     go_ret2
     exact ⟨b28_, bel1 GE285.out⟩
    replace c31 := Bool.eq_false_iff.mpr c31; subst c31
    have H1 : (some ((⟨#[]⟩ : ByteArray), false)) = some (r1, r2) := b2_
    replace H := H1; clear H1
    simp only [Option.some.injEq, Prod.mk.injEq] at H
    obtain ⟨rfl, rfl⟩ := H; have hcz33_0 := bc BK285.out 0; have hcz33_1 := bc BK285.out 1; have hcz33_2 := bc BK285.out 2; have hcz33_3 := bc BK285.out 3; have hcz33_4 := bc BK285.out 4; have hfz33_0 := bf BK285.out 0; have hfz33_1 := bf BK285.out 1; have hfz33_2 := bf BK285.out 2; have hfz33_3 := bf BK285.out 3; have hfz33_4 := bf BK285.out 4
    go_wp2_with (first | (go_at_call 98; (with_reducible refine (strings_HasSuffix.calls a1 a0_4 true _ A24.out).mono ?_); rintro e w' ⟨rfl, ⟨nd, rfl⟩⟩; (try first | exact ⟨rfl, _, World.drewN_drewN _ _ _⟩ | exact ⟨rfl, _, Eq.trans (World.drewN_drewN _ _ _) (congrArg (World.drewN _) (Nat.add_assoc _ _ _))⟩)) | (go_at_call 100; (with_reducible refine (impl_WordOk.calls kj2 ((a1.extract 0 ((ji26) : Int).toNat) ++ a0_3) false _ A30.out).mono ?_); rintro e w' ⟨rfl, ⟨nd, rfl⟩⟩; (try first | exact ⟨rfl, _, World.drewN_drewN _ _ _⟩ | exact ⟨rfl, _, Eq.trans (World.drewN_drewN _ _ _) (congrArg (World.drewN _) (Nat.add_assoc _ _ _))⟩)))
    repeat (go_quiet (first | (go_at_call 98; (with_reducible refine (strings_HasSuffix.calls a1 a0_4 true _ A24.out).mono ?_); rintro e w' ⟨rfl, ⟨nd, rfl⟩⟩; (try first | exact ⟨rfl, _, World.drewN_drewN _ _ _⟩ | exact ⟨rfl, _, Eq.trans (World.drewN_drewN _ _ _) (congrArg (World.drewN _) (Nat.add_assoc _ _ _))⟩)) | (go_at_call 100; (with_reducible refine (impl_WordOk.calls kj2 ((a1.extract 0 ((ji26) : Int).toNat) ++ a0_3) false _ A30.out).mono ?_); rintro e w' ⟨rfl, ⟨nd, rfl⟩⟩; (try first | exact ⟨rfl, _, World.drewN_drewN _ _ _⟩ | exact ⟨rfl, _, Eq.trans (World.drewN_drewN _ _ _) (congrArg (World.drewN _) (Nat.add_assoc _ _ _))⟩))); try go_wp2_with (first | (go_at_call 98; (with_reducible refine (strings_HasSuffix.calls a1 a0_4 true _ A24.out).mono ?_); rintro e w' ⟨rfl, ⟨nd, rfl⟩⟩; (try first | exact ⟨rfl, _, World.drewN_drewN _ _ _⟩ | exact ⟨rfl, _, Eq.trans (World.drewN_drewN _ _ _) (congrArg (World.drewN _) (Nat.add_assoc _ _ _))⟩)) | (go_at_call 100; (with_reducible refine (impl_WordOk.calls kj2 ((a1.extract 0 ((ji26) : Int).toNat) ++ a0_3) false _ A30.out).mono ?_); rintro e w' ⟨rfl, ⟨nd, rfl⟩⟩; (try first | exact ⟨rfl, _, World.drewN_drewN _ _ _⟩ | exact ⟨rfl, _, Eq.trans (World.drewN_drewN _ _ _) (congrArg (World.drewN _) (Nat.add_assoc _ _ _))⟩))))
    go_ret2
    exact ⟨b28_, bel1 GE285.out⟩
   replace c25 := Bool.eq_false_iff.mpr c25; subst c25
   have H1 : (some ((⟨#[]⟩ : ByteArray), false)) = some (r1, r2) := b2_
   replace H := H1; clear H1
   simp only [Option.some.injEq, Prod.mk.injEq] at H
   obtain ⟨rfl, rfl⟩ := H; have hcz34_0 := bc BK285.out 0; have hcz34_1 := bc BK285.out 1; have hcz34_2 := bc BK285.out 2; have hcz34_3 := bc BK285.out 3; have hcz34_4 := bc BK285.out 4; have hfz34_0 := bf BK285.out 0; have hfz34_1 := bf BK285.out 1; have hfz34_2 := bf BK285.out 2; have hfz34_3 := bf BK285.out 3; have hfz34_4 := bf BK285.out 4
   go_wp2_with (first | (go_at_call 98; (with_reducible refine (strings_HasSuffix.calls a1 a0_4 false _ A24.out).mono ?_); rintro e w' ⟨rfl, ⟨nd, rfl⟩⟩; (try first | exact ⟨rfl, _, World.drewN_drewN _ _ _⟩ | exact ⟨rfl, _, Eq.trans (World.drewN_drewN _ _ _) (congrArg (World.drewN _) (Nat.add_assoc _ _ _))⟩)))
   repeat (go_quiet (first | (go_at_call 98; (with_reducible refine (strings_HasSuffix.calls a1 a0_4 false _ A24.out).mono ?_); rintro e w' ⟨rfl, ⟨nd, rfl⟩⟩; (try first | exact ⟨rfl, _, World.drewN_drewN _ _ _⟩ | exact ⟨rfl, _, Eq.trans (World.drewN_drewN _ _ _) (congrArg (World.drewN _) (Nat.add_assoc _ _ _))⟩))); try go_wp2_with (first | (go_at_call 98; (with_reducible refine (strings_HasSuffix.calls a1 a0_4 false _ A24.out).mono ?_); rintro e w' ⟨rfl, ⟨nd, rfl⟩⟩; (try first | exact ⟨rfl, _, World.drewN_drewN _ _ _⟩ | exact ⟨rfl, _, Eq.trans (World.drewN_drewN _ _ _) (congrArg (World.drewN _) (Nat.add_assoc _ _ _))⟩))))
   go_ret2
   exact ⟨eq_, bel1 GE285.out⟩
end Go.Proofs.YtfpmfaelodfecaaGreatDoor.QFnExactCheck

import Derived.Test.YtdfnijaacnlfaaaQFnDeltaOfx0
import Derived.Test.YtdfnijaacnlfaaaQFnDeltaOfx7
import Derived.Test.YtdfnijaacnlfaaaVMSh2
namespace Go.Proofs.Ytdfnijaacnlfaaa.QFnDeltaOf
open Go.RowKit Go.Proofs.YtdfnijaacnlfaaaW.PrintWords Go.Proofs.YtdfnijaacnlfaaaW.PrintLast Go.Proofs.YtdfnijaacnlfaaaW.PrintMore Go.Proofs.Ytdfnijaacnlfaaa.Sh
attribute [local go_sem] max2_int min2_int max_two min_two max_three min_three max_four min_four
set_option linter.unusedVariables false
set_option linter.unusedSimpArgs false
set_option maxHeartbeats 8000000
set_option maxRecDepth 100000
-- shrunk

attribute [local go_sem high] eqA66
/-! ### impl_affixesOk: function 62 -/
def impl_affixesOk.l0 : Nat → List (S73) → List (S73) → Int → Int → Option (Bool)
 | 0, _, _, _, _ => none
 | k + 1, x0, x5, x6, x7 => if x7 < x6 then (if 0 ≤ x7 then (if x7 < (x5.length : Int) then ((impl_AffixOk.f k ((rd_T73 x5 x7).f0) ((rd_T73 x5 x7).f1) ((rd_T73 x5 x7).f2) ((rd_T73 x5 x7).f3) ((rd_T73 x5 x7).f4)).bind fun t181 => (if t181 = true then (if x7 ≤ (x0.length : Int) then ((impl_Affix_101.f k (x0.take (x7 : Int).toNat) ((rd_T73 x5 x7).f0) ((rd_T73 x5 x7).f1) ((rd_T73 x5 x7).f2) ((rd_T73 x5 x7).f3) ((rd_T73 x5 x7).f4)).bind fun t186 => (if t186 = true then (some false) else (impl_affixesOk.l0 k x0 x5 x6 (wrap64 (x7 + 1))))) else (none)) else (some false))) else (none)) else (none)) else (some (decide ((x0.length : Int) ≤ 8)))
def impl_affixesOk.f (k : Nat) (l0 : List (S73)) : Option (Bool) := impl_affixesOk.l0 k l0 l0 (l0.length : Int) 0
def impl_affixesOk.T4 : Bool × List (List Nat × List Nat) := (true, [([], []), ([0], [0]), ([1], [1]), ([2, 1], [2]), ([3], [3]), ([3], [3]), ([4, 5, 3], [3, 4, 5]), ([3], [3]), ([6, 7, 3, 3], [3, 6, 7]), ([3, 8], [3, 8])])
def impl_affixesOk.B4 : List Nat := [0, 1, 3, 7, 15, 15, 63, 15, 255, 511]
theorem impl_affixesOk.tab4 : rtab .any (opsOf Try.f62 4) = impl_affixesOk.T4 := by kernel_rfl
theorem impl_affixesOk.bits4 : waitsOk impl_affixesOk.T4.2 impl_affixesOk.B4 = true := by kernel_rfl
theorem impl_affixesOk.calls (k : Nat) (A0 : Option Addr) (c0 : Nat) (l0 : List (S73)) (r : Bool) (w : World) (hr0 : Kd.C k73 w A0 l0.length l0) (hc0 : l0.length ≤ c0) (h : impl_affixesOk.f k l0 = some r) :
  Calls Try.prog 62 #[.slice A0 l0.length c0] w fun e w' => e = .returned (.bool r) ∧ Below w.heap.size w w' := by
 have hu73 := Try.underlying73; have HR0 := am hr0; have HC0 := am hc0; clear hr0 hc0; have HB := am (Below.refl w.heap.size w)
 have H := h; unfold impl_affixesOk.f at H
 clear h
 have H' := am H
 clear H; go_enter Try.func62, Try.ntmps62; go_wp2
 go_loopg [7] k (fun kq v7 w' => ∃ (x7_1 : Int), v7 = .int .i64 x7_1 ∧ Aside0 (impl_affixesOk.l0 kq l0 l0 (l0.length : Int) x7_1 = some r) ∧ Aside0 (kq ≤ k) ∧ Aside0 (Below w.heap.size w w'))
 case atStart => exact ⟨(0), sq, H', ⟨Nat.le_refl _⟩, ⟨bel⟩⟩
 case round =>
  clear H'; obtain ⟨x7_1, rfl, HA, HK1, HB⟩ := hrel
  cases gk with
  | zero => exact absurd HA.out (by simp [impl_affixesOk.l0])
  | succ k1 =>
   have H := HA.out; clear HA; simp only [impl_affixesOk.l0] at H
   by_cases c2 : x7_1 < (l0.length : Int)
   ·rw [if_pos c2] at H; have c2b0 := decide_eq_true c2; clear c2
    replace H := it H; obtain ⟨c3b0, H⟩ := H
    replace H := it H; obtain ⟨c4b0, H⟩ := H; replace H := bs H; obtain ⟨t181, A50, H⟩ := H; have A5 := Aside0.mk A50; clear A50
    by_cases c6 : t181 = true
    ·subst c6
     rw [if_pos rfl] at H; have c7b0 := eq_true (of_decide_eq_true ad : 0 ≤ x7_1); replace H := ip H; obtain ⟨c8, H⟩ := H; have c8b0 := eq_true c8
     have c8b1 : decide (x7_1 ≤ (l0.length : Int)) = true := decide_eq_true c8
     clear c8; obtain ⟨y182, hy182⟩ : ∃ y_ : List (S73), y_ = (l0.take (x7_1 : Int).toNat) := ⟨_, rfl⟩
     rw [← hy182] at H
     have Ny182 := am hy182; clear hy182; replace H := bs H; obtain ⟨t186, A90, H⟩ := H; have A9 := Aside0.mk A90; clear A90
     by_cases c10 : t186 = true
     ·subst c10
      rw [if_pos rfl] at H
      obtain rfl := Option.some.inj H
      have p179 : 0 ≤ (x7_1 : Int) := of_decide_eq_true ad
      have q179 : x7_1 < (l0.length : Int) := of_decide_eq_true ad
      obtain ⟨ad179, e179, hx179_0, hx179_1, hx179_2, hx179_3, hx179_4⟩ := at_T73 HR0.out x7_1 p179 q179; cases e179; replace hx179_0 := kp HB.out hx179_0; replace hx179_1 := kp HB.out hx179_1; replace hx179_2 := kp HB.out hx179_2; replace hx179_3 := kp HB.out hx179_3; replace hx179_4 := kp HB.out hx179_4; replace p179 := eq_true p179; replace q179 := eq_true q179
      try go_wp2_with ((with_reducible refine gate_dst (N := 4) rfl ?_); refine bx 4 (cs := #[.string (⟨#[]⟩ : ByteArray), .bool false, .string (⟨#[]⟩ : ByteArray), .string (⟨#[]⟩ : ByteArray), .string (⟨#[]⟩ : ByteArray)]) (t := 73) ?_; intro gb180 hg w11 hbox hb; have BK180 := am (hbox); have GW180 := am ((b26_ : w.heap.size ≤ gb180)); have GE180 := am ((b26_ : w.heap.size ≤ gb180)); replace HB := am (below_step bel hb); clear hb hbox hg; have ⟨hcz12_0, hcz12_1, hcz12_2, hcz12_3, hcz12_4, hfz12_0, hfz12_1, hfz12_2, hfz12_3, hfz12_4⟩ := b5c BK180.out)
      have n0_ : Aside0 ((((((w11.setCell ⟨gb180, 0, none⟩ (.string ((rd_T73 l0 x7_1).f0))).setCell ⟨gb180, 1, none⟩ (.bool ((rd_T73 l0 x7_1).f1))).setCell ⟨gb180, 2, none⟩ (.string ((rd_T73 l0 x7_1).f2))).setCell ⟨gb180, 3, none⟩ (.string ((rd_T73 l0 x7_1).f3))).setCell ⟨gb180, 4, none⟩ (.string ((rd_T73 l0 x7_1).f4))).heap[gb180]? = some (.cells #[.string ((rd_T73 l0 x7_1).f0), .bool ((rd_T73 l0 x7_1).f1), .string ((rd_T73 l0 x7_1).f2), .string ((rd_T73 l0 x7_1).f3), .string ((rd_T73 l0 x7_1).f4)] 73 (0, 0))) := ⟨b12_⟩
      have n1_ : Aside0 (Below w.heap.size w (((((w11.setCell ⟨gb180, 0, none⟩ (.string ((rd_T73 l0 x7_1).f0))).setCell ⟨gb180, 1, none⟩ (.bool ((rd_T73 l0 x7_1).f1))).setCell ⟨gb180, 2, none⟩ (.string ((rd_T73 l0 x7_1).f2))).setCell ⟨gb180, 3, none⟩ (.string ((rd_T73 l0 x7_1).f3))).setCell ⟨gb180, 4, none⟩ (.string ((rd_T73 l0 x7_1).f4)))) := ⟨bel1 GE180.out⟩
      clear BK180 HB; generalize (((((w11.setCell ⟨gb180, 0, none⟩ (.string ((rd_T73 l0 x7_1).f0))).setCell ⟨gb180, 1, none⟩ (.bool ((rd_T73 l0 x7_1).f1))).setCell ⟨gb180, 2, none⟩ (.string ((rd_T73 l0 x7_1).f2))).setCell ⟨gb180, 3, none⟩ (.string ((rd_T73 l0 x7_1).f3))).setCell ⟨gb180, 4, none⟩ (.string ((rd_T73 l0 x7_1).f4))) = w13 at n0_ n1_ ⊢; have BK180 := n0_; have HB := n1_; clear n0_ n1_; replace BK180 := am (blk_drew BK180.out); replace HB := am (below_drew1 HB.out)
      refine st (n := 10) (S := fun w' => w'.cell? ⟨gb180, 0, none⟩ = some (.string ((rd_T73 l0 x7_1).f0)) ∧ w'.cell? ⟨gb180, 1, none⟩ = some (.bool ((rd_T73 l0 x7_1).f1)) ∧ w'.cell? ⟨gb180, 2, none⟩ = some (.string ((rd_T73 l0 x7_1).f2)) ∧ w'.cell? ⟨gb180, 3, none⟩ = some (.string ((rd_T73 l0 x7_1).f3)) ∧ w'.cell? ⟨gb180, 4, none⟩ = some (.string ((rd_T73 l0 x7_1).f4))) (ds := []) ⟨bd BK180.out 0, bd BK180.out 1, bd BK180.out 2, bd BK180.out 3, bd BK180.out 4⟩ (fun hHeld => ?_); refine with_tabW impl_affixesOk.tab4 impl_affixesOk.bits4 (fun HT_ HW_ => ?_)
      generalize w13.drew = w14 at BK180 HB hHeld ⊢; refine tk5 0 12 hHeld ?_; refine on1 1 13 (fun K hK => ?_)
      refine go1 Try.func100 #[.agg #[.string ((rd_T73 l0 x7_1).f0), .bool ((rd_T73 l0 x7_1).f1), .string ((rd_T73 l0 x7_1).f2), .string ((rd_T73 l0 x7_1).f3), .string ((rd_T73 l0 x7_1).f4)]] ?_
      with_reducible refine (impl_AffixOk.calls k1 ((rd_T73 l0 x7_1).f0) ((rd_T73 l0 x7_1).f1) ((rd_T73 l0 x7_1).f2) ((rd_T73 l0 x7_1).f3) ((rd_T73 l0 x7_1).f4) true _ A5.out).mono ?_
      rintro e w15 ⟨rfl, hb⟩; refine ⟨_, rfl, ?_⟩; replace BK180 := am (blk_below (bq BK180.out) hb); replace HB := am (below_step (bel1 GE180.out) hb); clear hb
      have q16 : (x7_1 : Int) ≤ ((l0.length : Int) : Int) := of_decide_eq_true ad
      obtain ⟨i016, hi016, _, hsz16, _⟩ := info_parts info73
      have hroom16 : l0.length ≤ c0 := HC0.out
      have hC16 : Kd.C k73 _ (some ad179) l0.length l0 := HR0.out
      have hcut16 := cut_to (P := Try.prog) 29 73 .i64 Try.underlying29 hi016 (some ad179) l0.length c0 x7_1 (of_decide_eq_true ad) q16 hroom16; have hr16 := Kd.C_take (m := (x7_1 : Int).toNat) hC16 (by omega)
      have hy16 : y182.length = (x7_1 : Int).toNat := (by rw [Ny182.out, List.length_take]; omega)
      rw [← Ny182.out] at hr16; rw [← hy16] at hcut16; have HR185 := am hr16
      have HC185 := am (show y182.length ≤ c0 from by omega)
      clear hr16 hC16 hroom16 hi016 hsz16; have KY16 := am hy16; clear hy16; replace q16 := eq_true q16; refine hK.out _ _ ⟨bd BK180.out 0, bd BK180.out 1, bd BK180.out 2, bd BK180.out 3, bd BK180.out 4⟩ (fun hHeld => ?_); clear hK K; refine nm 13 ?_; refine pu 2 14 ?_; refine pu 3 15 ?_; refine pu 4 16 ?_; refine pu 5 17 ?_; refine pu 6 18 ?_; refine tk5 7 19 hHeld ?_; refine on1 8 20 (fun K hK => ?_)
      refine go1 Try.func101 #[.slice (some ad179) y182.length c0, .agg #[.string ((rd_T73 l0 x7_1).f0), .bool ((rd_T73 l0 x7_1).f1), .string ((rd_T73 l0 x7_1).f2), .string ((rd_T73 l0 x7_1).f3), .string ((rd_T73 l0 x7_1).f4)]] ?_
      with_reducible refine (impl_Affix_101.calls k1 _ _ y182 ((rd_T73 l0 x7_1).f0) ((rd_T73 l0 x7_1).f1) ((rd_T73 l0 x7_1).f2) ((rd_T73 l0 x7_1).f3) ((rd_T73 l0 x7_1).f4) true _ ?side1 ?side2 A9.out).mono ?_
      (case side1 => exact cq (Kd.C_below HR185.out HB.out)); (case side2 => exact HC185.out)
      rintro e w17 ⟨rfl, hb⟩; refine ⟨_, rfl, ?_⟩; replace BK180 := am (blk_below (bq BK180.out) hb); replace HB := am (below_step (bel1 GE180.out) hb); clear hb; refine hK.out _ _ ⟨bd BK180.out 0, bd BK180.out 1, bd BK180.out 2, bd BK180.out 3, bd BK180.out 4⟩ (fun hHeld => ?_); clear hK K; refine nm 20 ?_; refine pu 9 21 ?_
      refine done_ (done_of HT_.out (by kernel_rfl)) ?_
      try go_wp2
      go_ret
      exact ⟨eq_, bel1 GE180.out⟩
     replace c10 := Bool.eq_false_iff.mpr c10; subst c10
     rw [if_neg Bool.false_ne_true] at H
     have H' := am H
     clear H
     have p179 : 0 ≤ (x7_1 : Int) := of_decide_eq_true ad
     have q179 : x7_1 < (l0.length : Int) := of_decide_eq_true ad
     obtain ⟨ad179, e179, hx179_0, hx179_1, hx179_2, hx179_3, hx179_4⟩ := at_T73 HR0.out x7_1 p179 q179; cases e179; replace hx179_0 := kp HB.out hx179_0; replace hx179_1 := kp HB.out hx179_1; replace hx179_2 := kp HB.out hx179_2; replace hx179_3 := kp HB.out hx179_3; replace hx179_4 := kp HB.out hx179_4; replace p179 := eq_true p179; replace q179 := eq_true q179
     try go_wp2_with ((with_reducible refine gate_dst (N := 4) rfl ?_); refine bx 4 (cs := #[.string (⟨#[]⟩ : ByteArray), .bool false, .string (⟨#[]⟩ : ByteArray), .string (⟨#[]⟩ : ByteArray), .string (⟨#[]⟩ : ByteArray)]) (t := 73) ?_; intro gb180 hg w18 hbox hb; have BK180 := am (hbox); have GW180 := am ((b26_ : w.heap.size ≤ gb180)); have GE180 := am ((b26_ : w.heap.size ≤ gb180)); replace HB := am (below_step bel hb); clear hb hbox hg; have ⟨hcz19_0, hcz19_1, hcz19_2, hcz19_3, hcz19_4, hfz19_0, hfz19_1, hfz19_2, hfz19_3, hfz19_4⟩ := b5c BK180.out)
     have n0_ : Aside0 ((((((w18.setCell ⟨gb180, 0, none⟩ (.string ((rd_T73 l0 x7_1).f0))).setCell ⟨gb180, 1, none⟩ (.bool ((rd_T73 l0 x7_1).f1))).setCell ⟨gb180, 2, none⟩ (.string ((rd_T73 l0 x7_1).f2))).setCell ⟨gb180, 3, none⟩ (.string ((rd_T73 l0 x7_1).f3))).setCell ⟨gb180, 4, none⟩ (.string ((rd_T73 l0 x7_1).f4))).heap[gb180]? = some (.cells #[.string ((rd_T73 l0 x7_1).f0), .bool ((rd_T73 l0 x7_1).f1), .string ((rd_T73 l0 x7_1).f2), .string ((rd_T73 l0 x7_1).f3), .string ((rd_T73 l0 x7_1).f4)] 73 (0, 0))) := ⟨b12_⟩
     have n1_ : Aside0 (Below w.heap.size w (((((w18.setCell ⟨gb180, 0, none⟩ (.string ((rd_T73 l0 x7_1).f0))).setCell ⟨gb180, 1, none⟩ (.bool ((rd_T73 l0 x7_1).f1))).setCell ⟨gb180, 2, none⟩ (.string ((rd_T73 l0 x7_1).f2))).setCell ⟨gb180, 3, none⟩ (.string ((rd_T73 l0 x7_1).f3))).setCell ⟨gb180, 4, none⟩ (.string ((rd_T73 l0 x7_1).f4)))) := ⟨bel1 GE180.out⟩
     clear BK180 HB; generalize (((((w18.setCell ⟨gb180, 0, none⟩ (.string ((rd_T73 l0 x7_1).f0))).setCell ⟨gb180, 1, none⟩ (.bool ((rd_T73 l0 x7_1).f1))).setCell ⟨gb180, 2, none⟩ (.string ((rd_T73 l0 x7_1).f2))).setCell ⟨gb180, 3, none⟩ (.string ((rd_T73 l0 x7_1).f3))).setCell ⟨gb180, 4, none⟩ (.string ((rd_T73 l0 x7_1).f4))) = w20 at n0_ n1_ ⊢; have BK180 := n0_; have HB := n1_; clear n0_ n1_; replace BK180 := am (blk_drew BK180.out); replace HB := am (below_drew1 HB.out)
     refine st (n := 10) (S := fun w' => w'.cell? ⟨gb180, 0, none⟩ = some (.string ((rd_T73 l0 x7_1).f0)) ∧ w'.cell? ⟨gb180, 1, none⟩ = some (.bool ((rd_T73 l0 x7_1).f1)) ∧ w'.cell? ⟨gb180, 2, none⟩ = some (.string ((rd_T73 l0 x7_1).f2)) ∧ w'.cell? ⟨gb180, 3, none⟩ = some (.string ((rd_T73 l0 x7_1).f3)) ∧ w'.cell? ⟨gb180, 4, none⟩ = some (.string ((rd_T73 l0 x7_1).f4))) (ds := []) ⟨bd BK180.out 0, bd BK180.out 1, bd BK180.out 2, bd BK180.out 3, bd BK180.out 4⟩ (fun hHeld => ?_); refine with_tabW impl_affixesOk.tab4 impl_affixesOk.bits4 (fun HT_ HW_ => ?_)
     generalize w20.drew = w21 at BK180 HB hHeld ⊢; refine tk5 0 12 hHeld ?_; refine on1 1 13 (fun K hK => ?_)
     refine go1 Try.func100 #[.agg #[.string ((rd_T73 l0 x7_1).f0), .bool ((rd_T73 l0 x7_1).f1), .string ((rd_T73 l0 x7_1).f2), .string ((rd_T73 l0 x7_1).f3), .string ((rd_T73 l0 x7_1).f4)]] ?_
     with_reducible refine (impl_AffixOk.calls k1 ((rd_T73 l0 x7_1).f0) ((rd_T73 l0 x7_1).f1) ((rd_T73 l0 x7_1).f2) ((rd_T73 l0 x7_1).f3) ((rd_T73 l0 x7_1).f4) true _ A5.out).mono ?_
     rintro e w22 ⟨rfl, hb⟩; refine ⟨_, rfl, ?_⟩; replace BK180 := am (blk_below (bq BK180.out) hb); replace HB := am (below_step (bel1 GE180.out) hb); clear hb
     have q23 : (x7_1 : Int) ≤ ((l0.length : Int) : Int) := of_decide_eq_true ad
     obtain ⟨i023, hi023, _, hsz23, _⟩ := info_parts info73
     have hroom23 : l0.length ≤ c0 := HC0.out
     have hC23 : Kd.C k73 _ (some ad179) l0.length l0 := HR0.out
     have hcut23 := cut_to (P := Try.prog) 29 73 .i64 Try.underlying29 hi023 (some ad179) l0.length c0 x7_1 (of_decide_eq_true ad) q23 hroom23; have hr23 := Kd.C_take (m := (x7_1 : Int).toNat) hC23 (by omega)
     have hy23 : y182.length = (x7_1 : Int).toNat := (by rw [Ny182.out, List.length_take]; omega)
     rw [← Ny182.out] at hr23; rw [← hy23] at hcut23; have HR185 := am hr23
     have HC185 := am (show y182.length ≤ c0 from by omega)
     clear hr23 hC23 hroom23 hi023 hsz23; have KY23 := am hy23; clear hy23; replace q23 := eq_true q23; refine hK.out _ _ ⟨bd BK180.out 0, bd BK180.out 1, bd BK180.out 2, bd BK180.out 3, bd BK180.out 4⟩ (fun hHeld => ?_); clear hK K; refine nm 13 ?_; refine pu 2 14 ?_; refine pu 3 15 ?_; refine pu 4 16 ?_; refine pu 5 17 ?_; refine pu 6 18 ?_; refine tk5 7 19 hHeld ?_; refine on1 8 20 (fun K hK => ?_)
     refine go1 Try.func101 #[.slice (some ad179) y182.length c0, .agg #[.string ((rd_T73 l0 x7_1).f0), .bool ((rd_T73 l0 x7_1).f1), .string ((rd_T73 l0 x7_1).f2), .string ((rd_T73 l0 x7_1).f3), .string ((rd_T73 l0 x7_1).f4)]] ?_
     with_reducible refine (impl_Affix_101.calls k1 _ _ y182 ((rd_T73 l0 x7_1).f0) ((rd_T73 l0 x7_1).f1) ((rd_T73 l0 x7_1).f2) ((rd_T73 l0 x7_1).f3) ((rd_T73 l0 x7_1).f4) false _ ?side1 ?side2 A9.out).mono ?_
     (case side1 => exact cq (Kd.C_below HR185.out HB.out)); (case side2 => exact HC185.out)
     rintro e w24 ⟨rfl, hb⟩; refine ⟨_, rfl, ?_⟩; replace BK180 := am (blk_below (bq BK180.out) hb); replace HB := am (below_step (bel1 GE180.out) hb); clear hb; refine hK.out _ _ ⟨bd BK180.out 0, bd BK180.out 1, bd BK180.out 2, bd BK180.out 3, bd BK180.out 4⟩ (fun hHeld => ?_); clear hK K; refine nm 20 ?_; refine pu 9 21 ?_
     refine done_ (done_of HT_.out (by kernel_rfl)) ?_
     try go_wp2
     go_roundg k1
     case measure => have := HK1.out; omega
     case rel => exact ⟨(wrap64 (x7_1 + 1)), sq, H', ⟨b129_⟩, ⟨bel1 GE180.out⟩⟩
    replace c6 := Bool.eq_false_iff.mpr c6; subst c6
    rw [if_neg Bool.false_ne_true] at H
    obtain rfl := Option.some.inj H
    have p179 : 0 ≤ (x7_1 : Int) := of_decide_eq_true ad
    have q179 : x7_1 < (l0.length : Int) := of_decide_eq_true ad
    obtain ⟨ad179, e179, hx179_0, hx179_1, hx179_2, hx179_3, hx179_4⟩ := at_T73 HR0.out x7_1 p179 q179; cases e179; replace hx179_0 := kp HB.out hx179_0; replace hx179_1 := kp HB.out hx179_1; replace hx179_2 := kp HB.out hx179_2; replace hx179_3 := kp HB.out hx179_3; replace hx179_4 := kp HB.out hx179_4; replace p179 := eq_true p179; replace q179 := eq_true q179
    try go_wp2_with ((with_reducible refine gate_dst (N := 4) rfl ?_); refine bx 4 (cs := #[.string (⟨#[]⟩ : ByteArray), .bool false, .string (⟨#[]⟩ : ByteArray), .string (⟨#[]⟩ : ByteArray), .string (⟨#[]⟩ : ByteArray)]) (t := 73) ?_; intro gb180 hg w25 hbox hb; have BK180 := am (hbox); have GW180 := am ((b26_ : w.heap.size ≤ gb180)); have GE180 := am ((b26_ : w.heap.size ≤ gb180)); replace HB := am (below_step bel hb); clear hb hbox hg; have ⟨hcz26_0, hcz26_1, hcz26_2, hcz26_3, hcz26_4, hfz26_0, hfz26_1, hfz26_2, hfz26_3, hfz26_4⟩ := b5c BK180.out)
    have n0_ : Aside0 ((((((w25.setCell ⟨gb180, 0, none⟩ (.string ((rd_T73 l0 x7_1).f0))).setCell ⟨gb180, 1, none⟩ (.bool ((rd_T73 l0 x7_1).f1))).setCell ⟨gb180, 2, none⟩ (.string ((rd_T73 l0 x7_1).f2))).setCell ⟨gb180, 3, none⟩ (.string ((rd_T73 l0 x7_1).f3))).setCell ⟨gb180, 4, none⟩ (.string ((rd_T73 l0 x7_1).f4))).heap[gb180]? = some (.cells #[.string ((rd_T73 l0 x7_1).f0), .bool ((rd_T73 l0 x7_1).f1), .string ((rd_T73 l0 x7_1).f2), .string ((rd_T73 l0 x7_1).f3), .string ((rd_T73 l0 x7_1).f4)] 73 (0, 0))) := ⟨b12_⟩
    have n1_ : Aside0 (Below w.heap.size w (((((w25.setCell ⟨gb180, 0, none⟩ (.string ((rd_T73 l0 x7_1).f0))).setCell ⟨gb180, 1, none⟩ (.bool ((rd_T73 l0 x7_1).f1))).setCell ⟨gb180, 2, none⟩ (.string ((rd_T73 l0 x7_1).f2))).setCell ⟨gb180, 3, none⟩ (.string ((rd_T73 l0 x7_1).f3))).setCell ⟨gb180, 4, none⟩ (.string ((rd_T73 l0 x7_1).f4)))) := ⟨bel1 GE180.out⟩
    clear BK180 HB; generalize (((((w25.setCell ⟨gb180, 0, none⟩ (.string ((rd_T73 l0 x7_1).f0))).setCell ⟨gb180, 1, none⟩ (.bool ((rd_T73 l0 x7_1).f1))).setCell ⟨gb180, 2, none⟩ (.string ((rd_T73 l0 x7_1).f2))).setCell ⟨gb180, 3, none⟩ (.string ((rd_T73 l0 x7_1).f3))).setCell ⟨gb180, 4, none⟩ (.string ((rd_T73 l0 x7_1).f4))) = w27 at n0_ n1_ ⊢; have BK180 := n0_; have HB := n1_; clear n0_ n1_; replace BK180 := am (blk_drew BK180.out); replace HB := am (below_drew1 HB.out)
    refine st (n := 10) (S := fun w' => w'.cell? ⟨gb180, 0, none⟩ = some (.string ((rd_T73 l0 x7_1).f0)) ∧ w'.cell? ⟨gb180, 1, none⟩ = some (.bool ((rd_T73 l0 x7_1).f1)) ∧ w'.cell? ⟨gb180, 2, none⟩ = some (.string ((rd_T73 l0 x7_1).f2)) ∧ w'.cell? ⟨gb180, 3, none⟩ = some (.string ((rd_T73 l0 x7_1).f3)) ∧ w'.cell? ⟨gb180, 4, none⟩ = some (.string ((rd_T73 l0 x7_1).f4))) (ds := []) ⟨bd BK180.out 0, bd BK180.out 1, bd BK180.out 2, bd BK180.out 3, bd BK180.out 4⟩ (fun hHeld => ?_); refine with_tabW impl_affixesOk.tab4 impl_affixesOk.bits4 (fun HT_ HW_ => ?_)
    generalize w27.drew = w28 at BK180 HB hHeld ⊢; refine tk5 0 12 hHeld ?_; refine on1 1 13 (fun K hK => ?_)
    refine go1 Try.func100 #[.agg #[.string ((rd_T73 l0 x7_1).f0), .bool ((rd_T73 l0 x7_1).f1), .string ((rd_T73 l0 x7_1).f2), .string ((rd_T73 l0 x7_1).f3), .string ((rd_T73 l0 x7_1).f4)]] ?_
    with_reducible refine (impl_AffixOk.calls k1 ((rd_T73 l0 x7_1).f0) ((rd_T73 l0 x7_1).f1) ((rd_T73 l0 x7_1).f2) ((rd_T73 l0 x7_1).f3) ((rd_T73 l0 x7_1).f4) false _ A5.out).mono ?_
    rintro e w29 ⟨rfl, hb⟩; refine ⟨_, rfl, ?_⟩; replace BK180 := am (blk_below (bq BK180.out) hb); replace HB := am (below_step (bel1 GE180.out) hb); clear hb; refine hK.out _ _ ⟨bd BK180.out 0, bd BK180.out 1, bd BK180.out 2, bd BK180.out 3, bd BK180.out 4⟩ (fun hHeld => ?_); clear hK K; refine nm 13 ?_; refine pu 2 14 ?_; refine pu 3 15 ?_; refine puu 4 16 ?_; refine puu 5 17 ?_; refine puu 6 18 ?_; refine puu 7 19 ?_; refine puu 8 20 ?_; refine pu 9 21 ?_
    refine done_ (done_of HT_.out (by kernel_rfl)) ?_
    try go_wp2
    go_ret
    exact ⟨eq_, bel1 GE180.out⟩
   rw [if_neg c2] at H; have c2b0 := decide_eq_false c2; clear c2; obtain rfl := Option.some.inj H; go_wp2; go_ret
   exact ⟨eq_, bel⟩

/-! ### impl_BookOk: function 38 -/
def impl_BookOk.f (k : Nat) (l0_0 : List (S73)) (l0_1 : List (S66)) : Option (Bool) := (impl_affixesOk.f k l0_0).bind fun t188 => (if t188 = true then ((impl_entriesOk.f k l0_1).bind fun t189 => (some t189)) else (some false))
theorem impl_BookOk.calls (k : Nat) (A0_0 : Option Addr) (c0_0 : Nat) (l0_0 : List (S73)) (A0_1 : Option Addr) (c0_1 : Nat) (l0_1 : List (S66)) (r : Bool) (w : World) (hr0_0 : Kd.C k73 w A0_0 l0_0.length l0_0) (hc0_0 : l0_0.length ≤ c0_0) (hr0_1 : Kd.C k66 w A0_1 l0_1.length l0_1) (hc0_1 : l0_1.length ≤ c0_1) (h : impl_BookOk.f k l0_0 l0_1 = some r) :
  Calls Try.prog 38 #[.agg #[.slice A0_0 l0_0.length c0_0, .slice A0_1 l0_1.length c0_1]] w fun e w' => e = .returned (.bool r) ∧ Below w.heap.size w w' := by
 have hu34 := Try.underlying34; have HR0_0 := am hr0_0; have HC0_0 := am hc0_0; clear hr0_0 hc0_0; have HR0_1 := am hr0_1; have HC0_1 := am hc0_1; clear hr0_1 hc0_1; have HB := am (Below.refl w.heap.size w)
 have H := h; unfold impl_BookOk.f at H
 clear h; replace H := bs H; obtain ⟨t188, A20, H⟩ := H; have A2 := Aside0.mk A20; clear A20
 by_cases c3 : t188 = true
 ·subst c3
  rw [if_pos rfl] at H
  replace H := bs H; obtain ⟨t189, A40, H⟩ := H; have A4 := Aside0.mk A40; clear A40; obtain rfl := Option.some.inj H; go_enter Try.func38, Try.ntmps38
  go_wp2_with (first | ((with_reducible refine gate_dst (N := 1) rfl ?_); refine bx 1 (cs := #[.slice A0_0 l0_0.length c0_0, .slice A0_1 l0_1.length c0_1]) (t := 34) ?_; intro gb187 hg w5 hbox hb; have BK187 := am (hbox); have GW187 := am ((b26_ : w.heap.size ≤ gb187)); have GE187 := am ((b26_ : w.heap.size ≤ gb187)); replace HB := am (below_step bel hb); clear hb hbox hg; have ⟨hcz6_0, hcz6_1, hfz6_0, hfz6_1⟩ := b2c BK187.out) | ((with_reducible refine gate_callee (f := 62) rfl ?_); refine gl 5 Try.func62 #[.slice A0_0 l0_0.length c0_0] ?_; (with_reducible refine (impl_affixesOk.calls k _ _ l0_0 true _ ?side1 ?side2 A2.out).mono ?_); (case side1 => exact cq (Kd.C_below HR0_0.out HB.out)); (case side2 => exact HC0_0.out); rintro e w7 ⟨rfl, hb⟩; refine ⟨_, rfl, ?_⟩; replace BK187 := am (blk_below (bq BK187.out) hb); replace HB := am (below_step (bel1 GE187.out) hb); clear hb; have ⟨hcz8_0, hcz8_1, hfz8_0, hfz8_1⟩ := b2c BK187.out) | (go_at_call 61; (with_reducible refine (impl_entriesOk.calls k _ _ l0_1 t189 _ ?side1 ?side2 A4.out).mono ?_); (case side1 => exact cq (Kd.C_below HR0_1.out HB.out)); (case side2 => exact HC0_1.out); rintro e w9 ⟨rfl, hb⟩; replace BK187 := am (blk_below (bq BK187.out) hb); replace HB := am (below_step (bel1 GE187.out) hb); clear hb))
  go_ret
  exact ⟨eq_, bel1 GE187.out⟩
 replace c3 := Bool.eq_false_iff.mpr c3; subst c3
 rw [if_neg Bool.false_ne_true] at H
 obtain rfl := Option.some.inj H; go_enter Try.func38, Try.ntmps38
 go_wp2_with (first | ((with_reducible refine gate_dst (N := 1) rfl ?_); refine bx 1 (cs := #[.slice A0_0 l0_0.length c0_0, .slice A0_1 l0_1.length c0_1]) (t := 34) ?_; intro gb187 hg w10 hbox hb; have BK187 := am (hbox); have GW187 := am ((b26_ : w.heap.size ≤ gb187)); have GE187 := am ((b26_ : w.heap.size ≤ gb187)); replace HB := am (below_step bel hb); clear hb hbox hg; have ⟨hcz11_0, hcz11_1, hfz11_0, hfz11_1⟩ := b2c BK187.out) | ((with_reducible refine gate_callee (f := 62) rfl ?_); refine gl 5 Try.func62 #[.slice A0_0 l0_0.length c0_0] ?_; (with_reducible refine (impl_affixesOk.calls k _ _ l0_0 false _ ?side1 ?side2 A2.out).mono ?_); (case side1 => exact cq (Kd.C_below HR0_0.out HB.out)); (case side2 => exact HC0_0.out); rintro e w12 ⟨rfl, hb⟩; refine ⟨_, rfl, ?_⟩; replace BK187 := am (blk_below (bq BK187.out) hb); replace HB := am (below_step (bel1 GE187.out) hb); clear hb))
 go_ret
 exact ⟨eq_, bel1 GE187.out⟩

/-! ### impl_entryAt: function 39 -/
/-- The place of a stem; -1 if it is not there. -/
def impl_entryAt.f (l0 : List (S66)) (a1 : ByteArray) : Option Int := some (Go.Lib.idxBy (fun _ (y : ByteArray × ByteArray) => decide (y.1 = a1)) (l0.map (fun x => (x.f0, x.f1))) default)
def impl_entryAt.enc (x : ByteArray × ByteArray) : List Value := [.string x.1, .string x.2]
set_option maxHeartbeats 1000000 in
set_option maxRecDepth 100000 in
theorem impl_entryAt.pred (s : ByteArray) (B : Nat) (w : World) (hB : B < w.heap.size) (hcell : w.cell? ⟨B, 0, none⟩ = some (.string s)) :
  PredBelow Try.prog 85 #[.pointer (some ⟨B, 0, none⟩)] (fun x => .agg (impl_entryAt.enc x).toArray) (fun x => decide (x.1 = s)) w := fun W x hb => by
 have hc : W.cell? ⟨B, 0, none⟩ = some (.string s) := (hb.cell (p := ⟨B, 0, none⟩) hB).trans hcell
 have hBW : B < W.heap.size := Nat.lt_of_lt_of_le hB hb.size
 have hne : B ≠ W.heap.size := by omega
 have heq : (x.1.toList == s.toList) = decide (x.1 = s) := by
  rw [Bool.eq_iff_iff, beq_iff_eq, decide_eq_true_eq]
  constructor
  ·intro h; rw [Go.ByteArray.toList_eq, Go.ByteArray.toList_eq] at h
   exact ByteArray.ext (by rw [← Array.toArray_toList (xs := x.1.data), h, Array.toArray_toList])
  ·rintro rfl
   rfl
 show Calls Try.prog 85 #[.agg #[.string x.1, .string x.2], .pointer (some ⟨B, 0, none⟩)] W _
 go_enter Try.func85, Try.ntmps85; go_wp2
 all_goals (go_ret; exact ⟨by (simp [heq]; done), hb.alloc hb.size _⟩)
set_option maxHeartbeats 1000000 in
set_option maxRecDepth 100000 in
theorem impl_entryAt.zero_ (a : Option Addr) (c : Nat) (fv : Value) (w : World) : Calls Try.prog 84 #[.slice a 0 c, fv] w fun e w' => e = .returned (.int .i64 (-1)) ∧ w' = w := by
 go_enter Try.func84, Try.ntmps84; go_wp2
 go_loopg [5, 8] 0 (fun _ _ s8 wr => s8 = .int .i64 0 ∧ wr = w)
 case atStart => exact ⟨rfl, rfl⟩
 case round =>
  obtain ⟨rfl, rfl⟩ := hrel; go_wp2; go_ret
  exact ⟨rfl, rfl⟩
set_option maxHeartbeats 1000000 in
set_option maxRecDepth 100000 in
theorem impl_entryAt.calls (A0 : Option Addr) (c0 : Nat) (l0 : List (S66)) (a1 : ByteArray) (r : Int) (w : World) (hr0 : Kd.C k66 w A0 l0.length l0) (hc0 : l0.length ≤ c0) (h : impl_entryAt.f l0 a1 = some r) :
  Calls Try.prog 39 #[.slice A0 l0.length c0, .string a1] w fun e w' => e = .returned (.int .i64 r) ∧ Below w.heap.size w w' := by
 obtain rfl := Option.some.inj h; clear h
 have eg : ∀ args w, (callFunc 85 args).run Try.prog w = .ok (.enter 85 args) w := enters_of Try.func85 (by kernel_rfl) rfl
 have hpred := fun (W : World) hB hc => impl_entryAt.pred a1 w.heap.size W hB hc
 have hcon : Calls Try.prog 84 #[.slice A0 l0.length c0, .func (.func 85) #[] #[.pointer (some ⟨w.heap.size, 0, none⟩)]] (w.alloc (.cells #[.string a1] 9)) fun e w' => e = .returned (.int .i64 (Go.Lib.idxBy (fun _ (y : ByteArray × ByteArray) => decide (y.1 = a1)) (l0.map (fun x => (x.f0, x.f1))) default)) ∧ Below (w.alloc (.cells #[.string a1] 9)).heap.size (w.alloc (.cells #[.string a1] 9)) w' := by
  rcases Nat.eq_zero_or_pos l0.length with hn | hn
  ·have e : l0 = [] := List.length_eq_zero_iff.1 hn
   subst e
   exact (impl_entryAt.zero_ A0 c0 _ _).mono fun e w' h => ⟨h.1, h.2 ▸ Below.refl _ _⟩
  ·obtain ⟨⟨b, o, sp⟩, rfl, h00, _⟩ := at_T66 hr0 0 (by omega) (by omega)
   have hsp : sp = none := by
    cases sp with
    | none => rfl
    | some q =>
     have h01 : w.cell? ⟨b, o, some q⟩ = some (.string (rd_T66 l0 0).f0) := h00
     unfold World.cell? at h01
     split at h01
     ·simp at h01
     ·cases h01
   subst hsp; clear h00
   have hcells : ∀ j : Nat, j < l0.length → w.cell? ⟨b, o + j * 2, none⟩ = some (.string (rd_T66 l0 (j : Int)).f0) ∧ w.cell? ⟨b, o + j * 2 + 1, none⟩ = some (.string (rd_T66 l0 (j : Int)).f1) := by
    intro j hj; obtain ⟨ad', e', h0, h1⟩ := at_T66 hr0 (j : Int) (by omega) (by omega)
    cases e'
    rw [Int.toNat_natCast, Addr.add_lit] at h0 h1
    exact ⟨h0, h1⟩
   have hblk : b < w.heap.size := World.block_lt_of_cell? w ⟨b, o + 0 * 2, none⟩ (hcells 0 hn).1
   have hlen : l0.length ≤ 9223372036854775807 := hr0.2.1
   have := AnyQ.slices_IndexFunc (α := ByteArray × ByteArray) Try.layIdx 2 Try.isAgg66 Try.sizeOf66 impl_entryAt.enc (fun _ => rfl) (fun x => decide (x.1 = a1)) 85 #[.pointer (some ⟨w.heap.size, 0, none⟩)] eg b o l0.length c0 (l0.map (fun x => (x.f0, x.f1))) (w.alloc (.cells #[.string a1] 9))
    (hpred _ (by simp) (by simp)) (by simp) hlen (by simp; omega) (fun j hj i v hi => by
     rw [List.length_map] at hj
     refine Go.Lib.cell?_alloc_some _ ?_
     have h1 := hcells j hj
     have e : (l0.map (fun x => (x.f0, x.f1)))[j]! = ((rd_T66 l0 (j : Int)).f0, (rd_T66 l0 (j : Int)).f1) := by
      rw [getElem!_pos _ j (by simpa using hj)]
      simp [rd_T66, List.getD_eq_getElem?_getD, List.getElem?_eq_getElem hj]
     rw [e] at hi
     match i, hi with
     | 0, hi => simp [impl_entryAt.enc] at hi; rw [← hi]; exact h1.1
     | 1, hi => simp [impl_entryAt.enc] at hi; rw [← hi]; exact h1.2
     | i + 2, hi => simp [impl_entryAt.enc] at hi)
   rw [List.take_of_length_le (by simp)] at this
   change Calls Try.prog 84 _ _ _ at this
   exact this
 clear hr0 hc0 hpred eg
 generalize Go.Lib.idxBy (fun _ (y : ByteArray × ByteArray) => decide (y.1 = a1)) (l0.map (fun x => (x.f0, x.f1))) default = r at hcon ⊢
 go_enter Try.func39, Try.ntmps39
 go_wp2_with (go_at_call 84; refine hcon.mono ?_; rintro e w' ⟨rfl, hb'⟩)
 go_ret
 exact ⟨rfl, ((Below.refl _ w).alloc (Nat.le_refl _) _).trans (hb'.mono (by simp))⟩

/-! ### impl_Entry_86: function 86 -/
def impl_Entry_86.l0 : Nat → List (S66) → Int → Int → ByteArray → ByteArray → Option (Int)
 | 0, _, _, _, _, _ => none
 | k + 1, x0, x7, x8, x191000, x191001 => if x8 < x7 then (if 0 ≤ x8 then (if x8 < (x0.length : Int) then (if (x191000.toList == (((rd_T66 x0 x8).f0).toList) && (x191001.toList == (((rd_T66 x0 x8).f1).toList))) = true then (some x8) else (impl_Entry_86.l0 k x0 x7 (wrap64 (x8 + 1)) x191000 x191001)) else (none)) else (none)) else (some (-1))
def impl_Entry_86.f (k : Nat) (l0 : List (S66)) (a1_0 : ByteArray) (a1_1 : ByteArray) : Option (Int) := impl_Entry_86.l0 k l0 (l0.length : Int) 0 a1_0 a1_1
theorem impl_Entry_86.calls (k : Nat) (A0 : Option Addr) (c0 : Nat) (l0 : List (S66)) (a1_0 : ByteArray) (a1_1 : ByteArray) (r : Int) (w : World) (hr0 : Kd.C k66 w A0 l0.length l0) (hc0 : l0.length ≤ c0) (h : impl_Entry_86.f k l0 a1_0 a1_1 = some r) :
  Calls Try.prog 86 #[.slice A0 l0.length c0, .agg #[.string a1_0, .string a1_1]] w fun e w' => e = .returned (.int .i64 r) ∧ Below w.heap.size w w' := by
 have hu66 := Try.underlying66; have HR0 := am hr0; have HC0 := am hc0; clear hr0 hc0; have HB := am (Below.refl w.heap.size w)
 have H := h; unfold impl_Entry_86.f at H
 clear h
 have H' := am H
 clear H; go_enter Try.func86, Try.ntmps86
 go_wp2_with ((with_reducible refine gate_dst (N := 3) rfl ?_); refine bx 3 (cs := #[.string a1_0, .string a1_1]) (t := 66) ?_; intro gb190 hg w3 hbox hb; have BK190 := am (hbox); have GW190 := am ((b26_ : w.heap.size ≤ gb190)); have GE190 := am ((b26_ : w.heap.size ≤ gb190)); replace HB := am (below_step bel hb); clear hb hbox hg)
 go_loopg [8] k (fun kq v8 w' => ∃ (x8_1 : Int), v8 = .int .i64 x8_1 ∧ Aside0 (impl_Entry_86.l0 kq l0 (l0.length : Int) x8_1 a1_0 a1_1 = some r) ∧ Aside0 (kq ≤ k) ∧ Aside0 (w'.heap[gb190]? = some (.cells #[.string a1_0, .string a1_1] 66 (0, 0))) ∧ Aside0 (Below w.heap.size w w'))
 case atStart => exact ⟨(0), sq, H', ⟨Nat.le_refl _⟩, ⟨bq BK190.out⟩, ⟨bel1 GE190.out⟩⟩
 case round =>
  clear H'; obtain ⟨x8_1, rfl, HA, HK1, BK190, HB⟩ := hrel
  cases gk with
  | zero => exact absurd HA.out (by simp [impl_Entry_86.l0])
  | succ k1 =>
   have H := HA.out; clear HA; simp only [impl_Entry_86.l0] at H
   by_cases c4 : x8_1 < (l0.length : Int)
   ·rw [if_pos c4] at H; have c4b0 := decide_eq_true c4; clear c4
    replace H := it H; obtain ⟨c5b0, H⟩ := H; replace H := it H; obtain ⟨c6b0, H⟩ := H
    by_cases c7 : (a1_0.toList == (((rd_T66 l0 x8_1).f0).toList) && (a1_1.toList == (((rd_T66 l0 x8_1).f1).toList))) = true
    ·rw [if_pos c7] at H
     have c7b0 : (a1_0.toList == (((rd_T66 l0 x8_1).f0).toList) && (a1_1.toList == (((rd_T66 l0 x8_1).f1).toList))) = true := c7
     (have c7b1 : decide (a1_0.toList = (((rd_T66 l0 x8_1).f0).toList) && (a1_1.toList == (((rd_T66 l0 x8_1).f1).toList))) = true := by simpa using c7)
     (have c7b2 : (a1_0.toList == (((rd_T66 l0 x8_1).f0).toList) && (a1_1.toList == (((rd_T66 l0 x8_1).f1).toList))) = true := by simpa using c7)
     clear c7; obtain rfl := Option.some.inj H; have ⟨hcz8_0, hcz8_1, hfz8_0, hfz8_1⟩ := b2c BK190.out
     have p191 : 0 ≤ (x8_1 : Int) := of_decide_eq_true ad
     have q191 : x8_1 < (l0.length : Int) := of_decide_eq_true ad
     obtain ⟨ad191, e191, hx191_0, hx191_1⟩ := at_T66 HR0.out x8_1 p191 q191; cases e191
     replace hx191_0 := kp HB.out hx191_0; replace hx191_1 := kp HB.out hx191_1; replace p191 := eq_true p191; replace q191 := eq_true q191; go_wp2
     repeat (go_quiet (fail); try go_wp2)
     go_ret
     exact ⟨eq_, bel1 GE190.out⟩
    rw [if_neg c7] at H
    have c7b0 : (a1_0.toList == (((rd_T66 l0 x8_1).f0).toList) && (a1_1.toList == (((rd_T66 l0 x8_1).f1).toList))) = false := by simpa using c7
    (have c7b1 : decide (a1_0.toList = (((rd_T66 l0 x8_1).f0).toList) && (a1_1.toList == (((rd_T66 l0 x8_1).f1).toList))) = false := by simpa using c7)
    (have c7b2 : (a1_0.toList == (((rd_T66 l0 x8_1).f0).toList) && (a1_1.toList == (((rd_T66 l0 x8_1).f1).toList))) = false := by simpa using c7)
    (have c7b3 : ¬ (a1_0.toList = (((rd_T66 l0 x8_1).f0).toList) && (a1_1.toList == (((rd_T66 l0 x8_1).f1).toList))) := by simpa using c7)
    clear c7
    have H' := am H
    clear H; have ⟨hcz9_0, hcz9_1, hfz9_0, hfz9_1⟩ := b2c BK190.out
    have p191 : 0 ≤ (x8_1 : Int) := of_decide_eq_true ad
    have q191 : x8_1 < (l0.length : Int) := of_decide_eq_true ad
    obtain ⟨ad191, e191, hx191_0, hx191_1⟩ := at_T66 HR0.out x8_1 p191 q191; cases e191
    replace hx191_0 := kp HB.out hx191_0; replace hx191_1 := kp HB.out hx191_1; replace p191 := eq_true p191; replace q191 := eq_true q191; go_wp2
    repeat (go_quiet (fail); try go_wp2)
    go_roundg k1
    case measure => have := HK1.out; omega
    case rel => exact ⟨(wrap64 (x8_1 + 1)), sq, H', ⟨b129_⟩, ⟨bq BK190.out⟩, ⟨bel1 GE190.out⟩⟩
   rw [if_neg c4] at H; have c4b0 := decide_eq_false c4; clear c4; obtain rfl := Option.some.inj H; go_wp2
   go_ret
   exact ⟨eq_, bel1 GE190.out⟩

/-! ### impl_Entry_40: function 40 -/
def impl_Entry_40.f (k : Nat) (l0 : List (S66)) (a1_0 : ByteArray) (a1_1 : ByteArray) : Option (Bool) := (impl_Entry_86.f k l0 a1_0 a1_1).bind fun t193 => (some (decide (t193 ≥ 0)))
theorem impl_Entry_40.calls (k : Nat) (A0 : Option Addr) (c0 : Nat) (l0 : List (S66)) (a1_0 : ByteArray) (a1_1 : ByteArray) (r : Bool) (w : World) (hr0 : Kd.C k66 w A0 l0.length l0) (hc0 : l0.length ≤ c0) (h : impl_Entry_40.f k l0 a1_0 a1_1 = some r) :
  Calls Try.prog 40 #[.slice A0 l0.length c0, .agg #[.string a1_0, .string a1_1]] w fun e w' => e = .returned (.bool r) ∧ Below w.heap.size w w' := by
 have hu66 := Try.underlying66; have HR0 := am hr0; have HC0 := am hc0; clear hr0 hc0; have HB := am (Below.refl w.heap.size w)
 have H := h; unfold impl_Entry_40.f at H
 clear h; replace H := bs H; obtain ⟨t193, A30, H⟩ := H; have A3 := Aside0.mk A30; clear A30; obtain rfl := Option.some.inj H; go_enter Try.func40, Try.ntmps40
 go_wp2_with (first | ((with_reducible refine gate_dst (N := 3) rfl ?_); refine bx 3 (cs := #[.string a1_0, .string a1_1]) (t := 66) ?_; intro gb192 hg w4 hbox hb; have BK192 := am (hbox); have GW192 := am ((b26_ : w.heap.size ≤ gb192)); have GE192 := am ((b26_ : w.heap.size ≤ gb192)); replace HB := am (below_step bel hb); clear hb hbox hg; have ⟨hcz5_0, hcz5_1, hfz5_0, hfz5_1⟩ := b2c BK192.out) | ((with_reducible refine gate_callee (f := 86) rfl ?_); refine gl 7 Try.func86 #[.slice A0 l0.length c0, .agg #[.string a1_0, .string a1_1]] ?_; (with_reducible refine (impl_Entry_86.calls k _ _ l0 a1_0 a1_1 t193 _ ?side1 ?side2 A3.out).mono ?_); (case side1 => exact cq (Kd.C_below HR0.out HB.out)); (case side2 => exact HC0.out); rintro e w6 ⟨rfl, hb⟩; refine ⟨_, rfl, ?_⟩; replace BK192 := am (blk_below (bq BK192.out) hb); replace HB := am (below_step (bel1 GE192.out) hb); clear hb))
 go_ret
 exact ⟨eq_, bel1 GE192.out⟩
-- shrunk

attribute [local go_sem high] eqA73
/-! ### impl_Affix_41: function 41 -/
def impl_Affix_41.l0 : Nat → List (S73) → List (S73) → Int → Int → Option (Bool)
 | 0, _, _, _, _ => none
 | k + 1, x0, x1, x12, x13 => if x13 < x12 then (if 0 ≤ x13 then (if x13 < (x0.length : Int) then (if x13 < (x1.length : Int) then (if (!((((rd_T73 x0 x13).f0).toList) == (((rd_T73 x1 x13).f0).toList)) || (!(((rd_T73 x0 x13).f1) == ((rd_T73 x1 x13).f1)) || (!((((rd_T73 x0 x13).f2).toList) == (((rd_T73 x1 x13).f2).toList)) || (!((((rd_T73 x0 x13).f3).toList) == (((rd_T73 x1 x13).f3).toList)) || (!((((rd_T73 x0 x13).f4).toList) == (((rd_T73 x1 x13).f4).toList))))))) = true then (some false) else (impl_Affix_41.l0 k x0 x1 x12 (wrap64 (x13 + 1)))) else (none)) else (none)) else (none)) else (some true)
def impl_Affix_41.f (k : Nat) (l0 : List (S73)) (l1 : List (S73)) : Option (Bool) := if (l0.length : Int) = (l1.length : Int) then (impl_Affix_41.l0 k l0 l1 (l0.length : Int) 0) else (some false)
theorem impl_Affix_41.calls (k : Nat) (A0 : Option Addr) (c0 : Nat) (l0 : List (S73)) (A1 : Option Addr) (c1 : Nat) (l1 : List (S73)) (r : Bool) (w : World) (hr0 : Kd.C k73 w A0 l0.length l0) (hc0 : l0.length ≤ c0) (hr1 : Kd.C k73 w A1 l1.length l1) (hc1 : l1.length ≤ c1) (h : impl_Affix_41.f k l0 l1 = some r) :
  Calls Try.prog 41 #[.slice A0 l0.length c0, .slice A1 l1.length c1] w fun e w' => e = .returned (.bool r) ∧ Drawn0 w w' := by
 have hu73 := Try.underlying73; have HR0 := am hr0; have HC0 := am hc0; clear hr0 hc0; have HR1 := am hr1; have HC1 := am hc1; clear hr1 hc1
 have H := h; unfold impl_Affix_41.f at H
 clear h
 by_cases c3 : (l0.length : Int) = (l1.length : Int)
 ·rw [if_pos c3] at H
  have c3b0 : ((l0.length : Int) == (l1.length : Int)) = true := beq_iff_eq.mpr c3
  have c3b1 : ((l0.length : Int) != (l1.length : Int)) = false := bne_eq_false_iff_eq.mpr c3
  have c3b2 : (l0.length == l1.length) = true := b159_
  clear c3
  have H' := am H
  clear H; go_enter Try.func41, Try.ntmps41; go_wp2
  go_loopg [13] k (fun kq v13 w' => ∃ (x13_1 : Int), v13 = .int .i64 x13_1 ∧ Aside0 (impl_Affix_41.l0 kq l0 l1 (l0.length : Int) x13_1 = some r) ∧ Aside0 (kq ≤ k) ∧ Drawn0 w w')
  case atStart => exact ⟨(0), sq, H', ⟨Nat.le_refl _⟩, dr⟩
  case round =>
   clear H'; clear c3b0 c3b1 c3b2; obtain ⟨x13_1, rfl, HA, HK1, ⟨m1, rfl⟩⟩ := hrel
   cases gk with
   | zero => exact absurd HA.out (by simp [impl_Affix_41.l0])
   | succ k1 =>
    have H := HA.out; clear HA; simp only [impl_Affix_41.l0] at H
    by_cases c4 : x13_1 < (l0.length : Int)
    ·rw [if_pos c4] at H; have c4b0 := decide_eq_true c4; clear c4
     replace H := it H; obtain ⟨c5b0, H⟩ := H; replace H := it H; obtain ⟨c6b0, H⟩ := H; replace H := it H; obtain ⟨c7b0, H⟩ := H
     by_cases c8 : (!((((rd_T73 l0 x13_1).f0).toList) == (((rd_T73 l1 x13_1).f0).toList)) || (!(((rd_T73 l0 x13_1).f1) == ((rd_T73 l1 x13_1).f1)) || (!((((rd_T73 l0 x13_1).f2).toList) == (((rd_T73 l1 x13_1).f2).toList)) || (!((((rd_T73 l0 x13_1).f3).toList) == (((rd_T73 l1 x13_1).f3).toList)) || (!((((rd_T73 l0 x13_1).f4).toList) == (((rd_T73 l1 x13_1).f4).toList))))))) = true
     ·rw [if_pos c8] at H
      have c8b0 : (!((((rd_T73 l0 x13_1).f0).toList) == (((rd_T73 l1 x13_1).f0).toList)) || (!(((rd_T73 l0 x13_1).f1) == ((rd_T73 l1 x13_1).f1)) || (!((((rd_T73 l0 x13_1).f2).toList) == (((rd_T73 l1 x13_1).f2).toList)) || (!((((rd_T73 l0 x13_1).f3).toList) == (((rd_T73 l1 x13_1).f3).toList)) || (!((((rd_T73 l0 x13_1).f4).toList) == (((rd_T73 l1 x13_1).f4).toList))))))) = true := c8
      clear c8; obtain rfl := Option.some.inj H
      have p194 : 0 ≤ (x13_1 : Int) := of_decide_eq_true ad
      have q194 : x13_1 < (l0.length : Int) := of_decide_eq_true ad
      obtain ⟨ad194, e194, hx194_0, hx194_1, hx194_2, hx194_3, hx194_4⟩ := at_T73 HR0.out x13_1 p194 q194; cases e194; replace p194 := eq_true p194; replace q194 := eq_true q194
      have p195 : 0 ≤ (x13_1 : Int) := of_decide_eq_true ad
      have q195 : x13_1 < (l1.length : Int) := of_decide_eq_true ad
      obtain ⟨ad195, e195, hx195_0, hx195_1, hx195_2, hx195_3, hx195_4⟩ := at_T73 HR1.out x13_1 p195 q195; cases e195
      replace p195 := eq_true p195; replace q195 := eq_true q195; go_wp2
      repeat (go_quiet (fail); try go_wp2)
      go_ret
      exact ⟨sq, dr⟩
     rw [if_neg c8] at H
     have c8b0 : (!((((rd_T73 l0 x13_1).f0).toList) == (((rd_T73 l1 x13_1).f0).toList)) || (!(((rd_T73 l0 x13_1).f1) == ((rd_T73 l1 x13_1).f1)) || (!((((rd_T73 l0 x13_1).f2).toList) == (((rd_T73 l1 x13_1).f2).toList)) || (!((((rd_T73 l0 x13_1).f3).toList) == (((rd_T73 l1 x13_1).f3).toList)) || (!((((rd_T73 l0 x13_1).f4).toList) == (((rd_T73 l1 x13_1).f4).toList))))))) = false := by simpa using c8
     clear c8
     have H' := am H
     clear H
     have p194 : 0 ≤ (x13_1 : Int) := of_decide_eq_true ad
     have q194 : x13_1 < (l0.length : Int) := of_decide_eq_true ad
     obtain ⟨ad194, e194, hx194_0, hx194_1, hx194_2, hx194_3, hx194_4⟩ := at_T73 HR0.out x13_1 p194 q194; cases e194; replace p194 := eq_true p194; replace q194 := eq_true q194
     have p195 : 0 ≤ (x13_1 : Int) := of_decide_eq_true ad
     have q195 : x13_1 < (l1.length : Int) := of_decide_eq_true ad
     obtain ⟨ad195, e195, hx195_0, hx195_1, hx195_2, hx195_3, hx195_4⟩ := at_T73 HR1.out x13_1 p195 q195; cases e195
     replace p195 := eq_true p195; replace q195 := eq_true q195; go_wp2
     repeat (go_quiet (fail); try go_wp2)
     go_roundg k1
     case measure => have := HK1.out; omega
     case rel => exact ⟨(wrap64 (x13_1 + 1)), sq, H', ⟨b129_⟩, dr⟩
    rw [if_neg c4] at H; have c4b0 := decide_eq_false c4; clear c4; obtain rfl := Option.some.inj H; go_wp2
    go_ret
    exact ⟨sq, dr⟩
 rw [if_neg c3] at H
 have c3b0 : ((l0.length : Int) == (l1.length : Int)) = false := beq_eq_false_iff_ne.mpr c3
 have c3b1 : ((l0.length : Int) != (l1.length : Int)) = true := bne_iff_ne.mpr c3
 have c3b2 : (l0.length == l1.length) = false := b159_
 obtain rfl := Option.some.inj H; go_enter Try.func41, Try.ntmps41; go_wp2
 go_ret
 exact ⟨sq, dr⟩

/-! ### impl_DeltaOf: function 9 -/
mutual
def impl_DeltaOf.j0 : Nat → Bool → List (S73) → List (S66) → List (S73) → List (S66) → Option (List ByteArray × (List (S66)) × Bool × (List (S73)))
 | 0, _, _, _, _, _ => none
 | k + 1, x17, x197000, x197001, x198000, x198001 => if x17 = true then (some (([] : List ByteArray), ([] : List (S66)), false, ([] : List (S73)))) else (impl_DeltaOf.l0 k x197001 (x197001.length : Int) 0 x197000 x197001 x198000 x198001 (([] : List ByteArray)) (([] : List (S66))) false (([] : List (S73))))
def impl_DeltaOf.l0 : Nat → List (S66) → Int → Int → List (S73) → List (S66) → List (S73) → List (S66) → List ByteArray → List (S66) → Bool → List (S73) → Option (List ByteArray × (List (S66)) × Bool × (List (S73)))
 | 0, _, _, _, _, _, _, _, _, _, _, _ => none
 | k + 1, x24, x25, x26, x197000, x197001, x198000, x198001, x211000, x211001, x211002, x211003 => if x26 < x25 then (if 0 ≤ x26 then (if x26 < (x24.length : Int) then ((impl_entryAt.f x198001 ((rd_T66 x24 x26).f0)).bind fun t213 => (if t213 < 0 then (if x211000.length < 8796093022208 then (impl_DeltaOf.l0 k x24 x25 (wrap64 (x26 + 1)) x197000 x197001 x198000 x198001 (x211000 ++ [(rd_T66 x24 x26).f0]) x211001 x211002 x211003) else (none)) else (impl_DeltaOf.l0 k x24 x25 (wrap64 (x26 + 1)) x197000 x197001 x198000 x198001 x211000 x211001 x211002 x211003))) else (none)) else (none)) else (impl_DeltaOf.l1 k x198001 (x198001.length : Int) 0 x197000 x197001 x198000 x198001 x211000 x211001 x211002 x211003)
def impl_DeltaOf.l1 : Nat → List (S66) → Int → Int → List (S73) → List (S66) → List (S73) → List (S66) → List ByteArray → List (S66) → Bool → List (S73) → Option (List ByteArray × (List (S66)) × Bool × (List (S73)))
 | 0, _, _, _, _, _, _, _, _, _, _, _ => none
 | k + 1, x45, x46, x47, x197000, x197001, x198000, x198001, x211000, x211001, x211002, x211003 => if x47 < x46 then (if 0 ≤ x47 then (if x47 < (x45.length : Int) then ((impl_Entry_40.f k x197001 ((rd_T66 x45 x47).f0) ((rd_T66 x45 x47).f1)).bind fun t219 => (if t219 = true then (impl_DeltaOf.l1 k x45 x46 (wrap64 (x47 + 1)) x197000 x197001 x198000 x198001 x211000 x211001 x211002 x211003) else (if x211001.length < 4398046511104 then (impl_DeltaOf.l1 k x45 x46 (wrap64 (x47 + 1)) x197000 x197001 x198000 x198001 x211000 (x211001 ++ [(⟨(rd_T66 x45 x47).f0, (rd_T66 x45 x47).f1⟩ : S66)]) x211002 x211003) else (none)))) else (none)) else (none)) else ((impl_Affix_41.f k x197000 x198000).bind fun t223 => (if t223 = true then (some (x211000, x211001, x211002, x211003)) else (if x211003.length + x198000.length < 1954687338268 then (some (x211000, x211001, true, (x211003 ++ x198000))) else (none))))
end
def impl_DeltaOf.f (k : Nat) (l0_0 : List (S73)) (l0_1 : List (S66)) (l1_0 : List (S73)) (l1_1 : List (S66)) : Option (List ByteArray × (List (S66)) × Bool × (List (S73))) := (impl_BookOk.f k l0_0 l0_1).bind fun t199 => (if t199 = true then ((impl_BookOk.f k l1_0 l1_1).bind fun t200 => (impl_DeltaOf.j0 k (!t200) l0_0 l0_1 l1_0 l1_1)) else (impl_DeltaOf.j0 k true l0_0 l0_1 l1_0 l1_1))
theorem impl_DeltaOf.calls (k : Nat) (A0_0 : Option Addr) (c0_0 : Nat) (l0_0 : List (S73)) (A0_1 : Option Addr) (c0_1 : Nat) (l0_1 : List (S66)) (A1_0 : Option Addr) (c1_0 : Nat) (l1_0 : List (S73)) (A1_1 : Option Addr) (c1_1 : Nat) (l1_1 : List (S66)) (r1 : List ByteArray) (r2 : List (S66)) (r3 : Bool) (r4 : List (S73)) (w : World) (hr0_0 : Kd.C k73 w A0_0 l0_0.length l0_0) (hc0_0 : l0_0.length ≤ c0_0) (hr0_1 : Kd.C k66 w A0_1 l0_1.length l0_1) (hc0_1 : l0_1.length ≤ c0_1) (hr1_0 : Kd.C k73 w A1_0 l1_0.length l1_0) (hc1_0 : l1_0.length ≤ c1_0) (hr1_1 : Kd.C k66 w A1_1 l1_1.length l1_1) (hc1_1 : l1_1.length ≤ c1_1) (h : impl_DeltaOf.f k l0_0 l0_1 l1_0 l1_1 = some (r1, r2, r3, r4)) :
  Calls Try.prog 9 #[.agg #[.slice A0_0 l0_0.length c0_0, .slice A0_1 l0_1.length c0_1], .agg #[.slice A1_0 l1_0.length c1_0, .slice A1_1 l1_1.length c1_1]] w fun e w' => ∃ v0_ v1_ v3_ : Value, e = .returned (.agg #[v0_, v1_, .bool r3, v3_]) ∧ Kd.R Kd.string 9 w' w.heap.size (fun _ => True) v0_ r1 ∧ Kd.R k66 66 w' w.heap.size (fun _ => True) v1_ r2 ∧ Kd.R k73 73 w' w.heap.size (fun _ => True) v3_ r4 ∧ Below w.heap.size w w' := by
 have hu34 := Try.underlying34; have hu31 := Try.underlying31; have hu66 := Try.underlying66; have HR0_0 := am hr0_0; have HC0_0 := am hc0_0; clear hr0_0 hc0_0; have HR0_1 := am hr0_1; have HC0_1 := am hc0_1; clear hr0_1 hc0_1; have HR1_0 := am hr1_0; have HC1_0 := am hc1_0; clear hr1_0 hc1_0; have HR1_1 := am hr1_1; have HC1_1 := am hc1_1; clear hr1_1 hc1_1; have HB := am (Below.refl w.heap.size w)
 have H := h; unfold impl_DeltaOf.f at H
 clear h; have HC3 := am H; clear H; go_enter Try.func9, Try.ntmps9
 go_upto_region 1 with (first | ((with_reducible refine gate_dst (N := 2) rfl ?_); refine bx 2 (cs := #[.slice A0_0 l0_0.length c0_0, .slice A0_1 l0_1.length c0_1]) (t := 34) ?_; intro gb196 hg w4 hbox hb; have BK196 := am (hbox); have GW196 := am ((b26_ : w.heap.size ≤ gb196)); have GE196 := am ((b26_ : w.heap.size ≤ gb196)); replace HB := am (below_step bel hb); clear hb hbox hg) | ((with_reducible refine gate_dst (N := 3) rfl ?_); refine bx 3 (cs := #[.slice A1_0 l1_0.length c1_0, .slice A1_1 l1_1.length c1_1]) (t := 34) ?_; intro gb197 hg w5 hbox hb; have BK197 := am (hbox); have GW197 := am ((by rw [hg]; exact (below_size (bel1 GE196.out)) : w.heap.size ≤ gb197)); have GE197 := am ((by rw [hg]; exact (below_size (bel1 GE196.out)) : w.heap.size ≤ gb197)); replace HB := am (below_step (bel1 GE196.out) hb); have NB196_197 := am ((b103_ : gb196 ≠ gb197)); have NB197_196 := am ((b104_ : gb197 ≠ gb196)); replace BK196 := am (blk_below (bq BK196.out) hb); clear hb hbox hg) | ((with_reducible refine gate_dst (N := 4) rfl ?_); refine bx 4 (cs := #[.slice none 0 0, .slice none 0 0, .bool false, .slice none 0 0]) (t := 31) ?_; intro gb198 hg w6 hbox hb; have BK198 := am (hbox); have GW198 := am ((by rw [hg]; exact (below_size (bel2 GE196.out GE197.out)) : w.heap.size ≤ gb198)); have GE198 := am ((by rw [hg]; exact (below_size (bel2 GE196.out GE197.out)) : w.heap.size ≤ gb198)); replace HB := am (below_step (bel2 GE196.out GE197.out) hb); have NB196_198 := am ((b103_ : gb196 ≠ gb198)); have NB198_196 := am ((b104_ : gb198 ≠ gb196)); replace BK196 := am (blk_below (bq BK196.out) hb); have NB197_198 := am ((b115_ : gb197 ≠ gb198)); have NB198_197 := am ((b116_ : gb198 ≠ gb197)); replace BK197 := am (blk_below (bq BK197.out) hb); clear hb hbox hg))
 simp only [Act.put, List.setIfInBounds_toArray, List.set_cons_zero, List.set_cons_succ]
 go_cut [17] (fun v17 wc => ∃ (kq : Nat) (x17_2 : Bool), v17 = .bool x17_2 ∧ Aside0 (impl_DeltaOf.j0 kq x17_2 l0_0 l0_1 l1_0 l1_1 = some (r1, r2, r3, r4)) ∧ Aside0 (kq ≤ k) ∧ Aside0 (wc.heap[gb196]? = some (.cells #[(.slice A0_0 l0_0.length c0_0), (.slice A0_1 l0_1.length c0_1)] 34 (0, 0))) ∧ Aside0 (wc.heap[gb197]? = some (.cells #[(.slice A1_0 l1_0.length c1_0), (.slice A1_1 l1_1.length c1_1)] 34 (0, 0))) ∧ Aside0 (wc.heap[gb198]? = some (.cells #[(.slice none 0 0), (.slice none 0 0), .bool false, (.slice none 0 0)] 31 (0, 0))) ∧ Aside0 (Below w.heap.size w wc))
 case first =>
  have H := HC3.out; clear HC3; replace H := bs H; obtain ⟨t199, A70, H⟩ := H; have A7 := Aside0.mk A70; clear A70
  by_cases c8 : t199 = true
  ·subst c8
   rw [if_pos rfl] at H
   replace H := bs H; obtain ⟨t200, A90, H⟩ := H; have A9 := Aside0.mk A90; clear A90
   have H' := am H
   clear H; have hnb10 := NB196_197.out; have hnc10 := NB197_196.out; have hnb11 := NB196_198.out; have hnc11 := NB198_196.out; have ⟨hcz12_0, hcz12_1, hfz12_0, hfz12_1⟩ := b2c BK196.out
   go_wp2_with (first | ((with_reducible refine gate_callee (f := 38) rfl ?_); refine gl 11 Try.func38 #[.agg #[.slice A0_0 l0_0.length c0_0, .slice A0_1 l0_1.length c0_1]] ?_; (with_reducible refine (impl_BookOk.calls k _ _ l0_0 _ _ l0_1 true _ ?side1 ?side2 ?side3 ?side4 A7.out).mono ?_); (case side1 => exact cq (Kd.C_below HR0_0.out HB.out)); (case side2 => exact HC0_0.out); (case side3 => exact cq (Kd.C_below HR0_1.out HB.out)); (case side4 => exact HC0_1.out); rintro e w13 ⟨rfl, hb⟩; refine ⟨_, rfl, ?_⟩; replace BK196 := am (blk_below (bq BK196.out) hb); replace BK197 := am (blk_below (bq BK197.out) hb); replace BK198 := am (blk_below (bq BK198.out) hb); replace HB := am (below_step (bel3 GE196.out GE197.out GE198.out) hb); clear hb; have hnb14 := NB197_198.out; have hnc14 := NB198_197.out; have ⟨hcz15_0, hcz15_1, hfz15_0, hfz15_1⟩ := b2c BK197.out) | (go_at_call 38; (with_reducible refine (impl_BookOk.calls k _ _ l1_0 _ _ l1_1 t200 _ ?side1 ?side2 ?side3 ?side4 A9.out).mono ?_); (case side1 => exact cq (Kd.C_below HR1_0.out HB.out)); (case side2 => exact HC1_0.out); (case side3 => exact cq (Kd.C_below HR1_1.out HB.out)); (case side4 => exact HC1_1.out); rintro e w16 ⟨rfl, hb⟩; replace BK196 := am (blk_below (bq BK196.out) hb); replace BK197 := am (blk_below (bq BK197.out) hb); replace BK198 := am (blk_below (bq BK198.out) hb); replace HB := am (below_step (bel3 GE196.out GE197.out GE198.out) hb); clear hb))
   go_meet
   case rel => exact ⟨_, (!t200), sq, H', ⟨b81_⟩, ⟨bq BK196.out⟩, ⟨bq BK197.out⟩, ⟨bq BK198.out⟩, ⟨bel3 GE196.out GE197.out GE198.out⟩⟩
  replace c8 := Bool.eq_false_iff.mpr c8; subst c8
  rw [if_neg Bool.false_ne_true] at H
  have H' := am H
  clear H; have hnb17 := NB196_197.out; have hnc17 := NB197_196.out; have hnb18 := NB196_198.out; have hnc18 := NB198_196.out; have ⟨hcz19_0, hcz19_1, hfz19_0, hfz19_1⟩ := b2c BK196.out
  go_wp2_with ((with_reducible refine gate_callee (f := 38) rfl ?_); refine gl 11 Try.func38 #[.agg #[.slice A0_0 l0_0.length c0_0, .slice A0_1 l0_1.length c0_1]] ?_; (with_reducible refine (impl_BookOk.calls k _ _ l0_0 _ _ l0_1 false _ ?side1 ?side2 ?side3 ?side4 A7.out).mono ?_); (case side1 => exact cq (Kd.C_below HR0_0.out HB.out)); (case side2 => exact HC0_0.out); (case side3 => exact cq (Kd.C_below HR0_1.out HB.out)); (case side4 => exact HC0_1.out); rintro e w20 ⟨rfl, hb⟩; refine ⟨_, rfl, ?_⟩; replace BK196 := am (blk_below (bq BK196.out) hb); replace BK197 := am (blk_below (bq BK197.out) hb); replace BK198 := am (blk_below (bq BK198.out) hb); replace HB := am (below_step (bel3 GE196.out GE197.out GE198.out) hb); clear hb)
  go_meet
  case rel => exact ⟨_, (true), sq, H', ⟨b81_⟩, ⟨bq BK196.out⟩, ⟨bq BK197.out⟩, ⟨bq BK198.out⟩, ⟨bel3 GE196.out GE197.out GE198.out⟩⟩
 case rest =>
  clear HC3; obtain ⟨kq, x17_2, rfl, HA, HJ2, BK196, BK197, BK198, HB⟩ := hcut
  cases kq with
  | zero => exact absurd HA.out (by simp [impl_DeltaOf.j0])
  | succ kj2 =>
   have H := HA.out; clear HA; simp only [impl_DeltaOf.j0] at H
   by_cases c21 : x17_2 = true
   ·subst c21
    rw [if_pos rfl] at H; simp only [Option.some.injEq, Prod.mk.injEq] at H
    obtain ⟨rfl, rfl, rfl, rfl⟩ := H; have hnb22 := NB198_196.out; have hnc22 := NB196_198.out; have hnb23 := NB198_197.out; have hnc23 := NB197_198.out; have ⟨hcz24_0, hcz24_1, hcz24_2, hcz24_3, hfz24_0, hfz24_1, hfz24_2, hfz24_3⟩ := b4c BK198.out; go_wp2
    refine bodyPost_ret (results_cell_row rfl _ _ gb198 31 #[.slice none 0 0, .slice none 0 0, .bool false, .slice none 0 0] (0, 0) _ rfl (by (with_reducible repeat (fail)); refine blk_put (cs := #[.slice none 0 0, .slice none 0 0, .bool false, .slice none 0 0]) ?_ 3 _ rfl; (with_reducible repeat (fail)); refine blk_put (cs := #[.slice none 0 0, .slice none 0 0, .bool false, .slice none 0 0]) ?_ 2 _ rfl; (with_reducible repeat (fail)); refine blk_put (cs := #[.slice none 0 0, .slice none 0 0, .bool false, .slice none 0 0]) ?_ 1 _ rfl; (with_reducible repeat (fail)); refine blk_put (cs := #[.slice none 0 0, .slice none 0 0, .bool false, .slice none 0 0]) ?_ 0 _ rfl; (with_reducible repeat (fail)); exact BK198.out) Try.underlying31 rfl (by kernel_rfl)) rfl ?_
    exact ⟨_, _, _, eq_, b45_, b45_, b45_, bel3 GE196.out GE197.out GE198.out⟩
   replace c21 := Bool.eq_false_iff.mpr c21; subst c21
   rw [if_neg Bool.false_ne_true] at H
   obtain ⟨y201, hy201⟩ : ∃ y_ : List ByteArray, y_ = (([] : List ByteArray)) := ⟨_, rfl⟩
   rw [← hy201] at H
   have Ny201 := am hy201; clear hy201; obtain ⟨y204, hy204⟩ : ∃ y_ : List (S66), y_ = (([] : List (S66))) := ⟨_, rfl⟩
   rw [← hy204] at H
   have Ny204 := am hy204; clear hy204; obtain ⟨y207, hy207⟩ : ∃ y_ : List (S73), y_ = (([] : List (S73))) := ⟨_, rfl⟩
   rw [← hy207] at H
   have Ny207 := am hy207; clear hy207
   have H' := am H
   clear H
   go_wp2_with (first | ((with_reducible refine gate_dst (N := 19) rfl ?_); refine Kd.R_lit Kd.string _ 9 ?hg (N := 19) ?hd (xs := ([] : List ByteArray)) (inner := []) (ok := fun _ => True) (okp := fun _ => True) ?hr ?hp (fun _ hk => hk) trivial (Below.refl _ _) (Nat.le_refl _) (by simp) ?_; (case hd => rfl); (case hg => rfl); (case hr => (go_simp; done)); (case hp => exact (Reps.none _ _)); intro v202 w25 ho26 hb hg_ hnew_; clear hg_ hnew_; (rw [← Ny201.out] at ho26); have HO203 := am (Kd.R_lower ho26 (below_size (bel3 GE196.out GE197.out GE198.out))); replace BK196 := am (blk_below (bq BK196.out) hb); replace BK197 := am (blk_below (bq BK197.out) hb); replace BK198 := am (blk_below (bq BK198.out) hb); replace HB := am (below_step (bel3 GE196.out GE197.out GE198.out) hb); clear hb ho26) | ((with_reducible refine gate_dst (N := 20) rfl ?_); refine Kd.R_lit k66 _ 66 ?hg (N := 20) ?hd (xs := ([] : List (S66))) (inner := []) (ok := fun _ => True) (okp := fun _ => True) ?hr ?hp (fun _ hk => hk) trivial (Below.refl _ _) (Nat.le_refl _) (by simp) ?_; (case hd => rfl); (case hg => rfl); (case hr => (go_simp; done)); (case hp => exact (Reps.none _ _)); intro v205 w27 ho28 hb hg_ hnew_; clear hg_ hnew_; (rw [← Ny204.out] at ho28); replace HO203 := am (Kd.R_below (rq HO203.out) hb); have HO206 := am (Kd.R_lower ho28 (below_size (bel3 GE196.out GE197.out GE198.out))); replace BK196 := am (blk_below (bq BK196.out) hb); replace BK197 := am (blk_below (bq BK197.out) hb); replace BK198 := am (blk_below (bq BK198.out) hb); replace HB := am (below_step (bel3 GE196.out GE197.out GE198.out) hb); clear hb ho28) | ((with_reducible refine gate_dst (N := 21) rfl ?_); refine Kd.R_lit k73 _ 73 ?hg (N := 21) ?hd (xs := ([] : List (S73))) (inner := []) (ok := fun _ => True) (okp := fun _ => True) ?hr ?hp (fun _ hk => hk) trivial (Below.refl _ _) (Nat.le_refl _) (by simp) ?_; (case hd => rfl); (case hg => rfl); (case hr => (go_simp; done)); (case hp => exact (Reps.none _ _)); intro v208 w29 ho30 hb hg_ hnew_; clear hg_ hnew_; (rw [← Ny207.out] at ho30); replace HO203 := am (Kd.R_below (rq HO203.out) hb); replace HO206 := am (Kd.R_below (rq HO206.out) hb); have HO209 := am (Kd.R_lower ho30 (below_size (bel3 GE196.out GE197.out GE198.out))); replace BK196 := am (blk_below (bq BK196.out) hb); replace BK197 := am (blk_below (bq BK197.out) hb); replace BK198 := am (blk_below (bq BK198.out) hb); replace HB := am (below_step (bel3 GE196.out GE197.out GE198.out) hb); clear hb ho30; obtain ⟨Ao31, co31, eo31⟩ := Kd.R_slice HO209.out; subst eo31; obtain ⟨Ao32, co32, eo32⟩ := Kd.R_slice HO206.out; subst eo32; obtain ⟨Ao33, co33, eo33⟩ := Kd.R_slice HO203.out; subst eo33) | ((with_reducible refine gate_dst (N := 5) rfl ?_); refine bx 5 (cs := #[.slice none 0 0, .slice none 0 0, .bool false, .slice none 0 0]) (t := 31) ?_; intro gb210 hg w34 hbox hb; replace HO203 := am (Kd.R_below (rq HO203.out) hb); replace HO206 := am (Kd.R_below (rq HO206.out) hb); replace HO209 := am (Kd.R_below (rq HO209.out) hb); have BK210 := am (hbox); have GW210 := am ((by rw [hg]; exact (below_size (bel3 GE196.out GE197.out GE198.out)) : w.heap.size ≤ gb210)); have GE210 := am ((by rw [hg]; exact (below_size (bel3 GE196.out GE197.out GE198.out)) : w.heap.size ≤ gb210)); replace HB := am (below_step (bel3 GE196.out GE197.out GE198.out) hb); have NB196_210 := am ((b103_ : gb196 ≠ gb210)); have NB210_196 := am ((b104_ : gb210 ≠ gb196)); replace BK196 := am (blk_below (bq BK196.out) hb); have NB197_210 := am ((b115_ : gb197 ≠ gb210)); have NB210_197 := am ((b116_ : gb210 ≠ gb197)); replace BK197 := am (blk_below (bq BK197.out) hb); have NB198_210 := am ((b92_ : gb198 ≠ gb210)); have NB210_198 := am ((b93_ : gb210 ≠ gb198)); replace BK198 := am (blk_below (bq BK198.out) hb); clear hb hbox hg; have hnb35 := NB210_196.out; have hnc35 := NB196_210.out; have hnb36 := NB210_197.out; have hnc36 := NB197_210.out; have hnb37 := NB210_198.out; have hnc37 := NB198_210.out; have ⟨hcz38_0, hcz38_1, hcz38_2, hcz38_3, hfz38_0, hfz38_1, hfz38_2, hfz38_3⟩ := b4c BK210.out; have hnb39 := NB196_197.out; have hnc39 := NB197_196.out; have hnb40 := NB196_198.out; have hnc40 := NB198_196.out; have ⟨hcz41_0, hcz41_1, hfz41_0, hfz41_1⟩ := b2c BK196.out))
   go_loopg [26] kj2 (fun kq v26 w' => ∃ (x26_2 : Int) (x211000_2 : List ByteArray) (u211000 : Value), v26 = .int .i64 x26_2 ∧ Aside0 (impl_DeltaOf.l0 kq l0_1 (l0_1.length : Int) x26_2 l0_0 l0_1 l1_0 l1_1 x211000_2 y204 false y207 = some (r1, r2, r3, r4)) ∧ Aside0 (kq ≤ kj2) ∧ Aside0 (Kd.R Kd.string 9 w' w.heap.size (fun _ => True) u211000 x211000_2) ∧ Aside0 (Kd.R k66 66 w' w.heap.size (fun _ => True) (.slice Ao32 y204.length co32) y204) ∧ Aside0 (Kd.R k73 73 w' w.heap.size (fun _ => True) (.slice Ao31 y207.length co31) y207) ∧ Aside0 (w'.heap[gb196]? = some (.cells #[(.slice A0_0 l0_0.length c0_0), (.slice A0_1 l0_1.length c0_1)] 34 (0, 0))) ∧ Aside0 (w'.heap[gb197]? = some (.cells #[(.slice A1_0 l1_0.length c1_0), (.slice A1_1 l1_1.length c1_1)] 34 (0, 0))) ∧ Aside0 (w'.heap[gb198]? = some (.cells #[(.slice none 0 0), (.slice none 0 0), .bool false, (.slice none 0 0)] 31 (0, 0))) ∧ Aside0 (w'.heap[gb210]? = some (.cells #[u211000, (.slice Ao32 y204.length co32), .bool false, (.slice Ao31 y207.length co31)] 31 (0, 0))) ∧ Aside0 (Below w.heap.size w w'))
   case atStart => exact ⟨(0), (y201), (.slice Ao33 y201.length co33), sq, H', ⟨Nat.le_refl _⟩, ⟨rq (Kd.R_mono (Kd.R_far (p := ⟨gb210, 3, none⟩) (Kd.R_far (p := ⟨gb210, 2, none⟩) (Kd.R_far (p := ⟨gb210, 1, none⟩) (Kd.R_far (p := ⟨gb210, 0, none⟩) (Kd.R_types HO203.out BK210.out (by decide)) (fun _ hk => hk.2) (.slice Ao33 y201.length co33)) (fun _ hk => hk.2) (.slice Ao32 y204.length co32)) (fun _ hk => hk.2) (.bool false)) (fun _ hk => hk.2) (.slice Ao31 y207.length co31)) (fun _ hk => trivial))⟩, ⟨rq (Kd.R_mono (Kd.R_far (p := ⟨gb210, 3, none⟩) (Kd.R_far (p := ⟨gb210, 2, none⟩) (Kd.R_far (p := ⟨gb210, 1, none⟩) (Kd.R_far (p := ⟨gb210, 0, none⟩) (Kd.R_types HO206.out BK210.out (by decide)) (fun _ hk => hk.2) (.slice Ao33 y201.length co33)) (fun _ hk => hk.2) (.slice Ao32 y204.length co32)) (fun _ hk => hk.2) (.bool false)) (fun _ hk => hk.2) (.slice Ao31 y207.length co31)) (fun _ hk => trivial))⟩, ⟨rq (Kd.R_mono (Kd.R_far (p := ⟨gb210, 3, none⟩) (Kd.R_far (p := ⟨gb210, 2, none⟩) (Kd.R_far (p := ⟨gb210, 1, none⟩) (Kd.R_far (p := ⟨gb210, 0, none⟩) (Kd.R_types HO209.out BK210.out (by decide)) (fun _ hk => hk.2) (.slice Ao33 y201.length co33)) (fun _ hk => hk.2) (.slice Ao32 y204.length co32)) (fun _ hk => hk.2) (.bool false)) (fun _ hk => hk.2) (.slice Ao31 y207.length co31)) (fun _ hk => trivial))⟩, ⟨by (with_reducible repeat (fail)); refine blk_far ?_ NB196_210.out _; (with_reducible repeat (fail)); refine blk_far ?_ NB196_210.out _; (with_reducible repeat (fail)); refine blk_far ?_ NB196_210.out _; (with_reducible repeat (fail)); refine blk_far ?_ NB196_210.out _; (with_reducible repeat (fail)); exact BK196.out⟩, ⟨by (with_reducible repeat (fail)); refine blk_far ?_ NB197_210.out _; (with_reducible repeat (fail)); refine blk_far ?_ NB197_210.out _; (with_reducible repeat (fail)); refine blk_far ?_ NB197_210.out _; (with_reducible repeat (fail)); refine blk_far ?_ NB197_210.out _; (with_reducible repeat (fail)); exact BK197.out⟩, ⟨by (with_reducible repeat (fail)); refine blk_far ?_ NB198_210.out _; (with_reducible repeat (fail)); refine blk_far ?_ NB198_210.out _; (with_reducible repeat (fail)); refine blk_far ?_ NB198_210.out _; (with_reducible repeat (fail)); refine blk_far ?_ NB198_210.out _; (with_reducible repeat (fail)); exact BK198.out⟩, ⟨by (with_reducible repeat (fail)); refine blk_put (cs := #[.slice Ao33 y201.length co33, .slice Ao32 y204.length co32, .bool false, .slice none 0 0]) ?_ 3 _ rfl; (with_reducible repeat (fail)); refine blk_put (cs := #[.slice Ao33 y201.length co33, .slice Ao32 y204.length co32, .bool false, .slice none 0 0]) ?_ 2 _ rfl; (with_reducible repeat (fail)); refine blk_put (cs := #[.slice Ao33 y201.length co33, .slice none 0 0, .bool false, .slice none 0 0]) ?_ 1 _ rfl; (with_reducible repeat (fail)); refine blk_put (cs := #[.slice none 0 0, .slice none 0 0, .bool false, .slice none 0 0]) ?_ 0 _ rfl; (with_reducible repeat (fail)); exact BK210.out⟩, ⟨b9_⟩⟩
   case round =>
    clear H'; clear hcz38_0 hcz38_1 hcz38_2 hcz38_3 hcz41_0 hcz41_1 hfz38_0 hfz38_1 hfz38_2 hfz38_3 hfz41_0 hfz41_1; obtain ⟨x26_2, x211000_2, u211000, rfl, HA, HK2, HO_211000, HO_211001, HO_211003, BK196, BK197, BK198, BK210, HB⟩ := hrel
    cases gk with
    | zero => exact absurd HA.out (by simp [impl_DeltaOf.l0])
    | succ k2 =>
     have H := HA.out; clear HA; simp only [impl_DeltaOf.l0] at H
     by_cases c42 : x26_2 < (l0_1.length : Int)
     ·rw [if_pos c42] at H; have c42b0 := decide_eq_true c42; clear c42
      replace H := it H; obtain ⟨c43b0, H⟩ := H
      replace H := it H; obtain ⟨c44b0, H⟩ := H; replace H := bs H; obtain ⟨t213, A450, H⟩ := H; have A45 := Aside0.mk A450; clear A450
      by_cases c46 : t213 < 0
      ·rw [if_pos c46] at H; have c46b0 := decide_eq_true c46; clear c46
       replace H := ip H; obtain ⟨c47, H⟩ := H; have LMc47 := Aside0.mk c47; clear c47; obtain ⟨y214, hy214⟩ : ∃ y_ : List ByteArray, y_ = (x211000_2 ++ [(rd_T66 l0_1 x26_2).f0]) := ⟨_, rfl⟩
       rw [← hy214] at H
       have Ny214 := am hy214; clear hy214
       have H' := am H
       clear H
       have p211 : 0 ≤ (x26_2 : Int) := of_decide_eq_true ad
       have q211 : x26_2 < (l0_1.length : Int) := of_decide_eq_true ad
       obtain ⟨ad211, e211, hx211_0, hx211_1⟩ := at_T66 HR0_1.out x26_2 p211 q211; cases e211; replace hx211_0 := kp HB.out hx211_0; replace hx211_1 := kp HB.out hx211_1; replace p211 := eq_true p211; replace q211 := eq_true q211
       go_wp2_with (first | ((with_reducible refine gate_dst (N := 7) rfl ?_); refine bx 7 (cs := #[.string (⟨#[]⟩ : ByteArray), .string (⟨#[]⟩ : ByteArray)]) (t := 66) ?_; intro gb212 hg w48 hbox hb; replace HO_211000 := am (Kd.R_below (rq HO_211000.out) hb); replace HO_211001 := am (Kd.R_below (Kd.R_elderB (rq HO_211001.out) gb212 (Nat.le_of_eq hg.symm)) hb); replace HO_211003 := am (Kd.R_below (rq HO_211003.out) hb); have BK212 := am (hbox); have GW212 := am ((b30_ : w.heap.size ≤ gb212)); have GE212 := am ((b30_ : w.heap.size ≤ gb212)); replace HB := am (below_step b9_ hb); have NB196_212 := am ((b150_ : gb196 ≠ gb212)); have NB212_196 := am ((b151_ : gb212 ≠ gb196)); replace BK196 := am (blk_below (bq BK196.out) hb); have NB197_212 := am ((b115_ : gb197 ≠ gb212)); have NB212_197 := am ((b116_ : gb212 ≠ gb197)); replace BK197 := am (blk_below (bq BK197.out) hb); have NB198_212 := am ((b92_ : gb198 ≠ gb212)); have NB212_198 := am ((b93_ : gb212 ≠ gb198)); replace BK198 := am (blk_below (bq BK198.out) hb); have NB210_212 := am ((b145_ : gb210 ≠ gb212)); have NB212_210 := am ((b146_ : gb212 ≠ gb210)); replace BK210 := am (blk_below (bq BK210.out) hb); clear hb hbox hg; have hnb49 := NB212_196.out; have hnc49 := NB196_212.out; have hnb50 := NB212_197.out; have hnc50 := NB197_212.out; have hnb51 := NB212_198.out; have hnc51 := NB198_212.out; have hnb52 := NB212_210.out; have hnc52 := NB210_212.out; have ⟨hcz53_0, hcz53_1, hfz53_0, hfz53_1⟩ := b2c BK212.out; have hnb54 := NB197_196.out; have hnc54 := NB196_197.out; have hnb55 := NB197_198.out; have hnc55 := NB198_197.out; have hnb56 := NB197_210.out; have hnc56 := NB210_197.out; have ⟨hcz57_0, hcz57_1, hfz57_0, hfz57_1⟩ := b2c BK197.out) | ((with_reducible refine gate_callee (f := 39) rfl ?_); refine gl 34 Try.func39 #[.slice A1_1 l1_1.length c1_1, .string ((rd_T66 l0_1 x26_2).f0)] ?_; (with_reducible refine (impl_entryAt.calls _ _ l1_1 ((rd_T66 l0_1 x26_2).f0) t213 _ ?side1 ?side2 A45.out).mono ?_); (case side1 => exact Kd.C_below HR1_1.out b31_); (case side2 => exact HC1_1.out); rintro e w58 ⟨rfl, hb⟩; refine ⟨_, rfl, ?_⟩; replace HO_211000 := am (Kd.R_below (rq ((Kd.R_mono (Kd.R_far (p := ⟨gb212, 1, none⟩) (Kd.R_far (p := ⟨gb212, 0, none⟩) (Kd.R_types HO_211000.out BK212.out (by decide)) (fun _ hk => hk.2) (.string ((rd_T66 l0_1 x26_2).f0))) (fun _ hk => hk.2) (.string ((rd_T66 l0_1 x26_2).f1))) (fun _ h_ => h_.1)))) hb); replace HO_211001 := am (Kd.R_below (rq ((Kd.R_mono (Kd.R_far (p := ⟨gb212, 1, none⟩) (Kd.R_far (p := ⟨gb212, 0, none⟩) (Kd.R_mono HO_211001.out (fun k_ hk => (⟨hk, hk.2⟩ : _ ∧ k_ ≠ gb212))) (fun _ hk => hk.2) (.string ((rd_T66 l0_1 x26_2).f0))) (fun _ hk => hk.2) (.string ((rd_T66 l0_1 x26_2).f1))) (fun _ h_ => h_.1)))) hb); replace HO_211003 := am (Kd.R_below (rq ((Kd.R_mono (Kd.R_far (p := ⟨gb212, 1, none⟩) (Kd.R_far (p := ⟨gb212, 0, none⟩) (Kd.R_types HO_211003.out BK212.out (by decide)) (fun _ hk => hk.2) (.string ((rd_T66 l0_1 x26_2).f0))) (fun _ hk => hk.2) (.string ((rd_T66 l0_1 x26_2).f1))) (fun _ h_ => h_.1)))) hb); replace BK196 := am (blk_below (g := gb196) (o := .cells #[.slice A0_0 l0_0.length c0_0, .slice (some ad211) l0_1.length c0_1] 34 (0, 0)) b82_ hb); replace BK197 := am (blk_below (g := gb197) (o := .cells #[.slice A1_0 l1_0.length c1_0, .slice A1_1 l1_1.length c1_1] 34 (0, 0)) b83_ hb); replace BK198 := am (blk_below (g := gb198) (o := .cells #[.slice none 0 0, .slice none 0 0, .bool false, .slice none 0 0] 31 (0, 0)) b84_ hb); replace BK210 := am (blk_below (g := gb210) (o := .cells #[u211000, .slice Ao32 y204.length co32, .bool false, .slice Ao31 y207.length co31] 31 (0, 0)) b85_ hb); replace BK212 := am (blk_below (g := gb212) (o := .cells #[.string ((rd_T66 l0_1 x26_2).f0), .string ((rd_T66 l0_1 x26_2).f1)] 66 (0, 0)) b64_ hb); replace HB := am (below_step b31_ hb); clear hb; have hnb59 := NB210_196.out; have hnc59 := NB196_210.out; have hnb60 := NB210_198.out; have hnc60 := NB198_210.out; have ⟨hcz61_0, hcz61_1, hcz61_2, hcz61_3, hfz61_0, hfz61_1, hfz61_2, hfz61_3⟩ := b4c BK210.out; have ⟨hcz62_0, hcz62_1, hfz62_0, hfz62_1⟩ := b2c BK212.out) | ((with_reducible refine gate_builtin (b := .append) (xs := #[.tmp 37, .tmp 40]) rfl ?_); at_builtin; refine Kd.R_append Kd.string (w0 := w) w.heap.size rfl (.tmp 37) (.tmp 40) 27 9 (.string ⟨#[]⟩) 16 rfl Try.underlying27 info9 rfl (by decide) (by omega) u211000 x211000_2 ((rd_T66 l0_1 x26_2).f0) [.string ((rd_T66 l0_1 x26_2).f0)] (fun _ => True) (fun _ => False) rfl rfl ?aP (fun _ hk => hk.elim) ?aF ?aO ?aB ?aS ?aL ?_; (case aP => exact rfl); (case aB => exact b31_); (case aF => exact (fun _ _ => trivial)); (case aO => exact (rq HO_211000.out)); (case aS => exact (below_size b31_)); (case aL => have := LMc47.out; omega); intro v215 w63 ho hb hg hat; rw [← Ny214.out] at ho; replace HO_211001 := am (Kd.R_over' (rq HO_211001.out) (Kd.R_typed (rq HO_211000.out)) (by decide) hg); replace HO_211003 := am (Kd.R_over' (rq HO_211003.out) (Kd.R_typed (rq HO_211000.out)) (by decide) hg); replace BK196 := am (blk_grown (g := gb196) (o := .cells #[.slice A0_0 l0_0.length c0_0, .slice (some ad211) l0_1.length c0_1] 34 (0, 0)) (bq BK196.out) hg (Kd.R_ne HO_211000.out BK196.out (by decide))); replace BK197 := am (blk_grown (g := gb197) (o := .cells #[.slice A1_0 l1_0.length c1_0, .slice A1_1 l1_1.length c1_1] 34 (0, 0)) (bq BK197.out) hg (Kd.R_ne HO_211000.out BK197.out (by decide))); replace BK198 := am (blk_grown (g := gb198) (o := .cells #[.slice none 0 0, .slice none 0 0, .bool false, .slice none 0 0] 31 (0, 0)) (bq BK198.out) hg (Kd.R_ne HO_211000.out BK198.out (by decide))); replace BK210 := am (blk_grown (g := gb210) (o := .cells #[u211000, .slice Ao32 y204.length co32, .bool false, .slice Ao31 y207.length co31] 31 (0, 0)) (bq BK210.out) hg (Kd.R_ne HO_211000.out BK210.out (by decide))); replace BK212 := am (blk_grown (g := gb212) (o := .cells #[.string ((rd_T66 l0_1 x26_2).f0), .string ((rd_T66 l0_1 x26_2).f1)] 66 (0, 0)) (bq BK212.out) hg (Kd.R_ne HO_211000.out BK212.out (by decide))); replace HB := am (hb); have HO216 := am (ho); clear HO_211000; clear ho hb hg hat; obtain ⟨Ao64, co64, eo64⟩ := Kd.R_slice HO216.out; subst eo64; have ⟨hcz65_0, hcz65_1, hcz65_2, hcz65_3, hfz65_0, hfz65_1, hfz65_2, hfz65_3⟩ := b4c BK210.out))
       go_roundg k2
       case measure => have := HJ2.out; have := HK2.out; omega
       case rel => exact ⟨(wrap64 (x26_2 + 1)), (y214), (.slice Ao64 y214.length co64), sq, H', ⟨b166_⟩, ⟨rq (Kd.R_mono (Kd.R_far (p := ⟨gb210, 0, none⟩) (Kd.R_types HO216.out BK210.out (by decide)) (fun _ hk => hk.2) (.slice Ao64 y214.length co64)) (fun _ hk => trivial))⟩, ⟨rq (Kd.R_mono (Kd.R_far (p := ⟨gb210, 0, none⟩) (Kd.R_types HO_211001.out BK210.out (by decide)) (fun _ hk => hk.2) (.slice Ao64 y214.length co64)) (fun _ hk => trivial))⟩, ⟨rq (Kd.R_mono (Kd.R_far (p := ⟨gb210, 0, none⟩) (Kd.R_types HO_211003.out BK210.out (by decide)) (fun _ hk => hk.2) (.slice Ao64 y214.length co64)) (fun _ hk => trivial))⟩, ⟨b94_⟩, ⟨b95_⟩, ⟨b96_⟩, ⟨by (with_reducible repeat (fail)); refine blk_put (cs := #[u211000, .slice Ao32 y204.length co32, .bool false, .slice Ao31 y207.length co31]) ?_ 0 _ rfl; (with_reducible repeat (fail)); exact BK210.out⟩, ⟨b31_⟩⟩
      rw [if_neg c46] at H; have c46b0 := decide_eq_false c46; clear c46
      have H' := am H
      clear H
      have p211 : 0 ≤ (x26_2 : Int) := of_decide_eq_true ad
      have q211 : x26_2 < (l0_1.length : Int) := of_decide_eq_true ad
      obtain ⟨ad211, e211, hx211_0, hx211_1⟩ := at_T66 HR0_1.out x26_2 p211 q211; cases e211; replace hx211_0 := kp HB.out hx211_0; replace hx211_1 := kp HB.out hx211_1; replace p211 := eq_true p211; replace q211 := eq_true q211
      go_wp2_with (first | ((with_reducible refine gate_dst (N := 7) rfl ?_); refine bx 7 (cs := #[.string (⟨#[]⟩ : ByteArray), .string (⟨#[]⟩ : ByteArray)]) (t := 66) ?_; intro gb212 hg w66 hbox hb; replace HO_211000 := am (Kd.R_below (rq HO_211000.out) hb); replace HO_211001 := am (Kd.R_below (Kd.R_elderB (rq HO_211001.out) gb212 (Nat.le_of_eq hg.symm)) hb); replace HO_211003 := am (Kd.R_below (rq HO_211003.out) hb); have BK212 := am (hbox); have GW212 := am ((b30_ : w.heap.size ≤ gb212)); have GE212 := am ((b30_ : w.heap.size ≤ gb212)); replace HB := am (below_step b9_ hb); have NB196_212 := am ((b150_ : gb196 ≠ gb212)); have NB212_196 := am ((b151_ : gb212 ≠ gb196)); replace BK196 := am (blk_below (bq BK196.out) hb); have NB197_212 := am ((b115_ : gb197 ≠ gb212)); have NB212_197 := am ((b116_ : gb212 ≠ gb197)); replace BK197 := am (blk_below (bq BK197.out) hb); have NB198_212 := am ((b92_ : gb198 ≠ gb212)); have NB212_198 := am ((b93_ : gb212 ≠ gb198)); replace BK198 := am (blk_below (bq BK198.out) hb); have NB210_212 := am ((b145_ : gb210 ≠ gb212)); have NB212_210 := am ((b146_ : gb212 ≠ gb210)); replace BK210 := am (blk_below (bq BK210.out) hb); clear hb hbox hg; have hnb67 := NB212_196.out; have hnc67 := NB196_212.out; have hnb68 := NB212_197.out; have hnc68 := NB197_212.out; have hnb69 := NB212_198.out; have hnc69 := NB198_212.out; have hnb70 := NB212_210.out; have hnc70 := NB210_212.out; have ⟨hcz71_0, hcz71_1, hfz71_0, hfz71_1⟩ := b2c BK212.out; have hnb72 := NB197_196.out; have hnc72 := NB196_197.out; have hnb73 := NB197_198.out; have hnc73 := NB198_197.out; have hnb74 := NB197_210.out; have hnc74 := NB210_197.out; have ⟨hcz75_0, hcz75_1, hfz75_0, hfz75_1⟩ := b2c BK197.out) | ((with_reducible refine gate_callee (f := 39) rfl ?_); refine gl 34 Try.func39 #[.slice A1_1 l1_1.length c1_1, .string ((rd_T66 l0_1 x26_2).f0)] ?_; (with_reducible refine (impl_entryAt.calls _ _ l1_1 ((rd_T66 l0_1 x26_2).f0) t213 _ ?side1 ?side2 A45.out).mono ?_); (case side1 => exact Kd.C_below HR1_1.out b31_); (case side2 => exact HC1_1.out); rintro e w76 ⟨rfl, hb⟩; refine ⟨_, rfl, ?_⟩; replace HO_211000 := am (Kd.R_below (rq ((Kd.R_mono (Kd.R_far (p := ⟨gb212, 1, none⟩) (Kd.R_far (p := ⟨gb212, 0, none⟩) (Kd.R_types HO_211000.out BK212.out (by decide)) (fun _ hk => hk.2) (.string ((rd_T66 l0_1 x26_2).f0))) (fun _ hk => hk.2) (.string ((rd_T66 l0_1 x26_2).f1))) (fun _ h_ => h_.1)))) hb); replace HO_211001 := am (Kd.R_below (rq ((Kd.R_mono (Kd.R_far (p := ⟨gb212, 1, none⟩) (Kd.R_far (p := ⟨gb212, 0, none⟩) (Kd.R_mono HO_211001.out (fun k_ hk => (⟨hk, hk.2⟩ : _ ∧ k_ ≠ gb212))) (fun _ hk => hk.2) (.string ((rd_T66 l0_1 x26_2).f0))) (fun _ hk => hk.2) (.string ((rd_T66 l0_1 x26_2).f1))) (fun _ h_ => h_.1)))) hb); replace HO_211003 := am (Kd.R_below (rq ((Kd.R_mono (Kd.R_far (p := ⟨gb212, 1, none⟩) (Kd.R_far (p := ⟨gb212, 0, none⟩) (Kd.R_types HO_211003.out BK212.out (by decide)) (fun _ hk => hk.2) (.string ((rd_T66 l0_1 x26_2).f0))) (fun _ hk => hk.2) (.string ((rd_T66 l0_1 x26_2).f1))) (fun _ h_ => h_.1)))) hb); replace BK196 := am (blk_below (g := gb196) (o := .cells #[.slice A0_0 l0_0.length c0_0, .slice (some ad211) l0_1.length c0_1] 34 (0, 0)) b82_ hb); replace BK197 := am (blk_below (g := gb197) (o := .cells #[.slice A1_0 l1_0.length c1_0, .slice A1_1 l1_1.length c1_1] 34 (0, 0)) b83_ hb); replace BK198 := am (blk_below (g := gb198) (o := .cells #[.slice none 0 0, .slice none 0 0, .bool false, .slice none 0 0] 31 (0, 0)) b84_ hb); replace BK210 := am (blk_below (g := gb210) (o := .cells #[u211000, .slice Ao32 y204.length co32, .bool false, .slice Ao31 y207.length co31] 31 (0, 0)) b85_ hb); replace BK212 := am (blk_below (g := gb212) (o := .cells #[.string ((rd_T66 l0_1 x26_2).f0), .string ((rd_T66 l0_1 x26_2).f1)] 66 (0, 0)) b64_ hb); replace HB := am (below_step b31_ hb); clear hb))
      go_roundg k2
      case measure => have := HJ2.out; have := HK2.out; omega
      case rel => exact ⟨(wrap64 (x26_2 + 1)), (x211000_2), (u211000), sq, H', ⟨b166_⟩, ⟨rq HO_211000.out⟩, ⟨rq (Kd.R_mono HO_211001.out (fun _ hk => trivial))⟩, ⟨rq HO_211003.out⟩, ⟨bq BK196.out⟩, ⟨bq BK197.out⟩, ⟨bq BK198.out⟩, ⟨bq BK210.out⟩, ⟨b31_⟩⟩
     rw [if_neg c42] at H; have c42b0 := decide_eq_false c42; clear c42
     have H' := am H
     clear H; have hnb77 := NB197_196.out; have hnc77 := NB196_197.out; have hnb78 := NB197_198.out; have hnc78 := NB198_197.out; have hnb79 := NB197_210.out; have hnc79 := NB210_197.out; have ⟨hcz80_0, hcz80_1, hfz80_0, hfz80_1⟩ := b2c BK197.out; go_wp2
     go_loopg [47] k2 (fun kq v47 w' => ∃ (x47_3 : Int) (x211001_3 : List (S66)) (u211001 : Value), v47 = .int .i64 x47_3 ∧ Aside0 (impl_DeltaOf.l1 kq l1_1 (l1_1.length : Int) x47_3 l0_0 l0_1 l1_0 l1_1 x211000_2 x211001_3 false y207 = some (r1, r2, r3, r4)) ∧ Aside0 (kq ≤ k2) ∧ Aside0 (Kd.R Kd.string 9 w' w.heap.size (fun _ => True) u211000 x211000_2) ∧ Aside0 (Kd.R k66 66 w' w.heap.size (fun _ => True) u211001 x211001_3) ∧ Aside0 (Kd.R k73 73 w' w.heap.size (fun _ => True) (.slice Ao31 y207.length co31) y207) ∧ Aside0 (w'.heap[gb196]? = some (.cells #[(.slice A0_0 l0_0.length c0_0), (.slice A0_1 l0_1.length c0_1)] 34 (0, 0))) ∧ Aside0 (w'.heap[gb197]? = some (.cells #[(.slice A1_0 l1_0.length c1_0), (.slice A1_1 l1_1.length c1_1)] 34 (0, 0))) ∧ Aside0 (w'.heap[gb198]? = some (.cells #[(.slice none 0 0), (.slice none 0 0), .bool false, (.slice none 0 0)] 31 (0, 0))) ∧ Aside0 (w'.heap[gb210]? = some (.cells #[u211000, u211001, .bool false, (.slice Ao31 y207.length co31)] 31 (0, 0))) ∧ Aside0 (Below w.heap.size w w'))
     case atStart => exact ⟨(0), (y204), (.slice Ao32 y204.length co32), sq, H', ⟨Nat.le_refl _⟩, ⟨rq HO_211000.out⟩, ⟨rq HO_211001.out⟩, ⟨rq HO_211003.out⟩, ⟨bq BK196.out⟩, ⟨bq BK197.out⟩, ⟨bq BK198.out⟩, ⟨bq BK210.out⟩, ⟨b9_⟩⟩
     case round =>
      clear H'; clear c42b0 hcz80_0 hcz80_1 hfz80_0 hfz80_1; obtain ⟨x47_3, x211001_3, u211001, rfl, HA, HK3, HO_211000, HO_211001, HO_211003, BK196, BK197, BK198, BK210, HB⟩ := hrel
      cases gk with
      | zero => exact absurd HA.out (by simp [impl_DeltaOf.l1])
      | succ k3 =>
       have H := HA.out; clear HA; simp only [impl_DeltaOf.l1] at H
       by_cases c81 : x47_3 < (l1_1.length : Int)
       ·rw [if_pos c81] at H; have c81b0 := decide_eq_true c81; clear c81
        replace H := it H; obtain ⟨c82b0, H⟩ := H
        replace H := it H; obtain ⟨c83b0, H⟩ := H; replace H := bs H; obtain ⟨t219, A840, H⟩ := H; have A84 := Aside0.mk A840; clear A840
        by_cases c85 : t219 = true
        ·subst c85
         rw [if_pos rfl] at H
         have H' := am H
         clear H
         have p217 : 0 ≤ (x47_3 : Int) := of_decide_eq_true ad
         have q217 : x47_3 < (l1_1.length : Int) := of_decide_eq_true ad
         obtain ⟨ad217, e217, hx217_0, hx217_1⟩ := at_T66 HR1_1.out x47_3 p217 q217; cases e217; replace hx217_0 := kp HB.out hx217_0; replace hx217_1 := kp HB.out hx217_1; replace p217 := eq_true p217; replace q217 := eq_true q217
         go_wp2_with (first | ((with_reducible refine gate_dst (N := 9) rfl ?_); refine bx 9 (cs := #[.string (⟨#[]⟩ : ByteArray), .string (⟨#[]⟩ : ByteArray)]) (t := 66) ?_; intro gb218 hg w86 hbox hb; replace HO_211000 := am (Kd.R_below (rq HO_211000.out) hb); replace HO_211001 := am (Kd.R_below (Kd.R_elderB (rq HO_211001.out) gb218 (Nat.le_of_eq hg.symm)) hb); replace HO_211003 := am (Kd.R_below (rq HO_211003.out) hb); have BK218 := am (hbox); have GW218 := am ((b30_ : w.heap.size ≤ gb218)); have GE218 := am ((b30_ : w.heap.size ≤ gb218)); replace HB := am (below_step b9_ hb); have NB196_218 := am ((b103_ : gb196 ≠ gb218)); have NB218_196 := am ((b104_ : gb218 ≠ gb196)); replace BK196 := am (blk_below (bq BK196.out) hb); have NB197_218 := am ((b152_ : gb197 ≠ gb218)); have NB218_197 := am ((b153_ : gb218 ≠ gb197)); replace BK197 := am (blk_below (bq BK197.out) hb); have NB198_218 := am ((b92_ : gb198 ≠ gb218)); have NB218_198 := am ((b93_ : gb218 ≠ gb198)); replace BK198 := am (blk_below (bq BK198.out) hb); have NB210_218 := am ((b155_ : gb210 ≠ gb218)); have NB218_210 := am ((b156_ : gb218 ≠ gb210)); replace BK210 := am (blk_below (bq BK210.out) hb); clear hb hbox hg; have hnb87 := NB218_196.out; have hnc87 := NB196_218.out; have hnb88 := NB218_197.out; have hnc88 := NB197_218.out; have hnb89 := NB218_198.out; have hnc89 := NB198_218.out; have hnb90 := NB218_210.out; have hnc90 := NB210_218.out; have ⟨hcz91_0, hcz91_1, hfz91_0, hfz91_1⟩ := b2c BK218.out; have hnb92 := NB196_197.out; have hnc92 := NB197_196.out; have hnb93 := NB196_198.out; have hnc93 := NB198_196.out; have hnb94 := NB196_210.out; have hnc94 := NB210_196.out; have ⟨hcz95_0, hcz95_1, hfz95_0, hfz95_1⟩ := b2c BK196.out) | ((with_reducible refine gate_callee (f := 40) rfl ?_); refine gl 54 Try.func40 #[.slice A0_1 l0_1.length c0_1, .agg #[.string ((rd_T66 l1_1 x47_3).f0), .string ((rd_T66 l1_1 x47_3).f1)]] ?_; (with_reducible refine (impl_Entry_40.calls k3 _ _ l0_1 ((rd_T66 l1_1 x47_3).f0) ((rd_T66 l1_1 x47_3).f1) true _ ?side1 ?side2 A84.out).mono ?_); (case side1 => exact Kd.C_below HR0_1.out b32_); (case side2 => exact HC0_1.out); rintro e w96 ⟨rfl, hb⟩; refine ⟨_, rfl, ?_⟩; replace HO_211000 := am (Kd.R_below (rq ((Kd.R_mono (Kd.R_far (p := ⟨gb218, 1, none⟩) (Kd.R_far (p := ⟨gb218, 0, none⟩) (Kd.R_types HO_211000.out BK218.out (by decide)) (fun _ hk => hk.2) (.string ((rd_T66 l1_1 x47_3).f0))) (fun _ hk => hk.2) (.string ((rd_T66 l1_1 x47_3).f1))) (fun _ h_ => h_.1)))) hb); replace HO_211001 := am (Kd.R_below (rq ((Kd.R_mono (Kd.R_far (p := ⟨gb218, 1, none⟩) (Kd.R_far (p := ⟨gb218, 0, none⟩) (Kd.R_mono HO_211001.out (fun k_ hk => (⟨hk, hk.2⟩ : _ ∧ k_ ≠ gb218))) (fun _ hk => hk.2) (.string ((rd_T66 l1_1 x47_3).f0))) (fun _ hk => hk.2) (.string ((rd_T66 l1_1 x47_3).f1))) (fun _ h_ => h_.1)))) hb); replace HO_211003 := am (Kd.R_below (rq ((Kd.R_mono (Kd.R_far (p := ⟨gb218, 1, none⟩) (Kd.R_far (p := ⟨gb218, 0, none⟩) (Kd.R_types HO_211003.out BK218.out (by decide)) (fun _ hk => hk.2) (.string ((rd_T66 l1_1 x47_3).f0))) (fun _ hk => hk.2) (.string ((rd_T66 l1_1 x47_3).f1))) (fun _ h_ => h_.1)))) hb); replace BK196 := am (blk_below (g := gb196) (o := .cells #[.slice A0_0 l0_0.length c0_0, .slice A0_1 l0_1.length c0_1] 34 (0, 0)) b86_ hb); replace BK197 := am (blk_below (g := gb197) (o := .cells #[.slice A1_0 l1_0.length c1_0, .slice (some ad217) l1_1.length c1_1] 34 (0, 0)) b87_ hb); replace BK198 := am (blk_below (g := gb198) (o := .cells #[.slice none 0 0, .slice none 0 0, .bool false, .slice none 0 0] 31 (0, 0)) b88_ hb); replace BK210 := am (blk_below (g := gb210) (o := .cells #[u211000, u211001, .bool false, .slice Ao31 y207.length co31] 31 (0, 0)) b89_ hb); replace BK218 := am (blk_below (g := gb218) (o := .cells #[.string ((rd_T66 l1_1 x47_3).f0), .string ((rd_T66 l1_1 x47_3).f1)] 66 (0, 0)) b65_ hb); replace HB := am (below_step b32_ hb); clear hb))
         go_roundg k3
         case measure => have := HJ2.out; have := HK2.out; have := HK3.out; omega
         case rel => exact ⟨(wrap64 (x47_3 + 1)), (x211001_3), (u211001), sq, H', ⟨b149_⟩, ⟨rq HO_211000.out⟩, ⟨rq (Kd.R_mono HO_211001.out (fun _ hk => trivial))⟩, ⟨rq HO_211003.out⟩, ⟨bq BK196.out⟩, ⟨bq BK197.out⟩, ⟨bq BK198.out⟩, ⟨bq BK210.out⟩, ⟨b32_⟩⟩
        replace c85 := Bool.eq_false_iff.mpr c85; subst c85
        rw [if_neg Bool.false_ne_true] at H
        replace H := ip H; obtain ⟨c97, H⟩ := H; have LMc97 := Aside0.mk c97; clear c97; obtain ⟨y220, hy220⟩ : ∃ y_ : List (S66), y_ = (x211001_3 ++ [(⟨(rd_T66 l1_1 x47_3).f0, (rd_T66 l1_1 x47_3).f1⟩ : S66)]) := ⟨_, rfl⟩
        rw [← hy220] at H
        have Ny220 := am hy220; clear hy220
        have H' := am H
        clear H
        have p217 : 0 ≤ (x47_3 : Int) := of_decide_eq_true ad
        have q217 : x47_3 < (l1_1.length : Int) := of_decide_eq_true ad
        obtain ⟨ad217, e217, hx217_0, hx217_1⟩ := at_T66 HR1_1.out x47_3 p217 q217; cases e217; replace hx217_0 := kp HB.out hx217_0; replace hx217_1 := kp HB.out hx217_1; replace p217 := eq_true p217; replace q217 := eq_true q217
        go_wp2_with (first | ((with_reducible refine gate_dst (N := 9) rfl ?_); refine bx 9 (cs := #[.string (⟨#[]⟩ : ByteArray), .string (⟨#[]⟩ : ByteArray)]) (t := 66) ?_; intro gb218 hg w98 hbox hb; replace HO_211000 := am (Kd.R_below (rq HO_211000.out) hb); replace HO_211001 := am (Kd.R_below (Kd.R_elderB (rq HO_211001.out) gb218 (Nat.le_of_eq hg.symm)) hb); replace HO_211003 := am (Kd.R_below (rq HO_211003.out) hb); have BK218 := am (hbox); have GW218 := am ((b30_ : w.heap.size ≤ gb218)); have GE218 := am ((b30_ : w.heap.size ≤ gb218)); replace HB := am (below_step b9_ hb); have NB196_218 := am ((b103_ : gb196 ≠ gb218)); have NB218_196 := am ((b104_ : gb218 ≠ gb196)); replace BK196 := am (blk_below (bq BK196.out) hb); have NB197_218 := am ((b152_ : gb197 ≠ gb218)); have NB218_197 := am ((b153_ : gb218 ≠ gb197)); replace BK197 := am (blk_below (bq BK197.out) hb); have NB198_218 := am ((b92_ : gb198 ≠ gb218)); have NB218_198 := am ((b93_ : gb218 ≠ gb198)); replace BK198 := am (blk_below (bq BK198.out) hb); have NB210_218 := am ((b155_ : gb210 ≠ gb218)); have NB218_210 := am ((b156_ : gb218 ≠ gb210)); replace BK210 := am (blk_below (bq BK210.out) hb); clear hb hbox hg; have hnb99 := NB218_196.out; have hnc99 := NB196_218.out; have hnb100 := NB218_197.out; have hnc100 := NB197_218.out; have hnb101 := NB218_198.out; have hnc101 := NB198_218.out; have hnb102 := NB218_210.out; have hnc102 := NB210_218.out; have ⟨hcz103_0, hcz103_1, hfz103_0, hfz103_1⟩ := b2c BK218.out; have hnb104 := NB196_197.out; have hnc104 := NB197_196.out; have hnb105 := NB196_198.out; have hnc105 := NB198_196.out; have hnb106 := NB196_210.out; have hnc106 := NB210_196.out; have ⟨hcz107_0, hcz107_1, hfz107_0, hfz107_1⟩ := b2c BK196.out) | ((with_reducible refine gate_callee (f := 40) rfl ?_); refine gl 54 Try.func40 #[.slice A0_1 l0_1.length c0_1, .agg #[.string ((rd_T66 l1_1 x47_3).f0), .string ((rd_T66 l1_1 x47_3).f1)]] ?_; (with_reducible refine (impl_Entry_40.calls k3 _ _ l0_1 ((rd_T66 l1_1 x47_3).f0) ((rd_T66 l1_1 x47_3).f1) false _ ?side1 ?side2 A84.out).mono ?_); (case side1 => exact Kd.C_below HR0_1.out b32_); (case side2 => exact HC0_1.out); rintro e w108 ⟨rfl, hb⟩; refine ⟨_, rfl, ?_⟩; replace HO_211000 := am (Kd.R_below (rq ((Kd.R_mono (Kd.R_far (p := ⟨gb218, 1, none⟩) (Kd.R_far (p := ⟨gb218, 0, none⟩) (Kd.R_types HO_211000.out BK218.out (by decide)) (fun _ hk => hk.2) (.string ((rd_T66 l1_1 x47_3).f0))) (fun _ hk => hk.2) (.string ((rd_T66 l1_1 x47_3).f1))) (fun _ h_ => h_.1)))) hb); replace HO_211001 := am (Kd.R_below (rq ((Kd.R_mono (Kd.R_far (p := ⟨gb218, 1, none⟩) (Kd.R_far (p := ⟨gb218, 0, none⟩) (Kd.R_mono HO_211001.out (fun k_ hk => (⟨hk, hk.2⟩ : _ ∧ k_ ≠ gb218))) (fun _ hk => hk.2) (.string ((rd_T66 l1_1 x47_3).f0))) (fun _ hk => hk.2) (.string ((rd_T66 l1_1 x47_3).f1))) (fun _ h_ => h_.1)))) hb); replace HO_211003 := am (Kd.R_below (rq ((Kd.R_mono (Kd.R_far (p := ⟨gb218, 1, none⟩) (Kd.R_far (p := ⟨gb218, 0, none⟩) (Kd.R_types HO_211003.out BK218.out (by decide)) (fun _ hk => hk.2) (.string ((rd_T66 l1_1 x47_3).f0))) (fun _ hk => hk.2) (.string ((rd_T66 l1_1 x47_3).f1))) (fun _ h_ => h_.1)))) hb); replace BK196 := am (blk_below (g := gb196) (o := .cells #[.slice A0_0 l0_0.length c0_0, .slice A0_1 l0_1.length c0_1] 34 (0, 0)) b86_ hb); replace BK197 := am (blk_below (g := gb197) (o := .cells #[.slice A1_0 l1_0.length c1_0, .slice (some ad217) l1_1.length c1_1] 34 (0, 0)) b87_ hb); replace BK198 := am (blk_below (g := gb198) (o := .cells #[.slice none 0 0, .slice none 0 0, .bool false, .slice none 0 0] 31 (0, 0)) b88_ hb); replace BK210 := am (blk_below (g := gb210) (o := .cells #[u211000, u211001, .bool false, .slice Ao31 y207.length co31] 31 (0, 0)) b89_ hb); replace BK218 := am (blk_below (g := gb218) (o := .cells #[.string ((rd_T66 l1_1 x47_3).f0), .string ((rd_T66 l1_1 x47_3).f1)] 66 (0, 0)) b65_ hb); replace HB := am (below_step b32_ hb); clear hb; have hnb109 := NB210_197.out; have hnc109 := NB197_210.out; have hnb110 := NB210_198.out; have hnc110 := NB198_210.out; have ⟨hcz111_0, hcz111_1, hcz111_2, hcz111_3, hfz111_0, hfz111_1, hfz111_2, hfz111_3⟩ := b4c BK210.out; have ⟨hcz112_0, hcz112_1, hfz112_0, hfz112_1⟩ := b2c BK218.out) | ((with_reducible refine gate_builtin (b := .append) (xs := #[.tmp 57, .tmp 59]) rfl ?_); at_builtin; refine Kd.R_append k66 (w0 := w) w.heap.size rfl (.tmp 57) (.tmp 59) 28 66 (.agg #[(.string ⟨#[]⟩), (.string ⟨#[]⟩)]) 32 rfl Try.underlying28 info66 rfl (by decide) (by omega) u211001 x211001_3 (⟨(rd_T66 l1_1 x47_3).f0, (rd_T66 l1_1 x47_3).f1⟩ : S66) [.string ((rd_T66 l1_1 x47_3).f0), .string ((rd_T66 l1_1 x47_3).f1)] (fun k_ => k_ ≠ gb218) (fun _ => False) rfl rfl ?aP (fun _ hk => hk.elim) ?aF ?aO ?aB ?aS ?aL ?_; (case aP => exact k66_mkM _ _ _ (⟨(rd_T66 l1_1 x47_3).f0, (rd_T66 l1_1 x47_3).f1⟩ : S66)); (case aB => exact b32_); (case aF => exact (fun k_ hk => Kd.freshB (g := gb218) (o := .cells #[.string ((rd_T66 l1_1 x47_3).f0), .string ((rd_T66 l1_1 x47_3).f1)] 66 (0, 0)) (bq BK218.out) k_ hk)); (case aO => exact (rq (Kd.R_mono HO_211001.out (fun _ hk => hk.2)))); (case aS => exact (below_size b32_)); (case aL => have := LMc97.out; omega); intro v221 w113 ho hb hg hat; rw [← Ny220.out] at ho; replace HO_211000 := am (Kd.R_over' (rq HO_211000.out) (Kd.R_typed (rq HO_211001.out)) (by decide) hg); replace HO_211003 := am (Kd.R_over' (rq HO_211003.out) (Kd.R_typed (rq HO_211001.out)) (by decide) hg); replace BK196 := am (blk_grown (g := gb196) (o := .cells #[.slice A0_0 l0_0.length c0_0, .slice A0_1 l0_1.length c0_1] 34 (0, 0)) (bq BK196.out) hg (Kd.R_ne HO_211001.out BK196.out (by decide))); replace BK197 := am (blk_grown (g := gb197) (o := .cells #[.slice A1_0 l1_0.length c1_0, .slice (some ad217) l1_1.length c1_1] 34 (0, 0)) (bq BK197.out) hg (Kd.R_ne HO_211001.out BK197.out (by decide))); replace BK198 := am (blk_grown (g := gb198) (o := .cells #[.slice none 0 0, .slice none 0 0, .bool false, .slice none 0 0] 31 (0, 0)) (bq BK198.out) hg (Kd.R_ne HO_211001.out BK198.out (by decide))); replace BK210 := am (blk_grown (g := gb210) (o := .cells #[u211000, u211001, .bool false, .slice Ao31 y207.length co31] 31 (0, 0)) (bq BK210.out) hg (Kd.R_ne HO_211001.out BK210.out (by decide))); replace BK218 := am (blk_grown (g := gb218) (o := .cells #[.string ((rd_T66 l1_1 x47_3).f0), .string ((rd_T66 l1_1 x47_3).f1)] 66 (0, 0)) (bq BK218.out) hg (Kd.R_away HO_211001.out (fun _ hk => hk.2))); replace HB := am (hb); have HO222 := am (ho); clear HO_211001; clear ho hb hg hat; obtain ⟨Ao114, co114, eo114⟩ := Kd.R_slice HO222.out; subst eo114; have ⟨hcz115_0, hcz115_1, hcz115_2, hcz115_3, hfz115_0, hfz115_1, hfz115_2, hfz115_3⟩ := b4c BK210.out))
        go_roundg k3
        case measure => have := HJ2.out; have := HK2.out; have := HK3.out; omega
        case rel => exact ⟨(wrap64 (x47_3 + 1)), (y220), (.slice Ao114 y220.length co114), sq, H', ⟨b149_⟩, ⟨rq (Kd.R_mono (Kd.R_far (p := ⟨gb210, 1, none⟩) (Kd.R_types HO_211000.out BK210.out (by decide)) (fun _ hk => hk.2) (.slice Ao114 y220.length co114)) (fun _ hk => trivial))⟩, ⟨rq (Kd.R_mono (Kd.R_far (p := ⟨gb210, 1, none⟩) (Kd.R_types HO222.out BK210.out (by decide)) (fun _ hk => hk.2) (.slice Ao114 y220.length co114)) (fun _ hk => trivial))⟩, ⟨rq (Kd.R_mono (Kd.R_far (p := ⟨gb210, 1, none⟩) (Kd.R_types HO_211003.out BK210.out (by decide)) (fun _ hk => hk.2) (.slice Ao114 y220.length co114)) (fun _ hk => trivial))⟩, ⟨b94_⟩, ⟨b95_⟩, ⟨b96_⟩, ⟨by (with_reducible repeat (fail)); refine blk_put (cs := #[u211000, u211001, .bool false, .slice Ao31 y207.length co31]) ?_ 1 _ rfl; (with_reducible repeat (fail)); exact BK210.out⟩, ⟨b32_⟩⟩
       rw [if_neg c81] at H; have c81b0 := decide_eq_false c81; clear c81; replace H := bs H; obtain ⟨t223, A1160, H⟩ := H; have A116 := Aside0.mk A1160; clear A1160
       by_cases c117 : t223 = true
       ·subst c117
        rw [if_pos rfl] at H; simp only [Option.some.injEq, Prod.mk.injEq] at H
        obtain ⟨rfl, rfl, rfl, rfl⟩ := H; have hnb118 := NB196_197.out; have hnc118 := NB197_196.out; have hnb119 := NB196_198.out; have hnc119 := NB198_196.out; have hnb120 := NB196_210.out; have hnc120 := NB210_196.out; have ⟨hcz121_0, hcz121_1, hfz121_0, hfz121_1⟩ := b2c BK196.out; have hnb122 := NB197_198.out; have hnc122 := NB198_197.out; have hnb123 := NB197_210.out; have hnc123 := NB210_197.out; have ⟨hcz124_0, hcz124_1, hfz124_0, hfz124_1⟩ := b2c BK197.out
        go_wp2_with ((with_reducible refine gate_callee (f := 41) rfl ?_); refine gl 67 Try.func41 #[.slice A0_0 l0_0.length c0_0, .slice A1_0 l1_0.length c1_0] ?_; (with_reducible refine (impl_Affix_41.calls k3 _ _ l0_0 _ _ l1_0 true _ ?side1 ?side2 ?side3 ?side4 A116.out).mono ?_); (case side1 => exact cq (Kd.C_below HR0_0.out HB.out)); (case side2 => exact HC0_0.out); (case side3 => exact cq (Kd.C_below HR1_0.out HB.out)); (case side4 => exact HC1_0.out); rintro e w' ⟨rfl, ⟨nd, rfl⟩⟩; refine ⟨_, rfl, ?_⟩; ((rw [drewN_self wr]; generalize hq_ : World.drewN wr _ = wr; have n0_ : Aside0 (Kd.R Kd.string 9 wr w.heap.size (fun _ => True) u211000 x211000_2) := ⟨by rw [← hq_]; exact (rq HO_211000.out)⟩; have n1_ : Aside0 (Kd.R k66 66 wr w.heap.size (fun _ => True) u211001 x211001_3) := ⟨by rw [← hq_]; exact (rq HO_211001.out)⟩; have n2_ : Aside0 (Kd.R k73 73 wr w.heap.size (fun _ => True) (.slice Ao31 y207.length co31) y207) := ⟨by rw [← hq_]; exact (rq HO_211003.out)⟩; have n3_ : Aside0 (wr.heap[gb196]? = some (.cells #[.slice A0_0 l0_0.length c0_0, .slice A0_1 l0_1.length c0_1] 34 (0, 0))) := ⟨by rw [← hq_]; exact (bq BK196.out)⟩; have n4_ : Aside0 (wr.heap[gb197]? = some (.cells #[.slice A1_0 l1_0.length c1_0, .slice A1_1 l1_1.length c1_1] 34 (0, 0))) := ⟨by rw [← hq_]; exact (bq BK197.out)⟩; have n5_ : Aside0 (wr.heap[gb198]? = some (.cells #[.slice none 0 0, .slice none 0 0, .bool false, .slice none 0 0] 31 (0, 0))) := ⟨by rw [← hq_]; exact (bq BK198.out)⟩; have n6_ : Aside0 (wr.heap[gb210]? = some (.cells #[u211000, u211001, .bool false, .slice Ao31 y207.length co31] 31 (0, 0))) := ⟨by rw [← hq_]; exact (bq BK210.out)⟩; have n7_ : Aside0 (Below w.heap.size w wr) := ⟨b122_⟩; clear HO_211000 HO_211001 HO_211003 BK196 BK197 BK198 BK210 HB hq_; have HO_211000 := n0_; have HO_211001 := n1_; have HO_211003 := n2_; have BK196 := n3_; have BK197 := n4_; have BK198 := n5_; have BK210 := n6_; have HB := n7_; clear n0_ n1_ n2_ n3_ n4_ n5_ n6_ n7_)); have hnb125 := NB210_198.out; have hnc125 := NB198_210.out; have ⟨hcz126_0, hcz126_1, hcz126_2, hcz126_3, hfz126_0, hfz126_1, hfz126_2, hfz126_3⟩ := b4c BK210.out; obtain ⟨Ao127, co127, eo127⟩ := Kd.R_slice HO_211000.out; subst eo127; have ⟨hcz128_0, hcz128_1, hcz128_2, hcz128_3, hfz128_0, hfz128_1, hfz128_2, hfz128_3⟩ := b4c BK198.out; obtain ⟨Ao129, co129, eo129⟩ := Kd.R_slice HO_211001.out; subst eo129)
        refine bodyPost_ret (results_cell_row rfl _ _ gb198 31 #[.slice Ao127 x211000_2.length co127, .slice Ao129 x211001_3.length co129, .bool false, .slice Ao31 y207.length co31] (0, 0) _ rfl (by (with_reducible repeat (fail)); refine blk_put (cs := #[.slice Ao127 x211000_2.length co127, .slice Ao129 x211001_3.length co129, .bool false, .slice none 0 0]) ?_ 3 _ rfl; (with_reducible repeat (fail)); refine blk_put (cs := #[.slice Ao127 x211000_2.length co127, .slice Ao129 x211001_3.length co129, .bool false, .slice none 0 0]) ?_ 2 _ rfl; (with_reducible repeat (fail)); refine blk_put (cs := #[.slice Ao127 x211000_2.length co127, .slice none 0 0, .bool false, .slice none 0 0]) ?_ 1 _ rfl; (with_reducible repeat (fail)); refine blk_put (cs := #[.slice none 0 0, .slice none 0 0, .bool false, .slice none 0 0]) ?_ 0 _ rfl; (with_reducible repeat (fail)); exact BK198.out) Try.underlying31 rfl (by kernel_rfl)) rfl ?_
        exact ⟨_, _, _, eq_, by (with_reducible repeat (fail)); exact Kd.R_mono (Kd.R_far (p := ⟨gb198, 3, none⟩) (Kd.R_far (p := ⟨gb198, 2, none⟩) (Kd.R_far (p := ⟨gb198, 1, none⟩) (Kd.R_far (p := ⟨gb198, 0, none⟩) (Kd.R_types HO_211000.out BK198.out (by decide)) (fun _ hk => hk.2) (.slice Ao127 x211000_2.length co127)) (fun _ hk => hk.2) (.slice Ao129 x211001_3.length co129)) (fun _ hk => hk.2) (.bool false)) (fun _ hk => hk.2) (.slice Ao31 y207.length co31)) (fun _ hk => trivial), by (with_reducible repeat (fail)); exact Kd.R_mono (Kd.R_far (p := ⟨gb198, 3, none⟩) (Kd.R_far (p := ⟨gb198, 2, none⟩) (Kd.R_far (p := ⟨gb198, 1, none⟩) (Kd.R_far (p := ⟨gb198, 0, none⟩) (Kd.R_types HO_211001.out BK198.out (by decide)) (fun _ hk => hk.2) (.slice Ao127 x211000_2.length co127)) (fun _ hk => hk.2) (.slice Ao129 x211001_3.length co129)) (fun _ hk => hk.2) (.bool false)) (fun _ hk => hk.2) (.slice Ao31 y207.length co31)) (fun _ hk => trivial), by (with_reducible repeat (fail)); exact Kd.R_mono (Kd.R_far (p := ⟨gb198, 3, none⟩) (Kd.R_far (p := ⟨gb198, 2, none⟩) (Kd.R_far (p := ⟨gb198, 1, none⟩) (Kd.R_far (p := ⟨gb198, 0, none⟩) (Kd.R_types HO_211003.out BK198.out (by decide)) (fun _ hk => hk.2) (.slice Ao127 x211000_2.length co127)) (fun _ hk => hk.2) (.slice Ao129 x211001_3.length co129)) (fun _ hk => hk.2) (.bool false)) (fun _ hk => hk.2) (.slice Ao31 y207.length co31)) (fun _ hk => trivial), b9_⟩
       replace c117 := Bool.eq_false_iff.mpr c117; subst c117
       rw [if_neg Bool.false_ne_true] at H
       replace H := ip H; obtain ⟨c130, H⟩ := H; have LMc130 := Aside0.mk c130; clear c130; obtain ⟨y224, hy224⟩ : ∃ y_ : List (S73), y_ = (y207 ++ l1_0) := ⟨_, rfl⟩
       rw [← hy224] at H
       have Ny224 := am hy224; clear hy224; simp only [Option.some.injEq, Prod.mk.injEq] at H
       obtain ⟨rfl, rfl, rfl, rfl⟩ := H; have hnb131 := NB196_197.out; have hnc131 := NB197_196.out; have hnb132 := NB196_198.out; have hnc132 := NB198_196.out; have hnb133 := NB196_210.out; have hnc133 := NB210_196.out; have ⟨hcz134_0, hcz134_1, hfz134_0, hfz134_1⟩ := b2c BK196.out; have hnb135 := NB197_198.out; have hnc135 := NB198_197.out; have hnb136 := NB197_210.out; have hnc136 := NB210_197.out; have ⟨hcz137_0, hcz137_1, hfz137_0, hfz137_1⟩ := b2c BK197.out
       go_wp2_with (first | ((with_reducible refine gate_callee (f := 41) rfl ?_); refine gl 67 Try.func41 #[.slice A0_0 l0_0.length c0_0, .slice A1_0 l1_0.length c1_0] ?_; (with_reducible refine (impl_Affix_41.calls k3 _ _ l0_0 _ _ l1_0 false _ ?side1 ?side2 ?side3 ?side4 A116.out).mono ?_); (case side1 => exact cq (Kd.C_below HR0_0.out HB.out)); (case side2 => exact HC0_0.out); (case side3 => exact cq (Kd.C_below HR1_0.out HB.out)); (case side4 => exact HC1_0.out); rintro e w' ⟨rfl, ⟨nd, rfl⟩⟩; refine ⟨_, rfl, ?_⟩; ((rw [drewN_self wr]; generalize hq_ : World.drewN wr _ = wr; have n0_ : Aside0 (Kd.R Kd.string 9 wr w.heap.size (fun _ => True) u211000 x211000_2) := ⟨by rw [← hq_]; exact (rq HO_211000.out)⟩; have n1_ : Aside0 (Kd.R k66 66 wr w.heap.size (fun _ => True) u211001 x211001_3) := ⟨by rw [← hq_]; exact (rq HO_211001.out)⟩; have n2_ : Aside0 (Kd.R k73 73 wr w.heap.size (fun _ => True) (.slice Ao31 y207.length co31) y207) := ⟨by rw [← hq_]; exact (rq HO_211003.out)⟩; have n3_ : Aside0 (wr.heap[gb196]? = some (.cells #[.slice A0_0 l0_0.length c0_0, .slice A0_1 l0_1.length c0_1] 34 (0, 0))) := ⟨by rw [← hq_]; exact (bq BK196.out)⟩; have n4_ : Aside0 (wr.heap[gb197]? = some (.cells #[.slice A1_0 l1_0.length c1_0, .slice A1_1 l1_1.length c1_1] 34 (0, 0))) := ⟨by rw [← hq_]; exact (bq BK197.out)⟩; have n5_ : Aside0 (wr.heap[gb198]? = some (.cells #[.slice none 0 0, .slice none 0 0, .bool false, .slice none 0 0] 31 (0, 0))) := ⟨by rw [← hq_]; exact (bq BK198.out)⟩; have n6_ : Aside0 (wr.heap[gb210]? = some (.cells #[u211000, u211001, .bool false, .slice Ao31 y207.length co31] 31 (0, 0))) := ⟨by rw [← hq_]; exact (bq BK210.out)⟩; have n7_ : Aside0 (Below w.heap.size w wr) := ⟨b122_⟩; clear HO_211000 HO_211001 HO_211003 BK196 BK197 BK198 BK210 HB hq_; have HO_211000 := n0_; have HO_211001 := n1_; have HO_211003 := n2_; have BK196 := n3_; have BK197 := n4_; have BK198 := n5_; have BK210 := n6_; have HB := n7_; clear n0_ n1_ n2_ n3_ n4_ n5_ n6_ n7_)); have ⟨hcy0, hcy1, hcy2, hcy3⟩ := b2c BK197.out; have hnb138 := NB210_198.out; have hnc138 := NB198_210.out; have ⟨hcz139_0, hcz139_1, hcz139_2, hcz139_3, hfz139_0, hfz139_1, hfz139_2, hfz139_3⟩ := b4c BK210.out) | ((with_reducible refine gate_builtin (b := .append) (xs := #[.tmp 71, .tmp 73]) rfl ?_); at_builtin; refine Kd.R_append_rows k73 (w0 := w) w.heap.size rfl (.tmp 71) (.tmp 73) 29 73 (.agg #[(.string ⟨#[]⟩), (.bool false), (.string ⟨#[]⟩), (.string ⟨#[]⟩), (.string ⟨#[]⟩)]) 72 rfl Try.underlying29 info73 rfl (by decide) (by omega) (.slice Ao31 y207.length co31) y207 l1_0 _ _ _ (fun _ => True) (fun _ => False) rfl rfl ?aO ?aR (fun _ _ h => h) (fun _ h => h.elim) ?aF ?aB ?aS ?aL ?_; (case aR => exact Kd.C_below HR1_0.out b9_); (case aB => exact b9_); (case aF => exact (fun _ _ => trivial)); (case aO => exact (rq (Kd.R_mono (Kd.R_far (p := ⟨gb210, 2, none⟩) (Kd.R_types HO_211003.out BK210.out (by decide)) (fun _ hk => hk.2) (.bool true)) (fun _ hk => trivial)))); (case aS => exact (below_size b9_)); (case aL => have := LMc130.out; omega); intro v225 w140 ho hb hg hat; rw [← Ny224.out] at ho; replace HO_211000 := am (Kd.R_over' (rq ((Kd.R_mono (Kd.R_far (p := ⟨gb210, 2, none⟩) (Kd.R_types HO_211000.out BK210.out (by decide)) (fun _ hk => hk.2) (.bool true)) (fun _ h_ => h_.1)))) (Kd.R_typed (rq ((Kd.R_mono (Kd.R_far (p := ⟨gb210, 2, none⟩) (Kd.R_types HO_211003.out BK210.out (by decide)) (fun _ hk => hk.2) (.bool true)) (fun _ h_ => h_.1))))) (by decide) hg); replace HO_211001 := am (Kd.R_over' (rq ((Kd.R_mono (Kd.R_far (p := ⟨gb210, 2, none⟩) (Kd.R_types HO_211001.out BK210.out (by decide)) (fun _ hk => hk.2) (.bool true)) (fun _ h_ => h_.1)))) (Kd.R_typed (rq ((Kd.R_mono (Kd.R_far (p := ⟨gb210, 2, none⟩) (Kd.R_types HO_211003.out BK210.out (by decide)) (fun _ hk => hk.2) (.bool true)) (fun _ h_ => h_.1))))) (by decide) hg); replace BK196 := am (blk_grown (g := gb196) (o := .cells #[.slice A0_0 l0_0.length c0_0, .slice A0_1 l0_1.length c0_1] 34 (0, 0)) b94_ hg (Kd.R_ne HO_211003.out BK196.out (by decide))); replace BK197 := am (blk_grown (g := gb197) (o := .cells #[.slice A1_0 l1_0.length c1_0, .slice A1_1 l1_1.length c1_1] 34 (0, 0)) b95_ hg (Kd.R_ne HO_211003.out BK197.out (by decide))); replace BK198 := am (blk_grown (g := gb198) (o := .cells #[.slice none 0 0, .slice none 0 0, .bool false, .slice none 0 0] 31 (0, 0)) b96_ hg (Kd.R_ne HO_211003.out BK198.out (by decide))); replace BK210 := am (blk_grown (g := gb210) (o := .cells #[u211000, u211001, .bool true, .slice Ao31 y207.length co31] 31 (0, 0)) (by (with_reducible repeat (fail)); refine blk_put (cs := #[u211000, u211001, .bool false, .slice Ao31 y207.length co31]) ?_ 2 _ rfl; (with_reducible repeat (fail)); exact BK210.out) hg (Kd.R_ne HO_211003.out BK210.out (by decide))); replace HB := am (hb); have HO226 := am (ho); clear HO_211003; clear ho hb hg hat; obtain ⟨Ao141, co141, eo141⟩ := Kd.R_slice HO226.out; subst eo141; have ⟨hcz142_0, hcz142_1, hcz142_2, hcz142_3, hfz142_0, hfz142_1, hfz142_2, hfz142_3⟩ := b4c BK210.out; obtain ⟨Ao143, co143, eo143⟩ := Kd.R_slice HO_211000.out; subst eo143; have ⟨hcz144_0, hcz144_1, hcz144_2, hcz144_3, hfz144_0, hfz144_1, hfz144_2, hfz144_3⟩ := b4c BK198.out; obtain ⟨Ao145, co145, eo145⟩ := Kd.R_slice HO_211001.out; subst eo145))
       refine bodyPost_ret (results_cell_row rfl _ _ gb198 31 #[.slice Ao143 x211000_2.length co143, .slice Ao145 x211001_3.length co145, .bool true, .slice Ao141 y224.length co141] (0, 0) _ rfl (by (with_reducible repeat (fail)); refine blk_put (cs := #[.slice Ao143 x211000_2.length co143, .slice Ao145 x211001_3.length co145, .bool true, .slice none 0 0]) ?_ 3 _ rfl; (with_reducible repeat (fail)); refine blk_put (cs := #[.slice Ao143 x211000_2.length co143, .slice Ao145 x211001_3.length co145, .bool false, .slice none 0 0]) ?_ 2 _ rfl; (with_reducible repeat (fail)); refine blk_put (cs := #[.slice Ao143 x211000_2.length co143, .slice none 0 0, .bool false, .slice none 0 0]) ?_ 1 _ rfl; (with_reducible repeat (fail)); refine blk_put (cs := #[.slice none 0 0, .slice none 0 0, .bool false, .slice none 0 0]) ?_ 0 _ rfl; (with_reducible repeat (fail)); refine blk_far ?_ NB198_210.out _; (with_reducible repeat (fail)); exact BK198.out) Try.underlying31 rfl (by kernel_rfl)) rfl ?_
       exact ⟨_, _, _, eq_, by (with_reducible repeat (fail)); exact Kd.R_mono (Kd.R_far (p := ⟨gb198, 3, none⟩) (Kd.R_far (p := ⟨gb198, 2, none⟩) (Kd.R_far (p := ⟨gb198, 1, none⟩) (Kd.R_far (p := ⟨gb198, 0, none⟩) (Kd.R_far (p := ⟨gb210, 3, none⟩) (Kd.R_types (Kd.R_types HO_211000.out BK210.out (by decide)) BK198.out (by decide)) (fun _ hk => hk.1.2) (.slice Ao141 y224.length co141)) (fun _ hk => hk.2) (.slice Ao143 x211000_2.length co143)) (fun _ hk => hk.2) (.slice Ao145 x211001_3.length co145)) (fun _ hk => hk.2) (.bool true)) (fun _ hk => hk.2) (.slice Ao141 y224.length co141)) (fun _ hk => trivial), by (with_reducible repeat (fail)); exact Kd.R_mono (Kd.R_far (p := ⟨gb198, 3, none⟩) (Kd.R_far (p := ⟨gb198, 2, none⟩) (Kd.R_far (p := ⟨gb198, 1, none⟩) (Kd.R_far (p := ⟨gb198, 0, none⟩) (Kd.R_far (p := ⟨gb210, 3, none⟩) (Kd.R_types (Kd.R_types HO_211001.out BK210.out (by decide)) BK198.out (by decide)) (fun _ hk => hk.1.2) (.slice Ao141 y224.length co141)) (fun _ hk => hk.2) (.slice Ao143 x211000_2.length co143)) (fun _ hk => hk.2) (.slice Ao145 x211001_3.length co145)) (fun _ hk => hk.2) (.bool true)) (fun _ hk => hk.2) (.slice Ao141 y224.length co141)) (fun _ hk => trivial), by (with_reducible repeat (fail)); exact Kd.R_mono (Kd.R_far (p := ⟨gb198, 3, none⟩) (Kd.R_far (p := ⟨gb198, 2, none⟩) (Kd.R_far (p := ⟨gb198, 1, none⟩) (Kd.R_far (p := ⟨gb198, 0, none⟩) (Kd.R_far (p := ⟨gb210, 3, none⟩) (Kd.R_types (Kd.R_types HO226.out BK210.out (by decide)) BK198.out (by decide)) (fun _ hk => hk.1.2) (.slice Ao141 y224.length co141)) (fun _ hk => hk.2) (.slice Ao143 x211000_2.length co143)) (fun _ hk => hk.2) (.slice Ao145 x211001_3.length co145)) (fun _ hk => hk.2) (.bool true)) (fun _ hk => hk.2) (.slice Ao141 y224.length co141)) (fun _ hk => trivial), b9_⟩
end Go.Proofs.Ytdfnijaacnlfaaa.QFnDeltaOf

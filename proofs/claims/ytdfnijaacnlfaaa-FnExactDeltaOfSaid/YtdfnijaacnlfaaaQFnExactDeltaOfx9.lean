import Derived.Test.YtdfnijaacnlfaaaQFnExactDeltaOfx0
import Derived.Test.YtdfnijaacnlfaaaQFnExactDeltaOfx7
import Derived.Test.YtdfnijaacnlfaaaVMSh2
namespace Go.Proofs.Ytdfnijaacnlfaaa.QFnExactDeltaOf
open Go.RowKit Go.Proofs.YtdfnijaacnlfaaaW.PrintWords Go.Proofs.YtdfnijaacnlfaaaW.PrintLast Go.Proofs.YtdfnijaacnlfaaaW.PrintMore Go.Proofs.Ytdfnijaacnlfaaa.Sh
attribute [local go_sem] max2_int min2_int max_two min_two max_three min_three max_four min_four
set_option linter.unusedVariables false
set_option linter.unusedSimpArgs false
set_option maxHeartbeats 8000000
set_option maxRecDepth 100000
-- shrunk

/-! ### impl_entriesOk: function 61 -/
def impl_entriesOk.l0 : Nat → List (S66) → List (S66) → Int → Int → Option (Bool)
 | 0, _, _, _, _ => none
 | k + 1, x0, x5, x6, x7 => if x7 < x6 then (if 0 ≤ x7 then (if x7 < (x5.length : Int) then ((impl_entryOk.f k ((rd_T66 x5 x7).f0) ((rd_T66 x5 x7).f1)).bind fun t203 => (if t203 = true then (if x7 > 0 then (if 0 ≤ (wrap64 (x7 - 1)) then (if (wrap64 (x7 - 1)) < (x0.length : Int) then (if ((Op.bytesLess (((rd_T66 x0 (wrap64 (x7 - 1))).f0).toList) (((rd_T66 x5 x7).f0).toList)) = true) then (impl_entriesOk.l0 k x0 x5 x6 (wrap64 (x7 + 1))) else (some false)) else (none)) else (none)) else (impl_entriesOk.l0 k x0 x5 x6 (wrap64 (x7 + 1)))) else (some false))) else (none)) else (none)) else (some (decide ((x0.length : Int) ≤ 24)))
def impl_entriesOk.f (k : Nat) (l0 : List (S66)) : Option (Bool) := impl_entriesOk.l0 k l0 l0 (l0.length : Int) 0
def impl_entriesOk.T4 : Bool × List (List Nat × List Nat) := (true, [([], []), ([0], [0]), ([1], [1]), ([2, 1], [2]), ([3], [3]), ([4, 3], [3, 4]), ([5, 3, 3], [3, 5]), ([6], [6]), ([6], [6]), ([8, 6], [6, 8]), ([7, 9, 6], [6, 7, 9]), ([10, 6], [6, 10]), ([11, 6], [6, 11]), ([6], [6]), ([13, 6], [6, 13]), ([12, 14, 6], [6, 12, 14]), ([6, 15, 3], [3, 6, 15]), ([3, 16], [3, 16])])
def impl_entriesOk.B4 : List Nat := [0, 1, 3, 7, 15, 31, 63, 127, 127, 383, 1023, 2047, 4095, 127, 8319, 32767, 65535, 131071]
theorem impl_entriesOk.tab4 : rtab .any (opsOf Try.f61 4) = impl_entriesOk.T4 := by kernel_rfl
theorem impl_entriesOk.bits4 : waitsOk impl_entriesOk.T4.2 impl_entriesOk.B4 = true := by kernel_rfl
theorem impl_entriesOk.calls (k : Nat) (A0 : Option Addr) (c0 : Nat) (l0 : List (S66)) (r : Bool) (w : World) (hr0 : Kd.C k66 w A0 l0.length l0) (hc0 : l0.length ≤ c0) (h : impl_entriesOk.f k l0 = some r) :
  Calls Try.prog 61 #[.slice A0 l0.length c0] w fun e w' => e = .returned (.bool r) ∧ Below w.heap.size w w' := by
 have hu66 := Try.underlying66; have HR0 := am hr0; have HC0 := am hc0; clear hr0 hc0; have HB := am (Below.refl w.heap.size w)
 have H : (impl_entriesOk.l0 k l0 l0 (l0.length : Int) 0) = some r := h
 clear h
 have H' := am H
 clear H; go_enter Try.func61, Try.ntmps61; go_wp2
 go_loopg [7] k (fun kq v7 w' => ∃ (x7_1 : Int), v7 = .int .i64 x7_1 ∧ Aside0 (impl_entriesOk.l0 kq l0 l0 (l0.length : Int) x7_1 = some r) ∧ Aside0 (kq ≤ k) ∧ Aside0 (Below w.heap.size w w'))
 case atStart => exact ⟨(0), sq, H', ⟨Nat.le_refl _⟩, ⟨bel⟩⟩
 case round =>
  clear H'; obtain ⟨x7_1, rfl, HA, HK1, HB⟩ := hrel
  cases gk with
  | zero => exact absurd HA.out (by simp [impl_entriesOk.l0])
  | succ k1 =>
   have H := HA.out; clear HA; simp only [impl_entriesOk.l0] at H
   by_cases c2 : x7_1 < (l0.length : Int)
   ·rw [if_pos c2] at H; have c2b0 := decide_eq_true c2; clear c2
    replace H := it H; obtain ⟨c3b0, H⟩ := H
    replace H := it H; obtain ⟨c4b0, H⟩ := H; replace H := bs H; obtain ⟨t203, A50, H⟩ := H; (try dsimp only at H); have A5 := Aside0.mk A50; clear A50
    by_cases c6 : t203 = true
    ·subst c6
     rw [if_pos rfl] at H
     by_cases c7 : x7_1 > 0
     ·rw [if_pos c7] at H; have c7b0 := decide_eq_true c7; clear c7; obtain ⟨ji8, hji8⟩ : ∃ j_ : Int, (wrap64 (x7_1 - 1)) = j_ := ⟨_, rfl⟩
      replace H : (if 0 ≤ (ji8) then (if (ji8) < (l0.length : Int) then (if ((Op.bytesLess (((rd_T66 l0 (ji8)).f0).toList) (((rd_T66 l0 x7_1).f0).toList)) = true) then (impl_entriesOk.l0 k1 l0 l0 (l0.length : Int) (wrap64 (x7_1 + 1))) else (some false)) else (none)) else (none)) = some r := by first | (rw [hji8] at H; exact H) | (simp only [hji8] at H ⊢; exact H)
      (try rw [hji8] at A5)
      have hji8w : (IntKind.i64.wrap (x7_1 - 1)) = ji8 := (i64_w _).trans hji8
      replace H := it H; obtain ⟨c9b0, H⟩ := H; replace H := it H; obtain ⟨c10b0, H⟩ := H
      by_cases c11 : ((Op.bytesLess (((rd_T66 l0 (ji8)).f0).toList) (((rd_T66 l0 x7_1).f0).toList)) = true)
      ·rw [if_pos c11] at H
       have c11b0 : (Op.bytesLess (((rd_T66 l0 (ji8)).f0).toList) (((rd_T66 l0 x7_1).f0).toList)) = true := c11
       clear c11
       have H' := am H
       clear H
       have p201 : 0 ≤ (x7_1 : Int) := of_decide_eq_true ad
       have q201 : x7_1 < (l0.length : Int) := of_decide_eq_true ad
       obtain ⟨ad201, e201, hx201_0, hx201_1⟩ := at_T66 HR0.out x7_1 p201 q201; cases e201; replace hx201_0 := kp HB.out hx201_0; replace hx201_1 := kp HB.out hx201_1; replace p201 := eq_true p201; replace q201 := eq_true q201
       try go_wp2_with (first | ((with_reducible refine gate_dst (N := 4) rfl ?_); refine bx 4 (cs := #[.string (⟨#[]⟩ : ByteArray), .string (⟨#[]⟩ : ByteArray)]) (t := 66) ?_; intro gb202 hg w12 hbox hb; have BK202 := am (hbox); have GW202 := am ((b5_ : w.heap.size ≤ gb202)); have GE202 := am ((b5_ : w.heap.size ≤ gb202)); replace HB := am (below_step bel hb); clear hb hbox hg; have ⟨hcz13_0, hcz13_1, hfz13_0, hfz13_1⟩ := b2c BK202.out))
       have n0_ : Aside0 (((w12.setCell ⟨gb202, 0, none⟩ (.string ((rd_T66 l0 x7_1).f0))).setCell ⟨gb202, 1, none⟩ (.string ((rd_T66 l0 x7_1).f1))).heap[gb202]? = some (.cells #[.string ((rd_T66 l0 x7_1).f0), .string ((rd_T66 l0 x7_1).f1)] 66 (0, 0))) := ⟨b16_⟩
       have n1_ : Aside0 (Below w.heap.size w ((w12.setCell ⟨gb202, 0, none⟩ (.string ((rd_T66 l0 x7_1).f0))).setCell ⟨gb202, 1, none⟩ (.string ((rd_T66 l0 x7_1).f1)))) := ⟨bel1 GE202.out⟩
       (try clear BK202); (try clear HB); generalize ((w12.setCell ⟨gb202, 0, none⟩ (.string ((rd_T66 l0 x7_1).f0))).setCell ⟨gb202, 1, none⟩ (.string ((rd_T66 l0 x7_1).f1))) = w14 at n0_ n1_ ⊢; have BK202 := n0_; have HB := n1_; clear n0_ n1_; replace BK202 := am (blk_drew BK202.out); replace HB := am (below_drew1 HB.out)
       have p204 : 0 ≤ ((ji8) : Int) := of_decide_eq_true ad
       have q204 : (ji8) < (l0.length : Int) := of_decide_eq_true ad
       obtain ⟨ad204, e204, hx204_0, hx204_1⟩ := at_T66 HR0.out (ji8) p204 q204; have hw204_1 := hx204_1; have hw204_0 := hx204_0
       obtain rfl : ad201 = ad204 := (by injection e204)
       replace hx204_0 := kp HB.out hx204_0; replace hx204_1 := kp HB.out hx204_1; replace p204 := eq_true p204; replace q204 := eq_true q204
       refine st (n := 18) (S := fun w' => w'.cell? ⟨gb202, 0, none⟩ = some (.string ((rd_T66 l0 x7_1).f0)) ∧ w'.cell? ⟨gb202, 1, none⟩ = some (.string ((rd_T66 l0 x7_1).f1)) ∧ w'.cell? (ad201.add (((ji8)).toNat * 2)) = some (.string ((rd_T66 l0 (ji8)).f0)) ∧ w'.cell? ⟨(ad201.add (((ji8)).toNat * 2)).block, (ad201.add (((ji8)).toNat * 2)).off + 1, none⟩ = some (.string ((rd_T66 l0 (ji8)).f1))) (ds := []) ⟨bd BK202.out 0, bd BK202.out 1, (kp HB.out hw204_0), (kp HB.out hw204_1)⟩ (fun hHeld => ?_); refine with_tabW impl_entriesOk.tab4 impl_entriesOk.bits4 (fun HT_ HW_ => ?_)
       generalize w14.drew = w15 at BK202 HB hx204_0 hx204_1 hHeld ⊢; refine tk4 0 12 hHeld ?_; refine on1 1 13 (fun K hK => ?_)
       refine go1 Try.func99 #[.agg #[.string ((rd_T66 l0 x7_1).f0), .string ((rd_T66 l0 x7_1).f1)]] ?_
       with_reducible refine (impl_entryOk.calls k1 ((rd_T66 l0 x7_1).f0) ((rd_T66 l0 x7_1).f1) true _ A5.out).mono ?_
       rintro e w16 ⟨rfl, hb⟩; refine ⟨_, rfl, ?_⟩; replace BK202 := am (blk_below (bq BK202.out) hb); replace HB := am (below_step (bel1 GE202.out) hb); clear hb; refine hK.out _ _ ⟨bd BK202.out 0, bd BK202.out 1, (kp HB.out hw204_0), (kp HB.out hw204_1)⟩ (fun hHeld => ?_); clear hK K; refine nm 13 ?_; refine pu 2 14 ?_; refine pu 3 15 ?_; refine pu 4 16 ?_; refine pu 5 17 ?_; refine pu 6 18 ?_; refine pu 7 19 ?_; refine pu 8 20 ?_; refine pu 9 21 ?_; refine pu 10 22 ?_; refine pu 11 23 ?_; refine pu 13 25 ?_; refine tk4 12 24 hHeld ?_; refine tk4 14 26 hHeld ?_; refine pu 15 27 ?_; refine pu 16 28 ?_; refine pu 17 29 ?_
       refine done_ (done_of HT_.out (by kernel_rfl)) ?_
       try go_wp2
       go_roundg k1
       case measure => have := HK1.out; omega
       case rel => exact ⟨(wrap64 (x7_1 + 1)), sq, H', ⟨b58_⟩, ⟨bel1 GE202.out⟩⟩
      rw [if_neg c11] at H
      have c11b0 : (Op.bytesLess (((rd_T66 l0 (ji8)).f0).toList) (((rd_T66 l0 x7_1).f0).toList)) = false := by simpa using c11
      clear c11; obtain rfl := Option.some.inj H
      have p201 : 0 ≤ (x7_1 : Int) := of_decide_eq_true ad
      have q201 : x7_1 < (l0.length : Int) := of_decide_eq_true ad
      obtain ⟨ad201, e201, hx201_0, hx201_1⟩ := at_T66 HR0.out x7_1 p201 q201; cases e201; replace hx201_0 := kp HB.out hx201_0; replace hx201_1 := kp HB.out hx201_1; replace p201 := eq_true p201; replace q201 := eq_true q201
      try go_wp2_with (first | ((with_reducible refine gate_dst (N := 4) rfl ?_); refine bx 4 (cs := #[.string (⟨#[]⟩ : ByteArray), .string (⟨#[]⟩ : ByteArray)]) (t := 66) ?_; intro gb202 hg w17 hbox hb; have BK202 := am (hbox); have GW202 := am ((b5_ : w.heap.size ≤ gb202)); have GE202 := am ((b5_ : w.heap.size ≤ gb202)); replace HB := am (below_step bel hb); clear hb hbox hg; have ⟨hcz18_0, hcz18_1, hfz18_0, hfz18_1⟩ := b2c BK202.out))
      have n0_ : Aside0 (((w17.setCell ⟨gb202, 0, none⟩ (.string ((rd_T66 l0 x7_1).f0))).setCell ⟨gb202, 1, none⟩ (.string ((rd_T66 l0 x7_1).f1))).heap[gb202]? = some (.cells #[.string ((rd_T66 l0 x7_1).f0), .string ((rd_T66 l0 x7_1).f1)] 66 (0, 0))) := ⟨b16_⟩
      have n1_ : Aside0 (Below w.heap.size w ((w17.setCell ⟨gb202, 0, none⟩ (.string ((rd_T66 l0 x7_1).f0))).setCell ⟨gb202, 1, none⟩ (.string ((rd_T66 l0 x7_1).f1)))) := ⟨bel1 GE202.out⟩
      (try clear BK202); (try clear HB); generalize ((w17.setCell ⟨gb202, 0, none⟩ (.string ((rd_T66 l0 x7_1).f0))).setCell ⟨gb202, 1, none⟩ (.string ((rd_T66 l0 x7_1).f1))) = w19 at n0_ n1_ ⊢; have BK202 := n0_; have HB := n1_; clear n0_ n1_; replace BK202 := am (blk_drew BK202.out); replace HB := am (below_drew1 HB.out)
      have p204 : 0 ≤ ((ji8) : Int) := of_decide_eq_true ad
      have q204 : (ji8) < (l0.length : Int) := of_decide_eq_true ad
      obtain ⟨ad204, e204, hx204_0, hx204_1⟩ := at_T66 HR0.out (ji8) p204 q204; have hw204_1 := hx204_1; have hw204_0 := hx204_0
      obtain rfl : ad201 = ad204 := (by injection e204)
      replace hx204_0 := kp HB.out hx204_0; replace hx204_1 := kp HB.out hx204_1; replace p204 := eq_true p204; replace q204 := eq_true q204
      refine st (n := 18) (S := fun w' => w'.cell? ⟨gb202, 0, none⟩ = some (.string ((rd_T66 l0 x7_1).f0)) ∧ w'.cell? ⟨gb202, 1, none⟩ = some (.string ((rd_T66 l0 x7_1).f1)) ∧ w'.cell? (ad201.add (((ji8)).toNat * 2)) = some (.string ((rd_T66 l0 (ji8)).f0)) ∧ w'.cell? ⟨(ad201.add (((ji8)).toNat * 2)).block, (ad201.add (((ji8)).toNat * 2)).off + 1, none⟩ = some (.string ((rd_T66 l0 (ji8)).f1))) (ds := []) ⟨bd BK202.out 0, bd BK202.out 1, (kp HB.out hw204_0), (kp HB.out hw204_1)⟩ (fun hHeld => ?_); refine with_tabW impl_entriesOk.tab4 impl_entriesOk.bits4 (fun HT_ HW_ => ?_)
      generalize w19.drew = w20 at BK202 HB hx204_0 hx204_1 hHeld ⊢; refine tk4 0 12 hHeld ?_; refine on1 1 13 (fun K hK => ?_)
      refine go1 Try.func99 #[.agg #[.string ((rd_T66 l0 x7_1).f0), .string ((rd_T66 l0 x7_1).f1)]] ?_
      with_reducible refine (impl_entryOk.calls k1 ((rd_T66 l0 x7_1).f0) ((rd_T66 l0 x7_1).f1) true _ A5.out).mono ?_
      rintro e w21 ⟨rfl, hb⟩; refine ⟨_, rfl, ?_⟩; replace BK202 := am (blk_below (bq BK202.out) hb); replace HB := am (below_step (bel1 GE202.out) hb); clear hb; refine hK.out _ _ ⟨bd BK202.out 0, bd BK202.out 1, (kp HB.out hw204_0), (kp HB.out hw204_1)⟩ (fun hHeld => ?_); clear hK K; refine nm 13 ?_; refine pu 2 14 ?_; refine pu 3 15 ?_; refine pu 4 16 ?_; refine pu 5 17 ?_; refine pu 6 18 ?_; refine pu 7 19 ?_; refine pu 8 20 ?_; refine pu 9 21 ?_; refine pu 10 22 ?_; refine pu 11 23 ?_; refine pu 13 25 ?_; refine tk4 12 24 hHeld ?_; refine tk4 14 26 hHeld ?_; refine pu 15 27 ?_; refine pu 16 28 ?_; refine pu 17 29 ?_
      refine done_ (done_of HT_.out (by kernel_rfl)) ?_
      try go_wp2
      go_ret
      exact ⟨b83_, bel1 GE202.out⟩
     rw [if_neg c7] at H; have c7b0 := decide_eq_false c7; clear c7
     have H' := am H
     clear H
     have p201 : 0 ≤ (x7_1 : Int) := of_decide_eq_true ad
     have q201 : x7_1 < (l0.length : Int) := of_decide_eq_true ad
     obtain ⟨ad201, e201, hx201_0, hx201_1⟩ := at_T66 HR0.out x7_1 p201 q201; cases e201; replace hx201_0 := kp HB.out hx201_0; replace hx201_1 := kp HB.out hx201_1; replace p201 := eq_true p201; replace q201 := eq_true q201
     try go_wp2_with (first | ((with_reducible refine gate_dst (N := 4) rfl ?_); refine bx 4 (cs := #[.string (⟨#[]⟩ : ByteArray), .string (⟨#[]⟩ : ByteArray)]) (t := 66) ?_; intro gb202 hg w22 hbox hb; have BK202 := am (hbox); have GW202 := am ((b5_ : w.heap.size ≤ gb202)); have GE202 := am ((b5_ : w.heap.size ≤ gb202)); replace HB := am (below_step bel hb); clear hb hbox hg; have ⟨hcz23_0, hcz23_1, hfz23_0, hfz23_1⟩ := b2c BK202.out))
     have n0_ : Aside0 (((w22.setCell ⟨gb202, 0, none⟩ (.string ((rd_T66 l0 x7_1).f0))).setCell ⟨gb202, 1, none⟩ (.string ((rd_T66 l0 x7_1).f1))).heap[gb202]? = some (.cells #[.string ((rd_T66 l0 x7_1).f0), .string ((rd_T66 l0 x7_1).f1)] 66 (0, 0))) := ⟨b16_⟩
     have n1_ : Aside0 (Below w.heap.size w ((w22.setCell ⟨gb202, 0, none⟩ (.string ((rd_T66 l0 x7_1).f0))).setCell ⟨gb202, 1, none⟩ (.string ((rd_T66 l0 x7_1).f1)))) := ⟨bel1 GE202.out⟩
     (try clear BK202); (try clear HB); generalize ((w22.setCell ⟨gb202, 0, none⟩ (.string ((rd_T66 l0 x7_1).f0))).setCell ⟨gb202, 1, none⟩ (.string ((rd_T66 l0 x7_1).f1))) = w24 at n0_ n1_ ⊢; have BK202 := n0_; have HB := n1_; clear n0_ n1_; replace BK202 := am (blk_drew BK202.out); replace HB := am (below_drew1 HB.out)
     refine st (n := 18) (S := fun w' => w'.cell? ⟨gb202, 0, none⟩ = some (.string ((rd_T66 l0 x7_1).f0)) ∧ w'.cell? ⟨gb202, 1, none⟩ = some (.string ((rd_T66 l0 x7_1).f1))) (ds := []) ⟨bd BK202.out 0, bd BK202.out 1⟩ (fun hHeld => ?_); refine with_tabW impl_entriesOk.tab4 impl_entriesOk.bits4 (fun HT_ HW_ => ?_)
     generalize w24.drew = w25 at BK202 HB hHeld ⊢; refine tk2 0 12 hHeld ?_; refine on1 1 13 (fun K hK => ?_)
     refine go1 Try.func99 #[.agg #[.string ((rd_T66 l0 x7_1).f0), .string ((rd_T66 l0 x7_1).f1)]] ?_
     with_reducible refine (impl_entryOk.calls k1 ((rd_T66 l0 x7_1).f0) ((rd_T66 l0 x7_1).f1) true _ A5.out).mono ?_
     rintro e w26 ⟨rfl, hb⟩; refine ⟨_, rfl, ?_⟩; replace BK202 := am (blk_below (bq BK202.out) hb); replace HB := am (below_step (bel1 GE202.out) hb); clear hb; refine hK.out _ _ ⟨bd BK202.out 0, bd BK202.out 1⟩ (fun hHeld => ?_); clear hK K; refine nm 13 ?_; refine pu 2 14 ?_; refine pu 3 15 ?_; refine pu 4 16 ?_; refine pu 5 17 ?_; refine pu 6 18 ?_; refine puu 7 19 ?_; refine puu 8 20 ?_; refine puu 9 21 ?_; refine puu 10 22 ?_; refine puu 11 23 ?_; refine puu 12 24 ?_; refine puu 13 25 ?_; refine puu 14 26 ?_; refine puu 15 27 ?_; refine pu 16 28 ?_; refine pu 17 29 ?_
     refine done_ (done_of HT_.out (by kernel_rfl)) ?_
     try go_wp2
     go_roundg k1
     case measure => have := HK1.out; omega
     case rel => exact ⟨(wrap64 (x7_1 + 1)), sq, H', ⟨b58_⟩, ⟨bel1 GE202.out⟩⟩
    replace c6 := Bool.eq_false_iff.mpr c6; subst c6
    rw [if_neg Bool.false_ne_true] at H
    obtain rfl := Option.some.inj H
    have p201 : 0 ≤ (x7_1 : Int) := of_decide_eq_true ad
    have q201 : x7_1 < (l0.length : Int) := of_decide_eq_true ad
    obtain ⟨ad201, e201, hx201_0, hx201_1⟩ := at_T66 HR0.out x7_1 p201 q201; cases e201; replace hx201_0 := kp HB.out hx201_0; replace hx201_1 := kp HB.out hx201_1; replace p201 := eq_true p201; replace q201 := eq_true q201
    try go_wp2_with (first | ((with_reducible refine gate_dst (N := 4) rfl ?_); refine bx 4 (cs := #[.string (⟨#[]⟩ : ByteArray), .string (⟨#[]⟩ : ByteArray)]) (t := 66) ?_; intro gb202 hg w27 hbox hb; have BK202 := am (hbox); have GW202 := am ((b5_ : w.heap.size ≤ gb202)); have GE202 := am ((b5_ : w.heap.size ≤ gb202)); replace HB := am (below_step bel hb); clear hb hbox hg; have ⟨hcz28_0, hcz28_1, hfz28_0, hfz28_1⟩ := b2c BK202.out))
    have n0_ : Aside0 (((w27.setCell ⟨gb202, 0, none⟩ (.string ((rd_T66 l0 x7_1).f0))).setCell ⟨gb202, 1, none⟩ (.string ((rd_T66 l0 x7_1).f1))).heap[gb202]? = some (.cells #[.string ((rd_T66 l0 x7_1).f0), .string ((rd_T66 l0 x7_1).f1)] 66 (0, 0))) := ⟨b16_⟩
    have n1_ : Aside0 (Below w.heap.size w ((w27.setCell ⟨gb202, 0, none⟩ (.string ((rd_T66 l0 x7_1).f0))).setCell ⟨gb202, 1, none⟩ (.string ((rd_T66 l0 x7_1).f1)))) := ⟨bel1 GE202.out⟩
    (try clear BK202); (try clear HB); generalize ((w27.setCell ⟨gb202, 0, none⟩ (.string ((rd_T66 l0 x7_1).f0))).setCell ⟨gb202, 1, none⟩ (.string ((rd_T66 l0 x7_1).f1))) = w29 at n0_ n1_ ⊢; have BK202 := n0_; have HB := n1_; clear n0_ n1_; replace BK202 := am (blk_drew BK202.out); replace HB := am (below_drew1 HB.out)
    refine st (n := 18) (S := fun w' => w'.cell? ⟨gb202, 0, none⟩ = some (.string ((rd_T66 l0 x7_1).f0)) ∧ w'.cell? ⟨gb202, 1, none⟩ = some (.string ((rd_T66 l0 x7_1).f1))) (ds := []) ⟨bd BK202.out 0, bd BK202.out 1⟩ (fun hHeld => ?_); refine with_tabW impl_entriesOk.tab4 impl_entriesOk.bits4 (fun HT_ HW_ => ?_)
    generalize w29.drew = w30 at BK202 HB hHeld ⊢; refine tk2 0 12 hHeld ?_; refine on1 1 13 (fun K hK => ?_)
    refine go1 Try.func99 #[.agg #[.string ((rd_T66 l0 x7_1).f0), .string ((rd_T66 l0 x7_1).f1)]] ?_
    with_reducible refine (impl_entryOk.calls k1 ((rd_T66 l0 x7_1).f0) ((rd_T66 l0 x7_1).f1) false _ A5.out).mono ?_
    rintro e w31 ⟨rfl, hb⟩; refine ⟨_, rfl, ?_⟩; replace BK202 := am (blk_below (bq BK202.out) hb); replace HB := am (below_step (bel1 GE202.out) hb); clear hb; refine hK.out _ _ ⟨bd BK202.out 0, bd BK202.out 1⟩ (fun hHeld => ?_); clear hK K; refine nm 13 ?_; refine pu 2 14 ?_; refine pu 3 15 ?_; refine puu 4 16 ?_; refine puu 5 17 ?_; refine puu 6 18 ?_; refine puu 7 19 ?_; refine puu 8 20 ?_; refine puu 9 21 ?_; refine puu 10 22 ?_; refine puu 11 23 ?_; refine puu 12 24 ?_; refine puu 13 25 ?_; refine puu 14 26 ?_; refine puu 15 27 ?_; refine puu 16 28 ?_; refine pu 17 29 ?_
    refine done_ (done_of HT_.out (by kernel_rfl)) ?_
    try go_wp2
    go_ret
    exact ⟨eq_, bel1 GE202.out⟩
   rw [if_neg c2] at H; have c2b0 := decide_eq_false c2; clear c2; obtain rfl := Option.some.inj H; go_wp2; go_ret
   exact ⟨eq_, bel⟩

/-! ### stringslite_HasPrefix: function 139 -/
def stringslite_HasPrefix.f (a0 : ByteArray) (a1 : ByteArray) : Option (Bool) := if (a0.size : Int) ≥ (a1.size : Int) then (if 0 ≤ (a1.size : Int) then (if (a1.size : Int) ≤ (a0.size : Int) then (some ((a0.extract 0 a1.size).toList == a1.toList)) else (none)) else (none)) else (some false)
theorem stringslite_HasPrefix.calls (a0 : ByteArray) (a1 : ByteArray) (r : Bool) (w : World) (h : stringslite_HasPrefix.f a0 a1 = some r) :
  Calls Try.prog 139 #[.string a0, .string a1] w fun e w' => e = .returned (.bool r) ∧ Drawn0 w w' := by
 have H : (if (a0.size : Int) ≥ (a1.size : Int) then (if 0 ≤ (a1.size : Int) then (if (a1.size : Int) ≤ (a0.size : Int) then (some ((a0.extract 0 a1.size).toList == a1.toList)) else (none)) else (none)) else (some false)) = some r := h
 clear h
 by_cases c3 : (a0.size : Int) ≥ (a1.size : Int)
 ·rw [if_pos c3] at H; have c3b0 := decide_eq_true c3
  have c3b1 : decide (a1.size ≤ a0.size) = true := decide_eq_true (Int.ofNat_le.mp c3)
  clear c3; replace H := ip H; obtain ⟨c4, H⟩ := H; have c4b0 := eq_true c4
  have c4b1 : decide (0 ≤ (a1.size : Int)) = true := decide_eq_true c4
  clear c4; replace H := ip H; obtain ⟨c5, H⟩ := H; have c5b0 := eq_true c5
  have c5b9 : (a1.size ≤ a0.size) = True := eq_true (by omega)
  have c5b6 : decide (a1.size ≤ a0.size) = true := decide_eq_true (by omega)
  have c5b1 : decide ((a1.size : Int) ≤ (a0.size : Int)) = true := decide_eq_true c5
  clear c5; obtain rfl := Option.some.inj H; go_enter Try.func139, Try.ntmps139; go_wp2; go_ret
  exact ⟨sq, dr⟩
 rw [if_neg c3] at H; have c3b0 := decide_eq_false c3
 have c3b1 : decide (a1.size ≤ a0.size) = false := decide_eq_false (fun h => c3 (Int.ofNat_le.mpr h))
 clear c3; obtain rfl := Option.some.inj H; go_enter Try.func139, Try.ntmps139; go_wp2; go_ret
 exact ⟨sq, dr⟩

/-! ### strings_HasPrefix: function 121 -/
def strings_HasPrefix.f (a0 : ByteArray) (a1 : ByteArray) : Option (Bool) := (stringslite_HasPrefix.f a0 a1).bind fun t205 => (some t205)
theorem strings_HasPrefix.calls (a0 : ByteArray) (a1 : ByteArray) (r : Bool) (w : World) (h : strings_HasPrefix.f a0 a1 = some r) :
  Calls Try.prog 121 #[.string a0, .string a1] w fun e w' => e = .returned (.bool r) ∧ Drawn0 w w' := by
 have H : ((stringslite_HasPrefix.f a0 a1).bind fun t205 => (some t205)) = some r := h
 clear h; replace H := bs H; obtain ⟨t205, A30, H⟩ := H; (try dsimp only at H); have A3 := Aside0.mk A30; clear A30; obtain rfl := Option.some.inj H; go_enter Try.func121, Try.ntmps121
 go_wp2_with (first | ((with_reducible refine gate_callee (f := 139) rfl ?_); refine gl 7 Try.func139 #[.string a0, .string a1] ?_; (with_reducible refine (stringslite_HasPrefix.calls a0 a1 t205 _ A3.out).mono ?_); rintro e w' ⟨rfl, ⟨nd, rfl⟩⟩; refine ⟨_, rfl, ?_⟩))
 go_ret
 exact ⟨sq, dr⟩
-- shrunk

attribute [local go_sem high] eqA73
/-! ### stringslite_HasSuffix: function 140 -/
def stringslite_HasSuffix.f (a0 : ByteArray) (a1 : ByteArray) : Option (Bool) := if (a0.size : Int) ≥ (a1.size : Int) then (if 0 ≤ (wrap64 ((a0.size : Int) - (a1.size : Int))) then (if (wrap64 ((a0.size : Int) - (a1.size : Int))) ≤ (a0.size : Int) then (some ((a0.extract ((wrap64 ((a0.size : Int) - (a1.size : Int))) : Int).toNat a0.size).toList == a1.toList)) else (none)) else (none)) else (some false)
theorem stringslite_HasSuffix.calls (a0 : ByteArray) (a1 : ByteArray) (r : Bool) (w : World) (h : stringslite_HasSuffix.f a0 a1 = some r) :
  Calls Try.prog 140 #[.string a0, .string a1] w fun e w' => e = .returned (.bool r) ∧ Drawn0 w w' := by
 have H : (if (a0.size : Int) ≥ (a1.size : Int) then (if 0 ≤ (wrap64 ((a0.size : Int) - (a1.size : Int))) then (if (wrap64 ((a0.size : Int) - (a1.size : Int))) ≤ (a0.size : Int) then (some ((a0.extract ((wrap64 ((a0.size : Int) - (a1.size : Int))) : Int).toNat a0.size).toList == a1.toList)) else (none)) else (none)) else (some false)) = some r := h
 clear h
 by_cases c3 : (a0.size : Int) ≥ (a1.size : Int)
 ·rw [if_pos c3] at H; have c3b0 := decide_eq_true c3
  have c3b1 : decide (a1.size ≤ a0.size) = true := decide_eq_true (Int.ofNat_le.mp c3)
  clear c3; obtain ⟨ji4, hji4⟩ : ∃ j_ : Int, (wrap64 ((a0.size : Int) - (a1.size : Int))) = j_ := ⟨_, rfl⟩
  replace H : (if 0 ≤ (ji4) then (if (ji4) ≤ (a0.size : Int) then (some ((a0.extract ((ji4) : Int).toNat a0.size).toList == a1.toList)) else (none)) else (none)) = some r := by first | (rw [hji4] at H; exact H) | (simp only [hji4] at H ⊢; exact H)
  have hji4w : (IntKind.i64.wrap ((a0.size : Int) - (a1.size : Int))) = ji4 := (i64_w _).trans hji4
  replace H := ip H; obtain ⟨c5, H⟩ := H; have c5b0 := eq_true c5
  have c5b1 : decide (0 ≤ (ji4)) = true := decide_eq_true c5
  clear c5; replace H := ip H; obtain ⟨c6, H⟩ := H; have c6b0 := eq_true c6
  have c6b1 : decide ((ji4) ≤ (a0.size : Int)) = true := decide_eq_true c6
  clear c6; obtain rfl := Option.some.inj H; go_enter Try.func140, Try.ntmps140; go_wp2; go_ret
  exact ⟨by first | rfl | (simp; done) | (simp only [← hji4] <;> (first | rfl | simp)) | (simp [*]; done), dr⟩
 rw [if_neg c3] at H; have c3b0 := decide_eq_false c3
 have c3b1 : decide (a1.size ≤ a0.size) = false := decide_eq_false (fun h => c3 (Int.ofNat_le.mpr h))
 clear c3; obtain rfl := Option.some.inj H; go_enter Try.func140, Try.ntmps140; go_wp2; go_ret
 exact ⟨sq, dr⟩

/-! ### strings_HasSuffix: function 122 -/
def strings_HasSuffix.f (a0 : ByteArray) (a1 : ByteArray) : Option (Bool) := (stringslite_HasSuffix.f a0 a1).bind fun t206 => (some t206)
theorem strings_HasSuffix.calls (a0 : ByteArray) (a1 : ByteArray) (r : Bool) (w : World) (h : strings_HasSuffix.f a0 a1 = some r) :
  Calls Try.prog 122 #[.string a0, .string a1] w fun e w' => e = .returned (.bool r) ∧ Drawn0 w w' := by
 have H : ((stringslite_HasSuffix.f a0 a1).bind fun t206 => (some t206)) = some r := h
 clear h; replace H := bs H; obtain ⟨t206, A30, H⟩ := H; (try dsimp only at H); have A3 := Aside0.mk A30; clear A30; obtain rfl := Option.some.inj H; go_enter Try.func122, Try.ntmps122
 go_wp2_with (first | ((with_reducible refine gate_callee (f := 140) rfl ?_); refine gl 7 Try.func140 #[.string a0, .string a1] ?_; (with_reducible refine (stringslite_HasSuffix.calls a0 a1 t206 _ A3.out).mono ?_); rintro e w' ⟨rfl, ⟨nd, rfl⟩⟩; refine ⟨_, rfl, ?_⟩))
 go_ret
 exact ⟨sq, dr⟩

/-! ### impl_AffixOk: function 100 -/
mutual
def impl_AffixOk.j0 : Nat → Bool → ByteArray → Bool → ByteArray → ByteArray → ByteArray → Option (Bool)
 | 0, _, _, _, _, _, _ => none
 | k + 1, x15, x208000, x208001, x208002, x208003, x208004 => if x15 = true then (some false) else ((some (([x208002, x208003, x208004] : List ByteArray) : List ByteArray)).bind fun y209 => (impl_AffixOk.l0 k y209 (y209.length : Int) 0 x208000 x208001 x208002 x208003 x208004))
def impl_AffixOk.l0 : Nat → List ByteArray → Int → Int → ByteArray → Bool → ByteArray → ByteArray → ByteArray → Option (Bool)
 | 0, _, _, _, _, _, _, _, _ => none
 | k + 1, x22, x23, x24, x208000, x208001, x208002, x208003, x208004 => if x24 < x23 then (if 0 ≤ x24 then (if x24 < (x22.length : Int) then (if ((rdOf ByteArray.empty x22 x24).size : Int) > 4 then (some false) else ((impl_lower.f k (rdOf ByteArray.empty x22 x24)).bind fun t213 => (if t213 = true then (impl_AffixOk.l0 k x22 x23 (wrap64 (x24 + 1)) x208000 x208001 x208002 x208003 x208004) else (some false)))) else (none)) else (none)) else (if x208001 = true then ((strings_HasPrefix.f x208004 x208002).bind fun t214 => (some t214)) else ((strings_HasSuffix.f x208004 x208002).bind fun t215 => (some t215)))
end
def impl_AffixOk.f (k : Nat) (a0_0 : ByteArray) (a0_1 : Bool) (a0_2 : ByteArray) (a0_3 : ByteArray) (a0_4 : ByteArray) : Option (Bool) := if (a0_0.size : Int) = 1 then (if 0 < (a0_0.size : Int) then ((impl_upper.f (bt a0_0 0)).bind fun t208 => (impl_AffixOk.j0 k (!t208) a0_0 a0_1 a0_2 a0_3 a0_4)) else (none)) else (impl_AffixOk.j0 k true a0_0 a0_1 a0_2 a0_3 a0_4)
theorem impl_AffixOk.calls (k : Nat) (a0_0 : ByteArray) (a0_1 : Bool) (a0_2 : ByteArray) (a0_3 : ByteArray) (a0_4 : ByteArray) (r : Bool) (w : World) (h : impl_AffixOk.f k a0_0 a0_1 a0_2 a0_3 a0_4 = some r) :
  Calls Try.prog 100 #[.agg #[.string a0_0, .bool a0_1, .string a0_2, .string a0_3, .string a0_4]] w fun e w' => e = .returned (.bool r) ∧ Below w.heap.size w w' := by
 have hu73 := Try.underlying73; have HB := am (Below.refl w.heap.size w)
 have H : (if (a0_0.size : Int) = 1 then (if 0 < (a0_0.size : Int) then ((impl_upper.f (bt a0_0 0)).bind fun t208 => (impl_AffixOk.j0 k (!t208) a0_0 a0_1 a0_2 a0_3 a0_4)) else (none)) else (impl_AffixOk.j0 k true a0_0 a0_1 a0_2 a0_3 a0_4)) = some r := h
 clear h; have HC2 := am H; clear H; go_enter Try.func100, Try.ntmps100
 go_upto_region 1 with (first | ((with_reducible refine gate_dst (N := 1) rfl ?_); refine bx 1 (cs := #[.string a0_0, .bool a0_1, .string a0_2, .string a0_3, .string a0_4]) (t := 73) ?_; intro gb207 hg w3 hbox hb; have BK207 := am (hbox); have GW207 := am ((b5_ : w.heap.size ≤ gb207)); have GE207 := am ((b5_ : w.heap.size ≤ gb207)); replace HB := am (below_step bel hb); clear hb hbox hg))
 (try simp only [Act.put, List.setIfInBounds_toArray, List.set_cons_zero, List.set_cons_succ])
 go_cut [15] (fun v15 wc => ∃ (kq : Nat) (x15_1 : Bool), v15 = .bool x15_1 ∧ Aside0 (impl_AffixOk.j0 kq x15_1 a0_0 a0_1 a0_2 a0_3 a0_4 = some r) ∧ Aside0 (kq ≤ k) ∧ Aside0 (wc.heap[gb207]? = some (.cells #[.string a0_0, .bool a0_1, .string a0_2, .string a0_3, .string a0_4] 73 (0, 0))) ∧ Aside0 (Below w.heap.size w wc))
 case first =>
  have H := HC2.out; clear HC2
  by_cases c4 : (a0_0.size : Int) = 1
  ·rw [if_pos c4] at H
   have c4b0 : ((a0_0.size : Int) == 1) = true := beq_iff_eq.mpr c4
   have c4b1 : ((a0_0.size : Int) != 1) = false := bne_eq_false_iff_eq.mpr c4
   clear c4
   (first | rw [c4b0] | (simp only [i64_w, i32_w]; rw [c4b0]) | skip)
   replace H := ip H; obtain ⟨c5, H⟩ := H; have c5b0 := decide_eq_true c5
   have c5b1 : decide (0 < a0_0.size) = true := decide_eq_true (by omega)
   clear c5; replace H := bs H; obtain ⟨t208, A70, H⟩ := H; (try dsimp only at H); have A7 := Aside0.mk A70; clear A70
   have H' := am H
   clear H; have ⟨hcz8_0, hcz8_1, hcz8_2, hcz8_3, hcz8_4, hfz8_0, hfz8_1, hfz8_2, hfz8_3, hfz8_4⟩ := b5c BK207.out
   have p6 : 0 ≤ (0 : Int) := (by omega)
   have q6 : 0 < a0_0.size := (by have : (0 : Int) < (a0_0.size : Int) := of_decide_eq_true ad; omega)
   have hx6 : ∀ h : 0 < a0_0.size, ((a0_0[0]'h).toNat : Int) = bt a0_0 0 := bt_at a0_0 0
   clear p6
   have qi6 : (0 < (a0_0.size : Int)) = True := eq_true (of_decide_eq_true ad)
   replace q6 := eq_true q6
   go_wp2_with (first | (go_at_call 120; (with_reducible refine (impl_upper.calls (bt a0_0 0) t208 _ A7.out).mono ?_); rintro e w' ⟨rfl, ⟨nd, rfl⟩⟩))
   go_meet
   case rel => exact ⟨_, (!t208), sq, H', ⟨b78_⟩, ⟨bq BK207.out⟩, ⟨bel1 GE207.out⟩⟩
  rw [if_neg c4] at H
  have c4b0 : ((a0_0.size : Int) == 1) = false := beq_eq_false_iff_ne.mpr c4
  have c4b1 : ((a0_0.size : Int) != 1) = true := bne_iff_ne.mpr c4
  (first | rw [c4b0] | (simp only [i64_w, i32_w]; rw [c4b0]) | skip)
  have H' := am H
  clear H; have ⟨hcz9_0, hcz9_1, hcz9_2, hcz9_3, hcz9_4, hfz9_0, hfz9_1, hfz9_2, hfz9_3, hfz9_4⟩ := b5c BK207.out; go_wp2
  go_meet
  case rel => exact ⟨_, (true), sq, H', ⟨b78_⟩, ⟨bq BK207.out⟩, ⟨bel1 GE207.out⟩⟩
 case rest =>
  clear HC2; (try clear c1); (try clear p2); (try clear c4); (try clear c4b0); (try clear c4b1); (try clear c5); (try clear c5b0); (try clear c5b1); (try clear p6); (try clear q6); (try clear hx6); (try clear qi6); (try clear hcz8_0); (try clear hcz8_1); (try clear hcz8_2); (try clear hcz8_3); (try clear hcz8_4); (try clear hcz9_0); (try clear hcz9_1); (try clear hcz9_2); (try clear hcz9_3); (try clear hcz9_4); (try clear hfz8_0); (try clear hfz8_1); (try clear hfz8_2); (try clear hfz8_3); (try clear hfz8_4); (try clear hfz9_0); (try clear hfz9_1); (try clear hfz9_2); (try clear hfz9_3); (try clear hfz9_4); (try clear p6); (try clear q6); obtain ⟨kq, x15_1, rfl, HA, HJ1, BK207, HB⟩ := hcut
  cases kq with
  | zero => exact absurd HA.out (by simp [impl_AffixOk.j0])
  | succ kj1 =>
   have H := HA.out; clear HA; simp only [impl_AffixOk.j0] at H
   by_cases c10 : x15_1 = true
   ·subst c10
    rw [if_pos rfl] at H
    obtain rfl := Option.some.inj H; go_wp2; go_ret
    exact ⟨eq_, bel1 GE207.out⟩
   replace c10 := Bool.eq_false_iff.mpr c10; subst c10
   rw [if_neg Bool.false_ne_true] at H
   obtain ⟨y209, hy209⟩ : ∃ y_ : List ByteArray, y_ = (([a0_2, a0_3, a0_4] : List ByteArray)) := ⟨_, rfl⟩
   replace H : (impl_AffixOk.l0 kj1 y209 (y209.length : Int) 0 a0_0 a0_1 a0_2 a0_3 a0_4) = some r := by first | (rw [hy209]; with_reducible exact H) | (have H2_ := bm H; rw [hy209]; with_reducible exact H2_) | (with_reducible exact bm H) | with_reducible exact H | (rw [hy209]; exact H) | exact H
   have Ny209 := am hy209; clear hy209
   have H' := am H
   clear H; have ⟨hcz11_0, hcz11_1, hcz11_2, hcz11_3, hcz11_4, hfz11_0, hfz11_1, hfz11_2, hfz11_3, hfz11_4⟩ := b5c BK207.out
   go_wp2_with (first | ((with_reducible refine gate_dst (N := 22) rfl ?_); refine Kd.R_lit Kd.string _ 9 ?hg (N := 22) ?hd (xs := ([a0_2, a0_3, a0_4] : List ByteArray)) (inner := [.string a0_2, .string a0_3, .string a0_4]) (ok := fun _ => True) (okp := fun _ => True) ?hr ?hp (fun _ hk => hk) trivial (Below.refl _ _) (Nat.le_refl _) (by simp) ?_; (case hd => rfl); (case hg => rfl); (case hr => first | (go_simp; done) | (go_simp; rfl)); (case hp => exact (Reps.one (show Kd.M Kd.string _ _ _ a0_2 [.string a0_2] from rfl) (Reps.one (show Kd.M Kd.string _ _ _ a0_3 [.string a0_3] from rfl) (Reps.one (show Kd.M Kd.string _ _ _ a0_4 [.string a0_4] from rfl) (Reps.none _ _))))); intro v210 w12 ho13 hb hg_ hnew_; clear hg_ hnew_; (first | rw [← Ny209.out] at ho13 | (simp only [Int.reduceToNat] at ho13; rw [← Ny209.out] at ho13) | (simp only [Int.toNat_natCast] at ho13; rw [← Ny209.out] at ho13)); have HO211 := am (Kd.R_lower ho13 (below_size (bel1 GE207.out))); replace BK207 := am (blk_below (bq BK207.out) hb); replace HB := am (below_step (bel1 GE207.out) hb); clear hb ho13; obtain ⟨Ao14, co14, eo14⟩ := Kd.R_slice HO211.out; subst eo14))
   go_loopg [24] kj1 (fun kq v24 w' => ∃ (x24_2 : Int), v24 = .int .i64 x24_2 ∧ Aside0 (impl_AffixOk.l0 kq y209 (y209.length : Int) x24_2 a0_0 a0_1 a0_2 a0_3 a0_4 = some r) ∧ Aside0 (kq ≤ kj1) ∧ Aside0 (Kd.R Kd.string 9 w' w.heap.size (fun _ => True) (.slice Ao14 y209.length co14) y209) ∧ Aside0 (w'.heap[gb207]? = some (.cells #[.string a0_0, .bool a0_1, .string a0_2, .string a0_3, .string a0_4] 73 (0, 0))) ∧ Aside0 (Below w.heap.size w w'))
   case atStart => exact ⟨(0), sq, H', ⟨Nat.le_refl _⟩, ⟨rq HO211.out⟩, ⟨bq BK207.out⟩, ⟨bel1 GE207.out⟩⟩
   case round =>
    clear H'; (try clear c1); (try clear p2); (try clear c4); (try clear c4b0); (try clear c4b1); (try clear c5); (try clear c5b0); (try clear c5b1); (try clear p6); (try clear q6); (try clear hx6); (try clear qi6); (try clear c10); (try clear hcz11_0); (try clear hcz11_1); (try clear hcz11_2); (try clear hcz11_3); (try clear hcz11_4); (try clear hcz8_0); (try clear hcz8_1); (try clear hcz8_2); (try clear hcz8_3); (try clear hcz8_4); (try clear hcz9_0); (try clear hcz9_1); (try clear hcz9_2); (try clear hcz9_3); (try clear hcz9_4); (try clear hfz11_0); (try clear hfz11_1); (try clear hfz11_2); (try clear hfz11_3); (try clear hfz11_4); (try clear hfz8_0); (try clear hfz8_1); (try clear hfz8_2); (try clear hfz8_3); (try clear hfz8_4); (try clear hfz9_0); (try clear hfz9_1); (try clear hfz9_2); (try clear hfz9_3); (try clear hfz9_4); (try clear p2); (try clear p6); (try clear q6); obtain ⟨x24_2, rfl, HA, HK2, HO_22, BK207, HB⟩ := hrel
    cases gk with
    | zero => exact absurd HA.out (by simp [impl_AffixOk.l0])
    | succ k2 =>
     have H := HA.out; clear HA; simp only [impl_AffixOk.l0] at H
     by_cases c15 : x24_2 < (y209.length : Int)
     ·rw [if_pos c15] at H; have c15b0 := decide_eq_true c15; clear c15
      replace H := it H; obtain ⟨c16b0, H⟩ := H; replace H := it H; obtain ⟨c17b0, H⟩ := H
      by_cases c18 : ((rdOf ByteArray.empty y209 x24_2).size : Int) > 4
      ·rw [if_pos c18] at H; have c18b0 := decide_eq_true c18
       have c18b1 : decide (4 < (rdOf ByteArray.empty y209 x24_2).size) = true := decide_eq_true (by omega)
       clear c18; obtain rfl := Option.some.inj H
       have p212 : 0 ≤ (x24_2 : Int) := of_decide_eq_true ad
       have q212 : x24_2 < (y209.length : Int) := of_decide_eq_true ad
       obtain ⟨ad212, e212, hx212_0⟩ := Kd.at_string (Kd.R_reads' HO_22.out).2.2 x24_2 p212 q212; cases e212
       replace p212 := eq_true p212; replace q212 := eq_true q212; go_wp2; go_ret
       exact ⟨eq_, bel1 GE207.out⟩
      rw [if_neg c18] at H; have c18b0 := decide_eq_false c18
      have c18b1 : decide (4 < (rdOf ByteArray.empty y209 x24_2).size) = false := decide_eq_false (by omega)
      clear c18; replace H := bs H; obtain ⟨t213, A190, H⟩ := H; (try dsimp only at H); have A19 := Aside0.mk A190; clear A190
      by_cases c20 : t213 = true
      ·subst c20
       rw [if_pos rfl] at H
       have H' := am H
       clear H
       have p212 : 0 ≤ (x24_2 : Int) := of_decide_eq_true ad
       have q212 : x24_2 < (y209.length : Int) := of_decide_eq_true ad
       obtain ⟨ad212, e212, hx212_0⟩ := Kd.at_string (Kd.R_reads' HO_22.out).2.2 x24_2 p212 q212; cases e212; replace p212 := eq_true p212; replace q212 := eq_true q212
       go_wp2_with (first | (go_at_call 109; (with_reducible refine (impl_lower.calls k2 (rdOf ByteArray.empty y209 x24_2) true _ A19.out).mono ?_); rintro e w' ⟨rfl, ⟨nd, rfl⟩⟩))
       go_roundg k2
       case measure => have := HJ1.out; have := HK2.out; omega
       case rel => exact ⟨(wrap64 (x24_2 + 1)), sq, H', ⟨by have := HJ1.out; have := HK2.out; omega⟩, ⟨rq HO_22.out⟩, ⟨bq BK207.out⟩, ⟨bel1 GE207.out⟩⟩
      replace c20 := Bool.eq_false_iff.mpr c20; subst c20
      rw [if_neg Bool.false_ne_true] at H
      obtain rfl := Option.some.inj H
      have p212 : 0 ≤ (x24_2 : Int) := of_decide_eq_true ad
      have q212 : x24_2 < (y209.length : Int) := of_decide_eq_true ad
      obtain ⟨ad212, e212, hx212_0⟩ := Kd.at_string (Kd.R_reads' HO_22.out).2.2 x24_2 p212 q212; cases e212; replace p212 := eq_true p212; replace q212 := eq_true q212
      go_wp2_with (first | (go_at_call 109; (with_reducible refine (impl_lower.calls k2 (rdOf ByteArray.empty y209 x24_2) false _ A19.out).mono ?_); rintro e w' ⟨rfl, ⟨nd, rfl⟩⟩))
      go_ret
      exact ⟨eq_, bel1 GE207.out⟩
     rw [if_neg c15] at H; have c15b0 := decide_eq_false c15; clear c15
     by_cases c21 : a0_1 = true
     ·subst c21
      rw [if_pos rfl] at H
      replace H := bs H; obtain ⟨t214, A220, H⟩ := H; (try dsimp only at H); have A22 := Aside0.mk A220; clear A220; obtain rfl := Option.some.inj H; have ⟨hcz23_0, hcz23_1, hcz23_2, hcz23_3, hcz23_4, hfz23_0, hfz23_1, hfz23_2, hfz23_3, hfz23_4⟩ := b5c BK207.out
      go_wp2_with (first | ((with_reducible refine gate_callee (f := 121) rfl ?_); refine gl 43 Try.func121 #[.string a0_4, .string a0_2] ?_; (with_reducible refine (strings_HasPrefix.calls a0_4 a0_2 t214 _ A22.out).mono ?_); rintro e w' ⟨rfl, ⟨nd, rfl⟩⟩; refine ⟨_, rfl, ?_⟩))
      go_ret
      exact ⟨eq_, bel1 GE207.out⟩
     replace c21 := Bool.eq_false_iff.mpr c21; subst c21
     rw [if_neg Bool.false_ne_true] at H
     replace H := bs H; obtain ⟨t215, A240, H⟩ := H; (try dsimp only at H); have A24 := Aside0.mk A240; clear A240; obtain rfl := Option.some.inj H; have ⟨hcz25_0, hcz25_1, hcz25_2, hcz25_3, hcz25_4, hfz25_0, hfz25_1, hfz25_2, hfz25_3, hfz25_4⟩ := b5c BK207.out
     go_wp2_with (first | ((with_reducible refine gate_callee (f := 122) rfl ?_); refine gl 48 Try.func122 #[.string a0_4, .string a0_2] ?_; (with_reducible refine (strings_HasSuffix.calls a0_4 a0_2 t215 _ A24.out).mono ?_); rintro e w' ⟨rfl, ⟨nd, rfl⟩⟩; refine ⟨_, rfl, ?_⟩))
     go_ret
     exact ⟨eq_, bel1 GE207.out⟩

/-! ### impl_Affix_123: function 123 -/
def impl_Affix_123.l0 : Nat → List (S73) → Int → Int → ByteArray → Bool → ByteArray → ByteArray → ByteArray → Option (Int)
 | 0, _, _, _, _, _, _, _, _ => none
 | k + 1, x0, x7, x8, x217000, x217001, x217002, x217003, x217004 => if x8 < x7 then (if 0 ≤ x8 then (if x8 < (x0.length : Int) then (if (x217000.toList == (((rd_T73 x0 x8).f0).toList) && (x217001 == ((rd_T73 x0 x8).f1) && (x217002.toList == (((rd_T73 x0 x8).f2).toList) && (x217003.toList == (((rd_T73 x0 x8).f3).toList) && (x217004.toList == (((rd_T73 x0 x8).f4).toList)))))) = true then (some x8) else (impl_Affix_123.l0 k x0 x7 (wrap64 (x8 + 1)) x217000 x217001 x217002 x217003 x217004)) else (none)) else (none)) else (some (-1))
def impl_Affix_123.f (k : Nat) (l0 : List (S73)) (a1_0 : ByteArray) (a1_1 : Bool) (a1_2 : ByteArray) (a1_3 : ByteArray) (a1_4 : ByteArray) : Option (Int) := impl_Affix_123.l0 k l0 (l0.length : Int) 0 a1_0 a1_1 a1_2 a1_3 a1_4
theorem impl_Affix_123.calls (k : Nat) (A0 : Option Addr) (c0 : Nat) (l0 : List (S73)) (a1_0 : ByteArray) (a1_1 : Bool) (a1_2 : ByteArray) (a1_3 : ByteArray) (a1_4 : ByteArray) (r : Int) (w : World) (hr0 : Kd.C k73 w A0 l0.length l0) (hc0 : l0.length ≤ c0) (h : impl_Affix_123.f k l0 a1_0 a1_1 a1_2 a1_3 a1_4 = some r) :
  Calls Try.prog 123 #[.slice A0 l0.length c0, .agg #[.string a1_0, .bool a1_1, .string a1_2, .string a1_3, .string a1_4]] w fun e w' => e = .returned (.int .i64 r) ∧ Below w.heap.size w w' := by
 have hu73 := Try.underlying73; have HR0 := am hr0; have HC0 := am hc0; clear hr0 hc0; have HB := am (Below.refl w.heap.size w)
 have H : (impl_Affix_123.l0 k l0 (l0.length : Int) 0 a1_0 a1_1 a1_2 a1_3 a1_4) = some r := h
 clear h
 have H' := am H
 clear H; go_enter Try.func123, Try.ntmps123
 go_wp2_with (first | ((with_reducible refine gate_dst (N := 3) rfl ?_); refine bx 3 (cs := #[.string a1_0, .bool a1_1, .string a1_2, .string a1_3, .string a1_4]) (t := 73) ?_; intro gb216 hg w3 hbox hb; have BK216 := am (hbox); have GW216 := am ((b5_ : w.heap.size ≤ gb216)); have GE216 := am ((b5_ : w.heap.size ≤ gb216)); replace HB := am (below_step bel hb); clear hb hbox hg))
 repeat (go_quiet (first | ((with_reducible refine gate_dst (N := 3) rfl ?_); refine bx 3 (cs := #[.string a1_0, .bool a1_1, .string a1_2, .string a1_3, .string a1_4]) (t := 73) ?_; intro gb216 hg w3 hbox hb; have BK216 := am (hbox); have GW216 := am ((b5_ : w.heap.size ≤ gb216)); have GE216 := am ((b5_ : w.heap.size ≤ gb216)); replace HB := am (below_step bel hb); clear hb hbox hg)); try go_wp2_with (first | ((with_reducible refine gate_dst (N := 3) rfl ?_); refine bx 3 (cs := #[.string a1_0, .bool a1_1, .string a1_2, .string a1_3, .string a1_4]) (t := 73) ?_; intro gb216 hg w3 hbox hb; have BK216 := am (hbox); have GW216 := am ((b5_ : w.heap.size ≤ gb216)); have GE216 := am ((b5_ : w.heap.size ≤ gb216)); replace HB := am (below_step bel hb); clear hb hbox hg)))
 go_loopg [8] k (fun kq v8 w' => ∃ (x8_1 : Int), v8 = .int .i64 x8_1 ∧ Aside0 (impl_Affix_123.l0 kq l0 (l0.length : Int) x8_1 a1_0 a1_1 a1_2 a1_3 a1_4 = some r) ∧ Aside0 (kq ≤ k) ∧ Aside0 (w'.heap[gb216]? = some (.cells #[.string a1_0, .bool a1_1, .string a1_2, .string a1_3, .string a1_4] 73 (0, 0))) ∧ Aside0 (Below w.heap.size w w'))
 case atStart => exact ⟨(0), sq, H', ⟨Nat.le_refl _⟩, ⟨bq BK216.out⟩, ⟨bel1 GE216.out⟩⟩
 case round =>
  clear H'; (try clear c1); (try clear p2); obtain ⟨x8_1, rfl, HA, HK1, BK216, HB⟩ := hrel
  cases gk with
  | zero => exact absurd HA.out (by simp [impl_Affix_123.l0])
  | succ k1 =>
   have H := HA.out; clear HA; simp only [impl_Affix_123.l0] at H
   by_cases c4 : x8_1 < (l0.length : Int)
   ·rw [if_pos c4] at H; have c4b0 := decide_eq_true c4; clear c4
    replace H := it H; obtain ⟨c5b0, H⟩ := H; replace H := it H; obtain ⟨c6b0, H⟩ := H
    by_cases c7 : (a1_0.toList == (((rd_T73 l0 x8_1).f0).toList) && (a1_1 == ((rd_T73 l0 x8_1).f1) && (a1_2.toList == (((rd_T73 l0 x8_1).f2).toList) && (a1_3.toList == (((rd_T73 l0 x8_1).f3).toList) && (a1_4.toList == (((rd_T73 l0 x8_1).f4).toList)))))) = true
    ·rw [if_pos c7] at H
     have c7b0 : (a1_0.toList == (((rd_T73 l0 x8_1).f0).toList) && (a1_1 == ((rd_T73 l0 x8_1).f1) && (a1_2.toList == (((rd_T73 l0 x8_1).f2).toList) && (a1_3.toList == (((rd_T73 l0 x8_1).f3).toList) && (a1_4.toList == (((rd_T73 l0 x8_1).f4).toList)))))) = true := c7
     (try (have c7b1 : decide (a1_0.toList = (((rd_T73 l0 x8_1).f0).toList) && (a1_1 == ((rd_T73 l0 x8_1).f1) && (a1_2.toList == (((rd_T73 l0 x8_1).f2).toList) && (a1_3.toList == (((rd_T73 l0 x8_1).f3).toList) && (a1_4.toList == (((rd_T73 l0 x8_1).f4).toList)))))) = true := by simpa using c7))
     (try (have c7b2 : (a1_0.toList == (((rd_T73 l0 x8_1).f0).toList) && (a1_1 == ((rd_T73 l0 x8_1).f1) && (a1_2.toList == (((rd_T73 l0 x8_1).f2).toList) && (a1_3.toList == (((rd_T73 l0 x8_1).f3).toList) && (a1_4.toList == (((rd_T73 l0 x8_1).f4).toList)))))) = true := by simpa using c7))
     clear c7; obtain rfl := Option.some.inj H; have ⟨hcz8_0, hcz8_1, hcz8_2, hcz8_3, hcz8_4, hfz8_0, hfz8_1, hfz8_2, hfz8_3, hfz8_4⟩ := b5c BK216.out
     have p217 : 0 ≤ (x8_1 : Int) := of_decide_eq_true ad
     have q217 : x8_1 < (l0.length : Int) := of_decide_eq_true ad
     obtain ⟨ad217, e217, hx217_0, hx217_1, hx217_2, hx217_3, hx217_4⟩ := at_T73 HR0.out x8_1 p217 q217; cases e217
     replace hx217_0 := kp HB.out hx217_0; replace hx217_1 := kp HB.out hx217_1; replace hx217_2 := kp HB.out hx217_2; replace hx217_3 := kp HB.out hx217_3; replace hx217_4 := kp HB.out hx217_4; replace p217 := eq_true p217; replace q217 := eq_true q217; go_wp2
     repeat (go_quiet (fail); try go_wp2)
     go_ret
     exact ⟨eq_, bel1 GE216.out⟩
    rw [if_neg c7] at H
    have c7b0 : (a1_0.toList == (((rd_T73 l0 x8_1).f0).toList) && (a1_1 == ((rd_T73 l0 x8_1).f1) && (a1_2.toList == (((rd_T73 l0 x8_1).f2).toList) && (a1_3.toList == (((rd_T73 l0 x8_1).f3).toList) && (a1_4.toList == (((rd_T73 l0 x8_1).f4).toList)))))) = false := by simpa using c7
    (try (have c7b1 : decide (a1_0.toList = (((rd_T73 l0 x8_1).f0).toList) && (a1_1 == ((rd_T73 l0 x8_1).f1) && (a1_2.toList == (((rd_T73 l0 x8_1).f2).toList) && (a1_3.toList == (((rd_T73 l0 x8_1).f3).toList) && (a1_4.toList == (((rd_T73 l0 x8_1).f4).toList)))))) = false := by simpa using c7))
    (try (have c7b2 : (a1_0.toList == (((rd_T73 l0 x8_1).f0).toList) && (a1_1 == ((rd_T73 l0 x8_1).f1) && (a1_2.toList == (((rd_T73 l0 x8_1).f2).toList) && (a1_3.toList == (((rd_T73 l0 x8_1).f3).toList) && (a1_4.toList == (((rd_T73 l0 x8_1).f4).toList)))))) = false := by simpa using c7))
    (try (have c7b3 : ¬ (a1_0.toList = (((rd_T73 l0 x8_1).f0).toList) && (a1_1 == ((rd_T73 l0 x8_1).f1) && (a1_2.toList == (((rd_T73 l0 x8_1).f2).toList) && (a1_3.toList == (((rd_T73 l0 x8_1).f3).toList) && (a1_4.toList == (((rd_T73 l0 x8_1).f4).toList)))))) := by simpa using c7))
    clear c7
    have H' := am H
    clear H; have ⟨hcz9_0, hcz9_1, hcz9_2, hcz9_3, hcz9_4, hfz9_0, hfz9_1, hfz9_2, hfz9_3, hfz9_4⟩ := b5c BK216.out
    have p217 : 0 ≤ (x8_1 : Int) := of_decide_eq_true ad
    have q217 : x8_1 < (l0.length : Int) := of_decide_eq_true ad
    obtain ⟨ad217, e217, hx217_0, hx217_1, hx217_2, hx217_3, hx217_4⟩ := at_T73 HR0.out x8_1 p217 q217; cases e217
    replace hx217_0 := kp HB.out hx217_0; replace hx217_1 := kp HB.out hx217_1; replace hx217_2 := kp HB.out hx217_2; replace hx217_3 := kp HB.out hx217_3; replace hx217_4 := kp HB.out hx217_4; replace p217 := eq_true p217; replace q217 := eq_true q217; go_wp2
    repeat (go_quiet (fail); try go_wp2)
    go_roundg k1
    case measure => have := HK1.out; omega
    case rel => exact ⟨(wrap64 (x8_1 + 1)), sq, H', ⟨b58_⟩, ⟨bq BK216.out⟩, ⟨bel1 GE216.out⟩⟩
   rw [if_neg c4] at H; have c4b0 := decide_eq_false c4; clear c4; obtain rfl := Option.some.inj H; go_wp2
   repeat (go_quiet (fail); try go_wp2)
   go_ret
   exact ⟨eq_, bel1 GE216.out⟩

/-! ### impl_Affix_101: function 101 -/
def impl_Affix_101.f (k : Nat) (l0 : List (S73)) (a1_0 : ByteArray) (a1_1 : Bool) (a1_2 : ByteArray) (a1_3 : ByteArray) (a1_4 : ByteArray) : Option (Bool) := (impl_Affix_123.f k l0 a1_0 a1_1 a1_2 a1_3 a1_4).bind fun t219 => (some (decide (t219 ≥ 0)))
theorem impl_Affix_101.calls (k : Nat) (A0 : Option Addr) (c0 : Nat) (l0 : List (S73)) (a1_0 : ByteArray) (a1_1 : Bool) (a1_2 : ByteArray) (a1_3 : ByteArray) (a1_4 : ByteArray) (r : Bool) (w : World) (hr0 : Kd.C k73 w A0 l0.length l0) (hc0 : l0.length ≤ c0) (h : impl_Affix_101.f k l0 a1_0 a1_1 a1_2 a1_3 a1_4 = some r) :
  Calls Try.prog 101 #[.slice A0 l0.length c0, .agg #[.string a1_0, .bool a1_1, .string a1_2, .string a1_3, .string a1_4]] w fun e w' => e = .returned (.bool r) ∧ Below w.heap.size w w' := by
 have hu73 := Try.underlying73; have HR0 := am hr0; have HC0 := am hc0; clear hr0 hc0; have HB := am (Below.refl w.heap.size w)
 have H : ((impl_Affix_123.f k l0 a1_0 a1_1 a1_2 a1_3 a1_4).bind fun t219 => (some (decide (t219 ≥ 0)))) = some r := h
 clear h; replace H := bs H; obtain ⟨t219, A30, H⟩ := H; (try dsimp only at H); have A3 := Aside0.mk A30; clear A30; obtain rfl := Option.some.inj H; go_enter Try.func101, Try.ntmps101
 go_wp2_with (first | ((with_reducible refine gate_dst (N := 3) rfl ?_); refine bx 3 (cs := #[.string a1_0, .bool a1_1, .string a1_2, .string a1_3, .string a1_4]) (t := 73) ?_; intro gb218 hg w4 hbox hb; have BK218 := am (hbox); have GW218 := am ((b5_ : w.heap.size ≤ gb218)); have GE218 := am ((b5_ : w.heap.size ≤ gb218)); replace HB := am (below_step bel hb); clear hb hbox hg; have ⟨hcz5_0, hcz5_1, hcz5_2, hcz5_3, hcz5_4, hfz5_0, hfz5_1, hfz5_2, hfz5_3, hfz5_4⟩ := b5c BK218.out) | ((with_reducible refine gate_callee (f := 123) rfl ?_); refine gl 7 Try.func123 #[.slice A0 l0.length c0, .agg #[.string a1_0, .bool a1_1, .string a1_2, .string a1_3, .string a1_4]] ?_; (with_reducible refine (impl_Affix_123.calls k _ _ l0 a1_0 a1_1 a1_2 a1_3 a1_4 t219 _ ?side1 ?side2 A3.out).mono ?_); (case side1 => exact cq (Kd.C_below HR0.out HB.out)); (case side2 => exact HC0.out); rintro e w6 ⟨rfl, hb⟩; refine ⟨_, rfl, ?_⟩; replace BK218 := am (blk_below (bq BK218.out) hb); replace HB := am (below_step (bel1 GE218.out) hb); clear hb))
 go_ret
 exact ⟨eq_, bel1 GE218.out⟩
-- shrunk

attribute [local go_sem high] eqA66
/-! ### impl_affixesOk: function 62 -/
def impl_affixesOk.l0 : Nat → List (S73) → List (S73) → Int → Int → Option (Bool)
 | 0, _, _, _, _ => none
 | k + 1, x0, x5, x6, x7 => if x7 < x6 then (if 0 ≤ x7 then (if x7 < (x5.length : Int) then ((impl_AffixOk.f k ((rd_T73 x5 x7).f0) ((rd_T73 x5 x7).f1) ((rd_T73 x5 x7).f2) ((rd_T73 x5 x7).f3) ((rd_T73 x5 x7).f4)).bind fun t222 => (if t222 = true then (if x7 ≤ (x0.length : Int) then ((impl_Affix_101.f k (x0.take (x7 : Int).toNat) ((rd_T73 x5 x7).f0) ((rd_T73 x5 x7).f1) ((rd_T73 x5 x7).f2) ((rd_T73 x5 x7).f3) ((rd_T73 x5 x7).f4)).bind fun t227 => (if t227 = true then (some false) else (impl_affixesOk.l0 k x0 x5 x6 (wrap64 (x7 + 1))))) else (none)) else (some false))) else (none)) else (none)) else (some (decide ((x0.length : Int) ≤ 8)))
def impl_affixesOk.f (k : Nat) (l0 : List (S73)) : Option (Bool) := impl_affixesOk.l0 k l0 l0 (l0.length : Int) 0
def impl_affixesOk.T4 : Bool × List (List Nat × List Nat) := (true, [([], []), ([0], [0]), ([1], [1]), ([2, 1], [2]), ([3], [3]), ([3], [3]), ([4, 5, 3], [3, 4, 5]), ([3], [3]), ([6, 7, 3, 3], [3, 6, 7]), ([3, 8], [3, 8])])
def impl_affixesOk.B4 : List Nat := [0, 1, 3, 7, 15, 15, 63, 15, 255, 511]
theorem impl_affixesOk.tab4 : rtab .any (opsOf Try.f62 4) = impl_affixesOk.T4 := by kernel_rfl
theorem impl_affixesOk.bits4 : waitsOk impl_affixesOk.T4.2 impl_affixesOk.B4 = true := by kernel_rfl
theorem impl_affixesOk.calls (k : Nat) (A0 : Option Addr) (c0 : Nat) (l0 : List (S73)) (r : Bool) (w : World) (hr0 : Kd.C k73 w A0 l0.length l0) (hc0 : l0.length ≤ c0) (h : impl_affixesOk.f k l0 = some r) :
  Calls Try.prog 62 #[.slice A0 l0.length c0] w fun e w' => e = .returned (.bool r) ∧ Below w.heap.size w w' := by
 have hu73 := Try.underlying73; have HR0 := am hr0; have HC0 := am hc0; clear hr0 hc0; have HB := am (Below.refl w.heap.size w)
 have H : (impl_affixesOk.l0 k l0 l0 (l0.length : Int) 0) = some r := h
 clear h
 have H' := am H
 clear H; go_enter Try.func62, Try.ntmps62; go_wp2
 go_loopg [7] k (fun kq v7 w' => ∃ (x7_1 : Int), v7 = .int .i64 x7_1 ∧ Aside0 (impl_affixesOk.l0 kq l0 l0 (l0.length : Int) x7_1 = some r) ∧ Aside0 (kq ≤ k) ∧ Aside0 (Below w.heap.size w w'))
 case atStart => exact ⟨(0), sq, H', ⟨Nat.le_refl _⟩, ⟨bel⟩⟩
 case round =>
  clear H'; obtain ⟨x7_1, rfl, HA, HK1, HB⟩ := hrel
  cases gk with
  | zero => exact absurd HA.out (by simp [impl_affixesOk.l0])
  | succ k1 =>
   have H := HA.out; clear HA; simp only [impl_affixesOk.l0] at H
   by_cases c2 : x7_1 < (l0.length : Int)
   ·rw [if_pos c2] at H; have c2b0 := decide_eq_true c2; clear c2
    replace H := it H; obtain ⟨c3b0, H⟩ := H
    replace H := it H; obtain ⟨c4b0, H⟩ := H; replace H := bs H; obtain ⟨t222, A50, H⟩ := H; (try dsimp only at H); have A5 := Aside0.mk A50; clear A50
    by_cases c6 : t222 = true
    ·subst c6
     rw [if_pos rfl] at H; have c7b0 := eq_true (of_decide_eq_true ad : 0 ≤ x7_1); replace H := ip H; obtain ⟨c8, H⟩ := H; have c8b0 := eq_true c8
     have c8b1 : decide (x7_1 ≤ (l0.length : Int)) = true := decide_eq_true c8
     clear c8; obtain ⟨y223, hy223⟩ : ∃ y_ : List (S73), y_ = (l0.take (x7_1 : Int).toNat) := ⟨_, rfl⟩
     replace H : ((impl_Affix_101.f k1 y223 ((rd_T73 l0 x7_1).f0) ((rd_T73 l0 x7_1).f1) ((rd_T73 l0 x7_1).f2) ((rd_T73 l0 x7_1).f3) ((rd_T73 l0 x7_1).f4)).bind fun t227 => (if t227 = true then (some false) else (impl_affixesOk.l0 k1 l0 l0 (l0.length : Int) (wrap64 (x7_1 + 1))))) = some r := by first | (rw [hy223]; with_reducible exact H) | (have H2_ := bm H; rw [hy223]; with_reducible exact H2_) | (with_reducible exact bm H) | with_reducible exact H | (rw [hy223]; exact H) | exact H
     have Ny223 := am hy223; clear hy223; replace H := bs H; obtain ⟨t227, A90, H⟩ := H; (try dsimp only at H); have A9 := Aside0.mk A90; clear A90
     by_cases c10 : t227 = true
     ·subst c10
      rw [if_pos rfl] at H
      obtain rfl := Option.some.inj H
      have p220 : 0 ≤ (x7_1 : Int) := of_decide_eq_true ad
      have q220 : x7_1 < (l0.length : Int) := of_decide_eq_true ad
      obtain ⟨ad220, e220, hx220_0, hx220_1, hx220_2, hx220_3, hx220_4⟩ := at_T73 HR0.out x7_1 p220 q220; cases e220; replace hx220_0 := kp HB.out hx220_0; replace hx220_1 := kp HB.out hx220_1; replace hx220_2 := kp HB.out hx220_2; replace hx220_3 := kp HB.out hx220_3; replace hx220_4 := kp HB.out hx220_4; replace p220 := eq_true p220; replace q220 := eq_true q220
      try go_wp2_with (first | ((with_reducible refine gate_dst (N := 4) rfl ?_); refine bx 4 (cs := #[.string (⟨#[]⟩ : ByteArray), .bool false, .string (⟨#[]⟩ : ByteArray), .string (⟨#[]⟩ : ByteArray), .string (⟨#[]⟩ : ByteArray)]) (t := 73) ?_; intro gb221 hg w11 hbox hb; have BK221 := am (hbox); have GW221 := am ((b5_ : w.heap.size ≤ gb221)); have GE221 := am ((b5_ : w.heap.size ≤ gb221)); replace HB := am (below_step bel hb); clear hb hbox hg; have ⟨hcz12_0, hcz12_1, hcz12_2, hcz12_3, hcz12_4, hfz12_0, hfz12_1, hfz12_2, hfz12_3, hfz12_4⟩ := b5c BK221.out))
      have n0_ : Aside0 ((((((w11.setCell ⟨gb221, 0, none⟩ (.string ((rd_T73 l0 x7_1).f0))).setCell ⟨gb221, 1, none⟩ (.bool ((rd_T73 l0 x7_1).f1))).setCell ⟨gb221, 2, none⟩ (.string ((rd_T73 l0 x7_1).f2))).setCell ⟨gb221, 3, none⟩ (.string ((rd_T73 l0 x7_1).f3))).setCell ⟨gb221, 4, none⟩ (.string ((rd_T73 l0 x7_1).f4))).heap[gb221]? = some (.cells #[.string ((rd_T73 l0 x7_1).f0), .bool ((rd_T73 l0 x7_1).f1), .string ((rd_T73 l0 x7_1).f2), .string ((rd_T73 l0 x7_1).f3), .string ((rd_T73 l0 x7_1).f4)] 73 (0, 0))) := ⟨b4_⟩
      have n1_ : Aside0 (Below w.heap.size w (((((w11.setCell ⟨gb221, 0, none⟩ (.string ((rd_T73 l0 x7_1).f0))).setCell ⟨gb221, 1, none⟩ (.bool ((rd_T73 l0 x7_1).f1))).setCell ⟨gb221, 2, none⟩ (.string ((rd_T73 l0 x7_1).f2))).setCell ⟨gb221, 3, none⟩ (.string ((rd_T73 l0 x7_1).f3))).setCell ⟨gb221, 4, none⟩ (.string ((rd_T73 l0 x7_1).f4)))) := ⟨bel1 GE221.out⟩
      (try clear BK221); (try clear HB); generalize (((((w11.setCell ⟨gb221, 0, none⟩ (.string ((rd_T73 l0 x7_1).f0))).setCell ⟨gb221, 1, none⟩ (.bool ((rd_T73 l0 x7_1).f1))).setCell ⟨gb221, 2, none⟩ (.string ((rd_T73 l0 x7_1).f2))).setCell ⟨gb221, 3, none⟩ (.string ((rd_T73 l0 x7_1).f3))).setCell ⟨gb221, 4, none⟩ (.string ((rd_T73 l0 x7_1).f4))) = w13 at n0_ n1_ ⊢; have BK221 := n0_; have HB := n1_; clear n0_ n1_; replace BK221 := am (blk_drew BK221.out); replace HB := am (below_drew1 HB.out)
      refine st (n := 10) (S := fun w' => w'.cell? ⟨gb221, 0, none⟩ = some (.string ((rd_T73 l0 x7_1).f0)) ∧ w'.cell? ⟨gb221, 1, none⟩ = some (.bool ((rd_T73 l0 x7_1).f1)) ∧ w'.cell? ⟨gb221, 2, none⟩ = some (.string ((rd_T73 l0 x7_1).f2)) ∧ w'.cell? ⟨gb221, 3, none⟩ = some (.string ((rd_T73 l0 x7_1).f3)) ∧ w'.cell? ⟨gb221, 4, none⟩ = some (.string ((rd_T73 l0 x7_1).f4))) (ds := []) ⟨bd BK221.out 0, bd BK221.out 1, bd BK221.out 2, bd BK221.out 3, bd BK221.out 4⟩ (fun hHeld => ?_); refine with_tabW impl_affixesOk.tab4 impl_affixesOk.bits4 (fun HT_ HW_ => ?_)
      generalize w13.drew = w14 at BK221 HB hHeld ⊢; refine tk5 0 12 hHeld ?_; refine on1 1 13 (fun K hK => ?_)
      refine go1 Try.func100 #[.agg #[.string ((rd_T73 l0 x7_1).f0), .bool ((rd_T73 l0 x7_1).f1), .string ((rd_T73 l0 x7_1).f2), .string ((rd_T73 l0 x7_1).f3), .string ((rd_T73 l0 x7_1).f4)]] ?_
      with_reducible refine (impl_AffixOk.calls k1 ((rd_T73 l0 x7_1).f0) ((rd_T73 l0 x7_1).f1) ((rd_T73 l0 x7_1).f2) ((rd_T73 l0 x7_1).f3) ((rd_T73 l0 x7_1).f4) true _ A5.out).mono ?_
      rintro e w15 ⟨rfl, hb⟩; refine ⟨_, rfl, ?_⟩; replace BK221 := am (blk_below (bq BK221.out) hb); replace HB := am (below_step (bel1 GE221.out) hb); clear hb
      have q16 : (x7_1 : Int) ≤ ((l0.length : Int) : Int) := of_decide_eq_true ad
      obtain ⟨i016, hi016, _, hsz16, _⟩ := info_parts info73
      have hroom16 : l0.length ≤ c0 := HC0.out
      have hC16 : Kd.C k73 _ (some ad220) l0.length l0 := HR0.out
      have hcut16 := cut_to (P := Try.prog) 29 73 .i64 Try.underlying29 hi016 (some ad220) l0.length c0 x7_1 (of_decide_eq_true ad) q16 hroom16; have hr16 := Kd.C_take (m := (x7_1 : Int).toNat) hC16 (by omega)
      have hy16 : y223.length = (x7_1 : Int).toNat := (by rw [Ny223.out, List.length_take]; omega)
      rw [← Ny223.out] at hr16; rw [← hy16] at hcut16; have HR226 := am hr16
      have HC226 := am (show y223.length ≤ c0 from by omega)
      clear hr16 hC16 hroom16 hi016 hsz16; have KY16 := am hy16; clear hy16; replace q16 := eq_true q16; refine hK.out _ _ ⟨bd BK221.out 0, bd BK221.out 1, bd BK221.out 2, bd BK221.out 3, bd BK221.out 4⟩ (fun hHeld => ?_); clear hK K; refine nm 13 ?_; refine pu 2 14 ?_; refine pu 3 15 ?_; refine pu 4 16 ?_; refine pu 5 17 ?_; refine pu 6 18 ?_; refine tk5 7 19 hHeld ?_; refine on1 8 20 (fun K hK => ?_)
      refine go1 Try.func101 #[.slice (some ad220) y223.length c0, .agg #[.string ((rd_T73 l0 x7_1).f0), .bool ((rd_T73 l0 x7_1).f1), .string ((rd_T73 l0 x7_1).f2), .string ((rd_T73 l0 x7_1).f3), .string ((rd_T73 l0 x7_1).f4)]] ?_
      with_reducible refine (impl_Affix_101.calls k1 _ _ y223 ((rd_T73 l0 x7_1).f0) ((rd_T73 l0 x7_1).f1) ((rd_T73 l0 x7_1).f2) ((rd_T73 l0 x7_1).f3) ((rd_T73 l0 x7_1).f4) true _ ?side1 ?side2 A9.out).mono ?_
      (case side1 => exact cq (Kd.C_below HR226.out HB.out)); (case side2 => exact HC226.out)
      rintro e w17 ⟨rfl, hb⟩; refine ⟨_, rfl, ?_⟩; replace BK221 := am (blk_below (bq BK221.out) hb); replace HB := am (below_step (bel1 GE221.out) hb); clear hb; refine hK.out _ _ ⟨bd BK221.out 0, bd BK221.out 1, bd BK221.out 2, bd BK221.out 3, bd BK221.out 4⟩ (fun hHeld => ?_); clear hK K; refine nm 20 ?_; refine pu 9 21 ?_
      refine done_ (done_of HT_.out (by kernel_rfl)) ?_
      try go_wp2
      go_ret
      exact ⟨eq_, bel1 GE221.out⟩
     replace c10 := Bool.eq_false_iff.mpr c10; subst c10
     rw [if_neg Bool.false_ne_true] at H
     have H' := am H
     clear H
     have p220 : 0 ≤ (x7_1 : Int) := of_decide_eq_true ad
     have q220 : x7_1 < (l0.length : Int) := of_decide_eq_true ad
     obtain ⟨ad220, e220, hx220_0, hx220_1, hx220_2, hx220_3, hx220_4⟩ := at_T73 HR0.out x7_1 p220 q220; cases e220; replace hx220_0 := kp HB.out hx220_0; replace hx220_1 := kp HB.out hx220_1; replace hx220_2 := kp HB.out hx220_2; replace hx220_3 := kp HB.out hx220_3; replace hx220_4 := kp HB.out hx220_4; replace p220 := eq_true p220; replace q220 := eq_true q220
     try go_wp2_with (first | ((with_reducible refine gate_dst (N := 4) rfl ?_); refine bx 4 (cs := #[.string (⟨#[]⟩ : ByteArray), .bool false, .string (⟨#[]⟩ : ByteArray), .string (⟨#[]⟩ : ByteArray), .string (⟨#[]⟩ : ByteArray)]) (t := 73) ?_; intro gb221 hg w18 hbox hb; have BK221 := am (hbox); have GW221 := am ((b5_ : w.heap.size ≤ gb221)); have GE221 := am ((b5_ : w.heap.size ≤ gb221)); replace HB := am (below_step bel hb); clear hb hbox hg; have ⟨hcz19_0, hcz19_1, hcz19_2, hcz19_3, hcz19_4, hfz19_0, hfz19_1, hfz19_2, hfz19_3, hfz19_4⟩ := b5c BK221.out))
     have n0_ : Aside0 ((((((w18.setCell ⟨gb221, 0, none⟩ (.string ((rd_T73 l0 x7_1).f0))).setCell ⟨gb221, 1, none⟩ (.bool ((rd_T73 l0 x7_1).f1))).setCell ⟨gb221, 2, none⟩ (.string ((rd_T73 l0 x7_1).f2))).setCell ⟨gb221, 3, none⟩ (.string ((rd_T73 l0 x7_1).f3))).setCell ⟨gb221, 4, none⟩ (.string ((rd_T73 l0 x7_1).f4))).heap[gb221]? = some (.cells #[.string ((rd_T73 l0 x7_1).f0), .bool ((rd_T73 l0 x7_1).f1), .string ((rd_T73 l0 x7_1).f2), .string ((rd_T73 l0 x7_1).f3), .string ((rd_T73 l0 x7_1).f4)] 73 (0, 0))) := ⟨b4_⟩
     have n1_ : Aside0 (Below w.heap.size w (((((w18.setCell ⟨gb221, 0, none⟩ (.string ((rd_T73 l0 x7_1).f0))).setCell ⟨gb221, 1, none⟩ (.bool ((rd_T73 l0 x7_1).f1))).setCell ⟨gb221, 2, none⟩ (.string ((rd_T73 l0 x7_1).f2))).setCell ⟨gb221, 3, none⟩ (.string ((rd_T73 l0 x7_1).f3))).setCell ⟨gb221, 4, none⟩ (.string ((rd_T73 l0 x7_1).f4)))) := ⟨bel1 GE221.out⟩
     (try clear BK221); (try clear HB); generalize (((((w18.setCell ⟨gb221, 0, none⟩ (.string ((rd_T73 l0 x7_1).f0))).setCell ⟨gb221, 1, none⟩ (.bool ((rd_T73 l0 x7_1).f1))).setCell ⟨gb221, 2, none⟩ (.string ((rd_T73 l0 x7_1).f2))).setCell ⟨gb221, 3, none⟩ (.string ((rd_T73 l0 x7_1).f3))).setCell ⟨gb221, 4, none⟩ (.string ((rd_T73 l0 x7_1).f4))) = w20 at n0_ n1_ ⊢; have BK221 := n0_; have HB := n1_; clear n0_ n1_; replace BK221 := am (blk_drew BK221.out); replace HB := am (below_drew1 HB.out)
     refine st (n := 10) (S := fun w' => w'.cell? ⟨gb221, 0, none⟩ = some (.string ((rd_T73 l0 x7_1).f0)) ∧ w'.cell? ⟨gb221, 1, none⟩ = some (.bool ((rd_T73 l0 x7_1).f1)) ∧ w'.cell? ⟨gb221, 2, none⟩ = some (.string ((rd_T73 l0 x7_1).f2)) ∧ w'.cell? ⟨gb221, 3, none⟩ = some (.string ((rd_T73 l0 x7_1).f3)) ∧ w'.cell? ⟨gb221, 4, none⟩ = some (.string ((rd_T73 l0 x7_1).f4))) (ds := []) ⟨bd BK221.out 0, bd BK221.out 1, bd BK221.out 2, bd BK221.out 3, bd BK221.out 4⟩ (fun hHeld => ?_); refine with_tabW impl_affixesOk.tab4 impl_affixesOk.bits4 (fun HT_ HW_ => ?_)
     generalize w20.drew = w21 at BK221 HB hHeld ⊢; refine tk5 0 12 hHeld ?_; refine on1 1 13 (fun K hK => ?_)
     refine go1 Try.func100 #[.agg #[.string ((rd_T73 l0 x7_1).f0), .bool ((rd_T73 l0 x7_1).f1), .string ((rd_T73 l0 x7_1).f2), .string ((rd_T73 l0 x7_1).f3), .string ((rd_T73 l0 x7_1).f4)]] ?_
     with_reducible refine (impl_AffixOk.calls k1 ((rd_T73 l0 x7_1).f0) ((rd_T73 l0 x7_1).f1) ((rd_T73 l0 x7_1).f2) ((rd_T73 l0 x7_1).f3) ((rd_T73 l0 x7_1).f4) true _ A5.out).mono ?_
     rintro e w22 ⟨rfl, hb⟩; refine ⟨_, rfl, ?_⟩; replace BK221 := am (blk_below (bq BK221.out) hb); replace HB := am (below_step (bel1 GE221.out) hb); clear hb
     have q23 : (x7_1 : Int) ≤ ((l0.length : Int) : Int) := of_decide_eq_true ad
     obtain ⟨i023, hi023, _, hsz23, _⟩ := info_parts info73
     have hroom23 : l0.length ≤ c0 := HC0.out
     have hC23 : Kd.C k73 _ (some ad220) l0.length l0 := HR0.out
     have hcut23 := cut_to (P := Try.prog) 29 73 .i64 Try.underlying29 hi023 (some ad220) l0.length c0 x7_1 (of_decide_eq_true ad) q23 hroom23; have hr23 := Kd.C_take (m := (x7_1 : Int).toNat) hC23 (by omega)
     have hy23 : y223.length = (x7_1 : Int).toNat := (by rw [Ny223.out, List.length_take]; omega)
     rw [← Ny223.out] at hr23; rw [← hy23] at hcut23; have HR226 := am hr23
     have HC226 := am (show y223.length ≤ c0 from by omega)
     clear hr23 hC23 hroom23 hi023 hsz23; have KY23 := am hy23; clear hy23; replace q23 := eq_true q23; refine hK.out _ _ ⟨bd BK221.out 0, bd BK221.out 1, bd BK221.out 2, bd BK221.out 3, bd BK221.out 4⟩ (fun hHeld => ?_); clear hK K; refine nm 13 ?_; refine pu 2 14 ?_; refine pu 3 15 ?_; refine pu 4 16 ?_; refine pu 5 17 ?_; refine pu 6 18 ?_; refine tk5 7 19 hHeld ?_; refine on1 8 20 (fun K hK => ?_)
     refine go1 Try.func101 #[.slice (some ad220) y223.length c0, .agg #[.string ((rd_T73 l0 x7_1).f0), .bool ((rd_T73 l0 x7_1).f1), .string ((rd_T73 l0 x7_1).f2), .string ((rd_T73 l0 x7_1).f3), .string ((rd_T73 l0 x7_1).f4)]] ?_
     with_reducible refine (impl_Affix_101.calls k1 _ _ y223 ((rd_T73 l0 x7_1).f0) ((rd_T73 l0 x7_1).f1) ((rd_T73 l0 x7_1).f2) ((rd_T73 l0 x7_1).f3) ((rd_T73 l0 x7_1).f4) false _ ?side1 ?side2 A9.out).mono ?_
     (case side1 => exact cq (Kd.C_below HR226.out HB.out)); (case side2 => exact HC226.out)
     rintro e w24 ⟨rfl, hb⟩; refine ⟨_, rfl, ?_⟩; replace BK221 := am (blk_below (bq BK221.out) hb); replace HB := am (below_step (bel1 GE221.out) hb); clear hb; refine hK.out _ _ ⟨bd BK221.out 0, bd BK221.out 1, bd BK221.out 2, bd BK221.out 3, bd BK221.out 4⟩ (fun hHeld => ?_); clear hK K; refine nm 20 ?_; refine pu 9 21 ?_
     refine done_ (done_of HT_.out (by kernel_rfl)) ?_
     try go_wp2
     go_roundg k1
     case measure => have := HK1.out; omega
     case rel => exact ⟨(wrap64 (x7_1 + 1)), sq, H', ⟨b58_⟩, ⟨bel1 GE221.out⟩⟩
    replace c6 := Bool.eq_false_iff.mpr c6; subst c6
    rw [if_neg Bool.false_ne_true] at H
    obtain rfl := Option.some.inj H
    have p220 : 0 ≤ (x7_1 : Int) := of_decide_eq_true ad
    have q220 : x7_1 < (l0.length : Int) := of_decide_eq_true ad
    obtain ⟨ad220, e220, hx220_0, hx220_1, hx220_2, hx220_3, hx220_4⟩ := at_T73 HR0.out x7_1 p220 q220; cases e220; replace hx220_0 := kp HB.out hx220_0; replace hx220_1 := kp HB.out hx220_1; replace hx220_2 := kp HB.out hx220_2; replace hx220_3 := kp HB.out hx220_3; replace hx220_4 := kp HB.out hx220_4; replace p220 := eq_true p220; replace q220 := eq_true q220
    try go_wp2_with (first | ((with_reducible refine gate_dst (N := 4) rfl ?_); refine bx 4 (cs := #[.string (⟨#[]⟩ : ByteArray), .bool false, .string (⟨#[]⟩ : ByteArray), .string (⟨#[]⟩ : ByteArray), .string (⟨#[]⟩ : ByteArray)]) (t := 73) ?_; intro gb221 hg w25 hbox hb; have BK221 := am (hbox); have GW221 := am ((b5_ : w.heap.size ≤ gb221)); have GE221 := am ((b5_ : w.heap.size ≤ gb221)); replace HB := am (below_step bel hb); clear hb hbox hg; have ⟨hcz26_0, hcz26_1, hcz26_2, hcz26_3, hcz26_4, hfz26_0, hfz26_1, hfz26_2, hfz26_3, hfz26_4⟩ := b5c BK221.out))
    have n0_ : Aside0 ((((((w25.setCell ⟨gb221, 0, none⟩ (.string ((rd_T73 l0 x7_1).f0))).setCell ⟨gb221, 1, none⟩ (.bool ((rd_T73 l0 x7_1).f1))).setCell ⟨gb221, 2, none⟩ (.string ((rd_T73 l0 x7_1).f2))).setCell ⟨gb221, 3, none⟩ (.string ((rd_T73 l0 x7_1).f3))).setCell ⟨gb221, 4, none⟩ (.string ((rd_T73 l0 x7_1).f4))).heap[gb221]? = some (.cells #[.string ((rd_T73 l0 x7_1).f0), .bool ((rd_T73 l0 x7_1).f1), .string ((rd_T73 l0 x7_1).f2), .string ((rd_T73 l0 x7_1).f3), .string ((rd_T73 l0 x7_1).f4)] 73 (0, 0))) := ⟨b4_⟩
    have n1_ : Aside0 (Below w.heap.size w (((((w25.setCell ⟨gb221, 0, none⟩ (.string ((rd_T73 l0 x7_1).f0))).setCell ⟨gb221, 1, none⟩ (.bool ((rd_T73 l0 x7_1).f1))).setCell ⟨gb221, 2, none⟩ (.string ((rd_T73 l0 x7_1).f2))).setCell ⟨gb221, 3, none⟩ (.string ((rd_T73 l0 x7_1).f3))).setCell ⟨gb221, 4, none⟩ (.string ((rd_T73 l0 x7_1).f4)))) := ⟨bel1 GE221.out⟩
    (try clear BK221); (try clear HB); generalize (((((w25.setCell ⟨gb221, 0, none⟩ (.string ((rd_T73 l0 x7_1).f0))).setCell ⟨gb221, 1, none⟩ (.bool ((rd_T73 l0 x7_1).f1))).setCell ⟨gb221, 2, none⟩ (.string ((rd_T73 l0 x7_1).f2))).setCell ⟨gb221, 3, none⟩ (.string ((rd_T73 l0 x7_1).f3))).setCell ⟨gb221, 4, none⟩ (.string ((rd_T73 l0 x7_1).f4))) = w27 at n0_ n1_ ⊢; have BK221 := n0_; have HB := n1_; clear n0_ n1_; replace BK221 := am (blk_drew BK221.out); replace HB := am (below_drew1 HB.out)
    refine st (n := 10) (S := fun w' => w'.cell? ⟨gb221, 0, none⟩ = some (.string ((rd_T73 l0 x7_1).f0)) ∧ w'.cell? ⟨gb221, 1, none⟩ = some (.bool ((rd_T73 l0 x7_1).f1)) ∧ w'.cell? ⟨gb221, 2, none⟩ = some (.string ((rd_T73 l0 x7_1).f2)) ∧ w'.cell? ⟨gb221, 3, none⟩ = some (.string ((rd_T73 l0 x7_1).f3)) ∧ w'.cell? ⟨gb221, 4, none⟩ = some (.string ((rd_T73 l0 x7_1).f4))) (ds := []) ⟨bd BK221.out 0, bd BK221.out 1, bd BK221.out 2, bd BK221.out 3, bd BK221.out 4⟩ (fun hHeld => ?_); refine with_tabW impl_affixesOk.tab4 impl_affixesOk.bits4 (fun HT_ HW_ => ?_)
    generalize w27.drew = w28 at BK221 HB hHeld ⊢; refine tk5 0 12 hHeld ?_; refine on1 1 13 (fun K hK => ?_)
    refine go1 Try.func100 #[.agg #[.string ((rd_T73 l0 x7_1).f0), .bool ((rd_T73 l0 x7_1).f1), .string ((rd_T73 l0 x7_1).f2), .string ((rd_T73 l0 x7_1).f3), .string ((rd_T73 l0 x7_1).f4)]] ?_
    with_reducible refine (impl_AffixOk.calls k1 ((rd_T73 l0 x7_1).f0) ((rd_T73 l0 x7_1).f1) ((rd_T73 l0 x7_1).f2) ((rd_T73 l0 x7_1).f3) ((rd_T73 l0 x7_1).f4) false _ A5.out).mono ?_
    rintro e w29 ⟨rfl, hb⟩; refine ⟨_, rfl, ?_⟩; replace BK221 := am (blk_below (bq BK221.out) hb); replace HB := am (below_step (bel1 GE221.out) hb); clear hb; refine hK.out _ _ ⟨bd BK221.out 0, bd BK221.out 1, bd BK221.out 2, bd BK221.out 3, bd BK221.out 4⟩ (fun hHeld => ?_); clear hK K; refine nm 13 ?_; refine pu 2 14 ?_; refine pu 3 15 ?_; refine puu 4 16 ?_; refine puu 5 17 ?_; refine puu 6 18 ?_; refine puu 7 19 ?_; refine puu 8 20 ?_; refine pu 9 21 ?_
    refine done_ (done_of HT_.out (by kernel_rfl)) ?_
    try go_wp2
    go_ret
    exact ⟨eq_, bel1 GE221.out⟩
   rw [if_neg c2] at H; have c2b0 := decide_eq_false c2; clear c2; obtain rfl := Option.some.inj H; go_wp2; go_ret
   exact ⟨eq_, bel⟩

/-! ### impl_BookOk: function 38 -/
def impl_BookOk.f (k : Nat) (l0_0 : List (S73)) (l0_1 : List (S66)) : Option (Bool) := (impl_affixesOk.f k l0_0).bind fun t229 => (if t229 = true then ((impl_entriesOk.f k l0_1).bind fun t230 => (some t230)) else (some false))
theorem impl_BookOk.calls (k : Nat) (A0_0 : Option Addr) (c0_0 : Nat) (l0_0 : List (S73)) (A0_1 : Option Addr) (c0_1 : Nat) (l0_1 : List (S66)) (r : Bool) (w : World) (hr0_0 : Kd.C k73 w A0_0 l0_0.length l0_0) (hc0_0 : l0_0.length ≤ c0_0) (hr0_1 : Kd.C k66 w A0_1 l0_1.length l0_1) (hc0_1 : l0_1.length ≤ c0_1) (h : impl_BookOk.f k l0_0 l0_1 = some r) :
  Calls Try.prog 38 #[.agg #[.slice A0_0 l0_0.length c0_0, .slice A0_1 l0_1.length c0_1]] w fun e w' => e = .returned (.bool r) ∧ Below w.heap.size w w' := by
 have hu34 := Try.underlying34; have HR0_0 := am hr0_0; have HC0_0 := am hc0_0; clear hr0_0 hc0_0; have HR0_1 := am hr0_1; have HC0_1 := am hc0_1; clear hr0_1 hc0_1; have HB := am (Below.refl w.heap.size w)
 have H : ((impl_affixesOk.f k l0_0).bind fun t229 => (if t229 = true then ((impl_entriesOk.f k l0_1).bind fun t230 => (some t230)) else (some false))) = some r := h
 clear h; replace H := bs H; obtain ⟨t229, A20, H⟩ := H; (try dsimp only at H); have A2 := Aside0.mk A20; clear A20
 by_cases c3 : t229 = true
 ·subst c3
  rw [if_pos rfl] at H
  replace H := bs H; obtain ⟨t230, A40, H⟩ := H; (try dsimp only at H); have A4 := Aside0.mk A40; clear A40; obtain rfl := Option.some.inj H; go_enter Try.func38, Try.ntmps38
  go_wp2_with (first | ((with_reducible refine gate_dst (N := 1) rfl ?_); refine bx 1 (cs := #[.slice A0_0 l0_0.length c0_0, .slice A0_1 l0_1.length c0_1]) (t := 34) ?_; intro gb228 hg w5 hbox hb; have BK228 := am (hbox); have GW228 := am ((b5_ : w.heap.size ≤ gb228)); have GE228 := am ((b5_ : w.heap.size ≤ gb228)); replace HB := am (below_step bel hb); clear hb hbox hg; have ⟨hcz6_0, hcz6_1, hfz6_0, hfz6_1⟩ := b2c BK228.out) | ((with_reducible refine gate_callee (f := 62) rfl ?_); refine gl 5 Try.func62 #[.slice A0_0 l0_0.length c0_0] ?_; (with_reducible refine (impl_affixesOk.calls k _ _ l0_0 true _ ?side1 ?side2 A2.out).mono ?_); (case side1 => exact cq (Kd.C_below HR0_0.out HB.out)); (case side2 => exact HC0_0.out); rintro e w7 ⟨rfl, hb⟩; refine ⟨_, rfl, ?_⟩; replace BK228 := am (blk_below (bq BK228.out) hb); replace HB := am (below_step (bel1 GE228.out) hb); clear hb; have ⟨hcz8_0, hcz8_1, hfz8_0, hfz8_1⟩ := b2c BK228.out) | (go_at_call 61; (with_reducible refine (impl_entriesOk.calls k _ _ l0_1 t230 _ ?side1 ?side2 A4.out).mono ?_); (case side1 => exact cq (Kd.C_below HR0_1.out HB.out)); (case side2 => exact HC0_1.out); rintro e w9 ⟨rfl, hb⟩; replace BK228 := am (blk_below (bq BK228.out) hb); replace HB := am (below_step (bel1 GE228.out) hb); clear hb))
  go_ret
  exact ⟨eq_, bel1 GE228.out⟩
 replace c3 := Bool.eq_false_iff.mpr c3; subst c3
 rw [if_neg Bool.false_ne_true] at H
 obtain rfl := Option.some.inj H; go_enter Try.func38, Try.ntmps38
 go_wp2_with (first | ((with_reducible refine gate_dst (N := 1) rfl ?_); refine bx 1 (cs := #[.slice A0_0 l0_0.length c0_0, .slice A0_1 l0_1.length c0_1]) (t := 34) ?_; intro gb228 hg w10 hbox hb; have BK228 := am (hbox); have GW228 := am ((b5_ : w.heap.size ≤ gb228)); have GE228 := am ((b5_ : w.heap.size ≤ gb228)); replace HB := am (below_step bel hb); clear hb hbox hg; have ⟨hcz11_0, hcz11_1, hfz11_0, hfz11_1⟩ := b2c BK228.out) | ((with_reducible refine gate_callee (f := 62) rfl ?_); refine gl 5 Try.func62 #[.slice A0_0 l0_0.length c0_0] ?_; (with_reducible refine (impl_affixesOk.calls k _ _ l0_0 false _ ?side1 ?side2 A2.out).mono ?_); (case side1 => exact cq (Kd.C_below HR0_0.out HB.out)); (case side2 => exact HC0_0.out); rintro e w12 ⟨rfl, hb⟩; refine ⟨_, rfl, ?_⟩; replace BK228 := am (blk_below (bq BK228.out) hb); replace HB := am (below_step (bel1 GE228.out) hb); clear hb))
 go_ret
 exact ⟨eq_, bel1 GE228.out⟩

/-! ### impl_entryAt: function 39 -/
/-- The place of a stem; -1 if it is not there. -/
def impl_entryAt.f (l0 : List (S66)) (a1 : ByteArray) : Option Int := some (Go.Lib.idxBy (fun _ (y : ByteArray × ByteArray) => decide (y.1 = a1)) (l0.map (fun x => (x.f0, x.f1))) default)
def impl_entryAt.enc (x : ByteArray × ByteArray) : List Value := [.string x.1, .string x.2]
set_option maxHeartbeats 1000000 in
set_option maxRecDepth 100000 in
theorem impl_entryAt.pred (s : ByteArray) (B : Nat) (w : World) (hB : B < w.heap.size) (hcell : w.cell? ⟨B, 0, none⟩ = some (.string s)) :
  PredBelow Try.prog 85 #[.pointer (some ⟨B, 0, none⟩)] (fun x => .agg (impl_entryAt.enc x).toArray) (fun x => decide (x.1 = s)) w := fun W x hb => by
 have hc : W.cell? ⟨B, 0, none⟩ = some (.string s) := (hb.cell (p := ⟨B, 0, none⟩) hB).trans hcell
 have hBW : B < W.heap.size := Nat.lt_of_lt_of_le hB hb.size
 have hne : B ≠ W.heap.size := by omega
 have heq : (x.1.toList == s.toList) = decide (x.1 = s) := by
  rw [Bool.eq_iff_iff, beq_iff_eq, decide_eq_true_eq]
  constructor
  ·intro h; rw [Go.ByteArray.toList_eq, Go.ByteArray.toList_eq] at h
   exact ByteArray.ext (by rw [← Array.toArray_toList (xs := x.1.data), h, Array.toArray_toList])
  ·rintro rfl
   rfl
 show Calls Try.prog 85 #[.agg #[.string x.1, .string x.2], .pointer (some ⟨B, 0, none⟩)] W _
 go_enter Try.func85, Try.ntmps85; go_wp2
 all_goals (go_ret; exact ⟨by first | (simp [heq]; done) | (simp_all; done), hb.alloc hb.size _⟩)
set_option maxHeartbeats 1000000 in
set_option maxRecDepth 100000 in
theorem impl_entryAt.zero_ (a : Option Addr) (c : Nat) (fv : Value) (w : World) : Calls Try.prog 84 #[.slice a 0 c, fv] w fun e w' => e = .returned (.int .i64 (-1)) ∧ w' = w := by
 go_enter Try.func84, Try.ntmps84; go_wp2
 go_loopg [5, 8] 0 (fun _ _ s8 wr => s8 = .int .i64 0 ∧ wr = w)
 case atStart => exact ⟨rfl, rfl⟩
 case round =>
  obtain ⟨rfl, rfl⟩ := hrel; go_wp2; go_ret
  exact ⟨rfl, rfl⟩
set_option maxHeartbeats 1000000 in
set_option maxRecDepth 100000 in
theorem impl_entryAt.calls (A0 : Option Addr) (c0 : Nat) (l0 : List (S66)) (a1 : ByteArray) (r : Int) (w : World) (hr0 : Kd.C k66 w A0 l0.length l0) (hc0 : l0.length ≤ c0) (h : impl_entryAt.f l0 a1 = some r) :
  Calls Try.prog 39 #[.slice A0 l0.length c0, .string a1] w fun e w' => e = .returned (.int .i64 r) ∧ Below w.heap.size w w' := by
 obtain rfl := Option.some.inj h; clear h
 have eg : ∀ args w, (callFunc 85 args).run Try.prog w = .ok (.enter 85 args) w := enters_of Try.func85 (by kernel_rfl) rfl
 have hpred := fun (W : World) hB hc => impl_entryAt.pred a1 w.heap.size W hB hc
 have hcon : Calls Try.prog 84 #[.slice A0 l0.length c0, .func (.func 85) #[] #[.pointer (some ⟨w.heap.size, 0, none⟩)]] (w.alloc (.cells #[.string a1] 9)) fun e w' => e = .returned (.int .i64 (Go.Lib.idxBy (fun _ (y : ByteArray × ByteArray) => decide (y.1 = a1)) (l0.map (fun x => (x.f0, x.f1))) default)) ∧ Below (w.alloc (.cells #[.string a1] 9)).heap.size (w.alloc (.cells #[.string a1] 9)) w' := by
  rcases Nat.eq_zero_or_pos l0.length with hn | hn
  ·have e : l0 = [] := List.length_eq_zero_iff.1 hn
   subst e
   exact (impl_entryAt.zero_ A0 c0 _ _).mono fun e w' h => ⟨h.1, h.2 ▸ Below.refl _ _⟩
  ·obtain ⟨⟨b, o, sp⟩, rfl, h00, _⟩ := at_T66 hr0 0 (by omega) (by omega)
   have hsp : sp = none := by
    cases sp with
    | none => rfl
    | some q =>
     have h01 : w.cell? ⟨b, o, some q⟩ = some (.string (rd_T66 l0 0).f0) := h00
     unfold World.cell? at h01
     split at h01
     ·simp at h01
     ·cases h01
   subst hsp; clear h00
   have hcells : ∀ j : Nat, j < l0.length → w.cell? ⟨b, o + j * 2, none⟩ = some (.string (rd_T66 l0 (j : Int)).f0) ∧ w.cell? ⟨b, o + j * 2 + 1, none⟩ = some (.string (rd_T66 l0 (j : Int)).f1) := by
    intro j hj; obtain ⟨ad', e', h0, h1⟩ := at_T66 hr0 (j : Int) (by omega) (by omega)
    cases e'
    rw [Int.toNat_natCast, Addr.add_lit] at h0 h1
    exact ⟨h0, h1⟩
   have hblk : b < w.heap.size := World.block_lt_of_cell? w ⟨b, o + 0 * 2, none⟩ (hcells 0 hn).1
   have hlen : l0.length ≤ 9223372036854775807 := hr0.2.1
   have := AnyQ.slices_IndexFunc (α := ByteArray × ByteArray) Try.layIdx 2 Try.isAgg66 Try.sizeOf66 impl_entryAt.enc (fun _ => rfl) (fun x => decide (x.1 = a1)) 85 #[.pointer (some ⟨w.heap.size, 0, none⟩)] eg b o l0.length c0 (l0.map (fun x => (x.f0, x.f1))) (w.alloc (.cells #[.string a1] 9))
    (hpred _ (by simp) (by simp)) (by simp) hlen (by simp; omega) (fun j hj i v hi => by
     rw [List.length_map] at hj
     refine Go.Lib.cell?_alloc_some _ ?_
     have h1 := hcells j hj
     have e : (l0.map (fun x => (x.f0, x.f1)))[j]! = ((rd_T66 l0 (j : Int)).f0, (rd_T66 l0 (j : Int)).f1) := by
      rw [getElem!_pos _ j (by simpa using hj)]
      simp [rd_T66, List.getD_eq_getElem?_getD, List.getElem?_eq_getElem hj]
     rw [e] at hi
     match i, hi with
     | 0, hi => simp [impl_entryAt.enc] at hi; rw [← hi]; exact h1.1
     | 1, hi => simp [impl_entryAt.enc] at hi; rw [← hi]; exact h1.2
     | i + 2, hi => simp [impl_entryAt.enc] at hi)
   rw [List.take_of_length_le (by simp)] at this
   change Calls Try.prog 84 _ _ _ at this
   exact this
 clear hr0 hc0 hpred eg
 generalize Go.Lib.idxBy (fun _ (y : ByteArray × ByteArray) => decide (y.1 = a1)) (l0.map (fun x => (x.f0, x.f1))) default = r at hcon ⊢
 go_enter Try.func39, Try.ntmps39
 go_wp2_with (go_at_call 84; refine hcon.mono ?_; rintro e w' ⟨rfl, hb'⟩)
 go_ret
 exact ⟨rfl, ((Below.refl _ w).alloc (Nat.le_refl _) _).trans (hb'.mono (by simp))⟩

/-! ### impl_Entry_86: function 86 -/
def impl_Entry_86.l0 : Nat → List (S66) → Int → Int → ByteArray → ByteArray → Option (Int)
 | 0, _, _, _, _, _ => none
 | k + 1, x0, x7, x8, x232000, x232001 => if x8 < x7 then (if 0 ≤ x8 then (if x8 < (x0.length : Int) then (if (x232000.toList == (((rd_T66 x0 x8).f0).toList) && (x232001.toList == (((rd_T66 x0 x8).f1).toList))) = true then (some x8) else (impl_Entry_86.l0 k x0 x7 (wrap64 (x8 + 1)) x232000 x232001)) else (none)) else (none)) else (some (-1))
def impl_Entry_86.f (k : Nat) (l0 : List (S66)) (a1_0 : ByteArray) (a1_1 : ByteArray) : Option (Int) := impl_Entry_86.l0 k l0 (l0.length : Int) 0 a1_0 a1_1
theorem impl_Entry_86.calls (k : Nat) (A0 : Option Addr) (c0 : Nat) (l0 : List (S66)) (a1_0 : ByteArray) (a1_1 : ByteArray) (r : Int) (w : World) (hr0 : Kd.C k66 w A0 l0.length l0) (hc0 : l0.length ≤ c0) (h : impl_Entry_86.f k l0 a1_0 a1_1 = some r) :
  Calls Try.prog 86 #[.slice A0 l0.length c0, .agg #[.string a1_0, .string a1_1]] w fun e w' => e = .returned (.int .i64 r) ∧ Below w.heap.size w w' := by
 have hu66 := Try.underlying66; have HR0 := am hr0; have HC0 := am hc0; clear hr0 hc0; have HB := am (Below.refl w.heap.size w)
 have H : (impl_Entry_86.l0 k l0 (l0.length : Int) 0 a1_0 a1_1) = some r := h
 clear h
 have H' := am H
 clear H; go_enter Try.func86, Try.ntmps86
 go_wp2_with (first | ((with_reducible refine gate_dst (N := 3) rfl ?_); refine bx 3 (cs := #[.string a1_0, .string a1_1]) (t := 66) ?_; intro gb231 hg w3 hbox hb; have BK231 := am (hbox); have GW231 := am ((b5_ : w.heap.size ≤ gb231)); have GE231 := am ((b5_ : w.heap.size ≤ gb231)); replace HB := am (below_step bel hb); clear hb hbox hg))
 repeat (go_quiet (first | ((with_reducible refine gate_dst (N := 3) rfl ?_); refine bx 3 (cs := #[.string a1_0, .string a1_1]) (t := 66) ?_; intro gb231 hg w3 hbox hb; have BK231 := am (hbox); have GW231 := am ((b5_ : w.heap.size ≤ gb231)); have GE231 := am ((b5_ : w.heap.size ≤ gb231)); replace HB := am (below_step bel hb); clear hb hbox hg)); try go_wp2_with (first | ((with_reducible refine gate_dst (N := 3) rfl ?_); refine bx 3 (cs := #[.string a1_0, .string a1_1]) (t := 66) ?_; intro gb231 hg w3 hbox hb; have BK231 := am (hbox); have GW231 := am ((b5_ : w.heap.size ≤ gb231)); have GE231 := am ((b5_ : w.heap.size ≤ gb231)); replace HB := am (below_step bel hb); clear hb hbox hg)))
 go_loopg [8] k (fun kq v8 w' => ∃ (x8_1 : Int), v8 = .int .i64 x8_1 ∧ Aside0 (impl_Entry_86.l0 kq l0 (l0.length : Int) x8_1 a1_0 a1_1 = some r) ∧ Aside0 (kq ≤ k) ∧ Aside0 (w'.heap[gb231]? = some (.cells #[.string a1_0, .string a1_1] 66 (0, 0))) ∧ Aside0 (Below w.heap.size w w'))
 case atStart => exact ⟨(0), sq, H', ⟨Nat.le_refl _⟩, ⟨bq BK231.out⟩, ⟨bel1 GE231.out⟩⟩
 case round =>
  clear H'; (try clear p2); obtain ⟨x8_1, rfl, HA, HK1, BK231, HB⟩ := hrel
  cases gk with
  | zero => exact absurd HA.out (by simp [impl_Entry_86.l0])
  | succ k1 =>
   have H := HA.out; clear HA; simp only [impl_Entry_86.l0] at H
   by_cases c4 : x8_1 < (l0.length : Int)
   ·rw [if_pos c4] at H; have c4b0 := decide_eq_true c4; clear c4
    replace H := it H; obtain ⟨c5b0, H⟩ := H; replace H := it H; obtain ⟨c6b0, H⟩ := H
    by_cases c7 : (a1_0.toList == (((rd_T66 l0 x8_1).f0).toList) && (a1_1.toList == (((rd_T66 l0 x8_1).f1).toList))) = true
    ·rw [if_pos c7] at H
     have c7b0 : (a1_0.toList == (((rd_T66 l0 x8_1).f0).toList) && (a1_1.toList == (((rd_T66 l0 x8_1).f1).toList))) = true := c7
     (try (have c7b1 : decide (a1_0.toList = (((rd_T66 l0 x8_1).f0).toList) && (a1_1.toList == (((rd_T66 l0 x8_1).f1).toList))) = true := by simpa using c7))
     (try (have c7b2 : (a1_0.toList == (((rd_T66 l0 x8_1).f0).toList) && (a1_1.toList == (((rd_T66 l0 x8_1).f1).toList))) = true := by simpa using c7))
     clear c7; obtain rfl := Option.some.inj H; have ⟨hcz8_0, hcz8_1, hfz8_0, hfz8_1⟩ := b2c BK231.out
     have p232 : 0 ≤ (x8_1 : Int) := of_decide_eq_true ad
     have q232 : x8_1 < (l0.length : Int) := of_decide_eq_true ad
     obtain ⟨ad232, e232, hx232_0, hx232_1⟩ := at_T66 HR0.out x8_1 p232 q232; cases e232
     replace hx232_0 := kp HB.out hx232_0; replace hx232_1 := kp HB.out hx232_1; replace p232 := eq_true p232; replace q232 := eq_true q232; go_wp2
     repeat (go_quiet (fail); try go_wp2)
     go_ret
     exact ⟨eq_, bel1 GE231.out⟩
    rw [if_neg c7] at H
    have c7b0 : (a1_0.toList == (((rd_T66 l0 x8_1).f0).toList) && (a1_1.toList == (((rd_T66 l0 x8_1).f1).toList))) = false := by simpa using c7
    (try (have c7b1 : decide (a1_0.toList = (((rd_T66 l0 x8_1).f0).toList) && (a1_1.toList == (((rd_T66 l0 x8_1).f1).toList))) = false := by simpa using c7))
    (try (have c7b2 : (a1_0.toList == (((rd_T66 l0 x8_1).f0).toList) && (a1_1.toList == (((rd_T66 l0 x8_1).f1).toList))) = false := by simpa using c7))
    (try (have c7b3 : ¬ (a1_0.toList = (((rd_T66 l0 x8_1).f0).toList) && (a1_1.toList == (((rd_T66 l0 x8_1).f1).toList))) := by simpa using c7))
    clear c7
    have H' := am H
    clear H; have ⟨hcz9_0, hcz9_1, hfz9_0, hfz9_1⟩ := b2c BK231.out
    have p232 : 0 ≤ (x8_1 : Int) := of_decide_eq_true ad
    have q232 : x8_1 < (l0.length : Int) := of_decide_eq_true ad
    obtain ⟨ad232, e232, hx232_0, hx232_1⟩ := at_T66 HR0.out x8_1 p232 q232; cases e232
    replace hx232_0 := kp HB.out hx232_0; replace hx232_1 := kp HB.out hx232_1; replace p232 := eq_true p232; replace q232 := eq_true q232; go_wp2
    repeat (go_quiet (fail); try go_wp2)
    go_roundg k1
    case measure => have := HK1.out; omega
    case rel => exact ⟨(wrap64 (x8_1 + 1)), sq, H', ⟨b58_⟩, ⟨bq BK231.out⟩, ⟨bel1 GE231.out⟩⟩
   rw [if_neg c4] at H; have c4b0 := decide_eq_false c4; clear c4; obtain rfl := Option.some.inj H; go_wp2
   repeat (go_quiet (fail); try go_wp2)
   go_ret
   exact ⟨eq_, bel1 GE231.out⟩

/-! ### impl_Entry_40: function 40 -/
def impl_Entry_40.f (k : Nat) (l0 : List (S66)) (a1_0 : ByteArray) (a1_1 : ByteArray) : Option (Bool) := (impl_Entry_86.f k l0 a1_0 a1_1).bind fun t234 => (some (decide (t234 ≥ 0)))
theorem impl_Entry_40.calls (k : Nat) (A0 : Option Addr) (c0 : Nat) (l0 : List (S66)) (a1_0 : ByteArray) (a1_1 : ByteArray) (r : Bool) (w : World) (hr0 : Kd.C k66 w A0 l0.length l0) (hc0 : l0.length ≤ c0) (h : impl_Entry_40.f k l0 a1_0 a1_1 = some r) :
  Calls Try.prog 40 #[.slice A0 l0.length c0, .agg #[.string a1_0, .string a1_1]] w fun e w' => e = .returned (.bool r) ∧ Below w.heap.size w w' := by
 have hu66 := Try.underlying66; have HR0 := am hr0; have HC0 := am hc0; clear hr0 hc0; have HB := am (Below.refl w.heap.size w)
 have H : ((impl_Entry_86.f k l0 a1_0 a1_1).bind fun t234 => (some (decide (t234 ≥ 0)))) = some r := h
 clear h; replace H := bs H; obtain ⟨t234, A30, H⟩ := H; (try dsimp only at H); have A3 := Aside0.mk A30; clear A30; obtain rfl := Option.some.inj H; go_enter Try.func40, Try.ntmps40
 go_wp2_with (first | ((with_reducible refine gate_dst (N := 3) rfl ?_); refine bx 3 (cs := #[.string a1_0, .string a1_1]) (t := 66) ?_; intro gb233 hg w4 hbox hb; have BK233 := am (hbox); have GW233 := am ((b5_ : w.heap.size ≤ gb233)); have GE233 := am ((b5_ : w.heap.size ≤ gb233)); replace HB := am (below_step bel hb); clear hb hbox hg; have ⟨hcz5_0, hcz5_1, hfz5_0, hfz5_1⟩ := b2c BK233.out) | ((with_reducible refine gate_callee (f := 86) rfl ?_); refine gl 7 Try.func86 #[.slice A0 l0.length c0, .agg #[.string a1_0, .string a1_1]] ?_; (with_reducible refine (impl_Entry_86.calls k _ _ l0 a1_0 a1_1 t234 _ ?side1 ?side2 A3.out).mono ?_); (case side1 => exact cq (Kd.C_below HR0.out HB.out)); (case side2 => exact HC0.out); rintro e w6 ⟨rfl, hb⟩; refine ⟨_, rfl, ?_⟩; replace BK233 := am (blk_below (bq BK233.out) hb); replace HB := am (below_step (bel1 GE233.out) hb); clear hb))
 go_ret
 exact ⟨eq_, bel1 GE233.out⟩
end Go.Proofs.Ytdfnijaacnlfaaa.QFnExactDeltaOf

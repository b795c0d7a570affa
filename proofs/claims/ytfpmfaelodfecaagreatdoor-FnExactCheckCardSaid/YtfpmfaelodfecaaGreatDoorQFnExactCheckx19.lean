import Derived.Test.YtfpmfaelodfecaaGreatDoorQFnExactCheckx0
import Derived.Test.YtfpmfaelodfecaaGreatDoorQFnExactCheckx15
import Derived.Test.YtfpmfaelodfecaaGreatDoorVMSh2
namespace Go.Proofs.YtfpmfaelodfecaaGreatDoor.QFnExactCheck
open Go.RowKit Go.Proofs.YtfpmfaelodfecaaGreatDoorW.PrintWords Go.Proofs.YtfpmfaelodfecaaGreatDoorW.PrintLast Go.Proofs.YtfpmfaelodfecaaGreatDoorW.PrintMore Go.Proofs.YtfpmfaelodfecaaGreatDoor.Sh
attribute [local go_sem] max2_int min2_int max_two min_two max_three min_three max_four min_four
set_option linter.unusedVariables false
set_option linter.unusedSimpArgs false
set_option maxHeartbeats 8000000
set_option maxRecDepth 100000
-- shrunk

/-! ### laws_eqEntry: function 65 -/
def laws_eqEntry.f (a0_0 : ByteArray) (a0_1 : ByteArray) (a1_0 : ByteArray) (a1_1 : ByteArray) : Option (Bool) := if a0_0.toList = a1_0.toList then (if a0_1.toList = a1_1.toList then (some true) else (some false)) else (some false)
theorem laws_eqEntry.calls (a0_0 : ByteArray) (a0_1 : ByteArray) (a1_0 : ByteArray) (a1_1 : ByteArray) (r : Bool) (w : World) (h : laws_eqEntry.f a0_0 a0_1 a1_0 a1_1 = some r) :
  Calls Tryz.prog 65 #[.agg #[.string a0_0, .string a0_1], .agg #[.string a1_0, .string a1_1]] w fun e w' => e = .returned (.bool r) ∧ Below w.heap.size w w' := by
 have hu78 := Tryz.underlying78; have HB := am (Below.refl w.heap.size w)
 have H : (if a0_0.toList = a1_0.toList then (if a0_1.toList = a1_1.toList then (some true) else (some false)) else (some false)) = some r := h
 clear h
 by_cases c3 : a0_0.toList = a1_0.toList
 ·rw [if_pos c3] at H
  have c3b0 : (a0_0.toList == a1_0.toList) = true := beq_iff_eq.mpr c3
  have c3b1 : (a0_0.toList != a1_0.toList) = false := bne_eq_false_iff_eq.mpr c3
  clear c3
  by_cases c4 : a0_1.toList = a1_1.toList
  ·rw [if_pos c4] at H
   have c4b0 : (a0_1.toList == a1_1.toList) = true := beq_iff_eq.mpr c4
   have c4b1 : (a0_1.toList != a1_1.toList) = false := bne_eq_false_iff_eq.mpr c4
   clear c4; obtain rfl := Option.some.inj H; go_enter Tryz.func65, Tryz.ntmps65
   go_wp2_with (first | ((with_reducible refine gate_dst (N := 2) rfl ?_); refine bx 2 (cs := #[.string a0_0, .string a0_1]) (t := 78) ?_; intro gb367 hg w5 hbox hb; have BK367 := am (hbox); have GW367 := am ((b0_ : w.heap.size ≤ gb367)); have GE367 := am ((b0_ : w.heap.size ≤ gb367)); replace HB := am (below_step bel hb); clear hb hbox hg) | ((with_reducible refine gate_dst (N := 3) rfl ?_); refine bx 3 (cs := #[.string a1_0, .string a1_1]) (t := 78) ?_; intro gb368 hg w6 hbox hb; have BK368 := am (hbox); have GW368 := am ((b39_ : w.heap.size ≤ gb368)); have GE368 := am ((b39_ : w.heap.size ≤ gb368)); replace HB := am (below_step (bel1 GE367.out) hb); have NB367_368 := am ((b26_ : gb367 ≠ gb368)); have NB368_367 := am ((b27_ : gb368 ≠ gb367)); replace BK367 := am (blk_below (g := gb367) (o := .cells #[.string a0_0, .string a0_1] 78 (0, 0)) (bq BK367.out) hb); clear hb hbox hg; have hnb7 := NB367_368.out; have hnc7 := NB368_367.out; have hcz8_0 := bc BK367.out 0; have hcz8_1 := bc BK367.out 1; have hfz8_0 := bf BK367.out 0; have hfz8_1 := bf BK367.out 1; have hcz9_0 := bc BK368.out 0; have hcz9_1 := bc BK368.out 1; have hfz9_0 := bf BK368.out 0; have hfz9_1 := bf BK368.out 1))
   go_ret
   exact ⟨eq_, bel2 GE367.out GE368.out⟩
  rw [if_neg c4] at H
  have c4b0 : (a0_1.toList == a1_1.toList) = false := beq_eq_false_iff_ne.mpr c4
  have c4b1 : (a0_1.toList != a1_1.toList) = true := bne_iff_ne.mpr c4
  obtain rfl := Option.some.inj H; go_enter Tryz.func65, Tryz.ntmps65
  go_wp2_with (first | ((with_reducible refine gate_dst (N := 2) rfl ?_); refine bx 2 (cs := #[.string a0_0, .string a0_1]) (t := 78) ?_; intro gb367 hg w10 hbox hb; have BK367 := am (hbox); have GW367 := am ((b0_ : w.heap.size ≤ gb367)); have GE367 := am ((b0_ : w.heap.size ≤ gb367)); replace HB := am (below_step bel hb); clear hb hbox hg) | ((with_reducible refine gate_dst (N := 3) rfl ?_); refine bx 3 (cs := #[.string a1_0, .string a1_1]) (t := 78) ?_; intro gb368 hg w11 hbox hb; have BK368 := am (hbox); have GW368 := am ((b39_ : w.heap.size ≤ gb368)); have GE368 := am ((b39_ : w.heap.size ≤ gb368)); replace HB := am (below_step (bel1 GE367.out) hb); have NB367_368 := am ((b26_ : gb367 ≠ gb368)); have NB368_367 := am ((b27_ : gb368 ≠ gb367)); replace BK367 := am (blk_below (g := gb367) (o := .cells #[.string a0_0, .string a0_1] 78 (0, 0)) (bq BK367.out) hb); clear hb hbox hg; have hnb12 := NB367_368.out; have hnc12 := NB368_367.out; have hcz13_0 := bc BK367.out 0; have hcz13_1 := bc BK367.out 1; have hfz13_0 := bf BK367.out 0; have hfz13_1 := bf BK367.out 1; have hcz14_0 := bc BK368.out 0; have hcz14_1 := bc BK368.out 1; have hfz14_0 := bf BK368.out 0; have hfz14_1 := bf BK368.out 1))
  go_ret
  exact ⟨eq_, bel2 GE367.out GE368.out⟩
 rw [if_neg c3] at H
 have c3b0 : (a0_0.toList == a1_0.toList) = false := beq_eq_false_iff_ne.mpr c3
 have c3b1 : (a0_0.toList != a1_0.toList) = true := bne_iff_ne.mpr c3
 obtain rfl := Option.some.inj H; go_enter Tryz.func65, Tryz.ntmps65
 go_wp2_with (first | ((with_reducible refine gate_dst (N := 2) rfl ?_); refine bx 2 (cs := #[.string a0_0, .string a0_1]) (t := 78) ?_; intro gb367 hg w15 hbox hb; have BK367 := am (hbox); have GW367 := am ((b0_ : w.heap.size ≤ gb367)); have GE367 := am ((b0_ : w.heap.size ≤ gb367)); replace HB := am (below_step bel hb); clear hb hbox hg) | ((with_reducible refine gate_dst (N := 3) rfl ?_); refine bx 3 (cs := #[.string a1_0, .string a1_1]) (t := 78) ?_; intro gb368 hg w16 hbox hb; have BK368 := am (hbox); have GW368 := am ((b39_ : w.heap.size ≤ gb368)); have GE368 := am ((b39_ : w.heap.size ≤ gb368)); replace HB := am (below_step (bel1 GE367.out) hb); have NB367_368 := am ((b26_ : gb367 ≠ gb368)); have NB368_367 := am ((b27_ : gb368 ≠ gb367)); replace BK367 := am (blk_below (g := gb367) (o := .cells #[.string a0_0, .string a0_1] 78 (0, 0)) (bq BK367.out) hb); clear hb hbox hg; have hnb17 := NB367_368.out; have hnc17 := NB368_367.out; have hcz18_0 := bc BK367.out 0; have hcz18_1 := bc BK367.out 1; have hfz18_0 := bf BK367.out 0; have hfz18_1 := bf BK367.out 1; have hcz19_0 := bc BK368.out 0; have hcz19_1 := bc BK368.out 1; have hfz19_0 := bf BK368.out 0; have hfz19_1 := bf BK368.out 1))
 go_ret
 exact ⟨eq_, bel2 GE367.out GE368.out⟩

/-! ### laws_eqEntryS: function 33 -/
def laws_eqEntryS.l0 : Nat → List (S78) → List (S78) → Int → Option (Bool)
 | 0, _, _, _ => none
 | k + 1, x0, x1, x5 => if x5 < (x0.length : Int) then (if 0 ≤ x5 then (if x5 < (x1.length : Int) then ((laws_eqEntry.f ((rd_T78 x0 x5).f0) ((rd_T78 x0 x5).f1) ((rd_T78 x1 x5).f0) ((rd_T78 x1 x5).f1)).bind fun t371 => (if t371 = true then (laws_eqEntryS.l0 k x0 x1 (wrap64 (x5 + 1))) else (some false))) else (none)) else (none)) else (some true)
def laws_eqEntryS.f (k : Nat) (l0 : List (S78)) (l1 : List (S78)) : Option (Bool) := if (l0.length : Int) = (l1.length : Int) then (laws_eqEntryS.l0 k l0 l1 0) else (some false)
def laws_eqEntryS.T6 : Bool × List (List Nat × List Nat) := (true, [([], []), ([], []), ([0, 1], [0, 1]), ([2], [2]), ([], []), ([], []), ([4, 5], [4, 5]), ([6], [6]), ([3, 7], [3, 7]), ([8], [8])])
def laws_eqEntryS.B6 : List Nat := [0, 0, 3, 7, 0, 0, 48, 112, 255, 511]
theorem laws_eqEntryS.tab6 : rtab .any (opsOf Tryz.f33 6) = laws_eqEntryS.T6 := by kernel_rfl
theorem laws_eqEntryS.bits6 : waitsOk laws_eqEntryS.T6.2 laws_eqEntryS.B6 = true := by kernel_rfl
theorem laws_eqEntryS.calls (k : Nat) (A0 : Option Addr) (c0 : Nat) (l0 : List (S78)) (A1 : Option Addr) (c1 : Nat) (l1 : List (S78)) (r : Bool) (w : World) (hr0 : Kd.C k78 w A0 l0.length l0) (hc0 : l0.length ≤ c0) (hr1 : Kd.C k78 w A1 l1.length l1) (hc1 : l1.length ≤ c1) (h : laws_eqEntryS.f k l0 l1 = some r) :
  Calls Tryz.prog 33 #[.slice A0 l0.length c0, .slice A1 l1.length c1] w fun e w' => e = .returned (.bool r) ∧ Below w.heap.size w w' := by
 have hu78 := Tryz.underlying78; have HR0 := am hr0; have HC0 := am hc0; clear hr0 hc0; have HR1 := am hr1; have HC1 := am hc1; clear hr1 hc1; have HB := am (Below.refl w.heap.size w)
 have H : (if (l0.length : Int) = (l1.length : Int) then (laws_eqEntryS.l0 k l0 l1 0) else (some false)) = some r := h
 clear h
 by_cases c3 : (l0.length : Int) = (l1.length : Int)
 ·rw [if_pos c3] at H
  have c3b0 : ((l0.length : Int) == (l1.length : Int)) = true := beq_iff_eq.mpr c3
  have c3b1 : ((l0.length : Int) != (l1.length : Int)) = false := bne_eq_false_iff_eq.mpr c3
  have c3b2 : (l0.length == l1.length) = true := b37_
  clear c3
  have H' := am H
  clear H; go_enter Tryz.func33, Tryz.ntmps33; go_wp2
  go_loopg [5] k (fun kq v5 w' => ∃ (x5_1 : Int), v5 = .int .i64 x5_1 ∧ Aside0 (laws_eqEntryS.l0 kq l0 l1 x5_1 = some r) ∧ Aside0 (kq ≤ k) ∧ Aside0 (Below w.heap.size w w'))
  case atStart => exact ⟨(0), sq, H', ⟨Nat.le_refl _⟩, ⟨bel⟩⟩
  case round =>
   clear H'; (try clear c1); (try clear p2); (try clear c3); (try clear c3b0); (try clear c3b1); (try clear c3b2); obtain ⟨x5_1, rfl, HA, HK1, HB⟩ := hrel
   cases gk with
   | zero => exact absurd HA.out (by simp [laws_eqEntryS.l0])
   | succ k1 =>
    have H := HA.out; clear HA
    simp only [laws_eqEntryS.l0] at H
    by_cases c4 : x5_1 < (l0.length : Int)
    ·rw [if_pos c4] at H; have c4b0 := decide_eq_true c4; clear c4
     replace H := it H; obtain ⟨c5b0, H⟩ := H
     replace H := it H; obtain ⟨c6b0, H⟩ := H; replace H := bs H; obtain ⟨t371, A70, H⟩ := H; replace H : (if t371 = true then (laws_eqEntryS.l0 k1 l0 l1 (wrap64 (x5_1 + 1))) else (some false)) = some r := H; have A7 := Aside0.mk A70; clear A70
     by_cases c8 : t371 = true
     ·subst c8
      have H1 : (laws_eqEntryS.l0 k1 l0 l1 (wrap64 (x5_1 + 1))) = some r := b8_
      replace H := H1; clear H1
      have H' := am H
      clear H
      try go_wp2
      replace HB := am (below_drew1 HB.out)
      have p369 : 0 ≤ (x5_1 : Int) := of_decide_eq_true ad
      have q369 : x5_1 < (l0.length : Int) := of_decide_eq_true ad
      obtain ⟨ad369, e369, hx369_0, hx369_1⟩ := at_T78 HR0.out x5_1 p369 q369; have hw369_1 := hx369_1; have hw369_0 := hx369_0
      cases e369
      replace hx369_0 := kp HB.out hx369_0; replace hx369_1 := kp HB.out hx369_1; replace p369 := eq_true p369; replace q369 := eq_true q369
      have p370 : 0 ≤ (x5_1 : Int) := of_decide_eq_true ad
      have q370 : x5_1 < (l1.length : Int) := of_decide_eq_true ad
      obtain ⟨ad370, e370, hx370_0, hx370_1⟩ := at_T78 HR1.out x5_1 p370 q370; have hw370_1 := hx370_1; have hw370_0 := hx370_0
      cases e370
      replace hx370_0 := kp HB.out hx370_0; replace hx370_1 := kp HB.out hx370_1; replace p370 := eq_true p370; replace q370 := eq_true q370
      refine st (n := 10) (S := fun w' => w'.cell? (ad369.add ((x5_1).toNat * 2)) = some (.string ((rd_T78 l0 x5_1).f0)) ∧ w'.cell? ⟨(ad369.add ((x5_1).toNat * 2)).block, (ad369.add ((x5_1).toNat * 2)).off + 1, none⟩ = some (.string ((rd_T78 l0 x5_1).f1)) ∧ w'.cell? (ad370.add ((x5_1).toNat * 2)) = some (.string ((rd_T78 l1 x5_1).f0)) ∧ w'.cell? ⟨(ad370.add ((x5_1).toNat * 2)).block, (ad370.add ((x5_1).toNat * 2)).off + 1, none⟩ = some (.string ((rd_T78 l1 x5_1).f1))) (ds := []) ⟨(kp HB.out hw369_0), (kp HB.out hw369_1), (kp HB.out hw370_0), (kp HB.out hw370_1)⟩ (fun hHeld => ?_); refine with_tabW laws_eqEntryS.tab6 laws_eqEntryS.bits6 (fun HT_ HW_ => ?_)
      generalize wr.drew = w9 at HB hx369_0 hx369_1 hx370_0 hx370_1 hHeld ⊢
      refine pu 0 17 ?_
      refine pu 1 18 ?_
      refine pu 2 19 ?_
      refine pu 4 21 ?_
      refine pu 5 22 ?_
      refine pu 6 23 ?_
      refine tk4 3 20 hHeld ?_
      refine tk4 7 24 hHeld ?_
      refine on1 8 25 (fun K hK => ?_)
      refine goes_ Tryz.func65 (by kernel_rfl) rfl #[.agg #[.string ((rd_T78 l0 x5_1).f0), .string ((rd_T78 l0 x5_1).f1)], .agg #[.string ((rd_T78 l1 x5_1).f0), .string ((rd_T78 l1 x5_1).f1)]] (by rfl) rfl rfl mq ?_
      with_reducible refine (laws_eqEntry.calls ((rd_T78 l0 x5_1).f0) ((rd_T78 l0 x5_1).f1) ((rd_T78 l1 x5_1).f0) ((rd_T78 l1 x5_1).f1) true _ A7.out).mono ?_
      rintro e w10 ⟨rfl, hb⟩
      refine ⟨_, rfl, ?_⟩
      replace HB := am (below_step bel hb)
      (try clear hb)
      (try clear hb2)
      (try clear hk)
      (try clear hi)
      refine hK.out _ _ ⟨(kp HB.out hw369_0), (kp HB.out hw369_1), (kp HB.out hw370_0), (kp HB.out hw370_1)⟩ (fun hHeld => ?_)
      clear hK K
      refine norm_ (a' := ?_) ?_ ?_
      rotate_left
      ·show Act.put _ (some 25) _ = _
       simp only [Act.put, List.setIfInBounds_toArray, List.set_cons_zero, List.set_cons_succ, i64_w, i32_w]
       rfl
      refine pu 9 26 ?_
      refine done_ (done_of HT_.out (by kernel_rfl)) ?_
      try go_wp2
      go_roundg k1
      case measure => have := HK1.out; omega
      case rel => exact ⟨(wrap64 (x5_1 + 1)), sq, H', ⟨b14_⟩, ⟨bel⟩⟩
     replace c8 := Bool.eq_false_iff.mpr c8; subst c8
     have H1 : (some false) = some r := b2_
     replace H := H1; clear H1
     obtain rfl := Option.some.inj H
     try go_wp2
     replace HB := am (below_drew1 HB.out)
     have p369 : 0 ≤ (x5_1 : Int) := of_decide_eq_true ad
     have q369 : x5_1 < (l0.length : Int) := of_decide_eq_true ad
     obtain ⟨ad369, e369, hx369_0, hx369_1⟩ := at_T78 HR0.out x5_1 p369 q369; have hw369_1 := hx369_1; have hw369_0 := hx369_0
     cases e369
     replace hx369_0 := kp HB.out hx369_0; replace hx369_1 := kp HB.out hx369_1; replace p369 := eq_true p369; replace q369 := eq_true q369
     have p370 : 0 ≤ (x5_1 : Int) := of_decide_eq_true ad
     have q370 : x5_1 < (l1.length : Int) := of_decide_eq_true ad
     obtain ⟨ad370, e370, hx370_0, hx370_1⟩ := at_T78 HR1.out x5_1 p370 q370; have hw370_1 := hx370_1; have hw370_0 := hx370_0
     cases e370
     replace hx370_0 := kp HB.out hx370_0; replace hx370_1 := kp HB.out hx370_1; replace p370 := eq_true p370; replace q370 := eq_true q370
     refine st (n := 10) (S := fun w' => w'.cell? (ad369.add ((x5_1).toNat * 2)) = some (.string ((rd_T78 l0 x5_1).f0)) ∧ w'.cell? ⟨(ad369.add ((x5_1).toNat * 2)).block, (ad369.add ((x5_1).toNat * 2)).off + 1, none⟩ = some (.string ((rd_T78 l0 x5_1).f1)) ∧ w'.cell? (ad370.add ((x5_1).toNat * 2)) = some (.string ((rd_T78 l1 x5_1).f0)) ∧ w'.cell? ⟨(ad370.add ((x5_1).toNat * 2)).block, (ad370.add ((x5_1).toNat * 2)).off + 1, none⟩ = some (.string ((rd_T78 l1 x5_1).f1))) (ds := []) ⟨(kp HB.out hw369_0), (kp HB.out hw369_1), (kp HB.out hw370_0), (kp HB.out hw370_1)⟩ (fun hHeld => ?_); refine with_tabW laws_eqEntryS.tab6 laws_eqEntryS.bits6 (fun HT_ HW_ => ?_)
     generalize wr.drew = w11 at HB hx369_0 hx369_1 hx370_0 hx370_1 hHeld ⊢
     refine pu 0 17 ?_
     refine pu 1 18 ?_
     refine pu 2 19 ?_
     refine pu 4 21 ?_
     refine pu 5 22 ?_
     refine pu 6 23 ?_
     refine tk4 3 20 hHeld ?_
     refine tk4 7 24 hHeld ?_
     refine on1 8 25 (fun K hK => ?_)
     refine goes_ Tryz.func65 (by kernel_rfl) rfl #[.agg #[.string ((rd_T78 l0 x5_1).f0), .string ((rd_T78 l0 x5_1).f1)], .agg #[.string ((rd_T78 l1 x5_1).f0), .string ((rd_T78 l1 x5_1).f1)]] (by rfl) rfl rfl mq ?_
     with_reducible refine (laws_eqEntry.calls ((rd_T78 l0 x5_1).f0) ((rd_T78 l0 x5_1).f1) ((rd_T78 l1 x5_1).f0) ((rd_T78 l1 x5_1).f1) false _ A7.out).mono ?_
     rintro e w12 ⟨rfl, hb⟩
     refine ⟨_, rfl, ?_⟩
     replace HB := am (below_step bel hb)
     (try clear hb)
     (try clear hb2)
     (try clear hk)
     (try clear hi)
     refine hK.out _ _ ⟨(kp HB.out hw369_0), (kp HB.out hw369_1), (kp HB.out hw370_0), (kp HB.out hw370_1)⟩ (fun hHeld => ?_)
     clear hK K
     refine norm_ (a' := ?_) ?_ ?_
     rotate_left
     ·show Act.put _ (some 25) _ = _
      simp only [Act.put, List.setIfInBounds_toArray, List.set_cons_zero, List.set_cons_succ, i64_w, i32_w]
      rfl
     refine pu 9 26 ?_
     refine done_ (done_of HT_.out (by kernel_rfl)) ?_
     try go_wp2
     go_ret
     exact ⟨eq_, bel⟩
    rw [if_neg c4] at H; have c4b0 := decide_eq_false c4; clear c4; obtain rfl := Option.some.inj H; go_wp2; go_ret
    exact ⟨eq_, bel⟩
 rw [if_neg c3] at H
 have c3b0 : ((l0.length : Int) == (l1.length : Int)) = false := beq_eq_false_iff_ne.mpr c3
 have c3b1 : ((l0.length : Int) != (l1.length : Int)) = true := bne_iff_ne.mpr c3
 have c3b2 : (l0.length == l1.length) = false := b37_
 obtain rfl := Option.some.inj H; go_enter Tryz.func33, Tryz.ntmps33; go_wp2; go_ret
 exact ⟨eq_, bel⟩

/-! ### laws_eqBook: function 10 -/
def laws_eqBook.f (k : Nat) (l0_0 : List (S82)) (l0_1 : List (S78)) (l1_0 : List (S82)) (l1_1 : List (S78)) : Option (Bool) := (laws_eqAffixS.f k l0_0 l1_0).bind fun t374 => (if t374 = true then ((laws_eqEntryS.f k l0_1 l1_1).bind fun t375 => (if t375 = true then (some true) else (some false))) else (some false))
theorem laws_eqBook.calls (k : Nat) (A0_0 : Option Addr) (c0_0 : Nat) (l0_0 : List (S82)) (A0_1 : Option Addr) (c0_1 : Nat) (l0_1 : List (S78)) (A1_0 : Option Addr) (c1_0 : Nat) (l1_0 : List (S82)) (A1_1 : Option Addr) (c1_1 : Nat) (l1_1 : List (S78)) (r : Bool) (w : World) (hr0_0 : Kd.C k82 w A0_0 l0_0.length l0_0) (hc0_0 : l0_0.length ≤ c0_0) (hr0_1 : Kd.C k78 w A0_1 l0_1.length l0_1) (hc0_1 : l0_1.length ≤ c0_1) (hr1_0 : Kd.C k82 w A1_0 l1_0.length l1_0) (hc1_0 : l1_0.length ≤ c1_0) (hr1_1 : Kd.C k78 w A1_1 l1_1.length l1_1) (hc1_1 : l1_1.length ≤ c1_1) (h : laws_eqBook.f k l0_0 l0_1 l1_0 l1_1 = some r) :
  Calls Tryz.prog 10 #[.agg #[.slice A0_0 l0_0.length c0_0, .slice A0_1 l0_1.length c0_1], .agg #[.slice A1_0 l1_0.length c1_0, .slice A1_1 l1_1.length c1_1]] w fun e w' => e = .returned (.bool r) ∧ Below w.heap.size w w' := by
 have hu32 := Tryz.underlying32; have HR0_0 := am hr0_0; have HC0_0 := am hc0_0; clear hr0_0 hc0_0; have HR0_1 := am hr0_1; have HC0_1 := am hc0_1; clear hr0_1 hc0_1; have HR1_0 := am hr1_0; have HC1_0 := am hc1_0; clear hr1_0 hc1_0; have HR1_1 := am hr1_1; have HC1_1 := am hc1_1; clear hr1_1 hc1_1; have HB := am (Below.refl w.heap.size w)
 have H : ((laws_eqAffixS.f k l0_0 l1_0).bind fun t374 => (if t374 = true then ((laws_eqEntryS.f k l0_1 l1_1).bind fun t375 => (if t375 = true then (some true) else (some false))) else (some false))) = some r := h
 clear h; replace H := bs H; obtain ⟨t374, A30, H⟩ := H; replace H : (if t374 = true then ((laws_eqEntryS.f k l0_1 l1_1).bind fun t375 => (if t375 = true then (some true) else (some false))) else (some false)) = some r := H; have A3 := Aside0.mk A30; clear A30
 by_cases c4 : t374 = true
 ·subst c4
  have H1 : ((laws_eqEntryS.f k l0_1 l1_1).bind fun t375 => (if t375 = true then (some true) else (some false))) = some r := b8_
  replace H := H1; clear H1
  replace H := bs H; obtain ⟨t375, A50, H⟩ := H; replace H : (if t375 = true then (some true) else (some false)) = some r := H; have A5 := Aside0.mk A50; clear A50
  by_cases c6 : t375 = true
  ·subst c6
   have H1 : (some true) = some r := b8_
   replace H := H1; clear H1
   obtain rfl := Option.some.inj H; go_enter Tryz.func10, Tryz.ntmps10
   go_wp2_with (first | ((with_reducible refine gate_dst (N := 2) rfl ?_); refine bx 2 (cs := #[.slice A0_0 l0_0.length c0_0, .slice A0_1 l0_1.length c0_1]) (t := 32) ?_; intro gb372 hg w7 hbox hb; have BK372 := am (hbox); have GW372 := am ((b0_ : w.heap.size ≤ gb372)); have GE372 := am ((b0_ : w.heap.size ≤ gb372)); replace HB := am (below_step bel hb); clear hb hbox hg) | ((with_reducible refine gate_dst (N := 3) rfl ?_); refine bx 3 (cs := #[.slice A1_0 l1_0.length c1_0, .slice A1_1 l1_1.length c1_1]) (t := 32) ?_; intro gb373 hg w8 hbox hb; have BK373 := am (hbox); have GW373 := am ((b40_ : w.heap.size ≤ gb373)); have GE373 := am ((b40_ : w.heap.size ≤ gb373)); replace HB := am (below_step (bel1 GE372.out) hb); have NB372_373 := am ((b18_ : gb372 ≠ gb373)); have NB373_372 := am ((b19_ : gb373 ≠ gb372)); replace BK372 := am (blk_below (g := gb372) (o := .cells #[.slice A0_0 l0_0.length c0_0, .slice A0_1 l0_1.length c0_1] 32 (0, 0)) (bq BK372.out) hb); clear hb hbox hg; have hnb9 := NB372_373.out; have hnc9 := NB373_372.out; have hcz10_0 := bc BK372.out 0; have hcz10_1 := bc BK372.out 1; have hfz10_0 := bf BK372.out 0; have hfz10_1 := bf BK372.out 1; have hcz11_0 := bc BK373.out 0; have hcz11_1 := bc BK373.out 1; have hfz11_0 := bf BK373.out 0; have hfz11_1 := bf BK373.out 1) | ((with_reducible refine gate_callee (f := 32) rfl ?_); refine goesL_ (some 9) rfl rfl Tryz.func32 (by kernel_rfl) rfl #[.slice A0_0 l0_0.length c0_0, .slice A1_0 l1_0.length c1_0] rfl mq ?_; (with_reducible refine (laws_eqAffixS.calls k _ _ l0_0 _ _ l1_0 true _ ?side1 ?side2 ?side3 ?side4 A3.out).mono ?_); (case side1 => exact cq (Kd.C_below HR0_0.out HB.out)); (case side2 => exact HC0_0.out); (case side3 => exact cq (Kd.C_below HR1_0.out HB.out)); (case side4 => exact HC1_0.out); rintro e w12 ⟨rfl, hb⟩; refine ⟨_, rfl, ?_⟩; replace BK372 := am (blk_below (g := gb372) (o := .cells #[.slice A0_0 l0_0.length c0_0, .slice A0_1 l0_1.length c0_1] 32 (0, 0)) (bq BK372.out) hb); replace BK373 := am (blk_below (g := gb373) (o := .cells #[.slice A1_0 l1_0.length c1_0, .slice A1_1 l1_1.length c1_1] 32 (0, 0)) (bq BK373.out) hb); replace HB := am (below_step (bel2 GE372.out GE373.out) hb); (try clear hb); (try clear hb2); (try clear hk); (try clear hi); have hcz13_0 := bc BK372.out 0; have hcz13_1 := bc BK372.out 1; have hfz13_0 := bf BK372.out 0; have hfz13_1 := bf BK372.out 1; have hcz14_0 := bc BK373.out 0; have hcz14_1 := bc BK373.out 1; have hfz14_0 := bf BK373.out 0; have hfz14_1 := bf BK373.out 1) | ((with_reducible refine gate_callee (f := 33) rfl ?_); refine goesL_ (some 15) rfl rfl Tryz.func33 (by kernel_rfl) rfl #[.slice A0_1 l0_1.length c0_1, .slice A1_1 l1_1.length c1_1] rfl mq ?_; (with_reducible refine (laws_eqEntryS.calls k _ _ l0_1 _ _ l1_1 true _ ?side1 ?side2 ?side3 ?side4 A5.out).mono ?_); (case side1 => exact cq (Kd.C_below HR0_1.out HB.out)); (case side2 => exact HC0_1.out); (case side3 => exact cq (Kd.C_below HR1_1.out HB.out)); (case side4 => exact HC1_1.out); rintro e w15 ⟨rfl, hb⟩; refine ⟨_, rfl, ?_⟩; replace BK372 := am (blk_below (g := gb372) (o := .cells #[.slice A0_0 l0_0.length c0_0, .slice A0_1 l0_1.length c0_1] 32 (0, 0)) (bq BK372.out) hb); replace BK373 := am (blk_below (g := gb373) (o := .cells #[.slice A1_0 l1_0.length c1_0, .slice A1_1 l1_1.length c1_1] 32 (0, 0)) (bq BK373.out) hb); replace HB := am (below_step (bel2 GE372.out GE373.out) hb); (try clear hb); (try clear hb2); (try clear hk); (try clear hi)))
   go_ret
   exact ⟨eq_, bel2 GE372.out GE373.out⟩
  replace c6 := Bool.eq_false_iff.mpr c6; subst c6
  have H1 : (some false) = some r := b2_
  replace H := H1; clear H1
  obtain rfl := Option.some.inj H; go_enter Tryz.func10, Tryz.ntmps10
  go_wp2_with (first | ((with_reducible refine gate_dst (N := 2) rfl ?_); refine bx 2 (cs := #[.slice A0_0 l0_0.length c0_0, .slice A0_1 l0_1.length c0_1]) (t := 32) ?_; intro gb372 hg w16 hbox hb; have BK372 := am (hbox); have GW372 := am ((b0_ : w.heap.size ≤ gb372)); have GE372 := am ((b0_ : w.heap.size ≤ gb372)); replace HB := am (below_step bel hb); clear hb hbox hg) | ((with_reducible refine gate_dst (N := 3) rfl ?_); refine bx 3 (cs := #[.slice A1_0 l1_0.length c1_0, .slice A1_1 l1_1.length c1_1]) (t := 32) ?_; intro gb373 hg w17 hbox hb; have BK373 := am (hbox); have GW373 := am ((b40_ : w.heap.size ≤ gb373)); have GE373 := am ((b40_ : w.heap.size ≤ gb373)); replace HB := am (below_step (bel1 GE372.out) hb); have NB372_373 := am ((b18_ : gb372 ≠ gb373)); have NB373_372 := am ((b19_ : gb373 ≠ gb372)); replace BK372 := am (blk_below (g := gb372) (o := .cells #[.slice A0_0 l0_0.length c0_0, .slice A0_1 l0_1.length c0_1] 32 (0, 0)) (bq BK372.out) hb); clear hb hbox hg; have hnb18 := NB372_373.out; have hnc18 := NB373_372.out; have hcz19_0 := bc BK372.out 0; have hcz19_1 := bc BK372.out 1; have hfz19_0 := bf BK372.out 0; have hfz19_1 := bf BK372.out 1; have hcz20_0 := bc BK373.out 0; have hcz20_1 := bc BK373.out 1; have hfz20_0 := bf BK373.out 0; have hfz20_1 := bf BK373.out 1) | ((with_reducible refine gate_callee (f := 32) rfl ?_); refine goesL_ (some 9) rfl rfl Tryz.func32 (by kernel_rfl) rfl #[.slice A0_0 l0_0.length c0_0, .slice A1_0 l1_0.length c1_0] rfl mq ?_; (with_reducible refine (laws_eqAffixS.calls k _ _ l0_0 _ _ l1_0 true _ ?side1 ?side2 ?side3 ?side4 A3.out).mono ?_); (case side1 => exact cq (Kd.C_below HR0_0.out HB.out)); (case side2 => exact HC0_0.out); (case side3 => exact cq (Kd.C_below HR1_0.out HB.out)); (case side4 => exact HC1_0.out); rintro e w21 ⟨rfl, hb⟩; refine ⟨_, rfl, ?_⟩; replace BK372 := am (blk_below (g := gb372) (o := .cells #[.slice A0_0 l0_0.length c0_0, .slice A0_1 l0_1.length c0_1] 32 (0, 0)) (bq BK372.out) hb); replace BK373 := am (blk_below (g := gb373) (o := .cells #[.slice A1_0 l1_0.length c1_0, .slice A1_1 l1_1.length c1_1] 32 (0, 0)) (bq BK373.out) hb); replace HB := am (below_step (bel2 GE372.out GE373.out) hb); (try clear hb); (try clear hb2); (try clear hk); (try clear hi); have hcz22_0 := bc BK372.out 0; have hcz22_1 := bc BK372.out 1; have hfz22_0 := bf BK372.out 0; have hfz22_1 := bf BK372.out 1; have hcz23_0 := bc BK373.out 0; have hcz23_1 := bc BK373.out 1; have hfz23_0 := bf BK373.out 0; have hfz23_1 := bf BK373.out 1) | ((with_reducible refine gate_callee (f := 33) rfl ?_); refine goesL_ (some 15) rfl rfl Tryz.func33 (by kernel_rfl) rfl #[.slice A0_1 l0_1.length c0_1, .slice A1_1 l1_1.length c1_1] rfl mq ?_; (with_reducible refine (laws_eqEntryS.calls k _ _ l0_1 _ _ l1_1 false _ ?side1 ?side2 ?side3 ?side4 A5.out).mono ?_); (case side1 => exact cq (Kd.C_below HR0_1.out HB.out)); (case side2 => exact HC0_1.out); (case side3 => exact cq (Kd.C_below HR1_1.out HB.out)); (case side4 => exact HC1_1.out); rintro e w24 ⟨rfl, hb⟩; refine ⟨_, rfl, ?_⟩; replace BK372 := am (blk_below (g := gb372) (o := .cells #[.slice A0_0 l0_0.length c0_0, .slice A0_1 l0_1.length c0_1] 32 (0, 0)) (bq BK372.out) hb); replace BK373 := am (blk_below (g := gb373) (o := .cells #[.slice A1_0 l1_0.length c1_0, .slice A1_1 l1_1.length c1_1] 32 (0, 0)) (bq BK373.out) hb); replace HB := am (below_step (bel2 GE372.out GE373.out) hb); (try clear hb); (try clear hb2); (try clear hk); (try clear hi)))
  go_ret
  exact ⟨eq_, bel2 GE372.out GE373.out⟩
 replace c4 := Bool.eq_false_iff.mpr c4; subst c4
 have H1 : (some false) = some r := b2_
 replace H := H1; clear H1
 obtain rfl := Option.some.inj H; go_enter Tryz.func10, Tryz.ntmps10
 go_wp2_with (first | ((with_reducible refine gate_dst (N := 2) rfl ?_); refine bx 2 (cs := #[.slice A0_0 l0_0.length c0_0, .slice A0_1 l0_1.length c0_1]) (t := 32) ?_; intro gb372 hg w25 hbox hb; have BK372 := am (hbox); have GW372 := am ((b0_ : w.heap.size ≤ gb372)); have GE372 := am ((b0_ : w.heap.size ≤ gb372)); replace HB := am (below_step bel hb); clear hb hbox hg) | ((with_reducible refine gate_dst (N := 3) rfl ?_); refine bx 3 (cs := #[.slice A1_0 l1_0.length c1_0, .slice A1_1 l1_1.length c1_1]) (t := 32) ?_; intro gb373 hg w26 hbox hb; have BK373 := am (hbox); have GW373 := am ((b40_ : w.heap.size ≤ gb373)); have GE373 := am ((b40_ : w.heap.size ≤ gb373)); replace HB := am (below_step (bel1 GE372.out) hb); have NB372_373 := am ((b18_ : gb372 ≠ gb373)); have NB373_372 := am ((b19_ : gb373 ≠ gb372)); replace BK372 := am (blk_below (g := gb372) (o := .cells #[.slice A0_0 l0_0.length c0_0, .slice A0_1 l0_1.length c0_1] 32 (0, 0)) (bq BK372.out) hb); clear hb hbox hg; have hnb27 := NB372_373.out; have hnc27 := NB373_372.out; have hcz28_0 := bc BK372.out 0; have hcz28_1 := bc BK372.out 1; have hfz28_0 := bf BK372.out 0; have hfz28_1 := bf BK372.out 1; have hcz29_0 := bc BK373.out 0; have hcz29_1 := bc BK373.out 1; have hfz29_0 := bf BK373.out 0; have hfz29_1 := bf BK373.out 1) | ((with_reducible refine gate_callee (f := 32) rfl ?_); refine goesL_ (some 9) rfl rfl Tryz.func32 (by kernel_rfl) rfl #[.slice A0_0 l0_0.length c0_0, .slice A1_0 l1_0.length c1_0] rfl mq ?_; (with_reducible refine (laws_eqAffixS.calls k _ _ l0_0 _ _ l1_0 false _ ?side1 ?side2 ?side3 ?side4 A3.out).mono ?_); (case side1 => exact cq (Kd.C_below HR0_0.out HB.out)); (case side2 => exact HC0_0.out); (case side3 => exact cq (Kd.C_below HR1_0.out HB.out)); (case side4 => exact HC1_0.out); rintro e w30 ⟨rfl, hb⟩; refine ⟨_, rfl, ?_⟩; replace BK372 := am (blk_below (g := gb372) (o := .cells #[.slice A0_0 l0_0.length c0_0, .slice A0_1 l0_1.length c0_1] 32 (0, 0)) (bq BK372.out) hb); replace BK373 := am (blk_below (g := gb373) (o := .cells #[.slice A1_0 l1_0.length c1_0, .slice A1_1 l1_1.length c1_1] 32 (0, 0)) (bq BK373.out) hb); replace HB := am (below_step (bel2 GE372.out GE373.out) hb); (try clear hb); (try clear hb2); (try clear hk); (try clear hi)))
 go_ret
 exact ⟨eq_, bel2 GE372.out GE373.out⟩

/-! ### laws_markText: function 36 -/
def laws_markText.l0 : Nat → Int → ByteArray → Option (ByteArray)
 | 0, _, _ => none
 | k + 1, x0, x3 => if x0 > 0 then ((some (([(wrap64 (48 + (Int.tmod x0 10))) % 256] : List Int) : List Int)).bind fun y376 => (if (strOfNums y376).size + x3.size ≤ 9223372036854775807 then (laws_markText.l0 k (wrap64 (Int.tdiv x0 10)) ((strOfNums y376) ++ x3)) else (none))) else (if 1 + x3.size ≤ 9223372036854775807 then (some ((⟨#[109]⟩ : ByteArray) ++ x3)) else (none))
def laws_markText.f (k : Nat) (a0 : Int) : Option (ByteArray) := if a0 ≤ 0 then (some (⟨#[109, 48]⟩ : ByteArray)) else (laws_markText.l0 k a0 (⟨#[]⟩ : ByteArray))
theorem laws_markText.calls (k : Nat) (a0 : Int) (r : ByteArray) (w : World) (h : laws_markText.f k a0 = some r) :
  Calls Tryz.prog 36 #[.int .i64 a0] w fun e w' => e = .returned (.string r) ∧ Below w.heap.size w w' := by
 have HB := am (Below.refl w.heap.size w)
 have H : (if a0 ≤ 0 then (some (⟨#[109, 48]⟩ : ByteArray)) else (laws_markText.l0 k a0 (⟨#[]⟩ : ByteArray))) = some r := h
 clear h
 by_cases c2 : a0 ≤ 0
 ·rw [if_pos c2] at H; have c2b0 := decide_eq_true c2; clear c2; obtain rfl := Option.some.inj H; go_enter Tryz.func36, Tryz.ntmps36; go_wp2; go_ret
  exact ⟨eq_, bel⟩
 rw [if_neg c2] at H; have c2b0 := decide_eq_false c2; clear c2
 have H' := am H
 clear H; go_enter Tryz.func36, Tryz.ntmps36; go_wp2
 go_loopg [0, 3] k (fun kq v0 v3 w' => ∃ (x0_1 : Int) (x3_1 : ByteArray), v0 = .int .i64 x0_1 ∧ v3 = .string x3_1 ∧ Aside0 (laws_markText.l0 kq x0_1 x3_1 = some r) ∧ Aside0 (kq ≤ k) ∧ Aside0 (Below w.heap.size w w'))
 case atStart => exact ⟨(a0), ((⟨#[]⟩ : ByteArray)), sq, sq, H', ⟨Nat.le_refl _⟩, ⟨bel⟩⟩
 case round =>
  clear H'; (try clear c2); (try clear c2b0); (try clear p2); obtain ⟨x0_1, x3_1, rfl, rfl, HA, HK1, HB⟩ := hrel
  cases gk with
  | zero => exact absurd HA.out (by simp [laws_markText.l0])
  | succ k1 =>
   have H := HA.out; clear HA
   simp only [laws_markText.l0] at H
   by_cases c3 : x0_1 > 0
   ·rw [if_pos c3] at H; have c3b0 := decide_eq_true c3; clear c3; obtain ⟨y376, hy376⟩ : ∃ y_ : List Int, y_ = (([(wrap64 (48 + (Int.tmod x0_1 10))) % 256] : List Int)) := ⟨_, rfl⟩
    replace H : (if (strOfNums y376).size + x3_1.size ≤ 9223372036854775807 then (laws_markText.l0 k1 (wrap64 (Int.tdiv x0_1 10)) ((strOfNums y376) ++ x3_1)) else (none)) = some r := by first | (rw [hy376]; with_reducible exact H) | (have H2_ := bm H; rw [hy376]; with_reducible exact H2_) | (with_reducible exact bm H) | with_reducible exact H | (rw [hy376]; exact H) | exact H
    have Ny376 := am hy376; clear hy376
    replace H := ip H; obtain ⟨c4, H⟩ := H; have c4b0 := eq_true c4
    have c4b1 : decide ((strOfNums y376).size + x3_1.size ≤ 9223372036854775807) = true := decide_eq_true c4
    try have c4b2 : (9223372036854775807 < (strOfNums y376).size + x3_1.size) = False := eq_false (Nat.not_lt.2 c4)
    have H' := am H
    clear H
    go_wp2_with (first | ((with_reducible refine gate_dst (N := 12) rfl ?_); refine Kd.R_lit (Kd.int .u8) _ 5 ?hg (N := 12) ?hd (xs := ([(wrap64 (48 + (Int.tmod x0_1 10))) % 256] : List Int)) (inner := [.int .u8 ((wrap64 (48 + (Int.tmod x0_1 10))) % 256)]) (ok := fun _ => True) (okp := fun _ => True) ?hr ?hp (fun _ hk => hk) trivial (Below.refl _ _) (Nat.le_refl _) (by simp) ?_; (case hd => rfl); (case hg => rfl); (case hr => first | (go_simp; done) | (go_simp; rfl)); (case hp => exact (Reps.one (show Kd.M (Kd.int .u8) _ _ _ ((wrap64 (48 + (Int.tmod x0_1 10))) % 256) [.int .u8 ((wrap64 (48 + (Int.tmod x0_1 10))) % 256)] from rfl) (Reps.none _ _))); intro v377 w5 ho6 hb hg_ hnew_; clear hg_ hnew_; (first | rw [← Ny376.out] at ho6 | (simp only [Int.reduceToNat] at ho6; rw [← Ny376.out] at ho6) | (simp only [Int.toNat_natCast] at ho6; rw [← Ny376.out] at ho6)); have HO378 := am (Kd.R_lower ho6 (below_size bel)); replace HB := am (below_step bel hb); clear hb ho6; have hcv7 := own_string (P := Tryz.prog) Tryz.underlying39 Tryz.underlying5 Tryz.underlying9 (Kd.own_of_R HO378.out)))
    go_roundg k1
    case measure => have := HK1.out; omega
    case rel => exact ⟨(wrap64 (Int.tdiv x0_1 10)), ((strOfNums y376) ++ x3_1), sq, sq, H', ⟨b14_⟩, ⟨bel⟩⟩
   rw [if_neg c3] at H; have c3b0 := decide_eq_false c3; clear c3
   replace H := ip H; obtain ⟨c8, H⟩ := H; have c8b0 := eq_true c8
   have c8b1 : decide (1 + x3_1.size ≤ 9223372036854775807) = true := decide_eq_true c8
   try have c8b2 : (9223372036854775807 < 1 + x3_1.size) = False := eq_false (Nat.not_lt.2 c8)
   obtain rfl := Option.some.inj H; go_wp2; go_ret
   exact ⟨eq_, bel⟩

/-! ### laws_markAffixS: function 34 -/
def laws_markAffixS.l0 : Nat → List (S82) → Int → Int → Option (Int × (List (S82)))
 | 0, _, _, _ => none
 | k + 1, x0, x1, x5 => if x5 < (x0.length : Int) then ((laws_markText.f k x1).bind fun t379 => (if 0 ≤ x5 then ((some (x0.set (x5 : Int).toNat (⟨t379, (rd_T82 x0 x5).f1, (rd_T82 x0 x5).f2, (rd_T82 x0 x5).f3, (rd_T82 x0 x5).f4⟩ : S82) : List (S82))).bind fun y380 => ((some (y380.set (x5 : Int).toNat (⟨(rd_T82 y380 x5).f0, ((Int.tmod (wrap64 (x1 + 1)) 3) == 0), (rd_T82 y380 x5).f2, (rd_T82 y380 x5).f3, (rd_T82 y380 x5).f4⟩ : S82) : List (S82))).bind fun y381 => ((laws_markText.f k (wrap64 ((wrap64 (x1 + 1)) + 1))).bind fun t382 => ((some (y381.set (x5 : Int).toNat (⟨(rd_T82 y381 x5).f0, (rd_T82 y381 x5).f1, t382, (rd_T82 y381 x5).f3, (rd_T82 y381 x5).f4⟩ : S82) : List (S82))).bind fun y383 => ((laws_markText.f k (wrap64 ((wrap64 ((wrap64 (x1 + 1)) + 1)) + 1))).bind fun t384 => ((some (y383.set (x5 : Int).toNat (⟨(rd_T82 y383 x5).f0, (rd_T82 y383 x5).f1, (rd_T82 y383 x5).f2, t384, (rd_T82 y383 x5).f4⟩ : S82) : List (S82))).bind fun y385 => ((laws_markText.f k (wrap64 ((wrap64 ((wrap64 ((wrap64 (x1 + 1)) + 1)) + 1)) + 1))).bind fun t386 => (laws_markAffixS.l0 k (y385.set (x5 : Int).toNat (⟨(rd_T82 y385 x5).f0, (rd_T82 y385 x5).f1, (rd_T82 y385 x5).f2, (rd_T82 y385 x5).f3, t386⟩ : S82)) (wrap64 ((wrap64 ((wrap64 ((wrap64 ((wrap64 (x1 + 1)) + 1)) + 1)) + 1)) + 1)) (wrap64 (x5 + 1)))))))))) else (none))) else (some (x1, x0))
def laws_markAffixS.f (k : Nat) (l0 : List (S82)) (a1 : Int) : Option (Int × (List (S82))) := laws_markAffixS.l0 k l0 a1 0
theorem laws_markAffixS.calls (k : Nat) (P0_ : Nat → Prop) (u9000_ : Value) (l0 : List (S82)) (a1 : Int) (r1 : Int) (r2 : List (S82)) (w0 w : World) (hB : Below w0.heap.size w0 w) (ho0 : Kd.R k82 82 w w0.heap.size P0_ u9000_ l0) (h : laws_markAffixS.f k l0 a1 = some (r1, r2)) :
  Calls Tryz.prog 34 #[u9000_, .int .i64 a1] w fun e w' => e = .returned (.int .i64 r1) ∧ Kd.R k82 82 w' w0.heap.size (fun k_ => (P0_ k_ ∨ w.heap.size ≤ k_)) u9000_ r2 ∧ Below w0.heap.size w0 w' ∧ Kept w w' (fun k_ => P0_ k_) := by
 have HO0 := am (show Kd.R k82 82 w w0.heap.size (fun k_ => (P0_ k_ ∨ w.heap.size ≤ k_)) u9000_ l0 from Kd.R_mono ho0 (fun k_ hk => (.inl hk))); have HK := am (Kept.refl w (fun k_ => P0_ k_)); have HW0 := am hB.size; have HB := am hB; clear hB
 have H : (laws_markAffixS.l0 k l0 a1 0) = some (r1, r2) := h
 clear h
 have H' := am H
 clear H; go_enter Tryz.func34, Tryz.ntmps34; go_wp2
 go_loopg [1, 5] k (fun kq v1 v5 w' => ∃ (x0_1 : List (S82)) (x1_1 : Int) (x5_1 : Int), v1 = .int .i64 x1_1 ∧ v5 = .int .i64 x5_1 ∧ Aside0 (laws_markAffixS.l0 kq x0_1 x1_1 x5_1 = some (r1, r2)) ∧ Aside0 (kq ≤ k) ∧ Aside0 (Kd.R k82 82 w' w0.heap.size (fun k_ => (P0_ k_ ∨ w.heap.size ≤ k_)) u9000_ x0_1) ∧ Aside0 (Kept w w' (fun k_ => P0_ k_)) ∧ Aside0 (Below w0.heap.size w0 w'))
 case atStart => exact ⟨(l0), (a1), (0), sq, sq, H', ⟨Nat.le_refl _⟩, ⟨rq HO0.out⟩, ⟨b3_⟩, ⟨bel⟩⟩
 case round =>
  clear H'; (try clear p2); obtain ⟨x0_1, x1_1, x5_1, rfl, rfl, HA, HK1, HO_0, HK, HB⟩ := hrel
  cases gk with
  | zero => exact absurd HA.out (by simp [laws_markAffixS.l0])
  | succ k1 =>
   have H := HA.out; clear HA
   simp only [laws_markAffixS.l0] at H
   by_cases c3 : x5_1 < (x0_1.length : Int)
   ·rw [if_pos c3] at H; have c3b0 := decide_eq_true c3; clear c3; replace H := bs H; obtain ⟨t379, A40, H⟩ := H; replace H : (if 0 ≤ x5_1 then ((some (x0_1.set (x5_1 : Int).toNat (⟨t379, (rd_T82 x0_1 x5_1).f1, (rd_T82 x0_1 x5_1).f2, (rd_T82 x0_1 x5_1).f3, (rd_T82 x0_1 x5_1).f4⟩ : S82) : List (S82))).bind fun y380 => ((some (y380.set (x5_1 : Int).toNat (⟨(rd_T82 y380 x5_1).f0, ((Int.tmod (wrap64 (x1_1 + 1)) 3) == 0), (rd_T82 y380 x5_1).f2, (rd_T82 y380 x5_1).f3, (rd_T82 y380 x5_1).f4⟩ : S82) : List (S82))).bind fun y381 => ((laws_markText.f k1 (wrap64 ((wrap64 (x1_1 + 1)) + 1))).bind fun t382 => ((some (y381.set (x5_1 : Int).toNat (⟨(rd_T82 y381 x5_1).f0, (rd_T82 y381 x5_1).f1, t382, (rd_T82 y381 x5_1).f3, (rd_T82 y381 x5_1).f4⟩ : S82) : List (S82))).bind fun y383 => ((laws_markText.f k1 (wrap64 ((wrap64 ((wrap64 (x1_1 + 1)) + 1)) + 1))).bind fun t384 => ((some (y383.set (x5_1 : Int).toNat (⟨(rd_T82 y383 x5_1).f0, (rd_T82 y383 x5_1).f1, (rd_T82 y383 x5_1).f2, t384, (rd_T82 y383 x5_1).f4⟩ : S82) : List (S82))).bind fun y385 => ((laws_markText.f k1 (wrap64 ((wrap64 ((wrap64 ((wrap64 (x1_1 + 1)) + 1)) + 1)) + 1))).bind fun t386 => (laws_markAffixS.l0 k1 (y385.set (x5_1 : Int).toNat (⟨(rd_T82 y385 x5_1).f0, (rd_T82 y385 x5_1).f1, (rd_T82 y385 x5_1).f2, (rd_T82 y385 x5_1).f3, t386⟩ : S82)) (wrap64 ((wrap64 ((wrap64 ((wrap64 ((wrap64 (x1_1 + 1)) + 1)) + 1)) + 1)) + 1)) (wrap64 (x5_1 + 1)))))))))) else (none)) = some (r1, r2) := H; have A4 := Aside0.mk A40; clear A40
    replace H := it H; obtain ⟨c5b0, H⟩ := H; obtain ⟨y380, hy380⟩ : ∃ y_ : List (S82), y_ = (x0_1.set (x5_1 : Int).toNat (⟨t379, (rd_T82 x0_1 x5_1).f1, (rd_T82 x0_1 x5_1).f2, (rd_T82 x0_1 x5_1).f3, (rd_T82 x0_1 x5_1).f4⟩ : S82)) := ⟨_, rfl⟩
    replace H : ((some (y380.set (x5_1 : Int).toNat (⟨(rd_T82 y380 x5_1).f0, ((Int.tmod (wrap64 (x1_1 + 1)) 3) == 0), (rd_T82 y380 x5_1).f2, (rd_T82 y380 x5_1).f3, (rd_T82 y380 x5_1).f4⟩ : S82) : List (S82))).bind fun y381 => ((laws_markText.f k1 (wrap64 ((wrap64 (x1_1 + 1)) + 1))).bind fun t382 => ((some (y381.set (x5_1 : Int).toNat (⟨(rd_T82 y381 x5_1).f0, (rd_T82 y381 x5_1).f1, t382, (rd_T82 y381 x5_1).f3, (rd_T82 y381 x5_1).f4⟩ : S82) : List (S82))).bind fun y383 => ((laws_markText.f k1 (wrap64 ((wrap64 ((wrap64 (x1_1 + 1)) + 1)) + 1))).bind fun t384 => ((some (y383.set (x5_1 : Int).toNat (⟨(rd_T82 y383 x5_1).f0, (rd_T82 y383 x5_1).f1, (rd_T82 y383 x5_1).f2, t384, (rd_T82 y383 x5_1).f4⟩ : S82) : List (S82))).bind fun y385 => ((laws_markText.f k1 (wrap64 ((wrap64 ((wrap64 ((wrap64 (x1_1 + 1)) + 1)) + 1)) + 1))).bind fun t386 => (laws_markAffixS.l0 k1 (y385.set (x5_1 : Int).toNat (⟨(rd_T82 y385 x5_1).f0, (rd_T82 y385 x5_1).f1, (rd_T82 y385 x5_1).f2, (rd_T82 y385 x5_1).f3, t386⟩ : S82)) (wrap64 ((wrap64 ((wrap64 ((wrap64 ((wrap64 (x1_1 + 1)) + 1)) + 1)) + 1)) + 1)) (wrap64 (x5_1 + 1))))))))) = some (r1, r2) := by first | (rw [hy380]; with_reducible exact H) | (have H2_ := bm H; rw [hy380]; with_reducible exact H2_) | (with_reducible exact bm H) | with_reducible exact H | (rw [hy380]; exact H) | exact H
    have Ny380 := am hy380; clear hy380; obtain ⟨y381, hy381⟩ : ∃ y_ : List (S82), y_ = (y380.set (x5_1 : Int).toNat (⟨(rd_T82 y380 x5_1).f0, ((Int.tmod (wrap64 (x1_1 + 1)) 3) == 0), (rd_T82 y380 x5_1).f2, (rd_T82 y380 x5_1).f3, (rd_T82 y380 x5_1).f4⟩ : S82)) := ⟨_, rfl⟩
    replace H : ((laws_markText.f k1 (wrap64 ((wrap64 (x1_1 + 1)) + 1))).bind fun t382 => ((some (y381.set (x5_1 : Int).toNat (⟨(rd_T82 y381 x5_1).f0, (rd_T82 y381 x5_1).f1, t382, (rd_T82 y381 x5_1).f3, (rd_T82 y381 x5_1).f4⟩ : S82) : List (S82))).bind fun y383 => ((laws_markText.f k1 (wrap64 ((wrap64 ((wrap64 (x1_1 + 1)) + 1)) + 1))).bind fun t384 => ((some (y383.set (x5_1 : Int).toNat (⟨(rd_T82 y383 x5_1).f0, (rd_T82 y383 x5_1).f1, (rd_T82 y383 x5_1).f2, t384, (rd_T82 y383 x5_1).f4⟩ : S82) : List (S82))).bind fun y385 => ((laws_markText.f k1 (wrap64 ((wrap64 ((wrap64 ((wrap64 (x1_1 + 1)) + 1)) + 1)) + 1))).bind fun t386 => (laws_markAffixS.l0 k1 (y385.set (x5_1 : Int).toNat (⟨(rd_T82 y385 x5_1).f0, (rd_T82 y385 x5_1).f1, (rd_T82 y385 x5_1).f2, (rd_T82 y385 x5_1).f3, t386⟩ : S82)) (wrap64 ((wrap64 ((wrap64 ((wrap64 ((wrap64 (x1_1 + 1)) + 1)) + 1)) + 1)) + 1)) (wrap64 (x5_1 + 1)))))))) = some (r1, r2) := by first | (rw [hy381]; with_reducible exact H) | (have H2_ := bm H; rw [hy381]; with_reducible exact H2_) | (with_reducible exact bm H) | with_reducible exact H | (rw [hy381]; exact H) | exact H
    have Ny381 := am hy381; clear hy381; replace H := bs H; obtain ⟨t382, A80, H⟩ := H; replace H : ((some (y381.set (x5_1 : Int).toNat (⟨(rd_T82 y381 x5_1).f0, (rd_T82 y381 x5_1).f1, t382, (rd_T82 y381 x5_1).f3, (rd_T82 y381 x5_1).f4⟩ : S82) : List (S82))).bind fun y383 => ((laws_markText.f k1 (wrap64 ((wrap64 ((wrap64 (x1_1 + 1)) + 1)) + 1))).bind fun t384 => ((some (y383.set (x5_1 : Int).toNat (⟨(rd_T82 y383 x5_1).f0, (rd_T82 y383 x5_1).f1, (rd_T82 y383 x5_1).f2, t384, (rd_T82 y383 x5_1).f4⟩ : S82) : List (S82))).bind fun y385 => ((laws_markText.f k1 (wrap64 ((wrap64 ((wrap64 ((wrap64 (x1_1 + 1)) + 1)) + 1)) + 1))).bind fun t386 => (laws_markAffixS.l0 k1 (y385.set (x5_1 : Int).toNat (⟨(rd_T82 y385 x5_1).f0, (rd_T82 y385 x5_1).f1, (rd_T82 y385 x5_1).f2, (rd_T82 y385 x5_1).f3, t386⟩ : S82)) (wrap64 ((wrap64 ((wrap64 ((wrap64 ((wrap64 (x1_1 + 1)) + 1)) + 1)) + 1)) + 1)) (wrap64 (x5_1 + 1))))))) = some (r1, r2) := H; have A8 := Aside0.mk A80; clear A80; obtain ⟨y383, hy383⟩ : ∃ y_ : List (S82), y_ = (y381.set (x5_1 : Int).toNat (⟨(rd_T82 y381 x5_1).f0, (rd_T82 y381 x5_1).f1, t382, (rd_T82 y381 x5_1).f3, (rd_T82 y381 x5_1).f4⟩ : S82)) := ⟨_, rfl⟩
    replace H : ((laws_markText.f k1 (wrap64 ((wrap64 ((wrap64 (x1_1 + 1)) + 1)) + 1))).bind fun t384 => ((some (y383.set (x5_1 : Int).toNat (⟨(rd_T82 y383 x5_1).f0, (rd_T82 y383 x5_1).f1, (rd_T82 y383 x5_1).f2, t384, (rd_T82 y383 x5_1).f4⟩ : S82) : List (S82))).bind fun y385 => ((laws_markText.f k1 (wrap64 ((wrap64 ((wrap64 ((wrap64 (x1_1 + 1)) + 1)) + 1)) + 1))).bind fun t386 => (laws_markAffixS.l0 k1 (y385.set (x5_1 : Int).toNat (⟨(rd_T82 y385 x5_1).f0, (rd_T82 y385 x5_1).f1, (rd_T82 y385 x5_1).f2, (rd_T82 y385 x5_1).f3, t386⟩ : S82)) (wrap64 ((wrap64 ((wrap64 ((wrap64 ((wrap64 (x1_1 + 1)) + 1)) + 1)) + 1)) + 1)) (wrap64 (x5_1 + 1)))))) = some (r1, r2) := by first | (rw [hy383]; with_reducible exact H) | (have H2_ := bm H; rw [hy383]; with_reducible exact H2_) | (with_reducible exact bm H) | with_reducible exact H | (rw [hy383]; exact H) | exact H
    have Ny383 := am hy383; clear hy383; replace H := bs H; obtain ⟨t384, A100, H⟩ := H; replace H : ((some (y383.set (x5_1 : Int).toNat (⟨(rd_T82 y383 x5_1).f0, (rd_T82 y383 x5_1).f1, (rd_T82 y383 x5_1).f2, t384, (rd_T82 y383 x5_1).f4⟩ : S82) : List (S82))).bind fun y385 => ((laws_markText.f k1 (wrap64 ((wrap64 ((wrap64 ((wrap64 (x1_1 + 1)) + 1)) + 1)) + 1))).bind fun t386 => (laws_markAffixS.l0 k1 (y385.set (x5_1 : Int).toNat (⟨(rd_T82 y385 x5_1).f0, (rd_T82 y385 x5_1).f1, (rd_T82 y385 x5_1).f2, (rd_T82 y385 x5_1).f3, t386⟩ : S82)) (wrap64 ((wrap64 ((wrap64 ((wrap64 ((wrap64 (x1_1 + 1)) + 1)) + 1)) + 1)) + 1)) (wrap64 (x5_1 + 1))))) = some (r1, r2) := H; have A10 := Aside0.mk A100; clear A100; obtain ⟨y385, hy385⟩ : ∃ y_ : List (S82), y_ = (y383.set (x5_1 : Int).toNat (⟨(rd_T82 y383 x5_1).f0, (rd_T82 y383 x5_1).f1, (rd_T82 y383 x5_1).f2, t384, (rd_T82 y383 x5_1).f4⟩ : S82)) := ⟨_, rfl⟩
    replace H : ((laws_markText.f k1 (wrap64 ((wrap64 ((wrap64 ((wrap64 (x1_1 + 1)) + 1)) + 1)) + 1))).bind fun t386 => (laws_markAffixS.l0 k1 (y385.set (x5_1 : Int).toNat (⟨(rd_T82 y385 x5_1).f0, (rd_T82 y385 x5_1).f1, (rd_T82 y385 x5_1).f2, (rd_T82 y385 x5_1).f3, t386⟩ : S82)) (wrap64 ((wrap64 ((wrap64 ((wrap64 ((wrap64 (x1_1 + 1)) + 1)) + 1)) + 1)) + 1)) (wrap64 (x5_1 + 1)))) = some (r1, r2) := by first | (rw [hy385]; with_reducible exact H) | (have H2_ := bm H; rw [hy385]; with_reducible exact H2_) | (with_reducible exact bm H) | with_reducible exact H | (rw [hy385]; exact H) | exact H
    have Ny385 := am hy385; clear hy385; replace H := bs H; obtain ⟨t386, A120, H⟩ := H; replace H : (laws_markAffixS.l0 k1 (y385.set (x5_1 : Int).toNat (⟨(rd_T82 y385 x5_1).f0, (rd_T82 y385 x5_1).f1, (rd_T82 y385 x5_1).f2, (rd_T82 y385 x5_1).f3, t386⟩ : S82)) (wrap64 ((wrap64 ((wrap64 ((wrap64 ((wrap64 (x1_1 + 1)) + 1)) + 1)) + 1)) + 1)) (wrap64 (x5_1 + 1))) = some (r1, r2) := H; have A12 := Aside0.mk A120; clear A120; obtain ⟨y387, hy387⟩ : ∃ y_ : List (S82), y_ = (y385.set (x5_1 : Int).toNat (⟨(rd_T82 y385 x5_1).f0, (rd_T82 y385 x5_1).f1, (rd_T82 y385 x5_1).f2, (rd_T82 y385 x5_1).f3, t386⟩ : S82)) := ⟨_, rfl⟩
    replace H : (laws_markAffixS.l0 k1 y387 (wrap64 ((wrap64 ((wrap64 ((wrap64 ((wrap64 (x1_1 + 1)) + 1)) + 1)) + 1)) + 1)) (wrap64 (x5_1 + 1))) = some (r1, r2) := by first | (rw [hy387]; with_reducible exact H) | (have H2_ := bm H; rw [hy387]; with_reducible exact H2_) | (with_reducible exact bm H) | with_reducible exact H | (rw [hy387]; exact H) | exact H
    have Ny387 := am hy387; clear hy387
    have H' := am H
    clear H; obtain ⟨Ao14, co14, eo14⟩ := Kd.R_slice HO_0.out; subst eo14
    go_wp2_with (first | ((with_reducible refine gate_callee (f := 36) rfl ?_); refine goesL_ (some 15) rfl rfl Tryz.func36 (by kernel_rfl) rfl #[.int .i64 x1_1] rfl mq ?_; (with_reducible refine (laws_markText.calls k1 x1_1 t379 _ A4.out).mono ?_); rintro e w15 ⟨rfl, hb⟩; refine ⟨_, rfl, ?_⟩; replace HO_0 := am (Kd.R_below (rq HO_0.out) hb); replace HK := am (Kept.below (S := (fun k_ => P0_ k_)) b3_ hb); replace HB := am (below_step bel hb); (try clear hb); (try clear hb2); (try clear hk); (try clear hi); have p6 : 0 ≤ (x5_1 : Int) := of_decide_eq_true ad; have q6 : (x5_1 : Int) < ((x0_1.length : Int) : Int) := of_decide_eq_true ad; obtain ⟨go6, co6, eo6, gb6, gl6, cl6, HG6⟩ := Kd.R_form HO_0.out (by omega); (first | cases eo6 | (injection eo6 with ea_ en_ ec_; (first | subst ea_ | (injection ea_ with ea_; subst ea_)); subst ec_; clear en_)); have GB6 := Aside0.mk gb6; have GG6 := am HG6; clear gb6 gl6 HG6; have HMgo6 := am (show (P0_ go6 ∨ w.heap.size ≤ go6) from (HO_0.out.1 _ rfl)); obtain ⟨ce6, hcl6, hM6, hcc6, hfr6⟩ := Kd.R_elem HO_0.out z82 (x5_1 : Int) p6 q6; obtain rfl := k82_openM hM6; have hx6_0 : w15.cell? ⟨go6, (x5_1 : Int).toNat * 5, none⟩ = some (.string ((rd_T82 x0_1 x5_1).f0)) := hcc6 0 _ rfl; have hx6_1 : w15.cell? ⟨go6, (x5_1 : Int).toNat * 5 + 1, none⟩ = some (.bool ((rd_T82 x0_1 x5_1).f1)) := hcc6 1 _ rfl; have hx6_2 : w15.cell? ⟨go6, (x5_1 : Int).toNat * 5 + 2, none⟩ = some (.string ((rd_T82 x0_1 x5_1).f2)) := hcc6 2 _ rfl; have hx6_3 : w15.cell? ⟨go6, (x5_1 : Int).toNat * 5 + 3, none⟩ = some (.string ((rd_T82 x0_1 x5_1).f3)) := hcc6 3 _ rfl; have hx6_4 : w15.cell? ⟨go6, (x5_1 : Int).toNat * 5 + 4, none⟩ = some (.string ((rd_T82 x0_1 x5_1).f4)) := hcc6 4 _ rfl; have hf6_0 : w15.frozen? ⟨go6, (x5_1 : Int).toNat * 5, none⟩ = false := hfr6 0; have hf6_1 : w15.frozen? ⟨go6, (x5_1 : Int).toNat * 5 + 1, none⟩ = false := hfr6 1; have hf6_2 : w15.frozen? ⟨go6, (x5_1 : Int).toNat * 5 + 2, none⟩ = false := hfr6 2; have hf6_3 : w15.frozen? ⟨go6, (x5_1 : Int).toNat * 5 + 3, none⟩ = false := hfr6 3; have hf6_4 : w15.frozen? ⟨go6, (x5_1 : Int).toNat * 5 + 4, none⟩ = false := hfr6 4; clear hcl6 hcc6 hfr6; (try clear hM6); replace p6 := eq_true p6; replace q6 := eq_true q6; have HX16 := am (show Kd.R k82 82 w15 w0.heap.size (fun k_ => (P0_ k_ ∨ w.heap.size ≤ k_)) (.slice (some ⟨go6, 0, none⟩) x0_1.length co14) x0_1 from (rq HO_0.out)); obtain ⟨ce16, hcl16, hM16, hcc16, hfr16⟩ := Kd.R_elem HX16.out z82 (x5_1 : Int) (of_decide_eq_true ad) b5_; obtain rfl := k82_openM hM16; have HP16 := Kd.R_seg HX16.out (x5_1 : Int) (of_decide_eq_true ad) b5_ (seg := [.string t379]) (j := 0) hcl16 hcc16 (show 1 ≤ 5 from by decide) (x' := (⟨t379, (rd_T82 x0_1 x5_1).f1, (rd_T82 x0_1 x5_1).f2, (rd_T82 x0_1 x5_1).f3, (rd_T82 x0_1 x5_1).f4⟩ : S82)) (k82_mkM _ _ _ (⟨t379, (rd_T82 x0_1 x5_1).f1, (rd_T82 x0_1 x5_1).f2, (rd_T82 x0_1 x5_1).f3, (rd_T82 x0_1 x5_1).f4⟩ : S82) ) (fun _ hk => hk); have hx16_0 := hcc16 0 _ rfl; (try simp only [show (k82).sz = 5 from rfl, Nat.mul_one, Nat.add_zero] at hx16_0); have hf16_0 := hfr16 0; (try simp only [show (k82).sz = 5 from rfl, Nat.mul_one, Nat.add_zero] at hf16_0); clear hcl16 hcc16 hfr16; (try clear hM16)) | ((with_reducible refine gate_store (t := 9) (p := 17) rfl ?_); refine store_event (t := 9) (p := 17) (v := ?vo_w17) (w1 := (w15.setCell ⟨go6, (x5_1 : Int).toNat * 5, none⟩ (.string t379))) ?hg ?ho ?hn ?hr ?_; (case ho => rfl); (case hg => rfl); (case hn => rfl); (case hr => first | (go_simp; done) | (go_simp; rfl)); intro w17 hw; have hg : w15.grownBy w17 (some go6) := (by rw [hw]; exact HP16.2); have hp_ : Kd.R k82 82 w17 w0.heap.size (fun k_ => (P0_ k_ ∨ w.heap.size ≤ k_)) (.slice (some ⟨go6, 0, none⟩) x0_1.length co14) y380 := (by rw [hw, Ny380.out]; exact HP16.1); clear HP16; replace HB := am ((b23_ : Below w0.heap.size w0 w17)); replace HK := am (Kept.of_grown (S := (fun k_ => P0_ k_)) hg b3_ (fun k_ e_ => (HO_0.out.1 k_ e_))); replace HO_0 := am (hp_); clear hg hw hp_; have p7 : 0 ≤ (x5_1 : Int) := of_decide_eq_true ad; have q7 : (x5_1 : Int) < ((x0_1.length : Int) : Int) := of_decide_eq_true ad; obtain ⟨ce7, hcl7, hM7, hcc7, hfr7⟩ := Kd.R_elem HO_0.out z82 (x5_1 : Int) p7 q7; obtain rfl := k82_openM hM7; have hx7_0 : w17.cell? ⟨go6, (x5_1 : Int).toNat * 5, none⟩ = some (.string ((rd_T82 y380 x5_1).f0)) := hcc7 0 _ rfl; have hx7_1 : w17.cell? ⟨go6, (x5_1 : Int).toNat * 5 + 1, none⟩ = some (.bool ((rd_T82 y380 x5_1).f1)) := hcc7 1 _ rfl; have hx7_2 : w17.cell? ⟨go6, (x5_1 : Int).toNat * 5 + 2, none⟩ = some (.string ((rd_T82 y380 x5_1).f2)) := hcc7 2 _ rfl; have hx7_3 : w17.cell? ⟨go6, (x5_1 : Int).toNat * 5 + 3, none⟩ = some (.string ((rd_T82 y380 x5_1).f3)) := hcc7 3 _ rfl; have hx7_4 : w17.cell? ⟨go6, (x5_1 : Int).toNat * 5 + 4, none⟩ = some (.string ((rd_T82 y380 x5_1).f4)) := hcc7 4 _ rfl; have hf7_0 : w17.frozen? ⟨go6, (x5_1 : Int).toNat * 5, none⟩ = false := hfr7 0; have hf7_1 : w17.frozen? ⟨go6, (x5_1 : Int).toNat * 5 + 1, none⟩ = false := hfr7 1; have hf7_2 : w17.frozen? ⟨go6, (x5_1 : Int).toNat * 5 + 2, none⟩ = false := hfr7 2; have hf7_3 : w17.frozen? ⟨go6, (x5_1 : Int).toNat * 5 + 3, none⟩ = false := hfr7 3; have hf7_4 : w17.frozen? ⟨go6, (x5_1 : Int).toNat * 5 + 4, none⟩ = false := hfr7 4; clear hcl7 hcc7 hfr7; (try clear hM7); replace p7 := eq_true p7; replace q7 := eq_true q7; have HX18 := am (show Kd.R k82 82 w17 w0.heap.size (fun k_ => (P0_ k_ ∨ w.heap.size ≤ k_)) (.slice (some ⟨go6, 0, none⟩) x0_1.length co14) y380 from (rq HO_0.out)); obtain ⟨ce18, hcl18, hM18, hcc18, hfr18⟩ := Kd.R_elem HX18.out z82 (x5_1 : Int) (of_decide_eq_true ad) b5_; obtain rfl := k82_openM hM18; have HP18 := Kd.R_seg HX18.out (x5_1 : Int) (of_decide_eq_true ad) b5_ (seg := [.bool ((Int.tmod (wrap64 (x1_1 + 1)) 3) == 0)]) (j := 1) hcl18 hcc18 (show 2 ≤ 5 from by decide) (x' := (⟨(rd_T82 y380 x5_1).f0, ((Int.tmod (wrap64 (x1_1 + 1)) 3) == 0), (rd_T82 y380 x5_1).f2, (rd_T82 y380 x5_1).f3, (rd_T82 y380 x5_1).f4⟩ : S82)) (k82_mkM _ _ _ (⟨(rd_T82 y380 x5_1).f0, ((Int.tmod (wrap64 (x1_1 + 1)) 3) == 0), (rd_T82 y380 x5_1).f2, (rd_T82 y380 x5_1).f3, (rd_T82 y380 x5_1).f4⟩ : S82) ) (fun _ hk => hk); have hx18_1 := hcc18 1 _ rfl; (try simp only [show (k82).sz = 5 from rfl, Nat.mul_one, Nat.add_zero] at hx18_1); have hf18_1 := hfr18 1; (try simp only [show (k82).sz = 5 from rfl, Nat.mul_one, Nat.add_zero] at hf18_1); clear hcl18 hcc18 hfr18; (try clear hM18)) | ((with_reducible refine gate_store (t := 4) (p := 26) rfl ?_); refine store_event (t := 4) (p := 26) (v := ?vo_w19) (w1 := (w17.setCell ⟨go6, (x5_1 : Int).toNat * 5 + 1, none⟩ (.bool ((Int.tmod (wrap64 (x1_1 + 1)) 3) == 0)))) ?hg ?ho ?hn ?hr ?_; (case ho => rfl); (case hg => rfl); (case hn => rfl); (case hr => first | (go_simp; done) | (go_simp; rfl)); intro w19 hw; have hg : w17.grownBy w19 (some go6) := (by rw [hw]; exact HP18.2); have hp_ : Kd.R k82 82 w19 w0.heap.size (fun k_ => (P0_ k_ ∨ w.heap.size ≤ k_)) (.slice (some ⟨go6, 0, none⟩) x0_1.length co14) y381 := (by rw [hw, Ny381.out]; exact HP18.1); clear HP18; replace HB := am ((b23_ : Below w0.heap.size w0 w19)); replace HK := am (Kept.of_grown (S := (fun k_ => P0_ k_)) hg b3_ (fun k_ e_ => (HO_0.out.1 k_ e_))); replace HO_0 := am (hp_); clear hg hw hp_) | ((with_reducible refine gate_callee (f := 36) rfl ?_); refine goesL_ (some 32) rfl rfl Tryz.func36 (by kernel_rfl) rfl #[.int .i64 (wrap64 ((wrap64 (x1_1 + 1)) + 1))] rfl mq ?_; (with_reducible refine (laws_markText.calls k1 (wrap64 ((wrap64 (x1_1 + 1)) + 1)) t382 _ A8.out).mono ?_); rintro e w20 ⟨rfl, hb⟩; refine ⟨_, rfl, ?_⟩; replace HO_0 := am (Kd.R_below (rq HO_0.out) hb); replace HK := am (Kept.below (S := (fun k_ => P0_ k_)) b3_ hb); replace HB := am (below_step bel hb); (try clear hb); (try clear hb2); (try clear hk); (try clear hi); have p9 : 0 ≤ (x5_1 : Int) := of_decide_eq_true ad; have q9 : (x5_1 : Int) < ((x0_1.length : Int) : Int) := of_decide_eq_true ad; obtain ⟨ce9, hcl9, hM9, hcc9, hfr9⟩ := Kd.R_elem HO_0.out z82 (x5_1 : Int) p9 q9; obtain rfl := k82_openM hM9; have hx9_0 : w20.cell? ⟨go6, (x5_1 : Int).toNat * 5, none⟩ = some (.string ((rd_T82 y381 x5_1).f0)) := hcc9 0 _ rfl; have hx9_1 : w20.cell? ⟨go6, (x5_1 : Int).toNat * 5 + 1, none⟩ = some (.bool ((rd_T82 y381 x5_1).f1)) := hcc9 1 _ rfl; have hx9_2 : w20.cell? ⟨go6, (x5_1 : Int).toNat * 5 + 2, none⟩ = some (.string ((rd_T82 y381 x5_1).f2)) := hcc9 2 _ rfl; have hx9_3 : w20.cell? ⟨go6, (x5_1 : Int).toNat * 5 + 3, none⟩ = some (.string ((rd_T82 y381 x5_1).f3)) := hcc9 3 _ rfl; have hx9_4 : w20.cell? ⟨go6, (x5_1 : Int).toNat * 5 + 4, none⟩ = some (.string ((rd_T82 y381 x5_1).f4)) := hcc9 4 _ rfl; have hf9_0 : w20.frozen? ⟨go6, (x5_1 : Int).toNat * 5, none⟩ = false := hfr9 0; have hf9_1 : w20.frozen? ⟨go6, (x5_1 : Int).toNat * 5 + 1, none⟩ = false := hfr9 1; have hf9_2 : w20.frozen? ⟨go6, (x5_1 : Int).toNat * 5 + 2, none⟩ = false := hfr9 2; have hf9_3 : w20.frozen? ⟨go6, (x5_1 : Int).toNat * 5 + 3, none⟩ = false := hfr9 3; have hf9_4 : w20.frozen? ⟨go6, (x5_1 : Int).toNat * 5 + 4, none⟩ = false := hfr9 4; clear hcl9 hcc9 hfr9; (try clear hM9); replace p9 := eq_true p9; replace q9 := eq_true q9; have HX21 := am (show Kd.R k82 82 w20 w0.heap.size (fun k_ => (P0_ k_ ∨ w.heap.size ≤ k_)) (.slice (some ⟨go6, 0, none⟩) x0_1.length co14) y381 from (rq HO_0.out)); obtain ⟨ce21, hcl21, hM21, hcc21, hfr21⟩ := Kd.R_elem HX21.out z82 (x5_1 : Int) (of_decide_eq_true ad) b5_; obtain rfl := k82_openM hM21; have HP21 := Kd.R_seg HX21.out (x5_1 : Int) (of_decide_eq_true ad) b5_ (seg := [.string t382]) (j := 2) hcl21 hcc21 (show 3 ≤ 5 from by decide) (x' := (⟨(rd_T82 y381 x5_1).f0, (rd_T82 y381 x5_1).f1, t382, (rd_T82 y381 x5_1).f3, (rd_T82 y381 x5_1).f4⟩ : S82)) (k82_mkM _ _ _ (⟨(rd_T82 y381 x5_1).f0, (rd_T82 y381 x5_1).f1, t382, (rd_T82 y381 x5_1).f3, (rd_T82 y381 x5_1).f4⟩ : S82) ) (fun _ hk => hk); have hx21_2 := hcc21 2 _ rfl; (try simp only [show (k82).sz = 5 from rfl, Nat.mul_one, Nat.add_zero] at hx21_2); have hf21_2 := hfr21 2; (try simp only [show (k82).sz = 5 from rfl, Nat.mul_one, Nat.add_zero] at hf21_2); clear hcl21 hcc21 hfr21; (try clear hM21)) | ((with_reducible refine gate_store (t := 9) (p := 34) rfl ?_); refine store_event (t := 9) (p := 34) (v := ?vo_w22) (w1 := (w20.setCell ⟨go6, (x5_1 : Int).toNat * 5 + 2, none⟩ (.string t382))) ?hg ?ho ?hn ?hr ?_; (case ho => rfl); (case hg => rfl); (case hn => rfl); (case hr => first | (go_simp; done) | (go_simp; rfl)); intro w22 hw; have hg : w20.grownBy w22 (some go6) := (by rw [hw]; exact HP21.2); have hp_ : Kd.R k82 82 w22 w0.heap.size (fun k_ => (P0_ k_ ∨ w.heap.size ≤ k_)) (.slice (some ⟨go6, 0, none⟩) x0_1.length co14) y383 := (by rw [hw, Ny383.out]; exact HP21.1); clear HP21; replace HB := am ((b23_ : Below w0.heap.size w0 w22)); replace HK := am (Kept.of_grown (S := (fun k_ => P0_ k_)) hg b3_ (fun k_ e_ => (HO_0.out.1 k_ e_))); replace HO_0 := am (hp_); clear hg hw hp_) | ((with_reducible refine gate_callee (f := 36) rfl ?_); refine goesL_ (some 40) rfl rfl Tryz.func36 (by kernel_rfl) rfl #[.int .i64 (wrap64 ((wrap64 ((wrap64 (x1_1 + 1)) + 1)) + 1))] rfl mq ?_; (with_reducible refine (laws_markText.calls k1 (wrap64 ((wrap64 ((wrap64 (x1_1 + 1)) + 1)) + 1)) t384 _ A10.out).mono ?_); rintro e w23 ⟨rfl, hb⟩; refine ⟨_, rfl, ?_⟩; replace HO_0 := am (Kd.R_below (rq HO_0.out) hb); replace HK := am (Kept.below (S := (fun k_ => P0_ k_)) b3_ hb); replace HB := am (below_step bel hb); (try clear hb); (try clear hb2); (try clear hk); (try clear hi); have p11 : 0 ≤ (x5_1 : Int) := of_decide_eq_true ad; have q11 : (x5_1 : Int) < ((x0_1.length : Int) : Int) := of_decide_eq_true ad; obtain ⟨ce11, hcl11, hM11, hcc11, hfr11⟩ := Kd.R_elem HO_0.out z82 (x5_1 : Int) p11 q11; obtain rfl := k82_openM hM11; have hx11_0 : w23.cell? ⟨go6, (x5_1 : Int).toNat * 5, none⟩ = some (.string ((rd_T82 y383 x5_1).f0)) := hcc11 0 _ rfl; have hx11_1 : w23.cell? ⟨go6, (x5_1 : Int).toNat * 5 + 1, none⟩ = some (.bool ((rd_T82 y383 x5_1).f1)) := hcc11 1 _ rfl; have hx11_2 : w23.cell? ⟨go6, (x5_1 : Int).toNat * 5 + 2, none⟩ = some (.string ((rd_T82 y383 x5_1).f2)) := hcc11 2 _ rfl; have hx11_3 : w23.cell? ⟨go6, (x5_1 : Int).toNat * 5 + 3, none⟩ = some (.string ((rd_T82 y383 x5_1).f3)) := hcc11 3 _ rfl; have hx11_4 : w23.cell? ⟨go6, (x5_1 : Int).toNat * 5 + 4, none⟩ = some (.string ((rd_T82 y383 x5_1).f4)) := hcc11 4 _ rfl; have hf11_0 : w23.frozen? ⟨go6, (x5_1 : Int).toNat * 5, none⟩ = false := hfr11 0; have hf11_1 : w23.frozen? ⟨go6, (x5_1 : Int).toNat * 5 + 1, none⟩ = false := hfr11 1; have hf11_2 : w23.frozen? ⟨go6, (x5_1 : Int).toNat * 5 + 2, none⟩ = false := hfr11 2; have hf11_3 : w23.frozen? ⟨go6, (x5_1 : Int).toNat * 5 + 3, none⟩ = false := hfr11 3; have hf11_4 : w23.frozen? ⟨go6, (x5_1 : Int).toNat * 5 + 4, none⟩ = false := hfr11 4; clear hcl11 hcc11 hfr11; (try clear hM11); replace p11 := eq_true p11; replace q11 := eq_true q11; have HX24 := am (show Kd.R k82 82 w23 w0.heap.size (fun k_ => (P0_ k_ ∨ w.heap.size ≤ k_)) (.slice (some ⟨go6, 0, none⟩) x0_1.length co14) y383 from (rq HO_0.out)); obtain ⟨ce24, hcl24, hM24, hcc24, hfr24⟩ := Kd.R_elem HX24.out z82 (x5_1 : Int) (of_decide_eq_true ad) b5_; obtain rfl := k82_openM hM24; have HP24 := Kd.R_seg HX24.out (x5_1 : Int) (of_decide_eq_true ad) b5_ (seg := [.string t384]) (j := 3) hcl24 hcc24 (show 4 ≤ 5 from by decide) (x' := (⟨(rd_T82 y383 x5_1).f0, (rd_T82 y383 x5_1).f1, (rd_T82 y383 x5_1).f2, t384, (rd_T82 y383 x5_1).f4⟩ : S82)) (k82_mkM _ _ _ (⟨(rd_T82 y383 x5_1).f0, (rd_T82 y383 x5_1).f1, (rd_T82 y383 x5_1).f2, t384, (rd_T82 y383 x5_1).f4⟩ : S82) ) (fun _ hk => hk); have hx24_3 := hcc24 3 _ rfl; (try simp only [show (k82).sz = 5 from rfl, Nat.mul_one, Nat.add_zero] at hx24_3); have hf24_3 := hfr24 3; (try simp only [show (k82).sz = 5 from rfl, Nat.mul_one, Nat.add_zero] at hf24_3); clear hcl24 hcc24 hfr24; (try clear hM24)) | ((with_reducible refine gate_store (t := 9) (p := 42) rfl ?_); refine store_event (t := 9) (p := 42) (v := ?vo_w25) (w1 := (w23.setCell ⟨go6, (x5_1 : Int).toNat * 5 + 3, none⟩ (.string t384))) ?hg ?ho ?hn ?hr ?_; (case ho => rfl); (case hg => rfl); (case hn => rfl); (case hr => first | (go_simp; done) | (go_simp; rfl)); intro w25 hw; have hg : w23.grownBy w25 (some go6) := (by rw [hw]; exact HP24.2); have hp_ : Kd.R k82 82 w25 w0.heap.size (fun k_ => (P0_ k_ ∨ w.heap.size ≤ k_)) (.slice (some ⟨go6, 0, none⟩) x0_1.length co14) y385 := (by rw [hw, Ny385.out]; exact HP24.1); clear HP24; replace HB := am ((b23_ : Below w0.heap.size w0 w25)); replace HK := am (Kept.of_grown (S := (fun k_ => P0_ k_)) hg b3_ (fun k_ e_ => (HO_0.out.1 k_ e_))); replace HO_0 := am (hp_); clear hg hw hp_) | ((with_reducible refine gate_callee (f := 36) rfl ?_); refine goesL_ (some 48) rfl rfl Tryz.func36 (by kernel_rfl) rfl #[.int .i64 (wrap64 ((wrap64 ((wrap64 ((wrap64 (x1_1 + 1)) + 1)) + 1)) + 1))] rfl mq ?_; (with_reducible refine (laws_markText.calls k1 (wrap64 ((wrap64 ((wrap64 ((wrap64 (x1_1 + 1)) + 1)) + 1)) + 1)) t386 _ A12.out).mono ?_); rintro e w26 ⟨rfl, hb⟩; refine ⟨_, rfl, ?_⟩; replace HO_0 := am (Kd.R_below (rq HO_0.out) hb); replace HK := am (Kept.below (S := (fun k_ => P0_ k_)) b3_ hb); replace HB := am (below_step bel hb); (try clear hb); (try clear hb2); (try clear hk); (try clear hi); have p13 : 0 ≤ (x5_1 : Int) := of_decide_eq_true ad; have q13 : (x5_1 : Int) < ((x0_1.length : Int) : Int) := of_decide_eq_true ad; obtain ⟨ce13, hcl13, hM13, hcc13, hfr13⟩ := Kd.R_elem HO_0.out z82 (x5_1 : Int) p13 q13; obtain rfl := k82_openM hM13; have hx13_0 : w26.cell? ⟨go6, (x5_1 : Int).toNat * 5, none⟩ = some (.string ((rd_T82 y385 x5_1).f0)) := hcc13 0 _ rfl; have hx13_1 : w26.cell? ⟨go6, (x5_1 : Int).toNat * 5 + 1, none⟩ = some (.bool ((rd_T82 y385 x5_1).f1)) := hcc13 1 _ rfl; have hx13_2 : w26.cell? ⟨go6, (x5_1 : Int).toNat * 5 + 2, none⟩ = some (.string ((rd_T82 y385 x5_1).f2)) := hcc13 2 _ rfl; have hx13_3 : w26.cell? ⟨go6, (x5_1 : Int).toNat * 5 + 3, none⟩ = some (.string ((rd_T82 y385 x5_1).f3)) := hcc13 3 _ rfl; have hx13_4 : w26.cell? ⟨go6, (x5_1 : Int).toNat * 5 + 4, none⟩ = some (.string ((rd_T82 y385 x5_1).f4)) := hcc13 4 _ rfl; have hf13_0 : w26.frozen? ⟨go6, (x5_1 : Int).toNat * 5, none⟩ = false := hfr13 0; have hf13_1 : w26.frozen? ⟨go6, (x5_1 : Int).toNat * 5 + 1, none⟩ = false := hfr13 1; have hf13_2 : w26.frozen? ⟨go6, (x5_1 : Int).toNat * 5 + 2, none⟩ = false := hfr13 2; have hf13_3 : w26.frozen? ⟨go6, (x5_1 : Int).toNat * 5 + 3, none⟩ = false := hfr13 3; have hf13_4 : w26.frozen? ⟨go6, (x5_1 : Int).toNat * 5 + 4, none⟩ = false := hfr13 4; clear hcl13 hcc13 hfr13; (try clear hM13); replace p13 := eq_true p13; replace q13 := eq_true q13; have HX27 := am (show Kd.R k82 82 w26 w0.heap.size (fun k_ => (P0_ k_ ∨ w.heap.size ≤ k_)) (.slice (some ⟨go6, 0, none⟩) x0_1.length co14) y385 from (rq HO_0.out)); obtain ⟨ce27, hcl27, hM27, hcc27, hfr27⟩ := Kd.R_elem HX27.out z82 (x5_1 : Int) (of_decide_eq_true ad) b5_; obtain rfl := k82_openM hM27; have HP27 := Kd.R_seg HX27.out (x5_1 : Int) (of_decide_eq_true ad) b5_ (seg := [.string t386]) (j := 4) hcl27 hcc27 (show 5 ≤ 5 from by decide) (x' := (⟨(rd_T82 y385 x5_1).f0, (rd_T82 y385 x5_1).f1, (rd_T82 y385 x5_1).f2, (rd_T82 y385 x5_1).f3, t386⟩ : S82)) (k82_mkM _ _ _ (⟨(rd_T82 y385 x5_1).f0, (rd_T82 y385 x5_1).f1, (rd_T82 y385 x5_1).f2, (rd_T82 y385 x5_1).f3, t386⟩ : S82) ) (fun _ hk => hk); have hx27_4 := hcc27 4 _ rfl; (try simp only [show (k82).sz = 5 from rfl, Nat.mul_one, Nat.add_zero] at hx27_4); have hf27_4 := hfr27 4; (try simp only [show (k82).sz = 5 from rfl, Nat.mul_one, Nat.add_zero] at hf27_4); clear hcl27 hcc27 hfr27; (try clear hM27)) | ((with_reducible refine gate_store (t := 9) (p := 50) rfl ?_); refine store_event (t := 9) (p := 50) (v := ?vo_w28) (w1 := (w26.setCell ⟨go6, (x5_1 : Int).toNat * 5 + 4, none⟩ (.string t386))) ?hg ?ho ?hn ?hr ?_; (case ho => rfl); (case hg => rfl); (case hn => rfl); (case hr => first | (go_simp; done) | (go_simp; rfl)); intro w28 hw; have hg : w26.grownBy w28 (some go6) := (by rw [hw]; exact HP27.2); have hp_ : Kd.R k82 82 w28 w0.heap.size (fun k_ => (P0_ k_ ∨ w.heap.size ≤ k_)) (.slice (some ⟨go6, 0, none⟩) x0_1.length co14) y387 := (by rw [hw, Ny387.out]; exact HP27.1); clear HP27; replace HB := am ((b23_ : Below w0.heap.size w0 w28)); replace HK := am (Kept.of_grown (S := (fun k_ => P0_ k_)) hg b3_ (fun k_ e_ => (HO_0.out.1 k_ e_))); replace HO_0 := am (hp_); clear hg hw hp_))
    go_roundg k1
    case measure => have := HK1.out; omega
    case rel => exact ⟨(y387), (wrap64 ((wrap64 ((wrap64 ((wrap64 ((wrap64 (x1_1 + 1)) + 1)) + 1)) + 1)) + 1)), (wrap64 (x5_1 + 1)), sq, sq, H', ⟨b14_⟩, ⟨rq HO_0.out⟩, ⟨b3_⟩, ⟨bel⟩⟩
   rw [if_neg c3] at H; have c3b0 := decide_eq_false c3; clear c3
   simp only [Option.some.injEq, Prod.mk.injEq] at H
   obtain ⟨rfl, rfl⟩ := H; obtain ⟨Ao29, co29, eo29⟩ := Kd.R_slice HO_0.out; subst eo29; go_wp2; go_ret
   exact ⟨eq_, b33_, bel, b3_⟩

/-! ### laws_markEntryS: function 35 -/
def laws_markEntryS.l0 : Nat → List (S78) → Int → Int → Option (Int × (List (S78)))
 | 0, _, _, _ => none
 | k + 1, x0, x1, x5 => if x5 < (x0.length : Int) then ((laws_markText.f k x1).bind fun t388 => (if 0 ≤ x5 then ((some (x0.set (x5 : Int).toNat (⟨t388, (rd_T78 x0 x5).f1⟩ : S78) : List (S78))).bind fun y389 => ((laws_markText.f k (wrap64 (x1 + 1))).bind fun t390 => (laws_markEntryS.l0 k (y389.set (x5 : Int).toNat (⟨(rd_T78 y389 x5).f0, t390⟩ : S78)) (wrap64 ((wrap64 (x1 + 1)) + 1)) (wrap64 (x5 + 1))))) else (none))) else (some (x1, x0))
def laws_markEntryS.f (k : Nat) (l0 : List (S78)) (a1 : Int) : Option (Int × (List (S78))) := laws_markEntryS.l0 k l0 a1 0
theorem laws_markEntryS.calls (k : Nat) (P0_ : Nat → Prop) (u9000_ : Value) (l0 : List (S78)) (a1 : Int) (r1 : Int) (r2 : List (S78)) (w0 w : World) (hB : Below w0.heap.size w0 w) (ho0 : Kd.R k78 78 w w0.heap.size P0_ u9000_ l0) (h : laws_markEntryS.f k l0 a1 = some (r1, r2)) :
  Calls Tryz.prog 35 #[u9000_, .int .i64 a1] w fun e w' => e = .returned (.int .i64 r1) ∧ Kd.R k78 78 w' w0.heap.size (fun k_ => (P0_ k_ ∨ w.heap.size ≤ k_)) u9000_ r2 ∧ Below w0.heap.size w0 w' ∧ Kept w w' (fun k_ => P0_ k_) := by
 have HO0 := am (show Kd.R k78 78 w w0.heap.size (fun k_ => (P0_ k_ ∨ w.heap.size ≤ k_)) u9000_ l0 from Kd.R_mono ho0 (fun k_ hk => (.inl hk))); have HK := am (Kept.refl w (fun k_ => P0_ k_)); have HW0 := am hB.size; have HB := am hB; clear hB
 have H : (laws_markEntryS.l0 k l0 a1 0) = some (r1, r2) := h
 clear h
 have H' := am H
 clear H; go_enter Tryz.func35, Tryz.ntmps35; go_wp2
 go_loopg [1, 5] k (fun kq v1 v5 w' => ∃ (x0_1 : List (S78)) (x1_1 : Int) (x5_1 : Int), v1 = .int .i64 x1_1 ∧ v5 = .int .i64 x5_1 ∧ Aside0 (laws_markEntryS.l0 kq x0_1 x1_1 x5_1 = some (r1, r2)) ∧ Aside0 (kq ≤ k) ∧ Aside0 (Kd.R k78 78 w' w0.heap.size (fun k_ => (P0_ k_ ∨ w.heap.size ≤ k_)) u9000_ x0_1) ∧ Aside0 (Kept w w' (fun k_ => P0_ k_)) ∧ Aside0 (Below w0.heap.size w0 w'))
 case atStart => exact ⟨(l0), (a1), (0), sq, sq, H', ⟨Nat.le_refl _⟩, ⟨rq HO0.out⟩, ⟨b3_⟩, ⟨bel⟩⟩
 case round =>
  clear H'; (try clear p2); obtain ⟨x0_1, x1_1, x5_1, rfl, rfl, HA, HK1, HO_0, HK, HB⟩ := hrel
  cases gk with
  | zero => exact absurd HA.out (by simp [laws_markEntryS.l0])
  | succ k1 =>
   have H := HA.out; clear HA
   simp only [laws_markEntryS.l0] at H
   by_cases c3 : x5_1 < (x0_1.length : Int)
   ·rw [if_pos c3] at H; have c3b0 := decide_eq_true c3; clear c3; replace H := bs H; obtain ⟨t388, A40, H⟩ := H; replace H : (if 0 ≤ x5_1 then ((some (x0_1.set (x5_1 : Int).toNat (⟨t388, (rd_T78 x0_1 x5_1).f1⟩ : S78) : List (S78))).bind fun y389 => ((laws_markText.f k1 (wrap64 (x1_1 + 1))).bind fun t390 => (laws_markEntryS.l0 k1 (y389.set (x5_1 : Int).toNat (⟨(rd_T78 y389 x5_1).f0, t390⟩ : S78)) (wrap64 ((wrap64 (x1_1 + 1)) + 1)) (wrap64 (x5_1 + 1))))) else (none)) = some (r1, r2) := H; have A4 := Aside0.mk A40; clear A40
    replace H := it H; obtain ⟨c5b0, H⟩ := H; obtain ⟨y389, hy389⟩ : ∃ y_ : List (S78), y_ = (x0_1.set (x5_1 : Int).toNat (⟨t388, (rd_T78 x0_1 x5_1).f1⟩ : S78)) := ⟨_, rfl⟩
    replace H : ((laws_markText.f k1 (wrap64 (x1_1 + 1))).bind fun t390 => (laws_markEntryS.l0 k1 (y389.set (x5_1 : Int).toNat (⟨(rd_T78 y389 x5_1).f0, t390⟩ : S78)) (wrap64 ((wrap64 (x1_1 + 1)) + 1)) (wrap64 (x5_1 + 1)))) = some (r1, r2) := by first | (rw [hy389]; with_reducible exact H) | (have H2_ := bm H; rw [hy389]; with_reducible exact H2_) | (with_reducible exact bm H) | with_reducible exact H | (rw [hy389]; exact H) | exact H
    have Ny389 := am hy389; clear hy389; replace H := bs H; obtain ⟨t390, A70, H⟩ := H; replace H : (laws_markEntryS.l0 k1 (y389.set (x5_1 : Int).toNat (⟨(rd_T78 y389 x5_1).f0, t390⟩ : S78)) (wrap64 ((wrap64 (x1_1 + 1)) + 1)) (wrap64 (x5_1 + 1))) = some (r1, r2) := H; have A7 := Aside0.mk A70; clear A70; obtain ⟨y391, hy391⟩ : ∃ y_ : List (S78), y_ = (y389.set (x5_1 : Int).toNat (⟨(rd_T78 y389 x5_1).f0, t390⟩ : S78)) := ⟨_, rfl⟩
    replace H : (laws_markEntryS.l0 k1 y391 (wrap64 ((wrap64 (x1_1 + 1)) + 1)) (wrap64 (x5_1 + 1))) = some (r1, r2) := by first | (rw [hy391]; with_reducible exact H) | (have H2_ := bm H; rw [hy391]; with_reducible exact H2_) | (with_reducible exact bm H) | with_reducible exact H | (rw [hy391]; exact H) | exact H
    have Ny391 := am hy391; clear hy391
    have H' := am H
    clear H; obtain ⟨Ao9, co9, eo9⟩ := Kd.R_slice HO_0.out; subst eo9
    go_wp2_with (first | ((with_reducible refine gate_callee (f := 36) rfl ?_); refine goesL_ (some 15) rfl rfl Tryz.func36 (by kernel_rfl) rfl #[.int .i64 x1_1] rfl mq ?_; (with_reducible refine (laws_markText.calls k1 x1_1 t388 _ A4.out).mono ?_); rintro e w10 ⟨rfl, hb⟩; refine ⟨_, rfl, ?_⟩; replace HO_0 := am (Kd.R_below (rq HO_0.out) hb); replace HK := am (Kept.below (S := (fun k_ => P0_ k_)) b3_ hb); replace HB := am (below_step bel hb); (try clear hb); (try clear hb2); (try clear hk); (try clear hi); have p6 : 0 ≤ (x5_1 : Int) := of_decide_eq_true ad; have q6 : (x5_1 : Int) < ((x0_1.length : Int) : Int) := of_decide_eq_true ad; obtain ⟨go6, co6, eo6, gb6, gl6, cl6, HG6⟩ := Kd.R_form HO_0.out (by omega); (first | cases eo6 | (injection eo6 with ea_ en_ ec_; (first | subst ea_ | (injection ea_ with ea_; subst ea_)); subst ec_; clear en_)); have GB6 := Aside0.mk gb6; have GG6 := am HG6; clear gb6 gl6 HG6; have HMgo6 := am (show (P0_ go6 ∨ w.heap.size ≤ go6) from (HO_0.out.1 _ rfl)); obtain ⟨ce6, hcl6, hM6, hcc6, hfr6⟩ := Kd.R_elem HO_0.out z78 (x5_1 : Int) p6 q6; obtain rfl := k78_openM hM6; have hx6_0 : w10.cell? ⟨go6, (x5_1 : Int).toNat * 2, none⟩ = some (.string ((rd_T78 x0_1 x5_1).f0)) := hcc6 0 _ rfl; have hx6_1 : w10.cell? ⟨go6, (x5_1 : Int).toNat * 2 + 1, none⟩ = some (.string ((rd_T78 x0_1 x5_1).f1)) := hcc6 1 _ rfl; have hf6_0 : w10.frozen? ⟨go6, (x5_1 : Int).toNat * 2, none⟩ = false := hfr6 0; have hf6_1 : w10.frozen? ⟨go6, (x5_1 : Int).toNat * 2 + 1, none⟩ = false := hfr6 1; clear hcl6 hcc6 hfr6; (try clear hM6); replace p6 := eq_true p6; replace q6 := eq_true q6; have HX11 := am (show Kd.R k78 78 w10 w0.heap.size (fun k_ => (P0_ k_ ∨ w.heap.size ≤ k_)) (.slice (some ⟨go6, 0, none⟩) x0_1.length co9) x0_1 from (rq HO_0.out)); obtain ⟨ce11, hcl11, hM11, hcc11, hfr11⟩ := Kd.R_elem HX11.out z78 (x5_1 : Int) (of_decide_eq_true ad) b5_; obtain rfl := k78_openM hM11; have HP11 := Kd.R_seg HX11.out (x5_1 : Int) (of_decide_eq_true ad) b5_ (seg := [.string t388]) (j := 0) hcl11 hcc11 (show 1 ≤ 2 from by decide) (x' := (⟨t388, (rd_T78 x0_1 x5_1).f1⟩ : S78)) (k78_mkM _ _ _ (⟨t388, (rd_T78 x0_1 x5_1).f1⟩ : S78) ) (fun _ hk => hk); have hx11_0 := hcc11 0 _ rfl; (try simp only [show (k78).sz = 2 from rfl, Nat.mul_one, Nat.add_zero] at hx11_0); have hf11_0 := hfr11 0; (try simp only [show (k78).sz = 2 from rfl, Nat.mul_one, Nat.add_zero] at hf11_0); clear hcl11 hcc11 hfr11; (try clear hM11)) | ((with_reducible refine gate_store (t := 9) (p := 17) rfl ?_); refine store_event (t := 9) (p := 17) (v := ?vo_w12) (w1 := (w10.setCell ⟨go6, (x5_1 : Int).toNat * 2, none⟩ (.string t388))) ?hg ?ho ?hn ?hr ?_; (case ho => rfl); (case hg => rfl); (case hn => rfl); (case hr => first | (go_simp; done) | (go_simp; rfl)); intro w12 hw; have hg : w10.grownBy w12 (some go6) := (by rw [hw]; exact HP11.2); have hp_ : Kd.R k78 78 w12 w0.heap.size (fun k_ => (P0_ k_ ∨ w.heap.size ≤ k_)) (.slice (some ⟨go6, 0, none⟩) x0_1.length co9) y389 := (by rw [hw, Ny389.out]; exact HP11.1); clear HP11; replace HB := am ((b23_ : Below w0.heap.size w0 w12)); replace HK := am (Kept.of_grown (S := (fun k_ => P0_ k_)) hg b3_ (fun k_ e_ => (HO_0.out.1 k_ e_))); replace HO_0 := am (hp_); clear hg hw hp_) | ((with_reducible refine gate_callee (f := 36) rfl ?_); refine goesL_ (some 23) rfl rfl Tryz.func36 (by kernel_rfl) rfl #[.int .i64 (wrap64 (x1_1 + 1))] rfl mq ?_; (with_reducible refine (laws_markText.calls k1 (wrap64 (x1_1 + 1)) t390 _ A7.out).mono ?_); rintro e w13 ⟨rfl, hb⟩; refine ⟨_, rfl, ?_⟩; replace HO_0 := am (Kd.R_below (rq HO_0.out) hb); replace HK := am (Kept.below (S := (fun k_ => P0_ k_)) b3_ hb); replace HB := am (below_step bel hb); (try clear hb); (try clear hb2); (try clear hk); (try clear hi); have p8 : 0 ≤ (x5_1 : Int) := of_decide_eq_true ad; have q8 : (x5_1 : Int) < ((x0_1.length : Int) : Int) := of_decide_eq_true ad; obtain ⟨ce8, hcl8, hM8, hcc8, hfr8⟩ := Kd.R_elem HO_0.out z78 (x5_1 : Int) p8 q8; obtain rfl := k78_openM hM8; have hx8_0 : w13.cell? ⟨go6, (x5_1 : Int).toNat * 2, none⟩ = some (.string ((rd_T78 y389 x5_1).f0)) := hcc8 0 _ rfl; have hx8_1 : w13.cell? ⟨go6, (x5_1 : Int).toNat * 2 + 1, none⟩ = some (.string ((rd_T78 y389 x5_1).f1)) := hcc8 1 _ rfl; have hf8_0 : w13.frozen? ⟨go6, (x5_1 : Int).toNat * 2, none⟩ = false := hfr8 0; have hf8_1 : w13.frozen? ⟨go6, (x5_1 : Int).toNat * 2 + 1, none⟩ = false := hfr8 1; clear hcl8 hcc8 hfr8; (try clear hM8); replace p8 := eq_true p8; replace q8 := eq_true q8; have HX14 := am (show Kd.R k78 78 w13 w0.heap.size (fun k_ => (P0_ k_ ∨ w.heap.size ≤ k_)) (.slice (some ⟨go6, 0, none⟩) x0_1.length co9) y389 from (rq HO_0.out)); obtain ⟨ce14, hcl14, hM14, hcc14, hfr14⟩ := Kd.R_elem HX14.out z78 (x5_1 : Int) (of_decide_eq_true ad) b5_; obtain rfl := k78_openM hM14; have HP14 := Kd.R_seg HX14.out (x5_1 : Int) (of_decide_eq_true ad) b5_ (seg := [.string t390]) (j := 1) hcl14 hcc14 (show 2 ≤ 2 from by decide) (x' := (⟨(rd_T78 y389 x5_1).f0, t390⟩ : S78)) (k78_mkM _ _ _ (⟨(rd_T78 y389 x5_1).f0, t390⟩ : S78) ) (fun _ hk => hk); have hx14_1 := hcc14 1 _ rfl; (try simp only [show (k78).sz = 2 from rfl, Nat.mul_one, Nat.add_zero] at hx14_1); have hf14_1 := hfr14 1; (try simp only [show (k78).sz = 2 from rfl, Nat.mul_one, Nat.add_zero] at hf14_1); clear hcl14 hcc14 hfr14; (try clear hM14)) | ((with_reducible refine gate_store (t := 9) (p := 25) rfl ?_); refine store_event (t := 9) (p := 25) (v := ?vo_w15) (w1 := (w13.setCell ⟨go6, (x5_1 : Int).toNat * 2 + 1, none⟩ (.string t390))) ?hg ?ho ?hn ?hr ?_; (case ho => rfl); (case hg => rfl); (case hn => rfl); (case hr => first | (go_simp; done) | (go_simp; rfl)); intro w15 hw; have hg : w13.grownBy w15 (some go6) := (by rw [hw]; exact HP14.2); have hp_ : Kd.R k78 78 w15 w0.heap.size (fun k_ => (P0_ k_ ∨ w.heap.size ≤ k_)) (.slice (some ⟨go6, 0, none⟩) x0_1.length co9) y391 := (by rw [hw, Ny391.out]; exact HP14.1); clear HP14; replace HB := am ((b23_ : Below w0.heap.size w0 w15)); replace HK := am (Kept.of_grown (S := (fun k_ => P0_ k_)) hg b3_ (fun k_ e_ => (HO_0.out.1 k_ e_))); replace HO_0 := am (hp_); clear hg hw hp_))
    go_roundg k1
    case measure => have := HK1.out; omega
    case rel => exact ⟨(y391), (wrap64 ((wrap64 (x1_1 + 1)) + 1)), (wrap64 (x5_1 + 1)), sq, sq, H', ⟨b14_⟩, ⟨rq HO_0.out⟩, ⟨b3_⟩, ⟨bel⟩⟩
   rw [if_neg c3] at H; have c3b0 := decide_eq_false c3; clear c3
   simp only [Option.some.injEq, Prod.mk.injEq] at H
   obtain ⟨rfl, rfl⟩ := H; obtain ⟨Ao16, co16, eo16⟩ := Kd.R_slice HO_0.out; subst eo16; go_wp2; go_ret
   exact ⟨eq_, b33_, bel, b3_⟩
-- shrunk

/-! ### laws_markBook: function 11 -/
def laws_markBook.f (k : Nat) (l0_0 : List (S82)) (l0_1 : List (S78)) (a1 : Int) : Option (Int × (List (S82)) × (List (S78))) := (laws_markAffixS.f k l0_0 a1).bind fun bt393 => ((laws_markEntryS.f k l0_1 bt393.1).bind fun bt395 => (some (bt395.1, bt393.2, bt395.2)))
theorem laws_markBook.calls (k : Nat) (P0_0_ : Nat → Prop) (u9000_ : Value) (l0_0 : List (S82)) (P0_1_ : Nat → Prop) (u9001_ : Value) (l0_1 : List (S78)) (a1 : Int) (r1 : Int) (r2 : List (S82)) (r3 : List (S78)) (w0 w : World) (hB : Below w0.heap.size w0 w) (ho0_0 : Kd.R k82 82 w w0.heap.size P0_0_ u9000_ l0_0) (ho0_1 : Kd.R k78 78 w w0.heap.size P0_1_ u9001_ l0_1) (h : laws_markBook.f k l0_0 l0_1 a1 = some (r1, r2, r3)) :
  Calls Tryz.prog 11 #[.agg #[u9000_, u9001_], .int .i64 a1] w fun e w' => e = .returned (.int .i64 r1) ∧ Kd.R k82 82 w' w0.heap.size (fun k_ => ((P0_0_ k_ ∨ P0_1_ k_) ∨ w.heap.size ≤ k_)) u9000_ r2 ∧ Kd.R k78 78 w' w0.heap.size (fun k_ => ((P0_0_ k_ ∨ P0_1_ k_) ∨ w.heap.size ≤ k_)) u9001_ r3 ∧ Below w0.heap.size w0 w' ∧ Kept w w' (fun k_ => P0_0_ k_ ∨ P0_1_ k_) := by
 have hu32 := Tryz.underlying32; have HO0_0 := am (show Kd.R k82 82 w w0.heap.size (fun k_ => ((P0_0_ k_ ∨ P0_1_ k_) ∨ w.heap.size ≤ k_)) u9000_ l0_0 from Kd.R_mono ho0_0 (fun k_ hk => (.inl (.inl hk)))); have HO0_1 := am (show Kd.R k78 78 w w0.heap.size (fun k_ => ((P0_0_ k_ ∨ P0_1_ k_) ∨ w.heap.size ≤ k_)) u9001_ l0_1 from Kd.R_mono ho0_1 (fun k_ hk => (.inl (.inr hk)))); have HK := am (Kept.refl w (fun k_ => P0_0_ k_ ∨ P0_1_ k_)); have HW0 := am hB.size; have HB := am hB; clear hB
 have H : ((laws_markAffixS.f k l0_0 a1).bind fun bt393 => ((laws_markEntryS.f k l0_1 bt393.1).bind fun bt395 => (some (bt395.1, bt393.2, bt395.2)))) = some (r1, r2, r3) := h
 clear h; replace H := bs H; obtain ⟨⟨t393, t394⟩, A30, H⟩ := H; replace H : ((laws_markEntryS.f k l0_1 t393).bind fun bt395 => (some (bt395.1, t394, bt395.2))) = some (r1, r2, r3) := H; have A3 := Aside0.mk A30; clear A30; replace H := bs H; obtain ⟨⟨t395, t396⟩, A40, H⟩ := H; replace H : (some (t395, t394, t396)) = some (r1, r2, r3) := H; have A4 := Aside0.mk A40; clear A40
 simp only [Option.some.injEq, Prod.mk.injEq] at H
 obtain ⟨rfl, rfl, rfl⟩ := H; obtain ⟨Ao5, co5, eo5⟩ := Kd.R_slice HO0_0.out; subst eo5; obtain ⟨Ao6, co6, eo6⟩ := Kd.R_slice HO0_1.out; subst eo6; go_enter Tryz.func11, Tryz.ntmps11
 go_wp2_with (first | ((with_reducible refine gate_dst (N := 2) rfl ?_); refine bx 2 (cs := #[.slice Ao5 l0_0.length co5, .slice Ao6 l0_1.length co6]) (t := 32) ?_; intro gb392 hg w7 hbox hb; replace HO0_0 := am (Kd.R_below (rq HO0_0.out) hb); replace HO0_1 := am (Kd.R_below (rq HO0_1.out) hb); have BK392 := am (hbox); have GW392 := am ((by rw [hg]; exact (by first | exact HK.out.1 | exact (show Kept w _ (fun k_ => P0_0_ k_ ∨ P0_1_ k_) from by repeat (first | (with_reducible first | exact HK.out | apply Kept.alloc | apply Kept.drewN | apply Kept.drew) | exact HK.out)).1) : w.heap.size ≤ gb392)); replace HK := am (Kept.below (S := (fun k_ => P0_0_ k_ ∨ P0_1_ k_)) b3_ hb); have GE392 := am ((b0_ : w0.heap.size ≤ gb392)); replace HB := am (below_step bel hb); clear hb hbox hg; have hcz8_0 := bc BK392.out 0; have hcz8_1 := bc BK392.out 1; have hfz8_0 := bf BK392.out 0; have hfz8_1 := bf BK392.out 1) | ((with_reducible refine gate_callee (f := 34) rfl ?_); refine goesL_ (some 8) rfl rfl Tryz.func34 (by kernel_rfl) rfl #[.slice Ao5 l0_0.length co5, .int .i64 a1] rfl mq ?_; (with_reducible refine (laws_markAffixS.calls k (fun k_ => some k_ = (.slice Ao5 l0_0.length co5 : Value).ownBlock) (.slice Ao5 l0_0.length co5) l0_0 a1 t393 t394 w0 _ ?side1 ?side2 A3.out).mono ?_); (case side1 => repeat (first | (with_reducible first | exact HB.out | apply below_alloc | apply pw_below_drewN | apply below_drew1 | refine below_set ?_ GE392.out) | exact HB.out)); (case side2 => exact Kd.R_tight rfl HO0_0.out); rintro e w9 ⟨rfl, hy0, hb, hkp⟩; refine ⟨_, rfl, ?_⟩; replace HO0_1 := am (Kd.R_mono (ok' := fun k_ => ((P0_0_ k_ ∨ P0_1_ k_) ∨ w.heap.size ≤ k_)) (Kd.R_keptB ((Kd.R_apart' HO0_1.out (Kd.R_typed HO0_0.out) (by decide))) hkp (fun k_ hk_ hs_ => (hk_.2) hs_)) (fun k_ hk_ => by first | exact hk_.1.1 | grind)); replace BK392 := am (blk_kept (bq BK392.out) hkp (fun hs_ => (fun e_ => (Kd.R_ne HO0_0.out BK392.out (by decide)) e_) hs_)); replace HK := am (Kept.then_ (S := (fun k_ => P0_0_ k_ ∨ P0_1_ k_)) b17_ hkp (fun k_ hs_ => (fun e_ => (HO0_0.out.1 k_ e_.symm)) hs_)); replace HO0_0 := am (Kd.R_reok rfl hy0 (fun k_ e_ => HO0_0.out.1 k_ e_)); replace HB := am (hb); (try clear hb); (try clear hkp); (try clear hy0); have hcz10_0 := bc BK392.out 0; have hcz10_1 := bc BK392.out 1; have hfz10_0 := bf BK392.out 0; have hfz10_1 := bf BK392.out 1) | ((with_reducible refine gate_callee (f := 35) rfl ?_); refine goesL_ (some 12) rfl rfl Tryz.func35 (by kernel_rfl) rfl #[.slice Ao6 l0_1.length co6, .int .i64 t393] rfl mq ?_; (with_reducible refine (laws_markEntryS.calls k (fun k_ => some k_ = (.slice Ao6 l0_1.length co6 : Value).ownBlock) (.slice Ao6 l0_1.length co6) l0_1 t393 t395 t396 w0 _ ?side1 ?side2 A4.out).mono ?_); (case side1 => repeat (first | (with_reducible first | exact HB.out | apply below_alloc | apply pw_below_drewN | apply below_drew1 | refine below_set ?_ GE392.out) | exact HB.out)); (case side2 => exact Kd.R_tight rfl HO0_1.out); rintro e w11 ⟨rfl, hy0, hb, hkp⟩; refine ⟨_, rfl, ?_⟩; replace HO0_0 := am (Kd.R_mono (ok' := fun k_ => ((P0_0_ k_ ∨ P0_1_ k_) ∨ w.heap.size ≤ k_)) (Kd.R_keptB ((Kd.R_apart' HO0_0.out (Kd.R_typed HO0_1.out) (by decide))) hkp (fun k_ hk_ hs_ => (hk_.2) hs_)) (fun k_ hk_ => by first | exact hk_.1.1 | grind)); replace BK392 := am (blk_kept (bq BK392.out) hkp (fun hs_ => (fun e_ => (Kd.R_ne HO0_1.out BK392.out (by decide)) e_) hs_)); replace HK := am (Kept.then_ (S := (fun k_ => P0_0_ k_ ∨ P0_1_ k_)) b17_ hkp (fun k_ hs_ => (fun e_ => (HO0_1.out.1 k_ e_.symm)) hs_)); replace HO0_1 := am (Kd.R_reok rfl hy0 (fun k_ e_ => HO0_1.out.1 k_ e_)); replace HB := am (hb); (try clear hb); (try clear hkp); (try clear hy0)))
 go_ret
 exact ⟨eq_, by (with_reducible repeat (first | apply Kd.R_alloc | apply Kd.R_drewN | apply Kd.R_drew)); exact HO0_0.out, by (with_reducible repeat (first | apply Kd.R_alloc | apply Kd.R_drewN | apply Kd.R_drew)); exact HO0_1.out, bel1 GE392.out, b17_⟩

/-! ### laws_markGuessS: function 12 -/
def laws_markGuessS.l0 : Nat → List (S43) → Int → Int → Option (Int × (List (S43)))
 | 0, _, _, _ => none
 | k + 1, x0, x1, x5 => if x5 < (x0.length : Int) then ((laws_markText.f k x1).bind fun t397 => (if 0 ≤ x5 then ((some (x0.set (x5 : Int).toNat (⟨t397, (rd_T43 x0 x5).f1⟩ : S43) : List (S43))).bind fun y398 => (laws_markGuessS.l0 k (y398.set (x5 : Int).toNat (⟨(rd_T43 y398 x5).f0, wrap64 (x1 + 1)⟩ : S43)) (wrap64 ((wrap64 (x1 + 1)) + 1)) (wrap64 (x5 + 1)))) else (none))) else (some (x1, x0))
def laws_markGuessS.f (k : Nat) (l0 : List (S43)) (a1 : Int) : Option (Int × (List (S43))) := laws_markGuessS.l0 k l0 a1 0
theorem laws_markGuessS.calls (k : Nat) (P0_ : Nat → Prop) (u9000_ : Value) (l0 : List (S43)) (a1 : Int) (r1 : Int) (r2 : List (S43)) (w0 w : World) (hB : Below w0.heap.size w0 w) (ho0 : Kd.R k43 43 w w0.heap.size P0_ u9000_ l0) (h : laws_markGuessS.f k l0 a1 = some (r1, r2)) :
  Calls Tryz.prog 12 #[u9000_, .int .i64 a1] w fun e w' => e = .returned (.int .i64 r1) ∧ Kd.R k43 43 w' w0.heap.size (fun k_ => (P0_ k_ ∨ w.heap.size ≤ k_)) u9000_ r2 ∧ Below w0.heap.size w0 w' ∧ Kept w w' (fun k_ => P0_ k_) := by
 have HO0 := am (show Kd.R k43 43 w w0.heap.size (fun k_ => (P0_ k_ ∨ w.heap.size ≤ k_)) u9000_ l0 from Kd.R_mono ho0 (fun k_ hk => (.inl hk))); have HK := am (Kept.refl w (fun k_ => P0_ k_)); have HW0 := am hB.size; have HB := am hB; clear hB
 have H : (laws_markGuessS.l0 k l0 a1 0) = some (r1, r2) := h
 clear h
 have H' := am H
 clear H; go_enter Tryz.func12, Tryz.ntmps12; go_wp2
 go_loopg [1, 5] k (fun kq v1 v5 w' => ∃ (x0_1 : List (S43)) (x1_1 : Int) (x5_1 : Int), v1 = .int .i64 x1_1 ∧ v5 = .int .i64 x5_1 ∧ Aside0 (laws_markGuessS.l0 kq x0_1 x1_1 x5_1 = some (r1, r2)) ∧ Aside0 (kq ≤ k) ∧ Aside0 (Kd.R k43 43 w' w0.heap.size (fun k_ => (P0_ k_ ∨ w.heap.size ≤ k_)) u9000_ x0_1) ∧ Aside0 (Kept w w' (fun k_ => P0_ k_)) ∧ Aside0 (Below w0.heap.size w0 w'))
 case atStart => exact ⟨(l0), (a1), (0), sq, sq, H', ⟨Nat.le_refl _⟩, ⟨rq HO0.out⟩, ⟨b3_⟩, ⟨bel⟩⟩
 case round =>
  clear H'; (try clear c1); (try clear p2); obtain ⟨x0_1, x1_1, x5_1, rfl, rfl, HA, HK1, HO_0, HK, HB⟩ := hrel
  cases gk with
  | zero => exact absurd HA.out (by simp [laws_markGuessS.l0])
  | succ k1 =>
   have H := HA.out; clear HA
   simp only [laws_markGuessS.l0] at H
   by_cases c3 : x5_1 < (x0_1.length : Int)
   ·rw [if_pos c3] at H; have c3b0 := decide_eq_true c3; clear c3; replace H := bs H; obtain ⟨t397, A40, H⟩ := H; replace H : (if 0 ≤ x5_1 then ((some (x0_1.set (x5_1 : Int).toNat (⟨t397, (rd_T43 x0_1 x5_1).f1⟩ : S43) : List (S43))).bind fun y398 => (laws_markGuessS.l0 k1 (y398.set (x5_1 : Int).toNat (⟨(rd_T43 y398 x5_1).f0, wrap64 (x1_1 + 1)⟩ : S43)) (wrap64 ((wrap64 (x1_1 + 1)) + 1)) (wrap64 (x5_1 + 1)))) else (none)) = some (r1, r2) := H; have A4 := Aside0.mk A40; clear A40
    replace H := it H; obtain ⟨c5b0, H⟩ := H; obtain ⟨y398, hy398⟩ : ∃ y_ : List (S43), y_ = (x0_1.set (x5_1 : Int).toNat (⟨t397, (rd_T43 x0_1 x5_1).f1⟩ : S43)) := ⟨_, rfl⟩
    replace H : (laws_markGuessS.l0 k1 (y398.set (x5_1 : Int).toNat (⟨(rd_T43 y398 x5_1).f0, wrap64 (x1_1 + 1)⟩ : S43)) (wrap64 ((wrap64 (x1_1 + 1)) + 1)) (wrap64 (x5_1 + 1))) = some (r1, r2) := by first | (rw [hy398]; with_reducible exact H) | (have H2_ := bm H; rw [hy398]; with_reducible exact H2_) | (with_reducible exact bm H) | with_reducible exact H | (rw [hy398]; exact H) | exact H
    have Ny398 := am hy398; clear hy398; obtain ⟨y399, hy399⟩ : ∃ y_ : List (S43), y_ = (y398.set (x5_1 : Int).toNat (⟨(rd_T43 y398 x5_1).f0, wrap64 (x1_1 + 1)⟩ : S43)) := ⟨_, rfl⟩
    replace H : (laws_markGuessS.l0 k1 y399 (wrap64 ((wrap64 (x1_1 + 1)) + 1)) (wrap64 (x5_1 + 1))) = some (r1, r2) := by first | (rw [hy399]; with_reducible exact H) | (have H2_ := bm H; rw [hy399]; with_reducible exact H2_) | (with_reducible exact bm H) | with_reducible exact H | (rw [hy399]; exact H) | exact H
    have Ny399 := am hy399; clear hy399
    have H' := am H
    clear H; obtain ⟨Ao8, co8, eo8⟩ := Kd.R_slice HO_0.out; subst eo8
    go_wp2_with (first | ((with_reducible refine gate_callee (f := 36) rfl ?_); refine goesL_ (some 15) rfl rfl Tryz.func36 (by kernel_rfl) rfl #[.int .i64 x1_1] rfl mq ?_; (with_reducible refine (laws_markText.calls k1 x1_1 t397 _ A4.out).mono ?_); rintro e w9 ⟨rfl, hb⟩; refine ⟨_, rfl, ?_⟩; replace HO_0 := am (Kd.R_below (rq HO_0.out) hb); replace HK := am (Kept.below (S := (fun k_ => P0_ k_)) b3_ hb); replace HB := am (below_step bel hb); (try clear hb); (try clear hb2); (try clear hk); (try clear hi); have p6 : 0 ≤ (x5_1 : Int) := of_decide_eq_true ad; have q6 : (x5_1 : Int) < ((x0_1.length : Int) : Int) := of_decide_eq_true ad; obtain ⟨go6, co6, eo6, gb6, gl6, cl6, HG6⟩ := Kd.R_form HO_0.out (by omega); (first | cases eo6 | (injection eo6 with ea_ en_ ec_; (first | subst ea_ | (injection ea_ with ea_; subst ea_)); subst ec_; clear en_)); have GB6 := Aside0.mk gb6; have GG6 := am HG6; clear gb6 gl6 HG6; have HMgo6 := am (show (P0_ go6 ∨ w.heap.size ≤ go6) from (HO_0.out.1 _ rfl)); obtain ⟨ce6, hcl6, hM6, hcc6, hfr6⟩ := Kd.R_elem HO_0.out z43 (x5_1 : Int) p6 q6; obtain rfl := k43_openM hM6; have hx6_0 : w9.cell? ⟨go6, (x5_1 : Int).toNat * 2, none⟩ = some (.string ((rd_T43 x0_1 x5_1).f0)) := hcc6 0 _ rfl; have hx6_1 : w9.cell? ⟨go6, (x5_1 : Int).toNat * 2 + 1, none⟩ = some (.int .i64 ((rd_T43 x0_1 x5_1).f1)) := hcc6 1 _ rfl; have hf6_0 : w9.frozen? ⟨go6, (x5_1 : Int).toNat * 2, none⟩ = false := hfr6 0; have hf6_1 : w9.frozen? ⟨go6, (x5_1 : Int).toNat * 2 + 1, none⟩ = false := hfr6 1; clear hcl6 hcc6 hfr6; (try clear hM6); replace p6 := eq_true p6; replace q6 := eq_true q6; have HX10 := am (show Kd.R k43 43 w9 w0.heap.size (fun k_ => (P0_ k_ ∨ w.heap.size ≤ k_)) (.slice (some ⟨go6, 0, none⟩) x0_1.length co8) x0_1 from (rq HO_0.out)); obtain ⟨ce10, hcl10, hM10, hcc10, hfr10⟩ := Kd.R_elem HX10.out z43 (x5_1 : Int) (of_decide_eq_true ad) b5_; obtain rfl := k43_openM hM10; have HP10 := Kd.R_seg HX10.out (x5_1 : Int) (of_decide_eq_true ad) b5_ (seg := [.string t397]) (j := 0) hcl10 hcc10 (show 1 ≤ 2 from by decide) (x' := (⟨t397, (rd_T43 x0_1 x5_1).f1⟩ : S43)) (k43_mkM _ _ _ (⟨t397, (rd_T43 x0_1 x5_1).f1⟩ : S43) ) (fun _ hk => hk); have hx10_0 := hcc10 0 _ rfl; (try simp only [show (k43).sz = 2 from rfl, Nat.mul_one, Nat.add_zero] at hx10_0); have hf10_0 := hfr10 0; (try simp only [show (k43).sz = 2 from rfl, Nat.mul_one, Nat.add_zero] at hf10_0); clear hcl10 hcc10 hfr10; (try clear hM10)) | ((with_reducible refine gate_store (t := 9) (p := 17) rfl ?_); refine store_event (t := 9) (p := 17) (v := ?vo_w11) (w1 := (w9.setCell ⟨go6, (x5_1 : Int).toNat * 2, none⟩ (.string t397))) ?hg ?ho ?hn ?hr ?_; (case ho => rfl); (case hg => rfl); (case hn => rfl); (case hr => first | (go_simp; done) | (go_simp; rfl)); intro w11 hw; have hg : w9.grownBy w11 (some go6) := (by rw [hw]; exact HP10.2); have hp_ : Kd.R k43 43 w11 w0.heap.size (fun k_ => (P0_ k_ ∨ w.heap.size ≤ k_)) (.slice (some ⟨go6, 0, none⟩) x0_1.length co8) y398 := (by rw [hw, Ny398.out]; exact HP10.1); clear HP10; replace HB := am ((b23_ : Below w0.heap.size w0 w11)); replace HK := am (Kept.of_grown (S := (fun k_ => P0_ k_)) hg b3_ (fun k_ e_ => (HO_0.out.1 k_ e_))); replace HO_0 := am (hp_); clear hg hw hp_; have p7 : 0 ≤ (x5_1 : Int) := of_decide_eq_true ad; have q7 : (x5_1 : Int) < ((x0_1.length : Int) : Int) := of_decide_eq_true ad; obtain ⟨ce7, hcl7, hM7, hcc7, hfr7⟩ := Kd.R_elem HO_0.out z43 (x5_1 : Int) p7 q7; obtain rfl := k43_openM hM7; have hx7_0 : w11.cell? ⟨go6, (x5_1 : Int).toNat * 2, none⟩ = some (.string ((rd_T43 y398 x5_1).f0)) := hcc7 0 _ rfl; have hx7_1 : w11.cell? ⟨go6, (x5_1 : Int).toNat * 2 + 1, none⟩ = some (.int .i64 ((rd_T43 y398 x5_1).f1)) := hcc7 1 _ rfl; have hf7_0 : w11.frozen? ⟨go6, (x5_1 : Int).toNat * 2, none⟩ = false := hfr7 0; have hf7_1 : w11.frozen? ⟨go6, (x5_1 : Int).toNat * 2 + 1, none⟩ = false := hfr7 1; clear hcl7 hcc7 hfr7; (try clear hM7); replace p7 := eq_true p7; replace q7 := eq_true q7; have HX12 := am (show Kd.R k43 43 w11 w0.heap.size (fun k_ => (P0_ k_ ∨ w.heap.size ≤ k_)) (.slice (some ⟨go6, 0, none⟩) x0_1.length co8) y398 from (rq HO_0.out)); obtain ⟨ce12, hcl12, hM12, hcc12, hfr12⟩ := Kd.R_elem HX12.out z43 (x5_1 : Int) (of_decide_eq_true ad) b5_; obtain rfl := k43_openM hM12; have HP12 := Kd.R_seg HX12.out (x5_1 : Int) (of_decide_eq_true ad) b5_ (seg := [.int .i64 (wrap64 (x1_1 + 1))]) (j := 1) hcl12 hcc12 (show 2 ≤ 2 from by decide) (x' := (⟨(rd_T43 y398 x5_1).f0, wrap64 (x1_1 + 1)⟩ : S43)) (k43_mkM _ _ _ (⟨(rd_T43 y398 x5_1).f0, wrap64 (x1_1 + 1)⟩ : S43) ) (fun _ hk => hk); have hx12_1 := hcc12 1 _ rfl; (try simp only [show (k43).sz = 2 from rfl, Nat.mul_one, Nat.add_zero] at hx12_1); have hf12_1 := hfr12 1; (try simp only [show (k43).sz = 2 from rfl, Nat.mul_one, Nat.add_zero] at hf12_1); clear hcl12 hcc12 hfr12; (try clear hM12)) | ((with_reducible refine gate_store (t := 3) (p := 24) rfl ?_); refine store_event (t := 3) (p := 24) (v := ?vo_w13) (w1 := (w11.setCell ⟨go6, (x5_1 : Int).toNat * 2 + 1, none⟩ (.int .i64 (wrap64 (x1_1 + 1))))) ?hg ?ho ?hn ?hr ?_; (case ho => rfl); (case hg => rfl); (case hn => rfl); (case hr => first | (go_simp; done) | (go_simp; rfl)); intro w13 hw; have hg : w11.grownBy w13 (some go6) := (by rw [hw]; exact HP12.2); have hp_ : Kd.R k43 43 w13 w0.heap.size (fun k_ => (P0_ k_ ∨ w.heap.size ≤ k_)) (.slice (some ⟨go6, 0, none⟩) x0_1.length co8) y399 := (by rw [hw, Ny399.out]; exact HP12.1); clear HP12; replace HB := am ((b23_ : Below w0.heap.size w0 w13)); replace HK := am (Kept.of_grown (S := (fun k_ => P0_ k_)) hg b3_ (fun k_ e_ => (HO_0.out.1 k_ e_))); replace HO_0 := am (hp_); clear hg hw hp_))
    go_roundg k1
    case measure => have := HK1.out; omega
    case rel => exact ⟨(y399), (wrap64 ((wrap64 (x1_1 + 1)) + 1)), (wrap64 (x5_1 + 1)), sq, sq, H', ⟨b14_⟩, ⟨rq HO_0.out⟩, ⟨b3_⟩, ⟨bel⟩⟩
   rw [if_neg c3] at H; have c3b0 := decide_eq_false c3; clear c3
   simp only [Option.some.injEq, Prod.mk.injEq] at H
   obtain ⟨rfl, rfl⟩ := H; obtain ⟨Ao14, co14, eo14⟩ := Kd.R_slice HO_0.out; subst eo14; go_wp2; go_ret
   exact ⟨eq_, b33_, bel, b3_⟩

/-! ### laws_heldGuessS: function 13 -/
def laws_heldGuessS.l0 : Nat → List (S43) → Int → Int → Option (Int)
 | 0, _, _, _ => none
 | k + 1, x0, x1, x5 => if x5 < (x0.length : Int) then (if 0 ≤ x5 then ((laws_markText.f k x1).bind fun t401 => (if ((rd_T43 x0 x5).f0).toList = t401.toList then (if ((rd_T43 x0 x5).f1) = (wrap64 (x1 + 1)) then (laws_heldGuessS.l0 k x0 (wrap64 ((wrap64 (x1 + 1)) + 1)) (wrap64 (x5 + 1))) else (some (-1))) else (some (-1)))) else (none)) else (some x1)
def laws_heldGuessS.f (k : Nat) (l0 : List (S43)) (a1 : Int) : Option (Int) := laws_heldGuessS.l0 k l0 a1 0
def laws_heldGuessS.T4 : Bool × List (List Nat × List Nat) := (true, [([], []), ([], []), ([0, 1], [0, 1]), ([2], [2]), ([3], [3]), ([], []), ([5], [5]), ([4, 6], [4, 6])])
def laws_heldGuessS.B4 : List Nat := [0, 0, 3, 7, 15, 0, 32, 127]
theorem laws_heldGuessS.tab4 : rtab .any (opsOf Tryz.f13 4) = laws_heldGuessS.T4 := by kernel_rfl
theorem laws_heldGuessS.bits4 : waitsOk laws_heldGuessS.T4.2 laws_heldGuessS.B4 = true := by kernel_rfl
theorem laws_heldGuessS.calls (k : Nat) (A0 : Option Addr) (c0 : Nat) (l0 : List (S43)) (a1 : Int) (r : Int) (w : World) (hr0 : Kd.C k43 w A0 l0.length l0) (hc0 : l0.length ≤ c0) (h : laws_heldGuessS.f k l0 a1 = some r) :
  Calls Tryz.prog 13 #[.slice A0 l0.length c0, .int .i64 a1] w fun e w' => e = .returned (.int .i64 r) ∧ Below w.heap.size w w' := by
 have HR0 := am hr0; have HC0 := am hc0; clear hr0 hc0; have HB := am (Below.refl w.heap.size w)
 have H : (laws_heldGuessS.l0 k l0 a1 0) = some r := h
 clear h
 have H' := am H
 clear H; go_enter Tryz.func13, Tryz.ntmps13; go_wp2
 go_loopg [1, 5] k (fun kq v1 v5 w' => ∃ (x1_1 : Int) (x5_1 : Int), v1 = .int .i64 x1_1 ∧ v5 = .int .i64 x5_1 ∧ Aside0 (laws_heldGuessS.l0 kq l0 x1_1 x5_1 = some r) ∧ Aside0 (kq ≤ k) ∧ Aside0 (Below w.heap.size w w'))
 case atStart => exact ⟨(a1), (0), sq, sq, H', ⟨Nat.le_refl _⟩, ⟨bel⟩⟩
 case round =>
  clear H'; (try clear c1); (try clear p2); obtain ⟨x1_1, x5_1, rfl, rfl, HA, HK1, HB⟩ := hrel
  cases gk with
  | zero => exact absurd HA.out (by simp [laws_heldGuessS.l0])
  | succ k1 =>
   have H := HA.out; clear HA
   simp only [laws_heldGuessS.l0] at H
   by_cases c3 : x5_1 < (l0.length : Int)
   ·rw [if_pos c3] at H; have c3b0 := decide_eq_true c3; clear c3
    replace H := it H; obtain ⟨c4b0, H⟩ := H; replace H := bs H; obtain ⟨t401, A50, H⟩ := H; replace H : (if ((rd_T43 l0 x5_1).f0).toList = t401.toList then (if ((rd_T43 l0 x5_1).f1) = (wrap64 (x1_1 + 1)) then (laws_heldGuessS.l0 k1 l0 (wrap64 ((wrap64 (x1_1 + 1)) + 1)) (wrap64 (x5_1 + 1))) else (some (-1))) else (some (-1))) = some r := H; have A5 := Aside0.mk A50; clear A50
    by_cases c6 : ((rd_T43 l0 x5_1).f0).toList = t401.toList
    ·rw [if_pos c6] at H
     have c6b0 : (((rd_T43 l0 x5_1).f0).toList == t401.toList) = true := beq_iff_eq.mpr c6
     have c6b1 : (((rd_T43 l0 x5_1).f0).toList != t401.toList) = false := bne_eq_false_iff_eq.mpr c6
     clear c6
     by_cases c7 : ((rd_T43 l0 x5_1).f1) = (wrap64 (x1_1 + 1))
     ·rw [if_pos c7] at H
      have c7b0 : (((rd_T43 l0 x5_1).f1) == (wrap64 (x1_1 + 1))) = true := beq_iff_eq.mpr c7
      have c7b1 : (((rd_T43 l0 x5_1).f1) != (wrap64 (x1_1 + 1))) = false := bne_eq_false_iff_eq.mpr c7
      clear c7
      have H' := am H
      clear H
      try go_wp2
      replace HB := am (below_drew1 HB.out)
      have p400 : 0 ≤ (x5_1 : Int) := of_decide_eq_true ad
      have q400 : x5_1 < (l0.length : Int) := of_decide_eq_true ad
      obtain ⟨ad400, e400, hx400_0, hx400_1⟩ := at_T43 HR0.out x5_1 p400 q400; have hw400_1 := hx400_1; have hw400_0 := hx400_0
      cases e400
      replace hx400_0 := kp HB.out hx400_0; replace hx400_1 := kp HB.out hx400_1; replace p400 := eq_true p400; replace q400 := eq_true q400
      refine st (n := 8) (S := fun w' => w'.cell? (ad400.add ((x5_1).toNat * 2)) = some (.string ((rd_T43 l0 x5_1).f0)) ∧ w'.cell? ⟨(ad400.add ((x5_1).toNat * 2)).block, (ad400.add ((x5_1).toNat * 2)).off + 1, none⟩ = some (.int .i64 ((rd_T43 l0 x5_1).f1))) (ds := []) ⟨(kp HB.out hw400_0), (kp HB.out hw400_1)⟩ (fun hHeld => ?_); refine with_tabW laws_heldGuessS.tab4 laws_heldGuessS.bits4 (fun HT_ HW_ => ?_)
      generalize wr.drew = w8 at HB hx400_0 hx400_1 hHeld ⊢
      refine pu 0 12 ?_
      refine pu 1 13 ?_
      refine pu 2 14 ?_
      refine pu 3 15 ?_
      refine pu 5 17 ?_
      refine tk2 4 16 hHeld ?_
      refine on1 6 18 (fun K hK => ?_)
      refine goes_ Tryz.func36 (by kernel_rfl) rfl #[.int .i64 x1_1] (by rfl) rfl rfl mq ?_
      with_reducible refine (laws_markText.calls k1 x1_1 t401 _ A5.out).mono ?_
      rintro e w9 ⟨rfl, hb⟩
      refine ⟨_, rfl, ?_⟩
      replace HB := am (below_step bel hb)
      (try clear hb)
      (try clear hb2)
      (try clear hk)
      (try clear hi)
      refine hK.out _ _ ⟨(kp HB.out hw400_0), (kp HB.out hw400_1)⟩ (fun hHeld => ?_)
      clear hK K
      refine norm_ (a' := ?_) ?_ ?_
      rotate_left
      ·show Act.put _ (some 18) _ = _
       simp only [Act.put, List.setIfInBounds_toArray, List.set_cons_zero, List.set_cons_succ, i64_w, i32_w]
       rfl
      refine pu 7 19 ?_
      refine done_ (done_of HT_.out (by kernel_rfl)) ?_
      have p402 : 0 ≤ (x5_1 : Int) := of_decide_eq_true ad
      have q402 : x5_1 < (l0.length : Int) := of_decide_eq_true ad
      obtain ⟨ad402, e402, hx402_0, hx402_1⟩ := at_T43 HR0.out x5_1 p402 q402
      obtain rfl : ad400 = ad402 := (by injection e402)
      replace hx402_0 := kp HB.out hx402_0; replace hx402_1 := kp HB.out hx402_1; replace p402 := eq_true p402; replace q402 := eq_true q402
      try go_wp2
      go_roundg k1
      case measure => have := HK1.out; omega
      case rel => exact ⟨(wrap64 ((wrap64 (x1_1 + 1)) + 1)), (wrap64 (x5_1 + 1)), sq, sq, H', ⟨b14_⟩, ⟨bel⟩⟩
     rw [if_neg c7] at H
     have c7b0 : (((rd_T43 l0 x5_1).f1) == (wrap64 (x1_1 + 1))) = false := beq_eq_false_iff_ne.mpr c7
     have c7b1 : (((rd_T43 l0 x5_1).f1) != (wrap64 (x1_1 + 1))) = true := bne_iff_ne.mpr c7
     obtain rfl := Option.some.inj H
     try go_wp2
     replace HB := am (below_drew1 HB.out)
     have p400 : 0 ≤ (x5_1 : Int) := of_decide_eq_true ad
     have q400 : x5_1 < (l0.length : Int) := of_decide_eq_true ad
     obtain ⟨ad400, e400, hx400_0, hx400_1⟩ := at_T43 HR0.out x5_1 p400 q400; have hw400_1 := hx400_1; have hw400_0 := hx400_0
     cases e400
     replace hx400_0 := kp HB.out hx400_0; replace hx400_1 := kp HB.out hx400_1; replace p400 := eq_true p400; replace q400 := eq_true q400
     refine st (n := 8) (S := fun w' => w'.cell? (ad400.add ((x5_1).toNat * 2)) = some (.string ((rd_T43 l0 x5_1).f0)) ∧ w'.cell? ⟨(ad400.add ((x5_1).toNat * 2)).block, (ad400.add ((x5_1).toNat * 2)).off + 1, none⟩ = some (.int .i64 ((rd_T43 l0 x5_1).f1))) (ds := []) ⟨(kp HB.out hw400_0), (kp HB.out hw400_1)⟩ (fun hHeld => ?_); refine with_tabW laws_heldGuessS.tab4 laws_heldGuessS.bits4 (fun HT_ HW_ => ?_)
     generalize wr.drew = w10 at HB hx400_0 hx400_1 hHeld ⊢
     refine pu 0 12 ?_
     refine pu 1 13 ?_
     refine pu 2 14 ?_
     refine pu 3 15 ?_
     refine pu 5 17 ?_
     refine tk2 4 16 hHeld ?_
     refine on1 6 18 (fun K hK => ?_)
     refine goes_ Tryz.func36 (by kernel_rfl) rfl #[.int .i64 x1_1] (by rfl) rfl rfl mq ?_
     with_reducible refine (laws_markText.calls k1 x1_1 t401 _ A5.out).mono ?_
     rintro e w11 ⟨rfl, hb⟩
     refine ⟨_, rfl, ?_⟩
     replace HB := am (below_step bel hb)
     (try clear hb)
     (try clear hb2)
     (try clear hk)
     (try clear hi)
     refine hK.out _ _ ⟨(kp HB.out hw400_0), (kp HB.out hw400_1)⟩ (fun hHeld => ?_)
     clear hK K
     refine norm_ (a' := ?_) ?_ ?_
     rotate_left
     ·show Act.put _ (some 18) _ = _
      simp only [Act.put, List.setIfInBounds_toArray, List.set_cons_zero, List.set_cons_succ, i64_w, i32_w]
      rfl
     refine pu 7 19 ?_
     refine done_ (done_of HT_.out (by kernel_rfl)) ?_
     have p402 : 0 ≤ (x5_1 : Int) := of_decide_eq_true ad
     have q402 : x5_1 < (l0.length : Int) := of_decide_eq_true ad
     obtain ⟨ad402, e402, hx402_0, hx402_1⟩ := at_T43 HR0.out x5_1 p402 q402
     obtain rfl : ad400 = ad402 := (by injection e402)
     replace hx402_0 := kp HB.out hx402_0; replace hx402_1 := kp HB.out hx402_1; replace p402 := eq_true p402; replace q402 := eq_true q402
     try go_wp2
     go_ret
     exact ⟨eq_, bel⟩
    rw [if_neg c6] at H
    have c6b0 : (((rd_T43 l0 x5_1).f0).toList == t401.toList) = false := beq_eq_false_iff_ne.mpr c6
    have c6b1 : (((rd_T43 l0 x5_1).f0).toList != t401.toList) = true := bne_iff_ne.mpr c6
    obtain rfl := Option.some.inj H
    try go_wp2
    replace HB := am (below_drew1 HB.out)
    have p400 : 0 ≤ (x5_1 : Int) := of_decide_eq_true ad
    have q400 : x5_1 < (l0.length : Int) := of_decide_eq_true ad
    obtain ⟨ad400, e400, hx400_0, hx400_1⟩ := at_T43 HR0.out x5_1 p400 q400; have hw400_1 := hx400_1; have hw400_0 := hx400_0
    cases e400
    replace hx400_0 := kp HB.out hx400_0; replace hx400_1 := kp HB.out hx400_1; replace p400 := eq_true p400; replace q400 := eq_true q400
    refine st (n := 8) (S := fun w' => w'.cell? (ad400.add ((x5_1).toNat * 2)) = some (.string ((rd_T43 l0 x5_1).f0)) ∧ w'.cell? ⟨(ad400.add ((x5_1).toNat * 2)).block, (ad400.add ((x5_1).toNat * 2)).off + 1, none⟩ = some (.int .i64 ((rd_T43 l0 x5_1).f1))) (ds := []) ⟨(kp HB.out hw400_0), (kp HB.out hw400_1)⟩ (fun hHeld => ?_); refine with_tabW laws_heldGuessS.tab4 laws_heldGuessS.bits4 (fun HT_ HW_ => ?_)
    generalize wr.drew = w12 at HB hx400_0 hx400_1 hHeld ⊢
    refine pu 0 12 ?_
    refine pu 1 13 ?_
    refine pu 2 14 ?_
    refine pu 3 15 ?_
    refine pu 5 17 ?_
    refine tk2 4 16 hHeld ?_
    refine on1 6 18 (fun K hK => ?_)
    refine goes_ Tryz.func36 (by kernel_rfl) rfl #[.int .i64 x1_1] (by rfl) rfl rfl mq ?_
    with_reducible refine (laws_markText.calls k1 x1_1 t401 _ A5.out).mono ?_
    rintro e w13 ⟨rfl, hb⟩
    refine ⟨_, rfl, ?_⟩
    replace HB := am (below_step bel hb)
    (try clear hb)
    (try clear hb2)
    (try clear hk)
    (try clear hi)
    refine hK.out _ _ ⟨(kp HB.out hw400_0), (kp HB.out hw400_1)⟩ (fun hHeld => ?_)
    clear hK K
    refine norm_ (a' := ?_) ?_ ?_
    rotate_left
    ·show Act.put _ (some 18) _ = _
     simp only [Act.put, List.setIfInBounds_toArray, List.set_cons_zero, List.set_cons_succ, i64_w, i32_w]
     rfl
    refine pu 7 19 ?_
    refine done_ (done_of HT_.out (by kernel_rfl)) ?_
    try go_wp2
    go_ret
    exact ⟨eq_, bel⟩
   rw [if_neg c3] at H; have c3b0 := decide_eq_false c3; clear c3; obtain rfl := Option.some.inj H; go_wp2; go_ret
   exact ⟨eq_, bel⟩
end Go.Proofs.YtfpmfaelodfecaaGreatDoor.QFnExactCheck

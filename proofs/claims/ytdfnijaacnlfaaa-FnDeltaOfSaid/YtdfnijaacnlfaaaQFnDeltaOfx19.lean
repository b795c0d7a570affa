import Derived.Test.YtdfnijaacnlfaaaQFnDeltaOfx0
import Derived.Test.YtdfnijaacnlfaaaVMSh2
import Derived.Test.YtdfnijaacnlfaaaQFnDeltaOfx7
import Derived.Test.YtdfnijaacnlfaaaQFnDeltaOfx11
namespace Go.Proofs.Ytdfnijaacnlfaaa.QFnDeltaOf
open Go.RowKit Go.Proofs.YtdfnijaacnlfaaaW.PrintWords Go.Proofs.YtdfnijaacnlfaaaW.PrintLast Go.Proofs.YtdfnijaacnlfaaaW.PrintMore Go.Proofs.Ytdfnijaacnlfaaa.Sh
attribute [local go_sem] max2_int min2_int max_two min_two max_three min_three max_four min_four
set_option linter.unusedVariables false
set_option linter.unusedSimpArgs false
set_option maxHeartbeats 8000000
set_option maxRecDepth 100000
-- shrunk

attribute [local go_sem high] eqA66 eqA73
/-! ### laws_mdBook: function 20 -/
mutual
def laws_mdBook.j0 : Nat → Bool → List (S73) → List (S66) → List (S73) → List (S66) → Option (Bool)
 | 0, _, _, _, _, _ => none
 | k + 1, x22, x451000, x451001, x452000, x452001 => if x22 = true then (some false) else (laws_mdBook.l0 k 0 x451000 x451001 x452000 x452001)
def laws_mdBook.l0 : Nat → Int → List (S73) → List (S66) → List (S73) → List (S66) → Option (Bool)
 | 0, _, _, _, _, _ => none
 | k + 1, x5, x451000, x451001, x452000, x452001 => if x5 < (x451000.length : Int) then (if 0 ≤ x5 then (if x5 < (x452000.length : Int) then (if (!((((rd_T73 x451000 x5).f0).toList) == (((rd_T73 x452000 x5).f0).toList)) || (!(((rd_T73 x451000 x5).f1) == ((rd_T73 x452000 x5).f1)) || (!((((rd_T73 x451000 x5).f2).toList) == (((rd_T73 x452000 x5).f2).toList)) || (!((((rd_T73 x451000 x5).f3).toList) == (((rd_T73 x452000 x5).f3).toList)) || (!((((rd_T73 x451000 x5).f4).toList) == (((rd_T73 x452000 x5).f4).toList))))))) = true then (some false) else (laws_mdBook.l0 k (wrap64 (x5 + 1)) x451000 x451001 x452000 x452001)) else (none)) else (none)) else (laws_mdBook.l1 k 0 x451000 x451001 x452000 x452001)
def laws_mdBook.l1 : Nat → Int → List (S73) → List (S66) → List (S73) → List (S66) → Option (Bool)
 | 0, _, _, _, _, _ => none
 | k + 1, x6, x451000, x451001, x452000, x452001 => if x6 < (x451001.length : Int) then (if 0 ≤ x6 then (if x6 < (x452001.length : Int) then (if (!((((rd_T66 x451001 x6).f0).toList) == (((rd_T66 x452001 x6).f0).toList)) || (!((((rd_T66 x451001 x6).f1).toList) == (((rd_T66 x452001 x6).f1).toList)))) = true then (some false) else (laws_mdBook.l1 k (wrap64 (x6 + 1)) x451000 x451001 x452000 x452001)) else (none)) else (none)) else (some true)
end
def laws_mdBook.f (k : Nat) (l0_0 : List (S73)) (l0_1 : List (S66)) (l1_0 : List (S73)) (l1_1 : List (S66)) : Option (Bool) := if (l0_0.length : Int) = (l1_0.length : Int) then (laws_mdBook.j0 k ((l0_1.length : Int) != (l1_1.length : Int)) l0_0 l0_1 l1_0 l1_1) else (laws_mdBook.j0 k true l0_0 l0_1 l1_0 l1_1)
theorem laws_mdBook.calls (k : Nat) (A0_0 : Option Addr) (c0_0 : Nat) (l0_0 : List (S73)) (A0_1 : Option Addr) (c0_1 : Nat) (l0_1 : List (S66)) (A1_0 : Option Addr) (c1_0 : Nat) (l1_0 : List (S73)) (A1_1 : Option Addr) (c1_1 : Nat) (l1_1 : List (S66)) (r : Bool) (w : World) (hr0_0 : Kd.C k73 w A0_0 l0_0.length l0_0) (hc0_0 : l0_0.length ≤ c0_0) (hr0_1 : Kd.C k66 w A0_1 l0_1.length l0_1) (hc0_1 : l0_1.length ≤ c0_1) (hr1_0 : Kd.C k73 w A1_0 l1_0.length l1_0) (hc1_0 : l1_0.length ≤ c1_0) (hr1_1 : Kd.C k66 w A1_1 l1_1.length l1_1) (hc1_1 : l1_1.length ≤ c1_1) (h : laws_mdBook.f k l0_0 l0_1 l1_0 l1_1 = some r) :
  Calls Try.prog 20 #[.agg #[.slice A0_0 l0_0.length c0_0, .slice A0_1 l0_1.length c0_1], .agg #[.slice A1_0 l1_0.length c1_0, .slice A1_1 l1_1.length c1_1]] w fun e w' => e = .returned (.bool r) ∧ Below w.heap.size w w' := by
 have hu34 := Try.underlying34; have hu73 := Try.underlying73; have hu66 := Try.underlying66; have HR0_0 := am hr0_0; have HC0_0 := am hc0_0; clear hr0_0 hc0_0; have HR0_1 := am hr0_1; have HC0_1 := am hc0_1; clear hr0_1 hc0_1; have HR1_0 := am hr1_0; have HC1_0 := am hc1_0; clear hr1_0 hc1_0; have HR1_1 := am hr1_1; have HC1_1 := am hc1_1; clear hr1_1 hc1_1; have HB := am (Below.refl w.heap.size w)
 have H := h; unfold laws_mdBook.f at H
 clear h; have HC3 := am H; clear H; go_enter Try.func20, Try.ntmps20
 go_upto_region 1 with (first | ((with_reducible refine gate_dst (N := 2) rfl ?_); ((refine gate_guard (by rfl) ?_; dsimp only)); refine bx 2 (cs := #[.slice A0_0 l0_0.length c0_0, .slice A0_1 l0_1.length c0_1]) (t := 34) ?_; intro gb450 hg w4 hbox hb; have BK450 := am (hbox); have GW450 := am ((b26_ : w.heap.size ≤ gb450)); have GE450 := am ((b26_ : w.heap.size ≤ gb450)); replace HB := am (below_step bel hb); clear hb hbox hg) | ((with_reducible refine gate_dst (N := 3) rfl ?_); ((refine gate_guard (by rfl) ?_; dsimp only)); refine bx 3 (cs := #[.slice A1_0 l1_0.length c1_0, .slice A1_1 l1_1.length c1_1]) (t := 34) ?_; intro gb451 hg w5 hbox hb; have BK451 := am (hbox); have GW451 := am ((b161_ : w.heap.size ≤ gb451)); have GE451 := am ((b161_ : w.heap.size ≤ gb451)); replace HB := am (below_step (bel1 GE450.out) hb); have NB450_451 := am ((b133_ : gb450 ≠ gb451)); have NB451_450 := am ((b134_ : gb451 ≠ gb450)); replace BK450 := am (blk_below (bq BK450.out) hb); clear hb hbox hg))
 go_cut [22] (fun v22 wc => ∃ (kq : Nat) (x22_2 : Bool), v22 = .bool x22_2 ∧ Aside0 (laws_mdBook.j0 kq x22_2 l0_0 l0_1 l1_0 l1_1 = some r) ∧ Aside0 (kq ≤ k) ∧ Aside0 (wc.heap[gb450]? = some (.cells #[(.slice A0_0 l0_0.length c0_0), (.slice A0_1 l0_1.length c0_1)] 34 (0, 0))) ∧ Aside0 (wc.heap[gb451]? = some (.cells #[(.slice A1_0 l1_0.length c1_0), (.slice A1_1 l1_1.length c1_1)] 34 (0, 0))) ∧ Aside0 (Below w.heap.size w wc))
 case first =>
  have H := HC3.out; clear HC3
  by_cases c6 : (l0_0.length : Int) = (l1_0.length : Int)
  ·rw [if_pos c6] at H
   have c6b0 : ((l0_0.length : Int) == (l1_0.length : Int)) = true := beq_iff_eq.mpr c6
   have c6b1 : ((l0_0.length : Int) != (l1_0.length : Int)) = false := bne_eq_false_iff_eq.mpr c6
   have c6b2 : (l0_0.length == l1_0.length) = true := by (simp at c6 ⊢; omega)
   clear c6
   (skip)
   have H' := am H
   clear H; have hnb7 := NB450_451.out; have hnc7 := NB451_450.out; have ⟨hcz8_0, hcz8_1, hfz8_0, hfz8_1⟩ := b2c BK450.out; have ⟨hcz9_0, hcz9_1, hfz9_0, hfz9_1⟩ := b2c BK451.out; go_wp2
   go_meet
   case rel => exact ⟨_, (((l0_1.length : Int) != (l1_1.length : Int))), sq, H', ⟨b81_⟩, ⟨bq BK450.out⟩, ⟨bq BK451.out⟩, ⟨bel2 GE450.out GE451.out⟩⟩
  rw [if_neg c6] at H
  have c6b0 : ((l0_0.length : Int) == (l1_0.length : Int)) = false := beq_eq_false_iff_ne.mpr c6
  have c6b1 : ((l0_0.length : Int) != (l1_0.length : Int)) = true := bne_iff_ne.mpr c6
  have c6b2 : (l0_0.length == l1_0.length) = false := by (simp at c6 ⊢; omega)
  (skip)
  have H' := am H
  clear H; have hnb10 := NB450_451.out; have hnc10 := NB451_450.out; have ⟨hcz11_0, hcz11_1, hfz11_0, hfz11_1⟩ := b2c BK450.out; have ⟨hcz12_0, hcz12_1, hfz12_0, hfz12_1⟩ := b2c BK451.out; go_wp2
  go_meet
  case rel => exact ⟨_, (true), sq, H', ⟨b81_⟩, ⟨bq BK450.out⟩, ⟨bq BK451.out⟩, ⟨bel2 GE450.out GE451.out⟩⟩
 case rest =>
  clear HC3; obtain ⟨kq, x22_2, rfl, HA, HJ2, BK450, BK451, HB⟩ := hcut
  cases kq with
  | zero => exact absurd HA.out (by simp [laws_mdBook.j0])
  | succ kj2 =>
   have H := HA.out; clear HA; simp only [laws_mdBook.j0] at H
   by_cases c13 : x22_2 = true
   ·subst c13
    rw [if_pos rfl] at H
    obtain rfl := Option.some.inj H; go_wp2
    go_ret
    exact ⟨eq_, bel2 GE450.out GE451.out⟩
   replace c13 := Bool.eq_false_iff.mpr c13; subst c13
   rw [if_neg Bool.false_ne_true] at H
   have H' := am H
   clear H; go_wp2
   go_loopg [5] kj2 (fun kq v5 w' => ∃ (x5_2 : Int), v5 = .int .i64 x5_2 ∧ Aside0 (laws_mdBook.l0 kq x5_2 l0_0 l0_1 l1_0 l1_1 = some r) ∧ Aside0 (kq ≤ kj2) ∧ Aside0 (w'.heap[gb450]? = some (.cells #[(.slice A0_0 l0_0.length c0_0), (.slice A0_1 l0_1.length c0_1)] 34 (0, 0))) ∧ Aside0 (w'.heap[gb451]? = some (.cells #[(.slice A1_0 l1_0.length c1_0), (.slice A1_1 l1_1.length c1_1)] 34 (0, 0))) ∧ Aside0 (Below w.heap.size w w'))
   case atStart => exact ⟨(0), sq, H', ⟨Nat.le_refl _⟩, ⟨bq BK450.out⟩, ⟨bq BK451.out⟩, ⟨bel2 GE450.out GE451.out⟩⟩
   case round =>
    clear H'; obtain ⟨x5_2, rfl, HA, HK2, BK450, BK451, HB⟩ := hrel
    cases gk with
    | zero => exact absurd HA.out (by simp [laws_mdBook.l0])
    | succ k2 =>
     have H := HA.out; clear HA; simp only [laws_mdBook.l0] at H
     by_cases c14 : x5_2 < (l0_0.length : Int)
     ·rw [if_pos c14] at H; have c14b0 := decide_eq_true c14; clear c14
      replace H := it H; obtain ⟨c15b0, H⟩ := H; replace H := it H; obtain ⟨c16b0, H⟩ := H
      by_cases c17 : (!((((rd_T73 l0_0 x5_2).f0).toList) == (((rd_T73 l1_0 x5_2).f0).toList)) || (!(((rd_T73 l0_0 x5_2).f1) == ((rd_T73 l1_0 x5_2).f1)) || (!((((rd_T73 l0_0 x5_2).f2).toList) == (((rd_T73 l1_0 x5_2).f2).toList)) || (!((((rd_T73 l0_0 x5_2).f3).toList) == (((rd_T73 l1_0 x5_2).f3).toList)) || (!((((rd_T73 l0_0 x5_2).f4).toList) == (((rd_T73 l1_0 x5_2).f4).toList))))))) = true
      ·rw [if_pos c17] at H
       have c17b0 : (!((((rd_T73 l0_0 x5_2).f0).toList) == (((rd_T73 l1_0 x5_2).f0).toList)) || (!(((rd_T73 l0_0 x5_2).f1) == ((rd_T73 l1_0 x5_2).f1)) || (!((((rd_T73 l0_0 x5_2).f2).toList) == (((rd_T73 l1_0 x5_2).f2).toList)) || (!((((rd_T73 l0_0 x5_2).f3).toList) == (((rd_T73 l1_0 x5_2).f3).toList)) || (!((((rd_T73 l0_0 x5_2).f4).toList) == (((rd_T73 l1_0 x5_2).f4).toList))))))) = true := c17
       clear c17; obtain rfl := Option.some.inj H; have hnb18 := NB450_451.out; have hnc18 := NB451_450.out; have ⟨hcz19_0, hcz19_1, hfz19_0, hfz19_1⟩ := b2c BK450.out
       have p452 : 0 ≤ (x5_2 : Int) := of_decide_eq_true ad
       have q452 : x5_2 < (l0_0.length : Int) := of_decide_eq_true ad
       obtain ⟨ad452, e452, hx452_0, hx452_1, hx452_2, hx452_3, hx452_4⟩ := at_T73 HR0_0.out x5_2 p452 q452; cases e452
       replace hx452_0 := kp HB.out hx452_0; replace hx452_1 := kp HB.out hx452_1; replace hx452_2 := kp HB.out hx452_2; replace hx452_3 := kp HB.out hx452_3; replace hx452_4 := kp HB.out hx452_4; replace p452 := eq_true p452; replace q452 := eq_true q452; have ⟨hcz20_0, hcz20_1, hfz20_0, hfz20_1⟩ := b2c BK451.out
       have p453 : 0 ≤ (x5_2 : Int) := of_decide_eq_true ad
       have q453 : x5_2 < (l1_0.length : Int) := of_decide_eq_true ad
       obtain ⟨ad453, e453, hx453_0, hx453_1, hx453_2, hx453_3, hx453_4⟩ := at_T73 HR1_0.out x5_2 p453 q453; cases e453
       replace hx453_0 := kp HB.out hx453_0; replace hx453_1 := kp HB.out hx453_1; replace hx453_2 := kp HB.out hx453_2; replace hx453_3 := kp HB.out hx453_3; replace hx453_4 := kp HB.out hx453_4; replace p453 := eq_true p453; replace q453 := eq_true q453; go_wp2
       repeat (go_quiet (fail); try go_wp2)
       go_ret
       exact ⟨eq_, bel2 GE450.out GE451.out⟩
      rw [if_neg c17] at H
      have c17b0 : (!((((rd_T73 l0_0 x5_2).f0).toList) == (((rd_T73 l1_0 x5_2).f0).toList)) || (!(((rd_T73 l0_0 x5_2).f1) == ((rd_T73 l1_0 x5_2).f1)) || (!((((rd_T73 l0_0 x5_2).f2).toList) == (((rd_T73 l1_0 x5_2).f2).toList)) || (!((((rd_T73 l0_0 x5_2).f3).toList) == (((rd_T73 l1_0 x5_2).f3).toList)) || (!((((rd_T73 l0_0 x5_2).f4).toList) == (((rd_T73 l1_0 x5_2).f4).toList))))))) = false := by simpa using c17
      clear c17
      have H' := am H
      clear H; have hnb21 := NB450_451.out; have hnc21 := NB451_450.out; have ⟨hcz22_0, hcz22_1, hfz22_0, hfz22_1⟩ := b2c BK450.out
      have p452 : 0 ≤ (x5_2 : Int) := of_decide_eq_true ad
      have q452 : x5_2 < (l0_0.length : Int) := of_decide_eq_true ad
      obtain ⟨ad452, e452, hx452_0, hx452_1, hx452_2, hx452_3, hx452_4⟩ := at_T73 HR0_0.out x5_2 p452 q452; cases e452
      replace hx452_0 := kp HB.out hx452_0; replace hx452_1 := kp HB.out hx452_1; replace hx452_2 := kp HB.out hx452_2; replace hx452_3 := kp HB.out hx452_3; replace hx452_4 := kp HB.out hx452_4; replace p452 := eq_true p452; replace q452 := eq_true q452; have ⟨hcz23_0, hcz23_1, hfz23_0, hfz23_1⟩ := b2c BK451.out
      have p453 : 0 ≤ (x5_2 : Int) := of_decide_eq_true ad
      have q453 : x5_2 < (l1_0.length : Int) := of_decide_eq_true ad
      obtain ⟨ad453, e453, hx453_0, hx453_1, hx453_2, hx453_3, hx453_4⟩ := at_T73 HR1_0.out x5_2 p453 q453; cases e453
      replace hx453_0 := kp HB.out hx453_0; replace hx453_1 := kp HB.out hx453_1; replace hx453_2 := kp HB.out hx453_2; replace hx453_3 := kp HB.out hx453_3; replace hx453_4 := kp HB.out hx453_4; replace p453 := eq_true p453; replace q453 := eq_true q453; go_wp2
      repeat (go_quiet (fail); try go_wp2)
      go_roundg k2
      case measure => have := HJ2.out; have := HK2.out; omega
      case rel => exact ⟨(wrap64 (x5_2 + 1)), sq, H', ⟨b166_⟩, ⟨bq BK450.out⟩, ⟨bq BK451.out⟩, ⟨bel2 GE450.out GE451.out⟩⟩
     rw [if_neg c14] at H; have c14b0 := decide_eq_false c14; clear c14
     have H' := am H
     clear H; have hnb24 := NB450_451.out; have hnc24 := NB451_450.out; have ⟨hcz25_0, hcz25_1, hfz25_0, hfz25_1⟩ := b2c BK450.out; go_wp2
     go_loopg [6] k2 (fun kq v6 w' => ∃ (x6_3 : Int), v6 = .int .i64 x6_3 ∧ Aside0 (laws_mdBook.l1 kq x6_3 l0_0 l0_1 l1_0 l1_1 = some r) ∧ Aside0 (kq ≤ k2) ∧ Aside0 (w'.heap[gb450]? = some (.cells #[(.slice A0_0 l0_0.length c0_0), (.slice A0_1 l0_1.length c0_1)] 34 (0, 0))) ∧ Aside0 (w'.heap[gb451]? = some (.cells #[(.slice A1_0 l1_0.length c1_0), (.slice A1_1 l1_1.length c1_1)] 34 (0, 0))) ∧ Aside0 (Below w.heap.size w w'))
     case atStart => exact ⟨(0), sq, H', ⟨Nat.le_refl _⟩, ⟨bq BK450.out⟩, ⟨bq BK451.out⟩, ⟨bel2 GE450.out GE451.out⟩⟩
     case round =>
      clear H'; clear c14b0 hcz25_0 hcz25_1 hfz25_0 hfz25_1; obtain ⟨x6_3, rfl, HA, HK3, BK450, BK451, HB⟩ := hrel
      cases gk with
      | zero => exact absurd HA.out (by simp [laws_mdBook.l1])
      | succ k3 =>
       have H := HA.out; clear HA; simp only [laws_mdBook.l1] at H
       by_cases c26 : x6_3 < (l0_1.length : Int)
       ·rw [if_pos c26] at H; have c26b0 := decide_eq_true c26; clear c26
        replace H := it H; obtain ⟨c27b0, H⟩ := H; replace H := it H; obtain ⟨c28b0, H⟩ := H
        by_cases c29 : (!((((rd_T66 l0_1 x6_3).f0).toList) == (((rd_T66 l1_1 x6_3).f0).toList)) || (!((((rd_T66 l0_1 x6_3).f1).toList) == (((rd_T66 l1_1 x6_3).f1).toList)))) = true
        ·rw [if_pos c29] at H
         have c29b0 : (!((((rd_T66 l0_1 x6_3).f0).toList) == (((rd_T66 l1_1 x6_3).f0).toList)) || (!((((rd_T66 l0_1 x6_3).f1).toList) == (((rd_T66 l1_1 x6_3).f1).toList)))) = true := c29
         clear c29; obtain rfl := Option.some.inj H; have hnb30 := NB450_451.out; have hnc30 := NB451_450.out; have ⟨hcz31_0, hcz31_1, hfz31_0, hfz31_1⟩ := b2c BK450.out
         have p454 : 0 ≤ (x6_3 : Int) := of_decide_eq_true ad
         have q454 : x6_3 < (l0_1.length : Int) := of_decide_eq_true ad
         obtain ⟨ad454, e454, hx454_0, hx454_1⟩ := at_T66 HR0_1.out x6_3 p454 q454; cases e454
         replace hx454_0 := kp HB.out hx454_0; replace hx454_1 := kp HB.out hx454_1; replace p454 := eq_true p454; replace q454 := eq_true q454; have ⟨hcz32_0, hcz32_1, hfz32_0, hfz32_1⟩ := b2c BK451.out
         have p455 : 0 ≤ (x6_3 : Int) := of_decide_eq_true ad
         have q455 : x6_3 < (l1_1.length : Int) := of_decide_eq_true ad
         obtain ⟨ad455, e455, hx455_0, hx455_1⟩ := at_T66 HR1_1.out x6_3 p455 q455; cases e455
         replace hx455_0 := kp HB.out hx455_0; replace hx455_1 := kp HB.out hx455_1; replace p455 := eq_true p455; replace q455 := eq_true q455; go_wp2
         repeat (go_quiet (fail); try go_wp2)
         go_ret
         exact ⟨eq_, bel2 GE450.out GE451.out⟩
        rw [if_neg c29] at H
        have c29b0 : (!((((rd_T66 l0_1 x6_3).f0).toList) == (((rd_T66 l1_1 x6_3).f0).toList)) || (!((((rd_T66 l0_1 x6_3).f1).toList) == (((rd_T66 l1_1 x6_3).f1).toList)))) = false := by simpa using c29
        clear c29
        have H' := am H
        clear H; have hnb33 := NB450_451.out; have hnc33 := NB451_450.out; have ⟨hcz34_0, hcz34_1, hfz34_0, hfz34_1⟩ := b2c BK450.out
        have p454 : 0 ≤ (x6_3 : Int) := of_decide_eq_true ad
        have q454 : x6_3 < (l0_1.length : Int) := of_decide_eq_true ad
        obtain ⟨ad454, e454, hx454_0, hx454_1⟩ := at_T66 HR0_1.out x6_3 p454 q454; cases e454
        replace hx454_0 := kp HB.out hx454_0; replace hx454_1 := kp HB.out hx454_1; replace p454 := eq_true p454; replace q454 := eq_true q454; have ⟨hcz35_0, hcz35_1, hfz35_0, hfz35_1⟩ := b2c BK451.out
        have p455 : 0 ≤ (x6_3 : Int) := of_decide_eq_true ad
        have q455 : x6_3 < (l1_1.length : Int) := of_decide_eq_true ad
        obtain ⟨ad455, e455, hx455_0, hx455_1⟩ := at_T66 HR1_1.out x6_3 p455 q455; cases e455
        replace hx455_0 := kp HB.out hx455_0; replace hx455_1 := kp HB.out hx455_1; replace p455 := eq_true p455; replace q455 := eq_true q455; go_wp2
        repeat (go_quiet (fail); try go_wp2)
        go_roundg k3
        case measure => have := HJ2.out; have := HK2.out; have := HK3.out; omega
        case rel => exact ⟨(wrap64 (x6_3 + 1)), sq, H', ⟨b149_⟩, ⟨bq BK450.out⟩, ⟨bq BK451.out⟩, ⟨bel2 GE450.out GE451.out⟩⟩
       rw [if_neg c26] at H; have c26b0 := decide_eq_false c26; clear c26; obtain rfl := Option.some.inj H; have hnb36 := NB450_451.out; have hnc36 := NB451_450.out; have ⟨hcz37_0, hcz37_1, hfz37_0, hfz37_1⟩ := b2c BK450.out; go_wp2
       go_ret
       exact ⟨eq_, bel2 GE450.out GE451.out⟩

/-! ### laws_mdTexts: function 23 -/
def laws_mdTexts.l0 : Nat → List ByteArray → List ByteArray → Int → Option (Bool)
 | 0, _, _, _ => none
 | k + 1, x0, x1, x5 => if x5 < (x0.length : Int) then (if 0 ≤ x5 then (if x5 < (x1.length : Int) then (if (rdOf ByteArray.empty x0 x5).toList = (rdOf ByteArray.empty x1 x5).toList then (laws_mdTexts.l0 k x0 x1 (wrap64 (x5 + 1))) else (some false)) else (none)) else (none)) else (some true)
def laws_mdTexts.f (k : Nat) (l0 : List ByteArray) (l1 : List ByteArray) : Option (Bool) := if (l0.length : Int) = (l1.length : Int) then (laws_mdTexts.l0 k l0 l1 0) else (some false)
theorem laws_mdTexts.calls (k : Nat) (A0 : Option Addr) (c0 : Nat) (l0 : List ByteArray) (A1 : Option Addr) (c1 : Nat) (l1 : List ByteArray) (r : Bool) (w : World) (hr0 : Kd.C Kd.string w A0 l0.length l0) (hc0 : l0.length ≤ c0) (hr1 : Kd.C Kd.string w A1 l1.length l1) (hc1 : l1.length ≤ c1) (h : laws_mdTexts.f k l0 l1 = some r) :
  Calls Try.prog 23 #[.slice A0 l0.length c0, .slice A1 l1.length c1] w fun e w' => e = .returned (.bool r) ∧ Drawn0 w w' := by
 have HR0 := am hr0; have HC0 := am hc0; clear hr0 hc0; have HR1 := am hr1; have HC1 := am hc1; clear hr1 hc1
 have H := h; unfold laws_mdTexts.f at H
 clear h
 by_cases c3 : (l0.length : Int) = (l1.length : Int)
 ·rw [if_pos c3] at H
  have c3b0 : ((l0.length : Int) == (l1.length : Int)) = true := beq_iff_eq.mpr c3
  have c3b1 : ((l0.length : Int) != (l1.length : Int)) = false := bne_eq_false_iff_eq.mpr c3
  have c3b2 : (l0.length == l1.length) = true := b159_
  clear c3
  have H' := am H
  clear H; go_enter Try.func23, Try.ntmps23; go_wp2
  go_loopg [5] k (fun kq v5 w' => ∃ (x5_1 : Int), v5 = .int .i64 x5_1 ∧ Aside0 (laws_mdTexts.l0 kq l0 l1 x5_1 = some r) ∧ Aside0 (kq ≤ k) ∧ Drawn0 w w')
  case atStart => exact ⟨(0), sq, H', ⟨Nat.le_refl _⟩, dr⟩
  case round =>
   clear H'; clear c3b0 c3b1 c3b2; obtain ⟨x5_1, rfl, HA, HK1, ⟨m1, rfl⟩⟩ := hrel
   cases gk with
   | zero => exact absurd HA.out (by simp [laws_mdTexts.l0])
   | succ k1 =>
    have H := HA.out; clear HA; simp only [laws_mdTexts.l0] at H
    by_cases c4 : x5_1 < (l0.length : Int)
    ·rw [if_pos c4] at H; have c4b0 := decide_eq_true c4; clear c4
     replace H := it H; obtain ⟨c5b0, H⟩ := H; replace H := it H; obtain ⟨c6b0, H⟩ := H
     by_cases c7 : (rdOf ByteArray.empty l0 x5_1).toList = (rdOf ByteArray.empty l1 x5_1).toList
     ·rw [if_pos c7] at H
      have c7b0 : ((rdOf ByteArray.empty l0 x5_1).toList == (rdOf ByteArray.empty l1 x5_1).toList) = true := beq_iff_eq.mpr c7
      have c7b1 : ((rdOf ByteArray.empty l0 x5_1).toList != (rdOf ByteArray.empty l1 x5_1).toList) = false := bne_eq_false_iff_eq.mpr c7
      clear c7
      have H' := am H
      clear H
      have p456 : 0 ≤ (x5_1 : Int) := of_decide_eq_true ad
      have q456 : x5_1 < (l0.length : Int) := of_decide_eq_true ad
      obtain ⟨ad456, e456, hx456_0⟩ := Kd.at_string HR0.out x5_1 p456 q456; cases e456; replace p456 := eq_true p456; replace q456 := eq_true q456
      have p457 : 0 ≤ (x5_1 : Int) := of_decide_eq_true ad
      have q457 : x5_1 < (l1.length : Int) := of_decide_eq_true ad
      obtain ⟨ad457, e457, hx457_0⟩ := Kd.at_string HR1.out x5_1 p457 q457; cases e457
      replace p457 := eq_true p457; replace q457 := eq_true q457; go_wp2
      repeat (go_quiet (fail); try go_wp2)
      go_roundg k1
      case measure => have := HK1.out; omega
      case rel => exact ⟨(wrap64 (x5_1 + 1)), sq, H', ⟨b129_⟩, dr⟩
     rw [if_neg c7] at H
     have c7b0 : ((rdOf ByteArray.empty l0 x5_1).toList == (rdOf ByteArray.empty l1 x5_1).toList) = false := beq_eq_false_iff_ne.mpr c7
     have c7b1 : ((rdOf ByteArray.empty l0 x5_1).toList != (rdOf ByteArray.empty l1 x5_1).toList) = true := bne_iff_ne.mpr c7
     obtain rfl := Option.some.inj H
     have p456 : 0 ≤ (x5_1 : Int) := of_decide_eq_true ad
     have q456 : x5_1 < (l0.length : Int) := of_decide_eq_true ad
     obtain ⟨ad456, e456, hx456_0⟩ := Kd.at_string HR0.out x5_1 p456 q456; cases e456; replace p456 := eq_true p456; replace q456 := eq_true q456
     have p457 : 0 ≤ (x5_1 : Int) := of_decide_eq_true ad
     have q457 : x5_1 < (l1.length : Int) := of_decide_eq_true ad
     obtain ⟨ad457, e457, hx457_0⟩ := Kd.at_string HR1.out x5_1 p457 q457; cases e457
     replace p457 := eq_true p457; replace q457 := eq_true q457; go_wp2
     repeat (go_quiet (fail); try go_wp2)
     go_ret
     exact ⟨sq, dr⟩
    rw [if_neg c4] at H; have c4b0 := decide_eq_false c4; clear c4; obtain rfl := Option.some.inj H; go_wp2
    go_ret
    exact ⟨sq, dr⟩
 rw [if_neg c3] at H
 have c3b0 : ((l0.length : Int) == (l1.length : Int)) = false := beq_eq_false_iff_ne.mpr c3
 have c3b1 : ((l0.length : Int) != (l1.length : Int)) = true := bne_iff_ne.mpr c3
 have c3b2 : (l0.length == l1.length) = false := b159_
 obtain rfl := Option.some.inj H; go_enter Try.func23, Try.ntmps23; go_wp2
 go_ret
 exact ⟨sq, dr⟩

/-! ### laws_mdDelta: function 16 -/
def laws_mdDelta.f (k : Nat) (l0_0 : List ByteArray) (l0_1 : List (S66)) (a0_2 : Bool) (l0_3 : List (S73)) (l1_0 : List ByteArray) (l1_1 : List (S66)) (a1_2 : Bool) (l1_3 : List (S73)) : Option (Bool) := (laws_mdTexts.f k l0_0 l1_0).bind fun t460 => (if t460 = true then (if (a0_2 == a1_2) = true then ((laws_mdBook.f k l0_3 l0_1 l1_3 l1_1).bind fun t461 => (some t461)) else (some false)) else (some false))
theorem laws_mdDelta.calls (k : Nat) (A0_0 : Option Addr) (c0_0 : Nat) (l0_0 : List ByteArray) (A0_1 : Option Addr) (c0_1 : Nat) (l0_1 : List (S66)) (a0_2 : Bool) (A0_3 : Option Addr) (c0_3 : Nat) (l0_3 : List (S73)) (A1_0 : Option Addr) (c1_0 : Nat) (l1_0 : List ByteArray) (A1_1 : Option Addr) (c1_1 : Nat) (l1_1 : List (S66)) (a1_2 : Bool) (A1_3 : Option Addr) (c1_3 : Nat) (l1_3 : List (S73)) (r : Bool) (w : World) (hr0_0 : Kd.C Kd.string w A0_0 l0_0.length l0_0) (hc0_0 : l0_0.length ≤ c0_0) (hr0_1 : Kd.C k66 w A0_1 l0_1.length l0_1) (hc0_1 : l0_1.length ≤ c0_1) (hr0_3 : Kd.C k73 w A0_3 l0_3.length l0_3) (hc0_3 : l0_3.length ≤ c0_3) (hr1_0 : Kd.C Kd.string w A1_0 l1_0.length l1_0) (hc1_0 : l1_0.length ≤ c1_0) (hr1_1 : Kd.C k66 w A1_1 l1_1.length l1_1) (hc1_1 : l1_1.length ≤ c1_1) (hr1_3 : Kd.C k73 w A1_3 l1_3.length l1_3) (hc1_3 : l1_3.length ≤ c1_3) (h : laws_mdDelta.f k l0_0 l0_1 a0_2 l0_3 l1_0 l1_1 a1_2 l1_3 = some r) :
  Calls Try.prog 16 #[.agg #[.slice A0_0 l0_0.length c0_0, .slice A0_1 l0_1.length c0_1, .bool a0_2, .slice A0_3 l0_3.length c0_3], .agg #[.slice A1_0 l1_0.length c1_0, .slice A1_1 l1_1.length c1_1, .bool a1_2, .slice A1_3 l1_3.length c1_3]] w fun e w' => e = .returned (.bool r) ∧ Below w.heap.size w w' := by
 have hu31 := Try.underlying31; have hu34 := Try.underlying34; have HR0_0 := am hr0_0; have HC0_0 := am hc0_0; clear hr0_0 hc0_0; have HR0_1 := am hr0_1; have HC0_1 := am hc0_1; clear hr0_1 hc0_1; have HR0_3 := am hr0_3; have HC0_3 := am hc0_3; clear hr0_3 hc0_3; have HR1_0 := am hr1_0; have HC1_0 := am hc1_0; clear hr1_0 hc1_0; have HR1_1 := am hr1_1; have HC1_1 := am hc1_1; clear hr1_1 hc1_1; have HR1_3 := am hr1_3; have HC1_3 := am hc1_3; clear hr1_3 hc1_3; have HB := am (Below.refl w.heap.size w)
 have H := h; unfold laws_mdDelta.f at H
 clear h; replace H := bs H; obtain ⟨t460, A30, H⟩ := H; have A3 := Aside0.mk A30; clear A30
 by_cases c4 : t460 = true
 ·subst c4
  rw [if_pos rfl] at H
  by_cases c5 : (a0_2 == a1_2) = true
  ·rw [if_pos c5] at H
   have c5b0 : (a0_2 == a1_2) = true := c5
   (have c5b1 : decide (a0_2 = a1_2) = true := by simpa using c5)
   (have c5b2 : (a0_2 == a1_2) = true := by simpa using c5)
   clear c5; replace H := bs H; obtain ⟨t461, A60, H⟩ := H; have A6 := Aside0.mk A60; clear A60; obtain rfl := Option.some.inj H; go_enter Try.func16, Try.ntmps16
   go_wp2_with (first | ((with_reducible refine gate_dst (N := 2) rfl ?_); refine bx 2 (cs := #[.slice A0_0 l0_0.length c0_0, .slice A0_1 l0_1.length c0_1, .bool a0_2, .slice A0_3 l0_3.length c0_3]) (t := 31) ?_; intro gb458 hg w7 hbox hb; have BK458 := am (hbox); have GW458 := am ((b26_ : w.heap.size ≤ gb458)); have GE458 := am ((b26_ : w.heap.size ≤ gb458)); replace HB := am (below_step bel hb); clear hb hbox hg) | ((with_reducible refine gate_dst (N := 3) rfl ?_); refine bx 3 (cs := #[.slice A1_0 l1_0.length c1_0, .slice A1_1 l1_1.length c1_1, .bool a1_2, .slice A1_3 l1_3.length c1_3]) (t := 31) ?_; intro gb459 hg w8 hbox hb; have BK459 := am (hbox); have GW459 := am ((b162_ : w.heap.size ≤ gb459)); have GE459 := am ((b162_ : w.heap.size ≤ gb459)); replace HB := am (below_step (bel1 GE458.out) hb); have NB458_459 := am ((b120_ : gb458 ≠ gb459)); have NB459_458 := am ((b121_ : gb459 ≠ gb458)); replace BK458 := am (blk_below (bq BK458.out) hb); clear hb hbox hg; have hnb9 := NB458_459.out; have hnc9 := NB459_458.out; have ⟨hcz10_0, hcz10_1, hcz10_2, hcz10_3, hfz10_0, hfz10_1, hfz10_2, hfz10_3⟩ := b4c BK458.out; have ⟨hcz11_0, hcz11_1, hcz11_2, hcz11_3, hfz11_0, hfz11_1, hfz11_2, hfz11_3⟩ := b4c BK459.out) | ((with_reducible refine gate_callee (f := 23) rfl ?_); refine gl 9 Try.func23 #[.slice A0_0 l0_0.length c0_0, .slice A1_0 l1_0.length c1_0] ?_; (with_reducible refine (laws_mdTexts.calls k _ _ l0_0 _ _ l1_0 true _ ?side1 ?side2 ?side3 ?side4 A3.out).mono ?_); (case side1 => exact cq (Kd.C_below HR0_0.out HB.out)); (case side2 => exact HC0_0.out); (case side3 => exact cq (Kd.C_below HR1_0.out HB.out)); (case side4 => exact HC1_0.out); rintro e w' ⟨rfl, ⟨nd, rfl⟩⟩; refine ⟨_, rfl, ?_⟩) | (go_at_call 20; (with_reducible refine (laws_mdBook.calls k _ _ l0_3 _ _ l0_1 _ _ l1_3 _ _ l1_1 t461 _ ?side1 ?side2 ?side3 ?side4 ?side5 ?side6 ?side7 ?side8 A6.out).mono ?_); (case side1 => exact cq (Kd.C_below HR0_3.out (bel2 GE458.out GE459.out))); (case side2 => exact HC0_3.out); (case side3 => exact cq (Kd.C_below HR0_1.out (bel2 GE458.out GE459.out))); (case side4 => exact HC0_1.out); (case side5 => exact cq (Kd.C_below HR1_3.out (bel2 GE458.out GE459.out))); (case side6 => exact HC1_3.out); (case side7 => exact cq (Kd.C_below HR1_1.out (bel2 GE458.out GE459.out))); (case side8 => exact HC1_1.out); rintro e w12 ⟨rfl, hb⟩; replace BK458 := am (blk_below (bq BK458.out) hb); replace BK459 := am (blk_below (bq BK459.out) hb); replace HB := am (below_step (bel2 GE458.out GE459.out) hb); clear hb))
   go_ret
   exact ⟨eq_, bel2 GE458.out GE459.out⟩
  rw [if_neg c5] at H
  have c5b0 : (a0_2 == a1_2) = false := by simpa using c5
  (have c5b1 : decide (a0_2 = a1_2) = false := by simpa using c5)
  (have c5b2 : (a0_2 == a1_2) = false := by simpa using c5)
  (have c5b3 : ¬ (a0_2 = a1_2) := by simpa using c5)
  clear c5; obtain rfl := Option.some.inj H; go_enter Try.func16, Try.ntmps16
  go_wp2_with (first | ((with_reducible refine gate_dst (N := 2) rfl ?_); refine bx 2 (cs := #[.slice A0_0 l0_0.length c0_0, .slice A0_1 l0_1.length c0_1, .bool a0_2, .slice A0_3 l0_3.length c0_3]) (t := 31) ?_; intro gb458 hg w13 hbox hb; have BK458 := am (hbox); have GW458 := am ((b26_ : w.heap.size ≤ gb458)); have GE458 := am ((b26_ : w.heap.size ≤ gb458)); replace HB := am (below_step bel hb); clear hb hbox hg) | ((with_reducible refine gate_dst (N := 3) rfl ?_); refine bx 3 (cs := #[.slice A1_0 l1_0.length c1_0, .slice A1_1 l1_1.length c1_1, .bool a1_2, .slice A1_3 l1_3.length c1_3]) (t := 31) ?_; intro gb459 hg w14 hbox hb; have BK459 := am (hbox); have GW459 := am ((b162_ : w.heap.size ≤ gb459)); have GE459 := am ((b162_ : w.heap.size ≤ gb459)); replace HB := am (below_step (bel1 GE458.out) hb); have NB458_459 := am ((b120_ : gb458 ≠ gb459)); have NB459_458 := am ((b121_ : gb459 ≠ gb458)); replace BK458 := am (blk_below (bq BK458.out) hb); clear hb hbox hg; have hnb15 := NB458_459.out; have hnc15 := NB459_458.out; have ⟨hcz16_0, hcz16_1, hcz16_2, hcz16_3, hfz16_0, hfz16_1, hfz16_2, hfz16_3⟩ := b4c BK458.out; have ⟨hcz17_0, hcz17_1, hcz17_2, hcz17_3, hfz17_0, hfz17_1, hfz17_2, hfz17_3⟩ := b4c BK459.out) | ((with_reducible refine gate_callee (f := 23) rfl ?_); refine gl 9 Try.func23 #[.slice A0_0 l0_0.length c0_0, .slice A1_0 l1_0.length c1_0] ?_; (with_reducible refine (laws_mdTexts.calls k _ _ l0_0 _ _ l1_0 true _ ?side1 ?side2 ?side3 ?side4 A3.out).mono ?_); (case side1 => exact cq (Kd.C_below HR0_0.out HB.out)); (case side2 => exact HC0_0.out); (case side3 => exact cq (Kd.C_below HR1_0.out HB.out)); (case side4 => exact HC1_0.out); rintro e w' ⟨rfl, ⟨nd, rfl⟩⟩; refine ⟨_, rfl, ?_⟩))
  go_ret
  exact ⟨eq_, bel2 GE458.out GE459.out⟩
 replace c4 := Bool.eq_false_iff.mpr c4; subst c4
 rw [if_neg Bool.false_ne_true] at H
 obtain rfl := Option.some.inj H; go_enter Try.func16, Try.ntmps16
 go_wp2_with (first | ((with_reducible refine gate_dst (N := 2) rfl ?_); refine bx 2 (cs := #[.slice A0_0 l0_0.length c0_0, .slice A0_1 l0_1.length c0_1, .bool a0_2, .slice A0_3 l0_3.length c0_3]) (t := 31) ?_; intro gb458 hg w18 hbox hb; have BK458 := am (hbox); have GW458 := am ((b26_ : w.heap.size ≤ gb458)); have GE458 := am ((b26_ : w.heap.size ≤ gb458)); replace HB := am (below_step bel hb); clear hb hbox hg) | ((with_reducible refine gate_dst (N := 3) rfl ?_); refine bx 3 (cs := #[.slice A1_0 l1_0.length c1_0, .slice A1_1 l1_1.length c1_1, .bool a1_2, .slice A1_3 l1_3.length c1_3]) (t := 31) ?_; intro gb459 hg w19 hbox hb; have BK459 := am (hbox); have GW459 := am ((b162_ : w.heap.size ≤ gb459)); have GE459 := am ((b162_ : w.heap.size ≤ gb459)); replace HB := am (below_step (bel1 GE458.out) hb); have NB458_459 := am ((b120_ : gb458 ≠ gb459)); have NB459_458 := am ((b121_ : gb459 ≠ gb458)); replace BK458 := am (blk_below (bq BK458.out) hb); clear hb hbox hg; have hnb20 := NB458_459.out; have hnc20 := NB459_458.out; have ⟨hcz21_0, hcz21_1, hcz21_2, hcz21_3, hfz21_0, hfz21_1, hfz21_2, hfz21_3⟩ := b4c BK458.out; have ⟨hcz22_0, hcz22_1, hcz22_2, hcz22_3, hfz22_0, hfz22_1, hfz22_2, hfz22_3⟩ := b4c BK459.out) | ((with_reducible refine gate_callee (f := 23) rfl ?_); refine gl 9 Try.func23 #[.slice A0_0 l0_0.length c0_0, .slice A1_0 l1_0.length c1_0] ?_; (with_reducible refine (laws_mdTexts.calls k _ _ l0_0 _ _ l1_0 false _ ?side1 ?side2 ?side3 ?side4 A3.out).mono ?_); (case side1 => exact cq (Kd.C_below HR0_0.out HB.out)); (case side2 => exact HC0_0.out); (case side3 => exact cq (Kd.C_below HR1_0.out HB.out)); (case side4 => exact HC1_0.out); rintro e w' ⟨rfl, ⟨nd, rfl⟩⟩; refine ⟨_, rfl, ?_⟩))
 go_ret
 exact ⟨eq_, bel2 GE458.out GE459.out⟩
-- shrunk

/-! ### impl_wordsOk: function 60 -/
def impl_wordsOk.l0 : Nat → List ByteArray → Int → List ByteArray → Int → Int → Option (Bool)
 | 0, _, _, _, _, _ => none
 | k + 1, x0, x1, x7, x8, x9 => if x9 < x8 then (if 0 ≤ x9 then (if x9 < (x7.length : Int) then ((impl_WordOk.f k (rdOf ByteArray.empty x7 x9)).bind fun t463 => (if t463 = true then (if x9 > 0 then (if 0 ≤ (wrap64 (x9 - 1)) then (if (wrap64 (x9 - 1)) < (x0.length : Int) then (if ((Op.bytesLess ((rdOf ByteArray.empty x0 (wrap64 (x9 - 1))).toList) ((rdOf ByteArray.empty x7 x9).toList)) = true) then (impl_wordsOk.l0 k x0 x1 x7 x8 (wrap64 (x9 + 1))) else (some false)) else (none)) else (none)) else (impl_wordsOk.l0 k x0 x1 x7 x8 (wrap64 (x9 + 1)))) else (some false))) else (none)) else (none)) else (some (decide ((x0.length : Int) ≤ x1)))
def impl_wordsOk.f (k : Nat) (l0 : List ByteArray) (a1 : Int) : Option (Bool) := impl_wordsOk.l0 k l0 a1 l0 (l0.length : Int) 0
theorem impl_wordsOk.calls (k : Nat) (A0 : Option Addr) (c0 : Nat) (l0 : List ByteArray) (a1 : Int) (r : Bool) (w : World) (hr0 : Kd.C Kd.string w A0 l0.length l0) (hc0 : l0.length ≤ c0) (h : impl_wordsOk.f k l0 a1 = some r) :
  Calls Try.prog 60 #[.slice A0 l0.length c0, .int .i64 a1] w fun e w' => e = .returned (.bool r) ∧ Drawn0 w w' := by
 have HR0 := am hr0; have HC0 := am hc0; clear hr0 hc0
 have H := h; unfold impl_wordsOk.f at H
 clear h
 have H' := am H
 clear H; go_enter Try.func60, Try.ntmps60; go_wp2
 go_loopg [9] k (fun kq v9 w' => ∃ (x9_1 : Int), v9 = .int .i64 x9_1 ∧ Aside0 (impl_wordsOk.l0 kq l0 a1 l0 (l0.length : Int) x9_1 = some r) ∧ Aside0 (kq ≤ k) ∧ Drawn0 w w')
 case atStart => exact ⟨(0), sq, H', ⟨Nat.le_refl _⟩, dr⟩
 case round =>
  clear H'; obtain ⟨x9_1, rfl, HA, HK1, ⟨m1, rfl⟩⟩ := hrel
  cases gk with
  | zero => exact absurd HA.out (by simp [impl_wordsOk.l0])
  | succ k1 =>
   have H := HA.out; clear HA; simp only [impl_wordsOk.l0] at H
   by_cases c3 : x9_1 < (l0.length : Int)
   ·rw [if_pos c3] at H; have c3b0 := decide_eq_true c3; clear c3
    replace H := it H; obtain ⟨c4b0, H⟩ := H
    replace H := it H; obtain ⟨c5b0, H⟩ := H; replace H := bs H; obtain ⟨t463, A60, H⟩ := H; have A6 := Aside0.mk A60; clear A60
    by_cases c7 : t463 = true
    ·subst c7
     rw [if_pos rfl] at H
     by_cases c8 : x9_1 > 0
     ·rw [if_pos c8] at H; have c8b0 := decide_eq_true c8; clear c8; obtain ⟨ji9, hji9⟩ : ∃ j_ : Int, (wrap64 (x9_1 - 1)) = j_ := ⟨_, rfl⟩
      rw [hji9] at H
      have hji9w : (IntKind.i64.wrap (x9_1 - 1)) = ji9 := (i64_w _).trans hji9
      replace H := it H; obtain ⟨c10b0, H⟩ := H; replace H := it H; obtain ⟨c11b0, H⟩ := H
      by_cases c12 : ((Op.bytesLess ((rdOf ByteArray.empty l0 (ji9)).toList) ((rdOf ByteArray.empty l0 x9_1).toList)) = true)
      ·rw [if_pos c12] at H
       have c12b0 : (Op.bytesLess ((rdOf ByteArray.empty l0 (ji9)).toList) ((rdOf ByteArray.empty l0 x9_1).toList)) = true := c12
       clear c12
       have H' := am H
       clear H
       have p462 : 0 ≤ (x9_1 : Int) := of_decide_eq_true ad
       have q462 : x9_1 < (l0.length : Int) := of_decide_eq_true ad
       obtain ⟨ad462, e462, hx462_0⟩ := Kd.at_string HR0.out x9_1 p462 q462; cases e462; replace p462 := eq_true p462; replace q462 := eq_true q462
       go_wp2_with ((with_reducible refine gate_callee (f := 78) rfl ?_); refine gl 15 Try.func78 #[.string (rdOf ByteArray.empty l0 x9_1)] ?_; (with_reducible refine (impl_WordOk.calls k1 (rdOf ByteArray.empty l0 x9_1) true _ A6.out).mono ?_); rintro e w' ⟨rfl, ⟨nd, rfl⟩⟩; refine ⟨_, rfl, ?_⟩; have p464 : 0 ≤ ((ji9) : Int) := of_decide_eq_true ad; have q464 : (ji9) < (l0.length : Int) := of_decide_eq_true ad; obtain ⟨ad464, e464, hx464_0⟩ := Kd.at_string HR0.out (ji9) p464 q464; obtain rfl : ad462 = ad464 := (by injection e464); replace p464 := eq_true p464; replace q464 := eq_true q464)
       go_roundg k1
       case measure => have := HK1.out; omega
       case rel => exact ⟨(wrap64 (x9_1 + 1)), sq, H', ⟨b129_⟩, dr⟩
      rw [if_neg c12] at H
      have c12b0 : (Op.bytesLess ((rdOf ByteArray.empty l0 (ji9)).toList) ((rdOf ByteArray.empty l0 x9_1).toList)) = false := by simpa using c12
      clear c12; obtain rfl := Option.some.inj H
      have p462 : 0 ≤ (x9_1 : Int) := of_decide_eq_true ad
      have q462 : x9_1 < (l0.length : Int) := of_decide_eq_true ad
      obtain ⟨ad462, e462, hx462_0⟩ := Kd.at_string HR0.out x9_1 p462 q462; cases e462; replace p462 := eq_true p462; replace q462 := eq_true q462
      go_wp2_with ((with_reducible refine gate_callee (f := 78) rfl ?_); refine gl 15 Try.func78 #[.string (rdOf ByteArray.empty l0 x9_1)] ?_; (with_reducible refine (impl_WordOk.calls k1 (rdOf ByteArray.empty l0 x9_1) true _ A6.out).mono ?_); rintro e w' ⟨rfl, ⟨nd, rfl⟩⟩; refine ⟨_, rfl, ?_⟩; have p464 : 0 ≤ ((ji9) : Int) := of_decide_eq_true ad; have q464 : (ji9) < (l0.length : Int) := of_decide_eq_true ad; obtain ⟨ad464, e464, hx464_0⟩ := Kd.at_string HR0.out (ji9) p464 q464; obtain rfl : ad462 = ad464 := (by injection e464); replace p464 := eq_true p464; replace q464 := eq_true q464)
      go_ret
      exact ⟨by rfl, dr⟩
     rw [if_neg c8] at H; have c8b0 := decide_eq_false c8; clear c8
     have H' := am H
     clear H
     have p462 : 0 ≤ (x9_1 : Int) := of_decide_eq_true ad
     have q462 : x9_1 < (l0.length : Int) := of_decide_eq_true ad
     obtain ⟨ad462, e462, hx462_0⟩ := Kd.at_string HR0.out x9_1 p462 q462; cases e462; replace p462 := eq_true p462; replace q462 := eq_true q462
     go_wp2_with ((with_reducible refine gate_callee (f := 78) rfl ?_); refine gl 15 Try.func78 #[.string (rdOf ByteArray.empty l0 x9_1)] ?_; (with_reducible refine (impl_WordOk.calls k1 (rdOf ByteArray.empty l0 x9_1) true _ A6.out).mono ?_); rintro e w' ⟨rfl, ⟨nd, rfl⟩⟩; refine ⟨_, rfl, ?_⟩)
     go_roundg k1
     case measure => have := HK1.out; omega
     case rel => exact ⟨(wrap64 (x9_1 + 1)), sq, H', ⟨b129_⟩, dr⟩
    replace c7 := Bool.eq_false_iff.mpr c7; subst c7
    rw [if_neg Bool.false_ne_true] at H
    obtain rfl := Option.some.inj H
    have p462 : 0 ≤ (x9_1 : Int) := of_decide_eq_true ad
    have q462 : x9_1 < (l0.length : Int) := of_decide_eq_true ad
    obtain ⟨ad462, e462, hx462_0⟩ := Kd.at_string HR0.out x9_1 p462 q462; cases e462; replace p462 := eq_true p462; replace q462 := eq_true q462
    go_wp2_with ((with_reducible refine gate_callee (f := 78) rfl ?_); refine gl 15 Try.func78 #[.string (rdOf ByteArray.empty l0 x9_1)] ?_; (with_reducible refine (impl_WordOk.calls k1 (rdOf ByteArray.empty l0 x9_1) false _ A6.out).mono ?_); rintro e w' ⟨rfl, ⟨nd, rfl⟩⟩; refine ⟨_, rfl, ?_⟩)
    go_ret
    exact ⟨sq, dr⟩
   rw [if_neg c3] at H; have c3b0 := decide_eq_false c3; clear c3; obtain rfl := Option.some.inj H; go_wp2; go_ret
   exact ⟨sq, dr⟩

/-! ### impl_DeltaOk: function 19 -/
mutual
def impl_DeltaOk.j0 : Nat → Bool → List ByteArray → List (S66) → Bool → List (S73) → Option (Bool)
 | 0, _, _, _, _, _ => none
 | k + 1, x31, x466000, x466001, x466002, x466003 => if x31 = true then (some false) else (impl_DeltaOk.l0 k x466000 (x466000.length : Int) 0 x466000 x466001 x466002 x466003)
def impl_DeltaOk.l0 : Nat → List ByteArray → Int → Int → List ByteArray → List (S66) → Bool → List (S73) → Option (Bool)
 | 0, _, _, _, _, _, _, _ => none
 | k + 1, x33, x34, x35, x466000, x466001, x466002, x466003 => if x35 < x34 then (if 0 ≤ x35 then (if x35 < (x33.length : Int) then ((impl_entryAt.f x466001 (rdOf ByteArray.empty x33 x35)).bind fun t470 => (if t470 ≥ 0 then (some false) else (impl_DeltaOk.l0 k x33 x34 (wrap64 (x35 + 1)) x466000 x466001 x466002 x466003))) else (none)) else (none)) else (some true)
end
def impl_DeltaOk.f (k : Nat) (l0_0 : List ByteArray) (l0_1 : List (S66)) (a0_2 : Bool) (l0_3 : List (S73)) : Option (Bool) := (impl_wordsOk.f k l0_0 24).bind fun t466 => (if t466 = true then ((impl_entriesOk.f k l0_1).bind fun t467 => (if t467 = true then ((impl_affixesOk.f k l0_3).bind fun t468 => (if t468 = true then (if a0_2 = true then (impl_DeltaOk.j0 k false l0_0 l0_1 a0_2 l0_3) else (impl_DeltaOk.j0 k (decide ((l0_3.length : Int) > 0)) l0_0 l0_1 a0_2 l0_3)) else (impl_DeltaOk.j0 k true l0_0 l0_1 a0_2 l0_3))) else (impl_DeltaOk.j0 k true l0_0 l0_1 a0_2 l0_3))) else (impl_DeltaOk.j0 k true l0_0 l0_1 a0_2 l0_3))
theorem impl_DeltaOk.calls (k : Nat) (A0_0 : Option Addr) (c0_0 : Nat) (l0_0 : List ByteArray) (A0_1 : Option Addr) (c0_1 : Nat) (l0_1 : List (S66)) (a0_2 : Bool) (A0_3 : Option Addr) (c0_3 : Nat) (l0_3 : List (S73)) (r : Bool) (w : World) (hr0_0 : Kd.C Kd.string w A0_0 l0_0.length l0_0) (hc0_0 : l0_0.length ≤ c0_0) (hr0_1 : Kd.C k66 w A0_1 l0_1.length l0_1) (hc0_1 : l0_1.length ≤ c0_1) (hr0_3 : Kd.C k73 w A0_3 l0_3.length l0_3) (hc0_3 : l0_3.length ≤ c0_3) (h : impl_DeltaOk.f k l0_0 l0_1 a0_2 l0_3 = some r) :
  Calls Try.prog 19 #[.agg #[.slice A0_0 l0_0.length c0_0, .slice A0_1 l0_1.length c0_1, .bool a0_2, .slice A0_3 l0_3.length c0_3]] w fun e w' => e = .returned (.bool r) ∧ Below w.heap.size w w' := by
 have hu31 := Try.underlying31; have HR0_0 := am hr0_0; have HC0_0 := am hc0_0; clear hr0_0 hc0_0; have HR0_1 := am hr0_1; have HC0_1 := am hc0_1; clear hr0_1 hc0_1; have HR0_3 := am hr0_3; have HC0_3 := am hc0_3; clear hr0_3 hc0_3; have HB := am (Below.refl w.heap.size w)
 have H := h; unfold impl_DeltaOk.f at H
 clear h; have HC2 := am H; clear H; go_enter Try.func19, Try.ntmps19
 go_upto_region 1 with ((with_reducible refine gate_dst (N := 1) rfl ?_); ((refine gate_guard (by rfl) ?_; dsimp only)); refine bx 1 (cs := #[.slice A0_0 l0_0.length c0_0, .slice A0_1 l0_1.length c0_1, .bool a0_2, .slice A0_3 l0_3.length c0_3]) (t := 31) ?_; intro gb465 hg w3 hbox hb; have BK465 := am (hbox); have GW465 := am ((b26_ : w.heap.size ≤ gb465)); have GE465 := am ((b26_ : w.heap.size ≤ gb465)); replace HB := am (below_step bel hb); clear hb hbox hg)
 go_cut [31] (fun v31 wc => ∃ (kq : Nat) (x31_1 : Bool), v31 = .bool x31_1 ∧ Aside0 (impl_DeltaOk.j0 kq x31_1 l0_0 l0_1 a0_2 l0_3 = some r) ∧ Aside0 (kq ≤ k) ∧ Aside0 (wc.heap[gb465]? = some (.cells #[(.slice A0_0 l0_0.length c0_0), (.slice A0_1 l0_1.length c0_1), .bool a0_2, (.slice A0_3 l0_3.length c0_3)] 31 (0, 0))) ∧ Aside0 (Below w.heap.size w wc))
 case first =>
  have H := HC2.out; clear HC2; replace H := bs H; obtain ⟨t466, A40, H⟩ := H; have A4 := Aside0.mk A40; clear A40
  by_cases c5 : t466 = true
  ·subst c5
   rw [if_pos rfl] at H
   replace H := bs H; obtain ⟨t467, A60, H⟩ := H; have A6 := Aside0.mk A60; clear A60
   by_cases c7 : t467 = true
   ·subst c7
    rw [if_pos rfl] at H
    replace H := bs H; obtain ⟨t468, A80, H⟩ := H; have A8 := Aside0.mk A80; clear A80
    by_cases c9 : t468 = true
    ·subst c9
     rw [if_pos rfl] at H
     by_cases c10 : a0_2 = true
     ·subst c10
      rw [if_pos rfl] at H
      have H' := am H
      clear H; have ⟨hcz11_0, hcz11_1, hcz11_2, hcz11_3, hfz11_0, hfz11_1, hfz11_2, hfz11_3⟩ := b4c BK465.out
      go_wp2_with (first | ((with_reducible refine gate_callee (f := 60) rfl ?_); refine gl 7 Try.func60 #[.slice A0_0 l0_0.length c0_0, .int .i64 24] ?_; (with_reducible refine (impl_wordsOk.calls k _ _ l0_0 24 true _ ?side1 ?side2 A4.out).mono ?_); (case side1 => exact cq (Kd.C_below HR0_0.out HB.out)); (case side2 => exact HC0_0.out); rintro e w' ⟨rfl, ⟨nd, rfl⟩⟩; refine ⟨_, rfl, ?_⟩) | (go_at_call 61; (with_reducible refine (impl_entriesOk.calls k _ _ l0_1 true _ ?side1 ?side2 A6.out).mono ?_); (case side1 => exact cq (Kd.C_below HR0_1.out (bel1 GE465.out))); (case side2 => exact HC0_1.out); rintro e w12 ⟨rfl, hb⟩; replace BK465 := am (blk_below (bq BK465.out) hb); replace HB := am (below_step (bel1 GE465.out) hb); clear hb; have ⟨hcz13_0, hcz13_1, hcz13_2, hcz13_3, hfz13_0, hfz13_1, hfz13_2, hfz13_3⟩ := b4c BK465.out) | (go_at_call 62; (with_reducible refine (impl_affixesOk.calls k _ _ l0_3 true _ ?side1 ?side2 A8.out).mono ?_); (case side1 => exact cq (Kd.C_below HR0_3.out HB.out)); (case side2 => exact HC0_3.out); rintro e w14 ⟨rfl, hb⟩; replace BK465 := am (blk_below (bq BK465.out) hb); replace HB := am (below_step (bel1 GE465.out) hb); clear hb; have ⟨hcz15_0, hcz15_1, hcz15_2, hcz15_3, hfz15_0, hfz15_1, hfz15_2, hfz15_3⟩ := b4c BK465.out))
      go_meet
      case rel => exact ⟨_, (false), sq, H', ⟨b81_⟩, ⟨bq BK465.out⟩, ⟨bel1 GE465.out⟩⟩
     replace c10 := Bool.eq_false_iff.mpr c10; subst c10
     rw [if_neg Bool.false_ne_true] at H
     have H' := am H
     clear H; have ⟨hcz16_0, hcz16_1, hcz16_2, hcz16_3, hfz16_0, hfz16_1, hfz16_2, hfz16_3⟩ := b4c BK465.out
     go_wp2_with (first | ((with_reducible refine gate_callee (f := 60) rfl ?_); refine gl 7 Try.func60 #[.slice A0_0 l0_0.length c0_0, .int .i64 24] ?_; (with_reducible refine (impl_wordsOk.calls k _ _ l0_0 24 true _ ?side1 ?side2 A4.out).mono ?_); (case side1 => exact cq (Kd.C_below HR0_0.out HB.out)); (case side2 => exact HC0_0.out); rintro e w' ⟨rfl, ⟨nd, rfl⟩⟩; refine ⟨_, rfl, ?_⟩) | (go_at_call 61; (with_reducible refine (impl_entriesOk.calls k _ _ l0_1 true _ ?side1 ?side2 A6.out).mono ?_); (case side1 => exact cq (Kd.C_below HR0_1.out (bel1 GE465.out))); (case side2 => exact HC0_1.out); rintro e w17 ⟨rfl, hb⟩; replace BK465 := am (blk_below (bq BK465.out) hb); replace HB := am (below_step (bel1 GE465.out) hb); clear hb; have ⟨hcz18_0, hcz18_1, hcz18_2, hcz18_3, hfz18_0, hfz18_1, hfz18_2, hfz18_3⟩ := b4c BK465.out) | (go_at_call 62; (with_reducible refine (impl_affixesOk.calls k _ _ l0_3 true _ ?side1 ?side2 A8.out).mono ?_); (case side1 => exact cq (Kd.C_below HR0_3.out HB.out)); (case side2 => exact HC0_3.out); rintro e w19 ⟨rfl, hb⟩; replace BK465 := am (blk_below (bq BK465.out) hb); replace HB := am (below_step (bel1 GE465.out) hb); clear hb; have ⟨hcz20_0, hcz20_1, hcz20_2, hcz20_3, hfz20_0, hfz20_1, hfz20_2, hfz20_3⟩ := b4c BK465.out))
     go_meet
     case rel => exact ⟨_, (decide ((l0_3.length : Int) > 0)), sq, H', ⟨b81_⟩, ⟨bq BK465.out⟩, ⟨bel1 GE465.out⟩⟩
    replace c9 := Bool.eq_false_iff.mpr c9; subst c9
    rw [if_neg Bool.false_ne_true] at H
    have H' := am H
    clear H; have ⟨hcz21_0, hcz21_1, hcz21_2, hcz21_3, hfz21_0, hfz21_1, hfz21_2, hfz21_3⟩ := b4c BK465.out
    go_wp2_with (first | ((with_reducible refine gate_callee (f := 60) rfl ?_); refine gl 7 Try.func60 #[.slice A0_0 l0_0.length c0_0, .int .i64 24] ?_; (with_reducible refine (impl_wordsOk.calls k _ _ l0_0 24 true _ ?side1 ?side2 A4.out).mono ?_); (case side1 => exact cq (Kd.C_below HR0_0.out HB.out)); (case side2 => exact HC0_0.out); rintro e w' ⟨rfl, ⟨nd, rfl⟩⟩; refine ⟨_, rfl, ?_⟩) | (go_at_call 61; (with_reducible refine (impl_entriesOk.calls k _ _ l0_1 true _ ?side1 ?side2 A6.out).mono ?_); (case side1 => exact cq (Kd.C_below HR0_1.out (bel1 GE465.out))); (case side2 => exact HC0_1.out); rintro e w22 ⟨rfl, hb⟩; replace BK465 := am (blk_below (bq BK465.out) hb); replace HB := am (below_step (bel1 GE465.out) hb); clear hb; have ⟨hcz23_0, hcz23_1, hcz23_2, hcz23_3, hfz23_0, hfz23_1, hfz23_2, hfz23_3⟩ := b4c BK465.out) | (go_at_call 62; (with_reducible refine (impl_affixesOk.calls k _ _ l0_3 false _ ?side1 ?side2 A8.out).mono ?_); (case side1 => exact cq (Kd.C_below HR0_3.out HB.out)); (case side2 => exact HC0_3.out); rintro e w24 ⟨rfl, hb⟩; replace BK465 := am (blk_below (bq BK465.out) hb); replace HB := am (below_step (bel1 GE465.out) hb); clear hb))
    go_meet
    case rel => exact ⟨_, (true), sq, H', ⟨b81_⟩, ⟨bq BK465.out⟩, ⟨bel1 GE465.out⟩⟩
   replace c7 := Bool.eq_false_iff.mpr c7; subst c7
   rw [if_neg Bool.false_ne_true] at H
   have H' := am H
   clear H; have ⟨hcz25_0, hcz25_1, hcz25_2, hcz25_3, hfz25_0, hfz25_1, hfz25_2, hfz25_3⟩ := b4c BK465.out
   go_wp2_with (first | ((with_reducible refine gate_callee (f := 60) rfl ?_); refine gl 7 Try.func60 #[.slice A0_0 l0_0.length c0_0, .int .i64 24] ?_; (with_reducible refine (impl_wordsOk.calls k _ _ l0_0 24 true _ ?side1 ?side2 A4.out).mono ?_); (case side1 => exact cq (Kd.C_below HR0_0.out HB.out)); (case side2 => exact HC0_0.out); rintro e w' ⟨rfl, ⟨nd, rfl⟩⟩; refine ⟨_, rfl, ?_⟩) | (go_at_call 61; (with_reducible refine (impl_entriesOk.calls k _ _ l0_1 false _ ?side1 ?side2 A6.out).mono ?_); (case side1 => exact cq (Kd.C_below HR0_1.out (bel1 GE465.out))); (case side2 => exact HC0_1.out); rintro e w26 ⟨rfl, hb⟩; replace BK465 := am (blk_below (bq BK465.out) hb); replace HB := am (below_step (bel1 GE465.out) hb); clear hb))
   go_meet
   case rel => exact ⟨_, (true), sq, H', ⟨b81_⟩, ⟨bq BK465.out⟩, ⟨bel1 GE465.out⟩⟩
  replace c5 := Bool.eq_false_iff.mpr c5; subst c5
  rw [if_neg Bool.false_ne_true] at H
  have H' := am H
  clear H; have ⟨hcz27_0, hcz27_1, hcz27_2, hcz27_3, hfz27_0, hfz27_1, hfz27_2, hfz27_3⟩ := b4c BK465.out
  go_wp2_with ((with_reducible refine gate_callee (f := 60) rfl ?_); refine gl 7 Try.func60 #[.slice A0_0 l0_0.length c0_0, .int .i64 24] ?_; (with_reducible refine (impl_wordsOk.calls k _ _ l0_0 24 false _ ?side1 ?side2 A4.out).mono ?_); (case side1 => exact cq (Kd.C_below HR0_0.out HB.out)); (case side2 => exact HC0_0.out); rintro e w' ⟨rfl, ⟨nd, rfl⟩⟩; refine ⟨_, rfl, ?_⟩)
  go_meet
  case rel => exact ⟨_, (true), sq, H', ⟨b81_⟩, ⟨bq BK465.out⟩, ⟨bel1 GE465.out⟩⟩
 case rest =>
  clear HC2; obtain ⟨kq, x31_1, rfl, HA, HJ1, BK465, HB⟩ := hcut
  cases kq with
  | zero => exact absurd HA.out (by simp [impl_DeltaOk.j0])
  | succ kj1 =>
   have H := HA.out; clear HA; simp only [impl_DeltaOk.j0] at H
   by_cases c28 : x31_1 = true
   ·subst c28
    rw [if_pos rfl] at H
    obtain rfl := Option.some.inj H; go_wp2; go_ret
    exact ⟨eq_, bel1 GE465.out⟩
   replace c28 := Bool.eq_false_iff.mpr c28; subst c28
   rw [if_neg Bool.false_ne_true] at H
   have H' := am H
   clear H; have ⟨hcz29_0, hcz29_1, hcz29_2, hcz29_3, hfz29_0, hfz29_1, hfz29_2, hfz29_3⟩ := b4c BK465.out; go_wp2
   go_loopg [35] kj1 (fun kq v35 w' => ∃ (x35_2 : Int), v35 = .int .i64 x35_2 ∧ Aside0 (impl_DeltaOk.l0 kq l0_0 (l0_0.length : Int) x35_2 l0_0 l0_1 a0_2 l0_3 = some r) ∧ Aside0 (kq ≤ kj1) ∧ Aside0 (w'.heap[gb465]? = some (.cells #[(.slice A0_0 l0_0.length c0_0), (.slice A0_1 l0_1.length c0_1), .bool a0_2, (.slice A0_3 l0_3.length c0_3)] 31 (0, 0))) ∧ Aside0 (Below w.heap.size w w'))
   case atStart => exact ⟨(0), sq, H', ⟨Nat.le_refl _⟩, ⟨bq BK465.out⟩, ⟨bel1 GE465.out⟩⟩
   case round =>
    clear H'; clear hcz29_0 hcz29_1 hcz29_2 hcz29_3 hfz29_0 hfz29_1 hfz29_2 hfz29_3; obtain ⟨x35_2, rfl, HA, HK2, BK465, HB⟩ := hrel
    cases gk with
    | zero => exact absurd HA.out (by simp [impl_DeltaOk.l0])
    | succ k2 =>
     have H := HA.out; clear HA; simp only [impl_DeltaOk.l0] at H
     by_cases c30 : x35_2 < (l0_0.length : Int)
     ·rw [if_pos c30] at H; have c30b0 := decide_eq_true c30; clear c30
      replace H := it H; obtain ⟨c31b0, H⟩ := H
      replace H := it H; obtain ⟨c32b0, H⟩ := H; replace H := bs H; obtain ⟨t470, A330, H⟩ := H; have A33 := Aside0.mk A330; clear A330
      by_cases c34 : t470 ≥ 0
      ·rw [if_pos c34] at H; have c34b0 := decide_eq_true c34; clear c34; obtain rfl := Option.some.inj H
       have p469 : 0 ≤ (x35_2 : Int) := of_decide_eq_true ad
       have q469 : x35_2 < (l0_0.length : Int) := of_decide_eq_true ad
       obtain ⟨ad469, e469, hx469_0⟩ := Kd.at_string HR0_0.out x35_2 p469 q469; cases e469
       replace hx469_0 := kp HB.out hx469_0; replace p469 := eq_true p469; replace q469 := eq_true q469; have ⟨hcz35_0, hcz35_1, hcz35_2, hcz35_3, hfz35_0, hfz35_1, hfz35_2, hfz35_3⟩ := b4c BK465.out
       go_wp2_with ((with_reducible refine gate_callee (f := 39) rfl ?_); refine gl 42 Try.func39 #[.slice A0_1 l0_1.length c0_1, .string (rdOf ByteArray.empty l0_0 x35_2)] ?_; (with_reducible refine (impl_entryAt.calls _ _ l0_1 (rdOf ByteArray.empty l0_0 x35_2) t470 _ ?side1 ?side2 A33.out).mono ?_); (case side1 => exact cq (Kd.C_below HR0_1.out HB.out)); (case side2 => exact HC0_1.out); rintro e w36 ⟨rfl, hb⟩; refine ⟨_, rfl, ?_⟩; replace BK465 := am (blk_below (bq BK465.out) hb); replace HB := am (below_step (bel1 GE465.out) hb); clear hb)
       go_ret
       exact ⟨eq_, bel1 GE465.out⟩
      rw [if_neg c34] at H; have c34b0 := decide_eq_false c34; clear c34
      have H' := am H
      clear H
      have p469 : 0 ≤ (x35_2 : Int) := of_decide_eq_true ad
      have q469 : x35_2 < (l0_0.length : Int) := of_decide_eq_true ad
      obtain ⟨ad469, e469, hx469_0⟩ := Kd.at_string HR0_0.out x35_2 p469 q469; cases e469
      replace hx469_0 := kp HB.out hx469_0; replace p469 := eq_true p469; replace q469 := eq_true q469; have ⟨hcz37_0, hcz37_1, hcz37_2, hcz37_3, hfz37_0, hfz37_1, hfz37_2, hfz37_3⟩ := b4c BK465.out
      go_wp2_with ((with_reducible refine gate_callee (f := 39) rfl ?_); refine gl 42 Try.func39 #[.slice A0_1 l0_1.length c0_1, .string (rdOf ByteArray.empty l0_0 x35_2)] ?_; (with_reducible refine (impl_entryAt.calls _ _ l0_1 (rdOf ByteArray.empty l0_0 x35_2) t470 _ ?side1 ?side2 A33.out).mono ?_); (case side1 => exact cq (Kd.C_below HR0_1.out HB.out)); (case side2 => exact HC0_1.out); rintro e w38 ⟨rfl, hb⟩; refine ⟨_, rfl, ?_⟩; replace BK465 := am (blk_below (bq BK465.out) hb); replace HB := am (below_step (bel1 GE465.out) hb); clear hb)
      go_roundg k2
      case measure => have := HJ1.out; have := HK2.out; omega
      case rel => exact ⟨(wrap64 (x35_2 + 1)), sq, H', ⟨by have := HJ1.out; have := HK2.out; omega⟩, ⟨bq BK465.out⟩, ⟨bel1 GE465.out⟩⟩
     rw [if_neg c30] at H; have c30b0 := decide_eq_false c30; clear c30; obtain rfl := Option.some.inj H; go_wp2; go_ret
     exact ⟨eq_, bel1 GE465.out⟩
-- shrunk

/-! ### impl_cloneBook: function 57 -/
def impl_cloneBook.f (l0_0 : List (S73)) (l0_1 : List (S66)) : Option ((List (S73)) × (List (S66))) := (some (([] : List (S73)) : List (S73))).bind fun y473 => (if y473.length + l0_0.length < 1954687338268 then ((some (([] : List (S66)) : List (S66))).bind fun y479 => (if y479.length + l0_1.length < 4398046511104 then (some ((y473 ++ l0_0), (y479 ++ l0_1))) else (none))) else (none))
def impl_cloneBook.T1 : Bool × List (List Nat × List Nat) := (true, [([], []), ([], []), ([1], [1]), ([0, 2], [0, 2]), ([], []), ([], []), ([5], [5]), ([4, 6, 3], [4, 6]), ([3, 7], [3, 7]), ([8, 7, 0, 1, 2, 3, 4, 5, 6, 7, 8], [8])])
def impl_cloneBook.B1 : List Nat := [0, 0, 2, 7, 0, 0, 32, 127, 255, 511]
theorem impl_cloneBook.tab1 : rtab .any (opsOf Try.f57 1) = impl_cloneBook.T1 := by kernel_rfl
theorem impl_cloneBook.bits1 : waitsOk impl_cloneBook.T1.2 impl_cloneBook.B1 = true := by kernel_rfl
theorem impl_cloneBook.calls (A0_0 : Option Addr) (c0_0 : Nat) (l0_0 : List (S73)) (A0_1 : Option Addr) (c0_1 : Nat) (l0_1 : List (S66)) (r1 : List (S73)) (r2 : List (S66)) (w : World) (hr0_0 : Kd.C k73 w A0_0 l0_0.length l0_0) (hc0_0 : l0_0.length ≤ c0_0) (hr0_1 : Kd.C k66 w A0_1 l0_1.length l0_1) (hc0_1 : l0_1.length ≤ c0_1) (h : impl_cloneBook.f l0_0 l0_1 = some (r1, r2)) :
  Calls Try.prog 57 #[.agg #[.slice A0_0 l0_0.length c0_0, .slice A0_1 l0_1.length c0_1]] w fun e w' => ∃ v0_ v1_ : Value, e = .returned (.agg #[v0_, v1_]) ∧ Kd.R k73 73 w' w.heap.size (fun _ => True) v0_ r1 ∧ Kd.R k66 66 w' w.heap.size (fun _ => True) v1_ r2 ∧ Below w.heap.size w w' := by
 have hu34 := Try.underlying34; have HR0_0 := am hr0_0; have HC0_0 := am hc0_0; clear hr0_0 hc0_0; have HR0_1 := am hr0_1; have HC0_1 := am hc0_1; clear hr0_1 hc0_1; have HB := am (Below.refl w.heap.size w)
 have H := h; unfold impl_cloneBook.f at H
 clear h; obtain ⟨y473, hy473⟩ : ∃ y_ : List (S73), y_ = (([] : List (S73))) := ⟨_, rfl⟩
 replace H := bm H; rw [← hy473] at H
 have Ny473 := am hy473; clear hy473
 replace H := ip H; obtain ⟨c2, H⟩ := H; have LMc2 := Aside0.mk c2; clear c2; obtain ⟨y476, hy476⟩ : ∃ y_ : List (S73), y_ = (y473 ++ l0_0) := ⟨_, rfl⟩
 rw [← hy476] at H
 have Ny476 := am hy476; clear hy476; obtain ⟨y479, hy479⟩ : ∃ y_ : List (S66), y_ = (([] : List (S66))) := ⟨_, rfl⟩
 replace H := bm H; rw [← hy479] at H
 have Ny479 := am hy479; clear hy479
 replace H := ip H; obtain ⟨c3, H⟩ := H; have LMc3 := Aside0.mk c3; clear c3; obtain ⟨y482, hy482⟩ : ∃ y_ : List (S66), y_ = (y479 ++ l0_1) := ⟨_, rfl⟩
 rw [← hy482] at H
 have Ny482 := am hy482; clear hy482
 simp only [Option.some.injEq, Prod.mk.injEq] at H
 obtain ⟨rfl, rfl⟩ := H; go_enter Try.func57, Try.ntmps57
 try go_wp2_with (first | ((with_reducible refine gate_dst (N := 1) rfl ?_); refine bx 1 (cs := #[.slice A0_0 l0_0.length c0_0, .slice A0_1 l0_1.length c0_1]) (t := 34) ?_; intro gb471 hg w4 hbox hb; have BK471 := am (hbox); have GW471 := am ((b26_ : w.heap.size ≤ gb471)); have GE471 := am ((b26_ : w.heap.size ≤ gb471)); replace HB := am (below_step bel hb); clear hb hbox hg) | ((with_reducible refine gate_dst (N := 2) rfl ?_); refine bx 2 (cs := #[.slice none 0 0, .slice none 0 0]) (t := 34) ?_; intro gb472 hg w5 hbox hb; have BK472 := am (hbox); have GW472 := am ((by rw [hg]; exact (below_size (bel1 GE471.out)) : w.heap.size ≤ gb472)); have GE472 := am ((by rw [hg]; exact (below_size (bel1 GE471.out)) : w.heap.size ≤ gb472)); replace HB := am (below_step (bel1 GE471.out) hb); have NB471_472 := am ((by rw [hg]; exact Nat.ne_of_lt (blk_lt (g := gb471) (o := .cells #[.slice A0_0 l0_0.length c0_0, .slice A0_1 l0_1.length c0_1] 34 (0, 0)) (bq BK471.out)) : gb471 ≠ gb472)); have NB472_471 := am ((by rw [hg]; exact Nat.ne_of_gt (blk_lt (g := gb471) (o := .cells #[.slice A0_0 l0_0.length c0_0, .slice A0_1 l0_1.length c0_1] 34 (0, 0)) (bq BK471.out)) : gb472 ≠ gb471)); replace BK471 := am (blk_below (bq BK471.out) hb); clear hb hbox hg))
 replace BK471 := am (blk_drew BK471.out); replace BK472 := am (blk_drew BK472.out); replace HB := am (below_drew1 HB.out)
 refine st (n := 10) (S := fun w' => w'.cell? ⟨gb471, 0, none⟩ = some (.slice A0_0 l0_0.length c0_0) ∧ w'.cell? ⟨gb471, 1, none⟩ = some (.slice A0_1 l0_1.length c0_1)) (ds := []) ⟨bd BK471.out 0, bd BK471.out 1⟩ (fun hHeld => ?_); refine with_tabW impl_cloneBook.tab1 impl_cloneBook.bits1 (fun HT_ HW_ => ?_)
 generalize w5.drew = w6 at BK471 BK472 HB hHeld ⊢
 refine pu 1 4 ?_
 refine pu 5 8 ?_
 refine tk2 2 5 hHeld ?_
 refine tk2 6 9 hHeld ?_
 refine join_ (σ := Value × Value × Value) 3 #[true, true, true, true, true, true, true, false, false, false] (fun s_ => [(3, s_.1), (6, s_.2.1), (7, s_.2.2)]) (fun s_ w' => (w'.cell? ⟨gb471, 0, none⟩ = some (.slice A0_0 l0_0.length c0_0) ∧ w'.cell? ⟨gb471, 1, none⟩ = some (.slice A0_1 l0_1.length c0_1)) ∧ (Kd.R k73 73 w' w.heap.size (fun _ => True) s_.2.1 y476) ∧ (Kd.R k66 66 w' w.heap.size (fun _ => True) s_.2.2 y479) ∧ (w'.heap[gb471]? = some (.cells #[.slice A0_0 l0_0.length c0_0, .slice A0_1 l0_1.length c0_1] 34 (0, 0))) ∧ (w'.heap[gb472]? = some (.cells #[.slice none 0 0, .slice none 0 0] 34 (0, 0))) ∧ (Below w.heap.size w w')) ?_ ?_
 rotate_left
 ·intro hCont
  refine two_ (i := 0) (j := 4) (Ni := some 3) (Nj := some 7) #[true, true, true, false, false, true, true, false, false, false] #[false, true, true, false, true, true, true, false, false, false] rfl rfl rfl rfl (two_of HT_.out (by kernel_rfl)) (by decide) (by decide) (fun K hK => ?_) (fun K hK => ?_)
  ·skip
   refine Kd.R_lit_step k73 _ 73 ?hg (N := 3) ?hd (xs := ([] : List (S73))) (inner := []) (ok := fun _ => True) (okp := fun _ => True) ?hr ?hp (fun _ hk => hk) trivial (Below.refl _ _) (Nat.le_refl _) (by simp) ?_; (case hd => rfl); (case hg => rfl); (case hr => (go_simp; done)); (case hp => exact (Reps.none _ _))
   intro v474 w7 ho8 hb hg_ hnew_; clear hg_ hnew_
   (rw [← Ny473.out] at ho8)
   have HO475 := am (Kd.R_lower ho8 (below_size (bel2 GE471.out GE472.out))); replace BK471 := am (blk_below (bq BK471.out) hb); replace BK472 := am (blk_below (bq BK472.out) hb); replace HB := am (below_step (bel2 GE471.out GE472.out) hb); clear hb ho8; refine hK.out _ _ ⟨bd BK471.out 0, bd BK471.out 1⟩ (fun hHeld => ?_); clear hK K; refine nm 3 ?_
   refine two_ (i := 3) (j := 4) (Ni := some 6) (Nj := some 7) #[true, true, true, true, false, true, true, false, false, false] #[true, true, true, false, true, true, true, false, false, false] rfl rfl rfl rfl (two_of HT_.out (by kernel_rfl)) (by decide) (by decide) (fun K hK => ?_) (fun K hK => ?_)
   ·skip
    refine Kd.R_append_rows_step k73 (w0 := w) w.heap.size (by rfl) (.tmp 3) (.tmp 5) 29 73 (.agg #[(.string ⟨#[]⟩), (.bool false), (.string ⟨#[]⟩), (.string ⟨#[]⟩), (.string ⟨#[]⟩)]) 72 rfl Try.underlying29 info73 rfl (by decide) (by omega) v474 y473 l0_0 _ _ _ (fun _ => True) (fun _ => False) rfl rfl ?aO ?aR (fun _ _ h => h) (fun _ h => h.elim) ?aF ?aB ?aS ?aL ?_
    (case aR => exact cq (Kd.C_below HR0_0.out HB.out)); (case aB => exact (bel2 GE471.out GE472.out)); (case aF => exact (fun _ _ => trivial)); (case aO => exact (rq HO475.out)); (case aS => exact (below_size (bel2 GE471.out GE472.out))); (case aL => have := LMc2.out; omega); intro v477 w9 ho hb hg hat; rw [← Ny476.out] at ho
    replace BK471 := am (blk_grown (g := gb471) (o := .cells #[.slice A0_0 l0_0.length c0_0, .slice A0_1 l0_1.length c0_1] 34 (0, 0)) (bq BK471.out) hg (Kd.R_ne HO475.out BK471.out (by decide))); replace BK472 := am (blk_grown (g := gb472) (o := .cells #[.slice none 0 0, .slice none 0 0] 34 (0, 0)) (bq BK472.out) hg (Kd.R_ne HO475.out BK472.out (by decide))); replace HB := am (hb); have HO478 := am (ho); clear HO475; clear ho hb hg hat; refine hK.out _ _ ⟨bd BK471.out 0, bd BK471.out 1⟩ (fun hHeld => ?_); clear hK K; refine nm 6 ?_; refine on1 4 7 (fun K hK => ?_)
    refine Kd.R_lit_step k66 _ 66 ?hg (N := 7) ?hd (xs := ([] : List (S66))) (inner := []) (ok := fun _ => True) (okp := fun _ => True) ?hr ?hp (fun _ hk => hk) trivial (Below.refl _ _) (Nat.le_refl _) (by simp) ?_; (case hd => rfl); (case hg => rfl); (case hr => (go_simp; done)); (case hp => exact (Reps.none _ _))
    intro v480 w10 ho11 hb hg_ hnew_; clear hg_ hnew_
    (rw [← Ny479.out] at ho11)
    replace HO478 := am (Kd.R_below (rq HO478.out) hb); have HO481 := am (Kd.R_lower ho11 (below_size (bel2 GE471.out GE472.out))); replace BK471 := am (blk_below (bq BK471.out) hb); replace BK472 := am (blk_below (bq BK472.out) hb); replace HB := am (below_step (bel2 GE471.out GE472.out) hb); clear hb ho11; refine hK.out _ _ ⟨bd BK471.out 0, bd BK471.out 1⟩ (fun hHeld => ?_); clear hK K; refine nm 7 ?_; exact norm_ b53_ (hCont (v474, v477, v480) _ ⟨hHeld, (rq HO478.out), (rq HO481.out), (bq BK471.out), (bq BK472.out), (bel2 GE471.out GE472.out)⟩)
   ·skip
    refine Kd.R_lit_step k66 _ 66 ?hg (N := 7) ?hd (xs := ([] : List (S66))) (inner := []) (ok := fun _ => True) (okp := fun _ => True) ?hr ?hp (fun _ hk => hk) trivial (Below.refl _ _) (Nat.le_refl _) (by simp) ?_; (case hd => rfl); (case hg => rfl); (case hr => (go_simp; done)); (case hp => exact (Reps.none _ _))
    intro v480 w9 ho10 hb hg_ hnew_; clear hg_ hnew_
    (rw [← Ny479.out] at ho10)
    replace HO475 := am (Kd.R_below (rq HO475.out) hb); have HO481 := am (Kd.R_lower ho10 (below_size (bel2 GE471.out GE472.out))); replace BK471 := am (blk_below (bq BK471.out) hb); replace BK472 := am (blk_below (bq BK472.out) hb); replace HB := am (below_step (bel2 GE471.out GE472.out) hb); clear hb ho10; refine hK.out _ _ ⟨bd BK471.out 0, bd BK471.out 1⟩ (fun hHeld => ?_); clear hK K; refine nm 7 ?_; refine on1 3 6 (fun K hK => ?_)
    refine Kd.R_append_rows_step k73 (w0 := w) w.heap.size (by rfl) (.tmp 3) (.tmp 5) 29 73 (.agg #[(.string ⟨#[]⟩), (.bool false), (.string ⟨#[]⟩), (.string ⟨#[]⟩), (.string ⟨#[]⟩)]) 72 rfl Try.underlying29 info73 rfl (by decide) (by omega) v474 y473 l0_0 _ _ _ (fun _ => True) (fun _ => False) rfl rfl ?aO ?aR (fun _ _ h => h) (fun _ h => h.elim) ?aF ?aB ?aS ?aL ?_
    (case aR => exact cq (Kd.C_below HR0_0.out HB.out)); (case aB => exact (bel2 GE471.out GE472.out)); (case aF => exact (fun _ _ => trivial)); (case aO => exact (rq HO475.out)); (case aS => exact (below_size (bel2 GE471.out GE472.out))); (case aL => have := LMc2.out; omega); intro v477 w11 ho hb hg hat; rw [← Ny476.out] at ho
    replace BK471 := am (blk_grown (g := gb471) (o := .cells #[.slice A0_0 l0_0.length c0_0, .slice A0_1 l0_1.length c0_1] 34 (0, 0)) (bq BK471.out) hg (Kd.R_ne HO475.out BK471.out (by decide))); replace BK472 := am (blk_grown (g := gb472) (o := .cells #[.slice none 0 0, .slice none 0 0] 34 (0, 0)) (bq BK472.out) hg (Kd.R_ne HO475.out BK472.out (by decide))); replace HO481 := am (Kd.R_over' (rq HO481.out) (Kd.R_typed (rq HO475.out)) (by decide) hg); replace HB := am (hb); have HO478 := am (ho); clear HO475; clear ho hb hg hat; refine hK.out _ _ ⟨bd BK471.out 0, bd BK471.out 1⟩ (fun hHeld => ?_); clear hK K; refine nm 6 ?_; exact norm_ b53_ (hCont (v474, v477, v480) _ ⟨hHeld, (rq HO478.out), (rq HO481.out), (bq BK471.out), (bq BK472.out), (bel2 GE471.out GE472.out)⟩)
  ·skip
   refine Kd.R_lit_step k66 _ 66 ?hg (N := 7) ?hd (xs := ([] : List (S66))) (inner := []) (ok := fun _ => True) (okp := fun _ => True) ?hr ?hp (fun _ hk => hk) trivial (Below.refl _ _) (Nat.le_refl _) (by simp) ?_; (case hd => rfl); (case hg => rfl); (case hr => (go_simp; done)); (case hp => exact (Reps.none _ _))
   intro v480 w7 ho8 hb hg_ hnew_; clear hg_ hnew_
   (rw [← Ny479.out] at ho8)
   have HO481 := am (Kd.R_lower ho8 (below_size (bel2 GE471.out GE472.out))); replace BK471 := am (blk_below (bq BK471.out) hb); replace BK472 := am (blk_below (bq BK472.out) hb); replace HB := am (below_step (bel2 GE471.out GE472.out) hb); clear hb ho8; refine hK.out _ _ ⟨bd BK471.out 0, bd BK471.out 1⟩ (fun hHeld => ?_); clear hK K; refine nm 7 ?_; refine on1 0 3 (fun K hK => ?_)
   refine Kd.R_lit_step k73 _ 73 ?hg (N := 3) ?hd (xs := ([] : List (S73))) (inner := []) (ok := fun _ => True) (okp := fun _ => True) ?hr ?hp (fun _ hk => hk) trivial (Below.refl _ _) (Nat.le_refl _) (by simp) ?_; (case hd => rfl); (case hg => rfl); (case hr => (go_simp; done)); (case hp => exact (Reps.none _ _))
   intro v474 w9 ho10 hb hg_ hnew_; clear hg_ hnew_
   (rw [← Ny473.out] at ho10)
   replace HO481 := am (Kd.R_below (rq HO481.out) hb); have HO475 := am (Kd.R_lower ho10 (below_size (bel2 GE471.out GE472.out))); replace BK471 := am (blk_below (bq BK471.out) hb); replace BK472 := am (blk_below (bq BK472.out) hb); replace HB := am (below_step (bel2 GE471.out GE472.out) hb); clear hb ho10; refine hK.out _ _ ⟨bd BK471.out 0, bd BK471.out 1⟩ (fun hHeld => ?_); clear hK K; refine nm 3 ?_; refine on1 3 6 (fun K hK => ?_)
   refine Kd.R_append_rows_step k73 (w0 := w) w.heap.size (by rfl) (.tmp 3) (.tmp 5) 29 73 (.agg #[(.string ⟨#[]⟩), (.bool false), (.string ⟨#[]⟩), (.string ⟨#[]⟩), (.string ⟨#[]⟩)]) 72 rfl Try.underlying29 info73 rfl (by decide) (by omega) v474 y473 l0_0 _ _ _ (fun _ => True) (fun _ => False) rfl rfl ?aO ?aR (fun _ _ h => h) (fun _ h => h.elim) ?aF ?aB ?aS ?aL ?_
   (case aR => exact cq (Kd.C_below HR0_0.out HB.out)); (case aB => exact (bel2 GE471.out GE472.out)); (case aF => exact (fun _ _ => trivial)); (case aO => exact (rq HO475.out)); (case aS => exact (below_size (bel2 GE471.out GE472.out))); (case aL => have := LMc2.out; omega); intro v477 w11 ho hb hg hat; rw [← Ny476.out] at ho
   replace BK471 := am (blk_grown (g := gb471) (o := .cells #[.slice A0_0 l0_0.length c0_0, .slice A0_1 l0_1.length c0_1] 34 (0, 0)) (bq BK471.out) hg (Kd.R_ne HO475.out BK471.out (by decide))); replace BK472 := am (blk_grown (g := gb472) (o := .cells #[.slice none 0 0, .slice none 0 0] 34 (0, 0)) (bq BK472.out) hg (Kd.R_ne HO475.out BK472.out (by decide))); replace HO481 := am (Kd.R_over' (rq HO481.out) (Kd.R_typed (rq HO475.out)) (by decide) hg); replace HB := am (hb); have HO478 := am (ho); clear HO475; clear ho hb hg hat; refine hK.out _ _ ⟨bd BK471.out 0, bd BK471.out 1⟩ (fun hHeld => ?_); clear hK K; refine nm 6 ?_; exact norm_ b53_ (hCont (v474, v477, v480) _ ⟨hHeld, (rq HO478.out), (rq HO481.out), (bq BK471.out), (bq BK472.out), (bel2 GE471.out GE472.out)⟩)
 rintro ⟨v474, v477, v480⟩ w12 ⟨hS_, h0_, h1_, h2_, h3_, h4_⟩
 have n0_ : Aside0 (Kd.R k73 73 w12 w.heap.size (fun _ => True) v477 y476) := ⟨h0_⟩
 have n1_ : Aside0 (Kd.R k66 66 w12 w.heap.size (fun _ => True) v480 y479) := ⟨h1_⟩
 have n2_ : Aside0 (w12.heap[gb471]? = some (.cells #[.slice A0_0 l0_0.length c0_0, .slice A0_1 l0_1.length c0_1] 34 (0, 0))) := ⟨h2_⟩
 have n3_ : Aside0 (w12.heap[gb472]? = some (.cells #[.slice none 0 0, .slice none 0 0] 34 (0, 0))) := ⟨h3_⟩
 have n4_ : Aside0 (Below w.heap.size w w12) := ⟨h4_⟩
 clear BK471; clear BK472; clear HB; clear h0_ h1_ h2_ h3_ h4_; have HO478 := n0_; have HO481 := n1_; have BK471 := n2_; have BK472 := n3_; have HB := n4_; clear n0_ n1_ n2_ n3_ n4_
 have hHeld : w12.cell? ⟨gb471, 0, none⟩ = some (.slice A0_0 l0_0.length c0_0) ∧ w12.cell? ⟨gb471, 1, none⟩ = some (.slice A0_1 l0_1.length c0_1) := hS_
 refine norm_ (a' := ?_) ?_ ?_
 rotate_left
 ·simp only [putAll, Act.put, List.setIfInBounds_toArray, List.set_cons_zero, List.set_cons_succ]
  rfl
 refine on1 7 10 (fun K hK => ?_)
 refine Kd.R_append_rows_step k66 (w0 := w) w.heap.size (by rfl) (.tmp 7) (.tmp 9) 28 66 (.agg #[(.string ⟨#[]⟩), (.string ⟨#[]⟩)]) 32 rfl Try.underlying28 info66 rfl (by decide) (by omega) v480 y479 l0_1 _ _ _ (fun _ => True) (fun _ => False) rfl rfl ?aO ?aR (fun _ _ h => h) (fun _ h => h.elim) ?aF ?aB ?aS ?aL ?_
 (case aR => exact cq (Kd.C_below HR0_1.out HB.out)); (case aB => exact (bel2 GE471.out GE472.out)); (case aF => exact (fun _ _ => trivial)); (case aO => exact (rq HO481.out)); (case aS => exact (below_size (bel2 GE471.out GE472.out))); (case aL => have := LMc3.out; omega); intro v483 w13 ho hb hg hat; rw [← Ny482.out] at ho
 replace BK471 := am (blk_grown (g := gb471) (o := .cells #[.slice A0_0 l0_0.length c0_0, .slice A0_1 l0_1.length c0_1] 34 (0, 0)) (bq BK471.out) hg (Kd.R_ne HO481.out BK471.out (by decide)))
 replace BK472 := am (blk_grown (g := gb472) (o := .cells #[.slice none 0 0, .slice none 0 0] 34 (0, 0)) (bq BK472.out) hg (Kd.R_ne HO481.out BK472.out (by decide)))
 replace HO478 := am (Kd.R_over' (rq HO478.out) (Kd.R_typed (rq HO481.out)) (by decide) hg)
 replace HB := am (hb); have HO484 := am (ho); clear HO481; clear ho hb hg hat; obtain ⟨Ao14, co14, eo14⟩ := Kd.R_slice HO484.out
 (subst eo14)
 obtain ⟨Ao15, co15, eo15⟩ := Kd.R_slice HO478.out
 (subst eo15)
 refine hK.out _ _ ⟨bd BK471.out 0, bd BK471.out 1⟩ (fun hHeld => ?_)
 clear hK K
 refine nm 10 ?_
 refine pu 8 11 ?_
 refine one_ (i := 9) (N := none) #[true, true, true, true, true, true, true, true, true, true] rfl rfl (one_of HT_.out (by kernel_rfl)) (by decide) (fun K hK => ?_)
 have hs16 : w13.cell? ⟨gb472, 0, none⟩ = some (.slice none 0 0) := bd BK472.out 0
 have hfs16 := bf BK472.out 0; have hns16_0 := NB471_472.out; have hms16_0 := NB472_471.out
 have hs17 : w13.cell? ⟨gb472, 1, none⟩ = some (.slice none 0 0) := bd BK472.out 1
 have hfs17 := bf BK472.out 1; have hns17_0 := NB471_472.out; have hms17_0 := NB472_471.out
 refine skip_ (w1 := ?_) (by rfl) rfl ?_ ?_
 rotate_left
 ·go_simp
  rfl
 refine hK.out _ _ ⟨((cell_far (p := ⟨gb472, _, none⟩) NB471_472.out _).trans (((cell_far (p := ⟨gb472, _, none⟩) NB471_472.out _).trans (hHeld.1)))), ((cell_far (p := ⟨gb472, _, none⟩) NB471_472.out _).trans (((cell_far (p := ⟨gb472, _, none⟩) NB471_472.out _).trans (hHeld.2))))⟩ (fun hHeld => ?_)
 clear hK K
 refine done_ (done_of HT_.out (by kernel_rfl)) ?_
 try go_wp2
 refine bodyPost_ret (results_cell_row rfl _ _ gb472 34 #[.slice Ao15 y476.length co15, .slice Ao14 y482.length co14] (0, 0) _ rfl (by (with_reducible repeat (fail)); refine blk_put (cs := #[.slice Ao15 y476.length co15, .slice none 0 0]) ?_ 1 _ rfl; (with_reducible repeat (fail)); refine blk_put (cs := #[.slice none 0 0, .slice none 0 0]) ?_ 0 _ rfl; (with_reducible repeat (fail)); exact BK472.out) Try.underlying34 rfl (by kernel_rfl)) rfl ?_
 exact ⟨_, _, eq_, by (with_reducible repeat (fail)); exact Kd.R_mono (Kd.R_far (p := ⟨gb472, 1, none⟩) (Kd.R_far (p := ⟨gb472, 0, none⟩) (Kd.R_types HO478.out BK472.out (by decide)) (fun _ hk => hk.2) (.slice Ao15 y476.length co15)) (fun _ hk => hk.2) (.slice Ao14 y482.length co14)) (fun _ hk => trivial), by (with_reducible repeat (fail)); exact Kd.R_mono (Kd.R_far (p := ⟨gb472, 1, none⟩) (Kd.R_far (p := ⟨gb472, 0, none⟩) (Kd.R_types HO484.out BK472.out (by decide)) (fun _ hk => hk.2) (.slice Ao15 y476.length co15)) (fun _ hk => hk.2) (.slice Ao14 y482.length co14)) (fun _ hk => trivial), bel2 GE471.out GE472.out⟩

/-! ### slices_Index_string_string: function 95 -/
def slices_Index_string_string.l0 : Nat → List ByteArray → ByteArray → Int → Int → Option (Int)
 | 0, _, _, _, _ => none
 | k + 1, x0, x1, x7, x8 => if x8 < x7 then (if 0 ≤ x8 then (if x8 < (x0.length : Int) then (if x1.toList = (rdOf ByteArray.empty x0 x8).toList then (some x8) else (slices_Index_string_string.l0 k x0 x1 x7 (wrap64 (x8 + 1)))) else (none)) else (none)) else (some (-1))
def slices_Index_string_string.f (k : Nat) (l0 : List ByteArray) (a1 : ByteArray) : Option (Int) := slices_Index_string_string.l0 k l0 a1 (l0.length : Int) 0
theorem slices_Index_string_string.calls (k : Nat) (A0 : Option Addr) (c0 : Nat) (l0 : List ByteArray) (a1 : ByteArray) (r : Int) (w : World) (hr0 : Kd.C Kd.string w A0 l0.length l0) (hc0 : l0.length ≤ c0) (h : slices_Index_string_string.f k l0 a1 = some r) :
  Calls Try.prog 95 #[.slice A0 l0.length c0, .string a1] w fun e w' => e = .returned (.int .i64 r) ∧ Drawn0 w w' := by
 have HR0 := am hr0; have HC0 := am hc0; clear hr0 hc0
 have H := h; unfold slices_Index_string_string.f at H
 clear h
 have H' := am H
 clear H; go_enter Try.func95, Try.ntmps95; go_wp2
 go_loopg [8] k (fun kq v8 w' => ∃ (x8_1 : Int), v8 = .int .i64 x8_1 ∧ Aside0 (slices_Index_string_string.l0 kq l0 a1 (l0.length : Int) x8_1 = some r) ∧ Aside0 (kq ≤ k) ∧ Drawn0 w w')
 case atStart => exact ⟨(0), sq, H', ⟨Nat.le_refl _⟩, dr⟩
 case round =>
  clear H'; obtain ⟨x8_1, rfl, HA, HK1, ⟨m1, rfl⟩⟩ := hrel
  cases gk with
  | zero => exact absurd HA.out (by simp [slices_Index_string_string.l0])
  | succ k1 =>
   have H := HA.out; clear HA; simp only [slices_Index_string_string.l0] at H
   by_cases c3 : x8_1 < (l0.length : Int)
   ·rw [if_pos c3] at H; have c3b0 := decide_eq_true c3; clear c3
    replace H := it H; obtain ⟨c4b0, H⟩ := H; replace H := it H; obtain ⟨c5b0, H⟩ := H
    by_cases c6 : a1.toList = (rdOf ByteArray.empty l0 x8_1).toList
    ·rw [if_pos c6] at H
     have c6b0 : (a1.toList == (rdOf ByteArray.empty l0 x8_1).toList) = true := beq_iff_eq.mpr c6
     have c6b1 : (a1.toList != (rdOf ByteArray.empty l0 x8_1).toList) = false := bne_eq_false_iff_eq.mpr c6
     clear c6; obtain rfl := Option.some.inj H
     have p485 : 0 ≤ (x8_1 : Int) := of_decide_eq_true ad
     have q485 : x8_1 < (l0.length : Int) := of_decide_eq_true ad
     obtain ⟨ad485, e485, hx485_0⟩ := Kd.at_string HR0.out x8_1 p485 q485; cases e485
     replace p485 := eq_true p485; replace q485 := eq_true q485; go_wp2; go_ret
     exact ⟨sq, dr⟩
    rw [if_neg c6] at H
    have c6b0 : (a1.toList == (rdOf ByteArray.empty l0 x8_1).toList) = false := beq_eq_false_iff_ne.mpr c6
    have c6b1 : (a1.toList != (rdOf ByteArray.empty l0 x8_1).toList) = true := bne_iff_ne.mpr c6
    have H' := am H
    clear H
    have p485 : 0 ≤ (x8_1 : Int) := of_decide_eq_true ad
    have q485 : x8_1 < (l0.length : Int) := of_decide_eq_true ad
    obtain ⟨ad485, e485, hx485_0⟩ := Kd.at_string HR0.out x8_1 p485 q485; cases e485
    replace p485 := eq_true p485; replace q485 := eq_true q485; go_wp2
    go_roundg k1
    case measure => have := HK1.out; omega
    case rel => exact ⟨(wrap64 (x8_1 + 1)), sq, H', ⟨b129_⟩, dr⟩
   rw [if_neg c3] at H; have c3b0 := decide_eq_false c3; clear c3; obtain rfl := Option.some.inj H; go_wp2; go_ret
   exact ⟨sq, dr⟩

/-! ### slices_Contains_string_string: function 58 -/
def slices_Contains_string_string.f (k : Nat) (l0 : List ByteArray) (a1 : ByteArray) : Option (Bool) := (slices_Index_string_string.f k l0 a1).bind fun t486 => (some (decide (t486 ≥ 0)))
theorem slices_Contains_string_string.calls (k : Nat) (A0 : Option Addr) (c0 : Nat) (l0 : List ByteArray) (a1 : ByteArray) (r : Bool) (w : World) (hr0 : Kd.C Kd.string w A0 l0.length l0) (hc0 : l0.length ≤ c0) (h : slices_Contains_string_string.f k l0 a1 = some r) :
  Calls Try.prog 58 #[.slice A0 l0.length c0, .string a1] w fun e w' => e = .returned (.bool r) ∧ Drawn0 w w' := by
 have HR0 := am hr0; have HC0 := am hc0; clear hr0 hc0
 have H := h; unfold slices_Contains_string_string.f at H
 clear h; replace H := bs H; obtain ⟨t486, A30, H⟩ := H; have A3 := Aside0.mk A30; clear A30; obtain rfl := Option.some.inj H; go_enter Try.func58, Try.ntmps58
 go_wp2_with ((with_reducible refine gate_callee (f := 95) rfl ?_); refine gl 7 Try.func95 #[.slice A0 l0.length c0, .string a1] ?_; (with_reducible refine (slices_Index_string_string.calls k _ _ l0 a1 t486 _ ?side1 ?side2 A3.out).mono ?_); (case side1 => repeat (exact HR0.out)); (case side2 => exact HC0.out); rintro e w' ⟨rfl, ⟨nd, rfl⟩⟩; refine ⟨_, rfl, ?_⟩)
 go_ret
 exact ⟨sq, dr⟩

/-! ### cmp_isNaN_string: function 119 -/
def cmp_isNaN_string.f (a0 : ByteArray) : Option (Bool) := some (a0.toList != a0.toList)
theorem cmp_isNaN_string.calls (a0 : ByteArray) (r : Bool) (w : World) (h : cmp_isNaN_string.f a0 = some r) :
  Calls Try.prog 119 #[.string a0] w fun e w' => e = .returned (.bool r) ∧ Drawn0 w w' := by
 have H := h; unfold cmp_isNaN_string.f at H
 clear h; obtain rfl := Option.some.inj H; go_enter Try.func119, Try.ntmps119; go_wp2; go_ret
 exact ⟨sq, dr⟩

/-! ### cmp_Compare_string: function 98 -/
def cmp_Compare_string.f (a0 : ByteArray) (a1 : ByteArray) : Option (Int) := (cmp_isNaN_string.f a0).bind fun t487 => ((cmp_isNaN_string.f a1).bind fun t488 => (if t487 = true then (if t488 = true then (some 0) else (some (-1))) else (if t488 = true then (some 1) else (if (Op.bytesLess a0.toList a1.toList) = true then (some (-1)) else (if (Op.bytesLess a1.toList a0.toList) = true then (some 1) else (some 0))))))
theorem cmp_Compare_string.ne : ∀ {a b : List UInt8}, Op.bytesLess b a = true → (a == b) = false
 | [], [], h => by simp [Op.bytesLess] at h
 | [], _ :: _, h => by rfl
 | _ :: _, [], h => by rfl
 | x :: a, y :: b, h => by
  rw [List.cons_beq_cons]
  by_cases e : x = y
  ·subst e
   have h' : Op.bytesLess b a = true := by simpa [Op.bytesLess] using h
   rw [cmp_Compare_string.ne h', Bool.and_false]
  ·simp [e]
theorem cmp_Compare_string.eq : ∀ {a b : List UInt8}, Op.bytesLess a b = false → Op.bytesLess b a = false → (a == b) = true
 | [], [], _, _ => rfl
 | [], _ :: _, h, _ => by simp [Op.bytesLess] at h
 | _ :: _, [], _, h => by simp [Op.bytesLess] at h
 | x :: a, y :: b, h, h2 => by
  have e : x = y := by
   by_cases c : x < y
   ·simp [Op.bytesLess, c] at h
   ·by_cases c2 : y < x
    ·simp [Op.bytesLess, c2] at h2
    exact UInt8.le_antisymm (UInt8.not_lt.1 c2) (UInt8.not_lt.1 c)
  subst e
  rw [List.cons_beq_cons, cmp_Compare_string.eq (a := a) (b := b) (by simpa [Op.bytesLess] using h) (by simpa [Op.bytesLess] using h2)]
  simp
theorem cmp_Compare_string.calls (a0 : ByteArray) (a1 : ByteArray) (r : Int) (w : World) (h : cmp_Compare_string.f a0 a1 = some r) :
  Calls Try.prog 98 #[.string a0, .string a1] w fun e w' => e = .returned (.int .i64 r) ∧ Drawn0 w w' := by
 have H := h; unfold cmp_Compare_string.f at H
 clear h; replace H := bs H; obtain ⟨t487, A30, H⟩ := H; have A3 := Aside0.mk A30; clear A30; replace H := bs H; obtain ⟨t488, A40, H⟩ := H; have A4 := Aside0.mk A40; clear A40
 by_cases c5 : t487 = true
 ·subst c5
  rw [if_pos rfl] at H
  by_cases c6 : t488 = true
  ·subst c6
   rw [if_pos rfl] at H
   obtain rfl := Option.some.inj H; go_enter Try.func98, Try.ntmps98
   go_wp2_with (first | ((with_reducible refine gate_callee (f := 119) rfl ?_); refine gl 8 Try.func119 #[.string a0] ?_; (with_reducible refine (cmp_isNaN_string.calls a0 true _ A3.out).mono ?_); rintro e w' ⟨rfl, ⟨nd, rfl⟩⟩; refine ⟨_, rfl, ?_⟩) | ((with_reducible refine gate_callee (f := 119) rfl ?_); refine gl 10 Try.func119 #[.string a1] ?_; (with_reducible refine (cmp_isNaN_string.calls a1 true _ A4.out).mono ?_); rintro e w' ⟨rfl, ⟨nd, rfl⟩⟩; refine ⟨_, rfl, ?_⟩))
   go_ret
   exact ⟨sq, dr⟩
  replace c6 := Bool.eq_false_iff.mpr c6; subst c6
  rw [if_neg Bool.false_ne_true] at H
  obtain rfl := Option.some.inj H; go_enter Try.func98, Try.ntmps98
  go_wp2_with (first | ((with_reducible refine gate_callee (f := 119) rfl ?_); refine gl 8 Try.func119 #[.string a0] ?_; (with_reducible refine (cmp_isNaN_string.calls a0 true _ A3.out).mono ?_); rintro e w' ⟨rfl, ⟨nd, rfl⟩⟩; refine ⟨_, rfl, ?_⟩) | ((with_reducible refine gate_callee (f := 119) rfl ?_); refine gl 10 Try.func119 #[.string a1] ?_; (with_reducible refine (cmp_isNaN_string.calls a1 false _ A4.out).mono ?_); rintro e w' ⟨rfl, ⟨nd, rfl⟩⟩; refine ⟨_, rfl, ?_⟩))
  go_ret
  exact ⟨sq, dr⟩
 replace c5 := Bool.eq_false_iff.mpr c5; subst c5
 rw [if_neg Bool.false_ne_true] at H
 by_cases c7 : t488 = true
 ·subst c7
  rw [if_pos rfl] at H
  obtain rfl := Option.some.inj H; go_enter Try.func98, Try.ntmps98
  go_wp2_with (first | ((with_reducible refine gate_callee (f := 119) rfl ?_); refine gl 8 Try.func119 #[.string a0] ?_; (with_reducible refine (cmp_isNaN_string.calls a0 false _ A3.out).mono ?_); rintro e w' ⟨rfl, ⟨nd, rfl⟩⟩; refine ⟨_, rfl, ?_⟩) | ((with_reducible refine gate_callee (f := 119) rfl ?_); refine gl 10 Try.func119 #[.string a1] ?_; (with_reducible refine (cmp_isNaN_string.calls a1 true _ A4.out).mono ?_); rintro e w' ⟨rfl, ⟨nd, rfl⟩⟩; refine ⟨_, rfl, ?_⟩))
  go_ret
  exact ⟨sq, dr⟩
 replace c7 := Bool.eq_false_iff.mpr c7; subst c7
 rw [if_neg Bool.false_ne_true] at H
 by_cases c8 : (Op.bytesLess a0.toList a1.toList) = true
 ·rw [if_pos c8] at H
  have c8b0 : (Op.bytesLess a0.toList a1.toList) = true := c8
  clear c8; obtain rfl := Option.some.inj H; go_enter Try.func98, Try.ntmps98
  go_wp2_with (first | ((with_reducible refine gate_callee (f := 119) rfl ?_); refine gl 8 Try.func119 #[.string a0] ?_; (with_reducible refine (cmp_isNaN_string.calls a0 false _ A3.out).mono ?_); rintro e w' ⟨rfl, ⟨nd, rfl⟩⟩; refine ⟨_, rfl, ?_⟩) | ((with_reducible refine gate_callee (f := 119) rfl ?_); refine gl 10 Try.func119 #[.string a1] ?_; (with_reducible refine (cmp_isNaN_string.calls a1 false _ A4.out).mono ?_); rintro e w' ⟨rfl, ⟨nd, rfl⟩⟩; refine ⟨_, rfl, ?_⟩))
  go_ret
  exact ⟨sq, dr⟩
 rw [if_neg c8] at H
 have c8b0 : (Op.bytesLess a0.toList a1.toList) = false := by simpa using c8
 clear c8
 by_cases c9 : (Op.bytesLess a1.toList a0.toList) = true
 ·rw [if_pos c9] at H
  have c9b0 : (Op.bytesLess a1.toList a0.toList) = true := c9
  clear c9
  have c9e0 : (a0.toList == a1.toList) = false := cmp_Compare_string.ne c9b0
  obtain rfl := Option.some.inj H; go_enter Try.func98, Try.ntmps98
  go_wp2_with (first | ((with_reducible refine gate_callee (f := 119) rfl ?_); refine gl 8 Try.func119 #[.string a0] ?_; (with_reducible refine (cmp_isNaN_string.calls a0 false _ A3.out).mono ?_); rintro e w' ⟨rfl, ⟨nd, rfl⟩⟩; refine ⟨_, rfl, ?_⟩) | ((with_reducible refine gate_callee (f := 119) rfl ?_); refine gl 10 Try.func119 #[.string a1] ?_; (with_reducible refine (cmp_isNaN_string.calls a1 false _ A4.out).mono ?_); rintro e w' ⟨rfl, ⟨nd, rfl⟩⟩; refine ⟨_, rfl, ?_⟩))
  go_ret
  exact ⟨sq, dr⟩
 rw [if_neg c9] at H
 have c9b0 : (Op.bytesLess a1.toList a0.toList) = false := by simpa using c9
 clear c9
 have c9e0 : (a0.toList == a1.toList) = true := cmp_Compare_string.eq c8b0 c9b0
 obtain rfl := Option.some.inj H; go_enter Try.func98, Try.ntmps98
 go_wp2_with (first | ((with_reducible refine gate_callee (f := 119) rfl ?_); refine gl 8 Try.func119 #[.string a0] ?_; (with_reducible refine (cmp_isNaN_string.calls a0 false _ A3.out).mono ?_); rintro e w' ⟨rfl, ⟨nd, rfl⟩⟩; refine ⟨_, rfl, ?_⟩) | ((with_reducible refine gate_callee (f := 119) rfl ?_); refine gl 10 Try.func119 #[.string a1] ?_; (with_reducible refine (cmp_isNaN_string.calls a1 false _ A4.out).mono ?_); rintro e w' ⟨rfl, ⟨nd, rfl⟩⟩; refine ⟨_, rfl, ?_⟩))
 go_ret
 exact ⟨sq, dr⟩

/-! ### impl_Entry_96: function 96 -/

instance impl_Entry_96.inh : Inhabited S66 := ⟨z66⟩
-- @INJ slices_SortFunc_Entry
/-- What is behind: draws and new blocks alone. -/
def impl_Entry_96.cmp.Gr (w W : World) : Prop := ∃ q os', W = Go.Sort.grow (w.drewN q) os'
theorem impl_Entry_96.cmp.Gr.refl (w : World) : impl_Entry_96.cmp.Gr w w := ⟨0, #[], by rw [Go.Sort.grow_empty]; rfl⟩
theorem impl_Entry_96.cmp.Gr.drewN {w W : World} (h : impl_Entry_96.cmp.Gr w W) (n : Nat) : impl_Entry_96.cmp.Gr w (W.drewN n) := by
 obtain ⟨q, os, rfl⟩ := h
 exact ⟨q + n, os, by rw [← World.drewN_drewN]; rfl⟩
theorem impl_Entry_96.cmp.Gr.drew {w W : World} (h : impl_Entry_96.cmp.Gr w W) : impl_Entry_96.cmp.Gr w W.drew := h.drewN 1
theorem impl_Entry_96.cmp.Gr.alloc {w W : World} (h : impl_Entry_96.cmp.Gr w W) (o : Obj) : impl_Entry_96.cmp.Gr w (W.alloc o) := by
 obtain ⟨q, os, rfl⟩ := h
 exact ⟨q, os ++ #[o], by rw [Go.Sort.alloc_eq_grow, Go.Sort.grow_grow]⟩
def impl_Entry_96.cmp.f (a0_0 : ByteArray) (_a0_1 : ByteArray) (a1_0 : ByteArray) (_a1_1 : ByteArray) : Option Int := (cmp_Compare_string.f a0_0 a1_0).bind fun t249 => (some t249)
theorem impl_Entry_96.cmp.calls (a0_0 : ByteArray) (a0_1 : ByteArray) (a1_0 : ByteArray) (a1_1 : ByteArray) (r : Int) (w : World) (h : impl_Entry_96.cmp.f a0_0 a0_1 a1_0 a1_1 = some r) :
  Calls Try.prog 97 #[.agg #[.string a0_0, .string a0_1], .agg #[.string a1_0, .string a1_1]] w fun e w' => e = .returned (.int .i64 r) ∧ ∃ q os', w' = Go.Sort.grow (w.drewN q) os' := by
 obtain ⟨t, ht, e⟩ := Option.bind_eq_some_iff.mp h; obtain rfl := Option.some.inj e; clear h e; go_enter Try.func97, Try.ntmps97
 go_wp2_with (go_at_call 98; refine (cmp_Compare_string.calls a0_0 a1_0 _ _ ht).mono ?_; rintro e w' ⟨rfl, ⟨nd, rfl⟩⟩)
 go_ret
 refine ⟨rfl, ?_⟩
 exact (((impl_Entry_96.cmp.Gr.refl w).alloc _).alloc _).drewN _
/-- How two entries are ordered: by stem. -/
def impl_Entry_96.cf (x y : S66) : Int := if Op.bytesLess x.f0.toList y.f0.toList = true then -1 else if Op.bytesLess y.f0.toList x.f0.toList = true then 1 else 0
def impl_Entry_96.le (x y : S66) : Bool := !(ltOf impl_Entry_96.cf y x)
theorem impl_Entry_96.lt_iff (x y : S66) : ltOf impl_Entry_96.cf x y = true ↔ x.f0.toList < y.f0.toList := by
 unfold ltOf impl_Entry_96.cf
 simp only [bytesLess_eq, decide_eq_true_eq]
 by_cases h4 : x.f0.toList < y.f0.toList
 ·simp [h4]
 ·by_cases h5 : y.f0.toList < x.f0.toList <;> simp [h4, h5]
theorem impl_Entry_96.lf (x y : S66) : ltOf impl_Entry_96.cf x y = false ↔ ¬ x.f0.toList < y.f0.toList := by
 rw [← impl_Entry_96.lt_iff, Bool.not_eq_true]
theorem impl_Entry_96.swo : Go.Sort.SWO (ltOf impl_Entry_96.cf) where
 irrefl x := by
  rw [impl_Entry_96.lf]
  exact List.lt_irrefl _
 trans x y z h1 h2 := by
  rw [impl_Entry_96.lt_iff] at *
  exact List.lt_trans h1 h2
 ntrans x y z h1 h2 := by
  rw [impl_Entry_96.lf] at *
  exact List.not_lt.2 (List.le_trans (List.not_lt.1 h2) (List.not_lt.1 h1))
theorem impl_Entry_96.tot (x y : S66) (h1 : ltOf impl_Entry_96.cf x y = false) (h2 : ltOf impl_Entry_96.cf y x = false) : x.f0 = y.f0 := by
 rw [impl_Entry_96.lf] at *
 have b : x.f0.toList = y.f0.toList := List.le_antisymm (List.not_lt.1 h2) (List.not_lt.1 h1)
 rw [Lib.toList_data, Lib.toList_data] at b
 exact ByteArray.ext (Array.toList_inj.1 b)
theorem impl_Entry_96.order (x y : S66) : impl_Entry_96.cmp.f x.f0 x.f1 y.f0 y.f1 = some (impl_Entry_96.cf x y) := by
 have n2 : ∀ z : ByteArray, (z.toList != z.toList) = false := fun z => by simp
 unfold impl_Entry_96.cmp.f cmp_Compare_string.f cmp_isNaN_string.f impl_Entry_96.cf
 simp only [n2, Option.bind_some, Bool.false_eq_true, if_false]
 by_cases h4 : Op.bytesLess x.f0.toList y.f0.toList = true <;> by_cases h5 : Op.bytesLess y.f0.toList x.f0.toList = true <;> simp [h4, h5]
/-- Stems, each once: one list in order, and no other. -/
theorem impl_Entry_96.one (d d' : Array S66) (hn : (d.toList.map (·.f0)).Nodup) (hP : Go.Sort.PermIn 0 d.size d d') (hS : Go.Sort.SortedIn (ltOf impl_Entry_96.cf) 0 d.size d') : d'.toList = d.toList.mergeSort impl_Entry_96.le := by
 obtain ⟨hsz, _, hperm⟩ := hP
 have e1 : d'.extract 0 d.size = d' := by rw [← hsz]; exact Array.extract_size
 rw [e1, Array.extract_size] at hperm
 have hinj : ∀ x ∈ d.toList, ∀ y ∈ d.toList, x.f0 = y.f0 → x = y := by
  intro x hx y hy e; obtain ⟨i, hi, rfl⟩ := List.mem_iff_getElem.1 hx; obtain ⟨j, hj, rfl⟩ := List.mem_iff_getElem.1 hy
  have := (List.getElem_inj (xs := d.toList.map (·.f0)) (h₀ := by simpa using hi) (h₁ := by simpa using hj) hn).1 (by simpa using e)
  subst this; rfl
 refine List.Perm.eq_of_pairwise (le := fun x y => impl_Entry_96.le x y = true) ?_ ?_ ?_ (hperm.trans (List.mergeSort_perm _ _).symm)
 ·intro a b ha hb h1 h2
  simp only [impl_Entry_96.le, Bool.not_eq_true'] at h1 h2
  exact hinj a (hperm.mem_iff.1 ha) b ((List.mergeSort_perm _ _).mem_iff.1 hb) (impl_Entry_96.tot a b h2 h1)
 ·rw [List.pairwise_iff_getElem]
  intro i j hi hj hij
  have hi' : i < d'.size := by simpa using hi
  have hj' : j < d'.size := by simpa using hj
  have := hS i j (Nat.zero_le _) hij (by omega)
  rw [getElem!_pos d' j hj', getElem!_pos d' i hi'] at this
  simpa [impl_Entry_96.le] using this
 ·refine List.pairwise_mergeSort ?_ ?_ _
  ·intro a b c h1 h2
   simp only [impl_Entry_96.le, Bool.not_eq_true'] at h1 h2 ⊢
   exact impl_Entry_96.swo.ntrans c b a h2 h1
  ·intro a b
   simp only [impl_Entry_96.le]
   cases h : ltOf impl_Entry_96.cf b a with
   | false => simp
   | true => simp [impl_Entry_96.swo.asymmA h]
def impl_Entry_96.enc (x : S66) : List Value := [.string x.f0, .string x.f1]
def impl_Entry_96.fl (xs : List S66) : Array Value := Go.Sort.flatK impl_Entry_96.enc 2 xs.toArray
theorem impl_Entry_96.fl_size (xs : List S66) : (impl_Entry_96.fl xs).size = xs.length * 2 := by simp [impl_Entry_96.fl]
theorem impl_Entry_96.fl_get (xs : List S66) (j : Nat) (p : S66) (h : xs[j]? = some p) : ((impl_Entry_96.fl xs).toList.drop (j * 2)).take 2 = impl_Entry_96.enc p := by
 obtain ⟨hj, rfl⟩ := List.getElem?_eq_some_iff.1 h
 apply List.ext_getElem?
 intro t
 have e : ∀ t, t < 2 → (impl_Entry_96.fl xs)[j * 2 + t]! = (impl_Entry_96.enc xs[j])[t]! := fun t ht => by
  unfold impl_Entry_96.fl
  rw [Go.Sort.get_flatK _ _ _ _ (by simp; omega), show (j * 2 + t) / 2 = j by omega, show (j * 2 + t) % 2 = t by omega]
  simp [hj]
 rcases Nat.lt_or_ge t 2 with ht | ht
 ·rw [List.getElem?_take, if_pos ht, List.getElem?_drop, Array.getElem?_toList]
  have hs : j * 2 + t < (impl_Entry_96.fl xs).size := by rw [impl_Entry_96.fl_size]; omega
  have h2 := e t ht
  have h3 : t < (impl_Entry_96.enc xs[j]).length := by simpa [impl_Entry_96.enc] using ht
  rw [getElem!_pos (impl_Entry_96.fl xs) (j * 2 + t) hs, getElem!_pos (impl_Entry_96.enc xs[j]) t h3] at h2
  rw [Array.getElem?_eq_getElem hs, h2, List.getElem?_eq_getElem h3]
 ·rw [List.getElem?_eq_none (by simp; omega), List.getElem?_eq_none (by simp [impl_Entry_96.enc]; omega)]
theorem impl_Entry_96.reps (W : World) (base : Nat) (ok : Nat → Prop) (xs : List S66) : Reps (k66.M W base ok) 2 xs (impl_Entry_96.fl xs).toList :=
 ⟨by rw [Array.length_toList, impl_Entry_96.fl_size], fun j p h => by rw [impl_Entry_96.fl_get xs j p h]; exact k66_mkM W base ok p⟩
theorem impl_Entry_96.of_reps {W : World} {base : Nat} {ok : Nat → Prop} {xs : List S66} {cs : List Value} (h : Reps (k66.M W base ok) 2 xs cs) : cs = (impl_Entry_96.fl xs).toList := by
 apply List.ext_getElem?
 intro t
 rcases Nat.lt_or_ge t (xs.length * 2) with ht | ht
 ·have hj : t / 2 < xs.length := by omega
  have e1 := k66_openM (h.2 (t / 2) _ (List.getElem?_eq_getElem hj)); have e2 := impl_Entry_96.fl_get xs (t / 2) _ (List.getElem?_eq_getElem hj); have e3 := congrArg (fun l : List Value => l[t % 2]?) (e1.trans e2.symm)
  simp only [List.getElem?_take, List.getElem?_drop, if_pos (show t % 2 < 2 by omega), show t / 2 * 2 + t % 2 = t by omega] at e3
  exact e3
 ·rw [List.getElem?_eq_none (by rw [h.1]; exact ht), List.getElem?_eq_none (by rw [Array.length_toList, impl_Entry_96.fl_size]; exact ht)]
theorem impl_Entry_96.holds {w : World} {g : Nat} {cur : Array Value} {xs : List S66} (hb : w.heap[g]? = some (.cells cur 66 (0, 0))) (ht : cur.toList.take (xs.length * 2) = (impl_Entry_96.fl xs).toList) : Go.Sort.HoldsK impl_Entry_96.enc 2 w g 0 xs.toArray := by
 intro j hj
 have hj' : j < xs.length * 2 := by simpa using hj
 refine ⟨?_, by simp [World.frozen?, hb]⟩
 have h1 : (cur.toList.take (xs.length * 2))[j]? = (impl_Entry_96.fl xs).toList[j]? := by rw [ht]
 rw [List.getElem?_take_of_lt hj', Array.getElem?_toList, Array.getElem?_toList] at h1
 simp only [World.cell?, hb, Nat.zero_add]
 simp only [Option.isSome_none, Bool.false_eq_true, if_false]
 rw [h1, Array.getElem?_eq_getElem (by rw [impl_Entry_96.fl_size]; exact hj')]
 show _ = some (id (impl_Entry_96.fl xs)[j]!)
 rw [getElem!_pos _ _ (by rw [impl_Entry_96.fl_size]; exact hj')]
 rfl
theorem impl_Entry_96.take (cur F : Array Value) (h : F.size ≤ cur.size) : (Go.Sort.putCells id 0 F cur).toList.take F.size = F.toList := by
 apply List.ext_getElem?
 intro j
 by_cases hj : j < F.size
 ·rw [List.getElem?_take_of_lt hj, Array.getElem?_toList]
  simp [Go.Sort.putCells, hj, show j < cur.size by omega]
 ·rw [List.getElem?_take_eq_none (by omega), List.getElem?_eq_none (by simp; omega)]
set_option maxHeartbeats 1000000 in
theorem impl_Entry_96.row {w0 W : World} {base : Nat} {P0 : Nat → Prop} {v : Value} {xs : List S66} (h : Kd.R k66 66 W base P0 v xs) (hB : Below base w0 W) (hbase : base ≤ W.heap.size) (hl : xs.length ≤ 1000000000) (hn : (xs.map (·.f0)).Nodup) :
  Calls Try.prog 96 #[v, .func (.func 97) #[] #[]] W fun e w' => e = .returned (.tuple #[]) ∧ Kd.R k66 66 w' base (fun k_ => P0 k_ ∨ W.heap.size ≤ k_) v (xs.mergeSort impl_Entry_96.le) ∧ Below base w0 w' ∧ Kept W w' P0 := by
 obtain ⟨hok, inner, ho, hr⟩ := h
 have hr2 : Reps (k66.M W base (fun k => P0 k ∧ some k ≠ v.ownBlock)) 2 xs inner := hr
 have ei := impl_Entry_96.of_reps hr2; subst ei
 rcases ho.2 with ⟨rfl, h0⟩ | ⟨g, cap, cur, rfl, hb, hg, h1, h2, h3, h4⟩
 ·have e0 : xs = [] := List.length_eq_zero_iff.1 h0
  subst e0
  have := AnyF.slices_SortFunc_none Try.laySortE none 0 (.func (.func 97) #[] #[]) W
  change Calls Try.prog 96 _ _ _ at this
  refine this.mono ?_
  rintro e w' ⟨he, rfl⟩
  refine ⟨he, ?_, hB, Nat.le_refl _, fun _ _ _ => rfl⟩
  rw [List.mergeSort_nil]
  exact Kd.R_nil _ _ _ _ _
 ·have hgl : g < W.heap.size := (Array.getElem?_eq_some_iff.1 hg).1
  have hsz : k66.sz = 2 := rfl
  rw [hsz] at h3 h4
  have hH := impl_Entry_96.holds hg h4
  have eg : ∀ args w, (callFunc 97 args).run Try.prog w = .ok (.enter 97 args) w := enters_of Try.func97 (by kernel_rfl) rfl
  have hcmp : CmpLays Try.prog 97 #[] impl_Entry_96.enc 2 impl_Entry_96.cf g 0 xs.toArray.size W := fun m os dk _ x y => impl_Entry_96.cmp.calls x.f0 x.f1 y.f0 y.f1 _ _ (impl_Entry_96.order x y)
  have := AnyQ.slices_SortFunc (α := S66) Try.laySortE 2 Try.isAgg66 Try.sizeOf66 impl_Entry_96.enc (fun _ => rfl) (fun x v hv => by simp only [impl_Entry_96.enc, List.mem_cons, List.not_mem_nil, or_false] at hv; rcases hv with rfl | rfl <;> rfl) impl_Entry_96.cf impl_Entry_96.swo 97 #[] g 0 cap xs.toArray W eg hcmp hH hgl (by simp; omega)
  change Calls Try.prog 96 #[.slice (some ⟨g, 0, none⟩) xs.length cap, .func (.func 97) #[] #[]] _ _ at this
  refine this.mono ?_
  rintro e w' ⟨he, d', n, os, hp, hs, hw⟩
  have hd' : d' = (xs.mergeSort impl_Entry_96.le).toArray := by
   have := impl_Entry_96.one xs.toArray d' (by simpa using hn) hp hs
   rw [← this, Array.toArray_toList]
  subst hd'
  subst hw
  have hl2 : (xs.mergeSort impl_Entry_96.le).length = xs.length := List.length_mergeSort xs
  have hhe : (sortWorldK impl_Entry_96.enc 2 W g 0 n (xs.mergeSort impl_Entry_96.le).toArray os).heap[g]? = some (.cells (Go.Sort.putCells id 0 (impl_Entry_96.fl (xs.mergeSort impl_Entry_96.le)) cur) 66 (0, 0)) := by
   show (Go.Sort.grow (Go.Sort.putRow id (Go.Sort.ahead W n) g 0 (impl_Entry_96.fl (xs.mergeSort impl_Entry_96.le))) os).heap[g]? = _
   rw [Go.Sort.heap_grow_old _ _ (by simpa using hgl)]
   simp [Go.Sort.putRow, Go.Sort.mapBlock, Go.Sort.ahead, Array.getElem?_modify, hg, Go.Sort.onCells]
  have hgr : W.grownBy (sortWorldK impl_Entry_96.enc 2 W g 0 n (xs.mergeSort impl_Entry_96.le).toArray os) (some g) := by
   refine ⟨rfl, rfl, rfl, by simp [sortWorldK, Go.Sort.putRowK], fun k hk hne => ?_⟩
   show (Go.Sort.grow (Go.Sort.putRow id (Go.Sort.ahead W n) g 0 (impl_Entry_96.fl (xs.mergeSort impl_Entry_96.le))) os).heap[k]? = _
   rw [Go.Sort.heap_grow_old _ _ (by simpa using hk)]
   have : g ≠ k := fun e => hne (by rw [e])
   simp [Go.Sort.putRow, Go.Sort.mapBlock, Go.Sort.ahead, Array.getElem?_modify, this]
  refine ⟨he, ⟨fun k hk => .inl (hok k hk), (impl_Entry_96.fl (xs.mergeSort impl_Entry_96.le)).toList, ⟨?_, .inr ⟨g, cap, _, by rw [hl2], hb, hhe, by rw [hl2]; exact h1, h2, by rw [hsz]; simpa [Go.Sort.putCells] using h3, ?_⟩⟩, impl_Entry_96.reps _ _ _ _⟩, hB.grown hgr hbase (fun j hj => by cases hj; exact hb), hgr.size, fun i hi hn => hgr.block i hi (fun e => hn (hok i (by rw [e]; rfl)))⟩
  ·rw [Array.length_toList, impl_Entry_96.fl_size, hsz]
  ·rw [hsz]
   have h5 := impl_Entry_96.take cur (impl_Entry_96.fl (xs.mergeSort impl_Entry_96.le)) (by rw [impl_Entry_96.fl_size, hl2, h3]; omega)
   rw [impl_Entry_96.fl_size] at h5
   exact h5
def impl_Entry_96.f (l0 : List S66) : Option (List S66) := if l0.length ≤ 1000000000 ∧ (l0.map (·.f0)).Nodup then some (l0.mergeSort impl_Entry_96.le) else none
-- @FA 96 97
theorem impl_Entry_96.calls (P0_ : Nat → Prop) (u9000_ : Value) (l0 r1 : List S66) (w0 w : World) (hB : Below w0.heap.size w0 w) (ho0 : Kd.R k66 66 w w0.heap.size P0_ u9000_ l0) (h : impl_Entry_96.f l0 = some r1) :
  Calls Try.prog 96 #[u9000_, .func (.func 97) #[] #[]] w fun e w' => e = .returned (.tuple #[]) ∧ Kd.R k66 66 w' w0.heap.size (fun k_ => (P0_ k_ ∨ w.heap.size ≤ k_)) u9000_ r1 ∧ Below w0.heap.size w0 w' ∧ Kept w w' (fun k_ => P0_ k_) := by
 unfold impl_Entry_96.f at h
 split at h
 case isFalse => cases h
 rename_i hsz; obtain rfl := Option.some.inj h
 exact impl_Entry_96.row ho0 hB hB.size hsz.1 hsz.2
-- shrunk

/-! ### impl_sortEntries: function 59 -/
def impl_sortEntries.f (l0 : List (S66)) : Option ((List (S66))) := (impl_Entry_96.f l0).bind fun t489 => (some t489)
theorem impl_sortEntries.calls (P0_ : Nat → Prop) (u9000_ : Value) (l0 : List (S66)) (r : List (S66)) (w0 w : World) (hB : Below w0.heap.size w0 w) (ho0 : Kd.R k66 66 w w0.heap.size P0_ u9000_ l0) (h : impl_sortEntries.f l0 = some r) :
  Calls Try.prog 59 #[u9000_] w fun e w' => e = .returned (.tuple #[]) ∧ Kd.R k66 66 w' w0.heap.size (fun k_ => (P0_ k_ ∨ w.heap.size ≤ k_)) u9000_ r ∧ Below w0.heap.size w0 w' ∧ Kept w w' (fun k_ => P0_ k_) := by
 have HO0 := am (show Kd.R k66 66 w w0.heap.size (fun k_ => (P0_ k_ ∨ w.heap.size ≤ k_)) u9000_ l0 from Kd.R_mono ho0 (fun k_ hk => (.inl hk))); have HK := am (Kept.refl w (fun k_ => P0_ k_)); have HW0 := am hB.size; have HB := am hB; clear hB
 have H := h; unfold impl_sortEntries.f at H
 clear h; replace H := bs H; obtain ⟨t489, A20, H⟩ := H; have A2 := Aside0.mk A20; clear A20; obtain rfl := Option.some.inj H; obtain ⟨Ao3, co3, eo3⟩ := Kd.R_slice HO0.out; subst eo3; go_enter Try.func59, Try.ntmps59
 go_wp2_with ((with_reducible refine gate_callee (f := 96) rfl ?_); refine gl 3 Try.func96 #[.slice Ao3 l0.length co3, .func (.func 97) #[] #[]] ?_; (with_reducible refine (impl_Entry_96.calls (fun k_ => some k_ = (.slice Ao3 l0.length co3 : Value).ownBlock) (.slice Ao3 l0.length co3) l0 t489 w0 _ ?side1 ?side2 A2.out).mono ?_); (case side1 => repeat (with_reducible exact HB.out)); (case side2 => exact Kd.R_tight rfl HO0.out); rintro e w4 ⟨rfl, hy0, hb, hkp⟩; refine ⟨_, rfl, ?_⟩; replace HK := am (Kept.then_ (S := (fun k_ => P0_ k_)) b163_ hkp (fun k_ hs_ => (fun e_ => (HO0.out.1 k_ e_.symm)) hs_)); replace HO0 := am (Kd.R_reok rfl hy0 (fun k_ e_ => HO0.out.1 k_ e_)); replace HB := am (hb); clear hb hkp hy0)
 go_end0
 exact ⟨eq_, by (with_reducible repeat (fail)); exact HO0.out, bel, b163_⟩
end Go.Proofs.Ytdfnijaacnlfaaa.QFnDeltaOf

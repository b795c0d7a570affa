import Derived.Test.YtdfnijaacnlfaaaGreatQFnBookGuessesx0
import Derived.Test.YtdfnijaacnlfaaaGreatQFnBookGuessesx7
import Derived.Test.YtdfnijaacnlfaaaGreatQFnBookGuessesx10
import Derived.Test.YtdfnijaacnlfaaaGreatQFnBookGuessesx15
import Derived.Test.YtdfnijaacnlfaaaGreatQFnBookGuessesx20
import Derived.Test.YtdfnijaacnlfaaaGreatQFnBookGuessesx24
import Derived.Test.YtdfnijaacnlfaaaGreatQFnBookGuessesx26
import Derived.Test.YtdfnijaacnlfaaaGreatVMSh2
import Derived.Test.YtdfnijaacnlfaaaGreatQFnBookGuessesx23
namespace Go.Proofs.YtdfnijaacnlfaaaGreat.QFnBookGuesses
open Go.RowKit Go.Proofs.YtdfnijaacnlfaaaGreatW.PrintWords Go.Proofs.YtdfnijaacnlfaaaGreatW.PrintLast Go.Proofs.YtdfnijaacnlfaaaGreatW.PrintMore Go.Proofs.YtdfnijaacnlfaaaGreat.Sh
attribute [local go_sem] max2_int min2_int max_two min_two max_three min_three max_four min_four
set_option linter.unusedVariables false
set_option linter.unusedSimpArgs false
set_option maxHeartbeats 8000000
set_option maxRecDepth 100000
-- shrunk

/-! ### spec_l4Guesses: function 24 -/
def spec_l4Guesses.l0 : Nat → List ByteArray → ByteArray → Int → List (S38) → Int → Option ((List (S38)))
 | 0, _, _, _, _, _ => none
 | k + 1, x0, x1, x2, x7, x8 => if x8 < (x0.length : Int) then (if 0 ≤ x8 then ((spec_l1Far.f k (rdOf ByteArray.empty x0 x8) x1).bind fun t678 => (if t678 ≤ x2 then ((spec_l4Put.f k x7 (rdOf ByteArray.empty x0 x8) t678).bind fun t680 => (spec_l4Guesses.l0 k x0 x1 x2 t680 (wrap64 (x8 + 1)))) else (spec_l4Guesses.l0 k x0 x1 x2 x7 (wrap64 (x8 + 1))))) else (none)) else (if (x7.length : Int) > 10 then (if 10 ≤ (x7.length : Int) then (some (x7.take (10 : Int).toNat)) else (none)) else (some x7))
def spec_l4Guesses.f (k : Nat) (l0 : List ByteArray) (a1 : ByteArray) (a2 : Int) : Option ((List (S38))) := spec_l4Guesses.l0 k l0 a1 a2 (([] : List (S38))) 0
theorem spec_l4Guesses.calls (k : Nat) (A0 : Option Addr) (c0 : Nat) (l0 : List ByteArray) (a1 : ByteArray) (a2 : Int) (r : List (S38)) (w : World) (hr0 : Kd.C Kd.string w A0 l0.length l0) (hc0 : l0.length ≤ c0) (h : spec_l4Guesses.f k l0 a1 a2 = some r) :
  Calls Tryz.prog 24 #[.slice A0 l0.length c0, .string a1, .int .i64 a2] w fun e w' => ∃ v0_ : Value, e = .returned (v0_) ∧ Kd.R k38 38 w' w.heap.size (fun _ => True) v0_ r ∧ Below w.heap.size w w' := by
 have hu38 := Tryz.underlying38; have HR0 := am hr0; have HC0 := am hc0; clear hr0 hc0; have HB := am (Below.refl w.heap.size w)
 have H := h; unfold spec_l4Guesses.f at H
 clear h; obtain ⟨y671, hy671⟩ : ∃ y_ : List (S38), y_ = (([] : List (S38))) := ⟨_, rfl⟩
 rw [← hy671] at H
 have Ny671 := am hy671; clear hy671
 have H' := am H
 clear H; go_enter Tryz.func24, Tryz.ntmps24
 go_wp2_with ((with_reducible refine gate_dst (N := 10) rfl ?_); refine Kd.R_lit k38 _ 38 ?hg (N := 10) ?hd (xs := ([] : List (S38))) (inner := []) (ok := fun _ => True) (okp := fun _ => True) ?hr ?hp (fun _ hk => hk) trivial (Below.refl _ _) (Nat.le_refl _) (by simp) ?_; (case hd => rfl); (case hg => rfl); (case hr => (go_simp; done)); (case hp => exact (Reps.none _ _)); intro v672 w4 ho5 hb hg_ hnew_; clear hg_ hnew_; (rw [← Ny671.out] at ho5); have HO673 := am (Kd.R_lower ho5 (below_size bel)); replace HB := am (below_step bel hb); clear hb ho5)
 go_loopg [7, 8] k (fun kq v7 v8 w' => ∃ (x7_1 : List (S38)) (x8_1 : Int), v8 = .int .i64 x8_1 ∧ Aside0 (spec_l4Guesses.l0 kq l0 a1 a2 x7_1 x8_1 = some r) ∧ Aside0 (kq ≤ k) ∧ Aside0 (Kd.R k38 38 w' w.heap.size (fun _ => True) v7 x7_1) ∧ Aside0 (Below w.heap.size w w'))
 case atStart => exact ⟨(y671), (0), sq, H', ⟨Nat.le_refl _⟩, ⟨rq HO673.out⟩, ⟨bel⟩⟩
 case round =>
  clear H'; obtain ⟨x7_1, x8_1, rfl, HA, HK1, HO_7, HB⟩ := hrel
  cases gk with
  | zero => exact absurd HA.out (by simp [spec_l4Guesses.l0])
  | succ k1 =>
   have H := HA.out; clear HA; simp only [spec_l4Guesses.l0] at H
   by_cases c6 : x8_1 < (l0.length : Int)
   ·rw [if_pos c6] at H; have c6b0 := decide_eq_true c6; clear c6
    replace H := it H; obtain ⟨c7b0, H⟩ := H; replace H := bs H; obtain ⟨t678, A80, H⟩ := H; have A8 := Aside0.mk A80; clear A80
    by_cases c9 : t678 ≤ a2
    ·rw [if_pos c9] at H; have c9b0 := decide_eq_true c9; clear c9; replace H := bs H; obtain ⟨t680, A100, H⟩ := H; have A10 := Aside0.mk A100; clear A100
     have H' := am H
     clear H
     have p677 : 0 ≤ (x8_1 : Int) := of_decide_eq_true ad
     have q677 : x8_1 < (l0.length : Int) := of_decide_eq_true ad
     obtain ⟨ad677, e677, hx677_0⟩ := Kd.at_string HR0.out x8_1 p677 q677; cases e677; replace hx677_0 := kp HB.out hx677_0; replace p677 := eq_true p677; replace q677 := eq_true q677
     go_wp2_with (first | ((with_reducible refine gate_callee (f := 46) rfl ?_); refine gl 22 Tryz.func46 #[.string (rdOf ByteArray.empty l0 x8_1), .string a1] ?_; (with_reducible refine (spec_l1Far.calls k1 (rdOf ByteArray.empty l0 x8_1) a1 t678 _ A8.out).mono ?_); rintro e w11 ⟨rfl, hb⟩; refine ⟨_, rfl, ?_⟩; replace HO_7 := am (Kd.R_below (rq HO_7.out) hb); replace HB := am (below_step bel hb); clear hb; have p679 : 0 ≤ (x8_1 : Int) := of_decide_eq_true ad; have q679 : x8_1 < (l0.length : Int) := of_decide_eq_true ad; obtain ⟨ad679, e679, hx679_0⟩ := Kd.at_string HR0.out x8_1 p679 q679; obtain rfl : ad677 = ad679 := (by injection e679); replace hx679_0 := kp HB.out hx679_0; replace p679 := eq_true p679; replace q679 := eq_true q679; obtain ⟨Ao12, co12, eo12⟩ := Kd.R_slice HO_7.out; subst eo12) | ((with_reducible refine gate_callee (f := 47) rfl ?_); refine gl 33 Tryz.func47 #[.slice Ao12 x7_1.length co12, .agg #[.string (rdOf ByteArray.empty l0 x8_1), .int .i64 t678]] ?_; (with_reducible refine (spec_l4Put.calls k1 _ _ x7_1 (rdOf ByteArray.empty l0 x8_1) t678 t680 _ ?side1 ?side2 A10.out).mono ?_); (case side1 => exact cq (Kd.R_reads' HO_7.out).2.2); (case side2 => exact (Kd.R_reads' HO_7.out).2.1); rintro e w13 ⟨v681, rfl, ho0, hb⟩; refine ⟨_, rfl, ?_⟩; have HO682 := am (Kd.R_lower (Kd.R_new' ho0 (Kd.R_lt (rq HO_7.out))) (below_size bel)); replace HO_7 := am (Kd.R_elder' (rq HO_7.out) (Kd.R_base ho0) hb); replace HB := am (below_step bel hb); clear hb; clear ho0))
     go_roundg k1
     case measure => have := HK1.out; omega
     case rel => exact ⟨(t680), (wrap64 (x8_1 + 1)), sq, H', ⟨b81_⟩, ⟨rq (Kd.R_mono HO682.out (fun _ hk => trivial))⟩, ⟨bel⟩⟩
    rw [if_neg c9] at H; have c9b0 := decide_eq_false c9; clear c9
    have H' := am H
    clear H
    have p677 : 0 ≤ (x8_1 : Int) := of_decide_eq_true ad
    have q677 : x8_1 < (l0.length : Int) := of_decide_eq_true ad
    obtain ⟨ad677, e677, hx677_0⟩ := Kd.at_string HR0.out x8_1 p677 q677; cases e677; replace hx677_0 := kp HB.out hx677_0; replace p677 := eq_true p677; replace q677 := eq_true q677
    go_wp2_with ((with_reducible refine gate_callee (f := 46) rfl ?_); refine gl 22 Tryz.func46 #[.string (rdOf ByteArray.empty l0 x8_1), .string a1] ?_; (with_reducible refine (spec_l1Far.calls k1 (rdOf ByteArray.empty l0 x8_1) a1 t678 _ A8.out).mono ?_); rintro e w14 ⟨rfl, hb⟩; refine ⟨_, rfl, ?_⟩; replace HO_7 := am (Kd.R_below (rq HO_7.out) hb); replace HB := am (below_step bel hb); clear hb)
    go_roundg k1
    case measure => have := HK1.out; omega
    case rel => exact ⟨(x7_1), (wrap64 (x8_1 + 1)), sq, H', ⟨b81_⟩, ⟨rq HO_7.out⟩, ⟨bel⟩⟩
   rw [if_neg c6] at H; have c6b0 := decide_eq_false c6; clear c6
   by_cases c15 : (x7_1.length : Int) > 10
   ·rw [if_pos c15] at H; have c15b0 := decide_eq_true c15
    have c15b1 : decide (10 < x7_1.length) = true := decide_eq_true (by omega)
    clear c15; replace H := ip H; obtain ⟨c16, H⟩ := H; have c16b0 := eq_true c16
    have c16b1 : decide (10 ≤ (x7_1.length : Int)) = true := decide_eq_true c16
    clear c16; obtain ⟨y674, hy674⟩ : ∃ y_ : List (S38), y_ = (x7_1.take (10 : Int).toNat) := ⟨_, rfl⟩
    rw [← hy674] at H
    have Ny674 := am hy674; clear hy674; obtain rfl := Option.some.inj H; obtain ⟨Ao17, co17, eo17⟩ := Kd.R_slice HO_7.out; subst eo17
    have q18 : (10 : Int) ≤ ((x7_1.length : Int) : Int) := of_decide_eq_true ad
    obtain ⟨i018, hi018, _, hsz18, _⟩ := info_parts info38; have hcut18 := cut_to (P := Tryz.prog) 29 38 .i64 Tryz.underlying29 hi018 Ao17 x7_1.length co17 10 (by omega) q18 (Kd.R_reads' HO_7.out).2.1; have hr18 := Kd.R_take (m := (10 : Int).toNat) HO_7.out (by omega)
    have hy18 : y674.length = (10 : Int).toNat := (by rw [Ny674.out, List.length_take]; omega)
    rw [← Ny674.out] at hr18
    rw [← hy18] at hr18 hcut18
    clear hy18 hi018 hsz18 HO_7; have HO676 := am hr18; clear hr18; replace q18 := eq_true q18; go_wp2; go_ret
    exact ⟨_, eq_, by (with_reducible repeat (fail)); exact HO676.out, bel⟩
   rw [if_neg c15] at H; have c15b0 := decide_eq_false c15
   have c15b1 : decide (10 < x7_1.length) = false := decide_eq_false (by omega)
   clear c15; obtain rfl := Option.some.inj H; obtain ⟨Ao19, co19, eo19⟩ := Kd.R_slice HO_7.out; subst eo19; go_wp2; go_ret
   exact ⟨_, eq_, by (with_reducible repeat (fail)); exact HO_7.out, bel⟩

/-! ### spec_BookGuesses: function 7 -/
mutual
def spec_BookGuesses.j0 : Nat → ByteArray → List (S38) → Bool → List (S59) → List (S51) → Option ((List (S38)))
 | 0, _, _, _, _, _ => none
 | k + 1, x1, x5, x22, x684000, x684001 => if x22 = true then (some x5) else ((spec_l2Words.f k x684000 x684001).bind fun t693 => ((spec_l4Guesses.f k t693 x1 2).bind fun t696 => (spec_BookGuesses.l0 k x5 t696 0)))
def spec_BookGuesses.l0 : Nat → List (S38) → List (S38) → Int → Option ((List (S38)))
 | 0, _, _, _ => none
 | k + 1, x5, x6, x7 => if x7 < (x6.length : Int) then (if 0 ≤ x7 then (if 0 < (x6.length : Int) then (if ((rd_T38 x6 x7).f1) = ((rd_T38 x6 0).f1) then (if x5.length < 5864062014805 then (spec_BookGuesses.l0 k (x5 ++ [(⟨(rd_T38 x6 x7).f0, (rd_T38 x6 x7).f1⟩ : S38)]) x6 (wrap64 (x7 + 1))) else (none)) else (some x5)) else (none)) else (none)) else (some x5)
end
def spec_BookGuesses.f (k : Nat) (l0_0 : List (S59)) (l0_1 : List (S51)) (a1 : ByteArray) : Option ((List (S38))) := (some (([] : List (S38)) : List (S38))).bind fun y684 => ((spec_BookOk.f k l0_0 l0_1).bind fun t687 => (if t687 = true then ((spec_l1Word.f k a1).bind fun t688 => (if t688 = true then ((spec_l2Words.f k l0_0 l0_1).bind fun t689 => ((spec_l2In.f k t689 a1).bind fun t692 => (spec_BookGuesses.j0 k a1 y684 t692 l0_0 l0_1))) else (spec_BookGuesses.j0 k a1 y684 true l0_0 l0_1))) else (spec_BookGuesses.j0 k a1 y684 true l0_0 l0_1)))
theorem spec_BookGuesses.calls (k : Nat) (A0_0 : Option Addr) (c0_0 : Nat) (l0_0 : List (S59)) (A0_1 : Option Addr) (c0_1 : Nat) (l0_1 : List (S51)) (a1 : ByteArray) (r : List (S38)) (w : World) (hr0_0 : Kd.C k59 w A0_0 l0_0.length l0_0) (hc0_0 : l0_0.length ≤ c0_0) (hr0_1 : Kd.C k51 w A0_1 l0_1.length l0_1) (hc0_1 : l0_1.length ≤ c0_1) (h : spec_BookGuesses.f k l0_0 l0_1 a1 = some r) :
  Calls Tryz.prog 7 #[.agg #[.slice A0_0 l0_0.length c0_0, .slice A0_1 l0_1.length c0_1], .string a1] w fun e w' => ∃ v0_ : Value, e = .returned (v0_) ∧ Kd.R k38 38 w' w.heap.size (fun _ => True) v0_ r ∧ Below w.heap.size w w' := by
 have hu26 := Tryz.underlying26; have hu38 := Tryz.underlying38; have HR0_0 := am hr0_0; have HC0_0 := am hc0_0; clear hr0_0 hc0_0; have HR0_1 := am hr0_1; have HC0_1 := am hc0_1; clear hr0_1 hc0_1; have HB := am (Below.refl w.heap.size w)
 have H := h; unfold spec_BookGuesses.f at H
 clear h; obtain ⟨y684, hy684⟩ : ∃ y_ : List (S38), y_ = (([] : List (S38))) := ⟨_, rfl⟩
 replace H := bm H; rw [← hy684] at H
 have Ny684 := am hy684; clear hy684; have HC3 := am H; clear H; go_enter Tryz.func7, Tryz.ntmps7
 go_upto_region 2 with (first | ((with_reducible refine gate_dst (N := 2) rfl ?_); refine bx 2 (cs := #[.slice A0_0 l0_0.length c0_0, .slice A0_1 l0_1.length c0_1]) (t := 26) ?_; intro gb683 hg w4 hbox hb; have BK683 := am (hbox); have GW683 := am ((b15_ : w.heap.size ≤ gb683)); have GE683 := am ((b15_ : w.heap.size ≤ gb683)); replace HB := am (below_step bel hb); clear hb hbox hg) | ((with_reducible refine gate_dst (N := 8) rfl ?_); refine Kd.R_lit k38 _ 38 ?hg (N := 8) ?hd (xs := ([] : List (S38))) (inner := []) (ok := fun _ => True) (okp := fun _ => True) ?hr ?hp (fun _ hk => hk) trivial (Below.refl _ _) (Nat.le_refl _) (by simp) ?_; (case hd => rfl); (case hg => rfl); (case hr => (go_simp; done)); (case hp => exact (Reps.none _ _)); intro v685 w5 ho6 hb hg_ hnew_; clear hg_ hnew_; (rw [← Ny684.out] at ho6); have HO686 := am (Kd.R_lower ho6 (below_size (bel1 GE683.out))); replace BK683 := am (blk_below (bq BK683.out) hb); replace HB := am (below_step (bel1 GE683.out) hb); clear hb ho6))
 repeat (go_quiet (fail); go_upto_region 2 with (fail))
 go_cut [22] (fun v22 wc => ∃ (kq : Nat) (x22_2 : Bool), v22 = .bool x22_2 ∧ Aside0 (spec_BookGuesses.j0 kq a1 y684 x22_2 l0_0 l0_1 = some r) ∧ Aside0 (kq ≤ k) ∧ Aside0 (Kd.R k38 38 wc w.heap.size (fun _ => True) v685 y684) ∧ Aside0 (wc.heap[gb683]? = some (.cells #[(.slice A0_0 l0_0.length c0_0), (.slice A0_1 l0_1.length c0_1)] 26 (0, 0))) ∧ Aside0 (Below w.heap.size w wc))
 case first =>
  have H := HC3.out; clear HC3; replace H := bs H; obtain ⟨t687, A70, H⟩ := H; have A7 := Aside0.mk A70; clear A70
  by_cases c8 : t687 = true
  ·subst c8
   have H1 : ((spec_l1Word.f k a1).bind fun t688 => (if t688 = true then ((spec_l2Words.f k l0_0 l0_1).bind fun t689 => ((spec_l2In.f k t689 a1).bind fun t692 => (spec_BookGuesses.j0 k a1 y684 t692 l0_0 l0_1))) else (spec_BookGuesses.j0 k a1 y684 true l0_0 l0_1))) = some r := b26_
   replace H := H1; clear H1
   replace H := bs H; obtain ⟨t688, A90, H⟩ := H; have A9 := Aside0.mk A90; clear A90
   by_cases c10 : t688 = true
   ·subst c10
    have H1 : ((spec_l2Words.f k l0_0 l0_1).bind fun t689 => ((spec_l2In.f k t689 a1).bind fun t692 => (spec_BookGuesses.j0 k a1 y684 t692 l0_0 l0_1))) = some r := b26_
    replace H := H1; clear H1
    replace H := bs H; obtain ⟨t689, A110, H⟩ := H; have A11 := Aside0.mk A110; clear A110; replace H := bs H; obtain ⟨t692, A120, H⟩ := H; have A12 := Aside0.mk A120; clear A120
    have H' := am H
    clear H; have ⟨hcz13_0, hcz13_1, hfz13_0, hfz13_1⟩ := b2c BK683.out
    have hcz15_0 := bc BK683.out 0
    have hcz15_1 := bc BK683.out 1
    have hfz15_0 := bf BK683.out 0
    have hfz15_1 := bf BK683.out 1
    go_wp2_with (first | (go_at_call 8; (with_reducible refine (spec_BookOk.calls k _ _ l0_0 _ _ l0_1 true _ ?side1 ?side2 ?side3 ?side4 A7.out).mono ?_); (case side1 => exact cq (Kd.C_below HR0_0.out HB.out)); (case side2 => exact HC0_0.out); (case side3 => exact cq (Kd.C_below HR0_1.out HB.out)); (case side4 => exact HC0_1.out); rintro e w14 ⟨rfl, hb⟩; replace HO686 := am (Kd.R_below (rq HO686.out) hb); replace BK683 := am (blk_below (bq BK683.out) hb); replace HB := am (below_step (bel1 GE683.out) hb); clear hb) | (go_at_call 21; (with_reducible refine (spec_l1Word.calls k a1 true _ A9.out).mono ?_); rintro e w' ⟨rfl, ⟨nd, rfl⟩⟩; (have ⟨hcz15_0, hcz15_1, hfz15_0, hfz15_1⟩ := b2c BK683.out)) | (go_at_call 23; (with_reducible refine (spec_l2Words.calls k _ _ l0_0 _ _ l0_1 t689 _ ?side1 ?side2 ?side3 ?side4 A11.out).mono ?_); (case side1 => exact cq (Kd.C_below HR0_0.out (bel1 GE683.out))); (case side2 => exact HC0_0.out); (case side3 => exact cq (Kd.C_below HR0_1.out (bel1 GE683.out))); (case side4 => exact HC0_1.out); rintro e w16 ⟨v690, rfl, ho0, hb⟩; have HO691 := am (Kd.V_lower (Kd.V_mono (ok' := fun k_ => some k_ ≠ (v685 : Value).ownBlock ∧ k_ ≠ gb683) ho0 (fun k_ hk_ => ⟨(Kd.fresh' (Kd.R_lt (rq HO686.out)) k_ hk_), (Kd.freshB (g := gb683) (o := .cells #[.slice A0_0 l0_0.length c0_0, .slice A0_1 l0_1.length c0_1] 26 (0, 0)) (bq BK683.out) k_ hk_)⟩)) (below_size (bel1 GE683.out))); replace HO686 := am (Kd.R_below (rq HO686.out) hb); replace BK683 := am (blk_below (bq BK683.out) hb); replace HB := am (below_step (bel1 GE683.out) hb); clear hb; clear ho0; obtain ⟨Ao17, co17, eo17⟩ := Kd.V_slice HO691.out; subst eo17) | (go_at_call 22; (with_reducible refine (spec_l2In.calls k _ _ t689 a1 t692 _ ?side1 ?side2 A12.out).mono ?_); (case side1 => exact cq (Kd.V_reads' HO691.out).2.2); (case side2 => exact (Kd.V_reads' HO691.out).2.1); rintro e w' ⟨rfl, ⟨nd, rfl⟩⟩))
    repeat (go_quiet (fail); try go_wp2)
    go_meet
    case rel => exact ⟨_, (t692), sq, H', ⟨b59_⟩, ⟨rq HO686.out⟩, ⟨bq BK683.out⟩, ⟨bel1 GE683.out⟩⟩
   replace c10 := Bool.eq_false_iff.mpr c10; subst c10
   have H1 : (spec_BookGuesses.j0 k a1 y684 true l0_0 l0_1) = some r := b10_
   replace H := H1; clear H1
   have H' := am H
   clear H; have ⟨hcz18_0, hcz18_1, hfz18_0, hfz18_1⟩ := b2c BK683.out
   go_wp2_with (first | (go_at_call 8; (with_reducible refine (spec_BookOk.calls k _ _ l0_0 _ _ l0_1 true _ ?side1 ?side2 ?side3 ?side4 A7.out).mono ?_); (case side1 => exact cq (Kd.C_below HR0_0.out HB.out)); (case side2 => exact HC0_0.out); (case side3 => exact cq (Kd.C_below HR0_1.out HB.out)); (case side4 => exact HC0_1.out); rintro e w19 ⟨rfl, hb⟩; replace HO686 := am (Kd.R_below (rq HO686.out) hb); replace BK683 := am (blk_below (bq BK683.out) hb); replace HB := am (below_step (bel1 GE683.out) hb); clear hb) | (go_at_call 21; (with_reducible refine (spec_l1Word.calls k a1 false _ A9.out).mono ?_); rintro e w' ⟨rfl, ⟨nd, rfl⟩⟩))
   repeat (go_quiet (fail); try go_wp2)
   go_meet
   case rel => exact ⟨_, (true), sq, H', ⟨b59_⟩, ⟨rq HO686.out⟩, ⟨bq BK683.out⟩, ⟨bel1 GE683.out⟩⟩
  replace c8 := Bool.eq_false_iff.mpr c8; subst c8
  have H1 : (spec_BookGuesses.j0 k a1 y684 true l0_0 l0_1) = some r := b10_
  replace H := H1; clear H1
  have H' := am H
  clear H; have ⟨hcz20_0, hcz20_1, hfz20_0, hfz20_1⟩ := b2c BK683.out
  go_wp2_with (go_at_call 8; (with_reducible refine (spec_BookOk.calls k _ _ l0_0 _ _ l0_1 false _ ?side1 ?side2 ?side3 ?side4 A7.out).mono ?_); (case side1 => exact cq (Kd.C_below HR0_0.out HB.out)); (case side2 => exact HC0_0.out); (case side3 => exact cq (Kd.C_below HR0_1.out HB.out)); (case side4 => exact HC0_1.out); rintro e w21 ⟨rfl, hb⟩; replace HO686 := am (Kd.R_below (rq HO686.out) hb); replace BK683 := am (blk_below (bq BK683.out) hb); replace HB := am (below_step (bel1 GE683.out) hb); clear hb)
  repeat (go_quiet (fail); try go_wp2)
  go_meet
  case rel => exact ⟨_, (true), sq, H', ⟨b59_⟩, ⟨rq HO686.out⟩, ⟨bq BK683.out⟩, ⟨bel1 GE683.out⟩⟩
 case rest =>
  clear HC3; obtain ⟨kq, x22_2, rfl, HA, HJ2, HO_5, BK683, HB⟩ := hcut
  cases kq with
  | zero => exact absurd HA.out (by simp [spec_BookGuesses.j0])
  | succ kj2 =>
   have H := HA.out; clear HA; simp only [spec_BookGuesses.j0] at H
   by_cases c22 : x22_2 = true
   ·subst c22
    have H1 : (some y684) = some r := b26_
    replace H := H1; clear H1
    obtain rfl := Option.some.inj H; go_wp2
    repeat (go_quiet (fail); try go_wp2)
    go_ret
    exact ⟨_, eq_, by (with_reducible repeat (fail)); exact HO_5.out, bel1 GE683.out⟩
   replace c22 := Bool.eq_false_iff.mpr c22; subst c22
   have H1 : ((spec_l2Words.f kj2 l0_0 l0_1).bind fun t693 => ((spec_l4Guesses.f kj2 t693 a1 2).bind fun t696 => (spec_BookGuesses.l0 kj2 y684 t696 0))) = some r := b10_
   replace H := H1; clear H1
   replace H := bs H; obtain ⟨t693, A230, H⟩ := H; have A23 := Aside0.mk A230; clear A230; replace H := bs H; obtain ⟨t696, A240, H⟩ := H; have A24 := Aside0.mk A240; clear A240
   have H' := am H
   clear H; have ⟨hcz25_0, hcz25_1, hfz25_0, hfz25_1⟩ := b2c BK683.out
   go_wp2_with (first | (go_at_call 23; (with_reducible refine (spec_l2Words.calls kj2 _ _ l0_0 _ _ l0_1 t693 _ ?side1 ?side2 ?side3 ?side4 A23.out).mono ?_); (case side1 => exact cq (Kd.C_below HR0_0.out HB.out)); (case side2 => exact HC0_0.out); (case side3 => exact cq (Kd.C_below HR0_1.out HB.out)); (case side4 => exact HC0_1.out); rintro e w26 ⟨v694, rfl, ho0, hb⟩; have HO695 := am (Kd.V_lower (Kd.V_mono (ok' := fun k_ => some k_ ≠ (v685 : Value).ownBlock ∧ k_ ≠ gb683) ho0 (fun k_ hk_ => ⟨(Kd.fresh' (Kd.R_lt (rq HO_5.out)) k_ hk_), (Kd.freshB (g := gb683) (o := .cells #[.slice A0_0 l0_0.length c0_0, .slice A0_1 l0_1.length c0_1] 26 (0, 0)) (bq BK683.out) k_ hk_)⟩)) (below_size (bel1 GE683.out))); replace HO_5 := am (Kd.R_below (rq HO_5.out) hb); replace BK683 := am (blk_below (bq BK683.out) hb); replace HB := am (below_step (bel1 GE683.out) hb); clear hb; clear ho0; obtain ⟨Ao27, co27, eo27⟩ := Kd.V_slice HO695.out; subst eo27) | (go_at_call 24; (with_reducible refine (spec_l4Guesses.calls kj2 _ _ t693 a1 2 t696 _ ?side1 ?side2 A24.out).mono ?_); (case side1 => exact cq (Kd.V_reads' HO695.out).2.2); (case side2 => exact (Kd.V_reads' HO695.out).2.1); rintro e w28 ⟨v697, rfl, ho0, hb⟩; replace HO695 := am (Kd.V_elder' (vq HO695.out) (Kd.R_base ho0) hb); have HO698 := am (Kd.R_lower (Kd.R_new' ho0 (Kd.R_lt (rq HO_5.out))) (below_size (bel1 GE683.out))); replace HO_5 := am (Kd.R_elder' (rq HO_5.out) (Kd.R_base ho0) hb); replace BK683 := am (blk_below (bq BK683.out) hb); replace HB := am (below_step (bel1 GE683.out) hb); clear hb; clear ho0))
   repeat (go_quiet (fail); try go_wp2)
   go_loopg [5, 7] kj2 (fun kq v5 v7 w' => ∃ (x5_2 : List (S38)) (x7_2 : Int), v7 = .int .i64 x7_2 ∧ Aside0 (spec_BookGuesses.l0 kq x5_2 t696 x7_2 = some r) ∧ Aside0 (kq ≤ kj2) ∧ Aside0 (Kd.R k38 38 w' w.heap.size (fun k_ => some k_ ≠ (v697 : Value).ownBlock) v5 x5_2) ∧ Aside0 (Kd.R k38 38 w' w.heap.size (fun k_ => some k_ ≠ (v5 : Value).ownBlock) v697 t696) ∧ Aside0 (w'.heap[gb683]? = some (.cells #[(.slice A0_0 l0_0.length c0_0), (.slice A0_1 l0_1.length c0_1)] 26 (0, 0))) ∧ Aside0 (Below w.heap.size w w'))
   case atStart => exact ⟨(y684), (0), sq, H', ⟨Nat.le_refl _⟩, ⟨rq (Kd.R_mono HO_5.out (fun _ hk => hk.2))⟩, ⟨rq (Kd.R_mono HO698.out (fun _ hk => hk.2))⟩, ⟨bq BK683.out⟩, ⟨bel1 GE683.out⟩⟩
   case round =>
    clear H'; clear hcz25_0 hcz25_1 hfz25_0 hfz25_1; obtain ⟨x5_2, x7_2, rfl, HA, HK2, HO_5, HO_6, BK683, HB⟩ := hrel
    cases gk with
    | zero => exact absurd HA.out (by simp [spec_BookGuesses.l0])
    | succ k2 =>
     have H := HA.out; clear HA; simp only [spec_BookGuesses.l0] at H
     by_cases c29 : x7_2 < (t696.length : Int)
     ·rw [if_pos c29] at H; have c29b0 := decide_eq_true c29; clear c29
      replace H := it H; obtain ⟨c30b0, H⟩ := H; replace H := ip H; obtain ⟨c31, H⟩ := H; have c31b0 := decide_eq_true c31
      have c31b1 : decide (0 < t696.length) = true := decide_eq_true (by omega)
      clear c31
      by_cases c32 : ((rd_T38 t696 x7_2).f1) = ((rd_T38 t696 0).f1)
      ·rw [if_pos c32] at H
       have c32b0 : (((rd_T38 t696 x7_2).f1) == ((rd_T38 t696 0).f1)) = true := beq_iff_eq.mpr c32
       have c32b1 : (((rd_T38 t696 x7_2).f1) != ((rd_T38 t696 0).f1)) = false := bne_eq_false_iff_eq.mpr c32
       clear c32
       replace H := ip H; obtain ⟨c33, H⟩ := H; have LMc33 := Aside0.mk c33; clear c33; obtain ⟨y702, hy702⟩ : ∃ y_ : List (S38), y_ = (x5_2 ++ [(⟨(rd_T38 t696 x7_2).f0, (rd_T38 t696 x7_2).f1⟩ : S38)]) := ⟨_, rfl⟩
       rw [← hy702] at H
       have Ny702 := am hy702; clear hy702
       have H' := am H
       clear H; obtain ⟨Ao34, co34, eo34⟩ := Kd.R_slice HO_6.out; subst eo34
       have p699 : 0 ≤ (x7_2 : Int) := of_decide_eq_true ad
       have q699 : x7_2 < (t696.length : Int) := of_decide_eq_true ad
       obtain ⟨ad699, e699, hx699_0, hx699_1⟩ := at_T38 (Kd.R_reads' HO_6.out).2.2 x7_2 p699 q699; cases e699; replace p699 := eq_true p699; replace q699 := eq_true q699
       have p700 : 0 ≤ (0 : Int) := (by omega)
       have q700 : 0 < (t696.length : Int) := of_decide_eq_true ad
       obtain ⟨ad700, e700, hx700_0, hx700_1⟩ := at_T38 (Kd.R_reads' HO_6.out).2.2 0 p700 q700
       obtain rfl : ad699 = ad700 := (by injection e700)
       have qi700 : (0 < t696.length) = True := eq_true (by omega)
       rw [show ((0 : Int)).toNat = 0 from rfl] at hx700_0
       rw [show 0 * 2 = 0 from rfl] at hx700_0
       rw [Addr.add_zero'] at hx700_0
       rw [show ((0 : Int)).toNat = 0 from rfl] at hx700_1
       rw [show 0 * 2 = 0 from rfl] at hx700_1
       rw [Addr.add_zero'] at hx700_1
       replace p700 := eq_true p700; replace q700 := eq_true q700
       have p701 : 0 ≤ (x7_2 : Int) := of_decide_eq_true ad
       have q701 : x7_2 < (t696.length : Int) := of_decide_eq_true ad
       obtain ⟨ad701, e701, hx701_0, hx701_1⟩ := at_T38 (Kd.R_reads' HO_6.out).2.2 x7_2 p701 q701
       obtain rfl : ad699 = ad701 := (by injection e701)
       replace p701 := eq_true p701; replace q701 := eq_true q701
       go_wp2
       repeat (go_quiet (fail); try go_wp2_with ((with_reducible refine gate_builtin (b := .append) (xs := #[.tmp 46, .tmp 51]) rfl ?_); at_builtin; refine Kd.R_append k38 (w0 := w) w.heap.size rfl (.tmp 46) (.tmp 51) 29 38 (.agg #[(.string ⟨#[]⟩), (.int .i64 0)]) 24 rfl Tryz.underlying29 info38 rfl (by decide) (by omega) u5 x5_2 (⟨(rd_T38 t696 x7_2).f0, (rd_T38 t696 x7_2).f1⟩ : S38) [.string ((rd_T38 t696 x7_2).f0), .int .i64 ((rd_T38 t696 x7_2).f1)] (fun k_ => some k_ ≠ (.slice (some ad699) t696.length co34 : Value).ownBlock) (fun _ => False) rfl rfl ?aP (fun _ hk => hk.elim) ?aF ?aO ?aB ?aS ?aL ?_; (case aP => exact k38_mkM _ _ _ (⟨(rd_T38 t696 x7_2).f0, (rd_T38 t696 x7_2).f1⟩ : S38)); (case aB => exact (bel1 GE683.out)); (case aF => exact (fun k_ hk => Kd.fresh' (Kd.R_lt (rq HO_6.out)) k_ hk)); (case aO => exact (rq HO_5.out)); (case aS => exact (below_size (bel1 GE683.out))); (case aL => have := LMc33.out; omega); intro v703 w35 ho hb hg hat; rw [← Ny702.out] at ho; replace HO_6 := am (Kd.R_after (ok := (fun _ => True)) (rq (Kd.R_mono HO_6.out (fun _ hk => ⟨trivial, hk⟩))) hg hat); replace BK683 := am (blk_grown (g := gb683) (o := .cells #[.slice A0_0 l0_0.length c0_0, .slice A0_1 l0_1.length c0_1] 26 (0, 0)) (bq BK683.out) hg (Kd.R_ne HO_5.out BK683.out (by decide))); replace HB := am (hb); have HO704 := am (ho); clear HO_5; clear ho hb hg hat))
       go_roundg k2
       case measure => have := HJ2.out; have := HK2.out; omega
       case rel => exact ⟨(y702), (wrap64 (x7_2 + 1)), sq, H', ⟨by have := HJ2.out; have := HK2.out; omega⟩, ⟨rq HO704.out⟩, ⟨rq (Kd.R_mono HO_6.out (fun _ hk => hk.2))⟩, ⟨bq BK683.out⟩, ⟨bel1 GE683.out⟩⟩
      rw [if_neg c32] at H
      have c32b0 : (((rd_T38 t696 x7_2).f1) == ((rd_T38 t696 0).f1)) = false := beq_eq_false_iff_ne.mpr c32
      have c32b1 : (((rd_T38 t696 x7_2).f1) != ((rd_T38 t696 0).f1)) = true := bne_iff_ne.mpr c32
      obtain rfl := Option.some.inj H; obtain ⟨Ao36, co36, eo36⟩ := Kd.R_slice HO_6.out; subst eo36
      have p699 : 0 ≤ (x7_2 : Int) := of_decide_eq_true ad
      have q699 : x7_2 < (t696.length : Int) := of_decide_eq_true ad
      obtain ⟨ad699, e699, hx699_0, hx699_1⟩ := at_T38 (Kd.R_reads' HO_6.out).2.2 x7_2 p699 q699; cases e699; replace p699 := eq_true p699; replace q699 := eq_true q699
      have p700 : 0 ≤ (0 : Int) := (by omega)
      have q700 : 0 < (t696.length : Int) := of_decide_eq_true ad
      obtain ⟨ad700, e700, hx700_0, hx700_1⟩ := at_T38 (Kd.R_reads' HO_6.out).2.2 0 p700 q700
      obtain rfl : ad699 = ad700 := (by injection e700)
      have qi700 : (0 < t696.length) = True := eq_true (by omega)
      rw [show ((0 : Int)).toNat = 0 from rfl] at hx700_0
      rw [show 0 * 2 = 0 from rfl] at hx700_0
      rw [Addr.add_zero'] at hx700_0
      rw [show ((0 : Int)).toNat = 0 from rfl] at hx700_1
      rw [show 0 * 2 = 0 from rfl] at hx700_1
      rw [Addr.add_zero'] at hx700_1
      replace p700 := eq_true p700; replace q700 := eq_true q700; go_wp2
      repeat (go_quiet (fail); try go_wp2)
      go_ret
      exact ⟨_, eq_, b89_, bel1 GE683.out⟩
     rw [if_neg c29] at H; have c29b0 := decide_eq_false c29; clear c29; obtain rfl := Option.some.inj H; obtain ⟨Ao37, co37, eo37⟩ := Kd.R_slice HO_6.out; subst eo37; go_wp2
     repeat (go_quiet (fail); try go_wp2)
     go_ret
     exact ⟨_, eq_, b89_, bel1 GE683.out⟩

/-! ### spec_WordOk: function 9 -/
def spec_WordOk.f (k : Nat) (a0 : ByteArray) : Option (Bool) := (spec_l1Word.f k a0).bind fun t705 => (some t705)
theorem spec_WordOk.calls (k : Nat) (a0 : ByteArray) (r : Bool) (w : World) (h : spec_WordOk.f k a0 = some r) :
  Calls Tryz.prog 9 #[.string a0] w fun e w' => e = .returned (.bool r) ∧ Drawn0 w w' := by
 have H := h; unfold spec_WordOk.f at H
 clear h; replace H := bs H; obtain ⟨t705, A20, H⟩ := H; have A2 := Aside0.mk A20; clear A20; obtain rfl := Option.some.inj H; go_enter Tryz.func9, Tryz.ntmps9
 go_wp2_with ((with_reducible refine gate_callee (f := 21) rfl ?_); refine gl 4 Tryz.func21 #[.string a0] ?_; (with_reducible refine (spec_l1Word.calls k a0 t705 _ A2.out).mono ?_); rintro e w' ⟨rfl, ⟨nd, rfl⟩⟩; refine ⟨_, rfl, ?_⟩)
 go_ret
 exact ⟨sq, dr⟩

/-! ### impl_BookWords: function 10 -/
def impl_BookWords.f (k : Nat) (l0_0 : List (S59)) (l0_1 : List (S51)) : Option (List ByteArray) := (impl_BookOk.f k l0_0 l0_1).bind fun t707 => (if t707 = true then ((impl_Book_words.f k l0_0 l0_1).bind fun t708 => (some t708)) else (some (([] : List ByteArray))))
theorem impl_BookWords.calls (k : Nat) (A0_0 : Option Addr) (c0_0 : Nat) (l0_0 : List (S59)) (A0_1 : Option Addr) (c0_1 : Nat) (l0_1 : List (S51)) (r : List ByteArray) (w : World) (hr0_0 : Kd.C k59 w A0_0 l0_0.length l0_0) (hc0_0 : l0_0.length ≤ c0_0) (hr0_1 : Kd.C k51 w A0_1 l0_1.length l0_1) (hc0_1 : l0_1.length ≤ c0_1) (h : impl_BookWords.f k l0_0 l0_1 = some r) :
  Calls Tryz.prog 10 #[.agg #[.slice A0_0 l0_0.length c0_0, .slice A0_1 l0_1.length c0_1]] w fun e w' => ∃ v0_ : Value, e = .returned (v0_) ∧ Kd.R Kd.string 9 w' w.heap.size (fun _ => True) v0_ r ∧ Below w.heap.size w w' := by
 have hu26 := Tryz.underlying26; have HR0_0 := am hr0_0; have HC0_0 := am hc0_0; clear hr0_0 hc0_0; have HR0_1 := am hr0_1; have HC0_1 := am hc0_1; clear hr0_1 hc0_1; have HB := am (Below.refl w.heap.size w)
 have H := h; unfold impl_BookWords.f at H
 clear h; replace H := bs H; obtain ⟨t707, A20, H⟩ := H; have A2 := Aside0.mk A20; clear A20
 by_cases c3 : t707 = true
 ·subst c3
  have H1 : ((impl_Book_words.f k l0_0 l0_1).bind fun t708 => (some t708)) = some r := b26_
  replace H := H1; clear H1
  replace H := bs H; obtain ⟨t708, A40, H⟩ := H; have A4 := Aside0.mk A40; clear A40; obtain rfl := Option.some.inj H; go_enter Tryz.func10, Tryz.ntmps10
  go_wp2_with (first | ((with_reducible refine gate_dst (N := 1) rfl ?_); refine bx 1 (cs := #[.slice A0_0 l0_0.length c0_0, .slice A0_1 l0_1.length c0_1]) (t := 26) ?_; intro gb706 hg w5 hbox hb; have BK706 := am (hbox); have GW706 := am ((b15_ : w.heap.size ≤ gb706)); have GE706 := am ((b15_ : w.heap.size ≤ gb706)); replace HB := am (below_step bel hb); clear hb hbox hg; have ⟨hcz6_0, hcz6_1, hfz6_0, hfz6_1⟩ := b2c BK706.out) | ((with_reducible refine gate_callee (f := 17) rfl ?_); refine gl 4 Tryz.func17 #[.agg #[.slice A0_0 l0_0.length c0_0, .slice A0_1 l0_1.length c0_1]] ?_; (with_reducible refine (impl_BookOk.calls k _ _ l0_0 _ _ l0_1 true _ ?side1 ?side2 ?side3 ?side4 A2.out).mono ?_); (case side1 => exact cq (Kd.C_below HR0_0.out HB.out)); (case side2 => exact HC0_0.out); (case side3 => exact cq (Kd.C_below HR0_1.out HB.out)); (case side4 => exact HC0_1.out); rintro e w7 ⟨rfl, hb⟩; refine ⟨_, rfl, ?_⟩; replace BK706 := am (blk_below (bq BK706.out) hb); replace HB := am (below_step (bel1 GE706.out) hb); clear hb; have ⟨hcz8_0, hcz8_1, hfz8_0, hfz8_1⟩ := b2c BK706.out) | ((with_reducible refine gate_callee (f := 20) rfl ?_); refine gl 8 Tryz.func20 #[.agg #[.slice A0_0 l0_0.length c0_0, .slice A0_1 l0_1.length c0_1]] ?_; (with_reducible refine (impl_Book_words.calls k _ _ l0_0 _ _ l0_1 t708 _ ?side1 ?side2 ?side3 ?side4 A4.out).mono ?_); (case side1 => exact cq (Kd.C_below HR0_0.out HB.out)); (case side2 => exact HC0_0.out); (case side3 => exact cq (Kd.C_below HR0_1.out HB.out)); (case side4 => exact HC0_1.out); rintro e w9 ⟨v709, rfl, ho0, hb⟩; refine ⟨_, rfl, ?_⟩; have HO710 := am (Kd.R_lower ho0 (below_size (bel1 GE706.out))); replace BK706 := am (blk_below (bq BK706.out) hb); replace HB := am (below_step (bel1 GE706.out) hb); clear hb; clear ho0))
  go_ret
  exact ⟨_, eq_, by (with_reducible repeat (fail)); exact HO710.out, bel1 GE706.out⟩
 replace c3 := Bool.eq_false_iff.mpr c3; subst c3
 have H1 : (some (([] : List ByteArray))) = some r := b10_
 replace H := H1; clear H1
 obtain ⟨y711, hy711⟩ : ∃ y_ : List ByteArray, y_ = (([] : List ByteArray)) := ⟨_, rfl⟩
 rw [← hy711] at H
 have Ny711 := am hy711; clear hy711; obtain rfl := Option.some.inj H; go_enter Tryz.func10, Tryz.ntmps10
 go_wp2_with (first | ((with_reducible refine gate_dst (N := 1) rfl ?_); refine bx 1 (cs := #[.slice A0_0 l0_0.length c0_0, .slice A0_1 l0_1.length c0_1]) (t := 26) ?_; intro gb706 hg w10 hbox hb; have BK706 := am (hbox); have GW706 := am ((b15_ : w.heap.size ≤ gb706)); have GE706 := am ((b15_ : w.heap.size ≤ gb706)); replace HB := am (below_step bel hb); clear hb hbox hg; have ⟨hcz11_0, hcz11_1, hfz11_0, hfz11_1⟩ := b2c BK706.out) | ((with_reducible refine gate_callee (f := 17) rfl ?_); refine gl 4 Tryz.func17 #[.agg #[.slice A0_0 l0_0.length c0_0, .slice A0_1 l0_1.length c0_1]] ?_; (with_reducible refine (impl_BookOk.calls k _ _ l0_0 _ _ l0_1 false _ ?side1 ?side2 ?side3 ?side4 A2.out).mono ?_); (case side1 => exact cq (Kd.C_below HR0_0.out HB.out)); (case side2 => exact HC0_0.out); (case side3 => exact cq (Kd.C_below HR0_1.out HB.out)); (case side4 => exact HC0_1.out); rintro e w12 ⟨rfl, hb⟩; refine ⟨_, rfl, ?_⟩; replace BK706 := am (blk_below (bq BK706.out) hb); replace HB := am (below_step (bel1 GE706.out) hb); clear hb) | ((with_reducible refine gate_dst (N := 6) rfl ?_); refine Kd.R_lit Kd.string _ 9 ?hg (N := 6) ?hd (xs := ([] : List ByteArray)) (inner := []) (ok := fun _ => True) (okp := fun _ => True) ?hr ?hp (fun _ hk => hk) trivial (Below.refl _ _) (Nat.le_refl _) (by simp) ?_; (case hd => rfl); (case hg => rfl); (case hr => (go_simp; done)); (case hp => exact (Reps.none _ _)); intro v712 w13 ho14 hb hg_ hnew_; clear hg_ hnew_; (rw [← Ny711.out] at ho14); have HO713 := am (Kd.R_lower ho14 (below_size (bel1 GE706.out))); replace BK706 := am (blk_below (bq BK706.out) hb); replace HB := am (below_step (bel1 GE706.out) hb); clear hb ho14))
 go_ret
 exact ⟨_, eq_, by (with_reducible repeat (fail)); exact HO713.out, bel1 GE706.out⟩
-- shrunk

/-! ### laws_FnBookGuesses: function 3 -/
mutual
def laws_FnBookGuesses.j0 : Nat → ByteArray → List (S38) → Bool → List (S59) → List (S51) → Option (Bool)
 | 0, _, _, _, _, _ => none
 | k + 1, x4, x5, x37, x722000, x722001 => if x37 = true then ((spec_BookGuesses.f k x722000 x722001 x4).bind fun t731 => ((laws_mdGuesses.f k x5 t731).bind fun t734 => (some t734))) else ((impl_BookWords.f k x722000 x722001).bind fun t735 => (laws_FnBookGuesses.l0 k x4 x5 3 t735 0 x722000 x722001))
def laws_FnBookGuesses.l0 : Nat → ByteArray → List (S38) → Int → List ByteArray → Int → List (S59) → List (S51) → Option (Bool)
 | 0, _, _, _, _, _, _, _ => none
 | k + 1, x4, x5, x6, x7, x8, x722000, x722001 => if x8 < (x7.length : Int) then (if 0 ≤ x8 then ((impl_Far.f k (rdOf ByteArray.empty x7 x8) x4).bind fun t739 => (if t739 < x6 then (laws_FnBookGuesses.l0 k x4 x5 t739 x7 (wrap64 (x8 + 1)) x722000 x722001) else (laws_FnBookGuesses.l0 k x4 x5 x6 x7 (wrap64 (x8 + 1)) x722000 x722001))) else (none)) else (laws_FnBookGuesses.l1 k x5 x6 0 x722000 x722001)
def laws_FnBookGuesses.l1 : Nat → List (S38) → Int → Int → List (S59) → List (S51) → Option (Bool)
 | 0, _, _, _, _, _ => none
 | k + 1, x5, x6, x10, x722000, x722001 => if x10 < (x5.length : Int) then (if 0 ≤ x10 then (if ((rd_T38 x5 x10).f1) = x6 then ((impl_BookKnows.f k x722000 x722001 ((rd_T38 x5 x10).f0)).bind fun t742 => (if t742 = true then (laws_FnBookGuesses.l1 k x5 x6 (wrap64 (x10 + 1)) x722000 x722001) else (some false))) else (some false)) else (none)) else (if x6 = 1 then (some ((decide ((x5.length : Int) > 0)) == true)) else (some ((decide ((x5.length : Int) > 0)) == (x6 == 2))))
end
def laws_FnBookGuesses.f (k : Nat) (l0 : List Int) : Option (Bool) := if (l0.length : Int) > 1048576 then (some true) else ((spec_DrawBookGuesses.f k l0).bind fun bt714 => ((impl_BookGuesses.f k bt714.1 bt714.2.1 bt714.2.2).bind fun t722 => ((spec_BookGuesses.f k bt714.1 bt714.2.1 bt714.2.2).bind fun t725 => ((laws_mdGuesses.f k t722 t725).bind fun t728 => (if t728 = true then ((spec_BookOk.f k bt714.1 bt714.2.1).bind fun t729 => (if t729 = true then ((spec_WordOk.f k bt714.2.2).bind fun t730 => (laws_FnBookGuesses.j0 k bt714.2.2 t722 (!t730) bt714.1 bt714.2.1)) else (laws_FnBookGuesses.j0 k bt714.2.2 t722 true bt714.1 bt714.2.1))) else (laws_FnBookGuesses.j0 k bt714.2.2 t722 true bt714.1 bt714.2.1))))))
def laws_FnBookGuesses.T18 : Bool × List (List Nat × List Nat) := (true, [([], []), ([], []), ([0, 1], [0, 1]), ([2], [2]), ([3], [3]), ([], []), ([4, 5], [4, 5]), ([6], [6]), ([7], [7]), ([7], [7]), ([7], [7]), ([9, 10, 7], [7, 9, 10]), ([11, 7], [7, 11]), ([12, 7], [7, 12]), ([8, 13, 7, 7], [7, 8, 13]), ([14, 7], [7, 14]), ([7, 15], [7, 15])])
def laws_FnBookGuesses.B18 : List Nat := [0, 0, 3, 7, 15, 0, 63, 127, 255, 255, 255, 1791, 3839, 7935, 16383, 32767, 65535]
theorem laws_FnBookGuesses.tab18 : rtab .any (opsOf Tryz.f3 18) = laws_FnBookGuesses.T18 := by kernel_rfl
theorem laws_FnBookGuesses.bits18 : waitsOk laws_FnBookGuesses.T18.2 laws_FnBookGuesses.B18 = true := by kernel_rfl
theorem laws_FnBookGuesses.calls (k : Nat) (A0 : Option Addr) (c0 : Nat) (l0 : List Int) (r : Bool) (w : World) (hr0 : Kd.C (Kd.int .u8) w A0 l0.length l0) (hc0 : l0.length ≤ c0) (h : laws_FnBookGuesses.f k l0 = some r) :
  Calls Tryz.prog 3 #[.slice A0 l0.length c0] w fun e w' => e = .returned (.bool r) ∧ Below w.heap.size w w' := by
 have hu26 := Tryz.underlying26; have HR0 := am hr0; have HC0 := am hc0; clear hr0 hc0; have HB := am (Below.refl w.heap.size w)
 have H := h; unfold laws_FnBookGuesses.f at H
 clear h
 by_cases c2 : (l0.length : Int) > 1048576
 ·rw [if_pos c2] at H; have c2b0 := decide_eq_true c2
  have c2b1 : decide (1048576 < l0.length) = true := decide_eq_true (by omega)
  clear c2; obtain rfl := Option.some.inj H; go_enter Tryz.func3, Tryz.ntmps3; go_wp2; go_ret
  exact ⟨eq_, bel⟩
 rw [if_neg c2] at H; have c2b0 := decide_eq_false c2
 have c2b1 : decide (1048576 < l0.length) = false := decide_eq_false (by omega)
 clear c2; replace H := bs H; obtain ⟨⟨t714, t717, t720⟩, A30, H⟩ := H; dsimp only at H; have A3 := Aside0.mk A30; clear A30; replace H := bs H; obtain ⟨t722, A40, H⟩ := H; have A4 := Aside0.mk A40; clear A40; have HC5 := am H; clear H; go_enter Tryz.func3, Tryz.ntmps3
 go_upto_region 5 with (first | ((with_reducible refine gate_callee (f := 4) rfl ?_); refine gl 16 Tryz.func4 #[.slice A0 l0.length c0] ?_; (with_reducible refine (spec_DrawBookGuesses.calls k _ _ l0 t714 t717 t720 _ ?side1 ?side2 A3.out).mono ?_); (case side1 => repeat (exact HR0.out)); (case side2 => exact HC0.out); rintro e w6 ⟨v715, v718, rfl, ho0, ho1, hb⟩; refine ⟨_, rfl, ?_⟩; have HO716 := am (Kd.R_lower ho0 (below_size bel)); have HO719 := am (Kd.R_lower ho1 (below_size bel)); replace HB := am (below_step bel hb); clear hb; clear ho0 ho1) | ((with_reducible refine gate_dst (N := 3) rfl ?_); refine bx 3 (cs := #[.slice none 0 0, .slice none 0 0]) (t := 26) ?_; intro gb721 hg w7 hbox hb; replace HO716 := am (Kd.R_below (rq HO716.out) hb); replace HO719 := am (Kd.R_below (rq HO719.out) hb); have BK721 := am (hbox); have GW721 := am ((b15_ : w.heap.size ≤ gb721)); have GE721 := am ((b15_ : w.heap.size ≤ gb721)); replace HB := am (below_step bel hb); clear hb hbox hg; obtain ⟨Ao8, co8, eo8⟩ := Kd.R_slice HO716.out; subst eo8; have ⟨hcz9_0, hcz9_1, hfz9_0, hfz9_1⟩ := b2c BK721.out; obtain ⟨Ao10, co10, eo10⟩ := Kd.R_slice HO719.out; subst eo10) | ((with_reducible refine gate_callee (f := 5) rfl ?_); refine gl 21 Tryz.func5 #[.agg #[.slice Ao8 t714.length co8, .slice Ao10 t717.length co10], .string t720] ?_; (with_reducible refine (impl_BookGuesses.calls k _ _ t714 _ _ t717 t720 t722 _ ?side1 ?side2 ?side3 ?side4 A4.out).mono ?_); (case side1 => refine (Kd.R_reads' (e := 59) (base := w.heap.size) (ok := fun k_ => True) (n := t714.length) (c := co8) ?_).2.2; exact (rq ((Kd.R_mono (Kd.R_far (p := ⟨gb721, 1, none⟩) (Kd.R_far (p := ⟨gb721, 0, none⟩) (Kd.R_types HO716.out BK721.out (by decide)) (fun _ hk => hk.2) (.slice Ao8 t714.length co8)) (fun _ hk => hk.2) (.slice Ao10 t717.length co10)) (fun _ h_ => h_.1))))); (case side2 => exact (Kd.R_reads' HO716.out).2.1); (case side3 => refine (Kd.R_reads' (e := 51) (base := w.heap.size) (ok := fun k_ => True) (n := t717.length) (c := co10) ?_).2.2; exact (rq ((Kd.R_mono (Kd.R_far (p := ⟨gb721, 1, none⟩) (Kd.R_far (p := ⟨gb721, 0, none⟩) (Kd.R_types HO719.out BK721.out (by decide)) (fun _ hk => hk.2) (.slice Ao8 t714.length co8)) (fun _ hk => hk.2) (.slice Ao10 t717.length co10)) (fun _ h_ => h_.1))))); (case side4 => exact (Kd.R_reads' HO719.out).2.1); rintro e w11 ⟨v723, rfl, ho0, hb⟩; refine ⟨_, rfl, ?_⟩; replace HO716 := am (Kd.R_below (rq ((Kd.R_mono (Kd.R_far (p := ⟨gb721, 1, none⟩) (Kd.R_far (p := ⟨gb721, 0, none⟩) (Kd.R_types HO716.out BK721.out (by decide)) (fun _ hk => hk.2) (.slice Ao8 t714.length co8)) (fun _ hk => hk.2) (.slice Ao10 t717.length co10)) (fun _ h_ => h_.1)))) hb); replace HO719 := am (Kd.R_below (rq ((Kd.R_mono (Kd.R_far (p := ⟨gb721, 1, none⟩) (Kd.R_far (p := ⟨gb721, 0, none⟩) (Kd.R_types HO719.out BK721.out (by decide)) (fun _ hk => hk.2) (.slice Ao8 t714.length co8)) (fun _ hk => hk.2) (.slice Ao10 t717.length co10)) (fun _ h_ => h_.1)))) hb); have HO724 := am (Kd.R_lower ho0 (below_size (bel1 GE721.out))); replace BK721 := am (blk_below (g := gb721) (o := .cells #[.slice Ao8 t714.length co8, .slice Ao10 t717.length co10] 26 (0, 0)) (by (with_reducible repeat (fail)); refine blk_put (cs := #[.slice Ao8 t714.length co8, .slice none 0 0]) ?_ 1 _ rfl; (with_reducible repeat (fail)); refine blk_put (cs := #[.slice none 0 0, .slice none 0 0]) ?_ 0 _ rfl; (with_reducible repeat (fail)); exact BK721.out) hb); replace HB := am (below_step (bel1 GE721.out) hb); clear hb; clear ho0))
 go_cut [37] (fun v37 wc => ∃ (kq : Nat) (x37_4 : Bool), v37 = .bool x37_4 ∧ Aside0 (laws_FnBookGuesses.j0 kq t720 t722 x37_4 t714 t717 = some r) ∧ Aside0 (kq ≤ k) ∧ Aside0 (Kd.R k38 38 wc w.heap.size (fun _ => True) v723 t722) ∧ Aside0 (Kd.R k59 59 wc w.heap.size (fun _ => True) (.slice Ao8 t714.length co8) t714) ∧ Aside0 (Kd.R k51 51 wc w.heap.size (fun _ => True) (.slice Ao10 t717.length co10) t717) ∧ Aside0 (wc.heap[gb721]? = some (.cells #[(.slice Ao8 t714.length co8), (.slice Ao10 t717.length co10)] 26 (0, 0))) ∧ Aside0 (Below w.heap.size w wc))
 case first =>
  have H := HC5.out; clear HC5; replace H := bs H; obtain ⟨t725, A120, H⟩ := H; have A12 := Aside0.mk A120; clear A120; replace H := bs H; obtain ⟨t728, A130, H⟩ := H; have A13 := Aside0.mk A130; clear A130
  by_cases c14 : t728 = true
  ·subst c14
   have H1 : ((spec_BookOk.f k t714 t717).bind fun t729 => (if t729 = true then ((spec_WordOk.f k t720).bind fun t730 => (laws_FnBookGuesses.j0 k t720 t722 (!t730) t714 t717)) else (laws_FnBookGuesses.j0 k t720 t722 true t714 t717))) = some r := b26_
   replace H := H1; clear H1
   replace H := bs H; obtain ⟨t729, A150, H⟩ := H; have A15 := Aside0.mk A150; clear A150
   by_cases c16 : t729 = true
   ·subst c16
    have H1 : ((spec_WordOk.f k t720).bind fun t730 => (laws_FnBookGuesses.j0 k t720 t722 (!t730) t714 t717)) = some r := b26_
    replace H := H1; clear H1
    replace H := bs H; obtain ⟨t730, A170, H⟩ := H; have A17 := Aside0.mk A170; clear A170
    have H' := am H
    clear H; have ⟨hcz18_0, hcz18_1, hfz18_0, hfz18_1⟩ := b2c BK721.out
    go_wp2_with (first | ((with_reducible refine gate_callee (f := 7) rfl ?_); refine gl 25 Tryz.func7 #[.agg #[.slice Ao8 t714.length co8, .slice Ao10 t717.length co10], .string t720] ?_; (with_reducible refine (spec_BookGuesses.calls k _ _ t714 _ _ t717 t720 t725 _ ?side1 ?side2 ?side3 ?side4 A12.out).mono ?_); (case side1 => exact cq (Kd.R_reads' HO716.out).2.2); (case side2 => exact (Kd.R_reads' HO716.out).2.1); (case side3 => exact cq (Kd.R_reads' HO719.out).2.2); (case side4 => exact (Kd.R_reads' HO719.out).2.1); rintro e w19 ⟨v726, rfl, ho0, hb⟩; refine ⟨_, rfl, ?_⟩; replace HO716 := am (Kd.R_below (rq HO716.out) hb); replace HO719 := am (Kd.R_below (rq HO719.out) hb); have HO727 := am (Kd.R_lower (Kd.R_new' ho0 (Kd.R_lt (rq HO724.out))) (below_size (bel1 GE721.out))); replace HO724 := am (Kd.R_elder' (rq HO724.out) (Kd.R_base ho0) hb); replace BK721 := am (blk_below (bq BK721.out) hb); replace HB := am (below_step (bel1 GE721.out) hb); clear hb; clear ho0; obtain ⟨Ao20, co20, eo20⟩ := Kd.R_slice HO724.out; subst eo20; obtain ⟨Ao21, co21, eo21⟩ := Kd.R_slice HO727.out; subst eo21) | ((with_reducible refine gate_callee (f := 6) rfl ?_); refine gl 26 Tryz.func6 #[.slice Ao20 t722.length co20, .slice Ao21 t725.length co21] ?_; (with_reducible refine (laws_mdGuesses.calls k _ _ t722 _ _ t725 true _ ?side1 ?side2 ?side3 ?side4 A13.out).mono ?_); (case side1 => exact cq (Kd.R_reads' HO724.out).2.2); (case side2 => exact (Kd.R_reads' HO724.out).2.1); (case side3 => exact cq (Kd.R_reads' HO727.out).2.2); (case side4 => exact (Kd.R_reads' HO727.out).2.1); rintro e w' ⟨rfl, ⟨nd, rfl⟩⟩; refine ⟨_, rfl, ?_⟩; have ⟨hcz22_0, hcz22_1, hfz22_0, hfz22_1⟩ := b2c BK721.out) | (go_at_call 8; (with_reducible refine (spec_BookOk.calls k _ _ t714 _ _ t717 true _ ?side1 ?side2 ?side3 ?side4 A15.out).mono ?_); (case side1 => exact cq (Kd.R_reads' HO716.out).2.2); (case side2 => exact (Kd.R_reads' HO716.out).2.1); (case side3 => exact cq (Kd.R_reads' HO719.out).2.2); (case side4 => exact (Kd.R_reads' HO719.out).2.1); rintro e w23 ⟨rfl, hb⟩; replace HO716 := am (Kd.R_below (rq HO716.out) hb); replace HO719 := am (Kd.R_below (rq HO719.out) hb); replace HO724 := am (Kd.R_below (rq HO724.out) hb); replace HO727 := am (Kd.R_below (rq HO727.out) hb); replace BK721 := am (blk_below (bq BK721.out) hb); replace HB := am (below_step (bel1 GE721.out) hb); clear hb) | (go_at_call 9; (with_reducible refine (spec_WordOk.calls k t720 t730 _ A17.out).mono ?_); rintro e w' ⟨rfl, ⟨nd, rfl⟩⟩))
    go_meet
    case rel => exact ⟨_, (!t730), sq, H', ⟨b59_⟩, ⟨rq (Kd.R_mono HO724.out (fun _ hk => trivial))⟩, ⟨rq HO716.out⟩, ⟨rq HO719.out⟩, ⟨bq BK721.out⟩, ⟨bel1 GE721.out⟩⟩
   replace c16 := Bool.eq_false_iff.mpr c16; subst c16
   have H1 : (laws_FnBookGuesses.j0 k t720 t722 true t714 t717) = some r := b10_
   replace H := H1; clear H1
   have H' := am H
   clear H; have ⟨hcz24_0, hcz24_1, hfz24_0, hfz24_1⟩ := b2c BK721.out
   go_wp2_with (first | ((with_reducible refine gate_callee (f := 7) rfl ?_); refine gl 25 Tryz.func7 #[.agg #[.slice Ao8 t714.length co8, .slice Ao10 t717.length co10], .string t720] ?_; (with_reducible refine (spec_BookGuesses.calls k _ _ t714 _ _ t717 t720 t725 _ ?side1 ?side2 ?side3 ?side4 A12.out).mono ?_); (case side1 => exact cq (Kd.R_reads' HO716.out).2.2); (case side2 => exact (Kd.R_reads' HO716.out).2.1); (case side3 => exact cq (Kd.R_reads' HO719.out).2.2); (case side4 => exact (Kd.R_reads' HO719.out).2.1); rintro e w25 ⟨v726, rfl, ho0, hb⟩; refine ⟨_, rfl, ?_⟩; replace HO716 := am (Kd.R_below (rq HO716.out) hb); replace HO719 := am (Kd.R_below (rq HO719.out) hb); have HO727 := am (Kd.R_lower (Kd.R_new' ho0 (Kd.R_lt (rq HO724.out))) (below_size (bel1 GE721.out))); replace HO724 := am (Kd.R_elder' (rq HO724.out) (Kd.R_base ho0) hb); replace BK721 := am (blk_below (bq BK721.out) hb); replace HB := am (below_step (bel1 GE721.out) hb); clear hb; clear ho0; obtain ⟨Ao26, co26, eo26⟩ := Kd.R_slice HO724.out; subst eo26; obtain ⟨Ao27, co27, eo27⟩ := Kd.R_slice HO727.out; subst eo27) | ((with_reducible refine gate_callee (f := 6) rfl ?_); refine gl 26 Tryz.func6 #[.slice Ao26 t722.length co26, .slice Ao27 t725.length co27] ?_; (with_reducible refine (laws_mdGuesses.calls k _ _ t722 _ _ t725 true _ ?side1 ?side2 ?side3 ?side4 A13.out).mono ?_); (case side1 => exact cq (Kd.R_reads' HO724.out).2.2); (case side2 => exact (Kd.R_reads' HO724.out).2.1); (case side3 => exact cq (Kd.R_reads' HO727.out).2.2); (case side4 => exact (Kd.R_reads' HO727.out).2.1); rintro e w' ⟨rfl, ⟨nd, rfl⟩⟩; refine ⟨_, rfl, ?_⟩; have ⟨hcz28_0, hcz28_1, hfz28_0, hfz28_1⟩ := b2c BK721.out) | (go_at_call 8; (with_reducible refine (spec_BookOk.calls k _ _ t714 _ _ t717 false _ ?side1 ?side2 ?side3 ?side4 A15.out).mono ?_); (case side1 => exact cq (Kd.R_reads' HO716.out).2.2); (case side2 => exact (Kd.R_reads' HO716.out).2.1); (case side3 => exact cq (Kd.R_reads' HO719.out).2.2); (case side4 => exact (Kd.R_reads' HO719.out).2.1); rintro e w29 ⟨rfl, hb⟩; replace HO716 := am (Kd.R_below (rq HO716.out) hb); replace HO719 := am (Kd.R_below (rq HO719.out) hb); replace HO724 := am (Kd.R_below (rq HO724.out) hb); replace HO727 := am (Kd.R_below (rq HO727.out) hb); replace BK721 := am (blk_below (bq BK721.out) hb); replace HB := am (below_step (bel1 GE721.out) hb); clear hb))
   go_meet
   case rel => exact ⟨_, (true), sq, H', ⟨b59_⟩, ⟨rq (Kd.R_mono HO724.out (fun _ hk => trivial))⟩, ⟨rq HO716.out⟩, ⟨rq HO719.out⟩, ⟨bq BK721.out⟩, ⟨bel1 GE721.out⟩⟩
  replace c14 := Bool.eq_false_iff.mpr c14; subst c14
  have H1 : (laws_FnBookGuesses.j0 k t720 t722 true t714 t717) = some r := b10_
  replace H := H1; clear H1
  have H' := am H
  clear H; have ⟨hcz30_0, hcz30_1, hfz30_0, hfz30_1⟩ := b2c BK721.out
  go_wp2_with (first | ((with_reducible refine gate_callee (f := 7) rfl ?_); refine gl 25 Tryz.func7 #[.agg #[.slice Ao8 t714.length co8, .slice Ao10 t717.length co10], .string t720] ?_; (with_reducible refine (spec_BookGuesses.calls k _ _ t714 _ _ t717 t720 t725 _ ?side1 ?side2 ?side3 ?side4 A12.out).mono ?_); (case side1 => exact cq (Kd.R_reads' HO716.out).2.2); (case side2 => exact (Kd.R_reads' HO716.out).2.1); (case side3 => exact cq (Kd.R_reads' HO719.out).2.2); (case side4 => exact (Kd.R_reads' HO719.out).2.1); rintro e w31 ⟨v726, rfl, ho0, hb⟩; refine ⟨_, rfl, ?_⟩; replace HO716 := am (Kd.R_below (rq HO716.out) hb); replace HO719 := am (Kd.R_below (rq HO719.out) hb); have HO727 := am (Kd.R_lower (Kd.R_new' ho0 (Kd.R_lt (rq HO724.out))) (below_size (bel1 GE721.out))); replace HO724 := am (Kd.R_elder' (rq HO724.out) (Kd.R_base ho0) hb); replace BK721 := am (blk_below (bq BK721.out) hb); replace HB := am (below_step (bel1 GE721.out) hb); clear hb; clear ho0; obtain ⟨Ao32, co32, eo32⟩ := Kd.R_slice HO724.out; subst eo32; obtain ⟨Ao33, co33, eo33⟩ := Kd.R_slice HO727.out; subst eo33) | ((with_reducible refine gate_callee (f := 6) rfl ?_); refine gl 26 Tryz.func6 #[.slice Ao32 t722.length co32, .slice Ao33 t725.length co33] ?_; (with_reducible refine (laws_mdGuesses.calls k _ _ t722 _ _ t725 false _ ?side1 ?side2 ?side3 ?side4 A13.out).mono ?_); (case side1 => exact cq (Kd.R_reads' HO724.out).2.2); (case side2 => exact (Kd.R_reads' HO724.out).2.1); (case side3 => exact cq (Kd.R_reads' HO727.out).2.2); (case side4 => exact (Kd.R_reads' HO727.out).2.1); rintro e w' ⟨rfl, ⟨nd, rfl⟩⟩; refine ⟨_, rfl, ?_⟩))
  go_meet
  case rel => exact ⟨_, (true), sq, H', ⟨b59_⟩, ⟨rq (Kd.R_mono HO724.out (fun _ hk => trivial))⟩, ⟨rq HO716.out⟩, ⟨rq HO719.out⟩, ⟨bq BK721.out⟩, ⟨bel1 GE721.out⟩⟩
 case rest =>
  clear HC5; clear c2b0 c2b1 hcz9_0 hcz9_1 hfz9_0 hfz9_1; obtain ⟨kq, x37_4, rfl, HA, HJ4, HO_5, HO_722000, HO_722001, BK721, HB⟩ := hcut
  cases kq with
  | zero => exact absurd HA.out (by simp [laws_FnBookGuesses.j0])
  | succ kj4 =>
   have H := HA.out; clear HA; simp only [laws_FnBookGuesses.j0] at H
   by_cases c34 : x37_4 = true
   ·subst c34
    have H1 : ((spec_BookGuesses.f kj4 t714 t717 t720).bind fun t731 => ((laws_mdGuesses.f kj4 t722 t731).bind fun t734 => (some t734))) = some r := b26_
    replace H := H1; clear H1
    replace H := bs H; obtain ⟨t731, A350, H⟩ := H; have A35 := Aside0.mk A350; clear A350; replace H := bs H; obtain ⟨t734, A360, H⟩ := H; have A36 := Aside0.mk A360; clear A360; obtain rfl := Option.some.inj H; have ⟨hcz37_0, hcz37_1, hfz37_0, hfz37_1⟩ := b2c BK721.out
    go_wp2_with (first | ((with_reducible refine gate_callee (f := 7) rfl ?_); refine gl 41 Tryz.func7 #[.agg #[.slice Ao8 t714.length co8, .slice Ao10 t717.length co10], .string t720] ?_; (with_reducible refine (spec_BookGuesses.calls kj4 _ _ t714 _ _ t717 t720 t731 _ ?side1 ?side2 ?side3 ?side4 A35.out).mono ?_); (case side1 => exact cq (Kd.R_reads' HO_722000.out).2.2); (case side2 => exact (Kd.R_reads' HO_722000.out).2.1); (case side3 => exact cq (Kd.R_reads' HO_722001.out).2.2); (case side4 => exact (Kd.R_reads' HO_722001.out).2.1); rintro e w38 ⟨v732, rfl, ho0, hb⟩; refine ⟨_, rfl, ?_⟩; replace HO_722000 := am (Kd.R_below (rq HO_722000.out) hb); replace HO_722001 := am (Kd.R_below (rq HO_722001.out) hb); have HO733 := am (Kd.R_lower (Kd.R_new' ho0 (Kd.R_lt (rq HO_5.out))) (below_size (bel1 GE721.out))); replace HO_5 := am (Kd.R_elder' (rq HO_5.out) (Kd.R_base ho0) hb); replace BK721 := am (blk_below (bq BK721.out) hb); replace HB := am (below_step (bel1 GE721.out) hb); clear hb; clear ho0; obtain ⟨Ao39, co39, eo39⟩ := Kd.R_slice HO_5.out; subst eo39; obtain ⟨Ao40, co40, eo40⟩ := Kd.R_slice HO733.out; subst eo40) | ((with_reducible refine gate_callee (f := 6) rfl ?_); refine gl 42 Tryz.func6 #[.slice Ao39 t722.length co39, .slice Ao40 t731.length co40] ?_; (with_reducible refine (laws_mdGuesses.calls kj4 _ _ t722 _ _ t731 t734 _ ?side1 ?side2 ?side3 ?side4 A36.out).mono ?_); (case side1 => exact cq (Kd.R_reads' HO_5.out).2.2); (case side2 => exact (Kd.R_reads' HO_5.out).2.1); (case side3 => exact cq (Kd.R_reads' HO733.out).2.2); (case side4 => exact (Kd.R_reads' HO733.out).2.1); rintro e w' ⟨rfl, ⟨nd, rfl⟩⟩; refine ⟨_, rfl, ?_⟩))
    go_ret
    exact ⟨eq_, bel1 GE721.out⟩
   replace c34 := Bool.eq_false_iff.mpr c34; subst c34
   have H1 : ((impl_BookWords.f kj4 t714 t717).bind fun t735 => (laws_FnBookGuesses.l0 kj4 t720 t722 3 t735 0 t714 t717)) = some r := b10_
   replace H := H1; clear H1
   replace H := bs H; obtain ⟨t735, A410, H⟩ := H; have A41 := Aside0.mk A410; clear A410
   have H' := am H
   clear H; have ⟨hcz42_0, hcz42_1, hfz42_0, hfz42_1⟩ := b2c BK721.out
   go_wp2_with ((with_reducible refine gate_callee (f := 10) rfl ?_); refine gl 44 Tryz.func10 #[.agg #[.slice Ao8 t714.length co8, .slice Ao10 t717.length co10]] ?_; (with_reducible refine (impl_BookWords.calls kj4 _ _ t714 _ _ t717 t735 _ ?side1 ?side2 ?side3 ?side4 A41.out).mono ?_); (case side1 => exact cq (Kd.R_reads' HO_722000.out).2.2); (case side2 => exact (Kd.R_reads' HO_722000.out).2.1); (case side3 => exact cq (Kd.R_reads' HO_722001.out).2.2); (case side4 => exact (Kd.R_reads' HO_722001.out).2.1); rintro e w43 ⟨v736, rfl, ho0, hb⟩; refine ⟨_, rfl, ?_⟩; replace HO_5 := am (Kd.R_below (rq HO_5.out) hb); replace HO_722000 := am (Kd.R_below (rq HO_722000.out) hb); replace HO_722001 := am (Kd.R_below (rq HO_722001.out) hb); have HO737 := am (Kd.R_lower ho0 (below_size (bel1 GE721.out))); replace BK721 := am (blk_below (bq BK721.out) hb); replace HB := am (below_step (bel1 GE721.out) hb); clear hb; clear ho0)
   go_loopg [6, 8] kj4 (fun kq v6 v8 w' => ∃ (x6_2 : Int) (x8_2 : Int), v6 = .int .i64 x6_2 ∧ v8 = .int .i64 x8_2 ∧ Aside0 (laws_FnBookGuesses.l0 kq t720 t722 x6_2 t735 x8_2 t714 t717 = some r) ∧ Aside0 (kq ≤ kj4) ∧ Aside0 (Kd.R k38 38 w' w.heap.size (fun _ => True) v723 t722) ∧ Aside0 (Kd.R Kd.string 9 w' w.heap.size (fun _ => True) v736 t735) ∧ Aside0 (Kd.R k59 59 w' w.heap.size (fun _ => True) (.slice Ao8 t714.length co8) t714) ∧ Aside0 (Kd.R k51 51 w' w.heap.size (fun _ => True) (.slice Ao10 t717.length co10) t717) ∧ Aside0 (w'.heap[gb721]? = some (.cells #[(.slice Ao8 t714.length co8), (.slice Ao10 t717.length co10)] 26 (0, 0))) ∧ Aside0 (Below w.heap.size w w'))
   case atStart => exact ⟨(3), (0), sq, sq, H', ⟨Nat.le_refl _⟩, ⟨rq HO_5.out⟩, ⟨rq HO737.out⟩, ⟨rq HO_722000.out⟩, ⟨rq HO_722001.out⟩, ⟨bq BK721.out⟩, ⟨bel1 GE721.out⟩⟩
   case round =>
    clear H'; clear hcz42_0 hcz42_1 hfz42_0 hfz42_1; obtain ⟨x6_2, x8_2, rfl, rfl, HA, HK2, HO_5, HO_7, HO_722000, HO_722001, BK721, HB⟩ := hrel
    cases gk with
    | zero => exact absurd HA.out (by simp [laws_FnBookGuesses.l0])
    | succ k2 =>
     have H := HA.out; clear HA; simp only [laws_FnBookGuesses.l0] at H
     by_cases c44 : x8_2 < (t735.length : Int)
     ·rw [if_pos c44] at H; have c44b0 := decide_eq_true c44; clear c44
      replace H := it H; obtain ⟨c45b0, H⟩ := H; replace H := bs H; obtain ⟨t739, A460, H⟩ := H; have A46 := Aside0.mk A460; clear A460
      by_cases c47 : t739 < x6_2
      ·rw [if_pos c47] at H; have c47b0 := decide_eq_true c47; clear c47
       have H' := am H
       clear H; obtain ⟨Ao48, co48, eo48⟩ := Kd.R_slice HO_7.out; subst eo48
       have p738 : 0 ≤ (x8_2 : Int) := of_decide_eq_true ad
       have q738 : x8_2 < (t735.length : Int) := of_decide_eq_true ad
       obtain ⟨ad738, e738, hx738_0⟩ := Kd.at_string (Kd.R_reads' HO_7.out).2.2 x8_2 p738 q738; cases e738; replace p738 := eq_true p738; replace q738 := eq_true q738
       go_wp2_with ((with_reducible refine gate_callee (f := 11) rfl ?_); refine gl 56 Tryz.func11 #[.string (rdOf ByteArray.empty t735 x8_2), .string t720] ?_; (with_reducible refine (impl_Far.calls k2 (rdOf ByteArray.empty t735 x8_2) t720 t739 _ A46.out).mono ?_); rintro e w49 ⟨rfl, hb⟩; refine ⟨_, rfl, ?_⟩; replace HO_5 := am (Kd.R_below (rq HO_5.out) hb); replace HO_7 := am (Kd.R_below (rq HO_7.out) hb); replace HO_722000 := am (Kd.R_below (rq HO_722000.out) hb); replace HO_722001 := am (Kd.R_below (rq HO_722001.out) hb); replace BK721 := am (blk_below (bq BK721.out) hb); replace HB := am (below_step (bel1 GE721.out) hb); clear hb)
       go_roundg k2
       case measure => have := HJ4.out; have := HK2.out; omega
       case rel => exact ⟨(t739), (wrap64 (x8_2 + 1)), sq, sq, H', ⟨by have := HJ4.out; have := HK2.out; omega⟩, ⟨rq HO_5.out⟩, ⟨rq HO_7.out⟩, ⟨rq HO_722000.out⟩, ⟨rq HO_722001.out⟩, ⟨bq BK721.out⟩, ⟨bel1 GE721.out⟩⟩
      rw [if_neg c47] at H; have c47b0 := decide_eq_false c47; clear c47
      have H' := am H
      clear H; obtain ⟨Ao50, co50, eo50⟩ := Kd.R_slice HO_7.out; subst eo50
      have p738 : 0 ≤ (x8_2 : Int) := of_decide_eq_true ad
      have q738 : x8_2 < (t735.length : Int) := of_decide_eq_true ad
      obtain ⟨ad738, e738, hx738_0⟩ := Kd.at_string (Kd.R_reads' HO_7.out).2.2 x8_2 p738 q738; cases e738; replace p738 := eq_true p738; replace q738 := eq_true q738
      go_wp2_with ((with_reducible refine gate_callee (f := 11) rfl ?_); refine gl 56 Tryz.func11 #[.string (rdOf ByteArray.empty t735 x8_2), .string t720] ?_; (with_reducible refine (impl_Far.calls k2 (rdOf ByteArray.empty t735 x8_2) t720 t739 _ A46.out).mono ?_); rintro e w51 ⟨rfl, hb⟩; refine ⟨_, rfl, ?_⟩; replace HO_5 := am (Kd.R_below (rq HO_5.out) hb); replace HO_7 := am (Kd.R_below (rq HO_7.out) hb); replace HO_722000 := am (Kd.R_below (rq HO_722000.out) hb); replace HO_722001 := am (Kd.R_below (rq HO_722001.out) hb); replace BK721 := am (blk_below (bq BK721.out) hb); replace HB := am (below_step (bel1 GE721.out) hb); clear hb)
      go_roundg k2
      case measure => have := HJ4.out; have := HK2.out; omega
      case rel => exact ⟨(x6_2), (wrap64 (x8_2 + 1)), sq, sq, H', ⟨by have := HJ4.out; have := HK2.out; omega⟩, ⟨rq HO_5.out⟩, ⟨rq HO_7.out⟩, ⟨rq HO_722000.out⟩, ⟨rq HO_722001.out⟩, ⟨bq BK721.out⟩, ⟨bel1 GE721.out⟩⟩
     rw [if_neg c44] at H; have c44b0 := decide_eq_false c44; clear c44
     have H' := am H
     clear H; obtain ⟨Ao52, co52, eo52⟩ := Kd.R_slice HO_7.out; subst eo52; go_wp2
     go_loopg [10] k2 (fun kq v10 w' => ∃ (x10_3 : Int), v10 = .int .i64 x10_3 ∧ Aside0 (laws_FnBookGuesses.l1 kq t722 x6_2 x10_3 t714 t717 = some r) ∧ Aside0 (kq ≤ k2) ∧ Aside0 (Kd.R k38 38 w' w.heap.size (fun _ => True) v723 t722) ∧ Aside0 (Kd.R k59 59 w' w.heap.size (fun _ => True) (.slice Ao8 t714.length co8) t714) ∧ Aside0 (Kd.R k51 51 w' w.heap.size (fun _ => True) (.slice Ao10 t717.length co10) t717) ∧ Aside0 (w'.heap[gb721]? = some (.cells #[(.slice Ao8 t714.length co8), (.slice Ao10 t717.length co10)] 26 (0, 0))) ∧ Aside0 (Below w.heap.size w w'))
     case atStart => exact ⟨(0), sq, H', ⟨Nat.le_refl _⟩, ⟨rq HO_5.out⟩, ⟨rq HO_722000.out⟩, ⟨rq HO_722001.out⟩, ⟨bq BK721.out⟩, ⟨bel1 GE721.out⟩⟩
     case round =>
      clear H'; clear c44b0; obtain ⟨x10_3, rfl, HA, HK3, HO_5, HO_722000, HO_722001, BK721, HB⟩ := hrel
      cases gk with
      | zero => exact absurd HA.out (by simp [laws_FnBookGuesses.l1])
      | succ k3 =>
       have H := HA.out; clear HA; simp only [laws_FnBookGuesses.l1] at H
       by_cases c53 : x10_3 < (t722.length : Int)
       ·rw [if_pos c53] at H; have c53b0 := decide_eq_true c53; clear c53
        replace H := it H; obtain ⟨c54b0, H⟩ := H
        by_cases c55 : ((rd_T38 t722 x10_3).f1) = x6_2
        ·rw [if_pos c55] at H
         have c55b0 : (((rd_T38 t722 x10_3).f1) == x6_2) = true := beq_iff_eq.mpr c55
         have c55b1 : (((rd_T38 t722 x10_3).f1) != x6_2) = false := bne_eq_false_iff_eq.mpr c55
         clear c55; replace H := bs H; obtain ⟨t742, A560, H⟩ := H; have A56 := Aside0.mk A560; clear A560
         by_cases c57 : t742 = true
         ·subst c57
          have H1 : (laws_FnBookGuesses.l1 k3 t722 x6_2 (wrap64 (x10_3 + 1)) t714 t717) = some r := b26_
          replace H := H1; clear H1
          have H' := am H
          clear H; obtain ⟨Ao58, co58, eo58⟩ := Kd.R_slice HO_5.out; subst eo58
          try go_wp2
          replace HO_5 := am (Kd.R_drew HO_5.out); replace HO_722000 := am (Kd.R_drew HO_722000.out); replace HO_722001 := am (Kd.R_drew HO_722001.out); replace BK721 := am (blk_drew BK721.out); replace HB := am (below_drew1 HB.out)
          have p740 : 0 ≤ (x10_3 : Int) := of_decide_eq_true ad
          have q740 : x10_3 < (t722.length : Int) := of_decide_eq_true ad
          obtain ⟨ad740, e740, hx740_0, hx740_1⟩ := at_T38 (Kd.R_reads' HO_5.out).2.2 x10_3 p740 q740; cases e740; replace p740 := eq_true p740; replace q740 := eq_true q740
          have p741 : 0 ≤ (x10_3 : Int) := of_decide_eq_true ad
          have q741 : x10_3 < (t722.length : Int) := of_decide_eq_true ad
          obtain ⟨ad741, e741, hx741_0, hx741_1⟩ := at_T38 (Kd.R_reads' HO_5.out).2.2 x10_3 p741 q741
          obtain rfl : ad740 = ad741 := (by injection e741)
          replace p741 := eq_true p741; replace q741 := eq_true q741
          refine st (n := 17) (S := fun w' => w'.cell? ⟨gb721, 0, none⟩ = some (.slice Ao8 t714.length co8) ∧ w'.cell? ⟨gb721, 1, none⟩ = some (.slice Ao10 t717.length co10) ∧ w'.cell? (ad740.add ((x10_3).toNat * 2)) = some (.string ((rd_T38 t722 x10_3).f0)) ∧ w'.cell? ⟨(ad740.add ((x10_3).toNat * 2)).block, (ad740.add ((x10_3).toNat * 2)).off + 1, none⟩ = some (.int .i64 ((rd_T38 t722 x10_3).f1)) ∧ w'.cell? (ad740.add ((x10_3).toNat * 2)) = some (.string ((rd_T38 t722 x10_3).f0)) ∧ w'.cell? ⟨(ad740.add ((x10_3).toNat * 2)).block, (ad740.add ((x10_3).toNat * 2)).off + 1, none⟩ = some (.int .i64 ((rd_T38 t722 x10_3).f1))) (ds := []) ⟨bd BK721.out 0, bd BK721.out 1, hx740_0, hx740_1, hx741_0, hx741_1⟩ (fun hHeld => ?_); refine with_tabW laws_FnBookGuesses.tab18 laws_FnBookGuesses.bits18 (fun HT_ HW_ => ?_)
          generalize wr.drew = w59 at HO_5 HO_722000 HO_722001 BK721 HB hx740_0 hx740_1 hx741_0 hx741_1 hHeld ⊢; refine pu 0 67 ?_; refine pu 1 68 ?_; refine pu 2 69 ?_; refine pu 3 70 ?_; refine pu 5 72 ?_; refine tk6 4 71 hHeld ?_; refine pu 6 73 ?_; refine pu 7 74 ?_; refine pu 9 76 ?_; refine pu 10 77 ?_; refine pu 11 78 ?_; refine pu 12 79 ?_; refine tk6 8 75 hHeld ?_; refine tk6 13 80 hHeld ?_; refine on1 14 81 (fun K hK => ?_)
          refine go1 Tryz.func12 #[.agg #[.slice Ao8 t714.length co8, .slice Ao10 t717.length co10], .string ((rd_T38 t722 x10_3).f0)] ?_
          with_reducible refine (impl_BookKnows.calls k3 _ _ t714 _ _ t717 ((rd_T38 t722 x10_3).f0) true _ ?side1 ?side2 ?side3 ?side4 A56.out).mono ?_
          (case side1 => exact cq (Kd.R_reads' HO_722000.out).2.2); (case side2 => exact (Kd.R_reads' HO_722000.out).2.1); (case side3 => exact cq (Kd.R_reads' HO_722001.out).2.2); (case side4 => exact (Kd.R_reads' HO_722001.out).2.1)
          rintro e w60 ⟨rfl, hb⟩; have HS2_ := (hb.cell (World.block_lt_of_cell? _ _ (hHeld.2.2.1))).trans (hHeld.2.2.1); have HS3_ := (hb.cell (World.block_lt_of_cell? _ _ (hHeld.2.2.2.1))).trans (hHeld.2.2.2.1); have HS4_ := (hb.cell (World.block_lt_of_cell? _ _ (hHeld.2.2.2.2.1))).trans (hHeld.2.2.2.2.1); have HS5_ := (hb.cell (World.block_lt_of_cell? _ _ (hHeld.2.2.2.2.2))).trans (hHeld.2.2.2.2.2); refine ⟨_, rfl, ?_⟩; replace HO_5 := am (Kd.R_below (rq HO_5.out) hb); replace HO_722000 := am (Kd.R_below (rq HO_722000.out) hb); replace HO_722001 := am (Kd.R_below (rq HO_722001.out) hb); replace BK721 := am (blk_below (bq BK721.out) hb); replace HB := am (below_step (bel1 GE721.out) hb); clear hb; refine hK.out _ _ ⟨bd BK721.out 0, bd BK721.out 1, HS2_, HS3_, HS4_, HS5_⟩ (fun hHeld => ?_); clear hK K; refine nm 81 ?_; refine pu 15 82 ?_; refine pu 16 83 ?_
          refine done_ (done_of HT_.out (by kernel_rfl)) ?_
          try go_wp2
          go_roundg k3
          case measure => have := HJ4.out; have := HK2.out; have := HK3.out; omega
          case rel => exact ⟨(wrap64 (x10_3 + 1)), sq, H', ⟨by have := HJ4.out; have := HK2.out; have := HK3.out; omega⟩, ⟨rq HO_5.out⟩, ⟨rq HO_722000.out⟩, ⟨rq HO_722001.out⟩, ⟨bq BK721.out⟩, ⟨bel1 GE721.out⟩⟩
         replace c57 := Bool.eq_false_iff.mpr c57; subst c57
         have H1 : (some false) = some r := b10_
         replace H := H1; clear H1
         obtain rfl := Option.some.inj H; obtain ⟨Ao61, co61, eo61⟩ := Kd.R_slice HO_5.out; subst eo61
         try go_wp2
         replace HO_5 := am (Kd.R_drew HO_5.out); replace HO_722000 := am (Kd.R_drew HO_722000.out); replace HO_722001 := am (Kd.R_drew HO_722001.out); replace BK721 := am (blk_drew BK721.out); replace HB := am (below_drew1 HB.out)
         have p740 : 0 ≤ (x10_3 : Int) := of_decide_eq_true ad
         have q740 : x10_3 < (t722.length : Int) := of_decide_eq_true ad
         obtain ⟨ad740, e740, hx740_0, hx740_1⟩ := at_T38 (Kd.R_reads' HO_5.out).2.2 x10_3 p740 q740; cases e740; replace p740 := eq_true p740; replace q740 := eq_true q740
         have p741 : 0 ≤ (x10_3 : Int) := of_decide_eq_true ad
         have q741 : x10_3 < (t722.length : Int) := of_decide_eq_true ad
         obtain ⟨ad741, e741, hx741_0, hx741_1⟩ := at_T38 (Kd.R_reads' HO_5.out).2.2 x10_3 p741 q741
         obtain rfl : ad740 = ad741 := (by injection e741)
         replace p741 := eq_true p741; replace q741 := eq_true q741
         refine st (n := 17) (S := fun w' => w'.cell? ⟨gb721, 0, none⟩ = some (.slice Ao8 t714.length co8) ∧ w'.cell? ⟨gb721, 1, none⟩ = some (.slice Ao10 t717.length co10) ∧ w'.cell? (ad740.add ((x10_3).toNat * 2)) = some (.string ((rd_T38 t722 x10_3).f0)) ∧ w'.cell? ⟨(ad740.add ((x10_3).toNat * 2)).block, (ad740.add ((x10_3).toNat * 2)).off + 1, none⟩ = some (.int .i64 ((rd_T38 t722 x10_3).f1)) ∧ w'.cell? (ad740.add ((x10_3).toNat * 2)) = some (.string ((rd_T38 t722 x10_3).f0)) ∧ w'.cell? ⟨(ad740.add ((x10_3).toNat * 2)).block, (ad740.add ((x10_3).toNat * 2)).off + 1, none⟩ = some (.int .i64 ((rd_T38 t722 x10_3).f1))) (ds := []) ⟨bd BK721.out 0, bd BK721.out 1, hx740_0, hx740_1, hx741_0, hx741_1⟩ (fun hHeld => ?_); refine with_tabW laws_FnBookGuesses.tab18 laws_FnBookGuesses.bits18 (fun HT_ HW_ => ?_)
         generalize wr.drew = w62 at HO_5 HO_722000 HO_722001 BK721 HB hx740_0 hx740_1 hx741_0 hx741_1 hHeld ⊢; refine pu 0 67 ?_; refine pu 1 68 ?_; refine pu 2 69 ?_; refine pu 3 70 ?_; refine pu 5 72 ?_; refine tk6 4 71 hHeld ?_; refine pu 6 73 ?_; refine pu 7 74 ?_; refine pu 9 76 ?_; refine pu 10 77 ?_; refine pu 11 78 ?_; refine pu 12 79 ?_; refine tk6 8 75 hHeld ?_; refine tk6 13 80 hHeld ?_; refine on1 14 81 (fun K hK => ?_)
         refine go1 Tryz.func12 #[.agg #[.slice Ao8 t714.length co8, .slice Ao10 t717.length co10], .string ((rd_T38 t722 x10_3).f0)] ?_
         with_reducible refine (impl_BookKnows.calls k3 _ _ t714 _ _ t717 ((rd_T38 t722 x10_3).f0) false _ ?side1 ?side2 ?side3 ?side4 A56.out).mono ?_
         (case side1 => exact cq (Kd.R_reads' HO_722000.out).2.2); (case side2 => exact (Kd.R_reads' HO_722000.out).2.1); (case side3 => exact cq (Kd.R_reads' HO_722001.out).2.2); (case side4 => exact (Kd.R_reads' HO_722001.out).2.1)
         rintro e w63 ⟨rfl, hb⟩; have HS2_ := (hb.cell (World.block_lt_of_cell? _ _ (hHeld.2.2.1))).trans (hHeld.2.2.1); have HS3_ := (hb.cell (World.block_lt_of_cell? _ _ (hHeld.2.2.2.1))).trans (hHeld.2.2.2.1); have HS4_ := (hb.cell (World.block_lt_of_cell? _ _ (hHeld.2.2.2.2.1))).trans (hHeld.2.2.2.2.1); have HS5_ := (hb.cell (World.block_lt_of_cell? _ _ (hHeld.2.2.2.2.2))).trans (hHeld.2.2.2.2.2); refine ⟨_, rfl, ?_⟩; replace HO_5 := am (Kd.R_below (rq HO_5.out) hb); replace HO_722000 := am (Kd.R_below (rq HO_722000.out) hb); replace HO_722001 := am (Kd.R_below (rq HO_722001.out) hb); replace BK721 := am (blk_below (bq BK721.out) hb); replace HB := am (below_step (bel1 GE721.out) hb); clear hb; refine hK.out _ _ ⟨bd BK721.out 0, bd BK721.out 1, HS2_, HS3_, HS4_, HS5_⟩ (fun hHeld => ?_); clear hK K; refine nm 81 ?_; refine pu 15 82 ?_; refine pu 16 83 ?_
         refine done_ (done_of HT_.out (by kernel_rfl)) ?_
         try go_wp2
         go_ret
         exact ⟨eq_, bel1 GE721.out⟩
        rw [if_neg c55] at H
        have c55b0 : (((rd_T38 t722 x10_3).f1) == x6_2) = false := beq_eq_false_iff_ne.mpr c55
        have c55b1 : (((rd_T38 t722 x10_3).f1) != x6_2) = true := bne_iff_ne.mpr c55
        obtain rfl := Option.some.inj H; obtain ⟨Ao64, co64, eo64⟩ := Kd.R_slice HO_5.out; subst eo64
        try go_wp2
        replace HO_5 := am (Kd.R_drew HO_5.out); replace HO_722000 := am (Kd.R_drew HO_722000.out); replace HO_722001 := am (Kd.R_drew HO_722001.out); replace BK721 := am (blk_drew BK721.out); replace HB := am (below_drew1 HB.out)
        have p740 : 0 ≤ (x10_3 : Int) := of_decide_eq_true ad
        have q740 : x10_3 < (t722.length : Int) := of_decide_eq_true ad
        obtain ⟨ad740, e740, hx740_0, hx740_1⟩ := at_T38 (Kd.R_reads' HO_5.out).2.2 x10_3 p740 q740; cases e740; replace p740 := eq_true p740; replace q740 := eq_true q740
        refine st (n := 17) (S := fun w' => w'.cell? (ad740.add ((x10_3).toNat * 2)) = some (.string ((rd_T38 t722 x10_3).f0)) ∧ w'.cell? ⟨(ad740.add ((x10_3).toNat * 2)).block, (ad740.add ((x10_3).toNat * 2)).off + 1, none⟩ = some (.int .i64 ((rd_T38 t722 x10_3).f1))) (ds := []) ⟨hx740_0, hx740_1⟩ (fun hHeld => ?_); refine with_tabW laws_FnBookGuesses.tab18 laws_FnBookGuesses.bits18 (fun HT_ HW_ => ?_)
        generalize wr.drew = w65 at HO_5 HO_722000 HO_722001 BK721 HB hx740_0 hx740_1 hHeld ⊢; refine pu 0 67 ?_; refine pu 1 68 ?_; refine pu 2 69 ?_; refine pu 3 70 ?_; refine pu 5 72 ?_; refine tk2 4 71 hHeld ?_; refine pu 6 73 ?_; refine pu 7 74 ?_; refine puu 8 75 ?_; refine puu 9 76 ?_; refine puu 10 77 ?_; refine puu 11 78 ?_; refine puu 12 79 ?_; refine puu 13 80 ?_; refine puu 14 81 ?_; refine puu 15 82 ?_; refine pu 16 83 ?_
        refine done_ (done_of HT_.out (by kernel_rfl)) ?_
        try go_wp2
        go_ret
        exact ⟨eq_, bel1 GE721.out⟩
       rw [if_neg c53] at H; have c53b0 := decide_eq_false c53; clear c53
       by_cases c66 : x6_2 = 1
       ·rw [if_pos c66] at H
        have c66b0 : (x6_2 == 1) = true := beq_iff_eq.mpr c66
        have c66b1 : (x6_2 != 1) = false := bne_eq_false_iff_eq.mpr c66
        clear c66; obtain rfl := Option.some.inj H; obtain ⟨Ao67, co67, eo67⟩ := Kd.R_slice HO_5.out; subst eo67; go_wp2; go_ret
        exact ⟨eq_, bel1 GE721.out⟩
       rw [if_neg c66] at H
       have c66b0 : (x6_2 == 1) = false := beq_eq_false_iff_ne.mpr c66
       have c66b1 : (x6_2 != 1) = true := bne_iff_ne.mpr c66
       obtain rfl := Option.some.inj H; obtain ⟨Ao68, co68, eo68⟩ := Kd.R_slice HO_5.out; subst eo68; go_wp2; go_ret
       exact ⟨eq_, bel1 GE721.out⟩

/-- THE ONE PURE STATEMENT of laws_FnBookGuesses: yours. -/
def laws_FnBookGuesses.Pure : Prop := ∀ (l0 : List Int), l0.length ≤ maxLen → l0.length * 1 ≤ 140737488351232 → (∀ x ∈ l0, (Lit.int .u8 x).wf = true) → ∃ k, laws_FnBookGuesses.f k l0 = some true
theorem laws_FnBookGuesses.walk (P : laws_FnBookGuesses.Pure) (a0 : Option Addr) (len0 cap0 : Nat) (z0 : List Int) (w : World) (w0 : (a0 = none ∧ len0 = 0 ∧ cap0 = 0 ∧ z0 = []) ∨ ∃ x, a0 = some x ∧ len0 ≤ cap0 ∧ cap0 ≤ maxLen ∧ z0.length = cap0 ∧ (∀ i, i < z0.length → w.cell? (x.add i) = some (.int .u8 (z0.getD i 0))) ∧ ∀ n ∈ z0, (Lit.int .u8 n).wf = true) (y0 : len0 * 1 ≤ 140737488351232) :
  Calls Tryz.prog 3 #[.slice a0 len0 cap0] w fun e w' => e = .returned (.bool true) ∧ Below w.heap.size w w' := by
 obtain ⟨l0, rfl, hr0, hm0, hw0, hc0⟩ := ReadsInt.ofRowC w0; obtain ⟨k, h⟩ := P l0 hm0 y0 hw0
 refine (laws_FnBookGuesses.calls k _ _ l0 true w (Kd.C_of_reads (d := (0 : Int)) (h1 := fun _ => rfl) hr0) hc0 h).mono ?_
 rintro e w' ⟨rfl, hd⟩
 exact ⟨rfl, hd⟩
end Go.Proofs.YtdfnijaacnlfaaaGreat.QFnBookGuesses

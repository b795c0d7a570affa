import Derived.Test.YtdfnijaacnlfaaaQFnMachineGuessesx0
import Derived.Test.YtdfnijaacnlfaaaVMSh2
namespace Go.Proofs.Ytdfnijaacnlfaaa.QFnMachineGuesses
open Go.RowKit Go.Proofs.YtdfnijaacnlfaaaW.PrintWords Go.Proofs.YtdfnijaacnlfaaaW.PrintLast Go.Proofs.YtdfnijaacnlfaaaW.PrintMore Go.Proofs.Ytdfnijaacnlfaaa.Sh
attribute [local go_sem] max2_int min2_int max_two min_two max_three min_three max_four min_four
set_option linter.unusedVariables false
set_option linter.unusedSimpArgs false
set_option maxHeartbeats 8000000
set_option maxRecDepth 100000
-- shrunk

attribute [local go_sem high] eqA73
/-! ### spec_l1Rd_of: function 92 -/
def spec_l1Rd_of.f (k : Nat) (s0_0 : List Int) (s0_1 : Int) (l1 : List ByteArray) : Option (ByteArray × Int) := (spec_l1Rd_pick.f k s0_0 s0_1 (l1.length : Int)).bind fun bt217 => (if 0 ≤ bt217.1 then (if bt217.1 < (l1.length : Int) then (some (rdOf ByteArray.empty l1 bt217.1, bt217.2)) else (none)) else (none))
theorem spec_l1Rd_of.calls (k : Nat) (g : Nat) (s0_0 : List Int) (s0_1 : Int) (A1 : Option Addr) (c1 : Nat) (l1 : List ByteArray) (r1 : ByteArray) (r2 : Int) (w0 w : World) (hI : IsS114 w0 w g s0_0 s0_1) (hB : Below w0.heap.size w0 w) (hr1 : Kd.C Kd.string w A1 l1.length l1) (hc1 : l1.length ≤ c1) (hf1 : ∀ ad, A1 = some ad → 0 < l1.length → ad.block ≠ g) (h : spec_l1Rd_of.f k s0_0 s0_1 l1 = some (r1, r2)) :
  Calls Try.prog 92 #[.pointer (some ⟨g, 0, none⟩), .slice A1 l1.length c1] w fun e w' => e = .returned (.string r1) ∧ IsS114 w0 w' g s0_0 r2 ∧ Below w0.heap.size w0 w' ∧ KeepBut w w' g none := by
 have HR1 := am hr1; have HC1 := am hc1; clear hr1 hc1; have HI0 := am hI; have HK := am (KeepBut.refl w g none); have HL := am hB.size; clear hI; have HW0 := am hB.size; have HB := am hB; clear hB
 have H := h; unfold spec_l1Rd_of.f at H
 clear h; replace H := bs H; obtain ⟨⟨t217, t218⟩, A30, H⟩ := H; dsimp only at H; have A3 := Aside0.mk A30; clear A30
 replace H := it H; obtain ⟨c4b0, H⟩ := H
 replace H := it H; obtain ⟨c5b0, H⟩ := H
 simp only [Option.some.injEq, Prod.mk.injEq] at H
 obtain ⟨rfl, rfl⟩ := H; go_enter Try.func92, Try.ntmps92
 go_wp2_with ((with_reducible refine gate_callee (f := 53) rfl ?_); refine gl 9 Try.func53 #[.pointer (some ⟨g, 0, none⟩), .int .i64 (l1.length : Int)] ?_; (with_reducible refine (spec_l1Rd_pick.calls k g s0_0 s0_1 (l1.length : Int) t217 t218 w0 _ ?side1 ?side2 A3.out).mono ?_); (case side1 => repeat (with_reducible exact HI0.out)); (case side2 => repeat (with_reducible exact HB.out)); rintro e w6 ⟨rfl, hi, hb, hk⟩; refine ⟨_, rfl, ?_⟩; replace HK := am (KeepBut.trans b0_ hk (.inl rfl)); replace HB := am (hb); replace HI0 := am (hi); clear hb hk hi; have p219 : 0 ≤ (t217 : Int) := of_decide_eq_true ad; have q219 : t217 < (l1.length : Int) := of_decide_eq_true ad; obtain ⟨ad219, e219, hx219_0⟩ := Kd.at_string HR1.out t217 p219 q219; cases e219; replace hx219_0 := keep_cell HK.out hx219_0 (by (rw [add_block]; exact hf1 _ rfl (by omega))); replace p219 := eq_true p219; replace q219 := eq_true q219)
 go_ret
 exact ⟨eq_, b2_, b1_, b0_⟩

/-! ### spec_l1Least: function 126 -/
def spec_l1Least.f (a0 : Int) (a1 : Int) : Option (Int) := if a0 < a1 then (some a0) else (some a1)
theorem spec_l1Least.calls (a0 : Int) (a1 : Int) (r : Int) (w : World) (h : spec_l1Least.f a0 a1 = some r) :
  Calls Try.prog 126 #[.int .i64 a0, .int .i64 a1] w fun e w' => e = .returned (.int .i64 r) ∧ Drawn0 w w' := by
 have H := h; unfold spec_l1Least.f at H
 clear h
 by_cases c3 : a0 < a1
 ·rw [if_pos c3] at H; have c3b0 := decide_eq_true c3; clear c3; obtain rfl := Option.some.inj H; go_enter Try.func126, Try.ntmps126; go_wp2; go_ret
  exact ⟨sq, dr⟩
 rw [if_neg c3] at H; have c3b0 := decide_eq_false c3; clear c3; obtain rfl := Option.some.inj H; go_enter Try.func126, Try.ntmps126; go_wp2; go_ret
 exact ⟨sq, dr⟩

/-! ### spec_l13Word: function 103 -/
def spec_l13Word.l0 : Nat → ByteArray → Int → List Int → Int → Option (ByteArray × Int)
 | 0, _, _, _, _ => none
 | k + 1, x3, x4, x1000, x1001 => if x4 > 0 then ((spec_l1Rd_of.f k x1000 x1001 (([(⟨#[97]⟩ : ByteArray), (⟨#[98]⟩ : ByteArray), (⟨#[99]⟩ : ByteArray), (⟨#[97, 98]⟩ : ByteArray), (⟨#[116]⟩ : ByteArray)] : List ByteArray))).bind fun bt227 => (if x3.size + bt227.1.size ≤ 9223372036854775807 then (spec_l13Word.l0 k (x3 ++ bt227.1) (wrap64 (x4 - 1)) x1000 bt227.2) else (none))) else ((spec_l1Least.f (x3.size : Int) 12).bind fun t229 => (if 0 ≤ t229 then (if t229 ≤ (x3.size : Int) then (some (x3.extract 0 (t229 : Int).toNat, x1001)) else (none)) else (none)))
def spec_l13Word.f (k : Nat) (s0_0 : List Int) (s0_1 : Int) : Option (ByteArray × Int) := (spec_l1Rd_pick.f k s0_0 s0_1 3).bind fun bt220 => (if bt220.1 = 0 then ((spec_l1Rd_pick.f k s0_0 bt220.2 5).bind fun bt222 => (spec_l13Word.l0 k (⟨#[]⟩ : ByteArray) (wrap64 (1 + bt222.1)) s0_0 bt222.2)) else ((spec_l1Rd_of.f k s0_0 bt220.2 (([(⟨#[99, 97, 116]⟩ : ByteArray), (⟨#[99, 97, 116, 115]⟩ : ByteArray), (⟨#[97, 99, 116]⟩ : ByteArray), (⟨#[100, 111]⟩ : ByteArray), (⟨#[100, 111, 105, 110, 103]⟩ : ByteArray), (⟨#[103, 111]⟩ : ByteArray), (⟨#[117, 110, 100, 111]⟩ : ByteArray), (⟨#[116, 114, 121]⟩ : ByteArray), (⟨#[116, 114, 105, 101, 115]⟩ : ByteArray), (⟨#[97]⟩ : ByteArray), (⟨#[98, 97, 107, 101]⟩ : ByteArray), (⟨#[98, 97, 107, 105, 110, 103]⟩ : ByteArray), (⟨#[116, 97, 99, 116]⟩ : ByteArray), (⟨#[99, 97, 114, 116]⟩ : ByteArray), (⟨#[97, 98, 99, 97, 98, 99, 97, 98, 99, 97, 98, 99]⟩ : ByteArray)] : List ByteArray))).bind fun bt233 => (some (bt233.1, bt233.2))))
theorem spec_l13Word.calls (k : Nat) (g : Nat) (s0_0 : List Int) (s0_1 : Int) (r1 : ByteArray) (r2 : Int) (w0 w : World) (hI : IsS114 w0 w g s0_0 s0_1) (hB : Below w0.heap.size w0 w) (h : spec_l13Word.f k s0_0 s0_1 = some (r1, r2)) :
  Calls Try.prog 103 #[.pointer (some ⟨g, 0, none⟩)] w fun e w' => e = .returned (.string r1) ∧ IsS114 w0 w' g s0_0 r2 ∧ Below w0.heap.size w0 w' ∧ KeepBut w w' g none := by
 have HI0 := am hI; have HK := am (KeepBut.refl w g none); have HL := am hB.size; clear hI; have HW0 := am hB.size; have HB := am hB; clear hB
 have H := h; unfold spec_l13Word.f at H
 clear h; replace H := bs H; obtain ⟨⟨t220, t221⟩, A20, H⟩ := H; dsimp only at H; have A2 := Aside0.mk A20; clear A20
 by_cases c3 : t220 = 0
 ·rw [if_pos c3] at H
  have c3b0 : (t220 == 0) = true := beq_iff_eq.mpr c3
  have c3b1 : (t220 != 0) = false := bne_eq_false_iff_eq.mpr c3
  clear c3; replace H := bs H; obtain ⟨⟨t222, t223⟩, A40, H⟩ := H; dsimp only at H; have A4 := Aside0.mk A40; clear A40
  have H' := am H
  clear H; go_enter Try.func103, Try.ntmps103
  go_wp2_with (first | ((with_reducible refine gate_callee (f := 53) rfl ?_); refine gl 6 Try.func53 #[.pointer (some ⟨g, 0, none⟩), .int .i64 3] ?_; (with_reducible refine (spec_l1Rd_pick.calls k g s0_0 s0_1 3 t220 t221 w0 _ ?side1 ?side2 A2.out).mono ?_); (case side1 => repeat (with_reducible exact HI0.out)); (case side2 => repeat (with_reducible exact HB.out)); rintro e w5 ⟨rfl, hi, hb, hk⟩; refine ⟨_, rfl, ?_⟩; replace HK := am (KeepBut.trans b0_ hk (.inl rfl)); replace HB := am (hb); replace HI0 := am (hi); clear hb hk hi) | ((with_reducible refine gate_callee (f := 53) rfl ?_); refine gl 9 Try.func53 #[.pointer (some ⟨g, 0, none⟩), .int .i64 5] ?_; (with_reducible refine (spec_l1Rd_pick.calls k g s0_0 t221 5 t222 t223 w0 _ ?side1 ?side2 A4.out).mono ?_); (case side1 => repeat (with_reducible exact HI0.out)); (case side2 => repeat (with_reducible exact HB.out)); rintro e w6 ⟨rfl, hi, hb, hk⟩; refine ⟨_, rfl, ?_⟩; replace HK := am (KeepBut.trans b0_ hk (.inl rfl)); replace HB := am (hb); replace HI0 := am (hi); clear hb hk hi))
  go_loopg [3, 4] k (fun kq v3 v4 w' => ∃ (x3_1 : ByteArray) (x4_1 : Int) (x1001_1 : Int), v3 = .string x3_1 ∧ v4 = .int .i64 x4_1 ∧ Aside0 (spec_l13Word.l0 kq x3_1 x4_1 s0_0 x1001_1 = some (r1, r2)) ∧ Aside0 (kq ≤ k) ∧ Aside0 (IsS114 w0 w' g s0_0 x1001_1) ∧ Aside0 (KeepBut w w' g none) ∧ Aside0 (Below w0.heap.size w0 w'))
  case atStart => exact ⟨((⟨#[]⟩ : ByteArray)), (wrap64 (1 + t222)), (t223), sq, sq, H', ⟨Nat.le_refl _⟩, ⟨b2_⟩, ⟨b0_⟩, ⟨b1_⟩⟩
  case round =>
   clear H'; clear c3b0 c3b1; obtain ⟨x3_1, x4_1, x1001_1, rfl, rfl, HA, HK1, HI0, HK, HB⟩ := hrel
   cases gk with
   | zero => exact absurd HA.out (by simp [spec_l13Word.l0])
   | succ k1 =>
    have H := HA.out; clear HA; simp only [spec_l13Word.l0] at H
    by_cases c7 : x4_1 > 0
    ·rw [if_pos c7] at H; have c7b0 := decide_eq_true c7; clear c7; obtain ⟨y224, hy224⟩ : ∃ y_ : List ByteArray, y_ = (([(⟨#[97]⟩ : ByteArray), (⟨#[98]⟩ : ByteArray), (⟨#[99]⟩ : ByteArray), (⟨#[97, 98]⟩ : ByteArray), (⟨#[116]⟩ : ByteArray)] : List ByteArray)) := ⟨_, rfl⟩
     rw [← hy224] at H
     have Ny224 := am hy224; clear hy224; replace H := bs H; obtain ⟨⟨t227, t228⟩, A80, H⟩ := H; dsimp only at H; have A8 := Aside0.mk A80; clear A80; replace H := ip H; obtain ⟨c9, H⟩ := H; have c9b0 := eq_true c9
     have c9b1 : decide (x3_1.size + t227.size ≤ 9223372036854775807) = true := decide_eq_true c9
     have c9b2 : (9223372036854775807 < x3_1.size + t227.size) = False := eq_false (Nat.not_lt.2 c9)
     have H' := am H
     clear H
     go_wp2_with (first | ((with_reducible refine gate_dst (N := 17) rfl ?_); refine Kd.R_lit Kd.string _ 9 ?hg (N := 17) ?hd (xs := ([(⟨#[97]⟩ : ByteArray), (⟨#[98]⟩ : ByteArray), (⟨#[99]⟩ : ByteArray), (⟨#[97, 98]⟩ : ByteArray), (⟨#[116]⟩ : ByteArray)] : List ByteArray)) (inner := [.string (⟨#[97]⟩ : ByteArray), .string (⟨#[98]⟩ : ByteArray), .string (⟨#[99]⟩ : ByteArray), .string (⟨#[97, 98]⟩ : ByteArray), .string (⟨#[116]⟩ : ByteArray)]) (ok := fun _ => True) (okp := fun _ => True) ?hr ?hp (fun _ hk => hk) trivial (Below.refl _ _) (Nat.le_refl _) (by simp) ?_; (case hd => rfl); (case hg => rfl); (case hr => (go_simp; done)); (case hp => exact (Reps.one (show Kd.M Kd.string _ _ _ (⟨#[97]⟩ : ByteArray) [.string (⟨#[97]⟩ : ByteArray)] from rfl) (Reps.one (show Kd.M Kd.string _ _ _ (⟨#[98]⟩ : ByteArray) [.string (⟨#[98]⟩ : ByteArray)] from rfl) (Reps.one (show Kd.M Kd.string _ _ _ (⟨#[99]⟩ : ByteArray) [.string (⟨#[99]⟩ : ByteArray)] from rfl) (Reps.one (show Kd.M Kd.string _ _ _ (⟨#[97, 98]⟩ : ByteArray) [.string (⟨#[97, 98]⟩ : ByteArray)] from rfl) (Reps.one (show Kd.M Kd.string _ _ _ (⟨#[116]⟩ : ByteArray) [.string (⟨#[116]⟩ : ByteArray)] from rfl) (Reps.none _ _))))))); intro v225 w10 ho11 hb hg_ hnew_; clear hg_ hnew_; (rw [← Ny224.out] at ho11); have HO226 := am (Kd.R_lower ho11 (keep_size (w := w) (g := g) (row := none) b0_)); replace HK := am (KeepBut.trans b0_ (KeepBut.of_below hb g none) (.inl rfl)); replace HB := am (below_step b1_ hb); replace HI0 := am (IsS114.below b2_ hb); clear hb ho11; obtain ⟨Ao12, co12, eo12⟩ := Kd.R_slice HO226.out; subst eo12) | ((with_reducible refine gate_callee (f := 92) rfl ?_); refine gl 18 Try.func92 #[.pointer (some ⟨g, 0, none⟩), .slice Ao12 y224.length co12] ?_; (with_reducible refine (spec_l1Rd_of.calls k1 g s0_0 x1001_1 _ _ y224 t227 t228 w0 _ ?side1 ?side2 ?side3 ?side4 ?side5 A8.out).mono ?_); (case side1 => repeat (with_reducible exact HI0.out)); (case side2 => repeat (with_reducible exact HB.out)); (case side3 => exact cq (Kd.R_reads' HO226.out).2.2); (case side4 => exact (Kd.R_reads' HO226.out).2.1); (case side5 => exact far_slice (IsS114.own_ne HI0.out HO226.out (by decide))); rintro e w13 ⟨rfl, hi, hb, hk⟩; refine ⟨_, rfl, ?_⟩; replace HO226 := am (Kd.R_mono (Kd.R_keep (IsS114.apart (show IsS114 w0 _ g s0_0 x1001_1 from by repeat (with_reducible exact HI0.out)) (rq HO226.out) (by decide)) hk (fun _ h => h.2)) (fun _ h => h.1)); replace HK := am (KeepBut.trans b0_ hk (.inl rfl)); replace HB := am (hb); replace HI0 := am (hi); clear hb hk hi))
     go_roundg k1
     case measure => have := HK1.out; omega
     case rel => exact ⟨(x3_1 ++ t227), (wrap64 (x4_1 - 1)), (t228), sq, sq, H', ⟨b68_⟩, ⟨b2_⟩, ⟨b0_⟩, ⟨b1_⟩⟩
    rw [if_neg c7] at H; have c7b0 := decide_eq_false c7; clear c7; replace H := bs H; obtain ⟨t229, A140, H⟩ := H; have A14 := Aside0.mk A140; clear A140
    replace H := ip H; obtain ⟨c15, H⟩ := H; have c15b0 := eq_true c15
    have c15b1 : decide (0 ≤ t229) = true := decide_eq_true c15
    clear c15; replace H := ip H; obtain ⟨c16, H⟩ := H; have c16b0 := eq_true c16
    have c16b1 : decide (t229 ≤ (x3_1.size : Int)) = true := decide_eq_true c16
    clear c16; simp only [Option.some.injEq, Prod.mk.injEq] at H; obtain ⟨rfl, rfl⟩ := H
    go_wp2_with ((with_reducible refine gate_callee (f := 126) rfl ?_); refine gl 23 Try.func126 #[.int .i64 (x3_1.size : Int), .int .i64 12] ?_; (with_reducible refine (spec_l1Least.calls (x3_1.size : Int) 12 t229 _ A14.out).mono ?_); rintro e w' ⟨rfl, ⟨nd, rfl⟩⟩; refine ⟨_, rfl, ?_⟩)
    go_ret
    exact ⟨eq_, b2_, b1_, b0_⟩
 rw [if_neg c3] at H
 have c3b0 : (t220 == 0) = false := beq_eq_false_iff_ne.mpr c3
 have c3b1 : (t220 != 0) = true := bne_iff_ne.mpr c3
 obtain ⟨y230, hy230⟩ : ∃ y_ : List ByteArray, y_ = (([(⟨#[99, 97, 116]⟩ : ByteArray), (⟨#[99, 97, 116, 115]⟩ : ByteArray), (⟨#[97, 99, 116]⟩ : ByteArray), (⟨#[100, 111]⟩ : ByteArray), (⟨#[100, 111, 105, 110, 103]⟩ : ByteArray), (⟨#[103, 111]⟩ : ByteArray), (⟨#[117, 110, 100, 111]⟩ : ByteArray), (⟨#[116, 114, 121]⟩ : ByteArray), (⟨#[116, 114, 105, 101, 115]⟩ : ByteArray), (⟨#[97]⟩ : ByteArray), (⟨#[98, 97, 107, 101]⟩ : ByteArray), (⟨#[98, 97, 107, 105, 110, 103]⟩ : ByteArray), (⟨#[116, 97, 99, 116]⟩ : ByteArray), (⟨#[99, 97, 114, 116]⟩ : ByteArray), (⟨#[97, 98, 99, 97, 98, 99, 97, 98, 99, 97, 98, 99]⟩ : ByteArray)] : List ByteArray)) := ⟨_, rfl⟩
 rw [← hy230] at H
 have Ny230 := am hy230; clear hy230; replace H := bs H; obtain ⟨⟨t233, t234⟩, A170, H⟩ := H; dsimp only at H; have A17 := Aside0.mk A170; clear A170
 simp only [Option.some.injEq, Prod.mk.injEq] at H
 obtain ⟨rfl, rfl⟩ := H; go_enter Try.func103, Try.ntmps103
 go_wp2_with (first | ((with_reducible refine gate_callee (f := 53) rfl ?_); refine gl 6 Try.func53 #[.pointer (some ⟨g, 0, none⟩), .int .i64 3] ?_; (with_reducible refine (spec_l1Rd_pick.calls k g s0_0 s0_1 3 t220 t221 w0 _ ?side1 ?side2 A2.out).mono ?_); (case side1 => repeat (with_reducible exact HI0.out)); (case side2 => repeat (with_reducible exact HB.out)); rintro e w18 ⟨rfl, hi, hb, hk⟩; refine ⟨_, rfl, ?_⟩; replace HK := am (KeepBut.trans b0_ hk (.inl rfl)); replace HB := am (hb); replace HI0 := am (hi); clear hb hk hi) | ((with_reducible refine gate_dst (N := 26) rfl ?_); refine Kd.R_lit Kd.string _ 9 ?hg (N := 26) ?hd (xs := ([(⟨#[99, 97, 116]⟩ : ByteArray), (⟨#[99, 97, 116, 115]⟩ : ByteArray), (⟨#[97, 99, 116]⟩ : ByteArray), (⟨#[100, 111]⟩ : ByteArray), (⟨#[100, 111, 105, 110, 103]⟩ : ByteArray), (⟨#[103, 111]⟩ : ByteArray), (⟨#[117, 110, 100, 111]⟩ : ByteArray), (⟨#[116, 114, 121]⟩ : ByteArray), (⟨#[116, 114, 105, 101, 115]⟩ : ByteArray), (⟨#[97]⟩ : ByteArray), (⟨#[98, 97, 107, 101]⟩ : ByteArray), (⟨#[98, 97, 107, 105, 110, 103]⟩ : ByteArray), (⟨#[116, 97, 99, 116]⟩ : ByteArray), (⟨#[99, 97, 114, 116]⟩ : ByteArray), (⟨#[97, 98, 99, 97, 98, 99, 97, 98, 99, 97, 98, 99]⟩ : ByteArray)] : List ByteArray)) (inner := [.string (⟨#[99, 97, 116]⟩ : ByteArray), .string (⟨#[99, 97, 116, 115]⟩ : ByteArray), .string (⟨#[97, 99, 116]⟩ : ByteArray), .string (⟨#[100, 111]⟩ : ByteArray), .string (⟨#[100, 111, 105, 110, 103]⟩ : ByteArray), .string (⟨#[103, 111]⟩ : ByteArray), .string (⟨#[117, 110, 100, 111]⟩ : ByteArray), .string (⟨#[116, 114, 121]⟩ : ByteArray), .string (⟨#[116, 114, 105, 101, 115]⟩ : ByteArray), .string (⟨#[97]⟩ : ByteArray), .string (⟨#[98, 97, 107, 101]⟩ : ByteArray), .string (⟨#[98, 97, 107, 105, 110, 103]⟩ : ByteArray), .string (⟨#[116, 97, 99, 116]⟩ : ByteArray), .string (⟨#[99, 97, 114, 116]⟩ : ByteArray), .string (⟨#[97, 98, 99, 97, 98, 99, 97, 98, 99, 97, 98, 99]⟩ : ByteArray)]) (ok := fun _ => True) (okp := fun _ => True) ?hr ?hp (fun _ hk => hk) trivial (Below.refl _ _) (Nat.le_refl _) (by simp) ?_; (case hd => rfl); (case hg => rfl); (case hr => (go_simp; done)); (case hp => exact (Reps.one (show Kd.M Kd.string _ _ _ (⟨#[99, 97, 116]⟩ : ByteArray) [.string (⟨#[99, 97, 116]⟩ : ByteArray)] from rfl) (Reps.one (show Kd.M Kd.string _ _ _ (⟨#[99, 97, 116, 115]⟩ : ByteArray) [.string (⟨#[99, 97, 116, 115]⟩ : ByteArray)] from rfl) (Reps.one (show Kd.M Kd.string _ _ _ (⟨#[97, 99, 116]⟩ : ByteArray) [.string (⟨#[97, 99, 116]⟩ : ByteArray)] from rfl) (Reps.one (show Kd.M Kd.string _ _ _ (⟨#[100, 111]⟩ : ByteArray) [.string (⟨#[100, 111]⟩ : ByteArray)] from rfl) (Reps.one (show Kd.M Kd.string _ _ _ (⟨#[100, 111, 105, 110, 103]⟩ : ByteArray) [.string (⟨#[100, 111, 105, 110, 103]⟩ : ByteArray)] from rfl) (Reps.one (show Kd.M Kd.string _ _ _ (⟨#[103, 111]⟩ : ByteArray) [.string (⟨#[103, 111]⟩ : ByteArray)] from rfl) (Reps.one (show Kd.M Kd.string _ _ _ (⟨#[117, 110, 100, 111]⟩ : ByteArray) [.string (⟨#[117, 110, 100, 111]⟩ : ByteArray)] from rfl) (Reps.one (show Kd.M Kd.string _ _ _ (⟨#[116, 114, 121]⟩ : ByteArray) [.string (⟨#[116, 114, 121]⟩ : ByteArray)] from rfl) (Reps.one (show Kd.M Kd.string _ _ _ (⟨#[116, 114, 105, 101, 115]⟩ : ByteArray) [.string (⟨#[116, 114, 105, 101, 115]⟩ : ByteArray)] from rfl) (Reps.one (show Kd.M Kd.string _ _ _ (⟨#[97]⟩ : ByteArray) [.string (⟨#[97]⟩ : ByteArray)] from rfl) (Reps.one (show Kd.M Kd.string _ _ _ (⟨#[98, 97, 107, 101]⟩ : ByteArray) [.string (⟨#[98, 97, 107, 101]⟩ : ByteArray)] from rfl) (Reps.one (show Kd.M Kd.string _ _ _ (⟨#[98, 97, 107, 105, 110, 103]⟩ : ByteArray) [.string (⟨#[98, 97, 107, 105, 110, 103]⟩ : ByteArray)] from rfl) (Reps.one (show Kd.M Kd.string _ _ _ (⟨#[116, 97, 99, 116]⟩ : ByteArray) [.string (⟨#[116, 97, 99, 116]⟩ : ByteArray)] from rfl) (Reps.one (show Kd.M Kd.string _ _ _ (⟨#[99, 97, 114, 116]⟩ : ByteArray) [.string (⟨#[99, 97, 114, 116]⟩ : ByteArray)] from rfl) (Reps.one (show Kd.M Kd.string _ _ _ (⟨#[97, 98, 99, 97, 98, 99, 97, 98, 99, 97, 98, 99]⟩ : ByteArray) [.string (⟨#[97, 98, 99, 97, 98, 99, 97, 98, 99, 97, 98, 99]⟩ : ByteArray)] from rfl) (Reps.none _ _))))))))))))))))); intro v231 w19 ho20 hb hg_ hnew_; clear hg_ hnew_; (rw [← Ny230.out] at ho20); have HO232 := am (Kd.R_lower ho20 (keep_size (w := w) (g := g) (row := none) b0_)); replace HK := am (KeepBut.trans b0_ (KeepBut.of_below hb g none) (.inl rfl)); replace HB := am (below_step b1_ hb); replace HI0 := am (IsS114.below b2_ hb); clear hb ho20; obtain ⟨Ao21, co21, eo21⟩ := Kd.R_slice HO232.out; subst eo21) | ((with_reducible refine gate_callee (f := 92) rfl ?_); refine gl 27 Try.func92 #[.pointer (some ⟨g, 0, none⟩), .slice Ao21 y230.length co21] ?_; (with_reducible refine (spec_l1Rd_of.calls k g s0_0 t221 _ _ y230 t233 t234 w0 _ ?side1 ?side2 ?side3 ?side4 ?side5 A17.out).mono ?_); (case side1 => repeat (with_reducible exact HI0.out)); (case side2 => repeat (with_reducible exact HB.out)); (case side3 => exact cq (Kd.R_reads' HO232.out).2.2); (case side4 => exact (Kd.R_reads' HO232.out).2.1); (case side5 => exact far_slice (IsS114.own_ne HI0.out HO232.out (by decide))); rintro e w22 ⟨rfl, hi, hb, hk⟩; refine ⟨_, rfl, ?_⟩; replace HO232 := am (Kd.R_mono (Kd.R_keep (IsS114.apart (show IsS114 w0 _ g s0_0 t221 from by repeat (with_reducible exact HI0.out)) (rq HO232.out) (by decide)) hk (fun _ h => h.2)) (fun _ h => h.1)); replace HK := am (KeepBut.trans b0_ hk (.inl rfl)); replace HB := am (hb); replace HI0 := am (hi); clear hb hk hi))
 go_ret
 exact ⟨eq_, b2_, b1_, b0_⟩

/-! ### spec_l13Affix: function 114 -/
def spec_l13Affix.f (k : Nat) (s0_0 : List Int) (s0_1 : Int) : Option (ByteArray × Bool × ByteArray × ByteArray × ByteArray × Int) := (some (([(⟨(⟨#[83]⟩ : ByteArray), false, (⟨#[]⟩ : ByteArray), (⟨#[115]⟩ : ByteArray), (⟨#[]⟩ : ByteArray)⟩ : S73), (⟨(⟨#[83]⟩ : ByteArray), false, (⟨#[121]⟩ : ByteArray), (⟨#[105, 101, 115]⟩ : ByteArray), (⟨#[121]⟩ : ByteArray)⟩ : S73), (⟨(⟨#[71]⟩ : ByteArray), false, (⟨#[]⟩ : ByteArray), (⟨#[105, 110, 103]⟩ : ByteArray), (⟨#[]⟩ : ByteArray)⟩ : S73), (⟨(⟨#[71]⟩ : ByteArray), false, (⟨#[101]⟩ : ByteArray), (⟨#[105, 110, 103]⟩ : ByteArray), (⟨#[101]⟩ : ByteArray)⟩ : S73), (⟨(⟨#[85]⟩ : ByteArray), true, (⟨#[]⟩ : ByteArray), (⟨#[117, 110]⟩ : ByteArray), (⟨#[]⟩ : ByteArray)⟩ : S73), (⟨(⟨#[82]⟩ : ByteArray), true, (⟨#[97]⟩ : ByteArray), (⟨#[98]⟩ : ByteArray), (⟨#[97]⟩ : ByteArray)⟩ : S73), (⟨(⟨#[84]⟩ : ByteArray), false, (⟨#[]⟩ : ByteArray), (⟨#[116]⟩ : ByteArray), (⟨#[97, 99]⟩ : ByteArray)⟩ : S73), (⟨(⟨#[67]⟩ : ByteArray), false, (⟨#[]⟩ : ByteArray), (⟨#[97, 98, 99]⟩ : ByteArray), (⟨#[]⟩ : ByteArray)⟩ : S73)] : List (S73)) : List (S73))).bind fun y236 => ((spec_l1Rd_pick.f k s0_0 s0_1 (y236.length : Int)).bind fun bt239 => (if 0 ≤ bt239.1 then (if bt239.1 < (y236.length : Int) then (some ((rd_T73 y236 bt239.1).f0, (rd_T73 y236 bt239.1).f1, (rd_T73 y236 bt239.1).f2, (rd_T73 y236 bt239.1).f3, (rd_T73 y236 bt239.1).f4, bt239.2)) else (none)) else (none)))
theorem spec_l13Affix.calls (k : Nat) (g : Nat) (s0_0 : List Int) (s0_1 : Int) (r1 : ByteArray) (r2 : Bool) (r3 : ByteArray) (r4 : ByteArray) (r5 : ByteArray) (r6 : Int) (w0 w : World) (hI : IsS114 w0 w g s0_0 s0_1) (hB : Below w0.heap.size w0 w) (h : spec_l13Affix.f k s0_0 s0_1 = some (r1, r2, r3, r4, r5, r6)) :
  Calls Try.prog 114 #[.pointer (some ⟨g, 0, none⟩)] w fun e w' => e = .returned (.agg #[.string r1, .bool r2, .string r3, .string r4, .string r5]) ∧ IsS114 w0 w' g s0_0 r6 ∧ Below w0.heap.size w0 w' ∧ KeepBut w w' g none := by
 have hu73 := Try.underlying73; have HI0 := am hI; have HK := am (KeepBut.refl w g none); have HL := am hB.size; clear hI; have HW0 := am hB.size; have HB := am hB; clear hB
 have H := h; unfold spec_l13Affix.f at H
 clear h; obtain ⟨y236, hy236⟩ : ∃ y_ : List (S73), y_ = (([(⟨(⟨#[83]⟩ : ByteArray), false, (⟨#[]⟩ : ByteArray), (⟨#[115]⟩ : ByteArray), (⟨#[]⟩ : ByteArray)⟩ : S73), (⟨(⟨#[83]⟩ : ByteArray), false, (⟨#[121]⟩ : ByteArray), (⟨#[105, 101, 115]⟩ : ByteArray), (⟨#[121]⟩ : ByteArray)⟩ : S73), (⟨(⟨#[71]⟩ : ByteArray), false, (⟨#[]⟩ : ByteArray), (⟨#[105, 110, 103]⟩ : ByteArray), (⟨#[]⟩ : ByteArray)⟩ : S73), (⟨(⟨#[71]⟩ : ByteArray), false, (⟨#[101]⟩ : ByteArray), (⟨#[105, 110, 103]⟩ : ByteArray), (⟨#[101]⟩ : ByteArray)⟩ : S73), (⟨(⟨#[85]⟩ : ByteArray), true, (⟨#[]⟩ : ByteArray), (⟨#[117, 110]⟩ : ByteArray), (⟨#[]⟩ : ByteArray)⟩ : S73), (⟨(⟨#[82]⟩ : ByteArray), true, (⟨#[97]⟩ : ByteArray), (⟨#[98]⟩ : ByteArray), (⟨#[97]⟩ : ByteArray)⟩ : S73), (⟨(⟨#[84]⟩ : ByteArray), false, (⟨#[]⟩ : ByteArray), (⟨#[116]⟩ : ByteArray), (⟨#[97, 99]⟩ : ByteArray)⟩ : S73), (⟨(⟨#[67]⟩ : ByteArray), false, (⟨#[]⟩ : ByteArray), (⟨#[97, 98, 99]⟩ : ByteArray), (⟨#[]⟩ : ByteArray)⟩ : S73)] : List (S73))) := ⟨_, rfl⟩
 replace H := bm H; rw [← hy236] at H
 have Ny236 := am hy236; clear hy236; replace H := bs H; obtain ⟨⟨t239, t240⟩, A20, H⟩ := H; dsimp only at H; have A2 := Aside0.mk A20; clear A20
 replace H := it H; obtain ⟨c3b0, H⟩ := H
 replace H := it H; obtain ⟨c4b0, H⟩ := H
 simp only [Option.some.injEq, Prod.mk.injEq] at H
 obtain ⟨rfl, rfl, rfl, rfl, rfl, rfl⟩ := H; go_enter Try.func114, Try.ntmps114
 go_wp2_with (first | ((with_reducible refine gate_dst (N := 2) rfl ?_); refine bx 2 (cs := #[.string (⟨#[]⟩ : ByteArray), .bool false, .string (⟨#[]⟩ : ByteArray), .string (⟨#[]⟩ : ByteArray), .string (⟨#[]⟩ : ByteArray)]) (t := 73) ?_; intro gb235 hg w5 hbox hb; replace HB := am (below_step b1_ hb); have BK235 := am (hbox); have GW235 := am ((b8_ : w.heap.size ≤ gb235)); have GE235 := am ((Nat.le_trans HW0.out (b8_ : w.heap.size ≤ gb235) : w0.heap.size ≤ gb235)); replace HK := am (KeepBut.trans b0_ (KeepBut.of_below hb g none) (.inl rfl)); have NB0_235 := am ((b48_ : g ≠ gb235)); have NB235_0 := am ((b49_ : gb235 ≠ g)); replace HI0 := am (IsS114.below b2_ hb); clear hb hbox hg) | ((with_reducible refine gate_dst (N := 12) rfl ?_); refine Kd.R_lit k73 _ 73 ?hg (N := 12) ?hd (xs := ([(⟨(⟨#[83]⟩ : ByteArray), false, (⟨#[]⟩ : ByteArray), (⟨#[115]⟩ : ByteArray), (⟨#[]⟩ : ByteArray)⟩ : S73), (⟨(⟨#[83]⟩ : ByteArray), false, (⟨#[121]⟩ : ByteArray), (⟨#[105, 101, 115]⟩ : ByteArray), (⟨#[121]⟩ : ByteArray)⟩ : S73), (⟨(⟨#[71]⟩ : ByteArray), false, (⟨#[]⟩ : ByteArray), (⟨#[105, 110, 103]⟩ : ByteArray), (⟨#[]⟩ : ByteArray)⟩ : S73), (⟨(⟨#[71]⟩ : ByteArray), false, (⟨#[101]⟩ : ByteArray), (⟨#[105, 110, 103]⟩ : ByteArray), (⟨#[101]⟩ : ByteArray)⟩ : S73), (⟨(⟨#[85]⟩ : ByteArray), true, (⟨#[]⟩ : ByteArray), (⟨#[117, 110]⟩ : ByteArray), (⟨#[]⟩ : ByteArray)⟩ : S73), (⟨(⟨#[82]⟩ : ByteArray), true, (⟨#[97]⟩ : ByteArray), (⟨#[98]⟩ : ByteArray), (⟨#[97]⟩ : ByteArray)⟩ : S73), (⟨(⟨#[84]⟩ : ByteArray), false, (⟨#[]⟩ : ByteArray), (⟨#[116]⟩ : ByteArray), (⟨#[97, 99]⟩ : ByteArray)⟩ : S73), (⟨(⟨#[67]⟩ : ByteArray), false, (⟨#[]⟩ : ByteArray), (⟨#[97, 98, 99]⟩ : ByteArray), (⟨#[]⟩ : ByteArray)⟩ : S73)] : List (S73))) (inner := [.string (⟨#[83]⟩ : ByteArray), .bool false, .string (⟨#[]⟩ : ByteArray), .string (⟨#[115]⟩ : ByteArray), .string (⟨#[]⟩ : ByteArray), .string (⟨#[83]⟩ : ByteArray), .bool false, .string (⟨#[121]⟩ : ByteArray), .string (⟨#[105, 101, 115]⟩ : ByteArray), .string (⟨#[121]⟩ : ByteArray), .string (⟨#[71]⟩ : ByteArray), .bool false, .string (⟨#[]⟩ : ByteArray), .string (⟨#[105, 110, 103]⟩ : ByteArray), .string (⟨#[]⟩ : ByteArray), .string (⟨#[71]⟩ : ByteArray), .bool false, .string (⟨#[101]⟩ : ByteArray), .string (⟨#[105, 110, 103]⟩ : ByteArray), .string (⟨#[101]⟩ : ByteArray), .string (⟨#[85]⟩ : ByteArray), .bool true, .string (⟨#[]⟩ : ByteArray), .string (⟨#[117, 110]⟩ : ByteArray), .string (⟨#[]⟩ : ByteArray), .string (⟨#[82]⟩ : ByteArray), .bool true, .string (⟨#[97]⟩ : ByteArray), .string (⟨#[98]⟩ : ByteArray), .string (⟨#[97]⟩ : ByteArray), .string (⟨#[84]⟩ : ByteArray), .bool false, .string (⟨#[]⟩ : ByteArray), .string (⟨#[116]⟩ : ByteArray), .string (⟨#[97, 99]⟩ : ByteArray), .string (⟨#[67]⟩ : ByteArray), .bool false, .string (⟨#[]⟩ : ByteArray), .string (⟨#[97, 98, 99]⟩ : ByteArray), .string (⟨#[]⟩ : ByteArray)]) (ok := fun _ => True) (okp := fun _ => True) ?hr ?hp (fun _ hk => hk) trivial (Below.refl _ _) (Nat.le_refl _) (by simp) ?_; (case hd => rfl); (case hg => rfl); (case hr => (go_simp; done)); (case hp => exact (Reps.c5 (show Kd.M k73 _ _ _ (⟨(⟨#[83]⟩ : ByteArray), false, (⟨#[]⟩ : ByteArray), (⟨#[115]⟩ : ByteArray), (⟨#[]⟩ : ByteArray)⟩ : S73) [.string (⟨#[83]⟩ : ByteArray), .bool false, .string (⟨#[]⟩ : ByteArray), .string (⟨#[115]⟩ : ByteArray), .string (⟨#[]⟩ : ByteArray)] from (k73_mkM _ _ _ (⟨(⟨#[83]⟩ : ByteArray), false, (⟨#[]⟩ : ByteArray), (⟨#[115]⟩ : ByteArray), (⟨#[]⟩ : ByteArray)⟩ : S73) )) (Reps.c5 (show Kd.M k73 _ _ _ (⟨(⟨#[83]⟩ : ByteArray), false, (⟨#[121]⟩ : ByteArray), (⟨#[105, 101, 115]⟩ : ByteArray), (⟨#[121]⟩ : ByteArray)⟩ : S73) [.string (⟨#[83]⟩ : ByteArray), .bool false, .string (⟨#[121]⟩ : ByteArray), .string (⟨#[105, 101, 115]⟩ : ByteArray), .string (⟨#[121]⟩ : ByteArray)] from (k73_mkM _ _ _ (⟨(⟨#[83]⟩ : ByteArray), false, (⟨#[121]⟩ : ByteArray), (⟨#[105, 101, 115]⟩ : ByteArray), (⟨#[121]⟩ : ByteArray)⟩ : S73) )) (Reps.c5 (show Kd.M k73 _ _ _ (⟨(⟨#[71]⟩ : ByteArray), false, (⟨#[]⟩ : ByteArray), (⟨#[105, 110, 103]⟩ : ByteArray), (⟨#[]⟩ : ByteArray)⟩ : S73) [.string (⟨#[71]⟩ : ByteArray), .bool false, .string (⟨#[]⟩ : ByteArray), .string (⟨#[105, 110, 103]⟩ : ByteArray), .string (⟨#[]⟩ : ByteArray)] from (k73_mkM _ _ _ (⟨(⟨#[71]⟩ : ByteArray), false, (⟨#[]⟩ : ByteArray), (⟨#[105, 110, 103]⟩ : ByteArray), (⟨#[]⟩ : ByteArray)⟩ : S73) )) (Reps.c5 (show Kd.M k73 _ _ _ (⟨(⟨#[71]⟩ : ByteArray), false, (⟨#[101]⟩ : ByteArray), (⟨#[105, 110, 103]⟩ : ByteArray), (⟨#[101]⟩ : ByteArray)⟩ : S73) [.string (⟨#[71]⟩ : ByteArray), .bool false, .string (⟨#[101]⟩ : ByteArray), .string (⟨#[105, 110, 103]⟩ : ByteArray), .string (⟨#[101]⟩ : ByteArray)] from (k73_mkM _ _ _ (⟨(⟨#[71]⟩ : ByteArray), false, (⟨#[101]⟩ : ByteArray), (⟨#[105, 110, 103]⟩ : ByteArray), (⟨#[101]⟩ : ByteArray)⟩ : S73) )) (Reps.c5 (show Kd.M k73 _ _ _ (⟨(⟨#[85]⟩ : ByteArray), true, (⟨#[]⟩ : ByteArray), (⟨#[117, 110]⟩ : ByteArray), (⟨#[]⟩ : ByteArray)⟩ : S73) [.string (⟨#[85]⟩ : ByteArray), .bool true, .string (⟨#[]⟩ : ByteArray), .string (⟨#[117, 110]⟩ : ByteArray), .string (⟨#[]⟩ : ByteArray)] from (k73_mkM _ _ _ (⟨(⟨#[85]⟩ : ByteArray), true, (⟨#[]⟩ : ByteArray), (⟨#[117, 110]⟩ : ByteArray), (⟨#[]⟩ : ByteArray)⟩ : S73) )) (Reps.c5 (show Kd.M k73 _ _ _ (⟨(⟨#[82]⟩ : ByteArray), true, (⟨#[97]⟩ : ByteArray), (⟨#[98]⟩ : ByteArray), (⟨#[97]⟩ : ByteArray)⟩ : S73) [.string (⟨#[82]⟩ : ByteArray), .bool true, .string (⟨#[97]⟩ : ByteArray), .string (⟨#[98]⟩ : ByteArray), .string (⟨#[97]⟩ : ByteArray)] from (k73_mkM _ _ _ (⟨(⟨#[82]⟩ : ByteArray), true, (⟨#[97]⟩ : ByteArray), (⟨#[98]⟩ : ByteArray), (⟨#[97]⟩ : ByteArray)⟩ : S73) )) (Reps.c5 (show Kd.M k73 _ _ _ (⟨(⟨#[84]⟩ : ByteArray), false, (⟨#[]⟩ : ByteArray), (⟨#[116]⟩ : ByteArray), (⟨#[97, 99]⟩ : ByteArray)⟩ : S73) [.string (⟨#[84]⟩ : ByteArray), .bool false, .string (⟨#[]⟩ : ByteArray), .string (⟨#[116]⟩ : ByteArray), .string (⟨#[97, 99]⟩ : ByteArray)] from (k73_mkM _ _ _ (⟨(⟨#[84]⟩ : ByteArray), false, (⟨#[]⟩ : ByteArray), (⟨#[116]⟩ : ByteArray), (⟨#[97, 99]⟩ : ByteArray)⟩ : S73) )) (Reps.c5 (show Kd.M k73 _ _ _ (⟨(⟨#[67]⟩ : ByteArray), false, (⟨#[]⟩ : ByteArray), (⟨#[97, 98, 99]⟩ : ByteArray), (⟨#[]⟩ : ByteArray)⟩ : S73) [.string (⟨#[67]⟩ : ByteArray), .bool false, .string (⟨#[]⟩ : ByteArray), .string (⟨#[97, 98, 99]⟩ : ByteArray), .string (⟨#[]⟩ : ByteArray)] from (k73_mkM _ _ _ (⟨(⟨#[67]⟩ : ByteArray), false, (⟨#[]⟩ : ByteArray), (⟨#[97, 98, 99]⟩ : ByteArray), (⟨#[]⟩ : ByteArray)⟩ : S73) )) (Reps.none _ _)))))))))); intro v237 w6 ho7 hb hg_ hnew_; clear hg_ hnew_; (rw [← Ny236.out] at ho7); have HO238 := am (Kd.R_lower (Kd.R_newB ho7 (g := gb235) (o := .cells #[.string (⟨#[]⟩ : ByteArray), .bool false, .string (⟨#[]⟩ : ByteArray), .string (⟨#[]⟩ : ByteArray), .string (⟨#[]⟩ : ByteArray)] 73 (0, 0)) (bq BK235.out)) (keep_size (w := w) (g := g) (row := none) b45_)); replace BK235 := am (blk_below (bq BK235.out) hb); replace HK := am (KeepBut.trans b45_ (KeepBut.of_below hb g none) (.inl rfl)); replace HB := am (below_step b72_ hb); replace HI0 := am (IsS114.below b75_ hb); clear hb ho7; obtain ⟨Ao8, co8, eo8⟩ := Kd.R_slice HO238.out; subst eo8) | ((with_reducible refine gate_callee (f := 53) rfl ?_); refine gl 17 Try.func53 #[.pointer (some ⟨g, 0, none⟩), .int .i64 (y236.length : Int)] ?_; (with_reducible refine (spec_l1Rd_pick.calls k g s0_0 s0_1 (y236.length : Int) t239 t240 w0 _ ?side1 ?side2 A2.out).mono ?_); (case side1 => repeat (with_reducible exact HI0.out)); (case side2 => repeat (with_reducible exact HB.out)); rintro e w9 ⟨rfl, hi, hb, hk⟩; refine ⟨_, rfl, ?_⟩; replace BK235 := am (KeepBut.blk hk (g' := gb235) (o := .cells #[.string (⟨#[]⟩ : ByteArray), .bool false, .string (⟨#[]⟩ : ByteArray), .string (⟨#[]⟩ : ByteArray), .string (⟨#[]⟩ : ByteArray)] 73 (0, 0)) (bq BK235.out) NB235_0.out (by simp)); replace HO238 := am (Kd.R_mono (Kd.R_keep (IsS114.apart (show IsS114 w0 _ g s0_0 s0_1 from by repeat (with_reducible exact HI0.out)) (rq HO238.out) (by decide)) hk (fun _ h => h.2)) (fun _ h => h.1)); replace HK := am (KeepBut.trans b45_ hk (.inl rfl)); replace HB := am (hb); replace HI0 := am (hi); clear hb hk hi; have p241 : 0 ≤ (t239 : Int) := of_decide_eq_true ad; have q241 : t239 < (y236.length : Int) := of_decide_eq_true ad; obtain ⟨ad241, e241, hx241_0, hx241_1, hx241_2, hx241_3, hx241_4⟩ := at_T73 (Kd.R_reads' HO238.out).2.2 t239 p241 q241; cases e241; replace p241 := eq_true p241; replace q241 := eq_true q241; have hnb10 := NB235_0.out; have hnc10 := NB0_235.out; have ⟨hcz11_0, hcz11_1, hcz11_2, hcz11_3, hcz11_4, hfz11_0, hfz11_1, hfz11_2, hfz11_3, hfz11_4⟩ := b5c BK235.out))
 refine bodyPost_ret (results_cell_row rfl _ _ gb235 73 #[.string ((rd_T73 y236 t239).f0), .bool ((rd_T73 y236 t239).f1), .string ((rd_T73 y236 t239).f2), .string ((rd_T73 y236 t239).f3), .string ((rd_T73 y236 t239).f4)] (0, 0) _ rfl (by (with_reducible repeat (fail)); refine blk_put (cs := #[.string ((rd_T73 y236 t239).f0), .bool ((rd_T73 y236 t239).f1), .string ((rd_T73 y236 t239).f2), .string ((rd_T73 y236 t239).f3), .string (⟨#[]⟩ : ByteArray)]) ?_ 4 _ rfl; (with_reducible repeat (fail)); refine blk_put (cs := #[.string ((rd_T73 y236 t239).f0), .bool ((rd_T73 y236 t239).f1), .string ((rd_T73 y236 t239).f2), .string (⟨#[]⟩ : ByteArray), .string (⟨#[]⟩ : ByteArray)]) ?_ 3 _ rfl; (with_reducible repeat (fail)); refine blk_put (cs := #[.string ((rd_T73 y236 t239).f0), .bool ((rd_T73 y236 t239).f1), .string (⟨#[]⟩ : ByteArray), .string (⟨#[]⟩ : ByteArray), .string (⟨#[]⟩ : ByteArray)]) ?_ 2 _ rfl; (with_reducible repeat (fail)); refine blk_put (cs := #[.string ((rd_T73 y236 t239).f0), .bool false, .string (⟨#[]⟩ : ByteArray), .string (⟨#[]⟩ : ByteArray), .string (⟨#[]⟩ : ByteArray)]) ?_ 1 _ rfl; (with_reducible repeat (fail)); refine blk_put (cs := #[.string (⟨#[]⟩ : ByteArray), .bool false, .string (⟨#[]⟩ : ByteArray), .string (⟨#[]⟩ : ByteArray), .string (⟨#[]⟩ : ByteArray)]) ?_ 0 _ rfl; (with_reducible repeat (fail)); exact BK235.out) Try.underlying73 rfl (by kernel_rfl)) rfl ?_
 exact ⟨eq_, b75_, b72_, b45_⟩

/-! ### spec_l13Affixes: function 111 -/
mutual
def spec_l13Affixes.l0 : Nat → List (S73) → Int → List Int → Int → Option ((List (S73)) × Int)
 | 0, _, _, _, _ => none
 | k + 1, x3, x4, x1000, x1001 => if x4 > 0 then ((spec_l13Affix.f k x1000 x1001).bind fun bt247 => (spec_l13Affixes.l1 k x3 x4 false 0 x1000 bt247.2.2.2.2.2 bt247.1 bt247.2.1 bt247.2.2.1 bt247.2.2.2.1 bt247.2.2.2.2.1)) else (some (x3, x1001))
def spec_l13Affixes.l1 : Nat → List (S73) → Int → Bool → Int → List Int → Int → ByteArray → Bool → ByteArray → ByteArray → ByteArray → Option ((List (S73)) × Int)
 | 0, _, _, _, _, _, _, _, _, _, _, _ => none
 | k + 1, x3, x4, x6, x7, x1000, x1001, x254000, x254001, x254002, x254003, x254004 => if x7 < (x3.length : Int) then (if x6 = true then (spec_l13Affixes.l1 k x3 x4 true (wrap64 (x7 + 1)) x1000 x1001 x254000 x254001 x254002 x254003 x254004) else (if 0 ≤ x7 then (spec_l13Affixes.l1 k x3 x4 ((((rd_T73 x3 x7).f0).toList) == x254000.toList && (((rd_T73 x3 x7).f1) == x254001 && ((((rd_T73 x3 x7).f2).toList) == x254002.toList && ((((rd_T73 x3 x7).f3).toList) == x254003.toList && ((((rd_T73 x3 x7).f4).toList) == x254004.toList))))) (wrap64 (x7 + 1)) x1000 x1001 x254000 x254001 x254002 x254003 x254004) else (none))) else (if x6 = true then (spec_l13Affixes.l0 k x3 (wrap64 (x4 - 1)) x1000 x1001) else (if x3.length < 1954687338268 then (spec_l13Affixes.l0 k (x3 ++ [(⟨x254000, x254001, x254002, x254003, x254004⟩ : S73)]) (wrap64 (x4 - 1)) x1000 x1001) else (none)))
end
def spec_l13Affixes.f (k : Nat) (s0_0 : List Int) (s0_1 : Int) : Option ((List (S73)) × Int) := (spec_l1Rd_pick.f k s0_0 s0_1 5).bind fun bt245 => (spec_l13Affixes.l0 k (([] : List (S73))) bt245.1 s0_0 bt245.2)
theorem spec_l13Affixes.calls (k : Nat) (g : Nat) (s0_0 : List Int) (s0_1 : Int) (r1 : List (S73)) (r2 : Int) (w0 w : World) (hI : IsS114 w0 w g s0_0 s0_1) (hB : Below w0.heap.size w0 w) (h : spec_l13Affixes.f k s0_0 s0_1 = some (r1, r2)) :
  Calls Try.prog 111 #[.pointer (some ⟨g, 0, none⟩)] w fun e w' => ∃ v0_ : Value, e = .returned (v0_) ∧ Kd.R k73 73 w' w.heap.size (fun _ => True) v0_ r1 ∧ IsS114 w0 w' g s0_0 r2 ∧ Below w0.heap.size w0 w' ∧ KeepBut w w' g none := by
 have hu73 := Try.underlying73; have HI0 := am hI; have HK := am (KeepBut.refl w g none); have HL := am hB.size; clear hI; have HW0 := am hB.size; have HB := am hB; clear hB
 have H := h; unfold spec_l13Affixes.f at H
 clear h; obtain ⟨y242, hy242⟩ : ∃ y_ : List (S73), y_ = (([] : List (S73))) := ⟨_, rfl⟩
 rw [← hy242] at H
 have Ny242 := am hy242; clear hy242; replace H := bs H; obtain ⟨⟨t245, t246⟩, A20, H⟩ := H; dsimp only at H; have A2 := Aside0.mk A20; clear A20
 have H' := am H
 clear H; go_enter Try.func111, Try.ntmps111
 go_wp2_with (first | ((with_reducible refine gate_dst (N := 8) rfl ?_); refine Kd.R_lit k73 _ 73 ?hg (N := 8) ?hd (xs := ([] : List (S73))) (inner := []) (ok := fun _ => True) (okp := fun _ => True) ?hr ?hp (fun _ hk => hk) trivial (Below.refl _ _) (Nat.le_refl _) (by simp) ?_; (case hd => rfl); (case hg => rfl); (case hr => (go_simp; done)); (case hp => exact (Reps.none _ _)); intro v243 w3 ho4 hb hg_ hnew_; clear hg_ hnew_; (rw [← Ny242.out] at ho4); have HO244 := am (Kd.R_lower ho4 (keep_size (w := w) (g := g) (row := none) b0_)); replace HK := am (KeepBut.trans b0_ (KeepBut.of_below hb g none) (.inl rfl)); replace HB := am (below_step b1_ hb); replace HI0 := am (IsS114.below b2_ hb); clear hb ho4) | (go_at_call 53; (with_reducible refine (spec_l1Rd_pick.calls k g s0_0 s0_1 5 t245 t246 w0 _ ?side1 ?side2 A2.out).mono ?_); (case side1 => repeat (with_reducible exact HI0.out)); (case side2 => repeat (with_reducible exact HB.out)); rintro e w5 ⟨rfl, hi, hb, hk⟩; replace HO244 := am (Kd.R_mono (Kd.R_keep (IsS114.apart (show IsS114 w0 _ g s0_0 s0_1 from by repeat (with_reducible exact HI0.out)) (rq HO244.out) (by decide)) hk (fun _ h => h.2)) (fun _ h => h.1)); replace HK := am (KeepBut.trans b0_ hk (.inl rfl)); replace HB := am (hb); replace HI0 := am (hi); clear hb hk hi))
 go_loopg [3, 4] k (fun kq v3 v4 w' => ∃ (x3_1 : List (S73)) (x4_1 : Int) (x1001_1 : Int), v4 = .int .i64 x4_1 ∧ Aside0 (spec_l13Affixes.l0 kq x3_1 x4_1 s0_0 x1001_1 = some (r1, r2)) ∧ Aside0 (kq ≤ k) ∧ Aside0 (Kd.R k73 73 w' w.heap.size (fun _ => True) v3 x3_1) ∧ Aside0 (IsS114 w0 w' g s0_0 x1001_1) ∧ Aside0 (KeepBut w w' g none) ∧ Aside0 (Below w0.heap.size w0 w'))
 case atStart => exact ⟨(y242), (t245), (t246), sq, H', ⟨Nat.le_refl _⟩, ⟨rq HO244.out⟩, ⟨b2_⟩, ⟨b0_⟩, ⟨b1_⟩⟩
 case round =>
  clear H'; obtain ⟨x3_1, x4_1, x1001_1, rfl, HA, HK1, HO_3, HI0, HK, HB⟩ := hrel
  cases gk with
  | zero => exact absurd HA.out (by simp [spec_l13Affixes.l0])
  | succ k1 =>
   have H := HA.out; clear HA; simp only [spec_l13Affixes.l0] at H
   by_cases c6 : x4_1 > 0
   ·rw [if_pos c6] at H; have c6b0 := decide_eq_true c6; clear c6; replace H := bs H; obtain ⟨⟨t247, t248, t249, t250, t251, t252⟩, A70, H⟩ := H; dsimp only at H; have A7 := Aside0.mk A70; clear A70
    have H' := am H
    clear H
    go_wp2_with (first | (go_at_call 114; (with_reducible refine (spec_l13Affix.calls k1 g s0_0 x1001_1 t247 t248 t249 t250 t251 t252 w0 _ ?side1 ?side2 A7.out).mono ?_); (case side1 => repeat (with_reducible exact HI0.out)); (case side2 => repeat (with_reducible exact HB.out)); rintro e w8 ⟨rfl, hi, hb, hk⟩; replace HO_3 := am (Kd.R_mono (Kd.R_keep (IsS114.apart (show IsS114 w0 _ g s0_0 x1001_1 from by repeat (with_reducible exact HI0.out)) (rq HO_3.out) (by decide)) hk (fun _ h => h.2)) (fun _ h => h.1)); replace HK := am (KeepBut.trans b0_ hk (.inl rfl)); replace HB := am (hb); replace HI0 := am (hi); clear hb hk hi) | ((with_reducible refine gate_dst (N := 5) rfl ?_); refine bx 5 (cs := #[.string (⟨#[]⟩ : ByteArray), .bool false, .string (⟨#[]⟩ : ByteArray), .string (⟨#[]⟩ : ByteArray), .string (⟨#[]⟩ : ByteArray)]) (t := 73) ?_; intro gb253 hg w9 hbox hb; replace HO_3 := am (Kd.R_below (Kd.R_elderB (rq HO_3.out) gb253 (Nat.le_of_eq hg.symm)) hb); replace HB := am (below_step b1_ hb); have BK253 := am (hbox); have GW253 := am ((b8_ : w.heap.size ≤ gb253)); have GE253 := am ((Nat.le_trans HW0.out (b8_ : w.heap.size ≤ gb253) : w0.heap.size ≤ gb253)); replace HK := am (KeepBut.trans b0_ (KeepBut.of_below hb g none) (.inl rfl)); have NB0_253 := am ((b50_ : g ≠ gb253)); have NB253_0 := am ((b51_ : gb253 ≠ g)); replace HI0 := am (IsS114.below b2_ hb); clear hb hbox hg; have hnb10 := NB253_0.out; have hnc10 := NB0_253.out; have ⟨hcz11_0, hcz11_1, hcz11_2, hcz11_3, hcz11_4, hfz11_0, hfz11_1, hfz11_2, hfz11_3, hfz11_4⟩ := b5c BK253.out))
    go_loopg [6, 7] k1 (fun kq v6 v7 w' => ∃ (x6_2 : Bool) (x7_2 : Int), v6 = .bool x6_2 ∧ v7 = .int .i64 x7_2 ∧ Aside0 (spec_l13Affixes.l1 kq x3_1 x4_1 x6_2 x7_2 s0_0 t252 t247 t248 t249 t250 t251 = some (r1, r2)) ∧ Aside0 (kq ≤ k1) ∧ Aside0 (Kd.R k73 73 w' w.heap.size (fun k_ => k_ ≠ gb253) u3 x3_1) ∧ Aside0 (w'.heap[gb253]? = some (.cells #[.string t247, .bool t248, .string t249, .string t250, .string t251] 73 (0, 0))) ∧ Aside0 (IsS114 w0 w' g s0_0 t252) ∧ Aside0 (KeepBut w w' g none) ∧ Aside0 (Below w0.heap.size w0 w'))
    case atStart => exact ⟨(false), (0), sq, sq, H', ⟨Nat.le_refl _⟩, ⟨rq (Kd.R_mono (Kd.R_far (p := ⟨gb253, 4, none⟩) (Kd.R_far (p := ⟨gb253, 3, none⟩) (Kd.R_far (p := ⟨gb253, 2, none⟩) (Kd.R_far (p := ⟨gb253, 1, none⟩) (Kd.R_far (p := ⟨gb253, 0, none⟩) (Kd.R_mono HO_3.out (fun k_ hk => (⟨hk, hk.2⟩ : _ ∧ k_ ≠ gb253))) (fun _ hk => hk.2) (.string t247)) (fun _ hk => hk.2) (.bool t248)) (fun _ hk => hk.2) (.string t249)) (fun _ hk => hk.2) (.string t250)) (fun _ hk => hk.2) (.string t251)) (fun _ hk => hk.1.2))⟩, ⟨by (with_reducible repeat (fail)); refine blk_put (cs := #[.string t247, .bool t248, .string t249, .string t250, .string (⟨#[]⟩ : ByteArray)]) ?_ 4 _ rfl; (with_reducible repeat (fail)); refine blk_put (cs := #[.string t247, .bool t248, .string t249, .string (⟨#[]⟩ : ByteArray), .string (⟨#[]⟩ : ByteArray)]) ?_ 3 _ rfl; (with_reducible repeat (fail)); refine blk_put (cs := #[.string t247, .bool t248, .string (⟨#[]⟩ : ByteArray), .string (⟨#[]⟩ : ByteArray), .string (⟨#[]⟩ : ByteArray)]) ?_ 2 _ rfl; (with_reducible repeat (fail)); refine blk_put (cs := #[.string t247, .bool false, .string (⟨#[]⟩ : ByteArray), .string (⟨#[]⟩ : ByteArray), .string (⟨#[]⟩ : ByteArray)]) ?_ 1 _ rfl; (with_reducible repeat (fail)); refine blk_put (cs := #[.string (⟨#[]⟩ : ByteArray), .bool false, .string (⟨#[]⟩ : ByteArray), .string (⟨#[]⟩ : ByteArray), .string (⟨#[]⟩ : ByteArray)]) ?_ 0 _ rfl; (with_reducible repeat (fail)); exact BK253.out⟩, ⟨b24_⟩, ⟨b11_⟩, ⟨b20_⟩⟩
    case round =>
     clear H'; clear c6b0 hcz11_0 hcz11_1 hcz11_2 hcz11_3 hcz11_4 hfz11_0 hfz11_1 hfz11_2 hfz11_3 hfz11_4; obtain ⟨x6_2, x7_2, rfl, rfl, HA, HK2, HO_3, BK253, HI0, HK, HB⟩ := hrel
     cases gk with
     | zero => exact absurd HA.out (by simp [spec_l13Affixes.l1])
     | succ k2 =>
      have H := HA.out; clear HA; simp only [spec_l13Affixes.l1] at H
      by_cases c12 : x7_2 < (x3_1.length : Int)
      ·rw [if_pos c12] at H; have c12b0 := decide_eq_true c12; clear c12
       by_cases c13 : x6_2 = true
       ·subst c13
        rw [if_pos rfl] at H
        have H' := am H
        clear H; obtain ⟨Ao14, co14, eo14⟩ := Kd.R_slice HO_3.out; subst eo14; go_wp2
        repeat (go_quiet (fail); try go_wp2)
        go_roundg k2
        case measure => have := HK1.out; have := HK2.out; omega
        case rel => exact ⟨(true), (wrap64 (x7_2 + 1)), sq, sq, H', ⟨b30_⟩, ⟨rq HO_3.out⟩, ⟨bq BK253.out⟩, ⟨b24_⟩, ⟨b11_⟩, ⟨b20_⟩⟩
       replace c13 := Bool.eq_false_iff.mpr c13; subst c13
       rw [if_neg Bool.false_ne_true] at H; replace H := it H; obtain ⟨c15b0, H⟩ := H
       have H' := am H
       clear H; obtain ⟨Ao16, co16, eo16⟩ := Kd.R_slice HO_3.out; subst eo16
       have p254 : 0 ≤ (x7_2 : Int) := of_decide_eq_true ad
       have q254 : x7_2 < (x3_1.length : Int) := of_decide_eq_true ad
       obtain ⟨ad254, e254, hx254_0, hx254_1, hx254_2, hx254_3, hx254_4⟩ := at_T73 (Kd.R_reads' HO_3.out).2.2 x7_2 p254 q254; cases e254
       replace p254 := eq_true p254; replace q254 := eq_true q254; have hnb17 := NB253_0.out; have hnc17 := NB0_253.out; have ⟨hcz18_0, hcz18_1, hcz18_2, hcz18_3, hcz18_4, hfz18_0, hfz18_1, hfz18_2, hfz18_3, hfz18_4⟩ := b5c BK253.out; go_wp2
       repeat (go_quiet (fail); try go_wp2)
       go_roundg k2
       case measure => have := HK1.out; have := HK2.out; omega
       case rel => exact ⟨(((((rd_T73 x3_1 x7_2).f0).toList) == t247.toList && (((rd_T73 x3_1 x7_2).f1) == t248 && ((((rd_T73 x3_1 x7_2).f2).toList) == t249.toList && ((((rd_T73 x3_1 x7_2).f3).toList) == t250.toList && ((((rd_T73 x3_1 x7_2).f4).toList) == t251.toList)))))), (wrap64 (x7_2 + 1)), sq, sq, H', ⟨b30_⟩, ⟨rq HO_3.out⟩, ⟨bq BK253.out⟩, ⟨b24_⟩, ⟨b11_⟩, ⟨b20_⟩⟩
      rw [if_neg c12] at H; have c12b0 := decide_eq_false c12; clear c12
      by_cases c19 : x6_2 = true
      ·subst c19
       rw [if_pos rfl] at H
       have H' := am H
       clear H; obtain ⟨Ao20, co20, eo20⟩ := Kd.R_slice HO_3.out; subst eo20; go_wp2
       go_roundg k2
       case measure => have := HK1.out; have := HK2.out; omega
       case rel => exact ⟨(x3_1), (wrap64 (x4_1 - 1)), (t252), sq, H', ⟨b30_⟩, ⟨rq (Kd.R_mono HO_3.out (fun _ hk => trivial))⟩, ⟨b24_⟩, ⟨b11_⟩, ⟨b20_⟩⟩
      replace c19 := Bool.eq_false_iff.mpr c19; subst c19
      rw [if_neg Bool.false_ne_true] at H
      replace H := ip H; obtain ⟨c21, H⟩ := H; have LMc21 := Aside0.mk c21; clear c21; obtain ⟨y255, hy255⟩ : ∃ y_ : List (S73), y_ = (x3_1 ++ [(⟨t247, t248, t249, t250, t251⟩ : S73)]) := ⟨_, rfl⟩
      rw [← hy255] at H
      have Ny255 := am hy255; clear hy255
      have H' := am H
      clear H; obtain ⟨Ao22, co22, eo22⟩ := Kd.R_slice HO_3.out; subst eo22; have hnb23 := NB253_0.out; have hnc23 := NB0_253.out; have ⟨hcz24_0, hcz24_1, hcz24_2, hcz24_3, hcz24_4, hfz24_0, hfz24_1, hfz24_2, hfz24_3, hfz24_4⟩ := b5c BK253.out
      go_wp2_with ((with_reducible refine gate_builtin (b := .append) (xs := #[.tmp 34, .tmp 36]) rfl ?_); at_builtin; refine Kd.R_append k73 w.heap.size rfl (.tmp 34) (.tmp 36) 29 73 (.agg #[(.string ⟨#[]⟩), (.bool false), (.string ⟨#[]⟩), (.string ⟨#[]⟩), (.string ⟨#[]⟩)]) 72 rfl Try.underlying29 info73 rfl (by decide) (by omega) (.slice Ao22 x3_1.length co22) x3_1 (⟨t247, t248, t249, t250, t251⟩ : S73) [.string t247, .bool t248, .string t249, .string t250, .string t251] (fun k_ => k_ ≠ gb253) (fun _ => False) rfl rfl ?aP (fun _ hk => hk.elim) ?aF ?aO (Below.refl _ _) ?aS ?aL ?_; (case aP => exact k73_mkM _ _ _ (⟨t247, t248, t249, t250, t251⟩ : S73)); (case aF => exact (fun k_ hk => Kd.freshB (g := gb253) (o := .cells #[.string t247, .bool t248, .string t249, .string t250, .string t251] 73 (0, 0)) (bq BK253.out) k_ hk)); (case aO => exact (rq HO_3.out)); (case aS => exact (keep_size (w := w) (g := g) (row := none) b11_)); (case aL => have := LMc21.out; omega); intro v256 w25 ho hb hg hat; rw [← Ny255.out] at ho; replace BK253 := am (blk_grown (g := gb253) (o := .cells #[.string t247, .bool t248, .string t249, .string t250, .string t251] 73 (0, 0)) (bq BK253.out) hg (Kd.R_away HO_3.out (fun _ hk => hk))); replace HB := am (below_weaken b20_ HL.out hb); replace HI0 := am (IsS114.grown b24_ hg (IsS114.own_ne HI0.out HO_3.out (by decide))); replace HK := am (KeepBut.trans b11_ (KeepBut.of_grown hg g) (Kd.R_base2 HO_3.out)); have HO257 := am (ho); clear HO_3; clear ho hb hg hat)
      go_roundg k2
      case measure => have := HK1.out; have := HK2.out; omega
      case rel => exact ⟨(y255), (wrap64 (x4_1 - 1)), (t252), sq, H', ⟨b30_⟩, ⟨rq (Kd.R_mono HO257.out (fun _ hk => trivial))⟩, ⟨b24_⟩, ⟨b11_⟩, ⟨b20_⟩⟩
   rw [if_neg c6] at H; have c6b0 := decide_eq_false c6; clear c6; simp only [Option.some.injEq, Prod.mk.injEq] at H
   obtain ⟨rfl, rfl⟩ := H; go_wp2
   go_ret
   exact ⟨_, eq_, b86_, b2_, b1_, b0_⟩
-- shrunk

/-! ### spec_l1Put: function 112 -/
mutual
def spec_l1Put.l0 : Nat → List ByteArray → ByteArray → Int → Option (List ByteArray)
 | 0, _, _, _ => none
 | k + 1, x0, x1, x5 => if x5 < (x0.length : Int) then (if 0 ≤ x5 then (spec_l1Put.j1 k x0 x1 x5 (Op.bytesLess ((rdOf ByteArray.empty x0 x5).toList) x1.toList)) else (none)) else (spec_l1Put.j1 k x0 x1 x5 false)
def spec_l1Put.j1 : Nat → List ByteArray → ByteArray → Int → Bool → Option (List ByteArray)
 | 0, _, _, _, _ => none
 | k + 1, x0, x1, x5, x17 => if x17 = true then (spec_l1Put.l0 k x0 x1 (wrap64 (x5 + 1))) else (if x5 < (x0.length : Int) then (if 0 ≤ x5 then (spec_l1Put.j2 k x0 x1 x5 ((rdOf ByteArray.empty x0 x5).toList == x1.toList)) else (none)) else (spec_l1Put.j2 k x0 x1 x5 false))
def spec_l1Put.j2 : Nat → List ByteArray → ByteArray → Int → Bool → Option (List ByteArray)
 | 0, _, _, _, _ => none
 | k + 1, x0, x1, x5, x31 => if x31 = true then (some x0) else ((some (([] : List ByteArray) : List ByteArray)).bind fun y260 => (if 0 ≤ x5 then (if x5 ≤ (x0.length : Int) then ((some (x0.take (x5 : Int).toNat : List ByteArray)).bind fun y263 => (if y260.length + y263.length < 8796093022208 then ((some (y260 ++ y263 : List ByteArray)).bind fun y268 => ((some (([x1] : List ByteArray) : List ByteArray)).bind fun y271 => (if y268.length + y271.length < 8796093022208 then ((some (y268 ++ y271 : List ByteArray)).bind fun y274 => ((some (x0.drop (x5 : Int).toNat : List ByteArray)).bind fun y277 => (if y274.length + y277.length < 8796093022208 then (some (y274 ++ y277)) else (none)))) else (none)))) else (none))) else (none)) else (none)))
end
def spec_l1Put.f (k : Nat) (l0 : List ByteArray) (a1 : ByteArray) : Option (List ByteArray) := spec_l1Put.l0 k l0 a1 0
def spec_l1Put.T6 : Bool × List (List Nat × List Nat) := (true, [([], []), ([], []), ([], []), ([1, 2], [1, 2]), ([0, 3], [0, 3]), ([], []), ([5], [5]), ([4, 6, 4], [4, 6]), ([], []), ([], []), ([8, 9], [8, 9]), ([7, 10, 7], [7, 10]), ([11, 11, 0, 1, 2, 3, 4, 5, 6, 7, 8, 9, 10, 11], [11])])
def spec_l1Put.B6 : List Nat := [0, 0, 0, 6, 15, 0, 32, 127, 0, 0, 768, 2047, 4095]
theorem spec_l1Put.tab6 : rtab .any (opsOf Try.f112 6) = spec_l1Put.T6 := by kernel_rfl
theorem spec_l1Put.bits6 : waitsOk spec_l1Put.T6.2 spec_l1Put.B6 = true := by kernel_rfl
theorem spec_l1Put.calls (k : Nat) (P0_ : Nat → Prop) (A0 : Option Addr) (c0 : Nat) (l0 : List ByteArray) (a1 : ByteArray) (r : List ByteArray) (w : World) (hs0 : Kd.V Kd.string 9 w w.heap.size (fun k_ => P0_ k_) (.slice A0 l0.length c0) l0) (h : spec_l1Put.f k l0 a1 = some r) :
  Calls Try.prog 112 #[.slice A0 l0.length c0, .string a1] w fun e w' => ∃ v0_ : Value, e = .returned (v0_) ∧ Kd.V Kd.string 9 w' w.heap.size (fun k_ => (P0_ k_ ∨ w.heap.size ≤ k_)) v0_ r ∧ Below w.heap.size w w' := by
 have HO0 := am (show Kd.V Kd.string 9 w w.heap.size (fun k_ => (P0_ k_ ∨ w.heap.size ≤ k_)) (.slice A0 l0.length c0) l0 from Kd.V_mono hs0 (fun k_ hk => .inl hk)); have HB := am (Below.refl w.heap.size w)
 have H := h; unfold spec_l1Put.f at H
 clear h
 have H' := am H
 clear H; go_enter Try.func112, Try.ntmps112; go_wp2
 go_loopg [5] k (fun kq v5 w' => ∃ (x5_1 : Int), v5 = .int .i64 x5_1 ∧ Aside0 (spec_l1Put.l0 kq l0 a1 x5_1 = some r) ∧ Aside0 (kq ≤ k) ∧ Aside0 (Kd.V Kd.string 9 w' w.heap.size (fun k_ => (P0_ k_ ∨ w.heap.size ≤ k_)) (.slice A0 l0.length c0) l0) ∧ Aside0 (Below w.heap.size w w'))
 case atStart => exact ⟨(0), sq, H', ⟨Nat.le_refl _⟩, ⟨vq HO0.out⟩, ⟨bel⟩⟩
 case round =>
  clear H'; obtain ⟨x5_1, rfl, HA, HK1, HO_0, HB⟩ := hrel
  cases gk with
  | zero => exact absurd HA.out (by simp [spec_l1Put.l0])
  | succ k1 =>
   have H := HA.out; clear HA; simp only [spec_l1Put.l0] at H; have HC3 := am H; clear H
   go_upto_region 2 with (fail)
   go_cut [17] (fun v17 wc => ∃ (kq : Nat) (x17_2 : Bool), v17 = .bool x17_2 ∧ Aside0 (spec_l1Put.j1 kq l0 a1 x5_1 x17_2 = some r) ∧ Aside0 (kq ≤ k1) ∧ Aside0 (Kd.V Kd.string 9 wc w.heap.size (fun k_ => (P0_ k_ ∨ w.heap.size ≤ k_)) (.slice A0 l0.length c0) l0) ∧ Aside0 (Below w.heap.size w wc))
   case first =>
    have H := HC3.out; clear HC3
    by_cases c4 : x5_1 < (l0.length : Int)
    ·rw [if_pos c4] at H; have c4b0 := decide_eq_true c4; clear c4
     (skip)
     replace H := it H; obtain ⟨c5b0, H⟩ := H
     have H' := am H
     clear H
     have p258 : 0 ≤ (x5_1 : Int) := of_decide_eq_true ad
     have q258 : x5_1 < (l0.length : Int) := of_decide_eq_true ad
     obtain ⟨ad258, e258, hx258_0⟩ := Kd.at_string (Kd.V_reads' HO_0.out).2.2 x5_1 p258 q258; cases e258
     replace p258 := eq_true p258; replace q258 := eq_true q258; go_wp2
     go_meet
     case rel => exact ⟨_, ((Op.bytesLess ((rdOf ByteArray.empty l0 x5_1).toList) a1.toList)), sq, H', ⟨b39_⟩, ⟨vq HO_0.out⟩, ⟨bel⟩⟩
    rw [if_neg c4] at H; have c4b0 := decide_eq_false c4; clear c4
    (skip)
    have H' := am H
    clear H; go_wp2
    go_meet
    case rel => exact ⟨_, (false), sq, H', ⟨b39_⟩, ⟨vq HO_0.out⟩, ⟨bel⟩⟩
   case rest =>
    clear HC3; obtain ⟨kq, x17_2, rfl, HA, HJ2, HO_0, HB⟩ := hcut
    cases kq with
    | zero => exact absurd HA.out (by simp [spec_l1Put.j1])
    | succ kj2 =>
     have H := HA.out; clear HA; simp only [spec_l1Put.j1] at H
     by_cases c6 : x17_2 = true
     ·subst c6
      rw [if_pos rfl] at H
      have H' := am H
      clear H; go_wp2
      go_roundg kj2
      case measure => have := HK1.out; have := HJ2.out; omega
      case rel => exact ⟨(wrap64 (x5_1 + 1)), sq, H', ⟨by have := HK1.out; have := HJ2.out; omega⟩, ⟨vq HO_0.out⟩, ⟨bel⟩⟩
     replace c6 := Bool.eq_false_iff.mpr c6; subst c6
     rw [if_neg Bool.false_ne_true] at H; have HC7 := am H; clear H
     go_upto_region 4 with (fail)
     go_cut [31] (fun v31 wc => ∃ (kq : Nat) (x31_6 : Bool), v31 = .bool x31_6 ∧ Aside0 (spec_l1Put.j2 kq l0 a1 x5_1 x31_6 = some r) ∧ Aside0 (kq ≤ kj2) ∧ Aside0 (Kd.V Kd.string 9 wc w.heap.size (fun k_ => (P0_ k_ ∨ w.heap.size ≤ k_)) (.slice A0 l0.length c0) l0) ∧ Aside0 (Below w.heap.size w wc))
     case first =>
      have H := HC7.out; clear HC7
      by_cases c8 : x5_1 < (l0.length : Int)
      ·rw [if_pos c8] at H; have c8b0 := decide_eq_true c8; clear c8
       (skip)
       replace H := it H; obtain ⟨c9b0, H⟩ := H
       have H' := am H
       clear H
       have p259 : 0 ≤ (x5_1 : Int) := of_decide_eq_true ad
       have q259 : x5_1 < (l0.length : Int) := of_decide_eq_true ad
       obtain ⟨ad259, e259, hx259_0⟩ := Kd.at_string (Kd.V_reads' HO_0.out).2.2 x5_1 p259 q259; cases e259
       replace p259 := eq_true p259; replace q259 := eq_true q259; go_wp2
       go_meet
       case rel => exact ⟨_, (((rdOf ByteArray.empty l0 x5_1).toList == a1.toList)), sq, H', ⟨by have := HK1.out; have := HJ2.out; omega⟩, ⟨vq HO_0.out⟩, ⟨bel⟩⟩
      rw [if_neg c8] at H; have c8b0 := decide_eq_false c8; clear c8
      (skip)
      have H' := am H
      clear H; go_wp2
      go_meet
      case rel => exact ⟨_, (false), sq, H', ⟨by have := HK1.out; have := HJ2.out; omega⟩, ⟨vq HO_0.out⟩, ⟨bel⟩⟩
     case rest =>
      clear HC7; obtain ⟨kq, x31_6, rfl, HA, HJ6, HO_0, HB⟩ := hcut
      cases kq with
      | zero => exact absurd HA.out (by simp [spec_l1Put.j2])
      | succ kj6 =>
       have H := HA.out; clear HA; simp only [spec_l1Put.j2] at H
       by_cases c10 : x31_6 = true
       ·subst c10
        rw [if_pos rfl] at H
        obtain rfl := Option.some.inj H; go_wp2; go_ret
        exact ⟨_, eq_, by (with_reducible repeat (fail)); exact HO_0.out, bel⟩
       replace c10 := Bool.eq_false_iff.mpr c10; subst c10
       rw [if_neg Bool.false_ne_true] at H
       obtain ⟨y260, hy260⟩ : ∃ y_ : List ByteArray, y_ = (([] : List ByteArray)) := ⟨_, rfl⟩
       replace H : (if 0 ≤ x5_1 then (if x5_1 ≤ (l0.length : Int) then ((some (l0.take (x5_1 : Int).toNat : List ByteArray)).bind fun y263 => (if y260.length + y263.length < 8796093022208 then ((some (y260 ++ y263 : List ByteArray)).bind fun y268 => ((some (([a1] : List ByteArray) : List ByteArray)).bind fun y271 => (if y268.length + y271.length < 8796093022208 then ((some (y268 ++ y271 : List ByteArray)).bind fun y274 => ((some (l0.drop (x5_1 : Int).toNat : List ByteArray)).bind fun y277 => (if y274.length + y277.length < 8796093022208 then (some (y274 ++ y277)) else (none)))) else (none)))) else (none))) else (none)) else (none)) = some r := by (have H2_ := bm H; rw [hy260]; with_reducible exact H2_)
       have Ny260 := am hy260; clear hy260; replace H := ip H; obtain ⟨c11, H⟩ := H; have c11b0 := eq_true c11
       have c11b1 : decide (0 ≤ x5_1) = true := decide_eq_true c11
       clear c11; replace H := ip H; obtain ⟨c12, H⟩ := H; have c12b0 := eq_true c12
       have c12b1 : decide (x5_1 ≤ (l0.length : Int)) = true := decide_eq_true c12
       clear c12; obtain ⟨y263, hy263⟩ : ∃ y_ : List ByteArray, y_ = (l0.take (x5_1 : Int).toNat) := ⟨_, rfl⟩
       replace H := bm H; rw [← hy263] at H
       have Ny263 := am hy263; clear hy263
       replace H := ip H; obtain ⟨c13, H⟩ := H; have LMc13 := Aside0.mk c13; clear c13; obtain ⟨y268, hy268⟩ : ∃ y_ : List ByteArray, y_ = (y260 ++ y263) := ⟨_, rfl⟩
       replace H := bm H; rw [← hy268] at H
       have Ny268 := am hy268; clear hy268; obtain ⟨y271, hy271⟩ : ∃ y_ : List ByteArray, y_ = (([a1] : List ByteArray)) := ⟨_, rfl⟩
       replace H := bm H; rw [← hy271] at H
       have Ny271 := am hy271; clear hy271
       replace H := ip H; obtain ⟨c14, H⟩ := H; have LMc14 := Aside0.mk c14; clear c14; obtain ⟨y274, hy274⟩ : ∃ y_ : List ByteArray, y_ = (y268 ++ y271) := ⟨_, rfl⟩
       replace H := bm H; rw [← hy274] at H
       have Ny274 := am hy274; clear hy274; have c15b0 := eq_true (of_decide_eq_true ad : 0 ≤ x5_1); have c16b0 := eq_true (of_decide_eq_true ad : x5_1 ≤ (l0.length : Int)); obtain ⟨y277, hy277⟩ : ∃ y_ : List ByteArray, y_ = (l0.drop (x5_1 : Int).toNat) := ⟨_, rfl⟩
       replace H := bm H; rw [← hy277] at H
       have Ny277 := am hy277; clear hy277
       replace H := ip H; obtain ⟨c17, H⟩ := H; have LMc17 := Aside0.mk c17; clear c17; obtain ⟨y282, hy282⟩ : ∃ y_ : List ByteArray, y_ = (y274 ++ y277) := ⟨_, rfl⟩
       rw [← hy282] at H
       have Ny282 := am hy282; clear hy282; obtain rfl := Option.some.inj H
       try go_wp2
       replace HO_0 := am (Kd.V_drew HO_0.out); replace HB := am (below_drew1 HB.out)
       have q19 : (x5_1 : Int) ≤ ((l0.length : Int) : Int) := of_decide_eq_true ad
       obtain ⟨i019, hi019, _, hsz19, _⟩ := info_parts info9
       have hroom19 : l0.length ≤ c0 := (Kd.V_reads' HO_0.out).2.1
       have hC19 : Kd.F Kd.string _ _ A0 l0.length l0 := (Kd.V_at (base := w.heap.size) HO_0.out).2.2
       have hcut19 := cut_to (P := Try.prog) 27 9 .i64 Try.underlying27 hi019 A0 l0.length c0 x5_1 (of_decide_eq_true ad) q19 hroom19; have hr19 := Kd.F_take (m := (x5_1 : Int).toNat) hC19 (by omega)
       have hy19 : y263.length = (x5_1 : Int).toNat := (by rw [Ny263.out, List.length_take]; omega)
       rw [← Ny263.out] at hr19; rw [← hy19] at hcut19
       have HO267 := am (show Kd.V Kd.string 9 _ w.heap.size _ (.slice A0 y263.length c0) y263 from Kd.V_mk (by omega) hr19)
       have HC267 := am (show y263.length ≤ c0 from by omega)
       clear hr19 hC19 hroom19 hi019 hsz19; have KY19 := am hy19; clear hy19; replace q19 := eq_true q19
       have q20 : (x5_1 : Int) ≤ ((l0.length : Int) : Int) := of_decide_eq_true ad
       obtain ⟨i020, hi020, _, hsz20, _⟩ := info_parts info9
       have hroom20 : l0.length ≤ c0 := (Kd.V_reads' HO_0.out).2.1
       have hC20 : Kd.F Kd.string _ _ A0 l0.length l0 := (Kd.V_at (base := w.heap.size) HO_0.out).2.2
       have q020 : (0 : Int) ≤ (x5_1 : Int) := of_decide_eq_true ad
       have hcut20 := cut_from (P := Try.prog) 27 9 .i64 Try.underlying27 hi020 1 hsz20 A0 l0.length c0 x5_1 q020 q20; have hr20 := Kd.F_cut (m := (x5_1 : Int).toNat) (c := c0) hC20 (by omega) hroom20
       obtain ⟨A20, hA20⟩ : ∃ A1, A1 = (if c0 = (x5_1 : Int).toNat then A0 else (A0 : Option Addr).map (·.add ((x5_1 : Int).toNat * 1))) := ⟨_, rfl⟩; obtain ⟨c20, hc20⟩ : ∃ c1, c1 = c0 - (x5_1 : Int).toNat := ⟨_, rfl⟩
       have hy20 : y277.length = l0.length - (x5_1 : Int).toNat := (by rw [Ny277.out, List.length_drop] <;> omega)
       rw [show (l0).drop (x5_1 : Int).toNat = y277 from Ny277.out.symm] at hr20
       replace hr20 : Kd.F Kd.string _ _ A20 y277.length y277 := (by rw [hA20]; exact hr20)
       rw [← hy20, ← hA20, ← hc20] at hcut20
       have HO281 := am (show Kd.V Kd.string 9 _ w.heap.size _ (.slice A20 y277.length c20) y277 from Kd.V_mk (by rw [hy20, hc20]; exact Nat.sub_le_sub_right hroom20 _) hr20)
       have HC281 := am (show y277.length ≤ c20 from by rw [hy20, hc20]; exact Nat.sub_le_sub_right hroom20 _)
       clear hr20 hC20 hroom20 hi020 hsz20 hc20; have KY20 := am hy20; have KA20 := am hA20; clear hy20 hA20; replace q20 := eq_true q20
       refine st (n := 13) (S := fun w' => True) (ds := []) trivial (fun hHeld => ?_); refine with_tabW spec_l1Put.tab6 spec_l1Put.bits6 (fun HT_ HW_ => ?_)
       generalize wc.drew = w18 at HO_0 HB HO267 HO281 hHeld ⊢; refine pu 1 34 ?_; refine pu 2 35 ?_; refine pu 3 36 ?_; refine pu 5 38 ?_; refine pu 8 41 ?_; refine pu 9 42 ?_; refine pu 10 43 ?_
       refine join_ (σ := Value × Value × Value) 3 #[true, true, true, true, true, true, true, false, true, true, true, false, false] (fun s_ => [(33, s_.1), (37, s_.2.1), (39, s_.2.2)]) (fun s_ w' => (Kd.V Kd.string 9 w' w.heap.size (fun k_ => (P0_ k_ ∨ w.heap.size ≤ k_) ∧ some k_ ≠ (s_.2.1 : Value).ownBlock ∧ some k_ ≠ (s_.2.2 : Value).ownBlock) (.slice A0 y263.length c0) y263) ∧ (Kd.R Kd.string 9 w' w.heap.size (fun k_ => (w.heap.size ≤ k_) ∧ some k_ ≠ (s_.2.2 : Value).ownBlock) s_.2.1 y268) ∧ (Kd.R Kd.string 9 w' w.heap.size (fun k_ => (w.heap.size ≤ k_) ∧ some k_ ≠ (s_.2.1 : Value).ownBlock) s_.2.2 y271) ∧ (Kd.V Kd.string 9 w' w.heap.size (fun k_ => (P0_ k_ ∨ w.heap.size ≤ k_) ∧ some k_ ≠ (s_.2.1 : Value).ownBlock ∧ some k_ ≠ (s_.2.2 : Value).ownBlock) (.slice A20 y277.length c20) y277) ∧ (Kd.V Kd.string 9 w' w.heap.size (fun k_ => (P0_ k_ ∨ w.heap.size ≤ k_) ∧ some k_ ≠ (s_.2.1 : Value).ownBlock ∧ some k_ ≠ (s_.2.2 : Value).ownBlock) (.slice A0 l0.length c0) l0) ∧ (Below w.heap.size w w')) ?_ ?_
       rotate_left
       ·intro hCont
        refine two_ (i := 0) (j := 6) (Ni := some 33) (Nj := some 39) #[true, true, true, true, false, true, false, false, true, true, true, false, false] #[false, true, true, true, false, true, true, false, true, true, true, false, false] rfl rfl rfl rfl (two_of HT_.out (by kernel_rfl)) (by decide) (by decide) (fun K hK => ?_) (fun K hK => ?_)
        ·skip
         refine Kd.R_lit_step Kd.string _ 9 ?hg (N := 33) ?hd (xs := ([] : List ByteArray)) (inner := []) (ok := fun _ => True) (okp := fun _ => True) ?hr ?hp (fun _ hk => hk) trivial (Below.refl _ _) (Nat.le_refl _) (by simp) ?_; (case hd => rfl); (case hg => rfl); (case hr => (go_simp; done)); (case hp => exact (Reps.none _ _))
         intro v261 w21 ho22 hb hg_ hnew_; clear hg_ hnew_
         (rw [← Ny260.out] at ho22)
         replace HO_0 := am (Kd.V_elder' (vq HO_0.out) (Kd.R_base ho22) hb); replace HO267 := am (Kd.V_elder' (vq HO267.out) (Kd.R_base ho22) hb); replace HO281 := am (Kd.V_elder' (vq HO281.out) (Kd.R_base ho22) hb); have HO262 := am (Kd.R_lower (Kd.R_newM (M := fun k_ => (w.heap.size ≤ k_)) ho22 (below_size bel) (fun k_ h_ => h_)) (below_size bel)); replace HB := am (below_step bel hb); clear hb ho22
         refine hK.out _ _ trivial (fun hHeld => ?_); clear hK K; refine nm 33 ?_
         refine two_ (i := 4) (j := 6) (Ni := some 37) (Nj := some 39) #[true, true, true, true, true, true, false, false, true, true, true, false, false] #[true, true, true, true, false, true, true, false, true, true, true, false, false] rfl rfl rfl rfl (two_of HT_.out (by kernel_rfl)) (by decide) (by decide) (fun K hK => ?_) (fun K hK => ?_)
         ·skip
          refine Kd.R_append_rows_step Kd.string (w0 := w) w.heap.size (by rfl) (.tmp 33) (.tmp 36) 27 9 (.string ⟨#[]⟩) 16 rfl Try.underlying27 info9 rfl (by decide) (by omega) v261 y260 y263 _ _ _ (fun k_ => (w.heap.size ≤ k_)) (fun _ => False) rfl rfl ?aO ?aR (fun _ _ h => h) (fun _ h => h.elim) ?aF ?aB ?aS ?aL ?_
          (case aR => exact cq (Kd.V_reads' HO267.out).2.2); (case aB => exact bel); (case aF => exact (fun k_ hk => (Nat.le_trans (below_size bel) hk))); (case aO => exact (rq (Kd.R_mono HO262.out (fun _ hk => hk.1)))); (case aS => exact (below_size bel)); (case aL => have := LMc13.out; omega); intro v269 w23 ho hb hg hat; rw [← Ny268.out] at ho; replace HO_0 := am (Kd.V_afterv (ok := (fun k_ => (P0_ k_ ∨ w.heap.size ≤ k_))) (vq HO_0.out) hg hat); replace HO267 := am (Kd.V_afterv (ok := (fun k_ => (P0_ k_ ∨ w.heap.size ≤ k_))) (vq HO267.out) hg hat); replace HO281 := am (Kd.V_afterv (ok := (fun k_ => (P0_ k_ ∨ w.heap.size ≤ k_))) (vq HO281.out) hg hat); replace HB := am (hb); have HO270 := am (ho); clear HO262; clear ho hb hg hat
          refine hK.out _ _ trivial (fun hHeld => ?_); clear hK K; refine nm 37 ?_; refine on1 6 39 (fun K hK => ?_)
          refine Kd.R_lit_step Kd.string _ 9 ?hg (N := 39) ?hd (xs := ([a1] : List ByteArray)) (inner := [.string a1]) (ok := fun _ => True) (okp := fun _ => True) ?hr ?hp (fun _ hk => hk) trivial (Below.refl _ _) (Nat.le_refl _) (by simp) ?_; (case hd => rfl); (case hg => rfl); (case hr => (go_simp; done)); (case hp => exact (Reps.one (show Kd.M Kd.string _ _ _ a1 [.string a1] from rfl) (Reps.none _ _)))
          intro v272 w24 ho25 hb hg_ hnew_; clear hg_ hnew_
          (rw [← Ny271.out] at ho25)
          replace HO_0 := am (Kd.V_elder' (vq HO_0.out) (Kd.R_base ho25) hb); replace HO267 := am (Kd.V_elder' (vq HO267.out) (Kd.R_base ho25) hb); replace HO281 := am (Kd.V_elder' (vq HO281.out) (Kd.R_base ho25) hb); have HO273 := am (Kd.R_lower (Kd.R_new' (Kd.R_newM (M := fun k_ => (w.heap.size ≤ k_)) ho25 (below_size bel) (fun k_ h_ => h_)) (Kd.R_lt (rq HO270.out))) (below_size bel)); replace HO270 := am (Kd.R_elder' (rq HO270.out) (Kd.R_base ho25) hb); replace HB := am (below_step bel hb); clear hb ho25
          refine hK.out _ _ trivial (fun hHeld => ?_); clear hK K; refine nm 39 ?_
          exact norm_ b58_ (hCont (v261, v269, v272) _ ⟨(vq (Kd.V_mono HO267.out (fun _ hk => ⟨hk.1.1, ⟨hk.1.2, hk.2⟩⟩))), (rq HO270.out), (rq (Kd.R_mono HO273.out (fun _ hk => ⟨hk.1.1, hk.2⟩))), (vq (Kd.V_mono HO281.out (fun _ hk => ⟨hk.1.1, ⟨hk.1.2, hk.2⟩⟩))), (vq (Kd.V_mono HO_0.out (fun _ hk => ⟨hk.1.1, ⟨hk.1.2, hk.2⟩⟩))), bel⟩)
         ·skip
          refine Kd.R_lit_step Kd.string _ 9 ?hg (N := 39) ?hd (xs := ([a1] : List ByteArray)) (inner := [.string a1]) (ok := fun _ => True) (okp := fun _ => True) ?hr ?hp (fun _ hk => hk) trivial (Below.refl _ _) (Nat.le_refl _) (by simp) ?_; (case hd => rfl); (case hg => rfl); (case hr => (go_simp; done)); (case hp => exact (Reps.one (show Kd.M Kd.string _ _ _ a1 [.string a1] from rfl) (Reps.none _ _)))
          intro v272 w23 ho24 hb hg_ hnew_; clear hg_ hnew_
          (rw [← Ny271.out] at ho24)
          replace HO_0 := am (Kd.V_elder' (vq HO_0.out) (Kd.R_base ho24) hb); replace HO267 := am (Kd.V_elder' (vq HO267.out) (Kd.R_base ho24) hb); replace HO281 := am (Kd.V_elder' (vq HO281.out) (Kd.R_base ho24) hb); have HO273 := am (Kd.R_lower (Kd.R_new' (Kd.R_newM (M := fun k_ => (w.heap.size ≤ k_)) ho24 (below_size bel) (fun k_ h_ => h_)) (Kd.R_lt (rq HO262.out))) (below_size bel)); replace HO262 := am (Kd.R_elder' (rq HO262.out) (Kd.R_base ho24) hb); replace HB := am (below_step bel hb); clear hb ho24
          refine hK.out _ _ trivial (fun hHeld => ?_); clear hK K; refine nm 39 ?_; refine on1 4 37 (fun K hK => ?_)
          refine Kd.R_append_rows_step Kd.string (w0 := w) w.heap.size (by rfl) (.tmp 33) (.tmp 36) 27 9 (.string ⟨#[]⟩) 16 rfl Try.underlying27 info9 rfl (by decide) (by omega) v261 y260 y263 _ _ _ (fun k_ => (w.heap.size ≤ k_) ∧ some k_ ≠ (v272 : Value).ownBlock) (fun _ => False) rfl rfl ?aO ?aR (fun _ _ h => h) (fun _ h => h.elim) ?aF ?aB ?aS ?aL ?_
          (case aR => exact cq (Kd.V_reads' HO267.out).2.2); (case aB => exact bel); (case aF => exact (fun k_ hk => ⟨(Nat.le_trans (below_size bel) hk), Kd.fresh' (Kd.R_lt (rq HO273.out)) k_ hk⟩)); (case aO => exact (rq (Kd.R_mono HO262.out (fun _ hk => ⟨hk.1.1, hk.2⟩)))); (case aS => exact (below_size bel)); (case aL => have := LMc13.out; omega); intro v269 w25 ho hb hg hat; rw [← Ny268.out] at ho; replace HO_0 := am (Kd.V_afterv (ok := (fun k_ => (P0_ k_ ∨ w.heap.size ≤ k_) ∧ some k_ ≠ (v272 : Value).ownBlock)) (vq (Kd.V_mono HO_0.out (fun _ hk => ⟨⟨hk.1.1, hk.2⟩, hk.1.2⟩))) hg hat); replace HO267 := am (Kd.V_afterv (ok := (fun k_ => (P0_ k_ ∨ w.heap.size ≤ k_) ∧ some k_ ≠ (v272 : Value).ownBlock)) (vq (Kd.V_mono HO267.out (fun _ hk => ⟨⟨hk.1.1, hk.2⟩, hk.1.2⟩))) hg hat); replace HO281 := am (Kd.V_afterv (ok := (fun k_ => (P0_ k_ ∨ w.heap.size ≤ k_) ∧ some k_ ≠ (v272 : Value).ownBlock)) (vq (Kd.V_mono HO281.out (fun _ hk => ⟨⟨hk.1.1, hk.2⟩, hk.1.2⟩))) hg hat); replace HO273 := am (Kd.R_after (ok := (fun k_ => (w.heap.size ≤ k_))) (rq (Kd.R_mono HO273.out (fun _ hk => ⟨hk.1.1, hk.2⟩))) hg hat); replace HB := am (hb); have HO270 := am (ho); clear HO262; clear ho hb hg hat
          refine hK.out _ _ trivial (fun hHeld => ?_); clear hK K; refine nm 37 ?_
          exact norm_ b58_ (hCont (v261, v269, v272) _ ⟨(vq (Kd.V_mono HO267.out (fun _ hk => ⟨hk.1.1, ⟨hk.2, hk.1.2⟩⟩))), (rq HO270.out), (rq HO273.out), (vq (Kd.V_mono HO281.out (fun _ hk => ⟨hk.1.1, ⟨hk.2, hk.1.2⟩⟩))), (vq (Kd.V_mono HO_0.out (fun _ hk => ⟨hk.1.1, ⟨hk.2, hk.1.2⟩⟩))), bel⟩)
        ·skip
         refine Kd.R_lit_step Kd.string _ 9 ?hg (N := 39) ?hd (xs := ([a1] : List ByteArray)) (inner := [.string a1]) (ok := fun _ => True) (okp := fun _ => True) ?hr ?hp (fun _ hk => hk) trivial (Below.refl _ _) (Nat.le_refl _) (by simp) ?_; (case hd => rfl); (case hg => rfl); (case hr => (go_simp; done)); (case hp => exact (Reps.one (show Kd.M Kd.string _ _ _ a1 [.string a1] from rfl) (Reps.none _ _)))
         intro v272 w21 ho22 hb hg_ hnew_; clear hg_ hnew_
         (rw [← Ny271.out] at ho22)
         replace HO_0 := am (Kd.V_elder' (vq HO_0.out) (Kd.R_base ho22) hb); replace HO267 := am (Kd.V_elder' (vq HO267.out) (Kd.R_base ho22) hb); replace HO281 := am (Kd.V_elder' (vq HO281.out) (Kd.R_base ho22) hb); have HO273 := am (Kd.R_lower (Kd.R_newM (M := fun k_ => (w.heap.size ≤ k_)) ho22 (below_size bel) (fun k_ h_ => h_)) (below_size bel)); replace HB := am (below_step bel hb); clear hb ho22
         refine hK.out _ _ trivial (fun hHeld => ?_); clear hK K; refine nm 39 ?_; refine on1 0 33 (fun K hK => ?_)
         refine Kd.R_lit_step Kd.string _ 9 ?hg (N := 33) ?hd (xs := ([] : List ByteArray)) (inner := []) (ok := fun _ => True) (okp := fun _ => True) ?hr ?hp (fun _ hk => hk) trivial (Below.refl _ _) (Nat.le_refl _) (by simp) ?_; (case hd => rfl); (case hg => rfl); (case hr => (go_simp; done)); (case hp => exact (Reps.none _ _))
         intro v261 w23 ho24 hb hg_ hnew_; clear hg_ hnew_
         (rw [← Ny260.out] at ho24)
         replace HO_0 := am (Kd.V_elder' (vq HO_0.out) (Kd.R_base ho24) hb); replace HO267 := am (Kd.V_elder' (vq HO267.out) (Kd.R_base ho24) hb); replace HO281 := am (Kd.V_elder' (vq HO281.out) (Kd.R_base ho24) hb); have HO262 := am (Kd.R_lower (Kd.R_new' (Kd.R_newM (M := fun k_ => (w.heap.size ≤ k_)) ho24 (below_size bel) (fun k_ h_ => h_)) (Kd.R_lt (rq HO273.out))) (below_size bel)); replace HO273 := am (Kd.R_elder' (rq HO273.out) (Kd.R_base ho24) hb); replace HB := am (below_step bel hb); clear hb ho24
         refine hK.out _ _ trivial (fun hHeld => ?_); clear hK K; refine nm 33 ?_; refine on1 4 37 (fun K hK => ?_)
         refine Kd.R_append_rows_step Kd.string (w0 := w) w.heap.size (by rfl) (.tmp 33) (.tmp 36) 27 9 (.string ⟨#[]⟩) 16 rfl Try.underlying27 info9 rfl (by decide) (by omega) v261 y260 y263 _ _ _ (fun k_ => (w.heap.size ≤ k_) ∧ some k_ ≠ (v272 : Value).ownBlock) (fun _ => False) rfl rfl ?aO ?aR (fun _ _ h => h) (fun _ h => h.elim) ?aF ?aB ?aS ?aL ?_
         (case aR => exact cq (Kd.V_reads' HO267.out).2.2); (case aB => exact bel); (case aF => exact (fun k_ hk => ⟨(Nat.le_trans (below_size bel) hk), Kd.fresh' (Kd.R_lt (rq HO273.out)) k_ hk⟩)); (case aO => exact (rq (Kd.R_mono HO262.out (fun _ hk => ⟨hk.1.1, hk.2⟩)))); (case aS => exact (below_size bel)); (case aL => have := LMc13.out; omega); intro v269 w25 ho hb hg hat; rw [← Ny268.out] at ho; replace HO_0 := am (Kd.V_afterv (ok := (fun k_ => (P0_ k_ ∨ w.heap.size ≤ k_) ∧ some k_ ≠ (v272 : Value).ownBlock)) (vq HO_0.out) hg hat); replace HO267 := am (Kd.V_afterv (ok := (fun k_ => (P0_ k_ ∨ w.heap.size ≤ k_) ∧ some k_ ≠ (v272 : Value).ownBlock)) (vq HO267.out) hg hat); replace HO281 := am (Kd.V_afterv (ok := (fun k_ => (P0_ k_ ∨ w.heap.size ≤ k_) ∧ some k_ ≠ (v272 : Value).ownBlock)) (vq HO281.out) hg hat); replace HO273 := am (Kd.R_after (ok := (fun k_ => (w.heap.size ≤ k_))) (rq (Kd.R_mono HO273.out (fun _ hk => ⟨hk.1.1, hk.2⟩))) hg hat); replace HB := am (hb); have HO270 := am (ho); clear HO262; clear ho hb hg hat
         refine hK.out _ _ trivial (fun hHeld => ?_); clear hK K; refine nm 37 ?_
         exact norm_ b58_ (hCont (v261, v269, v272) _ ⟨(vq (Kd.V_mono HO267.out (fun _ hk => ⟨hk.1.1, ⟨hk.2, hk.1.2⟩⟩))), (rq HO270.out), (rq HO273.out), (vq (Kd.V_mono HO281.out (fun _ hk => ⟨hk.1.1, ⟨hk.2, hk.1.2⟩⟩))), (vq (Kd.V_mono HO_0.out (fun _ hk => ⟨hk.1.1, ⟨hk.2, hk.1.2⟩⟩))), bel⟩)
       rintro ⟨v261, v269, v272⟩ w26 ⟨h0_, h1_, h2_, h3_, h4_, h5_⟩
       have n0_ : Aside0 (Kd.V Kd.string 9 w26 w.heap.size (fun k_ => (P0_ k_ ∨ w.heap.size ≤ k_) ∧ some k_ ≠ (v269 : Value).ownBlock ∧ some k_ ≠ (v272 : Value).ownBlock) (.slice A0 y263.length c0) y263) := ⟨h0_⟩
       have n1_ : Aside0 (Kd.R Kd.string 9 w26 w.heap.size (fun k_ => (w.heap.size ≤ k_) ∧ some k_ ≠ (v272 : Value).ownBlock) v269 y268) := ⟨h1_⟩
       have n2_ : Aside0 (Kd.R Kd.string 9 w26 w.heap.size (fun k_ => (w.heap.size ≤ k_) ∧ some k_ ≠ (v269 : Value).ownBlock) v272 y271) := ⟨h2_⟩
       have n3_ : Aside0 (Kd.V Kd.string 9 w26 w.heap.size (fun k_ => (P0_ k_ ∨ w.heap.size ≤ k_) ∧ some k_ ≠ (v269 : Value).ownBlock ∧ some k_ ≠ (v272 : Value).ownBlock) (.slice A20 y277.length c20) y277) := ⟨h3_⟩
       have n4_ : Aside0 (Kd.V Kd.string 9 w26 w.heap.size (fun k_ => (P0_ k_ ∨ w.heap.size ≤ k_) ∧ some k_ ≠ (v269 : Value).ownBlock ∧ some k_ ≠ (v272 : Value).ownBlock) (.slice A0 l0.length c0) l0) := ⟨h4_⟩
       have n5_ : Aside0 (Below w.heap.size w w26) := ⟨h5_⟩
       clear HO_0; clear HB; clear h0_ h1_ h2_ h3_ h4_ h5_; have HO267 := n0_; have HO270 := n1_; have HO273 := n2_; have HO281 := n3_; have HO_0 := n4_; have HB := n5_; clear n0_ n1_ n2_ n3_ n4_ n5_; have hHeld := trivial; obtain ⟨Ao28, co28, eo28⟩ := Kd.R_slice HO273.out
       (subst eo28)
       refine norm_ (a' := ?_) ?_ ?_
       rotate_left
       ·simp only [putAll, Act.put, List.setIfInBounds_toArray, List.set_cons_zero, List.set_cons_succ]
        rfl
       refine on1 7 40 (fun K hK => ?_)
       refine Kd.R_append_rows_step Kd.string (w0 := w) w.heap.size (by rfl) (.tmp 37) (.tmp 39) 27 9 (.string ⟨#[]⟩) 16 rfl Try.underlying27 info9 rfl (by decide) (by omega) v269 y268 y271 _ _ _ (fun k_ => (w.heap.size ≤ k_) ∧ some k_ ≠ (.slice Ao28 y271.length co28 : Value).ownBlock) (fun _ => False) rfl rfl ?aO ?aR (fun _ _ h => h) (fun _ h => h.elim) ?aF ?aB ?aS ?aL ?_
       (case aR => exact cq (Kd.R_reads' HO273.out).2.2); (case aB => exact bel); (case aF => exact (fun k_ hk => ⟨(Nat.le_trans (below_size bel) hk), Kd.fresh' (Kd.R_lt (rq HO273.out)) k_ hk⟩)); (case aO => exact (rq HO270.out)); (case aS => exact (below_size bel)); (case aL => have := LMc14.out; omega); intro v275 w27 ho hb hg hat; rw [← Ny274.out] at ho; replace HO_0 := am (Kd.V_afterv (ok := (fun k_ => (P0_ k_ ∨ w.heap.size ≤ k_) ∧ some k_ ≠ (.slice Ao28 y271.length co28 : Value).ownBlock)) (vq (Kd.V_mono HO_0.out (fun _ hk => ⟨⟨hk.1, hk.2.2⟩, hk.2.1⟩))) hg hat); replace HO267 := am (Kd.V_afterv (ok := (fun k_ => (P0_ k_ ∨ w.heap.size ≤ k_) ∧ some k_ ≠ (.slice Ao28 y271.length co28 : Value).ownBlock)) (vq (Kd.V_mono HO267.out (fun _ hk => ⟨⟨hk.1, hk.2.2⟩, hk.2.1⟩))) hg hat); replace HO281 := am (Kd.V_afterv (ok := (fun k_ => (P0_ k_ ∨ w.heap.size ≤ k_) ∧ some k_ ≠ (.slice Ao28 y271.length co28 : Value).ownBlock)) (vq (Kd.V_mono HO281.out (fun _ hk => ⟨⟨hk.1, hk.2.2⟩, hk.2.1⟩))) hg hat); replace HO273 := am (Kd.R_after (ok := (fun k_ => (w.heap.size ≤ k_))) (rq HO273.out) hg hat); replace HB := am (hb); have HO276 := am (ho); clear HO270; clear ho hb hg hat
       refine hK.out _ _ trivial (fun hHeld => ?_); clear hK K; refine nm 40 ?_; refine on1 11 44 (fun K hK => ?_)
       refine Kd.R_append_rows_step Kd.string (w0 := w) w.heap.size (by rfl) (.tmp 40) (.tmp 43) 27 9 (.string ⟨#[]⟩) 16 rfl Try.underlying27 info9 rfl (by decide) (by omega) v275 y274 y277 _ _ _ (fun k_ => (w.heap.size ≤ k_) ∧ some k_ ≠ (.slice Ao28 y271.length co28 : Value).ownBlock) (fun _ => False) rfl rfl ?aO ?aR (fun _ _ h => h) (fun _ h => h.elim) ?aF ?aB ?aS ?aL ?_
       (case aR => exact cq (Kd.V_reads' HO281.out).2.2); (case aB => exact bel); (case aF => exact (fun k_ hk => ⟨(Nat.le_trans (below_size bel) hk), Kd.fresh' (Kd.R_lt (rq HO273.out)) k_ hk⟩)); (case aO => exact (rq HO276.out)); (case aS => exact (below_size bel)); (case aL => have := LMc17.out; omega); intro v283 w29 ho hb hg hat; rw [← Ny282.out] at ho; replace HO_0 := am (Kd.V_afterv (ok := (fun k_ => (P0_ k_ ∨ w.heap.size ≤ k_) ∧ some k_ ≠ (.slice Ao28 y271.length co28 : Value).ownBlock)) (vq HO_0.out) hg hat); replace HO267 := am (Kd.V_afterv (ok := (fun k_ => (P0_ k_ ∨ w.heap.size ≤ k_) ∧ some k_ ≠ (.slice Ao28 y271.length co28 : Value).ownBlock)) (vq HO267.out) hg hat); replace HO281 := am (Kd.V_afterv (ok := (fun k_ => (P0_ k_ ∨ w.heap.size ≤ k_) ∧ some k_ ≠ (.slice Ao28 y271.length co28 : Value).ownBlock)) (vq HO281.out) hg hat); replace HO273 := am (Kd.R_after (ok := (fun k_ => (w.heap.size ≤ k_))) (rq HO273.out) hg hat); replace HB := am (hb); have HO284 := am (ho); clear HO276; clear ho hb hg hat
       refine hK.out _ _ trivial (fun hHeld => ?_); clear hK K; refine nm 44 ?_; refine pu 12 4 ?_
       refine done_ (done_of HT_.out (by kernel_rfl)) ?_
       try go_wp2
       go_ret
       exact ⟨_, eq_, Kd.V_mono (Kd.R_V (rq (Kd.R_mono HO284.out (fun _ hk => hk.1)))) (fun k_ hk => by exact (.inr (hk))), bel⟩

/-! ### spec_l13Entry: function 113 -/
def spec_l13Entry.f (k : Nat) (s0_0 : List Int) (s0_1 : Int) (a1 : ByteArray) : Option (ByteArray × ByteArray × Int) := (spec_l1Rd_of.f k s0_0 s0_1 (([(⟨#[]⟩ : ByteArray), (⟨#[]⟩ : ByteArray), (⟨#[83]⟩ : ByteArray), (⟨#[71, 83]⟩ : ByteArray), (⟨#[85]⟩ : ByteArray), (⟨#[71, 85]⟩ : ByteArray), (⟨#[82]⟩ : ByteArray), (⟨#[84]⟩ : ByteArray), (⟨#[67, 82, 83, 85]⟩ : ByteArray)] : List ByteArray))).bind fun bt289 => (some (a1, bt289.1, bt289.2))
theorem spec_l13Entry.calls (k : Nat) (g : Nat) (s0_0 : List Int) (s0_1 : Int) (a1 : ByteArray) (r1 : ByteArray) (r2 : ByteArray) (r3 : Int) (w0 w : World) (hI : IsS114 w0 w g s0_0 s0_1) (hB : Below w0.heap.size w0 w) (h : spec_l13Entry.f k s0_0 s0_1 a1 = some (r1, r2, r3)) :
  Calls Try.prog 113 #[.pointer (some ⟨g, 0, none⟩), .string a1] w fun e w' => e = .returned (.agg #[.string r1, .string r2]) ∧ IsS114 w0 w' g s0_0 r3 ∧ Below w0.heap.size w0 w' ∧ KeepBut w w' g none := by
 have hu66 := Try.underlying66; have HI0 := am hI; have HK := am (KeepBut.refl w g none); have HL := am hB.size; clear hI; have HW0 := am hB.size; have HB := am hB; clear hB
 have H := h; unfold spec_l13Entry.f at H
 clear h; obtain ⟨y286, hy286⟩ : ∃ y_ : List ByteArray, y_ = (([(⟨#[]⟩ : ByteArray), (⟨#[]⟩ : ByteArray), (⟨#[83]⟩ : ByteArray), (⟨#[71, 83]⟩ : ByteArray), (⟨#[85]⟩ : ByteArray), (⟨#[71, 85]⟩ : ByteArray), (⟨#[82]⟩ : ByteArray), (⟨#[84]⟩ : ByteArray), (⟨#[67, 82, 83, 85]⟩ : ByteArray)] : List ByteArray)) := ⟨_, rfl⟩
 rw [← hy286] at H
 have Ny286 := am hy286; clear hy286; replace H := bs H; obtain ⟨⟨t289, t290⟩, A30, H⟩ := H; dsimp only at H; have A3 := Aside0.mk A30; clear A30
 simp only [Option.some.injEq, Prod.mk.injEq] at H
 obtain ⟨rfl, rfl, rfl⟩ := H; go_enter Try.func113, Try.ntmps113
 go_wp2_with (first | ((with_reducible refine gate_dst (N := 4) rfl ?_); refine bx 4 (cs := #[.string (⟨#[]⟩ : ByteArray), .string (⟨#[]⟩ : ByteArray)]) (t := 66) ?_; intro gb285 hg w4 hbox hb; replace HB := am (below_step b1_ hb); have BK285 := am (hbox); have GW285 := am ((b8_ : w.heap.size ≤ gb285)); have GE285 := am ((Nat.le_trans HW0.out (b8_ : w.heap.size ≤ gb285) : w0.heap.size ≤ gb285)); replace HK := am (KeepBut.trans b0_ (KeepBut.of_below hb g none) (.inl rfl)); have NB0_285 := am ((b48_ : g ≠ gb285)); have NB285_0 := am ((b49_ : gb285 ≠ g)); replace HI0 := am (IsS114.below b2_ hb); clear hb hbox hg) | ((with_reducible refine gate_dst (N := 7) rfl ?_); refine Kd.R_lit Kd.string _ 9 ?hg (N := 7) ?hd (xs := ([(⟨#[]⟩ : ByteArray), (⟨#[]⟩ : ByteArray), (⟨#[83]⟩ : ByteArray), (⟨#[71, 83]⟩ : ByteArray), (⟨#[85]⟩ : ByteArray), (⟨#[71, 85]⟩ : ByteArray), (⟨#[82]⟩ : ByteArray), (⟨#[84]⟩ : ByteArray), (⟨#[67, 82, 83, 85]⟩ : ByteArray)] : List ByteArray)) (inner := [.string (⟨#[]⟩ : ByteArray), .string (⟨#[]⟩ : ByteArray), .string (⟨#[83]⟩ : ByteArray), .string (⟨#[71, 83]⟩ : ByteArray), .string (⟨#[85]⟩ : ByteArray), .string (⟨#[71, 85]⟩ : ByteArray), .string (⟨#[82]⟩ : ByteArray), .string (⟨#[84]⟩ : ByteArray), .string (⟨#[67, 82, 83, 85]⟩ : ByteArray)]) (ok := fun _ => True) (okp := fun _ => True) ?hr ?hp (fun _ hk => hk) trivial (Below.refl _ _) (Nat.le_refl _) (by simp) ?_; (case hd => rfl); (case hg => rfl); (case hr => (go_simp; done)); (case hp => exact (Reps.one (show Kd.M Kd.string _ _ _ (⟨#[]⟩ : ByteArray) [.string (⟨#[]⟩ : ByteArray)] from rfl) (Reps.one (show Kd.M Kd.string _ _ _ (⟨#[]⟩ : ByteArray) [.string (⟨#[]⟩ : ByteArray)] from rfl) (Reps.one (show Kd.M Kd.string _ _ _ (⟨#[83]⟩ : ByteArray) [.string (⟨#[83]⟩ : ByteArray)] from rfl) (Reps.one (show Kd.M Kd.string _ _ _ (⟨#[71, 83]⟩ : ByteArray) [.string (⟨#[71, 83]⟩ : ByteArray)] from rfl) (Reps.one (show Kd.M Kd.string _ _ _ (⟨#[85]⟩ : ByteArray) [.string (⟨#[85]⟩ : ByteArray)] from rfl) (Reps.one (show Kd.M Kd.string _ _ _ (⟨#[71, 85]⟩ : ByteArray) [.string (⟨#[71, 85]⟩ : ByteArray)] from rfl) (Reps.one (show Kd.M Kd.string _ _ _ (⟨#[82]⟩ : ByteArray) [.string (⟨#[82]⟩ : ByteArray)] from rfl) (Reps.one (show Kd.M Kd.string _ _ _ (⟨#[84]⟩ : ByteArray) [.string (⟨#[84]⟩ : ByteArray)] from rfl) (Reps.one (show Kd.M Kd.string _ _ _ (⟨#[67, 82, 83, 85]⟩ : ByteArray) [.string (⟨#[67, 82, 83, 85]⟩ : ByteArray)] from rfl) (Reps.none _ _))))))))))); intro v287 w5 ho6 hb hg_ hnew_; clear hg_ hnew_; (rw [← Ny286.out] at ho6); have HO288 := am (Kd.R_lower ho6 (keep_size (w := w) (g := g) (row := none) b46_)); replace BK285 := am (blk_below (bq BK285.out) hb); replace HK := am (KeepBut.trans b46_ (KeepBut.of_below hb g none) (.inl rfl)); replace HB := am (below_step b73_ hb); replace HI0 := am (IsS114.below b76_ hb); clear hb ho6; obtain ⟨Ao7, co7, eo7⟩ := Kd.R_slice HO288.out; subst eo7) | ((with_reducible refine gate_callee (f := 92) rfl ?_); refine gl 8 Try.func92 #[.pointer (some ⟨g, 0, none⟩), .slice Ao7 y286.length co7] ?_; (with_reducible refine (spec_l1Rd_of.calls k g s0_0 s0_1 _ _ y286 t289 t290 w0 _ ?side1 ?side2 ?side3 ?side4 ?side5 A3.out).mono ?_); (case side1 => repeat (with_reducible exact HI0.out)); (case side2 => repeat (with_reducible exact HB.out)); (case side3 => exact cq (Kd.R_reads' HO288.out).2.2); (case side4 => exact (Kd.R_reads' HO288.out).2.1); (case side5 => exact far_slice (IsS114.own_ne HI0.out HO288.out (by decide))); rintro e w8 ⟨rfl, hi, hb, hk⟩; refine ⟨_, rfl, ?_⟩; replace BK285 := am (KeepBut.blk hk (g' := gb285) (o := .cells #[.string (⟨#[]⟩ : ByteArray), .string (⟨#[]⟩ : ByteArray)] 66 (0, 0)) (bq BK285.out) NB285_0.out (by simp)); replace HO288 := am (Kd.R_mono (Kd.R_keep (IsS114.apart (show IsS114 w0 _ g s0_0 s0_1 from by repeat (with_reducible exact HI0.out)) (rq HO288.out) (by decide)) hk (fun _ h => h.2)) (fun _ h => h.1)); replace HK := am (KeepBut.trans b46_ hk (.inl rfl)); replace HB := am (hb); replace HI0 := am (hi); clear hb hk hi; have hnb9 := NB285_0.out; have hnc9 := NB0_285.out; have ⟨hcz10_0, hcz10_1, hfz10_0, hfz10_1⟩ := b2c BK285.out))
 refine bodyPost_ret (results_cell_row rfl _ _ gb285 66 #[.string a1, .string t289] (0, 0) _ rfl (by (with_reducible repeat (fail)); refine blk_put (cs := #[.string a1, .string (⟨#[]⟩ : ByteArray)]) ?_ 1 _ rfl; (with_reducible repeat (fail)); refine blk_put (cs := #[.string (⟨#[]⟩ : ByteArray), .string (⟨#[]⟩ : ByteArray)]) ?_ 0 _ rfl; (with_reducible repeat (fail)); exact BK285.out) Try.underlying66 rfl (by kernel_rfl)) rfl ?_
 exact ⟨eq_, b76_, b73_, b46_⟩
end Go.Proofs.Ytdfnijaacnlfaaa.QFnMachineGuesses

import Derived.Test.YtdfnijaacnlfaaaQFnMachineGuessesx0
import Derived.Test.YtdfnijaacnlfaaaQFnMachineGuessesx12
import Derived.Test.YtdfnijaacnlfaaaQFnMachineGuessesx16
import Derived.Test.YtdfnijaacnlfaaaQFnMachineGuessesx20
import Derived.Test.YtdfnijaacnlfaaaQFnMachineGuessesx24
import Derived.Test.YtdfnijaacnlfaaaQFnMachineGuessesx27
import Derived.Test.YtdfnijaacnlfaaaVMSh2
namespace Go.Proofs.Ytdfnijaacnlfaaa.QFnMachineGuesses
open Go.RowKit Go.Proofs.YtdfnijaacnlfaaaW.PrintWords Go.Proofs.YtdfnijaacnlfaaaW.PrintLast Go.Proofs.YtdfnijaacnlfaaaW.PrintMore Go.Proofs.Ytdfnijaacnlfaaa.Sh
attribute [local go_sem] max2_int min2_int max_two min_two max_three min_three max_four min_four
set_option linter.unusedVariables false
set_option linter.unusedSimpArgs false
-- shrunk

/-! ### laws_FnMachineGuesses: function 5 -/
mutual
def laws_FnMachineGuesses.j0 : Nat → List (S95) → ByteArray → List ByteArray → Bool → Option (Bool)
 | 0, _, _, _, _ => none
 | k + 1, x3, x4, x5, x36 => if x36 = true then ((spec_MachineGuesses.f k x3 x4).bind fun t732 => ((laws_mdTexts.f k x5 t732).bind fun t735 => (some t735))) else ((impl_MachineCount.f k x3).bind fun t736 => (laws_FnMachineGuesses.l0 k x3 x4 x5 t736 0))
def laws_FnMachineGuesses.l0 : Nat → List (S95) → ByteArray → List ByteArray → Int → Int → Option (Bool)
 | 0, _, _, _, _, _ => none
 | k + 1, x3, x4, x5, x6, x7 => if x7 < x6 then (laws_FnMachineGuesses.j2 k x3 x4 x5 x6 x7 (decide (x7 < 60))) else (laws_FnMachineGuesses.j2 k x3 x4 x5 x6 x7 false)
def laws_FnMachineGuesses.j2 : Nat → List (S95) → ByteArray → List ByteArray → Int → Int → Bool → Option (Bool)
 | 0, _, _, _, _, _, _ => none
 | k + 1, x3, x4, x5, x6, x7, x50 => if x50 = true then ((impl_MachineWord.f k x3 x7).bind fun t737 => ((impl_Far.f k t737 x4).bind fun t738 => ((laws_mdHas.f k x5 t737).bind fun t739 => (if ((t738 == 1) != t739) = true then (if t737.toList = ([] : List UInt8) then (laws_FnMachineGuesses.l0 k x3 x4 x5 x6 (wrap64 (x7 + 1))) else (some false)) else (laws_FnMachineGuesses.l0 k x3 x4 x5 x6 (wrap64 (x7 + 1))))))) else (laws_FnMachineGuesses.l1 k x3 x5 0)
def laws_FnMachineGuesses.l1 : Nat → List (S95) → List ByteArray → Int → Option (Bool)
 | 0, _, _, _ => none
 | k + 1, x3, x5, x9 => if x9 < (x5.length : Int) then (if 0 ≤ x9 then ((impl_MachineKnows.f k x3 (rdOf ByteArray.empty x5 x9)).bind fun t741 => (if t741 = true then (if x9 > 0 then (if 0 ≤ (wrap64 (x9 - 1)) then (if (wrap64 (x9 - 1)) < (x5.length : Int) then (if ((Op.bytesLess ((rdOf ByteArray.empty x5 (wrap64 (x9 - 1))).toList) ((rdOf ByteArray.empty x5 x9).toList)) = true) then (laws_FnMachineGuesses.l1 k x3 x5 (wrap64 (x9 + 1))) else (some false)) else (none)) else (none)) else (laws_FnMachineGuesses.l1 k x3 x5 (wrap64 (x9 + 1)))) else (some false))) else (none)) else (some true)
end
def laws_FnMachineGuesses.f (k : Nat) (l0 : List Int) : Option (Bool) := if (l0.length : Int) > 1048576 then (some true) else ((spec_DrawMachineGuesses.f k l0).bind fun bt719 => ((impl_MachineGuesses.f k bt719.1 bt719.2).bind fun t723 => ((spec_MachineGuesses.f k bt719.1 bt719.2).bind fun t726 => ((laws_mdTexts.f k t723 t726).bind fun t729 => (if t729 = true then ((spec_MachineOk.f k bt719.1).bind fun t730 => (if t730 = true then ((spec_WordOk.f k bt719.2).bind fun t731 => (laws_FnMachineGuesses.j0 k bt719.1 bt719.2 t723 (!t731))) else (laws_FnMachineGuesses.j0 k bt719.1 bt719.2 t723 true))) else (laws_FnMachineGuesses.j0 k bt719.1 bt719.2 t723 true))))))
def laws_FnMachineGuesses.T17 : Bool × List (List Nat × List Nat) := (true, [([], []), ([], []), ([], []), ([1, 2], [1, 2]), ([3], [3]), ([0, 4], [0, 4]), ([5], [5]), ([6, 5], [6]), ([7], [7]), ([8, 7], [7, 8]), ([9, 7, 7], [7, 9]), ([10], [10]), ([10], [10]), ([12, 10], [10, 12]), ([11, 13, 10], [10, 11, 13]), ([14, 10], [10, 14]), ([10], [10]), ([10], [10]), ([16, 17, 10], [10, 16, 17]), ([18, 10], [10, 18]), ([15, 19, 10], [10, 15, 19]), ([10, 20, 7], [7, 10, 20]), ([7, 21], [7, 21])])
def laws_FnMachineGuesses.B17 : List Nat := [0, 0, 0, 6, 14, 31, 63, 127, 255, 511, 1023, 2047, 2047, 6143, 16383, 32767, 2047, 2047, 198655, 460799, 1048575, 2097151, 4194303]
theorem laws_FnMachineGuesses.tab17 : rtab .any (opsOf Try.f5 17) = laws_FnMachineGuesses.T17 := by kernel_rfl
theorem laws_FnMachineGuesses.bits17 : waitsOk laws_FnMachineGuesses.T17.2 laws_FnMachineGuesses.B17 = true := by kernel_rfl
set_option maxHeartbeats 8000000 in
set_option maxRecDepth 100000 in
theorem laws_FnMachineGuesses.calls (k : Nat) (A0 : Option Addr) (c0 : Nat) (l0 : List Int) (r : Bool) (w : World) (hr0 : Kd.C (Kd.int .u8) w A0 l0.length l0) (hc0 : l0.length ≤ c0) (h : laws_FnMachineGuesses.f k l0 = some r) (ist_ : r = true := by exact rfl) :
  Calls Try.prog 5 #[.slice A0 l0.length c0] w fun e w' => e = .returned (.bool r) ∧ Below w.heap.size w w' := by
 have HR0 := am hr0; have HC0 := am hc0; clear hr0 hc0; have HB := am (Below.refl w.heap.size w)
 have H := h; unfold laws_FnMachineGuesses.f at H
 clear h
 by_cases c2 : (l0.length : Int) > 1048576
 ·rw [if_pos c2] at H; have c2b0 := decide_eq_true c2
  have c2b1 : decide (1048576 < l0.length) = true := decide_eq_true (by omega)
  clear c2; obtain rfl := Option.some.inj H; go_enter Try.func5, Try.ntmps5; go_wp2; go_ret
  exact ⟨eq_, bel⟩
 rw [if_neg c2] at H; have c2b0 := decide_eq_false c2
 have c2b1 : decide (1048576 < l0.length) = false := decide_eq_false (by omega)
 clear c2; replace H := bs H; obtain ⟨⟨t719, t720⟩, A30, H⟩ := H; dsimp only at H; have A3 := Aside0.mk A30; clear A30; replace H := bs H; obtain ⟨t723, A40, H⟩ := H; have A4 := Aside0.mk A40; clear A40; have HC5 := am H; clear H; go_enter Try.func5, Try.ntmps5
 go_upto_region 5 with (first | ((with_reducible refine gate_callee (f := 21) rfl ?_); refine gl 15 Try.func21 #[.slice A0 l0.length c0] ?_; (with_reducible refine (spec_DrawMachineGuesses.calls k _ _ l0 t719 t720 _ ?side1 ?side2 A3.out).mono ?_); (case side1 => repeat (exact HR0.out)); (case side2 => exact HC0.out); rintro e w6 ⟨v721, rfl, ho0, hb⟩; refine ⟨_, rfl, ?_⟩; have HO722 := am (Kd.S_lower ho0 (below_size bel)); replace HB := am (below_step bel hb); clear hb; clear ho0; obtain ⟨Ao7, co7, eo7⟩ := Kd.S_slice HO722.out; subst eo7) | ((with_reducible refine gate_callee (f := 22) rfl ?_); refine gl 20 Try.func22 #[.slice Ao7 t719.length co7, .string t720] ?_; (with_reducible refine (impl_MachineGuesses.calls k _ _ t719 t720 t723 _ ?side1 ?side2 A4.out).mono ?_); (case side1 => exact cq (Kd.S_reads' HO722.out).2.2); (case side2 => exact (Kd.S_reads' HO722.out).2.1); rintro e w8 ⟨v724, rfl, ho0, hb⟩; refine ⟨_, rfl, ?_⟩; replace HO722 := am (Kd.S_below b34_ hb); have HO725 := am (Kd.R_lower ho0 (below_size bel)); replace HB := am (below_step bel hb); clear hb; clear ho0))
 go_cut [36] (fun v36 wc => ∃ (kq : Nat) (x36_4 : Bool), v36 = .bool x36_4 ∧ Aside0 (laws_FnMachineGuesses.j0 kq t719 t720 t723 x36_4 = some r) ∧ Aside0 (kq ≤ k) ∧ Aside0 (Kd.S k95 95 wc w.heap.size (fun _ => True) (.slice Ao7 t719.length co7) t719) ∧ Aside0 (Kd.R Kd.string 9 wc w.heap.size (fun _ => True) v724 t723) ∧ Aside0 (Below w.heap.size w wc))
 case first =>
  have H := HC5.out; clear HC5; replace H := bs H; obtain ⟨t726, A90, H⟩ := H; have A9 := Aside0.mk A90; clear A90; replace H := bs H; obtain ⟨t729, A100, H⟩ := H; have A10 := Aside0.mk A100; clear A100
  by_cases c11 : t729 = true
  ·subst c11
   rw [if_pos rfl] at H
   replace H := bs H; obtain ⟨t730, A120, H⟩ := H; have A12 := Aside0.mk A120; clear A120
   by_cases c13 : t730 = true
   ·subst c13
    rw [if_pos rfl] at H
    replace H := bs H; obtain ⟨t731, A140, H⟩ := H; have A14 := Aside0.mk A140; clear A140
    have H' := am H
    clear H
    go_wp2_with (first | ((with_reducible refine gate_callee (f := 24) rfl ?_); refine gl 24 Try.func24 #[.slice Ao7 t719.length co7, .string t720] ?_; (with_reducible refine (spec_MachineGuesses.calls k _ _ t719 t720 t726 _ ?side1 ?side2 A9.out).mono ?_); (case side1 => exact cq (Kd.S_reads' HO722.out).2.2); (case side2 => exact (Kd.S_reads' HO722.out).2.1); rintro e w15 ⟨v727, rfl, ho0, hb⟩; refine ⟨_, rfl, ?_⟩; replace HO722 := am (Kd.S_below b34_ hb); have HO728 := am (Kd.R_lower (Kd.R_new' ho0 (Kd.R_lt (rq HO725.out))) (below_size bel)); replace HO725 := am (Kd.R_elder' (rq HO725.out) (Kd.R_base ho0) hb); replace HB := am (below_step bel hb); clear hb; clear ho0; obtain ⟨Ao16, co16, eo16⟩ := Kd.R_slice HO725.out; subst eo16; obtain ⟨Ao17, co17, eo17⟩ := Kd.R_slice HO728.out; subst eo17) | ((with_reducible refine gate_callee (f := 23) rfl ?_); refine gl 25 Try.func23 #[.slice Ao16 t723.length co16, .slice Ao17 t726.length co17] ?_; (with_reducible refine (laws_mdTexts.calls k _ _ t723 _ _ t726 true _ ?side1 ?side2 ?side3 ?side4 A10.out).mono ?_); (case side1 => exact cq (Kd.R_reads' HO725.out).2.2); (case side2 => exact (Kd.R_reads' HO725.out).2.1); (case side3 => exact cq (Kd.R_reads' HO728.out).2.2); (case side4 => exact (Kd.R_reads' HO728.out).2.1); rintro e w' ⟨rfl, ⟨nd, rfl⟩⟩; refine ⟨_, rfl, ?_⟩) | (go_at_call 25; (with_reducible refine (spec_MachineOk.calls k _ _ t719 true _ ?side1 ?side2 A12.out).mono ?_); (case side1 => exact cq (Kd.S_reads' HO722.out).2.2); (case side2 => exact (Kd.S_reads' HO722.out).2.1); rintro e w18 ⟨rfl, hb⟩; replace HO722 := am (Kd.S_below b34_ hb); replace HO725 := am (Kd.R_below (rq HO725.out) hb); replace HO728 := am (Kd.R_below (rq HO728.out) hb); replace HB := am (below_step bel hb); clear hb) | (go_at_call 26; (with_reducible refine (spec_WordOk.calls k t720 t731 _ A14.out).mono ?_); rintro e w' ⟨rfl, ⟨nd, rfl⟩⟩))
    go_meet
    case rel => exact ⟨_, (!t731), sq, H', ⟨b54_⟩, ⟨b34_⟩, ⟨rq (Kd.R_mono HO725.out (fun _ hk => trivial))⟩, ⟨bel⟩⟩
   replace c13 := Bool.eq_false_iff.mpr c13; subst c13
   rw [if_neg Bool.false_ne_true] at H
   have H' := am H
   clear H
   go_wp2_with (first | ((with_reducible refine gate_callee (f := 24) rfl ?_); refine gl 24 Try.func24 #[.slice Ao7 t719.length co7, .string t720] ?_; (with_reducible refine (spec_MachineGuesses.calls k _ _ t719 t720 t726 _ ?side1 ?side2 A9.out).mono ?_); (case side1 => exact cq (Kd.S_reads' HO722.out).2.2); (case side2 => exact (Kd.S_reads' HO722.out).2.1); rintro e w19 ⟨v727, rfl, ho0, hb⟩; refine ⟨_, rfl, ?_⟩; replace HO722 := am (Kd.S_below b34_ hb); have HO728 := am (Kd.R_lower (Kd.R_new' ho0 (Kd.R_lt (rq HO725.out))) (below_size bel)); replace HO725 := am (Kd.R_elder' (rq HO725.out) (Kd.R_base ho0) hb); replace HB := am (below_step bel hb); clear hb; clear ho0; obtain ⟨Ao20, co20, eo20⟩ := Kd.R_slice HO725.out; subst eo20; obtain ⟨Ao21, co21, eo21⟩ := Kd.R_slice HO728.out; subst eo21) | ((with_reducible refine gate_callee (f := 23) rfl ?_); refine gl 25 Try.func23 #[.slice Ao20 t723.length co20, .slice Ao21 t726.length co21] ?_; (with_reducible refine (laws_mdTexts.calls k _ _ t723 _ _ t726 true _ ?side1 ?side2 ?side3 ?side4 A10.out).mono ?_); (case side1 => exact cq (Kd.R_reads' HO725.out).2.2); (case side2 => exact (Kd.R_reads' HO725.out).2.1); (case side3 => exact cq (Kd.R_reads' HO728.out).2.2); (case side4 => exact (Kd.R_reads' HO728.out).2.1); rintro e w' ⟨rfl, ⟨nd, rfl⟩⟩; refine ⟨_, rfl, ?_⟩) | (go_at_call 25; (with_reducible refine (spec_MachineOk.calls k _ _ t719 false _ ?side1 ?side2 A12.out).mono ?_); (case side1 => exact cq (Kd.S_reads' HO722.out).2.2); (case side2 => exact (Kd.S_reads' HO722.out).2.1); rintro e w22 ⟨rfl, hb⟩; replace HO722 := am (Kd.S_below b34_ hb); replace HO725 := am (Kd.R_below (rq HO725.out) hb); replace HO728 := am (Kd.R_below (rq HO728.out) hb); replace HB := am (below_step bel hb); clear hb))
   go_meet
   case rel => exact ⟨_, (true), sq, H', ⟨b54_⟩, ⟨b34_⟩, ⟨rq (Kd.R_mono HO725.out (fun _ hk => trivial))⟩, ⟨bel⟩⟩
  replace c11 := Bool.eq_false_iff.mpr c11; subst c11
  rw [if_neg Bool.false_ne_true] at H
  have H' := am H
  clear H
  go_wp2_with (first | ((with_reducible refine gate_callee (f := 24) rfl ?_); refine gl 24 Try.func24 #[.slice Ao7 t719.length co7, .string t720] ?_; (with_reducible refine (spec_MachineGuesses.calls k _ _ t719 t720 t726 _ ?side1 ?side2 A9.out).mono ?_); (case side1 => exact cq (Kd.S_reads' HO722.out).2.2); (case side2 => exact (Kd.S_reads' HO722.out).2.1); rintro e w23 ⟨v727, rfl, ho0, hb⟩; refine ⟨_, rfl, ?_⟩; replace HO722 := am (Kd.S_below b34_ hb); have HO728 := am (Kd.R_lower (Kd.R_new' ho0 (Kd.R_lt (rq HO725.out))) (below_size bel)); replace HO725 := am (Kd.R_elder' (rq HO725.out) (Kd.R_base ho0) hb); replace HB := am (below_step bel hb); clear hb; clear ho0; obtain ⟨Ao24, co24, eo24⟩ := Kd.R_slice HO725.out; subst eo24; obtain ⟨Ao25, co25, eo25⟩ := Kd.R_slice HO728.out; subst eo25) | ((with_reducible refine gate_callee (f := 23) rfl ?_); refine gl 25 Try.func23 #[.slice Ao24 t723.length co24, .slice Ao25 t726.length co25] ?_; (with_reducible refine (laws_mdTexts.calls k _ _ t723 _ _ t726 false _ ?side1 ?side2 ?side3 ?side4 A10.out).mono ?_); (case side1 => exact cq (Kd.R_reads' HO725.out).2.2); (case side2 => exact (Kd.R_reads' HO725.out).2.1); (case side3 => exact cq (Kd.R_reads' HO728.out).2.2); (case side4 => exact (Kd.R_reads' HO728.out).2.1); rintro e w' ⟨rfl, ⟨nd, rfl⟩⟩; refine ⟨_, rfl, ?_⟩))
  go_meet
  case rel => exact ⟨_, (true), sq, H', ⟨b54_⟩, ⟨b34_⟩, ⟨rq (Kd.R_mono HO725.out (fun _ hk => trivial))⟩, ⟨bel⟩⟩
 case rest =>
  clear HC5; clear c2b0 c2b1; obtain ⟨kq, x36_4, rfl, HA, HJ4, HO_3, HO_5, HB⟩ := hcut
  cases kq with
  | zero => exact absurd HA.out (by simp [laws_FnMachineGuesses.j0])
  | succ kj4 =>
   have H := HA.out; clear HA; simp only [laws_FnMachineGuesses.j0] at H
   by_cases c26 : x36_4 = true
   ·subst c26
    rw [if_pos rfl] at H
    replace H := bs H; obtain ⟨t732, A270, H⟩ := H; have A27 := Aside0.mk A270; clear A270; replace H := bs H; obtain ⟨t735, A280, H⟩ := H; have A28 := Aside0.mk A280; clear A280; obtain rfl := Option.some.inj H
    go_wp2_with (first | ((with_reducible refine gate_callee (f := 24) rfl ?_); refine gl 40 Try.func24 #[.slice Ao7 t719.length co7, .string t720] ?_; (with_reducible refine (spec_MachineGuesses.calls kj4 _ _ t719 t720 t732 _ ?side1 ?side2 A27.out).mono ?_); (case side1 => exact cq (Kd.S_reads' HO_3.out).2.2); (case side2 => exact (Kd.S_reads' HO_3.out).2.1); rintro e w29 ⟨v733, rfl, ho0, hb⟩; refine ⟨_, rfl, ?_⟩; replace HO_3 := am (Kd.S_below b19_ hb); have HO734 := am (Kd.R_lower (Kd.R_new' ho0 (Kd.R_lt (rq HO_5.out))) (below_size bel)); replace HO_5 := am (Kd.R_elder' (rq HO_5.out) (Kd.R_base ho0) hb); replace HB := am (below_step bel hb); clear hb; clear ho0; obtain ⟨Ao30, co30, eo30⟩ := Kd.R_slice HO_5.out; subst eo30; obtain ⟨Ao31, co31, eo31⟩ := Kd.R_slice HO734.out; subst eo31) | ((with_reducible refine gate_callee (f := 23) rfl ?_); refine gl 41 Try.func23 #[.slice Ao30 t723.length co30, .slice Ao31 t732.length co31] ?_; (with_reducible refine (laws_mdTexts.calls kj4 _ _ t723 _ _ t732 t735 _ ?side1 ?side2 ?side3 ?side4 A28.out).mono ?_); (case side1 => exact cq (Kd.R_reads' HO_5.out).2.2); (case side2 => exact (Kd.R_reads' HO_5.out).2.1); (case side3 => exact cq (Kd.R_reads' HO734.out).2.2); (case side4 => exact (Kd.R_reads' HO734.out).2.1); rintro e w' ⟨rfl, ⟨nd, rfl⟩⟩; refine ⟨_, rfl, ?_⟩))
    go_ret
    exact ⟨eq_, bel⟩
   replace c26 := Bool.eq_false_iff.mpr c26; subst c26
   rw [if_neg Bool.false_ne_true] at H
   replace H := bs H; obtain ⟨t736, A320, H⟩ := H; have A32 := Aside0.mk A320; clear A320
   have H' := am H
   clear H
   go_wp2_with ((with_reducible refine gate_callee (f := 27) rfl ?_); refine gl 43 Try.func27 #[.slice Ao7 t719.length co7] ?_; (with_reducible refine (impl_MachineCount.calls kj4 _ _ t719 t736 _ ?side1 ?side2 A32.out).mono ?_); (case side1 => exact cq (Kd.S_reads' HO_3.out).2.2); (case side2 => exact (Kd.S_reads' HO_3.out).2.1); rintro e w33 ⟨rfl, hb⟩; refine ⟨_, rfl, ?_⟩; replace HO_3 := am (Kd.S_below b19_ hb); replace HO_5 := am (Kd.R_below (rq HO_5.out) hb); replace HB := am (below_step bel hb); clear hb)
   go_loopg [7] kj4 (fun kq v7 w' => ∃ (x7_2 : Int), v7 = .int .i64 x7_2 ∧ Aside0 (laws_FnMachineGuesses.l0 kq t719 t720 t723 t736 x7_2 = some r) ∧ Aside0 (kq ≤ kj4) ∧ Aside0 (Kd.S k95 95 w' w.heap.size (fun _ => True) (.slice Ao7 t719.length co7) t719) ∧ Aside0 (Kd.R Kd.string 9 w' w.heap.size (fun _ => True) v724 t723) ∧ Aside0 (Below w.heap.size w w'))
   case atStart => exact ⟨(0), sq, H', ⟨Nat.le_refl _⟩, ⟨b19_⟩, ⟨rq HO_5.out⟩, ⟨bel⟩⟩
   case round =>
    clear H'; obtain ⟨x7_2, rfl, HA, HK2, HO_3, HO_5, HB⟩ := hrel
    cases gk with
    | zero => exact absurd HA.out (by simp [laws_FnMachineGuesses.l0])
    | succ k2 =>
     have H := HA.out; clear HA; simp only [laws_FnMachineGuesses.l0] at H; have HC34 := am H; clear H
     go_upto_region 9 with (fail)
     go_cut [50] (fun v50 wc => ∃ (kq : Nat) (x50_33 : Bool), v50 = .bool x50_33 ∧ Aside0 (laws_FnMachineGuesses.j2 kq t719 t720 t723 t736 x7_2 x50_33 = some r) ∧ Aside0 (kq ≤ k2) ∧ Aside0 (Kd.S k95 95 wc w.heap.size (fun _ => True) (.slice Ao7 t719.length co7) t719) ∧ Aside0 (Kd.R Kd.string 9 wc w.heap.size (fun _ => True) v724 t723) ∧ Aside0 (Below w.heap.size w wc))
     case first =>
      have H := HC34.out; clear HC34
      by_cases c35 : x7_2 < t736
      ·rw [if_pos c35] at H; have c35b0 := decide_eq_true c35; clear c35
       (skip)
       have H' := am H
       clear H; go_wp2
       go_meet
       case rel => exact ⟨_, (decide (x7_2 < 60)), sq, H', ⟨by have := HJ4.out; have := HK2.out; omega⟩, ⟨b19_⟩, ⟨rq HO_5.out⟩, ⟨bel⟩⟩
      rw [if_neg c35] at H; have c35b0 := decide_eq_false c35; clear c35
      (skip)
      have H' := am H
      clear H; go_wp2
      go_meet
      case rel => exact ⟨_, (false), sq, H', ⟨by have := HJ4.out; have := HK2.out; omega⟩, ⟨b19_⟩, ⟨rq HO_5.out⟩, ⟨bel⟩⟩
     case rest =>
      clear HC34; obtain ⟨kq, x50_33, rfl, HA, HJ33, HO_3, HO_5, HB⟩ := hcut
      cases kq with
      | zero => exact absurd HA.out (by simp [laws_FnMachineGuesses.j2])
      | succ kj33 =>
       have H := HA.out; clear HA; simp only [laws_FnMachineGuesses.j2] at H
       by_cases c36 : x50_33 = true
       ·subst c36
        rw [if_pos rfl] at H
        replace H := bs H; obtain ⟨t737, A370, H⟩ := H; have A37 := Aside0.mk A370; clear A370; replace H := bs H; obtain ⟨t738, A380, H⟩ := H; have A38 := Aside0.mk A380; clear A380; replace H := bs H; obtain ⟨t739, A390, H⟩ := H; have A39 := Aside0.mk A390; clear A390
        by_cases c40 : ((t738 == 1) != t739) = true
        ·rw [if_pos c40] at H
         have c40b0 : ((t738 == 1) != t739) = true := c40
         (have c40b1 : decide ((t738 == 1) = t739) = false := by simpa using c40)
         (have c40b2 : ((t738 == 1) == t739) = false := by simpa using c40)
         (have c40b3 : ¬ ((t738 == 1) = t739) := by simpa using c40)
         clear c40
         by_cases c41 : t737.toList = ([] : List UInt8)
         ·rw [if_pos c41] at H
          have c41b0 : (t737.toList == ([] : List UInt8)) = true := beq_iff_eq.mpr c41
          have c41b1 : (t737.toList != ([] : List UInt8)) = false := bne_eq_false_iff_eq.mpr c41
          clear c41
          have H' := am H
          clear H
          go_wp2_with (first | ((with_reducible refine gate_callee (f := 28) rfl ?_); refine gl 55 Try.func28 #[.slice Ao7 t719.length co7, .int .i64 x7_2] ?_; (with_reducible refine (impl_MachineWord.calls kj33 _ _ t719 x7_2 t737 _ ?side1 ?side2 A37.out).mono ?_); (case side1 => exact cq (Kd.S_reads' HO_3.out).2.2); (case side2 => exact (Kd.S_reads' HO_3.out).2.1); rintro e w42 ⟨rfl, hb⟩; refine ⟨_, rfl, ?_⟩; replace HO_3 := am (Kd.S_below b19_ hb); replace HO_5 := am (Kd.R_below (rq HO_5.out) hb); replace HB := am (below_step bel hb); clear hb) | ((with_reducible refine gate_callee (f := 29) rfl ?_); refine gl 58 Try.func29 #[.string t737, .string t720] ?_; (with_reducible refine (impl_Far.calls kj33 t737 t720 t738 _ A38.out).mono ?_); rintro e w43 ⟨rfl, hb⟩; refine ⟨_, rfl, ?_⟩; replace HO_3 := am (Kd.S_below b19_ hb); replace HO_5 := am (Kd.R_below (rq HO_5.out) hb); replace HB := am (below_step bel hb); clear hb; obtain ⟨Ao44, co44, eo44⟩ := Kd.R_slice HO_5.out; subst eo44) | ((with_reducible refine gate_callee (f := 30) rfl ?_); refine gl 62 Try.func30 #[.slice Ao44 t723.length co44, .string t737] ?_; (with_reducible refine (laws_mdHas.calls kj33 _ _ t723 t737 t739 _ ?side1 ?side2 A39.out).mono ?_); (case side1 => exact cq (Kd.R_reads' HO_5.out).2.2); (case side2 => exact (Kd.R_reads' HO_5.out).2.1); rintro e w' ⟨rfl, ⟨nd, rfl⟩⟩; refine ⟨_, rfl, ?_⟩))
          go_roundg kj33
          case measure => have := HJ4.out; have := HK2.out; have := HJ33.out; omega
          case rel => exact ⟨(wrap64 (x7_2 + 1)), sq, H', ⟨by have := HJ4.out; have := HK2.out; have := HJ33.out; omega⟩, ⟨b19_⟩, ⟨rq HO_5.out⟩, ⟨bel⟩⟩
         rw [if_neg c41] at H; exact Bool.noConfusion ((Option.some.inj H).trans ist_)
        rw [if_neg c40] at H
        have c40b0 : ((t738 == 1) != t739) = false := by simpa using c40
        (have c40b1 : decide ((t738 == 1) = t739) = true := by simpa using c40)
        (have c40b2 : ((t738 == 1) == t739) = true := by simpa using c40)
        clear c40
        have H' := am H
        clear H
        go_wp2_with (first | ((with_reducible refine gate_callee (f := 28) rfl ?_); refine gl 55 Try.func28 #[.slice Ao7 t719.length co7, .int .i64 x7_2] ?_; (with_reducible refine (impl_MachineWord.calls kj33 _ _ t719 x7_2 t737 _ ?side1 ?side2 A37.out).mono ?_); (case side1 => exact cq (Kd.S_reads' HO_3.out).2.2); (case side2 => exact (Kd.S_reads' HO_3.out).2.1); rintro e w48 ⟨rfl, hb⟩; refine ⟨_, rfl, ?_⟩; replace HO_3 := am (Kd.S_below b19_ hb); replace HO_5 := am (Kd.R_below (rq HO_5.out) hb); replace HB := am (below_step bel hb); clear hb) | ((with_reducible refine gate_callee (f := 29) rfl ?_); refine gl 58 Try.func29 #[.string t737, .string t720] ?_; (with_reducible refine (impl_Far.calls kj33 t737 t720 t738 _ A38.out).mono ?_); rintro e w49 ⟨rfl, hb⟩; refine ⟨_, rfl, ?_⟩; replace HO_3 := am (Kd.S_below b19_ hb); replace HO_5 := am (Kd.R_below (rq HO_5.out) hb); replace HB := am (below_step bel hb); clear hb; obtain ⟨Ao50, co50, eo50⟩ := Kd.R_slice HO_5.out; subst eo50) | ((with_reducible refine gate_callee (f := 30) rfl ?_); refine gl 62 Try.func30 #[.slice Ao50 t723.length co50, .string t737] ?_; (with_reducible refine (laws_mdHas.calls kj33 _ _ t723 t737 t739 _ ?side1 ?side2 A39.out).mono ?_); (case side1 => exact cq (Kd.R_reads' HO_5.out).2.2); (case side2 => exact (Kd.R_reads' HO_5.out).2.1); rintro e w' ⟨rfl, ⟨nd, rfl⟩⟩; refine ⟨_, rfl, ?_⟩))
        go_roundg kj33
        case measure => have := HJ4.out; have := HK2.out; have := HJ33.out; omega
        case rel => exact ⟨(wrap64 (x7_2 + 1)), sq, H', ⟨by have := HJ4.out; have := HK2.out; have := HJ33.out; omega⟩, ⟨b19_⟩, ⟨rq HO_5.out⟩, ⟨bel⟩⟩
       replace c36 := Bool.eq_false_iff.mpr c36; subst c36
       rw [if_neg Bool.false_ne_true] at H
       have H' := am H
       clear H; go_wp2
       go_loopg [9] kj33 (fun kq v9 w' => ∃ (x9_4 : Int), v9 = .int .i64 x9_4 ∧ Aside0 (laws_FnMachineGuesses.l1 kq t719 t723 x9_4 = some r) ∧ Aside0 (kq ≤ kj33) ∧ Aside0 (Kd.S k95 95 w' w.heap.size (fun _ => True) (.slice Ao7 t719.length co7) t719) ∧ Aside0 (Kd.R Kd.string 9 w' w.heap.size (fun _ => True) v724 t723) ∧ Aside0 (Below w.heap.size w w'))
       case atStart => exact ⟨(0), sq, H', ⟨Nat.le_refl _⟩, ⟨b19_⟩, ⟨rq HO_5.out⟩, ⟨bel⟩⟩
       case round =>
        clear H'; obtain ⟨x9_4, rfl, HA, HK4, HO_3, HO_5, HB⟩ := hrel
        cases gk with
        | zero => exact absurd HA.out (by simp [laws_FnMachineGuesses.l1])
        | succ k4 =>
         have H := HA.out; clear HA; simp only [laws_FnMachineGuesses.l1] at H
         by_cases c51 : x9_4 < (t723.length : Int)
         ·rw [if_pos c51] at H; have c51b0 := decide_eq_true c51; clear c51
          replace H := it H; obtain ⟨c52b0, H⟩ := H; replace H := bs H; obtain ⟨t741, A530, H⟩ := H; have A53 := Aside0.mk A530; clear A530
          by_cases c54 : t741 = true
          ·subst c54
           rw [if_pos rfl] at H
           by_cases c55 : x9_4 > 0
           ·rw [if_pos c55] at H; have c55b0 := decide_eq_true c55; clear c55; obtain ⟨ji56, hji56⟩ : ∃ j_ : Int, (wrap64 (x9_4 - 1)) = j_ := ⟨_, rfl⟩
            rw [hji56] at H
            have hji56w : (IntKind.i64.wrap (x9_4 - 1)) = ji56 := (i64_w _).trans hji56
            replace H := it H; obtain ⟨c57b0, H⟩ := H; replace H := it H; obtain ⟨c58b0, H⟩ := H
            by_cases c59 : ((Op.bytesLess ((rdOf ByteArray.empty t723 (ji56)).toList) ((rdOf ByteArray.empty t723 x9_4).toList)) = true)
            ·rw [if_pos c59] at H
             have c59b0 : (Op.bytesLess ((rdOf ByteArray.empty t723 (ji56)).toList) ((rdOf ByteArray.empty t723 x9_4).toList)) = true := c59
             clear c59
             have H' := am H
             clear H; obtain ⟨Ao60, co60, eo60⟩ := Kd.R_slice HO_5.out; subst eo60
             try go_wp2
             replace HO_3 := am (Kd.S_drew HO_3.out); replace HO_5 := am (Kd.R_drew HO_5.out); replace HB := am (below_drew1 HB.out)
             have p740 : 0 ≤ (x9_4 : Int) := of_decide_eq_true ad
             have q740 : x9_4 < (t723.length : Int) := of_decide_eq_true ad
             obtain ⟨ad740, e740, hx740_0⟩ := Kd.at_string (Kd.R_reads' HO_5.out).2.2 x9_4 p740 q740; cases e740; replace p740 := eq_true p740; replace q740 := eq_true q740
             have p742 : 0 ≤ ((ji56) : Int) := of_decide_eq_true ad
             have q742 : (ji56) < (t723.length : Int) := of_decide_eq_true ad
             obtain ⟨ad742, e742, hx742_0⟩ := Kd.at_string (Kd.R_reads' HO_5.out).2.2 (ji56) p742 q742
             obtain rfl : ad740 = ad742 := (by injection e742)
             replace p742 := eq_true p742; replace q742 := eq_true q742
             have p743 : 0 ≤ (x9_4 : Int) := of_decide_eq_true ad
             have q743 : x9_4 < (t723.length : Int) := of_decide_eq_true ad
             obtain ⟨ad743, e743, hx743_0⟩ := Kd.at_string (Kd.R_reads' HO_5.out).2.2 x9_4 p743 q743
             obtain rfl : ad740 = ad743 := (by injection e743)
             replace p743 := eq_true p743; replace q743 := eq_true q743
             refine st (n := 23) (S := fun w' => w'.cell? (ad740.add (x9_4).toNat) = some (.string (rdOf ByteArray.empty t723 x9_4)) ∧ w'.cell? (ad740.add ((ji56)).toNat) = some (.string (rdOf ByteArray.empty t723 (ji56))) ∧ w'.cell? (ad740.add (x9_4).toNat) = some (.string (rdOf ByteArray.empty t723 x9_4))) (ds := []) ⟨hx740_0, hx742_0, hx743_0⟩ (fun hHeld => ?_); refine with_tabW laws_FnMachineGuesses.tab17 laws_FnMachineGuesses.bits17 (fun HT_ HW_ => ?_)
             generalize wr.drew = w61 at HO_3 HO_5 HB hx740_0 hx742_0 hx743_0 hHeld ⊢; refine pu 0 74 ?_; refine pu 1 75 ?_; refine pu 2 76 ?_; refine pu 3 77 ?_; refine tk3 4 78 hHeld ?_; refine on1 5 79 (fun K hK => ?_)
             refine go1 Try.func31 #[.slice Ao7 t719.length co7, .string (rdOf ByteArray.empty t723 x9_4)] ?_
             with_reducible refine (impl_MachineKnows.calls k4 _ _ t719 (rdOf ByteArray.empty t723 x9_4) true _ ?side1 ?side2 A53.out).mono ?_
             (case side1 => exact cq (Kd.S_reads' HO_3.out).2.2); (case side2 => exact (Kd.S_reads' HO_3.out).2.1)
             rintro e w62 ⟨rfl, hb⟩; have HS0_ := (hb.cell (World.block_lt_of_cell? _ _ (hHeld.1))).trans (hHeld.1); have HS1_ := (hb.cell (World.block_lt_of_cell? _ _ (hHeld.2.1))).trans (hHeld.2.1); have HS2_ := (hb.cell (World.block_lt_of_cell? _ _ (hHeld.2.2))).trans (hHeld.2.2); refine ⟨_, rfl, ?_⟩; replace HO_3 := am (Kd.S_below b19_ hb); replace HO_5 := am (Kd.R_below (rq HO_5.out) hb); replace HB := am (below_step bel hb); clear hb; refine hK.out _ _ ⟨HS0_, HS1_, HS2_⟩ (fun hHeld => ?_); clear hK K; refine nm 79 ?_; refine pu 6 80 ?_; refine pu 7 81 ?_; refine pu 8 82 ?_; refine pu 9 83 ?_; refine pu 10 84 ?_; refine pu 11 85 ?_; refine pu 12 86 ?_; refine pu 13 87 ?_; refine pu 14 88 ?_; refine pu 16 90 ?_; refine pu 17 91 ?_; refine pu 18 92 ?_; refine tk3 15 89 hHeld ?_; refine tk3 19 93 hHeld ?_; refine pu 20 94 ?_; refine pu 21 95 ?_; refine pu 22 96 ?_
             refine done_ (done_of HT_.out (by kernel_rfl)) ?_
             try go_wp2
             go_roundg k4
             case measure => have := HJ4.out; have := HK2.out; have := HJ33.out; have := HK4.out; omega
             case rel => exact ⟨(wrap64 (x9_4 + 1)), sq, H', ⟨by have := HJ4.out; have := HK2.out; have := HJ33.out; have := HK4.out; omega⟩, ⟨b19_⟩, ⟨rq HO_5.out⟩, ⟨bel⟩⟩
            rw [if_neg c59] at H; exact Bool.noConfusion ((Option.some.inj H).trans ist_)
           rw [if_neg c55] at H; have c55b0 := decide_eq_false c55; clear c55
           have H' := am H
           clear H; obtain ⟨Ao66, co66, eo66⟩ := Kd.R_slice HO_5.out; subst eo66
           try go_wp2
           replace HO_3 := am (Kd.S_drew HO_3.out); replace HO_5 := am (Kd.R_drew HO_5.out); replace HB := am (below_drew1 HB.out)
           have p740 : 0 ≤ (x9_4 : Int) := of_decide_eq_true ad
           have q740 : x9_4 < (t723.length : Int) := of_decide_eq_true ad
           obtain ⟨ad740, e740, hx740_0⟩ := Kd.at_string (Kd.R_reads' HO_5.out).2.2 x9_4 p740 q740; cases e740; replace p740 := eq_true p740; replace q740 := eq_true q740
           refine st (n := 23) (S := fun w' => w'.cell? (ad740.add (x9_4).toNat) = some (.string (rdOf ByteArray.empty t723 x9_4))) (ds := []) (hx740_0) (fun hHeld => ?_); refine with_tabW laws_FnMachineGuesses.tab17 laws_FnMachineGuesses.bits17 (fun HT_ HW_ => ?_)
           generalize wr.drew = w67 at HO_3 HO_5 HB hx740_0 hHeld ⊢; refine pu 0 74 ?_; refine pu 1 75 ?_; refine pu 2 76 ?_; refine pu 3 77 ?_; refine tk1 4 78 hHeld ?_; refine on1 5 79 (fun K hK => ?_)
           refine go1 Try.func31 #[.slice Ao7 t719.length co7, .string (rdOf ByteArray.empty t723 x9_4)] ?_
           with_reducible refine (impl_MachineKnows.calls k4 _ _ t719 (rdOf ByteArray.empty t723 x9_4) true _ ?side1 ?side2 A53.out).mono ?_
           (case side1 => exact cq (Kd.S_reads' HO_3.out).2.2); (case side2 => exact (Kd.S_reads' HO_3.out).2.1)
           rintro e w68 ⟨rfl, hb⟩; have HS0_ := (hb.cell (World.block_lt_of_cell? _ _ (hHeld))).trans (hHeld); refine ⟨_, rfl, ?_⟩; replace HO_3 := am (Kd.S_below b19_ hb); replace HO_5 := am (Kd.R_below (rq HO_5.out) hb); replace HB := am (below_step bel hb); clear hb; refine hK.out _ _ (HS0_) (fun hHeld => ?_); clear hK K; refine nm 79 ?_; refine pu 6 80 ?_; refine pu 7 81 ?_; refine pu 8 82 ?_; refine pu 9 83 ?_; refine pu 10 84 ?_; refine puu 11 85 ?_; refine puu 12 86 ?_; refine puu 13 87 ?_; refine puu 14 88 ?_; refine puu 15 89 ?_; refine puu 16 90 ?_; refine puu 17 91 ?_; refine puu 18 92 ?_; refine puu 19 93 ?_; refine puu 20 94 ?_; refine pu 21 95 ?_; refine pu 22 96 ?_
           refine done_ (done_of HT_.out (by kernel_rfl)) ?_
           try go_wp2
           go_roundg k4
           case measure => have := HJ4.out; have := HK2.out; have := HJ33.out; have := HK4.out; omega
           case rel => exact ⟨(wrap64 (x9_4 + 1)), sq, H', ⟨by have := HJ4.out; have := HK2.out; have := HJ33.out; have := HK4.out; omega⟩, ⟨b19_⟩, ⟨rq HO_5.out⟩, ⟨bel⟩⟩
          replace c54 := Bool.eq_false_iff.mpr c54; subst c54
          have H1 : (some false) = some r := b5_
          exact Bool.noConfusion ((Option.some.inj H1).trans ist_)
         rw [if_neg c51] at H; have c51b0 := decide_eq_false c51; clear c51; obtain rfl := Option.some.inj H; obtain ⟨Ao72, co72, eo72⟩ := Kd.R_slice HO_5.out; subst eo72; go_wp2; go_ret
         exact ⟨eq_, bel⟩

/-- THE ONE PURE STATEMENT of laws_FnMachineGuesses: yours. -/
def laws_FnMachineGuesses.Pure : Prop := ∀ (l0 : List Int), l0.length ≤ maxLen → l0.length * 1 ≤ 140737488351232 → (∀ x ∈ l0, (Lit.int .u8 x).wf = true) → ∃ k, laws_FnMachineGuesses.f k l0 = some true
theorem laws_FnMachineGuesses.walk (P : laws_FnMachineGuesses.Pure) (a0 : Option Addr) (len0 cap0 : Nat) (z0 : List Int) (w : World) (w0 : (a0 = none ∧ len0 = 0 ∧ cap0 = 0 ∧ z0 = []) ∨ ∃ x, a0 = some x ∧ len0 ≤ cap0 ∧ cap0 ≤ maxLen ∧ z0.length = cap0 ∧ (∀ i, i < z0.length → w.cell? (x.add i) = some (.int .u8 (z0.getD i 0))) ∧ ∀ n ∈ z0, (Lit.int .u8 n).wf = true) (y0 : len0 * 1 ≤ 140737488351232) :
  Calls Try.prog 5 #[.slice a0 len0 cap0] w fun e w' => e = .returned (.bool true) ∧ Below w.heap.size w w' := by
 obtain ⟨l0, rfl, hr0, hm0, hw0, hc0⟩ := ReadsInt.ofRowC w0; obtain ⟨k, h⟩ := P l0 hm0 y0 hw0
 refine (laws_FnMachineGuesses.calls k _ _ l0 true w (Kd.C_of_reads (d := (0 : Int)) (h1 := fun _ => rfl) hr0) hc0 h).mono ?_
 rintro e w' ⟨rfl, hd⟩
 exact ⟨rfl, hd⟩
end Go.Proofs.Ytdfnijaacnlfaaa.QFnMachineGuesses

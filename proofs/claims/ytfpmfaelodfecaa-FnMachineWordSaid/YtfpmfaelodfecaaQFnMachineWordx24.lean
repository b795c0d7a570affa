import Derived.Test.YtfpmfaelodfecaaQFnMachineWordx0
import Derived.Test.YtfpmfaelodfecaaQFnMachineWordx4
import Derived.Test.YtfpmfaelodfecaaQFnMachineWordx5
import Derived.Test.YtfpmfaelodfecaaQFnMachineWordx6
import Derived.Test.YtfpmfaelodfecaaQFnMachineWordx18
import Derived.Test.YtfpmfaelodfecaaQFnMachineWordx22
import Derived.Test.YtfpmfaelodfecaaQFnMachineWordx23
import Derived.Test.YtfpmfaelodfecaaVMSh2
namespace Go.Proofs.Ytfpmfaelodfecaa.QFnMachineWord
open Go.RowKit Go.Proofs.YtfpmfaelodfecaaW.PrintWords Go.Proofs.YtfpmfaelodfecaaW.PrintLast Go.Proofs.YtfpmfaelodfecaaW.PrintMore Go.Proofs.Ytfpmfaelodfecaa.Sh
attribute [local go_sem] max2_int min2_int max_two min_two max_three min_three max_four min_four   -- for this text's walks alone
set_option linter.unusedVariables false
set_option linter.unusedSimpArgs false
-- shrunk

/-! ### laws_FnMachineWord: function 7 -/
mutual
def laws_FnMachineWord.j0 : Nat → List (S94) → Int → ByteArray → Int → Bool → Option (Bool)
 | 0, _, _, _, _, _ => none
 | k + 1, x3, x4, x5, x6, x30 => if x30 = true then (some false) else (if x4 < 0 then (laws_FnMachineWord.j1 k x3 x4 x5 true) else (if x4 ≥ x6 then (laws_FnMachineWord.j1 k x3 x4 x5 true) else (laws_FnMachineWord.j1 k x3 x4 x5 (decide (x6 ≥ 1000000000)))))
def laws_FnMachineWord.j1 : Nat → List (S94) → Int → ByteArray → Bool → Option (Bool)
 | 0, _, _, _, _ => none
 | k + 1, x3, x4, x5, x41 => if x41 = true then (some (x5.toList == ([] : List UInt8))) else ((impl_MachineKnows.f k x3 x5).bind fun t595 => (if t595 = true then ((impl_MachineRank.f k x3 x5).bind fun t596 => (some (t596 == x4))) else (some false)))
end
def laws_FnMachineWord.f (k : Nat) (l0 : List Int) : Option (Bool) := if (l0.length : Int) > 1048576 then (some true) else ((spec_DrawMachineWord.f k l0).bind fun bt587 => ((impl_MachineWord.f k bt587.1 bt587.2).bind fun t591 => ((impl_MachineCount.f k bt587.1).bind fun t592 => ((spec_MachineWord.f k bt587.1 bt587.2).bind fun t593 => (if t591.toList = t593.toList then ((spec_MachineCount.f k bt587.1).bind fun t594 => (laws_FnMachineWord.j0 k bt587.1 bt587.2 t591 t592 (t592 != t594))) else (laws_FnMachineWord.j0 k bt587.1 bt587.2 t591 t592 true))))))
set_option maxHeartbeats 8000000 in
set_option maxRecDepth 100000 in
theorem laws_FnMachineWord.calls (k : Nat) (A0 : Option Addr) (c0 : Nat) (l0 : List Int) (r : Bool) (w : World) (hr0 : Kd.C (Kd.int .u8) w A0 l0.length l0) (hc0 : l0.length ≤ c0) (h : laws_FnMachineWord.f k l0 = some r) :
  Calls Try.prog 7 #[.slice A0 l0.length c0] w fun e w' => e = .returned (.bool r) ∧ Below w.heap.size w w' := by
 have HR0 := am hr0; have HC0 := am hc0; clear hr0 hc0; have HB := am (Below.refl w.heap.size w)
 have H : (if (l0.length : Int) > 1048576 then (some true) else ((spec_DrawMachineWord.f k l0).bind fun bt587 => ((impl_MachineWord.f k bt587.1 bt587.2).bind fun t591 => ((impl_MachineCount.f k bt587.1).bind fun t592 => ((spec_MachineWord.f k bt587.1 bt587.2).bind fun t593 => (if t591.toList = t593.toList then ((spec_MachineCount.f k bt587.1).bind fun t594 => (laws_FnMachineWord.j0 k bt587.1 bt587.2 t591 t592 (t592 != t594))) else (laws_FnMachineWord.j0 k bt587.1 bt587.2 t591 t592 true))))))) = some r := h
 clear h
 by_cases c2 : (l0.length : Int) > 1048576
 ·rw [if_pos c2] at H; have c2b0 := decide_eq_true c2
  have c2b1 : decide (1048576 < l0.length) = true := decide_eq_true (by omega)
  clear c2; obtain rfl := Option.some.inj H; go_enter Try.func7, Try.ntmps7; go_wp2; go_ret
  exact ⟨eq_, bel⟩
 ·rw [if_neg c2] at H; have c2b0 := decide_eq_false c2
  have c2b1 : decide (1048576 < l0.length) = false := decide_eq_false (by omega)
  clear c2; replace H := Option.bind_eq_some_iff.mp H; obtain ⟨⟨t587, t588⟩, A30, H⟩ := H; replace H : ((impl_MachineWord.f k t587 t588).bind fun t591 => ((impl_MachineCount.f k t587).bind fun t592 => ((spec_MachineWord.f k t587 t588).bind fun t593 => (if t591.toList = t593.toList then ((spec_MachineCount.f k t587).bind fun t594 => (laws_FnMachineWord.j0 k t587 t588 t591 t592 (t592 != t594))) else (laws_FnMachineWord.j0 k t587 t588 t591 t592 true))))) = some r := H; have A3 := Aside0.mk A30; clear A30; replace H := Option.bind_eq_some_iff.mp H; obtain ⟨t591, A40, H⟩ := H; replace H : ((impl_MachineCount.f k t587).bind fun t592 => ((spec_MachineWord.f k t587 t588).bind fun t593 => (if t591.toList = t593.toList then ((spec_MachineCount.f k t587).bind fun t594 => (laws_FnMachineWord.j0 k t587 t588 t591 t592 (t592 != t594))) else (laws_FnMachineWord.j0 k t587 t588 t591 t592 true)))) = some r := H; have A4 := Aside0.mk A40; clear A40; replace H := Option.bind_eq_some_iff.mp H; obtain ⟨t592, A50, H⟩ := H; replace H : ((spec_MachineWord.f k t587 t588).bind fun t593 => (if t591.toList = t593.toList then ((spec_MachineCount.f k t587).bind fun t594 => (laws_FnMachineWord.j0 k t587 t588 t591 t592 (t592 != t594))) else (laws_FnMachineWord.j0 k t587 t588 t591 t592 true))) = some r := H; have A5 := Aside0.mk A50; clear A50; have HC6 := am H; clear H; go_enter Try.func7, Try.ntmps7
  go_upto_region 6 with (first | ((with_reducible refine gate_callee (f := 38) rfl ?_); refine goesL_ (some 12) rfl rfl Try.func38 (by kernel_rfl) rfl #[.slice A0 l0.length c0] rfl mq ?_; (with_reducible refine (spec_DrawMachineWord.calls k _ _ l0 t587 t588 _ ?side1 ?side2 A3.out).mono ?_); (case side1 => repeat (first | exact HR0.out | (with_reducible refine Kd.C_alloc ?_ _) | (with_reducible refine Kd.C_drewN ?_ _) | (with_reducible refine Kd.C_drew ?_))); (case side2 => exact HC0.out); rintro e w7 ⟨v589, rfl, ho0, hb⟩; refine ⟨_, rfl, ?_⟩; have HO590 := am (Kd.S_lower ho0 (below_size bel)); replace HB := am (below_step bel hb); (try clear hb); (try clear hb2); (try clear hk); (try clear hi); (try clear ho0); obtain ⟨Ao8, co8, eo8⟩ := Kd.S_slice HO590.out; subst eo8) | ((with_reducible refine gate_callee (f := 36) rfl ?_); refine goesL_ (some 17) rfl rfl Try.func36 (by kernel_rfl) rfl #[.slice Ao8 t587.length co8, .int .i64 t588] rfl mq ?_; (with_reducible refine (impl_MachineWord.calls k _ _ t587 t588 t591 _ ?side1 ?side2 A4.out).mono ?_); (case side1 => exact cq (Kd.S_reads' HO590.out).2.2); (case side2 => exact (Kd.S_reads' HO590.out).2.1); rintro e w9 ⟨rfl, hb⟩; refine ⟨_, rfl, ?_⟩; replace HO590 := am (Kd.S_below b33_ hb); replace HB := am (below_step bel hb); (try clear hb); (try clear hb2); (try clear hk); (try clear hi)) | ((with_reducible refine gate_callee (f := 35) rfl ?_); refine goesL_ (some 19) rfl rfl Try.func35 (by kernel_rfl) rfl #[.slice Ao8 t587.length co8] rfl mq ?_; (with_reducible refine (impl_MachineCount.calls k _ _ t587 t592 _ ?side1 ?side2 A5.out).mono ?_); (case side1 => exact cq (Kd.S_reads' HO590.out).2.2); (case side2 => exact (Kd.S_reads' HO590.out).2.1); rintro e w10 ⟨rfl, hb⟩; refine ⟨_, rfl, ?_⟩; replace HO590 := am (Kd.S_below b33_ hb); replace HB := am (below_step bel hb); (try clear hb); (try clear hb2); (try clear hk); (try clear hi)))
  (try simp only [Act.put, List.setIfInBounds_toArray, List.set_cons_zero, List.set_cons_succ])
  go_cut [30] (fun v30 wc => ∃ (kq : Nat) (x30_5 : Bool), v30 = .bool x30_5 ∧ Aside0 (laws_FnMachineWord.j0 kq t587 t588 t591 t592 x30_5 = some r) ∧ Aside0 (kq ≤ k) ∧ Aside0 (Kd.S k94 94 wc w.heap.size (fun _ => True) (.slice Ao8 t587.length co8) t587) ∧ Aside0 (Below w.heap.size w wc))
  case first =>
   have H := HC6.out; clear HC6; replace H := Option.bind_eq_some_iff.mp H; obtain ⟨t593, A110, H⟩ := H; replace H : (if t591.toList = t593.toList then ((spec_MachineCount.f k t587).bind fun t594 => (laws_FnMachineWord.j0 k t587 t588 t591 t592 (t592 != t594))) else (laws_FnMachineWord.j0 k t587 t588 t591 t592 true)) = some r := H; have A11 := Aside0.mk A110; clear A110
   by_cases c12 : t591.toList = t593.toList
   ·rw [if_pos c12] at H
    have c12b0 : (t591.toList == t593.toList) = true := beq_iff_eq.mpr c12
    have c12b1 : (t591.toList != t593.toList) = false := bne_eq_false_iff_eq.mpr c12
    clear c12
    (first | rw [c12b0] | (simp only [i64_w, i32_w]; rw [c12b0]) | skip)
    replace H := Option.bind_eq_some_iff.mp H; obtain ⟨t594, A130, H⟩ := H; replace H : (laws_FnMachineWord.j0 k t587 t588 t591 t592 (t592 != t594)) = some r := H; have A13 := Aside0.mk A130; clear A130
    have H' := am H
    clear H
    go_wp2_with (first | ((with_reducible refine gate_callee (f := 39) rfl ?_); refine goesL_ (some 23) rfl rfl Try.func39 (by kernel_rfl) rfl #[.slice Ao8 t587.length co8, .int .i64 t588] rfl mq ?_; (with_reducible refine (spec_MachineWord.calls k _ _ t587 t588 t593 _ ?side1 ?side2 A11.out).mono ?_); (case side1 => exact cq (Kd.S_reads' HO590.out).2.2); (case side2 => exact (Kd.S_reads' HO590.out).2.1); rintro e w14 ⟨rfl, hb⟩; refine ⟨_, rfl, ?_⟩; replace HO590 := am (Kd.S_below b33_ hb); replace HB := am (below_step bel hb); (try clear hb); (try clear hb2); (try clear hk); (try clear hi)) | (go_at_call 40; (with_reducible refine (spec_MachineCount.calls k _ _ t587 t594 _ ?side1 ?side2 A13.out).mono ?_); (case side1 => exact cq (Kd.S_reads' HO590.out).2.2); (case side2 => exact (Kd.S_reads' HO590.out).2.1); rintro e w15 ⟨rfl, hb⟩; replace HO590 := am (Kd.S_below b33_ hb); replace HB := am (below_step bel hb); (try clear hb); (try clear hb2); (try clear hk); (try clear hi)))
    go_meet
    case rel => exact ⟨_, ((t592 != t594)), sq, H', ⟨b74_⟩, ⟨b33_⟩, ⟨bel⟩⟩
   ·rw [if_neg c12] at H
    have c12b0 : (t591.toList == t593.toList) = false := beq_eq_false_iff_ne.mpr c12
    have c12b1 : (t591.toList != t593.toList) = true := bne_iff_ne.mpr c12
    (first | rw [c12b0] | (simp only [i64_w, i32_w]; rw [c12b0]) | skip)
    have H' := am H
    clear H
    go_wp2_with (first | ((with_reducible refine gate_callee (f := 39) rfl ?_); refine goesL_ (some 23) rfl rfl Try.func39 (by kernel_rfl) rfl #[.slice Ao8 t587.length co8, .int .i64 t588] rfl mq ?_; (with_reducible refine (spec_MachineWord.calls k _ _ t587 t588 t593 _ ?side1 ?side2 A11.out).mono ?_); (case side1 => exact cq (Kd.S_reads' HO590.out).2.2); (case side2 => exact (Kd.S_reads' HO590.out).2.1); rintro e w16 ⟨rfl, hb⟩; refine ⟨_, rfl, ?_⟩; replace HO590 := am (Kd.S_below b33_ hb); replace HB := am (below_step bel hb); (try clear hb); (try clear hb2); (try clear hk); (try clear hi)))
    go_meet
    case rel => exact ⟨_, (true), sq, H', ⟨b74_⟩, ⟨b33_⟩, ⟨bel⟩⟩
  case rest =>
   clear HC6; (try clear c1); (try clear c2); (try clear c2b0); (try clear c2b1); (try clear p2); (try clear c3); (try clear c7); (try clear c12); (try clear c12b0); (try clear c12b1); obtain ⟨kq, x30_5, rfl, HA, HJ5, HO_3, HB⟩ := hcut
   cases kq with
   | zero => exact absurd HA.out (by simp [laws_FnMachineWord.j0])
   | succ kj5 =>
    have H := HA.out; clear HA
    simp only [laws_FnMachineWord.j0] at H
    by_cases c17 : x30_5 = true
    ·subst c17
     have H1 : (some false) = some r := b20_
     replace H := H1; clear H1
     obtain rfl := Option.some.inj H; go_wp2; go_ret
     exact ⟨eq_, bel⟩
    ·replace c17 := Bool.eq_false_iff.mpr c17; subst c17
     have H1 : (if t588 < 0 then (laws_FnMachineWord.j1 kj5 t587 t588 t591 true) else (if t588 ≥ t592 then (laws_FnMachineWord.j1 kj5 t587 t588 t591 true) else (laws_FnMachineWord.j1 kj5 t587 t588 t591 (decide (t592 ≥ 1000000000))))) = some r := b6_
     replace H := H1; clear H1
     have HC18 := am H; clear H
     go_upto_region 8 with (fail)
     go_cut [41] (fun v41 wc => ∃ (kq : Nat) (x41_17 : Bool), v41 = .bool x41_17 ∧ Aside0 (laws_FnMachineWord.j1 kq t587 t588 t591 x41_17 = some r) ∧ Aside0 (kq ≤ kj5) ∧ Aside0 (Kd.S k94 94 wc w.heap.size (fun _ => True) (.slice Ao8 t587.length co8) t587) ∧ Aside0 (Below w.heap.size w wc))
     case first =>
      have H := HC18.out; clear HC18
      by_cases c19 : t588 < 0
      ·rw [if_pos c19] at H; have c19b0 := decide_eq_true c19; clear c19
       (first | rw [c19b0] | (simp only [i64_w, i32_w]; rw [c19b0]) | skip)
       have H' := am H
       clear H; go_wp2
       go_meet
       case rel => exact ⟨_, (true), sq, H', ⟨by have := HJ5.out; first | omega | exact Nat.le_refl _⟩, ⟨b44_⟩, ⟨bel⟩⟩
      ·rw [if_neg c19] at H; have c19b0 := decide_eq_false c19; clear c19
       (first | rw [c19b0] | (simp only [i64_w, i32_w]; rw [c19b0]) | skip)
       by_cases c20 : t588 ≥ t592
       ·rw [if_pos c20] at H; have c20b0 := decide_eq_true c20; clear c20
        have H' := am H
        clear H; go_wp2
        go_meet
        case rel => exact ⟨_, (true), sq, H', ⟨by have := HJ5.out; first | omega | exact Nat.le_refl _⟩, ⟨b44_⟩, ⟨bel⟩⟩
       ·rw [if_neg c20] at H; have c20b0 := decide_eq_false c20; clear c20
        have H' := am H
        clear H; go_wp2
        go_meet
        case rel => exact ⟨_, (decide (t592 ≥ 1000000000)), sq, H', ⟨by have := HJ5.out; first | omega | exact Nat.le_refl _⟩, ⟨b44_⟩, ⟨bel⟩⟩
     case rest =>
      clear HC18; (try clear c1); (try clear c2); (try clear c2b0); (try clear c2b1); (try clear p2); (try clear c3); (try clear c7); (try clear c12); (try clear c12b0); (try clear c12b1); (try clear c17); (try clear c19); (try clear c19b0); (try clear c20); (try clear c20b0); (try clear p2); obtain ⟨kq, x41_17, rfl, HA, HJ17, HO_3, HB⟩ := hcut
      cases kq with
      | zero => exact absurd HA.out (by simp [laws_FnMachineWord.j1])
      | succ kj17 =>
       have H := HA.out; clear HA
       simp only [laws_FnMachineWord.j1] at H
       by_cases c21 : x41_17 = true
       ·subst c21
        have H1 : (some (t591.toList == ([] : List UInt8))) = some r := b20_
        replace H := H1; clear H1
        obtain rfl := Option.some.inj H; go_wp2; go_ret
        exact ⟨eq_, bel⟩
       ·replace c21 := Bool.eq_false_iff.mpr c21; subst c21
        have H1 : ((impl_MachineKnows.f kj17 t587 t591).bind fun t595 => (if t595 = true then ((impl_MachineRank.f kj17 t587 t591).bind fun t596 => (some (t596 == t588))) else (some false))) = some r := b6_
        replace H := H1; clear H1
        replace H := Option.bind_eq_some_iff.mp H; obtain ⟨t595, A220, H⟩ := H; replace H : (if t595 = true then ((impl_MachineRank.f kj17 t587 t591).bind fun t596 => (some (t596 == t588))) else (some false)) = some r := H; have A22 := Aside0.mk A220; clear A220
        by_cases c23 : t595 = true
        ·subst c23
         have H1 : ((impl_MachineRank.f kj17 t587 t591).bind fun t596 => (some (t596 == t588))) = some r := b20_
         replace H := H1; clear H1
         replace H := Option.bind_eq_some_iff.mp H; obtain ⟨t596, A240, H⟩ := H; replace H : (some (t596 == t588)) = some r := H; have A24 := Aside0.mk A240; clear A240; obtain rfl := Option.some.inj H
         go_wp2_with (first | ((with_reducible refine gate_callee (f := 37) rfl ?_); refine goesL_ (some 46) rfl rfl Try.func37 (by kernel_rfl) rfl #[.slice Ao8 t587.length co8, .string t591] rfl mq ?_; (with_reducible refine (impl_MachineKnows.calls kj17 _ _ t587 t591 true _ ?side1 ?side2 A22.out).mono ?_); (case side1 => exact cq (Kd.S_reads' HO_3.out).2.2); (case side2 => exact (Kd.S_reads' HO_3.out).2.1); rintro e w25 ⟨rfl, hb⟩; refine ⟨_, rfl, ?_⟩; replace HO_3 := am (Kd.S_below b44_ hb); replace HB := am (below_step bel hb); (try clear hb); (try clear hb2); (try clear hk); (try clear hi)) | (go_at_call 41; (with_reducible refine (impl_MachineRank.calls kj17 _ _ t587 t591 t596 _ ?side1 ?side2 A24.out).mono ?_); (case side1 => exact cq (Kd.S_reads' HO_3.out).2.2); (case side2 => exact (Kd.S_reads' HO_3.out).2.1); rintro e w26 ⟨rfl, hb⟩; replace HO_3 := am (Kd.S_below b44_ hb); replace HB := am (below_step bel hb); (try clear hb); (try clear hb2); (try clear hk); (try clear hi)))
         go_ret
         exact ⟨eq_, bel⟩
        ·replace c23 := Bool.eq_false_iff.mpr c23; subst c23
         have H1 : (some false) = some r := b6_
         replace H := H1; clear H1
         obtain rfl := Option.some.inj H
         go_wp2_with (first | ((with_reducible refine gate_callee (f := 37) rfl ?_); refine goesL_ (some 46) rfl rfl Try.func37 (by kernel_rfl) rfl #[.slice Ao8 t587.length co8, .string t591] rfl mq ?_; (with_reducible refine (impl_MachineKnows.calls kj17 _ _ t587 t591 false _ ?side1 ?side2 A22.out).mono ?_); (case side1 => exact cq (Kd.S_reads' HO_3.out).2.2); (case side2 => exact (Kd.S_reads' HO_3.out).2.1); rintro e w27 ⟨rfl, hb⟩; refine ⟨_, rfl, ?_⟩; replace HO_3 := am (Kd.S_below b44_ hb); replace HB := am (below_step bel hb); (try clear hb); (try clear hb2); (try clear hk); (try clear hi)))
         go_ret
         exact ⟨eq_, bel⟩

/-- THE ONE PURE STATEMENT of laws_FnMachineWord: yours. -/
def laws_FnMachineWord.Pure : Prop := ∀ (l0 : List Int), l0.length ≤ maxLen → l0.length * 1 ≤ 140737488351232 → (∀ x ∈ l0, (Lit.int .u8 x).wf = true) → ∃ k, laws_FnMachineWord.f k l0 = some true
theorem laws_FnMachineWord.walk (P : laws_FnMachineWord.Pure) (a0 : Option Addr) (len0 cap0 : Nat) (z0 : List Int) (w : World) (w0 : (a0 = none ∧ len0 = 0 ∧ cap0 = 0 ∧ z0 = []) ∨ ∃ x, a0 = some x ∧ len0 ≤ cap0 ∧ cap0 ≤ maxLen ∧ z0.length = cap0 ∧ (∀ i, i < z0.length → w.cell? (x.add i) = some (.int .u8 (z0.getD i 0))) ∧ ∀ n ∈ z0, (Lit.int .u8 n).wf = true) (y0 : len0 * 1 ≤ 140737488351232) :
  Calls Try.prog 7 #[.slice a0 len0 cap0] w fun e w' => e = .returned (.bool true) ∧ Below w.heap.size w w' := by
 obtain ⟨l0, rfl, hr0, hm0, hw0, hc0⟩ := ReadsInt.ofRowC w0; obtain ⟨k, h⟩ := P l0 hm0 y0 hw0
 refine (laws_FnMachineWord.calls k _ _ l0 true w (Kd.C_of_reads (d := (0 : Int)) (h1 := fun _ => rfl) hr0) hc0 h).mono ?_
 rintro e w' ⟨rfl, hd⟩
 exact ⟨rfl, hd⟩

end Go.Proofs.Ytfpmfaelodfecaa.QFnMachineWord

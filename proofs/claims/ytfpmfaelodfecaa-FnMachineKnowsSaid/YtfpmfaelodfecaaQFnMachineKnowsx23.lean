import Derived.Test.YtfpmfaelodfecaaQFnMachineKnowsx0
import Derived.Test.YtfpmfaelodfecaaQFnMachineKnowsx3
import Derived.Test.YtfpmfaelodfecaaQFnMachineKnowsx5
import Derived.Test.YtfpmfaelodfecaaQFnMachineKnowsx6
import Derived.Test.YtfpmfaelodfecaaQFnMachineKnowsx7
import Derived.Test.YtfpmfaelodfecaaQFnMachineKnowsx8
import Derived.Test.YtfpmfaelodfecaaQFnMachineKnowsx9
import Derived.Test.YtfpmfaelodfecaaQFnMachineKnowsx10
import Derived.Test.YtfpmfaelodfecaaQFnMachineKnowsx11
import Derived.Test.YtfpmfaelodfecaaQFnMachineKnowsx22
import Derived.Test.YtfpmfaelodfecaaVMSh2
namespace Go.Proofs.Ytfpmfaelodfecaa.QFnMachineKnows
open Go.RowKit Go.Proofs.YtfpmfaelodfecaaW.PrintWords Go.Proofs.YtfpmfaelodfecaaW.PrintLast Go.Proofs.YtfpmfaelodfecaaW.PrintMore Go.Proofs.Ytfpmfaelodfecaa.Sh
attribute [local go_sem] max2_int min2_int max_two min_two max_three min_three max_four min_four   -- for this text's walks alone
set_option linter.unusedVariables false
set_option linter.unusedSimpArgs false
-- shrunk

/-! ### spec_DrawMachineKnows: function 42 -/
def spec_DrawMachineKnows.j0 : Nat → List (S94) → Bool → List Int → Int → Option ((List (S94)) × ByteArray)
 | 0, _, _, _, _ => none
 | k + 1, x5, x17, x571000, x571001 => if x17 = true then ((spec_MachineCount.f k x5).bind fun t578 => (if t578 > 0 then ((spec_l1Rd_pick.f k x571000 x571001 t578).bind fun bt579 => ((spec_MachineWord.f k x5 bt579.1).bind fun t581 => (some (x5, t581)))) else ((spec_l13AnyWord.f k x571000 x571001).bind fun bt582 => (some (x5, bt582.1))))) else ((spec_l13AnyWord.f k x571000 x571001).bind fun bt584 => (some (x5, bt584.1)))
def spec_DrawMachineKnows.f (k : Nat) (l0 : List Int) : Option ((List (S94)) × ByteArray) := (spec_l1Open.f l0).bind fun bt568 => ((spec_l13AnyMachine.f k bt568.1 bt568.2).bind fun bt571 => ((spec_l3Small.f k bt571.1).bind fun t575 => (if t575 = true then ((spec_l1Rd_pick.f k bt568.1 bt571.2 2).bind fun bt576 => (spec_DrawMachineKnows.j0 k bt571.1 (bt576.1 == 0) bt568.1 bt576.2)) else (spec_DrawMachineKnows.j0 k bt571.1 false bt568.1 bt571.2))))
set_option maxHeartbeats 8000000 in
set_option maxRecDepth 100000 in
theorem spec_DrawMachineKnows.calls (k : Nat) (A0 : Option Addr) (c0 : Nat) (l0 : List Int) (r1 : List (S94)) (r2 : ByteArray) (w : World) (hr0 : Kd.C (Kd.int .u8) w A0 l0.length l0) (hc0 : l0.length ≤ c0) (h : spec_DrawMachineKnows.f k l0 = some (r1, r2)) :
  Calls Try.prog 42 #[.slice A0 l0.length c0] w fun e w' => ∃ v0_ : Value, e = .returned (.tuple #[v0_, .string r2]) ∧ Kd.S k94 94 w' w.heap.size (fun _ => True) v0_ r1 ∧ Below w.heap.size w w' := by
 have HR0 := am hr0; have HC0 := am hc0; clear hr0 hc0; have HB := am (Below.refl w.heap.size w)
 have H : ((spec_l1Open.f l0).bind fun bt568 => ((spec_l13AnyMachine.f k bt568.1 bt568.2).bind fun bt571 => ((spec_l3Small.f k bt571.1).bind fun t575 => (if t575 = true then ((spec_l1Rd_pick.f k bt568.1 bt571.2 2).bind fun bt576 => (spec_DrawMachineKnows.j0 k bt571.1 (bt576.1 == 0) bt568.1 bt576.2)) else (spec_DrawMachineKnows.j0 k bt571.1 false bt568.1 bt571.2))))) = some (r1, r2) := h
 clear h; replace H := Option.bind_eq_some_iff.mp H; obtain ⟨⟨t568, t569⟩, A20, H⟩ := H; replace H : ((spec_l13AnyMachine.f k t568 t569).bind fun bt571 => ((spec_l3Small.f k bt571.1).bind fun t575 => (if t575 = true then ((spec_l1Rd_pick.f k t568 bt571.2 2).bind fun bt576 => (spec_DrawMachineKnows.j0 k bt571.1 (bt576.1 == 0) t568 bt576.2)) else (spec_DrawMachineKnows.j0 k bt571.1 false t568 bt571.2)))) = some (r1, r2) := H; have A2 := Aside0.mk A20; clear A20; replace H := Option.bind_eq_some_iff.mp H; obtain ⟨⟨t571, t574⟩, A30, H⟩ := H; replace H : ((spec_l3Small.f k t571).bind fun t575 => (if t575 = true then ((spec_l1Rd_pick.f k t568 t574 2).bind fun bt576 => (spec_DrawMachineKnows.j0 k t571 (bt576.1 == 0) t568 bt576.2)) else (spec_DrawMachineKnows.j0 k t571 false t568 t574))) = some (r1, r2) := H; have A3 := Aside0.mk A30; clear A30; have HC4 := am H; clear H; go_enter Try.func42, Try.ntmps42
 go_upto_region 3 with (first | ((with_reducible refine gate_callee (f := 64) rfl ?_); refine goesL_ (some 8) rfl rfl Try.func64 (by kernel_rfl) rfl #[.slice A0 l0.length c0] rfl mq ?_; (with_reducible refine (spec_l1Open.calls _ _ l0 t568 t569 w _ ?side1 ?side2 ?side3 A2.out).mono ?_); (case side1 => repeat (first | (with_reducible first | exact HB.out | apply below_alloc | apply pw_below_drewN | apply below_drew1) | exact HB.out)); (case side2 => exact HR0.out); (case side3 => exact HC0.out); rintro e w5 ⟨g570, rfl, hi, hb, hb2⟩; refine ⟨_, rfl, ?_⟩; replace HB := am (hb); have HI570 := am (hi); (try clear hb); (try clear hb2); (try clear hk); (try clear hi)) | ((with_reducible refine gate_callee (f := 76) rfl ?_); refine goesL_ (some 10) rfl rfl Try.func76 (by kernel_rfl) rfl #[.pointer (some ⟨g570, 0, none⟩)] rfl mq ?_; (with_reducible refine (spec_l13AnyMachine.calls k g570 t568 t569 t571 t574 w _ ?side1 ?side2 A3.out).mono ?_); (case side1 => repeat (first | (with_reducible first | exact HI570.out | apply IsS127.alloc | apply IsS127.drewN | apply IsS127.drew | apply IsS127.set_1) | exact HI570.out)); (case side2 => repeat (first | (with_reducible first | exact HB.out | apply below_alloc | apply pw_below_drewN | apply below_drew1 | refine below_set ?_ (IsS127.ge HI570.out)) | exact HB.out)); rintro e w6 ⟨v572, rfl, ho0, hi, hb, hk⟩; refine ⟨_, rfl, ?_⟩; have HO573 := am (Kd.S_lower ho0 (below_size b13_)); replace HB := am (hb); replace HI570 := am (hi); (try clear hb); (try clear hb2); (try clear hk); (try clear hi); (try clear ho0)))
 (try simp only [Act.put, List.setIfInBounds_toArray, List.set_cons_zero, List.set_cons_succ])
 go_cut [17] (fun v17 wc => ∃ (kq : Nat) (x17_3 : Bool) (x571001_3 : Int), v17 = .bool x17_3 ∧ Aside0 (spec_DrawMachineKnows.j0 kq t571 x17_3 t568 x571001_3 = some (r1, r2)) ∧ Aside0 (kq ≤ k) ∧ Aside0 (Kd.S k94 94 wc w.heap.size (fun _ => True) v572 t571) ∧ Aside0 (IsS127 w wc g570 t568 x571001_3) ∧ Aside0 (Below w.heap.size w wc))
 case first =>
  have H := HC4.out; clear HC4; replace H := Option.bind_eq_some_iff.mp H; obtain ⟨t575, A70, H⟩ := H; replace H : (if t575 = true then ((spec_l1Rd_pick.f k t568 t574 2).bind fun bt576 => (spec_DrawMachineKnows.j0 k t571 (bt576.1 == 0) t568 bt576.2)) else (spec_DrawMachineKnows.j0 k t571 false t568 t574)) = some (r1, r2) := H; have A7 := Aside0.mk A70; clear A70
  by_cases c8 : t575 = true
  ·subst c8
   have H1 : ((spec_l1Rd_pick.f k t568 t574 2).bind fun bt576 => (spec_DrawMachineKnows.j0 k t571 (bt576.1 == 0) t568 bt576.2)) = some (r1, r2) := b21_
   replace H := H1; clear H1
   replace H := Option.bind_eq_some_iff.mp H; obtain ⟨⟨t576, t577⟩, A90, H⟩ := H; replace H : (spec_DrawMachineKnows.j0 k t571 (t576 == 0) t568 t577) = some (r1, r2) := H; have A9 := Aside0.mk A90; clear A90
   have H' := am H
   clear H; obtain ⟨Ao10, co10, eo10⟩ := Kd.S_slice HO573.out; subst eo10
   go_wp2_with (first | ((with_reducible refine gate_callee (f := 77) rfl ?_); refine goesL_ (some 12) rfl rfl Try.func77 (by kernel_rfl) rfl #[.slice Ao10 t571.length co10] rfl mq ?_; (with_reducible refine (spec_l3Small.calls k _ _ t571 true _ ?side1 ?side2 A7.out).mono ?_); (case side1 => exact cq (Kd.S_reads' HO573.out).2.2); (case side2 => exact (Kd.S_reads' HO573.out).2.1); rintro e w11 ⟨rfl, hb⟩; refine ⟨_, rfl, ?_⟩; replace HO573 := am (Kd.S_below b52_ hb); replace HB := am (below_step b13_ hb); replace HI570 := am (IsS127.below b22_ hb); (try clear hb); (try clear hb2); (try clear hk); (try clear hi)) | (go_at_call 67; (with_reducible refine (spec_l1Rd_pick.calls k g570 t568 t574 2 t576 t577 w _ ?side1 ?side2 A9.out).mono ?_); (case side1 => repeat (first | (with_reducible first | exact HI570.out | apply IsS127.alloc | apply IsS127.drewN | apply IsS127.drew | apply IsS127.set_1) | exact HI570.out)); (case side2 => repeat (first | (with_reducible first | exact HB.out | apply below_alloc | apply pw_below_drewN | apply below_drew1 | refine below_set ?_ (IsS127.ge HI570.out)) | exact HB.out)); rintro e w12 ⟨rfl, hi, hb, hk⟩; replace HO573 := am (Kd.S_mono (Kd.S_keep (IsS127.apartS (show IsS127 w _ g570 t568 t574 from by repeat (first | (with_reducible first | exact HI570.out | apply IsS127.alloc | apply IsS127.drewN | apply IsS127.drew | apply IsS127.set_1) | exact HI570.out)) b52_ (by decide)) hk (fun _ h => h.2)) (fun _ h => h.1)); replace HB := am (hb); replace HI570 := am (hi); (try clear hb); (try clear hb2); (try clear hk); (try clear hi)))
   go_meet
   case rel => exact ⟨_, ((t576 == 0)), (t577), sq, H', ⟨b75_⟩, ⟨b52_⟩, ⟨b22_⟩, ⟨b13_⟩⟩
  ·replace c8 := Bool.eq_false_iff.mpr c8; subst c8
   have H1 : (spec_DrawMachineKnows.j0 k t571 false t568 t574) = some (r1, r2) := b9_
   replace H := H1; clear H1
   have H' := am H
   clear H; obtain ⟨Ao13, co13, eo13⟩ := Kd.S_slice HO573.out; subst eo13
   go_wp2_with (first | ((with_reducible refine gate_callee (f := 77) rfl ?_); refine goesL_ (some 12) rfl rfl Try.func77 (by kernel_rfl) rfl #[.slice Ao13 t571.length co13] rfl mq ?_; (with_reducible refine (spec_l3Small.calls k _ _ t571 false _ ?side1 ?side2 A7.out).mono ?_); (case side1 => exact cq (Kd.S_reads' HO573.out).2.2); (case side2 => exact (Kd.S_reads' HO573.out).2.1); rintro e w14 ⟨rfl, hb⟩; refine ⟨_, rfl, ?_⟩; replace HO573 := am (Kd.S_below b52_ hb); replace HB := am (below_step b13_ hb); replace HI570 := am (IsS127.below b22_ hb); (try clear hb); (try clear hb2); (try clear hk); (try clear hi)))
   go_meet
   case rel => exact ⟨_, (false), (t574), sq, H', ⟨b75_⟩, ⟨b52_⟩, ⟨b22_⟩, ⟨b13_⟩⟩
 case rest =>
  clear HC4; (try clear p2); (try clear c4); (try clear c6); (try clear c7); (try clear c8); obtain ⟨kq, x17_3, x571001_3, rfl, HA, HJ3, HO_5, HI570, HB⟩ := hcut
  cases kq with
  | zero => exact absurd HA.out (by simp [spec_DrawMachineKnows.j0])
  | succ kj3 =>
   have H := HA.out; clear HA
   simp only [spec_DrawMachineKnows.j0] at H
   by_cases c15 : x17_3 = true
   ·subst c15
    have H1 : ((spec_MachineCount.f kj3 t571).bind fun t578 => (if t578 > 0 then ((spec_l1Rd_pick.f kj3 t568 x571001_3 t578).bind fun bt579 => ((spec_MachineWord.f kj3 t571 bt579.1).bind fun t581 => (some (t571, t581)))) else ((spec_l13AnyWord.f kj3 t568 x571001_3).bind fun bt582 => (some (t571, bt582.1))))) = some (r1, r2) := b21_
    replace H := H1; clear H1
    replace H := Option.bind_eq_some_iff.mp H; obtain ⟨t578, A160, H⟩ := H; replace H : (if t578 > 0 then ((spec_l1Rd_pick.f kj3 t568 x571001_3 t578).bind fun bt579 => ((spec_MachineWord.f kj3 t571 bt579.1).bind fun t581 => (some (t571, t581)))) else ((spec_l13AnyWord.f kj3 t568 x571001_3).bind fun bt582 => (some (t571, bt582.1)))) = some (r1, r2) := H; have A16 := Aside0.mk A160; clear A160
    by_cases c17 : t578 > 0
    ·rw [if_pos c17] at H; have c17b0 := decide_eq_true c17; clear c17; replace H := Option.bind_eq_some_iff.mp H; obtain ⟨⟨t579, t580⟩, A180, H⟩ := H; replace H : ((spec_MachineWord.f kj3 t571 t579).bind fun t581 => (some (t571, t581))) = some (r1, r2) := H; have A18 := Aside0.mk A180; clear A180; replace H := Option.bind_eq_some_iff.mp H; obtain ⟨t581, A190, H⟩ := H; replace H : (some (t571, t581)) = some (r1, r2) := H; have A19 := Aside0.mk A190; clear A190
     simp only [Option.some.injEq, Prod.mk.injEq] at H
     obtain ⟨rfl, rfl⟩ := H; obtain ⟨Ao20, co20, eo20⟩ := Kd.S_slice HO_5.out; subst eo20
     go_wp2_with (first | ((with_reducible refine gate_callee (f := 40) rfl ?_); refine goesL_ (some 19) rfl rfl Try.func40 (by kernel_rfl) rfl #[.slice Ao20 t571.length co20] rfl mq ?_; (with_reducible refine (spec_MachineCount.calls kj3 _ _ t571 t578 _ ?side1 ?side2 A16.out).mono ?_); (case side1 => exact cq (Kd.S_reads' HO_5.out).2.2); (case side2 => exact (Kd.S_reads' HO_5.out).2.1); rintro e w21 ⟨rfl, hb⟩; refine ⟨_, rfl, ?_⟩; replace HO_5 := am (Kd.S_below b10_ hb); replace HB := am (below_step b13_ hb); replace HI570 := am (IsS127.below b22_ hb); (try clear hb); (try clear hb2); (try clear hk); (try clear hi)) | ((with_reducible refine gate_callee (f := 67) rfl ?_); refine goesL_ (some 26) rfl rfl Try.func67 (by kernel_rfl) rfl #[.pointer (some ⟨g570, 0, none⟩), .int .i64 t578] rfl mq ?_; (with_reducible refine (spec_l1Rd_pick.calls kj3 g570 t568 x571001_3 t578 t579 t580 w _ ?side1 ?side2 A18.out).mono ?_); (case side1 => repeat (first | (with_reducible first | exact HI570.out | apply IsS127.alloc | apply IsS127.drewN | apply IsS127.drew | apply IsS127.set_1) | exact HI570.out)); (case side2 => repeat (first | (with_reducible first | exact HB.out | apply below_alloc | apply pw_below_drewN | apply below_drew1 | refine below_set ?_ (IsS127.ge HI570.out)) | exact HB.out)); rintro e w22 ⟨rfl, hi, hb, hk⟩; refine ⟨_, rfl, ?_⟩; replace HO_5 := am (Kd.S_mono (Kd.S_keep (IsS127.apartS (show IsS127 w _ g570 t568 x571001_3 from by repeat (first | (with_reducible first | exact HI570.out | apply IsS127.alloc | apply IsS127.drewN | apply IsS127.drew | apply IsS127.set_1) | exact HI570.out)) b10_ (by decide)) hk (fun _ h => h.2)) (fun _ h => h.1)); replace HB := am (hb); replace HI570 := am (hi); (try clear hb); (try clear hb2); (try clear hk); (try clear hi)) | ((with_reducible refine gate_callee (f := 39) rfl ?_); refine goesL_ (some 27) rfl rfl Try.func39 (by kernel_rfl) rfl #[.slice Ao20 t571.length co20, .int .i64 t579] rfl mq ?_; (with_reducible refine (spec_MachineWord.calls kj3 _ _ t571 t579 t581 _ ?side1 ?side2 A19.out).mono ?_); (case side1 => exact cq (Kd.S_reads' HO_5.out).2.2); (case side2 => exact (Kd.S_reads' HO_5.out).2.1); rintro e w23 ⟨rfl, hb⟩; refine ⟨_, rfl, ?_⟩; replace HO_5 := am (Kd.S_below b10_ hb); replace HB := am (below_step b13_ hb); replace HI570 := am (IsS127.below b22_ hb); (try clear hb); (try clear hb2); (try clear hk); (try clear hi)))
     go_ret2
     exact ⟨_, eq_, b10_, b13_⟩
    ·rw [if_neg c17] at H; have c17b0 := decide_eq_false c17; clear c17; replace H := Option.bind_eq_some_iff.mp H; obtain ⟨⟨t582, t583⟩, A240, H⟩ := H; replace H : (some (t571, t582)) = some (r1, r2) := H; have A24 := Aside0.mk A240; clear A240
     simp only [Option.some.injEq, Prod.mk.injEq] at H
     obtain ⟨rfl, rfl⟩ := H; obtain ⟨Ao25, co25, eo25⟩ := Kd.S_slice HO_5.out; subst eo25
     go_wp2_with (first | ((with_reducible refine gate_callee (f := 40) rfl ?_); refine goesL_ (some 19) rfl rfl Try.func40 (by kernel_rfl) rfl #[.slice Ao25 t571.length co25] rfl mq ?_; (with_reducible refine (spec_MachineCount.calls kj3 _ _ t571 t578 _ ?side1 ?side2 A16.out).mono ?_); (case side1 => exact cq (Kd.S_reads' HO_5.out).2.2); (case side2 => exact (Kd.S_reads' HO_5.out).2.1); rintro e w26 ⟨rfl, hb⟩; refine ⟨_, rfl, ?_⟩; replace HO_5 := am (Kd.S_below b10_ hb); replace HB := am (below_step b13_ hb); replace HI570 := am (IsS127.below b22_ hb); (try clear hb); (try clear hb2); (try clear hk); (try clear hi)) | ((with_reducible refine gate_callee (f := 66) rfl ?_); refine goesL_ (some 30) rfl rfl Try.func66 (by kernel_rfl) rfl #[.pointer (some ⟨g570, 0, none⟩)] rfl mq ?_; (with_reducible refine (spec_l13AnyWord.calls kj3 g570 t568 x571001_3 t582 t583 w _ ?side1 ?side2 A24.out).mono ?_); (case side1 => repeat (first | (with_reducible first | exact HI570.out | apply IsS127.alloc | apply IsS127.drewN | apply IsS127.drew | apply IsS127.set_1) | exact HI570.out)); (case side2 => repeat (first | (with_reducible first | exact HB.out | apply below_alloc | apply pw_below_drewN | apply below_drew1 | refine below_set ?_ (IsS127.ge HI570.out)) | exact HB.out)); rintro e w27 ⟨rfl, hi, hb, hk⟩; refine ⟨_, rfl, ?_⟩; replace HO_5 := am (Kd.S_mono (Kd.S_keep (IsS127.apartS (show IsS127 w _ g570 t568 x571001_3 from by repeat (first | (with_reducible first | exact HI570.out | apply IsS127.alloc | apply IsS127.drewN | apply IsS127.drew | apply IsS127.set_1) | exact HI570.out)) b10_ (by decide)) hk (fun _ h => h.2)) (fun _ h => h.1)); replace HB := am (hb); replace HI570 := am (hi); (try clear hb); (try clear hb2); (try clear hk); (try clear hi)))
     go_ret2
     exact ⟨_, eq_, b10_, b13_⟩
   ·replace c15 := Bool.eq_false_iff.mpr c15; subst c15
    have H1 : ((spec_l13AnyWord.f kj3 t568 x571001_3).bind fun bt584 => (some (t571, bt584.1))) = some (r1, r2) := b9_
    replace H := H1; clear H1
    replace H := Option.bind_eq_some_iff.mp H; obtain ⟨⟨t584, t585⟩, A280, H⟩ := H; replace H : (some (t571, t584)) = some (r1, r2) := H; have A28 := Aside0.mk A280; clear A280
    simp only [Option.some.injEq, Prod.mk.injEq] at H
    obtain ⟨rfl, rfl⟩ := H
    go_wp2_with (first | ((with_reducible refine gate_callee (f := 66) rfl ?_); refine goesL_ (some 30) rfl rfl Try.func66 (by kernel_rfl) rfl #[.pointer (some ⟨g570, 0, none⟩)] rfl mq ?_; (with_reducible refine (spec_l13AnyWord.calls kj3 g570 t568 x571001_3 t584 t585 w _ ?side1 ?side2 A28.out).mono ?_); (case side1 => repeat (first | (with_reducible first | exact HI570.out | apply IsS127.alloc | apply IsS127.drewN | apply IsS127.drew | apply IsS127.set_1) | exact HI570.out)); (case side2 => repeat (first | (with_reducible first | exact HB.out | apply below_alloc | apply pw_below_drewN | apply below_drew1 | refine below_set ?_ (IsS127.ge HI570.out)) | exact HB.out)); rintro e w29 ⟨rfl, hi, hb, hk⟩; refine ⟨_, rfl, ?_⟩; replace HO_5 := am (Kd.S_mono (Kd.S_keep (IsS127.apartS (show IsS127 w _ g570 t568 x571001_3 from by repeat (first | (with_reducible first | exact HI570.out | apply IsS127.alloc | apply IsS127.drewN | apply IsS127.drew | apply IsS127.set_1) | exact HI570.out)) b10_ (by decide)) hk (fun _ h => h.2)) (fun _ h => h.1)); replace HB := am (hb); replace HI570 := am (hi); (try clear hb); (try clear hb2); (try clear hk); (try clear hi)))
    go_ret2
    exact ⟨_, eq_, b10_, b13_⟩

/-! ### spec_l3Go: function 71 -/
mutual
def spec_l3Go.l0 : Nat → List (S94) → ByteArray → Int → Int → Option (Int)
 | 0, _, _, _, _ => none
 | k + 1, x0, x1, x5, x6 => if x6 < (x1.size : Int) then (spec_l3Go.l1 k x0 x1 x5 x6 (-1) 0) else (some x5)
def spec_l3Go.l1 : Nat → List (S94) → ByteArray → Int → Int → Int → Int → Option (Int)
 | 0, _, _, _, _, _, _ => none
 | k + 1, x0, x1, x5, x6, x7, x8 => if 0 ≤ x5 then (if x5 < (x0.length : Int) then (if x8 < (((rd_T94 x0 x5).f1).length : Int) then (if 0 ≤ x8 then (if 0 ≤ x6 then (if x6 < (x1.size : Int) then (if ((rd_T100 ((rd_T94 x0 x5).f1) x8).f0) = (wrap64 (bt x1 x6)) then (spec_l3Go.l1 k x0 x1 x5 x6 ((rd_T100 ((rd_T94 x0 x5).f1) x8).f1) (wrap64 (x8 + 1))) else (spec_l3Go.l1 k x0 x1 x5 x6 x7 (wrap64 (x8 + 1)))) else (none)) else (none)) else (none)) else (if x7 < 0 then (some (-1)) else (spec_l3Go.l0 k x0 x1 x7 (wrap64 (x6 + 1))))) else (none)) else (none)
end
def spec_l3Go.f (k : Nat) (l0 : List (S94)) (a1 : ByteArray) : Option (Int) := spec_l3Go.l0 k l0 a1 0 0
set_option maxHeartbeats 8000000 in
set_option maxRecDepth 100000 in
theorem spec_l3Go.calls (k : Nat) (A0 : Option Addr) (c0 : Nat) (l0 : List (S94)) (a1 : ByteArray) (r : Int) (w : World) (hr0 : Kd.C k94 w A0 l0.length l0) (hc0 : l0.length ≤ c0) (h : spec_l3Go.f k l0 a1 = some r) :
  Calls Try.prog 71 #[.slice A0 l0.length c0, .string a1] w fun e w' => e = .returned (.int .i64 r) ∧ Drawn0 w w' := by
 have HR0 := am hr0; have HC0 := am hc0; clear hr0 hc0
 have H : (spec_l3Go.l0 k l0 a1 0 0) = some r := h
 clear h
 have H' := am H
 clear H; go_enter Try.func71, Try.ntmps71; go_wp2
 repeat (go_quiet (fail); try go_wp2)
 go_loopg [5, 6] k (fun kq v5 v6 w' => ∃ (x5_1 : Int) (x6_1 : Int), v5 = .int .i64 x5_1 ∧ v6 = .int .i64 x6_1 ∧ Aside0 (spec_l3Go.l0 kq l0 a1 x5_1 x6_1 = some r) ∧ Aside0 (kq ≤ k) ∧ Drawn0 w w')
 case atStart => exact ⟨(0), (0), sq, sq, H', ⟨Nat.le_refl _⟩, dr⟩
 case round =>
  clear H'; (try clear p2); obtain ⟨x5_1, x6_1, rfl, rfl, HA, HK1, ⟨m1, rfl⟩⟩ := hrel
  cases gk with
  | zero => exact absurd HA.out (by simp [spec_l3Go.l0])
  | succ k1 =>
   have H := HA.out; clear HA
   simp only [spec_l3Go.l0] at H
   by_cases c3 : x6_1 < (a1.size : Int)
   ·rw [if_pos c3] at H; have c3b0 := decide_eq_true c3; clear c3
    have H' := am H
    clear H; go_wp2
    repeat (go_quiet (fail); try go_wp2)
    go_loopg [7, 8] k1 (fun kq v7 v8 w' => ∃ (x7_2 : Int) (x8_2 : Int), v7 = .int .i64 x7_2 ∧ v8 = .int .i64 x8_2 ∧ Aside0 (spec_l3Go.l1 kq l0 a1 x5_1 x6_1 x7_2 x8_2 = some r) ∧ Aside0 (kq ≤ k1) ∧ Drawn0 w w')
    case atStart => exact ⟨((-1)), (0), sq, sq, H', ⟨Nat.le_refl _⟩, dr⟩
    case round =>
     clear H'; (try clear p2); (try clear c3); (try clear c3b0); (try clear p2); obtain ⟨x7_2, x8_2, rfl, rfl, HA, HK2, ⟨m2, rfl⟩⟩ := hrel
     cases gk with
     | zero => exact absurd HA.out (by simp [spec_l3Go.l1])
     | succ k2 =>
      have H := HA.out; clear HA
      simp only [spec_l3Go.l1] at H
      by_cases c4 : 0 ≤ x5_1
      ·rw [if_pos c4] at H; have c4b0 := decide_eq_true c4; clear c4
       by_cases c5 : x5_1 < (l0.length : Int)
       ·rw [if_pos c5] at H; have c5b0 := decide_eq_true c5; clear c5
        by_cases c6 : x8_2 < (((rd_T94 l0 x5_1).f1).length : Int)
        ·rw [if_pos c6] at H; have c6b0 := decide_eq_true c6; clear c6
         by_cases c7 : 0 ≤ x8_2
         ·rw [if_pos c7] at H; have c7b0 := decide_eq_true c7; clear c7
          by_cases c8 : 0 ≤ x6_1
          ·rw [if_pos c8] at H; have c8b0 := decide_eq_true c8; clear c8
           by_cases c9 : x6_1 < (a1.size : Int)
           ·rw [if_pos c9] at H; have c9b0 := decide_eq_true c9; clear c9
            by_cases c11 : ((rd_T100 ((rd_T94 l0 x5_1).f1) x8_2).f0) = (wrap64 (bt a1 x6_1))
            ·rw [if_pos c11] at H
             have c11b0 : (((rd_T100 ((rd_T94 l0 x5_1).f1) x8_2).f0) == (wrap64 (bt a1 x6_1))) = true := beq_iff_eq.mpr c11
             have c11b1 : (((rd_T100 ((rd_T94 l0 x5_1).f1) x8_2).f0) != (wrap64 (bt a1 x6_1))) = false := bne_eq_false_iff_eq.mpr c11
             clear c11
             have H' := am H
             clear H
             have p586 : 0 ≤ (x5_1 : Int) := of_decide_eq_true ad
             have q586 : x5_1 < (l0.length : Int) := of_decide_eq_true ad
             obtain ⟨ad586, A586_1, c586_1, e586, hx586_0, hx586_1, hl586_1, hi586_1⟩ := at_T94 HR0.out x5_1 p586 q586
             cases e586
             have HR586_1 := am hi586_1; have HC586_1 := am hl586_1; clear hi586_1 hl586_1; replace p586 := eq_true p586; replace q586 := eq_true q586
             have p587 : 0 ≤ (x5_1 : Int) := of_decide_eq_true ad
             have q587 : x5_1 < (l0.length : Int) := of_decide_eq_true ad
             obtain ⟨ad587, A587_1, c587_1, e587, hx587_0, hx587_1, hl587_1, hi587_1⟩ := at_T94 HR0.out x5_1 p587 q587
             obtain rfl : ad586 = ad587 := (by injection e587)
             have HR587_1 := am hi587_1; have HC587_1 := am hl587_1; clear hi587_1 hl587_1; replace p587 := eq_true p587; replace q587 := eq_true q587; have ea_ := Option.some.inj (hx586_1.symm.trans hx587_1)
             injection ea_ with ea_ en_ ec_
             subst ea_; subst ec_; clear en_
             have p588 : 0 ≤ (x8_2 : Int) := of_decide_eq_true ad
             have q588 : x8_2 < (((rd_T94 l0 x5_1).f1).length : Int) := of_decide_eq_true ad
             obtain ⟨ad588, e588, hx588_0, hx588_1⟩ := at_T100 HR587_1.out x8_2 p588 q588
             cases e588
             replace p588 := eq_true p588; replace q588 := eq_true q588
             have p10 : 0 ≤ (x6_1 : Int) := of_decide_eq_true ad
             have q10 : x6_1 < (a1.size : Int) := of_decide_eq_true ad
             have hx10 := bt_at a1 x6_1; replace p10 := eq_true p10; replace q10 := eq_true q10
             have p589 : 0 ≤ (x5_1 : Int) := of_decide_eq_true ad
             have q589 : x5_1 < (l0.length : Int) := of_decide_eq_true ad
             obtain ⟨ad589, A589_1, c589_1, e589, hx589_0, hx589_1, hl589_1, hi589_1⟩ := at_T94 HR0.out x5_1 p589 q589
             obtain rfl : ad586 = ad589 := (by injection e589)
             have HR589_1 := am hi589_1; have HC589_1 := am hl589_1; clear hi589_1 hl589_1; replace p589 := eq_true p589; replace q589 := eq_true q589; have ea_ := Option.some.inj (hx586_1.symm.trans hx589_1)
             injection ea_ with ea_ en_ ec_
             subst ea_; subst ec_; clear en_
             have p590 : 0 ≤ (x8_2 : Int) := of_decide_eq_true ad
             have q590 : x8_2 < (((rd_T94 l0 x5_1).f1).length : Int) := of_decide_eq_true ad
             obtain ⟨ad590, e590, hx590_0, hx590_1⟩ := at_T100 HR589_1.out x8_2 p590 q590
             cases e590
             replace p590 := eq_true p590; replace q590 := eq_true q590; go_wp2
             repeat (go_quiet (fail); try go_wp2)
             go_roundg k2
             case measure => have := HK1.out; have := HK2.out; omega
             case rel => exact ⟨((rd_T100 ((rd_T94 l0 x5_1).f1) x8_2).f1), (wrap64 (x8_2 + 1)), sq, sq, H', ⟨b25_⟩, dr⟩
            ·rw [if_neg c11] at H
             have c11b0 : (((rd_T100 ((rd_T94 l0 x5_1).f1) x8_2).f0) == (wrap64 (bt a1 x6_1))) = false := beq_eq_false_iff_ne.mpr c11
             have c11b1 : (((rd_T100 ((rd_T94 l0 x5_1).f1) x8_2).f0) != (wrap64 (bt a1 x6_1))) = true := bne_iff_ne.mpr c11
             have H' := am H
             clear H
             have p586 : 0 ≤ (x5_1 : Int) := of_decide_eq_true ad
             have q586 : x5_1 < (l0.length : Int) := of_decide_eq_true ad
             obtain ⟨ad586, A586_1, c586_1, e586, hx586_0, hx586_1, hl586_1, hi586_1⟩ := at_T94 HR0.out x5_1 p586 q586
             cases e586
             have HR586_1 := am hi586_1; have HC586_1 := am hl586_1; clear hi586_1 hl586_1; replace p586 := eq_true p586; replace q586 := eq_true q586
             have p587 : 0 ≤ (x5_1 : Int) := of_decide_eq_true ad
             have q587 : x5_1 < (l0.length : Int) := of_decide_eq_true ad
             obtain ⟨ad587, A587_1, c587_1, e587, hx587_0, hx587_1, hl587_1, hi587_1⟩ := at_T94 HR0.out x5_1 p587 q587
             obtain rfl : ad586 = ad587 := (by injection e587)
             have HR587_1 := am hi587_1; have HC587_1 := am hl587_1; clear hi587_1 hl587_1; replace p587 := eq_true p587; replace q587 := eq_true q587; have ea_ := Option.some.inj (hx586_1.symm.trans hx587_1)
             injection ea_ with ea_ en_ ec_
             subst ea_; subst ec_; clear en_
             have p588 : 0 ≤ (x8_2 : Int) := of_decide_eq_true ad
             have q588 : x8_2 < (((rd_T94 l0 x5_1).f1).length : Int) := of_decide_eq_true ad
             obtain ⟨ad588, e588, hx588_0, hx588_1⟩ := at_T100 HR587_1.out x8_2 p588 q588
             cases e588
             replace p588 := eq_true p588; replace q588 := eq_true q588
             have p10 : 0 ≤ (x6_1 : Int) := of_decide_eq_true ad
             have q10 : x6_1 < (a1.size : Int) := of_decide_eq_true ad
             have hx10 := bt_at a1 x6_1; replace p10 := eq_true p10; replace q10 := eq_true q10; go_wp2
             repeat (go_quiet (fail); try go_wp2)
             go_roundg k2
             case measure => have := HK1.out; have := HK2.out; omega
             case rel => exact ⟨(x7_2), (wrap64 (x8_2 + 1)), sq, sq, H', ⟨b25_⟩, dr⟩
           ·rw [if_neg c9] at H
            exact absurd H (by simp)
          ·rw [if_neg c8] at H
           exact absurd H (by simp)
         ·rw [if_neg c7] at H
          exact absurd H (by simp)
        ·rw [if_neg c6] at H; have c6b0 := decide_eq_false c6; clear c6
         by_cases c12 : x7_2 < 0
         ·rw [if_pos c12] at H; have c12b0 := decide_eq_true c12; clear c12; obtain rfl := Option.some.inj H
          have p586 : 0 ≤ (x5_1 : Int) := of_decide_eq_true ad
          have q586 : x5_1 < (l0.length : Int) := of_decide_eq_true ad
          obtain ⟨ad586, A586_1, c586_1, e586, hx586_0, hx586_1, hl586_1, hi586_1⟩ := at_T94 HR0.out x5_1 p586 q586
          cases e586
          have HR586_1 := am hi586_1; have HC586_1 := am hl586_1; clear hi586_1 hl586_1; replace p586 := eq_true p586; replace q586 := eq_true q586; go_wp2
          repeat (go_quiet (fail); try go_wp2)
          go_ret
          exact ⟨sq, dr⟩
         ·rw [if_neg c12] at H; have c12b0 := decide_eq_false c12; clear c12
          have H' := am H
          clear H
          have p586 : 0 ≤ (x5_1 : Int) := of_decide_eq_true ad
          have q586 : x5_1 < (l0.length : Int) := of_decide_eq_true ad
          obtain ⟨ad586, A586_1, c586_1, e586, hx586_0, hx586_1, hl586_1, hi586_1⟩ := at_T94 HR0.out x5_1 p586 q586
          cases e586
          have HR586_1 := am hi586_1; have HC586_1 := am hl586_1; clear hi586_1 hl586_1; replace p586 := eq_true p586; replace q586 := eq_true q586; go_wp2
          repeat (go_quiet (fail); try go_wp2)
          go_roundg k2
          case measure => have := HK1.out; have := HK2.out; omega
          case rel => exact ⟨(x7_2), (wrap64 (x6_1 + 1)), sq, sq, H', ⟨b25_⟩, dr⟩
       ·rw [if_neg c5] at H
        exact absurd H (by simp)
      ·rw [if_neg c4] at H
       exact absurd H (by simp)
   ·rw [if_neg c3] at H; have c3b0 := decide_eq_false c3; clear c3; obtain rfl := Option.some.inj H; go_wp2
    repeat (go_quiet (fail); try go_wp2)
    go_ret
    exact ⟨sq, dr⟩

/-! ### spec_MachineKnows: function 43 -/
def spec_MachineKnows.f (k : Nat) (l0 : List (S94)) (a1 : ByteArray) : Option (Bool) := (spec_MachineOk.f k l0).bind fun t591 => (if t591 = true then ((spec_l3Go.f k l0 a1).bind fun t592 => (if t592 ≥ 0 then (if 0 ≤ t592 then (if t592 < (l0.length : Int) then (some ((rd_T94 l0 t592).f0)) else (none)) else (none)) else (some false))) else (some false))
set_option maxHeartbeats 8000000 in
set_option maxRecDepth 100000 in
theorem spec_MachineKnows.calls (k : Nat) (A0 : Option Addr) (c0 : Nat) (l0 : List (S94)) (a1 : ByteArray) (r : Bool) (w : World) (hr0 : Kd.C k94 w A0 l0.length l0) (hc0 : l0.length ≤ c0) (h : spec_MachineKnows.f k l0 a1 = some r) :
  Calls Try.prog 43 #[.slice A0 l0.length c0, .string a1] w fun e w' => e = .returned (.bool r) ∧ Below w.heap.size w w' := by
 have HR0 := am hr0; have HC0 := am hc0; clear hr0 hc0; have HB := am (Below.refl w.heap.size w)
 have H : ((spec_MachineOk.f k l0).bind fun t591 => (if t591 = true then ((spec_l3Go.f k l0 a1).bind fun t592 => (if t592 ≥ 0 then (if 0 ≤ t592 then (if t592 < (l0.length : Int) then (some ((rd_T94 l0 t592).f0)) else (none)) else (none)) else (some false))) else (some false))) = some r := h
 clear h; replace H := Option.bind_eq_some_iff.mp H; obtain ⟨t591, A30, H⟩ := H; replace H : (if t591 = true then ((spec_l3Go.f k l0 a1).bind fun t592 => (if t592 ≥ 0 then (if 0 ≤ t592 then (if t592 < (l0.length : Int) then (some ((rd_T94 l0 t592).f0)) else (none)) else (none)) else (some false))) else (some false)) = some r := H; have A3 := Aside0.mk A30; clear A30
 by_cases c4 : t591 = true
 ·subst c4
  have H1 : ((spec_l3Go.f k l0 a1).bind fun t592 => (if t592 ≥ 0 then (if 0 ≤ t592 then (if t592 < (l0.length : Int) then (some ((rd_T94 l0 t592).f0)) else (none)) else (none)) else (some false))) = some r := b21_
  replace H := H1; clear H1
  replace H := Option.bind_eq_some_iff.mp H; obtain ⟨t592, A50, H⟩ := H; replace H : (if t592 ≥ 0 then (if 0 ≤ t592 then (if t592 < (l0.length : Int) then (some ((rd_T94 l0 t592).f0)) else (none)) else (none)) else (some false)) = some r := H; have A5 := Aside0.mk A50; clear A50
  by_cases c6 : t592 ≥ 0
  ·rw [if_pos c6] at H; have c6b0 := decide_eq_true c6; clear c6
   by_cases c7 : 0 ≤ t592
   ·rw [if_pos c7] at H; have c7b0 := decide_eq_true c7; clear c7
    by_cases c8 : t592 < (l0.length : Int)
    ·rw [if_pos c8] at H; have c8b0 := decide_eq_true c8; clear c8; obtain rfl := Option.some.inj H; go_enter Try.func43, Try.ntmps43
     go_wp2_with (first | ((with_reducible refine gate_callee (f := 34) rfl ?_); refine goesL_ (some 7) rfl rfl Try.func34 (by kernel_rfl) rfl #[.slice A0 l0.length c0] rfl mq ?_; (with_reducible refine (spec_MachineOk.calls k _ _ l0 true _ ?side1 ?side2 A3.out).mono ?_); (case side1 => repeat (first | exact HR0.out | (with_reducible refine Kd.C_alloc ?_ _) | (with_reducible refine Kd.C_drewN ?_ _) | (with_reducible refine Kd.C_drew ?_))); (case side2 => exact HC0.out); rintro e w9 ⟨rfl, hb⟩; refine ⟨_, rfl, ?_⟩; replace HB := am (below_step bel hb); (try clear hb); (try clear hb2); (try clear hk); (try clear hi)) | ((with_reducible refine gate_callee (f := 71) rfl ?_); refine goesL_ (some 11) rfl rfl Try.func71 (by kernel_rfl) rfl #[.slice A0 l0.length c0, .string a1] rfl mq ?_; (with_reducible refine (spec_l3Go.calls k _ _ l0 a1 t592 _ ?side1 ?side2 A5.out).mono ?_); (case side1 => exact cq (Kd.C_below HR0.out HB.out)); (case side2 => exact HC0.out); rintro e w' ⟨rfl, ⟨nd, rfl⟩⟩; refine ⟨_, rfl, ?_⟩; have p593 : 0 ≤ (t592 : Int) := of_decide_eq_true ad; have q593 : t592 < (l0.length : Int) := of_decide_eq_true ad; obtain ⟨ad593, A593_1, c593_1, e593, hx593_0, hx593_1, hl593_1, hi593_1⟩ := at_T94 HR0.out t592 p593 q593; cases e593; replace hx593_0 := kp HB.out hx593_0; replace hx593_1 := kp HB.out hx593_1; have HR593_1 := am hi593_1; have HC593_1 := am hl593_1; clear hi593_1 hl593_1; replace p593 := eq_true p593; replace q593 := eq_true q593))
     go_ret
     exact ⟨eq_, bel⟩
    ·rw [if_neg c8] at H
     exact absurd H (by simp)
   ·rw [if_neg c7] at H
    exact absurd H (by simp)
  ·rw [if_neg c6] at H; have c6b0 := decide_eq_false c6; clear c6; obtain rfl := Option.some.inj H; go_enter Try.func43, Try.ntmps43
   go_wp2_with (first | ((with_reducible refine gate_callee (f := 34) rfl ?_); refine goesL_ (some 7) rfl rfl Try.func34 (by kernel_rfl) rfl #[.slice A0 l0.length c0] rfl mq ?_; (with_reducible refine (spec_MachineOk.calls k _ _ l0 true _ ?side1 ?side2 A3.out).mono ?_); (case side1 => repeat (first | exact HR0.out | (with_reducible refine Kd.C_alloc ?_ _) | (with_reducible refine Kd.C_drewN ?_ _) | (with_reducible refine Kd.C_drew ?_))); (case side2 => exact HC0.out); rintro e w10 ⟨rfl, hb⟩; refine ⟨_, rfl, ?_⟩; replace HB := am (below_step bel hb); (try clear hb); (try clear hb2); (try clear hk); (try clear hi)) | ((with_reducible refine gate_callee (f := 71) rfl ?_); refine goesL_ (some 11) rfl rfl Try.func71 (by kernel_rfl) rfl #[.slice A0 l0.length c0, .string a1] rfl mq ?_; (with_reducible refine (spec_l3Go.calls k _ _ l0 a1 t592 _ ?side1 ?side2 A5.out).mono ?_); (case side1 => exact cq (Kd.C_below HR0.out HB.out)); (case side2 => exact HC0.out); rintro e w' ⟨rfl, ⟨nd, rfl⟩⟩; refine ⟨_, rfl, ?_⟩))
   go_ret
   exact ⟨eq_, bel⟩
 ·replace c4 := Bool.eq_false_iff.mpr c4; subst c4
  have H1 : (some false) = some r := b9_
  replace H := H1; clear H1
  obtain rfl := Option.some.inj H; go_enter Try.func43, Try.ntmps43
  go_wp2_with (first | ((with_reducible refine gate_callee (f := 34) rfl ?_); refine goesL_ (some 7) rfl rfl Try.func34 (by kernel_rfl) rfl #[.slice A0 l0.length c0] rfl mq ?_; (with_reducible refine (spec_MachineOk.calls k _ _ l0 false _ ?side1 ?side2 A3.out).mono ?_); (case side1 => repeat (first | exact HR0.out | (with_reducible refine Kd.C_alloc ?_ _) | (with_reducible refine Kd.C_drewN ?_ _) | (with_reducible refine Kd.C_drew ?_))); (case side2 => exact HC0.out); rintro e w11 ⟨rfl, hb⟩; refine ⟨_, rfl, ?_⟩; replace HB := am (below_step bel hb); (try clear hb); (try clear hb2); (try clear hk); (try clear hi)))
  go_ret
  exact ⟨eq_, bel⟩

/-! ### laws_FnMachineKnows: function 8 -/
def laws_FnMachineKnows.j0 : Nat → List (S94) → ByteArray → Bool → Bool → Option (Bool)
 | 0, _, _, _, _ => none
 | k + 1, x3, x4, x5, x29 => if x29 = true then (some false) else ((impl_MachineCount.f k x3).bind fun t602 => ((impl_MachineRank.f k x3 x4).bind fun t603 => (if (x5 == (decide (t603 ≥ 0))) = true then (some true) else (some (decide (t602 ≥ 1000000000))))))
def laws_FnMachineKnows.f (k : Nat) (l0 : List Int) : Option (Bool) := if (l0.length : Int) > 1048576 then (some true) else ((spec_DrawMachineKnows.f k l0).bind fun bt594 => ((impl_MachineKnows.f k bt594.1 bt594.2).bind fun t598 => ((spec_MachineKnows.f k bt594.1 bt594.2).bind fun t599 => (if (t598 != t599) = true then (laws_FnMachineKnows.j0 k bt594.1 bt594.2 t598 true) else ((impl_MachineOk.f k bt594.1).bind fun t600 => ((spec_MachineOk.f k bt594.1).bind fun t601 => (laws_FnMachineKnows.j0 k bt594.1 bt594.2 t598 (t600 != t601))))))))
set_option maxHeartbeats 8000000 in
set_option maxRecDepth 100000 in
theorem laws_FnMachineKnows.calls (k : Nat) (A0 : Option Addr) (c0 : Nat) (l0 : List Int) (r : Bool) (w : World) (hr0 : Kd.C (Kd.int .u8) w A0 l0.length l0) (hc0 : l0.length ≤ c0) (h : laws_FnMachineKnows.f k l0 = some r) :
  Calls Try.prog 8 #[.slice A0 l0.length c0] w fun e w' => e = .returned (.bool r) ∧ Below w.heap.size w w' := by
 have HR0 := am hr0; have HC0 := am hc0; clear hr0 hc0; have HB := am (Below.refl w.heap.size w)
 have H : (if (l0.length : Int) > 1048576 then (some true) else ((spec_DrawMachineKnows.f k l0).bind fun bt594 => ((impl_MachineKnows.f k bt594.1 bt594.2).bind fun t598 => ((spec_MachineKnows.f k bt594.1 bt594.2).bind fun t599 => (if (t598 != t599) = true then (laws_FnMachineKnows.j0 k bt594.1 bt594.2 t598 true) else ((impl_MachineOk.f k bt594.1).bind fun t600 => ((spec_MachineOk.f k bt594.1).bind fun t601 => (laws_FnMachineKnows.j0 k bt594.1 bt594.2 t598 (t600 != t601))))))))) = some r := h
 clear h
 by_cases c2 : (l0.length : Int) > 1048576
 ·rw [if_pos c2] at H; have c2b0 := decide_eq_true c2
  have c2b1 : decide (1048576 < l0.length) = true := decide_eq_true (by omega)
  clear c2; obtain rfl := Option.some.inj H; go_enter Try.func8, Try.ntmps8; go_wp2; go_ret
  exact ⟨eq_, bel⟩
 ·rw [if_neg c2] at H; have c2b0 := decide_eq_false c2
  have c2b1 : decide (1048576 < l0.length) = false := decide_eq_false (by omega)
  clear c2; replace H := Option.bind_eq_some_iff.mp H; obtain ⟨⟨t594, t595⟩, A30, H⟩ := H; replace H : ((impl_MachineKnows.f k t594 t595).bind fun t598 => ((spec_MachineKnows.f k t594 t595).bind fun t599 => (if (t598 != t599) = true then (laws_FnMachineKnows.j0 k t594 t595 t598 true) else ((impl_MachineOk.f k t594).bind fun t600 => ((spec_MachineOk.f k t594).bind fun t601 => (laws_FnMachineKnows.j0 k t594 t595 t598 (t600 != t601))))))) = some r := H; have A3 := Aside0.mk A30; clear A30; replace H := Option.bind_eq_some_iff.mp H; obtain ⟨t598, A40, H⟩ := H; replace H : ((spec_MachineKnows.f k t594 t595).bind fun t599 => (if (t598 != t599) = true then (laws_FnMachineKnows.j0 k t594 t595 t598 true) else ((impl_MachineOk.f k t594).bind fun t600 => ((spec_MachineOk.f k t594).bind fun t601 => (laws_FnMachineKnows.j0 k t594 t595 t598 (t600 != t601)))))) = some r := H; have A4 := Aside0.mk A40; clear A40; have HC5 := am H; clear H; go_enter Try.func8, Try.ntmps8
  go_upto_region 5 with (first | ((with_reducible refine gate_callee (f := 42) rfl ?_); refine goesL_ (some 12) rfl rfl Try.func42 (by kernel_rfl) rfl #[.slice A0 l0.length c0] rfl mq ?_; (with_reducible refine (spec_DrawMachineKnows.calls k _ _ l0 t594 t595 _ ?side1 ?side2 A3.out).mono ?_); (case side1 => repeat (first | exact HR0.out | (with_reducible refine Kd.C_alloc ?_ _) | (with_reducible refine Kd.C_drewN ?_ _) | (with_reducible refine Kd.C_drew ?_))); (case side2 => exact HC0.out); rintro e w6 ⟨v596, rfl, ho0, hb⟩; refine ⟨_, rfl, ?_⟩; have HO597 := am (Kd.S_lower ho0 (below_size bel)); replace HB := am (below_step bel hb); (try clear hb); (try clear hb2); (try clear hk); (try clear hi); (try clear ho0); obtain ⟨Ao7, co7, eo7⟩ := Kd.S_slice HO597.out; subst eo7) | ((with_reducible refine gate_callee (f := 37) rfl ?_); refine goesL_ (some 17) rfl rfl Try.func37 (by kernel_rfl) rfl #[.slice Ao7 t594.length co7, .string t595] rfl mq ?_; (with_reducible refine (impl_MachineKnows.calls k _ _ t594 t595 t598 _ ?side1 ?side2 A4.out).mono ?_); (case side1 => exact cq (Kd.S_reads' HO597.out).2.2); (case side2 => exact (Kd.S_reads' HO597.out).2.1); rintro e w8 ⟨rfl, hb⟩; refine ⟨_, rfl, ?_⟩; replace HO597 := am (Kd.S_below b35_ hb); replace HB := am (below_step bel hb); (try clear hb); (try clear hb2); (try clear hk); (try clear hi)))
  (try simp only [Act.put, List.setIfInBounds_toArray, List.set_cons_zero, List.set_cons_succ])
  go_cut [29] (fun v29 wc => ∃ (kq : Nat) (x29_4 : Bool), v29 = .bool x29_4 ∧ Aside0 (laws_FnMachineKnows.j0 kq t594 t595 t598 x29_4 = some r) ∧ Aside0 (kq ≤ k) ∧ Aside0 (Kd.S k94 94 wc w.heap.size (fun _ => True) (.slice Ao7 t594.length co7) t594) ∧ Aside0 (Below w.heap.size w wc))
  case first =>
   have H := HC5.out; clear HC5; replace H := Option.bind_eq_some_iff.mp H; obtain ⟨t599, A90, H⟩ := H; replace H : (if (t598 != t599) = true then (laws_FnMachineKnows.j0 k t594 t595 t598 true) else ((impl_MachineOk.f k t594).bind fun t600 => ((spec_MachineOk.f k t594).bind fun t601 => (laws_FnMachineKnows.j0 k t594 t595 t598 (t600 != t601))))) = some r := H; have A9 := Aside0.mk A90; clear A90
   by_cases c10 : (t598 != t599) = true
   ·rw [if_pos c10] at H
    have c10b0 : (t598 != t599) = true := c10
    (try (have c10b1 : decide (t598 = t599) = false := by simpa using c10))
    (try (have c10b2 : (t598 == t599) = false := by simpa using c10))
    (try (have c10b3 : ¬ (t598 = t599) := by simpa using c10))
    clear c10
    (first | rw [c10b0] | (simp only [i64_w, i32_w]; rw [c10b0]) | skip)
    have H' := am H
    clear H
    go_wp2_with (first | ((with_reducible refine gate_callee (f := 43) rfl ?_); refine goesL_ (some 21) rfl rfl Try.func43 (by kernel_rfl) rfl #[.slice Ao7 t594.length co7, .string t595] rfl mq ?_; (with_reducible refine (spec_MachineKnows.calls k _ _ t594 t595 t599 _ ?side1 ?side2 A9.out).mono ?_); (case side1 => exact cq (Kd.S_reads' HO597.out).2.2); (case side2 => exact (Kd.S_reads' HO597.out).2.1); rintro e w11 ⟨rfl, hb⟩; refine ⟨_, rfl, ?_⟩; replace HO597 := am (Kd.S_below b35_ hb); replace HB := am (below_step bel hb); (try clear hb); (try clear hb2); (try clear hk); (try clear hi)))
    go_meet
    case rel => exact ⟨_, (true), sq, H', ⟨b75_⟩, ⟨b35_⟩, ⟨bel⟩⟩
   ·rw [if_neg c10] at H
    have c10b0 : (t598 != t599) = false := by simpa using c10
    (try (have c10b1 : decide (t598 = t599) = true := by simpa using c10))
    (try (have c10b2 : (t598 == t599) = true := by simpa using c10))
    clear c10
    (first | rw [c10b0] | (simp only [i64_w, i32_w]; rw [c10b0]) | skip)
    replace H := Option.bind_eq_some_iff.mp H; obtain ⟨t600, A120, H⟩ := H; replace H : ((spec_MachineOk.f k t594).bind fun t601 => (laws_FnMachineKnows.j0 k t594 t595 t598 (t600 != t601))) = some r := H; have A12 := Aside0.mk A120; clear A120; replace H := Option.bind_eq_some_iff.mp H; obtain ⟨t601, A130, H⟩ := H; replace H : (laws_FnMachineKnows.j0 k t594 t595 t598 (t600 != t601)) = some r := H; have A13 := Aside0.mk A130; clear A130
    have H' := am H
    clear H
    go_wp2_with (first | ((with_reducible refine gate_callee (f := 43) rfl ?_); refine goesL_ (some 21) rfl rfl Try.func43 (by kernel_rfl) rfl #[.slice Ao7 t594.length co7, .string t595] rfl mq ?_; (with_reducible refine (spec_MachineKnows.calls k _ _ t594 t595 t599 _ ?side1 ?side2 A9.out).mono ?_); (case side1 => exact cq (Kd.S_reads' HO597.out).2.2); (case side2 => exact (Kd.S_reads' HO597.out).2.1); rintro e w14 ⟨rfl, hb⟩; refine ⟨_, rfl, ?_⟩; replace HO597 := am (Kd.S_below b35_ hb); replace HB := am (below_step bel hb); (try clear hb); (try clear hb2); (try clear hk); (try clear hi)) | (go_at_call 44; (with_reducible refine (impl_MachineOk.calls k _ _ t594 t600 _ ?side1 ?side2 A12.out).mono ?_); (case side1 => exact cq (Kd.S_reads' HO597.out).2.2); (case side2 => exact (Kd.S_reads' HO597.out).2.1); rintro e w15 ⟨rfl, hb⟩; replace HO597 := am (Kd.S_below b35_ hb); replace HB := am (below_step bel hb); (try clear hb); (try clear hb2); (try clear hk); (try clear hi)) | (go_at_call 34; (with_reducible refine (spec_MachineOk.calls k _ _ t594 t601 _ ?side1 ?side2 A13.out).mono ?_); (case side1 => exact cq (Kd.S_reads' HO597.out).2.2); (case side2 => exact (Kd.S_reads' HO597.out).2.1); rintro e w16 ⟨rfl, hb⟩; replace HO597 := am (Kd.S_below b35_ hb); replace HB := am (below_step bel hb); (try clear hb); (try clear hb2); (try clear hk); (try clear hi)))
    go_meet
    case rel => exact ⟨_, ((t600 != t601)), sq, H', ⟨b75_⟩, ⟨b35_⟩, ⟨bel⟩⟩
  case rest =>
   clear HC5; (try clear c1); (try clear c2); (try clear c2b0); (try clear c2b1); (try clear p2); (try clear c3); (try clear c4); (try clear c8); (try clear c10); (try clear c10b0); (try clear c10b1); (try clear c10b2); obtain ⟨kq, x29_4, rfl, HA, HJ4, HO_3, HB⟩ := hcut
   cases kq with
   | zero => exact absurd HA.out (by simp [laws_FnMachineKnows.j0])
   | succ kj4 =>
    have H := HA.out; clear HA
    simp only [laws_FnMachineKnows.j0] at H
    by_cases c17 : x29_4 = true
    ·subst c17
     have H1 : (some false) = some r := b21_
     replace H := H1; clear H1
     obtain rfl := Option.some.inj H; go_wp2; go_ret
     exact ⟨eq_, bel⟩
    ·replace c17 := Bool.eq_false_iff.mpr c17; subst c17
     have H1 : ((impl_MachineCount.f kj4 t594).bind fun t602 => ((impl_MachineRank.f kj4 t594 t595).bind fun t603 => (if (t598 == (decide (t603 ≥ 0))) = true then (some true) else (some (decide (t602 ≥ 1000000000)))))) = some r := b9_
     replace H := H1; clear H1
     replace H := Option.bind_eq_some_iff.mp H; obtain ⟨t602, A180, H⟩ := H; replace H : ((impl_MachineRank.f kj4 t594 t595).bind fun t603 => (if (t598 == (decide (t603 ≥ 0))) = true then (some true) else (some (decide (t602 ≥ 1000000000))))) = some r := H; have A18 := Aside0.mk A180; clear A180; replace H := Option.bind_eq_some_iff.mp H; obtain ⟨t603, A190, H⟩ := H; replace H : (if (t598 == (decide (t603 ≥ 0))) = true then (some true) else (some (decide (t602 ≥ 1000000000)))) = some r := H; have A19 := Aside0.mk A190; clear A190
     by_cases c20 : (t598 == (decide (t603 ≥ 0))) = true
     ·rw [if_pos c20] at H
      have c20b0 : (t598 == (decide (t603 ≥ 0))) = true := c20
      (try (have c20b1 : decide (t598 = (decide (t603 ≥ 0))) = true := by simpa using c20))
      (try (have c20b2 : (t598 == (decide (t603 ≥ 0))) = true := by simpa using c20))
      clear c20; obtain rfl := Option.some.inj H
      go_wp2_with (first | ((with_reducible refine gate_callee (f := 35) rfl ?_); refine goesL_ (some 31) rfl rfl Try.func35 (by kernel_rfl) rfl #[.slice Ao7 t594.length co7] rfl mq ?_; (with_reducible refine (impl_MachineCount.calls kj4 _ _ t594 t602 _ ?side1 ?side2 A18.out).mono ?_); (case side1 => exact cq (Kd.S_reads' HO_3.out).2.2); (case side2 => exact (Kd.S_reads' HO_3.out).2.1); rintro e w21 ⟨rfl, hb⟩; refine ⟨_, rfl, ?_⟩; replace HO_3 := am (Kd.S_below b59_ hb); replace HB := am (below_step bel hb); (try clear hb); (try clear hb2); (try clear hk); (try clear hi)) | ((with_reducible refine gate_callee (f := 41) rfl ?_); refine goesL_ (some 35) rfl rfl Try.func41 (by kernel_rfl) rfl #[.slice Ao7 t594.length co7, .string t595] rfl mq ?_; (with_reducible refine (impl_MachineRank.calls kj4 _ _ t594 t595 t603 _ ?side1 ?side2 A19.out).mono ?_); (case side1 => exact cq (Kd.S_reads' HO_3.out).2.2); (case side2 => exact (Kd.S_reads' HO_3.out).2.1); rintro e w22 ⟨rfl, hb⟩; refine ⟨_, rfl, ?_⟩; replace HO_3 := am (Kd.S_below b59_ hb); replace HB := am (below_step bel hb); (try clear hb); (try clear hb2); (try clear hk); (try clear hi)))
      go_ret
      exact ⟨eq_, bel⟩
     ·rw [if_neg c20] at H
      have c20b0 : (t598 == (decide (t603 ≥ 0))) = false := by simpa using c20
      (try (have c20b1 : decide (t598 = (decide (t603 ≥ 0))) = false := by simpa using c20))
      (try (have c20b2 : (t598 == (decide (t603 ≥ 0))) = false := by simpa using c20))
      (try (have c20b3 : ¬ (t598 = (decide (t603 ≥ 0))) := by simpa using c20))
      clear c20; obtain rfl := Option.some.inj H
      go_wp2_with (first | ((with_reducible refine gate_callee (f := 35) rfl ?_); refine goesL_ (some 31) rfl rfl Try.func35 (by kernel_rfl) rfl #[.slice Ao7 t594.length co7] rfl mq ?_; (with_reducible refine (impl_MachineCount.calls kj4 _ _ t594 t602 _ ?side1 ?side2 A18.out).mono ?_); (case side1 => exact cq (Kd.S_reads' HO_3.out).2.2); (case side2 => exact (Kd.S_reads' HO_3.out).2.1); rintro e w23 ⟨rfl, hb⟩; refine ⟨_, rfl, ?_⟩; replace HO_3 := am (Kd.S_below b59_ hb); replace HB := am (below_step bel hb); (try clear hb); (try clear hb2); (try clear hk); (try clear hi)) | ((with_reducible refine gate_callee (f := 41) rfl ?_); refine goesL_ (some 35) rfl rfl Try.func41 (by kernel_rfl) rfl #[.slice Ao7 t594.length co7, .string t595] rfl mq ?_; (with_reducible refine (impl_MachineRank.calls kj4 _ _ t594 t595 t603 _ ?side1 ?side2 A19.out).mono ?_); (case side1 => exact cq (Kd.S_reads' HO_3.out).2.2); (case side2 => exact (Kd.S_reads' HO_3.out).2.1); rintro e w24 ⟨rfl, hb⟩; refine ⟨_, rfl, ?_⟩; replace HO_3 := am (Kd.S_below b59_ hb); replace HB := am (below_step bel hb); (try clear hb); (try clear hb2); (try clear hk); (try clear hi)))
      go_ret
      exact ⟨eq_, bel⟩

/-- THE ONE PURE STATEMENT of laws_FnMachineKnows: yours. -/
def laws_FnMachineKnows.Pure : Prop := ∀ (l0 : List Int), l0.length ≤ maxLen → l0.length * 1 ≤ 140737488351232 → (∀ x ∈ l0, (Lit.int .u8 x).wf = true) → ∃ k, laws_FnMachineKnows.f k l0 = some true
theorem laws_FnMachineKnows.walk (P : laws_FnMachineKnows.Pure) (a0 : Option Addr) (len0 cap0 : Nat) (z0 : List Int) (w : World) (w0 : (a0 = none ∧ len0 = 0 ∧ cap0 = 0 ∧ z0 = []) ∨ ∃ x, a0 = some x ∧ len0 ≤ cap0 ∧ cap0 ≤ maxLen ∧ z0.length = cap0 ∧ (∀ i, i < z0.length → w.cell? (x.add i) = some (.int .u8 (z0.getD i 0))) ∧ ∀ n ∈ z0, (Lit.int .u8 n).wf = true) (y0 : len0 * 1 ≤ 140737488351232) :
  Calls Try.prog 8 #[.slice a0 len0 cap0] w fun e w' => e = .returned (.bool true) ∧ Below w.heap.size w w' := by
 obtain ⟨l0, rfl, hr0, hm0, hw0, hc0⟩ := ReadsInt.ofRowC w0; obtain ⟨k, h⟩ := P l0 hm0 y0 hw0
 refine (laws_FnMachineKnows.calls k _ _ l0 true w (Kd.C_of_reads (d := (0 : Int)) (h1 := fun _ => rfl) hr0) hc0 h).mono ?_
 rintro e w' ⟨rfl, hd⟩
 exact ⟨rfl, hd⟩

end Go.Proofs.Ytfpmfaelodfecaa.QFnMachineKnows

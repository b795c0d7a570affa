import Derived.Test.YtfpmfaelodfecaaQFnMachineRankx0
import Derived.Test.YtfpmfaelodfecaaQFnMachineRankx5
import Derived.Test.YtfpmfaelodfecaaQFnMachineRankx10
import Derived.Test.YtfpmfaelodfecaaQFnMachineRankx21
import Derived.Test.YtfpmfaelodfecaaVMSh2
namespace Go.Proofs.Ytfpmfaelodfecaa.QFnMachineRank
open Go.RowKit Go.Proofs.YtfpmfaelodfecaaW.PrintWords Go.Proofs.YtfpmfaelodfecaaW.PrintLast Go.Proofs.YtfpmfaelodfecaaW.PrintMore Go.Proofs.Ytfpmfaelodfecaa.Sh
attribute [local go_sem] max2_int min2_int max_two min_two max_three min_three max_four min_four
set_option linter.unusedVariables false
set_option linter.unusedSimpArgs false
set_option maxHeartbeats 8000000
set_option maxRecDepth 100000
-- shrunk

/-! ### spec_DrawMachineKnows: function 42 -/
def spec_DrawMachineKnows.j0 : Nat → List (S94) → Bool → List Int → Int → Option ((List (S94)) × ByteArray)
 | 0, _, _, _, _ => none
 | k + 1, x5, x17, x590000, x590001 => if x17 = true then ((spec_MachineCount.f k x5).bind fun t597 => (if t597 > 0 then ((spec_l1Rd_pick.f k x590000 x590001 t597).bind fun bt598 => ((spec_MachineWord.f k x5 bt598.1).bind fun t600 => (some (x5, t600)))) else ((spec_l13AnyWord.f k x590000 x590001).bind fun bt601 => (some (x5, bt601.1))))) else ((spec_l13AnyWord.f k x590000 x590001).bind fun bt603 => (some (x5, bt603.1)))
def spec_DrawMachineKnows.f (k : Nat) (l0 : List Int) : Option ((List (S94)) × ByteArray) := (spec_l1Open.f l0).bind fun bt587 => ((spec_l13AnyMachine.f k bt587.1 bt587.2).bind fun bt590 => ((spec_l3Small.f k bt590.1).bind fun t594 => (if t594 = true then ((spec_l1Rd_pick.f k bt587.1 bt590.2 2).bind fun bt595 => (spec_DrawMachineKnows.j0 k bt590.1 (bt595.1 == 0) bt587.1 bt595.2)) else (spec_DrawMachineKnows.j0 k bt590.1 false bt587.1 bt590.2))))
theorem spec_DrawMachineKnows.calls (k : Nat) (A0 : Option Addr) (c0 : Nat) (l0 : List Int) (r1 : List (S94)) (r2 : ByteArray) (w : World) (hr0 : Kd.C (Kd.int .u8) w A0 l0.length l0) (hc0 : l0.length ≤ c0) (h : spec_DrawMachineKnows.f k l0 = some (r1, r2)) :
  Calls Try.prog 42 #[.slice A0 l0.length c0] w fun e w' => ∃ v0_ : Value, e = .returned (.tuple #[v0_, .string r2]) ∧ Kd.S k94 94 w' w.heap.size (fun _ => True) v0_ r1 ∧ Below w.heap.size w w' := by
 have HR0 := am hr0; have HC0 := am hc0; clear hr0 hc0; have HB := am (Below.refl w.heap.size w)
 have H : ((spec_l1Open.f l0).bind fun bt587 => ((spec_l13AnyMachine.f k bt587.1 bt587.2).bind fun bt590 => ((spec_l3Small.f k bt590.1).bind fun t594 => (if t594 = true then ((spec_l1Rd_pick.f k bt587.1 bt590.2 2).bind fun bt595 => (spec_DrawMachineKnows.j0 k bt590.1 (bt595.1 == 0) bt587.1 bt595.2)) else (spec_DrawMachineKnows.j0 k bt590.1 false bt587.1 bt590.2))))) = some (r1, r2) := h
 clear h; replace H := bs H; obtain ⟨⟨t587, t588⟩, A20, H⟩ := H; replace H : ((spec_l13AnyMachine.f k t587 t588).bind fun bt590 => ((spec_l3Small.f k bt590.1).bind fun t594 => (if t594 = true then ((spec_l1Rd_pick.f k t587 bt590.2 2).bind fun bt595 => (spec_DrawMachineKnows.j0 k bt590.1 (bt595.1 == 0) t587 bt595.2)) else (spec_DrawMachineKnows.j0 k bt590.1 false t587 bt590.2)))) = some (r1, r2) := H; have A2 := Aside0.mk A20; clear A20; replace H := bs H; obtain ⟨⟨t590, t593⟩, A30, H⟩ := H; replace H : ((spec_l3Small.f k t590).bind fun t594 => (if t594 = true then ((spec_l1Rd_pick.f k t587 t593 2).bind fun bt595 => (spec_DrawMachineKnows.j0 k t590 (bt595.1 == 0) t587 bt595.2)) else (spec_DrawMachineKnows.j0 k t590 false t587 t593))) = some (r1, r2) := H; have A3 := Aside0.mk A30; clear A30; have HC4 := am H; clear H; go_enter Try.func42, Try.ntmps42
 go_upto_region 3 with (first | ((with_reducible refine gate_callee (f := 64) rfl ?_); refine goesL_ (some 8) rfl rfl Try.func64 (by kernel_rfl) rfl #[.slice A0 l0.length c0] rfl mq ?_; (with_reducible refine (spec_l1Open.calls _ _ l0 t587 t588 w _ ?side1 ?side2 ?side3 A2.out).mono ?_); (case side1 => repeat (first | (with_reducible first | exact HB.out | apply below_alloc | apply pw_below_drewN | apply below_drew1) | exact HB.out)); (case side2 => exact HR0.out); (case side3 => exact HC0.out); rintro e w5 ⟨g589, rfl, hi, hb, hb2⟩; refine ⟨_, rfl, ?_⟩; replace HB := am (hb); have HI589 := am (hi); (try clear hb); (try clear hb2); (try clear hk); (try clear hi)) | ((with_reducible refine gate_callee (f := 76) rfl ?_); refine goesL_ (some 10) rfl rfl Try.func76 (by kernel_rfl) rfl #[.pointer (some ⟨g589, 0, none⟩)] rfl mq ?_; (with_reducible refine (spec_l13AnyMachine.calls k g589 t587 t588 t590 t593 w _ ?side1 ?side2 A3.out).mono ?_); (case side1 => repeat (first | (with_reducible first | exact HI589.out | apply IsS127.alloc | apply IsS127.drewN | apply IsS127.drew | apply IsS127.set_1) | exact HI589.out)); (case side2 => repeat (first | (with_reducible first | exact HB.out | apply below_alloc | apply pw_below_drewN | apply below_drew1 | refine below_set ?_ (IsS127.ge HI589.out)) | exact HB.out)); rintro e w6 ⟨v591, rfl, ho0, hi, hb, hk⟩; refine ⟨_, rfl, ?_⟩; have HO592 := am (Kd.S_lower ho0 (below_size b14_)); replace HB := am (hb); replace HI589 := am (hi); (try clear hb); (try clear hb2); (try clear hk); (try clear hi); (try clear ho0)))
 (try simp only [Act.put, List.setIfInBounds_toArray, List.set_cons_zero, List.set_cons_succ])
 go_cut [17] (fun v17 wc => ∃ (kq : Nat) (x17_3 : Bool) (x590001_3 : Int), v17 = .bool x17_3 ∧ Aside0 (spec_DrawMachineKnows.j0 kq t590 x17_3 t587 x590001_3 = some (r1, r2)) ∧ Aside0 (kq ≤ k) ∧ Aside0 (Kd.S k94 94 wc w.heap.size (fun _ => True) v591 t590) ∧ Aside0 (IsS127 w wc g589 t587 x590001_3) ∧ Aside0 (Below w.heap.size w wc))
 case first =>
  have H := HC4.out; clear HC4; replace H := bs H; obtain ⟨t594, A70, H⟩ := H; replace H : (if t594 = true then ((spec_l1Rd_pick.f k t587 t593 2).bind fun bt595 => (spec_DrawMachineKnows.j0 k t590 (bt595.1 == 0) t587 bt595.2)) else (spec_DrawMachineKnows.j0 k t590 false t587 t593)) = some (r1, r2) := H; have A7 := Aside0.mk A70; clear A70
  by_cases c8 : t594 = true
  ·subst c8
   have H1 : ((spec_l1Rd_pick.f k t587 t593 2).bind fun bt595 => (spec_DrawMachineKnows.j0 k t590 (bt595.1 == 0) t587 bt595.2)) = some (r1, r2) := b21_
   replace H := H1; clear H1
   replace H := bs H; obtain ⟨⟨t595, t596⟩, A90, H⟩ := H; replace H : (spec_DrawMachineKnows.j0 k t590 (t595 == 0) t587 t596) = some (r1, r2) := H; have A9 := Aside0.mk A90; clear A90
   have H' := am H
   clear H; obtain ⟨Ao10, co10, eo10⟩ := Kd.S_slice HO592.out; subst eo10
   go_wp2_with (first | ((with_reducible refine gate_callee (f := 77) rfl ?_); refine goesL_ (some 12) rfl rfl Try.func77 (by kernel_rfl) rfl #[.slice Ao10 t590.length co10] rfl mq ?_; (with_reducible refine (spec_l3Small.calls k _ _ t590 true _ ?side1 ?side2 A7.out).mono ?_); (case side1 => exact cq (Kd.S_reads' HO592.out).2.2); (case side2 => exact (Kd.S_reads' HO592.out).2.1); rintro e w11 ⟨rfl, hb⟩; refine ⟨_, rfl, ?_⟩; replace HO592 := am (Kd.S_below b54_ hb); replace HB := am (below_step b14_ hb); replace HI589 := am (IsS127.below b22_ hb); (try clear hb); (try clear hb2); (try clear hk); (try clear hi)) | (go_at_call 67; (with_reducible refine (spec_l1Rd_pick.calls k g589 t587 t593 2 t595 t596 w _ ?side1 ?side2 A9.out).mono ?_); (case side1 => repeat (first | (with_reducible first | exact HI589.out | apply IsS127.alloc | apply IsS127.drewN | apply IsS127.drew | apply IsS127.set_1) | exact HI589.out)); (case side2 => repeat (first | (with_reducible first | exact HB.out | apply below_alloc | apply pw_below_drewN | apply below_drew1 | refine below_set ?_ (IsS127.ge HI589.out)) | exact HB.out)); rintro e w12 ⟨rfl, hi, hb, hk⟩; replace HO592 := am (Kd.S_mono (Kd.S_keep (IsS127.apartS (show IsS127 w _ g589 t587 t593 from by repeat (first | (with_reducible first | exact HI589.out | apply IsS127.alloc | apply IsS127.drewN | apply IsS127.drew | apply IsS127.set_1) | exact HI589.out)) b54_ (by decide)) hk (fun _ h => h.2)) (fun _ h => h.1)); replace HB := am (hb); replace HI589 := am (hi); (try clear hb); (try clear hb2); (try clear hk); (try clear hi)))
   go_meet
   case rel => exact ⟨_, ((t595 == 0)), (t596), sq, H', ⟨b59_⟩, ⟨b54_⟩, ⟨b22_⟩, ⟨b14_⟩⟩
  replace c8 := Bool.eq_false_iff.mpr c8; subst c8
  have H1 : (spec_DrawMachineKnows.j0 k t590 false t587 t593) = some (r1, r2) := b6_
  replace H := H1; clear H1
  have H' := am H
  clear H; obtain ⟨Ao13, co13, eo13⟩ := Kd.S_slice HO592.out; subst eo13
  go_wp2_with (first | ((with_reducible refine gate_callee (f := 77) rfl ?_); refine goesL_ (some 12) rfl rfl Try.func77 (by kernel_rfl) rfl #[.slice Ao13 t590.length co13] rfl mq ?_; (with_reducible refine (spec_l3Small.calls k _ _ t590 false _ ?side1 ?side2 A7.out).mono ?_); (case side1 => exact cq (Kd.S_reads' HO592.out).2.2); (case side2 => exact (Kd.S_reads' HO592.out).2.1); rintro e w14 ⟨rfl, hb⟩; refine ⟨_, rfl, ?_⟩; replace HO592 := am (Kd.S_below b54_ hb); replace HB := am (below_step b14_ hb); replace HI589 := am (IsS127.below b22_ hb); (try clear hb); (try clear hb2); (try clear hk); (try clear hi)))
  go_meet
  case rel => exact ⟨_, (false), (t593), sq, H', ⟨b59_⟩, ⟨b54_⟩, ⟨b22_⟩, ⟨b14_⟩⟩
 case rest =>
  clear HC4; (try clear p2); (try clear c4); (try clear c6); (try clear c7); (try clear c8); obtain ⟨kq, x17_3, x590001_3, rfl, HA, HJ3, HO_5, HI589, HB⟩ := hcut
  cases kq with
  | zero => exact absurd HA.out (by simp [spec_DrawMachineKnows.j0])
  | succ kj3 =>
   have H := HA.out; clear HA
   simp only [spec_DrawMachineKnows.j0] at H
   by_cases c15 : x17_3 = true
   ·subst c15
    have H1 : ((spec_MachineCount.f kj3 t590).bind fun t597 => (if t597 > 0 then ((spec_l1Rd_pick.f kj3 t587 x590001_3 t597).bind fun bt598 => ((spec_MachineWord.f kj3 t590 bt598.1).bind fun t600 => (some (t590, t600)))) else ((spec_l13AnyWord.f kj3 t587 x590001_3).bind fun bt601 => (some (t590, bt601.1))))) = some (r1, r2) := b21_
    replace H := H1; clear H1
    replace H := bs H; obtain ⟨t597, A160, H⟩ := H; replace H : (if t597 > 0 then ((spec_l1Rd_pick.f kj3 t587 x590001_3 t597).bind fun bt598 => ((spec_MachineWord.f kj3 t590 bt598.1).bind fun t600 => (some (t590, t600)))) else ((spec_l13AnyWord.f kj3 t587 x590001_3).bind fun bt601 => (some (t590, bt601.1)))) = some (r1, r2) := H; have A16 := Aside0.mk A160; clear A160
    by_cases c17 : t597 > 0
    ·rw [if_pos c17] at H; have c17b0 := decide_eq_true c17; clear c17; replace H := bs H; obtain ⟨⟨t598, t599⟩, A180, H⟩ := H; replace H : ((spec_MachineWord.f kj3 t590 t598).bind fun t600 => (some (t590, t600))) = some (r1, r2) := H; have A18 := Aside0.mk A180; clear A180; replace H := bs H; obtain ⟨t600, A190, H⟩ := H; replace H : (some (t590, t600)) = some (r1, r2) := H; have A19 := Aside0.mk A190; clear A190
     simp only [Option.some.injEq, Prod.mk.injEq] at H
     obtain ⟨rfl, rfl⟩ := H; obtain ⟨Ao20, co20, eo20⟩ := Kd.S_slice HO_5.out; subst eo20
     go_wp2_with (first | ((with_reducible refine gate_callee (f := 40) rfl ?_); refine goesL_ (some 19) rfl rfl Try.func40 (by kernel_rfl) rfl #[.slice Ao20 t590.length co20] rfl mq ?_; (with_reducible refine (spec_MachineCount.calls kj3 _ _ t590 t597 _ ?side1 ?side2 A16.out).mono ?_); (case side1 => exact cq (Kd.S_reads' HO_5.out).2.2); (case side2 => exact (Kd.S_reads' HO_5.out).2.1); rintro e w21 ⟨rfl, hb⟩; refine ⟨_, rfl, ?_⟩; replace HO_5 := am (Kd.S_below b11_ hb); replace HB := am (below_step b14_ hb); replace HI589 := am (IsS127.below b22_ hb); (try clear hb); (try clear hb2); (try clear hk); (try clear hi)) | ((with_reducible refine gate_callee (f := 67) rfl ?_); refine goesL_ (some 26) rfl rfl Try.func67 (by kernel_rfl) rfl #[.pointer (some ⟨g589, 0, none⟩), .int .i64 t597] rfl mq ?_; (with_reducible refine (spec_l1Rd_pick.calls kj3 g589 t587 x590001_3 t597 t598 t599 w _ ?side1 ?side2 A18.out).mono ?_); (case side1 => repeat (first | (with_reducible first | exact HI589.out | apply IsS127.alloc | apply IsS127.drewN | apply IsS127.drew | apply IsS127.set_1) | exact HI589.out)); (case side2 => repeat (first | (with_reducible first | exact HB.out | apply below_alloc | apply pw_below_drewN | apply below_drew1 | refine below_set ?_ (IsS127.ge HI589.out)) | exact HB.out)); rintro e w22 ⟨rfl, hi, hb, hk⟩; refine ⟨_, rfl, ?_⟩; replace HO_5 := am (Kd.S_mono (Kd.S_keep (IsS127.apartS (show IsS127 w _ g589 t587 x590001_3 from by repeat (first | (with_reducible first | exact HI589.out | apply IsS127.alloc | apply IsS127.drewN | apply IsS127.drew | apply IsS127.set_1) | exact HI589.out)) b11_ (by decide)) hk (fun _ h => h.2)) (fun _ h => h.1)); replace HB := am (hb); replace HI589 := am (hi); (try clear hb); (try clear hb2); (try clear hk); (try clear hi)) | ((with_reducible refine gate_callee (f := 39) rfl ?_); refine goesL_ (some 27) rfl rfl Try.func39 (by kernel_rfl) rfl #[.slice Ao20 t590.length co20, .int .i64 t598] rfl mq ?_; (with_reducible refine (spec_MachineWord.calls kj3 _ _ t590 t598 t600 _ ?side1 ?side2 A19.out).mono ?_); (case side1 => exact cq (Kd.S_reads' HO_5.out).2.2); (case side2 => exact (Kd.S_reads' HO_5.out).2.1); rintro e w23 ⟨rfl, hb⟩; refine ⟨_, rfl, ?_⟩; replace HO_5 := am (Kd.S_below b11_ hb); replace HB := am (below_step b14_ hb); replace HI589 := am (IsS127.below b22_ hb); (try clear hb); (try clear hb2); (try clear hk); (try clear hi)))
     go_ret2
     exact ⟨_, eq_, b11_, b14_⟩
    rw [if_neg c17] at H; have c17b0 := decide_eq_false c17; clear c17; replace H := bs H; obtain ⟨⟨t601, t602⟩, A240, H⟩ := H; replace H : (some (t590, t601)) = some (r1, r2) := H; have A24 := Aside0.mk A240; clear A240
    simp only [Option.some.injEq, Prod.mk.injEq] at H
    obtain ⟨rfl, rfl⟩ := H; obtain ⟨Ao25, co25, eo25⟩ := Kd.S_slice HO_5.out; subst eo25
    go_wp2_with (first | ((with_reducible refine gate_callee (f := 40) rfl ?_); refine goesL_ (some 19) rfl rfl Try.func40 (by kernel_rfl) rfl #[.slice Ao25 t590.length co25] rfl mq ?_; (with_reducible refine (spec_MachineCount.calls kj3 _ _ t590 t597 _ ?side1 ?side2 A16.out).mono ?_); (case side1 => exact cq (Kd.S_reads' HO_5.out).2.2); (case side2 => exact (Kd.S_reads' HO_5.out).2.1); rintro e w26 ⟨rfl, hb⟩; refine ⟨_, rfl, ?_⟩; replace HO_5 := am (Kd.S_below b11_ hb); replace HB := am (below_step b14_ hb); replace HI589 := am (IsS127.below b22_ hb); (try clear hb); (try clear hb2); (try clear hk); (try clear hi)) | ((with_reducible refine gate_callee (f := 66) rfl ?_); refine goesL_ (some 30) rfl rfl Try.func66 (by kernel_rfl) rfl #[.pointer (some ⟨g589, 0, none⟩)] rfl mq ?_; (with_reducible refine (spec_l13AnyWord.calls kj3 g589 t587 x590001_3 t601 t602 w _ ?side1 ?side2 A24.out).mono ?_); (case side1 => repeat (first | (with_reducible first | exact HI589.out | apply IsS127.alloc | apply IsS127.drewN | apply IsS127.drew | apply IsS127.set_1) | exact HI589.out)); (case side2 => repeat (first | (with_reducible first | exact HB.out | apply below_alloc | apply pw_below_drewN | apply below_drew1 | refine below_set ?_ (IsS127.ge HI589.out)) | exact HB.out)); rintro e w27 ⟨rfl, hi, hb, hk⟩; refine ⟨_, rfl, ?_⟩; replace HO_5 := am (Kd.S_mono (Kd.S_keep (IsS127.apartS (show IsS127 w _ g589 t587 x590001_3 from by repeat (first | (with_reducible first | exact HI589.out | apply IsS127.alloc | apply IsS127.drewN | apply IsS127.drew | apply IsS127.set_1) | exact HI589.out)) b11_ (by decide)) hk (fun _ h => h.2)) (fun _ h => h.1)); replace HB := am (hb); replace HI589 := am (hi); (try clear hb); (try clear hb2); (try clear hk); (try clear hi)))
    go_ret2
    exact ⟨_, eq_, b11_, b14_⟩
   replace c15 := Bool.eq_false_iff.mpr c15; subst c15
   have H1 : ((spec_l13AnyWord.f kj3 t587 x590001_3).bind fun bt603 => (some (t590, bt603.1))) = some (r1, r2) := b6_
   replace H := H1; clear H1
   replace H := bs H; obtain ⟨⟨t603, t604⟩, A280, H⟩ := H; replace H : (some (t590, t603)) = some (r1, r2) := H; have A28 := Aside0.mk A280; clear A280
   simp only [Option.some.injEq, Prod.mk.injEq] at H
   obtain ⟨rfl, rfl⟩ := H
   go_wp2_with (first | ((with_reducible refine gate_callee (f := 66) rfl ?_); refine goesL_ (some 30) rfl rfl Try.func66 (by kernel_rfl) rfl #[.pointer (some ⟨g589, 0, none⟩)] rfl mq ?_; (with_reducible refine (spec_l13AnyWord.calls kj3 g589 t587 x590001_3 t603 t604 w _ ?side1 ?side2 A28.out).mono ?_); (case side1 => repeat (first | (with_reducible first | exact HI589.out | apply IsS127.alloc | apply IsS127.drewN | apply IsS127.drew | apply IsS127.set_1) | exact HI589.out)); (case side2 => repeat (first | (with_reducible first | exact HB.out | apply below_alloc | apply pw_below_drewN | apply below_drew1 | refine below_set ?_ (IsS127.ge HI589.out)) | exact HB.out)); rintro e w29 ⟨rfl, hi, hb, hk⟩; refine ⟨_, rfl, ?_⟩; replace HO_5 := am (Kd.S_mono (Kd.S_keep (IsS127.apartS (show IsS127 w _ g589 t587 x590001_3 from by repeat (first | (with_reducible first | exact HI589.out | apply IsS127.alloc | apply IsS127.drewN | apply IsS127.drew | apply IsS127.set_1) | exact HI589.out)) b11_ (by decide)) hk (fun _ h => h.2)) (fun _ h => h.1)); replace HB := am (hb); replace HI589 := am (hi); (try clear hb); (try clear hb2); (try clear hk); (try clear hi)))
   go_ret2
   exact ⟨_, eq_, b11_, b14_⟩

/-! ### spec_DrawMachineRank: function 45 -/
def spec_DrawMachineRank.f (k : Nat) (l0 : List Int) : Option ((List (S94)) × ByteArray) := (spec_DrawMachineKnows.f k l0).bind fun bt605 => (some (bt605.1, bt605.2))
theorem spec_DrawMachineRank.calls (k : Nat) (A0 : Option Addr) (c0 : Nat) (l0 : List Int) (r1 : List (S94)) (r2 : ByteArray) (w : World) (hr0 : Kd.C (Kd.int .u8) w A0 l0.length l0) (hc0 : l0.length ≤ c0) (h : spec_DrawMachineRank.f k l0 = some (r1, r2)) :
  Calls Try.prog 45 #[.slice A0 l0.length c0] w fun e w' => ∃ v0_ : Value, e = .returned (.tuple #[v0_, .string r2]) ∧ Kd.S k94 94 w' w.heap.size (fun _ => True) v0_ r1 ∧ Below w.heap.size w w' := by
 have HR0 := am hr0; have HC0 := am hc0; clear hr0 hc0; have HB := am (Below.refl w.heap.size w)
 have H : ((spec_DrawMachineKnows.f k l0).bind fun bt605 => (some (bt605.1, bt605.2))) = some (r1, r2) := h
 clear h; replace H := bs H; obtain ⟨⟨t605, t606⟩, A20, H⟩ := H; replace H : (some (t605, t606)) = some (r1, r2) := H; have A2 := Aside0.mk A20; clear A20
 simp only [Option.some.injEq, Prod.mk.injEq] at H
 obtain ⟨rfl, rfl⟩ := H; go_enter Try.func45, Try.ntmps45
 go_wp2_with (first | ((with_reducible refine gate_callee (f := 42) rfl ?_); refine goesL_ (some 5) rfl rfl Try.func42 (by kernel_rfl) rfl #[.slice A0 l0.length c0] rfl mq ?_; (with_reducible refine (spec_DrawMachineKnows.calls k _ _ l0 t605 t606 _ ?side1 ?side2 A2.out).mono ?_); (case side1 => repeat (first | exact HR0.out | (with_reducible refine Kd.C_alloc ?_ _) | (with_reducible refine Kd.C_drewN ?_ _) | (with_reducible refine Kd.C_drew ?_))); (case side2 => exact HC0.out); rintro e w3 ⟨v607, rfl, ho0, hb⟩; refine ⟨_, rfl, ?_⟩; have HO608 := am (Kd.S_lower ho0 (below_size bel)); replace HB := am (below_step bel hb); (try clear hb); (try clear hb2); (try clear hk); (try clear hi); (try clear ho0)))
 go_ret2
 exact ⟨_, eq_, by (with_reducible repeat (first | apply Kd.S_alloc | apply Kd.S_drewN | apply Kd.S_drew)); exact HO608.out, bel⟩

/-! ### spec_l3Go: function 71 -/
mutual
def spec_l3Go.l0 : Nat → List (S94) → ByteArray → Int → Int → Option (Int)
 | 0, _, _, _, _ => none
 | k + 1, x0, x1, x5, x6 => if x6 < (x1.size : Int) then (spec_l3Go.l1 k x0 x1 x5 x6 (-1) 0) else (some x5)
def spec_l3Go.l1 : Nat → List (S94) → ByteArray → Int → Int → Int → Int → Option (Int)
 | 0, _, _, _, _, _, _ => none
 | k + 1, x0, x1, x5, x6, x7, x8 => if 0 ≤ x5 then (if x5 < (x0.length : Int) then (if x8 < (((rd_T94 x0 x5).f1).length : Int) then (if 0 ≤ x8 then (if 0 ≤ x6 then (if x6 < (x1.size : Int) then (if ((rd_T100 ((rd_T94 x0 x5).f1) x8).f0) = (wrap64 (bt x1 x6)) then (spec_l3Go.l1 k x0 x1 x5 x6 ((rd_T100 ((rd_T94 x0 x5).f1) x8).f1) (wrap64 (x8 + 1))) else (spec_l3Go.l1 k x0 x1 x5 x6 x7 (wrap64 (x8 + 1)))) else (none)) else (none)) else (none)) else (if x7 < 0 then (some (-1)) else (spec_l3Go.l0 k x0 x1 x7 (wrap64 (x6 + 1))))) else (none)) else (none)
end
def spec_l3Go.f (k : Nat) (l0 : List (S94)) (a1 : ByteArray) : Option (Int) := spec_l3Go.l0 k l0 a1 0 0
theorem spec_l3Go.calls (k : Nat) (A0 : Option Addr) (c0 : Nat) (l0 : List (S94)) (a1 : ByteArray) (r : Int) (w : World) (hr0 : Kd.C k94 w A0 l0.length l0) (hc0 : l0.length ≤ c0) (h : spec_l3Go.f k l0 a1 = some r) :
  Calls Try.prog 71 #[.slice A0 l0.length c0, .string a1] w fun e w' => e = .returned (.int .i64 r) ∧ Drawn0 w w' := by
 have HR0 := am hr0; have HC0 := am hc0; clear hr0 hc0
 have H : (spec_l3Go.l0 k l0 a1 0 0) = some r := h
 clear h
 have H' := am H
 clear H; go_enter Try.func71, Try.ntmps71; go_wp2
 repeat (go_quiet (fail); try go_wp2)
 go_loopg [5, 6] k (fun kq v5 v6 w' => ∃ (x5_1 : Int) (x6_1 : Int), v5 = .int .i64 x5_1 ∧ v6 = .int .i64 x6_1 ∧ Aside0 (spec_l3Go.l0 kq l0 a1 x5_1 x6_1 = some r) ∧ Aside0 (kq ≤ k) ∧ Drawn0 w w')
 case atStart => exact ⟨(0), (0), sq, sq, H', ⟨Nat.le_refl _⟩, dr⟩
 case round =>
  clear H'; (try clear p2); obtain ⟨x5_1, x6_1, rfl, rfl, HA, HK1, ⟨m1, rfl⟩⟩ := hrel
  cases gk with
  | zero => exact absurd HA.out (by simp [spec_l3Go.l0])
  | succ k1 =>
   have H := HA.out; clear HA
   simp only [spec_l3Go.l0] at H
   by_cases c3 : x6_1 < (a1.size : Int)
   ·rw [if_pos c3] at H; have c3b0 := decide_eq_true c3; clear c3
    have H' := am H
    clear H; go_wp2
    repeat (go_quiet (fail); try go_wp2)
    go_loopg [7, 8] k1 (fun kq v7 v8 w' => ∃ (x7_2 : Int) (x8_2 : Int), v7 = .int .i64 x7_2 ∧ v8 = .int .i64 x8_2 ∧ Aside0 (spec_l3Go.l1 kq l0 a1 x5_1 x6_1 x7_2 x8_2 = some r) ∧ Aside0 (kq ≤ k1) ∧ Drawn0 w w')
    case atStart => exact ⟨((-1)), (0), sq, sq, H', ⟨Nat.le_refl _⟩, dr⟩
    case round =>
     clear H'; (try clear p2); (try clear c3); (try clear c3b0); (try clear p2); obtain ⟨x7_2, x8_2, rfl, rfl, HA, HK2, ⟨m2, rfl⟩⟩ := hrel
     cases gk with
     | zero => exact absurd HA.out (by simp [spec_l3Go.l1])
     | succ k2 =>
      have H := HA.out; clear HA
      simp only [spec_l3Go.l1] at H
      replace H := it H; obtain ⟨c4b0, H⟩ := H
      replace H := it H; obtain ⟨c5b0, H⟩ := H
      by_cases c6 : x8_2 < (((rd_T94 l0 x5_1).f1).length : Int)
      ·rw [if_pos c6] at H; have c6b0 := decide_eq_true c6; clear c6
       replace H := it H; obtain ⟨c7b0, H⟩ := H
       replace H := it H; obtain ⟨c8b0, H⟩ := H
       replace H := it H; obtain ⟨c9b0, H⟩ := H
       by_cases c11 : ((rd_T100 ((rd_T94 l0 x5_1).f1) x8_2).f0) = (wrap64 (bt a1 x6_1))
       ·rw [if_pos c11] at H
        have c11b0 : (((rd_T100 ((rd_T94 l0 x5_1).f1) x8_2).f0) == (wrap64 (bt a1 x6_1))) = true := beq_iff_eq.mpr c11
        have c11b1 : (((rd_T100 ((rd_T94 l0 x5_1).f1) x8_2).f0) != (wrap64 (bt a1 x6_1))) = false := bne_eq_false_iff_eq.mpr c11
        clear c11
        have H' := am H
        clear H
        have p609 : 0 ≤ (x5_1 : Int) := of_decide_eq_true ad
        have q609 : x5_1 < (l0.length : Int) := of_decide_eq_true ad
        obtain ⟨ad609, A609_1, c609_1, e609, hx609_0, hx609_1, hl609_1, hi609_1⟩ := at_T94 HR0.out x5_1 p609 q609
        cases e609
        have HR609_1 := am hi609_1; have HC609_1 := am hl609_1; clear hi609_1 hl609_1; replace p609 := eq_true p609; replace q609 := eq_true q609
        have p610 : 0 ≤ (x5_1 : Int) := of_decide_eq_true ad
        have q610 : x5_1 < (l0.length : Int) := of_decide_eq_true ad
        obtain ⟨ad610, A610_1, c610_1, e610, hx610_0, hx610_1, hl610_1, hi610_1⟩ := at_T94 HR0.out x5_1 p610 q610
        obtain rfl : ad609 = ad610 := (by injection e610)
        have HR610_1 := am hi610_1; have HC610_1 := am hl610_1; clear hi610_1 hl610_1; replace p610 := eq_true p610; replace q610 := eq_true q610; have ea_ := Option.some.inj (hx609_1.symm.trans hx610_1)
        injection ea_ with ea_ en_ ec_
        subst ea_; subst ec_; clear en_
        have p611 : 0 ≤ (x8_2 : Int) := of_decide_eq_true ad
        have q611 : x8_2 < (((rd_T94 l0 x5_1).f1).length : Int) := of_decide_eq_true ad
        obtain ⟨ad611, e611, hx611_0, hx611_1⟩ := at_T100 HR610_1.out x8_2 p611 q611
        cases e611
        replace p611 := eq_true p611; replace q611 := eq_true q611
        have p10 : 0 ≤ (x6_1 : Int) := of_decide_eq_true ad
        have q10 : x6_1 < (a1.size : Int) := of_decide_eq_true ad
        have hx10 := bt_at a1 x6_1; replace p10 := eq_true p10; replace q10 := eq_true q10
        have p612 : 0 ≤ (x5_1 : Int) := of_decide_eq_true ad
        have q612 : x5_1 < (l0.length : Int) := of_decide_eq_true ad
        obtain ⟨ad612, A612_1, c612_1, e612, hx612_0, hx612_1, hl612_1, hi612_1⟩ := at_T94 HR0.out x5_1 p612 q612
        obtain rfl : ad609 = ad612 := (by injection e612)
        have HR612_1 := am hi612_1; have HC612_1 := am hl612_1; clear hi612_1 hl612_1; replace p612 := eq_true p612; replace q612 := eq_true q612; have ea_ := Option.some.inj (hx609_1.symm.trans hx612_1)
        injection ea_ with ea_ en_ ec_
        subst ea_; subst ec_; clear en_
        have p613 : 0 ≤ (x8_2 : Int) := of_decide_eq_true ad
        have q613 : x8_2 < (((rd_T94 l0 x5_1).f1).length : Int) := of_decide_eq_true ad
        obtain ⟨ad613, e613, hx613_0, hx613_1⟩ := at_T100 HR612_1.out x8_2 p613 q613
        cases e613
        replace p613 := eq_true p613; replace q613 := eq_true q613; go_wp2
        repeat (go_quiet (fail); try go_wp2)
        go_roundg k2
        case measure => have := HK1.out; have := HK2.out; omega
        case rel => exact ⟨((rd_T100 ((rd_T94 l0 x5_1).f1) x8_2).f1), (wrap64 (x8_2 + 1)), sq, sq, H', ⟨b25_⟩, dr⟩
       rw [if_neg c11] at H
       have c11b0 : (((rd_T100 ((rd_T94 l0 x5_1).f1) x8_2).f0) == (wrap64 (bt a1 x6_1))) = false := beq_eq_false_iff_ne.mpr c11
       have c11b1 : (((rd_T100 ((rd_T94 l0 x5_1).f1) x8_2).f0) != (wrap64 (bt a1 x6_1))) = true := bne_iff_ne.mpr c11
       have H' := am H
       clear H
       have p609 : 0 ≤ (x5_1 : Int) := of_decide_eq_true ad
       have q609 : x5_1 < (l0.length : Int) := of_decide_eq_true ad
       obtain ⟨ad609, A609_1, c609_1, e609, hx609_0, hx609_1, hl609_1, hi609_1⟩ := at_T94 HR0.out x5_1 p609 q609
       cases e609
       have HR609_1 := am hi609_1; have HC609_1 := am hl609_1; clear hi609_1 hl609_1; replace p609 := eq_true p609; replace q609 := eq_true q609
       have p610 : 0 ≤ (x5_1 : Int) := of_decide_eq_true ad
       have q610 : x5_1 < (l0.length : Int) := of_decide_eq_true ad
       obtain ⟨ad610, A610_1, c610_1, e610, hx610_0, hx610_1, hl610_1, hi610_1⟩ := at_T94 HR0.out x5_1 p610 q610
       obtain rfl : ad609 = ad610 := (by injection e610)
       have HR610_1 := am hi610_1; have HC610_1 := am hl610_1; clear hi610_1 hl610_1; replace p610 := eq_true p610; replace q610 := eq_true q610; have ea_ := Option.some.inj (hx609_1.symm.trans hx610_1)
       injection ea_ with ea_ en_ ec_
       subst ea_; subst ec_; clear en_
       have p611 : 0 ≤ (x8_2 : Int) := of_decide_eq_true ad
       have q611 : x8_2 < (((rd_T94 l0 x5_1).f1).length : Int) := of_decide_eq_true ad
       obtain ⟨ad611, e611, hx611_0, hx611_1⟩ := at_T100 HR610_1.out x8_2 p611 q611
       cases e611
       replace p611 := eq_true p611; replace q611 := eq_true q611
       have p10 : 0 ≤ (x6_1 : Int) := of_decide_eq_true ad
       have q10 : x6_1 < (a1.size : Int) := of_decide_eq_true ad
       have hx10 := bt_at a1 x6_1; replace p10 := eq_true p10; replace q10 := eq_true q10; go_wp2
       repeat (go_quiet (fail); try go_wp2)
       go_roundg k2
       case measure => have := HK1.out; have := HK2.out; omega
       case rel => exact ⟨(x7_2), (wrap64 (x8_2 + 1)), sq, sq, H', ⟨b25_⟩, dr⟩
      rw [if_neg c6] at H; have c6b0 := decide_eq_false c6; clear c6
      by_cases c12 : x7_2 < 0
      ·rw [if_pos c12] at H; have c12b0 := decide_eq_true c12; clear c12; obtain rfl := Option.some.inj H
       have p609 : 0 ≤ (x5_1 : Int) := of_decide_eq_true ad
       have q609 : x5_1 < (l0.length : Int) := of_decide_eq_true ad
       obtain ⟨ad609, A609_1, c609_1, e609, hx609_0, hx609_1, hl609_1, hi609_1⟩ := at_T94 HR0.out x5_1 p609 q609
       cases e609
       have HR609_1 := am hi609_1; have HC609_1 := am hl609_1; clear hi609_1 hl609_1; replace p609 := eq_true p609; replace q609 := eq_true q609; go_wp2
       repeat (go_quiet (fail); try go_wp2)
       go_ret
       exact ⟨sq, dr⟩
      rw [if_neg c12] at H; have c12b0 := decide_eq_false c12; clear c12
      have H' := am H
      clear H
      have p609 : 0 ≤ (x5_1 : Int) := of_decide_eq_true ad
      have q609 : x5_1 < (l0.length : Int) := of_decide_eq_true ad
      obtain ⟨ad609, A609_1, c609_1, e609, hx609_0, hx609_1, hl609_1, hi609_1⟩ := at_T94 HR0.out x5_1 p609 q609
      cases e609
      have HR609_1 := am hi609_1; have HC609_1 := am hl609_1; clear hi609_1 hl609_1; replace p609 := eq_true p609; replace q609 := eq_true q609; go_wp2
      repeat (go_quiet (fail); try go_wp2)
      go_roundg k2
      case measure => have := HK1.out; have := HK2.out; omega
      case rel => exact ⟨(x7_2), (wrap64 (x6_1 + 1)), sq, sq, H', ⟨b25_⟩, dr⟩
   rw [if_neg c3] at H; have c3b0 := decide_eq_false c3; clear c3; obtain rfl := Option.some.inj H; go_wp2
   repeat (go_quiet (fail); try go_wp2)
   go_ret
   exact ⟨sq, dr⟩

/-! ### spec_MachineKnows: function 43 -/
def spec_MachineKnows.f (k : Nat) (l0 : List (S94)) (a1 : ByteArray) : Option (Bool) := (spec_MachineOk.f k l0).bind fun t614 => (if t614 = true then ((spec_l3Go.f k l0 a1).bind fun t615 => (if t615 ≥ 0 then (if 0 ≤ t615 then (if t615 < (l0.length : Int) then (some ((rd_T94 l0 t615).f0)) else (none)) else (none)) else (some false))) else (some false))
theorem spec_MachineKnows.calls (k : Nat) (A0 : Option Addr) (c0 : Nat) (l0 : List (S94)) (a1 : ByteArray) (r : Bool) (w : World) (hr0 : Kd.C k94 w A0 l0.length l0) (hc0 : l0.length ≤ c0) (h : spec_MachineKnows.f k l0 a1 = some r) :
  Calls Try.prog 43 #[.slice A0 l0.length c0, .string a1] w fun e w' => e = .returned (.bool r) ∧ Below w.heap.size w w' := by
 have HR0 := am hr0; have HC0 := am hc0; clear hr0 hc0; have HB := am (Below.refl w.heap.size w)
 have H : ((spec_MachineOk.f k l0).bind fun t614 => (if t614 = true then ((spec_l3Go.f k l0 a1).bind fun t615 => (if t615 ≥ 0 then (if 0 ≤ t615 then (if t615 < (l0.length : Int) then (some ((rd_T94 l0 t615).f0)) else (none)) else (none)) else (some false))) else (some false))) = some r := h
 clear h; replace H := bs H; obtain ⟨t614, A30, H⟩ := H; replace H : (if t614 = true then ((spec_l3Go.f k l0 a1).bind fun t615 => (if t615 ≥ 0 then (if 0 ≤ t615 then (if t615 < (l0.length : Int) then (some ((rd_T94 l0 t615).f0)) else (none)) else (none)) else (some false))) else (some false)) = some r := H; have A3 := Aside0.mk A30; clear A30
 by_cases c4 : t614 = true
 ·subst c4
  have H1 : ((spec_l3Go.f k l0 a1).bind fun t615 => (if t615 ≥ 0 then (if 0 ≤ t615 then (if t615 < (l0.length : Int) then (some ((rd_T94 l0 t615).f0)) else (none)) else (none)) else (some false))) = some r := b21_
  replace H := H1; clear H1
  replace H := bs H; obtain ⟨t615, A50, H⟩ := H; replace H : (if t615 ≥ 0 then (if 0 ≤ t615 then (if t615 < (l0.length : Int) then (some ((rd_T94 l0 t615).f0)) else (none)) else (none)) else (some false)) = some r := H; have A5 := Aside0.mk A50; clear A50
  by_cases c6 : t615 ≥ 0
  ·rw [if_pos c6] at H; have c6b0 := decide_eq_true c6; clear c6
   replace H := it H; obtain ⟨c7b0, H⟩ := H
   replace H := it H; obtain ⟨c8b0, H⟩ := H; obtain rfl := Option.some.inj H; go_enter Try.func43, Try.ntmps43
   go_wp2_with (first | ((with_reducible refine gate_callee (f := 34) rfl ?_); refine goesL_ (some 7) rfl rfl Try.func34 (by kernel_rfl) rfl #[.slice A0 l0.length c0] rfl mq ?_; (with_reducible refine (spec_MachineOk.calls k _ _ l0 true _ ?side1 ?side2 A3.out).mono ?_); (case side1 => repeat (first | exact HR0.out | (with_reducible refine Kd.C_alloc ?_ _) | (with_reducible refine Kd.C_drewN ?_ _) | (with_reducible refine Kd.C_drew ?_))); (case side2 => exact HC0.out); rintro e w9 ⟨rfl, hb⟩; refine ⟨_, rfl, ?_⟩; replace HB := am (below_step bel hb); (try clear hb); (try clear hb2); (try clear hk); (try clear hi)) | ((with_reducible refine gate_callee (f := 71) rfl ?_); refine goesL_ (some 11) rfl rfl Try.func71 (by kernel_rfl) rfl #[.slice A0 l0.length c0, .string a1] rfl mq ?_; (with_reducible refine (spec_l3Go.calls k _ _ l0 a1 t615 _ ?side1 ?side2 A5.out).mono ?_); (case side1 => exact cq (Kd.C_below HR0.out HB.out)); (case side2 => exact HC0.out); rintro e w' ⟨rfl, ⟨nd, rfl⟩⟩; refine ⟨_, rfl, ?_⟩; have p616 : 0 ≤ (t615 : Int) := of_decide_eq_true ad; have q616 : t615 < (l0.length : Int) := of_decide_eq_true ad; obtain ⟨ad616, A616_1, c616_1, e616, hx616_0, hx616_1, hl616_1, hi616_1⟩ := at_T94 HR0.out t615 p616 q616; cases e616; replace hx616_0 := kp HB.out hx616_0; replace hx616_1 := kp HB.out hx616_1; have HR616_1 := am hi616_1; have HC616_1 := am hl616_1; clear hi616_1 hl616_1; replace p616 := eq_true p616; replace q616 := eq_true q616))
   go_ret
   exact ⟨eq_, bel⟩
  rw [if_neg c6] at H; have c6b0 := decide_eq_false c6; clear c6; obtain rfl := Option.some.inj H; go_enter Try.func43, Try.ntmps43
  go_wp2_with (first | ((with_reducible refine gate_callee (f := 34) rfl ?_); refine goesL_ (some 7) rfl rfl Try.func34 (by kernel_rfl) rfl #[.slice A0 l0.length c0] rfl mq ?_; (with_reducible refine (spec_MachineOk.calls k _ _ l0 true _ ?side1 ?side2 A3.out).mono ?_); (case side1 => repeat (first | exact HR0.out | (with_reducible refine Kd.C_alloc ?_ _) | (with_reducible refine Kd.C_drewN ?_ _) | (with_reducible refine Kd.C_drew ?_))); (case side2 => exact HC0.out); rintro e w10 ⟨rfl, hb⟩; refine ⟨_, rfl, ?_⟩; replace HB := am (below_step bel hb); (try clear hb); (try clear hb2); (try clear hk); (try clear hi)) | ((with_reducible refine gate_callee (f := 71) rfl ?_); refine goesL_ (some 11) rfl rfl Try.func71 (by kernel_rfl) rfl #[.slice A0 l0.length c0, .string a1] rfl mq ?_; (with_reducible refine (spec_l3Go.calls k _ _ l0 a1 t615 _ ?side1 ?side2 A5.out).mono ?_); (case side1 => exact cq (Kd.C_below HR0.out HB.out)); (case side2 => exact HC0.out); rintro e w' ⟨rfl, ⟨nd, rfl⟩⟩; refine ⟨_, rfl, ?_⟩))
  go_ret
  exact ⟨eq_, bel⟩
 replace c4 := Bool.eq_false_iff.mpr c4; subst c4
 have H1 : (some false) = some r := b6_
 replace H := H1; clear H1
 obtain rfl := Option.some.inj H; go_enter Try.func43, Try.ntmps43
 go_wp2_with (first | ((with_reducible refine gate_callee (f := 34) rfl ?_); refine goesL_ (some 7) rfl rfl Try.func34 (by kernel_rfl) rfl #[.slice A0 l0.length c0] rfl mq ?_; (with_reducible refine (spec_MachineOk.calls k _ _ l0 false _ ?side1 ?side2 A3.out).mono ?_); (case side1 => repeat (first | exact HR0.out | (with_reducible refine Kd.C_alloc ?_ _) | (with_reducible refine Kd.C_drewN ?_ _) | (with_reducible refine Kd.C_drew ?_))); (case side2 => exact HC0.out); rintro e w11 ⟨rfl, hb⟩; refine ⟨_, rfl, ?_⟩; replace HB := am (below_step bel hb); (try clear hb); (try clear hb2); (try clear hk); (try clear hi)))
 go_ret
 exact ⟨eq_, bel⟩
-- shrunk

/-! ### spec_MachineRank: function 46 -/
mutual
def spec_MachineRank.j0 : Nat → List (S94) → ByteArray → Bool → Option (Int)
 | 0, _, _, _ => none
 | k + 1, x0, x1, x20 => if x20 = true then (some (-1)) else ((spec_l3Counts.f k x0).bind fun t619 => (spec_MachineRank.l0 k x0 x1 t619 0 0 0))
def spec_MachineRank.l0 : Nat → List (S94) → ByteArray → List Int → Int → Int → Int → Option (Int)
 | 0, _, _, _, _, _, _ => none
 | k + 1, x0, x1, x5, x6, x7, x8 => if x8 < (x1.size : Int) then (if 0 ≤ x6 then (if x6 < (x0.length : Int) then (if (rd_T94 x0 x6).f0 = true then (spec_MachineRank.j2 k x0 x1 x5 x6 (wrap64 (x7 + 1)) x8) else (spec_MachineRank.j2 k x0 x1 x5 x6 x7 x8)) else (none)) else (none)) else (some x7)
def spec_MachineRank.j2 : Nat → List (S94) → ByteArray → List Int → Int → Int → Int → Option (Int)
 | 0, _, _, _, _, _, _ => none
 | k + 1, x0, x1, x5, x6, x7, x8 => spec_MachineRank.l1 k x0 x1 x5 x6 x7 x8 (-1) 0
def spec_MachineRank.l1 : Nat → List (S94) → ByteArray → List Int → Int → Int → Int → Int → Int → Option (Int)
 | 0, _, _, _, _, _, _, _, _ => none
 | k + 1, x0, x1, x5, x6, x7, x8, x9, x10 => if 0 ≤ x6 then (if x6 < (x0.length : Int) then (if x10 < (((rd_T94 x0 x6).f1).length : Int) then (if 0 ≤ x10 then (if 0 ≤ x8 then (if x8 < (x1.size : Int) then (if ((rd_T100 ((rd_T94 x0 x6).f1) x10).f0) < (wrap64 (bt x1 x8)) then (if 0 ≤ ((rd_T100 ((rd_T94 x0 x6).f1) x10).f1) then (if ((rd_T100 ((rd_T94 x0 x6).f1) x10).f1) < (x5.length : Int) then (if ((rd_T100 ((rd_T94 x0 x6).f1) x10).f0) = (wrap64 (bt x1 x8)) then (spec_MachineRank.l1 k x0 x1 x5 x6 (wrap64 (x7 + (rd x5 ((rd_T100 ((rd_T94 x0 x6).f1) x10).f1)))) x8 ((rd_T100 ((rd_T94 x0 x6).f1) x10).f1) (wrap64 (x10 + 1))) else (spec_MachineRank.l1 k x0 x1 x5 x6 (wrap64 (x7 + (rd x5 ((rd_T100 ((rd_T94 x0 x6).f1) x10).f1)))) x8 x9 (wrap64 (x10 + 1)))) else (none)) else (none)) else (if ((rd_T100 ((rd_T94 x0 x6).f1) x10).f0) = (wrap64 (bt x1 x8)) then (spec_MachineRank.l1 k x0 x1 x5 x6 x7 x8 ((rd_T100 ((rd_T94 x0 x6).f1) x10).f1) (wrap64 (x10 + 1))) else (spec_MachineRank.l1 k x0 x1 x5 x6 x7 x8 x9 (wrap64 (x10 + 1))))) else (none)) else (none)) else (none)) else (spec_MachineRank.l0 k x0 x1 x5 x9 x7 (wrap64 (x8 + 1)))) else (none)) else (none)
end
def spec_MachineRank.f (k : Nat) (l0 : List (S94)) (a1 : ByteArray) : Option (Int) := (spec_l3Small.f k l0).bind fun t617 => (if t617 = true then ((spec_MachineKnows.f k l0 a1).bind fun t618 => (spec_MachineRank.j0 k l0 a1 (!t618))) else (spec_MachineRank.j0 k l0 a1 true))
theorem spec_MachineRank.calls (k : Nat) (A0 : Option Addr) (c0 : Nat) (l0 : List (S94)) (a1 : ByteArray) (r : Int) (w : World) (hr0 : Kd.C k94 w A0 l0.length l0) (hc0 : l0.length ≤ c0) (h : spec_MachineRank.f k l0 a1 = some r) :
  Calls Try.prog 46 #[.slice A0 l0.length c0, .string a1] w fun e w' => e = .returned (.int .i64 r) ∧ Below w.heap.size w w' := by
 have hu100 := Try.underlying100; have HR0 := am hr0; have HC0 := am hc0; clear hr0 hc0; have HB := am (Below.refl w.heap.size w)
 have H : ((spec_l3Small.f k l0).bind fun t617 => (if t617 = true then ((spec_MachineKnows.f k l0 a1).bind fun t618 => (spec_MachineRank.j0 k l0 a1 (!t618))) else (spec_MachineRank.j0 k l0 a1 true))) = some r := h
 clear h; have HC3 := am H; clear H; go_enter Try.func46, Try.ntmps46
 go_upto_region 1 with (fail)
 repeat (go_quiet (fail); go_upto_region 1 with (fail))
 go_cut [20] (fun v20 wc => ∃ (kq : Nat) (x20_2 : Bool), v20 = .bool x20_2 ∧ Aside0 (spec_MachineRank.j0 kq l0 a1 x20_2 = some r) ∧ Aside0 (kq ≤ k) ∧ Aside0 (Below w.heap.size w wc))
 case first =>
  have H := HC3.out; clear HC3; replace H := bs H; obtain ⟨t617, A40, H⟩ := H; replace H : (if t617 = true then ((spec_MachineKnows.f k l0 a1).bind fun t618 => (spec_MachineRank.j0 k l0 a1 (!t618))) else (spec_MachineRank.j0 k l0 a1 true)) = some r := H; have A4 := Aside0.mk A40; clear A40
  by_cases c5 : t617 = true
  ·subst c5
   have H1 : ((spec_MachineKnows.f k l0 a1).bind fun t618 => (spec_MachineRank.j0 k l0 a1 (!t618))) = some r := b21_
   replace H := H1; clear H1
   replace H := bs H; obtain ⟨t618, A60, H⟩ := H; replace H : (spec_MachineRank.j0 k l0 a1 (!t618)) = some r := H; have A6 := Aside0.mk A60; clear A60
   have H' := am H
   clear H
   go_wp2_with (first | (go_at_call 77; (with_reducible refine (spec_l3Small.calls k _ _ l0 true _ ?side1 ?side2 A4.out).mono ?_); (case side1 => exact cq (Kd.C_below HR0.out HB.out)); (case side2 => exact HC0.out); rintro e w7 ⟨rfl, hb⟩; replace HB := am (below_step bel hb); (try clear hb); (try clear hb2); (try clear hk); (try clear hi)) | (go_at_call 43; (with_reducible refine (spec_MachineKnows.calls k _ _ l0 a1 t618 _ ?side1 ?side2 A6.out).mono ?_); (case side1 => exact cq (Kd.C_below HR0.out HB.out)); (case side2 => exact HC0.out); rintro e w8 ⟨rfl, hb⟩; replace HB := am (below_step bel hb); (try clear hb); (try clear hb2); (try clear hk); (try clear hi)))
   repeat (go_quiet (first | (go_at_call 77; (with_reducible refine (spec_l3Small.calls k _ _ l0 true _ ?side1 ?side2 A4.out).mono ?_); (case side1 => exact cq (Kd.C_below HR0.out HB.out)); (case side2 => exact HC0.out); rintro e w7 ⟨rfl, hb⟩; replace HB := am (below_step bel hb); (try clear hb); (try clear hb2); (try clear hk); (try clear hi)) | (go_at_call 43; (with_reducible refine (spec_MachineKnows.calls k _ _ l0 a1 t618 _ ?side1 ?side2 A6.out).mono ?_); (case side1 => exact cq (Kd.C_below HR0.out HB.out)); (case side2 => exact HC0.out); rintro e w8 ⟨rfl, hb⟩; replace HB := am (below_step bel hb); (try clear hb); (try clear hb2); (try clear hk); (try clear hi))); try go_wp2_with (first | (go_at_call 77; (with_reducible refine (spec_l3Small.calls k _ _ l0 true _ ?side1 ?side2 A4.out).mono ?_); (case side1 => exact cq (Kd.C_below HR0.out HB.out)); (case side2 => exact HC0.out); rintro e w7 ⟨rfl, hb⟩; replace HB := am (below_step bel hb); (try clear hb); (try clear hb2); (try clear hk); (try clear hi)) | (go_at_call 43; (with_reducible refine (spec_MachineKnows.calls k _ _ l0 a1 t618 _ ?side1 ?side2 A6.out).mono ?_); (case side1 => exact cq (Kd.C_below HR0.out HB.out)); (case side2 => exact HC0.out); rintro e w8 ⟨rfl, hb⟩; replace HB := am (below_step bel hb); (try clear hb); (try clear hb2); (try clear hk); (try clear hi))))
   go_meet
   case rel => exact ⟨_, (!t618), sq, H', ⟨b59_⟩, ⟨bel⟩⟩
  replace c5 := Bool.eq_false_iff.mpr c5; subst c5
  have H1 : (spec_MachineRank.j0 k l0 a1 true) = some r := b6_
  replace H := H1; clear H1
  have H' := am H
  clear H
  go_wp2_with (first | (go_at_call 77; (with_reducible refine (spec_l3Small.calls k _ _ l0 false _ ?side1 ?side2 A4.out).mono ?_); (case side1 => exact cq (Kd.C_below HR0.out HB.out)); (case side2 => exact HC0.out); rintro e w9 ⟨rfl, hb⟩; replace HB := am (below_step bel hb); (try clear hb); (try clear hb2); (try clear hk); (try clear hi)))
  repeat (go_quiet (first | (go_at_call 77; (with_reducible refine (spec_l3Small.calls k _ _ l0 false _ ?side1 ?side2 A4.out).mono ?_); (case side1 => exact cq (Kd.C_below HR0.out HB.out)); (case side2 => exact HC0.out); rintro e w9 ⟨rfl, hb⟩; replace HB := am (below_step bel hb); (try clear hb); (try clear hb2); (try clear hk); (try clear hi))); try go_wp2_with (first | (go_at_call 77; (with_reducible refine (spec_l3Small.calls k _ _ l0 false _ ?side1 ?side2 A4.out).mono ?_); (case side1 => exact cq (Kd.C_below HR0.out HB.out)); (case side2 => exact HC0.out); rintro e w9 ⟨rfl, hb⟩; replace HB := am (below_step bel hb); (try clear hb); (try clear hb2); (try clear hk); (try clear hi))))
  go_meet
  case rel => exact ⟨_, (true), sq, H', ⟨b59_⟩, ⟨bel⟩⟩
 case rest =>
  clear HC3; (try clear p2); (try clear c4); (try clear c5); obtain ⟨kq, x20_2, rfl, HA, HJ2, HB⟩ := hcut
  cases kq with
  | zero => exact absurd HA.out (by simp [spec_MachineRank.j0])
  | succ kj2 =>
   have H := HA.out; clear HA
   simp only [spec_MachineRank.j0] at H
   by_cases c10 : x20_2 = true
   ·subst c10
    have H1 : (some (-1)) = some r := b21_
    replace H := H1; clear H1
    obtain rfl := Option.some.inj H; go_wp2
    repeat (go_quiet (fail); try go_wp2)
    go_ret
    exact ⟨eq_, bel⟩
   replace c10 := Bool.eq_false_iff.mpr c10; subst c10
   have H1 : ((spec_l3Counts.f kj2 l0).bind fun t619 => (spec_MachineRank.l0 kj2 l0 a1 t619 0 0 0)) = some r := b6_
   replace H := H1; clear H1
   replace H := bs H; obtain ⟨t619, A110, H⟩ := H; replace H : (spec_MachineRank.l0 kj2 l0 a1 t619 0 0 0) = some r := H; have A11 := Aside0.mk A110; clear A110
   have H' := am H
   clear H
   go_wp2_with (first | (go_at_call 83; (with_reducible refine (spec_l3Counts.calls kj2 _ _ l0 t619 _ ?side1 ?side2 A11.out).mono ?_); (case side1 => exact cq (Kd.C_below HR0.out HB.out)); (case side2 => exact HC0.out); rintro e w12 ⟨v620, rfl, ho0, hb⟩; have HO621 := am (Kd.R_lower ho0 (below_size bel)); replace HB := am (below_step bel hb); (try clear hb); (try clear hb2); (try clear hk); (try clear hi); (try clear ho0)))
   repeat (go_quiet (first | (go_at_call 83; (with_reducible refine (spec_l3Counts.calls kj2 _ _ l0 t619 _ ?side1 ?side2 A11.out).mono ?_); (case side1 => exact cq (Kd.C_below HR0.out HB.out)); (case side2 => exact HC0.out); rintro e w12 ⟨v620, rfl, ho0, hb⟩; have HO621 := am (Kd.R_lower ho0 (below_size bel)); replace HB := am (below_step bel hb); (try clear hb); (try clear hb2); (try clear hk); (try clear hi); (try clear ho0))); try go_wp2_with (first | (go_at_call 83; (with_reducible refine (spec_l3Counts.calls kj2 _ _ l0 t619 _ ?side1 ?side2 A11.out).mono ?_); (case side1 => exact cq (Kd.C_below HR0.out HB.out)); (case side2 => exact HC0.out); rintro e w12 ⟨v620, rfl, ho0, hb⟩; have HO621 := am (Kd.R_lower ho0 (below_size bel)); replace HB := am (below_step bel hb); (try clear hb); (try clear hb2); (try clear hk); (try clear hi); (try clear ho0))))
   go_loopg [6, 7, 8] kj2 (fun kq v6 v7 v8 w' => ∃ (x6_2 : Int) (x7_2 : Int) (x8_2 : Int), v6 = .int .i64 x6_2 ∧ v7 = .int .i64 x7_2 ∧ v8 = .int .i64 x8_2 ∧ Aside0 (spec_MachineRank.l0 kq l0 a1 t619 x6_2 x7_2 x8_2 = some r) ∧ Aside0 (kq ≤ kj2) ∧ Aside0 (Kd.R (Kd.int .i64) 3 w' w.heap.size (fun _ => True) v620 t619) ∧ Aside0 (Below w.heap.size w w'))
   case atStart => exact ⟨(0), (0), (0), sq, sq, sq, H', ⟨Nat.le_refl _⟩, ⟨rq HO621.out⟩, ⟨bel⟩⟩
   case round =>
    clear H'; (try clear c1); (try clear p2); (try clear c4); (try clear c5); (try clear c10); (try clear p2); obtain ⟨x6_2, x7_2, x8_2, rfl, rfl, rfl, HA, HK2, HO_5, HB⟩ := hrel
    cases gk with
    | zero => exact absurd HA.out (by simp [spec_MachineRank.l0])
    | succ k2 =>
     have H := HA.out; clear HA
     simp only [spec_MachineRank.l0] at H
     by_cases c13 : x8_2 < (a1.size : Int)
     ·rw [if_pos c13] at H; have c13b0 := decide_eq_true c13; clear c13
      replace H := it H; obtain ⟨c14b0, H⟩ := H
      replace H := it H; obtain ⟨c15b0, H⟩ := H; have HC16 := am H; clear H
      have p622 : 0 ≤ (x6_2 : Int) := of_decide_eq_true ad
      have q622 : x6_2 < (l0.length : Int) := of_decide_eq_true ad
      obtain ⟨ad622, A622_1, c622_1, e622, hx622_0, hx622_1, hl622_1, hi622_1⟩ := at_T94 HR0.out x6_2 p622 q622
      cases e622
      replace hx622_0 := kp HB.out hx622_0; replace hx622_1 := kp HB.out hx622_1; have HR622_1 := am hi622_1; have HC622_1 := am hl622_1; clear hi622_1 hl622_1; replace p622 := eq_true p622; replace q622 := eq_true q622
      go_upto_if 33 with (fail)
      repeat (go_quiet (fail); go_upto_if 33 with (fail))
      go_cut [7] (fun v7 wc => ∃ (kq : Nat) (x7_15 : Int), v7 = .int .i64 x7_15 ∧ Aside0 (spec_MachineRank.j2 kq l0 a1 t619 x6_2 x7_15 x8_2 = some r) ∧ Aside0 (kq ≤ k2) ∧ Aside0 (Kd.R (Kd.int .i64) 3 wc w.heap.size (fun _ => True) v620 t619) ∧ Aside0 (Below w.heap.size w wc))
      case first =>
       have H := HC16.out; clear HC16; obtain ⟨bq17, hbq17⟩ : ∃ b_ : Bool, b_ = ((rd_T94 l0 x6_2).f0) := ⟨_, rfl⟩
       replace H : (if bq17 = true then (spec_MachineRank.j2 k2 l0 a1 t619 x6_2 (wrap64 (x7_2 + 1)) x8_2) else (spec_MachineRank.j2 k2 l0 a1 t619 x6_2 x7_2 x8_2)) = some r := by rw [← hbq17] at H; exact H
       have Nbq17 := am hbq17; clear hbq17
       (try rw [← Nbq17.out])
       by_cases c18 : bq17 = true
       ·subst c18
        have H1 : (spec_MachineRank.j2 k2 l0 a1 t619 x6_2 (wrap64 (x7_2 + 1)) x8_2) = some r := b21_
        replace H := H1; clear H1
        have H' := am H
        clear H; go_wp2
        repeat (go_quiet (fail); try go_wp2)
        go_meet
        case rel => exact ⟨_, (wrap64 (x7_2 + 1)), sq, H', ⟨b82_⟩, ⟨rq HO_5.out⟩, ⟨bel⟩⟩
       replace c18 := Bool.eq_false_iff.mpr c18; subst c18
       (try rw [← Nbq17.out] at hx622_0)
       (try rw [← Nbq17.out])
       have H1 : (spec_MachineRank.j2 k2 l0 a1 t619 x6_2 x7_2 x8_2) = some r := b6_
       replace H := H1; clear H1
       have H' := am H
       clear H; go_wp2
       repeat (go_quiet (fail); try go_wp2)
       go_meet
       case rel => (try rw [← Nbq17.out]); exact ⟨_, (x7_2), sq, H', ⟨b82_⟩, ⟨rq HO_5.out⟩, ⟨bel⟩⟩
      case rest =>
       clear HC16; (try clear c1); (try clear q1); (try clear p2); (try clear c4); (try clear c5); (try clear c6); (try clear p6); (try clear q6); (try clear hx6); (try clear c10); (try clear c13); (try clear c13b0); (try clear c14); (try clear c14b0); (try clear c15); (try clear c15b0); (try clear q17); (try clear c18); (try clear hx622_0); (try clear hx622_1); (try clear p2); (try clear p622); (try clear q622); obtain ⟨kq, x7_15, rfl, HA, HJ15, HO_5, HB⟩ := hcut
       cases kq with
       | zero => exact absurd HA.out (by simp [spec_MachineRank.j2])
       | succ kj15 =>
        have H := HA.out; clear HA
        simp only [spec_MachineRank.j2] at H
        have H' := am H
        clear H; go_wp2
        repeat (go_quiet (fail); try go_wp2)
        go_loopg [7, 9, 10] kj15 (fun kq v7 v9 v10 w' => ∃ (x7_4 : Int) (x9_4 : Int) (x10_4 : Int), v7 = .int .i64 x7_4 ∧ v9 = .int .i64 x9_4 ∧ v10 = .int .i64 x10_4 ∧ Aside0 (spec_MachineRank.l1 kq l0 a1 t619 x6_2 x7_4 x8_2 x9_4 x10_4 = some r) ∧ Aside0 (kq ≤ kj15) ∧ Aside0 (Kd.R (Kd.int .i64) 3 w' w.heap.size (fun _ => True) v620 t619) ∧ Aside0 (Below w.heap.size w w'))
        case atStart => exact ⟨(x7_15), ((-1)), (0), sq, sq, sq, H', ⟨Nat.le_refl _⟩, ⟨rq HO_5.out⟩, ⟨bel⟩⟩
        case round =>
         clear H'; (try clear c1); (try clear q1); (try clear p2); (try clear c4); (try clear c5); (try clear c6); (try clear p6); (try clear q6); (try clear hx6); (try clear c10); (try clear c13); (try clear c13b0); (try clear c14); (try clear c14b0); (try clear c15); (try clear c15b0); (try clear q17); (try clear c18); (try clear hx622_0); (try clear hx622_1); (try clear p2); (try clear p6); (try clear p622); (try clear q1); (try clear q17); (try clear q6); (try clear q622); obtain ⟨x7_4, x9_4, x10_4, rfl, rfl, rfl, HA, HK4, HO_5, HB⟩ := hrel
         cases gk with
         | zero => exact absurd HA.out (by simp [spec_MachineRank.l1])
         | succ k4 =>
          have H := HA.out; clear HA
          simp only [spec_MachineRank.l1] at H
          replace H := it H; obtain ⟨c19b0, H⟩ := H
          replace H := it H; obtain ⟨c20b0, H⟩ := H
          by_cases c21 : x10_4 < (((rd_T94 l0 x6_2).f1).length : Int)
          ·rw [if_pos c21] at H; have c21b0 := decide_eq_true c21; clear c21
           replace H := it H; obtain ⟨c22b0, H⟩ := H
           replace H := it H; obtain ⟨c23b0, H⟩ := H
           replace H := it H; obtain ⟨c24b0, H⟩ := H
           by_cases c26 : ((rd_T100 ((rd_T94 l0 x6_2).f1) x10_4).f0) < (wrap64 (bt a1 x8_2))
           ·rw [if_pos c26] at H; have c26b0 := decide_eq_true c26; clear c26
            replace H := it H; obtain ⟨c27b0, H⟩ := H
            replace H := it H; obtain ⟨c28b0, H⟩ := H
            by_cases c30 : ((rd_T100 ((rd_T94 l0 x6_2).f1) x10_4).f0) = (wrap64 (bt a1 x8_2))
            ·rw [if_pos c30] at H
             have c30b0 : (((rd_T100 ((rd_T94 l0 x6_2).f1) x10_4).f0) == (wrap64 (bt a1 x8_2))) = true := beq_iff_eq.mpr c30
             have c30b1 : (((rd_T100 ((rd_T94 l0 x6_2).f1) x10_4).f0) != (wrap64 (bt a1 x8_2))) = false := bne_eq_false_iff_eq.mpr c30
             clear c30
             have H' := am H
             clear H
             have p623 : 0 ≤ (x6_2 : Int) := of_decide_eq_true ad
             have q623 : x6_2 < (l0.length : Int) := of_decide_eq_true ad
             obtain ⟨ad623, A623_1, c623_1, e623, hx623_0, hx623_1, hl623_1, hi623_1⟩ := at_T94 HR0.out x6_2 p623 q623
             obtain rfl : ad622 = ad623 := (by injection e623)
             replace hx623_0 := kp HB.out hx623_0; replace hx623_1 := kp HB.out hx623_1; have HR623_1 := am hi623_1; have HC623_1 := am hl623_1; clear hi623_1 hl623_1; replace p623 := eq_true p623; replace q623 := eq_true q623
             have p624 : 0 ≤ (x6_2 : Int) := of_decide_eq_true ad
             have q624 : x6_2 < (l0.length : Int) := of_decide_eq_true ad
             obtain ⟨ad624, A624_1, c624_1, e624, hx624_0, hx624_1, hl624_1, hi624_1⟩ := at_T94 HR0.out x6_2 p624 q624
             obtain rfl : ad622 = ad624 := (by injection e624)
             replace hx624_0 := kp HB.out hx624_0; replace hx624_1 := kp HB.out hx624_1; have HR624_1 := am hi624_1; have HC624_1 := am hl624_1; clear hi624_1 hl624_1; replace p624 := eq_true p624; replace q624 := eq_true q624; have ea_ := Option.some.inj (hx623_1.symm.trans hx624_1)
             injection ea_ with ea_ en_ ec_
             subst ea_; subst ec_; clear en_
             have p625 : 0 ≤ (x10_4 : Int) := of_decide_eq_true ad
             have q625 : x10_4 < (((rd_T94 l0 x6_2).f1).length : Int) := of_decide_eq_true ad
             obtain ⟨ad625, e625, hx625_0, hx625_1⟩ := at_T100 HR624_1.out x10_4 p625 q625
             cases e625
             replace hx625_0 := kp HB.out hx625_0; replace hx625_1 := kp HB.out hx625_1; replace p625 := eq_true p625; replace q625 := eq_true q625
             go_wp2_with (first | ((with_reducible refine gate_dst (N := 11) rfl ?_); refine bx 11 (cs := #[.int .i64 0, .int .i64 0]) (t := 100) ?_; intro gb626 hg w31 hbox hb; replace HO_5 := am (Kd.R_below (rq HO_5.out) hb); have BK626 := am (hbox); have GW626 := am ((b7_ : w.heap.size ≤ gb626)); have GE626 := am ((b7_ : w.heap.size ≤ gb626)); replace HB := am (below_step bel hb); clear hb hbox hg; have hcz32_0 := bc BK626.out 0; have hcz32_1 := bc BK626.out 1; have hfz32_0 := bf BK626.out 0; have hfz32_1 := bf BK626.out 1; have p25 : 0 ≤ (x8_2 : Int) := of_decide_eq_true ad; have q25 : x8_2 < (a1.size : Int) := of_decide_eq_true ad; have hx25 := bt_at a1 x8_2; replace p25 := eq_true p25; replace q25 := eq_true q25; obtain ⟨Ao33, co33, eo33⟩ := Kd.R_slice HO_5.out; subst eo33; have p627 : 0 ≤ (((rd_T100 ((rd_T94 l0 x6_2).f1) x10_4).f1) : Int) := of_decide_eq_true ad; have q627 : ((rd_T100 ((rd_T94 l0 x6_2).f1) x10_4).f1) < (t619.length : Int) := of_decide_eq_true ad; obtain ⟨ad627, e627, hx627_0⟩ := Kd.at_int (Kd.R_reads' HO_5.out).2.2 ((rd_T100 ((rd_T94 l0 x6_2).f1) x10_4).f1) p627 q627; cases e627; have hn627_0 : ad627.block ≠ gb626 := Kd.own_blk (Kd.R_ne HO_5.out BK626.out (by decide)); have hn627_1 : ad627.block ≠ gb626 := Kd.own_blk (Kd.R_ne HO_5.out BK626.out (by decide)); replace hx627_0 := (cell_far (p := ⟨gb626, 0, none⟩) b36_ (.int .i64 ((rd_T100 ((rd_T94 l0 x6_2).f1) x10_4).f0))).trans hx627_0; replace hx627_0 := (cell_far (p := ⟨gb626, 1, none⟩) b37_ (.int .i64 ((rd_T100 ((rd_T94 l0 x6_2).f1) x10_4).f1))).trans hx627_0; (try have hy627_0 := fun (n_ : Nat) => (show ((((w31.drewN n_).setCell ⟨gb626, 0, none⟩ (.int .i64 ((rd_T100 ((rd_T94 l0 x6_2).f1) x10_4).f0))).setCell ⟨gb626, 1, none⟩ (.int .i64 ((rd_T100 ((rd_T94 l0 x6_2).f1) x10_4).f1)))).cell? _ = some _ from hx627_0)); clear hn627_0; clear hn627_1; replace p627 := eq_true p627; replace q627 := eq_true q627; have p29 : 0 ≤ (x8_2 : Int) := of_decide_eq_true ad; have q29 : x8_2 < (a1.size : Int) := of_decide_eq_true ad; have hx29 := bt_at a1 x8_2; replace p29 := eq_true p29; replace q29 := eq_true q29))
             repeat (go_quiet (first | ((with_reducible refine gate_dst (N := 11) rfl ?_); refine bx 11 (cs := #[.int .i64 0, .int .i64 0]) (t := 100) ?_; intro gb626 hg w31 hbox hb; replace HO_5 := am (Kd.R_below (rq HO_5.out) hb); have BK626 := am (hbox); have GW626 := am ((b7_ : w.heap.size ≤ gb626)); have GE626 := am ((b7_ : w.heap.size ≤ gb626)); replace HB := am (below_step bel hb); clear hb hbox hg; have hcz32_0 := bc BK626.out 0; have hcz32_1 := bc BK626.out 1; have hfz32_0 := bf BK626.out 0; have hfz32_1 := bf BK626.out 1; have p25 : 0 ≤ (x8_2 : Int) := of_decide_eq_true ad; have q25 : x8_2 < (a1.size : Int) := of_decide_eq_true ad; have hx25 := bt_at a1 x8_2; replace p25 := eq_true p25; replace q25 := eq_true q25; obtain ⟨Ao33, co33, eo33⟩ := Kd.R_slice HO_5.out; subst eo33; have p627 : 0 ≤ (((rd_T100 ((rd_T94 l0 x6_2).f1) x10_4).f1) : Int) := of_decide_eq_true ad; have q627 : ((rd_T100 ((rd_T94 l0 x6_2).f1) x10_4).f1) < (t619.length : Int) := of_decide_eq_true ad; obtain ⟨ad627, e627, hx627_0⟩ := Kd.at_int (Kd.R_reads' HO_5.out).2.2 ((rd_T100 ((rd_T94 l0 x6_2).f1) x10_4).f1) p627 q627; cases e627; have hn627_0 : ad627.block ≠ gb626 := Kd.own_blk (Kd.R_ne HO_5.out BK626.out (by decide)); have hn627_1 : ad627.block ≠ gb626 := Kd.own_blk (Kd.R_ne HO_5.out BK626.out (by decide)); replace hx627_0 := (cell_far (p := ⟨gb626, 0, none⟩) b36_ (.int .i64 ((rd_T100 ((rd_T94 l0 x6_2).f1) x10_4).f0))).trans hx627_0; replace hx627_0 := (cell_far (p := ⟨gb626, 1, none⟩) b37_ (.int .i64 ((rd_T100 ((rd_T94 l0 x6_2).f1) x10_4).f1))).trans hx627_0; (try have hy627_0 := fun (n_ : Nat) => (show ((((w31.drewN n_).setCell ⟨gb626, 0, none⟩ (.int .i64 ((rd_T100 ((rd_T94 l0 x6_2).f1) x10_4).f0))).setCell ⟨gb626, 1, none⟩ (.int .i64 ((rd_T100 ((rd_T94 l0 x6_2).f1) x10_4).f1)))).cell? _ = some _ from hx627_0)); clear hn627_0; clear hn627_1; replace p627 := eq_true p627; replace q627 := eq_true q627; have p29 : 0 ≤ (x8_2 : Int) := of_decide_eq_true ad; have q29 : x8_2 < (a1.size : Int) := of_decide_eq_true ad; have hx29 := bt_at a1 x8_2; replace p29 := eq_true p29; replace q29 := eq_true q29)); try go_wp2_with (first | ((with_reducible refine gate_dst (N := 11) rfl ?_); refine bx 11 (cs := #[.int .i64 0, .int .i64 0]) (t := 100) ?_; intro gb626 hg w31 hbox hb; replace HO_5 := am (Kd.R_below (rq HO_5.out) hb); have BK626 := am (hbox); have GW626 := am ((b7_ : w.heap.size ≤ gb626)); have GE626 := am ((b7_ : w.heap.size ≤ gb626)); replace HB := am (below_step bel hb); clear hb hbox hg; have hcz32_0 := bc BK626.out 0; have hcz32_1 := bc BK626.out 1; have hfz32_0 := bf BK626.out 0; have hfz32_1 := bf BK626.out 1; have p25 : 0 ≤ (x8_2 : Int) := of_decide_eq_true ad; have q25 : x8_2 < (a1.size : Int) := of_decide_eq_true ad; have hx25 := bt_at a1 x8_2; replace p25 := eq_true p25; replace q25 := eq_true q25; obtain ⟨Ao33, co33, eo33⟩ := Kd.R_slice HO_5.out; subst eo33; have p627 : 0 ≤ (((rd_T100 ((rd_T94 l0 x6_2).f1) x10_4).f1) : Int) := of_decide_eq_true ad; have q627 : ((rd_T100 ((rd_T94 l0 x6_2).f1) x10_4).f1) < (t619.length : Int) := of_decide_eq_true ad; obtain ⟨ad627, e627, hx627_0⟩ := Kd.at_int (Kd.R_reads' HO_5.out).2.2 ((rd_T100 ((rd_T94 l0 x6_2).f1) x10_4).f1) p627 q627; cases e627; have hn627_0 : ad627.block ≠ gb626 := Kd.own_blk (Kd.R_ne HO_5.out BK626.out (by decide)); have hn627_1 : ad627.block ≠ gb626 := Kd.own_blk (Kd.R_ne HO_5.out BK626.out (by decide)); replace hx627_0 := (cell_far (p := ⟨gb626, 0, none⟩) b36_ (.int .i64 ((rd_T100 ((rd_T94 l0 x6_2).f1) x10_4).f0))).trans hx627_0; replace hx627_0 := (cell_far (p := ⟨gb626, 1, none⟩) b37_ (.int .i64 ((rd_T100 ((rd_T94 l0 x6_2).f1) x10_4).f1))).trans hx627_0; (try have hy627_0 := fun (n_ : Nat) => (show ((((w31.drewN n_).setCell ⟨gb626, 0, none⟩ (.int .i64 ((rd_T100 ((rd_T94 l0 x6_2).f1) x10_4).f0))).setCell ⟨gb626, 1, none⟩ (.int .i64 ((rd_T100 ((rd_T94 l0 x6_2).f1) x10_4).f1)))).cell? _ = some _ from hx627_0)); clear hn627_0; clear hn627_1; replace p627 := eq_true p627; replace q627 := eq_true q627; have p29 : 0 ≤ (x8_2 : Int) := of_decide_eq_true ad; have q29 : x8_2 < (a1.size : Int) := of_decide_eq_true ad; have hx29 := bt_at a1 x8_2; replace p29 := eq_true p29; replace q29 := eq_true q29)))
             go_roundg k4
             case measure => have := HJ2.out; have := HK2.out; have := HJ15.out; have := HK4.out; omega
             case rel => exact ⟨(wrap64 (x7_4 + (rd t619 ((rd_T100 ((rd_T94 l0 x6_2).f1) x10_4).f1)))), ((rd_T100 ((rd_T94 l0 x6_2).f1) x10_4).f1), (wrap64 (x10_4 + 1)), sq, sq, sq, H', ⟨b68_⟩, ⟨rq (Kd.R_mono (Kd.R_far (p := ⟨gb626, 1, none⟩) (Kd.R_far (p := ⟨gb626, 0, none⟩) (Kd.R_types HO_5.out BK626.out (by decide)) (fun _ hk => hk.2) (.int .i64 ((rd_T100 ((rd_T94 l0 x6_2).f1) x10_4).f0))) (fun _ hk => hk.2) (.int .i64 ((rd_T100 ((rd_T94 l0 x6_2).f1) x10_4).f1))) (fun _ hk => trivial))⟩, ⟨bel1 GE626.out⟩⟩
            rw [if_neg c30] at H
            have c30b0 : (((rd_T100 ((rd_T94 l0 x6_2).f1) x10_4).f0) == (wrap64 (bt a1 x8_2))) = false := beq_eq_false_iff_ne.mpr c30
            have c30b1 : (((rd_T100 ((rd_T94 l0 x6_2).f1) x10_4).f0) != (wrap64 (bt a1 x8_2))) = true := bne_iff_ne.mpr c30
            have H' := am H
            clear H
            have p623 : 0 ≤ (x6_2 : Int) := of_decide_eq_true ad
            have q623 : x6_2 < (l0.length : Int) := of_decide_eq_true ad
            obtain ⟨ad623, A623_1, c623_1, e623, hx623_0, hx623_1, hl623_1, hi623_1⟩ := at_T94 HR0.out x6_2 p623 q623
            obtain rfl : ad622 = ad623 := (by injection e623)
            replace hx623_0 := kp HB.out hx623_0; replace hx623_1 := kp HB.out hx623_1; have HR623_1 := am hi623_1; have HC623_1 := am hl623_1; clear hi623_1 hl623_1; replace p623 := eq_true p623; replace q623 := eq_true q623
            have p624 : 0 ≤ (x6_2 : Int) := of_decide_eq_true ad
            have q624 : x6_2 < (l0.length : Int) := of_decide_eq_true ad
            obtain ⟨ad624, A624_1, c624_1, e624, hx624_0, hx624_1, hl624_1, hi624_1⟩ := at_T94 HR0.out x6_2 p624 q624
            obtain rfl : ad622 = ad624 := (by injection e624)
            replace hx624_0 := kp HB.out hx624_0; replace hx624_1 := kp HB.out hx624_1; have HR624_1 := am hi624_1; have HC624_1 := am hl624_1; clear hi624_1 hl624_1; replace p624 := eq_true p624; replace q624 := eq_true q624; have ea_ := Option.some.inj (hx623_1.symm.trans hx624_1)
            injection ea_ with ea_ en_ ec_
            subst ea_; subst ec_; clear en_
            have p625 : 0 ≤ (x10_4 : Int) := of_decide_eq_true ad
            have q625 : x10_4 < (((rd_T94 l0 x6_2).f1).length : Int) := of_decide_eq_true ad
            obtain ⟨ad625, e625, hx625_0, hx625_1⟩ := at_T100 HR624_1.out x10_4 p625 q625
            cases e625
            replace hx625_0 := kp HB.out hx625_0; replace hx625_1 := kp HB.out hx625_1; replace p625 := eq_true p625; replace q625 := eq_true q625
            go_wp2_with (first | ((with_reducible refine gate_dst (N := 11) rfl ?_); refine bx 11 (cs := #[.int .i64 0, .int .i64 0]) (t := 100) ?_; intro gb626 hg w34 hbox hb; replace HO_5 := am (Kd.R_below (rq HO_5.out) hb); have BK626 := am (hbox); have GW626 := am ((b7_ : w.heap.size ≤ gb626)); have GE626 := am ((b7_ : w.heap.size ≤ gb626)); replace HB := am (below_step bel hb); clear hb hbox hg; have hcz35_0 := bc BK626.out 0; have hcz35_1 := bc BK626.out 1; have hfz35_0 := bf BK626.out 0; have hfz35_1 := bf BK626.out 1; have p25 : 0 ≤ (x8_2 : Int) := of_decide_eq_true ad; have q25 : x8_2 < (a1.size : Int) := of_decide_eq_true ad; have hx25 := bt_at a1 x8_2; replace p25 := eq_true p25; replace q25 := eq_true q25; obtain ⟨Ao36, co36, eo36⟩ := Kd.R_slice HO_5.out; subst eo36; have p627 : 0 ≤ (((rd_T100 ((rd_T94 l0 x6_2).f1) x10_4).f1) : Int) := of_decide_eq_true ad; have q627 : ((rd_T100 ((rd_T94 l0 x6_2).f1) x10_4).f1) < (t619.length : Int) := of_decide_eq_true ad; obtain ⟨ad627, e627, hx627_0⟩ := Kd.at_int (Kd.R_reads' HO_5.out).2.2 ((rd_T100 ((rd_T94 l0 x6_2).f1) x10_4).f1) p627 q627; cases e627; have hn627_0 : ad627.block ≠ gb626 := Kd.own_blk (Kd.R_ne HO_5.out BK626.out (by decide)); have hn627_1 : ad627.block ≠ gb626 := Kd.own_blk (Kd.R_ne HO_5.out BK626.out (by decide)); replace hx627_0 := (cell_far (p := ⟨gb626, 0, none⟩) b36_ (.int .i64 ((rd_T100 ((rd_T94 l0 x6_2).f1) x10_4).f0))).trans hx627_0; replace hx627_0 := (cell_far (p := ⟨gb626, 1, none⟩) b37_ (.int .i64 ((rd_T100 ((rd_T94 l0 x6_2).f1) x10_4).f1))).trans hx627_0; (try have hy627_0 := fun (n_ : Nat) => (show ((((w34.drewN n_).setCell ⟨gb626, 0, none⟩ (.int .i64 ((rd_T100 ((rd_T94 l0 x6_2).f1) x10_4).f0))).setCell ⟨gb626, 1, none⟩ (.int .i64 ((rd_T100 ((rd_T94 l0 x6_2).f1) x10_4).f1)))).cell? _ = some _ from hx627_0)); clear hn627_0; clear hn627_1; replace p627 := eq_true p627; replace q627 := eq_true q627; have p29 : 0 ≤ (x8_2 : Int) := of_decide_eq_true ad; have q29 : x8_2 < (a1.size : Int) := of_decide_eq_true ad; have hx29 := bt_at a1 x8_2; replace p29 := eq_true p29; replace q29 := eq_true q29))
            repeat (go_quiet (first | ((with_reducible refine gate_dst (N := 11) rfl ?_); refine bx 11 (cs := #[.int .i64 0, .int .i64 0]) (t := 100) ?_; intro gb626 hg w34 hbox hb; replace HO_5 := am (Kd.R_below (rq HO_5.out) hb); have BK626 := am (hbox); have GW626 := am ((b7_ : w.heap.size ≤ gb626)); have GE626 := am ((b7_ : w.heap.size ≤ gb626)); replace HB := am (below_step bel hb); clear hb hbox hg; have hcz35_0 := bc BK626.out 0; have hcz35_1 := bc BK626.out 1; have hfz35_0 := bf BK626.out 0; have hfz35_1 := bf BK626.out 1; have p25 : 0 ≤ (x8_2 : Int) := of_decide_eq_true ad; have q25 : x8_2 < (a1.size : Int) := of_decide_eq_true ad; have hx25 := bt_at a1 x8_2; replace p25 := eq_true p25; replace q25 := eq_true q25; obtain ⟨Ao36, co36, eo36⟩ := Kd.R_slice HO_5.out; subst eo36; have p627 : 0 ≤ (((rd_T100 ((rd_T94 l0 x6_2).f1) x10_4).f1) : Int) := of_decide_eq_true ad; have q627 : ((rd_T100 ((rd_T94 l0 x6_2).f1) x10_4).f1) < (t619.length : Int) := of_decide_eq_true ad; obtain ⟨ad627, e627, hx627_0⟩ := Kd.at_int (Kd.R_reads' HO_5.out).2.2 ((rd_T100 ((rd_T94 l0 x6_2).f1) x10_4).f1) p627 q627; cases e627; have hn627_0 : ad627.block ≠ gb626 := Kd.own_blk (Kd.R_ne HO_5.out BK626.out (by decide)); have hn627_1 : ad627.block ≠ gb626 := Kd.own_blk (Kd.R_ne HO_5.out BK626.out (by decide)); replace hx627_0 := (cell_far (p := ⟨gb626, 0, none⟩) b36_ (.int .i64 ((rd_T100 ((rd_T94 l0 x6_2).f1) x10_4).f0))).trans hx627_0; replace hx627_0 := (cell_far (p := ⟨gb626, 1, none⟩) b37_ (.int .i64 ((rd_T100 ((rd_T94 l0 x6_2).f1) x10_4).f1))).trans hx627_0; (try have hy627_0 := fun (n_ : Nat) => (show ((((w34.drewN n_).setCell ⟨gb626, 0, none⟩ (.int .i64 ((rd_T100 ((rd_T94 l0 x6_2).f1) x10_4).f0))).setCell ⟨gb626, 1, none⟩ (.int .i64 ((rd_T100 ((rd_T94 l0 x6_2).f1) x10_4).f1)))).cell? _ = some _ from hx627_0)); clear hn627_0; clear hn627_1; replace p627 := eq_true p627; replace q627 := eq_true q627; have p29 : 0 ≤ (x8_2 : Int) := of_decide_eq_true ad; have q29 : x8_2 < (a1.size : Int) := of_decide_eq_true ad; have hx29 := bt_at a1 x8_2; replace p29 := eq_true p29; replace q29 := eq_true q29)); try go_wp2_with (first | ((with_reducible refine gate_dst (N := 11) rfl ?_); refine bx 11 (cs := #[.int .i64 0, .int .i64 0]) (t := 100) ?_; intro gb626 hg w34 hbox hb; replace HO_5 := am (Kd.R_below (rq HO_5.out) hb); have BK626 := am (hbox); have GW626 := am ((b7_ : w.heap.size ≤ gb626)); have GE626 := am ((b7_ : w.heap.size ≤ gb626)); replace HB := am (below_step bel hb); clear hb hbox hg; have hcz35_0 := bc BK626.out 0; have hcz35_1 := bc BK626.out 1; have hfz35_0 := bf BK626.out 0; have hfz35_1 := bf BK626.out 1; have p25 : 0 ≤ (x8_2 : Int) := of_decide_eq_true ad; have q25 : x8_2 < (a1.size : Int) := of_decide_eq_true ad; have hx25 := bt_at a1 x8_2; replace p25 := eq_true p25; replace q25 := eq_true q25; obtain ⟨Ao36, co36, eo36⟩ := Kd.R_slice HO_5.out; subst eo36; have p627 : 0 ≤ (((rd_T100 ((rd_T94 l0 x6_2).f1) x10_4).f1) : Int) := of_decide_eq_true ad; have q627 : ((rd_T100 ((rd_T94 l0 x6_2).f1) x10_4).f1) < (t619.length : Int) := of_decide_eq_true ad; obtain ⟨ad627, e627, hx627_0⟩ := Kd.at_int (Kd.R_reads' HO_5.out).2.2 ((rd_T100 ((rd_T94 l0 x6_2).f1) x10_4).f1) p627 q627; cases e627; have hn627_0 : ad627.block ≠ gb626 := Kd.own_blk (Kd.R_ne HO_5.out BK626.out (by decide)); have hn627_1 : ad627.block ≠ gb626 := Kd.own_blk (Kd.R_ne HO_5.out BK626.out (by decide)); replace hx627_0 := (cell_far (p := ⟨gb626, 0, none⟩) b36_ (.int .i64 ((rd_T100 ((rd_T94 l0 x6_2).f1) x10_4).f0))).trans hx627_0; replace hx627_0 := (cell_far (p := ⟨gb626, 1, none⟩) b37_ (.int .i64 ((rd_T100 ((rd_T94 l0 x6_2).f1) x10_4).f1))).trans hx627_0; (try have hy627_0 := fun (n_ : Nat) => (show ((((w34.drewN n_).setCell ⟨gb626, 0, none⟩ (.int .i64 ((rd_T100 ((rd_T94 l0 x6_2).f1) x10_4).f0))).setCell ⟨gb626, 1, none⟩ (.int .i64 ((rd_T100 ((rd_T94 l0 x6_2).f1) x10_4).f1)))).cell? _ = some _ from hx627_0)); clear hn627_0; clear hn627_1; replace p627 := eq_true p627; replace q627 := eq_true q627; have p29 : 0 ≤ (x8_2 : Int) := of_decide_eq_true ad; have q29 : x8_2 < (a1.size : Int) := of_decide_eq_true ad; have hx29 := bt_at a1 x8_2; replace p29 := eq_true p29; replace q29 := eq_true q29)))
            go_roundg k4
            case measure => have := HJ2.out; have := HK2.out; have := HJ15.out; have := HK4.out; omega
            case rel => exact ⟨(wrap64 (x7_4 + (rd t619 ((rd_T100 ((rd_T94 l0 x6_2).f1) x10_4).f1)))), (x9_4), (wrap64 (x10_4 + 1)), sq, sq, sq, H', ⟨b68_⟩, ⟨rq (Kd.R_mono (Kd.R_far (p := ⟨gb626, 1, none⟩) (Kd.R_far (p := ⟨gb626, 0, none⟩) (Kd.R_types HO_5.out BK626.out (by decide)) (fun _ hk => hk.2) (.int .i64 ((rd_T100 ((rd_T94 l0 x6_2).f1) x10_4).f0))) (fun _ hk => hk.2) (.int .i64 ((rd_T100 ((rd_T94 l0 x6_2).f1) x10_4).f1))) (fun _ hk => trivial))⟩, ⟨bel1 GE626.out⟩⟩
           rw [if_neg c26] at H; have c26b0 := decide_eq_false c26; clear c26
           by_cases c38 : ((rd_T100 ((rd_T94 l0 x6_2).f1) x10_4).f0) = (wrap64 (bt a1 x8_2))
           ·rw [if_pos c38] at H
            have c38b0 : (((rd_T100 ((rd_T94 l0 x6_2).f1) x10_4).f0) == (wrap64 (bt a1 x8_2))) = true := beq_iff_eq.mpr c38
            have c38b1 : (((rd_T100 ((rd_T94 l0 x6_2).f1) x10_4).f0) != (wrap64 (bt a1 x8_2))) = false := bne_eq_false_iff_eq.mpr c38
            clear c38
            have H' := am H
            clear H
            have p623 : 0 ≤ (x6_2 : Int) := of_decide_eq_true ad
            have q623 : x6_2 < (l0.length : Int) := of_decide_eq_true ad
            obtain ⟨ad623, A623_1, c623_1, e623, hx623_0, hx623_1, hl623_1, hi623_1⟩ := at_T94 HR0.out x6_2 p623 q623
            obtain rfl : ad622 = ad623 := (by injection e623)
            replace hx623_0 := kp HB.out hx623_0; replace hx623_1 := kp HB.out hx623_1; have HR623_1 := am hi623_1; have HC623_1 := am hl623_1; clear hi623_1 hl623_1; replace p623 := eq_true p623; replace q623 := eq_true q623
            have p624 : 0 ≤ (x6_2 : Int) := of_decide_eq_true ad
            have q624 : x6_2 < (l0.length : Int) := of_decide_eq_true ad
            obtain ⟨ad624, A624_1, c624_1, e624, hx624_0, hx624_1, hl624_1, hi624_1⟩ := at_T94 HR0.out x6_2 p624 q624
            obtain rfl : ad622 = ad624 := (by injection e624)
            replace hx624_0 := kp HB.out hx624_0; replace hx624_1 := kp HB.out hx624_1; have HR624_1 := am hi624_1; have HC624_1 := am hl624_1; clear hi624_1 hl624_1; replace p624 := eq_true p624; replace q624 := eq_true q624; have ea_ := Option.some.inj (hx623_1.symm.trans hx624_1)
            injection ea_ with ea_ en_ ec_
            subst ea_; subst ec_; clear en_
            have p625 : 0 ≤ (x10_4 : Int) := of_decide_eq_true ad
            have q625 : x10_4 < (((rd_T94 l0 x6_2).f1).length : Int) := of_decide_eq_true ad
            obtain ⟨ad625, e625, hx625_0, hx625_1⟩ := at_T100 HR624_1.out x10_4 p625 q625
            cases e625
            replace hx625_0 := kp HB.out hx625_0; replace hx625_1 := kp HB.out hx625_1; replace p625 := eq_true p625; replace q625 := eq_true q625
            go_wp2_with (first | ((with_reducible refine gate_dst (N := 11) rfl ?_); refine bx 11 (cs := #[.int .i64 0, .int .i64 0]) (t := 100) ?_; intro gb626 hg w39 hbox hb; replace HO_5 := am (Kd.R_below (rq HO_5.out) hb); have BK626 := am (hbox); have GW626 := am ((b7_ : w.heap.size ≤ gb626)); have GE626 := am ((b7_ : w.heap.size ≤ gb626)); replace HB := am (below_step bel hb); clear hb hbox hg; have hcz40_0 := bc BK626.out 0; have hcz40_1 := bc BK626.out 1; have hfz40_0 := bf BK626.out 0; have hfz40_1 := bf BK626.out 1; have p25 : 0 ≤ (x8_2 : Int) := of_decide_eq_true ad; have q25 : x8_2 < (a1.size : Int) := of_decide_eq_true ad; have hx25 := bt_at a1 x8_2; replace p25 := eq_true p25; replace q25 := eq_true q25; have p37 : 0 ≤ (x8_2 : Int) := of_decide_eq_true ad; have q37 : x8_2 < (a1.size : Int) := of_decide_eq_true ad; have hx37 := bt_at a1 x8_2; replace p37 := eq_true p37; replace q37 := eq_true q37))
            repeat (go_quiet (first | ((with_reducible refine gate_dst (N := 11) rfl ?_); refine bx 11 (cs := #[.int .i64 0, .int .i64 0]) (t := 100) ?_; intro gb626 hg w39 hbox hb; replace HO_5 := am (Kd.R_below (rq HO_5.out) hb); have BK626 := am (hbox); have GW626 := am ((b7_ : w.heap.size ≤ gb626)); have GE626 := am ((b7_ : w.heap.size ≤ gb626)); replace HB := am (below_step bel hb); clear hb hbox hg; have hcz40_0 := bc BK626.out 0; have hcz40_1 := bc BK626.out 1; have hfz40_0 := bf BK626.out 0; have hfz40_1 := bf BK626.out 1; have p25 : 0 ≤ (x8_2 : Int) := of_decide_eq_true ad; have q25 : x8_2 < (a1.size : Int) := of_decide_eq_true ad; have hx25 := bt_at a1 x8_2; replace p25 := eq_true p25; replace q25 := eq_true q25; have p37 : 0 ≤ (x8_2 : Int) := of_decide_eq_true ad; have q37 : x8_2 < (a1.size : Int) := of_decide_eq_true ad; have hx37 := bt_at a1 x8_2; replace p37 := eq_true p37; replace q37 := eq_true q37)); try go_wp2_with (first | ((with_reducible refine gate_dst (N := 11) rfl ?_); refine bx 11 (cs := #[.int .i64 0, .int .i64 0]) (t := 100) ?_; intro gb626 hg w39 hbox hb; replace HO_5 := am (Kd.R_below (rq HO_5.out) hb); have BK626 := am (hbox); have GW626 := am ((b7_ : w.heap.size ≤ gb626)); have GE626 := am ((b7_ : w.heap.size ≤ gb626)); replace HB := am (below_step bel hb); clear hb hbox hg; have hcz40_0 := bc BK626.out 0; have hcz40_1 := bc BK626.out 1; have hfz40_0 := bf BK626.out 0; have hfz40_1 := bf BK626.out 1; have p25 : 0 ≤ (x8_2 : Int) := of_decide_eq_true ad; have q25 : x8_2 < (a1.size : Int) := of_decide_eq_true ad; have hx25 := bt_at a1 x8_2; replace p25 := eq_true p25; replace q25 := eq_true q25; have p37 : 0 ≤ (x8_2 : Int) := of_decide_eq_true ad; have q37 : x8_2 < (a1.size : Int) := of_decide_eq_true ad; have hx37 := bt_at a1 x8_2; replace p37 := eq_true p37; replace q37 := eq_true q37)))
            go_roundg k4
            case measure => have := HJ2.out; have := HK2.out; have := HJ15.out; have := HK4.out; omega
            case rel => exact ⟨(x7_4), ((rd_T100 ((rd_T94 l0 x6_2).f1) x10_4).f1), (wrap64 (x10_4 + 1)), sq, sq, sq, H', ⟨b68_⟩, ⟨rq (Kd.R_mono (Kd.R_far (p := ⟨gb626, 1, none⟩) (Kd.R_far (p := ⟨gb626, 0, none⟩) (Kd.R_types HO_5.out BK626.out (by decide)) (fun _ hk => hk.2) (.int .i64 ((rd_T100 ((rd_T94 l0 x6_2).f1) x10_4).f0))) (fun _ hk => hk.2) (.int .i64 ((rd_T100 ((rd_T94 l0 x6_2).f1) x10_4).f1))) (fun _ hk => trivial))⟩, ⟨bel1 GE626.out⟩⟩
           rw [if_neg c38] at H
           have c38b0 : (((rd_T100 ((rd_T94 l0 x6_2).f1) x10_4).f0) == (wrap64 (bt a1 x8_2))) = false := beq_eq_false_iff_ne.mpr c38
           have c38b1 : (((rd_T100 ((rd_T94 l0 x6_2).f1) x10_4).f0) != (wrap64 (bt a1 x8_2))) = true := bne_iff_ne.mpr c38
           have H' := am H
           clear H
           have p623 : 0 ≤ (x6_2 : Int) := of_decide_eq_true ad
           have q623 : x6_2 < (l0.length : Int) := of_decide_eq_true ad
           obtain ⟨ad623, A623_1, c623_1, e623, hx623_0, hx623_1, hl623_1, hi623_1⟩ := at_T94 HR0.out x6_2 p623 q623
           obtain rfl : ad622 = ad623 := (by injection e623)
           replace hx623_0 := kp HB.out hx623_0; replace hx623_1 := kp HB.out hx623_1; have HR623_1 := am hi623_1; have HC623_1 := am hl623_1; clear hi623_1 hl623_1; replace p623 := eq_true p623; replace q623 := eq_true q623
           have p624 : 0 ≤ (x6_2 : Int) := of_decide_eq_true ad
           have q624 : x6_2 < (l0.length : Int) := of_decide_eq_true ad
           obtain ⟨ad624, A624_1, c624_1, e624, hx624_0, hx624_1, hl624_1, hi624_1⟩ := at_T94 HR0.out x6_2 p624 q624
           obtain rfl : ad622 = ad624 := (by injection e624)
           replace hx624_0 := kp HB.out hx624_0; replace hx624_1 := kp HB.out hx624_1; have HR624_1 := am hi624_1; have HC624_1 := am hl624_1; clear hi624_1 hl624_1; replace p624 := eq_true p624; replace q624 := eq_true q624; have ea_ := Option.some.inj (hx623_1.symm.trans hx624_1)
           injection ea_ with ea_ en_ ec_
           subst ea_; subst ec_; clear en_
           have p625 : 0 ≤ (x10_4 : Int) := of_decide_eq_true ad
           have q625 : x10_4 < (((rd_T94 l0 x6_2).f1).length : Int) := of_decide_eq_true ad
           obtain ⟨ad625, e625, hx625_0, hx625_1⟩ := at_T100 HR624_1.out x10_4 p625 q625
           cases e625
           replace hx625_0 := kp HB.out hx625_0; replace hx625_1 := kp HB.out hx625_1; replace p625 := eq_true p625; replace q625 := eq_true q625
           go_wp2_with (first | ((with_reducible refine gate_dst (N := 11) rfl ?_); refine bx 11 (cs := #[.int .i64 0, .int .i64 0]) (t := 100) ?_; intro gb626 hg w41 hbox hb; replace HO_5 := am (Kd.R_below (rq HO_5.out) hb); have BK626 := am (hbox); have GW626 := am ((b7_ : w.heap.size ≤ gb626)); have GE626 := am ((b7_ : w.heap.size ≤ gb626)); replace HB := am (below_step bel hb); clear hb hbox hg; have hcz42_0 := bc BK626.out 0; have hcz42_1 := bc BK626.out 1; have hfz42_0 := bf BK626.out 0; have hfz42_1 := bf BK626.out 1; have p25 : 0 ≤ (x8_2 : Int) := of_decide_eq_true ad; have q25 : x8_2 < (a1.size : Int) := of_decide_eq_true ad; have hx25 := bt_at a1 x8_2; replace p25 := eq_true p25; replace q25 := eq_true q25; have p37 : 0 ≤ (x8_2 : Int) := of_decide_eq_true ad; have q37 : x8_2 < (a1.size : Int) := of_decide_eq_true ad; have hx37 := bt_at a1 x8_2; replace p37 := eq_true p37; replace q37 := eq_true q37))
           repeat (go_quiet (first | ((with_reducible refine gate_dst (N := 11) rfl ?_); refine bx 11 (cs := #[.int .i64 0, .int .i64 0]) (t := 100) ?_; intro gb626 hg w41 hbox hb; replace HO_5 := am (Kd.R_below (rq HO_5.out) hb); have BK626 := am (hbox); have GW626 := am ((b7_ : w.heap.size ≤ gb626)); have GE626 := am ((b7_ : w.heap.size ≤ gb626)); replace HB := am (below_step bel hb); clear hb hbox hg; have hcz42_0 := bc BK626.out 0; have hcz42_1 := bc BK626.out 1; have hfz42_0 := bf BK626.out 0; have hfz42_1 := bf BK626.out 1; have p25 : 0 ≤ (x8_2 : Int) := of_decide_eq_true ad; have q25 : x8_2 < (a1.size : Int) := of_decide_eq_true ad; have hx25 := bt_at a1 x8_2; replace p25 := eq_true p25; replace q25 := eq_true q25; have p37 : 0 ≤ (x8_2 : Int) := of_decide_eq_true ad; have q37 : x8_2 < (a1.size : Int) := of_decide_eq_true ad; have hx37 := bt_at a1 x8_2; replace p37 := eq_true p37; replace q37 := eq_true q37)); try go_wp2_with (first | ((with_reducible refine gate_dst (N := 11) rfl ?_); refine bx 11 (cs := #[.int .i64 0, .int .i64 0]) (t := 100) ?_; intro gb626 hg w41 hbox hb; replace HO_5 := am (Kd.R_below (rq HO_5.out) hb); have BK626 := am (hbox); have GW626 := am ((b7_ : w.heap.size ≤ gb626)); have GE626 := am ((b7_ : w.heap.size ≤ gb626)); replace HB := am (below_step bel hb); clear hb hbox hg; have hcz42_0 := bc BK626.out 0; have hcz42_1 := bc BK626.out 1; have hfz42_0 := bf BK626.out 0; have hfz42_1 := bf BK626.out 1; have p25 : 0 ≤ (x8_2 : Int) := of_decide_eq_true ad; have q25 : x8_2 < (a1.size : Int) := of_decide_eq_true ad; have hx25 := bt_at a1 x8_2; replace p25 := eq_true p25; replace q25 := eq_true q25; have p37 : 0 ≤ (x8_2 : Int) := of_decide_eq_true ad; have q37 : x8_2 < (a1.size : Int) := of_decide_eq_true ad; have hx37 := bt_at a1 x8_2; replace p37 := eq_true p37; replace q37 := eq_true q37)))
           go_roundg k4
           case measure => have := HJ2.out; have := HK2.out; have := HJ15.out; have := HK4.out; omega
           case rel => exact ⟨(x7_4), (x9_4), (wrap64 (x10_4 + 1)), sq, sq, sq, H', ⟨b68_⟩, ⟨rq (Kd.R_mono (Kd.R_far (p := ⟨gb626, 1, none⟩) (Kd.R_far (p := ⟨gb626, 0, none⟩) (Kd.R_types HO_5.out BK626.out (by decide)) (fun _ hk => hk.2) (.int .i64 ((rd_T100 ((rd_T94 l0 x6_2).f1) x10_4).f0))) (fun _ hk => hk.2) (.int .i64 ((rd_T100 ((rd_T94 l0 x6_2).f1) x10_4).f1))) (fun _ hk => trivial))⟩, ⟨bel1 GE626.out⟩⟩
          rw [if_neg c21] at H; have c21b0 := decide_eq_false c21; clear c21
          have H' := am H
          clear H
          have p623 : 0 ≤ (x6_2 : Int) := of_decide_eq_true ad
          have q623 : x6_2 < (l0.length : Int) := of_decide_eq_true ad
          obtain ⟨ad623, A623_1, c623_1, e623, hx623_0, hx623_1, hl623_1, hi623_1⟩ := at_T94 HR0.out x6_2 p623 q623
          obtain rfl : ad622 = ad623 := (by injection e623)
          replace hx623_0 := kp HB.out hx623_0; replace hx623_1 := kp HB.out hx623_1; have HR623_1 := am hi623_1; have HC623_1 := am hl623_1; clear hi623_1 hl623_1; replace p623 := eq_true p623; replace q623 := eq_true q623; go_wp2
          repeat (go_quiet (fail); try go_wp2)
          go_roundg k4
          case measure => have := HJ2.out; have := HK2.out; have := HJ15.out; have := HK4.out; omega
          case rel => exact ⟨(x9_4), (x7_4), (wrap64 (x8_2 + 1)), sq, sq, sq, H', ⟨b68_⟩, ⟨rq HO_5.out⟩, ⟨bel⟩⟩
     rw [if_neg c13] at H; have c13b0 := decide_eq_false c13; clear c13; obtain rfl := Option.some.inj H; go_wp2
     repeat (go_quiet (fail); try go_wp2)
     go_ret
     exact ⟨eq_, bel⟩

/-! ### laws_FnMachineRank: function 9 -/
def laws_FnMachineRank.j0 : Nat → List (S94) → ByteArray → Int → Bool → Option (Bool)
 | 0, _, _, _, _ => none
 | k + 1, x3, x4, x5, x25 => if x25 = true then ((spec_MachineRank.f k x3 x4).bind fun t634 => (some (x5 == t634))) else ((impl_MachineWord.f k x3 x5).bind fun t635 => (if t635.toList = x4.toList then ((impl_MachineCount.f k x3).bind fun t636 => (if x5 < t636 then (if x5 = 0 then (some true) else ((impl_MachineWord.f k x3 (wrap64 (x5 - 1))).bind fun t637 => (some (Op.bytesLess t637.toList x4.toList)))) else (some false))) else (some false)))
def laws_FnMachineRank.f (k : Nat) (l0 : List Int) : Option (Bool) := if (l0.length : Int) > 1048576 then (some true) else ((spec_DrawMachineRank.f k l0).bind fun bt628 => ((impl_MachineRank.f k bt628.1 bt628.2).bind fun t632 => ((spec_MachineRank.f k bt628.1 bt628.2).bind fun t633 => (if t632 = t633 then (laws_FnMachineRank.j0 k bt628.1 bt628.2 t632 (decide (t632 < 0))) else (laws_FnMachineRank.j0 k bt628.1 bt628.2 t632 true)))))
theorem laws_FnMachineRank.calls (k : Nat) (A0 : Option Addr) (c0 : Nat) (l0 : List Int) (r : Bool) (w : World) (hr0 : Kd.C (Kd.int .u8) w A0 l0.length l0) (hc0 : l0.length ≤ c0) (h : laws_FnMachineRank.f k l0 = some r) :
  Calls Try.prog 9 #[.slice A0 l0.length c0] w fun e w' => e = .returned (.bool r) ∧ Below w.heap.size w w' := by
 have HR0 := am hr0; have HC0 := am hc0; clear hr0 hc0; have HB := am (Below.refl w.heap.size w)
 have H : (if (l0.length : Int) > 1048576 then (some true) else ((spec_DrawMachineRank.f k l0).bind fun bt628 => ((impl_MachineRank.f k bt628.1 bt628.2).bind fun t632 => ((spec_MachineRank.f k bt628.1 bt628.2).bind fun t633 => (if t632 = t633 then (laws_FnMachineRank.j0 k bt628.1 bt628.2 t632 (decide (t632 < 0))) else (laws_FnMachineRank.j0 k bt628.1 bt628.2 t632 true)))))) = some r := h
 clear h
 by_cases c2 : (l0.length : Int) > 1048576
 ·rw [if_pos c2] at H; have c2b0 := decide_eq_true c2
  have c2b1 : decide (1048576 < l0.length) = true := decide_eq_true (by omega)
  clear c2; obtain rfl := Option.some.inj H; go_enter Try.func9, Try.ntmps9; go_wp2; go_ret
  exact ⟨eq_, bel⟩
 rw [if_neg c2] at H; have c2b0 := decide_eq_false c2
 have c2b1 : decide (1048576 < l0.length) = false := decide_eq_false (by omega)
 clear c2; replace H := bs H; obtain ⟨⟨t628, t629⟩, A30, H⟩ := H; replace H : ((impl_MachineRank.f k t628 t629).bind fun t632 => ((spec_MachineRank.f k t628 t629).bind fun t633 => (if t632 = t633 then (laws_FnMachineRank.j0 k t628 t629 t632 (decide (t632 < 0))) else (laws_FnMachineRank.j0 k t628 t629 t632 true)))) = some r := H; have A3 := Aside0.mk A30; clear A30; replace H := bs H; obtain ⟨t632, A40, H⟩ := H; replace H : ((spec_MachineRank.f k t628 t629).bind fun t633 => (if t632 = t633 then (laws_FnMachineRank.j0 k t628 t629 t632 (decide (t632 < 0))) else (laws_FnMachineRank.j0 k t628 t629 t632 true))) = some r := H; have A4 := Aside0.mk A40; clear A40; have HC5 := am H; clear H; go_enter Try.func9, Try.ntmps9
 go_upto_region 5 with (first | ((with_reducible refine gate_callee (f := 45) rfl ?_); refine goesL_ (some 11) rfl rfl Try.func45 (by kernel_rfl) rfl #[.slice A0 l0.length c0] rfl mq ?_; (with_reducible refine (spec_DrawMachineRank.calls k _ _ l0 t628 t629 _ ?side1 ?side2 A3.out).mono ?_); (case side1 => repeat (first | exact HR0.out | (with_reducible refine Kd.C_alloc ?_ _) | (with_reducible refine Kd.C_drewN ?_ _) | (with_reducible refine Kd.C_drew ?_))); (case side2 => exact HC0.out); rintro e w6 ⟨v630, rfl, ho0, hb⟩; refine ⟨_, rfl, ?_⟩; have HO631 := am (Kd.S_lower ho0 (below_size bel)); replace HB := am (below_step bel hb); (try clear hb); (try clear hb2); (try clear hk); (try clear hi); (try clear ho0); obtain ⟨Ao7, co7, eo7⟩ := Kd.S_slice HO631.out; subst eo7) | ((with_reducible refine gate_callee (f := 41) rfl ?_); refine goesL_ (some 16) rfl rfl Try.func41 (by kernel_rfl) rfl #[.slice Ao7 t628.length co7, .string t629] rfl mq ?_; (with_reducible refine (impl_MachineRank.calls k _ _ t628 t629 t632 _ ?side1 ?side2 A4.out).mono ?_); (case side1 => exact cq (Kd.S_reads' HO631.out).2.2); (case side2 => exact (Kd.S_reads' HO631.out).2.1); rintro e w8 ⟨rfl, hb⟩; refine ⟨_, rfl, ?_⟩; replace HO631 := am (Kd.S_below b55_ hb); replace HB := am (below_step bel hb); (try clear hb); (try clear hb2); (try clear hk); (try clear hi)))
 (try simp only [Act.put, List.setIfInBounds_toArray, List.set_cons_zero, List.set_cons_succ])
 go_cut [25] (fun v25 wc => ∃ (kq : Nat) (x25_4 : Bool), v25 = .bool x25_4 ∧ Aside0 (laws_FnMachineRank.j0 kq t628 t629 t632 x25_4 = some r) ∧ Aside0 (kq ≤ k) ∧ Aside0 (Kd.S k94 94 wc w.heap.size (fun _ => True) (.slice Ao7 t628.length co7) t628) ∧ Aside0 (Below w.heap.size w wc))
 case first =>
  have H := HC5.out; clear HC5; replace H := bs H; obtain ⟨t633, A90, H⟩ := H; replace H : (if t632 = t633 then (laws_FnMachineRank.j0 k t628 t629 t632 (decide (t632 < 0))) else (laws_FnMachineRank.j0 k t628 t629 t632 true)) = some r := H; have A9 := Aside0.mk A90; clear A90
  by_cases c10 : t632 = t633
  ·rw [if_pos c10] at H
   have c10b0 : (t632 == t633) = true := beq_iff_eq.mpr c10
   have c10b1 : (t632 != t633) = false := bne_eq_false_iff_eq.mpr c10
   clear c10
   (first | rw [c10b0] | (simp only [i64_w, i32_w]; rw [c10b0]) | skip)
   have H' := am H
   clear H
   go_wp2_with (first | ((with_reducible refine gate_callee (f := 46) rfl ?_); refine goesL_ (some 20) rfl rfl Try.func46 (by kernel_rfl) rfl #[.slice Ao7 t628.length co7, .string t629] rfl mq ?_; (with_reducible refine (spec_MachineRank.calls k _ _ t628 t629 t633 _ ?side1 ?side2 A9.out).mono ?_); (case side1 => exact cq (Kd.S_reads' HO631.out).2.2); (case side2 => exact (Kd.S_reads' HO631.out).2.1); rintro e w11 ⟨rfl, hb⟩; refine ⟨_, rfl, ?_⟩; replace HO631 := am (Kd.S_below b55_ hb); replace HB := am (below_step bel hb); (try clear hb); (try clear hb2); (try clear hk); (try clear hi)))
   go_meet
   case rel => exact ⟨_, (decide (t632 < 0)), sq, H', ⟨b59_⟩, ⟨b55_⟩, ⟨bel⟩⟩
  rw [if_neg c10] at H
  have c10b0 : (t632 == t633) = false := beq_eq_false_iff_ne.mpr c10
  have c10b1 : (t632 != t633) = true := bne_iff_ne.mpr c10
  (first | rw [c10b0] | (simp only [i64_w, i32_w]; rw [c10b0]) | skip)
  have H' := am H
  clear H
  go_wp2_with (first | ((with_reducible refine gate_callee (f := 46) rfl ?_); refine goesL_ (some 20) rfl rfl Try.func46 (by kernel_rfl) rfl #[.slice Ao7 t628.length co7, .string t629] rfl mq ?_; (with_reducible refine (spec_MachineRank.calls k _ _ t628 t629 t633 _ ?side1 ?side2 A9.out).mono ?_); (case side1 => exact cq (Kd.S_reads' HO631.out).2.2); (case side2 => exact (Kd.S_reads' HO631.out).2.1); rintro e w12 ⟨rfl, hb⟩; refine ⟨_, rfl, ?_⟩; replace HO631 := am (Kd.S_below b55_ hb); replace HB := am (below_step bel hb); (try clear hb); (try clear hb2); (try clear hk); (try clear hi)))
  go_meet
  case rel => exact ⟨_, (true), sq, H', ⟨b59_⟩, ⟨b55_⟩, ⟨bel⟩⟩
 case rest =>
  clear HC5; (try clear c1); (try clear c2); (try clear c2b0); (try clear c2b1); (try clear p2); (try clear c4); (try clear c9); (try clear c10); (try clear c10b0); (try clear c10b1); obtain ⟨kq, x25_4, rfl, HA, HJ4, HO_3, HB⟩ := hcut
  cases kq with
  | zero => exact absurd HA.out (by simp [laws_FnMachineRank.j0])
  | succ kj4 =>
   have H := HA.out; clear HA
   simp only [laws_FnMachineRank.j0] at H
   by_cases c13 : x25_4 = true
   ·subst c13
    have H1 : ((spec_MachineRank.f kj4 t628 t629).bind fun t634 => (some (t632 == t634))) = some r := b21_
    replace H := H1; clear H1
    replace H := bs H; obtain ⟨t634, A140, H⟩ := H; replace H : (some (t632 == t634)) = some r := H; have A14 := Aside0.mk A140; clear A140; obtain rfl := Option.some.inj H
    go_wp2_with (first | ((with_reducible refine gate_callee (f := 46) rfl ?_); refine goesL_ (some 29) rfl rfl Try.func46 (by kernel_rfl) rfl #[.slice Ao7 t628.length co7, .string t629] rfl mq ?_; (with_reducible refine (spec_MachineRank.calls kj4 _ _ t628 t629 t634 _ ?side1 ?side2 A14.out).mono ?_); (case side1 => exact cq (Kd.S_reads' HO_3.out).2.2); (case side2 => exact (Kd.S_reads' HO_3.out).2.1); rintro e w15 ⟨rfl, hb⟩; refine ⟨_, rfl, ?_⟩; replace HO_3 := am (Kd.S_below b28_ hb); replace HB := am (below_step bel hb); (try clear hb); (try clear hb2); (try clear hk); (try clear hi)))
    go_ret
    exact ⟨eq_, bel⟩
   replace c13 := Bool.eq_false_iff.mpr c13; subst c13
   have H1 : ((impl_MachineWord.f kj4 t628 t632).bind fun t635 => (if t635.toList = t629.toList then ((impl_MachineCount.f kj4 t628).bind fun t636 => (if t632 < t636 then (if t632 = 0 then (some true) else ((impl_MachineWord.f kj4 t628 (wrap64 (t632 - 1))).bind fun t637 => (some (Op.bytesLess t637.toList t629.toList)))) else (some false))) else (some false))) = some r := b6_
   replace H := H1; clear H1
   replace H := bs H; obtain ⟨t635, A160, H⟩ := H; replace H : (if t635.toList = t629.toList then ((impl_MachineCount.f kj4 t628).bind fun t636 => (if t632 < t636 then (if t632 = 0 then (some true) else ((impl_MachineWord.f kj4 t628 (wrap64 (t632 - 1))).bind fun t637 => (some (Op.bytesLess t637.toList t629.toList)))) else (some false))) else (some false)) = some r := H; have A16 := Aside0.mk A160; clear A160
   by_cases c17 : t635.toList = t629.toList
   ·rw [if_pos c17] at H
    have c17b0 : (t635.toList == t629.toList) = true := beq_iff_eq.mpr c17
    have c17b1 : (t635.toList != t629.toList) = false := bne_eq_false_iff_eq.mpr c17
    clear c17; replace H := bs H; obtain ⟨t636, A180, H⟩ := H; replace H : (if t632 < t636 then (if t632 = 0 then (some true) else ((impl_MachineWord.f kj4 t628 (wrap64 (t632 - 1))).bind fun t637 => (some (Op.bytesLess t637.toList t629.toList)))) else (some false)) = some r := H; have A18 := Aside0.mk A180; clear A180
    by_cases c19 : t632 < t636
    ·rw [if_pos c19] at H; have c19b0 := decide_eq_true c19; clear c19
     by_cases c20 : t632 = 0
     ·rw [if_pos c20] at H
      have c20b0 : (t632 == 0) = true := beq_iff_eq.mpr c20
      have c20b1 : (t632 != 0) = false := bne_eq_false_iff_eq.mpr c20
      clear c20; obtain rfl := Option.some.inj H
      go_wp2_with (first | ((with_reducible refine gate_callee (f := 36) rfl ?_); refine goesL_ (some 33) rfl rfl Try.func36 (by kernel_rfl) rfl #[.slice Ao7 t628.length co7, .int .i64 t632] rfl mq ?_; (with_reducible refine (impl_MachineWord.calls kj4 _ _ t628 t632 t635 _ ?side1 ?side2 A16.out).mono ?_); (case side1 => exact cq (Kd.S_reads' HO_3.out).2.2); (case side2 => exact (Kd.S_reads' HO_3.out).2.1); rintro e w21 ⟨rfl, hb⟩; refine ⟨_, rfl, ?_⟩; replace HO_3 := am (Kd.S_below b28_ hb); replace HB := am (below_step bel hb); (try clear hb); (try clear hb2); (try clear hk); (try clear hi)) | (go_at_call 35; (with_reducible refine (impl_MachineCount.calls kj4 _ _ t628 t636 _ ?side1 ?side2 A18.out).mono ?_); (case side1 => exact cq (Kd.S_reads' HO_3.out).2.2); (case side2 => exact (Kd.S_reads' HO_3.out).2.1); rintro e w22 ⟨rfl, hb⟩; replace HO_3 := am (Kd.S_below b28_ hb); replace HB := am (below_step bel hb); (try clear hb); (try clear hb2); (try clear hk); (try clear hi)))
      go_ret
      exact ⟨eq_, bel⟩
     rw [if_neg c20] at H
     have c20b0 : (t632 == 0) = false := beq_eq_false_iff_ne.mpr c20
     have c20b1 : (t632 != 0) = true := bne_iff_ne.mpr c20
     replace H := bs H; obtain ⟨t637, A230, H⟩ := H; replace H : (some (Op.bytesLess t637.toList t629.toList)) = some r := H; have A23 := Aside0.mk A230; clear A230; obtain rfl := Option.some.inj H
     go_wp2_with (first | ((with_reducible refine gate_callee (f := 36) rfl ?_); refine goesL_ (some 33) rfl rfl Try.func36 (by kernel_rfl) rfl #[.slice Ao7 t628.length co7, .int .i64 t632] rfl mq ?_; (with_reducible refine (impl_MachineWord.calls kj4 _ _ t628 t632 t635 _ ?side1 ?side2 A16.out).mono ?_); (case side1 => exact cq (Kd.S_reads' HO_3.out).2.2); (case side2 => exact (Kd.S_reads' HO_3.out).2.1); rintro e w24 ⟨rfl, hb⟩; refine ⟨_, rfl, ?_⟩; replace HO_3 := am (Kd.S_below b28_ hb); replace HB := am (below_step bel hb); (try clear hb); (try clear hb2); (try clear hk); (try clear hi)) | (go_at_call 35; (with_reducible refine (impl_MachineCount.calls kj4 _ _ t628 t636 _ ?side1 ?side2 A18.out).mono ?_); (case side1 => exact cq (Kd.S_reads' HO_3.out).2.2); (case side2 => exact (Kd.S_reads' HO_3.out).2.1); rintro e w25 ⟨rfl, hb⟩; replace HO_3 := am (Kd.S_below b28_ hb); replace HB := am (below_step bel hb); (try clear hb); (try clear hb2); (try clear hk); (try clear hi)) | (go_at_call 36; (with_reducible refine (impl_MachineWord.calls kj4 _ _ t628 (wrap64 (t632 - 1)) t637 _ ?side1 ?side2 A23.out).mono ?_); (case side1 => exact cq (Kd.S_reads' HO_3.out).2.2); (case side2 => exact (Kd.S_reads' HO_3.out).2.1); rintro e w26 ⟨rfl, hb⟩; replace HO_3 := am (Kd.S_below b28_ hb); replace HB := am (below_step bel hb); (try clear hb); (try clear hb2); (try clear hk); (try clear hi)))
     go_ret
     exact ⟨eq_, bel⟩
    rw [if_neg c19] at H; have c19b0 := decide_eq_false c19; clear c19; obtain rfl := Option.some.inj H
    go_wp2_with (first | ((with_reducible refine gate_callee (f := 36) rfl ?_); refine goesL_ (some 33) rfl rfl Try.func36 (by kernel_rfl) rfl #[.slice Ao7 t628.length co7, .int .i64 t632] rfl mq ?_; (with_reducible refine (impl_MachineWord.calls kj4 _ _ t628 t632 t635 _ ?side1 ?side2 A16.out).mono ?_); (case side1 => exact cq (Kd.S_reads' HO_3.out).2.2); (case side2 => exact (Kd.S_reads' HO_3.out).2.1); rintro e w27 ⟨rfl, hb⟩; refine ⟨_, rfl, ?_⟩; replace HO_3 := am (Kd.S_below b28_ hb); replace HB := am (below_step bel hb); (try clear hb); (try clear hb2); (try clear hk); (try clear hi)) | (go_at_call 35; (with_reducible refine (impl_MachineCount.calls kj4 _ _ t628 t636 _ ?side1 ?side2 A18.out).mono ?_); (case side1 => exact cq (Kd.S_reads' HO_3.out).2.2); (case side2 => exact (Kd.S_reads' HO_3.out).2.1); rintro e w28 ⟨rfl, hb⟩; replace HO_3 := am (Kd.S_below b28_ hb); replace HB := am (below_step bel hb); (try clear hb); (try clear hb2); (try clear hk); (try clear hi)))
    go_ret
    exact ⟨eq_, bel⟩
   rw [if_neg c17] at H
   have c17b0 : (t635.toList == t629.toList) = false := beq_eq_false_iff_ne.mpr c17
   have c17b1 : (t635.toList != t629.toList) = true := bne_iff_ne.mpr c17
   obtain rfl := Option.some.inj H
   go_wp2_with (first | ((with_reducible refine gate_callee (f := 36) rfl ?_); refine goesL_ (some 33) rfl rfl Try.func36 (by kernel_rfl) rfl #[.slice Ao7 t628.length co7, .int .i64 t632] rfl mq ?_; (with_reducible refine (impl_MachineWord.calls kj4 _ _ t628 t632 t635 _ ?side1 ?side2 A16.out).mono ?_); (case side1 => exact cq (Kd.S_reads' HO_3.out).2.2); (case side2 => exact (Kd.S_reads' HO_3.out).2.1); rintro e w29 ⟨rfl, hb⟩; refine ⟨_, rfl, ?_⟩; replace HO_3 := am (Kd.S_below b28_ hb); replace HB := am (below_step bel hb); (try clear hb); (try clear hb2); (try clear hk); (try clear hi)))
   go_ret
   exact ⟨eq_, bel⟩

/-- THE ONE PURE STATEMENT of laws_FnMachineRank: yours. -/
def laws_FnMachineRank.Pure : Prop := ∀ (l0 : List Int), l0.length ≤ maxLen → l0.length * 1 ≤ 140737488351232 → (∀ x ∈ l0, (Lit.int .u8 x).wf = true) → ∃ k, laws_FnMachineRank.f k l0 = some true
theorem laws_FnMachineRank.walk (P : laws_FnMachineRank.Pure) (a0 : Option Addr) (len0 cap0 : Nat) (z0 : List Int) (w : World) (w0 : (a0 = none ∧ len0 = 0 ∧ cap0 = 0 ∧ z0 = []) ∨ ∃ x, a0 = some x ∧ len0 ≤ cap0 ∧ cap0 ≤ maxLen ∧ z0.length = cap0 ∧ (∀ i, i < z0.length → w.cell? (x.add i) = some (.int .u8 (z0.getD i 0))) ∧ ∀ n ∈ z0, (Lit.int .u8 n).wf = true) (y0 : len0 * 1 ≤ 140737488351232) :
  Calls Try.prog 9 #[.slice a0 len0 cap0] w fun e w' => e = .returned (.bool true) ∧ Below w.heap.size w w' := by
 obtain ⟨l0, rfl, hr0, hm0, hw0, hc0⟩ := ReadsInt.ofRowC w0; obtain ⟨k, h⟩ := P l0 hm0 y0 hw0
 refine (laws_FnMachineRank.calls k _ _ l0 true w (Kd.C_of_reads (d := (0 : Int)) (h1 := fun _ => rfl) hr0) hc0 h).mono ?_
 rintro e w' ⟨rfl, hd⟩
 exact ⟨rfl, hd⟩
end Go.Proofs.Ytfpmfaelodfecaa.QFnMachineRank

import Derived.Test.YtedfcehhgbeibaaQFnNearx0
import Derived.Test.YtedfcehhgbeibaaQFnNearx1
import Derived.Test.YtedfcehhgbeibaaQFnNearx2
import Derived.Test.YtedfcehhgbeibaaVMSh2
namespace Go.Proofs.Ytedfcehhgbeibaa.QFnNear
open Go.RowKit Go.Proofs.YtedfcehhgbeibaaW.PrintWords Go.Proofs.YtedfcehhgbeibaaW.PrintLast Go.Proofs.YtedfcehhgbeibaaW.PrintMore Go.Proofs.Ytedfcehhgbeibaa.Sh
attribute [local go_sem] max2_int min2_int max_two min_two max_three min_three max_four min_four   -- for this text's walks alone
set_option linter.unusedVariables false
set_option linter.unusedSimpArgs false
-- shrunk

/-! ### spec_l1Step: function 106 -/
def spec_l1Step.j0 : Nat → List ByteArray → ByteArray → Bool → Option (List ByteArray)
 | 0, _, _, _ => none
 | k + 1, x0, x2, x14 => if x14 = true then (some x0) else ((spec_l1Put.f k x0 x2).bind fun t133 => (some t133))
def spec_l1Step.f (k : Nat) (l0 : List ByteArray) (a1 : ByteArray) (a2 : ByteArray) : Option (List ByteArray) := if a2.toList = a1.toList then (spec_l1Step.j0 k l0 a2 true) else ((spec_l1Word.f k a2).bind fun t132 => (spec_l1Step.j0 k l0 a2 (!t132)))
theorem spec_l1Step.mono_l : ∀ k, (∀ y0 y1 y2, LeO (spec_l1Step.j0 k y0 y1 y2) (spec_l1Step.j0 (k + 1) y0 y1 y2))
 | 0 => fun _ _ _ r h => by simp [spec_l1Step.j0] at h
 | k + 1 => by
  have ih0 := spec_l1Step.mono_l k
  ·intro y0 y1 y2
   unfold spec_l1Step.j0
   repeat' first | (with_reducible first | exact ih0 _ _ _ | exact spec_l1Put.mono _ _ _ | exact spec_l1Word.mono _ _ | exact LeO.refl _ | exact LeO.none _ | refine LeO.ite ?_ ?_ | refine LeO.bind ?_ (fun _ => ?_)) | exact ih0 _ _ _ | exact spec_l1Put.mono _ _ _ | exact spec_l1Word.mono _ _ | exact LeO.none _ | refine LeO.ite ?_ ?_ | refine LeO.bind ?_ (fun _ => ?_)
theorem spec_l1Step.mono : ∀ a0 a1 a2 k, LeO (spec_l1Step.f k a0 a1 a2) (spec_l1Step.f (k + 1) a0 a1 a2) := by
 intro a0 a1 a2 k; have ih0 := spec_l1Step.mono_l k
 unfold spec_l1Step.f
 repeat' first | (with_reducible first | exact ih0 _ _ _ | exact spec_l1Put.mono _ _ _ | exact spec_l1Word.mono _ _ | exact LeO.refl _ | exact LeO.none _ | refine LeO.ite ?_ ?_ | refine LeO.bind ?_ (fun _ => ?_)) | exact ih0 _ _ _ | exact spec_l1Put.mono _ _ _ | exact spec_l1Word.mono _ _ | exact LeO.none _ | refine LeO.ite ?_ ?_ | refine LeO.bind ?_ (fun _ => ?_)
set_option maxHeartbeats 8000000 in
set_option maxRecDepth 100000 in
theorem spec_l1Step.calls (k : Nat) (P0_ : Nat → Prop) (A0 : Option Addr) (c0 : Nat) (l0 : List ByteArray) (a1 : ByteArray) (a2 : ByteArray) (r : List ByteArray) (w : World) (hs0 : Kd.V Kd.string 9 w w.heap.size (fun k_ => P0_ k_) (.slice A0 l0.length c0) l0) (h : spec_l1Step.f k l0 a1 a2 = some r) :
  Calls Try.prog 106 #[.slice A0 l0.length c0, .string a1, .string a2] w fun e w' => ∃ v0_ : Value, e = .returned (v0_) ∧ Kd.V Kd.string 9 w' w.heap.size (fun k_ => (P0_ k_ ∨ w.heap.size ≤ k_)) v0_ r ∧ Below w.heap.size w w' := by
 have HO0 := am (show Kd.V Kd.string 9 w w.heap.size (fun k_ => (P0_ k_ ∨ w.heap.size ≤ k_)) (.slice A0 l0.length c0) l0 from Kd.V_mono hs0 (fun k_ hk => .inl hk)); have HB := am (Below.refl w.heap.size w)
 have H : (if a2.toList = a1.toList then (spec_l1Step.j0 k l0 a2 true) else ((spec_l1Word.f k a2).bind fun t132 => (spec_l1Step.j0 k l0 a2 (!t132)))) = some r := h
 clear h; have HC4 := am H; clear H; go_enter Try.func106, Try.ntmps106
 go_upto_region 1 with (fail)
 go_cut [14] (fun v14 wc => ∃ (kq : Nat) (x14_3 : Bool), v14 = .bool x14_3 ∧ Aside0 (spec_l1Step.j0 kq l0 a2 x14_3 = some r) ∧ Aside0 (kq ≤ k) ∧ Aside0 (Kd.V Kd.string 9 wc w.heap.size (fun k_ => (P0_ k_ ∨ w.heap.size ≤ k_)) (.slice A0 l0.length c0) l0) ∧ Aside0 (Below w.heap.size w wc))
 case first =>
  have H := HC4.out; clear HC4
  by_cases c5 : a2.toList = a1.toList
  ·rw [if_pos c5] at H
   have c5b0 : (a2.toList == a1.toList) = true := beq_iff_eq.mpr c5
   have c5b1 : (a2.toList != a1.toList) = false := bne_eq_false_iff_eq.mpr c5
   clear c5
   (first | rw [c5b0] | (simp only [i64_w, i32_w]; rw [c5b0]) | skip)
   have H' := am H
   clear H; go_wp2
   go_meet
   case rel => exact ⟨_, (true), sq, H', ⟨b18_⟩, ⟨vq HO0.out⟩, ⟨bel⟩⟩
  ·rw [if_neg c5] at H
   have c5b0 : (a2.toList == a1.toList) = false := beq_eq_false_iff_ne.mpr c5
   have c5b1 : (a2.toList != a1.toList) = true := bne_iff_ne.mpr c5
   (first | rw [c5b0] | (simp only [i64_w, i32_w]; rw [c5b0]) | skip)
   replace H := Option.bind_eq_some_iff.mp H; obtain ⟨t132, A60, H⟩ := H; replace H : (spec_l1Step.j0 k l0 a2 (!t132)) = some r := H; have A6 := Aside0.mk A60; clear A60
   have H' := am H
   clear H
   go_wp2_with (first | (go_at_call 84; (with_reducible refine (spec_l1Word.calls k a2 t132 _ A6.out).mono ?_); rintro e w' ⟨rfl, ⟨nd, rfl⟩⟩))
   go_meet
   case rel => exact ⟨_, (!t132), sq, H', ⟨b18_⟩, ⟨vq HO0.out⟩, ⟨bel⟩⟩
 case rest =>
  clear HC4; (try clear c1); (try clear p2); (try clear c5); (try clear c5b0); (try clear c5b1); obtain ⟨kq, x14_3, rfl, HA, HJ3, HO_0, HB⟩ := hcut
  cases kq with
  | zero => exact absurd HA.out (by simp [spec_l1Step.j0])
  | succ kj3 =>
   have H := HA.out; clear HA
   simp only [spec_l1Step.j0] at H
   by_cases c7 : x14_3 = true
   ·subst c7
    have H1 : (some l0) = some r := b17_
    replace H := H1; clear H1
    obtain rfl := Option.some.inj H; go_wp2; go_ret
    exact ⟨_, eq_, by (with_reducible repeat (first | apply Kd.V_alloc | apply Kd.V_drewN | apply Kd.V_drew)); exact HO_0.out, bel⟩
   ·replace c7 := Bool.eq_false_iff.mpr c7; subst c7
    have H1 : ((spec_l1Put.f kj3 l0 a2).bind fun t133 => (some t133)) = some r := b12_
    replace H := H1; clear H1
    replace H := Option.bind_eq_some_iff.mp H; obtain ⟨t133, A80, H⟩ := H; replace H : (some t133) = some r := H; have A8 := Aside0.mk A80; clear A80; obtain rfl := Option.some.inj H
    go_wp2_with (first | ((with_reducible refine gate_callee (f := 102) rfl ?_); refine goesL_ (some 18) rfl rfl Try.func102 (by kernel_rfl) rfl #[.slice A0 l0.length c0, .string a2] rfl mq ?_; (with_reducible refine (spec_l1Put.calls kj3 (fun k_ => (P0_ k_ ∨ w.heap.size ≤ k_)) _ _ l0 a2 t133 _ ?side1 A8.out).mono ?_); (case side1 => exact HO_0.out); rintro e w9 ⟨v134, rfl, ho0, hb⟩; refine ⟨_, rfl, ?_⟩; replace HO_0 := am (Kd.V_below (vq HO_0.out) hb); have HO135 := am (Kd.V_lower (Kd.V_mono (ok' := fun k_ => (P0_ k_ ∨ w.heap.size ≤ k_)) ho0 (fun k_ hk_ => Or.elim hk_ (fun hs_ => hs_) (fun hn_ => (.inr (Nat.le_trans (below_size bel) hn_))))) (below_size bel)); replace HB := am (below_step bel hb); (try clear hb); (try clear hb2); (try clear hk); (try clear hi); (try clear ho0)))
    go_ret
    exact ⟨_, eq_, by (with_reducible repeat (first | apply Kd.V_alloc | apply Kd.V_drewN | apply Kd.V_drew)); exact HO135.out, bel⟩

end Go.Proofs.Ytedfcehhgbeibaa.QFnNear

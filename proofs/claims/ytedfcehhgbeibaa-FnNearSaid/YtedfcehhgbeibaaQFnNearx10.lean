import Derived.Test.YtedfcehhgbeibaaQFnNearx0
import Derived.Test.YtedfcehhgbeibaaQFnNearx1
import Derived.Test.YtedfcehhgbeibaaQFnNearx5
import Derived.Test.YtedfcehhgbeibaaQFnNearx6
import Derived.Test.YtedfcehhgbeibaaQFnNearx8
import Derived.Test.YtedfcehhgbeibaaQFnNearx9
import Derived.Test.YtedfcehhgbeibaaVMSh2
namespace Go.Proofs.Ytedfcehhgbeibaa.QFnNear
open Go.RowKit Go.Proofs.YtedfcehhgbeibaaW.PrintWords Go.Proofs.YtedfcehhgbeibaaW.PrintLast Go.Proofs.YtedfcehhgbeibaaW.PrintMore Go.Proofs.Ytedfcehhgbeibaa.Sh
attribute [local go_sem] max2_int min2_int max_two min_two max_three min_three max_four min_four   -- for this text's walks alone
set_option linter.unusedVariables false
set_option linter.unusedSimpArgs false
-- shrunk

/-! ### laws_FnNear: function 13 -/
mutual
def laws_FnNear.j0 : Nat → List Int → ByteArray → ByteArray → List ByteArray → Bool → Option (Bool)
 | 0, _, _, _, _, _ => none
 | k + 1, x0, x3, x4, x5, x27 => if x27 = true then ((spec_Near.f k x3).bind fun t278 => ((laws_mdTexts.f k x5 t278).bind fun t281 => (some t281))) else (laws_FnNear.l0 k x0 x3 x4 x5 1)
def laws_FnNear.l0 : Nat → List Int → ByteArray → ByteArray → List ByteArray → Int → Option (Bool)
 | 0, _, _, _, _, _ => none
 | k + 1, x0, x3, x4, x5, x6 => if x6 < (x5.length : Int) then (if 0 ≤ (wrap64 (x6 - 1)) then (if (wrap64 (x6 - 1)) < (x5.length : Int) then (if 0 ≤ x6 then (if ((Op.bytesLess ((rdOf ByteArray.empty x5 (wrap64 (x6 - 1))).toList) ((rdOf ByteArray.empty x5 x6).toList)) = true) then (laws_FnNear.l0 k x0 x3 x4 x5 (wrap64 (x6 + 1))) else (some false)) else (none)) else (none)) else (none)) else (if (x5.length : Int) = 0 then (none) else (if 0 ≤ ((x0.length : Int) % (x5.length : Int)) then (if ((x0.length : Int) % (x5.length : Int)) < (x5.length : Int) then ((impl_Far.f k x3 (rdOf ByteArray.empty x5 ((x0.length : Int) % (x5.length : Int)))).bind fun t285 => (if t285 = 1 then ((impl_Far.f k x3 x4).bind fun t286 => ((laws_mdHas.f k x5 x4).bind fun t287 => (some ((t286 == 1) == t287)))) else (some false))) else (none)) else (none)))
end
def laws_FnNear.f (k : Nat) (l0 : List Int) : Option (Bool) := if (l0.length : Int) > 1048576 then (some true) else ((spec_DrawFar.f k l0).bind fun bt269 => ((impl_Near.f k bt269.1).bind fun t271 => ((spec_Near.f k bt269.1).bind fun t274 => ((laws_mdTexts.f k t271 t274).bind fun t277 => (if t277 = true then (laws_FnNear.j0 k l0 bt269.1 bt269.2 t271 ((t271.length : Int) == 0)) else (laws_FnNear.j0 k l0 bt269.1 bt269.2 t271 true))))))
theorem laws_FnNear.mono_l : ∀ k, (∀ y0 y1 y2 y3 y4, LeO (laws_FnNear.j0 k y0 y1 y2 y3 y4) (laws_FnNear.j0 (k + 1) y0 y1 y2 y3 y4)) ∧ (∀ y0 y1 y2 y3 y4, LeO (laws_FnNear.l0 k y0 y1 y2 y3 y4) (laws_FnNear.l0 (k + 1) y0 y1 y2 y3 y4))
 | 0 => ⟨fun _ _ _ _ _ r h => by simp [laws_FnNear.j0] at h, fun _ _ _ _ _ r h => by simp [laws_FnNear.l0] at h⟩
 | k + 1 => by
  obtain ⟨ih0, ih1⟩ := laws_FnNear.mono_l k
  refine ⟨?_, ?_⟩
  ·intro y0 y1 y2 y3 y4
   unfold laws_FnNear.j0
   repeat' first | (with_reducible first | exact ih0 _ _ _ _ _ | exact ih1 _ _ _ _ _ | exact impl_Far.mono _ _ _ | exact impl_Near.mono _ _ | exact laws_mdHas.mono _ _ _ | exact laws_mdTexts.mono _ _ _ | exact spec_DrawFar.mono _ _ | exact spec_Near.mono _ _ | exact LeO.refl _ | exact LeO.none _ | refine LeO.ite ?_ ?_ | refine LeO.bind ?_ (fun _ => ?_)) | exact ih0 _ _ _ _ _ | exact ih1 _ _ _ _ _ | exact impl_Far.mono _ _ _ | exact impl_Near.mono _ _ | exact laws_mdHas.mono _ _ _ | exact laws_mdTexts.mono _ _ _ | exact spec_DrawFar.mono _ _ | exact spec_Near.mono _ _ | exact LeO.none _ | refine LeO.ite ?_ ?_ | refine LeO.bind ?_ (fun _ => ?_)
  ·intro y0 y1 y2 y3 y4
   unfold laws_FnNear.l0
   repeat' first | (with_reducible first | exact ih0 _ _ _ _ _ | exact ih1 _ _ _ _ _ | exact impl_Far.mono _ _ _ | exact impl_Near.mono _ _ | exact laws_mdHas.mono _ _ _ | exact laws_mdTexts.mono _ _ _ | exact spec_DrawFar.mono _ _ | exact spec_Near.mono _ _ | exact LeO.refl _ | exact LeO.none _ | refine LeO.ite ?_ ?_ | refine LeO.bind ?_ (fun _ => ?_)) | exact ih0 _ _ _ _ _ | exact ih1 _ _ _ _ _ | exact impl_Far.mono _ _ _ | exact impl_Near.mono _ _ | exact laws_mdHas.mono _ _ _ | exact laws_mdTexts.mono _ _ _ | exact spec_DrawFar.mono _ _ | exact spec_Near.mono _ _ | exact LeO.none _ | refine LeO.ite ?_ ?_ | refine LeO.bind ?_ (fun _ => ?_)
theorem laws_FnNear.mono : ∀ a0 k, LeO (laws_FnNear.f k a0) (laws_FnNear.f (k + 1) a0) := by
 intro a0 k; obtain ⟨ih0, ih1⟩ := laws_FnNear.mono_l k
 unfold laws_FnNear.f
 repeat' first | (with_reducible first | exact ih0 _ _ _ _ _ | exact ih1 _ _ _ _ _ | exact impl_Far.mono _ _ _ | exact impl_Near.mono _ _ | exact laws_mdHas.mono _ _ _ | exact laws_mdTexts.mono _ _ _ | exact spec_DrawFar.mono _ _ | exact spec_Near.mono _ _ | exact LeO.refl _ | exact LeO.none _ | refine LeO.ite ?_ ?_ | refine LeO.bind ?_ (fun _ => ?_)) | exact ih0 _ _ _ _ _ | exact ih1 _ _ _ _ _ | exact impl_Far.mono _ _ _ | exact impl_Near.mono _ _ | exact laws_mdHas.mono _ _ _ | exact laws_mdTexts.mono _ _ _ | exact spec_DrawFar.mono _ _ | exact spec_Near.mono _ _ | exact LeO.none _ | refine LeO.ite ?_ ?_ | refine LeO.bind ?_ (fun _ => ?_)
set_option maxHeartbeats 8000000 in
set_option maxRecDepth 100000 in
theorem laws_FnNear.calls (k : Nat) (A0 : Option Addr) (c0 : Nat) (l0 : List Int) (r : Bool) (w : World) (hr0 : Kd.C (Kd.int .u8) w A0 l0.length l0) (hc0 : l0.length ≤ c0) (h : laws_FnNear.f k l0 = some r) :
  Calls Try.prog 13 #[.slice A0 l0.length c0] w fun e w' => e = .returned (.bool r) ∧ Below w.heap.size w w' := by
 have HR0 := am hr0; have HC0 := am hc0; clear hr0 hc0; have HB := am (Below.refl w.heap.size w)
 have H : (if (l0.length : Int) > 1048576 then (some true) else ((spec_DrawFar.f k l0).bind fun bt269 => ((impl_Near.f k bt269.1).bind fun t271 => ((spec_Near.f k bt269.1).bind fun t274 => ((laws_mdTexts.f k t271 t274).bind fun t277 => (if t277 = true then (laws_FnNear.j0 k l0 bt269.1 bt269.2 t271 ((t271.length : Int) == 0)) else (laws_FnNear.j0 k l0 bt269.1 bt269.2 t271 true))))))) = some r := h
 clear h
 by_cases c2 : (l0.length : Int) > 1048576
 ·rw [if_pos c2] at H; have c2b0 := decide_eq_true c2
  have c2b1 : decide (1048576 < l0.length) = true := decide_eq_true (by omega)
  clear c2; obtain rfl := Option.some.inj H; go_enter Try.func13, Try.ntmps13; go_wp2
  repeat (go_quiet (fail); try go_wp2)
  go_ret
  exact ⟨eq_, bel⟩
 ·rw [if_neg c2] at H; have c2b0 := decide_eq_false c2
  have c2b1 : decide (1048576 < l0.length) = false := decide_eq_false (by omega)
  clear c2; replace H := Option.bind_eq_some_iff.mp H; obtain ⟨⟨t269, t270⟩, A30, H⟩ := H; replace H : ((impl_Near.f k t269).bind fun t271 => ((spec_Near.f k t269).bind fun t274 => ((laws_mdTexts.f k t271 t274).bind fun t277 => (if t277 = true then (laws_FnNear.j0 k l0 t269 t270 t271 ((t271.length : Int) == 0)) else (laws_FnNear.j0 k l0 t269 t270 t271 true))))) = some r := H; have A3 := Aside0.mk A30; clear A30; replace H := Option.bind_eq_some_iff.mp H; obtain ⟨t271, A40, H⟩ := H; replace H : ((spec_Near.f k t269).bind fun t274 => ((laws_mdTexts.f k t271 t274).bind fun t277 => (if t277 = true then (laws_FnNear.j0 k l0 t269 t270 t271 ((t271.length : Int) == 0)) else (laws_FnNear.j0 k l0 t269 t270 t271 true)))) = some r := H; have A4 := Aside0.mk A40; clear A40; have HC5 := am H; clear H; go_enter Try.func13, Try.ntmps13
  go_upto_region 5 with (first | (go_at_call 48; (with_reducible refine (spec_DrawFar.calls k _ _ l0 t269 t270 _ ?side1 ?side2 A3.out).mono ?_); (case side1 => repeat (first | exact HR0.out | (with_reducible refine Kd.C_alloc ?_ _) | (with_reducible refine Kd.C_drewN ?_ _) | (with_reducible refine Kd.C_drew ?_))); (case side2 => exact HC0.out); rintro e w6 ⟨rfl, hb⟩; replace HB := am (below_step bel hb); (try clear hb); (try clear hb2); (try clear hk); (try clear hi)) | (go_at_call 47; (with_reducible refine (impl_Near.calls k t269 t271 _ A4.out).mono ?_); rintro e w7 ⟨v272, rfl, ho0, hb⟩; have HO273 := am (Kd.R_lower ho0 (below_size bel)); replace HB := am (below_step bel hb); (try clear hb); (try clear hb2); (try clear hk); (try clear hi); (try clear ho0)))
  repeat (go_quiet (first | (go_at_call 48; (with_reducible refine (spec_DrawFar.calls k _ _ l0 t269 t270 _ ?side1 ?side2 A3.out).mono ?_); (case side1 => repeat (first | exact HR0.out | (with_reducible refine Kd.C_alloc ?_ _) | (with_reducible refine Kd.C_drewN ?_ _) | (with_reducible refine Kd.C_drew ?_))); (case side2 => exact HC0.out); rintro e w6 ⟨rfl, hb⟩; replace HB := am (below_step bel hb); (try clear hb); (try clear hb2); (try clear hk); (try clear hi)) | (go_at_call 47; (with_reducible refine (impl_Near.calls k t269 t271 _ A4.out).mono ?_); rintro e w7 ⟨v272, rfl, ho0, hb⟩; have HO273 := am (Kd.R_lower ho0 (below_size bel)); replace HB := am (below_step bel hb); (try clear hb); (try clear hb2); (try clear hk); (try clear hi); (try clear ho0))); go_upto_region 5 with (first | (go_at_call 48; (with_reducible refine (spec_DrawFar.calls k _ _ l0 t269 t270 _ ?side1 ?side2 A3.out).mono ?_); (case side1 => repeat (first | exact HR0.out | (with_reducible refine Kd.C_alloc ?_ _) | (with_reducible refine Kd.C_drewN ?_ _) | (with_reducible refine Kd.C_drew ?_))); (case side2 => exact HC0.out); rintro e w6 ⟨rfl, hb⟩; replace HB := am (below_step bel hb); (try clear hb); (try clear hb2); (try clear hk); (try clear hi)) | (go_at_call 47; (with_reducible refine (impl_Near.calls k t269 t271 _ A4.out).mono ?_); rintro e w7 ⟨v272, rfl, ho0, hb⟩; have HO273 := am (Kd.R_lower ho0 (below_size bel)); replace HB := am (below_step bel hb); (try clear hb); (try clear hb2); (try clear hk); (try clear hi); (try clear ho0))))
  (try simp only [Act.put, List.setIfInBounds_toArray, List.set_cons_zero, List.set_cons_succ])
  go_cut [27] (fun v27 wc => ∃ (kq : Nat) (x27_4 : Bool), v27 = .bool x27_4 ∧ Aside0 (laws_FnNear.j0 kq l0 t269 t270 t271 x27_4 = some r) ∧ Aside0 (kq ≤ k) ∧ Aside0 (Kd.R Kd.string 9 wc w.heap.size (fun _ => True) v272 t271) ∧ Aside0 (Below w.heap.size w wc))
  case first =>
   have H := HC5.out; clear HC5; replace H := Option.bind_eq_some_iff.mp H; obtain ⟨t274, A80, H⟩ := H; replace H : ((laws_mdTexts.f k t271 t274).bind fun t277 => (if t277 = true then (laws_FnNear.j0 k l0 t269 t270 t271 ((t271.length : Int) == 0)) else (laws_FnNear.j0 k l0 t269 t270 t271 true))) = some r := H; have A8 := Aside0.mk A80; clear A80; replace H := Option.bind_eq_some_iff.mp H; obtain ⟨t277, A90, H⟩ := H; replace H : (if t277 = true then (laws_FnNear.j0 k l0 t269 t270 t271 ((t271.length : Int) == 0)) else (laws_FnNear.j0 k l0 t269 t270 t271 true)) = some r := H; have A9 := Aside0.mk A90; clear A90
   by_cases c10 : t277 = true
   ·subst c10
    have H1 : (laws_FnNear.j0 k l0 t269 t270 t271 ((t271.length : Int) == 0)) = some r := b17_
    replace H := H1; clear H1
    have H' := am H
    clear H
    go_wp2_with (first | (go_at_call 46; (with_reducible refine (spec_Near.calls k t269 t274 _ A8.out).mono ?_); rintro e w11 ⟨v275, rfl, ho0, hb⟩; have HO276 := am (Kd.V_lower (Kd.V_mono (ok' := fun k_ => some k_ ≠ (v272 : Value).ownBlock) ho0 (fun k_ hk_ => (Kd.fresh' (Kd.R_lt (rq HO273.out)) k_ hk_))) (below_size bel)); replace HO273 := am (Kd.R_below (rq HO273.out) hb); replace HB := am (below_step bel hb); (try clear hb); (try clear hb2); (try clear hk); (try clear hi); (try clear ho0); obtain ⟨Ao12, co12, eo12⟩ := Kd.R_slice HO273.out; subst eo12; obtain ⟨Ao13, co13, eo13⟩ := Kd.V_slice HO276.out; subst eo13) | (go_at_call 27; (with_reducible refine (laws_mdTexts.calls k _ _ t271 _ _ t274 true _ ?side1 ?side2 ?side3 ?side4 A9.out).mono ?_); (case side1 => exact cq (Kd.R_reads' HO273.out).2.2); (case side2 => exact (Kd.R_reads' HO273.out).2.1); (case side3 => exact cq (Kd.V_reads' HO276.out).2.2); (case side4 => exact (Kd.V_reads' HO276.out).2.1); rintro e w' ⟨rfl, ⟨nd, rfl⟩⟩; (try first | exact ⟨rfl, _, World.drewN_drewN _ _ _⟩ | exact ⟨rfl, _, Eq.trans (World.drewN_drewN _ _ _) (congrArg (World.drewN _) (Nat.add_assoc _ _ _))⟩)))
    repeat (go_quiet (first | (go_at_call 46; (with_reducible refine (spec_Near.calls k t269 t274 _ A8.out).mono ?_); rintro e w11 ⟨v275, rfl, ho0, hb⟩; have HO276 := am (Kd.V_lower (Kd.V_mono (ok' := fun k_ => some k_ ≠ (v272 : Value).ownBlock) ho0 (fun k_ hk_ => (Kd.fresh' (Kd.R_lt (rq HO273.out)) k_ hk_))) (below_size bel)); replace HO273 := am (Kd.R_below (rq HO273.out) hb); replace HB := am (below_step bel hb); (try clear hb); (try clear hb2); (try clear hk); (try clear hi); (try clear ho0); obtain ⟨Ao12, co12, eo12⟩ := Kd.R_slice HO273.out; subst eo12; obtain ⟨Ao13, co13, eo13⟩ := Kd.V_slice HO276.out; subst eo13) | (go_at_call 27; (with_reducible refine (laws_mdTexts.calls k _ _ t271 _ _ t274 true _ ?side1 ?side2 ?side3 ?side4 A9.out).mono ?_); (case side1 => exact cq (Kd.R_reads' HO273.out).2.2); (case side2 => exact (Kd.R_reads' HO273.out).2.1); (case side3 => exact cq (Kd.V_reads' HO276.out).2.2); (case side4 => exact (Kd.V_reads' HO276.out).2.1); rintro e w' ⟨rfl, ⟨nd, rfl⟩⟩; (try first | exact ⟨rfl, _, World.drewN_drewN _ _ _⟩ | exact ⟨rfl, _, Eq.trans (World.drewN_drewN _ _ _) (congrArg (World.drewN _) (Nat.add_assoc _ _ _))⟩))); try go_wp2_with (first | (go_at_call 46; (with_reducible refine (spec_Near.calls k t269 t274 _ A8.out).mono ?_); rintro e w11 ⟨v275, rfl, ho0, hb⟩; have HO276 := am (Kd.V_lower (Kd.V_mono (ok' := fun k_ => some k_ ≠ (v272 : Value).ownBlock) ho0 (fun k_ hk_ => (Kd.fresh' (Kd.R_lt (rq HO273.out)) k_ hk_))) (below_size bel)); replace HO273 := am (Kd.R_below (rq HO273.out) hb); replace HB := am (below_step bel hb); (try clear hb); (try clear hb2); (try clear hk); (try clear hi); (try clear ho0); obtain ⟨Ao12, co12, eo12⟩ := Kd.R_slice HO273.out; subst eo12; obtain ⟨Ao13, co13, eo13⟩ := Kd.V_slice HO276.out; subst eo13) | (go_at_call 27; (with_reducible refine (laws_mdTexts.calls k _ _ t271 _ _ t274 true _ ?side1 ?side2 ?side3 ?side4 A9.out).mono ?_); (case side1 => exact cq (Kd.R_reads' HO273.out).2.2); (case side2 => exact (Kd.R_reads' HO273.out).2.1); (case side3 => exact cq (Kd.V_reads' HO276.out).2.2); (case side4 => exact (Kd.V_reads' HO276.out).2.1); rintro e w' ⟨rfl, ⟨nd, rfl⟩⟩; (try first | exact ⟨rfl, _, World.drewN_drewN _ _ _⟩ | exact ⟨rfl, _, Eq.trans (World.drewN_drewN _ _ _) (congrArg (World.drewN _) (Nat.add_assoc _ _ _))⟩))))
    go_meet
    case rel => exact ⟨_, (((t271.length : Int) == 0)), sq, H', ⟨b18_⟩, ⟨rq HO273.out⟩, ⟨bel⟩⟩
   ·replace c10 := Bool.eq_false_iff.mpr c10; subst c10
    have H1 : (laws_FnNear.j0 k l0 t269 t270 t271 true) = some r := b12_
    replace H := H1; clear H1
    have H' := am H
    clear H
    go_wp2_with (first | (go_at_call 46; (with_reducible refine (spec_Near.calls k t269 t274 _ A8.out).mono ?_); rintro e w14 ⟨v275, rfl, ho0, hb⟩; have HO276 := am (Kd.V_lower (Kd.V_mono (ok' := fun k_ => some k_ ≠ (v272 : Value).ownBlock) ho0 (fun k_ hk_ => (Kd.fresh' (Kd.R_lt (rq HO273.out)) k_ hk_))) (below_size bel)); replace HO273 := am (Kd.R_below (rq HO273.out) hb); replace HB := am (below_step bel hb); (try clear hb); (try clear hb2); (try clear hk); (try clear hi); (try clear ho0); obtain ⟨Ao15, co15, eo15⟩ := Kd.R_slice HO273.out; subst eo15; obtain ⟨Ao16, co16, eo16⟩ := Kd.V_slice HO276.out; subst eo16) | (go_at_call 27; (with_reducible refine (laws_mdTexts.calls k _ _ t271 _ _ t274 false _ ?side1 ?side2 ?side3 ?side4 A9.out).mono ?_); (case side1 => exact cq (Kd.R_reads' HO273.out).2.2); (case side2 => exact (Kd.R_reads' HO273.out).2.1); (case side3 => exact cq (Kd.V_reads' HO276.out).2.2); (case side4 => exact (Kd.V_reads' HO276.out).2.1); rintro e w' ⟨rfl, ⟨nd, rfl⟩⟩; (try first | exact ⟨rfl, _, World.drewN_drewN _ _ _⟩ | exact ⟨rfl, _, Eq.trans (World.drewN_drewN _ _ _) (congrArg (World.drewN _) (Nat.add_assoc _ _ _))⟩)))
    repeat (go_quiet (first | (go_at_call 46; (with_reducible refine (spec_Near.calls k t269 t274 _ A8.out).mono ?_); rintro e w14 ⟨v275, rfl, ho0, hb⟩; have HO276 := am (Kd.V_lower (Kd.V_mono (ok' := fun k_ => some k_ ≠ (v272 : Value).ownBlock) ho0 (fun k_ hk_ => (Kd.fresh' (Kd.R_lt (rq HO273.out)) k_ hk_))) (below_size bel)); replace HO273 := am (Kd.R_below (rq HO273.out) hb); replace HB := am (below_step bel hb); (try clear hb); (try clear hb2); (try clear hk); (try clear hi); (try clear ho0); obtain ⟨Ao15, co15, eo15⟩ := Kd.R_slice HO273.out; subst eo15; obtain ⟨Ao16, co16, eo16⟩ := Kd.V_slice HO276.out; subst eo16) | (go_at_call 27; (with_reducible refine (laws_mdTexts.calls k _ _ t271 _ _ t274 false _ ?side1 ?side2 ?side3 ?side4 A9.out).mono ?_); (case side1 => exact cq (Kd.R_reads' HO273.out).2.2); (case side2 => exact (Kd.R_reads' HO273.out).2.1); (case side3 => exact cq (Kd.V_reads' HO276.out).2.2); (case side4 => exact (Kd.V_reads' HO276.out).2.1); rintro e w' ⟨rfl, ⟨nd, rfl⟩⟩; (try first | exact ⟨rfl, _, World.drewN_drewN _ _ _⟩ | exact ⟨rfl, _, Eq.trans (World.drewN_drewN _ _ _) (congrArg (World.drewN _) (Nat.add_assoc _ _ _))⟩))); try go_wp2_with (first | (go_at_call 46; (with_reducible refine (spec_Near.calls k t269 t274 _ A8.out).mono ?_); rintro e w14 ⟨v275, rfl, ho0, hb⟩; have HO276 := am (Kd.V_lower (Kd.V_mono (ok' := fun k_ => some k_ ≠ (v272 : Value).ownBlock) ho0 (fun k_ hk_ => (Kd.fresh' (Kd.R_lt (rq HO273.out)) k_ hk_))) (below_size bel)); replace HO273 := am (Kd.R_below (rq HO273.out) hb); replace HB := am (below_step bel hb); (try clear hb); (try clear hb2); (try clear hk); (try clear hi); (try clear ho0); obtain ⟨Ao15, co15, eo15⟩ := Kd.R_slice HO273.out; subst eo15; obtain ⟨Ao16, co16, eo16⟩ := Kd.V_slice HO276.out; subst eo16) | (go_at_call 27; (with_reducible refine (laws_mdTexts.calls k _ _ t271 _ _ t274 false _ ?side1 ?side2 ?side3 ?side4 A9.out).mono ?_); (case side1 => exact cq (Kd.R_reads' HO273.out).2.2); (case side2 => exact (Kd.R_reads' HO273.out).2.1); (case side3 => exact cq (Kd.V_reads' HO276.out).2.2); (case side4 => exact (Kd.V_reads' HO276.out).2.1); rintro e w' ⟨rfl, ⟨nd, rfl⟩⟩; (try first | exact ⟨rfl, _, World.drewN_drewN _ _ _⟩ | exact ⟨rfl, _, Eq.trans (World.drewN_drewN _ _ _) (congrArg (World.drewN _) (Nat.add_assoc _ _ _))⟩))))
    go_meet
    case rel => exact ⟨_, (true), sq, H', ⟨b18_⟩, ⟨rq HO273.out⟩, ⟨bel⟩⟩
  case rest =>
   clear HC5; (try clear c1); (try clear c2); (try clear c2b0); (try clear c2b1); (try clear p2); (try clear c10); (try clear c13); obtain ⟨kq, x27_4, rfl, HA, HJ4, HO_5, HB⟩ := hcut
   cases kq with
   | zero => exact absurd HA.out (by simp [laws_FnNear.j0])
   | succ kj4 =>
    have H := HA.out; clear HA
    simp only [laws_FnNear.j0] at H
    by_cases c17 : x27_4 = true
    ·subst c17
     have H1 : ((spec_Near.f kj4 t269).bind fun t278 => ((laws_mdTexts.f kj4 t271 t278).bind fun t281 => (some t281))) = some r := b17_
     replace H := H1; clear H1
     replace H := Option.bind_eq_some_iff.mp H; obtain ⟨t278, A180, H⟩ := H; replace H : ((laws_mdTexts.f kj4 t271 t278).bind fun t281 => (some t281)) = some r := H; have A18 := Aside0.mk A180; clear A180; replace H := Option.bind_eq_some_iff.mp H; obtain ⟨t281, A190, H⟩ := H; replace H : (some t281) = some r := H; have A19 := Aside0.mk A190; clear A190; obtain rfl := Option.some.inj H
     go_wp2_with (first | (go_at_call 46; (with_reducible refine (spec_Near.calls kj4 t269 t278 _ A18.out).mono ?_); rintro e w20 ⟨v279, rfl, ho0, hb⟩; have HO280 := am (Kd.V_lower (Kd.V_mono (ok' := fun k_ => some k_ ≠ (v272 : Value).ownBlock) ho0 (fun k_ hk_ => (Kd.fresh' (Kd.R_lt (rq HO_5.out)) k_ hk_))) (below_size bel)); replace HO_5 := am (Kd.R_below (rq HO_5.out) hb); replace HB := am (below_step bel hb); (try clear hb); (try clear hb2); (try clear hk); (try clear hi); (try clear ho0); obtain ⟨Ao21, co21, eo21⟩ := Kd.R_slice HO_5.out; subst eo21; obtain ⟨Ao22, co22, eo22⟩ := Kd.V_slice HO280.out; subst eo22) | (go_at_call 27; (with_reducible refine (laws_mdTexts.calls kj4 _ _ t271 _ _ t278 t281 _ ?side1 ?side2 ?side3 ?side4 A19.out).mono ?_); (case side1 => exact cq (Kd.R_reads' HO_5.out).2.2); (case side2 => exact (Kd.R_reads' HO_5.out).2.1); (case side3 => exact cq (Kd.V_reads' HO280.out).2.2); (case side4 => exact (Kd.V_reads' HO280.out).2.1); rintro e w' ⟨rfl, ⟨nd, rfl⟩⟩; (try first | exact ⟨rfl, _, World.drewN_drewN _ _ _⟩ | exact ⟨rfl, _, Eq.trans (World.drewN_drewN _ _ _) (congrArg (World.drewN _) (Nat.add_assoc _ _ _))⟩)))
     repeat (go_quiet (first | (go_at_call 46; (with_reducible refine (spec_Near.calls kj4 t269 t278 _ A18.out).mono ?_); rintro e w20 ⟨v279, rfl, ho0, hb⟩; have HO280 := am (Kd.V_lower (Kd.V_mono (ok' := fun k_ => some k_ ≠ (v272 : Value).ownBlock) ho0 (fun k_ hk_ => (Kd.fresh' (Kd.R_lt (rq HO_5.out)) k_ hk_))) (below_size bel)); replace HO_5 := am (Kd.R_below (rq HO_5.out) hb); replace HB := am (below_step bel hb); (try clear hb); (try clear hb2); (try clear hk); (try clear hi); (try clear ho0); obtain ⟨Ao21, co21, eo21⟩ := Kd.R_slice HO_5.out; subst eo21; obtain ⟨Ao22, co22, eo22⟩ := Kd.V_slice HO280.out; subst eo22) | (go_at_call 27; (with_reducible refine (laws_mdTexts.calls kj4 _ _ t271 _ _ t278 t281 _ ?side1 ?side2 ?side3 ?side4 A19.out).mono ?_); (case side1 => exact cq (Kd.R_reads' HO_5.out).2.2); (case side2 => exact (Kd.R_reads' HO_5.out).2.1); (case side3 => exact cq (Kd.V_reads' HO280.out).2.2); (case side4 => exact (Kd.V_reads' HO280.out).2.1); rintro e w' ⟨rfl, ⟨nd, rfl⟩⟩; (try first | exact ⟨rfl, _, World.drewN_drewN _ _ _⟩ | exact ⟨rfl, _, Eq.trans (World.drewN_drewN _ _ _) (congrArg (World.drewN _) (Nat.add_assoc _ _ _))⟩))); try go_wp2_with (first | (go_at_call 46; (with_reducible refine (spec_Near.calls kj4 t269 t278 _ A18.out).mono ?_); rintro e w20 ⟨v279, rfl, ho0, hb⟩; have HO280 := am (Kd.V_lower (Kd.V_mono (ok' := fun k_ => some k_ ≠ (v272 : Value).ownBlock) ho0 (fun k_ hk_ => (Kd.fresh' (Kd.R_lt (rq HO_5.out)) k_ hk_))) (below_size bel)); replace HO_5 := am (Kd.R_below (rq HO_5.out) hb); replace HB := am (below_step bel hb); (try clear hb); (try clear hb2); (try clear hk); (try clear hi); (try clear ho0); obtain ⟨Ao21, co21, eo21⟩ := Kd.R_slice HO_5.out; subst eo21; obtain ⟨Ao22, co22, eo22⟩ := Kd.V_slice HO280.out; subst eo22) | (go_at_call 27; (with_reducible refine (laws_mdTexts.calls kj4 _ _ t271 _ _ t278 t281 _ ?side1 ?side2 ?side3 ?side4 A19.out).mono ?_); (case side1 => exact cq (Kd.R_reads' HO_5.out).2.2); (case side2 => exact (Kd.R_reads' HO_5.out).2.1); (case side3 => exact cq (Kd.V_reads' HO280.out).2.2); (case side4 => exact (Kd.V_reads' HO280.out).2.1); rintro e w' ⟨rfl, ⟨nd, rfl⟩⟩; (try first | exact ⟨rfl, _, World.drewN_drewN _ _ _⟩ | exact ⟨rfl, _, Eq.trans (World.drewN_drewN _ _ _) (congrArg (World.drewN _) (Nat.add_assoc _ _ _))⟩))))
     go_ret
     exact ⟨eq_, bel⟩
    ·replace c17 := Bool.eq_false_iff.mpr c17; subst c17
     have H1 : (laws_FnNear.l0 kj4 l0 t269 t270 t271 1) = some r := b12_
     replace H := H1; clear H1
     have H' := am H
     clear H; go_wp2
     repeat (go_quiet (fail); try go_wp2)
     go_loopg [6] kj4 (fun kq v6 w' => ∃ (x6_2 : Int), v6 = .int .i64 x6_2 ∧ Aside0 (laws_FnNear.l0 kq l0 t269 t270 t271 x6_2 = some r) ∧ Aside0 (kq ≤ kj4) ∧ Aside0 (Kd.R Kd.string 9 w' w.heap.size (fun _ => True) v272 t271) ∧ Aside0 (Below w.heap.size w w'))
     case atStart => exact ⟨(1), sq, H', ⟨Nat.le_refl _⟩, ⟨rq HO_5.out⟩, ⟨bel⟩⟩
     case round =>
      clear H'; (try clear c1); (try clear c2); (try clear c2b0); (try clear c2b1); (try clear p2); (try clear c10); (try clear c13); (try clear c17); (try clear p2); obtain ⟨x6_2, rfl, HA, HK2, HO_5, HB⟩ := hrel
      cases gk with
      | zero => exact absurd HA.out (by simp [laws_FnNear.l0])
      | succ k2 =>
       have H := HA.out; clear HA
       simp only [laws_FnNear.l0] at H
       by_cases c23 : x6_2 < (t271.length : Int)
       ·rw [if_pos c23] at H; have c23b0 := decide_eq_true c23; clear c23; obtain ⟨ji24, hji24⟩ : ∃ j_ : Int, (wrap64 (x6_2 - 1)) = j_ := ⟨_, rfl⟩
        replace H : (if 0 ≤ (ji24) then (if (ji24) < (t271.length : Int) then (if 0 ≤ x6_2 then (if ((Op.bytesLess ((rdOf ByteArray.empty t271 (ji24)).toList) ((rdOf ByteArray.empty t271 x6_2).toList)) = true) then (laws_FnNear.l0 k2 l0 t269 t270 t271 (wrap64 (x6_2 + 1))) else (some false)) else (none)) else (none)) else (none)) = some r := by first | (rw [hji24] at H; exact H) | (simp only [hji24] at H ⊢; exact H)
        have hji24w : (IntKind.i64.wrap (x6_2 - 1)) = ji24 := (i64_w _).trans hji24
        by_cases c25 : 0 ≤ (ji24)
        ·rw [if_pos c25] at H; have c25b0 := decide_eq_true c25; clear c25
         by_cases c26 : (ji24) < (t271.length : Int)
         ·rw [if_pos c26] at H; have c26b0 := decide_eq_true c26; clear c26
          by_cases c27 : 0 ≤ x6_2
          ·rw [if_pos c27] at H; have c27b0 := decide_eq_true c27; clear c27
           by_cases c28 : ((Op.bytesLess ((rdOf ByteArray.empty t271 (ji24)).toList) ((rdOf ByteArray.empty t271 x6_2).toList)) = true)
           ·rw [if_pos c28] at H
            have c28b0 : (Op.bytesLess ((rdOf ByteArray.empty t271 (ji24)).toList) ((rdOf ByteArray.empty t271 x6_2).toList)) = true := c28
            clear c28
            have H' := am H
            clear H; obtain ⟨Ao29, co29, eo29⟩ := Kd.R_slice HO_5.out; subst eo29
            have p282 : 0 ≤ ((ji24) : Int) := of_decide_eq_true ad
            have q282 : (ji24) < (t271.length : Int) := of_decide_eq_true ad
            obtain ⟨ad282, e282, hx282_0⟩ := Kd.at_string (Kd.R_reads' HO_5.out).2.2 (ji24) p282 q282
            cases e282
            replace p282 := eq_true p282; replace q282 := eq_true q282
            have p283 : 0 ≤ (x6_2 : Int) := of_decide_eq_true ad
            have q283 : x6_2 < (t271.length : Int) := of_decide_eq_true ad
            obtain ⟨ad283, e283, hx283_0⟩ := Kd.at_string (Kd.R_reads' HO_5.out).2.2 x6_2 p283 q283
            obtain rfl : ad282 = ad283 := (by injection e283)
            replace p283 := eq_true p283; replace q283 := eq_true q283; go_wp2
            repeat (go_quiet (fail); try go_wp2)
            go_roundg k2
            case measure => have := HJ4.out; have := HK2.out; omega
            case rel => exact ⟨(wrap64 (x6_2 + 1)), sq, H', ⟨by have := HJ4.out; have := HK2.out; omega⟩, ⟨rq HO_5.out⟩, ⟨bel⟩⟩
           ·rw [if_neg c28] at H
            have c28b0 : (Op.bytesLess ((rdOf ByteArray.empty t271 (ji24)).toList) ((rdOf ByteArray.empty t271 x6_2).toList)) = false := by simpa using c28
            clear c28; obtain rfl := Option.some.inj H; obtain ⟨Ao30, co30, eo30⟩ := Kd.R_slice HO_5.out; subst eo30
            have p282 : 0 ≤ ((ji24) : Int) := of_decide_eq_true ad
            have q282 : (ji24) < (t271.length : Int) := of_decide_eq_true ad
            obtain ⟨ad282, e282, hx282_0⟩ := Kd.at_string (Kd.R_reads' HO_5.out).2.2 (ji24) p282 q282
            cases e282
            replace p282 := eq_true p282; replace q282 := eq_true q282
            have p283 : 0 ≤ (x6_2 : Int) := of_decide_eq_true ad
            have q283 : x6_2 < (t271.length : Int) := of_decide_eq_true ad
            obtain ⟨ad283, e283, hx283_0⟩ := Kd.at_string (Kd.R_reads' HO_5.out).2.2 x6_2 p283 q283
            obtain rfl : ad282 = ad283 := (by injection e283)
            replace p283 := eq_true p283; replace q283 := eq_true q283; go_wp2
            repeat (go_quiet (fail); try go_wp2)
            go_ret
            exact ⟨by first | rfl | (simp [errW_none, errW_some] <;> rfl) | (simp only [← hji24]; first | rfl | (simp [errW_none, errW_some] <;> rfl)) | (simp [*, errW_none, errW_some] <;> rfl), bel⟩
          ·rw [if_neg c27] at H
           exact absurd H (by simp)
         ·rw [if_neg c26] at H
          exact absurd H (by simp)
        ·rw [if_neg c25] at H
         exact absurd H (by simp)
       ·rw [if_neg c23] at H; have c23b0 := decide_eq_false c23; clear c23
        by_cases c31 : (t271.length : Int) = 0
        ·rw [if_pos c31] at H
         exact absurd H (by simp)
        ·rw [if_neg c31] at H
         have c31b0 : ((t271.length : Int) == 0) = false := beq_eq_false_iff_ne.mpr c31
         have c31b1 : ((t271.length : Int) != 0) = true := bne_iff_ne.mpr c31
         have c31b2 : ¬ (t271 = []) := fun h_ => c31 (by rw [h_]; rfl)
         obtain ⟨ji32, hji32⟩ : ∃ j_ : Int, ((l0.length : Int) % (t271.length : Int)) = j_ := ⟨_, rfl⟩
         replace H : (if 0 ≤ (ji32) then (if (ji32) < (t271.length : Int) then ((impl_Far.f k2 t269 (rdOf ByteArray.empty t271 (ji32))).bind fun t285 => (if t285 = 1 then ((impl_Far.f k2 t269 t270).bind fun t286 => ((laws_mdHas.f k2 t271 t270).bind fun t287 => (some ((t286 == 1) == t287)))) else (some false))) else (none)) else (none)) = some r := by first | (rw [hji32] at H; exact H) | (simp only [hji32] at H ⊢; exact H)
         by_cases c33 : 0 ≤ (ji32)
         ·rw [if_pos c33] at H; have c33b0 := decide_eq_true c33; clear c33
          by_cases c34 : (ji32) < (t271.length : Int)
          ·rw [if_pos c34] at H; have c34b0 := decide_eq_true c34; clear c34; replace H := Option.bind_eq_some_iff.mp H; obtain ⟨t285, A350, H⟩ := H; replace H : (if t285 = 1 then ((impl_Far.f k2 t269 t270).bind fun t286 => ((laws_mdHas.f k2 t271 t270).bind fun t287 => (some ((t286 == 1) == t287)))) else (some false)) = some r := H; have A35 := Aside0.mk A350; clear A350
           by_cases c36 : t285 = 1
           ·rw [if_pos c36] at H
            have c36b0 : (t285 == 1) = true := beq_iff_eq.mpr c36
            have c36b1 : (t285 != 1) = false := bne_eq_false_iff_eq.mpr c36
            clear c36; replace H := Option.bind_eq_some_iff.mp H; obtain ⟨t286, A370, H⟩ := H; replace H : ((laws_mdHas.f k2 t271 t270).bind fun t287 => (some ((t286 == 1) == t287))) = some r := H; have A37 := Aside0.mk A370; clear A370; replace H := Option.bind_eq_some_iff.mp H; obtain ⟨t287, A380, H⟩ := H; replace H : (some ((t286 == 1) == t287)) = some r := H; have A38 := Aside0.mk A380; clear A380; obtain rfl := Option.some.inj H; obtain ⟨Ao39, co39, eo39⟩ := Kd.R_slice HO_5.out; subst eo39
            have p284 : 0 ≤ ((ji32) : Int) := of_decide_eq_true ad
            have q284 : (ji32) < (t271.length : Int) := of_decide_eq_true ad
            obtain ⟨ad284, e284, hx284_0⟩ := Kd.at_string (Kd.R_reads' HO_5.out).2.2 (ji32) p284 q284
            cases e284
            replace p284 := eq_true p284; replace q284 := eq_true q284
            go_wp2_with (first | (go_at_call 49; (with_reducible refine (impl_Far.calls k2 t269 (rdOf ByteArray.empty t271 (ji32)) t285 _ A35.out).mono ?_); rintro e w40 ⟨rfl, hb⟩; replace HO_5 := am (Kd.R_below (rq HO_5.out) hb); replace HB := am (below_step bel hb); (try clear hb); (try clear hb2); (try clear hk); (try clear hi)) | (go_at_call 49; (with_reducible refine (impl_Far.calls k2 t269 t270 t286 _ A37.out).mono ?_); rintro e w41 ⟨rfl, hb⟩; replace HO_5 := am (Kd.R_below (rq HO_5.out) hb); replace HB := am (below_step bel hb); (try clear hb); (try clear hb2); (try clear hk); (try clear hi)) | (go_at_call 29; (with_reducible refine (laws_mdHas.calls k2 _ _ t271 t270 t287 _ ?side1 ?side2 A38.out).mono ?_); (case side1 => exact cq (Kd.R_reads' HO_5.out).2.2); (case side2 => exact (Kd.R_reads' HO_5.out).2.1); rintro e w' ⟨rfl, ⟨nd, rfl⟩⟩; (try first | exact ⟨rfl, _, World.drewN_drewN _ _ _⟩ | exact ⟨rfl, _, Eq.trans (World.drewN_drewN _ _ _) (congrArg (World.drewN _) (Nat.add_assoc _ _ _))⟩)))
            repeat (go_quiet (first | (go_at_call 49; (with_reducible refine (impl_Far.calls k2 t269 (rdOf ByteArray.empty t271 (ji32)) t285 _ A35.out).mono ?_); rintro e w40 ⟨rfl, hb⟩; replace HO_5 := am (Kd.R_below (rq HO_5.out) hb); replace HB := am (below_step bel hb); (try clear hb); (try clear hb2); (try clear hk); (try clear hi)) | (go_at_call 49; (with_reducible refine (impl_Far.calls k2 t269 t270 t286 _ A37.out).mono ?_); rintro e w41 ⟨rfl, hb⟩; replace HO_5 := am (Kd.R_below (rq HO_5.out) hb); replace HB := am (below_step bel hb); (try clear hb); (try clear hb2); (try clear hk); (try clear hi)) | (go_at_call 29; (with_reducible refine (laws_mdHas.calls k2 _ _ t271 t270 t287 _ ?side1 ?side2 A38.out).mono ?_); (case side1 => exact cq (Kd.R_reads' HO_5.out).2.2); (case side2 => exact (Kd.R_reads' HO_5.out).2.1); rintro e w' ⟨rfl, ⟨nd, rfl⟩⟩; (try first | exact ⟨rfl, _, World.drewN_drewN _ _ _⟩ | exact ⟨rfl, _, Eq.trans (World.drewN_drewN _ _ _) (congrArg (World.drewN _) (Nat.add_assoc _ _ _))⟩))); try go_wp2_with (first | (go_at_call 49; (with_reducible refine (impl_Far.calls k2 t269 (rdOf ByteArray.empty t271 (ji32)) t285 _ A35.out).mono ?_); rintro e w40 ⟨rfl, hb⟩; replace HO_5 := am (Kd.R_below (rq HO_5.out) hb); replace HB := am (below_step bel hb); (try clear hb); (try clear hb2); (try clear hk); (try clear hi)) | (go_at_call 49; (with_reducible refine (impl_Far.calls k2 t269 t270 t286 _ A37.out).mono ?_); rintro e w41 ⟨rfl, hb⟩; replace HO_5 := am (Kd.R_below (rq HO_5.out) hb); replace HB := am (below_step bel hb); (try clear hb); (try clear hb2); (try clear hk); (try clear hi)) | (go_at_call 29; (with_reducible refine (laws_mdHas.calls k2 _ _ t271 t270 t287 _ ?side1 ?side2 A38.out).mono ?_); (case side1 => exact cq (Kd.R_reads' HO_5.out).2.2); (case side2 => exact (Kd.R_reads' HO_5.out).2.1); rintro e w' ⟨rfl, ⟨nd, rfl⟩⟩; (try first | exact ⟨rfl, _, World.drewN_drewN _ _ _⟩ | exact ⟨rfl, _, Eq.trans (World.drewN_drewN _ _ _) (congrArg (World.drewN _) (Nat.add_assoc _ _ _))⟩))))
            go_ret
            exact ⟨b23_, bel⟩
           ·rw [if_neg c36] at H
            have c36b0 : (t285 == 1) = false := beq_eq_false_iff_ne.mpr c36
            have c36b1 : (t285 != 1) = true := bne_iff_ne.mpr c36
            obtain rfl := Option.some.inj H; obtain ⟨Ao42, co42, eo42⟩ := Kd.R_slice HO_5.out; subst eo42
            have p284 : 0 ≤ ((ji32) : Int) := of_decide_eq_true ad
            have q284 : (ji32) < (t271.length : Int) := of_decide_eq_true ad
            obtain ⟨ad284, e284, hx284_0⟩ := Kd.at_string (Kd.R_reads' HO_5.out).2.2 (ji32) p284 q284
            cases e284
            replace p284 := eq_true p284; replace q284 := eq_true q284
            go_wp2_with (first | (go_at_call 49; (with_reducible refine (impl_Far.calls k2 t269 (rdOf ByteArray.empty t271 (ji32)) t285 _ A35.out).mono ?_); rintro e w43 ⟨rfl, hb⟩; replace HO_5 := am (Kd.R_below (rq HO_5.out) hb); replace HB := am (below_step bel hb); (try clear hb); (try clear hb2); (try clear hk); (try clear hi)))
            repeat (go_quiet (first | (go_at_call 49; (with_reducible refine (impl_Far.calls k2 t269 (rdOf ByteArray.empty t271 (ji32)) t285 _ A35.out).mono ?_); rintro e w43 ⟨rfl, hb⟩; replace HO_5 := am (Kd.R_below (rq HO_5.out) hb); replace HB := am (below_step bel hb); (try clear hb); (try clear hb2); (try clear hk); (try clear hi))); try go_wp2_with (first | (go_at_call 49; (with_reducible refine (impl_Far.calls k2 t269 (rdOf ByteArray.empty t271 (ji32)) t285 _ A35.out).mono ?_); rintro e w43 ⟨rfl, hb⟩; replace HO_5 := am (Kd.R_below (rq HO_5.out) hb); replace HB := am (below_step bel hb); (try clear hb); (try clear hb2); (try clear hk); (try clear hi))))
            go_ret
            exact ⟨b23_, bel⟩
          ·rw [if_neg c34] at H
           exact absurd H (by simp)
         ·rw [if_neg c33] at H
          exact absurd H (by simp)

/-- THE ONE PURE STATEMENT of laws_FnNear: yours. -/
def laws_FnNear.Pure : Prop := ∀ (l0 : List Int), l0.length ≤ maxLen → l0.length * 1 ≤ 140737488351232 → (∀ x ∈ l0, (Lit.int .u8 x).wf = true) → ∃ k, laws_FnNear.f k l0 = some true
theorem laws_FnNear.walk (P : laws_FnNear.Pure) (a0 : Option Addr) (len0 cap0 : Nat) (z0 : List Int) (w : World) (w0 : (a0 = none ∧ len0 = 0 ∧ cap0 = 0 ∧ z0 = []) ∨ ∃ x, a0 = some x ∧ len0 ≤ cap0 ∧ cap0 ≤ maxLen ∧ z0.length = cap0 ∧ (∀ i, i < z0.length → w.cell? (x.add i) = some (.int .u8 (z0.getD i 0))) ∧ ∀ n ∈ z0, (Lit.int .u8 n).wf = true) (y0 : len0 * 1 ≤ 140737488351232) :
  Calls Try.prog 13 #[.slice a0 len0 cap0] w fun e w' => e = .returned (.bool true) ∧ Below w.heap.size w w' := by
 obtain ⟨l0, rfl, hr0, hm0, hw0, hc0⟩ := ReadsInt.ofRowC w0; obtain ⟨k, h⟩ := P l0 hm0 y0 hw0
 refine (laws_FnNear.calls k _ _ l0 true w (Kd.C_of_reads (d := (0 : Int)) (h1 := fun _ => rfl) hr0) hc0 h).mono ?_
 rintro e w' ⟨rfl, hd⟩
 exact ⟨rfl, hd⟩

end Go.Proofs.Ytedfcehhgbeibaa.QFnNear

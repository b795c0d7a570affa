import Derived.Test.YtedfcehhgbeibaaQFnFormsx0
import Derived.Test.YtedfcehhgbeibaaQFnFormsx7
import Derived.Test.YtedfcehhgbeibaaQFnFormsx8
import Derived.Test.YtedfcehhgbeibaaQFnFormsx11
import Derived.Test.YtedfcehhgbeibaaQFnFormsx16
import Derived.Test.YtedfcehhgbeibaaVMSh2
namespace Go.Proofs.Ytedfcehhgbeibaa.QFnForms
open Go.RowKit Go.Proofs.YtedfcehhgbeibaaW.PrintWords Go.Proofs.YtedfcehhgbeibaaW.PrintLast Go.Proofs.YtedfcehhgbeibaaW.PrintMore Go.Proofs.Ytedfcehhgbeibaa.Sh
attribute [local go_sem] max2_int min2_int max_two min_two max_three min_three max_four min_four   -- for this text's walks alone
set_option linter.unusedVariables false
set_option linter.unusedSimpArgs false
-- shrunk

/-! ### laws_FnForms: function 4 -/
mutual
def laws_FnForms.j0 : Nat → List (S44) → List ByteArray → Bool → ByteArray → ByteArray → Option (Bool)
 | 0, _, _, _, _, _ => none
 | k + 1, x3, x5, x33, x440000, x440001 => if x33 = true then ((spec_Forms.f k x3 x440000 x440001).bind fun t447 => ((laws_mdTexts.f k x5 t447).bind fun t450 => (some t450))) else (laws_FnForms.l0 k x3 x5 0 x440000 x440001)
def laws_FnForms.l0 : Nat → List (S44) → List ByteArray → Int → ByteArray → ByteArray → Option (Bool)
 | 0, _, _, _, _, _ => none
 | k + 1, x3, x5, x6, x440000, x440001 => if x6 < (x3.length : Int) then (if 0 ≤ x6 then ((impl_AffixDo.f k ((rd_T44 x3 x6).f0) ((rd_T44 x3 x6).f1) ((rd_T44 x3 x6).f2) ((rd_T44 x3 x6).f3) ((rd_T44 x3 x6).f4) x440000).bind fun bt452 => (laws_FnForms.l1 k x3 x5 x6 bt452.1 bt452.2 false 0 x440000 x440001)) else (none)) else (laws_FnForms.l2 k x3 x5 0 x440000 x440001)
def laws_FnForms.l1 : Nat → List (S44) → List ByteArray → Int → ByteArray → Bool → Bool → Int → ByteArray → ByteArray → Option (Bool)
 | 0, _, _, _, _, _, _, _, _, _ => none
 | k + 1, x3, x5, x6, x7, x8, x9, x10, x440000, x440001 => if x10 < (x440001.size : Int) then (if x9 = true then (laws_FnForms.l1 k x3 x5 x6 x7 x8 true (wrap64 (x10 + 1)) x440000 x440001) else (if 0 ≤ x10 then (if x10 ≤ (wrap64 (x10 + 1)) then (if (wrap64 (x10 + 1)) ≤ (x440001.size : Int) then (if 0 ≤ x6 then (if x6 < (x3.length : Int) then (laws_FnForms.l1 k x3 x5 x6 x7 x8 ((x440001.extract (x10 : Int).toNat ((wrap64 (x10 + 1)) : Int).toNat).toList == ((rd_T44 x3 x6).f0).toList) (wrap64 (x10 + 1)) x440000 x440001) else (none)) else (none)) else (none)) else (none)) else (none))) else (if x8 = true then (if x9 = true then ((laws_mdHas.f k x5 x7).bind fun t455 => (if t455 = true then (laws_FnForms.l0 k x3 x5 (wrap64 (x6 + 1)) x440000 x440001) else (some false))) else (laws_FnForms.l0 k x3 x5 (wrap64 (x6 + 1)) x440000 x440001)) else (laws_FnForms.l0 k x3 x5 (wrap64 (x6 + 1)) x440000 x440001))
def laws_FnForms.l2 : Nat → List (S44) → List ByteArray → Int → ByteArray → ByteArray → Option (Bool)
 | 0, _, _, _, _, _ => none
 | k + 1, x3, x5, x11, x440000, x440001 => if x11 < (x5.length : Int) then (if 0 ≤ x11 then ((impl_WordOk.f k (rdOf ByteArray.empty x5 x11)).bind fun t457 => (if t457 = true then (if x11 > 0 then (if 0 ≤ (wrap64 (x11 - 1)) then (if (wrap64 (x11 - 1)) < (x5.length : Int) then (if ((Op.bytesLess ((rdOf ByteArray.empty x5 (wrap64 (x11 - 1))).toList) ((rdOf ByteArray.empty x5 x11).toList)) = true) then (laws_FnForms.l2 k x3 x5 (wrap64 (x11 + 1)) x440000 x440001) else (some false)) else (none)) else (none)) else (laws_FnForms.l2 k x3 x5 (wrap64 (x11 + 1)) x440000 x440001)) else (some false))) else (none)) else ((laws_mdHas.f k x5 x440000).bind fun t460 => (if t460 = true then ((impl_Forms.f k x3 x440000 (⟨#[]⟩ : ByteArray)).bind fun t461 => ((laws_mdTexts.f k t461 (([x440000] : List ByteArray))).bind fun t467 => (some t467))) else (some false)))
end
def laws_FnForms.f (k : Nat) (l0 : List Int) : Option (Bool) := if (l0.length : Int) > 1048576 then (some true) else ((spec_DrawForms.f k l0).bind fun bt434 => ((impl_Forms.f k bt434.1 bt434.2.1 bt434.2.2).bind fun t440 => ((spec_Forms.f k bt434.1 bt434.2.1 bt434.2.2).bind fun t443 => ((laws_mdTexts.f k t440 t443).bind fun t446 => (if t446 = true then (laws_FnForms.j0 k bt434.1 t440 ((t440.length : Int) == 0) bt434.2.1 bt434.2.2) else (laws_FnForms.j0 k bt434.1 t440 true bt434.2.1 bt434.2.2))))))
theorem laws_FnForms.mono_l : ∀ k, (∀ y0 y1 y2 y3 y4, LeO (laws_FnForms.j0 k y0 y1 y2 y3 y4) (laws_FnForms.j0 (k + 1) y0 y1 y2 y3 y4)) ∧ (∀ y0 y1 y2 y3 y4, LeO (laws_FnForms.l0 k y0 y1 y2 y3 y4) (laws_FnForms.l0 (k + 1) y0 y1 y2 y3 y4)) ∧ (∀ y0 y1 y2 y3 y4 y5 y6 y7 y8, LeO (laws_FnForms.l1 k y0 y1 y2 y3 y4 y5 y6 y7 y8) (laws_FnForms.l1 (k + 1) y0 y1 y2 y3 y4 y5 y6 y7 y8)) ∧ (∀ y0 y1 y2 y3 y4, LeO (laws_FnForms.l2 k y0 y1 y2 y3 y4) (laws_FnForms.l2 (k + 1) y0 y1 y2 y3 y4))
 | 0 => ⟨fun _ _ _ _ _ r h => by simp [laws_FnForms.j0] at h, fun _ _ _ _ _ r h => by simp [laws_FnForms.l0] at h, fun _ _ _ _ _ _ _ _ _ r h => by simp [laws_FnForms.l1] at h, fun _ _ _ _ _ r h => by simp [laws_FnForms.l2] at h⟩
 | k + 1 => by
  obtain ⟨ih0, ih1, ih2, ih3⟩ := laws_FnForms.mono_l k
  refine ⟨?_, ?_, ?_, ?_⟩
  ·intro y0 y1 y2 y3 y4
   unfold laws_FnForms.j0
   repeat' first | (with_reducible first | exact ih0 _ _ _ _ _ | exact ih1 _ _ _ _ _ | exact ih2 _ _ _ _ _ _ _ _ _ | exact ih3 _ _ _ _ _ | exact impl_AffixDo.mono _ _ _ _ _ _ _ | exact impl_Forms.mono _ _ _ _ | exact impl_WordOk.mono _ _ | exact laws_mdHas.mono _ _ _ | exact laws_mdTexts.mono _ _ _ | exact spec_DrawForms.mono _ _ | exact spec_Forms.mono _ _ _ _ | exact LeO.refl _ | exact LeO.none _ | refine LeO.ite ?_ ?_ | refine LeO.bind ?_ (fun _ => ?_)) | exact ih0 _ _ _ _ _ | exact ih1 _ _ _ _ _ | exact ih2 _ _ _ _ _ _ _ _ _ | exact ih3 _ _ _ _ _ | exact impl_AffixDo.mono _ _ _ _ _ _ _ | exact impl_Forms.mono _ _ _ _ | exact impl_WordOk.mono _ _ | exact laws_mdHas.mono _ _ _ | exact laws_mdTexts.mono _ _ _ | exact spec_DrawForms.mono _ _ | exact spec_Forms.mono _ _ _ _ | exact LeO.none _ | refine LeO.ite ?_ ?_ | refine LeO.bind ?_ (fun _ => ?_)
  ·intro y0 y1 y2 y3 y4
   unfold laws_FnForms.l0
   repeat' first | (with_reducible first | exact ih0 _ _ _ _ _ | exact ih1 _ _ _ _ _ | exact ih2 _ _ _ _ _ _ _ _ _ | exact ih3 _ _ _ _ _ | exact impl_AffixDo.mono _ _ _ _ _ _ _ | exact impl_Forms.mono _ _ _ _ | exact impl_WordOk.mono _ _ | exact laws_mdHas.mono _ _ _ | exact laws_mdTexts.mono _ _ _ | exact spec_DrawForms.mono _ _ | exact spec_Forms.mono _ _ _ _ | exact LeO.refl _ | exact LeO.none _ | refine LeO.ite ?_ ?_ | refine LeO.bind ?_ (fun _ => ?_)) | exact ih0 _ _ _ _ _ | exact ih1 _ _ _ _ _ | exact ih2 _ _ _ _ _ _ _ _ _ | exact ih3 _ _ _ _ _ | exact impl_AffixDo.mono _ _ _ _ _ _ _ | exact impl_Forms.mono _ _ _ _ | exact impl_WordOk.mono _ _ | exact laws_mdHas.mono _ _ _ | exact laws_mdTexts.mono _ _ _ | exact spec_DrawForms.mono _ _ | exact spec_Forms.mono _ _ _ _ | exact LeO.none _ | refine LeO.ite ?_ ?_ | refine LeO.bind ?_ (fun _ => ?_)
  ·intro y0 y1 y2 y3 y4 y5 y6 y7 y8
   unfold laws_FnForms.l1
   repeat' first | (with_reducible first | exact ih0 _ _ _ _ _ | exact ih1 _ _ _ _ _ | exact ih2 _ _ _ _ _ _ _ _ _ | exact ih3 _ _ _ _ _ | exact impl_AffixDo.mono _ _ _ _ _ _ _ | exact impl_Forms.mono _ _ _ _ | exact impl_WordOk.mono _ _ | exact laws_mdHas.mono _ _ _ | exact laws_mdTexts.mono _ _ _ | exact spec_DrawForms.mono _ _ | exact spec_Forms.mono _ _ _ _ | exact LeO.refl _ | exact LeO.none _ | refine LeO.ite ?_ ?_ | refine LeO.bind ?_ (fun _ => ?_)) | exact ih0 _ _ _ _ _ | exact ih1 _ _ _ _ _ | exact ih2 _ _ _ _ _ _ _ _ _ | exact ih3 _ _ _ _ _ | exact impl_AffixDo.mono _ _ _ _ _ _ _ | exact impl_Forms.mono _ _ _ _ | exact impl_WordOk.mono _ _ | exact laws_mdHas.mono _ _ _ | exact laws_mdTexts.mono _ _ _ | exact spec_DrawForms.mono _ _ | exact spec_Forms.mono _ _ _ _ | exact LeO.none _ | refine LeO.ite ?_ ?_ | refine LeO.bind ?_ (fun _ => ?_)
  ·intro y0 y1 y2 y3 y4
   unfold laws_FnForms.l2
   repeat' first | (with_reducible first | exact ih0 _ _ _ _ _ | exact ih1 _ _ _ _ _ | exact ih2 _ _ _ _ _ _ _ _ _ | exact ih3 _ _ _ _ _ | exact impl_AffixDo.mono _ _ _ _ _ _ _ | exact impl_Forms.mono _ _ _ _ | exact impl_WordOk.mono _ _ | exact laws_mdHas.mono _ _ _ | exact laws_mdTexts.mono _ _ _ | exact spec_DrawForms.mono _ _ | exact spec_Forms.mono _ _ _ _ | exact LeO.refl _ | exact LeO.none _ | refine LeO.ite ?_ ?_ | refine LeO.bind ?_ (fun _ => ?_)) | exact ih0 _ _ _ _ _ | exact ih1 _ _ _ _ _ | exact ih2 _ _ _ _ _ _ _ _ _ | exact ih3 _ _ _ _ _ | exact impl_AffixDo.mono _ _ _ _ _ _ _ | exact impl_Forms.mono _ _ _ _ | exact impl_WordOk.mono _ _ | exact laws_mdHas.mono _ _ _ | exact laws_mdTexts.mono _ _ _ | exact spec_DrawForms.mono _ _ | exact spec_Forms.mono _ _ _ _ | exact LeO.none _ | refine LeO.ite ?_ ?_ | refine LeO.bind ?_ (fun _ => ?_)
theorem laws_FnForms.mono : ∀ a0 k, LeO (laws_FnForms.f k a0) (laws_FnForms.f (k + 1) a0) := by
 intro a0 k; obtain ⟨ih0, ih1, ih2, ih3⟩ := laws_FnForms.mono_l k
 unfold laws_FnForms.f
 repeat' first | (with_reducible first | exact ih0 _ _ _ _ _ | exact ih1 _ _ _ _ _ | exact ih2 _ _ _ _ _ _ _ _ _ | exact ih3 _ _ _ _ _ | exact impl_AffixDo.mono _ _ _ _ _ _ _ | exact impl_Forms.mono _ _ _ _ | exact impl_WordOk.mono _ _ | exact laws_mdHas.mono _ _ _ | exact laws_mdTexts.mono _ _ _ | exact spec_DrawForms.mono _ _ | exact spec_Forms.mono _ _ _ _ | exact LeO.refl _ | exact LeO.none _ | refine LeO.ite ?_ ?_ | refine LeO.bind ?_ (fun _ => ?_)) | exact ih0 _ _ _ _ _ | exact ih1 _ _ _ _ _ | exact ih2 _ _ _ _ _ _ _ _ _ | exact ih3 _ _ _ _ _ | exact impl_AffixDo.mono _ _ _ _ _ _ _ | exact impl_Forms.mono _ _ _ _ | exact impl_WordOk.mono _ _ | exact laws_mdHas.mono _ _ _ | exact laws_mdTexts.mono _ _ _ | exact spec_DrawForms.mono _ _ | exact spec_Forms.mono _ _ _ _ | exact LeO.none _ | refine LeO.ite ?_ ?_ | refine LeO.bind ?_ (fun _ => ?_)
def laws_FnForms.T10 : Bool × List (List Nat × List Nat) := (true, [([], []), ([], []), ([0, 1], [0, 1]), ([2], [2]), ([], []), ([4], [4]), ([3, 5], [3, 5]), ([6], [6]), ([7], [7]), ([7], [7]), ([8, 6, 0, 1, 2, 3, 4, 5, 6, 7, 8], [8]), ([9, 10, 0, 1, 2, 3, 4, 5, 6, 7, 8, 9, 10], [9])])
def laws_FnForms.B10 : List Nat := [0, 0, 3, 7, 0, 16, 63, 127, 255, 255, 511, 2047]
theorem laws_FnForms.tab10 : rtab .any (opsOf Try.f4 10) = laws_FnForms.T10 := by kernel_rfl
theorem laws_FnForms.bits10 : waitsOk laws_FnForms.T10.2 laws_FnForms.B10 = true := by kernel_rfl
def laws_FnForms.T15 : Bool × List (List Nat × List Nat) := (true, [([], []), ([0], [0]), ([1], [1]), ([2, 1], [1, 2]), ([1], [1]), ([1], [1]), ([5, 1], [1, 5]), ([3, 4, 6, 1], [1, 3, 4, 6]), ([1], [1]), ([1], [1]), ([8, 9, 1], [1, 8, 9]), ([10, 1], [1, 10]), ([11, 1], [1, 11]), ([7, 12, 1], [1, 7, 12]), ([1, 13], [1, 13]), ([14, 1, 0, 1, 2, 3, 4, 5, 6, 7, 8, 9, 10, 11, 12, 13, 14], [0, 14])])
def laws_FnForms.B15 : List Nat := [0, 1, 3, 7, 3, 3, 35, 127, 3, 3, 771, 1795, 3843, 8191, 16383, 32767]
theorem laws_FnForms.tab15 : rtab .any (opsOf Try.f4 15) = laws_FnForms.T15 := by kernel_rfl
theorem laws_FnForms.bits15 : waitsOk laws_FnForms.T15.2 laws_FnForms.B15 = true := by kernel_rfl
def laws_FnForms.T21 : Bool × List (List Nat × List Nat) := (true, [([], []), ([], []), ([0, 1], [0, 1]), ([2], [2]), ([3], [3]), ([4], [4]), ([5, 4], [5]), ([6], [6]), ([7, 6], [6, 7]), ([8, 6, 6], [6, 8]), ([9], [9]), ([9], [9]), ([11, 9], [9, 11]), ([10, 12, 9], [9, 10, 12]), ([13, 9], [9, 13]), ([9], [9]), ([9], [9]), ([15, 16, 9], [9, 15, 16]), ([17, 9], [9, 17]), ([14, 18, 9], [9, 14, 18]), ([9, 19, 6], [6, 9, 19]), ([6, 20], [6, 20])])
def laws_FnForms.B21 : List Nat := [0, 0, 3, 7, 15, 31, 63, 127, 255, 511, 1023, 1023, 3071, 8191, 16383, 1023, 1023, 99327, 230399, 524287, 1048575, 2097151]
theorem laws_FnForms.tab21 : rtab .any (opsOf Try.f4 21) = laws_FnForms.T21 := by kernel_rfl
theorem laws_FnForms.bits21 : waitsOk laws_FnForms.T21.2 laws_FnForms.B21 = true := by kernel_rfl
def laws_FnForms.T23 : Bool × List (List Nat × List Nat) := (true, [([], []), ([], []), ([1], [1]), ([0, 2], [0, 2]), ([3, 3], [3]), ([4], [4]), ([4], [4]), ([6, 4], [4, 6]), ([7, 4], [4, 7]), ([5, 8, 4, 4], [4, 5, 8]), ([4], [4]), ([10, 4], [4, 10]), ([11, 4], [4, 11]), ([9, 12, 9, 4], [4, 9, 12]), ([4, 13], [4, 13]), ([14, 13, 0, 1, 2, 3, 4, 5, 6, 7, 8, 9, 10, 11, 12, 13, 14], [14])])
def laws_FnForms.B23 : List Nat := [0, 0, 2, 7, 15, 31, 31, 95, 223, 511, 31, 1055, 3103, 8191, 16383, 32767]
theorem laws_FnForms.tab23 : rtab .any (opsOf Try.f4 23) = laws_FnForms.T23 := by kernel_rfl
theorem laws_FnForms.bits23 : waitsOk laws_FnForms.T23.2 laws_FnForms.B23 = true := by kernel_rfl
set_option maxHeartbeats 8000000 in
set_option maxRecDepth 100000 in
theorem laws_FnForms.calls (k : Nat) (A0 : Option Addr) (c0 : Nat) (l0 : List Int) (r : Bool) (w : World) (hr0 : Kd.C (Kd.int .u8) w A0 l0.length l0) (hc0 : l0.length ≤ c0) (h : laws_FnForms.f k l0 = some r) :
  Calls Try.prog 4 #[.slice A0 l0.length c0] w fun e w' => e = .returned (.bool r) ∧ Below w.heap.size w w' := by
 have hu31 := Try.underlying31; have hu44 := Try.underlying44; have HR0 := am hr0; have HC0 := am hc0; clear hr0 hc0; have HB := am (Below.refl w.heap.size w)
 have H : (if (l0.length : Int) > 1048576 then (some true) else ((spec_DrawForms.f k l0).bind fun bt434 => ((impl_Forms.f k bt434.1 bt434.2.1 bt434.2.2).bind fun t440 => ((spec_Forms.f k bt434.1 bt434.2.1 bt434.2.2).bind fun t443 => ((laws_mdTexts.f k t440 t443).bind fun t446 => (if t446 = true then (laws_FnForms.j0 k bt434.1 t440 ((t440.length : Int) == 0) bt434.2.1 bt434.2.2) else (laws_FnForms.j0 k bt434.1 t440 true bt434.2.1 bt434.2.2))))))) = some r := h
 clear h
 by_cases c2 : (l0.length : Int) > 1048576
 ·rw [if_pos c2] at H; have c2b0 := decide_eq_true c2
  have c2b1 : decide (1048576 < l0.length) = true := decide_eq_true (by omega)
  clear c2; obtain rfl := Option.some.inj H; go_enter Try.func4, Try.ntmps4; go_wp2; go_ret
  exact ⟨eq_, bel⟩
 ·rw [if_neg c2] at H; have c2b0 := decide_eq_false c2
  have c2b1 : decide (1048576 < l0.length) = false := decide_eq_false (by omega)
  clear c2; replace H := Option.bind_eq_some_iff.mp H; obtain ⟨⟨t434, t437, t438⟩, A30, H⟩ := H; replace H : ((impl_Forms.f k t434 t437 t438).bind fun t440 => ((spec_Forms.f k t434 t437 t438).bind fun t443 => ((laws_mdTexts.f k t440 t443).bind fun t446 => (if t446 = true then (laws_FnForms.j0 k t434 t440 ((t440.length : Int) == 0) t437 t438) else (laws_FnForms.j0 k t434 t440 true t437 t438))))) = some r := H; have A3 := Aside0.mk A30; clear A30; replace H := Option.bind_eq_some_iff.mp H; obtain ⟨t440, A40, H⟩ := H; replace H : ((spec_Forms.f k t434 t437 t438).bind fun t443 => ((laws_mdTexts.f k t440 t443).bind fun t446 => (if t446 = true then (laws_FnForms.j0 k t434 t440 ((t440.length : Int) == 0) t437 t438) else (laws_FnForms.j0 k t434 t440 true t437 t438)))) = some r := H; have A4 := Aside0.mk A40; clear A40; have HC5 := am H; clear H; go_enter Try.func4, Try.ntmps4
  go_upto_region 5 with (first | ((with_reducible refine gate_callee (f := 26) rfl ?_); refine goesL_ (some 17) rfl rfl Try.func26 (by kernel_rfl) rfl #[.slice A0 l0.length c0] rfl mq ?_; (with_reducible refine (spec_DrawForms.calls k _ _ l0 t434 t437 t438 _ ?side1 ?side2 A3.out).mono ?_); (case side1 => repeat (first | exact HR0.out | (with_reducible refine Kd.C_alloc ?_ _) | (with_reducible refine Kd.C_drewN ?_ _) | (with_reducible refine Kd.C_drew ?_))); (case side2 => exact HC0.out); rintro e w6 ⟨v435, rfl, ho0, hb⟩; refine ⟨_, rfl, ?_⟩; have HO436 := am (Kd.R_lower ho0 (below_size bel)); replace HB := am (below_step bel hb); (try clear hb); (try clear hb2); (try clear hk); (try clear hi); (try clear ho0)) | ((with_reducible refine gate_dst (N := 4) rfl ?_); (try (refine gate_guard (by rfl) ?_; dsimp only)); refine bx 4 (cs := #[.string (⟨#[]⟩ : ByteArray), .string (⟨#[]⟩ : ByteArray)]) (t := 31) ?_; intro gb439 hg w7 hbox hb; replace HO436 := am (Kd.R_below (rq HO436.out) hb); have BK439 := am (hbox); have GW439 := am ((b22_ : w.heap.size ≤ gb439)); have GE439 := am ((b22_ : w.heap.size ≤ gb439)); replace HB := am (below_step bel hb); clear hb hbox hg; have hcz8_0 := bc BK439.out 0; have hcz8_1 := bc BK439.out 1; have hfz8_0 := bf BK439.out 0; have hfz8_1 := bf BK439.out 1; obtain ⟨Ao9, co9, eo9⟩ := Kd.R_slice HO436.out; subst eo9) | ((with_reducible refine gate_callee (f := 20) rfl ?_); refine goesL_ (some 22) rfl rfl Try.func20 (by kernel_rfl) rfl #[.slice Ao9 t434.length co9, .agg #[.string t437, .string t438]] rfl mq ?_; (with_reducible refine (impl_Forms.calls k _ _ t434 t437 t438 t440 _ ?side1 ?side2 A4.out).mono ?_); (case side1 => refine (Kd.R_reads' (e := 44) (base := w.heap.size) (ok := fun k_ => True) (n := t434.length) (c := co9) ?_).2.2; exact (rq ((Kd.R_mono (Kd.R_far (p := ⟨gb439, 1, none⟩) (Kd.R_far (p := ⟨gb439, 0, none⟩) (Kd.R_types HO436.out BK439.out (by decide)) (fun _ hk => hk.2) (.string t437)) (fun _ hk => hk.2) (.string t438)) (fun _ h_ => h_.1))))); (case side2 => exact (Kd.R_reads' HO436.out).2.1); rintro e w10 ⟨v441, rfl, ho0, hb⟩; refine ⟨_, rfl, ?_⟩; replace HO436 := am (Kd.R_below (rq ((Kd.R_mono (Kd.R_far (p := ⟨gb439, 1, none⟩) (Kd.R_far (p := ⟨gb439, 0, none⟩) (Kd.R_types HO436.out BK439.out (by decide)) (fun _ hk => hk.2) (.string t437)) (fun _ hk => hk.2) (.string t438)) (fun _ h_ => h_.1)))) hb); have HO442 := am (Kd.R_lower ho0 (below_size (bel1 GE439.out))); replace BK439 := am (blk_below (g := gb439) (o := .cells #[.string t437, .string t438] 31 (0, 0)) (by (with_reducible repeat (first | refine blk_drewN ?_ _ | refine blk_drew ?_ | refine blk_alloc ?_ _)); refine blk_put (cs := #[.string t437, .string (⟨#[]⟩ : ByteArray)]) ?_ 1 _ rfl; (with_reducible repeat (first | refine blk_drewN ?_ _ | refine blk_drew ?_ | refine blk_alloc ?_ _)); refine blk_put (cs := #[.string (⟨#[]⟩ : ByteArray), .string (⟨#[]⟩ : ByteArray)]) ?_ 0 _ rfl; (with_reducible repeat (first | refine blk_drewN ?_ _ | refine blk_drew ?_ | refine blk_alloc ?_ _)); exact BK439.out) hb); replace HB := am (below_step (bel1 GE439.out) hb); (try clear hb); (try clear hb2); (try clear hk); (try clear hi); (try clear ho0)))
  (try simp only [Act.put, List.setIfInBounds_toArray, List.set_cons_zero, List.set_cons_succ])
  go_cut [33] (fun v33 wc => ∃ (kq : Nat) (x33_4 : Bool), v33 = .bool x33_4 ∧ Aside0 (laws_FnForms.j0 kq t434 t440 x33_4 t437 t438 = some r) ∧ Aside0 (kq ≤ k) ∧ Aside0 (Kd.R k44 44 wc w.heap.size (fun _ => True) (.slice Ao9 t434.length co9) t434) ∧ Aside0 (Kd.R Kd.string 9 wc w.heap.size (fun _ => True) v441 t440) ∧ Aside0 (wc.heap[gb439]? = some (.cells #[.string t437, .string t438] 31 (0, 0))) ∧ Aside0 (Below w.heap.size w wc))
  case first =>
   have H := HC5.out; clear HC5; replace H := Option.bind_eq_some_iff.mp H; obtain ⟨t443, A110, H⟩ := H; replace H : ((laws_mdTexts.f k t440 t443).bind fun t446 => (if t446 = true then (laws_FnForms.j0 k t434 t440 ((t440.length : Int) == 0) t437 t438) else (laws_FnForms.j0 k t434 t440 true t437 t438))) = some r := H; have A11 := Aside0.mk A110; clear A110; replace H := Option.bind_eq_some_iff.mp H; obtain ⟨t446, A120, H⟩ := H; replace H : (if t446 = true then (laws_FnForms.j0 k t434 t440 ((t440.length : Int) == 0) t437 t438) else (laws_FnForms.j0 k t434 t440 true t437 t438)) = some r := H; have A12 := Aside0.mk A120; clear A120
   by_cases c13 : t446 = true
   ·subst c13
    have H1 : (laws_FnForms.j0 k t434 t440 ((t440.length : Int) == 0) t437 t438) = some r := b32_
    replace H := H1; clear H1
    have H' := am H
    clear H; have hcz14_0 := bc BK439.out 0; have hcz14_1 := bc BK439.out 1; have hfz14_0 := bf BK439.out 0; have hfz14_1 := bf BK439.out 1
    go_wp2_with (first | ((with_reducible refine gate_callee (f := 17) rfl ?_); refine goesL_ (some 26) rfl rfl Try.func17 (by kernel_rfl) rfl #[.slice Ao9 t434.length co9, .agg #[.string t437, .string t438]] rfl mq ?_; (with_reducible refine (spec_Forms.calls k _ _ t434 t437 t438 t443 _ ?side1 ?side2 A11.out).mono ?_); (case side1 => exact cq (Kd.R_reads' HO436.out).2.2); (case side2 => exact (Kd.R_reads' HO436.out).2.1); rintro e w15 ⟨v444, rfl, ho0, hb⟩; refine ⟨_, rfl, ?_⟩; have HO445 := am (Kd.V_lower (Kd.V_mono (ok' := fun k_ => some k_ ≠ (.slice Ao9 t434.length co9 : Value).ownBlock ∧ some k_ ≠ (v441 : Value).ownBlock ∧ k_ ≠ gb439) ho0 (fun k_ hk_ => ⟨(Kd.fresh' (Kd.R_lt (rq HO436.out)) k_ hk_), (Kd.fresh' (Kd.R_lt (rq HO442.out)) k_ hk_), (Kd.freshB (g := gb439) (o := .cells #[.string t437, .string t438] 31 (0, 0)) (bq BK439.out) k_ hk_)⟩)) (below_size (bel1 GE439.out))); replace HO436 := am (Kd.R_below (rq HO436.out) hb); replace HO442 := am (Kd.R_below (rq HO442.out) hb); replace BK439 := am (blk_below (g := gb439) (o := .cells #[.string t437, .string t438] 31 (0, 0)) (bq BK439.out) hb); replace HB := am (below_step (bel1 GE439.out) hb); (try clear hb); (try clear hb2); (try clear hk); (try clear hi); (try clear ho0); obtain ⟨Ao16, co16, eo16⟩ := Kd.R_slice HO442.out; subst eo16; obtain ⟨Ao17, co17, eo17⟩ := Kd.V_slice HO445.out; subst eo17) | ((with_reducible refine gate_callee (f := 27) rfl ?_); refine goesL_ (some 27) rfl rfl Try.func27 (by kernel_rfl) rfl #[.slice Ao16 t440.length co16, .slice Ao17 t443.length co17] rfl mq ?_; (with_reducible refine (laws_mdTexts.calls k _ _ t440 _ _ t443 true _ ?side1 ?side2 ?side3 ?side4 A12.out).mono ?_); (case side1 => exact cq (Kd.R_reads' HO442.out).2.2); (case side2 => exact (Kd.R_reads' HO442.out).2.1); (case side3 => exact cq (Kd.V_reads' HO445.out).2.2); (case side4 => exact (Kd.V_reads' HO445.out).2.1); rintro e w' ⟨rfl, ⟨nd, rfl⟩⟩; refine ⟨_, rfl, ?_⟩))
    go_meet
    case rel => exact ⟨_, (((t440.length : Int) == 0)), sq, H', ⟨b68_⟩, ⟨rq HO436.out⟩, ⟨rq HO442.out⟩, ⟨bq BK439.out⟩, ⟨bel1 GE439.out⟩⟩
   ·replace c13 := Bool.eq_false_iff.mpr c13; subst c13
    have H1 : (laws_FnForms.j0 k t434 t440 true t437 t438) = some r := b18_
    replace H := H1; clear H1
    have H' := am H
    clear H; have hcz18_0 := bc BK439.out 0; have hcz18_1 := bc BK439.out 1; have hfz18_0 := bf BK439.out 0; have hfz18_1 := bf BK439.out 1
    go_wp2_with (first | ((with_reducible refine gate_callee (f := 17) rfl ?_); refine goesL_ (some 26) rfl rfl Try.func17 (by kernel_rfl) rfl #[.slice Ao9 t434.length co9, .agg #[.string t437, .string t438]] rfl mq ?_; (with_reducible refine (spec_Forms.calls k _ _ t434 t437 t438 t443 _ ?side1 ?side2 A11.out).mono ?_); (case side1 => exact cq (Kd.R_reads' HO436.out).2.2); (case side2 => exact (Kd.R_reads' HO436.out).2.1); rintro e w19 ⟨v444, rfl, ho0, hb⟩; refine ⟨_, rfl, ?_⟩; have HO445 := am (Kd.V_lower (Kd.V_mono (ok' := fun k_ => some k_ ≠ (.slice Ao9 t434.length co9 : Value).ownBlock ∧ some k_ ≠ (v441 : Value).ownBlock ∧ k_ ≠ gb439) ho0 (fun k_ hk_ => ⟨(Kd.fresh' (Kd.R_lt (rq HO436.out)) k_ hk_), (Kd.fresh' (Kd.R_lt (rq HO442.out)) k_ hk_), (Kd.freshB (g := gb439) (o := .cells #[.string t437, .string t438] 31 (0, 0)) (bq BK439.out) k_ hk_)⟩)) (below_size (bel1 GE439.out))); replace HO436 := am (Kd.R_below (rq HO436.out) hb); replace HO442 := am (Kd.R_below (rq HO442.out) hb); replace BK439 := am (blk_below (g := gb439) (o := .cells #[.string t437, .string t438] 31 (0, 0)) (bq BK439.out) hb); replace HB := am (below_step (bel1 GE439.out) hb); (try clear hb); (try clear hb2); (try clear hk); (try clear hi); (try clear ho0); obtain ⟨Ao20, co20, eo20⟩ := Kd.R_slice HO442.out; subst eo20; obtain ⟨Ao21, co21, eo21⟩ := Kd.V_slice HO445.out; subst eo21) | ((with_reducible refine gate_callee (f := 27) rfl ?_); refine goesL_ (some 27) rfl rfl Try.func27 (by kernel_rfl) rfl #[.slice Ao20 t440.length co20, .slice Ao21 t443.length co21] rfl mq ?_; (with_reducible refine (laws_mdTexts.calls k _ _ t440 _ _ t443 false _ ?side1 ?side2 ?side3 ?side4 A12.out).mono ?_); (case side1 => exact cq (Kd.R_reads' HO442.out).2.2); (case side2 => exact (Kd.R_reads' HO442.out).2.1); (case side3 => exact cq (Kd.V_reads' HO445.out).2.2); (case side4 => exact (Kd.V_reads' HO445.out).2.1); rintro e w' ⟨rfl, ⟨nd, rfl⟩⟩; refine ⟨_, rfl, ?_⟩))
    go_meet
    case rel => exact ⟨_, (true), sq, H', ⟨b68_⟩, ⟨rq HO436.out⟩, ⟨rq HO442.out⟩, ⟨bq BK439.out⟩, ⟨bel1 GE439.out⟩⟩
  case rest =>
   clear HC5; (try clear c1); (try clear c2); (try clear c2b0); (try clear c2b1); (try clear p2); (try clear c4); (try clear c13); (try clear c17); (try clear c20); (try clear hcz14_0); (try clear hcz14_1); (try clear hcz18_0); (try clear hcz18_1); (try clear hcz8_0); (try clear hcz8_1); (try clear hfz14_0); (try clear hfz14_1); (try clear hfz18_0); (try clear hfz18_1); (try clear hfz8_0); (try clear hfz8_1); obtain ⟨kq, x33_4, rfl, HA, HJ4, HO_3, HO_5, BK439, HB⟩ := hcut
   cases kq with
   | zero => exact absurd HA.out (by simp [laws_FnForms.j0])
   | succ kj4 =>
    have H := HA.out; clear HA
    simp only [laws_FnForms.j0] at H
    by_cases c22 : x33_4 = true
    ·subst c22
     have H1 : ((spec_Forms.f kj4 t434 t437 t438).bind fun t447 => ((laws_mdTexts.f kj4 t440 t447).bind fun t450 => (some t450))) = some r := b32_
     replace H := H1; clear H1
     replace H := Option.bind_eq_some_iff.mp H; obtain ⟨t447, A230, H⟩ := H; replace H : ((laws_mdTexts.f kj4 t440 t447).bind fun t450 => (some t450)) = some r := H; have A23 := Aside0.mk A230; clear A230; replace H := Option.bind_eq_some_iff.mp H; obtain ⟨t450, A240, H⟩ := H; replace H : (some t450) = some r := H; have A24 := Aside0.mk A240; clear A240; obtain rfl := Option.some.inj H; have hcz25_0 := bc BK439.out 0; have hcz25_1 := bc BK439.out 1; have hfz25_0 := bf BK439.out 0; have hfz25_1 := bf BK439.out 1
     go_wp2_with (first | ((with_reducible refine gate_callee (f := 17) rfl ?_); refine goesL_ (some 37) rfl rfl Try.func17 (by kernel_rfl) rfl #[.slice Ao9 t434.length co9, .agg #[.string t437, .string t438]] rfl mq ?_; (with_reducible refine (spec_Forms.calls kj4 _ _ t434 t437 t438 t447 _ ?side1 ?side2 A23.out).mono ?_); (case side1 => exact cq (Kd.R_reads' HO_3.out).2.2); (case side2 => exact (Kd.R_reads' HO_3.out).2.1); rintro e w26 ⟨v448, rfl, ho0, hb⟩; refine ⟨_, rfl, ?_⟩; have HO449 := am (Kd.V_lower (Kd.V_mono (ok' := fun k_ => some k_ ≠ (.slice Ao9 t434.length co9 : Value).ownBlock ∧ some k_ ≠ (v441 : Value).ownBlock ∧ k_ ≠ gb439) ho0 (fun k_ hk_ => ⟨(Kd.fresh' (Kd.R_lt (rq HO_3.out)) k_ hk_), (Kd.fresh' (Kd.R_lt (rq HO_5.out)) k_ hk_), (Kd.freshB (g := gb439) (o := .cells #[.string t437, .string t438] 31 (0, 0)) (bq BK439.out) k_ hk_)⟩)) (below_size (bel1 GE439.out))); replace HO_3 := am (Kd.R_below (rq HO_3.out) hb); replace HO_5 := am (Kd.R_below (rq HO_5.out) hb); replace BK439 := am (blk_below (g := gb439) (o := .cells #[.string t437, .string t438] 31 (0, 0)) (bq BK439.out) hb); replace HB := am (below_step (bel1 GE439.out) hb); (try clear hb); (try clear hb2); (try clear hk); (try clear hi); (try clear ho0); obtain ⟨Ao27, co27, eo27⟩ := Kd.R_slice HO_5.out; subst eo27; obtain ⟨Ao28, co28, eo28⟩ := Kd.V_slice HO449.out; subst eo28) | ((with_reducible refine gate_callee (f := 27) rfl ?_); refine goesL_ (some 38) rfl rfl Try.func27 (by kernel_rfl) rfl #[.slice Ao27 t440.length co27, .slice Ao28 t447.length co28] rfl mq ?_; (with_reducible refine (laws_mdTexts.calls kj4 _ _ t440 _ _ t447 t450 _ ?side1 ?side2 ?side3 ?side4 A24.out).mono ?_); (case side1 => exact cq (Kd.R_reads' HO_5.out).2.2); (case side2 => exact (Kd.R_reads' HO_5.out).2.1); (case side3 => exact cq (Kd.V_reads' HO449.out).2.2); (case side4 => exact (Kd.V_reads' HO449.out).2.1); rintro e w' ⟨rfl, ⟨nd, rfl⟩⟩; refine ⟨_, rfl, ?_⟩))
     go_ret
     exact ⟨eq_, bel1 GE439.out⟩
    ·replace c22 := Bool.eq_false_iff.mpr c22; subst c22
     have H1 : (laws_FnForms.l0 kj4 t434 t440 0 t437 t438) = some r := b18_
     replace H := H1; clear H1
     have H' := am H
     clear H; go_wp2
     go_loopg [6] kj4 (fun kq v6 w' => ∃ (x6_2 : Int), v6 = .int .i64 x6_2 ∧ Aside0 (laws_FnForms.l0 kq t434 t440 x6_2 t437 t438 = some r) ∧ Aside0 (kq ≤ kj4) ∧ Aside0 (Kd.R k44 44 w' w.heap.size (fun _ => True) (.slice Ao9 t434.length co9) t434) ∧ Aside0 (Kd.R Kd.string 9 w' w.heap.size (fun _ => True) v441 t440) ∧ Aside0 (w'.heap[gb439]? = some (.cells #[.string t437, .string t438] 31 (0, 0))) ∧ Aside0 (Below w.heap.size w w'))
     case atStart => exact ⟨(0), sq, H', ⟨Nat.le_refl _⟩, ⟨rq HO_3.out⟩, ⟨rq HO_5.out⟩, ⟨bq BK439.out⟩, ⟨bel1 GE439.out⟩⟩
     case round =>
      clear H'; (try clear c1); (try clear c2); (try clear c2b0); (try clear c2b1); (try clear p2); (try clear c4); (try clear c13); (try clear c17); (try clear c20); (try clear c22); (try clear c26); (try clear c27); (try clear hcz14_0); (try clear hcz14_1); (try clear hcz18_0); (try clear hcz18_1); (try clear hcz25_0); (try clear hcz25_1); (try clear hcz8_0); (try clear hcz8_1); (try clear hfz14_0); (try clear hfz14_1); (try clear hfz18_0); (try clear hfz18_1); (try clear hfz25_0); (try clear hfz25_1); (try clear hfz8_0); (try clear hfz8_1); (try clear p2); obtain ⟨x6_2, rfl, HA, HK2, HO_3, HO_5, BK439, HB⟩ := hrel
      cases gk with
      | zero => exact absurd HA.out (by simp [laws_FnForms.l0])
      | succ k2 =>
       have H := HA.out; clear HA
       simp only [laws_FnForms.l0] at H
       by_cases c29 : x6_2 < (t434.length : Int)
       ·rw [if_pos c29] at H; have c29b0 := decide_eq_true c29; clear c29
        by_cases c30 : 0 ≤ x6_2
        ·rw [if_pos c30] at H; have c30b0 := decide_eq_true c30; clear c30; replace H := Option.bind_eq_some_iff.mp H; obtain ⟨⟨t452, t453⟩, A310, H⟩ := H; replace H : (laws_FnForms.l1 k2 t434 t440 x6_2 t452 t453 false 0 t437 t438) = some r := H; have A31 := Aside0.mk A310; clear A310
         have H' := am H
         clear H
         try go_wp2
         replace HO_3 := am (Kd.R_drew HO_3.out); replace HO_5 := am (Kd.R_drew HO_5.out); replace BK439 := am (blk_drew BK439.out); replace HB := am (below_drew1 HB.out)
         have p451 : 0 ≤ (x6_2 : Int) := of_decide_eq_true ad
         have q451 : x6_2 < (t434.length : Int) := of_decide_eq_true ad
         obtain ⟨ad451, e451, hx451_0, hx451_1, hx451_2, hx451_3, hx451_4⟩ := at_T44 (Kd.R_reads' HO_3.out).2.2 x6_2 p451 q451
         cases e451
         replace p451 := eq_true p451; replace q451 := eq_true q451
         refine st (n := 12) (S := fun w' => w'.cell? ⟨gb439, 0, none⟩ = some (.string t437) ∧ w'.cell? ⟨gb439, 1, none⟩ = some (.string t438) ∧ w'.cell? (ad451.add ((x6_2).toNat * 5)) = some (.string ((rd_T44 t434 x6_2).f0)) ∧ w'.cell? ⟨(ad451.add ((x6_2).toNat * 5)).block, (ad451.add ((x6_2).toNat * 5)).off + 1, none⟩ = some (.bool ((rd_T44 t434 x6_2).f1)) ∧ w'.cell? ⟨(ad451.add ((x6_2).toNat * 5)).block, (ad451.add ((x6_2).toNat * 5)).off + 2, none⟩ = some (.string ((rd_T44 t434 x6_2).f2)) ∧ w'.cell? ⟨(ad451.add ((x6_2).toNat * 5)).block, (ad451.add ((x6_2).toNat * 5)).off + 3, none⟩ = some (.string ((rd_T44 t434 x6_2).f3)) ∧ w'.cell? ⟨(ad451.add ((x6_2).toNat * 5)).block, (ad451.add ((x6_2).toNat * 5)).off + 4, none⟩ = some (.string ((rd_T44 t434 x6_2).f4))) (ds := []) ⟨(blk_cell BK439.out 0).trans rfl, (blk_cell BK439.out 1).trans rfl, hx451_0, hx451_1, hx451_2, hx451_3, hx451_4⟩ (fun hHeld => ?_); refine with_tabW laws_FnForms.tab10 laws_FnForms.bits10 (fun HT_ HW_ => ?_)
         generalize wr.drew = w32 at HO_3 HO_5 BK439 HB hx451_0 hx451_1 hx451_2 hx451_3 hx451_4 hHeld ⊢
         refine pu 0 46 ?_
         refine pu 1 47 ?_
         refine pu 2 48 ?_
         refine pu 4 50 ?_
         refine take_ (i := 3) (N := some 49) (v := ?_) (a' := ?_) #[true, true, true, true, true, false, false, false, false, false, false, false] rfl rfl (take_ofW HT_.out HW_.out (by kernel_rfl)) (fun _ _ _ h => h) (Or.inl ⟨by rfl, ?_⟩) hHeld ?_ ?_
         rotate_left
         ·rintro w' ⟨s0, s1, s2, s3, s4, s5, s6⟩
          go_simp
          with_reducible rfl
         rotate_left
         ·simp only [Act.put, List.setIfInBounds_toArray, List.set_cons_zero, List.set_cons_succ, i64_w, i32_w]
          rfl
         refine take_ (i := 5) (N := some 51) (v := ?_) (a' := ?_) #[true, true, true, true, true, true, false, false, false, false, false, false] rfl rfl (take_ofW HT_.out HW_.out (by kernel_rfl)) (fun _ _ _ h => h) (Or.inl ⟨by rfl, ?_⟩) hHeld ?_ ?_
         rotate_left
         ·rintro w' ⟨s0, s1, s2, s3, s4, s5, s6⟩
          go_simp
          with_reducible rfl
         rotate_left
         ·simp only [Act.put, List.setIfInBounds_toArray, List.set_cons_zero, List.set_cons_succ, i64_w, i32_w]
          rfl
         refine on1 6 52 (fun K hK => ?_)
         refine goes_ Try.func28 (by kernel_rfl) rfl #[.agg #[.string ((rd_T44 t434 x6_2).f0), .bool ((rd_T44 t434 x6_2).f1), .string ((rd_T44 t434 x6_2).f2), .string ((rd_T44 t434 x6_2).f3), .string ((rd_T44 t434 x6_2).f4)], .string t437] (by rfl) rfl rfl mq ?_
         with_reducible refine (impl_AffixDo.calls k2 ((rd_T44 t434 x6_2).f0) ((rd_T44 t434 x6_2).f1) ((rd_T44 t434 x6_2).f2) ((rd_T44 t434 x6_2).f3) ((rd_T44 t434 x6_2).f4) t437 t452 t453 _ A31.out).mono ?_
         rintro e w33 ⟨rfl, hb⟩
         have HS2_ := (hb.cell (World.block_lt_of_cell? _ _ (hHeld.2.2.1))).trans (hHeld.2.2.1); have HS3_ := (hb.cell (World.block_lt_of_cell? _ _ (hHeld.2.2.2.1))).trans (hHeld.2.2.2.1); have HS4_ := (hb.cell (World.block_lt_of_cell? _ _ (hHeld.2.2.2.2.1))).trans (hHeld.2.2.2.2.1); have HS5_ := (hb.cell (World.block_lt_of_cell? _ _ (hHeld.2.2.2.2.2.1))).trans (hHeld.2.2.2.2.2.1); have HS6_ := (hb.cell (World.block_lt_of_cell? _ _ (hHeld.2.2.2.2.2.2))).trans (hHeld.2.2.2.2.2.2)
         refine ⟨_, rfl, ?_⟩
         replace HO_3 := am (Kd.R_below (rq HO_3.out) hb); replace HO_5 := am (Kd.R_below (rq HO_5.out) hb); replace BK439 := am (blk_below (g := gb439) (o := .cells #[.string t437, .string t438] 31 (0, 0)) (bq BK439.out) hb); replace HB := am (below_step (bel1 GE439.out) hb)
         (try clear hb)
         (try clear hb2)
         (try clear hk)
         (try clear hi)
         refine hK.out _ _ ⟨(blk_cell BK439.out 0).trans rfl, (blk_cell BK439.out 1).trans rfl, HS2_, HS3_, HS4_, HS5_, HS6_⟩ (fun hHeld => ?_)
         clear hK K
         refine norm_ (a' := ?_) ?_ ?_
         rotate_left
         ·show Act.put _ (some 52) _ = _
          simp only [Act.put, List.setIfInBounds_toArray, List.set_cons_zero, List.set_cons_succ, i64_w, i32_w]
          rfl
         refine pu 7 45 ?_
         refine pu 8 53 ?_
         refine pu 9 54 ?_
         refine pu 10 7 ?_
         refine pu 11 8 ?_
         refine done_ (done_of HT_.out (by kernel_rfl)) ?_
         try go_wp2
         go_loopg [9, 10] k2 (fun kq v9 v10 w' => ∃ (x9_3 : Bool) (x10_3 : Int), v9 = .bool x9_3 ∧ v10 = .int .i64 x10_3 ∧ Aside0 (laws_FnForms.l1 kq t434 t440 x6_2 t452 t453 x9_3 x10_3 t437 t438 = some r) ∧ Aside0 (kq ≤ k2) ∧ Aside0 (Kd.R k44 44 w' w.heap.size (fun _ => True) (.slice (some ad451) t434.length co9) t434) ∧ Aside0 (Kd.R Kd.string 9 w' w.heap.size (fun _ => True) v441 t440) ∧ Aside0 (w'.heap[gb439]? = some (.cells #[.string t437, .string t438] 31 (0, 0))) ∧ Aside0 (Below w.heap.size w w'))
         case atStart => exact ⟨(false), (0), sq, sq, H', ⟨Nat.le_refl _⟩, ⟨rq HO_3.out⟩, ⟨rq HO_5.out⟩, ⟨bq BK439.out⟩, ⟨bel1 GE439.out⟩⟩
         case round =>
          clear H'; (try clear c1); (try clear c2); (try clear c2b0); (try clear c2b1); (try clear p2); (try clear c3); (try clear c4); (try clear p4); (try clear q4); (try clear hx4); (try clear c13); (try clear c17); (try clear c20); (try clear c22); (try clear c26); (try clear c27); (try clear c28); (try clear c29); (try clear c29b0); (try clear c30); (try clear c30b0); (try clear hcz14_0); (try clear hcz14_1); (try clear hcz18_0); (try clear hcz18_1); (try clear hcz25_0); (try clear hcz25_1); (try clear hcz8_0); (try clear hcz8_1); (try clear hfz14_0); (try clear hfz14_1); (try clear hfz18_0); (try clear hfz18_1); (try clear hfz25_0); (try clear hfz25_1); (try clear hfz8_0); (try clear hfz8_1); (try clear hx451_0); (try clear hx451_1); (try clear hx451_2); (try clear hx451_3); (try clear hx451_4); (try clear p2); (try clear p451); (try clear q451); obtain ⟨x9_3, x10_3, rfl, rfl, HA, HK3, HO_3, HO_5, BK439, HB⟩ := hrel
          cases gk with
          | zero => exact absurd HA.out (by simp [laws_FnForms.l1])
          | succ k3 =>
           have H := HA.out; clear HA
           simp only [laws_FnForms.l1] at H
           by_cases c34 : x10_3 < (t438.size : Int)
           ·rw [if_pos c34] at H; have c34b0 := decide_eq_true c34; clear c34
            by_cases c35 : x9_3 = true
            ·subst c35
             have H1 : (laws_FnForms.l1 k3 t434 t440 x6_2 t452 t453 true (wrap64 (x10_3 + 1)) t437 t438) = some r := b32_
             replace H := H1; clear H1
             have H' := am H
             clear H; have hcz36_0 := bc BK439.out 0; have hcz36_1 := bc BK439.out 1; have hfz36_0 := bf BK439.out 0; have hfz36_1 := bf BK439.out 1
             try go_wp2
             replace HO_3 := am (Kd.R_drew HO_3.out); replace HO_5 := am (Kd.R_drew HO_5.out); replace BK439 := am (blk_drew BK439.out); replace HB := am (below_drew1 HB.out)
             refine st (n := 16) (S := fun w' => True) (ds := []) trivial (fun hHeld => ?_); refine with_tabW laws_FnForms.tab15 laws_FnForms.bits15 (fun HT_ HW_ => ?_)
             generalize wr.drew = w37 at HO_3 HO_5 BK439 HB hHeld ⊢
             refine pu 0 62 ?_
             refine pu 1 63 ?_
             refine puu 2 64 ?_
             refine puu 3 65 ?_
             refine puu 4 66 ?_
             refine puu 5 67 ?_
             refine puu 6 68 ?_
             refine puu 7 69 ?_
             refine puu 8 70 ?_
             refine puu 9 71 ?_
             refine puu 10 72 ?_
             refine puu 11 73 ?_
             refine puu 12 74 ?_
             refine puu 13 75 ?_
             refine pu 14 76 ?_
             refine pu 15 9 ?_
             refine done_ (done_of HT_.out (by kernel_rfl)) ?_
             try go_wp2
             go_roundg k3
             case measure => have := HJ4.out; have := HK2.out; have := HK3.out; omega
             case rel => exact ⟨(true), (wrap64 (x10_3 + 1)), sq, sq, H', ⟨b74_⟩, ⟨rq HO_3.out⟩, ⟨rq HO_5.out⟩, ⟨bq BK439.out⟩, ⟨bel1 GE439.out⟩⟩
            ·replace c35 := Bool.eq_false_iff.mpr c35; subst c35
             have H1 : (if 0 ≤ x10_3 then (if x10_3 ≤ (wrap64 (x10_3 + 1)) then (if (wrap64 (x10_3 + 1)) ≤ (t438.size : Int) then (if 0 ≤ x6_2 then (if x6_2 < (t434.length : Int) then (laws_FnForms.l1 k3 t434 t440 x6_2 t452 t453 ((t438.extract (x10_3 : Int).toNat ((wrap64 (x10_3 + 1)) : Int).toNat).toList == ((rd_T44 t434 x6_2).f0).toList) (wrap64 (x10_3 + 1)) t437 t438) else (none)) else (none)) else (none)) else (none)) else (none)) = some r := b18_
             replace H := H1; clear H1
             by_cases c38 : 0 ≤ x10_3
             ·rw [if_pos c38] at H; have c38b0 := eq_true c38
              have c38b1 : decide (0 ≤ x10_3) = true := decide_eq_true c38
              clear c38
              by_cases c39 : x10_3 ≤ (wrap64 (x10_3 + 1))
              ·rw [if_pos c39] at H; have c39b0 := eq_true c39
               have c39b1 : decide (x10_3 ≤ (wrap64 (x10_3 + 1))) = true := decide_eq_true c39
               by_cases c40 : (wrap64 (x10_3 + 1)) ≤ (t438.size : Int)
               ·rw [if_pos c40] at H; have c40b0 := eq_true c40
                have c40b1 : decide ((wrap64 (x10_3 + 1)) ≤ (t438.size : Int)) = true := decide_eq_true c40
                by_cases c41 : 0 ≤ x6_2
                ·rw [if_pos c41] at H; have c41b0 := decide_eq_true c41; clear c41
                 by_cases c42 : x6_2 < (t434.length : Int)
                 ·rw [if_pos c42] at H; have c42b0 := decide_eq_true c42; clear c42
                  have H' := am H
                  clear H; have hcz43_0 := bc BK439.out 0; have hcz43_1 := bc BK439.out 1; have hfz43_0 := bf BK439.out 0; have hfz43_1 := bf BK439.out 1
                  try go_wp2
                  replace HO_3 := am (Kd.R_drew HO_3.out); replace HO_5 := am (Kd.R_drew HO_5.out); replace BK439 := am (blk_drew BK439.out); replace HB := am (below_drew1 HB.out)
                  have p454 : 0 ≤ (x6_2 : Int) := of_decide_eq_true ad
                  have q454 : x6_2 < (t434.length : Int) := of_decide_eq_true ad
                  obtain ⟨ad454, e454, hx454_0, hx454_1, hx454_2, hx454_3, hx454_4⟩ := at_T44 (Kd.R_reads' HO_3.out).2.2 x6_2 p454 q454
                  obtain rfl : ad451 = ad454 := (by injection e454)
                  replace p454 := eq_true p454; replace q454 := eq_true q454
                  refine st (n := 16) (S := fun w' => w'.cell? ⟨gb439, 0, none⟩ = some (.string t437) ∧ w'.cell? ⟨gb439, 1, none⟩ = some (.string t438) ∧ w'.cell? (ad451.add ((x6_2).toNat * 5)) = some (.string ((rd_T44 t434 x6_2).f0)) ∧ w'.cell? ⟨(ad451.add ((x6_2).toNat * 5)).block, (ad451.add ((x6_2).toNat * 5)).off + 1, none⟩ = some (.bool ((rd_T44 t434 x6_2).f1)) ∧ w'.cell? ⟨(ad451.add ((x6_2).toNat * 5)).block, (ad451.add ((x6_2).toNat * 5)).off + 2, none⟩ = some (.string ((rd_T44 t434 x6_2).f2)) ∧ w'.cell? ⟨(ad451.add ((x6_2).toNat * 5)).block, (ad451.add ((x6_2).toNat * 5)).off + 3, none⟩ = some (.string ((rd_T44 t434 x6_2).f3)) ∧ w'.cell? ⟨(ad451.add ((x6_2).toNat * 5)).block, (ad451.add ((x6_2).toNat * 5)).off + 4, none⟩ = some (.string ((rd_T44 t434 x6_2).f4))) (ds := []) ⟨(blk_cell BK439.out 0).trans rfl, (blk_cell BK439.out 1).trans rfl, hx454_0, hx454_1, hx454_2, hx454_3, hx454_4⟩ (fun hHeld => ?_); refine with_tabW laws_FnForms.tab15 laws_FnForms.bits15 (fun HT_ HW_ => ?_)
                  generalize wr.drew = w44 at HO_3 HO_5 BK439 HB hx454_0 hx454_1 hx454_2 hx454_3 hx454_4 hHeld ⊢
                  refine pu 0 62 ?_
                  refine pu 1 63 ?_
                  refine pu 2 64 ?_
                  refine pu 4 66 ?_
                  refine pu 5 67 ?_
                  refine pu 6 68 ?_
                  refine pu 8 70 ?_
                  refine pu 9 71 ?_
                  refine pu 10 72 ?_
                  refine pu 11 73 ?_
                  refine take_ (i := 3) (N := some 65) (v := ?_) (a' := ?_) #[true, true, true, true, true, true, true, false, true, true, true, true, false, false, false, false] rfl rfl (take_ofW HT_.out HW_.out (by kernel_rfl)) (fun _ _ _ h => h) (Or.inl ⟨by rfl, ?_⟩) hHeld ?_ ?_
                  rotate_left
                  ·rintro w' ⟨s0, s1, s2, s3, s4, s5, s6⟩
                   go_simp
                   with_reducible rfl
                  rotate_left
                  ·simp only [Act.put, List.setIfInBounds_toArray, List.set_cons_zero, List.set_cons_succ, i64_w, i32_w]
                   rfl
                  refine pu 7 69 ?_
                  refine take_ (i := 12) (N := some 74) (v := ?_) (a' := ?_) #[true, true, true, true, true, true, true, true, true, true, true, true, true, false, false, false] rfl rfl (take_ofW HT_.out HW_.out (by kernel_rfl)) (fun _ _ _ h => h) (Or.inl ⟨by rfl, ?_⟩) hHeld ?_ ?_
                  rotate_left
                  ·rintro w' ⟨s0, s1, s2, s3, s4, s5, s6⟩
                   go_simp
                   with_reducible rfl
                  rotate_left
                  ·simp only [Act.put, List.setIfInBounds_toArray, List.set_cons_zero, List.set_cons_succ, i64_w, i32_w]
                   rfl
                  refine pu 13 75 ?_
                  refine pu 14 76 ?_
                  refine pu 15 9 ?_
                  refine done_ (done_of HT_.out (by kernel_rfl)) ?_
                  try go_wp2
                  go_roundg k3
                  case measure => have := HJ4.out; have := HK2.out; have := HK3.out; omega
                  case rel => exact ⟨(((t438.extract (x10_3 : Int).toNat ((wrap64 (x10_3 + 1)) : Int).toNat).toList == ((rd_T44 t434 x6_2).f0).toList)), (wrap64 (x10_3 + 1)), sq, sq, H', ⟨b74_⟩, ⟨rq HO_3.out⟩, ⟨rq HO_5.out⟩, ⟨bq BK439.out⟩, ⟨bel1 GE439.out⟩⟩
                 ·rw [if_neg c42] at H
                  exact absurd H (by simp)
                ·rw [if_neg c41] at H
                 exact absurd H (by simp)
               ·rw [if_neg c40] at H
                exact absurd H (by simp)
              ·rw [if_neg c39] at H
               exact absurd H (by simp)
             ·rw [if_neg c38] at H
              exact absurd H (by simp)
           ·rw [if_neg c34] at H; have c34b0 := decide_eq_false c34; clear c34
            by_cases c45 : t453 = true
            ·subst c45
             have H1 : (if x9_3 = true then ((laws_mdHas.f k3 t440 t452).bind fun t455 => (if t455 = true then (laws_FnForms.l0 k3 t434 t440 (wrap64 (x6_2 + 1)) t437 t438) else (some false))) else (laws_FnForms.l0 k3 t434 t440 (wrap64 (x6_2 + 1)) t437 t438)) = some r := b32_
             replace H := H1; clear H1
             by_cases c46 : x9_3 = true
             ·subst c46
              have H1 : ((laws_mdHas.f k3 t440 t452).bind fun t455 => (if t455 = true then (laws_FnForms.l0 k3 t434 t440 (wrap64 (x6_2 + 1)) t437 t438) else (some false))) = some r := b32_
              replace H := H1; clear H1
              replace H := Option.bind_eq_some_iff.mp H; obtain ⟨t455, A470, H⟩ := H; replace H : (if t455 = true then (laws_FnForms.l0 k3 t434 t440 (wrap64 (x6_2 + 1)) t437 t438) else (some false)) = some r := H; have A47 := Aside0.mk A470; clear A470
              by_cases c48 : t455 = true
              ·subst c48
               have H1 : (laws_FnForms.l0 k3 t434 t440 (wrap64 (x6_2 + 1)) t437 t438) = some r := b32_
               replace H := H1; clear H1
               have H' := am H
               clear H; have hcz49_0 := bc BK439.out 0; have hcz49_1 := bc BK439.out 1; have hfz49_0 := bf BK439.out 0; have hfz49_1 := bf BK439.out 1; obtain ⟨Ao50, co50, eo50⟩ := Kd.R_slice HO_5.out; subst eo50
               go_wp2_with (first | (go_at_call 29; (with_reducible refine (laws_mdHas.calls k3 _ _ t440 t452 true _ ?side1 ?side2 A47.out).mono ?_); (case side1 => exact cq (Kd.R_reads' HO_5.out).2.2); (case side2 => exact (Kd.R_reads' HO_5.out).2.1); rintro e w' ⟨rfl, ⟨nd, rfl⟩⟩))
               go_roundg k3
               case measure => have := HJ4.out; have := HK2.out; have := HK3.out; omega
               case rel => exact ⟨(wrap64 (x6_2 + 1)), sq, H', ⟨b74_⟩, ⟨rq HO_3.out⟩, ⟨rq HO_5.out⟩, ⟨bq BK439.out⟩, ⟨bel1 GE439.out⟩⟩
              ·replace c48 := Bool.eq_false_iff.mpr c48; subst c48
               have H1 : (some false) = some r := b18_
               replace H := H1; clear H1
               obtain rfl := Option.some.inj H; have hcz51_0 := bc BK439.out 0; have hcz51_1 := bc BK439.out 1; have hfz51_0 := bf BK439.out 0; have hfz51_1 := bf BK439.out 1; obtain ⟨Ao52, co52, eo52⟩ := Kd.R_slice HO_5.out; subst eo52
               go_wp2_with (first | (go_at_call 29; (with_reducible refine (laws_mdHas.calls k3 _ _ t440 t452 false _ ?side1 ?side2 A47.out).mono ?_); (case side1 => exact cq (Kd.R_reads' HO_5.out).2.2); (case side2 => exact (Kd.R_reads' HO_5.out).2.1); rintro e w' ⟨rfl, ⟨nd, rfl⟩⟩))
               go_ret
               exact ⟨eq_, bel1 GE439.out⟩
             ·replace c46 := Bool.eq_false_iff.mpr c46; subst c46
              have H1 : (laws_FnForms.l0 k3 t434 t440 (wrap64 (x6_2 + 1)) t437 t438) = some r := b18_
              replace H := H1; clear H1
              have H' := am H
              clear H; have hcz53_0 := bc BK439.out 0; have hcz53_1 := bc BK439.out 1; have hfz53_0 := bf BK439.out 0; have hfz53_1 := bf BK439.out 1; go_wp2
              go_roundg k3
              case measure => have := HJ4.out; have := HK2.out; have := HK3.out; omega
              case rel => exact ⟨(wrap64 (x6_2 + 1)), sq, H', ⟨b74_⟩, ⟨rq HO_3.out⟩, ⟨rq HO_5.out⟩, ⟨bq BK439.out⟩, ⟨bel1 GE439.out⟩⟩
            ·replace c45 := Bool.eq_false_iff.mpr c45; subst c45
             have H1 : (laws_FnForms.l0 k3 t434 t440 (wrap64 (x6_2 + 1)) t437 t438) = some r := b18_
             replace H := H1; clear H1
             have H' := am H
             clear H; have hcz54_0 := bc BK439.out 0; have hcz54_1 := bc BK439.out 1; have hfz54_0 := bf BK439.out 0; have hfz54_1 := bf BK439.out 1; go_wp2
             go_roundg k3
             case measure => have := HJ4.out; have := HK2.out; have := HK3.out; omega
             case rel => exact ⟨(wrap64 (x6_2 + 1)), sq, H', ⟨b74_⟩, ⟨rq HO_3.out⟩, ⟨rq HO_5.out⟩, ⟨bq BK439.out⟩, ⟨bel1 GE439.out⟩⟩
        ·rw [if_neg c30] at H
         exact absurd H (by simp)
       ·rw [if_neg c29] at H; have c29b0 := decide_eq_false c29; clear c29
        have H' := am H
        clear H; go_wp2
        go_loopg [11] k2 (fun kq v11 w' => ∃ (x11_3 : Int), v11 = .int .i64 x11_3 ∧ Aside0 (laws_FnForms.l2 kq t434 t440 x11_3 t437 t438 = some r) ∧ Aside0 (kq ≤ k2) ∧ Aside0 (Kd.R k44 44 w' w.heap.size (fun _ => True) (.slice Ao9 t434.length co9) t434) ∧ Aside0 (Kd.R Kd.string 9 w' w.heap.size (fun _ => True) v441 t440) ∧ Aside0 (w'.heap[gb439]? = some (.cells #[.string t437, .string t438] 31 (0, 0))) ∧ Aside0 (Below w.heap.size w w'))
        case atStart => exact ⟨(0), sq, H', ⟨Nat.le_refl _⟩, ⟨rq HO_3.out⟩, ⟨rq HO_5.out⟩, ⟨bq BK439.out⟩, ⟨bel1 GE439.out⟩⟩
        case round =>
         clear H'; (try clear c1); (try clear c2); (try clear c2b0); (try clear c2b1); (try clear p2); (try clear c3); (try clear c4); (try clear p4); (try clear q4); (try clear hx4); (try clear p6); (try clear c13); (try clear c17); (try clear c20); (try clear c22); (try clear c26); (try clear c27); (try clear c28); (try clear c29); (try clear c29b0); (try clear c30); (try clear c30b0); (try clear c34); (try clear c34b0); (try clear c35); (try clear c38); (try clear c38b0); (try clear c38b1); (try clear c39); (try clear c39b0); (try clear c39b1); (try clear c40); (try clear c40b0); (try clear c40b1); (try clear c41); (try clear c41b0); (try clear c42); (try clear c42b0); (try clear c45); (try clear p45); (try clear q45); (try clear hx45); (try clear c46); (try clear c48); (try clear hcz14_0); (try clear hcz14_1); (try clear hcz18_0); (try clear hcz18_1); (try clear hcz25_0); (try clear hcz25_1); (try clear hcz36_0); (try clear hcz36_1); (try clear hcz43_0); (try clear hcz43_1); (try clear hcz49_0); (try clear hcz49_1); (try clear hcz51_0); (try clear hcz51_1); (try clear hcz53_0); (try clear hcz53_1); (try clear hcz54_0); (try clear hcz54_1); (try clear hcz8_0); (try clear hcz8_1); (try clear hfz14_0); (try clear hfz14_1); (try clear hfz18_0); (try clear hfz18_1); (try clear hfz25_0); (try clear hfz25_1); (try clear hfz36_0); (try clear hfz36_1); (try clear hfz43_0); (try clear hfz43_1); (try clear hfz49_0); (try clear hfz49_1); (try clear hfz51_0); (try clear hfz51_1); (try clear hfz53_0); (try clear hfz53_1); (try clear hfz54_0); (try clear hfz54_1); (try clear hfz8_0); (try clear hfz8_1); (try clear hx451_0); (try clear hx451_1); (try clear hx451_2); (try clear hx451_3); (try clear hx451_4); (try clear hx454_0); (try clear hx454_1); (try clear hx454_2); (try clear hx454_3); (try clear hx454_4); (try clear p2); (try clear p4); (try clear p451); (try clear p454); (try clear q4); (try clear q451); (try clear q454); obtain ⟨x11_3, rfl, HA, HK3, HO_3, HO_5, BK439, HB⟩ := hrel
         cases gk with
         | zero => exact absurd HA.out (by simp [laws_FnForms.l2])
         | succ k3 =>
          have H := HA.out; clear HA
          simp only [laws_FnForms.l2] at H
          by_cases c55 : x11_3 < (t440.length : Int)
          ·rw [if_pos c55] at H; have c55b0 := decide_eq_true c55; clear c55
           by_cases c56 : 0 ≤ x11_3
           ·rw [if_pos c56] at H; have c56b0 := decide_eq_true c56; clear c56; replace H := Option.bind_eq_some_iff.mp H; obtain ⟨t457, A570, H⟩ := H; replace H : (if t457 = true then (if x11_3 > 0 then (if 0 ≤ (wrap64 (x11_3 - 1)) then (if (wrap64 (x11_3 - 1)) < (t440.length : Int) then (if ((Op.bytesLess ((rdOf ByteArray.empty t440 (wrap64 (x11_3 - 1))).toList) ((rdOf ByteArray.empty t440 x11_3).toList)) = true) then (laws_FnForms.l2 k3 t434 t440 (wrap64 (x11_3 + 1)) t437 t438) else (some false)) else (none)) else (none)) else (laws_FnForms.l2 k3 t434 t440 (wrap64 (x11_3 + 1)) t437 t438)) else (some false)) = some r := H; have A57 := Aside0.mk A570; clear A570
            by_cases c58 : t457 = true
            ·subst c58
             have H1 : (if x11_3 > 0 then (if 0 ≤ (wrap64 (x11_3 - 1)) then (if (wrap64 (x11_3 - 1)) < (t440.length : Int) then (if ((Op.bytesLess ((rdOf ByteArray.empty t440 (wrap64 (x11_3 - 1))).toList) ((rdOf ByteArray.empty t440 x11_3).toList)) = true) then (laws_FnForms.l2 k3 t434 t440 (wrap64 (x11_3 + 1)) t437 t438) else (some false)) else (none)) else (none)) else (laws_FnForms.l2 k3 t434 t440 (wrap64 (x11_3 + 1)) t437 t438)) = some r := b32_
             replace H := H1; clear H1
             by_cases c59 : x11_3 > 0
             ·rw [if_pos c59] at H; have c59b0 := decide_eq_true c59; clear c59; obtain ⟨ji60, hji60⟩ : ∃ j_ : Int, (wrap64 (x11_3 - 1)) = j_ := ⟨_, rfl⟩
              replace H : (if 0 ≤ (ji60) then (if (ji60) < (t440.length : Int) then (if ((Op.bytesLess ((rdOf ByteArray.empty t440 (ji60)).toList) ((rdOf ByteArray.empty t440 x11_3).toList)) = true) then (laws_FnForms.l2 k3 t434 t440 (wrap64 (x11_3 + 1)) t437 t438) else (some false)) else (none)) else (none)) = some r := by first | (rw [hji60] at H; exact H) | (simp only [hji60] at H ⊢; exact H)
              (try rw [hji60] at A57)
              have hji60w : (IntKind.i64.wrap (x11_3 - 1)) = ji60 := (i64_w _).trans hji60
              by_cases c61 : 0 ≤ (ji60)
              ·rw [if_pos c61] at H; have c61b0 := decide_eq_true c61; clear c61
               by_cases c62 : (ji60) < (t440.length : Int)
               ·rw [if_pos c62] at H; have c62b0 := decide_eq_true c62; clear c62
                by_cases c63 : ((Op.bytesLess ((rdOf ByteArray.empty t440 (ji60)).toList) ((rdOf ByteArray.empty t440 x11_3).toList)) = true)
                ·rw [if_pos c63] at H
                 have c63b0 : (Op.bytesLess ((rdOf ByteArray.empty t440 (ji60)).toList) ((rdOf ByteArray.empty t440 x11_3).toList)) = true := c63
                 clear c63
                 have H' := am H
                 clear H; obtain ⟨Ao64, co64, eo64⟩ := Kd.R_slice HO_5.out; subst eo64
                 try go_wp2
                 replace HO_3 := am (Kd.R_drew HO_3.out); replace HO_5 := am (Kd.R_drew HO_5.out); replace BK439 := am (blk_drew BK439.out); replace HB := am (below_drew1 HB.out)
                 have p456 : 0 ≤ (x11_3 : Int) := of_decide_eq_true ad
                 have q456 : x11_3 < (t440.length : Int) := of_decide_eq_true ad
                 obtain ⟨ad456, e456, hx456_0⟩ := Kd.at_string (Kd.R_reads' HO_5.out).2.2 x11_3 p456 q456
                 cases e456
                 replace p456 := eq_true p456; replace q456 := eq_true q456
                 have p458 : 0 ≤ ((ji60) : Int) := of_decide_eq_true ad
                 have q458 : (ji60) < (t440.length : Int) := of_decide_eq_true ad
                 obtain ⟨ad458, e458, hx458_0⟩ := Kd.at_string (Kd.R_reads' HO_5.out).2.2 (ji60) p458 q458
                 obtain rfl : ad456 = ad458 := (by injection e458)
                 replace p458 := eq_true p458; replace q458 := eq_true q458
                 have p459 : 0 ≤ (x11_3 : Int) := of_decide_eq_true ad
                 have q459 : x11_3 < (t440.length : Int) := of_decide_eq_true ad
                 obtain ⟨ad459, e459, hx459_0⟩ := Kd.at_string (Kd.R_reads' HO_5.out).2.2 x11_3 p459 q459
                 obtain rfl : ad456 = ad459 := (by injection e459)
                 replace p459 := eq_true p459; replace q459 := eq_true q459
                 refine st (n := 22) (S := fun w' => w'.cell? (ad456.add (x11_3).toNat) = some (.string (rdOf ByteArray.empty t440 x11_3)) ∧ w'.cell? (ad456.add ((ji60)).toNat) = some (.string (rdOf ByteArray.empty t440 (ji60))) ∧ w'.cell? (ad456.add (x11_3).toNat) = some (.string (rdOf ByteArray.empty t440 x11_3))) (ds := []) ⟨hx456_0, hx458_0, hx459_0⟩ (fun hHeld => ?_); refine with_tabW laws_FnForms.tab21 laws_FnForms.bits21 (fun HT_ HW_ => ?_)
                 generalize wr.drew = w65 at HO_3 HO_5 BK439 HB hx456_0 hx458_0 hx459_0 hHeld ⊢
                 refine pu 0 93 ?_
                 refine pu 1 94 ?_
                 refine pu 2 95 ?_
                 refine tk3 3 96 hHeld ?_
                 refine on1 4 97 (fun K hK => ?_)
                 refine goes_ Try.func30 (by kernel_rfl) rfl #[.string (rdOf ByteArray.empty t440 x11_3)] (by rfl) rfl rfl mq ?_
                 with_reducible refine (impl_WordOk.calls k3 (rdOf ByteArray.empty t440 x11_3) true _ A57.out).mono ?_
                 rintro e w' ⟨rfl, ⟨nd, rfl⟩⟩
                 refine ⟨_, rfl, ?_⟩
                 refine hK.out _ _ ⟨hHeld.1, hHeld.2.1, hHeld.2.2⟩ (fun hHeld => ?_)
                 clear hK K
                 refine norm_ (a' := ?_) ?_ ?_
                 rotate_left
                 ·show Act.put _ (some 97) _ = _
                  simp only [Act.put, List.setIfInBounds_toArray, List.set_cons_zero, List.set_cons_succ, i64_w, i32_w]
                  rfl
                 refine pu 5 98 ?_
                 refine pu 6 99 ?_
                 refine pu 7 100 ?_
                 refine pu 8 101 ?_
                 refine pu 9 102 ?_
                 refine pu 10 103 ?_
                 refine pu 11 104 ?_
                 refine pu 12 105 ?_
                 refine pu 13 106 ?_
                 refine pu 15 108 ?_
                 refine pu 16 109 ?_
                 refine pu 17 110 ?_
                 refine tk3 14 107 hHeld ?_
                 refine tk3 18 111 hHeld ?_
                 refine pu 19 112 ?_
                 refine pu 20 113 ?_
                 refine pu 21 114 ?_
                 refine done_ (done_of HT_.out (by kernel_rfl)) ?_
                 try go_wp2
                 go_roundg k3
                 case measure => have := HJ4.out; have := HK2.out; have := HK3.out; omega
                 case rel => exact ⟨(wrap64 (x11_3 + 1)), sq, H', ⟨b74_⟩, ⟨rq HO_3.out⟩, ⟨rq HO_5.out⟩, ⟨bq BK439.out⟩, ⟨bel1 GE439.out⟩⟩
                ·rw [if_neg c63] at H
                 have c63b0 : (Op.bytesLess ((rdOf ByteArray.empty t440 (ji60)).toList) ((rdOf ByteArray.empty t440 x11_3).toList)) = false := by simpa using c63
                 clear c63; obtain rfl := Option.some.inj H; obtain ⟨Ao66, co66, eo66⟩ := Kd.R_slice HO_5.out; subst eo66
                 try go_wp2
                 replace HO_3 := am (Kd.R_drew HO_3.out); replace HO_5 := am (Kd.R_drew HO_5.out); replace BK439 := am (blk_drew BK439.out); replace HB := am (below_drew1 HB.out)
                 have p456 : 0 ≤ (x11_3 : Int) := of_decide_eq_true ad
                 have q456 : x11_3 < (t440.length : Int) := of_decide_eq_true ad
                 obtain ⟨ad456, e456, hx456_0⟩ := Kd.at_string (Kd.R_reads' HO_5.out).2.2 x11_3 p456 q456
                 cases e456
                 replace p456 := eq_true p456; replace q456 := eq_true q456
                 have p458 : 0 ≤ ((ji60) : Int) := of_decide_eq_true ad
                 have q458 : (ji60) < (t440.length : Int) := of_decide_eq_true ad
                 obtain ⟨ad458, e458, hx458_0⟩ := Kd.at_string (Kd.R_reads' HO_5.out).2.2 (ji60) p458 q458
                 obtain rfl : ad456 = ad458 := (by injection e458)
                 replace p458 := eq_true p458; replace q458 := eq_true q458
                 have p459 : 0 ≤ (x11_3 : Int) := of_decide_eq_true ad
                 have q459 : x11_3 < (t440.length : Int) := of_decide_eq_true ad
                 obtain ⟨ad459, e459, hx459_0⟩ := Kd.at_string (Kd.R_reads' HO_5.out).2.2 x11_3 p459 q459
                 obtain rfl : ad456 = ad459 := (by injection e459)
                 replace p459 := eq_true p459; replace q459 := eq_true q459
                 refine st (n := 22) (S := fun w' => w'.cell? (ad456.add (x11_3).toNat) = some (.string (rdOf ByteArray.empty t440 x11_3)) ∧ w'.cell? (ad456.add ((ji60)).toNat) = some (.string (rdOf ByteArray.empty t440 (ji60))) ∧ w'.cell? (ad456.add (x11_3).toNat) = some (.string (rdOf ByteArray.empty t440 x11_3))) (ds := []) ⟨hx456_0, hx458_0, hx459_0⟩ (fun hHeld => ?_); refine with_tabW laws_FnForms.tab21 laws_FnForms.bits21 (fun HT_ HW_ => ?_)
                 generalize wr.drew = w67 at HO_3 HO_5 BK439 HB hx456_0 hx458_0 hx459_0 hHeld ⊢
                 refine pu 0 93 ?_
                 refine pu 1 94 ?_
                 refine pu 2 95 ?_
                 refine tk3 3 96 hHeld ?_
                 refine on1 4 97 (fun K hK => ?_)
                 refine goes_ Try.func30 (by kernel_rfl) rfl #[.string (rdOf ByteArray.empty t440 x11_3)] (by rfl) rfl rfl mq ?_
                 with_reducible refine (impl_WordOk.calls k3 (rdOf ByteArray.empty t440 x11_3) true _ A57.out).mono ?_
                 rintro e w' ⟨rfl, ⟨nd, rfl⟩⟩
                 refine ⟨_, rfl, ?_⟩
                 refine hK.out _ _ ⟨hHeld.1, hHeld.2.1, hHeld.2.2⟩ (fun hHeld => ?_)
                 clear hK K
                 refine norm_ (a' := ?_) ?_ ?_
                 rotate_left
                 ·show Act.put _ (some 97) _ = _
                  simp only [Act.put, List.setIfInBounds_toArray, List.set_cons_zero, List.set_cons_succ, i64_w, i32_w]
                  rfl
                 refine pu 5 98 ?_
                 refine pu 6 99 ?_
                 refine pu 7 100 ?_
                 refine pu 8 101 ?_
                 refine pu 9 102 ?_
                 refine pu 10 103 ?_
                 refine pu 11 104 ?_
                 refine pu 12 105 ?_
                 refine pu 13 106 ?_
                 refine pu 15 108 ?_
                 refine pu 16 109 ?_
                 refine pu 17 110 ?_
                 refine tk3 14 107 hHeld ?_
                 refine tk3 18 111 hHeld ?_
                 refine pu 19 112 ?_
                 refine pu 20 113 ?_
                 refine pu 21 114 ?_
                 refine done_ (done_of HT_.out (by kernel_rfl)) ?_
                 try go_wp2
                 go_ret
                 exact ⟨by first | rfl | (simp [errW_none, errW_some] <;> rfl) | (simp only [← hji60]; first | rfl | (simp [errW_none, errW_some] <;> rfl)) | (simp [*, errW_none, errW_some] <;> rfl), bel1 GE439.out⟩
               ·rw [if_neg c62] at H
                exact absurd H (by simp)
              ·rw [if_neg c61] at H
               exact absurd H (by simp)
             ·rw [if_neg c59] at H; have c59b0 := decide_eq_false c59; clear c59
              have H' := am H
              clear H; obtain ⟨Ao68, co68, eo68⟩ := Kd.R_slice HO_5.out; subst eo68
              try go_wp2
              replace HO_3 := am (Kd.R_drew HO_3.out); replace HO_5 := am (Kd.R_drew HO_5.out); replace BK439 := am (blk_drew BK439.out); replace HB := am (below_drew1 HB.out)
              have p456 : 0 ≤ (x11_3 : Int) := of_decide_eq_true ad
              have q456 : x11_3 < (t440.length : Int) := of_decide_eq_true ad
              obtain ⟨ad456, e456, hx456_0⟩ := Kd.at_string (Kd.R_reads' HO_5.out).2.2 x11_3 p456 q456
              cases e456
              replace p456 := eq_true p456; replace q456 := eq_true q456
              refine st (n := 22) (S := fun w' => w'.cell? (ad456.add (x11_3).toNat) = some (.string (rdOf ByteArray.empty t440 x11_3))) (ds := []) (hx456_0) (fun hHeld => ?_); refine with_tabW laws_FnForms.tab21 laws_FnForms.bits21 (fun HT_ HW_ => ?_)
              generalize wr.drew = w69 at HO_3 HO_5 BK439 HB hx456_0 hHeld ⊢
              refine pu 0 93 ?_
              refine pu 1 94 ?_
              refine pu 2 95 ?_
              refine tk1 3 96 hHeld ?_
              refine on1 4 97 (fun K hK => ?_)
              refine goes_ Try.func30 (by kernel_rfl) rfl #[.string (rdOf ByteArray.empty t440 x11_3)] (by rfl) rfl rfl mq ?_
              with_reducible refine (impl_WordOk.calls k3 (rdOf ByteArray.empty t440 x11_3) true _ A57.out).mono ?_
              rintro e w' ⟨rfl, ⟨nd, rfl⟩⟩
              refine ⟨_, rfl, ?_⟩
              refine hK.out _ _ (hHeld) (fun hHeld => ?_)
              clear hK K
              refine norm_ (a' := ?_) ?_ ?_
              rotate_left
              ·show Act.put _ (some 97) _ = _
               simp only [Act.put, List.setIfInBounds_toArray, List.set_cons_zero, List.set_cons_succ, i64_w, i32_w]
               rfl
              refine pu 5 98 ?_
              refine pu 6 99 ?_
              refine pu 7 100 ?_
              refine pu 8 101 ?_
              refine pu 9 102 ?_
              refine puu 10 103 ?_
              refine puu 11 104 ?_
              refine puu 12 105 ?_
              refine puu 13 106 ?_
              refine puu 14 107 ?_
              refine puu 15 108 ?_
              refine puu 16 109 ?_
              refine puu 17 110 ?_
              refine puu 18 111 ?_
              refine puu 19 112 ?_
              refine pu 20 113 ?_
              refine pu 21 114 ?_
              refine done_ (done_of HT_.out (by kernel_rfl)) ?_
              try go_wp2
              go_roundg k3
              case measure => have := HJ4.out; have := HK2.out; have := HK3.out; omega
              case rel => exact ⟨(wrap64 (x11_3 + 1)), sq, H', ⟨b74_⟩, ⟨rq HO_3.out⟩, ⟨rq HO_5.out⟩, ⟨bq BK439.out⟩, ⟨bel1 GE439.out⟩⟩
            ·replace c58 := Bool.eq_false_iff.mpr c58; subst c58
             have H1 : (some false) = some r := b18_
             replace H := H1; clear H1
             obtain rfl := Option.some.inj H; obtain ⟨Ao70, co70, eo70⟩ := Kd.R_slice HO_5.out; subst eo70
             try go_wp2
             replace HO_3 := am (Kd.R_drew HO_3.out); replace HO_5 := am (Kd.R_drew HO_5.out); replace BK439 := am (blk_drew BK439.out); replace HB := am (below_drew1 HB.out)
             have p456 : 0 ≤ (x11_3 : Int) := of_decide_eq_true ad
             have q456 : x11_3 < (t440.length : Int) := of_decide_eq_true ad
             obtain ⟨ad456, e456, hx456_0⟩ := Kd.at_string (Kd.R_reads' HO_5.out).2.2 x11_3 p456 q456
             cases e456
             replace p456 := eq_true p456; replace q456 := eq_true q456
             refine st (n := 22) (S := fun w' => w'.cell? (ad456.add (x11_3).toNat) = some (.string (rdOf ByteArray.empty t440 x11_3))) (ds := []) (hx456_0) (fun hHeld => ?_); refine with_tabW laws_FnForms.tab21 laws_FnForms.bits21 (fun HT_ HW_ => ?_)
             generalize wr.drew = w71 at HO_3 HO_5 BK439 HB hx456_0 hHeld ⊢
             refine pu 0 93 ?_
             refine pu 1 94 ?_
             refine pu 2 95 ?_
             refine tk1 3 96 hHeld ?_
             refine on1 4 97 (fun K hK => ?_)
             refine goes_ Try.func30 (by kernel_rfl) rfl #[.string (rdOf ByteArray.empty t440 x11_3)] (by rfl) rfl rfl mq ?_
             with_reducible refine (impl_WordOk.calls k3 (rdOf ByteArray.empty t440 x11_3) false _ A57.out).mono ?_
             rintro e w' ⟨rfl, ⟨nd, rfl⟩⟩
             refine ⟨_, rfl, ?_⟩
             refine hK.out _ _ (hHeld) (fun hHeld => ?_)
             clear hK K
             refine norm_ (a' := ?_) ?_ ?_
             rotate_left
             ·show Act.put _ (some 97) _ = _
              simp only [Act.put, List.setIfInBounds_toArray, List.set_cons_zero, List.set_cons_succ, i64_w, i32_w]
              rfl
             refine pu 5 98 ?_
             refine pu 6 99 ?_
             refine puu 7 100 ?_
             refine puu 8 101 ?_
             refine puu 9 102 ?_
             refine puu 10 103 ?_
             refine puu 11 104 ?_
             refine puu 12 105 ?_
             refine puu 13 106 ?_
             refine puu 14 107 ?_
             refine puu 15 108 ?_
             refine puu 16 109 ?_
             refine puu 17 110 ?_
             refine puu 18 111 ?_
             refine puu 19 112 ?_
             refine puu 20 113 ?_
             refine pu 21 114 ?_
             refine done_ (done_of HT_.out (by kernel_rfl)) ?_
             try go_wp2
             go_ret
             exact ⟨eq_, bel1 GE439.out⟩
           ·rw [if_neg c56] at H
            exact absurd H (by simp)
          ·rw [if_neg c55] at H; have c55b0 := decide_eq_false c55; clear c55; replace H := Option.bind_eq_some_iff.mp H; obtain ⟨t460, A720, H⟩ := H; replace H : (if t460 = true then ((impl_Forms.f k3 t434 t437 (⟨#[]⟩ : ByteArray)).bind fun t461 => ((laws_mdTexts.f k3 t461 (([t437] : List ByteArray))).bind fun t467 => (some t467))) else (some false)) = some r := H; have A72 := Aside0.mk A720; clear A720
           by_cases c73 : t460 = true
           ·subst c73
            have H1 : ((impl_Forms.f k3 t434 t437 (⟨#[]⟩ : ByteArray)).bind fun t461 => ((laws_mdTexts.f k3 t461 (([t437] : List ByteArray))).bind fun t467 => (some t467))) = some r := b32_
            replace H := H1; clear H1
            replace H := Option.bind_eq_some_iff.mp H; obtain ⟨t461, A740, H⟩ := H; replace H : ((laws_mdTexts.f k3 t461 (([t437] : List ByteArray))).bind fun t467 => (some t467)) = some r := H; have A74 := Aside0.mk A740; clear A740; obtain ⟨y464, hy464⟩ : ∃ y_ : List ByteArray, y_ = (([t437] : List ByteArray)) := ⟨_, rfl⟩
            replace H : ((laws_mdTexts.f k3 t461 y464).bind fun t467 => (some t467)) = some r := by first | (rw [hy464]; with_reducible exact H) | (have H2_ := (Option.bind_some _ _).symm.trans H; rw [hy464]; with_reducible exact H2_) | (have H2_ := (Option.bind_some _ _).symm.trans H; with_reducible exact H2_) | with_reducible exact H | (rw [hy464]; exact H) | exact H
            have Ny464 := am hy464; clear hy464; replace H := Option.bind_eq_some_iff.mp H; obtain ⟨t467, A750, H⟩ := H; replace H : (some t467) = some r := H; have A75 := Aside0.mk A750; clear A750; obtain rfl := Option.some.inj H; obtain ⟨Ao76, co76, eo76⟩ := Kd.R_slice HO_5.out; subst eo76
            try go_wp2
            replace HO_3 := am (Kd.R_drew HO_3.out); replace HO_5 := am (Kd.R_drew HO_5.out); replace BK439 := am (blk_drew BK439.out); replace HB := am (below_drew1 HB.out)
            refine st (n := 16) (S := fun w' => w'.cell? ⟨gb439, 0, none⟩ = some (.string t437) ∧ w'.cell? ⟨gb439, 1, none⟩ = some (.string t438)) (ds := []) ⟨(blk_cell BK439.out 0).trans rfl, (blk_cell BK439.out 1).trans rfl⟩ (fun hHeld => ?_); refine with_tabW laws_FnForms.tab23 laws_FnForms.bits23 (fun HT_ HW_ => ?_)
            generalize wr.drew = w77 at HO_3 HO_5 BK439 HB hHeld ⊢
            refine pu 0 115 ?_
            refine pu 1 116 ?_
            refine tk2 2 117 hHeld ?_
            refine on1 3 118 (fun K hK => ?_)
            refine goes_ Try.func29 (by kernel_rfl) rfl #[.slice Ao76 t440.length co76, .string t437] (by rfl) rfl rfl mq ?_
            with_reducible refine (laws_mdHas.calls k3 _ _ t440 t437 true _ ?side1 ?side2 A72.out).mono ?_
            (case side1 => exact cq (Kd.R_reads' HO_5.out).2.2); (case side2 => exact (Kd.R_reads' HO_5.out).2.1)
            rintro e w' ⟨rfl, ⟨nd, rfl⟩⟩
            refine ⟨_, rfl, ?_⟩
            refine hK.out _ _ ⟨(blk_cell BK439.out 0).trans rfl, (blk_cell BK439.out 1).trans rfl⟩ (fun hHeld => ?_)
            clear hK K
            refine norm_ (a' := ?_) ?_ ?_
            rotate_left
            ·show Act.put _ (some 118) _ = _
             simp only [Act.put, List.setIfInBounds_toArray, List.set_cons_zero, List.set_cons_succ, i64_w, i32_w]
             rfl
            refine pu 4 119 ?_
            refine pu 5 120 ?_
            refine pu 6 121 ?_
            refine pu 10 125 ?_
            refine tk2 7 122 hHeld ?_
            refine pu 8 123 ?_
            refine tk2 11 126 hHeld ?_
            refine join_ (σ := Value × Value) 3 #[true, true, true, true, true, true, true, true, true, true, true, true, true, false, false, false] (fun s_ => [(124, s_.1), (127, s_.2)]) (fun s_ w' => (w'.cell? ⟨gb439, 0, none⟩ = some (.string t437) ∧ w'.cell? ⟨gb439, 1, none⟩ = some (.string t438)) ∧ (Kd.R Kd.string 9 w' w.heap.size (fun k_ => some k_ ≠ (s_.2 : Value).ownBlock ∧ some k_ ≠ (.slice Ao76 t440.length co76 : Value).ownBlock) s_.1 t461) ∧ (Kd.R Kd.string 9 w' w.heap.size (fun k_ => some k_ ≠ (s_.1 : Value).ownBlock ∧ some k_ ≠ (.slice Ao76 t440.length co76 : Value).ownBlock) s_.2 y464) ∧ (Kd.R k44 44 w' w.heap.size (fun _ => True) (.slice Ao9 t434.length co9) t434) ∧ (Kd.R Kd.string 9 w' w.heap.size (fun k_ => some k_ ≠ (s_.1 : Value).ownBlock ∧ some k_ ≠ (s_.2 : Value).ownBlock) (.slice Ao76 t440.length co76) t440) ∧ (w'.heap[gb439]? = some (.cells #[.string t437, .string t438] 31 (0, 0))) ∧ (Below w.heap.size w w')) ?_ ?_
            rotate_left
            ·intro hCont
             refine two_ (i := 9) (j := 12) (Ni := some 124) (Nj := some 127) #[true, true, true, true, true, true, true, true, true, true, true, true, false, false, false, false] #[true, true, true, true, true, true, true, true, true, false, true, true, true, false, false, false] rfl rfl rfl rfl (two_of HT_.out (by kernel_rfl)) (by decide) (by decide) (fun K hK => ?_) (fun K hK => ?_)
             ·skip
              refine goes_ Try.func20 (by kernel_rfl) rfl #[.slice Ao9 t434.length co9, .agg #[.string t437, .string (⟨#[]⟩ : ByteArray)]] (by rfl) rfl rfl mq ?_
              with_reducible refine (impl_Forms.calls k3 _ _ t434 t437 (⟨#[]⟩ : ByteArray) t461 _ ?side1 ?side2 A74.out).mono ?_
              (case side1 => exact cq (Kd.R_reads' HO_3.out).2.2); (case side2 => exact (Kd.R_reads' HO_3.out).2.1)
              rintro e w78 ⟨v462, rfl, ho0, hb⟩
              refine ⟨_, rfl, ?_⟩
              replace HO_3 := am (Kd.R_below (rq HO_3.out) hb); have HO463 := am (Kd.R_lower (Kd.R_new' ho0 (Kd.R_lt (rq HO_5.out))) (below_size (bel1 GE439.out))); replace HO_5 := am (Kd.R_elder' (rq HO_5.out) (Kd.R_base ho0) hb); replace BK439 := am (blk_below (g := gb439) (o := .cells #[.string t437, .string t438] 31 (0, 0)) (bq BK439.out) hb); replace HB := am (below_step (bel1 GE439.out) hb)
              (try clear hb)
              (try clear hb2)
              (try clear hk)
              (try clear hi)
              (try clear ho0)
              refine hK.out _ _ ⟨(blk_cell BK439.out 0).trans rfl, (blk_cell BK439.out 1).trans rfl⟩ (fun hHeld => ?_)
              clear hK K
              refine norm_ (a' := ?_) ?_ ?_
              rotate_left
              ·show Act.put _ (some 124) _ = _
               simp only [Act.put, List.setIfInBounds_toArray, List.set_cons_zero, List.set_cons_succ, i64_w, i32_w]
               rfl
              refine on1 12 127 (fun K hK => ?_)
              refine Kd.R_lit_step Kd.string _ 9 ?hg (N := 127) ?hd (xs := ([t437] : List ByteArray)) (inner := [.string t437]) (ok := fun _ => True) (okp := fun _ => True) ?hr ?hp (fun _ hk => hk) trivial (Below.refl _ _) (Nat.le_refl _) (by simp) ?_; (case hd => rfl); (case hg => rfl); (case hr => first | (go_simp; done) | (go_simp; rfl)); (case hp => exact (Reps.one (show Kd.M Kd.string _ _ _ t437 [.string t437] from rfl) (Reps.none _ _)))
              intro v465 w79 ho80 hb hg_ hnew_; clear hg_ hnew_
              (first | rw [← Ny464.out] at ho80 | (simp only [Int.reduceToNat] at ho80; rw [← Ny464.out] at ho80) | (simp only [Int.toNat_natCast] at ho80; rw [← Ny464.out] at ho80))
              replace HO_3 := am (Kd.R_below (rq HO_3.out) hb); have HO466 := am (Kd.R_lower (Kd.R_new' (Kd.R_new' ho80 (Kd.R_lt (rq HO_5.out))) (Kd.R_lt (rq HO463.out))) (below_size (bel1 GE439.out))); replace HO_5 := am (Kd.R_elder' (rq HO_5.out) (Kd.R_base ho80) hb); replace HO463 := am (Kd.R_elder' (rq HO463.out) (Kd.R_base ho80) hb); replace BK439 := am (blk_below (g := gb439) (o := .cells #[.string t437, .string t438] 31 (0, 0)) (bq BK439.out) hb); replace HB := am (below_step (bel1 GE439.out) hb); clear hb ho80
              refine hK.out _ _ ⟨(blk_cell BK439.out 0).trans rfl, (blk_cell BK439.out 1).trans rfl⟩ (fun hHeld => ?_)
              clear hK K
              refine norm_ (a' := ?_) ?_ ?_
              rotate_left
              ·show Act.put _ (some 127) _ = _
               simp only [Act.put, List.setIfInBounds_toArray, List.set_cons_zero, List.set_cons_succ, i64_w, i32_w]
               rfl
              exact norm_ b57_ (hCont (v462, v465) _ ⟨hHeld, (rq (Kd.R_mono HO463.out (fun _ hk => ⟨hk.2, hk.1.2⟩))), (rq (Kd.R_mono HO466.out (fun _ hk => ⟨hk.2, hk.1.2⟩))), (rq HO_3.out), (rq (Kd.R_mono HO_5.out (fun _ hk => ⟨hk.1.2, hk.2⟩))), (bq BK439.out), (bel1 GE439.out)⟩)
             ·skip
              refine Kd.R_lit_step Kd.string _ 9 ?hg (N := 127) ?hd (xs := ([t437] : List ByteArray)) (inner := [.string t437]) (ok := fun _ => True) (okp := fun _ => True) ?hr ?hp (fun _ hk => hk) trivial (Below.refl _ _) (Nat.le_refl _) (by simp) ?_; (case hd => rfl); (case hg => rfl); (case hr => first | (go_simp; done) | (go_simp; rfl)); (case hp => exact (Reps.one (show Kd.M Kd.string _ _ _ t437 [.string t437] from rfl) (Reps.none _ _)))
              intro v465 w78 ho79 hb hg_ hnew_; clear hg_ hnew_
              (first | rw [← Ny464.out] at ho79 | (simp only [Int.reduceToNat] at ho79; rw [← Ny464.out] at ho79) | (simp only [Int.toNat_natCast] at ho79; rw [← Ny464.out] at ho79))
              replace HO_3 := am (Kd.R_below (rq HO_3.out) hb); have HO466 := am (Kd.R_lower (Kd.R_new' ho79 (Kd.R_lt (rq HO_5.out))) (below_size (bel1 GE439.out))); replace HO_5 := am (Kd.R_elder' (rq HO_5.out) (Kd.R_base ho79) hb); replace BK439 := am (blk_below (g := gb439) (o := .cells #[.string t437, .string t438] 31 (0, 0)) (bq BK439.out) hb); replace HB := am (below_step (bel1 GE439.out) hb); clear hb ho79
              refine hK.out _ _ ⟨(blk_cell BK439.out 0).trans rfl, (blk_cell BK439.out 1).trans rfl⟩ (fun hHeld => ?_)
              clear hK K
              refine norm_ (a' := ?_) ?_ ?_
              rotate_left
              ·show Act.put _ (some 127) _ = _
               simp only [Act.put, List.setIfInBounds_toArray, List.set_cons_zero, List.set_cons_succ, i64_w, i32_w]
               rfl
              refine on1 9 124 (fun K hK => ?_)
              refine goes_ Try.func20 (by kernel_rfl) rfl #[.slice Ao9 t434.length co9, .agg #[.string t437, .string (⟨#[]⟩ : ByteArray)]] (by rfl) rfl rfl mq ?_
              with_reducible refine (impl_Forms.calls k3 _ _ t434 t437 (⟨#[]⟩ : ByteArray) t461 _ ?side1 ?side2 A74.out).mono ?_
              (case side1 => exact cq (Kd.R_reads' HO_3.out).2.2); (case side2 => exact (Kd.R_reads' HO_3.out).2.1)
              rintro e w80 ⟨v462, rfl, ho0, hb⟩
              refine ⟨_, rfl, ?_⟩
              replace HO_3 := am (Kd.R_below (rq HO_3.out) hb); have HO463 := am (Kd.R_lower (Kd.R_new' (Kd.R_new' ho0 (Kd.R_lt (rq HO_5.out))) (Kd.R_lt (rq HO466.out))) (below_size (bel1 GE439.out))); replace HO_5 := am (Kd.R_elder' (rq HO_5.out) (Kd.R_base ho0) hb); replace HO466 := am (Kd.R_elder' (rq HO466.out) (Kd.R_base ho0) hb); replace BK439 := am (blk_below (g := gb439) (o := .cells #[.string t437, .string t438] 31 (0, 0)) (bq BK439.out) hb); replace HB := am (below_step (bel1 GE439.out) hb)
              (try clear hb)
              (try clear hb2)
              (try clear hk)
              (try clear hi)
              (try clear ho0)
              refine hK.out _ _ ⟨(blk_cell BK439.out 0).trans rfl, (blk_cell BK439.out 1).trans rfl⟩ (fun hHeld => ?_)
              clear hK K
              refine norm_ (a' := ?_) ?_ ?_
              rotate_left
              ·show Act.put _ (some 124) _ = _
               simp only [Act.put, List.setIfInBounds_toArray, List.set_cons_zero, List.set_cons_succ, i64_w, i32_w]
               rfl
              exact norm_ b57_ (hCont (v462, v465) _ ⟨hHeld, (rq (Kd.R_mono HO463.out (fun _ hk => ⟨hk.2, hk.1.2⟩))), (rq (Kd.R_mono HO466.out (fun _ hk => ⟨hk.2, hk.1.2⟩))), (rq HO_3.out), (rq (Kd.R_mono HO_5.out (fun _ hk => ⟨hk.2, hk.1.2⟩))), (bq BK439.out), (bel1 GE439.out)⟩)
            rintro ⟨v462, v465⟩ w81 ⟨hS_, h0_, h1_, h2_, h3_, h4_, h5_⟩
            have n0_ : Aside0 (Kd.R Kd.string 9 w81 w.heap.size (fun k_ => some k_ ≠ (v465 : Value).ownBlock ∧ some k_ ≠ (.slice Ao76 t440.length co76 : Value).ownBlock) v462 t461) := ⟨h0_⟩
            have n1_ : Aside0 (Kd.R Kd.string 9 w81 w.heap.size (fun k_ => some k_ ≠ (v462 : Value).ownBlock ∧ some k_ ≠ (.slice Ao76 t440.length co76 : Value).ownBlock) v465 y464) := ⟨h1_⟩
            have n2_ : Aside0 (Kd.R k44 44 w81 w.heap.size (fun _ => True) (.slice Ao9 t434.length co9) t434) := ⟨h2_⟩
            have n3_ : Aside0 (Kd.R Kd.string 9 w81 w.heap.size (fun k_ => some k_ ≠ (v462 : Value).ownBlock ∧ some k_ ≠ (v465 : Value).ownBlock) (.slice Ao76 t440.length co76) t440) := ⟨h3_⟩
            have n4_ : Aside0 (w81.heap[gb439]? = some (.cells #[.string t437, .string t438] 31 (0, 0))) := ⟨h4_⟩
            have n5_ : Aside0 (Below w.heap.size w w81) := ⟨h5_⟩
            clear HO_3; clear HO_5; clear BK439; clear HB; clear h0_ h1_ h2_ h3_ h4_ h5_; have HO463 := n0_; have HO466 := n1_; have HO_3 := n2_; have HO_5 := n3_; have BK439 := n4_; have HB := n5_; clear n0_ n1_ n2_ n3_ n4_ n5_
            have hHeld : w81.cell? ⟨gb439, 0, none⟩ = some (.string t437) ∧ w81.cell? ⟨gb439, 1, none⟩ = some (.string t438) := hS_
            obtain ⟨Ao82, co82, eo82⟩ := Kd.R_slice HO463.out
            (first | subst eo82 | (injection eo82 with f1_ f2_ f3_; have f4_ := f1_.symm; have f5_ := f3_.symm; clear f1_ f2_ f3_; subst f4_; subst f5_))
            obtain ⟨Ao83, co83, eo83⟩ := Kd.R_slice HO466.out
            (first | subst eo83 | (injection eo83 with f1_ f2_ f3_; have f4_ := f1_.symm; have f5_ := f3_.symm; clear f1_ f2_ f3_; subst f4_; subst f5_))
            refine norm_ (a' := ?_) ?_ ?_
            rotate_left
            ·simp only [putAll, Act.put, List.setIfInBounds_toArray, List.set_cons_zero, List.set_cons_succ]
             rfl
            refine on1 13 128 (fun K hK => ?_)
            refine goes_ Try.func27 (by kernel_rfl) rfl #[.slice Ao82 t461.length co82, .slice Ao83 y464.length co83] (by rfl) rfl rfl mq ?_
            with_reducible refine (laws_mdTexts.calls k3 _ _ t461 _ _ y464 t467 _ ?side1 ?side2 ?side3 ?side4 A75.out).mono ?_
            (case side1 => exact cq (Kd.R_reads' HO463.out).2.2); (case side2 => exact (Kd.R_reads' HO463.out).2.1); (case side3 => exact cq (Kd.R_reads' HO466.out).2.2); (case side4 => exact (Kd.R_reads' HO466.out).2.1)
            rintro e w' ⟨rfl, ⟨nd, rfl⟩⟩
            refine ⟨_, rfl, ?_⟩
            refine hK.out _ _ ⟨(blk_cell BK439.out 0).trans rfl, (blk_cell BK439.out 1).trans rfl⟩ (fun hHeld => ?_)
            clear hK K
            refine norm_ (a' := ?_) ?_ ?_
            rotate_left
            ·show Act.put _ (some 128) _ = _
             simp only [Act.put, List.setIfInBounds_toArray, List.set_cons_zero, List.set_cons_succ, i64_w, i32_w]
             rfl
            refine pu 14 129 ?_
            refine pu 15 2 ?_
            refine done_ (done_of HT_.out (by kernel_rfl)) ?_
            try go_wp2
            go_ret
            exact ⟨eq_, bel1 GE439.out⟩
           ·replace c73 := Bool.eq_false_iff.mpr c73; subst c73
            have H1 : (some false) = some r := b18_
            replace H := H1; clear H1
            obtain rfl := Option.some.inj H; obtain ⟨Ao84, co84, eo84⟩ := Kd.R_slice HO_5.out; subst eo84
            try go_wp2
            replace HO_3 := am (Kd.R_drew HO_3.out); replace HO_5 := am (Kd.R_drew HO_5.out); replace BK439 := am (blk_drew BK439.out); replace HB := am (below_drew1 HB.out)
            refine st (n := 16) (S := fun w' => w'.cell? ⟨gb439, 0, none⟩ = some (.string t437) ∧ w'.cell? ⟨gb439, 1, none⟩ = some (.string t438)) (ds := []) ⟨(blk_cell BK439.out 0).trans rfl, (blk_cell BK439.out 1).trans rfl⟩ (fun hHeld => ?_); refine with_tabW laws_FnForms.tab23 laws_FnForms.bits23 (fun HT_ HW_ => ?_)
            generalize wr.drew = w85 at HO_3 HO_5 BK439 HB hHeld ⊢
            refine pu 0 115 ?_
            refine pu 1 116 ?_
            refine tk2 2 117 hHeld ?_
            refine on1 3 118 (fun K hK => ?_)
            refine goes_ Try.func29 (by kernel_rfl) rfl #[.slice Ao84 t440.length co84, .string t437] (by rfl) rfl rfl mq ?_
            with_reducible refine (laws_mdHas.calls k3 _ _ t440 t437 false _ ?side1 ?side2 A72.out).mono ?_
            (case side1 => exact cq (Kd.R_reads' HO_5.out).2.2); (case side2 => exact (Kd.R_reads' HO_5.out).2.1)
            rintro e w' ⟨rfl, ⟨nd, rfl⟩⟩
            refine ⟨_, rfl, ?_⟩
            refine hK.out _ _ ⟨(blk_cell BK439.out 0).trans rfl, (blk_cell BK439.out 1).trans rfl⟩ (fun hHeld => ?_)
            clear hK K
            refine norm_ (a' := ?_) ?_ ?_
            rotate_left
            ·show Act.put _ (some 118) _ = _
             simp only [Act.put, List.setIfInBounds_toArray, List.set_cons_zero, List.set_cons_succ, i64_w, i32_w]
             rfl
            refine pu 4 119 ?_
            refine puu 5 120 ?_
            refine puu 6 121 ?_
            refine puu 7 122 ?_
            refine puu 8 123 ?_
            refine puu 9 124 ?_
            refine puu 10 125 ?_
            refine puu 11 126 ?_
            refine puu 12 127 ?_
            refine puu 13 128 ?_
            refine pu 14 129 ?_
            refine pu 15 2 ?_
            refine done_ (done_of HT_.out (by kernel_rfl)) ?_
            try go_wp2
            go_ret
            exact ⟨eq_, bel1 GE439.out⟩

/-- THE ONE PURE STATEMENT of laws_FnForms: yours. -/
def laws_FnForms.Pure : Prop := ∀ (l0 : List Int), l0.length ≤ maxLen → l0.length * 1 ≤ 140737488351232 → (∀ x ∈ l0, (Lit.int .u8 x).wf = true) → ∃ k, laws_FnForms.f k l0 = some true
theorem laws_FnForms.walk (P : laws_FnForms.Pure) (a0 : Option Addr) (len0 cap0 : Nat) (z0 : List Int) (w : World) (w0 : (a0 = none ∧ len0 = 0 ∧ cap0 = 0 ∧ z0 = []) ∨ ∃ x, a0 = some x ∧ len0 ≤ cap0 ∧ cap0 ≤ maxLen ∧ z0.length = cap0 ∧ (∀ i, i < z0.length → w.cell? (x.add i) = some (.int .u8 (z0.getD i 0))) ∧ ∀ n ∈ z0, (Lit.int .u8 n).wf = true) (y0 : len0 * 1 ≤ 140737488351232) :
  Calls Try.prog 4 #[.slice a0 len0 cap0] w fun e w' => e = .returned (.bool true) ∧ Below w.heap.size w w' := by
 obtain ⟨l0, rfl, hr0, hm0, hw0, hc0⟩ := ReadsInt.ofRowC w0; obtain ⟨k, h⟩ := P l0 hm0 y0 hw0
 refine (laws_FnForms.calls k _ _ l0 true w (Kd.C_of_reads (d := (0 : Int)) (h1 := fun _ => rfl) hr0) hc0 h).mono ?_
 rintro e w' ⟨rfl, hd⟩
 exact ⟨rfl, hd⟩

end Go.Proofs.Ytedfcehhgbeibaa.QFnForms

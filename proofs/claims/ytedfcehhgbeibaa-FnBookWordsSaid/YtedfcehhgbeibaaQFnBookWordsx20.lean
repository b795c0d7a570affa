import Derived.Test.YtedfcehhgbeibaaQFnBookWordsx0
import Derived.Test.YtedfcehhgbeibaaQFnBookWordsx6
import Derived.Test.YtedfcehhgbeibaaQFnBookWordsx7
import Derived.Test.YtedfcehhgbeibaaQFnBookWordsx9
import Derived.Test.YtedfcehhgbeibaaQFnBookWordsx13
import Derived.Test.YtedfcehhgbeibaaQFnBookWordsx14
import Derived.Test.YtedfcehhgbeibaaQFnBookWordsx15
import Derived.Test.YtedfcehhgbeibaaQFnBookWordsx19
import Derived.Test.YtedfcehhgbeibaaVMSh2
namespace Go.Proofs.Ytedfcehhgbeibaa.QFnBookWords
open Go.RowKit Go.Proofs.YtedfcehhgbeibaaW.PrintWords Go.Proofs.YtedfcehhgbeibaaW.PrintLast Go.Proofs.YtedfcehhgbeibaaW.PrintMore Go.Proofs.Ytedfcehhgbeibaa.Sh
attribute [local go_sem] max2_int min2_int max_two min_two max_three min_three max_four min_four   -- for this text's walks alone
set_option linter.unusedVariables false
set_option linter.unusedSimpArgs false
-- shrunk

/-! ### laws_FnBookWords: function 6 -/
mutual
def laws_FnBookWords.j0 : Nat → List ByteArray → Bool → List (S44) → List (S31) → Option (Bool)
 | 0, _, _, _, _ => none
 | k + 1, x4, x33, x471000, x471001 => if x33 = true then ((spec_BookWords.f k x471000 x471001).bind fun t481 => ((laws_mdTexts.f k x4 t481).bind fun t484 => (if t484 = true then ((impl_BookOk.f k x471000 x471001).bind fun t485 => ((spec_BookOk.f k x471000 x471001).bind fun t486 => (some (t485 == t486)))) else (some false)))) else (laws_FnBookWords.l0 k x4 0 0 x471000 x471001)
def laws_FnBookWords.l0 : Nat → List ByteArray → Int → Int → List (S44) → List (S31) → Option (Bool)
 | 0, _, _, _, _, _ => none
 | k + 1, x4, x5, x6, x471000, x471001 => if x6 < (x471001.length : Int) then (if 0 ≤ x6 then ((impl_Forms.f k x471000 ((rd_T31 x471001 x6).f0) ((rd_T31 x471001 x6).f1)).bind fun t488 => (laws_FnBookWords.l1 k x4 (wrap64 (x5 + (t488.length : Int))) x6 t488 0 x471000 x471001)) else (none)) else (laws_FnBookWords.l2 k x4 x5 1)
def laws_FnBookWords.l1 : Nat → List ByteArray → Int → Int → List ByteArray → Int → List (S44) → List (S31) → Option (Bool)
 | 0, _, _, _, _, _, _, _ => none
 | k + 1, x4, x5, x6, x7, x8, x471000, x471001 => if x8 < (x7.length : Int) then (if 0 ≤ x8 then ((laws_mdHas.f k x4 (rdOf ByteArray.empty x7 x8)).bind fun t492 => (if t492 = true then (laws_FnBookWords.l1 k x4 x5 x6 x7 (wrap64 (x8 + 1)) x471000 x471001) else (some false))) else (none)) else (laws_FnBookWords.l0 k x4 x5 (wrap64 (x6 + 1)) x471000 x471001)
def laws_FnBookWords.l2 : Nat → List ByteArray → Int → Int → Option (Bool)
 | 0, _, _, _ => none
 | k + 1, x4, x5, x9 => if x9 < (x4.length : Int) then (if 0 ≤ (wrap64 (x9 - 1)) then (if (wrap64 (x9 - 1)) < (x4.length : Int) then (if 0 ≤ x9 then (if ((Op.bytesLess ((rdOf ByteArray.empty x4 (wrap64 (x9 - 1))).toList) ((rdOf ByteArray.empty x4 x9).toList)) = true) then (laws_FnBookWords.l2 k x4 x5 (wrap64 (x9 + 1))) else (some false)) else (none)) else (none)) else (none)) else (some (decide ((x4.length : Int) ≤ x5)))
end
def laws_FnBookWords.f (k : Nat) (l0 : List Int) : Option (Bool) := if (l0.length : Int) > 1048576 then (some true) else ((spec_DrawBookWords.f k l0).bind fun bt464 => ((impl_BookWords.f k bt464.1 bt464.2).bind fun t471 => ((spec_BookWords.f k bt464.1 bt464.2).bind fun t474 => ((laws_mdTexts.f k t471 t474).bind fun t477 => (if t477 = true then ((impl_BookOk.f k bt464.1 bt464.2).bind fun t478 => ((spec_BookOk.f k bt464.1 bt464.2).bind fun t479 => (if (t478 != t479) = true then (laws_FnBookWords.j0 k t471 true bt464.1 bt464.2) else ((spec_BookOk.f k bt464.1 bt464.2).bind fun t480 => (laws_FnBookWords.j0 k t471 (!t480) bt464.1 bt464.2))))) else (laws_FnBookWords.j0 k t471 true bt464.1 bt464.2))))))
theorem laws_FnBookWords.mono_l : ∀ k, (∀ y0 y1 y2 y3, LeO (laws_FnBookWords.j0 k y0 y1 y2 y3) (laws_FnBookWords.j0 (k + 1) y0 y1 y2 y3)) ∧ (∀ y0 y1 y2 y3 y4, LeO (laws_FnBookWords.l0 k y0 y1 y2 y3 y4) (laws_FnBookWords.l0 (k + 1) y0 y1 y2 y3 y4)) ∧ (∀ y0 y1 y2 y3 y4 y5 y6, LeO (laws_FnBookWords.l1 k y0 y1 y2 y3 y4 y5 y6) (laws_FnBookWords.l1 (k + 1) y0 y1 y2 y3 y4 y5 y6)) ∧ (∀ y0 y1 y2, LeO (laws_FnBookWords.l2 k y0 y1 y2) (laws_FnBookWords.l2 (k + 1) y0 y1 y2))
 | 0 => ⟨fun _ _ _ _ r h => by simp [laws_FnBookWords.j0] at h, fun _ _ _ _ _ r h => by simp [laws_FnBookWords.l0] at h, fun _ _ _ _ _ _ _ r h => by simp [laws_FnBookWords.l1] at h, fun _ _ _ r h => by simp [laws_FnBookWords.l2] at h⟩
 | k + 1 => by
  obtain ⟨ih0, ih1, ih2, ih3⟩ := laws_FnBookWords.mono_l k
  refine ⟨?_, ?_, ?_, ?_⟩
  ·intro y0 y1 y2 y3
   unfold laws_FnBookWords.j0
   repeat' first | (with_reducible first | exact ih0 _ _ _ _ | exact ih1 _ _ _ _ _ | exact ih2 _ _ _ _ _ _ _ | exact ih3 _ _ _ | exact impl_BookOk.mono _ _ _ | exact impl_BookWords.mono _ _ _ | exact impl_Forms.mono _ _ _ _ | exact laws_mdHas.mono _ _ _ | exact laws_mdTexts.mono _ _ _ | exact spec_BookOk.mono _ _ _ | exact spec_BookWords.mono _ _ _ | exact spec_DrawBookWords.mono _ _ | exact LeO.refl _ | exact LeO.none _ | refine LeO.ite ?_ ?_ | refine LeO.bind ?_ (fun _ => ?_)) | exact ih0 _ _ _ _ | exact ih1 _ _ _ _ _ | exact ih2 _ _ _ _ _ _ _ | exact ih3 _ _ _ | exact impl_BookOk.mono _ _ _ | exact impl_BookWords.mono _ _ _ | exact impl_Forms.mono _ _ _ _ | exact laws_mdHas.mono _ _ _ | exact laws_mdTexts.mono _ _ _ | exact spec_BookOk.mono _ _ _ | exact spec_BookWords.mono _ _ _ | exact spec_DrawBookWords.mono _ _ | exact LeO.none _ | refine LeO.ite ?_ ?_ | refine LeO.bind ?_ (fun _ => ?_)
  ·intro y0 y1 y2 y3 y4
   unfold laws_FnBookWords.l0
   repeat' first | (with_reducible first | exact ih0 _ _ _ _ | exact ih1 _ _ _ _ _ | exact ih2 _ _ _ _ _ _ _ | exact ih3 _ _ _ | exact impl_BookOk.mono _ _ _ | exact impl_BookWords.mono _ _ _ | exact impl_Forms.mono _ _ _ _ | exact laws_mdHas.mono _ _ _ | exact laws_mdTexts.mono _ _ _ | exact spec_BookOk.mono _ _ _ | exact spec_BookWords.mono _ _ _ | exact spec_DrawBookWords.mono _ _ | exact LeO.refl _ | exact LeO.none _ | refine LeO.ite ?_ ?_ | refine LeO.bind ?_ (fun _ => ?_)) | exact ih0 _ _ _ _ | exact ih1 _ _ _ _ _ | exact ih2 _ _ _ _ _ _ _ | exact ih3 _ _ _ | exact impl_BookOk.mono _ _ _ | exact impl_BookWords.mono _ _ _ | exact impl_Forms.mono _ _ _ _ | exact laws_mdHas.mono _ _ _ | exact laws_mdTexts.mono _ _ _ | exact spec_BookOk.mono _ _ _ | exact spec_BookWords.mono _ _ _ | exact spec_DrawBookWords.mono _ _ | exact LeO.none _ | refine LeO.ite ?_ ?_ | refine LeO.bind ?_ (fun _ => ?_)
  ·intro y0 y1 y2 y3 y4 y5 y6
   unfold laws_FnBookWords.l1
   repeat' first | (with_reducible first | exact ih0 _ _ _ _ | exact ih1 _ _ _ _ _ | exact ih2 _ _ _ _ _ _ _ | exact ih3 _ _ _ | exact impl_BookOk.mono _ _ _ | exact impl_BookWords.mono _ _ _ | exact impl_Forms.mono _ _ _ _ | exact laws_mdHas.mono _ _ _ | exact laws_mdTexts.mono _ _ _ | exact spec_BookOk.mono _ _ _ | exact spec_BookWords.mono _ _ _ | exact spec_DrawBookWords.mono _ _ | exact LeO.refl _ | exact LeO.none _ | refine LeO.ite ?_ ?_ | refine LeO.bind ?_ (fun _ => ?_)) | exact ih0 _ _ _ _ | exact ih1 _ _ _ _ _ | exact ih2 _ _ _ _ _ _ _ | exact ih3 _ _ _ | exact impl_BookOk.mono _ _ _ | exact impl_BookWords.mono _ _ _ | exact impl_Forms.mono _ _ _ _ | exact laws_mdHas.mono _ _ _ | exact laws_mdTexts.mono _ _ _ | exact spec_BookOk.mono _ _ _ | exact spec_BookWords.mono _ _ _ | exact spec_DrawBookWords.mono _ _ | exact LeO.none _ | refine LeO.ite ?_ ?_ | refine LeO.bind ?_ (fun _ => ?_)
  ·intro y0 y1 y2
   unfold laws_FnBookWords.l2
   repeat' first | (with_reducible first | exact ih0 _ _ _ _ | exact ih1 _ _ _ _ _ | exact ih2 _ _ _ _ _ _ _ | exact ih3 _ _ _ | exact impl_BookOk.mono _ _ _ | exact impl_BookWords.mono _ _ _ | exact impl_Forms.mono _ _ _ _ | exact laws_mdHas.mono _ _ _ | exact laws_mdTexts.mono _ _ _ | exact spec_BookOk.mono _ _ _ | exact spec_BookWords.mono _ _ _ | exact spec_DrawBookWords.mono _ _ | exact LeO.refl _ | exact LeO.none _ | refine LeO.ite ?_ ?_ | refine LeO.bind ?_ (fun _ => ?_)) | exact ih0 _ _ _ _ | exact ih1 _ _ _ _ _ | exact ih2 _ _ _ _ _ _ _ | exact ih3 _ _ _ | exact impl_BookOk.mono _ _ _ | exact impl_BookWords.mono _ _ _ | exact impl_Forms.mono _ _ _ _ | exact laws_mdHas.mono _ _ _ | exact laws_mdTexts.mono _ _ _ | exact spec_BookOk.mono _ _ _ | exact spec_BookWords.mono _ _ _ | exact spec_DrawBookWords.mono _ _ | exact LeO.none _ | refine LeO.ite ?_ ?_ | refine LeO.bind ?_ (fun _ => ?_)
theorem laws_FnBookWords.mono : ∀ a0 k, LeO (laws_FnBookWords.f k a0) (laws_FnBookWords.f (k + 1) a0) := by
 intro a0 k; obtain ⟨ih0, ih1, ih2, ih3⟩ := laws_FnBookWords.mono_l k
 unfold laws_FnBookWords.f
 repeat' first | (with_reducible first | exact ih0 _ _ _ _ | exact ih1 _ _ _ _ _ | exact ih2 _ _ _ _ _ _ _ | exact ih3 _ _ _ | exact impl_BookOk.mono _ _ _ | exact impl_BookWords.mono _ _ _ | exact impl_Forms.mono _ _ _ _ | exact laws_mdHas.mono _ _ _ | exact laws_mdTexts.mono _ _ _ | exact spec_BookOk.mono _ _ _ | exact spec_BookWords.mono _ _ _ | exact spec_DrawBookWords.mono _ _ | exact LeO.refl _ | exact LeO.none _ | refine LeO.ite ?_ ?_ | refine LeO.bind ?_ (fun _ => ?_)) | exact ih0 _ _ _ _ | exact ih1 _ _ _ _ _ | exact ih2 _ _ _ _ _ _ _ | exact ih3 _ _ _ | exact impl_BookOk.mono _ _ _ | exact impl_BookWords.mono _ _ _ | exact impl_Forms.mono _ _ _ _ | exact laws_mdHas.mono _ _ _ | exact laws_mdTexts.mono _ _ _ | exact spec_BookOk.mono _ _ _ | exact spec_BookWords.mono _ _ _ | exact spec_DrawBookWords.mono _ _ | exact LeO.none _ | refine LeO.ite ?_ ?_ | refine LeO.bind ?_ (fun _ => ?_)
def laws_FnBookWords.T5 : Bool × List (List Nat × List Nat) := (true, [([], []), ([], []), ([1], [1]), ([0, 2, 2], [0, 2]), ([3], [3]), ([4, 3], [4]), ([5], [5]), ([6, 5, 5], [5, 6]), ([5], [5]), ([8, 7, 5], [5, 8]), ([7, 9, 5], [5, 7, 9]), ([5, 10], [5, 10]), ([11, 9], [11]), ([12], [12]), ([13, 12, 12], [12, 13]), ([14, 12], [12, 14]), ([12, 15], [12, 15])])
def laws_FnBookWords.B5 : List Nat := [0, 0, 2, 7, 15, 31, 63, 127, 63, 511, 1023, 2047, 4095, 8191, 16383, 32767, 65535]
theorem laws_FnBookWords.tab5 : rtab .any (opsOf Try.f6 5) = laws_FnBookWords.T5 := by kernel_rfl
theorem laws_FnBookWords.bits5 : waitsOk laws_FnBookWords.T5.2 laws_FnBookWords.B5 = true := by kernel_rfl
def laws_FnBookWords.T6 : Bool × List (List Nat × List Nat) := (true, [([], []), ([], []), ([1], [1]), ([0, 2, 2], [0, 2]), ([3, 3], [3]), ([4], [4]), ([5, 4, 4], [4, 5]), ([4], [4]), ([7, 6, 4], [4, 7]), ([6, 8, 4], [4, 6, 8]), ([4, 9], [4, 9]), ([10, 8, 0, 1, 2, 3, 4, 5, 6, 7, 8, 9, 10], [10])])
def laws_FnBookWords.B6 : List Nat := [0, 0, 2, 7, 15, 31, 63, 31, 255, 511, 1023, 2047]
theorem laws_FnBookWords.tab6 : rtab .any (opsOf Try.f6 6) = laws_FnBookWords.T6 := by kernel_rfl
theorem laws_FnBookWords.bits6 : waitsOk laws_FnBookWords.T6.2 laws_FnBookWords.B6 = true := by kernel_rfl
def laws_FnBookWords.T11 : Bool × List (List Nat × List Nat) := (true, [([], []), ([0], [0]), ([], []), ([2], [2]), ([], []), ([3, 4], [3, 4]), ([5], [5]), ([1, 6], [1, 6]), ([7, 7, 0, 1, 2, 3, 4, 5, 6, 7], [7])])
def laws_FnBookWords.B11 : List Nat := [0, 1, 0, 4, 0, 28, 60, 127, 255]
theorem laws_FnBookWords.tab11 : rtab .any (opsOf Try.f6 11) = laws_FnBookWords.T11 := by kernel_rfl
theorem laws_FnBookWords.bits11 : waitsOk laws_FnBookWords.T11.2 laws_FnBookWords.B11 = true := by kernel_rfl
def laws_FnBookWords.T21 : Bool × List (List Nat × List Nat) := (true, [([], []), ([], []), ([1], [1]), ([0, 2], [0, 2]), ([3], [3]), ([], []), ([], []), ([5, 6], [5, 6]), ([7], [7]), ([4, 8], [4, 8])])
def laws_FnBookWords.B21 : List Nat := [0, 0, 2, 7, 15, 0, 0, 96, 224, 511]
theorem laws_FnBookWords.tab21 : rtab .any (opsOf Try.f6 21) = laws_FnBookWords.T21 := by kernel_rfl
theorem laws_FnBookWords.bits21 : waitsOk laws_FnBookWords.T21.2 laws_FnBookWords.B21 = true := by kernel_rfl
set_option maxHeartbeats 8000000 in
set_option maxRecDepth 100000 in
theorem laws_FnBookWords.calls (k : Nat) (A0 : Option Addr) (c0 : Nat) (l0 : List Int) (r : Bool) (w : World) (hr0 : Kd.C (Kd.int .u8) w A0 l0.length l0) (hc0 : l0.length ≤ c0) (h : laws_FnBookWords.f k l0 = some r) :
  Calls Try.prog 6 #[.slice A0 l0.length c0] w fun e w' => e = .returned (.bool r) ∧ Below w.heap.size w w' := by
 have hu55 := Try.underlying55; have hu31 := Try.underlying31; have HR0 := am hr0; have HC0 := am hc0; clear hr0 hc0; have HB := am (Below.refl w.heap.size w)
 have H : (if (l0.length : Int) > 1048576 then (some true) else ((spec_DrawBookWords.f k l0).bind fun bt464 => ((impl_BookWords.f k bt464.1 bt464.2).bind fun t471 => ((spec_BookWords.f k bt464.1 bt464.2).bind fun t474 => ((laws_mdTexts.f k t471 t474).bind fun t477 => (if t477 = true then ((impl_BookOk.f k bt464.1 bt464.2).bind fun t478 => ((spec_BookOk.f k bt464.1 bt464.2).bind fun t479 => (if (t478 != t479) = true then (laws_FnBookWords.j0 k t471 true bt464.1 bt464.2) else ((spec_BookOk.f k bt464.1 bt464.2).bind fun t480 => (laws_FnBookWords.j0 k t471 (!t480) bt464.1 bt464.2))))) else (laws_FnBookWords.j0 k t471 true bt464.1 bt464.2))))))) = some r := h
 clear h
 by_cases c2 : (l0.length : Int) > 1048576
 ·rw [if_pos c2] at H; have c2b0 := decide_eq_true c2
  have c2b1 : decide (1048576 < l0.length) = true := decide_eq_true (by omega)
  clear c2; obtain rfl := Option.some.inj H; go_enter Try.func6, Try.ntmps6; go_wp2; go_ret
  exact ⟨eq_, bel⟩
 ·rw [if_neg c2] at H; have c2b0 := decide_eq_false c2
  have c2b1 : decide (1048576 < l0.length) = false := decide_eq_false (by omega)
  clear c2; replace H := Option.bind_eq_some_iff.mp H; obtain ⟨⟨t464, t467⟩, A30, H⟩ := H; replace H : ((impl_BookWords.f k t464 t467).bind fun t471 => ((spec_BookWords.f k t464 t467).bind fun t474 => ((laws_mdTexts.f k t471 t474).bind fun t477 => (if t477 = true then ((impl_BookOk.f k t464 t467).bind fun t478 => ((spec_BookOk.f k t464 t467).bind fun t479 => (if (t478 != t479) = true then (laws_FnBookWords.j0 k t471 true t464 t467) else ((spec_BookOk.f k t464 t467).bind fun t480 => (laws_FnBookWords.j0 k t471 (!t480) t464 t467))))) else (laws_FnBookWords.j0 k t471 true t464 t467))))) = some r := H; have A3 := Aside0.mk A30; clear A30; replace H := Option.bind_eq_some_iff.mp H; obtain ⟨t471, A40, H⟩ := H; replace H : ((spec_BookWords.f k t464 t467).bind fun t474 => ((laws_mdTexts.f k t471 t474).bind fun t477 => (if t477 = true then ((impl_BookOk.f k t464 t467).bind fun t478 => ((spec_BookOk.f k t464 t467).bind fun t479 => (if (t478 != t479) = true then (laws_FnBookWords.j0 k t471 true t464 t467) else ((spec_BookOk.f k t464 t467).bind fun t480 => (laws_FnBookWords.j0 k t471 (!t480) t464 t467))))) else (laws_FnBookWords.j0 k t471 true t464 t467)))) = some r := H; have A4 := Aside0.mk A40; clear A40; have HC5 := am H; clear H; go_enter Try.func6, Try.ntmps6
  go_upto_region 5 with (first | ((with_reducible refine gate_callee (f := 37) rfl ?_); refine goesL_ (some 14) rfl rfl Try.func37 (by kernel_rfl) rfl #[.slice A0 l0.length c0] rfl mq ?_; (with_reducible refine (spec_DrawBookWords.calls k _ _ l0 t464 t467 _ ?side1 ?side2 A3.out).mono ?_); (case side1 => repeat (first | exact HR0.out | (with_reducible refine Kd.C_alloc ?_ _) | (with_reducible refine Kd.C_drewN ?_ _) | (with_reducible refine Kd.C_drew ?_))); (case side2 => exact HC0.out); rintro e w6 ⟨v465, v468, rfl, ho0, ho1, hb⟩; refine ⟨_, rfl, ?_⟩; have HO466 := am (Kd.R_lower ho0 (below_size bel)); have HO469 := am (Kd.R_lower ho1 (below_size bel)); replace HB := am (below_step bel hb); (try clear hb); (try clear hb2); (try clear hk); (try clear hi); (try clear ho0); (try clear ho1)) | ((with_reducible refine gate_dst (N := 3) rfl ?_); refine bx 3 (cs := #[.slice none 0 0, .slice none 0 0]) (t := 55) ?_; intro gb470 hg w7 hbox hb; replace HO466 := am (Kd.R_below (rq HO466.out) hb); replace HO469 := am (Kd.R_below (rq HO469.out) hb); have BK470 := am (hbox); have GW470 := am ((b17_ : w.heap.size ≤ gb470)); have GE470 := am ((b17_ : w.heap.size ≤ gb470)); replace HB := am (below_step bel hb); clear hb hbox hg; obtain ⟨Ao8, co8, eo8⟩ := Kd.R_slice HO466.out; subst eo8; have hcz9_0 := bc BK470.out 0; have hcz9_1 := bc BK470.out 1; have hfz9_0 := bf BK470.out 0; have hfz9_1 := bf BK470.out 1; obtain ⟨Ao10, co10, eo10⟩ := Kd.R_slice HO469.out; subst eo10) | ((with_reducible refine gate_callee (f := 34) rfl ?_); refine goesL_ (some 16) rfl rfl Try.func34 (by kernel_rfl) rfl #[.agg #[.slice Ao8 t464.length co8, .slice Ao10 t467.length co10]] rfl mq ?_; (with_reducible refine (impl_BookWords.calls k _ _ t464 _ _ t467 t471 _ ?side1 ?side2 ?side3 ?side4 A4.out).mono ?_); (case side1 => refine (Kd.R_reads' (e := 44) (base := w.heap.size) (ok := fun k_ => True) (n := t464.length) (c := co8) ?_).2.2; exact (rq ((Kd.R_mono (Kd.R_far (p := ⟨gb470, 1, none⟩) (Kd.R_far (p := ⟨gb470, 0, none⟩) (Kd.R_types HO466.out BK470.out (by decide)) (fun _ hk => hk.2) (.slice Ao8 t464.length co8)) (fun _ hk => hk.2) (.slice Ao10 t467.length co10)) (fun _ h_ => h_.1))))); (case side2 => exact (Kd.R_reads' HO466.out).2.1); (case side3 => refine (Kd.R_reads' (e := 31) (base := w.heap.size) (ok := fun k_ => True) (n := t467.length) (c := co10) ?_).2.2; exact (rq ((Kd.R_mono (Kd.R_far (p := ⟨gb470, 1, none⟩) (Kd.R_far (p := ⟨gb470, 0, none⟩) (Kd.R_types HO469.out BK470.out (by decide)) (fun _ hk => hk.2) (.slice Ao8 t464.length co8)) (fun _ hk => hk.2) (.slice Ao10 t467.length co10)) (fun _ h_ => h_.1))))); (case side4 => exact (Kd.R_reads' HO469.out).2.1); rintro e w11 ⟨v472, rfl, ho0, hb⟩; refine ⟨_, rfl, ?_⟩; replace HO466 := am (Kd.R_below (rq ((Kd.R_mono (Kd.R_far (p := ⟨gb470, 1, none⟩) (Kd.R_far (p := ⟨gb470, 0, none⟩) (Kd.R_types HO466.out BK470.out (by decide)) (fun _ hk => hk.2) (.slice Ao8 t464.length co8)) (fun _ hk => hk.2) (.slice Ao10 t467.length co10)) (fun _ h_ => h_.1)))) hb); replace HO469 := am (Kd.R_below (rq ((Kd.R_mono (Kd.R_far (p := ⟨gb470, 1, none⟩) (Kd.R_far (p := ⟨gb470, 0, none⟩) (Kd.R_types HO469.out BK470.out (by decide)) (fun _ hk => hk.2) (.slice Ao8 t464.length co8)) (fun _ hk => hk.2) (.slice Ao10 t467.length co10)) (fun _ h_ => h_.1)))) hb); have HO473 := am (Kd.R_lower ho0 (below_size (bel1 GE470.out))); replace BK470 := am (blk_below (g := gb470) (o := .cells #[.slice Ao8 t464.length co8, .slice Ao10 t467.length co10] 55 (0, 0)) (by (with_reducible repeat (first | refine blk_drewN ?_ _ | refine blk_drew ?_ | refine blk_alloc ?_ _)); refine blk_put (cs := #[.slice Ao8 t464.length co8, .slice none 0 0]) ?_ 1 _ rfl; (with_reducible repeat (first | refine blk_drewN ?_ _ | refine blk_drew ?_ | refine blk_alloc ?_ _)); refine blk_put (cs := #[.slice none 0 0, .slice none 0 0]) ?_ 0 _ rfl; (with_reducible repeat (first | refine blk_drewN ?_ _ | refine blk_drew ?_ | refine blk_alloc ?_ _)); exact BK470.out) hb); replace HB := am (below_step (bel1 GE470.out) hb); (try clear hb); (try clear hb2); (try clear hk); (try clear hi); (try clear ho0)))
  (try simp only [Act.put, List.setIfInBounds_toArray, List.set_cons_zero, List.set_cons_succ])
  go_cut [33] (fun v33 wc => ∃ (kq : Nat) (x33_4 : Bool), v33 = .bool x33_4 ∧ Aside0 (laws_FnBookWords.j0 kq t471 x33_4 t464 t467 = some r) ∧ Aside0 (kq ≤ k) ∧ Aside0 (Kd.R Kd.string 9 wc w.heap.size (fun _ => True) v472 t471) ∧ Aside0 (Kd.R k44 44 wc w.heap.size (fun _ => True) (.slice Ao8 t464.length co8) t464) ∧ Aside0 (Kd.R k31 31 wc w.heap.size (fun _ => True) (.slice Ao10 t467.length co10) t467) ∧ Aside0 (wc.heap[gb470]? = some (.cells #[(.slice Ao8 t464.length co8), (.slice Ao10 t467.length co10)] 55 (0, 0))) ∧ Aside0 (Below w.heap.size w wc))
  case first =>
   have H := HC5.out; clear HC5; replace H := Option.bind_eq_some_iff.mp H; obtain ⟨t474, A120, H⟩ := H; replace H : ((laws_mdTexts.f k t471 t474).bind fun t477 => (if t477 = true then ((impl_BookOk.f k t464 t467).bind fun t478 => ((spec_BookOk.f k t464 t467).bind fun t479 => (if (t478 != t479) = true then (laws_FnBookWords.j0 k t471 true t464 t467) else ((spec_BookOk.f k t464 t467).bind fun t480 => (laws_FnBookWords.j0 k t471 (!t480) t464 t467))))) else (laws_FnBookWords.j0 k t471 true t464 t467))) = some r := H; have A12 := Aside0.mk A120; clear A120; replace H := Option.bind_eq_some_iff.mp H; obtain ⟨t477, A130, H⟩ := H; replace H : (if t477 = true then ((impl_BookOk.f k t464 t467).bind fun t478 => ((spec_BookOk.f k t464 t467).bind fun t479 => (if (t478 != t479) = true then (laws_FnBookWords.j0 k t471 true t464 t467) else ((spec_BookOk.f k t464 t467).bind fun t480 => (laws_FnBookWords.j0 k t471 (!t480) t464 t467))))) else (laws_FnBookWords.j0 k t471 true t464 t467)) = some r := H; have A13 := Aside0.mk A130; clear A130
   by_cases c14 : t477 = true
   ·subst c14
    have H1 : ((impl_BookOk.f k t464 t467).bind fun t478 => ((spec_BookOk.f k t464 t467).bind fun t479 => (if (t478 != t479) = true then (laws_FnBookWords.j0 k t471 true t464 t467) else ((spec_BookOk.f k t464 t467).bind fun t480 => (laws_FnBookWords.j0 k t471 (!t480) t464 t467))))) = some r := b31_
    replace H := H1; clear H1
    replace H := Option.bind_eq_some_iff.mp H; obtain ⟨t478, A150, H⟩ := H; replace H : ((spec_BookOk.f k t464 t467).bind fun t479 => (if (t478 != t479) = true then (laws_FnBookWords.j0 k t471 true t464 t467) else ((spec_BookOk.f k t464 t467).bind fun t480 => (laws_FnBookWords.j0 k t471 (!t480) t464 t467)))) = some r := H; have A15 := Aside0.mk A150; clear A150; replace H := Option.bind_eq_some_iff.mp H; obtain ⟨t479, A160, H⟩ := H; replace H : (if (t478 != t479) = true then (laws_FnBookWords.j0 k t471 true t464 t467) else ((spec_BookOk.f k t464 t467).bind fun t480 => (laws_FnBookWords.j0 k t471 (!t480) t464 t467))) = some r := H; have A16 := Aside0.mk A160; clear A160
    by_cases c17 : (t478 != t479) = true
    ·rw [if_pos c17] at H
     have c17b0 : (t478 != t479) = true := c17
     (try (have c17b1 : decide (t478 = t479) = false := by simpa using c17))
     (try (have c17b2 : (t478 == t479) = false := by simpa using c17))
     (try (have c17b3 : ¬ (t478 = t479) := by simpa using c17))
     clear c17
     (first | rw [c17b0] | (simp only [i64_w, i32_w]; rw [c17b0]) | skip)
     have H' := am H
     clear H
     try go_wp2
     replace HO466 := am (Kd.R_drew HO466.out); replace HO469 := am (Kd.R_drew HO469.out); replace HO473 := am (Kd.R_drew HO473.out); replace BK470 := am (blk_drew BK470.out); replace HB := am (below_drew1 HB.out)
     refine st (n := 17) (S := fun w' => w'.cell? ⟨gb470, 0, none⟩ = some (.slice Ao8 t464.length co8) ∧ w'.cell? ⟨gb470, 1, none⟩ = some (.slice Ao10 t467.length co10)) (ds := []) ⟨(blk_cell BK470.out 0).trans rfl, (blk_cell BK470.out 1).trans rfl⟩ (fun hHeld => ?_); refine with_tabW laws_FnBookWords.tab5 laws_FnBookWords.bits5 (fun HT_ HW_ => ?_)
     generalize w11.drew = w18 at HO466 HO469 HO473 BK470 HB hHeld ⊢
     refine pu 0 17 ?_
     refine tk2 1 18 hHeld ?_
     refine on1 2 19 (fun K hK => ?_)
     refine goes_ Try.func32 (by kernel_rfl) rfl #[.agg #[.slice Ao8 t464.length co8, .slice Ao10 t467.length co10]] (by rfl) rfl rfl mq ?_
     with_reducible refine (spec_BookWords.calls k _ _ t464 _ _ t467 t474 _ ?side1 ?side2 ?side3 ?side4 A12.out).mono ?_
     (case side1 => exact cq (Kd.R_reads' HO466.out).2.2); (case side2 => exact (Kd.R_reads' HO466.out).2.1); (case side3 => exact cq (Kd.R_reads' HO469.out).2.2); (case side4 => exact (Kd.R_reads' HO469.out).2.1)
     rintro e w19 ⟨v475, rfl, ho0, hb⟩
     refine ⟨_, rfl, ?_⟩
     have HO476 := am (Kd.V_lower (Kd.V_mono (ok' := fun k_ => some k_ ≠ (.slice Ao8 t464.length co8 : Value).ownBlock ∧ some k_ ≠ (.slice Ao10 t467.length co10 : Value).ownBlock ∧ some k_ ≠ (v472 : Value).ownBlock ∧ k_ ≠ gb470) ho0 (fun k_ hk_ => ⟨(Kd.fresh' (Kd.R_lt (rq HO466.out)) k_ hk_), (Kd.fresh' (Kd.R_lt (rq HO469.out)) k_ hk_), (Kd.fresh' (Kd.R_lt (rq HO473.out)) k_ hk_), (Kd.freshB (g := gb470) (o := .cells #[.slice Ao8 t464.length co8, .slice Ao10 t467.length co10] 55 (0, 0)) (bq BK470.out) k_ hk_)⟩)) (below_size (bel1 GE470.out))); replace HO466 := am (Kd.R_below (rq HO466.out) hb); replace HO469 := am (Kd.R_below (rq HO469.out) hb); replace HO473 := am (Kd.R_below (rq HO473.out) hb); replace BK470 := am (blk_below (g := gb470) (o := .cells #[.slice Ao8 t464.length co8, .slice Ao10 t467.length co10] 55 (0, 0)) (bq BK470.out) hb); replace HB := am (below_step (bel1 GE470.out) hb)
     (try clear hb)
     (try clear hb2)
     (try clear hk)
     (try clear hi)
     (try clear ho0)
     obtain ⟨Ao20, co20, eo20⟩ := Kd.R_slice HO473.out
     (first | subst eo20 | (injection eo20 with f1_ f2_ f3_; have f4_ := f1_.symm; have f5_ := f3_.symm; clear f1_ f2_ f3_; subst f4_; subst f5_))
     obtain ⟨Ao21, co21, eo21⟩ := Kd.V_slice HO476.out
     (first | subst eo21 | (injection eo21 with f1_ f2_ f3_; have f4_ := f1_.symm; have f5_ := f3_.symm; clear f1_ f2_ f3_; subst f4_; subst f5_))
     refine hK.out _ _ ⟨(blk_cell BK470.out 0).trans rfl, (blk_cell BK470.out 1).trans rfl⟩ (fun hHeld => ?_)
     clear hK K
     refine norm_ (a' := ?_) ?_ ?_
     rotate_left
     ·show Act.put _ (some 19) _ = _
      simp only [Act.put, List.setIfInBounds_toArray, List.set_cons_zero, List.set_cons_succ, i64_w, i32_w]
      rfl
     refine on1 3 20 (fun K hK => ?_)
     refine goes_ Try.func27 (by kernel_rfl) rfl #[.slice Ao20 t471.length co20, .slice Ao21 t474.length co21] (by rfl) rfl rfl mq ?_
     with_reducible refine (laws_mdTexts.calls k _ _ t471 _ _ t474 true _ ?side1 ?side2 ?side3 ?side4 A13.out).mono ?_
     (case side1 => exact cq (Kd.R_reads' HO473.out).2.2); (case side2 => exact (Kd.R_reads' HO473.out).2.1); (case side3 => exact cq (Kd.V_reads' HO476.out).2.2); (case side4 => exact (Kd.V_reads' HO476.out).2.1)
     rintro e w' ⟨rfl, ⟨nd, rfl⟩⟩
     refine ⟨_, rfl, ?_⟩
     refine hK.out _ _ ⟨(blk_cell BK470.out 0).trans rfl, (blk_cell BK470.out 1).trans rfl⟩ (fun hHeld => ?_)
     clear hK K
     refine norm_ (a' := ?_) ?_ ?_
     rotate_left
     ·show Act.put _ (some 20) _ = _
      simp only [Act.put, List.setIfInBounds_toArray, List.set_cons_zero, List.set_cons_succ, i64_w, i32_w]
      rfl
     refine pu 4 21 ?_
     refine pu 5 22 ?_
     refine tk2 6 23 hHeld ?_
     refine tk2 8 25 hHeld ?_
     refine on1 7 24 (fun K hK => ?_)
     refine goes_ Try.func38 (by kernel_rfl) rfl #[.agg #[.slice Ao8 t464.length co8, .slice Ao10 t467.length co10]] (by rfl) rfl rfl mq ?_
     with_reducible refine (impl_BookOk.calls k _ _ t464 _ _ t467 t478 _ ?side1 ?side2 ?side3 ?side4 A15.out).mono ?_
     (case side1 => exact cq (Kd.R_reads' HO466.out).2.2); (case side2 => exact (Kd.R_reads' HO466.out).2.1); (case side3 => exact cq (Kd.R_reads' HO469.out).2.2); (case side4 => exact (Kd.R_reads' HO469.out).2.1)
     rintro e w22 ⟨rfl, hb⟩
     refine ⟨_, rfl, ?_⟩
     replace HO466 := am (Kd.R_below (rq HO466.out) hb); replace HO469 := am (Kd.R_below (rq HO469.out) hb); replace HO473 := am (Kd.R_below (rq HO473.out) hb); replace HO476 := am (Kd.V_below (vq HO476.out) hb); replace BK470 := am (blk_below (g := gb470) (o := .cells #[.slice Ao8 t464.length co8, .slice Ao10 t467.length co10] 55 (0, 0)) (bq BK470.out) hb); replace HB := am (below_step (bel1 GE470.out) hb)
     (try clear hb)
     (try clear hb2)
     (try clear hk)
     (try clear hi)
     refine hK.out _ _ ⟨(blk_cell BK470.out 0).trans rfl, (blk_cell BK470.out 1).trans rfl⟩ (fun hHeld => ?_)
     clear hK K
     refine norm_ (a' := ?_) ?_ ?_
     rotate_left
     ·show Act.put _ (some 24) _ = _
      simp only [Act.put, List.setIfInBounds_toArray, List.set_cons_zero, List.set_cons_succ, i64_w, i32_w]
      rfl
     refine on1 9 26 (fun K hK => ?_)
     refine goes_ Try.func39 (by kernel_rfl) rfl #[.agg #[.slice Ao8 t464.length co8, .slice Ao10 t467.length co10]] (by rfl) rfl rfl mq ?_
     with_reducible refine (spec_BookOk.calls k _ _ t464 _ _ t467 t479 _ ?side1 ?side2 ?side3 ?side4 A16.out).mono ?_
     (case side1 => exact cq (Kd.R_reads' HO466.out).2.2); (case side2 => exact (Kd.R_reads' HO466.out).2.1); (case side3 => exact cq (Kd.R_reads' HO469.out).2.2); (case side4 => exact (Kd.R_reads' HO469.out).2.1)
     rintro e w23 ⟨rfl, hb⟩
     refine ⟨_, rfl, ?_⟩
     replace HO466 := am (Kd.R_below (rq HO466.out) hb); replace HO469 := am (Kd.R_below (rq HO469.out) hb); replace HO473 := am (Kd.R_below (rq HO473.out) hb); replace HO476 := am (Kd.V_below (vq HO476.out) hb); replace BK470 := am (blk_below (g := gb470) (o := .cells #[.slice Ao8 t464.length co8, .slice Ao10 t467.length co10] 55 (0, 0)) (bq BK470.out) hb); replace HB := am (below_step (bel1 GE470.out) hb)
     (try clear hb)
     (try clear hb2)
     (try clear hk)
     (try clear hi)
     refine hK.out _ _ ⟨(blk_cell BK470.out 0).trans rfl, (blk_cell BK470.out 1).trans rfl⟩ (fun hHeld => ?_)
     clear hK K
     refine norm_ (a' := ?_) ?_ ?_
     rotate_left
     ·show Act.put _ (some 26) _ = _
      simp only [Act.put, List.setIfInBounds_toArray, List.set_cons_zero, List.set_cons_succ, i64_w, i32_w]
      rfl
     refine pu 10 27 ?_
     refine pu 11 28 ?_
     refine pu 12 29 ?_
     refine puu 13 30 ?_
     refine puu 14 31 ?_
     refine puu 15 32 ?_
     refine pu 16 33 ?_
     refine done_ (done_of HT_.out (by kernel_rfl)) ?_
     try go_wp2
     go_meet
     case rel => exact ⟨_, (true), sq, H', ⟨b52_⟩, ⟨rq HO473.out⟩, ⟨rq HO466.out⟩, ⟨rq HO469.out⟩, ⟨bq BK470.out⟩, ⟨bel1 GE470.out⟩⟩
    ·rw [if_neg c17] at H
     have c17b0 : (t478 != t479) = false := by simpa using c17
     (try (have c17b1 : decide (t478 = t479) = true := by simpa using c17))
     (try (have c17b2 : (t478 == t479) = true := by simpa using c17))
     clear c17
     (first | rw [c17b0] | (simp only [i64_w, i32_w]; rw [c17b0]) | skip)
     replace H := Option.bind_eq_some_iff.mp H; obtain ⟨t480, A240, H⟩ := H; replace H : (laws_FnBookWords.j0 k t471 (!t480) t464 t467) = some r := H; have A24 := Aside0.mk A240; clear A240
     have H' := am H
     clear H
     try go_wp2
     replace HO466 := am (Kd.R_drew HO466.out); replace HO469 := am (Kd.R_drew HO469.out); replace HO473 := am (Kd.R_drew HO473.out); replace BK470 := am (blk_drew BK470.out); replace HB := am (below_drew1 HB.out)
     refine st (n := 17) (S := fun w' => w'.cell? ⟨gb470, 0, none⟩ = some (.slice Ao8 t464.length co8) ∧ w'.cell? ⟨gb470, 1, none⟩ = some (.slice Ao10 t467.length co10)) (ds := []) ⟨(blk_cell BK470.out 0).trans rfl, (blk_cell BK470.out 1).trans rfl⟩ (fun hHeld => ?_); refine with_tabW laws_FnBookWords.tab5 laws_FnBookWords.bits5 (fun HT_ HW_ => ?_)
     generalize w11.drew = w25 at HO466 HO469 HO473 BK470 HB hHeld ⊢
     refine pu 0 17 ?_
     refine tk2 1 18 hHeld ?_
     refine on1 2 19 (fun K hK => ?_)
     refine goes_ Try.func32 (by kernel_rfl) rfl #[.agg #[.slice Ao8 t464.length co8, .slice Ao10 t467.length co10]] (by rfl) rfl rfl mq ?_
     with_reducible refine (spec_BookWords.calls k _ _ t464 _ _ t467 t474 _ ?side1 ?side2 ?side3 ?side4 A12.out).mono ?_
     (case side1 => exact cq (Kd.R_reads' HO466.out).2.2); (case side2 => exact (Kd.R_reads' HO466.out).2.1); (case side3 => exact cq (Kd.R_reads' HO469.out).2.2); (case side4 => exact (Kd.R_reads' HO469.out).2.1)
     rintro e w26 ⟨v475, rfl, ho0, hb⟩
     refine ⟨_, rfl, ?_⟩
     have HO476 := am (Kd.V_lower (Kd.V_mono (ok' := fun k_ => some k_ ≠ (.slice Ao8 t464.length co8 : Value).ownBlock ∧ some k_ ≠ (.slice Ao10 t467.length co10 : Value).ownBlock ∧ some k_ ≠ (v472 : Value).ownBlock ∧ k_ ≠ gb470) ho0 (fun k_ hk_ => ⟨(Kd.fresh' (Kd.R_lt (rq HO466.out)) k_ hk_), (Kd.fresh' (Kd.R_lt (rq HO469.out)) k_ hk_), (Kd.fresh' (Kd.R_lt (rq HO473.out)) k_ hk_), (Kd.freshB (g := gb470) (o := .cells #[.slice Ao8 t464.length co8, .slice Ao10 t467.length co10] 55 (0, 0)) (bq BK470.out) k_ hk_)⟩)) (below_size (bel1 GE470.out))); replace HO466 := am (Kd.R_below (rq HO466.out) hb); replace HO469 := am (Kd.R_below (rq HO469.out) hb); replace HO473 := am (Kd.R_below (rq HO473.out) hb); replace BK470 := am (blk_below (g := gb470) (o := .cells #[.slice Ao8 t464.length co8, .slice Ao10 t467.length co10] 55 (0, 0)) (bq BK470.out) hb); replace HB := am (below_step (bel1 GE470.out) hb)
     (try clear hb)
     (try clear hb2)
     (try clear hk)
     (try clear hi)
     (try clear ho0)
     obtain ⟨Ao27, co27, eo27⟩ := Kd.R_slice HO473.out
     (first | subst eo27 | (injection eo27 with f1_ f2_ f3_; have f4_ := f1_.symm; have f5_ := f3_.symm; clear f1_ f2_ f3_; subst f4_; subst f5_))
     obtain ⟨Ao28, co28, eo28⟩ := Kd.V_slice HO476.out
     (first | subst eo28 | (injection eo28 with f1_ f2_ f3_; have f4_ := f1_.symm; have f5_ := f3_.symm; clear f1_ f2_ f3_; subst f4_; subst f5_))
     refine hK.out _ _ ⟨(blk_cell BK470.out 0).trans rfl, (blk_cell BK470.out 1).trans rfl⟩ (fun hHeld => ?_)
     clear hK K
     refine norm_ (a' := ?_) ?_ ?_
     rotate_left
     ·show Act.put _ (some 19) _ = _
      simp only [Act.put, List.setIfInBounds_toArray, List.set_cons_zero, List.set_cons_succ, i64_w, i32_w]
      rfl
     refine on1 3 20 (fun K hK => ?_)
     refine goes_ Try.func27 (by kernel_rfl) rfl #[.slice Ao27 t471.length co27, .slice Ao28 t474.length co28] (by rfl) rfl rfl mq ?_
     with_reducible refine (laws_mdTexts.calls k _ _ t471 _ _ t474 true _ ?side1 ?side2 ?side3 ?side4 A13.out).mono ?_
     (case side1 => exact cq (Kd.R_reads' HO473.out).2.2); (case side2 => exact (Kd.R_reads' HO473.out).2.1); (case side3 => exact cq (Kd.V_reads' HO476.out).2.2); (case side4 => exact (Kd.V_reads' HO476.out).2.1)
     rintro e w' ⟨rfl, ⟨nd, rfl⟩⟩
     refine ⟨_, rfl, ?_⟩
     refine hK.out _ _ ⟨(blk_cell BK470.out 0).trans rfl, (blk_cell BK470.out 1).trans rfl⟩ (fun hHeld => ?_)
     clear hK K
     refine norm_ (a' := ?_) ?_ ?_
     rotate_left
     ·show Act.put _ (some 20) _ = _
      simp only [Act.put, List.setIfInBounds_toArray, List.set_cons_zero, List.set_cons_succ, i64_w, i32_w]
      rfl
     refine pu 4 21 ?_
     refine pu 5 22 ?_
     refine tk2 6 23 hHeld ?_
     refine tk2 8 25 hHeld ?_
     refine on1 7 24 (fun K hK => ?_)
     refine goes_ Try.func38 (by kernel_rfl) rfl #[.agg #[.slice Ao8 t464.length co8, .slice Ao10 t467.length co10]] (by rfl) rfl rfl mq ?_
     with_reducible refine (impl_BookOk.calls k _ _ t464 _ _ t467 t478 _ ?side1 ?side2 ?side3 ?side4 A15.out).mono ?_
     (case side1 => exact cq (Kd.R_reads' HO466.out).2.2); (case side2 => exact (Kd.R_reads' HO466.out).2.1); (case side3 => exact cq (Kd.R_reads' HO469.out).2.2); (case side4 => exact (Kd.R_reads' HO469.out).2.1)
     rintro e w29 ⟨rfl, hb⟩
     refine ⟨_, rfl, ?_⟩
     replace HO466 := am (Kd.R_below (rq HO466.out) hb); replace HO469 := am (Kd.R_below (rq HO469.out) hb); replace HO473 := am (Kd.R_below (rq HO473.out) hb); replace HO476 := am (Kd.V_below (vq HO476.out) hb); replace BK470 := am (blk_below (g := gb470) (o := .cells #[.slice Ao8 t464.length co8, .slice Ao10 t467.length co10] 55 (0, 0)) (bq BK470.out) hb); replace HB := am (below_step (bel1 GE470.out) hb)
     (try clear hb)
     (try clear hb2)
     (try clear hk)
     (try clear hi)
     refine hK.out _ _ ⟨(blk_cell BK470.out 0).trans rfl, (blk_cell BK470.out 1).trans rfl⟩ (fun hHeld => ?_)
     clear hK K
     refine norm_ (a' := ?_) ?_ ?_
     rotate_left
     ·show Act.put _ (some 24) _ = _
      simp only [Act.put, List.setIfInBounds_toArray, List.set_cons_zero, List.set_cons_succ, i64_w, i32_w]
      rfl
     refine on1 9 26 (fun K hK => ?_)
     refine goes_ Try.func39 (by kernel_rfl) rfl #[.agg #[.slice Ao8 t464.length co8, .slice Ao10 t467.length co10]] (by rfl) rfl rfl mq ?_
     with_reducible refine (spec_BookOk.calls k _ _ t464 _ _ t467 t479 _ ?side1 ?side2 ?side3 ?side4 A16.out).mono ?_
     (case side1 => exact cq (Kd.R_reads' HO466.out).2.2); (case side2 => exact (Kd.R_reads' HO466.out).2.1); (case side3 => exact cq (Kd.R_reads' HO469.out).2.2); (case side4 => exact (Kd.R_reads' HO469.out).2.1)
     rintro e w30 ⟨rfl, hb⟩
     refine ⟨_, rfl, ?_⟩
     replace HO466 := am (Kd.R_below (rq HO466.out) hb); replace HO469 := am (Kd.R_below (rq HO469.out) hb); replace HO473 := am (Kd.R_below (rq HO473.out) hb); replace HO476 := am (Kd.V_below (vq HO476.out) hb); replace BK470 := am (blk_below (g := gb470) (o := .cells #[.slice Ao8 t464.length co8, .slice Ao10 t467.length co10] 55 (0, 0)) (bq BK470.out) hb); replace HB := am (below_step (bel1 GE470.out) hb)
     (try clear hb)
     (try clear hb2)
     (try clear hk)
     (try clear hi)
     refine hK.out _ _ ⟨(blk_cell BK470.out 0).trans rfl, (blk_cell BK470.out 1).trans rfl⟩ (fun hHeld => ?_)
     clear hK K
     refine norm_ (a' := ?_) ?_ ?_
     rotate_left
     ·show Act.put _ (some 26) _ = _
      simp only [Act.put, List.setIfInBounds_toArray, List.set_cons_zero, List.set_cons_succ, i64_w, i32_w]
      rfl
     refine pu 10 27 ?_
     refine pu 11 28 ?_
     refine pu 12 29 ?_
     refine tk2 13 30 hHeld ?_
     refine on1 14 31 (fun K hK => ?_)
     refine goes_ Try.func39 (by kernel_rfl) rfl #[.agg #[.slice Ao8 t464.length co8, .slice Ao10 t467.length co10]] (by rfl) rfl rfl mq ?_
     with_reducible refine (spec_BookOk.calls k _ _ t464 _ _ t467 t480 _ ?side1 ?side2 ?side3 ?side4 A24.out).mono ?_
     (case side1 => exact cq (Kd.R_reads' HO466.out).2.2); (case side2 => exact (Kd.R_reads' HO466.out).2.1); (case side3 => exact cq (Kd.R_reads' HO469.out).2.2); (case side4 => exact (Kd.R_reads' HO469.out).2.1)
     rintro e w31 ⟨rfl, hb⟩
     refine ⟨_, rfl, ?_⟩
     replace HO466 := am (Kd.R_below (rq HO466.out) hb); replace HO469 := am (Kd.R_below (rq HO469.out) hb); replace HO473 := am (Kd.R_below (rq HO473.out) hb); replace HO476 := am (Kd.V_below (vq HO476.out) hb); replace BK470 := am (blk_below (g := gb470) (o := .cells #[.slice Ao8 t464.length co8, .slice Ao10 t467.length co10] 55 (0, 0)) (bq BK470.out) hb); replace HB := am (below_step (bel1 GE470.out) hb)
     (try clear hb)
     (try clear hb2)
     (try clear hk)
     (try clear hi)
     refine hK.out _ _ ⟨(blk_cell BK470.out 0).trans rfl, (blk_cell BK470.out 1).trans rfl⟩ (fun hHeld => ?_)
     clear hK K
     refine norm_ (a' := ?_) ?_ ?_
     rotate_left
     ·show Act.put _ (some 31) _ = _
      simp only [Act.put, List.setIfInBounds_toArray, List.set_cons_zero, List.set_cons_succ, i64_w, i32_w]
      rfl
     refine pu 15 32 ?_
     refine pu 16 33 ?_
     refine done_ (done_of HT_.out (by kernel_rfl)) ?_
     try go_wp2
     go_meet
     case rel => exact ⟨_, (!t480), sq, H', ⟨b52_⟩, ⟨rq HO473.out⟩, ⟨rq HO466.out⟩, ⟨rq HO469.out⟩, ⟨bq BK470.out⟩, ⟨bel1 GE470.out⟩⟩
   ·replace c14 := Bool.eq_false_iff.mpr c14; subst c14
    have H1 : (laws_FnBookWords.j0 k t471 true t464 t467) = some r := b19_
    replace H := H1; clear H1
    have H' := am H
    clear H
    try go_wp2
    replace HO466 := am (Kd.R_drew HO466.out); replace HO469 := am (Kd.R_drew HO469.out); replace HO473 := am (Kd.R_drew HO473.out); replace BK470 := am (blk_drew BK470.out); replace HB := am (below_drew1 HB.out)
    refine st (n := 17) (S := fun w' => w'.cell? ⟨gb470, 0, none⟩ = some (.slice Ao8 t464.length co8) ∧ w'.cell? ⟨gb470, 1, none⟩ = some (.slice Ao10 t467.length co10)) (ds := []) ⟨(blk_cell BK470.out 0).trans rfl, (blk_cell BK470.out 1).trans rfl⟩ (fun hHeld => ?_); refine with_tabW laws_FnBookWords.tab5 laws_FnBookWords.bits5 (fun HT_ HW_ => ?_)
    generalize w11.drew = w32 at HO466 HO469 HO473 BK470 HB hHeld ⊢
    refine pu 0 17 ?_
    refine tk2 1 18 hHeld ?_
    refine on1 2 19 (fun K hK => ?_)
    refine goes_ Try.func32 (by kernel_rfl) rfl #[.agg #[.slice Ao8 t464.length co8, .slice Ao10 t467.length co10]] (by rfl) rfl rfl mq ?_
    with_reducible refine (spec_BookWords.calls k _ _ t464 _ _ t467 t474 _ ?side1 ?side2 ?side3 ?side4 A12.out).mono ?_
    (case side1 => exact cq (Kd.R_reads' HO466.out).2.2); (case side2 => exact (Kd.R_reads' HO466.out).2.1); (case side3 => exact cq (Kd.R_reads' HO469.out).2.2); (case side4 => exact (Kd.R_reads' HO469.out).2.1)
    rintro e w33 ⟨v475, rfl, ho0, hb⟩
    refine ⟨_, rfl, ?_⟩
    have HO476 := am (Kd.V_lower (Kd.V_mono (ok' := fun k_ => some k_ ≠ (.slice Ao8 t464.length co8 : Value).ownBlock ∧ some k_ ≠ (.slice Ao10 t467.length co10 : Value).ownBlock ∧ some k_ ≠ (v472 : Value).ownBlock ∧ k_ ≠ gb470) ho0 (fun k_ hk_ => ⟨(Kd.fresh' (Kd.R_lt (rq HO466.out)) k_ hk_), (Kd.fresh' (Kd.R_lt (rq HO469.out)) k_ hk_), (Kd.fresh' (Kd.R_lt (rq HO473.out)) k_ hk_), (Kd.freshB (g := gb470) (o := .cells #[.slice Ao8 t464.length co8, .slice Ao10 t467.length co10] 55 (0, 0)) (bq BK470.out) k_ hk_)⟩)) (below_size (bel1 GE470.out))); replace HO466 := am (Kd.R_below (rq HO466.out) hb); replace HO469 := am (Kd.R_below (rq HO469.out) hb); replace HO473 := am (Kd.R_below (rq HO473.out) hb); replace BK470 := am (blk_below (g := gb470) (o := .cells #[.slice Ao8 t464.length co8, .slice Ao10 t467.length co10] 55 (0, 0)) (bq BK470.out) hb); replace HB := am (below_step (bel1 GE470.out) hb)
    (try clear hb)
    (try clear hb2)
    (try clear hk)
    (try clear hi)
    (try clear ho0)
    obtain ⟨Ao34, co34, eo34⟩ := Kd.R_slice HO473.out
    (first | subst eo34 | (injection eo34 with f1_ f2_ f3_; have f4_ := f1_.symm; have f5_ := f3_.symm; clear f1_ f2_ f3_; subst f4_; subst f5_))
    obtain ⟨Ao35, co35, eo35⟩ := Kd.V_slice HO476.out
    (first | subst eo35 | (injection eo35 with f1_ f2_ f3_; have f4_ := f1_.symm; have f5_ := f3_.symm; clear f1_ f2_ f3_; subst f4_; subst f5_))
    refine hK.out _ _ ⟨(blk_cell BK470.out 0).trans rfl, (blk_cell BK470.out 1).trans rfl⟩ (fun hHeld => ?_)
    clear hK K
    refine norm_ (a' := ?_) ?_ ?_
    rotate_left
    ·show Act.put _ (some 19) _ = _
     simp only [Act.put, List.setIfInBounds_toArray, List.set_cons_zero, List.set_cons_succ, i64_w, i32_w]
     rfl
    refine on1 3 20 (fun K hK => ?_)
    refine goes_ Try.func27 (by kernel_rfl) rfl #[.slice Ao34 t471.length co34, .slice Ao35 t474.length co35] (by rfl) rfl rfl mq ?_
    with_reducible refine (laws_mdTexts.calls k _ _ t471 _ _ t474 false _ ?side1 ?side2 ?side3 ?side4 A13.out).mono ?_
    (case side1 => exact cq (Kd.R_reads' HO473.out).2.2); (case side2 => exact (Kd.R_reads' HO473.out).2.1); (case side3 => exact cq (Kd.V_reads' HO476.out).2.2); (case side4 => exact (Kd.V_reads' HO476.out).2.1)
    rintro e w' ⟨rfl, ⟨nd, rfl⟩⟩
    refine ⟨_, rfl, ?_⟩
    refine hK.out _ _ ⟨(blk_cell BK470.out 0).trans rfl, (blk_cell BK470.out 1).trans rfl⟩ (fun hHeld => ?_)
    clear hK K
    refine norm_ (a' := ?_) ?_ ?_
    rotate_left
    ·show Act.put _ (some 20) _ = _
     simp only [Act.put, List.setIfInBounds_toArray, List.set_cons_zero, List.set_cons_succ, i64_w, i32_w]
     rfl
    refine pu 4 21 ?_
    refine pu 5 22 ?_
    refine puu 6 23 ?_
    refine puu 7 24 ?_
    refine puu 8 25 ?_
    refine puu 9 26 ?_
    refine puu 10 27 ?_
    refine pu 11 28 ?_
    refine pu 12 29 ?_
    refine puu 13 30 ?_
    refine puu 14 31 ?_
    refine puu 15 32 ?_
    refine pu 16 33 ?_
    refine done_ (done_of HT_.out (by kernel_rfl)) ?_
    try go_wp2
    go_meet
    case rel => exact ⟨_, (true), sq, H', ⟨b52_⟩, ⟨rq HO473.out⟩, ⟨rq HO466.out⟩, ⟨rq HO469.out⟩, ⟨bq BK470.out⟩, ⟨bel1 GE470.out⟩⟩
  case rest =>
   clear HC5; (try clear c1); (try clear c2); (try clear p2); (try clear c3); (try clear c14); (try clear c17); (try clear c17b0); (try clear c17b1); (try clear c17b2); (try clear c27); (try clear c32); obtain ⟨kq, x33_4, rfl, HA, HJ4, HO_4, HO_471000, HO_471001, BK470, HB⟩ := hcut
   cases kq with
   | zero => exact absurd HA.out (by simp [laws_FnBookWords.j0])
   | succ kj4 =>
    have H := HA.out; clear HA
    simp only [laws_FnBookWords.j0] at H
    by_cases c36 : x33_4 = true
    ·subst c36
     have H1 : ((spec_BookWords.f kj4 t464 t467).bind fun t481 => ((laws_mdTexts.f kj4 t471 t481).bind fun t484 => (if t484 = true then ((impl_BookOk.f kj4 t464 t467).bind fun t485 => ((spec_BookOk.f kj4 t464 t467).bind fun t486 => (some (t485 == t486)))) else (some false)))) = some r := b31_
     replace H := H1; clear H1
     replace H := Option.bind_eq_some_iff.mp H; obtain ⟨t481, A370, H⟩ := H; replace H : ((laws_mdTexts.f kj4 t471 t481).bind fun t484 => (if t484 = true then ((impl_BookOk.f kj4 t464 t467).bind fun t485 => ((spec_BookOk.f kj4 t464 t467).bind fun t486 => (some (t485 == t486)))) else (some false))) = some r := H; have A37 := Aside0.mk A370; clear A370; replace H := Option.bind_eq_some_iff.mp H; obtain ⟨t484, A380, H⟩ := H; replace H : (if t484 = true then ((impl_BookOk.f kj4 t464 t467).bind fun t485 => ((spec_BookOk.f kj4 t464 t467).bind fun t486 => (some (t485 == t486)))) else (some false)) = some r := H; have A38 := Aside0.mk A380; clear A380
     by_cases c39 : t484 = true
     ·subst c39
      have H1 : ((impl_BookOk.f kj4 t464 t467).bind fun t485 => ((spec_BookOk.f kj4 t464 t467).bind fun t486 => (some (t485 == t486)))) = some r := b31_
      replace H := H1; clear H1
      replace H := Option.bind_eq_some_iff.mp H; obtain ⟨t485, A400, H⟩ := H; replace H : ((spec_BookOk.f kj4 t464 t467).bind fun t486 => (some (t485 == t486))) = some r := H; have A40 := Aside0.mk A400; clear A400; replace H := Option.bind_eq_some_iff.mp H; obtain ⟨t486, A410, H⟩ := H; replace H : (some (t485 == t486)) = some r := H; have A41 := Aside0.mk A410; clear A410; obtain rfl := Option.some.inj H
      try go_wp2
      replace HO_4 := am (Kd.R_drew HO_4.out); replace HO_471000 := am (Kd.R_drew HO_471000.out); replace HO_471001 := am (Kd.R_drew HO_471001.out); replace BK470 := am (blk_drew BK470.out); replace HB := am (below_drew1 HB.out)
      refine st (n := 12) (S := fun w' => w'.cell? ⟨gb470, 0, none⟩ = some (.slice Ao8 t464.length co8) ∧ w'.cell? ⟨gb470, 1, none⟩ = some (.slice Ao10 t467.length co10)) (ds := []) ⟨(blk_cell BK470.out 0).trans rfl, (blk_cell BK470.out 1).trans rfl⟩ (fun hHeld => ?_); refine with_tabW laws_FnBookWords.tab6 laws_FnBookWords.bits6 (fun HT_ HW_ => ?_)
      generalize wc.drew = w42 at HO_4 HO_471000 HO_471001 BK470 HB hHeld ⊢
      refine pu 0 34 ?_
      refine tk2 1 35 hHeld ?_
      refine on1 2 36 (fun K hK => ?_)
      refine goes_ Try.func32 (by kernel_rfl) rfl #[.agg #[.slice Ao8 t464.length co8, .slice Ao10 t467.length co10]] (by rfl) rfl rfl mq ?_
      with_reducible refine (spec_BookWords.calls kj4 _ _ t464 _ _ t467 t481 _ ?side1 ?side2 ?side3 ?side4 A37.out).mono ?_
      (case side1 => exact cq (Kd.R_reads' HO_471000.out).2.2); (case side2 => exact (Kd.R_reads' HO_471000.out).2.1); (case side3 => exact cq (Kd.R_reads' HO_471001.out).2.2); (case side4 => exact (Kd.R_reads' HO_471001.out).2.1)
      rintro e w43 ⟨v482, rfl, ho0, hb⟩
      refine ⟨_, rfl, ?_⟩
      have HO483 := am (Kd.V_lower (Kd.V_mono (ok' := fun k_ => some k_ ≠ (v472 : Value).ownBlock ∧ some k_ ≠ (.slice Ao8 t464.length co8 : Value).ownBlock ∧ some k_ ≠ (.slice Ao10 t467.length co10 : Value).ownBlock ∧ k_ ≠ gb470) ho0 (fun k_ hk_ => ⟨(Kd.fresh' (Kd.R_lt (rq HO_4.out)) k_ hk_), (Kd.fresh' (Kd.R_lt (rq HO_471000.out)) k_ hk_), (Kd.fresh' (Kd.R_lt (rq HO_471001.out)) k_ hk_), (Kd.freshB (g := gb470) (o := .cells #[.slice Ao8 t464.length co8, .slice Ao10 t467.length co10] 55 (0, 0)) (bq BK470.out) k_ hk_)⟩)) (below_size (bel1 GE470.out))); replace HO_4 := am (Kd.R_below (rq HO_4.out) hb); replace HO_471000 := am (Kd.R_below (rq HO_471000.out) hb); replace HO_471001 := am (Kd.R_below (rq HO_471001.out) hb); replace BK470 := am (blk_below (g := gb470) (o := .cells #[.slice Ao8 t464.length co8, .slice Ao10 t467.length co10] 55 (0, 0)) (bq BK470.out) hb); replace HB := am (below_step (bel1 GE470.out) hb)
      (try clear hb)
      (try clear hb2)
      (try clear hk)
      (try clear hi)
      (try clear ho0)
      obtain ⟨Ao44, co44, eo44⟩ := Kd.R_slice HO_4.out
      (first | subst eo44 | (injection eo44 with f1_ f2_ f3_; have f4_ := f1_.symm; have f5_ := f3_.symm; clear f1_ f2_ f3_; subst f4_; subst f5_))
      obtain ⟨Ao45, co45, eo45⟩ := Kd.V_slice HO483.out
      (first | subst eo45 | (injection eo45 with f1_ f2_ f3_; have f4_ := f1_.symm; have f5_ := f3_.symm; clear f1_ f2_ f3_; subst f4_; subst f5_))
      refine hK.out _ _ ⟨(blk_cell BK470.out 0).trans rfl, (blk_cell BK470.out 1).trans rfl⟩ (fun hHeld => ?_)
      clear hK K
      refine norm_ (a' := ?_) ?_ ?_
      rotate_left
      ·show Act.put _ (some 36) _ = _
       simp only [Act.put, List.setIfInBounds_toArray, List.set_cons_zero, List.set_cons_succ, i64_w, i32_w]
       rfl
      refine on1 3 37 (fun K hK => ?_)
      refine goes_ Try.func27 (by kernel_rfl) rfl #[.slice Ao44 t471.length co44, .slice Ao45 t481.length co45] (by rfl) rfl rfl mq ?_
      with_reducible refine (laws_mdTexts.calls kj4 _ _ t471 _ _ t481 true _ ?side1 ?side2 ?side3 ?side4 A38.out).mono ?_
      (case side1 => exact cq (Kd.R_reads' HO_4.out).2.2); (case side2 => exact (Kd.R_reads' HO_4.out).2.1); (case side3 => exact cq (Kd.V_reads' HO483.out).2.2); (case side4 => exact (Kd.V_reads' HO483.out).2.1)
      rintro e w' ⟨rfl, ⟨nd, rfl⟩⟩
      refine ⟨_, rfl, ?_⟩
      refine hK.out _ _ ⟨(blk_cell BK470.out 0).trans rfl, (blk_cell BK470.out 1).trans rfl⟩ (fun hHeld => ?_)
      clear hK K
      refine norm_ (a' := ?_) ?_ ?_
      rotate_left
      ·show Act.put _ (some 37) _ = _
       simp only [Act.put, List.setIfInBounds_toArray, List.set_cons_zero, List.set_cons_succ, i64_w, i32_w]
       rfl
      refine pu 4 38 ?_
      refine tk2 5 39 hHeld ?_
      refine tk2 7 41 hHeld ?_
      refine on1 6 40 (fun K hK => ?_)
      refine goes_ Try.func38 (by kernel_rfl) rfl #[.agg #[.slice Ao8 t464.length co8, .slice Ao10 t467.length co10]] (by rfl) rfl rfl mq ?_
      with_reducible refine (impl_BookOk.calls kj4 _ _ t464 _ _ t467 t485 _ ?side1 ?side2 ?side3 ?side4 A40.out).mono ?_
      (case side1 => exact cq (Kd.R_reads' HO_471000.out).2.2); (case side2 => exact (Kd.R_reads' HO_471000.out).2.1); (case side3 => exact cq (Kd.R_reads' HO_471001.out).2.2); (case side4 => exact (Kd.R_reads' HO_471001.out).2.1)
      rintro e w46 ⟨rfl, hb⟩
      refine ⟨_, rfl, ?_⟩
      replace HO_4 := am (Kd.R_below (rq HO_4.out) hb); replace HO_471000 := am (Kd.R_below (rq HO_471000.out) hb); replace HO_471001 := am (Kd.R_below (rq HO_471001.out) hb); replace HO483 := am (Kd.V_below (vq HO483.out) hb); replace BK470 := am (blk_below (g := gb470) (o := .cells #[.slice Ao8 t464.length co8, .slice Ao10 t467.length co10] 55 (0, 0)) (bq BK470.out) hb); replace HB := am (below_step (bel1 GE470.out) hb)
      (try clear hb)
      (try clear hb2)
      (try clear hk)
      (try clear hi)
      refine hK.out _ _ ⟨(blk_cell BK470.out 0).trans rfl, (blk_cell BK470.out 1).trans rfl⟩ (fun hHeld => ?_)
      clear hK K
      refine norm_ (a' := ?_) ?_ ?_
      rotate_left
      ·show Act.put _ (some 40) _ = _
       simp only [Act.put, List.setIfInBounds_toArray, List.set_cons_zero, List.set_cons_succ, i64_w, i32_w]
       rfl
      refine on1 8 42 (fun K hK => ?_)
      refine goes_ Try.func39 (by kernel_rfl) rfl #[.agg #[.slice Ao8 t464.length co8, .slice Ao10 t467.length co10]] (by rfl) rfl rfl mq ?_
      with_reducible refine (spec_BookOk.calls kj4 _ _ t464 _ _ t467 t486 _ ?side1 ?side2 ?side3 ?side4 A41.out).mono ?_
      (case side1 => exact cq (Kd.R_reads' HO_471000.out).2.2); (case side2 => exact (Kd.R_reads' HO_471000.out).2.1); (case side3 => exact cq (Kd.R_reads' HO_471001.out).2.2); (case side4 => exact (Kd.R_reads' HO_471001.out).2.1)
      rintro e w47 ⟨rfl, hb⟩
      refine ⟨_, rfl, ?_⟩
      replace HO_4 := am (Kd.R_below (rq HO_4.out) hb); replace HO_471000 := am (Kd.R_below (rq HO_471000.out) hb); replace HO_471001 := am (Kd.R_below (rq HO_471001.out) hb); replace HO483 := am (Kd.V_below (vq HO483.out) hb); replace BK470 := am (blk_below (g := gb470) (o := .cells #[.slice Ao8 t464.length co8, .slice Ao10 t467.length co10] 55 (0, 0)) (bq BK470.out) hb); replace HB := am (below_step (bel1 GE470.out) hb)
      (try clear hb)
      (try clear hb2)
      (try clear hk)
      (try clear hi)
      refine hK.out _ _ ⟨(blk_cell BK470.out 0).trans rfl, (blk_cell BK470.out 1).trans rfl⟩ (fun hHeld => ?_)
      clear hK K
      refine norm_ (a' := ?_) ?_ ?_
      rotate_left
      ·show Act.put _ (some 42) _ = _
       simp only [Act.put, List.setIfInBounds_toArray, List.set_cons_zero, List.set_cons_succ, i64_w, i32_w]
       rfl
      refine pu 9 43 ?_
      refine pu 10 44 ?_
      refine pu 11 2 ?_
      refine done_ (done_of HT_.out (by kernel_rfl)) ?_
      try go_wp2
      go_ret
      exact ⟨eq_, bel1 GE470.out⟩
     ·replace c39 := Bool.eq_false_iff.mpr c39; subst c39
      have H1 : (some false) = some r := b19_
      replace H := H1; clear H1
      obtain rfl := Option.some.inj H
      try go_wp2
      replace HO_4 := am (Kd.R_drew HO_4.out); replace HO_471000 := am (Kd.R_drew HO_471000.out); replace HO_471001 := am (Kd.R_drew HO_471001.out); replace BK470 := am (blk_drew BK470.out); replace HB := am (below_drew1 HB.out)
      refine st (n := 12) (S := fun w' => w'.cell? ⟨gb470, 0, none⟩ = some (.slice Ao8 t464.length co8) ∧ w'.cell? ⟨gb470, 1, none⟩ = some (.slice Ao10 t467.length co10)) (ds := []) ⟨(blk_cell BK470.out 0).trans rfl, (blk_cell BK470.out 1).trans rfl⟩ (fun hHeld => ?_); refine with_tabW laws_FnBookWords.tab6 laws_FnBookWords.bits6 (fun HT_ HW_ => ?_)
      generalize wc.drew = w48 at HO_4 HO_471000 HO_471001 BK470 HB hHeld ⊢
      refine pu 0 34 ?_
      refine tk2 1 35 hHeld ?_
      refine on1 2 36 (fun K hK => ?_)
      refine goes_ Try.func32 (by kernel_rfl) rfl #[.agg #[.slice Ao8 t464.length co8, .slice Ao10 t467.length co10]] (by rfl) rfl rfl mq ?_
      with_reducible refine (spec_BookWords.calls kj4 _ _ t464 _ _ t467 t481 _ ?side1 ?side2 ?side3 ?side4 A37.out).mono ?_
      (case side1 => exact cq (Kd.R_reads' HO_471000.out).2.2); (case side2 => exact (Kd.R_reads' HO_471000.out).2.1); (case side3 => exact cq (Kd.R_reads' HO_471001.out).2.2); (case side4 => exact (Kd.R_reads' HO_471001.out).2.1)
      rintro e w49 ⟨v482, rfl, ho0, hb⟩
      refine ⟨_, rfl, ?_⟩
      have HO483 := am (Kd.V_lower (Kd.V_mono (ok' := fun k_ => some k_ ≠ (v472 : Value).ownBlock ∧ some k_ ≠ (.slice Ao8 t464.length co8 : Value).ownBlock ∧ some k_ ≠ (.slice Ao10 t467.length co10 : Value).ownBlock ∧ k_ ≠ gb470) ho0 (fun k_ hk_ => ⟨(Kd.fresh' (Kd.R_lt (rq HO_4.out)) k_ hk_), (Kd.fresh' (Kd.R_lt (rq HO_471000.out)) k_ hk_), (Kd.fresh' (Kd.R_lt (rq HO_471001.out)) k_ hk_), (Kd.freshB (g := gb470) (o := .cells #[.slice Ao8 t464.length co8, .slice Ao10 t467.length co10] 55 (0, 0)) (bq BK470.out) k_ hk_)⟩)) (below_size (bel1 GE470.out))); replace HO_4 := am (Kd.R_below (rq HO_4.out) hb); replace HO_471000 := am (Kd.R_below (rq HO_471000.out) hb); replace HO_471001 := am (Kd.R_below (rq HO_471001.out) hb); replace BK470 := am (blk_below (g := gb470) (o := .cells #[.slice Ao8 t464.length co8, .slice Ao10 t467.length co10] 55 (0, 0)) (bq BK470.out) hb); replace HB := am (below_step (bel1 GE470.out) hb)
      (try clear hb)
      (try clear hb2)
      (try clear hk)
      (try clear hi)
      (try clear ho0)
      obtain ⟨Ao50, co50, eo50⟩ := Kd.R_slice HO_4.out
      (first | subst eo50 | (injection eo50 with f1_ f2_ f3_; have f4_ := f1_.symm; have f5_ := f3_.symm; clear f1_ f2_ f3_; subst f4_; subst f5_))
      obtain ⟨Ao51, co51, eo51⟩ := Kd.V_slice HO483.out
      (first | subst eo51 | (injection eo51 with f1_ f2_ f3_; have f4_ := f1_.symm; have f5_ := f3_.symm; clear f1_ f2_ f3_; subst f4_; subst f5_))
      refine hK.out _ _ ⟨(blk_cell BK470.out 0).trans rfl, (blk_cell BK470.out 1).trans rfl⟩ (fun hHeld => ?_)
      clear hK K
      refine norm_ (a' := ?_) ?_ ?_
      rotate_left
      ·show Act.put _ (some 36) _ = _
       simp only [Act.put, List.setIfInBounds_toArray, List.set_cons_zero, List.set_cons_succ, i64_w, i32_w]
       rfl
      refine on1 3 37 (fun K hK => ?_)
      refine goes_ Try.func27 (by kernel_rfl) rfl #[.slice Ao50 t471.length co50, .slice Ao51 t481.length co51] (by rfl) rfl rfl mq ?_
      with_reducible refine (laws_mdTexts.calls kj4 _ _ t471 _ _ t481 false _ ?side1 ?side2 ?side3 ?side4 A38.out).mono ?_
      (case side1 => exact cq (Kd.R_reads' HO_4.out).2.2); (case side2 => exact (Kd.R_reads' HO_4.out).2.1); (case side3 => exact cq (Kd.V_reads' HO483.out).2.2); (case side4 => exact (Kd.V_reads' HO483.out).2.1)
      rintro e w' ⟨rfl, ⟨nd, rfl⟩⟩
      refine ⟨_, rfl, ?_⟩
      refine hK.out _ _ ⟨(blk_cell BK470.out 0).trans rfl, (blk_cell BK470.out 1).trans rfl⟩ (fun hHeld => ?_)
      clear hK K
      refine norm_ (a' := ?_) ?_ ?_
      rotate_left
      ·show Act.put _ (some 37) _ = _
       simp only [Act.put, List.setIfInBounds_toArray, List.set_cons_zero, List.set_cons_succ, i64_w, i32_w]
       rfl
      refine pu 4 38 ?_
      refine puu 5 39 ?_
      refine puu 6 40 ?_
      refine puu 7 41 ?_
      refine puu 8 42 ?_
      refine puu 9 43 ?_
      refine pu 10 44 ?_
      refine pu 11 2 ?_
      refine done_ (done_of HT_.out (by kernel_rfl)) ?_
      try go_wp2
      go_ret
      exact ⟨eq_, bel1 GE470.out⟩
    ·replace c36 := Bool.eq_false_iff.mpr c36; subst c36
     have H1 : (laws_FnBookWords.l0 kj4 t471 0 0 t464 t467) = some r := b19_
     replace H := H1; clear H1
     have H' := am H
     clear H; go_wp2
     go_loopg [5, 6] kj4 (fun kq v5 v6 w' => ∃ (x5_2 : Int) (x6_2 : Int), v5 = .int .i64 x5_2 ∧ v6 = .int .i64 x6_2 ∧ Aside0 (laws_FnBookWords.l0 kq t471 x5_2 x6_2 t464 t467 = some r) ∧ Aside0 (kq ≤ kj4) ∧ Aside0 (Kd.R Kd.string 9 w' w.heap.size (fun _ => True) v472 t471) ∧ Aside0 (Kd.R k44 44 w' w.heap.size (fun _ => True) (.slice Ao8 t464.length co8) t464) ∧ Aside0 (Kd.R k31 31 w' w.heap.size (fun _ => True) (.slice Ao10 t467.length co10) t467) ∧ Aside0 (w'.heap[gb470]? = some (.cells #[(.slice Ao8 t464.length co8), (.slice Ao10 t467.length co10)] 55 (0, 0))) ∧ Aside0 (Below w.heap.size w w'))
     case atStart => exact ⟨(0), (0), sq, sq, H', ⟨Nat.le_refl _⟩, ⟨rq HO_4.out⟩, ⟨rq HO_471000.out⟩, ⟨rq HO_471001.out⟩, ⟨bq BK470.out⟩, ⟨bel1 GE470.out⟩⟩
     case round =>
      clear H'; (try clear c1); (try clear c2); (try clear p2); (try clear c3); (try clear c14); (try clear c17); (try clear c17b0); (try clear c17b1); (try clear c17b2); (try clear c27); (try clear c32); (try clear c36); (try clear c38); (try clear c39); (try clear p2); obtain ⟨x5_2, x6_2, rfl, rfl, HA, HK2, HO_4, HO_471000, HO_471001, BK470, HB⟩ := hrel
      cases gk with
      | zero => exact absurd HA.out (by simp [laws_FnBookWords.l0])
      | succ k2 =>
       have H := HA.out; clear HA
       simp only [laws_FnBookWords.l0] at H
       by_cases c52 : x6_2 < (t467.length : Int)
       ·rw [if_pos c52] at H; have c52b0 := decide_eq_true c52; clear c52
        by_cases c53 : 0 ≤ x6_2
        ·rw [if_pos c53] at H; have c53b0 := decide_eq_true c53; clear c53; replace H := Option.bind_eq_some_iff.mp H; obtain ⟨t488, A540, H⟩ := H; replace H : (laws_FnBookWords.l1 k2 t471 (wrap64 (x5_2 + (t488.length : Int))) x6_2 t488 0 t464 t467) = some r := H; have A54 := Aside0.mk A540; clear A540
         have H' := am H
         clear H; have hcz55_0 := bc BK470.out 0; have hcz55_1 := bc BK470.out 1; have hfz55_0 := bf BK470.out 0; have hfz55_1 := bf BK470.out 1
         try go_wp2
         replace HO_4 := am (Kd.R_drew HO_4.out); replace HO_471000 := am (Kd.R_drew HO_471000.out); replace HO_471001 := am (Kd.R_drew HO_471001.out); replace BK470 := am (blk_drew BK470.out); replace HB := am (below_drew1 HB.out)
         have p487 : 0 ≤ (x6_2 : Int) := of_decide_eq_true ad
         have q487 : x6_2 < (t467.length : Int) := of_decide_eq_true ad
         obtain ⟨ad487, e487, hx487_0, hx487_1⟩ := at_T31 (Kd.R_reads' HO_471001.out).2.2 x6_2 p487 q487
         cases e487
         replace p487 := eq_true p487; replace q487 := eq_true q487
         refine st (n := 9) (S := fun w' => w'.cell? ⟨gb470, 0, none⟩ = some (.slice Ao8 t464.length co8) ∧ w'.cell? ⟨gb470, 1, none⟩ = some (.slice (some ad487) t467.length co10) ∧ w'.cell? (ad487.add ((x6_2).toNat * 2)) = some (.string ((rd_T31 t467 x6_2).f0)) ∧ w'.cell? ⟨(ad487.add ((x6_2).toNat * 2)).block, (ad487.add ((x6_2).toNat * 2)).off + 1, none⟩ = some (.string ((rd_T31 t467 x6_2).f1))) (ds := []) ⟨(blk_cell BK470.out 0).trans rfl, (blk_cell BK470.out 1).trans rfl, hx487_0, hx487_1⟩ (fun hHeld => ?_); refine with_tabW laws_FnBookWords.tab11 laws_FnBookWords.bits11 (fun HT_ HW_ => ?_)
         generalize wr.drew = w56 at HO_4 HO_471000 HO_471001 BK470 HB hx487_0 hx487_1 hHeld ⊢
         refine pu 0 52 ?_
         refine pu 2 54 ?_
         refine pu 4 56 ?_
         refine tk4 1 53 hHeld ?_
         refine tk4 3 55 hHeld ?_
         refine pu 5 57 ?_
         refine tk4 6 58 hHeld ?_
         refine on1 7 59 (fun K hK => ?_)
         refine goes_ Try.func20 (by kernel_rfl) rfl #[.slice Ao8 t464.length co8, .agg #[.string ((rd_T31 t467 x6_2).f0), .string ((rd_T31 t467 x6_2).f1)]] (by rfl) rfl rfl mq ?_
         with_reducible refine (impl_Forms.calls k2 _ _ t464 ((rd_T31 t467 x6_2).f0) ((rd_T31 t467 x6_2).f1) t488 _ ?side1 ?side2 A54.out).mono ?_
         (case side1 => exact cq (Kd.R_reads' HO_471000.out).2.2); (case side2 => exact (Kd.R_reads' HO_471000.out).2.1)
         rintro e w57 ⟨v489, rfl, ho0, hb⟩
         have HS2_ := (hb.cell (World.block_lt_of_cell? _ _ (hHeld.2.2.1))).trans (hHeld.2.2.1); have HS3_ := (hb.cell (World.block_lt_of_cell? _ _ (hHeld.2.2.2))).trans (hHeld.2.2.2)
         refine ⟨_, rfl, ?_⟩
         replace HO_471000 := am (Kd.R_below (rq HO_471000.out) hb); replace HO_471001 := am (Kd.R_below (rq HO_471001.out) hb); have HO490 := am (Kd.R_lower (Kd.R_new' ho0 (Kd.R_lt (rq HO_4.out))) (below_size (bel1 GE470.out))); replace HO_4 := am (Kd.R_elder' (rq HO_4.out) (Kd.R_base ho0) hb); replace BK470 := am (blk_below (g := gb470) (o := .cells #[.slice Ao8 t464.length co8, .slice (some ad487) t467.length co10] 55 (0, 0)) (bq BK470.out) hb); replace HB := am (below_step (bel1 GE470.out) hb)
         (try clear hb)
         (try clear hb2)
         (try clear hk)
         (try clear hi)
         (try clear ho0)
         refine hK.out _ _ ⟨(blk_cell BK470.out 0).trans rfl, (blk_cell BK470.out 1).trans rfl, HS2_, HS3_⟩ (fun hHeld => ?_)
         clear hK K
         refine norm_ (a' := ?_) ?_ ?_
         rotate_left
         ·show Act.put _ (some 59) _ = _
          simp only [Act.put, List.setIfInBounds_toArray, List.set_cons_zero, List.set_cons_succ, i64_w, i32_w]
          rfl
         refine pu 8 7 ?_
         refine done_ (done_of HT_.out (by kernel_rfl)) ?_
         obtain ⟨Ao58, co58, eo58⟩ := Kd.R_slice HO490.out; subst eo58
         try go_wp2
         go_loopg [8] k2 (fun kq v8 w' => ∃ (x8_3 : Int), v8 = .int .i64 x8_3 ∧ Aside0 (laws_FnBookWords.l1 kq t471 (wrap64 (x5_2 + (t488.length : Int))) x6_2 t488 x8_3 t464 t467 = some r) ∧ Aside0 (kq ≤ k2) ∧ Aside0 (Kd.R Kd.string 9 w' w.heap.size (fun k_ => some k_ ≠ ((.slice Ao58 t488.length co58) : Value).ownBlock) v472 t471) ∧ Aside0 (Kd.R Kd.string 9 w' w.heap.size (fun k_ => some k_ ≠ (v472 : Value).ownBlock) (.slice Ao58 t488.length co58) t488) ∧ Aside0 (Kd.R k44 44 w' w.heap.size (fun _ => True) (.slice Ao8 t464.length co8) t464) ∧ Aside0 (Kd.R k31 31 w' w.heap.size (fun _ => True) (.slice (some ad487) t467.length co10) t467) ∧ Aside0 (w'.heap[gb470]? = some (.cells #[(.slice Ao8 t464.length co8), (.slice (some ad487) t467.length co10)] 55 (0, 0))) ∧ Aside0 (Below w.heap.size w w'))
         case atStart => exact ⟨(0), sq, H', ⟨Nat.le_refl _⟩, ⟨rq (Kd.R_mono HO_4.out (fun _ hk => hk.2))⟩, ⟨rq (Kd.R_mono HO490.out (fun _ hk => hk.2))⟩, ⟨rq HO_471000.out⟩, ⟨rq HO_471001.out⟩, ⟨bq BK470.out⟩, ⟨bel1 GE470.out⟩⟩
         case round =>
          clear H'; (try clear c1); (try clear c2); (try clear p2); (try clear c3); (try clear p4); (try clear q4); (try clear hx4); (try clear c5); (try clear p6); (try clear c14); (try clear c17); (try clear c17b0); (try clear c17b1); (try clear c17b2); (try clear c20); (try clear c27); (try clear c32); (try clear c36); (try clear c38); (try clear c39); (try clear p48); (try clear q48); (try clear hx48); (try clear c52); (try clear c52b0); (try clear c53); (try clear c53b0); (try clear hcz55_0); (try clear hcz55_1); (try clear hfz55_0); (try clear hfz55_1); (try clear hx487_0); (try clear hx487_1); (try clear p2); (try clear p487); (try clear q487); obtain ⟨x8_3, rfl, HA, HK3, HO_4, HO_7, HO_471000, HO_471001, BK470, HB⟩ := hrel
          cases gk with
          | zero => exact absurd HA.out (by simp [laws_FnBookWords.l1])
          | succ k3 =>
           have H := HA.out; clear HA
           simp only [laws_FnBookWords.l1] at H
           by_cases c59 : x8_3 < (t488.length : Int)
           ·rw [if_pos c59] at H; have c59b0 := decide_eq_true c59; clear c59
            by_cases c60 : 0 ≤ x8_3
            ·rw [if_pos c60] at H; have c60b0 := decide_eq_true c60; clear c60; replace H := Option.bind_eq_some_iff.mp H; obtain ⟨t492, A610, H⟩ := H; replace H : (if t492 = true then (laws_FnBookWords.l1 k3 t471 (wrap64 (x5_2 + (t488.length : Int))) x6_2 t488 (wrap64 (x8_3 + 1)) t464 t467) else (some false)) = some r := H; have A61 := Aside0.mk A610; clear A610
             by_cases c62 : t492 = true
             ·subst c62
              have H1 : (laws_FnBookWords.l1 k3 t471 (wrap64 (x5_2 + (t488.length : Int))) x6_2 t488 (wrap64 (x8_3 + 1)) t464 t467) = some r := b31_
              replace H := H1; clear H1
              have H' := am H
              clear H
              have p491 : 0 ≤ (x8_3 : Int) := of_decide_eq_true ad
              have q491 : x8_3 < (t488.length : Int) := of_decide_eq_true ad
              obtain ⟨ad491, e491, hx491_0⟩ := Kd.at_string (Kd.R_reads' HO_7.out).2.2 x8_3 p491 q491
              cases e491
              replace p491 := eq_true p491; replace q491 := eq_true q491; obtain ⟨Ao63, co63, eo63⟩ := Kd.R_slice HO_4.out; subst eo63
              go_wp2_with (first | ((with_reducible refine gate_callee (f := 29) rfl ?_); refine goesL_ (some 75) rfl rfl Try.func29 (by kernel_rfl) rfl #[.slice Ao63 t471.length co63, .string (rdOf ByteArray.empty t488 x8_3)] rfl mq ?_; (with_reducible refine (laws_mdHas.calls k3 _ _ t471 (rdOf ByteArray.empty t488 x8_3) true _ ?side1 ?side2 A61.out).mono ?_); (case side1 => exact cq (Kd.R_reads' HO_4.out).2.2); (case side2 => exact (Kd.R_reads' HO_4.out).2.1); rintro e w' ⟨rfl, ⟨nd, rfl⟩⟩; refine ⟨_, rfl, ?_⟩))
              go_roundg k3
              case measure => have := HJ4.out; have := HK2.out; have := HK3.out; omega
              case rel => exact ⟨(wrap64 (x8_3 + 1)), sq, H', ⟨by have := HJ4.out; have := HK2.out; have := HK3.out; omega⟩, ⟨rq HO_4.out⟩, ⟨rq HO_7.out⟩, ⟨rq HO_471000.out⟩, ⟨rq HO_471001.out⟩, ⟨bq BK470.out⟩, ⟨bel1 GE470.out⟩⟩
             ·replace c62 := Bool.eq_false_iff.mpr c62; subst c62
              have H1 : (some false) = some r := b19_
              replace H := H1; clear H1
              obtain rfl := Option.some.inj H
              have p491 : 0 ≤ (x8_3 : Int) := of_decide_eq_true ad
              have q491 : x8_3 < (t488.length : Int) := of_decide_eq_true ad
              obtain ⟨ad491, e491, hx491_0⟩ := Kd.at_string (Kd.R_reads' HO_7.out).2.2 x8_3 p491 q491
              cases e491
              replace p491 := eq_true p491; replace q491 := eq_true q491; obtain ⟨Ao64, co64, eo64⟩ := Kd.R_slice HO_4.out; subst eo64
              go_wp2_with (first | ((with_reducible refine gate_callee (f := 29) rfl ?_); refine goesL_ (some 75) rfl rfl Try.func29 (by kernel_rfl) rfl #[.slice Ao64 t471.length co64, .string (rdOf ByteArray.empty t488 x8_3)] rfl mq ?_; (with_reducible refine (laws_mdHas.calls k3 _ _ t471 (rdOf ByteArray.empty t488 x8_3) false _ ?side1 ?side2 A61.out).mono ?_); (case side1 => exact cq (Kd.R_reads' HO_4.out).2.2); (case side2 => exact (Kd.R_reads' HO_4.out).2.1); rintro e w' ⟨rfl, ⟨nd, rfl⟩⟩; refine ⟨_, rfl, ?_⟩))
              go_ret
              exact ⟨eq_, bel1 GE470.out⟩
            ·rw [if_neg c60] at H
             exact absurd H (by simp)
           ·rw [if_neg c59] at H; have c59b0 := decide_eq_false c59; clear c59
            have H' := am H
            clear H; go_wp2
            go_roundg k3
            case measure => have := HJ4.out; have := HK2.out; have := HK3.out; omega
            case rel => exact ⟨((wrap64 (x5_2 + (t488.length : Int)))), (wrap64 (x6_2 + 1)), sq, sq, H', ⟨by have := HJ4.out; have := HK2.out; have := HK3.out; omega⟩, ⟨rq (Kd.R_mono HO_4.out (fun _ hk => trivial))⟩, ⟨rq HO_471000.out⟩, ⟨rq HO_471001.out⟩, ⟨bq BK470.out⟩, ⟨bel1 GE470.out⟩⟩
        ·rw [if_neg c53] at H
         exact absurd H (by simp)
       ·rw [if_neg c52] at H; have c52b0 := decide_eq_false c52; clear c52
        have H' := am H
        clear H; have hcz65_0 := bc BK470.out 0; have hcz65_1 := bc BK470.out 1; have hfz65_0 := bf BK470.out 0; have hfz65_1 := bf BK470.out 1; go_wp2
        go_loopg [9] k2 (fun kq v9 w' => ∃ (x9_3 : Int), v9 = .int .i64 x9_3 ∧ Aside0 (laws_FnBookWords.l2 kq t471 x5_2 x9_3 = some r) ∧ Aside0 (kq ≤ k2) ∧ Aside0 (Kd.R Kd.string 9 w' w.heap.size (fun _ => True) v472 t471) ∧ Aside0 (Kd.R k44 44 w' w.heap.size (fun _ => True) (.slice Ao8 t464.length co8) t464) ∧ Aside0 (Kd.R k31 31 w' w.heap.size (fun _ => True) (.slice Ao10 t467.length co10) t467) ∧ Aside0 (w'.heap[gb470]? = some (.cells #[(.slice Ao8 t464.length co8), (.slice Ao10 t467.length co10)] 55 (0, 0))) ∧ Aside0 (Below w.heap.size w w'))
        case atStart => exact ⟨(1), sq, H', ⟨Nat.le_refl _⟩, ⟨rq HO_4.out⟩, ⟨rq HO_471000.out⟩, ⟨rq HO_471001.out⟩, ⟨bq BK470.out⟩, ⟨bel1 GE470.out⟩⟩
        case round =>
         clear H'; (try clear c1); (try clear c2); (try clear p2); (try clear c3); (try clear p4); (try clear q4); (try clear hx4); (try clear c5); (try clear c6); (try clear p6); (try clear c14); (try clear c17); (try clear c17b0); (try clear c17b1); (try clear c17b2); (try clear c20); (try clear c27); (try clear c29); (try clear c32); (try clear c36); (try clear c38); (try clear c39); (try clear p48); (try clear q48); (try clear hx48); (try clear p49); (try clear q49); (try clear hx49); (try clear c52); (try clear c52b0); (try clear c53); (try clear c53b0); (try clear c59); (try clear c59b0); (try clear c60); (try clear c60b0); (try clear c62); (try clear p64); (try clear hcz55_0); (try clear hcz55_1); (try clear hcz65_0); (try clear hcz65_1); (try clear hfz55_0); (try clear hfz55_1); (try clear hfz65_0); (try clear hfz65_1); (try clear hx487_0); (try clear hx487_1); (try clear hx491_0); (try clear p2); (try clear p4); (try clear p48); (try clear p487); (try clear p491); (try clear p6); (try clear q4); (try clear q48); (try clear q487); (try clear q491); obtain ⟨x9_3, rfl, HA, HK3, HO_4, HO_471000, HO_471001, BK470, HB⟩ := hrel
         cases gk with
         | zero => exact absurd HA.out (by simp [laws_FnBookWords.l2])
         | succ k3 =>
          have H := HA.out; clear HA
          simp only [laws_FnBookWords.l2] at H
          by_cases c66 : x9_3 < (t471.length : Int)
          ·rw [if_pos c66] at H; have c66b0 := decide_eq_true c66; clear c66; obtain ⟨ji67, hji67⟩ : ∃ j_ : Int, (wrap64 (x9_3 - 1)) = j_ := ⟨_, rfl⟩
           replace H : (if 0 ≤ (ji67) then (if (ji67) < (t471.length : Int) then (if 0 ≤ x9_3 then (if ((Op.bytesLess ((rdOf ByteArray.empty t471 (ji67)).toList) ((rdOf ByteArray.empty t471 x9_3).toList)) = true) then (laws_FnBookWords.l2 k3 t471 x5_2 (wrap64 (x9_3 + 1))) else (some false)) else (none)) else (none)) else (none)) = some r := by first | (rw [hji67] at H; exact H) | (simp only [hji67] at H ⊢; exact H)
           have hji67w : (IntKind.i64.wrap (x9_3 - 1)) = ji67 := (i64_w _).trans hji67
           by_cases c68 : 0 ≤ (ji67)
           ·rw [if_pos c68] at H; have c68b0 := decide_eq_true c68; clear c68
            by_cases c69 : (ji67) < (t471.length : Int)
            ·rw [if_pos c69] at H; have c69b0 := decide_eq_true c69; clear c69
             by_cases c70 : 0 ≤ x9_3
             ·rw [if_pos c70] at H; have c70b0 := decide_eq_true c70; clear c70
              by_cases c71 : ((Op.bytesLess ((rdOf ByteArray.empty t471 (ji67)).toList) ((rdOf ByteArray.empty t471 x9_3).toList)) = true)
              ·rw [if_pos c71] at H
               have c71b0 : (Op.bytesLess ((rdOf ByteArray.empty t471 (ji67)).toList) ((rdOf ByteArray.empty t471 x9_3).toList)) = true := c71
               clear c71
               have H' := am H
               clear H; obtain ⟨Ao72, co72, eo72⟩ := Kd.R_slice HO_4.out; subst eo72
               try go_wp2
               replace HO_4 := am (Kd.R_drew HO_4.out); replace HO_471000 := am (Kd.R_drew HO_471000.out); replace HO_471001 := am (Kd.R_drew HO_471001.out); replace BK470 := am (blk_drew BK470.out); replace HB := am (below_drew1 HB.out)
               have p493 : 0 ≤ ((ji67) : Int) := of_decide_eq_true ad
               have q493 : (ji67) < (t471.length : Int) := of_decide_eq_true ad
               obtain ⟨ad493, e493, hx493_0⟩ := Kd.at_string (Kd.R_reads' HO_4.out).2.2 (ji67) p493 q493
               cases e493
               replace p493 := eq_true p493; replace q493 := eq_true q493
               have p494 : 0 ≤ (x9_3 : Int) := of_decide_eq_true ad
               have q494 : x9_3 < (t471.length : Int) := of_decide_eq_true ad
               obtain ⟨ad494, e494, hx494_0⟩ := Kd.at_string (Kd.R_reads' HO_4.out).2.2 x9_3 p494 q494
               obtain rfl : ad493 = ad494 := (by injection e494)
               replace p494 := eq_true p494; replace q494 := eq_true q494
               refine st (n := 10) (S := fun w' => w'.cell? (ad493.add ((ji67)).toNat) = some (.string (rdOf ByteArray.empty t471 (ji67))) ∧ w'.cell? (ad493.add (x9_3).toNat) = some (.string (rdOf ByteArray.empty t471 x9_3))) (ds := []) ⟨hx493_0, hx494_0⟩ (fun hHeld => ?_); refine with_tabW laws_FnBookWords.tab21 laws_FnBookWords.bits21 (fun HT_ HW_ => ?_)
               generalize wr.drew = w73 at HO_4 HO_471000 HO_471001 BK470 HB hx493_0 hx494_0 hHeld ⊢
               refine pu 0 83 ?_
               refine pu 1 84 ?_
               refine pu 2 85 ?_
               refine pu 3 86 ?_
               refine pu 5 88 ?_
               refine pu 6 89 ?_
               refine pu 7 90 ?_
               refine tk2 4 87 hHeld ?_
               refine tk2 8 91 hHeld ?_
               refine pu 9 92 ?_
               refine done_ (done_of HT_.out (by kernel_rfl)) ?_
               try go_wp2
               go_roundg k3
               case measure => have := HJ4.out; have := HK2.out; have := HK3.out; omega
               case rel => exact ⟨(wrap64 (x9_3 + 1)), sq, H', ⟨by have := HJ4.out; have := HK2.out; have := HK3.out; omega⟩, ⟨rq HO_4.out⟩, ⟨rq HO_471000.out⟩, ⟨rq HO_471001.out⟩, ⟨bq BK470.out⟩, ⟨bel1 GE470.out⟩⟩
              ·rw [if_neg c71] at H
               have c71b0 : (Op.bytesLess ((rdOf ByteArray.empty t471 (ji67)).toList) ((rdOf ByteArray.empty t471 x9_3).toList)) = false := by simpa using c71
               clear c71; obtain rfl := Option.some.inj H; obtain ⟨Ao74, co74, eo74⟩ := Kd.R_slice HO_4.out; subst eo74
               try go_wp2
               replace HO_4 := am (Kd.R_drew HO_4.out); replace HO_471000 := am (Kd.R_drew HO_471000.out); replace HO_471001 := am (Kd.R_drew HO_471001.out); replace BK470 := am (blk_drew BK470.out); replace HB := am (below_drew1 HB.out)
               have p493 : 0 ≤ ((ji67) : Int) := of_decide_eq_true ad
               have q493 : (ji67) < (t471.length : Int) := of_decide_eq_true ad
               obtain ⟨ad493, e493, hx493_0⟩ := Kd.at_string (Kd.R_reads' HO_4.out).2.2 (ji67) p493 q493
               cases e493
               replace p493 := eq_true p493; replace q493 := eq_true q493
               have p494 : 0 ≤ (x9_3 : Int) := of_decide_eq_true ad
               have q494 : x9_3 < (t471.length : Int) := of_decide_eq_true ad
               obtain ⟨ad494, e494, hx494_0⟩ := Kd.at_string (Kd.R_reads' HO_4.out).2.2 x9_3 p494 q494
               obtain rfl : ad493 = ad494 := (by injection e494)
               replace p494 := eq_true p494; replace q494 := eq_true q494
               refine st (n := 10) (S := fun w' => w'.cell? (ad493.add ((ji67)).toNat) = some (.string (rdOf ByteArray.empty t471 (ji67))) ∧ w'.cell? (ad493.add (x9_3).toNat) = some (.string (rdOf ByteArray.empty t471 x9_3))) (ds := []) ⟨hx493_0, hx494_0⟩ (fun hHeld => ?_); refine with_tabW laws_FnBookWords.tab21 laws_FnBookWords.bits21 (fun HT_ HW_ => ?_)
               generalize wr.drew = w75 at HO_4 HO_471000 HO_471001 BK470 HB hx493_0 hx494_0 hHeld ⊢
               refine pu 0 83 ?_
               refine pu 1 84 ?_
               refine pu 2 85 ?_
               refine pu 3 86 ?_
               refine pu 5 88 ?_
               refine pu 6 89 ?_
               refine pu 7 90 ?_
               refine tk2 4 87 hHeld ?_
               refine tk2 8 91 hHeld ?_
               refine pu 9 92 ?_
               refine done_ (done_of HT_.out (by kernel_rfl)) ?_
               try go_wp2
               go_ret
               exact ⟨by first | rfl | (simp [errW_none, errW_some] <;> rfl) | (simp only [← hji67]; first | rfl | (simp [errW_none, errW_some] <;> rfl)) | (simp [*, errW_none, errW_some] <;> rfl), bel1 GE470.out⟩
             ·rw [if_neg c70] at H
              exact absurd H (by simp)
            ·rw [if_neg c69] at H
             exact absurd H (by simp)
           ·rw [if_neg c68] at H
            exact absurd H (by simp)
          ·rw [if_neg c66] at H; have c66b0 := decide_eq_false c66; clear c66; obtain rfl := Option.some.inj H; obtain ⟨Ao76, co76, eo76⟩ := Kd.R_slice HO_4.out; subst eo76; go_wp2; go_ret
           exact ⟨eq_, bel1 GE470.out⟩

/-- THE ONE PURE STATEMENT of laws_FnBookWords: yours. -/
def laws_FnBookWords.Pure : Prop := ∀ (l0 : List Int), l0.length ≤ maxLen → l0.length * 1 ≤ 140737488351232 → (∀ x ∈ l0, (Lit.int .u8 x).wf = true) → ∃ k, laws_FnBookWords.f k l0 = some true
theorem laws_FnBookWords.walk (P : laws_FnBookWords.Pure) (a0 : Option Addr) (len0 cap0 : Nat) (z0 : List Int) (w : World) (w0 : (a0 = none ∧ len0 = 0 ∧ cap0 = 0 ∧ z0 = []) ∨ ∃ x, a0 = some x ∧ len0 ≤ cap0 ∧ cap0 ≤ maxLen ∧ z0.length = cap0 ∧ (∀ i, i < z0.length → w.cell? (x.add i) = some (.int .u8 (z0.getD i 0))) ∧ ∀ n ∈ z0, (Lit.int .u8 n).wf = true) (y0 : len0 * 1 ≤ 140737488351232) :
  Calls Try.prog 6 #[.slice a0 len0 cap0] w fun e w' => e = .returned (.bool true) ∧ Below w.heap.size w w' := by
 obtain ⟨l0, rfl, hr0, hm0, hw0, hc0⟩ := ReadsInt.ofRowC w0; obtain ⟨k, h⟩ := P l0 hm0 y0 hw0
 refine (laws_FnBookWords.calls k _ _ l0 true w (Kd.C_of_reads (d := (0 : Int)) (h1 := fun _ => rfl) hr0) hc0 h).mono ?_
 rintro e w' ⟨rfl, hd⟩
 exact ⟨rfl, hd⟩

end Go.Proofs.Ytedfcehhgbeibaa.QFnBookWords

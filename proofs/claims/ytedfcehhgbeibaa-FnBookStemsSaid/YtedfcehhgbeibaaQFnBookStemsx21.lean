import Derived.Test.YtedfcehhgbeibaaQFnBookStemsx0
import Derived.Test.YtedfcehhgbeibaaQFnBookStemsx6
import Derived.Test.YtedfcehhgbeibaaQFnBookStemsx7
import Derived.Test.YtedfcehhgbeibaaQFnBookStemsx9
import Derived.Test.YtedfcehhgbeibaaQFnBookStemsx11
import Derived.Test.YtedfcehhgbeibaaQFnBookStemsx15
import Derived.Test.YtedfcehhgbeibaaQFnBookStemsx20
import Derived.Test.YtedfcehhgbeibaaVMSh2
namespace Go.Proofs.Ytedfcehhgbeibaa.QFnBookStems
open Go.RowKit Go.Proofs.YtedfcehhgbeibaaW.PrintWords Go.Proofs.YtedfcehhgbeibaaW.PrintLast Go.Proofs.YtedfcehhgbeibaaW.PrintMore Go.Proofs.Ytedfcehhgbeibaa.Sh
attribute [local go_sem] max2_int min2_int max_two min_two max_three min_three max_four min_four   -- for this text's walks alone
set_option linter.unusedVariables false
set_option linter.unusedSimpArgs false
-- shrunk

/-! ### laws_FnBookStems: function 10 -/
mutual
def laws_FnBookStems.j0 : Nat → ByteArray → List ByteArray → Bool → List (S44) → List (S31) → Option (Bool)
 | 0, _, _, _, _, _ => none
 | k + 1, x4, x5, x29, x497000, x497001 => if x29 = true then ((spec_BookStems.f k x497000 x497001 x4).bind fun t505 => ((laws_mdTexts.f k x5 t505).bind fun t508 => (some t508))) else (laws_FnBookStems.l0 k x4 x5 0 x497000 x497001)
def laws_FnBookStems.l0 : Nat → ByteArray → List ByteArray → Int → List (S44) → List (S31) → Option (Bool)
 | 0, _, _, _, _, _ => none
 | k + 1, x4, x5, x6, x497000, x497001 => if x6 < (x497001.length : Int) then (if 0 ≤ x6 then ((laws_mdHas.f k x5 ((rd_T31 x497001 x6).f0)).bind fun t511 => ((impl_Forms.f k x497000 ((rd_T31 x497001 x6).f0) ((rd_T31 x497001 x6).f1)).bind fun t512 => ((laws_mdHas.f k t512 x4).bind fun t515 => (if (t511 != t515) = true then (some false) else (if ((rd_T31 x497001 x6).f0).toList = x4.toList then ((laws_mdHas.f k x5 x4).bind fun t516 => (if t516 = true then (laws_FnBookStems.l0 k x4 x5 (wrap64 (x6 + 1)) x497000 x497001) else (some false))) else (laws_FnBookStems.l0 k x4 x5 (wrap64 (x6 + 1)) x497000 x497001)))))) else (none)) else (some true)
end
def laws_FnBookStems.f (k : Nat) (l0 : List Int) : Option (Bool) := if (l0.length : Int) > 1048576 then (some true) else ((spec_DrawBookStems.f k l0).bind fun bt489 => ((impl_BookStems.f k bt489.1 bt489.2.1 bt489.2.2).bind fun t497 => ((spec_BookStems.f k bt489.1 bt489.2.1 bt489.2.2).bind fun t500 => ((laws_mdTexts.f k t497 t500).bind fun t503 => (if t503 = true then ((spec_BookOk.f k bt489.1 bt489.2.1).bind fun t504 => (laws_FnBookStems.j0 k bt489.2.2 t497 (!t504) bt489.1 bt489.2.1)) else (laws_FnBookStems.j0 k bt489.2.2 t497 true bt489.1 bt489.2.1))))))
theorem laws_FnBookStems.mono_l : ∀ k, (∀ y0 y1 y2 y3 y4, LeO (laws_FnBookStems.j0 k y0 y1 y2 y3 y4) (laws_FnBookStems.j0 (k + 1) y0 y1 y2 y3 y4)) ∧ (∀ y0 y1 y2 y3 y4, LeO (laws_FnBookStems.l0 k y0 y1 y2 y3 y4) (laws_FnBookStems.l0 (k + 1) y0 y1 y2 y3 y4))
 | 0 => ⟨fun _ _ _ _ _ r h => by simp [laws_FnBookStems.j0] at h, fun _ _ _ _ _ r h => by simp [laws_FnBookStems.l0] at h⟩
 | k + 1 => by
  obtain ⟨ih0, ih1⟩ := laws_FnBookStems.mono_l k
  refine ⟨?_, ?_⟩
  ·intro y0 y1 y2 y3 y4
   unfold laws_FnBookStems.j0
   repeat' first | (with_reducible first | exact ih0 _ _ _ _ _ | exact ih1 _ _ _ _ _ | exact impl_BookStems.mono _ _ _ _ | exact impl_Forms.mono _ _ _ _ | exact laws_mdHas.mono _ _ _ | exact laws_mdTexts.mono _ _ _ | exact spec_BookOk.mono _ _ _ | exact spec_BookStems.mono _ _ _ _ | exact spec_DrawBookStems.mono _ _ | exact LeO.refl _ | exact LeO.none _ | refine LeO.ite ?_ ?_ | refine LeO.bind ?_ (fun _ => ?_)) | exact ih0 _ _ _ _ _ | exact ih1 _ _ _ _ _ | exact impl_BookStems.mono _ _ _ _ | exact impl_Forms.mono _ _ _ _ | exact laws_mdHas.mono _ _ _ | exact laws_mdTexts.mono _ _ _ | exact spec_BookOk.mono _ _ _ | exact spec_BookStems.mono _ _ _ _ | exact spec_DrawBookStems.mono _ _ | exact LeO.none _ | refine LeO.ite ?_ ?_ | refine LeO.bind ?_ (fun _ => ?_)
  ·intro y0 y1 y2 y3 y4
   unfold laws_FnBookStems.l0
   repeat' first | (with_reducible first | exact ih0 _ _ _ _ _ | exact ih1 _ _ _ _ _ | exact impl_BookStems.mono _ _ _ _ | exact impl_Forms.mono _ _ _ _ | exact laws_mdHas.mono _ _ _ | exact laws_mdTexts.mono _ _ _ | exact spec_BookOk.mono _ _ _ | exact spec_BookStems.mono _ _ _ _ | exact spec_DrawBookStems.mono _ _ | exact LeO.refl _ | exact LeO.none _ | refine LeO.ite ?_ ?_ | refine LeO.bind ?_ (fun _ => ?_)) | exact ih0 _ _ _ _ _ | exact ih1 _ _ _ _ _ | exact impl_BookStems.mono _ _ _ _ | exact impl_Forms.mono _ _ _ _ | exact laws_mdHas.mono _ _ _ | exact laws_mdTexts.mono _ _ _ | exact spec_BookOk.mono _ _ _ | exact spec_BookStems.mono _ _ _ _ | exact spec_DrawBookStems.mono _ _ | exact LeO.none _ | refine LeO.ite ?_ ?_ | refine LeO.bind ?_ (fun _ => ?_)
theorem laws_FnBookStems.mono : ∀ a0 k, LeO (laws_FnBookStems.f k a0) (laws_FnBookStems.f (k + 1) a0) := by
 intro a0 k; obtain ⟨ih0, ih1⟩ := laws_FnBookStems.mono_l k
 unfold laws_FnBookStems.f
 repeat' first | (with_reducible first | exact ih0 _ _ _ _ _ | exact ih1 _ _ _ _ _ | exact impl_BookStems.mono _ _ _ _ | exact impl_Forms.mono _ _ _ _ | exact laws_mdHas.mono _ _ _ | exact laws_mdTexts.mono _ _ _ | exact spec_BookOk.mono _ _ _ | exact spec_BookStems.mono _ _ _ _ | exact spec_DrawBookStems.mono _ _ | exact LeO.refl _ | exact LeO.none _ | refine LeO.ite ?_ ?_ | refine LeO.bind ?_ (fun _ => ?_)) | exact ih0 _ _ _ _ _ | exact ih1 _ _ _ _ _ | exact impl_BookStems.mono _ _ _ _ | exact impl_Forms.mono _ _ _ _ | exact laws_mdHas.mono _ _ _ | exact laws_mdTexts.mono _ _ _ | exact spec_BookOk.mono _ _ _ | exact spec_BookStems.mono _ _ _ _ | exact spec_DrawBookStems.mono _ _ | exact LeO.none _ | refine LeO.ite ?_ ?_ | refine LeO.bind ?_ (fun _ => ?_)
def laws_FnBookStems.T11 : Bool × List (List Nat × List Nat) := (true, [([], []), ([], []), ([1], [1]), ([0, 2], [0, 2]), ([], []), ([4], [4]), ([], []), ([5, 6, 3], [5, 6]), ([], []), ([7, 8, 7], [7, 8]), ([3, 9], [3, 9]), ([10, 9], [10]), ([11], [11]), ([12, 11], [11, 12]), ([11], [11]), ([13, 14, 11], [11, 13, 14]), ([15, 11, 11], [11, 15]), ([16], [16]), ([16], [16]), ([17, 18, 16, 16], [16, 17, 18]), ([19, 16], [16, 19]), ([16, 20, 11], [11, 16, 20]), ([11, 21], [11, 21])])
def laws_FnBookStems.B11 : List Nat := [0, 0, 2, 7, 0, 16, 0, 127, 0, 511, 1023, 2047, 4095, 8191, 4095, 32767, 65535, 131071, 131071, 524287, 1048575, 2097151, 4194303]
theorem laws_FnBookStems.tab11 : rtab .any (opsOf Try.f10 11) = laws_FnBookStems.T11 := by kernel_rfl
theorem laws_FnBookStems.bits11 : waitsOk laws_FnBookStems.T11.2 laws_FnBookStems.B11 = true := by kernel_rfl
set_option maxHeartbeats 8000000 in
set_option maxRecDepth 100000 in
theorem laws_FnBookStems.calls (k : Nat) (A0 : Option Addr) (c0 : Nat) (l0 : List Int) (r : Bool) (w : World) (hr0 : Kd.C (Kd.int .u8) w A0 l0.length l0) (hc0 : l0.length ≤ c0) (h : laws_FnBookStems.f k l0 = some r) :
  Calls Try.prog 10 #[.slice A0 l0.length c0] w fun e w' => e = .returned (.bool r) ∧ Below w.heap.size w w' := by
 have hu55 := Try.underlying55; have hu31 := Try.underlying31; have HR0 := am hr0; have HC0 := am hc0; clear hr0 hc0; have HB := am (Below.refl w.heap.size w)
 have H : (if (l0.length : Int) > 1048576 then (some true) else ((spec_DrawBookStems.f k l0).bind fun bt489 => ((impl_BookStems.f k bt489.1 bt489.2.1 bt489.2.2).bind fun t497 => ((spec_BookStems.f k bt489.1 bt489.2.1 bt489.2.2).bind fun t500 => ((laws_mdTexts.f k t497 t500).bind fun t503 => (if t503 = true then ((spec_BookOk.f k bt489.1 bt489.2.1).bind fun t504 => (laws_FnBookStems.j0 k bt489.2.2 t497 (!t504) bt489.1 bt489.2.1)) else (laws_FnBookStems.j0 k bt489.2.2 t497 true bt489.1 bt489.2.1))))))) = some r := h
 clear h
 by_cases c2 : (l0.length : Int) > 1048576
 ·rw [if_pos c2] at H; have c2b0 := decide_eq_true c2
  have c2b1 : decide (1048576 < l0.length) = true := decide_eq_true (by omega)
  clear c2; obtain rfl := Option.some.inj H; go_enter Try.func10, Try.ntmps10; go_wp2; go_ret
  exact ⟨eq_, bel⟩
 ·rw [if_neg c2] at H; have c2b0 := decide_eq_false c2
  have c2b1 : decide (1048576 < l0.length) = false := decide_eq_false (by omega)
  clear c2; replace H := Option.bind_eq_some_iff.mp H; obtain ⟨⟨t489, t492, t495⟩, A30, H⟩ := H; replace H : ((impl_BookStems.f k t489 t492 t495).bind fun t497 => ((spec_BookStems.f k t489 t492 t495).bind fun t500 => ((laws_mdTexts.f k t497 t500).bind fun t503 => (if t503 = true then ((spec_BookOk.f k t489 t492).bind fun t504 => (laws_FnBookStems.j0 k t495 t497 (!t504) t489 t492)) else (laws_FnBookStems.j0 k t495 t497 true t489 t492))))) = some r := H; have A3 := Aside0.mk A30; clear A30; replace H := Option.bind_eq_some_iff.mp H; obtain ⟨t497, A40, H⟩ := H; replace H : ((spec_BookStems.f k t489 t492 t495).bind fun t500 => ((laws_mdTexts.f k t497 t500).bind fun t503 => (if t503 = true then ((spec_BookOk.f k t489 t492).bind fun t504 => (laws_FnBookStems.j0 k t495 t497 (!t504) t489 t492)) else (laws_FnBookStems.j0 k t495 t497 true t489 t492)))) = some r := H; have A4 := Aside0.mk A40; clear A40; have HC5 := am H; clear H; go_enter Try.func10, Try.ntmps10
  go_upto_region 5 with (first | ((with_reducible refine gate_callee (f := 45) rfl ?_); refine goesL_ (some 13) rfl rfl Try.func45 (by kernel_rfl) rfl #[.slice A0 l0.length c0] rfl mq ?_; (with_reducible refine (spec_DrawBookStems.calls k _ _ l0 t489 t492 t495 _ ?side1 ?side2 A3.out).mono ?_); (case side1 => repeat (first | exact HR0.out | (with_reducible refine Kd.C_alloc ?_ _) | (with_reducible refine Kd.C_drewN ?_ _) | (with_reducible refine Kd.C_drew ?_))); (case side2 => exact HC0.out); rintro e w6 ⟨v490, v493, rfl, ho0, ho1, hb⟩; refine ⟨_, rfl, ?_⟩; have HO491 := am (Kd.R_lower ho0 (below_size bel)); have HO494 := am (Kd.R_lower ho1 (below_size bel)); replace HB := am (below_step bel hb); (try clear hb); (try clear hb2); (try clear hk); (try clear hi); (try clear ho0); (try clear ho1)) | ((with_reducible refine gate_dst (N := 3) rfl ?_); refine bx 3 (cs := #[.slice none 0 0, .slice none 0 0]) (t := 55) ?_; intro gb496 hg w7 hbox hb; replace HO491 := am (Kd.R_below (rq HO491.out) hb); replace HO494 := am (Kd.R_below (rq HO494.out) hb); have BK496 := am (hbox); have GW496 := am ((b20_ : w.heap.size ≤ gb496)); have GE496 := am ((b20_ : w.heap.size ≤ gb496)); replace HB := am (below_step bel hb); clear hb hbox hg; obtain ⟨Ao8, co8, eo8⟩ := Kd.R_slice HO491.out; subst eo8; have hcz9_0 := bc BK496.out 0; have hcz9_1 := bc BK496.out 1; have hfz9_0 := bf BK496.out 0; have hfz9_1 := bf BK496.out 1; obtain ⟨Ao10, co10, eo10⟩ := Kd.R_slice HO494.out; subst eo10) | ((with_reducible refine gate_callee (f := 43) rfl ?_); refine goesL_ (some 18) rfl rfl Try.func43 (by kernel_rfl) rfl #[.agg #[.slice Ao8 t489.length co8, .slice Ao10 t492.length co10], .string t495] rfl mq ?_; (with_reducible refine (impl_BookStems.calls k _ _ t489 _ _ t492 t495 t497 _ ?side1 ?side2 ?side3 ?side4 A4.out).mono ?_); (case side1 => refine (Kd.R_reads' (e := 44) (base := w.heap.size) (ok := fun k_ => True) (n := t489.length) (c := co8) ?_).2.2; exact (rq ((Kd.R_mono (Kd.R_far (p := ⟨gb496, 1, none⟩) (Kd.R_far (p := ⟨gb496, 0, none⟩) (Kd.R_types HO491.out BK496.out (by decide)) (fun _ hk => hk.2) (.slice Ao8 t489.length co8)) (fun _ hk => hk.2) (.slice Ao10 t492.length co10)) (fun _ h_ => h_.1))))); (case side2 => exact (Kd.R_reads' HO491.out).2.1); (case side3 => refine (Kd.R_reads' (e := 31) (base := w.heap.size) (ok := fun k_ => True) (n := t492.length) (c := co10) ?_).2.2; exact (rq ((Kd.R_mono (Kd.R_far (p := ⟨gb496, 1, none⟩) (Kd.R_far (p := ⟨gb496, 0, none⟩) (Kd.R_types HO494.out BK496.out (by decide)) (fun _ hk => hk.2) (.slice Ao8 t489.length co8)) (fun _ hk => hk.2) (.slice Ao10 t492.length co10)) (fun _ h_ => h_.1))))); (case side4 => exact (Kd.R_reads' HO494.out).2.1); rintro e w11 ⟨v498, rfl, ho0, hb⟩; refine ⟨_, rfl, ?_⟩; replace HO491 := am (Kd.R_below (rq ((Kd.R_mono (Kd.R_far (p := ⟨gb496, 1, none⟩) (Kd.R_far (p := ⟨gb496, 0, none⟩) (Kd.R_types HO491.out BK496.out (by decide)) (fun _ hk => hk.2) (.slice Ao8 t489.length co8)) (fun _ hk => hk.2) (.slice Ao10 t492.length co10)) (fun _ h_ => h_.1)))) hb); replace HO494 := am (Kd.R_below (rq ((Kd.R_mono (Kd.R_far (p := ⟨gb496, 1, none⟩) (Kd.R_far (p := ⟨gb496, 0, none⟩) (Kd.R_types HO494.out BK496.out (by decide)) (fun _ hk => hk.2) (.slice Ao8 t489.length co8)) (fun _ hk => hk.2) (.slice Ao10 t492.length co10)) (fun _ h_ => h_.1)))) hb); have HO499 := am (Kd.R_lower ho0 (below_size (bel1 GE496.out))); replace BK496 := am (blk_below (g := gb496) (o := .cells #[.slice Ao8 t489.length co8, .slice Ao10 t492.length co10] 55 (0, 0)) (by (with_reducible repeat (first | refine blk_drewN ?_ _ | refine blk_drew ?_ | refine blk_alloc ?_ _)); refine blk_put (cs := #[.slice Ao8 t489.length co8, .slice none 0 0]) ?_ 1 _ rfl; (with_reducible repeat (first | refine blk_drewN ?_ _ | refine blk_drew ?_ | refine blk_alloc ?_ _)); refine blk_put (cs := #[.slice none 0 0, .slice none 0 0]) ?_ 0 _ rfl; (with_reducible repeat (first | refine blk_drewN ?_ _ | refine blk_drew ?_ | refine blk_alloc ?_ _)); exact BK496.out) hb); replace HB := am (below_step (bel1 GE496.out) hb); (try clear hb); (try clear hb2); (try clear hk); (try clear hi); (try clear ho0)))
  (try simp only [Act.put, List.setIfInBounds_toArray, List.set_cons_zero, List.set_cons_succ])
  go_cut [29] (fun v29 wc => ∃ (kq : Nat) (x29_4 : Bool), v29 = .bool x29_4 ∧ Aside0 (laws_FnBookStems.j0 kq t495 t497 x29_4 t489 t492 = some r) ∧ Aside0 (kq ≤ k) ∧ Aside0 (Kd.R Kd.string 9 wc w.heap.size (fun _ => True) v498 t497) ∧ Aside0 (Kd.R k44 44 wc w.heap.size (fun _ => True) (.slice Ao8 t489.length co8) t489) ∧ Aside0 (Kd.R k31 31 wc w.heap.size (fun _ => True) (.slice Ao10 t492.length co10) t492) ∧ Aside0 (wc.heap[gb496]? = some (.cells #[(.slice Ao8 t489.length co8), (.slice Ao10 t492.length co10)] 55 (0, 0))) ∧ Aside0 (Below w.heap.size w wc))
  case first =>
   have H := HC5.out; clear HC5; replace H := Option.bind_eq_some_iff.mp H; obtain ⟨t500, A120, H⟩ := H; replace H : ((laws_mdTexts.f k t497 t500).bind fun t503 => (if t503 = true then ((spec_BookOk.f k t489 t492).bind fun t504 => (laws_FnBookStems.j0 k t495 t497 (!t504) t489 t492)) else (laws_FnBookStems.j0 k t495 t497 true t489 t492))) = some r := H; have A12 := Aside0.mk A120; clear A120; replace H := Option.bind_eq_some_iff.mp H; obtain ⟨t503, A130, H⟩ := H; replace H : (if t503 = true then ((spec_BookOk.f k t489 t492).bind fun t504 => (laws_FnBookStems.j0 k t495 t497 (!t504) t489 t492)) else (laws_FnBookStems.j0 k t495 t497 true t489 t492)) = some r := H; have A13 := Aside0.mk A130; clear A130
   by_cases c14 : t503 = true
   ·subst c14
    have H1 : ((spec_BookOk.f k t489 t492).bind fun t504 => (laws_FnBookStems.j0 k t495 t497 (!t504) t489 t492)) = some r := b36_
    replace H := H1; clear H1
    replace H := Option.bind_eq_some_iff.mp H; obtain ⟨t504, A150, H⟩ := H; replace H : (laws_FnBookStems.j0 k t495 t497 (!t504) t489 t492) = some r := H; have A15 := Aside0.mk A150; clear A150
    have H' := am H
    clear H; have hcz16_0 := bc BK496.out 0; have hcz16_1 := bc BK496.out 1; have hfz16_0 := bf BK496.out 0; have hfz16_1 := bf BK496.out 1
    go_wp2_with (first | ((with_reducible refine gate_callee (f := 44) rfl ?_); refine goesL_ (some 22) rfl rfl Try.func44 (by kernel_rfl) rfl #[.agg #[.slice Ao8 t489.length co8, .slice Ao10 t492.length co10], .string t495] rfl mq ?_; (with_reducible refine (spec_BookStems.calls k _ _ t489 _ _ t492 t495 t500 _ ?side1 ?side2 ?side3 ?side4 A12.out).mono ?_); (case side1 => exact cq (Kd.R_reads' HO491.out).2.2); (case side2 => exact (Kd.R_reads' HO491.out).2.1); (case side3 => exact cq (Kd.R_reads' HO494.out).2.2); (case side4 => exact (Kd.R_reads' HO494.out).2.1); rintro e w17 ⟨v501, rfl, ho0, hb⟩; refine ⟨_, rfl, ?_⟩; replace HO491 := am (Kd.R_below (rq HO491.out) hb); replace HO494 := am (Kd.R_below (rq HO494.out) hb); have HO502 := am (Kd.R_lower (Kd.R_new' ho0 (Kd.R_lt (rq HO499.out))) (below_size (bel1 GE496.out))); replace HO499 := am (Kd.R_elder' (rq HO499.out) (Kd.R_base ho0) hb); replace BK496 := am (blk_below (g := gb496) (o := .cells #[.slice Ao8 t489.length co8, .slice Ao10 t492.length co10] 55 (0, 0)) (bq BK496.out) hb); replace HB := am (below_step (bel1 GE496.out) hb); (try clear hb); (try clear hb2); (try clear hk); (try clear hi); (try clear ho0); obtain ⟨Ao18, co18, eo18⟩ := Kd.R_slice HO499.out; subst eo18; obtain ⟨Ao19, co19, eo19⟩ := Kd.R_slice HO502.out; subst eo19) | ((with_reducible refine gate_callee (f := 27) rfl ?_); refine goesL_ (some 23) rfl rfl Try.func27 (by kernel_rfl) rfl #[.slice Ao18 t497.length co18, .slice Ao19 t500.length co19] rfl mq ?_; (with_reducible refine (laws_mdTexts.calls k _ _ t497 _ _ t500 true _ ?side1 ?side2 ?side3 ?side4 A13.out).mono ?_); (case side1 => exact cq (Kd.R_reads' HO499.out).2.2); (case side2 => exact (Kd.R_reads' HO499.out).2.1); (case side3 => exact cq (Kd.R_reads' HO502.out).2.2); (case side4 => exact (Kd.R_reads' HO502.out).2.1); rintro e w' ⟨rfl, ⟨nd, rfl⟩⟩; refine ⟨_, rfl, ?_⟩; have hcz20_0 := bc BK496.out 0; have hcz20_1 := bc BK496.out 1; have hfz20_0 := bf BK496.out 0; have hfz20_1 := bf BK496.out 1) | (go_at_call 39; (with_reducible refine (spec_BookOk.calls k _ _ t489 _ _ t492 t504 _ ?side1 ?side2 ?side3 ?side4 A15.out).mono ?_); (case side1 => exact cq (Kd.R_reads' HO491.out).2.2); (case side2 => exact (Kd.R_reads' HO491.out).2.1); (case side3 => exact cq (Kd.R_reads' HO494.out).2.2); (case side4 => exact (Kd.R_reads' HO494.out).2.1); rintro e w21 ⟨rfl, hb⟩; replace HO491 := am (Kd.R_below (rq HO491.out) hb); replace HO494 := am (Kd.R_below (rq HO494.out) hb); replace HO499 := am (Kd.R_below (rq HO499.out) hb); replace HO502 := am (Kd.R_below (rq HO502.out) hb); replace BK496 := am (blk_below (g := gb496) (o := .cells #[.slice Ao8 t489.length co8, .slice Ao10 t492.length co10] 55 (0, 0)) (bq BK496.out) hb); replace HB := am (below_step (bel1 GE496.out) hb); (try clear hb); (try clear hb2); (try clear hk); (try clear hi)))
    go_meet
    case rel => exact ⟨_, (!t504), sq, H', ⟨b60_⟩, ⟨rq (Kd.R_mono HO499.out (fun _ hk => trivial))⟩, ⟨rq HO491.out⟩, ⟨rq HO494.out⟩, ⟨bq BK496.out⟩, ⟨bel1 GE496.out⟩⟩
   ·replace c14 := Bool.eq_false_iff.mpr c14; subst c14
    have H1 : (laws_FnBookStems.j0 k t495 t497 true t489 t492) = some r := b18_
    replace H := H1; clear H1
    have H' := am H
    clear H; have hcz22_0 := bc BK496.out 0; have hcz22_1 := bc BK496.out 1; have hfz22_0 := bf BK496.out 0; have hfz22_1 := bf BK496.out 1
    go_wp2_with (first | ((with_reducible refine gate_callee (f := 44) rfl ?_); refine goesL_ (some 22) rfl rfl Try.func44 (by kernel_rfl) rfl #[.agg #[.slice Ao8 t489.length co8, .slice Ao10 t492.length co10], .string t495] rfl mq ?_; (with_reducible refine (spec_BookStems.calls k _ _ t489 _ _ t492 t495 t500 _ ?side1 ?side2 ?side3 ?side4 A12.out).mono ?_); (case side1 => exact cq (Kd.R_reads' HO491.out).2.2); (case side2 => exact (Kd.R_reads' HO491.out).2.1); (case side3 => exact cq (Kd.R_reads' HO494.out).2.2); (case side4 => exact (Kd.R_reads' HO494.out).2.1); rintro e w23 ⟨v501, rfl, ho0, hb⟩; refine ⟨_, rfl, ?_⟩; replace HO491 := am (Kd.R_below (rq HO491.out) hb); replace HO494 := am (Kd.R_below (rq HO494.out) hb); have HO502 := am (Kd.R_lower (Kd.R_new' ho0 (Kd.R_lt (rq HO499.out))) (below_size (bel1 GE496.out))); replace HO499 := am (Kd.R_elder' (rq HO499.out) (Kd.R_base ho0) hb); replace BK496 := am (blk_below (g := gb496) (o := .cells #[.slice Ao8 t489.length co8, .slice Ao10 t492.length co10] 55 (0, 0)) (bq BK496.out) hb); replace HB := am (below_step (bel1 GE496.out) hb); (try clear hb); (try clear hb2); (try clear hk); (try clear hi); (try clear ho0); obtain ⟨Ao24, co24, eo24⟩ := Kd.R_slice HO499.out; subst eo24; obtain ⟨Ao25, co25, eo25⟩ := Kd.R_slice HO502.out; subst eo25) | ((with_reducible refine gate_callee (f := 27) rfl ?_); refine goesL_ (some 23) rfl rfl Try.func27 (by kernel_rfl) rfl #[.slice Ao24 t497.length co24, .slice Ao25 t500.length co25] rfl mq ?_; (with_reducible refine (laws_mdTexts.calls k _ _ t497 _ _ t500 false _ ?side1 ?side2 ?side3 ?side4 A13.out).mono ?_); (case side1 => exact cq (Kd.R_reads' HO499.out).2.2); (case side2 => exact (Kd.R_reads' HO499.out).2.1); (case side3 => exact cq (Kd.R_reads' HO502.out).2.2); (case side4 => exact (Kd.R_reads' HO502.out).2.1); rintro e w' ⟨rfl, ⟨nd, rfl⟩⟩; refine ⟨_, rfl, ?_⟩))
    go_meet
    case rel => exact ⟨_, (true), sq, H', ⟨b60_⟩, ⟨rq (Kd.R_mono HO499.out (fun _ hk => trivial))⟩, ⟨rq HO491.out⟩, ⟨rq HO494.out⟩, ⟨bq BK496.out⟩, ⟨bel1 GE496.out⟩⟩
  case rest =>
   clear HC5; (try clear c1); (try clear c2); (try clear c2b0); (try clear c2b1); (try clear p2); (try clear c4); (try clear c10); (try clear c14); (try clear hcz16_0); (try clear hcz16_1); (try clear hcz20_0); (try clear hcz20_1); (try clear hcz22_0); (try clear hcz22_1); (try clear hcz9_0); (try clear hcz9_1); (try clear hfz16_0); (try clear hfz16_1); (try clear hfz20_0); (try clear hfz20_1); (try clear hfz22_0); (try clear hfz22_1); (try clear hfz9_0); (try clear hfz9_1); obtain ⟨kq, x29_4, rfl, HA, HJ4, HO_5, HO_497000, HO_497001, BK496, HB⟩ := hcut
   cases kq with
   | zero => exact absurd HA.out (by simp [laws_FnBookStems.j0])
   | succ kj4 =>
    have H := HA.out; clear HA
    simp only [laws_FnBookStems.j0] at H
    by_cases c26 : x29_4 = true
    ·subst c26
     have H1 : ((spec_BookStems.f kj4 t489 t492 t495).bind fun t505 => ((laws_mdTexts.f kj4 t497 t505).bind fun t508 => (some t508))) = some r := b36_
     replace H := H1; clear H1
     replace H := Option.bind_eq_some_iff.mp H; obtain ⟨t505, A270, H⟩ := H; replace H : ((laws_mdTexts.f kj4 t497 t505).bind fun t508 => (some t508)) = some r := H; have A27 := Aside0.mk A270; clear A270; replace H := Option.bind_eq_some_iff.mp H; obtain ⟨t508, A280, H⟩ := H; replace H : (some t508) = some r := H; have A28 := Aside0.mk A280; clear A280; obtain rfl := Option.some.inj H; have hcz29_0 := bc BK496.out 0; have hcz29_1 := bc BK496.out 1; have hfz29_0 := bf BK496.out 0; have hfz29_1 := bf BK496.out 1
     go_wp2_with (first | ((with_reducible refine gate_callee (f := 44) rfl ?_); refine goesL_ (some 33) rfl rfl Try.func44 (by kernel_rfl) rfl #[.agg #[.slice Ao8 t489.length co8, .slice Ao10 t492.length co10], .string t495] rfl mq ?_; (with_reducible refine (spec_BookStems.calls kj4 _ _ t489 _ _ t492 t495 t505 _ ?side1 ?side2 ?side3 ?side4 A27.out).mono ?_); (case side1 => exact cq (Kd.R_reads' HO_497000.out).2.2); (case side2 => exact (Kd.R_reads' HO_497000.out).2.1); (case side3 => exact cq (Kd.R_reads' HO_497001.out).2.2); (case side4 => exact (Kd.R_reads' HO_497001.out).2.1); rintro e w30 ⟨v506, rfl, ho0, hb⟩; refine ⟨_, rfl, ?_⟩; replace HO_497000 := am (Kd.R_below (rq HO_497000.out) hb); replace HO_497001 := am (Kd.R_below (rq HO_497001.out) hb); have HO507 := am (Kd.R_lower (Kd.R_new' ho0 (Kd.R_lt (rq HO_5.out))) (below_size (bel1 GE496.out))); replace HO_5 := am (Kd.R_elder' (rq HO_5.out) (Kd.R_base ho0) hb); replace BK496 := am (blk_below (g := gb496) (o := .cells #[.slice Ao8 t489.length co8, .slice Ao10 t492.length co10] 55 (0, 0)) (bq BK496.out) hb); replace HB := am (below_step (bel1 GE496.out) hb); (try clear hb); (try clear hb2); (try clear hk); (try clear hi); (try clear ho0); obtain ⟨Ao31, co31, eo31⟩ := Kd.R_slice HO_5.out; subst eo31; obtain ⟨Ao32, co32, eo32⟩ := Kd.R_slice HO507.out; subst eo32) | ((with_reducible refine gate_callee (f := 27) rfl ?_); refine goesL_ (some 34) rfl rfl Try.func27 (by kernel_rfl) rfl #[.slice Ao31 t497.length co31, .slice Ao32 t505.length co32] rfl mq ?_; (with_reducible refine (laws_mdTexts.calls kj4 _ _ t497 _ _ t505 t508 _ ?side1 ?side2 ?side3 ?side4 A28.out).mono ?_); (case side1 => exact cq (Kd.R_reads' HO_5.out).2.2); (case side2 => exact (Kd.R_reads' HO_5.out).2.1); (case side3 => exact cq (Kd.R_reads' HO507.out).2.2); (case side4 => exact (Kd.R_reads' HO507.out).2.1); rintro e w' ⟨rfl, ⟨nd, rfl⟩⟩; refine ⟨_, rfl, ?_⟩))
     go_ret
     exact ⟨eq_, bel1 GE496.out⟩
    ·replace c26 := Bool.eq_false_iff.mpr c26; subst c26
     have H1 : (laws_FnBookStems.l0 kj4 t495 t497 0 t489 t492) = some r := b18_
     replace H := H1; clear H1
     have H' := am H
     clear H; go_wp2
     go_loopg [6] kj4 (fun kq v6 w' => ∃ (x6_2 : Int), v6 = .int .i64 x6_2 ∧ Aside0 (laws_FnBookStems.l0 kq t495 t497 x6_2 t489 t492 = some r) ∧ Aside0 (kq ≤ kj4) ∧ Aside0 (Kd.R Kd.string 9 w' w.heap.size (fun _ => True) v498 t497) ∧ Aside0 (Kd.R k44 44 w' w.heap.size (fun _ => True) (.slice Ao8 t489.length co8) t489) ∧ Aside0 (Kd.R k31 31 w' w.heap.size (fun _ => True) (.slice Ao10 t492.length co10) t492) ∧ Aside0 (w'.heap[gb496]? = some (.cells #[(.slice Ao8 t489.length co8), (.slice Ao10 t492.length co10)] 55 (0, 0))) ∧ Aside0 (Below w.heap.size w w'))
     case atStart => exact ⟨(0), sq, H', ⟨Nat.le_refl _⟩, ⟨rq HO_5.out⟩, ⟨rq HO_497000.out⟩, ⟨rq HO_497001.out⟩, ⟨bq BK496.out⟩, ⟨bel1 GE496.out⟩⟩
     case round =>
      clear H'; (try clear c1); (try clear c2); (try clear c2b0); (try clear c2b1); (try clear p2); (try clear c4); (try clear c10); (try clear c14); (try clear c26); (try clear c27); (try clear hcz16_0); (try clear hcz16_1); (try clear hcz20_0); (try clear hcz20_1); (try clear hcz22_0); (try clear hcz22_1); (try clear hcz29_0); (try clear hcz29_1); (try clear hcz9_0); (try clear hcz9_1); (try clear hfz16_0); (try clear hfz16_1); (try clear hfz20_0); (try clear hfz20_1); (try clear hfz22_0); (try clear hfz22_1); (try clear hfz29_0); (try clear hfz29_1); (try clear hfz9_0); (try clear hfz9_1); (try clear p2); obtain ⟨x6_2, rfl, HA, HK2, HO_5, HO_497000, HO_497001, BK496, HB⟩ := hrel
      cases gk with
      | zero => exact absurd HA.out (by simp [laws_FnBookStems.l0])
      | succ k2 =>
       have H := HA.out; clear HA
       simp only [laws_FnBookStems.l0] at H
       by_cases c33 : x6_2 < (t492.length : Int)
       ·rw [if_pos c33] at H; have c33b0 := decide_eq_true c33; clear c33
        by_cases c34 : 0 ≤ x6_2
        ·rw [if_pos c34] at H; have c34b0 := decide_eq_true c34; clear c34; replace H := Option.bind_eq_some_iff.mp H; obtain ⟨t511, A350, H⟩ := H; replace H : ((impl_Forms.f k2 t489 ((rd_T31 t492 x6_2).f0) ((rd_T31 t492 x6_2).f1)).bind fun t512 => ((laws_mdHas.f k2 t512 t495).bind fun t515 => (if (t511 != t515) = true then (some false) else (if ((rd_T31 t492 x6_2).f0).toList = t495.toList then ((laws_mdHas.f k2 t497 t495).bind fun t516 => (if t516 = true then (laws_FnBookStems.l0 k2 t495 t497 (wrap64 (x6_2 + 1)) t489 t492) else (some false))) else (laws_FnBookStems.l0 k2 t495 t497 (wrap64 (x6_2 + 1)) t489 t492))))) = some r := H; have A35 := Aside0.mk A350; clear A350; replace H := Option.bind_eq_some_iff.mp H; obtain ⟨t512, A360, H⟩ := H; replace H : ((laws_mdHas.f k2 t512 t495).bind fun t515 => (if (t511 != t515) = true then (some false) else (if ((rd_T31 t492 x6_2).f0).toList = t495.toList then ((laws_mdHas.f k2 t497 t495).bind fun t516 => (if t516 = true then (laws_FnBookStems.l0 k2 t495 t497 (wrap64 (x6_2 + 1)) t489 t492) else (some false))) else (laws_FnBookStems.l0 k2 t495 t497 (wrap64 (x6_2 + 1)) t489 t492)))) = some r := H; have A36 := Aside0.mk A360; clear A360; replace H := Option.bind_eq_some_iff.mp H; obtain ⟨t515, A370, H⟩ := H; replace H : (if (t511 != t515) = true then (some false) else (if ((rd_T31 t492 x6_2).f0).toList = t495.toList then ((laws_mdHas.f k2 t497 t495).bind fun t516 => (if t516 = true then (laws_FnBookStems.l0 k2 t495 t497 (wrap64 (x6_2 + 1)) t489 t492) else (some false))) else (laws_FnBookStems.l0 k2 t495 t497 (wrap64 (x6_2 + 1)) t489 t492))) = some r := H; have A37 := Aside0.mk A370; clear A370
         by_cases c38 : (t511 != t515) = true
         ·rw [if_pos c38] at H
          have c38b0 : (t511 != t515) = true := c38
          (try (have c38b1 : decide (t511 = t515) = false := by simpa using c38))
          (try (have c38b2 : (t511 == t515) = false := by simpa using c38))
          (try (have c38b3 : ¬ (t511 = t515) := by simpa using c38))
          clear c38; obtain rfl := Option.some.inj H; have hcz39_0 := bc BK496.out 0; have hcz39_1 := bc BK496.out 1; have hfz39_0 := bf BK496.out 0; have hfz39_1 := bf BK496.out 1
          have p509 : 0 ≤ (x6_2 : Int) := of_decide_eq_true ad
          have q509 : x6_2 < (t492.length : Int) := of_decide_eq_true ad
          obtain ⟨ad509, e509, hx509_0, hx509_1⟩ := at_T31 (Kd.R_reads' HO_497001.out).2.2 x6_2 p509 q509
          cases e509
          replace p509 := eq_true p509; replace q509 := eq_true q509
          try go_wp2_with (first | ((with_reducible refine gate_dst (N := 7) rfl ?_); refine bx 7 (cs := #[.string (⟨#[]⟩ : ByteArray), .string (⟨#[]⟩ : ByteArray)]) (t := 31) ?_; intro gb510 hg w40 hbox hb; replace HO_5 := am (Kd.R_below (rq HO_5.out) hb); replace HO_497000 := am (Kd.R_below (rq HO_497000.out) hb); replace HO_497001 := am (Kd.R_below (Kd.R_elderB (rq HO_497001.out) gb510 (Nat.le_of_eq hg.symm)) hb); have BK510 := am (hbox); have GW510 := am ((b72_ : w.heap.size ≤ gb510)); have GE510 := am ((b72_ : w.heap.size ≤ gb510)); replace HB := am (below_step (bel1 GE496.out) hb); have NB496_510 := am ((b56_ : gb496 ≠ gb510)); have NB510_496 := am ((b57_ : gb510 ≠ gb496)); replace BK496 := am (blk_below (g := gb496) (o := .cells #[.slice Ao8 t489.length co8, .slice (some ad509) t492.length co10] 55 (0, 0)) (bq BK496.out) hb); clear hb hbox hg; have hnb41 := NB510_496.out; have hnc41 := NB496_510.out; have hcz42_0 := bc BK510.out 0; have hcz42_1 := bc BK510.out 1; have hfz42_0 := bf BK510.out 0; have hfz42_1 := bf BK510.out 1))
          have n0_ : Aside0 (Kd.R Kd.string 9 ((w40.setCell ⟨gb510, 0, none⟩ (.string ((rd_T31 t492 x6_2).f0))).setCell ⟨gb510, 1, none⟩ (.string ((rd_T31 t492 x6_2).f1))) w.heap.size (fun _ => True) v498 t497) := ⟨rq (Kd.R_mono (Kd.R_far (p := ⟨gb510, 1, none⟩) (Kd.R_far (p := ⟨gb510, 0, none⟩) (Kd.R_types HO_5.out BK510.out (by decide)) (fun _ hk => hk.2) (.string ((rd_T31 t492 x6_2).f0))) (fun _ hk => hk.2) (.string ((rd_T31 t492 x6_2).f1))) (fun _ hk => trivial))⟩
          have n1_ : Aside0 (Kd.R k44 44 ((w40.setCell ⟨gb510, 0, none⟩ (.string ((rd_T31 t492 x6_2).f0))).setCell ⟨gb510, 1, none⟩ (.string ((rd_T31 t492 x6_2).f1))) w.heap.size (fun _ => True) (.slice Ao8 t489.length co8) t489) := ⟨rq (Kd.R_mono (Kd.R_far (p := ⟨gb510, 1, none⟩) (Kd.R_far (p := ⟨gb510, 0, none⟩) (Kd.R_types HO_497000.out BK510.out (by decide)) (fun _ hk => hk.2) (.string ((rd_T31 t492 x6_2).f0))) (fun _ hk => hk.2) (.string ((rd_T31 t492 x6_2).f1))) (fun _ hk => trivial))⟩
          have n2_ : Aside0 (Kd.R k31 31 ((w40.setCell ⟨gb510, 0, none⟩ (.string ((rd_T31 t492 x6_2).f0))).setCell ⟨gb510, 1, none⟩ (.string ((rd_T31 t492 x6_2).f1))) w.heap.size (fun k_ => k_ ≠ gb510) (.slice (some ad509) t492.length co10) t492) := ⟨rq (Kd.R_mono (Kd.R_far (p := ⟨gb510, 1, none⟩) (Kd.R_far (p := ⟨gb510, 0, none⟩) (Kd.R_mono HO_497001.out (fun k_ hk => (⟨hk, hk.2⟩ : _ ∧ k_ ≠ gb510))) (fun _ hk => hk.2) (.string ((rd_T31 t492 x6_2).f0))) (fun _ hk => hk.2) (.string ((rd_T31 t492 x6_2).f1))) (fun _ hk => hk.1.2))⟩
          have n3_ : Aside0 (((w40.setCell ⟨gb510, 0, none⟩ (.string ((rd_T31 t492 x6_2).f0))).setCell ⟨gb510, 1, none⟩ (.string ((rd_T31 t492 x6_2).f1))).heap[gb496]? = some (.cells #[.slice Ao8 t489.length co8, .slice (some ad509) t492.length co10] 55 (0, 0))) := ⟨b34_⟩
          have n4_ : Aside0 (((w40.setCell ⟨gb510, 0, none⟩ (.string ((rd_T31 t492 x6_2).f0))).setCell ⟨gb510, 1, none⟩ (.string ((rd_T31 t492 x6_2).f1))).heap[gb510]? = some (.cells #[.string ((rd_T31 t492 x6_2).f0), .string ((rd_T31 t492 x6_2).f1)] 31 (0, 0))) := ⟨b25_⟩
          have n5_ : Aside0 (Below w.heap.size w ((w40.setCell ⟨gb510, 0, none⟩ (.string ((rd_T31 t492 x6_2).f0))).setCell ⟨gb510, 1, none⟩ (.string ((rd_T31 t492 x6_2).f1)))) := ⟨bel2 GE496.out GE510.out⟩
          (try clear HO_5)
          (try clear HO_497000)
          (try clear HO_497001)
          (try clear BK496)
          (try clear BK510)
          (try clear HB)
          generalize ((w40.setCell ⟨gb510, 0, none⟩ (.string ((rd_T31 t492 x6_2).f0))).setCell ⟨gb510, 1, none⟩ (.string ((rd_T31 t492 x6_2).f1))) = w43 at n0_ n1_ n2_ n3_ n4_ n5_ ⊢
          have HO_5 := n0_; have HO_497000 := n1_; have HO_497001 := n2_; have BK496 := n3_; have BK510 := n4_; have HB := n5_; clear n0_ n1_ n2_ n3_ n4_ n5_; replace HO_5 := am (Kd.R_drew HO_5.out); replace HO_497000 := am (Kd.R_drew HO_497000.out); replace HO_497001 := am (Kd.R_drew HO_497001.out); replace BK496 := am (blk_drew BK496.out); replace BK510 := am (blk_drew BK510.out); replace HB := am (below_drew1 HB.out); obtain ⟨Ao45, co45, eo45⟩ := Kd.R_slice HO_5.out
          (first | subst eo45 | (injection eo45 with f1_ f2_ f3_; have f4_ := f1_.symm; have f5_ := f3_.symm; clear f1_ f2_ f3_; subst f4_; subst f5_))
          refine st (n := 23) (S := fun w' => w'.cell? ⟨gb510, 0, none⟩ = some (.string ((rd_T31 t492 x6_2).f0)) ∧ w'.cell? ⟨gb510, 1, none⟩ = some (.string ((rd_T31 t492 x6_2).f1)) ∧ w'.cell? ⟨gb496, 0, none⟩ = some (.slice Ao8 t489.length co8) ∧ w'.cell? ⟨gb496, 1, none⟩ = some (.slice (some ad509) t492.length co10)) (ds := []) ⟨(blk_cell BK510.out 0).trans rfl, (blk_cell BK510.out 1).trans rfl, (blk_cell BK496.out 0).trans rfl, (blk_cell BK496.out 1).trans rfl⟩ (fun hHeld => ?_); refine with_tabW laws_FnBookStems.tab11 laws_FnBookStems.bits11 (fun HT_ HW_ => ?_)
          generalize w43.drew = w44 at HO_5 HO_497000 HO_497001 BK496 BK510 HB hHeld ⊢
          refine pu 0 47 ?_
          refine pu 1 48 ?_
          refine pu 4 51 ?_
          refine pu 8 55 ?_
          refine tk4 2 49 hHeld ?_
          refine tk4 5 52 hHeld ?_
          refine tk4 6 53 hHeld ?_
          refine on1 3 50 (fun K hK => ?_)
          refine goes_ Try.func29 (by kernel_rfl) rfl #[.slice Ao45 t497.length co45, .string ((rd_T31 t492 x6_2).f0)] (by rfl) rfl rfl mq ?_
          with_reducible refine (laws_mdHas.calls k2 _ _ t497 ((rd_T31 t492 x6_2).f0) t511 _ ?side1 ?side2 A35.out).mono ?_
          (case side1 => exact cq (Kd.R_reads' HO_5.out).2.2); (case side2 => exact (Kd.R_reads' HO_5.out).2.1)
          rintro e w' ⟨rfl, ⟨nd, rfl⟩⟩
          refine ⟨_, rfl, ?_⟩
          refine hK.out _ _ ⟨(blk_cell BK510.out 0).trans rfl, (blk_cell BK510.out 1).trans rfl, (blk_cell BK496.out 0).trans rfl, (blk_cell BK496.out 1).trans rfl⟩ (fun hHeld => ?_)
          clear hK K
          refine norm_ (a' := ?_) ?_ ?_
          rotate_left
          ·show Act.put _ (some 50) _ = _
           simp only [Act.put, List.setIfInBounds_toArray, List.set_cons_zero, List.set_cons_succ, i64_w, i32_w]
           rfl
          refine on1 7 54 (fun K hK => ?_)
          refine goes_ Try.func20 (by kernel_rfl) rfl #[.slice Ao8 t489.length co8, .agg #[.string ((rd_T31 t492 x6_2).f0), .string ((rd_T31 t492 x6_2).f1)]] (by rfl) rfl rfl mq ?_
          with_reducible refine (impl_Forms.calls k2 _ _ t489 ((rd_T31 t492 x6_2).f0) ((rd_T31 t492 x6_2).f1) t512 _ ?side1 ?side2 A36.out).mono ?_
          (case side1 => exact cq (Kd.R_reads' HO_497000.out).2.2); (case side2 => exact (Kd.R_reads' HO_497000.out).2.1)
          rintro e w46 ⟨v513, rfl, ho0, hb⟩
          refine ⟨_, rfl, ?_⟩
          replace HO_497000 := am (Kd.R_below (rq HO_497000.out) hb); replace HO_497001 := am (Kd.R_below (rq HO_497001.out) hb); have HO514 := am (Kd.R_lower (Kd.R_new' ho0 (Kd.R_lt (rq HO_5.out))) (below_size (bel2 GE496.out GE510.out))); replace HO_5 := am (Kd.R_elder' (rq HO_5.out) (Kd.R_base ho0) hb); replace BK496 := am (blk_below (g := gb496) (o := .cells #[.slice Ao8 t489.length co8, .slice (some ad509) t492.length co10] 55 (0, 0)) (bq BK496.out) hb); replace BK510 := am (blk_below (g := gb510) (o := .cells #[.string ((rd_T31 t492 x6_2).f0), .string ((rd_T31 t492 x6_2).f1)] 31 (0, 0)) (bq BK510.out) hb); replace HB := am (below_step (bel2 GE496.out GE510.out) hb)
          (try clear hb)
          (try clear hb2)
          (try clear hk)
          (try clear hi)
          (try clear ho0)
          obtain ⟨Ao47, co47, eo47⟩ := Kd.R_slice HO514.out
          (first | subst eo47 | (injection eo47 with f1_ f2_ f3_; have f4_ := f1_.symm; have f5_ := f3_.symm; clear f1_ f2_ f3_; subst f4_; subst f5_))
          refine hK.out _ _ ⟨(blk_cell BK510.out 0).trans rfl, (blk_cell BK510.out 1).trans rfl, (blk_cell BK496.out 0).trans rfl, (blk_cell BK496.out 1).trans rfl⟩ (fun hHeld => ?_)
          clear hK K
          refine norm_ (a' := ?_) ?_ ?_
          rotate_left
          ·show Act.put _ (some 54) _ = _
           simp only [Act.put, List.setIfInBounds_toArray, List.set_cons_zero, List.set_cons_succ, i64_w, i32_w]
           rfl
          refine on1 9 56 (fun K hK => ?_)
          refine goes_ Try.func29 (by kernel_rfl) rfl #[.slice Ao47 t512.length co47, .string t495] (by rfl) rfl rfl mq ?_
          with_reducible refine (laws_mdHas.calls k2 _ _ t512 t495 t515 _ ?side1 ?side2 A37.out).mono ?_
          (case side1 => exact cq (Kd.R_reads' HO514.out).2.2); (case side2 => exact (Kd.R_reads' HO514.out).2.1)
          rintro e w' ⟨rfl, ⟨nd, rfl⟩⟩
          refine ⟨_, rfl, ?_⟩
          refine hK.out _ _ ⟨(blk_cell BK510.out 0).trans rfl, (blk_cell BK510.out 1).trans rfl, (blk_cell BK496.out 0).trans rfl, (blk_cell BK496.out 1).trans rfl⟩ (fun hHeld => ?_)
          clear hK K
          refine norm_ (a' := ?_) ?_ ?_
          rotate_left
          ·show Act.put _ (some 56) _ = _
           simp only [Act.put, List.setIfInBounds_toArray, List.set_cons_zero, List.set_cons_succ, i64_w, i32_w]
           rfl
          refine pu 10 57 ?_
          refine pu 11 58 ?_
          refine puu 12 59 ?_
          refine puu 13 60 ?_
          refine puu 14 61 ?_
          refine puu 15 62 ?_
          refine puu 16 63 ?_
          refine puu 17 64 ?_
          refine puu 18 65 ?_
          refine puu 19 66 ?_
          refine puu 20 67 ?_
          refine puu 21 68 ?_
          refine pu 22 69 ?_
          refine done_ (done_of HT_.out (by kernel_rfl)) ?_
          try go_wp2
          go_ret
          exact ⟨eq_, bel2 GE496.out GE510.out⟩
         ·rw [if_neg c38] at H
          have c38b0 : (t511 != t515) = false := by simpa using c38
          (try (have c38b1 : decide (t511 = t515) = true := by simpa using c38))
          (try (have c38b2 : (t511 == t515) = true := by simpa using c38))
          clear c38
          by_cases c48 : ((rd_T31 t492 x6_2).f0).toList = t495.toList
          ·rw [if_pos c48] at H
           have c48b0 : (((rd_T31 t492 x6_2).f0).toList == t495.toList) = true := beq_iff_eq.mpr c48
           have c48b1 : (((rd_T31 t492 x6_2).f0).toList != t495.toList) = false := bne_eq_false_iff_eq.mpr c48
           clear c48; replace H := Option.bind_eq_some_iff.mp H; obtain ⟨t516, A490, H⟩ := H; replace H : (if t516 = true then (laws_FnBookStems.l0 k2 t495 t497 (wrap64 (x6_2 + 1)) t489 t492) else (some false)) = some r := H; have A49 := Aside0.mk A490; clear A490
           by_cases c50 : t516 = true
           ·subst c50
            have H1 : (laws_FnBookStems.l0 k2 t495 t497 (wrap64 (x6_2 + 1)) t489 t492) = some r := b36_
            replace H := H1; clear H1
            have H' := am H
            clear H; have hcz51_0 := bc BK496.out 0; have hcz51_1 := bc BK496.out 1; have hfz51_0 := bf BK496.out 0; have hfz51_1 := bf BK496.out 1
            have p509 : 0 ≤ (x6_2 : Int) := of_decide_eq_true ad
            have q509 : x6_2 < (t492.length : Int) := of_decide_eq_true ad
            obtain ⟨ad509, e509, hx509_0, hx509_1⟩ := at_T31 (Kd.R_reads' HO_497001.out).2.2 x6_2 p509 q509
            cases e509
            replace p509 := eq_true p509; replace q509 := eq_true q509
            try go_wp2_with (first | ((with_reducible refine gate_dst (N := 7) rfl ?_); refine bx 7 (cs := #[.string (⟨#[]⟩ : ByteArray), .string (⟨#[]⟩ : ByteArray)]) (t := 31) ?_; intro gb510 hg w52 hbox hb; replace HO_5 := am (Kd.R_below (rq HO_5.out) hb); replace HO_497000 := am (Kd.R_below (rq HO_497000.out) hb); replace HO_497001 := am (Kd.R_below (Kd.R_elderB (rq HO_497001.out) gb510 (Nat.le_of_eq hg.symm)) hb); have BK510 := am (hbox); have GW510 := am ((b72_ : w.heap.size ≤ gb510)); have GE510 := am ((b72_ : w.heap.size ≤ gb510)); replace HB := am (below_step (bel1 GE496.out) hb); have NB496_510 := am ((b56_ : gb496 ≠ gb510)); have NB510_496 := am ((b57_ : gb510 ≠ gb496)); replace BK496 := am (blk_below (g := gb496) (o := .cells #[.slice Ao8 t489.length co8, .slice (some ad509) t492.length co10] 55 (0, 0)) (bq BK496.out) hb); clear hb hbox hg; have hnb53 := NB510_496.out; have hnc53 := NB496_510.out; have hcz54_0 := bc BK510.out 0; have hcz54_1 := bc BK510.out 1; have hfz54_0 := bf BK510.out 0; have hfz54_1 := bf BK510.out 1))
            have n0_ : Aside0 (Kd.R Kd.string 9 ((w52.setCell ⟨gb510, 0, none⟩ (.string ((rd_T31 t492 x6_2).f0))).setCell ⟨gb510, 1, none⟩ (.string ((rd_T31 t492 x6_2).f1))) w.heap.size (fun _ => True) v498 t497) := ⟨rq (Kd.R_mono (Kd.R_far (p := ⟨gb510, 1, none⟩) (Kd.R_far (p := ⟨gb510, 0, none⟩) (Kd.R_types HO_5.out BK510.out (by decide)) (fun _ hk => hk.2) (.string ((rd_T31 t492 x6_2).f0))) (fun _ hk => hk.2) (.string ((rd_T31 t492 x6_2).f1))) (fun _ hk => trivial))⟩
            have n1_ : Aside0 (Kd.R k44 44 ((w52.setCell ⟨gb510, 0, none⟩ (.string ((rd_T31 t492 x6_2).f0))).setCell ⟨gb510, 1, none⟩ (.string ((rd_T31 t492 x6_2).f1))) w.heap.size (fun _ => True) (.slice Ao8 t489.length co8) t489) := ⟨rq (Kd.R_mono (Kd.R_far (p := ⟨gb510, 1, none⟩) (Kd.R_far (p := ⟨gb510, 0, none⟩) (Kd.R_types HO_497000.out BK510.out (by decide)) (fun _ hk => hk.2) (.string ((rd_T31 t492 x6_2).f0))) (fun _ hk => hk.2) (.string ((rd_T31 t492 x6_2).f1))) (fun _ hk => trivial))⟩
            have n2_ : Aside0 (Kd.R k31 31 ((w52.setCell ⟨gb510, 0, none⟩ (.string ((rd_T31 t492 x6_2).f0))).setCell ⟨gb510, 1, none⟩ (.string ((rd_T31 t492 x6_2).f1))) w.heap.size (fun k_ => k_ ≠ gb510) (.slice (some ad509) t492.length co10) t492) := ⟨rq (Kd.R_mono (Kd.R_far (p := ⟨gb510, 1, none⟩) (Kd.R_far (p := ⟨gb510, 0, none⟩) (Kd.R_mono HO_497001.out (fun k_ hk => (⟨hk, hk.2⟩ : _ ∧ k_ ≠ gb510))) (fun _ hk => hk.2) (.string ((rd_T31 t492 x6_2).f0))) (fun _ hk => hk.2) (.string ((rd_T31 t492 x6_2).f1))) (fun _ hk => hk.1.2))⟩
            have n3_ : Aside0 (((w52.setCell ⟨gb510, 0, none⟩ (.string ((rd_T31 t492 x6_2).f0))).setCell ⟨gb510, 1, none⟩ (.string ((rd_T31 t492 x6_2).f1))).heap[gb496]? = some (.cells #[.slice Ao8 t489.length co8, .slice (some ad509) t492.length co10] 55 (0, 0))) := ⟨b34_⟩
            have n4_ : Aside0 (((w52.setCell ⟨gb510, 0, none⟩ (.string ((rd_T31 t492 x6_2).f0))).setCell ⟨gb510, 1, none⟩ (.string ((rd_T31 t492 x6_2).f1))).heap[gb510]? = some (.cells #[.string ((rd_T31 t492 x6_2).f0), .string ((rd_T31 t492 x6_2).f1)] 31 (0, 0))) := ⟨b25_⟩
            have n5_ : Aside0 (Below w.heap.size w ((w52.setCell ⟨gb510, 0, none⟩ (.string ((rd_T31 t492 x6_2).f0))).setCell ⟨gb510, 1, none⟩ (.string ((rd_T31 t492 x6_2).f1)))) := ⟨bel2 GE496.out GE510.out⟩
            (try clear HO_5)
            (try clear HO_497000)
            (try clear HO_497001)
            (try clear BK496)
            (try clear BK510)
            (try clear HB)
            generalize ((w52.setCell ⟨gb510, 0, none⟩ (.string ((rd_T31 t492 x6_2).f0))).setCell ⟨gb510, 1, none⟩ (.string ((rd_T31 t492 x6_2).f1))) = w55 at n0_ n1_ n2_ n3_ n4_ n5_ ⊢
            have HO_5 := n0_; have HO_497000 := n1_; have HO_497001 := n2_; have BK496 := n3_; have BK510 := n4_; have HB := n5_; clear n0_ n1_ n2_ n3_ n4_ n5_; replace HO_5 := am (Kd.R_drew HO_5.out); replace HO_497000 := am (Kd.R_drew HO_497000.out); replace HO_497001 := am (Kd.R_drew HO_497001.out); replace BK496 := am (blk_drew BK496.out); replace BK510 := am (blk_drew BK510.out); replace HB := am (below_drew1 HB.out); obtain ⟨Ao57, co57, eo57⟩ := Kd.R_slice HO_5.out
            (first | subst eo57 | (injection eo57 with f1_ f2_ f3_; have f4_ := f1_.symm; have f5_ := f3_.symm; clear f1_ f2_ f3_; subst f4_; subst f5_))
            refine st (n := 23) (S := fun w' => w'.cell? ⟨gb510, 0, none⟩ = some (.string ((rd_T31 t492 x6_2).f0)) ∧ w'.cell? ⟨gb510, 1, none⟩ = some (.string ((rd_T31 t492 x6_2).f1)) ∧ w'.cell? ⟨gb496, 0, none⟩ = some (.slice Ao8 t489.length co8) ∧ w'.cell? ⟨gb496, 1, none⟩ = some (.slice (some ad509) t492.length co10)) (ds := []) ⟨(blk_cell BK510.out 0).trans rfl, (blk_cell BK510.out 1).trans rfl, (blk_cell BK496.out 0).trans rfl, (blk_cell BK496.out 1).trans rfl⟩ (fun hHeld => ?_); refine with_tabW laws_FnBookStems.tab11 laws_FnBookStems.bits11 (fun HT_ HW_ => ?_)
            generalize w55.drew = w56 at HO_5 HO_497000 HO_497001 BK496 BK510 HB hHeld ⊢
            refine pu 0 47 ?_
            refine pu 1 48 ?_
            refine pu 4 51 ?_
            refine pu 8 55 ?_
            refine tk4 2 49 hHeld ?_
            refine tk4 5 52 hHeld ?_
            refine tk4 6 53 hHeld ?_
            refine on1 3 50 (fun K hK => ?_)
            refine goes_ Try.func29 (by kernel_rfl) rfl #[.slice Ao57 t497.length co57, .string ((rd_T31 t492 x6_2).f0)] (by rfl) rfl rfl mq ?_
            with_reducible refine (laws_mdHas.calls k2 _ _ t497 ((rd_T31 t492 x6_2).f0) t511 _ ?side1 ?side2 A35.out).mono ?_
            (case side1 => exact cq (Kd.R_reads' HO_5.out).2.2); (case side2 => exact (Kd.R_reads' HO_5.out).2.1)
            rintro e w' ⟨rfl, ⟨nd, rfl⟩⟩
            refine ⟨_, rfl, ?_⟩
            refine hK.out _ _ ⟨(blk_cell BK510.out 0).trans rfl, (blk_cell BK510.out 1).trans rfl, (blk_cell BK496.out 0).trans rfl, (blk_cell BK496.out 1).trans rfl⟩ (fun hHeld => ?_)
            clear hK K
            refine norm_ (a' := ?_) ?_ ?_
            rotate_left
            ·show Act.put _ (some 50) _ = _
             simp only [Act.put, List.setIfInBounds_toArray, List.set_cons_zero, List.set_cons_succ, i64_w, i32_w]
             rfl
            refine on1 7 54 (fun K hK => ?_)
            refine goes_ Try.func20 (by kernel_rfl) rfl #[.slice Ao8 t489.length co8, .agg #[.string ((rd_T31 t492 x6_2).f0), .string ((rd_T31 t492 x6_2).f1)]] (by rfl) rfl rfl mq ?_
            with_reducible refine (impl_Forms.calls k2 _ _ t489 ((rd_T31 t492 x6_2).f0) ((rd_T31 t492 x6_2).f1) t512 _ ?side1 ?side2 A36.out).mono ?_
            (case side1 => exact cq (Kd.R_reads' HO_497000.out).2.2); (case side2 => exact (Kd.R_reads' HO_497000.out).2.1)
            rintro e w58 ⟨v513, rfl, ho0, hb⟩
            refine ⟨_, rfl, ?_⟩
            replace HO_497000 := am (Kd.R_below (rq HO_497000.out) hb); replace HO_497001 := am (Kd.R_below (rq HO_497001.out) hb); have HO514 := am (Kd.R_lower (Kd.R_new' ho0 (Kd.R_lt (rq HO_5.out))) (below_size (bel2 GE496.out GE510.out))); replace HO_5 := am (Kd.R_elder' (rq HO_5.out) (Kd.R_base ho0) hb); replace BK496 := am (blk_below (g := gb496) (o := .cells #[.slice Ao8 t489.length co8, .slice (some ad509) t492.length co10] 55 (0, 0)) (bq BK496.out) hb); replace BK510 := am (blk_below (g := gb510) (o := .cells #[.string ((rd_T31 t492 x6_2).f0), .string ((rd_T31 t492 x6_2).f1)] 31 (0, 0)) (bq BK510.out) hb); replace HB := am (below_step (bel2 GE496.out GE510.out) hb)
            (try clear hb)
            (try clear hb2)
            (try clear hk)
            (try clear hi)
            (try clear ho0)
            obtain ⟨Ao59, co59, eo59⟩ := Kd.R_slice HO514.out
            (first | subst eo59 | (injection eo59 with f1_ f2_ f3_; have f4_ := f1_.symm; have f5_ := f3_.symm; clear f1_ f2_ f3_; subst f4_; subst f5_))
            refine hK.out _ _ ⟨(blk_cell BK510.out 0).trans rfl, (blk_cell BK510.out 1).trans rfl, (blk_cell BK496.out 0).trans rfl, (blk_cell BK496.out 1).trans rfl⟩ (fun hHeld => ?_)
            clear hK K
            refine norm_ (a' := ?_) ?_ ?_
            rotate_left
            ·show Act.put _ (some 54) _ = _
             simp only [Act.put, List.setIfInBounds_toArray, List.set_cons_zero, List.set_cons_succ, i64_w, i32_w]
             rfl
            refine on1 9 56 (fun K hK => ?_)
            refine goes_ Try.func29 (by kernel_rfl) rfl #[.slice Ao59 t512.length co59, .string t495] (by rfl) rfl rfl mq ?_
            with_reducible refine (laws_mdHas.calls k2 _ _ t512 t495 t515 _ ?side1 ?side2 A37.out).mono ?_
            (case side1 => exact cq (Kd.R_reads' HO514.out).2.2); (case side2 => exact (Kd.R_reads' HO514.out).2.1)
            rintro e w' ⟨rfl, ⟨nd, rfl⟩⟩
            refine ⟨_, rfl, ?_⟩
            refine hK.out _ _ ⟨(blk_cell BK510.out 0).trans rfl, (blk_cell BK510.out 1).trans rfl, (blk_cell BK496.out 0).trans rfl, (blk_cell BK496.out 1).trans rfl⟩ (fun hHeld => ?_)
            clear hK K
            refine norm_ (a' := ?_) ?_ ?_
            rotate_left
            ·show Act.put _ (some 56) _ = _
             simp only [Act.put, List.setIfInBounds_toArray, List.set_cons_zero, List.set_cons_succ, i64_w, i32_w]
             rfl
            refine pu 10 57 ?_
            refine pu 11 58 ?_
            refine pu 12 59 ?_
            refine pu 14 61 ?_
            refine tk4 13 60 hHeld ?_
            refine pu 15 62 ?_
            refine pu 16 63 ?_
            refine pu 17 64 ?_
            refine pu 18 65 ?_
            refine on1 19 66 (fun K hK => ?_)
            refine goes_ Try.func29 (by kernel_rfl) rfl #[.slice Ao57 t497.length co57, .string t495] (by rfl) rfl rfl mq ?_
            with_reducible refine (laws_mdHas.calls k2 _ _ t497 t495 true _ ?side1 ?side2 A49.out).mono ?_
            (case side1 => exact cq (Kd.R_reads' HO_5.out).2.2); (case side2 => exact (Kd.R_reads' HO_5.out).2.1)
            rintro e w' ⟨rfl, ⟨nd, rfl⟩⟩
            refine ⟨_, rfl, ?_⟩
            refine hK.out _ _ ⟨(blk_cell BK510.out 0).trans rfl, (blk_cell BK510.out 1).trans rfl, (blk_cell BK496.out 0).trans rfl, (blk_cell BK496.out 1).trans rfl⟩ (fun hHeld => ?_)
            clear hK K
            refine norm_ (a' := ?_) ?_ ?_
            rotate_left
            ·show Act.put _ (some 66) _ = _
             simp only [Act.put, List.setIfInBounds_toArray, List.set_cons_zero, List.set_cons_succ, i64_w, i32_w]
             rfl
            refine pu 20 67 ?_
            refine pu 21 68 ?_
            refine pu 22 69 ?_
            refine done_ (done_of HT_.out (by kernel_rfl)) ?_
            try go_wp2
            go_roundg k2
            case measure => have := HJ4.out; have := HK2.out; omega
            case rel => exact ⟨(wrap64 (x6_2 + 1)), sq, H', ⟨by have := HJ4.out; have := HK2.out; omega⟩, ⟨rq (Kd.R_mono HO_5.out (fun _ hk => trivial))⟩, ⟨rq HO_497000.out⟩, ⟨rq (Kd.R_mono HO_497001.out (fun _ hk => trivial))⟩, ⟨bq BK496.out⟩, ⟨bel2 GE496.out GE510.out⟩⟩
           ·replace c50 := Bool.eq_false_iff.mpr c50; subst c50
            have H1 : (some false) = some r := b18_
            replace H := H1; clear H1
            obtain rfl := Option.some.inj H; have hcz60_0 := bc BK496.out 0; have hcz60_1 := bc BK496.out 1; have hfz60_0 := bf BK496.out 0; have hfz60_1 := bf BK496.out 1
            have p509 : 0 ≤ (x6_2 : Int) := of_decide_eq_true ad
            have q509 : x6_2 < (t492.length : Int) := of_decide_eq_true ad
            obtain ⟨ad509, e509, hx509_0, hx509_1⟩ := at_T31 (Kd.R_reads' HO_497001.out).2.2 x6_2 p509 q509
            cases e509
            replace p509 := eq_true p509; replace q509 := eq_true q509
            try go_wp2_with (first | ((with_reducible refine gate_dst (N := 7) rfl ?_); refine bx 7 (cs := #[.string (⟨#[]⟩ : ByteArray), .string (⟨#[]⟩ : ByteArray)]) (t := 31) ?_; intro gb510 hg w61 hbox hb; replace HO_5 := am (Kd.R_below (rq HO_5.out) hb); replace HO_497000 := am (Kd.R_below (rq HO_497000.out) hb); replace HO_497001 := am (Kd.R_below (Kd.R_elderB (rq HO_497001.out) gb510 (Nat.le_of_eq hg.symm)) hb); have BK510 := am (hbox); have GW510 := am ((b72_ : w.heap.size ≤ gb510)); have GE510 := am ((b72_ : w.heap.size ≤ gb510)); replace HB := am (below_step (bel1 GE496.out) hb); have NB496_510 := am ((b56_ : gb496 ≠ gb510)); have NB510_496 := am ((b57_ : gb510 ≠ gb496)); replace BK496 := am (blk_below (g := gb496) (o := .cells #[.slice Ao8 t489.length co8, .slice (some ad509) t492.length co10] 55 (0, 0)) (bq BK496.out) hb); clear hb hbox hg; have hnb62 := NB510_496.out; have hnc62 := NB496_510.out; have hcz63_0 := bc BK510.out 0; have hcz63_1 := bc BK510.out 1; have hfz63_0 := bf BK510.out 0; have hfz63_1 := bf BK510.out 1))
            have n0_ : Aside0 (Kd.R Kd.string 9 ((w61.setCell ⟨gb510, 0, none⟩ (.string ((rd_T31 t492 x6_2).f0))).setCell ⟨gb510, 1, none⟩ (.string ((rd_T31 t492 x6_2).f1))) w.heap.size (fun _ => True) v498 t497) := ⟨rq (Kd.R_mono (Kd.R_far (p := ⟨gb510, 1, none⟩) (Kd.R_far (p := ⟨gb510, 0, none⟩) (Kd.R_types HO_5.out BK510.out (by decide)) (fun _ hk => hk.2) (.string ((rd_T31 t492 x6_2).f0))) (fun _ hk => hk.2) (.string ((rd_T31 t492 x6_2).f1))) (fun _ hk => trivial))⟩
            have n1_ : Aside0 (Kd.R k44 44 ((w61.setCell ⟨gb510, 0, none⟩ (.string ((rd_T31 t492 x6_2).f0))).setCell ⟨gb510, 1, none⟩ (.string ((rd_T31 t492 x6_2).f1))) w.heap.size (fun _ => True) (.slice Ao8 t489.length co8) t489) := ⟨rq (Kd.R_mono (Kd.R_far (p := ⟨gb510, 1, none⟩) (Kd.R_far (p := ⟨gb510, 0, none⟩) (Kd.R_types HO_497000.out BK510.out (by decide)) (fun _ hk => hk.2) (.string ((rd_T31 t492 x6_2).f0))) (fun _ hk => hk.2) (.string ((rd_T31 t492 x6_2).f1))) (fun _ hk => trivial))⟩
            have n2_ : Aside0 (Kd.R k31 31 ((w61.setCell ⟨gb510, 0, none⟩ (.string ((rd_T31 t492 x6_2).f0))).setCell ⟨gb510, 1, none⟩ (.string ((rd_T31 t492 x6_2).f1))) w.heap.size (fun k_ => k_ ≠ gb510) (.slice (some ad509) t492.length co10) t492) := ⟨rq (Kd.R_mono (Kd.R_far (p := ⟨gb510, 1, none⟩) (Kd.R_far (p := ⟨gb510, 0, none⟩) (Kd.R_mono HO_497001.out (fun k_ hk => (⟨hk, hk.2⟩ : _ ∧ k_ ≠ gb510))) (fun _ hk => hk.2) (.string ((rd_T31 t492 x6_2).f0))) (fun _ hk => hk.2) (.string ((rd_T31 t492 x6_2).f1))) (fun _ hk => hk.1.2))⟩
            have n3_ : Aside0 (((w61.setCell ⟨gb510, 0, none⟩ (.string ((rd_T31 t492 x6_2).f0))).setCell ⟨gb510, 1, none⟩ (.string ((rd_T31 t492 x6_2).f1))).heap[gb496]? = some (.cells #[.slice Ao8 t489.length co8, .slice (some ad509) t492.length co10] 55 (0, 0))) := ⟨b34_⟩
            have n4_ : Aside0 (((w61.setCell ⟨gb510, 0, none⟩ (.string ((rd_T31 t492 x6_2).f0))).setCell ⟨gb510, 1, none⟩ (.string ((rd_T31 t492 x6_2).f1))).heap[gb510]? = some (.cells #[.string ((rd_T31 t492 x6_2).f0), .string ((rd_T31 t492 x6_2).f1)] 31 (0, 0))) := ⟨b25_⟩
            have n5_ : Aside0 (Below w.heap.size w ((w61.setCell ⟨gb510, 0, none⟩ (.string ((rd_T31 t492 x6_2).f0))).setCell ⟨gb510, 1, none⟩ (.string ((rd_T31 t492 x6_2).f1)))) := ⟨bel2 GE496.out GE510.out⟩
            (try clear HO_5)
            (try clear HO_497000)
            (try clear HO_497001)
            (try clear BK496)
            (try clear BK510)
            (try clear HB)
            generalize ((w61.setCell ⟨gb510, 0, none⟩ (.string ((rd_T31 t492 x6_2).f0))).setCell ⟨gb510, 1, none⟩ (.string ((rd_T31 t492 x6_2).f1))) = w64 at n0_ n1_ n2_ n3_ n4_ n5_ ⊢
            have HO_5 := n0_; have HO_497000 := n1_; have HO_497001 := n2_; have BK496 := n3_; have BK510 := n4_; have HB := n5_; clear n0_ n1_ n2_ n3_ n4_ n5_; replace HO_5 := am (Kd.R_drew HO_5.out); replace HO_497000 := am (Kd.R_drew HO_497000.out); replace HO_497001 := am (Kd.R_drew HO_497001.out); replace BK496 := am (blk_drew BK496.out); replace BK510 := am (blk_drew BK510.out); replace HB := am (below_drew1 HB.out); obtain ⟨Ao66, co66, eo66⟩ := Kd.R_slice HO_5.out
            (first | subst eo66 | (injection eo66 with f1_ f2_ f3_; have f4_ := f1_.symm; have f5_ := f3_.symm; clear f1_ f2_ f3_; subst f4_; subst f5_))
            refine st (n := 23) (S := fun w' => w'.cell? ⟨gb510, 0, none⟩ = some (.string ((rd_T31 t492 x6_2).f0)) ∧ w'.cell? ⟨gb510, 1, none⟩ = some (.string ((rd_T31 t492 x6_2).f1)) ∧ w'.cell? ⟨gb496, 0, none⟩ = some (.slice Ao8 t489.length co8) ∧ w'.cell? ⟨gb496, 1, none⟩ = some (.slice (some ad509) t492.length co10)) (ds := []) ⟨(blk_cell BK510.out 0).trans rfl, (blk_cell BK510.out 1).trans rfl, (blk_cell BK496.out 0).trans rfl, (blk_cell BK496.out 1).trans rfl⟩ (fun hHeld => ?_); refine with_tabW laws_FnBookStems.tab11 laws_FnBookStems.bits11 (fun HT_ HW_ => ?_)
            generalize w64.drew = w65 at HO_5 HO_497000 HO_497001 BK496 BK510 HB hHeld ⊢
            refine pu 0 47 ?_
            refine pu 1 48 ?_
            refine pu 4 51 ?_
            refine pu 8 55 ?_
            refine tk4 2 49 hHeld ?_
            refine tk4 5 52 hHeld ?_
            refine tk4 6 53 hHeld ?_
            refine on1 3 50 (fun K hK => ?_)
            refine goes_ Try.func29 (by kernel_rfl) rfl #[.slice Ao66 t497.length co66, .string ((rd_T31 t492 x6_2).f0)] (by rfl) rfl rfl mq ?_
            with_reducible refine (laws_mdHas.calls k2 _ _ t497 ((rd_T31 t492 x6_2).f0) t511 _ ?side1 ?side2 A35.out).mono ?_
            (case side1 => exact cq (Kd.R_reads' HO_5.out).2.2); (case side2 => exact (Kd.R_reads' HO_5.out).2.1)
            rintro e w' ⟨rfl, ⟨nd, rfl⟩⟩
            refine ⟨_, rfl, ?_⟩
            refine hK.out _ _ ⟨(blk_cell BK510.out 0).trans rfl, (blk_cell BK510.out 1).trans rfl, (blk_cell BK496.out 0).trans rfl, (blk_cell BK496.out 1).trans rfl⟩ (fun hHeld => ?_)
            clear hK K
            refine norm_ (a' := ?_) ?_ ?_
            rotate_left
            ·show Act.put _ (some 50) _ = _
             simp only [Act.put, List.setIfInBounds_toArray, List.set_cons_zero, List.set_cons_succ, i64_w, i32_w]
             rfl
            refine on1 7 54 (fun K hK => ?_)
            refine goes_ Try.func20 (by kernel_rfl) rfl #[.slice Ao8 t489.length co8, .agg #[.string ((rd_T31 t492 x6_2).f0), .string ((rd_T31 t492 x6_2).f1)]] (by rfl) rfl rfl mq ?_
            with_reducible refine (impl_Forms.calls k2 _ _ t489 ((rd_T31 t492 x6_2).f0) ((rd_T31 t492 x6_2).f1) t512 _ ?side1 ?side2 A36.out).mono ?_
            (case side1 => exact cq (Kd.R_reads' HO_497000.out).2.2); (case side2 => exact (Kd.R_reads' HO_497000.out).2.1)
            rintro e w67 ⟨v513, rfl, ho0, hb⟩
            refine ⟨_, rfl, ?_⟩
            replace HO_497000 := am (Kd.R_below (rq HO_497000.out) hb); replace HO_497001 := am (Kd.R_below (rq HO_497001.out) hb); have HO514 := am (Kd.R_lower (Kd.R_new' ho0 (Kd.R_lt (rq HO_5.out))) (below_size (bel2 GE496.out GE510.out))); replace HO_5 := am (Kd.R_elder' (rq HO_5.out) (Kd.R_base ho0) hb); replace BK496 := am (blk_below (g := gb496) (o := .cells #[.slice Ao8 t489.length co8, .slice (some ad509) t492.length co10] 55 (0, 0)) (bq BK496.out) hb); replace BK510 := am (blk_below (g := gb510) (o := .cells #[.string ((rd_T31 t492 x6_2).f0), .string ((rd_T31 t492 x6_2).f1)] 31 (0, 0)) (bq BK510.out) hb); replace HB := am (below_step (bel2 GE496.out GE510.out) hb)
            (try clear hb)
            (try clear hb2)
            (try clear hk)
            (try clear hi)
            (try clear ho0)
            obtain ⟨Ao68, co68, eo68⟩ := Kd.R_slice HO514.out
            (first | subst eo68 | (injection eo68 with f1_ f2_ f3_; have f4_ := f1_.symm; have f5_ := f3_.symm; clear f1_ f2_ f3_; subst f4_; subst f5_))
            refine hK.out _ _ ⟨(blk_cell BK510.out 0).trans rfl, (blk_cell BK510.out 1).trans rfl, (blk_cell BK496.out 0).trans rfl, (blk_cell BK496.out 1).trans rfl⟩ (fun hHeld => ?_)
            clear hK K
            refine norm_ (a' := ?_) ?_ ?_
            rotate_left
            ·show Act.put _ (some 54) _ = _
             simp only [Act.put, List.setIfInBounds_toArray, List.set_cons_zero, List.set_cons_succ, i64_w, i32_w]
             rfl
            refine on1 9 56 (fun K hK => ?_)
            refine goes_ Try.func29 (by kernel_rfl) rfl #[.slice Ao68 t512.length co68, .string t495] (by rfl) rfl rfl mq ?_
            with_reducible refine (laws_mdHas.calls k2 _ _ t512 t495 t515 _ ?side1 ?side2 A37.out).mono ?_
            (case side1 => exact cq (Kd.R_reads' HO514.out).2.2); (case side2 => exact (Kd.R_reads' HO514.out).2.1)
            rintro e w' ⟨rfl, ⟨nd, rfl⟩⟩
            refine ⟨_, rfl, ?_⟩
            refine hK.out _ _ ⟨(blk_cell BK510.out 0).trans rfl, (blk_cell BK510.out 1).trans rfl, (blk_cell BK496.out 0).trans rfl, (blk_cell BK496.out 1).trans rfl⟩ (fun hHeld => ?_)
            clear hK K
            refine norm_ (a' := ?_) ?_ ?_
            rotate_left
            ·show Act.put _ (some 56) _ = _
             simp only [Act.put, List.setIfInBounds_toArray, List.set_cons_zero, List.set_cons_succ, i64_w, i32_w]
             rfl
            refine pu 10 57 ?_
            refine pu 11 58 ?_
            refine pu 12 59 ?_
            refine pu 14 61 ?_
            refine tk4 13 60 hHeld ?_
            refine pu 15 62 ?_
            refine pu 16 63 ?_
            refine pu 17 64 ?_
            refine pu 18 65 ?_
            refine on1 19 66 (fun K hK => ?_)
            refine goes_ Try.func29 (by kernel_rfl) rfl #[.slice Ao66 t497.length co66, .string t495] (by rfl) rfl rfl mq ?_
            with_reducible refine (laws_mdHas.calls k2 _ _ t497 t495 false _ ?side1 ?side2 A49.out).mono ?_
            (case side1 => exact cq (Kd.R_reads' HO_5.out).2.2); (case side2 => exact (Kd.R_reads' HO_5.out).2.1)
            rintro e w' ⟨rfl, ⟨nd, rfl⟩⟩
            refine ⟨_, rfl, ?_⟩
            refine hK.out _ _ ⟨(blk_cell BK510.out 0).trans rfl, (blk_cell BK510.out 1).trans rfl, (blk_cell BK496.out 0).trans rfl, (blk_cell BK496.out 1).trans rfl⟩ (fun hHeld => ?_)
            clear hK K
            refine norm_ (a' := ?_) ?_ ?_
            rotate_left
            ·show Act.put _ (some 66) _ = _
             simp only [Act.put, List.setIfInBounds_toArray, List.set_cons_zero, List.set_cons_succ, i64_w, i32_w]
             rfl
            refine pu 20 67 ?_
            refine pu 21 68 ?_
            refine pu 22 69 ?_
            refine done_ (done_of HT_.out (by kernel_rfl)) ?_
            try go_wp2
            go_ret
            exact ⟨eq_, bel2 GE496.out GE510.out⟩
          ·rw [if_neg c48] at H
           have c48b0 : (((rd_T31 t492 x6_2).f0).toList == t495.toList) = false := beq_eq_false_iff_ne.mpr c48
           have c48b1 : (((rd_T31 t492 x6_2).f0).toList != t495.toList) = true := bne_iff_ne.mpr c48
           have H' := am H
           clear H; have hcz69_0 := bc BK496.out 0; have hcz69_1 := bc BK496.out 1; have hfz69_0 := bf BK496.out 0; have hfz69_1 := bf BK496.out 1
           have p509 : 0 ≤ (x6_2 : Int) := of_decide_eq_true ad
           have q509 : x6_2 < (t492.length : Int) := of_decide_eq_true ad
           obtain ⟨ad509, e509, hx509_0, hx509_1⟩ := at_T31 (Kd.R_reads' HO_497001.out).2.2 x6_2 p509 q509
           cases e509
           replace p509 := eq_true p509; replace q509 := eq_true q509
           try go_wp2_with (first | ((with_reducible refine gate_dst (N := 7) rfl ?_); refine bx 7 (cs := #[.string (⟨#[]⟩ : ByteArray), .string (⟨#[]⟩ : ByteArray)]) (t := 31) ?_; intro gb510 hg w70 hbox hb; replace HO_5 := am (Kd.R_below (rq HO_5.out) hb); replace HO_497000 := am (Kd.R_below (rq HO_497000.out) hb); replace HO_497001 := am (Kd.R_below (Kd.R_elderB (rq HO_497001.out) gb510 (Nat.le_of_eq hg.symm)) hb); have BK510 := am (hbox); have GW510 := am ((b72_ : w.heap.size ≤ gb510)); have GE510 := am ((b72_ : w.heap.size ≤ gb510)); replace HB := am (below_step (bel1 GE496.out) hb); have NB496_510 := am ((b56_ : gb496 ≠ gb510)); have NB510_496 := am ((b57_ : gb510 ≠ gb496)); replace BK496 := am (blk_below (g := gb496) (o := .cells #[.slice Ao8 t489.length co8, .slice (some ad509) t492.length co10] 55 (0, 0)) (bq BK496.out) hb); clear hb hbox hg; have hnb71 := NB510_496.out; have hnc71 := NB496_510.out; have hcz72_0 := bc BK510.out 0; have hcz72_1 := bc BK510.out 1; have hfz72_0 := bf BK510.out 0; have hfz72_1 := bf BK510.out 1))
           have n0_ : Aside0 (Kd.R Kd.string 9 ((w70.setCell ⟨gb510, 0, none⟩ (.string ((rd_T31 t492 x6_2).f0))).setCell ⟨gb510, 1, none⟩ (.string ((rd_T31 t492 x6_2).f1))) w.heap.size (fun _ => True) v498 t497) := ⟨rq (Kd.R_mono (Kd.R_far (p := ⟨gb510, 1, none⟩) (Kd.R_far (p := ⟨gb510, 0, none⟩) (Kd.R_types HO_5.out BK510.out (by decide)) (fun _ hk => hk.2) (.string ((rd_T31 t492 x6_2).f0))) (fun _ hk => hk.2) (.string ((rd_T31 t492 x6_2).f1))) (fun _ hk => trivial))⟩
           have n1_ : Aside0 (Kd.R k44 44 ((w70.setCell ⟨gb510, 0, none⟩ (.string ((rd_T31 t492 x6_2).f0))).setCell ⟨gb510, 1, none⟩ (.string ((rd_T31 t492 x6_2).f1))) w.heap.size (fun _ => True) (.slice Ao8 t489.length co8) t489) := ⟨rq (Kd.R_mono (Kd.R_far (p := ⟨gb510, 1, none⟩) (Kd.R_far (p := ⟨gb510, 0, none⟩) (Kd.R_types HO_497000.out BK510.out (by decide)) (fun _ hk => hk.2) (.string ((rd_T31 t492 x6_2).f0))) (fun _ hk => hk.2) (.string ((rd_T31 t492 x6_2).f1))) (fun _ hk => trivial))⟩
           have n2_ : Aside0 (Kd.R k31 31 ((w70.setCell ⟨gb510, 0, none⟩ (.string ((rd_T31 t492 x6_2).f0))).setCell ⟨gb510, 1, none⟩ (.string ((rd_T31 t492 x6_2).f1))) w.heap.size (fun k_ => k_ ≠ gb510) (.slice (some ad509) t492.length co10) t492) := ⟨rq (Kd.R_mono (Kd.R_far (p := ⟨gb510, 1, none⟩) (Kd.R_far (p := ⟨gb510, 0, none⟩) (Kd.R_mono HO_497001.out (fun k_ hk => (⟨hk, hk.2⟩ : _ ∧ k_ ≠ gb510))) (fun _ hk => hk.2) (.string ((rd_T31 t492 x6_2).f0))) (fun _ hk => hk.2) (.string ((rd_T31 t492 x6_2).f1))) (fun _ hk => hk.1.2))⟩
           have n3_ : Aside0 (((w70.setCell ⟨gb510, 0, none⟩ (.string ((rd_T31 t492 x6_2).f0))).setCell ⟨gb510, 1, none⟩ (.string ((rd_T31 t492 x6_2).f1))).heap[gb496]? = some (.cells #[.slice Ao8 t489.length co8, .slice (some ad509) t492.length co10] 55 (0, 0))) := ⟨b34_⟩
           have n4_ : Aside0 (((w70.setCell ⟨gb510, 0, none⟩ (.string ((rd_T31 t492 x6_2).f0))).setCell ⟨gb510, 1, none⟩ (.string ((rd_T31 t492 x6_2).f1))).heap[gb510]? = some (.cells #[.string ((rd_T31 t492 x6_2).f0), .string ((rd_T31 t492 x6_2).f1)] 31 (0, 0))) := ⟨b25_⟩
           have n5_ : Aside0 (Below w.heap.size w ((w70.setCell ⟨gb510, 0, none⟩ (.string ((rd_T31 t492 x6_2).f0))).setCell ⟨gb510, 1, none⟩ (.string ((rd_T31 t492 x6_2).f1)))) := ⟨bel2 GE496.out GE510.out⟩
           (try clear HO_5)
           (try clear HO_497000)
           (try clear HO_497001)
           (try clear BK496)
           (try clear BK510)
           (try clear HB)
           generalize ((w70.setCell ⟨gb510, 0, none⟩ (.string ((rd_T31 t492 x6_2).f0))).setCell ⟨gb510, 1, none⟩ (.string ((rd_T31 t492 x6_2).f1))) = w73 at n0_ n1_ n2_ n3_ n4_ n5_ ⊢
           have HO_5 := n0_; have HO_497000 := n1_; have HO_497001 := n2_; have BK496 := n3_; have BK510 := n4_; have HB := n5_; clear n0_ n1_ n2_ n3_ n4_ n5_; replace HO_5 := am (Kd.R_drew HO_5.out); replace HO_497000 := am (Kd.R_drew HO_497000.out); replace HO_497001 := am (Kd.R_drew HO_497001.out); replace BK496 := am (blk_drew BK496.out); replace BK510 := am (blk_drew BK510.out); replace HB := am (below_drew1 HB.out); obtain ⟨Ao75, co75, eo75⟩ := Kd.R_slice HO_5.out
           (first | subst eo75 | (injection eo75 with f1_ f2_ f3_; have f4_ := f1_.symm; have f5_ := f3_.symm; clear f1_ f2_ f3_; subst f4_; subst f5_))
           refine st (n := 23) (S := fun w' => w'.cell? ⟨gb510, 0, none⟩ = some (.string ((rd_T31 t492 x6_2).f0)) ∧ w'.cell? ⟨gb510, 1, none⟩ = some (.string ((rd_T31 t492 x6_2).f1)) ∧ w'.cell? ⟨gb496, 0, none⟩ = some (.slice Ao8 t489.length co8) ∧ w'.cell? ⟨gb496, 1, none⟩ = some (.slice (some ad509) t492.length co10)) (ds := []) ⟨(blk_cell BK510.out 0).trans rfl, (blk_cell BK510.out 1).trans rfl, (blk_cell BK496.out 0).trans rfl, (blk_cell BK496.out 1).trans rfl⟩ (fun hHeld => ?_); refine with_tabW laws_FnBookStems.tab11 laws_FnBookStems.bits11 (fun HT_ HW_ => ?_)
           generalize w73.drew = w74 at HO_5 HO_497000 HO_497001 BK496 BK510 HB hHeld ⊢
           refine pu 0 47 ?_
           refine pu 1 48 ?_
           refine pu 4 51 ?_
           refine pu 8 55 ?_
           refine tk4 2 49 hHeld ?_
           refine tk4 5 52 hHeld ?_
           refine tk4 6 53 hHeld ?_
           refine on1 3 50 (fun K hK => ?_)
           refine goes_ Try.func29 (by kernel_rfl) rfl #[.slice Ao75 t497.length co75, .string ((rd_T31 t492 x6_2).f0)] (by rfl) rfl rfl mq ?_
           with_reducible refine (laws_mdHas.calls k2 _ _ t497 ((rd_T31 t492 x6_2).f0) t511 _ ?side1 ?side2 A35.out).mono ?_
           (case side1 => exact cq (Kd.R_reads' HO_5.out).2.2); (case side2 => exact (Kd.R_reads' HO_5.out).2.1)
           rintro e w' ⟨rfl, ⟨nd, rfl⟩⟩
           refine ⟨_, rfl, ?_⟩
           refine hK.out _ _ ⟨(blk_cell BK510.out 0).trans rfl, (blk_cell BK510.out 1).trans rfl, (blk_cell BK496.out 0).trans rfl, (blk_cell BK496.out 1).trans rfl⟩ (fun hHeld => ?_)
           clear hK K
           refine norm_ (a' := ?_) ?_ ?_
           rotate_left
           ·show Act.put _ (some 50) _ = _
            simp only [Act.put, List.setIfInBounds_toArray, List.set_cons_zero, List.set_cons_succ, i64_w, i32_w]
            rfl
           refine on1 7 54 (fun K hK => ?_)
           refine goes_ Try.func20 (by kernel_rfl) rfl #[.slice Ao8 t489.length co8, .agg #[.string ((rd_T31 t492 x6_2).f0), .string ((rd_T31 t492 x6_2).f1)]] (by rfl) rfl rfl mq ?_
           with_reducible refine (impl_Forms.calls k2 _ _ t489 ((rd_T31 t492 x6_2).f0) ((rd_T31 t492 x6_2).f1) t512 _ ?side1 ?side2 A36.out).mono ?_
           (case side1 => exact cq (Kd.R_reads' HO_497000.out).2.2); (case side2 => exact (Kd.R_reads' HO_497000.out).2.1)
           rintro e w76 ⟨v513, rfl, ho0, hb⟩
           refine ⟨_, rfl, ?_⟩
           replace HO_497000 := am (Kd.R_below (rq HO_497000.out) hb); replace HO_497001 := am (Kd.R_below (rq HO_497001.out) hb); have HO514 := am (Kd.R_lower (Kd.R_new' ho0 (Kd.R_lt (rq HO_5.out))) (below_size (bel2 GE496.out GE510.out))); replace HO_5 := am (Kd.R_elder' (rq HO_5.out) (Kd.R_base ho0) hb); replace BK496 := am (blk_below (g := gb496) (o := .cells #[.slice Ao8 t489.length co8, .slice (some ad509) t492.length co10] 55 (0, 0)) (bq BK496.out) hb); replace BK510 := am (blk_below (g := gb510) (o := .cells #[.string ((rd_T31 t492 x6_2).f0), .string ((rd_T31 t492 x6_2).f1)] 31 (0, 0)) (bq BK510.out) hb); replace HB := am (below_step (bel2 GE496.out GE510.out) hb)
           (try clear hb)
           (try clear hb2)
           (try clear hk)
           (try clear hi)
           (try clear ho0)
           obtain ⟨Ao77, co77, eo77⟩ := Kd.R_slice HO514.out
           (first | subst eo77 | (injection eo77 with f1_ f2_ f3_; have f4_ := f1_.symm; have f5_ := f3_.symm; clear f1_ f2_ f3_; subst f4_; subst f5_))
           refine hK.out _ _ ⟨(blk_cell BK510.out 0).trans rfl, (blk_cell BK510.out 1).trans rfl, (blk_cell BK496.out 0).trans rfl, (blk_cell BK496.out 1).trans rfl⟩ (fun hHeld => ?_)
           clear hK K
           refine norm_ (a' := ?_) ?_ ?_
           rotate_left
           ·show Act.put _ (some 54) _ = _
            simp only [Act.put, List.setIfInBounds_toArray, List.set_cons_zero, List.set_cons_succ, i64_w, i32_w]
            rfl
           refine on1 9 56 (fun K hK => ?_)
           refine goes_ Try.func29 (by kernel_rfl) rfl #[.slice Ao77 t512.length co77, .string t495] (by rfl) rfl rfl mq ?_
           with_reducible refine (laws_mdHas.calls k2 _ _ t512 t495 t515 _ ?side1 ?side2 A37.out).mono ?_
           (case side1 => exact cq (Kd.R_reads' HO514.out).2.2); (case side2 => exact (Kd.R_reads' HO514.out).2.1)
           rintro e w' ⟨rfl, ⟨nd, rfl⟩⟩
           refine ⟨_, rfl, ?_⟩
           refine hK.out _ _ ⟨(blk_cell BK510.out 0).trans rfl, (blk_cell BK510.out 1).trans rfl, (blk_cell BK496.out 0).trans rfl, (blk_cell BK496.out 1).trans rfl⟩ (fun hHeld => ?_)
           clear hK K
           refine norm_ (a' := ?_) ?_ ?_
           rotate_left
           ·show Act.put _ (some 56) _ = _
            simp only [Act.put, List.setIfInBounds_toArray, List.set_cons_zero, List.set_cons_succ, i64_w, i32_w]
            rfl
           refine pu 10 57 ?_
           refine pu 11 58 ?_
           refine pu 12 59 ?_
           refine pu 14 61 ?_
           refine tk4 13 60 hHeld ?_
           refine pu 15 62 ?_
           refine pu 16 63 ?_
           refine puu 17 64 ?_
           refine puu 18 65 ?_
           refine puu 19 66 ?_
           refine puu 20 67 ?_
           refine pu 21 68 ?_
           refine pu 22 69 ?_
           refine done_ (done_of HT_.out (by kernel_rfl)) ?_
           try go_wp2
           go_roundg k2
           case measure => have := HJ4.out; have := HK2.out; omega
           case rel => exact ⟨(wrap64 (x6_2 + 1)), sq, H', ⟨by have := HJ4.out; have := HK2.out; omega⟩, ⟨rq (Kd.R_mono HO_5.out (fun _ hk => trivial))⟩, ⟨rq HO_497000.out⟩, ⟨rq (Kd.R_mono HO_497001.out (fun _ hk => trivial))⟩, ⟨bq BK496.out⟩, ⟨bel2 GE496.out GE510.out⟩⟩
        ·rw [if_neg c34] at H
         exact absurd H (by simp)
       ·rw [if_neg c33] at H; have c33b0 := decide_eq_false c33; clear c33; obtain rfl := Option.some.inj H; have hcz78_0 := bc BK496.out 0; have hcz78_1 := bc BK496.out 1; have hfz78_0 := bf BK496.out 0; have hfz78_1 := bf BK496.out 1; go_wp2; go_ret
        exact ⟨eq_, bel1 GE496.out⟩

/-- THE ONE PURE STATEMENT of laws_FnBookStems: yours. -/
def laws_FnBookStems.Pure : Prop := ∀ (l0 : List Int), l0.length ≤ maxLen → l0.length * 1 ≤ 140737488351232 → (∀ x ∈ l0, (Lit.int .u8 x).wf = true) → ∃ k, laws_FnBookStems.f k l0 = some true
theorem laws_FnBookStems.walk (P : laws_FnBookStems.Pure) (a0 : Option Addr) (len0 cap0 : Nat) (z0 : List Int) (w : World) (w0 : (a0 = none ∧ len0 = 0 ∧ cap0 = 0 ∧ z0 = []) ∨ ∃ x, a0 = some x ∧ len0 ≤ cap0 ∧ cap0 ≤ maxLen ∧ z0.length = cap0 ∧ (∀ i, i < z0.length → w.cell? (x.add i) = some (.int .u8 (z0.getD i 0))) ∧ ∀ n ∈ z0, (Lit.int .u8 n).wf = true) (y0 : len0 * 1 ≤ 140737488351232) :
  Calls Try.prog 10 #[.slice a0 len0 cap0] w fun e w' => e = .returned (.bool true) ∧ Below w.heap.size w w' := by
 obtain ⟨l0, rfl, hr0, hm0, hw0, hc0⟩ := ReadsInt.ofRowC w0; obtain ⟨k, h⟩ := P l0 hm0 y0 hw0
 refine (laws_FnBookStems.calls k _ _ l0 true w (Kd.C_of_reads (d := (0 : Int)) (h1 := fun _ => rfl) hr0) hc0 h).mono ?_
 rintro e w' ⟨rfl, hd⟩
 exact ⟨rfl, hd⟩

end Go.Proofs.Ytedfcehhgbeibaa.QFnBookStems

import Derived.Test.YtedfcehhgbeibaaQFnFormsx0
import Derived.Test.YtedfcehhgbeibaaQFnFormsx2
import Derived.Test.YtedfcehhgbeibaaQFnFormsx3
import Derived.Test.YtedfcehhgbeibaaQFnFormsx6
import Derived.Test.YtedfcehhgbeibaaVMSh2
namespace Go.Proofs.Ytedfcehhgbeibaa.QFnForms
open Go.RowKit Go.Proofs.YtedfcehhgbeibaaW.PrintWords Go.Proofs.YtedfcehhgbeibaaW.PrintLast Go.Proofs.YtedfcehhgbeibaaW.PrintMore Go.Proofs.Ytedfcehhgbeibaa.Sh
attribute [local go_sem] max2_int min2_int max_two min_two max_three min_three max_four min_four   -- for this text's walks alone
set_option linter.unusedVariables false
set_option linter.unusedSimpArgs false
-- shrunk

/-! ### spec_l2Forms: function 55 -/
def spec_l2Forms.f (k : Nat) (l0 : List (S44)) (a1_0 : ByteArray) (a1_1 : ByteArray) : Option (List ByteArray) := (spec_l2One.f k l0 a1_1 false (([a1_0] : List ByteArray))).bind fun t168 => ((spec_l2One.f k l0 a1_1 true t168).bind fun t171 => (some t171))
theorem spec_l2Forms.mono : ∀ a0 a1 a2 k, LeO (spec_l2Forms.f k a0 a1 a2) (spec_l2Forms.f (k + 1) a0 a1 a2) := by
 intro a0 a1 a2 k
 unfold spec_l2Forms.f
 repeat' first | (with_reducible first | exact spec_l2One.mono _ _ _ _ _ | exact LeO.refl _ | exact LeO.none _ | refine LeO.ite ?_ ?_ | refine LeO.bind ?_ (fun _ => ?_)) | exact spec_l2One.mono _ _ _ _ _ | exact LeO.none _ | refine LeO.ite ?_ ?_ | refine LeO.bind ?_ (fun _ => ?_)
def spec_l2Forms.T1 : Bool × List (List Nat × List Nat) := (true, [([], []), ([], []), ([1], [1]), ([], []), ([], []), ([4], [4]), ([], []), ([6], [6]), ([7], [7]), ([3, 5, 8], [3, 5, 8]), ([0, 2, 9, 9], [0, 2, 9]), ([10, 10, 0, 1, 2, 3, 4, 5, 6, 7, 8, 9, 10], [10])])
def spec_l2Forms.B1 : List Nat := [0, 0, 2, 0, 0, 16, 0, 64, 192, 504, 1023, 2047]
theorem spec_l2Forms.tab1 : rtab .any (opsOf Try.f55 1) = spec_l2Forms.T1 := by kernel_rfl
theorem spec_l2Forms.bits1 : waitsOk spec_l2Forms.T1.2 spec_l2Forms.B1 = true := by kernel_rfl
set_option maxHeartbeats 8000000 in
set_option maxRecDepth 100000 in
theorem spec_l2Forms.calls (k : Nat) (A0 : Option Addr) (c0 : Nat) (l0 : List (S44)) (a1_0 : ByteArray) (a1_1 : ByteArray) (r : List ByteArray) (w : World) (hr0 : Kd.C k44 w A0 l0.length l0) (hc0 : l0.length ≤ c0) (h : spec_l2Forms.f k l0 a1_0 a1_1 = some r) :
  Calls Try.prog 55 #[.slice A0 l0.length c0, .agg #[.string a1_0, .string a1_1]] w fun e w' => ∃ v0_ : Value, e = .returned (v0_) ∧ Kd.V Kd.string 9 w' w.heap.size (fun k_ => (w.heap.size ≤ k_)) v0_ r ∧ Below w.heap.size w w' := by
 have hu31 := Try.underlying31; have HR0 := am hr0; have HC0 := am hc0; clear hr0 hc0; have HB := am (Below.refl w.heap.size w)
 have H : ((spec_l2One.f k l0 a1_1 false (([a1_0] : List ByteArray))).bind fun t168 => ((spec_l2One.f k l0 a1_1 true t168).bind fun t171 => (some t171))) = some r := h
 clear h; obtain ⟨y165, hy165⟩ : ∃ y_ : List ByteArray, y_ = (([a1_0] : List ByteArray)) := ⟨_, rfl⟩
 replace H : ((spec_l2One.f k l0 a1_1 false y165).bind fun t168 => ((spec_l2One.f k l0 a1_1 true t168).bind fun t171 => (some t171))) = some r := by first | (rw [hy165]; with_reducible exact H) | (have H2_ := (Option.bind_some _ _).symm.trans H; rw [hy165]; with_reducible exact H2_) | (have H2_ := (Option.bind_some _ _).symm.trans H; with_reducible exact H2_) | with_reducible exact H | (rw [hy165]; exact H) | exact H
 have Ny165 := am hy165; clear hy165; replace H := Option.bind_eq_some_iff.mp H; obtain ⟨t168, A30, H⟩ := H; replace H : ((spec_l2One.f k l0 a1_1 true t168).bind fun t171 => (some t171)) = some r := H; have A3 := Aside0.mk A30; clear A30; replace H := Option.bind_eq_some_iff.mp H; obtain ⟨t171, A40, H⟩ := H; replace H : (some t171) = some r := H; have A4 := Aside0.mk A40; clear A40; obtain rfl := Option.some.inj H; go_enter Try.func55, Try.ntmps55
 try go_wp2_with (first | ((with_reducible refine gate_dst (N := 3) rfl ?_); refine bx 3 (cs := #[.string a1_0, .string a1_1]) (t := 31) ?_; intro gb164 hg w5 hbox hb; have BK164 := am (hbox); have GW164 := am ((b22_ : w.heap.size ≤ gb164)); have GE164 := am ((b22_ : w.heap.size ≤ gb164)); replace HB := am (below_step bel hb); clear hb hbox hg))
 replace BK164 := am (blk_drew BK164.out); replace HB := am (below_drew1 HB.out)
 refine st (n := 12) (S := fun w' => w'.cell? ⟨gb164, 0, none⟩ = some (.string a1_0) ∧ w'.cell? ⟨gb164, 1, none⟩ = some (.string a1_1)) (ds := []) ⟨(blk_cell BK164.out 0).trans rfl, (blk_cell BK164.out 1).trans rfl⟩ (fun hHeld => ?_); refine with_tabW spec_l2Forms.tab1 spec_l2Forms.bits1 (fun HT_ HW_ => ?_)
 generalize w5.drew = w6 at BK164 HB hHeld ⊢
 refine pu 0 5 ?_
 refine pu 1 6 ?_
 refine pu 3 8 ?_
 refine pu 4 9 ?_
 refine pu 6 11 ?_
 refine tk2 2 7 hHeld ?_
 refine tk2 5 10 hHeld ?_
 refine tk2 7 12 hHeld ?_
 refine on1 8 13 (fun K hK => ?_)
 refine Kd.R_lit_step Kd.string _ 9 ?hg (N := 13) ?hd (xs := ([a1_0] : List ByteArray)) (inner := [.string a1_0]) (ok := fun _ => True) (okp := fun _ => True) ?hr ?hp (fun _ hk => hk) trivial (Below.refl _ _) (Nat.le_refl _) (by simp) ?_; (case hd => rfl); (case hg => rfl); (case hr => first | (go_simp; done) | (go_simp; rfl)); (case hp => exact (Reps.one (show Kd.M Kd.string _ _ _ a1_0 [.string a1_0] from rfl) (Reps.none _ _)))
 intro v166 w7 ho8 hb hg_ hnew_; clear hg_ hnew_
 (first | rw [← Ny165.out] at ho8 | (simp only [Int.reduceToNat] at ho8; rw [← Ny165.out] at ho8) | (simp only [Int.toNat_natCast] at ho8; rw [← Ny165.out] at ho8))
 have HO167 := am (Kd.R_lower (Kd.R_newM (M := fun k_ => (w.heap.size ≤ k_)) ho8 (below_size (bel1 GE164.out)) (fun k_ h_ => h_)) (below_size (bel1 GE164.out))); replace BK164 := am (blk_below (g := gb164) (o := .cells #[.string a1_0, .string a1_1] 31 (0, 0)) (bq BK164.out) hb); replace HB := am (below_step (bel1 GE164.out) hb); clear hb ho8; obtain ⟨Ao9, co9, eo9⟩ := Kd.R_slice HO167.out
 (first | subst eo9 | (injection eo9 with f1_ f2_ f3_; have f4_ := f1_.symm; have f5_ := f3_.symm; clear f1_ f2_ f3_; subst f4_; subst f5_))
 refine hK.out _ _ ⟨(blk_cell BK164.out 0).trans rfl, (blk_cell BK164.out 1).trans rfl⟩ (fun hHeld => ?_)
 clear hK K
 refine norm_ (a' := ?_) ?_ ?_
 rotate_left
 ·show Act.put _ (some 13) _ = _
  simp only [Act.put, List.setIfInBounds_toArray, List.set_cons_zero, List.set_cons_succ, i64_w, i32_w]
  rfl
 refine on1 9 14 (fun K hK => ?_)
 refine goes_ Try.func91 (by kernel_rfl) rfl #[.slice A0 l0.length c0, .string a1_1, .bool false, .slice Ao9 y165.length co9] (by rfl) rfl rfl mq ?_
 with_reducible refine (spec_l2One.calls k _ _ l0 a1_1 false _ _ y165 t168 _ ?side1 ?side2 ?side3 ?side4 A3.out).mono ?_
 (case side1 => exact cq (Kd.C_below HR0.out HB.out)); (case side2 => exact HC0.out); (case side3 => exact cq (Kd.R_reads' HO167.out).2.2); (case side4 => exact (Kd.R_reads' HO167.out).2.1)
 rintro e w10 ⟨v169, rfl, ho0, hb⟩
 refine ⟨_, rfl, ?_⟩
 have HO170 := am (Kd.V_lower (Kd.V_mono (ok' := fun k_ => (w.heap.size ≤ k_) ∧ some k_ ≠ (.slice Ao9 y165.length co9 : Value).ownBlock ∧ k_ ≠ gb164) ho0 (fun k_ hk_ => ⟨(Nat.le_trans (below_size (bel1 GE164.out)) hk_), (Kd.fresh' (Kd.R_lt (rq HO167.out)) k_ hk_), (Kd.freshB (g := gb164) (o := .cells #[.string a1_0, .string a1_1] 31 (0, 0)) (bq BK164.out) k_ hk_)⟩)) (below_size (bel1 GE164.out))); replace HO167 := am (Kd.R_below (rq HO167.out) hb); replace BK164 := am (blk_below (g := gb164) (o := .cells #[.string a1_0, .string a1_1] 31 (0, 0)) (bq BK164.out) hb); replace HB := am (below_step (bel1 GE164.out) hb)
 (try clear hb)
 (try clear hb2)
 (try clear hk)
 (try clear hi)
 (try clear ho0)
 obtain ⟨Ao11, co11, eo11⟩ := Kd.V_slice HO170.out
 (first | subst eo11 | (injection eo11 with f1_ f2_ f3_; have f4_ := f1_.symm; have f5_ := f3_.symm; clear f1_ f2_ f3_; subst f4_; subst f5_))
 refine hK.out _ _ ⟨(blk_cell BK164.out 0).trans rfl, (blk_cell BK164.out 1).trans rfl⟩ (fun hHeld => ?_)
 clear hK K
 refine norm_ (a' := ?_) ?_ ?_
 rotate_left
 ·show Act.put _ (some 14) _ = _
  simp only [Act.put, List.setIfInBounds_toArray, List.set_cons_zero, List.set_cons_succ, i64_w, i32_w]
  rfl
 refine on1 10 15 (fun K hK => ?_)
 refine goes_ Try.func91 (by kernel_rfl) rfl #[.slice A0 l0.length c0, .string a1_1, .bool true, .slice Ao11 t168.length co11] (by rfl) rfl rfl mq ?_
 with_reducible refine (spec_l2One.calls k _ _ l0 a1_1 true _ _ t168 t171 _ ?side1 ?side2 ?side3 ?side4 A4.out).mono ?_
 (case side1 => exact cq (Kd.C_below HR0.out HB.out)); (case side2 => exact HC0.out); (case side3 => exact cq (Kd.V_reads' HO170.out).2.2); (case side4 => exact (Kd.V_reads' HO170.out).2.1)
 rintro e w12 ⟨v172, rfl, ho0, hb⟩
 refine ⟨_, rfl, ?_⟩
 replace HO170 := am (Kd.V_below (vq HO170.out) hb); have HO173 := am (Kd.V_lower (Kd.V_mono (ok' := fun k_ => (w.heap.size ≤ k_) ∧ some k_ ≠ (.slice Ao9 y165.length co9 : Value).ownBlock ∧ k_ ≠ gb164) ho0 (fun k_ hk_ => ⟨(Nat.le_trans (below_size (bel1 GE164.out)) hk_), (Kd.fresh' (Kd.R_lt (rq HO167.out)) k_ hk_), (Kd.freshB (g := gb164) (o := .cells #[.string a1_0, .string a1_1] 31 (0, 0)) (bq BK164.out) k_ hk_)⟩)) (below_size (bel1 GE164.out))); replace HO167 := am (Kd.R_below (rq HO167.out) hb); replace BK164 := am (blk_below (g := gb164) (o := .cells #[.string a1_0, .string a1_1] 31 (0, 0)) (bq BK164.out) hb); replace HB := am (below_step (bel1 GE164.out) hb)
 (try clear hb)
 (try clear hb2)
 (try clear hk)
 (try clear hi)
 (try clear ho0)
 refine hK.out _ _ ⟨(blk_cell BK164.out 0).trans rfl, (blk_cell BK164.out 1).trans rfl⟩ (fun hHeld => ?_)
 clear hK K
 refine norm_ (a' := ?_) ?_ ?_
 rotate_left
 ·show Act.put _ (some 15) _ = _
  simp only [Act.put, List.setIfInBounds_toArray, List.set_cons_zero, List.set_cons_succ, i64_w, i32_w]
  rfl
 refine pu 11 4 ?_
 refine done_ (done_of HT_.out (by kernel_rfl)) ?_
 try go_wp2
 go_ret
 exact ⟨_, eq_, by (with_reducible repeat (first | apply Kd.V_alloc | apply Kd.V_drewN | apply Kd.V_drew)); exact Kd.V_mono HO173.out (fun _ hk => hk.1), bel1 GE164.out⟩

/-! ### spec_Forms: function 17 -/
def spec_Forms.f (k : Nat) (l0 : List (S44)) (a1_0 : ByteArray) (a1_1 : ByteArray) : Option (List ByteArray) := (spec_l2Affixes.f k l0).bind fun t175 => (if t175 = true then ((spec_l2Entry.f k a1_0 a1_1).bind fun t176 => (if t176 = true then ((spec_l2Forms.f k l0 a1_0 a1_1).bind fun t177 => (some t177)) else (some (([] : List ByteArray))))) else (some (([] : List ByteArray))))
theorem spec_Forms.mono : ∀ a0 a1 a2 k, LeO (spec_Forms.f k a0 a1 a2) (spec_Forms.f (k + 1) a0 a1 a2) := by
 intro a0 a1 a2 k
 unfold spec_Forms.f
 repeat' first | (with_reducible first | exact spec_l2Affixes.mono _ _ | exact spec_l2Entry.mono _ _ _ | exact spec_l2Forms.mono _ _ _ _ | exact LeO.refl _ | exact LeO.none _ | refine LeO.ite ?_ ?_ | refine LeO.bind ?_ (fun _ => ?_)) | exact spec_l2Affixes.mono _ _ | exact spec_l2Entry.mono _ _ _ | exact spec_l2Forms.mono _ _ _ _ | exact LeO.none _ | refine LeO.ite ?_ ?_ | refine LeO.bind ?_ (fun _ => ?_)
set_option maxHeartbeats 8000000 in
set_option maxRecDepth 100000 in
theorem spec_Forms.calls (k : Nat) (A0 : Option Addr) (c0 : Nat) (l0 : List (S44)) (a1_0 : ByteArray) (a1_1 : ByteArray) (r : List ByteArray) (w : World) (hr0 : Kd.C k44 w A0 l0.length l0) (hc0 : l0.length ≤ c0) (h : spec_Forms.f k l0 a1_0 a1_1 = some r) :
  Calls Try.prog 17 #[.slice A0 l0.length c0, .agg #[.string a1_0, .string a1_1]] w fun e w' => ∃ v0_ : Value, e = .returned (v0_) ∧ Kd.V Kd.string 9 w' w.heap.size (fun k_ => (w.heap.size ≤ k_)) v0_ r ∧ Below w.heap.size w w' := by
 have hu31 := Try.underlying31; have HR0 := am hr0; have HC0 := am hc0; clear hr0 hc0; have HB := am (Below.refl w.heap.size w)
 have H : ((spec_l2Affixes.f k l0).bind fun t175 => (if t175 = true then ((spec_l2Entry.f k a1_0 a1_1).bind fun t176 => (if t176 = true then ((spec_l2Forms.f k l0 a1_0 a1_1).bind fun t177 => (some t177)) else (some (([] : List ByteArray))))) else (some (([] : List ByteArray))))) = some r := h
 clear h; replace H := Option.bind_eq_some_iff.mp H; obtain ⟨t175, A30, H⟩ := H; replace H : (if t175 = true then ((spec_l2Entry.f k a1_0 a1_1).bind fun t176 => (if t176 = true then ((spec_l2Forms.f k l0 a1_0 a1_1).bind fun t177 => (some t177)) else (some (([] : List ByteArray))))) else (some (([] : List ByteArray)))) = some r := H; have A3 := Aside0.mk A30; clear A30
 by_cases c4 : t175 = true
 ·subst c4
  have H1 : ((spec_l2Entry.f k a1_0 a1_1).bind fun t176 => (if t176 = true then ((spec_l2Forms.f k l0 a1_0 a1_1).bind fun t177 => (some t177)) else (some (([] : List ByteArray))))) = some r := b32_
  replace H := H1; clear H1
  replace H := Option.bind_eq_some_iff.mp H; obtain ⟨t176, A50, H⟩ := H; replace H : (if t176 = true then ((spec_l2Forms.f k l0 a1_0 a1_1).bind fun t177 => (some t177)) else (some (([] : List ByteArray)))) = some r := H; have A5 := Aside0.mk A50; clear A50
  by_cases c6 : t176 = true
  ·subst c6
   have H1 : ((spec_l2Forms.f k l0 a1_0 a1_1).bind fun t177 => (some t177)) = some r := b32_
   replace H := H1; clear H1
   replace H := Option.bind_eq_some_iff.mp H; obtain ⟨t177, A70, H⟩ := H; replace H : (some t177) = some r := H; have A7 := Aside0.mk A70; clear A70; obtain rfl := Option.some.inj H; go_enter Try.func17, Try.ntmps17
   go_wp2_with (first | ((with_reducible refine gate_dst (N := 3) rfl ?_); refine bx 3 (cs := #[.string a1_0, .string a1_1]) (t := 31) ?_; intro gb174 hg w8 hbox hb; have BK174 := am (hbox); have GW174 := am ((b22_ : w.heap.size ≤ gb174)); have GE174 := am ((b22_ : w.heap.size ≤ gb174)); replace HB := am (below_step bel hb); clear hb hbox hg) | ((with_reducible refine gate_callee (f := 53) rfl ?_); refine goesL_ (some 6) rfl rfl Try.func53 (by kernel_rfl) rfl #[.slice A0 l0.length c0] rfl mq ?_; (with_reducible refine (spec_l2Affixes.calls k _ _ l0 true _ ?side1 ?side2 A3.out).mono ?_); (case side1 => exact cq (Kd.C_below HR0.out HB.out)); (case side2 => exact HC0.out); rintro e w9 ⟨rfl, hb⟩; refine ⟨_, rfl, ?_⟩; replace BK174 := am (blk_below (g := gb174) (o := .cells #[.string a1_0, .string a1_1] 31 (0, 0)) (bq BK174.out) hb); replace HB := am (below_step (bel1 GE174.out) hb); (try clear hb); (try clear hb2); (try clear hk); (try clear hi); have hcz10_0 := bc BK174.out 0; have hcz10_1 := bc BK174.out 1; have hfz10_0 := bf BK174.out 0; have hfz10_1 := bf BK174.out 1) | (go_at_call 54; (with_reducible refine (spec_l2Entry.calls k a1_0 a1_1 true _ A5.out).mono ?_); rintro e w11 ⟨rfl, hb⟩; replace BK174 := am (blk_below (g := gb174) (o := .cells #[.string a1_0, .string a1_1] 31 (0, 0)) (bq BK174.out) hb); replace HB := am (below_step (bel1 GE174.out) hb); (try clear hb); (try clear hb2); (try clear hk); (try clear hi); have hcz12_0 := bc BK174.out 0; have hcz12_1 := bc BK174.out 1; have hfz12_0 := bf BK174.out 0; have hfz12_1 := bf BK174.out 1) | ((with_reducible refine gate_callee (f := 55) rfl ?_); refine goesL_ (some 16) rfl rfl Try.func55 (by kernel_rfl) rfl #[.slice A0 l0.length c0, .agg #[.string a1_0, .string a1_1]] rfl mq ?_; (with_reducible refine (spec_l2Forms.calls k _ _ l0 a1_0 a1_1 t177 _ ?side1 ?side2 A7.out).mono ?_); (case side1 => exact cq (Kd.C_below HR0.out HB.out)); (case side2 => exact HC0.out); rintro e w13 ⟨v178, rfl, ho0, hb⟩; refine ⟨_, rfl, ?_⟩; have HO179 := am (Kd.V_lower (Kd.V_mono (ok' := fun k_ => (w.heap.size ≤ k_) ∧ k_ ≠ gb174) ho0 (fun k_ hk_ => ⟨(Nat.le_trans (below_size (bel1 GE174.out)) hk_), (Kd.freshB (g := gb174) (o := .cells #[.string a1_0, .string a1_1] 31 (0, 0)) (bq BK174.out) k_ hk_)⟩)) (below_size (bel1 GE174.out))); replace BK174 := am (blk_below (g := gb174) (o := .cells #[.string a1_0, .string a1_1] 31 (0, 0)) (bq BK174.out) hb); replace HB := am (below_step (bel1 GE174.out) hb); (try clear hb); (try clear hb2); (try clear hk); (try clear hi); (try clear ho0)))
   go_ret
   exact ⟨_, eq_, by (with_reducible repeat (first | apply Kd.V_alloc | apply Kd.V_drewN | apply Kd.V_drew)); exact Kd.V_mono HO179.out (fun _ hk => hk.1), bel1 GE174.out⟩
  ·replace c6 := Bool.eq_false_iff.mpr c6; subst c6
   have H1 : (some (([] : List ByteArray))) = some r := b18_
   replace H := H1; clear H1
   obtain ⟨y180, hy180⟩ : ∃ y_ : List ByteArray, y_ = (([] : List ByteArray)) := ⟨_, rfl⟩
   replace H : (some y180) = some r := by first | (rw [hy180]; with_reducible exact H) | (have H2_ := (Option.bind_some _ _).symm.trans H; rw [hy180]; with_reducible exact H2_) | (have H2_ := (Option.bind_some _ _).symm.trans H; with_reducible exact H2_) | with_reducible exact H | (rw [hy180]; exact H) | exact H
   have Ny180 := am hy180; clear hy180; obtain rfl := Option.some.inj H; go_enter Try.func17, Try.ntmps17
   go_wp2_with (first | ((with_reducible refine gate_dst (N := 3) rfl ?_); refine bx 3 (cs := #[.string a1_0, .string a1_1]) (t := 31) ?_; intro gb174 hg w14 hbox hb; have BK174 := am (hbox); have GW174 := am ((b22_ : w.heap.size ≤ gb174)); have GE174 := am ((b22_ : w.heap.size ≤ gb174)); replace HB := am (below_step bel hb); clear hb hbox hg) | ((with_reducible refine gate_callee (f := 53) rfl ?_); refine goesL_ (some 6) rfl rfl Try.func53 (by kernel_rfl) rfl #[.slice A0 l0.length c0] rfl mq ?_; (with_reducible refine (spec_l2Affixes.calls k _ _ l0 true _ ?side1 ?side2 A3.out).mono ?_); (case side1 => exact cq (Kd.C_below HR0.out HB.out)); (case side2 => exact HC0.out); rintro e w15 ⟨rfl, hb⟩; refine ⟨_, rfl, ?_⟩; replace BK174 := am (blk_below (g := gb174) (o := .cells #[.string a1_0, .string a1_1] 31 (0, 0)) (bq BK174.out) hb); replace HB := am (below_step (bel1 GE174.out) hb); (try clear hb); (try clear hb2); (try clear hk); (try clear hi); have hcz16_0 := bc BK174.out 0; have hcz16_1 := bc BK174.out 1; have hfz16_0 := bf BK174.out 0; have hfz16_1 := bf BK174.out 1) | (go_at_call 54; (with_reducible refine (spec_l2Entry.calls k a1_0 a1_1 false _ A5.out).mono ?_); rintro e w17 ⟨rfl, hb⟩; replace BK174 := am (blk_below (g := gb174) (o := .cells #[.string a1_0, .string a1_1] 31 (0, 0)) (bq BK174.out) hb); replace HB := am (below_step (bel1 GE174.out) hb); (try clear hb); (try clear hb2); (try clear hk); (try clear hi)) | ((with_reducible refine gate_dst (N := 13) rfl ?_); refine Kd.R_lit Kd.string _ 9 ?hg (N := 13) ?hd (xs := ([] : List ByteArray)) (inner := []) (ok := fun _ => True) (okp := fun _ => True) ?hr ?hp (fun _ hk => hk) trivial (Below.refl _ _) (Nat.le_refl _) (by simp) ?_; (case hd => rfl); (case hg => rfl); (case hr => first | (go_simp; done) | (go_simp; rfl)); (case hp => exact (Reps.none _ _)); intro v181 w18 ho19 hb hg_ hnew_; clear hg_ hnew_; (first | rw [← Ny180.out] at ho19 | (simp only [Int.reduceToNat] at ho19; rw [← Ny180.out] at ho19) | (simp only [Int.toNat_natCast] at ho19; rw [← Ny180.out] at ho19)); have HO182 := am (Kd.R_lower (Kd.R_newM (M := fun k_ => (w.heap.size ≤ k_)) ho19 (below_size (bel1 GE174.out)) (fun k_ h_ => h_)) (below_size (bel1 GE174.out))); replace BK174 := am (blk_below (g := gb174) (o := .cells #[.string a1_0, .string a1_1] 31 (0, 0)) (bq BK174.out) hb); replace HB := am (below_step (bel1 GE174.out) hb); clear hb ho19))
   go_ret
   exact ⟨_, eq_, Kd.R_V (rq (Kd.R_mono HO182.out (fun _ hk => hk.1))), bel1 GE174.out⟩
 ·replace c4 := Bool.eq_false_iff.mpr c4; subst c4
  have H1 : (some (([] : List ByteArray))) = some r := b18_
  replace H := H1; clear H1
  obtain ⟨y183, hy183⟩ : ∃ y_ : List ByteArray, y_ = (([] : List ByteArray)) := ⟨_, rfl⟩
  replace H : (some y183) = some r := by first | (rw [hy183]; with_reducible exact H) | (have H2_ := (Option.bind_some _ _).symm.trans H; rw [hy183]; with_reducible exact H2_) | (have H2_ := (Option.bind_some _ _).symm.trans H; with_reducible exact H2_) | with_reducible exact H | (rw [hy183]; exact H) | exact H
  have Ny183 := am hy183; clear hy183; obtain rfl := Option.some.inj H; go_enter Try.func17, Try.ntmps17
  go_wp2_with (first | ((with_reducible refine gate_dst (N := 3) rfl ?_); refine bx 3 (cs := #[.string a1_0, .string a1_1]) (t := 31) ?_; intro gb174 hg w20 hbox hb; have BK174 := am (hbox); have GW174 := am ((b22_ : w.heap.size ≤ gb174)); have GE174 := am ((b22_ : w.heap.size ≤ gb174)); replace HB := am (below_step bel hb); clear hb hbox hg) | ((with_reducible refine gate_callee (f := 53) rfl ?_); refine goesL_ (some 6) rfl rfl Try.func53 (by kernel_rfl) rfl #[.slice A0 l0.length c0] rfl mq ?_; (with_reducible refine (spec_l2Affixes.calls k _ _ l0 false _ ?side1 ?side2 A3.out).mono ?_); (case side1 => exact cq (Kd.C_below HR0.out HB.out)); (case side2 => exact HC0.out); rintro e w21 ⟨rfl, hb⟩; refine ⟨_, rfl, ?_⟩; replace BK174 := am (blk_below (g := gb174) (o := .cells #[.string a1_0, .string a1_1] 31 (0, 0)) (bq BK174.out) hb); replace HB := am (below_step (bel1 GE174.out) hb); (try clear hb); (try clear hb2); (try clear hk); (try clear hi)) | ((with_reducible refine gate_dst (N := 13) rfl ?_); refine Kd.R_lit Kd.string _ 9 ?hg (N := 13) ?hd (xs := ([] : List ByteArray)) (inner := []) (ok := fun _ => True) (okp := fun _ => True) ?hr ?hp (fun _ hk => hk) trivial (Below.refl _ _) (Nat.le_refl _) (by simp) ?_; (case hd => rfl); (case hg => rfl); (case hr => first | (go_simp; done) | (go_simp; rfl)); (case hp => exact (Reps.none _ _)); intro v184 w22 ho23 hb hg_ hnew_; clear hg_ hnew_; (first | rw [← Ny183.out] at ho23 | (simp only [Int.reduceToNat] at ho23; rw [← Ny183.out] at ho23) | (simp only [Int.toNat_natCast] at ho23; rw [← Ny183.out] at ho23)); have HO185 := am (Kd.R_lower (Kd.R_newM (M := fun k_ => (w.heap.size ≤ k_)) ho23 (below_size (bel1 GE174.out)) (fun k_ h_ => h_)) (below_size (bel1 GE174.out))); replace BK174 := am (blk_below (g := gb174) (o := .cells #[.string a1_0, .string a1_1] 31 (0, 0)) (bq BK174.out) hb); replace HB := am (below_step (bel1 GE174.out) hb); clear hb ho23))
  go_ret
  exact ⟨_, eq_, Kd.R_V (rq (Kd.R_mono HO185.out (fun _ hk => hk.1))), bel1 GE174.out⟩

/-! ### impl_within: function 72 -/
def impl_within.f (a0 : Int) (a1 : Int) (a2 : Int) : Option (Bool) := if a0 ≥ a1 then (some (decide (a0 ≤ a2))) else (some false)
set_option maxHeartbeats 8000000 in
set_option maxRecDepth 100000 in
theorem impl_within.calls (a0 : Int) (a1 : Int) (a2 : Int) (r : Bool) (w : World) (h : impl_within.f a0 a1 a2 = some r) :
  Calls Try.prog 72 #[.int .i64 a0, .int .i64 a1, .int .i64 a2] w fun e w' => e = .returned (.bool r) ∧ Drawn0 w w' := by
 have H : (if a0 ≥ a1 then (some (decide (a0 ≤ a2))) else (some false)) = some r := h
 clear h
 by_cases c4 : a0 ≥ a1
 ·rw [if_pos c4] at H; have c4b0 := decide_eq_true c4; clear c4; obtain rfl := Option.some.inj H; go_enter Try.func72, Try.ntmps72; go_wp2; go_ret
  exact ⟨sq, dr⟩
 ·rw [if_neg c4] at H; have c4b0 := decide_eq_false c4; clear c4; obtain rfl := Option.some.inj H; go_enter Try.func72, Try.ntmps72; go_wp2; go_ret
  exact ⟨sq, dr⟩

/-! ### impl_lower: function 73 -/
def impl_lower.l0 : Nat → ByteArray → Int → Int → Option (Bool)
 | 0, _, _, _ => none
 | k + 1, x0, x5, x6 => if x6 < x5 then (if 0 ≤ x6 then (if x6 < (x0.size : Int) then (if (bt x0 x6) < 97 then (some false) else (if (bt x0 x6) > 122 then (some false) else (impl_lower.l0 k x0 x5 (wrap64 (x6 + 1))))) else (none)) else (none)) else (some true)
def impl_lower.f (k : Nat) (a0 : ByteArray) : Option (Bool) := impl_lower.l0 k a0 (a0.size : Int) 0
theorem impl_lower.mono_l : ∀ k, (∀ y0 y1 y2, LeO (impl_lower.l0 k y0 y1 y2) (impl_lower.l0 (k + 1) y0 y1 y2))
 | 0 => fun _ _ _ r h => by simp [impl_lower.l0] at h
 | k + 1 => by
  have ih0 := impl_lower.mono_l k
  ·intro y0 y1 y2
   unfold impl_lower.l0
   repeat' first | (with_reducible first | exact ih0 _ _ _ | exact LeO.refl _ | exact LeO.none _ | refine LeO.ite ?_ ?_ | refine LeO.bind ?_ (fun _ => ?_)) | exact ih0 _ _ _ | exact LeO.none _ | refine LeO.ite ?_ ?_ | refine LeO.bind ?_ (fun _ => ?_)
theorem impl_lower.mono : ∀ a0 k, LeO (impl_lower.f k a0) (impl_lower.f (k + 1) a0) := by
 intro a0 k; have ih0 := impl_lower.mono_l k
 unfold impl_lower.f
 repeat' first | (with_reducible first | exact ih0 _ _ _ | exact LeO.refl _ | exact LeO.none _ | refine LeO.ite ?_ ?_ | refine LeO.bind ?_ (fun _ => ?_)) | exact ih0 _ _ _ | exact LeO.none _ | refine LeO.ite ?_ ?_ | refine LeO.bind ?_ (fun _ => ?_)
set_option maxHeartbeats 8000000 in
set_option maxRecDepth 100000 in
theorem impl_lower.calls (k : Nat) (a0 : ByteArray) (r : Bool) (w : World) (h : impl_lower.f k a0 = some r) :
  Calls Try.prog 73 #[.string a0] w fun e w' => e = .returned (.bool r) ∧ Drawn0 w w' := by
 have H : (impl_lower.l0 k a0 (a0.size : Int) 0) = some r := h
 clear h
 have H' := am H
 clear H; go_enter Try.func73, Try.ntmps73; go_wp2
 go_loopg [6] k (fun kq v6 w' => ∃ (x6_1 : Int), v6 = .int .i64 x6_1 ∧ Aside0 (impl_lower.l0 kq a0 (a0.size : Int) x6_1 = some r) ∧ Aside0 (kq ≤ k) ∧ Drawn0 w w')
 case atStart => exact ⟨(0), sq, H', ⟨Nat.le_refl _⟩, dr⟩
 case round =>
  clear H'; obtain ⟨x6_1, rfl, HA, HK1, ⟨m1, rfl⟩⟩ := hrel
  cases gk with
  | zero => exact absurd HA.out (by simp [impl_lower.l0])
  | succ k1 =>
   have H := HA.out; clear HA
   simp only [impl_lower.l0] at H
   by_cases c2 : x6_1 < (a0.size : Int)
   ·rw [if_pos c2] at H; have c2b0 := decide_eq_true c2; clear c2
    by_cases c3 : 0 ≤ x6_1
    ·rw [if_pos c3] at H; have c3b0 := decide_eq_true c3; clear c3
     by_cases c4 : x6_1 < (a0.size : Int)
     ·rw [if_pos c4] at H; have c4b0 := decide_eq_true c4; clear c4
      by_cases c6 : (bt a0 x6_1) < 97
      ·rw [if_pos c6] at H; have c6b0 := decide_eq_true c6; clear c6; obtain rfl := Option.some.inj H
       have p5 : 0 ≤ (x6_1 : Int) := of_decide_eq_true ad
       have q5 : x6_1 < (a0.size : Int) := of_decide_eq_true ad
       have hx5 := bt_at a0 x6_1; replace p5 := eq_true p5; replace q5 := eq_true q5; go_wp2; go_ret
       exact ⟨sq, dr⟩
      ·rw [if_neg c6] at H; have c6b0 := decide_eq_false c6; clear c6
       by_cases c8 : (bt a0 x6_1) > 122
       ·rw [if_pos c8] at H; have c8b0 := decide_eq_true c8; clear c8; obtain rfl := Option.some.inj H
        have p5 : 0 ≤ (x6_1 : Int) := of_decide_eq_true ad
        have q5 : x6_1 < (a0.size : Int) := of_decide_eq_true ad
        have hx5 := bt_at a0 x6_1; replace p5 := eq_true p5; replace q5 := eq_true q5
        have p7 : 0 ≤ (x6_1 : Int) := of_decide_eq_true ad
        have q7 : x6_1 < (a0.size : Int) := of_decide_eq_true ad
        have hx7 := bt_at a0 x6_1; replace p7 := eq_true p7; replace q7 := eq_true q7; go_wp2; go_ret
        exact ⟨sq, dr⟩
       ·rw [if_neg c8] at H; have c8b0 := decide_eq_false c8; clear c8
        have H' := am H
        clear H
        have p5 : 0 ≤ (x6_1 : Int) := of_decide_eq_true ad
        have q5 : x6_1 < (a0.size : Int) := of_decide_eq_true ad
        have hx5 := bt_at a0 x6_1; replace p5 := eq_true p5; replace q5 := eq_true q5
        have p7 : 0 ≤ (x6_1 : Int) := of_decide_eq_true ad
        have q7 : x6_1 < (a0.size : Int) := of_decide_eq_true ad
        have hx7 := bt_at a0 x6_1; replace p7 := eq_true p7; replace q7 := eq_true q7; go_wp2
        go_roundg k1
        case measure => have := HK1.out; omega
        case rel => exact ⟨(wrap64 (x6_1 + 1)), sq, H', ⟨b80_⟩, dr⟩
     ·rw [if_neg c4] at H
      exact absurd H (by simp)
    ·rw [if_neg c3] at H
     exact absurd H (by simp)
   ·rw [if_neg c2] at H; have c2b0 := decide_eq_false c2; clear c2; obtain rfl := Option.some.inj H; go_wp2; go_ret
    exact ⟨sq, dr⟩

/-! ### impl_WordOk: function 30 -/
def impl_WordOk.f (k : Nat) (a0 : ByteArray) : Option (Bool) := (impl_within.f (a0.size : Int) 1 12).bind fun t186 => (if t186 = true then ((impl_lower.f k a0).bind fun t187 => (some t187)) else (some false))
theorem impl_WordOk.mono : ∀ a0 k, LeO (impl_WordOk.f k a0) (impl_WordOk.f (k + 1) a0) := by
 intro a0 k
 unfold impl_WordOk.f
 repeat' first | (with_reducible first | exact impl_lower.mono _ _ | exact LeO.refl _ | exact LeO.none _ | refine LeO.ite ?_ ?_ | refine LeO.bind ?_ (fun _ => ?_)) | exact impl_lower.mono _ _ | exact LeO.none _ | refine LeO.ite ?_ ?_ | refine LeO.bind ?_ (fun _ => ?_)
set_option maxHeartbeats 8000000 in
set_option maxRecDepth 100000 in
theorem impl_WordOk.calls (k : Nat) (a0 : ByteArray) (r : Bool) (w : World) (h : impl_WordOk.f k a0 = some r) :
  Calls Try.prog 30 #[.string a0] w fun e w' => e = .returned (.bool r) ∧ Drawn0 w w' := by
 have H : ((impl_within.f (a0.size : Int) 1 12).bind fun t186 => (if t186 = true then ((impl_lower.f k a0).bind fun t187 => (some t187)) else (some false))) = some r := h
 clear h; replace H := Option.bind_eq_some_iff.mp H; obtain ⟨t186, A20, H⟩ := H; replace H : (if t186 = true then ((impl_lower.f k a0).bind fun t187 => (some t187)) else (some false)) = some r := H; have A2 := Aside0.mk A20; clear A20
 by_cases c3 : t186 = true
 ·subst c3
  have H1 : ((impl_lower.f k a0).bind fun t187 => (some t187)) = some r := b32_
  replace H := H1; clear H1
  replace H := Option.bind_eq_some_iff.mp H; obtain ⟨t187, A40, H⟩ := H; replace H : (some t187) = some r := H; have A4 := Aside0.mk A40; clear A40; obtain rfl := Option.some.inj H; go_enter Try.func30, Try.ntmps30
  go_wp2_with (first | ((with_reducible refine gate_callee (f := 72) rfl ?_); refine goesL_ (some 5) rfl rfl Try.func72 (by kernel_rfl) rfl #[.int .i64 (a0.size : Int), .int .i64 1, .int .i64 12] rfl mq ?_; (with_reducible refine (impl_within.calls (a0.size : Int) 1 12 true _ A2.out).mono ?_); rintro e w' ⟨rfl, ⟨nd, rfl⟩⟩; refine ⟨_, rfl, ?_⟩) | (go_at_call 73; (with_reducible refine (impl_lower.calls k a0 t187 _ A4.out).mono ?_); rintro e w' ⟨rfl, ⟨nd, rfl⟩⟩))
  go_ret
  exact ⟨sq, dr⟩
 ·replace c3 := Bool.eq_false_iff.mpr c3; subst c3
  have H1 : (some false) = some r := b18_
  replace H := H1; clear H1
  obtain rfl := Option.some.inj H; go_enter Try.func30, Try.ntmps30
  go_wp2_with (first | ((with_reducible refine gate_callee (f := 72) rfl ?_); refine goesL_ (some 5) rfl rfl Try.func72 (by kernel_rfl) rfl #[.int .i64 (a0.size : Int), .int .i64 1, .int .i64 12] rfl mq ?_; (with_reducible refine (impl_within.calls (a0.size : Int) 1 12 false _ A2.out).mono ?_); rintro e w' ⟨rfl, ⟨nd, rfl⟩⟩; refine ⟨_, rfl, ?_⟩))
  go_ret
  exact ⟨sq, dr⟩

/-! ### stringslite_HasPrefix: function 100 -/
def stringslite_HasPrefix.f (a0 : ByteArray) (a1 : ByteArray) : Option (Bool) := if (a0.size : Int) ≥ (a1.size : Int) then (if 0 ≤ (a1.size : Int) then (if (a1.size : Int) ≤ (a0.size : Int) then (some ((a0.extract 0 a1.size).toList == a1.toList)) else (none)) else (none)) else (some false)
set_option maxHeartbeats 8000000 in
set_option maxRecDepth 100000 in
theorem stringslite_HasPrefix.calls (a0 : ByteArray) (a1 : ByteArray) (r : Bool) (w : World) (h : stringslite_HasPrefix.f a0 a1 = some r) :
  Calls Try.prog 100 #[.string a0, .string a1] w fun e w' => e = .returned (.bool r) ∧ Drawn0 w w' := by
 have H : (if (a0.size : Int) ≥ (a1.size : Int) then (if 0 ≤ (a1.size : Int) then (if (a1.size : Int) ≤ (a0.size : Int) then (some ((a0.extract 0 a1.size).toList == a1.toList)) else (none)) else (none)) else (some false)) = some r := h
 clear h
 by_cases c3 : (a0.size : Int) ≥ (a1.size : Int)
 ·rw [if_pos c3] at H; have c3b0 := decide_eq_true c3
  have c3b1 : decide (a1.size ≤ a0.size) = true := decide_eq_true (Int.ofNat_le.mp c3)
  clear c3
  by_cases c4 : 0 ≤ (a1.size : Int)
  ·rw [if_pos c4] at H; have c4b0 := eq_true c4
   have c4b1 : decide (0 ≤ (a1.size : Int)) = true := decide_eq_true c4
   clear c4
   by_cases c5 : (a1.size : Int) ≤ (a0.size : Int)
   ·rw [if_pos c5] at H; have c5b0 := eq_true c5
    have c5b9 : (a1.size ≤ a0.size) = True := eq_true (by omega)
    have c5b6 : decide (a1.size ≤ a0.size) = true := decide_eq_true (by omega)
    have c5b1 : decide ((a1.size : Int) ≤ (a0.size : Int)) = true := decide_eq_true c5
    clear c5; obtain rfl := Option.some.inj H; go_enter Try.func100, Try.ntmps100; go_wp2; go_ret
    exact ⟨sq, dr⟩
   ·rw [if_neg c5] at H
    exact absurd H (by simp)
  ·rw [if_neg c4] at H
   exact absurd H (by simp)
 ·rw [if_neg c3] at H; have c3b0 := decide_eq_false c3
  have c3b1 : decide (a1.size ≤ a0.size) = false := decide_eq_false (fun h => c3 (Int.ofNat_le.mpr h))
  clear c3; obtain rfl := Option.some.inj H; go_enter Try.func100, Try.ntmps100; go_wp2; go_ret
  exact ⟨sq, dr⟩

/-! ### strings_HasPrefix: function 70 -/
def strings_HasPrefix.f (a0 : ByteArray) (a1 : ByteArray) : Option (Bool) := (stringslite_HasPrefix.f a0 a1).bind fun t188 => (some t188)
set_option maxHeartbeats 8000000 in
set_option maxRecDepth 100000 in
theorem strings_HasPrefix.calls (a0 : ByteArray) (a1 : ByteArray) (r : Bool) (w : World) (h : strings_HasPrefix.f a0 a1 = some r) :
  Calls Try.prog 70 #[.string a0, .string a1] w fun e w' => e = .returned (.bool r) ∧ Drawn0 w w' := by
 have H : ((stringslite_HasPrefix.f a0 a1).bind fun t188 => (some t188)) = some r := h
 clear h; replace H := Option.bind_eq_some_iff.mp H; obtain ⟨t188, A30, H⟩ := H; replace H : (some t188) = some r := H; have A3 := Aside0.mk A30; clear A30; obtain rfl := Option.some.inj H; go_enter Try.func70, Try.ntmps70
 go_wp2_with (first | ((with_reducible refine gate_callee (f := 100) rfl ?_); refine goesL_ (some 7) rfl rfl Try.func100 (by kernel_rfl) rfl #[.string a0, .string a1] rfl mq ?_; (with_reducible refine (stringslite_HasPrefix.calls a0 a1 t188 _ A3.out).mono ?_); rintro e w' ⟨rfl, ⟨nd, rfl⟩⟩; refine ⟨_, rfl, ?_⟩))
 go_ret
 exact ⟨sq, dr⟩

/-! ### stringslite_HasSuffix: function 101 -/
def stringslite_HasSuffix.f (a0 : ByteArray) (a1 : ByteArray) : Option (Bool) := if (a0.size : Int) ≥ (a1.size : Int) then (if 0 ≤ (wrap64 ((a0.size : Int) - (a1.size : Int))) then (if (wrap64 ((a0.size : Int) - (a1.size : Int))) ≤ (a0.size : Int) then (some ((a0.extract ((wrap64 ((a0.size : Int) - (a1.size : Int))) : Int).toNat a0.size).toList == a1.toList)) else (none)) else (none)) else (some false)
set_option maxHeartbeats 8000000 in
set_option maxRecDepth 100000 in
theorem stringslite_HasSuffix.calls (a0 : ByteArray) (a1 : ByteArray) (r : Bool) (w : World) (h : stringslite_HasSuffix.f a0 a1 = some r) :
  Calls Try.prog 101 #[.string a0, .string a1] w fun e w' => e = .returned (.bool r) ∧ Drawn0 w w' := by
 have H : (if (a0.size : Int) ≥ (a1.size : Int) then (if 0 ≤ (wrap64 ((a0.size : Int) - (a1.size : Int))) then (if (wrap64 ((a0.size : Int) - (a1.size : Int))) ≤ (a0.size : Int) then (some ((a0.extract ((wrap64 ((a0.size : Int) - (a1.size : Int))) : Int).toNat a0.size).toList == a1.toList)) else (none)) else (none)) else (some false)) = some r := h
 clear h
 by_cases c3 : (a0.size : Int) ≥ (a1.size : Int)
 ·rw [if_pos c3] at H; have c3b0 := decide_eq_true c3
  have c3b1 : decide (a1.size ≤ a0.size) = true := decide_eq_true (Int.ofNat_le.mp c3)
  clear c3; obtain ⟨ji4, hji4⟩ : ∃ j_ : Int, (wrap64 ((a0.size : Int) - (a1.size : Int))) = j_ := ⟨_, rfl⟩
  replace H : (if 0 ≤ (ji4) then (if (ji4) ≤ (a0.size : Int) then (some ((a0.extract ((ji4) : Int).toNat a0.size).toList == a1.toList)) else (none)) else (none)) = some r := by first | (rw [hji4] at H; exact H) | (simp only [hji4] at H ⊢; exact H)
  have hji4w : (IntKind.i64.wrap ((a0.size : Int) - (a1.size : Int))) = ji4 := (i64_w _).trans hji4
  by_cases c5 : 0 ≤ (ji4)
  ·rw [if_pos c5] at H; have c5b0 := eq_true c5
   have c5b1 : decide (0 ≤ (ji4)) = true := decide_eq_true c5
   clear c5
   by_cases c6 : (ji4) ≤ (a0.size : Int)
   ·rw [if_pos c6] at H; have c6b0 := eq_true c6
    have c6b1 : decide ((ji4) ≤ (a0.size : Int)) = true := decide_eq_true c6
    clear c6; obtain rfl := Option.some.inj H; go_enter Try.func101, Try.ntmps101; go_wp2; go_ret
    exact ⟨by first | rfl | (simp; done) | (simp only [← hji4] <;> (first | rfl | simp)) | (simp [*]; done), dr⟩
   ·rw [if_neg c6] at H
    exact absurd H (by simp)
  ·rw [if_neg c5] at H
   exact absurd H (by simp)
 ·rw [if_neg c3] at H; have c3b0 := decide_eq_false c3
  have c3b1 : decide (a1.size ≤ a0.size) = false := decide_eq_false (fun h => c3 (Int.ofNat_le.mpr h))
  clear c3; obtain rfl := Option.some.inj H; go_enter Try.func101, Try.ntmps101; go_wp2; go_ret
  exact ⟨sq, dr⟩

/-! ### strings_HasSuffix: function 71 -/
def strings_HasSuffix.f (a0 : ByteArray) (a1 : ByteArray) : Option (Bool) := (stringslite_HasSuffix.f a0 a1).bind fun t189 => (some t189)
set_option maxHeartbeats 8000000 in
set_option maxRecDepth 100000 in
theorem strings_HasSuffix.calls (a0 : ByteArray) (a1 : ByteArray) (r : Bool) (w : World) (h : strings_HasSuffix.f a0 a1 = some r) :
  Calls Try.prog 71 #[.string a0, .string a1] w fun e w' => e = .returned (.bool r) ∧ Drawn0 w w' := by
 have H : ((stringslite_HasSuffix.f a0 a1).bind fun t189 => (some t189)) = some r := h
 clear h; replace H := Option.bind_eq_some_iff.mp H; obtain ⟨t189, A30, H⟩ := H; replace H : (some t189) = some r := H; have A3 := Aside0.mk A30; clear A30; obtain rfl := Option.some.inj H; go_enter Try.func71, Try.ntmps71
 go_wp2_with (first | ((with_reducible refine gate_callee (f := 101) rfl ?_); refine goesL_ (some 7) rfl rfl Try.func101 (by kernel_rfl) rfl #[.string a0, .string a1] rfl mq ?_; (with_reducible refine (stringslite_HasSuffix.calls a0 a1 t189 _ A3.out).mono ?_); rintro e w' ⟨rfl, ⟨nd, rfl⟩⟩; refine ⟨_, rfl, ?_⟩))
 go_ret
 exact ⟨sq, dr⟩

/-! ### impl_upper: function 93 -/
def impl_upper.f (a0 : Int) : Option (Bool) := if a0 ≥ 65 then (some (decide (a0 ≤ 90))) else (some false)
set_option maxHeartbeats 8000000 in
set_option maxRecDepth 100000 in
theorem impl_upper.calls (a0 : Int) (r : Bool) (w : World) (h : impl_upper.f a0 = some r) :
  Calls Try.prog 93 #[.int .u8 a0] w fun e w' => e = .returned (.bool r) ∧ Drawn0 w w' := by
 have H : (if a0 ≥ 65 then (some (decide (a0 ≤ 90))) else (some false)) = some r := h
 clear h
 by_cases c2 : a0 ≥ 65
 ·rw [if_pos c2] at H; have c2b0 := decide_eq_true c2; clear c2; obtain rfl := Option.some.inj H; go_enter Try.func93, Try.ntmps93; go_wp2; go_ret
  exact ⟨sq, dr⟩
 ·rw [if_neg c2] at H; have c2b0 := decide_eq_false c2; clear c2; obtain rfl := Option.some.inj H; go_enter Try.func93, Try.ntmps93; go_wp2; go_ret
  exact ⟨sq, dr⟩

end Go.Proofs.Ytedfcehhgbeibaa.QFnForms

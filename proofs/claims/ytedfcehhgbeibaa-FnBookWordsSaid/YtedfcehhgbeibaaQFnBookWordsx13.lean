import Derived.Test.YtedfcehhgbeibaaQFnBookWordsx0
import Derived.Test.YtedfcehhgbeibaaQFnBookWordsx9
import Derived.Test.YtedfcehhgbeibaaQFnBookWordsx10
import Derived.Test.YtedfcehhgbeibaaQFnBookWordsx12
import Derived.Test.YtedfcehhgbeibaaVMSh2
namespace Go.Proofs.Ytedfcehhgbeibaa.QFnBookWords
open Go.RowKit Go.Proofs.YtedfcehhgbeibaaW.PrintWords Go.Proofs.YtedfcehhgbeibaaW.PrintLast Go.Proofs.YtedfcehhgbeibaaW.PrintMore Go.Proofs.Ytedfcehhgbeibaa.Sh
attribute [local go_sem] max2_int min2_int max_two min_two max_three min_three max_four min_four   -- for this text's walks alone
set_option linter.unusedVariables false
set_option linter.unusedSimpArgs false
-- shrunk

/-! ### spec_l2Forms: function 55 -/
def spec_l2Forms.f (k : Nat) (l0 : List (S44)) (a1_0 : ByteArray) (a1_1 : ByteArray) : Option (List ByteArray) := (spec_l2One.f k l0 a1_1 false (([a1_0] : List ByteArray))).bind fun t243 => ((spec_l2One.f k l0 a1_1 true t243).bind fun t246 => (some t246))
theorem spec_l2Forms.mono : ∀ a0 a1 a2 k, LeO (spec_l2Forms.f k a0 a1 a2) (spec_l2Forms.f (k + 1) a0 a1 a2) := by
 intro a0 a1 a2 k
 unfold spec_l2Forms.f
 repeat' first | (with_reducible first | exact spec_l2One.mono _ _ _ _ _ | exact LeO.refl _ | exact LeO.none _ | refine LeO.ite ?_ ?_ | refine LeO.bind ?_ (fun _ => ?_)) | exact spec_l2One.mono _ _ _ _ _ | exact LeO.none _ | refine LeO.ite ?_ ?_ | refine LeO.bind ?_ (fun _ => ?_)
def spec_l2Forms.T1 : Bool × List (List Nat × List Nat) := (true, [([], []), ([], []), ([1], [1]), ([], []), ([], []), ([4], [4]), ([], []), ([6], [6]), ([7], [7]), ([3, 5, 8], [3, 5, 8]), ([0, 2, 9, 9], [0, 2, 9]), ([10, 10, 0, 1, 2, 3, 4, 5, 6, 7, 8, 9, 10], [10])])
def spec_l2Forms.B1 : List Nat := [0, 0, 2, 0, 0, 16, 0, 64, 192, 504, 1023, 2047]
theorem spec_l2Forms.tab1 : rtab .any (opsOf Try.f55 1) = spec_l2Forms.T1 := by kernel_rfl
theorem spec_l2Forms.bits1 : waitsOk spec_l2Forms.T1.2 spec_l2Forms.B1 = true := by kernel_rfl
set_option maxHeartbeats 8000000 in
set_option maxRecDepth 100000 in
theorem spec_l2Forms.calls (k : Nat) (A0 : Option Addr) (c0 : Nat) (l0 : List (S44)) (a1_0 : ByteArray) (a1_1 : ByteArray) (r : List ByteArray) (w : World) (hr0 : Kd.C k44 w A0 l0.length l0) (hc0 : l0.length ≤ c0) (h : spec_l2Forms.f k l0 a1_0 a1_1 = some r) :
  Calls Try.prog 55 #[.slice A0 l0.length c0, .agg #[.string a1_0, .string a1_1]] w fun e w' => ∃ v0_ : Value, e = .returned (v0_) ∧ Kd.V Kd.string 9 w' w.heap.size (fun k_ => (w.heap.size ≤ k_)) v0_ r ∧ Below w.heap.size w w' := by
 have hu31 := Try.underlying31; have HR0 := am hr0; have HC0 := am hc0; clear hr0 hc0; have HB := am (Below.refl w.heap.size w)
 have H : ((spec_l2One.f k l0 a1_1 false (([a1_0] : List ByteArray))).bind fun t243 => ((spec_l2One.f k l0 a1_1 true t243).bind fun t246 => (some t246))) = some r := h
 clear h; obtain ⟨y240, hy240⟩ : ∃ y_ : List ByteArray, y_ = (([a1_0] : List ByteArray)) := ⟨_, rfl⟩
 replace H : ((spec_l2One.f k l0 a1_1 false y240).bind fun t243 => ((spec_l2One.f k l0 a1_1 true t243).bind fun t246 => (some t246))) = some r := by first | (rw [hy240]; with_reducible exact H) | (have H2_ := (Option.bind_some _ _).symm.trans H; rw [hy240]; with_reducible exact H2_) | (have H2_ := (Option.bind_some _ _).symm.trans H; with_reducible exact H2_) | with_reducible exact H | (rw [hy240]; exact H) | exact H
 have Ny240 := am hy240; clear hy240; replace H := Option.bind_eq_some_iff.mp H; obtain ⟨t243, A30, H⟩ := H; replace H : ((spec_l2One.f k l0 a1_1 true t243).bind fun t246 => (some t246)) = some r := H; have A3 := Aside0.mk A30; clear A30; replace H := Option.bind_eq_some_iff.mp H; obtain ⟨t246, A40, H⟩ := H; replace H : (some t246) = some r := H; have A4 := Aside0.mk A40; clear A40; obtain rfl := Option.some.inj H; go_enter Try.func55, Try.ntmps55
 try go_wp2_with (first | ((with_reducible refine gate_dst (N := 3) rfl ?_); refine bx 3 (cs := #[.string a1_0, .string a1_1]) (t := 31) ?_; intro gb239 hg w5 hbox hb; have BK239 := am (hbox); have GW239 := am ((b17_ : w.heap.size ≤ gb239)); have GE239 := am ((b17_ : w.heap.size ≤ gb239)); replace HB := am (below_step bel hb); clear hb hbox hg))
 replace BK239 := am (blk_drew BK239.out); replace HB := am (below_drew1 HB.out)
 refine st (n := 12) (S := fun w' => w'.cell? ⟨gb239, 0, none⟩ = some (.string a1_0) ∧ w'.cell? ⟨gb239, 1, none⟩ = some (.string a1_1)) (ds := []) ⟨(blk_cell BK239.out 0).trans rfl, (blk_cell BK239.out 1).trans rfl⟩ (fun hHeld => ?_); refine with_tabW spec_l2Forms.tab1 spec_l2Forms.bits1 (fun HT_ HW_ => ?_)
 generalize w5.drew = w6 at BK239 HB hHeld ⊢
 refine pu 0 5 ?_
 refine pu 1 6 ?_
 refine pu 3 8 ?_
 refine pu 4 9 ?_
 refine pu 6 11 ?_
 refine tk2 2 7 hHeld ?_
 refine tk2 5 10 hHeld ?_
 refine tk2 7 12 hHeld ?_
 refine on1 8 13 (fun K hK => ?_)
 refine Kd.R_lit_step Kd.string _ 9 ?hg (N := 13) ?hd (xs := ([a1_0] : List ByteArray)) (inner := [.string a1_0]) (ok := fun _ => True) (okp := fun _ => True) ?hr ?hp (fun _ hk => hk) trivial (Below.refl _ _) (Nat.le_refl _) (by simp) ?_; (case hd => rfl); (case hg => rfl); (case hr => first | (go_simp; done) | (go_simp; rfl)); (case hp => exact (Reps.one (show Kd.M Kd.string _ _ _ a1_0 [.string a1_0] from rfl) (Reps.none _ _)))
 intro v241 w7 ho8 hb hg_ hnew_; clear hg_ hnew_
 (first | rw [← Ny240.out] at ho8 | (simp only [Int.reduceToNat] at ho8; rw [← Ny240.out] at ho8) | (simp only [Int.toNat_natCast] at ho8; rw [← Ny240.out] at ho8))
 have HO242 := am (Kd.R_lower (Kd.R_newM (M := fun k_ => (w.heap.size ≤ k_)) ho8 (below_size (bel1 GE239.out)) (fun k_ h_ => h_)) (below_size (bel1 GE239.out))); replace BK239 := am (blk_below (g := gb239) (o := .cells #[.string a1_0, .string a1_1] 31 (0, 0)) (bq BK239.out) hb); replace HB := am (below_step (bel1 GE239.out) hb); clear hb ho8; obtain ⟨Ao9, co9, eo9⟩ := Kd.R_slice HO242.out
 (first | subst eo9 | (injection eo9 with f1_ f2_ f3_; have f4_ := f1_.symm; have f5_ := f3_.symm; clear f1_ f2_ f3_; subst f4_; subst f5_))
 refine hK.out _ _ ⟨(blk_cell BK239.out 0).trans rfl, (blk_cell BK239.out 1).trans rfl⟩ (fun hHeld => ?_)
 clear hK K
 refine norm_ (a' := ?_) ?_ ?_
 rotate_left
 ·show Act.put _ (some 13) _ = _
  simp only [Act.put, List.setIfInBounds_toArray, List.set_cons_zero, List.set_cons_succ, i64_w, i32_w]
  rfl
 refine on1 9 14 (fun K hK => ?_)
 refine goes_ Try.func91 (by kernel_rfl) rfl #[.slice A0 l0.length c0, .string a1_1, .bool false, .slice Ao9 y240.length co9] (by rfl) rfl rfl mq ?_
 with_reducible refine (spec_l2One.calls k _ _ l0 a1_1 false _ _ y240 t243 _ ?side1 ?side2 ?side3 ?side4 A3.out).mono ?_
 (case side1 => exact cq (Kd.C_below HR0.out HB.out)); (case side2 => exact HC0.out); (case side3 => exact cq (Kd.R_reads' HO242.out).2.2); (case side4 => exact (Kd.R_reads' HO242.out).2.1)
 rintro e w10 ⟨v244, rfl, ho0, hb⟩
 refine ⟨_, rfl, ?_⟩
 have HO245 := am (Kd.V_lower (Kd.V_mono (ok' := fun k_ => (w.heap.size ≤ k_) ∧ some k_ ≠ (.slice Ao9 y240.length co9 : Value).ownBlock ∧ k_ ≠ gb239) ho0 (fun k_ hk_ => ⟨(Nat.le_trans (below_size (bel1 GE239.out)) hk_), (Kd.fresh' (Kd.R_lt (rq HO242.out)) k_ hk_), (Kd.freshB (g := gb239) (o := .cells #[.string a1_0, .string a1_1] 31 (0, 0)) (bq BK239.out) k_ hk_)⟩)) (below_size (bel1 GE239.out))); replace HO242 := am (Kd.R_below (rq HO242.out) hb); replace BK239 := am (blk_below (g := gb239) (o := .cells #[.string a1_0, .string a1_1] 31 (0, 0)) (bq BK239.out) hb); replace HB := am (below_step (bel1 GE239.out) hb)
 (try clear hb)
 (try clear hb2)
 (try clear hk)
 (try clear hi)
 (try clear ho0)
 obtain ⟨Ao11, co11, eo11⟩ := Kd.V_slice HO245.out
 (first | subst eo11 | (injection eo11 with f1_ f2_ f3_; have f4_ := f1_.symm; have f5_ := f3_.symm; clear f1_ f2_ f3_; subst f4_; subst f5_))
 refine hK.out _ _ ⟨(blk_cell BK239.out 0).trans rfl, (blk_cell BK239.out 1).trans rfl⟩ (fun hHeld => ?_)
 clear hK K
 refine norm_ (a' := ?_) ?_ ?_
 rotate_left
 ·show Act.put _ (some 14) _ = _
  simp only [Act.put, List.setIfInBounds_toArray, List.set_cons_zero, List.set_cons_succ, i64_w, i32_w]
  rfl
 refine on1 10 15 (fun K hK => ?_)
 refine goes_ Try.func91 (by kernel_rfl) rfl #[.slice A0 l0.length c0, .string a1_1, .bool true, .slice Ao11 t243.length co11] (by rfl) rfl rfl mq ?_
 with_reducible refine (spec_l2One.calls k _ _ l0 a1_1 true _ _ t243 t246 _ ?side1 ?side2 ?side3 ?side4 A4.out).mono ?_
 (case side1 => exact cq (Kd.C_below HR0.out HB.out)); (case side2 => exact HC0.out); (case side3 => exact cq (Kd.V_reads' HO245.out).2.2); (case side4 => exact (Kd.V_reads' HO245.out).2.1)
 rintro e w12 ⟨v247, rfl, ho0, hb⟩
 refine ⟨_, rfl, ?_⟩
 replace HO245 := am (Kd.V_below (vq HO245.out) hb); have HO248 := am (Kd.V_lower (Kd.V_mono (ok' := fun k_ => (w.heap.size ≤ k_) ∧ some k_ ≠ (.slice Ao9 y240.length co9 : Value).ownBlock ∧ k_ ≠ gb239) ho0 (fun k_ hk_ => ⟨(Nat.le_trans (below_size (bel1 GE239.out)) hk_), (Kd.fresh' (Kd.R_lt (rq HO242.out)) k_ hk_), (Kd.freshB (g := gb239) (o := .cells #[.string a1_0, .string a1_1] 31 (0, 0)) (bq BK239.out) k_ hk_)⟩)) (below_size (bel1 GE239.out))); replace HO242 := am (Kd.R_below (rq HO242.out) hb); replace BK239 := am (blk_below (g := gb239) (o := .cells #[.string a1_0, .string a1_1] 31 (0, 0)) (bq BK239.out) hb); replace HB := am (below_step (bel1 GE239.out) hb)
 (try clear hb)
 (try clear hb2)
 (try clear hk)
 (try clear hi)
 (try clear ho0)
 refine hK.out _ _ ⟨(blk_cell BK239.out 0).trans rfl, (blk_cell BK239.out 1).trans rfl⟩ (fun hHeld => ?_)
 clear hK K
 refine norm_ (a' := ?_) ?_ ?_
 rotate_left
 ·show Act.put _ (some 15) _ = _
  simp only [Act.put, List.setIfInBounds_toArray, List.set_cons_zero, List.set_cons_succ, i64_w, i32_w]
  rfl
 refine pu 11 4 ?_
 refine done_ (done_of HT_.out (by kernel_rfl)) ?_
 try go_wp2
 go_ret
 exact ⟨_, eq_, by (with_reducible repeat (first | apply Kd.V_alloc | apply Kd.V_drewN | apply Kd.V_drew)); exact Kd.V_mono HO248.out (fun _ hk => hk.1), bel1 GE239.out⟩

/-! ### spec_l2Words: function 75 -/
mutual
def spec_l2Words.l0 : Nat → List ByteArray → Int → List (S44) → List (S31) → Option (List ByteArray)
 | 0, _, _, _, _ => none
 | k + 1, x3, x4, x250000, x250001 => if x4 < (x250001.length : Int) then (if 0 ≤ x4 then ((spec_l2Forms.f k x250000 ((rd_T31 x250001 x4).f0) ((rd_T31 x250001 x4).f1)).bind fun t254 => (spec_l2Words.l1 k x3 x4 t254 0 x250000 x250001)) else (none)) else (some x3)
def spec_l2Words.l1 : Nat → List ByteArray → Int → List ByteArray → Int → List (S44) → List (S31) → Option (List ByteArray)
 | 0, _, _, _, _, _, _ => none
 | k + 1, x3, x4, x5, x6, x250000, x250001 => if x6 < (x5.length : Int) then (if 0 ≤ x6 then ((spec_l1Put.f k x3 (rdOf ByteArray.empty x5 x6)).bind fun t258 => (spec_l2Words.l1 k t258 x4 x5 (wrap64 (x6 + 1)) x250000 x250001)) else (none)) else (spec_l2Words.l0 k x3 (wrap64 (x4 + 1)) x250000 x250001)
end
def spec_l2Words.f (k : Nat) (l0_0 : List (S44)) (l0_1 : List (S31)) : Option (List ByteArray) := spec_l2Words.l0 k (([] : List ByteArray)) 0 l0_0 l0_1
theorem spec_l2Words.mono_l : ∀ k, (∀ y0 y1 y2 y3, LeO (spec_l2Words.l0 k y0 y1 y2 y3) (spec_l2Words.l0 (k + 1) y0 y1 y2 y3)) ∧ (∀ y0 y1 y2 y3 y4 y5, LeO (spec_l2Words.l1 k y0 y1 y2 y3 y4 y5) (spec_l2Words.l1 (k + 1) y0 y1 y2 y3 y4 y5))
 | 0 => ⟨fun _ _ _ _ r h => by simp [spec_l2Words.l0] at h, fun _ _ _ _ _ _ r h => by simp [spec_l2Words.l1] at h⟩
 | k + 1 => by
  obtain ⟨ih0, ih1⟩ := spec_l2Words.mono_l k
  refine ⟨?_, ?_⟩
  ·intro y0 y1 y2 y3
   unfold spec_l2Words.l0
   repeat' first | (with_reducible first | exact ih0 _ _ _ _ | exact ih1 _ _ _ _ _ _ | exact spec_l1Put.mono _ _ _ | exact spec_l2Forms.mono _ _ _ _ | exact LeO.refl _ | exact LeO.none _ | refine LeO.ite ?_ ?_ | refine LeO.bind ?_ (fun _ => ?_)) | exact ih0 _ _ _ _ | exact ih1 _ _ _ _ _ _ | exact spec_l1Put.mono _ _ _ | exact spec_l2Forms.mono _ _ _ _ | exact LeO.none _ | refine LeO.ite ?_ ?_ | refine LeO.bind ?_ (fun _ => ?_)
  ·intro y0 y1 y2 y3 y4 y5
   unfold spec_l2Words.l1
   repeat' first | (with_reducible first | exact ih0 _ _ _ _ | exact ih1 _ _ _ _ _ _ | exact spec_l1Put.mono _ _ _ | exact spec_l2Forms.mono _ _ _ _ | exact LeO.refl _ | exact LeO.none _ | refine LeO.ite ?_ ?_ | refine LeO.bind ?_ (fun _ => ?_)) | exact ih0 _ _ _ _ | exact ih1 _ _ _ _ _ _ | exact spec_l1Put.mono _ _ _ | exact spec_l2Forms.mono _ _ _ _ | exact LeO.none _ | refine LeO.ite ?_ ?_ | refine LeO.bind ?_ (fun _ => ?_)
theorem spec_l2Words.mono : ∀ a0 a1 k, LeO (spec_l2Words.f k a0 a1) (spec_l2Words.f (k + 1) a0 a1) := by
 intro a0 a1 k; obtain ⟨ih0, ih1⟩ := spec_l2Words.mono_l k
 unfold spec_l2Words.f
 repeat' first | (with_reducible first | exact ih0 _ _ _ _ | exact ih1 _ _ _ _ _ _ | exact spec_l1Put.mono _ _ _ | exact spec_l2Forms.mono _ _ _ _ | exact LeO.refl _ | exact LeO.none _ | refine LeO.ite ?_ ?_ | refine LeO.bind ?_ (fun _ => ?_)) | exact ih0 _ _ _ _ | exact ih1 _ _ _ _ _ _ | exact spec_l1Put.mono _ _ _ | exact spec_l2Forms.mono _ _ _ _ | exact LeO.none _ | refine LeO.ite ?_ ?_ | refine LeO.bind ?_ (fun _ => ?_)
def spec_l2Words.T5 : Bool × List (List Nat × List Nat) := (true, [([], []), ([0], [0]), ([], []), ([2], [2]), ([], []), ([3, 4], [3, 4]), ([5], [5]), ([1, 6], [1, 6]), ([7, 7, 0, 1, 2, 3, 4, 5, 6, 7], [7])])
def spec_l2Words.B5 : List Nat := [0, 1, 0, 4, 0, 28, 60, 127, 255]
theorem spec_l2Words.tab5 : rtab .any (opsOf Try.f75 5) = spec_l2Words.T5 := by kernel_rfl
theorem spec_l2Words.bits5 : waitsOk spec_l2Words.T5.2 spec_l2Words.B5 = true := by kernel_rfl
set_option maxHeartbeats 8000000 in
set_option maxRecDepth 100000 in
theorem spec_l2Words.calls (k : Nat) (A0_0 : Option Addr) (c0_0 : Nat) (l0_0 : List (S44)) (A0_1 : Option Addr) (c0_1 : Nat) (l0_1 : List (S31)) (r : List ByteArray) (w : World) (hr0_0 : Kd.C k44 w A0_0 l0_0.length l0_0) (hc0_0 : l0_0.length ≤ c0_0) (hr0_1 : Kd.C k31 w A0_1 l0_1.length l0_1) (hc0_1 : l0_1.length ≤ c0_1) (h : spec_l2Words.f k l0_0 l0_1 = some r) :
  Calls Try.prog 75 #[.agg #[.slice A0_0 l0_0.length c0_0, .slice A0_1 l0_1.length c0_1]] w fun e w' => ∃ v0_ : Value, e = .returned (v0_) ∧ Kd.V Kd.string 9 w' w.heap.size (fun k_ => (w.heap.size ≤ k_)) v0_ r ∧ Below w.heap.size w w' := by
 have hu55 := Try.underlying55; have hu31 := Try.underlying31; have HR0_0 := am hr0_0; have HC0_0 := am hc0_0; clear hr0_0 hc0_0; have HR0_1 := am hr0_1; have HC0_1 := am hc0_1; clear hr0_1 hc0_1; have HB := am (Below.refl w.heap.size w)
 have H : (spec_l2Words.l0 k (([] : List ByteArray)) 0 l0_0 l0_1) = some r := h
 clear h; obtain ⟨y250, hy250⟩ : ∃ y_ : List ByteArray, y_ = (([] : List ByteArray)) := ⟨_, rfl⟩
 replace H : (spec_l2Words.l0 k y250 0 l0_0 l0_1) = some r := by first | (rw [hy250]; with_reducible exact H) | (have H2_ := (Option.bind_some _ _).symm.trans H; rw [hy250]; with_reducible exact H2_) | (have H2_ := (Option.bind_some _ _).symm.trans H; with_reducible exact H2_) | with_reducible exact H | (rw [hy250]; exact H) | exact H
 have Ny250 := am hy250; clear hy250
 have H' := am H
 clear H; go_enter Try.func75, Try.ntmps75
 go_wp2_with (first | ((with_reducible refine gate_dst (N := 1) rfl ?_); refine bx 1 (cs := #[.slice A0_0 l0_0.length c0_0, .slice A0_1 l0_1.length c0_1]) (t := 55) ?_; intro gb249 hg w2 hbox hb; have BK249 := am (hbox); have GW249 := am ((b17_ : w.heap.size ≤ gb249)); have GE249 := am ((b17_ : w.heap.size ≤ gb249)); replace HB := am (below_step bel hb); clear hb hbox hg) | ((with_reducible refine gate_dst (N := 7) rfl ?_); refine Kd.R_lit Kd.string _ 9 ?hg (N := 7) ?hd (xs := ([] : List ByteArray)) (inner := []) (ok := fun _ => True) (okp := fun _ => True) ?hr ?hp (fun _ hk => hk) trivial (Below.refl _ _) (Nat.le_refl _) (by simp) ?_; (case hd => rfl); (case hg => rfl); (case hr => first | (go_simp; done) | (go_simp; rfl)); (case hp => exact (Reps.none _ _)); intro v251 w3 ho4 hb hg_ hnew_; clear hg_ hnew_; (first | rw [← Ny250.out] at ho4 | (simp only [Int.reduceToNat] at ho4; rw [← Ny250.out] at ho4) | (simp only [Int.toNat_natCast] at ho4; rw [← Ny250.out] at ho4)); have HO252 := am (Kd.R_lower (Kd.R_newM (M := fun k_ => (w.heap.size ≤ k_)) ho4 (below_size (bel1 GE249.out)) (fun k_ h_ => h_)) (below_size (bel1 GE249.out))); replace BK249 := am (blk_below (g := gb249) (o := .cells #[.slice A0_0 l0_0.length c0_0, .slice A0_1 l0_1.length c0_1] 55 (0, 0)) (bq BK249.out) hb); replace HB := am (below_step (bel1 GE249.out) hb); clear hb ho4))
 go_loopg [3, 4] k (fun kq v3 v4 w' => ∃ (x3_1 : List ByteArray) (x4_1 : Int), v4 = .int .i64 x4_1 ∧ Aside0 (spec_l2Words.l0 kq x3_1 x4_1 l0_0 l0_1 = some r) ∧ Aside0 (kq ≤ k) ∧ Aside0 (Kd.V Kd.string 9 w' w.heap.size (fun k_ => (w.heap.size ≤ k_) ∧ k_ ≠ gb249) v3 x3_1) ∧ Aside0 (w'.heap[gb249]? = some (.cells #[(.slice A0_0 l0_0.length c0_0), (.slice A0_1 l0_1.length c0_1)] 55 (0, 0))) ∧ Aside0 (Below w.heap.size w w'))
 case atStart => exact ⟨(y250), (0), sq, H', ⟨Nat.le_refl _⟩, ⟨Kd.R_V (rq (Kd.R_mono (Kd.R_types HO252.out BK249.out (by decide)) (fun _ hk => ⟨hk.1.1, hk.2⟩)))⟩, ⟨bq BK249.out⟩, ⟨bel1 GE249.out⟩⟩
 case round =>
  clear H'; (try clear p2); obtain ⟨x3_1, x4_1, rfl, HA, HK1, HO_3, BK249, HB⟩ := hrel
  cases gk with
  | zero => exact absurd HA.out (by simp [spec_l2Words.l0])
  | succ k1 =>
   have H := HA.out; clear HA
   simp only [spec_l2Words.l0] at H
   by_cases c5 : x4_1 < (l0_1.length : Int)
   ·rw [if_pos c5] at H; have c5b0 := decide_eq_true c5; clear c5
    by_cases c6 : 0 ≤ x4_1
    ·rw [if_pos c6] at H; have c6b0 := decide_eq_true c6; clear c6; replace H := Option.bind_eq_some_iff.mp H; obtain ⟨t254, A70, H⟩ := H; replace H : (spec_l2Words.l1 k1 x3_1 x4_1 t254 0 l0_0 l0_1) = some r := H; have A7 := Aside0.mk A70; clear A70
     have H' := am H
     clear H; have hcz8_0 := bc BK249.out 0; have hcz8_1 := bc BK249.out 1; have hfz8_0 := bf BK249.out 0; have hfz8_1 := bf BK249.out 1
     try go_wp2
     replace HO_3 := am (Kd.V_drew HO_3.out); replace BK249 := am (blk_drew BK249.out); replace HB := am (below_drew1 HB.out)
     have p253 : 0 ≤ (x4_1 : Int) := of_decide_eq_true ad
     have q253 : x4_1 < (l0_1.length : Int) := of_decide_eq_true ad
     obtain ⟨ad253, e253, hx253_0, hx253_1⟩ := at_T31 HR0_1.out x4_1 p253 q253; have hw253_1 := hx253_1; have hw253_0 := hx253_0
     cases e253
     replace hx253_0 := kp HB.out hx253_0; replace hx253_1 := kp HB.out hx253_1; replace p253 := eq_true p253; replace q253 := eq_true q253
     refine st (n := 9) (S := fun w' => w'.cell? ⟨gb249, 0, none⟩ = some (.slice A0_0 l0_0.length c0_0) ∧ w'.cell? ⟨gb249, 1, none⟩ = some (.slice (some ad253) l0_1.length c0_1) ∧ w'.cell? (ad253.add ((x4_1).toNat * 2)) = some (.string ((rd_T31 l0_1 x4_1).f0)) ∧ w'.cell? ⟨(ad253.add ((x4_1).toNat * 2)).block, (ad253.add ((x4_1).toNat * 2)).off + 1, none⟩ = some (.string ((rd_T31 l0_1 x4_1).f1))) (ds := []) ⟨(blk_cell BK249.out 0).trans rfl, (blk_cell BK249.out 1).trans rfl, (kp HB.out hw253_0), (kp HB.out hw253_1)⟩ (fun hHeld => ?_); refine with_tabW spec_l2Words.tab5 spec_l2Words.bits5 (fun HT_ HW_ => ?_)
     generalize wr.drew = w9 at HO_3 BK249 HB hx253_0 hx253_1 hHeld ⊢
     refine pu 0 15 ?_
     refine pu 2 17 ?_
     refine pu 4 19 ?_
     refine tk4 1 16 hHeld ?_
     refine tk4 3 18 hHeld ?_
     refine pu 5 20 ?_
     refine tk4 6 21 hHeld ?_
     refine on1 7 22 (fun K hK => ?_)
     refine goes_ Try.func55 (by kernel_rfl) rfl #[.slice A0_0 l0_0.length c0_0, .agg #[.string ((rd_T31 l0_1 x4_1).f0), .string ((rd_T31 l0_1 x4_1).f1)]] (by rfl) rfl rfl mq ?_
     with_reducible refine (spec_l2Forms.calls k1 _ _ l0_0 ((rd_T31 l0_1 x4_1).f0) ((rd_T31 l0_1 x4_1).f1) t254 _ ?side1 ?side2 A7.out).mono ?_
     (case side1 => exact cq (Kd.C_below HR0_0.out HB.out)); (case side2 => exact HC0_0.out)
     rintro e w10 ⟨v255, rfl, ho0, hb⟩
     refine ⟨_, rfl, ?_⟩
     replace HO_3 := am (Kd.V_below (vq HO_3.out) hb); have HO256 := am (Kd.V_lower (Kd.V_mono (ok' := fun k_ => (w.heap.size ≤ k_) ∧ k_ ≠ gb249) ho0 (fun k_ hk_ => ⟨(Nat.le_trans (below_size (bel1 GE249.out)) hk_), (Kd.freshB (g := gb249) (o := .cells #[.slice A0_0 l0_0.length c0_0, .slice (some ad253) l0_1.length c0_1] 55 (0, 0)) (bq BK249.out) k_ hk_)⟩)) (below_size (bel1 GE249.out))); replace BK249 := am (blk_below (g := gb249) (o := .cells #[.slice A0_0 l0_0.length c0_0, .slice (some ad253) l0_1.length c0_1] 55 (0, 0)) (bq BK249.out) hb); replace HB := am (below_step (bel1 GE249.out) hb)
     (try clear hb)
     (try clear hb2)
     (try clear hk)
     (try clear hi)
     (try clear ho0)
     refine hK.out _ _ ⟨(blk_cell BK249.out 0).trans rfl, (blk_cell BK249.out 1).trans rfl, (kp HB.out hw253_0), (kp HB.out hw253_1)⟩ (fun hHeld => ?_)
     clear hK K
     refine norm_ (a' := ?_) ?_ ?_
     rotate_left
     ·show Act.put _ (some 22) _ = _
      simp only [Act.put, List.setIfInBounds_toArray, List.set_cons_zero, List.set_cons_succ, i64_w, i32_w]
      rfl
     refine pu 8 5 ?_
     refine done_ (done_of HT_.out (by kernel_rfl)) ?_
     try go_wp2
     go_loopg [3, 6] k1 (fun kq v3 v6 w' => ∃ (x3_2 : List ByteArray) (x6_2 : Int), v6 = .int .i64 x6_2 ∧ Aside0 (spec_l2Words.l1 kq x3_2 x4_1 t254 x6_2 l0_0 l0_1 = some r) ∧ Aside0 (kq ≤ k1) ∧ Aside0 (Kd.V Kd.string 9 w' w.heap.size (fun k_ => (w.heap.size ≤ k_) ∧ k_ ≠ gb249) v3 x3_2) ∧ Aside0 (Kd.V Kd.string 9 w' w.heap.size (fun k_ => (w.heap.size ≤ k_) ∧ k_ ≠ gb249) v255 t254) ∧ Aside0 (w'.heap[gb249]? = some (.cells #[(.slice A0_0 l0_0.length c0_0), (.slice (some ad253) l0_1.length c0_1)] 55 (0, 0))) ∧ Aside0 (Below w.heap.size w w'))
     case atStart => exact ⟨(x3_1), (0), sq, H', ⟨Nat.le_refl _⟩, ⟨vq HO_3.out⟩, ⟨vq HO256.out⟩, ⟨bq BK249.out⟩, ⟨bel1 GE249.out⟩⟩
     case round =>
      clear H'; (try clear p2); (try clear q2); (try clear hx2); (try clear c5); (try clear c5b0); (try clear c6); (try clear c6b0); (try clear c7); (try clear hcz8_0); (try clear hcz8_1); (try clear hfz8_0); (try clear hfz8_1); (try clear hx253_0); (try clear hx253_1); (try clear p2); (try clear p253); (try clear q253); obtain ⟨x3_2, x6_2, rfl, HA, HK2, HO_3, HO_5, BK249, HB⟩ := hrel
      cases gk with
      | zero => exact absurd HA.out (by simp [spec_l2Words.l1])
      | succ k2 =>
       have H := HA.out; clear HA
       simp only [spec_l2Words.l1] at H
       by_cases c11 : x6_2 < (t254.length : Int)
       ·rw [if_pos c11] at H; have c11b0 := decide_eq_true c11; clear c11
        by_cases c12 : 0 ≤ x6_2
        ·rw [if_pos c12] at H; have c12b0 := decide_eq_true c12; clear c12; replace H := Option.bind_eq_some_iff.mp H; obtain ⟨t258, A130, H⟩ := H; replace H : (spec_l2Words.l1 k2 t258 x4_1 t254 (wrap64 (x6_2 + 1)) l0_0 l0_1) = some r := H; have A13 := Aside0.mk A130; clear A130
         have H' := am H
         clear H; obtain ⟨Ao14, co14, eo14⟩ := Kd.V_slice HO_5.out; subst eo14
         have p257 : 0 ≤ (x6_2 : Int) := of_decide_eq_true ad
         have q257 : x6_2 < (t254.length : Int) := of_decide_eq_true ad
         obtain ⟨ad257, e257, hx257_0⟩ := Kd.at_string (Kd.V_reads' HO_5.out).2.2 x6_2 p257 q257
         cases e257
         replace p257 := eq_true p257; replace q257 := eq_true q257; obtain ⟨Ao15, co15, eo15⟩ := Kd.V_slice HO_3.out; subst eo15
         go_wp2_with (first | ((with_reducible refine gate_callee (f := 102) rfl ?_); refine goesL_ (some 34) rfl rfl Try.func102 (by kernel_rfl) rfl #[.slice Ao15 x3_2.length co15, .string (rdOf ByteArray.empty t254 x6_2)] rfl mq ?_; (with_reducible refine (spec_l1Put.calls k2 (fun k_ => ((w.heap.size ≤ k_) ∧ k_ ≠ gb249)) _ _ x3_2 (rdOf ByteArray.empty t254 x6_2) t258 _ ?side1 A13.out).mono ?_); (case side1 => exact HO_3.out); rintro e w16 ⟨v259, rfl, ho0, hb⟩; refine ⟨_, rfl, ?_⟩; replace HO_3 := am (Kd.V_below (vq HO_3.out) hb); replace HO_5 := am (Kd.V_below (vq HO_5.out) hb); have HO260 := am (Kd.V_lower (Kd.V_mono (ok' := fun k_ => (w.heap.size ≤ k_) ∧ k_ ≠ gb249) ho0 (fun k_ hk_ => ⟨Or.elim hk_ (fun hs_ => hs_.1) (fun hn_ => (Nat.le_trans (below_size (bel1 GE249.out)) hn_)), Or.elim hk_ (fun hs_ => hs_.2) (fun hn_ => (Kd.freshB (g := gb249) (o := .cells #[.slice A0_0 l0_0.length c0_0, .slice (some ad253) l0_1.length c0_1] 55 (0, 0)) (bq BK249.out) k_ hn_))⟩)) (below_size (bel1 GE249.out))); replace BK249 := am (blk_below (g := gb249) (o := .cells #[.slice A0_0 l0_0.length c0_0, .slice (some ad253) l0_1.length c0_1] 55 (0, 0)) (bq BK249.out) hb); replace HB := am (below_step (bel1 GE249.out) hb); (try clear hb); (try clear hb2); (try clear hk); (try clear hi); (try clear ho0)))
         go_roundg k2
         case measure => have := HK1.out; have := HK2.out; omega
         case rel => exact ⟨(t258), (wrap64 (x6_2 + 1)), sq, H', ⟨b60_⟩, ⟨vq HO260.out⟩, ⟨vq HO_5.out⟩, ⟨bq BK249.out⟩, ⟨bel1 GE249.out⟩⟩
        ·rw [if_neg c12] at H
         exact absurd H (by simp)
       ·rw [if_neg c11] at H; have c11b0 := decide_eq_false c11; clear c11
        have H' := am H
        clear H; obtain ⟨Ao17, co17, eo17⟩ := Kd.V_slice HO_5.out; subst eo17; go_wp2
        go_roundg k2
        case measure => have := HK1.out; have := HK2.out; omega
        case rel => exact ⟨(x3_2), (wrap64 (x4_1 + 1)), sq, H', ⟨b60_⟩, ⟨vq HO_3.out⟩, ⟨bq BK249.out⟩, ⟨bel1 GE249.out⟩⟩
    ·rw [if_neg c6] at H
     exact absurd H (by simp)
   ·rw [if_neg c5] at H; have c5b0 := decide_eq_false c5; clear c5; obtain rfl := Option.some.inj H; have hcz18_0 := bc BK249.out 0; have hcz18_1 := bc BK249.out 1; have hfz18_0 := bf BK249.out 0; have hfz18_1 := bf BK249.out 1; go_wp2; go_ret
    exact ⟨_, eq_, by (with_reducible repeat (first | apply Kd.V_alloc | apply Kd.V_drewN | apply Kd.V_drew)); exact Kd.V_mono HO_3.out (fun _ hk => hk.1), bel1 GE249.out⟩

/-! ### spec_BookWords: function 32 -/
def spec_BookWords.f (k : Nat) (l0_0 : List (S44)) (l0_1 : List (S31)) : Option (List ByteArray) := (spec_BookOk.f k l0_0 l0_1).bind fun t262 => (if t262 = true then ((spec_l2Words.f k l0_0 l0_1).bind fun t263 => (some t263)) else (some (([] : List ByteArray))))
theorem spec_BookWords.mono : ∀ a0 a1 k, LeO (spec_BookWords.f k a0 a1) (spec_BookWords.f (k + 1) a0 a1) := by
 intro a0 a1 k
 unfold spec_BookWords.f
 repeat' first | (with_reducible first | exact spec_BookOk.mono _ _ _ | exact spec_l2Words.mono _ _ _ | exact LeO.refl _ | exact LeO.none _ | refine LeO.ite ?_ ?_ | refine LeO.bind ?_ (fun _ => ?_)) | exact spec_BookOk.mono _ _ _ | exact spec_l2Words.mono _ _ _ | exact LeO.none _ | refine LeO.ite ?_ ?_ | refine LeO.bind ?_ (fun _ => ?_)
set_option maxHeartbeats 8000000 in
set_option maxRecDepth 100000 in
theorem spec_BookWords.calls (k : Nat) (A0_0 : Option Addr) (c0_0 : Nat) (l0_0 : List (S44)) (A0_1 : Option Addr) (c0_1 : Nat) (l0_1 : List (S31)) (r : List ByteArray) (w : World) (hr0_0 : Kd.C k44 w A0_0 l0_0.length l0_0) (hc0_0 : l0_0.length ≤ c0_0) (hr0_1 : Kd.C k31 w A0_1 l0_1.length l0_1) (hc0_1 : l0_1.length ≤ c0_1) (h : spec_BookWords.f k l0_0 l0_1 = some r) :
  Calls Try.prog 32 #[.agg #[.slice A0_0 l0_0.length c0_0, .slice A0_1 l0_1.length c0_1]] w fun e w' => ∃ v0_ : Value, e = .returned (v0_) ∧ Kd.V Kd.string 9 w' w.heap.size (fun k_ => (w.heap.size ≤ k_)) v0_ r ∧ Below w.heap.size w w' := by
 have hu55 := Try.underlying55; have HR0_0 := am hr0_0; have HC0_0 := am hc0_0; clear hr0_0 hc0_0; have HR0_1 := am hr0_1; have HC0_1 := am hc0_1; clear hr0_1 hc0_1; have HB := am (Below.refl w.heap.size w)
 have H : ((spec_BookOk.f k l0_0 l0_1).bind fun t262 => (if t262 = true then ((spec_l2Words.f k l0_0 l0_1).bind fun t263 => (some t263)) else (some (([] : List ByteArray))))) = some r := h
 clear h; replace H := Option.bind_eq_some_iff.mp H; obtain ⟨t262, A20, H⟩ := H; replace H : (if t262 = true then ((spec_l2Words.f k l0_0 l0_1).bind fun t263 => (some t263)) else (some (([] : List ByteArray)))) = some r := H; have A2 := Aside0.mk A20; clear A20
 by_cases c3 : t262 = true
 ·subst c3
  have H1 : ((spec_l2Words.f k l0_0 l0_1).bind fun t263 => (some t263)) = some r := b31_
  replace H := H1; clear H1
  replace H := Option.bind_eq_some_iff.mp H; obtain ⟨t263, A40, H⟩ := H; replace H : (some t263) = some r := H; have A4 := Aside0.mk A40; clear A40; obtain rfl := Option.some.inj H; go_enter Try.func32, Try.ntmps32
  go_wp2_with (first | ((with_reducible refine gate_dst (N := 1) rfl ?_); refine bx 1 (cs := #[.slice A0_0 l0_0.length c0_0, .slice A0_1 l0_1.length c0_1]) (t := 55) ?_; intro gb261 hg w5 hbox hb; have BK261 := am (hbox); have GW261 := am ((b17_ : w.heap.size ≤ gb261)); have GE261 := am ((b17_ : w.heap.size ≤ gb261)); replace HB := am (below_step bel hb); clear hb hbox hg; have hcz6_0 := bc BK261.out 0; have hcz6_1 := bc BK261.out 1; have hfz6_0 := bf BK261.out 0; have hfz6_1 := bf BK261.out 1) | ((with_reducible refine gate_callee (f := 39) rfl ?_); refine goesL_ (some 4) rfl rfl Try.func39 (by kernel_rfl) rfl #[.agg #[.slice A0_0 l0_0.length c0_0, .slice A0_1 l0_1.length c0_1]] rfl mq ?_; (with_reducible refine (spec_BookOk.calls k _ _ l0_0 _ _ l0_1 true _ ?side1 ?side2 ?side3 ?side4 A2.out).mono ?_); (case side1 => exact cq (Kd.C_below HR0_0.out HB.out)); (case side2 => exact HC0_0.out); (case side3 => exact cq (Kd.C_below HR0_1.out HB.out)); (case side4 => exact HC0_1.out); rintro e w7 ⟨rfl, hb⟩; refine ⟨_, rfl, ?_⟩; replace BK261 := am (blk_below (g := gb261) (o := .cells #[.slice A0_0 l0_0.length c0_0, .slice A0_1 l0_1.length c0_1] 55 (0, 0)) (bq BK261.out) hb); replace HB := am (below_step (bel1 GE261.out) hb); (try clear hb); (try clear hb2); (try clear hk); (try clear hi); have hcz8_0 := bc BK261.out 0; have hcz8_1 := bc BK261.out 1; have hfz8_0 := bf BK261.out 0; have hfz8_1 := bf BK261.out 1) | ((with_reducible refine gate_callee (f := 75) rfl ?_); refine goesL_ (some 8) rfl rfl Try.func75 (by kernel_rfl) rfl #[.agg #[.slice A0_0 l0_0.length c0_0, .slice A0_1 l0_1.length c0_1]] rfl mq ?_; (with_reducible refine (spec_l2Words.calls k _ _ l0_0 _ _ l0_1 t263 _ ?side1 ?side2 ?side3 ?side4 A4.out).mono ?_); (case side1 => exact cq (Kd.C_below HR0_0.out HB.out)); (case side2 => exact HC0_0.out); (case side3 => exact cq (Kd.C_below HR0_1.out HB.out)); (case side4 => exact HC0_1.out); rintro e w9 ⟨v264, rfl, ho0, hb⟩; refine ⟨_, rfl, ?_⟩; have HO265 := am (Kd.V_lower (Kd.V_mono (ok' := fun k_ => (w.heap.size ≤ k_) ∧ k_ ≠ gb261) ho0 (fun k_ hk_ => ⟨(Nat.le_trans (below_size (bel1 GE261.out)) hk_), (Kd.freshB (g := gb261) (o := .cells #[.slice A0_0 l0_0.length c0_0, .slice A0_1 l0_1.length c0_1] 55 (0, 0)) (bq BK261.out) k_ hk_)⟩)) (below_size (bel1 GE261.out))); replace BK261 := am (blk_below (g := gb261) (o := .cells #[.slice A0_0 l0_0.length c0_0, .slice A0_1 l0_1.length c0_1] 55 (0, 0)) (bq BK261.out) hb); replace HB := am (below_step (bel1 GE261.out) hb); (try clear hb); (try clear hb2); (try clear hk); (try clear hi); (try clear ho0)))
  go_ret
  exact ⟨_, eq_, by (with_reducible repeat (first | apply Kd.V_alloc | apply Kd.V_drewN | apply Kd.V_drew)); exact Kd.V_mono HO265.out (fun _ hk => hk.1), bel1 GE261.out⟩
 ·replace c3 := Bool.eq_false_iff.mpr c3; subst c3
  have H1 : (some (([] : List ByteArray))) = some r := b19_
  replace H := H1; clear H1
  obtain ⟨y266, hy266⟩ : ∃ y_ : List ByteArray, y_ = (([] : List ByteArray)) := ⟨_, rfl⟩
  replace H : (some y266) = some r := by first | (rw [hy266]; with_reducible exact H) | (have H2_ := (Option.bind_some _ _).symm.trans H; rw [hy266]; with_reducible exact H2_) | (have H2_ := (Option.bind_some _ _).symm.trans H; with_reducible exact H2_) | with_reducible exact H | (rw [hy266]; exact H) | exact H
  have Ny266 := am hy266; clear hy266; obtain rfl := Option.some.inj H; go_enter Try.func32, Try.ntmps32
  go_wp2_with (first | ((with_reducible refine gate_dst (N := 1) rfl ?_); refine bx 1 (cs := #[.slice A0_0 l0_0.length c0_0, .slice A0_1 l0_1.length c0_1]) (t := 55) ?_; intro gb261 hg w10 hbox hb; have BK261 := am (hbox); have GW261 := am ((b17_ : w.heap.size ≤ gb261)); have GE261 := am ((b17_ : w.heap.size ≤ gb261)); replace HB := am (below_step bel hb); clear hb hbox hg; have hcz11_0 := bc BK261.out 0; have hcz11_1 := bc BK261.out 1; have hfz11_0 := bf BK261.out 0; have hfz11_1 := bf BK261.out 1) | ((with_reducible refine gate_callee (f := 39) rfl ?_); refine goesL_ (some 4) rfl rfl Try.func39 (by kernel_rfl) rfl #[.agg #[.slice A0_0 l0_0.length c0_0, .slice A0_1 l0_1.length c0_1]] rfl mq ?_; (with_reducible refine (spec_BookOk.calls k _ _ l0_0 _ _ l0_1 false _ ?side1 ?side2 ?side3 ?side4 A2.out).mono ?_); (case side1 => exact cq (Kd.C_below HR0_0.out HB.out)); (case side2 => exact HC0_0.out); (case side3 => exact cq (Kd.C_below HR0_1.out HB.out)); (case side4 => exact HC0_1.out); rintro e w12 ⟨rfl, hb⟩; refine ⟨_, rfl, ?_⟩; replace BK261 := am (blk_below (g := gb261) (o := .cells #[.slice A0_0 l0_0.length c0_0, .slice A0_1 l0_1.length c0_1] 55 (0, 0)) (bq BK261.out) hb); replace HB := am (below_step (bel1 GE261.out) hb); (try clear hb); (try clear hb2); (try clear hk); (try clear hi)) | ((with_reducible refine gate_dst (N := 6) rfl ?_); refine Kd.R_lit Kd.string _ 9 ?hg (N := 6) ?hd (xs := ([] : List ByteArray)) (inner := []) (ok := fun _ => True) (okp := fun _ => True) ?hr ?hp (fun _ hk => hk) trivial (Below.refl _ _) (Nat.le_refl _) (by simp) ?_; (case hd => rfl); (case hg => rfl); (case hr => first | (go_simp; done) | (go_simp; rfl)); (case hp => exact (Reps.none _ _)); intro v267 w13 ho14 hb hg_ hnew_; clear hg_ hnew_; (first | rw [← Ny266.out] at ho14 | (simp only [Int.reduceToNat] at ho14; rw [← Ny266.out] at ho14) | (simp only [Int.toNat_natCast] at ho14; rw [← Ny266.out] at ho14)); have HO268 := am (Kd.R_lower (Kd.R_newM (M := fun k_ => (w.heap.size ≤ k_)) ho14 (below_size (bel1 GE261.out)) (fun k_ h_ => h_)) (below_size (bel1 GE261.out))); replace BK261 := am (blk_below (g := gb261) (o := .cells #[.slice A0_0 l0_0.length c0_0, .slice A0_1 l0_1.length c0_1] 55 (0, 0)) (bq BK261.out) hb); replace HB := am (below_step (bel1 GE261.out) hb); clear hb ho14))
  go_ret
  exact ⟨_, eq_, Kd.R_V (rq (Kd.R_mono HO268.out (fun _ hk => hk.1))), bel1 GE261.out⟩

end Go.Proofs.Ytedfcehhgbeibaa.QFnBookWords

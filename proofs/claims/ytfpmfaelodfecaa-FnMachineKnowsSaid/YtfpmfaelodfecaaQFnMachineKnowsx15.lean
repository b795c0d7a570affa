import Derived.Test.YtfpmfaelodfecaaQFnMachineKnowsx0
import Derived.Test.YtfpmfaelodfecaaQFnMachineKnowsx1
import Derived.Test.YtfpmfaelodfecaaQFnMachineKnowsx10
import Derived.Test.YtfpmfaelodfecaaQFnMachineKnowsx11
import Derived.Test.YtfpmfaelodfecaaQFnMachineKnowsx12
import Derived.Test.YtfpmfaelodfecaaQFnMachineKnowsx14
import Derived.Test.YtfpmfaelodfecaaVMSh2
namespace Go.Proofs.Ytfpmfaelodfecaa.QFnMachineKnows
open Go.RowKit Go.Proofs.YtfpmfaelodfecaaW.PrintWords Go.Proofs.YtfpmfaelodfecaaW.PrintLast Go.Proofs.YtfpmfaelodfecaaW.PrintMore Go.Proofs.Ytfpmfaelodfecaa.Sh
attribute [local go_sem] max2_int min2_int max_two min_two max_three min_three max_four min_four   -- for this text's walks alone
set_option linter.unusedVariables false
set_option linter.unusedSimpArgs false
-- shrunk

attribute [local go_sem high] eqA117
/-! ### spec_l2Forms: function 163 -/
def spec_l2Forms.f (k : Nat) (l0 : List (S117)) (a1_0 : ByteArray) (a1_1 : ByteArray) : Option (List ByteArray) := (spec_l2One.f k l0 a1_1 false (([a1_0] : List ByteArray))).bind fun t308 => ((spec_l2One.f k l0 a1_1 true t308).bind fun t311 => (some t311))
def spec_l2Forms.T1 : Bool × List (List Nat × List Nat) := (true, [([], []), ([], []), ([1], [1]), ([], []), ([], []), ([4], [4]), ([], []), ([6], [6]), ([7], [7]), ([3, 5, 8], [3, 5, 8]), ([0, 2, 9, 9], [0, 2, 9]), ([10, 10, 0, 1, 2, 3, 4, 5, 6, 7, 8, 9, 10], [10])])
def spec_l2Forms.B1 : List Nat := [0, 0, 2, 0, 0, 16, 0, 64, 192, 504, 1023, 2047]
theorem spec_l2Forms.tab1 : rtab .any (opsOf Try.f163 1) = spec_l2Forms.T1 := by kernel_rfl
theorem spec_l2Forms.bits1 : waitsOk spec_l2Forms.T1.2 spec_l2Forms.B1 = true := by kernel_rfl
set_option maxHeartbeats 8000000 in
set_option maxRecDepth 100000 in
theorem spec_l2Forms.calls (k : Nat) (A0 : Option Addr) (c0 : Nat) (l0 : List (S117)) (a1_0 : ByteArray) (a1_1 : ByteArray) (r : List ByteArray) (w : World) (hr0 : Kd.C k117 w A0 l0.length l0) (hc0 : l0.length ≤ c0) (h : spec_l2Forms.f k l0 a1_0 a1_1 = some r) :
  Calls Try.prog 163 #[.slice A0 l0.length c0, .agg #[.string a1_0, .string a1_1]] w fun e w' => ∃ v0_ : Value, e = .returned (v0_) ∧ Kd.V Kd.string 9 w' w.heap.size (fun k_ => (w.heap.size ≤ k_)) v0_ r ∧ Below w.heap.size w w' := by
 have hu110 := Try.underlying110; have HR0 := am hr0; have HC0 := am hc0; clear hr0 hc0; have HB := am (Below.refl w.heap.size w)
 have H : ((spec_l2One.f k l0 a1_1 false (([a1_0] : List ByteArray))).bind fun t308 => ((spec_l2One.f k l0 a1_1 true t308).bind fun t311 => (some t311))) = some r := h
 clear h; obtain ⟨y305, hy305⟩ : ∃ y_ : List ByteArray, y_ = (([a1_0] : List ByteArray)) := ⟨_, rfl⟩
 replace H : ((spec_l2One.f k l0 a1_1 false y305).bind fun t308 => ((spec_l2One.f k l0 a1_1 true t308).bind fun t311 => (some t311))) = some r := by first | (rw [hy305]; with_reducible exact H) | (have H2_ := (Option.bind_some _ _).symm.trans H; rw [hy305]; with_reducible exact H2_) | (have H2_ := (Option.bind_some _ _).symm.trans H; with_reducible exact H2_) | with_reducible exact H | (rw [hy305]; exact H) | exact H
 have Ny305 := am hy305; clear hy305; replace H := Option.bind_eq_some_iff.mp H; obtain ⟨t308, A30, H⟩ := H; replace H : ((spec_l2One.f k l0 a1_1 true t308).bind fun t311 => (some t311)) = some r := H; have A3 := Aside0.mk A30; clear A30; replace H := Option.bind_eq_some_iff.mp H; obtain ⟨t311, A40, H⟩ := H; replace H : (some t311) = some r := H; have A4 := Aside0.mk A40; clear A40; obtain rfl := Option.some.inj H; go_enter Try.func163, Try.ntmps163
 try go_wp2_with (first | ((with_reducible refine gate_dst (N := 3) rfl ?_); refine bx 3 (cs := #[.string a1_0, .string a1_1]) (t := 110) ?_; intro gb304 hg w5 hbox hb; have BK304 := am (hbox); have GW304 := am ((b15_ : w.heap.size ≤ gb304)); have GE304 := am ((b15_ : w.heap.size ≤ gb304)); replace HB := am (below_step bel hb); clear hb hbox hg))
 replace BK304 := am (blk_drew BK304.out); replace HB := am (below_drew1 HB.out)
 refine st (n := 12) (S := fun w' => w'.cell? ⟨gb304, 0, none⟩ = some (.string a1_0) ∧ w'.cell? ⟨gb304, 1, none⟩ = some (.string a1_1)) (ds := []) ⟨(blk_cell BK304.out 0).trans rfl, (blk_cell BK304.out 1).trans rfl⟩ (fun hHeld => ?_); refine with_tabW spec_l2Forms.tab1 spec_l2Forms.bits1 (fun HT_ HW_ => ?_)
 generalize w5.drew = w6 at BK304 HB hHeld ⊢
 refine pu 0 5 ?_
 refine pu 1 6 ?_
 refine pu 3 8 ?_
 refine pu 4 9 ?_
 refine pu 6 11 ?_
 refine tk2 2 7 hHeld ?_
 refine tk2 5 10 hHeld ?_
 refine tk2 7 12 hHeld ?_
 refine on1 8 13 (fun K hK => ?_)
 refine Kd.R_lit_step Kd.string _ 9 ?hg (N := 13) ?hd (xs := ([a1_0] : List ByteArray)) (inner := [.string a1_0]) (ok := fun _ => True) (okp := fun _ => True) ?hr ?hp (fun _ hk => hk) trivial (Below.refl _ _) (Nat.le_refl _) (by simp) ?_; (case hd => rfl); (case hg => rfl); (case hr => first | (go_simp; done) | (go_simp; rfl)); (case hp => exact (Reps.one (show Kd.M Kd.string _ _ _ a1_0 [.string a1_0] from rfl) (Reps.none _ _)))
 intro v306 w7 ho8 hb hg_ hnew_; clear hg_ hnew_
 (first | rw [← Ny305.out] at ho8 | (simp only [Int.reduceToNat] at ho8; rw [← Ny305.out] at ho8) | (simp only [Int.toNat_natCast] at ho8; rw [← Ny305.out] at ho8))
 have HO307 := am (Kd.R_lower (Kd.R_newM (M := fun k_ => (w.heap.size ≤ k_)) ho8 (below_size (bel1 GE304.out)) (fun k_ h_ => h_)) (below_size (bel1 GE304.out))); replace BK304 := am (blk_below (g := gb304) (o := .cells #[.string a1_0, .string a1_1] 110 (0, 0)) (bq BK304.out) hb); replace HB := am (below_step (bel1 GE304.out) hb); clear hb ho8; obtain ⟨Ao9, co9, eo9⟩ := Kd.R_slice HO307.out
 (first | subst eo9 | (injection eo9 with f1_ f2_ f3_; have f4_ := f1_.symm; have f5_ := f3_.symm; clear f1_ f2_ f3_; subst f4_; subst f5_))
 refine hK.out _ _ ⟨(blk_cell BK304.out 0).trans rfl, (blk_cell BK304.out 1).trans rfl⟩ (fun hHeld => ?_)
 clear hK K
 refine norm_ (a' := ?_) ?_ ?_
 rotate_left
 ·show Act.put _ (some 13) _ = _
  simp only [Act.put, List.setIfInBounds_toArray, List.set_cons_zero, List.set_cons_succ, i64_w, i32_w]
  rfl
 refine on1 9 14 (fun K hK => ?_)
 refine goes_ Try.func181 (by kernel_rfl) rfl #[.slice A0 l0.length c0, .string a1_1, .bool false, .slice Ao9 y305.length co9] (by rfl) rfl rfl mq ?_
 with_reducible refine (spec_l2One.calls k _ _ l0 a1_1 false _ _ y305 t308 _ ?side1 ?side2 ?side3 ?side4 A3.out).mono ?_
 (case side1 => exact cq (Kd.C_below HR0.out HB.out)); (case side2 => exact HC0.out); (case side3 => exact cq (Kd.R_reads' HO307.out).2.2); (case side4 => exact (Kd.R_reads' HO307.out).2.1)
 rintro e w10 ⟨v309, rfl, ho0, hb⟩
 refine ⟨_, rfl, ?_⟩
 have HO310 := am (Kd.V_lower (Kd.V_mono (ok' := fun k_ => (w.heap.size ≤ k_) ∧ some k_ ≠ (.slice Ao9 y305.length co9 : Value).ownBlock ∧ k_ ≠ gb304) ho0 (fun k_ hk_ => ⟨(Nat.le_trans (below_size (bel1 GE304.out)) hk_), (Kd.fresh' (Kd.R_lt (rq HO307.out)) k_ hk_), (Kd.freshB (g := gb304) (o := .cells #[.string a1_0, .string a1_1] 110 (0, 0)) (bq BK304.out) k_ hk_)⟩)) (below_size (bel1 GE304.out))); replace HO307 := am (Kd.R_below (rq HO307.out) hb); replace BK304 := am (blk_below (g := gb304) (o := .cells #[.string a1_0, .string a1_1] 110 (0, 0)) (bq BK304.out) hb); replace HB := am (below_step (bel1 GE304.out) hb)
 (try clear hb)
 (try clear hb2)
 (try clear hk)
 (try clear hi)
 (try clear ho0)
 obtain ⟨Ao11, co11, eo11⟩ := Kd.V_slice HO310.out
 (first | subst eo11 | (injection eo11 with f1_ f2_ f3_; have f4_ := f1_.symm; have f5_ := f3_.symm; clear f1_ f2_ f3_; subst f4_; subst f5_))
 refine hK.out _ _ ⟨(blk_cell BK304.out 0).trans rfl, (blk_cell BK304.out 1).trans rfl⟩ (fun hHeld => ?_)
 clear hK K
 refine norm_ (a' := ?_) ?_ ?_
 rotate_left
 ·show Act.put _ (some 14) _ = _
  simp only [Act.put, List.setIfInBounds_toArray, List.set_cons_zero, List.set_cons_succ, i64_w, i32_w]
  rfl
 refine on1 10 15 (fun K hK => ?_)
 refine goes_ Try.func181 (by kernel_rfl) rfl #[.slice A0 l0.length c0, .string a1_1, .bool true, .slice Ao11 t308.length co11] (by rfl) rfl rfl mq ?_
 with_reducible refine (spec_l2One.calls k _ _ l0 a1_1 true _ _ t308 t311 _ ?side1 ?side2 ?side3 ?side4 A4.out).mono ?_
 (case side1 => exact cq (Kd.C_below HR0.out HB.out)); (case side2 => exact HC0.out); (case side3 => exact cq (Kd.V_reads' HO310.out).2.2); (case side4 => exact (Kd.V_reads' HO310.out).2.1)
 rintro e w12 ⟨v312, rfl, ho0, hb⟩
 refine ⟨_, rfl, ?_⟩
 replace HO310 := am (Kd.V_below (vq HO310.out) hb); have HO313 := am (Kd.V_lower (Kd.V_mono (ok' := fun k_ => (w.heap.size ≤ k_) ∧ some k_ ≠ (.slice Ao9 y305.length co9 : Value).ownBlock ∧ k_ ≠ gb304) ho0 (fun k_ hk_ => ⟨(Nat.le_trans (below_size (bel1 GE304.out)) hk_), (Kd.fresh' (Kd.R_lt (rq HO307.out)) k_ hk_), (Kd.freshB (g := gb304) (o := .cells #[.string a1_0, .string a1_1] 110 (0, 0)) (bq BK304.out) k_ hk_)⟩)) (below_size (bel1 GE304.out))); replace HO307 := am (Kd.R_below (rq HO307.out) hb); replace BK304 := am (blk_below (g := gb304) (o := .cells #[.string a1_0, .string a1_1] 110 (0, 0)) (bq BK304.out) hb); replace HB := am (below_step (bel1 GE304.out) hb)
 (try clear hb)
 (try clear hb2)
 (try clear hk)
 (try clear hi)
 (try clear ho0)
 refine hK.out _ _ ⟨(blk_cell BK304.out 0).trans rfl, (blk_cell BK304.out 1).trans rfl⟩ (fun hHeld => ?_)
 clear hK K
 refine norm_ (a' := ?_) ?_ ?_
 rotate_left
 ·show Act.put _ (some 15) _ = _
  simp only [Act.put, List.setIfInBounds_toArray, List.set_cons_zero, List.set_cons_succ, i64_w, i32_w]
  rfl
 refine pu 11 4 ?_
 refine done_ (done_of HT_.out (by kernel_rfl)) ?_
 try go_wp2
 go_ret
 exact ⟨_, eq_, by (with_reducible repeat (first | apply Kd.V_alloc | apply Kd.V_drewN | apply Kd.V_drew)); exact Kd.V_mono HO313.out (fun _ hk => hk.1), bel1 GE304.out⟩

/-! ### spec_l2Words: function 139 -/
mutual
def spec_l2Words.l0 : Nat → List ByteArray → Int → List (S117) → List (S110) → Option (List ByteArray)
 | 0, _, _, _, _ => none
 | k + 1, x3, x4, x315000, x315001 => if x4 < (x315001.length : Int) then (if 0 ≤ x4 then ((spec_l2Forms.f k x315000 ((rd_T110 x315001 x4).f0) ((rd_T110 x315001 x4).f1)).bind fun t319 => (spec_l2Words.l1 k x3 x4 t319 0 x315000 x315001)) else (none)) else (some x3)
def spec_l2Words.l1 : Nat → List ByteArray → Int → List ByteArray → Int → List (S117) → List (S110) → Option (List ByteArray)
 | 0, _, _, _, _, _, _ => none
 | k + 1, x3, x4, x5, x6, x315000, x315001 => if x6 < (x5.length : Int) then (if 0 ≤ x6 then ((spec_l1Put.f k x3 (rdOf ByteArray.empty x5 x6)).bind fun t323 => (spec_l2Words.l1 k t323 x4 x5 (wrap64 (x6 + 1)) x315000 x315001)) else (none)) else (spec_l2Words.l0 k x3 (wrap64 (x4 + 1)) x315000 x315001)
end
def spec_l2Words.f (k : Nat) (l0_0 : List (S117)) (l0_1 : List (S110)) : Option (List ByteArray) := spec_l2Words.l0 k (([] : List ByteArray)) 0 l0_0 l0_1
def spec_l2Words.T5 : Bool × List (List Nat × List Nat) := (true, [([], []), ([0], [0]), ([], []), ([2], [2]), ([], []), ([3, 4], [3, 4]), ([5], [5]), ([1, 6], [1, 6]), ([7, 7, 0, 1, 2, 3, 4, 5, 6, 7], [7])])
def spec_l2Words.B5 : List Nat := [0, 1, 0, 4, 0, 28, 60, 127, 255]
theorem spec_l2Words.tab5 : rtab .any (opsOf Try.f139 5) = spec_l2Words.T5 := by kernel_rfl
theorem spec_l2Words.bits5 : waitsOk spec_l2Words.T5.2 spec_l2Words.B5 = true := by kernel_rfl
set_option maxHeartbeats 8000000 in
set_option maxRecDepth 100000 in
theorem spec_l2Words.calls (k : Nat) (A0_0 : Option Addr) (c0_0 : Nat) (l0_0 : List (S117)) (A0_1 : Option Addr) (c0_1 : Nat) (l0_1 : List (S110)) (r : List ByteArray) (w : World) (hr0_0 : Kd.C k117 w A0_0 l0_0.length l0_0) (hc0_0 : l0_0.length ≤ c0_0) (hr0_1 : Kd.C k110 w A0_1 l0_1.length l0_1) (hc0_1 : l0_1.length ≤ c0_1) (h : spec_l2Words.f k l0_0 l0_1 = some r) :
  Calls Try.prog 139 #[.agg #[.slice A0_0 l0_0.length c0_0, .slice A0_1 l0_1.length c0_1]] w fun e w' => ∃ v0_ : Value, e = .returned (v0_) ∧ Kd.V Kd.string 9 w' w.heap.size (fun k_ => (w.heap.size ≤ k_)) v0_ r ∧ Below w.heap.size w w' := by
 have hu68 := Try.underlying68; have hu110 := Try.underlying110; have HR0_0 := am hr0_0; have HC0_0 := am hc0_0; clear hr0_0 hc0_0; have HR0_1 := am hr0_1; have HC0_1 := am hc0_1; clear hr0_1 hc0_1; have HB := am (Below.refl w.heap.size w)
 have H : (spec_l2Words.l0 k (([] : List ByteArray)) 0 l0_0 l0_1) = some r := h
 clear h; obtain ⟨y315, hy315⟩ : ∃ y_ : List ByteArray, y_ = (([] : List ByteArray)) := ⟨_, rfl⟩
 replace H : (spec_l2Words.l0 k y315 0 l0_0 l0_1) = some r := by first | (rw [hy315]; with_reducible exact H) | (have H2_ := (Option.bind_some _ _).symm.trans H; rw [hy315]; with_reducible exact H2_) | (have H2_ := (Option.bind_some _ _).symm.trans H; with_reducible exact H2_) | with_reducible exact H | (rw [hy315]; exact H) | exact H
 have Ny315 := am hy315; clear hy315
 have H' := am H
 clear H; go_enter Try.func139, Try.ntmps139
 go_wp2_with (first | ((with_reducible refine gate_dst (N := 1) rfl ?_); refine bx 1 (cs := #[.slice A0_0 l0_0.length c0_0, .slice A0_1 l0_1.length c0_1]) (t := 68) ?_; intro gb314 hg w2 hbox hb; have BK314 := am (hbox); have GW314 := am ((b15_ : w.heap.size ≤ gb314)); have GE314 := am ((b15_ : w.heap.size ≤ gb314)); replace HB := am (below_step bel hb); clear hb hbox hg) | ((with_reducible refine gate_dst (N := 7) rfl ?_); refine Kd.R_lit Kd.string _ 9 ?hg (N := 7) ?hd (xs := ([] : List ByteArray)) (inner := []) (ok := fun _ => True) (okp := fun _ => True) ?hr ?hp (fun _ hk => hk) trivial (Below.refl _ _) (Nat.le_refl _) (by simp) ?_; (case hd => rfl); (case hg => rfl); (case hr => first | (go_simp; done) | (go_simp; rfl)); (case hp => exact (Reps.none _ _)); intro v316 w3 ho4 hb hg_ hnew_; clear hg_ hnew_; (first | rw [← Ny315.out] at ho4 | (simp only [Int.reduceToNat] at ho4; rw [← Ny315.out] at ho4) | (simp only [Int.toNat_natCast] at ho4; rw [← Ny315.out] at ho4)); have HO317 := am (Kd.R_lower (Kd.R_newM (M := fun k_ => (w.heap.size ≤ k_)) ho4 (below_size (bel1 GE314.out)) (fun k_ h_ => h_)) (below_size (bel1 GE314.out))); replace BK314 := am (blk_below (g := gb314) (o := .cells #[.slice A0_0 l0_0.length c0_0, .slice A0_1 l0_1.length c0_1] 68 (0, 0)) (bq BK314.out) hb); replace HB := am (below_step (bel1 GE314.out) hb); clear hb ho4))
 go_loopg [3, 4] k (fun kq v3 v4 w' => ∃ (x3_1 : List ByteArray) (x4_1 : Int), v4 = .int .i64 x4_1 ∧ Aside0 (spec_l2Words.l0 kq x3_1 x4_1 l0_0 l0_1 = some r) ∧ Aside0 (kq ≤ k) ∧ Aside0 (Kd.V Kd.string 9 w' w.heap.size (fun k_ => (w.heap.size ≤ k_) ∧ k_ ≠ gb314) v3 x3_1) ∧ Aside0 (w'.heap[gb314]? = some (.cells #[(.slice A0_0 l0_0.length c0_0), (.slice A0_1 l0_1.length c0_1)] 68 (0, 0))) ∧ Aside0 (Below w.heap.size w w'))
 case atStart => exact ⟨(y315), (0), sq, H', ⟨Nat.le_refl _⟩, ⟨Kd.R_V (rq (Kd.R_mono (Kd.R_types HO317.out BK314.out (by decide)) (fun _ hk => ⟨hk.1.1, hk.2⟩)))⟩, ⟨bq BK314.out⟩, ⟨bel1 GE314.out⟩⟩
 case round =>
  clear H'; (try clear c1); (try clear p2); obtain ⟨x3_1, x4_1, rfl, HA, HK1, HO_3, BK314, HB⟩ := hrel
  cases gk with
  | zero => exact absurd HA.out (by simp [spec_l2Words.l0])
  | succ k1 =>
   have H := HA.out; clear HA
   simp only [spec_l2Words.l0] at H
   by_cases c5 : x4_1 < (l0_1.length : Int)
   ·rw [if_pos c5] at H; have c5b0 := decide_eq_true c5; clear c5
    by_cases c6 : 0 ≤ x4_1
    ·rw [if_pos c6] at H; have c6b0 := decide_eq_true c6; clear c6; replace H := Option.bind_eq_some_iff.mp H; obtain ⟨t319, A70, H⟩ := H; replace H : (spec_l2Words.l1 k1 x3_1 x4_1 t319 0 l0_0 l0_1) = some r := H; have A7 := Aside0.mk A70; clear A70
     have H' := am H
     clear H; have hcz8_0 := bc BK314.out 0; have hcz8_1 := bc BK314.out 1; have hfz8_0 := bf BK314.out 0; have hfz8_1 := bf BK314.out 1
     try go_wp2
     replace HO_3 := am (Kd.V_drew HO_3.out); replace BK314 := am (blk_drew BK314.out); replace HB := am (below_drew1 HB.out)
     have p318 : 0 ≤ (x4_1 : Int) := of_decide_eq_true ad
     have q318 : x4_1 < (l0_1.length : Int) := of_decide_eq_true ad
     obtain ⟨ad318, e318, hx318_0, hx318_1⟩ := at_T110 HR0_1.out x4_1 p318 q318; have hw318_1 := hx318_1; have hw318_0 := hx318_0
     cases e318
     replace hx318_0 := kp HB.out hx318_0; replace hx318_1 := kp HB.out hx318_1; replace p318 := eq_true p318; replace q318 := eq_true q318
     refine st (n := 9) (S := fun w' => w'.cell? ⟨gb314, 0, none⟩ = some (.slice A0_0 l0_0.length c0_0) ∧ w'.cell? ⟨gb314, 1, none⟩ = some (.slice (some ad318) l0_1.length c0_1) ∧ w'.cell? (ad318.add ((x4_1).toNat * 2)) = some (.string ((rd_T110 l0_1 x4_1).f0)) ∧ w'.cell? ⟨(ad318.add ((x4_1).toNat * 2)).block, (ad318.add ((x4_1).toNat * 2)).off + 1, none⟩ = some (.string ((rd_T110 l0_1 x4_1).f1))) (ds := []) ⟨(blk_cell BK314.out 0).trans rfl, (blk_cell BK314.out 1).trans rfl, (kp HB.out hw318_0), (kp HB.out hw318_1)⟩ (fun hHeld => ?_); refine with_tabW spec_l2Words.tab5 spec_l2Words.bits5 (fun HT_ HW_ => ?_)
     generalize wr.drew = w9 at HO_3 BK314 HB hx318_0 hx318_1 hHeld ⊢
     refine pu 0 15 ?_
     refine pu 2 17 ?_
     refine pu 4 19 ?_
     refine tk4 1 16 hHeld ?_
     refine tk4 3 18 hHeld ?_
     refine pu 5 20 ?_
     refine tk4 6 21 hHeld ?_
     refine on1 7 22 (fun K hK => ?_)
     refine goes_ Try.func163 (by kernel_rfl) rfl #[.slice A0_0 l0_0.length c0_0, .agg #[.string ((rd_T110 l0_1 x4_1).f0), .string ((rd_T110 l0_1 x4_1).f1)]] (by rfl) rfl rfl mq ?_
     with_reducible refine (spec_l2Forms.calls k1 _ _ l0_0 ((rd_T110 l0_1 x4_1).f0) ((rd_T110 l0_1 x4_1).f1) t319 _ ?side1 ?side2 A7.out).mono ?_
     (case side1 => exact cq (Kd.C_below HR0_0.out HB.out)); (case side2 => exact HC0_0.out)
     rintro e w10 ⟨v320, rfl, ho0, hb⟩
     refine ⟨_, rfl, ?_⟩
     replace HO_3 := am (Kd.V_below (vq HO_3.out) hb); have HO321 := am (Kd.V_lower (Kd.V_mono (ok' := fun k_ => (w.heap.size ≤ k_) ∧ k_ ≠ gb314) ho0 (fun k_ hk_ => ⟨(Nat.le_trans (below_size (bel1 GE314.out)) hk_), (Kd.freshB (g := gb314) (o := .cells #[.slice A0_0 l0_0.length c0_0, .slice (some ad318) l0_1.length c0_1] 68 (0, 0)) (bq BK314.out) k_ hk_)⟩)) (below_size (bel1 GE314.out))); replace BK314 := am (blk_below (g := gb314) (o := .cells #[.slice A0_0 l0_0.length c0_0, .slice (some ad318) l0_1.length c0_1] 68 (0, 0)) (bq BK314.out) hb); replace HB := am (below_step (bel1 GE314.out) hb)
     (try clear hb)
     (try clear hb2)
     (try clear hk)
     (try clear hi)
     (try clear ho0)
     refine hK.out _ _ ⟨(blk_cell BK314.out 0).trans rfl, (blk_cell BK314.out 1).trans rfl, (kp HB.out hw318_0), (kp HB.out hw318_1)⟩ (fun hHeld => ?_)
     clear hK K
     refine norm_ (a' := ?_) ?_ ?_
     rotate_left
     ·show Act.put _ (some 22) _ = _
      simp only [Act.put, List.setIfInBounds_toArray, List.set_cons_zero, List.set_cons_succ, i64_w, i32_w]
      rfl
     refine pu 8 5 ?_
     refine done_ (done_of HT_.out (by kernel_rfl)) ?_
     try go_wp2
     go_loopg [3, 6] k1 (fun kq v3 v6 w' => ∃ (x3_2 : List ByteArray) (x6_2 : Int), v6 = .int .i64 x6_2 ∧ Aside0 (spec_l2Words.l1 kq x3_2 x4_1 t319 x6_2 l0_0 l0_1 = some r) ∧ Aside0 (kq ≤ k1) ∧ Aside0 (Kd.V Kd.string 9 w' w.heap.size (fun k_ => (w.heap.size ≤ k_) ∧ k_ ≠ gb314) v3 x3_2) ∧ Aside0 (Kd.V Kd.string 9 w' w.heap.size (fun k_ => (w.heap.size ≤ k_) ∧ k_ ≠ gb314) v320 t319) ∧ Aside0 (w'.heap[gb314]? = some (.cells #[(.slice A0_0 l0_0.length c0_0), (.slice (some ad318) l0_1.length c0_1)] 68 (0, 0))) ∧ Aside0 (Below w.heap.size w w'))
     case atStart => exact ⟨(x3_1), (0), sq, H', ⟨Nat.le_refl _⟩, ⟨vq HO_3.out⟩, ⟨vq HO321.out⟩, ⟨bq BK314.out⟩, ⟨bel1 GE314.out⟩⟩
     case round =>
      clear H'; (try clear c1); (try clear p2); (try clear p3); (try clear q3); (try clear hx3); (try clear c5); (try clear c5b0); (try clear c6); (try clear c6b0); (try clear hcz8_0); (try clear hcz8_1); (try clear hfz8_0); (try clear hfz8_1); (try clear hx318_0); (try clear hx318_1); (try clear p2); (try clear p318); (try clear q318); obtain ⟨x3_2, x6_2, rfl, HA, HK2, HO_3, HO_5, BK314, HB⟩ := hrel
      cases gk with
      | zero => exact absurd HA.out (by simp [spec_l2Words.l1])
      | succ k2 =>
       have H := HA.out; clear HA
       simp only [spec_l2Words.l1] at H
       by_cases c11 : x6_2 < (t319.length : Int)
       ·rw [if_pos c11] at H; have c11b0 := decide_eq_true c11; clear c11
        by_cases c12 : 0 ≤ x6_2
        ·rw [if_pos c12] at H; have c12b0 := decide_eq_true c12; clear c12; replace H := Option.bind_eq_some_iff.mp H; obtain ⟨t323, A130, H⟩ := H; replace H : (spec_l2Words.l1 k2 t323 x4_1 t319 (wrap64 (x6_2 + 1)) l0_0 l0_1) = some r := H; have A13 := Aside0.mk A130; clear A130
         have H' := am H
         clear H; obtain ⟨Ao14, co14, eo14⟩ := Kd.V_slice HO_5.out; subst eo14
         have p322 : 0 ≤ (x6_2 : Int) := of_decide_eq_true ad
         have q322 : x6_2 < (t319.length : Int) := of_decide_eq_true ad
         obtain ⟨ad322, e322, hx322_0⟩ := Kd.at_string (Kd.V_reads' HO_5.out).2.2 x6_2 p322 q322
         cases e322
         replace p322 := eq_true p322; replace q322 := eq_true q322; obtain ⟨Ao15, co15, eo15⟩ := Kd.V_slice HO_3.out; subst eo15
         go_wp2_with (first | ((with_reducible refine gate_callee (f := 138) rfl ?_); refine goesL_ (some 34) rfl rfl Try.func138 (by kernel_rfl) rfl #[.slice Ao15 x3_2.length co15, .string (rdOf ByteArray.empty t319 x6_2)] rfl mq ?_; (with_reducible refine (spec_l1Put.calls k2 (fun k_ => ((w.heap.size ≤ k_) ∧ k_ ≠ gb314)) _ _ x3_2 (rdOf ByteArray.empty t319 x6_2) t323 _ ?side1 A13.out).mono ?_); (case side1 => exact HO_3.out); rintro e w16 ⟨v324, rfl, ho0, hb⟩; refine ⟨_, rfl, ?_⟩; replace HO_3 := am (Kd.V_below (vq HO_3.out) hb); replace HO_5 := am (Kd.V_below (vq HO_5.out) hb); have HO325 := am (Kd.V_lower (Kd.V_mono (ok' := fun k_ => (w.heap.size ≤ k_) ∧ k_ ≠ gb314) ho0 (fun k_ hk_ => ⟨Or.elim hk_ (fun hs_ => hs_.1) (fun hn_ => (Nat.le_trans (below_size (bel1 GE314.out)) hn_)), Or.elim hk_ (fun hs_ => hs_.2) (fun hn_ => (Kd.freshB (g := gb314) (o := .cells #[.slice A0_0 l0_0.length c0_0, .slice (some ad318) l0_1.length c0_1] 68 (0, 0)) (bq BK314.out) k_ hn_))⟩)) (below_size (bel1 GE314.out))); replace BK314 := am (blk_below (g := gb314) (o := .cells #[.slice A0_0 l0_0.length c0_0, .slice (some ad318) l0_1.length c0_1] 68 (0, 0)) (bq BK314.out) hb); replace HB := am (below_step (bel1 GE314.out) hb); (try clear hb); (try clear hb2); (try clear hk); (try clear hi); (try clear ho0)))
         go_roundg k2
         case measure => have := HK1.out; have := HK2.out; omega
         case rel => exact ⟨(t323), (wrap64 (x6_2 + 1)), sq, H', ⟨b25_⟩, ⟨vq HO325.out⟩, ⟨vq HO_5.out⟩, ⟨bq BK314.out⟩, ⟨bel1 GE314.out⟩⟩
        ·rw [if_neg c12] at H
         exact absurd H (by simp)
       ·rw [if_neg c11] at H; have c11b0 := decide_eq_false c11; clear c11
        have H' := am H
        clear H; obtain ⟨Ao17, co17, eo17⟩ := Kd.V_slice HO_5.out; subst eo17; go_wp2
        go_roundg k2
        case measure => have := HK1.out; have := HK2.out; omega
        case rel => exact ⟨(x3_2), (wrap64 (x4_1 + 1)), sq, H', ⟨b25_⟩, ⟨vq HO_3.out⟩, ⟨bq BK314.out⟩, ⟨bel1 GE314.out⟩⟩
    ·rw [if_neg c6] at H
     exact absurd H (by simp)
   ·rw [if_neg c5] at H; have c5b0 := decide_eq_false c5; clear c5; obtain rfl := Option.some.inj H; have hcz18_0 := bc BK314.out 0; have hcz18_1 := bc BK314.out 1; have hfz18_0 := bf BK314.out 0; have hfz18_1 := bf BK314.out 1; go_wp2; go_ret
    exact ⟨_, eq_, b80_, bel1 GE314.out⟩

/-! ### spec_l13Affix: function 182 -/
def spec_l13Affix.f (k : Nat) (s0_0 : List Int) (s0_1 : Int) : Option (ByteArray × Bool × ByteArray × ByteArray × ByteArray × Int) := (some (([(⟨(⟨#[83]⟩ : ByteArray), false, (⟨#[]⟩ : ByteArray), (⟨#[115]⟩ : ByteArray), (⟨#[]⟩ : ByteArray)⟩ : S117), (⟨(⟨#[83]⟩ : ByteArray), false, (⟨#[121]⟩ : ByteArray), (⟨#[105, 101, 115]⟩ : ByteArray), (⟨#[121]⟩ : ByteArray)⟩ : S117), (⟨(⟨#[71]⟩ : ByteArray), false, (⟨#[]⟩ : ByteArray), (⟨#[105, 110, 103]⟩ : ByteArray), (⟨#[]⟩ : ByteArray)⟩ : S117), (⟨(⟨#[71]⟩ : ByteArray), false, (⟨#[101]⟩ : ByteArray), (⟨#[105, 110, 103]⟩ : ByteArray), (⟨#[101]⟩ : ByteArray)⟩ : S117), (⟨(⟨#[85]⟩ : ByteArray), true, (⟨#[]⟩ : ByteArray), (⟨#[117, 110]⟩ : ByteArray), (⟨#[]⟩ : ByteArray)⟩ : S117), (⟨(⟨#[82]⟩ : ByteArray), true, (⟨#[97]⟩ : ByteArray), (⟨#[98]⟩ : ByteArray), (⟨#[97]⟩ : ByteArray)⟩ : S117), (⟨(⟨#[84]⟩ : ByteArray), false, (⟨#[]⟩ : ByteArray), (⟨#[116]⟩ : ByteArray), (⟨#[97, 99]⟩ : ByteArray)⟩ : S117), (⟨(⟨#[67]⟩ : ByteArray), false, (⟨#[]⟩ : ByteArray), (⟨#[97, 98, 99]⟩ : ByteArray), (⟨#[]⟩ : ByteArray)⟩ : S117)] : List (S117)) : List (S117))).bind fun y327 => ((spec_l1Rd_pick.f k s0_0 s0_1 (y327.length : Int)).bind fun bt330 => (if 0 ≤ bt330.1 then (if bt330.1 < (y327.length : Int) then (some ((rd_T117 y327 bt330.1).f0, (rd_T117 y327 bt330.1).f1, (rd_T117 y327 bt330.1).f2, (rd_T117 y327 bt330.1).f3, (rd_T117 y327 bt330.1).f4, bt330.2)) else (none)) else (none)))
set_option maxHeartbeats 8000000 in
set_option maxRecDepth 100000 in
theorem spec_l13Affix.calls (k : Nat) (g : Nat) (s0_0 : List Int) (s0_1 : Int) (r1 : ByteArray) (r2 : Bool) (r3 : ByteArray) (r4 : ByteArray) (r5 : ByteArray) (r6 : Int) (w0 w : World) (hI : IsS127 w0 w g s0_0 s0_1) (hB : Below w0.heap.size w0 w) (h : spec_l13Affix.f k s0_0 s0_1 = some (r1, r2, r3, r4, r5, r6)) :
  Calls Try.prog 182 #[.pointer (some ⟨g, 0, none⟩)] w fun e w' => e = .returned (.agg #[.string r1, .bool r2, .string r3, .string r4, .string r5]) ∧ IsS127 w0 w' g s0_0 r6 ∧ Below w0.heap.size w0 w' ∧ KeepBut w w' g none := by
 have hu117 := Try.underlying117; have HI0 := am hI; have HK := am (KeepBut.refl w g none); have HL := am hB.size; clear hI; have HW0 := am hB.size; have HB := am hB; clear hB
 have H : ((some (([(⟨(⟨#[83]⟩ : ByteArray), false, (⟨#[]⟩ : ByteArray), (⟨#[115]⟩ : ByteArray), (⟨#[]⟩ : ByteArray)⟩ : S117), (⟨(⟨#[83]⟩ : ByteArray), false, (⟨#[121]⟩ : ByteArray), (⟨#[105, 101, 115]⟩ : ByteArray), (⟨#[121]⟩ : ByteArray)⟩ : S117), (⟨(⟨#[71]⟩ : ByteArray), false, (⟨#[]⟩ : ByteArray), (⟨#[105, 110, 103]⟩ : ByteArray), (⟨#[]⟩ : ByteArray)⟩ : S117), (⟨(⟨#[71]⟩ : ByteArray), false, (⟨#[101]⟩ : ByteArray), (⟨#[105, 110, 103]⟩ : ByteArray), (⟨#[101]⟩ : ByteArray)⟩ : S117), (⟨(⟨#[85]⟩ : ByteArray), true, (⟨#[]⟩ : ByteArray), (⟨#[117, 110]⟩ : ByteArray), (⟨#[]⟩ : ByteArray)⟩ : S117), (⟨(⟨#[82]⟩ : ByteArray), true, (⟨#[97]⟩ : ByteArray), (⟨#[98]⟩ : ByteArray), (⟨#[97]⟩ : ByteArray)⟩ : S117), (⟨(⟨#[84]⟩ : ByteArray), false, (⟨#[]⟩ : ByteArray), (⟨#[116]⟩ : ByteArray), (⟨#[97, 99]⟩ : ByteArray)⟩ : S117), (⟨(⟨#[67]⟩ : ByteArray), false, (⟨#[]⟩ : ByteArray), (⟨#[97, 98, 99]⟩ : ByteArray), (⟨#[]⟩ : ByteArray)⟩ : S117)] : List (S117)) : List (S117))).bind fun y327 => ((spec_l1Rd_pick.f k s0_0 s0_1 (y327.length : Int)).bind fun bt330 => (if 0 ≤ bt330.1 then (if bt330.1 < (y327.length : Int) then (some ((rd_T117 y327 bt330.1).f0, (rd_T117 y327 bt330.1).f1, (rd_T117 y327 bt330.1).f2, (rd_T117 y327 bt330.1).f3, (rd_T117 y327 bt330.1).f4, bt330.2)) else (none)) else (none)))) = some (r1, r2, r3, r4, r5, r6) := h
 clear h; obtain ⟨y327, hy327⟩ : ∃ y_ : List (S117), y_ = (([(⟨(⟨#[83]⟩ : ByteArray), false, (⟨#[]⟩ : ByteArray), (⟨#[115]⟩ : ByteArray), (⟨#[]⟩ : ByteArray)⟩ : S117), (⟨(⟨#[83]⟩ : ByteArray), false, (⟨#[121]⟩ : ByteArray), (⟨#[105, 101, 115]⟩ : ByteArray), (⟨#[121]⟩ : ByteArray)⟩ : S117), (⟨(⟨#[71]⟩ : ByteArray), false, (⟨#[]⟩ : ByteArray), (⟨#[105, 110, 103]⟩ : ByteArray), (⟨#[]⟩ : ByteArray)⟩ : S117), (⟨(⟨#[71]⟩ : ByteArray), false, (⟨#[101]⟩ : ByteArray), (⟨#[105, 110, 103]⟩ : ByteArray), (⟨#[101]⟩ : ByteArray)⟩ : S117), (⟨(⟨#[85]⟩ : ByteArray), true, (⟨#[]⟩ : ByteArray), (⟨#[117, 110]⟩ : ByteArray), (⟨#[]⟩ : ByteArray)⟩ : S117), (⟨(⟨#[82]⟩ : ByteArray), true, (⟨#[97]⟩ : ByteArray), (⟨#[98]⟩ : ByteArray), (⟨#[97]⟩ : ByteArray)⟩ : S117), (⟨(⟨#[84]⟩ : ByteArray), false, (⟨#[]⟩ : ByteArray), (⟨#[116]⟩ : ByteArray), (⟨#[97, 99]⟩ : ByteArray)⟩ : S117), (⟨(⟨#[67]⟩ : ByteArray), false, (⟨#[]⟩ : ByteArray), (⟨#[97, 98, 99]⟩ : ByteArray), (⟨#[]⟩ : ByteArray)⟩ : S117)] : List (S117))) := ⟨_, rfl⟩
 replace H : ((spec_l1Rd_pick.f k s0_0 s0_1 (y327.length : Int)).bind fun bt330 => (if 0 ≤ bt330.1 then (if bt330.1 < (y327.length : Int) then (some ((rd_T117 y327 bt330.1).f0, (rd_T117 y327 bt330.1).f1, (rd_T117 y327 bt330.1).f2, (rd_T117 y327 bt330.1).f3, (rd_T117 y327 bt330.1).f4, bt330.2)) else (none)) else (none))) = some (r1, r2, r3, r4, r5, r6) := by first | (rw [hy327]; with_reducible exact H) | (have H2_ := (Option.bind_some _ _).symm.trans H; rw [hy327]; with_reducible exact H2_) | (have H2_ := (Option.bind_some _ _).symm.trans H; with_reducible exact H2_) | with_reducible exact H | (rw [hy327]; exact H) | exact H
 have Ny327 := am hy327; clear hy327; replace H := Option.bind_eq_some_iff.mp H; obtain ⟨⟨t330, t331⟩, A20, H⟩ := H; replace H : (if 0 ≤ t330 then (if t330 < (y327.length : Int) then (some ((rd_T117 y327 t330).f0, (rd_T117 y327 t330).f1, (rd_T117 y327 t330).f2, (rd_T117 y327 t330).f3, (rd_T117 y327 t330).f4, t331)) else (none)) else (none)) = some (r1, r2, r3, r4, r5, r6) := H; have A2 := Aside0.mk A20; clear A20
 by_cases c3 : 0 ≤ t330
 ·rw [if_pos c3] at H; have c3b0 := decide_eq_true c3; clear c3
  by_cases c4 : t330 < (y327.length : Int)
  ·rw [if_pos c4] at H; have c4b0 := decide_eq_true c4; clear c4
   simp only [Option.some.injEq, Prod.mk.injEq] at H
   obtain ⟨rfl, rfl, rfl, rfl, rfl, rfl⟩ := H; go_enter Try.func182, Try.ntmps182
   go_wp2_with (first | ((with_reducible refine gate_dst (N := 2) rfl ?_); refine bx 2 (cs := #[.string (⟨#[]⟩ : ByteArray), .bool false, .string (⟨#[]⟩ : ByteArray), .string (⟨#[]⟩ : ByteArray), .string (⟨#[]⟩ : ByteArray)]) (t := 117) ?_; intro gb326 hg w5 hbox hb; replace HB := am (below_step b1_ hb); have BK326 := am (hbox); have GW326 := am ((b6_ : w.heap.size ≤ gb326)); have GE326 := am ((Nat.le_trans HW0.out (b6_ : w.heap.size ≤ gb326) : w0.heap.size ≤ gb326)); replace HK := am (KeepBut.trans b0_ (KeepBut.of_below hb g none) (.inl rfl)); have NB0_326 := am ((b39_ : g ≠ gb326)); have NB326_0 := am ((b40_ : gb326 ≠ g)); replace HI0 := am (IsS127.below b2_ hb); clear hb hbox hg) | ((with_reducible refine gate_dst (N := 12) rfl ?_); refine Kd.R_lit k117 _ 117 ?hg (N := 12) ?hd (xs := ([(⟨(⟨#[83]⟩ : ByteArray), false, (⟨#[]⟩ : ByteArray), (⟨#[115]⟩ : ByteArray), (⟨#[]⟩ : ByteArray)⟩ : S117), (⟨(⟨#[83]⟩ : ByteArray), false, (⟨#[121]⟩ : ByteArray), (⟨#[105, 101, 115]⟩ : ByteArray), (⟨#[121]⟩ : ByteArray)⟩ : S117), (⟨(⟨#[71]⟩ : ByteArray), false, (⟨#[]⟩ : ByteArray), (⟨#[105, 110, 103]⟩ : ByteArray), (⟨#[]⟩ : ByteArray)⟩ : S117), (⟨(⟨#[71]⟩ : ByteArray), false, (⟨#[101]⟩ : ByteArray), (⟨#[105, 110, 103]⟩ : ByteArray), (⟨#[101]⟩ : ByteArray)⟩ : S117), (⟨(⟨#[85]⟩ : ByteArray), true, (⟨#[]⟩ : ByteArray), (⟨#[117, 110]⟩ : ByteArray), (⟨#[]⟩ : ByteArray)⟩ : S117), (⟨(⟨#[82]⟩ : ByteArray), true, (⟨#[97]⟩ : ByteArray), (⟨#[98]⟩ : ByteArray), (⟨#[97]⟩ : ByteArray)⟩ : S117), (⟨(⟨#[84]⟩ : ByteArray), false, (⟨#[]⟩ : ByteArray), (⟨#[116]⟩ : ByteArray), (⟨#[97, 99]⟩ : ByteArray)⟩ : S117), (⟨(⟨#[67]⟩ : ByteArray), false, (⟨#[]⟩ : ByteArray), (⟨#[97, 98, 99]⟩ : ByteArray), (⟨#[]⟩ : ByteArray)⟩ : S117)] : List (S117))) (inner := [.string (⟨#[83]⟩ : ByteArray), .bool false, .string (⟨#[]⟩ : ByteArray), .string (⟨#[115]⟩ : ByteArray), .string (⟨#[]⟩ : ByteArray), .string (⟨#[83]⟩ : ByteArray), .bool false, .string (⟨#[121]⟩ : ByteArray), .string (⟨#[105, 101, 115]⟩ : ByteArray), .string (⟨#[121]⟩ : ByteArray), .string (⟨#[71]⟩ : ByteArray), .bool false, .string (⟨#[]⟩ : ByteArray), .string (⟨#[105, 110, 103]⟩ : ByteArray), .string (⟨#[]⟩ : ByteArray), .string (⟨#[71]⟩ : ByteArray), .bool false, .string (⟨#[101]⟩ : ByteArray), .string (⟨#[105, 110, 103]⟩ : ByteArray), .string (⟨#[101]⟩ : ByteArray), .string (⟨#[85]⟩ : ByteArray), .bool true, .string (⟨#[]⟩ : ByteArray), .string (⟨#[117, 110]⟩ : ByteArray), .string (⟨#[]⟩ : ByteArray), .string (⟨#[82]⟩ : ByteArray), .bool true, .string (⟨#[97]⟩ : ByteArray), .string (⟨#[98]⟩ : ByteArray), .string (⟨#[97]⟩ : ByteArray), .string (⟨#[84]⟩ : ByteArray), .bool false, .string (⟨#[]⟩ : ByteArray), .string (⟨#[116]⟩ : ByteArray), .string (⟨#[97, 99]⟩ : ByteArray), .string (⟨#[67]⟩ : ByteArray), .bool false, .string (⟨#[]⟩ : ByteArray), .string (⟨#[97, 98, 99]⟩ : ByteArray), .string (⟨#[]⟩ : ByteArray)]) (ok := fun _ => True) (okp := fun _ => True) ?hr ?hp (fun _ hk => hk) trivial (Below.refl _ _) (Nat.le_refl _) (by simp) ?_; (case hd => rfl); (case hg => rfl); (case hr => first | (go_simp; done) | (go_simp; rfl)); (case hp => exact (Reps.c5 (show Kd.M k117 _ _ _ (⟨(⟨#[83]⟩ : ByteArray), false, (⟨#[]⟩ : ByteArray), (⟨#[115]⟩ : ByteArray), (⟨#[]⟩ : ByteArray)⟩ : S117) [.string (⟨#[83]⟩ : ByteArray), .bool false, .string (⟨#[]⟩ : ByteArray), .string (⟨#[115]⟩ : ByteArray), .string (⟨#[]⟩ : ByteArray)] from (k117_mkM _ _ _ (⟨(⟨#[83]⟩ : ByteArray), false, (⟨#[]⟩ : ByteArray), (⟨#[115]⟩ : ByteArray), (⟨#[]⟩ : ByteArray)⟩ : S117) )) (Reps.c5 (show Kd.M k117 _ _ _ (⟨(⟨#[83]⟩ : ByteArray), false, (⟨#[121]⟩ : ByteArray), (⟨#[105, 101, 115]⟩ : ByteArray), (⟨#[121]⟩ : ByteArray)⟩ : S117) [.string (⟨#[83]⟩ : ByteArray), .bool false, .string (⟨#[121]⟩ : ByteArray), .string (⟨#[105, 101, 115]⟩ : ByteArray), .string (⟨#[121]⟩ : ByteArray)] from (k117_mkM _ _ _ (⟨(⟨#[83]⟩ : ByteArray), false, (⟨#[121]⟩ : ByteArray), (⟨#[105, 101, 115]⟩ : ByteArray), (⟨#[121]⟩ : ByteArray)⟩ : S117) )) (Reps.c5 (show Kd.M k117 _ _ _ (⟨(⟨#[71]⟩ : ByteArray), false, (⟨#[]⟩ : ByteArray), (⟨#[105, 110, 103]⟩ : ByteArray), (⟨#[]⟩ : ByteArray)⟩ : S117) [.string (⟨#[71]⟩ : ByteArray), .bool false, .string (⟨#[]⟩ : ByteArray), .string (⟨#[105, 110, 103]⟩ : ByteArray), .string (⟨#[]⟩ : ByteArray)] from (k117_mkM _ _ _ (⟨(⟨#[71]⟩ : ByteArray), false, (⟨#[]⟩ : ByteArray), (⟨#[105, 110, 103]⟩ : ByteArray), (⟨#[]⟩ : ByteArray)⟩ : S117) )) (Reps.c5 (show Kd.M k117 _ _ _ (⟨(⟨#[71]⟩ : ByteArray), false, (⟨#[101]⟩ : ByteArray), (⟨#[105, 110, 103]⟩ : ByteArray), (⟨#[101]⟩ : ByteArray)⟩ : S117) [.string (⟨#[71]⟩ : ByteArray), .bool false, .string (⟨#[101]⟩ : ByteArray), .string (⟨#[105, 110, 103]⟩ : ByteArray), .string (⟨#[101]⟩ : ByteArray)] from (k117_mkM _ _ _ (⟨(⟨#[71]⟩ : ByteArray), false, (⟨#[101]⟩ : ByteArray), (⟨#[105, 110, 103]⟩ : ByteArray), (⟨#[101]⟩ : ByteArray)⟩ : S117) )) (Reps.c5 (show Kd.M k117 _ _ _ (⟨(⟨#[85]⟩ : ByteArray), true, (⟨#[]⟩ : ByteArray), (⟨#[117, 110]⟩ : ByteArray), (⟨#[]⟩ : ByteArray)⟩ : S117) [.string (⟨#[85]⟩ : ByteArray), .bool true, .string (⟨#[]⟩ : ByteArray), .string (⟨#[117, 110]⟩ : ByteArray), .string (⟨#[]⟩ : ByteArray)] from (k117_mkM _ _ _ (⟨(⟨#[85]⟩ : ByteArray), true, (⟨#[]⟩ : ByteArray), (⟨#[117, 110]⟩ : ByteArray), (⟨#[]⟩ : ByteArray)⟩ : S117) )) (Reps.c5 (show Kd.M k117 _ _ _ (⟨(⟨#[82]⟩ : ByteArray), true, (⟨#[97]⟩ : ByteArray), (⟨#[98]⟩ : ByteArray), (⟨#[97]⟩ : ByteArray)⟩ : S117) [.string (⟨#[82]⟩ : ByteArray), .bool true, .string (⟨#[97]⟩ : ByteArray), .string (⟨#[98]⟩ : ByteArray), .string (⟨#[97]⟩ : ByteArray)] from (k117_mkM _ _ _ (⟨(⟨#[82]⟩ : ByteArray), true, (⟨#[97]⟩ : ByteArray), (⟨#[98]⟩ : ByteArray), (⟨#[97]⟩ : ByteArray)⟩ : S117) )) (Reps.c5 (show Kd.M k117 _ _ _ (⟨(⟨#[84]⟩ : ByteArray), false, (⟨#[]⟩ : ByteArray), (⟨#[116]⟩ : ByteArray), (⟨#[97, 99]⟩ : ByteArray)⟩ : S117) [.string (⟨#[84]⟩ : ByteArray), .bool false, .string (⟨#[]⟩ : ByteArray), .string (⟨#[116]⟩ : ByteArray), .string (⟨#[97, 99]⟩ : ByteArray)] from (k117_mkM _ _ _ (⟨(⟨#[84]⟩ : ByteArray), false, (⟨#[]⟩ : ByteArray), (⟨#[116]⟩ : ByteArray), (⟨#[97, 99]⟩ : ByteArray)⟩ : S117) )) (Reps.c5 (show Kd.M k117 _ _ _ (⟨(⟨#[67]⟩ : ByteArray), false, (⟨#[]⟩ : ByteArray), (⟨#[97, 98, 99]⟩ : ByteArray), (⟨#[]⟩ : ByteArray)⟩ : S117) [.string (⟨#[67]⟩ : ByteArray), .bool false, .string (⟨#[]⟩ : ByteArray), .string (⟨#[97, 98, 99]⟩ : ByteArray), .string (⟨#[]⟩ : ByteArray)] from (k117_mkM _ _ _ (⟨(⟨#[67]⟩ : ByteArray), false, (⟨#[]⟩ : ByteArray), (⟨#[97, 98, 99]⟩ : ByteArray), (⟨#[]⟩ : ByteArray)⟩ : S117) )) (Reps.none _ _)))))))))); intro v328 w6 ho7 hb hg_ hnew_; clear hg_ hnew_; (first | rw [← Ny327.out] at ho7 | (simp only [Int.reduceToNat] at ho7; rw [← Ny327.out] at ho7) | (simp only [Int.toNat_natCast] at ho7; rw [← Ny327.out] at ho7)); have HO329 := am (Kd.R_lower (Kd.R_newB ho7 (g := gb326) (o := .cells #[.string (⟨#[]⟩ : ByteArray), .bool false, .string (⟨#[]⟩ : ByteArray), .string (⟨#[]⟩ : ByteArray), .string (⟨#[]⟩ : ByteArray)] 117 (0, 0)) (bq BK326.out)) (keep_size (w := w) (g := g) (row := none) b36_)); replace BK326 := am (blk_below (g := gb326) (o := .cells #[.string (⟨#[]⟩ : ByteArray), .bool false, .string (⟨#[]⟩ : ByteArray), .string (⟨#[]⟩ : ByteArray), .string (⟨#[]⟩ : ByteArray)] 117 (0, 0)) (bq BK326.out) hb); replace HK := am (KeepBut.trans b36_ (KeepBut.of_below hb g none) (.inl rfl)); replace HB := am (below_step b57_ hb); replace HI0 := am (IsS127.below b61_ hb); clear hb ho7; obtain ⟨Ao8, co8, eo8⟩ := Kd.R_slice HO329.out; subst eo8) | ((with_reducible refine gate_callee (f := 67) rfl ?_); refine goesL_ (some 17) rfl rfl Try.func67 (by kernel_rfl) rfl #[.pointer (some ⟨g, 0, none⟩), .int .i64 (y327.length : Int)] rfl mq ?_; (with_reducible refine (spec_l1Rd_pick.calls k g s0_0 s0_1 (y327.length : Int) t330 t331 w0 _ ?side1 ?side2 A2.out).mono ?_); (case side1 => repeat (first | (with_reducible first | exact HI0.out | apply IsS127.alloc | apply IsS127.drewN | apply IsS127.drew | apply IsS127.set_1 | refine IsS127.far ?_ NB0_326.out _) | exact HI0.out)); (case side2 => repeat (first | (with_reducible first | exact HB.out | apply below_alloc | apply pw_below_drewN | apply below_drew1 | refine below_set ?_ (IsS127.ge HI0.out) | refine below_set ?_ GE326.out) | exact HB.out)); rintro e w9 ⟨rfl, hi, hb, hk⟩; refine ⟨_, rfl, ?_⟩; replace BK326 := am (KeepBut.blk hk (g' := gb326) (o := .cells #[.string (⟨#[]⟩ : ByteArray), .bool false, .string (⟨#[]⟩ : ByteArray), .string (⟨#[]⟩ : ByteArray), .string (⟨#[]⟩ : ByteArray)] 117 (0, 0)) (bq BK326.out) NB326_0.out (by simp)); replace HO329 := am (Kd.R_mono (Kd.R_keep (IsS127.apart (show IsS127 w0 _ g s0_0 s0_1 from by repeat (first | (with_reducible first | exact HI0.out | apply IsS127.alloc | apply IsS127.drewN | apply IsS127.drew | apply IsS127.set_1 | refine IsS127.far ?_ NB0_326.out _) | exact HI0.out)) (rq HO329.out) (by decide)) hk (fun _ h => h.2)) (fun _ h => h.1)); replace HK := am (KeepBut.trans b36_ hk (.inl rfl)); replace HB := am (hb); replace HI0 := am (hi); (try clear hb); (try clear hb2); (try clear hk); (try clear hi); have p332 : 0 ≤ (t330 : Int) := of_decide_eq_true ad; have q332 : t330 < (y327.length : Int) := of_decide_eq_true ad; obtain ⟨ad332, e332, hx332_0, hx332_1, hx332_2, hx332_3, hx332_4⟩ := at_T117 (Kd.R_reads' HO329.out).2.2 t330 p332 q332; cases e332; replace p332 := eq_true p332; replace q332 := eq_true q332; have hnb10 := NB326_0.out; have hnc10 := NB0_326.out; have hcz11_0 := bc BK326.out 0; have hcz11_1 := bc BK326.out 1; have hcz11_2 := bc BK326.out 2; have hcz11_3 := bc BK326.out 3; have hcz11_4 := bc BK326.out 4; have hfz11_0 := bf BK326.out 0; have hfz11_1 := bf BK326.out 1; have hfz11_2 := bf BK326.out 2; have hfz11_3 := bf BK326.out 3; have hfz11_4 := bf BK326.out 4))
   refine bodyPost_ret (results_cell_row rfl _ _ gb326 117 #[.string ((rd_T117 y327 t330).f0), .bool ((rd_T117 y327 t330).f1), .string ((rd_T117 y327 t330).f2), .string ((rd_T117 y327 t330).f3), .string ((rd_T117 y327 t330).f4)] (0, 0) _ rfl (by (with_reducible repeat (first | refine blk_drewN ?_ _ | refine blk_drew ?_ | refine blk_alloc ?_ _)); refine blk_put (cs := #[.string ((rd_T117 y327 t330).f0), .bool ((rd_T117 y327 t330).f1), .string ((rd_T117 y327 t330).f2), .string ((rd_T117 y327 t330).f3), .string (⟨#[]⟩ : ByteArray)]) ?_ 4 _ rfl; (with_reducible repeat (first | refine blk_drewN ?_ _ | refine blk_drew ?_ | refine blk_alloc ?_ _)); refine blk_put (cs := #[.string ((rd_T117 y327 t330).f0), .bool ((rd_T117 y327 t330).f1), .string ((rd_T117 y327 t330).f2), .string (⟨#[]⟩ : ByteArray), .string (⟨#[]⟩ : ByteArray)]) ?_ 3 _ rfl; (with_reducible repeat (first | refine blk_drewN ?_ _ | refine blk_drew ?_ | refine blk_alloc ?_ _)); refine blk_put (cs := #[.string ((rd_T117 y327 t330).f0), .bool ((rd_T117 y327 t330).f1), .string (⟨#[]⟩ : ByteArray), .string (⟨#[]⟩ : ByteArray), .string (⟨#[]⟩ : ByteArray)]) ?_ 2 _ rfl; (with_reducible repeat (first | refine blk_drewN ?_ _ | refine blk_drew ?_ | refine blk_alloc ?_ _)); refine blk_put (cs := #[.string ((rd_T117 y327 t330).f0), .bool false, .string (⟨#[]⟩ : ByteArray), .string (⟨#[]⟩ : ByteArray), .string (⟨#[]⟩ : ByteArray)]) ?_ 1 _ rfl; (with_reducible repeat (first | refine blk_drewN ?_ _ | refine blk_drew ?_ | refine blk_alloc ?_ _)); refine blk_put (cs := #[.string (⟨#[]⟩ : ByteArray), .bool false, .string (⟨#[]⟩ : ByteArray), .string (⟨#[]⟩ : ByteArray), .string (⟨#[]⟩ : ByteArray)]) ?_ 0 _ rfl; (with_reducible repeat (first | refine blk_drewN ?_ _ | refine blk_drew ?_ | refine blk_alloc ?_ _)); exact BK326.out) Try.underlying117 rfl (by kernel_rfl)) rfl ?_
   exact ⟨eq_, b61_, b57_, b36_⟩
  ·rw [if_neg c4] at H
   exact absurd H (by simp)
 ·rw [if_neg c3] at H
  exact absurd H (by simp)

/-! ### spec_l13Affixes: function 164 -/
mutual
def spec_l13Affixes.l0 : Nat → List (S117) → Int → List Int → Int → Option ((List (S117)) × Int)
 | 0, _, _, _, _ => none
 | k + 1, x3, x4, x1000, x1001 => if x4 > 0 then ((spec_l13Affix.f k x1000 x1001).bind fun bt338 => (spec_l13Affixes.l1 k x3 x4 false 0 x1000 bt338.2.2.2.2.2 bt338.1 bt338.2.1 bt338.2.2.1 bt338.2.2.2.1 bt338.2.2.2.2.1)) else (some (x3, x1001))
def spec_l13Affixes.l1 : Nat → List (S117) → Int → Bool → Int → List Int → Int → ByteArray → Bool → ByteArray → ByteArray → ByteArray → Option ((List (S117)) × Int)
 | 0, _, _, _, _, _, _, _, _, _, _, _ => none
 | k + 1, x3, x4, x6, x7, x1000, x1001, x345000, x345001, x345002, x345003, x345004 => if x7 < (x3.length : Int) then (if x6 = true then (spec_l13Affixes.l1 k x3 x4 true (wrap64 (x7 + 1)) x1000 x1001 x345000 x345001 x345002 x345003 x345004) else (if 0 ≤ x7 then (spec_l13Affixes.l1 k x3 x4 ((((rd_T117 x3 x7).f0).toList) == x345000.toList && (((rd_T117 x3 x7).f1) == x345001 && ((((rd_T117 x3 x7).f2).toList) == x345002.toList && ((((rd_T117 x3 x7).f3).toList) == x345003.toList && ((((rd_T117 x3 x7).f4).toList) == x345004.toList))))) (wrap64 (x7 + 1)) x1000 x1001 x345000 x345001 x345002 x345003 x345004) else (none))) else (if x6 = true then (spec_l13Affixes.l0 k x3 (wrap64 (x4 - 1)) x1000 x1001) else (if x3.length < 1954687338268 then (spec_l13Affixes.l0 k (x3 ++ [(⟨x345000, x345001, x345002, x345003, x345004⟩ : S117)]) (wrap64 (x4 - 1)) x1000 x1001) else (none)))
end
def spec_l13Affixes.f (k : Nat) (s0_0 : List Int) (s0_1 : Int) : Option ((List (S117)) × Int) := (spec_l1Rd_pick.f k s0_0 s0_1 5).bind fun bt336 => (spec_l13Affixes.l0 k (([] : List (S117))) bt336.1 s0_0 bt336.2)
set_option maxHeartbeats 8000000 in
set_option maxRecDepth 100000 in
theorem spec_l13Affixes.calls (k : Nat) (g : Nat) (s0_0 : List Int) (s0_1 : Int) (r1 : List (S117)) (r2 : Int) (w0 w : World) (hI : IsS127 w0 w g s0_0 s0_1) (hB : Below w0.heap.size w0 w) (h : spec_l13Affixes.f k s0_0 s0_1 = some (r1, r2)) :
  Calls Try.prog 164 #[.pointer (some ⟨g, 0, none⟩)] w fun e w' => ∃ v0_ : Value, e = .returned (v0_) ∧ Kd.R k117 117 w' w.heap.size (fun _ => True) v0_ r1 ∧ IsS127 w0 w' g s0_0 r2 ∧ Below w0.heap.size w0 w' ∧ KeepBut w w' g none := by
 have hu117 := Try.underlying117; have HI0 := am hI; have HK := am (KeepBut.refl w g none); have HL := am hB.size; clear hI; have HW0 := am hB.size; have HB := am hB; clear hB
 have H : ((spec_l1Rd_pick.f k s0_0 s0_1 5).bind fun bt336 => (spec_l13Affixes.l0 k (([] : List (S117))) bt336.1 s0_0 bt336.2)) = some (r1, r2) := h
 clear h; obtain ⟨y333, hy333⟩ : ∃ y_ : List (S117), y_ = (([] : List (S117))) := ⟨_, rfl⟩
 replace H : ((spec_l1Rd_pick.f k s0_0 s0_1 5).bind fun bt336 => (spec_l13Affixes.l0 k y333 bt336.1 s0_0 bt336.2)) = some (r1, r2) := by first | (rw [hy333]; with_reducible exact H) | (have H2_ := (Option.bind_some _ _).symm.trans H; rw [hy333]; with_reducible exact H2_) | (have H2_ := (Option.bind_some _ _).symm.trans H; with_reducible exact H2_) | with_reducible exact H | (rw [hy333]; exact H) | exact H
 have Ny333 := am hy333; clear hy333; replace H := Option.bind_eq_some_iff.mp H; obtain ⟨⟨t336, t337⟩, A20, H⟩ := H; replace H : (spec_l13Affixes.l0 k y333 t336 s0_0 t337) = some (r1, r2) := H; have A2 := Aside0.mk A20; clear A20
 have H' := am H
 clear H; go_enter Try.func164, Try.ntmps164
 go_wp2_with (first | ((with_reducible refine gate_dst (N := 8) rfl ?_); refine Kd.R_lit k117 _ 117 ?hg (N := 8) ?hd (xs := ([] : List (S117))) (inner := []) (ok := fun _ => True) (okp := fun _ => True) ?hr ?hp (fun _ hk => hk) trivial (Below.refl _ _) (Nat.le_refl _) (by simp) ?_; (case hd => rfl); (case hg => rfl); (case hr => first | (go_simp; done) | (go_simp; rfl)); (case hp => exact (Reps.none _ _)); intro v334 w3 ho4 hb hg_ hnew_; clear hg_ hnew_; (first | rw [← Ny333.out] at ho4 | (simp only [Int.reduceToNat] at ho4; rw [← Ny333.out] at ho4) | (simp only [Int.toNat_natCast] at ho4; rw [← Ny333.out] at ho4)); have HO335 := am (Kd.R_lower ho4 (keep_size (w := w) (g := g) (row := none) b0_)); replace HK := am (KeepBut.trans b0_ (KeepBut.of_below hb g none) (.inl rfl)); replace HB := am (below_step b1_ hb); replace HI0 := am (IsS127.below b2_ hb); clear hb ho4) | (go_at_call 67; (with_reducible refine (spec_l1Rd_pick.calls k g s0_0 s0_1 5 t336 t337 w0 _ ?side1 ?side2 A2.out).mono ?_); (case side1 => repeat (first | (with_reducible first | exact HI0.out | apply IsS127.alloc | apply IsS127.drewN | apply IsS127.drew | apply IsS127.set_1) | exact HI0.out)); (case side2 => repeat (first | (with_reducible first | exact HB.out | apply below_alloc | apply pw_below_drewN | apply below_drew1 | refine below_set ?_ (IsS127.ge HI0.out)) | exact HB.out)); rintro e w5 ⟨rfl, hi, hb, hk⟩; replace HO335 := am (Kd.R_mono (Kd.R_keep (IsS127.apart (show IsS127 w0 _ g s0_0 s0_1 from by repeat (first | (with_reducible first | exact HI0.out | apply IsS127.alloc | apply IsS127.drewN | apply IsS127.drew | apply IsS127.set_1) | exact HI0.out)) (rq HO335.out) (by decide)) hk (fun _ h => h.2)) (fun _ h => h.1)); replace HK := am (KeepBut.trans b0_ hk (.inl rfl)); replace HB := am (hb); replace HI0 := am (hi); (try clear hb); (try clear hb2); (try clear hk); (try clear hi)))
 repeat (go_quiet (first | ((with_reducible refine gate_dst (N := 8) rfl ?_); refine Kd.R_lit k117 _ 117 ?hg (N := 8) ?hd (xs := ([] : List (S117))) (inner := []) (ok := fun _ => True) (okp := fun _ => True) ?hr ?hp (fun _ hk => hk) trivial (Below.refl _ _) (Nat.le_refl _) (by simp) ?_; (case hd => rfl); (case hg => rfl); (case hr => first | (go_simp; done) | (go_simp; rfl)); (case hp => exact (Reps.none _ _)); intro v334 w3 ho4 hb hg_ hnew_; clear hg_ hnew_; (first | rw [← Ny333.out] at ho4 | (simp only [Int.reduceToNat] at ho4; rw [← Ny333.out] at ho4) | (simp only [Int.toNat_natCast] at ho4; rw [← Ny333.out] at ho4)); have HO335 := am (Kd.R_lower ho4 (keep_size (w := w) (g := g) (row := none) b0_)); replace HK := am (KeepBut.trans b0_ (KeepBut.of_below hb g none) (.inl rfl)); replace HB := am (below_step b1_ hb); replace HI0 := am (IsS127.below b2_ hb); clear hb ho4) | (go_at_call 67; (with_reducible refine (spec_l1Rd_pick.calls k g s0_0 s0_1 5 t336 t337 w0 _ ?side1 ?side2 A2.out).mono ?_); (case side1 => repeat (first | (with_reducible first | exact HI0.out | apply IsS127.alloc | apply IsS127.drewN | apply IsS127.drew | apply IsS127.set_1) | exact HI0.out)); (case side2 => repeat (first | (with_reducible first | exact HB.out | apply below_alloc | apply pw_below_drewN | apply below_drew1 | refine below_set ?_ (IsS127.ge HI0.out)) | exact HB.out)); rintro e w5 ⟨rfl, hi, hb, hk⟩; replace HO335 := am (Kd.R_mono (Kd.R_keep (IsS127.apart (show IsS127 w0 _ g s0_0 s0_1 from by repeat (first | (with_reducible first | exact HI0.out | apply IsS127.alloc | apply IsS127.drewN | apply IsS127.drew | apply IsS127.set_1) | exact HI0.out)) (rq HO335.out) (by decide)) hk (fun _ h => h.2)) (fun _ h => h.1)); replace HK := am (KeepBut.trans b0_ hk (.inl rfl)); replace HB := am (hb); replace HI0 := am (hi); (try clear hb); (try clear hb2); (try clear hk); (try clear hi))); try go_wp2_with (first | ((with_reducible refine gate_dst (N := 8) rfl ?_); refine Kd.R_lit k117 _ 117 ?hg (N := 8) ?hd (xs := ([] : List (S117))) (inner := []) (ok := fun _ => True) (okp := fun _ => True) ?hr ?hp (fun _ hk => hk) trivial (Below.refl _ _) (Nat.le_refl _) (by simp) ?_; (case hd => rfl); (case hg => rfl); (case hr => first | (go_simp; done) | (go_simp; rfl)); (case hp => exact (Reps.none _ _)); intro v334 w3 ho4 hb hg_ hnew_; clear hg_ hnew_; (first | rw [← Ny333.out] at ho4 | (simp only [Int.reduceToNat] at ho4; rw [← Ny333.out] at ho4) | (simp only [Int.toNat_natCast] at ho4; rw [← Ny333.out] at ho4)); have HO335 := am (Kd.R_lower ho4 (keep_size (w := w) (g := g) (row := none) b0_)); replace HK := am (KeepBut.trans b0_ (KeepBut.of_below hb g none) (.inl rfl)); replace HB := am (below_step b1_ hb); replace HI0 := am (IsS127.below b2_ hb); clear hb ho4) | (go_at_call 67; (with_reducible refine (spec_l1Rd_pick.calls k g s0_0 s0_1 5 t336 t337 w0 _ ?side1 ?side2 A2.out).mono ?_); (case side1 => repeat (first | (with_reducible first | exact HI0.out | apply IsS127.alloc | apply IsS127.drewN | apply IsS127.drew | apply IsS127.set_1) | exact HI0.out)); (case side2 => repeat (first | (with_reducible first | exact HB.out | apply below_alloc | apply pw_below_drewN | apply below_drew1 | refine below_set ?_ (IsS127.ge HI0.out)) | exact HB.out)); rintro e w5 ⟨rfl, hi, hb, hk⟩; replace HO335 := am (Kd.R_mono (Kd.R_keep (IsS127.apart (show IsS127 w0 _ g s0_0 s0_1 from by repeat (first | (with_reducible first | exact HI0.out | apply IsS127.alloc | apply IsS127.drewN | apply IsS127.drew | apply IsS127.set_1) | exact HI0.out)) (rq HO335.out) (by decide)) hk (fun _ h => h.2)) (fun _ h => h.1)); replace HK := am (KeepBut.trans b0_ hk (.inl rfl)); replace HB := am (hb); replace HI0 := am (hi); (try clear hb); (try clear hb2); (try clear hk); (try clear hi))))
 go_loopg [3, 4] k (fun kq v3 v4 w' => ∃ (x3_1 : List (S117)) (x4_1 : Int) (x1001_1 : Int), v4 = .int .i64 x4_1 ∧ Aside0 (spec_l13Affixes.l0 kq x3_1 x4_1 s0_0 x1001_1 = some (r1, r2)) ∧ Aside0 (kq ≤ k) ∧ Aside0 (Kd.R k117 117 w' w.heap.size (fun _ => True) v3 x3_1) ∧ Aside0 (IsS127 w0 w' g s0_0 x1001_1) ∧ Aside0 (KeepBut w w' g none) ∧ Aside0 (Below w0.heap.size w0 w'))
 case atStart => exact ⟨(y333), (t336), (t337), sq, H', ⟨Nat.le_refl _⟩, ⟨rq HO335.out⟩, ⟨b2_⟩, ⟨b0_⟩, ⟨b1_⟩⟩
 case round =>
  clear H'; (try clear c1); (try clear p2); obtain ⟨x3_1, x4_1, x1001_1, rfl, HA, HK1, HO_3, HI0, HK, HB⟩ := hrel
  cases gk with
  | zero => exact absurd HA.out (by simp [spec_l13Affixes.l0])
  | succ k1 =>
   have H := HA.out; clear HA
   simp only [spec_l13Affixes.l0] at H
   by_cases c6 : x4_1 > 0
   ·rw [if_pos c6] at H; have c6b0 := decide_eq_true c6; clear c6; replace H := Option.bind_eq_some_iff.mp H; obtain ⟨⟨t338, t339, t340, t341, t342, t343⟩, A70, H⟩ := H; replace H : (spec_l13Affixes.l1 k1 x3_1 x4_1 false 0 s0_0 t343 t338 t339 t340 t341 t342) = some (r1, r2) := H; have A7 := Aside0.mk A70; clear A70
    have H' := am H
    clear H
    go_wp2_with (first | (go_at_call 182; (with_reducible refine (spec_l13Affix.calls k1 g s0_0 x1001_1 t338 t339 t340 t341 t342 t343 w0 _ ?side1 ?side2 A7.out).mono ?_); (case side1 => repeat (first | (with_reducible first | exact HI0.out | apply IsS127.alloc | apply IsS127.drewN | apply IsS127.drew | apply IsS127.set_1) | exact HI0.out)); (case side2 => repeat (first | (with_reducible first | exact HB.out | apply below_alloc | apply pw_below_drewN | apply below_drew1 | refine below_set ?_ (IsS127.ge HI0.out)) | exact HB.out)); rintro e w8 ⟨rfl, hi, hb, hk⟩; replace HO_3 := am (Kd.R_mono (Kd.R_keep (IsS127.apart (show IsS127 w0 _ g s0_0 x1001_1 from by repeat (first | (with_reducible first | exact HI0.out | apply IsS127.alloc | apply IsS127.drewN | apply IsS127.drew | apply IsS127.set_1) | exact HI0.out)) (rq HO_3.out) (by decide)) hk (fun _ h => h.2)) (fun _ h => h.1)); replace HK := am (KeepBut.trans b0_ hk (.inl rfl)); replace HB := am (hb); replace HI0 := am (hi); (try clear hb); (try clear hb2); (try clear hk); (try clear hi)) | ((with_reducible refine gate_dst (N := 5) rfl ?_); refine bx 5 (cs := #[.string (⟨#[]⟩ : ByteArray), .bool false, .string (⟨#[]⟩ : ByteArray), .string (⟨#[]⟩ : ByteArray), .string (⟨#[]⟩ : ByteArray)]) (t := 117) ?_; intro gb344 hg w9 hbox hb; replace HO_3 := am (Kd.R_below (Kd.R_elderB (rq HO_3.out) gb344 (Nat.le_of_eq hg.symm)) hb); replace HB := am (below_step b1_ hb); have BK344 := am (hbox); have GW344 := am ((b6_ : w.heap.size ≤ gb344)); have GE344 := am ((Nat.le_trans HW0.out (b6_ : w.heap.size ≤ gb344) : w0.heap.size ≤ gb344)); replace HK := am (KeepBut.trans b0_ (KeepBut.of_below hb g none) (.inl rfl)); have NB0_344 := am ((b41_ : g ≠ gb344)); have NB344_0 := am ((b42_ : gb344 ≠ g)); replace HI0 := am (IsS127.below b2_ hb); clear hb hbox hg; have hnb10 := NB344_0.out; have hnc10 := NB0_344.out; have hcz11_0 := bc BK344.out 0; have hcz11_1 := bc BK344.out 1; have hcz11_2 := bc BK344.out 2; have hcz11_3 := bc BK344.out 3; have hcz11_4 := bc BK344.out 4; have hfz11_0 := bf BK344.out 0; have hfz11_1 := bf BK344.out 1; have hfz11_2 := bf BK344.out 2; have hfz11_3 := bf BK344.out 3; have hfz11_4 := bf BK344.out 4))
    repeat (go_quiet (first | (go_at_call 182; (with_reducible refine (spec_l13Affix.calls k1 g s0_0 x1001_1 t338 t339 t340 t341 t342 t343 w0 _ ?side1 ?side2 A7.out).mono ?_); (case side1 => repeat (first | (with_reducible first | exact HI0.out | apply IsS127.alloc | apply IsS127.drewN | apply IsS127.drew | apply IsS127.set_1) | exact HI0.out)); (case side2 => repeat (first | (with_reducible first | exact HB.out | apply below_alloc | apply pw_below_drewN | apply below_drew1 | refine below_set ?_ (IsS127.ge HI0.out)) | exact HB.out)); rintro e w8 ⟨rfl, hi, hb, hk⟩; replace HO_3 := am (Kd.R_mono (Kd.R_keep (IsS127.apart (show IsS127 w0 _ g s0_0 x1001_1 from by repeat (first | (with_reducible first | exact HI0.out | apply IsS127.alloc | apply IsS127.drewN | apply IsS127.drew | apply IsS127.set_1) | exact HI0.out)) (rq HO_3.out) (by decide)) hk (fun _ h => h.2)) (fun _ h => h.1)); replace HK := am (KeepBut.trans b0_ hk (.inl rfl)); replace HB := am (hb); replace HI0 := am (hi); (try clear hb); (try clear hb2); (try clear hk); (try clear hi)) | ((with_reducible refine gate_dst (N := 5) rfl ?_); refine bx 5 (cs := #[.string (⟨#[]⟩ : ByteArray), .bool false, .string (⟨#[]⟩ : ByteArray), .string (⟨#[]⟩ : ByteArray), .string (⟨#[]⟩ : ByteArray)]) (t := 117) ?_; intro gb344 hg w9 hbox hb; replace HO_3 := am (Kd.R_below (Kd.R_elderB (rq HO_3.out) gb344 (Nat.le_of_eq hg.symm)) hb); replace HB := am (below_step b1_ hb); have BK344 := am (hbox); have GW344 := am ((b6_ : w.heap.size ≤ gb344)); have GE344 := am ((Nat.le_trans HW0.out (b6_ : w.heap.size ≤ gb344) : w0.heap.size ≤ gb344)); replace HK := am (KeepBut.trans b0_ (KeepBut.of_below hb g none) (.inl rfl)); have NB0_344 := am ((b41_ : g ≠ gb344)); have NB344_0 := am ((b42_ : gb344 ≠ g)); replace HI0 := am (IsS127.below b2_ hb); clear hb hbox hg; have hnb10 := NB344_0.out; have hnc10 := NB0_344.out; have hcz11_0 := bc BK344.out 0; have hcz11_1 := bc BK344.out 1; have hcz11_2 := bc BK344.out 2; have hcz11_3 := bc BK344.out 3; have hcz11_4 := bc BK344.out 4; have hfz11_0 := bf BK344.out 0; have hfz11_1 := bf BK344.out 1; have hfz11_2 := bf BK344.out 2; have hfz11_3 := bf BK344.out 3; have hfz11_4 := bf BK344.out 4)); try go_wp2_with (first | (go_at_call 182; (with_reducible refine (spec_l13Affix.calls k1 g s0_0 x1001_1 t338 t339 t340 t341 t342 t343 w0 _ ?side1 ?side2 A7.out).mono ?_); (case side1 => repeat (first | (with_reducible first | exact HI0.out | apply IsS127.alloc | apply IsS127.drewN | apply IsS127.drew | apply IsS127.set_1) | exact HI0.out)); (case side2 => repeat (first | (with_reducible first | exact HB.out | apply below_alloc | apply pw_below_drewN | apply below_drew1 | refine below_set ?_ (IsS127.ge HI0.out)) | exact HB.out)); rintro e w8 ⟨rfl, hi, hb, hk⟩; replace HO_3 := am (Kd.R_mono (Kd.R_keep (IsS127.apart (show IsS127 w0 _ g s0_0 x1001_1 from by repeat (first | (with_reducible first | exact HI0.out | apply IsS127.alloc | apply IsS127.drewN | apply IsS127.drew | apply IsS127.set_1) | exact HI0.out)) (rq HO_3.out) (by decide)) hk (fun _ h => h.2)) (fun _ h => h.1)); replace HK := am (KeepBut.trans b0_ hk (.inl rfl)); replace HB := am (hb); replace HI0 := am (hi); (try clear hb); (try clear hb2); (try clear hk); (try clear hi)) | ((with_reducible refine gate_dst (N := 5) rfl ?_); refine bx 5 (cs := #[.string (⟨#[]⟩ : ByteArray), .bool false, .string (⟨#[]⟩ : ByteArray), .string (⟨#[]⟩ : ByteArray), .string (⟨#[]⟩ : ByteArray)]) (t := 117) ?_; intro gb344 hg w9 hbox hb; replace HO_3 := am (Kd.R_below (Kd.R_elderB (rq HO_3.out) gb344 (Nat.le_of_eq hg.symm)) hb); replace HB := am (below_step b1_ hb); have BK344 := am (hbox); have GW344 := am ((b6_ : w.heap.size ≤ gb344)); have GE344 := am ((Nat.le_trans HW0.out (b6_ : w.heap.size ≤ gb344) : w0.heap.size ≤ gb344)); replace HK := am (KeepBut.trans b0_ (KeepBut.of_below hb g none) (.inl rfl)); have NB0_344 := am ((b41_ : g ≠ gb344)); have NB344_0 := am ((b42_ : gb344 ≠ g)); replace HI0 := am (IsS127.below b2_ hb); clear hb hbox hg; have hnb10 := NB344_0.out; have hnc10 := NB0_344.out; have hcz11_0 := bc BK344.out 0; have hcz11_1 := bc BK344.out 1; have hcz11_2 := bc BK344.out 2; have hcz11_3 := bc BK344.out 3; have hcz11_4 := bc BK344.out 4; have hfz11_0 := bf BK344.out 0; have hfz11_1 := bf BK344.out 1; have hfz11_2 := bf BK344.out 2; have hfz11_3 := bf BK344.out 3; have hfz11_4 := bf BK344.out 4)))
    go_loopg [6, 7] k1 (fun kq v6 v7 w' => ∃ (x6_2 : Bool) (x7_2 : Int), v6 = .bool x6_2 ∧ v7 = .int .i64 x7_2 ∧ Aside0 (spec_l13Affixes.l1 kq x3_1 x4_1 x6_2 x7_2 s0_0 t343 t338 t339 t340 t341 t342 = some (r1, r2)) ∧ Aside0 (kq ≤ k1) ∧ Aside0 (Kd.R k117 117 w' w.heap.size (fun k_ => k_ ≠ gb344) u3 x3_1) ∧ Aside0 (w'.heap[gb344]? = some (.cells #[.string t338, .bool t339, .string t340, .string t341, .string t342] 117 (0, 0))) ∧ Aside0 (IsS127 w0 w' g s0_0 t343) ∧ Aside0 (KeepBut w w' g none) ∧ Aside0 (Below w0.heap.size w0 w'))
    case atStart => exact ⟨(false), (0), sq, sq, H', ⟨Nat.le_refl _⟩, ⟨rq (Kd.R_mono (Kd.R_far (p := ⟨gb344, 4, none⟩) (Kd.R_far (p := ⟨gb344, 3, none⟩) (Kd.R_far (p := ⟨gb344, 2, none⟩) (Kd.R_far (p := ⟨gb344, 1, none⟩) (Kd.R_far (p := ⟨gb344, 0, none⟩) (Kd.R_mono HO_3.out (fun k_ hk => (⟨hk, hk.2⟩ : _ ∧ k_ ≠ gb344))) (fun _ hk => hk.2) (.string t338)) (fun _ hk => hk.2) (.bool t339)) (fun _ hk => hk.2) (.string t340)) (fun _ hk => hk.2) (.string t341)) (fun _ hk => hk.2) (.string t342)) (fun _ hk => hk.1.2))⟩, ⟨by (with_reducible repeat (first | refine blk_drewN ?_ _ | refine blk_drew ?_ | refine blk_alloc ?_ _)); refine blk_put (cs := #[.string t338, .bool t339, .string t340, .string t341, .string (⟨#[]⟩ : ByteArray)]) ?_ 4 _ rfl; (with_reducible repeat (first | refine blk_drewN ?_ _ | refine blk_drew ?_ | refine blk_alloc ?_ _)); refine blk_put (cs := #[.string t338, .bool t339, .string t340, .string (⟨#[]⟩ : ByteArray), .string (⟨#[]⟩ : ByteArray)]) ?_ 3 _ rfl; (with_reducible repeat (first | refine blk_drewN ?_ _ | refine blk_drew ?_ | refine blk_alloc ?_ _)); refine blk_put (cs := #[.string t338, .bool t339, .string (⟨#[]⟩ : ByteArray), .string (⟨#[]⟩ : ByteArray), .string (⟨#[]⟩ : ByteArray)]) ?_ 2 _ rfl; (with_reducible repeat (first | refine blk_drewN ?_ _ | refine blk_drew ?_ | refine blk_alloc ?_ _)); refine blk_put (cs := #[.string t338, .bool false, .string (⟨#[]⟩ : ByteArray), .string (⟨#[]⟩ : ByteArray), .string (⟨#[]⟩ : ByteArray)]) ?_ 1 _ rfl; (with_reducible repeat (first | refine blk_drewN ?_ _ | refine blk_drew ?_ | refine blk_alloc ?_ _)); refine blk_put (cs := #[.string (⟨#[]⟩ : ByteArray), .bool false, .string (⟨#[]⟩ : ByteArray), .string (⟨#[]⟩ : ByteArray), .string (⟨#[]⟩ : ByteArray)]) ?_ 0 _ rfl; (with_reducible repeat (first | refine blk_drewN ?_ _ | refine blk_drew ?_ | refine blk_alloc ?_ _)); exact BK344.out⟩, ⟨b19_⟩, ⟨b11_⟩, ⟨b16_⟩⟩
    case round =>
     clear H'; (try clear c1); (try clear p2); (try clear c6); (try clear c6b0); (try clear c10); (try clear hcz11_0); (try clear hcz11_1); (try clear hcz11_2); (try clear hcz11_3); (try clear hcz11_4); (try clear hfz11_0); (try clear hfz11_1); (try clear hfz11_2); (try clear hfz11_3); (try clear hfz11_4); (try clear p2); obtain ⟨x6_2, x7_2, rfl, rfl, HA, HK2, HO_3, BK344, HI0, HK, HB⟩ := hrel
     cases gk with
     | zero => exact absurd HA.out (by simp [spec_l13Affixes.l1])
     | succ k2 =>
      have H := HA.out; clear HA
      simp only [spec_l13Affixes.l1] at H
      by_cases c12 : x7_2 < (x3_1.length : Int)
      ·rw [if_pos c12] at H; have c12b0 := decide_eq_true c12; clear c12
       by_cases c13 : x6_2 = true
       ·subst c13
        have H1 : (spec_l13Affixes.l1 k2 x3_1 x4_1 true (wrap64 (x7_2 + 1)) s0_0 t343 t338 t339 t340 t341 t342) = some (r1, r2) := b21_
        replace H := H1; clear H1
        have H' := am H
        clear H; obtain ⟨Ao14, co14, eo14⟩ := Kd.R_slice HO_3.out; subst eo14; go_wp2
        repeat (go_quiet (fail); try go_wp2)
        go_roundg k2
        case measure => have := HK1.out; have := HK2.out; omega
        case rel => exact ⟨(true), (wrap64 (x7_2 + 1)), sq, sq, H', ⟨b25_⟩, ⟨rq HO_3.out⟩, ⟨bq BK344.out⟩, ⟨b19_⟩, ⟨b11_⟩, ⟨b16_⟩⟩
       ·replace c13 := Bool.eq_false_iff.mpr c13; subst c13
        have H1 : (if 0 ≤ x7_2 then (spec_l13Affixes.l1 k2 x3_1 x4_1 ((((rd_T117 x3_1 x7_2).f0).toList) == t338.toList && (((rd_T117 x3_1 x7_2).f1) == t339 && ((((rd_T117 x3_1 x7_2).f2).toList) == t340.toList && ((((rd_T117 x3_1 x7_2).f3).toList) == t341.toList && ((((rd_T117 x3_1 x7_2).f4).toList) == t342.toList))))) (wrap64 (x7_2 + 1)) s0_0 t343 t338 t339 t340 t341 t342) else (none)) = some (r1, r2) := b9_
        replace H := H1; clear H1
        by_cases c15 : 0 ≤ x7_2
        ·rw [if_pos c15] at H; have c15b0 := decide_eq_true c15; clear c15
         have H' := am H
         clear H; obtain ⟨Ao16, co16, eo16⟩ := Kd.R_slice HO_3.out; subst eo16
         have p345 : 0 ≤ (x7_2 : Int) := of_decide_eq_true ad
         have q345 : x7_2 < (x3_1.length : Int) := of_decide_eq_true ad
         obtain ⟨ad345, e345, hx345_0, hx345_1, hx345_2, hx345_3, hx345_4⟩ := at_T117 (Kd.R_reads' HO_3.out).2.2 x7_2 p345 q345
         cases e345
         replace p345 := eq_true p345; replace q345 := eq_true q345; have hnb17 := NB344_0.out; have hnc17 := NB0_344.out; have hcz18_0 := bc BK344.out 0; have hcz18_1 := bc BK344.out 1; have hcz18_2 := bc BK344.out 2; have hcz18_3 := bc BK344.out 3; have hcz18_4 := bc BK344.out 4; have hfz18_0 := bf BK344.out 0; have hfz18_1 := bf BK344.out 1; have hfz18_2 := bf BK344.out 2; have hfz18_3 := bf BK344.out 3; have hfz18_4 := bf BK344.out 4; go_wp2
         repeat (go_quiet (fail); try go_wp2)
         go_roundg k2
         case measure => have := HK1.out; have := HK2.out; omega
         case rel => exact ⟨(((((rd_T117 x3_1 x7_2).f0).toList) == t338.toList && (((rd_T117 x3_1 x7_2).f1) == t339 && ((((rd_T117 x3_1 x7_2).f2).toList) == t340.toList && ((((rd_T117 x3_1 x7_2).f3).toList) == t341.toList && ((((rd_T117 x3_1 x7_2).f4).toList) == t342.toList)))))), (wrap64 (x7_2 + 1)), sq, sq, H', ⟨b25_⟩, ⟨rq HO_3.out⟩, ⟨bq BK344.out⟩, ⟨b19_⟩, ⟨b11_⟩, ⟨b16_⟩⟩
        ·rw [if_neg c15] at H
         exact absurd H (by simp)
      ·rw [if_neg c12] at H; have c12b0 := decide_eq_false c12; clear c12
       by_cases c19 : x6_2 = true
       ·subst c19
        have H1 : (spec_l13Affixes.l0 k2 x3_1 (wrap64 (x4_1 - 1)) s0_0 t343) = some (r1, r2) := b21_
        replace H := H1; clear H1
        have H' := am H
        clear H; obtain ⟨Ao20, co20, eo20⟩ := Kd.R_slice HO_3.out; subst eo20; go_wp2
        repeat (go_quiet (fail); try go_wp2)
        go_roundg k2
        case measure => have := HK1.out; have := HK2.out; omega
        case rel => exact ⟨(x3_1), (wrap64 (x4_1 - 1)), (t343), sq, H', ⟨b25_⟩, ⟨rq (Kd.R_mono HO_3.out (fun _ hk => trivial))⟩, ⟨b19_⟩, ⟨b11_⟩, ⟨b16_⟩⟩
       ·replace c19 := Bool.eq_false_iff.mpr c19; subst c19
        have H1 : (if x3_1.length < 1954687338268 then (spec_l13Affixes.l0 k2 (x3_1 ++ [(⟨t338, t339, t340, t341, t342⟩ : S117)]) (wrap64 (x4_1 - 1)) s0_0 t343) else (none)) = some (r1, r2) := b9_
        replace H := H1; clear H1
        by_cases c21 : x3_1.length < 1954687338268
        ·rw [if_pos c21] at H; have LMc21 := Aside0.mk c21; clear c21; obtain ⟨y346, hy346⟩ : ∃ y_ : List (S117), y_ = (x3_1 ++ [(⟨t338, t339, t340, t341, t342⟩ : S117)]) := ⟨_, rfl⟩
         replace H : (spec_l13Affixes.l0 k2 y346 (wrap64 (x4_1 - 1)) s0_0 t343) = some (r1, r2) := by first | (rw [hy346]; with_reducible exact H) | (have H2_ := (Option.bind_some _ _).symm.trans H; rw [hy346]; with_reducible exact H2_) | (have H2_ := (Option.bind_some _ _).symm.trans H; with_reducible exact H2_) | with_reducible exact H | (rw [hy346]; exact H) | exact H
         have Ny346 := am hy346; clear hy346
         have H' := am H
         clear H; obtain ⟨Ao22, co22, eo22⟩ := Kd.R_slice HO_3.out; subst eo22; have hnb23 := NB344_0.out; have hnc23 := NB0_344.out; have hcz24_0 := bc BK344.out 0; have hcz24_1 := bc BK344.out 1; have hcz24_2 := bc BK344.out 2; have hcz24_3 := bc BK344.out 3; have hcz24_4 := bc BK344.out 4; have hfz24_0 := bf BK344.out 0; have hfz24_1 := bf BK344.out 1; have hfz24_2 := bf BK344.out 2; have hfz24_3 := bf BK344.out 3; have hfz24_4 := bf BK344.out 4
         go_wp2_with (first | ((with_reducible refine gate_builtin (b := .append) (xs := #[.tmp 34, .tmp 36]) rfl ?_); at_builtin; refine Kd.R_append k117 w.heap.size rfl (.tmp 34) (.tmp 36) 63 117 (.agg #[(.string ⟨#[]⟩), (.bool false), (.string ⟨#[]⟩), (.string ⟨#[]⟩), (.string ⟨#[]⟩)]) 72 rfl Try.underlying63 info117 rfl (by decide) (by omega) (.slice Ao22 x3_1.length co22) x3_1 (⟨t338, t339, t340, t341, t342⟩ : S117) [.string t338, .bool t339, .string t340, .string t341, .string t342] (fun k_ => k_ ≠ gb344) (fun _ => False) rfl rfl ?aP (fun _ hk => hk.elim) ?aF ?aO (Below.refl _ _) ?aS ?aL ?_; (case aP => exact k117_mkM _ _ _ (⟨t338, t339, t340, t341, t342⟩ : S117)); (case aF => exact (fun k_ hk => Kd.freshB (g := gb344) (o := .cells #[.string t338, .bool t339, .string t340, .string t341, .string t342] 117 (0, 0)) (bq BK344.out) k_ hk)); (case aO => exact (rq HO_3.out)); (case aS => exact (keep_size (w := w) (g := g) (row := none) b11_)); (case aL => have := LMc21.out; omega); intro v347 w25 ho hb hg hat; rw [← Ny346.out] at ho; replace BK344 := am (blk_grown (g := gb344) (o := .cells #[.string t338, .bool t339, .string t340, .string t341, .string t342] 117 (0, 0)) (bq BK344.out) hg (Kd.R_away HO_3.out (fun _ hk => hk))); replace HB := am (below_weaken b16_ HL.out hb); replace HI0 := am (IsS127.grown b19_ hg (IsS127.own_ne HI0.out HO_3.out (by decide))); replace HK := am (KeepBut.trans b11_ (KeepBut.of_grown hg g) (Kd.R_base2 HO_3.out)); have HO348 := am (ho); clear HO_3; clear ho hb hg hat))
         repeat (go_quiet (first | ((with_reducible refine gate_builtin (b := .append) (xs := #[.tmp 34, .tmp 36]) rfl ?_); at_builtin; refine Kd.R_append k117 w.heap.size rfl (.tmp 34) (.tmp 36) 63 117 (.agg #[(.string ⟨#[]⟩), (.bool false), (.string ⟨#[]⟩), (.string ⟨#[]⟩), (.string ⟨#[]⟩)]) 72 rfl Try.underlying63 info117 rfl (by decide) (by omega) (.slice Ao22 x3_1.length co22) x3_1 (⟨t338, t339, t340, t341, t342⟩ : S117) [.string t338, .bool t339, .string t340, .string t341, .string t342] (fun k_ => k_ ≠ gb344) (fun _ => False) rfl rfl ?aP (fun _ hk => hk.elim) ?aF ?aO (Below.refl _ _) ?aS ?aL ?_; (case aP => exact k117_mkM _ _ _ (⟨t338, t339, t340, t341, t342⟩ : S117)); (case aF => exact (fun k_ hk => Kd.freshB (g := gb344) (o := .cells #[.string t338, .bool t339, .string t340, .string t341, .string t342] 117 (0, 0)) (bq BK344.out) k_ hk)); (case aO => exact (rq HO_3.out)); (case aS => exact (keep_size (w := w) (g := g) (row := none) b11_)); (case aL => have := LMc21.out; omega); intro v347 w25 ho hb hg hat; rw [← Ny346.out] at ho; replace BK344 := am (blk_grown (g := gb344) (o := .cells #[.string t338, .bool t339, .string t340, .string t341, .string t342] 117 (0, 0)) (bq BK344.out) hg (Kd.R_away HO_3.out (fun _ hk => hk))); replace HB := am (below_weaken b16_ HL.out hb); replace HI0 := am (IsS127.grown b19_ hg (IsS127.own_ne HI0.out HO_3.out (by decide))); replace HK := am (KeepBut.trans b11_ (KeepBut.of_grown hg g) (Kd.R_base2 HO_3.out)); have HO348 := am (ho); clear HO_3; clear ho hb hg hat)); try go_wp2_with (first | ((with_reducible refine gate_builtin (b := .append) (xs := #[.tmp 34, .tmp 36]) rfl ?_); at_builtin; refine Kd.R_append k117 w.heap.size rfl (.tmp 34) (.tmp 36) 63 117 (.agg #[(.string ⟨#[]⟩), (.bool false), (.string ⟨#[]⟩), (.string ⟨#[]⟩), (.string ⟨#[]⟩)]) 72 rfl Try.underlying63 info117 rfl (by decide) (by omega) (.slice Ao22 x3_1.length co22) x3_1 (⟨t338, t339, t340, t341, t342⟩ : S117) [.string t338, .bool t339, .string t340, .string t341, .string t342] (fun k_ => k_ ≠ gb344) (fun _ => False) rfl rfl ?aP (fun _ hk => hk.elim) ?aF ?aO (Below.refl _ _) ?aS ?aL ?_; (case aP => exact k117_mkM _ _ _ (⟨t338, t339, t340, t341, t342⟩ : S117)); (case aF => exact (fun k_ hk => Kd.freshB (g := gb344) (o := .cells #[.string t338, .bool t339, .string t340, .string t341, .string t342] 117 (0, 0)) (bq BK344.out) k_ hk)); (case aO => exact (rq HO_3.out)); (case aS => exact (keep_size (w := w) (g := g) (row := none) b11_)); (case aL => have := LMc21.out; omega); intro v347 w25 ho hb hg hat; rw [← Ny346.out] at ho; replace BK344 := am (blk_grown (g := gb344) (o := .cells #[.string t338, .bool t339, .string t340, .string t341, .string t342] 117 (0, 0)) (bq BK344.out) hg (Kd.R_away HO_3.out (fun _ hk => hk))); replace HB := am (below_weaken b16_ HL.out hb); replace HI0 := am (IsS127.grown b19_ hg (IsS127.own_ne HI0.out HO_3.out (by decide))); replace HK := am (KeepBut.trans b11_ (KeepBut.of_grown hg g) (Kd.R_base2 HO_3.out)); have HO348 := am (ho); clear HO_3; clear ho hb hg hat)))
         go_roundg k2
         case measure => have := HK1.out; have := HK2.out; omega
         case rel => exact ⟨(y346), (wrap64 (x4_1 - 1)), (t343), sq, H', ⟨b25_⟩, ⟨rq (Kd.R_mono HO348.out (fun _ hk => trivial))⟩, ⟨b19_⟩, ⟨b11_⟩, ⟨b16_⟩⟩
        ·rw [if_neg c21] at H
         exact absurd H (by simp)
   ·rw [if_neg c6] at H; have c6b0 := decide_eq_false c6; clear c6
    simp only [Option.some.injEq, Prod.mk.injEq] at H
    obtain ⟨rfl, rfl⟩ := H; go_wp2
    repeat (go_quiet (fail); try go_wp2)
    go_ret
    exact ⟨_, eq_, b68_, b2_, b1_, b0_⟩

end Go.Proofs.Ytfpmfaelodfecaa.QFnMachineKnows

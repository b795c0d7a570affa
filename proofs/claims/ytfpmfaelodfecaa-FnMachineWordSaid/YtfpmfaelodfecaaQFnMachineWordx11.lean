import Derived.Test.YtfpmfaelodfecaaQFnMachineWordx0
import Derived.Test.YtfpmfaelodfecaaQFnMachineWordx1
import Derived.Test.YtfpmfaelodfecaaQFnMachineWordx6
import Derived.Test.YtfpmfaelodfecaaQFnMachineWordx8
import Derived.Test.YtfpmfaelodfecaaQFnMachineWordx10
import Derived.Test.YtfpmfaelodfecaaVMSh2
namespace Go.Proofs.Ytfpmfaelodfecaa.QFnMachineWord
open Go.RowKit Go.Proofs.YtfpmfaelodfecaaW.PrintWords Go.Proofs.YtfpmfaelodfecaaW.PrintLast Go.Proofs.YtfpmfaelodfecaaW.PrintMore Go.Proofs.Ytfpmfaelodfecaa.Sh
attribute [local go_sem] max2_int min2_int max_two min_two max_three min_three max_four min_four   -- for this text's walks alone
set_option linter.unusedVariables false
set_option linter.unusedSimpArgs false
-- shrunk

attribute [local go_sem high] eqA117
/-! ### spec_l2Forms: function 163 -/
def spec_l2Forms.f (k : Nat) (l0 : List (S117)) (a1_0 : ByteArray) (a1_1 : ByteArray) : Option (List ByteArray) := (spec_l2One.f k l0 a1_1 false (([a1_0] : List ByteArray))).bind fun t240 => ((spec_l2One.f k l0 a1_1 true t240).bind fun t243 => (some t243))
def spec_l2Forms.T1 : Bool × List (List Nat × List Nat) := (true, [([], []), ([], []), ([1], [1]), ([], []), ([], []), ([4], [4]), ([], []), ([6], [6]), ([7], [7]), ([3, 5, 8], [3, 5, 8]), ([0, 2, 9, 9], [0, 2, 9]), ([10, 10, 0, 1, 2, 3, 4, 5, 6, 7, 8, 9, 10], [10])])
def spec_l2Forms.B1 : List Nat := [0, 0, 2, 0, 0, 16, 0, 64, 192, 504, 1023, 2047]
theorem spec_l2Forms.tab1 : rtab .any (opsOf Try.f163 1) = spec_l2Forms.T1 := by kernel_rfl
theorem spec_l2Forms.bits1 : waitsOk spec_l2Forms.T1.2 spec_l2Forms.B1 = true := by kernel_rfl
set_option maxHeartbeats 8000000 in
set_option maxRecDepth 100000 in
theorem spec_l2Forms.calls (k : Nat) (A0 : Option Addr) (c0 : Nat) (l0 : List (S117)) (a1_0 : ByteArray) (a1_1 : ByteArray) (r : List ByteArray) (w : World) (hr0 : Kd.C k117 w A0 l0.length l0) (hc0 : l0.length ≤ c0) (h : spec_l2Forms.f k l0 a1_0 a1_1 = some r) :
  Calls Try.prog 163 #[.slice A0 l0.length c0, .agg #[.string a1_0, .string a1_1]] w fun e w' => ∃ v0_ : Value, e = .returned (v0_) ∧ Kd.V Kd.string 9 w' w.heap.size (fun k_ => (w.heap.size ≤ k_)) v0_ r ∧ Below w.heap.size w w' := by
 have hu110 := Try.underlying110; have HR0 := am hr0; have HC0 := am hc0; clear hr0 hc0; have HB := am (Below.refl w.heap.size w)
 have H : ((spec_l2One.f k l0 a1_1 false (([a1_0] : List ByteArray))).bind fun t240 => ((spec_l2One.f k l0 a1_1 true t240).bind fun t243 => (some t243))) = some r := h
 clear h; obtain ⟨y237, hy237⟩ : ∃ y_ : List ByteArray, y_ = (([a1_0] : List ByteArray)) := ⟨_, rfl⟩
 replace H : ((spec_l2One.f k l0 a1_1 false y237).bind fun t240 => ((spec_l2One.f k l0 a1_1 true t240).bind fun t243 => (some t243))) = some r := by first | (rw [hy237]; with_reducible exact H) | (have H2_ := (Option.bind_some _ _).symm.trans H; rw [hy237]; with_reducible exact H2_) | (have H2_ := (Option.bind_some _ _).symm.trans H; with_reducible exact H2_) | with_reducible exact H | (rw [hy237]; exact H) | exact H
 have Ny237 := am hy237; clear hy237; replace H := Option.bind_eq_some_iff.mp H; obtain ⟨t240, A30, H⟩ := H; replace H : ((spec_l2One.f k l0 a1_1 true t240).bind fun t243 => (some t243)) = some r := H; have A3 := Aside0.mk A30; clear A30; replace H := Option.bind_eq_some_iff.mp H; obtain ⟨t243, A40, H⟩ := H; replace H : (some t243) = some r := H; have A4 := Aside0.mk A40; clear A40; obtain rfl := Option.some.inj H; go_enter Try.func163, Try.ntmps163
 try go_wp2_with (first | ((with_reducible refine gate_dst (N := 3) rfl ?_); refine bx 3 (cs := #[.string a1_0, .string a1_1]) (t := 110) ?_; intro gb236 hg w5 hbox hb; have BK236 := am (hbox); have GW236 := am ((b13_ : w.heap.size ≤ gb236)); have GE236 := am ((b13_ : w.heap.size ≤ gb236)); replace HB := am (below_step bel hb); clear hb hbox hg))
 replace BK236 := am (blk_drew BK236.out); replace HB := am (below_drew1 HB.out)
 refine st (n := 12) (S := fun w' => w'.cell? ⟨gb236, 0, none⟩ = some (.string a1_0) ∧ w'.cell? ⟨gb236, 1, none⟩ = some (.string a1_1)) (ds := []) ⟨(blk_cell BK236.out 0).trans rfl, (blk_cell BK236.out 1).trans rfl⟩ (fun hHeld => ?_); refine with_tabW spec_l2Forms.tab1 spec_l2Forms.bits1 (fun HT_ HW_ => ?_)
 generalize w5.drew = w6 at BK236 HB hHeld ⊢
 refine pu 0 5 ?_
 refine pu 1 6 ?_
 refine pu 3 8 ?_
 refine pu 4 9 ?_
 refine pu 6 11 ?_
 refine tk2 2 7 hHeld ?_
 refine tk2 5 10 hHeld ?_
 refine tk2 7 12 hHeld ?_
 refine on1 8 13 (fun K hK => ?_)
 refine Kd.R_lit_step Kd.string _ 9 ?hg (N := 13) ?hd (xs := ([a1_0] : List ByteArray)) (inner := [.string a1_0]) (ok := fun _ => True) (okp := fun _ => True) ?hr ?hp (fun _ hk => hk) trivial (Below.refl _ _) (Nat.le_refl _) (by simp) ?_; (case hd => rfl); (case hg => rfl); (case hr => first | (go_simp; done) | (go_simp; rfl)); (case hp => exact (Reps.one (show Kd.M Kd.string _ _ _ a1_0 [.string a1_0] from rfl) (Reps.none _ _)))
 intro v238 w7 ho8 hb hg_ hnew_; clear hg_ hnew_
 (first | rw [← Ny237.out] at ho8 | (simp only [Int.reduceToNat] at ho8; rw [← Ny237.out] at ho8) | (simp only [Int.toNat_natCast] at ho8; rw [← Ny237.out] at ho8))
 have HO239 := am (Kd.R_lower (Kd.R_newM (M := fun k_ => (w.heap.size ≤ k_)) ho8 (below_size (bel1 GE236.out)) (fun k_ h_ => h_)) (below_size (bel1 GE236.out))); replace BK236 := am (blk_below (g := gb236) (o := .cells #[.string a1_0, .string a1_1] 110 (0, 0)) (bq BK236.out) hb); replace HB := am (below_step (bel1 GE236.out) hb); clear hb ho8; obtain ⟨Ao9, co9, eo9⟩ := Kd.R_slice HO239.out
 (first | subst eo9 | (injection eo9 with f1_ f2_ f3_; have f4_ := f1_.symm; have f5_ := f3_.symm; clear f1_ f2_ f3_; subst f4_; subst f5_))
 refine hK.out _ _ ⟨(blk_cell BK236.out 0).trans rfl, (blk_cell BK236.out 1).trans rfl⟩ (fun hHeld => ?_)
 clear hK K
 refine norm_ (a' := ?_) ?_ ?_
 rotate_left
 ·show Act.put _ (some 13) _ = _
  simp only [Act.put, List.setIfInBounds_toArray, List.set_cons_zero, List.set_cons_succ, i64_w, i32_w]
  rfl
 refine on1 9 14 (fun K hK => ?_)
 refine goes_ Try.func181 (by kernel_rfl) rfl #[.slice A0 l0.length c0, .string a1_1, .bool false, .slice Ao9 y237.length co9] (by rfl) rfl rfl mq ?_
 with_reducible refine (spec_l2One.calls k _ _ l0 a1_1 false _ _ y237 t240 _ ?side1 ?side2 ?side3 ?side4 A3.out).mono ?_
 (case side1 => exact cq (Kd.C_below HR0.out HB.out)); (case side2 => exact HC0.out); (case side3 => exact cq (Kd.R_reads' HO239.out).2.2); (case side4 => exact (Kd.R_reads' HO239.out).2.1)
 rintro e w10 ⟨v241, rfl, ho0, hb⟩
 refine ⟨_, rfl, ?_⟩
 have HO242 := am (Kd.V_lower (Kd.V_mono (ok' := fun k_ => (w.heap.size ≤ k_) ∧ some k_ ≠ (.slice Ao9 y237.length co9 : Value).ownBlock ∧ k_ ≠ gb236) ho0 (fun k_ hk_ => ⟨(Nat.le_trans (below_size (bel1 GE236.out)) hk_), (Kd.fresh' (Kd.R_lt (rq HO239.out)) k_ hk_), (Kd.freshB (g := gb236) (o := .cells #[.string a1_0, .string a1_1] 110 (0, 0)) (bq BK236.out) k_ hk_)⟩)) (below_size (bel1 GE236.out))); replace HO239 := am (Kd.R_below (rq HO239.out) hb); replace BK236 := am (blk_below (g := gb236) (o := .cells #[.string a1_0, .string a1_1] 110 (0, 0)) (bq BK236.out) hb); replace HB := am (below_step (bel1 GE236.out) hb)
 (try clear hb)
 (try clear hb2)
 (try clear hk)
 (try clear hi)
 (try clear ho0)
 obtain ⟨Ao11, co11, eo11⟩ := Kd.V_slice HO242.out
 (first | subst eo11 | (injection eo11 with f1_ f2_ f3_; have f4_ := f1_.symm; have f5_ := f3_.symm; clear f1_ f2_ f3_; subst f4_; subst f5_))
 refine hK.out _ _ ⟨(blk_cell BK236.out 0).trans rfl, (blk_cell BK236.out 1).trans rfl⟩ (fun hHeld => ?_)
 clear hK K
 refine norm_ (a' := ?_) ?_ ?_
 rotate_left
 ·show Act.put _ (some 14) _ = _
  simp only [Act.put, List.setIfInBounds_toArray, List.set_cons_zero, List.set_cons_succ, i64_w, i32_w]
  rfl
 refine on1 10 15 (fun K hK => ?_)
 refine goes_ Try.func181 (by kernel_rfl) rfl #[.slice A0 l0.length c0, .string a1_1, .bool true, .slice Ao11 t240.length co11] (by rfl) rfl rfl mq ?_
 with_reducible refine (spec_l2One.calls k _ _ l0 a1_1 true _ _ t240 t243 _ ?side1 ?side2 ?side3 ?side4 A4.out).mono ?_
 (case side1 => exact cq (Kd.C_below HR0.out HB.out)); (case side2 => exact HC0.out); (case side3 => exact cq (Kd.V_reads' HO242.out).2.2); (case side4 => exact (Kd.V_reads' HO242.out).2.1)
 rintro e w12 ⟨v244, rfl, ho0, hb⟩
 refine ⟨_, rfl, ?_⟩
 replace HO242 := am (Kd.V_below (vq HO242.out) hb); have HO245 := am (Kd.V_lower (Kd.V_mono (ok' := fun k_ => (w.heap.size ≤ k_) ∧ some k_ ≠ (.slice Ao9 y237.length co9 : Value).ownBlock ∧ k_ ≠ gb236) ho0 (fun k_ hk_ => ⟨(Nat.le_trans (below_size (bel1 GE236.out)) hk_), (Kd.fresh' (Kd.R_lt (rq HO239.out)) k_ hk_), (Kd.freshB (g := gb236) (o := .cells #[.string a1_0, .string a1_1] 110 (0, 0)) (bq BK236.out) k_ hk_)⟩)) (below_size (bel1 GE236.out))); replace HO239 := am (Kd.R_below (rq HO239.out) hb); replace BK236 := am (blk_below (g := gb236) (o := .cells #[.string a1_0, .string a1_1] 110 (0, 0)) (bq BK236.out) hb); replace HB := am (below_step (bel1 GE236.out) hb)
 (try clear hb)
 (try clear hb2)
 (try clear hk)
 (try clear hi)
 (try clear ho0)
 refine hK.out _ _ ⟨(blk_cell BK236.out 0).trans rfl, (blk_cell BK236.out 1).trans rfl⟩ (fun hHeld => ?_)
 clear hK K
 refine norm_ (a' := ?_) ?_ ?_
 rotate_left
 ·show Act.put _ (some 15) _ = _
  simp only [Act.put, List.setIfInBounds_toArray, List.set_cons_zero, List.set_cons_succ, i64_w, i32_w]
  rfl
 refine pu 11 4 ?_
 refine done_ (done_of HT_.out (by kernel_rfl)) ?_
 try go_wp2
 go_ret
 exact ⟨_, eq_, by (with_reducible repeat (first | apply Kd.V_alloc | apply Kd.V_drewN | apply Kd.V_drew)); exact Kd.V_mono HO245.out (fun _ hk => hk.1), bel1 GE236.out⟩

/-! ### spec_l2Words: function 139 -/
mutual
def spec_l2Words.l0 : Nat → List ByteArray → Int → List (S117) → List (S110) → Option (List ByteArray)
 | 0, _, _, _, _ => none
 | k + 1, x3, x4, x247000, x247001 => if x4 < (x247001.length : Int) then (if 0 ≤ x4 then ((spec_l2Forms.f k x247000 ((rd_T110 x247001 x4).f0) ((rd_T110 x247001 x4).f1)).bind fun t251 => (spec_l2Words.l1 k x3 x4 t251 0 x247000 x247001)) else (none)) else (some x3)
def spec_l2Words.l1 : Nat → List ByteArray → Int → List ByteArray → Int → List (S117) → List (S110) → Option (List ByteArray)
 | 0, _, _, _, _, _, _ => none
 | k + 1, x3, x4, x5, x6, x247000, x247001 => if x6 < (x5.length : Int) then (if 0 ≤ x6 then ((spec_l1Put.f k x3 (rdOf ByteArray.empty x5 x6)).bind fun t255 => (spec_l2Words.l1 k t255 x4 x5 (wrap64 (x6 + 1)) x247000 x247001)) else (none)) else (spec_l2Words.l0 k x3 (wrap64 (x4 + 1)) x247000 x247001)
end
def spec_l2Words.f (k : Nat) (l0_0 : List (S117)) (l0_1 : List (S110)) : Option (List ByteArray) := spec_l2Words.l0 k (([] : List ByteArray)) 0 l0_0 l0_1
def spec_l2Words.T5 : Bool × List (List Nat × List Nat) := (true, [([], []), ([0], [0]), ([], []), ([2], [2]), ([], []), ([3, 4], [3, 4]), ([5], [5]), ([1, 6], [1, 6]), ([7, 7, 0, 1, 2, 3, 4, 5, 6, 7], [7])])
def spec_l2Words.B5 : List Nat := [0, 1, 0, 4, 0, 28, 60, 127, 255]
theorem spec_l2Words.tab5 : rtab .any (opsOf Try.f139 5) = spec_l2Words.T5 := by kernel_rfl
theorem spec_l2Words.bits5 : waitsOk spec_l2Words.T5.2 spec_l2Words.B5 = true := by kernel_rfl
set_option maxHeartbeats 8000000 in
set_option maxRecDepth 100000 in
theorem spec_l2Words.calls (k : Nat) (A0_0 : Option Addr) (c0_0 : Nat) (l0_0 : List (S117)) (A0_1 : Option Addr) (c0_1 : Nat) (l0_1 : List (S110)) (r : List ByteArray) (w : World) (hr0_0 : Kd.C k117 w A0_0 l0_0.length l0_0) (hc0_0 : l0_0.length ≤ c0_0) (hr0_1 : Kd.C k110 w A0_1 l0_1.length l0_1) (hc0_1 : l0_1.length ≤ c0_1) (h : spec_l2Words.f k l0_0 l0_1 = some r) :
  Calls Try.prog 139 #[.agg #[.slice A0_0 l0_0.length c0_0, .slice A0_1 l0_1.length c0_1]] w fun e w' => ∃ v0_ : Value, e = .returned (v0_) ∧ Kd.V Kd.string 9 w' w.heap.size (fun k_ => (w.heap.size ≤ k_)) v0_ r ∧ Below w.heap.size w w' := by
 have hu68 := Try.underlying68; have hu110 := Try.underlying110; have HR0_0 := am hr0_0; have HC0_0 := am hc0_0; clear hr0_0 hc0_0; have HR0_1 := am hr0_1; have HC0_1 := am hc0_1; clear hr0_1 hc0_1; have HB := am (Below.refl w.heap.size w)
 have H : (spec_l2Words.l0 k (([] : List ByteArray)) 0 l0_0 l0_1) = some r := h
 clear h; obtain ⟨y247, hy247⟩ : ∃ y_ : List ByteArray, y_ = (([] : List ByteArray)) := ⟨_, rfl⟩
 replace H : (spec_l2Words.l0 k y247 0 l0_0 l0_1) = some r := by first | (rw [hy247]; with_reducible exact H) | (have H2_ := (Option.bind_some _ _).symm.trans H; rw [hy247]; with_reducible exact H2_) | (have H2_ := (Option.bind_some _ _).symm.trans H; with_reducible exact H2_) | with_reducible exact H | (rw [hy247]; exact H) | exact H
 have Ny247 := am hy247; clear hy247
 have H' := am H
 clear H; go_enter Try.func139, Try.ntmps139
 go_wp2_with (first | ((with_reducible refine gate_dst (N := 1) rfl ?_); refine bx 1 (cs := #[.slice A0_0 l0_0.length c0_0, .slice A0_1 l0_1.length c0_1]) (t := 68) ?_; intro gb246 hg w2 hbox hb; have BK246 := am (hbox); have GW246 := am ((b13_ : w.heap.size ≤ gb246)); have GE246 := am ((b13_ : w.heap.size ≤ gb246)); replace HB := am (below_step bel hb); clear hb hbox hg) | ((with_reducible refine gate_dst (N := 7) rfl ?_); refine Kd.R_lit Kd.string _ 9 ?hg (N := 7) ?hd (xs := ([] : List ByteArray)) (inner := []) (ok := fun _ => True) (okp := fun _ => True) ?hr ?hp (fun _ hk => hk) trivial (Below.refl _ _) (Nat.le_refl _) (by simp) ?_; (case hd => rfl); (case hg => rfl); (case hr => first | (go_simp; done) | (go_simp; rfl)); (case hp => exact (Reps.none _ _)); intro v248 w3 ho4 hb hg_ hnew_; clear hg_ hnew_; (first | rw [← Ny247.out] at ho4 | (simp only [Int.reduceToNat] at ho4; rw [← Ny247.out] at ho4) | (simp only [Int.toNat_natCast] at ho4; rw [← Ny247.out] at ho4)); have HO249 := am (Kd.R_lower (Kd.R_newM (M := fun k_ => (w.heap.size ≤ k_)) ho4 (below_size (bel1 GE246.out)) (fun k_ h_ => h_)) (below_size (bel1 GE246.out))); replace BK246 := am (blk_below (g := gb246) (o := .cells #[.slice A0_0 l0_0.length c0_0, .slice A0_1 l0_1.length c0_1] 68 (0, 0)) (bq BK246.out) hb); replace HB := am (below_step (bel1 GE246.out) hb); clear hb ho4))
 go_loopg [3, 4] k (fun kq v3 v4 w' => ∃ (x3_1 : List ByteArray) (x4_1 : Int), v4 = .int .i64 x4_1 ∧ Aside0 (spec_l2Words.l0 kq x3_1 x4_1 l0_0 l0_1 = some r) ∧ Aside0 (kq ≤ k) ∧ Aside0 (Kd.V Kd.string 9 w' w.heap.size (fun k_ => (w.heap.size ≤ k_) ∧ k_ ≠ gb246) v3 x3_1) ∧ Aside0 (w'.heap[gb246]? = some (.cells #[(.slice A0_0 l0_0.length c0_0), (.slice A0_1 l0_1.length c0_1)] 68 (0, 0))) ∧ Aside0 (Below w.heap.size w w'))
 case atStart => exact ⟨(y247), (0), sq, H', ⟨Nat.le_refl _⟩, ⟨Kd.R_V (rq (Kd.R_mono (Kd.R_types HO249.out BK246.out (by decide)) (fun _ hk => ⟨hk.1.1, hk.2⟩)))⟩, ⟨bq BK246.out⟩, ⟨bel1 GE246.out⟩⟩
 case round =>
  clear H'; (try clear c1); (try clear p2); obtain ⟨x3_1, x4_1, rfl, HA, HK1, HO_3, BK246, HB⟩ := hrel
  cases gk with
  | zero => exact absurd HA.out (by simp [spec_l2Words.l0])
  | succ k1 =>
   have H := HA.out; clear HA
   simp only [spec_l2Words.l0] at H
   by_cases c5 : x4_1 < (l0_1.length : Int)
   ·rw [if_pos c5] at H; have c5b0 := decide_eq_true c5; clear c5
    by_cases c6 : 0 ≤ x4_1
    ·rw [if_pos c6] at H; have c6b0 := decide_eq_true c6; clear c6; replace H := Option.bind_eq_some_iff.mp H; obtain ⟨t251, A70, H⟩ := H; replace H : (spec_l2Words.l1 k1 x3_1 x4_1 t251 0 l0_0 l0_1) = some r := H; have A7 := Aside0.mk A70; clear A70
     have H' := am H
     clear H; have hcz8_0 := bc BK246.out 0; have hcz8_1 := bc BK246.out 1; have hfz8_0 := bf BK246.out 0; have hfz8_1 := bf BK246.out 1
     try go_wp2
     replace HO_3 := am (Kd.V_drew HO_3.out); replace BK246 := am (blk_drew BK246.out); replace HB := am (below_drew1 HB.out)
     have p250 : 0 ≤ (x4_1 : Int) := of_decide_eq_true ad
     have q250 : x4_1 < (l0_1.length : Int) := of_decide_eq_true ad
     obtain ⟨ad250, e250, hx250_0, hx250_1⟩ := at_T110 HR0_1.out x4_1 p250 q250; have hw250_1 := hx250_1; have hw250_0 := hx250_0
     cases e250
     replace hx250_0 := kp HB.out hx250_0; replace hx250_1 := kp HB.out hx250_1; replace p250 := eq_true p250; replace q250 := eq_true q250
     refine st (n := 9) (S := fun w' => w'.cell? ⟨gb246, 0, none⟩ = some (.slice A0_0 l0_0.length c0_0) ∧ w'.cell? ⟨gb246, 1, none⟩ = some (.slice (some ad250) l0_1.length c0_1) ∧ w'.cell? (ad250.add ((x4_1).toNat * 2)) = some (.string ((rd_T110 l0_1 x4_1).f0)) ∧ w'.cell? ⟨(ad250.add ((x4_1).toNat * 2)).block, (ad250.add ((x4_1).toNat * 2)).off + 1, none⟩ = some (.string ((rd_T110 l0_1 x4_1).f1))) (ds := []) ⟨(blk_cell BK246.out 0).trans rfl, (blk_cell BK246.out 1).trans rfl, (kp HB.out hw250_0), (kp HB.out hw250_1)⟩ (fun hHeld => ?_); refine with_tabW spec_l2Words.tab5 spec_l2Words.bits5 (fun HT_ HW_ => ?_)
     generalize wr.drew = w9 at HO_3 BK246 HB hx250_0 hx250_1 hHeld ⊢
     refine pu 0 15 ?_
     refine pu 2 17 ?_
     refine pu 4 19 ?_
     refine tk4 1 16 hHeld ?_
     refine tk4 3 18 hHeld ?_
     refine pu 5 20 ?_
     refine tk4 6 21 hHeld ?_
     refine on1 7 22 (fun K hK => ?_)
     refine goes_ Try.func163 (by kernel_rfl) rfl #[.slice A0_0 l0_0.length c0_0, .agg #[.string ((rd_T110 l0_1 x4_1).f0), .string ((rd_T110 l0_1 x4_1).f1)]] (by rfl) rfl rfl mq ?_
     with_reducible refine (spec_l2Forms.calls k1 _ _ l0_0 ((rd_T110 l0_1 x4_1).f0) ((rd_T110 l0_1 x4_1).f1) t251 _ ?side1 ?side2 A7.out).mono ?_
     (case side1 => exact cq (Kd.C_below HR0_0.out HB.out)); (case side2 => exact HC0_0.out)
     rintro e w10 ⟨v252, rfl, ho0, hb⟩
     refine ⟨_, rfl, ?_⟩
     replace HO_3 := am (Kd.V_below (vq HO_3.out) hb); have HO253 := am (Kd.V_lower (Kd.V_mono (ok' := fun k_ => (w.heap.size ≤ k_) ∧ k_ ≠ gb246) ho0 (fun k_ hk_ => ⟨(Nat.le_trans (below_size (bel1 GE246.out)) hk_), (Kd.freshB (g := gb246) (o := .cells #[.slice A0_0 l0_0.length c0_0, .slice (some ad250) l0_1.length c0_1] 68 (0, 0)) (bq BK246.out) k_ hk_)⟩)) (below_size (bel1 GE246.out))); replace BK246 := am (blk_below (g := gb246) (o := .cells #[.slice A0_0 l0_0.length c0_0, .slice (some ad250) l0_1.length c0_1] 68 (0, 0)) (bq BK246.out) hb); replace HB := am (below_step (bel1 GE246.out) hb)
     (try clear hb)
     (try clear hb2)
     (try clear hk)
     (try clear hi)
     (try clear ho0)
     refine hK.out _ _ ⟨(blk_cell BK246.out 0).trans rfl, (blk_cell BK246.out 1).trans rfl, (kp HB.out hw250_0), (kp HB.out hw250_1)⟩ (fun hHeld => ?_)
     clear hK K
     refine norm_ (a' := ?_) ?_ ?_
     rotate_left
     ·show Act.put _ (some 22) _ = _
      simp only [Act.put, List.setIfInBounds_toArray, List.set_cons_zero, List.set_cons_succ, i64_w, i32_w]
      rfl
     refine pu 8 5 ?_
     refine done_ (done_of HT_.out (by kernel_rfl)) ?_
     try go_wp2
     go_loopg [3, 6] k1 (fun kq v3 v6 w' => ∃ (x3_2 : List ByteArray) (x6_2 : Int), v6 = .int .i64 x6_2 ∧ Aside0 (spec_l2Words.l1 kq x3_2 x4_1 t251 x6_2 l0_0 l0_1 = some r) ∧ Aside0 (kq ≤ k1) ∧ Aside0 (Kd.V Kd.string 9 w' w.heap.size (fun k_ => (w.heap.size ≤ k_) ∧ k_ ≠ gb246) v3 x3_2) ∧ Aside0 (Kd.V Kd.string 9 w' w.heap.size (fun k_ => (w.heap.size ≤ k_) ∧ k_ ≠ gb246) v252 t251) ∧ Aside0 (w'.heap[gb246]? = some (.cells #[(.slice A0_0 l0_0.length c0_0), (.slice (some ad250) l0_1.length c0_1)] 68 (0, 0))) ∧ Aside0 (Below w.heap.size w w'))
     case atStart => exact ⟨(x3_1), (0), sq, H', ⟨Nat.le_refl _⟩, ⟨vq HO_3.out⟩, ⟨vq HO253.out⟩, ⟨bq BK246.out⟩, ⟨bel1 GE246.out⟩⟩
     case round =>
      clear H'; (try clear c1); (try clear p2); (try clear q2); (try clear hx2); (try clear c5); (try clear c5b0); (try clear c6); (try clear c6b0); (try clear hcz8_0); (try clear hcz8_1); (try clear hfz8_0); (try clear hfz8_1); (try clear hx250_0); (try clear hx250_1); (try clear p2); (try clear p250); (try clear q250); obtain ⟨x3_2, x6_2, rfl, HA, HK2, HO_3, HO_5, BK246, HB⟩ := hrel
      cases gk with
      | zero => exact absurd HA.out (by simp [spec_l2Words.l1])
      | succ k2 =>
       have H := HA.out; clear HA
       simp only [spec_l2Words.l1] at H
       by_cases c11 : x6_2 < (t251.length : Int)
       ·rw [if_pos c11] at H; have c11b0 := decide_eq_true c11; clear c11
        by_cases c12 : 0 ≤ x6_2
        ·rw [if_pos c12] at H; have c12b0 := decide_eq_true c12; clear c12; replace H := Option.bind_eq_some_iff.mp H; obtain ⟨t255, A130, H⟩ := H; replace H : (spec_l2Words.l1 k2 t255 x4_1 t251 (wrap64 (x6_2 + 1)) l0_0 l0_1) = some r := H; have A13 := Aside0.mk A130; clear A130
         have H' := am H
         clear H; obtain ⟨Ao14, co14, eo14⟩ := Kd.V_slice HO_5.out; subst eo14
         have p254 : 0 ≤ (x6_2 : Int) := of_decide_eq_true ad
         have q254 : x6_2 < (t251.length : Int) := of_decide_eq_true ad
         obtain ⟨ad254, e254, hx254_0⟩ := Kd.at_string (Kd.V_reads' HO_5.out).2.2 x6_2 p254 q254
         cases e254
         replace p254 := eq_true p254; replace q254 := eq_true q254; obtain ⟨Ao15, co15, eo15⟩ := Kd.V_slice HO_3.out; subst eo15
         go_wp2_with (first | ((with_reducible refine gate_callee (f := 138) rfl ?_); refine goesL_ (some 34) rfl rfl Try.func138 (by kernel_rfl) rfl #[.slice Ao15 x3_2.length co15, .string (rdOf ByteArray.empty t251 x6_2)] rfl mq ?_; (with_reducible refine (spec_l1Put.calls k2 (fun k_ => ((w.heap.size ≤ k_) ∧ k_ ≠ gb246)) _ _ x3_2 (rdOf ByteArray.empty t251 x6_2) t255 _ ?side1 A13.out).mono ?_); (case side1 => exact HO_3.out); rintro e w16 ⟨v256, rfl, ho0, hb⟩; refine ⟨_, rfl, ?_⟩; replace HO_3 := am (Kd.V_below (vq HO_3.out) hb); replace HO_5 := am (Kd.V_below (vq HO_5.out) hb); have HO257 := am (Kd.V_lower (Kd.V_mono (ok' := fun k_ => (w.heap.size ≤ k_) ∧ k_ ≠ gb246) ho0 (fun k_ hk_ => ⟨Or.elim hk_ (fun hs_ => hs_.1) (fun hn_ => (Nat.le_trans (below_size (bel1 GE246.out)) hn_)), Or.elim hk_ (fun hs_ => hs_.2) (fun hn_ => (Kd.freshB (g := gb246) (o := .cells #[.slice A0_0 l0_0.length c0_0, .slice (some ad250) l0_1.length c0_1] 68 (0, 0)) (bq BK246.out) k_ hn_))⟩)) (below_size (bel1 GE246.out))); replace BK246 := am (blk_below (g := gb246) (o := .cells #[.slice A0_0 l0_0.length c0_0, .slice (some ad250) l0_1.length c0_1] 68 (0, 0)) (bq BK246.out) hb); replace HB := am (below_step (bel1 GE246.out) hb); (try clear hb); (try clear hb2); (try clear hk); (try clear hi); (try clear ho0)))
         go_roundg k2
         case measure => have := HK1.out; have := HK2.out; omega
         case rel => exact ⟨(t255), (wrap64 (x6_2 + 1)), sq, H', ⟨b27_⟩, ⟨vq HO257.out⟩, ⟨vq HO_5.out⟩, ⟨bq BK246.out⟩, ⟨bel1 GE246.out⟩⟩
        ·rw [if_neg c12] at H
         exact absurd H (by simp)
       ·rw [if_neg c11] at H; have c11b0 := decide_eq_false c11; clear c11
        have H' := am H
        clear H; obtain ⟨Ao17, co17, eo17⟩ := Kd.V_slice HO_5.out; subst eo17; go_wp2
        go_roundg k2
        case measure => have := HK1.out; have := HK2.out; omega
        case rel => exact ⟨(x3_2), (wrap64 (x4_1 + 1)), sq, H', ⟨b27_⟩, ⟨vq HO_3.out⟩, ⟨bq BK246.out⟩, ⟨bel1 GE246.out⟩⟩
    ·rw [if_neg c6] at H
     exact absurd H (by simp)
   ·rw [if_neg c5] at H; have c5b0 := decide_eq_false c5; clear c5; obtain rfl := Option.some.inj H; have hcz18_0 := bc BK246.out 0; have hcz18_1 := bc BK246.out 1; have hfz18_0 := bf BK246.out 0; have hfz18_1 := bf BK246.out 1; go_wp2; go_ret
    exact ⟨_, eq_, b78_, bel1 GE246.out⟩

/-! ### spec_l13Affix: function 182 -/
def spec_l13Affix.f (k : Nat) (s0_0 : List Int) (s0_1 : Int) : Option (ByteArray × Bool × ByteArray × ByteArray × ByteArray × Int) := (some (([(⟨(⟨#[83]⟩ : ByteArray), false, (⟨#[]⟩ : ByteArray), (⟨#[115]⟩ : ByteArray), (⟨#[]⟩ : ByteArray)⟩ : S117), (⟨(⟨#[83]⟩ : ByteArray), false, (⟨#[121]⟩ : ByteArray), (⟨#[105, 101, 115]⟩ : ByteArray), (⟨#[121]⟩ : ByteArray)⟩ : S117), (⟨(⟨#[71]⟩ : ByteArray), false, (⟨#[]⟩ : ByteArray), (⟨#[105, 110, 103]⟩ : ByteArray), (⟨#[]⟩ : ByteArray)⟩ : S117), (⟨(⟨#[71]⟩ : ByteArray), false, (⟨#[101]⟩ : ByteArray), (⟨#[105, 110, 103]⟩ : ByteArray), (⟨#[101]⟩ : ByteArray)⟩ : S117), (⟨(⟨#[85]⟩ : ByteArray), true, (⟨#[]⟩ : ByteArray), (⟨#[117, 110]⟩ : ByteArray), (⟨#[]⟩ : ByteArray)⟩ : S117), (⟨(⟨#[82]⟩ : ByteArray), true, (⟨#[97]⟩ : ByteArray), (⟨#[98]⟩ : ByteArray), (⟨#[97]⟩ : ByteArray)⟩ : S117), (⟨(⟨#[84]⟩ : ByteArray), false, (⟨#[]⟩ : ByteArray), (⟨#[116]⟩ : ByteArray), (⟨#[97, 99]⟩ : ByteArray)⟩ : S117), (⟨(⟨#[67]⟩ : ByteArray), false, (⟨#[]⟩ : ByteArray), (⟨#[97, 98, 99]⟩ : ByteArray), (⟨#[]⟩ : ByteArray)⟩ : S117)] : List (S117)) : List (S117))).bind fun y259 => ((spec_l1Rd_pick.f k s0_0 s0_1 (y259.length : Int)).bind fun bt262 => (if 0 ≤ bt262.1 then (if bt262.1 < (y259.length : Int) then (some ((rd_T117 y259 bt262.1).f0, (rd_T117 y259 bt262.1).f1, (rd_T117 y259 bt262.1).f2, (rd_T117 y259 bt262.1).f3, (rd_T117 y259 bt262.1).f4, bt262.2)) else (none)) else (none)))
set_option maxHeartbeats 8000000 in
set_option maxRecDepth 100000 in
theorem spec_l13Affix.calls (k : Nat) (g : Nat) (s0_0 : List Int) (s0_1 : Int) (r1 : ByteArray) (r2 : Bool) (r3 : ByteArray) (r4 : ByteArray) (r5 : ByteArray) (r6 : Int) (w0 w : World) (hI : IsS127 w0 w g s0_0 s0_1) (hB : Below w0.heap.size w0 w) (h : spec_l13Affix.f k s0_0 s0_1 = some (r1, r2, r3, r4, r5, r6)) :
  Calls Try.prog 182 #[.pointer (some ⟨g, 0, none⟩)] w fun e w' => e = .returned (.agg #[.string r1, .bool r2, .string r3, .string r4, .string r5]) ∧ IsS127 w0 w' g s0_0 r6 ∧ Below w0.heap.size w0 w' ∧ KeepBut w w' g none := by
 have hu117 := Try.underlying117; have HI0 := am hI; have HK := am (KeepBut.refl w g none); have HL := am hB.size; clear hI; have HW0 := am hB.size; have HB := am hB; clear hB
 have H : ((some (([(⟨(⟨#[83]⟩ : ByteArray), false, (⟨#[]⟩ : ByteArray), (⟨#[115]⟩ : ByteArray), (⟨#[]⟩ : ByteArray)⟩ : S117), (⟨(⟨#[83]⟩ : ByteArray), false, (⟨#[121]⟩ : ByteArray), (⟨#[105, 101, 115]⟩ : ByteArray), (⟨#[121]⟩ : ByteArray)⟩ : S117), (⟨(⟨#[71]⟩ : ByteArray), false, (⟨#[]⟩ : ByteArray), (⟨#[105, 110, 103]⟩ : ByteArray), (⟨#[]⟩ : ByteArray)⟩ : S117), (⟨(⟨#[71]⟩ : ByteArray), false, (⟨#[101]⟩ : ByteArray), (⟨#[105, 110, 103]⟩ : ByteArray), (⟨#[101]⟩ : ByteArray)⟩ : S117), (⟨(⟨#[85]⟩ : ByteArray), true, (⟨#[]⟩ : ByteArray), (⟨#[117, 110]⟩ : ByteArray), (⟨#[]⟩ : ByteArray)⟩ : S117), (⟨(⟨#[82]⟩ : ByteArray), true, (⟨#[97]⟩ : ByteArray), (⟨#[98]⟩ : ByteArray), (⟨#[97]⟩ : ByteArray)⟩ : S117), (⟨(⟨#[84]⟩ : ByteArray), false, (⟨#[]⟩ : ByteArray), (⟨#[116]⟩ : ByteArray), (⟨#[97, 99]⟩ : ByteArray)⟩ : S117), (⟨(⟨#[67]⟩ : ByteArray), false, (⟨#[]⟩ : ByteArray), (⟨#[97, 98, 99]⟩ : ByteArray), (⟨#[]⟩ : ByteArray)⟩ : S117)] : List (S117)) : List (S117))).bind fun y259 => ((spec_l1Rd_pick.f k s0_0 s0_1 (y259.length : Int)).bind fun bt262 => (if 0 ≤ bt262.1 then (if bt262.1 < (y259.length : Int) then (some ((rd_T117 y259 bt262.1).f0, (rd_T117 y259 bt262.1).f1, (rd_T117 y259 bt262.1).f2, (rd_T117 y259 bt262.1).f3, (rd_T117 y259 bt262.1).f4, bt262.2)) else (none)) else (none)))) = some (r1, r2, r3, r4, r5, r6) := h
 clear h; obtain ⟨y259, hy259⟩ : ∃ y_ : List (S117), y_ = (([(⟨(⟨#[83]⟩ : ByteArray), false, (⟨#[]⟩ : ByteArray), (⟨#[115]⟩ : ByteArray), (⟨#[]⟩ : ByteArray)⟩ : S117), (⟨(⟨#[83]⟩ : ByteArray), false, (⟨#[121]⟩ : ByteArray), (⟨#[105, 101, 115]⟩ : ByteArray), (⟨#[121]⟩ : ByteArray)⟩ : S117), (⟨(⟨#[71]⟩ : ByteArray), false, (⟨#[]⟩ : ByteArray), (⟨#[105, 110, 103]⟩ : ByteArray), (⟨#[]⟩ : ByteArray)⟩ : S117), (⟨(⟨#[71]⟩ : ByteArray), false, (⟨#[101]⟩ : ByteArray), (⟨#[105, 110, 103]⟩ : ByteArray), (⟨#[101]⟩ : ByteArray)⟩ : S117), (⟨(⟨#[85]⟩ : ByteArray), true, (⟨#[]⟩ : ByteArray), (⟨#[117, 110]⟩ : ByteArray), (⟨#[]⟩ : ByteArray)⟩ : S117), (⟨(⟨#[82]⟩ : ByteArray), true, (⟨#[97]⟩ : ByteArray), (⟨#[98]⟩ : ByteArray), (⟨#[97]⟩ : ByteArray)⟩ : S117), (⟨(⟨#[84]⟩ : ByteArray), false, (⟨#[]⟩ : ByteArray), (⟨#[116]⟩ : ByteArray), (⟨#[97, 99]⟩ : ByteArray)⟩ : S117), (⟨(⟨#[67]⟩ : ByteArray), false, (⟨#[]⟩ : ByteArray), (⟨#[97, 98, 99]⟩ : ByteArray), (⟨#[]⟩ : ByteArray)⟩ : S117)] : List (S117))) := ⟨_, rfl⟩
 replace H : ((spec_l1Rd_pick.f k s0_0 s0_1 (y259.length : Int)).bind fun bt262 => (if 0 ≤ bt262.1 then (if bt262.1 < (y259.length : Int) then (some ((rd_T117 y259 bt262.1).f0, (rd_T117 y259 bt262.1).f1, (rd_T117 y259 bt262.1).f2, (rd_T117 y259 bt262.1).f3, (rd_T117 y259 bt262.1).f4, bt262.2)) else (none)) else (none))) = some (r1, r2, r3, r4, r5, r6) := by first | (rw [hy259]; with_reducible exact H) | (have H2_ := (Option.bind_some _ _).symm.trans H; rw [hy259]; with_reducible exact H2_) | (have H2_ := (Option.bind_some _ _).symm.trans H; with_reducible exact H2_) | with_reducible exact H | (rw [hy259]; exact H) | exact H
 have Ny259 := am hy259; clear hy259; replace H := Option.bind_eq_some_iff.mp H; obtain ⟨⟨t262, t263⟩, A20, H⟩ := H; replace H : (if 0 ≤ t262 then (if t262 < (y259.length : Int) then (some ((rd_T117 y259 t262).f0, (rd_T117 y259 t262).f1, (rd_T117 y259 t262).f2, (rd_T117 y259 t262).f3, (rd_T117 y259 t262).f4, t263)) else (none)) else (none)) = some (r1, r2, r3, r4, r5, r6) := H; have A2 := Aside0.mk A20; clear A20
 by_cases c3 : 0 ≤ t262
 ·rw [if_pos c3] at H; have c3b0 := decide_eq_true c3; clear c3
  by_cases c4 : t262 < (y259.length : Int)
  ·rw [if_pos c4] at H; have c4b0 := decide_eq_true c4; clear c4
   simp only [Option.some.injEq, Prod.mk.injEq] at H
   obtain ⟨rfl, rfl, rfl, rfl, rfl, rfl⟩ := H; go_enter Try.func182, Try.ntmps182
   go_wp2_with (first | ((with_reducible refine gate_dst (N := 2) rfl ?_); refine bx 2 (cs := #[.string (⟨#[]⟩ : ByteArray), .bool false, .string (⟨#[]⟩ : ByteArray), .string (⟨#[]⟩ : ByteArray), .string (⟨#[]⟩ : ByteArray)]) (t := 117) ?_; intro gb258 hg w5 hbox hb; replace HB := am (below_step b1_ hb); have BK258 := am (hbox); have GW258 := am ((b7_ : w.heap.size ≤ gb258)); have GE258 := am ((Nat.le_trans HW0.out (b7_ : w.heap.size ≤ gb258) : w0.heap.size ≤ gb258)); replace HK := am (KeepBut.trans b0_ (KeepBut.of_below hb g none) (.inl rfl)); have NB0_258 := am ((b37_ : g ≠ gb258)); have NB258_0 := am ((b38_ : gb258 ≠ g)); replace HI0 := am (IsS127.below b2_ hb); clear hb hbox hg) | ((with_reducible refine gate_dst (N := 12) rfl ?_); refine Kd.R_lit k117 _ 117 ?hg (N := 12) ?hd (xs := ([(⟨(⟨#[83]⟩ : ByteArray), false, (⟨#[]⟩ : ByteArray), (⟨#[115]⟩ : ByteArray), (⟨#[]⟩ : ByteArray)⟩ : S117), (⟨(⟨#[83]⟩ : ByteArray), false, (⟨#[121]⟩ : ByteArray), (⟨#[105, 101, 115]⟩ : ByteArray), (⟨#[121]⟩ : ByteArray)⟩ : S117), (⟨(⟨#[71]⟩ : ByteArray), false, (⟨#[]⟩ : ByteArray), (⟨#[105, 110, 103]⟩ : ByteArray), (⟨#[]⟩ : ByteArray)⟩ : S117), (⟨(⟨#[71]⟩ : ByteArray), false, (⟨#[101]⟩ : ByteArray), (⟨#[105, 110, 103]⟩ : ByteArray), (⟨#[101]⟩ : ByteArray)⟩ : S117), (⟨(⟨#[85]⟩ : ByteArray), true, (⟨#[]⟩ : ByteArray), (⟨#[117, 110]⟩ : ByteArray), (⟨#[]⟩ : ByteArray)⟩ : S117), (⟨(⟨#[82]⟩ : ByteArray), true, (⟨#[97]⟩ : ByteArray), (⟨#[98]⟩ : ByteArray), (⟨#[97]⟩ : ByteArray)⟩ : S117), (⟨(⟨#[84]⟩ : ByteArray), false, (⟨#[]⟩ : ByteArray), (⟨#[116]⟩ : ByteArray), (⟨#[97, 99]⟩ : ByteArray)⟩ : S117), (⟨(⟨#[67]⟩ : ByteArray), false, (⟨#[]⟩ : ByteArray), (⟨#[97, 98, 99]⟩ : ByteArray), (⟨#[]⟩ : ByteArray)⟩ : S117)] : List (S117))) (inner := [.string (⟨#[83]⟩ : ByteArray), .bool false, .string (⟨#[]⟩ : ByteArray), .string (⟨#[115]⟩ : ByteArray), .string (⟨#[]⟩ : ByteArray), .string (⟨#[83]⟩ : ByteArray), .bool false, .string (⟨#[121]⟩ : ByteArray), .string (⟨#[105, 101, 115]⟩ : ByteArray), .string (⟨#[121]⟩ : ByteArray), .string (⟨#[71]⟩ : ByteArray), .bool false, .string (⟨#[]⟩ : ByteArray), .string (⟨#[105, 110, 103]⟩ : ByteArray), .string (⟨#[]⟩ : ByteArray), .string (⟨#[71]⟩ : ByteArray), .bool false, .string (⟨#[101]⟩ : ByteArray), .string (⟨#[105, 110, 103]⟩ : ByteArray), .string (⟨#[101]⟩ : ByteArray), .string (⟨#[85]⟩ : ByteArray), .bool true, .string (⟨#[]⟩ : ByteArray), .string (⟨#[117, 110]⟩ : ByteArray), .string (⟨#[]⟩ : ByteArray), .string (⟨#[82]⟩ : ByteArray), .bool true, .string (⟨#[97]⟩ : ByteArray), .string (⟨#[98]⟩ : ByteArray), .string (⟨#[97]⟩ : ByteArray), .string (⟨#[84]⟩ : ByteArray), .bool false, .string (⟨#[]⟩ : ByteArray), .string (⟨#[116]⟩ : ByteArray), .string (⟨#[97, 99]⟩ : ByteArray), .string (⟨#[67]⟩ : ByteArray), .bool false, .string (⟨#[]⟩ : ByteArray), .string (⟨#[97, 98, 99]⟩ : ByteArray), .string (⟨#[]⟩ : ByteArray)]) (ok := fun _ => True) (okp := fun _ => True) ?hr ?hp (fun _ hk => hk) trivial (Below.refl _ _) (Nat.le_refl _) (by simp) ?_; (case hd => rfl); (case hg => rfl); (case hr => first | (go_simp; done) | (go_simp; rfl)); (case hp => exact (Reps.c5 (show Kd.M k117 _ _ _ (⟨(⟨#[83]⟩ : ByteArray), false, (⟨#[]⟩ : ByteArray), (⟨#[115]⟩ : ByteArray), (⟨#[]⟩ : ByteArray)⟩ : S117) [.string (⟨#[83]⟩ : ByteArray), .bool false, .string (⟨#[]⟩ : ByteArray), .string (⟨#[115]⟩ : ByteArray), .string (⟨#[]⟩ : ByteArray)] from (k117_mkM _ _ _ (⟨(⟨#[83]⟩ : ByteArray), false, (⟨#[]⟩ : ByteArray), (⟨#[115]⟩ : ByteArray), (⟨#[]⟩ : ByteArray)⟩ : S117) )) (Reps.c5 (show Kd.M k117 _ _ _ (⟨(⟨#[83]⟩ : ByteArray), false, (⟨#[121]⟩ : ByteArray), (⟨#[105, 101, 115]⟩ : ByteArray), (⟨#[121]⟩ : ByteArray)⟩ : S117) [.string (⟨#[83]⟩ : ByteArray), .bool false, .string (⟨#[121]⟩ : ByteArray), .string (⟨#[105, 101, 115]⟩ : ByteArray), .string (⟨#[121]⟩ : ByteArray)] from (k117_mkM _ _ _ (⟨(⟨#[83]⟩ : ByteArray), false, (⟨#[121]⟩ : ByteArray), (⟨#[105, 101, 115]⟩ : ByteArray), (⟨#[121]⟩ : ByteArray)⟩ : S117) )) (Reps.c5 (show Kd.M k117 _ _ _ (⟨(⟨#[71]⟩ : ByteArray), false, (⟨#[]⟩ : ByteArray), (⟨#[105, 110, 103]⟩ : ByteArray), (⟨#[]⟩ : ByteArray)⟩ : S117) [.string (⟨#[71]⟩ : ByteArray), .bool false, .string (⟨#[]⟩ : ByteArray), .string (⟨#[105, 110, 103]⟩ : ByteArray), .string (⟨#[]⟩ : ByteArray)] from (k117_mkM _ _ _ (⟨(⟨#[71]⟩ : ByteArray), false, (⟨#[]⟩ : ByteArray), (⟨#[105, 110, 103]⟩ : ByteArray), (⟨#[]⟩ : ByteArray)⟩ : S117) )) (Reps.c5 (show Kd.M k117 _ _ _ (⟨(⟨#[71]⟩ : ByteArray), false, (⟨#[101]⟩ : ByteArray), (⟨#[105, 110, 103]⟩ : ByteArray), (⟨#[101]⟩ : ByteArray)⟩ : S117) [.string (⟨#[71]⟩ : ByteArray), .bool false, .string (⟨#[101]⟩ : ByteArray), .string (⟨#[105, 110, 103]⟩ : ByteArray), .string (⟨#[101]⟩ : ByteArray)] from (k117_mkM _ _ _ (⟨(⟨#[71]⟩ : ByteArray), false, (⟨#[101]⟩ : ByteArray), (⟨#[105, 110, 103]⟩ : ByteArray), (⟨#[101]⟩ : ByteArray)⟩ : S117) )) (Reps.c5 (show Kd.M k117 _ _ _ (⟨(⟨#[85]⟩ : ByteArray), true, (⟨#[]⟩ : ByteArray), (⟨#[117, 110]⟩ : ByteArray), (⟨#[]⟩ : ByteArray)⟩ : S117) [.string (⟨#[85]⟩ : ByteArray), .bool true, .string (⟨#[]⟩ : ByteArray), .string (⟨#[117, 110]⟩ : ByteArray), .string (⟨#[]⟩ : ByteArray)] from (k117_mkM _ _ _ (⟨(⟨#[85]⟩ : ByteArray), true, (⟨#[]⟩ : ByteArray), (⟨#[117, 110]⟩ : ByteArray), (⟨#[]⟩ : ByteArray)⟩ : S117) )) (Reps.c5 (show Kd.M k117 _ _ _ (⟨(⟨#[82]⟩ : ByteArray), true, (⟨#[97]⟩ : ByteArray), (⟨#[98]⟩ : ByteArray), (⟨#[97]⟩ : ByteArray)⟩ : S117) [.string (⟨#[82]⟩ : ByteArray), .bool true, .string (⟨#[97]⟩ : ByteArray), .string (⟨#[98]⟩ : ByteArray), .string (⟨#[97]⟩ : ByteArray)] from (k117_mkM _ _ _ (⟨(⟨#[82]⟩ : ByteArray), true, (⟨#[97]⟩ : ByteArray), (⟨#[98]⟩ : ByteArray), (⟨#[97]⟩ : ByteArray)⟩ : S117) )) (Reps.c5 (show Kd.M k117 _ _ _ (⟨(⟨#[84]⟩ : ByteArray), false, (⟨#[]⟩ : ByteArray), (⟨#[116]⟩ : ByteArray), (⟨#[97, 99]⟩ : ByteArray)⟩ : S117) [.string (⟨#[84]⟩ : ByteArray), .bool false, .string (⟨#[]⟩ : ByteArray), .string (⟨#[116]⟩ : ByteArray), .string (⟨#[97, 99]⟩ : ByteArray)] from (k117_mkM _ _ _ (⟨(⟨#[84]⟩ : ByteArray), false, (⟨#[]⟩ : ByteArray), (⟨#[116]⟩ : ByteArray), (⟨#[97, 99]⟩ : ByteArray)⟩ : S117) )) (Reps.c5 (show Kd.M k117 _ _ _ (⟨(⟨#[67]⟩ : ByteArray), false, (⟨#[]⟩ : ByteArray), (⟨#[97, 98, 99]⟩ : ByteArray), (⟨#[]⟩ : ByteArray)⟩ : S117) [.string (⟨#[67]⟩ : ByteArray), .bool false, .string (⟨#[]⟩ : ByteArray), .string (⟨#[97, 98, 99]⟩ : ByteArray), .string (⟨#[]⟩ : ByteArray)] from (k117_mkM _ _ _ (⟨(⟨#[67]⟩ : ByteArray), false, (⟨#[]⟩ : ByteArray), (⟨#[97, 98, 99]⟩ : ByteArray), (⟨#[]⟩ : ByteArray)⟩ : S117) )) (Reps.none _ _)))))))))); intro v260 w6 ho7 hb hg_ hnew_; clear hg_ hnew_; (first | rw [← Ny259.out] at ho7 | (simp only [Int.reduceToNat] at ho7; rw [← Ny259.out] at ho7) | (simp only [Int.toNat_natCast] at ho7; rw [← Ny259.out] at ho7)); have HO261 := am (Kd.R_lower (Kd.R_newB ho7 (g := gb258) (o := .cells #[.string (⟨#[]⟩ : ByteArray), .bool false, .string (⟨#[]⟩ : ByteArray), .string (⟨#[]⟩ : ByteArray), .string (⟨#[]⟩ : ByteArray)] 117 (0, 0)) (bq BK258.out)) (keep_size (w := w) (g := g) (row := none) b34_)); replace BK258 := am (blk_below (g := gb258) (o := .cells #[.string (⟨#[]⟩ : ByteArray), .bool false, .string (⟨#[]⟩ : ByteArray), .string (⟨#[]⟩ : ByteArray), .string (⟨#[]⟩ : ByteArray)] 117 (0, 0)) (bq BK258.out) hb); replace HK := am (KeepBut.trans b34_ (KeepBut.of_below hb g none) (.inl rfl)); replace HB := am (below_step b55_ hb); replace HI0 := am (IsS127.below b58_ hb); clear hb ho7; obtain ⟨Ao8, co8, eo8⟩ := Kd.R_slice HO261.out; subst eo8) | ((with_reducible refine gate_callee (f := 67) rfl ?_); refine goesL_ (some 17) rfl rfl Try.func67 (by kernel_rfl) rfl #[.pointer (some ⟨g, 0, none⟩), .int .i64 (y259.length : Int)] rfl mq ?_; (with_reducible refine (spec_l1Rd_pick.calls k g s0_0 s0_1 (y259.length : Int) t262 t263 w0 _ ?side1 ?side2 A2.out).mono ?_); (case side1 => repeat (first | (with_reducible first | exact HI0.out | apply IsS127.alloc | apply IsS127.drewN | apply IsS127.drew | apply IsS127.set_1 | refine IsS127.far ?_ NB0_258.out _) | exact HI0.out)); (case side2 => repeat (first | (with_reducible first | exact HB.out | apply below_alloc | apply pw_below_drewN | apply below_drew1 | refine below_set ?_ (IsS127.ge HI0.out) | refine below_set ?_ GE258.out) | exact HB.out)); rintro e w9 ⟨rfl, hi, hb, hk⟩; refine ⟨_, rfl, ?_⟩; replace BK258 := am (KeepBut.blk hk (g' := gb258) (o := .cells #[.string (⟨#[]⟩ : ByteArray), .bool false, .string (⟨#[]⟩ : ByteArray), .string (⟨#[]⟩ : ByteArray), .string (⟨#[]⟩ : ByteArray)] 117 (0, 0)) (bq BK258.out) NB258_0.out (by simp)); replace HO261 := am (Kd.R_mono (Kd.R_keep (IsS127.apart (show IsS127 w0 _ g s0_0 s0_1 from by repeat (first | (with_reducible first | exact HI0.out | apply IsS127.alloc | apply IsS127.drewN | apply IsS127.drew | apply IsS127.set_1 | refine IsS127.far ?_ NB0_258.out _) | exact HI0.out)) (rq HO261.out) (by decide)) hk (fun _ h => h.2)) (fun _ h => h.1)); replace HK := am (KeepBut.trans b34_ hk (.inl rfl)); replace HB := am (hb); replace HI0 := am (hi); (try clear hb); (try clear hb2); (try clear hk); (try clear hi); have p264 : 0 ≤ (t262 : Int) := of_decide_eq_true ad; have q264 : t262 < (y259.length : Int) := of_decide_eq_true ad; obtain ⟨ad264, e264, hx264_0, hx264_1, hx264_2, hx264_3, hx264_4⟩ := at_T117 (Kd.R_reads' HO261.out).2.2 t262 p264 q264; cases e264; replace p264 := eq_true p264; replace q264 := eq_true q264; have hnb10 := NB258_0.out; have hnc10 := NB0_258.out; have hcz11_0 := bc BK258.out 0; have hcz11_1 := bc BK258.out 1; have hcz11_2 := bc BK258.out 2; have hcz11_3 := bc BK258.out 3; have hcz11_4 := bc BK258.out 4; have hfz11_0 := bf BK258.out 0; have hfz11_1 := bf BK258.out 1; have hfz11_2 := bf BK258.out 2; have hfz11_3 := bf BK258.out 3; have hfz11_4 := bf BK258.out 4))
   refine bodyPost_ret (results_cell_row rfl _ _ gb258 117 #[.string ((rd_T117 y259 t262).f0), .bool ((rd_T117 y259 t262).f1), .string ((rd_T117 y259 t262).f2), .string ((rd_T117 y259 t262).f3), .string ((rd_T117 y259 t262).f4)] (0, 0) _ rfl (by (with_reducible repeat (first | refine blk_drewN ?_ _ | refine blk_drew ?_ | refine blk_alloc ?_ _)); refine blk_put (cs := #[.string ((rd_T117 y259 t262).f0), .bool ((rd_T117 y259 t262).f1), .string ((rd_T117 y259 t262).f2), .string ((rd_T117 y259 t262).f3), .string (⟨#[]⟩ : ByteArray)]) ?_ 4 _ rfl; (with_reducible repeat (first | refine blk_drewN ?_ _ | refine blk_drew ?_ | refine blk_alloc ?_ _)); refine blk_put (cs := #[.string ((rd_T117 y259 t262).f0), .bool ((rd_T117 y259 t262).f1), .string ((rd_T117 y259 t262).f2), .string (⟨#[]⟩ : ByteArray), .string (⟨#[]⟩ : ByteArray)]) ?_ 3 _ rfl; (with_reducible repeat (first | refine blk_drewN ?_ _ | refine blk_drew ?_ | refine blk_alloc ?_ _)); refine blk_put (cs := #[.string ((rd_T117 y259 t262).f0), .bool ((rd_T117 y259 t262).f1), .string (⟨#[]⟩ : ByteArray), .string (⟨#[]⟩ : ByteArray), .string (⟨#[]⟩ : ByteArray)]) ?_ 2 _ rfl; (with_reducible repeat (first | refine blk_drewN ?_ _ | refine blk_drew ?_ | refine blk_alloc ?_ _)); refine blk_put (cs := #[.string ((rd_T117 y259 t262).f0), .bool false, .string (⟨#[]⟩ : ByteArray), .string (⟨#[]⟩ : ByteArray), .string (⟨#[]⟩ : ByteArray)]) ?_ 1 _ rfl; (with_reducible repeat (first | refine blk_drewN ?_ _ | refine blk_drew ?_ | refine blk_alloc ?_ _)); refine blk_put (cs := #[.string (⟨#[]⟩ : ByteArray), .bool false, .string (⟨#[]⟩ : ByteArray), .string (⟨#[]⟩ : ByteArray), .string (⟨#[]⟩ : ByteArray)]) ?_ 0 _ rfl; (with_reducible repeat (first | refine blk_drewN ?_ _ | refine blk_drew ?_ | refine blk_alloc ?_ _)); exact BK258.out) Try.underlying117 rfl (by kernel_rfl)) rfl ?_
   exact ⟨eq_, b58_, b55_, b34_⟩
  ·rw [if_neg c4] at H
   exact absurd H (by simp)
 ·rw [if_neg c3] at H
  exact absurd H (by simp)

/-! ### spec_l13Affixes: function 164 -/
mutual
def spec_l13Affixes.l0 : Nat → List (S117) → Int → List Int → Int → Option ((List (S117)) × Int)
 | 0, _, _, _, _ => none
 | k + 1, x3, x4, x1000, x1001 => if x4 > 0 then ((spec_l13Affix.f k x1000 x1001).bind fun bt270 => (spec_l13Affixes.l1 k x3 x4 false 0 x1000 bt270.2.2.2.2.2 bt270.1 bt270.2.1 bt270.2.2.1 bt270.2.2.2.1 bt270.2.2.2.2.1)) else (some (x3, x1001))
def spec_l13Affixes.l1 : Nat → List (S117) → Int → Bool → Int → List Int → Int → ByteArray → Bool → ByteArray → ByteArray → ByteArray → Option ((List (S117)) × Int)
 | 0, _, _, _, _, _, _, _, _, _, _, _ => none
 | k + 1, x3, x4, x6, x7, x1000, x1001, x277000, x277001, x277002, x277003, x277004 => if x7 < (x3.length : Int) then (if x6 = true then (spec_l13Affixes.l1 k x3 x4 true (wrap64 (x7 + 1)) x1000 x1001 x277000 x277001 x277002 x277003 x277004) else (if 0 ≤ x7 then (spec_l13Affixes.l1 k x3 x4 ((((rd_T117 x3 x7).f0).toList) == x277000.toList && (((rd_T117 x3 x7).f1) == x277001 && ((((rd_T117 x3 x7).f2).toList) == x277002.toList && ((((rd_T117 x3 x7).f3).toList) == x277003.toList && ((((rd_T117 x3 x7).f4).toList) == x277004.toList))))) (wrap64 (x7 + 1)) x1000 x1001 x277000 x277001 x277002 x277003 x277004) else (none))) else (if x6 = true then (spec_l13Affixes.l0 k x3 (wrap64 (x4 - 1)) x1000 x1001) else (if x3.length < 1954687338268 then (spec_l13Affixes.l0 k (x3 ++ [(⟨x277000, x277001, x277002, x277003, x277004⟩ : S117)]) (wrap64 (x4 - 1)) x1000 x1001) else (none)))
end
def spec_l13Affixes.f (k : Nat) (s0_0 : List Int) (s0_1 : Int) : Option ((List (S117)) × Int) := (spec_l1Rd_pick.f k s0_0 s0_1 5).bind fun bt268 => (spec_l13Affixes.l0 k (([] : List (S117))) bt268.1 s0_0 bt268.2)
set_option maxHeartbeats 8000000 in
set_option maxRecDepth 100000 in
theorem spec_l13Affixes.calls (k : Nat) (g : Nat) (s0_0 : List Int) (s0_1 : Int) (r1 : List (S117)) (r2 : Int) (w0 w : World) (hI : IsS127 w0 w g s0_0 s0_1) (hB : Below w0.heap.size w0 w) (h : spec_l13Affixes.f k s0_0 s0_1 = some (r1, r2)) :
  Calls Try.prog 164 #[.pointer (some ⟨g, 0, none⟩)] w fun e w' => ∃ v0_ : Value, e = .returned (v0_) ∧ Kd.R k117 117 w' w.heap.size (fun _ => True) v0_ r1 ∧ IsS127 w0 w' g s0_0 r2 ∧ Below w0.heap.size w0 w' ∧ KeepBut w w' g none := by
 have hu117 := Try.underlying117; have HI0 := am hI; have HK := am (KeepBut.refl w g none); have HL := am hB.size; clear hI; have HW0 := am hB.size; have HB := am hB; clear hB
 have H : ((spec_l1Rd_pick.f k s0_0 s0_1 5).bind fun bt268 => (spec_l13Affixes.l0 k (([] : List (S117))) bt268.1 s0_0 bt268.2)) = some (r1, r2) := h
 clear h; obtain ⟨y265, hy265⟩ : ∃ y_ : List (S117), y_ = (([] : List (S117))) := ⟨_, rfl⟩
 replace H : ((spec_l1Rd_pick.f k s0_0 s0_1 5).bind fun bt268 => (spec_l13Affixes.l0 k y265 bt268.1 s0_0 bt268.2)) = some (r1, r2) := by first | (rw [hy265]; with_reducible exact H) | (have H2_ := (Option.bind_some _ _).symm.trans H; rw [hy265]; with_reducible exact H2_) | (have H2_ := (Option.bind_some _ _).symm.trans H; with_reducible exact H2_) | with_reducible exact H | (rw [hy265]; exact H) | exact H
 have Ny265 := am hy265; clear hy265; replace H := Option.bind_eq_some_iff.mp H; obtain ⟨⟨t268, t269⟩, A20, H⟩ := H; replace H : (spec_l13Affixes.l0 k y265 t268 s0_0 t269) = some (r1, r2) := H; have A2 := Aside0.mk A20; clear A20
 have H' := am H
 clear H; go_enter Try.func164, Try.ntmps164
 go_wp2_with (first | ((with_reducible refine gate_dst (N := 8) rfl ?_); refine Kd.R_lit k117 _ 117 ?hg (N := 8) ?hd (xs := ([] : List (S117))) (inner := []) (ok := fun _ => True) (okp := fun _ => True) ?hr ?hp (fun _ hk => hk) trivial (Below.refl _ _) (Nat.le_refl _) (by simp) ?_; (case hd => rfl); (case hg => rfl); (case hr => first | (go_simp; done) | (go_simp; rfl)); (case hp => exact (Reps.none _ _)); intro v266 w3 ho4 hb hg_ hnew_; clear hg_ hnew_; (first | rw [← Ny265.out] at ho4 | (simp only [Int.reduceToNat] at ho4; rw [← Ny265.out] at ho4) | (simp only [Int.toNat_natCast] at ho4; rw [← Ny265.out] at ho4)); have HO267 := am (Kd.R_lower ho4 (keep_size (w := w) (g := g) (row := none) b0_)); replace HK := am (KeepBut.trans b0_ (KeepBut.of_below hb g none) (.inl rfl)); replace HB := am (below_step b1_ hb); replace HI0 := am (IsS127.below b2_ hb); clear hb ho4) | (go_at_call 67; (with_reducible refine (spec_l1Rd_pick.calls k g s0_0 s0_1 5 t268 t269 w0 _ ?side1 ?side2 A2.out).mono ?_); (case side1 => repeat (first | (with_reducible first | exact HI0.out | apply IsS127.alloc | apply IsS127.drewN | apply IsS127.drew | apply IsS127.set_1) | exact HI0.out)); (case side2 => repeat (first | (with_reducible first | exact HB.out | apply below_alloc | apply pw_below_drewN | apply below_drew1 | refine below_set ?_ (IsS127.ge HI0.out)) | exact HB.out)); rintro e w5 ⟨rfl, hi, hb, hk⟩; replace HO267 := am (Kd.R_mono (Kd.R_keep (IsS127.apart (show IsS127 w0 _ g s0_0 s0_1 from by repeat (first | (with_reducible first | exact HI0.out | apply IsS127.alloc | apply IsS127.drewN | apply IsS127.drew | apply IsS127.set_1) | exact HI0.out)) (rq HO267.out) (by decide)) hk (fun _ h => h.2)) (fun _ h => h.1)); replace HK := am (KeepBut.trans b0_ hk (.inl rfl)); replace HB := am (hb); replace HI0 := am (hi); (try clear hb); (try clear hb2); (try clear hk); (try clear hi)))
 repeat (go_quiet (first | ((with_reducible refine gate_dst (N := 8) rfl ?_); refine Kd.R_lit k117 _ 117 ?hg (N := 8) ?hd (xs := ([] : List (S117))) (inner := []) (ok := fun _ => True) (okp := fun _ => True) ?hr ?hp (fun _ hk => hk) trivial (Below.refl _ _) (Nat.le_refl _) (by simp) ?_; (case hd => rfl); (case hg => rfl); (case hr => first | (go_simp; done) | (go_simp; rfl)); (case hp => exact (Reps.none _ _)); intro v266 w3 ho4 hb hg_ hnew_; clear hg_ hnew_; (first | rw [← Ny265.out] at ho4 | (simp only [Int.reduceToNat] at ho4; rw [← Ny265.out] at ho4) | (simp only [Int.toNat_natCast] at ho4; rw [← Ny265.out] at ho4)); have HO267 := am (Kd.R_lower ho4 (keep_size (w := w) (g := g) (row := none) b0_)); replace HK := am (KeepBut.trans b0_ (KeepBut.of_below hb g none) (.inl rfl)); replace HB := am (below_step b1_ hb); replace HI0 := am (IsS127.below b2_ hb); clear hb ho4) | (go_at_call 67; (with_reducible refine (spec_l1Rd_pick.calls k g s0_0 s0_1 5 t268 t269 w0 _ ?side1 ?side2 A2.out).mono ?_); (case side1 => repeat (first | (with_reducible first | exact HI0.out | apply IsS127.alloc | apply IsS127.drewN | apply IsS127.drew | apply IsS127.set_1) | exact HI0.out)); (case side2 => repeat (first | (with_reducible first | exact HB.out | apply below_alloc | apply pw_below_drewN | apply below_drew1 | refine below_set ?_ (IsS127.ge HI0.out)) | exact HB.out)); rintro e w5 ⟨rfl, hi, hb, hk⟩; replace HO267 := am (Kd.R_mono (Kd.R_keep (IsS127.apart (show IsS127 w0 _ g s0_0 s0_1 from by repeat (first | (with_reducible first | exact HI0.out | apply IsS127.alloc | apply IsS127.drewN | apply IsS127.drew | apply IsS127.set_1) | exact HI0.out)) (rq HO267.out) (by decide)) hk (fun _ h => h.2)) (fun _ h => h.1)); replace HK := am (KeepBut.trans b0_ hk (.inl rfl)); replace HB := am (hb); replace HI0 := am (hi); (try clear hb); (try clear hb2); (try clear hk); (try clear hi))); try go_wp2_with (first | ((with_reducible refine gate_dst (N := 8) rfl ?_); refine Kd.R_lit k117 _ 117 ?hg (N := 8) ?hd (xs := ([] : List (S117))) (inner := []) (ok := fun _ => True) (okp := fun _ => True) ?hr ?hp (fun _ hk => hk) trivial (Below.refl _ _) (Nat.le_refl _) (by simp) ?_; (case hd => rfl); (case hg => rfl); (case hr => first | (go_simp; done) | (go_simp; rfl)); (case hp => exact (Reps.none _ _)); intro v266 w3 ho4 hb hg_ hnew_; clear hg_ hnew_; (first | rw [← Ny265.out] at ho4 | (simp only [Int.reduceToNat] at ho4; rw [← Ny265.out] at ho4) | (simp only [Int.toNat_natCast] at ho4; rw [← Ny265.out] at ho4)); have HO267 := am (Kd.R_lower ho4 (keep_size (w := w) (g := g) (row := none) b0_)); replace HK := am (KeepBut.trans b0_ (KeepBut.of_below hb g none) (.inl rfl)); replace HB := am (below_step b1_ hb); replace HI0 := am (IsS127.below b2_ hb); clear hb ho4) | (go_at_call 67; (with_reducible refine (spec_l1Rd_pick.calls k g s0_0 s0_1 5 t268 t269 w0 _ ?side1 ?side2 A2.out).mono ?_); (case side1 => repeat (first | (with_reducible first | exact HI0.out | apply IsS127.alloc | apply IsS127.drewN | apply IsS127.drew | apply IsS127.set_1) | exact HI0.out)); (case side2 => repeat (first | (with_reducible first | exact HB.out | apply below_alloc | apply pw_below_drewN | apply below_drew1 | refine below_set ?_ (IsS127.ge HI0.out)) | exact HB.out)); rintro e w5 ⟨rfl, hi, hb, hk⟩; replace HO267 := am (Kd.R_mono (Kd.R_keep (IsS127.apart (show IsS127 w0 _ g s0_0 s0_1 from by repeat (first | (with_reducible first | exact HI0.out | apply IsS127.alloc | apply IsS127.drewN | apply IsS127.drew | apply IsS127.set_1) | exact HI0.out)) (rq HO267.out) (by decide)) hk (fun _ h => h.2)) (fun _ h => h.1)); replace HK := am (KeepBut.trans b0_ hk (.inl rfl)); replace HB := am (hb); replace HI0 := am (hi); (try clear hb); (try clear hb2); (try clear hk); (try clear hi))))
 go_loopg [3, 4] k (fun kq v3 v4 w' => ∃ (x3_1 : List (S117)) (x4_1 : Int) (x1001_1 : Int), v4 = .int .i64 x4_1 ∧ Aside0 (spec_l13Affixes.l0 kq x3_1 x4_1 s0_0 x1001_1 = some (r1, r2)) ∧ Aside0 (kq ≤ k) ∧ Aside0 (Kd.R k117 117 w' w.heap.size (fun _ => True) v3 x3_1) ∧ Aside0 (IsS127 w0 w' g s0_0 x1001_1) ∧ Aside0 (KeepBut w w' g none) ∧ Aside0 (Below w0.heap.size w0 w'))
 case atStart => exact ⟨(y265), (t268), (t269), sq, H', ⟨Nat.le_refl _⟩, ⟨rq HO267.out⟩, ⟨b2_⟩, ⟨b0_⟩, ⟨b1_⟩⟩
 case round =>
  clear H'; (try clear c1); (try clear p2); obtain ⟨x3_1, x4_1, x1001_1, rfl, HA, HK1, HO_3, HI0, HK, HB⟩ := hrel
  cases gk with
  | zero => exact absurd HA.out (by simp [spec_l13Affixes.l0])
  | succ k1 =>
   have H := HA.out; clear HA
   simp only [spec_l13Affixes.l0] at H
   by_cases c6 : x4_1 > 0
   ·rw [if_pos c6] at H; have c6b0 := decide_eq_true c6; clear c6; replace H := Option.bind_eq_some_iff.mp H; obtain ⟨⟨t270, t271, t272, t273, t274, t275⟩, A70, H⟩ := H; replace H : (spec_l13Affixes.l1 k1 x3_1 x4_1 false 0 s0_0 t275 t270 t271 t272 t273 t274) = some (r1, r2) := H; have A7 := Aside0.mk A70; clear A70
    have H' := am H
    clear H
    go_wp2_with (first | (go_at_call 182; (with_reducible refine (spec_l13Affix.calls k1 g s0_0 x1001_1 t270 t271 t272 t273 t274 t275 w0 _ ?side1 ?side2 A7.out).mono ?_); (case side1 => repeat (first | (with_reducible first | exact HI0.out | apply IsS127.alloc | apply IsS127.drewN | apply IsS127.drew | apply IsS127.set_1) | exact HI0.out)); (case side2 => repeat (first | (with_reducible first | exact HB.out | apply below_alloc | apply pw_below_drewN | apply below_drew1 | refine below_set ?_ (IsS127.ge HI0.out)) | exact HB.out)); rintro e w8 ⟨rfl, hi, hb, hk⟩; replace HO_3 := am (Kd.R_mono (Kd.R_keep (IsS127.apart (show IsS127 w0 _ g s0_0 x1001_1 from by repeat (first | (with_reducible first | exact HI0.out | apply IsS127.alloc | apply IsS127.drewN | apply IsS127.drew | apply IsS127.set_1) | exact HI0.out)) (rq HO_3.out) (by decide)) hk (fun _ h => h.2)) (fun _ h => h.1)); replace HK := am (KeepBut.trans b0_ hk (.inl rfl)); replace HB := am (hb); replace HI0 := am (hi); (try clear hb); (try clear hb2); (try clear hk); (try clear hi)) | ((with_reducible refine gate_dst (N := 5) rfl ?_); refine bx 5 (cs := #[.string (⟨#[]⟩ : ByteArray), .bool false, .string (⟨#[]⟩ : ByteArray), .string (⟨#[]⟩ : ByteArray), .string (⟨#[]⟩ : ByteArray)]) (t := 117) ?_; intro gb276 hg w9 hbox hb; replace HO_3 := am (Kd.R_below (Kd.R_elderB (rq HO_3.out) gb276 (Nat.le_of_eq hg.symm)) hb); replace HB := am (below_step b1_ hb); have BK276 := am (hbox); have GW276 := am ((b7_ : w.heap.size ≤ gb276)); have GE276 := am ((Nat.le_trans HW0.out (b7_ : w.heap.size ≤ gb276) : w0.heap.size ≤ gb276)); replace HK := am (KeepBut.trans b0_ (KeepBut.of_below hb g none) (.inl rfl)); have NB0_276 := am ((b39_ : g ≠ gb276)); have NB276_0 := am ((b40_ : gb276 ≠ g)); replace HI0 := am (IsS127.below b2_ hb); clear hb hbox hg; have hnb10 := NB276_0.out; have hnc10 := NB0_276.out; have hcz11_0 := bc BK276.out 0; have hcz11_1 := bc BK276.out 1; have hcz11_2 := bc BK276.out 2; have hcz11_3 := bc BK276.out 3; have hcz11_4 := bc BK276.out 4; have hfz11_0 := bf BK276.out 0; have hfz11_1 := bf BK276.out 1; have hfz11_2 := bf BK276.out 2; have hfz11_3 := bf BK276.out 3; have hfz11_4 := bf BK276.out 4))
    repeat (go_quiet (first | (go_at_call 182; (with_reducible refine (spec_l13Affix.calls k1 g s0_0 x1001_1 t270 t271 t272 t273 t274 t275 w0 _ ?side1 ?side2 A7.out).mono ?_); (case side1 => repeat (first | (with_reducible first | exact HI0.out | apply IsS127.alloc | apply IsS127.drewN | apply IsS127.drew | apply IsS127.set_1) | exact HI0.out)); (case side2 => repeat (first | (with_reducible first | exact HB.out | apply below_alloc | apply pw_below_drewN | apply below_drew1 | refine below_set ?_ (IsS127.ge HI0.out)) | exact HB.out)); rintro e w8 ⟨rfl, hi, hb, hk⟩; replace HO_3 := am (Kd.R_mono (Kd.R_keep (IsS127.apart (show IsS127 w0 _ g s0_0 x1001_1 from by repeat (first | (with_reducible first | exact HI0.out | apply IsS127.alloc | apply IsS127.drewN | apply IsS127.drew | apply IsS127.set_1) | exact HI0.out)) (rq HO_3.out) (by decide)) hk (fun _ h => h.2)) (fun _ h => h.1)); replace HK := am (KeepBut.trans b0_ hk (.inl rfl)); replace HB := am (hb); replace HI0 := am (hi); (try clear hb); (try clear hb2); (try clear hk); (try clear hi)) | ((with_reducible refine gate_dst (N := 5) rfl ?_); refine bx 5 (cs := #[.string (⟨#[]⟩ : ByteArray), .bool false, .string (⟨#[]⟩ : ByteArray), .string (⟨#[]⟩ : ByteArray), .string (⟨#[]⟩ : ByteArray)]) (t := 117) ?_; intro gb276 hg w9 hbox hb; replace HO_3 := am (Kd.R_below (Kd.R_elderB (rq HO_3.out) gb276 (Nat.le_of_eq hg.symm)) hb); replace HB := am (below_step b1_ hb); have BK276 := am (hbox); have GW276 := am ((b7_ : w.heap.size ≤ gb276)); have GE276 := am ((Nat.le_trans HW0.out (b7_ : w.heap.size ≤ gb276) : w0.heap.size ≤ gb276)); replace HK := am (KeepBut.trans b0_ (KeepBut.of_below hb g none) (.inl rfl)); have NB0_276 := am ((b39_ : g ≠ gb276)); have NB276_0 := am ((b40_ : gb276 ≠ g)); replace HI0 := am (IsS127.below b2_ hb); clear hb hbox hg; have hnb10 := NB276_0.out; have hnc10 := NB0_276.out; have hcz11_0 := bc BK276.out 0; have hcz11_1 := bc BK276.out 1; have hcz11_2 := bc BK276.out 2; have hcz11_3 := bc BK276.out 3; have hcz11_4 := bc BK276.out 4; have hfz11_0 := bf BK276.out 0; have hfz11_1 := bf BK276.out 1; have hfz11_2 := bf BK276.out 2; have hfz11_3 := bf BK276.out 3; have hfz11_4 := bf BK276.out 4)); try go_wp2_with (first | (go_at_call 182; (with_reducible refine (spec_l13Affix.calls k1 g s0_0 x1001_1 t270 t271 t272 t273 t274 t275 w0 _ ?side1 ?side2 A7.out).mono ?_); (case side1 => repeat (first | (with_reducible first | exact HI0.out | apply IsS127.alloc | apply IsS127.drewN | apply IsS127.drew | apply IsS127.set_1) | exact HI0.out)); (case side2 => repeat (first | (with_reducible first | exact HB.out | apply below_alloc | apply pw_below_drewN | apply below_drew1 | refine below_set ?_ (IsS127.ge HI0.out)) | exact HB.out)); rintro e w8 ⟨rfl, hi, hb, hk⟩; replace HO_3 := am (Kd.R_mono (Kd.R_keep (IsS127.apart (show IsS127 w0 _ g s0_0 x1001_1 from by repeat (first | (with_reducible first | exact HI0.out | apply IsS127.alloc | apply IsS127.drewN | apply IsS127.drew | apply IsS127.set_1) | exact HI0.out)) (rq HO_3.out) (by decide)) hk (fun _ h => h.2)) (fun _ h => h.1)); replace HK := am (KeepBut.trans b0_ hk (.inl rfl)); replace HB := am (hb); replace HI0 := am (hi); (try clear hb); (try clear hb2); (try clear hk); (try clear hi)) | ((with_reducible refine gate_dst (N := 5) rfl ?_); refine bx 5 (cs := #[.string (⟨#[]⟩ : ByteArray), .bool false, .string (⟨#[]⟩ : ByteArray), .string (⟨#[]⟩ : ByteArray), .string (⟨#[]⟩ : ByteArray)]) (t := 117) ?_; intro gb276 hg w9 hbox hb; replace HO_3 := am (Kd.R_below (Kd.R_elderB (rq HO_3.out) gb276 (Nat.le_of_eq hg.symm)) hb); replace HB := am (below_step b1_ hb); have BK276 := am (hbox); have GW276 := am ((b7_ : w.heap.size ≤ gb276)); have GE276 := am ((Nat.le_trans HW0.out (b7_ : w.heap.size ≤ gb276) : w0.heap.size ≤ gb276)); replace HK := am (KeepBut.trans b0_ (KeepBut.of_below hb g none) (.inl rfl)); have NB0_276 := am ((b39_ : g ≠ gb276)); have NB276_0 := am ((b40_ : gb276 ≠ g)); replace HI0 := am (IsS127.below b2_ hb); clear hb hbox hg; have hnb10 := NB276_0.out; have hnc10 := NB0_276.out; have hcz11_0 := bc BK276.out 0; have hcz11_1 := bc BK276.out 1; have hcz11_2 := bc BK276.out 2; have hcz11_3 := bc BK276.out 3; have hcz11_4 := bc BK276.out 4; have hfz11_0 := bf BK276.out 0; have hfz11_1 := bf BK276.out 1; have hfz11_2 := bf BK276.out 2; have hfz11_3 := bf BK276.out 3; have hfz11_4 := bf BK276.out 4)))
    go_loopg [6, 7] k1 (fun kq v6 v7 w' => ∃ (x6_2 : Bool) (x7_2 : Int), v6 = .bool x6_2 ∧ v7 = .int .i64 x7_2 ∧ Aside0 (spec_l13Affixes.l1 kq x3_1 x4_1 x6_2 x7_2 s0_0 t275 t270 t271 t272 t273 t274 = some (r1, r2)) ∧ Aside0 (kq ≤ k1) ∧ Aside0 (Kd.R k117 117 w' w.heap.size (fun k_ => k_ ≠ gb276) u3 x3_1) ∧ Aside0 (w'.heap[gb276]? = some (.cells #[.string t270, .bool t271, .string t272, .string t273, .string t274] 117 (0, 0))) ∧ Aside0 (IsS127 w0 w' g s0_0 t275) ∧ Aside0 (KeepBut w w' g none) ∧ Aside0 (Below w0.heap.size w0 w'))
    case atStart => exact ⟨(false), (0), sq, sq, H', ⟨Nat.le_refl _⟩, ⟨rq (Kd.R_mono (Kd.R_far (p := ⟨gb276, 4, none⟩) (Kd.R_far (p := ⟨gb276, 3, none⟩) (Kd.R_far (p := ⟨gb276, 2, none⟩) (Kd.R_far (p := ⟨gb276, 1, none⟩) (Kd.R_far (p := ⟨gb276, 0, none⟩) (Kd.R_mono HO_3.out (fun k_ hk => (⟨hk, hk.2⟩ : _ ∧ k_ ≠ gb276))) (fun _ hk => hk.2) (.string t270)) (fun _ hk => hk.2) (.bool t271)) (fun _ hk => hk.2) (.string t272)) (fun _ hk => hk.2) (.string t273)) (fun _ hk => hk.2) (.string t274)) (fun _ hk => hk.1.2))⟩, ⟨by (with_reducible repeat (first | refine blk_drewN ?_ _ | refine blk_drew ?_ | refine blk_alloc ?_ _)); refine blk_put (cs := #[.string t270, .bool t271, .string t272, .string t273, .string (⟨#[]⟩ : ByteArray)]) ?_ 4 _ rfl; (with_reducible repeat (first | refine blk_drewN ?_ _ | refine blk_drew ?_ | refine blk_alloc ?_ _)); refine blk_put (cs := #[.string t270, .bool t271, .string t272, .string (⟨#[]⟩ : ByteArray), .string (⟨#[]⟩ : ByteArray)]) ?_ 3 _ rfl; (with_reducible repeat (first | refine blk_drewN ?_ _ | refine blk_drew ?_ | refine blk_alloc ?_ _)); refine blk_put (cs := #[.string t270, .bool t271, .string (⟨#[]⟩ : ByteArray), .string (⟨#[]⟩ : ByteArray), .string (⟨#[]⟩ : ByteArray)]) ?_ 2 _ rfl; (with_reducible repeat (first | refine blk_drewN ?_ _ | refine blk_drew ?_ | refine blk_alloc ?_ _)); refine blk_put (cs := #[.string t270, .bool false, .string (⟨#[]⟩ : ByteArray), .string (⟨#[]⟩ : ByteArray), .string (⟨#[]⟩ : ByteArray)]) ?_ 1 _ rfl; (with_reducible repeat (first | refine blk_drewN ?_ _ | refine blk_drew ?_ | refine blk_alloc ?_ _)); refine blk_put (cs := #[.string (⟨#[]⟩ : ByteArray), .bool false, .string (⟨#[]⟩ : ByteArray), .string (⟨#[]⟩ : ByteArray), .string (⟨#[]⟩ : ByteArray)]) ?_ 0 _ rfl; (with_reducible repeat (first | refine blk_drewN ?_ _ | refine blk_drew ?_ | refine blk_alloc ?_ _)); exact BK276.out⟩, ⟨b17_⟩, ⟨b10_⟩, ⟨b14_⟩⟩
    case round =>
     clear H'; (try clear c1); (try clear p2); (try clear c6); (try clear c6b0); (try clear c10); (try clear hcz11_0); (try clear hcz11_1); (try clear hcz11_2); (try clear hcz11_3); (try clear hcz11_4); (try clear hfz11_0); (try clear hfz11_1); (try clear hfz11_2); (try clear hfz11_3); (try clear hfz11_4); (try clear p2); obtain ⟨x6_2, x7_2, rfl, rfl, HA, HK2, HO_3, BK276, HI0, HK, HB⟩ := hrel
     cases gk with
     | zero => exact absurd HA.out (by simp [spec_l13Affixes.l1])
     | succ k2 =>
      have H := HA.out; clear HA
      simp only [spec_l13Affixes.l1] at H
      by_cases c12 : x7_2 < (x3_1.length : Int)
      ·rw [if_pos c12] at H; have c12b0 := decide_eq_true c12; clear c12
       by_cases c13 : x6_2 = true
       ·subst c13
        have H1 : (spec_l13Affixes.l1 k2 x3_1 x4_1 true (wrap64 (x7_2 + 1)) s0_0 t275 t270 t271 t272 t273 t274) = some (r1, r2) := b20_
        replace H := H1; clear H1
        have H' := am H
        clear H; obtain ⟨Ao14, co14, eo14⟩ := Kd.R_slice HO_3.out; subst eo14; go_wp2
        repeat (go_quiet (fail); try go_wp2)
        go_roundg k2
        case measure => have := HK1.out; have := HK2.out; omega
        case rel => exact ⟨(true), (wrap64 (x7_2 + 1)), sq, sq, H', ⟨b27_⟩, ⟨rq HO_3.out⟩, ⟨bq BK276.out⟩, ⟨b17_⟩, ⟨b10_⟩, ⟨b14_⟩⟩
       ·replace c13 := Bool.eq_false_iff.mpr c13; subst c13
        have H1 : (if 0 ≤ x7_2 then (spec_l13Affixes.l1 k2 x3_1 x4_1 ((((rd_T117 x3_1 x7_2).f0).toList) == t270.toList && (((rd_T117 x3_1 x7_2).f1) == t271 && ((((rd_T117 x3_1 x7_2).f2).toList) == t272.toList && ((((rd_T117 x3_1 x7_2).f3).toList) == t273.toList && ((((rd_T117 x3_1 x7_2).f4).toList) == t274.toList))))) (wrap64 (x7_2 + 1)) s0_0 t275 t270 t271 t272 t273 t274) else (none)) = some (r1, r2) := b6_
        replace H := H1; clear H1
        by_cases c15 : 0 ≤ x7_2
        ·rw [if_pos c15] at H; have c15b0 := decide_eq_true c15; clear c15
         have H' := am H
         clear H; obtain ⟨Ao16, co16, eo16⟩ := Kd.R_slice HO_3.out; subst eo16
         have p277 : 0 ≤ (x7_2 : Int) := of_decide_eq_true ad
         have q277 : x7_2 < (x3_1.length : Int) := of_decide_eq_true ad
         obtain ⟨ad277, e277, hx277_0, hx277_1, hx277_2, hx277_3, hx277_4⟩ := at_T117 (Kd.R_reads' HO_3.out).2.2 x7_2 p277 q277
         cases e277
         replace p277 := eq_true p277; replace q277 := eq_true q277; have hnb17 := NB276_0.out; have hnc17 := NB0_276.out; have hcz18_0 := bc BK276.out 0; have hcz18_1 := bc BK276.out 1; have hcz18_2 := bc BK276.out 2; have hcz18_3 := bc BK276.out 3; have hcz18_4 := bc BK276.out 4; have hfz18_0 := bf BK276.out 0; have hfz18_1 := bf BK276.out 1; have hfz18_2 := bf BK276.out 2; have hfz18_3 := bf BK276.out 3; have hfz18_4 := bf BK276.out 4; go_wp2
         repeat (go_quiet (fail); try go_wp2)
         go_roundg k2
         case measure => have := HK1.out; have := HK2.out; omega
         case rel => exact ⟨(((((rd_T117 x3_1 x7_2).f0).toList) == t270.toList && (((rd_T117 x3_1 x7_2).f1) == t271 && ((((rd_T117 x3_1 x7_2).f2).toList) == t272.toList && ((((rd_T117 x3_1 x7_2).f3).toList) == t273.toList && ((((rd_T117 x3_1 x7_2).f4).toList) == t274.toList)))))), (wrap64 (x7_2 + 1)), sq, sq, H', ⟨b27_⟩, ⟨rq HO_3.out⟩, ⟨bq BK276.out⟩, ⟨b17_⟩, ⟨b10_⟩, ⟨b14_⟩⟩
        ·rw [if_neg c15] at H
         exact absurd H (by simp)
      ·rw [if_neg c12] at H; have c12b0 := decide_eq_false c12; clear c12
       by_cases c19 : x6_2 = true
       ·subst c19
        have H1 : (spec_l13Affixes.l0 k2 x3_1 (wrap64 (x4_1 - 1)) s0_0 t275) = some (r1, r2) := b20_
        replace H := H1; clear H1
        have H' := am H
        clear H; obtain ⟨Ao20, co20, eo20⟩ := Kd.R_slice HO_3.out; subst eo20; go_wp2
        repeat (go_quiet (fail); try go_wp2)
        go_roundg k2
        case measure => have := HK1.out; have := HK2.out; omega
        case rel => exact ⟨(x3_1), (wrap64 (x4_1 - 1)), (t275), sq, H', ⟨b27_⟩, ⟨rq (Kd.R_mono HO_3.out (fun _ hk => trivial))⟩, ⟨b17_⟩, ⟨b10_⟩, ⟨b14_⟩⟩
       ·replace c19 := Bool.eq_false_iff.mpr c19; subst c19
        have H1 : (if x3_1.length < 1954687338268 then (spec_l13Affixes.l0 k2 (x3_1 ++ [(⟨t270, t271, t272, t273, t274⟩ : S117)]) (wrap64 (x4_1 - 1)) s0_0 t275) else (none)) = some (r1, r2) := b6_
        replace H := H1; clear H1
        by_cases c21 : x3_1.length < 1954687338268
        ·rw [if_pos c21] at H; have LMc21 := Aside0.mk c21; clear c21; obtain ⟨y278, hy278⟩ : ∃ y_ : List (S117), y_ = (x3_1 ++ [(⟨t270, t271, t272, t273, t274⟩ : S117)]) := ⟨_, rfl⟩
         replace H : (spec_l13Affixes.l0 k2 y278 (wrap64 (x4_1 - 1)) s0_0 t275) = some (r1, r2) := by first | (rw [hy278]; with_reducible exact H) | (have H2_ := (Option.bind_some _ _).symm.trans H; rw [hy278]; with_reducible exact H2_) | (have H2_ := (Option.bind_some _ _).symm.trans H; with_reducible exact H2_) | with_reducible exact H | (rw [hy278]; exact H) | exact H
         have Ny278 := am hy278; clear hy278
         have H' := am H
         clear H; obtain ⟨Ao22, co22, eo22⟩ := Kd.R_slice HO_3.out; subst eo22; have hnb23 := NB276_0.out; have hnc23 := NB0_276.out; have hcz24_0 := bc BK276.out 0; have hcz24_1 := bc BK276.out 1; have hcz24_2 := bc BK276.out 2; have hcz24_3 := bc BK276.out 3; have hcz24_4 := bc BK276.out 4; have hfz24_0 := bf BK276.out 0; have hfz24_1 := bf BK276.out 1; have hfz24_2 := bf BK276.out 2; have hfz24_3 := bf BK276.out 3; have hfz24_4 := bf BK276.out 4
         go_wp2_with (first | ((with_reducible refine gate_builtin (b := .append) (xs := #[.tmp 34, .tmp 36]) rfl ?_); at_builtin; refine Kd.R_append k117 w.heap.size rfl (.tmp 34) (.tmp 36) 63 117 (.agg #[(.string ⟨#[]⟩), (.bool false), (.string ⟨#[]⟩), (.string ⟨#[]⟩), (.string ⟨#[]⟩)]) 72 rfl Try.underlying63 info117 rfl (by decide) (by omega) (.slice Ao22 x3_1.length co22) x3_1 (⟨t270, t271, t272, t273, t274⟩ : S117) [.string t270, .bool t271, .string t272, .string t273, .string t274] (fun k_ => k_ ≠ gb276) (fun _ => False) rfl rfl ?aP (fun _ hk => hk.elim) ?aF ?aO (Below.refl _ _) ?aS ?aL ?_; (case aP => exact k117_mkM _ _ _ (⟨t270, t271, t272, t273, t274⟩ : S117)); (case aF => exact (fun k_ hk => Kd.freshB (g := gb276) (o := .cells #[.string t270, .bool t271, .string t272, .string t273, .string t274] 117 (0, 0)) (bq BK276.out) k_ hk)); (case aO => exact (rq HO_3.out)); (case aS => exact (keep_size (w := w) (g := g) (row := none) b10_)); (case aL => have := LMc21.out; omega); intro v279 w25 ho hb hg hat; rw [← Ny278.out] at ho; replace BK276 := am (blk_grown (g := gb276) (o := .cells #[.string t270, .bool t271, .string t272, .string t273, .string t274] 117 (0, 0)) (bq BK276.out) hg (Kd.R_away HO_3.out (fun _ hk => hk))); replace HB := am (below_weaken b14_ HL.out hb); replace HI0 := am (IsS127.grown b17_ hg (IsS127.own_ne HI0.out HO_3.out (by decide))); replace HK := am (KeepBut.trans b10_ (KeepBut.of_grown hg g) (Kd.R_base2 HO_3.out)); have HO280 := am (ho); clear HO_3; clear ho hb hg hat))
         repeat (go_quiet (first | ((with_reducible refine gate_builtin (b := .append) (xs := #[.tmp 34, .tmp 36]) rfl ?_); at_builtin; refine Kd.R_append k117 w.heap.size rfl (.tmp 34) (.tmp 36) 63 117 (.agg #[(.string ⟨#[]⟩), (.bool false), (.string ⟨#[]⟩), (.string ⟨#[]⟩), (.string ⟨#[]⟩)]) 72 rfl Try.underlying63 info117 rfl (by decide) (by omega) (.slice Ao22 x3_1.length co22) x3_1 (⟨t270, t271, t272, t273, t274⟩ : S117) [.string t270, .bool t271, .string t272, .string t273, .string t274] (fun k_ => k_ ≠ gb276) (fun _ => False) rfl rfl ?aP (fun _ hk => hk.elim) ?aF ?aO (Below.refl _ _) ?aS ?aL ?_; (case aP => exact k117_mkM _ _ _ (⟨t270, t271, t272, t273, t274⟩ : S117)); (case aF => exact (fun k_ hk => Kd.freshB (g := gb276) (o := .cells #[.string t270, .bool t271, .string t272, .string t273, .string t274] 117 (0, 0)) (bq BK276.out) k_ hk)); (case aO => exact (rq HO_3.out)); (case aS => exact (keep_size (w := w) (g := g) (row := none) b10_)); (case aL => have := LMc21.out; omega); intro v279 w25 ho hb hg hat; rw [← Ny278.out] at ho; replace BK276 := am (blk_grown (g := gb276) (o := .cells #[.string t270, .bool t271, .string t272, .string t273, .string t274] 117 (0, 0)) (bq BK276.out) hg (Kd.R_away HO_3.out (fun _ hk => hk))); replace HB := am (below_weaken b14_ HL.out hb); replace HI0 := am (IsS127.grown b17_ hg (IsS127.own_ne HI0.out HO_3.out (by decide))); replace HK := am (KeepBut.trans b10_ (KeepBut.of_grown hg g) (Kd.R_base2 HO_3.out)); have HO280 := am (ho); clear HO_3; clear ho hb hg hat)); try go_wp2_with (first | ((with_reducible refine gate_builtin (b := .append) (xs := #[.tmp 34, .tmp 36]) rfl ?_); at_builtin; refine Kd.R_append k117 w.heap.size rfl (.tmp 34) (.tmp 36) 63 117 (.agg #[(.string ⟨#[]⟩), (.bool false), (.string ⟨#[]⟩), (.string ⟨#[]⟩), (.string ⟨#[]⟩)]) 72 rfl Try.underlying63 info117 rfl (by decide) (by omega) (.slice Ao22 x3_1.length co22) x3_1 (⟨t270, t271, t272, t273, t274⟩ : S117) [.string t270, .bool t271, .string t272, .string t273, .string t274] (fun k_ => k_ ≠ gb276) (fun _ => False) rfl rfl ?aP (fun _ hk => hk.elim) ?aF ?aO (Below.refl _ _) ?aS ?aL ?_; (case aP => exact k117_mkM _ _ _ (⟨t270, t271, t272, t273, t274⟩ : S117)); (case aF => exact (fun k_ hk => Kd.freshB (g := gb276) (o := .cells #[.string t270, .bool t271, .string t272, .string t273, .string t274] 117 (0, 0)) (bq BK276.out) k_ hk)); (case aO => exact (rq HO_3.out)); (case aS => exact (keep_size (w := w) (g := g) (row := none) b10_)); (case aL => have := LMc21.out; omega); intro v279 w25 ho hb hg hat; rw [← Ny278.out] at ho; replace BK276 := am (blk_grown (g := gb276) (o := .cells #[.string t270, .bool t271, .string t272, .string t273, .string t274] 117 (0, 0)) (bq BK276.out) hg (Kd.R_away HO_3.out (fun _ hk => hk))); replace HB := am (below_weaken b14_ HL.out hb); replace HI0 := am (IsS127.grown b17_ hg (IsS127.own_ne HI0.out HO_3.out (by decide))); replace HK := am (KeepBut.trans b10_ (KeepBut.of_grown hg g) (Kd.R_base2 HO_3.out)); have HO280 := am (ho); clear HO_3; clear ho hb hg hat)))
         go_roundg k2
         case measure => have := HK1.out; have := HK2.out; omega
         case rel => exact ⟨(y278), (wrap64 (x4_1 - 1)), (t275), sq, H', ⟨b27_⟩, ⟨rq (Kd.R_mono HO280.out (fun _ hk => trivial))⟩, ⟨b17_⟩, ⟨b10_⟩, ⟨b14_⟩⟩
        ·rw [if_neg c21] at H
         exact absurd H (by simp)
   ·rw [if_neg c6] at H; have c6b0 := decide_eq_false c6; clear c6
    simp only [Option.some.injEq, Prod.mk.injEq] at H
    obtain ⟨rfl, rfl⟩ := H; go_wp2
    repeat (go_quiet (fail); try go_wp2)
    go_ret
    exact ⟨_, eq_, b66_, b2_, b1_, b0_⟩

end Go.Proofs.Ytfpmfaelodfecaa.QFnMachineWord

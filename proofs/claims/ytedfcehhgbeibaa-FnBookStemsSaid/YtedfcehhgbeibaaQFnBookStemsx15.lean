import Derived.Test.YtedfcehhgbeibaaQFnBookStemsx0
import Derived.Test.YtedfcehhgbeibaaQFnBookStemsx9
import Derived.Test.YtedfcehhgbeibaaQFnBookStemsx14
import Derived.Test.YtedfcehhgbeibaaVMSh2
namespace Go.Proofs.Ytedfcehhgbeibaa.QFnBookStems
open Go.RowKit Go.Proofs.YtedfcehhgbeibaaW.PrintWords Go.Proofs.YtedfcehhgbeibaaW.PrintLast Go.Proofs.YtedfcehhgbeibaaW.PrintMore Go.Proofs.Ytedfcehhgbeibaa.Sh
attribute [local go_sem] max2_int min2_int max_two min_two max_three min_three max_four min_four   -- for this text's walks alone
set_option linter.unusedVariables false
set_option linter.unusedSimpArgs false
-- shrunk

/-! ### spec_l2Forms: function 55 -/
def spec_l2Forms.f (k : Nat) (l0 : List (S44)) (a1_0 : ByteArray) (a1_1 : ByteArray) : Option (List ByteArray) := (spec_l2One.f k l0 a1_1 false (([a1_0] : List ByteArray))).bind fun t266 => ((spec_l2One.f k l0 a1_1 true t266).bind fun t269 => (some t269))
theorem spec_l2Forms.mono : ∀ a0 a1 a2 k, LeO (spec_l2Forms.f k a0 a1 a2) (spec_l2Forms.f (k + 1) a0 a1 a2) := by
 intro a0 a1 a2 k
 unfold spec_l2Forms.f
 repeat' first | (with_reducible first | exact spec_l2One.mono _ _ _ _ _ | exact LeO.refl _ | exact LeO.none _ | refine LeO.ite ?_ ?_ | refine LeO.bind ?_ (fun _ => ?_)) | exact spec_l2One.mono _ _ _ _ _ | exact LeO.none _ | refine LeO.ite ?_ ?_ | refine LeO.bind ?_ (fun _ => ?_)
def spec_l2Forms.T1 : Bool × List (List Nat × List Nat) := (true, [([], []), ([], []), ([1], [1]), ([], []), ([], []), ([4], [4]), ([], []), ([6], [6]), ([7], [7]), ([3, 5, 8], [3, 5, 8]), ([0, 2, 9, 9], [0, 2, 9]), ([10, 10, 0, 1, 2, 3, 4, 5, 6, 7, 8, 9, 10], [10])])
def spec_l2Forms.B1 : List Nat := [0, 0, 2, 0, 0, 16, 0, 64, 192, 504, 1023, 2047]
theorem spec_l2Forms.tab1 : rtab .any (opsOf Try.f55 1) = spec_l2Forms.T1 := by kernel_rfl
theorem spec_l2Forms.bits1 : waitsOk spec_l2Forms.T1.2 spec_l2Forms.B1 = true := by kernel_rfl
set_option maxHeartbeats 8000000 in
set_option maxRecDepth 100000 in
theorem spec_l2Forms.calls (k : Nat) (A0 : Option Addr) (c0 : Nat) (l0 : List (S44)) (a1_0 : ByteArray) (a1_1 : ByteArray) (r : List ByteArray) (w : World) (hr0 : Kd.C k44 w A0 l0.length l0) (hc0 : l0.length ≤ c0) (h : spec_l2Forms.f k l0 a1_0 a1_1 = some r) :
  Calls Try.prog 55 #[.slice A0 l0.length c0, .agg #[.string a1_0, .string a1_1]] w fun e w' => ∃ v0_ : Value, e = .returned (v0_) ∧ Kd.V Kd.string 9 w' w.heap.size (fun k_ => (w.heap.size ≤ k_)) v0_ r ∧ Below w.heap.size w w' := by
 have hu31 := Try.underlying31; have HR0 := am hr0; have HC0 := am hc0; clear hr0 hc0; have HB := am (Below.refl w.heap.size w)
 have H : ((spec_l2One.f k l0 a1_1 false (([a1_0] : List ByteArray))).bind fun t266 => ((spec_l2One.f k l0 a1_1 true t266).bind fun t269 => (some t269))) = some r := h
 clear h; obtain ⟨y263, hy263⟩ : ∃ y_ : List ByteArray, y_ = (([a1_0] : List ByteArray)) := ⟨_, rfl⟩
 replace H : ((spec_l2One.f k l0 a1_1 false y263).bind fun t266 => ((spec_l2One.f k l0 a1_1 true t266).bind fun t269 => (some t269))) = some r := by first | (rw [hy263]; with_reducible exact H) | (have H2_ := (Option.bind_some _ _).symm.trans H; rw [hy263]; with_reducible exact H2_) | (have H2_ := (Option.bind_some _ _).symm.trans H; with_reducible exact H2_) | with_reducible exact H | (rw [hy263]; exact H) | exact H
 have Ny263 := am hy263; clear hy263; replace H := Option.bind_eq_some_iff.mp H; obtain ⟨t266, A30, H⟩ := H; replace H : ((spec_l2One.f k l0 a1_1 true t266).bind fun t269 => (some t269)) = some r := H; have A3 := Aside0.mk A30; clear A30; replace H := Option.bind_eq_some_iff.mp H; obtain ⟨t269, A40, H⟩ := H; replace H : (some t269) = some r := H; have A4 := Aside0.mk A40; clear A40; obtain rfl := Option.some.inj H; go_enter Try.func55, Try.ntmps55
 try go_wp2_with (first | ((with_reducible refine gate_dst (N := 3) rfl ?_); refine bx 3 (cs := #[.string a1_0, .string a1_1]) (t := 31) ?_; intro gb262 hg w5 hbox hb; have BK262 := am (hbox); have GW262 := am ((b20_ : w.heap.size ≤ gb262)); have GE262 := am ((b20_ : w.heap.size ≤ gb262)); replace HB := am (below_step bel hb); clear hb hbox hg))
 replace BK262 := am (blk_drew BK262.out); replace HB := am (below_drew1 HB.out)
 refine st (n := 12) (S := fun w' => w'.cell? ⟨gb262, 0, none⟩ = some (.string a1_0) ∧ w'.cell? ⟨gb262, 1, none⟩ = some (.string a1_1)) (ds := []) ⟨(blk_cell BK262.out 0).trans rfl, (blk_cell BK262.out 1).trans rfl⟩ (fun hHeld => ?_); refine with_tabW spec_l2Forms.tab1 spec_l2Forms.bits1 (fun HT_ HW_ => ?_)
 generalize w5.drew = w6 at BK262 HB hHeld ⊢
 refine pu 0 5 ?_
 refine pu 1 6 ?_
 refine pu 3 8 ?_
 refine pu 4 9 ?_
 refine pu 6 11 ?_
 refine tk2 2 7 hHeld ?_
 refine tk2 5 10 hHeld ?_
 refine tk2 7 12 hHeld ?_
 refine on1 8 13 (fun K hK => ?_)
 refine Kd.R_lit_step Kd.string _ 9 ?hg (N := 13) ?hd (xs := ([a1_0] : List ByteArray)) (inner := [.string a1_0]) (ok := fun _ => True) (okp := fun _ => True) ?hr ?hp (fun _ hk => hk) trivial (Below.refl _ _) (Nat.le_refl _) (by simp) ?_; (case hd => rfl); (case hg => rfl); (case hr => first | (go_simp; done) | (go_simp; rfl)); (case hp => exact (Reps.one (show Kd.M Kd.string _ _ _ a1_0 [.string a1_0] from rfl) (Reps.none _ _)))
 intro v264 w7 ho8 hb hg_ hnew_; clear hg_ hnew_
 (first | rw [← Ny263.out] at ho8 | (simp only [Int.reduceToNat] at ho8; rw [← Ny263.out] at ho8) | (simp only [Int.toNat_natCast] at ho8; rw [← Ny263.out] at ho8))
 have HO265 := am (Kd.R_lower (Kd.R_newM (M := fun k_ => (w.heap.size ≤ k_)) ho8 (below_size (bel1 GE262.out)) (fun k_ h_ => h_)) (below_size (bel1 GE262.out))); replace BK262 := am (blk_below (g := gb262) (o := .cells #[.string a1_0, .string a1_1] 31 (0, 0)) (bq BK262.out) hb); replace HB := am (below_step (bel1 GE262.out) hb); clear hb ho8; obtain ⟨Ao9, co9, eo9⟩ := Kd.R_slice HO265.out
 (first | subst eo9 | (injection eo9 with f1_ f2_ f3_; have f4_ := f1_.symm; have f5_ := f3_.symm; clear f1_ f2_ f3_; subst f4_; subst f5_))
 refine hK.out _ _ ⟨(blk_cell BK262.out 0).trans rfl, (blk_cell BK262.out 1).trans rfl⟩ (fun hHeld => ?_)
 clear hK K
 refine norm_ (a' := ?_) ?_ ?_
 rotate_left
 ·show Act.put _ (some 13) _ = _
  simp only [Act.put, List.setIfInBounds_toArray, List.set_cons_zero, List.set_cons_succ, i64_w, i32_w]
  rfl
 refine on1 9 14 (fun K hK => ?_)
 refine goes_ Try.func91 (by kernel_rfl) rfl #[.slice A0 l0.length c0, .string a1_1, .bool false, .slice Ao9 y263.length co9] (by rfl) rfl rfl mq ?_
 with_reducible refine (spec_l2One.calls k _ _ l0 a1_1 false _ _ y263 t266 _ ?side1 ?side2 ?side3 ?side4 A3.out).mono ?_
 (case side1 => exact cq (Kd.C_below HR0.out HB.out)); (case side2 => exact HC0.out); (case side3 => exact cq (Kd.R_reads' HO265.out).2.2); (case side4 => exact (Kd.R_reads' HO265.out).2.1)
 rintro e w10 ⟨v267, rfl, ho0, hb⟩
 refine ⟨_, rfl, ?_⟩
 have HO268 := am (Kd.V_lower (Kd.V_mono (ok' := fun k_ => (w.heap.size ≤ k_) ∧ some k_ ≠ (.slice Ao9 y263.length co9 : Value).ownBlock ∧ k_ ≠ gb262) ho0 (fun k_ hk_ => ⟨(Nat.le_trans (below_size (bel1 GE262.out)) hk_), (Kd.fresh' (Kd.R_lt (rq HO265.out)) k_ hk_), (Kd.freshB (g := gb262) (o := .cells #[.string a1_0, .string a1_1] 31 (0, 0)) (bq BK262.out) k_ hk_)⟩)) (below_size (bel1 GE262.out))); replace HO265 := am (Kd.R_below (rq HO265.out) hb); replace BK262 := am (blk_below (g := gb262) (o := .cells #[.string a1_0, .string a1_1] 31 (0, 0)) (bq BK262.out) hb); replace HB := am (below_step (bel1 GE262.out) hb)
 (try clear hb)
 (try clear hb2)
 (try clear hk)
 (try clear hi)
 (try clear ho0)
 obtain ⟨Ao11, co11, eo11⟩ := Kd.V_slice HO268.out
 (first | subst eo11 | (injection eo11 with f1_ f2_ f3_; have f4_ := f1_.symm; have f5_ := f3_.symm; clear f1_ f2_ f3_; subst f4_; subst f5_))
 refine hK.out _ _ ⟨(blk_cell BK262.out 0).trans rfl, (blk_cell BK262.out 1).trans rfl⟩ (fun hHeld => ?_)
 clear hK K
 refine norm_ (a' := ?_) ?_ ?_
 rotate_left
 ·show Act.put _ (some 14) _ = _
  simp only [Act.put, List.setIfInBounds_toArray, List.set_cons_zero, List.set_cons_succ, i64_w, i32_w]
  rfl
 refine on1 10 15 (fun K hK => ?_)
 refine goes_ Try.func91 (by kernel_rfl) rfl #[.slice A0 l0.length c0, .string a1_1, .bool true, .slice Ao11 t266.length co11] (by rfl) rfl rfl mq ?_
 with_reducible refine (spec_l2One.calls k _ _ l0 a1_1 true _ _ t266 t269 _ ?side1 ?side2 ?side3 ?side4 A4.out).mono ?_
 (case side1 => exact cq (Kd.C_below HR0.out HB.out)); (case side2 => exact HC0.out); (case side3 => exact cq (Kd.V_reads' HO268.out).2.2); (case side4 => exact (Kd.V_reads' HO268.out).2.1)
 rintro e w12 ⟨v270, rfl, ho0, hb⟩
 refine ⟨_, rfl, ?_⟩
 replace HO268 := am (Kd.V_below (vq HO268.out) hb); have HO271 := am (Kd.V_lower (Kd.V_mono (ok' := fun k_ => (w.heap.size ≤ k_) ∧ some k_ ≠ (.slice Ao9 y263.length co9 : Value).ownBlock ∧ k_ ≠ gb262) ho0 (fun k_ hk_ => ⟨(Nat.le_trans (below_size (bel1 GE262.out)) hk_), (Kd.fresh' (Kd.R_lt (rq HO265.out)) k_ hk_), (Kd.freshB (g := gb262) (o := .cells #[.string a1_0, .string a1_1] 31 (0, 0)) (bq BK262.out) k_ hk_)⟩)) (below_size (bel1 GE262.out))); replace HO265 := am (Kd.R_below (rq HO265.out) hb); replace BK262 := am (blk_below (g := gb262) (o := .cells #[.string a1_0, .string a1_1] 31 (0, 0)) (bq BK262.out) hb); replace HB := am (below_step (bel1 GE262.out) hb)
 (try clear hb)
 (try clear hb2)
 (try clear hk)
 (try clear hi)
 (try clear ho0)
 refine hK.out _ _ ⟨(blk_cell BK262.out 0).trans rfl, (blk_cell BK262.out 1).trans rfl⟩ (fun hHeld => ?_)
 clear hK K
 refine norm_ (a' := ?_) ?_ ?_
 rotate_left
 ·show Act.put _ (some 15) _ = _
  simp only [Act.put, List.setIfInBounds_toArray, List.set_cons_zero, List.set_cons_succ, i64_w, i32_w]
  rfl
 refine pu 11 4 ?_
 refine done_ (done_of HT_.out (by kernel_rfl)) ?_
 try go_wp2
 go_ret
 exact ⟨_, eq_, by (with_reducible repeat (first | apply Kd.V_alloc | apply Kd.V_drewN | apply Kd.V_drew)); exact Kd.V_mono HO271.out (fun _ hk => hk.1), bel1 GE262.out⟩

/-! ### spec_l2In: function 81 -/
def spec_l2In.l0 : Nat → List ByteArray → ByteArray → Int → Option (Bool)
 | 0, _, _, _ => none
 | k + 1, x0, x1, x5 => if x5 < (x0.length : Int) then (if 0 ≤ x5 then (if (rdOf ByteArray.empty x0 x5).toList = x1.toList then (some true) else (spec_l2In.l0 k x0 x1 (wrap64 (x5 + 1)))) else (none)) else (some false)
def spec_l2In.f (k : Nat) (l0 : List ByteArray) (a1 : ByteArray) : Option (Bool) := spec_l2In.l0 k l0 a1 0
theorem spec_l2In.mono_l : ∀ k, (∀ y0 y1 y2, LeO (spec_l2In.l0 k y0 y1 y2) (spec_l2In.l0 (k + 1) y0 y1 y2))
 | 0 => fun _ _ _ r h => by simp [spec_l2In.l0] at h
 | k + 1 => by
  have ih0 := spec_l2In.mono_l k
  ·intro y0 y1 y2
   unfold spec_l2In.l0
   repeat' first | (with_reducible first | exact ih0 _ _ _ | exact LeO.refl _ | exact LeO.none _ | refine LeO.ite ?_ ?_ | refine LeO.bind ?_ (fun _ => ?_)) | exact ih0 _ _ _ | exact LeO.none _ | refine LeO.ite ?_ ?_ | refine LeO.bind ?_ (fun _ => ?_)
theorem spec_l2In.mono : ∀ a0 a1 k, LeO (spec_l2In.f k a0 a1) (spec_l2In.f (k + 1) a0 a1) := by
 intro a0 a1 k; have ih0 := spec_l2In.mono_l k
 unfold spec_l2In.f
 repeat' first | (with_reducible first | exact ih0 _ _ _ | exact LeO.refl _ | exact LeO.none _ | refine LeO.ite ?_ ?_ | refine LeO.bind ?_ (fun _ => ?_)) | exact ih0 _ _ _ | exact LeO.none _ | refine LeO.ite ?_ ?_ | refine LeO.bind ?_ (fun _ => ?_)
set_option maxHeartbeats 8000000 in
set_option maxRecDepth 100000 in
theorem spec_l2In.calls (k : Nat) (A0 : Option Addr) (c0 : Nat) (l0 : List ByteArray) (a1 : ByteArray) (r : Bool) (w : World) (hr0 : Kd.C Kd.string w A0 l0.length l0) (hc0 : l0.length ≤ c0) (h : spec_l2In.f k l0 a1 = some r) :
  Calls Try.prog 81 #[.slice A0 l0.length c0, .string a1] w fun e w' => e = .returned (.bool r) ∧ Drawn0 w w' := by
 have HR0 := am hr0; have HC0 := am hc0; clear hr0 hc0
 have H : (spec_l2In.l0 k l0 a1 0) = some r := h
 clear h
 have H' := am H
 clear H; go_enter Try.func81, Try.ntmps81; go_wp2
 go_loopg [5] k (fun kq v5 w' => ∃ (x5_1 : Int), v5 = .int .i64 x5_1 ∧ Aside0 (spec_l2In.l0 kq l0 a1 x5_1 = some r) ∧ Aside0 (kq ≤ k) ∧ Drawn0 w w')
 case atStart => exact ⟨(0), sq, H', ⟨Nat.le_refl _⟩, dr⟩
 case round =>
  clear H'; (try clear p2); obtain ⟨x5_1, rfl, HA, HK1, ⟨m1, rfl⟩⟩ := hrel
  cases gk with
  | zero => exact absurd HA.out (by simp [spec_l2In.l0])
  | succ k1 =>
   have H := HA.out; clear HA
   simp only [spec_l2In.l0] at H
   by_cases c3 : x5_1 < (l0.length : Int)
   ·rw [if_pos c3] at H; have c3b0 := decide_eq_true c3; clear c3
    by_cases c4 : 0 ≤ x5_1
    ·rw [if_pos c4] at H; have c4b0 := decide_eq_true c4; clear c4
     by_cases c5 : (rdOf ByteArray.empty l0 x5_1).toList = a1.toList
     ·rw [if_pos c5] at H
      have c5b0 : ((rdOf ByteArray.empty l0 x5_1).toList == a1.toList) = true := beq_iff_eq.mpr c5
      have c5b1 : ((rdOf ByteArray.empty l0 x5_1).toList != a1.toList) = false := bne_eq_false_iff_eq.mpr c5
      clear c5; obtain rfl := Option.some.inj H
      have p272 : 0 ≤ (x5_1 : Int) := of_decide_eq_true ad
      have q272 : x5_1 < (l0.length : Int) := of_decide_eq_true ad
      obtain ⟨ad272, e272, hx272_0⟩ := Kd.at_string HR0.out x5_1 p272 q272
      cases e272
      replace p272 := eq_true p272; replace q272 := eq_true q272; go_wp2; go_ret
      exact ⟨sq, dr⟩
     ·rw [if_neg c5] at H
      have c5b0 : ((rdOf ByteArray.empty l0 x5_1).toList == a1.toList) = false := beq_eq_false_iff_ne.mpr c5
      have c5b1 : ((rdOf ByteArray.empty l0 x5_1).toList != a1.toList) = true := bne_iff_ne.mpr c5
      have H' := am H
      clear H
      have p272 : 0 ≤ (x5_1 : Int) := of_decide_eq_true ad
      have q272 : x5_1 < (l0.length : Int) := of_decide_eq_true ad
      obtain ⟨ad272, e272, hx272_0⟩ := Kd.at_string HR0.out x5_1 p272 q272
      cases e272
      replace p272 := eq_true p272; replace q272 := eq_true q272; go_wp2
      go_roundg k1
      case measure => have := HK1.out; omega
      case rel => exact ⟨(wrap64 (x5_1 + 1)), sq, H', ⟨b66_⟩, dr⟩
    ·rw [if_neg c4] at H
     exact absurd H (by simp)
   ·rw [if_neg c3] at H; have c3b0 := decide_eq_false c3; clear c3; obtain rfl := Option.some.inj H; go_wp2; go_ret
    exact ⟨sq, dr⟩

/-! ### spec_BookStems: function 44 -/
mutual
def spec_BookStems.l0 : Nat → ByteArray → List ByteArray → Int → List (S44) → List (S31) → Option (List ByteArray)
 | 0, _, _, _, _, _ => none
 | k + 1, x1, x5, x6, x274000, x274001 => if x6 < (x274001.length : Int) then ((spec_BookOk.f k x274000 x274001).bind fun t277 => (spec_BookStems.j1 k x1 x5 x6 t277 x274000 x274001)) else (spec_BookStems.j1 k x1 x5 x6 false x274000 x274001)
def spec_BookStems.j1 : Nat → ByteArray → List ByteArray → Int → Bool → List (S44) → List (S31) → Option (List ByteArray)
 | 0, _, _, _, _, _, _ => none
 | k + 1, x1, x5, x6, x16, x274000, x274001 => if x16 = true then (if 0 ≤ x6 then (if x6 < (x274001.length : Int) then ((spec_l2Forms.f k x274000 ((rd_T31 x274001 x6).f0) ((rd_T31 x274001 x6).f1)).bind fun t279 => ((spec_l2In.f k t279 x1).bind fun t282 => (if t282 = true then (if x5.length < 8796093022208 then (spec_BookStems.l0 k x1 (x5 ++ [(rd_T31 x274001 x6).f0]) (wrap64 (x6 + 1)) x274000 x274001) else (none)) else (spec_BookStems.l0 k x1 x5 (wrap64 (x6 + 1)) x274000 x274001)))) else (none)) else (none)) else (some x5)
end
def spec_BookStems.f (k : Nat) (l0_0 : List (S44)) (l0_1 : List (S31)) (a1 : ByteArray) : Option (List ByteArray) := spec_BookStems.l0 k a1 (([] : List ByteArray)) 0 l0_0 l0_1
theorem spec_BookStems.mono_l : ∀ k, (∀ y0 y1 y2 y3 y4, LeO (spec_BookStems.l0 k y0 y1 y2 y3 y4) (spec_BookStems.l0 (k + 1) y0 y1 y2 y3 y4)) ∧ (∀ y0 y1 y2 y3 y4 y5, LeO (spec_BookStems.j1 k y0 y1 y2 y3 y4 y5) (spec_BookStems.j1 (k + 1) y0 y1 y2 y3 y4 y5))
 | 0 => ⟨fun _ _ _ _ _ r h => by simp [spec_BookStems.l0] at h, fun _ _ _ _ _ _ r h => by simp [spec_BookStems.j1] at h⟩
 | k + 1 => by
  obtain ⟨ih0, ih1⟩ := spec_BookStems.mono_l k
  refine ⟨?_, ?_⟩
  ·intro y0 y1 y2 y3 y4
   unfold spec_BookStems.l0
   repeat' first | (with_reducible first | exact ih0 _ _ _ _ _ | exact ih1 _ _ _ _ _ _ | exact spec_BookOk.mono _ _ _ | exact spec_l2Forms.mono _ _ _ _ | exact spec_l2In.mono _ _ _ | exact LeO.refl _ | exact LeO.none _ | refine LeO.ite ?_ ?_ | refine LeO.bind ?_ (fun _ => ?_)) | exact ih0 _ _ _ _ _ | exact ih1 _ _ _ _ _ _ | exact spec_BookOk.mono _ _ _ | exact spec_l2Forms.mono _ _ _ _ | exact spec_l2In.mono _ _ _ | exact LeO.none _ | refine LeO.ite ?_ ?_ | refine LeO.bind ?_ (fun _ => ?_)
  ·intro y0 y1 y2 y3 y4 y5
   unfold spec_BookStems.j1
   repeat' first | (with_reducible first | exact ih0 _ _ _ _ _ | exact ih1 _ _ _ _ _ _ | exact spec_BookOk.mono _ _ _ | exact spec_l2Forms.mono _ _ _ _ | exact spec_l2In.mono _ _ _ | exact LeO.refl _ | exact LeO.none _ | refine LeO.ite ?_ ?_ | refine LeO.bind ?_ (fun _ => ?_)) | exact ih0 _ _ _ _ _ | exact ih1 _ _ _ _ _ _ | exact spec_BookOk.mono _ _ _ | exact spec_l2Forms.mono _ _ _ _ | exact spec_l2In.mono _ _ _ | exact LeO.none _ | refine LeO.ite ?_ ?_ | refine LeO.bind ?_ (fun _ => ?_)
theorem spec_BookStems.mono : ∀ a0 a1 a2 k, LeO (spec_BookStems.f k a0 a1 a2) (spec_BookStems.f (k + 1) a0 a1 a2) := by
 intro a0 a1 a2 k; obtain ⟨ih0, ih1⟩ := spec_BookStems.mono_l k
 unfold spec_BookStems.f
 repeat' first | (with_reducible first | exact ih0 _ _ _ _ _ | exact ih1 _ _ _ _ _ _ | exact spec_BookOk.mono _ _ _ | exact spec_l2Forms.mono _ _ _ _ | exact spec_l2In.mono _ _ _ | exact LeO.refl _ | exact LeO.none _ | refine LeO.ite ?_ ?_ | refine LeO.bind ?_ (fun _ => ?_)) | exact ih0 _ _ _ _ _ | exact ih1 _ _ _ _ _ _ | exact spec_BookOk.mono _ _ _ | exact spec_l2Forms.mono _ _ _ _ | exact spec_l2In.mono _ _ _ | exact LeO.none _ | refine LeO.ite ?_ ?_ | refine LeO.bind ?_ (fun _ => ?_)
def spec_BookStems.T5 : Bool × List (List Nat × List Nat) := (true, [([], []), ([0], [0]), ([], []), ([2], [2]), ([], []), ([3, 4], [3, 4]), ([5], [5]), ([1, 6], [1, 6]), ([], []), ([7, 8, 7], [7, 8])])
def spec_BookStems.B5 : List Nat := [0, 1, 0, 4, 0, 28, 60, 127, 0, 511]
theorem spec_BookStems.tab5 : rtab .any (opsOf Try.f44 5) = spec_BookStems.T5 := by kernel_rfl
theorem spec_BookStems.bits5 : waitsOk spec_BookStems.T5.2 spec_BookStems.B5 = true := by kernel_rfl
set_option maxHeartbeats 8000000 in
set_option maxRecDepth 100000 in
theorem spec_BookStems.calls (k : Nat) (A0_0 : Option Addr) (c0_0 : Nat) (l0_0 : List (S44)) (A0_1 : Option Addr) (c0_1 : Nat) (l0_1 : List (S31)) (a1 : ByteArray) (r : List ByteArray) (w : World) (hr0_0 : Kd.C k44 w A0_0 l0_0.length l0_0) (hc0_0 : l0_0.length ≤ c0_0) (hr0_1 : Kd.C k31 w A0_1 l0_1.length l0_1) (hc0_1 : l0_1.length ≤ c0_1) (h : spec_BookStems.f k l0_0 l0_1 a1 = some r) :
  Calls Try.prog 44 #[.agg #[.slice A0_0 l0_0.length c0_0, .slice A0_1 l0_1.length c0_1], .string a1] w fun e w' => ∃ v0_ : Value, e = .returned (v0_) ∧ Kd.R Kd.string 9 w' w.heap.size (fun _ => True) v0_ r ∧ Below w.heap.size w w' := by
 have hu55 := Try.underlying55; have hu31 := Try.underlying31; have HR0_0 := am hr0_0; have HC0_0 := am hc0_0; clear hr0_0 hc0_0; have HR0_1 := am hr0_1; have HC0_1 := am hc0_1; clear hr0_1 hc0_1; have HB := am (Below.refl w.heap.size w)
 have H : (spec_BookStems.l0 k a1 (([] : List ByteArray)) 0 l0_0 l0_1) = some r := h
 clear h; obtain ⟨y274, hy274⟩ : ∃ y_ : List ByteArray, y_ = (([] : List ByteArray)) := ⟨_, rfl⟩
 replace H : (spec_BookStems.l0 k a1 y274 0 l0_0 l0_1) = some r := by first | (rw [hy274]; with_reducible exact H) | (have H2_ := (Option.bind_some _ _).symm.trans H; rw [hy274]; with_reducible exact H2_) | (have H2_ := (Option.bind_some _ _).symm.trans H; with_reducible exact H2_) | with_reducible exact H | (rw [hy274]; exact H) | exact H
 have Ny274 := am hy274; clear hy274
 have H' := am H
 clear H; go_enter Try.func44, Try.ntmps44
 go_wp2_with (first | ((with_reducible refine gate_dst (N := 2) rfl ?_); refine bx 2 (cs := #[.slice A0_0 l0_0.length c0_0, .slice A0_1 l0_1.length c0_1]) (t := 55) ?_; intro gb273 hg w3 hbox hb; have BK273 := am (hbox); have GW273 := am ((b20_ : w.heap.size ≤ gb273)); have GE273 := am ((b20_ : w.heap.size ≤ gb273)); replace HB := am (below_step bel hb); clear hb hbox hg) | ((with_reducible refine gate_dst (N := 7) rfl ?_); refine Kd.R_lit Kd.string _ 9 ?hg (N := 7) ?hd (xs := ([] : List ByteArray)) (inner := []) (ok := fun _ => True) (okp := fun _ => True) ?hr ?hp (fun _ hk => hk) trivial (Below.refl _ _) (Nat.le_refl _) (by simp) ?_; (case hd => rfl); (case hg => rfl); (case hr => first | (go_simp; done) | (go_simp; rfl)); (case hp => exact (Reps.none _ _)); intro v275 w4 ho5 hb hg_ hnew_; clear hg_ hnew_; (first | rw [← Ny274.out] at ho5 | (simp only [Int.reduceToNat] at ho5; rw [← Ny274.out] at ho5) | (simp only [Int.toNat_natCast] at ho5; rw [← Ny274.out] at ho5)); have HO276 := am (Kd.R_lower ho5 (below_size (bel1 GE273.out))); replace BK273 := am (blk_below (g := gb273) (o := .cells #[.slice A0_0 l0_0.length c0_0, .slice A0_1 l0_1.length c0_1] 55 (0, 0)) (bq BK273.out) hb); replace HB := am (below_step (bel1 GE273.out) hb); clear hb ho5))
 go_loopg [5, 6] k (fun kq v5 v6 w' => ∃ (x5_1 : List ByteArray) (x6_1 : Int), v6 = .int .i64 x6_1 ∧ Aside0 (spec_BookStems.l0 kq a1 x5_1 x6_1 l0_0 l0_1 = some r) ∧ Aside0 (kq ≤ k) ∧ Aside0 (Kd.R Kd.string 9 w' w.heap.size (fun _ => True) v5 x5_1) ∧ Aside0 (w'.heap[gb273]? = some (.cells #[(.slice A0_0 l0_0.length c0_0), (.slice A0_1 l0_1.length c0_1)] 55 (0, 0))) ∧ Aside0 (Below w.heap.size w w'))
 case atStart => exact ⟨(y274), (0), sq, H', ⟨Nat.le_refl _⟩, ⟨rq HO276.out⟩, ⟨bq BK273.out⟩, ⟨bel1 GE273.out⟩⟩
 case round =>
  clear H'; (try clear p2); (try clear c4); obtain ⟨x5_1, x6_1, rfl, HA, HK1, HO_5, BK273, HB⟩ := hrel
  cases gk with
  | zero => exact absurd HA.out (by simp [spec_BookStems.l0])
  | succ k1 =>
   have H := HA.out; clear HA
   simp only [spec_BookStems.l0] at H
   have HC6 := am H; clear H
   go_upto_region 3 with (fail)
   go_cut [16] (fun v16 wc => ∃ (kq : Nat) (x16_5 : Bool), v16 = .bool x16_5 ∧ Aside0 (spec_BookStems.j1 kq a1 x5_1 x6_1 x16_5 l0_0 l0_1 = some r) ∧ Aside0 (kq ≤ k1) ∧ Aside0 (Kd.R Kd.string 9 wc w.heap.size (fun _ => True) u5 x5_1) ∧ Aside0 (wc.heap[gb273]? = some (.cells #[(.slice A0_0 l0_0.length c0_0), (.slice A0_1 l0_1.length c0_1)] 55 (0, 0))) ∧ Aside0 (Below w.heap.size w wc))
   case first =>
    have H := HC6.out; clear HC6
    by_cases c7 : x6_1 < (l0_1.length : Int)
    ·rw [if_pos c7] at H; have c7b0 := decide_eq_true c7; clear c7
     (first | rw [c7b0] | (simp only [i64_w, i32_w]; rw [c7b0]) | skip)
     replace H := Option.bind_eq_some_iff.mp H; obtain ⟨t277, A80, H⟩ := H; replace H : (spec_BookStems.j1 k1 a1 x5_1 x6_1 t277 l0_0 l0_1) = some r := H; have A8 := Aside0.mk A80; clear A80
     have H' := am H
     clear H; have hcz9_0 := bc BK273.out 0; have hcz9_1 := bc BK273.out 1; have hfz9_0 := bf BK273.out 0; have hfz9_1 := bf BK273.out 1
     go_wp2_with (first | (go_at_call 39; (with_reducible refine (spec_BookOk.calls k1 _ _ l0_0 _ _ l0_1 t277 _ ?side1 ?side2 ?side3 ?side4 A8.out).mono ?_); (case side1 => exact cq (Kd.C_below HR0_0.out HB.out)); (case side2 => exact HC0_0.out); (case side3 => exact cq (Kd.C_below HR0_1.out HB.out)); (case side4 => exact HC0_1.out); rintro e w10 ⟨rfl, hb⟩; replace HO_5 := am (Kd.R_below (rq HO_5.out) hb); replace BK273 := am (blk_below (g := gb273) (o := .cells #[.slice A0_0 l0_0.length c0_0, .slice A0_1 l0_1.length c0_1] 55 (0, 0)) (bq BK273.out) hb); replace HB := am (below_step (bel1 GE273.out) hb); (try clear hb); (try clear hb2); (try clear hk); (try clear hi)))
     go_meet
     case rel => exact ⟨_, (t277), sq, H', ⟨b71_⟩, ⟨rq HO_5.out⟩, ⟨bq BK273.out⟩, ⟨bel1 GE273.out⟩⟩
    ·rw [if_neg c7] at H; have c7b0 := decide_eq_false c7; clear c7
     (first | rw [c7b0] | (simp only [i64_w, i32_w]; rw [c7b0]) | skip)
     have H' := am H
     clear H; have hcz11_0 := bc BK273.out 0; have hcz11_1 := bc BK273.out 1; have hfz11_0 := bf BK273.out 0; have hfz11_1 := bf BK273.out 1; go_wp2
     go_meet
     case rel => exact ⟨_, (false), sq, H', ⟨b71_⟩, ⟨rq HO_5.out⟩, ⟨bq BK273.out⟩, ⟨bel1 GE273.out⟩⟩
   case rest =>
    clear HC6; (try clear p2); (try clear c4); (try clear c7); (try clear c7b0); (try clear hcz11_0); (try clear hcz11_1); (try clear hcz9_0); (try clear hcz9_1); (try clear hfz11_0); (try clear hfz11_1); (try clear hfz9_0); (try clear hfz9_1); (try clear p2); obtain ⟨kq, x16_5, rfl, HA, HJ5, HO_5, BK273, HB⟩ := hcut
    cases kq with
    | zero => exact absurd HA.out (by simp [spec_BookStems.j1])
    | succ kj5 =>
     have H := HA.out; clear HA
     simp only [spec_BookStems.j1] at H
     by_cases c12 : x16_5 = true
     ·subst c12
      have H1 : (if 0 ≤ x6_1 then (if x6_1 < (l0_1.length : Int) then ((spec_l2Forms.f kj5 l0_0 ((rd_T31 l0_1 x6_1).f0) ((rd_T31 l0_1 x6_1).f1)).bind fun t279 => ((spec_l2In.f kj5 t279 a1).bind fun t282 => (if t282 = true then (if x5_1.length < 8796093022208 then (spec_BookStems.l0 kj5 a1 (x5_1 ++ [(rd_T31 l0_1 x6_1).f0]) (wrap64 (x6_1 + 1)) l0_0 l0_1) else (none)) else (spec_BookStems.l0 kj5 a1 x5_1 (wrap64 (x6_1 + 1)) l0_0 l0_1)))) else (none)) else (none)) = some r := b36_
      replace H := H1; clear H1
      by_cases c13 : 0 ≤ x6_1
      ·rw [if_pos c13] at H; have c13b0 := decide_eq_true c13; clear c13
       by_cases c14 : x6_1 < (l0_1.length : Int)
       ·rw [if_pos c14] at H; have c14b0 := decide_eq_true c14; clear c14; replace H := Option.bind_eq_some_iff.mp H; obtain ⟨t279, A150, H⟩ := H; replace H : ((spec_l2In.f kj5 t279 a1).bind fun t282 => (if t282 = true then (if x5_1.length < 8796093022208 then (spec_BookStems.l0 kj5 a1 (x5_1 ++ [(rd_T31 l0_1 x6_1).f0]) (wrap64 (x6_1 + 1)) l0_0 l0_1) else (none)) else (spec_BookStems.l0 kj5 a1 x5_1 (wrap64 (x6_1 + 1)) l0_0 l0_1))) = some r := H; have A15 := Aside0.mk A150; clear A150; replace H := Option.bind_eq_some_iff.mp H; obtain ⟨t282, A160, H⟩ := H; replace H : (if t282 = true then (if x5_1.length < 8796093022208 then (spec_BookStems.l0 kj5 a1 (x5_1 ++ [(rd_T31 l0_1 x6_1).f0]) (wrap64 (x6_1 + 1)) l0_0 l0_1) else (none)) else (spec_BookStems.l0 kj5 a1 x5_1 (wrap64 (x6_1 + 1)) l0_0 l0_1)) = some r := H; have A16 := Aside0.mk A160; clear A160
        by_cases c17 : t282 = true
        ·subst c17
         have H1 : (if x5_1.length < 8796093022208 then (spec_BookStems.l0 kj5 a1 (x5_1 ++ [(rd_T31 l0_1 x6_1).f0]) (wrap64 (x6_1 + 1)) l0_0 l0_1) else (none)) = some r := b36_
         replace H := H1; clear H1
         by_cases c18 : x5_1.length < 8796093022208
         ·rw [if_pos c18] at H; have LMc18 := Aside0.mk c18; clear c18; obtain ⟨y284, hy284⟩ : ∃ y_ : List ByteArray, y_ = (x5_1 ++ [(rd_T31 l0_1 x6_1).f0]) := ⟨_, rfl⟩
          replace H : (spec_BookStems.l0 kj5 a1 y284 (wrap64 (x6_1 + 1)) l0_0 l0_1) = some r := by first | (rw [hy284]; with_reducible exact H) | (have H2_ := (Option.bind_some _ _).symm.trans H; rw [hy284]; with_reducible exact H2_) | (have H2_ := (Option.bind_some _ _).symm.trans H; with_reducible exact H2_) | with_reducible exact H | (rw [hy284]; exact H) | exact H
          have Ny284 := am hy284; clear hy284
          have H' := am H
          clear H
          try go_wp2
          replace HO_5 := am (Kd.R_drew HO_5.out); replace BK273 := am (blk_drew BK273.out); replace HB := am (below_drew1 HB.out)
          have p278 : 0 ≤ (x6_1 : Int) := of_decide_eq_true ad
          have q278 : x6_1 < (l0_1.length : Int) := of_decide_eq_true ad
          obtain ⟨ad278, e278, hx278_0, hx278_1⟩ := at_T31 HR0_1.out x6_1 p278 q278; have hw278_1 := hx278_1; have hw278_0 := hx278_0
          cases e278
          replace hx278_0 := kp HB.out hx278_0; replace hx278_1 := kp HB.out hx278_1; replace p278 := eq_true p278; replace q278 := eq_true q278
          refine st (n := 10) (S := fun w' => w'.cell? ⟨gb273, 0, none⟩ = some (.slice A0_0 l0_0.length c0_0) ∧ w'.cell? ⟨gb273, 1, none⟩ = some (.slice (some ad278) l0_1.length c0_1) ∧ w'.cell? (ad278.add ((x6_1).toNat * 2)) = some (.string ((rd_T31 l0_1 x6_1).f0)) ∧ w'.cell? ⟨(ad278.add ((x6_1).toNat * 2)).block, (ad278.add ((x6_1).toNat * 2)).off + 1, none⟩ = some (.string ((rd_T31 l0_1 x6_1).f1))) (ds := []) ⟨(blk_cell BK273.out 0).trans rfl, (blk_cell BK273.out 1).trans rfl, (kp HB.out hw278_0), (kp HB.out hw278_1)⟩ (fun hHeld => ?_); refine with_tabW spec_BookStems.tab5 spec_BookStems.bits5 (fun HT_ HW_ => ?_)
          generalize wc.drew = w19 at HO_5 BK273 HB hx278_0 hx278_1 hHeld ⊢
          refine pu 0 19 ?_
          refine pu 2 21 ?_
          refine pu 4 23 ?_
          refine pu 8 27 ?_
          refine tk4 1 20 hHeld ?_
          refine tk4 3 22 hHeld ?_
          refine pu 5 24 ?_
          refine tk4 6 25 hHeld ?_
          refine on1 7 26 (fun K hK => ?_)
          refine goes_ Try.func55 (by kernel_rfl) rfl #[.slice A0_0 l0_0.length c0_0, .agg #[.string ((rd_T31 l0_1 x6_1).f0), .string ((rd_T31 l0_1 x6_1).f1)]] (by rfl) rfl rfl mq ?_
          with_reducible refine (spec_l2Forms.calls kj5 _ _ l0_0 ((rd_T31 l0_1 x6_1).f0) ((rd_T31 l0_1 x6_1).f1) t279 _ ?side1 ?side2 A15.out).mono ?_
          (case side1 => exact cq (Kd.C_below HR0_0.out HB.out)); (case side2 => exact HC0_0.out)
          rintro e w20 ⟨v280, rfl, ho0, hb⟩
          refine ⟨_, rfl, ?_⟩
          have HO281 := am (Kd.V_lower (Kd.V_mono (ok' := fun k_ => some k_ ≠ (u5 : Value).ownBlock ∧ k_ ≠ gb273) ho0 (fun k_ hk_ => ⟨(Kd.fresh' (Kd.R_lt (rq HO_5.out)) k_ hk_), (Kd.freshB (g := gb273) (o := .cells #[.slice A0_0 l0_0.length c0_0, .slice (some ad278) l0_1.length c0_1] 55 (0, 0)) (bq BK273.out) k_ hk_)⟩)) (below_size (bel1 GE273.out))); replace HO_5 := am (Kd.R_below (rq HO_5.out) hb); replace BK273 := am (blk_below (g := gb273) (o := .cells #[.slice A0_0 l0_0.length c0_0, .slice (some ad278) l0_1.length c0_1] 55 (0, 0)) (bq BK273.out) hb); replace HB := am (below_step (bel1 GE273.out) hb)
          (try clear hb)
          (try clear hb2)
          (try clear hk)
          (try clear hi)
          (try clear ho0)
          obtain ⟨Ao21, co21, eo21⟩ := Kd.V_slice HO281.out
          (first | subst eo21 | (injection eo21 with f1_ f2_ f3_; have f4_ := f1_.symm; have f5_ := f3_.symm; clear f1_ f2_ f3_; subst f4_; subst f5_))
          refine hK.out _ _ ⟨(blk_cell BK273.out 0).trans rfl, (blk_cell BK273.out 1).trans rfl, (kp HB.out hw278_0), (kp HB.out hw278_1)⟩ (fun hHeld => ?_)
          clear hK K
          refine norm_ (a' := ?_) ?_ ?_
          rotate_left
          ·show Act.put _ (some 26) _ = _
           simp only [Act.put, List.setIfInBounds_toArray, List.set_cons_zero, List.set_cons_succ, i64_w, i32_w]
           rfl
          refine on1 9 28 (fun K hK => ?_)
          refine goes_ Try.func81 (by kernel_rfl) rfl #[.slice Ao21 t279.length co21, .string a1] (by rfl) rfl rfl mq ?_
          with_reducible refine (spec_l2In.calls kj5 _ _ t279 a1 true _ ?side1 ?side2 A16.out).mono ?_
          (case side1 => exact cq (Kd.V_reads' HO281.out).2.2); (case side2 => exact (Kd.V_reads' HO281.out).2.1)
          rintro e w' ⟨rfl, ⟨nd, rfl⟩⟩
          refine ⟨_, rfl, ?_⟩
          refine hK.out _ _ ⟨(blk_cell BK273.out 0).trans rfl, (blk_cell BK273.out 1).trans rfl, (kp HB.out hw278_0), (kp HB.out hw278_1)⟩ (fun hHeld => ?_)
          clear hK K
          refine norm_ (a' := ?_) ?_ ?_
          rotate_left
          ·show Act.put _ (some 28) _ = _
           simp only [Act.put, List.setIfInBounds_toArray, List.set_cons_zero, List.set_cons_succ, i64_w, i32_w]
           rfl
          refine done_ (done_of HT_.out (by kernel_rfl)) ?_
          have hcz22_0 := bc BK273.out 0; have hcz22_1 := bc BK273.out 1; have hfz22_0 := bf BK273.out 0; have hfz22_1 := bf BK273.out 1
          have p283 : 0 ≤ (x6_1 : Int) := of_decide_eq_true ad
          have q283 : x6_1 < (l0_1.length : Int) := of_decide_eq_true ad
          obtain ⟨ad283, e283, hx283_0, hx283_1⟩ := at_T31 HR0_1.out x6_1 p283 q283
          obtain rfl : ad278 = ad283 := (by injection e283)
          replace hx283_0 := kp HB.out hx283_0; replace hx283_1 := kp HB.out hx283_1; replace p283 := eq_true p283; replace q283 := eq_true q283
          try go_wp2_with (first | ((with_reducible refine gate_builtin (b := .append) (xs := #[.tmp 29, .tmp 36]) rfl ?_); at_builtin; refine Kd.R_append Kd.string (w0 := w) w.heap.size rfl (.tmp 29) (.tmp 36) 27 9 (.string ⟨#[]⟩) 16 rfl Try.underlying27 info9 rfl (by decide) (by omega) u5 x5_1 ((rd_T31 l0_1 x6_1).f0) [.string ((rd_T31 l0_1 x6_1).f0)] (fun _ => True) (fun _ => False) rfl rfl ?aP (fun _ hk => hk.elim) ?aF ?aO ?aB ?aS ?aL ?_; (case aP => exact rfl); (case aB => exact (bel1 GE273.out)); (case aF => exact (fun _ _ => trivial)); (case aO => exact (rq HO_5.out)); (case aS => exact (below_size (bel1 GE273.out))); (case aL => have := LMc18.out; omega); intro v285 w23 ho hb hg hat; rw [← Ny284.out] at ho; replace BK273 := am (blk_grown (g := gb273) (o := .cells #[.slice A0_0 l0_0.length c0_0, .slice (some ad278) l0_1.length c0_1] 55 (0, 0)) (bq BK273.out) hg (Kd.R_ne HO_5.out BK273.out (by decide))); replace HO281 := am (Kd.V_afterv (ok := (fun k_ => k_ ≠ gb273)) (vq (Kd.V_mono HO281.out (fun _ hk => ⟨hk.2, hk.1⟩))) hg hat); replace HB := am (hb); have HO286 := am (ho); clear HO_5; clear ho hb hg hat))
          go_roundg kj5
          case measure => have := HK1.out; have := HJ5.out; omega
          case rel => exact ⟨(y284), (wrap64 (x6_1 + 1)), sq, H', ⟨by have := HK1.out; have := HJ5.out; omega⟩, ⟨rq HO286.out⟩, ⟨bq BK273.out⟩, ⟨bel1 GE273.out⟩⟩
         ·rw [if_neg c18] at H
          exact absurd H (by simp)
        ·replace c17 := Bool.eq_false_iff.mpr c17; subst c17
         have H1 : (spec_BookStems.l0 kj5 a1 x5_1 (wrap64 (x6_1 + 1)) l0_0 l0_1) = some r := b18_
         replace H := H1; clear H1
         have H' := am H
         clear H
         try go_wp2
         replace HO_5 := am (Kd.R_drew HO_5.out); replace BK273 := am (blk_drew BK273.out); replace HB := am (below_drew1 HB.out)
         have p278 : 0 ≤ (x6_1 : Int) := of_decide_eq_true ad
         have q278 : x6_1 < (l0_1.length : Int) := of_decide_eq_true ad
         obtain ⟨ad278, e278, hx278_0, hx278_1⟩ := at_T31 HR0_1.out x6_1 p278 q278; have hw278_1 := hx278_1; have hw278_0 := hx278_0
         cases e278
         replace hx278_0 := kp HB.out hx278_0; replace hx278_1 := kp HB.out hx278_1; replace p278 := eq_true p278; replace q278 := eq_true q278
         refine st (n := 10) (S := fun w' => w'.cell? ⟨gb273, 0, none⟩ = some (.slice A0_0 l0_0.length c0_0) ∧ w'.cell? ⟨gb273, 1, none⟩ = some (.slice (some ad278) l0_1.length c0_1) ∧ w'.cell? (ad278.add ((x6_1).toNat * 2)) = some (.string ((rd_T31 l0_1 x6_1).f0)) ∧ w'.cell? ⟨(ad278.add ((x6_1).toNat * 2)).block, (ad278.add ((x6_1).toNat * 2)).off + 1, none⟩ = some (.string ((rd_T31 l0_1 x6_1).f1))) (ds := []) ⟨(blk_cell BK273.out 0).trans rfl, (blk_cell BK273.out 1).trans rfl, (kp HB.out hw278_0), (kp HB.out hw278_1)⟩ (fun hHeld => ?_); refine with_tabW spec_BookStems.tab5 spec_BookStems.bits5 (fun HT_ HW_ => ?_)
         generalize wc.drew = w24 at HO_5 BK273 HB hx278_0 hx278_1 hHeld ⊢
         refine pu 0 19 ?_
         refine pu 2 21 ?_
         refine pu 4 23 ?_
         refine pu 8 27 ?_
         refine tk4 1 20 hHeld ?_
         refine tk4 3 22 hHeld ?_
         refine pu 5 24 ?_
         refine tk4 6 25 hHeld ?_
         refine on1 7 26 (fun K hK => ?_)
         refine goes_ Try.func55 (by kernel_rfl) rfl #[.slice A0_0 l0_0.length c0_0, .agg #[.string ((rd_T31 l0_1 x6_1).f0), .string ((rd_T31 l0_1 x6_1).f1)]] (by rfl) rfl rfl mq ?_
         with_reducible refine (spec_l2Forms.calls kj5 _ _ l0_0 ((rd_T31 l0_1 x6_1).f0) ((rd_T31 l0_1 x6_1).f1) t279 _ ?side1 ?side2 A15.out).mono ?_
         (case side1 => exact cq (Kd.C_below HR0_0.out HB.out)); (case side2 => exact HC0_0.out)
         rintro e w25 ⟨v280, rfl, ho0, hb⟩
         refine ⟨_, rfl, ?_⟩
         have HO281 := am (Kd.V_lower (Kd.V_mono (ok' := fun k_ => some k_ ≠ (u5 : Value).ownBlock ∧ k_ ≠ gb273) ho0 (fun k_ hk_ => ⟨(Kd.fresh' (Kd.R_lt (rq HO_5.out)) k_ hk_), (Kd.freshB (g := gb273) (o := .cells #[.slice A0_0 l0_0.length c0_0, .slice (some ad278) l0_1.length c0_1] 55 (0, 0)) (bq BK273.out) k_ hk_)⟩)) (below_size (bel1 GE273.out))); replace HO_5 := am (Kd.R_below (rq HO_5.out) hb); replace BK273 := am (blk_below (g := gb273) (o := .cells #[.slice A0_0 l0_0.length c0_0, .slice (some ad278) l0_1.length c0_1] 55 (0, 0)) (bq BK273.out) hb); replace HB := am (below_step (bel1 GE273.out) hb)
         (try clear hb)
         (try clear hb2)
         (try clear hk)
         (try clear hi)
         (try clear ho0)
         obtain ⟨Ao26, co26, eo26⟩ := Kd.V_slice HO281.out
         (first | subst eo26 | (injection eo26 with f1_ f2_ f3_; have f4_ := f1_.symm; have f5_ := f3_.symm; clear f1_ f2_ f3_; subst f4_; subst f5_))
         refine hK.out _ _ ⟨(blk_cell BK273.out 0).trans rfl, (blk_cell BK273.out 1).trans rfl, (kp HB.out hw278_0), (kp HB.out hw278_1)⟩ (fun hHeld => ?_)
         clear hK K
         refine norm_ (a' := ?_) ?_ ?_
         rotate_left
         ·show Act.put _ (some 26) _ = _
          simp only [Act.put, List.setIfInBounds_toArray, List.set_cons_zero, List.set_cons_succ, i64_w, i32_w]
          rfl
         refine on1 9 28 (fun K hK => ?_)
         refine goes_ Try.func81 (by kernel_rfl) rfl #[.slice Ao26 t279.length co26, .string a1] (by rfl) rfl rfl mq ?_
         with_reducible refine (spec_l2In.calls kj5 _ _ t279 a1 false _ ?side1 ?side2 A16.out).mono ?_
         (case side1 => exact cq (Kd.V_reads' HO281.out).2.2); (case side2 => exact (Kd.V_reads' HO281.out).2.1)
         rintro e w' ⟨rfl, ⟨nd, rfl⟩⟩
         refine ⟨_, rfl, ?_⟩
         refine hK.out _ _ ⟨(blk_cell BK273.out 0).trans rfl, (blk_cell BK273.out 1).trans rfl, (kp HB.out hw278_0), (kp HB.out hw278_1)⟩ (fun hHeld => ?_)
         clear hK K
         refine norm_ (a' := ?_) ?_ ?_
         rotate_left
         ·show Act.put _ (some 28) _ = _
          simp only [Act.put, List.setIfInBounds_toArray, List.set_cons_zero, List.set_cons_succ, i64_w, i32_w]
          rfl
         refine done_ (done_of HT_.out (by kernel_rfl)) ?_
         try go_wp2
         go_roundg kj5
         case measure => have := HK1.out; have := HJ5.out; omega
         case rel => exact ⟨(x5_1), (wrap64 (x6_1 + 1)), sq, H', ⟨by have := HK1.out; have := HJ5.out; omega⟩, ⟨rq HO_5.out⟩, ⟨bq BK273.out⟩, ⟨bel1 GE273.out⟩⟩
       ·rw [if_neg c14] at H
        exact absurd H (by simp)
      ·rw [if_neg c13] at H
       exact absurd H (by simp)
     ·replace c12 := Bool.eq_false_iff.mpr c12; subst c12
      have H1 : (some x5_1) = some r := b18_
      replace H := H1; clear H1
      obtain rfl := Option.some.inj H; go_wp2; go_ret
      exact ⟨_, eq_, by (with_reducible repeat (first | apply Kd.R_alloc | apply Kd.R_drewN | apply Kd.R_drew)); exact HO_5.out, bel1 GE273.out⟩

end Go.Proofs.Ytedfcehhgbeibaa.QFnBookStems

import Derived.Test.YtedfcehhgbeibaaQFnBookStemsx0
import Derived.Test.YtedfcehhgbeibaaQFnBookStemsx9
import Derived.Test.YtedfcehhgbeibaaQFnBookStemsx12
import Derived.Test.YtedfcehhgbeibaaQFnBookStemsx15
import Derived.Test.YtedfcehhgbeibaaQFnBookStemsx16
import Derived.Test.YtedfcehhgbeibaaQFnBookStemsx19
import Derived.Test.YtedfcehhgbeibaaVMSh2
namespace Go.Proofs.Ytedfcehhgbeibaa.QFnBookStems
open Go.RowKit Go.Proofs.YtedfcehhgbeibaaW.PrintWords Go.Proofs.YtedfcehhgbeibaaW.PrintLast Go.Proofs.YtedfcehhgbeibaaW.PrintMore Go.Proofs.Ytedfcehhgbeibaa.Sh
attribute [local go_sem] max2_int min2_int max_two min_two max_three min_three max_four min_four   -- for this text's walks alone
set_option linter.unusedVariables false
set_option linter.unusedSimpArgs false
-- shrunk

/-! ### spec_l2Words: function 75 -/
mutual
def spec_l2Words.l0 : Nat → List ByteArray → Int → List (S44) → List (S31) → Option (List ByteArray)
 | 0, _, _, _, _ => none
 | k + 1, x3, x4, x442000, x442001 => if x4 < (x442001.length : Int) then (if 0 ≤ x4 then ((spec_l2Forms.f k x442000 ((rd_T31 x442001 x4).f0) ((rd_T31 x442001 x4).f1)).bind fun t446 => (spec_l2Words.l1 k x3 x4 t446 0 x442000 x442001)) else (none)) else (some x3)
def spec_l2Words.l1 : Nat → List ByteArray → Int → List ByteArray → Int → List (S44) → List (S31) → Option (List ByteArray)
 | 0, _, _, _, _, _, _ => none
 | k + 1, x3, x4, x5, x6, x442000, x442001 => if x6 < (x5.length : Int) then (if 0 ≤ x6 then ((spec_l1Put.f k x3 (rdOf ByteArray.empty x5 x6)).bind fun t450 => (spec_l2Words.l1 k t450 x4 x5 (wrap64 (x6 + 1)) x442000 x442001)) else (none)) else (spec_l2Words.l0 k x3 (wrap64 (x4 + 1)) x442000 x442001)
end
def spec_l2Words.f (k : Nat) (l0_0 : List (S44)) (l0_1 : List (S31)) : Option (List ByteArray) := spec_l2Words.l0 k (([] : List ByteArray)) 0 l0_0 l0_1
theorem spec_l2Words.mono_l : ∀ k, (∀ y0 y1 y2 y3, LeO (spec_l2Words.l0 k y0 y1 y2 y3) (spec_l2Words.l0 (k + 1) y0 y1 y2 y3)) ∧ (∀ y0 y1 y2 y3 y4 y5, LeO (spec_l2Words.l1 k y0 y1 y2 y3 y4 y5) (spec_l2Words.l1 (k + 1) y0 y1 y2 y3 y4 y5))
 | 0 => ⟨fun _ _ _ _ r h => by simp [spec_l2Words.l0] at h, fun _ _ _ _ _ _ r h => by simp [spec_l2Words.l1] at h⟩
 | k + 1 => by
  obtain ⟨ih0, ih1⟩ := spec_l2Words.mono_l k
  refine ⟨?_, ?_⟩
  ·intro y0 y1 y2 y3
   unfold spec_l2Words.l0
   repeat' first | (with_reducible first | exact ih0 _ _ _ _ | exact ih1 _ _ _ _ _ _ | exact spec_l1Put.mono _ _ _ | exact spec_l2Forms.mono _ _ _ _ | exact LeO.refl _ | exact LeO.none _ | refine LeO.ite ?_ ?_ | refine LeO.bind ?_ (fun _ => ?_)) | exact ih0 _ _ _ _ | exact ih1 _ _ _ _ _ _ | exact spec_l1Put.mono _ _ _ | exact spec_l2Forms.mono _ _ _ _ | exact LeO.none _ | refine LeO.ite ?_ ?_ | refine LeO.bind ?_ (fun _ => ?_)
  ·intro y0 y1 y2 y3 y4 y5
   unfold spec_l2Words.l1
   repeat' first | (with_reducible first | exact ih0 _ _ _ _ | exact ih1 _ _ _ _ _ _ | exact spec_l1Put.mono _ _ _ | exact spec_l2Forms.mono _ _ _ _ | exact LeO.refl _ | exact LeO.none _ | refine LeO.ite ?_ ?_ | refine LeO.bind ?_ (fun _ => ?_)) | exact ih0 _ _ _ _ | exact ih1 _ _ _ _ _ _ | exact spec_l1Put.mono _ _ _ | exact spec_l2Forms.mono _ _ _ _ | exact LeO.none _ | refine LeO.ite ?_ ?_ | refine LeO.bind ?_ (fun _ => ?_)
theorem spec_l2Words.mono : ∀ a0 a1 k, LeO (spec_l2Words.f k a0 a1) (spec_l2Words.f (k + 1) a0 a1) := by
 intro a0 a1 k; obtain ⟨ih0, ih1⟩ := spec_l2Words.mono_l k
 unfold spec_l2Words.f
 repeat' first | (with_reducible first | exact ih0 _ _ _ _ | exact ih1 _ _ _ _ _ _ | exact spec_l1Put.mono _ _ _ | exact spec_l2Forms.mono _ _ _ _ | exact LeO.refl _ | exact LeO.none _ | refine LeO.ite ?_ ?_ | refine LeO.bind ?_ (fun _ => ?_)) | exact ih0 _ _ _ _ | exact ih1 _ _ _ _ _ _ | exact spec_l1Put.mono _ _ _ | exact spec_l2Forms.mono _ _ _ _ | exact LeO.none _ | refine LeO.ite ?_ ?_ | refine LeO.bind ?_ (fun _ => ?_)
def spec_l2Words.T5 : Bool × List (List Nat × List Nat) := (true, [([], []), ([0], [0]), ([], []), ([2], [2]), ([], []), ([3, 4], [3, 4]), ([5], [5]), ([1, 6], [1, 6]), ([7, 7, 0, 1, 2, 3, 4, 5, 6, 7], [7])])
def spec_l2Words.B5 : List Nat := [0, 1, 0, 4, 0, 28, 60, 127, 255]
theorem spec_l2Words.tab5 : rtab .any (opsOf Try.f75 5) = spec_l2Words.T5 := by kernel_rfl
theorem spec_l2Words.bits5 : waitsOk spec_l2Words.T5.2 spec_l2Words.B5 = true := by kernel_rfl
set_option maxHeartbeats 8000000 in
set_option maxRecDepth 100000 in
theorem spec_l2Words.calls (k : Nat) (A0_0 : Option Addr) (c0_0 : Nat) (l0_0 : List (S44)) (A0_1 : Option Addr) (c0_1 : Nat) (l0_1 : List (S31)) (r : List ByteArray) (w : World) (hr0_0 : Kd.C k44 w A0_0 l0_0.length l0_0) (hc0_0 : l0_0.length ≤ c0_0) (hr0_1 : Kd.C k31 w A0_1 l0_1.length l0_1) (hc0_1 : l0_1.length ≤ c0_1) (h : spec_l2Words.f k l0_0 l0_1 = some r) :
  Calls Try.prog 75 #[.agg #[.slice A0_0 l0_0.length c0_0, .slice A0_1 l0_1.length c0_1]] w fun e w' => ∃ v0_ : Value, e = .returned (v0_) ∧ Kd.V Kd.string 9 w' w.heap.size (fun k_ => (w.heap.size ≤ k_)) v0_ r ∧ Below w.heap.size w w' := by
 have hu55 := Try.underlying55; have hu31 := Try.underlying31; have HR0_0 := am hr0_0; have HC0_0 := am hc0_0; clear hr0_0 hc0_0; have HR0_1 := am hr0_1; have HC0_1 := am hc0_1; clear hr0_1 hc0_1; have HB := am (Below.refl w.heap.size w)
 have H : (spec_l2Words.l0 k (([] : List ByteArray)) 0 l0_0 l0_1) = some r := h
 clear h; obtain ⟨y442, hy442⟩ : ∃ y_ : List ByteArray, y_ = (([] : List ByteArray)) := ⟨_, rfl⟩
 replace H : (spec_l2Words.l0 k y442 0 l0_0 l0_1) = some r := by first | (rw [hy442]; with_reducible exact H) | (have H2_ := (Option.bind_some _ _).symm.trans H; rw [hy442]; with_reducible exact H2_) | (have H2_ := (Option.bind_some _ _).symm.trans H; with_reducible exact H2_) | with_reducible exact H | (rw [hy442]; exact H) | exact H
 have Ny442 := am hy442; clear hy442
 have H' := am H
 clear H; go_enter Try.func75, Try.ntmps75
 go_wp2_with (first | ((with_reducible refine gate_dst (N := 1) rfl ?_); refine bx 1 (cs := #[.slice A0_0 l0_0.length c0_0, .slice A0_1 l0_1.length c0_1]) (t := 55) ?_; intro gb441 hg w2 hbox hb; have BK441 := am (hbox); have GW441 := am ((b20_ : w.heap.size ≤ gb441)); have GE441 := am ((b20_ : w.heap.size ≤ gb441)); replace HB := am (below_step bel hb); clear hb hbox hg) | ((with_reducible refine gate_dst (N := 7) rfl ?_); refine Kd.R_lit Kd.string _ 9 ?hg (N := 7) ?hd (xs := ([] : List ByteArray)) (inner := []) (ok := fun _ => True) (okp := fun _ => True) ?hr ?hp (fun _ hk => hk) trivial (Below.refl _ _) (Nat.le_refl _) (by simp) ?_; (case hd => rfl); (case hg => rfl); (case hr => first | (go_simp; done) | (go_simp; rfl)); (case hp => exact (Reps.none _ _)); intro v443 w3 ho4 hb hg_ hnew_; clear hg_ hnew_; (first | rw [← Ny442.out] at ho4 | (simp only [Int.reduceToNat] at ho4; rw [← Ny442.out] at ho4) | (simp only [Int.toNat_natCast] at ho4; rw [← Ny442.out] at ho4)); have HO444 := am (Kd.R_lower (Kd.R_newM (M := fun k_ => (w.heap.size ≤ k_)) ho4 (below_size (bel1 GE441.out)) (fun k_ h_ => h_)) (below_size (bel1 GE441.out))); replace BK441 := am (blk_below (g := gb441) (o := .cells #[.slice A0_0 l0_0.length c0_0, .slice A0_1 l0_1.length c0_1] 55 (0, 0)) (bq BK441.out) hb); replace HB := am (below_step (bel1 GE441.out) hb); clear hb ho4))
 go_loopg [3, 4] k (fun kq v3 v4 w' => ∃ (x3_1 : List ByteArray) (x4_1 : Int), v4 = .int .i64 x4_1 ∧ Aside0 (spec_l2Words.l0 kq x3_1 x4_1 l0_0 l0_1 = some r) ∧ Aside0 (kq ≤ k) ∧ Aside0 (Kd.V Kd.string 9 w' w.heap.size (fun k_ => (w.heap.size ≤ k_) ∧ k_ ≠ gb441) v3 x3_1) ∧ Aside0 (w'.heap[gb441]? = some (.cells #[(.slice A0_0 l0_0.length c0_0), (.slice A0_1 l0_1.length c0_1)] 55 (0, 0))) ∧ Aside0 (Below w.heap.size w w'))
 case atStart => exact ⟨(y442), (0), sq, H', ⟨Nat.le_refl _⟩, ⟨Kd.R_V (rq (Kd.R_mono (Kd.R_types HO444.out BK441.out (by decide)) (fun _ hk => ⟨hk.1.1, hk.2⟩)))⟩, ⟨bq BK441.out⟩, ⟨bel1 GE441.out⟩⟩
 case round =>
  clear H'; (try clear p2); obtain ⟨x3_1, x4_1, rfl, HA, HK1, HO_3, BK441, HB⟩ := hrel
  cases gk with
  | zero => exact absurd HA.out (by simp [spec_l2Words.l0])
  | succ k1 =>
   have H := HA.out; clear HA
   simp only [spec_l2Words.l0] at H
   by_cases c5 : x4_1 < (l0_1.length : Int)
   ·rw [if_pos c5] at H; have c5b0 := decide_eq_true c5; clear c5
    by_cases c6 : 0 ≤ x4_1
    ·rw [if_pos c6] at H; have c6b0 := decide_eq_true c6; clear c6; replace H := Option.bind_eq_some_iff.mp H; obtain ⟨t446, A70, H⟩ := H; replace H : (spec_l2Words.l1 k1 x3_1 x4_1 t446 0 l0_0 l0_1) = some r := H; have A7 := Aside0.mk A70; clear A70
     have H' := am H
     clear H; have hcz8_0 := bc BK441.out 0; have hcz8_1 := bc BK441.out 1; have hfz8_0 := bf BK441.out 0; have hfz8_1 := bf BK441.out 1
     try go_wp2
     replace HO_3 := am (Kd.V_drew HO_3.out); replace BK441 := am (blk_drew BK441.out); replace HB := am (below_drew1 HB.out)
     have p445 : 0 ≤ (x4_1 : Int) := of_decide_eq_true ad
     have q445 : x4_1 < (l0_1.length : Int) := of_decide_eq_true ad
     obtain ⟨ad445, e445, hx445_0, hx445_1⟩ := at_T31 HR0_1.out x4_1 p445 q445; have hw445_1 := hx445_1; have hw445_0 := hx445_0
     cases e445
     replace hx445_0 := kp HB.out hx445_0; replace hx445_1 := kp HB.out hx445_1; replace p445 := eq_true p445; replace q445 := eq_true q445
     refine st (n := 9) (S := fun w' => w'.cell? ⟨gb441, 0, none⟩ = some (.slice A0_0 l0_0.length c0_0) ∧ w'.cell? ⟨gb441, 1, none⟩ = some (.slice (some ad445) l0_1.length c0_1) ∧ w'.cell? (ad445.add ((x4_1).toNat * 2)) = some (.string ((rd_T31 l0_1 x4_1).f0)) ∧ w'.cell? ⟨(ad445.add ((x4_1).toNat * 2)).block, (ad445.add ((x4_1).toNat * 2)).off + 1, none⟩ = some (.string ((rd_T31 l0_1 x4_1).f1))) (ds := []) ⟨(blk_cell BK441.out 0).trans rfl, (blk_cell BK441.out 1).trans rfl, (kp HB.out hw445_0), (kp HB.out hw445_1)⟩ (fun hHeld => ?_); refine with_tabW spec_l2Words.tab5 spec_l2Words.bits5 (fun HT_ HW_ => ?_)
     generalize wr.drew = w9 at HO_3 BK441 HB hx445_0 hx445_1 hHeld ⊢
     refine pu 0 15 ?_
     refine pu 2 17 ?_
     refine pu 4 19 ?_
     refine tk4 1 16 hHeld ?_
     refine tk4 3 18 hHeld ?_
     refine pu 5 20 ?_
     refine tk4 6 21 hHeld ?_
     refine on1 7 22 (fun K hK => ?_)
     refine goes_ Try.func55 (by kernel_rfl) rfl #[.slice A0_0 l0_0.length c0_0, .agg #[.string ((rd_T31 l0_1 x4_1).f0), .string ((rd_T31 l0_1 x4_1).f1)]] (by rfl) rfl rfl mq ?_
     with_reducible refine (spec_l2Forms.calls k1 _ _ l0_0 ((rd_T31 l0_1 x4_1).f0) ((rd_T31 l0_1 x4_1).f1) t446 _ ?side1 ?side2 A7.out).mono ?_
     (case side1 => exact cq (Kd.C_below HR0_0.out HB.out)); (case side2 => exact HC0_0.out)
     rintro e w10 ⟨v447, rfl, ho0, hb⟩
     refine ⟨_, rfl, ?_⟩
     replace HO_3 := am (Kd.V_below (vq HO_3.out) hb); have HO448 := am (Kd.V_lower (Kd.V_mono (ok' := fun k_ => (w.heap.size ≤ k_) ∧ k_ ≠ gb441) ho0 (fun k_ hk_ => ⟨(Nat.le_trans (below_size (bel1 GE441.out)) hk_), (Kd.freshB (g := gb441) (o := .cells #[.slice A0_0 l0_0.length c0_0, .slice (some ad445) l0_1.length c0_1] 55 (0, 0)) (bq BK441.out) k_ hk_)⟩)) (below_size (bel1 GE441.out))); replace BK441 := am (blk_below (g := gb441) (o := .cells #[.slice A0_0 l0_0.length c0_0, .slice (some ad445) l0_1.length c0_1] 55 (0, 0)) (bq BK441.out) hb); replace HB := am (below_step (bel1 GE441.out) hb)
     (try clear hb)
     (try clear hb2)
     (try clear hk)
     (try clear hi)
     (try clear ho0)
     refine hK.out _ _ ⟨(blk_cell BK441.out 0).trans rfl, (blk_cell BK441.out 1).trans rfl, (kp HB.out hw445_0), (kp HB.out hw445_1)⟩ (fun hHeld => ?_)
     clear hK K
     refine norm_ (a' := ?_) ?_ ?_
     rotate_left
     ·show Act.put _ (some 22) _ = _
      simp only [Act.put, List.setIfInBounds_toArray, List.set_cons_zero, List.set_cons_succ, i64_w, i32_w]
      rfl
     refine pu 8 5 ?_
     refine done_ (done_of HT_.out (by kernel_rfl)) ?_
     try go_wp2
     go_loopg [3, 6] k1 (fun kq v3 v6 w' => ∃ (x3_2 : List ByteArray) (x6_2 : Int), v6 = .int .i64 x6_2 ∧ Aside0 (spec_l2Words.l1 kq x3_2 x4_1 t446 x6_2 l0_0 l0_1 = some r) ∧ Aside0 (kq ≤ k1) ∧ Aside0 (Kd.V Kd.string 9 w' w.heap.size (fun k_ => (w.heap.size ≤ k_) ∧ k_ ≠ gb441) v3 x3_2) ∧ Aside0 (Kd.V Kd.string 9 w' w.heap.size (fun k_ => (w.heap.size ≤ k_) ∧ k_ ≠ gb441) v447 t446) ∧ Aside0 (w'.heap[gb441]? = some (.cells #[(.slice A0_0 l0_0.length c0_0), (.slice (some ad445) l0_1.length c0_1)] 55 (0, 0))) ∧ Aside0 (Below w.heap.size w w'))
     case atStart => exact ⟨(x3_1), (0), sq, H', ⟨Nat.le_refl _⟩, ⟨vq HO_3.out⟩, ⟨vq HO448.out⟩, ⟨bq BK441.out⟩, ⟨bel1 GE441.out⟩⟩
     case round =>
      clear H'; (try clear p2); (try clear p4); (try clear q4); (try clear hx4); (try clear c5); (try clear c5b0); (try clear c6); (try clear c6b0); (try clear c7); (try clear hcz8_0); (try clear hcz8_1); (try clear hfz8_0); (try clear hfz8_1); (try clear hx445_0); (try clear hx445_1); (try clear p2); (try clear p445); (try clear q445); obtain ⟨x3_2, x6_2, rfl, HA, HK2, HO_3, HO_5, BK441, HB⟩ := hrel
      cases gk with
      | zero => exact absurd HA.out (by simp [spec_l2Words.l1])
      | succ k2 =>
       have H := HA.out; clear HA
       simp only [spec_l2Words.l1] at H
       by_cases c11 : x6_2 < (t446.length : Int)
       ·rw [if_pos c11] at H; have c11b0 := decide_eq_true c11; clear c11
        by_cases c12 : 0 ≤ x6_2
        ·rw [if_pos c12] at H; have c12b0 := decide_eq_true c12; clear c12; replace H := Option.bind_eq_some_iff.mp H; obtain ⟨t450, A130, H⟩ := H; replace H : (spec_l2Words.l1 k2 t450 x4_1 t446 (wrap64 (x6_2 + 1)) l0_0 l0_1) = some r := H; have A13 := Aside0.mk A130; clear A130
         have H' := am H
         clear H; obtain ⟨Ao14, co14, eo14⟩ := Kd.V_slice HO_5.out; subst eo14
         have p449 : 0 ≤ (x6_2 : Int) := of_decide_eq_true ad
         have q449 : x6_2 < (t446.length : Int) := of_decide_eq_true ad
         obtain ⟨ad449, e449, hx449_0⟩ := Kd.at_string (Kd.V_reads' HO_5.out).2.2 x6_2 p449 q449
         cases e449
         replace p449 := eq_true p449; replace q449 := eq_true q449; obtain ⟨Ao15, co15, eo15⟩ := Kd.V_slice HO_3.out; subst eo15
         go_wp2_with (first | ((with_reducible refine gate_callee (f := 102) rfl ?_); refine goesL_ (some 34) rfl rfl Try.func102 (by kernel_rfl) rfl #[.slice Ao15 x3_2.length co15, .string (rdOf ByteArray.empty t446 x6_2)] rfl mq ?_; (with_reducible refine (spec_l1Put.calls k2 (fun k_ => ((w.heap.size ≤ k_) ∧ k_ ≠ gb441)) _ _ x3_2 (rdOf ByteArray.empty t446 x6_2) t450 _ ?side1 A13.out).mono ?_); (case side1 => exact HO_3.out); rintro e w16 ⟨v451, rfl, ho0, hb⟩; refine ⟨_, rfl, ?_⟩; replace HO_3 := am (Kd.V_below (vq HO_3.out) hb); replace HO_5 := am (Kd.V_below (vq HO_5.out) hb); have HO452 := am (Kd.V_lower (Kd.V_mono (ok' := fun k_ => (w.heap.size ≤ k_) ∧ k_ ≠ gb441) ho0 (fun k_ hk_ => ⟨Or.elim hk_ (fun hs_ => hs_.1) (fun hn_ => (Nat.le_trans (below_size (bel1 GE441.out)) hn_)), Or.elim hk_ (fun hs_ => hs_.2) (fun hn_ => (Kd.freshB (g := gb441) (o := .cells #[.slice A0_0 l0_0.length c0_0, .slice (some ad445) l0_1.length c0_1] 55 (0, 0)) (bq BK441.out) k_ hn_))⟩)) (below_size (bel1 GE441.out))); replace BK441 := am (blk_below (g := gb441) (o := .cells #[.slice A0_0 l0_0.length c0_0, .slice (some ad445) l0_1.length c0_1] 55 (0, 0)) (bq BK441.out) hb); replace HB := am (below_step (bel1 GE441.out) hb); (try clear hb); (try clear hb2); (try clear hk); (try clear hi); (try clear ho0)))
         go_roundg k2
         case measure => have := HK1.out; have := HK2.out; omega
         case rel => exact ⟨(t450), (wrap64 (x6_2 + 1)), sq, H', ⟨b73_⟩, ⟨vq HO452.out⟩, ⟨vq HO_5.out⟩, ⟨bq BK441.out⟩, ⟨bel1 GE441.out⟩⟩
        ·rw [if_neg c12] at H
         exact absurd H (by simp)
       ·rw [if_neg c11] at H; have c11b0 := decide_eq_false c11; clear c11
        have H' := am H
        clear H; obtain ⟨Ao17, co17, eo17⟩ := Kd.V_slice HO_5.out; subst eo17; go_wp2
        go_roundg k2
        case measure => have := HK1.out; have := HK2.out; omega
        case rel => exact ⟨(x3_2), (wrap64 (x4_1 + 1)), sq, H', ⟨b73_⟩, ⟨vq HO_3.out⟩, ⟨bq BK441.out⟩, ⟨bel1 GE441.out⟩⟩
    ·rw [if_neg c6] at H
     exact absurd H (by simp)
   ·rw [if_neg c5] at H; have c5b0 := decide_eq_false c5; clear c5; obtain rfl := Option.some.inj H; have hcz18_0 := bc BK441.out 0; have hcz18_1 := bc BK441.out 1; have hfz18_0 := bf BK441.out 0; have hfz18_1 := bf BK441.out 1; go_wp2; go_ret
    exact ⟨_, eq_, by (with_reducible repeat (first | apply Kd.V_alloc | apply Kd.V_drewN | apply Kd.V_drew)); exact Kd.V_mono HO_3.out (fun _ hk => hk.1), bel1 GE441.out⟩

/-! ### spec_l13Of: function 83 -/
def spec_l13Of.j0 : Nat → Bool → List Int → Int → List (S44) → List (S31) → Option (ByteArray × Int)
 | 0, _, _, _, _, _ => none
 | k + 1, x12, x1000, x1001, x454000, x454001 => if x12 = true then ((spec_l2Words.f k x454000 x454001).bind fun t457 => (if (t457.length : Int) > 0 then ((spec_l1Rd_pick.f k x1000 x1001 (t457.length : Int)).bind fun bt460 => (if 0 ≤ bt460.1 then (if bt460.1 < (t457.length : Int) then (some (rdOf ByteArray.empty t457 bt460.1, bt460.2)) else (none)) else (none))) else ((spec_l13AnyWord.f k x1000 x1001).bind fun bt463 => (some (bt463.1, bt463.2))))) else ((spec_l13AnyWord.f k x1000 x1001).bind fun bt465 => (some (bt465.1, bt465.2)))
def spec_l13Of.f (k : Nat) (s0_0 : List Int) (s0_1 : Int) (l1_0 : List (S44)) (l1_1 : List (S31)) : Option (ByteArray × Int) := (spec_BookOk.f k l1_0 l1_1).bind fun t454 => (if t454 = true then ((spec_l1Rd_pick.f k s0_0 s0_1 2).bind fun bt455 => (spec_l13Of.j0 k (bt455.1 == 0) s0_0 bt455.2 l1_0 l1_1)) else (spec_l13Of.j0 k false s0_0 s0_1 l1_0 l1_1))
theorem spec_l13Of.mono_l : ∀ k, (∀ y0 y1 y2 y3 y4, LeO (spec_l13Of.j0 k y0 y1 y2 y3 y4) (spec_l13Of.j0 (k + 1) y0 y1 y2 y3 y4))
 | 0 => fun _ _ _ _ _ r h => by simp [spec_l13Of.j0] at h
 | k + 1 => by
  have ih0 := spec_l13Of.mono_l k
  ·intro y0 y1 y2 y3 y4
   unfold spec_l13Of.j0
   repeat' first | (with_reducible first | exact ih0 _ _ _ _ _ | exact spec_BookOk.mono _ _ _ | exact spec_l13AnyWord.mono _ _ _ | exact spec_l1Rd_pick.mono _ _ _ _ | exact spec_l2Words.mono _ _ _ | exact LeO.refl _ | exact LeO.none _ | refine LeO.ite ?_ ?_ | refine LeO.bind ?_ (fun _ => ?_)) | exact ih0 _ _ _ _ _ | exact spec_BookOk.mono _ _ _ | exact spec_l13AnyWord.mono _ _ _ | exact spec_l1Rd_pick.mono _ _ _ _ | exact spec_l2Words.mono _ _ _ | exact LeO.none _ | refine LeO.ite ?_ ?_ | refine LeO.bind ?_ (fun _ => ?_)
theorem spec_l13Of.mono : ∀ a0 a1 a2 a3 k, LeO (spec_l13Of.f k a0 a1 a2 a3) (spec_l13Of.f (k + 1) a0 a1 a2 a3) := by
 intro a0 a1 a2 a3 k; have ih0 := spec_l13Of.mono_l k
 unfold spec_l13Of.f
 repeat' first | (with_reducible first | exact ih0 _ _ _ _ _ | exact spec_BookOk.mono _ _ _ | exact spec_l13AnyWord.mono _ _ _ | exact spec_l1Rd_pick.mono _ _ _ _ | exact spec_l2Words.mono _ _ _ | exact LeO.refl _ | exact LeO.none _ | refine LeO.ite ?_ ?_ | refine LeO.bind ?_ (fun _ => ?_)) | exact ih0 _ _ _ _ _ | exact spec_BookOk.mono _ _ _ | exact spec_l13AnyWord.mono _ _ _ | exact spec_l1Rd_pick.mono _ _ _ _ | exact spec_l2Words.mono _ _ _ | exact LeO.none _ | refine LeO.ite ?_ ?_ | refine LeO.bind ?_ (fun _ => ?_)
set_option maxHeartbeats 8000000 in
set_option maxRecDepth 100000 in
theorem spec_l13Of.calls (k : Nat) (g : Nat) (s0_0 : List Int) (s0_1 : Int) (A1_0 : Option Addr) (c1_0 : Nat) (l1_0 : List (S44)) (A1_1 : Option Addr) (c1_1 : Nat) (l1_1 : List (S31)) (r1 : ByteArray) (r2 : Int) (w0 w : World) (hI : IsS108 w0 w g s0_0 s0_1) (hB : Below w0.heap.size w0 w) (hr1_0 : ∀ W_, KeepBut w W_ g none → Kd.C k44 W_ A1_0 l1_0.length l1_0) (hc1_0 : l1_0.length ≤ c1_0) (hr1_1 : ∀ W_, KeepBut w W_ g none → Kd.C k31 W_ A1_1 l1_1.length l1_1) (hc1_1 : l1_1.length ≤ c1_1) (h : spec_l13Of.f k s0_0 s0_1 l1_0 l1_1 = some (r1, r2)) :
  Calls Try.prog 83 #[.pointer (some ⟨g, 0, none⟩), .agg #[.slice A1_0 l1_0.length c1_0, .slice A1_1 l1_1.length c1_1]] w fun e w' => e = .returned (.string r1) ∧ IsS108 w0 w' g s0_0 r2 ∧ Below w0.heap.size w0 w' ∧ KeepBut w w' g none := by
 have hu55 := Try.underlying55; have HR1_0 := am hr1_0; have HC1_0 := am hc1_0; clear hr1_0 hc1_0; have HR1_1 := am hr1_1; have HC1_1 := am hc1_1; clear hr1_1 hc1_1; have HI0 := am hI; have HK := am (KeepBut.refl w g none); have HL := am hB.size; clear hI; have HW0 := am hB.size; have HB := am hB; clear hB
 have H : ((spec_BookOk.f k l1_0 l1_1).bind fun t454 => (if t454 = true then ((spec_l1Rd_pick.f k s0_0 s0_1 2).bind fun bt455 => (spec_l13Of.j0 k (bt455.1 == 0) s0_0 bt455.2 l1_0 l1_1)) else (spec_l13Of.j0 k false s0_0 s0_1 l1_0 l1_1))) = some (r1, r2) := h
 clear h; have HC3 := am H; clear H; go_enter Try.func83, Try.ntmps83
 go_upto_region 1 with (first | ((with_reducible refine gate_dst (N := 3) rfl ?_); refine bx 3 (cs := #[.slice A1_0 l1_0.length c1_0, .slice A1_1 l1_1.length c1_1]) (t := 55) ?_; intro gb453 hg w4 hbox hb; replace HB := am (below_step b3_ hb); have BK453 := am (hbox); have GW453 := am ((b1_ : w.heap.size ≤ gb453)); have GE453 := am ((Nat.le_trans HW0.out (b1_ : w.heap.size ≤ gb453) : w0.heap.size ≤ gb453)); replace HK := am (KeepBut.trans b0_ (KeepBut.of_below hb g none) (.inl rfl)); have NB0_453 := am ((b15_ : g ≠ gb453)); have NB453_0 := am ((b16_ : gb453 ≠ g)); replace HI0 := am (IsS108.below b5_ hb); clear hb hbox hg))
 (try simp only [Act.put, List.setIfInBounds_toArray, List.set_cons_zero, List.set_cons_succ])
 go_cut [12] (fun v12 wc => ∃ (kq : Nat) (x12_2 : Bool) (x1001_2 : Int), v12 = .bool x12_2 ∧ Aside0 (spec_l13Of.j0 kq x12_2 s0_0 x1001_2 l1_0 l1_1 = some (r1, r2)) ∧ Aside0 (kq ≤ k) ∧ Aside0 (wc.heap[gb453]? = some (.cells #[(.slice A1_0 l1_0.length c1_0), (.slice A1_1 l1_1.length c1_1)] 55 (0, 0))) ∧ Aside0 (IsS108 w0 wc g s0_0 x1001_2) ∧ Aside0 (KeepBut w wc g none) ∧ Aside0 (Below w0.heap.size w0 wc))
 case first =>
  have H := HC3.out; clear HC3; replace H := Option.bind_eq_some_iff.mp H; obtain ⟨t454, A50, H⟩ := H; replace H : (if t454 = true then ((spec_l1Rd_pick.f k s0_0 s0_1 2).bind fun bt455 => (spec_l13Of.j0 k (bt455.1 == 0) s0_0 bt455.2 l1_0 l1_1)) else (spec_l13Of.j0 k false s0_0 s0_1 l1_0 l1_1)) = some (r1, r2) := H; have A5 := Aside0.mk A50; clear A50
  by_cases c6 : t454 = true
  ·subst c6
   have H1 : ((spec_l1Rd_pick.f k s0_0 s0_1 2).bind fun bt455 => (spec_l13Of.j0 k (bt455.1 == 0) s0_0 bt455.2 l1_0 l1_1)) = some (r1, r2) := b36_
   replace H := H1; clear H1
   replace H := Option.bind_eq_some_iff.mp H; obtain ⟨⟨t455, t456⟩, A70, H⟩ := H; replace H : (spec_l13Of.j0 k (t455 == 0) s0_0 t456 l1_0 l1_1) = some (r1, r2) := H; have A7 := Aside0.mk A70; clear A70
   have H' := am H
   clear H; have hnb8 := NB453_0.out; have hnc8 := NB0_453.out; have hcz9_0 := bc BK453.out 0; have hcz9_1 := bc BK453.out 1; have hfz9_0 := bf BK453.out 0; have hfz9_1 := bf BK453.out 1
   go_wp2_with (first | ((with_reducible refine gate_callee (f := 39) rfl ?_); refine goesL_ (some 7) rfl rfl Try.func39 (by kernel_rfl) rfl #[.agg #[.slice A1_0 l1_0.length c1_0, .slice A1_1 l1_1.length c1_1]] rfl mq ?_; (with_reducible refine (spec_BookOk.calls k _ _ l1_0 _ _ l1_1 true _ ?side1 ?side2 ?side3 ?side4 A5.out).mono ?_); (case side1 => exact Kd.C_foot_now HR1_0.out b9_); (case side2 => exact HC1_0.out); (case side3 => exact Kd.C_foot_now HR1_1.out b9_); (case side4 => exact HC1_1.out); rintro e w10 ⟨rfl, hb⟩; refine ⟨_, rfl, ?_⟩; replace BK453 := am (blk_below (g := gb453) (o := .cells #[.slice A1_0 l1_0.length c1_0, .slice A1_1 l1_1.length c1_1] 55 (0, 0)) (bq BK453.out) hb); replace HK := am (KeepBut.trans b9_ (KeepBut.of_below hb g none) (.inl rfl)); replace HB := am (below_step b30_ hb); replace HI0 := am (IsS108.below b24_ hb); (try clear hb); (try clear hb2); (try clear hk); (try clear hi)) | (go_at_call 67; (with_reducible refine (spec_l1Rd_pick.calls k g s0_0 s0_1 2 t455 t456 w0 _ ?side1 ?side2 A7.out).mono ?_); (case side1 => repeat (first | (with_reducible first | exact HI0.out | apply IsS108.alloc | apply IsS108.drewN | apply IsS108.drew | apply IsS108.set_1 | refine IsS108.far ?_ NB0_453.out _) | exact HI0.out)); (case side2 => repeat (first | (with_reducible first | exact HB.out | apply below_alloc | apply pw_below_drewN | apply below_drew1 | refine below_set ?_ (IsS108.ge HI0.out) | refine below_set ?_ GE453.out) | exact HB.out)); rintro e w11 ⟨rfl, hi, hb, hk⟩; replace BK453 := am (KeepBut.blk hk (g' := gb453) (o := .cells #[.slice A1_0 l1_0.length c1_0, .slice A1_1 l1_1.length c1_1] 55 (0, 0)) (bq BK453.out) NB453_0.out (by simp)); replace HK := am (KeepBut.trans b9_ hk (.inl rfl)); replace HB := am (hb); replace HI0 := am (hi); (try clear hb); (try clear hb2); (try clear hk); (try clear hi)))
   go_meet
   case rel => exact ⟨_, ((t455 == 0)), (t456), sq, H', ⟨b60_⟩, ⟨bq BK453.out⟩, ⟨b24_⟩, ⟨b9_⟩, ⟨b30_⟩⟩
  ·replace c6 := Bool.eq_false_iff.mpr c6; subst c6
   have H1 : (spec_l13Of.j0 k false s0_0 s0_1 l1_0 l1_1) = some (r1, r2) := b18_
   replace H := H1; clear H1
   have H' := am H
   clear H; have hnb12 := NB453_0.out; have hnc12 := NB0_453.out; have hcz13_0 := bc BK453.out 0; have hcz13_1 := bc BK453.out 1; have hfz13_0 := bf BK453.out 0; have hfz13_1 := bf BK453.out 1
   go_wp2_with (first | ((with_reducible refine gate_callee (f := 39) rfl ?_); refine goesL_ (some 7) rfl rfl Try.func39 (by kernel_rfl) rfl #[.agg #[.slice A1_0 l1_0.length c1_0, .slice A1_1 l1_1.length c1_1]] rfl mq ?_; (with_reducible refine (spec_BookOk.calls k _ _ l1_0 _ _ l1_1 false _ ?side1 ?side2 ?side3 ?side4 A5.out).mono ?_); (case side1 => exact Kd.C_foot_now HR1_0.out b9_); (case side2 => exact HC1_0.out); (case side3 => exact Kd.C_foot_now HR1_1.out b9_); (case side4 => exact HC1_1.out); rintro e w14 ⟨rfl, hb⟩; refine ⟨_, rfl, ?_⟩; replace BK453 := am (blk_below (g := gb453) (o := .cells #[.slice A1_0 l1_0.length c1_0, .slice A1_1 l1_1.length c1_1] 55 (0, 0)) (bq BK453.out) hb); replace HK := am (KeepBut.trans b9_ (KeepBut.of_below hb g none) (.inl rfl)); replace HB := am (below_step b30_ hb); replace HI0 := am (IsS108.below b24_ hb); (try clear hb); (try clear hb2); (try clear hk); (try clear hi)))
   go_meet
   case rel => exact ⟨_, (false), (s0_1), sq, H', ⟨b60_⟩, ⟨bq BK453.out⟩, ⟨b24_⟩, ⟨b9_⟩, ⟨b30_⟩⟩
 case rest =>
  clear HC3; (try clear c1); (try clear p2); (try clear c3); (try clear c6); (try clear c8); (try clear c12); (try clear hcz13_0); (try clear hcz13_1); (try clear hcz9_0); (try clear hcz9_1); (try clear hfz13_0); (try clear hfz13_1); (try clear hfz9_0); (try clear hfz9_1); obtain ⟨kq, x12_2, x1001_2, rfl, HA, HJ2, BK453, HI0, HK, HB⟩ := hcut
  cases kq with
  | zero => exact absurd HA.out (by simp [spec_l13Of.j0])
  | succ kj2 =>
   have H := HA.out; clear HA
   simp only [spec_l13Of.j0] at H
   by_cases c15 : x12_2 = true
   ·subst c15
    have H1 : ((spec_l2Words.f kj2 l1_0 l1_1).bind fun t457 => (if (t457.length : Int) > 0 then ((spec_l1Rd_pick.f kj2 s0_0 x1001_2 (t457.length : Int)).bind fun bt460 => (if 0 ≤ bt460.1 then (if bt460.1 < (t457.length : Int) then (some (rdOf ByteArray.empty t457 bt460.1, bt460.2)) else (none)) else (none))) else ((spec_l13AnyWord.f kj2 s0_0 x1001_2).bind fun bt463 => (some (bt463.1, bt463.2))))) = some (r1, r2) := b36_
    replace H := H1; clear H1
    replace H := Option.bind_eq_some_iff.mp H; obtain ⟨t457, A160, H⟩ := H; replace H : (if (t457.length : Int) > 0 then ((spec_l1Rd_pick.f kj2 s0_0 x1001_2 (t457.length : Int)).bind fun bt460 => (if 0 ≤ bt460.1 then (if bt460.1 < (t457.length : Int) then (some (rdOf ByteArray.empty t457 bt460.1, bt460.2)) else (none)) else (none))) else ((spec_l13AnyWord.f kj2 s0_0 x1001_2).bind fun bt463 => (some (bt463.1, bt463.2)))) = some (r1, r2) := H; have A16 := Aside0.mk A160; clear A160
    by_cases c17 : (t457.length : Int) > 0
    ·rw [if_pos c17] at H; have c17b0 := decide_eq_true c17
     have c17b1 : decide (0 < t457.length) = true := decide_eq_true (by omega)
     clear c17; replace H := Option.bind_eq_some_iff.mp H; obtain ⟨⟨t460, t461⟩, A180, H⟩ := H; replace H : (if 0 ≤ t460 then (if t460 < (t457.length : Int) then (some (rdOf ByteArray.empty t457 t460, t461)) else (none)) else (none)) = some (r1, r2) := H; have A18 := Aside0.mk A180; clear A180
     by_cases c19 : 0 ≤ t460
     ·rw [if_pos c19] at H; have c19b0 := decide_eq_true c19; clear c19
      by_cases c20 : t460 < (t457.length : Int)
      ·rw [if_pos c20] at H; have c20b0 := decide_eq_true c20; clear c20
       simp only [Option.some.injEq, Prod.mk.injEq] at H
       obtain ⟨rfl, rfl⟩ := H; have hnb21 := NB453_0.out; have hnc21 := NB0_453.out; have hcz22_0 := bc BK453.out 0; have hcz22_1 := bc BK453.out 1; have hfz22_0 := bf BK453.out 0; have hfz22_1 := bf BK453.out 1
       go_wp2_with (first | ((with_reducible refine gate_callee (f := 75) rfl ?_); refine goesL_ (some 14) rfl rfl Try.func75 (by kernel_rfl) rfl #[.agg #[.slice A1_0 l1_0.length c1_0, .slice A1_1 l1_1.length c1_1]] rfl mq ?_; (with_reducible refine (spec_l2Words.calls kj2 _ _ l1_0 _ _ l1_1 t457 _ ?side1 ?side2 ?side3 ?side4 A16.out).mono ?_); (case side1 => exact Kd.C_foot_now HR1_0.out b9_); (case side2 => exact HC1_0.out); (case side3 => exact Kd.C_foot_now HR1_1.out b9_); (case side4 => exact HC1_1.out); rintro e w23 ⟨v458, rfl, ho0, hb⟩; refine ⟨_, rfl, ?_⟩; have HO459 := am (Kd.V_lower (Kd.V_mono (ok' := fun k_ => k_ ≠ gb453 ∧ k_ ≠ g) ho0 (fun k_ hk_ => ⟨(Kd.freshB (g := gb453) (o := .cells #[.slice A1_0 l1_0.length c1_0, .slice A1_1 l1_1.length c1_1] 55 (0, 0)) (bq BK453.out) k_ hk_), (IsS108.fresh b24_ k_ hk_)⟩)) (keep_size (w := w) (g := g) (row := none) b9_)); replace BK453 := am (blk_below (g := gb453) (o := .cells #[.slice A1_0 l1_0.length c1_0, .slice A1_1 l1_1.length c1_1] 55 (0, 0)) (bq BK453.out) hb); replace HK := am (KeepBut.trans b9_ (KeepBut.of_below hb g none) (.inl rfl)); replace HB := am (below_step b30_ hb); replace HI0 := am (IsS108.below b24_ hb); (try clear hb); (try clear hb2); (try clear hk); (try clear hi); (try clear ho0); obtain ⟨Ao24, co24, eo24⟩ := Kd.V_slice HO459.out; subst eo24) | ((with_reducible refine gate_callee (f := 67) rfl ?_); refine goesL_ (some 22) rfl rfl Try.func67 (by kernel_rfl) rfl #[.pointer (some ⟨g, 0, none⟩), .int .i64 (t457.length : Int)] rfl mq ?_; (with_reducible refine (spec_l1Rd_pick.calls kj2 g s0_0 x1001_2 (t457.length : Int) t460 t461 w0 _ ?side1 ?side2 A18.out).mono ?_); (case side1 => repeat (first | (with_reducible first | exact HI0.out | apply IsS108.alloc | apply IsS108.drewN | apply IsS108.drew | apply IsS108.set_1 | refine IsS108.far ?_ NB0_453.out _) | exact HI0.out)); (case side2 => repeat (first | (with_reducible first | exact HB.out | apply below_alloc | apply pw_below_drewN | apply below_drew1 | refine below_set ?_ (IsS108.ge HI0.out) | refine below_set ?_ GE453.out) | exact HB.out)); rintro e w25 ⟨rfl, hi, hb, hk⟩; refine ⟨_, rfl, ?_⟩; replace BK453 := am (KeepBut.blk hk (g' := gb453) (o := .cells #[.slice A1_0 l1_0.length c1_0, .slice A1_1 l1_1.length c1_1] 55 (0, 0)) (bq BK453.out) NB453_0.out (by simp)); replace HO459 := am (Kd.V_mono (Kd.V_keep (Kd.V_mono (ok := fun k_ => (k_ ≠ gb453 ∧ k_ ≠ g)) (vq HO459.out) (fun k_ hk_ => (⟨hk_, hk_.2⟩ : _ ∧ k_ ≠ g))) hk (fun _ h => h.2)) (fun _ h => h.1)); replace HK := am (KeepBut.trans b9_ hk (.inl rfl)); replace HB := am (hb); replace HI0 := am (hi); (try clear hb); (try clear hb2); (try clear hk); (try clear hi); have p462 : 0 ≤ (t460 : Int) := of_decide_eq_true ad; have q462 : t460 < (t457.length : Int) := of_decide_eq_true ad; obtain ⟨ad462, e462, hx462_0⟩ := Kd.at_string (Kd.V_reads' HO459.out).2.2 t460 p462 q462; cases e462; replace p462 := eq_true p462; replace q462 := eq_true q462))
       go_ret
       exact ⟨eq_, b24_, b30_, b9_⟩
      ·rw [if_neg c20] at H
       exact absurd H (by simp)
     ·rw [if_neg c19] at H
      exact absurd H (by simp)
    ·rw [if_neg c17] at H; have c17b0 := decide_eq_false c17
     have c17b1 : decide (0 < t457.length) = false := decide_eq_false (by omega)
     clear c17; replace H := Option.bind_eq_some_iff.mp H; obtain ⟨⟨t463, t464⟩, A260, H⟩ := H; replace H : (some (t463, t464)) = some (r1, r2) := H; have A26 := Aside0.mk A260; clear A260
     simp only [Option.some.injEq, Prod.mk.injEq] at H
     obtain ⟨rfl, rfl⟩ := H; have hnb27 := NB453_0.out; have hnc27 := NB0_453.out; have hcz28_0 := bc BK453.out 0; have hcz28_1 := bc BK453.out 1; have hfz28_0 := bf BK453.out 0; have hfz28_1 := bf BK453.out 1
     go_wp2_with (first | ((with_reducible refine gate_callee (f := 75) rfl ?_); refine goesL_ (some 14) rfl rfl Try.func75 (by kernel_rfl) rfl #[.agg #[.slice A1_0 l1_0.length c1_0, .slice A1_1 l1_1.length c1_1]] rfl mq ?_; (with_reducible refine (spec_l2Words.calls kj2 _ _ l1_0 _ _ l1_1 t457 _ ?side1 ?side2 ?side3 ?side4 A16.out).mono ?_); (case side1 => exact Kd.C_foot_now HR1_0.out b9_); (case side2 => exact HC1_0.out); (case side3 => exact Kd.C_foot_now HR1_1.out b9_); (case side4 => exact HC1_1.out); rintro e w29 ⟨v458, rfl, ho0, hb⟩; refine ⟨_, rfl, ?_⟩; have HO459 := am (Kd.V_lower (Kd.V_mono (ok' := fun k_ => k_ ≠ gb453 ∧ k_ ≠ g) ho0 (fun k_ hk_ => ⟨(Kd.freshB (g := gb453) (o := .cells #[.slice A1_0 l1_0.length c1_0, .slice A1_1 l1_1.length c1_1] 55 (0, 0)) (bq BK453.out) k_ hk_), (IsS108.fresh b24_ k_ hk_)⟩)) (keep_size (w := w) (g := g) (row := none) b9_)); replace BK453 := am (blk_below (g := gb453) (o := .cells #[.slice A1_0 l1_0.length c1_0, .slice A1_1 l1_1.length c1_1] 55 (0, 0)) (bq BK453.out) hb); replace HK := am (KeepBut.trans b9_ (KeepBut.of_below hb g none) (.inl rfl)); replace HB := am (below_step b30_ hb); replace HI0 := am (IsS108.below b24_ hb); (try clear hb); (try clear hb2); (try clear hk); (try clear hi); (try clear ho0); obtain ⟨Ao30, co30, eo30⟩ := Kd.V_slice HO459.out; subst eo30) | ((with_reducible refine gate_callee (f := 66) rfl ?_); refine goesL_ (some 26) rfl rfl Try.func66 (by kernel_rfl) rfl #[.pointer (some ⟨g, 0, none⟩)] rfl mq ?_; (with_reducible refine (spec_l13AnyWord.calls kj2 g s0_0 x1001_2 t463 t464 w0 _ ?side1 ?side2 A26.out).mono ?_); (case side1 => repeat (first | (with_reducible first | exact HI0.out | apply IsS108.alloc | apply IsS108.drewN | apply IsS108.drew | apply IsS108.set_1 | refine IsS108.far ?_ NB0_453.out _) | exact HI0.out)); (case side2 => repeat (first | (with_reducible first | exact HB.out | apply below_alloc | apply pw_below_drewN | apply below_drew1 | refine below_set ?_ (IsS108.ge HI0.out) | refine below_set ?_ GE453.out) | exact HB.out)); rintro e w31 ⟨rfl, hi, hb, hk⟩; refine ⟨_, rfl, ?_⟩; replace BK453 := am (KeepBut.blk hk (g' := gb453) (o := .cells #[.slice A1_0 l1_0.length c1_0, .slice A1_1 l1_1.length c1_1] 55 (0, 0)) (bq BK453.out) NB453_0.out (by simp)); replace HO459 := am (Kd.V_mono (Kd.V_keep (Kd.V_mono (ok := fun k_ => (k_ ≠ gb453 ∧ k_ ≠ g)) (vq HO459.out) (fun k_ hk_ => (⟨hk_, hk_.2⟩ : _ ∧ k_ ≠ g))) hk (fun _ h => h.2)) (fun _ h => h.1)); replace HK := am (KeepBut.trans b9_ hk (.inl rfl)); replace HB := am (hb); replace HI0 := am (hi); (try clear hb); (try clear hb2); (try clear hk); (try clear hi)))
     go_ret
     exact ⟨eq_, b24_, b30_, b9_⟩
   ·replace c15 := Bool.eq_false_iff.mpr c15; subst c15
    have H1 : ((spec_l13AnyWord.f kj2 s0_0 x1001_2).bind fun bt465 => (some (bt465.1, bt465.2))) = some (r1, r2) := b18_
    replace H := H1; clear H1
    replace H := Option.bind_eq_some_iff.mp H; obtain ⟨⟨t465, t466⟩, A320, H⟩ := H; replace H : (some (t465, t466)) = some (r1, r2) := H; have A32 := Aside0.mk A320; clear A320
    simp only [Option.some.injEq, Prod.mk.injEq] at H
    obtain ⟨rfl, rfl⟩ := H
    go_wp2_with (first | ((with_reducible refine gate_callee (f := 66) rfl ?_); refine goesL_ (some 26) rfl rfl Try.func66 (by kernel_rfl) rfl #[.pointer (some ⟨g, 0, none⟩)] rfl mq ?_; (with_reducible refine (spec_l13AnyWord.calls kj2 g s0_0 x1001_2 t465 t466 w0 _ ?side1 ?side2 A32.out).mono ?_); (case side1 => repeat (first | (with_reducible first | exact HI0.out | apply IsS108.alloc | apply IsS108.drewN | apply IsS108.drew | apply IsS108.set_1 | refine IsS108.far ?_ NB0_453.out _) | exact HI0.out)); (case side2 => repeat (first | (with_reducible first | exact HB.out | apply below_alloc | apply pw_below_drewN | apply below_drew1 | refine below_set ?_ (IsS108.ge HI0.out) | refine below_set ?_ GE453.out) | exact HB.out)); rintro e w33 ⟨rfl, hi, hb, hk⟩; refine ⟨_, rfl, ?_⟩; replace BK453 := am (KeepBut.blk hk (g' := gb453) (o := .cells #[.slice A1_0 l1_0.length c1_0, .slice A1_1 l1_1.length c1_1] 55 (0, 0)) (bq BK453.out) NB453_0.out (by simp)); replace HK := am (KeepBut.trans b9_ hk (.inl rfl)); replace HB := am (hb); replace HI0 := am (hi); (try clear hb); (try clear hb2); (try clear hk); (try clear hi)))
    go_ret
    exact ⟨eq_, b24_, b30_, b9_⟩

/-! ### spec_DrawBookKnows: function 42 -/
def spec_DrawBookKnows.f (k : Nat) (l0 : List Int) : Option ((List (S44)) × (List (S31)) × ByteArray) := (spec_l1Open.f l0).bind fun bt468 => ((spec_l13AnyBook.f k bt468.1 bt468.2).bind fun bt471 => ((spec_l13Of.f k bt468.1 bt471.2.2 bt471.1 bt471.2.1).bind fun bt479 => (some (bt471.1, bt471.2.1, bt479.1))))
theorem spec_DrawBookKnows.mono : ∀ a0 k, LeO (spec_DrawBookKnows.f k a0) (spec_DrawBookKnows.f (k + 1) a0) := by
 intro a0 k
 unfold spec_DrawBookKnows.f
 repeat' first | (with_reducible first | exact spec_l13AnyBook.mono _ _ _ | exact spec_l13Of.mono _ _ _ _ _ | exact LeO.refl _ | exact LeO.none _ | refine LeO.ite ?_ ?_ | refine LeO.bind ?_ (fun _ => ?_)) | exact spec_l13AnyBook.mono _ _ _ | exact spec_l13Of.mono _ _ _ _ _ | exact LeO.none _ | refine LeO.ite ?_ ?_ | refine LeO.bind ?_ (fun _ => ?_)
set_option maxHeartbeats 8000000 in
set_option maxRecDepth 100000 in
theorem spec_DrawBookKnows.calls (k : Nat) (A0 : Option Addr) (c0 : Nat) (l0 : List Int) (r1 : List (S44)) (r2 : List (S31)) (r3 : ByteArray) (w : World) (hr0 : Kd.C (Kd.int .u8) w A0 l0.length l0) (hc0 : l0.length ≤ c0) (h : spec_DrawBookKnows.f k l0 = some (r1, r2, r3)) :
  Calls Try.prog 42 #[.slice A0 l0.length c0] w fun e w' => ∃ v0_ v1_ : Value, e = .returned (.tuple #[.agg #[v0_, v1_], .string r3]) ∧ Kd.R k44 44 w' w.heap.size (fun _ => True) v0_ r1 ∧ Kd.R k31 31 w' w.heap.size (fun _ => True) v1_ r2 ∧ Below w.heap.size w w' := by
 have hu55 := Try.underlying55; have HR0 := am hr0; have HC0 := am hc0; clear hr0 hc0; have HB := am (Below.refl w.heap.size w)
 have H : ((spec_l1Open.f l0).bind fun bt468 => ((spec_l13AnyBook.f k bt468.1 bt468.2).bind fun bt471 => ((spec_l13Of.f k bt468.1 bt471.2.2 bt471.1 bt471.2.1).bind fun bt479 => (some (bt471.1, bt471.2.1, bt479.1))))) = some (r1, r2, r3) := h
 clear h; replace H := Option.bind_eq_some_iff.mp H; obtain ⟨⟨t468, t469⟩, A20, H⟩ := H; replace H : ((spec_l13AnyBook.f k t468 t469).bind fun bt471 => ((spec_l13Of.f k t468 bt471.2.2 bt471.1 bt471.2.1).bind fun bt479 => (some (bt471.1, bt471.2.1, bt479.1)))) = some (r1, r2, r3) := H; have A2 := Aside0.mk A20; clear A20; replace H := Option.bind_eq_some_iff.mp H; obtain ⟨⟨t471, t474, t477⟩, A30, H⟩ := H; replace H : ((spec_l13Of.f k t468 t477 t471 t474).bind fun bt479 => (some (t471, t474, bt479.1))) = some (r1, r2, r3) := H; have A3 := Aside0.mk A30; clear A30; replace H := Option.bind_eq_some_iff.mp H; obtain ⟨⟨t479, t480⟩, A40, H⟩ := H; replace H : (some (t471, t474, t479)) = some (r1, r2, r3) := H; have A4 := Aside0.mk A40; clear A40
 simp only [Option.some.injEq, Prod.mk.injEq] at H
 obtain ⟨rfl, rfl, rfl⟩ := H; go_enter Try.func42, Try.ntmps42
 try go_wp2_with (first | ((with_reducible refine gate_dst (N := 2) rfl ?_); refine bx 2 (cs := #[.slice none 0 0, .slice none 0 0]) (t := 55) ?_; intro gb467 hg w5 hbox hb; have BK467 := am (hbox); have GW467 := am ((b20_ : w.heap.size ≤ gb467)); have GE467 := am ((b20_ : w.heap.size ≤ gb467)); replace HB := am (below_step bel hb); clear hb hbox hg) | ((with_reducible refine gate_callee (f := 63) rfl ?_); refine goesL_ (some 7) rfl rfl Try.func63 (by kernel_rfl) rfl #[.slice A0 l0.length c0] rfl mq ?_; (with_reducible refine (spec_l1Open.calls _ _ l0 t468 t469 w _ ?side1 ?side2 ?side3 A2.out).mono ?_); (case side1 => repeat (first | (with_reducible first | exact HB.out | apply below_alloc | apply pw_below_drewN | apply below_drew1 | refine below_set ?_ GE467.out) | exact HB.out)); (case side2 => exact HR0.out); (case side3 => exact HC0.out); rintro e w6 ⟨g470, rfl, hi, hb, hb2⟩; refine ⟨_, rfl, ?_⟩; replace HB := am (hb); have HI470 := am (hi); have NB470_467 := am (IsS108.ne_blk hi (blk_below (g := gb467) (o := .cells #[.slice none 0 0, .slice none 0 0] 55 (0, 0)) (bq BK467.out) hb2) (by decide)); have NB467_470 := am (Ne.symm (IsS108.ne_blk hi (blk_below (g := gb467) (o := .cells #[.slice none 0 0, .slice none 0 0] 55 (0, 0)) (bq BK467.out) hb2) (by decide))); replace BK467 := am (blk_below (g := gb467) (o := .cells #[.slice none 0 0, .slice none 0 0] 55 (0, 0)) (bq BK467.out) hb2); (try clear hb); (try clear hb2); (try clear hk); (try clear hi)) | ((with_reducible refine gate_callee (f := 64) rfl ?_); refine goesL_ (some 9) rfl rfl Try.func64 (by kernel_rfl) rfl #[.pointer (some ⟨g470, 0, none⟩)] rfl mq ?_; (with_reducible refine (spec_l13AnyBook.calls k g470 t468 t469 t471 t474 t477 w _ ?side1 ?side2 A3.out).mono ?_); (case side1 => repeat (first | (with_reducible first | exact HI470.out | apply IsS108.alloc | apply IsS108.drewN | apply IsS108.drew | apply IsS108.set_1 | refine IsS108.far ?_ NB470_467.out _) | exact HI470.out)); (case side2 => repeat (first | (with_reducible first | exact HB.out | apply below_alloc | apply pw_below_drewN | apply below_drew1 | refine below_set ?_ (IsS108.ge HI470.out) | refine below_set ?_ GE467.out) | exact HB.out)); rintro e w7 ⟨v472, v475, rfl, ho0, ho1, hi, hb, hk⟩; refine ⟨_, rfl, ?_⟩; replace BK467 := am (KeepBut.blk hk (g' := gb467) (o := .cells #[.slice none 0 0, .slice none 0 0] 55 (0, 0)) (bq BK467.out) NB467_470.out (by simp)); have HO473 := am (Kd.R_lower ho0 (below_size b43_)); have HO476 := am (Kd.R_lower ho1 (below_size b43_)); replace HB := am (hb); replace HI470 := am (hi); (try clear hb); (try clear hb2); (try clear hk); (try clear hi); (try clear ho0); (try clear ho1)) | ((with_reducible refine gate_dst (N := 5) rfl ?_); refine bx 5 (cs := #[.slice none 0 0, .slice none 0 0]) (t := 55) ?_; intro gb478 hg w8 hbox hb; replace HO473 := am (Kd.R_below (rq HO473.out) hb); replace HO476 := am (Kd.R_below (rq HO476.out) hb); have BK478 := am (hbox); have GW478 := am ((b63_ : w.heap.size ≤ gb478)); have GE478 := am ((b63_ : w.heap.size ≤ gb478)); replace HB := am (below_step b43_ hb); have NB467_478 := am ((by rw [hg]; exact Nat.ne_of_lt (blk_lt (g := gb467) (o := .cells #[.slice none 0 0, .slice none 0 0] 55 (0, 0)) (bq BK467.out)) : gb467 ≠ gb478)); have NB478_467 := am ((by rw [hg]; exact Nat.ne_of_gt (blk_lt (g := gb467) (o := .cells #[.slice none 0 0, .slice none 0 0] 55 (0, 0)) (bq BK467.out)) : gb478 ≠ gb467)); replace BK467 := am (blk_below (g := gb467) (o := .cells #[.slice none 0 0, .slice none 0 0] 55 (0, 0)) (bq BK467.out) hb); have NB470_478 := am ((by rw [hg]; exact Nat.ne_of_lt (IsS108.lt (show IsS108 w _ g470 t468 t477 from by repeat (first | (with_reducible first | exact HI470.out | apply IsS108.alloc | apply IsS108.drewN | apply IsS108.drew | apply IsS108.set_1 | refine IsS108.far ?_ NB470_467.out _) | exact HI470.out))) : g470 ≠ gb478)); have NB478_470 := am ((by rw [hg]; exact Nat.ne_of_gt (IsS108.lt (show IsS108 w _ g470 t468 t477 from by repeat (first | (with_reducible first | exact HI470.out | apply IsS108.alloc | apply IsS108.drewN | apply IsS108.drew | apply IsS108.set_1 | refine IsS108.far ?_ NB470_467.out _) | exact HI470.out))) : gb478 ≠ g470)); replace HI470 := am (IsS108.below (by repeat (first | (with_reducible first | exact HI470.out | apply IsS108.alloc | apply IsS108.drewN | apply IsS108.drew | apply IsS108.set_1 | refine IsS108.far ?_ NB470_467.out _) | exact HI470.out)) hb); clear hb hbox hg; obtain ⟨Ao9, co9, eo9⟩ := Kd.R_slice HO473.out; subst eo9; have hnb10 := NB478_467.out; have hnc10 := NB467_478.out; have hnb11 := NB478_470.out; have hnc11 := NB470_478.out; have hcz12_0 := bc BK478.out 0; have hcz12_1 := bc BK478.out 1; have hfz12_0 := bf BK478.out 0; have hfz12_1 := bf BK478.out 1; obtain ⟨Ao13, co13, eo13⟩ := Kd.R_slice HO476.out; subst eo13))
 have n0_ : Aside0 (Kd.R k44 44 ((w8.setCell ⟨gb478, 0, none⟩ (.slice Ao9 t471.length co9)).setCell ⟨gb478, 1, none⟩ (.slice Ao13 t474.length co13)) w.heap.size (fun _ => True) (.slice Ao9 t471.length co9) t471) := ⟨rq (Kd.R_mono (Kd.R_far (p := ⟨gb478, 1, none⟩) (Kd.R_far (p := ⟨gb478, 0, none⟩) (Kd.R_types HO473.out BK478.out (by decide)) (fun _ hk => hk.2) (.slice Ao9 t471.length co9)) (fun _ hk => hk.2) (.slice Ao13 t474.length co13)) (fun _ hk => trivial))⟩
 have n1_ : Aside0 (Kd.R k31 31 ((w8.setCell ⟨gb478, 0, none⟩ (.slice Ao9 t471.length co9)).setCell ⟨gb478, 1, none⟩ (.slice Ao13 t474.length co13)) w.heap.size (fun _ => True) (.slice Ao13 t474.length co13) t474) := ⟨rq (Kd.R_mono (Kd.R_far (p := ⟨gb478, 1, none⟩) (Kd.R_far (p := ⟨gb478, 0, none⟩) (Kd.R_types HO476.out BK478.out (by decide)) (fun _ hk => hk.2) (.slice Ao9 t471.length co9)) (fun _ hk => hk.2) (.slice Ao13 t474.length co13)) (fun _ hk => trivial))⟩
 have n2_ : Aside0 (((w8.setCell ⟨gb478, 0, none⟩ (.slice Ao9 t471.length co9)).setCell ⟨gb478, 1, none⟩ (.slice Ao13 t474.length co13)).heap[gb467]? = some (.cells #[.slice none 0 0, .slice none 0 0] 55 (0, 0))) := ⟨by (with_reducible repeat (first | refine blk_drewN ?_ _ | refine blk_drew ?_ | refine blk_alloc ?_ _)); refine blk_far ?_ NB467_478.out _; (with_reducible repeat (first | refine blk_drewN ?_ _ | refine blk_drew ?_ | refine blk_alloc ?_ _)); refine blk_far ?_ NB467_478.out _; (with_reducible repeat (first | refine blk_drewN ?_ _ | refine blk_drew ?_ | refine blk_alloc ?_ _)); exact BK467.out⟩
 have n3_ : Aside0 (((w8.setCell ⟨gb478, 0, none⟩ (.slice Ao9 t471.length co9)).setCell ⟨gb478, 1, none⟩ (.slice Ao13 t474.length co13)).heap[gb478]? = some (.cells #[.slice Ao9 t471.length co9, .slice Ao13 t474.length co13] 55 (0, 0))) := ⟨by (with_reducible repeat (first | refine blk_drewN ?_ _ | refine blk_drew ?_ | refine blk_alloc ?_ _)); refine blk_put (cs := #[.slice Ao9 t471.length co9, .slice none 0 0]) ?_ 1 _ rfl; (with_reducible repeat (first | refine blk_drewN ?_ _ | refine blk_drew ?_ | refine blk_alloc ?_ _)); refine blk_put (cs := #[.slice none 0 0, .slice none 0 0]) ?_ 0 _ rfl; (with_reducible repeat (first | refine blk_drewN ?_ _ | refine blk_drew ?_ | refine blk_alloc ?_ _)); exact BK478.out⟩
 have n4_ : Aside0 (IsS108 w ((w8.setCell ⟨gb478, 0, none⟩ (.slice Ao9 t471.length co9)).setCell ⟨gb478, 1, none⟩ (.slice Ao13 t474.length co13)) g470 t468 t477) := ⟨by repeat (first | (with_reducible first | exact HI470.out | apply IsS108.alloc | apply IsS108.drewN | apply IsS108.drew | apply IsS108.set_1 | refine IsS108.far ?_ NB470_467.out _ | refine IsS108.far ?_ NB470_478.out _) | exact HI470.out)⟩
 have n5_ : Aside0 (Below w.heap.size w ((w8.setCell ⟨gb478, 0, none⟩ (.slice Ao9 t471.length co9)).setCell ⟨gb478, 1, none⟩ (.slice Ao13 t474.length co13))) := ⟨b64_⟩
 (try clear HO473)
 (try clear HO476)
 (try clear BK467)
 (try clear BK478)
 (try clear HI470)
 (try clear HB)
 generalize ((w8.setCell ⟨gb478, 0, none⟩ (.slice Ao9 t471.length co9)).setCell ⟨gb478, 1, none⟩ (.slice Ao13 t474.length co13)) = w14 at n0_ n1_ n2_ n3_ n4_ n5_ ⊢
 have HO473 := n0_; have HO476 := n1_; have BK467 := n2_; have BK478 := n3_; have HI470 := n4_; have HB := n5_; clear n0_ n1_ n2_ n3_ n4_ n5_; replace HO473 := am (Kd.R_drew HO473.out); replace HO476 := am (Kd.R_drew HO476.out); replace BK467 := am (blk_drew BK467.out); replace BK478 := am (blk_drew BK478.out); replace HI470 := am (IsS108.drew HI470.out); replace HB := am (below_drew1 HB.out)
 refine st (n := 6) (S := fun w' => w'.cell? ⟨gb478, 0, none⟩ = some (.slice Ao9 t471.length co9) ∧ w'.cell? ⟨gb478, 1, none⟩ = some (.slice Ao13 t474.length co13)) (ds := []) ⟨(blk_cell BK478.out 0).trans rfl, (blk_cell BK478.out 1).trans rfl⟩ (fun hHeld => ?_)
 generalize w14.drew = w15 at HO473 HO476 BK467 BK478 HI470 HB hHeld ⊢
 refine pk 1 11 ?_
 refine kk2 0 10 hHeld ?_
 refine kk2 2 12 hHeld ?_
 refine ok1 3 13 (fun K hK => ?_)
 refine goes_ Try.func83 (by kernel_rfl) rfl #[.pointer (some ⟨g470, 0, none⟩), .agg #[.slice Ao9 t471.length co9, .slice Ao13 t474.length co13]] (by rfl) rfl rfl mq ?_
 with_reducible refine (spec_l13Of.calls k g470 t468 t477 _ _ t471 _ _ t474 t479 t480 w _ ?side1 ?side2 ?side3 ?side4 ?side5 ?side6 A4.out).mono ?_
 (case side1 => repeat (first | (with_reducible first | exact HI470.out | apply IsS108.alloc | apply IsS108.drewN | apply IsS108.drew | apply IsS108.set_1 | refine IsS108.far ?_ NB470_467.out _ | refine IsS108.far ?_ NB470_478.out _) | exact HI470.out)); (case side2 => repeat (first | (with_reducible first | exact HB.out | apply below_alloc | apply pw_below_drewN | apply below_drew1 | refine below_set ?_ (IsS108.ge HI470.out) | refine below_set ?_ GE467.out | refine below_set ?_ GE478.out) | exact HB.out)); (case side3 => exact Kd.C_foot_own (IsS108.apart (show IsS108 w _ g470 t468 t477 from by repeat (first | (with_reducible first | exact HI470.out | apply IsS108.alloc | apply IsS108.drewN | apply IsS108.drew | apply IsS108.set_1 | refine IsS108.far ?_ NB470_467.out _ | refine IsS108.far ?_ NB470_478.out _) | exact HI470.out)) (rq HO473.out) (by decide)) (fun _ h_ => h_.2)); (case side4 => exact (Kd.R_reads' HO473.out).2.1); (case side5 => exact Kd.C_foot_own (IsS108.apart (show IsS108 w _ g470 t468 t477 from by repeat (first | (with_reducible first | exact HI470.out | apply IsS108.alloc | apply IsS108.drewN | apply IsS108.drew | apply IsS108.set_1 | refine IsS108.far ?_ NB470_467.out _ | refine IsS108.far ?_ NB470_478.out _) | exact HI470.out)) (rq HO476.out) (by decide)) (fun _ h_ => h_.2)); (case side6 => exact (Kd.R_reads' HO476.out).2.1)
 rintro e w16 ⟨rfl, hi, hb, hk⟩
 refine ⟨_, rfl, ?_⟩
 replace BK467 := am (KeepBut.blk hk (g' := gb467) (o := .cells #[.slice none 0 0, .slice none 0 0] 55 (0, 0)) (bq BK467.out) NB467_470.out (by simp))
 replace HO473 := am (Kd.R_mono (Kd.R_keep (IsS108.apart (show IsS108 w _ g470 t468 t477 from by repeat (first | (with_reducible first | exact HI470.out | apply IsS108.alloc | apply IsS108.drewN | apply IsS108.drew | apply IsS108.set_1 | refine IsS108.far ?_ NB470_467.out _ | refine IsS108.far ?_ NB470_478.out _) | exact HI470.out)) (rq HO473.out) (by decide)) hk (fun _ h => h.2)) (fun _ h => h.1))
 replace HO476 := am (Kd.R_mono (Kd.R_keep (IsS108.apart (show IsS108 w _ g470 t468 t477 from by repeat (first | (with_reducible first | exact HI470.out | apply IsS108.alloc | apply IsS108.drewN | apply IsS108.drew | apply IsS108.set_1 | refine IsS108.far ?_ NB470_467.out _ | refine IsS108.far ?_ NB470_478.out _) | exact HI470.out)) (rq HO476.out) (by decide)) hk (fun _ h => h.2)) (fun _ h => h.1))
 replace BK478 := am (KeepBut.blk hk (g' := gb478) (o := .cells #[.slice Ao9 t471.length co9, .slice Ao13 t474.length co13] 55 (0, 0)) (bq BK478.out) NB478_470.out (by simp))
 replace HB := am (hb); replace HI470 := am (hi)
 (try clear hb)
 (try clear hb2)
 (try clear hk)
 (try clear hi)
 refine hK.out _ _ ⟨(blk_cell BK478.out 0).trans rfl, (blk_cell BK478.out 1).trans rfl⟩ (fun hHeld => ?_)
 clear hK K
 refine norm_ (a' := ?_) ?_ ?_
 rotate_left
 ·show Act.put _ (some 13) _ = _
  simp only [Act.put, List.setIfInBounds_toArray, List.set_cons_zero, List.set_cons_succ, i64_w, i32_w]
  rfl
 refine one_ (i := 4) (N := none) #[true, true, true, true, true, false] rfl rfl (by kernel_rfl) (by decide) (fun K hK => ?_)
 have hs17 : w16.cell? ⟨gb467, 0, none⟩ = some (.slice none 0 0) := (blk_cell BK467.out 0).trans rfl
 have hfs17 := bf BK467.out 0; have hns17_1 := NB478_467.out; have hms17_1 := NB467_478.out
 have hs18 : w16.cell? ⟨gb467, 1, none⟩ = some (.slice none 0 0) := (blk_cell BK467.out 1).trans rfl
 have hfs18 := bf BK467.out 1; have hns18_1 := NB478_467.out; have hms18_1 := NB467_478.out
 refine skip_ (w1 := ?_) (by rfl) rfl ?_ ?_
 rotate_left
 ·go_simp
  rfl
 refine hK.out _ _ ⟨((cell_far (p := ⟨gb467, _, none⟩) NB478_467.out _).trans (((cell_far (p := ⟨gb467, _, none⟩) NB478_467.out _).trans (hHeld.1)))), ((cell_far (p := ⟨gb467, _, none⟩) NB478_467.out _).trans (((cell_far (p := ⟨gb467, _, none⟩) NB478_467.out _).trans (hHeld.2))))⟩ (fun hHeld => ?_)
 clear hK K
 refine pk 5 3 ?_
 refine done_ (by kernel_rfl) ?_
 try go_wp2
 refine bodyPost_ret (results_ct rfl _ _ gb467 55 #[.slice Ao9 t471.length co9, .slice Ao13 t474.length co13] (0, 0) _ rfl (by (with_reducible repeat (first | refine blk_drewN ?_ _ | refine blk_drew ?_ | refine blk_alloc ?_ _)); refine blk_put (cs := #[.slice Ao9 t471.length co9, .slice none 0 0]) ?_ 1 _ rfl; (with_reducible repeat (first | refine blk_drewN ?_ _ | refine blk_drew ?_ | refine blk_alloc ?_ _)); refine blk_put (cs := #[.slice none 0 0, .slice none 0 0]) ?_ 0 _ rfl; (with_reducible repeat (first | refine blk_drewN ?_ _ | refine blk_drew ?_ | refine blk_alloc ?_ _)); exact BK467.out) Try.underlying55 rfl (by kernel_rfl)) rfl ?_
 exact ⟨_, _, eq_, by (with_reducible repeat (first | apply Kd.R_alloc | apply Kd.R_drewN | apply Kd.R_drew)); exact Kd.R_mono (Kd.R_far (p := ⟨gb467, 1, none⟩) (Kd.R_far (p := ⟨gb467, 0, none⟩) (Kd.R_types HO473.out BK467.out (by decide)) (fun _ hk => hk.2) (.slice Ao9 t471.length co9)) (fun _ hk => hk.2) (.slice Ao13 t474.length co13)) (fun _ hk => trivial), by (with_reducible repeat (first | apply Kd.R_alloc | apply Kd.R_drewN | apply Kd.R_drew)); exact Kd.R_mono (Kd.R_far (p := ⟨gb467, 1, none⟩) (Kd.R_far (p := ⟨gb467, 0, none⟩) (Kd.R_types HO476.out BK467.out (by decide)) (fun _ hk => hk.2) (.slice Ao9 t471.length co9)) (fun _ hk => hk.2) (.slice Ao13 t474.length co13)) (fun _ hk => trivial), b64_⟩

/-! ### spec_DrawBookStems: function 45 -/
def spec_DrawBookStems.f (k : Nat) (l0 : List Int) : Option ((List (S44)) × (List (S31)) × ByteArray) := (spec_DrawBookKnows.f k l0).bind fun bt482 => (some (bt482.1, bt482.2.1, bt482.2.2))
theorem spec_DrawBookStems.mono : ∀ a0 k, LeO (spec_DrawBookStems.f k a0) (spec_DrawBookStems.f (k + 1) a0) := by
 intro a0 k
 unfold spec_DrawBookStems.f
 repeat' first | (with_reducible first | exact spec_DrawBookKnows.mono _ _ | exact LeO.refl _ | exact LeO.none _ | refine LeO.ite ?_ ?_ | refine LeO.bind ?_ (fun _ => ?_)) | exact spec_DrawBookKnows.mono _ _ | exact LeO.none _ | refine LeO.ite ?_ ?_ | refine LeO.bind ?_ (fun _ => ?_)
set_option maxHeartbeats 8000000 in
set_option maxRecDepth 100000 in
theorem spec_DrawBookStems.calls (k : Nat) (A0 : Option Addr) (c0 : Nat) (l0 : List Int) (r1 : List (S44)) (r2 : List (S31)) (r3 : ByteArray) (w : World) (hr0 : Kd.C (Kd.int .u8) w A0 l0.length l0) (hc0 : l0.length ≤ c0) (h : spec_DrawBookStems.f k l0 = some (r1, r2, r3)) :
  Calls Try.prog 45 #[.slice A0 l0.length c0] w fun e w' => ∃ v0_ v1_ : Value, e = .returned (.tuple #[.agg #[v0_, v1_], .string r3]) ∧ Kd.R k44 44 w' w.heap.size (fun _ => True) v0_ r1 ∧ Kd.R k31 31 w' w.heap.size (fun _ => True) v1_ r2 ∧ Below w.heap.size w w' := by
 have hu55 := Try.underlying55; have HR0 := am hr0; have HC0 := am hc0; clear hr0 hc0; have HB := am (Below.refl w.heap.size w)
 have H : ((spec_DrawBookKnows.f k l0).bind fun bt482 => (some (bt482.1, bt482.2.1, bt482.2.2))) = some (r1, r2, r3) := h
 clear h; replace H := Option.bind_eq_some_iff.mp H; obtain ⟨⟨t482, t485, t488⟩, A20, H⟩ := H; replace H : (some (t482, t485, t488)) = some (r1, r2, r3) := H; have A2 := Aside0.mk A20; clear A20
 simp only [Option.some.injEq, Prod.mk.injEq] at H
 obtain ⟨rfl, rfl, rfl⟩ := H; go_enter Try.func45, Try.ntmps45
 go_wp2_with (first | ((with_reducible refine gate_dst (N := 2) rfl ?_); refine bx 2 (cs := #[.slice none 0 0, .slice none 0 0]) (t := 55) ?_; intro gb481 hg w3 hbox hb; have BK481 := am (hbox); have GW481 := am ((b20_ : w.heap.size ≤ gb481)); have GE481 := am ((b20_ : w.heap.size ≤ gb481)); replace HB := am (below_step bel hb); clear hb hbox hg) | ((with_reducible refine gate_callee (f := 42) rfl ?_); refine goesL_ (some 5) rfl rfl Try.func42 (by kernel_rfl) rfl #[.slice A0 l0.length c0] rfl mq ?_; (with_reducible refine (spec_DrawBookKnows.calls k _ _ l0 t482 t485 t488 _ ?side1 ?side2 A2.out).mono ?_); (case side1 => exact cq (Kd.C_below HR0.out HB.out)); (case side2 => exact HC0.out); rintro e w4 ⟨v483, v486, rfl, ho0, ho1, hb⟩; refine ⟨_, rfl, ?_⟩; have HO484 := am (Kd.R_lower ho0 (below_size (bel1 GE481.out))); have HO487 := am (Kd.R_lower ho1 (below_size (bel1 GE481.out))); replace BK481 := am (blk_below (g := gb481) (o := .cells #[.slice none 0 0, .slice none 0 0] 55 (0, 0)) (bq BK481.out) hb); replace HB := am (below_step (bel1 GE481.out) hb); (try clear hb); (try clear hb2); (try clear hk); (try clear hi); (try clear ho0); (try clear ho1); obtain ⟨Ao5, co5, eo5⟩ := Kd.R_slice HO484.out; subst eo5; have hcz6_0 := bc BK481.out 0; have hcz6_1 := bc BK481.out 1; have hfz6_0 := bf BK481.out 0; have hfz6_1 := bf BK481.out 1; obtain ⟨Ao7, co7, eo7⟩ := Kd.R_slice HO487.out; subst eo7))
 refine bodyPost_ret (results_ct rfl _ _ gb481 55 #[.slice Ao5 t482.length co5, .slice Ao7 t485.length co7] (0, 0) _ rfl (by (with_reducible repeat (first | refine blk_drewN ?_ _ | refine blk_drew ?_ | refine blk_alloc ?_ _)); refine blk_put (cs := #[.slice Ao5 t482.length co5, .slice none 0 0]) ?_ 1 _ rfl; (with_reducible repeat (first | refine blk_drewN ?_ _ | refine blk_drew ?_ | refine blk_alloc ?_ _)); refine blk_put (cs := #[.slice none 0 0, .slice none 0 0]) ?_ 0 _ rfl; (with_reducible repeat (first | refine blk_drewN ?_ _ | refine blk_drew ?_ | refine blk_alloc ?_ _)); exact BK481.out) Try.underlying55 rfl (by kernel_rfl)) rfl ?_
 exact ⟨_, _, eq_, by (with_reducible repeat (first | apply Kd.R_alloc | apply Kd.R_drewN | apply Kd.R_drew)); exact Kd.R_mono (Kd.R_far (p := ⟨gb481, 1, none⟩) (Kd.R_far (p := ⟨gb481, 0, none⟩) (Kd.R_types HO484.out BK481.out (by decide)) (fun _ hk => hk.2) (.slice Ao5 t482.length co5)) (fun _ hk => hk.2) (.slice Ao7 t485.length co7)) (fun _ hk => trivial), by (with_reducible repeat (first | apply Kd.R_alloc | apply Kd.R_drewN | apply Kd.R_drew)); exact Kd.R_mono (Kd.R_far (p := ⟨gb481, 1, none⟩) (Kd.R_far (p := ⟨gb481, 0, none⟩) (Kd.R_types HO487.out BK481.out (by decide)) (fun _ hk => hk.2) (.slice Ao5 t482.length co5)) (fun _ hk => hk.2) (.slice Ao7 t485.length co7)) (fun _ hk => trivial), bel1 GE481.out⟩

end Go.Proofs.Ytedfcehhgbeibaa.QFnBookStems

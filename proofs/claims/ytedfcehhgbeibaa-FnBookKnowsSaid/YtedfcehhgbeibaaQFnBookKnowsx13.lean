import Derived.Test.YtedfcehhgbeibaaQFnBookKnowsx0
import Derived.Test.YtedfcehhgbeibaaQFnBookKnowsx11
import Derived.Test.YtedfcehhgbeibaaQFnBookKnowsx12
import Derived.Test.YtedfcehhgbeibaaVMSh2
namespace Go.Proofs.Ytedfcehhgbeibaa.QFnBookKnows
open Go.RowKit Go.Proofs.YtedfcehhgbeibaaW.PrintWords Go.Proofs.YtedfcehhgbeibaaW.PrintLast Go.Proofs.YtedfcehhgbeibaaW.PrintMore Go.Proofs.Ytedfcehhgbeibaa.Sh
attribute [local go_sem] max2_int min2_int max_two min_two max_three min_three max_four min_four   -- for this text's walks alone
set_option linter.unusedVariables false
set_option linter.unusedSimpArgs false
-- shrunk

/-! ### spec_l2One: function 91 -/
mutual
def spec_l2One.l0 : Nat → List (S44) → ByteArray → Bool → List ByteArray → List ByteArray → Int → Option (List ByteArray)
 | 0, _, _, _, _, _, _ => none
 | k + 1, x0, x1, x2, x3, x9, x10 => if x10 < (x0.length : Int) then (if 0 ≤ x10 then (if (((rd_T44 x0 x10).f1) != x2) = true then (spec_l2One.j1 k x0 x1 x2 x3 x9 x10 true) else ((spec_l2Has.f k x1 ((rd_T44 x0 x10).f0)).bind fun t259 => (spec_l2One.j1 k x0 x1 x2 x3 x9 x10 (!t259)))) else (none)) else (some x9)
def spec_l2One.j1 : Nat → List (S44) → ByteArray → Bool → List ByteArray → List ByteArray → Int → Bool → Option (List ByteArray)
 | 0, _, _, _, _, _, _, _ => none
 | k + 1, x0, x1, x2, x3, x9, x10, x39 => if x39 = true then (spec_l2One.l0 k x0 x1 x2 x3 x9 (wrap64 (x10 + 1))) else (spec_l2One.l1 k x0 x1 x2 x3 x9 x10 0)
def spec_l2One.l1 : Nat → List (S44) → ByteArray → Bool → List ByteArray → List ByteArray → Int → Int → Option (List ByteArray)
 | 0, _, _, _, _, _, _, _ => none
 | k + 1, x0, x1, x2, x3, x9, x10, x11 => if x11 < (x3.length : Int) then (if 0 ≤ x10 then (if x10 < (x0.length : Int) then (if 0 ≤ x11 then ((spec_l2Do.f k ((rd_T44 x0 x10).f0) ((rd_T44 x0 x10).f1) ((rd_T44 x0 x10).f2) ((rd_T44 x0 x10).f3) ((rd_T44 x0 x10).f4) (rdOf ByteArray.empty x3 x11)).bind fun bt262 => (if bt262.2 = true then ((spec_l1Put.f k x9 bt262.1).bind fun t264 => (spec_l2One.l1 k x0 x1 x2 x3 t264 x10 (wrap64 (x11 + 1)))) else (spec_l2One.l1 k x0 x1 x2 x3 x9 x10 (wrap64 (x11 + 1))))) else (none)) else (none)) else (none)) else (spec_l2One.l0 k x0 x1 x2 x3 x9 (wrap64 (x10 + 1)))
end
def spec_l2One.f (k : Nat) (l0 : List (S44)) (a1 : ByteArray) (a2 : Bool) (l3 : List ByteArray) : Option (List ByteArray) := (some (([] : List ByteArray) : List ByteArray)).bind fun y251 => (if y251.length + l3.length < 8796093022208 then (spec_l2One.l0 k l0 a1 a2 l3 (y251 ++ l3) 0) else (none))
theorem spec_l2One.mono_l : ∀ k, (∀ y0 y1 y2 y3 y4 y5, LeO (spec_l2One.l0 k y0 y1 y2 y3 y4 y5) (spec_l2One.l0 (k + 1) y0 y1 y2 y3 y4 y5)) ∧ (∀ y0 y1 y2 y3 y4 y5 y6, LeO (spec_l2One.j1 k y0 y1 y2 y3 y4 y5 y6) (spec_l2One.j1 (k + 1) y0 y1 y2 y3 y4 y5 y6)) ∧ (∀ y0 y1 y2 y3 y4 y5 y6, LeO (spec_l2One.l1 k y0 y1 y2 y3 y4 y5 y6) (spec_l2One.l1 (k + 1) y0 y1 y2 y3 y4 y5 y6))
 | 0 => ⟨fun _ _ _ _ _ _ r h => by simp [spec_l2One.l0] at h, fun _ _ _ _ _ _ _ r h => by simp [spec_l2One.j1] at h, fun _ _ _ _ _ _ _ r h => by simp [spec_l2One.l1] at h⟩
 | k + 1 => by
  obtain ⟨ih0, ih1, ih2⟩ := spec_l2One.mono_l k
  refine ⟨?_, ?_, ?_⟩
  ·intro y0 y1 y2 y3 y4 y5
   unfold spec_l2One.l0
   repeat' first | (with_reducible first | exact ih0 _ _ _ _ _ _ | exact ih1 _ _ _ _ _ _ _ | exact ih2 _ _ _ _ _ _ _ | exact spec_l1Put.mono _ _ _ | exact spec_l2Do.mono _ _ _ _ _ _ _ | exact spec_l2Has.mono _ _ _ | exact LeO.refl _ | exact LeO.none _ | refine LeO.ite ?_ ?_ | refine LeO.bind ?_ (fun _ => ?_)) | exact ih0 _ _ _ _ _ _ | exact ih1 _ _ _ _ _ _ _ | exact ih2 _ _ _ _ _ _ _ | exact spec_l1Put.mono _ _ _ | exact spec_l2Do.mono _ _ _ _ _ _ _ | exact spec_l2Has.mono _ _ _ | exact LeO.none _ | refine LeO.ite ?_ ?_ | refine LeO.bind ?_ (fun _ => ?_)
  ·intro y0 y1 y2 y3 y4 y5 y6
   unfold spec_l2One.j1
   repeat' first | (with_reducible first | exact ih0 _ _ _ _ _ _ | exact ih1 _ _ _ _ _ _ _ | exact ih2 _ _ _ _ _ _ _ | exact spec_l1Put.mono _ _ _ | exact spec_l2Do.mono _ _ _ _ _ _ _ | exact spec_l2Has.mono _ _ _ | exact LeO.refl _ | exact LeO.none _ | refine LeO.ite ?_ ?_ | refine LeO.bind ?_ (fun _ => ?_)) | exact ih0 _ _ _ _ _ _ | exact ih1 _ _ _ _ _ _ _ | exact ih2 _ _ _ _ _ _ _ | exact spec_l1Put.mono _ _ _ | exact spec_l2Do.mono _ _ _ _ _ _ _ | exact spec_l2Has.mono _ _ _ | exact LeO.none _ | refine LeO.ite ?_ ?_ | refine LeO.bind ?_ (fun _ => ?_)
  ·intro y0 y1 y2 y3 y4 y5 y6
   unfold spec_l2One.l1
   repeat' first | (with_reducible first | exact ih0 _ _ _ _ _ _ | exact ih1 _ _ _ _ _ _ _ | exact ih2 _ _ _ _ _ _ _ | exact spec_l1Put.mono _ _ _ | exact spec_l2Do.mono _ _ _ _ _ _ _ | exact spec_l2Has.mono _ _ _ | exact LeO.refl _ | exact LeO.none _ | refine LeO.ite ?_ ?_ | refine LeO.bind ?_ (fun _ => ?_)) | exact ih0 _ _ _ _ _ _ | exact ih1 _ _ _ _ _ _ _ | exact ih2 _ _ _ _ _ _ _ | exact spec_l1Put.mono _ _ _ | exact spec_l2Do.mono _ _ _ _ _ _ _ | exact spec_l2Has.mono _ _ _ | exact LeO.none _ | refine LeO.ite ?_ ?_ | refine LeO.bind ?_ (fun _ => ?_)
theorem spec_l2One.mono : ∀ a0 a1 a2 a3 k, LeO (spec_l2One.f k a0 a1 a2 a3) (spec_l2One.f (k + 1) a0 a1 a2 a3) := by
 intro a0 a1 a2 a3 k; obtain ⟨ih0, ih1, ih2⟩ := spec_l2One.mono_l k
 unfold spec_l2One.f
 repeat' first | (with_reducible first | exact ih0 _ _ _ _ _ _ | exact ih1 _ _ _ _ _ _ _ | exact ih2 _ _ _ _ _ _ _ | exact spec_l1Put.mono _ _ _ | exact spec_l2Do.mono _ _ _ _ _ _ _ | exact spec_l2Has.mono _ _ _ | exact LeO.refl _ | exact LeO.none _ | refine LeO.ite ?_ ?_ | refine LeO.bind ?_ (fun _ => ?_)) | exact ih0 _ _ _ _ _ _ | exact ih1 _ _ _ _ _ _ _ | exact ih2 _ _ _ _ _ _ _ | exact spec_l1Put.mono _ _ _ | exact spec_l2Do.mono _ _ _ _ _ _ _ | exact spec_l2Has.mono _ _ _ | exact LeO.none _ | refine LeO.ite ?_ ?_ | refine LeO.bind ?_ (fun _ => ?_)
def spec_l2One.T9 : Bool × List (List Nat × List Nat) := (true, [([], []), ([], []), ([0, 1], [0, 1]), ([2], [2]), ([], []), ([], []), ([4, 5], [4, 5]), ([6], [6]), ([3, 7], [3, 7]), ([8], [8]), ([9], [9]), ([9], [9]), ([10, 8, 0, 1, 2, 3, 4, 5, 6, 7, 8, 9, 10], [10]), ([11, 12, 0, 1, 2, 3, 4, 5, 6, 7, 8, 9, 10, 11, 12], [11])])
def spec_l2One.B9 : List Nat := [0, 0, 3, 7, 0, 0, 48, 112, 255, 511, 1023, 1023, 2047, 8191]
theorem spec_l2One.tab9 : rtab .any (opsOf Try.f91 9) = spec_l2One.T9 := by kernel_rfl
theorem spec_l2One.bits9 : waitsOk spec_l2One.T9.2 spec_l2One.B9 = true := by kernel_rfl
set_option maxHeartbeats 8000000 in
set_option maxRecDepth 100000 in
theorem spec_l2One.calls (k : Nat) (A0 : Option Addr) (c0 : Nat) (l0 : List (S44)) (a1 : ByteArray) (a2 : Bool) (A3 : Option Addr) (c3 : Nat) (l3 : List ByteArray) (r : List ByteArray) (w : World) (hr0 : Kd.C k44 w A0 l0.length l0) (hc0 : l0.length ≤ c0) (hr3 : Kd.C Kd.string w A3 l3.length l3) (hc3 : l3.length ≤ c3) (h : spec_l2One.f k l0 a1 a2 l3 = some r) :
  Calls Try.prog 91 #[.slice A0 l0.length c0, .string a1, .bool a2, .slice A3 l3.length c3] w fun e w' => ∃ v0_ : Value, e = .returned (v0_) ∧ Kd.V Kd.string 9 w' w.heap.size (fun k_ => (w.heap.size ≤ k_)) v0_ r ∧ Below w.heap.size w w' := by
 have hu44 := Try.underlying44; have HR0 := am hr0; have HC0 := am hc0; clear hr0 hc0; have HR3 := am hr3; have HC3 := am hc3; clear hr3 hc3; have HB := am (Below.refl w.heap.size w)
 have H : ((some (([] : List ByteArray) : List ByteArray)).bind fun y251 => (if y251.length + l3.length < 8796093022208 then (spec_l2One.l0 k l0 a1 a2 l3 (y251 ++ l3) 0) else (none))) = some r := h
 clear h; obtain ⟨y251, hy251⟩ : ∃ y_ : List ByteArray, y_ = (([] : List ByteArray)) := ⟨_, rfl⟩
 replace H : (if y251.length + l3.length < 8796093022208 then (spec_l2One.l0 k l0 a1 a2 l3 (y251 ++ l3) 0) else (none)) = some r := by first | (rw [hy251]; with_reducible exact H) | (have H2_ := (Option.bind_some _ _).symm.trans H; rw [hy251]; with_reducible exact H2_) | (have H2_ := (Option.bind_some _ _).symm.trans H; with_reducible exact H2_) | with_reducible exact H | (rw [hy251]; exact H) | exact H
 have Ny251 := am hy251; clear hy251
 by_cases c5 : y251.length + l3.length < 8796093022208
 ·rw [if_pos c5] at H; have LMc5 := Aside0.mk c5; clear c5; obtain ⟨y254, hy254⟩ : ∃ y_ : List ByteArray, y_ = (y251 ++ l3) := ⟨_, rfl⟩
  replace H : (spec_l2One.l0 k l0 a1 a2 l3 y254 0) = some r := by first | (rw [hy254]; with_reducible exact H) | (have H2_ := (Option.bind_some _ _).symm.trans H; rw [hy254]; with_reducible exact H2_) | (have H2_ := (Option.bind_some _ _).symm.trans H; with_reducible exact H2_) | with_reducible exact H | (rw [hy254]; exact H) | exact H
  have Ny254 := am hy254; clear hy254
  have H' := am H
  clear H; go_enter Try.func91, Try.ntmps91
  go_wp2_with (first | ((with_reducible refine gate_dst (N := 14) rfl ?_); refine Kd.R_lit Kd.string _ 9 ?hg (N := 14) ?hd (xs := ([] : List ByteArray)) (inner := []) (ok := fun _ => True) (okp := fun _ => True) ?hr ?hp (fun _ hk => hk) trivial (Below.refl _ _) (Nat.le_refl _) (by simp) ?_; (case hd => rfl); (case hg => rfl); (case hr => first | (go_simp; done) | (go_simp; rfl)); (case hp => exact (Reps.none _ _)); intro v252 w6 ho7 hb hg_ hnew_; clear hg_ hnew_; (first | rw [← Ny251.out] at ho7 | (simp only [Int.reduceToNat] at ho7; rw [← Ny251.out] at ho7) | (simp only [Int.toNat_natCast] at ho7; rw [← Ny251.out] at ho7)); have HO253 := am (Kd.R_lower (Kd.R_newM (M := fun k_ => (w.heap.size ≤ k_)) ho7 (below_size bel) (fun k_ h_ => h_)) (below_size bel)); replace HB := am (below_step bel hb); clear hb ho7) | ((with_reducible refine gate_builtin (b := .append) (xs := #[.tmp 14, .tmp 15]) rfl ?_); at_builtin; refine Kd.R_append_rows Kd.string (w0 := w) w.heap.size rfl (.tmp 14) (.tmp 15) 27 9 (.string ⟨#[]⟩) 16 rfl Try.underlying27 info9 rfl (by decide) (by omega) v252 y251 l3 _ _ _ (fun k_ => (w.heap.size ≤ k_)) (fun _ => False) rfl rfl ?aO ?aR (fun _ _ h => h) (fun _ h => h.elim) ?aF ?aB ?aS ?aL ?_; (case aR => exact cq (Kd.C_below HR3.out HB.out)); (case aB => exact bel); (case aF => exact (fun k_ hk => (Nat.le_trans (below_size bel) hk))); (case aO => exact (rq (Kd.R_mono HO253.out (fun _ hk => hk.1)))); (case aS => exact (below_size bel)); (case aL => have := LMc5.out; omega); intro v255 w8 ho hb hg hat; rw [← Ny254.out] at ho; replace HB := am (hb); have HO256 := am (ho); clear HO253; clear ho hb hg hat))
  go_loopg [9, 10] k (fun kq v9 v10 w' => ∃ (x9_1 : List ByteArray) (x10_1 : Int), v10 = .int .i64 x10_1 ∧ Aside0 (spec_l2One.l0 kq l0 a1 a2 l3 x9_1 x10_1 = some r) ∧ Aside0 (kq ≤ k) ∧ Aside0 (Kd.V Kd.string 9 w' w.heap.size (fun k_ => (w.heap.size ≤ k_)) v9 x9_1) ∧ Aside0 (Below w.heap.size w w'))
  case atStart => exact ⟨(y254), (0), sq, H', ⟨Nat.le_refl _⟩, ⟨Kd.R_V (rq HO256.out)⟩, ⟨bel⟩⟩
  case round =>
   clear H'; (try clear p2); (try clear c3); (try clear c5); obtain ⟨x9_1, x10_1, rfl, HA, HK1, HO_9, HB⟩ := hrel
   cases gk with
   | zero => exact absurd HA.out (by simp [spec_l2One.l0])
   | succ k1 =>
    have H := HA.out; clear HA
    simp only [spec_l2One.l0] at H
    by_cases c9 : x10_1 < (l0.length : Int)
    ·rw [if_pos c9] at H; have c9b0 := decide_eq_true c9; clear c9; have HC10 := am H; clear H
     go_upto_region 5 with (fail)
     go_cut [39] (fun v39 wc => ∃ (kq : Nat) (x39_9 : Bool), v39 = .bool x39_9 ∧ Aside0 (spec_l2One.j1 kq l0 a1 a2 l3 x9_1 x10_1 x39_9 = some r) ∧ Aside0 (kq ≤ k1) ∧ Aside0 (Kd.V Kd.string 9 wc w.heap.size (fun k_ => (w.heap.size ≤ k_)) u9 x9_1) ∧ Aside0 (Below w.heap.size w wc))
     case first =>
      have H := HC10.out; clear HC10
      by_cases c11 : 0 ≤ x10_1
      ·rw [if_pos c11] at H; have c11b0 := decide_eq_true c11; clear c11
       (first | rw [c11b0] | (simp only [i64_w, i32_w]; rw [c11b0]) | skip)
       by_cases c12 : (((rd_T44 l0 x10_1).f1) != a2) = true
       ·rw [if_pos c12] at H
        have c12b0 : (((rd_T44 l0 x10_1).f1) != a2) = true := c12
        (try (have c12b1 : decide (((rd_T44 l0 x10_1).f1) = a2) = false := by simpa using c12))
        (try (have c12b2 : (((rd_T44 l0 x10_1).f1) == a2) = false := by simpa using c12))
        (try (have c12b3 : ¬ (((rd_T44 l0 x10_1).f1) = a2) := by simpa using c12))
        clear c12
        have H' := am H
        clear H
        have p257 : 0 ≤ (x10_1 : Int) := of_decide_eq_true ad
        have q257 : x10_1 < (l0.length : Int) := of_decide_eq_true ad
        obtain ⟨ad257, e257, hx257_0, hx257_1, hx257_2, hx257_3, hx257_4⟩ := at_T44 HR0.out x10_1 p257 q257
        cases e257
        replace hx257_0 := kp HB.out hx257_0; replace hx257_1 := kp HB.out hx257_1; replace hx257_2 := kp HB.out hx257_2; replace hx257_3 := kp HB.out hx257_3; replace hx257_4 := kp HB.out hx257_4; replace p257 := eq_true p257; replace q257 := eq_true q257; go_wp2
        go_meet
        case rel => exact ⟨_, (true), sq, H', ⟨b74_⟩, ⟨vq HO_9.out⟩, ⟨bel⟩⟩
       ·rw [if_neg c12] at H
        have c12b0 : (((rd_T44 l0 x10_1).f1) != a2) = false := by simpa using c12
        (try (have c12b1 : decide (((rd_T44 l0 x10_1).f1) = a2) = true := by simpa using c12))
        (try (have c12b2 : (((rd_T44 l0 x10_1).f1) == a2) = true := by simpa using c12))
        clear c12; replace H := Option.bind_eq_some_iff.mp H; obtain ⟨t259, A130, H⟩ := H; replace H : (spec_l2One.j1 k1 l0 a1 a2 l3 x9_1 x10_1 (!t259)) = some r := H; have A13 := Aside0.mk A130; clear A130
        have H' := am H
        clear H
        have p257 : 0 ≤ (x10_1 : Int) := of_decide_eq_true ad
        have q257 : x10_1 < (l0.length : Int) := of_decide_eq_true ad
        obtain ⟨ad257, e257, hx257_0, hx257_1, hx257_2, hx257_3, hx257_4⟩ := at_T44 HR0.out x10_1 p257 q257
        cases e257
        replace hx257_0 := kp HB.out hx257_0; replace hx257_1 := kp HB.out hx257_1; replace hx257_2 := kp HB.out hx257_2; replace hx257_3 := kp HB.out hx257_3; replace hx257_4 := kp HB.out hx257_4; replace p257 := eq_true p257; replace q257 := eq_true q257
        have p258 : 0 ≤ (x10_1 : Int) := of_decide_eq_true ad
        have q258 : x10_1 < (l0.length : Int) := of_decide_eq_true ad
        obtain ⟨ad258, e258, hx258_0, hx258_1, hx258_2, hx258_3, hx258_4⟩ := at_T44 HR0.out x10_1 p258 q258
        obtain rfl : ad257 = ad258 := (by injection e258)
        replace hx258_0 := kp HB.out hx258_0; replace hx258_1 := kp HB.out hx258_1; replace hx258_2 := kp HB.out hx258_2; replace hx258_3 := kp HB.out hx258_3; replace hx258_4 := kp HB.out hx258_4; replace p258 := eq_true p258; replace q258 := eq_true q258
        go_wp2_with (first | (go_at_call 110; (with_reducible refine (spec_l2Has.calls k1 a1 ((rd_T44 l0 x10_1).f0) t259 _ A13.out).mono ?_); rintro e w' ⟨rfl, ⟨nd, rfl⟩⟩))
        go_meet
        case rel => exact ⟨_, (!t259), sq, H', ⟨b74_⟩, ⟨vq HO_9.out⟩, ⟨bel⟩⟩
      ·rw [if_neg c11] at H
       exact absurd H (by simp)
     case rest =>
      clear HC10; (try clear c1); (try clear p2); (try clear q2); (try clear hx2); (try clear c3); (try clear c5); (try clear c9); (try clear c9b0); (try clear c11); (try clear c11b0); (try clear c12); (try clear c12b0); (try clear c12b1); (try clear c12b2); (try clear hx257_0); (try clear hx257_1); (try clear hx257_2); (try clear hx257_3); (try clear hx257_4); (try clear hx258_0); (try clear hx258_1); (try clear hx258_2); (try clear hx258_3); (try clear hx258_4); (try clear p2); (try clear p257); (try clear p258); (try clear q257); (try clear q258); obtain ⟨kq, x39_9, rfl, HA, HJ9, HO_9, HB⟩ := hcut
      cases kq with
      | zero => exact absurd HA.out (by simp [spec_l2One.j1])
      | succ kj9 =>
       have H := HA.out; clear HA
       simp only [spec_l2One.j1] at H
       by_cases c14 : x39_9 = true
       ·subst c14
        have H1 : (spec_l2One.l0 kj9 l0 a1 a2 l3 x9_1 (wrap64 (x10_1 + 1))) = some r := b34_
        replace H := H1; clear H1
        have H' := am H
        clear H; go_wp2
        go_roundg kj9
        case measure => have := HK1.out; have := HJ9.out; omega
        case rel => exact ⟨(x9_1), (wrap64 (x10_1 + 1)), sq, H', ⟨by have := HK1.out; have := HJ9.out; omega⟩, ⟨vq HO_9.out⟩, ⟨bel⟩⟩
       ·replace c14 := Bool.eq_false_iff.mpr c14; subst c14
        have H1 : (spec_l2One.l1 kj9 l0 a1 a2 l3 x9_1 x10_1 0) = some r := b19_
        replace H := H1; clear H1
        have H' := am H
        clear H; go_wp2
        go_loopg [9, 11] kj9 (fun kq v9 v11 w' => ∃ (x9_3 : List ByteArray) (x11_3 : Int), v11 = .int .i64 x11_3 ∧ Aside0 (spec_l2One.l1 kq l0 a1 a2 l3 x9_3 x10_1 x11_3 = some r) ∧ Aside0 (kq ≤ kj9) ∧ Aside0 (Kd.V Kd.string 9 w' w.heap.size (fun k_ => (w.heap.size ≤ k_)) v9 x9_3) ∧ Aside0 (Below w.heap.size w w'))
        case atStart => exact ⟨(x9_1), (0), sq, H', ⟨Nat.le_refl _⟩, ⟨vq HO_9.out⟩, ⟨bel⟩⟩
        case round =>
         clear H'; (try clear c1); (try clear p2); (try clear q2); (try clear hx2); (try clear c3); (try clear c5); (try clear p6); (try clear c9); (try clear c9b0); (try clear c11); (try clear c11b0); (try clear c12); (try clear c12b0); (try clear c12b1); (try clear c12b2); (try clear c14); (try clear hx257_0); (try clear hx257_1); (try clear hx257_2); (try clear hx257_3); (try clear hx257_4); (try clear hx258_0); (try clear hx258_1); (try clear hx258_2); (try clear hx258_3); (try clear hx258_4); (try clear p2); (try clear p257); (try clear p258); (try clear q2); (try clear q257); (try clear q258); obtain ⟨x9_3, x11_3, rfl, HA, HK3, HO_9, HB⟩ := hrel
         cases gk with
         | zero => exact absurd HA.out (by simp [spec_l2One.l1])
         | succ k3 =>
          have H := HA.out; clear HA
          simp only [spec_l2One.l1] at H
          by_cases c15 : x11_3 < (l3.length : Int)
          ·rw [if_pos c15] at H; have c15b0 := decide_eq_true c15; clear c15
           by_cases c16 : 0 ≤ x10_1
           ·rw [if_pos c16] at H; have c16b0 := decide_eq_true c16; clear c16
            by_cases c17 : x10_1 < (l0.length : Int)
            ·rw [if_pos c17] at H; have c17b0 := decide_eq_true c17; clear c17
             by_cases c18 : 0 ≤ x11_3
             ·rw [if_pos c18] at H; have c18b0 := decide_eq_true c18; clear c18; replace H := Option.bind_eq_some_iff.mp H; obtain ⟨⟨t262, t263⟩, A190, H⟩ := H; replace H : (if t263 = true then ((spec_l1Put.f k3 x9_3 t262).bind fun t264 => (spec_l2One.l1 k3 l0 a1 a2 l3 t264 x10_1 (wrap64 (x11_3 + 1)))) else (spec_l2One.l1 k3 l0 a1 a2 l3 x9_3 x10_1 (wrap64 (x11_3 + 1)))) = some r := H; have A19 := Aside0.mk A190; clear A190
              by_cases c20 : t263 = true
              ·subst c20
               have H1 : ((spec_l1Put.f k3 x9_3 t262).bind fun t264 => (spec_l2One.l1 k3 l0 a1 a2 l3 t264 x10_1 (wrap64 (x11_3 + 1)))) = some r := b34_
               replace H := H1; clear H1
               replace H := Option.bind_eq_some_iff.mp H; obtain ⟨t264, A210, H⟩ := H; replace H : (spec_l2One.l1 k3 l0 a1 a2 l3 t264 x10_1 (wrap64 (x11_3 + 1))) = some r := H; have A21 := Aside0.mk A210; clear A210
               have H' := am H
               clear H
               try go_wp2
               replace HO_9 := am (Kd.V_drew HO_9.out); replace HB := am (below_drew1 HB.out)
               have p260 : 0 ≤ (x10_1 : Int) := of_decide_eq_true ad
               have q260 : x10_1 < (l0.length : Int) := of_decide_eq_true ad
               obtain ⟨ad260, e260, hx260_0, hx260_1, hx260_2, hx260_3, hx260_4⟩ := at_T44 HR0.out x10_1 p260 q260; have hw260_4 := hx260_4; have hw260_3 := hx260_3; have hw260_2 := hx260_2; have hw260_1 := hx260_1; have hw260_0 := hx260_0
               cases e260
               replace hx260_0 := kp HB.out hx260_0; replace hx260_1 := kp HB.out hx260_1; replace hx260_2 := kp HB.out hx260_2; replace hx260_3 := kp HB.out hx260_3; replace hx260_4 := kp HB.out hx260_4; replace p260 := eq_true p260; replace q260 := eq_true q260
               have p261 : 0 ≤ (x11_3 : Int) := of_decide_eq_true ad
               have q261 : x11_3 < (l3.length : Int) := of_decide_eq_true ad
               obtain ⟨ad261, e261, hx261_0⟩ := Kd.at_string HR3.out x11_3 p261 q261; have hw261_0 := hx261_0
               cases e261
               replace hx261_0 := kp HB.out hx261_0; replace p261 := eq_true p261; replace q261 := eq_true q261
               refine st (n := 14) (S := fun w' => w'.cell? (ad260.add ((x10_1).toNat * 5)) = some (.string ((rd_T44 l0 x10_1).f0)) ∧ w'.cell? ⟨(ad260.add ((x10_1).toNat * 5)).block, (ad260.add ((x10_1).toNat * 5)).off + 1, none⟩ = some (.bool ((rd_T44 l0 x10_1).f1)) ∧ w'.cell? ⟨(ad260.add ((x10_1).toNat * 5)).block, (ad260.add ((x10_1).toNat * 5)).off + 2, none⟩ = some (.string ((rd_T44 l0 x10_1).f2)) ∧ w'.cell? ⟨(ad260.add ((x10_1).toNat * 5)).block, (ad260.add ((x10_1).toNat * 5)).off + 3, none⟩ = some (.string ((rd_T44 l0 x10_1).f3)) ∧ w'.cell? ⟨(ad260.add ((x10_1).toNat * 5)).block, (ad260.add ((x10_1).toNat * 5)).off + 4, none⟩ = some (.string ((rd_T44 l0 x10_1).f4)) ∧ w'.cell? (ad261.add (x11_3).toNat) = some (.string (rdOf ByteArray.empty l3 x11_3))) (ds := []) ⟨(kp HB.out hw260_0), (kp HB.out hw260_1), (kp HB.out hw260_2), (kp HB.out hw260_3), (kp HB.out hw260_4), (kp HB.out hw261_0)⟩ (fun hHeld => ?_); refine with_tabW spec_l2One.tab9 spec_l2One.bits9 (fun HT_ HW_ => ?_)
               generalize wr.drew = w22 at HO_9 HB hx260_0 hx260_1 hx260_2 hx260_3 hx260_4 hx261_0 hHeld ⊢
               refine pu 0 47 ?_
               refine pu 1 48 ?_
               refine pu 2 49 ?_
               refine pu 4 51 ?_
               refine pu 5 52 ?_
               refine pu 6 53 ?_
               refine tk6 3 50 hHeld ?_
               refine tk6 7 54 hHeld ?_
               refine on1 8 55 (fun K hK => ?_)
               refine goes_ Try.func111 (by kernel_rfl) rfl #[.agg #[.string ((rd_T44 l0 x10_1).f0), .bool ((rd_T44 l0 x10_1).f1), .string ((rd_T44 l0 x10_1).f2), .string ((rd_T44 l0 x10_1).f3), .string ((rd_T44 l0 x10_1).f4)], .string (rdOf ByteArray.empty l3 x11_3)] (by rfl) rfl rfl mq ?_
               with_reducible refine (spec_l2Do.calls k3 ((rd_T44 l0 x10_1).f0) ((rd_T44 l0 x10_1).f1) ((rd_T44 l0 x10_1).f2) ((rd_T44 l0 x10_1).f3) ((rd_T44 l0 x10_1).f4) (rdOf ByteArray.empty l3 x11_3) t262 true _ A19.out).mono ?_
               rintro e w23 ⟨rfl, hb⟩
               refine ⟨_, rfl, ?_⟩
               replace HO_9 := am (Kd.V_below (vq HO_9.out) hb); replace HB := am (below_step bel hb)
               (try clear hb)
               (try clear hb2)
               (try clear hk)
               (try clear hi)
               refine hK.out _ _ ⟨(kp HB.out hw260_0), (kp HB.out hw260_1), (kp HB.out hw260_2), (kp HB.out hw260_3), (kp HB.out hw260_4), (kp HB.out hw261_0)⟩ (fun hHeld => ?_)
               clear hK K
               refine norm_ (a' := ?_) ?_ ?_
               rotate_left
               ·show Act.put _ (some 55) _ = _
                simp only [Act.put, List.setIfInBounds_toArray, List.set_cons_zero, List.set_cons_succ, i64_w, i32_w]
                rfl
               refine pu 9 46 ?_
               refine pu 10 56 ?_
               refine pu 11 57 ?_
               refine pu 12 12 ?_
               refine pu 13 13 ?_
               refine done_ (done_of HT_.out (by kernel_rfl)) ?_
               obtain ⟨Ao24, co24, eo24⟩ := Kd.V_slice HO_9.out; subst eo24
               try go_wp2_with (first | ((with_reducible refine gate_callee (f := 102) rfl ?_); refine goesL_ (some 61) rfl rfl Try.func102 (by kernel_rfl) rfl #[.slice Ao24 x9_3.length co24, .string t262] rfl mq ?_; (with_reducible refine (spec_l1Put.calls k3 (fun k_ => (w.heap.size ≤ k_)) _ _ x9_3 t262 t264 _ ?side1 A21.out).mono ?_); (case side1 => exact HO_9.out); rintro e w25 ⟨v265, rfl, ho0, hb⟩; refine ⟨_, rfl, ?_⟩; replace HO_9 := am (Kd.V_below (vq HO_9.out) hb); have HO266 := am (Kd.V_lower (Kd.V_mono (ok' := fun k_ => (w.heap.size ≤ k_)) ho0 (fun k_ hk_ => Or.elim hk_ (fun hs_ => hs_) (fun hn_ => (Nat.le_trans (below_size bel) hn_)))) (below_size bel)); replace HB := am (below_step bel hb); (try clear hb); (try clear hb2); (try clear hk); (try clear hi); (try clear ho0)))
               go_roundg k3
               case measure => have := HK1.out; have := HJ9.out; have := HK3.out; omega
               case rel => exact ⟨(t264), (wrap64 (x11_3 + 1)), sq, H', ⟨by have := HK1.out; have := HJ9.out; have := HK3.out; omega⟩, ⟨vq HO266.out⟩, ⟨bel⟩⟩
              ·replace c20 := Bool.eq_false_iff.mpr c20; subst c20
               have H1 : (spec_l2One.l1 k3 l0 a1 a2 l3 x9_3 x10_1 (wrap64 (x11_3 + 1))) = some r := b19_
               replace H := H1; clear H1
               have H' := am H
               clear H
               try go_wp2
               replace HO_9 := am (Kd.V_drew HO_9.out); replace HB := am (below_drew1 HB.out)
               have p260 : 0 ≤ (x10_1 : Int) := of_decide_eq_true ad
               have q260 : x10_1 < (l0.length : Int) := of_decide_eq_true ad
               obtain ⟨ad260, e260, hx260_0, hx260_1, hx260_2, hx260_3, hx260_4⟩ := at_T44 HR0.out x10_1 p260 q260; have hw260_4 := hx260_4; have hw260_3 := hx260_3; have hw260_2 := hx260_2; have hw260_1 := hx260_1; have hw260_0 := hx260_0
               cases e260
               replace hx260_0 := kp HB.out hx260_0; replace hx260_1 := kp HB.out hx260_1; replace hx260_2 := kp HB.out hx260_2; replace hx260_3 := kp HB.out hx260_3; replace hx260_4 := kp HB.out hx260_4; replace p260 := eq_true p260; replace q260 := eq_true q260
               have p261 : 0 ≤ (x11_3 : Int) := of_decide_eq_true ad
               have q261 : x11_3 < (l3.length : Int) := of_decide_eq_true ad
               obtain ⟨ad261, e261, hx261_0⟩ := Kd.at_string HR3.out x11_3 p261 q261; have hw261_0 := hx261_0
               cases e261
               replace hx261_0 := kp HB.out hx261_0; replace p261 := eq_true p261; replace q261 := eq_true q261
               refine st (n := 14) (S := fun w' => w'.cell? (ad260.add ((x10_1).toNat * 5)) = some (.string ((rd_T44 l0 x10_1).f0)) ∧ w'.cell? ⟨(ad260.add ((x10_1).toNat * 5)).block, (ad260.add ((x10_1).toNat * 5)).off + 1, none⟩ = some (.bool ((rd_T44 l0 x10_1).f1)) ∧ w'.cell? ⟨(ad260.add ((x10_1).toNat * 5)).block, (ad260.add ((x10_1).toNat * 5)).off + 2, none⟩ = some (.string ((rd_T44 l0 x10_1).f2)) ∧ w'.cell? ⟨(ad260.add ((x10_1).toNat * 5)).block, (ad260.add ((x10_1).toNat * 5)).off + 3, none⟩ = some (.string ((rd_T44 l0 x10_1).f3)) ∧ w'.cell? ⟨(ad260.add ((x10_1).toNat * 5)).block, (ad260.add ((x10_1).toNat * 5)).off + 4, none⟩ = some (.string ((rd_T44 l0 x10_1).f4)) ∧ w'.cell? (ad261.add (x11_3).toNat) = some (.string (rdOf ByteArray.empty l3 x11_3))) (ds := []) ⟨(kp HB.out hw260_0), (kp HB.out hw260_1), (kp HB.out hw260_2), (kp HB.out hw260_3), (kp HB.out hw260_4), (kp HB.out hw261_0)⟩ (fun hHeld => ?_); refine with_tabW spec_l2One.tab9 spec_l2One.bits9 (fun HT_ HW_ => ?_)
               generalize wr.drew = w26 at HO_9 HB hx260_0 hx260_1 hx260_2 hx260_3 hx260_4 hx261_0 hHeld ⊢
               refine pu 0 47 ?_
               refine pu 1 48 ?_
               refine pu 2 49 ?_
               refine pu 4 51 ?_
               refine pu 5 52 ?_
               refine pu 6 53 ?_
               refine tk6 3 50 hHeld ?_
               refine tk6 7 54 hHeld ?_
               refine on1 8 55 (fun K hK => ?_)
               refine goes_ Try.func111 (by kernel_rfl) rfl #[.agg #[.string ((rd_T44 l0 x10_1).f0), .bool ((rd_T44 l0 x10_1).f1), .string ((rd_T44 l0 x10_1).f2), .string ((rd_T44 l0 x10_1).f3), .string ((rd_T44 l0 x10_1).f4)], .string (rdOf ByteArray.empty l3 x11_3)] (by rfl) rfl rfl mq ?_
               with_reducible refine (spec_l2Do.calls k3 ((rd_T44 l0 x10_1).f0) ((rd_T44 l0 x10_1).f1) ((rd_T44 l0 x10_1).f2) ((rd_T44 l0 x10_1).f3) ((rd_T44 l0 x10_1).f4) (rdOf ByteArray.empty l3 x11_3) t262 false _ A19.out).mono ?_
               rintro e w27 ⟨rfl, hb⟩
               refine ⟨_, rfl, ?_⟩
               replace HO_9 := am (Kd.V_below (vq HO_9.out) hb); replace HB := am (below_step bel hb)
               (try clear hb)
               (try clear hb2)
               (try clear hk)
               (try clear hi)
               refine hK.out _ _ ⟨(kp HB.out hw260_0), (kp HB.out hw260_1), (kp HB.out hw260_2), (kp HB.out hw260_3), (kp HB.out hw260_4), (kp HB.out hw261_0)⟩ (fun hHeld => ?_)
               clear hK K
               refine norm_ (a' := ?_) ?_ ?_
               rotate_left
               ·show Act.put _ (some 55) _ = _
                simp only [Act.put, List.setIfInBounds_toArray, List.set_cons_zero, List.set_cons_succ, i64_w, i32_w]
                rfl
               refine pu 9 46 ?_
               refine pu 10 56 ?_
               refine pu 11 57 ?_
               refine pu 12 12 ?_
               refine pu 13 13 ?_
               refine done_ (done_of HT_.out (by kernel_rfl)) ?_
               try go_wp2
               go_roundg k3
               case measure => have := HK1.out; have := HJ9.out; have := HK3.out; omega
               case rel => exact ⟨(x9_3), (wrap64 (x11_3 + 1)), sq, H', ⟨by have := HK1.out; have := HJ9.out; have := HK3.out; omega⟩, ⟨vq HO_9.out⟩, ⟨bel⟩⟩
             ·rw [if_neg c18] at H
              exact absurd H (by simp)
            ·rw [if_neg c17] at H
             exact absurd H (by simp)
           ·rw [if_neg c16] at H
            exact absurd H (by simp)
          ·rw [if_neg c15] at H; have c15b0 := decide_eq_false c15; clear c15
           have H' := am H
           clear H; go_wp2
           go_roundg k3
           case measure => have := HK1.out; have := HJ9.out; have := HK3.out; omega
           case rel => exact ⟨(x9_3), (wrap64 (x10_1 + 1)), sq, H', ⟨by have := HK1.out; have := HJ9.out; have := HK3.out; omega⟩, ⟨vq HO_9.out⟩, ⟨bel⟩⟩
    ·rw [if_neg c9] at H; have c9b0 := decide_eq_false c9; clear c9; obtain rfl := Option.some.inj H; go_wp2; go_ret
     exact ⟨_, eq_, by (with_reducible repeat (first | apply Kd.V_alloc | apply Kd.V_drewN | apply Kd.V_drew)); exact HO_9.out, bel⟩
 ·rw [if_neg c5] at H
  exact absurd H (by simp)

end Go.Proofs.Ytedfcehhgbeibaa.QFnBookKnows

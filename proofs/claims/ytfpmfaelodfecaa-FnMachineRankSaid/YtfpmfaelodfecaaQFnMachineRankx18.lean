import Derived.Test.YtfpmfaelodfecaaQFnMachineRankx0
import Derived.Test.YtfpmfaelodfecaaQFnMachineRankx10
import Derived.Test.YtfpmfaelodfecaaQFnMachineRankx13
import Derived.Test.YtfpmfaelodfecaaQFnMachineRankx16
import Derived.Test.YtfpmfaelodfecaaVMSh2
namespace Go.Proofs.Ytfpmfaelodfecaa.QFnMachineRank
open Go.RowKit Go.Proofs.YtfpmfaelodfecaaW.PrintWords Go.Proofs.YtfpmfaelodfecaaW.PrintLast Go.Proofs.YtfpmfaelodfecaaW.PrintMore Go.Proofs.Ytfpmfaelodfecaa.Sh
attribute [local go_sem] max2_int min2_int max_two min_two max_three min_three max_four min_four
set_option linter.unusedVariables false
set_option linter.unusedSimpArgs false
set_option maxHeartbeats 8000000
set_option maxRecDepth 100000
-- shrunk

/-! ### spec_l13Words: function 109 -/
mutual
def spec_l13Words.l0 : Nat → List ByteArray → Int → List Int → Int → Option (List ByteArray × Int)
 | 0, _, _, _, _ => none
 | k + 1, x3, x4, x1000, x1001 => if x4 > 0 then ((spec_l13Word.f k x1000 x1001).bind fun bt410 => ((spec_l1Put.f k x3 bt410.1).bind fun t412 => (spec_l13Words.l0 k t412 (wrap64 (x4 - 1)) x1000 bt410.2))) else ((spec_l1Rd_pick.f k x1000 x1001 3).bind fun bt415 => (if bt415.1 = 0 then ((spec_l13Book.f k x1000 bt415.2).bind fun bt417 => ((spec_l2Words.f k bt417.1 bt417.2.1).bind fun t424 => (spec_l13Words.j1 k t424 x1000 bt417.2.2))) else (spec_l13Words.j1 k x3 x1000 bt415.2)))
def spec_l13Words.j1 : Nat → List ByteArray → List Int → Int → Option (List ByteArray × Int)
 | 0, _, _, _ => none
 | k + 1, x3, x1000, x1001 => if (x3.length : Int) > 40 then (if 40 ≤ (x3.length : Int) then (some ((x3.take 40), x1001)) else (none)) else (some (x3, x1001))
end
def spec_l13Words.f (k : Nat) (s0_0 : List Int) (s0_1 : Int) : Option (List ByteArray × Int) := (spec_l1Rd_pick.f k s0_0 s0_1 9).bind fun bt408 => (spec_l13Words.l0 k (([] : List ByteArray)) bt408.1 s0_0 bt408.2)
theorem spec_l13Words.calls (k : Nat) (g : Nat) (s0_0 : List Int) (s0_1 : Int) (r1 : List ByteArray) (r2 : Int) (w0 w : World) (hI : IsS127 w0 w g s0_0 s0_1) (hB : Below w0.heap.size w0 w) (h : spec_l13Words.f k s0_0 s0_1 = some (r1, r2)) :
  Calls Try.prog 109 #[.pointer (some ⟨g, 0, none⟩)] w fun e w' => ∃ v0_ : Value, e = .returned (v0_) ∧ Kd.V Kd.string 9 w' w.heap.size (fun k_ => (w.heap.size ≤ k_)) v0_ r1 ∧ IsS127 w0 w' g s0_0 r2 ∧ Below w0.heap.size w0 w' ∧ KeepBut w w' g none := by
 have HI0 := am hI; have HK := am (KeepBut.refl w g none); have HL := am hB.size; clear hI; have HW0 := am hB.size; have HB := am hB; clear hB
 have H : ((spec_l1Rd_pick.f k s0_0 s0_1 9).bind fun bt408 => (spec_l13Words.l0 k (([] : List ByteArray)) bt408.1 s0_0 bt408.2)) = some (r1, r2) := h
 clear h; obtain ⟨y405, hy405⟩ : ∃ y_ : List ByteArray, y_ = (([] : List ByteArray)) := ⟨_, rfl⟩
 replace H : ((spec_l1Rd_pick.f k s0_0 s0_1 9).bind fun bt408 => (spec_l13Words.l0 k y405 bt408.1 s0_0 bt408.2)) = some (r1, r2) := by first | (rw [hy405]; with_reducible exact H) | (have H2_ := bm H; rw [hy405]; with_reducible exact H2_) | (with_reducible exact bm H) | with_reducible exact H | (rw [hy405]; exact H) | exact H
 have Ny405 := am hy405; clear hy405; replace H := bs H; obtain ⟨⟨t408, t409⟩, A20, H⟩ := H; replace H : (spec_l13Words.l0 k y405 t408 s0_0 t409) = some (r1, r2) := H; have A2 := Aside0.mk A20; clear A20
 have H' := am H
 clear H; go_enter Try.func109, Try.ntmps109
 go_wp2_with (first | ((with_reducible refine gate_dst (N := 5) rfl ?_); refine Kd.R_lit Kd.string _ 9 ?hg (N := 5) ?hd (xs := ([] : List ByteArray)) (inner := []) (ok := fun _ => True) (okp := fun _ => True) ?hr ?hp (fun _ hk => hk) trivial (Below.refl _ _) (Nat.le_refl _) (by simp) ?_; (case hd => rfl); (case hg => rfl); (case hr => first | (go_simp; done) | (go_simp; rfl)); (case hp => exact (Reps.none _ _)); intro v406 w3 ho4 hb hg_ hnew_; clear hg_ hnew_; (first | rw [← Ny405.out] at ho4 | (simp only [Int.reduceToNat] at ho4; rw [← Ny405.out] at ho4) | (simp only [Int.toNat_natCast] at ho4; rw [← Ny405.out] at ho4)); have HO407 := am (Kd.R_lower (Kd.R_newM (M := fun k_ => (w.heap.size ≤ k_)) ho4 (keep_size (w := w) (g := g) (row := none) b0_) (fun k_ h_ => h_)) (keep_size (w := w) (g := g) (row := none) b0_)); replace HK := am (KeepBut.trans b0_ (KeepBut.of_below hb g none) (.inl rfl)); replace HB := am (below_step b1_ hb); replace HI0 := am (IsS127.below b2_ hb); clear hb ho4) | ((with_reducible refine gate_callee (f := 67) rfl ?_); refine goesL_ (some 7) rfl rfl Try.func67 (by kernel_rfl) rfl #[.pointer (some ⟨g, 0, none⟩), .int .i64 9] rfl mq ?_; (with_reducible refine (spec_l1Rd_pick.calls k g s0_0 s0_1 9 t408 t409 w0 _ ?side1 ?side2 A2.out).mono ?_); (case side1 => repeat (first | (with_reducible first | exact HI0.out | apply IsS127.alloc | apply IsS127.drewN | apply IsS127.drew | apply IsS127.set_1) | exact HI0.out)); (case side2 => repeat (first | (with_reducible first | exact HB.out | apply below_alloc | apply pw_below_drewN | apply below_drew1 | refine below_set ?_ (IsS127.ge HI0.out)) | exact HB.out)); rintro e w5 ⟨rfl, hi, hb, hk⟩; refine ⟨_, rfl, ?_⟩; replace HO407 := am (Kd.R_mono (Kd.R_keep (IsS127.apart (show IsS127 w0 _ g s0_0 s0_1 from by repeat (first | (with_reducible first | exact HI0.out | apply IsS127.alloc | apply IsS127.drewN | apply IsS127.drew | apply IsS127.set_1) | exact HI0.out)) (rq HO407.out) (by decide)) hk (fun _ h => h.2)) (fun _ h => h.1)); replace HK := am (KeepBut.trans b0_ hk (.inl rfl)); replace HB := am (hb); replace HI0 := am (hi); (try clear hb); (try clear hb2); (try clear hk); (try clear hi)))
 go_loopg [3, 4] k (fun kq v3 v4 w' => ∃ (x3_1 : List ByteArray) (x4_1 : Int) (x1001_1 : Int), v4 = .int .i64 x4_1 ∧ Aside0 (spec_l13Words.l0 kq x3_1 x4_1 s0_0 x1001_1 = some (r1, r2)) ∧ Aside0 (kq ≤ k) ∧ Aside0 (Kd.V Kd.string 9 w' w.heap.size (fun k_ => (w.heap.size ≤ k_) ∧ k_ ≠ g) v3 x3_1) ∧ Aside0 (IsS127 w0 w' g s0_0 x1001_1) ∧ Aside0 (KeepBut w w' g none) ∧ Aside0 (Below w0.heap.size w0 w'))
 case atStart => exact ⟨(y405), (t408), (t409), sq, H', ⟨Nat.le_refl _⟩, ⟨Kd.R_V (rq (Kd.R_mono (IsS127.apart HI0.out HO407.out (by decide)) (fun _ hk => ⟨hk.1.1, hk.2⟩)))⟩, ⟨b2_⟩, ⟨b0_⟩, ⟨b1_⟩⟩
 case round =>
  clear H'; (try clear c1); (try clear p2); obtain ⟨x3_1, x4_1, x1001_1, rfl, HA, HK1, HO_3, HI0, HK, HB⟩ := hrel
  cases gk with
  | zero => exact absurd HA.out (by simp [spec_l13Words.l0])
  | succ k1 =>
   have H := HA.out; clear HA
   simp only [spec_l13Words.l0] at H
   by_cases c6 : x4_1 > 0
   ·rw [if_pos c6] at H; have c6b0 := decide_eq_true c6; clear c6; replace H := bs H; obtain ⟨⟨t410, t411⟩, A70, H⟩ := H; replace H : ((spec_l1Put.f k1 x3_1 t410).bind fun t412 => (spec_l13Words.l0 k1 t412 (wrap64 (x4_1 - 1)) s0_0 t411)) = some (r1, r2) := H; have A7 := Aside0.mk A70; clear A70; replace H := bs H; obtain ⟨t412, A80, H⟩ := H; replace H : (spec_l13Words.l0 k1 t412 (wrap64 (x4_1 - 1)) s0_0 t411) = some (r1, r2) := H; have A8 := Aside0.mk A80; clear A80
    have H' := am H
    clear H
    go_wp2_with (first | ((with_reducible refine gate_callee (f := 111) rfl ?_); refine goesL_ (some 14) rfl rfl Try.func111 (by kernel_rfl) rfl #[.pointer (some ⟨g, 0, none⟩)] rfl mq ?_; (with_reducible refine (spec_l13Word.calls k1 g s0_0 x1001_1 t410 t411 w0 _ ?side1 ?side2 A7.out).mono ?_); (case side1 => repeat (first | (with_reducible first | exact HI0.out | apply IsS127.alloc | apply IsS127.drewN | apply IsS127.drew | apply IsS127.set_1) | exact HI0.out)); (case side2 => repeat (first | (with_reducible first | exact HB.out | apply below_alloc | apply pw_below_drewN | apply below_drew1 | refine below_set ?_ (IsS127.ge HI0.out)) | exact HB.out)); rintro e w9 ⟨rfl, hi, hb, hk⟩; refine ⟨_, rfl, ?_⟩; replace HO_3 := am (Kd.V_mono (Kd.V_keep (Kd.V_mono (ok := fun k_ => (((w.heap.size ≤ k_)) ∧ k_ ≠ g)) (vq HO_3.out) (fun k_ hk_ => (⟨hk_, hk_.2⟩ : _ ∧ k_ ≠ g))) hk (fun _ h => h.2)) (fun _ h => h.1)); replace HK := am (KeepBut.trans b0_ hk (.inl rfl)); replace HB := am (hb); replace HI0 := am (hi); (try clear hb); (try clear hb2); (try clear hk); (try clear hi); obtain ⟨Ao10, co10, eo10⟩ := Kd.V_slice HO_3.out; subst eo10) | ((with_reducible refine gate_callee (f := 138) rfl ?_); refine goesL_ (some 15) rfl rfl Try.func138 (by kernel_rfl) rfl #[.slice Ao10 x3_1.length co10, .string t410] rfl mq ?_; (with_reducible refine (spec_l1Put.calls k1 (fun k_ => ((w.heap.size ≤ k_) ∧ k_ ≠ g)) _ _ x3_1 t410 t412 _ ?side1 A8.out).mono ?_); (case side1 => exact HO_3.out); rintro e w11 ⟨v413, rfl, ho0, hb⟩; refine ⟨_, rfl, ?_⟩; replace HO_3 := am (Kd.V_below (vq HO_3.out) hb); have HO414 := am (Kd.V_lower (Kd.V_mono (ok' := fun k_ => (w.heap.size ≤ k_) ∧ k_ ≠ g) ho0 (fun k_ hk_ => ⟨Or.elim hk_ (fun hs_ => hs_.1) (fun hn_ => (Nat.le_trans (keep_size (w := w) (g := g) (row := none) b0_) hn_)), Or.elim hk_ (fun hs_ => hs_.2) (fun hn_ => (IsS127.fresh b2_ k_ hn_))⟩)) (keep_size (w := w) (g := g) (row := none) b0_)); replace HK := am (KeepBut.trans b0_ (KeepBut.of_below hb g none) (.inl rfl)); replace HB := am (below_step b1_ hb); replace HI0 := am (IsS127.below b2_ hb); (try clear hb); (try clear hb2); (try clear hk); (try clear hi); (try clear ho0)))
    go_roundg k1
    case measure => have := HK1.out; omega
    case rel => exact ⟨(t412), (wrap64 (x4_1 - 1)), (t411), sq, H', ⟨b67_⟩, ⟨vq HO414.out⟩, ⟨b2_⟩, ⟨b0_⟩, ⟨b1_⟩⟩
   rw [if_neg c6] at H; have c6b0 := decide_eq_false c6; clear c6; replace H := bs H; obtain ⟨⟨t415, t416⟩, A120, H⟩ := H; replace H : (if t415 = 0 then ((spec_l13Book.f k1 s0_0 t416).bind fun bt417 => ((spec_l2Words.f k1 bt417.1 bt417.2.1).bind fun t424 => (spec_l13Words.j1 k1 t424 s0_0 bt417.2.2))) else (spec_l13Words.j1 k1 x3_1 s0_0 t416)) = some (r1, r2) := H; have A12 := Aside0.mk A120; clear A120; have HC13 := am H; clear H
   go_upto_if 18 with (first | ((with_reducible refine gate_callee (f := 67) rfl ?_); refine goesL_ (some 17) rfl rfl Try.func67 (by kernel_rfl) rfl #[.pointer (some ⟨g, 0, none⟩), .int .i64 3] rfl mq ?_; (with_reducible refine (spec_l1Rd_pick.calls k1 g s0_0 x1001_1 3 t415 t416 w0 _ ?side1 ?side2 A12.out).mono ?_); (case side1 => repeat (first | (with_reducible first | exact HI0.out | apply IsS127.alloc | apply IsS127.drewN | apply IsS127.drew | apply IsS127.set_1) | exact HI0.out)); (case side2 => repeat (first | (with_reducible first | exact HB.out | apply below_alloc | apply pw_below_drewN | apply below_drew1 | refine below_set ?_ (IsS127.ge HI0.out)) | exact HB.out)); rintro e w14 ⟨rfl, hi, hb, hk⟩; refine ⟨_, rfl, ?_⟩; replace HO_3 := am (Kd.V_mono (Kd.V_keep (Kd.V_mono (ok := fun k_ => (((w.heap.size ≤ k_)) ∧ k_ ≠ g)) (vq HO_3.out) (fun k_ hk_ => (⟨hk_, hk_.2⟩ : _ ∧ k_ ≠ g))) hk (fun _ h => h.2)) (fun _ h => h.1)); replace HK := am (KeepBut.trans b0_ hk (.inl rfl)); replace HB := am (hb); replace HI0 := am (hi); (try clear hb); (try clear hb2); (try clear hk); (try clear hi)))
   (try simp only [Act.put, List.setIfInBounds_toArray, List.set_cons_zero, List.set_cons_succ])
   go_cut [3] (fun v3 wc => ∃ (kq : Nat) (x3_12 : List ByteArray) (x1001_12 : Int), Aside0 (spec_l13Words.j1 kq x3_12 s0_0 x1001_12 = some (r1, r2)) ∧ Aside0 (kq ≤ k1) ∧ Aside0 (Kd.V Kd.string 9 wc w.heap.size (fun k_ => (w.heap.size ≤ k_) ∧ k_ ≠ g) v3 x3_12) ∧ Aside0 (IsS127 w0 wc g s0_0 x1001_12) ∧ Aside0 (KeepBut w wc g none) ∧ Aside0 (Below w0.heap.size w0 wc))
   case first =>
    have H := HC13.out; clear HC13
    by_cases c15 : t415 = 0
    ·rw [if_pos c15] at H
     have c15b0 : (t415 == 0) = true := beq_iff_eq.mpr c15
     have c15b1 : (t415 != 0) = false := bne_eq_false_iff_eq.mpr c15
     clear c15
     (first | rw [c15b0] | (simp only [i64_w, i32_w]; rw [c15b0]) | skip)
     replace H := bs H; obtain ⟨⟨t417, t420, t423⟩, A160, H⟩ := H; replace H : ((spec_l2Words.f k1 t417 t420).bind fun t424 => (spec_l13Words.j1 k1 t424 s0_0 t423)) = some (r1, r2) := H; have A16 := Aside0.mk A160; clear A160; replace H := bs H; obtain ⟨t424, A170, H⟩ := H; replace H : (spec_l13Words.j1 k1 t424 s0_0 t423) = some (r1, r2) := H; have A17 := Aside0.mk A170; clear A170
     have H' := am H
     clear H
     go_wp2_with (first | ((with_reducible refine gate_callee (f := 140) rfl ?_); refine goesL_ (some 20) rfl rfl Try.func140 (by kernel_rfl) rfl #[.pointer (some ⟨g, 0, none⟩)] rfl mq ?_; (with_reducible refine (spec_l13Book.calls k1 g s0_0 t416 t417 t420 t423 w0 _ ?side1 ?side2 A16.out).mono ?_); (case side1 => repeat (first | (with_reducible first | exact HI0.out | apply IsS127.alloc | apply IsS127.drewN | apply IsS127.drew | apply IsS127.set_1) | exact HI0.out)); (case side2 => repeat (first | (with_reducible first | exact HB.out | apply below_alloc | apply pw_below_drewN | apply below_drew1 | refine below_set ?_ (IsS127.ge HI0.out)) | exact HB.out)); rintro e w18 ⟨v418, v421, rfl, ho0, ho1, hi, hb, hk⟩; refine ⟨_, rfl, ?_⟩; replace HO_3 := am (Kd.V_mono (Kd.V_told (Kd.V_told (Kd.V_oldK (Kd.V_mono (ok := fun k_ => (((w.heap.size ≤ k_)) ∧ k_ ≠ g)) (vq HO_3.out) (fun k_ hk_ => (⟨hk_, hk_.2⟩ : _ ∧ k_ ≠ g))) hk) (Kd.R_base ho0)) (Kd.R_base ho1)) (fun _ h_ => h_.1)); have HO419 := am (Kd.R_lower (Kd.R_newM (M := fun k_ => (w.heap.size ≤ k_)) ho0 (keep_size (w := w) (g := g) (row := none) b0_) (fun k_ h_ => h_)) (keep_size (w := w) (g := g) (row := none) b0_)); have HO422 := am (Kd.R_lower (Kd.R_newM (M := fun k_ => (w.heap.size ≤ k_)) ho1 (keep_size (w := w) (g := g) (row := none) b0_) (fun k_ h_ => h_)) (keep_size (w := w) (g := g) (row := none) b0_)); replace HK := am (KeepBut.trans b0_ hk (.inl rfl)); replace HB := am (hb); replace HI0 := am (hi); (try clear hb); (try clear hb2); (try clear hk); (try clear hi); (try clear ho0); (try clear ho1); obtain ⟨Ao19, co19, eo19⟩ := Kd.R_slice HO419.out; subst eo19; obtain ⟨Ao20, co20, eo20⟩ := Kd.R_slice HO422.out; subst eo20) | ((with_reducible refine gate_callee (f := 139) rfl ?_); refine goesL_ (some 21) rfl rfl Try.func139 (by kernel_rfl) rfl #[.agg #[.slice Ao19 t417.length co19, .slice Ao20 t420.length co20]] rfl mq ?_; (with_reducible refine (spec_l2Words.calls k1 _ _ t417 _ _ t420 t424 _ ?side1 ?side2 ?side3 ?side4 A17.out).mono ?_); (case side1 => exact cq (Kd.R_reads' HO419.out).2.2); (case side2 => exact (Kd.R_reads' HO419.out).2.1); (case side3 => exact cq (Kd.R_reads' HO422.out).2.2); (case side4 => exact (Kd.R_reads' HO422.out).2.1); rintro e w21 ⟨v425, rfl, ho0, hb⟩; refine ⟨_, rfl, ?_⟩; replace HO_3 := am (Kd.V_below (vq HO_3.out) hb); have HO426 := am (Kd.V_lower (Kd.V_mono (ok' := fun k_ => (w.heap.size ≤ k_) ∧ some k_ ≠ (.slice Ao19 t417.length co19 : Value).ownBlock ∧ some k_ ≠ (.slice Ao20 t420.length co20 : Value).ownBlock ∧ k_ ≠ g) ho0 (fun k_ hk_ => ⟨(Nat.le_trans (keep_size (w := w) (g := g) (row := none) b0_) hk_), (Kd.fresh' (Kd.R_lt (rq HO419.out)) k_ hk_), (Kd.fresh' (Kd.R_lt (rq HO422.out)) k_ hk_), (IsS127.fresh b2_ k_ hk_)⟩)) (keep_size (w := w) (g := g) (row := none) b0_)); replace HO419 := am (Kd.R_below (rq HO419.out) hb); replace HO422 := am (Kd.R_below (rq HO422.out) hb); replace HK := am (KeepBut.trans b0_ (KeepBut.of_below hb g none) (.inl rfl)); replace HB := am (below_step b1_ hb); replace HI0 := am (IsS127.below b2_ hb); (try clear hb); (try clear hb2); (try clear hk); (try clear hi); (try clear ho0)))
     go_meet
     case rel => exact ⟨_, (t424), (t423), H', ⟨b27_⟩, ⟨vq (Kd.V_mono HO426.out (fun _ hk => ⟨hk.1, hk.2.2.2⟩))⟩, ⟨b2_⟩, ⟨b0_⟩, ⟨b1_⟩⟩
    rw [if_neg c15] at H
    have c15b0 : (t415 == 0) = false := beq_eq_false_iff_ne.mpr c15
    have c15b1 : (t415 != 0) = true := bne_iff_ne.mpr c15
    (first | rw [c15b0] | (simp only [i64_w, i32_w]; rw [c15b0]) | skip)
    have H' := am H
    clear H; go_wp2
    go_meet
    case rel => exact ⟨_, (x3_1), (t416), H', ⟨b27_⟩, ⟨vq HO_3.out⟩, ⟨b2_⟩, ⟨b0_⟩, ⟨b1_⟩⟩
   case rest =>
    clear HC13; (try clear c1); (try clear p2); (try clear c6); (try clear c6b0); (try clear p6); (try clear c10); (try clear c11); (try clear c13); (try clear c14); (try clear c15); (try clear c15b0); (try clear c15b1); (try clear p2); obtain ⟨kq, x3_12, x1001_12, HA, HJ12, HO_3, HI0, HK, HB⟩ := hcut
    cases kq with
    | zero => exact absurd HA.out (by simp [spec_l13Words.j1])
    | succ kj12 =>
     have H := HA.out; clear HA
     simp only [spec_l13Words.j1] at H
     by_cases c22 : (x3_12.length : Int) > 40
     ·rw [if_pos c22] at H; have c22b0 := decide_eq_true c22
      have c22b1 : decide (40 < x3_12.length) = true := decide_eq_true (by omega)
      clear c22
      replace H := ip H; obtain ⟨c23, H⟩ := H; have c23b0 := eq_true c23
      have c23b1 : decide (40 ≤ (x3_12.length : Int)) = true := decide_eq_true c23
      clear c23; obtain ⟨y427, hy427⟩ : ∃ y_ : List ByteArray, y_ = (x3_12.take 40) := ⟨_, rfl⟩
      replace H : (some (y427, x1001_12)) = some (r1, r2) := by first | (rw [hy427]; with_reducible exact H) | (have H2_ := bm H; rw [hy427]; with_reducible exact H2_) | (with_reducible exact bm H) | with_reducible exact H | (rw [hy427]; exact H) | exact H
      have Ny427 := am hy427; clear hy427
      simp only [Option.some.injEq, Prod.mk.injEq] at H
      obtain ⟨rfl, rfl⟩ := H; obtain ⟨Ao24, co24, eo24⟩ := Kd.V_slice HO_3.out; subst eo24
      have q25 : (40 : Int) ≤ ((x3_12.length : Int) : Int) := of_decide_eq_true ad
      obtain ⟨i025, hi025, _, hsz25, _⟩ := info_parts info9
      have hroom25 : x3_12.length ≤ co24 := (Kd.V_reads' HO_3.out).2.1
      have hC25 : Kd.F Kd.string _ _ Ao24 x3_12.length x3_12 := (Kd.V_at (base := w.heap.size) HO_3.out).2.2
      have hcut25 := cut_to (P := Try.prog) 22 9 .i64 Try.underlying22 hi025 Ao24 x3_12.length co24 40 (by omega) q25 hroom25
      have hr25 := Kd.F_take (m := 40) hC25 (by omega)
      have hy25 : y427.length = (40 : Int).toNat := (by rw [Ny427.out, List.length_take]; omega)
      rw [← Ny427.out] at hr25; rw [← hy25] at hcut25
      have HO431 := am (show Kd.V Kd.string 9 _ w.heap.size _ (.slice Ao24 y427.length co24) y427 from Kd.V_mk (by omega) hr25)
      have HC431 := am (show y427.length ≤ co24 from by omega)
      clear hr25 hC25 hroom25 hi025 hsz25; have KY25 := am hy25; clear hy25; replace q25 := eq_true q25; go_wp2; go_ret
      exact ⟨_, eq_, by (with_reducible repeat (first | apply Kd.V_alloc | apply Kd.V_drewN | apply Kd.V_drew)); exact Kd.V_mono HO431.out (fun _ hk => hk.1), b2_, b1_, b0_⟩
     rw [if_neg c22] at H; have c22b0 := decide_eq_false c22
     have c22b1 : decide (40 < x3_12.length) = false := decide_eq_false (by omega)
     clear c22
     simp only [Option.some.injEq, Prod.mk.injEq] at H
     obtain ⟨rfl, rfl⟩ := H; obtain ⟨Ao26, co26, eo26⟩ := Kd.V_slice HO_3.out; subst eo26; go_wp2; go_ret
     exact ⟨_, eq_, b84_, b2_, b1_, b0_⟩

/-! ### spec_l3Words: function 56 -/
def spec_l3Words.l0 : Nat → List ByteArray → Int → Option (Bool)
 | 0, _, _ => none
 | k + 1, x0, x3 => if x3 < (x0.length : Int) then (if 0 ≤ x3 then ((spec_l1Word.f k (rdOf ByteArray.empty x0 x3)).bind fun t433 => (if t433 = true then (if x3 > 0 then (if 0 ≤ (wrap64 (x3 - 1)) then (if (wrap64 (x3 - 1)) < (x0.length : Int) then (if ((Op.bytesLess ((rdOf ByteArray.empty x0 (wrap64 (x3 - 1))).toList) ((rdOf ByteArray.empty x0 x3).toList)) = true) then (spec_l3Words.l0 k x0 (wrap64 (x3 + 1))) else (some false)) else (none)) else (none)) else (spec_l3Words.l0 k x0 (wrap64 (x3 + 1)))) else (some false))) else (none)) else (some (decide ((x0.length : Int) ≤ 300)))
def spec_l3Words.f (k : Nat) (l0 : List ByteArray) : Option (Bool) := spec_l3Words.l0 k l0 0
theorem spec_l3Words.calls (k : Nat) (A0 : Option Addr) (c0 : Nat) (l0 : List ByteArray) (r : Bool) (w : World) (hr0 : Kd.C Kd.string w A0 l0.length l0) (hc0 : l0.length ≤ c0) (h : spec_l3Words.f k l0 = some r) :
  Calls Try.prog 56 #[.slice A0 l0.length c0] w fun e w' => e = .returned (.bool r) ∧ Drawn0 w w' := by
 have HR0 := am hr0; have HC0 := am hc0; clear hr0 hc0
 have H : (spec_l3Words.l0 k l0 0) = some r := h
 clear h
 have H' := am H
 clear H; go_enter Try.func56, Try.ntmps56; go_wp2
 repeat (go_quiet (fail); try go_wp2)
 go_loopg [3] k (fun kq v3 w' => ∃ (x3_1 : Int), v3 = .int .i64 x3_1 ∧ Aside0 (spec_l3Words.l0 kq l0 x3_1 = some r) ∧ Aside0 (kq ≤ k) ∧ Drawn0 w w')
 case atStart => exact ⟨(0), sq, H', ⟨Nat.le_refl _⟩, dr⟩
 case round =>
  clear H'; obtain ⟨x3_1, rfl, HA, HK1, ⟨m1, rfl⟩⟩ := hrel
  cases gk with
  | zero => exact absurd HA.out (by simp [spec_l3Words.l0])
  | succ k1 =>
   have H := HA.out; clear HA
   simp only [spec_l3Words.l0] at H
   by_cases c2 : x3_1 < (l0.length : Int)
   ·rw [if_pos c2] at H; have c2b0 := decide_eq_true c2; clear c2
    replace H := it H; obtain ⟨c3b0, H⟩ := H; replace H := bs H; obtain ⟨t433, A40, H⟩ := H; replace H : (if t433 = true then (if x3_1 > 0 then (if 0 ≤ (wrap64 (x3_1 - 1)) then (if (wrap64 (x3_1 - 1)) < (l0.length : Int) then (if ((Op.bytesLess ((rdOf ByteArray.empty l0 (wrap64 (x3_1 - 1))).toList) ((rdOf ByteArray.empty l0 x3_1).toList)) = true) then (spec_l3Words.l0 k1 l0 (wrap64 (x3_1 + 1))) else (some false)) else (none)) else (none)) else (spec_l3Words.l0 k1 l0 (wrap64 (x3_1 + 1)))) else (some false)) = some r := H; have A4 := Aside0.mk A40; clear A40
    by_cases c5 : t433 = true
    ·subst c5
     have H1 : (if x3_1 > 0 then (if 0 ≤ (wrap64 (x3_1 - 1)) then (if (wrap64 (x3_1 - 1)) < (l0.length : Int) then (if ((Op.bytesLess ((rdOf ByteArray.empty l0 (wrap64 (x3_1 - 1))).toList) ((rdOf ByteArray.empty l0 x3_1).toList)) = true) then (spec_l3Words.l0 k1 l0 (wrap64 (x3_1 + 1))) else (some false)) else (none)) else (none)) else (spec_l3Words.l0 k1 l0 (wrap64 (x3_1 + 1)))) = some r := b21_
     replace H := H1; clear H1
     by_cases c6 : x3_1 > 0
     ·rw [if_pos c6] at H; have c6b0 := decide_eq_true c6; clear c6; obtain ⟨ji7, hji7⟩ : ∃ j_ : Int, (wrap64 (x3_1 - 1)) = j_ := ⟨_, rfl⟩
      replace H : (if 0 ≤ (ji7) then (if (ji7) < (l0.length : Int) then (if ((Op.bytesLess ((rdOf ByteArray.empty l0 (ji7)).toList) ((rdOf ByteArray.empty l0 x3_1).toList)) = true) then (spec_l3Words.l0 k1 l0 (wrap64 (x3_1 + 1))) else (some false)) else (none)) else (none)) = some r := by first | (rw [hji7] at H; exact H) | (simp only [hji7] at H ⊢; exact H)
      (try rw [hji7] at A4)
      have hji7w : (IntKind.i64.wrap (x3_1 - 1)) = ji7 := (i64_w _).trans hji7
      replace H := it H; obtain ⟨c8b0, H⟩ := H
      replace H := it H; obtain ⟨c9b0, H⟩ := H
      by_cases c10 : ((Op.bytesLess ((rdOf ByteArray.empty l0 (ji7)).toList) ((rdOf ByteArray.empty l0 x3_1).toList)) = true)
      ·rw [if_pos c10] at H
       have c10b0 : (Op.bytesLess ((rdOf ByteArray.empty l0 (ji7)).toList) ((rdOf ByteArray.empty l0 x3_1).toList)) = true := c10
       clear c10
       have H' := am H
       clear H
       have p432 : 0 ≤ (x3_1 : Int) := of_decide_eq_true ad
       have q432 : x3_1 < (l0.length : Int) := of_decide_eq_true ad
       obtain ⟨ad432, e432, hx432_0⟩ := Kd.at_string HR0.out x3_1 p432 q432
       cases e432
       replace p432 := eq_true p432; replace q432 := eq_true q432
       try have p434 : 0 ≤ ((ji7) : Int) := of_decide_eq_true ad
       try have q434 : (ji7) < (l0.length : Int) := of_decide_eq_true ad
       try obtain ⟨ad434, e434, hx434_0⟩ := Kd.at_string HR0.out (ji7) p434 q434
       try obtain rfl : ad432 = ad434 := (by injection e434)
       try replace p434 := eq_true p434
       try replace q434 := eq_true q434
       try have p435 : 0 ≤ (x3_1 : Int) := of_decide_eq_true ad
       try have q435 : x3_1 < (l0.length : Int) := of_decide_eq_true ad
       try obtain ⟨ad435, e435, hx435_0⟩ := Kd.at_string HR0.out x3_1 p435 q435
       try obtain rfl : ad432 = ad435 := (by injection e435)
       try replace p435 := eq_true p435
       try replace q435 := eq_true q435
       go_wp2_with (first | (go_at_call 57; (with_reducible refine (spec_l1Word.calls k1 (rdOf ByteArray.empty l0 x3_1) true _ A4.out).mono ?_); rintro e w' ⟨rfl, ⟨nd, rfl⟩⟩; first | exact ⟨rfl, _, World.drewN_drewN _ _ _⟩ | exact ⟨rfl, _, Eq.trans (World.drewN_drewN _ _ _) (congrArg (World.drewN _) (Nat.add_assoc _ _ _))⟩ | (have p434 : 0 ≤ ((ji7) : Int) := of_decide_eq_true ad; have q434 : (ji7) < (l0.length : Int) := of_decide_eq_true ad; obtain ⟨ad434, e434, hx434_0⟩ := Kd.at_string HR0.out (ji7) p434 q434; obtain rfl : ad432 = ad434 := (by injection e434); replace p434 := eq_true p434; replace q434 := eq_true q434; have p435 : 0 ≤ (x3_1 : Int) := of_decide_eq_true ad; have q435 : x3_1 < (l0.length : Int) := of_decide_eq_true ad; obtain ⟨ad435, e435, hx435_0⟩ := Kd.at_string HR0.out x3_1 p435 q435; obtain rfl : ad432 = ad435 := (by injection e435); replace p435 := eq_true p435; replace q435 := eq_true q435)))
       repeat (go_quiet (first | (go_at_call 57; (with_reducible refine (spec_l1Word.calls k1 (rdOf ByteArray.empty l0 x3_1) true _ A4.out).mono ?_); rintro e w' ⟨rfl, ⟨nd, rfl⟩⟩; first | exact ⟨rfl, _, World.drewN_drewN _ _ _⟩ | exact ⟨rfl, _, Eq.trans (World.drewN_drewN _ _ _) (congrArg (World.drewN _) (Nat.add_assoc _ _ _))⟩ | (have p434 : 0 ≤ ((ji7) : Int) := of_decide_eq_true ad; have q434 : (ji7) < (l0.length : Int) := of_decide_eq_true ad; obtain ⟨ad434, e434, hx434_0⟩ := Kd.at_string HR0.out (ji7) p434 q434; obtain rfl : ad432 = ad434 := (by injection e434); replace p434 := eq_true p434; replace q434 := eq_true q434; have p435 : 0 ≤ (x3_1 : Int) := of_decide_eq_true ad; have q435 : x3_1 < (l0.length : Int) := of_decide_eq_true ad; obtain ⟨ad435, e435, hx435_0⟩ := Kd.at_string HR0.out x3_1 p435 q435; obtain rfl : ad432 = ad435 := (by injection e435); replace p435 := eq_true p435; replace q435 := eq_true q435))); try go_wp2_with (first | (go_at_call 57; (with_reducible refine (spec_l1Word.calls k1 (rdOf ByteArray.empty l0 x3_1) true _ A4.out).mono ?_); rintro e w' ⟨rfl, ⟨nd, rfl⟩⟩; first | exact ⟨rfl, _, World.drewN_drewN _ _ _⟩ | exact ⟨rfl, _, Eq.trans (World.drewN_drewN _ _ _) (congrArg (World.drewN _) (Nat.add_assoc _ _ _))⟩ | (have p434 : 0 ≤ ((ji7) : Int) := of_decide_eq_true ad; have q434 : (ji7) < (l0.length : Int) := of_decide_eq_true ad; obtain ⟨ad434, e434, hx434_0⟩ := Kd.at_string HR0.out (ji7) p434 q434; obtain rfl : ad432 = ad434 := (by injection e434); replace p434 := eq_true p434; replace q434 := eq_true q434; have p435 : 0 ≤ (x3_1 : Int) := of_decide_eq_true ad; have q435 : x3_1 < (l0.length : Int) := of_decide_eq_true ad; obtain ⟨ad435, e435, hx435_0⟩ := Kd.at_string HR0.out x3_1 p435 q435; obtain rfl : ad432 = ad435 := (by injection e435); replace p435 := eq_true p435; replace q435 := eq_true q435))))
       go_roundg k1
       case measure => have := HK1.out; omega
       case rel => exact ⟨(wrap64 (x3_1 + 1)), sq, H', ⟨b67_⟩, dr⟩
      rw [if_neg c10] at H
      have c10b0 : (Op.bytesLess ((rdOf ByteArray.empty l0 (ji7)).toList) ((rdOf ByteArray.empty l0 x3_1).toList)) = false := by simpa using c10
      clear c10; obtain rfl := Option.some.inj H
      have p432 : 0 ≤ (x3_1 : Int) := of_decide_eq_true ad
      have q432 : x3_1 < (l0.length : Int) := of_decide_eq_true ad
      obtain ⟨ad432, e432, hx432_0⟩ := Kd.at_string HR0.out x3_1 p432 q432
      cases e432
      replace p432 := eq_true p432; replace q432 := eq_true q432
      try have p434 : 0 ≤ ((ji7) : Int) := of_decide_eq_true ad
      try have q434 : (ji7) < (l0.length : Int) := of_decide_eq_true ad
      try obtain ⟨ad434, e434, hx434_0⟩ := Kd.at_string HR0.out (ji7) p434 q434
      try obtain rfl : ad432 = ad434 := (by injection e434)
      try replace p434 := eq_true p434
      try replace q434 := eq_true q434
      try have p435 : 0 ≤ (x3_1 : Int) := of_decide_eq_true ad
      try have q435 : x3_1 < (l0.length : Int) := of_decide_eq_true ad
      try obtain ⟨ad435, e435, hx435_0⟩ := Kd.at_string HR0.out x3_1 p435 q435
      try obtain rfl : ad432 = ad435 := (by injection e435)
      try replace p435 := eq_true p435
      try replace q435 := eq_true q435
      go_wp2_with (first | (go_at_call 57; (with_reducible refine (spec_l1Word.calls k1 (rdOf ByteArray.empty l0 x3_1) true _ A4.out).mono ?_); rintro e w' ⟨rfl, ⟨nd, rfl⟩⟩; first | exact ⟨rfl, _, World.drewN_drewN _ _ _⟩ | exact ⟨rfl, _, Eq.trans (World.drewN_drewN _ _ _) (congrArg (World.drewN _) (Nat.add_assoc _ _ _))⟩ | (have p434 : 0 ≤ ((ji7) : Int) := of_decide_eq_true ad; have q434 : (ji7) < (l0.length : Int) := of_decide_eq_true ad; obtain ⟨ad434, e434, hx434_0⟩ := Kd.at_string HR0.out (ji7) p434 q434; obtain rfl : ad432 = ad434 := (by injection e434); replace p434 := eq_true p434; replace q434 := eq_true q434; have p435 : 0 ≤ (x3_1 : Int) := of_decide_eq_true ad; have q435 : x3_1 < (l0.length : Int) := of_decide_eq_true ad; obtain ⟨ad435, e435, hx435_0⟩ := Kd.at_string HR0.out x3_1 p435 q435; obtain rfl : ad432 = ad435 := (by injection e435); replace p435 := eq_true p435; replace q435 := eq_true q435)))
      repeat (go_quiet (first | (go_at_call 57; (with_reducible refine (spec_l1Word.calls k1 (rdOf ByteArray.empty l0 x3_1) true _ A4.out).mono ?_); rintro e w' ⟨rfl, ⟨nd, rfl⟩⟩; first | exact ⟨rfl, _, World.drewN_drewN _ _ _⟩ | exact ⟨rfl, _, Eq.trans (World.drewN_drewN _ _ _) (congrArg (World.drewN _) (Nat.add_assoc _ _ _))⟩ | (have p434 : 0 ≤ ((ji7) : Int) := of_decide_eq_true ad; have q434 : (ji7) < (l0.length : Int) := of_decide_eq_true ad; obtain ⟨ad434, e434, hx434_0⟩ := Kd.at_string HR0.out (ji7) p434 q434; obtain rfl : ad432 = ad434 := (by injection e434); replace p434 := eq_true p434; replace q434 := eq_true q434; have p435 : 0 ≤ (x3_1 : Int) := of_decide_eq_true ad; have q435 : x3_1 < (l0.length : Int) := of_decide_eq_true ad; obtain ⟨ad435, e435, hx435_0⟩ := Kd.at_string HR0.out x3_1 p435 q435; obtain rfl : ad432 = ad435 := (by injection e435); replace p435 := eq_true p435; replace q435 := eq_true q435))); try go_wp2_with (first | (go_at_call 57; (with_reducible refine (spec_l1Word.calls k1 (rdOf ByteArray.empty l0 x3_1) true _ A4.out).mono ?_); rintro e w' ⟨rfl, ⟨nd, rfl⟩⟩; first | exact ⟨rfl, _, World.drewN_drewN _ _ _⟩ | exact ⟨rfl, _, Eq.trans (World.drewN_drewN _ _ _) (congrArg (World.drewN _) (Nat.add_assoc _ _ _))⟩ | (have p434 : 0 ≤ ((ji7) : Int) := of_decide_eq_true ad; have q434 : (ji7) < (l0.length : Int) := of_decide_eq_true ad; obtain ⟨ad434, e434, hx434_0⟩ := Kd.at_string HR0.out (ji7) p434 q434; obtain rfl : ad432 = ad434 := (by injection e434); replace p434 := eq_true p434; replace q434 := eq_true q434; have p435 : 0 ≤ (x3_1 : Int) := of_decide_eq_true ad; have q435 : x3_1 < (l0.length : Int) := of_decide_eq_true ad; obtain ⟨ad435, e435, hx435_0⟩ := Kd.at_string HR0.out x3_1 p435 q435; obtain rfl : ad432 = ad435 := (by injection e435); replace p435 := eq_true p435; replace q435 := eq_true q435))))
      go_ret
      exact ⟨by first | rfl | (simp; done) | (simp only [← hji7] <;> (first | rfl | simp)) | (simp [*]; done), dr⟩
     rw [if_neg c6] at H; have c6b0 := decide_eq_false c6; clear c6
     have H' := am H
     clear H
     have p432 : 0 ≤ (x3_1 : Int) := of_decide_eq_true ad
     have q432 : x3_1 < (l0.length : Int) := of_decide_eq_true ad
     obtain ⟨ad432, e432, hx432_0⟩ := Kd.at_string HR0.out x3_1 p432 q432
     cases e432
     replace p432 := eq_true p432; replace q432 := eq_true q432
     go_wp2_with (first | (go_at_call 57; (with_reducible refine (spec_l1Word.calls k1 (rdOf ByteArray.empty l0 x3_1) true _ A4.out).mono ?_); rintro e w' ⟨rfl, ⟨nd, rfl⟩⟩; (try first | exact ⟨rfl, _, World.drewN_drewN _ _ _⟩ | exact ⟨rfl, _, Eq.trans (World.drewN_drewN _ _ _) (congrArg (World.drewN _) (Nat.add_assoc _ _ _))⟩)))
     repeat (go_quiet (first | (go_at_call 57; (with_reducible refine (spec_l1Word.calls k1 (rdOf ByteArray.empty l0 x3_1) true _ A4.out).mono ?_); rintro e w' ⟨rfl, ⟨nd, rfl⟩⟩; (try first | exact ⟨rfl, _, World.drewN_drewN _ _ _⟩ | exact ⟨rfl, _, Eq.trans (World.drewN_drewN _ _ _) (congrArg (World.drewN _) (Nat.add_assoc _ _ _))⟩))); try go_wp2_with (first | (go_at_call 57; (with_reducible refine (spec_l1Word.calls k1 (rdOf ByteArray.empty l0 x3_1) true _ A4.out).mono ?_); rintro e w' ⟨rfl, ⟨nd, rfl⟩⟩; (try first | exact ⟨rfl, _, World.drewN_drewN _ _ _⟩ | exact ⟨rfl, _, Eq.trans (World.drewN_drewN _ _ _) (congrArg (World.drewN _) (Nat.add_assoc _ _ _))⟩))))
     go_roundg k1
     case measure => have := HK1.out; omega
     case rel => exact ⟨(wrap64 (x3_1 + 1)), sq, H', ⟨b67_⟩, dr⟩
    replace c5 := Bool.eq_false_iff.mpr c5; subst c5
    have H1 : (some false) = some r := b6_
    replace H := H1; clear H1
    obtain rfl := Option.some.inj H
    have p432 : 0 ≤ (x3_1 : Int) := of_decide_eq_true ad
    have q432 : x3_1 < (l0.length : Int) := of_decide_eq_true ad
    obtain ⟨ad432, e432, hx432_0⟩ := Kd.at_string HR0.out x3_1 p432 q432
    cases e432
    replace p432 := eq_true p432; replace q432 := eq_true q432
    go_wp2_with (first | (go_at_call 57; (with_reducible refine (spec_l1Word.calls k1 (rdOf ByteArray.empty l0 x3_1) false _ A4.out).mono ?_); rintro e w' ⟨rfl, ⟨nd, rfl⟩⟩; (try first | exact ⟨rfl, _, World.drewN_drewN _ _ _⟩ | exact ⟨rfl, _, Eq.trans (World.drewN_drewN _ _ _) (congrArg (World.drewN _) (Nat.add_assoc _ _ _))⟩)))
    repeat (go_quiet (first | (go_at_call 57; (with_reducible refine (spec_l1Word.calls k1 (rdOf ByteArray.empty l0 x3_1) false _ A4.out).mono ?_); rintro e w' ⟨rfl, ⟨nd, rfl⟩⟩; (try first | exact ⟨rfl, _, World.drewN_drewN _ _ _⟩ | exact ⟨rfl, _, Eq.trans (World.drewN_drewN _ _ _) (congrArg (World.drewN _) (Nat.add_assoc _ _ _))⟩))); try go_wp2_with (first | (go_at_call 57; (with_reducible refine (spec_l1Word.calls k1 (rdOf ByteArray.empty l0 x3_1) false _ A4.out).mono ?_); rintro e w' ⟨rfl, ⟨nd, rfl⟩⟩; (try first | exact ⟨rfl, _, World.drewN_drewN _ _ _⟩ | exact ⟨rfl, _, Eq.trans (World.drewN_drewN _ _ _) (congrArg (World.drewN _) (Nat.add_assoc _ _ _))⟩))))
    go_ret
    exact ⟨sq, dr⟩
   rw [if_neg c2] at H; have c2b0 := decide_eq_false c2; clear c2; obtain rfl := Option.some.inj H; go_wp2
   repeat (go_quiet (fail); try go_wp2)
   go_ret
   exact ⟨sq, dr⟩

/-! ### spec_l3Ends: function 168 -/
def spec_l3Ends.l0 : Nat → List ByteArray → Int → List ByteArray → Int → Option (List ByteArray)
 | 0, _, _, _, _ => none
 | k + 1, x0, x1, x5, x6 => if x6 < (x0.length : Int) then (if 0 ≤ x6 then (if ((rdOf ByteArray.empty x0 x6).size : Int) > 0 then (if 0 < ((rdOf ByteArray.empty x0 x6).size : Int) then (if (bt (rdOf ByteArray.empty x0 x6) 0) = x1 then (if 1 ≤ ((rdOf ByteArray.empty x0 x6).size : Int) then (if x5.length < 8796093022208 then (spec_l3Ends.l0 k x0 x1 (x5 ++ [(rdOf ByteArray.empty x0 x6).extract 1 (rdOf ByteArray.empty x0 x6).size]) (wrap64 (x6 + 1))) else (none)) else (none)) else (spec_l3Ends.l0 k x0 x1 x5 (wrap64 (x6 + 1)))) else (none)) else (spec_l3Ends.l0 k x0 x1 x5 (wrap64 (x6 + 1)))) else (none)) else (some x5)
def spec_l3Ends.f (k : Nat) (l0 : List ByteArray) (a1 : Int) : Option (List ByteArray) := spec_l3Ends.l0 k l0 a1 (([] : List ByteArray)) 0
theorem spec_l3Ends.calls (k : Nat) (A0 : Option Addr) (c0 : Nat) (l0 : List ByteArray) (a1 : Int) (r : List ByteArray) (w : World) (hr0 : Kd.C Kd.string w A0 l0.length l0) (hc0 : l0.length ≤ c0) (h : spec_l3Ends.f k l0 a1 = some r) :
  Calls Try.prog 168 #[.slice A0 l0.length c0, .int .u8 a1] w fun e w' => ∃ v0_ : Value, e = .returned (v0_) ∧ Kd.R Kd.string 9 w' w.heap.size (fun _ => True) v0_ r ∧ Below w.heap.size w w' := by
 have HR0 := am hr0; have HC0 := am hc0; clear hr0 hc0; have HB := am (Below.refl w.heap.size w)
 have H : (spec_l3Ends.l0 k l0 a1 (([] : List ByteArray)) 0) = some r := h
 clear h; obtain ⟨y436, hy436⟩ : ∃ y_ : List ByteArray, y_ = (([] : List ByteArray)) := ⟨_, rfl⟩
 replace H : (spec_l3Ends.l0 k l0 a1 y436 0) = some r := by first | (rw [hy436]; with_reducible exact H) | (have H2_ := bm H; rw [hy436]; with_reducible exact H2_) | (with_reducible exact bm H) | with_reducible exact H | (rw [hy436]; exact H) | exact H
 have Ny436 := am hy436; clear hy436
 have H' := am H
 clear H; go_enter Try.func168, Try.ntmps168
 go_wp2_with (first | ((with_reducible refine gate_dst (N := 7) rfl ?_); refine Kd.R_lit Kd.string _ 9 ?hg (N := 7) ?hd (xs := ([] : List ByteArray)) (inner := []) (ok := fun _ => True) (okp := fun _ => True) ?hr ?hp (fun _ hk => hk) trivial (Below.refl _ _) (Nat.le_refl _) (by simp) ?_; (case hd => rfl); (case hg => rfl); (case hr => first | (go_simp; done) | (go_simp; rfl)); (case hp => exact (Reps.none _ _)); intro v437 w3 ho4 hb hg_ hnew_; clear hg_ hnew_; (first | rw [← Ny436.out] at ho4 | (simp only [Int.reduceToNat] at ho4; rw [← Ny436.out] at ho4) | (simp only [Int.toNat_natCast] at ho4; rw [← Ny436.out] at ho4)); have HO438 := am (Kd.R_lower ho4 (below_size bel)); replace HB := am (below_step bel hb); clear hb ho4))
 go_loopg [5, 6] k (fun kq v5 v6 w' => ∃ (x5_1 : List ByteArray) (x6_1 : Int), v6 = .int .i64 x6_1 ∧ Aside0 (spec_l3Ends.l0 kq l0 a1 x5_1 x6_1 = some r) ∧ Aside0 (kq ≤ k) ∧ Aside0 (Kd.R Kd.string 9 w' w.heap.size (fun _ => True) v5 x5_1) ∧ Aside0 (Below w.heap.size w w'))
 case atStart => exact ⟨(y436), (0), sq, H', ⟨Nat.le_refl _⟩, ⟨rq HO438.out⟩, ⟨bel⟩⟩
 case round =>
  clear H'; (try clear c1); (try clear p2); obtain ⟨x5_1, x6_1, rfl, HA, HK1, HO_5, HB⟩ := hrel
  cases gk with
  | zero => exact absurd HA.out (by simp [spec_l3Ends.l0])
  | succ k1 =>
   have H := HA.out; clear HA
   simp only [spec_l3Ends.l0] at H
   by_cases c5 : x6_1 < (l0.length : Int)
   ·rw [if_pos c5] at H; have c5b0 := decide_eq_true c5; clear c5
    replace H := it H; obtain ⟨c6b0, H⟩ := H
    by_cases c7 : ((rdOf ByteArray.empty l0 x6_1).size : Int) > 0
    ·rw [if_pos c7] at H; have c7b0 := decide_eq_true c7
     have c7b1 : decide (0 < (rdOf ByteArray.empty l0 x6_1).size) = true := decide_eq_true (by omega)
     clear c7
     replace H := ip H; obtain ⟨c8, H⟩ := H; have c8b0 := decide_eq_true c8
     have c8b1 : decide (0 < (rdOf ByteArray.empty l0 x6_1).size) = true := decide_eq_true (by omega)
     clear c8
     by_cases c10 : (bt (rdOf ByteArray.empty l0 x6_1) 0) = a1
     ·rw [if_pos c10] at H
      have c10b0 : ((bt (rdOf ByteArray.empty l0 x6_1) 0) == a1) = true := beq_iff_eq.mpr c10
      have c10b1 : ((bt (rdOf ByteArray.empty l0 x6_1) 0) != a1) = false := bne_eq_false_iff_eq.mpr c10
      clear c10
      replace H := ip H; obtain ⟨c11, H⟩ := H; have c11b0 := eq_true c11
      have c11b1 : decide (1 ≤ ((rdOf ByteArray.empty l0 x6_1).size : Int)) = true := decide_eq_true c11
      clear c11
      replace H := ip H; obtain ⟨c12, H⟩ := H; have LMc12 := Aside0.mk c12; clear c12; obtain ⟨y442, hy442⟩ : ∃ y_ : List ByteArray, y_ = (x5_1 ++ [(rdOf ByteArray.empty l0 x6_1).extract 1 (rdOf ByteArray.empty l0 x6_1).size]) := ⟨_, rfl⟩
      replace H : (spec_l3Ends.l0 k1 l0 a1 y442 (wrap64 (x6_1 + 1))) = some r := by first | (rw [hy442]; with_reducible exact H) | (have H2_ := bm H; rw [hy442]; with_reducible exact H2_) | (with_reducible exact bm H) | with_reducible exact H | (rw [hy442]; exact H) | exact H
      have Ny442 := am hy442; clear hy442
      have H' := am H
      clear H
      have p439 : 0 ≤ (x6_1 : Int) := of_decide_eq_true ad
      have q439 : x6_1 < (l0.length : Int) := of_decide_eq_true ad
      obtain ⟨ad439, e439, hx439_0⟩ := Kd.at_string HR0.out x6_1 p439 q439
      cases e439
      replace hx439_0 := kp HB.out hx439_0; replace p439 := eq_true p439; replace q439 := eq_true q439
      have p440 : 0 ≤ (x6_1 : Int) := of_decide_eq_true ad
      have q440 : x6_1 < (l0.length : Int) := of_decide_eq_true ad
      obtain ⟨ad440, e440, hx440_0⟩ := Kd.at_string HR0.out x6_1 p440 q440
      obtain rfl : ad439 = ad440 := (by injection e440)
      replace hx440_0 := kp HB.out hx440_0; replace p440 := eq_true p440; replace q440 := eq_true q440
      have p9 : 0 ≤ (0 : Int) := (by omega)
      have q9 : 0 < (rdOf ByteArray.empty l0 x6_1).size := (by have : (0 : Int) < ((rdOf ByteArray.empty l0 x6_1).size : Int) := of_decide_eq_true ad; omega)
      have hx9 : ∀ h : 0 < (rdOf ByteArray.empty l0 x6_1).size, (((rdOf ByteArray.empty l0 x6_1)[0]'h).toNat : Int) = bt (rdOf ByteArray.empty l0 x6_1) 0 := bt_at (rdOf ByteArray.empty l0 x6_1) 0
      clear p9
      have qi9 : (0 < ((rdOf ByteArray.empty l0 x6_1).size : Int)) = True := eq_true (of_decide_eq_true ad)
      replace q9 := eq_true q9
      have p441 : 0 ≤ (x6_1 : Int) := of_decide_eq_true ad
      have q441 : x6_1 < (l0.length : Int) := of_decide_eq_true ad
      obtain ⟨ad441, e441, hx441_0⟩ := Kd.at_string HR0.out x6_1 p441 q441
      obtain rfl : ad439 = ad441 := (by injection e441)
      replace hx441_0 := kp HB.out hx441_0; replace p441 := eq_true p441; replace q441 := eq_true q441
      go_wp2_with (first | ((with_reducible refine gate_builtin (b := .append) (xs := #[.tmp 29, .tmp 35]) rfl ?_); at_builtin; refine Kd.R_append Kd.string (w0 := w) w.heap.size rfl (.tmp 29) (.tmp 35) 22 9 (.string ⟨#[]⟩) 16 rfl Try.underlying22 info9 rfl (by decide) (by omega) u5 x5_1 ((rdOf ByteArray.empty l0 x6_1).extract 1 (rdOf ByteArray.empty l0 x6_1).size) [.string ((rdOf ByteArray.empty l0 x6_1).extract 1 (rdOf ByteArray.empty l0 x6_1).size)] (fun _ => True) (fun _ => False) rfl rfl ?aP (fun _ hk => hk.elim) ?aF ?aO ?aB ?aS ?aL ?_; (case aP => exact rfl); (case aB => exact bel); (case aF => exact (fun _ _ => trivial)); (case aO => exact (rq HO_5.out)); (case aS => exact (below_size bel)); (case aL => have := LMc12.out; omega); intro v443 w13 ho hb hg hat; rw [← Ny442.out] at ho; replace HB := am (hb); have HO444 := am (ho); clear HO_5; clear ho hb hg hat))
      go_roundg k1
      case measure => have := HK1.out; omega
      case rel => exact ⟨(y442), (wrap64 (x6_1 + 1)), sq, H', ⟨b67_⟩, ⟨rq HO444.out⟩, ⟨bel⟩⟩
     rw [if_neg c10] at H
     have c10b0 : ((bt (rdOf ByteArray.empty l0 x6_1) 0) == a1) = false := beq_eq_false_iff_ne.mpr c10
     have c10b1 : ((bt (rdOf ByteArray.empty l0 x6_1) 0) != a1) = true := bne_iff_ne.mpr c10
     have H' := am H
     clear H
     have p439 : 0 ≤ (x6_1 : Int) := of_decide_eq_true ad
     have q439 : x6_1 < (l0.length : Int) := of_decide_eq_true ad
     obtain ⟨ad439, e439, hx439_0⟩ := Kd.at_string HR0.out x6_1 p439 q439
     cases e439
     replace hx439_0 := kp HB.out hx439_0; replace p439 := eq_true p439; replace q439 := eq_true q439
     have p440 : 0 ≤ (x6_1 : Int) := of_decide_eq_true ad
     have q440 : x6_1 < (l0.length : Int) := of_decide_eq_true ad
     obtain ⟨ad440, e440, hx440_0⟩ := Kd.at_string HR0.out x6_1 p440 q440
     obtain rfl : ad439 = ad440 := (by injection e440)
     replace hx440_0 := kp HB.out hx440_0; replace p440 := eq_true p440; replace q440 := eq_true q440
     have p9 : 0 ≤ (0 : Int) := (by omega)
     have q9 : 0 < (rdOf ByteArray.empty l0 x6_1).size := (by have : (0 : Int) < ((rdOf ByteArray.empty l0 x6_1).size : Int) := of_decide_eq_true ad; omega)
     have hx9 : ∀ h : 0 < (rdOf ByteArray.empty l0 x6_1).size, (((rdOf ByteArray.empty l0 x6_1)[0]'h).toNat : Int) = bt (rdOf ByteArray.empty l0 x6_1) 0 := bt_at (rdOf ByteArray.empty l0 x6_1) 0
     clear p9
     have qi9 : (0 < ((rdOf ByteArray.empty l0 x6_1).size : Int)) = True := eq_true (of_decide_eq_true ad)
     replace q9 := eq_true q9; go_wp2
     go_roundg k1
     case measure => have := HK1.out; omega
     case rel => exact ⟨(x5_1), (wrap64 (x6_1 + 1)), sq, H', ⟨b67_⟩, ⟨rq HO_5.out⟩, ⟨bel⟩⟩
    rw [if_neg c7] at H; have c7b0 := decide_eq_false c7
    have c7b1 : decide (0 < (rdOf ByteArray.empty l0 x6_1).size) = false := decide_eq_false (by omega)
    clear c7
    have H' := am H
    clear H
    have p439 : 0 ≤ (x6_1 : Int) := of_decide_eq_true ad
    have q439 : x6_1 < (l0.length : Int) := of_decide_eq_true ad
    obtain ⟨ad439, e439, hx439_0⟩ := Kd.at_string HR0.out x6_1 p439 q439
    cases e439
    replace hx439_0 := kp HB.out hx439_0; replace p439 := eq_true p439; replace q439 := eq_true q439; go_wp2
    go_roundg k1
    case measure => have := HK1.out; omega
    case rel => exact ⟨(x5_1), (wrap64 (x6_1 + 1)), sq, H', ⟨b67_⟩, ⟨rq HO_5.out⟩, ⟨bel⟩⟩
   rw [if_neg c5] at H; have c5b0 := decide_eq_false c5; clear c5; obtain rfl := Option.some.inj H; go_wp2; go_ret
   exact ⟨_, eq_, by (with_reducible repeat (first | apply Kd.R_alloc | apply Kd.R_drewN | apply Kd.R_drew)); exact HO_5.out, bel⟩

/-! ### spec_l3Same: function 192 -/
def spec_l3Same.l0 : Nat → List ByteArray → List ByteArray → Int → Option (Bool)
 | 0, _, _, _ => none
 | k + 1, x0, x1, x5 => if x5 < (x0.length : Int) then (if 0 ≤ x5 then (if x5 < (x1.length : Int) then (if (rdOf ByteArray.empty x0 x5).toList = (rdOf ByteArray.empty x1 x5).toList then (spec_l3Same.l0 k x0 x1 (wrap64 (x5 + 1))) else (some false)) else (none)) else (none)) else (some true)
def spec_l3Same.f (k : Nat) (l0 : List ByteArray) (l1 : List ByteArray) : Option (Bool) := if (l0.length : Int) = (l1.length : Int) then (spec_l3Same.l0 k l0 l1 0) else (some false)
theorem spec_l3Same.calls (k : Nat) (A0 : Option Addr) (c0 : Nat) (l0 : List ByteArray) (A1 : Option Addr) (c1 : Nat) (l1 : List ByteArray) (r : Bool) (w : World) (hr0 : Kd.C Kd.string w A0 l0.length l0) (hc0 : l0.length ≤ c0) (hr1 : Kd.C Kd.string w A1 l1.length l1) (hc1 : l1.length ≤ c1) (h : spec_l3Same.f k l0 l1 = some r) :
  Calls Try.prog 192 #[.slice A0 l0.length c0, .slice A1 l1.length c1] w fun e w' => e = .returned (.bool r) ∧ Drawn0 w w' := by
 have HR0 := am hr0; have HC0 := am hc0; clear hr0 hc0; have HR1 := am hr1; have HC1 := am hc1; clear hr1 hc1
 have H : (if (l0.length : Int) = (l1.length : Int) then (spec_l3Same.l0 k l0 l1 0) else (some false)) = some r := h
 clear h
 by_cases c3 : (l0.length : Int) = (l1.length : Int)
 ·rw [if_pos c3] at H
  have c3b0 : ((l0.length : Int) == (l1.length : Int)) = true := beq_iff_eq.mpr c3
  have c3b1 : ((l0.length : Int) != (l1.length : Int)) = false := bne_eq_false_iff_eq.mpr c3
  have c3b2 : (l0.length == l1.length) = true := by first | simpa using c3 | (simp at c3 ⊢; omega)
  clear c3
  have H' := am H
  clear H; go_enter Try.func192, Try.ntmps192; go_wp2
  repeat (go_quiet (fail); try go_wp2)
  go_loopg [5] k (fun kq v5 w' => ∃ (x5_1 : Int), v5 = .int .i64 x5_1 ∧ Aside0 (spec_l3Same.l0 kq l0 l1 x5_1 = some r) ∧ Aside0 (kq ≤ k) ∧ Drawn0 w w')
  case atStart => exact ⟨(0), sq, H', ⟨Nat.le_refl _⟩, dr⟩
  case round =>
   clear H'; (try clear c1); (try clear p2); (try clear c3); (try clear c3b0); (try clear c3b1); (try clear c3b2); obtain ⟨x5_1, rfl, HA, HK1, ⟨m1, rfl⟩⟩ := hrel
   cases gk with
   | zero => exact absurd HA.out (by simp [spec_l3Same.l0])
   | succ k1 =>
    have H := HA.out; clear HA
    simp only [spec_l3Same.l0] at H
    by_cases c4 : x5_1 < (l0.length : Int)
    ·rw [if_pos c4] at H; have c4b0 := decide_eq_true c4; clear c4
     replace H := it H; obtain ⟨c5b0, H⟩ := H
     replace H := it H; obtain ⟨c6b0, H⟩ := H
     by_cases c7 : (rdOf ByteArray.empty l0 x5_1).toList = (rdOf ByteArray.empty l1 x5_1).toList
     ·rw [if_pos c7] at H
      have c7b0 : ((rdOf ByteArray.empty l0 x5_1).toList == (rdOf ByteArray.empty l1 x5_1).toList) = true := beq_iff_eq.mpr c7
      have c7b1 : ((rdOf ByteArray.empty l0 x5_1).toList != (rdOf ByteArray.empty l1 x5_1).toList) = false := bne_eq_false_iff_eq.mpr c7
      clear c7
      have H' := am H
      clear H
      have p445 : 0 ≤ (x5_1 : Int) := of_decide_eq_true ad
      have q445 : x5_1 < (l0.length : Int) := of_decide_eq_true ad
      obtain ⟨ad445, e445, hx445_0⟩ := Kd.at_string HR0.out x5_1 p445 q445
      cases e445
      replace p445 := eq_true p445; replace q445 := eq_true q445
      have p446 : 0 ≤ (x5_1 : Int) := of_decide_eq_true ad
      have q446 : x5_1 < (l1.length : Int) := of_decide_eq_true ad
      obtain ⟨ad446, e446, hx446_0⟩ := Kd.at_string HR1.out x5_1 p446 q446
      cases e446
      replace p446 := eq_true p446; replace q446 := eq_true q446; go_wp2
      repeat (go_quiet (fail); try go_wp2)
      go_roundg k1
      case measure => have := HK1.out; omega
      case rel => exact ⟨(wrap64 (x5_1 + 1)), sq, H', ⟨b67_⟩, dr⟩
     rw [if_neg c7] at H
     have c7b0 : ((rdOf ByteArray.empty l0 x5_1).toList == (rdOf ByteArray.empty l1 x5_1).toList) = false := beq_eq_false_iff_ne.mpr c7
     have c7b1 : ((rdOf ByteArray.empty l0 x5_1).toList != (rdOf ByteArray.empty l1 x5_1).toList) = true := bne_iff_ne.mpr c7
     obtain rfl := Option.some.inj H
     have p445 : 0 ≤ (x5_1 : Int) := of_decide_eq_true ad
     have q445 : x5_1 < (l0.length : Int) := of_decide_eq_true ad
     obtain ⟨ad445, e445, hx445_0⟩ := Kd.at_string HR0.out x5_1 p445 q445
     cases e445
     replace p445 := eq_true p445; replace q445 := eq_true q445
     have p446 : 0 ≤ (x5_1 : Int) := of_decide_eq_true ad
     have q446 : x5_1 < (l1.length : Int) := of_decide_eq_true ad
     obtain ⟨ad446, e446, hx446_0⟩ := Kd.at_string HR1.out x5_1 p446 q446
     cases e446
     replace p446 := eq_true p446; replace q446 := eq_true q446; go_wp2
     repeat (go_quiet (fail); try go_wp2)
     go_ret
     exact ⟨sq, dr⟩
    rw [if_neg c4] at H; have c4b0 := decide_eq_false c4; clear c4; obtain rfl := Option.some.inj H; go_wp2
    repeat (go_quiet (fail); try go_wp2)
    go_ret
    exact ⟨sq, dr⟩
 rw [if_neg c3] at H
 have c3b0 : ((l0.length : Int) == (l1.length : Int)) = false := beq_eq_false_iff_ne.mpr c3
 have c3b1 : ((l0.length : Int) != (l1.length : Int)) = true := bne_iff_ne.mpr c3
 have c3b2 : (l0.length == l1.length) = false := by first | simpa using c3 | (simp at c3 ⊢; omega)
 obtain rfl := Option.some.inj H; go_enter Try.func192, Try.ntmps192; go_wp2
 repeat (go_quiet (fail); try go_wp2)
 go_ret
 exact ⟨sq, dr⟩
-- shrunk

/-! ### spec_l3Long: function 204 -/
def spec_l3Long.l0 : Nat → List ByteArray → Int → Int → Option (Int)
 | 0, _, _, _ => none
 | k + 1, x0, x3, x4 => if x4 < (x0.length : Int) then (if 0 ≤ x4 then (if ((rdOf ByteArray.empty x0 x4).size : Int) > x3 then (spec_l3Long.l0 k x0 ((rdOf ByteArray.empty x0 x4).size : Int) (wrap64 (x4 + 1))) else (spec_l3Long.l0 k x0 x3 (wrap64 (x4 + 1)))) else (none)) else (some x3)
def spec_l3Long.f (k : Nat) (l0 : List ByteArray) : Option (Int) := spec_l3Long.l0 k l0 0 0
theorem spec_l3Long.calls (k : Nat) (A0 : Option Addr) (c0 : Nat) (l0 : List ByteArray) (r : Int) (w : World) (hr0 : Kd.C Kd.string w A0 l0.length l0) (hc0 : l0.length ≤ c0) (h : spec_l3Long.f k l0 = some r) :
  Calls Try.prog 204 #[.slice A0 l0.length c0] w fun e w' => e = .returned (.int .i64 r) ∧ Drawn0 w w' := by
 have HR0 := am hr0; have HC0 := am hc0; clear hr0 hc0
 have H : (spec_l3Long.l0 k l0 0 0) = some r := h
 clear h
 have H' := am H
 clear H; go_enter Try.func204, Try.ntmps204; go_wp2
 go_loopg [3, 4] k (fun kq v3 v4 w' => ∃ (x3_1 : Int) (x4_1 : Int), v3 = .int .i64 x3_1 ∧ v4 = .int .i64 x4_1 ∧ Aside0 (spec_l3Long.l0 kq l0 x3_1 x4_1 = some r) ∧ Aside0 (kq ≤ k) ∧ Drawn0 w w')
 case atStart => exact ⟨(0), (0), sq, sq, H', ⟨Nat.le_refl _⟩, dr⟩
 case round =>
  clear H'; obtain ⟨x3_1, x4_1, rfl, rfl, HA, HK1, ⟨m1, rfl⟩⟩ := hrel
  cases gk with
  | zero => exact absurd HA.out (by simp [spec_l3Long.l0])
  | succ k1 =>
   have H := HA.out; clear HA
   simp only [spec_l3Long.l0] at H
   by_cases c2 : x4_1 < (l0.length : Int)
   ·rw [if_pos c2] at H; have c2b0 := decide_eq_true c2; clear c2
    replace H := it H; obtain ⟨c3b0, H⟩ := H
    by_cases c4 : ((rdOf ByteArray.empty l0 x4_1).size : Int) > x3_1
    ·rw [if_pos c4] at H; have c4b0 := decide_eq_true c4; clear c4
     have H' := am H
     clear H
     have p447 : 0 ≤ (x4_1 : Int) := of_decide_eq_true ad
     have q447 : x4_1 < (l0.length : Int) := of_decide_eq_true ad
     obtain ⟨ad447, e447, hx447_0⟩ := Kd.at_string HR0.out x4_1 p447 q447
     cases e447
     replace p447 := eq_true p447; replace q447 := eq_true q447
     have p448 : 0 ≤ (x4_1 : Int) := of_decide_eq_true ad
     have q448 : x4_1 < (l0.length : Int) := of_decide_eq_true ad
     obtain ⟨ad448, e448, hx448_0⟩ := Kd.at_string HR0.out x4_1 p448 q448
     obtain rfl : ad447 = ad448 := (by injection e448)
     replace p448 := eq_true p448; replace q448 := eq_true q448; go_wp2
     go_roundg k1
     case measure => have := HK1.out; omega
     case rel => exact ⟨(((rdOf ByteArray.empty l0 x4_1).size : Int)), (wrap64 (x4_1 + 1)), sq, sq, H', ⟨b67_⟩, dr⟩
    rw [if_neg c4] at H; have c4b0 := decide_eq_false c4; clear c4
    have H' := am H
    clear H
    have p447 : 0 ≤ (x4_1 : Int) := of_decide_eq_true ad
    have q447 : x4_1 < (l0.length : Int) := of_decide_eq_true ad
    obtain ⟨ad447, e447, hx447_0⟩ := Kd.at_string HR0.out x4_1 p447 q447
    cases e447
    replace p447 := eq_true p447; replace q447 := eq_true q447; go_wp2
    go_roundg k1
    case measure => have := HK1.out; omega
    case rel => exact ⟨(x3_1), (wrap64 (x4_1 + 1)), sq, sq, H', ⟨b67_⟩, dr⟩
   rw [if_neg c2] at H; have c2b0 := decide_eq_false c2; clear c2; obtain rfl := Option.some.inj H; go_wp2; go_ret
   exact ⟨sq, dr⟩

/-! ### spec_l3Less: function 202 -/
mutual
def spec_l3Less.l0 : Nat → List ByteArray → List ByteArray → Int → Option (Bool)
 | 0, _, _, _ => none
 | k + 1, x0, x1, x5 => if x5 < (x0.length : Int) then (spec_l3Less.j1 k x0 x1 x5 (decide (x5 < (x1.length : Int)))) else (spec_l3Less.j1 k x0 x1 x5 false)
def spec_l3Less.j1 : Nat → List ByteArray → List ByteArray → Int → Bool → Option (Bool)
 | 0, _, _, _, _ => none
 | k + 1, x0, x1, x5, x25 => if x25 = true then (if 0 ≤ x5 then (if x5 < (x0.length : Int) then (if x5 < (x1.length : Int) then (if (rdOf ByteArray.empty x0 x5).toList = (rdOf ByteArray.empty x1 x5).toList then (spec_l3Less.l0 k x0 x1 (wrap64 (x5 + 1))) else (some (Op.bytesLess ((rdOf ByteArray.empty x0 x5).toList) ((rdOf ByteArray.empty x1 x5).toList)))) else (none)) else (none)) else (none)) else (some (decide ((x0.length : Int) < (x1.length : Int))))
end
def spec_l3Less.f (k : Nat) (l0 : List ByteArray) (l1 : List ByteArray) : Option (Bool) := (spec_l3Long.f k l0).bind fun t449 => ((spec_l3Long.f k l1).bind fun t450 => (if t449 = t450 then (spec_l3Less.l0 k l0 l1 0) else ((spec_l3Long.f k l0).bind fun t451 => ((spec_l3Long.f k l1).bind fun t452 => (some (decide (t451 > t452)))))))
theorem spec_l3Less.calls (k : Nat) (A0 : Option Addr) (c0 : Nat) (l0 : List ByteArray) (A1 : Option Addr) (c1 : Nat) (l1 : List ByteArray) (r : Bool) (w : World) (hr0 : Kd.C Kd.string w A0 l0.length l0) (hc0 : l0.length ≤ c0) (hr1 : Kd.C Kd.string w A1 l1.length l1) (hc1 : l1.length ≤ c1) (h : spec_l3Less.f k l0 l1 = some r) :
  Calls Try.prog 202 #[.slice A0 l0.length c0, .slice A1 l1.length c1] w fun e w' => e = .returned (.bool r) ∧ Drawn0 w w' := by
 have HR0 := am hr0; have HC0 := am hc0; clear hr0 hc0; have HR1 := am hr1; have HC1 := am hc1; clear hr1 hc1
 have H : ((spec_l3Long.f k l0).bind fun t449 => ((spec_l3Long.f k l1).bind fun t450 => (if t449 = t450 then (spec_l3Less.l0 k l0 l1 0) else ((spec_l3Long.f k l0).bind fun t451 => ((spec_l3Long.f k l1).bind fun t452 => (some (decide (t451 > t452)))))))) = some r := h
 clear h; replace H := bs H; obtain ⟨t449, A30, H⟩ := H; replace H : ((spec_l3Long.f k l1).bind fun t450 => (if t449 = t450 then (spec_l3Less.l0 k l0 l1 0) else ((spec_l3Long.f k l0).bind fun t451 => ((spec_l3Long.f k l1).bind fun t452 => (some (decide (t451 > t452))))))) = some r := H; have A3 := Aside0.mk A30; clear A30; replace H := bs H; obtain ⟨t450, A40, H⟩ := H; replace H : (if t449 = t450 then (spec_l3Less.l0 k l0 l1 0) else ((spec_l3Long.f k l0).bind fun t451 => ((spec_l3Long.f k l1).bind fun t452 => (some (decide (t451 > t452)))))) = some r := H; have A4 := Aside0.mk A40; clear A40
 by_cases c5 : t449 = t450
 ·rw [if_pos c5] at H
  have c5b0 : (t449 == t450) = true := beq_iff_eq.mpr c5
  have c5b1 : (t449 != t450) = false := bne_eq_false_iff_eq.mpr c5
  clear c5
  have H' := am H
  clear H; go_enter Try.func202, Try.ntmps202
  go_wp2_with (first | (go_at_call 204; (with_reducible refine (spec_l3Long.calls k _ _ l0 t449 _ ?side1 ?side2 A3.out).mono ?_); (case side1 => repeat (first | exact HR0.out | (with_reducible refine Kd.C_alloc ?_ _) | (with_reducible refine Kd.C_drewN ?_ _) | (with_reducible refine Kd.C_drew ?_))); (case side2 => exact HC0.out); rintro e w' ⟨rfl, ⟨nd, rfl⟩⟩; (try first | exact ⟨rfl, _, World.drewN_drewN _ _ _⟩ | exact ⟨rfl, _, Eq.trans (World.drewN_drewN _ _ _) (congrArg (World.drewN _) (Nat.add_assoc _ _ _))⟩)) | (go_at_call 204; (with_reducible refine (spec_l3Long.calls k _ _ l1 t450 _ ?side1 ?side2 A4.out).mono ?_); (case side1 => repeat (first | exact HR1.out | (with_reducible refine Kd.C_alloc ?_ _) | (with_reducible refine Kd.C_drewN ?_ _) | (with_reducible refine Kd.C_drew ?_))); (case side2 => exact HC1.out); rintro e w' ⟨rfl, ⟨nd, rfl⟩⟩; (try first | exact ⟨rfl, _, World.drewN_drewN _ _ _⟩ | exact ⟨rfl, _, Eq.trans (World.drewN_drewN _ _ _) (congrArg (World.drewN _) (Nat.add_assoc _ _ _))⟩)))
  repeat (go_quiet (first | (go_at_call 204; (with_reducible refine (spec_l3Long.calls k _ _ l0 t449 _ ?side1 ?side2 A3.out).mono ?_); (case side1 => repeat (first | exact HR0.out | (with_reducible refine Kd.C_alloc ?_ _) | (with_reducible refine Kd.C_drewN ?_ _) | (with_reducible refine Kd.C_drew ?_))); (case side2 => exact HC0.out); rintro e w' ⟨rfl, ⟨nd, rfl⟩⟩; (try first | exact ⟨rfl, _, World.drewN_drewN _ _ _⟩ | exact ⟨rfl, _, Eq.trans (World.drewN_drewN _ _ _) (congrArg (World.drewN _) (Nat.add_assoc _ _ _))⟩)) | (go_at_call 204; (with_reducible refine (spec_l3Long.calls k _ _ l1 t450 _ ?side1 ?side2 A4.out).mono ?_); (case side1 => repeat (first | exact HR1.out | (with_reducible refine Kd.C_alloc ?_ _) | (with_reducible refine Kd.C_drewN ?_ _) | (with_reducible refine Kd.C_drew ?_))); (case side2 => exact HC1.out); rintro e w' ⟨rfl, ⟨nd, rfl⟩⟩; (try first | exact ⟨rfl, _, World.drewN_drewN _ _ _⟩ | exact ⟨rfl, _, Eq.trans (World.drewN_drewN _ _ _) (congrArg (World.drewN _) (Nat.add_assoc _ _ _))⟩))); try go_wp2_with (first | (go_at_call 204; (with_reducible refine (spec_l3Long.calls k _ _ l0 t449 _ ?side1 ?side2 A3.out).mono ?_); (case side1 => repeat (first | exact HR0.out | (with_reducible refine Kd.C_alloc ?_ _) | (with_reducible refine Kd.C_drewN ?_ _) | (with_reducible refine Kd.C_drew ?_))); (case side2 => exact HC0.out); rintro e w' ⟨rfl, ⟨nd, rfl⟩⟩; (try first | exact ⟨rfl, _, World.drewN_drewN _ _ _⟩ | exact ⟨rfl, _, Eq.trans (World.drewN_drewN _ _ _) (congrArg (World.drewN _) (Nat.add_assoc _ _ _))⟩)) | (go_at_call 204; (with_reducible refine (spec_l3Long.calls k _ _ l1 t450 _ ?side1 ?side2 A4.out).mono ?_); (case side1 => repeat (first | exact HR1.out | (with_reducible refine Kd.C_alloc ?_ _) | (with_reducible refine Kd.C_drewN ?_ _) | (with_reducible refine Kd.C_drew ?_))); (case side2 => exact HC1.out); rintro e w' ⟨rfl, ⟨nd, rfl⟩⟩; (try first | exact ⟨rfl, _, World.drewN_drewN _ _ _⟩ | exact ⟨rfl, _, Eq.trans (World.drewN_drewN _ _ _) (congrArg (World.drewN _) (Nat.add_assoc _ _ _))⟩))))
  go_loopg [5] k (fun kq v5 w' => ∃ (x5_1 : Int), v5 = .int .i64 x5_1 ∧ Aside0 (spec_l3Less.l0 kq l0 l1 x5_1 = some r) ∧ Aside0 (kq ≤ k) ∧ Drawn0 w w')
  case atStart => exact ⟨(0), sq, H', ⟨Nat.le_refl _⟩, dr⟩
  case round =>
   clear H'; (try clear c1); (try clear c2); (try clear p2); (try clear c5); (try clear c5b0); (try clear c5b1); obtain ⟨x5_1, rfl, HA, HK1, ⟨m1, rfl⟩⟩ := hrel
   cases gk with
   | zero => exact absurd HA.out (by simp [spec_l3Less.l0])
   | succ k1 =>
    have H := HA.out; clear HA
    simp only [spec_l3Less.l0] at H
    have HC6 := am H; clear H
    go_upto_region 4 with (fail)
    repeat (go_quiet (fail); go_upto_region 4 with (fail))
    go_cut [25] (fun v25 wc => ∃ (kq : Nat) (x25_5 : Bool), v25 = .bool x25_5 ∧ Aside0 (spec_l3Less.j1 kq l0 l1 x5_1 x25_5 = some r) ∧ Aside0 (kq ≤ k1) ∧ Drawn0 w wc)
    case first =>
     have H := HC6.out; clear HC6
     by_cases c7 : x5_1 < (l0.length : Int)
     ·rw [if_pos c7] at H; have c7b0 := decide_eq_true c7; clear c7
      (first | rw [c7b0] | (simp only [i64_w, i32_w]; rw [c7b0]) | skip)
      have H' := am H
      clear H; go_wp2
      repeat (go_quiet (fail); try go_wp2)
      go_meet
      case rel => exact ⟨_, (decide (x5_1 < (l1.length : Int))), sq, H', ⟨b27_⟩, dr⟩
     rw [if_neg c7] at H; have c7b0 := decide_eq_false c7; clear c7
     (first | rw [c7b0] | (simp only [i64_w, i32_w]; rw [c7b0]) | skip)
     have H' := am H
     clear H; go_wp2
     repeat (go_quiet (fail); try go_wp2)
     go_meet
     case rel => exact ⟨_, (false), sq, H', ⟨b27_⟩, dr⟩
    case rest =>
     clear HC6; (try clear c1); (try clear c2); (try clear p2); (try clear c5); (try clear c5b0); (try clear c5b1); (try clear c7); (try clear c7b0); (try clear p2); obtain ⟨kq, x25_5, rfl, HA, HJ5, ⟨mc5, rfl⟩⟩ := hcut
     cases kq with
     | zero => exact absurd HA.out (by simp [spec_l3Less.j1])
     | succ kj5 =>
      have H := HA.out; clear HA
      simp only [spec_l3Less.j1] at H
      by_cases c8 : x25_5 = true
      ·subst c8
       have H1 : (if 0 ≤ x5_1 then (if x5_1 < (l0.length : Int) then (if x5_1 < (l1.length : Int) then (if (rdOf ByteArray.empty l0 x5_1).toList = (rdOf ByteArray.empty l1 x5_1).toList then (spec_l3Less.l0 kj5 l0 l1 (wrap64 (x5_1 + 1))) else (some (Op.bytesLess ((rdOf ByteArray.empty l0 x5_1).toList) ((rdOf ByteArray.empty l1 x5_1).toList)))) else (none)) else (none)) else (none)) = some r := b21_
       replace H := H1; clear H1
       replace H := it H; obtain ⟨c9b0, H⟩ := H
       replace H := it H; obtain ⟨c10b0, H⟩ := H
       replace H := it H; obtain ⟨c11b0, H⟩ := H
       by_cases c12 : (rdOf ByteArray.empty l0 x5_1).toList = (rdOf ByteArray.empty l1 x5_1).toList
       ·rw [if_pos c12] at H
        have c12b0 : ((rdOf ByteArray.empty l0 x5_1).toList == (rdOf ByteArray.empty l1 x5_1).toList) = true := beq_iff_eq.mpr c12
        have c12b1 : ((rdOf ByteArray.empty l0 x5_1).toList != (rdOf ByteArray.empty l1 x5_1).toList) = false := bne_eq_false_iff_eq.mpr c12
        clear c12
        have H' := am H
        clear H
        have p453 : 0 ≤ (x5_1 : Int) := of_decide_eq_true ad
        have q453 : x5_1 < (l0.length : Int) := of_decide_eq_true ad
        obtain ⟨ad453, e453, hx453_0⟩ := Kd.at_string HR0.out x5_1 p453 q453
        cases e453
        replace p453 := eq_true p453; replace q453 := eq_true q453
        have p454 : 0 ≤ (x5_1 : Int) := of_decide_eq_true ad
        have q454 : x5_1 < (l1.length : Int) := of_decide_eq_true ad
        obtain ⟨ad454, e454, hx454_0⟩ := Kd.at_string HR1.out x5_1 p454 q454
        cases e454
        replace p454 := eq_true p454; replace q454 := eq_true q454; go_wp2
        repeat (go_quiet (fail); try go_wp2)
        go_roundg kj5
        case measure => have := HK1.out; have := HJ5.out; omega
        case rel => exact ⟨(wrap64 (x5_1 + 1)), sq, H', ⟨by have := HK1.out; have := HJ5.out; omega⟩, dr⟩
       rw [if_neg c12] at H
       have c12b0 : ((rdOf ByteArray.empty l0 x5_1).toList == (rdOf ByteArray.empty l1 x5_1).toList) = false := beq_eq_false_iff_ne.mpr c12
       have c12b1 : ((rdOf ByteArray.empty l0 x5_1).toList != (rdOf ByteArray.empty l1 x5_1).toList) = true := bne_iff_ne.mpr c12
       obtain rfl := Option.some.inj H
       have p453 : 0 ≤ (x5_1 : Int) := of_decide_eq_true ad
       have q453 : x5_1 < (l0.length : Int) := of_decide_eq_true ad
       obtain ⟨ad453, e453, hx453_0⟩ := Kd.at_string HR0.out x5_1 p453 q453
       cases e453
       replace p453 := eq_true p453; replace q453 := eq_true q453
       have p454 : 0 ≤ (x5_1 : Int) := of_decide_eq_true ad
       have q454 : x5_1 < (l1.length : Int) := of_decide_eq_true ad
       obtain ⟨ad454, e454, hx454_0⟩ := Kd.at_string HR1.out x5_1 p454 q454
       cases e454
       replace p454 := eq_true p454; replace q454 := eq_true q454
       have p455 : 0 ≤ (x5_1 : Int) := of_decide_eq_true ad
       have q455 : x5_1 < (l0.length : Int) := of_decide_eq_true ad
       obtain ⟨ad455, e455, hx455_0⟩ := Kd.at_string HR0.out x5_1 p455 q455
       obtain rfl : ad453 = ad455 := (by injection e455)
       replace p455 := eq_true p455; replace q455 := eq_true q455
       have p456 : 0 ≤ (x5_1 : Int) := of_decide_eq_true ad
       have q456 : x5_1 < (l1.length : Int) := of_decide_eq_true ad
       obtain ⟨ad456, e456, hx456_0⟩ := Kd.at_string HR1.out x5_1 p456 q456
       obtain rfl : ad454 = ad456 := (by injection e456)
       replace p456 := eq_true p456; replace q456 := eq_true q456; go_wp2
       repeat (go_quiet (fail); try go_wp2)
       go_ret
       exact ⟨sq, dr⟩
      replace c8 := Bool.eq_false_iff.mpr c8; subst c8
      have H1 : (some (decide ((l0.length : Int) < (l1.length : Int)))) = some r := b6_
      replace H := H1; clear H1
      obtain rfl := Option.some.inj H; go_wp2
      repeat (go_quiet (fail); try go_wp2)
      go_ret
      exact ⟨sq, dr⟩
 rw [if_neg c5] at H
 have c5b0 : (t449 == t450) = false := beq_eq_false_iff_ne.mpr c5
 have c5b1 : (t449 != t450) = true := bne_iff_ne.mpr c5
 replace H := bs H; obtain ⟨t451, A130, H⟩ := H; replace H : ((spec_l3Long.f k l1).bind fun t452 => (some (decide (t451 > t452)))) = some r := H; have A13 := Aside0.mk A130; clear A130
 have same_t451 : t451 = t449 := Option.some.inj (A13.out.symm.trans A3.out)
 replace H := bs H; obtain ⟨t452, A140, H⟩ := H; replace H : (some (decide (t451 > t452))) = some r := H; have A14 := Aside0.mk A140; clear A140
 have same_t452 : t452 = t450 := Option.some.inj (A14.out.symm.trans A4.out)
 obtain rfl := Option.some.inj H; go_enter Try.func202, Try.ntmps202
 go_wp2_with (first | (go_at_call 204; (with_reducible refine (spec_l3Long.calls k _ _ l0 t449 _ ?side1 ?side2 A3.out).mono ?_); (case side1 => repeat (first | exact HR0.out | (with_reducible refine Kd.C_alloc ?_ _) | (with_reducible refine Kd.C_drewN ?_ _) | (with_reducible refine Kd.C_drew ?_))); (case side2 => exact HC0.out); rintro e w' ⟨rfl, ⟨nd, rfl⟩⟩; (try first | exact ⟨rfl, _, World.drewN_drewN _ _ _⟩ | exact ⟨rfl, _, Eq.trans (World.drewN_drewN _ _ _) (congrArg (World.drewN _) (Nat.add_assoc _ _ _))⟩)) | (go_at_call 204; (with_reducible refine (spec_l3Long.calls k _ _ l1 t450 _ ?side1 ?side2 A4.out).mono ?_); (case side1 => repeat (first | exact HR1.out | (with_reducible refine Kd.C_alloc ?_ _) | (with_reducible refine Kd.C_drewN ?_ _) | (with_reducible refine Kd.C_drew ?_))); (case side2 => exact HC1.out); rintro e w' ⟨rfl, ⟨nd, rfl⟩⟩; (try first | exact ⟨rfl, _, World.drewN_drewN _ _ _⟩ | exact ⟨rfl, _, Eq.trans (World.drewN_drewN _ _ _) (congrArg (World.drewN _) (Nat.add_assoc _ _ _))⟩)) | (go_at_call 204; (with_reducible refine (spec_l3Long.calls k _ _ l0 t451 _ ?side1 ?side2 A13.out).mono ?_); (case side1 => repeat (first | exact HR0.out | (with_reducible refine Kd.C_alloc ?_ _) | (with_reducible refine Kd.C_drewN ?_ _) | (with_reducible refine Kd.C_drew ?_))); (case side2 => exact HC0.out); rintro e w' ⟨rfl, ⟨nd, rfl⟩⟩; (try first | exact ⟨rfl, _, World.drewN_drewN _ _ _⟩ | exact ⟨rfl, _, Eq.trans (World.drewN_drewN _ _ _) (congrArg (World.drewN _) (Nat.add_assoc _ _ _))⟩)) | (go_at_call 204; (with_reducible refine (spec_l3Long.calls k _ _ l1 t452 _ ?side1 ?side2 A14.out).mono ?_); (case side1 => repeat (first | exact HR1.out | (with_reducible refine Kd.C_alloc ?_ _) | (with_reducible refine Kd.C_drewN ?_ _) | (with_reducible refine Kd.C_drew ?_))); (case side2 => exact HC1.out); rintro e w' ⟨rfl, ⟨nd, rfl⟩⟩; (try first | exact ⟨rfl, _, World.drewN_drewN _ _ _⟩ | exact ⟨rfl, _, Eq.trans (World.drewN_drewN _ _ _) (congrArg (World.drewN _) (Nat.add_assoc _ _ _))⟩)))
 repeat (go_quiet (first | (go_at_call 204; (with_reducible refine (spec_l3Long.calls k _ _ l0 t449 _ ?side1 ?side2 A3.out).mono ?_); (case side1 => repeat (first | exact HR0.out | (with_reducible refine Kd.C_alloc ?_ _) | (with_reducible refine Kd.C_drewN ?_ _) | (with_reducible refine Kd.C_drew ?_))); (case side2 => exact HC0.out); rintro e w' ⟨rfl, ⟨nd, rfl⟩⟩; (try first | exact ⟨rfl, _, World.drewN_drewN _ _ _⟩ | exact ⟨rfl, _, Eq.trans (World.drewN_drewN _ _ _) (congrArg (World.drewN _) (Nat.add_assoc _ _ _))⟩)) | (go_at_call 204; (with_reducible refine (spec_l3Long.calls k _ _ l1 t450 _ ?side1 ?side2 A4.out).mono ?_); (case side1 => repeat (first | exact HR1.out | (with_reducible refine Kd.C_alloc ?_ _) | (with_reducible refine Kd.C_drewN ?_ _) | (with_reducible refine Kd.C_drew ?_))); (case side2 => exact HC1.out); rintro e w' ⟨rfl, ⟨nd, rfl⟩⟩; (try first | exact ⟨rfl, _, World.drewN_drewN _ _ _⟩ | exact ⟨rfl, _, Eq.trans (World.drewN_drewN _ _ _) (congrArg (World.drewN _) (Nat.add_assoc _ _ _))⟩)) | (go_at_call 204; (with_reducible refine (spec_l3Long.calls k _ _ l0 t451 _ ?side1 ?side2 A13.out).mono ?_); (case side1 => repeat (first | exact HR0.out | (with_reducible refine Kd.C_alloc ?_ _) | (with_reducible refine Kd.C_drewN ?_ _) | (with_reducible refine Kd.C_drew ?_))); (case side2 => exact HC0.out); rintro e w' ⟨rfl, ⟨nd, rfl⟩⟩; (try first | exact ⟨rfl, _, World.drewN_drewN _ _ _⟩ | exact ⟨rfl, _, Eq.trans (World.drewN_drewN _ _ _) (congrArg (World.drewN _) (Nat.add_assoc _ _ _))⟩)) | (go_at_call 204; (with_reducible refine (spec_l3Long.calls k _ _ l1 t452 _ ?side1 ?side2 A14.out).mono ?_); (case side1 => repeat (first | exact HR1.out | (with_reducible refine Kd.C_alloc ?_ _) | (with_reducible refine Kd.C_drewN ?_ _) | (with_reducible refine Kd.C_drew ?_))); (case side2 => exact HC1.out); rintro e w' ⟨rfl, ⟨nd, rfl⟩⟩; (try first | exact ⟨rfl, _, World.drewN_drewN _ _ _⟩ | exact ⟨rfl, _, Eq.trans (World.drewN_drewN _ _ _) (congrArg (World.drewN _) (Nat.add_assoc _ _ _))⟩))); try go_wp2_with (first | (go_at_call 204; (with_reducible refine (spec_l3Long.calls k _ _ l0 t449 _ ?side1 ?side2 A3.out).mono ?_); (case side1 => repeat (first | exact HR0.out | (with_reducible refine Kd.C_alloc ?_ _) | (with_reducible refine Kd.C_drewN ?_ _) | (with_reducible refine Kd.C_drew ?_))); (case side2 => exact HC0.out); rintro e w' ⟨rfl, ⟨nd, rfl⟩⟩; (try first | exact ⟨rfl, _, World.drewN_drewN _ _ _⟩ | exact ⟨rfl, _, Eq.trans (World.drewN_drewN _ _ _) (congrArg (World.drewN _) (Nat.add_assoc _ _ _))⟩)) | (go_at_call 204; (with_reducible refine (spec_l3Long.calls k _ _ l1 t450 _ ?side1 ?side2 A4.out).mono ?_); (case side1 => repeat (first | exact HR1.out | (with_reducible refine Kd.C_alloc ?_ _) | (with_reducible refine Kd.C_drewN ?_ _) | (with_reducible refine Kd.C_drew ?_))); (case side2 => exact HC1.out); rintro e w' ⟨rfl, ⟨nd, rfl⟩⟩; (try first | exact ⟨rfl, _, World.drewN_drewN _ _ _⟩ | exact ⟨rfl, _, Eq.trans (World.drewN_drewN _ _ _) (congrArg (World.drewN _) (Nat.add_assoc _ _ _))⟩)) | (go_at_call 204; (with_reducible refine (spec_l3Long.calls k _ _ l0 t451 _ ?side1 ?side2 A13.out).mono ?_); (case side1 => repeat (first | exact HR0.out | (with_reducible refine Kd.C_alloc ?_ _) | (with_reducible refine Kd.C_drewN ?_ _) | (with_reducible refine Kd.C_drew ?_))); (case side2 => exact HC0.out); rintro e w' ⟨rfl, ⟨nd, rfl⟩⟩; (try first | exact ⟨rfl, _, World.drewN_drewN _ _ _⟩ | exact ⟨rfl, _, Eq.trans (World.drewN_drewN _ _ _) (congrArg (World.drewN _) (Nat.add_assoc _ _ _))⟩)) | (go_at_call 204; (with_reducible refine (spec_l3Long.calls k _ _ l1 t452 _ ?side1 ?side2 A14.out).mono ?_); (case side1 => repeat (first | exact HR1.out | (with_reducible refine Kd.C_alloc ?_ _) | (with_reducible refine Kd.C_drewN ?_ _) | (with_reducible refine Kd.C_drew ?_))); (case side2 => exact HC1.out); rintro e w' ⟨rfl, ⟨nd, rfl⟩⟩; (try first | exact ⟨rfl, _, World.drewN_drewN _ _ _⟩ | exact ⟨rfl, _, Eq.trans (World.drewN_drewN _ _ _) (congrArg (World.drewN _) (Nat.add_assoc _ _ _))⟩))))
 go_ret
 exact ⟨sq, dr⟩
-- shrunk

/-! ### spec_l3Sort: function 193 -/
mutual
def spec_l3Sort.l0 : Nat → List (List ByteArray) → List (List ByteArray) → Int → Option ((List (List ByteArray)))
 | 0, _, _, _ => none
 | k + 1, x0, x3, x4 => if x4 < (x0.length : Int) then (spec_l3Sort.l1 k x0 x3 x4 (x3.length : Int)) else (some x3)
def spec_l3Sort.l1 : Nat → List (List ByteArray) → List (List ByteArray) → Int → Int → Option ((List (List ByteArray)))
 | 0, _, _, _, _ => none
 | k + 1, x0, x3, x4, x5 => if x5 > 0 then (if 0 ≤ x4 then (if x4 < (x0.length : Int) then (if 0 ≤ (wrap64 (x5 - 1)) then (if (wrap64 (x5 - 1)) < (x3.length : Int) then ((spec_l3Less.f k (rd_L9 x0 x4) (rd_L9 x3 (wrap64 (x5 - 1)))).bind fun t462 => (spec_l3Sort.j2 k x0 x3 x4 x5 t462)) else (none)) else (none)) else (none)) else (none)) else (spec_l3Sort.j2 k x0 x3 x4 x5 false)
def spec_l3Sort.j2 : Nat → List (List ByteArray) → List (List ByteArray) → Int → Int → Bool → Option ((List (List ByteArray)))
 | 0, _, _, _, _, _ => none
 | k + 1, x0, x3, x4, x5, x28 => if x28 = true then (spec_l3Sort.l1 k x0 x3 x4 (wrap64 (x5 - 1))) else ((some (([] : List (List ByteArray)) : List (List ByteArray))).bind fun y463 => (if 0 ≤ x5 then (if x5 ≤ (x3.length : Int) then ((some (x3.take (x5 : Int).toNat : List (List ByteArray))).bind fun y466 => (if y463.length + y466.length < 5864062014805 then ((some (y463 ++ y466 : List (List ByteArray))).bind fun y471 => (if 0 ≤ x4 then (if x4 < (x0.length : Int) then ((some (([rd_L9 x0 x4] : List (List ByteArray)) : List (List ByteArray))).bind fun y475 => (if y471.length + y475.length < 5864062014805 then ((some (y471 ++ y475 : List (List ByteArray))).bind fun y478 => ((some (x3.drop (x5 : Int).toNat : List (List ByteArray))).bind fun y481 => (if y478.length + y481.length < 5864062014805 then (spec_l3Sort.l0 k x0 (y478 ++ y481) (wrap64 (x4 + 1))) else (none)))) else (none))) else (none)) else (none))) else (none))) else (none)) else (none)))
end
def spec_l3Sort.f (k : Nat) (l0 : List (List ByteArray)) : Option ((List (List ByteArray))) := spec_l3Sort.l0 k l0 (([] : List (List ByteArray))) 0
def spec_l3Sort.T6 : Bool × List (List Nat × List Nat) := (true, [([], []), ([0], [0]), ([1], [1]), ([2], [2]), ([2], [2]), ([3, 4, 2], [2, 3, 4]), ([5, 2], [2, 5]), ([2], [2]), ([2], [2]), ([8, 2], [2, 8]), ([7, 9, 2], [2, 7, 9]), ([10, 2], [2, 10]), ([6, 11, 2, 2], [2, 6, 11]), ([2, 12], [2, 12])])
def spec_l3Sort.B6 : List Nat := [0, 1, 3, 7, 7, 31, 63, 7, 7, 263, 903, 1927, 4095, 8191]
theorem spec_l3Sort.tab6 : rtab .any (opsOf Try.f193 6) = spec_l3Sort.T6 := by kernel_rfl
theorem spec_l3Sort.bits6 : waitsOk spec_l3Sort.T6.2 spec_l3Sort.B6 = true := by kernel_rfl
def spec_l3Sort.T8 : Bool × List (List Nat × List Nat) := (true, [([], []), ([], []), ([], []), ([1, 2], [1, 2]), ([0, 3], [0, 3]), ([], []), ([], []), ([5, 6], [5, 6]), ([7], [7]), ([8], [8]), ([4, 9, 4], [4, 9]), ([], []), ([], []), ([11, 12], [11, 12]), ([10, 13, 10], [10, 13]), ([14, 14, 0, 1, 2, 3, 4, 5, 6, 7, 8, 9, 10, 11, 12, 13, 14], [1, 11, 14])])
def spec_l3Sort.B8 : List Nat := [0, 0, 0, 6, 15, 0, 0, 96, 224, 480, 1023, 0, 0, 6144, 16383, 32767]
theorem spec_l3Sort.tab8 : rtab .any (opsOf Try.f193 8) = spec_l3Sort.T8 := by kernel_rfl
theorem spec_l3Sort.bits8 : waitsOk spec_l3Sort.T8.2 spec_l3Sort.B8 = true := by kernel_rfl
theorem spec_l3Sort.calls (k : Nat) (P0_ : Nat → Prop) (A0 : Option Addr) (c0 : Nat) (l0 : List (List ByteArray)) (r : List (List ByteArray)) (w : World) (hs0 : Kd.V (Kd.slice 9 Kd.string) 22 w w.heap.size (fun k_ => P0_ k_) (.slice A0 l0.length c0) l0) (h : spec_l3Sort.f k l0 = some r) :
  Calls Try.prog 193 #[.slice A0 l0.length c0] w fun e w' => ∃ v0_ : Value, e = .returned (v0_) ∧ Kd.N (Kd.slice 9 Kd.string) 22 w' w.heap.size (fun k_ => (P0_ k_ ∨ w.heap.size ≤ k_)) v0_ r ∧ Below w.heap.size w w' := by
 have HO0 := am (show Kd.V (Kd.slice 9 Kd.string) 22 w w.heap.size (fun k_ => (P0_ k_ ∨ w.heap.size ≤ k_)) (.slice A0 l0.length c0) l0 from Kd.V_mono hs0 (fun k_ hk => .inl hk)); have HB := am (Below.refl w.heap.size w)
 have H : (spec_l3Sort.l0 k l0 (([] : List (List ByteArray))) 0) = some r := h
 clear h; obtain ⟨y457, hy457⟩ : ∃ y_ : List (List ByteArray), y_ = (([] : List (List ByteArray))) := ⟨_, rfl⟩
 replace H : (spec_l3Sort.l0 k l0 y457 0) = some r := by first | (rw [hy457]; with_reducible exact H) | (have H2_ := bm H; rw [hy457]; with_reducible exact H2_) | (with_reducible exact bm H) | with_reducible exact H | (rw [hy457]; exact H) | exact H
 have Ny457 := am hy457; clear hy457
 have H' := am H
 clear H; go_enter Try.func193, Try.ntmps193
 go_wp2_with (first | ((with_reducible refine gate_dst (N := 6) rfl ?_); refine Kd.N_lit (Kd.slice 9 Kd.string) _ 22 ?hg (N' := 6) ?hd (xs := ([] : List (List ByteArray))) (inner := []) (ok := (fun k_ => (P0_ k_ ∨ w.heap.size ≤ k_))) (okp := (fun k_ => (P0_ k_ ∨ w.heap.size ≤ k_))) ?hr ?hp (fun _ hk => hk) ((show ∀ k_, w.heap.size ≤ k_ → (fun k_ => (P0_ k_ ∨ w.heap.size ≤ k_)) k_ from fun k_ hk => (.inr (Nat.le_trans (below_size bel) hk))) _ (Nat.le_refl _)) (Below.refl _ _) (Nat.le_refl _) (by simp) ?_; (case hd => rfl); (case hg => rfl); (case hr => first | (go_simp; done) | (go_simp; rfl)); (case hp => exact (Reps.none _ _)); intro v458 w2 ho3 hb hg_ hnew_; clear hg_ hnew_; (first | rw [← Ny457.out] at ho3 | (simp only [Int.reduceToNat] at ho3; rw [← Ny457.out] at ho3) | (simp only [Int.toNat_natCast] at ho3; rw [← Ny457.out] at ho3)); replace HO0 := am (Kd.V_elder' (vq HO0.out) (Kd.N_base ho3) hb); have HO459 := am (Kd.N_lower ho3 (below_size bel)); replace HB := am (below_step bel hb); clear hb ho3))
 go_loopg [3, 4] k (fun kq v3 v4 w' => ∃ (x3_1 : List (List ByteArray)) (x4_1 : Int), v4 = .int .i64 x4_1 ∧ Aside0 (spec_l3Sort.l0 kq l0 x3_1 x4_1 = some r) ∧ Aside0 (kq ≤ k) ∧ Aside0 (Kd.V (Kd.slice 9 Kd.string) 22 w' w.heap.size (fun k_ => (P0_ k_ ∨ w.heap.size ≤ k_) ∧ some k_ ≠ (v3 : Value).ownBlock) (.slice A0 l0.length c0) l0) ∧ Aside0 (Kd.N (Kd.slice 9 Kd.string) 22 w' w.heap.size (fun k_ => (P0_ k_ ∨ w.heap.size ≤ k_)) v3 x3_1) ∧ Aside0 (Below w.heap.size w w'))
 case atStart => exact ⟨(y457), (0), sq, H', ⟨Nat.le_refl _⟩, ⟨vq HO0.out⟩, ⟨by (with_reducible repeat (first | apply Kd.N_alloc | apply Kd.N_drewN | apply Kd.N_drew)); exact HO459.out⟩, ⟨bel⟩⟩
 case round =>
  clear H'; (try clear c1); (try clear p2); obtain ⟨x3_1, x4_1, rfl, HA, HK1, HO_0, HO_3, HB⟩ := hrel
  cases gk with
  | zero => exact absurd HA.out (by simp [spec_l3Sort.l0])
  | succ k1 =>
   have H := HA.out; clear HA
   simp only [spec_l3Sort.l0] at H
   by_cases c4 : x4_1 < (l0.length : Int)
   ·rw [if_pos c4] at H; have c4b0 := decide_eq_true c4; clear c4
    have H' := am H
    clear H; obtain ⟨Ao5, co5, eo5⟩ := Kd.N_slice HO_3.out; subst eo5; go_wp2
    go_loopg [5] k1 (fun kq v5 w' => ∃ (x5_2 : Int), v5 = .int .i64 x5_2 ∧ Aside0 (spec_l3Sort.l1 kq l0 x3_1 x4_1 x5_2 = some r) ∧ Aside0 (kq ≤ k1) ∧ Aside0 (Kd.V (Kd.slice 9 Kd.string) 22 w' w.heap.size (fun k_ => (P0_ k_ ∨ w.heap.size ≤ k_) ∧ some k_ ≠ ((.slice Ao5 x3_1.length co5) : Value).ownBlock) (.slice A0 l0.length c0) l0) ∧ Aside0 (Kd.N (Kd.slice 9 Kd.string) 22 w' w.heap.size (fun k_ => (P0_ k_ ∨ w.heap.size ≤ k_)) (.slice Ao5 x3_1.length co5) x3_1) ∧ Aside0 (Below w.heap.size w w'))
    case atStart => exact ⟨((x3_1.length : Int)), sq, H', ⟨Nat.le_refl _⟩, ⟨vq HO_0.out⟩, ⟨b9_⟩, ⟨bel⟩⟩
    case round =>
     clear H'; (try clear c1); (try clear p2); (try clear c4); (try clear c4b0); (try clear p2); obtain ⟨x5_2, rfl, HA, HK2, HO_0, HO_3, HB⟩ := hrel
     cases gk with
     | zero => exact absurd HA.out (by simp [spec_l3Sort.l1])
     | succ k2 =>
      have H := HA.out; clear HA
      simp only [spec_l3Sort.l1] at H
      have HC6 := am H; clear H
      go_upto_region 6 with (fail)
      go_cut [28] (fun v28 wc => ∃ (kq : Nat) (x28_5 : Bool), v28 = .bool x28_5 ∧ Aside0 (spec_l3Sort.j2 kq l0 x3_1 x4_1 x5_2 x28_5 = some r) ∧ Aside0 (kq ≤ k2) ∧ Aside0 (Kd.V (Kd.slice 9 Kd.string) 22 wc w.heap.size (fun k_ => (P0_ k_ ∨ w.heap.size ≤ k_) ∧ some k_ ≠ ((.slice Ao5 x3_1.length co5) : Value).ownBlock) (.slice A0 l0.length c0) l0) ∧ Aside0 (Kd.N (Kd.slice 9 Kd.string) 22 wc w.heap.size (fun k_ => (P0_ k_ ∨ w.heap.size ≤ k_)) (.slice Ao5 x3_1.length co5) x3_1) ∧ Aside0 (Below w.heap.size w wc))
      case first =>
       have H := HC6.out; clear HC6
       by_cases c7 : x5_2 > 0
       ·rw [if_pos c7] at H; have c7b0 := decide_eq_true c7; clear c7
        (first | rw [c7b0] | (simp only [i64_w, i32_w]; rw [c7b0]) | skip)
        replace H := it H; obtain ⟨c8b0, H⟩ := H
        replace H := it H; obtain ⟨c9b0, H⟩ := H; obtain ⟨ji10, hji10⟩ : ∃ j_ : Int, (wrap64 (x5_2 - 1)) = j_ := ⟨_, rfl⟩
        replace H : (if 0 ≤ (ji10) then (if (ji10) < (x3_1.length : Int) then ((spec_l3Less.f k2 (rd_L9 l0 x4_1) (rd_L9 x3_1 (ji10))).bind fun t462 => (spec_l3Sort.j2 k2 l0 x3_1 x4_1 x5_2 t462)) else (none)) else (none)) = some r := by first | (rw [hji10] at H; exact H) | (simp only [hji10] at H ⊢; exact H)
        have hji10w : (IntKind.i64.wrap (x5_2 - 1)) = ji10 := (i64_w _).trans hji10
        replace H := it H; obtain ⟨c11b0, H⟩ := H
        replace H := it H; obtain ⟨c12b0, H⟩ := H; replace H := bs H; obtain ⟨t462, A130, H⟩ := H; replace H : (spec_l3Sort.j2 k2 l0 x3_1 x4_1 x5_2 t462) = some r := H; have A13 := Aside0.mk A130; clear A130
        have H' := am H
        clear H
        try go_wp2
        replace HO_0 := am (Kd.V_drew HO_0.out); replace HO_3 := am (Kd.N_drew HO_3.out); replace HB := am (below_drew1 HB.out)
        have p460 : 0 ≤ (x4_1 : Int) := of_decide_eq_true ad
        have q460 : x4_1 < (l0.length : Int) := of_decide_eq_true ad
        obtain ⟨ad460, A460_0, c460_0, e460, hx460_0, hl460_0, hi460_0⟩ := at_L9 (Kd.V_reads' HO_0.out).2.2 x4_1 p460 q460
        cases e460
        obtain ⟨ce460, hce460, hMe460, hcc460⟩ := Kd.V_get HO_0.out [] x4_1 p460 (by first | exact q460 | exact of_decide_eq_true ad | (have e_ := (Kd.V_reads' HO_0.out).1; omega))
        obtain ⟨ua460_0, uc460_0, rfl, ul460_0, ge460_0⟩ := Kd.FK_slice_open hMe460; have hv460_0 := hcc460 0 _ rfl; rw [Nat.add_zero, show ((Kd.slice 9 Kd.string)).sz = 1 from rfl, Nat.mul_one] at hv460_0; replace hv460_0 := Option.some.inj (hv460_0.symm.trans hx460_0)
        injection hv460_0 with hva_ hvn_ hvc_
        rw [hva_] at ge460_0; rw [hvc_] at ul460_0; have HL460_0 := am (show Kd.V Kd.string 9 _ w.heap.size _ _ (rd_L9 l0 x4_1) from Kd.V_mk ul460_0 ge460_0); clear hva_ hvn_ hvc_ ge460_0 ul460_0; clear hcc460 hce460; have HR460_0 := am hi460_0; have HC460_0 := am hl460_0; clear hi460_0 hl460_0; replace p460 := eq_true p460; replace q460 := eq_true q460
        have p461 : 0 ≤ ((ji10) : Int) := of_decide_eq_true ad
        have q461 : (ji10) < (x3_1.length : Int) := of_decide_eq_true ad
        obtain ⟨ad461, A461_0, c461_0, e461, hx461_0, hl461_0, hi461_0⟩ := at_L9 (Kd.N_reads' HO_3.out).2.2 (ji10) p461 q461
        cases e461
        obtain ⟨ce461, hce461, hMe461, hcc461⟩ := Kd.N_get HO_3.out [] (ji10) p461 (by first | exact q461 | exact of_decide_eq_true ad | (have e_ := (Kd.N_reads' HO_3.out).1; omega))
        obtain ⟨ua461_0, uc461_0, rfl, ul461_0, ge461_0⟩ := Kd.FK_slice_open hMe461; have hv461_0 := hcc461 0 _ rfl; rw [Nat.add_zero, show ((Kd.slice 9 Kd.string)).sz = 1 from rfl, Nat.mul_one] at hv461_0; replace hv461_0 := Option.some.inj (hv461_0.symm.trans hx461_0)
        injection hv461_0 with hva_ hvn_ hvc_
        rw [hva_] at ge461_0; rw [hvc_] at ul461_0; have HL461_0 := am (show Kd.V Kd.string 9 _ w.heap.size _ _ (rd_L9 x3_1 (ji10)) from Kd.V_mk ul461_0 ge461_0); clear hva_ hvn_ hvc_ ge461_0 ul461_0; clear hcc461 hce461; have HR461_0 := am hi461_0; have HC461_0 := am hl461_0; clear hi461_0 hl461_0; replace p461 := eq_true p461; replace q461 := eq_true q461
        refine st (n := 14) (S := fun w' => w'.cell? (ad460.add (x4_1).toNat) = some (.slice A460_0 (rd_L9 l0 x4_1).length c460_0) ∧ w'.cell? (ad461.add ((ji10)).toNat) = some (.slice A461_0 (rd_L9 x3_1 (ji10)).length c461_0)) (ds := []) ⟨hx460_0, hx461_0⟩ (fun hHeld => ?_); refine with_tabW spec_l3Sort.tab6 spec_l3Sort.bits6 (fun HT_ HW_ => ?_)
        generalize wr.drew = w14 at HO_0 HO_3 HB HL460_0 HL461_0 HR460_0 HR461_0 hx460_0 hx461_0 hHeld ⊢
        refine pu 0 15 ?_
        refine pu 1 16 ?_
        refine pu 2 17 ?_
        refine pu 3 18 ?_
        refine pu 4 19 ?_
        refine pu 5 20 ?_
        refine pu 7 22 ?_
        refine pu 8 23 ?_
        refine pu 9 24 ?_
        refine pu 10 25 ?_
        refine tk2 6 21 hHeld ?_
        refine tk2 11 26 hHeld ?_
        refine on1 12 27 (fun K hK => ?_)
        refine goes_ Try.func202 (by kernel_rfl) rfl #[.slice A460_0 (rd_L9 l0 x4_1).length c460_0, .slice A461_0 (rd_L9 x3_1 (ji10)).length c461_0] (by rfl) rfl rfl (by (try simp only [List.map_toArray, List.map_cons, List.map_nil]); first | done | (simp only [hji10]; rfl) | rfl | (simp only [List.length_drop, List.length_take]; rfl)) ?_
        with_reducible refine (spec_l3Less.calls k2 _ _ (rd_L9 l0 x4_1) _ _ (rd_L9 x3_1 (ji10)) t462 _ ?side1 ?side2 ?side3 ?side4 A13.out).mono ?_
        (case side1 => repeat (first | exact (by repeat (first | (with_reducible exact HR460_0.out) | (with_reducible refine Kd.C_alloc ?_ _) | (with_reducible refine Kd.C_drewN ?_ _) | (with_reducible refine Kd.C_drew ?_) | exact HR460_0.out)) | (with_reducible refine Kd.C_alloc ?_ _) | (with_reducible refine Kd.C_drewN ?_ _) | (with_reducible refine Kd.C_drew ?_))); (case side2 => exact HC460_0.out); (case side3 => repeat (first | exact (by repeat (first | (with_reducible exact HR461_0.out) | (with_reducible refine Kd.C_alloc ?_ _) | (with_reducible refine Kd.C_drewN ?_ _) | (with_reducible refine Kd.C_drew ?_) | exact HR461_0.out)) | (with_reducible refine Kd.C_alloc ?_ _) | (with_reducible refine Kd.C_drewN ?_ _) | (with_reducible refine Kd.C_drew ?_))); (case side4 => exact HC461_0.out)
        rintro e w' ⟨rfl, ⟨nd, rfl⟩⟩
        refine ⟨_, rfl, ?_⟩
        refine hK.out _ _ ⟨hHeld.1, hHeld.2⟩ (fun hHeld => ?_)
        clear hK K
        refine norm_ (a' := ?_) ?_ ?_
        rotate_left
        ·show Act.put _ (some 27) _ = _
         simp only [Act.put, List.setIfInBounds_toArray, List.set_cons_zero, List.set_cons_succ, i64_w, i32_w]
         rfl
        refine pu 13 28 ?_
        refine done_ (done_of HT_.out (by kernel_rfl)) ?_
        try go_wp2
        go_meet
        case rel => exact ⟨_, (t462), sq, H', ⟨b90_⟩, ⟨vq HO_0.out⟩, ⟨b9_⟩, ⟨bel⟩⟩
       rw [if_neg c7] at H; have c7b0 := decide_eq_false c7; clear c7
       (first | rw [c7b0] | (simp only [i64_w, i32_w]; rw [c7b0]) | skip)
       have H' := am H
       clear H
       try go_wp2
       replace HO_0 := am (Kd.V_drew HO_0.out); replace HO_3 := am (Kd.N_drew HO_3.out); replace HB := am (below_drew1 HB.out)
       refine st (n := 14) (S := fun w' => True) (ds := []) trivial (fun hHeld => ?_); refine with_tabW spec_l3Sort.tab6 spec_l3Sort.bits6 (fun HT_ HW_ => ?_)
       generalize wr.drew = w15 at HO_0 HO_3 HB hHeld ⊢
       refine pu 0 15 ?_
       refine pu 1 16 ?_
       refine pu 2 17 ?_
       refine puu 3 18 ?_
       refine puu 4 19 ?_
       refine puu 5 20 ?_
       refine puu 6 21 ?_
       refine puu 7 22 ?_
       refine puu 8 23 ?_
       refine puu 9 24 ?_
       refine puu 10 25 ?_
       refine puu 11 26 ?_
       refine puu 12 27 ?_
       refine pu 13 28 ?_
       refine done_ (done_of HT_.out (by kernel_rfl)) ?_
       try go_wp2
       go_meet
       case rel => exact ⟨_, (false), sq, H', ⟨b90_⟩, ⟨vq HO_0.out⟩, ⟨b9_⟩, ⟨bel⟩⟩
      case rest =>
       clear HC6; (try clear c1); (try clear c2); (try clear p2); (try clear c4); (try clear c4b0); (try clear p4); (try clear q4); (try clear hx4); (try clear p6); (try clear c7); (try clear c7b0); (try clear c8); (try clear c8b0); (try clear c9); (try clear c9b0); (try clear c11); (try clear c11b0); (try clear c12); (try clear c12b0); (try clear hx460_0); (try clear hx461_0); (try clear p2); (try clear p460); (try clear p461); (try clear q460); (try clear q461); obtain ⟨kq, x28_5, rfl, HA, HJ5, HO_0, HO_3, HB⟩ := hcut
       cases kq with
       | zero => exact absurd HA.out (by simp [spec_l3Sort.j2])
       | succ kj5 =>
        have H := HA.out; clear HA
        simp only [spec_l3Sort.j2] at H
        by_cases c16 : x28_5 = true
        ·subst c16
         have H1 : (spec_l3Sort.l1 kj5 l0 x3_1 x4_1 (wrap64 (x5_2 - 1))) = some r := b21_
         replace H := H1; clear H1
         have H' := am H
         clear H; go_wp2
         go_roundg kj5
         case measure => have := HK1.out; have := HK2.out; have := HJ5.out; omega
         case rel => exact ⟨(wrap64 (x5_2 - 1)), sq, H', ⟨by have := HK1.out; have := HK2.out; have := HJ5.out; omega⟩, ⟨vq HO_0.out⟩, ⟨b9_⟩, ⟨bel⟩⟩
        replace c16 := Bool.eq_false_iff.mpr c16; subst c16
        have H1 : ((some (([] : List (List ByteArray)) : List (List ByteArray))).bind fun y463 => (if 0 ≤ x5_2 then (if x5_2 ≤ (x3_1.length : Int) then ((some (x3_1.take (x5_2 : Int).toNat : List (List ByteArray))).bind fun y466 => (if y463.length + y466.length < 5864062014805 then ((some (y463 ++ y466 : List (List ByteArray))).bind fun y471 => (if 0 ≤ x4_1 then (if x4_1 < (l0.length : Int) then ((some (([rd_L9 l0 x4_1] : List (List ByteArray)) : List (List ByteArray))).bind fun y475 => (if y471.length + y475.length < 5864062014805 then ((some (y471 ++ y475 : List (List ByteArray))).bind fun y478 => ((some (x3_1.drop (x5_2 : Int).toNat : List (List ByteArray))).bind fun y481 => (if y478.length + y481.length < 5864062014805 then (spec_l3Sort.l0 kj5 l0 (y478 ++ y481) (wrap64 (x4_1 + 1))) else (none)))) else (none))) else (none)) else (none))) else (none))) else (none)) else (none))) = some r := b6_
        replace H := H1; clear H1
        obtain ⟨y463, hy463⟩ : ∃ y_ : List (List ByteArray), y_ = (([] : List (List ByteArray))) := ⟨_, rfl⟩
        replace H : (if 0 ≤ x5_2 then (if x5_2 ≤ (x3_1.length : Int) then ((some (x3_1.take (x5_2 : Int).toNat : List (List ByteArray))).bind fun y466 => (if y463.length + y466.length < 5864062014805 then ((some (y463 ++ y466 : List (List ByteArray))).bind fun y471 => (if 0 ≤ x4_1 then (if x4_1 < (l0.length : Int) then ((some (([rd_L9 l0 x4_1] : List (List ByteArray)) : List (List ByteArray))).bind fun y475 => (if y471.length + y475.length < 5864062014805 then ((some (y471 ++ y475 : List (List ByteArray))).bind fun y478 => ((some (x3_1.drop (x5_2 : Int).toNat : List (List ByteArray))).bind fun y481 => (if y478.length + y481.length < 5864062014805 then (spec_l3Sort.l0 kj5 l0 (y478 ++ y481) (wrap64 (x4_1 + 1))) else (none)))) else (none))) else (none)) else (none))) else (none))) else (none)) else (none)) = some r := by first | (rw [hy463]; with_reducible exact H) | (have H2_ := bm H; rw [hy463]; with_reducible exact H2_) | (with_reducible exact bm H) | with_reducible exact H | (rw [hy463]; exact H) | exact H
        have Ny463 := am hy463; clear hy463
        replace H := ip H; obtain ⟨c17, H⟩ := H; have c17b0 := eq_true c17
        have c17b1 : decide (0 ≤ x5_2) = true := decide_eq_true c17
        clear c17
        replace H := ip H; obtain ⟨c18, H⟩ := H; have c18b0 := eq_true c18
        have c18b1 : decide (x5_2 ≤ (x3_1.length : Int)) = true := decide_eq_true c18
        clear c18; obtain ⟨y466, hy466⟩ : ∃ y_ : List (List ByteArray), y_ = (x3_1.take (x5_2 : Int).toNat) := ⟨_, rfl⟩
        replace H : (if y463.length + y466.length < 5864062014805 then ((some (y463 ++ y466 : List (List ByteArray))).bind fun y471 => (if 0 ≤ x4_1 then (if x4_1 < (l0.length : Int) then ((some (([rd_L9 l0 x4_1] : List (List ByteArray)) : List (List ByteArray))).bind fun y475 => (if y471.length + y475.length < 5864062014805 then ((some (y471 ++ y475 : List (List ByteArray))).bind fun y478 => ((some (x3_1.drop (x5_2 : Int).toNat : List (List ByteArray))).bind fun y481 => (if y478.length + y481.length < 5864062014805 then (spec_l3Sort.l0 kj5 l0 (y478 ++ y481) (wrap64 (x4_1 + 1))) else (none)))) else (none))) else (none)) else (none))) else (none)) = some r := by first | (rw [hy466]; with_reducible exact H) | (have H2_ := bm H; rw [hy466]; with_reducible exact H2_) | (with_reducible exact bm H) | with_reducible exact H | (rw [hy466]; exact H) | exact H
        have Ny466 := am hy466; clear hy466
        replace H := ip H; obtain ⟨c19, H⟩ := H; have LMc19 := Aside0.mk c19; clear c19; obtain ⟨y471, hy471⟩ : ∃ y_ : List (List ByteArray), y_ = (y463 ++ y466) := ⟨_, rfl⟩
        replace H : (if 0 ≤ x4_1 then (if x4_1 < (l0.length : Int) then ((some (([rd_L9 l0 x4_1] : List (List ByteArray)) : List (List ByteArray))).bind fun y475 => (if y471.length + y475.length < 5864062014805 then ((some (y471 ++ y475 : List (List ByteArray))).bind fun y478 => ((some (x3_1.drop (x5_2 : Int).toNat : List (List ByteArray))).bind fun y481 => (if y478.length + y481.length < 5864062014805 then (spec_l3Sort.l0 kj5 l0 (y478 ++ y481) (wrap64 (x4_1 + 1))) else (none)))) else (none))) else (none)) else (none)) = some r := by first | (rw [hy471]; with_reducible exact H) | (have H2_ := bm H; rw [hy471]; with_reducible exact H2_) | (with_reducible exact bm H) | with_reducible exact H | (rw [hy471]; exact H) | exact H
        have Ny471 := am hy471; clear hy471
        replace H := it H; obtain ⟨c20b0, H⟩ := H
        replace H := it H; obtain ⟨c21b0, H⟩ := H; obtain ⟨y475, hy475⟩ : ∃ y_ : List (List ByteArray), y_ = (([rd_L9 l0 x4_1] : List (List ByteArray))) := ⟨_, rfl⟩
        replace H : (if y471.length + y475.length < 5864062014805 then ((some (y471 ++ y475 : List (List ByteArray))).bind fun y478 => ((some (x3_1.drop (x5_2 : Int).toNat : List (List ByteArray))).bind fun y481 => (if y478.length + y481.length < 5864062014805 then (spec_l3Sort.l0 kj5 l0 (y478 ++ y481) (wrap64 (x4_1 + 1))) else (none)))) else (none)) = some r := by first | (rw [hy475]; with_reducible exact H) | (have H2_ := bm H; rw [hy475]; with_reducible exact H2_) | (with_reducible exact bm H) | with_reducible exact H | (rw [hy475]; exact H) | exact H
        have Ny475 := am hy475; clear hy475
        replace H := ip H; obtain ⟨c22, H⟩ := H; have LMc22 := Aside0.mk c22; clear c22; obtain ⟨y478, hy478⟩ : ∃ y_ : List (List ByteArray), y_ = (y471 ++ y475) := ⟨_, rfl⟩
        replace H : ((some (x3_1.drop (x5_2 : Int).toNat : List (List ByteArray))).bind fun y481 => (if y478.length + y481.length < 5864062014805 then (spec_l3Sort.l0 kj5 l0 (y478 ++ y481) (wrap64 (x4_1 + 1))) else (none))) = some r := by first | (rw [hy478]; with_reducible exact H) | (have H2_ := bm H; rw [hy478]; with_reducible exact H2_) | (with_reducible exact bm H) | with_reducible exact H | (rw [hy478]; exact H) | exact H
        have Ny478 := am hy478; clear hy478; have c23b0 := eq_true (of_decide_eq_true ad : 0 ≤ x5_2); have c24b0 := eq_true (of_decide_eq_true ad : x5_2 ≤ (x3_1.length : Int)); obtain ⟨y481, hy481⟩ : ∃ y_ : List (List ByteArray), y_ = (x3_1.drop (x5_2 : Int).toNat) := ⟨_, rfl⟩
        replace H : (if y478.length + y481.length < 5864062014805 then (spec_l3Sort.l0 kj5 l0 (y478 ++ y481) (wrap64 (x4_1 + 1))) else (none)) = some r := by first | (rw [hy481]; with_reducible exact H) | (have H2_ := bm H; rw [hy481]; with_reducible exact H2_) | (with_reducible exact bm H) | with_reducible exact H | (rw [hy481]; exact H) | exact H
        have Ny481 := am hy481; clear hy481
        replace H := ip H; obtain ⟨c25, H⟩ := H; have LMc25 := Aside0.mk c25; clear c25; obtain ⟨y486, hy486⟩ : ∃ y_ : List (List ByteArray), y_ = (y478 ++ y481) := ⟨_, rfl⟩
        replace H : (spec_l3Sort.l0 kj5 l0 y486 (wrap64 (x4_1 + 1))) = some r := by first | (rw [hy486]; with_reducible exact H) | (have H2_ := bm H; rw [hy486]; with_reducible exact H2_) | (with_reducible exact bm H) | with_reducible exact H | (rw [hy486]; exact H) | exact H
        have Ny486 := am hy486; clear hy486
        have H' := am H
        clear H
        try go_wp2
        replace HO_0 := am (Kd.V_drew HO_0.out); replace HO_3 := am (Kd.N_drew HO_3.out); replace HB := am (below_drew1 HB.out)
        have q27 : (x5_2 : Int) ≤ ((x3_1.length : Int) : Int) := of_decide_eq_true ad
        obtain ⟨i027, hi027, _, hsz27, _⟩ := info_parts info22
        have hroom27 : x3_1.length ≤ co5 := (Kd.N_reads' HO_3.out).2.1
        have hC27 : Kd.F (Kd.slice 9 Kd.string) _ _ Ao5 x3_1.length x3_1 := (Kd.V_at (base := w.heap.size) (Kd.N_V HO_3.out)).2.2
        have hcut27 := cut_to (P := Try.prog) 179 22 .i64 Try.underlying179 hi027 Ao5 x3_1.length co5 x5_2 (of_decide_eq_true ad) q27 hroom27
        have hr27 := Kd.F_take (m := (x5_2 : Int).toNat) hC27 (by omega)
        have hy27 : y466.length = (x5_2 : Int).toNat := (by rw [Ny466.out, List.length_take]; omega)
        rw [← Ny466.out] at hr27; rw [← hy27] at hcut27
        have HO470 := am (show Kd.V (Kd.slice 9 Kd.string) 22 _ w.heap.size _ (.slice Ao5 y466.length co5) y466 from Kd.V_mk (by omega) hr27)
        have HC470 := am (show y466.length ≤ co5 from by omega)
        clear hr27 hC27 hroom27 hi027 hsz27; have KY27 := am hy27; clear hy27; replace q27 := eq_true q27
        have p474 : 0 ≤ (x4_1 : Int) := of_decide_eq_true ad
        have q474 : x4_1 < (l0.length : Int) := of_decide_eq_true ad
        obtain ⟨ad474, A474_0, c474_0, e474, hx474_0, hl474_0, hi474_0⟩ := at_L9 (Kd.V_reads' HO_0.out).2.2 x4_1 p474 q474
        cases e474
        obtain ⟨ce474, hce474, hMe474, hcc474⟩ := Kd.V_get HO_0.out [] x4_1 p474 (by first | exact q474 | exact of_decide_eq_true ad | (have e_ := (Kd.V_reads' HO_0.out).1; omega))
        obtain ⟨ua474_0, uc474_0, rfl, ul474_0, ge474_0⟩ := Kd.FK_slice_open hMe474; have hv474_0 := hcc474 0 _ rfl; rw [Nat.add_zero, show ((Kd.slice 9 Kd.string)).sz = 1 from rfl, Nat.mul_one] at hv474_0; replace hv474_0 := Option.some.inj (hv474_0.symm.trans hx474_0)
        injection hv474_0 with hva_ hvn_ hvc_
        rw [hva_] at ge474_0; rw [hvc_] at ul474_0; have HL474_0 := am (show Kd.V Kd.string 9 _ w.heap.size _ _ (rd_L9 l0 x4_1) from Kd.V_mk ul474_0 ge474_0); clear hva_ hvn_ hvc_ ge474_0 ul474_0; clear hcc474 hce474; have HR474_0 := am hi474_0; have HC474_0 := am hl474_0; clear hi474_0 hl474_0; replace p474 := eq_true p474; replace q474 := eq_true q474
        have q28 : (x5_2 : Int) ≤ ((x3_1.length : Int) : Int) := of_decide_eq_true ad
        obtain ⟨i028, hi028, _, hsz28, _⟩ := info_parts info22
        have hroom28 : x3_1.length ≤ co5 := (Kd.N_reads' HO_3.out).2.1
        have hC28 : Kd.F (Kd.slice 9 Kd.string) _ _ Ao5 x3_1.length x3_1 := (Kd.V_at (base := w.heap.size) (Kd.N_V HO_3.out)).2.2
        have q028 : (0 : Int) ≤ (x5_2 : Int) := of_decide_eq_true ad
        have hcut28 := cut_from (P := Try.prog) 179 22 .i64 Try.underlying179 hi028 1 hsz28 Ao5 x3_1.length co5 x5_2 q028 q28
        have hr28 := Kd.F_cut (m := (x5_2 : Int).toNat) (c := co5) hC28 (by omega) hroom28
        obtain ⟨A28, hA28⟩ : ∃ A1, A1 = (if co5 = (x5_2 : Int).toNat then Ao5 else (Ao5 : Option Addr).map (·.add ((x5_2 : Int).toNat * 1))) := ⟨_, rfl⟩; obtain ⟨c28, hc28⟩ : ∃ c1, c1 = co5 - (x5_2 : Int).toNat := ⟨_, rfl⟩
        have hy28 : y481.length = x3_1.length - (x5_2 : Int).toNat := (by rw [Ny481.out, List.length_drop] <;> omega)
        rw [show (x3_1).drop (x5_2 : Int).toNat = y481 from Ny481.out.symm] at hr28
        replace hr28 : Kd.F (Kd.slice 9 Kd.string) _ _ A28 y481.length y481 := (by rw [hA28]; exact hr28)
        rw [← hy28, ← hA28, ← hc28] at hcut28
        have HO485 := am (show Kd.V (Kd.slice 9 Kd.string) 22 _ w.heap.size _ (.slice A28 y481.length c28) y481 from Kd.V_mk (by rw [hy28, hc28]; exact Nat.sub_le_sub_right hroom28 _) hr28)
        have HC485 := am (show y481.length ≤ c28 from by rw [hy28, hc28]; exact Nat.sub_le_sub_right hroom28 _)
        clear hr28 hC28 hroom28 hi028 hsz28 hc28; have KY28 := am hy28; have KA28 := am hA28; clear hy28 hA28; replace q28 := eq_true q28
        refine st (n := 16) (S := fun w' => w'.cell? (ad474.add (x4_1).toNat) = some (.slice A474_0 (rd_L9 l0 x4_1).length c474_0)) (ds := []) (hx474_0) (fun hHeld => ?_); refine with_tabW spec_l3Sort.tab8 spec_l3Sort.bits8 (fun HT_ HW_ => ?_)
        generalize wc.drew = w26 at HO_0 HO_3 HB HL474_0 HO470 HO485 HR474_0 hx474_0 hHeld ⊢
        refine pu 1 32 ?_
        refine pu 2 33 ?_
        refine pu 3 34 ?_
        refine pu 5 36 ?_
        refine pu 6 37 ?_
        refine pu 7 38 ?_
        refine pu 11 42 ?_
        refine pu 12 43 ?_
        refine pu 13 44 ?_
        refine tk1 8 39 hHeld ?_
        refine join_ (σ := Value × Value × Value) 3 #[true, true, true, true, true, true, true, true, true, true, false, true, true, true, false, false] (fun s_ => [(31, s_.1), (35, s_.2.1), (40, s_.2.2)]) (fun s_ w' => (w'.cell? (ad474.add (x4_1).toNat) = some (.slice A474_0 (rd_L9 l0 x4_1).length c474_0)) ∧ (Kd.V Kd.string 9 w' w.heap.size (fun k_ => (P0_ k_ ∨ w.heap.size ≤ k_) ∧ some k_ ≠ (s_.2.1 : Value).ownBlock ∧ some k_ ≠ (s_.2.2 : Value).ownBlock ∧ some k_ ≠ (.slice Ao5 x3_1.length co5 : Value).ownBlock) (.slice A474_0 (rd_L9 l0 x4_1).length c474_0) (rd_L9 l0 x4_1)) ∧ (Kd.V (Kd.slice 9 Kd.string) 22 w' w.heap.size (fun k_ => (P0_ k_ ∨ w.heap.size ≤ k_) ∧ some k_ ≠ (s_.2.1 : Value).ownBlock ∧ some k_ ≠ (s_.2.2 : Value).ownBlock) (.slice Ao5 y466.length co5) y466) ∧ (Kd.N (Kd.slice 9 Kd.string) 22 w' w.heap.size (fun k_ => (P0_ k_ ∨ w.heap.size ≤ k_) ∧ some k_ ≠ (s_.2.2 : Value).ownBlock) s_.2.1 y471) ∧ (Kd.N (Kd.slice 9 Kd.string) 22 w' w.heap.size (fun k_ => (P0_ k_ ∨ w.heap.size ≤ k_) ∧ some k_ ≠ (s_.2.1 : Value).ownBlock ∧ some k_ ≠ (.slice Ao5 x3_1.length co5 : Value).ownBlock) s_.2.2 y475) ∧ (Kd.V (Kd.slice 9 Kd.string) 22 w' w.heap.size (fun k_ => (P0_ k_ ∨ w.heap.size ≤ k_) ∧ some k_ ≠ (s_.2.1 : Value).ownBlock ∧ some k_ ≠ (s_.2.2 : Value).ownBlock) (.slice A28 y481.length c28) y481) ∧ (Kd.V (Kd.slice 9 Kd.string) 22 w' w.heap.size (fun k_ => (P0_ k_ ∨ w.heap.size ≤ k_) ∧ some k_ ≠ (s_.2.1 : Value).ownBlock ∧ some k_ ≠ (s_.2.2 : Value).ownBlock ∧ some k_ ≠ (.slice Ao5 x3_1.length co5 : Value).ownBlock) (.slice (some ad474) l0.length c0) l0) ∧ (Kd.N (Kd.slice 9 Kd.string) 22 w' w.heap.size (fun k_ => (P0_ k_ ∨ w.heap.size ≤ k_) ∧ some k_ ≠ (s_.2.1 : Value).ownBlock ∧ some k_ ≠ (s_.2.2 : Value).ownBlock) (.slice Ao5 x3_1.length co5) x3_1) ∧ (Below w.heap.size w w')) ?_ ?_
        rotate_left
        ·intro hCont
         refine two_ (i := 0) (j := 9) (Ni := some 31) (Nj := some 40) #[true, true, true, true, false, true, true, true, true, false, false, true, true, true, false, false] #[false, true, true, true, false, true, true, true, true, true, false, true, true, true, false, false] rfl rfl rfl rfl (two_of HT_.out (by kernel_rfl)) (by decide) (by decide) (fun K hK => ?_) (fun K hK => ?_)
         ·skip
          refine Kd.N_lit_step (Kd.slice 9 Kd.string) _ 22 ?hg (N' := 31) ?hd (xs := ([] : List (List ByteArray))) (inner := []) (ok := (fun k_ => (P0_ k_ ∨ w.heap.size ≤ k_) ∧ some k_ ≠ (.slice Ao5 x3_1.length co5 : Value).ownBlock)) (okp := (fun k_ => (P0_ k_ ∨ w.heap.size ≤ k_) ∧ some k_ ≠ (.slice Ao5 x3_1.length co5 : Value).ownBlock)) ?hr ?hp (fun _ hk => hk) ((show ∀ k_, w26.heap.size ≤ k_ → (fun k_ => (P0_ k_ ∨ w.heap.size ≤ k_) ∧ some k_ ≠ (.slice Ao5 x3_1.length co5 : Value).ownBlock) k_ from fun k_ hk => ⟨(.inr (Nat.le_trans (below_size bel) hk)), Kd.fresh' (Kd.N_lt b9_) k_ hk⟩) _ (Nat.le_refl _)) (Below.refl _ _) (Nat.le_refl _) (by simp) ?_; (case hd => rfl); (case hg => rfl); (case hr => first | (go_simp; done) | (go_simp; rfl)); (case hp => exact (Reps.none _ _))
          intro v464 w29 ho30 hb hg_ hnew_; have HS0_ := (hb.cell (World.block_lt_of_cell? _ _ (hHeld))).trans (hHeld); clear hg_ hnew_
          (first | rw [← Ny463.out] at ho30 | (simp only [Int.reduceToNat] at ho30; rw [← Ny463.out] at ho30) | (simp only [Int.toNat_natCast] at ho30; rw [← Ny463.out] at ho30))
          replace HO_0 := am (Kd.V_elder' (vq HO_0.out) (Kd.N_base ho30) hb)
          replace HO_3 := am (Kd.N_elder' b9_ (Kd.N_base ho30) hb)
          replace HO470 := am (Kd.V_elder' (vq HO470.out) (Kd.N_base ho30) hb); replace HL474_0 := am (Kd.V_elder' (vq HL474_0.out) (Kd.N_base ho30) hb); replace HO485 := am (Kd.V_elder' (vq HO485.out) (Kd.N_base ho30) hb); have HO465 := am (Kd.N_lower ho30 (below_size bel))
          replace HR474_0 := am (Kd.C_below b33_ hb)
          replace HB := am (below_step bel hb); clear hb ho30
          refine hK.out _ _ (HS0_) (fun hHeld => ?_)
          clear hK K
          refine norm_ (a' := ?_) ?_ ?_
          rotate_left
          ·show Act.put _ (some 31) _ = _
           simp only [Act.put, List.setIfInBounds_toArray, List.set_cons_zero, List.set_cons_succ, i64_w, i32_w]
           rfl
          refine two_ (i := 4) (j := 9) (Ni := some 35) (Nj := some 40) #[true, true, true, true, true, true, true, true, true, false, false, true, true, true, false, false] #[true, true, true, true, false, true, true, true, true, true, false, true, true, true, false, false] rfl rfl rfl rfl (two_of HT_.out (by kernel_rfl)) (by decide) (by decide) (fun K hK => ?_) (fun K hK => ?_)
          ·skip
           refine Kd.N_append_rows_step (Kd.slice 9 Kd.string) (w0 := w) w.heap.size (by rfl) (.tmp 31) (.tmp 34) 179 22 (.slice none 0 0) 24 rfl Try.underlying179 info22 rfl (by decide) (by omega) v464 y463 y466 _ _ _ (fun k_ => (P0_ k_ ∨ w.heap.size ≤ k_)) (fun k_ => ((fun k_ => (P0_ k_ ∨ w.heap.size ≤ k_))) k_ ∧ some k_ ≠ (v464 : Value).ownBlock) rfl rfl ?aO ?aR (fun _ hk => hk) ?aF ?aB ?aS ?aL ?_
           (case aR => exact (by skip; exact Kd.V_F (Kd.V_mono (ok' := (fun k_ => ((fun k_ => (P0_ k_ ∨ w.heap.size ≤ k_))) k_ ∧ some k_ ≠ (v464 : Value).ownBlock)) (HO470.out) (fun k_ hk => ⟨hk.1, hk.2⟩)))); (case aB => exact bel); (case aF => exact (fun k_ hk => (.inr (Nat.le_trans (below_size bel) hk)))); (case aO => exact (by (with_reducible repeat (first | apply Kd.N_alloc | apply Kd.N_drewN | apply Kd.N_drew)); exact Kd.N_mono HO465.out (fun _ hk => hk.1))); (case aS => exact (below_size bel)); (case aL => have := LMc19.out; omega); intro v472 w31 ho hb hg hat
           have HS0_ := cell_grown hg (by first | exact hHeld | exact (World.cell?_alloc_lt _ _ _ (World.block_lt_of_cell? _ _ (hHeld))).trans (hHeld)) b20_
           rw [← Ny471.out] at ho; replace HO_0 := am (Kd.V_afterv (ok := (fun k_ => (P0_ k_ ∨ w.heap.size ≤ k_) ∧ some k_ ≠ (.slice Ao5 x3_1.length co5 : Value).ownBlock)) (vq HO_0.out) hg hat)
           replace HO_3 := am (Kd.N_afterv (ok := (fun k_ => (P0_ k_ ∨ w.heap.size ≤ k_))) b9_ hg hat)
           replace HO470 := am (Kd.V_afterv (ok := (fun k_ => (P0_ k_ ∨ w.heap.size ≤ k_))) (vq HO470.out) hg hat); replace HL474_0 := am (Kd.V_afterv (ok := (fun k_ => (P0_ k_ ∨ w.heap.size ≤ k_) ∧ some k_ ≠ (.slice Ao5 x3_1.length co5 : Value).ownBlock)) (vq HL474_0.out) hg hat); replace HO485 := am (Kd.V_afterv (ok := (fun k_ => (P0_ k_ ∨ w.heap.size ≤ k_))) (vq HO485.out) hg hat); replace HB := am (hb); have HO473 := am (ho); clear HO465; clear ho hb hg hat
           refine hK.out _ _ (HS0_) (fun hHeld => ?_)
           clear hK K
           refine norm_ (a' := ?_) ?_ ?_
           rotate_left
           ·show Act.put _ (some 35) _ = _
            simp only [Act.put, List.setIfInBounds_toArray, List.set_cons_zero, List.set_cons_succ, i64_w, i32_w]
            rfl
           refine on1 9 40 (fun K hK => ?_)
           refine Kd.N_lit_step (Kd.slice 9 Kd.string) _ 22 ?hg (N' := 40) ?hd (xs := ([rd_L9 l0 x4_1] : List (List ByteArray))) (inner := [.slice A474_0 (rd_L9 l0 x4_1).length c474_0]) (ok := (fun k_ => (P0_ k_ ∨ w.heap.size ≤ k_) ∧ some k_ ≠ (.slice Ao5 x3_1.length co5 : Value).ownBlock ∧ some k_ ≠ (v472 : Value).ownBlock)) (okp := (fun k_ => (P0_ k_ ∨ w.heap.size ≤ k_) ∧ some k_ ≠ (.slice Ao5 x3_1.length co5 : Value).ownBlock ∧ some k_ ≠ (v472 : Value).ownBlock)) ?hr ?hp (fun _ hk => hk) ((show ∀ k_, w31.heap.size ≤ k_ → (fun k_ => (P0_ k_ ∨ w.heap.size ≤ k_) ∧ some k_ ≠ (.slice Ao5 x3_1.length co5 : Value).ownBlock ∧ some k_ ≠ (v472 : Value).ownBlock) k_ from fun k_ hk => ⟨(.inr (Nat.le_trans (below_size bel) hk)), Kd.fresh' (Kd.N_lt b9_) k_ hk, Kd.fresh' (Kd.N_lt b53_) k_ hk⟩) _ (Nat.le_refl _)) (Below.refl _ _) (Nat.le_refl _) (by simp) ?_; (case hd => rfl); (case hg => rfl); (case hr => first | (go_simp; done) | (go_simp; rfl)); (case hp => exact (Reps.one (show Kd.FK (Kd.slice 9 Kd.string) _ _ (rd_L9 l0 x4_1) [.slice A474_0 (rd_L9 l0 x4_1).length c474_0] from (Kd.FK_slice_mk (Kd.V_reads' (Kd.V_mono (ok' := (fun k_ => (P0_ k_ ∨ w.heap.size ≤ k_) ∧ some k_ ≠ (.slice Ao5 x3_1.length co5 : Value).ownBlock ∧ some k_ ≠ (v472 : Value).ownBlock)) (HL474_0.out) (fun k_ hk => ⟨hk.1.1, ⟨hk.1.2, hk.2⟩⟩))).2.1 (Kd.V_F (Kd.V_mono (ok' := (fun k_ => (P0_ k_ ∨ w.heap.size ≤ k_) ∧ some k_ ≠ (.slice Ao5 x3_1.length co5 : Value).ownBlock ∧ some k_ ≠ (v472 : Value).ownBlock)) (HL474_0.out) (fun k_ hk => ⟨hk.1.1, ⟨hk.1.2, hk.2⟩⟩))))) (Reps.none _ _)))
           intro v476 w32 ho33 hb hg_ hnew_; have HS0_ := (hb.cell (World.block_lt_of_cell? _ _ (hHeld))).trans (hHeld); clear hg_ hnew_
           (first | rw [← Ny475.out] at ho33 | (simp only [Int.reduceToNat] at ho33; rw [← Ny475.out] at ho33) | (simp only [Int.toNat_natCast] at ho33; rw [← Ny475.out] at ho33))
           replace HO_0 := am (Kd.V_elder' (vq HO_0.out) (Kd.N_base ho33) hb)
           replace HO_3 := am (Kd.N_elder' b9_ (Kd.N_base ho33) hb)
           replace HO470 := am (Kd.V_elder' (vq HO470.out) (Kd.N_base ho33) hb); replace HL474_0 := am (Kd.V_elder' (vq HL474_0.out) (Kd.N_base ho33) hb); replace HO485 := am (Kd.V_elder' (vq HO485.out) (Kd.N_base ho33) hb)
           replace HO473 := am (Kd.N_elder' b53_ (Kd.N_base ho33) hb)
           have HO477 := am (Kd.N_lower ho33 (below_size bel)); replace HB := am (below_step bel hb); clear hb ho33
           refine hK.out _ _ (HS0_) (fun hHeld => ?_)
           clear hK K
           refine norm_ (a' := ?_) ?_ ?_
           rotate_left
           ·show Act.put _ (some 40) _ = _
            simp only [Act.put, List.setIfInBounds_toArray, List.set_cons_zero, List.set_cons_succ, i64_w, i32_w]
            rfl
           exact norm_ b49_ (hCont (v464, v472, v476) _ ⟨hHeld, (vq (Kd.V_mono HL474_0.out (fun _ hk => ⟨hk.1.1.1, ⟨hk.1.2, ⟨hk.2, hk.1.1.2⟩⟩⟩))), (vq (Kd.V_mono HO470.out (fun _ hk => ⟨hk.1.1, ⟨hk.1.2, hk.2⟩⟩))), b53_, (by (with_reducible repeat (first | apply Kd.N_alloc | apply Kd.N_drewN | apply Kd.N_drew)); exact Kd.N_mono HO477.out (fun _ hk => ⟨hk.1, ⟨hk.2.2, hk.2.1⟩⟩)), (vq (Kd.V_mono HO485.out (fun _ hk => ⟨hk.1.1, ⟨hk.1.2, hk.2⟩⟩))), (vq (Kd.V_mono HO_0.out (fun _ hk => ⟨hk.1.1.1, ⟨hk.1.2, ⟨hk.2, hk.1.1.2⟩⟩⟩))), (by (with_reducible repeat (first | apply Kd.N_alloc | apply Kd.N_drewN | apply Kd.N_drew)); exact Kd.N_mono HO_3.out (fun _ hk => ⟨hk.1.1, ⟨hk.1.2, hk.2⟩⟩)), bel⟩)
          ·skip
           refine Kd.N_lit_step (Kd.slice 9 Kd.string) _ 22 ?hg (N' := 40) ?hd (xs := ([rd_L9 l0 x4_1] : List (List ByteArray))) (inner := [.slice A474_0 (rd_L9 l0 x4_1).length c474_0]) (ok := (fun k_ => (P0_ k_ ∨ w.heap.size ≤ k_) ∧ some k_ ≠ (.slice Ao5 x3_1.length co5 : Value).ownBlock ∧ some k_ ≠ (v464 : Value).ownBlock)) (okp := (fun k_ => (P0_ k_ ∨ w.heap.size ≤ k_) ∧ some k_ ≠ (.slice Ao5 x3_1.length co5 : Value).ownBlock ∧ some k_ ≠ (v464 : Value).ownBlock)) ?hr ?hp (fun _ hk => hk) ((show ∀ k_, w29.heap.size ≤ k_ → (fun k_ => (P0_ k_ ∨ w.heap.size ≤ k_) ∧ some k_ ≠ (.slice Ao5 x3_1.length co5 : Value).ownBlock ∧ some k_ ≠ (v464 : Value).ownBlock) k_ from fun k_ hk => ⟨(.inr (Nat.le_trans (below_size bel) hk)), Kd.fresh' (Kd.N_lt b9_) k_ hk, Kd.fresh' (Kd.N_lt (by (with_reducible repeat (first | apply Kd.N_alloc | apply Kd.N_drewN | apply Kd.N_drew)); exact HO465.out)) k_ hk⟩) _ (Nat.le_refl _)) (Below.refl _ _) (Nat.le_refl _) (by simp) ?_; (case hd => rfl); (case hg => rfl); (case hr => first | (go_simp; done) | (go_simp; rfl)); (case hp => exact (Reps.one (show Kd.FK (Kd.slice 9 Kd.string) _ _ (rd_L9 l0 x4_1) [.slice A474_0 (rd_L9 l0 x4_1).length c474_0] from (Kd.FK_slice_mk (Kd.V_reads' (Kd.V_mono (ok' := (fun k_ => (P0_ k_ ∨ w.heap.size ≤ k_) ∧ some k_ ≠ (.slice Ao5 x3_1.length co5 : Value).ownBlock ∧ some k_ ≠ (v464 : Value).ownBlock)) (HL474_0.out) (fun k_ hk => ⟨hk.1.1, ⟨hk.1.2, hk.2⟩⟩))).2.1 (Kd.V_F (Kd.V_mono (ok' := (fun k_ => (P0_ k_ ∨ w.heap.size ≤ k_) ∧ some k_ ≠ (.slice Ao5 x3_1.length co5 : Value).ownBlock ∧ some k_ ≠ (v464 : Value).ownBlock)) (HL474_0.out) (fun k_ hk => ⟨hk.1.1, ⟨hk.1.2, hk.2⟩⟩))))) (Reps.none _ _)))
           intro v476 w31 ho32 hb hg_ hnew_; have HS0_ := (hb.cell (World.block_lt_of_cell? _ _ (hHeld))).trans (hHeld); clear hg_ hnew_
           (first | rw [← Ny475.out] at ho32 | (simp only [Int.reduceToNat] at ho32; rw [← Ny475.out] at ho32) | (simp only [Int.toNat_natCast] at ho32; rw [← Ny475.out] at ho32))
           replace HO_0 := am (Kd.V_elder' (vq HO_0.out) (Kd.N_base ho32) hb)
           replace HO_3 := am (Kd.N_elder' b9_ (Kd.N_base ho32) hb)
           replace HO470 := am (Kd.V_elder' (vq HO470.out) (Kd.N_base ho32) hb); replace HL474_0 := am (Kd.V_elder' (vq HL474_0.out) (Kd.N_base ho32) hb); replace HO485 := am (Kd.V_elder' (vq HO485.out) (Kd.N_base ho32) hb)
           replace HO465 := am (Kd.N_elder' (by (with_reducible repeat (first | apply Kd.N_alloc | apply Kd.N_drewN | apply Kd.N_drew)); exact HO465.out) (Kd.N_base ho32) hb)
           have HO477 := am (Kd.N_lower ho32 (below_size bel))
           replace HR474_0 := am (Kd.C_below b33_ hb)
           replace HB := am (below_step bel hb); clear hb ho32
           refine hK.out _ _ (HS0_) (fun hHeld => ?_)
           clear hK K
           refine norm_ (a' := ?_) ?_ ?_
           rotate_left
           ·show Act.put _ (some 40) _ = _
            simp only [Act.put, List.setIfInBounds_toArray, List.set_cons_zero, List.set_cons_succ, i64_w, i32_w]
            rfl
           refine on1 4 35 (fun K hK => ?_)
           refine Kd.N_append_rows_step (Kd.slice 9 Kd.string) (w0 := w) w.heap.size (by rfl) (.tmp 31) (.tmp 34) 179 22 (.slice none 0 0) 24 rfl Try.underlying179 info22 rfl (by decide) (by omega) v464 y463 y466 _ _ _ (fun k_ => (P0_ k_ ∨ w.heap.size ≤ k_) ∧ some k_ ≠ (v476 : Value).ownBlock) (fun k_ => ((fun k_ => (P0_ k_ ∨ w.heap.size ≤ k_) ∧ some k_ ≠ (v476 : Value).ownBlock)) k_ ∧ some k_ ≠ (v464 : Value).ownBlock) rfl rfl ?aO ?aR (fun _ hk => hk) ?aF ?aB ?aS ?aL ?_
           (case aR => exact (by skip; exact Kd.V_F (Kd.V_mono (ok' := (fun k_ => ((fun k_ => (P0_ k_ ∨ w.heap.size ≤ k_) ∧ some k_ ≠ (v476 : Value).ownBlock)) k_ ∧ some k_ ≠ (v464 : Value).ownBlock)) (HO470.out) (fun k_ hk => ⟨⟨hk.1.1, hk.2⟩, hk.1.2⟩)))); (case aB => exact bel); (case aF => exact (fun k_ hk => ⟨(.inr (Nat.le_trans (below_size bel) hk)), Kd.fresh' (Kd.N_lt b47_) k_ hk⟩)); (case aO => exact (by (with_reducible repeat (first | apply Kd.N_alloc | apply Kd.N_drewN | apply Kd.N_drew)); exact Kd.N_mono HO465.out (fun _ hk => ⟨hk.1.1, hk.2⟩))); (case aS => exact (below_size bel)); (case aL => have := LMc19.out; omega); intro v472 w33 ho hb hg hat
           have HS0_ := cell_grown hg (by first | exact hHeld | exact (World.cell?_alloc_lt _ _ _ (World.block_lt_of_cell? _ _ (hHeld))).trans (hHeld)) b20_
           rw [← Ny471.out] at ho; replace HO_0 := am (Kd.V_afterv (ok := (fun k_ => (P0_ k_ ∨ w.heap.size ≤ k_) ∧ some k_ ≠ (.slice Ao5 x3_1.length co5 : Value).ownBlock ∧ some k_ ≠ (v476 : Value).ownBlock)) (vq (Kd.V_mono HO_0.out (fun _ hk => ⟨⟨hk.1.1.1, ⟨hk.1.1.2, hk.2⟩⟩, hk.1.2⟩))) hg hat)
           replace HO_3 := am (Kd.N_afterv (ok := (fun k_ => (P0_ k_ ∨ w.heap.size ≤ k_) ∧ some k_ ≠ (v476 : Value).ownBlock)) (by (with_reducible repeat (first | apply Kd.N_alloc | apply Kd.N_drewN | apply Kd.N_drew)); exact Kd.N_mono HO_3.out (fun _ hk => ⟨⟨hk.1.1, hk.2⟩, hk.1.2⟩)) hg hat)
           replace HO470 := am (Kd.V_afterv (ok := (fun k_ => (P0_ k_ ∨ w.heap.size ≤ k_) ∧ some k_ ≠ (v476 : Value).ownBlock)) (vq (Kd.V_mono HO470.out (fun _ hk => ⟨⟨hk.1.1, hk.2⟩, hk.1.2⟩))) hg hat); replace HL474_0 := am (Kd.V_afterv (ok := (fun k_ => (P0_ k_ ∨ w.heap.size ≤ k_) ∧ some k_ ≠ (.slice Ao5 x3_1.length co5 : Value).ownBlock ∧ some k_ ≠ (v476 : Value).ownBlock)) (vq (Kd.V_mono HL474_0.out (fun _ hk => ⟨⟨hk.1.1.1, ⟨hk.1.1.2, hk.2⟩⟩, hk.1.2⟩))) hg hat); replace HO485 := am (Kd.V_afterv (ok := (fun k_ => (P0_ k_ ∨ w.heap.size ≤ k_) ∧ some k_ ≠ (v476 : Value).ownBlock)) (vq (Kd.V_mono HO485.out (fun _ hk => ⟨⟨hk.1.1, hk.2⟩, hk.1.2⟩))) hg hat)
           replace HO477 := am (Kd.N_afterv (ok := (fun k_ => (P0_ k_ ∨ w.heap.size ≤ k_) ∧ some k_ ≠ (.slice Ao5 x3_1.length co5 : Value).ownBlock)) (by (with_reducible repeat (first | apply Kd.N_alloc | apply Kd.N_drewN | apply Kd.N_drew)); exact Kd.N_mono HO477.out (fun _ hk => ⟨⟨hk.1, hk.2.1⟩, hk.2.2⟩)) hg hat)
           replace HB := am (hb); have HO473 := am (ho); clear HO465; clear ho hb hg hat
           refine hK.out _ _ (HS0_) (fun hHeld => ?_)
           clear hK K
           refine norm_ (a' := ?_) ?_ ?_
           rotate_left
           ·show Act.put _ (some 35) _ = _
            simp only [Act.put, List.setIfInBounds_toArray, List.set_cons_zero, List.set_cons_succ, i64_w, i32_w]
            rfl
           exact norm_ b49_ (hCont (v464, v472, v476) _ ⟨hHeld, (vq (Kd.V_mono HL474_0.out (fun _ hk => ⟨hk.1.1, ⟨hk.2, ⟨hk.1.2.2, hk.1.2.1⟩⟩⟩))), (vq (Kd.V_mono HO470.out (fun _ hk => ⟨hk.1.1, ⟨hk.2, hk.1.2⟩⟩))), b53_, b74_, (vq (Kd.V_mono HO485.out (fun _ hk => ⟨hk.1.1, ⟨hk.2, hk.1.2⟩⟩))), (vq (Kd.V_mono HO_0.out (fun _ hk => ⟨hk.1.1, ⟨hk.2, ⟨hk.1.2.2, hk.1.2.1⟩⟩⟩))), b77_, bel⟩)
         ·skip
          refine Kd.N_lit_step (Kd.slice 9 Kd.string) _ 22 ?hg (N' := 40) ?hd (xs := ([rd_L9 l0 x4_1] : List (List ByteArray))) (inner := [.slice A474_0 (rd_L9 l0 x4_1).length c474_0]) (ok := (fun k_ => (P0_ k_ ∨ w.heap.size ≤ k_) ∧ some k_ ≠ (.slice Ao5 x3_1.length co5 : Value).ownBlock)) (okp := (fun k_ => (P0_ k_ ∨ w.heap.size ≤ k_) ∧ some k_ ≠ (.slice Ao5 x3_1.length co5 : Value).ownBlock)) ?hr ?hp (fun _ hk => hk) ((show ∀ k_, w26.heap.size ≤ k_ → (fun k_ => (P0_ k_ ∨ w.heap.size ≤ k_) ∧ some k_ ≠ (.slice Ao5 x3_1.length co5 : Value).ownBlock) k_ from fun k_ hk => ⟨(.inr (Nat.le_trans (below_size bel) hk)), Kd.fresh' (Kd.N_lt b9_) k_ hk⟩) _ (Nat.le_refl _)) (Below.refl _ _) (Nat.le_refl _) (by simp) ?_; (case hd => rfl); (case hg => rfl); (case hr => first | (go_simp; done) | (go_simp; rfl)); (case hp => exact (Reps.one (show Kd.FK (Kd.slice 9 Kd.string) _ _ (rd_L9 l0 x4_1) [.slice A474_0 (rd_L9 l0 x4_1).length c474_0] from (Kd.FK_slice_mk (Kd.V_reads' (Kd.V_mono (ok' := (fun k_ => (P0_ k_ ∨ w.heap.size ≤ k_) ∧ some k_ ≠ (.slice Ao5 x3_1.length co5 : Value).ownBlock)) (HL474_0.out) (fun k_ hk => ⟨hk.1, hk.2⟩))).2.1 (Kd.V_F (Kd.V_mono (ok' := (fun k_ => (P0_ k_ ∨ w.heap.size ≤ k_) ∧ some k_ ≠ (.slice Ao5 x3_1.length co5 : Value).ownBlock)) (HL474_0.out) (fun k_ hk => ⟨hk.1, hk.2⟩))))) (Reps.none _ _)))
          intro v476 w29 ho30 hb hg_ hnew_; have HS0_ := (hb.cell (World.block_lt_of_cell? _ _ (hHeld))).trans (hHeld); clear hg_ hnew_
          (first | rw [← Ny475.out] at ho30 | (simp only [Int.reduceToNat] at ho30; rw [← Ny475.out] at ho30) | (simp only [Int.toNat_natCast] at ho30; rw [← Ny475.out] at ho30))
          replace HO_0 := am (Kd.V_elder' (vq HO_0.out) (Kd.N_base ho30) hb)
          replace HO_3 := am (Kd.N_elder' b9_ (Kd.N_base ho30) hb)
          replace HO470 := am (Kd.V_elder' (vq HO470.out) (Kd.N_base ho30) hb); replace HL474_0 := am (Kd.V_elder' (vq HL474_0.out) (Kd.N_base ho30) hb); replace HO485 := am (Kd.V_elder' (vq HO485.out) (Kd.N_base ho30) hb); have HO477 := am (Kd.N_lower ho30 (below_size bel))
          replace HR474_0 := am (Kd.C_below b33_ hb)
          replace HB := am (below_step bel hb); clear hb ho30
          refine hK.out _ _ (HS0_) (fun hHeld => ?_)
          clear hK K
          refine norm_ (a' := ?_) ?_ ?_
          rotate_left
          ·show Act.put _ (some 40) _ = _
           simp only [Act.put, List.setIfInBounds_toArray, List.set_cons_zero, List.set_cons_succ, i64_w, i32_w]
           rfl
          refine on1 0 31 (fun K hK => ?_)
          refine Kd.N_lit_step (Kd.slice 9 Kd.string) _ 22 ?hg (N' := 31) ?hd (xs := ([] : List (List ByteArray))) (inner := []) (ok := (fun k_ => (P0_ k_ ∨ w.heap.size ≤ k_) ∧ some k_ ≠ (.slice Ao5 x3_1.length co5 : Value).ownBlock ∧ some k_ ≠ (v476 : Value).ownBlock)) (okp := (fun k_ => (P0_ k_ ∨ w.heap.size ≤ k_) ∧ some k_ ≠ (.slice Ao5 x3_1.length co5 : Value).ownBlock ∧ some k_ ≠ (v476 : Value).ownBlock)) ?hr ?hp (fun _ hk => hk) ((show ∀ k_, w29.heap.size ≤ k_ → (fun k_ => (P0_ k_ ∨ w.heap.size ≤ k_) ∧ some k_ ≠ (.slice Ao5 x3_1.length co5 : Value).ownBlock ∧ some k_ ≠ (v476 : Value).ownBlock) k_ from fun k_ hk => ⟨(.inr (Nat.le_trans (below_size bel) hk)), Kd.fresh' (Kd.N_lt b9_) k_ hk, Kd.fresh' (Kd.N_lt b47_) k_ hk⟩) _ (Nat.le_refl _)) (Below.refl _ _) (Nat.le_refl _) (by simp) ?_; (case hd => rfl); (case hg => rfl); (case hr => first | (go_simp; done) | (go_simp; rfl)); (case hp => exact (Reps.none _ _))
          intro v464 w31 ho32 hb hg_ hnew_; have HS0_ := (hb.cell (World.block_lt_of_cell? _ _ (hHeld))).trans (hHeld); clear hg_ hnew_
          (first | rw [← Ny463.out] at ho32 | (simp only [Int.reduceToNat] at ho32; rw [← Ny463.out] at ho32) | (simp only [Int.toNat_natCast] at ho32; rw [← Ny463.out] at ho32))
          replace HO_0 := am (Kd.V_elder' (vq HO_0.out) (Kd.N_base ho32) hb)
          replace HO_3 := am (Kd.N_elder' b9_ (Kd.N_base ho32) hb)
          replace HO470 := am (Kd.V_elder' (vq HO470.out) (Kd.N_base ho32) hb); replace HL474_0 := am (Kd.V_elder' (vq HL474_0.out) (Kd.N_base ho32) hb); replace HO485 := am (Kd.V_elder' (vq HO485.out) (Kd.N_base ho32) hb)
          replace HO477 := am (Kd.N_elder' b47_ (Kd.N_base ho32) hb)
          have HO465 := am (Kd.N_lower ho32 (below_size bel))
          replace HR474_0 := am (Kd.C_below b33_ hb)
          replace HB := am (below_step bel hb); clear hb ho32
          refine hK.out _ _ (HS0_) (fun hHeld => ?_)
          clear hK K
          refine norm_ (a' := ?_) ?_ ?_
          rotate_left
          ·show Act.put _ (some 31) _ = _
           simp only [Act.put, List.setIfInBounds_toArray, List.set_cons_zero, List.set_cons_succ, i64_w, i32_w]
           rfl
          refine on1 4 35 (fun K hK => ?_)
          refine Kd.N_append_rows_step (Kd.slice 9 Kd.string) (w0 := w) w.heap.size (by rfl) (.tmp 31) (.tmp 34) 179 22 (.slice none 0 0) 24 rfl Try.underlying179 info22 rfl (by decide) (by omega) v464 y463 y466 _ _ _ (fun k_ => (P0_ k_ ∨ w.heap.size ≤ k_) ∧ some k_ ≠ (v476 : Value).ownBlock) (fun k_ => ((fun k_ => (P0_ k_ ∨ w.heap.size ≤ k_) ∧ some k_ ≠ (v476 : Value).ownBlock)) k_ ∧ some k_ ≠ (v464 : Value).ownBlock) rfl rfl ?aO ?aR (fun _ hk => hk) ?aF ?aB ?aS ?aL ?_
          (case aR => exact (by skip; exact Kd.V_F (Kd.V_mono (ok' := (fun k_ => ((fun k_ => (P0_ k_ ∨ w.heap.size ≤ k_) ∧ some k_ ≠ (v476 : Value).ownBlock)) k_ ∧ some k_ ≠ (v464 : Value).ownBlock)) (HO470.out) (fun k_ hk => ⟨⟨hk.1.1, hk.1.2⟩, hk.2⟩)))); (case aB => exact bel); (case aF => exact (fun k_ hk => ⟨(.inr (Nat.le_trans (below_size bel) hk)), Kd.fresh' (Kd.N_lt b47_) k_ hk⟩)); (case aO => exact (by (with_reducible repeat (first | apply Kd.N_alloc | apply Kd.N_drewN | apply Kd.N_drew)); exact Kd.N_mono HO465.out (fun _ hk => ⟨hk.1, hk.2.2⟩))); (case aS => exact (below_size bel)); (case aL => have := LMc19.out; omega); intro v472 w33 ho hb hg hat
          have HS0_ := cell_grown hg (by first | exact hHeld | exact (World.cell?_alloc_lt _ _ _ (World.block_lt_of_cell? _ _ (hHeld))).trans (hHeld)) b20_
          rw [← Ny471.out] at ho; replace HO_0 := am (Kd.V_afterv (ok := (fun k_ => (P0_ k_ ∨ w.heap.size ≤ k_) ∧ some k_ ≠ (.slice Ao5 x3_1.length co5 : Value).ownBlock ∧ some k_ ≠ (v476 : Value).ownBlock)) (vq (Kd.V_mono HO_0.out (fun _ hk => ⟨⟨hk.1.1.1, ⟨hk.1.1.2, hk.1.2⟩⟩, hk.2⟩))) hg hat)
          replace HO_3 := am (Kd.N_afterv (ok := (fun k_ => (P0_ k_ ∨ w.heap.size ≤ k_) ∧ some k_ ≠ (v476 : Value).ownBlock)) b9_ hg hat)
          replace HO470 := am (Kd.V_afterv (ok := (fun k_ => (P0_ k_ ∨ w.heap.size ≤ k_) ∧ some k_ ≠ (v476 : Value).ownBlock)) (vq HO470.out) hg hat); replace HL474_0 := am (Kd.V_afterv (ok := (fun k_ => (P0_ k_ ∨ w.heap.size ≤ k_) ∧ some k_ ≠ (.slice Ao5 x3_1.length co5 : Value).ownBlock ∧ some k_ ≠ (v476 : Value).ownBlock)) (vq (Kd.V_mono HL474_0.out (fun _ hk => ⟨⟨hk.1.1.1, ⟨hk.1.1.2, hk.1.2⟩⟩, hk.2⟩))) hg hat); replace HO485 := am (Kd.V_afterv (ok := (fun k_ => (P0_ k_ ∨ w.heap.size ≤ k_) ∧ some k_ ≠ (v476 : Value).ownBlock)) (vq HO485.out) hg hat)
          replace HO477 := am (Kd.N_afterv (ok := (fun k_ => (P0_ k_ ∨ w.heap.size ≤ k_) ∧ some k_ ≠ (.slice Ao5 x3_1.length co5 : Value).ownBlock)) b47_ hg hat)
          replace HB := am (hb); have HO473 := am (ho); clear HO465; clear ho hb hg hat
          refine hK.out _ _ (HS0_) (fun hHeld => ?_)
          clear hK K
          refine norm_ (a' := ?_) ?_ ?_
          rotate_left
          ·show Act.put _ (some 35) _ = _
           simp only [Act.put, List.setIfInBounds_toArray, List.set_cons_zero, List.set_cons_succ, i64_w, i32_w]
           rfl
          exact norm_ b49_ (hCont (v464, v472, v476) _ ⟨hHeld, (vq (Kd.V_mono HL474_0.out (fun _ hk => ⟨hk.1.1, ⟨hk.2, ⟨hk.1.2.2, hk.1.2.1⟩⟩⟩))), (vq (Kd.V_mono HO470.out (fun _ hk => ⟨hk.1.1, ⟨hk.2, hk.1.2⟩⟩))), b53_, b74_, (vq (Kd.V_mono HO485.out (fun _ hk => ⟨hk.1.1, ⟨hk.2, hk.1.2⟩⟩))), (vq (Kd.V_mono HO_0.out (fun _ hk => ⟨hk.1.1, ⟨hk.2, ⟨hk.1.2.2, hk.1.2.1⟩⟩⟩))), b77_, bel⟩)
        rintro ⟨v464, v472, v476⟩ w34 ⟨hS_, h0_, h1_, h2_, h3_, h4_, h5_, h6_, h7_⟩
        have n0_ : Aside0 (Kd.V Kd.string 9 w34 w.heap.size (fun k_ => (P0_ k_ ∨ w.heap.size ≤ k_) ∧ some k_ ≠ (v472 : Value).ownBlock ∧ some k_ ≠ (v476 : Value).ownBlock ∧ some k_ ≠ (.slice Ao5 x3_1.length co5 : Value).ownBlock) (.slice A474_0 (rd_L9 l0 x4_1).length c474_0) (rd_L9 l0 x4_1)) := ⟨h0_⟩
        have n1_ : Aside0 (Kd.V (Kd.slice 9 Kd.string) 22 w34 w.heap.size (fun k_ => (P0_ k_ ∨ w.heap.size ≤ k_) ∧ some k_ ≠ (v472 : Value).ownBlock ∧ some k_ ≠ (v476 : Value).ownBlock) (.slice Ao5 y466.length co5) y466) := ⟨h1_⟩
        have n2_ : Aside0 (Kd.N (Kd.slice 9 Kd.string) 22 w34 w.heap.size (fun k_ => (P0_ k_ ∨ w.heap.size ≤ k_) ∧ some k_ ≠ (v476 : Value).ownBlock) v472 y471) := ⟨h2_⟩
        have n3_ : Aside0 (Kd.N (Kd.slice 9 Kd.string) 22 w34 w.heap.size (fun k_ => (P0_ k_ ∨ w.heap.size ≤ k_) ∧ some k_ ≠ (v472 : Value).ownBlock ∧ some k_ ≠ (.slice Ao5 x3_1.length co5 : Value).ownBlock) v476 y475) := ⟨h3_⟩
        have n4_ : Aside0 (Kd.V (Kd.slice 9 Kd.string) 22 w34 w.heap.size (fun k_ => (P0_ k_ ∨ w.heap.size ≤ k_) ∧ some k_ ≠ (v472 : Value).ownBlock ∧ some k_ ≠ (v476 : Value).ownBlock) (.slice A28 y481.length c28) y481) := ⟨h4_⟩
        have n5_ : Aside0 (Kd.V (Kd.slice 9 Kd.string) 22 w34 w.heap.size (fun k_ => (P0_ k_ ∨ w.heap.size ≤ k_) ∧ some k_ ≠ (v472 : Value).ownBlock ∧ some k_ ≠ (v476 : Value).ownBlock ∧ some k_ ≠ (.slice Ao5 x3_1.length co5 : Value).ownBlock) (.slice (some ad474) l0.length c0) l0) := ⟨h5_⟩
        have n6_ : Aside0 (Kd.N (Kd.slice 9 Kd.string) 22 w34 w.heap.size (fun k_ => (P0_ k_ ∨ w.heap.size ≤ k_) ∧ some k_ ≠ (v472 : Value).ownBlock ∧ some k_ ≠ (v476 : Value).ownBlock) (.slice Ao5 x3_1.length co5) x3_1) := ⟨h6_⟩
        have n7_ : Aside0 (Below w.heap.size w w34) := ⟨h7_⟩
        clear HO_0; clear HO_3; clear HB; clear h0_ h1_ h2_ h3_ h4_ h5_ h6_ h7_; have HL474_0 := n0_; have HO470 := n1_; have HO473 := n2_; have HO477 := n3_; have HO485 := n4_; have HO_0 := n5_; have HO_3 := n6_; have HB := n7_; clear n0_ n1_ n2_ n3_ n4_ n5_ n6_ n7_
        have hHeld : w34.cell? (ad474.add (x4_1).toNat) = some (.slice A474_0 (rd_L9 l0 x4_1).length c474_0) := hS_
        obtain ⟨Ao36, co36, eo36⟩ := Kd.N_slice HO477.out
        (first | subst eo36 | (injection eo36 with f1_ f2_ f3_; have f4_ := f1_.symm; have f5_ := f3_.symm; clear f1_ f2_ f3_; subst f4_; subst f5_))
        refine norm_ (a' := ?_) ?_ ?_
        rotate_left
        ·simp only [putAll, Act.put, List.setIfInBounds_toArray, List.set_cons_zero, List.set_cons_succ]
         rfl
        refine on1 10 41 (fun K hK => ?_)
        refine Kd.N_append_rows_step (Kd.slice 9 Kd.string) (w0 := w) w.heap.size (by rfl) (.tmp 35) (.tmp 40) 179 22 (.slice none 0 0) 24 rfl Try.underlying179 info22 rfl (by decide) (by omega) v472 y471 y475 _ _ _ (fun k_ => (P0_ k_ ∨ w.heap.size ≤ k_)) (fun k_ => ((fun k_ => (P0_ k_ ∨ w.heap.size ≤ k_))) k_ ∧ some k_ ≠ (v472 : Value).ownBlock) rfl rfl ?aO ?aR (fun _ hk => hk) ?aF ?aB ?aS ?aL ?_
        (case aR => exact (by skip; exact Kd.N_F (Kd.N_mono (ok' := (fun k_ => ((fun k_ => (P0_ k_ ∨ w.heap.size ≤ k_))) k_ ∧ some k_ ≠ (v472 : Value).ownBlock)) (HO477.out) (fun k_ hk => ⟨hk.1, hk.2.1⟩)))); (case aB => exact bel); (case aF => exact (fun k_ hk => (.inr (Nat.le_trans (below_size bel) hk)))); (case aO => exact (by (with_reducible repeat (first | apply Kd.N_alloc | apply Kd.N_drewN | apply Kd.N_drew)); exact Kd.N_mono HO473.out (fun _ hk => hk.1))); (case aS => exact (below_size bel)); (case aL => have := LMc22.out; omega); intro v479 w35 ho hb hg hat
        have HS0_ := cell_grown hg (by first | exact hHeld | exact (World.cell?_alloc_lt _ _ _ (World.block_lt_of_cell? _ _ (hHeld))).trans (hHeld)) b20_
        rw [← Ny478.out] at ho; replace HO_0 := am (Kd.V_afterv (ok := (fun k_ => (P0_ k_ ∨ w.heap.size ≤ k_) ∧ some k_ ≠ (.slice Ao5 x3_1.length co5 : Value).ownBlock ∧ some k_ ≠ (.slice Ao36 y475.length co36 : Value).ownBlock)) (vq (Kd.V_mono HO_0.out (fun _ hk => ⟨⟨hk.1, ⟨hk.2.2.2, hk.2.2.1⟩⟩, hk.2.1⟩))) hg hat)
        replace HO_3 := am (Kd.N_afterv (ok := (fun k_ => (P0_ k_ ∨ w.heap.size ≤ k_) ∧ some k_ ≠ (.slice Ao36 y475.length co36 : Value).ownBlock)) (by (with_reducible repeat (first | apply Kd.N_alloc | apply Kd.N_drewN | apply Kd.N_drew)); exact Kd.N_mono HO_3.out (fun _ hk => ⟨⟨hk.1, hk.2.2⟩, hk.2.1⟩)) hg hat)
        replace HO470 := am (Kd.V_afterv (ok := (fun k_ => (P0_ k_ ∨ w.heap.size ≤ k_) ∧ some k_ ≠ (.slice Ao36 y475.length co36 : Value).ownBlock)) (vq (Kd.V_mono HO470.out (fun _ hk => ⟨⟨hk.1, hk.2.2⟩, hk.2.1⟩))) hg hat); replace HL474_0 := am (Kd.V_afterv (ok := (fun k_ => (P0_ k_ ∨ w.heap.size ≤ k_) ∧ some k_ ≠ (.slice Ao5 x3_1.length co5 : Value).ownBlock ∧ some k_ ≠ (.slice Ao36 y475.length co36 : Value).ownBlock)) (vq (Kd.V_mono HL474_0.out (fun _ hk => ⟨⟨hk.1, ⟨hk.2.2.2, hk.2.2.1⟩⟩, hk.2.1⟩))) hg hat); replace HO485 := am (Kd.V_afterv (ok := (fun k_ => (P0_ k_ ∨ w.heap.size ≤ k_) ∧ some k_ ≠ (.slice Ao36 y475.length co36 : Value).ownBlock)) (vq (Kd.V_mono HO485.out (fun _ hk => ⟨⟨hk.1, hk.2.2⟩, hk.2.1⟩))) hg hat)
        replace HO477 := am (Kd.N_afterv (ok := (fun k_ => (P0_ k_ ∨ w.heap.size ≤ k_) ∧ some k_ ≠ (.slice Ao5 x3_1.length co5 : Value).ownBlock)) (by (with_reducible repeat (first | apply Kd.N_alloc | apply Kd.N_drewN | apply Kd.N_drew)); exact Kd.N_mono HO477.out (fun _ hk => ⟨⟨hk.1, hk.2.2⟩, hk.2.1⟩)) hg hat)
        replace HB := am (hb); have HO480 := am (ho); clear HO473; clear ho hb hg hat
        refine hK.out _ _ (HS0_) (fun hHeld => ?_)
        clear hK K
        refine norm_ (a' := ?_) ?_ ?_
        rotate_left
        ·show Act.put _ (some 41) _ = _
         simp only [Act.put, List.setIfInBounds_toArray, List.set_cons_zero, List.set_cons_succ, i64_w, i32_w]
         rfl
        refine on1 14 45 (fun K hK => ?_)
        refine Kd.N_append_rows_step (Kd.slice 9 Kd.string) (w0 := w) w.heap.size (by rfl) (.tmp 41) (.tmp 44) 179 22 (.slice none 0 0) 24 rfl Try.underlying179 info22 rfl (by decide) (by omega) v479 y478 y481 _ _ _ (fun k_ => (P0_ k_ ∨ w.heap.size ≤ k_)) (fun k_ => ((fun k_ => (P0_ k_ ∨ w.heap.size ≤ k_))) k_ ∧ some k_ ≠ (v479 : Value).ownBlock) rfl rfl ?aO ?aR (fun _ hk => hk) ?aF ?aB ?aS ?aL ?_
        (case aR => exact (by skip; exact Kd.V_F (Kd.V_mono (ok' := (fun k_ => ((fun k_ => (P0_ k_ ∨ w.heap.size ≤ k_))) k_ ∧ some k_ ≠ (v479 : Value).ownBlock)) (HO485.out) (fun k_ hk => ⟨hk.1.1, hk.2⟩)))); (case aB => exact bel); (case aF => exact (fun k_ hk => (.inr (Nat.le_trans (below_size bel) hk)))); (case aO => exact (by (with_reducible repeat (first | apply Kd.N_alloc | apply Kd.N_drewN | apply Kd.N_drew)); exact HO480.out)); (case aS => exact (below_size bel)); (case aL => have := LMc25.out; omega); intro v487 w37 ho hb hg hat
        have HS0_ := cell_grown hg (by first | exact hHeld | exact (World.cell?_alloc_lt _ _ _ (World.block_lt_of_cell? _ _ (hHeld))).trans (hHeld)) b20_
        rw [← Ny486.out] at ho; replace HO_0 := am (Kd.V_afterv (ok := (fun k_ => (P0_ k_ ∨ w.heap.size ≤ k_) ∧ some k_ ≠ (.slice Ao5 x3_1.length co5 : Value).ownBlock ∧ some k_ ≠ (.slice Ao36 y475.length co36 : Value).ownBlock)) (vq HO_0.out) hg hat)
        replace HO_3 := am (Kd.N_afterv (ok := (fun k_ => (P0_ k_ ∨ w.heap.size ≤ k_) ∧ some k_ ≠ (.slice Ao36 y475.length co36 : Value).ownBlock)) b9_ hg hat)
        replace HO470 := am (Kd.V_afterv (ok := (fun k_ => (P0_ k_ ∨ w.heap.size ≤ k_) ∧ some k_ ≠ (.slice Ao36 y475.length co36 : Value).ownBlock)) (vq HO470.out) hg hat); replace HL474_0 := am (Kd.V_afterv (ok := (fun k_ => (P0_ k_ ∨ w.heap.size ≤ k_) ∧ some k_ ≠ (.slice Ao5 x3_1.length co5 : Value).ownBlock ∧ some k_ ≠ (.slice Ao36 y475.length co36 : Value).ownBlock)) (vq HL474_0.out) hg hat); replace HO485 := am (Kd.V_afterv (ok := (fun k_ => (P0_ k_ ∨ w.heap.size ≤ k_) ∧ some k_ ≠ (.slice Ao36 y475.length co36 : Value).ownBlock)) (vq HO485.out) hg hat)
        replace HO477 := am (Kd.N_afterv (ok := (fun k_ => (P0_ k_ ∨ w.heap.size ≤ k_) ∧ some k_ ≠ (.slice Ao5 x3_1.length co5 : Value).ownBlock)) b47_ hg hat)
        replace HB := am (hb); have HO488 := am (ho); clear HO480; clear ho hb hg hat
        refine hK.out _ _ (HS0_) (fun hHeld => ?_)
        clear hK K
        refine norm_ (a' := ?_) ?_ ?_
        rotate_left
        ·show Act.put _ (some 45) _ = _
         simp only [Act.put, List.setIfInBounds_toArray, List.set_cons_zero, List.set_cons_succ, i64_w, i32_w]
         rfl
        refine pu 15 3 ?_
        refine done_ (done_of HT_.out (by kernel_rfl)) ?_
        try go_wp2
        go_roundg kj5
        case measure => have := HK1.out; have := HK2.out; have := HJ5.out; omega
        case rel => exact ⟨(y486), (wrap64 (x4_1 + 1)), sq, H', ⟨by have := HK1.out; have := HK2.out; have := HJ5.out; omega⟩, ⟨vq (Kd.V_mono HO_0.out (fun _ hk => ⟨hk.1.1, hk.2⟩))⟩, ⟨by (with_reducible repeat (first | apply Kd.N_alloc | apply Kd.N_drewN | apply Kd.N_drew)); exact HO488.out⟩, ⟨bel⟩⟩
   rw [if_neg c4] at H; have c4b0 := decide_eq_false c4; clear c4; obtain rfl := Option.some.inj H; go_wp2; go_ret
   exact ⟨_, eq_, b9_, bel⟩
end Go.Proofs.Ytfpmfaelodfecaa.QFnMachineRank

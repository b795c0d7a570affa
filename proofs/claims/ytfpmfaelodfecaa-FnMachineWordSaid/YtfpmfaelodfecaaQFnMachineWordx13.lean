import Derived.Test.YtfpmfaelodfecaaQFnMachineWordx0
import Derived.Test.YtfpmfaelodfecaaQFnMachineWordx6
import Derived.Test.YtfpmfaelodfecaaQFnMachineWordx7
import Derived.Test.YtfpmfaelodfecaaQFnMachineWordx8
import Derived.Test.YtfpmfaelodfecaaQFnMachineWordx9
import Derived.Test.YtfpmfaelodfecaaQFnMachineWordx11
import Derived.Test.YtfpmfaelodfecaaQFnMachineWordx12
import Derived.Test.YtfpmfaelodfecaaVMSh2
namespace Go.Proofs.Ytfpmfaelodfecaa.QFnMachineWord
open Go.RowKit Go.Proofs.YtfpmfaelodfecaaW.PrintWords Go.Proofs.YtfpmfaelodfecaaW.PrintLast Go.Proofs.YtfpmfaelodfecaaW.PrintMore Go.Proofs.Ytfpmfaelodfecaa.Sh
attribute [local go_sem] max2_int min2_int max_two min_two max_three min_three max_four min_four   -- for this text's walks alone
set_option linter.unusedVariables false
set_option linter.unusedSimpArgs false
-- shrunk

/-! ### spec_l13Words: function 109 -/
mutual
def spec_l13Words.l0 : Nat → List ByteArray → Int → List Int → Int → Option (List ByteArray × Int)
 | 0, _, _, _, _ => none
 | k + 1, x3, x4, x1000, x1001 => if x4 > 0 then ((spec_l13Word.f k x1000 x1001).bind fun bt323 => ((spec_l1Put.f k x3 bt323.1).bind fun t325 => (spec_l13Words.l0 k t325 (wrap64 (x4 - 1)) x1000 bt323.2))) else ((spec_l1Rd_pick.f k x1000 x1001 3).bind fun bt328 => (if bt328.1 = 0 then ((spec_l13Book.f k x1000 bt328.2).bind fun bt330 => ((spec_l2Words.f k bt330.1 bt330.2.1).bind fun t337 => (spec_l13Words.j1 k t337 x1000 bt330.2.2))) else (spec_l13Words.j1 k x3 x1000 bt328.2)))
def spec_l13Words.j1 : Nat → List ByteArray → List Int → Int → Option (List ByteArray × Int)
 | 0, _, _, _ => none
 | k + 1, x3, x1000, x1001 => if (x3.length : Int) > 40 then (if 40 ≤ (x3.length : Int) then (some ((x3.take 40), x1001)) else (none)) else (some (x3, x1001))
end
def spec_l13Words.f (k : Nat) (s0_0 : List Int) (s0_1 : Int) : Option (List ByteArray × Int) := (spec_l1Rd_pick.f k s0_0 s0_1 9).bind fun bt321 => (spec_l13Words.l0 k (([] : List ByteArray)) bt321.1 s0_0 bt321.2)
set_option maxHeartbeats 8000000 in
set_option maxRecDepth 100000 in
theorem spec_l13Words.calls (k : Nat) (g : Nat) (s0_0 : List Int) (s0_1 : Int) (r1 : List ByteArray) (r2 : Int) (w0 w : World) (hI : IsS127 w0 w g s0_0 s0_1) (hB : Below w0.heap.size w0 w) (h : spec_l13Words.f k s0_0 s0_1 = some (r1, r2)) :
  Calls Try.prog 109 #[.pointer (some ⟨g, 0, none⟩)] w fun e w' => ∃ v0_ : Value, e = .returned (v0_) ∧ Kd.V Kd.string 9 w' w.heap.size (fun k_ => (w.heap.size ≤ k_)) v0_ r1 ∧ IsS127 w0 w' g s0_0 r2 ∧ Below w0.heap.size w0 w' ∧ KeepBut w w' g none := by
 have HI0 := am hI; have HK := am (KeepBut.refl w g none); have HL := am hB.size; clear hI; have HW0 := am hB.size; have HB := am hB; clear hB
 have H : ((spec_l1Rd_pick.f k s0_0 s0_1 9).bind fun bt321 => (spec_l13Words.l0 k (([] : List ByteArray)) bt321.1 s0_0 bt321.2)) = some (r1, r2) := h
 clear h; obtain ⟨y318, hy318⟩ : ∃ y_ : List ByteArray, y_ = (([] : List ByteArray)) := ⟨_, rfl⟩
 replace H : ((spec_l1Rd_pick.f k s0_0 s0_1 9).bind fun bt321 => (spec_l13Words.l0 k y318 bt321.1 s0_0 bt321.2)) = some (r1, r2) := by first | (rw [hy318]; with_reducible exact H) | (have H2_ := (Option.bind_some _ _).symm.trans H; rw [hy318]; with_reducible exact H2_) | (have H2_ := (Option.bind_some _ _).symm.trans H; with_reducible exact H2_) | with_reducible exact H | (rw [hy318]; exact H) | exact H
 have Ny318 := am hy318; clear hy318; replace H := Option.bind_eq_some_iff.mp H; obtain ⟨⟨t321, t322⟩, A20, H⟩ := H; replace H : (spec_l13Words.l0 k y318 t321 s0_0 t322) = some (r1, r2) := H; have A2 := Aside0.mk A20; clear A20
 have H' := am H
 clear H; go_enter Try.func109, Try.ntmps109
 go_wp2_with (first | ((with_reducible refine gate_dst (N := 5) rfl ?_); refine Kd.R_lit Kd.string _ 9 ?hg (N := 5) ?hd (xs := ([] : List ByteArray)) (inner := []) (ok := fun _ => True) (okp := fun _ => True) ?hr ?hp (fun _ hk => hk) trivial (Below.refl _ _) (Nat.le_refl _) (by simp) ?_; (case hd => rfl); (case hg => rfl); (case hr => first | (go_simp; done) | (go_simp; rfl)); (case hp => exact (Reps.none _ _)); intro v319 w3 ho4 hb hg_ hnew_; clear hg_ hnew_; (first | rw [← Ny318.out] at ho4 | (simp only [Int.reduceToNat] at ho4; rw [← Ny318.out] at ho4) | (simp only [Int.toNat_natCast] at ho4; rw [← Ny318.out] at ho4)); have HO320 := am (Kd.R_lower (Kd.R_newM (M := fun k_ => (w.heap.size ≤ k_)) ho4 (keep_size (w := w) (g := g) (row := none) b0_) (fun k_ h_ => h_)) (keep_size (w := w) (g := g) (row := none) b0_)); replace HK := am (KeepBut.trans b0_ (KeepBut.of_below hb g none) (.inl rfl)); replace HB := am (below_step b1_ hb); replace HI0 := am (IsS127.below b2_ hb); clear hb ho4) | ((with_reducible refine gate_callee (f := 67) rfl ?_); refine goesL_ (some 7) rfl rfl Try.func67 (by kernel_rfl) rfl #[.pointer (some ⟨g, 0, none⟩), .int .i64 9] rfl mq ?_; (with_reducible refine (spec_l1Rd_pick.calls k g s0_0 s0_1 9 t321 t322 w0 _ ?side1 ?side2 A2.out).mono ?_); (case side1 => repeat (first | (with_reducible first | exact HI0.out | apply IsS127.alloc | apply IsS127.drewN | apply IsS127.drew | apply IsS127.set_1) | exact HI0.out)); (case side2 => repeat (first | (with_reducible first | exact HB.out | apply below_alloc | apply pw_below_drewN | apply below_drew1 | refine below_set ?_ (IsS127.ge HI0.out)) | exact HB.out)); rintro e w5 ⟨rfl, hi, hb, hk⟩; refine ⟨_, rfl, ?_⟩; replace HO320 := am (Kd.R_mono (Kd.R_keep (IsS127.apart (show IsS127 w0 _ g s0_0 s0_1 from by repeat (first | (with_reducible first | exact HI0.out | apply IsS127.alloc | apply IsS127.drewN | apply IsS127.drew | apply IsS127.set_1) | exact HI0.out)) (rq HO320.out) (by decide)) hk (fun _ h => h.2)) (fun _ h => h.1)); replace HK := am (KeepBut.trans b0_ hk (.inl rfl)); replace HB := am (hb); replace HI0 := am (hi); (try clear hb); (try clear hb2); (try clear hk); (try clear hi)))
 go_loopg [3, 4] k (fun kq v3 v4 w' => ∃ (x3_1 : List ByteArray) (x4_1 : Int) (x1001_1 : Int), v4 = .int .i64 x4_1 ∧ Aside0 (spec_l13Words.l0 kq x3_1 x4_1 s0_0 x1001_1 = some (r1, r2)) ∧ Aside0 (kq ≤ k) ∧ Aside0 (Kd.V Kd.string 9 w' w.heap.size (fun k_ => (w.heap.size ≤ k_) ∧ k_ ≠ g) v3 x3_1) ∧ Aside0 (IsS127 w0 w' g s0_0 x1001_1) ∧ Aside0 (KeepBut w w' g none) ∧ Aside0 (Below w0.heap.size w0 w'))
 case atStart => exact ⟨(y318), (t321), (t322), sq, H', ⟨Nat.le_refl _⟩, ⟨Kd.R_V (rq (Kd.R_mono (IsS127.apart HI0.out HO320.out (by decide)) (fun _ hk => ⟨hk.1.1, hk.2⟩)))⟩, ⟨b2_⟩, ⟨b0_⟩, ⟨b1_⟩⟩
 case round =>
  clear H'; (try clear c1); (try clear p2); obtain ⟨x3_1, x4_1, x1001_1, rfl, HA, HK1, HO_3, HI0, HK, HB⟩ := hrel
  cases gk with
  | zero => exact absurd HA.out (by simp [spec_l13Words.l0])
  | succ k1 =>
   have H := HA.out; clear HA
   simp only [spec_l13Words.l0] at H
   by_cases c6 : x4_1 > 0
   ·rw [if_pos c6] at H; have c6b0 := decide_eq_true c6; clear c6; replace H := Option.bind_eq_some_iff.mp H; obtain ⟨⟨t323, t324⟩, A70, H⟩ := H; replace H : ((spec_l1Put.f k1 x3_1 t323).bind fun t325 => (spec_l13Words.l0 k1 t325 (wrap64 (x4_1 - 1)) s0_0 t324)) = some (r1, r2) := H; have A7 := Aside0.mk A70; clear A70; replace H := Option.bind_eq_some_iff.mp H; obtain ⟨t325, A80, H⟩ := H; replace H : (spec_l13Words.l0 k1 t325 (wrap64 (x4_1 - 1)) s0_0 t324) = some (r1, r2) := H; have A8 := Aside0.mk A80; clear A80
    have H' := am H
    clear H
    go_wp2_with (first | ((with_reducible refine gate_callee (f := 111) rfl ?_); refine goesL_ (some 14) rfl rfl Try.func111 (by kernel_rfl) rfl #[.pointer (some ⟨g, 0, none⟩)] rfl mq ?_; (with_reducible refine (spec_l13Word.calls k1 g s0_0 x1001_1 t323 t324 w0 _ ?side1 ?side2 A7.out).mono ?_); (case side1 => repeat (first | (with_reducible first | exact HI0.out | apply IsS127.alloc | apply IsS127.drewN | apply IsS127.drew | apply IsS127.set_1) | exact HI0.out)); (case side2 => repeat (first | (with_reducible first | exact HB.out | apply below_alloc | apply pw_below_drewN | apply below_drew1 | refine below_set ?_ (IsS127.ge HI0.out)) | exact HB.out)); rintro e w9 ⟨rfl, hi, hb, hk⟩; refine ⟨_, rfl, ?_⟩; replace HO_3 := am (Kd.V_mono (Kd.V_keep (Kd.V_mono (ok := fun k_ => (((w.heap.size ≤ k_)) ∧ k_ ≠ g)) (vq HO_3.out) (fun k_ hk_ => (⟨hk_, hk_.2⟩ : _ ∧ k_ ≠ g))) hk (fun _ h => h.2)) (fun _ h => h.1)); replace HK := am (KeepBut.trans b0_ hk (.inl rfl)); replace HB := am (hb); replace HI0 := am (hi); (try clear hb); (try clear hb2); (try clear hk); (try clear hi); obtain ⟨Ao10, co10, eo10⟩ := Kd.V_slice HO_3.out; subst eo10) | ((with_reducible refine gate_callee (f := 138) rfl ?_); refine goesL_ (some 15) rfl rfl Try.func138 (by kernel_rfl) rfl #[.slice Ao10 x3_1.length co10, .string t323] rfl mq ?_; (with_reducible refine (spec_l1Put.calls k1 (fun k_ => ((w.heap.size ≤ k_) ∧ k_ ≠ g)) _ _ x3_1 t323 t325 _ ?side1 A8.out).mono ?_); (case side1 => exact HO_3.out); rintro e w11 ⟨v326, rfl, ho0, hb⟩; refine ⟨_, rfl, ?_⟩; replace HO_3 := am (Kd.V_below (vq HO_3.out) hb); have HO327 := am (Kd.V_lower (Kd.V_mono (ok' := fun k_ => (w.heap.size ≤ k_) ∧ k_ ≠ g) ho0 (fun k_ hk_ => ⟨Or.elim hk_ (fun hs_ => hs_.1) (fun hn_ => (Nat.le_trans (keep_size (w := w) (g := g) (row := none) b0_) hn_)), Or.elim hk_ (fun hs_ => hs_.2) (fun hn_ => (IsS127.fresh b2_ k_ hn_))⟩)) (keep_size (w := w) (g := g) (row := none) b0_)); replace HK := am (KeepBut.trans b0_ (KeepBut.of_below hb g none) (.inl rfl)); replace HB := am (below_step b1_ hb); replace HI0 := am (IsS127.below b2_ hb); (try clear hb); (try clear hb2); (try clear hk); (try clear hi); (try clear ho0)))
    go_roundg k1
    case measure => have := HK1.out; omega
    case rel => exact ⟨(t325), (wrap64 (x4_1 - 1)), (t324), sq, H', ⟨b61_⟩, ⟨vq HO327.out⟩, ⟨b2_⟩, ⟨b0_⟩, ⟨b1_⟩⟩
   ·rw [if_neg c6] at H; have c6b0 := decide_eq_false c6; clear c6; replace H := Option.bind_eq_some_iff.mp H; obtain ⟨⟨t328, t329⟩, A120, H⟩ := H; replace H : (if t328 = 0 then ((spec_l13Book.f k1 s0_0 t329).bind fun bt330 => ((spec_l2Words.f k1 bt330.1 bt330.2.1).bind fun t337 => (spec_l13Words.j1 k1 t337 s0_0 bt330.2.2))) else (spec_l13Words.j1 k1 x3_1 s0_0 t329)) = some (r1, r2) := H; have A12 := Aside0.mk A120; clear A120; have HC13 := am H; clear H
    go_upto_if 18 with (first | ((with_reducible refine gate_callee (f := 67) rfl ?_); refine goesL_ (some 17) rfl rfl Try.func67 (by kernel_rfl) rfl #[.pointer (some ⟨g, 0, none⟩), .int .i64 3] rfl mq ?_; (with_reducible refine (spec_l1Rd_pick.calls k1 g s0_0 x1001_1 3 t328 t329 w0 _ ?side1 ?side2 A12.out).mono ?_); (case side1 => repeat (first | (with_reducible first | exact HI0.out | apply IsS127.alloc | apply IsS127.drewN | apply IsS127.drew | apply IsS127.set_1) | exact HI0.out)); (case side2 => repeat (first | (with_reducible first | exact HB.out | apply below_alloc | apply pw_below_drewN | apply below_drew1 | refine below_set ?_ (IsS127.ge HI0.out)) | exact HB.out)); rintro e w14 ⟨rfl, hi, hb, hk⟩; refine ⟨_, rfl, ?_⟩; replace HO_3 := am (Kd.V_mono (Kd.V_keep (Kd.V_mono (ok := fun k_ => (((w.heap.size ≤ k_)) ∧ k_ ≠ g)) (vq HO_3.out) (fun k_ hk_ => (⟨hk_, hk_.2⟩ : _ ∧ k_ ≠ g))) hk (fun _ h => h.2)) (fun _ h => h.1)); replace HK := am (KeepBut.trans b0_ hk (.inl rfl)); replace HB := am (hb); replace HI0 := am (hi); (try clear hb); (try clear hb2); (try clear hk); (try clear hi)))
    (try simp only [Act.put, List.setIfInBounds_toArray, List.set_cons_zero, List.set_cons_succ])
    go_cut [3] (fun v3 wc => ∃ (kq : Nat) (x3_12 : List ByteArray) (x1001_12 : Int), Aside0 (spec_l13Words.j1 kq x3_12 s0_0 x1001_12 = some (r1, r2)) ∧ Aside0 (kq ≤ k1) ∧ Aside0 (Kd.V Kd.string 9 wc w.heap.size (fun k_ => (w.heap.size ≤ k_) ∧ k_ ≠ g) v3 x3_12) ∧ Aside0 (IsS127 w0 wc g s0_0 x1001_12) ∧ Aside0 (KeepBut w wc g none) ∧ Aside0 (Below w0.heap.size w0 wc))
    case first =>
     have H := HC13.out; clear HC13
     by_cases c15 : t328 = 0
     ·rw [if_pos c15] at H
      have c15b0 : (t328 == 0) = true := beq_iff_eq.mpr c15
      have c15b1 : (t328 != 0) = false := bne_eq_false_iff_eq.mpr c15
      clear c15
      (first | rw [c15b0] | (simp only [i64_w, i32_w]; rw [c15b0]) | skip)
      replace H := Option.bind_eq_some_iff.mp H; obtain ⟨⟨t330, t333, t336⟩, A160, H⟩ := H; replace H : ((spec_l2Words.f k1 t330 t333).bind fun t337 => (spec_l13Words.j1 k1 t337 s0_0 t336)) = some (r1, r2) := H; have A16 := Aside0.mk A160; clear A160; replace H := Option.bind_eq_some_iff.mp H; obtain ⟨t337, A170, H⟩ := H; replace H : (spec_l13Words.j1 k1 t337 s0_0 t336) = some (r1, r2) := H; have A17 := Aside0.mk A170; clear A170
      have H' := am H
      clear H
      go_wp2_with (first | ((with_reducible refine gate_callee (f := 140) rfl ?_); refine goesL_ (some 20) rfl rfl Try.func140 (by kernel_rfl) rfl #[.pointer (some ⟨g, 0, none⟩)] rfl mq ?_; (with_reducible refine (spec_l13Book.calls k1 g s0_0 t329 t330 t333 t336 w0 _ ?side1 ?side2 A16.out).mono ?_); (case side1 => repeat (first | (with_reducible first | exact HI0.out | apply IsS127.alloc | apply IsS127.drewN | apply IsS127.drew | apply IsS127.set_1) | exact HI0.out)); (case side2 => repeat (first | (with_reducible first | exact HB.out | apply below_alloc | apply pw_below_drewN | apply below_drew1 | refine below_set ?_ (IsS127.ge HI0.out)) | exact HB.out)); rintro e w18 ⟨v331, v334, rfl, ho0, ho1, hi, hb, hk⟩; refine ⟨_, rfl, ?_⟩; replace HO_3 := am (Kd.V_mono (Kd.V_told (Kd.V_told (Kd.V_oldK (Kd.V_mono (ok := fun k_ => (((w.heap.size ≤ k_)) ∧ k_ ≠ g)) (vq HO_3.out) (fun k_ hk_ => (⟨hk_, hk_.2⟩ : _ ∧ k_ ≠ g))) hk) (Kd.R_base ho0)) (Kd.R_base ho1)) (fun _ h_ => h_.1)); have HO332 := am (Kd.R_lower (Kd.R_newM (M := fun k_ => (w.heap.size ≤ k_)) ho0 (keep_size (w := w) (g := g) (row := none) b0_) (fun k_ h_ => h_)) (keep_size (w := w) (g := g) (row := none) b0_)); have HO335 := am (Kd.R_lower (Kd.R_newM (M := fun k_ => (w.heap.size ≤ k_)) ho1 (keep_size (w := w) (g := g) (row := none) b0_) (fun k_ h_ => h_)) (keep_size (w := w) (g := g) (row := none) b0_)); replace HK := am (KeepBut.trans b0_ hk (.inl rfl)); replace HB := am (hb); replace HI0 := am (hi); (try clear hb); (try clear hb2); (try clear hk); (try clear hi); (try clear ho0); (try clear ho1); obtain ⟨Ao19, co19, eo19⟩ := Kd.R_slice HO332.out; subst eo19; obtain ⟨Ao20, co20, eo20⟩ := Kd.R_slice HO335.out; subst eo20) | ((with_reducible refine gate_callee (f := 139) rfl ?_); refine goesL_ (some 21) rfl rfl Try.func139 (by kernel_rfl) rfl #[.agg #[.slice Ao19 t330.length co19, .slice Ao20 t333.length co20]] rfl mq ?_; (with_reducible refine (spec_l2Words.calls k1 _ _ t330 _ _ t333 t337 _ ?side1 ?side2 ?side3 ?side4 A17.out).mono ?_); (case side1 => exact cq (Kd.R_reads' HO332.out).2.2); (case side2 => exact (Kd.R_reads' HO332.out).2.1); (case side3 => exact cq (Kd.R_reads' HO335.out).2.2); (case side4 => exact (Kd.R_reads' HO335.out).2.1); rintro e w21 ⟨v338, rfl, ho0, hb⟩; refine ⟨_, rfl, ?_⟩; replace HO_3 := am (Kd.V_below (vq HO_3.out) hb); have HO339 := am (Kd.V_lower (Kd.V_mono (ok' := fun k_ => (w.heap.size ≤ k_) ∧ some k_ ≠ (.slice Ao19 t330.length co19 : Value).ownBlock ∧ some k_ ≠ (.slice Ao20 t333.length co20 : Value).ownBlock ∧ k_ ≠ g) ho0 (fun k_ hk_ => ⟨(Nat.le_trans (keep_size (w := w) (g := g) (row := none) b0_) hk_), (Kd.fresh' (Kd.R_lt (rq HO332.out)) k_ hk_), (Kd.fresh' (Kd.R_lt (rq HO335.out)) k_ hk_), (IsS127.fresh b2_ k_ hk_)⟩)) (keep_size (w := w) (g := g) (row := none) b0_)); replace HO332 := am (Kd.R_below (rq HO332.out) hb); replace HO335 := am (Kd.R_below (rq HO335.out) hb); replace HK := am (KeepBut.trans b0_ (KeepBut.of_below hb g none) (.inl rfl)); replace HB := am (below_step b1_ hb); replace HI0 := am (IsS127.below b2_ hb); (try clear hb); (try clear hb2); (try clear hk); (try clear hi); (try clear ho0)))
      go_meet
      case rel => exact ⟨_, (t337), (t336), H', ⟨b24_⟩, ⟨vq (Kd.V_mono HO339.out (fun _ hk => ⟨hk.1, hk.2.2.2⟩))⟩, ⟨b2_⟩, ⟨b0_⟩, ⟨b1_⟩⟩
     ·rw [if_neg c15] at H
      have c15b0 : (t328 == 0) = false := beq_eq_false_iff_ne.mpr c15
      have c15b1 : (t328 != 0) = true := bne_iff_ne.mpr c15
      (first | rw [c15b0] | (simp only [i64_w, i32_w]; rw [c15b0]) | skip)
      have H' := am H
      clear H; go_wp2
      go_meet
      case rel => exact ⟨_, (x3_1), (t329), H', ⟨b24_⟩, ⟨vq HO_3.out⟩, ⟨b2_⟩, ⟨b0_⟩, ⟨b1_⟩⟩
    case rest =>
     clear HC13; (try clear c1); (try clear p2); (try clear c6); (try clear c6b0); (try clear p6); (try clear c10); (try clear c11); (try clear c13); (try clear c14); (try clear c15); (try clear c15b0); (try clear c15b1); (try clear p2); obtain ⟨kq, x3_12, x1001_12, HA, HJ12, HO_3, HI0, HK, HB⟩ := hcut
     cases kq with
     | zero => exact absurd HA.out (by simp [spec_l13Words.j1])
     | succ kj12 =>
      have H := HA.out; clear HA
      simp only [spec_l13Words.j1] at H
      by_cases c22 : (x3_12.length : Int) > 40
      ·rw [if_pos c22] at H; have c22b0 := decide_eq_true c22
       have c22b1 : decide (40 < x3_12.length) = true := decide_eq_true (by omega)
       clear c22
       by_cases c23 : 40 ≤ (x3_12.length : Int)
       ·rw [if_pos c23] at H; have c23b0 := eq_true c23
        have c23b1 : decide (40 ≤ (x3_12.length : Int)) = true := decide_eq_true c23
        clear c23; obtain ⟨y340, hy340⟩ : ∃ y_ : List ByteArray, y_ = (x3_12.take 40) := ⟨_, rfl⟩
        replace H : (some (y340, x1001_12)) = some (r1, r2) := by first | (rw [hy340]; with_reducible exact H) | (have H2_ := (Option.bind_some _ _).symm.trans H; rw [hy340]; with_reducible exact H2_) | (have H2_ := (Option.bind_some _ _).symm.trans H; with_reducible exact H2_) | with_reducible exact H | (rw [hy340]; exact H) | exact H
        have Ny340 := am hy340; clear hy340
        simp only [Option.some.injEq, Prod.mk.injEq] at H
        obtain ⟨rfl, rfl⟩ := H; obtain ⟨Ao24, co24, eo24⟩ := Kd.V_slice HO_3.out; subst eo24
        have q25 : (40 : Int) ≤ ((x3_12.length : Int) : Int) := of_decide_eq_true ad
        obtain ⟨i025, hi025, _, hsz25, _⟩ := info_parts info9
        have hroom25 : x3_12.length ≤ co24 := (Kd.V_reads' HO_3.out).2.1
        have hC25 : Kd.F Kd.string _ _ Ao24 x3_12.length x3_12 := (Kd.V_at (base := w.heap.size) HO_3.out).2.2
        have hcut25 := cut_to (P := Try.prog) 22 9 .i64 Try.underlying22 hi025 Ao24 x3_12.length co24 40 (by omega) q25 hroom25
        have hr25 := Kd.F_take (m := 40) hC25 (by omega)
        have hy25 : y340.length = (40 : Int).toNat := (by rw [Ny340.out, List.length_take]; omega)
        rw [← Ny340.out] at hr25; rw [← hy25] at hcut25
        have HO344 := am (show Kd.V Kd.string 9 _ w.heap.size _ (.slice Ao24 y340.length co24) y340 from Kd.V_mk (by omega) hr25)
        have HC344 := am (show y340.length ≤ co24 from by omega)
        clear hr25 hC25 hroom25 hi025 hsz25; have KY25 := am hy25; clear hy25; replace q25 := eq_true q25; go_wp2; go_ret
        exact ⟨_, eq_, by (with_reducible repeat (first | apply Kd.V_alloc | apply Kd.V_drewN | apply Kd.V_drew)); exact Kd.V_mono HO344.out (fun _ hk => hk.1), b2_, b1_, b0_⟩
       ·rw [if_neg c23] at H
        exact absurd H (by simp)
      ·rw [if_neg c22] at H; have c22b0 := decide_eq_false c22
       have c22b1 : decide (40 < x3_12.length) = false := decide_eq_false (by omega)
       clear c22
       simp only [Option.some.injEq, Prod.mk.injEq] at H
       obtain ⟨rfl, rfl⟩ := H; obtain ⟨Ao26, co26, eo26⟩ := Kd.V_slice HO_3.out; subst eo26; go_wp2; go_ret
       exact ⟨_, eq_, b78_, b2_, b1_, b0_⟩

/-! ### spec_l3Words: function 56 -/
def spec_l3Words.l0 : Nat → List ByteArray → Int → Option (Bool)
 | 0, _, _ => none
 | k + 1, x0, x3 => if x3 < (x0.length : Int) then (if 0 ≤ x3 then ((spec_l1Word.f k (rdOf ByteArray.empty x0 x3)).bind fun t346 => (if t346 = true then (if x3 > 0 then (if 0 ≤ (wrap64 (x3 - 1)) then (if (wrap64 (x3 - 1)) < (x0.length : Int) then (if ((Op.bytesLess ((rdOf ByteArray.empty x0 (wrap64 (x3 - 1))).toList) ((rdOf ByteArray.empty x0 x3).toList)) = true) then (spec_l3Words.l0 k x0 (wrap64 (x3 + 1))) else (some false)) else (none)) else (none)) else (spec_l3Words.l0 k x0 (wrap64 (x3 + 1)))) else (some false))) else (none)) else (some (decide ((x0.length : Int) ≤ 300)))
def spec_l3Words.f (k : Nat) (l0 : List ByteArray) : Option (Bool) := spec_l3Words.l0 k l0 0
set_option maxHeartbeats 8000000 in
set_option maxRecDepth 100000 in
theorem spec_l3Words.calls (k : Nat) (A0 : Option Addr) (c0 : Nat) (l0 : List ByteArray) (r : Bool) (w : World) (hr0 : Kd.C Kd.string w A0 l0.length l0) (hc0 : l0.length ≤ c0) (h : spec_l3Words.f k l0 = some r) :
  Calls Try.prog 56 #[.slice A0 l0.length c0] w fun e w' => e = .returned (.bool r) ∧ Drawn0 w w' := by
 have HR0 := am hr0; have HC0 := am hc0; clear hr0 hc0
 have H : (spec_l3Words.l0 k l0 0) = some r := h
 clear h
 have H' := am H
 clear H; go_enter Try.func56, Try.ntmps56; go_wp2
 repeat (go_quiet (fail); try go_wp2)
 go_loopg [3] k (fun kq v3 w' => ∃ (x3_1 : Int), v3 = .int .i64 x3_1 ∧ Aside0 (spec_l3Words.l0 kq l0 x3_1 = some r) ∧ Aside0 (kq ≤ k) ∧ Drawn0 w w')
 case atStart => exact ⟨(0), sq, H', ⟨Nat.le_refl _⟩, dr⟩
 case round =>
  clear H'; obtain ⟨x3_1, rfl, HA, HK1, ⟨m1, rfl⟩⟩ := hrel
  cases gk with
  | zero => exact absurd HA.out (by simp [spec_l3Words.l0])
  | succ k1 =>
   have H := HA.out; clear HA
   simp only [spec_l3Words.l0] at H
   by_cases c2 : x3_1 < (l0.length : Int)
   ·rw [if_pos c2] at H; have c2b0 := decide_eq_true c2; clear c2
    by_cases c3 : 0 ≤ x3_1
    ·rw [if_pos c3] at H; have c3b0 := decide_eq_true c3; clear c3; replace H := Option.bind_eq_some_iff.mp H; obtain ⟨t346, A40, H⟩ := H; replace H : (if t346 = true then (if x3_1 > 0 then (if 0 ≤ (wrap64 (x3_1 - 1)) then (if (wrap64 (x3_1 - 1)) < (l0.length : Int) then (if ((Op.bytesLess ((rdOf ByteArray.empty l0 (wrap64 (x3_1 - 1))).toList) ((rdOf ByteArray.empty l0 x3_1).toList)) = true) then (spec_l3Words.l0 k1 l0 (wrap64 (x3_1 + 1))) else (some false)) else (none)) else (none)) else (spec_l3Words.l0 k1 l0 (wrap64 (x3_1 + 1)))) else (some false)) = some r := H; have A4 := Aside0.mk A40; clear A40
     by_cases c5 : t346 = true
     ·subst c5
      have H1 : (if x3_1 > 0 then (if 0 ≤ (wrap64 (x3_1 - 1)) then (if (wrap64 (x3_1 - 1)) < (l0.length : Int) then (if ((Op.bytesLess ((rdOf ByteArray.empty l0 (wrap64 (x3_1 - 1))).toList) ((rdOf ByteArray.empty l0 x3_1).toList)) = true) then (spec_l3Words.l0 k1 l0 (wrap64 (x3_1 + 1))) else (some false)) else (none)) else (none)) else (spec_l3Words.l0 k1 l0 (wrap64 (x3_1 + 1)))) = some r := b20_
      replace H := H1; clear H1
      by_cases c6 : x3_1 > 0
      ·rw [if_pos c6] at H; have c6b0 := decide_eq_true c6; clear c6; obtain ⟨ji7, hji7⟩ : ∃ j_ : Int, (wrap64 (x3_1 - 1)) = j_ := ⟨_, rfl⟩
       replace H : (if 0 ≤ (ji7) then (if (ji7) < (l0.length : Int) then (if ((Op.bytesLess ((rdOf ByteArray.empty l0 (ji7)).toList) ((rdOf ByteArray.empty l0 x3_1).toList)) = true) then (spec_l3Words.l0 k1 l0 (wrap64 (x3_1 + 1))) else (some false)) else (none)) else (none)) = some r := by first | (rw [hji7] at H; exact H) | (simp only [hji7] at H ⊢; exact H)
       (try rw [hji7] at A4)
       have hji7w : (IntKind.i64.wrap (x3_1 - 1)) = ji7 := (i64_w _).trans hji7
       by_cases c8 : 0 ≤ (ji7)
       ·rw [if_pos c8] at H; have c8b0 := decide_eq_true c8; clear c8
        by_cases c9 : (ji7) < (l0.length : Int)
        ·rw [if_pos c9] at H; have c9b0 := decide_eq_true c9; clear c9
         by_cases c10 : ((Op.bytesLess ((rdOf ByteArray.empty l0 (ji7)).toList) ((rdOf ByteArray.empty l0 x3_1).toList)) = true)
         ·rw [if_pos c10] at H
          have c10b0 : (Op.bytesLess ((rdOf ByteArray.empty l0 (ji7)).toList) ((rdOf ByteArray.empty l0 x3_1).toList)) = true := c10
          clear c10
          have H' := am H
          clear H
          have p345 : 0 ≤ (x3_1 : Int) := of_decide_eq_true ad
          have q345 : x3_1 < (l0.length : Int) := of_decide_eq_true ad
          obtain ⟨ad345, e345, hx345_0⟩ := Kd.at_string HR0.out x3_1 p345 q345
          cases e345
          replace p345 := eq_true p345; replace q345 := eq_true q345
          try have p347 : 0 ≤ ((ji7) : Int) := of_decide_eq_true ad
          try have q347 : (ji7) < (l0.length : Int) := of_decide_eq_true ad
          try obtain ⟨ad347, e347, hx347_0⟩ := Kd.at_string HR0.out (ji7) p347 q347
          try obtain rfl : ad345 = ad347 := (by injection e347)
          try replace p347 := eq_true p347
          try replace q347 := eq_true q347
          try have p348 : 0 ≤ (x3_1 : Int) := of_decide_eq_true ad
          try have q348 : x3_1 < (l0.length : Int) := of_decide_eq_true ad
          try obtain ⟨ad348, e348, hx348_0⟩ := Kd.at_string HR0.out x3_1 p348 q348
          try obtain rfl : ad345 = ad348 := (by injection e348)
          try replace p348 := eq_true p348
          try replace q348 := eq_true q348
          go_wp2_with (first | (go_at_call 57; (with_reducible refine (spec_l1Word.calls k1 (rdOf ByteArray.empty l0 x3_1) true _ A4.out).mono ?_); rintro e w' ⟨rfl, ⟨nd, rfl⟩⟩; first | exact ⟨rfl, _, World.drewN_drewN _ _ _⟩ | exact ⟨rfl, _, Eq.trans (World.drewN_drewN _ _ _) (congrArg (World.drewN _) (Nat.add_assoc _ _ _))⟩ | (have p347 : 0 ≤ ((ji7) : Int) := of_decide_eq_true ad; have q347 : (ji7) < (l0.length : Int) := of_decide_eq_true ad; obtain ⟨ad347, e347, hx347_0⟩ := Kd.at_string HR0.out (ji7) p347 q347; obtain rfl : ad345 = ad347 := (by injection e347); replace p347 := eq_true p347; replace q347 := eq_true q347; have p348 : 0 ≤ (x3_1 : Int) := of_decide_eq_true ad; have q348 : x3_1 < (l0.length : Int) := of_decide_eq_true ad; obtain ⟨ad348, e348, hx348_0⟩ := Kd.at_string HR0.out x3_1 p348 q348; obtain rfl : ad345 = ad348 := (by injection e348); replace p348 := eq_true p348; replace q348 := eq_true q348)))
          repeat (go_quiet (first | (go_at_call 57; (with_reducible refine (spec_l1Word.calls k1 (rdOf ByteArray.empty l0 x3_1) true _ A4.out).mono ?_); rintro e w' ⟨rfl, ⟨nd, rfl⟩⟩; first | exact ⟨rfl, _, World.drewN_drewN _ _ _⟩ | exact ⟨rfl, _, Eq.trans (World.drewN_drewN _ _ _) (congrArg (World.drewN _) (Nat.add_assoc _ _ _))⟩ | (have p347 : 0 ≤ ((ji7) : Int) := of_decide_eq_true ad; have q347 : (ji7) < (l0.length : Int) := of_decide_eq_true ad; obtain ⟨ad347, e347, hx347_0⟩ := Kd.at_string HR0.out (ji7) p347 q347; obtain rfl : ad345 = ad347 := (by injection e347); replace p347 := eq_true p347; replace q347 := eq_true q347; have p348 : 0 ≤ (x3_1 : Int) := of_decide_eq_true ad; have q348 : x3_1 < (l0.length : Int) := of_decide_eq_true ad; obtain ⟨ad348, e348, hx348_0⟩ := Kd.at_string HR0.out x3_1 p348 q348; obtain rfl : ad345 = ad348 := (by injection e348); replace p348 := eq_true p348; replace q348 := eq_true q348))); try go_wp2_with (first | (go_at_call 57; (with_reducible refine (spec_l1Word.calls k1 (rdOf ByteArray.empty l0 x3_1) true _ A4.out).mono ?_); rintro e w' ⟨rfl, ⟨nd, rfl⟩⟩; first | exact ⟨rfl, _, World.drewN_drewN _ _ _⟩ | exact ⟨rfl, _, Eq.trans (World.drewN_drewN _ _ _) (congrArg (World.drewN _) (Nat.add_assoc _ _ _))⟩ | (have p347 : 0 ≤ ((ji7) : Int) := of_decide_eq_true ad; have q347 : (ji7) < (l0.length : Int) := of_decide_eq_true ad; obtain ⟨ad347, e347, hx347_0⟩ := Kd.at_string HR0.out (ji7) p347 q347; obtain rfl : ad345 = ad347 := (by injection e347); replace p347 := eq_true p347; replace q347 := eq_true q347; have p348 : 0 ≤ (x3_1 : Int) := of_decide_eq_true ad; have q348 : x3_1 < (l0.length : Int) := of_decide_eq_true ad; obtain ⟨ad348, e348, hx348_0⟩ := Kd.at_string HR0.out x3_1 p348 q348; obtain rfl : ad345 = ad348 := (by injection e348); replace p348 := eq_true p348; replace q348 := eq_true q348))))
          go_roundg k1
          case measure => have := HK1.out; omega
          case rel => exact ⟨(wrap64 (x3_1 + 1)), sq, H', ⟨b61_⟩, dr⟩
         ·rw [if_neg c10] at H
          have c10b0 : (Op.bytesLess ((rdOf ByteArray.empty l0 (ji7)).toList) ((rdOf ByteArray.empty l0 x3_1).toList)) = false := by simpa using c10
          clear c10; obtain rfl := Option.some.inj H
          have p345 : 0 ≤ (x3_1 : Int) := of_decide_eq_true ad
          have q345 : x3_1 < (l0.length : Int) := of_decide_eq_true ad
          obtain ⟨ad345, e345, hx345_0⟩ := Kd.at_string HR0.out x3_1 p345 q345
          cases e345
          replace p345 := eq_true p345; replace q345 := eq_true q345
          try have p347 : 0 ≤ ((ji7) : Int) := of_decide_eq_true ad
          try have q347 : (ji7) < (l0.length : Int) := of_decide_eq_true ad
          try obtain ⟨ad347, e347, hx347_0⟩ := Kd.at_string HR0.out (ji7) p347 q347
          try obtain rfl : ad345 = ad347 := (by injection e347)
          try replace p347 := eq_true p347
          try replace q347 := eq_true q347
          try have p348 : 0 ≤ (x3_1 : Int) := of_decide_eq_true ad
          try have q348 : x3_1 < (l0.length : Int) := of_decide_eq_true ad
          try obtain ⟨ad348, e348, hx348_0⟩ := Kd.at_string HR0.out x3_1 p348 q348
          try obtain rfl : ad345 = ad348 := (by injection e348)
          try replace p348 := eq_true p348
          try replace q348 := eq_true q348
          go_wp2_with (first | (go_at_call 57; (with_reducible refine (spec_l1Word.calls k1 (rdOf ByteArray.empty l0 x3_1) true _ A4.out).mono ?_); rintro e w' ⟨rfl, ⟨nd, rfl⟩⟩; first | exact ⟨rfl, _, World.drewN_drewN _ _ _⟩ | exact ⟨rfl, _, Eq.trans (World.drewN_drewN _ _ _) (congrArg (World.drewN _) (Nat.add_assoc _ _ _))⟩ | (have p347 : 0 ≤ ((ji7) : Int) := of_decide_eq_true ad; have q347 : (ji7) < (l0.length : Int) := of_decide_eq_true ad; obtain ⟨ad347, e347, hx347_0⟩ := Kd.at_string HR0.out (ji7) p347 q347; obtain rfl : ad345 = ad347 := (by injection e347); replace p347 := eq_true p347; replace q347 := eq_true q347; have p348 : 0 ≤ (x3_1 : Int) := of_decide_eq_true ad; have q348 : x3_1 < (l0.length : Int) := of_decide_eq_true ad; obtain ⟨ad348, e348, hx348_0⟩ := Kd.at_string HR0.out x3_1 p348 q348; obtain rfl : ad345 = ad348 := (by injection e348); replace p348 := eq_true p348; replace q348 := eq_true q348)))
          repeat (go_quiet (first | (go_at_call 57; (with_reducible refine (spec_l1Word.calls k1 (rdOf ByteArray.empty l0 x3_1) true _ A4.out).mono ?_); rintro e w' ⟨rfl, ⟨nd, rfl⟩⟩; first | exact ⟨rfl, _, World.drewN_drewN _ _ _⟩ | exact ⟨rfl, _, Eq.trans (World.drewN_drewN _ _ _) (congrArg (World.drewN _) (Nat.add_assoc _ _ _))⟩ | (have p347 : 0 ≤ ((ji7) : Int) := of_decide_eq_true ad; have q347 : (ji7) < (l0.length : Int) := of_decide_eq_true ad; obtain ⟨ad347, e347, hx347_0⟩ := Kd.at_string HR0.out (ji7) p347 q347; obtain rfl : ad345 = ad347 := (by injection e347); replace p347 := eq_true p347; replace q347 := eq_true q347; have p348 : 0 ≤ (x3_1 : Int) := of_decide_eq_true ad; have q348 : x3_1 < (l0.length : Int) := of_decide_eq_true ad; obtain ⟨ad348, e348, hx348_0⟩ := Kd.at_string HR0.out x3_1 p348 q348; obtain rfl : ad345 = ad348 := (by injection e348); replace p348 := eq_true p348; replace q348 := eq_true q348))); try go_wp2_with (first | (go_at_call 57; (with_reducible refine (spec_l1Word.calls k1 (rdOf ByteArray.empty l0 x3_1) true _ A4.out).mono ?_); rintro e w' ⟨rfl, ⟨nd, rfl⟩⟩; first | exact ⟨rfl, _, World.drewN_drewN _ _ _⟩ | exact ⟨rfl, _, Eq.trans (World.drewN_drewN _ _ _) (congrArg (World.drewN _) (Nat.add_assoc _ _ _))⟩ | (have p347 : 0 ≤ ((ji7) : Int) := of_decide_eq_true ad; have q347 : (ji7) < (l0.length : Int) := of_decide_eq_true ad; obtain ⟨ad347, e347, hx347_0⟩ := Kd.at_string HR0.out (ji7) p347 q347; obtain rfl : ad345 = ad347 := (by injection e347); replace p347 := eq_true p347; replace q347 := eq_true q347; have p348 : 0 ≤ (x3_1 : Int) := of_decide_eq_true ad; have q348 : x3_1 < (l0.length : Int) := of_decide_eq_true ad; obtain ⟨ad348, e348, hx348_0⟩ := Kd.at_string HR0.out x3_1 p348 q348; obtain rfl : ad345 = ad348 := (by injection e348); replace p348 := eq_true p348; replace q348 := eq_true q348))))
          go_ret
          exact ⟨by first | rfl | (simp; done) | (simp only [← hji7] <;> (first | rfl | simp)) | (simp [*]; done), dr⟩
        ·rw [if_neg c9] at H
         exact absurd H (by simp)
       ·rw [if_neg c8] at H
        exact absurd H (by simp)
      ·rw [if_neg c6] at H; have c6b0 := decide_eq_false c6; clear c6
       have H' := am H
       clear H
       have p345 : 0 ≤ (x3_1 : Int) := of_decide_eq_true ad
       have q345 : x3_1 < (l0.length : Int) := of_decide_eq_true ad
       obtain ⟨ad345, e345, hx345_0⟩ := Kd.at_string HR0.out x3_1 p345 q345
       cases e345
       replace p345 := eq_true p345; replace q345 := eq_true q345
       go_wp2_with (first | (go_at_call 57; (with_reducible refine (spec_l1Word.calls k1 (rdOf ByteArray.empty l0 x3_1) true _ A4.out).mono ?_); rintro e w' ⟨rfl, ⟨nd, rfl⟩⟩; (try first | exact ⟨rfl, _, World.drewN_drewN _ _ _⟩ | exact ⟨rfl, _, Eq.trans (World.drewN_drewN _ _ _) (congrArg (World.drewN _) (Nat.add_assoc _ _ _))⟩)))
       repeat (go_quiet (first | (go_at_call 57; (with_reducible refine (spec_l1Word.calls k1 (rdOf ByteArray.empty l0 x3_1) true _ A4.out).mono ?_); rintro e w' ⟨rfl, ⟨nd, rfl⟩⟩; (try first | exact ⟨rfl, _, World.drewN_drewN _ _ _⟩ | exact ⟨rfl, _, Eq.trans (World.drewN_drewN _ _ _) (congrArg (World.drewN _) (Nat.add_assoc _ _ _))⟩))); try go_wp2_with (first | (go_at_call 57; (with_reducible refine (spec_l1Word.calls k1 (rdOf ByteArray.empty l0 x3_1) true _ A4.out).mono ?_); rintro e w' ⟨rfl, ⟨nd, rfl⟩⟩; (try first | exact ⟨rfl, _, World.drewN_drewN _ _ _⟩ | exact ⟨rfl, _, Eq.trans (World.drewN_drewN _ _ _) (congrArg (World.drewN _) (Nat.add_assoc _ _ _))⟩))))
       go_roundg k1
       case measure => have := HK1.out; omega
       case rel => exact ⟨(wrap64 (x3_1 + 1)), sq, H', ⟨b61_⟩, dr⟩
     ·replace c5 := Bool.eq_false_iff.mpr c5; subst c5
      have H1 : (some false) = some r := b6_
      replace H := H1; clear H1
      obtain rfl := Option.some.inj H
      have p345 : 0 ≤ (x3_1 : Int) := of_decide_eq_true ad
      have q345 : x3_1 < (l0.length : Int) := of_decide_eq_true ad
      obtain ⟨ad345, e345, hx345_0⟩ := Kd.at_string HR0.out x3_1 p345 q345
      cases e345
      replace p345 := eq_true p345; replace q345 := eq_true q345
      go_wp2_with (first | (go_at_call 57; (with_reducible refine (spec_l1Word.calls k1 (rdOf ByteArray.empty l0 x3_1) false _ A4.out).mono ?_); rintro e w' ⟨rfl, ⟨nd, rfl⟩⟩; (try first | exact ⟨rfl, _, World.drewN_drewN _ _ _⟩ | exact ⟨rfl, _, Eq.trans (World.drewN_drewN _ _ _) (congrArg (World.drewN _) (Nat.add_assoc _ _ _))⟩)))
      repeat (go_quiet (first | (go_at_call 57; (with_reducible refine (spec_l1Word.calls k1 (rdOf ByteArray.empty l0 x3_1) false _ A4.out).mono ?_); rintro e w' ⟨rfl, ⟨nd, rfl⟩⟩; (try first | exact ⟨rfl, _, World.drewN_drewN _ _ _⟩ | exact ⟨rfl, _, Eq.trans (World.drewN_drewN _ _ _) (congrArg (World.drewN _) (Nat.add_assoc _ _ _))⟩))); try go_wp2_with (first | (go_at_call 57; (with_reducible refine (spec_l1Word.calls k1 (rdOf ByteArray.empty l0 x3_1) false _ A4.out).mono ?_); rintro e w' ⟨rfl, ⟨nd, rfl⟩⟩; (try first | exact ⟨rfl, _, World.drewN_drewN _ _ _⟩ | exact ⟨rfl, _, Eq.trans (World.drewN_drewN _ _ _) (congrArg (World.drewN _) (Nat.add_assoc _ _ _))⟩))))
      go_ret
      exact ⟨sq, dr⟩
    ·rw [if_neg c3] at H
     exact absurd H (by simp)
   ·rw [if_neg c2] at H; have c2b0 := decide_eq_false c2; clear c2; obtain rfl := Option.some.inj H; go_wp2
    repeat (go_quiet (fail); try go_wp2)
    go_ret
    exact ⟨sq, dr⟩

/-! ### spec_l3Ends: function 168 -/
def spec_l3Ends.l0 : Nat → List ByteArray → Int → List ByteArray → Int → Option (List ByteArray)
 | 0, _, _, _, _ => none
 | k + 1, x0, x1, x5, x6 => if x6 < (x0.length : Int) then (if 0 ≤ x6 then (if ((rdOf ByteArray.empty x0 x6).size : Int) > 0 then (if 0 < ((rdOf ByteArray.empty x0 x6).size : Int) then (if (bt (rdOf ByteArray.empty x0 x6) 0) = x1 then (if 1 ≤ ((rdOf ByteArray.empty x0 x6).size : Int) then (if x5.length < 8796093022208 then (spec_l3Ends.l0 k x0 x1 (x5 ++ [(rdOf ByteArray.empty x0 x6).extract 1 (rdOf ByteArray.empty x0 x6).size]) (wrap64 (x6 + 1))) else (none)) else (none)) else (spec_l3Ends.l0 k x0 x1 x5 (wrap64 (x6 + 1)))) else (none)) else (spec_l3Ends.l0 k x0 x1 x5 (wrap64 (x6 + 1)))) else (none)) else (some x5)
def spec_l3Ends.f (k : Nat) (l0 : List ByteArray) (a1 : Int) : Option (List ByteArray) := spec_l3Ends.l0 k l0 a1 (([] : List ByteArray)) 0
set_option maxHeartbeats 8000000 in
set_option maxRecDepth 100000 in
theorem spec_l3Ends.calls (k : Nat) (A0 : Option Addr) (c0 : Nat) (l0 : List ByteArray) (a1 : Int) (r : List ByteArray) (w : World) (hr0 : Kd.C Kd.string w A0 l0.length l0) (hc0 : l0.length ≤ c0) (h : spec_l3Ends.f k l0 a1 = some r) :
  Calls Try.prog 168 #[.slice A0 l0.length c0, .int .u8 a1] w fun e w' => ∃ v0_ : Value, e = .returned (v0_) ∧ Kd.R Kd.string 9 w' w.heap.size (fun _ => True) v0_ r ∧ Below w.heap.size w w' := by
 have HR0 := am hr0; have HC0 := am hc0; clear hr0 hc0; have HB := am (Below.refl w.heap.size w)
 have H : (spec_l3Ends.l0 k l0 a1 (([] : List ByteArray)) 0) = some r := h
 clear h; obtain ⟨y349, hy349⟩ : ∃ y_ : List ByteArray, y_ = (([] : List ByteArray)) := ⟨_, rfl⟩
 replace H : (spec_l3Ends.l0 k l0 a1 y349 0) = some r := by first | (rw [hy349]; with_reducible exact H) | (have H2_ := (Option.bind_some _ _).symm.trans H; rw [hy349]; with_reducible exact H2_) | (have H2_ := (Option.bind_some _ _).symm.trans H; with_reducible exact H2_) | with_reducible exact H | (rw [hy349]; exact H) | exact H
 have Ny349 := am hy349; clear hy349
 have H' := am H
 clear H; go_enter Try.func168, Try.ntmps168
 go_wp2_with (first | ((with_reducible refine gate_dst (N := 7) rfl ?_); refine Kd.R_lit Kd.string _ 9 ?hg (N := 7) ?hd (xs := ([] : List ByteArray)) (inner := []) (ok := fun _ => True) (okp := fun _ => True) ?hr ?hp (fun _ hk => hk) trivial (Below.refl _ _) (Nat.le_refl _) (by simp) ?_; (case hd => rfl); (case hg => rfl); (case hr => first | (go_simp; done) | (go_simp; rfl)); (case hp => exact (Reps.none _ _)); intro v350 w3 ho4 hb hg_ hnew_; clear hg_ hnew_; (first | rw [← Ny349.out] at ho4 | (simp only [Int.reduceToNat] at ho4; rw [← Ny349.out] at ho4) | (simp only [Int.toNat_natCast] at ho4; rw [← Ny349.out] at ho4)); have HO351 := am (Kd.R_lower ho4 (below_size bel)); replace HB := am (below_step bel hb); clear hb ho4))
 go_loopg [5, 6] k (fun kq v5 v6 w' => ∃ (x5_1 : List ByteArray) (x6_1 : Int), v6 = .int .i64 x6_1 ∧ Aside0 (spec_l3Ends.l0 kq l0 a1 x5_1 x6_1 = some r) ∧ Aside0 (kq ≤ k) ∧ Aside0 (Kd.R Kd.string 9 w' w.heap.size (fun _ => True) v5 x5_1) ∧ Aside0 (Below w.heap.size w w'))
 case atStart => exact ⟨(y349), (0), sq, H', ⟨Nat.le_refl _⟩, ⟨rq HO351.out⟩, ⟨bel⟩⟩
 case round =>
  clear H'; (try clear c1); (try clear p2); obtain ⟨x5_1, x6_1, rfl, HA, HK1, HO_5, HB⟩ := hrel
  cases gk with
  | zero => exact absurd HA.out (by simp [spec_l3Ends.l0])
  | succ k1 =>
   have H := HA.out; clear HA
   simp only [spec_l3Ends.l0] at H
   by_cases c5 : x6_1 < (l0.length : Int)
   ·rw [if_pos c5] at H; have c5b0 := decide_eq_true c5; clear c5
    by_cases c6 : 0 ≤ x6_1
    ·rw [if_pos c6] at H; have c6b0 := decide_eq_true c6; clear c6
     by_cases c7 : ((rdOf ByteArray.empty l0 x6_1).size : Int) > 0
     ·rw [if_pos c7] at H; have c7b0 := decide_eq_true c7
      have c7b1 : decide (0 < (rdOf ByteArray.empty l0 x6_1).size) = true := decide_eq_true (by omega)
      clear c7
      by_cases c8 : 0 < ((rdOf ByteArray.empty l0 x6_1).size : Int)
      ·rw [if_pos c8] at H; have c8b0 := decide_eq_true c8
       have c8b1 : decide (0 < (rdOf ByteArray.empty l0 x6_1).size) = true := decide_eq_true (by omega)
       clear c8
       by_cases c10 : (bt (rdOf ByteArray.empty l0 x6_1) 0) = a1
       ·rw [if_pos c10] at H
        have c10b0 : ((bt (rdOf ByteArray.empty l0 x6_1) 0) == a1) = true := beq_iff_eq.mpr c10
        have c10b1 : ((bt (rdOf ByteArray.empty l0 x6_1) 0) != a1) = false := bne_eq_false_iff_eq.mpr c10
        clear c10
        by_cases c11 : 1 ≤ ((rdOf ByteArray.empty l0 x6_1).size : Int)
        ·rw [if_pos c11] at H; have c11b0 := eq_true c11
         have c11b1 : decide (1 ≤ ((rdOf ByteArray.empty l0 x6_1).size : Int)) = true := decide_eq_true c11
         clear c11
         by_cases c12 : x5_1.length < 8796093022208
         ·rw [if_pos c12] at H; have LMc12 := Aside0.mk c12; clear c12; obtain ⟨y355, hy355⟩ : ∃ y_ : List ByteArray, y_ = (x5_1 ++ [(rdOf ByteArray.empty l0 x6_1).extract 1 (rdOf ByteArray.empty l0 x6_1).size]) := ⟨_, rfl⟩
          replace H : (spec_l3Ends.l0 k1 l0 a1 y355 (wrap64 (x6_1 + 1))) = some r := by first | (rw [hy355]; with_reducible exact H) | (have H2_ := (Option.bind_some _ _).symm.trans H; rw [hy355]; with_reducible exact H2_) | (have H2_ := (Option.bind_some _ _).symm.trans H; with_reducible exact H2_) | with_reducible exact H | (rw [hy355]; exact H) | exact H
          have Ny355 := am hy355; clear hy355
          have H' := am H
          clear H
          have p352 : 0 ≤ (x6_1 : Int) := of_decide_eq_true ad
          have q352 : x6_1 < (l0.length : Int) := of_decide_eq_true ad
          obtain ⟨ad352, e352, hx352_0⟩ := Kd.at_string HR0.out x6_1 p352 q352
          cases e352
          replace hx352_0 := kp HB.out hx352_0; replace p352 := eq_true p352; replace q352 := eq_true q352
          have p353 : 0 ≤ (x6_1 : Int) := of_decide_eq_true ad
          have q353 : x6_1 < (l0.length : Int) := of_decide_eq_true ad
          obtain ⟨ad353, e353, hx353_0⟩ := Kd.at_string HR0.out x6_1 p353 q353
          obtain rfl : ad352 = ad353 := (by injection e353)
          replace hx353_0 := kp HB.out hx353_0; replace p353 := eq_true p353; replace q353 := eq_true q353
          have p9 : 0 ≤ (0 : Int) := (by omega)
          have q9 : 0 < (rdOf ByteArray.empty l0 x6_1).size := (by have : (0 : Int) < ((rdOf ByteArray.empty l0 x6_1).size : Int) := of_decide_eq_true ad; omega)
          have hx9 : ∀ h : 0 < (rdOf ByteArray.empty l0 x6_1).size, (((rdOf ByteArray.empty l0 x6_1)[0]'h).toNat : Int) = bt (rdOf ByteArray.empty l0 x6_1) 0 := bt_at (rdOf ByteArray.empty l0 x6_1) 0
          clear p9
          have qi9 : (0 < ((rdOf ByteArray.empty l0 x6_1).size : Int)) = True := eq_true (of_decide_eq_true ad)
          replace q9 := eq_true q9
          have p354 : 0 ≤ (x6_1 : Int) := of_decide_eq_true ad
          have q354 : x6_1 < (l0.length : Int) := of_decide_eq_true ad
          obtain ⟨ad354, e354, hx354_0⟩ := Kd.at_string HR0.out x6_1 p354 q354
          obtain rfl : ad352 = ad354 := (by injection e354)
          replace hx354_0 := kp HB.out hx354_0; replace p354 := eq_true p354; replace q354 := eq_true q354
          go_wp2_with (first | ((with_reducible refine gate_builtin (b := .append) (xs := #[.tmp 29, .tmp 35]) rfl ?_); at_builtin; refine Kd.R_append Kd.string (w0 := w) w.heap.size rfl (.tmp 29) (.tmp 35) 22 9 (.string ⟨#[]⟩) 16 rfl Try.underlying22 info9 rfl (by decide) (by omega) u5 x5_1 ((rdOf ByteArray.empty l0 x6_1).extract 1 (rdOf ByteArray.empty l0 x6_1).size) [.string ((rdOf ByteArray.empty l0 x6_1).extract 1 (rdOf ByteArray.empty l0 x6_1).size)] (fun _ => True) (fun _ => False) rfl rfl ?aP (fun _ hk => hk.elim) ?aF ?aO ?aB ?aS ?aL ?_; (case aP => exact rfl); (case aB => exact bel); (case aF => exact (fun _ _ => trivial)); (case aO => exact (rq HO_5.out)); (case aS => exact (below_size bel)); (case aL => have := LMc12.out; omega); intro v356 w13 ho hb hg hat; rw [← Ny355.out] at ho; replace HB := am (hb); have HO357 := am (ho); clear HO_5; clear ho hb hg hat))
          go_roundg k1
          case measure => have := HK1.out; omega
          case rel => exact ⟨(y355), (wrap64 (x6_1 + 1)), sq, H', ⟨b61_⟩, ⟨rq HO357.out⟩, ⟨bel⟩⟩
         ·rw [if_neg c12] at H
          exact absurd H (by simp)
        ·rw [if_neg c11] at H
         exact absurd H (by simp)
       ·rw [if_neg c10] at H
        have c10b0 : ((bt (rdOf ByteArray.empty l0 x6_1) 0) == a1) = false := beq_eq_false_iff_ne.mpr c10
        have c10b1 : ((bt (rdOf ByteArray.empty l0 x6_1) 0) != a1) = true := bne_iff_ne.mpr c10
        have H' := am H
        clear H
        have p352 : 0 ≤ (x6_1 : Int) := of_decide_eq_true ad
        have q352 : x6_1 < (l0.length : Int) := of_decide_eq_true ad
        obtain ⟨ad352, e352, hx352_0⟩ := Kd.at_string HR0.out x6_1 p352 q352
        cases e352
        replace hx352_0 := kp HB.out hx352_0; replace p352 := eq_true p352; replace q352 := eq_true q352
        have p353 : 0 ≤ (x6_1 : Int) := of_decide_eq_true ad
        have q353 : x6_1 < (l0.length : Int) := of_decide_eq_true ad
        obtain ⟨ad353, e353, hx353_0⟩ := Kd.at_string HR0.out x6_1 p353 q353
        obtain rfl : ad352 = ad353 := (by injection e353)
        replace hx353_0 := kp HB.out hx353_0; replace p353 := eq_true p353; replace q353 := eq_true q353
        have p9 : 0 ≤ (0 : Int) := (by omega)
        have q9 : 0 < (rdOf ByteArray.empty l0 x6_1).size := (by have : (0 : Int) < ((rdOf ByteArray.empty l0 x6_1).size : Int) := of_decide_eq_true ad; omega)
        have hx9 : ∀ h : 0 < (rdOf ByteArray.empty l0 x6_1).size, (((rdOf ByteArray.empty l0 x6_1)[0]'h).toNat : Int) = bt (rdOf ByteArray.empty l0 x6_1) 0 := bt_at (rdOf ByteArray.empty l0 x6_1) 0
        clear p9
        have qi9 : (0 < ((rdOf ByteArray.empty l0 x6_1).size : Int)) = True := eq_true (of_decide_eq_true ad)
        replace q9 := eq_true q9; go_wp2
        go_roundg k1
        case measure => have := HK1.out; omega
        case rel => exact ⟨(x5_1), (wrap64 (x6_1 + 1)), sq, H', ⟨b61_⟩, ⟨rq HO_5.out⟩, ⟨bel⟩⟩
      ·rw [if_neg c8] at H
       exact absurd H (by simp)
     ·rw [if_neg c7] at H; have c7b0 := decide_eq_false c7
      have c7b1 : decide (0 < (rdOf ByteArray.empty l0 x6_1).size) = false := decide_eq_false (by omega)
      clear c7
      have H' := am H
      clear H
      have p352 : 0 ≤ (x6_1 : Int) := of_decide_eq_true ad
      have q352 : x6_1 < (l0.length : Int) := of_decide_eq_true ad
      obtain ⟨ad352, e352, hx352_0⟩ := Kd.at_string HR0.out x6_1 p352 q352
      cases e352
      replace hx352_0 := kp HB.out hx352_0; replace p352 := eq_true p352; replace q352 := eq_true q352; go_wp2
      go_roundg k1
      case measure => have := HK1.out; omega
      case rel => exact ⟨(x5_1), (wrap64 (x6_1 + 1)), sq, H', ⟨b61_⟩, ⟨rq HO_5.out⟩, ⟨bel⟩⟩
    ·rw [if_neg c6] at H
     exact absurd H (by simp)
   ·rw [if_neg c5] at H; have c5b0 := decide_eq_false c5; clear c5; obtain rfl := Option.some.inj H; go_wp2; go_ret
    exact ⟨_, eq_, by (with_reducible repeat (first | apply Kd.R_alloc | apply Kd.R_drewN | apply Kd.R_drew)); exact HO_5.out, bel⟩

/-! ### spec_l3Same: function 192 -/
def spec_l3Same.l0 : Nat → List ByteArray → List ByteArray → Int → Option (Bool)
 | 0, _, _, _ => none
 | k + 1, x0, x1, x5 => if x5 < (x0.length : Int) then (if 0 ≤ x5 then (if x5 < (x1.length : Int) then (if (rdOf ByteArray.empty x0 x5).toList = (rdOf ByteArray.empty x1 x5).toList then (spec_l3Same.l0 k x0 x1 (wrap64 (x5 + 1))) else (some false)) else (none)) else (none)) else (some true)
def spec_l3Same.f (k : Nat) (l0 : List ByteArray) (l1 : List ByteArray) : Option (Bool) := if (l0.length : Int) = (l1.length : Int) then (spec_l3Same.l0 k l0 l1 0) else (some false)
set_option maxHeartbeats 8000000 in
set_option maxRecDepth 100000 in
theorem spec_l3Same.calls (k : Nat) (A0 : Option Addr) (c0 : Nat) (l0 : List ByteArray) (A1 : Option Addr) (c1 : Nat) (l1 : List ByteArray) (r : Bool) (w : World) (hr0 : Kd.C Kd.string w A0 l0.length l0) (hc0 : l0.length ≤ c0) (hr1 : Kd.C Kd.string w A1 l1.length l1) (hc1 : l1.length ≤ c1) (h : spec_l3Same.f k l0 l1 = some r) :
  Calls Try.prog 192 #[.slice A0 l0.length c0, .slice A1 l1.length c1] w fun e w' => e = .returned (.bool r) ∧ Drawn0 w w' := by
 have HR0 := am hr0; have HC0 := am hc0; clear hr0 hc0; have HR1 := am hr1; have HC1 := am hc1; clear hr1 hc1
 have H : (if (l0.length : Int) = (l1.length : Int) then (spec_l3Same.l0 k l0 l1 0) else (some false)) = some r := h
 clear h
 by_cases c3 : (l0.length : Int) = (l1.length : Int)
 ·rw [if_pos c3] at H
  have c3b0 : ((l0.length : Int) == (l1.length : Int)) = true := beq_iff_eq.mpr c3
  have c3b1 : ((l0.length : Int) != (l1.length : Int)) = false := bne_eq_false_iff_eq.mpr c3
  have c3b2 : (l0.length == l1.length) = true := by first | simpa using c3 | (simp at c3 ⊢; omega)
  clear c3
  have H' := am H
  clear H; go_enter Try.func192, Try.ntmps192; go_wp2
  repeat (go_quiet (fail); try go_wp2)
  go_loopg [5] k (fun kq v5 w' => ∃ (x5_1 : Int), v5 = .int .i64 x5_1 ∧ Aside0 (spec_l3Same.l0 kq l0 l1 x5_1 = some r) ∧ Aside0 (kq ≤ k) ∧ Drawn0 w w')
  case atStart => exact ⟨(0), sq, H', ⟨Nat.le_refl _⟩, dr⟩
  case round =>
   clear H'; (try clear c1); (try clear p2); (try clear c3); (try clear c3b0); (try clear c3b1); (try clear c3b2); obtain ⟨x5_1, rfl, HA, HK1, ⟨m1, rfl⟩⟩ := hrel
   cases gk with
   | zero => exact absurd HA.out (by simp [spec_l3Same.l0])
   | succ k1 =>
    have H := HA.out; clear HA
    simp only [spec_l3Same.l0] at H
    by_cases c4 : x5_1 < (l0.length : Int)
    ·rw [if_pos c4] at H; have c4b0 := decide_eq_true c4; clear c4
     by_cases c5 : 0 ≤ x5_1
     ·rw [if_pos c5] at H; have c5b0 := decide_eq_true c5; clear c5
      by_cases c6 : x5_1 < (l1.length : Int)
      ·rw [if_pos c6] at H; have c6b0 := decide_eq_true c6; clear c6
       by_cases c7 : (rdOf ByteArray.empty l0 x5_1).toList = (rdOf ByteArray.empty l1 x5_1).toList
       ·rw [if_pos c7] at H
        have c7b0 : ((rdOf ByteArray.empty l0 x5_1).toList == (rdOf ByteArray.empty l1 x5_1).toList) = true := beq_iff_eq.mpr c7
        have c7b1 : ((rdOf ByteArray.empty l0 x5_1).toList != (rdOf ByteArray.empty l1 x5_1).toList) = false := bne_eq_false_iff_eq.mpr c7
        clear c7
        have H' := am H
        clear H
        have p358 : 0 ≤ (x5_1 : Int) := of_decide_eq_true ad
        have q358 : x5_1 < (l0.length : Int) := of_decide_eq_true ad
        obtain ⟨ad358, e358, hx358_0⟩ := Kd.at_string HR0.out x5_1 p358 q358
        cases e358
        replace p358 := eq_true p358; replace q358 := eq_true q358
        have p359 : 0 ≤ (x5_1 : Int) := of_decide_eq_true ad
        have q359 : x5_1 < (l1.length : Int) := of_decide_eq_true ad
        obtain ⟨ad359, e359, hx359_0⟩ := Kd.at_string HR1.out x5_1 p359 q359
        cases e359
        replace p359 := eq_true p359; replace q359 := eq_true q359; go_wp2
        repeat (go_quiet (fail); try go_wp2)
        go_roundg k1
        case measure => have := HK1.out; omega
        case rel => exact ⟨(wrap64 (x5_1 + 1)), sq, H', ⟨b61_⟩, dr⟩
       ·rw [if_neg c7] at H
        have c7b0 : ((rdOf ByteArray.empty l0 x5_1).toList == (rdOf ByteArray.empty l1 x5_1).toList) = false := beq_eq_false_iff_ne.mpr c7
        have c7b1 : ((rdOf ByteArray.empty l0 x5_1).toList != (rdOf ByteArray.empty l1 x5_1).toList) = true := bne_iff_ne.mpr c7
        obtain rfl := Option.some.inj H
        have p358 : 0 ≤ (x5_1 : Int) := of_decide_eq_true ad
        have q358 : x5_1 < (l0.length : Int) := of_decide_eq_true ad
        obtain ⟨ad358, e358, hx358_0⟩ := Kd.at_string HR0.out x5_1 p358 q358
        cases e358
        replace p358 := eq_true p358; replace q358 := eq_true q358
        have p359 : 0 ≤ (x5_1 : Int) := of_decide_eq_true ad
        have q359 : x5_1 < (l1.length : Int) := of_decide_eq_true ad
        obtain ⟨ad359, e359, hx359_0⟩ := Kd.at_string HR1.out x5_1 p359 q359
        cases e359
        replace p359 := eq_true p359; replace q359 := eq_true q359; go_wp2
        repeat (go_quiet (fail); try go_wp2)
        go_ret
        exact ⟨sq, dr⟩
      ·rw [if_neg c6] at H
       exact absurd H (by simp)
     ·rw [if_neg c5] at H
      exact absurd H (by simp)
    ·rw [if_neg c4] at H; have c4b0 := decide_eq_false c4; clear c4; obtain rfl := Option.some.inj H; go_wp2
     repeat (go_quiet (fail); try go_wp2)
     go_ret
     exact ⟨sq, dr⟩
 ·rw [if_neg c3] at H
  have c3b0 : ((l0.length : Int) == (l1.length : Int)) = false := beq_eq_false_iff_ne.mpr c3
  have c3b1 : ((l0.length : Int) != (l1.length : Int)) = true := bne_iff_ne.mpr c3
  have c3b2 : (l0.length == l1.length) = false := by first | simpa using c3 | (simp at c3 ⊢; omega)
  obtain rfl := Option.some.inj H; go_enter Try.func192, Try.ntmps192; go_wp2
  repeat (go_quiet (fail); try go_wp2)
  go_ret
  exact ⟨sq, dr⟩

end Go.Proofs.Ytfpmfaelodfecaa.QFnMachineWord

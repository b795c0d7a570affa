import Derived.Test.YtfpmfaelodfecaaQFnExactGuessesx0
import Derived.Test.YtfpmfaelodfecaaQFnExactGuessesx1
import Derived.Test.YtfpmfaelodfecaaVMSh2
namespace Go.Proofs.Ytfpmfaelodfecaa.QFnExactGuesses
open Go.RowKit Go.Proofs.YtfpmfaelodfecaaW.PrintWords Go.Proofs.YtfpmfaelodfecaaW.PrintLast Go.Proofs.YtfpmfaelodfecaaW.PrintMore Go.Proofs.Ytfpmfaelodfecaa.Sh
attribute [local go_sem] max2_int min2_int max_two min_two max_three min_three max_four min_four   -- for this text's walks alone
set_option linter.unusedVariables false
set_option linter.unusedSimpArgs false
-- shrunk

/-! ### spec_l1Far: function 103 -/
mutual
def spec_l1Far.l0 : Nat → ByteArray → ByteArray → List (List Int) → Int → Option (Int)
 | 0, _, _, _, _ => none
 | k + 1, x0, x1, x5, x6 => if x6 ≤ (x0.size : Int) then (spec_l1Far.l1 k x0 x1 x5 x6 (([] : List Int)) 0) else (if 0 ≤ (x0.size : Int) then (if (x0.size : Int) < (x5.length : Int) then (if 0 ≤ (x1.size : Int) then (if (x1.size : Int) < ((rd_L2 x5 (x0.size : Int)).length : Int) then (some (rd (rd_L2 x5 (x0.size : Int)) (x1.size : Int))) else (none)) else (none)) else (none)) else (none))
def spec_l1Far.l1 : Nat → ByteArray → ByteArray → List (List Int) → Int → List Int → Int → Option (Int)
 | 0, _, _, _, _, _, _ => none
 | k + 1, x0, x1, x5, x6, x7, x8 => if x8 ≤ (x1.size : Int) then (if x6 = 0 then (if x7.length < 17592186044416 then (spec_l1Far.l1 k x0 x1 x5 x6 (x7 ++ [x8]) (wrap64 (x8 + 1))) else (none)) else (if x8 = 0 then (if x7.length < 17592186044416 then (spec_l1Far.l1 k x0 x1 x5 x6 (x7 ++ [x6]) (wrap64 (x8 + 1))) else (none)) else (if 0 ≤ (wrap64 (x6 - 1)) then (if (wrap64 (x6 - 1)) < (x5.length : Int) then (if 0 ≤ (wrap64 (x8 - 1)) then (if (wrap64 (x8 - 1)) < ((rd_L2 x5 (wrap64 (x6 - 1))).length : Int) then (if (wrap64 (x6 - 1)) < (x0.size : Int) then (if (wrap64 (x8 - 1)) < (x1.size : Int) then (if (bt x0 (wrap64 (x6 - 1))) = (bt x1 (wrap64 (x8 - 1))) then (spec_l1Far.j2 k x0 x1 x5 x6 x7 x8 (rd (rd_L2 x5 (wrap64 (x6 - 1))) (wrap64 (x8 - 1)))) else (spec_l1Far.j2 k x0 x1 x5 x6 x7 x8 (wrap64 ((rd (rd_L2 x5 (wrap64 (x6 - 1))) (wrap64 (x8 - 1))) + 1)))) else (none)) else (none)) else (none)) else (none)) else (none)) else (none)))) else (if x5.length < 5864062014805 then (spec_l1Far.l0 k x0 x1 (x5 ++ [x7]) (wrap64 (x6 + 1))) else (none))
def spec_l1Far.j2 : Nat → ByteArray → ByteArray → List (List Int) → Int → List Int → Int → Int → Option (Int)
 | 0, _, _, _, _, _, _, _ => none
 | k + 1, x0, x1, x5, x6, x7, x8, x9 => if 0 ≤ (wrap64 (x6 - 1)) then (if (wrap64 (x6 - 1)) < (x5.length : Int) then (if 0 ≤ x8 then (if x8 < ((rd_L2 x5 (wrap64 (x6 - 1))).length : Int) then (if 0 ≤ (wrap64 (x8 - 1)) then (if (wrap64 (x8 - 1)) < (x7.length : Int) then ((spec_l1Least.f (wrap64 ((rd (rd_L2 x5 (wrap64 (x6 - 1))) x8) + 1)) (wrap64 ((rd x7 (wrap64 (x8 - 1))) + 1))).bind fun t129 => ((spec_l1Least.f x9 t129).bind fun t130 => (if x6 > 1 then (if x8 > 1 then (if (wrap64 (x6 - 1)) < (x0.size : Int) then (if 0 ≤ (wrap64 (x8 - 2)) then (if (wrap64 (x8 - 2)) < (x1.size : Int) then (if (bt x0 (wrap64 (x6 - 1))) = (bt x1 (wrap64 (x8 - 2))) then (if 0 ≤ (wrap64 (x6 - 2)) then (if (wrap64 (x6 - 2)) < (x0.size : Int) then (if (wrap64 (x8 - 1)) < (x1.size : Int) then (spec_l1Far.j3 k x0 x1 x5 x6 x7 x8 t130 ((bt x0 (wrap64 (x6 - 2))) == (bt x1 (wrap64 (x8 - 1))))) else (none)) else (none)) else (none)) else (spec_l1Far.j3 k x0 x1 x5 x6 x7 x8 t130 false)) else (none)) else (none)) else (none)) else (spec_l1Far.j3 k x0 x1 x5 x6 x7 x8 t130 false)) else (spec_l1Far.j3 k x0 x1 x5 x6 x7 x8 t130 false)))) else (none)) else (none)) else (none)) else (none)) else (none)) else (none)
def spec_l1Far.j3 : Nat → ByteArray → ByteArray → List (List Int) → Int → List Int → Int → Int → Bool → Option (Int)
 | 0, _, _, _, _, _, _, _, _ => none
 | k + 1, x0, x1, x5, x6, x7, x8, x9, x89 => if x89 = true then (if 0 ≤ (wrap64 (x6 - 2)) then (if (wrap64 (x6 - 2)) < (x5.length : Int) then (if 0 ≤ (wrap64 (x8 - 2)) then (if (wrap64 (x8 - 2)) < ((rd_L2 x5 (wrap64 (x6 - 2))).length : Int) then ((spec_l1Least.f x9 (wrap64 ((rd (rd_L2 x5 (wrap64 (x6 - 2))) (wrap64 (x8 - 2))) + 1))).bind fun t133 => (if x7.length < 17592186044416 then (spec_l1Far.l1 k x0 x1 x5 x6 (x7 ++ [t133]) (wrap64 (x8 + 1))) else (none))) else (none)) else (none)) else (none)) else (none)) else (if x7.length < 17592186044416 then (spec_l1Far.l1 k x0 x1 x5 x6 (x7 ++ [x9]) (wrap64 (x8 + 1))) else (none))
end
def spec_l1Far.f (k : Nat) (a0 : ByteArray) (a1 : ByteArray) : Option (Int) := spec_l1Far.l0 k a0 a1 (([] : List (List Int))) 0
set_option maxHeartbeats 8000000 in
set_option maxRecDepth 100000 in
theorem spec_l1Far.calls (k : Nat) (a0 : ByteArray) (a1 : ByteArray) (r : Int) (w : World) (h : spec_l1Far.f k a0 a1 = some r) :
  Calls Try.prog 103 #[.string a0, .string a1] w fun e w' => e = .returned (.int .i64 r) ∧ Below w.heap.size w w' := by
 have HB := am (Below.refl w.heap.size w)
 have H : (spec_l1Far.l0 k a0 a1 (([] : List (List Int))) 0) = some r := h
 clear h; obtain ⟨y107, hy107⟩ : ∃ y_ : List (List Int), y_ = (([] : List (List Int))) := ⟨_, rfl⟩
 replace H : (spec_l1Far.l0 k a0 a1 y107 0) = some r := by first | (rw [hy107]; with_reducible exact H) | (have H2_ := (Option.bind_some _ _).symm.trans H; rw [hy107]; with_reducible exact H2_) | (have H2_ := (Option.bind_some _ _).symm.trans H; with_reducible exact H2_) | with_reducible exact H | (rw [hy107]; exact H) | exact H
 have Ny107 := am hy107; clear hy107
 have H' := am H
 clear H; go_enter Try.func103, Try.ntmps103
 go_wp2_with (first | ((with_reducible refine gate_dst (N := 10) rfl ?_); refine Kd.S_lit (Kd.slice 3 (Kd.int .i64)) _ 86 ?hg (N := 10) ?hd (xs := ([] : List (List Int))) (inner := []) (ok := fun _ => True) (okp := fun _ => True) ?hr ?hp (fun _ hk => hk) trivial (Below.refl _ _) (Nat.le_refl _) (by simp) ?_; (case hd => rfl); (case hg => rfl); (case hr => first | (go_simp; done) | (go_simp; rfl)); (case hp => exact (Reps.none _ _)); intro v108 w3 ho4 hb hg_ hnew_; clear hg_ hnew_; (first | rw [← Ny107.out] at ho4 | (simp only [Int.reduceToNat] at ho4; rw [← Ny107.out] at ho4) | (simp only [Int.toNat_natCast] at ho4; rw [← Ny107.out] at ho4)); have HO109 := am (Kd.S_lower ho4 (below_size bel)); replace HB := am (below_step bel hb); clear hb ho4))
 repeat (go_quiet (first | ((with_reducible refine gate_dst (N := 10) rfl ?_); refine Kd.S_lit (Kd.slice 3 (Kd.int .i64)) _ 86 ?hg (N := 10) ?hd (xs := ([] : List (List Int))) (inner := []) (ok := fun _ => True) (okp := fun _ => True) ?hr ?hp (fun _ hk => hk) trivial (Below.refl _ _) (Nat.le_refl _) (by simp) ?_; (case hd => rfl); (case hg => rfl); (case hr => first | (go_simp; done) | (go_simp; rfl)); (case hp => exact (Reps.none _ _)); intro v108 w3 ho4 hb hg_ hnew_; clear hg_ hnew_; (first | rw [← Ny107.out] at ho4 | (simp only [Int.reduceToNat] at ho4; rw [← Ny107.out] at ho4) | (simp only [Int.toNat_natCast] at ho4; rw [← Ny107.out] at ho4)); have HO109 := am (Kd.S_lower ho4 (below_size bel)); replace HB := am (below_step bel hb); clear hb ho4)); try go_wp2_with (first | ((with_reducible refine gate_dst (N := 10) rfl ?_); refine Kd.S_lit (Kd.slice 3 (Kd.int .i64)) _ 86 ?hg (N := 10) ?hd (xs := ([] : List (List Int))) (inner := []) (ok := fun _ => True) (okp := fun _ => True) ?hr ?hp (fun _ hk => hk) trivial (Below.refl _ _) (Nat.le_refl _) (by simp) ?_; (case hd => rfl); (case hg => rfl); (case hr => first | (go_simp; done) | (go_simp; rfl)); (case hp => exact (Reps.none _ _)); intro v108 w3 ho4 hb hg_ hnew_; clear hg_ hnew_; (first | rw [← Ny107.out] at ho4 | (simp only [Int.reduceToNat] at ho4; rw [← Ny107.out] at ho4) | (simp only [Int.toNat_natCast] at ho4; rw [← Ny107.out] at ho4)); have HO109 := am (Kd.S_lower ho4 (below_size bel)); replace HB := am (below_step bel hb); clear hb ho4)))
 go_loopg [5, 6] k (fun kq v5 v6 w' => ∃ (x5_1 : List (List Int)) (x6_1 : Int), v6 = .int .i64 x6_1 ∧ Aside0 (spec_l1Far.l0 kq a0 a1 x5_1 x6_1 = some r) ∧ Aside0 (kq ≤ k) ∧ Aside0 (Kd.S (Kd.slice 3 (Kd.int .i64)) 86 w' w.heap.size (fun _ => True) v5 x5_1) ∧ Aside0 (Below w.heap.size w w'))
 case atStart => exact ⟨(y107), (0), sq, H', ⟨Nat.le_refl _⟩, ⟨by (with_reducible repeat (first | apply Kd.S_alloc | apply Kd.S_drewN | apply Kd.S_drew)); exact HO109.out⟩, ⟨bel⟩⟩
 case round =>
  clear H'; (try clear c1); (try clear p2); obtain ⟨x5_1, x6_1, rfl, HA, HK1, HO_5, HB⟩ := hrel
  cases gk with
  | zero => exact absurd HA.out (by simp [spec_l1Far.l0])
  | succ k1 =>
   have H := HA.out; clear HA
   simp only [spec_l1Far.l0] at H
   by_cases c5 : x6_1 ≤ (a0.size : Int)
   ·rw [if_pos c5] at H; have c5b0 := decide_eq_true c5; clear c5; obtain ⟨y112, hy112⟩ : ∃ y_ : List Int, y_ = (([] : List Int)) := ⟨_, rfl⟩
    replace H : (spec_l1Far.l1 k1 a0 a1 x5_1 x6_1 y112 0) = some r := by first | (rw [hy112]; with_reducible exact H) | (have H2_ := (Option.bind_some _ _).symm.trans H; rw [hy112]; with_reducible exact H2_) | (have H2_ := (Option.bind_some _ _).symm.trans H; with_reducible exact H2_) | with_reducible exact H | (rw [hy112]; exact H) | exact H
    have Ny112 := am hy112; clear hy112
    have H' := am H
    clear H
    go_wp2_with (first | ((with_reducible refine gate_dst (N := 17) rfl ?_); refine Kd.R_lit (Kd.int .i64) _ 3 ?hg (N := 17) ?hd (xs := ([] : List Int)) (inner := []) (ok := fun _ => True) (okp := fun _ => True) ?hr ?hp (fun _ hk => hk) trivial (Below.refl _ _) (Nat.le_refl _) (by simp) ?_; (case hd => rfl); (case hg => rfl); (case hr => first | (go_simp; done) | (go_simp; rfl)); (case hp => exact (Reps.none _ _)); intro v113 w6 ho7 hb hg_ hnew_; clear hg_ hnew_; (first | rw [← Ny112.out] at ho7 | (simp only [Int.reduceToNat] at ho7; rw [← Ny112.out] at ho7) | (simp only [Int.toNat_natCast] at ho7; rw [← Ny112.out] at ho7)); replace HO_5 := am (Kd.S_elder' b10_ (Kd.R_base ho7) hb); have HO114 := am (Kd.R_lower ho7 (below_size bel)); replace HB := am (below_step bel hb); clear hb ho7))
    repeat (go_quiet (first | ((with_reducible refine gate_dst (N := 17) rfl ?_); refine Kd.R_lit (Kd.int .i64) _ 3 ?hg (N := 17) ?hd (xs := ([] : List Int)) (inner := []) (ok := fun _ => True) (okp := fun _ => True) ?hr ?hp (fun _ hk => hk) trivial (Below.refl _ _) (Nat.le_refl _) (by simp) ?_; (case hd => rfl); (case hg => rfl); (case hr => first | (go_simp; done) | (go_simp; rfl)); (case hp => exact (Reps.none _ _)); intro v113 w6 ho7 hb hg_ hnew_; clear hg_ hnew_; (first | rw [← Ny112.out] at ho7 | (simp only [Int.reduceToNat] at ho7; rw [← Ny112.out] at ho7) | (simp only [Int.toNat_natCast] at ho7; rw [← Ny112.out] at ho7)); replace HO_5 := am (Kd.S_elder' b10_ (Kd.R_base ho7) hb); have HO114 := am (Kd.R_lower ho7 (below_size bel)); replace HB := am (below_step bel hb); clear hb ho7)); try go_wp2_with (first | ((with_reducible refine gate_dst (N := 17) rfl ?_); refine Kd.R_lit (Kd.int .i64) _ 3 ?hg (N := 17) ?hd (xs := ([] : List Int)) (inner := []) (ok := fun _ => True) (okp := fun _ => True) ?hr ?hp (fun _ hk => hk) trivial (Below.refl _ _) (Nat.le_refl _) (by simp) ?_; (case hd => rfl); (case hg => rfl); (case hr => first | (go_simp; done) | (go_simp; rfl)); (case hp => exact (Reps.none _ _)); intro v113 w6 ho7 hb hg_ hnew_; clear hg_ hnew_; (first | rw [← Ny112.out] at ho7 | (simp only [Int.reduceToNat] at ho7; rw [← Ny112.out] at ho7) | (simp only [Int.toNat_natCast] at ho7; rw [← Ny112.out] at ho7)); replace HO_5 := am (Kd.S_elder' b10_ (Kd.R_base ho7) hb); have HO114 := am (Kd.R_lower ho7 (below_size bel)); replace HB := am (below_step bel hb); clear hb ho7)))
    go_loopg [7, 8] k1 (fun kq v7 v8 w' => ∃ (x7_2 : List Int) (x8_2 : Int), v8 = .int .i64 x8_2 ∧ Aside0 (spec_l1Far.l1 kq a0 a1 x5_1 x6_1 x7_2 x8_2 = some r) ∧ Aside0 (kq ≤ k1) ∧ Aside0 (Kd.S (Kd.slice 3 (Kd.int .i64)) 86 w' w.heap.size (fun k_ => some k_ ≠ (v7 : Value).ownBlock) u5 x5_1) ∧ Aside0 (Kd.R (Kd.int .i64) 3 w' w.heap.size (fun _ => True) v7 x7_2) ∧ Aside0 (Below w.heap.size w w'))
    case atStart => exact ⟨(y112), (0), sq, H', ⟨Nat.le_refl _⟩, ⟨b17_⟩, ⟨rq HO114.out⟩, ⟨bel⟩⟩
    case round =>
     clear H'; (try clear c1); (try clear p2); (try clear c5); (try clear c5b0); (try clear p2); obtain ⟨x7_2, x8_2, rfl, HA, HK2, HO_5, HO_7, HB⟩ := hrel
     cases gk with
     | zero => exact absurd HA.out (by simp [spec_l1Far.l1])
     | succ k2 =>
      have H := HA.out; clear HA
      simp only [spec_l1Far.l1] at H
      by_cases c8 : x8_2 ≤ (a1.size : Int)
      ·rw [if_pos c8] at H; have c8b0 := decide_eq_true c8; clear c8
       by_cases c9 : x6_1 = 0
       ·rw [if_pos c9] at H
        have c9b0 : (x6_1 == 0) = true := beq_iff_eq.mpr c9
        have c9b1 : (x6_1 != 0) = false := bne_eq_false_iff_eq.mpr c9
        clear c9
        by_cases c10 : x7_2.length < 17592186044416
        ·rw [if_pos c10] at H; have LMc10 := Aside0.mk c10; clear c10; obtain ⟨y118, hy118⟩ : ∃ y_ : List Int, y_ = (x7_2 ++ [x8_2]) := ⟨_, rfl⟩
         replace H : (spec_l1Far.l1 k2 a0 a1 x5_1 x6_1 y118 (wrap64 (x8_2 + 1))) = some r := by first | (rw [hy118]; with_reducible exact H) | (have H2_ := (Option.bind_some _ _).symm.trans H; rw [hy118]; with_reducible exact H2_) | (have H2_ := (Option.bind_some _ _).symm.trans H; with_reducible exact H2_) | with_reducible exact H | (rw [hy118]; exact H) | exact H
         have Ny118 := am hy118; clear hy118
         have H' := am H
         clear H
         go_wp2_with (first | ((with_reducible refine gate_builtin (b := .append) (xs := #[.tmp 109, .tmp 111]) rfl ?_); at_builtin; refine Kd.R_append (Kd.int .i64) (w0 := w) w.heap.size rfl (.tmp 109) (.tmp 111) 86 3 (.int .i64 0) 8 rfl Try.underlying86 info3 rfl (by decide) (by omega) u7 x7_2 x8_2 [.int .i64 x8_2] (fun _ => True) (fun _ => False) rfl rfl ?aP (fun _ hk => hk.elim) ?aF ?aO ?aB ?aS ?aL ?_; (case aP => exact rfl); (case aB => exact bel); (case aF => exact (fun _ _ => trivial)); (case aO => exact (rq HO_7.out)); (case aS => exact (below_size bel)); (case aL => have := LMc10.out; omega); intro v119 w11 ho hb hg hat; rw [← Ny118.out] at ho; replace HO_5 := am (Kd.S_after (ok := (fun _ => True)) b3_ hg hat); replace HB := am (hb); have HO120 := am (ho); clear HO_7; clear ho hb hg hat))
         repeat (go_quiet (first | ((with_reducible refine gate_builtin (b := .append) (xs := #[.tmp 109, .tmp 111]) rfl ?_); at_builtin; refine Kd.R_append (Kd.int .i64) (w0 := w) w.heap.size rfl (.tmp 109) (.tmp 111) 86 3 (.int .i64 0) 8 rfl Try.underlying86 info3 rfl (by decide) (by omega) u7 x7_2 x8_2 [.int .i64 x8_2] (fun _ => True) (fun _ => False) rfl rfl ?aP (fun _ hk => hk.elim) ?aF ?aO ?aB ?aS ?aL ?_; (case aP => exact rfl); (case aB => exact bel); (case aF => exact (fun _ _ => trivial)); (case aO => exact (rq HO_7.out)); (case aS => exact (below_size bel)); (case aL => have := LMc10.out; omega); intro v119 w11 ho hb hg hat; rw [← Ny118.out] at ho; replace HO_5 := am (Kd.S_after (ok := (fun _ => True)) b3_ hg hat); replace HB := am (hb); have HO120 := am (ho); clear HO_7; clear ho hb hg hat)); try go_wp2_with (first | ((with_reducible refine gate_builtin (b := .append) (xs := #[.tmp 109, .tmp 111]) rfl ?_); at_builtin; refine Kd.R_append (Kd.int .i64) (w0 := w) w.heap.size rfl (.tmp 109) (.tmp 111) 86 3 (.int .i64 0) 8 rfl Try.underlying86 info3 rfl (by decide) (by omega) u7 x7_2 x8_2 [.int .i64 x8_2] (fun _ => True) (fun _ => False) rfl rfl ?aP (fun _ hk => hk.elim) ?aF ?aO ?aB ?aS ?aL ?_; (case aP => exact rfl); (case aB => exact bel); (case aF => exact (fun _ _ => trivial)); (case aO => exact (rq HO_7.out)); (case aS => exact (below_size bel)); (case aL => have := LMc10.out; omega); intro v119 w11 ho hb hg hat; rw [← Ny118.out] at ho; replace HO_5 := am (Kd.S_after (ok := (fun _ => True)) b3_ hg hat); replace HB := am (hb); have HO120 := am (ho); clear HO_7; clear ho hb hg hat)))
         go_roundg k2
         case measure => have := HK1.out; have := HK2.out; omega
         case rel => exact ⟨(y118), (wrap64 (x8_2 + 1)), sq, H', ⟨by have := HK1.out; have := HK2.out; omega⟩, ⟨b17_⟩, ⟨rq HO120.out⟩, ⟨bel⟩⟩
        ·rw [if_neg c10] at H
         exact absurd H (by simp)
       ·rw [if_neg c9] at H
        have c9b0 : (x6_1 == 0) = false := beq_eq_false_iff_ne.mpr c9
        have c9b1 : (x6_1 != 0) = true := bne_iff_ne.mpr c9
        by_cases c12 : x8_2 = 0
        ·rw [if_pos c12] at H
         have c12b0 : (x8_2 == 0) = true := beq_iff_eq.mpr c12
         have c12b1 : (x8_2 != 0) = false := bne_eq_false_iff_eq.mpr c12
         clear c12
         by_cases c13 : x7_2.length < 17592186044416
         ·rw [if_pos c13] at H; have LMc13 := Aside0.mk c13; clear c13; obtain ⟨y121, hy121⟩ : ∃ y_ : List Int, y_ = (x7_2 ++ [x6_1]) := ⟨_, rfl⟩
          replace H : (spec_l1Far.l1 k2 a0 a1 x5_1 x6_1 y121 (wrap64 (x8_2 + 1))) = some r := by first | (rw [hy121]; with_reducible exact H) | (have H2_ := (Option.bind_some _ _).symm.trans H; rw [hy121]; with_reducible exact H2_) | (have H2_ := (Option.bind_some _ _).symm.trans H; with_reducible exact H2_) | with_reducible exact H | (rw [hy121]; exact H) | exact H
          have Ny121 := am hy121; clear hy121
          have H' := am H
          clear H
          go_wp2_with (first | ((with_reducible refine gate_builtin (b := .append) (xs := #[.tmp 116, .tmp 118]) rfl ?_); at_builtin; refine Kd.R_append (Kd.int .i64) (w0 := w) w.heap.size rfl (.tmp 116) (.tmp 118) 86 3 (.int .i64 0) 8 rfl Try.underlying86 info3 rfl (by decide) (by omega) u7 x7_2 x6_1 [.int .i64 x6_1] (fun _ => True) (fun _ => False) rfl rfl ?aP (fun _ hk => hk.elim) ?aF ?aO ?aB ?aS ?aL ?_; (case aP => exact rfl); (case aB => exact bel); (case aF => exact (fun _ _ => trivial)); (case aO => exact (rq HO_7.out)); (case aS => exact (below_size bel)); (case aL => have := LMc13.out; omega); intro v122 w14 ho hb hg hat; rw [← Ny121.out] at ho; replace HO_5 := am (Kd.S_after (ok := (fun _ => True)) b3_ hg hat); replace HB := am (hb); have HO123 := am (ho); clear HO_7; clear ho hb hg hat))
          repeat (go_quiet (first | ((with_reducible refine gate_builtin (b := .append) (xs := #[.tmp 116, .tmp 118]) rfl ?_); at_builtin; refine Kd.R_append (Kd.int .i64) (w0 := w) w.heap.size rfl (.tmp 116) (.tmp 118) 86 3 (.int .i64 0) 8 rfl Try.underlying86 info3 rfl (by decide) (by omega) u7 x7_2 x6_1 [.int .i64 x6_1] (fun _ => True) (fun _ => False) rfl rfl ?aP (fun _ hk => hk.elim) ?aF ?aO ?aB ?aS ?aL ?_; (case aP => exact rfl); (case aB => exact bel); (case aF => exact (fun _ _ => trivial)); (case aO => exact (rq HO_7.out)); (case aS => exact (below_size bel)); (case aL => have := LMc13.out; omega); intro v122 w14 ho hb hg hat; rw [← Ny121.out] at ho; replace HO_5 := am (Kd.S_after (ok := (fun _ => True)) b3_ hg hat); replace HB := am (hb); have HO123 := am (ho); clear HO_7; clear ho hb hg hat)); try go_wp2_with (first | ((with_reducible refine gate_builtin (b := .append) (xs := #[.tmp 116, .tmp 118]) rfl ?_); at_builtin; refine Kd.R_append (Kd.int .i64) (w0 := w) w.heap.size rfl (.tmp 116) (.tmp 118) 86 3 (.int .i64 0) 8 rfl Try.underlying86 info3 rfl (by decide) (by omega) u7 x7_2 x6_1 [.int .i64 x6_1] (fun _ => True) (fun _ => False) rfl rfl ?aP (fun _ hk => hk.elim) ?aF ?aO ?aB ?aS ?aL ?_; (case aP => exact rfl); (case aB => exact bel); (case aF => exact (fun _ _ => trivial)); (case aO => exact (rq HO_7.out)); (case aS => exact (below_size bel)); (case aL => have := LMc13.out; omega); intro v122 w14 ho hb hg hat; rw [← Ny121.out] at ho; replace HO_5 := am (Kd.S_after (ok := (fun _ => True)) b3_ hg hat); replace HB := am (hb); have HO123 := am (ho); clear HO_7; clear ho hb hg hat)))
          go_roundg k2
          case measure => have := HK1.out; have := HK2.out; omega
          case rel => exact ⟨(y121), (wrap64 (x8_2 + 1)), sq, H', ⟨by have := HK1.out; have := HK2.out; omega⟩, ⟨b17_⟩, ⟨rq HO123.out⟩, ⟨bel⟩⟩
         ·rw [if_neg c13] at H
          exact absurd H (by simp)
        ·rw [if_neg c12] at H
         have c12b0 : (x8_2 == 0) = false := beq_eq_false_iff_ne.mpr c12
         have c12b1 : (x8_2 != 0) = true := bne_iff_ne.mpr c12
         obtain ⟨ji15, hji15⟩ : ∃ j_ : Int, (wrap64 (x6_1 - 1)) = j_ := ⟨_, rfl⟩
         replace H : (if 0 ≤ (ji15) then (if (ji15) < (x5_1.length : Int) then (if 0 ≤ (wrap64 (x8_2 - 1)) then (if (wrap64 (x8_2 - 1)) < ((rd_L2 x5_1 (ji15)).length : Int) then (if (ji15) < (a0.size : Int) then (if (wrap64 (x8_2 - 1)) < (a1.size : Int) then (if (bt a0 (ji15)) = (bt a1 (wrap64 (x8_2 - 1))) then (spec_l1Far.j2 k2 a0 a1 x5_1 x6_1 x7_2 x8_2 (rd (rd_L2 x5_1 (ji15)) (wrap64 (x8_2 - 1)))) else (spec_l1Far.j2 k2 a0 a1 x5_1 x6_1 x7_2 x8_2 (wrap64 ((rd (rd_L2 x5_1 (ji15)) (wrap64 (x8_2 - 1))) + 1)))) else (none)) else (none)) else (none)) else (none)) else (none)) else (none)) = some r := by first | (rw [hji15] at H; exact H) | (simp only [hji15] at H ⊢; exact H)
         have hji15w : (IntKind.i64.wrap (x6_1 - 1)) = ji15 := (i64_w _).trans hji15
         by_cases c16 : 0 ≤ (ji15)
         ·rw [if_pos c16] at H; have c16b0 := decide_eq_true c16; clear c16
          by_cases c17 : (ji15) < (x5_1.length : Int)
          ·rw [if_pos c17] at H; have c17b0 := decide_eq_true c17; clear c17; obtain ⟨ji18, hji18⟩ : ∃ j_ : Int, (wrap64 (x8_2 - 1)) = j_ := ⟨_, rfl⟩
           replace H : (if 0 ≤ (ji18) then (if (ji18) < ((rd_L2 x5_1 (ji15)).length : Int) then (if (ji15) < (a0.size : Int) then (if (ji18) < (a1.size : Int) then (if (bt a0 (ji15)) = (bt a1 (ji18)) then (spec_l1Far.j2 k2 a0 a1 x5_1 x6_1 x7_2 x8_2 (rd (rd_L2 x5_1 (ji15)) (ji18))) else (spec_l1Far.j2 k2 a0 a1 x5_1 x6_1 x7_2 x8_2 (wrap64 ((rd (rd_L2 x5_1 (ji15)) (ji18)) + 1)))) else (none)) else (none)) else (none)) else (none)) = some r := by first | (rw [hji18] at H; exact H) | (simp only [hji18] at H ⊢; exact H)
           have hji18w : (IntKind.i64.wrap (x8_2 - 1)) = ji18 := (i64_w _).trans hji18
           by_cases c19 : 0 ≤ (ji18)
           ·rw [if_pos c19] at H; have c19b0 := decide_eq_true c19; clear c19
            by_cases c20 : (ji18) < ((rd_L2 x5_1 (ji15)).length : Int)
            ·rw [if_pos c20] at H; have c20b0 := decide_eq_true c20; clear c20
             by_cases c21 : (ji15) < (a0.size : Int)
             ·rw [if_pos c21] at H; have c21b0 := decide_eq_true c21; clear c21
              by_cases c23 : (ji18) < (a1.size : Int)
              ·rw [if_pos c23] at H; have c23b0 := decide_eq_true c23; clear c23; have HC25 := am H; clear H; obtain ⟨Ao26, co26, eo26⟩ := Kd.S_slice HO_5.out; subst eo26
               have p124 : 0 ≤ ((ji15) : Int) := of_decide_eq_true ad
               have q124 : (ji15) < (x5_1.length : Int) := of_decide_eq_true ad
               obtain ⟨ad124, A124_0, c124_0, e124, hx124_0, hl124_0, hi124_0⟩ := at_L2 (Kd.S_reads' HO_5.out).2.2 (ji15) p124 q124
               cases e124
               obtain ⟨ce124, hce124, hMe124, hcc124⟩ := Kd.S_get HO_5.out [] (ji15) p124 (by first | exact q124 | exact of_decide_eq_true ad | (have e_ := (Kd.S_reads' HO_5.out).1; omega))
               obtain ⟨ve124_0, rfl, ge124_0⟩ := hMe124; have hv124_0 := hcc124 0 _ rfl; rw [Nat.add_zero, show ((Kd.slice 3 (Kd.int .i64))).sz = 1 from rfl, Nat.mul_one] at hv124_0; replace hv124_0 := Option.some.inj (hv124_0.symm.trans hx124_0); rw [hv124_0] at ge124_0; have HL124_0 := am (show Kd.R (Kd.int .i64) 3 _ _ _ _ (rd_L2 x5_1 (ji15)) from ge124_0); clear hv124_0 ge124_0; clear hcc124 hce124; have HR124_0 := am hi124_0; have HC124_0 := am hl124_0; clear hi124_0 hl124_0; replace p124 := eq_true p124; replace q124 := eq_true q124
               have p125 : 0 ≤ ((ji18) : Int) := of_decide_eq_true ad
               have q125 : (ji18) < ((rd_L2 x5_1 (ji15)).length : Int) := of_decide_eq_true ad
               obtain ⟨ad125, e125, hx125_0⟩ := Kd.at_int b8_ (ji18) p125 q125
               cases e125
               replace p125 := eq_true p125; replace q125 := eq_true q125
               have p22 : 0 ≤ ((ji15) : Int) := of_decide_eq_true ad
               have q22 : (ji15) < (a0.size : Int) := of_decide_eq_true ad
               have hx22 := bt_at a0 (ji15); replace p22 := eq_true p22; replace q22 := eq_true q22
               have p24 : 0 ≤ ((ji18) : Int) := of_decide_eq_true ad
               have q24 : (ji18) < (a1.size : Int) := of_decide_eq_true ad
               have hx24 := bt_at a1 (ji18); replace p24 := eq_true p24; replace q24 := eq_true q24
               go_upto_if 41 with (fail)
               repeat (go_quiet (fail); go_upto_if 41 with (fail))
               go_cut [9] (fun v9 wc => ∃ (kq : Nat) (x9_24 : Int), v9 = .int .i64 x9_24 ∧ Aside0 (spec_l1Far.j2 kq a0 a1 x5_1 x6_1 x7_2 x8_2 x9_24 = some r) ∧ Aside0 (kq ≤ k2) ∧ Aside0 (Kd.S (Kd.slice 3 (Kd.int .i64)) 86 wc w.heap.size (fun k_ => some k_ ≠ (u7 : Value).ownBlock) (.slice (some ad124) x5_1.length co26) x5_1) ∧ Aside0 (Kd.R (Kd.int .i64) 3 wc w.heap.size (fun _ => True) u7 x7_2) ∧ Aside0 (Kd.C (Kd.int .i64) wc (some ad125) (rd_L2 x5_1 (ji15)).length (rd_L2 x5_1 (ji15))) ∧ Aside0 (Below w.heap.size w wc))
               case first =>
                have H := HC25.out; clear HC25
                by_cases c27 : (bt a0 (ji15)) = (bt a1 (ji18))
                ·rw [if_pos c27] at H
                 have c27b0 : ((bt a0 (ji15)) == (bt a1 (ji18))) = true := beq_iff_eq.mpr c27
                 have c27b1 : ((bt a0 (ji15)) != (bt a1 (ji18))) = false := bne_eq_false_iff_eq.mpr c27
                 clear c27
                 (first | rw [c27b0] | (simp only [i64_w, i32_w]; rw [c27b0]) | skip)
                 have H' := am H
                 clear H; go_wp2
                 repeat (go_quiet (fail); try go_wp2)
                 go_meet
                 case rel => exact ⟨_, (rd (rd_L2 x5_1 (ji15)) (ji18)), (by first | rfl | (simp; done) | (simp only [← hji15, ← hji18] <;> (first | rfl | simp)) | (simp [*]; done)), H', ⟨by have := HK1.out; have := HK2.out; first | omega | exact Nat.le_refl _⟩, ⟨b10_⟩, ⟨rq HO_7.out⟩, ⟨b8_⟩, ⟨bel⟩⟩
                ·rw [if_neg c27] at H
                 have c27b0 : ((bt a0 (ji15)) == (bt a1 (ji18))) = false := beq_eq_false_iff_ne.mpr c27
                 have c27b1 : ((bt a0 (ji15)) != (bt a1 (ji18))) = true := bne_iff_ne.mpr c27
                 (first | rw [c27b0] | (simp only [i64_w, i32_w]; rw [c27b0]) | skip)
                 have H' := am H
                 clear H; go_wp2
                 repeat (go_quiet (fail); try go_wp2)
                 go_meet
                 case rel => exact ⟨_, (wrap64 ((rd (rd_L2 x5_1 (ji15)) (ji18)) + 1)), (by first | rfl | (simp; done) | (simp only [← hji15, ← hji18] <;> (first | rfl | simp)) | (simp [*]; done)), H', ⟨by have := HK1.out; have := HK2.out; first | omega | exact Nat.le_refl _⟩, ⟨b10_⟩, ⟨rq HO_7.out⟩, ⟨b8_⟩, ⟨bel⟩⟩
               case rest =>
                clear HC25; (try clear c1); (try clear p1); (try clear q1); (try clear hx1); (try clear c2); (try clear p2); (try clear q2); (try clear hx2); (try clear c5); (try clear c5b0); (try clear p6); (try clear c8); (try clear c8b0); (try clear c9); (try clear c9b0); (try clear c9b1); (try clear c10); (try clear c12); (try clear c12b0); (try clear c12b1); (try clear p12); (try clear q12); (try clear hx12); (try clear c13); (try clear c16); (try clear c16b0); (try clear c17); (try clear c17b0); (try clear c19); (try clear c19b0); (try clear c20); (try clear c20b0); (try clear c21); (try clear c21b0); (try clear p22); (try clear q22); (try clear hx22); (try clear c23); (try clear c23b0); (try clear p24); (try clear q24); (try clear hx24); (try clear c27); (try clear c27b0); (try clear c27b1); (try clear hx124_0); (try clear hx125_0); (try clear p124); (try clear p125); (try clear p2); (try clear p22); (try clear p24); (try clear q124); (try clear q125); (try clear q22); (try clear q24); obtain ⟨kq, x9_24, rfl, HA, HJ24, HO_5, HO_7, HR124_0, HB⟩ := hcut
                cases kq with
                | zero => exact absurd HA.out (by simp [spec_l1Far.j2])
                | succ kj24 =>
                 have H := HA.out; clear HA
                 simp only [spec_l1Far.j2] at H
                 obtain ⟨ji28, hji28⟩ : ∃ j_ : Int, (wrap64 (x6_1 - 1)) = j_ := ⟨_, rfl⟩
                 replace H : (if 0 ≤ (ji28) then (if (ji28) < (x5_1.length : Int) then (if 0 ≤ x8_2 then (if x8_2 < ((rd_L2 x5_1 (ji28)).length : Int) then (if 0 ≤ (wrap64 (x8_2 - 1)) then (if (wrap64 (x8_2 - 1)) < (x7_2.length : Int) then ((spec_l1Least.f (wrap64 ((rd (rd_L2 x5_1 (ji28)) x8_2) + 1)) (wrap64 ((rd x7_2 (wrap64 (x8_2 - 1))) + 1))).bind fun t129 => ((spec_l1Least.f x9_24 t129).bind fun t130 => (if x6_1 > 1 then (if x8_2 > 1 then (if (ji28) < (a0.size : Int) then (if 0 ≤ (wrap64 (x8_2 - 2)) then (if (wrap64 (x8_2 - 2)) < (a1.size : Int) then (if (bt a0 (ji28)) = (bt a1 (wrap64 (x8_2 - 2))) then (if 0 ≤ (wrap64 (x6_1 - 2)) then (if (wrap64 (x6_1 - 2)) < (a0.size : Int) then (if (wrap64 (x8_2 - 1)) < (a1.size : Int) then (spec_l1Far.j3 kj24 a0 a1 x5_1 x6_1 x7_2 x8_2 t130 ((bt a0 (wrap64 (x6_1 - 2))) == (bt a1 (wrap64 (x8_2 - 1))))) else (none)) else (none)) else (none)) else (spec_l1Far.j3 kj24 a0 a1 x5_1 x6_1 x7_2 x8_2 t130 false)) else (none)) else (none)) else (none)) else (spec_l1Far.j3 kj24 a0 a1 x5_1 x6_1 x7_2 x8_2 t130 false)) else (spec_l1Far.j3 kj24 a0 a1 x5_1 x6_1 x7_2 x8_2 t130 false)))) else (none)) else (none)) else (none)) else (none)) else (none)) else (none)) = some r := by first | (rw [hji28] at H; exact H) | (simp only [hji28] at H ⊢; exact H)
                 have hji28w : (IntKind.i64.wrap (x6_1 - 1)) = ji28 := (i64_w _).trans hji28
                 (try clear hji15w)
                 by_cases c29 : 0 ≤ (ji28)
                 ·rw [if_pos c29] at H; have c29b0 := decide_eq_true c29; clear c29
                  by_cases c30 : (ji28) < (x5_1.length : Int)
                  ·rw [if_pos c30] at H; have c30b0 := decide_eq_true c30; clear c30
                   by_cases c31 : 0 ≤ x8_2
                   ·rw [if_pos c31] at H; have c31b0 := decide_eq_true c31; clear c31
                    by_cases c32 : x8_2 < ((rd_L2 x5_1 (ji28)).length : Int)
                    ·rw [if_pos c32] at H; have c32b0 := decide_eq_true c32; clear c32; obtain ⟨ji33, hji33⟩ : ∃ j_ : Int, (wrap64 (x8_2 - 1)) = j_ := ⟨_, rfl⟩
                     replace H : (if 0 ≤ (ji33) then (if (ji33) < (x7_2.length : Int) then ((spec_l1Least.f (wrap64 ((rd (rd_L2 x5_1 (ji28)) x8_2) + 1)) (wrap64 ((rd x7_2 (ji33)) + 1))).bind fun t129 => ((spec_l1Least.f x9_24 t129).bind fun t130 => (if x6_1 > 1 then (if x8_2 > 1 then (if (ji28) < (a0.size : Int) then (if 0 ≤ (wrap64 (x8_2 - 2)) then (if (wrap64 (x8_2 - 2)) < (a1.size : Int) then (if (bt a0 (ji28)) = (bt a1 (wrap64 (x8_2 - 2))) then (if 0 ≤ (wrap64 (x6_1 - 2)) then (if (wrap64 (x6_1 - 2)) < (a0.size : Int) then (if (ji33) < (a1.size : Int) then (spec_l1Far.j3 kj24 a0 a1 x5_1 x6_1 x7_2 x8_2 t130 ((bt a0 (wrap64 (x6_1 - 2))) == (bt a1 (ji33)))) else (none)) else (none)) else (none)) else (spec_l1Far.j3 kj24 a0 a1 x5_1 x6_1 x7_2 x8_2 t130 false)) else (none)) else (none)) else (none)) else (spec_l1Far.j3 kj24 a0 a1 x5_1 x6_1 x7_2 x8_2 t130 false)) else (spec_l1Far.j3 kj24 a0 a1 x5_1 x6_1 x7_2 x8_2 t130 false)))) else (none)) else (none)) = some r := by first | (rw [hji33] at H; exact H) | (simp only [hji33] at H ⊢; exact H)
                     have hji33w : (IntKind.i64.wrap (x8_2 - 1)) = ji33 := (i64_w _).trans hji33
                     (try clear hji18w)
                     by_cases c34 : 0 ≤ (ji33)
                     ·rw [if_pos c34] at H; have c34b0 := decide_eq_true c34; clear c34
                      by_cases c35 : (ji33) < (x7_2.length : Int)
                      ·rw [if_pos c35] at H; have c35b0 := decide_eq_true c35; clear c35; replace H := Option.bind_eq_some_iff.mp H; obtain ⟨t129, A360, H⟩ := H; replace H : ((spec_l1Least.f x9_24 t129).bind fun t130 => (if x6_1 > 1 then (if x8_2 > 1 then (if (ji28) < (a0.size : Int) then (if 0 ≤ (wrap64 (x8_2 - 2)) then (if (wrap64 (x8_2 - 2)) < (a1.size : Int) then (if (bt a0 (ji28)) = (bt a1 (wrap64 (x8_2 - 2))) then (if 0 ≤ (wrap64 (x6_1 - 2)) then (if (wrap64 (x6_1 - 2)) < (a0.size : Int) then (if (ji33) < (a1.size : Int) then (spec_l1Far.j3 kj24 a0 a1 x5_1 x6_1 x7_2 x8_2 t130 ((bt a0 (wrap64 (x6_1 - 2))) == (bt a1 (ji33)))) else (none)) else (none)) else (none)) else (spec_l1Far.j3 kj24 a0 a1 x5_1 x6_1 x7_2 x8_2 t130 false)) else (none)) else (none)) else (none)) else (spec_l1Far.j3 kj24 a0 a1 x5_1 x6_1 x7_2 x8_2 t130 false)) else (spec_l1Far.j3 kj24 a0 a1 x5_1 x6_1 x7_2 x8_2 t130 false))) = some r := H; have A36 := Aside0.mk A360; clear A360; replace H := Option.bind_eq_some_iff.mp H; obtain ⟨t130, A370, H⟩ := H; replace H : (if x6_1 > 1 then (if x8_2 > 1 then (if (ji28) < (a0.size : Int) then (if 0 ≤ (wrap64 (x8_2 - 2)) then (if (wrap64 (x8_2 - 2)) < (a1.size : Int) then (if (bt a0 (ji28)) = (bt a1 (wrap64 (x8_2 - 2))) then (if 0 ≤ (wrap64 (x6_1 - 2)) then (if (wrap64 (x6_1 - 2)) < (a0.size : Int) then (if (ji33) < (a1.size : Int) then (spec_l1Far.j3 kj24 a0 a1 x5_1 x6_1 x7_2 x8_2 t130 ((bt a0 (wrap64 (x6_1 - 2))) == (bt a1 (ji33)))) else (none)) else (none)) else (none)) else (spec_l1Far.j3 kj24 a0 a1 x5_1 x6_1 x7_2 x8_2 t130 false)) else (none)) else (none)) else (none)) else (spec_l1Far.j3 kj24 a0 a1 x5_1 x6_1 x7_2 x8_2 t130 false)) else (spec_l1Far.j3 kj24 a0 a1 x5_1 x6_1 x7_2 x8_2 t130 false)) = some r := H; have A37 := Aside0.mk A370; clear A370; have HC38 := am H; clear H
                       have p126 : 0 ≤ ((ji28) : Int) := of_decide_eq_true ad
                       have q126 : (ji28) < (x5_1.length : Int) := of_decide_eq_true ad
                       obtain ⟨ad126, A126_0, c126_0, e126, hx126_0, hl126_0, hi126_0⟩ := at_L2 (Kd.S_reads' HO_5.out).2.2 (ji28) p126 q126
                       obtain rfl : ad124 = ad126 := (by injection e126)
                       obtain ⟨ce126, hce126, hMe126, hcc126⟩ := Kd.S_get HO_5.out [] (ji28) p126 (by first | exact q126 | exact of_decide_eq_true ad | (have e_ := (Kd.S_reads' HO_5.out).1; omega))
                       obtain ⟨ve126_0, rfl, ge126_0⟩ := hMe126; have hv126_0 := hcc126 0 _ rfl; rw [Nat.add_zero, show ((Kd.slice 3 (Kd.int .i64))).sz = 1 from rfl, Nat.mul_one] at hv126_0; replace hv126_0 := Option.some.inj (hv126_0.symm.trans hx126_0); rw [hv126_0] at ge126_0; have HL126_0 := am (show Kd.R (Kd.int .i64) 3 _ _ _ _ (rd_L2 x5_1 (ji28)) from ge126_0); clear hv126_0 ge126_0; clear hcc126 hce126; have HR126_0 := am hi126_0; have HC126_0 := am hl126_0; clear hi126_0 hl126_0; replace p126 := eq_true p126; replace q126 := eq_true q126
                       have p127 : 0 ≤ (x8_2 : Int) := of_decide_eq_true ad
                       have q127 : x8_2 < ((rd_L2 x5_1 (ji28)).length : Int) := of_decide_eq_true ad
                       obtain ⟨ad127, e127, hx127_0⟩ := Kd.at_int b12_ x8_2 p127 q127
                       cases e127
                       replace p127 := eq_true p127; replace q127 := eq_true q127; obtain ⟨Ao39, co39, eo39⟩ := Kd.R_slice HO_7.out; subst eo39
                       have p128 : 0 ≤ ((ji33) : Int) := of_decide_eq_true ad
                       have q128 : (ji33) < (x7_2.length : Int) := of_decide_eq_true ad
                       obtain ⟨ad128, e128, hx128_0⟩ := Kd.at_int (Kd.R_reads' HO_7.out).2.2 (ji33) p128 q128
                       cases e128
                       replace p128 := eq_true p128; replace q128 := eq_true q128
                       go_upto_region 13 with (first | (go_at_call 119; (with_reducible refine (spec_l1Least.calls (wrap64 ((rd (rd_L2 x5_1 (ji28)) x8_2) + 1)) (wrap64 ((rd x7_2 (ji33)) + 1)) t129 _ A36.out).mono ?_); rintro e w' ⟨rfl, ⟨nd, rfl⟩⟩; (try first | exact ⟨rfl, _, World.drewN_drewN _ _ _⟩ | exact ⟨rfl, _, Eq.trans (World.drewN_drewN _ _ _) (congrArg (World.drewN _) (Nat.add_assoc _ _ _))⟩)) | (go_at_call 119; (with_reducible refine (spec_l1Least.calls x9_24 t129 t130 _ A37.out).mono ?_); rintro e w' ⟨rfl, ⟨nd, rfl⟩⟩; (try first | exact ⟨rfl, _, World.drewN_drewN _ _ _⟩ | exact ⟨rfl, _, Eq.trans (World.drewN_drewN _ _ _) (congrArg (World.drewN _) (Nat.add_assoc _ _ _))⟩)))
                       repeat (go_quiet (first | (go_at_call 119; (with_reducible refine (spec_l1Least.calls (wrap64 ((rd (rd_L2 x5_1 (ji28)) x8_2) + 1)) (wrap64 ((rd x7_2 (ji33)) + 1)) t129 _ A36.out).mono ?_); rintro e w' ⟨rfl, ⟨nd, rfl⟩⟩; (try first | exact ⟨rfl, _, World.drewN_drewN _ _ _⟩ | exact ⟨rfl, _, Eq.trans (World.drewN_drewN _ _ _) (congrArg (World.drewN _) (Nat.add_assoc _ _ _))⟩)) | (go_at_call 119; (with_reducible refine (spec_l1Least.calls x9_24 t129 t130 _ A37.out).mono ?_); rintro e w' ⟨rfl, ⟨nd, rfl⟩⟩; (try first | exact ⟨rfl, _, World.drewN_drewN _ _ _⟩ | exact ⟨rfl, _, Eq.trans (World.drewN_drewN _ _ _) (congrArg (World.drewN _) (Nat.add_assoc _ _ _))⟩))); go_upto_region 13 with (first | (go_at_call 119; (with_reducible refine (spec_l1Least.calls (wrap64 ((rd (rd_L2 x5_1 (ji28)) x8_2) + 1)) (wrap64 ((rd x7_2 (ji33)) + 1)) t129 _ A36.out).mono ?_); rintro e w' ⟨rfl, ⟨nd, rfl⟩⟩; (try first | exact ⟨rfl, _, World.drewN_drewN _ _ _⟩ | exact ⟨rfl, _, Eq.trans (World.drewN_drewN _ _ _) (congrArg (World.drewN _) (Nat.add_assoc _ _ _))⟩)) | (go_at_call 119; (with_reducible refine (spec_l1Least.calls x9_24 t129 t130 _ A37.out).mono ?_); rintro e w' ⟨rfl, ⟨nd, rfl⟩⟩; (try first | exact ⟨rfl, _, World.drewN_drewN _ _ _⟩ | exact ⟨rfl, _, Eq.trans (World.drewN_drewN _ _ _) (congrArg (World.drewN _) (Nat.add_assoc _ _ _))⟩))))
                       (try simp only [Act.put, List.setIfInBounds_toArray, List.set_cons_zero, List.set_cons_succ])
                       go_cut [89] (fun v89 wc => ∃ (kq : Nat) (x89_37 : Bool), v89 = .bool x89_37 ∧ Aside0 (spec_l1Far.j3 kq a0 a1 x5_1 x6_1 x7_2 x8_2 t130 x89_37 = some r) ∧ Aside0 (kq ≤ kj24) ∧ Aside0 (Kd.S (Kd.slice 3 (Kd.int .i64)) 86 wc w.heap.size (fun k_ => some k_ ≠ ((.slice (some ad128) x7_2.length co39) : Value).ownBlock) (.slice (some ad124) x5_1.length co26) x5_1) ∧ Aside0 (Kd.R (Kd.int .i64) 3 wc w.heap.size (fun _ => True) (.slice (some ad128) x7_2.length co39) x7_2) ∧ Aside0 (Kd.C (Kd.int .i64) wc (some ad125) (rd_L2 x5_1 (ji15)).length (rd_L2 x5_1 (ji15))) ∧ Aside0 (Kd.C (Kd.int .i64) wc (some ad127) (rd_L2 x5_1 (ji28)).length (rd_L2 x5_1 (ji28))) ∧ Aside0 (Below w.heap.size w wc))
                       case first =>
                        have H := HC38.out; clear HC38
                        by_cases c40 : x6_1 > 1
                        ·rw [if_pos c40] at H; have c40b0 := decide_eq_true c40; clear c40
                         (first | rw [c40b0] | (simp only [i64_w, i32_w]; rw [c40b0]) | skip)
                         by_cases c41 : x8_2 > 1
                         ·rw [if_pos c41] at H; have c41b0 := decide_eq_true c41; clear c41
                          by_cases c42 : (ji28) < (a0.size : Int)
                          ·rw [if_pos c42] at H; have c42b0 := decide_eq_true c42; clear c42; obtain ⟨ji44, hji44⟩ : ∃ j_ : Int, (wrap64 (x8_2 - 2)) = j_ := ⟨_, rfl⟩
                           replace H : (if 0 ≤ (ji44) then (if (ji44) < (a1.size : Int) then (if (bt a0 (ji28)) = (bt a1 (ji44)) then (if 0 ≤ (wrap64 (x6_1 - 2)) then (if (wrap64 (x6_1 - 2)) < (a0.size : Int) then (if (ji33) < (a1.size : Int) then (spec_l1Far.j3 kj24 a0 a1 x5_1 x6_1 x7_2 x8_2 t130 ((bt a0 (wrap64 (x6_1 - 2))) == (bt a1 (ji33)))) else (none)) else (none)) else (none)) else (spec_l1Far.j3 kj24 a0 a1 x5_1 x6_1 x7_2 x8_2 t130 false)) else (none)) else (none)) = some r := by first | (rw [hji44] at H; exact H) | (simp only [hji44] at H ⊢; exact H)
                           have hji44w : (IntKind.i64.wrap (x8_2 - 2)) = ji44 := (i64_w _).trans hji44
                           by_cases c45 : 0 ≤ (ji44)
                           ·rw [if_pos c45] at H; have c45b0 := decide_eq_true c45; clear c45
                            by_cases c46 : (ji44) < (a1.size : Int)
                            ·rw [if_pos c46] at H; have c46b0 := decide_eq_true c46; clear c46
                             by_cases c48 : (bt a0 (ji28)) = (bt a1 (ji44))
                             ·rw [if_pos c48] at H
                              have c48b0 : ((bt a0 (ji28)) == (bt a1 (ji44))) = true := beq_iff_eq.mpr c48
                              have c48b1 : ((bt a0 (ji28)) != (bt a1 (ji44))) = false := bne_eq_false_iff_eq.mpr c48
                              clear c48; obtain ⟨ji49, hji49⟩ : ∃ j_ : Int, (wrap64 (x6_1 - 2)) = j_ := ⟨_, rfl⟩
                              replace H : (if 0 ≤ (ji49) then (if (ji49) < (a0.size : Int) then (if (ji33) < (a1.size : Int) then (spec_l1Far.j3 kj24 a0 a1 x5_1 x6_1 x7_2 x8_2 t130 ((bt a0 (ji49)) == (bt a1 (ji33)))) else (none)) else (none)) else (none)) = some r := by first | (rw [hji49] at H; exact H) | (simp only [hji49] at H ⊢; exact H)
                              have hji49w : (IntKind.i64.wrap (x6_1 - 2)) = ji49 := (i64_w _).trans hji49
                              by_cases c50 : 0 ≤ (ji49)
                              ·rw [if_pos c50] at H; have c50b0 := decide_eq_true c50; clear c50
                               by_cases c51 : (ji49) < (a0.size : Int)
                               ·rw [if_pos c51] at H; have c51b0 := decide_eq_true c51; clear c51
                                by_cases c53 : (ji33) < (a1.size : Int)
                                ·rw [if_pos c53] at H; have c53b0 := decide_eq_true c53; clear c53
                                 have H' := am H
                                 clear H
                                 have p43 : 0 ≤ ((ji28) : Int) := of_decide_eq_true ad
                                 have q43 : (ji28) < (a0.size : Int) := of_decide_eq_true ad
                                 have hx43 := bt_at a0 (ji28); replace p43 := eq_true p43; replace q43 := eq_true q43
                                 have p47 : 0 ≤ ((ji44) : Int) := of_decide_eq_true ad
                                 have q47 : (ji44) < (a1.size : Int) := of_decide_eq_true ad
                                 have hx47 := bt_at a1 (ji44); replace p47 := eq_true p47; replace q47 := eq_true q47
                                 have p52 : 0 ≤ ((ji49) : Int) := of_decide_eq_true ad
                                 have q52 : (ji49) < (a0.size : Int) := of_decide_eq_true ad
                                 have hx52 := bt_at a0 (ji49); replace p52 := eq_true p52; replace q52 := eq_true q52
                                 have p54 : 0 ≤ ((ji33) : Int) := of_decide_eq_true ad
                                 have q54 : (ji33) < (a1.size : Int) := of_decide_eq_true ad
                                 have hx54 := bt_at a1 (ji33); replace p54 := eq_true p54; replace q54 := eq_true q54; go_wp2
                                 repeat (go_quiet (fail); try go_wp2)
                                 go_meet
                                 case rel => exact ⟨_, (((bt a0 (ji49)) == (bt a1 (ji33)))), (by first | rfl | (simp; done) | (simp only [← hji33, ← hji49] <;> (first | rfl | simp)) | (simp [*]; done)), H', ⟨b25_⟩, ⟨b10_⟩, ⟨rq HO_7.out⟩, ⟨b8_⟩, ⟨b12_⟩, ⟨bel⟩⟩
                                ·rw [if_neg c53] at H
                                 exact absurd H (by simp)
                               ·rw [if_neg c51] at H
                                exact absurd H (by simp)
                              ·rw [if_neg c50] at H
                               exact absurd H (by simp)
                             ·rw [if_neg c48] at H
                              have c48b0 : ((bt a0 (ji28)) == (bt a1 (ji44))) = false := beq_eq_false_iff_ne.mpr c48
                              have c48b1 : ((bt a0 (ji28)) != (bt a1 (ji44))) = true := bne_iff_ne.mpr c48
                              have H' := am H
                              clear H
                              have p43 : 0 ≤ ((ji28) : Int) := of_decide_eq_true ad
                              have q43 : (ji28) < (a0.size : Int) := of_decide_eq_true ad
                              have hx43 := bt_at a0 (ji28); replace p43 := eq_true p43; replace q43 := eq_true q43
                              have p47 : 0 ≤ ((ji44) : Int) := of_decide_eq_true ad
                              have q47 : (ji44) < (a1.size : Int) := of_decide_eq_true ad
                              have hx47 := bt_at a1 (ji44); replace p47 := eq_true p47; replace q47 := eq_true q47; go_wp2
                              repeat (go_quiet (fail); try go_wp2)
                              go_meet
                              case rel => exact ⟨_, (false), sq, H', ⟨b25_⟩, ⟨b10_⟩, ⟨rq HO_7.out⟩, ⟨b8_⟩, ⟨b12_⟩, ⟨bel⟩⟩
                            ·rw [if_neg c46] at H
                             exact absurd H (by simp)
                           ·rw [if_neg c45] at H
                            exact absurd H (by simp)
                          ·rw [if_neg c42] at H
                           exact absurd H (by simp)
                         ·rw [if_neg c41] at H; have c41b0 := decide_eq_false c41; clear c41
                          have H' := am H
                          clear H; go_wp2
                          repeat (go_quiet (fail); try go_wp2)
                          go_meet
                          case rel => exact ⟨_, (false), sq, H', ⟨b25_⟩, ⟨b10_⟩, ⟨rq HO_7.out⟩, ⟨b8_⟩, ⟨b12_⟩, ⟨bel⟩⟩
                        ·rw [if_neg c40] at H; have c40b0 := decide_eq_false c40; clear c40
                         (first | rw [c40b0] | (simp only [i64_w, i32_w]; rw [c40b0]) | skip)
                         have H' := am H
                         clear H; go_wp2
                         repeat (go_quiet (fail); try go_wp2)
                         go_meet
                         case rel => exact ⟨_, (false), sq, H', ⟨b25_⟩, ⟨b10_⟩, ⟨rq HO_7.out⟩, ⟨b8_⟩, ⟨b12_⟩, ⟨bel⟩⟩
                       case rest =>
                        clear HC38; (try clear c1); (try clear p1); (try clear q1); (try clear hx1); (try clear c2); (try clear p2); (try clear q2); (try clear hx2); (try clear c3); (try clear c4); (try clear p4); (try clear q4); (try clear hx4); (try clear c5); (try clear c5b0); (try clear p5); (try clear q5); (try clear hx5); (try clear p6); (try clear c8); (try clear c8b0); (try clear c9); (try clear c9b0); (try clear c9b1); (try clear c10); (try clear c12); (try clear c12b0); (try clear c12b1); (try clear p12); (try clear q12); (try clear hx12); (try clear c13); (try clear c16); (try clear c16b0); (try clear c17); (try clear c17b0); (try clear c19); (try clear c19b0); (try clear c20); (try clear c20b0); (try clear c21); (try clear c21b0); (try clear p22); (try clear q22); (try clear hx22); (try clear c23); (try clear c23b0); (try clear p24); (try clear q24); (try clear hx24); (try clear c27); (try clear c27b0); (try clear c27b1); (try clear c29); (try clear c29b0); (try clear c30); (try clear c30b0); (try clear c31); (try clear c31b0); (try clear c32); (try clear c32b0); (try clear c34); (try clear c34b0); (try clear c35); (try clear c35b0); (try clear c40); (try clear c40b0); (try clear c41); (try clear c41b0); (try clear c42); (try clear c42b0); (try clear p43); (try clear q43); (try clear hx43); (try clear c45); (try clear c45b0); (try clear c46); (try clear c46b0); (try clear p47); (try clear q47); (try clear hx47); (try clear c48); (try clear c48b0); (try clear c48b1); (try clear c50); (try clear c50b0); (try clear c51); (try clear c51b0); (try clear p52); (try clear q52); (try clear hx52); (try clear c53); (try clear c53b0); (try clear p54); (try clear q54); (try clear hx54); (try clear hx124_0); (try clear hx125_0); (try clear hx126_0); (try clear hx127_0); (try clear hx128_0); (try clear p1); (try clear p12); (try clear p124); (try clear p125); (try clear p126); (try clear p127); (try clear p128); (try clear p2); (try clear p22); (try clear p24); (try clear p43); (try clear p47); (try clear p52); (try clear p54); (try clear p6); (try clear q1); (try clear q12); (try clear q124); (try clear q125); (try clear q126); (try clear q127); (try clear q128); (try clear q2); (try clear q22); (try clear q24); (try clear q43); (try clear q47); (try clear q52); (try clear q54); obtain ⟨kq, x89_37, rfl, HA, HJ37, HO_5, HO_7, HR124_0, HR126_0, HB⟩ := hcut
                        cases kq with
                        | zero => exact absurd HA.out (by simp [spec_l1Far.j3])
                        | succ kj37 =>
                         have H := HA.out; clear HA
                         simp only [spec_l1Far.j3] at H
                         by_cases c55 : x89_37 = true
                         ·subst c55
                          have H1 : (if 0 ≤ (wrap64 (x6_1 - 2)) then (if (wrap64 (x6_1 - 2)) < (x5_1.length : Int) then (if 0 ≤ (wrap64 (x8_2 - 2)) then (if (wrap64 (x8_2 - 2)) < ((rd_L2 x5_1 (wrap64 (x6_1 - 2))).length : Int) then ((spec_l1Least.f t130 (wrap64 ((rd (rd_L2 x5_1 (wrap64 (x6_1 - 2))) (wrap64 (x8_2 - 2))) + 1))).bind fun t133 => (if x7_2.length < 17592186044416 then (spec_l1Far.l1 kj37 a0 a1 x5_1 x6_1 (x7_2 ++ [t133]) (wrap64 (x8_2 + 1))) else (none))) else (none)) else (none)) else (none)) else (none)) = some r := b16_
                          replace H := H1; clear H1
                          obtain ⟨ji56, hji56⟩ : ∃ j_ : Int, (wrap64 (x6_1 - 2)) = j_ := ⟨_, rfl⟩
                          replace H : (if 0 ≤ (ji56) then (if (ji56) < (x5_1.length : Int) then (if 0 ≤ (wrap64 (x8_2 - 2)) then (if (wrap64 (x8_2 - 2)) < ((rd_L2 x5_1 (ji56)).length : Int) then ((spec_l1Least.f t130 (wrap64 ((rd (rd_L2 x5_1 (ji56)) (wrap64 (x8_2 - 2))) + 1))).bind fun t133 => (if x7_2.length < 17592186044416 then (spec_l1Far.l1 kj37 a0 a1 x5_1 x6_1 (x7_2 ++ [t133]) (wrap64 (x8_2 + 1))) else (none))) else (none)) else (none)) else (none)) else (none)) = some r := by first | (rw [hji56] at H; exact H) | (simp only [hji56] at H ⊢; exact H)
                          have hji56w : (IntKind.i64.wrap (x6_1 - 2)) = ji56 := (i64_w _).trans hji56
                          (try clear hji49w)
                          by_cases c57 : 0 ≤ (ji56)
                          ·rw [if_pos c57] at H; have c57b0 := decide_eq_true c57; clear c57
                           by_cases c58 : (ji56) < (x5_1.length : Int)
                           ·rw [if_pos c58] at H; have c58b0 := decide_eq_true c58; clear c58; obtain ⟨ji59, hji59⟩ : ∃ j_ : Int, (wrap64 (x8_2 - 2)) = j_ := ⟨_, rfl⟩
                            replace H : (if 0 ≤ (ji59) then (if (ji59) < ((rd_L2 x5_1 (ji56)).length : Int) then ((spec_l1Least.f t130 (wrap64 ((rd (rd_L2 x5_1 (ji56)) (ji59)) + 1))).bind fun t133 => (if x7_2.length < 17592186044416 then (spec_l1Far.l1 kj37 a0 a1 x5_1 x6_1 (x7_2 ++ [t133]) (wrap64 (x8_2 + 1))) else (none))) else (none)) else (none)) = some r := by first | (rw [hji59] at H; exact H) | (simp only [hji59] at H ⊢; exact H)
                            have hji59w : (IntKind.i64.wrap (x8_2 - 2)) = ji59 := (i64_w _).trans hji59
                            (try clear hji44w)
                            by_cases c60 : 0 ≤ (ji59)
                            ·rw [if_pos c60] at H; have c60b0 := decide_eq_true c60; clear c60
                             by_cases c61 : (ji59) < ((rd_L2 x5_1 (ji56)).length : Int)
                             ·rw [if_pos c61] at H; have c61b0 := decide_eq_true c61; clear c61; replace H := Option.bind_eq_some_iff.mp H; obtain ⟨t133, A620, H⟩ := H; replace H : (if x7_2.length < 17592186044416 then (spec_l1Far.l1 kj37 a0 a1 x5_1 x6_1 (x7_2 ++ [t133]) (wrap64 (x8_2 + 1))) else (none)) = some r := H; have A62 := Aside0.mk A620; clear A620
                              by_cases c63 : x7_2.length < 17592186044416
                              ·rw [if_pos c63] at H; have LMc63 := Aside0.mk c63; clear c63; obtain ⟨y134, hy134⟩ : ∃ y_ : List Int, y_ = (x7_2 ++ [t133]) := ⟨_, rfl⟩
                               replace H : (spec_l1Far.l1 kj37 a0 a1 x5_1 x6_1 y134 (wrap64 (x8_2 + 1))) = some r := by first | (rw [hy134]; with_reducible exact H) | (have H2_ := (Option.bind_some _ _).symm.trans H; rw [hy134]; with_reducible exact H2_) | (have H2_ := (Option.bind_some _ _).symm.trans H; with_reducible exact H2_) | with_reducible exact H | (rw [hy134]; exact H) | exact H
                               have Ny134 := am hy134; clear hy134
                               have H' := am H
                               clear H
                               have p131 : 0 ≤ ((ji56) : Int) := of_decide_eq_true ad
                               have q131 : (ji56) < (x5_1.length : Int) := of_decide_eq_true ad
                               obtain ⟨ad131, A131_0, c131_0, e131, hx131_0, hl131_0, hi131_0⟩ := at_L2 (Kd.S_reads' HO_5.out).2.2 (ji56) p131 q131
                               obtain rfl : ad124 = ad131 := (by injection e131)
                               obtain ⟨ce131, hce131, hMe131, hcc131⟩ := Kd.S_get HO_5.out [] (ji56) p131 (by first | exact q131 | exact of_decide_eq_true ad | (have e_ := (Kd.S_reads' HO_5.out).1; omega))
                               obtain ⟨ve131_0, rfl, ge131_0⟩ := hMe131; have hv131_0 := hcc131 0 _ rfl; rw [Nat.add_zero, show ((Kd.slice 3 (Kd.int .i64))).sz = 1 from rfl, Nat.mul_one] at hv131_0; replace hv131_0 := Option.some.inj (hv131_0.symm.trans hx131_0); rw [hv131_0] at ge131_0; have HL131_0 := am (show Kd.R (Kd.int .i64) 3 _ _ _ _ (rd_L2 x5_1 (ji56)) from ge131_0); clear hv131_0 ge131_0; clear hcc131 hce131; have HR131_0 := am hi131_0; have HC131_0 := am hl131_0; clear hi131_0 hl131_0; replace p131 := eq_true p131; replace q131 := eq_true q131
                               have p132 : 0 ≤ ((ji59) : Int) := of_decide_eq_true ad
                               have q132 : (ji59) < ((rd_L2 x5_1 (ji56)).length : Int) := of_decide_eq_true ad
                               obtain ⟨ad132, e132, hx132_0⟩ := Kd.at_int (by repeat (first | (with_reducible exact HR131_0.out) | (with_reducible refine Kd.C_alloc ?_ _) | (with_reducible refine Kd.C_drewN ?_ _) | (with_reducible refine Kd.C_drew ?_) | exact HR131_0.out)) (ji59) p132 q132
                               cases e132
                               replace p132 := eq_true p132; replace q132 := eq_true q132
                               go_wp2_with (first | (go_at_call 119; (with_reducible refine (spec_l1Least.calls t130 (wrap64 ((rd (rd_L2 x5_1 (ji56)) (ji59)) + 1)) t133 _ A62.out).mono ?_); rintro e w' ⟨rfl, ⟨nd, rfl⟩⟩; (try first | exact ⟨rfl, _, World.drewN_drewN _ _ _⟩ | exact ⟨rfl, _, Eq.trans (World.drewN_drewN _ _ _) (congrArg (World.drewN _) (Nat.add_assoc _ _ _))⟩)) | ((with_reducible refine gate_builtin (b := .append) (xs := #[.tmp 102, .tmp 104]) rfl ?_); at_builtin; refine Kd.R_append (Kd.int .i64) (w0 := w) w.heap.size rfl (.tmp 102) (.tmp 104) 86 3 (.int .i64 0) 8 rfl Try.underlying86 info3 rfl (by decide) (by omega) (.slice (some ad128) x7_2.length co39) x7_2 t133 [.int .i64 t133] (fun _ => True) (fun _ => False) rfl rfl ?aP (fun _ hk => hk.elim) ?aF ?aO ?aB ?aS ?aL ?_; (case aP => exact rfl); (case aB => exact bel); (case aF => exact (fun _ _ => trivial)); (case aO => exact (rq HO_7.out)); (case aS => exact (below_size bel)); (case aL => have := LMc63.out; omega); intro v135 w64 ho hb hg hat; rw [← Ny134.out] at ho; replace HO_5 := am (Kd.S_after (ok := (fun _ => True)) b3_ hg hat); replace HL131_0 := am (Kd.R_after (ok := (fun k_ => some k_ ≠ (.slice (some ad124) x5_1.length co26 : Value).ownBlock)) (rq (Kd.R_mono HL131_0.out (fun _ hk => ⟨hk.2, hk.1⟩))) hg hat); replace HB := am (hb); have HO136 := am (ho); clear HO_7; clear ho hb hg hat))
                               repeat (go_quiet (first | (go_at_call 119; (with_reducible refine (spec_l1Least.calls t130 (wrap64 ((rd (rd_L2 x5_1 (ji56)) (ji59)) + 1)) t133 _ A62.out).mono ?_); rintro e w' ⟨rfl, ⟨nd, rfl⟩⟩; (try first | exact ⟨rfl, _, World.drewN_drewN _ _ _⟩ | exact ⟨rfl, _, Eq.trans (World.drewN_drewN _ _ _) (congrArg (World.drewN _) (Nat.add_assoc _ _ _))⟩)) | ((with_reducible refine gate_builtin (b := .append) (xs := #[.tmp 102, .tmp 104]) rfl ?_); at_builtin; refine Kd.R_append (Kd.int .i64) (w0 := w) w.heap.size rfl (.tmp 102) (.tmp 104) 86 3 (.int .i64 0) 8 rfl Try.underlying86 info3 rfl (by decide) (by omega) (.slice (some ad128) x7_2.length co39) x7_2 t133 [.int .i64 t133] (fun _ => True) (fun _ => False) rfl rfl ?aP (fun _ hk => hk.elim) ?aF ?aO ?aB ?aS ?aL ?_; (case aP => exact rfl); (case aB => exact bel); (case aF => exact (fun _ _ => trivial)); (case aO => exact (rq HO_7.out)); (case aS => exact (below_size bel)); (case aL => have := LMc63.out; omega); intro v135 w64 ho hb hg hat; rw [← Ny134.out] at ho; replace HO_5 := am (Kd.S_after (ok := (fun _ => True)) b3_ hg hat); replace HL131_0 := am (Kd.R_after (ok := (fun k_ => some k_ ≠ (.slice (some ad124) x5_1.length co26 : Value).ownBlock)) (rq (Kd.R_mono HL131_0.out (fun _ hk => ⟨hk.2, hk.1⟩))) hg hat); replace HB := am (hb); have HO136 := am (ho); clear HO_7; clear ho hb hg hat)); try go_wp2_with (first | (go_at_call 119; (with_reducible refine (spec_l1Least.calls t130 (wrap64 ((rd (rd_L2 x5_1 (ji56)) (ji59)) + 1)) t133 _ A62.out).mono ?_); rintro e w' ⟨rfl, ⟨nd, rfl⟩⟩; (try first | exact ⟨rfl, _, World.drewN_drewN _ _ _⟩ | exact ⟨rfl, _, Eq.trans (World.drewN_drewN _ _ _) (congrArg (World.drewN _) (Nat.add_assoc _ _ _))⟩)) | ((with_reducible refine gate_builtin (b := .append) (xs := #[.tmp 102, .tmp 104]) rfl ?_); at_builtin; refine Kd.R_append (Kd.int .i64) (w0 := w) w.heap.size rfl (.tmp 102) (.tmp 104) 86 3 (.int .i64 0) 8 rfl Try.underlying86 info3 rfl (by decide) (by omega) (.slice (some ad128) x7_2.length co39) x7_2 t133 [.int .i64 t133] (fun _ => True) (fun _ => False) rfl rfl ?aP (fun _ hk => hk.elim) ?aF ?aO ?aB ?aS ?aL ?_; (case aP => exact rfl); (case aB => exact bel); (case aF => exact (fun _ _ => trivial)); (case aO => exact (rq HO_7.out)); (case aS => exact (below_size bel)); (case aL => have := LMc63.out; omega); intro v135 w64 ho hb hg hat; rw [← Ny134.out] at ho; replace HO_5 := am (Kd.S_after (ok := (fun _ => True)) b3_ hg hat); replace HL131_0 := am (Kd.R_after (ok := (fun k_ => some k_ ≠ (.slice (some ad124) x5_1.length co26 : Value).ownBlock)) (rq (Kd.R_mono HL131_0.out (fun _ hk => ⟨hk.2, hk.1⟩))) hg hat); replace HB := am (hb); have HO136 := am (ho); clear HO_7; clear ho hb hg hat)))
                               go_roundg kj37
                               case measure => have := HK1.out; have := HK2.out; have := HJ24.out; have := HJ37.out; omega
                               case rel => exact ⟨(y134), (wrap64 (x8_2 + 1)), sq, H', ⟨by have := HK1.out; have := HK2.out; have := HJ24.out; have := HJ37.out; omega⟩, ⟨b17_⟩, ⟨rq HO136.out⟩, ⟨bel⟩⟩
                              ·rw [if_neg c63] at H
                               exact absurd H (by simp)
                             ·rw [if_neg c61] at H
                              exact absurd H (by simp)
                            ·rw [if_neg c60] at H
                             exact absurd H (by simp)
                           ·rw [if_neg c58] at H
                            exact absurd H (by simp)
                          ·rw [if_neg c57] at H
                           exact absurd H (by simp)
                         ·replace c55 := Bool.eq_false_iff.mpr c55; subst c55
                          have H1 : (if x7_2.length < 17592186044416 then (spec_l1Far.l1 kj37 a0 a1 x5_1 x6_1 (x7_2 ++ [t130]) (wrap64 (x8_2 + 1))) else (none)) = some r := b5_
                          replace H := H1; clear H1
                          by_cases c65 : x7_2.length < 17592186044416
                          ·rw [if_pos c65] at H; have LMc65 := Aside0.mk c65; clear c65; obtain ⟨y137, hy137⟩ : ∃ y_ : List Int, y_ = (x7_2 ++ [t130]) := ⟨_, rfl⟩
                           replace H : (spec_l1Far.l1 kj37 a0 a1 x5_1 x6_1 y137 (wrap64 (x8_2 + 1))) = some r := by first | (rw [hy137]; with_reducible exact H) | (have H2_ := (Option.bind_some _ _).symm.trans H; rw [hy137]; with_reducible exact H2_) | (have H2_ := (Option.bind_some _ _).symm.trans H; with_reducible exact H2_) | with_reducible exact H | (rw [hy137]; exact H) | exact H
                           have Ny137 := am hy137; clear hy137
                           have H' := am H
                           clear H
                           go_wp2_with (first | ((with_reducible refine gate_builtin (b := .append) (xs := #[.tmp 102, .tmp 104]) rfl ?_); at_builtin; refine Kd.R_append (Kd.int .i64) (w0 := w) w.heap.size rfl (.tmp 102) (.tmp 104) 86 3 (.int .i64 0) 8 rfl Try.underlying86 info3 rfl (by decide) (by omega) (.slice (some ad128) x7_2.length co39) x7_2 t130 [.int .i64 t130] (fun _ => True) (fun _ => False) rfl rfl ?aP (fun _ hk => hk.elim) ?aF ?aO ?aB ?aS ?aL ?_; (case aP => exact rfl); (case aB => exact bel); (case aF => exact (fun _ _ => trivial)); (case aO => exact (rq HO_7.out)); (case aS => exact (below_size bel)); (case aL => have := LMc65.out; omega); intro v138 w66 ho hb hg hat; rw [← Ny137.out] at ho; replace HO_5 := am (Kd.S_after (ok := (fun _ => True)) b3_ hg hat); replace HB := am (hb); have HO139 := am (ho); clear HO_7; clear ho hb hg hat))
                           repeat (go_quiet (first | ((with_reducible refine gate_builtin (b := .append) (xs := #[.tmp 102, .tmp 104]) rfl ?_); at_builtin; refine Kd.R_append (Kd.int .i64) (w0 := w) w.heap.size rfl (.tmp 102) (.tmp 104) 86 3 (.int .i64 0) 8 rfl Try.underlying86 info3 rfl (by decide) (by omega) (.slice (some ad128) x7_2.length co39) x7_2 t130 [.int .i64 t130] (fun _ => True) (fun _ => False) rfl rfl ?aP (fun _ hk => hk.elim) ?aF ?aO ?aB ?aS ?aL ?_; (case aP => exact rfl); (case aB => exact bel); (case aF => exact (fun _ _ => trivial)); (case aO => exact (rq HO_7.out)); (case aS => exact (below_size bel)); (case aL => have := LMc65.out; omega); intro v138 w66 ho hb hg hat; rw [← Ny137.out] at ho; replace HO_5 := am (Kd.S_after (ok := (fun _ => True)) b3_ hg hat); replace HB := am (hb); have HO139 := am (ho); clear HO_7; clear ho hb hg hat)); try go_wp2_with (first | ((with_reducible refine gate_builtin (b := .append) (xs := #[.tmp 102, .tmp 104]) rfl ?_); at_builtin; refine Kd.R_append (Kd.int .i64) (w0 := w) w.heap.size rfl (.tmp 102) (.tmp 104) 86 3 (.int .i64 0) 8 rfl Try.underlying86 info3 rfl (by decide) (by omega) (.slice (some ad128) x7_2.length co39) x7_2 t130 [.int .i64 t130] (fun _ => True) (fun _ => False) rfl rfl ?aP (fun _ hk => hk.elim) ?aF ?aO ?aB ?aS ?aL ?_; (case aP => exact rfl); (case aB => exact bel); (case aF => exact (fun _ _ => trivial)); (case aO => exact (rq HO_7.out)); (case aS => exact (below_size bel)); (case aL => have := LMc65.out; omega); intro v138 w66 ho hb hg hat; rw [← Ny137.out] at ho; replace HO_5 := am (Kd.S_after (ok := (fun _ => True)) b3_ hg hat); replace HB := am (hb); have HO139 := am (ho); clear HO_7; clear ho hb hg hat)))
                           go_roundg kj37
                           case measure => have := HK1.out; have := HK2.out; have := HJ24.out; have := HJ37.out; omega
                           case rel => exact ⟨(y137), (wrap64 (x8_2 + 1)), sq, H', ⟨by have := HK1.out; have := HK2.out; have := HJ24.out; have := HJ37.out; omega⟩, ⟨b17_⟩, ⟨rq HO139.out⟩, ⟨bel⟩⟩
                          ·rw [if_neg c65] at H
                           exact absurd H (by simp)
                      ·rw [if_neg c35] at H
                       exact absurd H (by simp)
                     ·rw [if_neg c34] at H
                      exact absurd H (by simp)
                    ·rw [if_neg c32] at H
                     exact absurd H (by simp)
                   ·rw [if_neg c31] at H
                    exact absurd H (by simp)
                  ·rw [if_neg c30] at H
                   exact absurd H (by simp)
                 ·rw [if_neg c29] at H
                  exact absurd H (by simp)
              ·rw [if_neg c23] at H
               exact absurd H (by simp)
             ·rw [if_neg c21] at H
              exact absurd H (by simp)
            ·rw [if_neg c20] at H
             exact absurd H (by simp)
           ·rw [if_neg c19] at H
            exact absurd H (by simp)
          ·rw [if_neg c17] at H
           exact absurd H (by simp)
         ·rw [if_neg c16] at H
          exact absurd H (by simp)
      ·rw [if_neg c8] at H; have c8b0 := decide_eq_false c8; clear c8
       by_cases c67 : x5_1.length < 5864062014805
       ·rw [if_pos c67] at H; have LMc67 := Aside0.mk c67; clear c67; obtain ⟨y115, hy115⟩ : ∃ y_ : List (List Int), y_ = (x5_1 ++ [x7_2]) := ⟨_, rfl⟩
        replace H : (spec_l1Far.l0 k2 a0 a1 y115 (wrap64 (x6_1 + 1))) = some r := by first | (rw [hy115]; with_reducible exact H) | (have H2_ := (Option.bind_some _ _).symm.trans H; rw [hy115]; with_reducible exact H2_) | (have H2_ := (Option.bind_some _ _).symm.trans H; with_reducible exact H2_) | with_reducible exact H | (rw [hy115]; exact H) | exact H
        have Ny115 := am hy115; clear hy115
        have H' := am H
        clear H; obtain ⟨Ao69, co69, eo69⟩ := Kd.R_slice HO_7.out; subst eo69
        go_wp2_with (first | ((with_reducible refine gate_builtin (b := .append) (xs := #[.tmp 120, .tmp 122]) rfl ?_); at_builtin; refine Kd.S_append (Kd.slice 3 (Kd.int .i64)) (w0 := w) w.heap.size rfl (.tmp 120) (.tmp 122) 85 86 (.slice none 0 0) 24 rfl Try.underlying85 info86 rfl (by decide) (by omega) u5 x5_1 x7_2 [.slice Ao69 x7_2.length co69] (fun _ => True) (fun k_ => some k_ = (.slice Ao69 x7_2.length co69 : Value).ownBlock) rfl rfl ?aP (fun k_ hk_ => ((Kd.R_mono (ok' := fun k_ => ((fun _ => True)) k_ ∧ some k_ ≠ (u5 : Value).ownBlock) (Kd.R_apart' (HO_7.out) (Kd.S_typed HO_5.out) (by decide)) (fun k_ hk => ⟨trivial, hk.2⟩))).1 k_ hk_.symm) ?aF ?aO ?aB ?aS ?aL ?_; (case aP => exact Kd.M_row (Kd.R_mono (Kd.R_tight rfl (Kd.R_mono (ok' := fun k_ => ((fun _ => True)) k_ ∧ some k_ ≠ (u5 : Value).ownBlock) (Kd.R_apart' (HO_7.out) (Kd.S_typed HO_5.out) (by decide)) (fun k_ hk => ⟨trivial, hk.2⟩))) (fun _ h_ => h_))); (case aB => exact bel); (case aF => exact (fun _ _ => trivial)); (case aO => exact b6_); (case aS => exact (below_size bel)); (case aL => have := LMc67.out; omega); intro v116 w68 ho hb hg hat; rw [← Ny115.out] at ho; replace HB := am (hb); have HO117 := am (ho); clear HO_5 HO_7; clear ho hb hg hat))
        repeat (go_quiet (first | ((with_reducible refine gate_builtin (b := .append) (xs := #[.tmp 120, .tmp 122]) rfl ?_); at_builtin; refine Kd.S_append (Kd.slice 3 (Kd.int .i64)) (w0 := w) w.heap.size rfl (.tmp 120) (.tmp 122) 85 86 (.slice none 0 0) 24 rfl Try.underlying85 info86 rfl (by decide) (by omega) u5 x5_1 x7_2 [.slice Ao69 x7_2.length co69] (fun _ => True) (fun k_ => some k_ = (.slice Ao69 x7_2.length co69 : Value).ownBlock) rfl rfl ?aP (fun k_ hk_ => ((Kd.R_mono (ok' := fun k_ => ((fun _ => True)) k_ ∧ some k_ ≠ (u5 : Value).ownBlock) (Kd.R_apart' (HO_7.out) (Kd.S_typed HO_5.out) (by decide)) (fun k_ hk => ⟨trivial, hk.2⟩))).1 k_ hk_.symm) ?aF ?aO ?aB ?aS ?aL ?_; (case aP => exact Kd.M_row (Kd.R_mono (Kd.R_tight rfl (Kd.R_mono (ok' := fun k_ => ((fun _ => True)) k_ ∧ some k_ ≠ (u5 : Value).ownBlock) (Kd.R_apart' (HO_7.out) (Kd.S_typed HO_5.out) (by decide)) (fun k_ hk => ⟨trivial, hk.2⟩))) (fun _ h_ => h_))); (case aB => exact bel); (case aF => exact (fun _ _ => trivial)); (case aO => exact b6_); (case aS => exact (below_size bel)); (case aL => have := LMc67.out; omega); intro v116 w68 ho hb hg hat; rw [← Ny115.out] at ho; replace HB := am (hb); have HO117 := am (ho); clear HO_5 HO_7; clear ho hb hg hat)); try go_wp2_with (first | ((with_reducible refine gate_builtin (b := .append) (xs := #[.tmp 120, .tmp 122]) rfl ?_); at_builtin; refine Kd.S_append (Kd.slice 3 (Kd.int .i64)) (w0 := w) w.heap.size rfl (.tmp 120) (.tmp 122) 85 86 (.slice none 0 0) 24 rfl Try.underlying85 info86 rfl (by decide) (by omega) u5 x5_1 x7_2 [.slice Ao69 x7_2.length co69] (fun _ => True) (fun k_ => some k_ = (.slice Ao69 x7_2.length co69 : Value).ownBlock) rfl rfl ?aP (fun k_ hk_ => ((Kd.R_mono (ok' := fun k_ => ((fun _ => True)) k_ ∧ some k_ ≠ (u5 : Value).ownBlock) (Kd.R_apart' (HO_7.out) (Kd.S_typed HO_5.out) (by decide)) (fun k_ hk => ⟨trivial, hk.2⟩))).1 k_ hk_.symm) ?aF ?aO ?aB ?aS ?aL ?_; (case aP => exact Kd.M_row (Kd.R_mono (Kd.R_tight rfl (Kd.R_mono (ok' := fun k_ => ((fun _ => True)) k_ ∧ some k_ ≠ (u5 : Value).ownBlock) (Kd.R_apart' (HO_7.out) (Kd.S_typed HO_5.out) (by decide)) (fun k_ hk => ⟨trivial, hk.2⟩))) (fun _ h_ => h_))); (case aB => exact bel); (case aF => exact (fun _ _ => trivial)); (case aO => exact b6_); (case aS => exact (below_size bel)); (case aL => have := LMc67.out; omega); intro v116 w68 ho hb hg hat; rw [← Ny115.out] at ho; replace HB := am (hb); have HO117 := am (ho); clear HO_5 HO_7; clear ho hb hg hat)))
        go_roundg k2
        case measure => have := HK1.out; have := HK2.out; omega
        case rel => exact ⟨(y115), (wrap64 (x6_1 + 1)), sq, H', ⟨by have := HK1.out; have := HK2.out; omega⟩, ⟨by (with_reducible repeat (first | apply Kd.S_alloc | apply Kd.S_drewN | apply Kd.S_drew)); exact HO117.out⟩, ⟨bel⟩⟩
       ·rw [if_neg c67] at H
        exact absurd H (by simp)
   ·rw [if_neg c5] at H; have c5b0 := decide_eq_false c5; clear c5
    by_cases c70 : 0 ≤ (a0.size : Int)
    ·rw [if_pos c70] at H; have c70b0 := decide_eq_true c70
     have c70b1 : decide (0 ≤ a0.size) = true := decide_eq_true (by omega)
     clear c70
     by_cases c71 : (a0.size : Int) < (x5_1.length : Int)
     ·rw [if_pos c71] at H; have c71b0 := decide_eq_true c71
      have c71b1 : decide (a0.size < x5_1.length) = true := decide_eq_true (Int.ofNat_lt.mp c71)
      clear c71
      by_cases c72 : 0 ≤ (a1.size : Int)
      ·rw [if_pos c72] at H; have c72b0 := decide_eq_true c72
       have c72b1 : decide (0 ≤ a1.size) = true := decide_eq_true (by omega)
       clear c72
       by_cases c73 : (a1.size : Int) < ((rd_L2 x5_1 (a0.size : Int)).length : Int)
       ·rw [if_pos c73] at H; have c73b0 := decide_eq_true c73
        have c73b1 : decide (a1.size < (rd_L2 x5_1 (a0.size : Int)).length) = true := decide_eq_true (Int.ofNat_lt.mp c73)
        clear c73; obtain rfl := Option.some.inj H; obtain ⟨Ao74, co74, eo74⟩ := Kd.S_slice HO_5.out; subst eo74
        have p110 : 0 ≤ ((a0.size : Int) : Int) := of_decide_eq_true ad
        have q110 : (a0.size : Int) < (x5_1.length : Int) := of_decide_eq_true ad
        obtain ⟨ad110, A110_0, c110_0, e110, hx110_0, hl110_0, hi110_0⟩ := at_L2 (Kd.S_reads' HO_5.out).2.2 (a0.size : Int) p110 q110
        cases e110
        obtain ⟨ce110, hce110, hMe110, hcc110⟩ := Kd.S_get HO_5.out [] (a0.size : Int) p110 (by first | exact q110 | exact of_decide_eq_true ad | (have e_ := (Kd.S_reads' HO_5.out).1; omega))
        obtain ⟨ve110_0, rfl, ge110_0⟩ := hMe110; have hv110_0 := hcc110 0 _ rfl; rw [Nat.add_zero, show ((Kd.slice 3 (Kd.int .i64))).sz = 1 from rfl, Nat.mul_one] at hv110_0; replace hv110_0 := Option.some.inj (hv110_0.symm.trans hx110_0); rw [hv110_0] at ge110_0; have HL110_0 := am (show Kd.R (Kd.int .i64) 3 _ _ _ _ (rd_L2 x5_1 (a0.size : Int)) from ge110_0); clear hv110_0 ge110_0; clear hcc110 hce110; have HR110_0 := am hi110_0; have HC110_0 := am hl110_0; clear hi110_0 hl110_0; replace p110 := eq_true p110; replace q110 := eq_true q110
        (try have qn110 : (a0.size < x5_1.length) = True := eq_true (by have h_ := of_eq_true q110; omega))
        (try simp only [Int.toNat_natCast] at hx110_0)
        have p111 : 0 ≤ ((a1.size : Int) : Int) := of_decide_eq_true ad
        have q111 : (a1.size : Int) < ((rd_L2 x5_1 (a0.size : Int)).length : Int) := of_decide_eq_true ad
        obtain ⟨ad111, e111, hx111_0⟩ := Kd.at_int (by repeat (first | (with_reducible exact HR110_0.out) | (with_reducible refine Kd.C_alloc ?_ _) | (with_reducible refine Kd.C_drewN ?_ _) | (with_reducible refine Kd.C_drew ?_) | exact HR110_0.out)) (a1.size : Int) p111 q111
        cases e111
        replace p111 := eq_true p111; replace q111 := eq_true q111
        (try have qn111 : (a1.size < (rd_L2 x5_1 (a0.size : Int)).length) = True := eq_true (by have h_ := of_eq_true q111; omega))
        (try simp only [Int.toNat_natCast] at hx111_0)
        go_wp2
        repeat (go_quiet (fail); try go_wp2)
        go_ret
        exact ⟨eq_, bel⟩
       ·rw [if_neg c73] at H
        exact absurd H (by simp)
      ·rw [if_neg c72] at H
       exact absurd H (by simp)
     ·rw [if_neg c71] at H
      exact absurd H (by simp)
    ·rw [if_neg c70] at H
     exact absurd H (by simp)

end Go.Proofs.Ytfpmfaelodfecaa.QFnExactGuesses

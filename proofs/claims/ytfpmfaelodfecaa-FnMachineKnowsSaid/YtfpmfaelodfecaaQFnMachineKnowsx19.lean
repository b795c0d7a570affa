import Derived.Test.YtfpmfaelodfecaaQFnMachineKnowsx0
import Derived.Test.YtfpmfaelodfecaaQFnMachineKnowsx18
import Derived.Test.YtfpmfaelodfecaaVMSh2
namespace Go.Proofs.Ytfpmfaelodfecaa.QFnMachineKnows
open Go.RowKit Go.Proofs.YtfpmfaelodfecaaW.PrintWords Go.Proofs.YtfpmfaelodfecaaW.PrintLast Go.Proofs.YtfpmfaelodfecaaW.PrintMore Go.Proofs.Ytfpmfaelodfecaa.Sh
attribute [local go_sem] max2_int min2_int max_two min_two max_three min_three max_four min_four   -- for this text's walks alone
set_option linter.unusedVariables false
set_option linter.unusedSimpArgs false
-- shrunk

/-! ### spec_l3Sort: function 193 -/
mutual
def spec_l3Sort.l0 : Nat → List (List ByteArray) → List (List ByteArray) → Int → Option ((List (List ByteArray)))
 | 0, _, _, _ => none
 | k + 1, x0, x3, x4 => if x4 < (x0.length : Int) then (spec_l3Sort.l1 k x0 x3 x4 (x3.length : Int)) else (some x3)
def spec_l3Sort.l1 : Nat → List (List ByteArray) → List (List ByteArray) → Int → Int → Option ((List (List ByteArray)))
 | 0, _, _, _, _ => none
 | k + 1, x0, x3, x4, x5 => if x5 > 0 then (if 0 ≤ x4 then (if x4 < (x0.length : Int) then (if 0 ≤ (wrap64 (x5 - 1)) then (if (wrap64 (x5 - 1)) < (x3.length : Int) then ((spec_l3Less.f k (rd_L9 x0 x4) (rd_L9 x3 (wrap64 (x5 - 1)))).bind fun t443 => (spec_l3Sort.j2 k x0 x3 x4 x5 t443)) else (none)) else (none)) else (none)) else (none)) else (spec_l3Sort.j2 k x0 x3 x4 x5 false)
def spec_l3Sort.j2 : Nat → List (List ByteArray) → List (List ByteArray) → Int → Int → Bool → Option ((List (List ByteArray)))
 | 0, _, _, _, _, _ => none
 | k + 1, x0, x3, x4, x5, x28 => if x28 = true then (spec_l3Sort.l1 k x0 x3 x4 (wrap64 (x5 - 1))) else ((some (([] : List (List ByteArray)) : List (List ByteArray))).bind fun y444 => (if 0 ≤ x5 then (if x5 ≤ (x3.length : Int) then ((some (x3.take (x5 : Int).toNat : List (List ByteArray))).bind fun y447 => (if y444.length + y447.length < 5864062014805 then ((some (y444 ++ y447 : List (List ByteArray))).bind fun y452 => (if 0 ≤ x4 then (if x4 < (x0.length : Int) then ((some (([rd_L9 x0 x4] : List (List ByteArray)) : List (List ByteArray))).bind fun y456 => (if y452.length + y456.length < 5864062014805 then ((some (y452 ++ y456 : List (List ByteArray))).bind fun y459 => ((some (x3.drop (x5 : Int).toNat : List (List ByteArray))).bind fun y462 => (if y459.length + y462.length < 5864062014805 then (spec_l3Sort.l0 k x0 (y459 ++ y462) (wrap64 (x4 + 1))) else (none)))) else (none))) else (none)) else (none))) else (none))) else (none)) else (none)))
end
def spec_l3Sort.f (k : Nat) (l0 : List (List ByteArray)) : Option ((List (List ByteArray))) := spec_l3Sort.l0 k l0 (([] : List (List ByteArray))) 0
def spec_l3Sort.T6 : Bool × List (List Nat × List Nat) := (true, [([], []), ([0], [0]), ([1], [1]), ([2], [2]), ([2], [2]), ([3, 4, 2], [2, 3, 4]), ([5, 2], [2, 5]), ([2], [2]), ([2], [2]), ([8, 2], [2, 8]), ([7, 9, 2], [2, 7, 9]), ([10, 2], [2, 10]), ([6, 11, 2, 2], [2, 6, 11]), ([2, 12], [2, 12])])
def spec_l3Sort.B6 : List Nat := [0, 1, 3, 7, 7, 31, 63, 7, 7, 263, 903, 1927, 4095, 8191]
theorem spec_l3Sort.tab6 : rtab .any (opsOf Try.f193 6) = spec_l3Sort.T6 := by kernel_rfl
theorem spec_l3Sort.bits6 : waitsOk spec_l3Sort.T6.2 spec_l3Sort.B6 = true := by kernel_rfl
def spec_l3Sort.T8 : Bool × List (List Nat × List Nat) := (true, [([], []), ([], []), ([], []), ([1, 2], [1, 2]), ([0, 3], [0, 3]), ([], []), ([], []), ([5, 6], [5, 6]), ([7], [7]), ([8], [8]), ([4, 9, 4], [4, 9]), ([], []), ([], []), ([11, 12], [11, 12]), ([10, 13, 10], [10, 13]), ([14, 14, 0, 1, 2, 3, 4, 5, 6, 7, 8, 9, 10, 11, 12, 13, 14], [1, 11, 14])])
def spec_l3Sort.B8 : List Nat := [0, 0, 0, 6, 15, 0, 0, 96, 224, 480, 1023, 0, 0, 6144, 16383, 32767]
theorem spec_l3Sort.tab8 : rtab .any (opsOf Try.f193 8) = spec_l3Sort.T8 := by kernel_rfl
theorem spec_l3Sort.bits8 : waitsOk spec_l3Sort.T8.2 spec_l3Sort.B8 = true := by kernel_rfl
set_option maxHeartbeats 8000000 in
set_option maxRecDepth 100000 in
theorem spec_l3Sort.calls (k : Nat) (P0_ : Nat → Prop) (A0 : Option Addr) (c0 : Nat) (l0 : List (List ByteArray)) (r : List (List ByteArray)) (w : World) (hs0 : Kd.V (Kd.slice 9 Kd.string) 22 w w.heap.size (fun k_ => P0_ k_) (.slice A0 l0.length c0) l0) (h : spec_l3Sort.f k l0 = some r) :
  Calls Try.prog 193 #[.slice A0 l0.length c0] w fun e w' => ∃ v0_ : Value, e = .returned (v0_) ∧ Kd.N (Kd.slice 9 Kd.string) 22 w' w.heap.size (fun k_ => (P0_ k_ ∨ w.heap.size ≤ k_)) v0_ r ∧ Below w.heap.size w w' := by
 have HO0 := am (show Kd.V (Kd.slice 9 Kd.string) 22 w w.heap.size (fun k_ => (P0_ k_ ∨ w.heap.size ≤ k_)) (.slice A0 l0.length c0) l0 from Kd.V_mono hs0 (fun k_ hk => .inl hk)); have HB := am (Below.refl w.heap.size w)
 have H : (spec_l3Sort.l0 k l0 (([] : List (List ByteArray))) 0) = some r := h
 clear h; obtain ⟨y438, hy438⟩ : ∃ y_ : List (List ByteArray), y_ = (([] : List (List ByteArray))) := ⟨_, rfl⟩
 replace H : (spec_l3Sort.l0 k l0 y438 0) = some r := by first | (rw [hy438]; with_reducible exact H) | (have H2_ := (Option.bind_some _ _).symm.trans H; rw [hy438]; with_reducible exact H2_) | (have H2_ := (Option.bind_some _ _).symm.trans H; with_reducible exact H2_) | with_reducible exact H | (rw [hy438]; exact H) | exact H
 have Ny438 := am hy438; clear hy438
 have H' := am H
 clear H; go_enter Try.func193, Try.ntmps193
 go_wp2_with (first | ((with_reducible refine gate_dst (N := 6) rfl ?_); refine Kd.N_lit (Kd.slice 9 Kd.string) _ 22 ?hg (N' := 6) ?hd (xs := ([] : List (List ByteArray))) (inner := []) (ok := (fun k_ => (P0_ k_ ∨ w.heap.size ≤ k_))) (okp := (fun k_ => (P0_ k_ ∨ w.heap.size ≤ k_))) ?hr ?hp (fun _ hk => hk) ((show ∀ k_, w.heap.size ≤ k_ → (fun k_ => (P0_ k_ ∨ w.heap.size ≤ k_)) k_ from fun k_ hk => (.inr (Nat.le_trans (below_size bel) hk))) _ (Nat.le_refl _)) (Below.refl _ _) (Nat.le_refl _) (by simp) ?_; (case hd => rfl); (case hg => rfl); (case hr => first | (go_simp; done) | (go_simp; rfl)); (case hp => exact (Reps.none _ _)); intro v439 w2 ho3 hb hg_ hnew_; clear hg_ hnew_; (first | rw [← Ny438.out] at ho3 | (simp only [Int.reduceToNat] at ho3; rw [← Ny438.out] at ho3) | (simp only [Int.toNat_natCast] at ho3; rw [← Ny438.out] at ho3)); replace HO0 := am (Kd.V_elder' (vq HO0.out) (Kd.N_base ho3) hb); have HO440 := am (Kd.N_lower ho3 (below_size bel)); replace HB := am (below_step bel hb); clear hb ho3))
 go_loopg [3, 4] k (fun kq v3 v4 w' => ∃ (x3_1 : List (List ByteArray)) (x4_1 : Int), v4 = .int .i64 x4_1 ∧ Aside0 (spec_l3Sort.l0 kq l0 x3_1 x4_1 = some r) ∧ Aside0 (kq ≤ k) ∧ Aside0 (Kd.V (Kd.slice 9 Kd.string) 22 w' w.heap.size (fun k_ => (P0_ k_ ∨ w.heap.size ≤ k_) ∧ some k_ ≠ (v3 : Value).ownBlock) (.slice A0 l0.length c0) l0) ∧ Aside0 (Kd.N (Kd.slice 9 Kd.string) 22 w' w.heap.size (fun k_ => (P0_ k_ ∨ w.heap.size ≤ k_)) v3 x3_1) ∧ Aside0 (Below w.heap.size w w'))
 case atStart => exact ⟨(y438), (0), sq, H', ⟨Nat.le_refl _⟩, ⟨vq HO0.out⟩, ⟨by (with_reducible repeat (first | apply Kd.N_alloc | apply Kd.N_drewN | apply Kd.N_drew)); exact HO440.out⟩, ⟨bel⟩⟩
 case round =>
  clear H'; (try clear c1); (try clear p2); obtain ⟨x3_1, x4_1, rfl, HA, HK1, HO_0, HO_3, HB⟩ := hrel
  cases gk with
  | zero => exact absurd HA.out (by simp [spec_l3Sort.l0])
  | succ k1 =>
   have H := HA.out; clear HA
   simp only [spec_l3Sort.l0] at H
   by_cases c4 : x4_1 < (l0.length : Int)
   ·rw [if_pos c4] at H; have c4b0 := decide_eq_true c4; clear c4
    have H' := am H
    clear H; obtain ⟨Ao5, co5, eo5⟩ := Kd.N_slice HO_3.out; subst eo5; go_wp2
    go_loopg [5] k1 (fun kq v5 w' => ∃ (x5_2 : Int), v5 = .int .i64 x5_2 ∧ Aside0 (spec_l3Sort.l1 kq l0 x3_1 x4_1 x5_2 = some r) ∧ Aside0 (kq ≤ k1) ∧ Aside0 (Kd.V (Kd.slice 9 Kd.string) 22 w' w.heap.size (fun k_ => (P0_ k_ ∨ w.heap.size ≤ k_) ∧ some k_ ≠ ((.slice Ao5 x3_1.length co5) : Value).ownBlock) (.slice A0 l0.length c0) l0) ∧ Aside0 (Kd.N (Kd.slice 9 Kd.string) 22 w' w.heap.size (fun k_ => (P0_ k_ ∨ w.heap.size ≤ k_)) (.slice Ao5 x3_1.length co5) x3_1) ∧ Aside0 (Below w.heap.size w w'))
    case atStart => exact ⟨((x3_1.length : Int)), sq, H', ⟨Nat.le_refl _⟩, ⟨vq HO_0.out⟩, ⟨b7_⟩, ⟨bel⟩⟩
    case round =>
     clear H'; (try clear c1); (try clear p2); (try clear c4); (try clear c4b0); (try clear p2); obtain ⟨x5_2, rfl, HA, HK2, HO_0, HO_3, HB⟩ := hrel
     cases gk with
     | zero => exact absurd HA.out (by simp [spec_l3Sort.l1])
     | succ k2 =>
      have H := HA.out; clear HA
      simp only [spec_l3Sort.l1] at H
      have HC6 := am H; clear H
      go_upto_region 6 with (fail)
      go_cut [28] (fun v28 wc => ∃ (kq : Nat) (x28_5 : Bool), v28 = .bool x28_5 ∧ Aside0 (spec_l3Sort.j2 kq l0 x3_1 x4_1 x5_2 x28_5 = some r) ∧ Aside0 (kq ≤ k2) ∧ Aside0 (Kd.V (Kd.slice 9 Kd.string) 22 wc w.heap.size (fun k_ => (P0_ k_ ∨ w.heap.size ≤ k_) ∧ some k_ ≠ ((.slice Ao5 x3_1.length co5) : Value).ownBlock) (.slice A0 l0.length c0) l0) ∧ Aside0 (Kd.N (Kd.slice 9 Kd.string) 22 wc w.heap.size (fun k_ => (P0_ k_ ∨ w.heap.size ≤ k_)) (.slice Ao5 x3_1.length co5) x3_1) ∧ Aside0 (Below w.heap.size w wc))
      case first =>
       have H := HC6.out; clear HC6
       by_cases c7 : x5_2 > 0
       ·rw [if_pos c7] at H; have c7b0 := decide_eq_true c7; clear c7
        (first | rw [c7b0] | (simp only [i64_w, i32_w]; rw [c7b0]) | skip)
        by_cases c8 : 0 ≤ x4_1
        ·rw [if_pos c8] at H; have c8b0 := decide_eq_true c8; clear c8
         by_cases c9 : x4_1 < (l0.length : Int)
         ·rw [if_pos c9] at H; have c9b0 := decide_eq_true c9; clear c9; obtain ⟨ji10, hji10⟩ : ∃ j_ : Int, (wrap64 (x5_2 - 1)) = j_ := ⟨_, rfl⟩
          replace H : (if 0 ≤ (ji10) then (if (ji10) < (x3_1.length : Int) then ((spec_l3Less.f k2 (rd_L9 l0 x4_1) (rd_L9 x3_1 (ji10))).bind fun t443 => (spec_l3Sort.j2 k2 l0 x3_1 x4_1 x5_2 t443)) else (none)) else (none)) = some r := by first | (rw [hji10] at H; exact H) | (simp only [hji10] at H ⊢; exact H)
          have hji10w : (IntKind.i64.wrap (x5_2 - 1)) = ji10 := (i64_w _).trans hji10
          by_cases c11 : 0 ≤ (ji10)
          ·rw [if_pos c11] at H; have c11b0 := decide_eq_true c11; clear c11
           by_cases c12 : (ji10) < (x3_1.length : Int)
           ·rw [if_pos c12] at H; have c12b0 := decide_eq_true c12; clear c12; replace H := Option.bind_eq_some_iff.mp H; obtain ⟨t443, A130, H⟩ := H; replace H : (spec_l3Sort.j2 k2 l0 x3_1 x4_1 x5_2 t443) = some r := H; have A13 := Aside0.mk A130; clear A130
            have H' := am H
            clear H
            try go_wp2
            replace HO_0 := am (Kd.V_drew HO_0.out); replace HO_3 := am (Kd.N_drew HO_3.out); replace HB := am (below_drew1 HB.out)
            have p441 : 0 ≤ (x4_1 : Int) := of_decide_eq_true ad
            have q441 : x4_1 < (l0.length : Int) := of_decide_eq_true ad
            obtain ⟨ad441, A441_0, c441_0, e441, hx441_0, hl441_0, hi441_0⟩ := at_L9 (Kd.V_reads' HO_0.out).2.2 x4_1 p441 q441
            cases e441
            obtain ⟨ce441, hce441, hMe441, hcc441⟩ := Kd.V_get HO_0.out [] x4_1 p441 (by first | exact q441 | exact of_decide_eq_true ad | (have e_ := (Kd.V_reads' HO_0.out).1; omega))
            obtain ⟨ua441_0, uc441_0, rfl, ul441_0, ge441_0⟩ := Kd.FK_slice_open hMe441; have hv441_0 := hcc441 0 _ rfl; rw [Nat.add_zero, show ((Kd.slice 9 Kd.string)).sz = 1 from rfl, Nat.mul_one] at hv441_0; replace hv441_0 := Option.some.inj (hv441_0.symm.trans hx441_0)
            injection hv441_0 with hva_ hvn_ hvc_
            rw [hva_] at ge441_0; rw [hvc_] at ul441_0; have HL441_0 := am (show Kd.V Kd.string 9 _ w.heap.size _ _ (rd_L9 l0 x4_1) from Kd.V_mk ul441_0 ge441_0); clear hva_ hvn_ hvc_ ge441_0 ul441_0; clear hcc441 hce441; have HR441_0 := am hi441_0; have HC441_0 := am hl441_0; clear hi441_0 hl441_0; replace p441 := eq_true p441; replace q441 := eq_true q441
            have p442 : 0 ≤ ((ji10) : Int) := of_decide_eq_true ad
            have q442 : (ji10) < (x3_1.length : Int) := of_decide_eq_true ad
            obtain ⟨ad442, A442_0, c442_0, e442, hx442_0, hl442_0, hi442_0⟩ := at_L9 (Kd.N_reads' HO_3.out).2.2 (ji10) p442 q442
            cases e442
            obtain ⟨ce442, hce442, hMe442, hcc442⟩ := Kd.N_get HO_3.out [] (ji10) p442 (by first | exact q442 | exact of_decide_eq_true ad | (have e_ := (Kd.N_reads' HO_3.out).1; omega))
            obtain ⟨ua442_0, uc442_0, rfl, ul442_0, ge442_0⟩ := Kd.FK_slice_open hMe442; have hv442_0 := hcc442 0 _ rfl; rw [Nat.add_zero, show ((Kd.slice 9 Kd.string)).sz = 1 from rfl, Nat.mul_one] at hv442_0; replace hv442_0 := Option.some.inj (hv442_0.symm.trans hx442_0)
            injection hv442_0 with hva_ hvn_ hvc_
            rw [hva_] at ge442_0; rw [hvc_] at ul442_0; have HL442_0 := am (show Kd.V Kd.string 9 _ w.heap.size _ _ (rd_L9 x3_1 (ji10)) from Kd.V_mk ul442_0 ge442_0); clear hva_ hvn_ hvc_ ge442_0 ul442_0; clear hcc442 hce442; have HR442_0 := am hi442_0; have HC442_0 := am hl442_0; clear hi442_0 hl442_0; replace p442 := eq_true p442; replace q442 := eq_true q442
            refine st (n := 14) (S := fun w' => w'.cell? (ad441.add (x4_1).toNat) = some (.slice A441_0 (rd_L9 l0 x4_1).length c441_0) ∧ w'.cell? (ad442.add ((ji10)).toNat) = some (.slice A442_0 (rd_L9 x3_1 (ji10)).length c442_0)) (ds := []) ⟨hx441_0, hx442_0⟩ (fun hHeld => ?_); refine with_tabW spec_l3Sort.tab6 spec_l3Sort.bits6 (fun HT_ HW_ => ?_)
            generalize wr.drew = w14 at HO_0 HO_3 HB HL441_0 HL442_0 HR441_0 HR442_0 hx441_0 hx442_0 hHeld ⊢
            refine pu 0 15 ?_
            refine pu 1 16 ?_
            refine pu 2 17 ?_
            refine pu 3 18 ?_
            refine pu 4 19 ?_
            refine pu 5 20 ?_
            refine pu 7 22 ?_
            refine pu 8 23 ?_
            refine pu 9 24 ?_
            refine pu 10 25 ?_
            refine tk2 6 21 hHeld ?_
            refine tk2 11 26 hHeld ?_
            refine on1 12 27 (fun K hK => ?_)
            refine goes_ Try.func202 (by kernel_rfl) rfl #[.slice A441_0 (rd_L9 l0 x4_1).length c441_0, .slice A442_0 (rd_L9 x3_1 (ji10)).length c442_0] (by rfl) rfl rfl (by (try simp only [List.map_toArray, List.map_cons, List.map_nil]); first | done | (simp only [hji10]; rfl) | rfl | (simp only [List.length_drop, List.length_take]; rfl)) ?_
            with_reducible refine (spec_l3Less.calls k2 _ _ (rd_L9 l0 x4_1) _ _ (rd_L9 x3_1 (ji10)) t443 _ ?side1 ?side2 ?side3 ?side4 A13.out).mono ?_
            (case side1 => repeat (first | exact (by repeat (first | (with_reducible exact HR441_0.out) | (with_reducible refine Kd.C_alloc ?_ _) | (with_reducible refine Kd.C_drewN ?_ _) | (with_reducible refine Kd.C_drew ?_) | exact HR441_0.out)) | (with_reducible refine Kd.C_alloc ?_ _) | (with_reducible refine Kd.C_drewN ?_ _) | (with_reducible refine Kd.C_drew ?_))); (case side2 => exact HC441_0.out); (case side3 => repeat (first | exact (by repeat (first | (with_reducible exact HR442_0.out) | (with_reducible refine Kd.C_alloc ?_ _) | (with_reducible refine Kd.C_drewN ?_ _) | (with_reducible refine Kd.C_drew ?_) | exact HR442_0.out)) | (with_reducible refine Kd.C_alloc ?_ _) | (with_reducible refine Kd.C_drewN ?_ _) | (with_reducible refine Kd.C_drew ?_))); (case side4 => exact HC442_0.out)
            rintro e w' ⟨rfl, ⟨nd, rfl⟩⟩
            refine ⟨_, rfl, ?_⟩
            refine hK.out _ _ ⟨hHeld.1, hHeld.2⟩ (fun hHeld => ?_)
            clear hK K
            refine norm_ (a' := ?_) ?_ ?_
            rotate_left
            ·show Act.put _ (some 27) _ = _
             simp only [Act.put, List.setIfInBounds_toArray, List.set_cons_zero, List.set_cons_succ, i64_w, i32_w]
             rfl
            refine pu 13 28 ?_
            refine done_ (done_of HT_.out (by kernel_rfl)) ?_
            try go_wp2
            go_meet
            case rel => exact ⟨_, (t443), sq, H', ⟨b85_⟩, ⟨vq HO_0.out⟩, ⟨b7_⟩, ⟨bel⟩⟩
           ·rw [if_neg c12] at H
            exact absurd H (by simp)
          ·rw [if_neg c11] at H
           exact absurd H (by simp)
         ·rw [if_neg c9] at H
          exact absurd H (by simp)
        ·rw [if_neg c8] at H
         exact absurd H (by simp)
       ·rw [if_neg c7] at H; have c7b0 := decide_eq_false c7; clear c7
        (first | rw [c7b0] | (simp only [i64_w, i32_w]; rw [c7b0]) | skip)
        have H' := am H
        clear H
        try go_wp2
        replace HO_0 := am (Kd.V_drew HO_0.out); replace HO_3 := am (Kd.N_drew HO_3.out); replace HB := am (below_drew1 HB.out)
        refine st (n := 14) (S := fun w' => True) (ds := []) trivial (fun hHeld => ?_); refine with_tabW spec_l3Sort.tab6 spec_l3Sort.bits6 (fun HT_ HW_ => ?_)
        generalize wr.drew = w15 at HO_0 HO_3 HB hHeld ⊢
        refine pu 0 15 ?_
        refine pu 1 16 ?_
        refine pu 2 17 ?_
        refine puu 3 18 ?_
        refine puu 4 19 ?_
        refine puu 5 20 ?_
        refine puu 6 21 ?_
        refine puu 7 22 ?_
        refine puu 8 23 ?_
        refine puu 9 24 ?_
        refine puu 10 25 ?_
        refine puu 11 26 ?_
        refine puu 12 27 ?_
        refine pu 13 28 ?_
        refine done_ (done_of HT_.out (by kernel_rfl)) ?_
        try go_wp2
        go_meet
        case rel => exact ⟨_, (false), sq, H', ⟨b85_⟩, ⟨vq HO_0.out⟩, ⟨b7_⟩, ⟨bel⟩⟩
      case rest =>
       clear HC6; (try clear c1); (try clear c2); (try clear p2); (try clear c4); (try clear c4b0); (try clear p4); (try clear q4); (try clear hx4); (try clear p6); (try clear c7); (try clear c7b0); (try clear c8); (try clear c8b0); (try clear c9); (try clear c9b0); (try clear c11); (try clear c11b0); (try clear c12); (try clear c12b0); (try clear hx441_0); (try clear hx442_0); (try clear p2); (try clear p441); (try clear p442); (try clear q441); (try clear q442); obtain ⟨kq, x28_5, rfl, HA, HJ5, HO_0, HO_3, HB⟩ := hcut
       cases kq with
       | zero => exact absurd HA.out (by simp [spec_l3Sort.j2])
       | succ kj5 =>
        have H := HA.out; clear HA
        simp only [spec_l3Sort.j2] at H
        by_cases c16 : x28_5 = true
        ·subst c16
         have H1 : (spec_l3Sort.l1 kj5 l0 x3_1 x4_1 (wrap64 (x5_2 - 1))) = some r := b21_
         replace H := H1; clear H1
         have H' := am H
         clear H; go_wp2
         go_roundg kj5
         case measure => have := HK1.out; have := HK2.out; have := HJ5.out; omega
         case rel => exact ⟨(wrap64 (x5_2 - 1)), sq, H', ⟨by have := HK1.out; have := HK2.out; have := HJ5.out; omega⟩, ⟨vq HO_0.out⟩, ⟨b7_⟩, ⟨bel⟩⟩
        ·replace c16 := Bool.eq_false_iff.mpr c16; subst c16
         have H1 : ((some (([] : List (List ByteArray)) : List (List ByteArray))).bind fun y444 => (if 0 ≤ x5_2 then (if x5_2 ≤ (x3_1.length : Int) then ((some (x3_1.take (x5_2 : Int).toNat : List (List ByteArray))).bind fun y447 => (if y444.length + y447.length < 5864062014805 then ((some (y444 ++ y447 : List (List ByteArray))).bind fun y452 => (if 0 ≤ x4_1 then (if x4_1 < (l0.length : Int) then ((some (([rd_L9 l0 x4_1] : List (List ByteArray)) : List (List ByteArray))).bind fun y456 => (if y452.length + y456.length < 5864062014805 then ((some (y452 ++ y456 : List (List ByteArray))).bind fun y459 => ((some (x3_1.drop (x5_2 : Int).toNat : List (List ByteArray))).bind fun y462 => (if y459.length + y462.length < 5864062014805 then (spec_l3Sort.l0 kj5 l0 (y459 ++ y462) (wrap64 (x4_1 + 1))) else (none)))) else (none))) else (none)) else (none))) else (none))) else (none)) else (none))) = some r := b9_
         replace H := H1; clear H1
         obtain ⟨y444, hy444⟩ : ∃ y_ : List (List ByteArray), y_ = (([] : List (List ByteArray))) := ⟨_, rfl⟩
         replace H : (if 0 ≤ x5_2 then (if x5_2 ≤ (x3_1.length : Int) then ((some (x3_1.take (x5_2 : Int).toNat : List (List ByteArray))).bind fun y447 => (if y444.length + y447.length < 5864062014805 then ((some (y444 ++ y447 : List (List ByteArray))).bind fun y452 => (if 0 ≤ x4_1 then (if x4_1 < (l0.length : Int) then ((some (([rd_L9 l0 x4_1] : List (List ByteArray)) : List (List ByteArray))).bind fun y456 => (if y452.length + y456.length < 5864062014805 then ((some (y452 ++ y456 : List (List ByteArray))).bind fun y459 => ((some (x3_1.drop (x5_2 : Int).toNat : List (List ByteArray))).bind fun y462 => (if y459.length + y462.length < 5864062014805 then (spec_l3Sort.l0 kj5 l0 (y459 ++ y462) (wrap64 (x4_1 + 1))) else (none)))) else (none))) else (none)) else (none))) else (none))) else (none)) else (none)) = some r := by first | (rw [hy444]; with_reducible exact H) | (have H2_ := (Option.bind_some _ _).symm.trans H; rw [hy444]; with_reducible exact H2_) | (have H2_ := (Option.bind_some _ _).symm.trans H; with_reducible exact H2_) | with_reducible exact H | (rw [hy444]; exact H) | exact H
         have Ny444 := am hy444; clear hy444
         by_cases c17 : 0 ≤ x5_2
         ·rw [if_pos c17] at H; have c17b0 := eq_true c17
          have c17b1 : decide (0 ≤ x5_2) = true := decide_eq_true c17
          clear c17
          by_cases c18 : x5_2 ≤ (x3_1.length : Int)
          ·rw [if_pos c18] at H; have c18b0 := eq_true c18
           have c18b1 : decide (x5_2 ≤ (x3_1.length : Int)) = true := decide_eq_true c18
           clear c18; obtain ⟨y447, hy447⟩ : ∃ y_ : List (List ByteArray), y_ = (x3_1.take (x5_2 : Int).toNat) := ⟨_, rfl⟩
           replace H : (if y444.length + y447.length < 5864062014805 then ((some (y444 ++ y447 : List (List ByteArray))).bind fun y452 => (if 0 ≤ x4_1 then (if x4_1 < (l0.length : Int) then ((some (([rd_L9 l0 x4_1] : List (List ByteArray)) : List (List ByteArray))).bind fun y456 => (if y452.length + y456.length < 5864062014805 then ((some (y452 ++ y456 : List (List ByteArray))).bind fun y459 => ((some (x3_1.drop (x5_2 : Int).toNat : List (List ByteArray))).bind fun y462 => (if y459.length + y462.length < 5864062014805 then (spec_l3Sort.l0 kj5 l0 (y459 ++ y462) (wrap64 (x4_1 + 1))) else (none)))) else (none))) else (none)) else (none))) else (none)) = some r := by first | (rw [hy447]; with_reducible exact H) | (have H2_ := (Option.bind_some _ _).symm.trans H; rw [hy447]; with_reducible exact H2_) | (have H2_ := (Option.bind_some _ _).symm.trans H; with_reducible exact H2_) | with_reducible exact H | (rw [hy447]; exact H) | exact H
           have Ny447 := am hy447; clear hy447
           by_cases c19 : y444.length + y447.length < 5864062014805
           ·rw [if_pos c19] at H; have LMc19 := Aside0.mk c19; clear c19; obtain ⟨y452, hy452⟩ : ∃ y_ : List (List ByteArray), y_ = (y444 ++ y447) := ⟨_, rfl⟩
            replace H : (if 0 ≤ x4_1 then (if x4_1 < (l0.length : Int) then ((some (([rd_L9 l0 x4_1] : List (List ByteArray)) : List (List ByteArray))).bind fun y456 => (if y452.length + y456.length < 5864062014805 then ((some (y452 ++ y456 : List (List ByteArray))).bind fun y459 => ((some (x3_1.drop (x5_2 : Int).toNat : List (List ByteArray))).bind fun y462 => (if y459.length + y462.length < 5864062014805 then (spec_l3Sort.l0 kj5 l0 (y459 ++ y462) (wrap64 (x4_1 + 1))) else (none)))) else (none))) else (none)) else (none)) = some r := by first | (rw [hy452]; with_reducible exact H) | (have H2_ := (Option.bind_some _ _).symm.trans H; rw [hy452]; with_reducible exact H2_) | (have H2_ := (Option.bind_some _ _).symm.trans H; with_reducible exact H2_) | with_reducible exact H | (rw [hy452]; exact H) | exact H
            have Ny452 := am hy452; clear hy452
            by_cases c20 : 0 ≤ x4_1
            ·rw [if_pos c20] at H; have c20b0 := decide_eq_true c20; clear c20
             by_cases c21 : x4_1 < (l0.length : Int)
             ·rw [if_pos c21] at H; have c21b0 := decide_eq_true c21; clear c21; obtain ⟨y456, hy456⟩ : ∃ y_ : List (List ByteArray), y_ = (([rd_L9 l0 x4_1] : List (List ByteArray))) := ⟨_, rfl⟩
              replace H : (if y452.length + y456.length < 5864062014805 then ((some (y452 ++ y456 : List (List ByteArray))).bind fun y459 => ((some (x3_1.drop (x5_2 : Int).toNat : List (List ByteArray))).bind fun y462 => (if y459.length + y462.length < 5864062014805 then (spec_l3Sort.l0 kj5 l0 (y459 ++ y462) (wrap64 (x4_1 + 1))) else (none)))) else (none)) = some r := by first | (rw [hy456]; with_reducible exact H) | (have H2_ := (Option.bind_some _ _).symm.trans H; rw [hy456]; with_reducible exact H2_) | (have H2_ := (Option.bind_some _ _).symm.trans H; with_reducible exact H2_) | with_reducible exact H | (rw [hy456]; exact H) | exact H
              have Ny456 := am hy456; clear hy456
              by_cases c22 : y452.length + y456.length < 5864062014805
              ·rw [if_pos c22] at H; have LMc22 := Aside0.mk c22; clear c22; obtain ⟨y459, hy459⟩ : ∃ y_ : List (List ByteArray), y_ = (y452 ++ y456) := ⟨_, rfl⟩
               replace H : ((some (x3_1.drop (x5_2 : Int).toNat : List (List ByteArray))).bind fun y462 => (if y459.length + y462.length < 5864062014805 then (spec_l3Sort.l0 kj5 l0 (y459 ++ y462) (wrap64 (x4_1 + 1))) else (none))) = some r := by first | (rw [hy459]; with_reducible exact H) | (have H2_ := (Option.bind_some _ _).symm.trans H; rw [hy459]; with_reducible exact H2_) | (have H2_ := (Option.bind_some _ _).symm.trans H; with_reducible exact H2_) | with_reducible exact H | (rw [hy459]; exact H) | exact H
               have Ny459 := am hy459; clear hy459; have c23b0 := eq_true (of_decide_eq_true ad : 0 ≤ x5_2); have c24b0 := eq_true (of_decide_eq_true ad : x5_2 ≤ (x3_1.length : Int)); obtain ⟨y462, hy462⟩ : ∃ y_ : List (List ByteArray), y_ = (x3_1.drop (x5_2 : Int).toNat) := ⟨_, rfl⟩
               replace H : (if y459.length + y462.length < 5864062014805 then (spec_l3Sort.l0 kj5 l0 (y459 ++ y462) (wrap64 (x4_1 + 1))) else (none)) = some r := by first | (rw [hy462]; with_reducible exact H) | (have H2_ := (Option.bind_some _ _).symm.trans H; rw [hy462]; with_reducible exact H2_) | (have H2_ := (Option.bind_some _ _).symm.trans H; with_reducible exact H2_) | with_reducible exact H | (rw [hy462]; exact H) | exact H
               have Ny462 := am hy462; clear hy462
               by_cases c25 : y459.length + y462.length < 5864062014805
               ·rw [if_pos c25] at H; have LMc25 := Aside0.mk c25; clear c25; obtain ⟨y467, hy467⟩ : ∃ y_ : List (List ByteArray), y_ = (y459 ++ y462) := ⟨_, rfl⟩
                replace H : (spec_l3Sort.l0 kj5 l0 y467 (wrap64 (x4_1 + 1))) = some r := by first | (rw [hy467]; with_reducible exact H) | (have H2_ := (Option.bind_some _ _).symm.trans H; rw [hy467]; with_reducible exact H2_) | (have H2_ := (Option.bind_some _ _).symm.trans H; with_reducible exact H2_) | with_reducible exact H | (rw [hy467]; exact H) | exact H
                have Ny467 := am hy467; clear hy467
                have H' := am H
                clear H
                try go_wp2
                replace HO_0 := am (Kd.V_drew HO_0.out); replace HO_3 := am (Kd.N_drew HO_3.out); replace HB := am (below_drew1 HB.out)
                have q27 : (x5_2 : Int) ≤ ((x3_1.length : Int) : Int) := of_decide_eq_true ad
                obtain ⟨i027, hi027, _, hsz27, _⟩ := info_parts info22
                have hroom27 : x3_1.length ≤ co5 := (Kd.N_reads' HO_3.out).2.1
                have hC27 : Kd.F (Kd.slice 9 Kd.string) _ _ Ao5 x3_1.length x3_1 := (Kd.V_at (base := w.heap.size) (Kd.N_V HO_3.out)).2.2
                have hcut27 := cut_to (P := Try.prog) 179 22 .i64 Try.underlying179 hi027 Ao5 x3_1.length co5 x5_2 (of_decide_eq_true ad) q27 hroom27
                have hr27 := Kd.F_take (m := (x5_2 : Int).toNat) hC27 (by omega)
                have hy27 : y447.length = (x5_2 : Int).toNat := (by rw [Ny447.out, List.length_take]; omega)
                rw [← Ny447.out] at hr27; rw [← hy27] at hcut27
                have HO451 := am (show Kd.V (Kd.slice 9 Kd.string) 22 _ w.heap.size _ (.slice Ao5 y447.length co5) y447 from Kd.V_mk (by omega) hr27)
                have HC451 := am (show y447.length ≤ co5 from by omega)
                clear hr27 hC27 hroom27 hi027 hsz27; have KY27 := am hy27; clear hy27; replace q27 := eq_true q27
                have p455 : 0 ≤ (x4_1 : Int) := of_decide_eq_true ad
                have q455 : x4_1 < (l0.length : Int) := of_decide_eq_true ad
                obtain ⟨ad455, A455_0, c455_0, e455, hx455_0, hl455_0, hi455_0⟩ := at_L9 (Kd.V_reads' HO_0.out).2.2 x4_1 p455 q455
                cases e455
                obtain ⟨ce455, hce455, hMe455, hcc455⟩ := Kd.V_get HO_0.out [] x4_1 p455 (by first | exact q455 | exact of_decide_eq_true ad | (have e_ := (Kd.V_reads' HO_0.out).1; omega))
                obtain ⟨ua455_0, uc455_0, rfl, ul455_0, ge455_0⟩ := Kd.FK_slice_open hMe455; have hv455_0 := hcc455 0 _ rfl; rw [Nat.add_zero, show ((Kd.slice 9 Kd.string)).sz = 1 from rfl, Nat.mul_one] at hv455_0; replace hv455_0 := Option.some.inj (hv455_0.symm.trans hx455_0)
                injection hv455_0 with hva_ hvn_ hvc_
                rw [hva_] at ge455_0; rw [hvc_] at ul455_0; have HL455_0 := am (show Kd.V Kd.string 9 _ w.heap.size _ _ (rd_L9 l0 x4_1) from Kd.V_mk ul455_0 ge455_0); clear hva_ hvn_ hvc_ ge455_0 ul455_0; clear hcc455 hce455; have HR455_0 := am hi455_0; have HC455_0 := am hl455_0; clear hi455_0 hl455_0; replace p455 := eq_true p455; replace q455 := eq_true q455
                have q28 : (x5_2 : Int) ≤ ((x3_1.length : Int) : Int) := of_decide_eq_true ad
                obtain ⟨i028, hi028, _, hsz28, _⟩ := info_parts info22
                have hroom28 : x3_1.length ≤ co5 := (Kd.N_reads' HO_3.out).2.1
                have hC28 : Kd.F (Kd.slice 9 Kd.string) _ _ Ao5 x3_1.length x3_1 := (Kd.V_at (base := w.heap.size) (Kd.N_V HO_3.out)).2.2
                have q028 : (0 : Int) ≤ (x5_2 : Int) := of_decide_eq_true ad
                have hcut28 := cut_from (P := Try.prog) 179 22 .i64 Try.underlying179 hi028 1 hsz28 Ao5 x3_1.length co5 x5_2 q028 q28
                have hr28 := Kd.F_cut (m := (x5_2 : Int).toNat) (c := co5) hC28 (by omega) hroom28
                obtain ⟨A28, hA28⟩ : ∃ A1, A1 = (if co5 = (x5_2 : Int).toNat then Ao5 else (Ao5 : Option Addr).map (·.add ((x5_2 : Int).toNat * 1))) := ⟨_, rfl⟩; obtain ⟨c28, hc28⟩ : ∃ c1, c1 = co5 - (x5_2 : Int).toNat := ⟨_, rfl⟩
                have hy28 : y462.length = x3_1.length - (x5_2 : Int).toNat := (by rw [Ny462.out, List.length_drop] <;> omega)
                rw [show (x3_1).drop (x5_2 : Int).toNat = y462 from Ny462.out.symm] at hr28
                replace hr28 : Kd.F (Kd.slice 9 Kd.string) _ _ A28 y462.length y462 := (by rw [hA28]; exact hr28)
                rw [← hy28, ← hA28, ← hc28] at hcut28
                have HO466 := am (show Kd.V (Kd.slice 9 Kd.string) 22 _ w.heap.size _ (.slice A28 y462.length c28) y462 from Kd.V_mk (by rw [hy28, hc28]; exact Nat.sub_le_sub_right hroom28 _) hr28)
                have HC466 := am (show y462.length ≤ c28 from by rw [hy28, hc28]; exact Nat.sub_le_sub_right hroom28 _)
                clear hr28 hC28 hroom28 hi028 hsz28 hc28; have KY28 := am hy28; have KA28 := am hA28; clear hy28 hA28; replace q28 := eq_true q28
                refine st (n := 16) (S := fun w' => w'.cell? (ad455.add (x4_1).toNat) = some (.slice A455_0 (rd_L9 l0 x4_1).length c455_0)) (ds := []) (hx455_0) (fun hHeld => ?_); refine with_tabW spec_l3Sort.tab8 spec_l3Sort.bits8 (fun HT_ HW_ => ?_)
                generalize wc.drew = w26 at HO_0 HO_3 HB HL455_0 HO451 HO466 HR455_0 hx455_0 hHeld ⊢
                refine pu 1 32 ?_
                refine pu 2 33 ?_
                refine pu 3 34 ?_
                refine pu 5 36 ?_
                refine pu 6 37 ?_
                refine pu 7 38 ?_
                refine pu 11 42 ?_
                refine pu 12 43 ?_
                refine pu 13 44 ?_
                refine tk1 8 39 hHeld ?_
                refine join_ (σ := Value × Value × Value) 3 #[true, true, true, true, true, true, true, true, true, true, false, true, true, true, false, false] (fun s_ => [(31, s_.1), (35, s_.2.1), (40, s_.2.2)]) (fun s_ w' => (w'.cell? (ad455.add (x4_1).toNat) = some (.slice A455_0 (rd_L9 l0 x4_1).length c455_0)) ∧ (Kd.V Kd.string 9 w' w.heap.size (fun k_ => (P0_ k_ ∨ w.heap.size ≤ k_) ∧ some k_ ≠ (s_.2.1 : Value).ownBlock ∧ some k_ ≠ (s_.2.2 : Value).ownBlock ∧ some k_ ≠ (.slice Ao5 x3_1.length co5 : Value).ownBlock) (.slice A455_0 (rd_L9 l0 x4_1).length c455_0) (rd_L9 l0 x4_1)) ∧ (Kd.V (Kd.slice 9 Kd.string) 22 w' w.heap.size (fun k_ => (P0_ k_ ∨ w.heap.size ≤ k_) ∧ some k_ ≠ (s_.2.1 : Value).ownBlock ∧ some k_ ≠ (s_.2.2 : Value).ownBlock) (.slice Ao5 y447.length co5) y447) ∧ (Kd.N (Kd.slice 9 Kd.string) 22 w' w.heap.size (fun k_ => (P0_ k_ ∨ w.heap.size ≤ k_) ∧ some k_ ≠ (s_.2.2 : Value).ownBlock) s_.2.1 y452) ∧ (Kd.N (Kd.slice 9 Kd.string) 22 w' w.heap.size (fun k_ => (P0_ k_ ∨ w.heap.size ≤ k_) ∧ some k_ ≠ (s_.2.1 : Value).ownBlock ∧ some k_ ≠ (.slice Ao5 x3_1.length co5 : Value).ownBlock) s_.2.2 y456) ∧ (Kd.V (Kd.slice 9 Kd.string) 22 w' w.heap.size (fun k_ => (P0_ k_ ∨ w.heap.size ≤ k_) ∧ some k_ ≠ (s_.2.1 : Value).ownBlock ∧ some k_ ≠ (s_.2.2 : Value).ownBlock) (.slice A28 y462.length c28) y462) ∧ (Kd.V (Kd.slice 9 Kd.string) 22 w' w.heap.size (fun k_ => (P0_ k_ ∨ w.heap.size ≤ k_) ∧ some k_ ≠ (s_.2.1 : Value).ownBlock ∧ some k_ ≠ (s_.2.2 : Value).ownBlock ∧ some k_ ≠ (.slice Ao5 x3_1.length co5 : Value).ownBlock) (.slice (some ad455) l0.length c0) l0) ∧ (Kd.N (Kd.slice 9 Kd.string) 22 w' w.heap.size (fun k_ => (P0_ k_ ∨ w.heap.size ≤ k_) ∧ some k_ ≠ (s_.2.1 : Value).ownBlock ∧ some k_ ≠ (s_.2.2 : Value).ownBlock) (.slice Ao5 x3_1.length co5) x3_1) ∧ (Below w.heap.size w w')) ?_ ?_
                rotate_left
                ·intro hCont
                 refine two_ (i := 0) (j := 9) (Ni := some 31) (Nj := some 40) #[true, true, true, true, false, true, true, true, true, false, false, true, true, true, false, false] #[false, true, true, true, false, true, true, true, true, true, false, true, true, true, false, false] rfl rfl rfl rfl (two_of HT_.out (by kernel_rfl)) (by decide) (by decide) (fun K hK => ?_) (fun K hK => ?_)
                 ·skip
                  refine Kd.N_lit_step (Kd.slice 9 Kd.string) _ 22 ?hg (N' := 31) ?hd (xs := ([] : List (List ByteArray))) (inner := []) (ok := (fun k_ => (P0_ k_ ∨ w.heap.size ≤ k_) ∧ some k_ ≠ (.slice Ao5 x3_1.length co5 : Value).ownBlock)) (okp := (fun k_ => (P0_ k_ ∨ w.heap.size ≤ k_) ∧ some k_ ≠ (.slice Ao5 x3_1.length co5 : Value).ownBlock)) ?hr ?hp (fun _ hk => hk) ((show ∀ k_, w26.heap.size ≤ k_ → (fun k_ => (P0_ k_ ∨ w.heap.size ≤ k_) ∧ some k_ ≠ (.slice Ao5 x3_1.length co5 : Value).ownBlock) k_ from fun k_ hk => ⟨(.inr (Nat.le_trans (below_size bel) hk)), Kd.fresh' (Kd.N_lt b7_) k_ hk⟩) _ (Nat.le_refl _)) (Below.refl _ _) (Nat.le_refl _) (by simp) ?_; (case hd => rfl); (case hg => rfl); (case hr => first | (go_simp; done) | (go_simp; rfl)); (case hp => exact (Reps.none _ _))
                  intro v445 w29 ho30 hb hg_ hnew_; have HS0_ := (hb.cell (World.block_lt_of_cell? _ _ (hHeld))).trans (hHeld); clear hg_ hnew_
                  (first | rw [← Ny444.out] at ho30 | (simp only [Int.reduceToNat] at ho30; rw [← Ny444.out] at ho30) | (simp only [Int.toNat_natCast] at ho30; rw [← Ny444.out] at ho30))
                  replace HO_0 := am (Kd.V_elder' (vq HO_0.out) (Kd.N_base ho30) hb)
                  replace HO_3 := am (Kd.N_elder' b7_ (Kd.N_base ho30) hb)
                  replace HO451 := am (Kd.V_elder' (vq HO451.out) (Kd.N_base ho30) hb); replace HL455_0 := am (Kd.V_elder' (vq HL455_0.out) (Kd.N_base ho30) hb); replace HO466 := am (Kd.V_elder' (vq HO466.out) (Kd.N_base ho30) hb); have HO446 := am (Kd.N_lower ho30 (below_size bel))
                  replace HR455_0 := am (Kd.C_below b32_ hb)
                  replace HB := am (below_step bel hb); clear hb ho30
                  refine hK.out _ _ (HS0_) (fun hHeld => ?_)
                  clear hK K
                  refine norm_ (a' := ?_) ?_ ?_
                  rotate_left
                  ·show Act.put _ (some 31) _ = _
                   simp only [Act.put, List.setIfInBounds_toArray, List.set_cons_zero, List.set_cons_succ, i64_w, i32_w]
                   rfl
                  refine two_ (i := 4) (j := 9) (Ni := some 35) (Nj := some 40) #[true, true, true, true, true, true, true, true, true, false, false, true, true, true, false, false] #[true, true, true, true, false, true, true, true, true, true, false, true, true, true, false, false] rfl rfl rfl rfl (two_of HT_.out (by kernel_rfl)) (by decide) (by decide) (fun K hK => ?_) (fun K hK => ?_)
                  ·skip
                   refine Kd.N_append_rows_step (Kd.slice 9 Kd.string) (w0 := w) w.heap.size (by rfl) (.tmp 31) (.tmp 34) 179 22 (.slice none 0 0) 24 rfl Try.underlying179 info22 rfl (by decide) (by omega) v445 y444 y447 _ _ _ (fun k_ => (P0_ k_ ∨ w.heap.size ≤ k_)) (fun k_ => ((fun k_ => (P0_ k_ ∨ w.heap.size ≤ k_))) k_ ∧ some k_ ≠ (v445 : Value).ownBlock) rfl rfl ?aO ?aR (fun _ hk => hk) ?aF ?aB ?aS ?aL ?_
                   (case aR => exact (by skip; exact Kd.V_F (Kd.V_mono (ok' := (fun k_ => ((fun k_ => (P0_ k_ ∨ w.heap.size ≤ k_))) k_ ∧ some k_ ≠ (v445 : Value).ownBlock)) (HO451.out) (fun k_ hk => ⟨hk.1, hk.2⟩)))); (case aB => exact bel); (case aF => exact (fun k_ hk => (.inr (Nat.le_trans (below_size bel) hk)))); (case aO => exact (by (with_reducible repeat (first | apply Kd.N_alloc | apply Kd.N_drewN | apply Kd.N_drew)); exact Kd.N_mono HO446.out (fun _ hk => hk.1))); (case aS => exact (below_size bel)); (case aL => have := LMc19.out; omega); intro v453 w31 ho hb hg hat
                   have HS0_ := cell_grown hg (by first | exact hHeld | exact (World.cell?_alloc_lt _ _ _ (World.block_lt_of_cell? _ _ (hHeld))).trans (hHeld)) b20_
                   rw [← Ny452.out] at ho; replace HO_0 := am (Kd.V_afterv (ok := (fun k_ => (P0_ k_ ∨ w.heap.size ≤ k_) ∧ some k_ ≠ (.slice Ao5 x3_1.length co5 : Value).ownBlock)) (vq HO_0.out) hg hat)
                   replace HO_3 := am (Kd.N_afterv (ok := (fun k_ => (P0_ k_ ∨ w.heap.size ≤ k_))) b7_ hg hat)
                   replace HO451 := am (Kd.V_afterv (ok := (fun k_ => (P0_ k_ ∨ w.heap.size ≤ k_))) (vq HO451.out) hg hat); replace HL455_0 := am (Kd.V_afterv (ok := (fun k_ => (P0_ k_ ∨ w.heap.size ≤ k_) ∧ some k_ ≠ (.slice Ao5 x3_1.length co5 : Value).ownBlock)) (vq HL455_0.out) hg hat); replace HO466 := am (Kd.V_afterv (ok := (fun k_ => (P0_ k_ ∨ w.heap.size ≤ k_))) (vq HO466.out) hg hat); replace HB := am (hb); have HO454 := am (ho); clear HO446; clear ho hb hg hat
                   refine hK.out _ _ (HS0_) (fun hHeld => ?_)
                   clear hK K
                   refine norm_ (a' := ?_) ?_ ?_
                   rotate_left
                   ·show Act.put _ (some 35) _ = _
                    simp only [Act.put, List.setIfInBounds_toArray, List.set_cons_zero, List.set_cons_succ, i64_w, i32_w]
                    rfl
                   refine on1 9 40 (fun K hK => ?_)
                   refine Kd.N_lit_step (Kd.slice 9 Kd.string) _ 22 ?hg (N' := 40) ?hd (xs := ([rd_L9 l0 x4_1] : List (List ByteArray))) (inner := [.slice A455_0 (rd_L9 l0 x4_1).length c455_0]) (ok := (fun k_ => (P0_ k_ ∨ w.heap.size ≤ k_) ∧ some k_ ≠ (.slice Ao5 x3_1.length co5 : Value).ownBlock ∧ some k_ ≠ (v453 : Value).ownBlock)) (okp := (fun k_ => (P0_ k_ ∨ w.heap.size ≤ k_) ∧ some k_ ≠ (.slice Ao5 x3_1.length co5 : Value).ownBlock ∧ some k_ ≠ (v453 : Value).ownBlock)) ?hr ?hp (fun _ hk => hk) ((show ∀ k_, w31.heap.size ≤ k_ → (fun k_ => (P0_ k_ ∨ w.heap.size ≤ k_) ∧ some k_ ≠ (.slice Ao5 x3_1.length co5 : Value).ownBlock ∧ some k_ ≠ (v453 : Value).ownBlock) k_ from fun k_ hk => ⟨(.inr (Nat.le_trans (below_size bel) hk)), Kd.fresh' (Kd.N_lt b7_) k_ hk, Kd.fresh' (Kd.N_lt b51_) k_ hk⟩) _ (Nat.le_refl _)) (Below.refl _ _) (Nat.le_refl _) (by simp) ?_; (case hd => rfl); (case hg => rfl); (case hr => first | (go_simp; done) | (go_simp; rfl)); (case hp => exact (Reps.one (show Kd.FK (Kd.slice 9 Kd.string) _ _ (rd_L9 l0 x4_1) [.slice A455_0 (rd_L9 l0 x4_1).length c455_0] from (Kd.FK_slice_mk (Kd.V_reads' (Kd.V_mono (ok' := (fun k_ => (P0_ k_ ∨ w.heap.size ≤ k_) ∧ some k_ ≠ (.slice Ao5 x3_1.length co5 : Value).ownBlock ∧ some k_ ≠ (v453 : Value).ownBlock)) (HL455_0.out) (fun k_ hk => ⟨hk.1.1, ⟨hk.1.2, hk.2⟩⟩))).2.1 (Kd.V_F (Kd.V_mono (ok' := (fun k_ => (P0_ k_ ∨ w.heap.size ≤ k_) ∧ some k_ ≠ (.slice Ao5 x3_1.length co5 : Value).ownBlock ∧ some k_ ≠ (v453 : Value).ownBlock)) (HL455_0.out) (fun k_ hk => ⟨hk.1.1, ⟨hk.1.2, hk.2⟩⟩))))) (Reps.none _ _)))
                   intro v457 w32 ho33 hb hg_ hnew_; have HS0_ := (hb.cell (World.block_lt_of_cell? _ _ (hHeld))).trans (hHeld); clear hg_ hnew_
                   (first | rw [← Ny456.out] at ho33 | (simp only [Int.reduceToNat] at ho33; rw [← Ny456.out] at ho33) | (simp only [Int.toNat_natCast] at ho33; rw [← Ny456.out] at ho33))
                   replace HO_0 := am (Kd.V_elder' (vq HO_0.out) (Kd.N_base ho33) hb)
                   replace HO_3 := am (Kd.N_elder' b7_ (Kd.N_base ho33) hb)
                   replace HO451 := am (Kd.V_elder' (vq HO451.out) (Kd.N_base ho33) hb); replace HL455_0 := am (Kd.V_elder' (vq HL455_0.out) (Kd.N_base ho33) hb); replace HO466 := am (Kd.V_elder' (vq HO466.out) (Kd.N_base ho33) hb)
                   replace HO454 := am (Kd.N_elder' b51_ (Kd.N_base ho33) hb)
                   have HO458 := am (Kd.N_lower ho33 (below_size bel)); replace HB := am (below_step bel hb); clear hb ho33
                   refine hK.out _ _ (HS0_) (fun hHeld => ?_)
                   clear hK K
                   refine norm_ (a' := ?_) ?_ ?_
                   rotate_left
                   ·show Act.put _ (some 40) _ = _
                    simp only [Act.put, List.setIfInBounds_toArray, List.set_cons_zero, List.set_cons_succ, i64_w, i32_w]
                    rfl
                   exact norm_ b47_ (hCont (v445, v453, v457) _ ⟨hHeld, (vq (Kd.V_mono HL455_0.out (fun _ hk => ⟨hk.1.1.1, ⟨hk.1.2, ⟨hk.2, hk.1.1.2⟩⟩⟩))), (vq (Kd.V_mono HO451.out (fun _ hk => ⟨hk.1.1, ⟨hk.1.2, hk.2⟩⟩))), b51_, (by (with_reducible repeat (first | apply Kd.N_alloc | apply Kd.N_drewN | apply Kd.N_drew)); exact Kd.N_mono HO458.out (fun _ hk => ⟨hk.1, ⟨hk.2.2, hk.2.1⟩⟩)), (vq (Kd.V_mono HO466.out (fun _ hk => ⟨hk.1.1, ⟨hk.1.2, hk.2⟩⟩))), (vq (Kd.V_mono HO_0.out (fun _ hk => ⟨hk.1.1.1, ⟨hk.1.2, ⟨hk.2, hk.1.1.2⟩⟩⟩))), (by (with_reducible repeat (first | apply Kd.N_alloc | apply Kd.N_drewN | apply Kd.N_drew)); exact Kd.N_mono HO_3.out (fun _ hk => ⟨hk.1.1, ⟨hk.1.2, hk.2⟩⟩)), bel⟩)
                  ·skip
                   refine Kd.N_lit_step (Kd.slice 9 Kd.string) _ 22 ?hg (N' := 40) ?hd (xs := ([rd_L9 l0 x4_1] : List (List ByteArray))) (inner := [.slice A455_0 (rd_L9 l0 x4_1).length c455_0]) (ok := (fun k_ => (P0_ k_ ∨ w.heap.size ≤ k_) ∧ some k_ ≠ (.slice Ao5 x3_1.length co5 : Value).ownBlock ∧ some k_ ≠ (v445 : Value).ownBlock)) (okp := (fun k_ => (P0_ k_ ∨ w.heap.size ≤ k_) ∧ some k_ ≠ (.slice Ao5 x3_1.length co5 : Value).ownBlock ∧ some k_ ≠ (v445 : Value).ownBlock)) ?hr ?hp (fun _ hk => hk) ((show ∀ k_, w29.heap.size ≤ k_ → (fun k_ => (P0_ k_ ∨ w.heap.size ≤ k_) ∧ some k_ ≠ (.slice Ao5 x3_1.length co5 : Value).ownBlock ∧ some k_ ≠ (v445 : Value).ownBlock) k_ from fun k_ hk => ⟨(.inr (Nat.le_trans (below_size bel) hk)), Kd.fresh' (Kd.N_lt b7_) k_ hk, Kd.fresh' (Kd.N_lt (by (with_reducible repeat (first | apply Kd.N_alloc | apply Kd.N_drewN | apply Kd.N_drew)); exact HO446.out)) k_ hk⟩) _ (Nat.le_refl _)) (Below.refl _ _) (Nat.le_refl _) (by simp) ?_; (case hd => rfl); (case hg => rfl); (case hr => first | (go_simp; done) | (go_simp; rfl)); (case hp => exact (Reps.one (show Kd.FK (Kd.slice 9 Kd.string) _ _ (rd_L9 l0 x4_1) [.slice A455_0 (rd_L9 l0 x4_1).length c455_0] from (Kd.FK_slice_mk (Kd.V_reads' (Kd.V_mono (ok' := (fun k_ => (P0_ k_ ∨ w.heap.size ≤ k_) ∧ some k_ ≠ (.slice Ao5 x3_1.length co5 : Value).ownBlock ∧ some k_ ≠ (v445 : Value).ownBlock)) (HL455_0.out) (fun k_ hk => ⟨hk.1.1, ⟨hk.1.2, hk.2⟩⟩))).2.1 (Kd.V_F (Kd.V_mono (ok' := (fun k_ => (P0_ k_ ∨ w.heap.size ≤ k_) ∧ some k_ ≠ (.slice Ao5 x3_1.length co5 : Value).ownBlock ∧ some k_ ≠ (v445 : Value).ownBlock)) (HL455_0.out) (fun k_ hk => ⟨hk.1.1, ⟨hk.1.2, hk.2⟩⟩))))) (Reps.none _ _)))
                   intro v457 w31 ho32 hb hg_ hnew_; have HS0_ := (hb.cell (World.block_lt_of_cell? _ _ (hHeld))).trans (hHeld); clear hg_ hnew_
                   (first | rw [← Ny456.out] at ho32 | (simp only [Int.reduceToNat] at ho32; rw [← Ny456.out] at ho32) | (simp only [Int.toNat_natCast] at ho32; rw [← Ny456.out] at ho32))
                   replace HO_0 := am (Kd.V_elder' (vq HO_0.out) (Kd.N_base ho32) hb)
                   replace HO_3 := am (Kd.N_elder' b7_ (Kd.N_base ho32) hb)
                   replace HO451 := am (Kd.V_elder' (vq HO451.out) (Kd.N_base ho32) hb); replace HL455_0 := am (Kd.V_elder' (vq HL455_0.out) (Kd.N_base ho32) hb); replace HO466 := am (Kd.V_elder' (vq HO466.out) (Kd.N_base ho32) hb)
                   replace HO446 := am (Kd.N_elder' (by (with_reducible repeat (first | apply Kd.N_alloc | apply Kd.N_drewN | apply Kd.N_drew)); exact HO446.out) (Kd.N_base ho32) hb)
                   have HO458 := am (Kd.N_lower ho32 (below_size bel))
                   replace HR455_0 := am (Kd.C_below b32_ hb)
                   replace HB := am (below_step bel hb); clear hb ho32
                   refine hK.out _ _ (HS0_) (fun hHeld => ?_)
                   clear hK K
                   refine norm_ (a' := ?_) ?_ ?_
                   rotate_left
                   ·show Act.put _ (some 40) _ = _
                    simp only [Act.put, List.setIfInBounds_toArray, List.set_cons_zero, List.set_cons_succ, i64_w, i32_w]
                    rfl
                   refine on1 4 35 (fun K hK => ?_)
                   refine Kd.N_append_rows_step (Kd.slice 9 Kd.string) (w0 := w) w.heap.size (by rfl) (.tmp 31) (.tmp 34) 179 22 (.slice none 0 0) 24 rfl Try.underlying179 info22 rfl (by decide) (by omega) v445 y444 y447 _ _ _ (fun k_ => (P0_ k_ ∨ w.heap.size ≤ k_) ∧ some k_ ≠ (v457 : Value).ownBlock) (fun k_ => ((fun k_ => (P0_ k_ ∨ w.heap.size ≤ k_) ∧ some k_ ≠ (v457 : Value).ownBlock)) k_ ∧ some k_ ≠ (v445 : Value).ownBlock) rfl rfl ?aO ?aR (fun _ hk => hk) ?aF ?aB ?aS ?aL ?_
                   (case aR => exact (by skip; exact Kd.V_F (Kd.V_mono (ok' := (fun k_ => ((fun k_ => (P0_ k_ ∨ w.heap.size ≤ k_) ∧ some k_ ≠ (v457 : Value).ownBlock)) k_ ∧ some k_ ≠ (v445 : Value).ownBlock)) (HO451.out) (fun k_ hk => ⟨⟨hk.1.1, hk.2⟩, hk.1.2⟩)))); (case aB => exact bel); (case aF => exact (fun k_ hk => ⟨(.inr (Nat.le_trans (below_size bel) hk)), Kd.fresh' (Kd.N_lt b45_) k_ hk⟩)); (case aO => exact (by (with_reducible repeat (first | apply Kd.N_alloc | apply Kd.N_drewN | apply Kd.N_drew)); exact Kd.N_mono HO446.out (fun _ hk => ⟨hk.1.1, hk.2⟩))); (case aS => exact (below_size bel)); (case aL => have := LMc19.out; omega); intro v453 w33 ho hb hg hat
                   have HS0_ := cell_grown hg (by first | exact hHeld | exact (World.cell?_alloc_lt _ _ _ (World.block_lt_of_cell? _ _ (hHeld))).trans (hHeld)) b20_
                   rw [← Ny452.out] at ho; replace HO_0 := am (Kd.V_afterv (ok := (fun k_ => (P0_ k_ ∨ w.heap.size ≤ k_) ∧ some k_ ≠ (.slice Ao5 x3_1.length co5 : Value).ownBlock ∧ some k_ ≠ (v457 : Value).ownBlock)) (vq (Kd.V_mono HO_0.out (fun _ hk => ⟨⟨hk.1.1.1, ⟨hk.1.1.2, hk.2⟩⟩, hk.1.2⟩))) hg hat)
                   replace HO_3 := am (Kd.N_afterv (ok := (fun k_ => (P0_ k_ ∨ w.heap.size ≤ k_) ∧ some k_ ≠ (v457 : Value).ownBlock)) (by (with_reducible repeat (first | apply Kd.N_alloc | apply Kd.N_drewN | apply Kd.N_drew)); exact Kd.N_mono HO_3.out (fun _ hk => ⟨⟨hk.1.1, hk.2⟩, hk.1.2⟩)) hg hat)
                   replace HO451 := am (Kd.V_afterv (ok := (fun k_ => (P0_ k_ ∨ w.heap.size ≤ k_) ∧ some k_ ≠ (v457 : Value).ownBlock)) (vq (Kd.V_mono HO451.out (fun _ hk => ⟨⟨hk.1.1, hk.2⟩, hk.1.2⟩))) hg hat); replace HL455_0 := am (Kd.V_afterv (ok := (fun k_ => (P0_ k_ ∨ w.heap.size ≤ k_) ∧ some k_ ≠ (.slice Ao5 x3_1.length co5 : Value).ownBlock ∧ some k_ ≠ (v457 : Value).ownBlock)) (vq (Kd.V_mono HL455_0.out (fun _ hk => ⟨⟨hk.1.1.1, ⟨hk.1.1.2, hk.2⟩⟩, hk.1.2⟩))) hg hat); replace HO466 := am (Kd.V_afterv (ok := (fun k_ => (P0_ k_ ∨ w.heap.size ≤ k_) ∧ some k_ ≠ (v457 : Value).ownBlock)) (vq (Kd.V_mono HO466.out (fun _ hk => ⟨⟨hk.1.1, hk.2⟩, hk.1.2⟩))) hg hat)
                   replace HO458 := am (Kd.N_afterv (ok := (fun k_ => (P0_ k_ ∨ w.heap.size ≤ k_) ∧ some k_ ≠ (.slice Ao5 x3_1.length co5 : Value).ownBlock)) (by (with_reducible repeat (first | apply Kd.N_alloc | apply Kd.N_drewN | apply Kd.N_drew)); exact Kd.N_mono HO458.out (fun _ hk => ⟨⟨hk.1, hk.2.1⟩, hk.2.2⟩)) hg hat)
                   replace HB := am (hb); have HO454 := am (ho); clear HO446; clear ho hb hg hat
                   refine hK.out _ _ (HS0_) (fun hHeld => ?_)
                   clear hK K
                   refine norm_ (a' := ?_) ?_ ?_
                   rotate_left
                   ·show Act.put _ (some 35) _ = _
                    simp only [Act.put, List.setIfInBounds_toArray, List.set_cons_zero, List.set_cons_succ, i64_w, i32_w]
                    rfl
                   exact norm_ b47_ (hCont (v445, v453, v457) _ ⟨hHeld, (vq (Kd.V_mono HL455_0.out (fun _ hk => ⟨hk.1.1, ⟨hk.2, ⟨hk.1.2.2, hk.1.2.1⟩⟩⟩))), (vq (Kd.V_mono HO451.out (fun _ hk => ⟨hk.1.1, ⟨hk.2, hk.1.2⟩⟩))), b51_, b70_, (vq (Kd.V_mono HO466.out (fun _ hk => ⟨hk.1.1, ⟨hk.2, hk.1.2⟩⟩))), (vq (Kd.V_mono HO_0.out (fun _ hk => ⟨hk.1.1, ⟨hk.2, ⟨hk.1.2.2, hk.1.2.1⟩⟩⟩))), b73_, bel⟩)
                 ·skip
                  refine Kd.N_lit_step (Kd.slice 9 Kd.string) _ 22 ?hg (N' := 40) ?hd (xs := ([rd_L9 l0 x4_1] : List (List ByteArray))) (inner := [.slice A455_0 (rd_L9 l0 x4_1).length c455_0]) (ok := (fun k_ => (P0_ k_ ∨ w.heap.size ≤ k_) ∧ some k_ ≠ (.slice Ao5 x3_1.length co5 : Value).ownBlock)) (okp := (fun k_ => (P0_ k_ ∨ w.heap.size ≤ k_) ∧ some k_ ≠ (.slice Ao5 x3_1.length co5 : Value).ownBlock)) ?hr ?hp (fun _ hk => hk) ((show ∀ k_, w26.heap.size ≤ k_ → (fun k_ => (P0_ k_ ∨ w.heap.size ≤ k_) ∧ some k_ ≠ (.slice Ao5 x3_1.length co5 : Value).ownBlock) k_ from fun k_ hk => ⟨(.inr (Nat.le_trans (below_size bel) hk)), Kd.fresh' (Kd.N_lt b7_) k_ hk⟩) _ (Nat.le_refl _)) (Below.refl _ _) (Nat.le_refl _) (by simp) ?_; (case hd => rfl); (case hg => rfl); (case hr => first | (go_simp; done) | (go_simp; rfl)); (case hp => exact (Reps.one (show Kd.FK (Kd.slice 9 Kd.string) _ _ (rd_L9 l0 x4_1) [.slice A455_0 (rd_L9 l0 x4_1).length c455_0] from (Kd.FK_slice_mk (Kd.V_reads' (Kd.V_mono (ok' := (fun k_ => (P0_ k_ ∨ w.heap.size ≤ k_) ∧ some k_ ≠ (.slice Ao5 x3_1.length co5 : Value).ownBlock)) (HL455_0.out) (fun k_ hk => ⟨hk.1, hk.2⟩))).2.1 (Kd.V_F (Kd.V_mono (ok' := (fun k_ => (P0_ k_ ∨ w.heap.size ≤ k_) ∧ some k_ ≠ (.slice Ao5 x3_1.length co5 : Value).ownBlock)) (HL455_0.out) (fun k_ hk => ⟨hk.1, hk.2⟩))))) (Reps.none _ _)))
                  intro v457 w29 ho30 hb hg_ hnew_; have HS0_ := (hb.cell (World.block_lt_of_cell? _ _ (hHeld))).trans (hHeld); clear hg_ hnew_
                  (first | rw [← Ny456.out] at ho30 | (simp only [Int.reduceToNat] at ho30; rw [← Ny456.out] at ho30) | (simp only [Int.toNat_natCast] at ho30; rw [← Ny456.out] at ho30))
                  replace HO_0 := am (Kd.V_elder' (vq HO_0.out) (Kd.N_base ho30) hb)
                  replace HO_3 := am (Kd.N_elder' b7_ (Kd.N_base ho30) hb)
                  replace HO451 := am (Kd.V_elder' (vq HO451.out) (Kd.N_base ho30) hb); replace HL455_0 := am (Kd.V_elder' (vq HL455_0.out) (Kd.N_base ho30) hb); replace HO466 := am (Kd.V_elder' (vq HO466.out) (Kd.N_base ho30) hb); have HO458 := am (Kd.N_lower ho30 (below_size bel))
                  replace HR455_0 := am (Kd.C_below b32_ hb)
                  replace HB := am (below_step bel hb); clear hb ho30
                  refine hK.out _ _ (HS0_) (fun hHeld => ?_)
                  clear hK K
                  refine norm_ (a' := ?_) ?_ ?_
                  rotate_left
                  ·show Act.put _ (some 40) _ = _
                   simp only [Act.put, List.setIfInBounds_toArray, List.set_cons_zero, List.set_cons_succ, i64_w, i32_w]
                   rfl
                  refine on1 0 31 (fun K hK => ?_)
                  refine Kd.N_lit_step (Kd.slice 9 Kd.string) _ 22 ?hg (N' := 31) ?hd (xs := ([] : List (List ByteArray))) (inner := []) (ok := (fun k_ => (P0_ k_ ∨ w.heap.size ≤ k_) ∧ some k_ ≠ (.slice Ao5 x3_1.length co5 : Value).ownBlock ∧ some k_ ≠ (v457 : Value).ownBlock)) (okp := (fun k_ => (P0_ k_ ∨ w.heap.size ≤ k_) ∧ some k_ ≠ (.slice Ao5 x3_1.length co5 : Value).ownBlock ∧ some k_ ≠ (v457 : Value).ownBlock)) ?hr ?hp (fun _ hk => hk) ((show ∀ k_, w29.heap.size ≤ k_ → (fun k_ => (P0_ k_ ∨ w.heap.size ≤ k_) ∧ some k_ ≠ (.slice Ao5 x3_1.length co5 : Value).ownBlock ∧ some k_ ≠ (v457 : Value).ownBlock) k_ from fun k_ hk => ⟨(.inr (Nat.le_trans (below_size bel) hk)), Kd.fresh' (Kd.N_lt b7_) k_ hk, Kd.fresh' (Kd.N_lt b45_) k_ hk⟩) _ (Nat.le_refl _)) (Below.refl _ _) (Nat.le_refl _) (by simp) ?_; (case hd => rfl); (case hg => rfl); (case hr => first | (go_simp; done) | (go_simp; rfl)); (case hp => exact (Reps.none _ _))
                  intro v445 w31 ho32 hb hg_ hnew_; have HS0_ := (hb.cell (World.block_lt_of_cell? _ _ (hHeld))).trans (hHeld); clear hg_ hnew_
                  (first | rw [← Ny444.out] at ho32 | (simp only [Int.reduceToNat] at ho32; rw [← Ny444.out] at ho32) | (simp only [Int.toNat_natCast] at ho32; rw [← Ny444.out] at ho32))
                  replace HO_0 := am (Kd.V_elder' (vq HO_0.out) (Kd.N_base ho32) hb)
                  replace HO_3 := am (Kd.N_elder' b7_ (Kd.N_base ho32) hb)
                  replace HO451 := am (Kd.V_elder' (vq HO451.out) (Kd.N_base ho32) hb); replace HL455_0 := am (Kd.V_elder' (vq HL455_0.out) (Kd.N_base ho32) hb); replace HO466 := am (Kd.V_elder' (vq HO466.out) (Kd.N_base ho32) hb)
                  replace HO458 := am (Kd.N_elder' b45_ (Kd.N_base ho32) hb)
                  have HO446 := am (Kd.N_lower ho32 (below_size bel))
                  replace HR455_0 := am (Kd.C_below b32_ hb)
                  replace HB := am (below_step bel hb); clear hb ho32
                  refine hK.out _ _ (HS0_) (fun hHeld => ?_)
                  clear hK K
                  refine norm_ (a' := ?_) ?_ ?_
                  rotate_left
                  ·show Act.put _ (some 31) _ = _
                   simp only [Act.put, List.setIfInBounds_toArray, List.set_cons_zero, List.set_cons_succ, i64_w, i32_w]
                   rfl
                  refine on1 4 35 (fun K hK => ?_)
                  refine Kd.N_append_rows_step (Kd.slice 9 Kd.string) (w0 := w) w.heap.size (by rfl) (.tmp 31) (.tmp 34) 179 22 (.slice none 0 0) 24 rfl Try.underlying179 info22 rfl (by decide) (by omega) v445 y444 y447 _ _ _ (fun k_ => (P0_ k_ ∨ w.heap.size ≤ k_) ∧ some k_ ≠ (v457 : Value).ownBlock) (fun k_ => ((fun k_ => (P0_ k_ ∨ w.heap.size ≤ k_) ∧ some k_ ≠ (v457 : Value).ownBlock)) k_ ∧ some k_ ≠ (v445 : Value).ownBlock) rfl rfl ?aO ?aR (fun _ hk => hk) ?aF ?aB ?aS ?aL ?_
                  (case aR => exact (by skip; exact Kd.V_F (Kd.V_mono (ok' := (fun k_ => ((fun k_ => (P0_ k_ ∨ w.heap.size ≤ k_) ∧ some k_ ≠ (v457 : Value).ownBlock)) k_ ∧ some k_ ≠ (v445 : Value).ownBlock)) (HO451.out) (fun k_ hk => ⟨⟨hk.1.1, hk.1.2⟩, hk.2⟩)))); (case aB => exact bel); (case aF => exact (fun k_ hk => ⟨(.inr (Nat.le_trans (below_size bel) hk)), Kd.fresh' (Kd.N_lt b45_) k_ hk⟩)); (case aO => exact (by (with_reducible repeat (first | apply Kd.N_alloc | apply Kd.N_drewN | apply Kd.N_drew)); exact Kd.N_mono HO446.out (fun _ hk => ⟨hk.1, hk.2.2⟩))); (case aS => exact (below_size bel)); (case aL => have := LMc19.out; omega); intro v453 w33 ho hb hg hat
                  have HS0_ := cell_grown hg (by first | exact hHeld | exact (World.cell?_alloc_lt _ _ _ (World.block_lt_of_cell? _ _ (hHeld))).trans (hHeld)) b20_
                  rw [← Ny452.out] at ho; replace HO_0 := am (Kd.V_afterv (ok := (fun k_ => (P0_ k_ ∨ w.heap.size ≤ k_) ∧ some k_ ≠ (.slice Ao5 x3_1.length co5 : Value).ownBlock ∧ some k_ ≠ (v457 : Value).ownBlock)) (vq (Kd.V_mono HO_0.out (fun _ hk => ⟨⟨hk.1.1.1, ⟨hk.1.1.2, hk.1.2⟩⟩, hk.2⟩))) hg hat)
                  replace HO_3 := am (Kd.N_afterv (ok := (fun k_ => (P0_ k_ ∨ w.heap.size ≤ k_) ∧ some k_ ≠ (v457 : Value).ownBlock)) b7_ hg hat)
                  replace HO451 := am (Kd.V_afterv (ok := (fun k_ => (P0_ k_ ∨ w.heap.size ≤ k_) ∧ some k_ ≠ (v457 : Value).ownBlock)) (vq HO451.out) hg hat); replace HL455_0 := am (Kd.V_afterv (ok := (fun k_ => (P0_ k_ ∨ w.heap.size ≤ k_) ∧ some k_ ≠ (.slice Ao5 x3_1.length co5 : Value).ownBlock ∧ some k_ ≠ (v457 : Value).ownBlock)) (vq (Kd.V_mono HL455_0.out (fun _ hk => ⟨⟨hk.1.1.1, ⟨hk.1.1.2, hk.1.2⟩⟩, hk.2⟩))) hg hat); replace HO466 := am (Kd.V_afterv (ok := (fun k_ => (P0_ k_ ∨ w.heap.size ≤ k_) ∧ some k_ ≠ (v457 : Value).ownBlock)) (vq HO466.out) hg hat)
                  replace HO458 := am (Kd.N_afterv (ok := (fun k_ => (P0_ k_ ∨ w.heap.size ≤ k_) ∧ some k_ ≠ (.slice Ao5 x3_1.length co5 : Value).ownBlock)) b45_ hg hat)
                  replace HB := am (hb); have HO454 := am (ho); clear HO446; clear ho hb hg hat
                  refine hK.out _ _ (HS0_) (fun hHeld => ?_)
                  clear hK K
                  refine norm_ (a' := ?_) ?_ ?_
                  rotate_left
                  ·show Act.put _ (some 35) _ = _
                   simp only [Act.put, List.setIfInBounds_toArray, List.set_cons_zero, List.set_cons_succ, i64_w, i32_w]
                   rfl
                  exact norm_ b47_ (hCont (v445, v453, v457) _ ⟨hHeld, (vq (Kd.V_mono HL455_0.out (fun _ hk => ⟨hk.1.1, ⟨hk.2, ⟨hk.1.2.2, hk.1.2.1⟩⟩⟩))), (vq (Kd.V_mono HO451.out (fun _ hk => ⟨hk.1.1, ⟨hk.2, hk.1.2⟩⟩))), b51_, b70_, (vq (Kd.V_mono HO466.out (fun _ hk => ⟨hk.1.1, ⟨hk.2, hk.1.2⟩⟩))), (vq (Kd.V_mono HO_0.out (fun _ hk => ⟨hk.1.1, ⟨hk.2, ⟨hk.1.2.2, hk.1.2.1⟩⟩⟩))), b73_, bel⟩)
                rintro ⟨v445, v453, v457⟩ w34 ⟨hS_, h0_, h1_, h2_, h3_, h4_, h5_, h6_, h7_⟩
                have n0_ : Aside0 (Kd.V Kd.string 9 w34 w.heap.size (fun k_ => (P0_ k_ ∨ w.heap.size ≤ k_) ∧ some k_ ≠ (v453 : Value).ownBlock ∧ some k_ ≠ (v457 : Value).ownBlock ∧ some k_ ≠ (.slice Ao5 x3_1.length co5 : Value).ownBlock) (.slice A455_0 (rd_L9 l0 x4_1).length c455_0) (rd_L9 l0 x4_1)) := ⟨h0_⟩
                have n1_ : Aside0 (Kd.V (Kd.slice 9 Kd.string) 22 w34 w.heap.size (fun k_ => (P0_ k_ ∨ w.heap.size ≤ k_) ∧ some k_ ≠ (v453 : Value).ownBlock ∧ some k_ ≠ (v457 : Value).ownBlock) (.slice Ao5 y447.length co5) y447) := ⟨h1_⟩
                have n2_ : Aside0 (Kd.N (Kd.slice 9 Kd.string) 22 w34 w.heap.size (fun k_ => (P0_ k_ ∨ w.heap.size ≤ k_) ∧ some k_ ≠ (v457 : Value).ownBlock) v453 y452) := ⟨h2_⟩
                have n3_ : Aside0 (Kd.N (Kd.slice 9 Kd.string) 22 w34 w.heap.size (fun k_ => (P0_ k_ ∨ w.heap.size ≤ k_) ∧ some k_ ≠ (v453 : Value).ownBlock ∧ some k_ ≠ (.slice Ao5 x3_1.length co5 : Value).ownBlock) v457 y456) := ⟨h3_⟩
                have n4_ : Aside0 (Kd.V (Kd.slice 9 Kd.string) 22 w34 w.heap.size (fun k_ => (P0_ k_ ∨ w.heap.size ≤ k_) ∧ some k_ ≠ (v453 : Value).ownBlock ∧ some k_ ≠ (v457 : Value).ownBlock) (.slice A28 y462.length c28) y462) := ⟨h4_⟩
                have n5_ : Aside0 (Kd.V (Kd.slice 9 Kd.string) 22 w34 w.heap.size (fun k_ => (P0_ k_ ∨ w.heap.size ≤ k_) ∧ some k_ ≠ (v453 : Value).ownBlock ∧ some k_ ≠ (v457 : Value).ownBlock ∧ some k_ ≠ (.slice Ao5 x3_1.length co5 : Value).ownBlock) (.slice (some ad455) l0.length c0) l0) := ⟨h5_⟩
                have n6_ : Aside0 (Kd.N (Kd.slice 9 Kd.string) 22 w34 w.heap.size (fun k_ => (P0_ k_ ∨ w.heap.size ≤ k_) ∧ some k_ ≠ (v453 : Value).ownBlock ∧ some k_ ≠ (v457 : Value).ownBlock) (.slice Ao5 x3_1.length co5) x3_1) := ⟨h6_⟩
                have n7_ : Aside0 (Below w.heap.size w w34) := ⟨h7_⟩
                clear HO_0; clear HO_3; clear HB; clear h0_ h1_ h2_ h3_ h4_ h5_ h6_ h7_; have HL455_0 := n0_; have HO451 := n1_; have HO454 := n2_; have HO458 := n3_; have HO466 := n4_; have HO_0 := n5_; have HO_3 := n6_; have HB := n7_; clear n0_ n1_ n2_ n3_ n4_ n5_ n6_ n7_
                have hHeld : w34.cell? (ad455.add (x4_1).toNat) = some (.slice A455_0 (rd_L9 l0 x4_1).length c455_0) := hS_
                obtain ⟨Ao36, co36, eo36⟩ := Kd.N_slice HO458.out
                (first | subst eo36 | (injection eo36 with f1_ f2_ f3_; have f4_ := f1_.symm; have f5_ := f3_.symm; clear f1_ f2_ f3_; subst f4_; subst f5_))
                refine norm_ (a' := ?_) ?_ ?_
                rotate_left
                ·simp only [putAll, Act.put, List.setIfInBounds_toArray, List.set_cons_zero, List.set_cons_succ]
                 rfl
                refine on1 10 41 (fun K hK => ?_)
                refine Kd.N_append_rows_step (Kd.slice 9 Kd.string) (w0 := w) w.heap.size (by rfl) (.tmp 35) (.tmp 40) 179 22 (.slice none 0 0) 24 rfl Try.underlying179 info22 rfl (by decide) (by omega) v453 y452 y456 _ _ _ (fun k_ => (P0_ k_ ∨ w.heap.size ≤ k_)) (fun k_ => ((fun k_ => (P0_ k_ ∨ w.heap.size ≤ k_))) k_ ∧ some k_ ≠ (v453 : Value).ownBlock) rfl rfl ?aO ?aR (fun _ hk => hk) ?aF ?aB ?aS ?aL ?_
                (case aR => exact (by skip; exact Kd.N_F (Kd.N_mono (ok' := (fun k_ => ((fun k_ => (P0_ k_ ∨ w.heap.size ≤ k_))) k_ ∧ some k_ ≠ (v453 : Value).ownBlock)) (HO458.out) (fun k_ hk => ⟨hk.1, hk.2.1⟩)))); (case aB => exact bel); (case aF => exact (fun k_ hk => (.inr (Nat.le_trans (below_size bel) hk)))); (case aO => exact (by (with_reducible repeat (first | apply Kd.N_alloc | apply Kd.N_drewN | apply Kd.N_drew)); exact Kd.N_mono HO454.out (fun _ hk => hk.1))); (case aS => exact (below_size bel)); (case aL => have := LMc22.out; omega); intro v460 w35 ho hb hg hat
                have HS0_ := cell_grown hg (by first | exact hHeld | exact (World.cell?_alloc_lt _ _ _ (World.block_lt_of_cell? _ _ (hHeld))).trans (hHeld)) b20_
                rw [← Ny459.out] at ho; replace HO_0 := am (Kd.V_afterv (ok := (fun k_ => (P0_ k_ ∨ w.heap.size ≤ k_) ∧ some k_ ≠ (.slice Ao5 x3_1.length co5 : Value).ownBlock ∧ some k_ ≠ (.slice Ao36 y456.length co36 : Value).ownBlock)) (vq (Kd.V_mono HO_0.out (fun _ hk => ⟨⟨hk.1, ⟨hk.2.2.2, hk.2.2.1⟩⟩, hk.2.1⟩))) hg hat)
                replace HO_3 := am (Kd.N_afterv (ok := (fun k_ => (P0_ k_ ∨ w.heap.size ≤ k_) ∧ some k_ ≠ (.slice Ao36 y456.length co36 : Value).ownBlock)) (by (with_reducible repeat (first | apply Kd.N_alloc | apply Kd.N_drewN | apply Kd.N_drew)); exact Kd.N_mono HO_3.out (fun _ hk => ⟨⟨hk.1, hk.2.2⟩, hk.2.1⟩)) hg hat)
                replace HO451 := am (Kd.V_afterv (ok := (fun k_ => (P0_ k_ ∨ w.heap.size ≤ k_) ∧ some k_ ≠ (.slice Ao36 y456.length co36 : Value).ownBlock)) (vq (Kd.V_mono HO451.out (fun _ hk => ⟨⟨hk.1, hk.2.2⟩, hk.2.1⟩))) hg hat); replace HL455_0 := am (Kd.V_afterv (ok := (fun k_ => (P0_ k_ ∨ w.heap.size ≤ k_) ∧ some k_ ≠ (.slice Ao5 x3_1.length co5 : Value).ownBlock ∧ some k_ ≠ (.slice Ao36 y456.length co36 : Value).ownBlock)) (vq (Kd.V_mono HL455_0.out (fun _ hk => ⟨⟨hk.1, ⟨hk.2.2.2, hk.2.2.1⟩⟩, hk.2.1⟩))) hg hat); replace HO466 := am (Kd.V_afterv (ok := (fun k_ => (P0_ k_ ∨ w.heap.size ≤ k_) ∧ some k_ ≠ (.slice Ao36 y456.length co36 : Value).ownBlock)) (vq (Kd.V_mono HO466.out (fun _ hk => ⟨⟨hk.1, hk.2.2⟩, hk.2.1⟩))) hg hat)
                replace HO458 := am (Kd.N_afterv (ok := (fun k_ => (P0_ k_ ∨ w.heap.size ≤ k_) ∧ some k_ ≠ (.slice Ao5 x3_1.length co5 : Value).ownBlock)) (by (with_reducible repeat (first | apply Kd.N_alloc | apply Kd.N_drewN | apply Kd.N_drew)); exact Kd.N_mono HO458.out (fun _ hk => ⟨⟨hk.1, hk.2.2⟩, hk.2.1⟩)) hg hat)
                replace HB := am (hb); have HO461 := am (ho); clear HO454; clear ho hb hg hat
                refine hK.out _ _ (HS0_) (fun hHeld => ?_)
                clear hK K
                refine norm_ (a' := ?_) ?_ ?_
                rotate_left
                ·show Act.put _ (some 41) _ = _
                 simp only [Act.put, List.setIfInBounds_toArray, List.set_cons_zero, List.set_cons_succ, i64_w, i32_w]
                 rfl
                refine on1 14 45 (fun K hK => ?_)
                refine Kd.N_append_rows_step (Kd.slice 9 Kd.string) (w0 := w) w.heap.size (by rfl) (.tmp 41) (.tmp 44) 179 22 (.slice none 0 0) 24 rfl Try.underlying179 info22 rfl (by decide) (by omega) v460 y459 y462 _ _ _ (fun k_ => (P0_ k_ ∨ w.heap.size ≤ k_)) (fun k_ => ((fun k_ => (P0_ k_ ∨ w.heap.size ≤ k_))) k_ ∧ some k_ ≠ (v460 : Value).ownBlock) rfl rfl ?aO ?aR (fun _ hk => hk) ?aF ?aB ?aS ?aL ?_
                (case aR => exact (by skip; exact Kd.V_F (Kd.V_mono (ok' := (fun k_ => ((fun k_ => (P0_ k_ ∨ w.heap.size ≤ k_))) k_ ∧ some k_ ≠ (v460 : Value).ownBlock)) (HO466.out) (fun k_ hk => ⟨hk.1.1, hk.2⟩)))); (case aB => exact bel); (case aF => exact (fun k_ hk => (.inr (Nat.le_trans (below_size bel) hk)))); (case aO => exact (by (with_reducible repeat (first | apply Kd.N_alloc | apply Kd.N_drewN | apply Kd.N_drew)); exact HO461.out)); (case aS => exact (below_size bel)); (case aL => have := LMc25.out; omega); intro v468 w37 ho hb hg hat
                have HS0_ := cell_grown hg (by first | exact hHeld | exact (World.cell?_alloc_lt _ _ _ (World.block_lt_of_cell? _ _ (hHeld))).trans (hHeld)) b20_
                rw [← Ny467.out] at ho; replace HO_0 := am (Kd.V_afterv (ok := (fun k_ => (P0_ k_ ∨ w.heap.size ≤ k_) ∧ some k_ ≠ (.slice Ao5 x3_1.length co5 : Value).ownBlock ∧ some k_ ≠ (.slice Ao36 y456.length co36 : Value).ownBlock)) (vq HO_0.out) hg hat)
                replace HO_3 := am (Kd.N_afterv (ok := (fun k_ => (P0_ k_ ∨ w.heap.size ≤ k_) ∧ some k_ ≠ (.slice Ao36 y456.length co36 : Value).ownBlock)) b7_ hg hat)
                replace HO451 := am (Kd.V_afterv (ok := (fun k_ => (P0_ k_ ∨ w.heap.size ≤ k_) ∧ some k_ ≠ (.slice Ao36 y456.length co36 : Value).ownBlock)) (vq HO451.out) hg hat); replace HL455_0 := am (Kd.V_afterv (ok := (fun k_ => (P0_ k_ ∨ w.heap.size ≤ k_) ∧ some k_ ≠ (.slice Ao5 x3_1.length co5 : Value).ownBlock ∧ some k_ ≠ (.slice Ao36 y456.length co36 : Value).ownBlock)) (vq HL455_0.out) hg hat); replace HO466 := am (Kd.V_afterv (ok := (fun k_ => (P0_ k_ ∨ w.heap.size ≤ k_) ∧ some k_ ≠ (.slice Ao36 y456.length co36 : Value).ownBlock)) (vq HO466.out) hg hat)
                replace HO458 := am (Kd.N_afterv (ok := (fun k_ => (P0_ k_ ∨ w.heap.size ≤ k_) ∧ some k_ ≠ (.slice Ao5 x3_1.length co5 : Value).ownBlock)) b45_ hg hat)
                replace HB := am (hb); have HO469 := am (ho); clear HO461; clear ho hb hg hat
                refine hK.out _ _ (HS0_) (fun hHeld => ?_)
                clear hK K
                refine norm_ (a' := ?_) ?_ ?_
                rotate_left
                ·show Act.put _ (some 45) _ = _
                 simp only [Act.put, List.setIfInBounds_toArray, List.set_cons_zero, List.set_cons_succ, i64_w, i32_w]
                 rfl
                refine pu 15 3 ?_
                refine done_ (done_of HT_.out (by kernel_rfl)) ?_
                try go_wp2
                go_roundg kj5
                case measure => have := HK1.out; have := HK2.out; have := HJ5.out; omega
                case rel => exact ⟨(y467), (wrap64 (x4_1 + 1)), sq, H', ⟨by have := HK1.out; have := HK2.out; have := HJ5.out; omega⟩, ⟨vq (Kd.V_mono HO_0.out (fun _ hk => ⟨hk.1.1, hk.2⟩))⟩, ⟨by (with_reducible repeat (first | apply Kd.N_alloc | apply Kd.N_drewN | apply Kd.N_drew)); exact HO469.out⟩, ⟨bel⟩⟩
               ·rw [if_neg c25] at H
                exact absurd H (by simp)
              ·rw [if_neg c22] at H
               exact absurd H (by simp)
             ·rw [if_neg c21] at H
              exact absurd H (by simp)
            ·rw [if_neg c20] at H
             exact absurd H (by simp)
           ·rw [if_neg c19] at H
            exact absurd H (by simp)
          ·rw [if_neg c18] at H
           exact absurd H (by simp)
         ·rw [if_neg c17] at H
          exact absurd H (by simp)
   ·rw [if_neg c4] at H; have c4b0 := decide_eq_false c4; clear c4; obtain rfl := Option.some.inj H; go_wp2; go_ret
    exact ⟨_, eq_, b7_, bel⟩

end Go.Proofs.Ytfpmfaelodfecaa.QFnMachineKnows

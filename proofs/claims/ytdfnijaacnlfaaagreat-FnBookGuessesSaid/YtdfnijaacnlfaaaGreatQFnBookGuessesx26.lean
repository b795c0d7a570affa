import Derived.Test.YtdfnijaacnlfaaaGreatQFnBookGuessesx0
import Derived.Test.YtdfnijaacnlfaaaGreatQFnBookGuessesx5
import Derived.Test.YtdfnijaacnlfaaaGreatVMSh2
namespace Go.Proofs.YtdfnijaacnlfaaaGreat.QFnBookGuesses
open Go.RowKit Go.Proofs.YtdfnijaacnlfaaaGreatW.PrintWords Go.Proofs.YtdfnijaacnlfaaaGreatW.PrintLast Go.Proofs.YtdfnijaacnlfaaaGreatW.PrintMore Go.Proofs.YtdfnijaacnlfaaaGreat.Sh
attribute [local go_sem] max2_int min2_int max_two min_two max_three min_three max_four min_four
set_option linter.unusedVariables false
set_option linter.unusedSimpArgs false
set_option maxHeartbeats 8000000
set_option maxRecDepth 100000
-- shrunk

/-! ### spec_l1Far: function 46 -/
mutual
def spec_l1Far.l0 : Nat → ByteArray → ByteArray → List (List Int) → Int → Option (Int)
 | 0, _, _, _, _ => none
 | k + 1, x0, x1, x5, x6 => if x6 ≤ (x0.size : Int) then (spec_l1Far.l1 k x0 x1 x5 x6 (([] : List Int)) 0) else (if 0 ≤ (x0.size : Int) then (if (x0.size : Int) < (x5.length : Int) then (if 0 ≤ (x1.size : Int) then (if (x1.size : Int) < ((rd_L6 x5 (x0.size : Int)).length : Int) then (some (rd (rd_L6 x5 (x0.size : Int)) (x1.size : Int))) else (none)) else (none)) else (none)) else (none))
def spec_l1Far.l1 : Nat → ByteArray → ByteArray → List (List Int) → Int → List Int → Int → Option (Int)
 | 0, _, _, _, _, _, _ => none
 | k + 1, x0, x1, x5, x6, x7, x8 => if x8 ≤ (x1.size : Int) then (if x6 = 0 then (if x7.length < 17592186044416 then (spec_l1Far.l1 k x0 x1 x5 x6 (x7 ++ [x8]) (wrap64 (x8 + 1))) else (none)) else (if x8 = 0 then (if x7.length < 17592186044416 then (spec_l1Far.l1 k x0 x1 x5 x6 (x7 ++ [x6]) (wrap64 (x8 + 1))) else (none)) else (if 0 ≤ (wrap64 (x6 - 1)) then (if (wrap64 (x6 - 1)) < (x5.length : Int) then (if 0 ≤ (wrap64 (x8 - 1)) then (if (wrap64 (x8 - 1)) < ((rd_L6 x5 (wrap64 (x6 - 1))).length : Int) then (if (wrap64 (x6 - 1)) < (x0.size : Int) then (if (wrap64 (x8 - 1)) < (x1.size : Int) then (if (bt x0 (wrap64 (x6 - 1))) = (bt x1 (wrap64 (x8 - 1))) then (spec_l1Far.j2 k x0 x1 x5 x6 x7 x8 (rd (rd_L6 x5 (wrap64 (x6 - 1))) (wrap64 (x8 - 1)))) else (spec_l1Far.j2 k x0 x1 x5 x6 x7 x8 (wrap64 ((rd (rd_L6 x5 (wrap64 (x6 - 1))) (wrap64 (x8 - 1))) + 1)))) else (none)) else (none)) else (none)) else (none)) else (none)) else (none)))) else (if x5.length < 5864062014805 then (spec_l1Far.l0 k x0 x1 (x5 ++ [x7]) (wrap64 (x6 + 1))) else (none))
def spec_l1Far.j2 : Nat → ByteArray → ByteArray → List (List Int) → Int → List Int → Int → Int → Option (Int)
 | 0, _, _, _, _, _, _, _ => none
 | k + 1, x0, x1, x5, x6, x7, x8, x9 => if 0 ≤ (wrap64 (x6 - 1)) then (if (wrap64 (x6 - 1)) < (x5.length : Int) then (if 0 ≤ x8 then (if x8 < ((rd_L6 x5 (wrap64 (x6 - 1))).length : Int) then (if 0 ≤ (wrap64 (x8 - 1)) then (if (wrap64 (x8 - 1)) < (x7.length : Int) then ((spec_l1Least.f (wrap64 ((rd (rd_L6 x5 (wrap64 (x6 - 1))) x8) + 1)) (wrap64 ((rd x7 (wrap64 (x8 - 1))) + 1))).bind fun t633 => ((spec_l1Least.f x9 t633).bind fun t634 => (if x6 > 1 then (if x8 > 1 then (if (wrap64 (x6 - 1)) < (x0.size : Int) then (if 0 ≤ (wrap64 (x8 - 2)) then (if (wrap64 (x8 - 2)) < (x1.size : Int) then (if (bt x0 (wrap64 (x6 - 1))) = (bt x1 (wrap64 (x8 - 2))) then (if 0 ≤ (wrap64 (x6 - 2)) then (if (wrap64 (x6 - 2)) < (x0.size : Int) then (if (wrap64 (x8 - 1)) < (x1.size : Int) then (spec_l1Far.j3 k x0 x1 x5 x6 x7 x8 t634 ((bt x0 (wrap64 (x6 - 2))) == (bt x1 (wrap64 (x8 - 1))))) else (none)) else (none)) else (none)) else (spec_l1Far.j3 k x0 x1 x5 x6 x7 x8 t634 false)) else (none)) else (none)) else (none)) else (spec_l1Far.j3 k x0 x1 x5 x6 x7 x8 t634 false)) else (spec_l1Far.j3 k x0 x1 x5 x6 x7 x8 t634 false)))) else (none)) else (none)) else (none)) else (none)) else (none)) else (none)
def spec_l1Far.j3 : Nat → ByteArray → ByteArray → List (List Int) → Int → List Int → Int → Int → Bool → Option (Int)
 | 0, _, _, _, _, _, _, _, _ => none
 | k + 1, x0, x1, x5, x6, x7, x8, x9, x89 => if x89 = true then (if 0 ≤ (wrap64 (x6 - 2)) then (if (wrap64 (x6 - 2)) < (x5.length : Int) then (if 0 ≤ (wrap64 (x8 - 2)) then (if (wrap64 (x8 - 2)) < ((rd_L6 x5 (wrap64 (x6 - 2))).length : Int) then ((spec_l1Least.f x9 (wrap64 ((rd (rd_L6 x5 (wrap64 (x6 - 2))) (wrap64 (x8 - 2))) + 1))).bind fun t637 => (if x7.length < 17592186044416 then (spec_l1Far.l1 k x0 x1 x5 x6 (x7 ++ [t637]) (wrap64 (x8 + 1))) else (none))) else (none)) else (none)) else (none)) else (none)) else (if x7.length < 17592186044416 then (spec_l1Far.l1 k x0 x1 x5 x6 (x7 ++ [x9]) (wrap64 (x8 + 1))) else (none))
end
def spec_l1Far.f (k : Nat) (a0 : ByteArray) (a1 : ByteArray) : Option (Int) := spec_l1Far.l0 k a0 a1 (([] : List (List Int))) 0
theorem spec_l1Far.calls (k : Nat) (a0 : ByteArray) (a1 : ByteArray) (r : Int) (w : World) (h : spec_l1Far.f k a0 a1 = some r) :
  Calls Tryz.prog 46 #[.string a0, .string a1] w fun e w' => e = .returned (.int .i64 r) ∧ Below w.heap.size w w' := by
 have HB := am (Below.refl w.heap.size w)
 have H := h; unfold spec_l1Far.f at H
 clear h; obtain ⟨y611, hy611⟩ : ∃ y_ : List (List Int), y_ = (([] : List (List Int))) := ⟨_, rfl⟩
 rw [← hy611] at H
 have Ny611 := am hy611; clear hy611
 have H' := am H
 clear H; go_enter Tryz.func46, Tryz.ntmps46
 go_wp2_with ((with_reducible refine gate_dst (N := 10) rfl ?_); refine Kd.S_lit (Kd.slice 3 (Kd.int .i64)) _ 54 ?hg (N := 10) ?hd (xs := ([] : List (List Int))) (inner := []) (ok := fun _ => True) (okp := fun _ => True) ?hr ?hp (fun _ hk => hk) trivial (Below.refl _ _) (Nat.le_refl _) (by simp) ?_; (case hd => rfl); (case hg => rfl); (case hr => (go_simp; done)); (case hp => exact (Reps.none _ _)); intro v612 w3 ho4 hb hg_ hnew_; clear hg_ hnew_; (rw [← Ny611.out] at ho4); have HO613 := am (Kd.S_lower ho4 (below_size bel)); replace HB := am (below_step bel hb); clear hb ho4)
 repeat (go_quiet (fail); try go_wp2)
 go_loopg [5, 6] k (fun kq v5 v6 w' => ∃ (x5_1 : List (List Int)) (x6_1 : Int), v6 = .int .i64 x6_1 ∧ Aside0 (spec_l1Far.l0 kq a0 a1 x5_1 x6_1 = some r) ∧ Aside0 (kq ≤ k) ∧ Aside0 (Kd.S (Kd.slice 3 (Kd.int .i64)) 54 w' w.heap.size (fun _ => True) v5 x5_1) ∧ Aside0 (Below w.heap.size w w'))
 case atStart => exact ⟨(y611), (0), sq, H', ⟨Nat.le_refl _⟩, ⟨by (with_reducible repeat (fail)); exact HO613.out⟩, ⟨bel⟩⟩
 case round =>
  clear H'; obtain ⟨x5_1, x6_1, rfl, HA, HK1, HO_5, HB⟩ := hrel
  cases gk with
  | zero => exact absurd HA.out (by simp [spec_l1Far.l0])
  | succ k1 =>
   have H := HA.out; clear HA; simp only [spec_l1Far.l0] at H
   by_cases c5 : x6_1 ≤ (a0.size : Int)
   ·rw [if_pos c5] at H; have c5b0 := decide_eq_true c5; clear c5; obtain ⟨y616, hy616⟩ : ∃ y_ : List Int, y_ = (([] : List Int)) := ⟨_, rfl⟩
    rw [← hy616] at H
    have Ny616 := am hy616; clear hy616
    have H' := am H
    clear H
    go_wp2_with ((with_reducible refine gate_dst (N := 17) rfl ?_); refine Kd.R_lit (Kd.int .i64) _ 3 ?hg (N := 17) ?hd (xs := ([] : List Int)) (inner := []) (ok := fun _ => True) (okp := fun _ => True) ?hr ?hp (fun _ hk => hk) trivial (Below.refl _ _) (Nat.le_refl _) (by simp) ?_; (case hd => rfl); (case hg => rfl); (case hr => (go_simp; done)); (case hp => exact (Reps.none _ _)); intro v617 w6 ho7 hb hg_ hnew_; clear hg_ hnew_; (rw [← Ny616.out] at ho7); replace HO_5 := am (Kd.S_elder' b52_ (Kd.R_base ho7) hb); have HO618 := am (Kd.R_lower ho7 (below_size bel)); replace HB := am (below_step bel hb); clear hb ho7)
    repeat (go_quiet (fail); try go_wp2)
    go_loopg [7, 8] k1 (fun kq v7 v8 w' => ∃ (x7_2 : List Int) (x8_2 : Int), v8 = .int .i64 x8_2 ∧ Aside0 (spec_l1Far.l1 kq a0 a1 x5_1 x6_1 x7_2 x8_2 = some r) ∧ Aside0 (kq ≤ k1) ∧ Aside0 (Kd.S (Kd.slice 3 (Kd.int .i64)) 54 w' w.heap.size (fun k_ => some k_ ≠ (v7 : Value).ownBlock) u5 x5_1) ∧ Aside0 (Kd.R (Kd.int .i64) 3 w' w.heap.size (fun _ => True) v7 x7_2) ∧ Aside0 (Below w.heap.size w w'))
    case atStart => exact ⟨(y616), (0), sq, H', ⟨Nat.le_refl _⟩, ⟨b74_⟩, ⟨rq HO618.out⟩, ⟨bel⟩⟩
    case round =>
     clear H'; clear c5b0; obtain ⟨x7_2, x8_2, rfl, HA, HK2, HO_5, HO_7, HB⟩ := hrel
     cases gk with
     | zero => exact absurd HA.out (by simp [spec_l1Far.l1])
     | succ k2 =>
      have H := HA.out; clear HA; simp only [spec_l1Far.l1] at H
      by_cases c8 : x8_2 ≤ (a1.size : Int)
      ·rw [if_pos c8] at H; have c8b0 := decide_eq_true c8; clear c8
       by_cases c9 : x6_1 = 0
       ·rw [if_pos c9] at H
        have c9b0 : (x6_1 == 0) = true := beq_iff_eq.mpr c9
        have c9b1 : (x6_1 != 0) = false := bne_eq_false_iff_eq.mpr c9
        clear c9
        replace H := ip H; obtain ⟨c10, H⟩ := H; have LMc10 := Aside0.mk c10; clear c10; obtain ⟨y622, hy622⟩ : ∃ y_ : List Int, y_ = (x7_2 ++ [x8_2]) := ⟨_, rfl⟩
        rw [← hy622] at H
        have Ny622 := am hy622; clear hy622
        have H' := am H
        clear H
        go_wp2_with ((with_reducible refine gate_builtin (b := .append) (xs := #[.tmp 109, .tmp 111]) rfl ?_); at_builtin; refine Kd.R_append (Kd.int .i64) (w0 := w) w.heap.size rfl (.tmp 109) (.tmp 111) 54 3 (.int .i64 0) 8 rfl Tryz.underlying54 info3 rfl (by decide) (by omega) u7 x7_2 x8_2 [.int .i64 x8_2] (fun _ => True) (fun _ => False) rfl rfl ?aP (fun _ hk => hk.elim) ?aF ?aO ?aB ?aS ?aL ?_; (case aP => exact rfl); (case aB => exact bel); (case aF => exact (fun _ _ => trivial)); (case aO => exact (rq HO_7.out)); (case aS => exact (below_size bel)); (case aL => have := LMc10.out; omega); intro v623 w11 ho hb hg hat; rw [← Ny622.out] at ho; replace HO_5 := am (Kd.S_after (ok := (fun _ => True)) b36_ hg hat); replace HB := am (hb); have HO624 := am (ho); clear HO_7; clear ho hb hg hat)
        repeat (go_quiet (fail); try go_wp2)
        go_roundg k2
        case measure => have := HK1.out; have := HK2.out; omega
        case rel => exact ⟨(y622), (wrap64 (x8_2 + 1)), sq, H', ⟨b78_⟩, ⟨b74_⟩, ⟨rq HO624.out⟩, ⟨bel⟩⟩
       rw [if_neg c9] at H
       have c9b0 : (x6_1 == 0) = false := beq_eq_false_iff_ne.mpr c9
       have c9b1 : (x6_1 != 0) = true := bne_iff_ne.mpr c9
       by_cases c12 : x8_2 = 0
       ·rw [if_pos c12] at H
        have c12b0 : (x8_2 == 0) = true := beq_iff_eq.mpr c12
        have c12b1 : (x8_2 != 0) = false := bne_eq_false_iff_eq.mpr c12
        clear c12
        replace H := ip H; obtain ⟨c13, H⟩ := H; have LMc13 := Aside0.mk c13; clear c13; obtain ⟨y625, hy625⟩ : ∃ y_ : List Int, y_ = (x7_2 ++ [x6_1]) := ⟨_, rfl⟩
        rw [← hy625] at H
        have Ny625 := am hy625; clear hy625
        have H' := am H
        clear H
        go_wp2_with ((with_reducible refine gate_builtin (b := .append) (xs := #[.tmp 116, .tmp 118]) rfl ?_); at_builtin; refine Kd.R_append (Kd.int .i64) (w0 := w) w.heap.size rfl (.tmp 116) (.tmp 118) 54 3 (.int .i64 0) 8 rfl Tryz.underlying54 info3 rfl (by decide) (by omega) u7 x7_2 x6_1 [.int .i64 x6_1] (fun _ => True) (fun _ => False) rfl rfl ?aP (fun _ hk => hk.elim) ?aF ?aO ?aB ?aS ?aL ?_; (case aP => exact rfl); (case aB => exact bel); (case aF => exact (fun _ _ => trivial)); (case aO => exact (rq HO_7.out)); (case aS => exact (below_size bel)); (case aL => have := LMc13.out; omega); intro v626 w14 ho hb hg hat; rw [← Ny625.out] at ho; replace HO_5 := am (Kd.S_after (ok := (fun _ => True)) b36_ hg hat); replace HB := am (hb); have HO627 := am (ho); clear HO_7; clear ho hb hg hat)
        repeat (go_quiet (fail); try go_wp2)
        go_roundg k2
        case measure => have := HK1.out; have := HK2.out; omega
        case rel => exact ⟨(y625), (wrap64 (x8_2 + 1)), sq, H', ⟨b78_⟩, ⟨b74_⟩, ⟨rq HO627.out⟩, ⟨bel⟩⟩
       rw [if_neg c12] at H
       have c12b0 : (x8_2 == 0) = false := beq_eq_false_iff_ne.mpr c12
       have c12b1 : (x8_2 != 0) = true := bne_iff_ne.mpr c12
       obtain ⟨ji15, hji15⟩ : ∃ j_ : Int, (wrap64 (x6_1 - 1)) = j_ := ⟨_, rfl⟩
       rw [hji15] at H
       have hji15w : (IntKind.i64.wrap (x6_1 - 1)) = ji15 := (i64_w _).trans hji15
       replace H := it H; obtain ⟨c16b0, H⟩ := H
       replace H := it H; obtain ⟨c17b0, H⟩ := H; obtain ⟨ji18, hji18⟩ : ∃ j_ : Int, (wrap64 (x8_2 - 1)) = j_ := ⟨_, rfl⟩
       rw [hji18] at H
       have hji18w : (IntKind.i64.wrap (x8_2 - 1)) = ji18 := (i64_w _).trans hji18
       replace H := it H; obtain ⟨c19b0, H⟩ := H; replace H := it H; obtain ⟨c20b0, H⟩ := H; replace H := it H; obtain ⟨c21b0, H⟩ := H; replace H := it H; obtain ⟨c23b0, H⟩ := H; have HC25 := am H; clear H; obtain ⟨Ao26, co26, eo26⟩ := Kd.S_slice HO_5.out; subst eo26
       have p628 : 0 ≤ ((ji15) : Int) := of_decide_eq_true ad
       have q628 : (ji15) < (x5_1.length : Int) := of_decide_eq_true ad
       obtain ⟨ad628, A628_0, c628_0, e628, hx628_0, hl628_0, hi628_0⟩ := at_L6 (Kd.S_reads' HO_5.out).2.2 (ji15) p628 q628; cases e628
       obtain ⟨ce628, hce628, hMe628, hcc628⟩ := Kd.S_get HO_5.out [] (ji15) p628 (by exact q628)
       obtain ⟨ve628_0, rfl, ge628_0⟩ := hMe628; have hv628_0 := hcc628 0 _ rfl; rw [Nat.add_zero, show ((Kd.slice 3 (Kd.int .i64))).sz = 1 from rfl, Nat.mul_one] at hv628_0; replace hv628_0 := Option.some.inj (hv628_0.symm.trans hx628_0); rw [hv628_0] at ge628_0; have HL628_0 := am (show Kd.R (Kd.int .i64) 3 _ _ _ _ (rd_L6 x5_1 (ji15)) from ge628_0); clear hv628_0 ge628_0; clear hcc628 hce628; have HR628_0 := am hi628_0; have HC628_0 := am hl628_0; clear hi628_0 hl628_0; replace p628 := eq_true p628; replace q628 := eq_true q628
       have p629 : 0 ≤ ((ji18) : Int) := of_decide_eq_true ad
       have q629 : (ji18) < ((rd_L6 x5_1 (ji15)).length : Int) := of_decide_eq_true ad
       obtain ⟨ad629, e629, hx629_0⟩ := Kd.at_int b45_ (ji18) p629 q629; cases e629; replace p629 := eq_true p629; replace q629 := eq_true q629
       have p22 : 0 ≤ ((ji15) : Int) := of_decide_eq_true ad
       have q22 : (ji15) < (a0.size : Int) := of_decide_eq_true ad
       have hx22 := bt_at a0 (ji15); replace p22 := eq_true p22; replace q22 := eq_true q22
       have p24 : 0 ≤ ((ji18) : Int) := of_decide_eq_true ad
       have q24 : (ji18) < (a1.size : Int) := of_decide_eq_true ad
       have hx24 := bt_at a1 (ji18); replace p24 := eq_true p24; replace q24 := eq_true q24
       go_upto_if 41 with (fail)
       repeat (go_quiet (fail); go_upto_if 41 with (fail))
       go_cut [9] (fun v9 wc => ∃ (kq : Nat) (x9_24 : Int), v9 = .int .i64 x9_24 ∧ Aside0 (spec_l1Far.j2 kq a0 a1 x5_1 x6_1 x7_2 x8_2 x9_24 = some r) ∧ Aside0 (kq ≤ k2) ∧ Aside0 (Kd.S (Kd.slice 3 (Kd.int .i64)) 54 wc w.heap.size (fun k_ => some k_ ≠ (u7 : Value).ownBlock) (.slice (some ad628) x5_1.length co26) x5_1) ∧ Aside0 (Kd.R (Kd.int .i64) 3 wc w.heap.size (fun _ => True) u7 x7_2) ∧ Aside0 (Kd.C (Kd.int .i64) wc (some ad629) (rd_L6 x5_1 (ji15)).length (rd_L6 x5_1 (ji15))) ∧ Aside0 (Below w.heap.size w wc))
       case first =>
        have H := HC25.out; clear HC25
        by_cases c27 : (bt a0 (ji15)) = (bt a1 (ji18))
        ·rw [if_pos c27] at H
         have c27b0 : ((bt a0 (ji15)) == (bt a1 (ji18))) = true := beq_iff_eq.mpr c27
         have c27b1 : ((bt a0 (ji15)) != (bt a1 (ji18))) = false := bne_eq_false_iff_eq.mpr c27
         clear c27
         (skip)
         have H' := am H
         clear H; go_wp2
         repeat (go_quiet (fail); try go_wp2)
         go_meet
         case rel => exact ⟨_, (rd (rd_L6 x5_1 (ji15)) (ji18)), (by rfl), H', ⟨b97_⟩, ⟨b52_⟩, ⟨rq HO_7.out⟩, ⟨b45_⟩, ⟨bel⟩⟩
        rw [if_neg c27] at H
        have c27b0 : ((bt a0 (ji15)) == (bt a1 (ji18))) = false := beq_eq_false_iff_ne.mpr c27
        have c27b1 : ((bt a0 (ji15)) != (bt a1 (ji18))) = true := bne_iff_ne.mpr c27
        (skip)
        have H' := am H
        clear H; go_wp2
        repeat (go_quiet (fail); try go_wp2)
        go_meet
        case rel => exact ⟨_, (wrap64 ((rd (rd_L6 x5_1 (ji15)) (ji18)) + 1)), (by rfl), H', ⟨b97_⟩, ⟨b52_⟩, ⟨rq HO_7.out⟩, ⟨b45_⟩, ⟨bel⟩⟩
       case rest =>
        clear HC25; clear c8b0 c9 c9b0 c9b1 c12 c12b0 c12b1 c16b0 c17b0 c19b0 c20b0 c21b0 p22 q22 hx22 c23b0 p24 q24 hx24 hx628_0 hx629_0 p628 p629 q628 q629; obtain ⟨kq, x9_24, rfl, HA, HJ24, HO_5, HO_7, HR628_0, HB⟩ := hcut
        cases kq with
        | zero => exact absurd HA.out (by simp [spec_l1Far.j2])
        | succ kj24 =>
         have H := HA.out; clear HA; simp only [spec_l1Far.j2] at H
         obtain ⟨ji28, hji28⟩ : ∃ j_ : Int, (wrap64 (x6_1 - 1)) = j_ := ⟨_, rfl⟩
         rw [hji28] at H
         have hji28w : (IntKind.i64.wrap (x6_1 - 1)) = ji28 := (i64_w _).trans hji28
         clear hji15w; replace H := it H; obtain ⟨c29b0, H⟩ := H; replace H := it H; obtain ⟨c30b0, H⟩ := H; replace H := it H; obtain ⟨c31b0, H⟩ := H
         replace H := it H; obtain ⟨c32b0, H⟩ := H; obtain ⟨ji33, hji33⟩ : ∃ j_ : Int, (wrap64 (x8_2 - 1)) = j_ := ⟨_, rfl⟩
         rw [hji33] at H
         have hji33w : (IntKind.i64.wrap (x8_2 - 1)) = ji33 := (i64_w _).trans hji33
         clear hji18w; replace H := it H; obtain ⟨c34b0, H⟩ := H
         replace H := it H; obtain ⟨c35b0, H⟩ := H; replace H := bs H; obtain ⟨t633, A360, H⟩ := H; have A36 := Aside0.mk A360; clear A360; replace H := bs H; obtain ⟨t634, A370, H⟩ := H; have A37 := Aside0.mk A370; clear A370; have HC38 := am H; clear H
         have p630 : 0 ≤ ((ji28) : Int) := of_decide_eq_true ad
         have q630 : (ji28) < (x5_1.length : Int) := of_decide_eq_true ad
         obtain ⟨ad630, A630_0, c630_0, e630, hx630_0, hl630_0, hi630_0⟩ := at_L6 (Kd.S_reads' HO_5.out).2.2 (ji28) p630 q630
         obtain rfl : ad628 = ad630 := (by injection e630)
         obtain ⟨ce630, hce630, hMe630, hcc630⟩ := Kd.S_get HO_5.out [] (ji28) p630 (by exact q630)
         obtain ⟨ve630_0, rfl, ge630_0⟩ := hMe630; have hv630_0 := hcc630 0 _ rfl; rw [Nat.add_zero, show ((Kd.slice 3 (Kd.int .i64))).sz = 1 from rfl, Nat.mul_one] at hv630_0; replace hv630_0 := Option.some.inj (hv630_0.symm.trans hx630_0); rw [hv630_0] at ge630_0; have HL630_0 := am (show Kd.R (Kd.int .i64) 3 _ _ _ _ (rd_L6 x5_1 (ji28)) from ge630_0); clear hv630_0 ge630_0; clear hcc630 hce630; have HR630_0 := am hi630_0; have HC630_0 := am hl630_0; clear hi630_0 hl630_0; replace p630 := eq_true p630; replace q630 := eq_true q630
         have p631 : 0 ≤ (x8_2 : Int) := of_decide_eq_true ad
         have q631 : x8_2 < ((rd_L6 x5_1 (ji28)).length : Int) := of_decide_eq_true ad
         obtain ⟨ad631, e631, hx631_0⟩ := Kd.at_int b62_ x8_2 p631 q631; cases e631; replace p631 := eq_true p631; replace q631 := eq_true q631; obtain ⟨Ao39, co39, eo39⟩ := Kd.R_slice HO_7.out; subst eo39
         have p632 : 0 ≤ ((ji33) : Int) := of_decide_eq_true ad
         have q632 : (ji33) < (x7_2.length : Int) := of_decide_eq_true ad
         obtain ⟨ad632, e632, hx632_0⟩ := Kd.at_int (Kd.R_reads' HO_7.out).2.2 (ji33) p632 q632; cases e632; replace p632 := eq_true p632; replace q632 := eq_true q632
         go_upto_region 13 with (fail)
         repeat (go_quiet (first | (go_at_call 69; (with_reducible refine (spec_l1Least.calls (wrap64 ((rd (rd_L6 x5_1 (ji28)) x8_2) + 1)) (wrap64 ((rd x7_2 (ji33)) + 1)) t633 _ A36.out).mono ?_); rintro e w' ⟨rfl, ⟨nd, rfl⟩⟩; exact ⟨rfl, _, World.drewN_drewN _ _ _⟩) | (go_at_call 69; (with_reducible refine (spec_l1Least.calls x9_24 t633 t634 _ A37.out).mono ?_); rintro e w' ⟨rfl, ⟨nd, rfl⟩⟩; exact ⟨rfl, _, World.drewN_drewN _ _ _⟩)); go_upto_region 13 with (fail))
         go_cut [89] (fun v89 wc => ∃ (kq : Nat) (x89_37 : Bool), v89 = .bool x89_37 ∧ Aside0 (spec_l1Far.j3 kq a0 a1 x5_1 x6_1 x7_2 x8_2 t634 x89_37 = some r) ∧ Aside0 (kq ≤ kj24) ∧ Aside0 (Kd.S (Kd.slice 3 (Kd.int .i64)) 54 wc w.heap.size (fun k_ => some k_ ≠ ((.slice (some ad632) x7_2.length co39) : Value).ownBlock) (.slice (some ad628) x5_1.length co26) x5_1) ∧ Aside0 (Kd.R (Kd.int .i64) 3 wc w.heap.size (fun _ => True) (.slice (some ad632) x7_2.length co39) x7_2) ∧ Aside0 (Kd.C (Kd.int .i64) wc (some ad629) (rd_L6 x5_1 (ji15)).length (rd_L6 x5_1 (ji15))) ∧ Aside0 (Kd.C (Kd.int .i64) wc (some ad631) (rd_L6 x5_1 (ji28)).length (rd_L6 x5_1 (ji28))) ∧ Aside0 (Below w.heap.size w wc))
         case first =>
          have H := HC38.out; clear HC38
          by_cases c40 : x6_1 > 1
          ·rw [if_pos c40] at H; have c40b0 := decide_eq_true c40; clear c40
           (skip)
           by_cases c41 : x8_2 > 1
           ·rw [if_pos c41] at H; have c41b0 := decide_eq_true c41; clear c41
            replace H := it H; obtain ⟨c42b0, H⟩ := H; obtain ⟨ji44, hji44⟩ : ∃ j_ : Int, (wrap64 (x8_2 - 2)) = j_ := ⟨_, rfl⟩
            rw [hji44] at H
            have hji44w : (IntKind.i64.wrap (x8_2 - 2)) = ji44 := (i64_w _).trans hji44
            replace H := it H; obtain ⟨c45b0, H⟩ := H; replace H := it H; obtain ⟨c46b0, H⟩ := H
            by_cases c48 : (bt a0 (ji28)) = (bt a1 (ji44))
            ·rw [if_pos c48] at H
             have c48b0 : ((bt a0 (ji28)) == (bt a1 (ji44))) = true := beq_iff_eq.mpr c48
             have c48b1 : ((bt a0 (ji28)) != (bt a1 (ji44))) = false := bne_eq_false_iff_eq.mpr c48
             clear c48; obtain ⟨ji49, hji49⟩ : ∃ j_ : Int, (wrap64 (x6_1 - 2)) = j_ := ⟨_, rfl⟩
             rw [hji49] at H
             have hji49w : (IntKind.i64.wrap (x6_1 - 2)) = ji49 := (i64_w _).trans hji49
             replace H := it H; obtain ⟨c50b0, H⟩ := H; replace H := it H; obtain ⟨c51b0, H⟩ := H; replace H := it H; obtain ⟨c53b0, H⟩ := H
             have H' := am H
             clear H
             have p43 : 0 ≤ ((ji28) : Int) := of_decide_eq_true ad
             have q43 : (ji28) < (a0.size : Int) := of_decide_eq_true ad
             have hx43 := bt_at a0 (ji28); replace p43 := eq_true p43; replace q43 := eq_true q43
             have p47 : 0 ≤ ((ji44) : Int) := of_decide_eq_true ad
             have q47 : (ji44) < (a1.size : Int) := of_decide_eq_true ad
             have hx47 := bt_at a1 (ji44); replace p47 := eq_true p47; replace q47 := eq_true q47
             have p52 : 0 ≤ ((ji49) : Int) := of_decide_eq_true ad
             have q52 : (ji49) < (a0.size : Int) := of_decide_eq_true ad
             have hx52 := bt_at a0 (ji49); replace p52 := eq_true p52; replace q52 := eq_true q52
             have p54 : 0 ≤ ((ji33) : Int) := of_decide_eq_true ad
             have q54 : (ji33) < (a1.size : Int) := of_decide_eq_true ad
             have hx54 := bt_at a1 (ji33); replace p54 := eq_true p54; replace q54 := eq_true q54; go_wp2
             repeat (go_quiet (fail); try go_wp2)
             go_meet
             case rel => exact ⟨_, (((bt a0 (ji49)) == (bt a1 (ji33)))), (by rfl), H', ⟨b96_⟩, ⟨b52_⟩, ⟨rq HO_7.out⟩, ⟨b45_⟩, ⟨b62_⟩, ⟨bel⟩⟩
            rw [if_neg c48] at H
            have c48b0 : ((bt a0 (ji28)) == (bt a1 (ji44))) = false := beq_eq_false_iff_ne.mpr c48
            have c48b1 : ((bt a0 (ji28)) != (bt a1 (ji44))) = true := bne_iff_ne.mpr c48
            have H' := am H
            clear H
            have p43 : 0 ≤ ((ji28) : Int) := of_decide_eq_true ad
            have q43 : (ji28) < (a0.size : Int) := of_decide_eq_true ad
            have hx43 := bt_at a0 (ji28); replace p43 := eq_true p43; replace q43 := eq_true q43
            have p47 : 0 ≤ ((ji44) : Int) := of_decide_eq_true ad
            have q47 : (ji44) < (a1.size : Int) := of_decide_eq_true ad
            have hx47 := bt_at a1 (ji44); replace p47 := eq_true p47; replace q47 := eq_true q47; go_wp2
            repeat (go_quiet (fail); try go_wp2)
            go_meet
            case rel => exact ⟨_, (false), sq, H', ⟨b96_⟩, ⟨b52_⟩, ⟨rq HO_7.out⟩, ⟨b45_⟩, ⟨b62_⟩, ⟨bel⟩⟩
           rw [if_neg c41] at H; have c41b0 := decide_eq_false c41; clear c41
           have H' := am H
           clear H; go_wp2
           repeat (go_quiet (fail); try go_wp2)
           go_meet
           case rel => exact ⟨_, (false), sq, H', ⟨b96_⟩, ⟨b52_⟩, ⟨rq HO_7.out⟩, ⟨b45_⟩, ⟨b62_⟩, ⟨bel⟩⟩
          rw [if_neg c40] at H; have c40b0 := decide_eq_false c40; clear c40
          (skip)
          have H' := am H
          clear H; go_wp2
          repeat (go_quiet (fail); try go_wp2)
          go_meet
          case rel => exact ⟨_, (false), sq, H', ⟨b96_⟩, ⟨b52_⟩, ⟨rq HO_7.out⟩, ⟨b45_⟩, ⟨b62_⟩, ⟨bel⟩⟩
         case rest =>
          clear HC38; clear c29b0 c30b0 c31b0 c32b0 c34b0 c35b0 hx630_0 hx631_0 hx632_0 p630 p631 p632 q630 q631 q632; obtain ⟨kq, x89_37, rfl, HA, HJ37, HO_5, HO_7, HR628_0, HR630_0, HB⟩ := hcut
          cases kq with
          | zero => exact absurd HA.out (by simp [spec_l1Far.j3])
          | succ kj37 =>
           have H := HA.out; clear HA; simp only [spec_l1Far.j3] at H
           by_cases c55 : x89_37 = true
           ·subst c55
            have H1 : (if 0 ≤ (wrap64 (x6_1 - 2)) then (if (wrap64 (x6_1 - 2)) < (x5_1.length : Int) then (if 0 ≤ (wrap64 (x8_2 - 2)) then (if (wrap64 (x8_2 - 2)) < ((rd_L6 x5_1 (wrap64 (x6_1 - 2))).length : Int) then ((spec_l1Least.f t634 (wrap64 ((rd (rd_L6 x5_1 (wrap64 (x6_1 - 2))) (wrap64 (x8_2 - 2))) + 1))).bind fun t637 => (if x7_2.length < 17592186044416 then (spec_l1Far.l1 kj37 a0 a1 x5_1 x6_1 (x7_2 ++ [t637]) (wrap64 (x8_2 + 1))) else (none))) else (none)) else (none)) else (none)) else (none)) = some r := b26_
            replace H := H1; clear H1
            obtain ⟨ji56, hji56⟩ : ∃ j_ : Int, (wrap64 (x6_1 - 2)) = j_ := ⟨_, rfl⟩
            rw [hji56] at H
            have hji56w : (IntKind.i64.wrap (x6_1 - 2)) = ji56 := (i64_w _).trans hji56
            replace H := it H; obtain ⟨c57b0, H⟩ := H
            replace H := it H; obtain ⟨c58b0, H⟩ := H; obtain ⟨ji59, hji59⟩ : ∃ j_ : Int, (wrap64 (x8_2 - 2)) = j_ := ⟨_, rfl⟩
            rw [hji59] at H
            have hji59w : (IntKind.i64.wrap (x8_2 - 2)) = ji59 := (i64_w _).trans hji59
            replace H := it H; obtain ⟨c60b0, H⟩ := H
            replace H := it H; obtain ⟨c61b0, H⟩ := H; replace H := bs H; obtain ⟨t637, A620, H⟩ := H; have A62 := Aside0.mk A620; clear A620
            replace H := ip H; obtain ⟨c63, H⟩ := H; have LMc63 := Aside0.mk c63; clear c63; obtain ⟨y638, hy638⟩ : ∃ y_ : List Int, y_ = (x7_2 ++ [t637]) := ⟨_, rfl⟩
            rw [← hy638] at H
            have Ny638 := am hy638; clear hy638
            have H' := am H
            clear H
            have p635 : 0 ≤ ((ji56) : Int) := of_decide_eq_true ad
            have q635 : (ji56) < (x5_1.length : Int) := of_decide_eq_true ad
            obtain ⟨ad635, A635_0, c635_0, e635, hx635_0, hl635_0, hi635_0⟩ := at_L6 (Kd.S_reads' HO_5.out).2.2 (ji56) p635 q635
            obtain rfl : ad628 = ad635 := (by injection e635)
            obtain ⟨ce635, hce635, hMe635, hcc635⟩ := Kd.S_get HO_5.out [] (ji56) p635 (by exact q635)
            obtain ⟨ve635_0, rfl, ge635_0⟩ := hMe635; have hv635_0 := hcc635 0 _ rfl; rw [Nat.add_zero, show ((Kd.slice 3 (Kd.int .i64))).sz = 1 from rfl, Nat.mul_one] at hv635_0; replace hv635_0 := Option.some.inj (hv635_0.symm.trans hx635_0); rw [hv635_0] at ge635_0; have HL635_0 := am (show Kd.R (Kd.int .i64) 3 _ _ _ _ (rd_L6 x5_1 (ji56)) from ge635_0); clear hv635_0 ge635_0; clear hcc635 hce635; have HR635_0 := am hi635_0; have HC635_0 := am hl635_0; clear hi635_0 hl635_0; replace p635 := eq_true p635; replace q635 := eq_true q635
            have p636 : 0 ≤ ((ji59) : Int) := of_decide_eq_true ad
            have q636 : (ji59) < ((rd_L6 x5_1 (ji56)).length : Int) := of_decide_eq_true ad
            obtain ⟨ad636, e636, hx636_0⟩ := Kd.at_int (by repeat (with_reducible exact HR635_0.out)) (ji59) p636 q636
            cases e636; replace p636 := eq_true p636; replace q636 := eq_true q636
            go_wp2_with (first | (go_at_call 69; (with_reducible refine (spec_l1Least.calls t634 (wrap64 ((rd (rd_L6 x5_1 (ji56)) (ji59)) + 1)) t637 _ A62.out).mono ?_); rintro e w' ⟨rfl, ⟨nd, rfl⟩⟩) | ((with_reducible refine gate_builtin (b := .append) (xs := #[.tmp 102, .tmp 104]) rfl ?_); at_builtin; refine Kd.R_append (Kd.int .i64) (w0 := w) w.heap.size rfl (.tmp 102) (.tmp 104) 54 3 (.int .i64 0) 8 rfl Tryz.underlying54 info3 rfl (by decide) (by omega) (.slice (some ad632) x7_2.length co39) x7_2 t637 [.int .i64 t637] (fun _ => True) (fun _ => False) rfl rfl ?aP (fun _ hk => hk.elim) ?aF ?aO ?aB ?aS ?aL ?_; (case aP => exact rfl); (case aB => exact bel); (case aF => exact (fun _ _ => trivial)); (case aO => exact (rq HO_7.out)); (case aS => exact (below_size bel)); (case aL => have := LMc63.out; omega); intro v639 w64 ho hb hg hat; rw [← Ny638.out] at ho; replace HO_5 := am (Kd.S_after (ok := (fun _ => True)) b36_ hg hat); replace HL635_0 := am (Kd.R_after (ok := (fun k_ => some k_ ≠ (.slice (some ad628) x5_1.length co26 : Value).ownBlock)) (rq (Kd.R_mono HL635_0.out (fun _ hk => ⟨hk.2, hk.1⟩))) hg hat); replace HB := am (hb); have HO640 := am (ho); clear HO_7; clear ho hb hg hat))
            repeat (go_quiet (fail); try go_wp2)
            go_roundg kj37
            case measure => have := HK1.out; have := HK2.out; have := HJ24.out; have := HJ37.out; omega
            case rel => exact ⟨(y638), (wrap64 (x8_2 + 1)), sq, H', ⟨by have := HK1.out; have := HK2.out; have := HJ24.out; have := HJ37.out; omega⟩, ⟨b74_⟩, ⟨rq HO640.out⟩, ⟨bel⟩⟩
           replace c55 := Bool.eq_false_iff.mpr c55; subst c55
           have H1 : (if x7_2.length < 17592186044416 then (spec_l1Far.l1 kj37 a0 a1 x5_1 x6_1 (x7_2 ++ [t634]) (wrap64 (x8_2 + 1))) else (none)) = some r := b10_
           replace H := H1; clear H1
           replace H := ip H; obtain ⟨c65, H⟩ := H; have LMc65 := Aside0.mk c65; clear c65; obtain ⟨y641, hy641⟩ : ∃ y_ : List Int, y_ = (x7_2 ++ [t634]) := ⟨_, rfl⟩
           rw [← hy641] at H
           have Ny641 := am hy641; clear hy641
           have H' := am H
           clear H
           go_wp2_with ((with_reducible refine gate_builtin (b := .append) (xs := #[.tmp 102, .tmp 104]) rfl ?_); at_builtin; refine Kd.R_append (Kd.int .i64) (w0 := w) w.heap.size rfl (.tmp 102) (.tmp 104) 54 3 (.int .i64 0) 8 rfl Tryz.underlying54 info3 rfl (by decide) (by omega) (.slice (some ad632) x7_2.length co39) x7_2 t634 [.int .i64 t634] (fun _ => True) (fun _ => False) rfl rfl ?aP (fun _ hk => hk.elim) ?aF ?aO ?aB ?aS ?aL ?_; (case aP => exact rfl); (case aB => exact bel); (case aF => exact (fun _ _ => trivial)); (case aO => exact (rq HO_7.out)); (case aS => exact (below_size bel)); (case aL => have := LMc65.out; omega); intro v642 w66 ho hb hg hat; rw [← Ny641.out] at ho; replace HO_5 := am (Kd.S_after (ok := (fun _ => True)) b36_ hg hat); replace HB := am (hb); have HO643 := am (ho); clear HO_7; clear ho hb hg hat)
           repeat (go_quiet (fail); try go_wp2)
           go_roundg kj37
           case measure => have := HK1.out; have := HK2.out; have := HJ24.out; have := HJ37.out; omega
           case rel => exact ⟨(y641), (wrap64 (x8_2 + 1)), sq, H', ⟨by have := HK1.out; have := HK2.out; have := HJ24.out; have := HJ37.out; omega⟩, ⟨b74_⟩, ⟨rq HO643.out⟩, ⟨bel⟩⟩
      rw [if_neg c8] at H; have c8b0 := decide_eq_false c8; clear c8
      replace H := ip H; obtain ⟨c67, H⟩ := H; have LMc67 := Aside0.mk c67; clear c67; obtain ⟨y619, hy619⟩ : ∃ y_ : List (List Int), y_ = (x5_1 ++ [x7_2]) := ⟨_, rfl⟩
      rw [← hy619] at H
      have Ny619 := am hy619; clear hy619
      have H' := am H
      clear H; obtain ⟨Ao69, co69, eo69⟩ := Kd.R_slice HO_7.out; subst eo69
      go_wp2_with ((with_reducible refine gate_builtin (b := .append) (xs := #[.tmp 120, .tmp 122]) rfl ?_); at_builtin; refine Kd.S_append (Kd.slice 3 (Kd.int .i64)) (w0 := w) w.heap.size rfl (.tmp 120) (.tmp 122) 53 54 (.slice none 0 0) 24 rfl Tryz.underlying53 info54 rfl (by decide) (by omega) u5 x5_1 x7_2 [.slice Ao69 x7_2.length co69] (fun _ => True) (fun k_ => some k_ = (.slice Ao69 x7_2.length co69 : Value).ownBlock) rfl rfl ?aP (fun k_ hk_ => ((Kd.R_mono (ok' := fun k_ => ((fun _ => True)) k_ ∧ some k_ ≠ (u5 : Value).ownBlock) (Kd.R_apart' (HO_7.out) (Kd.S_typed HO_5.out) (by decide)) (fun k_ hk => ⟨trivial, hk.2⟩))).1 k_ hk_.symm) ?aF ?aO ?aB ?aS ?aL ?_; (case aP => exact Kd.M_row (Kd.R_mono (Kd.R_tight rfl (Kd.R_mono (ok' := fun k_ => ((fun _ => True)) k_ ∧ some k_ ≠ (u5 : Value).ownBlock) (Kd.R_apart' (HO_7.out) (Kd.S_typed HO_5.out) (by decide)) (fun k_ hk => ⟨trivial, hk.2⟩))) (fun _ h_ => h_))); (case aB => exact bel); (case aF => exact (fun _ _ => trivial)); (case aO => exact b43_); (case aS => exact (below_size bel)); (case aL => have := LMc67.out; omega); intro v620 w68 ho hb hg hat; rw [← Ny619.out] at ho; replace HB := am (hb); have HO621 := am (ho); clear HO_5 HO_7; clear ho hb hg hat)
      repeat (go_quiet (fail); try go_wp2)
      go_roundg k2
      case measure => have := HK1.out; have := HK2.out; omega
      case rel => exact ⟨(y619), (wrap64 (x6_1 + 1)), sq, H', ⟨b78_⟩, ⟨by (with_reducible repeat (fail)); exact HO621.out⟩, ⟨bel⟩⟩
   rw [if_neg c5] at H; have c5b0 := decide_eq_false c5; clear c5; replace H := ip H; obtain ⟨c70, H⟩ := H; have c70b0 := decide_eq_true c70
   have c70b1 : decide (0 ≤ a0.size) = true := decide_eq_true (by omega)
   clear c70; replace H := ip H; obtain ⟨c71, H⟩ := H; have c71b0 := decide_eq_true c71
   have c71b1 : decide (a0.size < x5_1.length) = true := decide_eq_true (Int.ofNat_lt.mp c71)
   clear c71; replace H := ip H; obtain ⟨c72, H⟩ := H; have c72b0 := decide_eq_true c72
   have c72b1 : decide (0 ≤ a1.size) = true := decide_eq_true (by omega)
   clear c72; replace H := ip H; obtain ⟨c73, H⟩ := H; have c73b0 := decide_eq_true c73
   have c73b1 : decide (a1.size < (rd_L6 x5_1 (a0.size : Int)).length) = true := decide_eq_true (Int.ofNat_lt.mp c73)
   clear c73; obtain rfl := Option.some.inj H; obtain ⟨Ao74, co74, eo74⟩ := Kd.S_slice HO_5.out; subst eo74
   have p614 : 0 ≤ ((a0.size : Int) : Int) := of_decide_eq_true ad
   have q614 : (a0.size : Int) < (x5_1.length : Int) := of_decide_eq_true ad
   obtain ⟨ad614, A614_0, c614_0, e614, hx614_0, hl614_0, hi614_0⟩ := at_L6 (Kd.S_reads' HO_5.out).2.2 (a0.size : Int) p614 q614; cases e614
   obtain ⟨ce614, hce614, hMe614, hcc614⟩ := Kd.S_get HO_5.out [] (a0.size : Int) p614 (by exact q614)
   obtain ⟨ve614_0, rfl, ge614_0⟩ := hMe614; have hv614_0 := hcc614 0 _ rfl; rw [Nat.add_zero, show ((Kd.slice 3 (Kd.int .i64))).sz = 1 from rfl, Nat.mul_one] at hv614_0; replace hv614_0 := Option.some.inj (hv614_0.symm.trans hx614_0); rw [hv614_0] at ge614_0; have HL614_0 := am (show Kd.R (Kd.int .i64) 3 _ _ _ _ (rd_L6 x5_1 (a0.size : Int)) from ge614_0); clear hv614_0 ge614_0; clear hcc614 hce614; have HR614_0 := am hi614_0; have HC614_0 := am hl614_0; clear hi614_0 hl614_0; replace p614 := eq_true p614; replace q614 := eq_true q614
   (have qn614 : (a0.size < x5_1.length) = True := eq_true (by have h_ := of_eq_true q614; omega))
   simp only [Int.toNat_natCast] at hx614_0
   have p615 : 0 ≤ ((a1.size : Int) : Int) := of_decide_eq_true ad
   have q615 : (a1.size : Int) < ((rd_L6 x5_1 (a0.size : Int)).length : Int) := of_decide_eq_true ad
   obtain ⟨ad615, e615, hx615_0⟩ := Kd.at_int (by repeat (with_reducible exact HR614_0.out)) (a1.size : Int) p615 q615
   cases e615; replace p615 := eq_true p615; replace q615 := eq_true q615
   (have qn615 : (a1.size < (rd_L6 x5_1 (a0.size : Int)).length) = True := eq_true (by have h_ := of_eq_true q615; omega))
   simp only [Int.toNat_natCast] at hx615_0
   go_wp2
   repeat (go_quiet (fail); try go_wp2)
   go_ret
   exact ⟨eq_, bel⟩
-- shrunk

/-! ### spec_l4Put: function 47 -/
mutual
def spec_l4Put.l0 : Nat → List (S38) → Int → ByteArray → Int → Option ((List (S38)))
 | 0, _, _, _, _ => none
 | k + 1, x0, x5, x645000, x645001 => if x5 < (x0.length : Int) then (if 0 ≤ x5 then (if ((rd_T38 x0 x5).f1) < x645001 then (spec_l4Put.j1 k x0 x5 true x645000 x645001) else (if ((rd_T38 x0 x5).f1) = x645001 then (spec_l4Put.j1 k x0 x5 (Op.bytesLess (((rd_T38 x0 x5).f0).toList) x645000.toList) x645000 x645001) else (spec_l4Put.j1 k x0 x5 false x645000 x645001))) else (none)) else (spec_l4Put.j1 k x0 x5 false x645000 x645001)
def spec_l4Put.j1 : Nat → List (S38) → Int → Bool → ByteArray → Int → Option ((List (S38)))
 | 0, _, _, _, _, _ => none
 | k + 1, x0, x5, x39, x645000, x645001 => if x39 = true then (spec_l4Put.l0 k x0 (wrap64 (x5 + 1)) x645000 x645001) else ((some (([] : List (S38)) : List (S38))).bind fun y648 => (if 0 ≤ x5 then (if x5 ≤ (x0.length : Int) then ((some (x0.take (x5 : Int).toNat : List (S38))).bind fun y651 => (if y648.length + y651.length < 5864062014805 then ((some (y648 ++ y651 : List (S38))).bind fun y655 => ((some (([(⟨x645000, x645001⟩ : S38)] : List (S38)) : List (S38))).bind fun y658 => (if y655.length + y658.length < 5864062014805 then ((some (y655 ++ y658 : List (S38))).bind fun y661 => ((some (x0.drop (x5 : Int).toNat : List (S38))).bind fun y664 => (if y661.length + y664.length < 5864062014805 then (some (y661 ++ y664)) else (none)))) else (none)))) else (none))) else (none)) else (none)))
end
def spec_l4Put.f (k : Nat) (l0 : List (S38)) (a1_0 : ByteArray) (a1_1 : Int) : Option ((List (S38))) := spec_l4Put.l0 k l0 0 a1_0 a1_1
def spec_l4Put.T2 : Bool × List (List Nat × List Nat) := (true, [([], []), ([], []), ([1], [1]), ([0, 2], [0, 2]), ([3], [3]), ([4], [4]), ([4], [4]), ([5, 6, 4], [4, 5, 6]), ([7, 4], [4, 7]), ([8, 4], [4, 8]), ([4], [4]), ([10, 4], [4, 10]), ([9, 11, 4], [4, 9, 11]), ([12, 4, 4], [4, 12]), ([13], [13]), ([13], [13]), ([14, 15, 13], [13, 14, 15]), ([16, 13], [13, 16]), ([17, 13], [13, 17]), ([13], [13]), ([19, 13], [13, 19]), ([18, 20, 13], [13, 18, 20]), ([21, 13, 13], [13, 21]), ([22], [22]), ([22], [22]), ([23, 24, 22], [22, 23, 24]), ([25, 22], [22, 25]), ([26, 22], [22, 26]), ([22], [22]), ([28, 22], [22, 28]), ([27, 29, 22], [22, 27, 29]), ([22, 30, 13], [13, 22, 30]), ([13, 31, 4], [4, 13, 31]), ([4, 32], [4, 32])])
def spec_l4Put.B2 : List Nat := [0, 0, 2, 7, 15, 31, 31, 127, 255, 511, 31, 1055, 4095, 8191, 16383, 16383, 65535, 131071, 262143, 16383, 540671, 2097151, 4194303, 8388607, 8388607, 33554431, 67108863, 134217727, 8388607, 276824063, 1073741823, 2147483647, 4294967295, 8589934591]
theorem spec_l4Put.tab2 : rtab .any (opsOf Tryz.f47 2) = spec_l4Put.T2 := by kernel_rfl
theorem spec_l4Put.bits2 : waitsOk spec_l4Put.T2.2 spec_l4Put.B2 = true := by kernel_rfl
def spec_l4Put.T4 : Bool × List (List Nat × List Nat) := (true, [([], []), ([], []), ([], []), ([1, 2], [1, 2]), ([0, 3], [0, 3]), ([], []), ([5], [5]), ([4, 6, 4], [4, 6]), ([], []), ([], []), ([8, 9], [8, 9]), ([7, 10, 7], [7, 10]), ([11, 11, 0, 1, 2, 3, 4, 5, 6, 7, 8, 9, 10, 11], [11])])
def spec_l4Put.B4 : List Nat := [0, 0, 0, 6, 15, 0, 32, 127, 0, 0, 768, 2047, 4095]
theorem spec_l4Put.tab4 : rtab .any (opsOf Tryz.f47 4) = spec_l4Put.T4 := by kernel_rfl
theorem spec_l4Put.bits4 : waitsOk spec_l4Put.T4.2 spec_l4Put.B4 = true := by kernel_rfl
theorem spec_l4Put.calls (k : Nat) (A0 : Option Addr) (c0 : Nat) (l0 : List (S38)) (a1_0 : ByteArray) (a1_1 : Int) (r : List (S38)) (w : World) (hr0 : Kd.C k38 w A0 l0.length l0) (hc0 : l0.length ≤ c0) (h : spec_l4Put.f k l0 a1_0 a1_1 = some r) :
  Calls Tryz.prog 47 #[.slice A0 l0.length c0, .agg #[.string a1_0, .int .i64 a1_1]] w fun e w' => ∃ v0_ : Value, e = .returned (v0_) ∧ Kd.R k38 38 w' w.heap.size (fun _ => True) v0_ r ∧ Below w.heap.size w w' := by
 have hu38 := Tryz.underlying38; have HR0 := am hr0; have HC0 := am hc0; clear hr0 hc0; have HB := am (Below.refl w.heap.size w)
 have H := h; unfold spec_l4Put.f at H
 clear h
 have H' := am H
 clear H; go_enter Tryz.func47, Tryz.ntmps47
 go_wp2_with ((with_reducible refine gate_dst (N := 3) rfl ?_); refine bx 3 (cs := #[.string a1_0, .int .i64 a1_1]) (t := 38) ?_; intro gb644 hg w3 hbox hb; have BK644 := am (hbox); have GW644 := am ((b15_ : w.heap.size ≤ gb644)); have GE644 := am ((b15_ : w.heap.size ≤ gb644)); replace HB := am (below_step bel hb); clear hb hbox hg)
 go_loopg [5] k (fun kq v5 w' => ∃ (x5_1 : Int), v5 = .int .i64 x5_1 ∧ Aside0 (spec_l4Put.l0 kq l0 x5_1 a1_0 a1_1 = some r) ∧ Aside0 (kq ≤ k) ∧ Aside0 (w'.heap[gb644]? = some (.cells #[.string a1_0, .int .i64 a1_1] 38 (0, 0))) ∧ Aside0 (Below w.heap.size w w'))
 case atStart => exact ⟨(0), sq, H', ⟨Nat.le_refl _⟩, ⟨bq BK644.out⟩, ⟨bel1 GE644.out⟩⟩
 case round =>
  clear H'; obtain ⟨x5_1, rfl, HA, HK1, BK644, HB⟩ := hrel
  cases gk with
  | zero => exact absurd HA.out (by simp [spec_l4Put.l0])
  | succ k1 =>
   have H := HA.out; clear HA; simp only [spec_l4Put.l0] at H; have HC4 := am H; clear H
   go_upto_region 2 with (fail)
   go_cut [39] (fun v39 wc => ∃ (kq : Nat) (x39_3 : Bool), v39 = .bool x39_3 ∧ Aside0 (spec_l4Put.j1 kq l0 x5_1 x39_3 a1_0 a1_1 = some r) ∧ Aside0 (kq ≤ k1) ∧ Aside0 (wc.heap[gb644]? = some (.cells #[.string a1_0, .int .i64 a1_1] 38 (0, 0))) ∧ Aside0 (Below w.heap.size w wc))
   case first =>
    have H := HC4.out; clear HC4
    by_cases c5 : x5_1 < (l0.length : Int)
    ·rw [if_pos c5] at H; have c5b0 := decide_eq_true c5; clear c5
     (skip)
     replace H := it H; obtain ⟨c6b0, H⟩ := H
     by_cases c7 : ((rd_T38 l0 x5_1).f1) < a1_1
     ·rw [if_pos c7] at H; have c7b0 := decide_eq_true c7; clear c7
      have H' := am H
      clear H
      try go_wp2
      replace BK644 := am (blk_drew BK644.out); replace HB := am (below_drew1 HB.out)
      have p645 : 0 ≤ (x5_1 : Int) := of_decide_eq_true ad
      have q645 : x5_1 < (l0.length : Int) := of_decide_eq_true ad
      obtain ⟨ad645, e645, hx645_0, hx645_1⟩ := at_T38 HR0.out x5_1 p645 q645; have hw645_1 := hx645_1; have hw645_0 := hx645_0; cases e645; replace hx645_0 := kp HB.out hx645_0; replace hx645_1 := kp HB.out hx645_1; replace p645 := eq_true p645; replace q645 := eq_true q645
      refine st (n := 34) (S := fun w' => w'.cell? ⟨gb644, 0, none⟩ = some (.string a1_0) ∧ w'.cell? ⟨gb644, 1, none⟩ = some (.int .i64 a1_1) ∧ w'.cell? (ad645.add ((x5_1).toNat * 2)) = some (.string ((rd_T38 l0 x5_1).f0)) ∧ w'.cell? ⟨(ad645.add ((x5_1).toNat * 2)).block, (ad645.add ((x5_1).toNat * 2)).off + 1, none⟩ = some (.int .i64 ((rd_T38 l0 x5_1).f1))) (ds := []) ⟨bd BK644.out 0, bd BK644.out 1, (kp HB.out hw645_0), (kp HB.out hw645_1)⟩ (fun hHeld => ?_); refine with_tabW spec_l4Put.tab2 spec_l4Put.bits2 (fun HT_ HW_ => ?_)
      generalize wr.drew = w8 at BK644 HB hx645_0 hx645_1 hHeld ⊢; refine pu 0 6 ?_; refine pu 1 7 ?_; refine pu 2 8 ?_; refine pu 3 9 ?_; refine pu 4 10 ?_; refine pu 5 11 ?_; refine pu 6 12 ?_; refine pu 7 13 ?_; refine pu 8 14 ?_; refine pu 10 16 ?_; refine tk4 9 15 hHeld ?_; refine tk4 11 17 hHeld ?_; refine pu 12 18 ?_; refine pu 13 19 ?_; refine puu 14 20 ?_; refine puu 15 21 ?_; refine puu 16 22 ?_; refine puu 17 23 ?_; refine puu 18 24 ?_; refine puu 19 25 ?_; refine puu 20 26 ?_; refine puu 21 27 ?_; refine puu 22 28 ?_; refine puu 23 29 ?_; refine puu 24 30 ?_; refine puu 25 31 ?_; refine puu 26 32 ?_; refine puu 27 33 ?_; refine puu 28 34 ?_; refine puu 29 35 ?_; refine puu 30 36 ?_; refine puu 31 37 ?_; refine pu 32 38 ?_; refine pu 33 39 ?_
      refine done_ (done_of HT_.out (by kernel_rfl)) ?_
      try go_wp2
      go_meet
      case rel => exact ⟨_, (true), sq, H', ⟨b86_⟩, ⟨bq BK644.out⟩, ⟨bel1 GE644.out⟩⟩
     rw [if_neg c7] at H; have c7b0 := decide_eq_false c7; clear c7
     by_cases c9 : ((rd_T38 l0 x5_1).f1) = a1_1
     ·rw [if_pos c9] at H
      have c9b0 : (((rd_T38 l0 x5_1).f1) == a1_1) = true := beq_iff_eq.mpr c9
      have c9b1 : (((rd_T38 l0 x5_1).f1) != a1_1) = false := bne_eq_false_iff_eq.mpr c9
      clear c9
      have H' := am H
      clear H
      try go_wp2
      replace BK644 := am (blk_drew BK644.out); replace HB := am (below_drew1 HB.out)
      have p645 : 0 ≤ (x5_1 : Int) := of_decide_eq_true ad
      have q645 : x5_1 < (l0.length : Int) := of_decide_eq_true ad
      obtain ⟨ad645, e645, hx645_0, hx645_1⟩ := at_T38 HR0.out x5_1 p645 q645; have hw645_1 := hx645_1; have hw645_0 := hx645_0; cases e645; replace hx645_0 := kp HB.out hx645_0; replace hx645_1 := kp HB.out hx645_1; replace p645 := eq_true p645; replace q645 := eq_true q645
      have p646 : 0 ≤ (x5_1 : Int) := of_decide_eq_true ad
      have q646 : x5_1 < (l0.length : Int) := of_decide_eq_true ad
      obtain ⟨ad646, e646, hx646_0, hx646_1⟩ := at_T38 HR0.out x5_1 p646 q646; have hw646_1 := hx646_1; have hw646_0 := hx646_0
      obtain rfl : ad645 = ad646 := (by injection e646)
      replace hx646_0 := kp HB.out hx646_0; replace hx646_1 := kp HB.out hx646_1; replace p646 := eq_true p646; replace q646 := eq_true q646
      have p647 : 0 ≤ (x5_1 : Int) := of_decide_eq_true ad
      have q647 : x5_1 < (l0.length : Int) := of_decide_eq_true ad
      obtain ⟨ad647, e647, hx647_0, hx647_1⟩ := at_T38 HR0.out x5_1 p647 q647; have hw647_1 := hx647_1; have hw647_0 := hx647_0
      obtain rfl : ad645 = ad647 := (by injection e647)
      replace hx647_0 := kp HB.out hx647_0; replace hx647_1 := kp HB.out hx647_1; replace p647 := eq_true p647; replace q647 := eq_true q647
      refine st (n := 34) (S := fun w' => w'.cell? ⟨gb644, 0, none⟩ = some (.string a1_0) ∧ w'.cell? ⟨gb644, 1, none⟩ = some (.int .i64 a1_1) ∧ w'.cell? (ad645.add ((x5_1).toNat * 2)) = some (.string ((rd_T38 l0 x5_1).f0)) ∧ w'.cell? ⟨(ad645.add ((x5_1).toNat * 2)).block, (ad645.add ((x5_1).toNat * 2)).off + 1, none⟩ = some (.int .i64 ((rd_T38 l0 x5_1).f1)) ∧ w'.cell? (ad645.add ((x5_1).toNat * 2)) = some (.string ((rd_T38 l0 x5_1).f0)) ∧ w'.cell? ⟨(ad645.add ((x5_1).toNat * 2)).block, (ad645.add ((x5_1).toNat * 2)).off + 1, none⟩ = some (.int .i64 ((rd_T38 l0 x5_1).f1)) ∧ w'.cell? (ad645.add ((x5_1).toNat * 2)) = some (.string ((rd_T38 l0 x5_1).f0)) ∧ w'.cell? ⟨(ad645.add ((x5_1).toNat * 2)).block, (ad645.add ((x5_1).toNat * 2)).off + 1, none⟩ = some (.int .i64 ((rd_T38 l0 x5_1).f1))) (ds := []) ⟨bd BK644.out 0, bd BK644.out 1, (kp HB.out hw645_0), (kp HB.out hw645_1), (kp HB.out hw646_0), (kp HB.out hw646_1), (kp HB.out hw647_0), (kp HB.out hw647_1)⟩ (fun hHeld => ?_); refine with_tabW spec_l4Put.tab2 spec_l4Put.bits2 (fun HT_ HW_ => ?_)
      generalize wr.drew = w10 at BK644 HB hx645_0 hx645_1 hx646_0 hx646_1 hx647_0 hx647_1 hHeld ⊢; refine pu 0 6 ?_; refine pu 1 7 ?_; refine pu 2 8 ?_; refine pu 3 9 ?_; refine pu 4 10 ?_; refine pu 5 11 ?_; refine pu 6 12 ?_; refine pu 7 13 ?_; refine pu 8 14 ?_; refine pu 10 16 ?_
      refine take_ (i := 9) (N := some 15) (v := ?_) (a' := ?_) #[true, true, true, true, true, true, true, true, true, true, true, false, false, false, false, false, false, false, false, false, false, false, false, false, false, false, false, false, false, false, false, false, false, false] rfl rfl (take_ofW HT_.out HW_.out (by kernel_rfl)) (fun _ _ _ h => h) (Or.inl ⟨by rfl, ?_⟩) hHeld ?_ ?_
      rotate_left
      ·rintro w' ⟨s0, s1, s2, s3, s4, s5, s6, s7⟩
       go_simp
       with_reducible rfl
      rotate_left
      ·simp only [Act.put, List.setIfInBounds_toArray, List.set_cons_zero, List.set_cons_succ, i64_w, i32_w]
       rfl
      refine take_ (i := 11) (N := some 17) (v := ?_) (a' := ?_) #[true, true, true, true, true, true, true, true, true, true, true, true, false, false, false, false, false, false, false, false, false, false, false, false, false, false, false, false, false, false, false, false, false, false] rfl rfl (take_ofW HT_.out HW_.out (by kernel_rfl)) (fun _ _ _ h => h) (Or.inl ⟨by rfl, ?_⟩) hHeld ?_ ?_
      rotate_left
      ·rintro w' ⟨s0, s1, s2, s3, s4, s5, s6, s7⟩
       go_simp
       with_reducible rfl
      rotate_left
      ·simp only [Act.put, List.setIfInBounds_toArray, List.set_cons_zero, List.set_cons_succ, i64_w, i32_w]
       rfl
      refine pu 12 18 ?_; refine pu 13 19 ?_; refine pu 14 20 ?_; refine pu 15 21 ?_; refine pu 16 22 ?_; refine pu 17 23 ?_; refine pu 19 25 ?_
      refine take_ (i := 18) (N := some 24) (v := ?_) (a' := ?_) #[true, true, true, true, true, true, true, true, true, true, true, true, true, true, true, true, true, true, true, true, false, false, false, false, false, false, false, false, false, false, false, false, false, false] rfl rfl (take_ofW HT_.out HW_.out (by kernel_rfl)) (fun _ _ _ h => h) (Or.inl ⟨by rfl, ?_⟩) hHeld ?_ ?_
      rotate_left
      ·rintro w' ⟨s0, s1, s2, s3, s4, s5, s6, s7⟩
       go_simp
       with_reducible rfl
      rotate_left
      ·simp only [Act.put, List.setIfInBounds_toArray, List.set_cons_zero, List.set_cons_succ, i64_w, i32_w]
       rfl
      refine take_ (i := 20) (N := some 26) (v := ?_) (a' := ?_) #[true, true, true, true, true, true, true, true, true, true, true, true, true, true, true, true, true, true, true, true, true, false, false, false, false, false, false, false, false, false, false, false, false, false] rfl rfl (take_ofW HT_.out HW_.out (by kernel_rfl)) (fun _ _ _ h => h) (Or.inl ⟨by rfl, ?_⟩) hHeld ?_ ?_
      rotate_left
      ·rintro w' ⟨s0, s1, s2, s3, s4, s5, s6, s7⟩
       go_simp
       with_reducible rfl
      rotate_left
      ·simp only [Act.put, List.setIfInBounds_toArray, List.set_cons_zero, List.set_cons_succ, i64_w, i32_w]
       rfl
      refine pu 21 27 ?_; refine pu 22 28 ?_; refine pu 23 29 ?_; refine pu 24 30 ?_; refine pu 25 31 ?_; refine pu 26 32 ?_; refine pu 28 34 ?_
      refine take_ (i := 27) (N := some 33) (v := ?_) (a' := ?_) #[true, true, true, true, true, true, true, true, true, true, true, true, true, true, true, true, true, true, true, true, true, true, true, true, true, true, true, true, true, false, false, false, false, false] rfl rfl (take_ofW HT_.out HW_.out (by kernel_rfl)) (fun _ _ _ h => h) (Or.inl ⟨by rfl, ?_⟩) hHeld ?_ ?_
      rotate_left
      ·rintro w' ⟨s0, s1, s2, s3, s4, s5, s6, s7⟩
       go_simp
       with_reducible rfl
      rotate_left
      ·simp only [Act.put, List.setIfInBounds_toArray, List.set_cons_zero, List.set_cons_succ, i64_w, i32_w]
       rfl
      refine take_ (i := 29) (N := some 35) (v := ?_) (a' := ?_) #[true, true, true, true, true, true, true, true, true, true, true, true, true, true, true, true, true, true, true, true, true, true, true, true, true, true, true, true, true, true, false, false, false, false] rfl rfl (take_ofW HT_.out HW_.out (by kernel_rfl)) (fun _ _ _ h => h) (Or.inl ⟨by rfl, ?_⟩) hHeld ?_ ?_
      rotate_left
      ·rintro w' ⟨s0, s1, s2, s3, s4, s5, s6, s7⟩
       go_simp
       with_reducible rfl
      rotate_left
      ·simp only [Act.put, List.setIfInBounds_toArray, List.set_cons_zero, List.set_cons_succ, i64_w, i32_w]
       rfl
      refine pu 30 36 ?_; refine pu 31 37 ?_; refine pu 32 38 ?_; refine pu 33 39 ?_
      refine done_ (done_of HT_.out (by kernel_rfl)) ?_
      try go_wp2
      go_meet
      case rel => exact ⟨_, ((Op.bytesLess (((rd_T38 l0 x5_1).f0).toList) a1_0.toList)), sq, H', ⟨b86_⟩, ⟨bq BK644.out⟩, ⟨bel1 GE644.out⟩⟩
     rw [if_neg c9] at H
     have c9b0 : (((rd_T38 l0 x5_1).f1) == a1_1) = false := beq_eq_false_iff_ne.mpr c9
     have c9b1 : (((rd_T38 l0 x5_1).f1) != a1_1) = true := bne_iff_ne.mpr c9
     have H' := am H
     clear H
     try go_wp2
     replace BK644 := am (blk_drew BK644.out); replace HB := am (below_drew1 HB.out)
     have p645 : 0 ≤ (x5_1 : Int) := of_decide_eq_true ad
     have q645 : x5_1 < (l0.length : Int) := of_decide_eq_true ad
     obtain ⟨ad645, e645, hx645_0, hx645_1⟩ := at_T38 HR0.out x5_1 p645 q645; have hw645_1 := hx645_1; have hw645_0 := hx645_0; cases e645; replace hx645_0 := kp HB.out hx645_0; replace hx645_1 := kp HB.out hx645_1; replace p645 := eq_true p645; replace q645 := eq_true q645
     have p646 : 0 ≤ (x5_1 : Int) := of_decide_eq_true ad
     have q646 : x5_1 < (l0.length : Int) := of_decide_eq_true ad
     obtain ⟨ad646, e646, hx646_0, hx646_1⟩ := at_T38 HR0.out x5_1 p646 q646; have hw646_1 := hx646_1; have hw646_0 := hx646_0
     obtain rfl : ad645 = ad646 := (by injection e646)
     replace hx646_0 := kp HB.out hx646_0; replace hx646_1 := kp HB.out hx646_1; replace p646 := eq_true p646; replace q646 := eq_true q646
     refine st (n := 34) (S := fun w' => w'.cell? ⟨gb644, 0, none⟩ = some (.string a1_0) ∧ w'.cell? ⟨gb644, 1, none⟩ = some (.int .i64 a1_1) ∧ w'.cell? (ad645.add ((x5_1).toNat * 2)) = some (.string ((rd_T38 l0 x5_1).f0)) ∧ w'.cell? ⟨(ad645.add ((x5_1).toNat * 2)).block, (ad645.add ((x5_1).toNat * 2)).off + 1, none⟩ = some (.int .i64 ((rd_T38 l0 x5_1).f1)) ∧ w'.cell? (ad645.add ((x5_1).toNat * 2)) = some (.string ((rd_T38 l0 x5_1).f0)) ∧ w'.cell? ⟨(ad645.add ((x5_1).toNat * 2)).block, (ad645.add ((x5_1).toNat * 2)).off + 1, none⟩ = some (.int .i64 ((rd_T38 l0 x5_1).f1))) (ds := []) ⟨bd BK644.out 0, bd BK644.out 1, (kp HB.out hw645_0), (kp HB.out hw645_1), (kp HB.out hw646_0), (kp HB.out hw646_1)⟩ (fun hHeld => ?_); refine with_tabW spec_l4Put.tab2 spec_l4Put.bits2 (fun HT_ HW_ => ?_)
     generalize wr.drew = w11 at BK644 HB hx645_0 hx645_1 hx646_0 hx646_1 hHeld ⊢; refine pu 0 6 ?_; refine pu 1 7 ?_; refine pu 2 8 ?_; refine pu 3 9 ?_; refine pu 4 10 ?_; refine pu 5 11 ?_; refine pu 6 12 ?_; refine pu 7 13 ?_; refine pu 8 14 ?_; refine pu 10 16 ?_; refine tk6 9 15 hHeld ?_; refine tk6 11 17 hHeld ?_; refine pu 12 18 ?_; refine pu 13 19 ?_; refine pu 14 20 ?_; refine pu 15 21 ?_; refine pu 16 22 ?_; refine pu 17 23 ?_; refine pu 19 25 ?_; refine tk6 18 24 hHeld ?_; refine tk6 20 26 hHeld ?_; refine pu 21 27 ?_; refine pu 22 28 ?_; refine puu 23 29 ?_; refine puu 24 30 ?_; refine puu 25 31 ?_; refine puu 26 32 ?_; refine puu 27 33 ?_; refine puu 28 34 ?_; refine puu 29 35 ?_; refine puu 30 36 ?_; refine pu 31 37 ?_; refine pu 32 38 ?_; refine pu 33 39 ?_
     refine done_ (done_of HT_.out (by kernel_rfl)) ?_
     try go_wp2
     go_meet
     case rel => exact ⟨_, (false), sq, H', ⟨b86_⟩, ⟨bq BK644.out⟩, ⟨bel1 GE644.out⟩⟩
    rw [if_neg c5] at H; have c5b0 := decide_eq_false c5; clear c5
    (skip)
    have H' := am H
    clear H
    try go_wp2
    replace BK644 := am (blk_drew BK644.out); replace HB := am (below_drew1 HB.out)
    refine st (n := 34) (S := fun w' => True) (ds := []) trivial (fun hHeld => ?_); refine with_tabW spec_l4Put.tab2 spec_l4Put.bits2 (fun HT_ HW_ => ?_)
    generalize wr.drew = w12 at BK644 HB hHeld ⊢; refine pu 0 6 ?_; refine pu 1 7 ?_; refine pu 2 8 ?_; refine pu 3 9 ?_; refine pu 4 10 ?_; refine puu 5 11 ?_; refine puu 6 12 ?_; refine puu 7 13 ?_; refine puu 8 14 ?_; refine puu 9 15 ?_; refine puu 10 16 ?_; refine puu 11 17 ?_; refine puu 12 18 ?_; refine puu 13 19 ?_; refine puu 14 20 ?_; refine puu 15 21 ?_; refine puu 16 22 ?_; refine puu 17 23 ?_; refine puu 18 24 ?_; refine puu 19 25 ?_; refine puu 20 26 ?_; refine puu 21 27 ?_; refine puu 22 28 ?_; refine puu 23 29 ?_; refine puu 24 30 ?_; refine puu 25 31 ?_; refine puu 26 32 ?_; refine puu 27 33 ?_; refine puu 28 34 ?_; refine puu 29 35 ?_; refine puu 30 36 ?_; refine puu 31 37 ?_; refine puu 32 38 ?_; refine pu 33 39 ?_
    refine done_ (done_of HT_.out (by kernel_rfl)) ?_
    try go_wp2
    go_meet
    case rel => exact ⟨_, (false), sq, H', ⟨b86_⟩, ⟨bq BK644.out⟩, ⟨bel1 GE644.out⟩⟩
   case rest =>
    clear HC4; obtain ⟨kq, x39_3, rfl, HA, HJ3, BK644, HB⟩ := hcut
    cases kq with
    | zero => exact absurd HA.out (by simp [spec_l4Put.j1])
    | succ kj3 =>
     have H := HA.out; clear HA; simp only [spec_l4Put.j1] at H
     by_cases c13 : x39_3 = true
     ·subst c13
      have H1 : (spec_l4Put.l0 kj3 l0 (wrap64 (x5_1 + 1)) a1_0 a1_1) = some r := b26_
      replace H := H1; clear H1
      have H' := am H
      clear H; go_wp2
      go_roundg kj3
      case measure => have := HK1.out; have := HJ3.out; omega
      case rel => exact ⟨(wrap64 (x5_1 + 1)), sq, H', ⟨by have := HK1.out; have := HJ3.out; omega⟩, ⟨bq BK644.out⟩, ⟨bel1 GE644.out⟩⟩
     replace c13 := Bool.eq_false_iff.mpr c13; subst c13
     have H1 : ((some (([] : List (S38)) : List (S38))).bind fun y648 => (if 0 ≤ x5_1 then (if x5_1 ≤ (l0.length : Int) then ((some (l0.take (x5_1 : Int).toNat : List (S38))).bind fun y651 => (if y648.length + y651.length < 5864062014805 then ((some (y648 ++ y651 : List (S38))).bind fun y655 => ((some (([(⟨a1_0, a1_1⟩ : S38)] : List (S38)) : List (S38))).bind fun y658 => (if y655.length + y658.length < 5864062014805 then ((some (y655 ++ y658 : List (S38))).bind fun y661 => ((some (l0.drop (x5_1 : Int).toNat : List (S38))).bind fun y664 => (if y661.length + y664.length < 5864062014805 then (some (y661 ++ y664)) else (none)))) else (none)))) else (none))) else (none)) else (none))) = some r := b10_
     replace H := H1; clear H1
     obtain ⟨y648, hy648⟩ : ∃ y_ : List (S38), y_ = (([] : List (S38))) := ⟨_, rfl⟩
     replace H : (if 0 ≤ x5_1 then (if x5_1 ≤ (l0.length : Int) then ((some (l0.take (x5_1 : Int).toNat : List (S38))).bind fun y651 => (if y648.length + y651.length < 5864062014805 then ((some (y648 ++ y651 : List (S38))).bind fun y655 => ((some (([(⟨a1_0, a1_1⟩ : S38)] : List (S38)) : List (S38))).bind fun y658 => (if y655.length + y658.length < 5864062014805 then ((some (y655 ++ y658 : List (S38))).bind fun y661 => ((some (l0.drop (x5_1 : Int).toNat : List (S38))).bind fun y664 => (if y661.length + y664.length < 5864062014805 then (some (y661 ++ y664)) else (none)))) else (none)))) else (none))) else (none)) else (none)) = some r := by (have H2_ := bm H; rw [hy648]; with_reducible exact H2_)
     have Ny648 := am hy648; clear hy648; replace H := ip H; obtain ⟨c14, H⟩ := H; have c14b0 := eq_true c14
     have c14b1 : decide (0 ≤ x5_1) = true := decide_eq_true c14
     clear c14; replace H := ip H; obtain ⟨c15, H⟩ := H; have c15b0 := eq_true c15
     have c15b1 : decide (x5_1 ≤ (l0.length : Int)) = true := decide_eq_true c15
     clear c15; obtain ⟨y651, hy651⟩ : ∃ y_ : List (S38), y_ = (l0.take (x5_1 : Int).toNat) := ⟨_, rfl⟩
     replace H := bm H; rw [← hy651] at H
     have Ny651 := am hy651; clear hy651
     replace H := ip H; obtain ⟨c16, H⟩ := H; have LMc16 := Aside0.mk c16; clear c16; obtain ⟨y655, hy655⟩ : ∃ y_ : List (S38), y_ = (y648 ++ y651) := ⟨_, rfl⟩
     replace H := bm H; rw [← hy655] at H
     have Ny655 := am hy655; clear hy655; obtain ⟨y658, hy658⟩ : ∃ y_ : List (S38), y_ = (([(⟨a1_0, a1_1⟩ : S38)] : List (S38))) := ⟨_, rfl⟩
     replace H := bm H; rw [← hy658] at H
     have Ny658 := am hy658; clear hy658
     replace H := ip H; obtain ⟨c17, H⟩ := H; have LMc17 := Aside0.mk c17; clear c17; obtain ⟨y661, hy661⟩ : ∃ y_ : List (S38), y_ = (y655 ++ y658) := ⟨_, rfl⟩
     replace H := bm H; rw [← hy661] at H
     have Ny661 := am hy661; clear hy661; have c18b0 := eq_true (of_decide_eq_true ad : 0 ≤ x5_1); have c19b0 := eq_true (of_decide_eq_true ad : x5_1 ≤ (l0.length : Int)); obtain ⟨y664, hy664⟩ : ∃ y_ : List (S38), y_ = (l0.drop (x5_1 : Int).toNat) := ⟨_, rfl⟩
     replace H := bm H; rw [← hy664] at H
     have Ny664 := am hy664; clear hy664
     replace H := ip H; obtain ⟨c20, H⟩ := H; have LMc20 := Aside0.mk c20; clear c20; obtain ⟨y668, hy668⟩ : ∃ y_ : List (S38), y_ = (y661 ++ y664) := ⟨_, rfl⟩
     rw [← hy668] at H
     have Ny668 := am hy668; clear hy668; obtain rfl := Option.some.inj H
     try go_wp2
     replace BK644 := am (blk_drew BK644.out); replace HB := am (below_drew1 HB.out)
     have q22 : (x5_1 : Int) ≤ ((l0.length : Int) : Int) := of_decide_eq_true ad
     obtain ⟨i022, hi022, _, hsz22, _⟩ := info_parts info38
     have hroom22 : l0.length ≤ c0 := HC0.out
     have hC22 : Kd.C k38 _ A0 l0.length l0 := HR0.out
     have hcut22 := cut_to (P := Tryz.prog) 29 38 .i64 Tryz.underlying29 hi022 A0 l0.length c0 x5_1 (of_decide_eq_true ad) q22 hroom22; have hr22 := Kd.C_take (m := (x5_1 : Int).toNat) hC22 (by omega)
     have hy22 : y651.length = (x5_1 : Int).toNat := (by rw [Ny651.out, List.length_take]; omega)
     rw [← Ny651.out] at hr22; rw [← hy22] at hcut22; have HR654 := am hr22
     have HC654 := am (show y651.length ≤ c0 from by omega)
     clear hr22 hC22 hroom22 hi022 hsz22; have KY22 := am hy22; clear hy22; replace q22 := eq_true q22
     have q23 : (x5_1 : Int) ≤ ((l0.length : Int) : Int) := of_decide_eq_true ad
     obtain ⟨i023, hi023, _, hsz23, _⟩ := info_parts info38
     have hroom23 : l0.length ≤ c0 := HC0.out
     have hC23 : Kd.C k38 _ A0 l0.length l0 := HR0.out
     have q023 : (0 : Int) ≤ (x5_1 : Int) := of_decide_eq_true ad
     have hcut23 := cut_from (P := Tryz.prog) 29 38 .i64 Tryz.underlying29 hi023 2 hsz23 A0 l0.length c0 x5_1 q023 q23; have hr23 := Kd.C_drop (m := (x5_1 : Int).toNat) (c := c0) hC23 (by omega) hroom23
     obtain ⟨A23, hA23⟩ : ∃ A1, A1 = (if c0 = (x5_1 : Int).toNat then A0 else (A0 : Option Addr).map (·.add ((x5_1 : Int).toNat * 2))) := ⟨_, rfl⟩; obtain ⟨c23, hc23⟩ : ∃ c1, c1 = c0 - (x5_1 : Int).toNat := ⟨_, rfl⟩
     have hy23 : y664.length = l0.length - (x5_1 : Int).toNat := (by rw [Ny664.out, List.length_drop] <;> omega)
     rw [show (l0).drop (x5_1 : Int).toNat = y664 from Ny664.out.symm] at hr23
     replace hr23 : Kd.C k38 _ A23 y664.length y664 := (by rw [hA23]; exact hr23)
     rw [← hy23, ← hA23, ← hc23] at hcut23; have HR667 := am hr23
     have HC667 := am (show y664.length ≤ c23 from by rw [hy23, hc23]; exact Nat.sub_le_sub_right hroom23 _)
     clear hr23 hC23 hroom23 hi023 hsz23 hc23; have KY23 := am hy23; have KA23 := am hA23; clear hy23 hA23; replace q23 := eq_true q23
     refine st (n := 13) (S := fun w' => w'.cell? ⟨gb644, 0, none⟩ = some (.string a1_0) ∧ w'.cell? ⟨gb644, 1, none⟩ = some (.int .i64 a1_1)) (ds := []) ⟨bd BK644.out 0, bd BK644.out 1⟩ (fun hHeld => ?_); refine with_tabW spec_l4Put.tab4 spec_l4Put.bits4 (fun HT_ HW_ => ?_)
     generalize wc.drew = w21 at BK644 HB HR654 HR667 hHeld ⊢; refine pu 1 43 ?_; refine pu 2 44 ?_; refine pu 3 45 ?_; refine pu 8 50 ?_; refine pu 9 51 ?_; refine pu 10 52 ?_; refine tk2 5 47 hHeld ?_
     refine join_ (σ := Value × Value × Value) 3 #[true, true, true, true, true, true, true, false, true, true, true, false, false] (fun s_ => [(42, s_.1), (46, s_.2.1), (48, s_.2.2)]) (fun s_ w' => (w'.cell? ⟨gb644, 0, none⟩ = some (.string a1_0) ∧ w'.cell? ⟨gb644, 1, none⟩ = some (.int .i64 a1_1)) ∧ (Kd.R k38 38 w' w.heap.size (fun k_ => some k_ ≠ (s_.2.2 : Value).ownBlock ∧ k_ ≠ gb644) s_.2.1 y655) ∧ (Kd.R k38 38 w' w.heap.size (fun k_ => some k_ ≠ (s_.2.1 : Value).ownBlock ∧ k_ ≠ gb644) s_.2.2 y658) ∧ (w'.heap[gb644]? = some (.cells #[.string a1_0, .int .i64 a1_1] 38 (0, 0))) ∧ (Below w.heap.size w w')) ?_ ?_
     rotate_left
     ·intro hCont
      refine two_ (i := 0) (j := 6) (Ni := some 42) (Nj := some 48) #[true, true, true, true, false, true, false, false, true, true, true, false, false] #[false, true, true, true, false, true, true, false, true, true, true, false, false] rfl rfl rfl rfl (two_of HT_.out (by kernel_rfl)) (by decide) (by decide) (fun K hK => ?_) (fun K hK => ?_)
      ·skip
       refine Kd.R_lit_step k38 _ 38 ?hg (N := 42) ?hd (xs := ([] : List (S38))) (inner := []) (ok := fun _ => True) (okp := fun _ => True) ?hr ?hp (fun _ hk => hk) trivial (Below.refl _ _) (Nat.le_refl _) (by simp) ?_; (case hd => rfl); (case hg => rfl); (case hr => (go_simp; done)); (case hp => exact (Reps.none _ _))
       intro v649 w24 ho25 hb hg_ hnew_; clear hg_ hnew_
       (rw [← Ny648.out] at ho25)
       have HO650 := am (Kd.R_lower (Kd.R_newB ho25 (g := gb644) (o := .cells #[.string a1_0, .int .i64 a1_1] 38 (0, 0)) (bq BK644.out)) (below_size (bel1 GE644.out))); replace BK644 := am (blk_below (bq BK644.out) hb); replace HB := am (below_step (bel1 GE644.out) hb); clear hb ho25; refine hK.out _ _ ⟨bd BK644.out 0, bd BK644.out 1⟩ (fun hHeld => ?_); clear hK K; refine nm 42 ?_
       refine two_ (i := 4) (j := 6) (Ni := some 46) (Nj := some 48) #[true, true, true, true, true, true, false, false, true, true, true, false, false] #[true, true, true, true, false, true, true, false, true, true, true, false, false] rfl rfl rfl rfl (two_of HT_.out (by kernel_rfl)) (by decide) (by decide) (fun K hK => ?_) (fun K hK => ?_)
       ·skip
        refine Kd.R_append_rows_step k38 (w0 := w) w.heap.size (by rfl) (.tmp 42) (.tmp 45) 29 38 (.agg #[(.string ⟨#[]⟩), (.int .i64 0)]) 24 rfl Tryz.underlying29 info38 rfl (by decide) (by omega) v649 y648 y651 _ _ _ (fun k_ => k_ ≠ gb644) (fun _ => False) rfl rfl ?aO ?aR (fun _ _ h => h) (fun _ h => h.elim) ?aF ?aB ?aS ?aL ?_
        (case aR => exact cq (Kd.C_below HR654.out HB.out)); (case aB => exact (bel1 GE644.out)); (case aF => exact (fun k_ hk => Kd.freshB (g := gb644) (o := .cells #[.string a1_0, .int .i64 a1_1] 38 (0, 0)) (bq BK644.out) k_ hk)); (case aO => exact (rq (Kd.R_mono HO650.out (fun _ hk => hk.2)))); (case aS => exact (below_size (bel1 GE644.out))); (case aL => have := LMc16.out; omega); intro v656 w26 ho hb hg hat; rw [← Ny655.out] at ho; replace BK644 := am (blk_grown (g := gb644) (o := .cells #[.string a1_0, .int .i64 a1_1] 38 (0, 0)) (bq BK644.out) hg (Kd.R_away HO650.out (fun _ hk => hk.2))); replace HB := am (hb); have HO657 := am (ho); clear HO650; clear ho hb hg hat
        refine hK.out _ _ ⟨bd BK644.out 0, bd BK644.out 1⟩ (fun hHeld => ?_); clear hK K; refine nm 46 ?_; refine on1 6 48 (fun K hK => ?_)
        refine Kd.R_lit_step k38 _ 38 ?hg (N := 48) ?hd (xs := ([(⟨a1_0, a1_1⟩ : S38)] : List (S38))) (inner := [.string a1_0, .int .i64 a1_1]) (ok := fun _ => True) (okp := fun _ => True) ?hr ?hp (fun _ hk => hk) trivial (Below.refl _ _) (Nat.le_refl _) (by simp) ?_; (case hd => rfl); (case hg => rfl); (case hr => (go_simp; done)); (case hp => exact (Reps.c2 (show Kd.M k38 _ _ _ (⟨a1_0, a1_1⟩ : S38) [.string a1_0, .int .i64 a1_1] from (k38_mkM _ _ _ (⟨a1_0, a1_1⟩ : S38) )) (Reps.none _ _)))
        intro v659 w27 ho28 hb hg_ hnew_; clear hg_ hnew_
        (rw [← Ny658.out] at ho28)
        have HO660 := am (Kd.R_lower (Kd.R_newB (Kd.R_new' ho28 (Kd.R_lt (rq HO657.out))) (g := gb644) (o := .cells #[.string a1_0, .int .i64 a1_1] 38 (0, 0)) (bq BK644.out)) (below_size (bel1 GE644.out))); replace HO657 := am (Kd.R_elder' (rq HO657.out) (Kd.R_base ho28) hb); replace BK644 := am (blk_below (bq BK644.out) hb); replace HB := am (below_step (bel1 GE644.out) hb); clear hb ho28; refine hK.out _ _ ⟨bd BK644.out 0, bd BK644.out 1⟩ (fun hHeld => ?_); clear hK K; refine nm 48 ?_
        exact norm_ b68_ (hCont (v649, v656, v659) _ ⟨hHeld, (rq (Kd.R_mono HO657.out (fun _ hk => ⟨hk.2, hk.1⟩))), (rq (Kd.R_mono HO660.out (fun _ hk => ⟨hk.1.2, hk.2⟩))), (bq BK644.out), (bel1 GE644.out)⟩)
       ·skip
        refine Kd.R_lit_step k38 _ 38 ?hg (N := 48) ?hd (xs := ([(⟨a1_0, a1_1⟩ : S38)] : List (S38))) (inner := [.string a1_0, .int .i64 a1_1]) (ok := fun _ => True) (okp := fun _ => True) ?hr ?hp (fun _ hk => hk) trivial (Below.refl _ _) (Nat.le_refl _) (by simp) ?_; (case hd => rfl); (case hg => rfl); (case hr => (go_simp; done)); (case hp => exact (Reps.c2 (show Kd.M k38 _ _ _ (⟨a1_0, a1_1⟩ : S38) [.string a1_0, .int .i64 a1_1] from (k38_mkM _ _ _ (⟨a1_0, a1_1⟩ : S38) )) (Reps.none _ _)))
        intro v659 w26 ho27 hb hg_ hnew_; clear hg_ hnew_
        (rw [← Ny658.out] at ho27)
        have HO660 := am (Kd.R_lower (Kd.R_newB (Kd.R_new' ho27 (Kd.R_lt (rq HO650.out))) (g := gb644) (o := .cells #[.string a1_0, .int .i64 a1_1] 38 (0, 0)) (bq BK644.out)) (below_size (bel1 GE644.out))); replace HO650 := am (Kd.R_elder' (rq HO650.out) (Kd.R_base ho27) hb); replace BK644 := am (blk_below (bq BK644.out) hb); replace HB := am (below_step (bel1 GE644.out) hb); clear hb ho27; refine hK.out _ _ ⟨bd BK644.out 0, bd BK644.out 1⟩ (fun hHeld => ?_); clear hK K; refine nm 48 ?_; refine on1 4 46 (fun K hK => ?_)
        refine Kd.R_append_rows_step k38 (w0 := w) w.heap.size (by rfl) (.tmp 42) (.tmp 45) 29 38 (.agg #[(.string ⟨#[]⟩), (.int .i64 0)]) 24 rfl Tryz.underlying29 info38 rfl (by decide) (by omega) v649 y648 y651 _ _ _ (fun k_ => some k_ ≠ (v659 : Value).ownBlock ∧ k_ ≠ gb644) (fun _ => False) rfl rfl ?aO ?aR (fun _ _ h => h) (fun _ h => h.elim) ?aF ?aB ?aS ?aL ?_
        (case aR => exact cq (Kd.C_below HR654.out HB.out)); (case aB => exact (bel1 GE644.out)); (case aF => exact (fun k_ hk => ⟨Kd.fresh' (Kd.R_lt (rq HO660.out)) k_ hk, Kd.freshB (g := gb644) (o := .cells #[.string a1_0, .int .i64 a1_1] 38 (0, 0)) (bq BK644.out) k_ hk⟩)); (case aO => exact (rq (Kd.R_mono HO650.out (fun _ hk => ⟨hk.2, hk.1.2⟩)))); (case aS => exact (below_size (bel1 GE644.out))); (case aL => have := LMc16.out; omega); intro v656 w28 ho hb hg hat; rw [← Ny655.out] at ho; replace BK644 := am (blk_grown (g := gb644) (o := .cells #[.string a1_0, .int .i64 a1_1] 38 (0, 0)) (bq BK644.out) hg (Kd.R_away HO650.out (fun _ hk => hk.1.2))); replace HO660 := am (Kd.R_after (ok := (fun k_ => k_ ≠ gb644)) (rq (Kd.R_mono HO660.out (fun _ hk => ⟨hk.2, hk.1.2⟩))) hg hat); replace HB := am (hb); have HO657 := am (ho); clear HO650; clear ho hb hg hat
        refine hK.out _ _ ⟨bd BK644.out 0, bd BK644.out 1⟩ (fun hHeld => ?_); clear hK K; refine nm 46 ?_
        exact norm_ b68_ (hCont (v649, v656, v659) _ ⟨hHeld, (rq HO657.out), (rq (Kd.R_mono HO660.out (fun _ hk => ⟨hk.2, hk.1⟩))), (bq BK644.out), (bel1 GE644.out)⟩)
      ·skip
       refine Kd.R_lit_step k38 _ 38 ?hg (N := 48) ?hd (xs := ([(⟨a1_0, a1_1⟩ : S38)] : List (S38))) (inner := [.string a1_0, .int .i64 a1_1]) (ok := fun _ => True) (okp := fun _ => True) ?hr ?hp (fun _ hk => hk) trivial (Below.refl _ _) (Nat.le_refl _) (by simp) ?_; (case hd => rfl); (case hg => rfl); (case hr => (go_simp; done)); (case hp => exact (Reps.c2 (show Kd.M k38 _ _ _ (⟨a1_0, a1_1⟩ : S38) [.string a1_0, .int .i64 a1_1] from (k38_mkM _ _ _ (⟨a1_0, a1_1⟩ : S38) )) (Reps.none _ _)))
       intro v659 w24 ho25 hb hg_ hnew_; clear hg_ hnew_
       (rw [← Ny658.out] at ho25)
       have HO660 := am (Kd.R_lower (Kd.R_newB ho25 (g := gb644) (o := .cells #[.string a1_0, .int .i64 a1_1] 38 (0, 0)) (bq BK644.out)) (below_size (bel1 GE644.out))); replace BK644 := am (blk_below (bq BK644.out) hb); replace HB := am (below_step (bel1 GE644.out) hb); clear hb ho25; refine hK.out _ _ ⟨bd BK644.out 0, bd BK644.out 1⟩ (fun hHeld => ?_); clear hK K; refine nm 48 ?_; refine on1 0 42 (fun K hK => ?_)
       refine Kd.R_lit_step k38 _ 38 ?hg (N := 42) ?hd (xs := ([] : List (S38))) (inner := []) (ok := fun _ => True) (okp := fun _ => True) ?hr ?hp (fun _ hk => hk) trivial (Below.refl _ _) (Nat.le_refl _) (by simp) ?_; (case hd => rfl); (case hg => rfl); (case hr => (go_simp; done)); (case hp => exact (Reps.none _ _))
       intro v649 w26 ho27 hb hg_ hnew_; clear hg_ hnew_
       (rw [← Ny648.out] at ho27)
       have HO650 := am (Kd.R_lower (Kd.R_newB (Kd.R_new' ho27 (Kd.R_lt (rq HO660.out))) (g := gb644) (o := .cells #[.string a1_0, .int .i64 a1_1] 38 (0, 0)) (bq BK644.out)) (below_size (bel1 GE644.out))); replace HO660 := am (Kd.R_elder' (rq HO660.out) (Kd.R_base ho27) hb); replace BK644 := am (blk_below (bq BK644.out) hb); replace HB := am (below_step (bel1 GE644.out) hb); clear hb ho27; refine hK.out _ _ ⟨bd BK644.out 0, bd BK644.out 1⟩ (fun hHeld => ?_); clear hK K; refine nm 42 ?_; refine on1 4 46 (fun K hK => ?_)
       refine Kd.R_append_rows_step k38 (w0 := w) w.heap.size (by rfl) (.tmp 42) (.tmp 45) 29 38 (.agg #[(.string ⟨#[]⟩), (.int .i64 0)]) 24 rfl Tryz.underlying29 info38 rfl (by decide) (by omega) v649 y648 y651 _ _ _ (fun k_ => some k_ ≠ (v659 : Value).ownBlock ∧ k_ ≠ gb644) (fun _ => False) rfl rfl ?aO ?aR (fun _ _ h => h) (fun _ h => h.elim) ?aF ?aB ?aS ?aL ?_
       (case aR => exact cq (Kd.C_below HR654.out HB.out)); (case aB => exact (bel1 GE644.out)); (case aF => exact (fun k_ hk => ⟨Kd.fresh' (Kd.R_lt (rq HO660.out)) k_ hk, Kd.freshB (g := gb644) (o := .cells #[.string a1_0, .int .i64 a1_1] 38 (0, 0)) (bq BK644.out) k_ hk⟩)); (case aO => exact (rq (Kd.R_mono HO650.out (fun _ hk => ⟨hk.1.2, hk.2⟩)))); (case aS => exact (below_size (bel1 GE644.out))); (case aL => have := LMc16.out; omega); intro v656 w28 ho hb hg hat; rw [← Ny655.out] at ho; replace BK644 := am (blk_grown (g := gb644) (o := .cells #[.string a1_0, .int .i64 a1_1] 38 (0, 0)) (bq BK644.out) hg (Kd.R_away HO650.out (fun _ hk => hk.2))); replace HO660 := am (Kd.R_after (ok := (fun k_ => k_ ≠ gb644)) (rq (Kd.R_mono HO660.out (fun _ hk => ⟨hk.1.2, hk.2⟩))) hg hat); replace HB := am (hb); have HO657 := am (ho); clear HO650; clear ho hb hg hat
       refine hK.out _ _ ⟨bd BK644.out 0, bd BK644.out 1⟩ (fun hHeld => ?_); clear hK K; refine nm 46 ?_
       exact norm_ b68_ (hCont (v649, v656, v659) _ ⟨hHeld, (rq HO657.out), (rq (Kd.R_mono HO660.out (fun _ hk => ⟨hk.2, hk.1⟩))), (bq BK644.out), (bel1 GE644.out)⟩)
     rintro ⟨v649, v656, v659⟩ w29 ⟨hS_, h0_, h1_, h2_, h3_⟩
     have n0_ : Aside0 (Kd.R k38 38 w29 w.heap.size (fun k_ => some k_ ≠ (v659 : Value).ownBlock ∧ k_ ≠ gb644) v656 y655) := ⟨h0_⟩
     have n1_ : Aside0 (Kd.R k38 38 w29 w.heap.size (fun k_ => some k_ ≠ (v656 : Value).ownBlock ∧ k_ ≠ gb644) v659 y658) := ⟨h1_⟩
     have n2_ : Aside0 (w29.heap[gb644]? = some (.cells #[.string a1_0, .int .i64 a1_1] 38 (0, 0))) := ⟨h2_⟩
     have n3_ : Aside0 (Below w.heap.size w w29) := ⟨h3_⟩
     clear BK644; clear HB; clear h0_ h1_ h2_ h3_; have HO657 := n0_; have HO660 := n1_; have BK644 := n2_; have HB := n3_; clear n0_ n1_ n2_ n3_
     have hHeld : w29.cell? ⟨gb644, 0, none⟩ = some (.string a1_0) ∧ w29.cell? ⟨gb644, 1, none⟩ = some (.int .i64 a1_1) := hS_
     obtain ⟨Ao31, co31, eo31⟩ := Kd.R_slice HO660.out
     (subst eo31)
     refine norm_ (a' := ?_) ?_ ?_
     rotate_left
     ·simp only [putAll, Act.put, List.setIfInBounds_toArray, List.set_cons_zero, List.set_cons_succ]
      rfl
     refine on1 7 49 (fun K hK => ?_)
     refine Kd.R_append_rows_step k38 (w0 := w) w.heap.size (by rfl) (.tmp 46) (.tmp 48) 29 38 (.agg #[(.string ⟨#[]⟩), (.int .i64 0)]) 24 rfl Tryz.underlying29 info38 rfl (by decide) (by omega) v656 y655 y658 _ _ _ (fun k_ => some k_ ≠ (.slice Ao31 y658.length co31 : Value).ownBlock ∧ k_ ≠ gb644) (fun _ => False) rfl rfl ?aO ?aR (fun _ _ h => h) (fun _ h => h.elim) ?aF ?aB ?aS ?aL ?_
     (case aR => exact cq (Kd.R_reads' HO660.out).2.2); (case aB => exact (bel1 GE644.out)); (case aF => exact (fun k_ hk => ⟨Kd.fresh' (Kd.R_lt (rq HO660.out)) k_ hk, Kd.freshB (g := gb644) (o := .cells #[.string a1_0, .int .i64 a1_1] 38 (0, 0)) (bq BK644.out) k_ hk⟩)); (case aO => exact (rq HO657.out)); (case aS => exact (below_size (bel1 GE644.out))); (case aL => have := LMc17.out; omega); intro v662 w30 ho hb hg hat; rw [← Ny661.out] at ho; replace BK644 := am (blk_grown (g := gb644) (o := .cells #[.string a1_0, .int .i64 a1_1] 38 (0, 0)) (bq BK644.out) hg (Kd.R_away HO657.out (fun _ hk => hk.2))); replace HO660 := am (Kd.R_after (ok := (fun k_ => k_ ≠ gb644)) (rq (Kd.R_mono HO660.out (fun _ hk => ⟨hk.2, hk.1⟩))) hg hat); replace HB := am (hb); have HO663 := am (ho); clear HO657; clear ho hb hg hat
     refine hK.out _ _ ⟨bd BK644.out 0, bd BK644.out 1⟩ (fun hHeld => ?_); clear hK K; refine nm 49 ?_; refine on1 11 53 (fun K hK => ?_)
     refine Kd.R_append_rows_step k38 (w0 := w) w.heap.size (by rfl) (.tmp 49) (.tmp 52) 29 38 (.agg #[(.string ⟨#[]⟩), (.int .i64 0)]) 24 rfl Tryz.underlying29 info38 rfl (by decide) (by omega) v662 y661 y664 _ _ _ (fun k_ => some k_ ≠ (.slice Ao31 y658.length co31 : Value).ownBlock ∧ k_ ≠ gb644) (fun _ => False) rfl rfl ?aO ?aR (fun _ _ h => h) (fun _ h => h.elim) ?aF ?aB ?aS ?aL ?_
     (case aR => exact cq (Kd.C_below HR667.out HB.out)); (case aB => exact (bel1 GE644.out)); (case aF => exact (fun k_ hk => ⟨Kd.fresh' (Kd.R_lt (rq HO660.out)) k_ hk, Kd.freshB (g := gb644) (o := .cells #[.string a1_0, .int .i64 a1_1] 38 (0, 0)) (bq BK644.out) k_ hk⟩)); (case aO => exact (rq HO663.out)); (case aS => exact (below_size (bel1 GE644.out))); (case aL => have := LMc20.out; omega); intro v669 w32 ho hb hg hat; rw [← Ny668.out] at ho; replace BK644 := am (blk_grown (g := gb644) (o := .cells #[.string a1_0, .int .i64 a1_1] 38 (0, 0)) (bq BK644.out) hg (Kd.R_away HO663.out (fun _ hk => hk.2))); replace HO660 := am (Kd.R_after (ok := (fun k_ => k_ ≠ gb644)) (rq HO660.out) hg hat); replace HB := am (hb); have HO670 := am (ho); clear HO663; clear ho hb hg hat
     refine hK.out _ _ ⟨bd BK644.out 0, bd BK644.out 1⟩ (fun hHeld => ?_); clear hK K; refine nm 53 ?_; refine pu 12 4 ?_
     refine done_ (done_of HT_.out (by kernel_rfl)) ?_
     try go_wp2
     go_ret
     exact ⟨_, eq_, by (with_reducible repeat (fail)); exact Kd.R_mono HO670.out (fun _ hk => trivial), bel1 GE644.out⟩
end Go.Proofs.YtdfnijaacnlfaaaGreat.QFnBookGuesses

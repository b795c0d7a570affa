import Derived.Test.YtdfnijaacnlfaaaQFnMachineGuessesx0
import Derived.Test.YtdfnijaacnlfaaaVMSh2
namespace Go.Proofs.Ytdfnijaacnlfaaa.QFnMachineGuesses
open Go.RowKit Go.Proofs.YtdfnijaacnlfaaaW.PrintWords Go.Proofs.YtdfnijaacnlfaaaW.PrintLast Go.Proofs.YtdfnijaacnlfaaaW.PrintMore Go.Proofs.Ytdfnijaacnlfaaa.Sh
attribute [local go_sem] max2_int min2_int max_two min_two max_three min_three max_four min_four
set_option linter.unusedVariables false
set_option linter.unusedSimpArgs false
set_option maxHeartbeats 8000000
set_option maxRecDepth 100000
-- shrunk

/-! ### spec_l3Sort: function 153 -/
mutual
def spec_l3Sort.l0 : Nat → List (List ByteArray) → List (List ByteArray) → Int → Option ((List (List ByteArray)))
 | 0, _, _, _ => none
 | k + 1, x0, x3, x4 => if x4 < (x0.length : Int) then (spec_l3Sort.l1 k x0 x3 x4 (x3.length : Int)) else (some x3)
def spec_l3Sort.l1 : Nat → List (List ByteArray) → List (List ByteArray) → Int → Int → Option ((List (List ByteArray)))
 | 0, _, _, _, _ => none
 | k + 1, x0, x3, x4, x5 => if x5 > 0 then (if 0 ≤ x4 then (if x4 < (x0.length : Int) then (if 0 ≤ (wrap64 (x5 - 1)) then (if (wrap64 (x5 - 1)) < (x3.length : Int) then ((spec_l3Less.f k (rd_L2 x0 x4) (rd_L2 x3 (wrap64 (x5 - 1)))).bind fun t138 => (spec_l3Sort.j2 k x0 x3 x4 x5 t138)) else (none)) else (none)) else (none)) else (none)) else (spec_l3Sort.j2 k x0 x3 x4 x5 false)
def spec_l3Sort.j2 : Nat → List (List ByteArray) → List (List ByteArray) → Int → Int → Bool → Option ((List (List ByteArray)))
 | 0, _, _, _, _, _ => none
 | k + 1, x0, x3, x4, x5, x28 => if x28 = true then (spec_l3Sort.l1 k x0 x3 x4 (wrap64 (x5 - 1))) else ((some (([] : List (List ByteArray)) : List (List ByteArray))).bind fun y139 => (if 0 ≤ x5 then (if x5 ≤ (x3.length : Int) then ((some (x3.take (x5 : Int).toNat : List (List ByteArray))).bind fun y142 => (if y139.length + y142.length < 5864062014805 then ((some (y139 ++ y142 : List (List ByteArray))).bind fun y147 => (if 0 ≤ x4 then (if x4 < (x0.length : Int) then ((some (([rd_L2 x0 x4] : List (List ByteArray)) : List (List ByteArray))).bind fun y151 => (if y147.length + y151.length < 5864062014805 then ((some (y147 ++ y151 : List (List ByteArray))).bind fun y154 => ((some (x3.drop (x5 : Int).toNat : List (List ByteArray))).bind fun y157 => (if y154.length + y157.length < 5864062014805 then (spec_l3Sort.l0 k x0 (y154 ++ y157) (wrap64 (x4 + 1))) else (none)))) else (none))) else (none)) else (none))) else (none))) else (none)) else (none)))
end
def spec_l3Sort.f (k : Nat) (l0 : List (List ByteArray)) : Option ((List (List ByteArray))) := spec_l3Sort.l0 k l0 (([] : List (List ByteArray))) 0
def spec_l3Sort.T6 : Bool × List (List Nat × List Nat) := (true, [([], []), ([0], [0]), ([1], [1]), ([2], [2]), ([2], [2]), ([3, 4, 2], [2, 3, 4]), ([5, 2], [2, 5]), ([2], [2]), ([2], [2]), ([8, 2], [2, 8]), ([7, 9, 2], [2, 7, 9]), ([10, 2], [2, 10]), ([6, 11, 2, 2], [2, 6, 11]), ([2, 12], [2, 12])])
def spec_l3Sort.B6 : List Nat := [0, 1, 3, 7, 7, 31, 63, 7, 7, 263, 903, 1927, 4095, 8191]
theorem spec_l3Sort.tab6 : rtab .any (opsOf Try.f153 6) = spec_l3Sort.T6 := by kernel_rfl
theorem spec_l3Sort.bits6 : waitsOk spec_l3Sort.T6.2 spec_l3Sort.B6 = true := by kernel_rfl
def spec_l3Sort.T8 : Bool × List (List Nat × List Nat) := (true, [([], []), ([], []), ([], []), ([1, 2], [1, 2]), ([0, 3], [0, 3]), ([], []), ([], []), ([5, 6], [5, 6]), ([7], [7]), ([8], [8]), ([4, 9, 4], [4, 9]), ([], []), ([], []), ([11, 12], [11, 12]), ([10, 13, 10], [10, 13]), ([14, 14, 0, 1, 2, 3, 4, 5, 6, 7, 8, 9, 10, 11, 12, 13, 14], [1, 11, 14])])
def spec_l3Sort.B8 : List Nat := [0, 0, 0, 6, 15, 0, 0, 96, 224, 480, 1023, 0, 0, 6144, 16383, 32767]
theorem spec_l3Sort.tab8 : rtab .any (opsOf Try.f153 8) = spec_l3Sort.T8 := by kernel_rfl
theorem spec_l3Sort.bits8 : waitsOk spec_l3Sort.T8.2 spec_l3Sort.B8 = true := by kernel_rfl
theorem spec_l3Sort.calls (k : Nat) (P0_ : Nat → Prop) (A0 : Option Addr) (c0 : Nat) (l0 : List (List ByteArray)) (r : List (List ByteArray)) (w : World) (hs0 : Kd.V (Kd.slice 9 Kd.string) 27 w w.heap.size (fun k_ => P0_ k_) (.slice A0 l0.length c0) l0) (h : spec_l3Sort.f k l0 = some r) :
  Calls Try.prog 153 #[.slice A0 l0.length c0] w fun e w' => ∃ v0_ : Value, e = .returned (v0_) ∧ Kd.N (Kd.slice 9 Kd.string) 27 w' w.heap.size (fun k_ => (P0_ k_ ∨ w.heap.size ≤ k_)) v0_ r ∧ Below w.heap.size w w' := by
 have HO0 := am (show Kd.V (Kd.slice 9 Kd.string) 27 w w.heap.size (fun k_ => (P0_ k_ ∨ w.heap.size ≤ k_)) (.slice A0 l0.length c0) l0 from Kd.V_mono hs0 (fun k_ hk => .inl hk)); have HB := am (Below.refl w.heap.size w)
 have H := h; unfold spec_l3Sort.f at H
 clear h; obtain ⟨y133, hy133⟩ : ∃ y_ : List (List ByteArray), y_ = (([] : List (List ByteArray))) := ⟨_, rfl⟩
 rw [← hy133] at H
 have Ny133 := am hy133; clear hy133
 have H' := am H
 clear H; go_enter Try.func153, Try.ntmps153
 go_wp2_with ((with_reducible refine gate_dst (N := 6) rfl ?_); refine Kd.N_lit (Kd.slice 9 Kd.string) _ 27 ?hg (N' := 6) ?hd (xs := ([] : List (List ByteArray))) (inner := []) (ok := (fun k_ => (P0_ k_ ∨ w.heap.size ≤ k_))) (okp := (fun k_ => (P0_ k_ ∨ w.heap.size ≤ k_))) ?hr ?hp (fun _ hk => hk) ((show ∀ k_, w.heap.size ≤ k_ → (fun k_ => (P0_ k_ ∨ w.heap.size ≤ k_)) k_ from fun k_ hk => (.inr (Nat.le_trans (below_size bel) hk))) _ (Nat.le_refl _)) (Below.refl _ _) (Nat.le_refl _) (by simp) ?_; (case hd => rfl); (case hg => rfl); (case hr => (go_simp; done)); (case hp => exact (Reps.none _ _)); intro v134 w2 ho3 hb hg_ hnew_; clear hg_ hnew_; (rw [← Ny133.out] at ho3); replace HO0 := am (Kd.V_elder' (vq HO0.out) (Kd.N_base ho3) hb); have HO135 := am (Kd.N_lower ho3 (below_size bel)); replace HB := am (below_step bel hb); clear hb ho3)
 go_loopg [3, 4] k (fun kq v3 v4 w' => ∃ (x3_1 : List (List ByteArray)) (x4_1 : Int), v4 = .int .i64 x4_1 ∧ Aside0 (spec_l3Sort.l0 kq l0 x3_1 x4_1 = some r) ∧ Aside0 (kq ≤ k) ∧ Aside0 (Kd.V (Kd.slice 9 Kd.string) 27 w' w.heap.size (fun k_ => (P0_ k_ ∨ w.heap.size ≤ k_) ∧ some k_ ≠ (v3 : Value).ownBlock) (.slice A0 l0.length c0) l0) ∧ Aside0 (Kd.N (Kd.slice 9 Kd.string) 27 w' w.heap.size (fun k_ => (P0_ k_ ∨ w.heap.size ≤ k_)) v3 x3_1) ∧ Aside0 (Below w.heap.size w w'))
 case atStart => exact ⟨(y133), (0), sq, H', ⟨Nat.le_refl _⟩, ⟨vq HO0.out⟩, ⟨by (with_reducible repeat (fail)); exact HO135.out⟩, ⟨bel⟩⟩
 case round =>
  clear H'; obtain ⟨x3_1, x4_1, rfl, HA, HK1, HO_0, HO_3, HB⟩ := hrel
  cases gk with
  | zero => exact absurd HA.out (by simp [spec_l3Sort.l0])
  | succ k1 =>
   have H := HA.out; clear HA; simp only [spec_l3Sort.l0] at H
   by_cases c4 : x4_1 < (l0.length : Int)
   ·rw [if_pos c4] at H; have c4b0 := decide_eq_true c4; clear c4
    have H' := am H
    clear H; obtain ⟨Ao5, co5, eo5⟩ := Kd.N_slice HO_3.out; subst eo5; go_wp2
    go_loopg [5] k1 (fun kq v5 w' => ∃ (x5_2 : Int), v5 = .int .i64 x5_2 ∧ Aside0 (spec_l3Sort.l1 kq l0 x3_1 x4_1 x5_2 = some r) ∧ Aside0 (kq ≤ k1) ∧ Aside0 (Kd.V (Kd.slice 9 Kd.string) 27 w' w.heap.size (fun k_ => (P0_ k_ ∨ w.heap.size ≤ k_) ∧ some k_ ≠ ((.slice Ao5 x3_1.length co5) : Value).ownBlock) (.slice A0 l0.length c0) l0) ∧ Aside0 (Kd.N (Kd.slice 9 Kd.string) 27 w' w.heap.size (fun k_ => (P0_ k_ ∨ w.heap.size ≤ k_)) (.slice Ao5 x3_1.length co5) x3_1) ∧ Aside0 (Below w.heap.size w w'))
    case atStart => exact ⟨((x3_1.length : Int)), sq, H', ⟨Nat.le_refl _⟩, ⟨vq HO_0.out⟩, ⟨b9_⟩, ⟨bel⟩⟩
    case round =>
     clear H'; clear c4b0; obtain ⟨x5_2, rfl, HA, HK2, HO_0, HO_3, HB⟩ := hrel
     cases gk with
     | zero => exact absurd HA.out (by simp [spec_l3Sort.l1])
     | succ k2 =>
      have H := HA.out; clear HA; simp only [spec_l3Sort.l1] at H; have HC6 := am H; clear H
      go_upto_region 6 with (fail)
      go_cut [28] (fun v28 wc => ∃ (kq : Nat) (x28_5 : Bool), v28 = .bool x28_5 ∧ Aside0 (spec_l3Sort.j2 kq l0 x3_1 x4_1 x5_2 x28_5 = some r) ∧ Aside0 (kq ≤ k2) ∧ Aside0 (Kd.V (Kd.slice 9 Kd.string) 27 wc w.heap.size (fun k_ => (P0_ k_ ∨ w.heap.size ≤ k_) ∧ some k_ ≠ ((.slice Ao5 x3_1.length co5) : Value).ownBlock) (.slice A0 l0.length c0) l0) ∧ Aside0 (Kd.N (Kd.slice 9 Kd.string) 27 wc w.heap.size (fun k_ => (P0_ k_ ∨ w.heap.size ≤ k_)) (.slice Ao5 x3_1.length co5) x3_1) ∧ Aside0 (Below w.heap.size w wc))
      case first =>
       have H := HC6.out; clear HC6
       by_cases c7 : x5_2 > 0
       ·rw [if_pos c7] at H; have c7b0 := decide_eq_true c7; clear c7
        (skip)
        replace H := it H; obtain ⟨c8b0, H⟩ := H
        replace H := it H; obtain ⟨c9b0, H⟩ := H; obtain ⟨ji10, hji10⟩ : ∃ j_ : Int, (wrap64 (x5_2 - 1)) = j_ := ⟨_, rfl⟩
        rw [hji10] at H
        have hji10w : (IntKind.i64.wrap (x5_2 - 1)) = ji10 := (i64_w _).trans hji10
        replace H := it H; obtain ⟨c11b0, H⟩ := H
        replace H := it H; obtain ⟨c12b0, H⟩ := H; replace H := bs H; obtain ⟨t138, A130, H⟩ := H; have A13 := Aside0.mk A130; clear A130
        have H' := am H
        clear H
        try go_wp2
        replace HO_0 := am (Kd.V_drew HO_0.out); replace HO_3 := am (Kd.N_drew HO_3.out); replace HB := am (below_drew1 HB.out)
        have p136 : 0 ≤ (x4_1 : Int) := of_decide_eq_true ad
        have q136 : x4_1 < (l0.length : Int) := of_decide_eq_true ad
        obtain ⟨ad136, A136_0, c136_0, e136, hx136_0, hl136_0, hi136_0⟩ := at_L2 (Kd.V_reads' HO_0.out).2.2 x4_1 p136 q136; cases e136
        obtain ⟨ce136, hce136, hMe136, hcc136⟩ := Kd.V_get HO_0.out [] x4_1 p136 (by exact q136)
        obtain ⟨ua136_0, uc136_0, rfl, ul136_0, ge136_0⟩ := Kd.FK_slice_open hMe136; have hv136_0 := hcc136 0 _ rfl; rw [Nat.add_zero, show ((Kd.slice 9 Kd.string)).sz = 1 from rfl, Nat.mul_one] at hv136_0; replace hv136_0 := Option.some.inj (hv136_0.symm.trans hx136_0)
        injection hv136_0 with hva_ hvn_ hvc_
        rw [hva_] at ge136_0; rw [hvc_] at ul136_0; have HL136_0 := am (show Kd.V Kd.string 9 _ w.heap.size _ _ (rd_L2 l0 x4_1) from Kd.V_mk ul136_0 ge136_0); clear hva_ hvn_ hvc_ ge136_0 ul136_0; clear hcc136 hce136; have HR136_0 := am hi136_0; have HC136_0 := am hl136_0; clear hi136_0 hl136_0; replace p136 := eq_true p136; replace q136 := eq_true q136
        have p137 : 0 ≤ ((ji10) : Int) := of_decide_eq_true ad
        have q137 : (ji10) < (x3_1.length : Int) := of_decide_eq_true ad
        obtain ⟨ad137, A137_0, c137_0, e137, hx137_0, hl137_0, hi137_0⟩ := at_L2 (Kd.N_reads' HO_3.out).2.2 (ji10) p137 q137; cases e137
        obtain ⟨ce137, hce137, hMe137, hcc137⟩ := Kd.N_get HO_3.out [] (ji10) p137 (by exact q137)
        obtain ⟨ua137_0, uc137_0, rfl, ul137_0, ge137_0⟩ := Kd.FK_slice_open hMe137; have hv137_0 := hcc137 0 _ rfl; rw [Nat.add_zero, show ((Kd.slice 9 Kd.string)).sz = 1 from rfl, Nat.mul_one] at hv137_0; replace hv137_0 := Option.some.inj (hv137_0.symm.trans hx137_0)
        injection hv137_0 with hva_ hvn_ hvc_
        rw [hva_] at ge137_0; rw [hvc_] at ul137_0; have HL137_0 := am (show Kd.V Kd.string 9 _ w.heap.size _ _ (rd_L2 x3_1 (ji10)) from Kd.V_mk ul137_0 ge137_0); clear hva_ hvn_ hvc_ ge137_0 ul137_0; clear hcc137 hce137; have HR137_0 := am hi137_0; have HC137_0 := am hl137_0; clear hi137_0 hl137_0; replace p137 := eq_true p137; replace q137 := eq_true q137
        refine st (n := 14) (S := fun w' => w'.cell? (ad136.add (x4_1).toNat) = some (.slice A136_0 (rd_L2 l0 x4_1).length c136_0) ∧ w'.cell? (ad137.add ((ji10)).toNat) = some (.slice A137_0 (rd_L2 x3_1 (ji10)).length c137_0)) (ds := []) ⟨hx136_0, hx137_0⟩ (fun hHeld => ?_); refine with_tabW spec_l3Sort.tab6 spec_l3Sort.bits6 (fun HT_ HW_ => ?_)
        generalize wr.drew = w14 at HO_0 HO_3 HB HL136_0 HL137_0 HR136_0 HR137_0 hx136_0 hx137_0 hHeld ⊢; refine pu 0 15 ?_; refine pu 1 16 ?_; refine pu 2 17 ?_; refine pu 3 18 ?_; refine pu 4 19 ?_; refine pu 5 20 ?_; refine pu 7 22 ?_; refine pu 8 23 ?_; refine pu 9 24 ?_; refine pu 10 25 ?_; refine tk2 6 21 hHeld ?_; refine tk2 11 26 hHeld ?_; refine on1 12 27 (fun K hK => ?_)
        refine goes_ Try.func165 (by kernel_rfl) rfl #[.slice A136_0 (rd_L2 l0 x4_1).length c136_0, .slice A137_0 (rd_L2 x3_1 (ji10)).length c137_0] (by rfl) rfl rfl (by simp only [List.map_toArray, List.map_cons, List.map_nil]; rfl) ?_
        with_reducible refine (spec_l3Less.calls k2 _ _ (rd_L2 l0 x4_1) _ _ (rd_L2 x3_1 (ji10)) t138 _ ?side1 ?side2 ?side3 ?side4 A13.out).mono ?_
        (case side1 => repeat (exact (by repeat (with_reducible exact HR136_0.out)))); (case side2 => exact HC136_0.out); (case side3 => repeat (exact (by repeat (with_reducible exact HR137_0.out)))); (case side4 => exact HC137_0.out)
        rintro e w' ⟨rfl, ⟨nd, rfl⟩⟩
        refine ⟨_, rfl, ?_⟩; refine hK.out _ _ ⟨hHeld.1, hHeld.2⟩ (fun hHeld => ?_); clear hK K; refine nm 27 ?_; refine pu 13 28 ?_
        refine done_ (done_of HT_.out (by kernel_rfl)) ?_
        try go_wp2
        go_meet
        case rel => exact ⟨_, (t138), sq, H', ⟨b82_⟩, ⟨vq HO_0.out⟩, ⟨b9_⟩, ⟨bel⟩⟩
       rw [if_neg c7] at H; have c7b0 := decide_eq_false c7; clear c7
       (skip)
       have H' := am H
       clear H
       try go_wp2
       replace HO_0 := am (Kd.V_drew HO_0.out); replace HO_3 := am (Kd.N_drew HO_3.out); replace HB := am (below_drew1 HB.out)
       refine st (n := 14) (S := fun w' => True) (ds := []) trivial (fun hHeld => ?_); refine with_tabW spec_l3Sort.tab6 spec_l3Sort.bits6 (fun HT_ HW_ => ?_)
       generalize wr.drew = w15 at HO_0 HO_3 HB hHeld ⊢; refine pu 0 15 ?_; refine pu 1 16 ?_; refine pu 2 17 ?_; refine puu 3 18 ?_; refine puu 4 19 ?_; refine puu 5 20 ?_; refine puu 6 21 ?_; refine puu 7 22 ?_; refine puu 8 23 ?_; refine puu 9 24 ?_; refine puu 10 25 ?_; refine puu 11 26 ?_; refine puu 12 27 ?_; refine pu 13 28 ?_
       refine done_ (done_of HT_.out (by kernel_rfl)) ?_
       try go_wp2
       go_meet
       case rel => exact ⟨_, (false), sq, H', ⟨b82_⟩, ⟨vq HO_0.out⟩, ⟨b9_⟩, ⟨bel⟩⟩
      case rest =>
       clear HC6; obtain ⟨kq, x28_5, rfl, HA, HJ5, HO_0, HO_3, HB⟩ := hcut
       cases kq with
       | zero => exact absurd HA.out (by simp [spec_l3Sort.j2])
       | succ kj5 =>
        have H := HA.out; clear HA; simp only [spec_l3Sort.j2] at H
        by_cases c16 : x28_5 = true
        ·subst c16
         rw [if_pos rfl] at H
         have H' := am H
         clear H; go_wp2
         go_roundg kj5
         case measure => have := HK1.out; have := HK2.out; have := HJ5.out; omega
         case rel => exact ⟨(wrap64 (x5_2 - 1)), sq, H', ⟨by have := HK1.out; have := HK2.out; have := HJ5.out; omega⟩, ⟨vq HO_0.out⟩, ⟨b9_⟩, ⟨bel⟩⟩
        replace c16 := Bool.eq_false_iff.mpr c16; subst c16
        rw [if_neg Bool.false_ne_true] at H
        obtain ⟨y139, hy139⟩ : ∃ y_ : List (List ByteArray), y_ = (([] : List (List ByteArray))) := ⟨_, rfl⟩
        replace H : (if 0 ≤ x5_2 then (if x5_2 ≤ (x3_1.length : Int) then ((some (x3_1.take (x5_2 : Int).toNat : List (List ByteArray))).bind fun y142 => (if y139.length + y142.length < 5864062014805 then ((some (y139 ++ y142 : List (List ByteArray))).bind fun y147 => (if 0 ≤ x4_1 then (if x4_1 < (l0.length : Int) then ((some (([rd_L2 l0 x4_1] : List (List ByteArray)) : List (List ByteArray))).bind fun y151 => (if y147.length + y151.length < 5864062014805 then ((some (y147 ++ y151 : List (List ByteArray))).bind fun y154 => ((some (x3_1.drop (x5_2 : Int).toNat : List (List ByteArray))).bind fun y157 => (if y154.length + y157.length < 5864062014805 then (spec_l3Sort.l0 kj5 l0 (y154 ++ y157) (wrap64 (x4_1 + 1))) else (none)))) else (none))) else (none)) else (none))) else (none))) else (none)) else (none)) = some r := by (have H2_ := bm H; rw [hy139]; with_reducible exact H2_)
        have Ny139 := am hy139; clear hy139; replace H := ip H; obtain ⟨c17, H⟩ := H; have c17b0 := eq_true c17
        have c17b1 : decide (0 ≤ x5_2) = true := decide_eq_true c17
        clear c17; replace H := ip H; obtain ⟨c18, H⟩ := H; have c18b0 := eq_true c18
        have c18b1 : decide (x5_2 ≤ (x3_1.length : Int)) = true := decide_eq_true c18
        clear c18; obtain ⟨y142, hy142⟩ : ∃ y_ : List (List ByteArray), y_ = (x3_1.take (x5_2 : Int).toNat) := ⟨_, rfl⟩
        replace H := bm H; rw [← hy142] at H
        have Ny142 := am hy142; clear hy142
        replace H := ip H; obtain ⟨c19, H⟩ := H; have LMc19 := Aside0.mk c19; clear c19; obtain ⟨y147, hy147⟩ : ∃ y_ : List (List ByteArray), y_ = (y139 ++ y142) := ⟨_, rfl⟩
        replace H := bm H; rw [← hy147] at H
        have Ny147 := am hy147; clear hy147; replace H := it H; obtain ⟨c20b0, H⟩ := H
        replace H := it H; obtain ⟨c21b0, H⟩ := H; obtain ⟨y151, hy151⟩ : ∃ y_ : List (List ByteArray), y_ = (([rd_L2 l0 x4_1] : List (List ByteArray))) := ⟨_, rfl⟩
        replace H := bm H; rw [← hy151] at H
        have Ny151 := am hy151; clear hy151
        replace H := ip H; obtain ⟨c22, H⟩ := H; have LMc22 := Aside0.mk c22; clear c22; obtain ⟨y154, hy154⟩ : ∃ y_ : List (List ByteArray), y_ = (y147 ++ y151) := ⟨_, rfl⟩
        replace H := bm H; rw [← hy154] at H
        have Ny154 := am hy154; clear hy154; have c23b0 := eq_true (of_decide_eq_true ad : 0 ≤ x5_2); have c24b0 := eq_true (of_decide_eq_true ad : x5_2 ≤ (x3_1.length : Int)); obtain ⟨y157, hy157⟩ : ∃ y_ : List (List ByteArray), y_ = (x3_1.drop (x5_2 : Int).toNat) := ⟨_, rfl⟩
        replace H := bm H; rw [← hy157] at H
        have Ny157 := am hy157; clear hy157
        replace H := ip H; obtain ⟨c25, H⟩ := H; have LMc25 := Aside0.mk c25; clear c25; obtain ⟨y162, hy162⟩ : ∃ y_ : List (List ByteArray), y_ = (y154 ++ y157) := ⟨_, rfl⟩
        rw [← hy162] at H
        have Ny162 := am hy162; clear hy162
        have H' := am H
        clear H
        try go_wp2
        replace HO_0 := am (Kd.V_drew HO_0.out); replace HO_3 := am (Kd.N_drew HO_3.out); replace HB := am (below_drew1 HB.out)
        have q27 : (x5_2 : Int) ≤ ((x3_1.length : Int) : Int) := of_decide_eq_true ad
        obtain ⟨i027, hi027, _, hsz27, _⟩ := info_parts info27
        have hroom27 : x3_1.length ≤ co5 := (Kd.N_reads' HO_3.out).2.1
        have hC27 : Kd.F (Kd.slice 9 Kd.string) _ _ Ao5 x3_1.length x3_1 := (Kd.V_at (base := w.heap.size) (Kd.N_V HO_3.out)).2.2
        have hcut27 := cut_to (P := Try.prog) 153 27 .i64 Try.underlying153 hi027 Ao5 x3_1.length co5 x5_2 (of_decide_eq_true ad) q27 hroom27; have hr27 := Kd.F_take (m := (x5_2 : Int).toNat) hC27 (by omega)
        have hy27 : y142.length = (x5_2 : Int).toNat := (by rw [Ny142.out, List.length_take]; omega)
        rw [← Ny142.out] at hr27; rw [← hy27] at hcut27
        have HO146 := am (show Kd.V (Kd.slice 9 Kd.string) 27 _ w.heap.size _ (.slice Ao5 y142.length co5) y142 from Kd.V_mk (by omega) hr27)
        have HC146 := am (show y142.length ≤ co5 from by omega)
        clear hr27 hC27 hroom27 hi027 hsz27; have KY27 := am hy27; clear hy27; replace q27 := eq_true q27
        have p150 : 0 ≤ (x4_1 : Int) := of_decide_eq_true ad
        have q150 : x4_1 < (l0.length : Int) := of_decide_eq_true ad
        obtain ⟨ad150, A150_0, c150_0, e150, hx150_0, hl150_0, hi150_0⟩ := at_L2 (Kd.V_reads' HO_0.out).2.2 x4_1 p150 q150; cases e150
        obtain ⟨ce150, hce150, hMe150, hcc150⟩ := Kd.V_get HO_0.out [] x4_1 p150 (by exact q150)
        obtain ⟨ua150_0, uc150_0, rfl, ul150_0, ge150_0⟩ := Kd.FK_slice_open hMe150; have hv150_0 := hcc150 0 _ rfl; rw [Nat.add_zero, show ((Kd.slice 9 Kd.string)).sz = 1 from rfl, Nat.mul_one] at hv150_0; replace hv150_0 := Option.some.inj (hv150_0.symm.trans hx150_0)
        injection hv150_0 with hva_ hvn_ hvc_
        rw [hva_] at ge150_0; rw [hvc_] at ul150_0; have HL150_0 := am (show Kd.V Kd.string 9 _ w.heap.size _ _ (rd_L2 l0 x4_1) from Kd.V_mk ul150_0 ge150_0); clear hva_ hvn_ hvc_ ge150_0 ul150_0; clear hcc150 hce150; have HR150_0 := am hi150_0; have HC150_0 := am hl150_0; clear hi150_0 hl150_0; replace p150 := eq_true p150; replace q150 := eq_true q150
        have q28 : (x5_2 : Int) ≤ ((x3_1.length : Int) : Int) := of_decide_eq_true ad
        obtain ⟨i028, hi028, _, hsz28, _⟩ := info_parts info27
        have hroom28 : x3_1.length ≤ co5 := (Kd.N_reads' HO_3.out).2.1
        have hC28 : Kd.F (Kd.slice 9 Kd.string) _ _ Ao5 x3_1.length x3_1 := (Kd.V_at (base := w.heap.size) (Kd.N_V HO_3.out)).2.2
        have q028 : (0 : Int) ≤ (x5_2 : Int) := of_decide_eq_true ad
        have hcut28 := cut_from (P := Try.prog) 153 27 .i64 Try.underlying153 hi028 1 hsz28 Ao5 x3_1.length co5 x5_2 q028 q28; have hr28 := Kd.F_cut (m := (x5_2 : Int).toNat) (c := co5) hC28 (by omega) hroom28
        obtain ⟨A28, hA28⟩ : ∃ A1, A1 = (if co5 = (x5_2 : Int).toNat then Ao5 else (Ao5 : Option Addr).map (·.add ((x5_2 : Int).toNat * 1))) := ⟨_, rfl⟩; obtain ⟨c28, hc28⟩ : ∃ c1, c1 = co5 - (x5_2 : Int).toNat := ⟨_, rfl⟩
        have hy28 : y157.length = x3_1.length - (x5_2 : Int).toNat := (by rw [Ny157.out, List.length_drop] <;> omega)
        rw [show (x3_1).drop (x5_2 : Int).toNat = y157 from Ny157.out.symm] at hr28
        replace hr28 : Kd.F (Kd.slice 9 Kd.string) _ _ A28 y157.length y157 := (by rw [hA28]; exact hr28)
        rw [← hy28, ← hA28, ← hc28] at hcut28
        have HO161 := am (show Kd.V (Kd.slice 9 Kd.string) 27 _ w.heap.size _ (.slice A28 y157.length c28) y157 from Kd.V_mk (by rw [hy28, hc28]; exact Nat.sub_le_sub_right hroom28 _) hr28)
        have HC161 := am (show y157.length ≤ c28 from by rw [hy28, hc28]; exact Nat.sub_le_sub_right hroom28 _)
        clear hr28 hC28 hroom28 hi028 hsz28 hc28; have KY28 := am hy28; have KA28 := am hA28; clear hy28 hA28; replace q28 := eq_true q28
        refine st (n := 16) (S := fun w' => w'.cell? (ad150.add (x4_1).toNat) = some (.slice A150_0 (rd_L2 l0 x4_1).length c150_0)) (ds := []) (hx150_0) (fun hHeld => ?_); refine with_tabW spec_l3Sort.tab8 spec_l3Sort.bits8 (fun HT_ HW_ => ?_)
        generalize wc.drew = w26 at HO_0 HO_3 HB HL150_0 HO146 HO161 HR150_0 hx150_0 hHeld ⊢; refine pu 1 32 ?_; refine pu 2 33 ?_; refine pu 3 34 ?_; refine pu 5 36 ?_; refine pu 6 37 ?_; refine pu 7 38 ?_; refine pu 11 42 ?_; refine pu 12 43 ?_; refine pu 13 44 ?_; refine tk1 8 39 hHeld ?_
        refine join_ (σ := Value × Value × Value) 3 #[true, true, true, true, true, true, true, true, true, true, false, true, true, true, false, false] (fun s_ => [(31, s_.1), (35, s_.2.1), (40, s_.2.2)]) (fun s_ w' => (w'.cell? (ad150.add (x4_1).toNat) = some (.slice A150_0 (rd_L2 l0 x4_1).length c150_0)) ∧ (Kd.V Kd.string 9 w' w.heap.size (fun k_ => (P0_ k_ ∨ w.heap.size ≤ k_) ∧ some k_ ≠ (s_.2.1 : Value).ownBlock ∧ some k_ ≠ (s_.2.2 : Value).ownBlock ∧ some k_ ≠ (.slice Ao5 x3_1.length co5 : Value).ownBlock) (.slice A150_0 (rd_L2 l0 x4_1).length c150_0) (rd_L2 l0 x4_1)) ∧ (Kd.V (Kd.slice 9 Kd.string) 27 w' w.heap.size (fun k_ => (P0_ k_ ∨ w.heap.size ≤ k_) ∧ some k_ ≠ (s_.2.1 : Value).ownBlock ∧ some k_ ≠ (s_.2.2 : Value).ownBlock) (.slice Ao5 y142.length co5) y142) ∧ (Kd.N (Kd.slice 9 Kd.string) 27 w' w.heap.size (fun k_ => (P0_ k_ ∨ w.heap.size ≤ k_) ∧ some k_ ≠ (s_.2.2 : Value).ownBlock) s_.2.1 y147) ∧ (Kd.N (Kd.slice 9 Kd.string) 27 w' w.heap.size (fun k_ => (P0_ k_ ∨ w.heap.size ≤ k_) ∧ some k_ ≠ (s_.2.1 : Value).ownBlock ∧ some k_ ≠ (.slice Ao5 x3_1.length co5 : Value).ownBlock) s_.2.2 y151) ∧ (Kd.V (Kd.slice 9 Kd.string) 27 w' w.heap.size (fun k_ => (P0_ k_ ∨ w.heap.size ≤ k_) ∧ some k_ ≠ (s_.2.1 : Value).ownBlock ∧ some k_ ≠ (s_.2.2 : Value).ownBlock) (.slice A28 y157.length c28) y157) ∧ (Kd.V (Kd.slice 9 Kd.string) 27 w' w.heap.size (fun k_ => (P0_ k_ ∨ w.heap.size ≤ k_) ∧ some k_ ≠ (s_.2.1 : Value).ownBlock ∧ some k_ ≠ (s_.2.2 : Value).ownBlock ∧ some k_ ≠ (.slice Ao5 x3_1.length co5 : Value).ownBlock) (.slice (some ad150) l0.length c0) l0) ∧ (Kd.N (Kd.slice 9 Kd.string) 27 w' w.heap.size (fun k_ => (P0_ k_ ∨ w.heap.size ≤ k_) ∧ some k_ ≠ (s_.2.1 : Value).ownBlock ∧ some k_ ≠ (s_.2.2 : Value).ownBlock) (.slice Ao5 x3_1.length co5) x3_1) ∧ (Below w.heap.size w w')) ?_ ?_
        rotate_left
        ·intro hCont
         refine two_ (i := 0) (j := 9) (Ni := some 31) (Nj := some 40) #[true, true, true, true, false, true, true, true, true, false, false, true, true, true, false, false] #[false, true, true, true, false, true, true, true, true, true, false, true, true, true, false, false] rfl rfl rfl rfl (two_of HT_.out (by kernel_rfl)) (by decide) (by decide) (fun K hK => ?_) (fun K hK => ?_)
         ·skip
          refine Kd.N_lit_step (Kd.slice 9 Kd.string) _ 27 ?hg (N' := 31) ?hd (xs := ([] : List (List ByteArray))) (inner := []) (ok := (fun k_ => (P0_ k_ ∨ w.heap.size ≤ k_) ∧ some k_ ≠ (.slice Ao5 x3_1.length co5 : Value).ownBlock)) (okp := (fun k_ => (P0_ k_ ∨ w.heap.size ≤ k_) ∧ some k_ ≠ (.slice Ao5 x3_1.length co5 : Value).ownBlock)) ?hr ?hp (fun _ hk => hk) ((show ∀ k_, w26.heap.size ≤ k_ → (fun k_ => (P0_ k_ ∨ w.heap.size ≤ k_) ∧ some k_ ≠ (.slice Ao5 x3_1.length co5 : Value).ownBlock) k_ from fun k_ hk => ⟨(.inr (Nat.le_trans (below_size bel) hk)), Kd.fresh' (Kd.N_lt b9_) k_ hk⟩) _ (Nat.le_refl _)) (Below.refl _ _) (Nat.le_refl _) (by simp) ?_; (case hd => rfl); (case hg => rfl); (case hr => (go_simp; done)); (case hp => exact (Reps.none _ _))
          intro v140 w29 ho30 hb hg_ hnew_; have HS0_ := (hb.cell (World.block_lt_of_cell? _ _ (hHeld))).trans (hHeld); clear hg_ hnew_
          (rw [← Ny139.out] at ho30)
          replace HO_0 := am (Kd.V_elder' (vq HO_0.out) (Kd.N_base ho30) hb); replace HO_3 := am (Kd.N_elder' b9_ (Kd.N_base ho30) hb); replace HO146 := am (Kd.V_elder' (vq HO146.out) (Kd.N_base ho30) hb); replace HL150_0 := am (Kd.V_elder' (vq HL150_0.out) (Kd.N_base ho30) hb); replace HO161 := am (Kd.V_elder' (vq HO161.out) (Kd.N_base ho30) hb); have HO141 := am (Kd.N_lower ho30 (below_size bel)); replace HR150_0 := am (Kd.C_below b42_ hb); replace HB := am (below_step bel hb); clear hb ho30; refine hK.out _ _ (HS0_) (fun hHeld => ?_); clear hK K; refine nm 31 ?_
          refine two_ (i := 4) (j := 9) (Ni := some 35) (Nj := some 40) #[true, true, true, true, true, true, true, true, true, false, false, true, true, true, false, false] #[true, true, true, true, false, true, true, true, true, true, false, true, true, true, false, false] rfl rfl rfl rfl (two_of HT_.out (by kernel_rfl)) (by decide) (by decide) (fun K hK => ?_) (fun K hK => ?_)
          ·skip
           refine Kd.N_append_rows_step (Kd.slice 9 Kd.string) (w0 := w) w.heap.size (by rfl) (.tmp 31) (.tmp 34) 153 27 (.slice none 0 0) 24 rfl Try.underlying153 info27 rfl (by decide) (by omega) v140 y139 y142 _ _ _ (fun k_ => (P0_ k_ ∨ w.heap.size ≤ k_)) (fun k_ => ((fun k_ => (P0_ k_ ∨ w.heap.size ≤ k_))) k_ ∧ some k_ ≠ (v140 : Value).ownBlock) rfl rfl ?aO ?aR (fun _ hk => hk) ?aF ?aB ?aS ?aL ?_
           (case aR => exact (by skip; exact Kd.V_F (Kd.V_mono (ok' := (fun k_ => ((fun k_ => (P0_ k_ ∨ w.heap.size ≤ k_))) k_ ∧ some k_ ≠ (v140 : Value).ownBlock)) (HO146.out) (fun k_ hk => ⟨hk.1, hk.2⟩)))); (case aB => exact bel); (case aF => exact (fun k_ hk => (.inr (Nat.le_trans (below_size bel) hk)))); (case aO => exact (by (with_reducible repeat (fail)); exact Kd.N_mono HO141.out (fun _ hk => hk.1))); (case aS => exact (below_size bel)); (case aL => have := LMc19.out; omega); intro v148 w31 ho hb hg hat
           have HS0_ := cell_grown hg (by exact hHeld) b25_
           rw [← Ny147.out] at ho; replace HO_0 := am (Kd.V_afterv (ok := (fun k_ => (P0_ k_ ∨ w.heap.size ≤ k_) ∧ some k_ ≠ (.slice Ao5 x3_1.length co5 : Value).ownBlock)) (vq HO_0.out) hg hat)
           replace HO_3 := am (Kd.N_afterv (ok := (fun k_ => (P0_ k_ ∨ w.heap.size ≤ k_))) b9_ hg hat)
           replace HO146 := am (Kd.V_afterv (ok := (fun k_ => (P0_ k_ ∨ w.heap.size ≤ k_))) (vq HO146.out) hg hat); replace HL150_0 := am (Kd.V_afterv (ok := (fun k_ => (P0_ k_ ∨ w.heap.size ≤ k_) ∧ some k_ ≠ (.slice Ao5 x3_1.length co5 : Value).ownBlock)) (vq HL150_0.out) hg hat); replace HO161 := am (Kd.V_afterv (ok := (fun k_ => (P0_ k_ ∨ w.heap.size ≤ k_))) (vq HO161.out) hg hat); replace HB := am (hb); have HO149 := am (ho); clear HO141; clear ho hb hg hat
           refine hK.out _ _ (HS0_) (fun hHeld => ?_); clear hK K; refine nm 35 ?_; refine on1 9 40 (fun K hK => ?_)
           refine Kd.N_lit_step (Kd.slice 9 Kd.string) _ 27 ?hg (N' := 40) ?hd (xs := ([rd_L2 l0 x4_1] : List (List ByteArray))) (inner := [.slice A150_0 (rd_L2 l0 x4_1).length c150_0]) (ok := (fun k_ => (P0_ k_ ∨ w.heap.size ≤ k_) ∧ some k_ ≠ (.slice Ao5 x3_1.length co5 : Value).ownBlock ∧ some k_ ≠ (v148 : Value).ownBlock)) (okp := (fun k_ => (P0_ k_ ∨ w.heap.size ≤ k_) ∧ some k_ ≠ (.slice Ao5 x3_1.length co5 : Value).ownBlock ∧ some k_ ≠ (v148 : Value).ownBlock)) ?hr ?hp (fun _ hk => hk) ((show ∀ k_, w31.heap.size ≤ k_ → (fun k_ => (P0_ k_ ∨ w.heap.size ≤ k_) ∧ some k_ ≠ (.slice Ao5 x3_1.length co5 : Value).ownBlock ∧ some k_ ≠ (v148 : Value).ownBlock) k_ from fun k_ hk => ⟨(.inr (Nat.le_trans (below_size bel) hk)), Kd.fresh' (Kd.N_lt b9_) k_ hk, Kd.fresh' (Kd.N_lt b66_) k_ hk⟩) _ (Nat.le_refl _)) (Below.refl _ _) (Nat.le_refl _) (by simp) ?_; (case hd => rfl); (case hg => rfl); (case hr => (go_simp; done)); (case hp => exact (Reps.one (show Kd.FK (Kd.slice 9 Kd.string) _ _ (rd_L2 l0 x4_1) [.slice A150_0 (rd_L2 l0 x4_1).length c150_0] from (Kd.FK_slice_mk (Kd.V_reads' (Kd.V_mono (ok' := (fun k_ => (P0_ k_ ∨ w.heap.size ≤ k_) ∧ some k_ ≠ (.slice Ao5 x3_1.length co5 : Value).ownBlock ∧ some k_ ≠ (v148 : Value).ownBlock)) (HL150_0.out) (fun k_ hk => ⟨hk.1.1, ⟨hk.1.2, hk.2⟩⟩))).2.1 (Kd.V_F (Kd.V_mono (ok' := (fun k_ => (P0_ k_ ∨ w.heap.size ≤ k_) ∧ some k_ ≠ (.slice Ao5 x3_1.length co5 : Value).ownBlock ∧ some k_ ≠ (v148 : Value).ownBlock)) (HL150_0.out) (fun k_ hk => ⟨hk.1.1, ⟨hk.1.2, hk.2⟩⟩))))) (Reps.none _ _)))
           intro v152 w32 ho33 hb hg_ hnew_; have HS0_ := (hb.cell (World.block_lt_of_cell? _ _ (hHeld))).trans (hHeld); clear hg_ hnew_
           (rw [← Ny151.out] at ho33)
           replace HO_0 := am (Kd.V_elder' (vq HO_0.out) (Kd.N_base ho33) hb); replace HO_3 := am (Kd.N_elder' b9_ (Kd.N_base ho33) hb); replace HO146 := am (Kd.V_elder' (vq HO146.out) (Kd.N_base ho33) hb); replace HL150_0 := am (Kd.V_elder' (vq HL150_0.out) (Kd.N_base ho33) hb); replace HO161 := am (Kd.V_elder' (vq HO161.out) (Kd.N_base ho33) hb); replace HO149 := am (Kd.N_elder' b66_ (Kd.N_base ho33) hb); have HO153 := am (Kd.N_lower ho33 (below_size bel)); replace HB := am (below_step bel hb); clear hb ho33; refine hK.out _ _ (HS0_) (fun hHeld => ?_); clear hK K; refine nm 40 ?_
           exact norm_ b58_ (hCont (v140, v148, v152) _ ⟨hHeld, (vq (Kd.V_mono HL150_0.out (fun _ hk => ⟨hk.1.1.1, ⟨hk.1.2, ⟨hk.2, hk.1.1.2⟩⟩⟩))), (vq (Kd.V_mono HO146.out (fun _ hk => ⟨hk.1.1, ⟨hk.1.2, hk.2⟩⟩))), b66_, (by (with_reducible repeat (fail)); exact Kd.N_mono HO153.out (fun _ hk => ⟨hk.1, ⟨hk.2.2, hk.2.1⟩⟩)), (vq (Kd.V_mono HO161.out (fun _ hk => ⟨hk.1.1, ⟨hk.1.2, hk.2⟩⟩))), (vq (Kd.V_mono HO_0.out (fun _ hk => ⟨hk.1.1.1, ⟨hk.1.2, ⟨hk.2, hk.1.1.2⟩⟩⟩))), (by (with_reducible repeat (fail)); exact Kd.N_mono HO_3.out (fun _ hk => ⟨hk.1.1, ⟨hk.1.2, hk.2⟩⟩)), bel⟩)
          ·skip
           refine Kd.N_lit_step (Kd.slice 9 Kd.string) _ 27 ?hg (N' := 40) ?hd (xs := ([rd_L2 l0 x4_1] : List (List ByteArray))) (inner := [.slice A150_0 (rd_L2 l0 x4_1).length c150_0]) (ok := (fun k_ => (P0_ k_ ∨ w.heap.size ≤ k_) ∧ some k_ ≠ (.slice Ao5 x3_1.length co5 : Value).ownBlock ∧ some k_ ≠ (v140 : Value).ownBlock)) (okp := (fun k_ => (P0_ k_ ∨ w.heap.size ≤ k_) ∧ some k_ ≠ (.slice Ao5 x3_1.length co5 : Value).ownBlock ∧ some k_ ≠ (v140 : Value).ownBlock)) ?hr ?hp (fun _ hk => hk) ((show ∀ k_, w29.heap.size ≤ k_ → (fun k_ => (P0_ k_ ∨ w.heap.size ≤ k_) ∧ some k_ ≠ (.slice Ao5 x3_1.length co5 : Value).ownBlock ∧ some k_ ≠ (v140 : Value).ownBlock) k_ from fun k_ hk => ⟨(.inr (Nat.le_trans (below_size bel) hk)), Kd.fresh' (Kd.N_lt b9_) k_ hk, Kd.fresh' (Kd.N_lt (by (with_reducible repeat (fail)); exact HO141.out)) k_ hk⟩) _ (Nat.le_refl _)) (Below.refl _ _) (Nat.le_refl _) (by simp) ?_; (case hd => rfl); (case hg => rfl); (case hr => (go_simp; done)); (case hp => exact (Reps.one (show Kd.FK (Kd.slice 9 Kd.string) _ _ (rd_L2 l0 x4_1) [.slice A150_0 (rd_L2 l0 x4_1).length c150_0] from (Kd.FK_slice_mk (Kd.V_reads' (Kd.V_mono (ok' := (fun k_ => (P0_ k_ ∨ w.heap.size ≤ k_) ∧ some k_ ≠ (.slice Ao5 x3_1.length co5 : Value).ownBlock ∧ some k_ ≠ (v140 : Value).ownBlock)) (HL150_0.out) (fun k_ hk => ⟨hk.1.1, ⟨hk.1.2, hk.2⟩⟩))).2.1 (Kd.V_F (Kd.V_mono (ok' := (fun k_ => (P0_ k_ ∨ w.heap.size ≤ k_) ∧ some k_ ≠ (.slice Ao5 x3_1.length co5 : Value).ownBlock ∧ some k_ ≠ (v140 : Value).ownBlock)) (HL150_0.out) (fun k_ hk => ⟨hk.1.1, ⟨hk.1.2, hk.2⟩⟩))))) (Reps.none _ _)))
           intro v152 w31 ho32 hb hg_ hnew_; have HS0_ := (hb.cell (World.block_lt_of_cell? _ _ (hHeld))).trans (hHeld); clear hg_ hnew_
           (rw [← Ny151.out] at ho32)
           replace HO_0 := am (Kd.V_elder' (vq HO_0.out) (Kd.N_base ho32) hb); replace HO_3 := am (Kd.N_elder' b9_ (Kd.N_base ho32) hb); replace HO146 := am (Kd.V_elder' (vq HO146.out) (Kd.N_base ho32) hb); replace HL150_0 := am (Kd.V_elder' (vq HL150_0.out) (Kd.N_base ho32) hb); replace HO161 := am (Kd.V_elder' (vq HO161.out) (Kd.N_base ho32) hb)
           replace HO141 := am (Kd.N_elder' (by (with_reducible repeat (fail)); exact HO141.out) (Kd.N_base ho32) hb)
           have HO153 := am (Kd.N_lower ho32 (below_size bel)); replace HR150_0 := am (Kd.C_below b42_ hb); replace HB := am (below_step bel hb); clear hb ho32; refine hK.out _ _ (HS0_) (fun hHeld => ?_); clear hK K; refine nm 40 ?_; refine on1 4 35 (fun K hK => ?_)
           refine Kd.N_append_rows_step (Kd.slice 9 Kd.string) (w0 := w) w.heap.size (by rfl) (.tmp 31) (.tmp 34) 153 27 (.slice none 0 0) 24 rfl Try.underlying153 info27 rfl (by decide) (by omega) v140 y139 y142 _ _ _ (fun k_ => (P0_ k_ ∨ w.heap.size ≤ k_) ∧ some k_ ≠ (v152 : Value).ownBlock) (fun k_ => ((fun k_ => (P0_ k_ ∨ w.heap.size ≤ k_) ∧ some k_ ≠ (v152 : Value).ownBlock)) k_ ∧ some k_ ≠ (v140 : Value).ownBlock) rfl rfl ?aO ?aR (fun _ hk => hk) ?aF ?aB ?aS ?aL ?_
           (case aR => exact (by skip; exact Kd.V_F (Kd.V_mono (ok' := (fun k_ => ((fun k_ => (P0_ k_ ∨ w.heap.size ≤ k_) ∧ some k_ ≠ (v152 : Value).ownBlock)) k_ ∧ some k_ ≠ (v140 : Value).ownBlock)) (HO146.out) (fun k_ hk => ⟨⟨hk.1.1, hk.2⟩, hk.1.2⟩)))); (case aB => exact bel); (case aF => exact (fun k_ hk => ⟨(.inr (Nat.le_trans (below_size bel) hk)), Kd.fresh' (Kd.N_lt b56_) k_ hk⟩)); (case aO => exact (by (with_reducible repeat (fail)); exact Kd.N_mono HO141.out (fun _ hk => ⟨hk.1.1, hk.2⟩))); (case aS => exact (below_size bel)); (case aL => have := LMc19.out; omega); intro v148 w33 ho hb hg hat
           have HS0_ := cell_grown hg (by exact hHeld) b25_
           rw [← Ny147.out] at ho; replace HO_0 := am (Kd.V_afterv (ok := (fun k_ => (P0_ k_ ∨ w.heap.size ≤ k_) ∧ some k_ ≠ (.slice Ao5 x3_1.length co5 : Value).ownBlock ∧ some k_ ≠ (v152 : Value).ownBlock)) (vq (Kd.V_mono HO_0.out (fun _ hk => ⟨⟨hk.1.1.1, ⟨hk.1.1.2, hk.2⟩⟩, hk.1.2⟩))) hg hat)
           replace HO_3 := am (Kd.N_afterv (ok := (fun k_ => (P0_ k_ ∨ w.heap.size ≤ k_) ∧ some k_ ≠ (v152 : Value).ownBlock)) (by (with_reducible repeat (fail)); exact Kd.N_mono HO_3.out (fun _ hk => ⟨⟨hk.1.1, hk.2⟩, hk.1.2⟩)) hg hat)
           replace HO146 := am (Kd.V_afterv (ok := (fun k_ => (P0_ k_ ∨ w.heap.size ≤ k_) ∧ some k_ ≠ (v152 : Value).ownBlock)) (vq (Kd.V_mono HO146.out (fun _ hk => ⟨⟨hk.1.1, hk.2⟩, hk.1.2⟩))) hg hat); replace HL150_0 := am (Kd.V_afterv (ok := (fun k_ => (P0_ k_ ∨ w.heap.size ≤ k_) ∧ some k_ ≠ (.slice Ao5 x3_1.length co5 : Value).ownBlock ∧ some k_ ≠ (v152 : Value).ownBlock)) (vq (Kd.V_mono HL150_0.out (fun _ hk => ⟨⟨hk.1.1.1, ⟨hk.1.1.2, hk.2⟩⟩, hk.1.2⟩))) hg hat); replace HO161 := am (Kd.V_afterv (ok := (fun k_ => (P0_ k_ ∨ w.heap.size ≤ k_) ∧ some k_ ≠ (v152 : Value).ownBlock)) (vq (Kd.V_mono HO161.out (fun _ hk => ⟨⟨hk.1.1, hk.2⟩, hk.1.2⟩))) hg hat)
           replace HO153 := am (Kd.N_afterv (ok := (fun k_ => (P0_ k_ ∨ w.heap.size ≤ k_) ∧ some k_ ≠ (.slice Ao5 x3_1.length co5 : Value).ownBlock)) (by (with_reducible repeat (fail)); exact Kd.N_mono HO153.out (fun _ hk => ⟨⟨hk.1, hk.2.1⟩, hk.2.2⟩)) hg hat)
           replace HB := am (hb); have HO149 := am (ho); clear HO141; clear ho hb hg hat; refine hK.out _ _ (HS0_) (fun hHeld => ?_); clear hK K; refine nm 35 ?_
           exact norm_ b58_ (hCont (v140, v148, v152) _ ⟨hHeld, (vq (Kd.V_mono HL150_0.out (fun _ hk => ⟨hk.1.1, ⟨hk.2, ⟨hk.1.2.2, hk.1.2.1⟩⟩⟩))), (vq (Kd.V_mono HO146.out (fun _ hk => ⟨hk.1.1, ⟨hk.2, hk.1.2⟩⟩))), b66_, b91_, (vq (Kd.V_mono HO161.out (fun _ hk => ⟨hk.1.1, ⟨hk.2, hk.1.2⟩⟩))), (vq (Kd.V_mono HO_0.out (fun _ hk => ⟨hk.1.1, ⟨hk.2, ⟨hk.1.2.2, hk.1.2.1⟩⟩⟩))), b93_, bel⟩)
         ·skip
          refine Kd.N_lit_step (Kd.slice 9 Kd.string) _ 27 ?hg (N' := 40) ?hd (xs := ([rd_L2 l0 x4_1] : List (List ByteArray))) (inner := [.slice A150_0 (rd_L2 l0 x4_1).length c150_0]) (ok := (fun k_ => (P0_ k_ ∨ w.heap.size ≤ k_) ∧ some k_ ≠ (.slice Ao5 x3_1.length co5 : Value).ownBlock)) (okp := (fun k_ => (P0_ k_ ∨ w.heap.size ≤ k_) ∧ some k_ ≠ (.slice Ao5 x3_1.length co5 : Value).ownBlock)) ?hr ?hp (fun _ hk => hk) ((show ∀ k_, w26.heap.size ≤ k_ → (fun k_ => (P0_ k_ ∨ w.heap.size ≤ k_) ∧ some k_ ≠ (.slice Ao5 x3_1.length co5 : Value).ownBlock) k_ from fun k_ hk => ⟨(.inr (Nat.le_trans (below_size bel) hk)), Kd.fresh' (Kd.N_lt b9_) k_ hk⟩) _ (Nat.le_refl _)) (Below.refl _ _) (Nat.le_refl _) (by simp) ?_; (case hd => rfl); (case hg => rfl); (case hr => (go_simp; done)); (case hp => exact (Reps.one (show Kd.FK (Kd.slice 9 Kd.string) _ _ (rd_L2 l0 x4_1) [.slice A150_0 (rd_L2 l0 x4_1).length c150_0] from (Kd.FK_slice_mk (Kd.V_reads' (Kd.V_mono (ok' := (fun k_ => (P0_ k_ ∨ w.heap.size ≤ k_) ∧ some k_ ≠ (.slice Ao5 x3_1.length co5 : Value).ownBlock)) (HL150_0.out) (fun k_ hk => ⟨hk.1, hk.2⟩))).2.1 (Kd.V_F (Kd.V_mono (ok' := (fun k_ => (P0_ k_ ∨ w.heap.size ≤ k_) ∧ some k_ ≠ (.slice Ao5 x3_1.length co5 : Value).ownBlock)) (HL150_0.out) (fun k_ hk => ⟨hk.1, hk.2⟩))))) (Reps.none _ _)))
          intro v152 w29 ho30 hb hg_ hnew_; have HS0_ := (hb.cell (World.block_lt_of_cell? _ _ (hHeld))).trans (hHeld); clear hg_ hnew_
          (rw [← Ny151.out] at ho30)
          replace HO_0 := am (Kd.V_elder' (vq HO_0.out) (Kd.N_base ho30) hb); replace HO_3 := am (Kd.N_elder' b9_ (Kd.N_base ho30) hb); replace HO146 := am (Kd.V_elder' (vq HO146.out) (Kd.N_base ho30) hb); replace HL150_0 := am (Kd.V_elder' (vq HL150_0.out) (Kd.N_base ho30) hb); replace HO161 := am (Kd.V_elder' (vq HO161.out) (Kd.N_base ho30) hb); have HO153 := am (Kd.N_lower ho30 (below_size bel)); replace HR150_0 := am (Kd.C_below b42_ hb); replace HB := am (below_step bel hb); clear hb ho30; refine hK.out _ _ (HS0_) (fun hHeld => ?_); clear hK K; refine nm 40 ?_; refine on1 0 31 (fun K hK => ?_)
          refine Kd.N_lit_step (Kd.slice 9 Kd.string) _ 27 ?hg (N' := 31) ?hd (xs := ([] : List (List ByteArray))) (inner := []) (ok := (fun k_ => (P0_ k_ ∨ w.heap.size ≤ k_) ∧ some k_ ≠ (.slice Ao5 x3_1.length co5 : Value).ownBlock ∧ some k_ ≠ (v152 : Value).ownBlock)) (okp := (fun k_ => (P0_ k_ ∨ w.heap.size ≤ k_) ∧ some k_ ≠ (.slice Ao5 x3_1.length co5 : Value).ownBlock ∧ some k_ ≠ (v152 : Value).ownBlock)) ?hr ?hp (fun _ hk => hk) ((show ∀ k_, w29.heap.size ≤ k_ → (fun k_ => (P0_ k_ ∨ w.heap.size ≤ k_) ∧ some k_ ≠ (.slice Ao5 x3_1.length co5 : Value).ownBlock ∧ some k_ ≠ (v152 : Value).ownBlock) k_ from fun k_ hk => ⟨(.inr (Nat.le_trans (below_size bel) hk)), Kd.fresh' (Kd.N_lt b9_) k_ hk, Kd.fresh' (Kd.N_lt b56_) k_ hk⟩) _ (Nat.le_refl _)) (Below.refl _ _) (Nat.le_refl _) (by simp) ?_; (case hd => rfl); (case hg => rfl); (case hr => (go_simp; done)); (case hp => exact (Reps.none _ _))
          intro v140 w31 ho32 hb hg_ hnew_; have HS0_ := (hb.cell (World.block_lt_of_cell? _ _ (hHeld))).trans (hHeld); clear hg_ hnew_
          (rw [← Ny139.out] at ho32)
          replace HO_0 := am (Kd.V_elder' (vq HO_0.out) (Kd.N_base ho32) hb); replace HO_3 := am (Kd.N_elder' b9_ (Kd.N_base ho32) hb); replace HO146 := am (Kd.V_elder' (vq HO146.out) (Kd.N_base ho32) hb); replace HL150_0 := am (Kd.V_elder' (vq HL150_0.out) (Kd.N_base ho32) hb); replace HO161 := am (Kd.V_elder' (vq HO161.out) (Kd.N_base ho32) hb); replace HO153 := am (Kd.N_elder' b56_ (Kd.N_base ho32) hb); have HO141 := am (Kd.N_lower ho32 (below_size bel)); replace HR150_0 := am (Kd.C_below b42_ hb); replace HB := am (below_step bel hb); clear hb ho32; refine hK.out _ _ (HS0_) (fun hHeld => ?_); clear hK K; refine nm 31 ?_; refine on1 4 35 (fun K hK => ?_)
          refine Kd.N_append_rows_step (Kd.slice 9 Kd.string) (w0 := w) w.heap.size (by rfl) (.tmp 31) (.tmp 34) 153 27 (.slice none 0 0) 24 rfl Try.underlying153 info27 rfl (by decide) (by omega) v140 y139 y142 _ _ _ (fun k_ => (P0_ k_ ∨ w.heap.size ≤ k_) ∧ some k_ ≠ (v152 : Value).ownBlock) (fun k_ => ((fun k_ => (P0_ k_ ∨ w.heap.size ≤ k_) ∧ some k_ ≠ (v152 : Value).ownBlock)) k_ ∧ some k_ ≠ (v140 : Value).ownBlock) rfl rfl ?aO ?aR (fun _ hk => hk) ?aF ?aB ?aS ?aL ?_
          (case aR => exact (by skip; exact Kd.V_F (Kd.V_mono (ok' := (fun k_ => ((fun k_ => (P0_ k_ ∨ w.heap.size ≤ k_) ∧ some k_ ≠ (v152 : Value).ownBlock)) k_ ∧ some k_ ≠ (v140 : Value).ownBlock)) (HO146.out) (fun k_ hk => ⟨⟨hk.1.1, hk.1.2⟩, hk.2⟩)))); (case aB => exact bel); (case aF => exact (fun k_ hk => ⟨(.inr (Nat.le_trans (below_size bel) hk)), Kd.fresh' (Kd.N_lt b56_) k_ hk⟩)); (case aO => exact (by (with_reducible repeat (fail)); exact Kd.N_mono HO141.out (fun _ hk => ⟨hk.1, hk.2.2⟩))); (case aS => exact (below_size bel)); (case aL => have := LMc19.out; omega); intro v148 w33 ho hb hg hat
          have HS0_ := cell_grown hg (by exact hHeld) b25_
          rw [← Ny147.out] at ho; replace HO_0 := am (Kd.V_afterv (ok := (fun k_ => (P0_ k_ ∨ w.heap.size ≤ k_) ∧ some k_ ≠ (.slice Ao5 x3_1.length co5 : Value).ownBlock ∧ some k_ ≠ (v152 : Value).ownBlock)) (vq (Kd.V_mono HO_0.out (fun _ hk => ⟨⟨hk.1.1.1, ⟨hk.1.1.2, hk.1.2⟩⟩, hk.2⟩))) hg hat)
          replace HO_3 := am (Kd.N_afterv (ok := (fun k_ => (P0_ k_ ∨ w.heap.size ≤ k_) ∧ some k_ ≠ (v152 : Value).ownBlock)) b9_ hg hat)
          replace HO146 := am (Kd.V_afterv (ok := (fun k_ => (P0_ k_ ∨ w.heap.size ≤ k_) ∧ some k_ ≠ (v152 : Value).ownBlock)) (vq HO146.out) hg hat); replace HL150_0 := am (Kd.V_afterv (ok := (fun k_ => (P0_ k_ ∨ w.heap.size ≤ k_) ∧ some k_ ≠ (.slice Ao5 x3_1.length co5 : Value).ownBlock ∧ some k_ ≠ (v152 : Value).ownBlock)) (vq (Kd.V_mono HL150_0.out (fun _ hk => ⟨⟨hk.1.1.1, ⟨hk.1.1.2, hk.1.2⟩⟩, hk.2⟩))) hg hat); replace HO161 := am (Kd.V_afterv (ok := (fun k_ => (P0_ k_ ∨ w.heap.size ≤ k_) ∧ some k_ ≠ (v152 : Value).ownBlock)) (vq HO161.out) hg hat)
          replace HO153 := am (Kd.N_afterv (ok := (fun k_ => (P0_ k_ ∨ w.heap.size ≤ k_) ∧ some k_ ≠ (.slice Ao5 x3_1.length co5 : Value).ownBlock)) b56_ hg hat)
          replace HB := am (hb); have HO149 := am (ho); clear HO141; clear ho hb hg hat; refine hK.out _ _ (HS0_) (fun hHeld => ?_); clear hK K; refine nm 35 ?_
          exact norm_ b58_ (hCont (v140, v148, v152) _ ⟨hHeld, (vq (Kd.V_mono HL150_0.out (fun _ hk => ⟨hk.1.1, ⟨hk.2, ⟨hk.1.2.2, hk.1.2.1⟩⟩⟩))), (vq (Kd.V_mono HO146.out (fun _ hk => ⟨hk.1.1, ⟨hk.2, hk.1.2⟩⟩))), b66_, b91_, (vq (Kd.V_mono HO161.out (fun _ hk => ⟨hk.1.1, ⟨hk.2, hk.1.2⟩⟩))), (vq (Kd.V_mono HO_0.out (fun _ hk => ⟨hk.1.1, ⟨hk.2, ⟨hk.1.2.2, hk.1.2.1⟩⟩⟩))), b93_, bel⟩)
        rintro ⟨v140, v148, v152⟩ w34 ⟨hS_, h0_, h1_, h2_, h3_, h4_, h5_, h6_, h7_⟩
        have n0_ : Aside0 (Kd.V Kd.string 9 w34 w.heap.size (fun k_ => (P0_ k_ ∨ w.heap.size ≤ k_) ∧ some k_ ≠ (v148 : Value).ownBlock ∧ some k_ ≠ (v152 : Value).ownBlock ∧ some k_ ≠ (.slice Ao5 x3_1.length co5 : Value).ownBlock) (.slice A150_0 (rd_L2 l0 x4_1).length c150_0) (rd_L2 l0 x4_1)) := ⟨h0_⟩
        have n1_ : Aside0 (Kd.V (Kd.slice 9 Kd.string) 27 w34 w.heap.size (fun k_ => (P0_ k_ ∨ w.heap.size ≤ k_) ∧ some k_ ≠ (v148 : Value).ownBlock ∧ some k_ ≠ (v152 : Value).ownBlock) (.slice Ao5 y142.length co5) y142) := ⟨h1_⟩
        have n2_ : Aside0 (Kd.N (Kd.slice 9 Kd.string) 27 w34 w.heap.size (fun k_ => (P0_ k_ ∨ w.heap.size ≤ k_) ∧ some k_ ≠ (v152 : Value).ownBlock) v148 y147) := ⟨h2_⟩
        have n3_ : Aside0 (Kd.N (Kd.slice 9 Kd.string) 27 w34 w.heap.size (fun k_ => (P0_ k_ ∨ w.heap.size ≤ k_) ∧ some k_ ≠ (v148 : Value).ownBlock ∧ some k_ ≠ (.slice Ao5 x3_1.length co5 : Value).ownBlock) v152 y151) := ⟨h3_⟩
        have n4_ : Aside0 (Kd.V (Kd.slice 9 Kd.string) 27 w34 w.heap.size (fun k_ => (P0_ k_ ∨ w.heap.size ≤ k_) ∧ some k_ ≠ (v148 : Value).ownBlock ∧ some k_ ≠ (v152 : Value).ownBlock) (.slice A28 y157.length c28) y157) := ⟨h4_⟩
        have n5_ : Aside0 (Kd.V (Kd.slice 9 Kd.string) 27 w34 w.heap.size (fun k_ => (P0_ k_ ∨ w.heap.size ≤ k_) ∧ some k_ ≠ (v148 : Value).ownBlock ∧ some k_ ≠ (v152 : Value).ownBlock ∧ some k_ ≠ (.slice Ao5 x3_1.length co5 : Value).ownBlock) (.slice (some ad150) l0.length c0) l0) := ⟨h5_⟩
        have n6_ : Aside0 (Kd.N (Kd.slice 9 Kd.string) 27 w34 w.heap.size (fun k_ => (P0_ k_ ∨ w.heap.size ≤ k_) ∧ some k_ ≠ (v148 : Value).ownBlock ∧ some k_ ≠ (v152 : Value).ownBlock) (.slice Ao5 x3_1.length co5) x3_1) := ⟨h6_⟩
        have n7_ : Aside0 (Below w.heap.size w w34) := ⟨h7_⟩
        clear HO_0; clear HO_3; clear HB; clear h0_ h1_ h2_ h3_ h4_ h5_ h6_ h7_; have HL150_0 := n0_; have HO146 := n1_; have HO149 := n2_; have HO153 := n3_; have HO161 := n4_; have HO_0 := n5_; have HO_3 := n6_; have HB := n7_; clear n0_ n1_ n2_ n3_ n4_ n5_ n6_ n7_
        have hHeld : w34.cell? (ad150.add (x4_1).toNat) = some (.slice A150_0 (rd_L2 l0 x4_1).length c150_0) := hS_
        obtain ⟨Ao36, co36, eo36⟩ := Kd.N_slice HO153.out
        (subst eo36)
        refine norm_ (a' := ?_) ?_ ?_
        rotate_left
        ·simp only [putAll, Act.put, List.setIfInBounds_toArray, List.set_cons_zero, List.set_cons_succ]
         rfl
        refine on1 10 41 (fun K hK => ?_)
        refine Kd.N_append_rows_step (Kd.slice 9 Kd.string) (w0 := w) w.heap.size (by rfl) (.tmp 35) (.tmp 40) 153 27 (.slice none 0 0) 24 rfl Try.underlying153 info27 rfl (by decide) (by omega) v148 y147 y151 _ _ _ (fun k_ => (P0_ k_ ∨ w.heap.size ≤ k_)) (fun k_ => ((fun k_ => (P0_ k_ ∨ w.heap.size ≤ k_))) k_ ∧ some k_ ≠ (v148 : Value).ownBlock) rfl rfl ?aO ?aR (fun _ hk => hk) ?aF ?aB ?aS ?aL ?_
        (case aR => exact (by skip; exact Kd.N_F (Kd.N_mono (ok' := (fun k_ => ((fun k_ => (P0_ k_ ∨ w.heap.size ≤ k_))) k_ ∧ some k_ ≠ (v148 : Value).ownBlock)) (HO153.out) (fun k_ hk => ⟨hk.1, hk.2.1⟩)))); (case aB => exact bel); (case aF => exact (fun k_ hk => (.inr (Nat.le_trans (below_size bel) hk)))); (case aO => exact (by (with_reducible repeat (fail)); exact Kd.N_mono HO149.out (fun _ hk => hk.1))); (case aS => exact (below_size bel)); (case aL => have := LMc22.out; omega); intro v155 w35 ho hb hg hat
        have HS0_ := cell_grown hg (by exact hHeld) b25_
        rw [← Ny154.out] at ho; replace HO_0 := am (Kd.V_afterv (ok := (fun k_ => (P0_ k_ ∨ w.heap.size ≤ k_) ∧ some k_ ≠ (.slice Ao5 x3_1.length co5 : Value).ownBlock ∧ some k_ ≠ (.slice Ao36 y151.length co36 : Value).ownBlock)) (vq (Kd.V_mono HO_0.out (fun _ hk => ⟨⟨hk.1, ⟨hk.2.2.2, hk.2.2.1⟩⟩, hk.2.1⟩))) hg hat)
        replace HO_3 := am (Kd.N_afterv (ok := (fun k_ => (P0_ k_ ∨ w.heap.size ≤ k_) ∧ some k_ ≠ (.slice Ao36 y151.length co36 : Value).ownBlock)) (by (with_reducible repeat (fail)); exact Kd.N_mono HO_3.out (fun _ hk => ⟨⟨hk.1, hk.2.2⟩, hk.2.1⟩)) hg hat)
        replace HO146 := am (Kd.V_afterv (ok := (fun k_ => (P0_ k_ ∨ w.heap.size ≤ k_) ∧ some k_ ≠ (.slice Ao36 y151.length co36 : Value).ownBlock)) (vq (Kd.V_mono HO146.out (fun _ hk => ⟨⟨hk.1, hk.2.2⟩, hk.2.1⟩))) hg hat); replace HL150_0 := am (Kd.V_afterv (ok := (fun k_ => (P0_ k_ ∨ w.heap.size ≤ k_) ∧ some k_ ≠ (.slice Ao5 x3_1.length co5 : Value).ownBlock ∧ some k_ ≠ (.slice Ao36 y151.length co36 : Value).ownBlock)) (vq (Kd.V_mono HL150_0.out (fun _ hk => ⟨⟨hk.1, ⟨hk.2.2.2, hk.2.2.1⟩⟩, hk.2.1⟩))) hg hat); replace HO161 := am (Kd.V_afterv (ok := (fun k_ => (P0_ k_ ∨ w.heap.size ≤ k_) ∧ some k_ ≠ (.slice Ao36 y151.length co36 : Value).ownBlock)) (vq (Kd.V_mono HO161.out (fun _ hk => ⟨⟨hk.1, hk.2.2⟩, hk.2.1⟩))) hg hat)
        replace HO153 := am (Kd.N_afterv (ok := (fun k_ => (P0_ k_ ∨ w.heap.size ≤ k_) ∧ some k_ ≠ (.slice Ao5 x3_1.length co5 : Value).ownBlock)) (by (with_reducible repeat (fail)); exact Kd.N_mono HO153.out (fun _ hk => ⟨⟨hk.1, hk.2.2⟩, hk.2.1⟩)) hg hat)
        replace HB := am (hb); have HO156 := am (ho); clear HO149; clear ho hb hg hat; refine hK.out _ _ (HS0_) (fun hHeld => ?_); clear hK K; refine nm 41 ?_; refine on1 14 45 (fun K hK => ?_)
        refine Kd.N_append_rows_step (Kd.slice 9 Kd.string) (w0 := w) w.heap.size (by rfl) (.tmp 41) (.tmp 44) 153 27 (.slice none 0 0) 24 rfl Try.underlying153 info27 rfl (by decide) (by omega) v155 y154 y157 _ _ _ (fun k_ => (P0_ k_ ∨ w.heap.size ≤ k_)) (fun k_ => ((fun k_ => (P0_ k_ ∨ w.heap.size ≤ k_))) k_ ∧ some k_ ≠ (v155 : Value).ownBlock) rfl rfl ?aO ?aR (fun _ hk => hk) ?aF ?aB ?aS ?aL ?_
        (case aR => exact (by skip; exact Kd.V_F (Kd.V_mono (ok' := (fun k_ => ((fun k_ => (P0_ k_ ∨ w.heap.size ≤ k_))) k_ ∧ some k_ ≠ (v155 : Value).ownBlock)) (HO161.out) (fun k_ hk => ⟨hk.1.1, hk.2⟩)))); (case aB => exact bel); (case aF => exact (fun k_ hk => (.inr (Nat.le_trans (below_size bel) hk)))); (case aO => exact (by (with_reducible repeat (fail)); exact HO156.out)); (case aS => exact (below_size bel)); (case aL => have := LMc25.out; omega); intro v163 w37 ho hb hg hat
        have HS0_ := cell_grown hg (by exact hHeld) b25_
        rw [← Ny162.out] at ho; replace HO_0 := am (Kd.V_afterv (ok := (fun k_ => (P0_ k_ ∨ w.heap.size ≤ k_) ∧ some k_ ≠ (.slice Ao5 x3_1.length co5 : Value).ownBlock ∧ some k_ ≠ (.slice Ao36 y151.length co36 : Value).ownBlock)) (vq HO_0.out) hg hat)
        replace HO_3 := am (Kd.N_afterv (ok := (fun k_ => (P0_ k_ ∨ w.heap.size ≤ k_) ∧ some k_ ≠ (.slice Ao36 y151.length co36 : Value).ownBlock)) b9_ hg hat)
        replace HO146 := am (Kd.V_afterv (ok := (fun k_ => (P0_ k_ ∨ w.heap.size ≤ k_) ∧ some k_ ≠ (.slice Ao36 y151.length co36 : Value).ownBlock)) (vq HO146.out) hg hat); replace HL150_0 := am (Kd.V_afterv (ok := (fun k_ => (P0_ k_ ∨ w.heap.size ≤ k_) ∧ some k_ ≠ (.slice Ao5 x3_1.length co5 : Value).ownBlock ∧ some k_ ≠ (.slice Ao36 y151.length co36 : Value).ownBlock)) (vq HL150_0.out) hg hat); replace HO161 := am (Kd.V_afterv (ok := (fun k_ => (P0_ k_ ∨ w.heap.size ≤ k_) ∧ some k_ ≠ (.slice Ao36 y151.length co36 : Value).ownBlock)) (vq HO161.out) hg hat)
        replace HO153 := am (Kd.N_afterv (ok := (fun k_ => (P0_ k_ ∨ w.heap.size ≤ k_) ∧ some k_ ≠ (.slice Ao5 x3_1.length co5 : Value).ownBlock)) b56_ hg hat)
        replace HB := am (hb); have HO164 := am (ho); clear HO156; clear ho hb hg hat; refine hK.out _ _ (HS0_) (fun hHeld => ?_); clear hK K; refine nm 45 ?_; refine pu 15 3 ?_
        refine done_ (done_of HT_.out (by kernel_rfl)) ?_
        try go_wp2
        go_roundg kj5
        case measure => have := HK1.out; have := HK2.out; have := HJ5.out; omega
        case rel => exact ⟨(y162), (wrap64 (x4_1 + 1)), sq, H', ⟨by have := HK1.out; have := HK2.out; have := HJ5.out; omega⟩, ⟨vq (Kd.V_mono HO_0.out (fun _ hk => ⟨hk.1.1, hk.2⟩))⟩, ⟨by (with_reducible repeat (fail)); exact HO164.out⟩, ⟨bel⟩⟩
   rw [if_neg c4] at H; have c4b0 := decide_eq_false c4; clear c4; obtain rfl := Option.some.inj H; go_wp2; go_ret
   exact ⟨_, eq_, b9_, bel⟩
-- shrunk

/-! ### spec_l3All: function 142 -/
mutual
def spec_l3All.l0 : Nat → List (List ByteArray) → Int → Option ((List (List ByteArray)))
 | 0, _, _ => none
 | k + 1, x3, x4 => if x4 < (x3.length : Int) then (spec_l3All.l1 k x3 x4 97) else ((spec_l3Sort.f k x3).bind fun t168 => (some t168))
def spec_l3All.l1 : Nat → List (List ByteArray) → Int → Int → Option ((List (List ByteArray)))
 | 0, _, _, _ => none
 | k + 1, x3, x4, x5 => if x5 ≤ 122 then (if 0 ≤ x4 then (if x4 < (x3.length : Int) then ((spec_l3Ends.f k (rd_L2 x3 x4) x5).bind fun t172 => (spec_l3All.l2 k x3 x4 x5 t172 ((t172.length : Int) == 0) 0)) else (none)) else (none)) else (spec_l3All.l0 k x3 (wrap64 (x4 + 1)))
def spec_l3All.l2 : Nat → List (List ByteArray) → Int → Int → List ByteArray → Bool → Int → Option ((List (List ByteArray)))
 | 0, _, _, _, _, _, _ => none
 | k + 1, x3, x4, x5, x6, x7, x8 => if x8 < (x3.length : Int) then (if x7 = true then (spec_l3All.l1 k x3 x4 ((x5 + 1) % 256)) else (if 0 ≤ x8 then ((spec_l3Same.f k (rd_L2 x3 x8) x6).bind fun t176 => (spec_l3All.l2 k x3 x4 x5 x6 t176 (wrap64 (x8 + 1)))) else (none))) else (if x7 = true then (spec_l3All.l1 k x3 x4 ((x5 + 1) % 256)) else (if x3.length < 5864062014805 then (spec_l3All.l1 k (x3 ++ [x6]) x4 ((x5 + 1) % 256)) else (none)))
end
def spec_l3All.f (k : Nat) (l0 : List ByteArray) : Option ((List (List ByteArray))) := spec_l3All.l0 k (([l0] : List (List ByteArray))) 0
theorem spec_l3All.calls (k : Nat) (P0_ : Nat → Prop) (A0 : Option Addr) (c0 : Nat) (l0 : List ByteArray) (r : List (List ByteArray)) (w : World) (hs0 : Kd.V Kd.string 9 w w.heap.size (fun k_ => P0_ k_) (.slice A0 l0.length c0) l0) (h : spec_l3All.f k l0 = some r) :
  Calls Try.prog 142 #[.slice A0 l0.length c0] w fun e w' => ∃ v0_ : Value, e = .returned (v0_) ∧ Kd.N (Kd.slice 9 Kd.string) 27 w' w.heap.size (fun k_ => (P0_ k_ ∨ w.heap.size ≤ k_)) v0_ r ∧ Below w.heap.size w w' := by
 have HO0 := am (show Kd.V Kd.string 9 w w.heap.size (fun k_ => (P0_ k_ ∨ w.heap.size ≤ k_)) (.slice A0 l0.length c0) l0 from Kd.V_mono hs0 (fun k_ hk => .inl hk)); have HB := am (Below.refl w.heap.size w)
 have H := h; unfold spec_l3All.f at H
 clear h; obtain ⟨y165, hy165⟩ : ∃ y_ : List (List ByteArray), y_ = (([l0] : List (List ByteArray))) := ⟨_, rfl⟩
 rw [← hy165] at H
 have Ny165 := am hy165; clear hy165
 have H' := am H
 clear H; go_enter Try.func142, Try.ntmps142
 go_wp2_with ((with_reducible refine gate_dst (N := 10) rfl ?_); refine Kd.N_lit (Kd.slice 9 Kd.string) _ 27 ?hg (N' := 10) ?hd (xs := ([l0] : List (List ByteArray))) (inner := [.slice A0 l0.length c0]) (ok := (fun k_ => (P0_ k_ ∨ w.heap.size ≤ k_))) (okp := (fun k_ => (P0_ k_ ∨ w.heap.size ≤ k_))) ?hr ?hp (fun _ hk => hk) ((show ∀ k_, w.heap.size ≤ k_ → (fun k_ => (P0_ k_ ∨ w.heap.size ≤ k_)) k_ from fun k_ hk => (.inr (Nat.le_trans (below_size bel) hk))) _ (Nat.le_refl _)) (Below.refl _ _) (Nat.le_refl _) (by simp) ?_; (case hd => rfl); (case hg => rfl); (case hr => (go_simp; done)); (case hp => exact (Reps.one (show Kd.FK (Kd.slice 9 Kd.string) _ _ l0 [.slice A0 l0.length c0] from (Kd.FK_slice_mk (Kd.V_reads' (Kd.V_mono (ok' := (fun k_ => (P0_ k_ ∨ w.heap.size ≤ k_))) (HO0.out) (fun k_ hk => hk))).2.1 (Kd.V_F (Kd.V_mono (ok' := (fun k_ => (P0_ k_ ∨ w.heap.size ≤ k_))) (HO0.out) (fun k_ hk => hk))))) (Reps.none _ _))); intro v166 w2 ho3 hb hg_ hnew_; clear hg_ hnew_; (rw [← Ny165.out] at ho3); replace HO0 := am (Kd.V_elder' (vq HO0.out) (Kd.N_base ho3) hb); have HO167 := am (Kd.N_lower ho3 (below_size bel)); replace HB := am (below_step bel hb); clear hb ho3)
 go_loopg [3, 4] k (fun kq v3 v4 w' => ∃ (x3_1 : List (List ByteArray)) (x4_1 : Int), v4 = .int .i64 x4_1 ∧ Aside0 (spec_l3All.l0 kq x3_1 x4_1 = some r) ∧ Aside0 (kq ≤ k) ∧ Aside0 (Kd.N (Kd.slice 9 Kd.string) 27 w' w.heap.size (fun k_ => (P0_ k_ ∨ w.heap.size ≤ k_)) v3 x3_1) ∧ Aside0 (Below w.heap.size w w'))
 case atStart => exact ⟨(y165), (0), sq, H', ⟨Nat.le_refl _⟩, ⟨by (with_reducible repeat (fail)); exact HO167.out⟩, ⟨bel⟩⟩
 case round =>
  clear H'; obtain ⟨x3_1, x4_1, rfl, HA, HK1, HO_3, HB⟩ := hrel
  cases gk with
  | zero => exact absurd HA.out (by simp [spec_l3All.l0])
  | succ k1 =>
   have H := HA.out; clear HA; simp only [spec_l3All.l0] at H
   by_cases c4 : x4_1 < (x3_1.length : Int)
   ·rw [if_pos c4] at H; have c4b0 := decide_eq_true c4; clear c4
    have H' := am H
    clear H; obtain ⟨Ao5, co5, eo5⟩ := Kd.N_slice HO_3.out; subst eo5; go_wp2
    go_loopg [3, 5] k1 (fun kq v3 v5 w' => ∃ (x3_2 : List (List ByteArray)) (x5_2 : Int), v5 = .int .u8 x5_2 ∧ Aside0 (spec_l3All.l1 kq x3_2 x4_1 x5_2 = some r) ∧ Aside0 (kq ≤ k1) ∧ Aside0 (Kd.N (Kd.slice 9 Kd.string) 27 w' w.heap.size (fun k_ => (P0_ k_ ∨ w.heap.size ≤ k_)) v3 x3_2) ∧ Aside0 (Below w.heap.size w w'))
    case atStart => exact ⟨(x3_1), (97), sq, H', ⟨Nat.le_refl _⟩, ⟨b9_⟩, ⟨bel⟩⟩
    case round =>
     clear H'; clear c4b0; obtain ⟨x3_2, x5_2, rfl, HA, HK2, HO_3, HB⟩ := hrel
     cases gk with
     | zero => exact absurd HA.out (by simp [spec_l3All.l1])
     | succ k2 =>
      have H := HA.out; clear HA; simp only [spec_l3All.l1] at H
      by_cases c6 : x5_2 ≤ 122
      ·rw [if_pos c6] at H; have c6b0 := decide_eq_true c6; clear c6
       replace H := it H; obtain ⟨c7b0, H⟩ := H
       replace H := it H; obtain ⟨c8b0, H⟩ := H; replace H := bs H; obtain ⟨t172, A90, H⟩ := H; have A9 := Aside0.mk A90; clear A90
       have H' := am H
       clear H; obtain ⟨Ao10, co10, eo10⟩ := Kd.N_slice HO_3.out; subst eo10
       have p171 : 0 ≤ (x4_1 : Int) := of_decide_eq_true ad
       have q171 : x4_1 < (x3_2.length : Int) := of_decide_eq_true ad
       obtain ⟨ad171, A171_0, c171_0, e171, hx171_0, hl171_0, hi171_0⟩ := at_L2 (Kd.N_reads' HO_3.out).2.2 x4_1 p171 q171; cases e171
       obtain ⟨ce171, hce171, hMe171, hcc171⟩ := Kd.N_get HO_3.out [] x4_1 p171 (by exact q171)
       obtain ⟨ua171_0, uc171_0, rfl, ul171_0, ge171_0⟩ := Kd.FK_slice_open hMe171; have hv171_0 := hcc171 0 _ rfl; rw [Nat.add_zero, show ((Kd.slice 9 Kd.string)).sz = 1 from rfl, Nat.mul_one] at hv171_0; replace hv171_0 := Option.some.inj (hv171_0.symm.trans hx171_0)
       injection hv171_0 with hva_ hvn_ hvc_
       rw [hva_] at ge171_0; rw [hvc_] at ul171_0; have HL171_0 := am (show Kd.V Kd.string 9 _ w.heap.size _ _ (rd_L2 x3_2 x4_1) from Kd.V_mk ul171_0 ge171_0); clear hva_ hvn_ hvc_ ge171_0 ul171_0; clear hcc171 hce171; have HR171_0 := am hi171_0; have HC171_0 := am hl171_0; clear hi171_0 hl171_0; replace p171 := eq_true p171; replace q171 := eq_true q171
       go_wp2_with ((with_reducible refine gate_callee (f := 143) rfl ?_); refine gl 26 Try.func143 #[.slice A171_0 (rd_L2 x3_2 x4_1).length c171_0, .int .u8 x5_2] ?_; (with_reducible refine (spec_l3Ends.calls k2 _ _ (rd_L2 x3_2 x4_1) x5_2 t172 _ ?side1 ?side2 A9.out).mono ?_); (case side1 => repeat (exact b43_)); (case side2 => exact HC171_0.out); rintro e w11 ⟨v173, rfl, ho0, hb⟩; refine ⟨_, rfl, ?_⟩; replace HO_3 := am (Kd.N_elder' b9_ (Kd.R_base ho0) hb); replace HL171_0 := am (Kd.V_elder' (vq HL171_0.out) (Kd.R_base ho0) hb); have HO174 := am (Kd.R_lower (Kd.R_newM (M := fun k_ => (w.heap.size ≤ k_)) ho0 (below_size bel) (fun k_ h_ => h_)) (below_size bel)); replace HR171_0 := am (Kd.C_below b43_ hb); replace HB := am (below_step bel hb); clear hb; clear ho0; obtain ⟨Ao12, co12, eo12⟩ := Kd.R_slice HO174.out; subst eo12)
       go_loopg [7, 8] k2 (fun kq v7 v8 w' => ∃ (x7_3 : Bool) (x8_3 : Int), v7 = .bool x7_3 ∧ v8 = .int .i64 x8_3 ∧ Aside0 (spec_l3All.l2 kq x3_2 x4_1 x5_2 t172 x7_3 x8_3 = some r) ∧ Aside0 (kq ≤ k2) ∧ Aside0 (Kd.N (Kd.slice 9 Kd.string) 27 w' w.heap.size (fun k_ => (P0_ k_ ∨ w.heap.size ≤ k_) ∧ some k_ ≠ ((.slice Ao12 t172.length co12) : Value).ownBlock) (.slice (some ad171) x3_2.length co10) x3_2) ∧ Aside0 (Kd.R Kd.string 9 w' w.heap.size (fun k_ => (w.heap.size ≤ k_)) (.slice Ao12 t172.length co12) t172) ∧ Aside0 (Kd.C Kd.string w' A171_0 (rd_L2 x3_2 x4_1).length (rd_L2 x3_2 x4_1)) ∧ Aside0 (Below w.heap.size w w'))
       case atStart => exact ⟨(((t172.length : Int) == 0)), (0), sq, sq, H', ⟨Nat.le_refl _⟩, ⟨b9_⟩, ⟨rq (Kd.R_mono HO174.out (fun _ hk => hk.1))⟩, ⟨b43_⟩, ⟨bel⟩⟩
       case round =>
        clear H'; clear c6b0 c7b0 c8b0 hx171_0 p171 q171; obtain ⟨x7_3, x8_3, rfl, rfl, HA, HK3, HO_3, HO_6, HR171_0, HB⟩ := hrel
        cases gk with
        | zero => exact absurd HA.out (by simp [spec_l3All.l2])
        | succ k3 =>
         have H := HA.out; clear HA; simp only [spec_l3All.l2] at H
         by_cases c13 : x8_3 < (x3_2.length : Int)
         ·rw [if_pos c13] at H; have c13b0 := decide_eq_true c13; clear c13
          by_cases c14 : x7_3 = true
          ·subst c14
           rw [if_pos rfl] at H
           have H' := am H
           clear H; go_wp2
           go_roundg k3
           case measure => have := HK1.out; have := HK2.out; have := HK3.out; omega
           case rel => exact ⟨(x3_2), ((x5_2 + 1) % 256), sq, H', ⟨b106_⟩, ⟨b74_⟩, ⟨bel⟩⟩
          replace c14 := Bool.eq_false_iff.mpr c14; subst c14
          rw [if_neg Bool.false_ne_true] at H
          replace H := it H; obtain ⟨c15b0, H⟩ := H; replace H := bs H; obtain ⟨t176, A160, H⟩ := H; have A16 := Aside0.mk A160; clear A160
          have H' := am H
          clear H
          have p175 : 0 ≤ (x8_3 : Int) := of_decide_eq_true ad
          have q175 : x8_3 < (x3_2.length : Int) := of_decide_eq_true ad
          obtain ⟨ad175, A175_0, c175_0, e175, hx175_0, hl175_0, hi175_0⟩ := at_L2 (Kd.N_reads' HO_3.out).2.2 x8_3 p175 q175
          obtain rfl : ad171 = ad175 := (by injection e175)
          obtain ⟨ce175, hce175, hMe175, hcc175⟩ := Kd.N_get HO_3.out [] x8_3 p175 (by exact q175)
          obtain ⟨ua175_0, uc175_0, rfl, ul175_0, ge175_0⟩ := Kd.FK_slice_open hMe175; have hv175_0 := hcc175 0 _ rfl; rw [Nat.add_zero, show ((Kd.slice 9 Kd.string)).sz = 1 from rfl, Nat.mul_one] at hv175_0; replace hv175_0 := Option.some.inj (hv175_0.symm.trans hx175_0)
          injection hv175_0 with hva_ hvn_ hvc_
          rw [hva_] at ge175_0; rw [hvc_] at ul175_0; have HL175_0 := am (show Kd.V Kd.string 9 _ w.heap.size _ _ (rd_L2 x3_2 x8_3) from Kd.V_mk ul175_0 ge175_0); clear hva_ hvn_ hvc_ ge175_0 ul175_0; clear hcc175 hce175; have HR175_0 := am hi175_0; have HC175_0 := am hl175_0; clear hi175_0 hl175_0; replace p175 := eq_true p175; replace q175 := eq_true q175
          go_wp2_with ((with_reducible refine gate_callee (f := 152) rfl ?_); refine gl 45 Try.func152 #[.slice A175_0 (rd_L2 x3_2 x8_3).length c175_0, .slice Ao12 t172.length co12] ?_; (with_reducible refine (spec_l3Same.calls k3 _ _ (rd_L2 x3_2 x8_3) _ _ t172 t176 _ ?side1 ?side2 ?side3 ?side4 A16.out).mono ?_); (case side1 => repeat (exact (by repeat (with_reducible exact HR175_0.out)))); (case side2 => exact HC175_0.out); (case side3 => exact cq (Kd.R_reads' HO_6.out).2.2); (case side4 => exact (Kd.R_reads' HO_6.out).2.1); rintro e w' ⟨rfl, ⟨nd, rfl⟩⟩; refine ⟨_, rfl, ?_⟩)
          go_roundg k3
          case measure => have := HK1.out; have := HK2.out; have := HK3.out; omega
          case rel => exact ⟨(t176), (wrap64 (x8_3 + 1)), sq, sq, H', ⟨b106_⟩, ⟨b9_⟩, ⟨rq HO_6.out⟩, ⟨b43_⟩, ⟨bel⟩⟩
         rw [if_neg c13] at H; have c13b0 := decide_eq_false c13; clear c13
         by_cases c17 : x7_3 = true
         ·subst c17
          rw [if_pos rfl] at H
          have H' := am H
          clear H; go_wp2
          go_roundg k3
          case measure => have := HK1.out; have := HK2.out; have := HK3.out; omega
          case rel => exact ⟨(x3_2), ((x5_2 + 1) % 256), sq, H', ⟨b106_⟩, ⟨b74_⟩, ⟨bel⟩⟩
         replace c17 := Bool.eq_false_iff.mpr c17; subst c17
         rw [if_neg Bool.false_ne_true] at H
         replace H := ip H; obtain ⟨c18, H⟩ := H; have LMc18 := Aside0.mk c18; clear c18; obtain ⟨y177, hy177⟩ : ∃ y_ : List (List ByteArray), y_ = (x3_2 ++ [t172]) := ⟨_, rfl⟩
         rw [← hy177] at H
         have Ny177 := am hy177; clear hy177
         have H' := am H
         clear H
         go_wp2_with ((with_reducible refine gate_builtin (b := .append) (xs := #[.tmp 48, .tmp 50]) rfl ?_); at_builtin; refine Kd.N_append (Kd.slice 9 Kd.string) (w0 := w) w.heap.size rfl (.tmp 48) (.tmp 50) 153 27 (.slice none 0 0) 24 rfl Try.underlying153 info27 rfl (by decide) (by omega) (.slice (some ad171) x3_2.length co10) x3_2 t172 [.slice Ao12 t172.length co12] (fun k_ => (P0_ k_ ∨ w.heap.size ≤ k_)) (fun k_ => ((fun k_ => (P0_ k_ ∨ w.heap.size ≤ k_))) k_ ∧ some k_ ≠ (.slice (some ad171) x3_2.length co10 : Value).ownBlock) rfl rfl ?aP (fun _ hk => hk) ?aF ?aO ?aB ?aS ?aL ?_; (case aP => exact (Kd.FK_slice_mk (Kd.R_reads' (Kd.R_mono (ok' := (fun k_ => ((fun k_ => (P0_ k_ ∨ w.heap.size ≤ k_))) k_ ∧ some k_ ≠ (.slice (some ad171) x3_2.length co10 : Value).ownBlock)) (Kd.R_apart' (HO_6.out) (Kd.N_typed HO_3.out) (by decide)) (fun k_ hk => ⟨(.inr (hk.1)), hk.2⟩))).2.1 (Kd.R_F (Kd.R_mono (ok' := (fun k_ => ((fun k_ => (P0_ k_ ∨ w.heap.size ≤ k_))) k_ ∧ some k_ ≠ (.slice (some ad171) x3_2.length co10 : Value).ownBlock)) (Kd.R_apart' (HO_6.out) (Kd.N_typed HO_3.out) (by decide)) (fun k_ hk => ⟨(.inr (hk.1)), hk.2⟩))))); (case aB => exact bel); (case aF => exact (fun k_ hk => (.inr (Nat.le_trans (below_size bel) hk)))); (case aO => exact b74_); (case aS => exact (below_size bel)); (case aL => have := LMc18.out; omega); intro v178 w19 ho hb hg hat; rw [← Ny177.out] at ho; replace HB := am (hb); have HO179 := am (ho); clear HO_3 HO_6; clear ho hb hg hat)
         go_roundg k3
         case measure => have := HK1.out; have := HK2.out; have := HK3.out; omega
         case rel => exact ⟨(y177), ((x5_2 + 1) % 256), sq, H', ⟨b106_⟩, ⟨by (with_reducible repeat (fail)); exact HO179.out⟩, ⟨bel⟩⟩
      rw [if_neg c6] at H; have c6b0 := decide_eq_false c6; clear c6
      have H' := am H
      clear H; go_wp2
      go_roundg k2
      case measure => have := HK1.out; have := HK2.out; omega
      case rel => exact ⟨(x3_2), (wrap64 (x4_1 + 1)), sq, H', ⟨b30_⟩, ⟨b9_⟩, ⟨bel⟩⟩
   rw [if_neg c4] at H; have c4b0 := decide_eq_false c4; clear c4; replace H := bs H; obtain ⟨t168, A200, H⟩ := H; have A20 := Aside0.mk A200; clear A200; obtain rfl := Option.some.inj H; obtain ⟨Ao21, co21, eo21⟩ := Kd.N_slice HO_3.out; subst eo21
   go_wp2_with ((with_reducible refine gate_callee (f := 153) rfl ?_); refine gl 53 Try.func153 #[.slice Ao21 x3_1.length co21] ?_; (with_reducible refine (spec_l3Sort.calls k1 (fun k_ => (P0_ k_ ∨ w.heap.size ≤ k_)) _ _ x3_1 t168 _ ?side1 A20.out).mono ?_); (case side1 => exact Kd.N_V (HO_3.out)); rintro e w22 ⟨v169, rfl, ho0, hb⟩; refine ⟨_, rfl, ?_⟩; replace HO_3 := am (Kd.N_elder' b9_ (Kd.N_base ho0) hb); have HO170 := am (Kd.N_lower (Kd.N_mono (ok' := fun k_ => (P0_ k_ ∨ w.heap.size ≤ k_)) ho0 (fun k_ hk_ => Or.elim hk_ (fun hs_ => hs_) (fun hn_ => (.inr (Nat.le_trans (below_size bel) hn_))))) (below_size bel)); replace HB := am (below_step bel hb); clear hb; clear ho0)
   go_ret
   exact ⟨_, eq_, by (with_reducible repeat (fail)); exact HO170.out, bel⟩

/-! ### spec_l3At: function 144 -/
def spec_l3At.l0 : Nat → List (List ByteArray) → List ByteArray → Int → Option (Int)
 | 0, _, _, _ => none
 | k + 1, x0, x1, x5 => if x5 < (x0.length : Int) then (if 0 ≤ x5 then ((spec_l3Same.f k (rd_L2 x0 x5) x1).bind fun t181 => (if t181 = true then (some x5) else (spec_l3At.l0 k x0 x1 (wrap64 (x5 + 1))))) else (none)) else (some (-1))
def spec_l3At.f (k : Nat) (l0 : List (List ByteArray)) (l1 : List ByteArray) : Option (Int) := spec_l3At.l0 k l0 l1 0
theorem spec_l3At.calls (k : Nat) (A0 : Option Addr) (c0 : Nat) (l0 : List (List ByteArray)) (A1 : Option Addr) (c1 : Nat) (l1 : List ByteArray) (r : Int) (w : World) (hr0 : Kd.C (Kd.slice 9 Kd.string) w A0 l0.length l0) (hc0 : l0.length ≤ c0) (hr1 : Kd.C Kd.string w A1 l1.length l1) (hc1 : l1.length ≤ c1) (h : spec_l3At.f k l0 l1 = some r) :
  Calls Try.prog 144 #[.slice A0 l0.length c0, .slice A1 l1.length c1] w fun e w' => e = .returned (.int .i64 r) ∧ Drawn0 w w' := by
 have HR0 := am hr0; have HC0 := am hc0; clear hr0 hc0; have HR1 := am hr1; have HC1 := am hc1; clear hr1 hc1
 have H := h; unfold spec_l3At.f at H
 clear h
 have H' := am H
 clear H; go_enter Try.func144, Try.ntmps144; go_wp2
 go_loopg [5] k (fun kq v5 w' => ∃ (x5_1 : Int), v5 = .int .i64 x5_1 ∧ Aside0 (spec_l3At.l0 kq l0 l1 x5_1 = some r) ∧ Aside0 (kq ≤ k) ∧ Drawn0 w w')
 case atStart => exact ⟨(0), sq, H', ⟨Nat.le_refl _⟩, dr⟩
 case round =>
  clear H'; obtain ⟨x5_1, rfl, HA, HK1, ⟨m1, rfl⟩⟩ := hrel
  cases gk with
  | zero => exact absurd HA.out (by simp [spec_l3At.l0])
  | succ k1 =>
   have H := HA.out; clear HA; simp only [spec_l3At.l0] at H
   by_cases c3 : x5_1 < (l0.length : Int)
   ·rw [if_pos c3] at H; have c3b0 := decide_eq_true c3; clear c3
    replace H := it H; obtain ⟨c4b0, H⟩ := H; replace H := bs H; obtain ⟨t181, A50, H⟩ := H; have A5 := Aside0.mk A50; clear A50
    by_cases c6 : t181 = true
    ·subst c6
     rw [if_pos rfl] at H
     obtain rfl := Option.some.inj H
     have p180 : 0 ≤ (x5_1 : Int) := of_decide_eq_true ad
     have q180 : x5_1 < (l0.length : Int) := of_decide_eq_true ad
     obtain ⟨ad180, A180_0, c180_0, e180, hx180_0, hl180_0, hi180_0⟩ := at_L2 HR0.out x5_1 p180 q180; cases e180; have HR180_0 := am hi180_0; have HC180_0 := am hl180_0; clear hi180_0 hl180_0; replace p180 := eq_true p180; replace q180 := eq_true q180
     go_wp2_with ((with_reducible refine gate_callee (f := 152) rfl ?_); refine gl 17 Try.func152 #[.slice A180_0 (rd_L2 l0 x5_1).length c180_0, .slice A1 l1.length c1] ?_; (with_reducible refine (spec_l3Same.calls k1 _ _ (rd_L2 l0 x5_1) _ _ l1 true _ ?side1 ?side2 ?side3 ?side4 A5.out).mono ?_); (case side1 => repeat (exact HR180_0.out)); (case side2 => exact HC180_0.out); (case side3 => repeat (exact HR1.out)); (case side4 => exact HC1.out); rintro e w' ⟨rfl, ⟨nd, rfl⟩⟩; refine ⟨_, rfl, ?_⟩)
     go_ret
     exact ⟨sq, dr⟩
    replace c6 := Bool.eq_false_iff.mpr c6; subst c6
    rw [if_neg Bool.false_ne_true] at H
    have H' := am H
    clear H
    have p180 : 0 ≤ (x5_1 : Int) := of_decide_eq_true ad
    have q180 : x5_1 < (l0.length : Int) := of_decide_eq_true ad
    obtain ⟨ad180, A180_0, c180_0, e180, hx180_0, hl180_0, hi180_0⟩ := at_L2 HR0.out x5_1 p180 q180; cases e180; have HR180_0 := am hi180_0; have HC180_0 := am hl180_0; clear hi180_0 hl180_0; replace p180 := eq_true p180; replace q180 := eq_true q180
    go_wp2_with ((with_reducible refine gate_callee (f := 152) rfl ?_); refine gl 17 Try.func152 #[.slice A180_0 (rd_L2 l0 x5_1).length c180_0, .slice A1 l1.length c1] ?_; (with_reducible refine (spec_l3Same.calls k1 _ _ (rd_L2 l0 x5_1) _ _ l1 false _ ?side1 ?side2 ?side3 ?side4 A5.out).mono ?_); (case side1 => repeat (exact HR180_0.out)); (case side2 => exact HC180_0.out); (case side3 => repeat (exact HR1.out)); (case side4 => exact HC1.out); rintro e w' ⟨rfl, ⟨nd, rfl⟩⟩; refine ⟨_, rfl, ?_⟩)
    go_roundg k1
    case measure => have := HK1.out; omega
    case rel => exact ⟨(wrap64 (x5_1 + 1)), sq, H', ⟨b68_⟩, dr⟩
   rw [if_neg c3] at H; have c3b0 := decide_eq_false c3; clear c3; obtain rfl := Option.some.inj H; go_wp2; go_ret
   exact ⟨sq, dr⟩
-- shrunk

/-! ### spec_MachineOf: function 124 -/
mutual
def spec_MachineOf.l0 : Nat → List (List ByteArray) → List (S95) → Int → Option ((List (S95)) × Bool)
 | 0, _, _, _ => none
 | k + 1, x4, x5, x6 => if x6 < (x4.length : Int) then (if 0 ≤ x6 then (if ((rd_L2 x4 x6).length : Int) > 0 then (if 0 < ((rd_L2 x4 x6).length : Int) then (spec_MachineOf.l1 k x4 x5 x6 97 ((rdOf ByteArray.empty (rd_L2 x4 x6) 0).toList == ([] : List UInt8)) (([] : List (S97)))) else (none)) else (spec_MachineOf.l1 k x4 x5 x6 97 false (([] : List (S97))))) else (none)) else (some (x5, true))
def spec_MachineOf.l1 : Nat → List (List ByteArray) → List (S95) → Int → Int → Bool → List (S97) → Option ((List (S95)) × Bool)
 | 0, _, _, _, _, _, _ => none
 | k + 1, x4, x5, x6, x8, x199000, x199001 => if x8 ≤ 122 then (if 0 ≤ x6 then (if x6 < (x4.length : Int) then ((spec_l3Ends.f k (rd_L2 x4 x6) x8).bind fun t200 => (if (t200.length : Int) > 0 then ((spec_l3At.f k x4 t200).bind fun t203 => (if x199001.length < 8796093022208 then (spec_MachineOf.l1 k x4 x5 x6 ((x8 + 1) % 256) x199000 (x199001 ++ [(⟨wrap64 (x8), t203⟩ : S97)])) else (none))) else (spec_MachineOf.l1 k x4 x5 x6 ((x8 + 1) % 256) x199000 x199001))) else (none)) else (none)) else (if x5.length < 4398046511104 then (spec_MachineOf.l0 k x4 (x5 ++ [(⟨x199000, x199001⟩ : S95)]) (wrap64 (x6 + 1))) else (none))
end
def spec_MachineOf.f (k : Nat) (l0 : List ByteArray) : Option ((List (S95)) × Bool) := (spec_l3Words.f k l0).bind fun t182 => (if t182 = true then ((spec_l3All.f k l0).bind fun t183 => (if (t183.length : Int) > 400 then (some ((([] : List (S95))), false)) else (spec_MachineOf.l0 k t183 (([] : List (S95))) 0))) else (some ((([] : List (S95))), false)))
def spec_MachineOf.T16 : Bool × List (List Nat × List Nat) := (true, [([], []), ([0], [0]), ([], []), ([2], [2]), ([], []), ([], []), ([4, 5], [4, 5]), ([3, 6], [3, 6]), ([7], [7]), ([1, 8, 6], [1, 8]), ([0, 1, 2, 3, 4, 5, 6, 7, 8, 9], []), ([10, 9, 9, 0, 1, 2, 3, 4, 5, 6, 7, 8, 9], [9, 10])])
def spec_MachineOf.B16 : List Nat := [0, 1, 0, 4, 0, 0, 48, 124, 252, 511, 1023, 2047]
theorem spec_MachineOf.tab16 : rtab .any (opsOf Try.f124 16) = spec_MachineOf.T16 := by kernel_rfl
theorem spec_MachineOf.bits16 : waitsOk spec_MachineOf.T16.2 spec_MachineOf.B16 = true := by kernel_rfl
theorem spec_MachineOf.calls (k : Nat) (A0 : Option Addr) (c0 : Nat) (l0 : List ByteArray) (r1 : List (S95)) (r2 : Bool) (w : World) (hr0 : Kd.C Kd.string w A0 l0.length l0) (hc0 : l0.length ≤ c0) (h : spec_MachineOf.f k l0 = some (r1, r2)) :
  Calls Try.prog 124 #[.slice A0 l0.length c0] w fun e w' => ∃ v0_ : Value, e = .returned (.tuple #[v0_, .bool r2]) ∧ Kd.S k95 95 w' w.heap.size (fun _ => True) v0_ r1 ∧ Below w.heap.size w w' := by
 have hu95 := Try.underlying95; have hu97 := Try.underlying97; have HR0 := am hr0; have HC0 := am hc0; clear hr0 hc0; have HB := am (Below.refl w.heap.size w)
 have H := h; unfold spec_MachineOf.f at H
 clear h; replace H := bs H; obtain ⟨t182, A20, H⟩ := H; have A2 := Aside0.mk A20; clear A20
 by_cases c3 : t182 = true
 ·subst c3
  rw [if_pos rfl] at H
  replace H := bs H; obtain ⟨t183, A40, H⟩ := H; have A4 := Aside0.mk A40; clear A40
  by_cases c5 : (t183.length : Int) > 400
  ·rw [if_pos c5] at H; have c5b0 := decide_eq_true c5
   have c5b1 : decide (400 < t183.length) = true := decide_eq_true (by omega)
   clear c5; obtain ⟨y186, hy186⟩ : ∃ y_ : List (S95), y_ = (([] : List (S95))) := ⟨_, rfl⟩
   rw [← hy186] at H
   have Ny186 := am hy186; clear hy186; simp only [Option.some.injEq, Prod.mk.injEq] at H
   obtain ⟨rfl, rfl⟩ := H; go_enter Try.func124, Try.ntmps124
   go_wp2_with (first | ((with_reducible refine gate_callee (f := 141) rfl ?_); refine gl 11 Try.func141 #[.slice A0 l0.length c0] ?_; (with_reducible refine (spec_l3Words.calls k _ _ l0 true _ ?side1 ?side2 A2.out).mono ?_); (case side1 => repeat (exact HR0.out)); (case side2 => exact HC0.out); rintro e w' ⟨rfl, ⟨nd, rfl⟩⟩; refine ⟨_, rfl, ?_⟩) | ((with_reducible refine gate_callee (f := 142) rfl ?_); refine gl 15 Try.func142 #[.slice A0 l0.length c0] ?_; (with_reducible refine (spec_l3All.calls k (fun k_ => k_ < w.heap.size) _ _ l0 t183 _ ?side1 A4.out).mono ?_); (case side1 => exact Kd.V_mk HC0.out (Kd.F_below (Kd.C_F Kd.heap_string HR0.out) bel)); rintro e w6 ⟨v184, rfl, ho0, hb⟩; refine ⟨_, rfl, ?_⟩; have HO185 := am (Kd.N_lower (Kd.N_mono (ok' := fun k_ => True) ho0 (fun k_ hk_ => trivial)) (below_size bel)); replace HB := am (below_step bel hb); clear hb; clear ho0; obtain ⟨Ao7, co7, eo7⟩ := Kd.N_slice HO185.out; subst eo7) | ((with_reducible refine gate_dst (N := 19) rfl ?_); refine Kd.S_lit k95 _ 95 ?hg (N := 19) ?hd (xs := ([] : List (S95))) (inner := []) (ok := fun _ => True) (okp := fun _ => True) ?hr ?hp (fun _ hk => hk) trivial (Below.refl _ _) (Nat.le_refl _) (by simp) ?_; (case hd => rfl); (case hg => rfl); (case hr => (go_simp; done)); (case hp => exact (Reps.none _ _)); intro v187 w8 ho9 hb hg_ hnew_; clear hg_ hnew_; (rw [← Ny186.out] at ho9); replace HO185 := am (Kd.N_elder' (by (with_reducible repeat (fail)); exact HO185.out) (Kd.S_base ho9) hb); have HO188 := am (Kd.S_lower ho9 (below_size bel)); replace HB := am (below_step bel hb); clear hb ho9))
   go_ret2
   exact ⟨_, eq_, by (with_reducible repeat (fail)); exact HO188.out, bel⟩
  rw [if_neg c5] at H; have c5b0 := decide_eq_false c5
  have c5b1 : decide (400 < t183.length) = false := decide_eq_false (by omega)
  clear c5; obtain ⟨y189, hy189⟩ : ∃ y_ : List (S95), y_ = (([] : List (S95))) := ⟨_, rfl⟩
  rw [← hy189] at H
  have Ny189 := am hy189; clear hy189
  have H' := am H
  clear H; go_enter Try.func124, Try.ntmps124
  go_wp2_with (first | ((with_reducible refine gate_callee (f := 141) rfl ?_); refine gl 11 Try.func141 #[.slice A0 l0.length c0] ?_; (with_reducible refine (spec_l3Words.calls k _ _ l0 true _ ?side1 ?side2 A2.out).mono ?_); (case side1 => repeat (exact HR0.out)); (case side2 => exact HC0.out); rintro e w' ⟨rfl, ⟨nd, rfl⟩⟩; refine ⟨_, rfl, ?_⟩) | ((with_reducible refine gate_callee (f := 142) rfl ?_); refine gl 15 Try.func142 #[.slice A0 l0.length c0] ?_; (with_reducible refine (spec_l3All.calls k (fun k_ => k_ < w.heap.size) _ _ l0 t183 _ ?side1 A4.out).mono ?_); (case side1 => exact Kd.V_mk HC0.out (Kd.F_below (Kd.C_F Kd.heap_string HR0.out) bel)); rintro e w10 ⟨v184, rfl, ho0, hb⟩; refine ⟨_, rfl, ?_⟩; have HO185 := am (Kd.N_lower (Kd.N_mono (ok' := fun k_ => True) ho0 (fun k_ hk_ => trivial)) (below_size bel)); replace HB := am (below_step bel hb); clear hb; clear ho0; obtain ⟨Ao11, co11, eo11⟩ := Kd.N_slice HO185.out; subst eo11) | ((with_reducible refine gate_dst (N := 20) rfl ?_); refine Kd.S_lit k95 _ 95 ?hg (N := 20) ?hd (xs := ([] : List (S95))) (inner := []) (ok := fun _ => True) (okp := fun _ => True) ?hr ?hp (fun _ hk => hk) trivial (Below.refl _ _) (Nat.le_refl _) (by simp) ?_; (case hd => rfl); (case hg => rfl); (case hr => (go_simp; done)); (case hp => exact (Reps.none _ _)); intro v190 w12 ho13 hb hg_ hnew_; clear hg_ hnew_; (rw [← Ny189.out] at ho13); replace HO185 := am (Kd.N_elder' (by (with_reducible repeat (fail)); exact HO185.out) (Kd.S_base ho13) hb); have HO191 := am (Kd.S_lower ho13 (below_size bel)); replace HB := am (below_step bel hb); clear hb ho13))
  go_loopg [5, 6] k (fun kq v5 v6 w' => ∃ (x5_1 : List (S95)) (x6_1 : Int), v6 = .int .i64 x6_1 ∧ Aside0 (spec_MachineOf.l0 kq t183 x5_1 x6_1 = some (r1, r2)) ∧ Aside0 (kq ≤ k) ∧ Aside0 (Kd.N (Kd.slice 9 Kd.string) 27 w' w.heap.size (fun k_ => some k_ ≠ (v5 : Value).ownBlock) (.slice Ao11 t183.length co11) t183) ∧ Aside0 (Kd.S k95 95 w' w.heap.size (fun _ => True) v5 x5_1) ∧ Aside0 (Below w.heap.size w w'))
  case atStart => exact ⟨(y189), (0), sq, H', ⟨Nat.le_refl _⟩, ⟨by (with_reducible repeat (fail)); exact Kd.N_mono HO185.out (fun _ hk => hk.2)⟩, ⟨by (with_reducible repeat (fail)); exact HO191.out⟩, ⟨bel⟩⟩
  case round =>
   clear H'; clear c5b0 c5b1; obtain ⟨x5_1, x6_1, rfl, HA, HK1, HO_4, HO_5, HB⟩ := hrel
   cases gk with
   | zero => exact absurd HA.out (by simp [spec_MachineOf.l0])
   | succ k1 =>
    have H := HA.out; clear HA; simp only [spec_MachineOf.l0] at H
    by_cases c14 : x6_1 < (t183.length : Int)
    ·rw [if_pos c14] at H; have c14b0 := decide_eq_true c14; clear c14
     replace H := it H; obtain ⟨c15b0, H⟩ := H
     by_cases c16 : ((rd_L2 t183 x6_1).length : Int) > 0
     ·rw [if_pos c16] at H; have c16b0 := decide_eq_true c16
      have c16b1 : decide (0 < (rd_L2 t183 x6_1).length) = true := decide_eq_true (by omega)
      clear c16; replace H := ip H; obtain ⟨c17, H⟩ := H; have c17b0 := decide_eq_true c17
      have c17b1 : decide (0 < (rd_L2 t183 x6_1).length) = true := decide_eq_true (by omega)
      clear c17; obtain ⟨y195, hy195⟩ : ∃ y_ : List (S97), y_ = (([] : List (S97))) := ⟨_, rfl⟩
      rw [← hy195] at H
      rw [show ((rdOf ByteArray.empty (rd_L2 t183 x6_1) 0).toList == ([] : List UInt8)) = (rdOf ByteArray.empty (rd_L2 t183 x6_1) 0).toList.isEmpty from by generalize (rdOf ByteArray.empty (rd_L2 t183 x6_1) 0).toList = l_; cases l_ <;> rfl] at H
      have Ny195 := am hy195; clear hy195
      have H' := am H
      clear H
      have p192 : 0 ≤ (x6_1 : Int) := of_decide_eq_true ad
      have q192 : x6_1 < (t183.length : Int) := of_decide_eq_true ad
      obtain ⟨ad192, A192_0, c192_0, e192, hx192_0, hl192_0, hi192_0⟩ := at_L2 (Kd.N_reads' HO_4.out).2.2 x6_1 p192 q192; cases e192
      obtain ⟨ce192, hce192, hMe192, hcc192⟩ := Kd.N_get HO_4.out [] x6_1 p192 (by exact q192)
      obtain ⟨ua192_0, uc192_0, rfl, ul192_0, ge192_0⟩ := Kd.FK_slice_open hMe192; have hv192_0 := hcc192 0 _ rfl; rw [Nat.add_zero, show ((Kd.slice 9 Kd.string)).sz = 1 from rfl, Nat.mul_one] at hv192_0; replace hv192_0 := Option.some.inj (hv192_0.symm.trans hx192_0)
      injection hv192_0 with hva_ hvn_ hvc_
      rw [hva_] at ge192_0; rw [hvc_] at ul192_0; have HL192_0 := am (show Kd.V Kd.string 9 _ w.heap.size _ _ (rd_L2 t183 x6_1) from Kd.V_mk ul192_0 ge192_0); clear hva_ hvn_ hvc_ ge192_0 ul192_0; clear hcc192 hce192; have HR192_0 := am hi192_0; have HC192_0 := am hl192_0; clear hi192_0 hl192_0; replace p192 := eq_true p192; replace q192 := eq_true q192
      have p193 : 0 ≤ (x6_1 : Int) := of_decide_eq_true ad
      have q193 : x6_1 < (t183.length : Int) := of_decide_eq_true ad
      obtain ⟨ad193, A193_0, c193_0, e193, hx193_0, hl193_0, hi193_0⟩ := at_L2 (Kd.N_reads' HO_4.out).2.2 x6_1 p193 q193
      obtain rfl : ad192 = ad193 := (by injection e193)
      obtain ⟨ce193, hce193, hMe193, hcc193⟩ := Kd.N_get HO_4.out [] x6_1 p193 (by exact q193)
      obtain ⟨ua193_0, uc193_0, rfl, ul193_0, ge193_0⟩ := Kd.FK_slice_open hMe193; have hv193_0 := hcc193 0 _ rfl; rw [Nat.add_zero, show ((Kd.slice 9 Kd.string)).sz = 1 from rfl, Nat.mul_one] at hv193_0; replace hv193_0 := Option.some.inj (hv193_0.symm.trans hx193_0)
      injection hv193_0 with hva_ hvn_ hvc_
      rw [hva_] at ge193_0; rw [hvc_] at ul193_0; have HL193_0 := am (show Kd.V Kd.string 9 _ w.heap.size _ _ (rd_L2 t183 x6_1) from Kd.V_mk ul193_0 ge193_0); clear hva_ hvn_ hvc_ ge193_0 ul193_0; clear hcc193 hce193; have HR193_0 := am hi193_0; have HC193_0 := am hl193_0; clear hi193_0 hl193_0; replace p193 := eq_true p193; replace q193 := eq_true q193; have ea_ := Option.some.inj (hx192_0.symm.trans hx193_0)
      injection ea_ with ea_ en_ ec_
      subst ea_; subst ec_; clear en_
      have p194 : 0 ≤ (0 : Int) := (by omega)
      have q194 : 0 < ((rd_L2 t183 x6_1).length : Int) := of_decide_eq_true ad
      obtain ⟨ad194, e194, hx194_0⟩ := Kd.at_string b57_ 0 p194 q194; cases e194
      have qi194 : (0 < (rd_L2 t183 x6_1).length) = True := eq_true (by omega)
      rw [show ((0 : Int)).toNat = 0 from rfl] at hx194_0
      rw [Addr.add_zero'] at hx194_0
      replace p194 := eq_true p194; replace q194 := eq_true q194
      go_wp2_with (first | ((with_reducible refine gate_dst (N := 42) rfl ?_); refine Kd.R_lit k97 _ 97 ?hg (N := 42) ?hd (xs := ([] : List (S97))) (inner := []) (ok := fun _ => True) (okp := fun _ => True) ?hr ?hp (fun _ hk => hk) trivial (Below.refl _ _) (Nat.le_refl _) (by simp) ?_; (case hd => rfl); (case hg => rfl); (case hr => (go_simp; done)); (case hp => exact (Reps.none _ _)); intro v196 w18 ho19 hb hg_ hnew_; clear hg_ hnew_; (rw [← Ny195.out] at ho19); replace HO_4 := am (Kd.N_elder' b40_ (Kd.R_base ho19) hb); replace HO_5 := am (Kd.S_elder' b7_ (Kd.R_base ho19) hb); replace HL192_0 := am (Kd.V_elder' (vq HL192_0.out) (Kd.R_base ho19) hb); replace HL193_0 := am (Kd.V_elder' (vq HL193_0.out) (Kd.R_base ho19) hb); have HO197 := am (Kd.R_lower ho19 (below_size bel)); replace HR192_0 := am (Kd.C_below b44_ hb); replace HR193_0 := am (Kd.C_below b57_ hb); replace HB := am (below_step bel hb); clear hb ho19; obtain ⟨Ao20, co20, eo20⟩ := Kd.R_slice HO197.out; subst eo20) | ((with_reducible refine gate_dst (N := 7) rfl ?_); refine bx 7 (cs := #[.bool false, .slice none 0 0]) (t := 95) ?_; intro gb198 hg w21 hbox hb; replace HO_4 := am (Kd.N_below (Kd.N_elderB b40_ gb198 (Nat.le_of_eq hg.symm)) hb); replace HO_5 := am (Kd.S_below (Kd.S_elderB b7_ gb198 (Nat.le_of_eq hg.symm)) hb); replace HL192_0 := am (Kd.V_below (Kd.V_elderB (vq HL192_0.out) gb198 (Nat.le_of_eq hg.symm)) hb); replace HL193_0 := am (Kd.V_below (Kd.V_elderB (vq HL193_0.out) gb198 (Nat.le_of_eq hg.symm)) hb); replace HO197 := am (Kd.R_below (rq HO197.out) hb); replace HR192_0 := am (Kd.C_below b44_ hb); replace HR193_0 := am (Kd.C_below b57_ hb); have BK198 := am (hbox); have GW198 := am ((b17_ : w.heap.size ≤ gb198)); have GE198 := am ((b17_ : w.heap.size ≤ gb198)); replace HB := am (below_step bel hb); clear hb hbox hg; have ⟨hcz22_0, hcz22_1, hfz22_0, hfz22_1⟩ := b2c BK198.out))
      go_loopg [8] k1 (fun kq v8 w' => ∃ (x8_2 : Int) (x199001_2 : List (S97)) (u199001 : Value), v8 = .int .u8 x8_2 ∧ Aside0 (spec_MachineOf.l1 kq t183 x5_1 x6_1 x8_2 ((rdOf ByteArray.empty (rd_L2 t183 x6_1) 0).toList.isEmpty) x199001_2 = some (r1, r2)) ∧ Aside0 (kq ≤ k1) ∧ Aside0 (Kd.N (Kd.slice 9 Kd.string) 27 w' w.heap.size (fun k_ => some k_ ≠ (u5 : Value).ownBlock ∧ some k_ ≠ (u199001 : Value).ownBlock ∧ k_ ≠ gb198) (.slice (some ad192) t183.length co11) t183) ∧ Aside0 (Kd.S k95 95 w' w.heap.size (fun k_ => some k_ ≠ (u199001 : Value).ownBlock ∧ k_ ≠ gb198) u5 x5_1) ∧ Aside0 (Kd.R k97 97 w' w.heap.size (fun _ => True) u199001 x199001_2) ∧ Aside0 (w'.heap[gb198]? = some (.cells #[.bool ((rdOf ByteArray.empty (rd_L2 t183 x6_1) 0).toList.isEmpty), u199001] 95 (0, 0))) ∧ Aside0 (Below w.heap.size w w'))
      case atStart => exact ⟨(97), (y195), (.slice Ao20 y195.length co20), sq, H', ⟨Nat.le_refl _⟩, ⟨by (with_reducible repeat (fail)); exact Kd.N_mono (Kd.N_far (p := ⟨gb198, 1, none⟩) (Kd.N_far (p := ⟨gb198, 0, none⟩) (Kd.N_mono HO_4.out (fun k_ hk => (⟨hk, hk.2⟩ : _ ∧ k_ ≠ gb198))) (fun _ hk => hk.2) (.bool ((rdOf ByteArray.empty (rd_L2 t183 x6_1) 0).toList.isEmpty))) (fun _ hk => hk.2) (.slice Ao20 y195.length co20)) (fun _ hk => ⟨hk.1.1.1, ⟨hk.1.1.2, hk.1.2⟩⟩)⟩, ⟨by (with_reducible repeat (fail)); exact Kd.S_mono (Kd.S_far (p := ⟨gb198, 1, none⟩) (Kd.S_far (p := ⟨gb198, 0, none⟩) (Kd.S_mono HO_5.out (fun k_ hk => (⟨hk, hk.2⟩ : _ ∧ k_ ≠ gb198))) (fun _ hk => hk.2) (.bool ((rdOf ByteArray.empty (rd_L2 t183 x6_1) 0).toList.isEmpty))) (fun _ hk => hk.2) (.slice Ao20 y195.length co20)) (fun _ hk => ⟨hk.1.1.2, hk.1.2⟩)⟩, ⟨rq (Kd.R_mono (Kd.R_far (p := ⟨gb198, 1, none⟩) (Kd.R_far (p := ⟨gb198, 0, none⟩) (Kd.R_types HO197.out BK198.out (by decide)) (fun _ hk => hk.2) (.bool ((rdOf ByteArray.empty (rd_L2 t183 x6_1) 0).toList.isEmpty))) (fun _ hk => hk.2) (.slice Ao20 y195.length co20)) (fun _ hk => trivial))⟩, ⟨by (with_reducible repeat (fail)); refine blk_put (cs := #[.bool ((rdOf ByteArray.empty (rd_L2 t183 x6_1) 0).toList.isEmpty), .slice none 0 0]) ?_ 1 _ rfl; (with_reducible repeat (fail)); refine blk_put (cs := #[.bool false, .slice none 0 0]) ?_ 0 _ rfl; (with_reducible repeat (fail)); exact BK198.out⟩, ⟨bel1 GE198.out⟩⟩
      case round =>
       clear H'; clear c14b0 c15b0 c16b0 c16b1 c17b0 c17b1 hcz22_0 hcz22_1 hfz22_0 hfz22_1 hx192_0 hx193_0 hx194_0 p192 p193 p194 q192 q193 q194; obtain ⟨x8_2, x199001_2, u199001, rfl, HA, HK2, HO_4, HO_5, HO_199001, BK198, HB⟩ := hrel
       cases gk with
       | zero => exact absurd HA.out (by simp [spec_MachineOf.l1])
       | succ k2 =>
        have H := HA.out; clear HA; simp only [spec_MachineOf.l1] at H
        by_cases c23 : x8_2 ≤ 122
        ·rw [if_pos c23] at H; have c23b0 := decide_eq_true c23; clear c23
         replace H := it H; obtain ⟨c24b0, H⟩ := H
         replace H := it H; obtain ⟨c25b0, H⟩ := H; replace H := bs H; obtain ⟨t200, A260, H⟩ := H; have A26 := Aside0.mk A260; clear A260
         by_cases c27 : (t200.length : Int) > 0
         ·rw [if_pos c27] at H; have c27b0 := decide_eq_true c27
          have c27b1 : decide (0 < t200.length) = true := decide_eq_true (by omega)
          clear c27; replace H := bs H; obtain ⟨t203, A280, H⟩ := H; have A28 := Aside0.mk A280; clear A280
          replace H := ip H; obtain ⟨c29, H⟩ := H; have LMc29 := Aside0.mk c29; clear c29; obtain ⟨y204, hy204⟩ : ∃ y_ : List (S97), y_ = (x199001_2 ++ [(⟨wrap64 (x8_2), t203⟩ : S97)]) := ⟨_, rfl⟩
          replace H : (spec_MachineOf.l1 k2 t183 x5_1 x6_1 ((x8_2 + 1) % 256) ((rdOf ByteArray.empty (rd_L2 t183 x6_1) 0).toList.isEmpty) y204) = some (r1, r2) := b63_
          have Ny204 := am hy204; clear hy204
          have H' := am H
          clear H
          have p199 : 0 ≤ (x6_1 : Int) := of_decide_eq_true ad
          have q199 : x6_1 < (t183.length : Int) := of_decide_eq_true ad
          obtain ⟨ad199, A199_0, c199_0, e199, hx199_0, hl199_0, hi199_0⟩ := at_L2 (Kd.N_reads' HO_4.out).2.2 x6_1 p199 q199
          obtain rfl : ad192 = ad199 := (by injection e199)
          obtain ⟨ce199, hce199, hMe199, hcc199⟩ := Kd.N_get HO_4.out [] x6_1 p199 b77_
          obtain ⟨ua199_0, uc199_0, rfl, ul199_0, ge199_0⟩ := Kd.FK_slice_open hMe199; have hv199_0 := hcc199 0 _ rfl; rw [Nat.add_zero, show ((Kd.slice 9 Kd.string)).sz = 1 from rfl, Nat.mul_one] at hv199_0; replace hv199_0 := Option.some.inj (hv199_0.symm.trans hx199_0)
          injection hv199_0 with hva_ hvn_ hvc_
          rw [hva_] at ge199_0; rw [hvc_] at ul199_0; have HL199_0 := am (show Kd.V Kd.string 9 _ w.heap.size _ _ (rd_L2 t183 x6_1) from Kd.V_mk ul199_0 ge199_0); clear hva_ hvn_ hvc_ ge199_0 ul199_0; clear hcc199 hce199; have HR199_0 := am hi199_0; have HC199_0 := am hl199_0; clear hi199_0 hl199_0; replace p199 := eq_true p199; replace q199 := eq_true q199
          try go_wp2_with ((with_reducible refine gate_callee (f := 143) rfl ?_); refine gl 53 Try.func143 #[.slice A199_0 (rd_L2 t183 x6_1).length c199_0, .int .u8 x8_2] ?_; (with_reducible refine (spec_l3Ends.calls k2 _ _ (rd_L2 t183 x6_1) x8_2 t200 _ ?side1 ?side2 A26.out).mono ?_); (case side1 => repeat (exact b23_)); (case side2 => exact HC199_0.out); rintro e w30 ⟨v201, rfl, ho0, hb⟩; refine ⟨_, rfl, ?_⟩; replace HO_4 := am (Kd.N_elder' b40_ (Kd.R_base ho0) hb); replace HO_5 := am (Kd.S_below b7_ hb); replace HO_199001 := am (Kd.R_below (rq HO_199001.out) hb); replace HL199_0 := am (Kd.V_elder' (vq HL199_0.out) (Kd.R_base ho0) hb); have HO202 := am (Kd.R_lower ho0 (below_size (bel1 GE198.out))); replace BK198 := am (blk_below (bq BK198.out) hb); replace HR199_0 := am (Kd.C_below b23_ hb); replace HB := am (below_step (bel1 GE198.out) hb); clear hb; clear ho0; obtain ⟨Ao31, co31, eo31⟩ := Kd.R_slice HO202.out; subst eo31)
          replace HO_4 := am (Kd.N_drew HO_4.out); replace HO_5 := am (Kd.S_drew HO_5.out); replace HO_199001 := am (Kd.R_drew HO_199001.out); replace HL199_0 := am (Kd.V_drew HL199_0.out); replace HO202 := am (Kd.R_drew HO202.out); replace BK198 := am (blk_drew BK198.out); replace HR199_0 := am (Kd.C_drew HR199_0.out); replace HB := am (below_drew1 HB.out)
          refine start_ (n := 12) (S := fun w' => w'.cell? ⟨gb198, 0, none⟩ = some (.bool ((rdOf ByteArray.empty (rd_L2 t183 x6_1) 0).toList.isEmpty)) ∧ w'.cell? ⟨gb198, 1, none⟩ = some (u199001)) (ds := [11]) #[false, false, false, false, false, false, false, false, false, false, false, false] (by kernel_rfl) rfl rfl ⟨bd BK198.out 0, bd BK198.out 1⟩ (fun hHeld => ?_); refine with_tabW spec_MachineOf.tab16 spec_MachineOf.bits16 (fun HT_ HW_ => ?_)
          generalize w30.drew = w32 at HO_4 HO_5 HO_199001 HL199_0 HO202 BK198 HR199_0 HB hHeld ⊢; refine pu 0 57 ?_; refine pu 2 59 ?_; refine pu 3 60 ?_; refine pu 4 61 ?_; refine pu 5 62 ?_; refine tk2 1 58 hHeld ?_; refine on1 6 63 (fun K hK => ?_)
          refine go1 Try.func144 #[.slice (some ad192) t183.length co11, .slice Ao31 t200.length co31] ?_
          with_reducible refine (spec_l3At.calls k2 _ _ t183 _ _ t200 t203 _ ?side1 ?side2 ?side3 ?side4 A28.out).mono ?_
          (case side1 => exact cq (Kd.N_reads' HO_4.out).2.2); (case side2 => exact (Kd.N_reads' HO_4.out).2.1); (case side3 => exact cq (Kd.R_reads' HO202.out).2.2); (case side4 => exact (Kd.R_reads' HO202.out).2.1)
          rintro e w' ⟨rfl, ⟨nd, rfl⟩⟩
          refine ⟨_, rfl, ?_⟩; refine hK.out _ _ ⟨bd BK198.out 0, bd BK198.out 1⟩ (fun hHeld => ?_); clear hK K; refine nm 63 ?_; refine pu 7 64 ?_; refine on1 8 65 (fun K hK => ?_)
          refine value_ (w1 := ?_) (v := ?_) (by rfl) rfl ?_ ?_
          rotate_left 2
          ·go_simp
           constructor
           ·rfl
           ·rfl
          refine hK.out _ _ ⟨bd (blk_alloc BK198.out _) 0, bd (blk_alloc BK198.out _) 1⟩ (fun hHeld => ?_); clear hK K; refine nm 65 ?_; refine on1 9 66 (fun K hK => ?_)
          refine Kd.R_append_step k97 (w0 := w) w.heap.size (by rfl) (.tmp 58) (.tmp 65) 93 97 (.agg #[(.int .i64 0), (.int .i64 0)]) 16 rfl Try.underlying93 info97 rfl (by decide) (by omega) u199001 x199001_2 (⟨wrap64 (x8_2), t203⟩ : S97) [.int .i64 (wrap64 (x8_2)), .int .i64 t203] (fun _ => True) (fun _ => False) rfl rfl ?aP (fun _ hk => hk.elim) ?aF ?aO ?aB ?aS ?aL ?_
          (case aP => exact k97_mkM _ _ _ (⟨wrap64 (x8_2), t203⟩ : S97)); (case aB => exact (bel1 GE198.out)); (case aF => exact (fun _ _ => trivial)); (case aO => exact (rq HO_199001.out)); (case aS => exact (below_size (bel1 GE198.out))); (case aL => have := LMc29.out; omega); intro v205 w33 ho hb hg hat; rw [← Ny204.out] at ho
          replace HO_4 := am (Kd.N_afterv (ok := (fun k_ => some k_ ≠ (u5 : Value).ownBlock ∧ some k_ ≠ (.slice Ao31 t200.length co31 : Value).ownBlock ∧ k_ ≠ gb198)) b84_ hg hat)
          replace HO_5 := am (Kd.S_after (ok := (fun k_ => k_ ≠ gb198)) b99_ hg hat)
          replace BK198 := am (blk_grown (g := gb198) (o := .cells #[.bool ((rdOf ByteArray.empty (rd_L2 t183 x6_1) 0).toList.isEmpty), u199001] 95 (0, 0)) (bq BK198.out) hg (Kd.R_ne HO_199001.out BK198.out (by decide)))
          replace HL199_0 := am (Kd.V_afterv (ok := (fun k_ => some k_ ≠ (.slice (some ad192) t183.length co11 : Value).ownBlock ∧ some k_ ≠ (u5 : Value).ownBlock ∧ some k_ ≠ (.slice Ao31 t200.length co31 : Value).ownBlock ∧ k_ ≠ gb198)) (vq (Kd.V_mono HL199_0.out (fun _ hk => ⟨⟨hk.1.2, ⟨hk.1.1.1, ⟨hk.2, hk.1.1.2.2⟩⟩⟩, hk.1.1.2.1⟩))) hg hat)
          replace HO202 := am (Kd.R_over' (rq HO202.out) (Kd.R_typed (rq HO_199001.out)) (by decide) hg); replace HB := am (hb); have HO206 := am (ho); clear HO_199001; clear ho hb hg hat; obtain ⟨Ao34, co34, eo34⟩ := Kd.R_slice HO206.out
          (subst eo34)
          refine hK.out _ _ ⟨bd BK198.out 0, bd BK198.out 1⟩ (fun hHeld => ?_); clear hK K; refine nm 66 ?_; refine pu 10 67 ?_
          refine last_ (i := 11) (N := none) #[true, true, true, true, true, true, true, true, true, true, true, true] rfl rfl (one_of HT_.out (by kernel_rfl)) (by decide) (fun K hK => ?_)
          have hs35 : w33.cell? ⟨gb198, 1, none⟩ = some (u199001) := bd BK198.out 1
          have hfs35 := bf BK198.out 1
          refine skip_ (w1 := ?_) (by rfl) rfl ?_ ?_
          rotate_left
          ·go_simp
           rfl
          refine hK.out _ _ ?_; clear hK K
          refine done_ (done_of HT_.out (by kernel_rfl)) ?_
          try go_wp2
          go_roundg k2
          case measure => have := HK1.out; have := HK2.out; omega
          case rel => exact ⟨((x8_2 + 1) % 256), (y204), (.slice Ao34 y204.length co34), sq, H', ⟨b30_⟩, ⟨by (with_reducible repeat (fail)); exact Kd.N_mono (Kd.N_far (p := ⟨gb198, 1, none⟩) (Kd.N_mono HO_4.out (fun k_ hk => (⟨hk, hk.1.2.2⟩ : _ ∧ k_ ≠ gb198))) (fun _ hk => hk.2) (.slice Ao34 y204.length co34)) (fun _ hk => ⟨hk.1.1.1, ⟨hk.1.2, hk.1.1.2.2⟩⟩)⟩, ⟨by (with_reducible repeat (fail)); exact Kd.S_mono (Kd.S_far (p := ⟨gb198, 1, none⟩) (Kd.S_mono HO_5.out (fun k_ hk => (⟨hk, hk.1⟩ : _ ∧ k_ ≠ gb198))) (fun _ hk => hk.2) (.slice Ao34 y204.length co34)) (fun _ hk => ⟨hk.1.2, hk.1.1⟩)⟩, ⟨rq (Kd.R_mono (Kd.R_far (p := ⟨gb198, 1, none⟩) (Kd.R_types HO206.out BK198.out (by decide)) (fun _ hk => hk.2) (.slice Ao34 y204.length co34)) (fun _ hk => trivial))⟩, ⟨by (with_reducible repeat (fail)); refine blk_put (cs := #[.bool ((rdOf ByteArray.empty (rd_L2 t183 x6_1) 0).toList.isEmpty), u199001]) ?_ 1 _ rfl; (with_reducible repeat (fail)); exact BK198.out⟩, ⟨bel1 GE198.out⟩⟩
         rw [if_neg c27] at H; have c27b0 := decide_eq_false c27
         have c27b1 : decide (0 < t200.length) = false := decide_eq_false (by omega)
         clear c27
         have H' := am H
         clear H
         have p199 : 0 ≤ (x6_1 : Int) := of_decide_eq_true ad
         have q199 : x6_1 < (t183.length : Int) := of_decide_eq_true ad
         obtain ⟨ad199, A199_0, c199_0, e199, hx199_0, hl199_0, hi199_0⟩ := at_L2 (Kd.N_reads' HO_4.out).2.2 x6_1 p199 q199
         obtain rfl : ad192 = ad199 := (by injection e199)
         obtain ⟨ce199, hce199, hMe199, hcc199⟩ := Kd.N_get HO_4.out [] x6_1 p199 b77_
         obtain ⟨ua199_0, uc199_0, rfl, ul199_0, ge199_0⟩ := Kd.FK_slice_open hMe199; have hv199_0 := hcc199 0 _ rfl; rw [Nat.add_zero, show ((Kd.slice 9 Kd.string)).sz = 1 from rfl, Nat.mul_one] at hv199_0; replace hv199_0 := Option.some.inj (hv199_0.symm.trans hx199_0)
         injection hv199_0 with hva_ hvn_ hvc_
         rw [hva_] at ge199_0; rw [hvc_] at ul199_0; have HL199_0 := am (show Kd.V Kd.string 9 _ w.heap.size _ _ (rd_L2 t183 x6_1) from Kd.V_mk ul199_0 ge199_0); clear hva_ hvn_ hvc_ ge199_0 ul199_0; clear hcc199 hce199; have HR199_0 := am hi199_0; have HC199_0 := am hl199_0; clear hi199_0 hl199_0; replace p199 := eq_true p199; replace q199 := eq_true q199
         go_wp2_with ((with_reducible refine gate_callee (f := 143) rfl ?_); refine gl 53 Try.func143 #[.slice A199_0 (rd_L2 t183 x6_1).length c199_0, .int .u8 x8_2] ?_; (with_reducible refine (spec_l3Ends.calls k2 _ _ (rd_L2 t183 x6_1) x8_2 t200 _ ?side1 ?side2 A26.out).mono ?_); (case side1 => repeat (exact b23_)); (case side2 => exact HC199_0.out); rintro e w36 ⟨v201, rfl, ho0, hb⟩; refine ⟨_, rfl, ?_⟩; replace HO_4 := am (Kd.N_elder' b40_ (Kd.R_base ho0) hb); replace HO_5 := am (Kd.S_below b7_ hb); replace HO_199001 := am (Kd.R_below (rq HO_199001.out) hb); replace HL199_0 := am (Kd.V_elder' (vq HL199_0.out) (Kd.R_base ho0) hb); have HO202 := am (Kd.R_lower ho0 (below_size (bel1 GE198.out))); replace BK198 := am (blk_below (bq BK198.out) hb); replace HR199_0 := am (Kd.C_below b23_ hb); replace HB := am (below_step (bel1 GE198.out) hb); clear hb; clear ho0; obtain ⟨Ao37, co37, eo37⟩ := Kd.R_slice HO202.out; subst eo37)
         go_roundg k2
         case measure => have := HK1.out; have := HK2.out; omega
         case rel => exact ⟨((x8_2 + 1) % 256), (x199001_2), (u199001), sq, H', ⟨b30_⟩, ⟨b85_⟩, ⟨b7_⟩, ⟨rq HO_199001.out⟩, ⟨bq BK198.out⟩, ⟨bel1 GE198.out⟩⟩
        rw [if_neg c23] at H; have c23b0 := decide_eq_false c23; clear c23
        replace H := ip H; obtain ⟨c38, H⟩ := H; have LMc38 := Aside0.mk c38; clear c38; obtain ⟨y207, hy207⟩ : ∃ y_ : List (S95), y_ = (x5_1 ++ [(⟨((rdOf ByteArray.empty (rd_L2 t183 x6_1) 0).toList.isEmpty), x199001_2⟩ : S95)]) := ⟨_, rfl⟩
        replace H : (spec_MachineOf.l0 k2 t183 y207 (wrap64 (x6_1 + 1))) = some (r1, r2) := b64_
        have Ny207 := am hy207; clear hy207
        have H' := am H
        clear H; have ⟨hcz39_0, hcz39_1, hfz39_0, hfz39_1⟩ := b2c BK198.out; obtain ⟨Ao41, co41, eo41⟩ := Kd.R_slice HO_199001.out; subst eo41
        go_wp2_with ((with_reducible refine gate_builtin (b := .append) (xs := #[.tmp 68, .tmp 70]) rfl ?_); at_builtin; refine Kd.S_append k95 (w0 := w) w.heap.size rfl (.tmp 68) (.tmp 70) 49 95 (.agg #[(.bool false), (.slice none 0 0)]) 32 rfl Try.underlying49 info95 rfl (by decide) (by omega) u5 x5_1 (⟨((rdOf ByteArray.empty (rd_L2 t183 x6_1) 0).toList.isEmpty), x199001_2⟩ : S95) [.bool ((rdOf ByteArray.empty (rd_L2 t183 x6_1) 0).toList.isEmpty), .slice Ao41 x199001_2.length co41] (fun k_ => k_ ≠ gb198) (fun k_ => some k_ = (.slice Ao41 x199001_2.length co41 : Value).ownBlock) rfl rfl ?aP (fun k_ hk_ => ((Kd.R_mono (ok' := fun k_ => ((fun k_ => k_ ≠ gb198)) k_ ∧ some k_ ≠ (u5 : Value).ownBlock) (Kd.R_types (Kd.R_apart' (HO_199001.out) (Kd.S_typed HO_5.out) (by decide)) BK198.out (by decide)) (fun k_ hk => ⟨hk.2, hk.1.2⟩))).1 k_ hk_.symm) ?aF ?aO ?aB ?aS ?aL ?_; (case aP => exact k95_mkM _ _ _ (⟨((rdOf ByteArray.empty (rd_L2 t183 x6_1) 0).toList.isEmpty), x199001_2⟩ : S95) (Kd.R_mono (Kd.R_tight rfl (Kd.R_mono (ok' := fun k_ => ((fun k_ => k_ ≠ gb198)) k_ ∧ some k_ ≠ (u5 : Value).ownBlock) (Kd.R_types (Kd.R_apart' (HO_199001.out) (Kd.S_typed HO_5.out) (by decide)) BK198.out (by decide)) (fun k_ hk => ⟨hk.2, hk.1.2⟩))) (fun _ h_ => h_))); (case aB => exact (bel1 GE198.out)); (case aF => exact (fun k_ hk => Kd.freshB (g := gb198) (o := .cells #[.bool ((rdOf ByteArray.empty (rd_L2 t183 x6_1) 0).toList.isEmpty), .slice Ao41 x199001_2.length co41] 95 (0, 0)) (bq BK198.out) k_ hk)); (case aO => exact b88_); (case aS => exact (below_size (bel1 GE198.out))); (case aL => have := LMc38.out; omega); intro v208 w40 ho hb hg hat; rw [← Ny207.out] at ho; replace HO_4 := am (Kd.N_afterv (ok := (fun k_ => some k_ ≠ (.slice Ao41 x199001_2.length co41 : Value).ownBlock ∧ k_ ≠ gb198)) b94_ hg hat); replace BK198 := am (blk_grown (g := gb198) (o := .cells #[.bool ((rdOf ByteArray.empty (rd_L2 t183 x6_1) 0).toList.isEmpty), .slice Ao41 x199001_2.length co41] 95 (0, 0)) (bq BK198.out) hg (Kd.S_away HO_5.out (fun _ hk => hk.2))); replace HB := am (hb); have HO209 := am (ho); clear HO_5 HO_199001; clear ho hb hg hat)
        go_roundg k2
        case measure => have := HK1.out; have := HK2.out; omega
        case rel => exact ⟨(y207), (wrap64 (x6_1 + 1)), sq, H', ⟨b30_⟩, ⟨b102_⟩, ⟨b100_⟩, ⟨bel1 GE198.out⟩⟩
     rw [if_neg c16] at H; have c16b0 := decide_eq_false c16
     have c16b1 : decide (0 < (rd_L2 t183 x6_1).length) = false := decide_eq_false (by omega)
     clear c16; obtain ⟨y210, hy210⟩ : ∃ y_ : List (S97), y_ = (([] : List (S97))) := ⟨_, rfl⟩
     rw [← hy210] at H
     have Ny210 := am hy210; clear hy210
     have H' := am H
     clear H
     have p192 : 0 ≤ (x6_1 : Int) := of_decide_eq_true ad
     have q192 : x6_1 < (t183.length : Int) := of_decide_eq_true ad
     obtain ⟨ad192, A192_0, c192_0, e192, hx192_0, hl192_0, hi192_0⟩ := at_L2 (Kd.N_reads' HO_4.out).2.2 x6_1 p192 q192; cases e192
     obtain ⟨ce192, hce192, hMe192, hcc192⟩ := Kd.N_get HO_4.out [] x6_1 p192 (by exact q192)
     obtain ⟨ua192_0, uc192_0, rfl, ul192_0, ge192_0⟩ := Kd.FK_slice_open hMe192; have hv192_0 := hcc192 0 _ rfl; rw [Nat.add_zero, show ((Kd.slice 9 Kd.string)).sz = 1 from rfl, Nat.mul_one] at hv192_0; replace hv192_0 := Option.some.inj (hv192_0.symm.trans hx192_0)
     injection hv192_0 with hva_ hvn_ hvc_
     rw [hva_] at ge192_0; rw [hvc_] at ul192_0; have HL192_0 := am (show Kd.V Kd.string 9 _ w.heap.size _ _ (rd_L2 t183 x6_1) from Kd.V_mk ul192_0 ge192_0); clear hva_ hvn_ hvc_ ge192_0 ul192_0; clear hcc192 hce192; have HR192_0 := am hi192_0; have HC192_0 := am hl192_0; clear hi192_0 hl192_0; replace p192 := eq_true p192; replace q192 := eq_true q192
     go_wp2_with (first | ((with_reducible refine gate_dst (N := 42) rfl ?_); refine Kd.R_lit k97 _ 97 ?hg (N := 42) ?hd (xs := ([] : List (S97))) (inner := []) (ok := fun _ => True) (okp := fun _ => True) ?hr ?hp (fun _ hk => hk) trivial (Below.refl _ _) (Nat.le_refl _) (by simp) ?_; (case hd => rfl); (case hg => rfl); (case hr => (go_simp; done)); (case hp => exact (Reps.none _ _)); intro v211 w42 ho43 hb hg_ hnew_; clear hg_ hnew_; (rw [← Ny210.out] at ho43); replace HO_4 := am (Kd.N_elder' b40_ (Kd.R_base ho43) hb); replace HO_5 := am (Kd.S_elder' b7_ (Kd.R_base ho43) hb); replace HL192_0 := am (Kd.V_elder' (vq HL192_0.out) (Kd.R_base ho43) hb); have HO212 := am (Kd.R_lower ho43 (below_size bel)); replace HR192_0 := am (Kd.C_below b44_ hb); replace HB := am (below_step bel hb); clear hb ho43; obtain ⟨Ao44, co44, eo44⟩ := Kd.R_slice HO212.out; subst eo44) | ((with_reducible refine gate_dst (N := 7) rfl ?_); refine bx 7 (cs := #[.bool false, .slice none 0 0]) (t := 95) ?_; intro gb198 hg w45 hbox hb; replace HO_4 := am (Kd.N_below (Kd.N_elderB b40_ gb198 (Nat.le_of_eq hg.symm)) hb); replace HO_5 := am (Kd.S_below (Kd.S_elderB b7_ gb198 (Nat.le_of_eq hg.symm)) hb); replace HL192_0 := am (Kd.V_below (Kd.V_elderB (vq HL192_0.out) gb198 (Nat.le_of_eq hg.symm)) hb); replace HO212 := am (Kd.R_below (rq HO212.out) hb); replace HR192_0 := am (Kd.C_below b44_ hb); have BK198 := am (hbox); have GW198 := am ((b17_ : w.heap.size ≤ gb198)); have GE198 := am ((b17_ : w.heap.size ≤ gb198)); replace HB := am (below_step bel hb); clear hb hbox hg; have ⟨hcz46_0, hcz46_1, hfz46_0, hfz46_1⟩ := b2c BK198.out))
     go_loopg [8] k1 (fun kq v8 w' => ∃ (x8_2 : Int) (x199001_2 : List (S97)) (u199001 : Value), v8 = .int .u8 x8_2 ∧ Aside0 (spec_MachineOf.l1 kq t183 x5_1 x6_1 x8_2 false x199001_2 = some (r1, r2)) ∧ Aside0 (kq ≤ k1) ∧ Aside0 (Kd.N (Kd.slice 9 Kd.string) 27 w' w.heap.size (fun k_ => some k_ ≠ (u5 : Value).ownBlock ∧ some k_ ≠ (u199001 : Value).ownBlock ∧ k_ ≠ gb198) (.slice (some ad192) t183.length co11) t183) ∧ Aside0 (Kd.S k95 95 w' w.heap.size (fun k_ => some k_ ≠ (u199001 : Value).ownBlock ∧ k_ ≠ gb198) u5 x5_1) ∧ Aside0 (Kd.R k97 97 w' w.heap.size (fun _ => True) u199001 x199001_2) ∧ Aside0 (w'.heap[gb198]? = some (.cells #[.bool false, u199001] 95 (0, 0))) ∧ Aside0 (Below w.heap.size w w'))
     case atStart => exact ⟨(97), (y210), (.slice Ao44 y210.length co44), sq, H', ⟨Nat.le_refl _⟩, ⟨by (with_reducible repeat (fail)); exact Kd.N_mono (Kd.N_far (p := ⟨gb198, 1, none⟩) (Kd.N_far (p := ⟨gb198, 0, none⟩) (Kd.N_mono HO_4.out (fun k_ hk => (⟨hk, hk.2⟩ : _ ∧ k_ ≠ gb198))) (fun _ hk => hk.2) (.bool false)) (fun _ hk => hk.2) (.slice Ao44 y210.length co44)) (fun _ hk => ⟨hk.1.1.1, ⟨hk.1.1.2, hk.1.2⟩⟩)⟩, ⟨by (with_reducible repeat (fail)); exact Kd.S_mono (Kd.S_far (p := ⟨gb198, 1, none⟩) (Kd.S_far (p := ⟨gb198, 0, none⟩) (Kd.S_mono HO_5.out (fun k_ hk => (⟨hk, hk.2⟩ : _ ∧ k_ ≠ gb198))) (fun _ hk => hk.2) (.bool false)) (fun _ hk => hk.2) (.slice Ao44 y210.length co44)) (fun _ hk => ⟨hk.1.1.2, hk.1.2⟩)⟩, ⟨rq (Kd.R_mono (Kd.R_far (p := ⟨gb198, 1, none⟩) (Kd.R_far (p := ⟨gb198, 0, none⟩) (Kd.R_types HO212.out BK198.out (by decide)) (fun _ hk => hk.2) (.bool false)) (fun _ hk => hk.2) (.slice Ao44 y210.length co44)) (fun _ hk => trivial))⟩, ⟨by (with_reducible repeat (fail)); refine blk_put (cs := #[.bool false, .slice none 0 0]) ?_ 1 _ rfl; (with_reducible repeat (fail)); refine blk_put (cs := #[.bool false, .slice none 0 0]) ?_ 0 _ rfl; (with_reducible repeat (fail)); exact BK198.out⟩, ⟨bel1 GE198.out⟩⟩
     case round =>
      clear H'; clear c14b0 c15b0 c16b0 c16b1 hcz46_0 hcz46_1 hfz46_0 hfz46_1 hx192_0 p192 q192; obtain ⟨x8_2, x199001_2, u199001, rfl, HA, HK2, HO_4, HO_5, HO_199001, BK198, HB⟩ := hrel
      cases gk with
      | zero => exact absurd HA.out (by simp [spec_MachineOf.l1])
      | succ k2 =>
       have H := HA.out; clear HA; simp only [spec_MachineOf.l1] at H
       by_cases c47 : x8_2 ≤ 122
       ·rw [if_pos c47] at H; have c47b0 := decide_eq_true c47; clear c47
        replace H := it H; obtain ⟨c48b0, H⟩ := H
        replace H := it H; obtain ⟨c49b0, H⟩ := H; replace H := bs H; obtain ⟨t200, A500, H⟩ := H; have A50 := Aside0.mk A500; clear A500
        by_cases c51 : (t200.length : Int) > 0
        ·rw [if_pos c51] at H; have c51b0 := decide_eq_true c51
         have c51b1 : decide (0 < t200.length) = true := decide_eq_true (by omega)
         clear c51; replace H := bs H; obtain ⟨t203, A520, H⟩ := H; have A52 := Aside0.mk A520; clear A520
         replace H := ip H; obtain ⟨c53, H⟩ := H; have LMc53 := Aside0.mk c53; clear c53; obtain ⟨y204, hy204⟩ : ∃ y_ : List (S97), y_ = (x199001_2 ++ [(⟨wrap64 (x8_2), t203⟩ : S97)]) := ⟨_, rfl⟩
         replace H : (spec_MachineOf.l1 k2 t183 x5_1 x6_1 ((x8_2 + 1) % 256) false y204) = some (r1, r2) := b63_
         have Ny204 := am hy204; clear hy204
         have H' := am H
         clear H
         have p199 : 0 ≤ (x6_1 : Int) := of_decide_eq_true ad
         have q199 : x6_1 < (t183.length : Int) := of_decide_eq_true ad
         obtain ⟨ad199, A199_0, c199_0, e199, hx199_0, hl199_0, hi199_0⟩ := at_L2 (Kd.N_reads' HO_4.out).2.2 x6_1 p199 q199
         obtain rfl : ad192 = ad199 := (by injection e199)
         obtain ⟨ce199, hce199, hMe199, hcc199⟩ := Kd.N_get HO_4.out [] x6_1 p199 b77_
         obtain ⟨ua199_0, uc199_0, rfl, ul199_0, ge199_0⟩ := Kd.FK_slice_open hMe199; have hv199_0 := hcc199 0 _ rfl; rw [Nat.add_zero, show ((Kd.slice 9 Kd.string)).sz = 1 from rfl, Nat.mul_one] at hv199_0; replace hv199_0 := Option.some.inj (hv199_0.symm.trans hx199_0)
         injection hv199_0 with hva_ hvn_ hvc_
         rw [hva_] at ge199_0; rw [hvc_] at ul199_0; have HL199_0 := am (show Kd.V Kd.string 9 _ w.heap.size _ _ (rd_L2 t183 x6_1) from Kd.V_mk ul199_0 ge199_0); clear hva_ hvn_ hvc_ ge199_0 ul199_0; clear hcc199 hce199; have HR199_0 := am hi199_0; have HC199_0 := am hl199_0; clear hi199_0 hl199_0; replace p199 := eq_true p199; replace q199 := eq_true q199
         try go_wp2_with ((with_reducible refine gate_callee (f := 143) rfl ?_); refine gl 53 Try.func143 #[.slice A199_0 (rd_L2 t183 x6_1).length c199_0, .int .u8 x8_2] ?_; (with_reducible refine (spec_l3Ends.calls k2 _ _ (rd_L2 t183 x6_1) x8_2 t200 _ ?side1 ?side2 A50.out).mono ?_); (case side1 => repeat (exact b23_)); (case side2 => exact HC199_0.out); rintro e w54 ⟨v201, rfl, ho0, hb⟩; refine ⟨_, rfl, ?_⟩; replace HO_4 := am (Kd.N_elder' b40_ (Kd.R_base ho0) hb); replace HO_5 := am (Kd.S_below b7_ hb); replace HO_199001 := am (Kd.R_below (rq HO_199001.out) hb); replace HL199_0 := am (Kd.V_elder' (vq HL199_0.out) (Kd.R_base ho0) hb); have HO202 := am (Kd.R_lower ho0 (below_size (bel1 GE198.out))); replace BK198 := am (blk_below (bq BK198.out) hb); replace HR199_0 := am (Kd.C_below b23_ hb); replace HB := am (below_step (bel1 GE198.out) hb); clear hb; clear ho0; obtain ⟨Ao55, co55, eo55⟩ := Kd.R_slice HO202.out; subst eo55)
         replace HO_4 := am (Kd.N_drew HO_4.out); replace HO_5 := am (Kd.S_drew HO_5.out); replace HO_199001 := am (Kd.R_drew HO_199001.out); replace HL199_0 := am (Kd.V_drew HL199_0.out); replace HO202 := am (Kd.R_drew HO202.out); replace BK198 := am (blk_drew BK198.out); replace HR199_0 := am (Kd.C_drew HR199_0.out); replace HB := am (below_drew1 HB.out)
         refine start_ (n := 12) (S := fun w' => w'.cell? ⟨gb198, 0, none⟩ = some (.bool false) ∧ w'.cell? ⟨gb198, 1, none⟩ = some (u199001)) (ds := [11]) #[false, false, false, false, false, false, false, false, false, false, false, false] (by kernel_rfl) rfl rfl ⟨bd BK198.out 0, bd BK198.out 1⟩ (fun hHeld => ?_); refine with_tabW spec_MachineOf.tab16 spec_MachineOf.bits16 (fun HT_ HW_ => ?_)
         generalize w54.drew = w56 at HO_4 HO_5 HO_199001 HL199_0 HO202 BK198 HR199_0 HB hHeld ⊢; refine pu 0 57 ?_; refine pu 2 59 ?_; refine pu 3 60 ?_; refine pu 4 61 ?_; refine pu 5 62 ?_; refine tk2 1 58 hHeld ?_; refine on1 6 63 (fun K hK => ?_)
         refine go1 Try.func144 #[.slice (some ad192) t183.length co11, .slice Ao55 t200.length co55] ?_
         with_reducible refine (spec_l3At.calls k2 _ _ t183 _ _ t200 t203 _ ?side1 ?side2 ?side3 ?side4 A52.out).mono ?_
         (case side1 => exact cq (Kd.N_reads' HO_4.out).2.2); (case side2 => exact (Kd.N_reads' HO_4.out).2.1); (case side3 => exact cq (Kd.R_reads' HO202.out).2.2); (case side4 => exact (Kd.R_reads' HO202.out).2.1)
         rintro e w' ⟨rfl, ⟨nd, rfl⟩⟩
         refine ⟨_, rfl, ?_⟩; refine hK.out _ _ ⟨bd BK198.out 0, bd BK198.out 1⟩ (fun hHeld => ?_); clear hK K; refine nm 63 ?_; refine pu 7 64 ?_; refine on1 8 65 (fun K hK => ?_)
         refine value_ (w1 := ?_) (v := ?_) (by rfl) rfl ?_ ?_
         rotate_left 2
         ·go_simp
          constructor
          ·rfl
          ·rfl
         refine hK.out _ _ ⟨bd (blk_alloc BK198.out _) 0, bd (blk_alloc BK198.out _) 1⟩ (fun hHeld => ?_); clear hK K; refine nm 65 ?_; refine on1 9 66 (fun K hK => ?_)
         refine Kd.R_append_step k97 (w0 := w) w.heap.size (by rfl) (.tmp 58) (.tmp 65) 93 97 (.agg #[(.int .i64 0), (.int .i64 0)]) 16 rfl Try.underlying93 info97 rfl (by decide) (by omega) u199001 x199001_2 (⟨wrap64 (x8_2), t203⟩ : S97) [.int .i64 (wrap64 (x8_2)), .int .i64 t203] (fun _ => True) (fun _ => False) rfl rfl ?aP (fun _ hk => hk.elim) ?aF ?aO ?aB ?aS ?aL ?_
         (case aP => exact k97_mkM _ _ _ (⟨wrap64 (x8_2), t203⟩ : S97)); (case aB => exact (bel1 GE198.out)); (case aF => exact (fun _ _ => trivial)); (case aO => exact (rq HO_199001.out)); (case aS => exact (below_size (bel1 GE198.out))); (case aL => have := LMc53.out; omega); intro v205 w57 ho hb hg hat; rw [← Ny204.out] at ho
         replace HO_4 := am (Kd.N_afterv (ok := (fun k_ => some k_ ≠ (u5 : Value).ownBlock ∧ some k_ ≠ (.slice Ao55 t200.length co55 : Value).ownBlock ∧ k_ ≠ gb198)) b84_ hg hat)
         replace HO_5 := am (Kd.S_after (ok := (fun k_ => k_ ≠ gb198)) b99_ hg hat)
         replace BK198 := am (blk_grown (g := gb198) (o := .cells #[.bool false, u199001] 95 (0, 0)) (bq BK198.out) hg (Kd.R_ne HO_199001.out BK198.out (by decide)))
         replace HL199_0 := am (Kd.V_afterv (ok := (fun k_ => some k_ ≠ (.slice (some ad192) t183.length co11 : Value).ownBlock ∧ some k_ ≠ (u5 : Value).ownBlock ∧ some k_ ≠ (.slice Ao55 t200.length co55 : Value).ownBlock ∧ k_ ≠ gb198)) (vq (Kd.V_mono HL199_0.out (fun _ hk => ⟨⟨hk.1.2, ⟨hk.1.1.1, ⟨hk.2, hk.1.1.2.2⟩⟩⟩, hk.1.1.2.1⟩))) hg hat)
         replace HO202 := am (Kd.R_over' (rq HO202.out) (Kd.R_typed (rq HO_199001.out)) (by decide) hg); replace HB := am (hb); have HO206 := am (ho); clear HO_199001; clear ho hb hg hat; obtain ⟨Ao58, co58, eo58⟩ := Kd.R_slice HO206.out
         (subst eo58)
         refine hK.out _ _ ⟨bd BK198.out 0, bd BK198.out 1⟩ (fun hHeld => ?_); clear hK K; refine nm 66 ?_; refine pu 10 67 ?_
         refine last_ (i := 11) (N := none) #[true, true, true, true, true, true, true, true, true, true, true, true] rfl rfl (one_of HT_.out (by kernel_rfl)) (by decide) (fun K hK => ?_)
         have hs59 : w57.cell? ⟨gb198, 1, none⟩ = some (u199001) := bd BK198.out 1
         have hfs59 := bf BK198.out 1
         refine skip_ (w1 := ?_) (by rfl) rfl ?_ ?_
         rotate_left
         ·go_simp
          rfl
         refine hK.out _ _ ?_; clear hK K
         refine done_ (done_of HT_.out (by kernel_rfl)) ?_
         try go_wp2
         go_roundg k2
         case measure => have := HK1.out; have := HK2.out; omega
         case rel => exact ⟨((x8_2 + 1) % 256), (y204), (.slice Ao58 y204.length co58), sq, H', ⟨b30_⟩, ⟨by (with_reducible repeat (fail)); exact Kd.N_mono (Kd.N_far (p := ⟨gb198, 1, none⟩) (Kd.N_mono HO_4.out (fun k_ hk => (⟨hk, hk.1.2.2⟩ : _ ∧ k_ ≠ gb198))) (fun _ hk => hk.2) (.slice Ao58 y204.length co58)) (fun _ hk => ⟨hk.1.1.1, ⟨hk.1.2, hk.1.1.2.2⟩⟩)⟩, ⟨by (with_reducible repeat (fail)); exact Kd.S_mono (Kd.S_far (p := ⟨gb198, 1, none⟩) (Kd.S_mono HO_5.out (fun k_ hk => (⟨hk, hk.1⟩ : _ ∧ k_ ≠ gb198))) (fun _ hk => hk.2) (.slice Ao58 y204.length co58)) (fun _ hk => ⟨hk.1.2, hk.1.1⟩)⟩, ⟨rq (Kd.R_mono (Kd.R_far (p := ⟨gb198, 1, none⟩) (Kd.R_types HO206.out BK198.out (by decide)) (fun _ hk => hk.2) (.slice Ao58 y204.length co58)) (fun _ hk => trivial))⟩, ⟨by (with_reducible repeat (fail)); refine blk_put (cs := #[.bool false, u199001]) ?_ 1 _ rfl; (with_reducible repeat (fail)); exact BK198.out⟩, ⟨bel1 GE198.out⟩⟩
        rw [if_neg c51] at H; have c51b0 := decide_eq_false c51
        have c51b1 : decide (0 < t200.length) = false := decide_eq_false (by omega)
        clear c51
        have H' := am H
        clear H
        have p199 : 0 ≤ (x6_1 : Int) := of_decide_eq_true ad
        have q199 : x6_1 < (t183.length : Int) := of_decide_eq_true ad
        obtain ⟨ad199, A199_0, c199_0, e199, hx199_0, hl199_0, hi199_0⟩ := at_L2 (Kd.N_reads' HO_4.out).2.2 x6_1 p199 q199
        obtain rfl : ad192 = ad199 := (by injection e199)
        obtain ⟨ce199, hce199, hMe199, hcc199⟩ := Kd.N_get HO_4.out [] x6_1 p199 b77_
        obtain ⟨ua199_0, uc199_0, rfl, ul199_0, ge199_0⟩ := Kd.FK_slice_open hMe199; have hv199_0 := hcc199 0 _ rfl; rw [Nat.add_zero, show ((Kd.slice 9 Kd.string)).sz = 1 from rfl, Nat.mul_one] at hv199_0; replace hv199_0 := Option.some.inj (hv199_0.symm.trans hx199_0)
        injection hv199_0 with hva_ hvn_ hvc_
        rw [hva_] at ge199_0; rw [hvc_] at ul199_0; have HL199_0 := am (show Kd.V Kd.string 9 _ w.heap.size _ _ (rd_L2 t183 x6_1) from Kd.V_mk ul199_0 ge199_0); clear hva_ hvn_ hvc_ ge199_0 ul199_0; clear hcc199 hce199; have HR199_0 := am hi199_0; have HC199_0 := am hl199_0; clear hi199_0 hl199_0; replace p199 := eq_true p199; replace q199 := eq_true q199
        go_wp2_with ((with_reducible refine gate_callee (f := 143) rfl ?_); refine gl 53 Try.func143 #[.slice A199_0 (rd_L2 t183 x6_1).length c199_0, .int .u8 x8_2] ?_; (with_reducible refine (spec_l3Ends.calls k2 _ _ (rd_L2 t183 x6_1) x8_2 t200 _ ?side1 ?side2 A50.out).mono ?_); (case side1 => repeat (exact b23_)); (case side2 => exact HC199_0.out); rintro e w60 ⟨v201, rfl, ho0, hb⟩; refine ⟨_, rfl, ?_⟩; replace HO_4 := am (Kd.N_elder' b40_ (Kd.R_base ho0) hb); replace HO_5 := am (Kd.S_below b7_ hb); replace HO_199001 := am (Kd.R_below (rq HO_199001.out) hb); replace HL199_0 := am (Kd.V_elder' (vq HL199_0.out) (Kd.R_base ho0) hb); have HO202 := am (Kd.R_lower ho0 (below_size (bel1 GE198.out))); replace BK198 := am (blk_below (bq BK198.out) hb); replace HR199_0 := am (Kd.C_below b23_ hb); replace HB := am (below_step (bel1 GE198.out) hb); clear hb; clear ho0; obtain ⟨Ao61, co61, eo61⟩ := Kd.R_slice HO202.out; subst eo61)
        go_roundg k2
        case measure => have := HK1.out; have := HK2.out; omega
        case rel => exact ⟨((x8_2 + 1) % 256), (x199001_2), (u199001), sq, H', ⟨b30_⟩, ⟨b85_⟩, ⟨b7_⟩, ⟨rq HO_199001.out⟩, ⟨bq BK198.out⟩, ⟨bel1 GE198.out⟩⟩
       rw [if_neg c47] at H; have c47b0 := decide_eq_false c47; clear c47
       replace H := ip H; obtain ⟨c62, H⟩ := H; have LMc62 := Aside0.mk c62; clear c62; obtain ⟨y207, hy207⟩ : ∃ y_ : List (S95), y_ = (x5_1 ++ [(⟨false, x199001_2⟩ : S95)]) := ⟨_, rfl⟩
       replace H : (spec_MachineOf.l0 k2 t183 y207 (wrap64 (x6_1 + 1))) = some (r1, r2) := b64_
       have Ny207 := am hy207; clear hy207
       have H' := am H
       clear H; have ⟨hcz63_0, hcz63_1, hfz63_0, hfz63_1⟩ := b2c BK198.out; obtain ⟨Ao65, co65, eo65⟩ := Kd.R_slice HO_199001.out; subst eo65
       go_wp2_with ((with_reducible refine gate_builtin (b := .append) (xs := #[.tmp 68, .tmp 70]) rfl ?_); at_builtin; refine Kd.S_append k95 (w0 := w) w.heap.size rfl (.tmp 68) (.tmp 70) 49 95 (.agg #[(.bool false), (.slice none 0 0)]) 32 rfl Try.underlying49 info95 rfl (by decide) (by omega) u5 x5_1 (⟨false, x199001_2⟩ : S95) [.bool false, .slice Ao65 x199001_2.length co65] (fun k_ => k_ ≠ gb198) (fun k_ => some k_ = (.slice Ao65 x199001_2.length co65 : Value).ownBlock) rfl rfl ?aP (fun k_ hk_ => ((Kd.R_mono (ok' := fun k_ => ((fun k_ => k_ ≠ gb198)) k_ ∧ some k_ ≠ (u5 : Value).ownBlock) (Kd.R_types (Kd.R_apart' (HO_199001.out) (Kd.S_typed HO_5.out) (by decide)) BK198.out (by decide)) (fun k_ hk => ⟨hk.2, hk.1.2⟩))).1 k_ hk_.symm) ?aF ?aO ?aB ?aS ?aL ?_; (case aP => exact k95_mkM _ _ _ (⟨false, x199001_2⟩ : S95) (Kd.R_mono (Kd.R_tight rfl (Kd.R_mono (ok' := fun k_ => ((fun k_ => k_ ≠ gb198)) k_ ∧ some k_ ≠ (u5 : Value).ownBlock) (Kd.R_types (Kd.R_apart' (HO_199001.out) (Kd.S_typed HO_5.out) (by decide)) BK198.out (by decide)) (fun k_ hk => ⟨hk.2, hk.1.2⟩))) (fun _ h_ => h_))); (case aB => exact (bel1 GE198.out)); (case aF => exact (fun k_ hk => Kd.freshB (g := gb198) (o := .cells #[.bool false, .slice Ao65 x199001_2.length co65] 95 (0, 0)) (bq BK198.out) k_ hk)); (case aO => exact b88_); (case aS => exact (below_size (bel1 GE198.out))); (case aL => have := LMc62.out; omega); intro v208 w64 ho hb hg hat; rw [← Ny207.out] at ho; replace HO_4 := am (Kd.N_afterv (ok := (fun k_ => some k_ ≠ (.slice Ao65 x199001_2.length co65 : Value).ownBlock ∧ k_ ≠ gb198)) b94_ hg hat); replace BK198 := am (blk_grown (g := gb198) (o := .cells #[.bool false, .slice Ao65 x199001_2.length co65] 95 (0, 0)) (bq BK198.out) hg (Kd.S_away HO_5.out (fun _ hk => hk.2))); replace HB := am (hb); have HO209 := am (ho); clear HO_5 HO_199001; clear ho hb hg hat)
       go_roundg k2
       case measure => have := HK1.out; have := HK2.out; omega
       case rel => exact ⟨(y207), (wrap64 (x6_1 + 1)), sq, H', ⟨b30_⟩, ⟨b102_⟩, ⟨b100_⟩, ⟨bel1 GE198.out⟩⟩
    rw [if_neg c14] at H; have c14b0 := decide_eq_false c14; clear c14; simp only [Option.some.injEq, Prod.mk.injEq] at H
    obtain ⟨rfl, rfl⟩ := H; go_wp2
    go_ret2
    exact ⟨_, eq_, b7_, bel⟩
 replace c3 := Bool.eq_false_iff.mpr c3; subst c3
 rw [if_neg Bool.false_ne_true] at H
 obtain ⟨y214, hy214⟩ : ∃ y_ : List (S95), y_ = (([] : List (S95))) := ⟨_, rfl⟩
 rw [← hy214] at H
 have Ny214 := am hy214; clear hy214
 simp only [Option.some.injEq, Prod.mk.injEq] at H
 obtain ⟨rfl, rfl⟩ := H; go_enter Try.func124, Try.ntmps124
 go_wp2_with (first | ((with_reducible refine gate_callee (f := 141) rfl ?_); refine gl 11 Try.func141 #[.slice A0 l0.length c0] ?_; (with_reducible refine (spec_l3Words.calls k _ _ l0 false _ ?side1 ?side2 A2.out).mono ?_); (case side1 => repeat (exact HR0.out)); (case side2 => exact HC0.out); rintro e w' ⟨rfl, ⟨nd, rfl⟩⟩; refine ⟨_, rfl, ?_⟩) | ((with_reducible refine gate_dst (N := 13) rfl ?_); refine Kd.S_lit k95 _ 95 ?hg (N := 13) ?hd (xs := ([] : List (S95))) (inner := []) (ok := fun _ => True) (okp := fun _ => True) ?hr ?hp (fun _ hk => hk) trivial (Below.refl _ _) (Nat.le_refl _) (by simp) ?_; (case hd => rfl); (case hg => rfl); (case hr => (go_simp; done)); (case hp => exact (Reps.none _ _)); intro v215 w66 ho67 hb hg_ hnew_; clear hg_ hnew_; (rw [← Ny214.out] at ho67); have HO216 := am (Kd.S_lower ho67 (below_size bel)); replace HB := am (below_step bel hb); clear hb ho67))
 go_ret2
 exact ⟨_, eq_, by (with_reducible repeat (fail)); exact HO216.out, bel⟩
end Go.Proofs.Ytdfnijaacnlfaaa.QFnMachineGuesses

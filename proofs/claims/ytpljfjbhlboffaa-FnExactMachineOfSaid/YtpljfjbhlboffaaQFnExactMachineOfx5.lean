import Derived.Test.YtpljfjbhlboffaaQFnExactMachineOfx0
import Derived.Test.YtpljfjbhlboffaaVMSh2
namespace Go.Proofs.Ytpljfjbhlboffaa.QFnExactMachineOf
open Go.RowKit Go.Proofs.YtpljfjbhlboffaaW.PrintWords Go.Proofs.YtpljfjbhlboffaaW.PrintLast Go.Proofs.YtpljfjbhlboffaaW.PrintMore Go.Proofs.Ytpljfjbhlboffaa.Sh
attribute [local go_sem] max2_int min2_int max_two min_two max_three min_three max_four min_four
set_option linter.unusedVariables false
set_option linter.unusedSimpArgs false
set_option maxHeartbeats 8000000
set_option maxRecDepth 100000
-- shrunk

/-! ### spec_MachineOf: function 7 -/
mutual
def spec_MachineOf.l0 : Nat → List (List ByteArray) → List (S45) → Int → Option ((List (S45)) × Bool)
 | 0, _, _, _ => none
 | k + 1, x4, x5, x6 => if x6 < (x4.length : Int) then (if 0 ≤ x6 then (if ((rd_L1 x4 x6).length : Int) > 0 then (if 0 < ((rd_L1 x4 x6).length : Int) then (spec_MachineOf.l1 k x4 x5 x6 97 ((rdOf ByteArray.empty (rd_L1 x4 x6) 0).toList == ([] : List UInt8)) (([] : List (S49)))) else (none)) else (spec_MachineOf.l1 k x4 x5 x6 97 false (([] : List (S49))))) else (none)) else (some (x5, true))
def spec_MachineOf.l1 : Nat → List (List ByteArray) → List (S45) → Int → Int → Bool → List (S49) → Option ((List (S45)) × Bool)
 | 0, _, _, _, _, _, _ => none
 | k + 1, x4, x5, x6, x8, x194000, x194001 => if x8 ≤ 122 then (if 0 ≤ x6 then (if x6 < (x4.length : Int) then ((spec_l3Ends.f k (rd_L1 x4 x6) x8).bind fun t195 => (if (t195.length : Int) > 0 then ((spec_l3At.f k x4 t195).bind fun t198 => (if x194001.length < 8796093022208 then (spec_MachineOf.l1 k x4 x5 x6 ((x8 + 1) % 256) x194000 (x194001 ++ [(⟨wrap64 (x8), t198⟩ : S49)])) else (none))) else (spec_MachineOf.l1 k x4 x5 x6 ((x8 + 1) % 256) x194000 x194001))) else (none)) else (none)) else (if x5.length < 4398046511104 then (spec_MachineOf.l0 k x4 (x5 ++ [(⟨x194000, x194001⟩ : S45)]) (wrap64 (x6 + 1))) else (none))
end
def spec_MachineOf.f (k : Nat) (l0 : List ByteArray) : Option ((List (S45)) × Bool) := (spec_l3Words.f k l0).bind fun t177 => (if t177 = true then ((spec_l3All.f k l0).bind fun t178 => (if (t178.length : Int) > 400 then (some ((([] : List (S45))), false)) else (spec_MachineOf.l0 k t178 (([] : List (S45))) 0))) else (some ((([] : List (S45))), false)))
def spec_MachineOf.T16 : Bool × List (List Nat × List Nat) := (true, [([], []), ([0], [0]), ([], []), ([2], [2]), ([], []), ([], []), ([4, 5], [4, 5]), ([3, 6], [3, 6]), ([7], [7]), ([1, 8, 6], [1, 8]), ([0, 1, 2, 3, 4, 5, 6, 7, 8, 9], []), ([10, 9, 9, 0, 1, 2, 3, 4, 5, 6, 7, 8, 9], [9, 10])])
def spec_MachineOf.B16 : List Nat := [0, 1, 0, 4, 0, 0, 48, 124, 252, 511, 1023, 2047]
theorem spec_MachineOf.tab16 : rtab .any (opsOf Try.f7 16) = spec_MachineOf.T16 := by kernel_rfl
theorem spec_MachineOf.bits16 : waitsOk spec_MachineOf.T16.2 spec_MachineOf.B16 = true := by kernel_rfl
theorem spec_MachineOf.calls (k : Nat) (A0 : Option Addr) (c0 : Nat) (l0 : List ByteArray) (r1 : List (S45)) (r2 : Bool) (w : World) (hr0 : Kd.C Kd.string w A0 l0.length l0) (hc0 : l0.length ≤ c0) (h : spec_MachineOf.f k l0 = some (r1, r2)) :
  Calls Try.prog 7 #[.slice A0 l0.length c0] w fun e w' => ∃ v0_ : Value, e = .returned (.tuple #[v0_, .bool r2]) ∧ Kd.S k45 45 w' w.heap.size (fun _ => True) v0_ r1 ∧ Below w.heap.size w w' := by
 have hu45 := Try.underlying45; have hu49 := Try.underlying49; have HR0 := am hr0; have HC0 := am hc0; clear hr0 hc0; have HB := am (Below.refl w.heap.size w)
 have H : ((spec_l3Words.f k l0).bind fun t177 => (if t177 = true then ((spec_l3All.f k l0).bind fun t178 => (if (t178.length : Int) > 400 then (some ((([] : List (S45))), false)) else (spec_MachineOf.l0 k t178 (([] : List (S45))) 0))) else (some ((([] : List (S45))), false)))) = some (r1, r2) := h
 clear h; replace H := bs H; obtain ⟨t177, A20, H⟩ := H; (try dsimp only at H); have A2 := Aside0.mk A20; clear A20
 by_cases c3 : t177 = true
 ·subst c3
  rw [if_pos rfl] at H
  replace H := bs H; obtain ⟨t178, A40, H⟩ := H; (try dsimp only at H); have A4 := Aside0.mk A40; clear A40
  by_cases c5 : (t178.length : Int) > 400
  ·rw [if_pos c5] at H; have c5b0 := decide_eq_true c5
   have c5b1 : decide (400 < t178.length) = true := decide_eq_true (by omega)
   clear c5; obtain ⟨y181, hy181⟩ : ∃ y_ : List (S45), y_ = (([] : List (S45))) := ⟨_, rfl⟩
   replace H : (some (y181, false)) = some (r1, r2) := by first | (rw [hy181]; with_reducible exact H) | (have H2_ := bm H; rw [hy181]; with_reducible exact H2_) | (with_reducible exact bm H) | with_reducible exact H | (rw [hy181]; exact H) | exact H
   have Ny181 := am hy181; clear hy181; simp only [Option.some.injEq, Prod.mk.injEq] at H
   obtain ⟨rfl, rfl⟩ := H; go_enter Try.func7, Try.ntmps7
   go_wp2_with (first | ((with_reducible refine gate_callee (f := 22) rfl ?_); refine gl 11 Try.func22 #[.slice A0 l0.length c0] ?_; (with_reducible refine (spec_l3Words.calls k _ _ l0 true _ ?side1 ?side2 A2.out).mono ?_); (case side1 => repeat (first | exact HR0.out | (with_reducible refine Kd.C_alloc ?_ _) | (with_reducible refine Kd.C_drewN ?_ _) | (with_reducible refine Kd.C_drew ?_))); (case side2 => exact HC0.out); rintro e w' ⟨rfl, ⟨nd, rfl⟩⟩; refine ⟨_, rfl, ?_⟩) | ((with_reducible refine gate_callee (f := 23) rfl ?_); refine gl 15 Try.func23 #[.slice A0 l0.length c0] ?_; (with_reducible refine (spec_l3All.calls k (fun k_ => k_ < w.heap.size) _ _ l0 t178 _ ?side1 A4.out).mono ?_); (case side1 => exact Kd.V_mk HC0.out (Kd.F_below (Kd.C_F Kd.heap_string HR0.out) bel)); rintro e w6 ⟨v179, rfl, ho0, hb⟩; refine ⟨_, rfl, ?_⟩; have HO180 := am (Kd.N_lower (Kd.N_mono (ok' := fun k_ => True) ho0 (fun k_ hk_ => trivial)) (below_size bel)); replace HB := am (below_step bel hb); clear hb; (try clear ho0); obtain ⟨Ao7, co7, eo7⟩ := Kd.N_slice HO180.out; subst eo7) | ((with_reducible refine gate_dst (N := 19) rfl ?_); refine Kd.S_lit k45 _ 45 ?hg (N := 19) ?hd (xs := ([] : List (S45))) (inner := []) (ok := fun _ => True) (okp := fun _ => True) ?hr ?hp (fun _ hk => hk) trivial (Below.refl _ _) (Nat.le_refl _) (by simp) ?_; (case hd => rfl); (case hg => rfl); (case hr => first | (go_simp; done) | (go_simp; rfl)); (case hp => exact (Reps.none _ _)); intro v182 w8 ho9 hb hg_ hnew_; clear hg_ hnew_; (first | rw [← Ny181.out] at ho9 | (simp only [Int.reduceToNat] at ho9; rw [← Ny181.out] at ho9) | (simp only [Int.toNat_natCast] at ho9; rw [← Ny181.out] at ho9)); replace HO180 := am (Kd.N_elder' (by (with_reducible repeat (first | apply Kd.N_alloc | apply Kd.N_drewN | apply Kd.N_drew)); exact HO180.out) (Kd.S_base ho9) hb); have HO183 := am (Kd.S_lower ho9 (below_size bel)); replace HB := am (below_step bel hb); clear hb ho9))
   go_ret2
   exact ⟨_, eq_, by (with_reducible repeat (first | apply Kd.S_alloc | apply Kd.S_drewN | apply Kd.S_drew)); exact HO183.out, bel⟩
  rw [if_neg c5] at H; have c5b0 := decide_eq_false c5
  have c5b1 : decide (400 < t178.length) = false := decide_eq_false (by omega)
  clear c5; obtain ⟨y184, hy184⟩ : ∃ y_ : List (S45), y_ = (([] : List (S45))) := ⟨_, rfl⟩
  replace H : (spec_MachineOf.l0 k t178 y184 0) = some (r1, r2) := by first | (rw [hy184]; with_reducible exact H) | (have H2_ := bm H; rw [hy184]; with_reducible exact H2_) | (with_reducible exact bm H) | with_reducible exact H | (rw [hy184]; exact H) | exact H
  have Ny184 := am hy184; clear hy184
  have H' := am H
  clear H; go_enter Try.func7, Try.ntmps7
  go_wp2_with (first | ((with_reducible refine gate_callee (f := 22) rfl ?_); refine gl 11 Try.func22 #[.slice A0 l0.length c0] ?_; (with_reducible refine (spec_l3Words.calls k _ _ l0 true _ ?side1 ?side2 A2.out).mono ?_); (case side1 => repeat (first | exact HR0.out | (with_reducible refine Kd.C_alloc ?_ _) | (with_reducible refine Kd.C_drewN ?_ _) | (with_reducible refine Kd.C_drew ?_))); (case side2 => exact HC0.out); rintro e w' ⟨rfl, ⟨nd, rfl⟩⟩; refine ⟨_, rfl, ?_⟩) | ((with_reducible refine gate_callee (f := 23) rfl ?_); refine gl 15 Try.func23 #[.slice A0 l0.length c0] ?_; (with_reducible refine (spec_l3All.calls k (fun k_ => k_ < w.heap.size) _ _ l0 t178 _ ?side1 A4.out).mono ?_); (case side1 => exact Kd.V_mk HC0.out (Kd.F_below (Kd.C_F Kd.heap_string HR0.out) bel)); rintro e w10 ⟨v179, rfl, ho0, hb⟩; refine ⟨_, rfl, ?_⟩; have HO180 := am (Kd.N_lower (Kd.N_mono (ok' := fun k_ => True) ho0 (fun k_ hk_ => trivial)) (below_size bel)); replace HB := am (below_step bel hb); clear hb; (try clear ho0); obtain ⟨Ao11, co11, eo11⟩ := Kd.N_slice HO180.out; subst eo11) | ((with_reducible refine gate_dst (N := 20) rfl ?_); refine Kd.S_lit k45 _ 45 ?hg (N := 20) ?hd (xs := ([] : List (S45))) (inner := []) (ok := fun _ => True) (okp := fun _ => True) ?hr ?hp (fun _ hk => hk) trivial (Below.refl _ _) (Nat.le_refl _) (by simp) ?_; (case hd => rfl); (case hg => rfl); (case hr => first | (go_simp; done) | (go_simp; rfl)); (case hp => exact (Reps.none _ _)); intro v185 w12 ho13 hb hg_ hnew_; clear hg_ hnew_; (first | rw [← Ny184.out] at ho13 | (simp only [Int.reduceToNat] at ho13; rw [← Ny184.out] at ho13) | (simp only [Int.toNat_natCast] at ho13; rw [← Ny184.out] at ho13)); replace HO180 := am (Kd.N_elder' (by (with_reducible repeat (first | apply Kd.N_alloc | apply Kd.N_drewN | apply Kd.N_drew)); exact HO180.out) (Kd.S_base ho13) hb); have HO186 := am (Kd.S_lower ho13 (below_size bel)); replace HB := am (below_step bel hb); clear hb ho13))
  go_loopg [5, 6] k (fun kq v5 v6 w' => ∃ (x5_1 : List (S45)) (x6_1 : Int), v6 = .int .i64 x6_1 ∧ Aside0 (spec_MachineOf.l0 kq t178 x5_1 x6_1 = some (r1, r2)) ∧ Aside0 (kq ≤ k) ∧ Aside0 (Kd.N (Kd.slice 9 Kd.string) 22 w' w.heap.size (fun k_ => some k_ ≠ (v5 : Value).ownBlock) (.slice Ao11 t178.length co11) t178) ∧ Aside0 (Kd.S k45 45 w' w.heap.size (fun _ => True) v5 x5_1) ∧ Aside0 (Below w.heap.size w w'))
  case atStart => exact ⟨(y184), (0), sq, H', ⟨Nat.le_refl _⟩, ⟨by (with_reducible repeat (first | apply Kd.N_alloc | apply Kd.N_drewN | apply Kd.N_drew)); exact Kd.N_mono HO180.out (fun _ hk => hk.2)⟩, ⟨by (with_reducible repeat (first | apply Kd.S_alloc | apply Kd.S_drewN | apply Kd.S_drew)); exact HO186.out⟩, ⟨bel⟩⟩
  case round =>
   clear H'; (try clear c2); (try clear p2); (try clear c3); (try clear c5); (try clear c5b0); (try clear c5b1); (try clear c7); obtain ⟨x5_1, x6_1, rfl, HA, HK1, HO_4, HO_5, HB⟩ := hrel
   cases gk with
   | zero => exact absurd HA.out (by simp [spec_MachineOf.l0])
   | succ k1 =>
    have H := HA.out; clear HA; simp only [spec_MachineOf.l0] at H
    by_cases c14 : x6_1 < (t178.length : Int)
    ·rw [if_pos c14] at H; have c14b0 := decide_eq_true c14; clear c14
     replace H := it H; obtain ⟨c15b0, H⟩ := H
     by_cases c16 : ((rd_L1 t178 x6_1).length : Int) > 0
     ·rw [if_pos c16] at H; have c16b0 := decide_eq_true c16
      have c16b1 : decide (0 < (rd_L1 t178 x6_1).length) = true := decide_eq_true (by omega)
      clear c16; replace H := ip H; obtain ⟨c17, H⟩ := H; have c17b0 := decide_eq_true c17
      have c17b1 : decide (0 < (rd_L1 t178 x6_1).length) = true := decide_eq_true (by omega)
      clear c17; obtain ⟨y190, hy190⟩ : ∃ y_ : List (S49), y_ = (([] : List (S49))) := ⟨_, rfl⟩
      replace H : (spec_MachineOf.l1 k1 t178 x5_1 x6_1 97 ((rdOf ByteArray.empty (rd_L1 t178 x6_1) 0).toList == ([] : List UInt8)) y190) = some (r1, r2) := by first | (rw [hy190]; with_reducible exact H) | (have H2_ := bm H; rw [hy190]; with_reducible exact H2_) | (with_reducible exact bm H) | with_reducible exact H | (rw [hy190]; exact H) | exact H
      rw [show ((rdOf ByteArray.empty (rd_L1 t178 x6_1) 0).toList == ([] : List UInt8)) = (rdOf ByteArray.empty (rd_L1 t178 x6_1) 0).toList.isEmpty from by generalize (rdOf ByteArray.empty (rd_L1 t178 x6_1) 0).toList = l_; cases l_ <;> rfl] at H
      have Ny190 := am hy190; clear hy190
      have H' := am H
      clear H
      have p187 : 0 ≤ (x6_1 : Int) := of_decide_eq_true ad
      have q187 : x6_1 < (t178.length : Int) := of_decide_eq_true ad
      obtain ⟨ad187, A187_0, c187_0, e187, hx187_0, hl187_0, hi187_0⟩ := at_L1 (Kd.N_reads' HO_4.out).2.2 x6_1 p187 q187; cases e187
      obtain ⟨ce187, hce187, hMe187, hcc187⟩ := Kd.N_get HO_4.out [] x6_1 p187 (by first | exact q187 | exact of_decide_eq_true ad | (have e_ := (Kd.N_reads' HO_4.out).1; omega))
      obtain ⟨ua187_0, uc187_0, rfl, ul187_0, ge187_0⟩ := Kd.FK_slice_open hMe187; have hv187_0 := hcc187 0 _ rfl; rw [Nat.add_zero, show ((Kd.slice 9 Kd.string)).sz = 1 from rfl, Nat.mul_one] at hv187_0; replace hv187_0 := Option.some.inj (hv187_0.symm.trans hx187_0)
      injection hv187_0 with hva_ hvn_ hvc_
      rw [hva_] at ge187_0; rw [hvc_] at ul187_0; have HL187_0 := am (show Kd.V Kd.string 9 _ w.heap.size _ _ (rd_L1 t178 x6_1) from Kd.V_mk ul187_0 ge187_0); clear hva_ hvn_ hvc_ ge187_0 ul187_0; clear hcc187 hce187; have HR187_0 := am hi187_0; have HC187_0 := am hl187_0; clear hi187_0 hl187_0; replace p187 := eq_true p187; replace q187 := eq_true q187
      have p188 : 0 ≤ (x6_1 : Int) := of_decide_eq_true ad
      have q188 : x6_1 < (t178.length : Int) := of_decide_eq_true ad
      obtain ⟨ad188, A188_0, c188_0, e188, hx188_0, hl188_0, hi188_0⟩ := at_L1 (Kd.N_reads' HO_4.out).2.2 x6_1 p188 q188
      obtain rfl : ad187 = ad188 := (by injection e188)
      obtain ⟨ce188, hce188, hMe188, hcc188⟩ := Kd.N_get HO_4.out [] x6_1 p188 (by first | exact q188 | exact of_decide_eq_true ad | (have e_ := (Kd.N_reads' HO_4.out).1; omega))
      obtain ⟨ua188_0, uc188_0, rfl, ul188_0, ge188_0⟩ := Kd.FK_slice_open hMe188; have hv188_0 := hcc188 0 _ rfl; rw [Nat.add_zero, show ((Kd.slice 9 Kd.string)).sz = 1 from rfl, Nat.mul_one] at hv188_0; replace hv188_0 := Option.some.inj (hv188_0.symm.trans hx188_0)
      injection hv188_0 with hva_ hvn_ hvc_
      rw [hva_] at ge188_0; rw [hvc_] at ul188_0; have HL188_0 := am (show Kd.V Kd.string 9 _ w.heap.size _ _ (rd_L1 t178 x6_1) from Kd.V_mk ul188_0 ge188_0); clear hva_ hvn_ hvc_ ge188_0 ul188_0; clear hcc188 hce188; have HR188_0 := am hi188_0; have HC188_0 := am hl188_0; clear hi188_0 hl188_0; replace p188 := eq_true p188; replace q188 := eq_true q188; have ea_ := Option.some.inj (hx187_0.symm.trans hx188_0)
      injection ea_ with ea_ en_ ec_
      subst ea_; subst ec_; clear en_
      have p189 : 0 ≤ (0 : Int) := (by omega)
      have q189 : 0 < ((rd_L1 t178 x6_1).length : Int) := of_decide_eq_true ad
      obtain ⟨ad189, e189, hx189_0⟩ := Kd.at_string b14_ 0 p189 q189; cases e189
      have qi189 : (0 < (rd_L1 t178 x6_1).length) = True := eq_true (by omega)
      (try rw [show ((0 : Int)).toNat = 0 from rfl] at hx189_0)
      (try rw [Addr.add_zero'] at hx189_0)
      replace p189 := eq_true p189; replace q189 := eq_true q189
      go_wp2_with (first | ((with_reducible refine gate_dst (N := 42) rfl ?_); refine Kd.R_lit k49 _ 49 ?hg (N := 42) ?hd (xs := ([] : List (S49))) (inner := []) (ok := fun _ => True) (okp := fun _ => True) ?hr ?hp (fun _ hk => hk) trivial (Below.refl _ _) (Nat.le_refl _) (by simp) ?_; (case hd => rfl); (case hg => rfl); (case hr => first | (go_simp; done) | (go_simp; rfl)); (case hp => exact (Reps.none _ _)); intro v191 w18 ho19 hb hg_ hnew_; clear hg_ hnew_; (first | rw [← Ny190.out] at ho19 | (simp only [Int.reduceToNat] at ho19; rw [← Ny190.out] at ho19) | (simp only [Int.toNat_natCast] at ho19; rw [← Ny190.out] at ho19)); replace HO_4 := am (Kd.N_elder' b7_ (Kd.R_base ho19) hb); replace HO_5 := am (Kd.S_elder' b5_ (Kd.R_base ho19) hb); replace HL187_0 := am (Kd.V_elder' (vq HL187_0.out) (Kd.R_base ho19) hb); replace HL188_0 := am (Kd.V_elder' (vq HL188_0.out) (Kd.R_base ho19) hb); have HO192 := am (Kd.R_lower ho19 (below_size bel)); replace HR187_0 := am (Kd.C_below b10_ hb); replace HR188_0 := am (Kd.C_below b14_ hb); replace HB := am (below_step bel hb); clear hb ho19; obtain ⟨Ao20, co20, eo20⟩ := Kd.R_slice HO192.out; subst eo20) | ((with_reducible refine gate_dst (N := 7) rfl ?_); refine bx 7 (cs := #[.bool false, .slice none 0 0]) (t := 45) ?_; intro gb193 hg w21 hbox hb; replace HO_4 := am (Kd.N_below (Kd.N_elderB b7_ gb193 (Nat.le_of_eq hg.symm)) hb); replace HO_5 := am (Kd.S_below (Kd.S_elderB b5_ gb193 (Nat.le_of_eq hg.symm)) hb); replace HL187_0 := am (Kd.V_below (Kd.V_elderB (vq HL187_0.out) gb193 (Nat.le_of_eq hg.symm)) hb); replace HL188_0 := am (Kd.V_below (Kd.V_elderB (vq HL188_0.out) gb193 (Nat.le_of_eq hg.symm)) hb); replace HO192 := am (Kd.R_below (rq HO192.out) hb); replace HR187_0 := am (Kd.C_below b10_ hb); replace HR188_0 := am (Kd.C_below b14_ hb); have BK193 := am (hbox); have GW193 := am ((b19_ : w.heap.size ≤ gb193)); have GE193 := am ((b19_ : w.heap.size ≤ gb193)); replace HB := am (below_step bel hb); clear hb hbox hg; have ⟨hcz22_0, hcz22_1, hfz22_0, hfz22_1⟩ := b2c BK193.out))
      go_loopg [8] k1 (fun kq v8 w' => ∃ (x8_2 : Int) (x194001_2 : List (S49)) (u194001 : Value), v8 = .int .u8 x8_2 ∧ Aside0 (spec_MachineOf.l1 kq t178 x5_1 x6_1 x8_2 ((rdOf ByteArray.empty (rd_L1 t178 x6_1) 0).toList.isEmpty) x194001_2 = some (r1, r2)) ∧ Aside0 (kq ≤ k1) ∧ Aside0 (Kd.N (Kd.slice 9 Kd.string) 22 w' w.heap.size (fun k_ => some k_ ≠ (u5 : Value).ownBlock ∧ some k_ ≠ (u194001 : Value).ownBlock ∧ k_ ≠ gb193) (.slice (some ad187) t178.length co11) t178) ∧ Aside0 (Kd.S k45 45 w' w.heap.size (fun k_ => some k_ ≠ (u194001 : Value).ownBlock ∧ k_ ≠ gb193) u5 x5_1) ∧ Aside0 (Kd.R k49 49 w' w.heap.size (fun _ => True) u194001 x194001_2) ∧ Aside0 (w'.heap[gb193]? = some (.cells #[.bool ((rdOf ByteArray.empty (rd_L1 t178 x6_1) 0).toList.isEmpty), u194001] 45 (0, 0))) ∧ Aside0 (Below w.heap.size w w'))
      case atStart => exact ⟨(97), (y190), (.slice Ao20 y190.length co20), sq, H', ⟨Nat.le_refl _⟩, ⟨by (with_reducible repeat (first | apply Kd.N_alloc | apply Kd.N_drewN | apply Kd.N_drew)); exact Kd.N_mono (Kd.N_far (p := ⟨gb193, 1, none⟩) (Kd.N_far (p := ⟨gb193, 0, none⟩) (Kd.N_mono HO_4.out (fun k_ hk => (⟨hk, hk.2⟩ : _ ∧ k_ ≠ gb193))) (fun _ hk => hk.2) (.bool ((rdOf ByteArray.empty (rd_L1 t178 x6_1) 0).toList.isEmpty))) (fun _ hk => hk.2) (.slice Ao20 y190.length co20)) (fun _ hk => ⟨hk.1.1.1, ⟨hk.1.1.2, hk.1.2⟩⟩)⟩, ⟨by (with_reducible repeat (first | apply Kd.S_alloc | apply Kd.S_drewN | apply Kd.S_drew)); exact Kd.S_mono (Kd.S_far (p := ⟨gb193, 1, none⟩) (Kd.S_far (p := ⟨gb193, 0, none⟩) (Kd.S_mono HO_5.out (fun k_ hk => (⟨hk, hk.2⟩ : _ ∧ k_ ≠ gb193))) (fun _ hk => hk.2) (.bool ((rdOf ByteArray.empty (rd_L1 t178 x6_1) 0).toList.isEmpty))) (fun _ hk => hk.2) (.slice Ao20 y190.length co20)) (fun _ hk => ⟨hk.1.1.2, hk.1.2⟩)⟩, ⟨rq (Kd.R_mono (Kd.R_far (p := ⟨gb193, 1, none⟩) (Kd.R_far (p := ⟨gb193, 0, none⟩) (Kd.R_types HO192.out BK193.out (by decide)) (fun _ hk => hk.2) (.bool ((rdOf ByteArray.empty (rd_L1 t178 x6_1) 0).toList.isEmpty))) (fun _ hk => hk.2) (.slice Ao20 y190.length co20)) (fun _ hk => trivial))⟩, ⟨by (with_reducible repeat (first | refine blk_drewN ?_ _ | refine blk_drew ?_ | refine blk_alloc ?_ _)); refine blk_put (cs := #[.bool ((rdOf ByteArray.empty (rd_L1 t178 x6_1) 0).toList.isEmpty), .slice none 0 0]) ?_ 1 _ rfl; (with_reducible repeat (first | refine blk_drewN ?_ _ | refine blk_drew ?_ | refine blk_alloc ?_ _)); refine blk_put (cs := #[.bool false, .slice none 0 0]) ?_ 0 _ rfl; (with_reducible repeat (first | refine blk_drewN ?_ _ | refine blk_drew ?_ | refine blk_alloc ?_ _)); exact BK193.out⟩, ⟨bel1 GE193.out⟩⟩
      case round =>
       clear H'; (try clear c1); (try clear p1); (try clear q1); (try clear hx1); (try clear qi1); (try clear c2); (try clear p2); (try clear c3); (try clear c5); (try clear c5b0); (try clear c5b1); (try clear c7); (try clear c14); (try clear c14b0); (try clear c15); (try clear c15b0); (try clear c16); (try clear c16b0); (try clear c16b1); (try clear c17); (try clear c17b0); (try clear c17b1); (try clear c18); (try clear p18); (try clear q18); (try clear hx18); (try clear qi18); (try clear c22); (try clear hcz22_0); (try clear hcz22_1); (try clear hfz22_0); (try clear hfz22_1); (try clear hx187_0); (try clear hx188_0); (try clear hx189_0); (try clear p187); (try clear p188); (try clear p189); (try clear p2); (try clear q187); (try clear q188); (try clear q189); obtain ⟨x8_2, x194001_2, u194001, rfl, HA, HK2, HO_4, HO_5, HO_194001, BK193, HB⟩ := hrel
       cases gk with
       | zero => exact absurd HA.out (by simp [spec_MachineOf.l1])
       | succ k2 =>
        have H := HA.out; clear HA; simp only [spec_MachineOf.l1] at H
        by_cases c23 : x8_2 ≤ 122
        ·rw [if_pos c23] at H; have c23b0 := decide_eq_true c23; clear c23
         replace H := it H; obtain ⟨c24b0, H⟩ := H
         replace H := it H; obtain ⟨c25b0, H⟩ := H; replace H := bs H; obtain ⟨t195, A260, H⟩ := H; (try dsimp only at H); have A26 := Aside0.mk A260; clear A260
         by_cases c27 : (t195.length : Int) > 0
         ·rw [if_pos c27] at H; have c27b0 := decide_eq_true c27
          have c27b1 : decide (0 < t195.length) = true := decide_eq_true (by omega)
          clear c27; replace H := bs H; obtain ⟨t198, A280, H⟩ := H; (try dsimp only at H); have A28 := Aside0.mk A280; clear A280
          replace H := ip H; obtain ⟨c29, H⟩ := H; have LMc29 := Aside0.mk c29; clear c29; obtain ⟨y199, hy199⟩ : ∃ y_ : List (S49), y_ = (x194001_2 ++ [(⟨wrap64 (x8_2), t198⟩ : S49)]) := ⟨_, rfl⟩
          replace H : (spec_MachineOf.l1 k2 t178 x5_1 x6_1 ((x8_2 + 1) % 256) ((rdOf ByteArray.empty (rd_L1 t178 x6_1) 0).toList.isEmpty) y199) = some (r1, r2) := b15_
          have Ny199 := am hy199; clear hy199
          have H' := am H
          clear H
          have p194 : 0 ≤ (x6_1 : Int) := of_decide_eq_true ad
          have q194 : x6_1 < (t178.length : Int) := of_decide_eq_true ad
          obtain ⟨ad194, A194_0, c194_0, e194, hx194_0, hl194_0, hi194_0⟩ := at_L1 (Kd.N_reads' HO_4.out).2.2 x6_1 p194 q194
          obtain rfl : ad187 = ad194 := (by injection e194)
          obtain ⟨ce194, hce194, hMe194, hcc194⟩ := Kd.N_get HO_4.out [] x6_1 p194 b23_
          obtain ⟨ua194_0, uc194_0, rfl, ul194_0, ge194_0⟩ := Kd.FK_slice_open hMe194; have hv194_0 := hcc194 0 _ rfl; rw [Nat.add_zero, show ((Kd.slice 9 Kd.string)).sz = 1 from rfl, Nat.mul_one] at hv194_0; replace hv194_0 := Option.some.inj (hv194_0.symm.trans hx194_0)
          injection hv194_0 with hva_ hvn_ hvc_
          rw [hva_] at ge194_0; rw [hvc_] at ul194_0; have HL194_0 := am (show Kd.V Kd.string 9 _ w.heap.size _ _ (rd_L1 t178 x6_1) from Kd.V_mk ul194_0 ge194_0); clear hva_ hvn_ hvc_ ge194_0 ul194_0; clear hcc194 hce194; have HR194_0 := am hi194_0; have HC194_0 := am hl194_0; clear hi194_0 hl194_0; replace p194 := eq_true p194; replace q194 := eq_true q194
          try go_wp2_with (first | ((with_reducible refine gate_callee (f := 24) rfl ?_); refine gl 53 Try.func24 #[.slice A194_0 (rd_L1 t178 x6_1).length c194_0, .int .u8 x8_2] ?_; (with_reducible refine (spec_l3Ends.calls k2 _ _ (rd_L1 t178 x6_1) x8_2 t195 _ ?side1 ?side2 A26.out).mono ?_); (case side1 => repeat (first | exact b1_ | (with_reducible refine Kd.C_alloc ?_ _) | (with_reducible refine Kd.C_drewN ?_ _) | (with_reducible refine Kd.C_drew ?_))); (case side2 => exact HC194_0.out); rintro e w30 ⟨v196, rfl, ho0, hb⟩; refine ⟨_, rfl, ?_⟩; replace HO_4 := am (Kd.N_elder' b7_ (Kd.R_base ho0) hb); replace HO_5 := am (Kd.S_below b5_ hb); replace HO_194001 := am (Kd.R_below (rq HO_194001.out) hb); replace HL194_0 := am (Kd.V_elder' (vq HL194_0.out) (Kd.R_base ho0) hb); have HO197 := am (Kd.R_lower ho0 (below_size (bel1 GE193.out))); replace BK193 := am (blk_below (bq BK193.out) hb); replace HR194_0 := am (Kd.C_below b1_ hb); replace HB := am (below_step (bel1 GE193.out) hb); clear hb; (try clear ho0); obtain ⟨Ao31, co31, eo31⟩ := Kd.R_slice HO197.out; subst eo31))
          replace HO_4 := am (Kd.N_drew HO_4.out); replace HO_5 := am (Kd.S_drew HO_5.out); replace HO_194001 := am (Kd.R_drew HO_194001.out); replace HL194_0 := am (Kd.V_drew HL194_0.out); replace HO197 := am (Kd.R_drew HO197.out); replace BK193 := am (blk_drew BK193.out); replace HR194_0 := am (Kd.C_drew HR194_0.out); replace HB := am (below_drew1 HB.out)
          refine start_ (n := 12) (S := fun w' => w'.cell? ⟨gb193, 0, none⟩ = some (.bool ((rdOf ByteArray.empty (rd_L1 t178 x6_1) 0).toList.isEmpty)) ∧ w'.cell? ⟨gb193, 1, none⟩ = some (u194001)) (ds := [11]) #[false, false, false, false, false, false, false, false, false, false, false, false] (by kernel_rfl) rfl rfl ⟨bd BK193.out 0, bd BK193.out 1⟩ (fun hHeld => ?_); refine with_tabW spec_MachineOf.tab16 spec_MachineOf.bits16 (fun HT_ HW_ => ?_)
          generalize w30.drew = w32 at HO_4 HO_5 HO_194001 HL194_0 HO197 BK193 HR194_0 HB hHeld ⊢; refine pu 0 57 ?_; refine pu 2 59 ?_; refine pu 3 60 ?_; refine pu 4 61 ?_; refine pu 5 62 ?_; refine tk2 1 58 hHeld ?_; refine on1 6 63 (fun K hK => ?_)
          refine go1 Try.func25 #[.slice (some ad187) t178.length co11, .slice Ao31 t195.length co31] ?_
          with_reducible refine (spec_l3At.calls k2 _ _ t178 _ _ t195 t198 _ ?side1 ?side2 ?side3 ?side4 A28.out).mono ?_
          (case side1 => exact cq (Kd.N_reads' HO_4.out).2.2); (case side2 => exact (Kd.N_reads' HO_4.out).2.1); (case side3 => exact cq (Kd.R_reads' HO197.out).2.2); (case side4 => exact (Kd.R_reads' HO197.out).2.1)
          rintro e w' ⟨rfl, ⟨nd, rfl⟩⟩
          refine ⟨_, rfl, ?_⟩; refine hK.out _ _ ⟨bd BK193.out 0, bd BK193.out 1⟩ (fun hHeld => ?_); clear hK K; refine nm 63 ?_; refine pu 7 64 ?_; refine on1 8 65 (fun K hK => ?_)
          refine value_ (w1 := ?_) (v := ?_) (by rfl) rfl ?_ ?_
          rotate_left 2
          ·go_simp
           constructor
           ·rfl
           ·rfl
          refine hK.out _ _ ⟨bd (blk_alloc BK193.out _) 0, bd (blk_alloc BK193.out _) 1⟩ (fun hHeld => ?_); clear hK K; refine nm 65 ?_; refine on1 9 66 (fun K hK => ?_)
          refine Kd.R_append_step k49 (w0 := w) w.heap.size (by rfl) (.tmp 58) (.tmp 65) 43 49 (.agg #[(.int .i64 0), (.int .i64 0)]) 16 rfl Try.underlying43 info49 rfl (by decide) (by omega) u194001 x194001_2 (⟨wrap64 (x8_2), t198⟩ : S49) [.int .i64 (wrap64 (x8_2)), .int .i64 t198] (fun _ => True) (fun _ => False) rfl rfl ?aP (fun _ hk => hk.elim) ?aF ?aO ?aB ?aS ?aL ?_
          (case aP => exact k49_mkM _ _ _ (⟨wrap64 (x8_2), t198⟩ : S49)); (case aB => exact (bel1 GE193.out)); (case aF => exact (fun _ _ => trivial)); (case aO => exact (rq HO_194001.out)); (case aS => exact (below_size (bel1 GE193.out))); (case aL => have := LMc29.out; omega); intro v200 w33 ho hb hg hat; rw [← Ny199.out] at ho
          replace HO_4 := am (Kd.N_afterv (ok := (fun k_ => some k_ ≠ (u5 : Value).ownBlock ∧ some k_ ≠ (.slice Ao31 t195.length co31 : Value).ownBlock ∧ k_ ≠ gb193)) b28_ hg hat)
          replace HO_5 := am (Kd.S_after (ok := (fun k_ => k_ ≠ gb193)) b36_ hg hat)
          replace BK193 := am (blk_grown (g := gb193) (o := .cells #[.bool ((rdOf ByteArray.empty (rd_L1 t178 x6_1) 0).toList.isEmpty), u194001] 45 (0, 0)) (bq BK193.out) hg (Kd.R_ne HO_194001.out BK193.out (by decide)))
          replace HL194_0 := am (Kd.V_afterv (ok := (fun k_ => some k_ ≠ (.slice (some ad187) t178.length co11 : Value).ownBlock ∧ some k_ ≠ (u5 : Value).ownBlock ∧ some k_ ≠ (.slice Ao31 t195.length co31 : Value).ownBlock ∧ k_ ≠ gb193)) (vq (Kd.V_mono HL194_0.out (fun _ hk => ⟨⟨hk.1.2, ⟨hk.1.1.1, ⟨hk.2, hk.1.1.2.2⟩⟩⟩, hk.1.1.2.1⟩))) hg hat)
          replace HO197 := am (Kd.R_over' (rq HO197.out) (Kd.R_typed (rq HO_194001.out)) (by decide) hg); replace HB := am (hb); have HO201 := am (ho); clear HO_194001; clear ho hb hg hat; obtain ⟨Ao34, co34, eo34⟩ := Kd.R_slice HO201.out
          (first | subst eo34 | (injection eo34 with f1_ f2_ f3_; have f4_ := f1_.symm; have f5_ := f3_.symm; clear f1_ f2_ f3_; subst f4_; subst f5_))
          refine hK.out _ _ ⟨bd BK193.out 0, bd BK193.out 1⟩ (fun hHeld => ?_); clear hK K; refine nm 66 ?_; refine pu 10 67 ?_
          refine last_ (i := 11) (N := none) #[true, true, true, true, true, true, true, true, true, true, true, true] rfl rfl (one_of HT_.out (by kernel_rfl)) (by decide) (fun K hK => ?_)
          have hs35 : w33.cell? ⟨gb193, 1, none⟩ = some (u194001) := bd BK193.out 1
          have hfs35 := bf BK193.out 1
          refine skip_ (w1 := ?_) (by rfl) rfl ?_ ?_
          rotate_left
          ·go_simp
           rfl
          refine hK.out _ _ ?_; clear hK K
          refine done_ (done_of HT_.out (by kernel_rfl)) ?_
          try go_wp2
          go_roundg k2
          case measure => have := HK1.out; have := HK2.out; omega
          case rel => exact ⟨((x8_2 + 1) % 256), (y199), (.slice Ao34 y199.length co34), sq, H', ⟨b37_⟩, ⟨by (with_reducible repeat (first | apply Kd.N_alloc | apply Kd.N_drewN | apply Kd.N_drew)); exact Kd.N_mono (Kd.N_far (p := ⟨gb193, 1, none⟩) (Kd.N_mono HO_4.out (fun k_ hk => (⟨hk, hk.1.2.2⟩ : _ ∧ k_ ≠ gb193))) (fun _ hk => hk.2) (.slice Ao34 y199.length co34)) (fun _ hk => ⟨hk.1.1.1, ⟨hk.1.2, hk.1.1.2.2⟩⟩)⟩, ⟨by (with_reducible repeat (first | apply Kd.S_alloc | apply Kd.S_drewN | apply Kd.S_drew)); exact Kd.S_mono (Kd.S_far (p := ⟨gb193, 1, none⟩) (Kd.S_mono HO_5.out (fun k_ hk => (⟨hk, hk.1⟩ : _ ∧ k_ ≠ gb193))) (fun _ hk => hk.2) (.slice Ao34 y199.length co34)) (fun _ hk => ⟨hk.1.2, hk.1.1⟩)⟩, ⟨rq (Kd.R_mono (Kd.R_far (p := ⟨gb193, 1, none⟩) (Kd.R_types HO201.out BK193.out (by decide)) (fun _ hk => hk.2) (.slice Ao34 y199.length co34)) (fun _ hk => trivial))⟩, ⟨by (with_reducible repeat (first | refine blk_drewN ?_ _ | refine blk_drew ?_ | refine blk_alloc ?_ _)); refine blk_put (cs := #[.bool ((rdOf ByteArray.empty (rd_L1 t178 x6_1) 0).toList.isEmpty), u194001]) ?_ 1 _ rfl; (with_reducible repeat (first | refine blk_drewN ?_ _ | refine blk_drew ?_ | refine blk_alloc ?_ _)); exact BK193.out⟩, ⟨bel1 GE193.out⟩⟩
         rw [if_neg c27] at H; have c27b0 := decide_eq_false c27
         have c27b1 : decide (0 < t195.length) = false := decide_eq_false (by omega)
         clear c27
         have H' := am H
         clear H
         have p194 : 0 ≤ (x6_1 : Int) := of_decide_eq_true ad
         have q194 : x6_1 < (t178.length : Int) := of_decide_eq_true ad
         obtain ⟨ad194, A194_0, c194_0, e194, hx194_0, hl194_0, hi194_0⟩ := at_L1 (Kd.N_reads' HO_4.out).2.2 x6_1 p194 q194
         obtain rfl : ad187 = ad194 := (by injection e194)
         obtain ⟨ce194, hce194, hMe194, hcc194⟩ := Kd.N_get HO_4.out [] x6_1 p194 b23_
         obtain ⟨ua194_0, uc194_0, rfl, ul194_0, ge194_0⟩ := Kd.FK_slice_open hMe194; have hv194_0 := hcc194 0 _ rfl; rw [Nat.add_zero, show ((Kd.slice 9 Kd.string)).sz = 1 from rfl, Nat.mul_one] at hv194_0; replace hv194_0 := Option.some.inj (hv194_0.symm.trans hx194_0)
         injection hv194_0 with hva_ hvn_ hvc_
         rw [hva_] at ge194_0; rw [hvc_] at ul194_0; have HL194_0 := am (show Kd.V Kd.string 9 _ w.heap.size _ _ (rd_L1 t178 x6_1) from Kd.V_mk ul194_0 ge194_0); clear hva_ hvn_ hvc_ ge194_0 ul194_0; clear hcc194 hce194; have HR194_0 := am hi194_0; have HC194_0 := am hl194_0; clear hi194_0 hl194_0; replace p194 := eq_true p194; replace q194 := eq_true q194
         go_wp2_with (first | ((with_reducible refine gate_callee (f := 24) rfl ?_); refine gl 53 Try.func24 #[.slice A194_0 (rd_L1 t178 x6_1).length c194_0, .int .u8 x8_2] ?_; (with_reducible refine (spec_l3Ends.calls k2 _ _ (rd_L1 t178 x6_1) x8_2 t195 _ ?side1 ?side2 A26.out).mono ?_); (case side1 => repeat (first | exact b1_ | (with_reducible refine Kd.C_alloc ?_ _) | (with_reducible refine Kd.C_drewN ?_ _) | (with_reducible refine Kd.C_drew ?_))); (case side2 => exact HC194_0.out); rintro e w36 ⟨v196, rfl, ho0, hb⟩; refine ⟨_, rfl, ?_⟩; replace HO_4 := am (Kd.N_elder' b7_ (Kd.R_base ho0) hb); replace HO_5 := am (Kd.S_below b5_ hb); replace HO_194001 := am (Kd.R_below (rq HO_194001.out) hb); replace HL194_0 := am (Kd.V_elder' (vq HL194_0.out) (Kd.R_base ho0) hb); have HO197 := am (Kd.R_lower ho0 (below_size (bel1 GE193.out))); replace BK193 := am (blk_below (bq BK193.out) hb); replace HR194_0 := am (Kd.C_below b1_ hb); replace HB := am (below_step (bel1 GE193.out) hb); clear hb; (try clear ho0); obtain ⟨Ao37, co37, eo37⟩ := Kd.R_slice HO197.out; subst eo37))
         go_roundg k2
         case measure => have := HK1.out; have := HK2.out; omega
         case rel => exact ⟨((x8_2 + 1) % 256), (x194001_2), (u194001), sq, H', ⟨b37_⟩, ⟨b29_⟩, ⟨b5_⟩, ⟨rq HO_194001.out⟩, ⟨bq BK193.out⟩, ⟨bel1 GE193.out⟩⟩
        rw [if_neg c23] at H; have c23b0 := decide_eq_false c23; clear c23
        replace H := ip H; obtain ⟨c38, H⟩ := H; have LMc38 := Aside0.mk c38; clear c38; obtain ⟨y202, hy202⟩ : ∃ y_ : List (S45), y_ = (x5_1 ++ [(⟨((rdOf ByteArray.empty (rd_L1 t178 x6_1) 0).toList.isEmpty), x194001_2⟩ : S45)]) := ⟨_, rfl⟩
        replace H : (spec_MachineOf.l0 k2 t178 y202 (wrap64 (x6_1 + 1))) = some (r1, r2) := b16_
        have Ny202 := am hy202; clear hy202
        have H' := am H
        clear H; have ⟨hcz39_0, hcz39_1, hfz39_0, hfz39_1⟩ := b2c BK193.out; obtain ⟨Ao41, co41, eo41⟩ := Kd.R_slice HO_194001.out; subst eo41
        go_wp2_with (first | ((with_reducible refine gate_builtin (b := .append) (xs := #[.tmp 68, .tmp 70]) rfl ?_); at_builtin; refine Kd.S_append k45 (w0 := w) w.heap.size rfl (.tmp 68) (.tmp 70) 24 45 (.agg #[(.bool false), (.slice none 0 0)]) 32 rfl Try.underlying24 info45 rfl (by decide) (by omega) u5 x5_1 (⟨((rdOf ByteArray.empty (rd_L1 t178 x6_1) 0).toList.isEmpty), x194001_2⟩ : S45) [.bool ((rdOf ByteArray.empty (rd_L1 t178 x6_1) 0).toList.isEmpty), .slice Ao41 x194001_2.length co41] (fun k_ => k_ ≠ gb193) (fun k_ => some k_ = (.slice Ao41 x194001_2.length co41 : Value).ownBlock) rfl rfl ?aP (fun k_ hk_ => ((Kd.R_mono (ok' := fun k_ => ((fun k_ => k_ ≠ gb193)) k_ ∧ some k_ ≠ (u5 : Value).ownBlock) (Kd.R_types (Kd.R_apart' (HO_194001.out) (Kd.S_typed HO_5.out) (by decide)) BK193.out (by decide)) (fun k_ hk => ⟨hk.2, hk.1.2⟩))).1 k_ hk_.symm) ?aF ?aO ?aB ?aS ?aL ?_; (case aP => exact k45_mkM _ _ _ (⟨((rdOf ByteArray.empty (rd_L1 t178 x6_1) 0).toList.isEmpty), x194001_2⟩ : S45) (Kd.R_mono (Kd.R_tight rfl (Kd.R_mono (ok' := fun k_ => ((fun k_ => k_ ≠ gb193)) k_ ∧ some k_ ≠ (u5 : Value).ownBlock) (Kd.R_types (Kd.R_apart' (HO_194001.out) (Kd.S_typed HO_5.out) (by decide)) BK193.out (by decide)) (fun k_ hk => ⟨hk.2, hk.1.2⟩))) (fun _ h_ => h_))); (case aB => exact (bel1 GE193.out)); (case aF => exact (fun k_ hk => Kd.freshB (g := gb193) (o := .cells #[.bool ((rdOf ByteArray.empty (rd_L1 t178 x6_1) 0).toList.isEmpty), .slice Ao41 x194001_2.length co41] 45 (0, 0)) (bq BK193.out) k_ hk)); (case aO => exact b30_); (case aS => exact (below_size (bel1 GE193.out))); (case aL => have := LMc38.out; omega); intro v203 w40 ho hb hg hat; rw [← Ny202.out] at ho; replace HO_4 := am (Kd.N_afterv (ok := (fun k_ => some k_ ≠ (.slice Ao41 x194001_2.length co41 : Value).ownBlock ∧ k_ ≠ gb193)) b34_ hg hat); replace BK193 := am (blk_grown (g := gb193) (o := .cells #[.bool ((rdOf ByteArray.empty (rd_L1 t178 x6_1) 0).toList.isEmpty), .slice Ao41 x194001_2.length co41] 45 (0, 0)) (bq BK193.out) hg (Kd.S_away HO_5.out (fun _ hk => hk.2))); replace HB := am (hb); have HO204 := am (ho); clear HO_5 HO_194001; clear ho hb hg hat))
        go_roundg k2
        case measure => have := HK1.out; have := HK2.out; omega
        case rel => exact ⟨(y202), (wrap64 (x6_1 + 1)), sq, H', ⟨b37_⟩, ⟨b39_⟩, ⟨b38_⟩, ⟨bel1 GE193.out⟩⟩
     rw [if_neg c16] at H; have c16b0 := decide_eq_false c16
     have c16b1 : decide (0 < (rd_L1 t178 x6_1).length) = false := decide_eq_false (by omega)
     clear c16; obtain ⟨y205, hy205⟩ : ∃ y_ : List (S49), y_ = (([] : List (S49))) := ⟨_, rfl⟩
     replace H : (spec_MachineOf.l1 k1 t178 x5_1 x6_1 97 false y205) = some (r1, r2) := by first | (rw [hy205]; with_reducible exact H) | (have H2_ := bm H; rw [hy205]; with_reducible exact H2_) | (with_reducible exact bm H) | with_reducible exact H | (rw [hy205]; exact H) | exact H
     have Ny205 := am hy205; clear hy205
     have H' := am H
     clear H
     have p187 : 0 ≤ (x6_1 : Int) := of_decide_eq_true ad
     have q187 : x6_1 < (t178.length : Int) := of_decide_eq_true ad
     obtain ⟨ad187, A187_0, c187_0, e187, hx187_0, hl187_0, hi187_0⟩ := at_L1 (Kd.N_reads' HO_4.out).2.2 x6_1 p187 q187; cases e187
     obtain ⟨ce187, hce187, hMe187, hcc187⟩ := Kd.N_get HO_4.out [] x6_1 p187 (by first | exact q187 | exact of_decide_eq_true ad | (have e_ := (Kd.N_reads' HO_4.out).1; omega))
     obtain ⟨ua187_0, uc187_0, rfl, ul187_0, ge187_0⟩ := Kd.FK_slice_open hMe187; have hv187_0 := hcc187 0 _ rfl; rw [Nat.add_zero, show ((Kd.slice 9 Kd.string)).sz = 1 from rfl, Nat.mul_one] at hv187_0; replace hv187_0 := Option.some.inj (hv187_0.symm.trans hx187_0)
     injection hv187_0 with hva_ hvn_ hvc_
     rw [hva_] at ge187_0; rw [hvc_] at ul187_0; have HL187_0 := am (show Kd.V Kd.string 9 _ w.heap.size _ _ (rd_L1 t178 x6_1) from Kd.V_mk ul187_0 ge187_0); clear hva_ hvn_ hvc_ ge187_0 ul187_0; clear hcc187 hce187; have HR187_0 := am hi187_0; have HC187_0 := am hl187_0; clear hi187_0 hl187_0; replace p187 := eq_true p187; replace q187 := eq_true q187
     go_wp2_with (first | ((with_reducible refine gate_dst (N := 42) rfl ?_); refine Kd.R_lit k49 _ 49 ?hg (N := 42) ?hd (xs := ([] : List (S49))) (inner := []) (ok := fun _ => True) (okp := fun _ => True) ?hr ?hp (fun _ hk => hk) trivial (Below.refl _ _) (Nat.le_refl _) (by simp) ?_; (case hd => rfl); (case hg => rfl); (case hr => first | (go_simp; done) | (go_simp; rfl)); (case hp => exact (Reps.none _ _)); intro v206 w42 ho43 hb hg_ hnew_; clear hg_ hnew_; (first | rw [← Ny205.out] at ho43 | (simp only [Int.reduceToNat] at ho43; rw [← Ny205.out] at ho43) | (simp only [Int.toNat_natCast] at ho43; rw [← Ny205.out] at ho43)); replace HO_4 := am (Kd.N_elder' b7_ (Kd.R_base ho43) hb); replace HO_5 := am (Kd.S_elder' b5_ (Kd.R_base ho43) hb); replace HL187_0 := am (Kd.V_elder' (vq HL187_0.out) (Kd.R_base ho43) hb); have HO207 := am (Kd.R_lower ho43 (below_size bel)); replace HR187_0 := am (Kd.C_below b10_ hb); replace HB := am (below_step bel hb); clear hb ho43; obtain ⟨Ao44, co44, eo44⟩ := Kd.R_slice HO207.out; subst eo44) | ((with_reducible refine gate_dst (N := 7) rfl ?_); refine bx 7 (cs := #[.bool false, .slice none 0 0]) (t := 45) ?_; intro gb193 hg w45 hbox hb; replace HO_4 := am (Kd.N_below (Kd.N_elderB b7_ gb193 (Nat.le_of_eq hg.symm)) hb); replace HO_5 := am (Kd.S_below (Kd.S_elderB b5_ gb193 (Nat.le_of_eq hg.symm)) hb); replace HL187_0 := am (Kd.V_below (Kd.V_elderB (vq HL187_0.out) gb193 (Nat.le_of_eq hg.symm)) hb); replace HO207 := am (Kd.R_below (rq HO207.out) hb); replace HR187_0 := am (Kd.C_below b10_ hb); have BK193 := am (hbox); have GW193 := am ((b19_ : w.heap.size ≤ gb193)); have GE193 := am ((b19_ : w.heap.size ≤ gb193)); replace HB := am (below_step bel hb); clear hb hbox hg; have ⟨hcz46_0, hcz46_1, hfz46_0, hfz46_1⟩ := b2c BK193.out))
     go_loopg [8] k1 (fun kq v8 w' => ∃ (x8_2 : Int) (x194001_2 : List (S49)) (u194001 : Value), v8 = .int .u8 x8_2 ∧ Aside0 (spec_MachineOf.l1 kq t178 x5_1 x6_1 x8_2 false x194001_2 = some (r1, r2)) ∧ Aside0 (kq ≤ k1) ∧ Aside0 (Kd.N (Kd.slice 9 Kd.string) 22 w' w.heap.size (fun k_ => some k_ ≠ (u5 : Value).ownBlock ∧ some k_ ≠ (u194001 : Value).ownBlock ∧ k_ ≠ gb193) (.slice (some ad187) t178.length co11) t178) ∧ Aside0 (Kd.S k45 45 w' w.heap.size (fun k_ => some k_ ≠ (u194001 : Value).ownBlock ∧ k_ ≠ gb193) u5 x5_1) ∧ Aside0 (Kd.R k49 49 w' w.heap.size (fun _ => True) u194001 x194001_2) ∧ Aside0 (w'.heap[gb193]? = some (.cells #[.bool false, u194001] 45 (0, 0))) ∧ Aside0 (Below w.heap.size w w'))
     case atStart => exact ⟨(97), (y205), (.slice Ao44 y205.length co44), sq, H', ⟨Nat.le_refl _⟩, ⟨by (with_reducible repeat (first | apply Kd.N_alloc | apply Kd.N_drewN | apply Kd.N_drew)); exact Kd.N_mono (Kd.N_far (p := ⟨gb193, 1, none⟩) (Kd.N_far (p := ⟨gb193, 0, none⟩) (Kd.N_mono HO_4.out (fun k_ hk => (⟨hk, hk.2⟩ : _ ∧ k_ ≠ gb193))) (fun _ hk => hk.2) (.bool false)) (fun _ hk => hk.2) (.slice Ao44 y205.length co44)) (fun _ hk => ⟨hk.1.1.1, ⟨hk.1.1.2, hk.1.2⟩⟩)⟩, ⟨by (with_reducible repeat (first | apply Kd.S_alloc | apply Kd.S_drewN | apply Kd.S_drew)); exact Kd.S_mono (Kd.S_far (p := ⟨gb193, 1, none⟩) (Kd.S_far (p := ⟨gb193, 0, none⟩) (Kd.S_mono HO_5.out (fun k_ hk => (⟨hk, hk.2⟩ : _ ∧ k_ ≠ gb193))) (fun _ hk => hk.2) (.bool false)) (fun _ hk => hk.2) (.slice Ao44 y205.length co44)) (fun _ hk => ⟨hk.1.1.2, hk.1.2⟩)⟩, ⟨rq (Kd.R_mono (Kd.R_far (p := ⟨gb193, 1, none⟩) (Kd.R_far (p := ⟨gb193, 0, none⟩) (Kd.R_types HO207.out BK193.out (by decide)) (fun _ hk => hk.2) (.bool false)) (fun _ hk => hk.2) (.slice Ao44 y205.length co44)) (fun _ hk => trivial))⟩, ⟨by (with_reducible repeat (first | refine blk_drewN ?_ _ | refine blk_drew ?_ | refine blk_alloc ?_ _)); refine blk_put (cs := #[.bool false, .slice none 0 0]) ?_ 1 _ rfl; (with_reducible repeat (first | refine blk_drewN ?_ _ | refine blk_drew ?_ | refine blk_alloc ?_ _)); refine blk_put (cs := #[.bool false, .slice none 0 0]) ?_ 0 _ rfl; (with_reducible repeat (first | refine blk_drewN ?_ _ | refine blk_drew ?_ | refine blk_alloc ?_ _)); exact BK193.out⟩, ⟨bel1 GE193.out⟩⟩
     case round =>
      clear H'; (try clear c1); (try clear p1); (try clear q1); (try clear hx1); (try clear qi1); (try clear c2); (try clear p2); (try clear c3); (try clear c5); (try clear c5b0); (try clear c5b1); (try clear p6); (try clear c7); (try clear c14); (try clear c14b0); (try clear c15); (try clear c15b0); (try clear c16); (try clear c16b0); (try clear c16b1); (try clear c17); (try clear c17b0); (try clear c17b1); (try clear c18); (try clear p18); (try clear q18); (try clear hx18); (try clear qi18); (try clear c19); (try clear p19); (try clear q19); (try clear hx19); (try clear c22); (try clear c23); (try clear c23b0); (try clear c24); (try clear c24b0); (try clear c25); (try clear c25b0); (try clear c27); (try clear c27b0); (try clear c27b1); (try clear c29); (try clear c38); (try clear hcz22_0); (try clear hcz22_1); (try clear hcz39_0); (try clear hcz39_1); (try clear hcz46_0); (try clear hcz46_1); (try clear hfz22_0); (try clear hfz22_1); (try clear hfz39_0); (try clear hfz39_1); (try clear hfz46_0); (try clear hfz46_1); (try clear hx187_0); (try clear hx188_0); (try clear hx189_0); (try clear hx194_0); (try clear p1); (try clear p18); (try clear p187); (try clear p188); (try clear p189); (try clear p194); (try clear p2); (try clear q1); (try clear q18); (try clear q187); (try clear q188); (try clear q189); (try clear q194); obtain ⟨x8_2, x194001_2, u194001, rfl, HA, HK2, HO_4, HO_5, HO_194001, BK193, HB⟩ := hrel
      cases gk with
      | zero => exact absurd HA.out (by simp [spec_MachineOf.l1])
      | succ k2 =>
       have H := HA.out; clear HA; simp only [spec_MachineOf.l1] at H
       by_cases c47 : x8_2 ≤ 122
       ·rw [if_pos c47] at H; have c47b0 := decide_eq_true c47; clear c47
        replace H := it H; obtain ⟨c48b0, H⟩ := H
        replace H := it H; obtain ⟨c49b0, H⟩ := H; replace H := bs H; obtain ⟨t195, A500, H⟩ := H; (try dsimp only at H); have A50 := Aside0.mk A500; clear A500
        by_cases c51 : (t195.length : Int) > 0
        ·rw [if_pos c51] at H; have c51b0 := decide_eq_true c51
         have c51b1 : decide (0 < t195.length) = true := decide_eq_true (by omega)
         clear c51; replace H := bs H; obtain ⟨t198, A520, H⟩ := H; (try dsimp only at H); have A52 := Aside0.mk A520; clear A520
         replace H := ip H; obtain ⟨c53, H⟩ := H; have LMc53 := Aside0.mk c53; clear c53; obtain ⟨y199, hy199⟩ : ∃ y_ : List (S49), y_ = (x194001_2 ++ [(⟨wrap64 (x8_2), t198⟩ : S49)]) := ⟨_, rfl⟩
         replace H : (spec_MachineOf.l1 k2 t178 x5_1 x6_1 ((x8_2 + 1) % 256) false y199) = some (r1, r2) := b15_
         have Ny199 := am hy199; clear hy199
         have H' := am H
         clear H
         have p194 : 0 ≤ (x6_1 : Int) := of_decide_eq_true ad
         have q194 : x6_1 < (t178.length : Int) := of_decide_eq_true ad
         obtain ⟨ad194, A194_0, c194_0, e194, hx194_0, hl194_0, hi194_0⟩ := at_L1 (Kd.N_reads' HO_4.out).2.2 x6_1 p194 q194
         obtain rfl : ad187 = ad194 := (by injection e194)
         obtain ⟨ce194, hce194, hMe194, hcc194⟩ := Kd.N_get HO_4.out [] x6_1 p194 b23_
         obtain ⟨ua194_0, uc194_0, rfl, ul194_0, ge194_0⟩ := Kd.FK_slice_open hMe194; have hv194_0 := hcc194 0 _ rfl; rw [Nat.add_zero, show ((Kd.slice 9 Kd.string)).sz = 1 from rfl, Nat.mul_one] at hv194_0; replace hv194_0 := Option.some.inj (hv194_0.symm.trans hx194_0)
         injection hv194_0 with hva_ hvn_ hvc_
         rw [hva_] at ge194_0; rw [hvc_] at ul194_0; have HL194_0 := am (show Kd.V Kd.string 9 _ w.heap.size _ _ (rd_L1 t178 x6_1) from Kd.V_mk ul194_0 ge194_0); clear hva_ hvn_ hvc_ ge194_0 ul194_0; clear hcc194 hce194; have HR194_0 := am hi194_0; have HC194_0 := am hl194_0; clear hi194_0 hl194_0; replace p194 := eq_true p194; replace q194 := eq_true q194
         try go_wp2_with (first | ((with_reducible refine gate_callee (f := 24) rfl ?_); refine gl 53 Try.func24 #[.slice A194_0 (rd_L1 t178 x6_1).length c194_0, .int .u8 x8_2] ?_; (with_reducible refine (spec_l3Ends.calls k2 _ _ (rd_L1 t178 x6_1) x8_2 t195 _ ?side1 ?side2 A50.out).mono ?_); (case side1 => repeat (first | exact b1_ | (with_reducible refine Kd.C_alloc ?_ _) | (with_reducible refine Kd.C_drewN ?_ _) | (with_reducible refine Kd.C_drew ?_))); (case side2 => exact HC194_0.out); rintro e w54 ⟨v196, rfl, ho0, hb⟩; refine ⟨_, rfl, ?_⟩; replace HO_4 := am (Kd.N_elder' b7_ (Kd.R_base ho0) hb); replace HO_5 := am (Kd.S_below b5_ hb); replace HO_194001 := am (Kd.R_below (rq HO_194001.out) hb); replace HL194_0 := am (Kd.V_elder' (vq HL194_0.out) (Kd.R_base ho0) hb); have HO197 := am (Kd.R_lower ho0 (below_size (bel1 GE193.out))); replace BK193 := am (blk_below (bq BK193.out) hb); replace HR194_0 := am (Kd.C_below b1_ hb); replace HB := am (below_step (bel1 GE193.out) hb); clear hb; (try clear ho0); obtain ⟨Ao55, co55, eo55⟩ := Kd.R_slice HO197.out; subst eo55))
         replace HO_4 := am (Kd.N_drew HO_4.out); replace HO_5 := am (Kd.S_drew HO_5.out); replace HO_194001 := am (Kd.R_drew HO_194001.out); replace HL194_0 := am (Kd.V_drew HL194_0.out); replace HO197 := am (Kd.R_drew HO197.out); replace BK193 := am (blk_drew BK193.out); replace HR194_0 := am (Kd.C_drew HR194_0.out); replace HB := am (below_drew1 HB.out)
         refine start_ (n := 12) (S := fun w' => w'.cell? ⟨gb193, 0, none⟩ = some (.bool false) ∧ w'.cell? ⟨gb193, 1, none⟩ = some (u194001)) (ds := [11]) #[false, false, false, false, false, false, false, false, false, false, false, false] (by kernel_rfl) rfl rfl ⟨bd BK193.out 0, bd BK193.out 1⟩ (fun hHeld => ?_); refine with_tabW spec_MachineOf.tab16 spec_MachineOf.bits16 (fun HT_ HW_ => ?_)
         generalize w54.drew = w56 at HO_4 HO_5 HO_194001 HL194_0 HO197 BK193 HR194_0 HB hHeld ⊢; refine pu 0 57 ?_; refine pu 2 59 ?_; refine pu 3 60 ?_; refine pu 4 61 ?_; refine pu 5 62 ?_; refine tk2 1 58 hHeld ?_; refine on1 6 63 (fun K hK => ?_)
         refine go1 Try.func25 #[.slice (some ad187) t178.length co11, .slice Ao55 t195.length co55] ?_
         with_reducible refine (spec_l3At.calls k2 _ _ t178 _ _ t195 t198 _ ?side1 ?side2 ?side3 ?side4 A52.out).mono ?_
         (case side1 => exact cq (Kd.N_reads' HO_4.out).2.2); (case side2 => exact (Kd.N_reads' HO_4.out).2.1); (case side3 => exact cq (Kd.R_reads' HO197.out).2.2); (case side4 => exact (Kd.R_reads' HO197.out).2.1)
         rintro e w' ⟨rfl, ⟨nd, rfl⟩⟩
         refine ⟨_, rfl, ?_⟩; refine hK.out _ _ ⟨bd BK193.out 0, bd BK193.out 1⟩ (fun hHeld => ?_); clear hK K; refine nm 63 ?_; refine pu 7 64 ?_; refine on1 8 65 (fun K hK => ?_)
         refine value_ (w1 := ?_) (v := ?_) (by rfl) rfl ?_ ?_
         rotate_left 2
         ·go_simp
          constructor
          ·rfl
          ·rfl
         refine hK.out _ _ ⟨bd (blk_alloc BK193.out _) 0, bd (blk_alloc BK193.out _) 1⟩ (fun hHeld => ?_); clear hK K; refine nm 65 ?_; refine on1 9 66 (fun K hK => ?_)
         refine Kd.R_append_step k49 (w0 := w) w.heap.size (by rfl) (.tmp 58) (.tmp 65) 43 49 (.agg #[(.int .i64 0), (.int .i64 0)]) 16 rfl Try.underlying43 info49 rfl (by decide) (by omega) u194001 x194001_2 (⟨wrap64 (x8_2), t198⟩ : S49) [.int .i64 (wrap64 (x8_2)), .int .i64 t198] (fun _ => True) (fun _ => False) rfl rfl ?aP (fun _ hk => hk.elim) ?aF ?aO ?aB ?aS ?aL ?_
         (case aP => exact k49_mkM _ _ _ (⟨wrap64 (x8_2), t198⟩ : S49)); (case aB => exact (bel1 GE193.out)); (case aF => exact (fun _ _ => trivial)); (case aO => exact (rq HO_194001.out)); (case aS => exact (below_size (bel1 GE193.out))); (case aL => have := LMc53.out; omega); intro v200 w57 ho hb hg hat; rw [← Ny199.out] at ho
         replace HO_4 := am (Kd.N_afterv (ok := (fun k_ => some k_ ≠ (u5 : Value).ownBlock ∧ some k_ ≠ (.slice Ao55 t195.length co55 : Value).ownBlock ∧ k_ ≠ gb193)) b28_ hg hat)
         replace HO_5 := am (Kd.S_after (ok := (fun k_ => k_ ≠ gb193)) b36_ hg hat)
         replace BK193 := am (blk_grown (g := gb193) (o := .cells #[.bool false, u194001] 45 (0, 0)) (bq BK193.out) hg (Kd.R_ne HO_194001.out BK193.out (by decide)))
         replace HL194_0 := am (Kd.V_afterv (ok := (fun k_ => some k_ ≠ (.slice (some ad187) t178.length co11 : Value).ownBlock ∧ some k_ ≠ (u5 : Value).ownBlock ∧ some k_ ≠ (.slice Ao55 t195.length co55 : Value).ownBlock ∧ k_ ≠ gb193)) (vq (Kd.V_mono HL194_0.out (fun _ hk => ⟨⟨hk.1.2, ⟨hk.1.1.1, ⟨hk.2, hk.1.1.2.2⟩⟩⟩, hk.1.1.2.1⟩))) hg hat)
         replace HO197 := am (Kd.R_over' (rq HO197.out) (Kd.R_typed (rq HO_194001.out)) (by decide) hg); replace HB := am (hb); have HO201 := am (ho); clear HO_194001; clear ho hb hg hat; obtain ⟨Ao58, co58, eo58⟩ := Kd.R_slice HO201.out
         (first | subst eo58 | (injection eo58 with f1_ f2_ f3_; have f4_ := f1_.symm; have f5_ := f3_.symm; clear f1_ f2_ f3_; subst f4_; subst f5_))
         refine hK.out _ _ ⟨bd BK193.out 0, bd BK193.out 1⟩ (fun hHeld => ?_); clear hK K; refine nm 66 ?_; refine pu 10 67 ?_
         refine last_ (i := 11) (N := none) #[true, true, true, true, true, true, true, true, true, true, true, true] rfl rfl (one_of HT_.out (by kernel_rfl)) (by decide) (fun K hK => ?_)
         have hs59 : w57.cell? ⟨gb193, 1, none⟩ = some (u194001) := bd BK193.out 1
         have hfs59 := bf BK193.out 1
         refine skip_ (w1 := ?_) (by rfl) rfl ?_ ?_
         rotate_left
         ·go_simp
          rfl
         refine hK.out _ _ ?_; clear hK K
         refine done_ (done_of HT_.out (by kernel_rfl)) ?_
         try go_wp2
         go_roundg k2
         case measure => have := HK1.out; have := HK2.out; omega
         case rel => exact ⟨((x8_2 + 1) % 256), (y199), (.slice Ao58 y199.length co58), sq, H', ⟨b37_⟩, ⟨by (with_reducible repeat (first | apply Kd.N_alloc | apply Kd.N_drewN | apply Kd.N_drew)); exact Kd.N_mono (Kd.N_far (p := ⟨gb193, 1, none⟩) (Kd.N_mono HO_4.out (fun k_ hk => (⟨hk, hk.1.2.2⟩ : _ ∧ k_ ≠ gb193))) (fun _ hk => hk.2) (.slice Ao58 y199.length co58)) (fun _ hk => ⟨hk.1.1.1, ⟨hk.1.2, hk.1.1.2.2⟩⟩)⟩, ⟨by (with_reducible repeat (first | apply Kd.S_alloc | apply Kd.S_drewN | apply Kd.S_drew)); exact Kd.S_mono (Kd.S_far (p := ⟨gb193, 1, none⟩) (Kd.S_mono HO_5.out (fun k_ hk => (⟨hk, hk.1⟩ : _ ∧ k_ ≠ gb193))) (fun _ hk => hk.2) (.slice Ao58 y199.length co58)) (fun _ hk => ⟨hk.1.2, hk.1.1⟩)⟩, ⟨rq (Kd.R_mono (Kd.R_far (p := ⟨gb193, 1, none⟩) (Kd.R_types HO201.out BK193.out (by decide)) (fun _ hk => hk.2) (.slice Ao58 y199.length co58)) (fun _ hk => trivial))⟩, ⟨by (with_reducible repeat (first | refine blk_drewN ?_ _ | refine blk_drew ?_ | refine blk_alloc ?_ _)); refine blk_put (cs := #[.bool false, u194001]) ?_ 1 _ rfl; (with_reducible repeat (first | refine blk_drewN ?_ _ | refine blk_drew ?_ | refine blk_alloc ?_ _)); exact BK193.out⟩, ⟨bel1 GE193.out⟩⟩
        rw [if_neg c51] at H; have c51b0 := decide_eq_false c51
        have c51b1 : decide (0 < t195.length) = false := decide_eq_false (by omega)
        clear c51
        have H' := am H
        clear H
        have p194 : 0 ≤ (x6_1 : Int) := of_decide_eq_true ad
        have q194 : x6_1 < (t178.length : Int) := of_decide_eq_true ad
        obtain ⟨ad194, A194_0, c194_0, e194, hx194_0, hl194_0, hi194_0⟩ := at_L1 (Kd.N_reads' HO_4.out).2.2 x6_1 p194 q194
        obtain rfl : ad187 = ad194 := (by injection e194)
        obtain ⟨ce194, hce194, hMe194, hcc194⟩ := Kd.N_get HO_4.out [] x6_1 p194 b23_
        obtain ⟨ua194_0, uc194_0, rfl, ul194_0, ge194_0⟩ := Kd.FK_slice_open hMe194; have hv194_0 := hcc194 0 _ rfl; rw [Nat.add_zero, show ((Kd.slice 9 Kd.string)).sz = 1 from rfl, Nat.mul_one] at hv194_0; replace hv194_0 := Option.some.inj (hv194_0.symm.trans hx194_0)
        injection hv194_0 with hva_ hvn_ hvc_
        rw [hva_] at ge194_0; rw [hvc_] at ul194_0; have HL194_0 := am (show Kd.V Kd.string 9 _ w.heap.size _ _ (rd_L1 t178 x6_1) from Kd.V_mk ul194_0 ge194_0); clear hva_ hvn_ hvc_ ge194_0 ul194_0; clear hcc194 hce194; have HR194_0 := am hi194_0; have HC194_0 := am hl194_0; clear hi194_0 hl194_0; replace p194 := eq_true p194; replace q194 := eq_true q194
        go_wp2_with (first | ((with_reducible refine gate_callee (f := 24) rfl ?_); refine gl 53 Try.func24 #[.slice A194_0 (rd_L1 t178 x6_1).length c194_0, .int .u8 x8_2] ?_; (with_reducible refine (spec_l3Ends.calls k2 _ _ (rd_L1 t178 x6_1) x8_2 t195 _ ?side1 ?side2 A50.out).mono ?_); (case side1 => repeat (first | exact b1_ | (with_reducible refine Kd.C_alloc ?_ _) | (with_reducible refine Kd.C_drewN ?_ _) | (with_reducible refine Kd.C_drew ?_))); (case side2 => exact HC194_0.out); rintro e w60 ⟨v196, rfl, ho0, hb⟩; refine ⟨_, rfl, ?_⟩; replace HO_4 := am (Kd.N_elder' b7_ (Kd.R_base ho0) hb); replace HO_5 := am (Kd.S_below b5_ hb); replace HO_194001 := am (Kd.R_below (rq HO_194001.out) hb); replace HL194_0 := am (Kd.V_elder' (vq HL194_0.out) (Kd.R_base ho0) hb); have HO197 := am (Kd.R_lower ho0 (below_size (bel1 GE193.out))); replace BK193 := am (blk_below (bq BK193.out) hb); replace HR194_0 := am (Kd.C_below b1_ hb); replace HB := am (below_step (bel1 GE193.out) hb); clear hb; (try clear ho0); obtain ⟨Ao61, co61, eo61⟩ := Kd.R_slice HO197.out; subst eo61))
        go_roundg k2
        case measure => have := HK1.out; have := HK2.out; omega
        case rel => exact ⟨((x8_2 + 1) % 256), (x194001_2), (u194001), sq, H', ⟨b37_⟩, ⟨b29_⟩, ⟨b5_⟩, ⟨rq HO_194001.out⟩, ⟨bq BK193.out⟩, ⟨bel1 GE193.out⟩⟩
       rw [if_neg c47] at H; have c47b0 := decide_eq_false c47; clear c47
       replace H := ip H; obtain ⟨c62, H⟩ := H; have LMc62 := Aside0.mk c62; clear c62; obtain ⟨y202, hy202⟩ : ∃ y_ : List (S45), y_ = (x5_1 ++ [(⟨false, x194001_2⟩ : S45)]) := ⟨_, rfl⟩
       replace H : (spec_MachineOf.l0 k2 t178 y202 (wrap64 (x6_1 + 1))) = some (r1, r2) := b16_
       have Ny202 := am hy202; clear hy202
       have H' := am H
       clear H; have ⟨hcz63_0, hcz63_1, hfz63_0, hfz63_1⟩ := b2c BK193.out; obtain ⟨Ao65, co65, eo65⟩ := Kd.R_slice HO_194001.out; subst eo65
       go_wp2_with (first | ((with_reducible refine gate_builtin (b := .append) (xs := #[.tmp 68, .tmp 70]) rfl ?_); at_builtin; refine Kd.S_append k45 (w0 := w) w.heap.size rfl (.tmp 68) (.tmp 70) 24 45 (.agg #[(.bool false), (.slice none 0 0)]) 32 rfl Try.underlying24 info45 rfl (by decide) (by omega) u5 x5_1 (⟨false, x194001_2⟩ : S45) [.bool false, .slice Ao65 x194001_2.length co65] (fun k_ => k_ ≠ gb193) (fun k_ => some k_ = (.slice Ao65 x194001_2.length co65 : Value).ownBlock) rfl rfl ?aP (fun k_ hk_ => ((Kd.R_mono (ok' := fun k_ => ((fun k_ => k_ ≠ gb193)) k_ ∧ some k_ ≠ (u5 : Value).ownBlock) (Kd.R_types (Kd.R_apart' (HO_194001.out) (Kd.S_typed HO_5.out) (by decide)) BK193.out (by decide)) (fun k_ hk => ⟨hk.2, hk.1.2⟩))).1 k_ hk_.symm) ?aF ?aO ?aB ?aS ?aL ?_; (case aP => exact k45_mkM _ _ _ (⟨false, x194001_2⟩ : S45) (Kd.R_mono (Kd.R_tight rfl (Kd.R_mono (ok' := fun k_ => ((fun k_ => k_ ≠ gb193)) k_ ∧ some k_ ≠ (u5 : Value).ownBlock) (Kd.R_types (Kd.R_apart' (HO_194001.out) (Kd.S_typed HO_5.out) (by decide)) BK193.out (by decide)) (fun k_ hk => ⟨hk.2, hk.1.2⟩))) (fun _ h_ => h_))); (case aB => exact (bel1 GE193.out)); (case aF => exact (fun k_ hk => Kd.freshB (g := gb193) (o := .cells #[.bool false, .slice Ao65 x194001_2.length co65] 45 (0, 0)) (bq BK193.out) k_ hk)); (case aO => exact b30_); (case aS => exact (below_size (bel1 GE193.out))); (case aL => have := LMc62.out; omega); intro v203 w64 ho hb hg hat; rw [← Ny202.out] at ho; replace HO_4 := am (Kd.N_afterv (ok := (fun k_ => some k_ ≠ (.slice Ao65 x194001_2.length co65 : Value).ownBlock ∧ k_ ≠ gb193)) b34_ hg hat); replace BK193 := am (blk_grown (g := gb193) (o := .cells #[.bool false, .slice Ao65 x194001_2.length co65] 45 (0, 0)) (bq BK193.out) hg (Kd.S_away HO_5.out (fun _ hk => hk.2))); replace HB := am (hb); have HO204 := am (ho); clear HO_5 HO_194001; clear ho hb hg hat))
       go_roundg k2
       case measure => have := HK1.out; have := HK2.out; omega
       case rel => exact ⟨(y202), (wrap64 (x6_1 + 1)), sq, H', ⟨b37_⟩, ⟨b39_⟩, ⟨b38_⟩, ⟨bel1 GE193.out⟩⟩
    rw [if_neg c14] at H; have c14b0 := decide_eq_false c14; clear c14; simp only [Option.some.injEq, Prod.mk.injEq] at H
    obtain ⟨rfl, rfl⟩ := H; go_wp2
    go_ret2
    exact ⟨_, eq_, b5_, bel⟩
 replace c3 := Bool.eq_false_iff.mpr c3; subst c3
 rw [if_neg Bool.false_ne_true] at H
 obtain ⟨y209, hy209⟩ : ∃ y_ : List (S45), y_ = (([] : List (S45))) := ⟨_, rfl⟩
 replace H : (some (y209, false)) = some (r1, r2) := by first | (rw [hy209]; with_reducible exact H) | (have H2_ := bm H; rw [hy209]; with_reducible exact H2_) | (with_reducible exact bm H) | with_reducible exact H | (rw [hy209]; exact H) | exact H
 have Ny209 := am hy209; clear hy209
 simp only [Option.some.injEq, Prod.mk.injEq] at H
 obtain ⟨rfl, rfl⟩ := H; go_enter Try.func7, Try.ntmps7
 go_wp2_with (first | ((with_reducible refine gate_callee (f := 22) rfl ?_); refine gl 11 Try.func22 #[.slice A0 l0.length c0] ?_; (with_reducible refine (spec_l3Words.calls k _ _ l0 false _ ?side1 ?side2 A2.out).mono ?_); (case side1 => repeat (first | exact HR0.out | (with_reducible refine Kd.C_alloc ?_ _) | (with_reducible refine Kd.C_drewN ?_ _) | (with_reducible refine Kd.C_drew ?_))); (case side2 => exact HC0.out); rintro e w' ⟨rfl, ⟨nd, rfl⟩⟩; refine ⟨_, rfl, ?_⟩) | ((with_reducible refine gate_dst (N := 13) rfl ?_); refine Kd.S_lit k45 _ 45 ?hg (N := 13) ?hd (xs := ([] : List (S45))) (inner := []) (ok := fun _ => True) (okp := fun _ => True) ?hr ?hp (fun _ hk => hk) trivial (Below.refl _ _) (Nat.le_refl _) (by simp) ?_; (case hd => rfl); (case hg => rfl); (case hr => first | (go_simp; done) | (go_simp; rfl)); (case hp => exact (Reps.none _ _)); intro v210 w66 ho67 hb hg_ hnew_; clear hg_ hnew_; (first | rw [← Ny209.out] at ho67 | (simp only [Int.reduceToNat] at ho67; rw [← Ny209.out] at ho67) | (simp only [Int.toNat_natCast] at ho67; rw [← Ny209.out] at ho67)); have HO211 := am (Kd.S_lower ho67 (below_size bel)); replace HB := am (below_step bel hb); clear hb ho67))
 go_ret2
 exact ⟨_, eq_, by (with_reducible repeat (first | apply Kd.S_alloc | apply Kd.S_drewN | apply Kd.S_drew)); exact HO211.out, bel⟩
-- shrunk

/-! ### laws_toStringS: function 8 -/
def laws_toStringS.l0 : Nat → List ByteArray → List ByteArray → Int → Option (List ByteArray)
 | 0, _, _, _ => none
 | k + 1, x0, x3, x4 => if x4 < (x0.length : Int) then (if 0 ≤ x4 then (if x4 < (x3.length : Int) then (laws_toStringS.l0 k x0 (x3.set (x4 : Int).toNat (rdOf ByteArray.empty x0 x4)) (wrap64 (x4 + 1))) else (none)) else (none)) else (some x3)
def laws_toStringS.f (k : Nat) (l0 : List ByteArray) : Option (List ByteArray) := if 0 ≤ (l0.length : Int) then (if l0.length ≤ 17592186044416 then (laws_toStringS.l0 k l0 (List.replicate l0.length (⟨#[]⟩ : ByteArray)) 0) else (none)) else (none)
theorem laws_toStringS.calls (k : Nat) (A0 : Option Addr) (c0 : Nat) (l0 : List ByteArray) (r : List ByteArray) (w : World) (hr0 : Kd.C Kd.string w A0 l0.length l0) (hc0 : l0.length ≤ c0) (h : laws_toStringS.f k l0 = some r) :
  Calls Try.prog 8 #[.slice A0 l0.length c0] w fun e w' => ∃ v0_ : Value, e = .returned (v0_) ∧ Kd.R Kd.string 9 w' w.heap.size (fun _ => True) v0_ r ∧ Below w.heap.size w w' := by
 have HR0 := am hr0; have HC0 := am hc0; clear hr0 hc0; have HB := am (Below.refl w.heap.size w)
 have H : (if 0 ≤ (l0.length : Int) then (if l0.length ≤ 17592186044416 then (laws_toStringS.l0 k l0 (List.replicate l0.length (⟨#[]⟩ : ByteArray)) 0) else (none)) else (none)) = some r := h
 clear h
 replace H := ip H; obtain ⟨c2, H⟩ := H; have c2b0 := eq_true c2
 have c2b1 : decide (0 ≤ (l0.length : Int)) = true := decide_eq_true c2
 clear c2
 replace H := ip H; obtain ⟨c3, H⟩ := H; have c3b0 := eq_true c3
 have c3b1 : decide (l0.length ≤ 17592186044416) = true := decide_eq_true c3
 clear c3; obtain ⟨y212, hy212⟩ : ∃ y_ : List ByteArray, y_ = (List.replicate l0.length (⟨#[]⟩ : ByteArray)) := ⟨_, rfl⟩
 replace H : (laws_toStringS.l0 k l0 y212 0) = some r := by first | (rw [hy212]; with_reducible exact H) | (have H2_ := bm H; rw [hy212]; with_reducible exact H2_) | (with_reducible exact bm H) | with_reducible exact H | (rw [hy212]; exact H) | exact H
 have Ny212 := am hy212; clear hy212
 have H' := am H
 clear H; go_enter Try.func8, Try.ntmps8
 go_wp2_with (first | ((with_reducible refine gate_dst (N := 7) rfl ?_); refine Kd.R_make Kd.string _ 9 rfl (N := 7) rfl 22 _ _ rfl (l0.length : Int) rfl rfl Try.underlying22 (.string ⟨#[]⟩) 16 info9 rfl (by decide) (by omega) (⟨#[]⟩ : ByteArray) (ok := fun _ => True) (okp := fun _ => True) rfl (fun _ hk => hk) trivial (of_decide_eq_true ad) (Nat.le_trans (Nat.mul_le_mul_right _ (of_decide_eq_true ad : (l0.length : Int).toNat ≤ 17592186044416)) (by omega)) (Below.refl _ _) (Nat.le_refl _) ?_; intro v213 w4 ho5 hb hg_ hnew_; clear hg_ hnew_; (first | rw [← Ny212.out] at ho5 | (simp only [Int.reduceToNat] at ho5; rw [← Ny212.out] at ho5) | (simp only [Int.toNat_natCast] at ho5; rw [← Ny212.out] at ho5)); have HO214 := am (Kd.R_lower ho5 (below_size bel)); replace HB := am (below_step bel hb); clear hb ho5))
 go_loopg [4] k (fun kq v4 w' => ∃ (x3_1 : List ByteArray) (x4_1 : Int), v4 = .int .i64 x4_1 ∧ Aside0 (laws_toStringS.l0 kq l0 x3_1 x4_1 = some r) ∧ Aside0 (kq ≤ k) ∧ Aside0 (Kd.R Kd.string 9 w' w.heap.size (fun _ => True) v213 x3_1) ∧ Aside0 (Below w.heap.size w w'))
 case atStart => exact ⟨(y212), (0), sq, H', ⟨Nat.le_refl _⟩, ⟨rq HO214.out⟩, ⟨bel⟩⟩
 case round =>
  clear H'; (try clear c2); (try clear c2b0); (try clear c2b1); (try clear p2); (try clear c3); (try clear c3b0); (try clear c3b1); obtain ⟨x3_1, x4_1, rfl, HA, HK1, HO_3, HB⟩ := hrel
  cases gk with
  | zero => exact absurd HA.out (by simp [laws_toStringS.l0])
  | succ k1 =>
   have H := HA.out; clear HA; simp only [laws_toStringS.l0] at H
   by_cases c6 : x4_1 < (l0.length : Int)
   ·rw [if_pos c6] at H; have c6b0 := decide_eq_true c6; clear c6
    replace H := it H; obtain ⟨c7b0, H⟩ := H
    replace H := it H; obtain ⟨c8b0, H⟩ := H; obtain ⟨y216, hy216⟩ : ∃ y_ : List ByteArray, y_ = (x3_1.set (x4_1 : Int).toNat (rdOf ByteArray.empty l0 x4_1)) := ⟨_, rfl⟩
    replace H : (laws_toStringS.l0 k1 l0 y216 (wrap64 (x4_1 + 1))) = some r := by first | (rw [hy216]; with_reducible exact H) | (have H2_ := bm H; rw [hy216]; with_reducible exact H2_) | (with_reducible exact bm H) | with_reducible exact H | (rw [hy216]; exact H) | exact H
    have Ny216 := am hy216; clear hy216
    have H' := am H
    clear H
    have p215 : 0 ≤ (x4_1 : Int) := of_decide_eq_true ad
    have q215 : x4_1 < (l0.length : Int) := of_decide_eq_true ad
    obtain ⟨ad215, e215, hx215_0⟩ := Kd.at_string HR0.out x4_1 p215 q215; cases e215; replace hx215_0 := kp HB.out hx215_0; replace p215 := eq_true p215; replace q215 := eq_true q215
    have p9 : 0 ≤ (x4_1 : Int) := of_decide_eq_true ad
    have q9 : (x4_1 : Int) < ((x3_1.length : Int) : Int) := of_decide_eq_true ad
    obtain ⟨go9, co9, eo9, gb9, gl9, cl9, HG9⟩ := Kd.R_form HO_3.out (by omega)
    (first | cases eo9 | (injection eo9 with ea_ en_ ec_; (first | subst ea_ | (injection ea_ with ea_; subst ea_)); subst ec_; clear en_))
    have GB9 := Aside0.mk gb9; have GG9 := am HG9; clear gb9 gl9 HG9; obtain ⟨hx9_0, hf9_0⟩ := Kd.R_celln (⟨#[]⟩ : ByteArray) HO_3.out (x4_1 : Int) p9 q9; replace p9 := eq_true p9; replace q9 := eq_true q9; have HP10 := Kd.R_putg HO_3.out (x4_1 : Int) (rdOf ByteArray.empty l0 x4_1)
    go_wp2_with (first | ((with_reducible refine gate_store (t := 9) (p := 20) rfl ?_); refine store_event (t := 9) (p := 20) (v := ?vo_w11) (w1 := (wr.setCell ⟨go9, (x4_1 : Int).toNat, none⟩ (.string (rdOf ByteArray.empty l0 x4_1)))) ?hg ?ho ?hn ?hr ?_; (case ho => rfl); (case hg => rfl); (case hn => rfl); (case hr => first | (go_simp; done) | (go_simp; rfl)); intro w11 hw; have hg : wr.grownBy w11 (some go9) := (by rw [hw]; exact HP10.2); have hp_ : Kd.R Kd.string 9 w11 w.heap.size (fun _ => True) (.slice (some ⟨go9, 0, none⟩) x3_1.length co9) y216 := (by rw [hw, Ny216.out]; exact HP10.1); clear HP10; replace HO_3 := am (hp_); replace HB := am ((by rw [hw]; exact below_set (HB.out) GB9.out : Below w.heap.size w w11)); clear hg hw hp_))
    go_roundg k1
    case measure => have := HK1.out; omega
    case rel => exact ⟨(y216), (wrap64 (x4_1 + 1)), sq, H', ⟨b11_⟩, ⟨rq HO_3.out⟩, ⟨bel⟩⟩
   rw [if_neg c6] at H; have c6b0 := decide_eq_false c6; clear c6; obtain rfl := Option.some.inj H; go_wp2; go_ret
   exact ⟨_, eq_, by (with_reducible repeat (first | apply Kd.R_alloc | apply Kd.R_drewN | apply Kd.R_drew)); exact HO_3.out, bel⟩

/-! ### impl_within: function 47 -/
def impl_within.f (a0 : Int) (a1 : Int) (a2 : Int) : Option (Bool) := if a0 ≥ a1 then (some (decide (a0 ≤ a2))) else (some false)
theorem impl_within.calls (a0 : Int) (a1 : Int) (a2 : Int) (r : Bool) (w : World) (h : impl_within.f a0 a1 a2 = some r) :
  Calls Try.prog 47 #[.int .i64 a0, .int .i64 a1, .int .i64 a2] w fun e w' => e = .returned (.bool r) ∧ Drawn0 w w' := by
 have H : (if a0 ≥ a1 then (some (decide (a0 ≤ a2))) else (some false)) = some r := h
 clear h
 by_cases c4 : a0 ≥ a1
 ·rw [if_pos c4] at H; have c4b0 := decide_eq_true c4; clear c4; obtain rfl := Option.some.inj H; go_enter Try.func47, Try.ntmps47; go_wp2; go_ret
  exact ⟨sq, dr⟩
 rw [if_neg c4] at H; have c4b0 := decide_eq_false c4; clear c4; obtain rfl := Option.some.inj H; go_enter Try.func47, Try.ntmps47; go_wp2; go_ret
 exact ⟨sq, dr⟩

/-! ### impl_lower: function 65 -/
def impl_lower.l0 : Nat → ByteArray → Int → Int → Option (Bool)
 | 0, _, _, _ => none
 | k + 1, x0, x5, x6 => if x6 < x5 then (if 0 ≤ x6 then (if x6 < (x0.size : Int) then (if (bt x0 x6) < 97 then (some false) else (if (bt x0 x6) > 122 then (some false) else (impl_lower.l0 k x0 x5 (wrap64 (x6 + 1))))) else (none)) else (none)) else (some true)
def impl_lower.f (k : Nat) (a0 : ByteArray) : Option (Bool) := impl_lower.l0 k a0 (a0.size : Int) 0
theorem impl_lower.calls (k : Nat) (a0 : ByteArray) (r : Bool) (w : World) (h : impl_lower.f k a0 = some r) :
  Calls Try.prog 65 #[.string a0] w fun e w' => e = .returned (.bool r) ∧ Drawn0 w w' := by
 have H : (impl_lower.l0 k a0 (a0.size : Int) 0) = some r := h
 clear h
 have H' := am H
 clear H; go_enter Try.func65, Try.ntmps65; go_wp2
 go_loopg [6] k (fun kq v6 w' => ∃ (x6_1 : Int), v6 = .int .i64 x6_1 ∧ Aside0 (impl_lower.l0 kq a0 (a0.size : Int) x6_1 = some r) ∧ Aside0 (kq ≤ k) ∧ Drawn0 w w')
 case atStart => exact ⟨(0), sq, H', ⟨Nat.le_refl _⟩, dr⟩
 case round =>
  clear H'; obtain ⟨x6_1, rfl, HA, HK1, ⟨m1, rfl⟩⟩ := hrel
  cases gk with
  | zero => exact absurd HA.out (by simp [impl_lower.l0])
  | succ k1 =>
   have H := HA.out; clear HA; simp only [impl_lower.l0] at H
   by_cases c2 : x6_1 < (a0.size : Int)
   ·rw [if_pos c2] at H; have c2b0 := decide_eq_true c2; clear c2
    replace H := it H; obtain ⟨c3b0, H⟩ := H; replace H := it H; obtain ⟨c4b0, H⟩ := H
    by_cases c6 : (bt a0 x6_1) < 97
    ·rw [if_pos c6] at H; have c6b0 := decide_eq_true c6; clear c6; obtain rfl := Option.some.inj H
     have p5 : 0 ≤ (x6_1 : Int) := of_decide_eq_true ad
     have q5 : x6_1 < (a0.size : Int) := of_decide_eq_true ad
     have hx5 := bt_at a0 x6_1; replace p5 := eq_true p5; replace q5 := eq_true q5; go_wp2; go_ret
     exact ⟨sq, dr⟩
    rw [if_neg c6] at H; have c6b0 := decide_eq_false c6; clear c6
    by_cases c8 : (bt a0 x6_1) > 122
    ·rw [if_pos c8] at H; have c8b0 := decide_eq_true c8; clear c8; obtain rfl := Option.some.inj H
     have p5 : 0 ≤ (x6_1 : Int) := of_decide_eq_true ad
     have q5 : x6_1 < (a0.size : Int) := of_decide_eq_true ad
     have hx5 := bt_at a0 x6_1; replace p5 := eq_true p5; replace q5 := eq_true q5
     have p7 : 0 ≤ (x6_1 : Int) := of_decide_eq_true ad
     have q7 : x6_1 < (a0.size : Int) := of_decide_eq_true ad
     have hx7 := bt_at a0 x6_1; replace p7 := eq_true p7; replace q7 := eq_true q7; go_wp2; go_ret
     exact ⟨sq, dr⟩
    rw [if_neg c8] at H; have c8b0 := decide_eq_false c8; clear c8
    have H' := am H
    clear H
    have p5 : 0 ≤ (x6_1 : Int) := of_decide_eq_true ad
    have q5 : x6_1 < (a0.size : Int) := of_decide_eq_true ad
    have hx5 := bt_at a0 x6_1; replace p5 := eq_true p5; replace q5 := eq_true q5
    have p7 : 0 ≤ (x6_1 : Int) := of_decide_eq_true ad
    have q7 : x6_1 < (a0.size : Int) := of_decide_eq_true ad
    have hx7 := bt_at a0 x6_1; replace p7 := eq_true p7; replace q7 := eq_true q7; go_wp2
    go_roundg k1
    case measure => have := HK1.out; omega
    case rel => exact ⟨(wrap64 (x6_1 + 1)), sq, H', ⟨b11_⟩, dr⟩
   rw [if_neg c2] at H; have c2b0 := decide_eq_false c2; clear c2; obtain rfl := Option.some.inj H; go_wp2; go_ret
   exact ⟨sq, dr⟩

/-! ### impl_WordOk: function 51 -/
def impl_WordOk.f (k : Nat) (a0 : ByteArray) : Option (Bool) := (impl_within.f (a0.size : Int) 1 12).bind fun t217 => (if t217 = true then ((impl_lower.f k a0).bind fun t218 => (some t218)) else (some false))
theorem impl_WordOk.calls (k : Nat) (a0 : ByteArray) (r : Bool) (w : World) (h : impl_WordOk.f k a0 = some r) :
  Calls Try.prog 51 #[.string a0] w fun e w' => e = .returned (.bool r) ∧ Drawn0 w w' := by
 have H : ((impl_within.f (a0.size : Int) 1 12).bind fun t217 => (if t217 = true then ((impl_lower.f k a0).bind fun t218 => (some t218)) else (some false))) = some r := h
 clear h; replace H := bs H; obtain ⟨t217, A20, H⟩ := H; (try dsimp only at H); have A2 := Aside0.mk A20; clear A20
 by_cases c3 : t217 = true
 ·subst c3
  rw [if_pos rfl] at H
  replace H := bs H; obtain ⟨t218, A40, H⟩ := H; (try dsimp only at H); have A4 := Aside0.mk A40; clear A40; obtain rfl := Option.some.inj H; go_enter Try.func51, Try.ntmps51
  go_wp2_with (first | ((with_reducible refine gate_callee (f := 47) rfl ?_); refine gl 5 Try.func47 #[.int .i64 (a0.size : Int), .int .i64 1, .int .i64 12] ?_; (with_reducible refine (impl_within.calls (a0.size : Int) 1 12 true _ A2.out).mono ?_); rintro e w' ⟨rfl, ⟨nd, rfl⟩⟩; refine ⟨_, rfl, ?_⟩) | (go_at_call 65; (with_reducible refine (impl_lower.calls k a0 t218 _ A4.out).mono ?_); rintro e w' ⟨rfl, ⟨nd, rfl⟩⟩))
  go_ret
  exact ⟨sq, dr⟩
 replace c3 := Bool.eq_false_iff.mpr c3; subst c3
 rw [if_neg Bool.false_ne_true] at H
 obtain rfl := Option.some.inj H; go_enter Try.func51, Try.ntmps51
 go_wp2_with (first | ((with_reducible refine gate_callee (f := 47) rfl ?_); refine gl 5 Try.func47 #[.int .i64 (a0.size : Int), .int .i64 1, .int .i64 12] ?_; (with_reducible refine (impl_within.calls (a0.size : Int) 1 12 false _ A2.out).mono ?_); rintro e w' ⟨rfl, ⟨nd, rfl⟩⟩; refine ⟨_, rfl, ?_⟩))
 go_ret
 exact ⟨sq, dr⟩

/-! ### impl_wordsOk: function 26 -/
def impl_wordsOk.l0 : Nat → List ByteArray → Int → List ByteArray → Int → Int → Option (Bool)
 | 0, _, _, _, _, _ => none
 | k + 1, x0, x1, x7, x8, x9 => if x9 < x8 then (if 0 ≤ x9 then (if x9 < (x7.length : Int) then ((impl_WordOk.f k (rdOf ByteArray.empty x7 x9)).bind fun t220 => (if t220 = true then (if x9 > 0 then (if 0 ≤ (wrap64 (x9 - 1)) then (if (wrap64 (x9 - 1)) < (x0.length : Int) then (if ((Op.bytesLess ((rdOf ByteArray.empty x0 (wrap64 (x9 - 1))).toList) ((rdOf ByteArray.empty x7 x9).toList)) = true) then (impl_wordsOk.l0 k x0 x1 x7 x8 (wrap64 (x9 + 1))) else (some false)) else (none)) else (none)) else (impl_wordsOk.l0 k x0 x1 x7 x8 (wrap64 (x9 + 1)))) else (some false))) else (none)) else (none)) else (some (decide ((x0.length : Int) ≤ x1)))
def impl_wordsOk.f (k : Nat) (l0 : List ByteArray) (a1 : Int) : Option (Bool) := impl_wordsOk.l0 k l0 a1 l0 (l0.length : Int) 0
theorem impl_wordsOk.calls (k : Nat) (A0 : Option Addr) (c0 : Nat) (l0 : List ByteArray) (a1 : Int) (r : Bool) (w : World) (hr0 : Kd.C Kd.string w A0 l0.length l0) (hc0 : l0.length ≤ c0) (h : impl_wordsOk.f k l0 a1 = some r) :
  Calls Try.prog 26 #[.slice A0 l0.length c0, .int .i64 a1] w fun e w' => e = .returned (.bool r) ∧ Drawn0 w w' := by
 have HR0 := am hr0; have HC0 := am hc0; clear hr0 hc0
 have H : (impl_wordsOk.l0 k l0 a1 l0 (l0.length : Int) 0) = some r := h
 clear h
 have H' := am H
 clear H; go_enter Try.func26, Try.ntmps26; go_wp2
 go_loopg [9] k (fun kq v9 w' => ∃ (x9_1 : Int), v9 = .int .i64 x9_1 ∧ Aside0 (impl_wordsOk.l0 kq l0 a1 l0 (l0.length : Int) x9_1 = some r) ∧ Aside0 (kq ≤ k) ∧ Drawn0 w w')
 case atStart => exact ⟨(0), sq, H', ⟨Nat.le_refl _⟩, dr⟩
 case round =>
  clear H'; (try clear c2); (try clear p2); obtain ⟨x9_1, rfl, HA, HK1, ⟨m1, rfl⟩⟩ := hrel
  cases gk with
  | zero => exact absurd HA.out (by simp [impl_wordsOk.l0])
  | succ k1 =>
   have H := HA.out; clear HA; simp only [impl_wordsOk.l0] at H
   by_cases c3 : x9_1 < (l0.length : Int)
   ·rw [if_pos c3] at H; have c3b0 := decide_eq_true c3; clear c3
    replace H := it H; obtain ⟨c4b0, H⟩ := H
    replace H := it H; obtain ⟨c5b0, H⟩ := H; replace H := bs H; obtain ⟨t220, A60, H⟩ := H; (try dsimp only at H); have A6 := Aside0.mk A60; clear A60
    by_cases c7 : t220 = true
    ·subst c7
     rw [if_pos rfl] at H
     by_cases c8 : x9_1 > 0
     ·rw [if_pos c8] at H; have c8b0 := decide_eq_true c8; clear c8; obtain ⟨ji9, hji9⟩ : ∃ j_ : Int, (wrap64 (x9_1 - 1)) = j_ := ⟨_, rfl⟩
      replace H : (if 0 ≤ (ji9) then (if (ji9) < (l0.length : Int) then (if ((Op.bytesLess ((rdOf ByteArray.empty l0 (ji9)).toList) ((rdOf ByteArray.empty l0 x9_1).toList)) = true) then (impl_wordsOk.l0 k1 l0 a1 l0 (l0.length : Int) (wrap64 (x9_1 + 1))) else (some false)) else (none)) else (none)) = some r := by first | (rw [hji9] at H; exact H) | (simp only [hji9] at H ⊢; exact H)
      (try rw [hji9] at A6)
      have hji9w : (IntKind.i64.wrap (x9_1 - 1)) = ji9 := (i64_w _).trans hji9
      replace H := it H; obtain ⟨c10b0, H⟩ := H; replace H := it H; obtain ⟨c11b0, H⟩ := H
      by_cases c12 : ((Op.bytesLess ((rdOf ByteArray.empty l0 (ji9)).toList) ((rdOf ByteArray.empty l0 x9_1).toList)) = true)
      ·rw [if_pos c12] at H
       have c12b0 : (Op.bytesLess ((rdOf ByteArray.empty l0 (ji9)).toList) ((rdOf ByteArray.empty l0 x9_1).toList)) = true := c12
       clear c12
       have H' := am H
       clear H
       have p219 : 0 ≤ (x9_1 : Int) := of_decide_eq_true ad
       have q219 : x9_1 < (l0.length : Int) := of_decide_eq_true ad
       obtain ⟨ad219, e219, hx219_0⟩ := Kd.at_string HR0.out x9_1 p219 q219; cases e219; replace p219 := eq_true p219; replace q219 := eq_true q219
       go_wp2_with (first | ((with_reducible refine gate_callee (f := 51) rfl ?_); refine gl 15 Try.func51 #[.string (rdOf ByteArray.empty l0 x9_1)] ?_; (with_reducible refine (impl_WordOk.calls k1 (rdOf ByteArray.empty l0 x9_1) true _ A6.out).mono ?_); rintro e w' ⟨rfl, ⟨nd, rfl⟩⟩; refine ⟨_, rfl, ?_⟩; have p221 : 0 ≤ ((ji9) : Int) := of_decide_eq_true ad; have q221 : (ji9) < (l0.length : Int) := of_decide_eq_true ad; obtain ⟨ad221, e221, hx221_0⟩ := Kd.at_string HR0.out (ji9) p221 q221; obtain rfl : ad219 = ad221 := (by injection e221); replace p221 := eq_true p221; replace q221 := eq_true q221))
       go_roundg k1
       case measure => have := HK1.out; omega
       case rel => exact ⟨(wrap64 (x9_1 + 1)), sq, H', ⟨b11_⟩, dr⟩
      rw [if_neg c12] at H
      have c12b0 : (Op.bytesLess ((rdOf ByteArray.empty l0 (ji9)).toList) ((rdOf ByteArray.empty l0 x9_1).toList)) = false := by simpa using c12
      clear c12; obtain rfl := Option.some.inj H
      have p219 : 0 ≤ (x9_1 : Int) := of_decide_eq_true ad
      have q219 : x9_1 < (l0.length : Int) := of_decide_eq_true ad
      obtain ⟨ad219, e219, hx219_0⟩ := Kd.at_string HR0.out x9_1 p219 q219; cases e219; replace p219 := eq_true p219; replace q219 := eq_true q219
      go_wp2_with (first | ((with_reducible refine gate_callee (f := 51) rfl ?_); refine gl 15 Try.func51 #[.string (rdOf ByteArray.empty l0 x9_1)] ?_; (with_reducible refine (impl_WordOk.calls k1 (rdOf ByteArray.empty l0 x9_1) true _ A6.out).mono ?_); rintro e w' ⟨rfl, ⟨nd, rfl⟩⟩; refine ⟨_, rfl, ?_⟩; have p221 : 0 ≤ ((ji9) : Int) := of_decide_eq_true ad; have q221 : (ji9) < (l0.length : Int) := of_decide_eq_true ad; obtain ⟨ad221, e221, hx221_0⟩ := Kd.at_string HR0.out (ji9) p221 q221; obtain rfl : ad219 = ad221 := (by injection e221); replace p221 := eq_true p221; replace q221 := eq_true q221))
      go_ret
      exact ⟨by first | rfl | (simp; done) | (simp only [← hji9] <;> (first | rfl | simp)) | (simp [*]; done), dr⟩
     rw [if_neg c8] at H; have c8b0 := decide_eq_false c8; clear c8
     have H' := am H
     clear H
     have p219 : 0 ≤ (x9_1 : Int) := of_decide_eq_true ad
     have q219 : x9_1 < (l0.length : Int) := of_decide_eq_true ad
     obtain ⟨ad219, e219, hx219_0⟩ := Kd.at_string HR0.out x9_1 p219 q219; cases e219; replace p219 := eq_true p219; replace q219 := eq_true q219
     go_wp2_with (first | ((with_reducible refine gate_callee (f := 51) rfl ?_); refine gl 15 Try.func51 #[.string (rdOf ByteArray.empty l0 x9_1)] ?_; (with_reducible refine (impl_WordOk.calls k1 (rdOf ByteArray.empty l0 x9_1) true _ A6.out).mono ?_); rintro e w' ⟨rfl, ⟨nd, rfl⟩⟩; refine ⟨_, rfl, ?_⟩))
     go_roundg k1
     case measure => have := HK1.out; omega
     case rel => exact ⟨(wrap64 (x9_1 + 1)), sq, H', ⟨b11_⟩, dr⟩
    replace c7 := Bool.eq_false_iff.mpr c7; subst c7
    rw [if_neg Bool.false_ne_true] at H
    obtain rfl := Option.some.inj H
    have p219 : 0 ≤ (x9_1 : Int) := of_decide_eq_true ad
    have q219 : x9_1 < (l0.length : Int) := of_decide_eq_true ad
    obtain ⟨ad219, e219, hx219_0⟩ := Kd.at_string HR0.out x9_1 p219 q219; cases e219; replace p219 := eq_true p219; replace q219 := eq_true q219
    go_wp2_with (first | ((with_reducible refine gate_callee (f := 51) rfl ?_); refine gl 15 Try.func51 #[.string (rdOf ByteArray.empty l0 x9_1)] ?_; (with_reducible refine (impl_WordOk.calls k1 (rdOf ByteArray.empty l0 x9_1) false _ A6.out).mono ?_); rintro e w' ⟨rfl, ⟨nd, rfl⟩⟩; refine ⟨_, rfl, ?_⟩))
    go_ret
    exact ⟨sq, dr⟩
   rw [if_neg c3] at H; have c3b0 := decide_eq_false c3; clear c3; obtain rfl := Option.some.inj H; go_wp2; go_ret
   exact ⟨sq, dr⟩

/-! ### impl_firstLetters: function 30 -/
def impl_firstLetters.l0 : Nat → List Int → List ByteArray → Int → Int → Option (List Int)
 | 0, _, _, _, _ => none
 | k + 1, x3, x7, x8, x9 => if x9 < x8 then (if 0 ≤ x9 then (if x9 < (x7.length : Int) then (if (rdOf ByteArray.empty x7 x9).toList = ([] : List UInt8) then (impl_firstLetters.l0 k x3 x7 x8 (wrap64 (x9 + 1))) else (if (x3.length : Int) = 0 then (if 0 < ((rdOf ByteArray.empty x7 x9).size : Int) then (if x3.length < 140737488355328 then (impl_firstLetters.l0 k (x3 ++ [bt (rdOf ByteArray.empty x7 x9) 0]) x7 x8 (wrap64 (x9 + 1))) else (none)) else (none)) else (if 0 ≤ (wrap64 ((x3.length : Int) - 1)) then (if (wrap64 ((x3.length : Int) - 1)) < (x3.length : Int) then (if 0 < ((rdOf ByteArray.empty x7 x9).size : Int) then (if (rd x3 (wrap64 ((x3.length : Int) - 1))) = (bt (rdOf ByteArray.empty x7 x9) 0) then (impl_firstLetters.l0 k x3 x7 x8 (wrap64 (x9 + 1))) else (if x3.length < 140737488355328 then (impl_firstLetters.l0 k (x3 ++ [bt (rdOf ByteArray.empty x7 x9) 0]) x7 x8 (wrap64 (x9 + 1))) else (none))) else (none)) else (none)) else (none)))) else (none)) else (none)) else (some x3)
def impl_firstLetters.f (k : Nat) (l0 : List ByteArray) : Option (List Int) := impl_firstLetters.l0 k (([] : List Int)) l0 (l0.length : Int) 0
theorem impl_firstLetters.calls (k : Nat) (A0 : Option Addr) (c0 : Nat) (l0 : List ByteArray) (r : List Int) (w : World) (hr0 : Kd.C Kd.string w A0 l0.length l0) (hc0 : l0.length ≤ c0) (h : impl_firstLetters.f k l0 = some r) :
  Calls Try.prog 30 #[.slice A0 l0.length c0] w fun e w' => ∃ v0_ : Value, e = .returned (v0_) ∧ Kd.R (Kd.int .u8) 5 w' w.heap.size (fun _ => True) v0_ r ∧ Below w.heap.size w w' := by
 have HR0 := am hr0; have HC0 := am hc0; clear hr0 hc0; have HB := am (Below.refl w.heap.size w)
 have H : (impl_firstLetters.l0 k (([] : List Int)) l0 (l0.length : Int) 0) = some r := h
 clear h; obtain ⟨y222, hy222⟩ : ∃ y_ : List Int, y_ = (([] : List Int)) := ⟨_, rfl⟩
 replace H : (impl_firstLetters.l0 k y222 l0 (l0.length : Int) 0) = some r := by first | (rw [hy222]; with_reducible exact H) | (have H2_ := bm H; rw [hy222]; with_reducible exact H2_) | (with_reducible exact bm H) | with_reducible exact H | (rw [hy222]; exact H) | exact H
 have Ny222 := am hy222; clear hy222
 have H' := am H
 clear H; go_enter Try.func30, Try.ntmps30
 go_wp2_with (first | ((with_reducible refine gate_dst (N := 6) rfl ?_); (try (refine gate_guard (by rfl) ?_; dsimp only)); refine Kd.R_lit (Kd.int .u8) _ 5 ?hg (N := 6) ?hd (xs := ([] : List Int)) (inner := []) (ok := fun _ => True) (okp := fun _ => True) ?hr ?hp (fun _ hk => hk) trivial (Below.refl _ _) (Nat.le_refl _) (by simp) ?_; (case hd => rfl); (case hg => rfl); (case hr => first | (go_simp; done) | (go_simp; rfl)); (case hp => exact (Reps.none _ _)); intro v223 w2 ho3 hb hg_ hnew_; clear hg_ hnew_; (first | rw [← Ny222.out] at ho3 | (simp only [Int.reduceToNat] at ho3; rw [← Ny222.out] at ho3) | (simp only [Int.toNat_natCast] at ho3; rw [← Ny222.out] at ho3)); have HO224 := am (Kd.R_lower ho3 (below_size bel)); replace HB := am (below_step bel hb); clear hb ho3))
 repeat (go_quiet (first | ((with_reducible refine gate_dst (N := 6) rfl ?_); (try (refine gate_guard (by rfl) ?_; dsimp only)); refine Kd.R_lit (Kd.int .u8) _ 5 ?hg (N := 6) ?hd (xs := ([] : List Int)) (inner := []) (ok := fun _ => True) (okp := fun _ => True) ?hr ?hp (fun _ hk => hk) trivial (Below.refl _ _) (Nat.le_refl _) (by simp) ?_; (case hd => rfl); (case hg => rfl); (case hr => first | (go_simp; done) | (go_simp; rfl)); (case hp => exact (Reps.none _ _)); intro v223 w2 ho3 hb hg_ hnew_; clear hg_ hnew_; (first | rw [← Ny222.out] at ho3 | (simp only [Int.reduceToNat] at ho3; rw [← Ny222.out] at ho3) | (simp only [Int.toNat_natCast] at ho3; rw [← Ny222.out] at ho3)); have HO224 := am (Kd.R_lower ho3 (below_size bel)); replace HB := am (below_step bel hb); clear hb ho3)); try go_wp2_with (first | ((with_reducible refine gate_dst (N := 6) rfl ?_); (try (refine gate_guard (by rfl) ?_; dsimp only)); refine Kd.R_lit (Kd.int .u8) _ 5 ?hg (N := 6) ?hd (xs := ([] : List Int)) (inner := []) (ok := fun _ => True) (okp := fun _ => True) ?hr ?hp (fun _ hk => hk) trivial (Below.refl _ _) (Nat.le_refl _) (by simp) ?_; (case hd => rfl); (case hg => rfl); (case hr => first | (go_simp; done) | (go_simp; rfl)); (case hp => exact (Reps.none _ _)); intro v223 w2 ho3 hb hg_ hnew_; clear hg_ hnew_; (first | rw [← Ny222.out] at ho3 | (simp only [Int.reduceToNat] at ho3; rw [← Ny222.out] at ho3) | (simp only [Int.toNat_natCast] at ho3; rw [← Ny222.out] at ho3)); have HO224 := am (Kd.R_lower ho3 (below_size bel)); replace HB := am (below_step bel hb); clear hb ho3)))
 go_loopg [3, 9] k (fun kq v3 v9 w' => ∃ (x3_1 : List Int) (x9_1 : Int), v9 = .int .i64 x9_1 ∧ Aside0 (impl_firstLetters.l0 kq x3_1 l0 (l0.length : Int) x9_1 = some r) ∧ Aside0 (kq ≤ k) ∧ Aside0 (Kd.R (Kd.int .u8) 5 w' w.heap.size (fun _ => True) v3 x3_1) ∧ Aside0 (Below w.heap.size w w'))
 case atStart => exact ⟨(y222), (0), sq, H', ⟨Nat.le_refl _⟩, ⟨rq HO224.out⟩, ⟨bel⟩⟩
 case round =>
  clear H'; (try clear p2); (try clear c3); obtain ⟨x3_1, x9_1, rfl, HA, HK1, HO_3, HB⟩ := hrel
  cases gk with
  | zero => exact absurd HA.out (by simp [impl_firstLetters.l0])
  | succ k1 =>
   have H := HA.out; clear HA; simp only [impl_firstLetters.l0] at H
   by_cases c4 : x9_1 < (l0.length : Int)
   ·rw [if_pos c4] at H; have c4b0 := decide_eq_true c4; clear c4
    replace H := it H; obtain ⟨c5b0, H⟩ := H; replace H := it H; obtain ⟨c6b0, H⟩ := H
    by_cases c7 : (rdOf ByteArray.empty l0 x9_1).toList = ([] : List UInt8)
    ·rw [if_pos c7] at H
     have c7b0 : ((rdOf ByteArray.empty l0 x9_1).toList == ([] : List UInt8)) = true := beq_iff_eq.mpr c7
     have c7b1 : ((rdOf ByteArray.empty l0 x9_1).toList != ([] : List UInt8)) = false := bne_eq_false_iff_eq.mpr c7
     clear c7
     have H' := am H
     clear H
     have p225 : 0 ≤ (x9_1 : Int) := of_decide_eq_true ad
     have q225 : x9_1 < (l0.length : Int) := of_decide_eq_true ad
     obtain ⟨ad225, e225, hx225_0⟩ := Kd.at_string HR0.out x9_1 p225 q225; cases e225
     replace hx225_0 := kp HB.out hx225_0; replace p225 := eq_true p225; replace q225 := eq_true q225; go_wp2
     repeat (go_quiet (fail); try go_wp2)
     go_roundg k1
     case measure => have := HK1.out; omega
     case rel => exact ⟨(x3_1), (wrap64 (x9_1 + 1)), sq, H', ⟨b11_⟩, ⟨rq HO_3.out⟩, ⟨bel⟩⟩
    rw [if_neg c7] at H
    have c7b0 : ((rdOf ByteArray.empty l0 x9_1).toList == ([] : List UInt8)) = false := beq_eq_false_iff_ne.mpr c7
    have c7b1 : ((rdOf ByteArray.empty l0 x9_1).toList != ([] : List UInt8)) = true := bne_iff_ne.mpr c7
    by_cases c8 : (x3_1.length : Int) = 0
    ·rw [if_pos c8] at H
     have c8b0 : ((x3_1.length : Int) == 0) = true := beq_iff_eq.mpr c8
     have c8b1 : ((x3_1.length : Int) != 0) = false := bne_eq_false_iff_eq.mpr c8
     clear c8; replace H := ip H; obtain ⟨c9, H⟩ := H; have c9b0 := decide_eq_true c9
     have c9b1 : decide (0 < (rdOf ByteArray.empty l0 x9_1).size) = true := decide_eq_true (by omega)
     clear c9
     replace H := ip H; obtain ⟨c11, H⟩ := H; have LMc11 := Aside0.mk c11; clear c11; obtain ⟨y226, hy226⟩ : ∃ y_ : List Int, y_ = (x3_1 ++ [bt (rdOf ByteArray.empty l0 x9_1) 0]) := ⟨_, rfl⟩
     replace H : (impl_firstLetters.l0 k1 y226 l0 (l0.length : Int) (wrap64 (x9_1 + 1))) = some r := by first | (rw [hy226]; with_reducible exact H) | (have H2_ := bm H; rw [hy226]; with_reducible exact H2_) | (with_reducible exact bm H) | with_reducible exact H | (rw [hy226]; exact H) | exact H
     have Ny226 := am hy226; clear hy226
     have H' := am H
     clear H
     have p225 : 0 ≤ (x9_1 : Int) := of_decide_eq_true ad
     have q225 : x9_1 < (l0.length : Int) := of_decide_eq_true ad
     obtain ⟨ad225, e225, hx225_0⟩ := Kd.at_string HR0.out x9_1 p225 q225; cases e225; replace hx225_0 := kp HB.out hx225_0; replace p225 := eq_true p225; replace q225 := eq_true q225; obtain ⟨Ao12, co12, eo12⟩ := Kd.R_slice HO_3.out; subst eo12
     have p10 : 0 ≤ (0 : Int) := (by omega)
     have q10 : 0 < (rdOf ByteArray.empty l0 x9_1).size := b24_
     have hx10 : ∀ h : 0 < (rdOf ByteArray.empty l0 x9_1).size, (((rdOf ByteArray.empty l0 x9_1)[0]'h).toNat : Int) = bt (rdOf ByteArray.empty l0 x9_1) 0 := bt_at (rdOf ByteArray.empty l0 x9_1) 0
     clear p10
     have qi10 : (0 < ((rdOf ByteArray.empty l0 x9_1).size : Int)) = True := eq_true (of_decide_eq_true ad)
     replace q10 := eq_true q10
     go_wp2_with (first | ((with_reducible refine gate_builtin (b := .append) (xs := #[.tmp 31, .tmp 34]) rfl ?_); (try (refine gate_guard (by rfl) ?_; dsimp only)); at_builtin; refine Kd.R_append (Kd.int .u8) (w0 := w) w.heap.size rfl (.tmp 31) (.tmp 34) 32 5 (.int .u8 0) 1 rfl Try.underlying32 info5 rfl (by decide) (by omega) (.slice Ao12 x3_1.length co12) x3_1 (bt (rdOf ByteArray.empty l0 x9_1) 0) [.int .u8 (bt (rdOf ByteArray.empty l0 x9_1) 0)] (fun _ => True) (fun _ => False) rfl rfl ?aP (fun _ hk => hk.elim) ?aF ?aO ?aB ?aS ?aL ?_; (case aP => exact rfl); (case aB => exact bel); (case aF => exact (fun _ _ => trivial)); (case aO => exact (rq HO_3.out)); (case aS => exact (below_size bel)); (case aL => have := LMc11.out; omega); intro v227 w13 ho hb hg hat; rw [← Ny226.out] at ho; replace HB := am (hb); have HO228 := am (ho); clear HO_3; clear ho hb hg hat))
     repeat (go_quiet (first | ((with_reducible refine gate_builtin (b := .append) (xs := #[.tmp 31, .tmp 34]) rfl ?_); (try (refine gate_guard (by rfl) ?_; dsimp only)); at_builtin; refine Kd.R_append (Kd.int .u8) (w0 := w) w.heap.size rfl (.tmp 31) (.tmp 34) 32 5 (.int .u8 0) 1 rfl Try.underlying32 info5 rfl (by decide) (by omega) (.slice Ao12 x3_1.length co12) x3_1 (bt (rdOf ByteArray.empty l0 x9_1) 0) [.int .u8 (bt (rdOf ByteArray.empty l0 x9_1) 0)] (fun _ => True) (fun _ => False) rfl rfl ?aP (fun _ hk => hk.elim) ?aF ?aO ?aB ?aS ?aL ?_; (case aP => exact rfl); (case aB => exact bel); (case aF => exact (fun _ _ => trivial)); (case aO => exact (rq HO_3.out)); (case aS => exact (below_size bel)); (case aL => have := LMc11.out; omega); intro v227 w13 ho hb hg hat; rw [← Ny226.out] at ho; replace HB := am (hb); have HO228 := am (ho); clear HO_3; clear ho hb hg hat)); try go_wp2_with (first | ((with_reducible refine gate_builtin (b := .append) (xs := #[.tmp 31, .tmp 34]) rfl ?_); (try (refine gate_guard (by rfl) ?_; dsimp only)); at_builtin; refine Kd.R_append (Kd.int .u8) (w0 := w) w.heap.size rfl (.tmp 31) (.tmp 34) 32 5 (.int .u8 0) 1 rfl Try.underlying32 info5 rfl (by decide) (by omega) (.slice Ao12 x3_1.length co12) x3_1 (bt (rdOf ByteArray.empty l0 x9_1) 0) [.int .u8 (bt (rdOf ByteArray.empty l0 x9_1) 0)] (fun _ => True) (fun _ => False) rfl rfl ?aP (fun _ hk => hk.elim) ?aF ?aO ?aB ?aS ?aL ?_; (case aP => exact rfl); (case aB => exact bel); (case aF => exact (fun _ _ => trivial)); (case aO => exact (rq HO_3.out)); (case aS => exact (below_size bel)); (case aL => have := LMc11.out; omega); intro v227 w13 ho hb hg hat; rw [← Ny226.out] at ho; replace HB := am (hb); have HO228 := am (ho); clear HO_3; clear ho hb hg hat)))
     go_roundg k1
     case measure => have := HK1.out; omega
     case rel => exact ⟨(y226), (wrap64 (x9_1 + 1)), sq, H', ⟨b11_⟩, ⟨rq HO228.out⟩, ⟨bel⟩⟩
    rw [if_neg c8] at H
    have c8b0 : ((x3_1.length : Int) == 0) = false := beq_eq_false_iff_ne.mpr c8
    have c8b1 : ((x3_1.length : Int) != 0) = true := bne_iff_ne.mpr c8
    have c8b2 : ¬ (x3_1 = []) := fun h_ => c8 (by rw [h_]; rfl)
    obtain ⟨ji14, hji14⟩ : ∃ j_ : Int, (wrap64 ((x3_1.length : Int) - 1)) = j_ := ⟨_, rfl⟩
    replace H : (if 0 ≤ (ji14) then (if (ji14) < (x3_1.length : Int) then (if 0 < ((rdOf ByteArray.empty l0 x9_1).size : Int) then (if (rd x3_1 (ji14)) = (bt (rdOf ByteArray.empty l0 x9_1) 0) then (impl_firstLetters.l0 k1 x3_1 l0 (l0.length : Int) (wrap64 (x9_1 + 1))) else (if x3_1.length < 140737488355328 then (impl_firstLetters.l0 k1 (x3_1 ++ [bt (rdOf ByteArray.empty l0 x9_1) 0]) l0 (l0.length : Int) (wrap64 (x9_1 + 1))) else (none))) else (none)) else (none)) else (none)) = some r := by first | (rw [hji14] at H; exact H) | (simp only [hji14] at H ⊢; exact H)
    have hji14w : (IntKind.i64.wrap ((x3_1.length : Int) - 1)) = ji14 := (i64_w _).trans hji14
    replace H := it H; obtain ⟨c15b0, H⟩ := H; replace H := it H; obtain ⟨c16b0, H⟩ := H; replace H := ip H; obtain ⟨c17, H⟩ := H; have c17b0 := decide_eq_true c17
    have c17b1 : decide (0 < (rdOf ByteArray.empty l0 x9_1).size) = true := decide_eq_true (by omega)
    clear c17
    by_cases c19 : (rd x3_1 (ji14)) = (bt (rdOf ByteArray.empty l0 x9_1) 0)
    ·rw [if_pos c19] at H
     have c19b0 : ((rd x3_1 (ji14)) == (bt (rdOf ByteArray.empty l0 x9_1) 0)) = true := beq_iff_eq.mpr c19
     have c19b1 : ((rd x3_1 (ji14)) != (bt (rdOf ByteArray.empty l0 x9_1) 0)) = false := bne_eq_false_iff_eq.mpr c19
     clear c19
     have H' := am H
     clear H
     have p225 : 0 ≤ (x9_1 : Int) := of_decide_eq_true ad
     have q225 : x9_1 < (l0.length : Int) := of_decide_eq_true ad
     obtain ⟨ad225, e225, hx225_0⟩ := Kd.at_string HR0.out x9_1 p225 q225; cases e225; replace hx225_0 := kp HB.out hx225_0; replace p225 := eq_true p225; replace q225 := eq_true q225; obtain ⟨Ao20, co20, eo20⟩ := Kd.R_slice HO_3.out; subst eo20
     have p229 : 0 ≤ ((ji14) : Int) := of_decide_eq_true ad
     have q229 : (ji14) < (x3_1.length : Int) := of_decide_eq_true ad
     obtain ⟨ad229, e229, hx229_0⟩ := Kd.at_int (Kd.R_reads' HO_3.out).2.2 (ji14) p229 q229; cases e229; replace p229 := eq_true p229; replace q229 := eq_true q229
     have p18 : 0 ≤ (0 : Int) := (by omega)
     have q18 : 0 < (rdOf ByteArray.empty l0 x9_1).size := b24_
     have hx18 : ∀ h : 0 < (rdOf ByteArray.empty l0 x9_1).size, (((rdOf ByteArray.empty l0 x9_1)[0]'h).toNat : Int) = bt (rdOf ByteArray.empty l0 x9_1) 0 := bt_at (rdOf ByteArray.empty l0 x9_1) 0
     clear p18
     have qi18 : (0 < ((rdOf ByteArray.empty l0 x9_1).size : Int)) = True := eq_true (of_decide_eq_true ad)
     replace q18 := eq_true q18; go_wp2
     repeat (go_quiet (fail); try go_wp2)
     go_roundg k1
     case measure => have := HK1.out; omega
     case rel => exact ⟨(x3_1), (wrap64 (x9_1 + 1)), sq, H', ⟨b11_⟩, ⟨rq HO_3.out⟩, ⟨bel⟩⟩
    rw [if_neg c19] at H
    have c19b0 : ((rd x3_1 (ji14)) == (bt (rdOf ByteArray.empty l0 x9_1) 0)) = false := beq_eq_false_iff_ne.mpr c19
    have c19b1 : ((rd x3_1 (ji14)) != (bt (rdOf ByteArray.empty l0 x9_1) 0)) = true := bne_iff_ne.mpr c19
    replace H := ip H; obtain ⟨c22, H⟩ := H; have LMc22 := Aside0.mk c22; clear c22; obtain ⟨y230, hy230⟩ : ∃ y_ : List Int, y_ = (x3_1 ++ [bt (rdOf ByteArray.empty l0 x9_1) 0]) := ⟨_, rfl⟩
    replace H : (impl_firstLetters.l0 k1 y230 l0 (l0.length : Int) (wrap64 (x9_1 + 1))) = some r := by first | (rw [hy230]; with_reducible exact H) | (have H2_ := bm H; rw [hy230]; with_reducible exact H2_) | (with_reducible exact bm H) | with_reducible exact H | (rw [hy230]; exact H) | exact H
    have Ny230 := am hy230; clear hy230
    have H' := am H
    clear H
    have p225 : 0 ≤ (x9_1 : Int) := of_decide_eq_true ad
    have q225 : x9_1 < (l0.length : Int) := of_decide_eq_true ad
    obtain ⟨ad225, e225, hx225_0⟩ := Kd.at_string HR0.out x9_1 p225 q225; cases e225; replace hx225_0 := kp HB.out hx225_0; replace p225 := eq_true p225; replace q225 := eq_true q225; obtain ⟨Ao23, co23, eo23⟩ := Kd.R_slice HO_3.out; subst eo23
    have p229 : 0 ≤ ((ji14) : Int) := of_decide_eq_true ad
    have q229 : (ji14) < (x3_1.length : Int) := of_decide_eq_true ad
    obtain ⟨ad229, e229, hx229_0⟩ := Kd.at_int (Kd.R_reads' HO_3.out).2.2 (ji14) p229 q229; cases e229; replace p229 := eq_true p229; replace q229 := eq_true q229
    have p18 : 0 ≤ (0 : Int) := (by omega)
    have q18 : 0 < (rdOf ByteArray.empty l0 x9_1).size := b24_
    have hx18 : ∀ h : 0 < (rdOf ByteArray.empty l0 x9_1).size, (((rdOf ByteArray.empty l0 x9_1)[0]'h).toNat : Int) = bt (rdOf ByteArray.empty l0 x9_1) 0 := bt_at (rdOf ByteArray.empty l0 x9_1) 0
    clear p18
    have qi18 : (0 < ((rdOf ByteArray.empty l0 x9_1).size : Int)) = True := eq_true (of_decide_eq_true ad)
    replace q18 := eq_true q18
    have p21 : 0 ≤ (0 : Int) := (by omega)
    have q21 : 0 < (rdOf ByteArray.empty l0 x9_1).size := b24_
    have hx21 : ∀ h : 0 < (rdOf ByteArray.empty l0 x9_1).size, (((rdOf ByteArray.empty l0 x9_1)[0]'h).toNat : Int) = bt (rdOf ByteArray.empty l0 x9_1) 0 := bt_at (rdOf ByteArray.empty l0 x9_1) 0
    clear p21
    have qi21 : (0 < ((rdOf ByteArray.empty l0 x9_1).size : Int)) = True := eq_true (of_decide_eq_true ad)
    replace q21 := eq_true q21
    go_wp2_with (first | ((with_reducible refine gate_builtin (b := .append) (xs := #[.tmp 31, .tmp 34]) rfl ?_); (try (refine gate_guard (by rfl) ?_; dsimp only)); at_builtin; refine Kd.R_append (Kd.int .u8) (w0 := w) w.heap.size rfl (.tmp 31) (.tmp 34) 32 5 (.int .u8 0) 1 rfl Try.underlying32 info5 rfl (by decide) (by omega) (.slice (some ad229) x3_1.length co23) x3_1 (bt (rdOf ByteArray.empty l0 x9_1) 0) [.int .u8 (bt (rdOf ByteArray.empty l0 x9_1) 0)] (fun _ => True) (fun _ => False) rfl rfl ?aP (fun _ hk => hk.elim) ?aF ?aO ?aB ?aS ?aL ?_; (case aP => exact rfl); (case aB => exact bel); (case aF => exact (fun _ _ => trivial)); (case aO => exact (rq HO_3.out)); (case aS => exact (below_size bel)); (case aL => have := LMc22.out; omega); intro v231 w24 ho hb hg hat; rw [← Ny230.out] at ho; replace HB := am (hb); have HO232 := am (ho); clear HO_3; clear ho hb hg hat))
    repeat (go_quiet (first | ((with_reducible refine gate_builtin (b := .append) (xs := #[.tmp 31, .tmp 34]) rfl ?_); (try (refine gate_guard (by rfl) ?_; dsimp only)); at_builtin; refine Kd.R_append (Kd.int .u8) (w0 := w) w.heap.size rfl (.tmp 31) (.tmp 34) 32 5 (.int .u8 0) 1 rfl Try.underlying32 info5 rfl (by decide) (by omega) (.slice (some ad229) x3_1.length co23) x3_1 (bt (rdOf ByteArray.empty l0 x9_1) 0) [.int .u8 (bt (rdOf ByteArray.empty l0 x9_1) 0)] (fun _ => True) (fun _ => False) rfl rfl ?aP (fun _ hk => hk.elim) ?aF ?aO ?aB ?aS ?aL ?_; (case aP => exact rfl); (case aB => exact bel); (case aF => exact (fun _ _ => trivial)); (case aO => exact (rq HO_3.out)); (case aS => exact (below_size bel)); (case aL => have := LMc22.out; omega); intro v231 w24 ho hb hg hat; rw [← Ny230.out] at ho; replace HB := am (hb); have HO232 := am (ho); clear HO_3; clear ho hb hg hat)); try go_wp2_with (first | ((with_reducible refine gate_builtin (b := .append) (xs := #[.tmp 31, .tmp 34]) rfl ?_); (try (refine gate_guard (by rfl) ?_; dsimp only)); at_builtin; refine Kd.R_append (Kd.int .u8) (w0 := w) w.heap.size rfl (.tmp 31) (.tmp 34) 32 5 (.int .u8 0) 1 rfl Try.underlying32 info5 rfl (by decide) (by omega) (.slice (some ad229) x3_1.length co23) x3_1 (bt (rdOf ByteArray.empty l0 x9_1) 0) [.int .u8 (bt (rdOf ByteArray.empty l0 x9_1) 0)] (fun _ => True) (fun _ => False) rfl rfl ?aP (fun _ hk => hk.elim) ?aF ?aO ?aB ?aS ?aL ?_; (case aP => exact rfl); (case aB => exact bel); (case aF => exact (fun _ _ => trivial)); (case aO => exact (rq HO_3.out)); (case aS => exact (below_size bel)); (case aL => have := LMc22.out; omega); intro v231 w24 ho hb hg hat; rw [← Ny230.out] at ho; replace HB := am (hb); have HO232 := am (ho); clear HO_3; clear ho hb hg hat)))
    go_roundg k1
    case measure => have := HK1.out; omega
    case rel => exact ⟨(y230), (wrap64 (x9_1 + 1)), sq, H', ⟨b11_⟩, ⟨rq HO232.out⟩, ⟨bel⟩⟩
   rw [if_neg c4] at H; have c4b0 := decide_eq_false c4; clear c4; obtain rfl := Option.some.inj H; go_wp2
   repeat (go_quiet (fail); try go_wp2)
   go_ret
   exact ⟨_, eq_, by (with_reducible repeat (first | apply Kd.R_alloc | apply Kd.R_drewN | apply Kd.R_drew)); exact HO_3.out, bel⟩
-- shrunk

/-! ### impl_behind: function 31 -/
def impl_behind.l0 : Nat → Int → List ByteArray → List ByteArray → Int → Int → Option (List ByteArray)
 | 0, _, _, _, _, _ => none
 | k + 1, x1, x5, x9, x10, x11 => if x11 < x10 then (if 0 ≤ x11 then (if x11 < (x9.length : Int) then (if (rdOf ByteArray.empty x9 x11).toList = ([] : List UInt8) then (impl_behind.l0 k x1 x5 x9 x10 (wrap64 (x11 + 1))) else (if 0 < ((rdOf ByteArray.empty x9 x11).size : Int) then (if (bt (rdOf ByteArray.empty x9 x11) 0) = x1 then (if 1 ≤ ((rdOf ByteArray.empty x9 x11).size : Int) then (if x5.length < 8796093022208 then (impl_behind.l0 k x1 (x5 ++ [(rdOf ByteArray.empty x9 x11).extract 1 (rdOf ByteArray.empty x9 x11).size]) x9 x10 (wrap64 (x11 + 1))) else (none)) else (none)) else (impl_behind.l0 k x1 x5 x9 x10 (wrap64 (x11 + 1)))) else (none))) else (none)) else (none)) else (some x5)
def impl_behind.f (k : Nat) (l0 : List ByteArray) (a1 : Int) : Option (List ByteArray) := impl_behind.l0 k a1 (([] : List ByteArray)) l0 (l0.length : Int) 0
theorem impl_behind.calls (k : Nat) (A0 : Option Addr) (c0 : Nat) (l0 : List ByteArray) (a1 : Int) (r : List ByteArray) (w : World) (hr0 : Kd.C Kd.string w A0 l0.length l0) (hc0 : l0.length ≤ c0) (h : impl_behind.f k l0 a1 = some r) :
  Calls Try.prog 31 #[.slice A0 l0.length c0, .int .u8 a1] w fun e w' => ∃ v0_ : Value, e = .returned (v0_) ∧ Kd.R Kd.string 9 w' w.heap.size (fun _ => True) v0_ r ∧ Below w.heap.size w w' := by
 have HR0 := am hr0; have HC0 := am hc0; clear hr0 hc0; have HB := am (Below.refl w.heap.size w)
 have H : (impl_behind.l0 k a1 (([] : List ByteArray)) l0 (l0.length : Int) 0) = some r := h
 clear h; obtain ⟨y233, hy233⟩ : ∃ y_ : List ByteArray, y_ = (([] : List ByteArray)) := ⟨_, rfl⟩
 replace H : (impl_behind.l0 k a1 y233 l0 (l0.length : Int) 0) = some r := by first | (rw [hy233]; with_reducible exact H) | (have H2_ := bm H; rw [hy233]; with_reducible exact H2_) | (with_reducible exact bm H) | with_reducible exact H | (rw [hy233]; exact H) | exact H
 have Ny233 := am hy233; clear hy233
 have H' := am H
 clear H; go_enter Try.func31, Try.ntmps31
 go_wp2_with (first | ((with_reducible refine gate_dst (N := 8) rfl ?_); refine Kd.R_lit Kd.string _ 9 ?hg (N := 8) ?hd (xs := ([] : List ByteArray)) (inner := []) (ok := fun _ => True) (okp := fun _ => True) ?hr ?hp (fun _ hk => hk) trivial (Below.refl _ _) (Nat.le_refl _) (by simp) ?_; (case hd => rfl); (case hg => rfl); (case hr => first | (go_simp; done) | (go_simp; rfl)); (case hp => exact (Reps.none _ _)); intro v234 w3 ho4 hb hg_ hnew_; clear hg_ hnew_; (first | rw [← Ny233.out] at ho4 | (simp only [Int.reduceToNat] at ho4; rw [← Ny233.out] at ho4) | (simp only [Int.toNat_natCast] at ho4; rw [← Ny233.out] at ho4)); have HO235 := am (Kd.R_lower ho4 (below_size bel)); replace HB := am (below_step bel hb); clear hb ho4))
 go_loopg [5, 11] k (fun kq v5 v11 w' => ∃ (x5_1 : List ByteArray) (x11_1 : Int), v11 = .int .i64 x11_1 ∧ Aside0 (impl_behind.l0 kq a1 x5_1 l0 (l0.length : Int) x11_1 = some r) ∧ Aside0 (kq ≤ k) ∧ Aside0 (Kd.R Kd.string 9 w' w.heap.size (fun _ => True) v5 x5_1) ∧ Aside0 (Below w.heap.size w w'))
 case atStart => exact ⟨(y233), (0), sq, H', ⟨Nat.le_refl _⟩, ⟨rq HO235.out⟩, ⟨bel⟩⟩
 case round =>
  clear H'; (try clear p2); (try clear c3); obtain ⟨x5_1, x11_1, rfl, HA, HK1, HO_5, HB⟩ := hrel
  cases gk with
  | zero => exact absurd HA.out (by simp [impl_behind.l0])
  | succ k1 =>
   have H := HA.out; clear HA; simp only [impl_behind.l0] at H
   by_cases c5 : x11_1 < (l0.length : Int)
   ·rw [if_pos c5] at H; have c5b0 := decide_eq_true c5; clear c5
    replace H := it H; obtain ⟨c6b0, H⟩ := H; replace H := it H; obtain ⟨c7b0, H⟩ := H
    by_cases c8 : (rdOf ByteArray.empty l0 x11_1).toList = ([] : List UInt8)
    ·rw [if_pos c8] at H
     have c8b0 : ((rdOf ByteArray.empty l0 x11_1).toList == ([] : List UInt8)) = true := beq_iff_eq.mpr c8
     have c8b1 : ((rdOf ByteArray.empty l0 x11_1).toList != ([] : List UInt8)) = false := bne_eq_false_iff_eq.mpr c8
     clear c8
     have H' := am H
     clear H
     have p236 : 0 ≤ (x11_1 : Int) := of_decide_eq_true ad
     have q236 : x11_1 < (l0.length : Int) := of_decide_eq_true ad
     obtain ⟨ad236, e236, hx236_0⟩ := Kd.at_string HR0.out x11_1 p236 q236; cases e236
     replace hx236_0 := kp HB.out hx236_0; replace p236 := eq_true p236; replace q236 := eq_true q236; go_wp2
     go_roundg k1
     case measure => have := HK1.out; omega
     case rel => exact ⟨(x5_1), (wrap64 (x11_1 + 1)), sq, H', ⟨b11_⟩, ⟨rq HO_5.out⟩, ⟨bel⟩⟩
    rw [if_neg c8] at H
    have c8b0 : ((rdOf ByteArray.empty l0 x11_1).toList == ([] : List UInt8)) = false := beq_eq_false_iff_ne.mpr c8
    have c8b1 : ((rdOf ByteArray.empty l0 x11_1).toList != ([] : List UInt8)) = true := bne_iff_ne.mpr c8
    replace H := ip H; obtain ⟨c9, H⟩ := H; have c9b0 := decide_eq_true c9
    have c9b1 : decide (0 < (rdOf ByteArray.empty l0 x11_1).size) = true := decide_eq_true (by omega)
    clear c9
    by_cases c11 : (bt (rdOf ByteArray.empty l0 x11_1) 0) = a1
    ·rw [if_pos c11] at H
     have c11b0 : ((bt (rdOf ByteArray.empty l0 x11_1) 0) == a1) = true := beq_iff_eq.mpr c11
     have c11b1 : ((bt (rdOf ByteArray.empty l0 x11_1) 0) != a1) = false := bne_eq_false_iff_eq.mpr c11
     clear c11; replace H := ip H; obtain ⟨c12, H⟩ := H; have c12b0 := eq_true c12
     have c12b1 : decide (1 ≤ ((rdOf ByteArray.empty l0 x11_1).size : Int)) = true := decide_eq_true c12
     clear c12
     replace H := ip H; obtain ⟨c13, H⟩ := H; have LMc13 := Aside0.mk c13; clear c13; obtain ⟨y237, hy237⟩ : ∃ y_ : List ByteArray, y_ = (x5_1 ++ [(rdOf ByteArray.empty l0 x11_1).extract 1 (rdOf ByteArray.empty l0 x11_1).size]) := ⟨_, rfl⟩
     replace H : (impl_behind.l0 k1 a1 y237 l0 (l0.length : Int) (wrap64 (x11_1 + 1))) = some r := by first | (rw [hy237]; with_reducible exact H) | (have H2_ := bm H; rw [hy237]; with_reducible exact H2_) | (with_reducible exact bm H) | with_reducible exact H | (rw [hy237]; exact H) | exact H
     have Ny237 := am hy237; clear hy237
     have H' := am H
     clear H
     have p236 : 0 ≤ (x11_1 : Int) := of_decide_eq_true ad
     have q236 : x11_1 < (l0.length : Int) := of_decide_eq_true ad
     obtain ⟨ad236, e236, hx236_0⟩ := Kd.at_string HR0.out x11_1 p236 q236; cases e236; replace hx236_0 := kp HB.out hx236_0; replace p236 := eq_true p236; replace q236 := eq_true q236
     have p10 : 0 ≤ (0 : Int) := (by omega)
     have q10 : 0 < (rdOf ByteArray.empty l0 x11_1).size := (by have : (0 : Int) < ((rdOf ByteArray.empty l0 x11_1).size : Int) := of_decide_eq_true ad; omega)
     have hx10 : ∀ h : 0 < (rdOf ByteArray.empty l0 x11_1).size, (((rdOf ByteArray.empty l0 x11_1)[0]'h).toNat : Int) = bt (rdOf ByteArray.empty l0 x11_1) 0 := bt_at (rdOf ByteArray.empty l0 x11_1) 0
     clear p10
     have qi10 : (0 < ((rdOf ByteArray.empty l0 x11_1).size : Int)) = True := eq_true (of_decide_eq_true ad)
     replace q10 := eq_true q10
     go_wp2_with (first | ((with_reducible refine gate_builtin (b := .append) (xs := #[.tmp 23, .tmp 26]) rfl ?_); at_builtin; refine Kd.R_append Kd.string (w0 := w) w.heap.size rfl (.tmp 23) (.tmp 26) 22 9 (.string ⟨#[]⟩) 16 rfl Try.underlying22 info9 rfl (by decide) (by omega) u5 x5_1 ((rdOf ByteArray.empty l0 x11_1).extract 1 (rdOf ByteArray.empty l0 x11_1).size) [.string ((rdOf ByteArray.empty l0 x11_1).extract 1 (rdOf ByteArray.empty l0 x11_1).size)] (fun _ => True) (fun _ => False) rfl rfl ?aP (fun _ hk => hk.elim) ?aF ?aO ?aB ?aS ?aL ?_; (case aP => exact rfl); (case aB => exact bel); (case aF => exact (fun _ _ => trivial)); (case aO => exact (rq HO_5.out)); (case aS => exact (below_size bel)); (case aL => have := LMc13.out; omega); intro v238 w14 ho hb hg hat; rw [← Ny237.out] at ho; replace HB := am (hb); have HO239 := am (ho); clear HO_5; clear ho hb hg hat))
     go_roundg k1
     case measure => have := HK1.out; omega
     case rel => exact ⟨(y237), (wrap64 (x11_1 + 1)), sq, H', ⟨b11_⟩, ⟨rq HO239.out⟩, ⟨bel⟩⟩
    rw [if_neg c11] at H
    have c11b0 : ((bt (rdOf ByteArray.empty l0 x11_1) 0) == a1) = false := beq_eq_false_iff_ne.mpr c11
    have c11b1 : ((bt (rdOf ByteArray.empty l0 x11_1) 0) != a1) = true := bne_iff_ne.mpr c11
    have H' := am H
    clear H
    have p236 : 0 ≤ (x11_1 : Int) := of_decide_eq_true ad
    have q236 : x11_1 < (l0.length : Int) := of_decide_eq_true ad
    obtain ⟨ad236, e236, hx236_0⟩ := Kd.at_string HR0.out x11_1 p236 q236; cases e236; replace hx236_0 := kp HB.out hx236_0; replace p236 := eq_true p236; replace q236 := eq_true q236
    have p10 : 0 ≤ (0 : Int) := (by omega)
    have q10 : 0 < (rdOf ByteArray.empty l0 x11_1).size := (by have : (0 : Int) < ((rdOf ByteArray.empty l0 x11_1).size : Int) := of_decide_eq_true ad; omega)
    have hx10 : ∀ h : 0 < (rdOf ByteArray.empty l0 x11_1).size, (((rdOf ByteArray.empty l0 x11_1)[0]'h).toNat : Int) = bt (rdOf ByteArray.empty l0 x11_1) 0 := bt_at (rdOf ByteArray.empty l0 x11_1) 0
    clear p10
    have qi10 : (0 < ((rdOf ByteArray.empty l0 x11_1).size : Int)) = True := eq_true (of_decide_eq_true ad)
    replace q10 := eq_true q10; go_wp2
    go_roundg k1
    case measure => have := HK1.out; omega
    case rel => exact ⟨(x5_1), (wrap64 (x11_1 + 1)), sq, H', ⟨b11_⟩, ⟨rq HO_5.out⟩, ⟨bel⟩⟩
   rw [if_neg c5] at H; have c5b0 := decide_eq_false c5; clear c5; obtain rfl := Option.some.inj H; go_wp2; go_ret
   exact ⟨_, eq_, by (with_reducible repeat (first | apply Kd.R_alloc | apply Kd.R_drewN | apply Kd.R_drew)); exact HO_5.out, bel⟩

/-! ### impl_longest: function 36 -/
def impl_longest.l0 : Nat → Int → List ByteArray → Int → Int → Option (Int)
 | 0, _, _, _, _ => none
 | k + 1, x3, x6, x7, x8 => if x8 < x7 then (if 0 ≤ x8 then (if x8 < (x6.length : Int) then (impl_longest.l0 k (mx x3 ((rdOf ByteArray.empty x6 x8).size : Int)) x6 x7 (wrap64 (x8 + 1))) else (none)) else (none)) else (some x3)
def impl_longest.f (k : Nat) (l0 : List ByteArray) : Option (Int) := impl_longest.l0 k 0 l0 (l0.length : Int) 0
theorem impl_longest.calls (k : Nat) (A0 : Option Addr) (c0 : Nat) (l0 : List ByteArray) (r : Int) (w : World) (hr0 : Kd.C Kd.string w A0 l0.length l0) (hc0 : l0.length ≤ c0) (h : impl_longest.f k l0 = some r) :
  Calls Try.prog 36 #[.slice A0 l0.length c0] w fun e w' => e = .returned (.int .i64 r) ∧ Drawn0 w w' := by
 have HR0 := am hr0; have HC0 := am hc0; clear hr0 hc0
 have H : (impl_longest.l0 k 0 l0 (l0.length : Int) 0) = some r := h
 clear h
 have H' := am H
 clear H; go_enter Try.func36, Try.ntmps36; go_wp2
 go_loopg [3, 8] k (fun kq v3 v8 w' => ∃ (x3_1 : Int) (x8_1 : Int), v3 = .int .i64 x3_1 ∧ v8 = .int .i64 x8_1 ∧ Aside0 (impl_longest.l0 kq x3_1 l0 (l0.length : Int) x8_1 = some r) ∧ Aside0 (kq ≤ k) ∧ Drawn0 w w')
 case atStart => exact ⟨(0), (0), sq, sq, H', ⟨Nat.le_refl _⟩, dr⟩
 case round =>
  clear H'; obtain ⟨x3_1, x8_1, rfl, rfl, HA, HK1, ⟨m1, rfl⟩⟩ := hrel
  cases gk with
  | zero => exact absurd HA.out (by simp [impl_longest.l0])
  | succ k1 =>
   have H := HA.out; clear HA; simp only [impl_longest.l0] at H
   by_cases c2 : x8_1 < (l0.length : Int)
   ·rw [if_pos c2] at H; have c2b0 := decide_eq_true c2; clear c2
    replace H := it H; obtain ⟨c3b0, H⟩ := H
    replace H := it H; obtain ⟨c4b0, H⟩ := H; obtain ⟨ji5, hji5⟩ : ∃ j_ : Int, (mx x3_1 ((rdOf ByteArray.empty l0 x8_1).size : Int)) = j_ := ⟨_, rfl⟩
    replace H : (impl_longest.l0 k1 ji5 l0 (l0.length : Int) (wrap64 (x8_1 + 1))) = some r := by first | (rw [hji5] at H; exact H) | (simp only [hji5] at H ⊢; exact H)
    have hji5_ : (if x3_1 < ((rdOf ByteArray.empty l0 x8_1).size : Int) then ((rdOf ByteArray.empty l0 x8_1).size : Int) else x3_1) = ji5 := hji5
    have H' := am H
    clear H
    have p240 : 0 ≤ (x8_1 : Int) := of_decide_eq_true ad
    have q240 : x8_1 < (l0.length : Int) := of_decide_eq_true ad
    obtain ⟨ad240, e240, hx240_0⟩ := Kd.at_string HR0.out x8_1 p240 q240; cases e240
    replace p240 := eq_true p240; replace q240 := eq_true q240; go_wp2
    go_roundg k1
    case measure => have := HK1.out; omega
    case rel => exact ⟨(ji5), (wrap64 (x8_1 + 1)), (by first | rfl | (simp; done) | (simp only [← hji5] <;> (first | rfl | simp)) | (simp [*]; done)), sq, H', ⟨b11_⟩, dr⟩
   rw [if_neg c2] at H; have c2b0 := decide_eq_false c2; clear c2; obtain rfl := Option.some.inj H; go_wp2; go_ret
   exact ⟨sq, dr⟩

/-! ### cmp_isNaN_int: function 57 -/
def cmp_isNaN_int.f (a0 : Int) : Option (Bool) := some (a0 != a0)
theorem cmp_isNaN_int.calls (a0 : Int) (r : Bool) (w : World) (h : cmp_isNaN_int.f a0 = some r) :
  Calls Try.prog 57 #[.int .i64 a0] w fun e w' => e = .returned (.bool r) ∧ Drawn0 w w' := by
 have H : (some (a0 != a0)) = some r := h
 clear h; obtain rfl := Option.some.inj H; go_enter Try.func57, Try.ntmps57; go_wp2; go_ret
 exact ⟨sq, dr⟩

/-! ### cmp_Compare_int: function 35 -/
def cmp_Compare_int.f (a0 : Int) (a1 : Int) : Option (Int) := (cmp_isNaN_int.f a0).bind fun t241 => ((cmp_isNaN_int.f a1).bind fun t242 => (if t241 = true then (if t242 = true then (some 0) else (some (-1))) else (if t242 = true then (some 1) else (if a0 < a1 then (some (-1)) else (if a0 > a1 then (some 1) else (some 0))))))
theorem cmp_Compare_int.calls (a0 : Int) (a1 : Int) (r : Int) (w : World) (h : cmp_Compare_int.f a0 a1 = some r) :
  Calls Try.prog 35 #[.int .i64 a0, .int .i64 a1] w fun e w' => e = .returned (.int .i64 r) ∧ Drawn0 w w' := by
 have H : ((cmp_isNaN_int.f a0).bind fun t241 => ((cmp_isNaN_int.f a1).bind fun t242 => (if t241 = true then (if t242 = true then (some 0) else (some (-1))) else (if t242 = true then (some 1) else (if a0 < a1 then (some (-1)) else (if a0 > a1 then (some 1) else (some 0))))))) = some r := h
 clear h; replace H := bs H; obtain ⟨t241, A30, H⟩ := H; (try dsimp only at H); have A3 := Aside0.mk A30; clear A30; replace H := bs H; obtain ⟨t242, A40, H⟩ := H; (try dsimp only at H); have A4 := Aside0.mk A40; clear A40
 by_cases c5 : t241 = true
 ·subst c5
  rw [if_pos rfl] at H
  by_cases c6 : t242 = true
  ·subst c6
   rw [if_pos rfl] at H
   obtain rfl := Option.some.inj H; go_enter Try.func35, Try.ntmps35
   go_wp2_with (first | ((with_reducible refine gate_callee (f := 57) rfl ?_); refine gl 8 Try.func57 #[.int .i64 a0] ?_; (with_reducible refine (cmp_isNaN_int.calls a0 true _ A3.out).mono ?_); rintro e w' ⟨rfl, ⟨nd, rfl⟩⟩; refine ⟨_, rfl, ?_⟩) | ((with_reducible refine gate_callee (f := 57) rfl ?_); refine gl 10 Try.func57 #[.int .i64 a1] ?_; (with_reducible refine (cmp_isNaN_int.calls a1 true _ A4.out).mono ?_); rintro e w' ⟨rfl, ⟨nd, rfl⟩⟩; refine ⟨_, rfl, ?_⟩))
   go_ret
   exact ⟨sq, dr⟩
  replace c6 := Bool.eq_false_iff.mpr c6; subst c6
  rw [if_neg Bool.false_ne_true] at H
  obtain rfl := Option.some.inj H; go_enter Try.func35, Try.ntmps35
  go_wp2_with (first | ((with_reducible refine gate_callee (f := 57) rfl ?_); refine gl 8 Try.func57 #[.int .i64 a0] ?_; (with_reducible refine (cmp_isNaN_int.calls a0 true _ A3.out).mono ?_); rintro e w' ⟨rfl, ⟨nd, rfl⟩⟩; refine ⟨_, rfl, ?_⟩) | ((with_reducible refine gate_callee (f := 57) rfl ?_); refine gl 10 Try.func57 #[.int .i64 a1] ?_; (with_reducible refine (cmp_isNaN_int.calls a1 false _ A4.out).mono ?_); rintro e w' ⟨rfl, ⟨nd, rfl⟩⟩; refine ⟨_, rfl, ?_⟩))
  go_ret
  exact ⟨sq, dr⟩
 replace c5 := Bool.eq_false_iff.mpr c5; subst c5
 rw [if_neg Bool.false_ne_true] at H
 by_cases c7 : t242 = true
 ·subst c7
  rw [if_pos rfl] at H
  obtain rfl := Option.some.inj H; go_enter Try.func35, Try.ntmps35
  go_wp2_with (first | ((with_reducible refine gate_callee (f := 57) rfl ?_); refine gl 8 Try.func57 #[.int .i64 a0] ?_; (with_reducible refine (cmp_isNaN_int.calls a0 false _ A3.out).mono ?_); rintro e w' ⟨rfl, ⟨nd, rfl⟩⟩; refine ⟨_, rfl, ?_⟩) | ((with_reducible refine gate_callee (f := 57) rfl ?_); refine gl 10 Try.func57 #[.int .i64 a1] ?_; (with_reducible refine (cmp_isNaN_int.calls a1 true _ A4.out).mono ?_); rintro e w' ⟨rfl, ⟨nd, rfl⟩⟩; refine ⟨_, rfl, ?_⟩))
  go_ret
  exact ⟨sq, dr⟩
 replace c7 := Bool.eq_false_iff.mpr c7; subst c7
 rw [if_neg Bool.false_ne_true] at H
 by_cases c8 : a0 < a1
 ·rw [if_pos c8] at H; have c8b0 := decide_eq_true c8; clear c8; obtain rfl := Option.some.inj H; go_enter Try.func35, Try.ntmps35
  go_wp2_with (first | ((with_reducible refine gate_callee (f := 57) rfl ?_); refine gl 8 Try.func57 #[.int .i64 a0] ?_; (with_reducible refine (cmp_isNaN_int.calls a0 false _ A3.out).mono ?_); rintro e w' ⟨rfl, ⟨nd, rfl⟩⟩; refine ⟨_, rfl, ?_⟩) | ((with_reducible refine gate_callee (f := 57) rfl ?_); refine gl 10 Try.func57 #[.int .i64 a1] ?_; (with_reducible refine (cmp_isNaN_int.calls a1 false _ A4.out).mono ?_); rintro e w' ⟨rfl, ⟨nd, rfl⟩⟩; refine ⟨_, rfl, ?_⟩))
  go_ret
  exact ⟨sq, dr⟩
 rw [if_neg c8] at H; have c8b0 := decide_eq_false c8; clear c8
 by_cases c9 : a0 > a1
 ·rw [if_pos c9] at H; have c9b0 := decide_eq_true c9; clear c9; obtain rfl := Option.some.inj H; go_enter Try.func35, Try.ntmps35
  go_wp2_with (first | ((with_reducible refine gate_callee (f := 57) rfl ?_); refine gl 8 Try.func57 #[.int .i64 a0] ?_; (with_reducible refine (cmp_isNaN_int.calls a0 false _ A3.out).mono ?_); rintro e w' ⟨rfl, ⟨nd, rfl⟩⟩; refine ⟨_, rfl, ?_⟩) | ((with_reducible refine gate_callee (f := 57) rfl ?_); refine gl 10 Try.func57 #[.int .i64 a1] ?_; (with_reducible refine (cmp_isNaN_int.calls a1 false _ A4.out).mono ?_); rintro e w' ⟨rfl, ⟨nd, rfl⟩⟩; refine ⟨_, rfl, ?_⟩))
  go_ret
  exact ⟨sq, dr⟩
 rw [if_neg c9] at H; have c9b0 := decide_eq_false c9; clear c9; obtain rfl := Option.some.inj H; go_enter Try.func35, Try.ntmps35
 go_wp2_with (first | ((with_reducible refine gate_callee (f := 57) rfl ?_); refine gl 8 Try.func57 #[.int .i64 a0] ?_; (with_reducible refine (cmp_isNaN_int.calls a0 false _ A3.out).mono ?_); rintro e w' ⟨rfl, ⟨nd, rfl⟩⟩; refine ⟨_, rfl, ?_⟩) | ((with_reducible refine gate_callee (f := 57) rfl ?_); refine gl 10 Try.func57 #[.int .i64 a1] ?_; (with_reducible refine (cmp_isNaN_int.calls a1 false _ A4.out).mono ?_); rintro e w' ⟨rfl, ⟨nd, rfl⟩⟩; refine ⟨_, rfl, ?_⟩))
 go_ret
 exact ⟨sq, dr⟩

/-! ### cmp_isNaN_string: function 78 -/
def cmp_isNaN_string.f (a0 : ByteArray) : Option (Bool) := some (a0.toList != a0.toList)
theorem cmp_isNaN_string.calls (a0 : ByteArray) (r : Bool) (w : World) (h : cmp_isNaN_string.f a0 = some r) :
  Calls Try.prog 78 #[.string a0] w fun e w' => e = .returned (.bool r) ∧ Drawn0 w w' := by
 have H : (some (a0.toList != a0.toList)) = some r := h
 clear h; obtain rfl := Option.some.inj H; go_enter Try.func78, Try.ntmps78; go_wp2; go_ret
 exact ⟨sq, dr⟩

/-! ### cmp_Compare_string: function 58 -/
def cmp_Compare_string.f (a0 : ByteArray) (a1 : ByteArray) : Option (Int) := (cmp_isNaN_string.f a0).bind fun t243 => ((cmp_isNaN_string.f a1).bind fun t244 => (if t243 = true then (if t244 = true then (some 0) else (some (-1))) else (if t244 = true then (some 1) else (if (Op.bytesLess a0.toList a1.toList) = true then (some (-1)) else (if (Op.bytesLess a1.toList a0.toList) = true then (some 1) else (some 0))))))
theorem cmp_Compare_string.ne : ∀ {a b : List UInt8}, Op.bytesLess b a = true → (a == b) = false
 | [], [], h => by simp [Op.bytesLess] at h
 | [], _ :: _, h => by rfl
 | _ :: _, [], h => by rfl
 | x :: a, y :: b, h => by
  rw [List.cons_beq_cons]
  by_cases e : x = y
  ·subst e
   have h' : Op.bytesLess b a = true := by simpa [Op.bytesLess] using h
   rw [cmp_Compare_string.ne h', Bool.and_false]
  ·simp [e]
theorem cmp_Compare_string.eq : ∀ {a b : List UInt8}, Op.bytesLess a b = false → Op.bytesLess b a = false → (a == b) = true
 | [], [], _, _ => rfl
 | [], _ :: _, h, _ => by simp [Op.bytesLess] at h
 | _ :: _, [], _, h => by simp [Op.bytesLess] at h
 | x :: a, y :: b, h, h2 => by
  have e : x = y := by
   by_cases c : x < y
   ·simp [Op.bytesLess, c] at h
   ·by_cases c2 : y < x
    ·simp [Op.bytesLess, c2] at h2
    exact UInt8.le_antisymm (UInt8.not_lt.1 c2) (UInt8.not_lt.1 c)
  subst e
  rw [List.cons_beq_cons, cmp_Compare_string.eq (a := a) (b := b) (by simpa [Op.bytesLess] using h) (by simpa [Op.bytesLess] using h2)]
  simp
theorem cmp_Compare_string.calls (a0 : ByteArray) (a1 : ByteArray) (r : Int) (w : World) (h : cmp_Compare_string.f a0 a1 = some r) :
  Calls Try.prog 58 #[.string a0, .string a1] w fun e w' => e = .returned (.int .i64 r) ∧ Drawn0 w w' := by
 have H : ((cmp_isNaN_string.f a0).bind fun t243 => ((cmp_isNaN_string.f a1).bind fun t244 => (if t243 = true then (if t244 = true then (some 0) else (some (-1))) else (if t244 = true then (some 1) else (if (Op.bytesLess a0.toList a1.toList) = true then (some (-1)) else (if (Op.bytesLess a1.toList a0.toList) = true then (some 1) else (some 0))))))) = some r := h
 clear h; replace H := bs H; obtain ⟨t243, A30, H⟩ := H; (try dsimp only at H); have A3 := Aside0.mk A30; clear A30; replace H := bs H; obtain ⟨t244, A40, H⟩ := H; (try dsimp only at H); have A4 := Aside0.mk A40; clear A40
 by_cases c5 : t243 = true
 ·subst c5
  rw [if_pos rfl] at H
  by_cases c6 : t244 = true
  ·subst c6
   rw [if_pos rfl] at H
   obtain rfl := Option.some.inj H; go_enter Try.func58, Try.ntmps58
   go_wp2_with (first | ((with_reducible refine gate_callee (f := 78) rfl ?_); refine gl 8 Try.func78 #[.string a0] ?_; (with_reducible refine (cmp_isNaN_string.calls a0 true _ A3.out).mono ?_); rintro e w' ⟨rfl, ⟨nd, rfl⟩⟩; refine ⟨_, rfl, ?_⟩) | ((with_reducible refine gate_callee (f := 78) rfl ?_); refine gl 10 Try.func78 #[.string a1] ?_; (with_reducible refine (cmp_isNaN_string.calls a1 true _ A4.out).mono ?_); rintro e w' ⟨rfl, ⟨nd, rfl⟩⟩; refine ⟨_, rfl, ?_⟩))
   go_ret
   exact ⟨sq, dr⟩
  replace c6 := Bool.eq_false_iff.mpr c6; subst c6
  rw [if_neg Bool.false_ne_true] at H
  obtain rfl := Option.some.inj H; go_enter Try.func58, Try.ntmps58
  go_wp2_with (first | ((with_reducible refine gate_callee (f := 78) rfl ?_); refine gl 8 Try.func78 #[.string a0] ?_; (with_reducible refine (cmp_isNaN_string.calls a0 true _ A3.out).mono ?_); rintro e w' ⟨rfl, ⟨nd, rfl⟩⟩; refine ⟨_, rfl, ?_⟩) | ((with_reducible refine gate_callee (f := 78) rfl ?_); refine gl 10 Try.func78 #[.string a1] ?_; (with_reducible refine (cmp_isNaN_string.calls a1 false _ A4.out).mono ?_); rintro e w' ⟨rfl, ⟨nd, rfl⟩⟩; refine ⟨_, rfl, ?_⟩))
  go_ret
  exact ⟨sq, dr⟩
 replace c5 := Bool.eq_false_iff.mpr c5; subst c5
 rw [if_neg Bool.false_ne_true] at H
 by_cases c7 : t244 = true
 ·subst c7
  rw [if_pos rfl] at H
  obtain rfl := Option.some.inj H; go_enter Try.func58, Try.ntmps58
  go_wp2_with (first | ((with_reducible refine gate_callee (f := 78) rfl ?_); refine gl 8 Try.func78 #[.string a0] ?_; (with_reducible refine (cmp_isNaN_string.calls a0 false _ A3.out).mono ?_); rintro e w' ⟨rfl, ⟨nd, rfl⟩⟩; refine ⟨_, rfl, ?_⟩) | ((with_reducible refine gate_callee (f := 78) rfl ?_); refine gl 10 Try.func78 #[.string a1] ?_; (with_reducible refine (cmp_isNaN_string.calls a1 true _ A4.out).mono ?_); rintro e w' ⟨rfl, ⟨nd, rfl⟩⟩; refine ⟨_, rfl, ?_⟩))
  go_ret
  exact ⟨sq, dr⟩
 replace c7 := Bool.eq_false_iff.mpr c7; subst c7
 rw [if_neg Bool.false_ne_true] at H
 by_cases c8 : (Op.bytesLess a0.toList a1.toList) = true
 ·rw [if_pos c8] at H
  have c8b0 : (Op.bytesLess a0.toList a1.toList) = true := c8
  clear c8; obtain rfl := Option.some.inj H; go_enter Try.func58, Try.ntmps58
  go_wp2_with (first | ((with_reducible refine gate_callee (f := 78) rfl ?_); refine gl 8 Try.func78 #[.string a0] ?_; (with_reducible refine (cmp_isNaN_string.calls a0 false _ A3.out).mono ?_); rintro e w' ⟨rfl, ⟨nd, rfl⟩⟩; refine ⟨_, rfl, ?_⟩) | ((with_reducible refine gate_callee (f := 78) rfl ?_); refine gl 10 Try.func78 #[.string a1] ?_; (with_reducible refine (cmp_isNaN_string.calls a1 false _ A4.out).mono ?_); rintro e w' ⟨rfl, ⟨nd, rfl⟩⟩; refine ⟨_, rfl, ?_⟩))
  go_ret
  exact ⟨sq, dr⟩
 rw [if_neg c8] at H
 have c8b0 : (Op.bytesLess a0.toList a1.toList) = false := by simpa using c8
 clear c8
 by_cases c9 : (Op.bytesLess a1.toList a0.toList) = true
 ·rw [if_pos c9] at H
  have c9b0 : (Op.bytesLess a1.toList a0.toList) = true := c9
  clear c9
  have c9e0 : (a0.toList == a1.toList) = false := cmp_Compare_string.ne c9b0
  obtain rfl := Option.some.inj H; go_enter Try.func58, Try.ntmps58
  go_wp2_with (first | ((with_reducible refine gate_callee (f := 78) rfl ?_); refine gl 8 Try.func78 #[.string a0] ?_; (with_reducible refine (cmp_isNaN_string.calls a0 false _ A3.out).mono ?_); rintro e w' ⟨rfl, ⟨nd, rfl⟩⟩; refine ⟨_, rfl, ?_⟩) | ((with_reducible refine gate_callee (f := 78) rfl ?_); refine gl 10 Try.func78 #[.string a1] ?_; (with_reducible refine (cmp_isNaN_string.calls a1 false _ A4.out).mono ?_); rintro e w' ⟨rfl, ⟨nd, rfl⟩⟩; refine ⟨_, rfl, ?_⟩))
  go_ret
  exact ⟨sq, dr⟩
 rw [if_neg c9] at H
 have c9b0 : (Op.bytesLess a1.toList a0.toList) = false := by simpa using c9
 clear c9
 have c9e0 : (a0.toList == a1.toList) = true := cmp_Compare_string.eq c8b0 c9b0
 obtain rfl := Option.some.inj H; go_enter Try.func58, Try.ntmps58
 go_wp2_with (first | ((with_reducible refine gate_callee (f := 78) rfl ?_); refine gl 8 Try.func78 #[.string a0] ?_; (with_reducible refine (cmp_isNaN_string.calls a0 false _ A3.out).mono ?_); rintro e w' ⟨rfl, ⟨nd, rfl⟩⟩; refine ⟨_, rfl, ?_⟩) | ((with_reducible refine gate_callee (f := 78) rfl ?_); refine gl 10 Try.func78 #[.string a1] ?_; (with_reducible refine (cmp_isNaN_string.calls a1 false _ A4.out).mono ?_); rintro e w' ⟨rfl, ⟨nd, rfl⟩⟩; refine ⟨_, rfl, ?_⟩))
 go_ret
 exact ⟨sq, dr⟩

/-! ### slices_Compare_string_string: function 37 -/
def slices_Compare_string_string.l0 : Nat → List ByteArray → List ByteArray → List ByteArray → Int → Int → Option (Int)
 | 0, _, _, _, _, _ => none
 | k + 1, x0, x1, x9, x10, x11 => if x11 < x10 then (if 0 ≤ x11 then (if x11 < (x9.length : Int) then (if x11 ≥ (x1.length : Int) then (some 1) else (if x11 < (x1.length : Int) then ((cmp_Compare_string.f (rdOf ByteArray.empty x9 x11) (rdOf ByteArray.empty x1 x11)).bind fun t247 => (if t247 = 0 then (slices_Compare_string_string.l0 k x0 x1 x9 x10 (wrap64 (x11 + 1))) else (some t247))) else (none))) else (none)) else (none)) else (if (x0.length : Int) < (x1.length : Int) then (some (-1)) else (some 0))
def slices_Compare_string_string.f (k : Nat) (l0 : List ByteArray) (l1 : List ByteArray) : Option (Int) := slices_Compare_string_string.l0 k l0 l1 l0 (l0.length : Int) 0
theorem slices_Compare_string_string.calls (k : Nat) (A0 : Option Addr) (c0 : Nat) (l0 : List ByteArray) (A1 : Option Addr) (c1 : Nat) (l1 : List ByteArray) (r : Int) (w : World) (hr0 : Kd.C Kd.string w A0 l0.length l0) (hc0 : l0.length ≤ c0) (hr1 : Kd.C Kd.string w A1 l1.length l1) (hc1 : l1.length ≤ c1) (h : slices_Compare_string_string.f k l0 l1 = some r) :
  Calls Try.prog 37 #[.slice A0 l0.length c0, .slice A1 l1.length c1] w fun e w' => e = .returned (.int .i64 r) ∧ Drawn0 w w' := by
 have HR0 := am hr0; have HC0 := am hc0; clear hr0 hc0; have HR1 := am hr1; have HC1 := am hc1; clear hr1 hc1
 have H : (slices_Compare_string_string.l0 k l0 l1 l0 (l0.length : Int) 0) = some r := h
 clear h
 have H' := am H
 clear H; go_enter Try.func37, Try.ntmps37; go_wp2
 go_loopg [11] k (fun kq v11 w' => ∃ (x11_1 : Int), v11 = .int .i64 x11_1 ∧ Aside0 (slices_Compare_string_string.l0 kq l0 l1 l0 (l0.length : Int) x11_1 = some r) ∧ Aside0 (kq ≤ k) ∧ Drawn0 w w')
 case atStart => exact ⟨(0), sq, H', ⟨Nat.le_refl _⟩, dr⟩
 case round =>
  clear H'; (try clear c1); (try clear p2); obtain ⟨x11_1, rfl, HA, HK1, ⟨m1, rfl⟩⟩ := hrel
  cases gk with
  | zero => exact absurd HA.out (by simp [slices_Compare_string_string.l0])
  | succ k1 =>
   have H := HA.out; clear HA; simp only [slices_Compare_string_string.l0] at H
   by_cases c3 : x11_1 < (l0.length : Int)
   ·rw [if_pos c3] at H; have c3b0 := decide_eq_true c3; clear c3
    replace H := it H; obtain ⟨c4b0, H⟩ := H; replace H := it H; obtain ⟨c5b0, H⟩ := H
    by_cases c6 : x11_1 ≥ (l1.length : Int)
    ·rw [if_pos c6] at H; have c6b0 := decide_eq_true c6; clear c6; obtain rfl := Option.some.inj H
     have p245 : 0 ≤ (x11_1 : Int) := of_decide_eq_true ad
     have q245 : x11_1 < (l0.length : Int) := of_decide_eq_true ad
     obtain ⟨ad245, e245, hx245_0⟩ := Kd.at_string HR0.out x11_1 p245 q245; cases e245
     replace p245 := eq_true p245; replace q245 := eq_true q245; go_wp2; go_ret
     exact ⟨sq, dr⟩
    rw [if_neg c6] at H; have c6b0 := decide_eq_false c6; clear c6
    replace H := it H; obtain ⟨c7b0, H⟩ := H; replace H := bs H; obtain ⟨t247, A80, H⟩ := H; (try dsimp only at H); have A8 := Aside0.mk A80; clear A80
    by_cases c9 : t247 = 0
    ·rw [if_pos c9] at H
     have c9b0 : (t247 == 0) = true := beq_iff_eq.mpr c9
     have c9b1 : (t247 != 0) = false := bne_eq_false_iff_eq.mpr c9
     clear c9
     have H' := am H
     clear H
     have p245 : 0 ≤ (x11_1 : Int) := of_decide_eq_true ad
     have q245 : x11_1 < (l0.length : Int) := of_decide_eq_true ad
     obtain ⟨ad245, e245, hx245_0⟩ := Kd.at_string HR0.out x11_1 p245 q245; cases e245; replace p245 := eq_true p245; replace q245 := eq_true q245
     have p246 : 0 ≤ (x11_1 : Int) := of_decide_eq_true ad
     have q246 : x11_1 < (l1.length : Int) := of_decide_eq_true ad
     obtain ⟨ad246, e246, hx246_0⟩ := Kd.at_string HR1.out x11_1 p246 q246; cases e246; replace p246 := eq_true p246; replace q246 := eq_true q246
     go_wp2_with (first | ((with_reducible refine gate_callee (f := 58) rfl ?_); refine gl 26 Try.func58 #[.string (rdOf ByteArray.empty l0 x11_1), .string (rdOf ByteArray.empty l1 x11_1)] ?_; (with_reducible refine (cmp_Compare_string.calls (rdOf ByteArray.empty l0 x11_1) (rdOf ByteArray.empty l1 x11_1) t247 _ A8.out).mono ?_); rintro e w' ⟨rfl, ⟨nd, rfl⟩⟩; refine ⟨_, rfl, ?_⟩))
     go_roundg k1
     case measure => have := HK1.out; omega
     case rel => exact ⟨(wrap64 (x11_1 + 1)), sq, H', ⟨b11_⟩, dr⟩
    rw [if_neg c9] at H
    have c9b0 : (t247 == 0) = false := beq_eq_false_iff_ne.mpr c9
    have c9b1 : (t247 != 0) = true := bne_iff_ne.mpr c9
    obtain rfl := Option.some.inj H
    have p245 : 0 ≤ (x11_1 : Int) := of_decide_eq_true ad
    have q245 : x11_1 < (l0.length : Int) := of_decide_eq_true ad
    obtain ⟨ad245, e245, hx245_0⟩ := Kd.at_string HR0.out x11_1 p245 q245; cases e245; replace p245 := eq_true p245; replace q245 := eq_true q245
    have p246 : 0 ≤ (x11_1 : Int) := of_decide_eq_true ad
    have q246 : x11_1 < (l1.length : Int) := of_decide_eq_true ad
    obtain ⟨ad246, e246, hx246_0⟩ := Kd.at_string HR1.out x11_1 p246 q246; cases e246; replace p246 := eq_true p246; replace q246 := eq_true q246
    go_wp2_with (first | ((with_reducible refine gate_callee (f := 58) rfl ?_); refine gl 26 Try.func58 #[.string (rdOf ByteArray.empty l0 x11_1), .string (rdOf ByteArray.empty l1 x11_1)] ?_; (with_reducible refine (cmp_Compare_string.calls (rdOf ByteArray.empty l0 x11_1) (rdOf ByteArray.empty l1 x11_1) t247 _ A8.out).mono ?_); rintro e w' ⟨rfl, ⟨nd, rfl⟩⟩; refine ⟨_, rfl, ?_⟩))
    go_ret
    exact ⟨sq, dr⟩
   rw [if_neg c3] at H; have c3b0 := decide_eq_false c3; clear c3
   by_cases c10 : (l0.length : Int) < (l1.length : Int)
   ·rw [if_pos c10] at H; have c10b0 := decide_eq_true c10
    have c10b1 : decide (l0.length < l1.length) = true := decide_eq_true (Int.ofNat_lt.mp c10)
    clear c10; obtain rfl := Option.some.inj H; go_wp2; go_ret
    exact ⟨sq, dr⟩
   rw [if_neg c10] at H; have c10b0 := decide_eq_false c10
   have c10b1 : decide (l0.length < l1.length) = false := decide_eq_false (fun h => c10 (Int.ofNat_lt.mpr h))
   clear c10; obtain rfl := Option.some.inj H; go_wp2; go_ret
   exact ⟨sq, dr⟩

/-! ### cmp_Or_int: function 34 -/
def cmp_Or_int.l0 : Nat → Int → List Int → Int → Int → Option (Int)
 | 0, _, _, _, _ => none
 | k + 1, x3, x6, x7, x8 => if x8 < x7 then (if 0 ≤ x8 then (if x8 < (x6.length : Int) then (if (rd x6 x8) = x3 then (cmp_Or_int.l0 k x3 x6 x7 (wrap64 (x8 + 1))) else (some (rd x6 x8))) else (none)) else (none)) else (some x3)
def cmp_Or_int.f (k : Nat) (l0 : List Int) : Option (Int) := cmp_Or_int.l0 k 0 l0 (l0.length : Int) 0
theorem cmp_Or_int.calls (k : Nat) (A0 : Option Addr) (c0 : Nat) (l0 : List Int) (r : Int) (w : World) (hr0 : Kd.C (Kd.int .i64) w A0 l0.length l0) (hc0 : l0.length ≤ c0) (h : cmp_Or_int.f k l0 = some r) :
  Calls Try.prog 34 #[.slice A0 l0.length c0] w fun e w' => e = .returned (.int .i64 r) ∧ Drawn0 w w' := by
 have HR0 := am hr0; have HC0 := am hc0; clear hr0 hc0
 have H : (cmp_Or_int.l0 k 0 l0 (l0.length : Int) 0) = some r := h
 clear h
 have H' := am H
 clear H; go_enter Try.func34, Try.ntmps34; go_wp2
 go_loopg [8] k (fun kq v8 w' => ∃ (x8_1 : Int), v8 = .int .i64 x8_1 ∧ Aside0 (cmp_Or_int.l0 kq 0 l0 (l0.length : Int) x8_1 = some r) ∧ Aside0 (kq ≤ k) ∧ Drawn0 w w')
 case atStart => exact ⟨(0), sq, H', ⟨Nat.le_refl _⟩, dr⟩
 case round =>
  clear H'; obtain ⟨x8_1, rfl, HA, HK1, ⟨m1, rfl⟩⟩ := hrel
  cases gk with
  | zero => exact absurd HA.out (by simp [cmp_Or_int.l0])
  | succ k1 =>
   have H := HA.out; clear HA; simp only [cmp_Or_int.l0] at H
   by_cases c2 : x8_1 < (l0.length : Int)
   ·rw [if_pos c2] at H; have c2b0 := decide_eq_true c2; clear c2
    replace H := it H; obtain ⟨c3b0, H⟩ := H; replace H := it H; obtain ⟨c4b0, H⟩ := H
    by_cases c5 : (rd l0 x8_1) = 0
    ·rw [if_pos c5] at H
     have c5b0 : ((rd l0 x8_1) == 0) = true := beq_iff_eq.mpr c5
     have c5b1 : ((rd l0 x8_1) != 0) = false := bne_eq_false_iff_eq.mpr c5
     clear c5
     have H' := am H
     clear H
     have p248 : 0 ≤ (x8_1 : Int) := of_decide_eq_true ad
     have q248 : x8_1 < (l0.length : Int) := of_decide_eq_true ad
     obtain ⟨ad248, e248, hx248_0⟩ := Kd.at_int HR0.out x8_1 p248 q248; cases e248
     replace p248 := eq_true p248; replace q248 := eq_true q248; go_wp2
     go_roundg k1
     case measure => have := HK1.out; omega
     case rel => exact ⟨(wrap64 (x8_1 + 1)), sq, H', ⟨b11_⟩, dr⟩
    rw [if_neg c5] at H
    have c5b0 : ((rd l0 x8_1) == 0) = false := beq_eq_false_iff_ne.mpr c5
    have c5b1 : ((rd l0 x8_1) != 0) = true := bne_iff_ne.mpr c5
    obtain rfl := Option.some.inj H
    have p248 : 0 ≤ (x8_1 : Int) := of_decide_eq_true ad
    have q248 : x8_1 < (l0.length : Int) := of_decide_eq_true ad
    obtain ⟨ad248, e248, hx248_0⟩ := Kd.at_int HR0.out x8_1 p248 q248; cases e248
    replace p248 := eq_true p248; replace q248 := eq_true q248; go_wp2; go_ret
    exact ⟨sq, dr⟩
   rw [if_neg c2] at H; have c2b0 := decide_eq_false c2; clear c2; obtain rfl := Option.some.inj H; go_wp2; go_ret
   exact ⟨sq, dr⟩
end Go.Proofs.Ytpljfjbhlboffaa.QFnExactMachineOf

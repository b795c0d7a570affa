import Derived.Test.YtdfnijaacnlfaaaQFnMachineGuessesx0
import Derived.Test.YtdfnijaacnlfaaaQFnMachineGuessesx12
import Derived.Test.YtdfnijaacnlfaaaQFnMachineGuessesx16
import Derived.Test.YtdfnijaacnlfaaaQFnMachineGuessesx20
import Derived.Test.YtdfnijaacnlfaaaVMSh2
namespace Go.Proofs.Ytdfnijaacnlfaaa.QFnMachineGuesses
open Go.RowKit Go.Proofs.YtdfnijaacnlfaaaW.PrintWords Go.Proofs.YtdfnijaacnlfaaaW.PrintLast Go.Proofs.YtdfnijaacnlfaaaW.PrintMore Go.Proofs.Ytdfnijaacnlfaaa.Sh
attribute [local go_sem] max2_int min2_int max_two min_two max_three min_three max_four min_four
set_option linter.unusedVariables false
set_option linter.unusedSimpArgs false
set_option maxHeartbeats 8000000
set_option maxRecDepth 100000
-- shrunk

/-! ### spec_MachineGuesses: function 24 -/
mutual
def spec_MachineGuesses.j0 : Nat → List (S95) → ByteArray → List ByteArray → Bool → Option (List ByteArray)
 | 0, _, _, _, _ => none
 | k + 1, x0, x1, x5, x17 => if x17 = true then (some x5) else ((spec_l1Near.f k x1).bind fun t632 => (spec_MachineGuesses.l0 k x0 x5 t632 0))
def spec_MachineGuesses.l0 : Nat → List (S95) → List ByteArray → List ByteArray → Int → Option (List ByteArray)
 | 0, _, _, _, _ => none
 | k + 1, x0, x5, x6, x7 => if x7 < (x6.length : Int) then (if 0 ≤ x7 then ((spec_l3Go.f k x0 (rdOf ByteArray.empty x6 x7)).bind fun t636 => (if t636 ≥ 0 then (if 0 ≤ t636 then (if t636 < (x0.length : Int) then (if (rd_T95 x0 t636).f0 = true then (if x5.length < 8796093022208 then (spec_MachineGuesses.l0 k x0 (x5 ++ [rdOf ByteArray.empty x6 x7]) x6 (wrap64 (x7 + 1))) else (none)) else (spec_MachineGuesses.l0 k x0 x5 x6 (wrap64 (x7 + 1)))) else (none)) else (none)) else (spec_MachineGuesses.l0 k x0 x5 x6 (wrap64 (x7 + 1))))) else (none)) else (some x5)
end
def spec_MachineGuesses.f (k : Nat) (l0 : List (S95)) (a1 : ByteArray) : Option (List ByteArray) := (some (([] : List ByteArray) : List ByteArray)).bind fun y627 => ((spec_MachineOk.f k l0).bind fun t630 => (if t630 = true then ((spec_l1Word.f k a1).bind fun t631 => (spec_MachineGuesses.j0 k l0 a1 y627 (!t631))) else (spec_MachineGuesses.j0 k l0 a1 y627 true)))
theorem spec_MachineGuesses.calls (k : Nat) (A0 : Option Addr) (c0 : Nat) (l0 : List (S95)) (a1 : ByteArray) (r : List ByteArray) (w : World) (hr0 : Kd.C k95 w A0 l0.length l0) (hc0 : l0.length ≤ c0) (h : spec_MachineGuesses.f k l0 a1 = some r) :
  Calls Try.prog 24 #[.slice A0 l0.length c0, .string a1] w fun e w' => ∃ v0_ : Value, e = .returned (v0_) ∧ Kd.R Kd.string 9 w' w.heap.size (fun _ => True) v0_ r ∧ Below w.heap.size w w' := by
 have HR0 := am hr0; have HC0 := am hc0; clear hr0 hc0; have HB := am (Below.refl w.heap.size w)
 have H := h; unfold spec_MachineGuesses.f at H
 clear h; obtain ⟨y627, hy627⟩ : ∃ y_ : List ByteArray, y_ = (([] : List ByteArray)) := ⟨_, rfl⟩
 replace H := bm H; rw [← hy627] at H
 have Ny627 := am hy627; clear hy627; have HC3 := am H; clear H; go_enter Try.func24, Try.ntmps24
 go_upto_region 2 with ((with_reducible refine gate_dst (N := 9) rfl ?_); refine Kd.R_lit Kd.string _ 9 ?hg (N := 9) ?hd (xs := ([] : List ByteArray)) (inner := []) (ok := fun _ => True) (okp := fun _ => True) ?hr ?hp (fun _ hk => hk) trivial (Below.refl _ _) (Nat.le_refl _) (by simp) ?_; (case hd => rfl); (case hg => rfl); (case hr => (go_simp; done)); (case hp => exact (Reps.none _ _)); intro v628 w4 ho5 hb hg_ hnew_; clear hg_ hnew_; (rw [← Ny627.out] at ho5); have HO629 := am (Kd.R_lower ho5 (below_size bel)); replace HB := am (below_step bel hb); clear hb ho5)
 go_cut [17] (fun v17 wc => ∃ (kq : Nat) (x17_2 : Bool), v17 = .bool x17_2 ∧ Aside0 (spec_MachineGuesses.j0 kq l0 a1 y627 x17_2 = some r) ∧ Aside0 (kq ≤ k) ∧ Aside0 (Kd.R Kd.string 9 wc w.heap.size (fun _ => True) v628 y627) ∧ Aside0 (Below w.heap.size w wc))
 case first =>
  have H := HC3.out; clear HC3; replace H := bs H; obtain ⟨t630, A60, H⟩ := H; have A6 := Aside0.mk A60; clear A60
  by_cases c7 : t630 = true
  ·subst c7
   rw [if_pos rfl] at H
   replace H := bs H; obtain ⟨t631, A80, H⟩ := H; have A8 := Aside0.mk A80; clear A80
   have H' := am H
   clear H
   go_wp2_with (first | ((with_reducible refine gate_callee (f := 25) rfl ?_); refine gl 11 Try.func25 #[.slice A0 l0.length c0] ?_; (with_reducible refine (spec_MachineOk.calls k _ _ l0 true _ ?side1 ?side2 A6.out).mono ?_); (case side1 => exact cq (Kd.C_below HR0.out HB.out)); (case side2 => exact HC0.out); rintro e w9 ⟨rfl, hb⟩; refine ⟨_, rfl, ?_⟩; replace HO629 := am (Kd.R_below (rq HO629.out) hb); replace HB := am (below_step bel hb); clear hb) | (go_at_call 71; (with_reducible refine (spec_l1Word.calls k a1 t631 _ A8.out).mono ?_); rintro e w' ⟨rfl, ⟨nd, rfl⟩⟩))
   go_meet
   case rel => exact ⟨_, (!t631), sq, H', ⟨b54_⟩, ⟨rq HO629.out⟩, ⟨bel⟩⟩
  replace c7 := Bool.eq_false_iff.mpr c7; subst c7
  rw [if_neg Bool.false_ne_true] at H
  have H' := am H
  clear H
  go_wp2_with ((with_reducible refine gate_callee (f := 25) rfl ?_); refine gl 11 Try.func25 #[.slice A0 l0.length c0] ?_; (with_reducible refine (spec_MachineOk.calls k _ _ l0 false _ ?side1 ?side2 A6.out).mono ?_); (case side1 => exact cq (Kd.C_below HR0.out HB.out)); (case side2 => exact HC0.out); rintro e w10 ⟨rfl, hb⟩; refine ⟨_, rfl, ?_⟩; replace HO629 := am (Kd.R_below (rq HO629.out) hb); replace HB := am (below_step bel hb); clear hb)
  go_meet
  case rel => exact ⟨_, (true), sq, H', ⟨b54_⟩, ⟨rq HO629.out⟩, ⟨bel⟩⟩
 case rest =>
  clear HC3; obtain ⟨kq, x17_2, rfl, HA, HJ2, HO_5, HB⟩ := hcut
  cases kq with
  | zero => exact absurd HA.out (by simp [spec_MachineGuesses.j0])
  | succ kj2 =>
   have H := HA.out; clear HA; simp only [spec_MachineGuesses.j0] at H
   by_cases c11 : x17_2 = true
   ·subst c11
    rw [if_pos rfl] at H
    obtain rfl := Option.some.inj H; go_wp2; go_ret
    exact ⟨_, eq_, b87_, bel⟩
   replace c11 := Bool.eq_false_iff.mpr c11; subst c11
   rw [if_neg Bool.false_ne_true] at H
   replace H := bs H; obtain ⟨t632, A120, H⟩ := H; have A12 := Aside0.mk A120; clear A120
   have H' := am H
   clear H
   go_wp2_with ((with_reducible refine gate_callee (f := 72) rfl ?_); refine gl 20 Try.func72 #[.string a1] ?_; (with_reducible refine (spec_l1Near.calls kj2 a1 t632 _ A12.out).mono ?_); rintro e w13 ⟨v633, rfl, ho0, hb⟩; refine ⟨_, rfl, ?_⟩; have HO634 := am (Kd.V_lower (Kd.V_mono (ok' := fun k_ => some k_ ≠ (v628 : Value).ownBlock) ho0 (fun k_ hk_ => (Kd.fresh' (Kd.R_lt (rq HO_5.out)) k_ hk_))) (below_size bel)); replace HO_5 := am (Kd.R_below (rq HO_5.out) hb); replace HB := am (below_step bel hb); clear hb; clear ho0)
   go_loopg [5, 7] kj2 (fun kq v5 v7 w' => ∃ (x5_2 : List ByteArray) (x7_2 : Int), v7 = .int .i64 x7_2 ∧ Aside0 (spec_MachineGuesses.l0 kq l0 x5_2 t632 x7_2 = some r) ∧ Aside0 (kq ≤ kj2) ∧ Aside0 (Kd.R Kd.string 9 w' w.heap.size (fun _ => True) v5 x5_2) ∧ Aside0 (Kd.V Kd.string 9 w' w.heap.size (fun k_ => some k_ ≠ (v5 : Value).ownBlock) v633 t632) ∧ Aside0 (Below w.heap.size w w'))
   case atStart => exact ⟨(y627), (0), sq, H', ⟨Nat.le_refl _⟩, ⟨rq HO_5.out⟩, ⟨vq HO634.out⟩, ⟨bel⟩⟩
   case round =>
    clear H'; obtain ⟨x5_2, x7_2, rfl, HA, HK2, HO_5, HO_6, HB⟩ := hrel
    cases gk with
    | zero => exact absurd HA.out (by simp [spec_MachineGuesses.l0])
    | succ k2 =>
     have H := HA.out; clear HA; simp only [spec_MachineGuesses.l0] at H
     by_cases c14 : x7_2 < (t632.length : Int)
     ·rw [if_pos c14] at H; have c14b0 := decide_eq_true c14; clear c14
      replace H := it H; obtain ⟨c15b0, H⟩ := H; replace H := bs H; obtain ⟨t636, A160, H⟩ := H; have A16 := Aside0.mk A160; clear A160
      by_cases c17 : t636 ≥ 0
      ·rw [if_pos c17] at H; have c17b0 := decide_eq_true c17; clear c17
       replace H := it H; obtain ⟨c18b0, H⟩ := H
       replace H := it H; obtain ⟨c19b0, H⟩ := H; obtain ⟨bq20, hbq20⟩ : ∃ b_ : Bool, b_ = ((rd_T95 l0 t636).f0) := ⟨_, rfl⟩
       replace H : (if bq20 = true then (if x5_2.length < 8796093022208 then (spec_MachineGuesses.l0 k2 l0 (x5_2 ++ [rdOf ByteArray.empty t632 x7_2]) t632 (wrap64 (x7_2 + 1))) else (none)) else (spec_MachineGuesses.l0 k2 l0 x5_2 t632 (wrap64 (x7_2 + 1)))) = some r := by rw [← hbq20] at H; exact H
       have Nbq20 := am hbq20; clear hbq20
       by_cases c21 : bq20 = true
       ·subst c21
        rw [if_pos rfl] at H
        replace H := ip H; obtain ⟨c22, H⟩ := H; have LMc22 := Aside0.mk c22; clear c22; obtain ⟨y639, hy639⟩ : ∃ y_ : List ByteArray, y_ = (x5_2 ++ [rdOf ByteArray.empty t632 x7_2]) := ⟨_, rfl⟩
        rw [← hy639] at H
        have Ny639 := am hy639; clear hy639
        have H' := am H
        clear H; obtain ⟨Ao23, co23, eo23⟩ := Kd.V_slice HO_6.out; subst eo23
        have p635 : 0 ≤ (x7_2 : Int) := of_decide_eq_true ad
        have q635 : x7_2 < (t632.length : Int) := of_decide_eq_true ad
        obtain ⟨ad635, e635, hx635_0⟩ := Kd.at_string (Kd.V_reads' HO_6.out).2.2 x7_2 p635 q635; cases e635; replace p635 := eq_true p635; replace q635 := eq_true q635
        go_wp2_with (first | ((with_reducible refine gate_callee (f := 73) rfl ?_); refine gl 32 Try.func73 #[.slice A0 l0.length c0, .string (rdOf ByteArray.empty t632 x7_2)] ?_; (with_reducible refine (spec_l3Go.calls k2 _ _ l0 (rdOf ByteArray.empty t632 x7_2) t636 _ ?side1 ?side2 A16.out).mono ?_); (case side1 => exact cq (Kd.C_below HR0.out HB.out)); (case side2 => exact HC0.out); rintro e w' ⟨rfl, ⟨nd, rfl⟩⟩; refine ⟨_, rfl, ?_⟩; have p637 : 0 ≤ (t636 : Int) := of_decide_eq_true ad; have q637 : t636 < (l0.length : Int) := of_decide_eq_true ad; obtain ⟨ad637, A637_1, c637_1, e637, hx637_0, hx637_1, hl637_1, hi637_1⟩ := at_T95 HR0.out t636 p637 q637; rw [← Nbq20.out] at hx637_0; cases e637; replace hx637_0 := kp HB.out hx637_0; replace hx637_1 := kp HB.out hx637_1; have HR637_1 := am hi637_1; have HC637_1 := am hl637_1; clear hi637_1 hl637_1; replace p637 := eq_true p637; replace q637 := eq_true q637; have p638 : 0 ≤ (x7_2 : Int) := of_decide_eq_true ad; have q638 : x7_2 < (t632.length : Int) := of_decide_eq_true ad; obtain ⟨ad638, e638, hx638_0⟩ := Kd.at_string (Kd.V_reads' HO_6.out).2.2 x7_2 p638 q638; obtain rfl : ad635 = ad638 := (by injection e638); replace p638 := eq_true p638; replace q638 := eq_true q638) | ((with_reducible refine gate_builtin (b := .append) (xs := #[.tmp 42, .tmp 47]) rfl ?_); at_builtin; refine Kd.R_append Kd.string (w0 := w) w.heap.size rfl (.tmp 42) (.tmp 47) 27 9 (.string ⟨#[]⟩) 16 rfl Try.underlying27 info9 rfl (by decide) (by omega) u5 x5_2 (rdOf ByteArray.empty t632 x7_2) [.string (rdOf ByteArray.empty t632 x7_2)] (fun _ => True) (fun _ => False) rfl rfl ?aP (fun _ hk => hk.elim) ?aF ?aO ?aB ?aS ?aL ?_; (case aP => exact rfl); (case aB => exact bel); (case aF => exact (fun _ _ => trivial)); (case aO => exact (rq HO_5.out)); (case aS => exact (below_size bel)); (case aL => have := LMc22.out; omega); intro v640 w24 ho hb hg hat; rw [← Ny639.out] at ho; replace HO_6 := am (Kd.V_afterv (ok := (fun _ => True)) (vq (Kd.V_mono HO_6.out (fun _ hk => ⟨trivial, hk⟩))) hg hat); replace HB := am (hb); have HO641 := am (ho); clear HO_5; clear ho hb hg hat))
        go_roundg k2
        case measure => have := HJ2.out; have := HK2.out; omega
        case rel => exact ⟨(y639), (wrap64 (x7_2 + 1)), sq, H', ⟨by have := HJ2.out; have := HK2.out; omega⟩, ⟨rq HO641.out⟩, ⟨vq (Kd.V_mono HO_6.out (fun _ hk => hk.2))⟩, ⟨bel⟩⟩
       replace c21 := Bool.eq_false_iff.mpr c21; subst c21
       rw [if_neg Bool.false_ne_true] at H
       have H' := am H
       clear H; obtain ⟨Ao25, co25, eo25⟩ := Kd.V_slice HO_6.out; subst eo25
       have p635 : 0 ≤ (x7_2 : Int) := of_decide_eq_true ad
       have q635 : x7_2 < (t632.length : Int) := of_decide_eq_true ad
       obtain ⟨ad635, e635, hx635_0⟩ := Kd.at_string (Kd.V_reads' HO_6.out).2.2 x7_2 p635 q635; cases e635; replace p635 := eq_true p635; replace q635 := eq_true q635
       go_wp2_with ((with_reducible refine gate_callee (f := 73) rfl ?_); refine gl 32 Try.func73 #[.slice A0 l0.length c0, .string (rdOf ByteArray.empty t632 x7_2)] ?_; (with_reducible refine (spec_l3Go.calls k2 _ _ l0 (rdOf ByteArray.empty t632 x7_2) t636 _ ?side1 ?side2 A16.out).mono ?_); (case side1 => exact cq (Kd.C_below HR0.out HB.out)); (case side2 => exact HC0.out); rintro e w' ⟨rfl, ⟨nd, rfl⟩⟩; refine ⟨_, rfl, ?_⟩; have p637 : 0 ≤ (t636 : Int) := of_decide_eq_true ad; have q637 : t636 < (l0.length : Int) := of_decide_eq_true ad; obtain ⟨ad637, A637_1, c637_1, e637, hx637_0, hx637_1, hl637_1, hi637_1⟩ := at_T95 HR0.out t636 p637 q637; rw [← Nbq20.out] at hx637_0; cases e637; replace hx637_0 := kp HB.out hx637_0; replace hx637_1 := kp HB.out hx637_1; have HR637_1 := am hi637_1; have HC637_1 := am hl637_1; clear hi637_1 hl637_1; replace p637 := eq_true p637; replace q637 := eq_true q637)
       go_roundg k2
       case measure => have := HJ2.out; have := HK2.out; omega
       case rel => exact ⟨(x5_2), (wrap64 (x7_2 + 1)), sq, H', ⟨by have := HJ2.out; have := HK2.out; omega⟩, ⟨rq HO_5.out⟩, ⟨vq HO_6.out⟩, ⟨bel⟩⟩
      rw [if_neg c17] at H; have c17b0 := decide_eq_false c17; clear c17
      have H' := am H
      clear H; obtain ⟨Ao26, co26, eo26⟩ := Kd.V_slice HO_6.out; subst eo26
      have p635 : 0 ≤ (x7_2 : Int) := of_decide_eq_true ad
      have q635 : x7_2 < (t632.length : Int) := of_decide_eq_true ad
      obtain ⟨ad635, e635, hx635_0⟩ := Kd.at_string (Kd.V_reads' HO_6.out).2.2 x7_2 p635 q635; cases e635; replace p635 := eq_true p635; replace q635 := eq_true q635
      go_wp2_with ((with_reducible refine gate_callee (f := 73) rfl ?_); refine gl 32 Try.func73 #[.slice A0 l0.length c0, .string (rdOf ByteArray.empty t632 x7_2)] ?_; (with_reducible refine (spec_l3Go.calls k2 _ _ l0 (rdOf ByteArray.empty t632 x7_2) t636 _ ?side1 ?side2 A16.out).mono ?_); (case side1 => exact cq (Kd.C_below HR0.out HB.out)); (case side2 => exact HC0.out); rintro e w' ⟨rfl, ⟨nd, rfl⟩⟩; refine ⟨_, rfl, ?_⟩)
      go_roundg k2
      case measure => have := HJ2.out; have := HK2.out; omega
      case rel => exact ⟨(x5_2), (wrap64 (x7_2 + 1)), sq, H', ⟨by have := HJ2.out; have := HK2.out; omega⟩, ⟨rq HO_5.out⟩, ⟨vq HO_6.out⟩, ⟨bel⟩⟩
     rw [if_neg c14] at H; have c14b0 := decide_eq_false c14; clear c14; obtain rfl := Option.some.inj H; obtain ⟨Ao27, co27, eo27⟩ := Kd.V_slice HO_6.out; subst eo27; go_wp2; go_ret
     exact ⟨_, eq_, b87_, bel⟩

/-! ### spec_WordOk: function 26 -/
def spec_WordOk.f (k : Nat) (a0 : ByteArray) : Option (Bool) := (spec_l1Word.f k a0).bind fun t642 => (some t642)
theorem spec_WordOk.calls (k : Nat) (a0 : ByteArray) (r : Bool) (w : World) (h : spec_WordOk.f k a0 = some r) :
  Calls Try.prog 26 #[.string a0] w fun e w' => e = .returned (.bool r) ∧ Drawn0 w w' := by
 have H := h; unfold spec_WordOk.f at H
 clear h; replace H := bs H; obtain ⟨t642, A20, H⟩ := H; have A2 := Aside0.mk A20; clear A20; obtain rfl := Option.some.inj H; go_enter Try.func26, Try.ntmps26
 go_wp2_with ((with_reducible refine gate_callee (f := 71) rfl ?_); refine gl 4 Try.func71 #[.string a0] ?_; (with_reducible refine (spec_l1Word.calls k a0 t642 _ A2.out).mono ?_); rintro e w' ⟨rfl, ⟨nd, rfl⟩⟩; refine ⟨_, rfl, ?_⟩)
 go_ret
 exact ⟨sq, dr⟩
-- shrunk

/-! ### impl_counts: function 76 -/
mutual
def impl_counts.l0 : Nat → List (S95) → List Int → Int → Option (List Int)
 | 0, _, _, _ => none
 | k + 1, x0, x3, x4 => if x4 ≥ 0 then (if 0 ≤ x4 then (if x4 < (x0.length : Int) then (if (rd_T95 x0 x4).f0 = true then (if x4 < (x3.length : Int) then (impl_counts.j1 k x0 (x3.set (x4 : Int).toNat 1) x4) else (none)) else (impl_counts.j1 k x0 x3 x4)) else (none)) else (none)) else (some x3)
def impl_counts.j1 : Nat → List (S95) → List Int → Int → Option (List Int)
 | 0, _, _, _ => none
 | k + 1, x0, x3, x4 => if 0 ≤ x4 then (if x4 < (x0.length : Int) then (impl_counts.l1 k x0 x3 x4 ((rd_T95 x0 x4).f1) (((rd_T95 x0 x4).f1).length : Int) 0) else (none)) else (none)
def impl_counts.l1 : Nat → List (S95) → List Int → Int → List (S97) → Int → Int → Option (List Int)
 | 0, _, _, _, _, _, _ => none
 | k + 1, x0, x3, x4, x29, x30, x31 => if x31 < x30 then (if 0 ≤ x31 then (if x31 < (x29.length : Int) then (if 0 ≤ x4 then (if x4 < (x3.length : Int) then (if 0 ≤ ((rd_T97 x29 x31).f1) then (if ((rd_T97 x29 x31).f1) < (x3.length : Int) then (impl_counts.l1 k x0 (x3.set (x4 : Int).toNat (mn (wrap64 ((rd x3 x4) + (rd x3 ((rd_T97 x29 x31).f1)))) 1000000000)) x4 x29 x30 (wrap64 (x31 + 1))) else (none)) else (none)) else (none)) else (none)) else (none)) else (none)) else (impl_counts.l0 k x0 x3 (wrap64 (x4 - 1)))
end
def impl_counts.f (k : Nat) (l0 : List (S95)) : Option (List Int) := if 0 ≤ (l0.length : Int) then (if l0.length ≤ 35184372088832 then (impl_counts.l0 k l0 (List.replicate l0.length 0) (wrap64 ((l0.length : Int) - 1))) else (none)) else (none)
def impl_counts.T10 : Bool × List (List Nat × List Nat) := (true, [([], []), ([], []), ([], []), ([], []), ([2, 3], [2, 3]), ([4], [4]), ([], []), ([], []), ([7], [7]), ([6, 8], [6, 8]), ([9], [9]), ([5, 10], [5, 10]), ([11], [11]), ([0, 1, 0, 1, 2, 3, 4, 5, 6, 7, 8, 9, 10, 11, 12], [0, 1]), ([13, 12, 0, 1, 2, 3, 4, 5, 6, 7, 8, 9, 10, 11, 12], [12, 13])])
def impl_counts.B10 : List Nat := [0, 0, 0, 0, 12, 28, 0, 0, 128, 448, 960, 2044, 4092, 8191, 16383]
theorem impl_counts.tab10 : rtab .any (opsOf Try.f76 10) = impl_counts.T10 := by kernel_rfl
theorem impl_counts.bits10 : waitsOk impl_counts.T10.2 impl_counts.B10 = true := by kernel_rfl
theorem impl_counts.calls (k : Nat) (A0 : Option Addr) (c0 : Nat) (l0 : List (S95)) (r : List Int) (w : World) (hr0 : Kd.C k95 w A0 l0.length l0) (hc0 : l0.length ≤ c0) (h : impl_counts.f k l0 = some r) :
  Calls Try.prog 76 #[.slice A0 l0.length c0] w fun e w' => ∃ v0_ : Value, e = .returned (v0_) ∧ Kd.R (Kd.int .i64) 3 w' w.heap.size (fun _ => True) v0_ r ∧ Below w.heap.size w w' := by
 have hu97 := Try.underlying97; have HR0 := am hr0; have HC0 := am hc0; clear hr0 hc0; have HB := am (Below.refl w.heap.size w)
 have H := h; unfold impl_counts.f at H
 clear h
 replace H := ip H; obtain ⟨c2, H⟩ := H; have c2b0 := eq_true c2
 have c2b1 : decide (0 ≤ (l0.length : Int)) = true := decide_eq_true c2
 clear c2
 replace H := ip H; obtain ⟨c3, H⟩ := H; have c3b0 := eq_true c3
 have c3b1 : decide (l0.length ≤ 35184372088832) = true := decide_eq_true c3
 clear c3; obtain ⟨y643, hy643⟩ : ∃ y_ : List Int, y_ = (List.replicate l0.length 0) := ⟨_, rfl⟩
 rw [← hy643] at H
 have Ny643 := am hy643; clear hy643
 have H' := am H
 clear H; go_enter Try.func76, Try.ntmps76
 go_wp2_with ((with_reducible refine gate_dst (N := 9) rfl ?_); refine Kd.R_make (Kd.int .i64) _ 3 rfl (N := 9) rfl 99 _ _ rfl (l0.length : Int) rfl rfl Try.underlying99 (.int .i64 0) 8 info3 rfl (by decide) (by omega) 0 (ok := fun _ => True) (okp := fun _ => True) rfl (fun _ hk => hk) trivial (of_decide_eq_true ad) (Nat.le_trans (Nat.mul_le_mul_right _ (of_decide_eq_true ad : (l0.length : Int).toNat ≤ 35184372088832)) (by omega)) (Below.refl _ _) (Nat.le_refl _) ?_; intro v644 w4 ho5 hb hg_ hnew_; clear hg_ hnew_; (simp only [Int.toNat_natCast] at ho5; rw [← Ny643.out] at ho5); have HO645 := am (Kd.R_lower ho5 (below_size bel)); replace HB := am (below_step bel hb); clear hb ho5)
 go_loopg [4] k (fun kq v4 w' => ∃ (x3_1 : List Int) (x4_1 : Int), v4 = .int .i64 x4_1 ∧ Aside0 (impl_counts.l0 kq l0 x3_1 x4_1 = some r) ∧ Aside0 (kq ≤ k) ∧ Aside0 (Kd.R (Kd.int .i64) 3 w' w.heap.size (fun _ => True) v644 x3_1) ∧ Aside0 (Below w.heap.size w w'))
 case atStart => exact ⟨(y643), (wrap64 ((l0.length : Int) - 1)), sq, H', ⟨Nat.le_refl _⟩, ⟨rq HO645.out⟩, ⟨bel⟩⟩
 case round =>
  clear H'; clear c2b0 c2b1 c3b0 c3b1; obtain ⟨x3_1, x4_1, rfl, HA, HK1, HO_3, HB⟩ := hrel
  cases gk with
  | zero => exact absurd HA.out (by simp [impl_counts.l0])
  | succ k1 =>
   have H := HA.out; clear HA; simp only [impl_counts.l0] at H
   by_cases c6 : x4_1 ≥ 0
   ·rw [if_pos c6] at H; have c6b0 := decide_eq_true c6; clear c6
    replace H := it H; obtain ⟨c7b0, H⟩ := H; replace H := it H; obtain ⟨c8b0, H⟩ := H; have HC9 := am H; clear H
    have p646 : 0 ≤ (x4_1 : Int) := of_decide_eq_true ad
    have q646 : x4_1 < (l0.length : Int) := of_decide_eq_true ad
    obtain ⟨ad646, A646_1, c646_1, e646, hx646_0, hx646_1, hl646_1, hi646_1⟩ := at_T95 HR0.out x4_1 p646 q646; cases e646; replace hx646_0 := kp HB.out hx646_0; replace hx646_1 := kp HB.out hx646_1; have HR646_1 := am hi646_1; have HC646_1 := am hl646_1; clear hi646_1 hl646_1; replace p646 := eq_true p646; replace q646 := eq_true q646
    go_upto_if 21 with (fail)
    go_cut [] (fun wc => ∃ (kq : Nat) (x3_8 : List Int), Aside0 (impl_counts.j1 kq l0 x3_8 x4_1 = some r) ∧ Aside0 (kq ≤ k1) ∧ Aside0 (Kd.R (Kd.int .i64) 3 wc w.heap.size (fun _ => True) v644 x3_8) ∧ Aside0 (Below w.heap.size w wc))
    case first =>
     have H := HC9.out; clear HC9; obtain ⟨bq10, hbq10⟩ : ∃ b_ : Bool, b_ = ((rd_T95 l0 x4_1).f0) := ⟨_, rfl⟩
     replace H : (if bq10 = true then (if x4_1 < (x3_1.length : Int) then (impl_counts.j1 k1 l0 (x3_1.set (x4_1 : Int).toNat 1) x4_1) else (none)) else (impl_counts.j1 k1 l0 x3_1 x4_1)) = some r := by rw [← hbq10] at H; exact H
     have Nbq10 := am hbq10; clear hbq10
     rw [← Nbq10.out]
     by_cases c11 : bq10 = true
     ·subst c11
      rw [if_pos rfl] at H
      replace H := it H; obtain ⟨c12b0, H⟩ := H; obtain ⟨y647, hy647⟩ : ∃ y_ : List Int, y_ = (x3_1.set (x4_1 : Int).toNat 1) := ⟨_, rfl⟩
      rw [← hy647] at H
      have Ny647 := am hy647; clear hy647
      have H' := am H
      clear H
      have p13 : 0 ≤ (x4_1 : Int) := of_decide_eq_true ad
      have q13 : (x4_1 : Int) < ((x3_1.length : Int) : Int) := of_decide_eq_true ad
      obtain ⟨go13, co13, eo13, gb13, gl13, cl13, HG13⟩ := Kd.R_form HO_3.out (by omega)
      (cases eo13)
      have GB13 := Aside0.mk gb13; have GG13 := am HG13; clear gb13 gl13 HG13; obtain ⟨hx13_0, hf13_0⟩ := Kd.R_celln 0 HO_3.out (x4_1 : Int) p13 q13; replace p13 := eq_true p13; replace q13 := eq_true q13; have HP14 := Kd.R_putg HO_3.out (x4_1 : Int) 1
      go_wp2_with ((with_reducible refine gate_store (t := 3) (p := 24) rfl ?_); refine store_event (t := 3) (p := 24) (v := ?vo_w15) (w1 := (wr.setCell ⟨go13, (x4_1 : Int).toNat, none⟩ (.int .i64 1))) ?hg ?ho ?hn ?hr ?_; (case ho => rfl); (case hg => rfl); (case hn => rfl); (case hr => (go_simp; done)); intro w15 hw; have hg : wr.grownBy w15 (some go13) := (by rw [hw]; exact HP14.2); have hp_ : Kd.R (Kd.int .i64) 3 w15 w.heap.size (fun _ => True) (.slice (some ⟨go13, 0, none⟩) x3_1.length co13) y647 := (by rw [hw, Ny647.out]; exact HP14.1); clear HP14; replace HO_3 := am (hp_); replace HB := am ((by rw [hw]; exact below_set (HB.out) GB13.out : Below w.heap.size w w15)); clear hg hw hp_)
      go_meet
      case rel => exact ⟨_, (y647), H', ⟨b39_⟩, ⟨rq HO_3.out⟩, ⟨bel⟩⟩
     replace c11 := Bool.eq_false_iff.mpr c11; subst c11
     rw [← Nbq10.out] at hx646_0
     rw [if_neg Bool.false_ne_true] at H
     have H' := am H
     clear H; go_wp2
     go_meet
     case rel => exact ⟨_, (x3_1), H', ⟨b39_⟩, ⟨rq HO_3.out⟩, ⟨bel⟩⟩
    case rest =>
     clear HC9; clear c6b0 c7b0 c8b0 hx646_0 hx646_1 p646 q646; obtain ⟨kq, x3_8, HA, HJ8, HO_3, HB⟩ := hcut
     cases kq with
     | zero => exact absurd HA.out (by simp [impl_counts.j1])
     | succ kj8 =>
      have H := HA.out; clear HA; simp only [impl_counts.j1] at H; replace H := it H; obtain ⟨c16b0, H⟩ := H; replace H := it H; obtain ⟨c17b0, H⟩ := H
      have H' := am H
      clear H
      have p648 : 0 ≤ (x4_1 : Int) := of_decide_eq_true ad
      have q648 : x4_1 < (l0.length : Int) := of_decide_eq_true ad
      obtain ⟨ad648, A648_1, c648_1, e648, hx648_0, hx648_1, hl648_1, hi648_1⟩ := at_T95 HR0.out x4_1 p648 q648
      obtain rfl : ad646 = ad648 := (by injection e648)
      replace hx648_0 := kp HB.out hx648_0; replace hx648_1 := kp HB.out hx648_1; have HR648_1 := am hi648_1; have HC648_1 := am hl648_1; clear hi648_1 hl648_1; replace p648 := eq_true p648; replace q648 := eq_true q648; go_wp2
      go_loopg [31] kj8 (fun kq v31 w' => ∃ (x3_3 : List Int) (x31_3 : Int), v31 = .int .i64 x31_3 ∧ Aside0 (impl_counts.l1 kq l0 x3_3 x4_1 ((rd_T95 l0 x4_1).f1) (((rd_T95 l0 x4_1).f1).length : Int) x31_3 = some r) ∧ Aside0 (kq ≤ kj8) ∧ Aside0 (Kd.R (Kd.int .i64) 3 w' w.heap.size (fun _ => True) v644 x3_3) ∧ Aside0 (Below w.heap.size w w'))
      case atStart => exact ⟨(x3_8), (0), sq, H', ⟨Nat.le_refl _⟩, ⟨rq HO_3.out⟩, ⟨bel⟩⟩
      case round =>
       clear H'; clear c16b0 c17b0 hx648_0 hx648_1 p648 q648; obtain ⟨x3_3, x31_3, rfl, HA, HK3, HO_3, HB⟩ := hrel
       cases gk with
       | zero => exact absurd HA.out (by simp [impl_counts.l1])
       | succ k3 =>
        have H := HA.out; clear HA; simp only [impl_counts.l1] at H
        by_cases c18 : x31_3 < (((rd_T95 l0 x4_1).f1).length : Int)
        ·rw [if_pos c18] at H; have c18b0 := decide_eq_true c18; clear c18
         replace H := it H; obtain ⟨c19b0, H⟩ := H; replace H := it H; obtain ⟨c20b0, H⟩ := H; replace H := it H; obtain ⟨c21b0, H⟩ := H; replace H := it H; obtain ⟨c22b0, H⟩ := H; replace H := it H; obtain ⟨c23b0, H⟩ := H
         replace H := it H; obtain ⟨c24b0, H⟩ := H; obtain ⟨ji25, hji25⟩ : ∃ j_ : Int, (mn (wrap64 ((rd x3_3 x4_1) + (rd x3_3 ((rd_T97 ((rd_T95 l0 x4_1).f1) x31_3).f1)))) 1000000000) = j_ := ⟨_, rfl⟩
         rw [hji25] at H
         have hji25_ : (if 1000000000 < (wrap64 ((rd x3_3 x4_1) + (rd x3_3 ((rd_T97 ((rd_T95 l0 x4_1).f1) x31_3).f1)))) then 1000000000 else (wrap64 ((rd x3_3 x4_1) + (rd x3_3 ((rd_T97 ((rd_T95 l0 x4_1).f1) x31_3).f1))))) = ji25 := hji25
         obtain ⟨y653, hy653⟩ : ∃ y_ : List Int, y_ = (x3_3.set (x4_1 : Int).toNat (ji25)) := ⟨_, rfl⟩
         rw [← hy653] at H
         have Ny653 := am hy653; clear hy653
         have H' := am H
         clear H
         have p649 : 0 ≤ (x31_3 : Int) := of_decide_eq_true ad
         have q649 : x31_3 < (((rd_T95 l0 x4_1).f1).length : Int) := of_decide_eq_true ad
         obtain ⟨ad649, e649, hx649_0, hx649_1⟩ := at_T97 HR648_1.out x31_3 p649 q649; cases e649; replace hx649_0 := kp HB.out hx649_0; replace hx649_1 := kp HB.out hx649_1; replace p649 := eq_true p649; replace q649 := eq_true q649
         try go_wp2_with ((with_reducible refine gate_dst (N := 6) rfl ?_); refine bx 6 (cs := #[.int .i64 0, .int .i64 0]) (t := 97) ?_; intro gb650 hg w27 hbox hb; replace HO_3 := am (Kd.R_below (rq HO_3.out) hb); have BK650 := am (hbox); have GW650 := am ((b17_ : w.heap.size ≤ gb650)); have GE650 := am ((b17_ : w.heap.size ≤ gb650)); replace HB := am (below_step bel hb); clear hb hbox hg; have ⟨hcz28_0, hcz28_1, hfz28_0, hfz28_1⟩ := b2c BK650.out)
         have n0_ : Aside0 (Kd.R (Kd.int .i64) 3 ((w27.setCell ⟨gb650, 0, none⟩ (.int .i64 ((rd_T97 ((rd_T95 l0 x4_1).f1) x31_3).f0))).setCell ⟨gb650, 1, none⟩ (.int .i64 ((rd_T97 ((rd_T95 l0 x4_1).f1) x31_3).f1))) w.heap.size (fun _ => True) v644 x3_3) := ⟨rq (Kd.R_mono (Kd.R_far (p := ⟨gb650, 1, none⟩) (Kd.R_far (p := ⟨gb650, 0, none⟩) (Kd.R_types HO_3.out BK650.out (by decide)) (fun _ hk => hk.2) (.int .i64 ((rd_T97 ((rd_T95 l0 x4_1).f1) x31_3).f0))) (fun _ hk => hk.2) (.int .i64 ((rd_T97 ((rd_T95 l0 x4_1).f1) x31_3).f1))) (fun _ hk => trivial))⟩
         have n1_ : Aside0 (((w27.setCell ⟨gb650, 0, none⟩ (.int .i64 ((rd_T97 ((rd_T95 l0 x4_1).f1) x31_3).f0))).setCell ⟨gb650, 1, none⟩ (.int .i64 ((rd_T97 ((rd_T95 l0 x4_1).f1) x31_3).f1))).heap[gb650]? = some (.cells #[.int .i64 ((rd_T97 ((rd_T95 l0 x4_1).f1) x31_3).f0), .int .i64 ((rd_T97 ((rd_T95 l0 x4_1).f1) x31_3).f1)] 97 (0, 0))) := ⟨by (with_reducible repeat (fail)); refine blk_put (cs := #[.int .i64 ((rd_T97 ((rd_T95 l0 x4_1).f1) x31_3).f0), .int .i64 0]) ?_ 1 _ rfl; (with_reducible repeat (fail)); refine blk_put (cs := #[.int .i64 0, .int .i64 0]) ?_ 0 _ rfl; (with_reducible repeat (fail)); exact BK650.out⟩
         have n2_ : Aside0 (Below w.heap.size w ((w27.setCell ⟨gb650, 0, none⟩ (.int .i64 ((rd_T97 ((rd_T95 l0 x4_1).f1) x31_3).f0))).setCell ⟨gb650, 1, none⟩ (.int .i64 ((rd_T97 ((rd_T95 l0 x4_1).f1) x31_3).f1)))) := ⟨bel1 GE650.out⟩
         clear HO_3 BK650 HB; generalize ((w27.setCell ⟨gb650, 0, none⟩ (.int .i64 ((rd_T97 ((rd_T95 l0 x4_1).f1) x31_3).f0))).setCell ⟨gb650, 1, none⟩ (.int .i64 ((rd_T97 ((rd_T95 l0 x4_1).f1) x31_3).f1))) = w29 at n0_ n1_ n2_ ⊢; have HO_3 := n0_; have BK650 := n1_; have HB := n2_; clear n0_ n1_ n2_; replace HO_3 := am (Kd.R_drew HO_3.out); replace BK650 := am (blk_drew BK650.out); replace HB := am (below_drew1 HB.out); obtain ⟨Ao31, co31, eo31⟩ := Kd.R_slice HO_3.out
         (subst eo31)
         have p651 : 0 ≤ (x4_1 : Int) := of_decide_eq_true ad
         have q651 : x4_1 < (x3_3.length : Int) := of_decide_eq_true ad
         obtain ⟨ad651, e651, hx651_0⟩ := Kd.at_int (Kd.R_reads' HO_3.out).2.2 x4_1 p651 q651; cases e651; replace p651 := eq_true p651; replace q651 := eq_true q651
         have p652 : 0 ≤ (((rd_T97 ((rd_T95 l0 x4_1).f1) x31_3).f1) : Int) := of_decide_eq_true ad
         have q652 : ((rd_T97 ((rd_T95 l0 x4_1).f1) x31_3).f1) < (x3_3.length : Int) := of_decide_eq_true ad
         obtain ⟨ad652, e652, hx652_0⟩ := Kd.at_int (Kd.R_reads' HO_3.out).2.2 ((rd_T97 ((rd_T95 l0 x4_1).f1) x31_3).f1) p652 q652
         obtain rfl : ad651 = ad652 := (by injection e652)
         replace p652 := eq_true p652; replace q652 := eq_true q652
         have p26 : 0 ≤ (x4_1 : Int) := of_decide_eq_true ad
         have q26 : (x4_1 : Int) < ((x3_3.length : Int) : Int) := of_decide_eq_true ad
         obtain ⟨go26, co26, eo26, gb26, gl26, cl26, HG26⟩ := Kd.R_form HO_3.out (by omega)
         (cases eo26)
         have GB26 := Aside0.mk gb26; have GG26 := am HG26; clear gb26 gl26 HG26
         (simp only [add_plain] at hx651_0)
         (simp only [add_plain] at hx652_0)
         obtain ⟨hx26_0, hf26_0⟩ := Kd.R_celln 0 HO_3.out (x4_1 : Int) p26 q26; replace p26 := eq_true p26; replace q26 := eq_true q26; have HP32 := Kd.R_putn HO_3.out (x4_1 : Int) ji25; rw [← Ny653.out] at HP32; have HQ32 := am HP32; clear HP32
         refine start_ (n := 15) (S := fun w' => w'.cell? ⟨gb650, 0, none⟩ = some (.int .i64 ((rd_T97 ((rd_T95 l0 x4_1).f1) x31_3).f0)) ∧ w'.cell? ⟨gb650, 1, none⟩ = some (.int .i64 ((rd_T97 ((rd_T95 l0 x4_1).f1) x31_3).f1)) ∧ w'.cell? ⟨go26, (x4_1).toNat, none⟩ = some (.int .i64 (rd x3_3 x4_1)) ∧ w'.cell? ⟨go26, (((rd_T97 ((rd_T95 l0 x4_1).f1) x31_3).f1)).toNat, none⟩ = some (.int .i64 (rd x3_3 ((rd_T97 ((rd_T95 l0 x4_1).f1) x31_3).f1)))) (ds := [14]) #[false, false, false, false, false, false, false, false, false, false, false, false, false, false, false] (by kernel_rfl) rfl rfl ⟨bd BK650.out 0, bd BK650.out 1, hx651_0, hx652_0⟩ (fun hHeld => ?_); refine with_tabW impl_counts.tab10 impl_counts.bits10 (fun HT_ HW_ => ?_)
         generalize w29.drew = w30 at HO_3 BK650 HB GG26 HQ32 hf26_0 hx26_0 hx651_0 hx652_0 hHeld ⊢; refine pu 0 35 ?_; refine pu 1 36 ?_; refine pu 2 37 ?_; refine pu 3 38 ?_; refine pu 4 39 ?_; refine pu 6 41 ?_; refine pu 7 42 ?_; refine tk4 5 40 hHeld ?_; refine tk4 8 43 hHeld ?_; refine pu 9 44 ?_; refine tk4 10 45 hHeld ?_; refine pu 11 46 ?_; refine pu 12 47 ?_; refine pu 13 48 ?_
         refine last_ (i := 14) (N := none) #[true, true, true, true, true, true, true, true, true, true, true, true, true, true, true] rfl rfl (one_of HT_.out (by kernel_rfl)) (by decide) (fun K hK => ?_)
         refine skip_ (w1 := ?_) (by rfl) rfl ?_ ?_
         rotate_left
         ·go_simp
          rfl
         refine hK.out _ _ ?_; clear hK K
         refine done_ (done_of HT_.out (by kernel_rfl)) ?_
         try go_wp2
         go_roundg k3
         case measure => have := HK1.out; have := HJ8.out; have := HK3.out; omega
         case rel => exact ⟨(y653), (wrap64 (x31_3 + 1)), sq, H', ⟨b105_⟩, ⟨rq HQ32.out⟩, ⟨bel2 GB26.out GE650.out⟩⟩
        rw [if_neg c18] at H; have c18b0 := decide_eq_false c18; clear c18
        have H' := am H
        clear H; go_wp2
        go_roundg k3
        case measure => have := HK1.out; have := HJ8.out; have := HK3.out; omega
        case rel => exact ⟨(x3_3), (wrap64 (x4_1 - 1)), sq, H', ⟨b105_⟩, ⟨rq HO_3.out⟩, ⟨bel⟩⟩
   rw [if_neg c6] at H; have c6b0 := decide_eq_false c6; clear c6; obtain rfl := Option.some.inj H; go_wp2; go_ret
   exact ⟨_, eq_, b86_, bel⟩

/-! ### impl_MachineCount: function 27 -/
def impl_MachineCount.f (k : Nat) (l0 : List (S95)) : Option (Int) := (impl_MachineOk.f k l0).bind fun t654 => (if t654 = true then ((impl_counts.f k l0).bind fun t655 => (if 0 < (t655.length : Int) then (some (rd t655 0)) else (none))) else (some 0))
theorem impl_MachineCount.calls (k : Nat) (A0 : Option Addr) (c0 : Nat) (l0 : List (S95)) (r : Int) (w : World) (hr0 : Kd.C k95 w A0 l0.length l0) (hc0 : l0.length ≤ c0) (h : impl_MachineCount.f k l0 = some r) :
  Calls Try.prog 27 #[.slice A0 l0.length c0] w fun e w' => e = .returned (.int .i64 r) ∧ Below w.heap.size w w' := by
 have HR0 := am hr0; have HC0 := am hc0; clear hr0 hc0; have HB := am (Below.refl w.heap.size w)
 have H := h; unfold impl_MachineCount.f at H
 clear h; replace H := bs H; obtain ⟨t654, A20, H⟩ := H; have A2 := Aside0.mk A20; clear A20
 by_cases c3 : t654 = true
 ·subst c3
  rw [if_pos rfl] at H
  replace H := bs H; obtain ⟨t655, A40, H⟩ := H; have A4 := Aside0.mk A40; clear A40
  replace H := ip H; obtain ⟨c5, H⟩ := H; have c5b0 := decide_eq_true c5
  have c5b1 : decide (0 < t655.length) = true := decide_eq_true (by omega)
  clear c5; obtain rfl := Option.some.inj H; go_enter Try.func27, Try.ntmps27
  go_wp2_with (first | ((with_reducible refine gate_callee (f := 69) rfl ?_); refine gl 4 Try.func69 #[.slice A0 l0.length c0] ?_; (with_reducible refine (impl_MachineOk.calls k _ _ l0 true _ ?side1 ?side2 A2.out).mono ?_); (case side1 => repeat (exact HR0.out)); (case side2 => exact HC0.out); rintro e w6 ⟨rfl, hb⟩; refine ⟨_, rfl, ?_⟩; replace HB := am (below_step bel hb); clear hb) | ((with_reducible refine gate_callee (f := 76) rfl ?_); refine gl 7 Try.func76 #[.slice A0 l0.length c0] ?_; (with_reducible refine (impl_counts.calls k _ _ l0 t655 _ ?side1 ?side2 A4.out).mono ?_); (case side1 => exact cq (Kd.C_below HR0.out HB.out)); (case side2 => exact HC0.out); rintro e w7 ⟨v656, rfl, ho0, hb⟩; refine ⟨_, rfl, ?_⟩; have HO657 := am (Kd.R_lower ho0 (below_size bel)); replace HB := am (below_step bel hb); clear hb; clear ho0; obtain ⟨Ao8, co8, eo8⟩ := Kd.R_slice HO657.out; subst eo8; have p658 : 0 ≤ (0 : Int) := (by omega); have q658 : 0 < (t655.length : Int) := of_decide_eq_true ad; obtain ⟨ad658, e658, hx658_0⟩ := Kd.at_int (Kd.R_reads' HO657.out).2.2 0 p658 q658; cases e658; have qi658 : (0 < t655.length) = True := eq_true (by omega); rw [show ((0 : Int)).toNat = 0 from rfl] at hx658_0; rw [Addr.add_zero'] at hx658_0; replace p658 := eq_true p658; replace q658 := eq_true q658))
  go_ret
  exact ⟨eq_, bel⟩
 replace c3 := Bool.eq_false_iff.mpr c3; subst c3
 rw [if_neg Bool.false_ne_true] at H
 obtain rfl := Option.some.inj H; go_enter Try.func27, Try.ntmps27
 go_wp2_with ((with_reducible refine gate_callee (f := 69) rfl ?_); refine gl 4 Try.func69 #[.slice A0 l0.length c0] ?_; (with_reducible refine (impl_MachineOk.calls k _ _ l0 false _ ?side1 ?side2 A2.out).mono ?_); (case side1 => repeat (exact HR0.out)); (case side2 => exact HC0.out); rintro e w9 ⟨rfl, hb⟩; refine ⟨_, rfl, ?_⟩; replace HB := am (below_step bel hb); clear hb)
 go_ret
 exact ⟨eq_, bel⟩
-- shrunk

/-! ### impl_MachineWord: function 28 -/
mutual
def impl_MachineWord.j0 : Nat → List (S95) → Int → List Int → Bool → Option (ByteArray)
 | 0, _, _, _, _ => none
 | k + 1, x0, x1, x5, x27 => if x27 = true then (some (⟨#[]⟩ : ByteArray)) else (impl_MachineWord.l0 k x0 x1 x5 (([] : List Int)) 0)
def impl_MachineWord.l0 : Nat → List (S95) → Int → List Int → List Int → Int → Option (ByteArray)
 | 0, _, _, _, _, _ => none
 | k + 1, x0, x1, x5, x6, x7 => if 0 ≤ x7 then (if x7 < (x0.length : Int) then (if (rd_T95 x0 x7).f0 = true then (if x1 = 0 then (some (strOfNums x6)) else (impl_MachineWord.j2 k x0 (wrap64 (x1 - 1)) x5 x6 x7)) else (impl_MachineWord.j2 k x0 x1 x5 x6 x7)) else (none)) else (none)
def impl_MachineWord.j2 : Nat → List (S95) → Int → List Int → List Int → Int → Option (ByteArray)
 | 0, _, _, _, _, _ => none
 | k + 1, x0, x1, x5, x6, x7 => if 0 ≤ x7 then (if x7 < (x0.length : Int) then (impl_MachineWord.l1 k x0 x1 x5 x6 x7 ((rd_T95 x0 x7).f1) (((rd_T95 x0 x7).f1).length : Int) 0) else (none)) else (none)
def impl_MachineWord.l1 : Nat → List (S95) → Int → List Int → List Int → Int → List (S97) → Int → Int → Option (ByteArray)
 | 0, _, _, _, _, _, _, _, _ => none
 | k + 1, x0, x1, x5, x6, x7, x44, x45, x46 => if x46 < x45 then (if 0 ≤ x46 then (if x46 < (x44.length : Int) then (if 0 ≤ ((rd_T97 x44 x46).f1) then (if ((rd_T97 x44 x46).f1) < (x5.length : Int) then (if x1 < (rd x5 ((rd_T97 x44 x46).f1)) then (if x6.length < 140737488355328 then (impl_MachineWord.l0 k x0 x1 x5 (x6 ++ [((rd_T97 x44 x46).f0) % 256]) ((rd_T97 x44 x46).f1)) else (none)) else (impl_MachineWord.l1 k x0 (wrap64 (x1 - (rd x5 ((rd_T97 x44 x46).f1)))) x5 x6 x7 x44 x45 (wrap64 (x46 + 1)))) else (none)) else (none)) else (none)) else (none)) else (impl_MachineWord.l0 k x0 x1 x5 x6 x7)
end
def impl_MachineWord.f (k : Nat) (l0 : List (S95)) (a1 : Int) : Option (ByteArray) := (impl_MachineOk.f k l0).bind fun t659 => (if t659 = true then ((impl_counts.f k l0).bind fun t660 => (if 0 < (t660.length : Int) then (if (rd t660 0) = 1000000000 then (impl_MachineWord.j0 k l0 a1 t660 true) else ((impl_within.f a1 0 (wrap64 ((rd t660 0) - 1))).bind fun t665 => (impl_MachineWord.j0 k l0 a1 t660 (!t665)))) else (none))) else (some (⟨#[]⟩ : ByteArray)))
theorem impl_MachineWord.calls (k : Nat) (A0 : Option Addr) (c0 : Nat) (l0 : List (S95)) (a1 : Int) (r : ByteArray) (w : World) (hr0 : Kd.C k95 w A0 l0.length l0) (hc0 : l0.length ≤ c0) (h : impl_MachineWord.f k l0 a1 = some r) :
  Calls Try.prog 28 #[.slice A0 l0.length c0, .int .i64 a1] w fun e w' => e = .returned (.string r) ∧ Below w.heap.size w w' := by
 have hu97 := Try.underlying97; have HR0 := am hr0; have HC0 := am hc0; clear hr0 hc0; have HB := am (Below.refl w.heap.size w)
 have H := h; unfold impl_MachineWord.f at H
 clear h; replace H := bs H; obtain ⟨t659, A30, H⟩ := H; have A3 := Aside0.mk A30; clear A30
 by_cases c4 : t659 = true
 ·subst c4
  rw [if_pos rfl] at H
  replace H := bs H; obtain ⟨t660, A50, H⟩ := H; have A5 := Aside0.mk A50; clear A50; have HC6 := am H; clear H; go_enter Try.func28, Try.ntmps28
  go_upto_region 4 with (first | ((with_reducible refine gate_callee (f := 69) rfl ?_); refine gl 11 Try.func69 #[.slice A0 l0.length c0] ?_; (with_reducible refine (impl_MachineOk.calls k _ _ l0 true _ ?side1 ?side2 A3.out).mono ?_); (case side1 => repeat (exact HR0.out)); (case side2 => exact HC0.out); rintro e w7 ⟨rfl, hb⟩; refine ⟨_, rfl, ?_⟩; replace HB := am (below_step bel hb); clear hb) | ((with_reducible refine gate_callee (f := 76) rfl ?_); refine gl 14 Try.func76 #[.slice A0 l0.length c0] ?_; (with_reducible refine (impl_counts.calls k _ _ l0 t660 _ ?side1 ?side2 A5.out).mono ?_); (case side1 => exact cq (Kd.C_below HR0.out HB.out)); (case side2 => exact HC0.out); rintro e w8 ⟨v661, rfl, ho0, hb⟩; refine ⟨_, rfl, ?_⟩; have HO662 := am (Kd.R_lower ho0 (below_size bel)); replace HB := am (below_step bel hb); clear hb; clear ho0))
  go_cut [27] (fun v27 wc => ∃ (kq : Nat) (x27_5 : Bool), v27 = .bool x27_5 ∧ Aside0 (impl_MachineWord.j0 kq l0 a1 t660 x27_5 = some r) ∧ Aside0 (kq ≤ k) ∧ Aside0 (Kd.R (Kd.int .i64) 3 wc w.heap.size (fun _ => True) v661 t660) ∧ Aside0 (Below w.heap.size w wc))
  case first =>
   have H := HC6.out; clear HC6; replace H := ip H; obtain ⟨c9, H⟩ := H; have c9b0 := decide_eq_true c9
   have c9b1 : decide (0 < t660.length) = true := decide_eq_true (by omega)
   clear c9
   (skip)
   by_cases c10 : (rd t660 0) = 1000000000
   ·rw [if_pos c10] at H
    have c10b0 : ((rd t660 0) == 1000000000) = true := beq_iff_eq.mpr c10
    have c10b1 : ((rd t660 0) != 1000000000) = false := bne_eq_false_iff_eq.mpr c10
    clear c10
    have H' := am H
    clear H; obtain ⟨Ao11, co11, eo11⟩ := Kd.R_slice HO662.out; subst eo11
    have p663 : 0 ≤ (0 : Int) := (by omega)
    have q663 : 0 < (t660.length : Int) := of_decide_eq_true ad
    obtain ⟨ad663, e663, hx663_0⟩ := Kd.at_int (Kd.R_reads' HO662.out).2.2 0 p663 q663; cases e663
    have qi663 : (0 < t660.length) = True := eq_true (by omega)
    rw [show ((0 : Int)).toNat = 0 from rfl] at hx663_0
    rw [Addr.add_zero'] at hx663_0
    replace p663 := eq_true p663; replace q663 := eq_true q663; go_wp2
    go_meet
    case rel => exact ⟨_, (true), sq, H', ⟨b54_⟩, ⟨rq HO662.out⟩, ⟨bel⟩⟩
   rw [if_neg c10] at H
   have c10b0 : ((rd t660 0) == 1000000000) = false := beq_eq_false_iff_ne.mpr c10
   have c10b1 : ((rd t660 0) != 1000000000) = true := bne_iff_ne.mpr c10
   replace H := bs H; obtain ⟨t665, A120, H⟩ := H; have A12 := Aside0.mk A120; clear A120
   have H' := am H
   clear H; obtain ⟨Ao13, co13, eo13⟩ := Kd.R_slice HO662.out; subst eo13
   have p663 : 0 ≤ (0 : Int) := (by omega)
   have q663 : 0 < (t660.length : Int) := of_decide_eq_true ad
   obtain ⟨ad663, e663, hx663_0⟩ := Kd.at_int (Kd.R_reads' HO662.out).2.2 0 p663 q663; cases e663
   have qi663 : (0 < t660.length) = True := eq_true (by omega)
   rw [show ((0 : Int)).toNat = 0 from rfl] at hx663_0
   rw [Addr.add_zero'] at hx663_0
   replace p663 := eq_true p663; replace q663 := eq_true q663
   have p664 : 0 ≤ (0 : Int) := (by omega)
   have q664 : 0 < (t660.length : Int) := of_decide_eq_true ad
   obtain ⟨ad664, e664, hx664_0⟩ := Kd.at_int (Kd.R_reads' HO662.out).2.2 0 p664 q664
   obtain rfl : ad663 = ad664 := (by injection e664)
   have qi664 : (0 < t660.length) = True := eq_true (by omega)
   rw [show ((0 : Int)).toNat = 0 from rfl] at hx664_0
   rw [Addr.add_zero'] at hx664_0
   replace p664 := eq_true p664; replace q664 := eq_true q664
   go_wp2_with (go_at_call 77; (with_reducible refine (impl_within.calls a1 0 (wrap64 ((rd t660 0) - 1)) t665 _ A12.out).mono ?_); rintro e w' ⟨rfl, ⟨nd, rfl⟩⟩)
   go_meet
   case rel => exact ⟨_, (!t665), sq, H', ⟨b54_⟩, ⟨rq HO662.out⟩, ⟨bel⟩⟩
  case rest =>
   clear HC6; obtain ⟨kq, x27_5, rfl, HA, HJ5, HO_5, HB⟩ := hcut
   cases kq with
   | zero => exact absurd HA.out (by simp [impl_MachineWord.j0])
   | succ kj5 =>
    have H := HA.out; clear HA; simp only [impl_MachineWord.j0] at H
    by_cases c14 : x27_5 = true
    ·subst c14
     rw [if_pos rfl] at H
     obtain rfl := Option.some.inj H; go_wp2; go_ret
     exact ⟨eq_, bel⟩
    replace c14 := Bool.eq_false_iff.mpr c14; subst c14
    rw [if_neg Bool.false_ne_true] at H
    obtain ⟨y666, hy666⟩ : ∃ y_ : List Int, y_ = (([] : List Int)) := ⟨_, rfl⟩
    rw [← hy666] at H
    have Ny666 := am hy666; clear hy666
    have H' := am H
    clear H
    go_wp2_with ((with_reducible refine gate_dst (N := 28) rfl ?_); refine Kd.R_lit (Kd.int .u8) _ 5 ?hg (N := 28) ?hd (xs := ([] : List Int)) (inner := []) (ok := fun _ => True) (okp := fun _ => True) ?hr ?hp (fun _ hk => hk) trivial (Below.refl _ _) (Nat.le_refl _) (by simp) ?_; (case hd => rfl); (case hg => rfl); (case hr => (go_simp; done)); (case hp => exact (Reps.none _ _)); intro v667 w15 ho16 hb hg_ hnew_; clear hg_ hnew_; (rw [← Ny666.out] at ho16); replace HO_5 := am (Kd.R_below (rq HO_5.out) hb); have HO668 := am (Kd.R_lower ho16 (below_size bel)); replace HB := am (below_step bel hb); clear hb ho16)
    go_loopg [1, 6, 7] kj5 (fun kq v1 v6 v7 w' => ∃ (x1_2 : Int) (x6_2 : List Int) (x7_2 : Int), v1 = .int .i64 x1_2 ∧ v7 = .int .i64 x7_2 ∧ Aside0 (impl_MachineWord.l0 kq l0 x1_2 t660 x6_2 x7_2 = some r) ∧ Aside0 (kq ≤ kj5) ∧ Aside0 (Kd.R (Kd.int .i64) 3 w' w.heap.size (fun _ => True) v661 t660) ∧ Aside0 (Kd.R (Kd.int .u8) 5 w' w.heap.size (fun _ => True) v6 x6_2) ∧ Aside0 (Below w.heap.size w w'))
    case atStart => exact ⟨(a1), (y666), (0), sq, sq, H', ⟨Nat.le_refl _⟩, ⟨rq HO_5.out⟩, ⟨rq HO668.out⟩, ⟨bel⟩⟩
    case round =>
     clear H'; obtain ⟨x1_2, x6_2, x7_2, rfl, rfl, HA, HK2, HO_5, HO_6, HB⟩ := hrel
     cases gk with
     | zero => exact absurd HA.out (by simp [impl_MachineWord.l0])
     | succ k2 =>
      have H := HA.out; clear HA; simp only [impl_MachineWord.l0] at H; replace H := it H; obtain ⟨c17b0, H⟩ := H; replace H := it H; obtain ⟨c18b0, H⟩ := H; have HC19 := am H; clear H
      have p669 : 0 ≤ (x7_2 : Int) := of_decide_eq_true ad
      have q669 : x7_2 < (l0.length : Int) := of_decide_eq_true ad
      obtain ⟨ad669, A669_1, c669_1, e669, hx669_0, hx669_1, hl669_1, hi669_1⟩ := at_T95 HR0.out x7_2 p669 q669; cases e669; replace hx669_0 := kp HB.out hx669_0; replace hx669_1 := kp HB.out hx669_1; have HR669_1 := am hi669_1; have HC669_1 := am hl669_1; clear hi669_1 hl669_1; replace p669 := eq_true p669; replace q669 := eq_true q669
      go_upto_if 33 with (fail)
      go_cut [1] (fun v1 wc => ∃ (kq : Nat) (x1_18 : Int), v1 = .int .i64 x1_18 ∧ Aside0 (impl_MachineWord.j2 kq l0 x1_18 t660 x6_2 x7_2 = some r) ∧ Aside0 (kq ≤ k2) ∧ Aside0 (Kd.R (Kd.int .i64) 3 wc w.heap.size (fun _ => True) v661 t660) ∧ Aside0 (Kd.R (Kd.int .u8) 5 wc w.heap.size (fun _ => True) u6 x6_2) ∧ Aside0 (Below w.heap.size w wc))
      case first =>
       have H := HC19.out; clear HC19; obtain ⟨bq20, hbq20⟩ : ∃ b_ : Bool, b_ = ((rd_T95 l0 x7_2).f0) := ⟨_, rfl⟩
       replace H : (if bq20 = true then (if x1_2 = 0 then (some (strOfNums x6_2)) else (impl_MachineWord.j2 k2 l0 (wrap64 (x1_2 - 1)) t660 x6_2 x7_2)) else (impl_MachineWord.j2 k2 l0 x1_2 t660 x6_2 x7_2)) = some r := by rw [← hbq20] at H; exact H
       have Nbq20 := am hbq20; clear hbq20
       rw [← Nbq20.out]
       by_cases c21 : bq20 = true
       ·subst c21
        rw [if_pos rfl] at H
        by_cases c22 : x1_2 = 0
        ·rw [if_pos c22] at H
         have c22b0 : (x1_2 == 0) = true := beq_iff_eq.mpr c22
         have c22b1 : (x1_2 != 0) = false := bne_eq_false_iff_eq.mpr c22
         clear c22; obtain rfl := Option.some.inj H; have hcv23 := own_string (P := Try.prog) Try.underlying41 Try.underlying5 Try.underlying9 (Kd.own_of_R HO_6.out); go_wp2; go_ret
         exact ⟨eq_, bel⟩
        rw [if_neg c22] at H
        have c22b0 : (x1_2 == 0) = false := beq_eq_false_iff_ne.mpr c22
        have c22b1 : (x1_2 != 0) = true := bne_iff_ne.mpr c22
        have H' := am H
        clear H; go_wp2
        go_meet
        case rel => exact ⟨_, (wrap64 (x1_2 - 1)), sq, H', ⟨by have := HJ5.out; have := HK2.out; omega⟩, ⟨rq HO_5.out⟩, ⟨rq HO_6.out⟩, ⟨bel⟩⟩
       replace c21 := Bool.eq_false_iff.mpr c21; subst c21
       rw [← Nbq20.out] at hx669_0
       rw [if_neg Bool.false_ne_true] at H
       have H' := am H
       clear H; go_wp2
       go_meet
       case rel => exact ⟨_, (x1_2), sq, H', ⟨by have := HJ5.out; have := HK2.out; omega⟩, ⟨rq HO_5.out⟩, ⟨rq HO_6.out⟩, ⟨bel⟩⟩
      case rest =>
       clear HC19; clear c17b0 c18b0 hx669_0 hx669_1 p669 q669; obtain ⟨kq, x1_18, rfl, HA, HJ18, HO_5, HO_6, HB⟩ := hcut
       cases kq with
       | zero => exact absurd HA.out (by simp [impl_MachineWord.j2])
       | succ kj18 =>
        have H := HA.out; clear HA; simp only [impl_MachineWord.j2] at H; replace H := it H; obtain ⟨c24b0, H⟩ := H; replace H := it H; obtain ⟨c25b0, H⟩ := H
        have H' := am H
        clear H
        have p670 : 0 ≤ (x7_2 : Int) := of_decide_eq_true ad
        have q670 : x7_2 < (l0.length : Int) := of_decide_eq_true ad
        obtain ⟨ad670, A670_1, c670_1, e670, hx670_0, hx670_1, hl670_1, hi670_1⟩ := at_T95 HR0.out x7_2 p670 q670
        obtain rfl : ad669 = ad670 := (by injection e670)
        replace hx670_0 := kp HB.out hx670_0; replace hx670_1 := kp HB.out hx670_1; have HR670_1 := am hi670_1; have HC670_1 := am hl670_1; clear hi670_1 hl670_1; replace p670 := eq_true p670; replace q670 := eq_true q670; go_wp2
        go_loopg [1, 6, 7, 46] kj18 (fun kq v1 v6 v7 v46 w' => ∃ (x1_4 : Int) (x6_4 : List Int) (x7_4 : Int) (x46_4 : Int), v1 = .int .i64 x1_4 ∧ v7 = .int .i64 x7_4 ∧ v46 = .int .i64 x46_4 ∧ Aside0 (impl_MachineWord.l1 kq l0 x1_4 t660 x6_4 x7_4 ((rd_T95 l0 x7_2).f1) (((rd_T95 l0 x7_2).f1).length : Int) x46_4 = some r) ∧ Aside0 (kq ≤ kj18) ∧ Aside0 (Kd.R (Kd.int .i64) 3 w' w.heap.size (fun _ => True) v661 t660) ∧ Aside0 (Kd.R (Kd.int .u8) 5 w' w.heap.size (fun _ => True) v6 x6_4) ∧ Aside0 (Below w.heap.size w w'))
        case atStart => exact ⟨(x1_18), (x6_2), (x7_2), (0), sq, sq, sq, H', ⟨Nat.le_refl _⟩, ⟨rq HO_5.out⟩, ⟨rq HO_6.out⟩, ⟨bel⟩⟩
        case round =>
         clear H'; clear c24b0 c25b0 hx670_0 hx670_1 p670 q670; obtain ⟨x1_4, x6_4, x7_4, x46_4, rfl, rfl, rfl, HA, HK4, HO_5, HO_6, HB⟩ := hrel
         cases gk with
         | zero => exact absurd HA.out (by simp [impl_MachineWord.l1])
         | succ k4 =>
          have H := HA.out; clear HA; simp only [impl_MachineWord.l1] at H
          by_cases c26 : x46_4 < (((rd_T95 l0 x7_2).f1).length : Int)
          ·rw [if_pos c26] at H; have c26b0 := decide_eq_true c26; clear c26
           replace H := it H; obtain ⟨c27b0, H⟩ := H; replace H := it H; obtain ⟨c28b0, H⟩ := H; replace H := it H; obtain ⟨c29b0, H⟩ := H; replace H := it H; obtain ⟨c30b0, H⟩ := H
           by_cases c31 : x1_4 < (rd t660 ((rd_T97 ((rd_T95 l0 x7_2).f1) x46_4).f1))
           ·rw [if_pos c31] at H; have c31b0 := decide_eq_true c31; clear c31
            replace H := ip H; obtain ⟨c32, H⟩ := H; have LMc32 := Aside0.mk c32; clear c32; obtain ⟨y674, hy674⟩ : ∃ y_ : List Int, y_ = (x6_4 ++ [((rd_T97 ((rd_T95 l0 x7_2).f1) x46_4).f0) % 256]) := ⟨_, rfl⟩
            rw [← hy674] at H
            have Ny674 := am hy674; clear hy674
            have H' := am H
            clear H
            have p671 : 0 ≤ (x46_4 : Int) := of_decide_eq_true ad
            have q671 : x46_4 < (((rd_T95 l0 x7_2).f1).length : Int) := of_decide_eq_true ad
            obtain ⟨ad671, e671, hx671_0, hx671_1⟩ := at_T97 HR670_1.out x46_4 p671 q671; cases e671; replace hx671_0 := kp HB.out hx671_0; replace hx671_1 := kp HB.out hx671_1; replace p671 := eq_true p671; replace q671 := eq_true q671
            go_wp2_with (first | ((with_reducible refine gate_dst (N := 9) rfl ?_); refine bx 9 (cs := #[.int .i64 0, .int .i64 0]) (t := 97) ?_; intro gb672 hg w33 hbox hb; replace HO_5 := am (Kd.R_below (rq HO_5.out) hb); replace HO_6 := am (Kd.R_below (rq HO_6.out) hb); have BK672 := am (hbox); have GW672 := am ((b17_ : w.heap.size ≤ gb672)); have GE672 := am ((b17_ : w.heap.size ≤ gb672)); replace HB := am (below_step bel hb); clear hb hbox hg; have ⟨hcz34_0, hcz34_1, hfz34_0, hfz34_1⟩ := b2c BK672.out; obtain ⟨Ao35, co35, eo35⟩ := Kd.R_slice HO_5.out; subst eo35; have p673 : 0 ≤ (((rd_T97 ((rd_T95 l0 x7_2).f1) x46_4).f1) : Int) := of_decide_eq_true ad; have q673 : ((rd_T97 ((rd_T95 l0 x7_2).f1) x46_4).f1) < (t660.length : Int) := of_decide_eq_true ad; obtain ⟨ad673, e673, hx673_0⟩ := Kd.at_int (Kd.R_reads' HO_5.out).2.2 ((rd_T97 ((rd_T95 l0 x7_2).f1) x46_4).f1) p673 q673; cases e673; have hn673_0 : ad673.block ≠ gb672 := b60_; have hn673_1 : ad673.block ≠ gb672 := b60_; replace hx673_0 := (cell_far (p := ⟨gb672, 0, none⟩) (by (rw [add_block]; exact hn673_0)) (.int .i64 ((rd_T97 ((rd_T95 l0 x7_2).f1) x46_4).f0))).trans hx673_0; replace hx673_0 := (cell_far (p := ⟨gb672, 1, none⟩) (by (rw [add_block]; exact hn673_1)) (.int .i64 ((rd_T97 ((rd_T95 l0 x7_2).f1) x46_4).f1))).trans hx673_0; clear hn673_0; clear hn673_1; replace p673 := eq_true p673; replace q673 := eq_true q673) | ((with_reducible refine gate_builtin (b := .append) (xs := #[.tmp 57, .tmp 61]) rfl ?_); at_builtin; refine Kd.R_append (Kd.int .u8) (w0 := w) w.heap.size rfl (.tmp 57) (.tmp 61) 41 5 (.int .u8 0) 1 rfl Try.underlying41 info5 rfl (by decide) (by omega) u6 x6_4 (((rd_T97 ((rd_T95 l0 x7_2).f1) x46_4).f0) % 256) [.int .u8 (((rd_T97 ((rd_T95 l0 x7_2).f1) x46_4).f0) % 256)] (fun _ => True) (fun _ => False) rfl (by (go_simp; done)) ?aP (fun _ hk => hk.elim) ?aF ?aO ?aB ?aS ?aL ?_; (case aP => exact rfl); (case aB => exact (bel1 GE672.out)); (case aF => exact (fun _ _ => trivial)); (case aO => exact (rq (Kd.R_mono (Kd.R_far (p := ⟨gb672, 1, none⟩) (Kd.R_far (p := ⟨gb672, 0, none⟩) (Kd.R_types HO_6.out BK672.out (by decide)) (fun _ hk => hk.2) (.int .i64 ((rd_T97 ((rd_T95 l0 x7_2).f1) x46_4).f0))) (fun _ hk => hk.2) (.int .i64 ((rd_T97 ((rd_T95 l0 x7_2).f1) x46_4).f1))) (fun _ hk => trivial)))); (case aS => exact (below_size (bel1 GE672.out))); (case aL => have := LMc32.out; omega); intro v675 w36 ho hb hg hat; rw [← Ny674.out] at ho; replace HO_5 := am (Kd.R_over' (rq ((Kd.R_mono (Kd.R_far (p := ⟨gb672, 1, none⟩) (Kd.R_far (p := ⟨gb672, 0, none⟩) (Kd.R_types HO_5.out BK672.out (by decide)) (fun _ hk => hk.2) (.int .i64 ((rd_T97 ((rd_T95 l0 x7_2).f1) x46_4).f0))) (fun _ hk => hk.2) (.int .i64 ((rd_T97 ((rd_T95 l0 x7_2).f1) x46_4).f1))) (fun _ h_ => h_.1)))) (Kd.R_typed (rq ((Kd.R_mono (Kd.R_far (p := ⟨gb672, 1, none⟩) (Kd.R_far (p := ⟨gb672, 0, none⟩) (Kd.R_types HO_6.out BK672.out (by decide)) (fun _ hk => hk.2) (.int .i64 ((rd_T97 ((rd_T95 l0 x7_2).f1) x46_4).f0))) (fun _ hk => hk.2) (.int .i64 ((rd_T97 ((rd_T95 l0 x7_2).f1) x46_4).f1))) (fun _ h_ => h_.1))))) (by decide) hg); replace BK672 := am (blk_grown (g := gb672) (o := .cells #[.int .i64 ((rd_T97 ((rd_T95 l0 x7_2).f1) x46_4).f0), .int .i64 ((rd_T97 ((rd_T95 l0 x7_2).f1) x46_4).f1)] 97 (0, 0)) (by (with_reducible repeat (fail)); refine blk_put (cs := #[.int .i64 ((rd_T97 ((rd_T95 l0 x7_2).f1) x46_4).f0), .int .i64 0]) ?_ 1 _ rfl; (with_reducible repeat (fail)); refine blk_put (cs := #[.int .i64 0, .int .i64 0]) ?_ 0 _ rfl; (with_reducible repeat (fail)); exact BK672.out) hg (Kd.R_ne HO_6.out BK672.out (by decide))); replace HB := am (hb); have HO676 := am (ho); clear HO_6; clear ho hb hg hat; have hcz37_0 : w36.cell? ⟨gb672, 0, none⟩ = some (.int .i64 ((rd_T97 ((rd_T95 l0 x7_2).f1) x46_4).f0)) := bd BK672.out 0; have hcz37_1 : w36.cell? ⟨gb672, 1, none⟩ = some (.int .i64 ((rd_T97 ((rd_T95 l0 x7_2).f1) x46_4).f1)) := bd BK672.out 1; have hfz37_0 := bf BK672.out 0; have hfz37_1 := bf BK672.out 1))
            go_roundg k4
            case measure => have := HJ5.out; have := HK2.out; have := HJ18.out; have := HK4.out; omega
            case rel => exact ⟨(x1_4), (y674), ((rd_T97 ((rd_T95 l0 x7_2).f1) x46_4).f1), sq, sq, H', ⟨b108_⟩, ⟨rq HO_5.out⟩, ⟨rq HO676.out⟩, ⟨bel1 GE672.out⟩⟩
           rw [if_neg c31] at H; have c31b0 := decide_eq_false c31; clear c31
           have H' := am H
           clear H
           have p671 : 0 ≤ (x46_4 : Int) := of_decide_eq_true ad
           have q671 : x46_4 < (((rd_T95 l0 x7_2).f1).length : Int) := of_decide_eq_true ad
           obtain ⟨ad671, e671, hx671_0, hx671_1⟩ := at_T97 HR670_1.out x46_4 p671 q671; cases e671; replace hx671_0 := kp HB.out hx671_0; replace hx671_1 := kp HB.out hx671_1; replace p671 := eq_true p671; replace q671 := eq_true q671
           go_wp2_with ((with_reducible refine gate_dst (N := 9) rfl ?_); refine bx 9 (cs := #[.int .i64 0, .int .i64 0]) (t := 97) ?_; intro gb672 hg w38 hbox hb; replace HO_5 := am (Kd.R_below (rq HO_5.out) hb); replace HO_6 := am (Kd.R_below (rq HO_6.out) hb); have BK672 := am (hbox); have GW672 := am ((b17_ : w.heap.size ≤ gb672)); have GE672 := am ((b17_ : w.heap.size ≤ gb672)); replace HB := am (below_step bel hb); clear hb hbox hg; have ⟨hcz39_0, hcz39_1, hfz39_0, hfz39_1⟩ := b2c BK672.out; obtain ⟨Ao40, co40, eo40⟩ := Kd.R_slice HO_5.out; subst eo40; have p673 : 0 ≤ (((rd_T97 ((rd_T95 l0 x7_2).f1) x46_4).f1) : Int) := of_decide_eq_true ad; have q673 : ((rd_T97 ((rd_T95 l0 x7_2).f1) x46_4).f1) < (t660.length : Int) := of_decide_eq_true ad; obtain ⟨ad673, e673, hx673_0⟩ := Kd.at_int (Kd.R_reads' HO_5.out).2.2 ((rd_T97 ((rd_T95 l0 x7_2).f1) x46_4).f1) p673 q673; cases e673; have hn673_0 : ad673.block ≠ gb672 := b60_; have hn673_1 : ad673.block ≠ gb672 := b60_; replace hx673_0 := (cell_far (p := ⟨gb672, 0, none⟩) (by (rw [add_block]; exact hn673_0)) (.int .i64 ((rd_T97 ((rd_T95 l0 x7_2).f1) x46_4).f0))).trans hx673_0; replace hx673_0 := (cell_far (p := ⟨gb672, 1, none⟩) (by (rw [add_block]; exact hn673_1)) (.int .i64 ((rd_T97 ((rd_T95 l0 x7_2).f1) x46_4).f1))).trans hx673_0; clear hn673_0; clear hn673_1; replace p673 := eq_true p673; replace q673 := eq_true q673; have p677 : 0 ≤ (((rd_T97 ((rd_T95 l0 x7_2).f1) x46_4).f1) : Int) := of_decide_eq_true ad; have q677 : ((rd_T97 ((rd_T95 l0 x7_2).f1) x46_4).f1) < (t660.length : Int) := of_decide_eq_true ad; obtain ⟨ad677, e677, hx677_0⟩ := Kd.at_int (Kd.R_reads' HO_5.out).2.2 ((rd_T97 ((rd_T95 l0 x7_2).f1) x46_4).f1) p677 q677; obtain rfl : ad673 = ad677 := (by injection e677); have hn677_0 : ad673.block ≠ gb672 := b60_; have hn677_1 : ad673.block ≠ gb672 := b60_; replace hx677_0 := (cell_far (p := ⟨gb672, 0, none⟩) (by (rw [add_block]; exact hn677_0)) (.int .i64 ((rd_T97 ((rd_T95 l0 x7_2).f1) x46_4).f0))).trans hx677_0; replace hx677_0 := (cell_far (p := ⟨gb672, 1, none⟩) (by (rw [add_block]; exact hn677_1)) (.int .i64 ((rd_T97 ((rd_T95 l0 x7_2).f1) x46_4).f1))).trans hx677_0; clear hn677_0; clear hn677_1; replace p677 := eq_true p677; replace q677 := eq_true q677)
           go_roundg k4
           case measure => have := HJ5.out; have := HK2.out; have := HJ18.out; have := HK4.out; omega
           case rel => exact ⟨(wrap64 (x1_4 - (rd t660 ((rd_T97 ((rd_T95 l0 x7_2).f1) x46_4).f1)))), (x6_4), (x7_4), (wrap64 (x46_4 + 1)), sq, sq, sq, H', ⟨b108_⟩, ⟨rq (Kd.R_mono (Kd.R_far (p := ⟨gb672, 1, none⟩) (Kd.R_far (p := ⟨gb672, 0, none⟩) (Kd.R_types HO_5.out BK672.out (by decide)) (fun _ hk => hk.2) (.int .i64 ((rd_T97 ((rd_T95 l0 x7_2).f1) x46_4).f0))) (fun _ hk => hk.2) (.int .i64 ((rd_T97 ((rd_T95 l0 x7_2).f1) x46_4).f1))) (fun _ hk => trivial))⟩, ⟨rq (Kd.R_mono (Kd.R_far (p := ⟨gb672, 1, none⟩) (Kd.R_far (p := ⟨gb672, 0, none⟩) (Kd.R_types HO_6.out BK672.out (by decide)) (fun _ hk => hk.2) (.int .i64 ((rd_T97 ((rd_T95 l0 x7_2).f1) x46_4).f0))) (fun _ hk => hk.2) (.int .i64 ((rd_T97 ((rd_T95 l0 x7_2).f1) x46_4).f1))) (fun _ hk => trivial))⟩, ⟨bel1 GE672.out⟩⟩
          rw [if_neg c26] at H; have c26b0 := decide_eq_false c26; clear c26
          have H' := am H
          clear H; go_wp2
          go_roundg k4
          case measure => have := HJ5.out; have := HK2.out; have := HJ18.out; have := HK4.out; omega
          case rel => exact ⟨(x1_4), (x6_4), (x7_4), sq, sq, H', ⟨b108_⟩, ⟨rq HO_5.out⟩, ⟨rq HO_6.out⟩, ⟨bel⟩⟩
 replace c4 := Bool.eq_false_iff.mpr c4; subst c4
 rw [if_neg Bool.false_ne_true] at H
 obtain rfl := Option.some.inj H; go_enter Try.func28, Try.ntmps28
 go_wp2_with ((with_reducible refine gate_callee (f := 69) rfl ?_); refine gl 11 Try.func69 #[.slice A0 l0.length c0] ?_; (with_reducible refine (impl_MachineOk.calls k _ _ l0 false _ ?side1 ?side2 A3.out).mono ?_); (case side1 => repeat (exact HR0.out)); (case side2 => exact HC0.out); rintro e w41 ⟨rfl, hb⟩; refine ⟨_, rfl, ?_⟩; replace HB := am (below_step bel hb); clear hb)
 go_ret
 exact ⟨eq_, bel⟩
end Go.Proofs.Ytdfnijaacnlfaaa.QFnMachineGuesses

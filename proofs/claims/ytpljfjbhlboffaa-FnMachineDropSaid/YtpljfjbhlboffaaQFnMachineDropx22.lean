import Derived.Test.YtpljfjbhlboffaaQFnMachineDropx0
import Derived.Test.YtpljfjbhlboffaaQFnMachineDropx6
import Derived.Test.YtpljfjbhlboffaaQFnMachineDropx10
import Derived.Test.YtpljfjbhlboffaaQFnMachineDropx15
import Derived.Test.YtpljfjbhlboffaaQFnMachineDropx18
import Derived.Test.YtpljfjbhlboffaaVMSh2
namespace Go.Proofs.Ytpljfjbhlboffaa.QFnMachineDrop
open Go.RowKit Go.Proofs.YtpljfjbhlboffaaW.PrintWords Go.Proofs.YtpljfjbhlboffaaW.PrintLast Go.Proofs.YtpljfjbhlboffaaW.PrintMore Go.Proofs.Ytpljfjbhlboffaa.Sh
attribute [local go_sem] max2_int min2_int max_two min_two max_three min_three max_four min_four
set_option linter.unusedVariables false
set_option linter.unusedSimpArgs false
-- shrunk

/-! ### laws_FnMachineDrop: function 5 -/
mutual
def laws_FnMachineDrop.j0 : Nat → List Int → List Int → Bool → Option (Bool)
 | 0, _, _, _ => none
 | k + 1, x0, x1, x22 => if x22 = true then (some true) else ((spec_DrawMachineOf.f k x0).bind fun t474 => ((impl_MachineOf.f k t474).bind fun bt477 => ((spec_MachineOf.f k t474).bind fun bt481 => (if (bt477.2 != bt481.2) = true then (laws_FnMachineDrop.j1 k x1 t474 bt477.1 bt477.2 bt481.1 bt481.2 true) else ((laws_mdMachine.f k bt477.1 bt481.1).bind fun t485 => (if t485 = true then (if bt477.2 = true then (laws_FnMachineDrop.j1 k x1 t474 bt477.1 bt477.2 bt481.1 bt481.2 ((t474.length : Int) == 0)) else (laws_FnMachineDrop.j1 k x1 t474 bt477.1 bt477.2 bt481.1 bt481.2 true)) else (laws_FnMachineDrop.j1 k x1 t474 bt477.1 bt477.2 bt481.1 bt481.2 true)))))))
def laws_FnMachineDrop.j1 : Nat → List Int → List ByteArray → List (S45) → Bool → List (S45) → Bool → Bool → Option (Bool)
 | 0, _, _, _, _, _, _, _ => none
 | k + 1, x1, x5, x6, x7, x8, x9, x52 => if x52 = true then (if (x7 == x9) = true then ((laws_mdMachine.f k x6 x8).bind fun t486 => (some t486)) else (some false)) else (if (x5.length : Int) = 0 then (none) else ((some (([] : List ByteArray) : List ByteArray)).bind fun y487 => (if 0 ≤ ((x1.length : Int) % (x5.length : Int)) then (if ((x1.length : Int) % (x5.length : Int)) ≤ (x5.length : Int) then ((some (x5.take (((x1.length : Int) % (x5.length : Int)) : Int).toNat : List ByteArray)).bind fun y490 => (if y487.length + y490.length < 8796093022208 then ((some (y487 ++ y490 : List ByteArray)).bind fun y494 => (if 0 ≤ (wrap64 (((x1.length : Int) % (x5.length : Int)) + 1)) then (if (wrap64 (((x1.length : Int) % (x5.length : Int)) + 1)) ≤ (x5.length : Int) then ((some (x5.drop ((wrap64 (((x1.length : Int) % (x5.length : Int)) + 1)) : Int).toNat : List ByteArray)).bind fun y497 => (if y494.length + y497.length < 8796093022208 then ((some (y494 ++ y497 : List ByteArray)).bind fun y501 => ((impl_MachineOf.f k y501).bind fun bt504 => (if bt504.2 = true then (laws_FnMachineDrop.l0 k x5 ((x1.length : Int) % (x5.length : Int)) y501 bt504.1 0) else (some true)))) else (none))) else (none)) else (none))) else (none))) else (none)) else (none))))
def laws_FnMachineDrop.l0 : Nat → List ByteArray → Int → List ByteArray → List (S45) → Int → Option (Bool)
 | 0, _, _, _, _, _ => none
 | k + 1, x5, x10, x11, x12, x14 => if x14 < (x11.length : Int) then (if 0 ≤ x14 then ((impl_MachineKnows.f k x12 (rdOf ByteArray.empty x11 x14)).bind fun t509 => (if t509 = true then (laws_FnMachineDrop.l0 k x5 x10 x11 x12 (wrap64 (x14 + 1))) else (some false))) else (none)) else (if 0 ≤ x10 then (if x10 < (x5.length : Int) then ((impl_MachineKnows.f k x12 (rdOf ByteArray.empty x5 x10)).bind fun t511 => (if t511 = true then (some false) else ((impl_MachineCount.f k x12).bind fun t512 => (some (t512 == (wrap64 ((x5.length : Int) - 1))))))) else (none)) else (none))
end
def laws_FnMachineDrop.f (k : Nat) (l0 : List Int) (l1 : List Int) : Option (Bool) := if (l0.length : Int) > 1048576 then (laws_FnMachineDrop.j0 k l0 l1 true) else (laws_FnMachineDrop.j0 k l0 l1 (decide ((l1.length : Int) > 1048576)))
def laws_FnMachineDrop.T9 : Bool × List (List Nat × List Nat) := (true, [([], []), ([], []), ([], []), ([1, 2], [1, 2]), ([0, 3], [0, 3]), ([], []), ([], []), ([6], [6]), ([5, 7], [5, 7]), ([4, 8, 4], [4, 8]), ([9, 9, 0, 1, 2, 3, 4, 5, 6, 7, 8, 9], [9])])
def laws_FnMachineDrop.B9 : List Nat := [0, 0, 0, 6, 15, 0, 0, 64, 224, 511, 1023]
theorem laws_FnMachineDrop.tab9 : rtab .any (opsOf Try.f5 9) = laws_FnMachineDrop.T9 := by kernel_rfl
theorem laws_FnMachineDrop.bits9 : waitsOk laws_FnMachineDrop.T9.2 laws_FnMachineDrop.B9 = true := by kernel_rfl
set_option maxHeartbeats 8000000 in
set_option maxRecDepth 100000 in
theorem laws_FnMachineDrop.calls (k : Nat) (A0 : Option Addr) (c0 : Nat) (l0 : List Int) (A1 : Option Addr) (c1 : Nat) (l1 : List Int) (r : Bool) (w : World) (hr0 : Kd.C (Kd.int .u8) w A0 l0.length l0) (hc0 : l0.length ≤ c0) (hr1 : Kd.C (Kd.int .u8) w A1 l1.length l1) (hc1 : l1.length ≤ c1) (h : laws_FnMachineDrop.f k l0 l1 = some r) (ist_ : r = true := by exact rfl) :
  Calls Try.prog 5 #[.slice A0 l0.length c0, .slice A1 l1.length c1] w fun e w' => e = .returned (.bool r) ∧ Below w.heap.size w w' := by
 have HR0 := am hr0; have HC0 := am hc0; clear hr0 hc0; have HR1 := am hr1; have HC1 := am hc1; clear hr1 hc1; have HB := am (Below.refl w.heap.size w)
 have H : (if (l0.length : Int) > 1048576 then (laws_FnMachineDrop.j0 k l0 l1 true) else (laws_FnMachineDrop.j0 k l0 l1 (decide ((l1.length : Int) > 1048576)))) = some r := h
 clear h; have HC3 := am H; clear H; go_enter Try.func5, Try.ntmps5
 go_upto_region 1 with (fail)
 go_cut [22] (fun v22 wc => ∃ (kq : Nat) (x22_2 : Bool), v22 = .bool x22_2 ∧ Aside0 (laws_FnMachineDrop.j0 kq l0 l1 x22_2 = some r) ∧ Aside0 (kq ≤ k) ∧ Aside0 (Below w.heap.size w wc))
 case first =>
  have H := HC3.out; clear HC3
  by_cases c4 : (l0.length : Int) > 1048576
  ·rw [if_pos c4] at H; have c4b0 := decide_eq_true c4
   have c4b1 : decide (1048576 < l0.length) = true := decide_eq_true (by omega)
   clear c4
   (first | rw [c4b0] | (simp only [i64_w, i32_w]; rw [c4b0]) | skip)
   have H' := am H
   clear H; go_wp2
   go_meet
   case rel => exact ⟨_, (true), sq, H', ⟨by first | omega | exact Nat.le_refl _⟩, ⟨bel⟩⟩
  rw [if_neg c4] at H; have c4b0 := decide_eq_false c4
  have c4b1 : decide (1048576 < l0.length) = false := decide_eq_false (by omega)
  clear c4
  (first | rw [c4b0] | (simp only [i64_w, i32_w]; rw [c4b0]) | skip)
  have H' := am H
  clear H; go_wp2
  go_meet
  case rel => exact ⟨_, (decide ((l1.length : Int) > 1048576)), sq, H', ⟨by first | omega | exact Nat.le_refl _⟩, ⟨bel⟩⟩
 case rest =>
  clear HC3; (try clear c1); (try clear p2); (try clear c4); (try clear c4b0); (try clear c4b1); obtain ⟨kq, x22_2, rfl, HA, HJ2, HB⟩ := hcut
  cases kq with
  | zero => exact absurd HA.out (by simp [laws_FnMachineDrop.j0])
  | succ kj2 =>
   have H := HA.out; clear HA; simp only [laws_FnMachineDrop.j0] at H
   by_cases c5 : x22_2 = true
   ·subst c5
    rw [if_pos rfl] at H
    obtain rfl := Option.some.inj H; go_wp2; go_ret
    exact ⟨eq_, bel⟩
   replace c5 := Bool.eq_false_iff.mpr c5; subst c5
   rw [if_neg Bool.false_ne_true] at H
   replace H := bs H; obtain ⟨t474, A60, H⟩ := H; (try dsimp only at H); have A6 := Aside0.mk A60; clear A60; replace H := bs H; obtain ⟨⟨t477, t478⟩, A70, H⟩ := H; dsimp only at H; have A7 := Aside0.mk A70; clear A70; replace H := bs H; obtain ⟨⟨t481, t482⟩, A80, H⟩ := H; dsimp only at H; have A8 := Aside0.mk A80; clear A80; have HC9 := am H; clear H
   go_upto_region 6 with (first | ((with_reducible refine gate_callee (f := 15) rfl ?_); refine gl 24 Try.func15 #[.slice A0 l0.length c0] ?_; (with_reducible refine (spec_DrawMachineOf.calls kj2 _ _ l0 t474 _ ?side1 ?side2 A6.out).mono ?_); (case side1 => exact cq (Kd.C_below HR0.out HB.out)); (case side2 => exact HC0.out); rintro e w10 ⟨v475, rfl, ho0, hb⟩; refine ⟨_, rfl, ?_⟩; have HO476 := am (Kd.R_lower ho0 (below_size bel)); replace HB := am (below_step bel hb); clear hb; (try clear ho0); obtain ⟨Ao11, co11, eo11⟩ := Kd.R_slice HO476.out; subst eo11) | ((with_reducible refine gate_callee (f := 9) rfl ?_); refine gl 27 Try.func9 #[.slice Ao11 t474.length co11] ?_; (with_reducible refine (impl_MachineOf.calls kj2 _ _ t474 t477 t478 _ ?side1 ?side2 A7.out).mono ?_); (case side1 => exact cq (Kd.R_reads' HO476.out).2.2); (case side2 => exact (Kd.R_reads' HO476.out).2.1); rintro e w12 ⟨v479, rfl, ho0, hb⟩; refine ⟨_, rfl, ?_⟩; replace HO476 := am (Kd.R_below (rq HO476.out) hb); have HO480 := am (Kd.S_lower ho0 (below_size bel)); replace HB := am (below_step bel hb); clear hb; (try clear ho0)) | ((with_reducible refine gate_callee (f := 7) rfl ?_); refine gl 32 Try.func7 #[.slice Ao11 t474.length co11] ?_; (with_reducible refine (spec_MachineOf.calls kj2 _ _ t474 t481 t482 _ ?side1 ?side2 A8.out).mono ?_); (case side1 => exact cq (Kd.R_reads' HO476.out).2.2); (case side2 => exact (Kd.R_reads' HO476.out).2.1); rintro e w13 ⟨v483, rfl, ho0, hb⟩; refine ⟨_, rfl, ?_⟩; replace HO476 := am (Kd.R_below (rq HO476.out) hb); have HO484 := am (Kd.S_lower (Kd.S_new' ho0 (Kd.S_lt (by (with_reducible repeat (first | apply Kd.S_alloc | apply Kd.S_drewN | apply Kd.S_drew)); exact HO480.out))) (below_size bel)); replace HO480 := am (Kd.S_elder' (by (with_reducible repeat (first | apply Kd.S_alloc | apply Kd.S_drewN | apply Kd.S_drew)); exact HO480.out) (Kd.S_base ho0) hb); replace HB := am (below_step bel hb); clear hb; (try clear ho0)))
   (try simp only [Act.put, List.setIfInBounds_toArray, List.set_cons_zero, List.set_cons_succ])
   go_cut [52] (fun v52 wc => ∃ (kq : Nat) (x52_8 : Bool), v52 = .bool x52_8 ∧ Aside0 (laws_FnMachineDrop.j1 kq l1 t474 t477 t478 t481 t482 x52_8 = some r) ∧ Aside0 (kq ≤ kj2) ∧ Aside0 (Kd.R Kd.string 9 wc w.heap.size (fun _ => True) (.slice Ao11 t474.length co11) t474) ∧ Aside0 (Kd.S k45 45 wc w.heap.size (fun k_ => some k_ ≠ (v483 : Value).ownBlock) v479 t477) ∧ Aside0 (Kd.S k45 45 wc w.heap.size (fun k_ => some k_ ≠ (v479 : Value).ownBlock) v483 t481) ∧ Aside0 (Below w.heap.size w wc))
   case first =>
    have H := HC9.out; clear HC9
    by_cases c14 : (t478 != t482) = true
    ·rw [if_pos c14] at H
     have c14b0 : (t478 != t482) = true := c14
     (try (have c14b1 : decide (t478 = t482) = false := by simpa using c14))
     (try (have c14b2 : (t478 == t482) = false := by simpa using c14))
     (try (have c14b3 : ¬ (t478 = t482) := by simpa using c14))
     clear c14
     (first | rw [c14b0] | (simp only [i64_w, i32_w]; rw [c14b0]) | skip)
     have H' := am H
     clear H; go_wp2
     go_meet
     case rel => exact ⟨_, (true), sq, H', ⟨b81_⟩, ⟨rq HO476.out⟩, ⟨b51_⟩, ⟨b52_⟩, ⟨bel⟩⟩
    rw [if_neg c14] at H
    have c14b0 : (t478 != t482) = false := by simpa using c14
    (try (have c14b1 : decide (t478 = t482) = true := by simpa using c14))
    (try (have c14b2 : (t478 == t482) = true := by simpa using c14))
    clear c14
    (first | rw [c14b0] | (simp only [i64_w, i32_w]; rw [c14b0]) | skip)
    replace H := bs H; obtain ⟨t485, A150, H⟩ := H; (try dsimp only at H); have A15 := Aside0.mk A150; clear A150
    by_cases c16 : t485 = true
    ·subst c16
     rw [if_pos rfl] at H
     by_cases c17 : t478 = true
     ·subst c17
      rw [if_pos rfl] at H
      have H' := am H
      clear H; obtain ⟨Ao18, co18, eo18⟩ := Kd.S_slice HO480.out; subst eo18; obtain ⟨Ao19, co19, eo19⟩ := Kd.S_slice HO484.out; subst eo19
      go_wp2_with (first | (go_at_call 16; (with_reducible refine (laws_mdMachine.calls kj2 _ _ t477 _ _ t481 true _ ?side1 ?side2 ?side3 ?side4 A15.out).mono ?_); (case side1 => exact cq (Kd.S_reads' HO480.out).2.2); (case side2 => exact (Kd.S_reads' HO480.out).2.1); (case side3 => exact cq (Kd.S_reads' HO484.out).2.2); (case side4 => exact (Kd.S_reads' HO484.out).2.1); rintro e w' ⟨rfl, ⟨nd, rfl⟩⟩))
      go_meet
      case rel => exact ⟨_, (((t474.length : Int) == 0)), sq, H', ⟨b81_⟩, ⟨rq HO476.out⟩, ⟨b51_⟩, ⟨b52_⟩, ⟨bel⟩⟩
     replace c17 := Bool.eq_false_iff.mpr c17; subst c17
     rw [if_neg Bool.false_ne_true] at H
     have H' := am H
     clear H; obtain ⟨Ao20, co20, eo20⟩ := Kd.S_slice HO480.out; subst eo20; obtain ⟨Ao21, co21, eo21⟩ := Kd.S_slice HO484.out; subst eo21
     go_wp2_with (first | (go_at_call 16; (with_reducible refine (laws_mdMachine.calls kj2 _ _ t477 _ _ t481 true _ ?side1 ?side2 ?side3 ?side4 A15.out).mono ?_); (case side1 => exact cq (Kd.S_reads' HO480.out).2.2); (case side2 => exact (Kd.S_reads' HO480.out).2.1); (case side3 => exact cq (Kd.S_reads' HO484.out).2.2); (case side4 => exact (Kd.S_reads' HO484.out).2.1); rintro e w' ⟨rfl, ⟨nd, rfl⟩⟩))
     go_meet
     case rel => exact ⟨_, (true), sq, H', ⟨b81_⟩, ⟨rq HO476.out⟩, ⟨b51_⟩, ⟨b52_⟩, ⟨bel⟩⟩
    replace c16 := Bool.eq_false_iff.mpr c16; subst c16
    rw [if_neg Bool.false_ne_true] at H
    have H' := am H
    clear H; obtain ⟨Ao22, co22, eo22⟩ := Kd.S_slice HO480.out; subst eo22; obtain ⟨Ao23, co23, eo23⟩ := Kd.S_slice HO484.out; subst eo23
    go_wp2_with (first | (go_at_call 16; (with_reducible refine (laws_mdMachine.calls kj2 _ _ t477 _ _ t481 false _ ?side1 ?side2 ?side3 ?side4 A15.out).mono ?_); (case side1 => exact cq (Kd.S_reads' HO480.out).2.2); (case side2 => exact (Kd.S_reads' HO480.out).2.1); (case side3 => exact cq (Kd.S_reads' HO484.out).2.2); (case side4 => exact (Kd.S_reads' HO484.out).2.1); rintro e w' ⟨rfl, ⟨nd, rfl⟩⟩))
    go_meet
    case rel => exact ⟨_, (true), sq, H', ⟨b81_⟩, ⟨rq HO476.out⟩, ⟨b51_⟩, ⟨b52_⟩, ⟨bel⟩⟩
   case rest =>
    clear HC9; (try clear c1); (try clear p2); (try clear c4); (try clear c4b0); (try clear c4b1); (try clear c5); (try clear c7); (try clear c9); (try clear c14); (try clear c14b0); (try clear c14b1); (try clear c14b2); (try clear c15); (try clear c16); (try clear c17); (try clear p2); obtain ⟨kq, x52_8, rfl, HA, HJ8, HO_5, HO_6, HO_8, HB⟩ := hcut
    cases kq with
    | zero => exact absurd HA.out (by simp [laws_FnMachineDrop.j1])
    | succ kj8 =>
     have H := HA.out; clear HA; simp only [laws_FnMachineDrop.j1] at H
     by_cases c24 : x52_8 = true
     ·subst c24
      rw [if_pos rfl] at H
      by_cases c25 : (t478 == t482) = true
      ·rw [if_pos c25] at H
       have c25b0 : (t478 == t482) = true := c25
       (try (have c25b1 : decide (t478 = t482) = true := by simpa using c25))
       (try (have c25b2 : (t478 == t482) = true := by simpa using c25))
       clear c25; replace H := bs H; obtain ⟨t486, A260, H⟩ := H; (try dsimp only at H); have A26 := Aside0.mk A260; clear A260; obtain rfl := Option.some.inj H; obtain ⟨Ao27, co27, eo27⟩ := Kd.S_slice HO_6.out; subst eo27; obtain ⟨Ao28, co28, eo28⟩ := Kd.S_slice HO_8.out; subst eo28
       go_wp2_with (first | (go_at_call 16; (with_reducible refine (laws_mdMachine.calls kj8 _ _ t477 _ _ t481 t486 _ ?side1 ?side2 ?side3 ?side4 A26.out).mono ?_); (case side1 => exact cq (Kd.S_reads' HO_6.out).2.2); (case side2 => exact (Kd.S_reads' HO_6.out).2.1); (case side3 => exact cq (Kd.S_reads' HO_8.out).2.2); (case side4 => exact (Kd.S_reads' HO_8.out).2.1); rintro e w' ⟨rfl, ⟨nd, rfl⟩⟩))
       go_ret
       exact ⟨eq_, bel⟩
      rw [if_neg c25] at H; exact Bool.noConfusion ((Option.some.inj H).trans ist_)
     replace c24 := Bool.eq_false_iff.mpr c24; subst c24
     rw [if_neg Bool.false_ne_true] at H; replace H := iq H; obtain ⟨c29, H⟩ := H
     have c29b0 : ((t474.length : Int) == 0) = false := beq_eq_false_iff_ne.mpr c29
     have c29b1 : ((t474.length : Int) != 0) = true := bne_iff_ne.mpr c29
     have c29b2 : ¬ (t474 = []) := fun h_ => c29 (by rw [h_]; rfl)
     obtain ⟨y487, hy487⟩ : ∃ y_ : List ByteArray, y_ = (([] : List ByteArray)) := ⟨_, rfl⟩
     replace H : (if 0 ≤ ((l1.length : Int) % (t474.length : Int)) then (if ((l1.length : Int) % (t474.length : Int)) ≤ (t474.length : Int) then ((some (t474.take (((l1.length : Int) % (t474.length : Int)) : Int).toNat : List ByteArray)).bind fun y490 => (if y487.length + y490.length < 8796093022208 then ((some (y487 ++ y490 : List ByteArray)).bind fun y494 => (if 0 ≤ (wrap64 (((l1.length : Int) % (t474.length : Int)) + 1)) then (if (wrap64 (((l1.length : Int) % (t474.length : Int)) + 1)) ≤ (t474.length : Int) then ((some (t474.drop ((wrap64 (((l1.length : Int) % (t474.length : Int)) + 1)) : Int).toNat : List ByteArray)).bind fun y497 => (if y494.length + y497.length < 8796093022208 then ((some (y494 ++ y497 : List ByteArray)).bind fun y501 => ((impl_MachineOf.f kj8 y501).bind fun bt504 => (if bt504.2 = true then (laws_FnMachineDrop.l0 kj8 t474 ((l1.length : Int) % (t474.length : Int)) y501 bt504.1 0) else (some true)))) else (none))) else (none)) else (none))) else (none))) else (none)) else (none)) = some r := by first | (rw [hy487]; with_reducible exact H) | (have H2_ := bm H; rw [hy487]; with_reducible exact H2_) | (with_reducible exact bm H) | with_reducible exact H | (rw [hy487]; exact H) | exact H
     have Ny487 := am hy487; clear hy487; obtain ⟨ji30, hji30⟩ : ∃ j_ : Int, ((l1.length : Int) % (t474.length : Int)) = j_ := ⟨_, rfl⟩
     replace H : (if 0 ≤ (ji30) then (if (ji30) ≤ (t474.length : Int) then ((some (t474.take ((ji30) : Int).toNat : List ByteArray)).bind fun y490 => (if y487.length + y490.length < 8796093022208 then ((some (y487 ++ y490 : List ByteArray)).bind fun y494 => (if 0 ≤ (wrap64 ((ji30) + 1)) then (if (wrap64 ((ji30) + 1)) ≤ (t474.length : Int) then ((some (t474.drop ((wrap64 ((ji30) + 1)) : Int).toNat : List ByteArray)).bind fun y497 => (if y494.length + y497.length < 8796093022208 then ((some (y494 ++ y497 : List ByteArray)).bind fun y501 => ((impl_MachineOf.f kj8 y501).bind fun bt504 => (if bt504.2 = true then (laws_FnMachineDrop.l0 kj8 t474 ji30 y501 bt504.1 0) else (some true)))) else (none))) else (none)) else (none))) else (none))) else (none)) else (none)) = some r := by first | (rw [hji30] at H; exact H) | (simp only [hji30] at H ⊢; exact H)
     replace H := ip H; obtain ⟨c31, H⟩ := H; have c31b0 := eq_true c31
     have c31b1 : decide (0 ≤ (ji30)) = true := decide_eq_true c31
     clear c31; replace H := ip H; obtain ⟨c32, H⟩ := H; have c32b0 := eq_true c32
     have c32b1 : decide ((ji30) ≤ (t474.length : Int)) = true := decide_eq_true c32
     clear c32; obtain ⟨y490, hy490⟩ : ∃ y_ : List ByteArray, y_ = (t474.take ((ji30) : Int).toNat) := ⟨_, rfl⟩
     replace H : (if y487.length + y490.length < 8796093022208 then ((some (y487 ++ y490 : List ByteArray)).bind fun y494 => (if 0 ≤ (wrap64 ((ji30) + 1)) then (if (wrap64 ((ji30) + 1)) ≤ (t474.length : Int) then ((some (t474.drop ((wrap64 ((ji30) + 1)) : Int).toNat : List ByteArray)).bind fun y497 => (if y494.length + y497.length < 8796093022208 then ((some (y494 ++ y497 : List ByteArray)).bind fun y501 => ((impl_MachineOf.f kj8 y501).bind fun bt504 => (if bt504.2 = true then (laws_FnMachineDrop.l0 kj8 t474 ji30 y501 bt504.1 0) else (some true)))) else (none))) else (none)) else (none))) else (none)) = some r := by first | (rw [hy490]; with_reducible exact H) | (have H2_ := bm H; rw [hy490]; with_reducible exact H2_) | (with_reducible exact bm H) | with_reducible exact H | (rw [hy490]; exact H) | exact H
     have Ny490 := am hy490; clear hy490
     replace H := ip H; obtain ⟨c33, H⟩ := H; have LMc33 := Aside0.mk c33; clear c33; obtain ⟨y494, hy494⟩ : ∃ y_ : List ByteArray, y_ = (y487 ++ y490) := ⟨_, rfl⟩
     replace H : (if 0 ≤ (wrap64 ((ji30) + 1)) then (if (wrap64 ((ji30) + 1)) ≤ (t474.length : Int) then ((some (t474.drop ((wrap64 ((ji30) + 1)) : Int).toNat : List ByteArray)).bind fun y497 => (if y494.length + y497.length < 8796093022208 then ((some (y494 ++ y497 : List ByteArray)).bind fun y501 => ((impl_MachineOf.f kj8 y501).bind fun bt504 => (if bt504.2 = true then (laws_FnMachineDrop.l0 kj8 t474 ji30 y501 bt504.1 0) else (some true)))) else (none))) else (none)) else (none)) = some r := by first | (rw [hy494]; with_reducible exact H) | (have H2_ := bm H; rw [hy494]; with_reducible exact H2_) | (with_reducible exact bm H) | with_reducible exact H | (rw [hy494]; exact H) | exact H
     have Ny494 := am hy494; clear hy494; obtain ⟨ji34, hji34⟩ : ∃ j_ : Int, (wrap64 ((ji30) + 1)) = j_ := ⟨_, rfl⟩
     replace H : (if 0 ≤ (ji34) then (if (ji34) ≤ (t474.length : Int) then ((some (t474.drop ((ji34) : Int).toNat : List ByteArray)).bind fun y497 => (if y494.length + y497.length < 8796093022208 then ((some (y494 ++ y497 : List ByteArray)).bind fun y501 => ((impl_MachineOf.f kj8 y501).bind fun bt504 => (if bt504.2 = true then (laws_FnMachineDrop.l0 kj8 t474 ji30 y501 bt504.1 0) else (some true)))) else (none))) else (none)) else (none)) = some r := by first | (rw [hji34] at H; exact H) | (simp only [hji34] at H ⊢; exact H)
     have hji34w : (IntKind.i64.wrap ((ji30) + 1)) = ji34 := (i64_w _).trans hji34
     replace H := ip H; obtain ⟨c35, H⟩ := H; have c35b0 := eq_true c35
     have c35b1 : decide (0 ≤ (ji34)) = true := decide_eq_true c35
     clear c35; replace H := ip H; obtain ⟨c36, H⟩ := H; have c36b0 := eq_true c36
     have c36b1 : decide ((ji34) ≤ (t474.length : Int)) = true := decide_eq_true c36
     clear c36; obtain ⟨y497, hy497⟩ : ∃ y_ : List ByteArray, y_ = (t474.drop ((ji34) : Int).toNat) := ⟨_, rfl⟩
     replace H : (if y494.length + y497.length < 8796093022208 then ((some (y494 ++ y497 : List ByteArray)).bind fun y501 => ((impl_MachineOf.f kj8 y501).bind fun bt504 => (if bt504.2 = true then (laws_FnMachineDrop.l0 kj8 t474 ji30 y501 bt504.1 0) else (some true)))) else (none)) = some r := by first | (rw [hy497]; with_reducible exact H) | (have H2_ := bm H; rw [hy497]; with_reducible exact H2_) | (with_reducible exact bm H) | with_reducible exact H | (rw [hy497]; exact H) | exact H
     have Ny497 := am hy497; clear hy497
     replace H := ip H; obtain ⟨c37, H⟩ := H; have LMc37 := Aside0.mk c37; clear c37; obtain ⟨y501, hy501⟩ : ∃ y_ : List ByteArray, y_ = (y494 ++ y497) := ⟨_, rfl⟩
     replace H : ((impl_MachineOf.f kj8 y501).bind fun bt504 => (if bt504.2 = true then (laws_FnMachineDrop.l0 kj8 t474 ji30 y501 bt504.1 0) else (some true))) = some r := by first | (rw [hy501]; with_reducible exact H) | (have H2_ := bm H; rw [hy501]; with_reducible exact H2_) | (with_reducible exact bm H) | with_reducible exact H | (rw [hy501]; exact H) | exact H
     have Ny501 := am hy501; clear hy501; replace H := bs H; obtain ⟨⟨t504, t505⟩, A380, H⟩ := H; dsimp only at H; have A38 := Aside0.mk A380; clear A380
     by_cases c39 : t505 = true
     ·subst c39
      rw [if_pos rfl] at H
      have H' := am H
      clear H
      try go_wp2
      replace HO_5 := am (Kd.R_drew HO_5.out); replace HO_6 := am (Kd.S_drew HO_6.out); replace HO_8 := am (Kd.S_drew HO_8.out); replace HB := am (below_drew1 HB.out)
      have q41 : ((ji30) : Int) ≤ ((t474.length : Int) : Int) := of_decide_eq_true ad
      obtain ⟨i041, hi041, _, hsz41, _⟩ := info_parts info9
      have hroom41 : t474.length ≤ co11 := (Kd.R_reads' HO_5.out).2.1
      have hC41 : Kd.C Kd.string _ Ao11 t474.length t474 := (Kd.R_reads' HO_5.out).2.2
      have hcut41 := cut_to (P := Try.prog) 22 9 .i64 Try.underlying22 hi041 Ao11 t474.length co11 (ji30) (of_decide_eq_true ad) q41 hroom41; have hr41 := Kd.C_take (m := ((ji30) : Int).toNat) hC41 (by omega)
      have hy41 : y490.length = ((ji30) : Int).toNat := (by rw [Ny490.out, List.length_take]; omega)
      rw [← Ny490.out] at hr41; rw [← hy41] at hcut41; have HR493 := am hr41
      have HC493 := am (show y490.length ≤ co11 from by omega)
      clear hr41 hC41 hroom41 hi041 hsz41; have KY41 := am hy41; clear hy41
      have KL41 := am (show ((ji30) : Int).toNat ≤ t474.length from by omega)
      replace q41 := eq_true q41
      have q42 : ((ji34) : Int) ≤ ((t474.length : Int) : Int) := of_decide_eq_true ad
      obtain ⟨i042, hi042, _, hsz42, _⟩ := info_parts info9
      have hroom42 : t474.length ≤ co11 := (Kd.R_reads' HO_5.out).2.1
      have hC42 : Kd.C Kd.string _ Ao11 t474.length t474 := (Kd.R_reads' HO_5.out).2.2
      have q042 : (0 : Int) ≤ ((ji34) : Int) := of_decide_eq_true ad
      have hcut42 := cut_from (P := Try.prog) 22 9 .i64 Try.underlying22 hi042 1 hsz42 Ao11 t474.length co11 (ji34) q042 q42; have hr42 := Kd.C_drop (m := ((ji34) : Int).toNat) (c := co11) hC42 (by omega) hroom42
      obtain ⟨A42, hA42⟩ : ∃ A1, A1 = (if co11 = ((ji34) : Int).toNat then Ao11 else (Ao11 : Option Addr).map (·.add (((ji34) : Int).toNat * 1))) := ⟨_, rfl⟩; obtain ⟨c42, hc42⟩ : ∃ c1, c1 = co11 - ((ji34) : Int).toNat := ⟨_, rfl⟩
      have hy42 : y497.length = t474.length - ((ji34) : Int).toNat := (by rw [Ny497.out, List.length_drop] <;> omega)
      rw [show (t474).drop ((ji34) : Int).toNat = y497 from Ny497.out.symm] at hr42
      replace hr42 : Kd.C Kd.string _ A42 y497.length y497 := (by rw [hA42]; exact hr42)
      rw [← hy42, ← hA42, ← hc42] at hcut42; have HR500 := am hr42
      have HC500 := am (show y497.length ≤ c42 from by rw [hy42, hc42]; exact Nat.sub_le_sub_right hroom42 _)
      clear hr42 hC42 hroom42 hi042 hsz42 hc42; have KY42 := am hy42; have KA42 := am hA42; clear hy42 hA42
      have KL42 := am (show ((ji34) : Int).toNat ≤ t474.length from by omega)
      replace q42 := eq_true q42
      refine st (n := 11) (S := fun w' => True) (ds := []) trivial (fun hHeld => ?_); refine with_tabW laws_FnMachineDrop.tab9 laws_FnMachineDrop.bits9 (fun HT_ HW_ => ?_)
      generalize wc.drew = w40 at HO_5 HO_6 HO_8 HB HR493 HR500 hHeld ⊢; refine pu 1 67 ?_; refine pu 2 68 ?_; refine pu 3 69 ?_; refine pu 5 71 ?_; refine pu 6 72 ?_; refine pu 7 73 ?_; refine pu 8 74 ?_; refine on1 0 66 (fun K hK => ?_)
      refine Kd.R_lit_step Kd.string _ 9 ?hg (N := 66) ?hd (xs := ([] : List ByteArray)) (inner := []) (ok := fun _ => True) (okp := fun _ => True) ?hr ?hp (fun _ hk => hk) trivial (Below.refl _ _) (Nat.le_refl _) (by simp) ?_; (case hd => rfl); (case hg => rfl); (case hr => first | (go_simp; done) | (go_simp; rfl)); (case hp => exact (Reps.none _ _))
      intro v488 w43 ho44 hb hg_ hnew_; clear hg_ hnew_
      (first | rw [← Ny487.out] at ho44 | (simp only [Int.reduceToNat] at ho44; rw [← Ny487.out] at ho44) | (simp only [Int.toNat_natCast] at ho44; rw [← Ny487.out] at ho44))
      replace HO_6 := am (Kd.S_below b21_ hb); replace HO_8 := am (Kd.S_below b22_ hb); have HO489 := am (Kd.R_lower (Kd.R_new' ho44 (Kd.R_lt (rq HO_5.out))) (below_size bel)); replace HO_5 := am (Kd.R_elder' (rq HO_5.out) (Kd.R_base ho44) hb); replace HR493 := am (Kd.C_below b9_ hb); replace HR500 := am (Kd.C_below b10_ hb); replace HB := am (below_step bel hb); clear hb ho44; refine hK.out _ _ trivial (fun hHeld => ?_); clear hK K; refine nm 66 ?_; refine on1 4 70 (fun K hK => ?_)
      refine Kd.R_append_rows_step Kd.string (w0 := w) w.heap.size (by rfl) (.tmp 66) (.tmp 69) 22 9 (.string ⟨#[]⟩) 16 rfl Try.underlying22 info9 rfl (by decide) (by omega) v488 y487 y490 _ _ _ (fun k_ => some k_ ≠ (.slice Ao11 t474.length co11 : Value).ownBlock) (fun _ => False) rfl rfl ?aO ?aR (fun _ _ h => h) (fun _ h => h.elim) ?aF ?aB ?aS ?aL ?_
      (case aR => repeat (first | exact b9_ | (with_reducible refine Kd.C_alloc ?_ _) | (with_reducible refine Kd.C_drewN ?_ _) | (with_reducible refine Kd.C_drew ?_))); (case aB => exact bel); (case aF => exact (fun k_ hk => Kd.fresh' (Kd.R_lt (rq HO_5.out)) k_ hk)); (case aO => exact (rq (Kd.R_mono HO489.out (fun _ hk => hk.2)))); (case aS => exact (below_size bel)); (case aL => have := LMc33.out; omega); intro v495 w45 ho hb hg hat; rw [← Ny494.out] at ho
      replace HO_6 := am (Kd.S_over' b21_ (Kd.R_typed (rq HO489.out)) (by decide) hg); replace HO_8 := am (Kd.S_over' b22_ (Kd.R_typed (rq HO489.out)) (by decide) hg); replace HB := am (hb)
      replace HR493 := am ((show Kd.C Kd.string w45 Ao11 y490.length y490 from by rw [Ny490.out]; exact Kd.C_take (m := ((ji30) : Int).toNat) ((Kd.R_reads' (Kd.R_after (ok := (fun _ => True)) (rq HO_5.out) hg hat)).2.2) KL41.out))
      replace HR500 := am ((show Kd.C Kd.string w45 A42 y497.length y497 from by rw [Ny497.out, KA42.out]; exact Kd.C_drop (m := ((ji34) : Int).toNat) (c := co11) ((Kd.R_reads' (Kd.R_after (ok := (fun _ => True)) (rq HO_5.out) hg hat)).2.2) KL42.out ((Kd.R_reads' (Kd.R_after (ok := (fun _ => True)) (rq HO_5.out) hg hat)).2.1)))
      replace HO_5 := am (Kd.R_after (ok := (fun _ => True)) (rq HO_5.out) hg hat); have HO496 := am (ho); clear HO489; clear ho hb hg hat
      refine hK.out _ _ trivial (fun hHeld => ?_); clear hK K; refine nm 70 ?_; refine on1 9 75 (fun K hK => ?_)
      refine Kd.R_append_rows_step Kd.string (w0 := w) w.heap.size (by rfl) (.tmp 70) (.tmp 74) 22 9 (.string ⟨#[]⟩) 16 rfl Try.underlying22 info9 rfl (by decide) (by omega) v495 y494 y497 _ _ _ (fun k_ => some k_ ≠ (.slice Ao11 t474.length co11 : Value).ownBlock) (fun _ => False) rfl rfl ?aO ?aR (fun _ _ h => h) (fun _ h => h.elim) ?aF ?aB ?aS ?aL ?_
      (case aR => repeat (first | exact b10_ | (with_reducible refine Kd.C_alloc ?_ _) | (with_reducible refine Kd.C_drewN ?_ _) | (with_reducible refine Kd.C_drew ?_))); (case aB => exact bel); (case aF => exact (fun k_ hk => Kd.fresh' (Kd.R_lt (rq HO_5.out)) k_ hk)); (case aO => exact (rq HO496.out)); (case aS => exact (below_size bel)); (case aL => have := LMc37.out; omega); intro v502 w46 ho hb hg hat; rw [← Ny501.out] at ho
      replace HO_6 := am (Kd.S_over' b21_ (Kd.R_typed (rq HO496.out)) (by decide) hg); replace HO_8 := am (Kd.S_over' b22_ (Kd.R_typed (rq HO496.out)) (by decide) hg); replace HB := am (hb)
      replace HR493 := am ((show Kd.C Kd.string w46 Ao11 y490.length y490 from by rw [Ny490.out]; exact Kd.C_take (m := ((ji30) : Int).toNat) ((Kd.R_reads' (Kd.R_after (ok := (fun _ => True)) (rq HO_5.out) hg hat)).2.2) KL41.out))
      replace HR500 := am ((show Kd.C Kd.string w46 A42 y497.length y497 from by rw [Ny497.out, KA42.out]; exact Kd.C_drop (m := ((ji34) : Int).toNat) (c := co11) ((Kd.R_reads' (Kd.R_after (ok := (fun _ => True)) (rq HO_5.out) hg hat)).2.2) KL42.out ((Kd.R_reads' (Kd.R_after (ok := (fun _ => True)) (rq HO_5.out) hg hat)).2.1)))
      replace HO_5 := am (Kd.R_after (ok := (fun _ => True)) (rq HO_5.out) hg hat); have HO503 := am (ho); clear HO496; clear ho hb hg hat
      refine hK.out _ _ trivial (fun hHeld => ?_); clear hK K; refine nm 75 ?_; refine pu 10 11 ?_
      refine done_ (done_of HT_.out (by kernel_rfl)) ?_
      obtain ⟨Ao47, co47, eo47⟩ := Kd.R_slice HO503.out; subst eo47
      try go_wp2_with (first | ((with_reducible refine gate_callee (f := 9) rfl ?_); refine gl 78 Try.func9 #[.slice Ao47 y501.length co47] ?_; (with_reducible refine (impl_MachineOf.calls kj8 _ _ y501 t504 true _ ?side1 ?side2 A38.out).mono ?_); (case side1 => exact cq (Kd.R_reads' HO503.out).2.2); (case side2 => exact (Kd.R_reads' HO503.out).2.1); rintro e w48 ⟨v506, rfl, ho0, hb⟩; refine ⟨_, rfl, ?_⟩; replace HO_5 := am (Kd.R_below (rq HO_5.out) hb); replace HO503 := am (Kd.R_below (rq HO503.out) hb); have HO507 := am (Kd.S_lower (Kd.S_new' (Kd.S_new' ho0 (Kd.S_lt b21_)) (Kd.S_lt b22_)) (below_size bel)); replace HO_6 := am (Kd.S_elder' b21_ (Kd.S_base ho0) hb); replace HO_8 := am (Kd.S_elder' b22_ (Kd.S_base ho0) hb); replace HR493 := am (Kd.C_below b9_ hb); replace HR500 := am (Kd.C_below b10_ hb); replace HB := am (below_step bel hb); clear hb; (try clear ho0)))
      clear HR500
      go_loopg [14] kj8 (fun kq v14 w' => ∃ (x14_3 : Int), v14 = .int .i64 x14_3 ∧ Aside0 (laws_FnMachineDrop.l0 kq t474 ji30 y501 t504 x14_3 = some r) ∧ Aside0 (kq ≤ kj8) ∧ Aside0 (Kd.R Kd.string 9 w' w.heap.size (fun k_ => some k_ ≠ ((.slice Ao47 y501.length co47) : Value).ownBlock) (.slice Ao11 t474.length co11) t474) ∧ Aside0 (Kd.R Kd.string 9 w' w.heap.size (fun k_ => some k_ ≠ ((.slice Ao11 t474.length co11) : Value).ownBlock) (.slice Ao47 y501.length co47) y501) ∧ Aside0 (Kd.S k45 45 w' w.heap.size (fun _ => True) v506 t504) ∧ Aside0 (Kd.C Kd.string w' Ao11 y490.length y490) ∧ Aside0 (Below w.heap.size w w'))
      case atStart => exact ⟨(0), sq, H', ⟨Nat.le_refl _⟩, ⟨rq (Kd.R_mono HO_5.out (fun _ hk => hk.2))⟩, ⟨rq HO503.out⟩, ⟨by (with_reducible repeat (first | apply Kd.S_alloc | apply Kd.S_drewN | apply Kd.S_drew)); exact Kd.S_mono HO507.out (fun _ hk => trivial)⟩, ⟨b9_⟩, ⟨bel⟩⟩
      case round =>
       clear H'; (try clear c1); (try clear c2); (try clear p2); (try clear c3); (try clear c4); (try clear c4b0); (try clear c4b1); (try clear q4); (try clear c5); (try clear p6); (try clear c7); (try clear c9); (try clear c14); (try clear c14b0); (try clear c14b1); (try clear c14b2); (try clear c15); (try clear c16); (try clear c17); (try clear c24); (try clear c25); (try clear c25b0); (try clear c25b1); (try clear c25b2); (try clear c29); (try clear c29b0); (try clear c29b1); (try clear c29b2); (try clear c31); (try clear c31b0); (try clear c31b1); (try clear c32); (try clear c32b0); (try clear c32b1); (try clear c33); (try clear c35); (try clear c35b0); (try clear c35b1); (try clear c36); (try clear c36b0); (try clear c36b1); (try clear c37); (try clear c39); (try clear q41); (try clear c42); (try clear q42); (try clear p2); (try clear q042); (try clear q41); (try clear q42); obtain ⟨x14_3, rfl, HA, HK3, HO_5, HO_11, HO_12, HR493, HB⟩ := hrel
       cases gk with
       | zero => exact absurd HA.out (by simp [laws_FnMachineDrop.l0])
       | succ k3 =>
        have H := HA.out; clear HA; simp only [laws_FnMachineDrop.l0] at H
        by_cases c49 : x14_3 < (y501.length : Int)
        ·rw [if_pos c49] at H; have c49b0 := decide_eq_true c49; clear c49
         replace H := it H; obtain ⟨c50b0, H⟩ := H; replace H := bs H; obtain ⟨t509, A510, H⟩ := H; (try dsimp only at H); have A51 := Aside0.mk A510; clear A510
         by_cases c52 : t509 = true
         ·subst c52
          rw [if_pos rfl] at H
          have H' := am H
          clear H
          have p508 : 0 ≤ (x14_3 : Int) := of_decide_eq_true ad
          have q508 : x14_3 < (y501.length : Int) := of_decide_eq_true ad
          obtain ⟨ad508, e508, hx508_0⟩ := Kd.at_string (Kd.R_reads' HO_11.out).2.2 x14_3 p508 q508; cases e508; replace p508 := eq_true p508; replace q508 := eq_true q508; obtain ⟨Ao53, co53, eo53⟩ := Kd.S_slice HO_12.out; subst eo53
          go_wp2_with (first | ((with_reducible refine gate_callee (f := 17) rfl ?_); refine gl 94 Try.func17 #[.slice Ao53 t504.length co53, .string (rdOf ByteArray.empty y501 x14_3)] ?_; (with_reducible refine (impl_MachineKnows.calls k3 _ _ t504 (rdOf ByteArray.empty y501 x14_3) true _ ?side1 ?side2 A51.out).mono ?_); (case side1 => exact cq (Kd.S_reads' HO_12.out).2.2); (case side2 => exact (Kd.S_reads' HO_12.out).2.1); rintro e w54 ⟨rfl, hb⟩; refine ⟨_, rfl, ?_⟩; replace HO_5 := am (Kd.R_below (rq HO_5.out) hb); replace HO_11 := am (Kd.R_below (rq HO_11.out) hb); replace HO_12 := am (Kd.S_below b57_ hb); replace HR493 := am (Kd.C_below b9_ hb); replace HB := am (below_step bel hb); clear hb))
          go_roundg k3
          case measure => have := HJ2.out; have := HJ8.out; have := HK3.out; omega
          case rel => exact ⟨(wrap64 (x14_3 + 1)), sq, H', ⟨by have := HJ2.out; have := HJ8.out; have := HK3.out; omega⟩, ⟨rq HO_5.out⟩, ⟨rq HO_11.out⟩, ⟨b57_⟩, ⟨b9_⟩, ⟨bel⟩⟩
         replace c52 := Bool.eq_false_iff.mpr c52; subst c52
         have H1 : (some false) = some r := b8_
         exact Bool.noConfusion ((Option.some.inj H1).trans ist_)
        rw [if_neg c49] at H; have c49b0 := decide_eq_false c49; clear c49; replace H := it H; obtain ⟨c57b0, H⟩ := H
        replace H := it H; obtain ⟨c58b0, H⟩ := H; replace H := bs H; obtain ⟨t511, A590, H⟩ := H; (try dsimp only at H); have A59 := Aside0.mk A590; clear A590
        by_cases c60 : t511 = true
        ·subst c60
         have H1 : (some false) = some r := b18_
         exact Bool.noConfusion ((Option.some.inj H1).trans ist_)
        replace c60 := Bool.eq_false_iff.mpr c60; subst c60
        rw [if_neg Bool.false_ne_true] at H
        replace H := bs H; obtain ⟨t512, A630, H⟩ := H; (try dsimp only at H); have A63 := Aside0.mk A630; clear A630; obtain rfl := Option.some.inj H
        have p510 : 0 ≤ (ji30 : Int) := of_decide_eq_true ad
        have q510 : ji30 < (t474.length : Int) := of_decide_eq_true ad
        obtain ⟨ad510, e510, hx510_0⟩ := Kd.at_string (Kd.R_reads' HO_5.out).2.2 ji30 p510 q510; cases e510; replace p510 := eq_true p510; replace q510 := eq_true q510; obtain ⟨Ao64, co64, eo64⟩ := Kd.S_slice HO_12.out; subst eo64
        go_wp2_with (first | ((with_reducible refine gate_callee (f := 17) rfl ?_); refine goesL_ (some 101) rfl rfl Try.func17 (by kernel_rfl) rfl #[.slice Ao64 t504.length co64, .string (rdOf ByteArray.empty t474 ji30)] rfl (by (try simp only [List.map_toArray, List.map_cons, List.map_nil]); first | done | (simp only [hji30]; rfl) | rfl | (simp only [List.length_drop, List.length_take]; rfl)) ?_; (with_reducible refine (impl_MachineKnows.calls k3 _ _ t504 (rdOf ByteArray.empty t474 ji30) false _ ?side1 ?side2 A59.out).mono ?_); (case side1 => exact cq (Kd.S_reads' HO_12.out).2.2); (case side2 => exact (Kd.S_reads' HO_12.out).2.1); rintro e w65 ⟨rfl, hb⟩; refine ⟨_, rfl, ?_⟩; replace HO_5 := am (Kd.R_below (rq HO_5.out) hb); replace HO_11 := am (Kd.R_below (rq HO_11.out) hb); replace HO_12 := am (Kd.S_below b57_ hb); replace HR493 := am (Kd.C_below b9_ hb); replace HB := am (below_step bel hb); clear hb) | (go_at_call 21; (with_reducible refine (impl_MachineCount.calls k3 _ _ t504 t512 _ ?side1 ?side2 A63.out).mono ?_); (case side1 => exact cq (Kd.S_reads' HO_12.out).2.2); (case side2 => exact (Kd.S_reads' HO_12.out).2.1); rintro e w66 ⟨rfl, hb⟩; replace HO_5 := am (Kd.R_below (rq HO_5.out) hb); replace HO_11 := am (Kd.R_below (rq HO_11.out) hb); replace HO_12 := am (Kd.S_below b57_ hb); replace HR493 := am (Kd.C_below b9_ hb); replace HB := am (below_step bel hb); clear hb))
        go_ret
        exact ⟨b65_, bel⟩
     replace c39 := Bool.eq_false_iff.mpr c39; subst c39
     rw [if_neg Bool.false_ne_true] at H
     obtain rfl := Option.some.inj H
     try go_wp2
     replace HO_5 := am (Kd.R_drew HO_5.out); replace HO_6 := am (Kd.S_drew HO_6.out); replace HO_8 := am (Kd.S_drew HO_8.out); replace HB := am (below_drew1 HB.out)
     have q68 : ((ji30) : Int) ≤ ((t474.length : Int) : Int) := of_decide_eq_true ad
     obtain ⟨i068, hi068, _, hsz68, _⟩ := info_parts info9
     have hroom68 : t474.length ≤ co11 := (Kd.R_reads' HO_5.out).2.1
     have hC68 : Kd.C Kd.string _ Ao11 t474.length t474 := (Kd.R_reads' HO_5.out).2.2
     have hcut68 := cut_to (P := Try.prog) 22 9 .i64 Try.underlying22 hi068 Ao11 t474.length co11 (ji30) (of_decide_eq_true ad) q68 hroom68; have hr68 := Kd.C_take (m := ((ji30) : Int).toNat) hC68 (by omega)
     have hy68 : y490.length = ((ji30) : Int).toNat := (by rw [Ny490.out, List.length_take]; omega)
     rw [← Ny490.out] at hr68; rw [← hy68] at hcut68; have HR493 := am hr68
     have HC493 := am (show y490.length ≤ co11 from by omega)
     clear hr68 hC68 hroom68 hi068 hsz68; have KY68 := am hy68; clear hy68
     have KL68 := am (show ((ji30) : Int).toNat ≤ t474.length from by omega)
     replace q68 := eq_true q68
     have q69 : ((ji34) : Int) ≤ ((t474.length : Int) : Int) := of_decide_eq_true ad
     obtain ⟨i069, hi069, _, hsz69, _⟩ := info_parts info9
     have hroom69 : t474.length ≤ co11 := (Kd.R_reads' HO_5.out).2.1
     have hC69 : Kd.C Kd.string _ Ao11 t474.length t474 := (Kd.R_reads' HO_5.out).2.2
     have q069 : (0 : Int) ≤ ((ji34) : Int) := of_decide_eq_true ad
     have hcut69 := cut_from (P := Try.prog) 22 9 .i64 Try.underlying22 hi069 1 hsz69 Ao11 t474.length co11 (ji34) q069 q69; have hr69 := Kd.C_drop (m := ((ji34) : Int).toNat) (c := co11) hC69 (by omega) hroom69
     obtain ⟨A69, hA69⟩ : ∃ A1, A1 = (if co11 = ((ji34) : Int).toNat then Ao11 else (Ao11 : Option Addr).map (·.add (((ji34) : Int).toNat * 1))) := ⟨_, rfl⟩; obtain ⟨c69, hc69⟩ : ∃ c1, c1 = co11 - ((ji34) : Int).toNat := ⟨_, rfl⟩
     have hy69 : y497.length = t474.length - ((ji34) : Int).toNat := (by rw [Ny497.out, List.length_drop] <;> omega)
     rw [show (t474).drop ((ji34) : Int).toNat = y497 from Ny497.out.symm] at hr69
     replace hr69 : Kd.C Kd.string _ A69 y497.length y497 := (by rw [hA69]; exact hr69)
     rw [← hy69, ← hA69, ← hc69] at hcut69; have HR500 := am hr69
     have HC500 := am (show y497.length ≤ c69 from by rw [hy69, hc69]; exact Nat.sub_le_sub_right hroom69 _)
     clear hr69 hC69 hroom69 hi069 hsz69 hc69; have KY69 := am hy69; have KA69 := am hA69; clear hy69 hA69
     have KL69 := am (show ((ji34) : Int).toNat ≤ t474.length from by omega)
     replace q69 := eq_true q69
     refine st (n := 11) (S := fun w' => True) (ds := []) trivial (fun hHeld => ?_); refine with_tabW laws_FnMachineDrop.tab9 laws_FnMachineDrop.bits9 (fun HT_ HW_ => ?_)
     generalize wc.drew = w67 at HO_5 HO_6 HO_8 HB HR493 HR500 hHeld ⊢; refine pu 1 67 ?_; refine pu 2 68 ?_; refine pu 3 69 ?_; refine pu 5 71 ?_; refine pu 6 72 ?_; refine pu 7 73 ?_; refine pu 8 74 ?_; refine on1 0 66 (fun K hK => ?_)
     refine Kd.R_lit_step Kd.string _ 9 ?hg (N := 66) ?hd (xs := ([] : List ByteArray)) (inner := []) (ok := fun _ => True) (okp := fun _ => True) ?hr ?hp (fun _ hk => hk) trivial (Below.refl _ _) (Nat.le_refl _) (by simp) ?_; (case hd => rfl); (case hg => rfl); (case hr => first | (go_simp; done) | (go_simp; rfl)); (case hp => exact (Reps.none _ _))
     intro v488 w70 ho71 hb hg_ hnew_; clear hg_ hnew_
     (first | rw [← Ny487.out] at ho71 | (simp only [Int.reduceToNat] at ho71; rw [← Ny487.out] at ho71) | (simp only [Int.toNat_natCast] at ho71; rw [← Ny487.out] at ho71))
     replace HO_6 := am (Kd.S_below b21_ hb); replace HO_8 := am (Kd.S_below b22_ hb); have HO489 := am (Kd.R_lower (Kd.R_new' ho71 (Kd.R_lt (rq HO_5.out))) (below_size bel)); replace HO_5 := am (Kd.R_elder' (rq HO_5.out) (Kd.R_base ho71) hb); replace HR493 := am (Kd.C_below b9_ hb); replace HR500 := am (Kd.C_below b10_ hb); replace HB := am (below_step bel hb); clear hb ho71; refine hK.out _ _ trivial (fun hHeld => ?_); clear hK K; refine nm 66 ?_; refine on1 4 70 (fun K hK => ?_)
     refine Kd.R_append_rows_step Kd.string (w0 := w) w.heap.size (by rfl) (.tmp 66) (.tmp 69) 22 9 (.string ⟨#[]⟩) 16 rfl Try.underlying22 info9 rfl (by decide) (by omega) v488 y487 y490 _ _ _ (fun k_ => some k_ ≠ (.slice Ao11 t474.length co11 : Value).ownBlock) (fun _ => False) rfl rfl ?aO ?aR (fun _ _ h => h) (fun _ h => h.elim) ?aF ?aB ?aS ?aL ?_
     (case aR => repeat (first | exact b9_ | (with_reducible refine Kd.C_alloc ?_ _) | (with_reducible refine Kd.C_drewN ?_ _) | (with_reducible refine Kd.C_drew ?_))); (case aB => exact bel); (case aF => exact (fun k_ hk => Kd.fresh' (Kd.R_lt (rq HO_5.out)) k_ hk)); (case aO => exact (rq (Kd.R_mono HO489.out (fun _ hk => hk.2)))); (case aS => exact (below_size bel)); (case aL => have := LMc33.out; omega); intro v495 w72 ho hb hg hat; rw [← Ny494.out] at ho
     replace HO_6 := am (Kd.S_over' b21_ (Kd.R_typed (rq HO489.out)) (by decide) hg); replace HO_8 := am (Kd.S_over' b22_ (Kd.R_typed (rq HO489.out)) (by decide) hg); replace HB := am (hb)
     replace HR493 := am ((show Kd.C Kd.string w72 Ao11 y490.length y490 from by rw [Ny490.out]; exact Kd.C_take (m := ((ji30) : Int).toNat) ((Kd.R_reads' (Kd.R_after (ok := (fun _ => True)) (rq HO_5.out) hg hat)).2.2) KL68.out))
     replace HR500 := am ((show Kd.C Kd.string w72 A69 y497.length y497 from by rw [Ny497.out, KA69.out]; exact Kd.C_drop (m := ((ji34) : Int).toNat) (c := co11) ((Kd.R_reads' (Kd.R_after (ok := (fun _ => True)) (rq HO_5.out) hg hat)).2.2) KL69.out ((Kd.R_reads' (Kd.R_after (ok := (fun _ => True)) (rq HO_5.out) hg hat)).2.1)))
     replace HO_5 := am (Kd.R_after (ok := (fun _ => True)) (rq HO_5.out) hg hat); have HO496 := am (ho); clear HO489; clear ho hb hg hat
     refine hK.out _ _ trivial (fun hHeld => ?_); clear hK K; refine nm 70 ?_; refine on1 9 75 (fun K hK => ?_)
     refine Kd.R_append_rows_step Kd.string (w0 := w) w.heap.size (by rfl) (.tmp 70) (.tmp 74) 22 9 (.string ⟨#[]⟩) 16 rfl Try.underlying22 info9 rfl (by decide) (by omega) v495 y494 y497 _ _ _ (fun k_ => some k_ ≠ (.slice Ao11 t474.length co11 : Value).ownBlock) (fun _ => False) rfl rfl ?aO ?aR (fun _ _ h => h) (fun _ h => h.elim) ?aF ?aB ?aS ?aL ?_
     (case aR => repeat (first | exact b10_ | (with_reducible refine Kd.C_alloc ?_ _) | (with_reducible refine Kd.C_drewN ?_ _) | (with_reducible refine Kd.C_drew ?_))); (case aB => exact bel); (case aF => exact (fun k_ hk => Kd.fresh' (Kd.R_lt (rq HO_5.out)) k_ hk)); (case aO => exact (rq HO496.out)); (case aS => exact (below_size bel)); (case aL => have := LMc37.out; omega); intro v502 w73 ho hb hg hat; rw [← Ny501.out] at ho
     replace HO_6 := am (Kd.S_over' b21_ (Kd.R_typed (rq HO496.out)) (by decide) hg); replace HO_8 := am (Kd.S_over' b22_ (Kd.R_typed (rq HO496.out)) (by decide) hg); replace HB := am (hb)
     replace HR493 := am ((show Kd.C Kd.string w73 Ao11 y490.length y490 from by rw [Ny490.out]; exact Kd.C_take (m := ((ji30) : Int).toNat) ((Kd.R_reads' (Kd.R_after (ok := (fun _ => True)) (rq HO_5.out) hg hat)).2.2) KL68.out))
     replace HR500 := am ((show Kd.C Kd.string w73 A69 y497.length y497 from by rw [Ny497.out, KA69.out]; exact Kd.C_drop (m := ((ji34) : Int).toNat) (c := co11) ((Kd.R_reads' (Kd.R_after (ok := (fun _ => True)) (rq HO_5.out) hg hat)).2.2) KL69.out ((Kd.R_reads' (Kd.R_after (ok := (fun _ => True)) (rq HO_5.out) hg hat)).2.1)))
     replace HO_5 := am (Kd.R_after (ok := (fun _ => True)) (rq HO_5.out) hg hat); have HO503 := am (ho); clear HO496; clear ho hb hg hat
     refine hK.out _ _ trivial (fun hHeld => ?_); clear hK K; refine nm 75 ?_; refine pu 10 11 ?_
     refine done_ (done_of HT_.out (by kernel_rfl)) ?_
     obtain ⟨Ao74, co74, eo74⟩ := Kd.R_slice HO503.out; subst eo74
     try go_wp2_with (first | ((with_reducible refine gate_callee (f := 9) rfl ?_); refine gl 78 Try.func9 #[.slice Ao74 y501.length co74] ?_; (with_reducible refine (impl_MachineOf.calls kj8 _ _ y501 t504 false _ ?side1 ?side2 A38.out).mono ?_); (case side1 => exact cq (Kd.R_reads' HO503.out).2.2); (case side2 => exact (Kd.R_reads' HO503.out).2.1); rintro e w75 ⟨v506, rfl, ho0, hb⟩; refine ⟨_, rfl, ?_⟩; replace HO_5 := am (Kd.R_below (rq HO_5.out) hb); replace HO503 := am (Kd.R_below (rq HO503.out) hb); have HO507 := am (Kd.S_lower (Kd.S_new' (Kd.S_new' ho0 (Kd.S_lt b21_)) (Kd.S_lt b22_)) (below_size bel)); replace HO_6 := am (Kd.S_elder' b21_ (Kd.S_base ho0) hb); replace HO_8 := am (Kd.S_elder' b22_ (Kd.S_base ho0) hb); replace HR493 := am (Kd.C_below b9_ hb); replace HR500 := am (Kd.C_below b10_ hb); replace HB := am (below_step bel hb); clear hb; (try clear ho0)))
     go_ret
     exact ⟨b65_, bel⟩

/-- THE ONE PURE STATEMENT of laws_FnMachineDrop: yours. -/
def laws_FnMachineDrop.Pure : Prop := ∀ (l0 : List Int) (l1 : List Int), l0.length ≤ maxLen → l0.length * 1 ≤ 140737488351232 → (∀ x ∈ l0, (Lit.int .u8 x).wf = true) → l1.length ≤ maxLen → l1.length * 1 ≤ 140737488351232 → (∀ x ∈ l1, (Lit.int .u8 x).wf = true) → ∃ k, laws_FnMachineDrop.f k l0 l1 = some true
theorem laws_FnMachineDrop.walk (P : laws_FnMachineDrop.Pure) (a0 : Option Addr) (len0 cap0 : Nat) (z0 : List Int) (a1 : Option Addr) (len1 cap1 : Nat) (z1 : List Int) (w : World) (w0 : (a0 = none ∧ len0 = 0 ∧ cap0 = 0 ∧ z0 = []) ∨ ∃ x, a0 = some x ∧ len0 ≤ cap0 ∧ cap0 ≤ maxLen ∧ z0.length = cap0 ∧ (∀ i, i < z0.length → w.cell? (x.add i) = some (.int .u8 (z0.getD i 0))) ∧ ∀ n ∈ z0, (Lit.int .u8 n).wf = true) (y0 : len0 * 1 ≤ 140737488351232) (w1 : (a1 = none ∧ len1 = 0 ∧ cap1 = 0 ∧ z1 = []) ∨ ∃ x, a1 = some x ∧ len1 ≤ cap1 ∧ cap1 ≤ maxLen ∧ z1.length = cap1 ∧ (∀ i, i < z1.length → w.cell? (x.add i) = some (.int .u8 (z1.getD i 0))) ∧ ∀ n ∈ z1, (Lit.int .u8 n).wf = true) (y1 : len1 * 1 ≤ 140737488351232) :
  Calls Try.prog 5 #[.slice a0 len0 cap0, .slice a1 len1 cap1] w fun e w' => e = .returned (.bool true) ∧ Below w.heap.size w w' := by
 obtain ⟨l0, rfl, hr0, hm0, hw0, hc0⟩ := ReadsInt.ofRowC w0; obtain ⟨l1, rfl, hr1, hm1, hw1, hc1⟩ := ReadsInt.ofRowC w1; obtain ⟨k, h⟩ := P l0 l1 hm0 y0 hw0 hm1 y1 hw1
 refine (laws_FnMachineDrop.calls k _ _ l0 _ _ l1 true w (Kd.C_of_reads (d := (0 : Int)) (h1 := fun _ => rfl) hr0) hc0 (Kd.C_of_reads (d := (0 : Int)) (h1 := fun _ => rfl) hr1) hc1 h).mono ?_
 rintro e w' ⟨rfl, hd⟩
 exact ⟨rfl, hd⟩
end Go.Proofs.Ytpljfjbhlboffaa.QFnMachineDrop

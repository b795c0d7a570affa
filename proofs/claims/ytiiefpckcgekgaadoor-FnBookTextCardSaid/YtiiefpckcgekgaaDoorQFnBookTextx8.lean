import Derived.Test.YtiiefpckcgekgaaDoorQFnBookTextx0
import Derived.Test.YtiiefpckcgekgaaDoorQFnBookTextx6
import Derived.Test.YtiiefpckcgekgaaDoorVMSh2
namespace Go.Proofs.YtiiefpckcgekgaaDoor.QFnBookText
open Go.RowKit Go.Proofs.YtiiefpckcgekgaaDoorW.PrintWords Go.Proofs.YtiiefpckcgekgaaDoorW.PrintLast Go.Proofs.YtiiefpckcgekgaaDoorW.PrintMore Go.Proofs.YtiiefpckcgekgaaDoor.Sh
attribute [local go_sem] max2_int min2_int max_two min_two max_three min_three max_four min_four
set_option linter.unusedVariables false
set_option linter.unusedSimpArgs false
set_option maxHeartbeats 8000000
set_option maxRecDepth 100000
-- shrunk

attribute [local go_sem high] eqA40
/-! ### impl_lower: function 82 -/
def impl_lower.l0 : Nat → ByteArray → Int → Int → Option (Bool)
 | 0, _, _, _ => none
 | k + 1, x0, x5, x6 => if x6 < x5 then (if 0 ≤ x6 then (if x6 < (x0.size : Int) then (if (bt x0 x6) < 97 then (some false) else (if (bt x0 x6) > 122 then (some false) else (impl_lower.l0 k x0 x5 (wrap64 (x6 + 1))))) else (none)) else (none)) else (some true)
def impl_lower.f (k : Nat) (a0 : ByteArray) : Option (Bool) := impl_lower.l0 k a0 (a0.size : Int) 0
theorem impl_lower.calls (k : Nat) (a0 : ByteArray) (r : Bool) (w : World) (h : impl_lower.f k a0 = some r) :
  Calls Tryd.prog 82 #[.string a0] w fun e w' => e = .returned (.bool r) ∧ Drawn0 w w' := by
 have H : (impl_lower.l0 k a0 (a0.size : Int) 0) = some r := h
 clear h
 have H' := am H
 clear H; go_enter Tryd.func82, Tryd.ntmps82; go_wp2
 go_loopg [6] k (fun kq v6 w' => ∃ (x6_1 : Int), v6 = .int .i64 x6_1 ∧ Aside0 (impl_lower.l0 kq a0 (a0.size : Int) x6_1 = some r) ∧ Aside0 (kq ≤ k) ∧ Drawn0 w w')
 case atStart => exact ⟨(0), sq, H', ⟨Nat.le_refl _⟩, dr⟩
 case round =>
  clear H'; obtain ⟨x6_1, rfl, HA, HK1, ⟨m1, rfl⟩⟩ := hrel
  cases gk with
  | zero => exact absurd HA.out (by simp [impl_lower.l0])
  | succ k1 =>
   have H := HA.out; clear HA
   simp only [impl_lower.l0] at H
   by_cases c2 : x6_1 < (a0.size : Int)
   ·rw [if_pos c2] at H; have c2b0 := decide_eq_true c2; clear c2
    replace H := it H; obtain ⟨c3b0, H⟩ := H
    replace H := it H; obtain ⟨c4b0, H⟩ := H
    by_cases c6 : (bt a0 x6_1) < 97
    ·rw [if_pos c6] at H; have c6b0 := decide_eq_true c6; clear c6; obtain rfl := Option.some.inj H
     have p5 : 0 ≤ (x6_1 : Int) := of_decide_eq_true ad
     have q5 : x6_1 < (a0.size : Int) := of_decide_eq_true ad
     have hx5 := bt_at a0 x6_1; replace p5 := eq_true p5; replace q5 := eq_true q5; go_wp2; go_ret
     exact ⟨sq, dr⟩
    rw [if_neg c6] at H; have c6b0 := decide_eq_false c6; clear c6
    by_cases c8 : (bt a0 x6_1) > 122
    ·rw [if_pos c8] at H; have c8b0 := decide_eq_true c8; clear c8; obtain rfl := Option.some.inj H
     have p5 : 0 ≤ (x6_1 : Int) := of_decide_eq_true ad
     have q5 : x6_1 < (a0.size : Int) := of_decide_eq_true ad
     have hx5 := bt_at a0 x6_1; replace p5 := eq_true p5; replace q5 := eq_true q5
     have p7 : 0 ≤ (x6_1 : Int) := of_decide_eq_true ad
     have q7 : x6_1 < (a0.size : Int) := of_decide_eq_true ad
     have hx7 := bt_at a0 x6_1; replace p7 := eq_true p7; replace q7 := eq_true q7; go_wp2; go_ret
     exact ⟨sq, dr⟩
    rw [if_neg c8] at H; have c8b0 := decide_eq_false c8; clear c8
    have H' := am H
    clear H
    have p5 : 0 ≤ (x6_1 : Int) := of_decide_eq_true ad
    have q5 : x6_1 < (a0.size : Int) := of_decide_eq_true ad
    have hx5 := bt_at a0 x6_1; replace p5 := eq_true p5; replace q5 := eq_true q5
    have p7 : 0 ≤ (x6_1 : Int) := of_decide_eq_true ad
    have q7 : x6_1 < (a0.size : Int) := of_decide_eq_true ad
    have hx7 := bt_at a0 x6_1; replace p7 := eq_true p7; replace q7 := eq_true q7; go_wp2
    go_roundg k1
    case measure => have := HK1.out; omega
    case rel => exact ⟨(wrap64 (x6_1 + 1)), sq, H', ⟨b74_⟩, dr⟩
   rw [if_neg c2] at H; have c2b0 := decide_eq_false c2; clear c2; obtain rfl := Option.some.inj H; go_wp2; go_ret
   exact ⟨sq, dr⟩

/-! ### stringslite_HasPrefix: function 94 -/
def stringslite_HasPrefix.f (a0 : ByteArray) (a1 : ByteArray) : Option (Bool) := if (a0.size : Int) ≥ (a1.size : Int) then (if 0 ≤ (a1.size : Int) then (if (a1.size : Int) ≤ (a0.size : Int) then (some ((a0.extract 0 a1.size).toList == a1.toList)) else (none)) else (none)) else (some false)
theorem stringslite_HasPrefix.calls (a0 : ByteArray) (a1 : ByteArray) (r : Bool) (w : World) (h : stringslite_HasPrefix.f a0 a1 = some r) :
  Calls Tryd.prog 94 #[.string a0, .string a1] w fun e w' => e = .returned (.bool r) ∧ Drawn0 w w' := by
 have H : (if (a0.size : Int) ≥ (a1.size : Int) then (if 0 ≤ (a1.size : Int) then (if (a1.size : Int) ≤ (a0.size : Int) then (some ((a0.extract 0 a1.size).toList == a1.toList)) else (none)) else (none)) else (some false)) = some r := h
 clear h
 by_cases c3 : (a0.size : Int) ≥ (a1.size : Int)
 ·rw [if_pos c3] at H; have c3b0 := decide_eq_true c3
  have c3b1 : decide (a1.size ≤ a0.size) = true := decide_eq_true (Int.ofNat_le.mp c3)
  clear c3
  replace H := ip H; obtain ⟨c4, H⟩ := H; have c4b0 := eq_true c4
  have c4b1 : decide (0 ≤ (a1.size : Int)) = true := decide_eq_true c4
  clear c4
  replace H := ip H; obtain ⟨c5, H⟩ := H; have c5b0 := eq_true c5
  have c5b9 : (a1.size ≤ a0.size) = True := eq_true (by omega)
  have c5b6 : decide (a1.size ≤ a0.size) = true := decide_eq_true (by omega)
  have c5b1 : decide ((a1.size : Int) ≤ (a0.size : Int)) = true := decide_eq_true c5
  clear c5; obtain rfl := Option.some.inj H; go_enter Tryd.func94, Tryd.ntmps94; go_wp2; go_ret
  exact ⟨sq, dr⟩
 rw [if_neg c3] at H; have c3b0 := decide_eq_false c3
 have c3b1 : decide (a1.size ≤ a0.size) = false := decide_eq_false (fun h => c3 (Int.ofNat_le.mpr h))
 clear c3; obtain rfl := Option.some.inj H; go_enter Tryd.func94, Tryd.ntmps94; go_wp2; go_ret
 exact ⟨sq, dr⟩

/-! ### strings_HasPrefix: function 83 -/
def strings_HasPrefix.f (a0 : ByteArray) (a1 : ByteArray) : Option (Bool) := (stringslite_HasPrefix.f a0 a1).bind fun t180 => (some t180)
theorem strings_HasPrefix.calls (a0 : ByteArray) (a1 : ByteArray) (r : Bool) (w : World) (h : strings_HasPrefix.f a0 a1 = some r) :
  Calls Tryd.prog 83 #[.string a0, .string a1] w fun e w' => e = .returned (.bool r) ∧ Drawn0 w w' := by
 have H : ((stringslite_HasPrefix.f a0 a1).bind fun t180 => (some t180)) = some r := h
 clear h; replace H := bs H; obtain ⟨t180, A30, H⟩ := H; replace H : (some t180) = some r := H; have A3 := Aside0.mk A30; clear A30; obtain rfl := Option.some.inj H; go_enter Tryd.func83, Tryd.ntmps83
 go_wp2_with (first | ((with_reducible refine gate_callee (f := 94) rfl ?_); refine goesL_ (some 7) rfl rfl Tryd.func94 (by kernel_rfl) rfl #[.string a0, .string a1] rfl mq ?_; (with_reducible refine (stringslite_HasPrefix.calls a0 a1 t180 _ A3.out).mono ?_); rintro e w' ⟨rfl, ⟨nd, rfl⟩⟩; refine ⟨_, rfl, ?_⟩))
 go_ret
 exact ⟨sq, dr⟩

/-! ### stringslite_HasSuffix: function 95 -/
def stringslite_HasSuffix.f (a0 : ByteArray) (a1 : ByteArray) : Option (Bool) := if (a0.size : Int) ≥ (a1.size : Int) then (if 0 ≤ (wrap64 ((a0.size : Int) - (a1.size : Int))) then (if (wrap64 ((a0.size : Int) - (a1.size : Int))) ≤ (a0.size : Int) then (some ((a0.extract ((wrap64 ((a0.size : Int) - (a1.size : Int))) : Int).toNat a0.size).toList == a1.toList)) else (none)) else (none)) else (some false)
theorem stringslite_HasSuffix.calls (a0 : ByteArray) (a1 : ByteArray) (r : Bool) (w : World) (h : stringslite_HasSuffix.f a0 a1 = some r) :
  Calls Tryd.prog 95 #[.string a0, .string a1] w fun e w' => e = .returned (.bool r) ∧ Drawn0 w w' := by
 have H : (if (a0.size : Int) ≥ (a1.size : Int) then (if 0 ≤ (wrap64 ((a0.size : Int) - (a1.size : Int))) then (if (wrap64 ((a0.size : Int) - (a1.size : Int))) ≤ (a0.size : Int) then (some ((a0.extract ((wrap64 ((a0.size : Int) - (a1.size : Int))) : Int).toNat a0.size).toList == a1.toList)) else (none)) else (none)) else (some false)) = some r := h
 clear h
 by_cases c3 : (a0.size : Int) ≥ (a1.size : Int)
 ·rw [if_pos c3] at H; have c3b0 := decide_eq_true c3
  have c3b1 : decide (a1.size ≤ a0.size) = true := decide_eq_true (Int.ofNat_le.mp c3)
  clear c3; obtain ⟨ji4, hji4⟩ : ∃ j_ : Int, (wrap64 ((a0.size : Int) - (a1.size : Int))) = j_ := ⟨_, rfl⟩
  replace H : (if 0 ≤ (ji4) then (if (ji4) ≤ (a0.size : Int) then (some ((a0.extract ((ji4) : Int).toNat a0.size).toList == a1.toList)) else (none)) else (none)) = some r := by first | (rw [hji4] at H; exact H) | (simp only [hji4] at H ⊢; exact H)
  have hji4w : (IntKind.i64.wrap ((a0.size : Int) - (a1.size : Int))) = ji4 := (i64_w _).trans hji4
  replace H := ip H; obtain ⟨c5, H⟩ := H; have c5b0 := eq_true c5
  have c5b1 : decide (0 ≤ (ji4)) = true := decide_eq_true c5
  clear c5
  replace H := ip H; obtain ⟨c6, H⟩ := H; have c6b0 := eq_true c6
  have c6b1 : decide ((ji4) ≤ (a0.size : Int)) = true := decide_eq_true c6
  clear c6; obtain rfl := Option.some.inj H; go_enter Tryd.func95, Tryd.ntmps95; go_wp2; go_ret
  exact ⟨by first | rfl | (simp; done) | (simp only [← hji4] <;> (first | rfl | simp)) | (simp [*]; done), dr⟩
 rw [if_neg c3] at H; have c3b0 := decide_eq_false c3
 have c3b1 : decide (a1.size ≤ a0.size) = false := decide_eq_false (fun h => c3 (Int.ofNat_le.mpr h))
 clear c3; obtain rfl := Option.some.inj H; go_enter Tryd.func95, Tryd.ntmps95; go_wp2; go_ret
 exact ⟨sq, dr⟩

/-! ### strings_HasSuffix: function 84 -/
def strings_HasSuffix.f (a0 : ByteArray) (a1 : ByteArray) : Option (Bool) := (stringslite_HasSuffix.f a0 a1).bind fun t181 => (some t181)
theorem strings_HasSuffix.calls (a0 : ByteArray) (a1 : ByteArray) (r : Bool) (w : World) (h : strings_HasSuffix.f a0 a1 = some r) :
  Calls Tryd.prog 84 #[.string a0, .string a1] w fun e w' => e = .returned (.bool r) ∧ Drawn0 w w' := by
 have H : ((stringslite_HasSuffix.f a0 a1).bind fun t181 => (some t181)) = some r := h
 clear h; replace H := bs H; obtain ⟨t181, A30, H⟩ := H; replace H : (some t181) = some r := H; have A3 := Aside0.mk A30; clear A30; obtain rfl := Option.some.inj H; go_enter Tryd.func84, Tryd.ntmps84
 go_wp2_with (first | ((with_reducible refine gate_callee (f := 95) rfl ?_); refine goesL_ (some 7) rfl rfl Tryd.func95 (by kernel_rfl) rfl #[.string a0, .string a1] rfl mq ?_; (with_reducible refine (stringslite_HasSuffix.calls a0 a1 t181 _ A3.out).mono ?_); rintro e w' ⟨rfl, ⟨nd, rfl⟩⟩; refine ⟨_, rfl, ?_⟩))
 go_ret
 exact ⟨sq, dr⟩

/-! ### impl_AffixOk: function 64 -/
mutual
def impl_AffixOk.j0 : Nat → Bool → ByteArray → Bool → ByteArray → ByteArray → ByteArray → Option (Bool)
 | 0, _, _, _, _, _, _ => none
 | k + 1, x15, x183000, x183001, x183002, x183003, x183004 => if x15 = true then (some false) else ((some (([x183002, x183003, x183004] : List ByteArray) : List ByteArray)).bind fun y184 => (impl_AffixOk.l0 k y184 (y184.length : Int) 0 x183000 x183001 x183002 x183003 x183004))
def impl_AffixOk.l0 : Nat → List ByteArray → Int → Int → ByteArray → Bool → ByteArray → ByteArray → ByteArray → Option (Bool)
 | 0, _, _, _, _, _, _, _, _ => none
 | k + 1, x22, x23, x24, x183000, x183001, x183002, x183003, x183004 => if x24 < x23 then (if 0 ≤ x24 then (if x24 < (x22.length : Int) then (if ((rdOf ByteArray.empty x22 x24).size : Int) > 4 then (some false) else ((impl_lower.f k (rdOf ByteArray.empty x22 x24)).bind fun t188 => (if t188 = true then (impl_AffixOk.l0 k x22 x23 (wrap64 (x24 + 1)) x183000 x183001 x183002 x183003 x183004) else (some false)))) else (none)) else (none)) else (if x183001 = true then ((strings_HasPrefix.f x183004 x183002).bind fun t189 => (some t189)) else ((strings_HasSuffix.f x183004 x183002).bind fun t190 => (some t190)))
end
def impl_AffixOk.f (k : Nat) (a0_0 : ByteArray) (a0_1 : Bool) (a0_2 : ByteArray) (a0_3 : ByteArray) (a0_4 : ByteArray) : Option (Bool) := if (a0_0.size : Int) = 1 then (if 0 < (a0_0.size : Int) then ((impl_upper.f (bt a0_0 0)).bind fun t183 => (impl_AffixOk.j0 k (!t183) a0_0 a0_1 a0_2 a0_3 a0_4)) else (none)) else (impl_AffixOk.j0 k true a0_0 a0_1 a0_2 a0_3 a0_4)
theorem impl_AffixOk.calls (k : Nat) (a0_0 : ByteArray) (a0_1 : Bool) (a0_2 : ByteArray) (a0_3 : ByteArray) (a0_4 : ByteArray) (r : Bool) (w : World) (h : impl_AffixOk.f k a0_0 a0_1 a0_2 a0_3 a0_4 = some r) :
  Calls Tryd.prog 64 #[.agg #[.string a0_0, .bool a0_1, .string a0_2, .string a0_3, .string a0_4]] w fun e w' => e = .returned (.bool r) ∧ Below w.heap.size w w' := by
 have hu40 := Tryd.underlying40; have HB := am (Below.refl w.heap.size w)
 have H : (if (a0_0.size : Int) = 1 then (if 0 < (a0_0.size : Int) then ((impl_upper.f (bt a0_0 0)).bind fun t183 => (impl_AffixOk.j0 k (!t183) a0_0 a0_1 a0_2 a0_3 a0_4)) else (none)) else (impl_AffixOk.j0 k true a0_0 a0_1 a0_2 a0_3 a0_4)) = some r := h
 clear h; have HC2 := am H; clear H; go_enter Tryd.func64, Tryd.ntmps64
 go_upto_region 1 with (first | ((with_reducible refine gate_dst (N := 1) rfl ?_); refine bx 1 (cs := #[.string a0_0, .bool a0_1, .string a0_2, .string a0_3, .string a0_4]) (t := 40) ?_; intro gb182 hg w3 hbox hb; have BK182 := am (hbox); have GW182 := am ((b19_ : w.heap.size ≤ gb182)); have GE182 := am ((b19_ : w.heap.size ≤ gb182)); replace HB := am (below_step bel hb); clear hb hbox hg))
 (try simp only [Act.put, List.setIfInBounds_toArray, List.set_cons_zero, List.set_cons_succ])
 go_cut [15] (fun v15 wc => ∃ (kq : Nat) (x15_1 : Bool), v15 = .bool x15_1 ∧ Aside0 (impl_AffixOk.j0 kq x15_1 a0_0 a0_1 a0_2 a0_3 a0_4 = some r) ∧ Aside0 (kq ≤ k) ∧ Aside0 (wc.heap[gb182]? = some (.cells #[.string a0_0, .bool a0_1, .string a0_2, .string a0_3, .string a0_4] 40 (0, 0))) ∧ Aside0 (Below w.heap.size w wc))
 case first =>
  have H := HC2.out; clear HC2
  by_cases c4 : (a0_0.size : Int) = 1
  ·rw [if_pos c4] at H
   have c4b0 : ((a0_0.size : Int) == 1) = true := beq_iff_eq.mpr c4
   have c4b1 : ((a0_0.size : Int) != 1) = false := bne_eq_false_iff_eq.mpr c4
   clear c4
   (first | rw [c4b0] | (simp only [i64_w, i32_w]; rw [c4b0]) | skip)
   replace H := ip H; obtain ⟨c5, H⟩ := H; have c5b0 := decide_eq_true c5
   have c5b1 : decide (0 < a0_0.size) = true := decide_eq_true (by omega)
   clear c5; replace H := bs H; obtain ⟨t183, A70, H⟩ := H; replace H : (impl_AffixOk.j0 k (!t183) a0_0 a0_1 a0_2 a0_3 a0_4) = some r := H; have A7 := Aside0.mk A70; clear A70
   have H' := am H
   clear H; have hcz8_0 := bc BK182.out 0; have hcz8_1 := bc BK182.out 1; have hcz8_2 := bc BK182.out 2; have hcz8_3 := bc BK182.out 3; have hcz8_4 := bc BK182.out 4; have hfz8_0 := bf BK182.out 0; have hfz8_1 := bf BK182.out 1; have hfz8_2 := bf BK182.out 2; have hfz8_3 := bf BK182.out 3; have hfz8_4 := bf BK182.out 4
   have p6 : 0 ≤ (0 : Int) := (by omega)
   have q6 : 0 < a0_0.size := (by have : (0 : Int) < (a0_0.size : Int) := of_decide_eq_true ad; omega)
   have hx6 : ∀ h : 0 < a0_0.size, ((a0_0[0]'h).toNat : Int) = bt a0_0 0 := bt_at a0_0 0
   clear p6
   have qi6 : (0 < (a0_0.size : Int)) = True := eq_true (of_decide_eq_true ad)
   replace q6 := eq_true q6
   go_wp2_with (first | (go_at_call 81; (with_reducible refine (impl_upper.calls (bt a0_0 0) t183 _ A7.out).mono ?_); rintro e w' ⟨rfl, ⟨nd, rfl⟩⟩))
   go_meet
   case rel => exact ⟨_, (!t183), sq, H', ⟨b69_⟩, ⟨bq BK182.out⟩, ⟨bel1 GE182.out⟩⟩
  rw [if_neg c4] at H
  have c4b0 : ((a0_0.size : Int) == 1) = false := beq_eq_false_iff_ne.mpr c4
  have c4b1 : ((a0_0.size : Int) != 1) = true := bne_iff_ne.mpr c4
  (first | rw [c4b0] | (simp only [i64_w, i32_w]; rw [c4b0]) | skip)
  have H' := am H
  clear H; have hcz9_0 := bc BK182.out 0; have hcz9_1 := bc BK182.out 1; have hcz9_2 := bc BK182.out 2; have hcz9_3 := bc BK182.out 3; have hcz9_4 := bc BK182.out 4; have hfz9_0 := bf BK182.out 0; have hfz9_1 := bf BK182.out 1; have hfz9_2 := bf BK182.out 2; have hfz9_3 := bf BK182.out 3; have hfz9_4 := bf BK182.out 4; go_wp2
  go_meet
  case rel => exact ⟨_, (true), sq, H', ⟨b69_⟩, ⟨bq BK182.out⟩, ⟨bel1 GE182.out⟩⟩
 case rest =>
  clear HC2; (try clear p2); (try clear c4); (try clear c4b0); (try clear c4b1); (try clear c5); (try clear c5b0); (try clear c5b1); (try clear c6); (try clear p6); (try clear q6); (try clear hx6); (try clear qi6); (try clear hcz8_0); (try clear hcz8_1); (try clear hcz8_2); (try clear hcz8_3); (try clear hcz8_4); (try clear hcz9_0); (try clear hcz9_1); (try clear hcz9_2); (try clear hcz9_3); (try clear hcz9_4); (try clear hfz8_0); (try clear hfz8_1); (try clear hfz8_2); (try clear hfz8_3); (try clear hfz8_4); (try clear hfz9_0); (try clear hfz9_1); (try clear hfz9_2); (try clear hfz9_3); (try clear hfz9_4); (try clear p6); (try clear q6); obtain ⟨kq, x15_1, rfl, HA, HJ1, BK182, HB⟩ := hcut
  cases kq with
  | zero => exact absurd HA.out (by simp [impl_AffixOk.j0])
  | succ kj1 =>
   have H := HA.out; clear HA
   simp only [impl_AffixOk.j0] at H
   by_cases c10 : x15_1 = true
   ·subst c10
    have H1 : (some false) = some r := b47_
    replace H := H1; clear H1
    obtain rfl := Option.some.inj H; go_wp2; go_ret
    exact ⟨eq_, bel1 GE182.out⟩
   replace c10 := Bool.eq_false_iff.mpr c10; subst c10
   have H1 : ((some (([a0_2, a0_3, a0_4] : List ByteArray) : List ByteArray)).bind fun y184 => (impl_AffixOk.l0 kj1 y184 (y184.length : Int) 0 a0_0 a0_1 a0_2 a0_3 a0_4)) = some r := b22_
   replace H := H1; clear H1
   obtain ⟨y184, hy184⟩ : ∃ y_ : List ByteArray, y_ = (([a0_2, a0_3, a0_4] : List ByteArray)) := ⟨_, rfl⟩
   replace H : (impl_AffixOk.l0 kj1 y184 (y184.length : Int) 0 a0_0 a0_1 a0_2 a0_3 a0_4) = some r := by first | (rw [hy184]; with_reducible exact H) | (have H2_ := bm H; rw [hy184]; with_reducible exact H2_) | (with_reducible exact bm H) | with_reducible exact H | (rw [hy184]; exact H) | exact H
   have Ny184 := am hy184; clear hy184
   have H' := am H
   clear H; have hcz11_0 := bc BK182.out 0; have hcz11_1 := bc BK182.out 1; have hcz11_2 := bc BK182.out 2; have hcz11_3 := bc BK182.out 3; have hcz11_4 := bc BK182.out 4; have hfz11_0 := bf BK182.out 0; have hfz11_1 := bf BK182.out 1; have hfz11_2 := bf BK182.out 2; have hfz11_3 := bf BK182.out 3; have hfz11_4 := bf BK182.out 4
   go_wp2_with (first | ((with_reducible refine gate_dst (N := 22) rfl ?_); refine Kd.R_lit Kd.string _ 9 ?hg (N := 22) ?hd (xs := ([a0_2, a0_3, a0_4] : List ByteArray)) (inner := [.string a0_2, .string a0_3, .string a0_4]) (ok := fun _ => True) (okp := fun _ => True) ?hr ?hp (fun _ hk => hk) trivial (Below.refl _ _) (Nat.le_refl _) (by simp) ?_; (case hd => rfl); (case hg => rfl); (case hr => first | (go_simp; done) | (go_simp; rfl)); (case hp => exact (Reps.one (show Kd.M Kd.string _ _ _ a0_2 [.string a0_2] from rfl) (Reps.one (show Kd.M Kd.string _ _ _ a0_3 [.string a0_3] from rfl) (Reps.one (show Kd.M Kd.string _ _ _ a0_4 [.string a0_4] from rfl) (Reps.none _ _))))); intro v185 w12 ho13 hb hg_ hnew_; clear hg_ hnew_; (first | rw [← Ny184.out] at ho13 | (simp only [Int.reduceToNat] at ho13; rw [← Ny184.out] at ho13) | (simp only [Int.toNat_natCast] at ho13; rw [← Ny184.out] at ho13)); have HO186 := am (Kd.R_lower ho13 (below_size (bel1 GE182.out))); replace BK182 := am (blk_below (g := gb182) (o := .cells #[.string a0_0, .bool a0_1, .string a0_2, .string a0_3, .string a0_4] 40 (0, 0)) (bq BK182.out) hb); replace HB := am (below_step (bel1 GE182.out) hb); clear hb ho13; obtain ⟨Ao14, co14, eo14⟩ := Kd.R_slice HO186.out; subst eo14))
   go_loopg [24] kj1 (fun kq v24 w' => ∃ (x24_2 : Int), v24 = .int .i64 x24_2 ∧ Aside0 (impl_AffixOk.l0 kq y184 (y184.length : Int) x24_2 a0_0 a0_1 a0_2 a0_3 a0_4 = some r) ∧ Aside0 (kq ≤ kj1) ∧ Aside0 (Kd.R Kd.string 9 w' w.heap.size (fun _ => True) (.slice Ao14 y184.length co14) y184) ∧ Aside0 (w'.heap[gb182]? = some (.cells #[.string a0_0, .bool a0_1, .string a0_2, .string a0_3, .string a0_4] 40 (0, 0))) ∧ Aside0 (Below w.heap.size w w'))
   case atStart => exact ⟨(0), sq, H', ⟨Nat.le_refl _⟩, ⟨rq HO186.out⟩, ⟨bq BK182.out⟩, ⟨bel1 GE182.out⟩⟩
   case round =>
    clear H'; (try clear c1); (try clear p2); (try clear c4); (try clear c4b0); (try clear c4b1); (try clear c5); (try clear c5b0); (try clear c5b1); (try clear c6); (try clear p6); (try clear q6); (try clear hx6); (try clear qi6); (try clear c10); (try clear hcz11_0); (try clear hcz11_1); (try clear hcz11_2); (try clear hcz11_3); (try clear hcz11_4); (try clear hcz8_0); (try clear hcz8_1); (try clear hcz8_2); (try clear hcz8_3); (try clear hcz8_4); (try clear hcz9_0); (try clear hcz9_1); (try clear hcz9_2); (try clear hcz9_3); (try clear hcz9_4); (try clear hfz11_0); (try clear hfz11_1); (try clear hfz11_2); (try clear hfz11_3); (try clear hfz11_4); (try clear hfz8_0); (try clear hfz8_1); (try clear hfz8_2); (try clear hfz8_3); (try clear hfz8_4); (try clear hfz9_0); (try clear hfz9_1); (try clear hfz9_2); (try clear hfz9_3); (try clear hfz9_4); (try clear p2); (try clear p6); (try clear q6); obtain ⟨x24_2, rfl, HA, HK2, HO_22, BK182, HB⟩ := hrel
    cases gk with
    | zero => exact absurd HA.out (by simp [impl_AffixOk.l0])
    | succ k2 =>
     have H := HA.out; clear HA
     simp only [impl_AffixOk.l0] at H
     by_cases c15 : x24_2 < (y184.length : Int)
     ·rw [if_pos c15] at H; have c15b0 := decide_eq_true c15; clear c15
      replace H := it H; obtain ⟨c16b0, H⟩ := H
      replace H := it H; obtain ⟨c17b0, H⟩ := H
      by_cases c18 : ((rdOf ByteArray.empty y184 x24_2).size : Int) > 4
      ·rw [if_pos c18] at H; have c18b0 := decide_eq_true c18
       have c18b1 : decide (4 < (rdOf ByteArray.empty y184 x24_2).size) = true := decide_eq_true (by omega)
       clear c18; obtain rfl := Option.some.inj H
       have p187 : 0 ≤ (x24_2 : Int) := of_decide_eq_true ad
       have q187 : x24_2 < (y184.length : Int) := of_decide_eq_true ad
       obtain ⟨ad187, e187, hx187_0⟩ := Kd.at_string (Kd.R_reads' HO_22.out).2.2 x24_2 p187 q187
       cases e187
       replace p187 := eq_true p187; replace q187 := eq_true q187; go_wp2; go_ret
       exact ⟨eq_, bel1 GE182.out⟩
      rw [if_neg c18] at H; have c18b0 := decide_eq_false c18
      have c18b1 : decide (4 < (rdOf ByteArray.empty y184 x24_2).size) = false := decide_eq_false (by omega)
      clear c18; replace H := bs H; obtain ⟨t188, A190, H⟩ := H; replace H : (if t188 = true then (impl_AffixOk.l0 k2 y184 (y184.length : Int) (wrap64 (x24_2 + 1)) a0_0 a0_1 a0_2 a0_3 a0_4) else (some false)) = some r := H; have A19 := Aside0.mk A190; clear A190
      by_cases c20 : t188 = true
      ·subst c20
       have H1 : (impl_AffixOk.l0 k2 y184 (y184.length : Int) (wrap64 (x24_2 + 1)) a0_0 a0_1 a0_2 a0_3 a0_4) = some r := b47_
       replace H := H1; clear H1
       have H' := am H
       clear H
       have p187 : 0 ≤ (x24_2 : Int) := of_decide_eq_true ad
       have q187 : x24_2 < (y184.length : Int) := of_decide_eq_true ad
       obtain ⟨ad187, e187, hx187_0⟩ := Kd.at_string (Kd.R_reads' HO_22.out).2.2 x24_2 p187 q187
       cases e187
       replace p187 := eq_true p187; replace q187 := eq_true q187
       go_wp2_with (first | (go_at_call 82; (with_reducible refine (impl_lower.calls k2 (rdOf ByteArray.empty y184 x24_2) true _ A19.out).mono ?_); rintro e w' ⟨rfl, ⟨nd, rfl⟩⟩))
       go_roundg k2
       case measure => have := HJ1.out; have := HK2.out; omega
       case rel => exact ⟨(wrap64 (x24_2 + 1)), sq, H', ⟨by have := HJ1.out; have := HK2.out; omega⟩, ⟨rq HO_22.out⟩, ⟨bq BK182.out⟩, ⟨bel1 GE182.out⟩⟩
      replace c20 := Bool.eq_false_iff.mpr c20; subst c20
      have H1 : (some false) = some r := b22_
      replace H := H1; clear H1
      obtain rfl := Option.some.inj H
      have p187 : 0 ≤ (x24_2 : Int) := of_decide_eq_true ad
      have q187 : x24_2 < (y184.length : Int) := of_decide_eq_true ad
      obtain ⟨ad187, e187, hx187_0⟩ := Kd.at_string (Kd.R_reads' HO_22.out).2.2 x24_2 p187 q187
      cases e187
      replace p187 := eq_true p187; replace q187 := eq_true q187
      go_wp2_with (first | (go_at_call 82; (with_reducible refine (impl_lower.calls k2 (rdOf ByteArray.empty y184 x24_2) false _ A19.out).mono ?_); rintro e w' ⟨rfl, ⟨nd, rfl⟩⟩))
      go_ret
      exact ⟨eq_, bel1 GE182.out⟩
     rw [if_neg c15] at H; have c15b0 := decide_eq_false c15; clear c15
     by_cases c21 : a0_1 = true
     ·subst c21
      have H1 : ((strings_HasPrefix.f a0_4 a0_2).bind fun t189 => (some t189)) = some r := b47_
      replace H := H1; clear H1
      replace H := bs H; obtain ⟨t189, A220, H⟩ := H; replace H : (some t189) = some r := H; have A22 := Aside0.mk A220; clear A220; obtain rfl := Option.some.inj H; have hcz23_0 := bc BK182.out 0; have hcz23_1 := bc BK182.out 1; have hcz23_2 := bc BK182.out 2; have hcz23_3 := bc BK182.out 3; have hcz23_4 := bc BK182.out 4; have hfz23_0 := bf BK182.out 0; have hfz23_1 := bf BK182.out 1; have hfz23_2 := bf BK182.out 2; have hfz23_3 := bf BK182.out 3; have hfz23_4 := bf BK182.out 4
      go_wp2_with (first | ((with_reducible refine gate_callee (f := 83) rfl ?_); refine goesL_ (some 43) rfl rfl Tryd.func83 (by kernel_rfl) rfl #[.string a0_4, .string a0_2] rfl mq ?_; (with_reducible refine (strings_HasPrefix.calls a0_4 a0_2 t189 _ A22.out).mono ?_); rintro e w' ⟨rfl, ⟨nd, rfl⟩⟩; refine ⟨_, rfl, ?_⟩))
      go_ret
      exact ⟨eq_, bel1 GE182.out⟩
     replace c21 := Bool.eq_false_iff.mpr c21; subst c21
     have H1 : ((strings_HasSuffix.f a0_4 a0_2).bind fun t190 => (some t190)) = some r := b22_
     replace H := H1; clear H1
     replace H := bs H; obtain ⟨t190, A240, H⟩ := H; replace H : (some t190) = some r := H; have A24 := Aside0.mk A240; clear A240; obtain rfl := Option.some.inj H; have hcz25_0 := bc BK182.out 0; have hcz25_1 := bc BK182.out 1; have hcz25_2 := bc BK182.out 2; have hcz25_3 := bc BK182.out 3; have hcz25_4 := bc BK182.out 4; have hfz25_0 := bf BK182.out 0; have hfz25_1 := bf BK182.out 1; have hfz25_2 := bf BK182.out 2; have hfz25_3 := bf BK182.out 3; have hfz25_4 := bf BK182.out 4
     go_wp2_with (first | ((with_reducible refine gate_callee (f := 84) rfl ?_); refine goesL_ (some 48) rfl rfl Tryd.func84 (by kernel_rfl) rfl #[.string a0_4, .string a0_2] rfl mq ?_; (with_reducible refine (strings_HasSuffix.calls a0_4 a0_2 t190 _ A24.out).mono ?_); rintro e w' ⟨rfl, ⟨nd, rfl⟩⟩; refine ⟨_, rfl, ?_⟩))
     go_ret
     exact ⟨eq_, bel1 GE182.out⟩

/-! ### impl_Affix_85: function 85 -/
def impl_Affix_85.l0 : Nat → List (S40) → Int → Int → ByteArray → Bool → ByteArray → ByteArray → ByteArray → Option (Int)
 | 0, _, _, _, _, _, _, _, _ => none
 | k + 1, x0, x7, x8, x192000, x192001, x192002, x192003, x192004 => if x8 < x7 then (if 0 ≤ x8 then (if x8 < (x0.length : Int) then (if (x192000.toList == (((rd_T40 x0 x8).f0).toList) && (x192001 == ((rd_T40 x0 x8).f1) && (x192002.toList == (((rd_T40 x0 x8).f2).toList) && (x192003.toList == (((rd_T40 x0 x8).f3).toList) && (x192004.toList == (((rd_T40 x0 x8).f4).toList)))))) = true then (some x8) else (impl_Affix_85.l0 k x0 x7 (wrap64 (x8 + 1)) x192000 x192001 x192002 x192003 x192004)) else (none)) else (none)) else (some (-1))
def impl_Affix_85.f (k : Nat) (l0 : List (S40)) (a1_0 : ByteArray) (a1_1 : Bool) (a1_2 : ByteArray) (a1_3 : ByteArray) (a1_4 : ByteArray) : Option (Int) := impl_Affix_85.l0 k l0 (l0.length : Int) 0 a1_0 a1_1 a1_2 a1_3 a1_4
theorem impl_Affix_85.calls (k : Nat) (A0 : Option Addr) (c0 : Nat) (l0 : List (S40)) (a1_0 : ByteArray) (a1_1 : Bool) (a1_2 : ByteArray) (a1_3 : ByteArray) (a1_4 : ByteArray) (r : Int) (w : World) (hr0 : Kd.C k40 w A0 l0.length l0) (hc0 : l0.length ≤ c0) (h : impl_Affix_85.f k l0 a1_0 a1_1 a1_2 a1_3 a1_4 = some r) :
  Calls Tryd.prog 85 #[.slice A0 l0.length c0, .agg #[.string a1_0, .bool a1_1, .string a1_2, .string a1_3, .string a1_4]] w fun e w' => e = .returned (.int .i64 r) ∧ Below w.heap.size w w' := by
 have hu40 := Tryd.underlying40; have HR0 := am hr0; have HC0 := am hc0; clear hr0 hc0; have HB := am (Below.refl w.heap.size w)
 have H : (impl_Affix_85.l0 k l0 (l0.length : Int) 0 a1_0 a1_1 a1_2 a1_3 a1_4) = some r := h
 clear h
 have H' := am H
 clear H; go_enter Tryd.func85, Tryd.ntmps85
 go_wp2_with (first | ((with_reducible refine gate_dst (N := 3) rfl ?_); refine bx 3 (cs := #[.string a1_0, .bool a1_1, .string a1_2, .string a1_3, .string a1_4]) (t := 40) ?_; intro gb191 hg w3 hbox hb; have BK191 := am (hbox); have GW191 := am ((b19_ : w.heap.size ≤ gb191)); have GE191 := am ((b19_ : w.heap.size ≤ gb191)); replace HB := am (below_step bel hb); clear hb hbox hg))
 repeat (go_quiet (first | ((with_reducible refine gate_dst (N := 3) rfl ?_); refine bx 3 (cs := #[.string a1_0, .bool a1_1, .string a1_2, .string a1_3, .string a1_4]) (t := 40) ?_; intro gb191 hg w3 hbox hb; have BK191 := am (hbox); have GW191 := am ((b19_ : w.heap.size ≤ gb191)); have GE191 := am ((b19_ : w.heap.size ≤ gb191)); replace HB := am (below_step bel hb); clear hb hbox hg)); try go_wp2_with (first | ((with_reducible refine gate_dst (N := 3) rfl ?_); refine bx 3 (cs := #[.string a1_0, .bool a1_1, .string a1_2, .string a1_3, .string a1_4]) (t := 40) ?_; intro gb191 hg w3 hbox hb; have BK191 := am (hbox); have GW191 := am ((b19_ : w.heap.size ≤ gb191)); have GE191 := am ((b19_ : w.heap.size ≤ gb191)); replace HB := am (below_step bel hb); clear hb hbox hg)))
 go_loopg [8] k (fun kq v8 w' => ∃ (x8_1 : Int), v8 = .int .i64 x8_1 ∧ Aside0 (impl_Affix_85.l0 kq l0 (l0.length : Int) x8_1 a1_0 a1_1 a1_2 a1_3 a1_4 = some r) ∧ Aside0 (kq ≤ k) ∧ Aside0 (w'.heap[gb191]? = some (.cells #[.string a1_0, .bool a1_1, .string a1_2, .string a1_3, .string a1_4] 40 (0, 0))) ∧ Aside0 (Below w.heap.size w w'))
 case atStart => exact ⟨(0), sq, H', ⟨Nat.le_refl _⟩, ⟨bq BK191.out⟩, ⟨bel1 GE191.out⟩⟩
 case round =>
  clear H'; (try clear p2); obtain ⟨x8_1, rfl, HA, HK1, BK191, HB⟩ := hrel
  cases gk with
  | zero => exact absurd HA.out (by simp [impl_Affix_85.l0])
  | succ k1 =>
   have H := HA.out; clear HA
   simp only [impl_Affix_85.l0] at H
   by_cases c4 : x8_1 < (l0.length : Int)
   ·rw [if_pos c4] at H; have c4b0 := decide_eq_true c4; clear c4
    replace H := it H; obtain ⟨c5b0, H⟩ := H
    replace H := it H; obtain ⟨c6b0, H⟩ := H
    by_cases c7 : (a1_0.toList == (((rd_T40 l0 x8_1).f0).toList) && (a1_1 == ((rd_T40 l0 x8_1).f1) && (a1_2.toList == (((rd_T40 l0 x8_1).f2).toList) && (a1_3.toList == (((rd_T40 l0 x8_1).f3).toList) && (a1_4.toList == (((rd_T40 l0 x8_1).f4).toList)))))) = true
    ·rw [if_pos c7] at H
     have c7b0 : (a1_0.toList == (((rd_T40 l0 x8_1).f0).toList) && (a1_1 == ((rd_T40 l0 x8_1).f1) && (a1_2.toList == (((rd_T40 l0 x8_1).f2).toList) && (a1_3.toList == (((rd_T40 l0 x8_1).f3).toList) && (a1_4.toList == (((rd_T40 l0 x8_1).f4).toList)))))) = true := c7
     (try (have c7b1 : decide (a1_0.toList = (((rd_T40 l0 x8_1).f0).toList) && (a1_1 == ((rd_T40 l0 x8_1).f1) && (a1_2.toList == (((rd_T40 l0 x8_1).f2).toList) && (a1_3.toList == (((rd_T40 l0 x8_1).f3).toList) && (a1_4.toList == (((rd_T40 l0 x8_1).f4).toList)))))) = true := by simpa using c7))
     (try (have c7b2 : (a1_0.toList == (((rd_T40 l0 x8_1).f0).toList) && (a1_1 == ((rd_T40 l0 x8_1).f1) && (a1_2.toList == (((rd_T40 l0 x8_1).f2).toList) && (a1_3.toList == (((rd_T40 l0 x8_1).f3).toList) && (a1_4.toList == (((rd_T40 l0 x8_1).f4).toList)))))) = true := by simpa using c7))
     clear c7; obtain rfl := Option.some.inj H; have hcz8_0 := bc BK191.out 0; have hcz8_1 := bc BK191.out 1; have hcz8_2 := bc BK191.out 2; have hcz8_3 := bc BK191.out 3; have hcz8_4 := bc BK191.out 4; have hfz8_0 := bf BK191.out 0; have hfz8_1 := bf BK191.out 1; have hfz8_2 := bf BK191.out 2; have hfz8_3 := bf BK191.out 3; have hfz8_4 := bf BK191.out 4
     have p192 : 0 ≤ (x8_1 : Int) := of_decide_eq_true ad
     have q192 : x8_1 < (l0.length : Int) := of_decide_eq_true ad
     obtain ⟨ad192, e192, hx192_0, hx192_1, hx192_2, hx192_3, hx192_4⟩ := at_T40 HR0.out x8_1 p192 q192
     cases e192
     replace hx192_0 := kp HB.out hx192_0; replace hx192_1 := kp HB.out hx192_1; replace hx192_2 := kp HB.out hx192_2; replace hx192_3 := kp HB.out hx192_3; replace hx192_4 := kp HB.out hx192_4; replace p192 := eq_true p192; replace q192 := eq_true q192; go_wp2
     repeat (go_quiet (fail); try go_wp2)
     go_ret
     exact ⟨eq_, bel1 GE191.out⟩
    rw [if_neg c7] at H
    have c7b0 : (a1_0.toList == (((rd_T40 l0 x8_1).f0).toList) && (a1_1 == ((rd_T40 l0 x8_1).f1) && (a1_2.toList == (((rd_T40 l0 x8_1).f2).toList) && (a1_3.toList == (((rd_T40 l0 x8_1).f3).toList) && (a1_4.toList == (((rd_T40 l0 x8_1).f4).toList)))))) = false := by simpa using c7
    (try (have c7b1 : decide (a1_0.toList = (((rd_T40 l0 x8_1).f0).toList) && (a1_1 == ((rd_T40 l0 x8_1).f1) && (a1_2.toList == (((rd_T40 l0 x8_1).f2).toList) && (a1_3.toList == (((rd_T40 l0 x8_1).f3).toList) && (a1_4.toList == (((rd_T40 l0 x8_1).f4).toList)))))) = false := by simpa using c7))
    (try (have c7b2 : (a1_0.toList == (((rd_T40 l0 x8_1).f0).toList) && (a1_1 == ((rd_T40 l0 x8_1).f1) && (a1_2.toList == (((rd_T40 l0 x8_1).f2).toList) && (a1_3.toList == (((rd_T40 l0 x8_1).f3).toList) && (a1_4.toList == (((rd_T40 l0 x8_1).f4).toList)))))) = false := by simpa using c7))
    (try (have c7b3 : ¬ (a1_0.toList = (((rd_T40 l0 x8_1).f0).toList) && (a1_1 == ((rd_T40 l0 x8_1).f1) && (a1_2.toList == (((rd_T40 l0 x8_1).f2).toList) && (a1_3.toList == (((rd_T40 l0 x8_1).f3).toList) && (a1_4.toList == (((rd_T40 l0 x8_1).f4).toList)))))) := by simpa using c7))
    clear c7
    have H' := am H
    clear H; have hcz9_0 := bc BK191.out 0; have hcz9_1 := bc BK191.out 1; have hcz9_2 := bc BK191.out 2; have hcz9_3 := bc BK191.out 3; have hcz9_4 := bc BK191.out 4; have hfz9_0 := bf BK191.out 0; have hfz9_1 := bf BK191.out 1; have hfz9_2 := bf BK191.out 2; have hfz9_3 := bf BK191.out 3; have hfz9_4 := bf BK191.out 4
    have p192 : 0 ≤ (x8_1 : Int) := of_decide_eq_true ad
    have q192 : x8_1 < (l0.length : Int) := of_decide_eq_true ad
    obtain ⟨ad192, e192, hx192_0, hx192_1, hx192_2, hx192_3, hx192_4⟩ := at_T40 HR0.out x8_1 p192 q192
    cases e192
    replace hx192_0 := kp HB.out hx192_0; replace hx192_1 := kp HB.out hx192_1; replace hx192_2 := kp HB.out hx192_2; replace hx192_3 := kp HB.out hx192_3; replace hx192_4 := kp HB.out hx192_4; replace p192 := eq_true p192; replace q192 := eq_true q192; go_wp2
    repeat (go_quiet (fail); try go_wp2)
    go_roundg k1
    case measure => have := HK1.out; omega
    case rel => exact ⟨(wrap64 (x8_1 + 1)), sq, H', ⟨b74_⟩, ⟨bq BK191.out⟩, ⟨bel1 GE191.out⟩⟩
   rw [if_neg c4] at H; have c4b0 := decide_eq_false c4; clear c4; obtain rfl := Option.some.inj H; go_wp2
   repeat (go_quiet (fail); try go_wp2)
   go_ret
   exact ⟨eq_, bel1 GE191.out⟩

/-! ### impl_Affix_65: function 65 -/
def impl_Affix_65.f (k : Nat) (l0 : List (S40)) (a1_0 : ByteArray) (a1_1 : Bool) (a1_2 : ByteArray) (a1_3 : ByteArray) (a1_4 : ByteArray) : Option (Bool) := (impl_Affix_85.f k l0 a1_0 a1_1 a1_2 a1_3 a1_4).bind fun t194 => (some (decide (t194 ≥ 0)))
theorem impl_Affix_65.calls (k : Nat) (A0 : Option Addr) (c0 : Nat) (l0 : List (S40)) (a1_0 : ByteArray) (a1_1 : Bool) (a1_2 : ByteArray) (a1_3 : ByteArray) (a1_4 : ByteArray) (r : Bool) (w : World) (hr0 : Kd.C k40 w A0 l0.length l0) (hc0 : l0.length ≤ c0) (h : impl_Affix_65.f k l0 a1_0 a1_1 a1_2 a1_3 a1_4 = some r) :
  Calls Tryd.prog 65 #[.slice A0 l0.length c0, .agg #[.string a1_0, .bool a1_1, .string a1_2, .string a1_3, .string a1_4]] w fun e w' => e = .returned (.bool r) ∧ Below w.heap.size w w' := by
 have hu40 := Tryd.underlying40; have HR0 := am hr0; have HC0 := am hc0; clear hr0 hc0; have HB := am (Below.refl w.heap.size w)
 have H : ((impl_Affix_85.f k l0 a1_0 a1_1 a1_2 a1_3 a1_4).bind fun t194 => (some (decide (t194 ≥ 0)))) = some r := h
 clear h; replace H := bs H; obtain ⟨t194, A30, H⟩ := H; replace H : (some (decide (t194 ≥ 0))) = some r := H; have A3 := Aside0.mk A30; clear A30; obtain rfl := Option.some.inj H; go_enter Tryd.func65, Tryd.ntmps65
 go_wp2_with (first | ((with_reducible refine gate_dst (N := 3) rfl ?_); refine bx 3 (cs := #[.string a1_0, .bool a1_1, .string a1_2, .string a1_3, .string a1_4]) (t := 40) ?_; intro gb193 hg w4 hbox hb; have BK193 := am (hbox); have GW193 := am ((b19_ : w.heap.size ≤ gb193)); have GE193 := am ((b19_ : w.heap.size ≤ gb193)); replace HB := am (below_step bel hb); clear hb hbox hg; have hcz5_0 := bc BK193.out 0; have hcz5_1 := bc BK193.out 1; have hcz5_2 := bc BK193.out 2; have hcz5_3 := bc BK193.out 3; have hcz5_4 := bc BK193.out 4; have hfz5_0 := bf BK193.out 0; have hfz5_1 := bf BK193.out 1; have hfz5_2 := bf BK193.out 2; have hfz5_3 := bf BK193.out 3; have hfz5_4 := bf BK193.out 4) | ((with_reducible refine gate_callee (f := 85) rfl ?_); refine goesL_ (some 7) rfl rfl Tryd.func85 (by kernel_rfl) rfl #[.slice A0 l0.length c0, .agg #[.string a1_0, .bool a1_1, .string a1_2, .string a1_3, .string a1_4]] rfl mq ?_; (with_reducible refine (impl_Affix_85.calls k _ _ l0 a1_0 a1_1 a1_2 a1_3 a1_4 t194 _ ?side1 ?side2 A3.out).mono ?_); (case side1 => exact cq (Kd.C_below HR0.out HB.out)); (case side2 => exact HC0.out); rintro e w6 ⟨rfl, hb⟩; refine ⟨_, rfl, ?_⟩; replace BK193 := am (blk_below (g := gb193) (o := .cells #[.string a1_0, .bool a1_1, .string a1_2, .string a1_3, .string a1_4] 40 (0, 0)) (bq BK193.out) hb); replace HB := am (below_step (bel1 GE193.out) hb); (try clear hb); (try clear hb2); (try clear hk); (try clear hi)))
 go_ret
 exact ⟨eq_, bel1 GE193.out⟩
-- shrunk

/-! ### impl_affixesOk: function 44 -/
def impl_affixesOk.l0 : Nat → List (S40) → List (S40) → Int → Int → Option (Bool)
 | 0, _, _, _, _ => none
 | k + 1, x0, x5, x6, x7 => if x7 < x6 then (if 0 ≤ x7 then (if x7 < (x5.length : Int) then ((impl_AffixOk.f k ((rd_T40 x5 x7).f0) ((rd_T40 x5 x7).f1) ((rd_T40 x5 x7).f2) ((rd_T40 x5 x7).f3) ((rd_T40 x5 x7).f4)).bind fun t197 => (if t197 = true then (if x7 ≤ (x0.length : Int) then ((impl_Affix_65.f k (x0.take (x7 : Int).toNat) ((rd_T40 x5 x7).f0) ((rd_T40 x5 x7).f1) ((rd_T40 x5 x7).f2) ((rd_T40 x5 x7).f3) ((rd_T40 x5 x7).f4)).bind fun t202 => (if t202 = true then (some false) else (impl_affixesOk.l0 k x0 x5 x6 (wrap64 (x7 + 1))))) else (none)) else (some false))) else (none)) else (none)) else (some (decide ((x0.length : Int) ≤ 8)))
def impl_affixesOk.f (k : Nat) (l0 : List (S40)) : Option (Bool) := impl_affixesOk.l0 k l0 l0 (l0.length : Int) 0
def impl_affixesOk.T4 : Bool × List (List Nat × List Nat) := (true, [([], []), ([0], [0]), ([1], [1]), ([2, 1], [2]), ([3], [3]), ([3], [3]), ([4, 5, 3], [3, 4, 5]), ([3], [3]), ([6, 7, 3, 3], [3, 6, 7]), ([3, 8], [3, 8])])
def impl_affixesOk.B4 : List Nat := [0, 1, 3, 7, 15, 15, 63, 15, 255, 511]
theorem impl_affixesOk.tab4 : rtab .any (opsOf Tryd.f44 4) = impl_affixesOk.T4 := by kernel_rfl
theorem impl_affixesOk.bits4 : waitsOk impl_affixesOk.T4.2 impl_affixesOk.B4 = true := by kernel_rfl
theorem impl_affixesOk.calls (k : Nat) (A0 : Option Addr) (c0 : Nat) (l0 : List (S40)) (r : Bool) (w : World) (hr0 : Kd.C k40 w A0 l0.length l0) (hc0 : l0.length ≤ c0) (h : impl_affixesOk.f k l0 = some r) :
  Calls Tryd.prog 44 #[.slice A0 l0.length c0] w fun e w' => e = .returned (.bool r) ∧ Below w.heap.size w w' := by
 have hu40 := Tryd.underlying40; have HR0 := am hr0; have HC0 := am hc0; clear hr0 hc0; have HB := am (Below.refl w.heap.size w)
 have H : (impl_affixesOk.l0 k l0 l0 (l0.length : Int) 0) = some r := h
 clear h
 have H' := am H
 clear H; go_enter Tryd.func44, Tryd.ntmps44; go_wp2
 go_loopg [7] k (fun kq v7 w' => ∃ (x7_1 : Int), v7 = .int .i64 x7_1 ∧ Aside0 (impl_affixesOk.l0 kq l0 l0 (l0.length : Int) x7_1 = some r) ∧ Aside0 (kq ≤ k) ∧ Aside0 (Below w.heap.size w w'))
 case atStart => exact ⟨(0), sq, H', ⟨Nat.le_refl _⟩, ⟨bel⟩⟩
 case round =>
  clear H'; obtain ⟨x7_1, rfl, HA, HK1, HB⟩ := hrel
  cases gk with
  | zero => exact absurd HA.out (by simp [impl_affixesOk.l0])
  | succ k1 =>
   have H := HA.out; clear HA
   simp only [impl_affixesOk.l0] at H
   by_cases c2 : x7_1 < (l0.length : Int)
   ·rw [if_pos c2] at H; have c2b0 := decide_eq_true c2; clear c2
    replace H := it H; obtain ⟨c3b0, H⟩ := H
    replace H := it H; obtain ⟨c4b0, H⟩ := H; replace H := bs H; obtain ⟨t197, A50, H⟩ := H; replace H : (if t197 = true then (if x7_1 ≤ (l0.length : Int) then ((impl_Affix_65.f k1 (l0.take (x7_1 : Int).toNat) ((rd_T40 l0 x7_1).f0) ((rd_T40 l0 x7_1).f1) ((rd_T40 l0 x7_1).f2) ((rd_T40 l0 x7_1).f3) ((rd_T40 l0 x7_1).f4)).bind fun t202 => (if t202 = true then (some false) else (impl_affixesOk.l0 k1 l0 l0 (l0.length : Int) (wrap64 (x7_1 + 1))))) else (none)) else (some false)) = some r := H; have A5 := Aside0.mk A50; clear A50
    by_cases c6 : t197 = true
    ·subst c6
     have H1 : (if x7_1 ≤ (l0.length : Int) then ((impl_Affix_65.f k1 (l0.take (x7_1 : Int).toNat) ((rd_T40 l0 x7_1).f0) ((rd_T40 l0 x7_1).f1) ((rd_T40 l0 x7_1).f2) ((rd_T40 l0 x7_1).f3) ((rd_T40 l0 x7_1).f4)).bind fun t202 => (if t202 = true then (some false) else (impl_affixesOk.l0 k1 l0 l0 (l0.length : Int) (wrap64 (x7_1 + 1))))) else (none)) = some r := b47_
     replace H := H1; clear H1
     have c7b0 := eq_true (of_decide_eq_true ad : 0 ≤ x7_1)
     replace H := ip H; obtain ⟨c8, H⟩ := H; have c8b0 := eq_true c8
     have c8b1 : decide (x7_1 ≤ (l0.length : Int)) = true := decide_eq_true c8
     clear c8; obtain ⟨y198, hy198⟩ : ∃ y_ : List (S40), y_ = (l0.take (x7_1 : Int).toNat) := ⟨_, rfl⟩
     replace H : ((impl_Affix_65.f k1 y198 ((rd_T40 l0 x7_1).f0) ((rd_T40 l0 x7_1).f1) ((rd_T40 l0 x7_1).f2) ((rd_T40 l0 x7_1).f3) ((rd_T40 l0 x7_1).f4)).bind fun t202 => (if t202 = true then (some false) else (impl_affixesOk.l0 k1 l0 l0 (l0.length : Int) (wrap64 (x7_1 + 1))))) = some r := by first | (rw [hy198]; with_reducible exact H) | (have H2_ := bm H; rw [hy198]; with_reducible exact H2_) | (with_reducible exact bm H) | with_reducible exact H | (rw [hy198]; exact H) | exact H
     have Ny198 := am hy198; clear hy198; replace H := bs H; obtain ⟨t202, A90, H⟩ := H; replace H : (if t202 = true then (some false) else (impl_affixesOk.l0 k1 l0 l0 (l0.length : Int) (wrap64 (x7_1 + 1)))) = some r := H; have A9 := Aside0.mk A90; clear A90
     by_cases c10 : t202 = true
     ·subst c10
      have H1 : (some false) = some r := b47_
      replace H := H1; clear H1
      obtain rfl := Option.some.inj H
      have p195 : 0 ≤ (x7_1 : Int) := of_decide_eq_true ad
      have q195 : x7_1 < (l0.length : Int) := of_decide_eq_true ad
      obtain ⟨ad195, e195, hx195_0, hx195_1, hx195_2, hx195_3, hx195_4⟩ := at_T40 HR0.out x7_1 p195 q195
      cases e195
      replace hx195_0 := kp HB.out hx195_0; replace hx195_1 := kp HB.out hx195_1; replace hx195_2 := kp HB.out hx195_2; replace hx195_3 := kp HB.out hx195_3; replace hx195_4 := kp HB.out hx195_4; replace p195 := eq_true p195; replace q195 := eq_true q195
      try go_wp2_with (first | ((with_reducible refine gate_dst (N := 4) rfl ?_); refine bx 4 (cs := #[.string (⟨#[]⟩ : ByteArray), .bool false, .string (⟨#[]⟩ : ByteArray), .string (⟨#[]⟩ : ByteArray), .string (⟨#[]⟩ : ByteArray)]) (t := 40) ?_; intro gb196 hg w11 hbox hb; have BK196 := am (hbox); have GW196 := am ((b19_ : w.heap.size ≤ gb196)); have GE196 := am ((b19_ : w.heap.size ≤ gb196)); replace HB := am (below_step bel hb); clear hb hbox hg; have hcz12_0 := bc BK196.out 0; have hcz12_1 := bc BK196.out 1; have hcz12_2 := bc BK196.out 2; have hcz12_3 := bc BK196.out 3; have hcz12_4 := bc BK196.out 4; have hfz12_0 := bf BK196.out 0; have hfz12_1 := bf BK196.out 1; have hfz12_2 := bf BK196.out 2; have hfz12_3 := bf BK196.out 3; have hfz12_4 := bf BK196.out 4))
      have n0_ : Aside0 ((((((w11.setCell ⟨gb196, 0, none⟩ (.string ((rd_T40 l0 x7_1).f0))).setCell ⟨gb196, 1, none⟩ (.bool ((rd_T40 l0 x7_1).f1))).setCell ⟨gb196, 2, none⟩ (.string ((rd_T40 l0 x7_1).f2))).setCell ⟨gb196, 3, none⟩ (.string ((rd_T40 l0 x7_1).f3))).setCell ⟨gb196, 4, none⟩ (.string ((rd_T40 l0 x7_1).f4))).heap[gb196]? = some (.cells #[.string ((rd_T40 l0 x7_1).f0), .bool ((rd_T40 l0 x7_1).f1), .string ((rd_T40 l0 x7_1).f2), .string ((rd_T40 l0 x7_1).f3), .string ((rd_T40 l0 x7_1).f4)] 40 (0, 0))) := ⟨b9_⟩
      have n1_ : Aside0 (Below w.heap.size w (((((w11.setCell ⟨gb196, 0, none⟩ (.string ((rd_T40 l0 x7_1).f0))).setCell ⟨gb196, 1, none⟩ (.bool ((rd_T40 l0 x7_1).f1))).setCell ⟨gb196, 2, none⟩ (.string ((rd_T40 l0 x7_1).f2))).setCell ⟨gb196, 3, none⟩ (.string ((rd_T40 l0 x7_1).f3))).setCell ⟨gb196, 4, none⟩ (.string ((rd_T40 l0 x7_1).f4)))) := ⟨bel1 GE196.out⟩
      (try clear BK196)
      (try clear HB)
      generalize (((((w11.setCell ⟨gb196, 0, none⟩ (.string ((rd_T40 l0 x7_1).f0))).setCell ⟨gb196, 1, none⟩ (.bool ((rd_T40 l0 x7_1).f1))).setCell ⟨gb196, 2, none⟩ (.string ((rd_T40 l0 x7_1).f2))).setCell ⟨gb196, 3, none⟩ (.string ((rd_T40 l0 x7_1).f3))).setCell ⟨gb196, 4, none⟩ (.string ((rd_T40 l0 x7_1).f4))) = w13 at n0_ n1_ ⊢
      have BK196 := n0_; have HB := n1_; clear n0_ n1_; replace BK196 := am (blk_drew BK196.out); replace HB := am (below_drew1 HB.out)
      refine st (n := 10) (S := fun w' => w'.cell? ⟨gb196, 0, none⟩ = some (.string ((rd_T40 l0 x7_1).f0)) ∧ w'.cell? ⟨gb196, 1, none⟩ = some (.bool ((rd_T40 l0 x7_1).f1)) ∧ w'.cell? ⟨gb196, 2, none⟩ = some (.string ((rd_T40 l0 x7_1).f2)) ∧ w'.cell? ⟨gb196, 3, none⟩ = some (.string ((rd_T40 l0 x7_1).f3)) ∧ w'.cell? ⟨gb196, 4, none⟩ = some (.string ((rd_T40 l0 x7_1).f4))) (ds := []) ⟨(blk_cell BK196.out 0).trans rfl, (blk_cell BK196.out 1).trans rfl, (blk_cell BK196.out 2).trans rfl, (blk_cell BK196.out 3).trans rfl, (blk_cell BK196.out 4).trans rfl⟩ (fun hHeld => ?_); refine with_tabW impl_affixesOk.tab4 impl_affixesOk.bits4 (fun HT_ HW_ => ?_)
      generalize w13.drew = w14 at BK196 HB hHeld ⊢
      refine tk5 0 12 hHeld ?_
      refine on1 1 13 (fun K hK => ?_)
      refine goes_ Tryd.func64 (by kernel_rfl) rfl #[.agg #[.string ((rd_T40 l0 x7_1).f0), .bool ((rd_T40 l0 x7_1).f1), .string ((rd_T40 l0 x7_1).f2), .string ((rd_T40 l0 x7_1).f3), .string ((rd_T40 l0 x7_1).f4)]] (by rfl) rfl rfl mq ?_
      with_reducible refine (impl_AffixOk.calls k1 ((rd_T40 l0 x7_1).f0) ((rd_T40 l0 x7_1).f1) ((rd_T40 l0 x7_1).f2) ((rd_T40 l0 x7_1).f3) ((rd_T40 l0 x7_1).f4) true _ A5.out).mono ?_
      rintro e w15 ⟨rfl, hb⟩
      refine ⟨_, rfl, ?_⟩
      replace BK196 := am (blk_below (g := gb196) (o := .cells #[.string ((rd_T40 l0 x7_1).f0), .bool ((rd_T40 l0 x7_1).f1), .string ((rd_T40 l0 x7_1).f2), .string ((rd_T40 l0 x7_1).f3), .string ((rd_T40 l0 x7_1).f4)] 40 (0, 0)) (bq BK196.out) hb); replace HB := am (below_step (bel1 GE196.out) hb)
      (try clear hb)
      (try clear hb2)
      (try clear hk)
      (try clear hi)
      have q16 : (x7_1 : Int) ≤ ((l0.length : Int) : Int) := of_decide_eq_true ad
      obtain ⟨i016, hi016, _, hsz16, _⟩ := info_parts info40
      have hroom16 : l0.length ≤ c0 := HC0.out
      have hC16 : Kd.C k40 _ (some ad195) l0.length l0 := HR0.out
      have hcut16 := cut_to (P := Tryd.prog) 22 40 .i64 Tryd.underlying22 hi016 (some ad195) l0.length c0 x7_1 (of_decide_eq_true ad) q16 hroom16
      have hr16 := Kd.C_take (m := (x7_1 : Int).toNat) hC16 (by omega)
      have hy16 : y198.length = (x7_1 : Int).toNat := (by rw [Ny198.out, List.length_take]; omega)
      rw [← Ny198.out] at hr16; rw [← hy16] at hcut16; have HR201 := am hr16
      have HC201 := am (show y198.length ≤ c0 from by omega)
      clear hr16 hC16 hroom16 hi016 hsz16; have KY16 := am hy16; clear hy16; replace q16 := eq_true q16
      refine hK.out _ _ ⟨(blk_cell BK196.out 0).trans rfl, (blk_cell BK196.out 1).trans rfl, (blk_cell BK196.out 2).trans rfl, (blk_cell BK196.out 3).trans rfl, (blk_cell BK196.out 4).trans rfl⟩ (fun hHeld => ?_)
      clear hK K
      refine norm_ (a' := ?_) ?_ ?_
      rotate_left
      ·show Act.put _ (some 13) _ = _
       simp only [Act.put, List.setIfInBounds_toArray, List.set_cons_zero, List.set_cons_succ, i64_w, i32_w]
       rfl
      refine pu 2 14 ?_
      refine pu 3 15 ?_
      refine pu 4 16 ?_
      refine pu 5 17 ?_
      refine pu 6 18 ?_
      refine tk5 7 19 hHeld ?_
      refine on1 8 20 (fun K hK => ?_)
      refine goes_ Tryd.func65 (by kernel_rfl) rfl #[.slice (some ad195) y198.length c0, .agg #[.string ((rd_T40 l0 x7_1).f0), .bool ((rd_T40 l0 x7_1).f1), .string ((rd_T40 l0 x7_1).f2), .string ((rd_T40 l0 x7_1).f3), .string ((rd_T40 l0 x7_1).f4)]] (by rfl) rfl rfl mq ?_
      with_reducible refine (impl_Affix_65.calls k1 _ _ y198 ((rd_T40 l0 x7_1).f0) ((rd_T40 l0 x7_1).f1) ((rd_T40 l0 x7_1).f2) ((rd_T40 l0 x7_1).f3) ((rd_T40 l0 x7_1).f4) true _ ?side1 ?side2 A9.out).mono ?_
      (case side1 => exact cq (Kd.C_below HR201.out HB.out)); (case side2 => exact HC201.out)
      rintro e w17 ⟨rfl, hb⟩
      refine ⟨_, rfl, ?_⟩
      replace BK196 := am (blk_below (g := gb196) (o := .cells #[.string ((rd_T40 l0 x7_1).f0), .bool ((rd_T40 l0 x7_1).f1), .string ((rd_T40 l0 x7_1).f2), .string ((rd_T40 l0 x7_1).f3), .string ((rd_T40 l0 x7_1).f4)] 40 (0, 0)) (bq BK196.out) hb); replace HB := am (below_step (bel1 GE196.out) hb)
      (try clear hb)
      (try clear hb2)
      (try clear hk)
      (try clear hi)
      refine hK.out _ _ ⟨(blk_cell BK196.out 0).trans rfl, (blk_cell BK196.out 1).trans rfl, (blk_cell BK196.out 2).trans rfl, (blk_cell BK196.out 3).trans rfl, (blk_cell BK196.out 4).trans rfl⟩ (fun hHeld => ?_)
      clear hK K
      refine norm_ (a' := ?_) ?_ ?_
      rotate_left
      ·show Act.put _ (some 20) _ = _
       simp only [Act.put, List.setIfInBounds_toArray, List.set_cons_zero, List.set_cons_succ, i64_w, i32_w]
       rfl
      refine pu 9 21 ?_
      refine done_ (done_of HT_.out (by kernel_rfl)) ?_
      try go_wp2
      go_ret
      exact ⟨eq_, bel1 GE196.out⟩
     replace c10 := Bool.eq_false_iff.mpr c10; subst c10
     have H1 : (impl_affixesOk.l0 k1 l0 l0 (l0.length : Int) (wrap64 (x7_1 + 1))) = some r := b22_
     replace H := H1; clear H1
     have H' := am H
     clear H
     have p195 : 0 ≤ (x7_1 : Int) := of_decide_eq_true ad
     have q195 : x7_1 < (l0.length : Int) := of_decide_eq_true ad
     obtain ⟨ad195, e195, hx195_0, hx195_1, hx195_2, hx195_3, hx195_4⟩ := at_T40 HR0.out x7_1 p195 q195
     cases e195
     replace hx195_0 := kp HB.out hx195_0; replace hx195_1 := kp HB.out hx195_1; replace hx195_2 := kp HB.out hx195_2; replace hx195_3 := kp HB.out hx195_3; replace hx195_4 := kp HB.out hx195_4; replace p195 := eq_true p195; replace q195 := eq_true q195
     try go_wp2_with (first | ((with_reducible refine gate_dst (N := 4) rfl ?_); refine bx 4 (cs := #[.string (⟨#[]⟩ : ByteArray), .bool false, .string (⟨#[]⟩ : ByteArray), .string (⟨#[]⟩ : ByteArray), .string (⟨#[]⟩ : ByteArray)]) (t := 40) ?_; intro gb196 hg w18 hbox hb; have BK196 := am (hbox); have GW196 := am ((b19_ : w.heap.size ≤ gb196)); have GE196 := am ((b19_ : w.heap.size ≤ gb196)); replace HB := am (below_step bel hb); clear hb hbox hg; have hcz19_0 := bc BK196.out 0; have hcz19_1 := bc BK196.out 1; have hcz19_2 := bc BK196.out 2; have hcz19_3 := bc BK196.out 3; have hcz19_4 := bc BK196.out 4; have hfz19_0 := bf BK196.out 0; have hfz19_1 := bf BK196.out 1; have hfz19_2 := bf BK196.out 2; have hfz19_3 := bf BK196.out 3; have hfz19_4 := bf BK196.out 4))
     have n0_ : Aside0 ((((((w18.setCell ⟨gb196, 0, none⟩ (.string ((rd_T40 l0 x7_1).f0))).setCell ⟨gb196, 1, none⟩ (.bool ((rd_T40 l0 x7_1).f1))).setCell ⟨gb196, 2, none⟩ (.string ((rd_T40 l0 x7_1).f2))).setCell ⟨gb196, 3, none⟩ (.string ((rd_T40 l0 x7_1).f3))).setCell ⟨gb196, 4, none⟩ (.string ((rd_T40 l0 x7_1).f4))).heap[gb196]? = some (.cells #[.string ((rd_T40 l0 x7_1).f0), .bool ((rd_T40 l0 x7_1).f1), .string ((rd_T40 l0 x7_1).f2), .string ((rd_T40 l0 x7_1).f3), .string ((rd_T40 l0 x7_1).f4)] 40 (0, 0))) := ⟨b9_⟩
     have n1_ : Aside0 (Below w.heap.size w (((((w18.setCell ⟨gb196, 0, none⟩ (.string ((rd_T40 l0 x7_1).f0))).setCell ⟨gb196, 1, none⟩ (.bool ((rd_T40 l0 x7_1).f1))).setCell ⟨gb196, 2, none⟩ (.string ((rd_T40 l0 x7_1).f2))).setCell ⟨gb196, 3, none⟩ (.string ((rd_T40 l0 x7_1).f3))).setCell ⟨gb196, 4, none⟩ (.string ((rd_T40 l0 x7_1).f4)))) := ⟨bel1 GE196.out⟩
     (try clear BK196)
     (try clear HB)
     generalize (((((w18.setCell ⟨gb196, 0, none⟩ (.string ((rd_T40 l0 x7_1).f0))).setCell ⟨gb196, 1, none⟩ (.bool ((rd_T40 l0 x7_1).f1))).setCell ⟨gb196, 2, none⟩ (.string ((rd_T40 l0 x7_1).f2))).setCell ⟨gb196, 3, none⟩ (.string ((rd_T40 l0 x7_1).f3))).setCell ⟨gb196, 4, none⟩ (.string ((rd_T40 l0 x7_1).f4))) = w20 at n0_ n1_ ⊢
     have BK196 := n0_; have HB := n1_; clear n0_ n1_; replace BK196 := am (blk_drew BK196.out); replace HB := am (below_drew1 HB.out)
     refine st (n := 10) (S := fun w' => w'.cell? ⟨gb196, 0, none⟩ = some (.string ((rd_T40 l0 x7_1).f0)) ∧ w'.cell? ⟨gb196, 1, none⟩ = some (.bool ((rd_T40 l0 x7_1).f1)) ∧ w'.cell? ⟨gb196, 2, none⟩ = some (.string ((rd_T40 l0 x7_1).f2)) ∧ w'.cell? ⟨gb196, 3, none⟩ = some (.string ((rd_T40 l0 x7_1).f3)) ∧ w'.cell? ⟨gb196, 4, none⟩ = some (.string ((rd_T40 l0 x7_1).f4))) (ds := []) ⟨(blk_cell BK196.out 0).trans rfl, (blk_cell BK196.out 1).trans rfl, (blk_cell BK196.out 2).trans rfl, (blk_cell BK196.out 3).trans rfl, (blk_cell BK196.out 4).trans rfl⟩ (fun hHeld => ?_); refine with_tabW impl_affixesOk.tab4 impl_affixesOk.bits4 (fun HT_ HW_ => ?_)
     generalize w20.drew = w21 at BK196 HB hHeld ⊢
     refine tk5 0 12 hHeld ?_
     refine on1 1 13 (fun K hK => ?_)
     refine goes_ Tryd.func64 (by kernel_rfl) rfl #[.agg #[.string ((rd_T40 l0 x7_1).f0), .bool ((rd_T40 l0 x7_1).f1), .string ((rd_T40 l0 x7_1).f2), .string ((rd_T40 l0 x7_1).f3), .string ((rd_T40 l0 x7_1).f4)]] (by rfl) rfl rfl mq ?_
     with_reducible refine (impl_AffixOk.calls k1 ((rd_T40 l0 x7_1).f0) ((rd_T40 l0 x7_1).f1) ((rd_T40 l0 x7_1).f2) ((rd_T40 l0 x7_1).f3) ((rd_T40 l0 x7_1).f4) true _ A5.out).mono ?_
     rintro e w22 ⟨rfl, hb⟩
     refine ⟨_, rfl, ?_⟩
     replace BK196 := am (blk_below (g := gb196) (o := .cells #[.string ((rd_T40 l0 x7_1).f0), .bool ((rd_T40 l0 x7_1).f1), .string ((rd_T40 l0 x7_1).f2), .string ((rd_T40 l0 x7_1).f3), .string ((rd_T40 l0 x7_1).f4)] 40 (0, 0)) (bq BK196.out) hb); replace HB := am (below_step (bel1 GE196.out) hb)
     (try clear hb)
     (try clear hb2)
     (try clear hk)
     (try clear hi)
     have q23 : (x7_1 : Int) ≤ ((l0.length : Int) : Int) := of_decide_eq_true ad
     obtain ⟨i023, hi023, _, hsz23, _⟩ := info_parts info40
     have hroom23 : l0.length ≤ c0 := HC0.out
     have hC23 : Kd.C k40 _ (some ad195) l0.length l0 := HR0.out
     have hcut23 := cut_to (P := Tryd.prog) 22 40 .i64 Tryd.underlying22 hi023 (some ad195) l0.length c0 x7_1 (of_decide_eq_true ad) q23 hroom23
     have hr23 := Kd.C_take (m := (x7_1 : Int).toNat) hC23 (by omega)
     have hy23 : y198.length = (x7_1 : Int).toNat := (by rw [Ny198.out, List.length_take]; omega)
     rw [← Ny198.out] at hr23; rw [← hy23] at hcut23; have HR201 := am hr23
     have HC201 := am (show y198.length ≤ c0 from by omega)
     clear hr23 hC23 hroom23 hi023 hsz23; have KY23 := am hy23; clear hy23; replace q23 := eq_true q23
     refine hK.out _ _ ⟨(blk_cell BK196.out 0).trans rfl, (blk_cell BK196.out 1).trans rfl, (blk_cell BK196.out 2).trans rfl, (blk_cell BK196.out 3).trans rfl, (blk_cell BK196.out 4).trans rfl⟩ (fun hHeld => ?_)
     clear hK K
     refine norm_ (a' := ?_) ?_ ?_
     rotate_left
     ·show Act.put _ (some 13) _ = _
      simp only [Act.put, List.setIfInBounds_toArray, List.set_cons_zero, List.set_cons_succ, i64_w, i32_w]
      rfl
     refine pu 2 14 ?_
     refine pu 3 15 ?_
     refine pu 4 16 ?_
     refine pu 5 17 ?_
     refine pu 6 18 ?_
     refine tk5 7 19 hHeld ?_
     refine on1 8 20 (fun K hK => ?_)
     refine goes_ Tryd.func65 (by kernel_rfl) rfl #[.slice (some ad195) y198.length c0, .agg #[.string ((rd_T40 l0 x7_1).f0), .bool ((rd_T40 l0 x7_1).f1), .string ((rd_T40 l0 x7_1).f2), .string ((rd_T40 l0 x7_1).f3), .string ((rd_T40 l0 x7_1).f4)]] (by rfl) rfl rfl mq ?_
     with_reducible refine (impl_Affix_65.calls k1 _ _ y198 ((rd_T40 l0 x7_1).f0) ((rd_T40 l0 x7_1).f1) ((rd_T40 l0 x7_1).f2) ((rd_T40 l0 x7_1).f3) ((rd_T40 l0 x7_1).f4) false _ ?side1 ?side2 A9.out).mono ?_
     (case side1 => exact cq (Kd.C_below HR201.out HB.out)); (case side2 => exact HC201.out)
     rintro e w24 ⟨rfl, hb⟩
     refine ⟨_, rfl, ?_⟩
     replace BK196 := am (blk_below (g := gb196) (o := .cells #[.string ((rd_T40 l0 x7_1).f0), .bool ((rd_T40 l0 x7_1).f1), .string ((rd_T40 l0 x7_1).f2), .string ((rd_T40 l0 x7_1).f3), .string ((rd_T40 l0 x7_1).f4)] 40 (0, 0)) (bq BK196.out) hb); replace HB := am (below_step (bel1 GE196.out) hb)
     (try clear hb)
     (try clear hb2)
     (try clear hk)
     (try clear hi)
     refine hK.out _ _ ⟨(blk_cell BK196.out 0).trans rfl, (blk_cell BK196.out 1).trans rfl, (blk_cell BK196.out 2).trans rfl, (blk_cell BK196.out 3).trans rfl, (blk_cell BK196.out 4).trans rfl⟩ (fun hHeld => ?_)
     clear hK K
     refine norm_ (a' := ?_) ?_ ?_
     rotate_left
     ·show Act.put _ (some 20) _ = _
      simp only [Act.put, List.setIfInBounds_toArray, List.set_cons_zero, List.set_cons_succ, i64_w, i32_w]
      rfl
     refine pu 9 21 ?_
     refine done_ (done_of HT_.out (by kernel_rfl)) ?_
     try go_wp2
     go_roundg k1
     case measure => have := HK1.out; omega
     case rel => exact ⟨(wrap64 (x7_1 + 1)), sq, H', ⟨b74_⟩, ⟨bel1 GE196.out⟩⟩
    replace c6 := Bool.eq_false_iff.mpr c6; subst c6
    have H1 : (some false) = some r := b22_
    replace H := H1; clear H1
    obtain rfl := Option.some.inj H
    have p195 : 0 ≤ (x7_1 : Int) := of_decide_eq_true ad
    have q195 : x7_1 < (l0.length : Int) := of_decide_eq_true ad
    obtain ⟨ad195, e195, hx195_0, hx195_1, hx195_2, hx195_3, hx195_4⟩ := at_T40 HR0.out x7_1 p195 q195
    cases e195
    replace hx195_0 := kp HB.out hx195_0; replace hx195_1 := kp HB.out hx195_1; replace hx195_2 := kp HB.out hx195_2; replace hx195_3 := kp HB.out hx195_3; replace hx195_4 := kp HB.out hx195_4; replace p195 := eq_true p195; replace q195 := eq_true q195
    try go_wp2_with (first | ((with_reducible refine gate_dst (N := 4) rfl ?_); refine bx 4 (cs := #[.string (⟨#[]⟩ : ByteArray), .bool false, .string (⟨#[]⟩ : ByteArray), .string (⟨#[]⟩ : ByteArray), .string (⟨#[]⟩ : ByteArray)]) (t := 40) ?_; intro gb196 hg w25 hbox hb; have BK196 := am (hbox); have GW196 := am ((b19_ : w.heap.size ≤ gb196)); have GE196 := am ((b19_ : w.heap.size ≤ gb196)); replace HB := am (below_step bel hb); clear hb hbox hg; have hcz26_0 := bc BK196.out 0; have hcz26_1 := bc BK196.out 1; have hcz26_2 := bc BK196.out 2; have hcz26_3 := bc BK196.out 3; have hcz26_4 := bc BK196.out 4; have hfz26_0 := bf BK196.out 0; have hfz26_1 := bf BK196.out 1; have hfz26_2 := bf BK196.out 2; have hfz26_3 := bf BK196.out 3; have hfz26_4 := bf BK196.out 4))
    have n0_ : Aside0 ((((((w25.setCell ⟨gb196, 0, none⟩ (.string ((rd_T40 l0 x7_1).f0))).setCell ⟨gb196, 1, none⟩ (.bool ((rd_T40 l0 x7_1).f1))).setCell ⟨gb196, 2, none⟩ (.string ((rd_T40 l0 x7_1).f2))).setCell ⟨gb196, 3, none⟩ (.string ((rd_T40 l0 x7_1).f3))).setCell ⟨gb196, 4, none⟩ (.string ((rd_T40 l0 x7_1).f4))).heap[gb196]? = some (.cells #[.string ((rd_T40 l0 x7_1).f0), .bool ((rd_T40 l0 x7_1).f1), .string ((rd_T40 l0 x7_1).f2), .string ((rd_T40 l0 x7_1).f3), .string ((rd_T40 l0 x7_1).f4)] 40 (0, 0))) := ⟨b9_⟩
    have n1_ : Aside0 (Below w.heap.size w (((((w25.setCell ⟨gb196, 0, none⟩ (.string ((rd_T40 l0 x7_1).f0))).setCell ⟨gb196, 1, none⟩ (.bool ((rd_T40 l0 x7_1).f1))).setCell ⟨gb196, 2, none⟩ (.string ((rd_T40 l0 x7_1).f2))).setCell ⟨gb196, 3, none⟩ (.string ((rd_T40 l0 x7_1).f3))).setCell ⟨gb196, 4, none⟩ (.string ((rd_T40 l0 x7_1).f4)))) := ⟨bel1 GE196.out⟩
    (try clear BK196)
    (try clear HB)
    generalize (((((w25.setCell ⟨gb196, 0, none⟩ (.string ((rd_T40 l0 x7_1).f0))).setCell ⟨gb196, 1, none⟩ (.bool ((rd_T40 l0 x7_1).f1))).setCell ⟨gb196, 2, none⟩ (.string ((rd_T40 l0 x7_1).f2))).setCell ⟨gb196, 3, none⟩ (.string ((rd_T40 l0 x7_1).f3))).setCell ⟨gb196, 4, none⟩ (.string ((rd_T40 l0 x7_1).f4))) = w27 at n0_ n1_ ⊢
    have BK196 := n0_; have HB := n1_; clear n0_ n1_; replace BK196 := am (blk_drew BK196.out); replace HB := am (below_drew1 HB.out)
    refine st (n := 10) (S := fun w' => w'.cell? ⟨gb196, 0, none⟩ = some (.string ((rd_T40 l0 x7_1).f0)) ∧ w'.cell? ⟨gb196, 1, none⟩ = some (.bool ((rd_T40 l0 x7_1).f1)) ∧ w'.cell? ⟨gb196, 2, none⟩ = some (.string ((rd_T40 l0 x7_1).f2)) ∧ w'.cell? ⟨gb196, 3, none⟩ = some (.string ((rd_T40 l0 x7_1).f3)) ∧ w'.cell? ⟨gb196, 4, none⟩ = some (.string ((rd_T40 l0 x7_1).f4))) (ds := []) ⟨(blk_cell BK196.out 0).trans rfl, (blk_cell BK196.out 1).trans rfl, (blk_cell BK196.out 2).trans rfl, (blk_cell BK196.out 3).trans rfl, (blk_cell BK196.out 4).trans rfl⟩ (fun hHeld => ?_); refine with_tabW impl_affixesOk.tab4 impl_affixesOk.bits4 (fun HT_ HW_ => ?_)
    generalize w27.drew = w28 at BK196 HB hHeld ⊢
    refine tk5 0 12 hHeld ?_
    refine on1 1 13 (fun K hK => ?_)
    refine goes_ Tryd.func64 (by kernel_rfl) rfl #[.agg #[.string ((rd_T40 l0 x7_1).f0), .bool ((rd_T40 l0 x7_1).f1), .string ((rd_T40 l0 x7_1).f2), .string ((rd_T40 l0 x7_1).f3), .string ((rd_T40 l0 x7_1).f4)]] (by rfl) rfl rfl mq ?_
    with_reducible refine (impl_AffixOk.calls k1 ((rd_T40 l0 x7_1).f0) ((rd_T40 l0 x7_1).f1) ((rd_T40 l0 x7_1).f2) ((rd_T40 l0 x7_1).f3) ((rd_T40 l0 x7_1).f4) false _ A5.out).mono ?_
    rintro e w29 ⟨rfl, hb⟩
    refine ⟨_, rfl, ?_⟩
    replace BK196 := am (blk_below (g := gb196) (o := .cells #[.string ((rd_T40 l0 x7_1).f0), .bool ((rd_T40 l0 x7_1).f1), .string ((rd_T40 l0 x7_1).f2), .string ((rd_T40 l0 x7_1).f3), .string ((rd_T40 l0 x7_1).f4)] 40 (0, 0)) (bq BK196.out) hb); replace HB := am (below_step (bel1 GE196.out) hb)
    (try clear hb)
    (try clear hb2)
    (try clear hk)
    (try clear hi)
    refine hK.out _ _ ⟨(blk_cell BK196.out 0).trans rfl, (blk_cell BK196.out 1).trans rfl, (blk_cell BK196.out 2).trans rfl, (blk_cell BK196.out 3).trans rfl, (blk_cell BK196.out 4).trans rfl⟩ (fun hHeld => ?_)
    clear hK K
    refine norm_ (a' := ?_) ?_ ?_
    rotate_left
    ·show Act.put _ (some 13) _ = _
     simp only [Act.put, List.setIfInBounds_toArray, List.set_cons_zero, List.set_cons_succ, i64_w, i32_w]
     rfl
    refine pu 2 14 ?_
    refine pu 3 15 ?_
    refine puu 4 16 ?_
    refine puu 5 17 ?_
    refine puu 6 18 ?_
    refine puu 7 19 ?_
    refine puu 8 20 ?_
    refine pu 9 21 ?_
    refine done_ (done_of HT_.out (by kernel_rfl)) ?_
    try go_wp2
    go_ret
    exact ⟨eq_, bel1 GE196.out⟩
   rw [if_neg c2] at H; have c2b0 := decide_eq_false c2; clear c2; obtain rfl := Option.some.inj H; go_wp2; go_ret
   exact ⟨eq_, bel⟩

/-! ### impl_within: function 96 -/
def impl_within.f (a0 : Int) (a1 : Int) (a2 : Int) : Option (Bool) := if a0 ≥ a1 then (some (decide (a0 ≤ a2))) else (some false)
theorem impl_within.calls (a0 : Int) (a1 : Int) (a2 : Int) (r : Bool) (w : World) (h : impl_within.f a0 a1 a2 = some r) :
  Calls Tryd.prog 96 #[.int .i64 a0, .int .i64 a1, .int .i64 a2] w fun e w' => e = .returned (.bool r) ∧ Drawn0 w w' := by
 have H : (if a0 ≥ a1 then (some (decide (a0 ≤ a2))) else (some false)) = some r := h
 clear h
 by_cases c4 : a0 ≥ a1
 ·rw [if_pos c4] at H; have c4b0 := decide_eq_true c4; clear c4; obtain rfl := Option.some.inj H; go_enter Tryd.func96, Tryd.ntmps96; go_wp2; go_ret
  exact ⟨sq, dr⟩
 rw [if_neg c4] at H; have c4b0 := decide_eq_false c4; clear c4; obtain rfl := Option.some.inj H; go_enter Tryd.func96, Tryd.ntmps96; go_wp2; go_ret
 exact ⟨sq, dr⟩

/-! ### impl_WordOk: function 86 -/
def impl_WordOk.f (k : Nat) (a0 : ByteArray) : Option (Bool) := (impl_within.f (a0.size : Int) 1 12).bind fun t203 => (if t203 = true then ((impl_lower.f k a0).bind fun t204 => (some t204)) else (some false))
theorem impl_WordOk.calls (k : Nat) (a0 : ByteArray) (r : Bool) (w : World) (h : impl_WordOk.f k a0 = some r) :
  Calls Tryd.prog 86 #[.string a0] w fun e w' => e = .returned (.bool r) ∧ Drawn0 w w' := by
 have H : ((impl_within.f (a0.size : Int) 1 12).bind fun t203 => (if t203 = true then ((impl_lower.f k a0).bind fun t204 => (some t204)) else (some false))) = some r := h
 clear h; replace H := bs H; obtain ⟨t203, A20, H⟩ := H; replace H : (if t203 = true then ((impl_lower.f k a0).bind fun t204 => (some t204)) else (some false)) = some r := H; have A2 := Aside0.mk A20; clear A20
 by_cases c3 : t203 = true
 ·subst c3
  have H1 : ((impl_lower.f k a0).bind fun t204 => (some t204)) = some r := b47_
  replace H := H1; clear H1
  replace H := bs H; obtain ⟨t204, A40, H⟩ := H; replace H : (some t204) = some r := H; have A4 := Aside0.mk A40; clear A40; obtain rfl := Option.some.inj H; go_enter Tryd.func86, Tryd.ntmps86
  go_wp2_with (first | ((with_reducible refine gate_callee (f := 96) rfl ?_); refine goesL_ (some 5) rfl rfl Tryd.func96 (by kernel_rfl) rfl #[.int .i64 (a0.size : Int), .int .i64 1, .int .i64 12] rfl mq ?_; (with_reducible refine (impl_within.calls (a0.size : Int) 1 12 true _ A2.out).mono ?_); rintro e w' ⟨rfl, ⟨nd, rfl⟩⟩; refine ⟨_, rfl, ?_⟩) | (go_at_call 82; (with_reducible refine (impl_lower.calls k a0 t204 _ A4.out).mono ?_); rintro e w' ⟨rfl, ⟨nd, rfl⟩⟩))
  go_ret
  exact ⟨sq, dr⟩
 replace c3 := Bool.eq_false_iff.mpr c3; subst c3
 have H1 : (some false) = some r := b22_
 replace H := H1; clear H1
 obtain rfl := Option.some.inj H; go_enter Tryd.func86, Tryd.ntmps86
 go_wp2_with (first | ((with_reducible refine gate_callee (f := 96) rfl ?_); refine goesL_ (some 5) rfl rfl Tryd.func96 (by kernel_rfl) rfl #[.int .i64 (a0.size : Int), .int .i64 1, .int .i64 12] rfl mq ?_; (with_reducible refine (impl_within.calls (a0.size : Int) 1 12 false _ A2.out).mono ?_); rintro e w' ⟨rfl, ⟨nd, rfl⟩⟩; refine ⟨_, rfl, ?_⟩))
 go_ret
 exact ⟨sq, dr⟩

/-! ### impl_entryOk: function 66 -/
def impl_entryOk.l0 : Nat → Int → Int → ByteArray → ByteArray → Option (Bool)
 | 0, _, _, _, _ => none
 | k + 1, x6, x7, x206000, x206001 => if x7 < x6 then (if 0 ≤ x7 then (if x7 < (x206001.size : Int) then ((impl_upper.f (bt x206001 x7)).bind fun t206 => (if t206 = true then (if x7 > 0 then (if 0 ≤ (wrap64 (x7 - 1)) then (if (wrap64 (x7 - 1)) < (x206001.size : Int) then (if (bt x206001 (wrap64 (x7 - 1))) ≥ (bt x206001 x7) then (some false) else (impl_entryOk.l0 k x6 (wrap64 (x7 + 1)) x206000 x206001)) else (none)) else (none)) else (impl_entryOk.l0 k x6 (wrap64 (x7 + 1)) x206000 x206001)) else (some false))) else (none)) else (none)) else ((impl_WordOk.f k x206000).bind fun t207 => (if t207 = true then (some (decide ((x206001.size : Int) ≤ 4))) else (some false)))
def impl_entryOk.f (k : Nat) (a0_0 : ByteArray) (a0_1 : ByteArray) : Option (Bool) := impl_entryOk.l0 k (a0_1.size : Int) 0 a0_0 a0_1
theorem impl_entryOk.calls (k : Nat) (a0_0 : ByteArray) (a0_1 : ByteArray) (r : Bool) (w : World) (h : impl_entryOk.f k a0_0 a0_1 = some r) :
  Calls Tryd.prog 66 #[.agg #[.string a0_0, .string a0_1]] w fun e w' => e = .returned (.bool r) ∧ Below w.heap.size w w' := by
 have hu43 := Tryd.underlying43; have HB := am (Below.refl w.heap.size w)
 have H : (impl_entryOk.l0 k (a0_1.size : Int) 0 a0_0 a0_1) = some r := h
 clear h
 have H' := am H
 clear H; go_enter Tryd.func66, Tryd.ntmps66
 go_wp2_with (first | ((with_reducible refine gate_dst (N := 1) rfl ?_); (try (refine gate_guard (by rfl) ?_; dsimp only)); refine bx 1 (cs := #[.string a0_0, .string a0_1]) (t := 43) ?_; intro gb205 hg w2 hbox hb; have BK205 := am (hbox); have GW205 := am ((b19_ : w.heap.size ≤ gb205)); have GE205 := am ((b19_ : w.heap.size ≤ gb205)); replace HB := am (below_step bel hb); clear hb hbox hg; have hcz3_0 := bc BK205.out 0; have hcz3_1 := bc BK205.out 1; have hfz3_0 := bf BK205.out 0; have hfz3_1 := bf BK205.out 1))
 repeat (go_quiet (first | ((with_reducible refine gate_dst (N := 1) rfl ?_); (try (refine gate_guard (by rfl) ?_; dsimp only)); refine bx 1 (cs := #[.string a0_0, .string a0_1]) (t := 43) ?_; intro gb205 hg w2 hbox hb; have BK205 := am (hbox); have GW205 := am ((b19_ : w.heap.size ≤ gb205)); have GE205 := am ((b19_ : w.heap.size ≤ gb205)); replace HB := am (below_step bel hb); clear hb hbox hg; have hcz3_0 := bc BK205.out 0; have hcz3_1 := bc BK205.out 1; have hfz3_0 := bf BK205.out 0; have hfz3_1 := bf BK205.out 1)); try go_wp2_with (first | ((with_reducible refine gate_dst (N := 1) rfl ?_); (try (refine gate_guard (by rfl) ?_; dsimp only)); refine bx 1 (cs := #[.string a0_0, .string a0_1]) (t := 43) ?_; intro gb205 hg w2 hbox hb; have BK205 := am (hbox); have GW205 := am ((b19_ : w.heap.size ≤ gb205)); have GE205 := am ((b19_ : w.heap.size ≤ gb205)); replace HB := am (below_step bel hb); clear hb hbox hg; have hcz3_0 := bc BK205.out 0; have hcz3_1 := bc BK205.out 1; have hfz3_0 := bf BK205.out 0; have hfz3_1 := bf BK205.out 1)))
 go_loopg [7] k (fun kq v7 w' => ∃ (x7_1 : Int), v7 = .int .i64 x7_1 ∧ Aside0 (impl_entryOk.l0 kq (a0_1.size : Int) x7_1 a0_0 a0_1 = some r) ∧ Aside0 (kq ≤ k) ∧ Aside0 (w'.heap[gb205]? = some (.cells #[.string a0_0, .string a0_1] 43 (0, 0))) ∧ Aside0 (Below w.heap.size w w'))
 case atStart => exact ⟨(0), sq, H', ⟨Nat.le_refl _⟩, ⟨bq BK205.out⟩, ⟨bel1 GE205.out⟩⟩
 case round =>
  clear H'; (try clear p2); (try clear hcz3_0); (try clear hcz3_1); (try clear hfz3_0); (try clear hfz3_1); obtain ⟨x7_1, rfl, HA, HK1, BK205, HB⟩ := hrel
  cases gk with
  | zero => exact absurd HA.out (by simp [impl_entryOk.l0])
  | succ k1 =>
   have H := HA.out; clear HA
   simp only [impl_entryOk.l0] at H
   by_cases c4 : x7_1 < (a0_1.size : Int)
   ·rw [if_pos c4] at H; have c4b0 := decide_eq_true c4; clear c4
    replace H := it H; obtain ⟨c5b0, H⟩ := H
    replace H := it H; obtain ⟨c6b0, H⟩ := H; replace H := bs H; obtain ⟨t206, A80, H⟩ := H; replace H : (if t206 = true then (if x7_1 > 0 then (if 0 ≤ (wrap64 (x7_1 - 1)) then (if (wrap64 (x7_1 - 1)) < (a0_1.size : Int) then (if (bt a0_1 (wrap64 (x7_1 - 1))) ≥ (bt a0_1 x7_1) then (some false) else (impl_entryOk.l0 k1 (a0_1.size : Int) (wrap64 (x7_1 + 1)) a0_0 a0_1)) else (none)) else (none)) else (impl_entryOk.l0 k1 (a0_1.size : Int) (wrap64 (x7_1 + 1)) a0_0 a0_1)) else (some false)) = some r := H; have A8 := Aside0.mk A80; clear A80
    by_cases c9 : t206 = true
    ·subst c9
     have H1 : (if x7_1 > 0 then (if 0 ≤ (wrap64 (x7_1 - 1)) then (if (wrap64 (x7_1 - 1)) < (a0_1.size : Int) then (if (bt a0_1 (wrap64 (x7_1 - 1))) ≥ (bt a0_1 x7_1) then (some false) else (impl_entryOk.l0 k1 (a0_1.size : Int) (wrap64 (x7_1 + 1)) a0_0 a0_1)) else (none)) else (none)) else (impl_entryOk.l0 k1 (a0_1.size : Int) (wrap64 (x7_1 + 1)) a0_0 a0_1)) = some r := b47_
     replace H := H1; clear H1
     by_cases c10 : x7_1 > 0
     ·rw [if_pos c10] at H; have c10b0 := decide_eq_true c10; clear c10; obtain ⟨ji11, hji11⟩ : ∃ j_ : Int, (wrap64 (x7_1 - 1)) = j_ := ⟨_, rfl⟩
      replace H : (if 0 ≤ (ji11) then (if (ji11) < (a0_1.size : Int) then (if (bt a0_1 (ji11)) ≥ (bt a0_1 x7_1) then (some false) else (impl_entryOk.l0 k1 (a0_1.size : Int) (wrap64 (x7_1 + 1)) a0_0 a0_1)) else (none)) else (none)) = some r := by first | (rw [hji11] at H; exact H) | (simp only [hji11] at H ⊢; exact H)
      (try rw [hji11] at A8)
      have hji11w : (IntKind.i64.wrap (x7_1 - 1)) = ji11 := (i64_w _).trans hji11
      replace H := it H; obtain ⟨c12b0, H⟩ := H
      replace H := it H; obtain ⟨c13b0, H⟩ := H
      by_cases c16 : (bt a0_1 (ji11)) ≥ (bt a0_1 x7_1)
      ·rw [if_pos c16] at H; have c16b0 := decide_eq_true c16; clear c16; obtain rfl := Option.some.inj H; have hcz17_0 := bc BK205.out 0; have hcz17_1 := bc BK205.out 1; have hfz17_0 := bf BK205.out 0; have hfz17_1 := bf BK205.out 1
       have p7 : 0 ≤ (x7_1 : Int) := of_decide_eq_true ad
       have q7 : x7_1 < (a0_1.size : Int) := of_decide_eq_true ad
       have hx7 := bt_at a0_1 x7_1; replace p7 := eq_true p7; replace q7 := eq_true q7
       try have p14 : 0 ≤ ((ji11) : Int) := of_decide_eq_true ad
       try have q14 : (ji11) < (a0_1.size : Int) := of_decide_eq_true ad
       try have hx14 := bt_at a0_1 (ji11)
       try replace p14 := eq_true p14
       try replace q14 := eq_true q14
       try have p15 : 0 ≤ (x7_1 : Int) := of_decide_eq_true ad
       try have q15 : x7_1 < (a0_1.size : Int) := of_decide_eq_true ad
       try have hx15 := bt_at a0_1 x7_1
       try replace p15 := eq_true p15
       try replace q15 := eq_true q15
       go_wp2_with (first | (go_at_call 81; (with_reducible refine (impl_upper.calls (bt a0_1 x7_1) true _ A8.out).mono ?_); rintro e w' ⟨rfl, ⟨nd, rfl⟩⟩; first | exact ⟨rfl, _, World.drewN_drewN _ _ _⟩ | exact ⟨rfl, _, Eq.trans (World.drewN_drewN _ _ _) (congrArg (World.drewN _) (Nat.add_assoc _ _ _))⟩ | (have p14 : 0 ≤ ((ji11) : Int) := of_decide_eq_true ad; have q14 : (ji11) < (a0_1.size : Int) := of_decide_eq_true ad; have hx14 := bt_at a0_1 (ji11); replace p14 := eq_true p14; replace q14 := eq_true q14; have p15 : 0 ≤ (x7_1 : Int) := of_decide_eq_true ad; have q15 : x7_1 < (a0_1.size : Int) := of_decide_eq_true ad; have hx15 := bt_at a0_1 x7_1; replace p15 := eq_true p15; replace q15 := eq_true q15)))
       repeat (go_quiet (first | (go_at_call 81; (with_reducible refine (impl_upper.calls (bt a0_1 x7_1) true _ A8.out).mono ?_); rintro e w' ⟨rfl, ⟨nd, rfl⟩⟩; first | exact ⟨rfl, _, World.drewN_drewN _ _ _⟩ | exact ⟨rfl, _, Eq.trans (World.drewN_drewN _ _ _) (congrArg (World.drewN _) (Nat.add_assoc _ _ _))⟩ | (have p14 : 0 ≤ ((ji11) : Int) := of_decide_eq_true ad; have q14 : (ji11) < (a0_1.size : Int) := of_decide_eq_true ad; have hx14 := bt_at a0_1 (ji11); replace p14 := eq_true p14; replace q14 := eq_true q14; have p15 : 0 ≤ (x7_1 : Int) := of_decide_eq_true ad; have q15 : x7_1 < (a0_1.size : Int) := of_decide_eq_true ad; have hx15 := bt_at a0_1 x7_1; replace p15 := eq_true p15; replace q15 := eq_true q15))); try go_wp2_with (first | (go_at_call 81; (with_reducible refine (impl_upper.calls (bt a0_1 x7_1) true _ A8.out).mono ?_); rintro e w' ⟨rfl, ⟨nd, rfl⟩⟩; first | exact ⟨rfl, _, World.drewN_drewN _ _ _⟩ | exact ⟨rfl, _, Eq.trans (World.drewN_drewN _ _ _) (congrArg (World.drewN _) (Nat.add_assoc _ _ _))⟩ | (have p14 : 0 ≤ ((ji11) : Int) := of_decide_eq_true ad; have q14 : (ji11) < (a0_1.size : Int) := of_decide_eq_true ad; have hx14 := bt_at a0_1 (ji11); replace p14 := eq_true p14; replace q14 := eq_true q14; have p15 : 0 ≤ (x7_1 : Int) := of_decide_eq_true ad; have q15 : x7_1 < (a0_1.size : Int) := of_decide_eq_true ad; have hx15 := bt_at a0_1 x7_1; replace p15 := eq_true p15; replace q15 := eq_true q15))))
       go_ret
       exact ⟨by first | rfl | (simp [errW_none, errW_some] <;> rfl) | (simp only [← hji11]; first | rfl | (simp [errW_none, errW_some] <;> rfl)) | (simp [*, errW_none, errW_some] <;> rfl), bel1 GE205.out⟩
      rw [if_neg c16] at H; have c16b0 := decide_eq_false c16; clear c16
      have H' := am H
      clear H; have hcz18_0 := bc BK205.out 0; have hcz18_1 := bc BK205.out 1; have hfz18_0 := bf BK205.out 0; have hfz18_1 := bf BK205.out 1
      have p7 : 0 ≤ (x7_1 : Int) := of_decide_eq_true ad
      have q7 : x7_1 < (a0_1.size : Int) := of_decide_eq_true ad
      have hx7 := bt_at a0_1 x7_1; replace p7 := eq_true p7; replace q7 := eq_true q7
      try have p14 : 0 ≤ ((ji11) : Int) := of_decide_eq_true ad
      try have q14 : (ji11) < (a0_1.size : Int) := of_decide_eq_true ad
      try have hx14 := bt_at a0_1 (ji11)
      try replace p14 := eq_true p14
      try replace q14 := eq_true q14
      try have p15 : 0 ≤ (x7_1 : Int) := of_decide_eq_true ad
      try have q15 : x7_1 < (a0_1.size : Int) := of_decide_eq_true ad
      try have hx15 := bt_at a0_1 x7_1
      try replace p15 := eq_true p15
      try replace q15 := eq_true q15
      go_wp2_with (first | (go_at_call 81; (with_reducible refine (impl_upper.calls (bt a0_1 x7_1) true _ A8.out).mono ?_); rintro e w' ⟨rfl, ⟨nd, rfl⟩⟩; first | exact ⟨rfl, _, World.drewN_drewN _ _ _⟩ | exact ⟨rfl, _, Eq.trans (World.drewN_drewN _ _ _) (congrArg (World.drewN _) (Nat.add_assoc _ _ _))⟩ | (have p14 : 0 ≤ ((ji11) : Int) := of_decide_eq_true ad; have q14 : (ji11) < (a0_1.size : Int) := of_decide_eq_true ad; have hx14 := bt_at a0_1 (ji11); replace p14 := eq_true p14; replace q14 := eq_true q14; have p15 : 0 ≤ (x7_1 : Int) := of_decide_eq_true ad; have q15 : x7_1 < (a0_1.size : Int) := of_decide_eq_true ad; have hx15 := bt_at a0_1 x7_1; replace p15 := eq_true p15; replace q15 := eq_true q15)))
      repeat (go_quiet (first | (go_at_call 81; (with_reducible refine (impl_upper.calls (bt a0_1 x7_1) true _ A8.out).mono ?_); rintro e w' ⟨rfl, ⟨nd, rfl⟩⟩; first | exact ⟨rfl, _, World.drewN_drewN _ _ _⟩ | exact ⟨rfl, _, Eq.trans (World.drewN_drewN _ _ _) (congrArg (World.drewN _) (Nat.add_assoc _ _ _))⟩ | (have p14 : 0 ≤ ((ji11) : Int) := of_decide_eq_true ad; have q14 : (ji11) < (a0_1.size : Int) := of_decide_eq_true ad; have hx14 := bt_at a0_1 (ji11); replace p14 := eq_true p14; replace q14 := eq_true q14; have p15 : 0 ≤ (x7_1 : Int) := of_decide_eq_true ad; have q15 : x7_1 < (a0_1.size : Int) := of_decide_eq_true ad; have hx15 := bt_at a0_1 x7_1; replace p15 := eq_true p15; replace q15 := eq_true q15))); try go_wp2_with (first | (go_at_call 81; (with_reducible refine (impl_upper.calls (bt a0_1 x7_1) true _ A8.out).mono ?_); rintro e w' ⟨rfl, ⟨nd, rfl⟩⟩; first | exact ⟨rfl, _, World.drewN_drewN _ _ _⟩ | exact ⟨rfl, _, Eq.trans (World.drewN_drewN _ _ _) (congrArg (World.drewN _) (Nat.add_assoc _ _ _))⟩ | (have p14 : 0 ≤ ((ji11) : Int) := of_decide_eq_true ad; have q14 : (ji11) < (a0_1.size : Int) := of_decide_eq_true ad; have hx14 := bt_at a0_1 (ji11); replace p14 := eq_true p14; replace q14 := eq_true q14; have p15 : 0 ≤ (x7_1 : Int) := of_decide_eq_true ad; have q15 : x7_1 < (a0_1.size : Int) := of_decide_eq_true ad; have hx15 := bt_at a0_1 x7_1; replace p15 := eq_true p15; replace q15 := eq_true q15))))
      go_roundg k1
      case measure => have := HK1.out; omega
      case rel => exact ⟨(wrap64 (x7_1 + 1)), sq, H', ⟨b74_⟩, ⟨bq BK205.out⟩, ⟨bel1 GE205.out⟩⟩
     rw [if_neg c10] at H; have c10b0 := decide_eq_false c10; clear c10
     have H' := am H
     clear H; have hcz19_0 := bc BK205.out 0; have hcz19_1 := bc BK205.out 1; have hfz19_0 := bf BK205.out 0; have hfz19_1 := bf BK205.out 1
     have p7 : 0 ≤ (x7_1 : Int) := of_decide_eq_true ad
     have q7 : x7_1 < (a0_1.size : Int) := of_decide_eq_true ad
     have hx7 := bt_at a0_1 x7_1; replace p7 := eq_true p7; replace q7 := eq_true q7
     go_wp2_with (first | (go_at_call 81; (with_reducible refine (impl_upper.calls (bt a0_1 x7_1) true _ A8.out).mono ?_); rintro e w' ⟨rfl, ⟨nd, rfl⟩⟩; (try first | exact ⟨rfl, _, World.drewN_drewN _ _ _⟩ | exact ⟨rfl, _, Eq.trans (World.drewN_drewN _ _ _) (congrArg (World.drewN _) (Nat.add_assoc _ _ _))⟩)))
     repeat (go_quiet (first | (go_at_call 81; (with_reducible refine (impl_upper.calls (bt a0_1 x7_1) true _ A8.out).mono ?_); rintro e w' ⟨rfl, ⟨nd, rfl⟩⟩; (try first | exact ⟨rfl, _, World.drewN_drewN _ _ _⟩ | exact ⟨rfl, _, Eq.trans (World.drewN_drewN _ _ _) (congrArg (World.drewN _) (Nat.add_assoc _ _ _))⟩))); try go_wp2_with (first | (go_at_call 81; (with_reducible refine (impl_upper.calls (bt a0_1 x7_1) true _ A8.out).mono ?_); rintro e w' ⟨rfl, ⟨nd, rfl⟩⟩; (try first | exact ⟨rfl, _, World.drewN_drewN _ _ _⟩ | exact ⟨rfl, _, Eq.trans (World.drewN_drewN _ _ _) (congrArg (World.drewN _) (Nat.add_assoc _ _ _))⟩))))
     go_roundg k1
     case measure => have := HK1.out; omega
     case rel => exact ⟨(wrap64 (x7_1 + 1)), sq, H', ⟨b74_⟩, ⟨bq BK205.out⟩, ⟨bel1 GE205.out⟩⟩
    replace c9 := Bool.eq_false_iff.mpr c9; subst c9
    have H1 : (some false) = some r := b22_
    replace H := H1; clear H1
    obtain rfl := Option.some.inj H; have hcz20_0 := bc BK205.out 0; have hcz20_1 := bc BK205.out 1; have hfz20_0 := bf BK205.out 0; have hfz20_1 := bf BK205.out 1
    have p7 : 0 ≤ (x7_1 : Int) := of_decide_eq_true ad
    have q7 : x7_1 < (a0_1.size : Int) := of_decide_eq_true ad
    have hx7 := bt_at a0_1 x7_1; replace p7 := eq_true p7; replace q7 := eq_true q7
    go_wp2_with (first | (go_at_call 81; (with_reducible refine (impl_upper.calls (bt a0_1 x7_1) false _ A8.out).mono ?_); rintro e w' ⟨rfl, ⟨nd, rfl⟩⟩; (try first | exact ⟨rfl, _, World.drewN_drewN _ _ _⟩ | exact ⟨rfl, _, Eq.trans (World.drewN_drewN _ _ _) (congrArg (World.drewN _) (Nat.add_assoc _ _ _))⟩)))
    repeat (go_quiet (first | (go_at_call 81; (with_reducible refine (impl_upper.calls (bt a0_1 x7_1) false _ A8.out).mono ?_); rintro e w' ⟨rfl, ⟨nd, rfl⟩⟩; (try first | exact ⟨rfl, _, World.drewN_drewN _ _ _⟩ | exact ⟨rfl, _, Eq.trans (World.drewN_drewN _ _ _) (congrArg (World.drewN _) (Nat.add_assoc _ _ _))⟩))); try go_wp2_with (first | (go_at_call 81; (with_reducible refine (impl_upper.calls (bt a0_1 x7_1) false _ A8.out).mono ?_); rintro e w' ⟨rfl, ⟨nd, rfl⟩⟩; (try first | exact ⟨rfl, _, World.drewN_drewN _ _ _⟩ | exact ⟨rfl, _, Eq.trans (World.drewN_drewN _ _ _) (congrArg (World.drewN _) (Nat.add_assoc _ _ _))⟩))))
    go_ret
    exact ⟨eq_, bel1 GE205.out⟩
   rw [if_neg c4] at H; have c4b0 := decide_eq_false c4; clear c4; replace H := bs H; obtain ⟨t207, A210, H⟩ := H; replace H : (if t207 = true then (some (decide ((a0_1.size : Int) ≤ 4))) else (some false)) = some r := H; have A21 := Aside0.mk A210; clear A210
   by_cases c22 : t207 = true
   ·subst c22
    have H1 : (some (decide ((a0_1.size : Int) ≤ 4))) = some r := b47_
    replace H := H1; clear H1
    obtain rfl := Option.some.inj H; have hcz23_0 := bc BK205.out 0; have hcz23_1 := bc BK205.out 1; have hfz23_0 := bf BK205.out 0; have hfz23_1 := bf BK205.out 1
    go_wp2_with (first | (go_at_call 86; (with_reducible refine (impl_WordOk.calls k1 a0_0 true _ A21.out).mono ?_); rintro e w' ⟨rfl, ⟨nd, rfl⟩⟩; (try first | exact ⟨rfl, _, World.drewN_drewN _ _ _⟩ | exact ⟨rfl, _, Eq.trans (World.drewN_drewN _ _ _) (congrArg (World.drewN _) (Nat.add_assoc _ _ _))⟩)))
    repeat (go_quiet (first | (go_at_call 86; (with_reducible refine (impl_WordOk.calls k1 a0_0 true _ A21.out).mono ?_); rintro e w' ⟨rfl, ⟨nd, rfl⟩⟩; (try first | exact ⟨rfl, _, World.drewN_drewN _ _ _⟩ | exact ⟨rfl, _, Eq.trans (World.drewN_drewN _ _ _) (congrArg (World.drewN _) (Nat.add_assoc _ _ _))⟩))); try go_wp2_with (first | (go_at_call 86; (with_reducible refine (impl_WordOk.calls k1 a0_0 true _ A21.out).mono ?_); rintro e w' ⟨rfl, ⟨nd, rfl⟩⟩; (try first | exact ⟨rfl, _, World.drewN_drewN _ _ _⟩ | exact ⟨rfl, _, Eq.trans (World.drewN_drewN _ _ _) (congrArg (World.drewN _) (Nat.add_assoc _ _ _))⟩))))
    go_ret
    exact ⟨eq_, bel1 GE205.out⟩
   replace c22 := Bool.eq_false_iff.mpr c22; subst c22
   have H1 : (some false) = some r := b22_
   replace H := H1; clear H1
   obtain rfl := Option.some.inj H; have hcz24_0 := bc BK205.out 0; have hcz24_1 := bc BK205.out 1; have hfz24_0 := bf BK205.out 0; have hfz24_1 := bf BK205.out 1
   go_wp2_with (first | (go_at_call 86; (with_reducible refine (impl_WordOk.calls k1 a0_0 false _ A21.out).mono ?_); rintro e w' ⟨rfl, ⟨nd, rfl⟩⟩; (try first | exact ⟨rfl, _, World.drewN_drewN _ _ _⟩ | exact ⟨rfl, _, Eq.trans (World.drewN_drewN _ _ _) (congrArg (World.drewN _) (Nat.add_assoc _ _ _))⟩)))
   repeat (go_quiet (first | (go_at_call 86; (with_reducible refine (impl_WordOk.calls k1 a0_0 false _ A21.out).mono ?_); rintro e w' ⟨rfl, ⟨nd, rfl⟩⟩; (try first | exact ⟨rfl, _, World.drewN_drewN _ _ _⟩ | exact ⟨rfl, _, Eq.trans (World.drewN_drewN _ _ _) (congrArg (World.drewN _) (Nat.add_assoc _ _ _))⟩))); try go_wp2_with (first | (go_at_call 86; (with_reducible refine (impl_WordOk.calls k1 a0_0 false _ A21.out).mono ?_); rintro e w' ⟨rfl, ⟨nd, rfl⟩⟩; (try first | exact ⟨rfl, _, World.drewN_drewN _ _ _⟩ | exact ⟨rfl, _, Eq.trans (World.drewN_drewN _ _ _) (congrArg (World.drewN _) (Nat.add_assoc _ _ _))⟩))))
   go_ret
   exact ⟨eq_, bel1 GE205.out⟩
-- shrunk

/-! ### impl_entriesOk: function 45 -/
def impl_entriesOk.l0 : Nat → List (S43) → List (S43) → Int → Int → Option (Bool)
 | 0, _, _, _, _ => none
 | k + 1, x0, x5, x6, x7 => if x7 < x6 then (if 0 ≤ x7 then (if x7 < (x5.length : Int) then ((impl_entryOk.f k ((rd_T43 x5 x7).f0) ((rd_T43 x5 x7).f1)).bind fun t210 => (if t210 = true then (if x7 > 0 then (if 0 ≤ (wrap64 (x7 - 1)) then (if (wrap64 (x7 - 1)) < (x0.length : Int) then (if ((Op.bytesLess (((rd_T43 x0 (wrap64 (x7 - 1))).f0).toList) (((rd_T43 x5 x7).f0).toList)) = true) then (impl_entriesOk.l0 k x0 x5 x6 (wrap64 (x7 + 1))) else (some false)) else (none)) else (none)) else (impl_entriesOk.l0 k x0 x5 x6 (wrap64 (x7 + 1)))) else (some false))) else (none)) else (none)) else (some (decide ((x0.length : Int) ≤ 24)))
def impl_entriesOk.f (k : Nat) (l0 : List (S43)) : Option (Bool) := impl_entriesOk.l0 k l0 l0 (l0.length : Int) 0
def impl_entriesOk.T4 : Bool × List (List Nat × List Nat) := (true, [([], []), ([0], [0]), ([1], [1]), ([2, 1], [2]), ([3], [3]), ([4, 3], [3, 4]), ([5, 3, 3], [3, 5]), ([6], [6]), ([6], [6]), ([8, 6], [6, 8]), ([7, 9, 6], [6, 7, 9]), ([10, 6], [6, 10]), ([11, 6], [6, 11]), ([6], [6]), ([13, 6], [6, 13]), ([12, 14, 6], [6, 12, 14]), ([6, 15, 3], [3, 6, 15]), ([3, 16], [3, 16])])
def impl_entriesOk.B4 : List Nat := [0, 1, 3, 7, 15, 31, 63, 127, 127, 383, 1023, 2047, 4095, 127, 8319, 32767, 65535, 131071]
theorem impl_entriesOk.tab4 : rtab .any (opsOf Tryd.f45 4) = impl_entriesOk.T4 := by kernel_rfl
theorem impl_entriesOk.bits4 : waitsOk impl_entriesOk.T4.2 impl_entriesOk.B4 = true := by kernel_rfl
theorem impl_entriesOk.calls (k : Nat) (A0 : Option Addr) (c0 : Nat) (l0 : List (S43)) (r : Bool) (w : World) (hr0 : Kd.C k43 w A0 l0.length l0) (hc0 : l0.length ≤ c0) (h : impl_entriesOk.f k l0 = some r) :
  Calls Tryd.prog 45 #[.slice A0 l0.length c0] w fun e w' => e = .returned (.bool r) ∧ Below w.heap.size w w' := by
 have hu43 := Tryd.underlying43; have HR0 := am hr0; have HC0 := am hc0; clear hr0 hc0; have HB := am (Below.refl w.heap.size w)
 have H : (impl_entriesOk.l0 k l0 l0 (l0.length : Int) 0) = some r := h
 clear h
 have H' := am H
 clear H; go_enter Tryd.func45, Tryd.ntmps45; go_wp2
 go_loopg [7] k (fun kq v7 w' => ∃ (x7_1 : Int), v7 = .int .i64 x7_1 ∧ Aside0 (impl_entriesOk.l0 kq l0 l0 (l0.length : Int) x7_1 = some r) ∧ Aside0 (kq ≤ k) ∧ Aside0 (Below w.heap.size w w'))
 case atStart => exact ⟨(0), sq, H', ⟨Nat.le_refl _⟩, ⟨bel⟩⟩
 case round =>
  clear H'; obtain ⟨x7_1, rfl, HA, HK1, HB⟩ := hrel
  cases gk with
  | zero => exact absurd HA.out (by simp [impl_entriesOk.l0])
  | succ k1 =>
   have H := HA.out; clear HA
   simp only [impl_entriesOk.l0] at H
   by_cases c2 : x7_1 < (l0.length : Int)
   ·rw [if_pos c2] at H; have c2b0 := decide_eq_true c2; clear c2
    replace H := it H; obtain ⟨c3b0, H⟩ := H
    replace H := it H; obtain ⟨c4b0, H⟩ := H; replace H := bs H; obtain ⟨t210, A50, H⟩ := H; replace H : (if t210 = true then (if x7_1 > 0 then (if 0 ≤ (wrap64 (x7_1 - 1)) then (if (wrap64 (x7_1 - 1)) < (l0.length : Int) then (if ((Op.bytesLess (((rd_T43 l0 (wrap64 (x7_1 - 1))).f0).toList) (((rd_T43 l0 x7_1).f0).toList)) = true) then (impl_entriesOk.l0 k1 l0 l0 (l0.length : Int) (wrap64 (x7_1 + 1))) else (some false)) else (none)) else (none)) else (impl_entriesOk.l0 k1 l0 l0 (l0.length : Int) (wrap64 (x7_1 + 1)))) else (some false)) = some r := H; have A5 := Aside0.mk A50; clear A50
    by_cases c6 : t210 = true
    ·subst c6
     have H1 : (if x7_1 > 0 then (if 0 ≤ (wrap64 (x7_1 - 1)) then (if (wrap64 (x7_1 - 1)) < (l0.length : Int) then (if ((Op.bytesLess (((rd_T43 l0 (wrap64 (x7_1 - 1))).f0).toList) (((rd_T43 l0 x7_1).f0).toList)) = true) then (impl_entriesOk.l0 k1 l0 l0 (l0.length : Int) (wrap64 (x7_1 + 1))) else (some false)) else (none)) else (none)) else (impl_entriesOk.l0 k1 l0 l0 (l0.length : Int) (wrap64 (x7_1 + 1)))) = some r := b47_
     replace H := H1; clear H1
     by_cases c7 : x7_1 > 0
     ·rw [if_pos c7] at H; have c7b0 := decide_eq_true c7; clear c7; obtain ⟨ji8, hji8⟩ : ∃ j_ : Int, (wrap64 (x7_1 - 1)) = j_ := ⟨_, rfl⟩
      replace H : (if 0 ≤ (ji8) then (if (ji8) < (l0.length : Int) then (if ((Op.bytesLess (((rd_T43 l0 (ji8)).f0).toList) (((rd_T43 l0 x7_1).f0).toList)) = true) then (impl_entriesOk.l0 k1 l0 l0 (l0.length : Int) (wrap64 (x7_1 + 1))) else (some false)) else (none)) else (none)) = some r := by first | (rw [hji8] at H; exact H) | (simp only [hji8] at H ⊢; exact H)
      (try rw [hji8] at A5)
      have hji8w : (IntKind.i64.wrap (x7_1 - 1)) = ji8 := (i64_w _).trans hji8
      replace H := it H; obtain ⟨c9b0, H⟩ := H
      replace H := it H; obtain ⟨c10b0, H⟩ := H
      by_cases c11 : ((Op.bytesLess (((rd_T43 l0 (ji8)).f0).toList) (((rd_T43 l0 x7_1).f0).toList)) = true)
      ·rw [if_pos c11] at H
       have c11b0 : (Op.bytesLess (((rd_T43 l0 (ji8)).f0).toList) (((rd_T43 l0 x7_1).f0).toList)) = true := c11
       clear c11
       have H' := am H
       clear H
       have p208 : 0 ≤ (x7_1 : Int) := of_decide_eq_true ad
       have q208 : x7_1 < (l0.length : Int) := of_decide_eq_true ad
       obtain ⟨ad208, e208, hx208_0, hx208_1⟩ := at_T43 HR0.out x7_1 p208 q208
       cases e208
       replace hx208_0 := kp HB.out hx208_0; replace hx208_1 := kp HB.out hx208_1; replace p208 := eq_true p208; replace q208 := eq_true q208
       try go_wp2_with (first | ((with_reducible refine gate_dst (N := 4) rfl ?_); refine bx 4 (cs := #[.string (⟨#[]⟩ : ByteArray), .string (⟨#[]⟩ : ByteArray)]) (t := 43) ?_; intro gb209 hg w12 hbox hb; have BK209 := am (hbox); have GW209 := am ((b19_ : w.heap.size ≤ gb209)); have GE209 := am ((b19_ : w.heap.size ≤ gb209)); replace HB := am (below_step bel hb); clear hb hbox hg; have hcz13_0 := bc BK209.out 0; have hcz13_1 := bc BK209.out 1; have hfz13_0 := bf BK209.out 0; have hfz13_1 := bf BK209.out 1))
       have n0_ : Aside0 (((w12.setCell ⟨gb209, 0, none⟩ (.string ((rd_T43 l0 x7_1).f0))).setCell ⟨gb209, 1, none⟩ (.string ((rd_T43 l0 x7_1).f1))).heap[gb209]? = some (.cells #[.string ((rd_T43 l0 x7_1).f0), .string ((rd_T43 l0 x7_1).f1)] 43 (0, 0))) := ⟨b24_⟩
       have n1_ : Aside0 (Below w.heap.size w ((w12.setCell ⟨gb209, 0, none⟩ (.string ((rd_T43 l0 x7_1).f0))).setCell ⟨gb209, 1, none⟩ (.string ((rd_T43 l0 x7_1).f1)))) := ⟨bel1 GE209.out⟩
       (try clear BK209)
       (try clear HB)
       generalize ((w12.setCell ⟨gb209, 0, none⟩ (.string ((rd_T43 l0 x7_1).f0))).setCell ⟨gb209, 1, none⟩ (.string ((rd_T43 l0 x7_1).f1))) = w14 at n0_ n1_ ⊢
       have BK209 := n0_; have HB := n1_; clear n0_ n1_; replace BK209 := am (blk_drew BK209.out); replace HB := am (below_drew1 HB.out)
       have p211 : 0 ≤ ((ji8) : Int) := of_decide_eq_true ad
       have q211 : (ji8) < (l0.length : Int) := of_decide_eq_true ad
       obtain ⟨ad211, e211, hx211_0, hx211_1⟩ := at_T43 HR0.out (ji8) p211 q211; have hw211_1 := hx211_1; have hw211_0 := hx211_0
       obtain rfl : ad208 = ad211 := (by injection e211)
       replace hx211_0 := kp HB.out hx211_0; replace hx211_1 := kp HB.out hx211_1; replace p211 := eq_true p211; replace q211 := eq_true q211
       refine st (n := 18) (S := fun w' => w'.cell? ⟨gb209, 0, none⟩ = some (.string ((rd_T43 l0 x7_1).f0)) ∧ w'.cell? ⟨gb209, 1, none⟩ = some (.string ((rd_T43 l0 x7_1).f1)) ∧ w'.cell? (ad208.add (((ji8)).toNat * 2)) = some (.string ((rd_T43 l0 (ji8)).f0)) ∧ w'.cell? ⟨(ad208.add (((ji8)).toNat * 2)).block, (ad208.add (((ji8)).toNat * 2)).off + 1, none⟩ = some (.string ((rd_T43 l0 (ji8)).f1))) (ds := []) ⟨(blk_cell BK209.out 0).trans rfl, (blk_cell BK209.out 1).trans rfl, (kp HB.out hw211_0), (kp HB.out hw211_1)⟩ (fun hHeld => ?_); refine with_tabW impl_entriesOk.tab4 impl_entriesOk.bits4 (fun HT_ HW_ => ?_)
       generalize w14.drew = w15 at BK209 HB hx211_0 hx211_1 hHeld ⊢
       refine tk4 0 12 hHeld ?_
       refine on1 1 13 (fun K hK => ?_)
       refine goes_ Tryd.func66 (by kernel_rfl) rfl #[.agg #[.string ((rd_T43 l0 x7_1).f0), .string ((rd_T43 l0 x7_1).f1)]] (by rfl) rfl rfl mq ?_
       with_reducible refine (impl_entryOk.calls k1 ((rd_T43 l0 x7_1).f0) ((rd_T43 l0 x7_1).f1) true _ A5.out).mono ?_
       rintro e w16 ⟨rfl, hb⟩
       refine ⟨_, rfl, ?_⟩
       replace BK209 := am (blk_below (g := gb209) (o := .cells #[.string ((rd_T43 l0 x7_1).f0), .string ((rd_T43 l0 x7_1).f1)] 43 (0, 0)) (bq BK209.out) hb); replace HB := am (below_step (bel1 GE209.out) hb)
       (try clear hb)
       (try clear hb2)
       (try clear hk)
       (try clear hi)
       refine hK.out _ _ ⟨(blk_cell BK209.out 0).trans rfl, (blk_cell BK209.out 1).trans rfl, (kp HB.out hw211_0), (kp HB.out hw211_1)⟩ (fun hHeld => ?_)
       clear hK K
       refine norm_ (a' := ?_) ?_ ?_
       rotate_left
       ·show Act.put _ (some 13) _ = _
        simp only [Act.put, List.setIfInBounds_toArray, List.set_cons_zero, List.set_cons_succ, i64_w, i32_w]
        rfl
       refine pu 2 14 ?_
       refine pu 3 15 ?_
       refine pu 4 16 ?_
       refine pu 5 17 ?_
       refine pu 6 18 ?_
       refine pu 7 19 ?_
       refine pu 8 20 ?_
       refine pu 9 21 ?_
       refine pu 10 22 ?_
       refine pu 11 23 ?_
       refine pu 13 25 ?_
       refine tk4 12 24 hHeld ?_
       refine tk4 14 26 hHeld ?_
       refine pu 15 27 ?_
       refine pu 16 28 ?_
       refine pu 17 29 ?_
       refine done_ (done_of HT_.out (by kernel_rfl)) ?_
       try go_wp2
       go_roundg k1
       case measure => have := HK1.out; omega
       case rel => exact ⟨(wrap64 (x7_1 + 1)), sq, H', ⟨b74_⟩, ⟨bel1 GE209.out⟩⟩
      rw [if_neg c11] at H
      have c11b0 : (Op.bytesLess (((rd_T43 l0 (ji8)).f0).toList) (((rd_T43 l0 x7_1).f0).toList)) = false := by simpa using c11
      clear c11; obtain rfl := Option.some.inj H
      have p208 : 0 ≤ (x7_1 : Int) := of_decide_eq_true ad
      have q208 : x7_1 < (l0.length : Int) := of_decide_eq_true ad
      obtain ⟨ad208, e208, hx208_0, hx208_1⟩ := at_T43 HR0.out x7_1 p208 q208
      cases e208
      replace hx208_0 := kp HB.out hx208_0; replace hx208_1 := kp HB.out hx208_1; replace p208 := eq_true p208; replace q208 := eq_true q208
      try go_wp2_with (first | ((with_reducible refine gate_dst (N := 4) rfl ?_); refine bx 4 (cs := #[.string (⟨#[]⟩ : ByteArray), .string (⟨#[]⟩ : ByteArray)]) (t := 43) ?_; intro gb209 hg w17 hbox hb; have BK209 := am (hbox); have GW209 := am ((b19_ : w.heap.size ≤ gb209)); have GE209 := am ((b19_ : w.heap.size ≤ gb209)); replace HB := am (below_step bel hb); clear hb hbox hg; have hcz18_0 := bc BK209.out 0; have hcz18_1 := bc BK209.out 1; have hfz18_0 := bf BK209.out 0; have hfz18_1 := bf BK209.out 1))
      have n0_ : Aside0 (((w17.setCell ⟨gb209, 0, none⟩ (.string ((rd_T43 l0 x7_1).f0))).setCell ⟨gb209, 1, none⟩ (.string ((rd_T43 l0 x7_1).f1))).heap[gb209]? = some (.cells #[.string ((rd_T43 l0 x7_1).f0), .string ((rd_T43 l0 x7_1).f1)] 43 (0, 0))) := ⟨b24_⟩
      have n1_ : Aside0 (Below w.heap.size w ((w17.setCell ⟨gb209, 0, none⟩ (.string ((rd_T43 l0 x7_1).f0))).setCell ⟨gb209, 1, none⟩ (.string ((rd_T43 l0 x7_1).f1)))) := ⟨bel1 GE209.out⟩
      (try clear BK209)
      (try clear HB)
      generalize ((w17.setCell ⟨gb209, 0, none⟩ (.string ((rd_T43 l0 x7_1).f0))).setCell ⟨gb209, 1, none⟩ (.string ((rd_T43 l0 x7_1).f1))) = w19 at n0_ n1_ ⊢
      have BK209 := n0_; have HB := n1_; clear n0_ n1_; replace BK209 := am (blk_drew BK209.out); replace HB := am (below_drew1 HB.out)
      have p211 : 0 ≤ ((ji8) : Int) := of_decide_eq_true ad
      have q211 : (ji8) < (l0.length : Int) := of_decide_eq_true ad
      obtain ⟨ad211, e211, hx211_0, hx211_1⟩ := at_T43 HR0.out (ji8) p211 q211; have hw211_1 := hx211_1; have hw211_0 := hx211_0
      obtain rfl : ad208 = ad211 := (by injection e211)
      replace hx211_0 := kp HB.out hx211_0; replace hx211_1 := kp HB.out hx211_1; replace p211 := eq_true p211; replace q211 := eq_true q211
      refine st (n := 18) (S := fun w' => w'.cell? ⟨gb209, 0, none⟩ = some (.string ((rd_T43 l0 x7_1).f0)) ∧ w'.cell? ⟨gb209, 1, none⟩ = some (.string ((rd_T43 l0 x7_1).f1)) ∧ w'.cell? (ad208.add (((ji8)).toNat * 2)) = some (.string ((rd_T43 l0 (ji8)).f0)) ∧ w'.cell? ⟨(ad208.add (((ji8)).toNat * 2)).block, (ad208.add (((ji8)).toNat * 2)).off + 1, none⟩ = some (.string ((rd_T43 l0 (ji8)).f1))) (ds := []) ⟨(blk_cell BK209.out 0).trans rfl, (blk_cell BK209.out 1).trans rfl, (kp HB.out hw211_0), (kp HB.out hw211_1)⟩ (fun hHeld => ?_); refine with_tabW impl_entriesOk.tab4 impl_entriesOk.bits4 (fun HT_ HW_ => ?_)
      generalize w19.drew = w20 at BK209 HB hx211_0 hx211_1 hHeld ⊢
      refine tk4 0 12 hHeld ?_
      refine on1 1 13 (fun K hK => ?_)
      refine goes_ Tryd.func66 (by kernel_rfl) rfl #[.agg #[.string ((rd_T43 l0 x7_1).f0), .string ((rd_T43 l0 x7_1).f1)]] (by rfl) rfl rfl mq ?_
      with_reducible refine (impl_entryOk.calls k1 ((rd_T43 l0 x7_1).f0) ((rd_T43 l0 x7_1).f1) true _ A5.out).mono ?_
      rintro e w21 ⟨rfl, hb⟩
      refine ⟨_, rfl, ?_⟩
      replace BK209 := am (blk_below (g := gb209) (o := .cells #[.string ((rd_T43 l0 x7_1).f0), .string ((rd_T43 l0 x7_1).f1)] 43 (0, 0)) (bq BK209.out) hb); replace HB := am (below_step (bel1 GE209.out) hb)
      (try clear hb)
      (try clear hb2)
      (try clear hk)
      (try clear hi)
      refine hK.out _ _ ⟨(blk_cell BK209.out 0).trans rfl, (blk_cell BK209.out 1).trans rfl, (kp HB.out hw211_0), (kp HB.out hw211_1)⟩ (fun hHeld => ?_)
      clear hK K
      refine norm_ (a' := ?_) ?_ ?_
      rotate_left
      ·show Act.put _ (some 13) _ = _
       simp only [Act.put, List.setIfInBounds_toArray, List.set_cons_zero, List.set_cons_succ, i64_w, i32_w]
       rfl
      refine pu 2 14 ?_
      refine pu 3 15 ?_
      refine pu 4 16 ?_
      refine pu 5 17 ?_
      refine pu 6 18 ?_
      refine pu 7 19 ?_
      refine pu 8 20 ?_
      refine pu 9 21 ?_
      refine pu 10 22 ?_
      refine pu 11 23 ?_
      refine pu 13 25 ?_
      refine tk4 12 24 hHeld ?_
      refine tk4 14 26 hHeld ?_
      refine pu 15 27 ?_
      refine pu 16 28 ?_
      refine pu 17 29 ?_
      refine done_ (done_of HT_.out (by kernel_rfl)) ?_
      try go_wp2
      go_ret
      exact ⟨b86_, bel1 GE209.out⟩
     rw [if_neg c7] at H; have c7b0 := decide_eq_false c7; clear c7
     have H' := am H
     clear H
     have p208 : 0 ≤ (x7_1 : Int) := of_decide_eq_true ad
     have q208 : x7_1 < (l0.length : Int) := of_decide_eq_true ad
     obtain ⟨ad208, e208, hx208_0, hx208_1⟩ := at_T43 HR0.out x7_1 p208 q208
     cases e208
     replace hx208_0 := kp HB.out hx208_0; replace hx208_1 := kp HB.out hx208_1; replace p208 := eq_true p208; replace q208 := eq_true q208
     try go_wp2_with (first | ((with_reducible refine gate_dst (N := 4) rfl ?_); refine bx 4 (cs := #[.string (⟨#[]⟩ : ByteArray), .string (⟨#[]⟩ : ByteArray)]) (t := 43) ?_; intro gb209 hg w22 hbox hb; have BK209 := am (hbox); have GW209 := am ((b19_ : w.heap.size ≤ gb209)); have GE209 := am ((b19_ : w.heap.size ≤ gb209)); replace HB := am (below_step bel hb); clear hb hbox hg; have hcz23_0 := bc BK209.out 0; have hcz23_1 := bc BK209.out 1; have hfz23_0 := bf BK209.out 0; have hfz23_1 := bf BK209.out 1))
     have n0_ : Aside0 (((w22.setCell ⟨gb209, 0, none⟩ (.string ((rd_T43 l0 x7_1).f0))).setCell ⟨gb209, 1, none⟩ (.string ((rd_T43 l0 x7_1).f1))).heap[gb209]? = some (.cells #[.string ((rd_T43 l0 x7_1).f0), .string ((rd_T43 l0 x7_1).f1)] 43 (0, 0))) := ⟨b24_⟩
     have n1_ : Aside0 (Below w.heap.size w ((w22.setCell ⟨gb209, 0, none⟩ (.string ((rd_T43 l0 x7_1).f0))).setCell ⟨gb209, 1, none⟩ (.string ((rd_T43 l0 x7_1).f1)))) := ⟨bel1 GE209.out⟩
     (try clear BK209)
     (try clear HB)
     generalize ((w22.setCell ⟨gb209, 0, none⟩ (.string ((rd_T43 l0 x7_1).f0))).setCell ⟨gb209, 1, none⟩ (.string ((rd_T43 l0 x7_1).f1))) = w24 at n0_ n1_ ⊢
     have BK209 := n0_; have HB := n1_; clear n0_ n1_; replace BK209 := am (blk_drew BK209.out); replace HB := am (below_drew1 HB.out)
     refine st (n := 18) (S := fun w' => w'.cell? ⟨gb209, 0, none⟩ = some (.string ((rd_T43 l0 x7_1).f0)) ∧ w'.cell? ⟨gb209, 1, none⟩ = some (.string ((rd_T43 l0 x7_1).f1))) (ds := []) ⟨(blk_cell BK209.out 0).trans rfl, (blk_cell BK209.out 1).trans rfl⟩ (fun hHeld => ?_); refine with_tabW impl_entriesOk.tab4 impl_entriesOk.bits4 (fun HT_ HW_ => ?_)
     generalize w24.drew = w25 at BK209 HB hHeld ⊢
     refine tk2 0 12 hHeld ?_
     refine on1 1 13 (fun K hK => ?_)
     refine goes_ Tryd.func66 (by kernel_rfl) rfl #[.agg #[.string ((rd_T43 l0 x7_1).f0), .string ((rd_T43 l0 x7_1).f1)]] (by rfl) rfl rfl mq ?_
     with_reducible refine (impl_entryOk.calls k1 ((rd_T43 l0 x7_1).f0) ((rd_T43 l0 x7_1).f1) true _ A5.out).mono ?_
     rintro e w26 ⟨rfl, hb⟩
     refine ⟨_, rfl, ?_⟩
     replace BK209 := am (blk_below (g := gb209) (o := .cells #[.string ((rd_T43 l0 x7_1).f0), .string ((rd_T43 l0 x7_1).f1)] 43 (0, 0)) (bq BK209.out) hb); replace HB := am (below_step (bel1 GE209.out) hb)
     (try clear hb)
     (try clear hb2)
     (try clear hk)
     (try clear hi)
     refine hK.out _ _ ⟨(blk_cell BK209.out 0).trans rfl, (blk_cell BK209.out 1).trans rfl⟩ (fun hHeld => ?_)
     clear hK K
     refine norm_ (a' := ?_) ?_ ?_
     rotate_left
     ·show Act.put _ (some 13) _ = _
      simp only [Act.put, List.setIfInBounds_toArray, List.set_cons_zero, List.set_cons_succ, i64_w, i32_w]
      rfl
     refine pu 2 14 ?_
     refine pu 3 15 ?_
     refine pu 4 16 ?_
     refine pu 5 17 ?_
     refine pu 6 18 ?_
     refine puu 7 19 ?_
     refine puu 8 20 ?_
     refine puu 9 21 ?_
     refine puu 10 22 ?_
     refine puu 11 23 ?_
     refine puu 12 24 ?_
     refine puu 13 25 ?_
     refine puu 14 26 ?_
     refine puu 15 27 ?_
     refine pu 16 28 ?_
     refine pu 17 29 ?_
     refine done_ (done_of HT_.out (by kernel_rfl)) ?_
     try go_wp2
     go_roundg k1
     case measure => have := HK1.out; omega
     case rel => exact ⟨(wrap64 (x7_1 + 1)), sq, H', ⟨b74_⟩, ⟨bel1 GE209.out⟩⟩
    replace c6 := Bool.eq_false_iff.mpr c6; subst c6
    have H1 : (some false) = some r := b22_
    replace H := H1; clear H1
    obtain rfl := Option.some.inj H
    have p208 : 0 ≤ (x7_1 : Int) := of_decide_eq_true ad
    have q208 : x7_1 < (l0.length : Int) := of_decide_eq_true ad
    obtain ⟨ad208, e208, hx208_0, hx208_1⟩ := at_T43 HR0.out x7_1 p208 q208
    cases e208
    replace hx208_0 := kp HB.out hx208_0; replace hx208_1 := kp HB.out hx208_1; replace p208 := eq_true p208; replace q208 := eq_true q208
    try go_wp2_with (first | ((with_reducible refine gate_dst (N := 4) rfl ?_); refine bx 4 (cs := #[.string (⟨#[]⟩ : ByteArray), .string (⟨#[]⟩ : ByteArray)]) (t := 43) ?_; intro gb209 hg w27 hbox hb; have BK209 := am (hbox); have GW209 := am ((b19_ : w.heap.size ≤ gb209)); have GE209 := am ((b19_ : w.heap.size ≤ gb209)); replace HB := am (below_step bel hb); clear hb hbox hg; have hcz28_0 := bc BK209.out 0; have hcz28_1 := bc BK209.out 1; have hfz28_0 := bf BK209.out 0; have hfz28_1 := bf BK209.out 1))
    have n0_ : Aside0 (((w27.setCell ⟨gb209, 0, none⟩ (.string ((rd_T43 l0 x7_1).f0))).setCell ⟨gb209, 1, none⟩ (.string ((rd_T43 l0 x7_1).f1))).heap[gb209]? = some (.cells #[.string ((rd_T43 l0 x7_1).f0), .string ((rd_T43 l0 x7_1).f1)] 43 (0, 0))) := ⟨b24_⟩
    have n1_ : Aside0 (Below w.heap.size w ((w27.setCell ⟨gb209, 0, none⟩ (.string ((rd_T43 l0 x7_1).f0))).setCell ⟨gb209, 1, none⟩ (.string ((rd_T43 l0 x7_1).f1)))) := ⟨bel1 GE209.out⟩
    (try clear BK209)
    (try clear HB)
    generalize ((w27.setCell ⟨gb209, 0, none⟩ (.string ((rd_T43 l0 x7_1).f0))).setCell ⟨gb209, 1, none⟩ (.string ((rd_T43 l0 x7_1).f1))) = w29 at n0_ n1_ ⊢
    have BK209 := n0_; have HB := n1_; clear n0_ n1_; replace BK209 := am (blk_drew BK209.out); replace HB := am (below_drew1 HB.out)
    refine st (n := 18) (S := fun w' => w'.cell? ⟨gb209, 0, none⟩ = some (.string ((rd_T43 l0 x7_1).f0)) ∧ w'.cell? ⟨gb209, 1, none⟩ = some (.string ((rd_T43 l0 x7_1).f1))) (ds := []) ⟨(blk_cell BK209.out 0).trans rfl, (blk_cell BK209.out 1).trans rfl⟩ (fun hHeld => ?_); refine with_tabW impl_entriesOk.tab4 impl_entriesOk.bits4 (fun HT_ HW_ => ?_)
    generalize w29.drew = w30 at BK209 HB hHeld ⊢
    refine tk2 0 12 hHeld ?_
    refine on1 1 13 (fun K hK => ?_)
    refine goes_ Tryd.func66 (by kernel_rfl) rfl #[.agg #[.string ((rd_T43 l0 x7_1).f0), .string ((rd_T43 l0 x7_1).f1)]] (by rfl) rfl rfl mq ?_
    with_reducible refine (impl_entryOk.calls k1 ((rd_T43 l0 x7_1).f0) ((rd_T43 l0 x7_1).f1) false _ A5.out).mono ?_
    rintro e w31 ⟨rfl, hb⟩
    refine ⟨_, rfl, ?_⟩
    replace BK209 := am (blk_below (g := gb209) (o := .cells #[.string ((rd_T43 l0 x7_1).f0), .string ((rd_T43 l0 x7_1).f1)] 43 (0, 0)) (bq BK209.out) hb); replace HB := am (below_step (bel1 GE209.out) hb)
    (try clear hb)
    (try clear hb2)
    (try clear hk)
    (try clear hi)
    refine hK.out _ _ ⟨(blk_cell BK209.out 0).trans rfl, (blk_cell BK209.out 1).trans rfl⟩ (fun hHeld => ?_)
    clear hK K
    refine norm_ (a' := ?_) ?_ ?_
    rotate_left
    ·show Act.put _ (some 13) _ = _
     simp only [Act.put, List.setIfInBounds_toArray, List.set_cons_zero, List.set_cons_succ, i64_w, i32_w]
     rfl
    refine pu 2 14 ?_
    refine pu 3 15 ?_
    refine puu 4 16 ?_
    refine puu 5 17 ?_
    refine puu 6 18 ?_
    refine puu 7 19 ?_
    refine puu 8 20 ?_
    refine puu 9 21 ?_
    refine puu 10 22 ?_
    refine puu 11 23 ?_
    refine puu 12 24 ?_
    refine puu 13 25 ?_
    refine puu 14 26 ?_
    refine puu 15 27 ?_
    refine puu 16 28 ?_
    refine pu 17 29 ?_
    refine done_ (done_of HT_.out (by kernel_rfl)) ?_
    try go_wp2
    go_ret
    exact ⟨eq_, bel1 GE209.out⟩
   rw [if_neg c2] at H; have c2b0 := decide_eq_false c2; clear c2; obtain rfl := Option.some.inj H; go_wp2; go_ret
   exact ⟨eq_, bel⟩

/-! ### impl_BookOk: function 24 -/
def impl_BookOk.f (k : Nat) (l0_0 : List (S40)) (l0_1 : List (S43)) : Option (Bool) := (impl_affixesOk.f k l0_0).bind fun t213 => (if t213 = true then ((impl_entriesOk.f k l0_1).bind fun t214 => (some t214)) else (some false))
theorem impl_BookOk.calls (k : Nat) (A0_0 : Option Addr) (c0_0 : Nat) (l0_0 : List (S40)) (A0_1 : Option Addr) (c0_1 : Nat) (l0_1 : List (S43)) (r : Bool) (w : World) (hr0_0 : Kd.C k40 w A0_0 l0_0.length l0_0) (hc0_0 : l0_0.length ≤ c0_0) (hr0_1 : Kd.C k43 w A0_1 l0_1.length l0_1) (hc0_1 : l0_1.length ≤ c0_1) (h : impl_BookOk.f k l0_0 l0_1 = some r) :
  Calls Tryd.prog 24 #[.agg #[.slice A0_0 l0_0.length c0_0, .slice A0_1 l0_1.length c0_1]] w fun e w' => e = .returned (.bool r) ∧ Below w.heap.size w w' := by
 have hu25 := Tryd.underlying25; have HR0_0 := am hr0_0; have HC0_0 := am hc0_0; clear hr0_0 hc0_0; have HR0_1 := am hr0_1; have HC0_1 := am hc0_1; clear hr0_1 hc0_1; have HB := am (Below.refl w.heap.size w)
 have H : ((impl_affixesOk.f k l0_0).bind fun t213 => (if t213 = true then ((impl_entriesOk.f k l0_1).bind fun t214 => (some t214)) else (some false))) = some r := h
 clear h; replace H := bs H; obtain ⟨t213, A20, H⟩ := H; replace H : (if t213 = true then ((impl_entriesOk.f k l0_1).bind fun t214 => (some t214)) else (some false)) = some r := H; have A2 := Aside0.mk A20; clear A20
 by_cases c3 : t213 = true
 ·subst c3
  have H1 : ((impl_entriesOk.f k l0_1).bind fun t214 => (some t214)) = some r := b47_
  replace H := H1; clear H1
  replace H := bs H; obtain ⟨t214, A40, H⟩ := H; replace H : (some t214) = some r := H; have A4 := Aside0.mk A40; clear A40; obtain rfl := Option.some.inj H; go_enter Tryd.func24, Tryd.ntmps24
  go_wp2_with (first | ((with_reducible refine gate_dst (N := 1) rfl ?_); refine bx 1 (cs := #[.slice A0_0 l0_0.length c0_0, .slice A0_1 l0_1.length c0_1]) (t := 25) ?_; intro gb212 hg w5 hbox hb; have BK212 := am (hbox); have GW212 := am ((b19_ : w.heap.size ≤ gb212)); have GE212 := am ((b19_ : w.heap.size ≤ gb212)); replace HB := am (below_step bel hb); clear hb hbox hg; have hcz6_0 := bc BK212.out 0; have hcz6_1 := bc BK212.out 1; have hfz6_0 := bf BK212.out 0; have hfz6_1 := bf BK212.out 1) | ((with_reducible refine gate_callee (f := 44) rfl ?_); refine goesL_ (some 5) rfl rfl Tryd.func44 (by kernel_rfl) rfl #[.slice A0_0 l0_0.length c0_0] rfl mq ?_; (with_reducible refine (impl_affixesOk.calls k _ _ l0_0 true _ ?side1 ?side2 A2.out).mono ?_); (case side1 => exact cq (Kd.C_below HR0_0.out HB.out)); (case side2 => exact HC0_0.out); rintro e w7 ⟨rfl, hb⟩; refine ⟨_, rfl, ?_⟩; replace BK212 := am (blk_below (g := gb212) (o := .cells #[.slice A0_0 l0_0.length c0_0, .slice A0_1 l0_1.length c0_1] 25 (0, 0)) (bq BK212.out) hb); replace HB := am (below_step (bel1 GE212.out) hb); (try clear hb); (try clear hb2); (try clear hk); (try clear hi); have hcz8_0 := bc BK212.out 0; have hcz8_1 := bc BK212.out 1; have hfz8_0 := bf BK212.out 0; have hfz8_1 := bf BK212.out 1) | (go_at_call 45; (with_reducible refine (impl_entriesOk.calls k _ _ l0_1 t214 _ ?side1 ?side2 A4.out).mono ?_); (case side1 => exact cq (Kd.C_below HR0_1.out HB.out)); (case side2 => exact HC0_1.out); rintro e w9 ⟨rfl, hb⟩; replace BK212 := am (blk_below (g := gb212) (o := .cells #[.slice A0_0 l0_0.length c0_0, .slice A0_1 l0_1.length c0_1] 25 (0, 0)) (bq BK212.out) hb); replace HB := am (below_step (bel1 GE212.out) hb); (try clear hb); (try clear hb2); (try clear hk); (try clear hi)))
  go_ret
  exact ⟨eq_, bel1 GE212.out⟩
 replace c3 := Bool.eq_false_iff.mpr c3; subst c3
 have H1 : (some false) = some r := b22_
 replace H := H1; clear H1
 obtain rfl := Option.some.inj H; go_enter Tryd.func24, Tryd.ntmps24
 go_wp2_with (first | ((with_reducible refine gate_dst (N := 1) rfl ?_); refine bx 1 (cs := #[.slice A0_0 l0_0.length c0_0, .slice A0_1 l0_1.length c0_1]) (t := 25) ?_; intro gb212 hg w10 hbox hb; have BK212 := am (hbox); have GW212 := am ((b19_ : w.heap.size ≤ gb212)); have GE212 := am ((b19_ : w.heap.size ≤ gb212)); replace HB := am (below_step bel hb); clear hb hbox hg; have hcz11_0 := bc BK212.out 0; have hcz11_1 := bc BK212.out 1; have hfz11_0 := bf BK212.out 0; have hfz11_1 := bf BK212.out 1) | ((with_reducible refine gate_callee (f := 44) rfl ?_); refine goesL_ (some 5) rfl rfl Tryd.func44 (by kernel_rfl) rfl #[.slice A0_0 l0_0.length c0_0] rfl mq ?_; (with_reducible refine (impl_affixesOk.calls k _ _ l0_0 false _ ?side1 ?side2 A2.out).mono ?_); (case side1 => exact cq (Kd.C_below HR0_0.out HB.out)); (case side2 => exact HC0_0.out); rintro e w12 ⟨rfl, hb⟩; refine ⟨_, rfl, ?_⟩; replace BK212 := am (blk_below (g := gb212) (o := .cells #[.slice A0_0 l0_0.length c0_0, .slice A0_1 l0_1.length c0_1] 25 (0, 0)) (bq BK212.out) hb); replace HB := am (below_step (bel1 GE212.out) hb); (try clear hb); (try clear hb2); (try clear hk); (try clear hi)))
 go_ret
 exact ⟨eq_, bel1 GE212.out⟩
end Go.Proofs.YtiiefpckcgekgaaDoor.QFnBookText

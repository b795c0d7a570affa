import Derived.Test.YtedfcehhgbeibaaQFnBookKnowsx0
import Derived.Test.YtedfcehhgbeibaaQFnBookKnowsx1
import Derived.Test.YtedfcehhgbeibaaQFnBookKnowsx2
import Derived.Test.YtedfcehhgbeibaaVMSh2
namespace Go.Proofs.Ytedfcehhgbeibaa.QFnBookKnows
open Go.RowKit Go.Proofs.YtedfcehhgbeibaaW.PrintWords Go.Proofs.YtedfcehhgbeibaaW.PrintLast Go.Proofs.YtedfcehhgbeibaaW.PrintMore Go.Proofs.Ytedfcehhgbeibaa.Sh
attribute [local go_sem] max2_int min2_int max_two min_two max_three min_three max_four min_four   -- for this text's walks alone
set_option linter.unusedVariables false
set_option linter.unusedSimpArgs false
-- shrunk

attribute [local go_sem high] eqA44
/-! ### impl_Affix_112: function 112 -/
def impl_Affix_112.l0 : Nat → List (S44) → Int → Int → ByteArray → Bool → ByteArray → ByteArray → ByteArray → Option (Int)
 | 0, _, _, _, _, _, _, _, _ => none
 | k + 1, x0, x7, x8, x114000, x114001, x114002, x114003, x114004 => if x8 < x7 then (if 0 ≤ x8 then (if x8 < (x0.length : Int) then (if (x114000.toList == (((rd_T44 x0 x8).f0).toList) && (x114001 == ((rd_T44 x0 x8).f1) && (x114002.toList == (((rd_T44 x0 x8).f2).toList) && (x114003.toList == (((rd_T44 x0 x8).f3).toList) && (x114004.toList == (((rd_T44 x0 x8).f4).toList)))))) = true then (some x8) else (impl_Affix_112.l0 k x0 x7 (wrap64 (x8 + 1)) x114000 x114001 x114002 x114003 x114004)) else (none)) else (none)) else (some (-1))
def impl_Affix_112.f (k : Nat) (l0 : List (S44)) (a1_0 : ByteArray) (a1_1 : Bool) (a1_2 : ByteArray) (a1_3 : ByteArray) (a1_4 : ByteArray) : Option (Int) := impl_Affix_112.l0 k l0 (l0.length : Int) 0 a1_0 a1_1 a1_2 a1_3 a1_4
theorem impl_Affix_112.mono_l : ∀ k, (∀ y0 y1 y2 y3 y4 y5 y6 y7, LeO (impl_Affix_112.l0 k y0 y1 y2 y3 y4 y5 y6 y7) (impl_Affix_112.l0 (k + 1) y0 y1 y2 y3 y4 y5 y6 y7))
 | 0 => fun _ _ _ _ _ _ _ _ r h => by simp [impl_Affix_112.l0] at h
 | k + 1 => by
  have ih0 := impl_Affix_112.mono_l k
  ·intro y0 y1 y2 y3 y4 y5 y6 y7
   unfold impl_Affix_112.l0
   repeat' first | (with_reducible first | exact ih0 _ _ _ _ _ _ _ _ | exact LeO.refl _ | exact LeO.none _ | refine LeO.ite ?_ ?_ | refine LeO.bind ?_ (fun _ => ?_)) | exact ih0 _ _ _ _ _ _ _ _ | exact LeO.none _ | refine LeO.ite ?_ ?_ | refine LeO.bind ?_ (fun _ => ?_)
theorem impl_Affix_112.mono : ∀ a0 a1 a2 a3 a4 a5 k, LeO (impl_Affix_112.f k a0 a1 a2 a3 a4 a5) (impl_Affix_112.f (k + 1) a0 a1 a2 a3 a4 a5) := by
 intro a0 a1 a2 a3 a4 a5 k; have ih0 := impl_Affix_112.mono_l k
 unfold impl_Affix_112.f
 repeat' first | (with_reducible first | exact ih0 _ _ _ _ _ _ _ _ | exact LeO.refl _ | exact LeO.none _ | refine LeO.ite ?_ ?_ | refine LeO.bind ?_ (fun _ => ?_)) | exact ih0 _ _ _ _ _ _ _ _ | exact LeO.none _ | refine LeO.ite ?_ ?_ | refine LeO.bind ?_ (fun _ => ?_)
set_option maxHeartbeats 8000000 in
set_option maxRecDepth 100000 in
theorem impl_Affix_112.calls (k : Nat) (A0 : Option Addr) (c0 : Nat) (l0 : List (S44)) (a1_0 : ByteArray) (a1_1 : Bool) (a1_2 : ByteArray) (a1_3 : ByteArray) (a1_4 : ByteArray) (r : Int) (w : World) (hr0 : Kd.C k44 w A0 l0.length l0) (hc0 : l0.length ≤ c0) (h : impl_Affix_112.f k l0 a1_0 a1_1 a1_2 a1_3 a1_4 = some r) :
  Calls Try.prog 112 #[.slice A0 l0.length c0, .agg #[.string a1_0, .bool a1_1, .string a1_2, .string a1_3, .string a1_4]] w fun e w' => e = .returned (.int .i64 r) ∧ Below w.heap.size w w' := by
 have hu44 := Try.underlying44; have HR0 := am hr0; have HC0 := am hc0; clear hr0 hc0; have HB := am (Below.refl w.heap.size w)
 have H : (impl_Affix_112.l0 k l0 (l0.length : Int) 0 a1_0 a1_1 a1_2 a1_3 a1_4) = some r := h
 clear h
 have H' := am H
 clear H; go_enter Try.func112, Try.ntmps112
 go_wp2_with (first | ((with_reducible refine gate_dst (N := 3) rfl ?_); refine bx 3 (cs := #[.string a1_0, .bool a1_1, .string a1_2, .string a1_3, .string a1_4]) (t := 44) ?_; intro gb113 hg w3 hbox hb; have BK113 := am (hbox); have GW113 := am ((b15_ : w.heap.size ≤ gb113)); have GE113 := am ((b15_ : w.heap.size ≤ gb113)); replace HB := am (below_step bel hb); clear hb hbox hg))
 repeat (go_quiet (first | ((with_reducible refine gate_dst (N := 3) rfl ?_); refine bx 3 (cs := #[.string a1_0, .bool a1_1, .string a1_2, .string a1_3, .string a1_4]) (t := 44) ?_; intro gb113 hg w3 hbox hb; have BK113 := am (hbox); have GW113 := am ((b15_ : w.heap.size ≤ gb113)); have GE113 := am ((b15_ : w.heap.size ≤ gb113)); replace HB := am (below_step bel hb); clear hb hbox hg)); try go_wp2_with (first | ((with_reducible refine gate_dst (N := 3) rfl ?_); refine bx 3 (cs := #[.string a1_0, .bool a1_1, .string a1_2, .string a1_3, .string a1_4]) (t := 44) ?_; intro gb113 hg w3 hbox hb; have BK113 := am (hbox); have GW113 := am ((b15_ : w.heap.size ≤ gb113)); have GE113 := am ((b15_ : w.heap.size ≤ gb113)); replace HB := am (below_step bel hb); clear hb hbox hg)))
 go_loopg [8] k (fun kq v8 w' => ∃ (x8_1 : Int), v8 = .int .i64 x8_1 ∧ Aside0 (impl_Affix_112.l0 kq l0 (l0.length : Int) x8_1 a1_0 a1_1 a1_2 a1_3 a1_4 = some r) ∧ Aside0 (kq ≤ k) ∧ Aside0 (w'.heap[gb113]? = some (.cells #[.string a1_0, .bool a1_1, .string a1_2, .string a1_3, .string a1_4] 44 (0, 0))) ∧ Aside0 (Below w.heap.size w w'))
 case atStart => exact ⟨(0), sq, H', ⟨Nat.le_refl _⟩, ⟨bq BK113.out⟩, ⟨bel1 GE113.out⟩⟩
 case round =>
  clear H'; (try clear c1); (try clear p2); obtain ⟨x8_1, rfl, HA, HK1, BK113, HB⟩ := hrel
  cases gk with
  | zero => exact absurd HA.out (by simp [impl_Affix_112.l0])
  | succ k1 =>
   have H := HA.out; clear HA
   simp only [impl_Affix_112.l0] at H
   by_cases c4 : x8_1 < (l0.length : Int)
   ·rw [if_pos c4] at H; have c4b0 := decide_eq_true c4; clear c4
    by_cases c5 : 0 ≤ x8_1
    ·rw [if_pos c5] at H; have c5b0 := decide_eq_true c5; clear c5
     by_cases c6 : x8_1 < (l0.length : Int)
     ·rw [if_pos c6] at H; have c6b0 := decide_eq_true c6; clear c6
      by_cases c7 : (a1_0.toList == (((rd_T44 l0 x8_1).f0).toList) && (a1_1 == ((rd_T44 l0 x8_1).f1) && (a1_2.toList == (((rd_T44 l0 x8_1).f2).toList) && (a1_3.toList == (((rd_T44 l0 x8_1).f3).toList) && (a1_4.toList == (((rd_T44 l0 x8_1).f4).toList)))))) = true
      ·rw [if_pos c7] at H
       have c7b0 : (a1_0.toList == (((rd_T44 l0 x8_1).f0).toList) && (a1_1 == ((rd_T44 l0 x8_1).f1) && (a1_2.toList == (((rd_T44 l0 x8_1).f2).toList) && (a1_3.toList == (((rd_T44 l0 x8_1).f3).toList) && (a1_4.toList == (((rd_T44 l0 x8_1).f4).toList)))))) = true := c7
       (try (have c7b1 : decide (a1_0.toList = (((rd_T44 l0 x8_1).f0).toList) && (a1_1 == ((rd_T44 l0 x8_1).f1) && (a1_2.toList == (((rd_T44 l0 x8_1).f2).toList) && (a1_3.toList == (((rd_T44 l0 x8_1).f3).toList) && (a1_4.toList == (((rd_T44 l0 x8_1).f4).toList)))))) = true := by simpa using c7))
       (try (have c7b2 : (a1_0.toList == (((rd_T44 l0 x8_1).f0).toList) && (a1_1 == ((rd_T44 l0 x8_1).f1) && (a1_2.toList == (((rd_T44 l0 x8_1).f2).toList) && (a1_3.toList == (((rd_T44 l0 x8_1).f3).toList) && (a1_4.toList == (((rd_T44 l0 x8_1).f4).toList)))))) = true := by simpa using c7))
       clear c7; obtain rfl := Option.some.inj H; have hcz8_0 := bc BK113.out 0; have hcz8_1 := bc BK113.out 1; have hcz8_2 := bc BK113.out 2; have hcz8_3 := bc BK113.out 3; have hcz8_4 := bc BK113.out 4; have hfz8_0 := bf BK113.out 0; have hfz8_1 := bf BK113.out 1; have hfz8_2 := bf BK113.out 2; have hfz8_3 := bf BK113.out 3; have hfz8_4 := bf BK113.out 4
       have p114 : 0 ≤ (x8_1 : Int) := of_decide_eq_true ad
       have q114 : x8_1 < (l0.length : Int) := of_decide_eq_true ad
       obtain ⟨ad114, e114, hx114_0, hx114_1, hx114_2, hx114_3, hx114_4⟩ := at_T44 HR0.out x8_1 p114 q114
       cases e114
       replace hx114_0 := kp HB.out hx114_0; replace hx114_1 := kp HB.out hx114_1; replace hx114_2 := kp HB.out hx114_2; replace hx114_3 := kp HB.out hx114_3; replace hx114_4 := kp HB.out hx114_4; replace p114 := eq_true p114; replace q114 := eq_true q114; go_wp2
       repeat (go_quiet (fail); try go_wp2)
       go_ret
       exact ⟨eq_, bel1 GE113.out⟩
      ·rw [if_neg c7] at H
       have c7b0 : (a1_0.toList == (((rd_T44 l0 x8_1).f0).toList) && (a1_1 == ((rd_T44 l0 x8_1).f1) && (a1_2.toList == (((rd_T44 l0 x8_1).f2).toList) && (a1_3.toList == (((rd_T44 l0 x8_1).f3).toList) && (a1_4.toList == (((rd_T44 l0 x8_1).f4).toList)))))) = false := by simpa using c7
       (try (have c7b1 : decide (a1_0.toList = (((rd_T44 l0 x8_1).f0).toList) && (a1_1 == ((rd_T44 l0 x8_1).f1) && (a1_2.toList == (((rd_T44 l0 x8_1).f2).toList) && (a1_3.toList == (((rd_T44 l0 x8_1).f3).toList) && (a1_4.toList == (((rd_T44 l0 x8_1).f4).toList)))))) = false := by simpa using c7))
       (try (have c7b2 : (a1_0.toList == (((rd_T44 l0 x8_1).f0).toList) && (a1_1 == ((rd_T44 l0 x8_1).f1) && (a1_2.toList == (((rd_T44 l0 x8_1).f2).toList) && (a1_3.toList == (((rd_T44 l0 x8_1).f3).toList) && (a1_4.toList == (((rd_T44 l0 x8_1).f4).toList)))))) = false := by simpa using c7))
       (try (have c7b3 : ¬ (a1_0.toList = (((rd_T44 l0 x8_1).f0).toList) && (a1_1 == ((rd_T44 l0 x8_1).f1) && (a1_2.toList == (((rd_T44 l0 x8_1).f2).toList) && (a1_3.toList == (((rd_T44 l0 x8_1).f3).toList) && (a1_4.toList == (((rd_T44 l0 x8_1).f4).toList)))))) := by simpa using c7))
       clear c7
       have H' := am H
       clear H; have hcz9_0 := bc BK113.out 0; have hcz9_1 := bc BK113.out 1; have hcz9_2 := bc BK113.out 2; have hcz9_3 := bc BK113.out 3; have hcz9_4 := bc BK113.out 4; have hfz9_0 := bf BK113.out 0; have hfz9_1 := bf BK113.out 1; have hfz9_2 := bf BK113.out 2; have hfz9_3 := bf BK113.out 3; have hfz9_4 := bf BK113.out 4
       have p114 : 0 ≤ (x8_1 : Int) := of_decide_eq_true ad
       have q114 : x8_1 < (l0.length : Int) := of_decide_eq_true ad
       obtain ⟨ad114, e114, hx114_0, hx114_1, hx114_2, hx114_3, hx114_4⟩ := at_T44 HR0.out x8_1 p114 q114
       cases e114
       replace hx114_0 := kp HB.out hx114_0; replace hx114_1 := kp HB.out hx114_1; replace hx114_2 := kp HB.out hx114_2; replace hx114_3 := kp HB.out hx114_3; replace hx114_4 := kp HB.out hx114_4; replace p114 := eq_true p114; replace q114 := eq_true q114; go_wp2
       repeat (go_quiet (fail); try go_wp2)
       go_roundg k1
       case measure => have := HK1.out; omega
       case rel => exact ⟨(wrap64 (x8_1 + 1)), sq, H', ⟨b62_⟩, ⟨bq BK113.out⟩, ⟨bel1 GE113.out⟩⟩
     ·rw [if_neg c6] at H
      exact absurd H (by simp)
    ·rw [if_neg c5] at H
     exact absurd H (by simp)
   ·rw [if_neg c4] at H; have c4b0 := decide_eq_false c4; clear c4; obtain rfl := Option.some.inj H; go_wp2
    repeat (go_quiet (fail); try go_wp2)
    go_ret
    exact ⟨eq_, bel1 GE113.out⟩

/-! ### impl_Affix_92: function 92 -/
def impl_Affix_92.f (k : Nat) (l0 : List (S44)) (a1_0 : ByteArray) (a1_1 : Bool) (a1_2 : ByteArray) (a1_3 : ByteArray) (a1_4 : ByteArray) : Option (Bool) := (impl_Affix_112.f k l0 a1_0 a1_1 a1_2 a1_3 a1_4).bind fun t116 => (some (decide (t116 ≥ 0)))
theorem impl_Affix_92.mono : ∀ a0 a1 a2 a3 a4 a5 k, LeO (impl_Affix_92.f k a0 a1 a2 a3 a4 a5) (impl_Affix_92.f (k + 1) a0 a1 a2 a3 a4 a5) := by
 intro a0 a1 a2 a3 a4 a5 k
 unfold impl_Affix_92.f
 repeat' first | (with_reducible first | exact impl_Affix_112.mono _ _ _ _ _ _ _ | exact LeO.refl _ | exact LeO.none _ | refine LeO.ite ?_ ?_ | refine LeO.bind ?_ (fun _ => ?_)) | exact impl_Affix_112.mono _ _ _ _ _ _ _ | exact LeO.none _ | refine LeO.ite ?_ ?_ | refine LeO.bind ?_ (fun _ => ?_)
set_option maxHeartbeats 8000000 in
set_option maxRecDepth 100000 in
theorem impl_Affix_92.calls (k : Nat) (A0 : Option Addr) (c0 : Nat) (l0 : List (S44)) (a1_0 : ByteArray) (a1_1 : Bool) (a1_2 : ByteArray) (a1_3 : ByteArray) (a1_4 : ByteArray) (r : Bool) (w : World) (hr0 : Kd.C k44 w A0 l0.length l0) (hc0 : l0.length ≤ c0) (h : impl_Affix_92.f k l0 a1_0 a1_1 a1_2 a1_3 a1_4 = some r) :
  Calls Try.prog 92 #[.slice A0 l0.length c0, .agg #[.string a1_0, .bool a1_1, .string a1_2, .string a1_3, .string a1_4]] w fun e w' => e = .returned (.bool r) ∧ Below w.heap.size w w' := by
 have hu44 := Try.underlying44; have HR0 := am hr0; have HC0 := am hc0; clear hr0 hc0; have HB := am (Below.refl w.heap.size w)
 have H : ((impl_Affix_112.f k l0 a1_0 a1_1 a1_2 a1_3 a1_4).bind fun t116 => (some (decide (t116 ≥ 0)))) = some r := h
 clear h; replace H := Option.bind_eq_some_iff.mp H; obtain ⟨t116, A30, H⟩ := H; replace H : (some (decide (t116 ≥ 0))) = some r := H; have A3 := Aside0.mk A30; clear A30; obtain rfl := Option.some.inj H; go_enter Try.func92, Try.ntmps92
 go_wp2_with (first | ((with_reducible refine gate_dst (N := 3) rfl ?_); refine bx 3 (cs := #[.string a1_0, .bool a1_1, .string a1_2, .string a1_3, .string a1_4]) (t := 44) ?_; intro gb115 hg w4 hbox hb; have BK115 := am (hbox); have GW115 := am ((b15_ : w.heap.size ≤ gb115)); have GE115 := am ((b15_ : w.heap.size ≤ gb115)); replace HB := am (below_step bel hb); clear hb hbox hg; have hcz5_0 := bc BK115.out 0; have hcz5_1 := bc BK115.out 1; have hcz5_2 := bc BK115.out 2; have hcz5_3 := bc BK115.out 3; have hcz5_4 := bc BK115.out 4; have hfz5_0 := bf BK115.out 0; have hfz5_1 := bf BK115.out 1; have hfz5_2 := bf BK115.out 2; have hfz5_3 := bf BK115.out 3; have hfz5_4 := bf BK115.out 4) | ((with_reducible refine gate_callee (f := 112) rfl ?_); refine goesL_ (some 7) rfl rfl Try.func112 (by kernel_rfl) rfl #[.slice A0 l0.length c0, .agg #[.string a1_0, .bool a1_1, .string a1_2, .string a1_3, .string a1_4]] rfl mq ?_; (with_reducible refine (impl_Affix_112.calls k _ _ l0 a1_0 a1_1 a1_2 a1_3 a1_4 t116 _ ?side1 ?side2 A3.out).mono ?_); (case side1 => exact cq (Kd.C_below HR0.out HB.out)); (case side2 => exact HC0.out); rintro e w6 ⟨rfl, hb⟩; refine ⟨_, rfl, ?_⟩; replace BK115 := am (blk_below (g := gb115) (o := .cells #[.string a1_0, .bool a1_1, .string a1_2, .string a1_3, .string a1_4] 44 (0, 0)) (bq BK115.out) hb); replace HB := am (below_step (bel1 GE115.out) hb); (try clear hb); (try clear hb2); (try clear hk); (try clear hi)))
 go_ret
 exact ⟨eq_, bel1 GE115.out⟩

/-! ### impl_affixesOk: function 57 -/
def impl_affixesOk.l0 : Nat → List (S44) → List (S44) → Int → Int → Option (Bool)
 | 0, _, _, _, _ => none
 | k + 1, x0, x5, x6, x7 => if x7 < x6 then (if 0 ≤ x7 then (if x7 < (x5.length : Int) then ((impl_AffixOk.f k ((rd_T44 x5 x7).f0) ((rd_T44 x5 x7).f1) ((rd_T44 x5 x7).f2) ((rd_T44 x5 x7).f3) ((rd_T44 x5 x7).f4)).bind fun t119 => (if t119 = true then (if x7 ≤ (x0.length : Int) then ((impl_Affix_92.f k (x0.take (x7 : Int).toNat) ((rd_T44 x5 x7).f0) ((rd_T44 x5 x7).f1) ((rd_T44 x5 x7).f2) ((rd_T44 x5 x7).f3) ((rd_T44 x5 x7).f4)).bind fun t124 => (if t124 = true then (some false) else (impl_affixesOk.l0 k x0 x5 x6 (wrap64 (x7 + 1))))) else (none)) else (some false))) else (none)) else (none)) else (some (decide ((x0.length : Int) ≤ 8)))
def impl_affixesOk.f (k : Nat) (l0 : List (S44)) : Option (Bool) := impl_affixesOk.l0 k l0 l0 (l0.length : Int) 0
theorem impl_affixesOk.mono_l : ∀ k, (∀ y0 y1 y2 y3, LeO (impl_affixesOk.l0 k y0 y1 y2 y3) (impl_affixesOk.l0 (k + 1) y0 y1 y2 y3))
 | 0 => fun _ _ _ _ r h => by simp [impl_affixesOk.l0] at h
 | k + 1 => by
  have ih0 := impl_affixesOk.mono_l k
  ·intro y0 y1 y2 y3
   unfold impl_affixesOk.l0
   repeat' first | (with_reducible first | exact ih0 _ _ _ _ | exact impl_AffixOk.mono _ _ _ _ _ _ | exact impl_Affix_92.mono _ _ _ _ _ _ _ | exact LeO.refl _ | exact LeO.none _ | refine LeO.ite ?_ ?_ | refine LeO.bind ?_ (fun _ => ?_)) | exact ih0 _ _ _ _ | exact impl_AffixOk.mono _ _ _ _ _ _ | exact impl_Affix_92.mono _ _ _ _ _ _ _ | exact LeO.none _ | refine LeO.ite ?_ ?_ | refine LeO.bind ?_ (fun _ => ?_)
theorem impl_affixesOk.mono : ∀ a0 k, LeO (impl_affixesOk.f k a0) (impl_affixesOk.f (k + 1) a0) := by
 intro a0 k; have ih0 := impl_affixesOk.mono_l k
 unfold impl_affixesOk.f
 repeat' first | (with_reducible first | exact ih0 _ _ _ _ | exact impl_AffixOk.mono _ _ _ _ _ _ | exact impl_Affix_92.mono _ _ _ _ _ _ _ | exact LeO.refl _ | exact LeO.none _ | refine LeO.ite ?_ ?_ | refine LeO.bind ?_ (fun _ => ?_)) | exact ih0 _ _ _ _ | exact impl_AffixOk.mono _ _ _ _ _ _ | exact impl_Affix_92.mono _ _ _ _ _ _ _ | exact LeO.none _ | refine LeO.ite ?_ ?_ | refine LeO.bind ?_ (fun _ => ?_)
def impl_affixesOk.T4 : Bool × List (List Nat × List Nat) := (true, [([], []), ([0], [0]), ([1], [1]), ([2, 1], [2]), ([3], [3]), ([3], [3]), ([4, 5, 3], [3, 4, 5]), ([3], [3]), ([6, 7, 3, 3], [3, 6, 7]), ([3, 8], [3, 8])])
def impl_affixesOk.B4 : List Nat := [0, 1, 3, 7, 15, 15, 63, 15, 255, 511]
theorem impl_affixesOk.tab4 : rtab .any (opsOf Try.f57 4) = impl_affixesOk.T4 := by kernel_rfl
theorem impl_affixesOk.bits4 : waitsOk impl_affixesOk.T4.2 impl_affixesOk.B4 = true := by kernel_rfl
set_option maxHeartbeats 8000000 in
set_option maxRecDepth 100000 in
theorem impl_affixesOk.calls (k : Nat) (A0 : Option Addr) (c0 : Nat) (l0 : List (S44)) (r : Bool) (w : World) (hr0 : Kd.C k44 w A0 l0.length l0) (hc0 : l0.length ≤ c0) (h : impl_affixesOk.f k l0 = some r) :
  Calls Try.prog 57 #[.slice A0 l0.length c0] w fun e w' => e = .returned (.bool r) ∧ Below w.heap.size w w' := by
 have hu44 := Try.underlying44; have HR0 := am hr0; have HC0 := am hc0; clear hr0 hc0; have HB := am (Below.refl w.heap.size w)
 have H : (impl_affixesOk.l0 k l0 l0 (l0.length : Int) 0) = some r := h
 clear h
 have H' := am H
 clear H; go_enter Try.func57, Try.ntmps57; go_wp2
 go_loopg [7] k (fun kq v7 w' => ∃ (x7_1 : Int), v7 = .int .i64 x7_1 ∧ Aside0 (impl_affixesOk.l0 kq l0 l0 (l0.length : Int) x7_1 = some r) ∧ Aside0 (kq ≤ k) ∧ Aside0 (Below w.heap.size w w'))
 case atStart => exact ⟨(0), sq, H', ⟨Nat.le_refl _⟩, ⟨bel⟩⟩
 case round =>
  clear H'; obtain ⟨x7_1, rfl, HA, HK1, HB⟩ := hrel
  cases gk with
  | zero => exact absurd HA.out (by simp [impl_affixesOk.l0])
  | succ k1 =>
   have H := HA.out; clear HA
   simp only [impl_affixesOk.l0] at H
   by_cases c2 : x7_1 < (l0.length : Int)
   ·rw [if_pos c2] at H; have c2b0 := decide_eq_true c2; clear c2
    by_cases c3 : 0 ≤ x7_1
    ·rw [if_pos c3] at H; have c3b0 := decide_eq_true c3; clear c3
     by_cases c4 : x7_1 < (l0.length : Int)
     ·rw [if_pos c4] at H; have c4b0 := decide_eq_true c4; clear c4; replace H := Option.bind_eq_some_iff.mp H; obtain ⟨t119, A50, H⟩ := H; replace H : (if t119 = true then (if x7_1 ≤ (l0.length : Int) then ((impl_Affix_92.f k1 (l0.take (x7_1 : Int).toNat) ((rd_T44 l0 x7_1).f0) ((rd_T44 l0 x7_1).f1) ((rd_T44 l0 x7_1).f2) ((rd_T44 l0 x7_1).f3) ((rd_T44 l0 x7_1).f4)).bind fun t124 => (if t124 = true then (some false) else (impl_affixesOk.l0 k1 l0 l0 (l0.length : Int) (wrap64 (x7_1 + 1))))) else (none)) else (some false)) = some r := H; have A5 := Aside0.mk A50; clear A50
      by_cases c6 : t119 = true
      ·subst c6
       have H1 : (if x7_1 ≤ (l0.length : Int) then ((impl_Affix_92.f k1 (l0.take (x7_1 : Int).toNat) ((rd_T44 l0 x7_1).f0) ((rd_T44 l0 x7_1).f1) ((rd_T44 l0 x7_1).f2) ((rd_T44 l0 x7_1).f3) ((rd_T44 l0 x7_1).f4)).bind fun t124 => (if t124 = true then (some false) else (impl_affixesOk.l0 k1 l0 l0 (l0.length : Int) (wrap64 (x7_1 + 1))))) else (none)) = some r := b34_
       replace H := H1; clear H1
       have c7b0 := eq_true (of_decide_eq_true ad : 0 ≤ x7_1)
       by_cases c8 : x7_1 ≤ (l0.length : Int)
       ·rw [if_pos c8] at H; have c8b0 := eq_true c8
        have c8b1 : decide (x7_1 ≤ (l0.length : Int)) = true := decide_eq_true c8
        clear c8; obtain ⟨y120, hy120⟩ : ∃ y_ : List (S44), y_ = (l0.take (x7_1 : Int).toNat) := ⟨_, rfl⟩
        replace H : ((impl_Affix_92.f k1 y120 ((rd_T44 l0 x7_1).f0) ((rd_T44 l0 x7_1).f1) ((rd_T44 l0 x7_1).f2) ((rd_T44 l0 x7_1).f3) ((rd_T44 l0 x7_1).f4)).bind fun t124 => (if t124 = true then (some false) else (impl_affixesOk.l0 k1 l0 l0 (l0.length : Int) (wrap64 (x7_1 + 1))))) = some r := by first | (rw [hy120]; with_reducible exact H) | (have H2_ := (Option.bind_some _ _).symm.trans H; rw [hy120]; with_reducible exact H2_) | (have H2_ := (Option.bind_some _ _).symm.trans H; with_reducible exact H2_) | with_reducible exact H | (rw [hy120]; exact H) | exact H
        have Ny120 := am hy120; clear hy120; replace H := Option.bind_eq_some_iff.mp H; obtain ⟨t124, A90, H⟩ := H; replace H : (if t124 = true then (some false) else (impl_affixesOk.l0 k1 l0 l0 (l0.length : Int) (wrap64 (x7_1 + 1)))) = some r := H; have A9 := Aside0.mk A90; clear A90
        by_cases c10 : t124 = true
        ·subst c10
         have H1 : (some false) = some r := b34_
         replace H := H1; clear H1
         obtain rfl := Option.some.inj H
         have p117 : 0 ≤ (x7_1 : Int) := of_decide_eq_true ad
         have q117 : x7_1 < (l0.length : Int) := of_decide_eq_true ad
         obtain ⟨ad117, e117, hx117_0, hx117_1, hx117_2, hx117_3, hx117_4⟩ := at_T44 HR0.out x7_1 p117 q117
         cases e117
         replace hx117_0 := kp HB.out hx117_0; replace hx117_1 := kp HB.out hx117_1; replace hx117_2 := kp HB.out hx117_2; replace hx117_3 := kp HB.out hx117_3; replace hx117_4 := kp HB.out hx117_4; replace p117 := eq_true p117; replace q117 := eq_true q117
         try go_wp2_with (first | ((with_reducible refine gate_dst (N := 4) rfl ?_); refine bx 4 (cs := #[.string (⟨#[]⟩ : ByteArray), .bool false, .string (⟨#[]⟩ : ByteArray), .string (⟨#[]⟩ : ByteArray), .string (⟨#[]⟩ : ByteArray)]) (t := 44) ?_; intro gb118 hg w11 hbox hb; have BK118 := am (hbox); have GW118 := am ((b15_ : w.heap.size ≤ gb118)); have GE118 := am ((b15_ : w.heap.size ≤ gb118)); replace HB := am (below_step bel hb); clear hb hbox hg; have hcz12_0 := bc BK118.out 0; have hcz12_1 := bc BK118.out 1; have hcz12_2 := bc BK118.out 2; have hcz12_3 := bc BK118.out 3; have hcz12_4 := bc BK118.out 4; have hfz12_0 := bf BK118.out 0; have hfz12_1 := bf BK118.out 1; have hfz12_2 := bf BK118.out 2; have hfz12_3 := bf BK118.out 3; have hfz12_4 := bf BK118.out 4))
         have n0_ : Aside0 ((((((w11.setCell ⟨gb118, 0, none⟩ (.string ((rd_T44 l0 x7_1).f0))).setCell ⟨gb118, 1, none⟩ (.bool ((rd_T44 l0 x7_1).f1))).setCell ⟨gb118, 2, none⟩ (.string ((rd_T44 l0 x7_1).f2))).setCell ⟨gb118, 3, none⟩ (.string ((rd_T44 l0 x7_1).f3))).setCell ⟨gb118, 4, none⟩ (.string ((rd_T44 l0 x7_1).f4))).heap[gb118]? = some (.cells #[.string ((rd_T44 l0 x7_1).f0), .bool ((rd_T44 l0 x7_1).f1), .string ((rd_T44 l0 x7_1).f2), .string ((rd_T44 l0 x7_1).f3), .string ((rd_T44 l0 x7_1).f4)] 44 (0, 0))) := ⟨b8_⟩
         have n1_ : Aside0 (Below w.heap.size w (((((w11.setCell ⟨gb118, 0, none⟩ (.string ((rd_T44 l0 x7_1).f0))).setCell ⟨gb118, 1, none⟩ (.bool ((rd_T44 l0 x7_1).f1))).setCell ⟨gb118, 2, none⟩ (.string ((rd_T44 l0 x7_1).f2))).setCell ⟨gb118, 3, none⟩ (.string ((rd_T44 l0 x7_1).f3))).setCell ⟨gb118, 4, none⟩ (.string ((rd_T44 l0 x7_1).f4)))) := ⟨bel1 GE118.out⟩
         (try clear BK118)
         (try clear HB)
         generalize (((((w11.setCell ⟨gb118, 0, none⟩ (.string ((rd_T44 l0 x7_1).f0))).setCell ⟨gb118, 1, none⟩ (.bool ((rd_T44 l0 x7_1).f1))).setCell ⟨gb118, 2, none⟩ (.string ((rd_T44 l0 x7_1).f2))).setCell ⟨gb118, 3, none⟩ (.string ((rd_T44 l0 x7_1).f3))).setCell ⟨gb118, 4, none⟩ (.string ((rd_T44 l0 x7_1).f4))) = w13 at n0_ n1_ ⊢
         have BK118 := n0_; have HB := n1_; clear n0_ n1_; replace BK118 := am (blk_drew BK118.out); replace HB := am (below_drew1 HB.out)
         refine st (n := 10) (S := fun w' => w'.cell? ⟨gb118, 0, none⟩ = some (.string ((rd_T44 l0 x7_1).f0)) ∧ w'.cell? ⟨gb118, 1, none⟩ = some (.bool ((rd_T44 l0 x7_1).f1)) ∧ w'.cell? ⟨gb118, 2, none⟩ = some (.string ((rd_T44 l0 x7_1).f2)) ∧ w'.cell? ⟨gb118, 3, none⟩ = some (.string ((rd_T44 l0 x7_1).f3)) ∧ w'.cell? ⟨gb118, 4, none⟩ = some (.string ((rd_T44 l0 x7_1).f4))) (ds := []) ⟨(blk_cell BK118.out 0).trans rfl, (blk_cell BK118.out 1).trans rfl, (blk_cell BK118.out 2).trans rfl, (blk_cell BK118.out 3).trans rfl, (blk_cell BK118.out 4).trans rfl⟩ (fun hHeld => ?_); refine with_tabW impl_affixesOk.tab4 impl_affixesOk.bits4 (fun HT_ HW_ => ?_)
         generalize w13.drew = w14 at BK118 HB hHeld ⊢
         refine tk5 0 12 hHeld ?_
         refine on1 1 13 (fun K hK => ?_)
         refine goes_ Try.func69 (by kernel_rfl) rfl #[.agg #[.string ((rd_T44 l0 x7_1).f0), .bool ((rd_T44 l0 x7_1).f1), .string ((rd_T44 l0 x7_1).f2), .string ((rd_T44 l0 x7_1).f3), .string ((rd_T44 l0 x7_1).f4)]] (by rfl) rfl rfl mq ?_
         with_reducible refine (impl_AffixOk.calls k1 ((rd_T44 l0 x7_1).f0) ((rd_T44 l0 x7_1).f1) ((rd_T44 l0 x7_1).f2) ((rd_T44 l0 x7_1).f3) ((rd_T44 l0 x7_1).f4) true _ A5.out).mono ?_
         rintro e w15 ⟨rfl, hb⟩
         refine ⟨_, rfl, ?_⟩
         replace BK118 := am (blk_below (g := gb118) (o := .cells #[.string ((rd_T44 l0 x7_1).f0), .bool ((rd_T44 l0 x7_1).f1), .string ((rd_T44 l0 x7_1).f2), .string ((rd_T44 l0 x7_1).f3), .string ((rd_T44 l0 x7_1).f4)] 44 (0, 0)) (bq BK118.out) hb); replace HB := am (below_step (bel1 GE118.out) hb)
         (try clear hb)
         (try clear hb2)
         (try clear hk)
         (try clear hi)
         have q16 : (x7_1 : Int) ≤ ((l0.length : Int) : Int) := of_decide_eq_true ad
         obtain ⟨i016, hi016, _, hsz16, _⟩ := info_parts info44
         have hroom16 : l0.length ≤ c0 := HC0.out
         have hC16 : Kd.C k44 _ (some ad117) l0.length l0 := HR0.out
         have hcut16 := cut_to (P := Try.prog) 29 44 .i64 Try.underlying29 hi016 (some ad117) l0.length c0 x7_1 (of_decide_eq_true ad) q16 hroom16
         have hr16 := Kd.C_take (m := (x7_1 : Int).toNat) hC16 (by omega)
         have hy16 : y120.length = (x7_1 : Int).toNat := (by rw [Ny120.out, List.length_take]; omega)
         rw [← Ny120.out] at hr16; rw [← hy16] at hcut16; have HR123 := am hr16
         have HC123 := am (show y120.length ≤ c0 from by omega)
         clear hr16 hC16 hroom16 hi016 hsz16; have KY16 := am hy16; clear hy16; replace q16 := eq_true q16
         refine hK.out _ _ ⟨(blk_cell BK118.out 0).trans rfl, (blk_cell BK118.out 1).trans rfl, (blk_cell BK118.out 2).trans rfl, (blk_cell BK118.out 3).trans rfl, (blk_cell BK118.out 4).trans rfl⟩ (fun hHeld => ?_)
         clear hK K
         refine norm_ (a' := ?_) ?_ ?_
         rotate_left
         ·show Act.put _ (some 13) _ = _
          simp only [Act.put, List.setIfInBounds_toArray, List.set_cons_zero, List.set_cons_succ, i64_w, i32_w]
          rfl
         refine pu 2 14 ?_
         refine pu 3 15 ?_
         refine pu 4 16 ?_
         refine pu 5 17 ?_
         refine pu 6 18 ?_
         refine tk5 7 19 hHeld ?_
         refine on1 8 20 (fun K hK => ?_)
         refine goes_ Try.func92 (by kernel_rfl) rfl #[.slice (some ad117) y120.length c0, .agg #[.string ((rd_T44 l0 x7_1).f0), .bool ((rd_T44 l0 x7_1).f1), .string ((rd_T44 l0 x7_1).f2), .string ((rd_T44 l0 x7_1).f3), .string ((rd_T44 l0 x7_1).f4)]] (by rfl) rfl rfl mq ?_
         with_reducible refine (impl_Affix_92.calls k1 _ _ y120 ((rd_T44 l0 x7_1).f0) ((rd_T44 l0 x7_1).f1) ((rd_T44 l0 x7_1).f2) ((rd_T44 l0 x7_1).f3) ((rd_T44 l0 x7_1).f4) true _ ?side1 ?side2 A9.out).mono ?_
         (case side1 => exact cq (Kd.C_below HR123.out HB.out)); (case side2 => exact HC123.out)
         rintro e w17 ⟨rfl, hb⟩
         refine ⟨_, rfl, ?_⟩
         replace BK118 := am (blk_below (g := gb118) (o := .cells #[.string ((rd_T44 l0 x7_1).f0), .bool ((rd_T44 l0 x7_1).f1), .string ((rd_T44 l0 x7_1).f2), .string ((rd_T44 l0 x7_1).f3), .string ((rd_T44 l0 x7_1).f4)] 44 (0, 0)) (bq BK118.out) hb); replace HB := am (below_step (bel1 GE118.out) hb)
         (try clear hb)
         (try clear hb2)
         (try clear hk)
         (try clear hi)
         refine hK.out _ _ ⟨(blk_cell BK118.out 0).trans rfl, (blk_cell BK118.out 1).trans rfl, (blk_cell BK118.out 2).trans rfl, (blk_cell BK118.out 3).trans rfl, (blk_cell BK118.out 4).trans rfl⟩ (fun hHeld => ?_)
         clear hK K
         refine norm_ (a' := ?_) ?_ ?_
         rotate_left
         ·show Act.put _ (some 20) _ = _
          simp only [Act.put, List.setIfInBounds_toArray, List.set_cons_zero, List.set_cons_succ, i64_w, i32_w]
          rfl
         refine pu 9 21 ?_
         refine done_ (done_of HT_.out (by kernel_rfl)) ?_
         try go_wp2
         go_ret
         exact ⟨eq_, bel1 GE118.out⟩
        ·replace c10 := Bool.eq_false_iff.mpr c10; subst c10
         have H1 : (impl_affixesOk.l0 k1 l0 l0 (l0.length : Int) (wrap64 (x7_1 + 1))) = some r := b19_
         replace H := H1; clear H1
         have H' := am H
         clear H
         have p117 : 0 ≤ (x7_1 : Int) := of_decide_eq_true ad
         have q117 : x7_1 < (l0.length : Int) := of_decide_eq_true ad
         obtain ⟨ad117, e117, hx117_0, hx117_1, hx117_2, hx117_3, hx117_4⟩ := at_T44 HR0.out x7_1 p117 q117
         cases e117
         replace hx117_0 := kp HB.out hx117_0; replace hx117_1 := kp HB.out hx117_1; replace hx117_2 := kp HB.out hx117_2; replace hx117_3 := kp HB.out hx117_3; replace hx117_4 := kp HB.out hx117_4; replace p117 := eq_true p117; replace q117 := eq_true q117
         try go_wp2_with (first | ((with_reducible refine gate_dst (N := 4) rfl ?_); refine bx 4 (cs := #[.string (⟨#[]⟩ : ByteArray), .bool false, .string (⟨#[]⟩ : ByteArray), .string (⟨#[]⟩ : ByteArray), .string (⟨#[]⟩ : ByteArray)]) (t := 44) ?_; intro gb118 hg w18 hbox hb; have BK118 := am (hbox); have GW118 := am ((b15_ : w.heap.size ≤ gb118)); have GE118 := am ((b15_ : w.heap.size ≤ gb118)); replace HB := am (below_step bel hb); clear hb hbox hg; have hcz19_0 := bc BK118.out 0; have hcz19_1 := bc BK118.out 1; have hcz19_2 := bc BK118.out 2; have hcz19_3 := bc BK118.out 3; have hcz19_4 := bc BK118.out 4; have hfz19_0 := bf BK118.out 0; have hfz19_1 := bf BK118.out 1; have hfz19_2 := bf BK118.out 2; have hfz19_3 := bf BK118.out 3; have hfz19_4 := bf BK118.out 4))
         have n0_ : Aside0 ((((((w18.setCell ⟨gb118, 0, none⟩ (.string ((rd_T44 l0 x7_1).f0))).setCell ⟨gb118, 1, none⟩ (.bool ((rd_T44 l0 x7_1).f1))).setCell ⟨gb118, 2, none⟩ (.string ((rd_T44 l0 x7_1).f2))).setCell ⟨gb118, 3, none⟩ (.string ((rd_T44 l0 x7_1).f3))).setCell ⟨gb118, 4, none⟩ (.string ((rd_T44 l0 x7_1).f4))).heap[gb118]? = some (.cells #[.string ((rd_T44 l0 x7_1).f0), .bool ((rd_T44 l0 x7_1).f1), .string ((rd_T44 l0 x7_1).f2), .string ((rd_T44 l0 x7_1).f3), .string ((rd_T44 l0 x7_1).f4)] 44 (0, 0))) := ⟨b8_⟩
         have n1_ : Aside0 (Below w.heap.size w (((((w18.setCell ⟨gb118, 0, none⟩ (.string ((rd_T44 l0 x7_1).f0))).setCell ⟨gb118, 1, none⟩ (.bool ((rd_T44 l0 x7_1).f1))).setCell ⟨gb118, 2, none⟩ (.string ((rd_T44 l0 x7_1).f2))).setCell ⟨gb118, 3, none⟩ (.string ((rd_T44 l0 x7_1).f3))).setCell ⟨gb118, 4, none⟩ (.string ((rd_T44 l0 x7_1).f4)))) := ⟨bel1 GE118.out⟩
         (try clear BK118)
         (try clear HB)
         generalize (((((w18.setCell ⟨gb118, 0, none⟩ (.string ((rd_T44 l0 x7_1).f0))).setCell ⟨gb118, 1, none⟩ (.bool ((rd_T44 l0 x7_1).f1))).setCell ⟨gb118, 2, none⟩ (.string ((rd_T44 l0 x7_1).f2))).setCell ⟨gb118, 3, none⟩ (.string ((rd_T44 l0 x7_1).f3))).setCell ⟨gb118, 4, none⟩ (.string ((rd_T44 l0 x7_1).f4))) = w20 at n0_ n1_ ⊢
         have BK118 := n0_; have HB := n1_; clear n0_ n1_; replace BK118 := am (blk_drew BK118.out); replace HB := am (below_drew1 HB.out)
         refine st (n := 10) (S := fun w' => w'.cell? ⟨gb118, 0, none⟩ = some (.string ((rd_T44 l0 x7_1).f0)) ∧ w'.cell? ⟨gb118, 1, none⟩ = some (.bool ((rd_T44 l0 x7_1).f1)) ∧ w'.cell? ⟨gb118, 2, none⟩ = some (.string ((rd_T44 l0 x7_1).f2)) ∧ w'.cell? ⟨gb118, 3, none⟩ = some (.string ((rd_T44 l0 x7_1).f3)) ∧ w'.cell? ⟨gb118, 4, none⟩ = some (.string ((rd_T44 l0 x7_1).f4))) (ds := []) ⟨(blk_cell BK118.out 0).trans rfl, (blk_cell BK118.out 1).trans rfl, (blk_cell BK118.out 2).trans rfl, (blk_cell BK118.out 3).trans rfl, (blk_cell BK118.out 4).trans rfl⟩ (fun hHeld => ?_); refine with_tabW impl_affixesOk.tab4 impl_affixesOk.bits4 (fun HT_ HW_ => ?_)
         generalize w20.drew = w21 at BK118 HB hHeld ⊢
         refine tk5 0 12 hHeld ?_
         refine on1 1 13 (fun K hK => ?_)
         refine goes_ Try.func69 (by kernel_rfl) rfl #[.agg #[.string ((rd_T44 l0 x7_1).f0), .bool ((rd_T44 l0 x7_1).f1), .string ((rd_T44 l0 x7_1).f2), .string ((rd_T44 l0 x7_1).f3), .string ((rd_T44 l0 x7_1).f4)]] (by rfl) rfl rfl mq ?_
         with_reducible refine (impl_AffixOk.calls k1 ((rd_T44 l0 x7_1).f0) ((rd_T44 l0 x7_1).f1) ((rd_T44 l0 x7_1).f2) ((rd_T44 l0 x7_1).f3) ((rd_T44 l0 x7_1).f4) true _ A5.out).mono ?_
         rintro e w22 ⟨rfl, hb⟩
         refine ⟨_, rfl, ?_⟩
         replace BK118 := am (blk_below (g := gb118) (o := .cells #[.string ((rd_T44 l0 x7_1).f0), .bool ((rd_T44 l0 x7_1).f1), .string ((rd_T44 l0 x7_1).f2), .string ((rd_T44 l0 x7_1).f3), .string ((rd_T44 l0 x7_1).f4)] 44 (0, 0)) (bq BK118.out) hb); replace HB := am (below_step (bel1 GE118.out) hb)
         (try clear hb)
         (try clear hb2)
         (try clear hk)
         (try clear hi)
         have q23 : (x7_1 : Int) ≤ ((l0.length : Int) : Int) := of_decide_eq_true ad
         obtain ⟨i023, hi023, _, hsz23, _⟩ := info_parts info44
         have hroom23 : l0.length ≤ c0 := HC0.out
         have hC23 : Kd.C k44 _ (some ad117) l0.length l0 := HR0.out
         have hcut23 := cut_to (P := Try.prog) 29 44 .i64 Try.underlying29 hi023 (some ad117) l0.length c0 x7_1 (of_decide_eq_true ad) q23 hroom23
         have hr23 := Kd.C_take (m := (x7_1 : Int).toNat) hC23 (by omega)
         have hy23 : y120.length = (x7_1 : Int).toNat := (by rw [Ny120.out, List.length_take]; omega)
         rw [← Ny120.out] at hr23; rw [← hy23] at hcut23; have HR123 := am hr23
         have HC123 := am (show y120.length ≤ c0 from by omega)
         clear hr23 hC23 hroom23 hi023 hsz23; have KY23 := am hy23; clear hy23; replace q23 := eq_true q23
         refine hK.out _ _ ⟨(blk_cell BK118.out 0).trans rfl, (blk_cell BK118.out 1).trans rfl, (blk_cell BK118.out 2).trans rfl, (blk_cell BK118.out 3).trans rfl, (blk_cell BK118.out 4).trans rfl⟩ (fun hHeld => ?_)
         clear hK K
         refine norm_ (a' := ?_) ?_ ?_
         rotate_left
         ·show Act.put _ (some 13) _ = _
          simp only [Act.put, List.setIfInBounds_toArray, List.set_cons_zero, List.set_cons_succ, i64_w, i32_w]
          rfl
         refine pu 2 14 ?_
         refine pu 3 15 ?_
         refine pu 4 16 ?_
         refine pu 5 17 ?_
         refine pu 6 18 ?_
         refine tk5 7 19 hHeld ?_
         refine on1 8 20 (fun K hK => ?_)
         refine goes_ Try.func92 (by kernel_rfl) rfl #[.slice (some ad117) y120.length c0, .agg #[.string ((rd_T44 l0 x7_1).f0), .bool ((rd_T44 l0 x7_1).f1), .string ((rd_T44 l0 x7_1).f2), .string ((rd_T44 l0 x7_1).f3), .string ((rd_T44 l0 x7_1).f4)]] (by rfl) rfl rfl mq ?_
         with_reducible refine (impl_Affix_92.calls k1 _ _ y120 ((rd_T44 l0 x7_1).f0) ((rd_T44 l0 x7_1).f1) ((rd_T44 l0 x7_1).f2) ((rd_T44 l0 x7_1).f3) ((rd_T44 l0 x7_1).f4) false _ ?side1 ?side2 A9.out).mono ?_
         (case side1 => exact cq (Kd.C_below HR123.out HB.out)); (case side2 => exact HC123.out)
         rintro e w24 ⟨rfl, hb⟩
         refine ⟨_, rfl, ?_⟩
         replace BK118 := am (blk_below (g := gb118) (o := .cells #[.string ((rd_T44 l0 x7_1).f0), .bool ((rd_T44 l0 x7_1).f1), .string ((rd_T44 l0 x7_1).f2), .string ((rd_T44 l0 x7_1).f3), .string ((rd_T44 l0 x7_1).f4)] 44 (0, 0)) (bq BK118.out) hb); replace HB := am (below_step (bel1 GE118.out) hb)
         (try clear hb)
         (try clear hb2)
         (try clear hk)
         (try clear hi)
         refine hK.out _ _ ⟨(blk_cell BK118.out 0).trans rfl, (blk_cell BK118.out 1).trans rfl, (blk_cell BK118.out 2).trans rfl, (blk_cell BK118.out 3).trans rfl, (blk_cell BK118.out 4).trans rfl⟩ (fun hHeld => ?_)
         clear hK K
         refine norm_ (a' := ?_) ?_ ?_
         rotate_left
         ·show Act.put _ (some 20) _ = _
          simp only [Act.put, List.setIfInBounds_toArray, List.set_cons_zero, List.set_cons_succ, i64_w, i32_w]
          rfl
         refine pu 9 21 ?_
         refine done_ (done_of HT_.out (by kernel_rfl)) ?_
         try go_wp2
         go_roundg k1
         case measure => have := HK1.out; omega
         case rel => exact ⟨(wrap64 (x7_1 + 1)), sq, H', ⟨b62_⟩, ⟨bel1 GE118.out⟩⟩
       ·rw [if_neg c8] at H
        exact absurd H (by simp)
      ·replace c6 := Bool.eq_false_iff.mpr c6; subst c6
       have H1 : (some false) = some r := b19_
       replace H := H1; clear H1
       obtain rfl := Option.some.inj H
       have p117 : 0 ≤ (x7_1 : Int) := of_decide_eq_true ad
       have q117 : x7_1 < (l0.length : Int) := of_decide_eq_true ad
       obtain ⟨ad117, e117, hx117_0, hx117_1, hx117_2, hx117_3, hx117_4⟩ := at_T44 HR0.out x7_1 p117 q117
       cases e117
       replace hx117_0 := kp HB.out hx117_0; replace hx117_1 := kp HB.out hx117_1; replace hx117_2 := kp HB.out hx117_2; replace hx117_3 := kp HB.out hx117_3; replace hx117_4 := kp HB.out hx117_4; replace p117 := eq_true p117; replace q117 := eq_true q117
       try go_wp2_with (first | ((with_reducible refine gate_dst (N := 4) rfl ?_); refine bx 4 (cs := #[.string (⟨#[]⟩ : ByteArray), .bool false, .string (⟨#[]⟩ : ByteArray), .string (⟨#[]⟩ : ByteArray), .string (⟨#[]⟩ : ByteArray)]) (t := 44) ?_; intro gb118 hg w25 hbox hb; have BK118 := am (hbox); have GW118 := am ((b15_ : w.heap.size ≤ gb118)); have GE118 := am ((b15_ : w.heap.size ≤ gb118)); replace HB := am (below_step bel hb); clear hb hbox hg; have hcz26_0 := bc BK118.out 0; have hcz26_1 := bc BK118.out 1; have hcz26_2 := bc BK118.out 2; have hcz26_3 := bc BK118.out 3; have hcz26_4 := bc BK118.out 4; have hfz26_0 := bf BK118.out 0; have hfz26_1 := bf BK118.out 1; have hfz26_2 := bf BK118.out 2; have hfz26_3 := bf BK118.out 3; have hfz26_4 := bf BK118.out 4))
       have n0_ : Aside0 ((((((w25.setCell ⟨gb118, 0, none⟩ (.string ((rd_T44 l0 x7_1).f0))).setCell ⟨gb118, 1, none⟩ (.bool ((rd_T44 l0 x7_1).f1))).setCell ⟨gb118, 2, none⟩ (.string ((rd_T44 l0 x7_1).f2))).setCell ⟨gb118, 3, none⟩ (.string ((rd_T44 l0 x7_1).f3))).setCell ⟨gb118, 4, none⟩ (.string ((rd_T44 l0 x7_1).f4))).heap[gb118]? = some (.cells #[.string ((rd_T44 l0 x7_1).f0), .bool ((rd_T44 l0 x7_1).f1), .string ((rd_T44 l0 x7_1).f2), .string ((rd_T44 l0 x7_1).f3), .string ((rd_T44 l0 x7_1).f4)] 44 (0, 0))) := ⟨b8_⟩
       have n1_ : Aside0 (Below w.heap.size w (((((w25.setCell ⟨gb118, 0, none⟩ (.string ((rd_T44 l0 x7_1).f0))).setCell ⟨gb118, 1, none⟩ (.bool ((rd_T44 l0 x7_1).f1))).setCell ⟨gb118, 2, none⟩ (.string ((rd_T44 l0 x7_1).f2))).setCell ⟨gb118, 3, none⟩ (.string ((rd_T44 l0 x7_1).f3))).setCell ⟨gb118, 4, none⟩ (.string ((rd_T44 l0 x7_1).f4)))) := ⟨bel1 GE118.out⟩
       (try clear BK118)
       (try clear HB)
       generalize (((((w25.setCell ⟨gb118, 0, none⟩ (.string ((rd_T44 l0 x7_1).f0))).setCell ⟨gb118, 1, none⟩ (.bool ((rd_T44 l0 x7_1).f1))).setCell ⟨gb118, 2, none⟩ (.string ((rd_T44 l0 x7_1).f2))).setCell ⟨gb118, 3, none⟩ (.string ((rd_T44 l0 x7_1).f3))).setCell ⟨gb118, 4, none⟩ (.string ((rd_T44 l0 x7_1).f4))) = w27 at n0_ n1_ ⊢
       have BK118 := n0_; have HB := n1_; clear n0_ n1_; replace BK118 := am (blk_drew BK118.out); replace HB := am (below_drew1 HB.out)
       refine st (n := 10) (S := fun w' => w'.cell? ⟨gb118, 0, none⟩ = some (.string ((rd_T44 l0 x7_1).f0)) ∧ w'.cell? ⟨gb118, 1, none⟩ = some (.bool ((rd_T44 l0 x7_1).f1)) ∧ w'.cell? ⟨gb118, 2, none⟩ = some (.string ((rd_T44 l0 x7_1).f2)) ∧ w'.cell? ⟨gb118, 3, none⟩ = some (.string ((rd_T44 l0 x7_1).f3)) ∧ w'.cell? ⟨gb118, 4, none⟩ = some (.string ((rd_T44 l0 x7_1).f4))) (ds := []) ⟨(blk_cell BK118.out 0).trans rfl, (blk_cell BK118.out 1).trans rfl, (blk_cell BK118.out 2).trans rfl, (blk_cell BK118.out 3).trans rfl, (blk_cell BK118.out 4).trans rfl⟩ (fun hHeld => ?_); refine with_tabW impl_affixesOk.tab4 impl_affixesOk.bits4 (fun HT_ HW_ => ?_)
       generalize w27.drew = w28 at BK118 HB hHeld ⊢
       refine tk5 0 12 hHeld ?_
       refine on1 1 13 (fun K hK => ?_)
       refine goes_ Try.func69 (by kernel_rfl) rfl #[.agg #[.string ((rd_T44 l0 x7_1).f0), .bool ((rd_T44 l0 x7_1).f1), .string ((rd_T44 l0 x7_1).f2), .string ((rd_T44 l0 x7_1).f3), .string ((rd_T44 l0 x7_1).f4)]] (by rfl) rfl rfl mq ?_
       with_reducible refine (impl_AffixOk.calls k1 ((rd_T44 l0 x7_1).f0) ((rd_T44 l0 x7_1).f1) ((rd_T44 l0 x7_1).f2) ((rd_T44 l0 x7_1).f3) ((rd_T44 l0 x7_1).f4) false _ A5.out).mono ?_
       rintro e w29 ⟨rfl, hb⟩
       refine ⟨_, rfl, ?_⟩
       replace BK118 := am (blk_below (g := gb118) (o := .cells #[.string ((rd_T44 l0 x7_1).f0), .bool ((rd_T44 l0 x7_1).f1), .string ((rd_T44 l0 x7_1).f2), .string ((rd_T44 l0 x7_1).f3), .string ((rd_T44 l0 x7_1).f4)] 44 (0, 0)) (bq BK118.out) hb); replace HB := am (below_step (bel1 GE118.out) hb)
       (try clear hb)
       (try clear hb2)
       (try clear hk)
       (try clear hi)
       refine hK.out _ _ ⟨(blk_cell BK118.out 0).trans rfl, (blk_cell BK118.out 1).trans rfl, (blk_cell BK118.out 2).trans rfl, (blk_cell BK118.out 3).trans rfl, (blk_cell BK118.out 4).trans rfl⟩ (fun hHeld => ?_)
       clear hK K
       refine norm_ (a' := ?_) ?_ ?_
       rotate_left
       ·show Act.put _ (some 13) _ = _
        simp only [Act.put, List.setIfInBounds_toArray, List.set_cons_zero, List.set_cons_succ, i64_w, i32_w]
        rfl
       refine pu 2 14 ?_
       refine pu 3 15 ?_
       refine puu 4 16 ?_
       refine puu 5 17 ?_
       refine puu 6 18 ?_
       refine puu 7 19 ?_
       refine puu 8 20 ?_
       refine pu 9 21 ?_
       refine done_ (done_of HT_.out (by kernel_rfl)) ?_
       try go_wp2
       go_ret
       exact ⟨eq_, bel1 GE118.out⟩
     ·rw [if_neg c4] at H
      exact absurd H (by simp)
    ·rw [if_neg c3] at H
     exact absurd H (by simp)
   ·rw [if_neg c2] at H; have c2b0 := decide_eq_false c2; clear c2; obtain rfl := Option.some.inj H; go_wp2; go_ret
    exact ⟨eq_, bel⟩

/-! ### impl_within: function 72 -/
def impl_within.f (a0 : Int) (a1 : Int) (a2 : Int) : Option (Bool) := if a0 ≥ a1 then (some (decide (a0 ≤ a2))) else (some false)
set_option maxHeartbeats 8000000 in
set_option maxRecDepth 100000 in
theorem impl_within.calls (a0 : Int) (a1 : Int) (a2 : Int) (r : Bool) (w : World) (h : impl_within.f a0 a1 a2 = some r) :
  Calls Try.prog 72 #[.int .i64 a0, .int .i64 a1, .int .i64 a2] w fun e w' => e = .returned (.bool r) ∧ Drawn0 w w' := by
 have H : (if a0 ≥ a1 then (some (decide (a0 ≤ a2))) else (some false)) = some r := h
 clear h
 by_cases c4 : a0 ≥ a1
 ·rw [if_pos c4] at H; have c4b0 := decide_eq_true c4; clear c4; obtain rfl := Option.some.inj H; go_enter Try.func72, Try.ntmps72; go_wp2; go_ret
  exact ⟨sq, dr⟩
 ·rw [if_neg c4] at H; have c4b0 := decide_eq_false c4; clear c4; obtain rfl := Option.some.inj H; go_enter Try.func72, Try.ntmps72; go_wp2; go_ret
  exact ⟨sq, dr⟩

/-! ### impl_WordOk: function 30 -/
def impl_WordOk.f (k : Nat) (a0 : ByteArray) : Option (Bool) := (impl_within.f (a0.size : Int) 1 12).bind fun t125 => (if t125 = true then ((impl_lower.f k a0).bind fun t126 => (some t126)) else (some false))
theorem impl_WordOk.mono : ∀ a0 k, LeO (impl_WordOk.f k a0) (impl_WordOk.f (k + 1) a0) := by
 intro a0 k
 unfold impl_WordOk.f
 repeat' first | (with_reducible first | exact impl_lower.mono _ _ | exact LeO.refl _ | exact LeO.none _ | refine LeO.ite ?_ ?_ | refine LeO.bind ?_ (fun _ => ?_)) | exact impl_lower.mono _ _ | exact LeO.none _ | refine LeO.ite ?_ ?_ | refine LeO.bind ?_ (fun _ => ?_)
set_option maxHeartbeats 8000000 in
set_option maxRecDepth 100000 in
theorem impl_WordOk.calls (k : Nat) (a0 : ByteArray) (r : Bool) (w : World) (h : impl_WordOk.f k a0 = some r) :
  Calls Try.prog 30 #[.string a0] w fun e w' => e = .returned (.bool r) ∧ Drawn0 w w' := by
 have H : ((impl_within.f (a0.size : Int) 1 12).bind fun t125 => (if t125 = true then ((impl_lower.f k a0).bind fun t126 => (some t126)) else (some false))) = some r := h
 clear h; replace H := Option.bind_eq_some_iff.mp H; obtain ⟨t125, A20, H⟩ := H; replace H : (if t125 = true then ((impl_lower.f k a0).bind fun t126 => (some t126)) else (some false)) = some r := H; have A2 := Aside0.mk A20; clear A20
 by_cases c3 : t125 = true
 ·subst c3
  have H1 : ((impl_lower.f k a0).bind fun t126 => (some t126)) = some r := b34_
  replace H := H1; clear H1
  replace H := Option.bind_eq_some_iff.mp H; obtain ⟨t126, A40, H⟩ := H; replace H : (some t126) = some r := H; have A4 := Aside0.mk A40; clear A40; obtain rfl := Option.some.inj H; go_enter Try.func30, Try.ntmps30
  go_wp2_with (first | ((with_reducible refine gate_callee (f := 72) rfl ?_); refine goesL_ (some 5) rfl rfl Try.func72 (by kernel_rfl) rfl #[.int .i64 (a0.size : Int), .int .i64 1, .int .i64 12] rfl mq ?_; (with_reducible refine (impl_within.calls (a0.size : Int) 1 12 true _ A2.out).mono ?_); rintro e w' ⟨rfl, ⟨nd, rfl⟩⟩; refine ⟨_, rfl, ?_⟩) | (go_at_call 73; (with_reducible refine (impl_lower.calls k a0 t126 _ A4.out).mono ?_); rintro e w' ⟨rfl, ⟨nd, rfl⟩⟩))
  go_ret
  exact ⟨sq, dr⟩
 ·replace c3 := Bool.eq_false_iff.mpr c3; subst c3
  have H1 : (some false) = some r := b19_
  replace H := H1; clear H1
  obtain rfl := Option.some.inj H; go_enter Try.func30, Try.ntmps30
  go_wp2_with (first | ((with_reducible refine gate_callee (f := 72) rfl ?_); refine goesL_ (some 5) rfl rfl Try.func72 (by kernel_rfl) rfl #[.int .i64 (a0.size : Int), .int .i64 1, .int .i64 12] rfl mq ?_; (with_reducible refine (impl_within.calls (a0.size : Int) 1 12 false _ A2.out).mono ?_); rintro e w' ⟨rfl, ⟨nd, rfl⟩⟩; refine ⟨_, rfl, ?_⟩))
  go_ret
  exact ⟨sq, dr⟩

end Go.Proofs.Ytedfcehhgbeibaa.QFnBookKnows

import Derived.Test.YtedfcehhgbeibaaQFnFormsx0
import Derived.Test.YtedfcehhgbeibaaQFnFormsx1
import Derived.Test.YtedfcehhgbeibaaQFnFormsx8
import Derived.Test.YtedfcehhgbeibaaVMSh2
namespace Go.Proofs.Ytedfcehhgbeibaa.QFnForms
open Go.RowKit Go.Proofs.YtedfcehhgbeibaaW.PrintWords Go.Proofs.YtedfcehhgbeibaaW.PrintLast Go.Proofs.YtedfcehhgbeibaaW.PrintMore Go.Proofs.Ytedfcehhgbeibaa.Sh
attribute [local go_sem] max2_int min2_int max_two min_two max_three min_three max_four min_four   -- for this text's walks alone
set_option linter.unusedVariables false
set_option linter.unusedSimpArgs false
-- shrunk

attribute [local go_sem high] eqA44
/-! ### impl_Affix_112: function 112 -/
def impl_Affix_112.l0 : Nat → List (S44) → Int → Int → ByteArray → Bool → ByteArray → ByteArray → ByteArray → Option (Int)
 | 0, _, _, _, _, _, _, _, _ => none
 | k + 1, x0, x7, x8, x207000, x207001, x207002, x207003, x207004 => if x8 < x7 then (if 0 ≤ x8 then (if x8 < (x0.length : Int) then (if (x207000.toList == (((rd_T44 x0 x8).f0).toList) && (x207001 == ((rd_T44 x0 x8).f1) && (x207002.toList == (((rd_T44 x0 x8).f2).toList) && (x207003.toList == (((rd_T44 x0 x8).f3).toList) && (x207004.toList == (((rd_T44 x0 x8).f4).toList)))))) = true then (some x8) else (impl_Affix_112.l0 k x0 x7 (wrap64 (x8 + 1)) x207000 x207001 x207002 x207003 x207004)) else (none)) else (none)) else (some (-1))
def impl_Affix_112.f (k : Nat) (l0 : List (S44)) (a1_0 : ByteArray) (a1_1 : Bool) (a1_2 : ByteArray) (a1_3 : ByteArray) (a1_4 : ByteArray) : Option (Int) := impl_Affix_112.l0 k l0 (l0.length : Int) 0 a1_0 a1_1 a1_2 a1_3 a1_4
theorem impl_Affix_112.mono_l : ∀ k, (∀ y0 y1 y2 y3 y4 y5 y6 y7, LeO (impl_Affix_112.l0 k y0 y1 y2 y3 y4 y5 y6 y7) (impl_Affix_112.l0 (k + 1) y0 y1 y2 y3 y4 y5 y6 y7))
 | 0 => fun _ _ _ _ _ _ _ _ r h => by simp [impl_Affix_112.l0] at h
 | k + 1 => by
  have ih0 := impl_Affix_112.mono_l k
  ·intro y0 y1 y2 y3 y4 y5 y6 y7
   unfold impl_Affix_112.l0
   repeat' first | (with_reducible first | exact ih0 _ _ _ _ _ _ _ _ | exact LeO.refl _ | exact LeO.none _ | refine LeO.ite ?_ ?_ | refine LeO.bind ?_ (fun _ => ?_)) | exact ih0 _ _ _ _ _ _ _ _ | exact LeO.none _ | refine LeO.ite ?_ ?_ | refine LeO.bind ?_ (fun _ => ?_)
theorem impl_Affix_112.mono : ∀ a0 a1 a2 a3 a4 a5 k, LeO (impl_Affix_112.f k a0 a1 a2 a3 a4 a5) (impl_Affix_112.f (k + 1) a0 a1 a2 a3 a4 a5) := by
 intro a0 a1 a2 a3 a4 a5 k; have ih0 := impl_Affix_112.mono_l k
 unfold impl_Affix_112.f
 repeat' first | (with_reducible first | exact ih0 _ _ _ _ _ _ _ _ | exact LeO.refl _ | exact LeO.none _ | refine LeO.ite ?_ ?_ | refine LeO.bind ?_ (fun _ => ?_)) | exact ih0 _ _ _ _ _ _ _ _ | exact LeO.none _ | refine LeO.ite ?_ ?_ | refine LeO.bind ?_ (fun _ => ?_)
set_option maxHeartbeats 8000000 in
set_option maxRecDepth 100000 in
theorem impl_Affix_112.calls (k : Nat) (A0 : Option Addr) (c0 : Nat) (l0 : List (S44)) (a1_0 : ByteArray) (a1_1 : Bool) (a1_2 : ByteArray) (a1_3 : ByteArray) (a1_4 : ByteArray) (r : Int) (w : World) (hr0 : Kd.C k44 w A0 l0.length l0) (hc0 : l0.length ≤ c0) (h : impl_Affix_112.f k l0 a1_0 a1_1 a1_2 a1_3 a1_4 = some r) :
  Calls Try.prog 112 #[.slice A0 l0.length c0, .agg #[.string a1_0, .bool a1_1, .string a1_2, .string a1_3, .string a1_4]] w fun e w' => e = .returned (.int .i64 r) ∧ Below w.heap.size w w' := by
 have hu44 := Try.underlying44; have HR0 := am hr0; have HC0 := am hc0; clear hr0 hc0; have HB := am (Below.refl w.heap.size w)
 have H : (impl_Affix_112.l0 k l0 (l0.length : Int) 0 a1_0 a1_1 a1_2 a1_3 a1_4) = some r := h
 clear h
 have H' := am H
 clear H; go_enter Try.func112, Try.ntmps112
 go_wp2_with (first | ((with_reducible refine gate_dst (N := 3) rfl ?_); refine bx 3 (cs := #[.string a1_0, .bool a1_1, .string a1_2, .string a1_3, .string a1_4]) (t := 44) ?_; intro gb206 hg w3 hbox hb; have BK206 := am (hbox); have GW206 := am ((b22_ : w.heap.size ≤ gb206)); have GE206 := am ((b22_ : w.heap.size ≤ gb206)); replace HB := am (below_step bel hb); clear hb hbox hg))
 repeat (go_quiet (first | ((with_reducible refine gate_dst (N := 3) rfl ?_); refine bx 3 (cs := #[.string a1_0, .bool a1_1, .string a1_2, .string a1_3, .string a1_4]) (t := 44) ?_; intro gb206 hg w3 hbox hb; have BK206 := am (hbox); have GW206 := am ((b22_ : w.heap.size ≤ gb206)); have GE206 := am ((b22_ : w.heap.size ≤ gb206)); replace HB := am (below_step bel hb); clear hb hbox hg)); try go_wp2_with (first | ((with_reducible refine gate_dst (N := 3) rfl ?_); refine bx 3 (cs := #[.string a1_0, .bool a1_1, .string a1_2, .string a1_3, .string a1_4]) (t := 44) ?_; intro gb206 hg w3 hbox hb; have BK206 := am (hbox); have GW206 := am ((b22_ : w.heap.size ≤ gb206)); have GE206 := am ((b22_ : w.heap.size ≤ gb206)); replace HB := am (below_step bel hb); clear hb hbox hg)))
 go_loopg [8] k (fun kq v8 w' => ∃ (x8_1 : Int), v8 = .int .i64 x8_1 ∧ Aside0 (impl_Affix_112.l0 kq l0 (l0.length : Int) x8_1 a1_0 a1_1 a1_2 a1_3 a1_4 = some r) ∧ Aside0 (kq ≤ k) ∧ Aside0 (w'.heap[gb206]? = some (.cells #[.string a1_0, .bool a1_1, .string a1_2, .string a1_3, .string a1_4] 44 (0, 0))) ∧ Aside0 (Below w.heap.size w w'))
 case atStart => exact ⟨(0), sq, H', ⟨Nat.le_refl _⟩, ⟨bq BK206.out⟩, ⟨bel1 GE206.out⟩⟩
 case round =>
  clear H'; (try clear c1); (try clear p2); obtain ⟨x8_1, rfl, HA, HK1, BK206, HB⟩ := hrel
  cases gk with
  | zero => exact absurd HA.out (by simp [impl_Affix_112.l0])
  | succ k1 =>
   have H := HA.out; clear HA
   simp only [impl_Affix_112.l0] at H
   by_cases c4 : x8_1 < (l0.length : Int)
   ·rw [if_pos c4] at H; have c4b0 := decide_eq_true c4; clear c4
    by_cases c5 : 0 ≤ x8_1
    ·rw [if_pos c5] at H; have c5b0 := decide_eq_true c5; clear c5
     by_cases c6 : x8_1 < (l0.length : Int)
     ·rw [if_pos c6] at H; have c6b0 := decide_eq_true c6; clear c6
      by_cases c7 : (a1_0.toList == (((rd_T44 l0 x8_1).f0).toList) && (a1_1 == ((rd_T44 l0 x8_1).f1) && (a1_2.toList == (((rd_T44 l0 x8_1).f2).toList) && (a1_3.toList == (((rd_T44 l0 x8_1).f3).toList) && (a1_4.toList == (((rd_T44 l0 x8_1).f4).toList)))))) = true
      ·rw [if_pos c7] at H
       have c7b0 : (a1_0.toList == (((rd_T44 l0 x8_1).f0).toList) && (a1_1 == ((rd_T44 l0 x8_1).f1) && (a1_2.toList == (((rd_T44 l0 x8_1).f2).toList) && (a1_3.toList == (((rd_T44 l0 x8_1).f3).toList) && (a1_4.toList == (((rd_T44 l0 x8_1).f4).toList)))))) = true := c7
       (try (have c7b1 : decide (a1_0.toList = (((rd_T44 l0 x8_1).f0).toList) && (a1_1 == ((rd_T44 l0 x8_1).f1) && (a1_2.toList == (((rd_T44 l0 x8_1).f2).toList) && (a1_3.toList == (((rd_T44 l0 x8_1).f3).toList) && (a1_4.toList == (((rd_T44 l0 x8_1).f4).toList)))))) = true := by simpa using c7))
       (try (have c7b2 : (a1_0.toList == (((rd_T44 l0 x8_1).f0).toList) && (a1_1 == ((rd_T44 l0 x8_1).f1) && (a1_2.toList == (((rd_T44 l0 x8_1).f2).toList) && (a1_3.toList == (((rd_T44 l0 x8_1).f3).toList) && (a1_4.toList == (((rd_T44 l0 x8_1).f4).toList)))))) = true := by simpa using c7))
       clear c7; obtain rfl := Option.some.inj H; have hcz8_0 := bc BK206.out 0; have hcz8_1 := bc BK206.out 1; have hcz8_2 := bc BK206.out 2; have hcz8_3 := bc BK206.out 3; have hcz8_4 := bc BK206.out 4; have hfz8_0 := bf BK206.out 0; have hfz8_1 := bf BK206.out 1; have hfz8_2 := bf BK206.out 2; have hfz8_3 := bf BK206.out 3; have hfz8_4 := bf BK206.out 4
       have p207 : 0 ≤ (x8_1 : Int) := of_decide_eq_true ad
       have q207 : x8_1 < (l0.length : Int) := of_decide_eq_true ad
       obtain ⟨ad207, e207, hx207_0, hx207_1, hx207_2, hx207_3, hx207_4⟩ := at_T44 HR0.out x8_1 p207 q207
       cases e207
       replace hx207_0 := kp HB.out hx207_0; replace hx207_1 := kp HB.out hx207_1; replace hx207_2 := kp HB.out hx207_2; replace hx207_3 := kp HB.out hx207_3; replace hx207_4 := kp HB.out hx207_4; replace p207 := eq_true p207; replace q207 := eq_true q207; go_wp2
       repeat (go_quiet (fail); try go_wp2)
       go_ret
       exact ⟨eq_, bel1 GE206.out⟩
      ·rw [if_neg c7] at H
       have c7b0 : (a1_0.toList == (((rd_T44 l0 x8_1).f0).toList) && (a1_1 == ((rd_T44 l0 x8_1).f1) && (a1_2.toList == (((rd_T44 l0 x8_1).f2).toList) && (a1_3.toList == (((rd_T44 l0 x8_1).f3).toList) && (a1_4.toList == (((rd_T44 l0 x8_1).f4).toList)))))) = false := by simpa using c7
       (try (have c7b1 : decide (a1_0.toList = (((rd_T44 l0 x8_1).f0).toList) && (a1_1 == ((rd_T44 l0 x8_1).f1) && (a1_2.toList == (((rd_T44 l0 x8_1).f2).toList) && (a1_3.toList == (((rd_T44 l0 x8_1).f3).toList) && (a1_4.toList == (((rd_T44 l0 x8_1).f4).toList)))))) = false := by simpa using c7))
       (try (have c7b2 : (a1_0.toList == (((rd_T44 l0 x8_1).f0).toList) && (a1_1 == ((rd_T44 l0 x8_1).f1) && (a1_2.toList == (((rd_T44 l0 x8_1).f2).toList) && (a1_3.toList == (((rd_T44 l0 x8_1).f3).toList) && (a1_4.toList == (((rd_T44 l0 x8_1).f4).toList)))))) = false := by simpa using c7))
       (try (have c7b3 : ¬ (a1_0.toList = (((rd_T44 l0 x8_1).f0).toList) && (a1_1 == ((rd_T44 l0 x8_1).f1) && (a1_2.toList == (((rd_T44 l0 x8_1).f2).toList) && (a1_3.toList == (((rd_T44 l0 x8_1).f3).toList) && (a1_4.toList == (((rd_T44 l0 x8_1).f4).toList)))))) := by simpa using c7))
       clear c7
       have H' := am H
       clear H; have hcz9_0 := bc BK206.out 0; have hcz9_1 := bc BK206.out 1; have hcz9_2 := bc BK206.out 2; have hcz9_3 := bc BK206.out 3; have hcz9_4 := bc BK206.out 4; have hfz9_0 := bf BK206.out 0; have hfz9_1 := bf BK206.out 1; have hfz9_2 := bf BK206.out 2; have hfz9_3 := bf BK206.out 3; have hfz9_4 := bf BK206.out 4
       have p207 : 0 ≤ (x8_1 : Int) := of_decide_eq_true ad
       have q207 : x8_1 < (l0.length : Int) := of_decide_eq_true ad
       obtain ⟨ad207, e207, hx207_0, hx207_1, hx207_2, hx207_3, hx207_4⟩ := at_T44 HR0.out x8_1 p207 q207
       cases e207
       replace hx207_0 := kp HB.out hx207_0; replace hx207_1 := kp HB.out hx207_1; replace hx207_2 := kp HB.out hx207_2; replace hx207_3 := kp HB.out hx207_3; replace hx207_4 := kp HB.out hx207_4; replace p207 := eq_true p207; replace q207 := eq_true q207; go_wp2
       repeat (go_quiet (fail); try go_wp2)
       go_roundg k1
       case measure => have := HK1.out; omega
       case rel => exact ⟨(wrap64 (x8_1 + 1)), sq, H', ⟨b80_⟩, ⟨bq BK206.out⟩, ⟨bel1 GE206.out⟩⟩
     ·rw [if_neg c6] at H
      exact absurd H (by simp)
    ·rw [if_neg c5] at H
     exact absurd H (by simp)
   ·rw [if_neg c4] at H; have c4b0 := decide_eq_false c4; clear c4; obtain rfl := Option.some.inj H; go_wp2
    repeat (go_quiet (fail); try go_wp2)
    go_ret
    exact ⟨eq_, bel1 GE206.out⟩

/-! ### impl_Affix_92: function 92 -/
def impl_Affix_92.f (k : Nat) (l0 : List (S44)) (a1_0 : ByteArray) (a1_1 : Bool) (a1_2 : ByteArray) (a1_3 : ByteArray) (a1_4 : ByteArray) : Option (Bool) := (impl_Affix_112.f k l0 a1_0 a1_1 a1_2 a1_3 a1_4).bind fun t209 => (some (decide (t209 ≥ 0)))
theorem impl_Affix_92.mono : ∀ a0 a1 a2 a3 a4 a5 k, LeO (impl_Affix_92.f k a0 a1 a2 a3 a4 a5) (impl_Affix_92.f (k + 1) a0 a1 a2 a3 a4 a5) := by
 intro a0 a1 a2 a3 a4 a5 k
 unfold impl_Affix_92.f
 repeat' first | (with_reducible first | exact impl_Affix_112.mono _ _ _ _ _ _ _ | exact LeO.refl _ | exact LeO.none _ | refine LeO.ite ?_ ?_ | refine LeO.bind ?_ (fun _ => ?_)) | exact impl_Affix_112.mono _ _ _ _ _ _ _ | exact LeO.none _ | refine LeO.ite ?_ ?_ | refine LeO.bind ?_ (fun _ => ?_)
set_option maxHeartbeats 8000000 in
set_option maxRecDepth 100000 in
theorem impl_Affix_92.calls (k : Nat) (A0 : Option Addr) (c0 : Nat) (l0 : List (S44)) (a1_0 : ByteArray) (a1_1 : Bool) (a1_2 : ByteArray) (a1_3 : ByteArray) (a1_4 : ByteArray) (r : Bool) (w : World) (hr0 : Kd.C k44 w A0 l0.length l0) (hc0 : l0.length ≤ c0) (h : impl_Affix_92.f k l0 a1_0 a1_1 a1_2 a1_3 a1_4 = some r) :
  Calls Try.prog 92 #[.slice A0 l0.length c0, .agg #[.string a1_0, .bool a1_1, .string a1_2, .string a1_3, .string a1_4]] w fun e w' => e = .returned (.bool r) ∧ Below w.heap.size w w' := by
 have hu44 := Try.underlying44; have HR0 := am hr0; have HC0 := am hc0; clear hr0 hc0; have HB := am (Below.refl w.heap.size w)
 have H : ((impl_Affix_112.f k l0 a1_0 a1_1 a1_2 a1_3 a1_4).bind fun t209 => (some (decide (t209 ≥ 0)))) = some r := h
 clear h; replace H := Option.bind_eq_some_iff.mp H; obtain ⟨t209, A30, H⟩ := H; replace H : (some (decide (t209 ≥ 0))) = some r := H; have A3 := Aside0.mk A30; clear A30; obtain rfl := Option.some.inj H; go_enter Try.func92, Try.ntmps92
 go_wp2_with (first | ((with_reducible refine gate_dst (N := 3) rfl ?_); refine bx 3 (cs := #[.string a1_0, .bool a1_1, .string a1_2, .string a1_3, .string a1_4]) (t := 44) ?_; intro gb208 hg w4 hbox hb; have BK208 := am (hbox); have GW208 := am ((b22_ : w.heap.size ≤ gb208)); have GE208 := am ((b22_ : w.heap.size ≤ gb208)); replace HB := am (below_step bel hb); clear hb hbox hg; have hcz5_0 := bc BK208.out 0; have hcz5_1 := bc BK208.out 1; have hcz5_2 := bc BK208.out 2; have hcz5_3 := bc BK208.out 3; have hcz5_4 := bc BK208.out 4; have hfz5_0 := bf BK208.out 0; have hfz5_1 := bf BK208.out 1; have hfz5_2 := bf BK208.out 2; have hfz5_3 := bf BK208.out 3; have hfz5_4 := bf BK208.out 4) | ((with_reducible refine gate_callee (f := 112) rfl ?_); refine goesL_ (some 7) rfl rfl Try.func112 (by kernel_rfl) rfl #[.slice A0 l0.length c0, .agg #[.string a1_0, .bool a1_1, .string a1_2, .string a1_3, .string a1_4]] rfl mq ?_; (with_reducible refine (impl_Affix_112.calls k _ _ l0 a1_0 a1_1 a1_2 a1_3 a1_4 t209 _ ?side1 ?side2 A3.out).mono ?_); (case side1 => exact cq (Kd.C_below HR0.out HB.out)); (case side2 => exact HC0.out); rintro e w6 ⟨rfl, hb⟩; refine ⟨_, rfl, ?_⟩; replace BK208 := am (blk_below (g := gb208) (o := .cells #[.string a1_0, .bool a1_1, .string a1_2, .string a1_3, .string a1_4] 44 (0, 0)) (bq BK208.out) hb); replace HB := am (below_step (bel1 GE208.out) hb); (try clear hb); (try clear hb2); (try clear hk); (try clear hi)))
 go_ret
 exact ⟨eq_, bel1 GE208.out⟩

/-! ### impl_affixesOk: function 57 -/
def impl_affixesOk.l0 : Nat → List (S44) → List (S44) → Int → Int → Option (Bool)
 | 0, _, _, _, _ => none
 | k + 1, x0, x5, x6, x7 => if x7 < x6 then (if 0 ≤ x7 then (if x7 < (x5.length : Int) then ((impl_AffixOk.f k ((rd_T44 x5 x7).f0) ((rd_T44 x5 x7).f1) ((rd_T44 x5 x7).f2) ((rd_T44 x5 x7).f3) ((rd_T44 x5 x7).f4)).bind fun t212 => (if t212 = true then (if x7 ≤ (x0.length : Int) then ((impl_Affix_92.f k (x0.take (x7 : Int).toNat) ((rd_T44 x5 x7).f0) ((rd_T44 x5 x7).f1) ((rd_T44 x5 x7).f2) ((rd_T44 x5 x7).f3) ((rd_T44 x5 x7).f4)).bind fun t217 => (if t217 = true then (some false) else (impl_affixesOk.l0 k x0 x5 x6 (wrap64 (x7 + 1))))) else (none)) else (some false))) else (none)) else (none)) else (some (decide ((x0.length : Int) ≤ 8)))
def impl_affixesOk.f (k : Nat) (l0 : List (S44)) : Option (Bool) := impl_affixesOk.l0 k l0 l0 (l0.length : Int) 0
theorem impl_affixesOk.mono_l : ∀ k, (∀ y0 y1 y2 y3, LeO (impl_affixesOk.l0 k y0 y1 y2 y3) (impl_affixesOk.l0 (k + 1) y0 y1 y2 y3))
 | 0 => fun _ _ _ _ r h => by simp [impl_affixesOk.l0] at h
 | k + 1 => by
  have ih0 := impl_affixesOk.mono_l k
  ·intro y0 y1 y2 y3
   unfold impl_affixesOk.l0
   repeat' first | (with_reducible first | exact ih0 _ _ _ _ | exact impl_AffixOk.mono _ _ _ _ _ _ | exact impl_Affix_92.mono _ _ _ _ _ _ _ | exact LeO.refl _ | exact LeO.none _ | refine LeO.ite ?_ ?_ | refine LeO.bind ?_ (fun _ => ?_)) | exact ih0 _ _ _ _ | exact impl_AffixOk.mono _ _ _ _ _ _ | exact impl_Affix_92.mono _ _ _ _ _ _ _ | exact LeO.none _ | refine LeO.ite ?_ ?_ | refine LeO.bind ?_ (fun _ => ?_)
theorem impl_affixesOk.mono : ∀ a0 k, LeO (impl_affixesOk.f k a0) (impl_affixesOk.f (k + 1) a0) := by
 intro a0 k; have ih0 := impl_affixesOk.mono_l k
 unfold impl_affixesOk.f
 repeat' first | (with_reducible first | exact ih0 _ _ _ _ | exact impl_AffixOk.mono _ _ _ _ _ _ | exact impl_Affix_92.mono _ _ _ _ _ _ _ | exact LeO.refl _ | exact LeO.none _ | refine LeO.ite ?_ ?_ | refine LeO.bind ?_ (fun _ => ?_)) | exact ih0 _ _ _ _ | exact impl_AffixOk.mono _ _ _ _ _ _ | exact impl_Affix_92.mono _ _ _ _ _ _ _ | exact LeO.none _ | refine LeO.ite ?_ ?_ | refine LeO.bind ?_ (fun _ => ?_)
def impl_affixesOk.T4 : Bool × List (List Nat × List Nat) := (true, [([], []), ([0], [0]), ([1], [1]), ([2, 1], [2]), ([3], [3]), ([3], [3]), ([4, 5, 3], [3, 4, 5]), ([3], [3]), ([6, 7, 3, 3], [3, 6, 7]), ([3, 8], [3, 8])])
def impl_affixesOk.B4 : List Nat := [0, 1, 3, 7, 15, 15, 63, 15, 255, 511]
theorem impl_affixesOk.tab4 : rtab .any (opsOf Try.f57 4) = impl_affixesOk.T4 := by kernel_rfl
theorem impl_affixesOk.bits4 : waitsOk impl_affixesOk.T4.2 impl_affixesOk.B4 = true := by kernel_rfl
set_option maxHeartbeats 8000000 in
set_option maxRecDepth 100000 in
theorem impl_affixesOk.calls (k : Nat) (A0 : Option Addr) (c0 : Nat) (l0 : List (S44)) (r : Bool) (w : World) (hr0 : Kd.C k44 w A0 l0.length l0) (hc0 : l0.length ≤ c0) (h : impl_affixesOk.f k l0 = some r) :
  Calls Try.prog 57 #[.slice A0 l0.length c0] w fun e w' => e = .returned (.bool r) ∧ Below w.heap.size w w' := by
 have hu44 := Try.underlying44; have HR0 := am hr0; have HC0 := am hc0; clear hr0 hc0; have HB := am (Below.refl w.heap.size w)
 have H : (impl_affixesOk.l0 k l0 l0 (l0.length : Int) 0) = some r := h
 clear h
 have H' := am H
 clear H; go_enter Try.func57, Try.ntmps57; go_wp2
 go_loopg [7] k (fun kq v7 w' => ∃ (x7_1 : Int), v7 = .int .i64 x7_1 ∧ Aside0 (impl_affixesOk.l0 kq l0 l0 (l0.length : Int) x7_1 = some r) ∧ Aside0 (kq ≤ k) ∧ Aside0 (Below w.heap.size w w'))
 case atStart => exact ⟨(0), sq, H', ⟨Nat.le_refl _⟩, ⟨bel⟩⟩
 case round =>
  clear H'; obtain ⟨x7_1, rfl, HA, HK1, HB⟩ := hrel
  cases gk with
  | zero => exact absurd HA.out (by simp [impl_affixesOk.l0])
  | succ k1 =>
   have H := HA.out; clear HA
   simp only [impl_affixesOk.l0] at H
   by_cases c2 : x7_1 < (l0.length : Int)
   ·rw [if_pos c2] at H; have c2b0 := decide_eq_true c2; clear c2
    by_cases c3 : 0 ≤ x7_1
    ·rw [if_pos c3] at H; have c3b0 := decide_eq_true c3; clear c3
     by_cases c4 : x7_1 < (l0.length : Int)
     ·rw [if_pos c4] at H; have c4b0 := decide_eq_true c4; clear c4; replace H := Option.bind_eq_some_iff.mp H; obtain ⟨t212, A50, H⟩ := H; replace H : (if t212 = true then (if x7_1 ≤ (l0.length : Int) then ((impl_Affix_92.f k1 (l0.take (x7_1 : Int).toNat) ((rd_T44 l0 x7_1).f0) ((rd_T44 l0 x7_1).f1) ((rd_T44 l0 x7_1).f2) ((rd_T44 l0 x7_1).f3) ((rd_T44 l0 x7_1).f4)).bind fun t217 => (if t217 = true then (some false) else (impl_affixesOk.l0 k1 l0 l0 (l0.length : Int) (wrap64 (x7_1 + 1))))) else (none)) else (some false)) = some r := H; have A5 := Aside0.mk A50; clear A50
      by_cases c6 : t212 = true
      ·subst c6
       have H1 : (if x7_1 ≤ (l0.length : Int) then ((impl_Affix_92.f k1 (l0.take (x7_1 : Int).toNat) ((rd_T44 l0 x7_1).f0) ((rd_T44 l0 x7_1).f1) ((rd_T44 l0 x7_1).f2) ((rd_T44 l0 x7_1).f3) ((rd_T44 l0 x7_1).f4)).bind fun t217 => (if t217 = true then (some false) else (impl_affixesOk.l0 k1 l0 l0 (l0.length : Int) (wrap64 (x7_1 + 1))))) else (none)) = some r := b32_
       replace H := H1; clear H1
       have c7b0 := eq_true (of_decide_eq_true ad : 0 ≤ x7_1)
       by_cases c8 : x7_1 ≤ (l0.length : Int)
       ·rw [if_pos c8] at H; have c8b0 := eq_true c8
        have c8b1 : decide (x7_1 ≤ (l0.length : Int)) = true := decide_eq_true c8
        clear c8; obtain ⟨y213, hy213⟩ : ∃ y_ : List (S44), y_ = (l0.take (x7_1 : Int).toNat) := ⟨_, rfl⟩
        replace H : ((impl_Affix_92.f k1 y213 ((rd_T44 l0 x7_1).f0) ((rd_T44 l0 x7_1).f1) ((rd_T44 l0 x7_1).f2) ((rd_T44 l0 x7_1).f3) ((rd_T44 l0 x7_1).f4)).bind fun t217 => (if t217 = true then (some false) else (impl_affixesOk.l0 k1 l0 l0 (l0.length : Int) (wrap64 (x7_1 + 1))))) = some r := by first | (rw [hy213]; with_reducible exact H) | (have H2_ := (Option.bind_some _ _).symm.trans H; rw [hy213]; with_reducible exact H2_) | (have H2_ := (Option.bind_some _ _).symm.trans H; with_reducible exact H2_) | with_reducible exact H | (rw [hy213]; exact H) | exact H
        have Ny213 := am hy213; clear hy213; replace H := Option.bind_eq_some_iff.mp H; obtain ⟨t217, A90, H⟩ := H; replace H : (if t217 = true then (some false) else (impl_affixesOk.l0 k1 l0 l0 (l0.length : Int) (wrap64 (x7_1 + 1)))) = some r := H; have A9 := Aside0.mk A90; clear A90
        by_cases c10 : t217 = true
        ·subst c10
         have H1 : (some false) = some r := b32_
         replace H := H1; clear H1
         obtain rfl := Option.some.inj H
         have p210 : 0 ≤ (x7_1 : Int) := of_decide_eq_true ad
         have q210 : x7_1 < (l0.length : Int) := of_decide_eq_true ad
         obtain ⟨ad210, e210, hx210_0, hx210_1, hx210_2, hx210_3, hx210_4⟩ := at_T44 HR0.out x7_1 p210 q210
         cases e210
         replace hx210_0 := kp HB.out hx210_0; replace hx210_1 := kp HB.out hx210_1; replace hx210_2 := kp HB.out hx210_2; replace hx210_3 := kp HB.out hx210_3; replace hx210_4 := kp HB.out hx210_4; replace p210 := eq_true p210; replace q210 := eq_true q210
         try go_wp2_with (first | ((with_reducible refine gate_dst (N := 4) rfl ?_); refine bx 4 (cs := #[.string (⟨#[]⟩ : ByteArray), .bool false, .string (⟨#[]⟩ : ByteArray), .string (⟨#[]⟩ : ByteArray), .string (⟨#[]⟩ : ByteArray)]) (t := 44) ?_; intro gb211 hg w11 hbox hb; have BK211 := am (hbox); have GW211 := am ((b22_ : w.heap.size ≤ gb211)); have GE211 := am ((b22_ : w.heap.size ≤ gb211)); replace HB := am (below_step bel hb); clear hb hbox hg; have hcz12_0 := bc BK211.out 0; have hcz12_1 := bc BK211.out 1; have hcz12_2 := bc BK211.out 2; have hcz12_3 := bc BK211.out 3; have hcz12_4 := bc BK211.out 4; have hfz12_0 := bf BK211.out 0; have hfz12_1 := bf BK211.out 1; have hfz12_2 := bf BK211.out 2; have hfz12_3 := bf BK211.out 3; have hfz12_4 := bf BK211.out 4))
         have n0_ : Aside0 ((((((w11.setCell ⟨gb211, 0, none⟩ (.string ((rd_T44 l0 x7_1).f0))).setCell ⟨gb211, 1, none⟩ (.bool ((rd_T44 l0 x7_1).f1))).setCell ⟨gb211, 2, none⟩ (.string ((rd_T44 l0 x7_1).f2))).setCell ⟨gb211, 3, none⟩ (.string ((rd_T44 l0 x7_1).f3))).setCell ⟨gb211, 4, none⟩ (.string ((rd_T44 l0 x7_1).f4))).heap[gb211]? = some (.cells #[.string ((rd_T44 l0 x7_1).f0), .bool ((rd_T44 l0 x7_1).f1), .string ((rd_T44 l0 x7_1).f2), .string ((rd_T44 l0 x7_1).f3), .string ((rd_T44 l0 x7_1).f4)] 44 (0, 0))) := ⟨b8_⟩
         have n1_ : Aside0 (Below w.heap.size w (((((w11.setCell ⟨gb211, 0, none⟩ (.string ((rd_T44 l0 x7_1).f0))).setCell ⟨gb211, 1, none⟩ (.bool ((rd_T44 l0 x7_1).f1))).setCell ⟨gb211, 2, none⟩ (.string ((rd_T44 l0 x7_1).f2))).setCell ⟨gb211, 3, none⟩ (.string ((rd_T44 l0 x7_1).f3))).setCell ⟨gb211, 4, none⟩ (.string ((rd_T44 l0 x7_1).f4)))) := ⟨bel1 GE211.out⟩
         (try clear BK211)
         (try clear HB)
         generalize (((((w11.setCell ⟨gb211, 0, none⟩ (.string ((rd_T44 l0 x7_1).f0))).setCell ⟨gb211, 1, none⟩ (.bool ((rd_T44 l0 x7_1).f1))).setCell ⟨gb211, 2, none⟩ (.string ((rd_T44 l0 x7_1).f2))).setCell ⟨gb211, 3, none⟩ (.string ((rd_T44 l0 x7_1).f3))).setCell ⟨gb211, 4, none⟩ (.string ((rd_T44 l0 x7_1).f4))) = w13 at n0_ n1_ ⊢
         have BK211 := n0_; have HB := n1_; clear n0_ n1_; replace BK211 := am (blk_drew BK211.out); replace HB := am (below_drew1 HB.out)
         refine st (n := 10) (S := fun w' => w'.cell? ⟨gb211, 0, none⟩ = some (.string ((rd_T44 l0 x7_1).f0)) ∧ w'.cell? ⟨gb211, 1, none⟩ = some (.bool ((rd_T44 l0 x7_1).f1)) ∧ w'.cell? ⟨gb211, 2, none⟩ = some (.string ((rd_T44 l0 x7_1).f2)) ∧ w'.cell? ⟨gb211, 3, none⟩ = some (.string ((rd_T44 l0 x7_1).f3)) ∧ w'.cell? ⟨gb211, 4, none⟩ = some (.string ((rd_T44 l0 x7_1).f4))) (ds := []) ⟨(blk_cell BK211.out 0).trans rfl, (blk_cell BK211.out 1).trans rfl, (blk_cell BK211.out 2).trans rfl, (blk_cell BK211.out 3).trans rfl, (blk_cell BK211.out 4).trans rfl⟩ (fun hHeld => ?_); refine with_tabW impl_affixesOk.tab4 impl_affixesOk.bits4 (fun HT_ HW_ => ?_)
         generalize w13.drew = w14 at BK211 HB hHeld ⊢
         refine tk5 0 12 hHeld ?_
         refine on1 1 13 (fun K hK => ?_)
         refine goes_ Try.func69 (by kernel_rfl) rfl #[.agg #[.string ((rd_T44 l0 x7_1).f0), .bool ((rd_T44 l0 x7_1).f1), .string ((rd_T44 l0 x7_1).f2), .string ((rd_T44 l0 x7_1).f3), .string ((rd_T44 l0 x7_1).f4)]] (by rfl) rfl rfl mq ?_
         with_reducible refine (impl_AffixOk.calls k1 ((rd_T44 l0 x7_1).f0) ((rd_T44 l0 x7_1).f1) ((rd_T44 l0 x7_1).f2) ((rd_T44 l0 x7_1).f3) ((rd_T44 l0 x7_1).f4) true _ A5.out).mono ?_
         rintro e w15 ⟨rfl, hb⟩
         refine ⟨_, rfl, ?_⟩
         replace BK211 := am (blk_below (g := gb211) (o := .cells #[.string ((rd_T44 l0 x7_1).f0), .bool ((rd_T44 l0 x7_1).f1), .string ((rd_T44 l0 x7_1).f2), .string ((rd_T44 l0 x7_1).f3), .string ((rd_T44 l0 x7_1).f4)] 44 (0, 0)) (bq BK211.out) hb); replace HB := am (below_step (bel1 GE211.out) hb)
         (try clear hb)
         (try clear hb2)
         (try clear hk)
         (try clear hi)
         have q16 : (x7_1 : Int) ≤ ((l0.length : Int) : Int) := of_decide_eq_true ad
         obtain ⟨i016, hi016, _, hsz16, _⟩ := info_parts info44
         have hroom16 : l0.length ≤ c0 := HC0.out
         have hC16 : Kd.C k44 _ (some ad210) l0.length l0 := HR0.out
         have hcut16 := cut_to (P := Try.prog) 29 44 .i64 Try.underlying29 hi016 (some ad210) l0.length c0 x7_1 (of_decide_eq_true ad) q16 hroom16
         have hr16 := Kd.C_take (m := (x7_1 : Int).toNat) hC16 (by omega)
         have hy16 : y213.length = (x7_1 : Int).toNat := (by rw [Ny213.out, List.length_take]; omega)
         rw [← Ny213.out] at hr16; rw [← hy16] at hcut16; have HR216 := am hr16
         have HC216 := am (show y213.length ≤ c0 from by omega)
         clear hr16 hC16 hroom16 hi016 hsz16; have KY16 := am hy16; clear hy16; replace q16 := eq_true q16
         refine hK.out _ _ ⟨(blk_cell BK211.out 0).trans rfl, (blk_cell BK211.out 1).trans rfl, (blk_cell BK211.out 2).trans rfl, (blk_cell BK211.out 3).trans rfl, (blk_cell BK211.out 4).trans rfl⟩ (fun hHeld => ?_)
         clear hK K
         refine norm_ (a' := ?_) ?_ ?_
         rotate_left
         ·show Act.put _ (some 13) _ = _
          simp only [Act.put, List.setIfInBounds_toArray, List.set_cons_zero, List.set_cons_succ, i64_w, i32_w]
          rfl
         refine pu 2 14 ?_
         refine pu 3 15 ?_
         refine pu 4 16 ?_
         refine pu 5 17 ?_
         refine pu 6 18 ?_
         refine tk5 7 19 hHeld ?_
         refine on1 8 20 (fun K hK => ?_)
         refine goes_ Try.func92 (by kernel_rfl) rfl #[.slice (some ad210) y213.length c0, .agg #[.string ((rd_T44 l0 x7_1).f0), .bool ((rd_T44 l0 x7_1).f1), .string ((rd_T44 l0 x7_1).f2), .string ((rd_T44 l0 x7_1).f3), .string ((rd_T44 l0 x7_1).f4)]] (by rfl) rfl rfl mq ?_
         with_reducible refine (impl_Affix_92.calls k1 _ _ y213 ((rd_T44 l0 x7_1).f0) ((rd_T44 l0 x7_1).f1) ((rd_T44 l0 x7_1).f2) ((rd_T44 l0 x7_1).f3) ((rd_T44 l0 x7_1).f4) true _ ?side1 ?side2 A9.out).mono ?_
         (case side1 => exact cq (Kd.C_below HR216.out HB.out)); (case side2 => exact HC216.out)
         rintro e w17 ⟨rfl, hb⟩
         refine ⟨_, rfl, ?_⟩
         replace BK211 := am (blk_below (g := gb211) (o := .cells #[.string ((rd_T44 l0 x7_1).f0), .bool ((rd_T44 l0 x7_1).f1), .string ((rd_T44 l0 x7_1).f2), .string ((rd_T44 l0 x7_1).f3), .string ((rd_T44 l0 x7_1).f4)] 44 (0, 0)) (bq BK211.out) hb); replace HB := am (below_step (bel1 GE211.out) hb)
         (try clear hb)
         (try clear hb2)
         (try clear hk)
         (try clear hi)
         refine hK.out _ _ ⟨(blk_cell BK211.out 0).trans rfl, (blk_cell BK211.out 1).trans rfl, (blk_cell BK211.out 2).trans rfl, (blk_cell BK211.out 3).trans rfl, (blk_cell BK211.out 4).trans rfl⟩ (fun hHeld => ?_)
         clear hK K
         refine norm_ (a' := ?_) ?_ ?_
         rotate_left
         ·show Act.put _ (some 20) _ = _
          simp only [Act.put, List.setIfInBounds_toArray, List.set_cons_zero, List.set_cons_succ, i64_w, i32_w]
          rfl
         refine pu 9 21 ?_
         refine done_ (done_of HT_.out (by kernel_rfl)) ?_
         try go_wp2
         go_ret
         exact ⟨eq_, bel1 GE211.out⟩
        ·replace c10 := Bool.eq_false_iff.mpr c10; subst c10
         have H1 : (impl_affixesOk.l0 k1 l0 l0 (l0.length : Int) (wrap64 (x7_1 + 1))) = some r := b18_
         replace H := H1; clear H1
         have H' := am H
         clear H
         have p210 : 0 ≤ (x7_1 : Int) := of_decide_eq_true ad
         have q210 : x7_1 < (l0.length : Int) := of_decide_eq_true ad
         obtain ⟨ad210, e210, hx210_0, hx210_1, hx210_2, hx210_3, hx210_4⟩ := at_T44 HR0.out x7_1 p210 q210
         cases e210
         replace hx210_0 := kp HB.out hx210_0; replace hx210_1 := kp HB.out hx210_1; replace hx210_2 := kp HB.out hx210_2; replace hx210_3 := kp HB.out hx210_3; replace hx210_4 := kp HB.out hx210_4; replace p210 := eq_true p210; replace q210 := eq_true q210
         try go_wp2_with (first | ((with_reducible refine gate_dst (N := 4) rfl ?_); refine bx 4 (cs := #[.string (⟨#[]⟩ : ByteArray), .bool false, .string (⟨#[]⟩ : ByteArray), .string (⟨#[]⟩ : ByteArray), .string (⟨#[]⟩ : ByteArray)]) (t := 44) ?_; intro gb211 hg w18 hbox hb; have BK211 := am (hbox); have GW211 := am ((b22_ : w.heap.size ≤ gb211)); have GE211 := am ((b22_ : w.heap.size ≤ gb211)); replace HB := am (below_step bel hb); clear hb hbox hg; have hcz19_0 := bc BK211.out 0; have hcz19_1 := bc BK211.out 1; have hcz19_2 := bc BK211.out 2; have hcz19_3 := bc BK211.out 3; have hcz19_4 := bc BK211.out 4; have hfz19_0 := bf BK211.out 0; have hfz19_1 := bf BK211.out 1; have hfz19_2 := bf BK211.out 2; have hfz19_3 := bf BK211.out 3; have hfz19_4 := bf BK211.out 4))
         have n0_ : Aside0 ((((((w18.setCell ⟨gb211, 0, none⟩ (.string ((rd_T44 l0 x7_1).f0))).setCell ⟨gb211, 1, none⟩ (.bool ((rd_T44 l0 x7_1).f1))).setCell ⟨gb211, 2, none⟩ (.string ((rd_T44 l0 x7_1).f2))).setCell ⟨gb211, 3, none⟩ (.string ((rd_T44 l0 x7_1).f3))).setCell ⟨gb211, 4, none⟩ (.string ((rd_T44 l0 x7_1).f4))).heap[gb211]? = some (.cells #[.string ((rd_T44 l0 x7_1).f0), .bool ((rd_T44 l0 x7_1).f1), .string ((rd_T44 l0 x7_1).f2), .string ((rd_T44 l0 x7_1).f3), .string ((rd_T44 l0 x7_1).f4)] 44 (0, 0))) := ⟨b8_⟩
         have n1_ : Aside0 (Below w.heap.size w (((((w18.setCell ⟨gb211, 0, none⟩ (.string ((rd_T44 l0 x7_1).f0))).setCell ⟨gb211, 1, none⟩ (.bool ((rd_T44 l0 x7_1).f1))).setCell ⟨gb211, 2, none⟩ (.string ((rd_T44 l0 x7_1).f2))).setCell ⟨gb211, 3, none⟩ (.string ((rd_T44 l0 x7_1).f3))).setCell ⟨gb211, 4, none⟩ (.string ((rd_T44 l0 x7_1).f4)))) := ⟨bel1 GE211.out⟩
         (try clear BK211)
         (try clear HB)
         generalize (((((w18.setCell ⟨gb211, 0, none⟩ (.string ((rd_T44 l0 x7_1).f0))).setCell ⟨gb211, 1, none⟩ (.bool ((rd_T44 l0 x7_1).f1))).setCell ⟨gb211, 2, none⟩ (.string ((rd_T44 l0 x7_1).f2))).setCell ⟨gb211, 3, none⟩ (.string ((rd_T44 l0 x7_1).f3))).setCell ⟨gb211, 4, none⟩ (.string ((rd_T44 l0 x7_1).f4))) = w20 at n0_ n1_ ⊢
         have BK211 := n0_; have HB := n1_; clear n0_ n1_; replace BK211 := am (blk_drew BK211.out); replace HB := am (below_drew1 HB.out)
         refine st (n := 10) (S := fun w' => w'.cell? ⟨gb211, 0, none⟩ = some (.string ((rd_T44 l0 x7_1).f0)) ∧ w'.cell? ⟨gb211, 1, none⟩ = some (.bool ((rd_T44 l0 x7_1).f1)) ∧ w'.cell? ⟨gb211, 2, none⟩ = some (.string ((rd_T44 l0 x7_1).f2)) ∧ w'.cell? ⟨gb211, 3, none⟩ = some (.string ((rd_T44 l0 x7_1).f3)) ∧ w'.cell? ⟨gb211, 4, none⟩ = some (.string ((rd_T44 l0 x7_1).f4))) (ds := []) ⟨(blk_cell BK211.out 0).trans rfl, (blk_cell BK211.out 1).trans rfl, (blk_cell BK211.out 2).trans rfl, (blk_cell BK211.out 3).trans rfl, (blk_cell BK211.out 4).trans rfl⟩ (fun hHeld => ?_); refine with_tabW impl_affixesOk.tab4 impl_affixesOk.bits4 (fun HT_ HW_ => ?_)
         generalize w20.drew = w21 at BK211 HB hHeld ⊢
         refine tk5 0 12 hHeld ?_
         refine on1 1 13 (fun K hK => ?_)
         refine goes_ Try.func69 (by kernel_rfl) rfl #[.agg #[.string ((rd_T44 l0 x7_1).f0), .bool ((rd_T44 l0 x7_1).f1), .string ((rd_T44 l0 x7_1).f2), .string ((rd_T44 l0 x7_1).f3), .string ((rd_T44 l0 x7_1).f4)]] (by rfl) rfl rfl mq ?_
         with_reducible refine (impl_AffixOk.calls k1 ((rd_T44 l0 x7_1).f0) ((rd_T44 l0 x7_1).f1) ((rd_T44 l0 x7_1).f2) ((rd_T44 l0 x7_1).f3) ((rd_T44 l0 x7_1).f4) true _ A5.out).mono ?_
         rintro e w22 ⟨rfl, hb⟩
         refine ⟨_, rfl, ?_⟩
         replace BK211 := am (blk_below (g := gb211) (o := .cells #[.string ((rd_T44 l0 x7_1).f0), .bool ((rd_T44 l0 x7_1).f1), .string ((rd_T44 l0 x7_1).f2), .string ((rd_T44 l0 x7_1).f3), .string ((rd_T44 l0 x7_1).f4)] 44 (0, 0)) (bq BK211.out) hb); replace HB := am (below_step (bel1 GE211.out) hb)
         (try clear hb)
         (try clear hb2)
         (try clear hk)
         (try clear hi)
         have q23 : (x7_1 : Int) ≤ ((l0.length : Int) : Int) := of_decide_eq_true ad
         obtain ⟨i023, hi023, _, hsz23, _⟩ := info_parts info44
         have hroom23 : l0.length ≤ c0 := HC0.out
         have hC23 : Kd.C k44 _ (some ad210) l0.length l0 := HR0.out
         have hcut23 := cut_to (P := Try.prog) 29 44 .i64 Try.underlying29 hi023 (some ad210) l0.length c0 x7_1 (of_decide_eq_true ad) q23 hroom23
         have hr23 := Kd.C_take (m := (x7_1 : Int).toNat) hC23 (by omega)
         have hy23 : y213.length = (x7_1 : Int).toNat := (by rw [Ny213.out, List.length_take]; omega)
         rw [← Ny213.out] at hr23; rw [← hy23] at hcut23; have HR216 := am hr23
         have HC216 := am (show y213.length ≤ c0 from by omega)
         clear hr23 hC23 hroom23 hi023 hsz23; have KY23 := am hy23; clear hy23; replace q23 := eq_true q23
         refine hK.out _ _ ⟨(blk_cell BK211.out 0).trans rfl, (blk_cell BK211.out 1).trans rfl, (blk_cell BK211.out 2).trans rfl, (blk_cell BK211.out 3).trans rfl, (blk_cell BK211.out 4).trans rfl⟩ (fun hHeld => ?_)
         clear hK K
         refine norm_ (a' := ?_) ?_ ?_
         rotate_left
         ·show Act.put _ (some 13) _ = _
          simp only [Act.put, List.setIfInBounds_toArray, List.set_cons_zero, List.set_cons_succ, i64_w, i32_w]
          rfl
         refine pu 2 14 ?_
         refine pu 3 15 ?_
         refine pu 4 16 ?_
         refine pu 5 17 ?_
         refine pu 6 18 ?_
         refine tk5 7 19 hHeld ?_
         refine on1 8 20 (fun K hK => ?_)
         refine goes_ Try.func92 (by kernel_rfl) rfl #[.slice (some ad210) y213.length c0, .agg #[.string ((rd_T44 l0 x7_1).f0), .bool ((rd_T44 l0 x7_1).f1), .string ((rd_T44 l0 x7_1).f2), .string ((rd_T44 l0 x7_1).f3), .string ((rd_T44 l0 x7_1).f4)]] (by rfl) rfl rfl mq ?_
         with_reducible refine (impl_Affix_92.calls k1 _ _ y213 ((rd_T44 l0 x7_1).f0) ((rd_T44 l0 x7_1).f1) ((rd_T44 l0 x7_1).f2) ((rd_T44 l0 x7_1).f3) ((rd_T44 l0 x7_1).f4) false _ ?side1 ?side2 A9.out).mono ?_
         (case side1 => exact cq (Kd.C_below HR216.out HB.out)); (case side2 => exact HC216.out)
         rintro e w24 ⟨rfl, hb⟩
         refine ⟨_, rfl, ?_⟩
         replace BK211 := am (blk_below (g := gb211) (o := .cells #[.string ((rd_T44 l0 x7_1).f0), .bool ((rd_T44 l0 x7_1).f1), .string ((rd_T44 l0 x7_1).f2), .string ((rd_T44 l0 x7_1).f3), .string ((rd_T44 l0 x7_1).f4)] 44 (0, 0)) (bq BK211.out) hb); replace HB := am (below_step (bel1 GE211.out) hb)
         (try clear hb)
         (try clear hb2)
         (try clear hk)
         (try clear hi)
         refine hK.out _ _ ⟨(blk_cell BK211.out 0).trans rfl, (blk_cell BK211.out 1).trans rfl, (blk_cell BK211.out 2).trans rfl, (blk_cell BK211.out 3).trans rfl, (blk_cell BK211.out 4).trans rfl⟩ (fun hHeld => ?_)
         clear hK K
         refine norm_ (a' := ?_) ?_ ?_
         rotate_left
         ·show Act.put _ (some 20) _ = _
          simp only [Act.put, List.setIfInBounds_toArray, List.set_cons_zero, List.set_cons_succ, i64_w, i32_w]
          rfl
         refine pu 9 21 ?_
         refine done_ (done_of HT_.out (by kernel_rfl)) ?_
         try go_wp2
         go_roundg k1
         case measure => have := HK1.out; omega
         case rel => exact ⟨(wrap64 (x7_1 + 1)), sq, H', ⟨b80_⟩, ⟨bel1 GE211.out⟩⟩
       ·rw [if_neg c8] at H
        exact absurd H (by simp)
      ·replace c6 := Bool.eq_false_iff.mpr c6; subst c6
       have H1 : (some false) = some r := b18_
       replace H := H1; clear H1
       obtain rfl := Option.some.inj H
       have p210 : 0 ≤ (x7_1 : Int) := of_decide_eq_true ad
       have q210 : x7_1 < (l0.length : Int) := of_decide_eq_true ad
       obtain ⟨ad210, e210, hx210_0, hx210_1, hx210_2, hx210_3, hx210_4⟩ := at_T44 HR0.out x7_1 p210 q210
       cases e210
       replace hx210_0 := kp HB.out hx210_0; replace hx210_1 := kp HB.out hx210_1; replace hx210_2 := kp HB.out hx210_2; replace hx210_3 := kp HB.out hx210_3; replace hx210_4 := kp HB.out hx210_4; replace p210 := eq_true p210; replace q210 := eq_true q210
       try go_wp2_with (first | ((with_reducible refine gate_dst (N := 4) rfl ?_); refine bx 4 (cs := #[.string (⟨#[]⟩ : ByteArray), .bool false, .string (⟨#[]⟩ : ByteArray), .string (⟨#[]⟩ : ByteArray), .string (⟨#[]⟩ : ByteArray)]) (t := 44) ?_; intro gb211 hg w25 hbox hb; have BK211 := am (hbox); have GW211 := am ((b22_ : w.heap.size ≤ gb211)); have GE211 := am ((b22_ : w.heap.size ≤ gb211)); replace HB := am (below_step bel hb); clear hb hbox hg; have hcz26_0 := bc BK211.out 0; have hcz26_1 := bc BK211.out 1; have hcz26_2 := bc BK211.out 2; have hcz26_3 := bc BK211.out 3; have hcz26_4 := bc BK211.out 4; have hfz26_0 := bf BK211.out 0; have hfz26_1 := bf BK211.out 1; have hfz26_2 := bf BK211.out 2; have hfz26_3 := bf BK211.out 3; have hfz26_4 := bf BK211.out 4))
       have n0_ : Aside0 ((((((w25.setCell ⟨gb211, 0, none⟩ (.string ((rd_T44 l0 x7_1).f0))).setCell ⟨gb211, 1, none⟩ (.bool ((rd_T44 l0 x7_1).f1))).setCell ⟨gb211, 2, none⟩ (.string ((rd_T44 l0 x7_1).f2))).setCell ⟨gb211, 3, none⟩ (.string ((rd_T44 l0 x7_1).f3))).setCell ⟨gb211, 4, none⟩ (.string ((rd_T44 l0 x7_1).f4))).heap[gb211]? = some (.cells #[.string ((rd_T44 l0 x7_1).f0), .bool ((rd_T44 l0 x7_1).f1), .string ((rd_T44 l0 x7_1).f2), .string ((rd_T44 l0 x7_1).f3), .string ((rd_T44 l0 x7_1).f4)] 44 (0, 0))) := ⟨b8_⟩
       have n1_ : Aside0 (Below w.heap.size w (((((w25.setCell ⟨gb211, 0, none⟩ (.string ((rd_T44 l0 x7_1).f0))).setCell ⟨gb211, 1, none⟩ (.bool ((rd_T44 l0 x7_1).f1))).setCell ⟨gb211, 2, none⟩ (.string ((rd_T44 l0 x7_1).f2))).setCell ⟨gb211, 3, none⟩ (.string ((rd_T44 l0 x7_1).f3))).setCell ⟨gb211, 4, none⟩ (.string ((rd_T44 l0 x7_1).f4)))) := ⟨bel1 GE211.out⟩
       (try clear BK211)
       (try clear HB)
       generalize (((((w25.setCell ⟨gb211, 0, none⟩ (.string ((rd_T44 l0 x7_1).f0))).setCell ⟨gb211, 1, none⟩ (.bool ((rd_T44 l0 x7_1).f1))).setCell ⟨gb211, 2, none⟩ (.string ((rd_T44 l0 x7_1).f2))).setCell ⟨gb211, 3, none⟩ (.string ((rd_T44 l0 x7_1).f3))).setCell ⟨gb211, 4, none⟩ (.string ((rd_T44 l0 x7_1).f4))) = w27 at n0_ n1_ ⊢
       have BK211 := n0_; have HB := n1_; clear n0_ n1_; replace BK211 := am (blk_drew BK211.out); replace HB := am (below_drew1 HB.out)
       refine st (n := 10) (S := fun w' => w'.cell? ⟨gb211, 0, none⟩ = some (.string ((rd_T44 l0 x7_1).f0)) ∧ w'.cell? ⟨gb211, 1, none⟩ = some (.bool ((rd_T44 l0 x7_1).f1)) ∧ w'.cell? ⟨gb211, 2, none⟩ = some (.string ((rd_T44 l0 x7_1).f2)) ∧ w'.cell? ⟨gb211, 3, none⟩ = some (.string ((rd_T44 l0 x7_1).f3)) ∧ w'.cell? ⟨gb211, 4, none⟩ = some (.string ((rd_T44 l0 x7_1).f4))) (ds := []) ⟨(blk_cell BK211.out 0).trans rfl, (blk_cell BK211.out 1).trans rfl, (blk_cell BK211.out 2).trans rfl, (blk_cell BK211.out 3).trans rfl, (blk_cell BK211.out 4).trans rfl⟩ (fun hHeld => ?_); refine with_tabW impl_affixesOk.tab4 impl_affixesOk.bits4 (fun HT_ HW_ => ?_)
       generalize w27.drew = w28 at BK211 HB hHeld ⊢
       refine tk5 0 12 hHeld ?_
       refine on1 1 13 (fun K hK => ?_)
       refine goes_ Try.func69 (by kernel_rfl) rfl #[.agg #[.string ((rd_T44 l0 x7_1).f0), .bool ((rd_T44 l0 x7_1).f1), .string ((rd_T44 l0 x7_1).f2), .string ((rd_T44 l0 x7_1).f3), .string ((rd_T44 l0 x7_1).f4)]] (by rfl) rfl rfl mq ?_
       with_reducible refine (impl_AffixOk.calls k1 ((rd_T44 l0 x7_1).f0) ((rd_T44 l0 x7_1).f1) ((rd_T44 l0 x7_1).f2) ((rd_T44 l0 x7_1).f3) ((rd_T44 l0 x7_1).f4) false _ A5.out).mono ?_
       rintro e w29 ⟨rfl, hb⟩
       refine ⟨_, rfl, ?_⟩
       replace BK211 := am (blk_below (g := gb211) (o := .cells #[.string ((rd_T44 l0 x7_1).f0), .bool ((rd_T44 l0 x7_1).f1), .string ((rd_T44 l0 x7_1).f2), .string ((rd_T44 l0 x7_1).f3), .string ((rd_T44 l0 x7_1).f4)] 44 (0, 0)) (bq BK211.out) hb); replace HB := am (below_step (bel1 GE211.out) hb)
       (try clear hb)
       (try clear hb2)
       (try clear hk)
       (try clear hi)
       refine hK.out _ _ ⟨(blk_cell BK211.out 0).trans rfl, (blk_cell BK211.out 1).trans rfl, (blk_cell BK211.out 2).trans rfl, (blk_cell BK211.out 3).trans rfl, (blk_cell BK211.out 4).trans rfl⟩ (fun hHeld => ?_)
       clear hK K
       refine norm_ (a' := ?_) ?_ ?_
       rotate_left
       ·show Act.put _ (some 13) _ = _
        simp only [Act.put, List.setIfInBounds_toArray, List.set_cons_zero, List.set_cons_succ, i64_w, i32_w]
        rfl
       refine pu 2 14 ?_
       refine pu 3 15 ?_
       refine puu 4 16 ?_
       refine puu 5 17 ?_
       refine puu 6 18 ?_
       refine puu 7 19 ?_
       refine puu 8 20 ?_
       refine pu 9 21 ?_
       refine done_ (done_of HT_.out (by kernel_rfl)) ?_
       try go_wp2
       go_ret
       exact ⟨eq_, bel1 GE211.out⟩
     ·rw [if_neg c4] at H
      exact absurd H (by simp)
    ·rw [if_neg c3] at H
     exact absurd H (by simp)
   ·rw [if_neg c2] at H; have c2b0 := decide_eq_false c2; clear c2; obtain rfl := Option.some.inj H; go_wp2; go_ret
    exact ⟨eq_, bel⟩

end Go.Proofs.Ytedfcehhgbeibaa.QFnForms

import Derived.Test.YtedfcehhgbeibaaQFnBookStemsx0
import Derived.Test.YtedfcehhgbeibaaQFnBookStemsx6
import Derived.Test.YtedfcehhgbeibaaQFnBookStemsx10
import Derived.Test.YtedfcehhgbeibaaVMSh2
namespace Go.Proofs.Ytedfcehhgbeibaa.QFnBookStems
open Go.RowKit Go.Proofs.YtedfcehhgbeibaaW.PrintWords Go.Proofs.YtedfcehhgbeibaaW.PrintLast Go.Proofs.YtedfcehhgbeibaaW.PrintMore Go.Proofs.Ytedfcehhgbeibaa.Sh
attribute [local go_sem] max2_int min2_int max_two min_two max_three min_three max_four min_four   -- for this text's walks alone
set_option linter.unusedVariables false
set_option linter.unusedSimpArgs false
-- shrunk

/-! ### slices_Index_string_string: function 104 -/
def slices_Index_string_string.l0 : Nat → List ByteArray → ByteArray → Int → Int → Option (Int)
 | 0, _, _, _, _ => none
 | k + 1, x0, x1, x7, x8 => if x8 < x7 then (if 0 ≤ x8 then (if x8 < (x0.length : Int) then (if x1.toList = (rdOf ByteArray.empty x0 x8).toList then (some x8) else (slices_Index_string_string.l0 k x0 x1 x7 (wrap64 (x8 + 1)))) else (none)) else (none)) else (some (-1))
def slices_Index_string_string.f (k : Nat) (l0 : List ByteArray) (a1 : ByteArray) : Option (Int) := slices_Index_string_string.l0 k l0 a1 (l0.length : Int) 0
theorem slices_Index_string_string.mono_l : ∀ k, (∀ y0 y1 y2 y3, LeO (slices_Index_string_string.l0 k y0 y1 y2 y3) (slices_Index_string_string.l0 (k + 1) y0 y1 y2 y3))
 | 0 => fun _ _ _ _ r h => by simp [slices_Index_string_string.l0] at h
 | k + 1 => by
  have ih0 := slices_Index_string_string.mono_l k
  ·intro y0 y1 y2 y3
   unfold slices_Index_string_string.l0
   repeat' first | (with_reducible first | exact ih0 _ _ _ _ | exact LeO.refl _ | exact LeO.none _ | refine LeO.ite ?_ ?_ | refine LeO.bind ?_ (fun _ => ?_)) | exact ih0 _ _ _ _ | exact LeO.none _ | refine LeO.ite ?_ ?_ | refine LeO.bind ?_ (fun _ => ?_)
theorem slices_Index_string_string.mono : ∀ a0 a1 k, LeO (slices_Index_string_string.f k a0 a1) (slices_Index_string_string.f (k + 1) a0 a1) := by
 intro a0 a1 k; have ih0 := slices_Index_string_string.mono_l k
 unfold slices_Index_string_string.f
 repeat' first | (with_reducible first | exact ih0 _ _ _ _ | exact LeO.refl _ | exact LeO.none _ | refine LeO.ite ?_ ?_ | refine LeO.bind ?_ (fun _ => ?_)) | exact ih0 _ _ _ _ | exact LeO.none _ | refine LeO.ite ?_ ?_ | refine LeO.bind ?_ (fun _ => ?_)
set_option maxHeartbeats 8000000 in
set_option maxRecDepth 100000 in
theorem slices_Index_string_string.calls (k : Nat) (A0 : Option Addr) (c0 : Nat) (l0 : List ByteArray) (a1 : ByteArray) (r : Int) (w : World) (hr0 : Kd.C Kd.string w A0 l0.length l0) (hc0 : l0.length ≤ c0) (h : slices_Index_string_string.f k l0 a1 = some r) :
  Calls Try.prog 104 #[.slice A0 l0.length c0, .string a1] w fun e w' => e = .returned (.int .i64 r) ∧ Drawn0 w w' := by
 have HR0 := am hr0; have HC0 := am hc0; clear hr0 hc0
 have H : (slices_Index_string_string.l0 k l0 a1 (l0.length : Int) 0) = some r := h
 clear h
 have H' := am H
 clear H; go_enter Try.func104, Try.ntmps104; go_wp2
 go_loopg [8] k (fun kq v8 w' => ∃ (x8_1 : Int), v8 = .int .i64 x8_1 ∧ Aside0 (slices_Index_string_string.l0 kq l0 a1 (l0.length : Int) x8_1 = some r) ∧ Aside0 (kq ≤ k) ∧ Drawn0 w w')
 case atStart => exact ⟨(0), sq, H', ⟨Nat.le_refl _⟩, dr⟩
 case round =>
  clear H'; (try clear c1); (try clear p2); obtain ⟨x8_1, rfl, HA, HK1, ⟨m1, rfl⟩⟩ := hrel
  cases gk with
  | zero => exact absurd HA.out (by simp [slices_Index_string_string.l0])
  | succ k1 =>
   have H := HA.out; clear HA
   simp only [slices_Index_string_string.l0] at H
   by_cases c3 : x8_1 < (l0.length : Int)
   ·rw [if_pos c3] at H; have c3b0 := decide_eq_true c3; clear c3
    by_cases c4 : 0 ≤ x8_1
    ·rw [if_pos c4] at H; have c4b0 := decide_eq_true c4; clear c4
     by_cases c5 : x8_1 < (l0.length : Int)
     ·rw [if_pos c5] at H; have c5b0 := decide_eq_true c5; clear c5
      by_cases c6 : a1.toList = (rdOf ByteArray.empty l0 x8_1).toList
      ·rw [if_pos c6] at H
       have c6b0 : (a1.toList == (rdOf ByteArray.empty l0 x8_1).toList) = true := beq_iff_eq.mpr c6
       have c6b1 : (a1.toList != (rdOf ByteArray.empty l0 x8_1).toList) = false := bne_eq_false_iff_eq.mpr c6
       clear c6; obtain rfl := Option.some.inj H
       have p198 : 0 ≤ (x8_1 : Int) := of_decide_eq_true ad
       have q198 : x8_1 < (l0.length : Int) := of_decide_eq_true ad
       obtain ⟨ad198, e198, hx198_0⟩ := Kd.at_string HR0.out x8_1 p198 q198
       cases e198
       replace p198 := eq_true p198; replace q198 := eq_true q198; go_wp2; go_ret
       exact ⟨sq, dr⟩
      ·rw [if_neg c6] at H
       have c6b0 : (a1.toList == (rdOf ByteArray.empty l0 x8_1).toList) = false := beq_eq_false_iff_ne.mpr c6
       have c6b1 : (a1.toList != (rdOf ByteArray.empty l0 x8_1).toList) = true := bne_iff_ne.mpr c6
       have H' := am H
       clear H
       have p198 : 0 ≤ (x8_1 : Int) := of_decide_eq_true ad
       have q198 : x8_1 < (l0.length : Int) := of_decide_eq_true ad
       obtain ⟨ad198, e198, hx198_0⟩ := Kd.at_string HR0.out x8_1 p198 q198
       cases e198
       replace p198 := eq_true p198; replace q198 := eq_true q198; go_wp2
       go_roundg k1
       case measure => have := HK1.out; omega
       case rel => exact ⟨(wrap64 (x8_1 + 1)), sq, H', ⟨b66_⟩, dr⟩
     ·rw [if_neg c5] at H
      exact absurd H (by simp)
    ·rw [if_neg c4] at H
     exact absurd H (by simp)
   ·rw [if_neg c3] at H; have c3b0 := decide_eq_false c3; clear c3; obtain rfl := Option.some.inj H; go_wp2; go_ret
    exact ⟨sq, dr⟩

/-! ### slices_Contains_string_string: function 82 -/
def slices_Contains_string_string.f (k : Nat) (l0 : List ByteArray) (a1 : ByteArray) : Option (Bool) := (slices_Index_string_string.f k l0 a1).bind fun t199 => (some (decide (t199 ≥ 0)))
theorem slices_Contains_string_string.mono : ∀ a0 a1 k, LeO (slices_Contains_string_string.f k a0 a1) (slices_Contains_string_string.f (k + 1) a0 a1) := by
 intro a0 a1 k
 unfold slices_Contains_string_string.f
 repeat' first | (with_reducible first | exact slices_Index_string_string.mono _ _ _ | exact LeO.refl _ | exact LeO.none _ | refine LeO.ite ?_ ?_ | refine LeO.bind ?_ (fun _ => ?_)) | exact slices_Index_string_string.mono _ _ _ | exact LeO.none _ | refine LeO.ite ?_ ?_ | refine LeO.bind ?_ (fun _ => ?_)
set_option maxHeartbeats 8000000 in
set_option maxRecDepth 100000 in
theorem slices_Contains_string_string.calls (k : Nat) (A0 : Option Addr) (c0 : Nat) (l0 : List ByteArray) (a1 : ByteArray) (r : Bool) (w : World) (hr0 : Kd.C Kd.string w A0 l0.length l0) (hc0 : l0.length ≤ c0) (h : slices_Contains_string_string.f k l0 a1 = some r) :
  Calls Try.prog 82 #[.slice A0 l0.length c0, .string a1] w fun e w' => e = .returned (.bool r) ∧ Drawn0 w w' := by
 have HR0 := am hr0; have HC0 := am hc0; clear hr0 hc0
 have H : ((slices_Index_string_string.f k l0 a1).bind fun t199 => (some (decide (t199 ≥ 0)))) = some r := h
 clear h; replace H := Option.bind_eq_some_iff.mp H; obtain ⟨t199, A30, H⟩ := H; replace H : (some (decide (t199 ≥ 0))) = some r := H; have A3 := Aside0.mk A30; clear A30; obtain rfl := Option.some.inj H; go_enter Try.func82, Try.ntmps82
 go_wp2_with (first | ((with_reducible refine gate_callee (f := 104) rfl ?_); refine goesL_ (some 7) rfl rfl Try.func104 (by kernel_rfl) rfl #[.slice A0 l0.length c0, .string a1] rfl mq ?_; (with_reducible refine (slices_Index_string_string.calls k _ _ l0 a1 t199 _ ?side1 ?side2 A3.out).mono ?_); (case side1 => repeat (first | exact HR0.out | (with_reducible refine Kd.C_alloc ?_ _) | (with_reducible refine Kd.C_drewN ?_ _) | (with_reducible refine Kd.C_drew ?_))); (case side2 => exact HC0.out); rintro e w' ⟨rfl, ⟨nd, rfl⟩⟩; refine ⟨_, rfl, ?_⟩))
 go_ret
 exact ⟨sq, dr⟩

/-! ### impl_BookStems: function 43 -/
def impl_BookStems.l0 : Nat → ByteArray → List ByteArray → List (S31) → Int → Int → List (S44) → List (S31) → Option (List ByteArray)
 | 0, _, _, _, _, _, _, _ => none
 | k + 1, x1, x5, x14, x15, x16, x201000, x201001 => if x16 < x15 then (if 0 ≤ x16 then (if x16 < (x14.length : Int) then ((impl_Forms.f k x201000 ((rd_T31 x14 x16).f0) ((rd_T31 x14 x16).f1)).bind fun t207 => ((slices_Contains_string_string.f k t207 x1).bind fun t210 => (if t210 = true then (if x5.length < 8796093022208 then (impl_BookStems.l0 k x1 (x5 ++ [(rd_T31 x14 x16).f0]) x14 x15 (wrap64 (x16 + 1)) x201000 x201001) else (none)) else (impl_BookStems.l0 k x1 x5 x14 x15 (wrap64 (x16 + 1)) x201000 x201001)))) else (none)) else (none)) else (some x5)
def impl_BookStems.f (k : Nat) (l0_0 : List (S44)) (l0_1 : List (S31)) (a1 : ByteArray) : Option (List ByteArray) := (some (([] : List ByteArray) : List ByteArray)).bind fun y201 => ((impl_BookOk.f k l0_0 l0_1).bind fun t204 => (if t204 = true then (impl_BookStems.l0 k a1 y201 l0_1 (l0_1.length : Int) 0 l0_0 l0_1) else (some y201)))
theorem impl_BookStems.mono_l : ∀ k, (∀ y0 y1 y2 y3 y4 y5 y6, LeO (impl_BookStems.l0 k y0 y1 y2 y3 y4 y5 y6) (impl_BookStems.l0 (k + 1) y0 y1 y2 y3 y4 y5 y6))
 | 0 => fun _ _ _ _ _ _ _ r h => by simp [impl_BookStems.l0] at h
 | k + 1 => by
  have ih0 := impl_BookStems.mono_l k
  ·intro y0 y1 y2 y3 y4 y5 y6
   unfold impl_BookStems.l0
   repeat' first | (with_reducible first | exact ih0 _ _ _ _ _ _ _ | exact impl_BookOk.mono _ _ _ | exact impl_Forms.mono _ _ _ _ | exact slices_Contains_string_string.mono _ _ _ | exact LeO.refl _ | exact LeO.none _ | refine LeO.ite ?_ ?_ | refine LeO.bind ?_ (fun _ => ?_)) | exact ih0 _ _ _ _ _ _ _ | exact impl_BookOk.mono _ _ _ | exact impl_Forms.mono _ _ _ _ | exact slices_Contains_string_string.mono _ _ _ | exact LeO.none _ | refine LeO.ite ?_ ?_ | refine LeO.bind ?_ (fun _ => ?_)
theorem impl_BookStems.mono : ∀ a0 a1 a2 k, LeO (impl_BookStems.f k a0 a1 a2) (impl_BookStems.f (k + 1) a0 a1 a2) := by
 intro a0 a1 a2 k; have ih0 := impl_BookStems.mono_l k
 unfold impl_BookStems.f
 repeat' first | (with_reducible first | exact ih0 _ _ _ _ _ _ _ | exact impl_BookOk.mono _ _ _ | exact impl_Forms.mono _ _ _ _ | exact slices_Contains_string_string.mono _ _ _ | exact LeO.refl _ | exact LeO.none _ | refine LeO.ite ?_ ?_ | refine LeO.bind ?_ (fun _ => ?_)) | exact ih0 _ _ _ _ _ _ _ | exact impl_BookOk.mono _ _ _ | exact impl_Forms.mono _ _ _ _ | exact slices_Contains_string_string.mono _ _ _ | exact LeO.none _ | refine LeO.ite ?_ ?_ | refine LeO.bind ?_ (fun _ => ?_)
set_option maxHeartbeats 8000000 in
set_option maxRecDepth 100000 in
theorem impl_BookStems.calls (k : Nat) (A0_0 : Option Addr) (c0_0 : Nat) (l0_0 : List (S44)) (A0_1 : Option Addr) (c0_1 : Nat) (l0_1 : List (S31)) (a1 : ByteArray) (r : List ByteArray) (w : World) (hr0_0 : Kd.C k44 w A0_0 l0_0.length l0_0) (hc0_0 : l0_0.length ≤ c0_0) (hr0_1 : Kd.C k31 w A0_1 l0_1.length l0_1) (hc0_1 : l0_1.length ≤ c0_1) (h : impl_BookStems.f k l0_0 l0_1 a1 = some r) :
  Calls Try.prog 43 #[.agg #[.slice A0_0 l0_0.length c0_0, .slice A0_1 l0_1.length c0_1], .string a1] w fun e w' => ∃ v0_ : Value, e = .returned (v0_) ∧ Kd.R Kd.string 9 w' w.heap.size (fun _ => True) v0_ r ∧ Below w.heap.size w w' := by
 have hu55 := Try.underlying55; have hu31 := Try.underlying31; have HR0_0 := am hr0_0; have HC0_0 := am hc0_0; clear hr0_0 hc0_0; have HR0_1 := am hr0_1; have HC0_1 := am hc0_1; clear hr0_1 hc0_1; have HB := am (Below.refl w.heap.size w)
 have H : ((some (([] : List ByteArray) : List ByteArray)).bind fun y201 => ((impl_BookOk.f k l0_0 l0_1).bind fun t204 => (if t204 = true then (impl_BookStems.l0 k a1 y201 l0_1 (l0_1.length : Int) 0 l0_0 l0_1) else (some y201)))) = some r := h
 clear h; obtain ⟨y201, hy201⟩ : ∃ y_ : List ByteArray, y_ = (([] : List ByteArray)) := ⟨_, rfl⟩
 replace H : ((impl_BookOk.f k l0_0 l0_1).bind fun t204 => (if t204 = true then (impl_BookStems.l0 k a1 y201 l0_1 (l0_1.length : Int) 0 l0_0 l0_1) else (some y201))) = some r := by first | (rw [hy201]; with_reducible exact H) | (have H2_ := (Option.bind_some _ _).symm.trans H; rw [hy201]; with_reducible exact H2_) | (have H2_ := (Option.bind_some _ _).symm.trans H; with_reducible exact H2_) | with_reducible exact H | (rw [hy201]; exact H) | exact H
 have Ny201 := am hy201; clear hy201; replace H := Option.bind_eq_some_iff.mp H; obtain ⟨t204, A30, H⟩ := H; replace H : (if t204 = true then (impl_BookStems.l0 k a1 y201 l0_1 (l0_1.length : Int) 0 l0_0 l0_1) else (some y201)) = some r := H; have A3 := Aside0.mk A30; clear A30
 by_cases c4 : t204 = true
 ·subst c4
  have H1 : (impl_BookStems.l0 k a1 y201 l0_1 (l0_1.length : Int) 0 l0_0 l0_1) = some r := b36_
  replace H := H1; clear H1
  have H' := am H
  clear H; go_enter Try.func43, Try.ntmps43
  go_wp2_with (first | ((with_reducible refine gate_dst (N := 2) rfl ?_); refine bx 2 (cs := #[.slice A0_0 l0_0.length c0_0, .slice A0_1 l0_1.length c0_1]) (t := 55) ?_; intro gb200 hg w5 hbox hb; have BK200 := am (hbox); have GW200 := am ((b20_ : w.heap.size ≤ gb200)); have GE200 := am ((b20_ : w.heap.size ≤ gb200)); replace HB := am (below_step bel hb); clear hb hbox hg) | ((with_reducible refine gate_dst (N := 8) rfl ?_); refine Kd.R_lit Kd.string _ 9 ?hg (N := 8) ?hd (xs := ([] : List ByteArray)) (inner := []) (ok := fun _ => True) (okp := fun _ => True) ?hr ?hp (fun _ hk => hk) trivial (Below.refl _ _) (Nat.le_refl _) (by simp) ?_; (case hd => rfl); (case hg => rfl); (case hr => first | (go_simp; done) | (go_simp; rfl)); (case hp => exact (Reps.none _ _)); intro v202 w6 ho7 hb hg_ hnew_; clear hg_ hnew_; (first | rw [← Ny201.out] at ho7 | (simp only [Int.reduceToNat] at ho7; rw [← Ny201.out] at ho7) | (simp only [Int.toNat_natCast] at ho7; rw [← Ny201.out] at ho7)); have HO203 := am (Kd.R_lower ho7 (below_size (bel1 GE200.out))); replace BK200 := am (blk_below (g := gb200) (o := .cells #[.slice A0_0 l0_0.length c0_0, .slice A0_1 l0_1.length c0_1] 55 (0, 0)) (bq BK200.out) hb); replace HB := am (below_step (bel1 GE200.out) hb); clear hb ho7; have hcz8_0 := bc BK200.out 0; have hcz8_1 := bc BK200.out 1; have hfz8_0 := bf BK200.out 0; have hfz8_1 := bf BK200.out 1) | ((with_reducible refine gate_callee (f := 38) rfl ?_); refine goesL_ (some 10) rfl rfl Try.func38 (by kernel_rfl) rfl #[.agg #[.slice A0_0 l0_0.length c0_0, .slice A0_1 l0_1.length c0_1]] rfl mq ?_; (with_reducible refine (impl_BookOk.calls k _ _ l0_0 _ _ l0_1 true _ ?side1 ?side2 ?side3 ?side4 A3.out).mono ?_); (case side1 => exact cq (Kd.C_below HR0_0.out HB.out)); (case side2 => exact HC0_0.out); (case side3 => exact cq (Kd.C_below HR0_1.out HB.out)); (case side4 => exact HC0_1.out); rintro e w9 ⟨rfl, hb⟩; refine ⟨_, rfl, ?_⟩; replace HO203 := am (Kd.R_below (rq HO203.out) hb); replace BK200 := am (blk_below (g := gb200) (o := .cells #[.slice A0_0 l0_0.length c0_0, .slice A0_1 l0_1.length c0_1] 55 (0, 0)) (bq BK200.out) hb); replace HB := am (below_step (bel1 GE200.out) hb); (try clear hb); (try clear hb2); (try clear hk); (try clear hi); have hcz10_0 := bc BK200.out 0; have hcz10_1 := bc BK200.out 1; have hfz10_0 := bf BK200.out 0; have hfz10_1 := bf BK200.out 1))
  go_loopg [5, 16] k (fun kq v5 v16 w' => ∃ (x5_1 : List ByteArray) (x16_1 : Int), v16 = .int .i64 x16_1 ∧ Aside0 (impl_BookStems.l0 kq a1 x5_1 l0_1 (l0_1.length : Int) x16_1 l0_0 l0_1 = some r) ∧ Aside0 (kq ≤ k) ∧ Aside0 (Kd.R Kd.string 9 w' w.heap.size (fun _ => True) v5 x5_1) ∧ Aside0 (w'.heap[gb200]? = some (.cells #[(.slice A0_0 l0_0.length c0_0), (.slice A0_1 l0_1.length c0_1)] 55 (0, 0))) ∧ Aside0 (Below w.heap.size w w'))
  case atStart => exact ⟨(y201), (0), sq, H', ⟨Nat.le_refl _⟩, ⟨rq HO203.out⟩, ⟨bq BK200.out⟩, ⟨bel1 GE200.out⟩⟩
  case round =>
   clear H'; (try clear p2); (try clear c3); (try clear c4); (try clear hcz10_0); (try clear hcz10_1); (try clear hcz8_0); (try clear hcz8_1); (try clear hfz10_0); (try clear hfz10_1); (try clear hfz8_0); (try clear hfz8_1); obtain ⟨x5_1, x16_1, rfl, HA, HK1, HO_5, BK200, HB⟩ := hrel
   cases gk with
   | zero => exact absurd HA.out (by simp [impl_BookStems.l0])
   | succ k1 =>
    have H := HA.out; clear HA
    simp only [impl_BookStems.l0] at H
    by_cases c11 : x16_1 < (l0_1.length : Int)
    ·rw [if_pos c11] at H; have c11b0 := decide_eq_true c11; clear c11
     by_cases c12 : 0 ≤ x16_1
     ·rw [if_pos c12] at H; have c12b0 := decide_eq_true c12; clear c12
      by_cases c13 : x16_1 < (l0_1.length : Int)
      ·rw [if_pos c13] at H; have c13b0 := decide_eq_true c13; clear c13; replace H := Option.bind_eq_some_iff.mp H; obtain ⟨t207, A140, H⟩ := H; replace H : ((slices_Contains_string_string.f k1 t207 a1).bind fun t210 => (if t210 = true then (if x5_1.length < 8796093022208 then (impl_BookStems.l0 k1 a1 (x5_1 ++ [(rd_T31 l0_1 x16_1).f0]) l0_1 (l0_1.length : Int) (wrap64 (x16_1 + 1)) l0_0 l0_1) else (none)) else (impl_BookStems.l0 k1 a1 x5_1 l0_1 (l0_1.length : Int) (wrap64 (x16_1 + 1)) l0_0 l0_1))) = some r := H; have A14 := Aside0.mk A140; clear A140; replace H := Option.bind_eq_some_iff.mp H; obtain ⟨t210, A150, H⟩ := H; replace H : (if t210 = true then (if x5_1.length < 8796093022208 then (impl_BookStems.l0 k1 a1 (x5_1 ++ [(rd_T31 l0_1 x16_1).f0]) l0_1 (l0_1.length : Int) (wrap64 (x16_1 + 1)) l0_0 l0_1) else (none)) else (impl_BookStems.l0 k1 a1 x5_1 l0_1 (l0_1.length : Int) (wrap64 (x16_1 + 1)) l0_0 l0_1)) = some r := H; have A15 := Aside0.mk A150; clear A150
       by_cases c16 : t210 = true
       ·subst c16
        have H1 : (if x5_1.length < 8796093022208 then (impl_BookStems.l0 k1 a1 (x5_1 ++ [(rd_T31 l0_1 x16_1).f0]) l0_1 (l0_1.length : Int) (wrap64 (x16_1 + 1)) l0_0 l0_1) else (none)) = some r := b36_
        replace H := H1; clear H1
        by_cases c17 : x5_1.length < 8796093022208
        ·rw [if_pos c17] at H; have LMc17 := Aside0.mk c17; clear c17; obtain ⟨y211, hy211⟩ : ∃ y_ : List ByteArray, y_ = (x5_1 ++ [(rd_T31 l0_1 x16_1).f0]) := ⟨_, rfl⟩
         replace H : (impl_BookStems.l0 k1 a1 y211 l0_1 (l0_1.length : Int) (wrap64 (x16_1 + 1)) l0_0 l0_1) = some r := by first | (rw [hy211]; with_reducible exact H) | (have H2_ := (Option.bind_some _ _).symm.trans H; rw [hy211]; with_reducible exact H2_) | (have H2_ := (Option.bind_some _ _).symm.trans H; with_reducible exact H2_) | with_reducible exact H | (rw [hy211]; exact H) | exact H
         have Ny211 := am hy211; clear hy211
         have H' := am H
         clear H
         have p205 : 0 ≤ (x16_1 : Int) := of_decide_eq_true ad
         have q205 : x16_1 < (l0_1.length : Int) := of_decide_eq_true ad
         obtain ⟨ad205, e205, hx205_0, hx205_1⟩ := at_T31 HR0_1.out x16_1 p205 q205
         cases e205
         replace hx205_0 := kp HB.out hx205_0; replace hx205_1 := kp HB.out hx205_1; replace p205 := eq_true p205; replace q205 := eq_true q205
         go_wp2_with (first | ((with_reducible refine gate_dst (N := 7) rfl ?_); refine bx 7 (cs := #[.string (⟨#[]⟩ : ByteArray), .string (⟨#[]⟩ : ByteArray)]) (t := 31) ?_; intro gb206 hg w18 hbox hb; replace HO_5 := am (Kd.R_below (rq HO_5.out) hb); have BK206 := am (hbox); have GW206 := am ((b81_ : w.heap.size ≤ gb206)); have GE206 := am ((b81_ : w.heap.size ≤ gb206)); replace HB := am (below_step (bel1 GE200.out) hb); have NB200_206 := am ((b77_ : gb200 ≠ gb206)); have NB206_200 := am ((b78_ : gb206 ≠ gb200)); replace BK200 := am (blk_below (g := gb200) (o := .cells #[.slice A0_0 l0_0.length c0_0, .slice (some ad205) l0_1.length c0_1] 55 (0, 0)) (bq BK200.out) hb); clear hb hbox hg; have hnb19 := NB206_200.out; have hnc19 := NB200_206.out; have hcz20_0 := bc BK206.out 0; have hcz20_1 := bc BK206.out 1; have hfz20_0 := bf BK206.out 0; have hfz20_1 := bf BK206.out 1; have hcz21_0 := bc BK200.out 0; have hcz21_1 := bc BK200.out 1; have hfz21_0 := bf BK200.out 0; have hfz21_1 := bf BK200.out 1) | ((with_reducible refine gate_callee (f := 20) rfl ?_); refine goesL_ (some 23) rfl rfl Try.func20 (by kernel_rfl) rfl #[.slice A0_0 l0_0.length c0_0, .agg #[.string ((rd_T31 l0_1 x16_1).f0), .string ((rd_T31 l0_1 x16_1).f1)]] rfl mq ?_; (with_reducible refine (impl_Forms.calls k1 _ _ l0_0 ((rd_T31 l0_1 x16_1).f0) ((rd_T31 l0_1 x16_1).f1) t207 _ ?side1 ?side2 A14.out).mono ?_); (case side1 => exact Kd.C_below HR0_0.out (bel2 GE200.out GE206.out)); (case side2 => exact HC0_0.out); rintro e w22 ⟨v208, rfl, ho0, hb⟩; refine ⟨_, rfl, ?_⟩; have HO209 := am (Kd.R_lower (Kd.R_new' ho0 (Kd.R_lt (rq ((Kd.R_mono (Kd.R_far (p := ⟨gb206, 1, none⟩) (Kd.R_far (p := ⟨gb206, 0, none⟩) (Kd.R_types HO_5.out BK206.out (by decide)) (fun _ hk => hk.2) (.string ((rd_T31 l0_1 x16_1).f0))) (fun _ hk => hk.2) (.string ((rd_T31 l0_1 x16_1).f1))) (fun _ h_ => h_.1)))))) (below_size (bel2 GE200.out GE206.out))); replace HO_5 := am (Kd.R_elder' (rq ((Kd.R_mono (Kd.R_far (p := ⟨gb206, 1, none⟩) (Kd.R_far (p := ⟨gb206, 0, none⟩) (Kd.R_types HO_5.out BK206.out (by decide)) (fun _ hk => hk.2) (.string ((rd_T31 l0_1 x16_1).f0))) (fun _ hk => hk.2) (.string ((rd_T31 l0_1 x16_1).f1))) (fun _ h_ => h_.1)))) (Kd.R_base ho0) hb); replace BK200 := am (blk_below (g := gb200) (o := .cells #[.slice A0_0 l0_0.length c0_0, .slice (some ad205) l0_1.length c0_1] 55 (0, 0)) b50_ hb); replace BK206 := am (blk_below (g := gb206) (o := .cells #[.string ((rd_T31 l0_1 x16_1).f0), .string ((rd_T31 l0_1 x16_1).f1)] 31 (0, 0)) b44_ hb); replace HB := am (below_step (bel2 GE200.out GE206.out) hb); (try clear hb); (try clear hb2); (try clear hk); (try clear hi); (try clear ho0); obtain ⟨Ao23, co23, eo23⟩ := Kd.R_slice HO209.out; subst eo23) | ((with_reducible refine gate_callee (f := 82) rfl ?_); refine goesL_ (some 25) rfl rfl Try.func82 (by kernel_rfl) rfl #[.slice Ao23 t207.length co23, .string a1] rfl mq ?_; (with_reducible refine (slices_Contains_string_string.calls k1 _ _ t207 a1 true _ ?side1 ?side2 A15.out).mono ?_); (case side1 => exact cq (Kd.R_reads' HO209.out).2.2); (case side2 => exact (Kd.R_reads' HO209.out).2.1); rintro e w' ⟨rfl, ⟨nd, rfl⟩⟩; refine ⟨_, rfl, ?_⟩; have hcz24_0 := bc BK206.out 0; have hcz24_1 := bc BK206.out 1; have hfz24_0 := bf BK206.out 0; have hfz24_1 := bf BK206.out 1) | ((with_reducible refine gate_builtin (b := .append) (xs := #[.tmp 26, .tmp 29]) rfl ?_); at_builtin; refine Kd.R_append Kd.string (w0 := w) w.heap.size rfl (.tmp 26) (.tmp 29) 27 9 (.string ⟨#[]⟩) 16 rfl Try.underlying27 info9 rfl (by decide) (by omega) u5 x5_1 ((rd_T31 l0_1 x16_1).f0) [.string ((rd_T31 l0_1 x16_1).f0)] (fun k_ => some k_ ≠ (.slice Ao23 t207.length co23 : Value).ownBlock) (fun _ => False) rfl rfl ?aP (fun _ hk => hk.elim) ?aF ?aO ?aB ?aS ?aL ?_; (case aP => exact rfl); (case aB => exact (bel2 GE200.out GE206.out)); (case aF => exact (fun k_ hk => Kd.fresh' (Kd.R_lt (rq HO209.out)) k_ hk)); (case aO => exact (rq (Kd.R_mono HO_5.out (fun _ hk => hk.2)))); (case aS => exact (below_size (bel2 GE200.out GE206.out))); (case aL => have := LMc17.out; omega); intro v212 w25 ho hb hg hat; rw [← Ny211.out] at ho; replace BK200 := am (blk_grown (g := gb200) (o := .cells #[.slice A0_0 l0_0.length c0_0, .slice (some ad205) l0_1.length c0_1] 55 (0, 0)) (bq BK200.out) hg (Kd.R_ne HO_5.out BK200.out (by decide))); replace BK206 := am (blk_grown (g := gb206) (o := .cells #[.string ((rd_T31 l0_1 x16_1).f0), .string ((rd_T31 l0_1 x16_1).f1)] 31 (0, 0)) (bq BK206.out) hg (Kd.R_ne HO_5.out BK206.out (by decide))); replace HO209 := am (Kd.R_after (ok := (fun _ => True)) (rq HO209.out) hg hat); replace HB := am (hb); have HO213 := am (ho); clear HO_5; clear ho hb hg hat))
         go_roundg k1
         case measure => have := HK1.out; omega
         case rel => exact ⟨(y211), (wrap64 (x16_1 + 1)), sq, H', ⟨b66_⟩, ⟨rq (Kd.R_mono HO213.out (fun _ hk => trivial))⟩, ⟨bq BK200.out⟩, ⟨bel2 GE200.out GE206.out⟩⟩
        ·rw [if_neg c17] at H
         exact absurd H (by simp)
       ·replace c16 := Bool.eq_false_iff.mpr c16; subst c16
        have H1 : (impl_BookStems.l0 k1 a1 x5_1 l0_1 (l0_1.length : Int) (wrap64 (x16_1 + 1)) l0_0 l0_1) = some r := b18_
        replace H := H1; clear H1
        have H' := am H
        clear H
        have p205 : 0 ≤ (x16_1 : Int) := of_decide_eq_true ad
        have q205 : x16_1 < (l0_1.length : Int) := of_decide_eq_true ad
        obtain ⟨ad205, e205, hx205_0, hx205_1⟩ := at_T31 HR0_1.out x16_1 p205 q205
        cases e205
        replace hx205_0 := kp HB.out hx205_0; replace hx205_1 := kp HB.out hx205_1; replace p205 := eq_true p205; replace q205 := eq_true q205
        go_wp2_with (first | ((with_reducible refine gate_dst (N := 7) rfl ?_); refine bx 7 (cs := #[.string (⟨#[]⟩ : ByteArray), .string (⟨#[]⟩ : ByteArray)]) (t := 31) ?_; intro gb206 hg w26 hbox hb; replace HO_5 := am (Kd.R_below (rq HO_5.out) hb); have BK206 := am (hbox); have GW206 := am ((b81_ : w.heap.size ≤ gb206)); have GE206 := am ((b81_ : w.heap.size ≤ gb206)); replace HB := am (below_step (bel1 GE200.out) hb); have NB200_206 := am ((b77_ : gb200 ≠ gb206)); have NB206_200 := am ((b78_ : gb206 ≠ gb200)); replace BK200 := am (blk_below (g := gb200) (o := .cells #[.slice A0_0 l0_0.length c0_0, .slice (some ad205) l0_1.length c0_1] 55 (0, 0)) (bq BK200.out) hb); clear hb hbox hg; have hnb27 := NB206_200.out; have hnc27 := NB200_206.out; have hcz28_0 := bc BK206.out 0; have hcz28_1 := bc BK206.out 1; have hfz28_0 := bf BK206.out 0; have hfz28_1 := bf BK206.out 1; have hcz29_0 := bc BK200.out 0; have hcz29_1 := bc BK200.out 1; have hfz29_0 := bf BK200.out 0; have hfz29_1 := bf BK200.out 1) | ((with_reducible refine gate_callee (f := 20) rfl ?_); refine goesL_ (some 23) rfl rfl Try.func20 (by kernel_rfl) rfl #[.slice A0_0 l0_0.length c0_0, .agg #[.string ((rd_T31 l0_1 x16_1).f0), .string ((rd_T31 l0_1 x16_1).f1)]] rfl mq ?_; (with_reducible refine (impl_Forms.calls k1 _ _ l0_0 ((rd_T31 l0_1 x16_1).f0) ((rd_T31 l0_1 x16_1).f1) t207 _ ?side1 ?side2 A14.out).mono ?_); (case side1 => exact Kd.C_below HR0_0.out (bel2 GE200.out GE206.out)); (case side2 => exact HC0_0.out); rintro e w30 ⟨v208, rfl, ho0, hb⟩; refine ⟨_, rfl, ?_⟩; have HO209 := am (Kd.R_lower (Kd.R_new' ho0 (Kd.R_lt (rq ((Kd.R_mono (Kd.R_far (p := ⟨gb206, 1, none⟩) (Kd.R_far (p := ⟨gb206, 0, none⟩) (Kd.R_types HO_5.out BK206.out (by decide)) (fun _ hk => hk.2) (.string ((rd_T31 l0_1 x16_1).f0))) (fun _ hk => hk.2) (.string ((rd_T31 l0_1 x16_1).f1))) (fun _ h_ => h_.1)))))) (below_size (bel2 GE200.out GE206.out))); replace HO_5 := am (Kd.R_elder' (rq ((Kd.R_mono (Kd.R_far (p := ⟨gb206, 1, none⟩) (Kd.R_far (p := ⟨gb206, 0, none⟩) (Kd.R_types HO_5.out BK206.out (by decide)) (fun _ hk => hk.2) (.string ((rd_T31 l0_1 x16_1).f0))) (fun _ hk => hk.2) (.string ((rd_T31 l0_1 x16_1).f1))) (fun _ h_ => h_.1)))) (Kd.R_base ho0) hb); replace BK200 := am (blk_below (g := gb200) (o := .cells #[.slice A0_0 l0_0.length c0_0, .slice (some ad205) l0_1.length c0_1] 55 (0, 0)) b50_ hb); replace BK206 := am (blk_below (g := gb206) (o := .cells #[.string ((rd_T31 l0_1 x16_1).f0), .string ((rd_T31 l0_1 x16_1).f1)] 31 (0, 0)) b44_ hb); replace HB := am (below_step (bel2 GE200.out GE206.out) hb); (try clear hb); (try clear hb2); (try clear hk); (try clear hi); (try clear ho0); obtain ⟨Ao31, co31, eo31⟩ := Kd.R_slice HO209.out; subst eo31) | ((with_reducible refine gate_callee (f := 82) rfl ?_); refine goesL_ (some 25) rfl rfl Try.func82 (by kernel_rfl) rfl #[.slice Ao31 t207.length co31, .string a1] rfl mq ?_; (with_reducible refine (slices_Contains_string_string.calls k1 _ _ t207 a1 false _ ?side1 ?side2 A15.out).mono ?_); (case side1 => exact cq (Kd.R_reads' HO209.out).2.2); (case side2 => exact (Kd.R_reads' HO209.out).2.1); rintro e w' ⟨rfl, ⟨nd, rfl⟩⟩; refine ⟨_, rfl, ?_⟩))
        go_roundg k1
        case measure => have := HK1.out; omega
        case rel => exact ⟨(x5_1), (wrap64 (x16_1 + 1)), sq, H', ⟨b66_⟩, ⟨rq (Kd.R_mono HO_5.out (fun _ hk => trivial))⟩, ⟨bq BK200.out⟩, ⟨bel2 GE200.out GE206.out⟩⟩
      ·rw [if_neg c13] at H
       exact absurd H (by simp)
     ·rw [if_neg c12] at H
      exact absurd H (by simp)
    ·rw [if_neg c11] at H; have c11b0 := decide_eq_false c11; clear c11; obtain rfl := Option.some.inj H; go_wp2; go_ret
     exact ⟨_, eq_, by (with_reducible repeat (first | apply Kd.R_alloc | apply Kd.R_drewN | apply Kd.R_drew)); exact HO_5.out, bel1 GE200.out⟩
 ·replace c4 := Bool.eq_false_iff.mpr c4; subst c4
  have H1 : (some y201) = some r := b18_
  replace H := H1; clear H1
  obtain rfl := Option.some.inj H; go_enter Try.func43, Try.ntmps43
  go_wp2_with (first | ((with_reducible refine gate_dst (N := 2) rfl ?_); refine bx 2 (cs := #[.slice A0_0 l0_0.length c0_0, .slice A0_1 l0_1.length c0_1]) (t := 55) ?_; intro gb200 hg w32 hbox hb; have BK200 := am (hbox); have GW200 := am ((b20_ : w.heap.size ≤ gb200)); have GE200 := am ((b20_ : w.heap.size ≤ gb200)); replace HB := am (below_step bel hb); clear hb hbox hg) | ((with_reducible refine gate_dst (N := 8) rfl ?_); refine Kd.R_lit Kd.string _ 9 ?hg (N := 8) ?hd (xs := ([] : List ByteArray)) (inner := []) (ok := fun _ => True) (okp := fun _ => True) ?hr ?hp (fun _ hk => hk) trivial (Below.refl _ _) (Nat.le_refl _) (by simp) ?_; (case hd => rfl); (case hg => rfl); (case hr => first | (go_simp; done) | (go_simp; rfl)); (case hp => exact (Reps.none _ _)); intro v202 w33 ho34 hb hg_ hnew_; clear hg_ hnew_; (first | rw [← Ny201.out] at ho34 | (simp only [Int.reduceToNat] at ho34; rw [← Ny201.out] at ho34) | (simp only [Int.toNat_natCast] at ho34; rw [← Ny201.out] at ho34)); have HO203 := am (Kd.R_lower ho34 (below_size (bel1 GE200.out))); replace BK200 := am (blk_below (g := gb200) (o := .cells #[.slice A0_0 l0_0.length c0_0, .slice A0_1 l0_1.length c0_1] 55 (0, 0)) (bq BK200.out) hb); replace HB := am (below_step (bel1 GE200.out) hb); clear hb ho34; have hcz35_0 := bc BK200.out 0; have hcz35_1 := bc BK200.out 1; have hfz35_0 := bf BK200.out 0; have hfz35_1 := bf BK200.out 1) | ((with_reducible refine gate_callee (f := 38) rfl ?_); refine goesL_ (some 10) rfl rfl Try.func38 (by kernel_rfl) rfl #[.agg #[.slice A0_0 l0_0.length c0_0, .slice A0_1 l0_1.length c0_1]] rfl mq ?_; (with_reducible refine (impl_BookOk.calls k _ _ l0_0 _ _ l0_1 false _ ?side1 ?side2 ?side3 ?side4 A3.out).mono ?_); (case side1 => exact cq (Kd.C_below HR0_0.out HB.out)); (case side2 => exact HC0_0.out); (case side3 => exact cq (Kd.C_below HR0_1.out HB.out)); (case side4 => exact HC0_1.out); rintro e w36 ⟨rfl, hb⟩; refine ⟨_, rfl, ?_⟩; replace HO203 := am (Kd.R_below (rq HO203.out) hb); replace BK200 := am (blk_below (g := gb200) (o := .cells #[.slice A0_0 l0_0.length c0_0, .slice A0_1 l0_1.length c0_1] 55 (0, 0)) (bq BK200.out) hb); replace HB := am (below_step (bel1 GE200.out) hb); (try clear hb); (try clear hb2); (try clear hk); (try clear hi)))
  go_ret
  exact ⟨_, eq_, by (with_reducible repeat (first | apply Kd.R_alloc | apply Kd.R_drewN | apply Kd.R_drew)); exact HO203.out, bel1 GE200.out⟩

end Go.Proofs.Ytedfcehhgbeibaa.QFnBookStems

import Derived.Test.YtedfcehhgbeibaaQFnNearx0
import Derived.Test.YtedfcehhgbeibaaQFnNearx1
import Derived.Test.YtedfcehhgbeibaaQFnNearx4
import Derived.Test.YtedfcehhgbeibaaVMSh2
namespace Go.Proofs.Ytedfcehhgbeibaa.QFnNear
open Go.RowKit Go.Proofs.YtedfcehhgbeibaaW.PrintWords Go.Proofs.YtedfcehhgbeibaaW.PrintLast Go.Proofs.YtedfcehhgbeibaaW.PrintMore Go.Proofs.Ytedfcehhgbeibaa.Sh
attribute [local go_sem] max2_int min2_int max_two min_two max_three min_three max_four min_four   -- for this text's walks alone
set_option linter.unusedVariables false
set_option linter.unusedSimpArgs false
-- shrunk

/-! ### spec_Near: function 46 -/
def spec_Near.f (k : Nat) (a0 : ByteArray) : Option (List ByteArray) := (spec_l1Word.f k a0).bind fun t157 => (if t157 = true then ((spec_l1Near.f k a0).bind fun t158 => (some t158)) else (some (([] : List ByteArray))))
theorem spec_Near.mono : ∀ a0 k, LeO (spec_Near.f k a0) (spec_Near.f (k + 1) a0) := by
 intro a0 k
 unfold spec_Near.f
 repeat' first | (with_reducible first | exact spec_l1Near.mono _ _ | exact spec_l1Word.mono _ _ | exact LeO.refl _ | exact LeO.none _ | refine LeO.ite ?_ ?_ | refine LeO.bind ?_ (fun _ => ?_)) | exact spec_l1Near.mono _ _ | exact spec_l1Word.mono _ _ | exact LeO.none _ | refine LeO.ite ?_ ?_ | refine LeO.bind ?_ (fun _ => ?_)
set_option maxHeartbeats 8000000 in
set_option maxRecDepth 100000 in
theorem spec_Near.calls (k : Nat) (a0 : ByteArray) (r : List ByteArray) (w : World) (h : spec_Near.f k a0 = some r) :
  Calls Try.prog 46 #[.string a0] w fun e w' => ∃ v0_ : Value, e = .returned (v0_) ∧ Kd.V Kd.string 9 w' w.heap.size (fun k_ => (w.heap.size ≤ k_)) v0_ r ∧ Below w.heap.size w w' := by
 have HB := am (Below.refl w.heap.size w)
 have H : ((spec_l1Word.f k a0).bind fun t157 => (if t157 = true then ((spec_l1Near.f k a0).bind fun t158 => (some t158)) else (some (([] : List ByteArray))))) = some r := h
 clear h; replace H := Option.bind_eq_some_iff.mp H; obtain ⟨t157, A20, H⟩ := H; replace H : (if t157 = true then ((spec_l1Near.f k a0).bind fun t158 => (some t158)) else (some (([] : List ByteArray)))) = some r := H; have A2 := Aside0.mk A20; clear A20
 by_cases c3 : t157 = true
 ·subst c3
  have H1 : ((spec_l1Near.f k a0).bind fun t158 => (some t158)) = some r := b17_
  replace H := H1; clear H1
  replace H := Option.bind_eq_some_iff.mp H; obtain ⟨t158, A40, H⟩ := H; replace H : (some t158) = some r := H; have A4 := Aside0.mk A40; clear A40; obtain rfl := Option.some.inj H; go_enter Try.func46, Try.ntmps46
  go_wp2_with (first | ((with_reducible refine gate_callee (f := 84) rfl ?_); refine goesL_ (some 4) rfl rfl Try.func84 (by kernel_rfl) rfl #[.string a0] rfl mq ?_; (with_reducible refine (spec_l1Word.calls k a0 true _ A2.out).mono ?_); rintro e w' ⟨rfl, ⟨nd, rfl⟩⟩; refine ⟨_, rfl, ?_⟩) | ((with_reducible refine gate_callee (f := 85) rfl ?_); refine goesL_ (some 8) rfl rfl Try.func85 (by kernel_rfl) rfl #[.string a0] rfl mq ?_; (with_reducible refine (spec_l1Near.calls k a0 t158 _ A4.out).mono ?_); rintro e w5 ⟨v159, rfl, ho0, hb⟩; refine ⟨_, rfl, ?_⟩; have HO160 := am (Kd.V_lower (Kd.V_mono (ok' := fun k_ => (w.heap.size ≤ k_)) ho0 (fun k_ hk_ => (Nat.le_trans (below_size bel) hk_))) (below_size bel)); replace HB := am (below_step bel hb); (try clear hb); (try clear hb2); (try clear hk); (try clear hi); (try clear ho0)))
  go_ret
  exact ⟨_, eq_, by (with_reducible repeat (first | apply Kd.V_alloc | apply Kd.V_drewN | apply Kd.V_drew)); exact HO160.out, bel⟩
 ·replace c3 := Bool.eq_false_iff.mpr c3; subst c3
  have H1 : (some (([] : List ByteArray))) = some r := b12_
  replace H := H1; clear H1
  obtain ⟨y161, hy161⟩ : ∃ y_ : List ByteArray, y_ = (([] : List ByteArray)) := ⟨_, rfl⟩
  replace H : (some y161) = some r := by first | (rw [hy161]; with_reducible exact H) | (have H2_ := (Option.bind_some _ _).symm.trans H; rw [hy161]; with_reducible exact H2_) | (have H2_ := (Option.bind_some _ _).symm.trans H; with_reducible exact H2_) | with_reducible exact H | (rw [hy161]; exact H) | exact H
  have Ny161 := am hy161; clear hy161; obtain rfl := Option.some.inj H; go_enter Try.func46, Try.ntmps46
  go_wp2_with (first | ((with_reducible refine gate_callee (f := 84) rfl ?_); refine goesL_ (some 4) rfl rfl Try.func84 (by kernel_rfl) rfl #[.string a0] rfl mq ?_; (with_reducible refine (spec_l1Word.calls k a0 false _ A2.out).mono ?_); rintro e w' ⟨rfl, ⟨nd, rfl⟩⟩; refine ⟨_, rfl, ?_⟩) | ((with_reducible refine gate_dst (N := 6) rfl ?_); refine Kd.R_lit Kd.string _ 9 ?hg (N := 6) ?hd (xs := ([] : List ByteArray)) (inner := []) (ok := fun _ => True) (okp := fun _ => True) ?hr ?hp (fun _ hk => hk) trivial (Below.refl _ _) (Nat.le_refl _) (by simp) ?_; (case hd => rfl); (case hg => rfl); (case hr => first | (go_simp; done) | (go_simp; rfl)); (case hp => exact (Reps.none _ _)); intro v162 w6 ho7 hb hg_ hnew_; clear hg_ hnew_; (first | rw [← Ny161.out] at ho7 | (simp only [Int.reduceToNat] at ho7; rw [← Ny161.out] at ho7) | (simp only [Int.toNat_natCast] at ho7; rw [← Ny161.out] at ho7)); have HO163 := am (Kd.R_lower (Kd.R_newM (M := fun k_ => (w.heap.size ≤ k_)) ho7 (below_size bel) (fun k_ h_ => h_)) (below_size bel)); replace HB := am (below_step bel hb); clear hb ho7))
  go_ret
  exact ⟨_, eq_, Kd.R_V (rq (Kd.R_mono HO163.out (fun _ hk => hk.1))), bel⟩

/-! ### impl_within: function 72 -/
def impl_within.f (a0 : Int) (a1 : Int) (a2 : Int) : Option (Bool) := if a0 ≥ a1 then (some (decide (a0 ≤ a2))) else (some false)
set_option maxHeartbeats 8000000 in
set_option maxRecDepth 100000 in
theorem impl_within.calls (a0 : Int) (a1 : Int) (a2 : Int) (r : Bool) (w : World) (h : impl_within.f a0 a1 a2 = some r) :
  Calls Try.prog 72 #[.int .i64 a0, .int .i64 a1, .int .i64 a2] w fun e w' => e = .returned (.bool r) ∧ Drawn0 w w' := by
 have H : (if a0 ≥ a1 then (some (decide (a0 ≤ a2))) else (some false)) = some r := h
 clear h
 by_cases c4 : a0 ≥ a1
 ·rw [if_pos c4] at H; have c4b0 := decide_eq_true c4; clear c4; obtain rfl := Option.some.inj H; go_enter Try.func72, Try.ntmps72; go_wp2; go_ret
  exact ⟨sq, dr⟩
 ·rw [if_neg c4] at H; have c4b0 := decide_eq_false c4; clear c4; obtain rfl := Option.some.inj H; go_enter Try.func72, Try.ntmps72; go_wp2; go_ret
  exact ⟨sq, dr⟩

/-! ### impl_lower: function 73 -/
def impl_lower.l0 : Nat → ByteArray → Int → Int → Option (Bool)
 | 0, _, _, _ => none
 | k + 1, x0, x5, x6 => if x6 < x5 then (if 0 ≤ x6 then (if x6 < (x0.size : Int) then (if (bt x0 x6) < 97 then (some false) else (if (bt x0 x6) > 122 then (some false) else (impl_lower.l0 k x0 x5 (wrap64 (x6 + 1))))) else (none)) else (none)) else (some true)
def impl_lower.f (k : Nat) (a0 : ByteArray) : Option (Bool) := impl_lower.l0 k a0 (a0.size : Int) 0
theorem impl_lower.mono_l : ∀ k, (∀ y0 y1 y2, LeO (impl_lower.l0 k y0 y1 y2) (impl_lower.l0 (k + 1) y0 y1 y2))
 | 0 => fun _ _ _ r h => by simp [impl_lower.l0] at h
 | k + 1 => by
  have ih0 := impl_lower.mono_l k
  ·intro y0 y1 y2
   unfold impl_lower.l0
   repeat' first | (with_reducible first | exact ih0 _ _ _ | exact LeO.refl _ | exact LeO.none _ | refine LeO.ite ?_ ?_ | refine LeO.bind ?_ (fun _ => ?_)) | exact ih0 _ _ _ | exact LeO.none _ | refine LeO.ite ?_ ?_ | refine LeO.bind ?_ (fun _ => ?_)
theorem impl_lower.mono : ∀ a0 k, LeO (impl_lower.f k a0) (impl_lower.f (k + 1) a0) := by
 intro a0 k; have ih0 := impl_lower.mono_l k
 unfold impl_lower.f
 repeat' first | (with_reducible first | exact ih0 _ _ _ | exact LeO.refl _ | exact LeO.none _ | refine LeO.ite ?_ ?_ | refine LeO.bind ?_ (fun _ => ?_)) | exact ih0 _ _ _ | exact LeO.none _ | refine LeO.ite ?_ ?_ | refine LeO.bind ?_ (fun _ => ?_)
set_option maxHeartbeats 8000000 in
set_option maxRecDepth 100000 in
theorem impl_lower.calls (k : Nat) (a0 : ByteArray) (r : Bool) (w : World) (h : impl_lower.f k a0 = some r) :
  Calls Try.prog 73 #[.string a0] w fun e w' => e = .returned (.bool r) ∧ Drawn0 w w' := by
 have H : (impl_lower.l0 k a0 (a0.size : Int) 0) = some r := h
 clear h
 have H' := am H
 clear H; go_enter Try.func73, Try.ntmps73; go_wp2
 go_loopg [6] k (fun kq v6 w' => ∃ (x6_1 : Int), v6 = .int .i64 x6_1 ∧ Aside0 (impl_lower.l0 kq a0 (a0.size : Int) x6_1 = some r) ∧ Aside0 (kq ≤ k) ∧ Drawn0 w w')
 case atStart => exact ⟨(0), sq, H', ⟨Nat.le_refl _⟩, dr⟩
 case round =>
  clear H'; obtain ⟨x6_1, rfl, HA, HK1, ⟨m1, rfl⟩⟩ := hrel
  cases gk with
  | zero => exact absurd HA.out (by simp [impl_lower.l0])
  | succ k1 =>
   have H := HA.out; clear HA
   simp only [impl_lower.l0] at H
   by_cases c2 : x6_1 < (a0.size : Int)
   ·rw [if_pos c2] at H; have c2b0 := decide_eq_true c2; clear c2
    by_cases c3 : 0 ≤ x6_1
    ·rw [if_pos c3] at H; have c3b0 := decide_eq_true c3; clear c3
     by_cases c4 : x6_1 < (a0.size : Int)
     ·rw [if_pos c4] at H; have c4b0 := decide_eq_true c4; clear c4
      by_cases c6 : (bt a0 x6_1) < 97
      ·rw [if_pos c6] at H; have c6b0 := decide_eq_true c6; clear c6; obtain rfl := Option.some.inj H
       have p5 : 0 ≤ (x6_1 : Int) := of_decide_eq_true ad
       have q5 : x6_1 < (a0.size : Int) := of_decide_eq_true ad
       have hx5 := bt_at a0 x6_1; replace p5 := eq_true p5; replace q5 := eq_true q5; go_wp2; go_ret
       exact ⟨sq, dr⟩
      ·rw [if_neg c6] at H; have c6b0 := decide_eq_false c6; clear c6
       by_cases c8 : (bt a0 x6_1) > 122
       ·rw [if_pos c8] at H; have c8b0 := decide_eq_true c8; clear c8; obtain rfl := Option.some.inj H
        have p5 : 0 ≤ (x6_1 : Int) := of_decide_eq_true ad
        have q5 : x6_1 < (a0.size : Int) := of_decide_eq_true ad
        have hx5 := bt_at a0 x6_1; replace p5 := eq_true p5; replace q5 := eq_true q5
        have p7 : 0 ≤ (x6_1 : Int) := of_decide_eq_true ad
        have q7 : x6_1 < (a0.size : Int) := of_decide_eq_true ad
        have hx7 := bt_at a0 x6_1; replace p7 := eq_true p7; replace q7 := eq_true q7; go_wp2; go_ret
        exact ⟨sq, dr⟩
       ·rw [if_neg c8] at H; have c8b0 := decide_eq_false c8; clear c8
        have H' := am H
        clear H
        have p5 : 0 ≤ (x6_1 : Int) := of_decide_eq_true ad
        have q5 : x6_1 < (a0.size : Int) := of_decide_eq_true ad
        have hx5 := bt_at a0 x6_1; replace p5 := eq_true p5; replace q5 := eq_true q5
        have p7 : 0 ≤ (x6_1 : Int) := of_decide_eq_true ad
        have q7 : x6_1 < (a0.size : Int) := of_decide_eq_true ad
        have hx7 := bt_at a0 x6_1; replace p7 := eq_true p7; replace q7 := eq_true q7; go_wp2
        go_roundg k1
        case measure => have := HK1.out; omega
        case rel => exact ⟨(wrap64 (x6_1 + 1)), sq, H', ⟨by have := HK1.out; omega⟩, dr⟩
     ·rw [if_neg c4] at H
      exact absurd H (by simp)
    ·rw [if_neg c3] at H
     exact absurd H (by simp)
   ·rw [if_neg c2] at H; have c2b0 := decide_eq_false c2; clear c2; obtain rfl := Option.some.inj H; go_wp2; go_ret
    exact ⟨sq, dr⟩

/-! ### impl_WordOk: function 30 -/
def impl_WordOk.f (k : Nat) (a0 : ByteArray) : Option (Bool) := (impl_within.f (a0.size : Int) 1 12).bind fun t164 => (if t164 = true then ((impl_lower.f k a0).bind fun t165 => (some t165)) else (some false))
theorem impl_WordOk.mono : ∀ a0 k, LeO (impl_WordOk.f k a0) (impl_WordOk.f (k + 1) a0) := by
 intro a0 k
 unfold impl_WordOk.f
 repeat' first | (with_reducible first | exact impl_lower.mono _ _ | exact LeO.refl _ | exact LeO.none _ | refine LeO.ite ?_ ?_ | refine LeO.bind ?_ (fun _ => ?_)) | exact impl_lower.mono _ _ | exact LeO.none _ | refine LeO.ite ?_ ?_ | refine LeO.bind ?_ (fun _ => ?_)
set_option maxHeartbeats 8000000 in
set_option maxRecDepth 100000 in
theorem impl_WordOk.calls (k : Nat) (a0 : ByteArray) (r : Bool) (w : World) (h : impl_WordOk.f k a0 = some r) :
  Calls Try.prog 30 #[.string a0] w fun e w' => e = .returned (.bool r) ∧ Drawn0 w w' := by
 have H : ((impl_within.f (a0.size : Int) 1 12).bind fun t164 => (if t164 = true then ((impl_lower.f k a0).bind fun t165 => (some t165)) else (some false))) = some r := h
 clear h; replace H := Option.bind_eq_some_iff.mp H; obtain ⟨t164, A20, H⟩ := H; replace H : (if t164 = true then ((impl_lower.f k a0).bind fun t165 => (some t165)) else (some false)) = some r := H; have A2 := Aside0.mk A20; clear A20
 by_cases c3 : t164 = true
 ·subst c3
  have H1 : ((impl_lower.f k a0).bind fun t165 => (some t165)) = some r := b17_
  replace H := H1; clear H1
  replace H := Option.bind_eq_some_iff.mp H; obtain ⟨t165, A40, H⟩ := H; replace H : (some t165) = some r := H; have A4 := Aside0.mk A40; clear A40; obtain rfl := Option.some.inj H; go_enter Try.func30, Try.ntmps30
  go_wp2_with (first | ((with_reducible refine gate_callee (f := 72) rfl ?_); refine goesL_ (some 5) rfl rfl Try.func72 (by kernel_rfl) rfl #[.int .i64 (a0.size : Int), .int .i64 1, .int .i64 12] rfl mq ?_; (with_reducible refine (impl_within.calls (a0.size : Int) 1 12 true _ A2.out).mono ?_); rintro e w' ⟨rfl, ⟨nd, rfl⟩⟩; refine ⟨_, rfl, ?_⟩) | (go_at_call 73; (with_reducible refine (impl_lower.calls k a0 t165 _ A4.out).mono ?_); rintro e w' ⟨rfl, ⟨nd, rfl⟩⟩))
  go_ret
  exact ⟨sq, dr⟩
 ·replace c3 := Bool.eq_false_iff.mpr c3; subst c3
  have H1 : (some false) = some r := b12_
  replace H := H1; clear H1
  obtain rfl := Option.some.inj H; go_enter Try.func30, Try.ntmps30
  go_wp2_with (first | ((with_reducible refine gate_callee (f := 72) rfl ?_); refine goesL_ (some 5) rfl rfl Try.func72 (by kernel_rfl) rfl #[.int .i64 (a0.size : Int), .int .i64 1, .int .i64 12] rfl mq ?_; (with_reducible refine (impl_within.calls (a0.size : Int) 1 12 false _ A2.out).mono ?_); rintro e w' ⟨rfl, ⟨nd, rfl⟩⟩; refine ⟨_, rfl, ?_⟩))
  go_ret
  exact ⟨sq, dr⟩

/-! ### impl_sorted: function 60 -/
/-- A list in ascending order, each once. -/
def impl_sorted.f (l0 : List ByteArray) : Option (List ByteArray) := if l0.length ≤ 1000000000 then some (M.setL l0) else none
def impl_sorted.ba (l : List UInt8) : ByteArray := ⟨l.toArray⟩
theorem impl_sorted.encs_ba (ss : List (List UInt8)) : encs Value.string (ss.map impl_sorted.ba) = ss.map encStr := by
 unfold encs
 rw [List.map_map]
 rfl
theorem impl_sorted.own {W : World} {base : Nat} {v : Value} {ss : List (List UInt8)} (h : Kd.R Kd.string 9 W base (fun _ => True) v (ss.map impl_sorted.ba)) : W.ownsRow base 9 1 v ss.length (ss.map encStr) := by
 have := Kd.own_of_R h
 rw [impl_sorted.encs_ba, List.length_map] at this
 exact this
theorem impl_sorted.row {W : World} {base : Nat} {v : Value} {ss : List (List UInt8)} (h : W.ownsRow base 9 1 v ss.length (ss.map encStr)) : Kd.R Kd.string 9 W base (fun _ => True) v (ss.map impl_sorted.ba) :=
 Kd.R_of_own (by rw [impl_sorted.encs_ba, List.length_map]; exact h) (fun _ _ => trivial)
theorem impl_sorted.holds {w : World} {base : Nat} {g n cap : Nat} {zs : List (List UInt8)} (h : w.ownsRow base 9 1 (.slice (some ⟨g, 0, none⟩) n cap) n (zs.map encStr)) :
  base ≤ g ∧ g < w.heap.size ∧ n ≤ cap ∧ zs.length = n ∧ Sort.Holds encStr w g 0 zs.toArray := by
 obtain ⟨g', cap', e, h1, h2, h3, _, h5, h6⟩ := Go.Lib.holds_of_ownsRow h (by intro e; cases e)
 cases e
 exact ⟨h1, h2, h3, h5, h6⟩
set_option maxHeartbeats 1000000 in
theorem impl_sorted.sort {w0 W : World} {base : Nat} {v : Value} {ss : List (List UInt8)} (h : Kd.R Kd.string 9 W base (fun _ => True) v (ss.map impl_sorted.ba)) (hB : Below base w0 W) (hbase : base ≤ W.heap.size) (hl : ss.length ≤ 1000000000) :
  Calls Try.prog 95 #[v] W fun e w' => e = .returned (.tuple #[]) ∧ Kd.R Kd.string 9 w' base (fun _ => True) v ((ss.mergeSort M.leU).map impl_sorted.ba) ∧ Below base w0 w' ∧ base ≤ w'.heap.size := by
 have ho := impl_sorted.own h
 rcases ho.2 with ⟨rfl, h0⟩ | ⟨g, cap, cur, rfl, hb, hg, h1, h2, h3, h4⟩
 ·have e0 : ss = [] := List.length_eq_zero_iff.1 h0
  subst e0
  have := Any.slices_Sort_string_none Try.laySort none 0 W
  change Calls Try.prog 95 _ _ _ at this
  refine this.mono ?_
  rintro e w' ⟨he, rfl⟩
  exact ⟨he, by simpa using h, hB, hbase⟩
 ·obtain ⟨hbg, hgl, hc, _, hH⟩ := impl_sorted.holds ho
  have := Any.slices_Sort_string Try.laySort g 0 cap ss W hH hgl (by omega)
  change Calls Try.prog 95 _ _ _ at this
  refine this.mono ?_
  rintro e w' ⟨he, n, os, rfl⟩
  have hl2 : (ss.mergeSort M.leU).length = ss.length := List.length_mergeSort ss
  have hs := ownsRow_sorted (n := n) (os := os) (ts := ss.mergeSort M.leU) hl2 hb hg h1 h2 h3; rw [← hl2] at hs
  refine ⟨he, ?_, ?_, ?_⟩
  ·have := impl_sorted.row hs
   rw [hl2] at this
   exact this
  ·exact hB.grown (grownBy_sorted _) hbase (fun j hj => by cases hj; exact hbg)
  ·exact Nat.le_trans hbase (grownBy_sorted (w := W) (g := g) (n := n) (os := os) (ss.mergeSort M.leU).toArray).size
set_option maxHeartbeats 1000000 in
theorem impl_sorted.compact {w0 W : World} {base : Nat} {v : Value} {ss : List (List UInt8)} (h : Kd.R Kd.string 9 W base (fun _ => True) v (ss.map impl_sorted.ba)) (hB : Below base w0 W) (hbase : base ≤ W.heap.size) (hl : ss.length ≤ 1000000000) :
  Calls Try.prog 96 #[v] W fun e w' => ∃ A c, e = .returned (.slice A (Go.Lib.compact ss).length c) ∧ Kd.R Kd.string 9 w' base (fun _ => True) (.slice A (Go.Lib.compact ss).length c) ((Go.Lib.compact ss).map impl_sorted.ba) ∧ Below base w0 w' ∧ W.grownBy w' v.ownBlock := by
 have ho := impl_sorted.own h
 rcases ho.2 with ⟨rfl, h0⟩ | ⟨g, cap, cur, rfl, hb, hg, h1, h2, h3, h4⟩
 ·have e0 : ss = [] := List.length_eq_zero_iff.1 h0
  subst e0
  have := Any.slices_Compact_string_empty Try.layCompact none 0 W
  change Calls Try.prog 96 _ _ _ at this
  refine this.mono ?_
  rintro e w' ⟨he, rfl⟩
  exact ⟨none, 0, he, h, hB, ⟨rfl, rfl, rfl, Nat.le_refl _, fun _ _ _ => rfl⟩⟩
 ·obtain ⟨hbg, hgl, hc, _, hH⟩ := impl_sorted.holds ho
  have := Any.slices_Compact_string Try.layCompact g 0 cap ss W hH (by omega) h1
  change Calls Try.prog 96 _ _ _ at this
  refine this.mono ?_
  rintro e w' ⟨he, q, rfl⟩
  have hle := Go.Lib.compact_length_le ss
  have hc2 := Go.Lib.ownsRow_putRow (q := q) (k := (Go.Lib.compact ss).length) (ys := Go.Lib.compact ss ++ List.replicate (ss.length - (Go.Lib.compact ss).length) []) ho (by simp; omega) (by omega)
  rw [List.take_left] at hc2
  refine ⟨_, _, he, impl_sorted.row hc2, Go.Lib.below_putRow hB hbg, rfl, rfl, rfl, by simp [Sort.putRow, Sort.mapBlock, Sort.ahead], fun k hk hne => ?_⟩
  have : g ≠ k := fun e => hne (by rw [← e]; rfl)
  simp [Sort.putRow, Sort.mapBlock, Sort.ahead, Array.getElem?_modify, this]
theorem impl_sorted.apart {W W1 : World} {base : Nat} {v v9 : Value} {xs : List ByteArray} (h : Kd.R Kd.string 9 W base (fun _ => True) v xs) (h9 : Kd.R Kd.string 9 W1 base (fun _ => True) v9 []) (hn : ∃ b, v9.ownBlock = some b ∧ W.heap.size ≤ b) :
  Kd.R Kd.string 9 W1 base (fun k => some k ≠ v.ownBlock) v9 [] := by
 refine Kd.R_of_own (Kd.own_of_R h9) (fun k hk => ?_)
 obtain ⟨b, hb, hle⟩ := hn; rw [hb] at hk
 cases hk
 intro e
 rcases (Kd.own_of_R h).2 with ⟨rfl, _⟩ | ⟨g, cap, cur, rfl, hbg, hg, _⟩
 ·simp [Value.ownBlock] at e
 ·have e2 : k = g := by simpa [Value.ownBlock] using e
  have := (Array.getElem?_eq_some_iff.1 hg).1
  omega
theorem impl_sorted.ba_of (l : List ByteArray) : (l.map (·.data.toList)).map impl_sorted.ba = l := by
 rw [List.map_map]
 conv => rhs; rw [← List.map_id l]
 exact List.map_congr_left (fun x _ => M.ba_of x)
theorem impl_sorted.compactL {w0 W : World} {base : Nat} {v : Value} {l : List ByteArray} (h : Kd.R Kd.string 9 W base (fun _ => True) v (((l.map (·.data.toList)).mergeSort M.leU).map impl_sorted.ba)) (hB : Below base w0 W) (hbase : base ≤ W.heap.size) (hl : l.length ≤ 1000000000) :
  Calls Try.prog 96 #[v] W fun e w' => ∃ A c, e = .returned (.slice A (M.setL l).length c) ∧ Kd.R Kd.string 9 w' base (fun _ => True) (.slice A (M.setL l).length c) (M.setL l) ∧ Below base w0 w' ∧ W.grownBy w' v.ownBlock := by
 have := impl_sorted.compact (w0 := w0) h hB hbase (by rw [List.length_mergeSort, List.length_map]; exact hl)
 rw [M.sorted_eq, List.length_map, impl_sorted.ba_of] at this
 exact this

set_option maxHeartbeats 4000000 in
set_option maxRecDepth 100000 in
theorem impl_sorted.calls (A0 : Option Addr) (c0 : Nat) (l0 : List ByteArray) (r : List ByteArray) (w : World) (hr0 : Kd.C Kd.string w A0 l0.length l0) (hc0 : l0.length ≤ c0) (h : impl_sorted.f l0 = some r) :
  Calls Try.prog 60 #[.slice A0 l0.length c0] w fun e w' => ∃ v0_ : Value, e = .returned (v0_) ∧ Kd.R Kd.string 9 w' w.heap.size (fun _ => True) v0_ r ∧ Below w.heap.size w w' := by
 unfold impl_sorted.f at h
 split at h
 case isFalse => cases h
 rename_i hsz; obtain rfl := Option.some.inj h; clear h; have hsl := M.setL_length l0; have HR := am hr0; clear hr0; go_enter Try.func60, Try.ntmps60
 go_wp2_with (first
  | ((with_reducible refine gate_dst (N := 4) rfl ?_); refine Kd.R_lit Kd.string w.heap.size 9 ?hg (N := 4) ?hd (xs := ([] : List ByteArray)) (inner := []) (ok := fun _ => True) (okp := fun _ => True) ?hr ?hp (fun _ hk => hk) trivial (Below.refl _ _) (Nat.le_refl _) (by simp) ?_; (case hd => rfl); (case hg => rfl); (case hr => first | (go_simp; done) | (go_simp; rfl)); (case hp => exact (Reps.none _ _)); intro v4 w1 ho hb hg_ hnew_; have HO4 := am ho; have HB1 := am hb; clear ho hb hg_ hnew_)
  | ((with_reducible refine gate_builtin (b := .append) (xs := #[.tmp 4, .tmp 5]) rfl ?_); at_builtin; refine Kd.R_append_row Value.string (⟨#[]⟩ : ByteArray) (h1 := fun _ => rfl) (w0 := w) w.heap.size rfl (.tmp 4) (.tmp 5) 27 9 (.string ⟨#[]⟩) 16 rfl Try.underlying27 info9 rfl (by decide) v4 [] l0 A0 l0.length c0 (fun _ => True) rfl rfl (fun _ _ => trivial) HO4.out (Kd.C_below HR.out HB1.out) HB1.out (below_size HB1.out) (by simp; omega) ?_; intro v6 w2 ho hb hg_ hat_; rw [List.nil_append] at ho; have HO6 := am ho; have HB2 := am hb; clear ho hb hg_ hat_ HO4 HB1)
  | (go_at_call 95; refine (impl_sorted.sort (w0 := w) (base := w.heap.size) (ss := l0.map (·.data.toList)) (by rw [impl_sorted.ba_of]; exact HO6.out) HB2.out (below_size HB2.out) (by simpa using hsz)).mono ?_; rintro e w3 ⟨rfl, hR3, hB3, hs3⟩; have HO7 := am hR3; have HB3 := am hB3; clear hR3 hB3 hs3 HO6 HB2)
  | ((with_reducible refine gate_dst (N := 9) rfl ?_); refine Kd.R_lit Kd.string w.heap.size 9 ?hg (N := 9) ?hd (xs := ([] : List ByteArray)) (inner := []) (ok := fun _ => True) (okp := fun _ => True) ?hr ?hp (fun _ hk => hk) trivial HB3.out (below_size HB3.out) (by simp) ?_; (case hd => rfl); (case hg => rfl); (case hr => first | (go_simp; done) | (go_simp; rfl)); (case hp => exact (Reps.none _ _)); intro v9 w4 ho hb hg_ hnew_; have HO8 := am (Kd.R_mono (Kd.R_grown HO7.out hg_ (fun _ _ h => by cases h)) (fun _ _ => trivial)); have HO9 := am (impl_sorted.apart HO7.out ho hnew_); have HB4 := am hb; clear ho hb hg_ hnew_ HO7 HB3)
  | (go_at_call 96; refine (impl_sorted.compactL (w0 := w) (base := w.heap.size) HO8.out HB4.out (below_size HB4.out) hsz).mono ?_; rintro e w5 ⟨A5, c5, rfl, hR5, hB5, hg5⟩; have HO5 := am hR5; have HO9' := am (Kd.R_mono (Kd.R_grown HO9.out hg5 (fun _ h => h)) (fun _ _ => trivial)); have HB5 := am hB5; clear hR5 hB5 hg5 HO8 HO9 HB4)
  | ((with_reducible refine gate_builtin (b := .append) (xs := #[.tmp 9, .tmp 11]) rfl ?_); at_builtin; refine Kd.R_append_row Value.string (⟨#[]⟩ : ByteArray) (h1 := fun _ => rfl) (w0 := w) w.heap.size rfl (.tmp 9) (.tmp 11) 27 9 (.string ⟨#[]⟩) 16 rfl Try.underlying27 info9 rfl (by decide) v9 [] (M.setL l0) A5 (M.setL l0).length c5 (fun _ => True) rfl rfl (fun _ _ => trivial) HO9'.out (Kd.R_reads' HO5.out).2.2 HB5.out (below_size HB5.out) (by simp; omega) ?_; intro v12 w6 ho hb hg_ hat_; rw [List.nil_append] at ho; have HO12 := am ho; have HB6 := am hb; clear ho hb hg_ hat_ HO9' HB5))
 go_ret
 exact ⟨v12, rfl, HO12.out, HB6.out⟩

end Go.Proofs.Ytedfcehhgbeibaa.QFnNear

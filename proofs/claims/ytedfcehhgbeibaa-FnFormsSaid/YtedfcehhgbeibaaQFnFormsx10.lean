import Derived.Test.YtedfcehhgbeibaaQFnFormsx0
import Derived.Test.YtedfcehhgbeibaaQFnFormsx7
import Derived.Test.YtedfcehhgbeibaaVMSh2
namespace Go.Proofs.Ytedfcehhgbeibaa.QFnForms
open Go.RowKit Go.Proofs.YtedfcehhgbeibaaW.PrintWords Go.Proofs.YtedfcehhgbeibaaW.PrintLast Go.Proofs.YtedfcehhgbeibaaW.PrintMore Go.Proofs.Ytedfcehhgbeibaa.Sh
attribute [local go_sem] max2_int min2_int max_two min_two max_three min_three max_four min_four   -- for this text's walks alone
set_option linter.unusedVariables false
set_option linter.unusedSimpArgs false
-- shrunk

/-! ### impl_entryOk: function 58 -/
def impl_entryOk.l0 : Nat → Int → Int → ByteArray → ByteArray → Option (Bool)
 | 0, _, _, _, _ => none
 | k + 1, x6, x7, x219000, x219001 => if x7 < x6 then (if 0 ≤ x7 then (if x7 < (x219001.size : Int) then ((impl_upper.f (bt x219001 x7)).bind fun t219 => (if t219 = true then (if x7 > 0 then (if 0 ≤ (wrap64 (x7 - 1)) then (if (wrap64 (x7 - 1)) < (x219001.size : Int) then (if (bt x219001 (wrap64 (x7 - 1))) ≥ (bt x219001 x7) then (some false) else (impl_entryOk.l0 k x6 (wrap64 (x7 + 1)) x219000 x219001)) else (none)) else (none)) else (impl_entryOk.l0 k x6 (wrap64 (x7 + 1)) x219000 x219001)) else (some false))) else (none)) else (none)) else ((impl_WordOk.f k x219000).bind fun t220 => (if t220 = true then (some (decide ((x219001.size : Int) ≤ 4))) else (some false)))
def impl_entryOk.f (k : Nat) (a0_0 : ByteArray) (a0_1 : ByteArray) : Option (Bool) := impl_entryOk.l0 k (a0_1.size : Int) 0 a0_0 a0_1
theorem impl_entryOk.mono_l : ∀ k, (∀ y0 y1 y2 y3, LeO (impl_entryOk.l0 k y0 y1 y2 y3) (impl_entryOk.l0 (k + 1) y0 y1 y2 y3))
 | 0 => fun _ _ _ _ r h => by simp [impl_entryOk.l0] at h
 | k + 1 => by
  have ih0 := impl_entryOk.mono_l k
  ·intro y0 y1 y2 y3
   unfold impl_entryOk.l0
   repeat' first | (with_reducible first | exact ih0 _ _ _ _ | exact impl_WordOk.mono _ _ | exact LeO.refl _ | exact LeO.none _ | refine LeO.ite ?_ ?_ | refine LeO.bind ?_ (fun _ => ?_)) | exact ih0 _ _ _ _ | exact impl_WordOk.mono _ _ | exact LeO.none _ | refine LeO.ite ?_ ?_ | refine LeO.bind ?_ (fun _ => ?_)
theorem impl_entryOk.mono : ∀ a0 a1 k, LeO (impl_entryOk.f k a0 a1) (impl_entryOk.f (k + 1) a0 a1) := by
 intro a0 a1 k; have ih0 := impl_entryOk.mono_l k
 unfold impl_entryOk.f
 repeat' first | (with_reducible first | exact ih0 _ _ _ _ | exact impl_WordOk.mono _ _ | exact LeO.refl _ | exact LeO.none _ | refine LeO.ite ?_ ?_ | refine LeO.bind ?_ (fun _ => ?_)) | exact ih0 _ _ _ _ | exact impl_WordOk.mono _ _ | exact LeO.none _ | refine LeO.ite ?_ ?_ | refine LeO.bind ?_ (fun _ => ?_)
set_option maxHeartbeats 8000000 in
set_option maxRecDepth 100000 in
theorem impl_entryOk.calls (k : Nat) (a0_0 : ByteArray) (a0_1 : ByteArray) (r : Bool) (w : World) (h : impl_entryOk.f k a0_0 a0_1 = some r) :
  Calls Try.prog 58 #[.agg #[.string a0_0, .string a0_1]] w fun e w' => e = .returned (.bool r) ∧ Below w.heap.size w w' := by
 have hu31 := Try.underlying31; have HB := am (Below.refl w.heap.size w)
 have H : (impl_entryOk.l0 k (a0_1.size : Int) 0 a0_0 a0_1) = some r := h
 clear h
 have H' := am H
 clear H; go_enter Try.func58, Try.ntmps58
 go_wp2_with (first | ((with_reducible refine gate_dst (N := 1) rfl ?_); (try (refine gate_guard (by rfl) ?_; dsimp only)); refine bx 1 (cs := #[.string a0_0, .string a0_1]) (t := 31) ?_; intro gb218 hg w2 hbox hb; have BK218 := am (hbox); have GW218 := am ((b22_ : w.heap.size ≤ gb218)); have GE218 := am ((b22_ : w.heap.size ≤ gb218)); replace HB := am (below_step bel hb); clear hb hbox hg; have hcz3_0 := bc BK218.out 0; have hcz3_1 := bc BK218.out 1; have hfz3_0 := bf BK218.out 0; have hfz3_1 := bf BK218.out 1))
 repeat (go_quiet (first | ((with_reducible refine gate_dst (N := 1) rfl ?_); (try (refine gate_guard (by rfl) ?_; dsimp only)); refine bx 1 (cs := #[.string a0_0, .string a0_1]) (t := 31) ?_; intro gb218 hg w2 hbox hb; have BK218 := am (hbox); have GW218 := am ((b22_ : w.heap.size ≤ gb218)); have GE218 := am ((b22_ : w.heap.size ≤ gb218)); replace HB := am (below_step bel hb); clear hb hbox hg; have hcz3_0 := bc BK218.out 0; have hcz3_1 := bc BK218.out 1; have hfz3_0 := bf BK218.out 0; have hfz3_1 := bf BK218.out 1)); try go_wp2_with (first | ((with_reducible refine gate_dst (N := 1) rfl ?_); (try (refine gate_guard (by rfl) ?_; dsimp only)); refine bx 1 (cs := #[.string a0_0, .string a0_1]) (t := 31) ?_; intro gb218 hg w2 hbox hb; have BK218 := am (hbox); have GW218 := am ((b22_ : w.heap.size ≤ gb218)); have GE218 := am ((b22_ : w.heap.size ≤ gb218)); replace HB := am (below_step bel hb); clear hb hbox hg; have hcz3_0 := bc BK218.out 0; have hcz3_1 := bc BK218.out 1; have hfz3_0 := bf BK218.out 0; have hfz3_1 := bf BK218.out 1)))
 go_loopg [7] k (fun kq v7 w' => ∃ (x7_1 : Int), v7 = .int .i64 x7_1 ∧ Aside0 (impl_entryOk.l0 kq (a0_1.size : Int) x7_1 a0_0 a0_1 = some r) ∧ Aside0 (kq ≤ k) ∧ Aside0 (w'.heap[gb218]? = some (.cells #[.string a0_0, .string a0_1] 31 (0, 0))) ∧ Aside0 (Below w.heap.size w w'))
 case atStart => exact ⟨(0), sq, H', ⟨Nat.le_refl _⟩, ⟨bq BK218.out⟩, ⟨bel1 GE218.out⟩⟩
 case round =>
  clear H'; (try clear p2); (try clear hcz3_0); (try clear hcz3_1); (try clear hfz3_0); (try clear hfz3_1); obtain ⟨x7_1, rfl, HA, HK1, BK218, HB⟩ := hrel
  cases gk with
  | zero => exact absurd HA.out (by simp [impl_entryOk.l0])
  | succ k1 =>
   have H := HA.out; clear HA
   simp only [impl_entryOk.l0] at H
   by_cases c4 : x7_1 < (a0_1.size : Int)
   ·rw [if_pos c4] at H; have c4b0 := decide_eq_true c4; clear c4
    by_cases c5 : 0 ≤ x7_1
    ·rw [if_pos c5] at H; have c5b0 := decide_eq_true c5; clear c5
     by_cases c6 : x7_1 < (a0_1.size : Int)
     ·rw [if_pos c6] at H; have c6b0 := decide_eq_true c6; clear c6; replace H := Option.bind_eq_some_iff.mp H; obtain ⟨t219, A80, H⟩ := H; replace H : (if t219 = true then (if x7_1 > 0 then (if 0 ≤ (wrap64 (x7_1 - 1)) then (if (wrap64 (x7_1 - 1)) < (a0_1.size : Int) then (if (bt a0_1 (wrap64 (x7_1 - 1))) ≥ (bt a0_1 x7_1) then (some false) else (impl_entryOk.l0 k1 (a0_1.size : Int) (wrap64 (x7_1 + 1)) a0_0 a0_1)) else (none)) else (none)) else (impl_entryOk.l0 k1 (a0_1.size : Int) (wrap64 (x7_1 + 1)) a0_0 a0_1)) else (some false)) = some r := H; have A8 := Aside0.mk A80; clear A80
      by_cases c9 : t219 = true
      ·subst c9
       have H1 : (if x7_1 > 0 then (if 0 ≤ (wrap64 (x7_1 - 1)) then (if (wrap64 (x7_1 - 1)) < (a0_1.size : Int) then (if (bt a0_1 (wrap64 (x7_1 - 1))) ≥ (bt a0_1 x7_1) then (some false) else (impl_entryOk.l0 k1 (a0_1.size : Int) (wrap64 (x7_1 + 1)) a0_0 a0_1)) else (none)) else (none)) else (impl_entryOk.l0 k1 (a0_1.size : Int) (wrap64 (x7_1 + 1)) a0_0 a0_1)) = some r := b32_
       replace H := H1; clear H1
       by_cases c10 : x7_1 > 0
       ·rw [if_pos c10] at H; have c10b0 := decide_eq_true c10; clear c10; obtain ⟨ji11, hji11⟩ : ∃ j_ : Int, (wrap64 (x7_1 - 1)) = j_ := ⟨_, rfl⟩
        replace H : (if 0 ≤ (ji11) then (if (ji11) < (a0_1.size : Int) then (if (bt a0_1 (ji11)) ≥ (bt a0_1 x7_1) then (some false) else (impl_entryOk.l0 k1 (a0_1.size : Int) (wrap64 (x7_1 + 1)) a0_0 a0_1)) else (none)) else (none)) = some r := by first | (rw [hji11] at H; exact H) | (simp only [hji11] at H ⊢; exact H)
        (try rw [hji11] at A8)
        have hji11w : (IntKind.i64.wrap (x7_1 - 1)) = ji11 := (i64_w _).trans hji11
        by_cases c12 : 0 ≤ (ji11)
        ·rw [if_pos c12] at H; have c12b0 := decide_eq_true c12; clear c12
         by_cases c13 : (ji11) < (a0_1.size : Int)
         ·rw [if_pos c13] at H; have c13b0 := decide_eq_true c13; clear c13
          by_cases c16 : (bt a0_1 (ji11)) ≥ (bt a0_1 x7_1)
          ·rw [if_pos c16] at H; have c16b0 := decide_eq_true c16; clear c16; obtain rfl := Option.some.inj H; have hcz17_0 := bc BK218.out 0; have hcz17_1 := bc BK218.out 1; have hfz17_0 := bf BK218.out 0; have hfz17_1 := bf BK218.out 1
           have p7 : 0 ≤ (x7_1 : Int) := of_decide_eq_true ad
           have q7 : x7_1 < (a0_1.size : Int) := of_decide_eq_true ad
           have hx7 := bt_at a0_1 x7_1; replace p7 := eq_true p7; replace q7 := eq_true q7
           try have p14 : 0 ≤ ((ji11) : Int) := of_decide_eq_true ad
           try have q14 : (ji11) < (a0_1.size : Int) := of_decide_eq_true ad
           try have hx14 := bt_at a0_1 (ji11)
           try replace p14 := eq_true p14
           try replace q14 := eq_true q14
           try have p15 : 0 ≤ (x7_1 : Int) := of_decide_eq_true ad
           try have q15 : x7_1 < (a0_1.size : Int) := of_decide_eq_true ad
           try have hx15 := bt_at a0_1 x7_1
           try replace p15 := eq_true p15
           try replace q15 := eq_true q15
           go_wp2_with (first | (go_at_call 93; (with_reducible refine (impl_upper.calls (bt a0_1 x7_1) true _ A8.out).mono ?_); rintro e w' ⟨rfl, ⟨nd, rfl⟩⟩; first | exact ⟨rfl, _, World.drewN_drewN _ _ _⟩ | exact ⟨rfl, _, Eq.trans (World.drewN_drewN _ _ _) (congrArg (World.drewN _) (Nat.add_assoc _ _ _))⟩ | (have p14 : 0 ≤ ((ji11) : Int) := of_decide_eq_true ad; have q14 : (ji11) < (a0_1.size : Int) := of_decide_eq_true ad; have hx14 := bt_at a0_1 (ji11); replace p14 := eq_true p14; replace q14 := eq_true q14; have p15 : 0 ≤ (x7_1 : Int) := of_decide_eq_true ad; have q15 : x7_1 < (a0_1.size : Int) := of_decide_eq_true ad; have hx15 := bt_at a0_1 x7_1; replace p15 := eq_true p15; replace q15 := eq_true q15)))
           repeat (go_quiet (first | (go_at_call 93; (with_reducible refine (impl_upper.calls (bt a0_1 x7_1) true _ A8.out).mono ?_); rintro e w' ⟨rfl, ⟨nd, rfl⟩⟩; first | exact ⟨rfl, _, World.drewN_drewN _ _ _⟩ | exact ⟨rfl, _, Eq.trans (World.drewN_drewN _ _ _) (congrArg (World.drewN _) (Nat.add_assoc _ _ _))⟩ | (have p14 : 0 ≤ ((ji11) : Int) := of_decide_eq_true ad; have q14 : (ji11) < (a0_1.size : Int) := of_decide_eq_true ad; have hx14 := bt_at a0_1 (ji11); replace p14 := eq_true p14; replace q14 := eq_true q14; have p15 : 0 ≤ (x7_1 : Int) := of_decide_eq_true ad; have q15 : x7_1 < (a0_1.size : Int) := of_decide_eq_true ad; have hx15 := bt_at a0_1 x7_1; replace p15 := eq_true p15; replace q15 := eq_true q15))); try go_wp2_with (first | (go_at_call 93; (with_reducible refine (impl_upper.calls (bt a0_1 x7_1) true _ A8.out).mono ?_); rintro e w' ⟨rfl, ⟨nd, rfl⟩⟩; first | exact ⟨rfl, _, World.drewN_drewN _ _ _⟩ | exact ⟨rfl, _, Eq.trans (World.drewN_drewN _ _ _) (congrArg (World.drewN _) (Nat.add_assoc _ _ _))⟩ | (have p14 : 0 ≤ ((ji11) : Int) := of_decide_eq_true ad; have q14 : (ji11) < (a0_1.size : Int) := of_decide_eq_true ad; have hx14 := bt_at a0_1 (ji11); replace p14 := eq_true p14; replace q14 := eq_true q14; have p15 : 0 ≤ (x7_1 : Int) := of_decide_eq_true ad; have q15 : x7_1 < (a0_1.size : Int) := of_decide_eq_true ad; have hx15 := bt_at a0_1 x7_1; replace p15 := eq_true p15; replace q15 := eq_true q15))))
           go_ret
           exact ⟨by first | rfl | (simp [errW_none, errW_some] <;> rfl) | (simp only [← hji11]; first | rfl | (simp [errW_none, errW_some] <;> rfl)) | (simp [*, errW_none, errW_some] <;> rfl), bel1 GE218.out⟩
          ·rw [if_neg c16] at H; have c16b0 := decide_eq_false c16; clear c16
           have H' := am H
           clear H; have hcz18_0 := bc BK218.out 0; have hcz18_1 := bc BK218.out 1; have hfz18_0 := bf BK218.out 0; have hfz18_1 := bf BK218.out 1
           have p7 : 0 ≤ (x7_1 : Int) := of_decide_eq_true ad
           have q7 : x7_1 < (a0_1.size : Int) := of_decide_eq_true ad
           have hx7 := bt_at a0_1 x7_1; replace p7 := eq_true p7; replace q7 := eq_true q7
           try have p14 : 0 ≤ ((ji11) : Int) := of_decide_eq_true ad
           try have q14 : (ji11) < (a0_1.size : Int) := of_decide_eq_true ad
           try have hx14 := bt_at a0_1 (ji11)
           try replace p14 := eq_true p14
           try replace q14 := eq_true q14
           try have p15 : 0 ≤ (x7_1 : Int) := of_decide_eq_true ad
           try have q15 : x7_1 < (a0_1.size : Int) := of_decide_eq_true ad
           try have hx15 := bt_at a0_1 x7_1
           try replace p15 := eq_true p15
           try replace q15 := eq_true q15
           go_wp2_with (first | (go_at_call 93; (with_reducible refine (impl_upper.calls (bt a0_1 x7_1) true _ A8.out).mono ?_); rintro e w' ⟨rfl, ⟨nd, rfl⟩⟩; first | exact ⟨rfl, _, World.drewN_drewN _ _ _⟩ | exact ⟨rfl, _, Eq.trans (World.drewN_drewN _ _ _) (congrArg (World.drewN _) (Nat.add_assoc _ _ _))⟩ | (have p14 : 0 ≤ ((ji11) : Int) := of_decide_eq_true ad; have q14 : (ji11) < (a0_1.size : Int) := of_decide_eq_true ad; have hx14 := bt_at a0_1 (ji11); replace p14 := eq_true p14; replace q14 := eq_true q14; have p15 : 0 ≤ (x7_1 : Int) := of_decide_eq_true ad; have q15 : x7_1 < (a0_1.size : Int) := of_decide_eq_true ad; have hx15 := bt_at a0_1 x7_1; replace p15 := eq_true p15; replace q15 := eq_true q15)))
           repeat (go_quiet (first | (go_at_call 93; (with_reducible refine (impl_upper.calls (bt a0_1 x7_1) true _ A8.out).mono ?_); rintro e w' ⟨rfl, ⟨nd, rfl⟩⟩; first | exact ⟨rfl, _, World.drewN_drewN _ _ _⟩ | exact ⟨rfl, _, Eq.trans (World.drewN_drewN _ _ _) (congrArg (World.drewN _) (Nat.add_assoc _ _ _))⟩ | (have p14 : 0 ≤ ((ji11) : Int) := of_decide_eq_true ad; have q14 : (ji11) < (a0_1.size : Int) := of_decide_eq_true ad; have hx14 := bt_at a0_1 (ji11); replace p14 := eq_true p14; replace q14 := eq_true q14; have p15 : 0 ≤ (x7_1 : Int) := of_decide_eq_true ad; have q15 : x7_1 < (a0_1.size : Int) := of_decide_eq_true ad; have hx15 := bt_at a0_1 x7_1; replace p15 := eq_true p15; replace q15 := eq_true q15))); try go_wp2_with (first | (go_at_call 93; (with_reducible refine (impl_upper.calls (bt a0_1 x7_1) true _ A8.out).mono ?_); rintro e w' ⟨rfl, ⟨nd, rfl⟩⟩; first | exact ⟨rfl, _, World.drewN_drewN _ _ _⟩ | exact ⟨rfl, _, Eq.trans (World.drewN_drewN _ _ _) (congrArg (World.drewN _) (Nat.add_assoc _ _ _))⟩ | (have p14 : 0 ≤ ((ji11) : Int) := of_decide_eq_true ad; have q14 : (ji11) < (a0_1.size : Int) := of_decide_eq_true ad; have hx14 := bt_at a0_1 (ji11); replace p14 := eq_true p14; replace q14 := eq_true q14; have p15 : 0 ≤ (x7_1 : Int) := of_decide_eq_true ad; have q15 : x7_1 < (a0_1.size : Int) := of_decide_eq_true ad; have hx15 := bt_at a0_1 x7_1; replace p15 := eq_true p15; replace q15 := eq_true q15))))
           go_roundg k1
           case measure => have := HK1.out; omega
           case rel => exact ⟨(wrap64 (x7_1 + 1)), sq, H', ⟨b80_⟩, ⟨bq BK218.out⟩, ⟨bel1 GE218.out⟩⟩
         ·rw [if_neg c13] at H
          exact absurd H (by simp)
        ·rw [if_neg c12] at H
         exact absurd H (by simp)
       ·rw [if_neg c10] at H; have c10b0 := decide_eq_false c10; clear c10
        have H' := am H
        clear H; have hcz19_0 := bc BK218.out 0; have hcz19_1 := bc BK218.out 1; have hfz19_0 := bf BK218.out 0; have hfz19_1 := bf BK218.out 1
        have p7 : 0 ≤ (x7_1 : Int) := of_decide_eq_true ad
        have q7 : x7_1 < (a0_1.size : Int) := of_decide_eq_true ad
        have hx7 := bt_at a0_1 x7_1; replace p7 := eq_true p7; replace q7 := eq_true q7
        go_wp2_with (first | (go_at_call 93; (with_reducible refine (impl_upper.calls (bt a0_1 x7_1) true _ A8.out).mono ?_); rintro e w' ⟨rfl, ⟨nd, rfl⟩⟩; (try first | exact ⟨rfl, _, World.drewN_drewN _ _ _⟩ | exact ⟨rfl, _, Eq.trans (World.drewN_drewN _ _ _) (congrArg (World.drewN _) (Nat.add_assoc _ _ _))⟩)))
        repeat (go_quiet (first | (go_at_call 93; (with_reducible refine (impl_upper.calls (bt a0_1 x7_1) true _ A8.out).mono ?_); rintro e w' ⟨rfl, ⟨nd, rfl⟩⟩; (try first | exact ⟨rfl, _, World.drewN_drewN _ _ _⟩ | exact ⟨rfl, _, Eq.trans (World.drewN_drewN _ _ _) (congrArg (World.drewN _) (Nat.add_assoc _ _ _))⟩))); try go_wp2_with (first | (go_at_call 93; (with_reducible refine (impl_upper.calls (bt a0_1 x7_1) true _ A8.out).mono ?_); rintro e w' ⟨rfl, ⟨nd, rfl⟩⟩; (try first | exact ⟨rfl, _, World.drewN_drewN _ _ _⟩ | exact ⟨rfl, _, Eq.trans (World.drewN_drewN _ _ _) (congrArg (World.drewN _) (Nat.add_assoc _ _ _))⟩))))
        go_roundg k1
        case measure => have := HK1.out; omega
        case rel => exact ⟨(wrap64 (x7_1 + 1)), sq, H', ⟨b80_⟩, ⟨bq BK218.out⟩, ⟨bel1 GE218.out⟩⟩
      ·replace c9 := Bool.eq_false_iff.mpr c9; subst c9
       have H1 : (some false) = some r := b18_
       replace H := H1; clear H1
       obtain rfl := Option.some.inj H; have hcz20_0 := bc BK218.out 0; have hcz20_1 := bc BK218.out 1; have hfz20_0 := bf BK218.out 0; have hfz20_1 := bf BK218.out 1
       have p7 : 0 ≤ (x7_1 : Int) := of_decide_eq_true ad
       have q7 : x7_1 < (a0_1.size : Int) := of_decide_eq_true ad
       have hx7 := bt_at a0_1 x7_1; replace p7 := eq_true p7; replace q7 := eq_true q7
       go_wp2_with (first | (go_at_call 93; (with_reducible refine (impl_upper.calls (bt a0_1 x7_1) false _ A8.out).mono ?_); rintro e w' ⟨rfl, ⟨nd, rfl⟩⟩; (try first | exact ⟨rfl, _, World.drewN_drewN _ _ _⟩ | exact ⟨rfl, _, Eq.trans (World.drewN_drewN _ _ _) (congrArg (World.drewN _) (Nat.add_assoc _ _ _))⟩)))
       repeat (go_quiet (first | (go_at_call 93; (with_reducible refine (impl_upper.calls (bt a0_1 x7_1) false _ A8.out).mono ?_); rintro e w' ⟨rfl, ⟨nd, rfl⟩⟩; (try first | exact ⟨rfl, _, World.drewN_drewN _ _ _⟩ | exact ⟨rfl, _, Eq.trans (World.drewN_drewN _ _ _) (congrArg (World.drewN _) (Nat.add_assoc _ _ _))⟩))); try go_wp2_with (first | (go_at_call 93; (with_reducible refine (impl_upper.calls (bt a0_1 x7_1) false _ A8.out).mono ?_); rintro e w' ⟨rfl, ⟨nd, rfl⟩⟩; (try first | exact ⟨rfl, _, World.drewN_drewN _ _ _⟩ | exact ⟨rfl, _, Eq.trans (World.drewN_drewN _ _ _) (congrArg (World.drewN _) (Nat.add_assoc _ _ _))⟩))))
       go_ret
       exact ⟨eq_, bel1 GE218.out⟩
     ·rw [if_neg c6] at H
      exact absurd H (by simp)
    ·rw [if_neg c5] at H
     exact absurd H (by simp)
   ·rw [if_neg c4] at H; have c4b0 := decide_eq_false c4; clear c4; replace H := Option.bind_eq_some_iff.mp H; obtain ⟨t220, A210, H⟩ := H; replace H : (if t220 = true then (some (decide ((a0_1.size : Int) ≤ 4))) else (some false)) = some r := H; have A21 := Aside0.mk A210; clear A210
    by_cases c22 : t220 = true
    ·subst c22
     have H1 : (some (decide ((a0_1.size : Int) ≤ 4))) = some r := b32_
     replace H := H1; clear H1
     obtain rfl := Option.some.inj H; have hcz23_0 := bc BK218.out 0; have hcz23_1 := bc BK218.out 1; have hfz23_0 := bf BK218.out 0; have hfz23_1 := bf BK218.out 1
     go_wp2_with (first | (go_at_call 30; (with_reducible refine (impl_WordOk.calls k1 a0_0 true _ A21.out).mono ?_); rintro e w' ⟨rfl, ⟨nd, rfl⟩⟩; (try first | exact ⟨rfl, _, World.drewN_drewN _ _ _⟩ | exact ⟨rfl, _, Eq.trans (World.drewN_drewN _ _ _) (congrArg (World.drewN _) (Nat.add_assoc _ _ _))⟩)))
     repeat (go_quiet (first | (go_at_call 30; (with_reducible refine (impl_WordOk.calls k1 a0_0 true _ A21.out).mono ?_); rintro e w' ⟨rfl, ⟨nd, rfl⟩⟩; (try first | exact ⟨rfl, _, World.drewN_drewN _ _ _⟩ | exact ⟨rfl, _, Eq.trans (World.drewN_drewN _ _ _) (congrArg (World.drewN _) (Nat.add_assoc _ _ _))⟩))); try go_wp2_with (first | (go_at_call 30; (with_reducible refine (impl_WordOk.calls k1 a0_0 true _ A21.out).mono ?_); rintro e w' ⟨rfl, ⟨nd, rfl⟩⟩; (try first | exact ⟨rfl, _, World.drewN_drewN _ _ _⟩ | exact ⟨rfl, _, Eq.trans (World.drewN_drewN _ _ _) (congrArg (World.drewN _) (Nat.add_assoc _ _ _))⟩))))
     go_ret
     exact ⟨eq_, bel1 GE218.out⟩
    ·replace c22 := Bool.eq_false_iff.mpr c22; subst c22
     have H1 : (some false) = some r := b18_
     replace H := H1; clear H1
     obtain rfl := Option.some.inj H; have hcz24_0 := bc BK218.out 0; have hcz24_1 := bc BK218.out 1; have hfz24_0 := bf BK218.out 0; have hfz24_1 := bf BK218.out 1
     go_wp2_with (first | (go_at_call 30; (with_reducible refine (impl_WordOk.calls k1 a0_0 false _ A21.out).mono ?_); rintro e w' ⟨rfl, ⟨nd, rfl⟩⟩; (try first | exact ⟨rfl, _, World.drewN_drewN _ _ _⟩ | exact ⟨rfl, _, Eq.trans (World.drewN_drewN _ _ _) (congrArg (World.drewN _) (Nat.add_assoc _ _ _))⟩)))
     repeat (go_quiet (first | (go_at_call 30; (with_reducible refine (impl_WordOk.calls k1 a0_0 false _ A21.out).mono ?_); rintro e w' ⟨rfl, ⟨nd, rfl⟩⟩; (try first | exact ⟨rfl, _, World.drewN_drewN _ _ _⟩ | exact ⟨rfl, _, Eq.trans (World.drewN_drewN _ _ _) (congrArg (World.drewN _) (Nat.add_assoc _ _ _))⟩))); try go_wp2_with (first | (go_at_call 30; (with_reducible refine (impl_WordOk.calls k1 a0_0 false _ A21.out).mono ?_); rintro e w' ⟨rfl, ⟨nd, rfl⟩⟩; (try first | exact ⟨rfl, _, World.drewN_drewN _ _ _⟩ | exact ⟨rfl, _, Eq.trans (World.drewN_drewN _ _ _) (congrArg (World.drewN _) (Nat.add_assoc _ _ _))⟩))))
     go_ret
     exact ⟨eq_, bel1 GE218.out⟩

/-! ### strings_Contains: function 59 -/
/-- Contains, of a text of one byte. -/
def strings_Contains.f (a0 : ByteArray) (a1 : ByteArray) : Option Bool := if a1.size = 1 then some (a0.data.toList.contains (a1.data.toList.headD 0)) else none
theorem strings_Contains.index (s : List UInt8) (c : UInt8) : decide (0 ≤ Go.Lib.indexByte s c) = s.contains c := by
 have h1 : ∀ s : List UInt8, -1 ≤ Go.Lib.indexByte s c := by
  intro s
  induction s with
  | nil => simp [Go.Lib.indexByte]
  | cons b l ih =>
   unfold Go.Lib.indexByte
   split
   ·omega
   ·split <;> omega
 induction s with
 | nil => simp [Go.Lib.indexByte]
 | cons b l ih =>
  unfold Go.Lib.indexByte
  rw [List.contains_cons]
  by_cases e : b = c
  ·subst e
   simp
  ·have e2 : (b == c) = false := by simpa using e
   have e3 : (c == b) = false := by simpa using fun h => e h.symm
   rw [e2, e3, Bool.false_or, ← ih]
   have := h1 l
   simp only [Bool.false_eq_true, if_false, beq_iff_eq]
   rw [decide_eq_decide]
   split <;> omega
theorem strings_Contains.calls (a0 : ByteArray) (a1 : ByteArray) (r : Bool) (w : World) (h : strings_Contains.f a0 a1 = some r) :
  Calls Try.prog 59 #[.string a0, .string a1] w fun e w' => e = .returned (.bool r) ∧ Drawn0 w w' := by
 unfold strings_Contains.f at h
 split at h
 case isFalse => cases h
 rename_i hs; obtain rfl := Option.some.inj h; obtain ⟨⟨l⟩⟩ := a1
 match l, hs with
 | [c], _ =>
  have := Any.strings_Contains_one Try.layHas a0 c w
  change Calls Try.prog 59 _ _ _ at this
  refine this.mono ?_
  rintro e w' ⟨he, rfl⟩
  refine ⟨?_, 0, rfl⟩
  rw [he, strings_Contains.index]
  rfl

/-! ### impl_sorted: function 60 -/
/-- A list in ascending order, each once. -/
def impl_sorted.f (l0 : List ByteArray) : Option (List ByteArray) := if l0.length ≤ 1000000000 then some (M.setL l0) else none
def impl_sorted.ba (l : List UInt8) : ByteArray := ⟨l.toArray⟩
theorem impl_sorted.encs_ba (ss : List (List UInt8)) : encs Value.string (ss.map impl_sorted.ba) = ss.map encStr := by
 unfold encs
 rw [List.map_map]
 rfl
theorem impl_sorted.own {W : World} {base : Nat} {v : Value} {ss : List (List UInt8)} (h : Kd.R Kd.string 9 W base (fun _ => True) v (ss.map impl_sorted.ba)) : W.ownsRow base 9 1 v ss.length (ss.map encStr) := by
 have := Kd.own_of_R h
 rw [impl_sorted.encs_ba, List.length_map] at this
 exact this
theorem impl_sorted.row {W : World} {base : Nat} {v : Value} {ss : List (List UInt8)} (h : W.ownsRow base 9 1 v ss.length (ss.map encStr)) : Kd.R Kd.string 9 W base (fun _ => True) v (ss.map impl_sorted.ba) :=
 Kd.R_of_own (by rw [impl_sorted.encs_ba, List.length_map]; exact h) (fun _ _ => trivial)
theorem impl_sorted.holds {w : World} {base : Nat} {g n cap : Nat} {zs : List (List UInt8)} (h : w.ownsRow base 9 1 (.slice (some ⟨g, 0, none⟩) n cap) n (zs.map encStr)) :
  base ≤ g ∧ g < w.heap.size ∧ n ≤ cap ∧ zs.length = n ∧ Sort.Holds encStr w g 0 zs.toArray := by
 obtain ⟨g', cap', e, h1, h2, h3, _, h5, h6⟩ := Go.Lib.holds_of_ownsRow h (by intro e; cases e)
 cases e
 exact ⟨h1, h2, h3, h5, h6⟩
set_option maxHeartbeats 1000000 in
theorem impl_sorted.sort {w0 W : World} {base : Nat} {v : Value} {ss : List (List UInt8)} (h : Kd.R Kd.string 9 W base (fun _ => True) v (ss.map impl_sorted.ba)) (hB : Below base w0 W) (hbase : base ≤ W.heap.size) (hl : ss.length ≤ 1000000000) :
  Calls Try.prog 95 #[v] W fun e w' => e = .returned (.tuple #[]) ∧ Kd.R Kd.string 9 w' base (fun _ => True) v ((ss.mergeSort M.leU).map impl_sorted.ba) ∧ Below base w0 w' ∧ base ≤ w'.heap.size := by
 have ho := impl_sorted.own h
 rcases ho.2 with ⟨rfl, h0⟩ | ⟨g, cap, cur, rfl, hb, hg, h1, h2, h3, h4⟩
 ·have e0 : ss = [] := List.length_eq_zero_iff.1 h0
  subst e0
  have := Any.slices_Sort_string_none Try.laySort none 0 W
  change Calls Try.prog 95 _ _ _ at this
  refine this.mono ?_
  rintro e w' ⟨he, rfl⟩
  exact ⟨he, by simpa using h, hB, hbase⟩
 ·obtain ⟨hbg, hgl, hc, _, hH⟩ := impl_sorted.holds ho
  have := Any.slices_Sort_string Try.laySort g 0 cap ss W hH hgl (by omega)
  change Calls Try.prog 95 _ _ _ at this
  refine this.mono ?_
  rintro e w' ⟨he, n, os, rfl⟩
  have hl2 : (ss.mergeSort M.leU).length = ss.length := List.length_mergeSort ss
  have hs := ownsRow_sorted (n := n) (os := os) (ts := ss.mergeSort M.leU) hl2 hb hg h1 h2 h3; rw [← hl2] at hs
  refine ⟨he, ?_, ?_, ?_⟩
  ·have := impl_sorted.row hs
   rw [hl2] at this
   exact this
  ·exact hB.grown (grownBy_sorted _) hbase (fun j hj => by cases hj; exact hbg)
  ·exact Nat.le_trans hbase (grownBy_sorted (w := W) (g := g) (n := n) (os := os) (ss.mergeSort M.leU).toArray).size
set_option maxHeartbeats 1000000 in
theorem impl_sorted.compact {w0 W : World} {base : Nat} {v : Value} {ss : List (List UInt8)} (h : Kd.R Kd.string 9 W base (fun _ => True) v (ss.map impl_sorted.ba)) (hB : Below base w0 W) (hbase : base ≤ W.heap.size) (hl : ss.length ≤ 1000000000) :
  Calls Try.prog 96 #[v] W fun e w' => ∃ A c, e = .returned (.slice A (Go.Lib.compact ss).length c) ∧ Kd.R Kd.string 9 w' base (fun _ => True) (.slice A (Go.Lib.compact ss).length c) ((Go.Lib.compact ss).map impl_sorted.ba) ∧ Below base w0 w' ∧ W.grownBy w' v.ownBlock := by
 have ho := impl_sorted.own h
 rcases ho.2 with ⟨rfl, h0⟩ | ⟨g, cap, cur, rfl, hb, hg, h1, h2, h3, h4⟩
 ·have e0 : ss = [] := List.length_eq_zero_iff.1 h0
  subst e0
  have := Any.slices_Compact_string_empty Try.layCompact none 0 W
  change Calls Try.prog 96 _ _ _ at this
  refine this.mono ?_
  rintro e w' ⟨he, rfl⟩
  exact ⟨none, 0, he, h, hB, ⟨rfl, rfl, rfl, Nat.le_refl _, fun _ _ _ => rfl⟩⟩
 ·obtain ⟨hbg, hgl, hc, _, hH⟩ := impl_sorted.holds ho
  have := Any.slices_Compact_string Try.layCompact g 0 cap ss W hH (by omega) h1
  change Calls Try.prog 96 _ _ _ at this
  refine this.mono ?_
  rintro e w' ⟨he, q, rfl⟩
  have hle := Go.Lib.compact_length_le ss
  have hc2 := Go.Lib.ownsRow_putRow (q := q) (k := (Go.Lib.compact ss).length) (ys := Go.Lib.compact ss ++ List.replicate (ss.length - (Go.Lib.compact ss).length) []) ho (by simp; omega) (by omega)
  rw [List.take_left] at hc2
  refine ⟨_, _, he, impl_sorted.row hc2, Go.Lib.below_putRow hB hbg, rfl, rfl, rfl, by simp [Sort.putRow, Sort.mapBlock, Sort.ahead], fun k hk hne => ?_⟩
  have : g ≠ k := fun e => hne (by rw [← e]; rfl)
  simp [Sort.putRow, Sort.mapBlock, Sort.ahead, Array.getElem?_modify, this]
theorem impl_sorted.apart {W W1 : World} {base : Nat} {v v9 : Value} {xs : List ByteArray} (h : Kd.R Kd.string 9 W base (fun _ => True) v xs) (h9 : Kd.R Kd.string 9 W1 base (fun _ => True) v9 []) (hn : ∃ b, v9.ownBlock = some b ∧ W.heap.size ≤ b) :
  Kd.R Kd.string 9 W1 base (fun k => some k ≠ v.ownBlock) v9 [] := by
 refine Kd.R_of_own (Kd.own_of_R h9) (fun k hk => ?_)
 obtain ⟨b, hb, hle⟩ := hn; rw [hb] at hk
 cases hk
 intro e
 rcases (Kd.own_of_R h).2 with ⟨rfl, _⟩ | ⟨g, cap, cur, rfl, hbg, hg, _⟩
 ·simp [Value.ownBlock] at e
 ·have e2 : k = g := by simpa [Value.ownBlock] using e
  have := (Array.getElem?_eq_some_iff.1 hg).1
  omega
theorem impl_sorted.ba_of (l : List ByteArray) : (l.map (·.data.toList)).map impl_sorted.ba = l := by
 rw [List.map_map]
 conv => rhs; rw [← List.map_id l]
 exact List.map_congr_left (fun x _ => M.ba_of x)
theorem impl_sorted.compactL {w0 W : World} {base : Nat} {v : Value} {l : List ByteArray} (h : Kd.R Kd.string 9 W base (fun _ => True) v (((l.map (·.data.toList)).mergeSort M.leU).map impl_sorted.ba)) (hB : Below base w0 W) (hbase : base ≤ W.heap.size) (hl : l.length ≤ 1000000000) :
  Calls Try.prog 96 #[v] W fun e w' => ∃ A c, e = .returned (.slice A (M.setL l).length c) ∧ Kd.R Kd.string 9 w' base (fun _ => True) (.slice A (M.setL l).length c) (M.setL l) ∧ Below base w0 w' ∧ W.grownBy w' v.ownBlock := by
 have := impl_sorted.compact (w0 := w0) h hB hbase (by rw [List.length_mergeSort, List.length_map]; exact hl)
 rw [M.sorted_eq, List.length_map, impl_sorted.ba_of] at this
 exact this

set_option maxHeartbeats 4000000 in
set_option maxRecDepth 100000 in
theorem impl_sorted.calls (A0 : Option Addr) (c0 : Nat) (l0 : List ByteArray) (r : List ByteArray) (w : World) (hr0 : Kd.C Kd.string w A0 l0.length l0) (hc0 : l0.length ≤ c0) (h : impl_sorted.f l0 = some r) :
  Calls Try.prog 60 #[.slice A0 l0.length c0] w fun e w' => ∃ v0_ : Value, e = .returned (v0_) ∧ Kd.R Kd.string 9 w' w.heap.size (fun _ => True) v0_ r ∧ Below w.heap.size w w' := by
 unfold impl_sorted.f at h
 split at h
 case isFalse => cases h
 rename_i hsz; obtain rfl := Option.some.inj h; clear h; have hsl := M.setL_length l0; have HR := am hr0; clear hr0; go_enter Try.func60, Try.ntmps60
 go_wp2_with (first
  | ((with_reducible refine gate_dst (N := 4) rfl ?_); refine Kd.R_lit Kd.string w.heap.size 9 ?hg (N := 4) ?hd (xs := ([] : List ByteArray)) (inner := []) (ok := fun _ => True) (okp := fun _ => True) ?hr ?hp (fun _ hk => hk) trivial (Below.refl _ _) (Nat.le_refl _) (by simp) ?_; (case hd => rfl); (case hg => rfl); (case hr => first | (go_simp; done) | (go_simp; rfl)); (case hp => exact (Reps.none _ _)); intro v4 w1 ho hb hg_ hnew_; have HO4 := am ho; have HB1 := am hb; clear ho hb hg_ hnew_)
  | ((with_reducible refine gate_builtin (b := .append) (xs := #[.tmp 4, .tmp 5]) rfl ?_); at_builtin; refine Kd.R_append_row Value.string (⟨#[]⟩ : ByteArray) (h1 := fun _ => rfl) (w0 := w) w.heap.size rfl (.tmp 4) (.tmp 5) 27 9 (.string ⟨#[]⟩) 16 rfl Try.underlying27 info9 rfl (by decide) v4 [] l0 A0 l0.length c0 (fun _ => True) rfl rfl (fun _ _ => trivial) HO4.out (Kd.C_below HR.out HB1.out) HB1.out (below_size HB1.out) (by simp; omega) ?_; intro v6 w2 ho hb hg_ hat_; rw [List.nil_append] at ho; have HO6 := am ho; have HB2 := am hb; clear ho hb hg_ hat_ HO4 HB1)
  | (go_at_call 95; refine (impl_sorted.sort (w0 := w) (base := w.heap.size) (ss := l0.map (·.data.toList)) (by rw [impl_sorted.ba_of]; exact HO6.out) HB2.out (below_size HB2.out) (by simpa using hsz)).mono ?_; rintro e w3 ⟨rfl, hR3, hB3, hs3⟩; have HO7 := am hR3; have HB3 := am hB3; clear hR3 hB3 hs3 HO6 HB2)
  | ((with_reducible refine gate_dst (N := 9) rfl ?_); refine Kd.R_lit Kd.string w.heap.size 9 ?hg (N := 9) ?hd (xs := ([] : List ByteArray)) (inner := []) (ok := fun _ => True) (okp := fun _ => True) ?hr ?hp (fun _ hk => hk) trivial HB3.out (below_size HB3.out) (by simp) ?_; (case hd => rfl); (case hg => rfl); (case hr => first | (go_simp; done) | (go_simp; rfl)); (case hp => exact (Reps.none _ _)); intro v9 w4 ho hb hg_ hnew_; have HO8 := am (Kd.R_mono (Kd.R_grown HO7.out hg_ (fun _ _ h => by cases h)) (fun _ _ => trivial)); have HO9 := am (impl_sorted.apart HO7.out ho hnew_); have HB4 := am hb; clear ho hb hg_ hnew_ HO7 HB3)
  | (go_at_call 96; refine (impl_sorted.compactL (w0 := w) (base := w.heap.size) HO8.out HB4.out (below_size HB4.out) hsz).mono ?_; rintro e w5 ⟨A5, c5, rfl, hR5, hB5, hg5⟩; have HO5 := am hR5; have HO9' := am (Kd.R_mono (Kd.R_grown HO9.out hg5 (fun _ h => h)) (fun _ _ => trivial)); have HB5 := am hB5; clear hR5 hB5 hg5 HO8 HO9 HB4)
  | ((with_reducible refine gate_builtin (b := .append) (xs := #[.tmp 9, .tmp 11]) rfl ?_); at_builtin; refine Kd.R_append_row Value.string (⟨#[]⟩ : ByteArray) (h1 := fun _ => rfl) (w0 := w) w.heap.size rfl (.tmp 9) (.tmp 11) 27 9 (.string ⟨#[]⟩) 16 rfl Try.underlying27 info9 rfl (by decide) v9 [] (M.setL l0) A5 (M.setL l0).length c5 (fun _ => True) rfl rfl (fun _ _ => trivial) HO9'.out (Kd.R_reads' HO5.out).2.2 HB5.out (below_size HB5.out) (by simp; omega) ?_; intro v12 w6 ho hb hg_ hat_; rw [List.nil_append] at ho; have HO12 := am ho; have HB6 := am hb; clear ho hb hg_ hat_ HO9' HB5))
 go_ret
 exact ⟨v12, rfl, HO12.out, HB6.out⟩

end Go.Proofs.Ytedfcehhgbeibaa.QFnForms

import Derived.Test.YtedfcehhgbeibaaQFnBookMorex0
import Derived.Test.YtedfcehhgbeibaaQFnBookMorex8
import Derived.Test.YtedfcehhgbeibaaQFnBookMorex9
import Derived.Test.YtedfcehhgbeibaaVMSh2
namespace Go.Proofs.Ytedfcehhgbeibaa.QFnBookMore
open Go.RowKit Go.Proofs.YtedfcehhgbeibaaW.PrintWords Go.Proofs.YtedfcehhgbeibaaW.PrintLast Go.Proofs.YtedfcehhgbeibaaW.PrintMore Go.Proofs.Ytedfcehhgbeibaa.Sh
attribute [local go_sem] max2_int min2_int max_two min_two max_three min_three max_four min_four   -- for this text's walks alone
set_option linter.unusedVariables false
set_option linter.unusedSimpArgs false
-- shrunk

/-! ### impl_affixesOk: function 57 -/
def impl_affixesOk.l0 : Nat → List (S44) → List (S44) → Int → Int → Option (Bool)
 | 0, _, _, _, _ => none
 | k + 1, x0, x5, x6, x7 => if x7 < x6 then (if 0 ≤ x7 then (if x7 < (x5.length : Int) then ((impl_AffixOk.f k ((rd_T44 x5 x7).f0) ((rd_T44 x5 x7).f1) ((rd_T44 x5 x7).f2) ((rd_T44 x5 x7).f3) ((rd_T44 x5 x7).f4)).bind fun t220 => (if t220 = true then (if x7 ≤ (x0.length : Int) then ((impl_Affix_92.f k (x0.take (x7 : Int).toNat) ((rd_T44 x5 x7).f0) ((rd_T44 x5 x7).f1) ((rd_T44 x5 x7).f2) ((rd_T44 x5 x7).f3) ((rd_T44 x5 x7).f4)).bind fun t225 => (if t225 = true then (some false) else (impl_affixesOk.l0 k x0 x5 x6 (wrap64 (x7 + 1))))) else (none)) else (some false))) else (none)) else (none)) else (some (decide ((x0.length : Int) ≤ 8)))
def impl_affixesOk.f (k : Nat) (l0 : List (S44)) : Option (Bool) := impl_affixesOk.l0 k l0 l0 (l0.length : Int) 0
theorem impl_affixesOk.mono_l : ∀ k, (∀ y0 y1 y2 y3, LeO (impl_affixesOk.l0 k y0 y1 y2 y3) (impl_affixesOk.l0 (k + 1) y0 y1 y2 y3))
 | 0 => fun _ _ _ _ r h => by simp [impl_affixesOk.l0] at h
 | k + 1 => by
  have ih0 := impl_affixesOk.mono_l k
  ·intro y0 y1 y2 y3
   unfold impl_affixesOk.l0
   repeat' first | (with_reducible first | exact ih0 _ _ _ _ | exact impl_AffixOk.mono _ _ _ _ _ _ | exact impl_Affix_92.mono _ _ _ _ _ _ _ | exact LeO.refl _ | exact LeO.none _ | refine LeO.ite ?_ ?_ | refine LeO.bind ?_ (fun _ => ?_)) | exact ih0 _ _ _ _ | exact impl_AffixOk.mono _ _ _ _ _ _ | exact impl_Affix_92.mono _ _ _ _ _ _ _ | exact LeO.none _ | refine LeO.ite ?_ ?_ | refine LeO.bind ?_ (fun _ => ?_)
theorem impl_affixesOk.mono : ∀ a0 k, LeO (impl_affixesOk.f k a0) (impl_affixesOk.f (k + 1) a0) := by
 intro a0 k; have ih0 := impl_affixesOk.mono_l k
 unfold impl_affixesOk.f
 repeat' first | (with_reducible first | exact ih0 _ _ _ _ | exact impl_AffixOk.mono _ _ _ _ _ _ | exact impl_Affix_92.mono _ _ _ _ _ _ _ | exact LeO.refl _ | exact LeO.none _ | refine LeO.ite ?_ ?_ | refine LeO.bind ?_ (fun _ => ?_)) | exact ih0 _ _ _ _ | exact impl_AffixOk.mono _ _ _ _ _ _ | exact impl_Affix_92.mono _ _ _ _ _ _ _ | exact LeO.none _ | refine LeO.ite ?_ ?_ | refine LeO.bind ?_ (fun _ => ?_)
def impl_affixesOk.T4 : Bool × List (List Nat × List Nat) := (true, [([], []), ([0], [0]), ([1], [1]), ([2, 1], [2]), ([3], [3]), ([3], [3]), ([4, 5, 3], [3, 4, 5]), ([3], [3]), ([6, 7, 3, 3], [3, 6, 7]), ([3, 8], [3, 8])])
def impl_affixesOk.B4 : List Nat := [0, 1, 3, 7, 15, 15, 63, 15, 255, 511]
theorem impl_affixesOk.tab4 : rtab .any (opsOf Try.f57 4) = impl_affixesOk.T4 := by kernel_rfl
theorem impl_affixesOk.bits4 : waitsOk impl_affixesOk.T4.2 impl_affixesOk.B4 = true := by kernel_rfl
set_option maxHeartbeats 8000000 in
set_option maxRecDepth 100000 in
theorem impl_affixesOk.calls (k : Nat) (A0 : Option Addr) (c0 : Nat) (l0 : List (S44)) (r : Bool) (w : World) (hr0 : Kd.C k44 w A0 l0.length l0) (hc0 : l0.length ≤ c0) (h : impl_affixesOk.f k l0 = some r) :
  Calls Try.prog 57 #[.slice A0 l0.length c0] w fun e w' => e = .returned (.bool r) ∧ Below w.heap.size w w' := by
 have hu44 := Try.underlying44; have HR0 := am hr0; have HC0 := am hc0; clear hr0 hc0; have HB := am (Below.refl w.heap.size w)
 have H : (impl_affixesOk.l0 k l0 l0 (l0.length : Int) 0) = some r := h
 clear h
 have H' := am H
 clear H; go_enter Try.func57, Try.ntmps57; go_wp2
 go_loopg [7] k (fun kq v7 w' => ∃ (x7_1 : Int), v7 = .int .i64 x7_1 ∧ Aside0 (impl_affixesOk.l0 kq l0 l0 (l0.length : Int) x7_1 = some r) ∧ Aside0 (kq ≤ k) ∧ Aside0 (Below w.heap.size w w'))
 case atStart => exact ⟨(0), sq, H', ⟨Nat.le_refl _⟩, ⟨bel⟩⟩
 case round =>
  clear H'; obtain ⟨x7_1, rfl, HA, HK1, HB⟩ := hrel
  cases gk with
  | zero => exact absurd HA.out (by simp [impl_affixesOk.l0])
  | succ k1 =>
   have H := HA.out; clear HA
   simp only [impl_affixesOk.l0] at H
   by_cases c2 : x7_1 < (l0.length : Int)
   ·rw [if_pos c2] at H; have c2b0 := decide_eq_true c2; clear c2
    by_cases c3 : 0 ≤ x7_1
    ·rw [if_pos c3] at H; have c3b0 := decide_eq_true c3; clear c3
     by_cases c4 : x7_1 < (l0.length : Int)
     ·rw [if_pos c4] at H; have c4b0 := decide_eq_true c4; clear c4; replace H := Option.bind_eq_some_iff.mp H; obtain ⟨t220, A50, H⟩ := H; replace H : (if t220 = true then (if x7_1 ≤ (l0.length : Int) then ((impl_Affix_92.f k1 (l0.take (x7_1 : Int).toNat) ((rd_T44 l0 x7_1).f0) ((rd_T44 l0 x7_1).f1) ((rd_T44 l0 x7_1).f2) ((rd_T44 l0 x7_1).f3) ((rd_T44 l0 x7_1).f4)).bind fun t225 => (if t225 = true then (some false) else (impl_affixesOk.l0 k1 l0 l0 (l0.length : Int) (wrap64 (x7_1 + 1))))) else (none)) else (some false)) = some r := H; have A5 := Aside0.mk A50; clear A50
      by_cases c6 : t220 = true
      ·subst c6
       have H1 : (if x7_1 ≤ (l0.length : Int) then ((impl_Affix_92.f k1 (l0.take (x7_1 : Int).toNat) ((rd_T44 l0 x7_1).f0) ((rd_T44 l0 x7_1).f1) ((rd_T44 l0 x7_1).f2) ((rd_T44 l0 x7_1).f3) ((rd_T44 l0 x7_1).f4)).bind fun t225 => (if t225 = true then (some false) else (impl_affixesOk.l0 k1 l0 l0 (l0.length : Int) (wrap64 (x7_1 + 1))))) else (none)) = some r := b31_
       replace H := H1; clear H1
       have c7b0 := eq_true (of_decide_eq_true ad : 0 ≤ x7_1)
       by_cases c8 : x7_1 ≤ (l0.length : Int)
       ·rw [if_pos c8] at H; have c8b0 := eq_true c8
        have c8b1 : decide (x7_1 ≤ (l0.length : Int)) = true := decide_eq_true c8
        clear c8; obtain ⟨y221, hy221⟩ : ∃ y_ : List (S44), y_ = (l0.take (x7_1 : Int).toNat) := ⟨_, rfl⟩
        replace H : ((impl_Affix_92.f k1 y221 ((rd_T44 l0 x7_1).f0) ((rd_T44 l0 x7_1).f1) ((rd_T44 l0 x7_1).f2) ((rd_T44 l0 x7_1).f3) ((rd_T44 l0 x7_1).f4)).bind fun t225 => (if t225 = true then (some false) else (impl_affixesOk.l0 k1 l0 l0 (l0.length : Int) (wrap64 (x7_1 + 1))))) = some r := by first | (rw [hy221]; with_reducible exact H) | (have H2_ := (Option.bind_some _ _).symm.trans H; rw [hy221]; with_reducible exact H2_) | (have H2_ := (Option.bind_some _ _).symm.trans H; with_reducible exact H2_) | with_reducible exact H | (rw [hy221]; exact H) | exact H
        have Ny221 := am hy221; clear hy221; replace H := Option.bind_eq_some_iff.mp H; obtain ⟨t225, A90, H⟩ := H; replace H : (if t225 = true then (some false) else (impl_affixesOk.l0 k1 l0 l0 (l0.length : Int) (wrap64 (x7_1 + 1)))) = some r := H; have A9 := Aside0.mk A90; clear A90
        by_cases c10 : t225 = true
        ·subst c10
         have H1 : (some false) = some r := b31_
         replace H := H1; clear H1
         obtain rfl := Option.some.inj H
         have p218 : 0 ≤ (x7_1 : Int) := of_decide_eq_true ad
         have q218 : x7_1 < (l0.length : Int) := of_decide_eq_true ad
         obtain ⟨ad218, e218, hx218_0, hx218_1, hx218_2, hx218_3, hx218_4⟩ := at_T44 HR0.out x7_1 p218 q218
         cases e218
         replace hx218_0 := kp HB.out hx218_0; replace hx218_1 := kp HB.out hx218_1; replace hx218_2 := kp HB.out hx218_2; replace hx218_3 := kp HB.out hx218_3; replace hx218_4 := kp HB.out hx218_4; replace p218 := eq_true p218; replace q218 := eq_true q218
         try go_wp2_with (first | ((with_reducible refine gate_dst (N := 4) rfl ?_); refine bx 4 (cs := #[.string (⟨#[]⟩ : ByteArray), .bool false, .string (⟨#[]⟩ : ByteArray), .string (⟨#[]⟩ : ByteArray), .string (⟨#[]⟩ : ByteArray)]) (t := 44) ?_; intro gb219 hg w11 hbox hb; have BK219 := am (hbox); have GW219 := am ((b18_ : w.heap.size ≤ gb219)); have GE219 := am ((b18_ : w.heap.size ≤ gb219)); replace HB := am (below_step bel hb); clear hb hbox hg; have hcz12_0 := bc BK219.out 0; have hcz12_1 := bc BK219.out 1; have hcz12_2 := bc BK219.out 2; have hcz12_3 := bc BK219.out 3; have hcz12_4 := bc BK219.out 4; have hfz12_0 := bf BK219.out 0; have hfz12_1 := bf BK219.out 1; have hfz12_2 := bf BK219.out 2; have hfz12_3 := bf BK219.out 3; have hfz12_4 := bf BK219.out 4))
         have n0_ : Aside0 ((((((w11.setCell ⟨gb219, 0, none⟩ (.string ((rd_T44 l0 x7_1).f0))).setCell ⟨gb219, 1, none⟩ (.bool ((rd_T44 l0 x7_1).f1))).setCell ⟨gb219, 2, none⟩ (.string ((rd_T44 l0 x7_1).f2))).setCell ⟨gb219, 3, none⟩ (.string ((rd_T44 l0 x7_1).f3))).setCell ⟨gb219, 4, none⟩ (.string ((rd_T44 l0 x7_1).f4))).heap[gb219]? = some (.cells #[.string ((rd_T44 l0 x7_1).f0), .bool ((rd_T44 l0 x7_1).f1), .string ((rd_T44 l0 x7_1).f2), .string ((rd_T44 l0 x7_1).f3), .string ((rd_T44 l0 x7_1).f4)] 44 (0, 0))) := ⟨b8_⟩
         have n1_ : Aside0 (Below w.heap.size w (((((w11.setCell ⟨gb219, 0, none⟩ (.string ((rd_T44 l0 x7_1).f0))).setCell ⟨gb219, 1, none⟩ (.bool ((rd_T44 l0 x7_1).f1))).setCell ⟨gb219, 2, none⟩ (.string ((rd_T44 l0 x7_1).f2))).setCell ⟨gb219, 3, none⟩ (.string ((rd_T44 l0 x7_1).f3))).setCell ⟨gb219, 4, none⟩ (.string ((rd_T44 l0 x7_1).f4)))) := ⟨bel1 GE219.out⟩
         (try clear BK219)
         (try clear HB)
         generalize (((((w11.setCell ⟨gb219, 0, none⟩ (.string ((rd_T44 l0 x7_1).f0))).setCell ⟨gb219, 1, none⟩ (.bool ((rd_T44 l0 x7_1).f1))).setCell ⟨gb219, 2, none⟩ (.string ((rd_T44 l0 x7_1).f2))).setCell ⟨gb219, 3, none⟩ (.string ((rd_T44 l0 x7_1).f3))).setCell ⟨gb219, 4, none⟩ (.string ((rd_T44 l0 x7_1).f4))) = w13 at n0_ n1_ ⊢
         have BK219 := n0_; have HB := n1_; clear n0_ n1_; replace BK219 := am (blk_drew BK219.out); replace HB := am (below_drew1 HB.out)
         refine st (n := 10) (S := fun w' => w'.cell? ⟨gb219, 0, none⟩ = some (.string ((rd_T44 l0 x7_1).f0)) ∧ w'.cell? ⟨gb219, 1, none⟩ = some (.bool ((rd_T44 l0 x7_1).f1)) ∧ w'.cell? ⟨gb219, 2, none⟩ = some (.string ((rd_T44 l0 x7_1).f2)) ∧ w'.cell? ⟨gb219, 3, none⟩ = some (.string ((rd_T44 l0 x7_1).f3)) ∧ w'.cell? ⟨gb219, 4, none⟩ = some (.string ((rd_T44 l0 x7_1).f4))) (ds := []) ⟨(blk_cell BK219.out 0).trans rfl, (blk_cell BK219.out 1).trans rfl, (blk_cell BK219.out 2).trans rfl, (blk_cell BK219.out 3).trans rfl, (blk_cell BK219.out 4).trans rfl⟩ (fun hHeld => ?_); refine with_tabW impl_affixesOk.tab4 impl_affixesOk.bits4 (fun HT_ HW_ => ?_)
         generalize w13.drew = w14 at BK219 HB hHeld ⊢
         refine tk5 0 12 hHeld ?_
         refine on1 1 13 (fun K hK => ?_)
         refine goes_ Try.func69 (by kernel_rfl) rfl #[.agg #[.string ((rd_T44 l0 x7_1).f0), .bool ((rd_T44 l0 x7_1).f1), .string ((rd_T44 l0 x7_1).f2), .string ((rd_T44 l0 x7_1).f3), .string ((rd_T44 l0 x7_1).f4)]] (by rfl) rfl rfl mq ?_
         with_reducible refine (impl_AffixOk.calls k1 ((rd_T44 l0 x7_1).f0) ((rd_T44 l0 x7_1).f1) ((rd_T44 l0 x7_1).f2) ((rd_T44 l0 x7_1).f3) ((rd_T44 l0 x7_1).f4) true _ A5.out).mono ?_
         rintro e w15 ⟨rfl, hb⟩
         refine ⟨_, rfl, ?_⟩
         replace BK219 := am (blk_below (g := gb219) (o := .cells #[.string ((rd_T44 l0 x7_1).f0), .bool ((rd_T44 l0 x7_1).f1), .string ((rd_T44 l0 x7_1).f2), .string ((rd_T44 l0 x7_1).f3), .string ((rd_T44 l0 x7_1).f4)] 44 (0, 0)) (bq BK219.out) hb); replace HB := am (below_step (bel1 GE219.out) hb)
         (try clear hb)
         (try clear hb2)
         (try clear hk)
         (try clear hi)
         have q16 : (x7_1 : Int) ≤ ((l0.length : Int) : Int) := of_decide_eq_true ad
         obtain ⟨i016, hi016, _, hsz16, _⟩ := info_parts info44
         have hroom16 : l0.length ≤ c0 := HC0.out
         have hC16 : Kd.C k44 _ (some ad218) l0.length l0 := HR0.out
         have hcut16 := cut_to (P := Try.prog) 29 44 .i64 Try.underlying29 hi016 (some ad218) l0.length c0 x7_1 (of_decide_eq_true ad) q16 hroom16
         have hr16 := Kd.C_take (m := (x7_1 : Int).toNat) hC16 (by omega)
         have hy16 : y221.length = (x7_1 : Int).toNat := (by rw [Ny221.out, List.length_take]; omega)
         rw [← Ny221.out] at hr16; rw [← hy16] at hcut16; have HR224 := am hr16
         have HC224 := am (show y221.length ≤ c0 from by omega)
         clear hr16 hC16 hroom16 hi016 hsz16; have KY16 := am hy16; clear hy16; replace q16 := eq_true q16
         refine hK.out _ _ ⟨(blk_cell BK219.out 0).trans rfl, (blk_cell BK219.out 1).trans rfl, (blk_cell BK219.out 2).trans rfl, (blk_cell BK219.out 3).trans rfl, (blk_cell BK219.out 4).trans rfl⟩ (fun hHeld => ?_)
         clear hK K
         refine norm_ (a' := ?_) ?_ ?_
         rotate_left
         ·show Act.put _ (some 13) _ = _
          simp only [Act.put, List.setIfInBounds_toArray, List.set_cons_zero, List.set_cons_succ, i64_w, i32_w]
          rfl
         refine pu 2 14 ?_
         refine pu 3 15 ?_
         refine pu 4 16 ?_
         refine pu 5 17 ?_
         refine pu 6 18 ?_
         refine tk5 7 19 hHeld ?_
         refine on1 8 20 (fun K hK => ?_)
         refine goes_ Try.func92 (by kernel_rfl) rfl #[.slice (some ad218) y221.length c0, .agg #[.string ((rd_T44 l0 x7_1).f0), .bool ((rd_T44 l0 x7_1).f1), .string ((rd_T44 l0 x7_1).f2), .string ((rd_T44 l0 x7_1).f3), .string ((rd_T44 l0 x7_1).f4)]] (by rfl) rfl rfl mq ?_
         with_reducible refine (impl_Affix_92.calls k1 _ _ y221 ((rd_T44 l0 x7_1).f0) ((rd_T44 l0 x7_1).f1) ((rd_T44 l0 x7_1).f2) ((rd_T44 l0 x7_1).f3) ((rd_T44 l0 x7_1).f4) true _ ?side1 ?side2 A9.out).mono ?_
         (case side1 => exact cq (Kd.C_below HR224.out HB.out)); (case side2 => exact HC224.out)
         rintro e w17 ⟨rfl, hb⟩
         refine ⟨_, rfl, ?_⟩
         replace BK219 := am (blk_below (g := gb219) (o := .cells #[.string ((rd_T44 l0 x7_1).f0), .bool ((rd_T44 l0 x7_1).f1), .string ((rd_T44 l0 x7_1).f2), .string ((rd_T44 l0 x7_1).f3), .string ((rd_T44 l0 x7_1).f4)] 44 (0, 0)) (bq BK219.out) hb); replace HB := am (below_step (bel1 GE219.out) hb)
         (try clear hb)
         (try clear hb2)
         (try clear hk)
         (try clear hi)
         refine hK.out _ _ ⟨(blk_cell BK219.out 0).trans rfl, (blk_cell BK219.out 1).trans rfl, (blk_cell BK219.out 2).trans rfl, (blk_cell BK219.out 3).trans rfl, (blk_cell BK219.out 4).trans rfl⟩ (fun hHeld => ?_)
         clear hK K
         refine norm_ (a' := ?_) ?_ ?_
         rotate_left
         ·show Act.put _ (some 20) _ = _
          simp only [Act.put, List.setIfInBounds_toArray, List.set_cons_zero, List.set_cons_succ, i64_w, i32_w]
          rfl
         refine pu 9 21 ?_
         refine done_ (done_of HT_.out (by kernel_rfl)) ?_
         try go_wp2
         go_ret
         exact ⟨eq_, bel1 GE219.out⟩
        ·replace c10 := Bool.eq_false_iff.mpr c10; subst c10
         have H1 : (impl_affixesOk.l0 k1 l0 l0 (l0.length : Int) (wrap64 (x7_1 + 1))) = some r := b17_
         replace H := H1; clear H1
         have H' := am H
         clear H
         have p218 : 0 ≤ (x7_1 : Int) := of_decide_eq_true ad
         have q218 : x7_1 < (l0.length : Int) := of_decide_eq_true ad
         obtain ⟨ad218, e218, hx218_0, hx218_1, hx218_2, hx218_3, hx218_4⟩ := at_T44 HR0.out x7_1 p218 q218
         cases e218
         replace hx218_0 := kp HB.out hx218_0; replace hx218_1 := kp HB.out hx218_1; replace hx218_2 := kp HB.out hx218_2; replace hx218_3 := kp HB.out hx218_3; replace hx218_4 := kp HB.out hx218_4; replace p218 := eq_true p218; replace q218 := eq_true q218
         try go_wp2_with (first | ((with_reducible refine gate_dst (N := 4) rfl ?_); refine bx 4 (cs := #[.string (⟨#[]⟩ : ByteArray), .bool false, .string (⟨#[]⟩ : ByteArray), .string (⟨#[]⟩ : ByteArray), .string (⟨#[]⟩ : ByteArray)]) (t := 44) ?_; intro gb219 hg w18 hbox hb; have BK219 := am (hbox); have GW219 := am ((b18_ : w.heap.size ≤ gb219)); have GE219 := am ((b18_ : w.heap.size ≤ gb219)); replace HB := am (below_step bel hb); clear hb hbox hg; have hcz19_0 := bc BK219.out 0; have hcz19_1 := bc BK219.out 1; have hcz19_2 := bc BK219.out 2; have hcz19_3 := bc BK219.out 3; have hcz19_4 := bc BK219.out 4; have hfz19_0 := bf BK219.out 0; have hfz19_1 := bf BK219.out 1; have hfz19_2 := bf BK219.out 2; have hfz19_3 := bf BK219.out 3; have hfz19_4 := bf BK219.out 4))
         have n0_ : Aside0 ((((((w18.setCell ⟨gb219, 0, none⟩ (.string ((rd_T44 l0 x7_1).f0))).setCell ⟨gb219, 1, none⟩ (.bool ((rd_T44 l0 x7_1).f1))).setCell ⟨gb219, 2, none⟩ (.string ((rd_T44 l0 x7_1).f2))).setCell ⟨gb219, 3, none⟩ (.string ((rd_T44 l0 x7_1).f3))).setCell ⟨gb219, 4, none⟩ (.string ((rd_T44 l0 x7_1).f4))).heap[gb219]? = some (.cells #[.string ((rd_T44 l0 x7_1).f0), .bool ((rd_T44 l0 x7_1).f1), .string ((rd_T44 l0 x7_1).f2), .string ((rd_T44 l0 x7_1).f3), .string ((rd_T44 l0 x7_1).f4)] 44 (0, 0))) := ⟨b8_⟩
         have n1_ : Aside0 (Below w.heap.size w (((((w18.setCell ⟨gb219, 0, none⟩ (.string ((rd_T44 l0 x7_1).f0))).setCell ⟨gb219, 1, none⟩ (.bool ((rd_T44 l0 x7_1).f1))).setCell ⟨gb219, 2, none⟩ (.string ((rd_T44 l0 x7_1).f2))).setCell ⟨gb219, 3, none⟩ (.string ((rd_T44 l0 x7_1).f3))).setCell ⟨gb219, 4, none⟩ (.string ((rd_T44 l0 x7_1).f4)))) := ⟨bel1 GE219.out⟩
         (try clear BK219)
         (try clear HB)
         generalize (((((w18.setCell ⟨gb219, 0, none⟩ (.string ((rd_T44 l0 x7_1).f0))).setCell ⟨gb219, 1, none⟩ (.bool ((rd_T44 l0 x7_1).f1))).setCell ⟨gb219, 2, none⟩ (.string ((rd_T44 l0 x7_1).f2))).setCell ⟨gb219, 3, none⟩ (.string ((rd_T44 l0 x7_1).f3))).setCell ⟨gb219, 4, none⟩ (.string ((rd_T44 l0 x7_1).f4))) = w20 at n0_ n1_ ⊢
         have BK219 := n0_; have HB := n1_; clear n0_ n1_; replace BK219 := am (blk_drew BK219.out); replace HB := am (below_drew1 HB.out)
         refine st (n := 10) (S := fun w' => w'.cell? ⟨gb219, 0, none⟩ = some (.string ((rd_T44 l0 x7_1).f0)) ∧ w'.cell? ⟨gb219, 1, none⟩ = some (.bool ((rd_T44 l0 x7_1).f1)) ∧ w'.cell? ⟨gb219, 2, none⟩ = some (.string ((rd_T44 l0 x7_1).f2)) ∧ w'.cell? ⟨gb219, 3, none⟩ = some (.string ((rd_T44 l0 x7_1).f3)) ∧ w'.cell? ⟨gb219, 4, none⟩ = some (.string ((rd_T44 l0 x7_1).f4))) (ds := []) ⟨(blk_cell BK219.out 0).trans rfl, (blk_cell BK219.out 1).trans rfl, (blk_cell BK219.out 2).trans rfl, (blk_cell BK219.out 3).trans rfl, (blk_cell BK219.out 4).trans rfl⟩ (fun hHeld => ?_); refine with_tabW impl_affixesOk.tab4 impl_affixesOk.bits4 (fun HT_ HW_ => ?_)
         generalize w20.drew = w21 at BK219 HB hHeld ⊢
         refine tk5 0 12 hHeld ?_
         refine on1 1 13 (fun K hK => ?_)
         refine goes_ Try.func69 (by kernel_rfl) rfl #[.agg #[.string ((rd_T44 l0 x7_1).f0), .bool ((rd_T44 l0 x7_1).f1), .string ((rd_T44 l0 x7_1).f2), .string ((rd_T44 l0 x7_1).f3), .string ((rd_T44 l0 x7_1).f4)]] (by rfl) rfl rfl mq ?_
         with_reducible refine (impl_AffixOk.calls k1 ((rd_T44 l0 x7_1).f0) ((rd_T44 l0 x7_1).f1) ((rd_T44 l0 x7_1).f2) ((rd_T44 l0 x7_1).f3) ((rd_T44 l0 x7_1).f4) true _ A5.out).mono ?_
         rintro e w22 ⟨rfl, hb⟩
         refine ⟨_, rfl, ?_⟩
         replace BK219 := am (blk_below (g := gb219) (o := .cells #[.string ((rd_T44 l0 x7_1).f0), .bool ((rd_T44 l0 x7_1).f1), .string ((rd_T44 l0 x7_1).f2), .string ((rd_T44 l0 x7_1).f3), .string ((rd_T44 l0 x7_1).f4)] 44 (0, 0)) (bq BK219.out) hb); replace HB := am (below_step (bel1 GE219.out) hb)
         (try clear hb)
         (try clear hb2)
         (try clear hk)
         (try clear hi)
         have q23 : (x7_1 : Int) ≤ ((l0.length : Int) : Int) := of_decide_eq_true ad
         obtain ⟨i023, hi023, _, hsz23, _⟩ := info_parts info44
         have hroom23 : l0.length ≤ c0 := HC0.out
         have hC23 : Kd.C k44 _ (some ad218) l0.length l0 := HR0.out
         have hcut23 := cut_to (P := Try.prog) 29 44 .i64 Try.underlying29 hi023 (some ad218) l0.length c0 x7_1 (of_decide_eq_true ad) q23 hroom23
         have hr23 := Kd.C_take (m := (x7_1 : Int).toNat) hC23 (by omega)
         have hy23 : y221.length = (x7_1 : Int).toNat := (by rw [Ny221.out, List.length_take]; omega)
         rw [← Ny221.out] at hr23; rw [← hy23] at hcut23; have HR224 := am hr23
         have HC224 := am (show y221.length ≤ c0 from by omega)
         clear hr23 hC23 hroom23 hi023 hsz23; have KY23 := am hy23; clear hy23; replace q23 := eq_true q23
         refine hK.out _ _ ⟨(blk_cell BK219.out 0).trans rfl, (blk_cell BK219.out 1).trans rfl, (blk_cell BK219.out 2).trans rfl, (blk_cell BK219.out 3).trans rfl, (blk_cell BK219.out 4).trans rfl⟩ (fun hHeld => ?_)
         clear hK K
         refine norm_ (a' := ?_) ?_ ?_
         rotate_left
         ·show Act.put _ (some 13) _ = _
          simp only [Act.put, List.setIfInBounds_toArray, List.set_cons_zero, List.set_cons_succ, i64_w, i32_w]
          rfl
         refine pu 2 14 ?_
         refine pu 3 15 ?_
         refine pu 4 16 ?_
         refine pu 5 17 ?_
         refine pu 6 18 ?_
         refine tk5 7 19 hHeld ?_
         refine on1 8 20 (fun K hK => ?_)
         refine goes_ Try.func92 (by kernel_rfl) rfl #[.slice (some ad218) y221.length c0, .agg #[.string ((rd_T44 l0 x7_1).f0), .bool ((rd_T44 l0 x7_1).f1), .string ((rd_T44 l0 x7_1).f2), .string ((rd_T44 l0 x7_1).f3), .string ((rd_T44 l0 x7_1).f4)]] (by rfl) rfl rfl mq ?_
         with_reducible refine (impl_Affix_92.calls k1 _ _ y221 ((rd_T44 l0 x7_1).f0) ((rd_T44 l0 x7_1).f1) ((rd_T44 l0 x7_1).f2) ((rd_T44 l0 x7_1).f3) ((rd_T44 l0 x7_1).f4) false _ ?side1 ?side2 A9.out).mono ?_
         (case side1 => exact cq (Kd.C_below HR224.out HB.out)); (case side2 => exact HC224.out)
         rintro e w24 ⟨rfl, hb⟩
         refine ⟨_, rfl, ?_⟩
         replace BK219 := am (blk_below (g := gb219) (o := .cells #[.string ((rd_T44 l0 x7_1).f0), .bool ((rd_T44 l0 x7_1).f1), .string ((rd_T44 l0 x7_1).f2), .string ((rd_T44 l0 x7_1).f3), .string ((rd_T44 l0 x7_1).f4)] 44 (0, 0)) (bq BK219.out) hb); replace HB := am (below_step (bel1 GE219.out) hb)
         (try clear hb)
         (try clear hb2)
         (try clear hk)
         (try clear hi)
         refine hK.out _ _ ⟨(blk_cell BK219.out 0).trans rfl, (blk_cell BK219.out 1).trans rfl, (blk_cell BK219.out 2).trans rfl, (blk_cell BK219.out 3).trans rfl, (blk_cell BK219.out 4).trans rfl⟩ (fun hHeld => ?_)
         clear hK K
         refine norm_ (a' := ?_) ?_ ?_
         rotate_left
         ·show Act.put _ (some 20) _ = _
          simp only [Act.put, List.setIfInBounds_toArray, List.set_cons_zero, List.set_cons_succ, i64_w, i32_w]
          rfl
         refine pu 9 21 ?_
         refine done_ (done_of HT_.out (by kernel_rfl)) ?_
         try go_wp2
         go_roundg k1
         case measure => have := HK1.out; omega
         case rel => exact ⟨(wrap64 (x7_1 + 1)), sq, H', ⟨b58_⟩, ⟨bel1 GE219.out⟩⟩
       ·rw [if_neg c8] at H
        exact absurd H (by simp)
      ·replace c6 := Bool.eq_false_iff.mpr c6; subst c6
       have H1 : (some false) = some r := b17_
       replace H := H1; clear H1
       obtain rfl := Option.some.inj H
       have p218 : 0 ≤ (x7_1 : Int) := of_decide_eq_true ad
       have q218 : x7_1 < (l0.length : Int) := of_decide_eq_true ad
       obtain ⟨ad218, e218, hx218_0, hx218_1, hx218_2, hx218_3, hx218_4⟩ := at_T44 HR0.out x7_1 p218 q218
       cases e218
       replace hx218_0 := kp HB.out hx218_0; replace hx218_1 := kp HB.out hx218_1; replace hx218_2 := kp HB.out hx218_2; replace hx218_3 := kp HB.out hx218_3; replace hx218_4 := kp HB.out hx218_4; replace p218 := eq_true p218; replace q218 := eq_true q218
       try go_wp2_with (first | ((with_reducible refine gate_dst (N := 4) rfl ?_); refine bx 4 (cs := #[.string (⟨#[]⟩ : ByteArray), .bool false, .string (⟨#[]⟩ : ByteArray), .string (⟨#[]⟩ : ByteArray), .string (⟨#[]⟩ : ByteArray)]) (t := 44) ?_; intro gb219 hg w25 hbox hb; have BK219 := am (hbox); have GW219 := am ((b18_ : w.heap.size ≤ gb219)); have GE219 := am ((b18_ : w.heap.size ≤ gb219)); replace HB := am (below_step bel hb); clear hb hbox hg; have hcz26_0 := bc BK219.out 0; have hcz26_1 := bc BK219.out 1; have hcz26_2 := bc BK219.out 2; have hcz26_3 := bc BK219.out 3; have hcz26_4 := bc BK219.out 4; have hfz26_0 := bf BK219.out 0; have hfz26_1 := bf BK219.out 1; have hfz26_2 := bf BK219.out 2; have hfz26_3 := bf BK219.out 3; have hfz26_4 := bf BK219.out 4))
       have n0_ : Aside0 ((((((w25.setCell ⟨gb219, 0, none⟩ (.string ((rd_T44 l0 x7_1).f0))).setCell ⟨gb219, 1, none⟩ (.bool ((rd_T44 l0 x7_1).f1))).setCell ⟨gb219, 2, none⟩ (.string ((rd_T44 l0 x7_1).f2))).setCell ⟨gb219, 3, none⟩ (.string ((rd_T44 l0 x7_1).f3))).setCell ⟨gb219, 4, none⟩ (.string ((rd_T44 l0 x7_1).f4))).heap[gb219]? = some (.cells #[.string ((rd_T44 l0 x7_1).f0), .bool ((rd_T44 l0 x7_1).f1), .string ((rd_T44 l0 x7_1).f2), .string ((rd_T44 l0 x7_1).f3), .string ((rd_T44 l0 x7_1).f4)] 44 (0, 0))) := ⟨b8_⟩
       have n1_ : Aside0 (Below w.heap.size w (((((w25.setCell ⟨gb219, 0, none⟩ (.string ((rd_T44 l0 x7_1).f0))).setCell ⟨gb219, 1, none⟩ (.bool ((rd_T44 l0 x7_1).f1))).setCell ⟨gb219, 2, none⟩ (.string ((rd_T44 l0 x7_1).f2))).setCell ⟨gb219, 3, none⟩ (.string ((rd_T44 l0 x7_1).f3))).setCell ⟨gb219, 4, none⟩ (.string ((rd_T44 l0 x7_1).f4)))) := ⟨bel1 GE219.out⟩
       (try clear BK219)
       (try clear HB)
       generalize (((((w25.setCell ⟨gb219, 0, none⟩ (.string ((rd_T44 l0 x7_1).f0))).setCell ⟨gb219, 1, none⟩ (.bool ((rd_T44 l0 x7_1).f1))).setCell ⟨gb219, 2, none⟩ (.string ((rd_T44 l0 x7_1).f2))).setCell ⟨gb219, 3, none⟩ (.string ((rd_T44 l0 x7_1).f3))).setCell ⟨gb219, 4, none⟩ (.string ((rd_T44 l0 x7_1).f4))) = w27 at n0_ n1_ ⊢
       have BK219 := n0_; have HB := n1_; clear n0_ n1_; replace BK219 := am (blk_drew BK219.out); replace HB := am (below_drew1 HB.out)
       refine st (n := 10) (S := fun w' => w'.cell? ⟨gb219, 0, none⟩ = some (.string ((rd_T44 l0 x7_1).f0)) ∧ w'.cell? ⟨gb219, 1, none⟩ = some (.bool ((rd_T44 l0 x7_1).f1)) ∧ w'.cell? ⟨gb219, 2, none⟩ = some (.string ((rd_T44 l0 x7_1).f2)) ∧ w'.cell? ⟨gb219, 3, none⟩ = some (.string ((rd_T44 l0 x7_1).f3)) ∧ w'.cell? ⟨gb219, 4, none⟩ = some (.string ((rd_T44 l0 x7_1).f4))) (ds := []) ⟨(blk_cell BK219.out 0).trans rfl, (blk_cell BK219.out 1).trans rfl, (blk_cell BK219.out 2).trans rfl, (blk_cell BK219.out 3).trans rfl, (blk_cell BK219.out 4).trans rfl⟩ (fun hHeld => ?_); refine with_tabW impl_affixesOk.tab4 impl_affixesOk.bits4 (fun HT_ HW_ => ?_)
       generalize w27.drew = w28 at BK219 HB hHeld ⊢
       refine tk5 0 12 hHeld ?_
       refine on1 1 13 (fun K hK => ?_)
       refine goes_ Try.func69 (by kernel_rfl) rfl #[.agg #[.string ((rd_T44 l0 x7_1).f0), .bool ((rd_T44 l0 x7_1).f1), .string ((rd_T44 l0 x7_1).f2), .string ((rd_T44 l0 x7_1).f3), .string ((rd_T44 l0 x7_1).f4)]] (by rfl) rfl rfl mq ?_
       with_reducible refine (impl_AffixOk.calls k1 ((rd_T44 l0 x7_1).f0) ((rd_T44 l0 x7_1).f1) ((rd_T44 l0 x7_1).f2) ((rd_T44 l0 x7_1).f3) ((rd_T44 l0 x7_1).f4) false _ A5.out).mono ?_
       rintro e w29 ⟨rfl, hb⟩
       refine ⟨_, rfl, ?_⟩
       replace BK219 := am (blk_below (g := gb219) (o := .cells #[.string ((rd_T44 l0 x7_1).f0), .bool ((rd_T44 l0 x7_1).f1), .string ((rd_T44 l0 x7_1).f2), .string ((rd_T44 l0 x7_1).f3), .string ((rd_T44 l0 x7_1).f4)] 44 (0, 0)) (bq BK219.out) hb); replace HB := am (below_step (bel1 GE219.out) hb)
       (try clear hb)
       (try clear hb2)
       (try clear hk)
       (try clear hi)
       refine hK.out _ _ ⟨(blk_cell BK219.out 0).trans rfl, (blk_cell BK219.out 1).trans rfl, (blk_cell BK219.out 2).trans rfl, (blk_cell BK219.out 3).trans rfl, (blk_cell BK219.out 4).trans rfl⟩ (fun hHeld => ?_)
       clear hK K
       refine norm_ (a' := ?_) ?_ ?_
       rotate_left
       ·show Act.put _ (some 13) _ = _
        simp only [Act.put, List.setIfInBounds_toArray, List.set_cons_zero, List.set_cons_succ, i64_w, i32_w]
        rfl
       refine pu 2 14 ?_
       refine pu 3 15 ?_
       refine puu 4 16 ?_
       refine puu 5 17 ?_
       refine puu 6 18 ?_
       refine puu 7 19 ?_
       refine puu 8 20 ?_
       refine pu 9 21 ?_
       refine done_ (done_of HT_.out (by kernel_rfl)) ?_
       try go_wp2
       go_ret
       exact ⟨eq_, bel1 GE219.out⟩
     ·rw [if_neg c4] at H
      exact absurd H (by simp)
    ·rw [if_neg c3] at H
     exact absurd H (by simp)
   ·rw [if_neg c2] at H; have c2b0 := decide_eq_false c2; clear c2; obtain rfl := Option.some.inj H; go_wp2; go_ret
    exact ⟨eq_, bel⟩

/-! ### impl_within: function 72 -/
def impl_within.f (a0 : Int) (a1 : Int) (a2 : Int) : Option (Bool) := if a0 ≥ a1 then (some (decide (a0 ≤ a2))) else (some false)
set_option maxHeartbeats 8000000 in
set_option maxRecDepth 100000 in
theorem impl_within.calls (a0 : Int) (a1 : Int) (a2 : Int) (r : Bool) (w : World) (h : impl_within.f a0 a1 a2 = some r) :
  Calls Try.prog 72 #[.int .i64 a0, .int .i64 a1, .int .i64 a2] w fun e w' => e = .returned (.bool r) ∧ Drawn0 w w' := by
 have H : (if a0 ≥ a1 then (some (decide (a0 ≤ a2))) else (some false)) = some r := h
 clear h
 by_cases c4 : a0 ≥ a1
 ·rw [if_pos c4] at H; have c4b0 := decide_eq_true c4; clear c4; obtain rfl := Option.some.inj H; go_enter Try.func72, Try.ntmps72; go_wp2; go_ret
  exact ⟨sq, dr⟩
 ·rw [if_neg c4] at H; have c4b0 := decide_eq_false c4; clear c4; obtain rfl := Option.some.inj H; go_enter Try.func72, Try.ntmps72; go_wp2; go_ret
  exact ⟨sq, dr⟩

/-! ### impl_WordOk: function 30 -/
def impl_WordOk.f (k : Nat) (a0 : ByteArray) : Option (Bool) := (impl_within.f (a0.size : Int) 1 12).bind fun t226 => (if t226 = true then ((impl_lower.f k a0).bind fun t227 => (some t227)) else (some false))
theorem impl_WordOk.mono : ∀ a0 k, LeO (impl_WordOk.f k a0) (impl_WordOk.f (k + 1) a0) := by
 intro a0 k
 unfold impl_WordOk.f
 repeat' first | (with_reducible first | exact impl_lower.mono _ _ | exact LeO.refl _ | exact LeO.none _ | refine LeO.ite ?_ ?_ | refine LeO.bind ?_ (fun _ => ?_)) | exact impl_lower.mono _ _ | exact LeO.none _ | refine LeO.ite ?_ ?_ | refine LeO.bind ?_ (fun _ => ?_)
set_option maxHeartbeats 8000000 in
set_option maxRecDepth 100000 in
theorem impl_WordOk.calls (k : Nat) (a0 : ByteArray) (r : Bool) (w : World) (h : impl_WordOk.f k a0 = some r) :
  Calls Try.prog 30 #[.string a0] w fun e w' => e = .returned (.bool r) ∧ Drawn0 w w' := by
 have H : ((impl_within.f (a0.size : Int) 1 12).bind fun t226 => (if t226 = true then ((impl_lower.f k a0).bind fun t227 => (some t227)) else (some false))) = some r := h
 clear h; replace H := Option.bind_eq_some_iff.mp H; obtain ⟨t226, A20, H⟩ := H; replace H : (if t226 = true then ((impl_lower.f k a0).bind fun t227 => (some t227)) else (some false)) = some r := H; have A2 := Aside0.mk A20; clear A20
 by_cases c3 : t226 = true
 ·subst c3
  have H1 : ((impl_lower.f k a0).bind fun t227 => (some t227)) = some r := b31_
  replace H := H1; clear H1
  replace H := Option.bind_eq_some_iff.mp H; obtain ⟨t227, A40, H⟩ := H; replace H : (some t227) = some r := H; have A4 := Aside0.mk A40; clear A40; obtain rfl := Option.some.inj H; go_enter Try.func30, Try.ntmps30
  go_wp2_with (first | ((with_reducible refine gate_callee (f := 72) rfl ?_); refine goesL_ (some 5) rfl rfl Try.func72 (by kernel_rfl) rfl #[.int .i64 (a0.size : Int), .int .i64 1, .int .i64 12] rfl mq ?_; (with_reducible refine (impl_within.calls (a0.size : Int) 1 12 true _ A2.out).mono ?_); rintro e w' ⟨rfl, ⟨nd, rfl⟩⟩; refine ⟨_, rfl, ?_⟩) | (go_at_call 73; (with_reducible refine (impl_lower.calls k a0 t227 _ A4.out).mono ?_); rintro e w' ⟨rfl, ⟨nd, rfl⟩⟩))
  go_ret
  exact ⟨sq, dr⟩
 ·replace c3 := Bool.eq_false_iff.mpr c3; subst c3
  have H1 : (some false) = some r := b17_
  replace H := H1; clear H1
  obtain rfl := Option.some.inj H; go_enter Try.func30, Try.ntmps30
  go_wp2_with (first | ((with_reducible refine gate_callee (f := 72) rfl ?_); refine goesL_ (some 5) rfl rfl Try.func72 (by kernel_rfl) rfl #[.int .i64 (a0.size : Int), .int .i64 1, .int .i64 12] rfl mq ?_; (with_reducible refine (impl_within.calls (a0.size : Int) 1 12 false _ A2.out).mono ?_); rintro e w' ⟨rfl, ⟨nd, rfl⟩⟩; refine ⟨_, rfl, ?_⟩))
  go_ret
  exact ⟨sq, dr⟩

/-! ### impl_entryOk: function 58 -/
def impl_entryOk.l0 : Nat → Int → Int → ByteArray → ByteArray → Option (Bool)
 | 0, _, _, _, _ => none
 | k + 1, x6, x7, x229000, x229001 => if x7 < x6 then (if 0 ≤ x7 then (if x7 < (x229001.size : Int) then ((impl_upper.f (bt x229001 x7)).bind fun t229 => (if t229 = true then (if x7 > 0 then (if 0 ≤ (wrap64 (x7 - 1)) then (if (wrap64 (x7 - 1)) < (x229001.size : Int) then (if (bt x229001 (wrap64 (x7 - 1))) ≥ (bt x229001 x7) then (some false) else (impl_entryOk.l0 k x6 (wrap64 (x7 + 1)) x229000 x229001)) else (none)) else (none)) else (impl_entryOk.l0 k x6 (wrap64 (x7 + 1)) x229000 x229001)) else (some false))) else (none)) else (none)) else ((impl_WordOk.f k x229000).bind fun t230 => (if t230 = true then (some (decide ((x229001.size : Int) ≤ 4))) else (some false)))
def impl_entryOk.f (k : Nat) (a0_0 : ByteArray) (a0_1 : ByteArray) : Option (Bool) := impl_entryOk.l0 k (a0_1.size : Int) 0 a0_0 a0_1
theorem impl_entryOk.mono_l : ∀ k, (∀ y0 y1 y2 y3, LeO (impl_entryOk.l0 k y0 y1 y2 y3) (impl_entryOk.l0 (k + 1) y0 y1 y2 y3))
 | 0 => fun _ _ _ _ r h => by simp [impl_entryOk.l0] at h
 | k + 1 => by
  have ih0 := impl_entryOk.mono_l k
  ·intro y0 y1 y2 y3
   unfold impl_entryOk.l0
   repeat' first | (with_reducible first | exact ih0 _ _ _ _ | exact impl_WordOk.mono _ _ | exact LeO.refl _ | exact LeO.none _ | refine LeO.ite ?_ ?_ | refine LeO.bind ?_ (fun _ => ?_)) | exact ih0 _ _ _ _ | exact impl_WordOk.mono _ _ | exact LeO.none _ | refine LeO.ite ?_ ?_ | refine LeO.bind ?_ (fun _ => ?_)
theorem impl_entryOk.mono : ∀ a0 a1 k, LeO (impl_entryOk.f k a0 a1) (impl_entryOk.f (k + 1) a0 a1) := by
 intro a0 a1 k; have ih0 := impl_entryOk.mono_l k
 unfold impl_entryOk.f
 repeat' first | (with_reducible first | exact ih0 _ _ _ _ | exact impl_WordOk.mono _ _ | exact LeO.refl _ | exact LeO.none _ | refine LeO.ite ?_ ?_ | refine LeO.bind ?_ (fun _ => ?_)) | exact ih0 _ _ _ _ | exact impl_WordOk.mono _ _ | exact LeO.none _ | refine LeO.ite ?_ ?_ | refine LeO.bind ?_ (fun _ => ?_)
set_option maxHeartbeats 8000000 in
set_option maxRecDepth 100000 in
theorem impl_entryOk.calls (k : Nat) (a0_0 : ByteArray) (a0_1 : ByteArray) (r : Bool) (w : World) (h : impl_entryOk.f k a0_0 a0_1 = some r) :
  Calls Try.prog 58 #[.agg #[.string a0_0, .string a0_1]] w fun e w' => e = .returned (.bool r) ∧ Below w.heap.size w w' := by
 have hu31 := Try.underlying31; have HB := am (Below.refl w.heap.size w)
 have H : (impl_entryOk.l0 k (a0_1.size : Int) 0 a0_0 a0_1) = some r := h
 clear h
 have H' := am H
 clear H; go_enter Try.func58, Try.ntmps58
 go_wp2_with (first | ((with_reducible refine gate_dst (N := 1) rfl ?_); (try (refine gate_guard (by rfl) ?_; dsimp only)); refine bx 1 (cs := #[.string a0_0, .string a0_1]) (t := 31) ?_; intro gb228 hg w2 hbox hb; have BK228 := am (hbox); have GW228 := am ((b18_ : w.heap.size ≤ gb228)); have GE228 := am ((b18_ : w.heap.size ≤ gb228)); replace HB := am (below_step bel hb); clear hb hbox hg; have hcz3_0 := bc BK228.out 0; have hcz3_1 := bc BK228.out 1; have hfz3_0 := bf BK228.out 0; have hfz3_1 := bf BK228.out 1))
 repeat (go_quiet (first | ((with_reducible refine gate_dst (N := 1) rfl ?_); (try (refine gate_guard (by rfl) ?_; dsimp only)); refine bx 1 (cs := #[.string a0_0, .string a0_1]) (t := 31) ?_; intro gb228 hg w2 hbox hb; have BK228 := am (hbox); have GW228 := am ((b18_ : w.heap.size ≤ gb228)); have GE228 := am ((b18_ : w.heap.size ≤ gb228)); replace HB := am (below_step bel hb); clear hb hbox hg; have hcz3_0 := bc BK228.out 0; have hcz3_1 := bc BK228.out 1; have hfz3_0 := bf BK228.out 0; have hfz3_1 := bf BK228.out 1)); try go_wp2_with (first | ((with_reducible refine gate_dst (N := 1) rfl ?_); (try (refine gate_guard (by rfl) ?_; dsimp only)); refine bx 1 (cs := #[.string a0_0, .string a0_1]) (t := 31) ?_; intro gb228 hg w2 hbox hb; have BK228 := am (hbox); have GW228 := am ((b18_ : w.heap.size ≤ gb228)); have GE228 := am ((b18_ : w.heap.size ≤ gb228)); replace HB := am (below_step bel hb); clear hb hbox hg; have hcz3_0 := bc BK228.out 0; have hcz3_1 := bc BK228.out 1; have hfz3_0 := bf BK228.out 0; have hfz3_1 := bf BK228.out 1)))
 go_loopg [7] k (fun kq v7 w' => ∃ (x7_1 : Int), v7 = .int .i64 x7_1 ∧ Aside0 (impl_entryOk.l0 kq (a0_1.size : Int) x7_1 a0_0 a0_1 = some r) ∧ Aside0 (kq ≤ k) ∧ Aside0 (w'.heap[gb228]? = some (.cells #[.string a0_0, .string a0_1] 31 (0, 0))) ∧ Aside0 (Below w.heap.size w w'))
 case atStart => exact ⟨(0), sq, H', ⟨Nat.le_refl _⟩, ⟨bq BK228.out⟩, ⟨bel1 GE228.out⟩⟩
 case round =>
  clear H'; (try clear p2); (try clear hcz3_0); (try clear hcz3_1); (try clear hfz3_0); (try clear hfz3_1); obtain ⟨x7_1, rfl, HA, HK1, BK228, HB⟩ := hrel
  cases gk with
  | zero => exact absurd HA.out (by simp [impl_entryOk.l0])
  | succ k1 =>
   have H := HA.out; clear HA
   simp only [impl_entryOk.l0] at H
   by_cases c4 : x7_1 < (a0_1.size : Int)
   ·rw [if_pos c4] at H; have c4b0 := decide_eq_true c4; clear c4
    by_cases c5 : 0 ≤ x7_1
    ·rw [if_pos c5] at H; have c5b0 := decide_eq_true c5; clear c5
     by_cases c6 : x7_1 < (a0_1.size : Int)
     ·rw [if_pos c6] at H; have c6b0 := decide_eq_true c6; clear c6; replace H := Option.bind_eq_some_iff.mp H; obtain ⟨t229, A80, H⟩ := H; replace H : (if t229 = true then (if x7_1 > 0 then (if 0 ≤ (wrap64 (x7_1 - 1)) then (if (wrap64 (x7_1 - 1)) < (a0_1.size : Int) then (if (bt a0_1 (wrap64 (x7_1 - 1))) ≥ (bt a0_1 x7_1) then (some false) else (impl_entryOk.l0 k1 (a0_1.size : Int) (wrap64 (x7_1 + 1)) a0_0 a0_1)) else (none)) else (none)) else (impl_entryOk.l0 k1 (a0_1.size : Int) (wrap64 (x7_1 + 1)) a0_0 a0_1)) else (some false)) = some r := H; have A8 := Aside0.mk A80; clear A80
      by_cases c9 : t229 = true
      ·subst c9
       have H1 : (if x7_1 > 0 then (if 0 ≤ (wrap64 (x7_1 - 1)) then (if (wrap64 (x7_1 - 1)) < (a0_1.size : Int) then (if (bt a0_1 (wrap64 (x7_1 - 1))) ≥ (bt a0_1 x7_1) then (some false) else (impl_entryOk.l0 k1 (a0_1.size : Int) (wrap64 (x7_1 + 1)) a0_0 a0_1)) else (none)) else (none)) else (impl_entryOk.l0 k1 (a0_1.size : Int) (wrap64 (x7_1 + 1)) a0_0 a0_1)) = some r := b31_
       replace H := H1; clear H1
       by_cases c10 : x7_1 > 0
       ·rw [if_pos c10] at H; have c10b0 := decide_eq_true c10; clear c10; obtain ⟨ji11, hji11⟩ : ∃ j_ : Int, (wrap64 (x7_1 - 1)) = j_ := ⟨_, rfl⟩
        replace H : (if 0 ≤ (ji11) then (if (ji11) < (a0_1.size : Int) then (if (bt a0_1 (ji11)) ≥ (bt a0_1 x7_1) then (some false) else (impl_entryOk.l0 k1 (a0_1.size : Int) (wrap64 (x7_1 + 1)) a0_0 a0_1)) else (none)) else (none)) = some r := by first | (rw [hji11] at H; exact H) | (simp only [hji11] at H ⊢; exact H)
        (try rw [hji11] at A8)
        have hji11w : (IntKind.i64.wrap (x7_1 - 1)) = ji11 := (i64_w _).trans hji11
        by_cases c12 : 0 ≤ (ji11)
        ·rw [if_pos c12] at H; have c12b0 := decide_eq_true c12; clear c12
         by_cases c13 : (ji11) < (a0_1.size : Int)
         ·rw [if_pos c13] at H; have c13b0 := decide_eq_true c13; clear c13
          by_cases c16 : (bt a0_1 (ji11)) ≥ (bt a0_1 x7_1)
          ·rw [if_pos c16] at H; have c16b0 := decide_eq_true c16; clear c16; obtain rfl := Option.some.inj H; have hcz17_0 := bc BK228.out 0; have hcz17_1 := bc BK228.out 1; have hfz17_0 := bf BK228.out 0; have hfz17_1 := bf BK228.out 1
           have p7 : 0 ≤ (x7_1 : Int) := of_decide_eq_true ad
           have q7 : x7_1 < (a0_1.size : Int) := of_decide_eq_true ad
           have hx7 := bt_at a0_1 x7_1; replace p7 := eq_true p7; replace q7 := eq_true q7
           try have p14 : 0 ≤ ((ji11) : Int) := of_decide_eq_true ad
           try have q14 : (ji11) < (a0_1.size : Int) := of_decide_eq_true ad
           try have hx14 := bt_at a0_1 (ji11)
           try replace p14 := eq_true p14
           try replace q14 := eq_true q14
           try have p15 : 0 ≤ (x7_1 : Int) := of_decide_eq_true ad
           try have q15 : x7_1 < (a0_1.size : Int) := of_decide_eq_true ad
           try have hx15 := bt_at a0_1 x7_1
           try replace p15 := eq_true p15
           try replace q15 := eq_true q15
           go_wp2_with (first | (go_at_call 93; (with_reducible refine (impl_upper.calls (bt a0_1 x7_1) true _ A8.out).mono ?_); rintro e w' ⟨rfl, ⟨nd, rfl⟩⟩; first | exact ⟨rfl, _, World.drewN_drewN _ _ _⟩ | exact ⟨rfl, _, Eq.trans (World.drewN_drewN _ _ _) (congrArg (World.drewN _) (Nat.add_assoc _ _ _))⟩ | (have p14 : 0 ≤ ((ji11) : Int) := of_decide_eq_true ad; have q14 : (ji11) < (a0_1.size : Int) := of_decide_eq_true ad; have hx14 := bt_at a0_1 (ji11); replace p14 := eq_true p14; replace q14 := eq_true q14; have p15 : 0 ≤ (x7_1 : Int) := of_decide_eq_true ad; have q15 : x7_1 < (a0_1.size : Int) := of_decide_eq_true ad; have hx15 := bt_at a0_1 x7_1; replace p15 := eq_true p15; replace q15 := eq_true q15)))
           repeat (go_quiet (first | (go_at_call 93; (with_reducible refine (impl_upper.calls (bt a0_1 x7_1) true _ A8.out).mono ?_); rintro e w' ⟨rfl, ⟨nd, rfl⟩⟩; first | exact ⟨rfl, _, World.drewN_drewN _ _ _⟩ | exact ⟨rfl, _, Eq.trans (World.drewN_drewN _ _ _) (congrArg (World.drewN _) (Nat.add_assoc _ _ _))⟩ | (have p14 : 0 ≤ ((ji11) : Int) := of_decide_eq_true ad; have q14 : (ji11) < (a0_1.size : Int) := of_decide_eq_true ad; have hx14 := bt_at a0_1 (ji11); replace p14 := eq_true p14; replace q14 := eq_true q14; have p15 : 0 ≤ (x7_1 : Int) := of_decide_eq_true ad; have q15 : x7_1 < (a0_1.size : Int) := of_decide_eq_true ad; have hx15 := bt_at a0_1 x7_1; replace p15 := eq_true p15; replace q15 := eq_true q15))); try go_wp2_with (first | (go_at_call 93; (with_reducible refine (impl_upper.calls (bt a0_1 x7_1) true _ A8.out).mono ?_); rintro e w' ⟨rfl, ⟨nd, rfl⟩⟩; first | exact ⟨rfl, _, World.drewN_drewN _ _ _⟩ | exact ⟨rfl, _, Eq.trans (World.drewN_drewN _ _ _) (congrArg (World.drewN _) (Nat.add_assoc _ _ _))⟩ | (have p14 : 0 ≤ ((ji11) : Int) := of_decide_eq_true ad; have q14 : (ji11) < (a0_1.size : Int) := of_decide_eq_true ad; have hx14 := bt_at a0_1 (ji11); replace p14 := eq_true p14; replace q14 := eq_true q14; have p15 : 0 ≤ (x7_1 : Int) := of_decide_eq_true ad; have q15 : x7_1 < (a0_1.size : Int) := of_decide_eq_true ad; have hx15 := bt_at a0_1 x7_1; replace p15 := eq_true p15; replace q15 := eq_true q15))))
           go_ret
           exact ⟨by first | rfl | (simp [errW_none, errW_some] <;> rfl) | (simp only [← hji11]; first | rfl | (simp [errW_none, errW_some] <;> rfl)) | (simp [*, errW_none, errW_some] <;> rfl), bel1 GE228.out⟩
          ·rw [if_neg c16] at H; have c16b0 := decide_eq_false c16; clear c16
           have H' := am H
           clear H; have hcz18_0 := bc BK228.out 0; have hcz18_1 := bc BK228.out 1; have hfz18_0 := bf BK228.out 0; have hfz18_1 := bf BK228.out 1
           have p7 : 0 ≤ (x7_1 : Int) := of_decide_eq_true ad
           have q7 : x7_1 < (a0_1.size : Int) := of_decide_eq_true ad
           have hx7 := bt_at a0_1 x7_1; replace p7 := eq_true p7; replace q7 := eq_true q7
           try have p14 : 0 ≤ ((ji11) : Int) := of_decide_eq_true ad
           try have q14 : (ji11) < (a0_1.size : Int) := of_decide_eq_true ad
           try have hx14 := bt_at a0_1 (ji11)
           try replace p14 := eq_true p14
           try replace q14 := eq_true q14
           try have p15 : 0 ≤ (x7_1 : Int) := of_decide_eq_true ad
           try have q15 : x7_1 < (a0_1.size : Int) := of_decide_eq_true ad
           try have hx15 := bt_at a0_1 x7_1
           try replace p15 := eq_true p15
           try replace q15 := eq_true q15
           go_wp2_with (first | (go_at_call 93; (with_reducible refine (impl_upper.calls (bt a0_1 x7_1) true _ A8.out).mono ?_); rintro e w' ⟨rfl, ⟨nd, rfl⟩⟩; first | exact ⟨rfl, _, World.drewN_drewN _ _ _⟩ | exact ⟨rfl, _, Eq.trans (World.drewN_drewN _ _ _) (congrArg (World.drewN _) (Nat.add_assoc _ _ _))⟩ | (have p14 : 0 ≤ ((ji11) : Int) := of_decide_eq_true ad; have q14 : (ji11) < (a0_1.size : Int) := of_decide_eq_true ad; have hx14 := bt_at a0_1 (ji11); replace p14 := eq_true p14; replace q14 := eq_true q14; have p15 : 0 ≤ (x7_1 : Int) := of_decide_eq_true ad; have q15 : x7_1 < (a0_1.size : Int) := of_decide_eq_true ad; have hx15 := bt_at a0_1 x7_1; replace p15 := eq_true p15; replace q15 := eq_true q15)))
           repeat (go_quiet (first | (go_at_call 93; (with_reducible refine (impl_upper.calls (bt a0_1 x7_1) true _ A8.out).mono ?_); rintro e w' ⟨rfl, ⟨nd, rfl⟩⟩; first | exact ⟨rfl, _, World.drewN_drewN _ _ _⟩ | exact ⟨rfl, _, Eq.trans (World.drewN_drewN _ _ _) (congrArg (World.drewN _) (Nat.add_assoc _ _ _))⟩ | (have p14 : 0 ≤ ((ji11) : Int) := of_decide_eq_true ad; have q14 : (ji11) < (a0_1.size : Int) := of_decide_eq_true ad; have hx14 := bt_at a0_1 (ji11); replace p14 := eq_true p14; replace q14 := eq_true q14; have p15 : 0 ≤ (x7_1 : Int) := of_decide_eq_true ad; have q15 : x7_1 < (a0_1.size : Int) := of_decide_eq_true ad; have hx15 := bt_at a0_1 x7_1; replace p15 := eq_true p15; replace q15 := eq_true q15))); try go_wp2_with (first | (go_at_call 93; (with_reducible refine (impl_upper.calls (bt a0_1 x7_1) true _ A8.out).mono ?_); rintro e w' ⟨rfl, ⟨nd, rfl⟩⟩; first | exact ⟨rfl, _, World.drewN_drewN _ _ _⟩ | exact ⟨rfl, _, Eq.trans (World.drewN_drewN _ _ _) (congrArg (World.drewN _) (Nat.add_assoc _ _ _))⟩ | (have p14 : 0 ≤ ((ji11) : Int) := of_decide_eq_true ad; have q14 : (ji11) < (a0_1.size : Int) := of_decide_eq_true ad; have hx14 := bt_at a0_1 (ji11); replace p14 := eq_true p14; replace q14 := eq_true q14; have p15 : 0 ≤ (x7_1 : Int) := of_decide_eq_true ad; have q15 : x7_1 < (a0_1.size : Int) := of_decide_eq_true ad; have hx15 := bt_at a0_1 x7_1; replace p15 := eq_true p15; replace q15 := eq_true q15))))
           go_roundg k1
           case measure => have := HK1.out; omega
           case rel => exact ⟨(wrap64 (x7_1 + 1)), sq, H', ⟨b58_⟩, ⟨bq BK228.out⟩, ⟨bel1 GE228.out⟩⟩
         ·rw [if_neg c13] at H
          exact absurd H (by simp)
        ·rw [if_neg c12] at H
         exact absurd H (by simp)
       ·rw [if_neg c10] at H; have c10b0 := decide_eq_false c10; clear c10
        have H' := am H
        clear H; have hcz19_0 := bc BK228.out 0; have hcz19_1 := bc BK228.out 1; have hfz19_0 := bf BK228.out 0; have hfz19_1 := bf BK228.out 1
        have p7 : 0 ≤ (x7_1 : Int) := of_decide_eq_true ad
        have q7 : x7_1 < (a0_1.size : Int) := of_decide_eq_true ad
        have hx7 := bt_at a0_1 x7_1; replace p7 := eq_true p7; replace q7 := eq_true q7
        go_wp2_with (first | (go_at_call 93; (with_reducible refine (impl_upper.calls (bt a0_1 x7_1) true _ A8.out).mono ?_); rintro e w' ⟨rfl, ⟨nd, rfl⟩⟩; (try first | exact ⟨rfl, _, World.drewN_drewN _ _ _⟩ | exact ⟨rfl, _, Eq.trans (World.drewN_drewN _ _ _) (congrArg (World.drewN _) (Nat.add_assoc _ _ _))⟩)))
        repeat (go_quiet (first | (go_at_call 93; (with_reducible refine (impl_upper.calls (bt a0_1 x7_1) true _ A8.out).mono ?_); rintro e w' ⟨rfl, ⟨nd, rfl⟩⟩; (try first | exact ⟨rfl, _, World.drewN_drewN _ _ _⟩ | exact ⟨rfl, _, Eq.trans (World.drewN_drewN _ _ _) (congrArg (World.drewN _) (Nat.add_assoc _ _ _))⟩))); try go_wp2_with (first | (go_at_call 93; (with_reducible refine (impl_upper.calls (bt a0_1 x7_1) true _ A8.out).mono ?_); rintro e w' ⟨rfl, ⟨nd, rfl⟩⟩; (try first | exact ⟨rfl, _, World.drewN_drewN _ _ _⟩ | exact ⟨rfl, _, Eq.trans (World.drewN_drewN _ _ _) (congrArg (World.drewN _) (Nat.add_assoc _ _ _))⟩))))
        go_roundg k1
        case measure => have := HK1.out; omega
        case rel => exact ⟨(wrap64 (x7_1 + 1)), sq, H', ⟨b58_⟩, ⟨bq BK228.out⟩, ⟨bel1 GE228.out⟩⟩
      ·replace c9 := Bool.eq_false_iff.mpr c9; subst c9
       have H1 : (some false) = some r := b17_
       replace H := H1; clear H1
       obtain rfl := Option.some.inj H; have hcz20_0 := bc BK228.out 0; have hcz20_1 := bc BK228.out 1; have hfz20_0 := bf BK228.out 0; have hfz20_1 := bf BK228.out 1
       have p7 : 0 ≤ (x7_1 : Int) := of_decide_eq_true ad
       have q7 : x7_1 < (a0_1.size : Int) := of_decide_eq_true ad
       have hx7 := bt_at a0_1 x7_1; replace p7 := eq_true p7; replace q7 := eq_true q7
       go_wp2_with (first | (go_at_call 93; (with_reducible refine (impl_upper.calls (bt a0_1 x7_1) false _ A8.out).mono ?_); rintro e w' ⟨rfl, ⟨nd, rfl⟩⟩; (try first | exact ⟨rfl, _, World.drewN_drewN _ _ _⟩ | exact ⟨rfl, _, Eq.trans (World.drewN_drewN _ _ _) (congrArg (World.drewN _) (Nat.add_assoc _ _ _))⟩)))
       repeat (go_quiet (first | (go_at_call 93; (with_reducible refine (impl_upper.calls (bt a0_1 x7_1) false _ A8.out).mono ?_); rintro e w' ⟨rfl, ⟨nd, rfl⟩⟩; (try first | exact ⟨rfl, _, World.drewN_drewN _ _ _⟩ | exact ⟨rfl, _, Eq.trans (World.drewN_drewN _ _ _) (congrArg (World.drewN _) (Nat.add_assoc _ _ _))⟩))); try go_wp2_with (first | (go_at_call 93; (with_reducible refine (impl_upper.calls (bt a0_1 x7_1) false _ A8.out).mono ?_); rintro e w' ⟨rfl, ⟨nd, rfl⟩⟩; (try first | exact ⟨rfl, _, World.drewN_drewN _ _ _⟩ | exact ⟨rfl, _, Eq.trans (World.drewN_drewN _ _ _) (congrArg (World.drewN _) (Nat.add_assoc _ _ _))⟩))))
       go_ret
       exact ⟨eq_, bel1 GE228.out⟩
     ·rw [if_neg c6] at H
      exact absurd H (by simp)
    ·rw [if_neg c5] at H
     exact absurd H (by simp)
   ·rw [if_neg c4] at H; have c4b0 := decide_eq_false c4; clear c4; replace H := Option.bind_eq_some_iff.mp H; obtain ⟨t230, A210, H⟩ := H; replace H : (if t230 = true then (some (decide ((a0_1.size : Int) ≤ 4))) else (some false)) = some r := H; have A21 := Aside0.mk A210; clear A210
    by_cases c22 : t230 = true
    ·subst c22
     have H1 : (some (decide ((a0_1.size : Int) ≤ 4))) = some r := b31_
     replace H := H1; clear H1
     obtain rfl := Option.some.inj H; have hcz23_0 := bc BK228.out 0; have hcz23_1 := bc BK228.out 1; have hfz23_0 := bf BK228.out 0; have hfz23_1 := bf BK228.out 1
     go_wp2_with (first | (go_at_call 30; (with_reducible refine (impl_WordOk.calls k1 a0_0 true _ A21.out).mono ?_); rintro e w' ⟨rfl, ⟨nd, rfl⟩⟩; (try first | exact ⟨rfl, _, World.drewN_drewN _ _ _⟩ | exact ⟨rfl, _, Eq.trans (World.drewN_drewN _ _ _) (congrArg (World.drewN _) (Nat.add_assoc _ _ _))⟩)))
     repeat (go_quiet (first | (go_at_call 30; (with_reducible refine (impl_WordOk.calls k1 a0_0 true _ A21.out).mono ?_); rintro e w' ⟨rfl, ⟨nd, rfl⟩⟩; (try first | exact ⟨rfl, _, World.drewN_drewN _ _ _⟩ | exact ⟨rfl, _, Eq.trans (World.drewN_drewN _ _ _) (congrArg (World.drewN _) (Nat.add_assoc _ _ _))⟩))); try go_wp2_with (first | (go_at_call 30; (with_reducible refine (impl_WordOk.calls k1 a0_0 true _ A21.out).mono ?_); rintro e w' ⟨rfl, ⟨nd, rfl⟩⟩; (try first | exact ⟨rfl, _, World.drewN_drewN _ _ _⟩ | exact ⟨rfl, _, Eq.trans (World.drewN_drewN _ _ _) (congrArg (World.drewN _) (Nat.add_assoc _ _ _))⟩))))
     go_ret
     exact ⟨eq_, bel1 GE228.out⟩
    ·replace c22 := Bool.eq_false_iff.mpr c22; subst c22
     have H1 : (some false) = some r := b17_
     replace H := H1; clear H1
     obtain rfl := Option.some.inj H; have hcz24_0 := bc BK228.out 0; have hcz24_1 := bc BK228.out 1; have hfz24_0 := bf BK228.out 0; have hfz24_1 := bf BK228.out 1
     go_wp2_with (first | (go_at_call 30; (with_reducible refine (impl_WordOk.calls k1 a0_0 false _ A21.out).mono ?_); rintro e w' ⟨rfl, ⟨nd, rfl⟩⟩; (try first | exact ⟨rfl, _, World.drewN_drewN _ _ _⟩ | exact ⟨rfl, _, Eq.trans (World.drewN_drewN _ _ _) (congrArg (World.drewN _) (Nat.add_assoc _ _ _))⟩)))
     repeat (go_quiet (first | (go_at_call 30; (with_reducible refine (impl_WordOk.calls k1 a0_0 false _ A21.out).mono ?_); rintro e w' ⟨rfl, ⟨nd, rfl⟩⟩; (try first | exact ⟨rfl, _, World.drewN_drewN _ _ _⟩ | exact ⟨rfl, _, Eq.trans (World.drewN_drewN _ _ _) (congrArg (World.drewN _) (Nat.add_assoc _ _ _))⟩))); try go_wp2_with (first | (go_at_call 30; (with_reducible refine (impl_WordOk.calls k1 a0_0 false _ A21.out).mono ?_); rintro e w' ⟨rfl, ⟨nd, rfl⟩⟩; (try first | exact ⟨rfl, _, World.drewN_drewN _ _ _⟩ | exact ⟨rfl, _, Eq.trans (World.drewN_drewN _ _ _) (congrArg (World.drewN _) (Nat.add_assoc _ _ _))⟩))))
     go_ret
     exact ⟨eq_, bel1 GE228.out⟩

end Go.Proofs.Ytedfcehhgbeibaa.QFnBookMore

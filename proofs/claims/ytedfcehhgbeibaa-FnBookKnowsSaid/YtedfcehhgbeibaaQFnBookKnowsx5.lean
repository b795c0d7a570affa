import Derived.Test.YtedfcehhgbeibaaQFnBookKnowsx0
import Derived.Test.YtedfcehhgbeibaaQFnBookKnowsx3
import Derived.Test.YtedfcehhgbeibaaQFnBookKnowsx4
import Derived.Test.YtedfcehhgbeibaaVMSh2
namespace Go.Proofs.Ytedfcehhgbeibaa.QFnBookKnows
open Go.RowKit Go.Proofs.YtedfcehhgbeibaaW.PrintWords Go.Proofs.YtedfcehhgbeibaaW.PrintLast Go.Proofs.YtedfcehhgbeibaaW.PrintMore Go.Proofs.Ytedfcehhgbeibaa.Sh
attribute [local go_sem] max2_int min2_int max_two min_two max_three min_three max_four min_four   -- for this text's walks alone
set_option linter.unusedVariables false
set_option linter.unusedSimpArgs false
-- shrunk

/-! ### impl_entriesOk: function 80 -/
def impl_entriesOk.l0 : Nat → List (S31) → List (S31) → Int → Int → Option (Bool)
 | 0, _, _, _, _ => none
 | k + 1, x0, x5, x6, x7 => if x7 < x6 then (if 0 ≤ x7 then (if x7 < (x5.length : Int) then ((impl_entryOk.f k ((rd_T31 x5 x7).f0) ((rd_T31 x5 x7).f1)).bind fun t132 => (if t132 = true then (if x7 > 0 then (if 0 ≤ (wrap64 (x7 - 1)) then (if (wrap64 (x7 - 1)) < (x0.length : Int) then (if ((Op.bytesLess (((rd_T31 x0 (wrap64 (x7 - 1))).f0).toList) (((rd_T31 x5 x7).f0).toList)) = true) then (impl_entriesOk.l0 k x0 x5 x6 (wrap64 (x7 + 1))) else (some false)) else (none)) else (none)) else (impl_entriesOk.l0 k x0 x5 x6 (wrap64 (x7 + 1)))) else (some false))) else (none)) else (none)) else (some (decide ((x0.length : Int) ≤ 24)))
def impl_entriesOk.f (k : Nat) (l0 : List (S31)) : Option (Bool) := impl_entriesOk.l0 k l0 l0 (l0.length : Int) 0
theorem impl_entriesOk.mono_l : ∀ k, (∀ y0 y1 y2 y3, LeO (impl_entriesOk.l0 k y0 y1 y2 y3) (impl_entriesOk.l0 (k + 1) y0 y1 y2 y3))
 | 0 => fun _ _ _ _ r h => by simp [impl_entriesOk.l0] at h
 | k + 1 => by
  have ih0 := impl_entriesOk.mono_l k
  ·intro y0 y1 y2 y3
   unfold impl_entriesOk.l0
   repeat' first | (with_reducible first | exact ih0 _ _ _ _ | exact impl_entryOk.mono _ _ _ | exact LeO.refl _ | exact LeO.none _ | refine LeO.ite ?_ ?_ | refine LeO.bind ?_ (fun _ => ?_)) | exact ih0 _ _ _ _ | exact impl_entryOk.mono _ _ _ | exact LeO.none _ | refine LeO.ite ?_ ?_ | refine LeO.bind ?_ (fun _ => ?_)
theorem impl_entriesOk.mono : ∀ a0 k, LeO (impl_entriesOk.f k a0) (impl_entriesOk.f (k + 1) a0) := by
 intro a0 k; have ih0 := impl_entriesOk.mono_l k
 unfold impl_entriesOk.f
 repeat' first | (with_reducible first | exact ih0 _ _ _ _ | exact impl_entryOk.mono _ _ _ | exact LeO.refl _ | exact LeO.none _ | refine LeO.ite ?_ ?_ | refine LeO.bind ?_ (fun _ => ?_)) | exact ih0 _ _ _ _ | exact impl_entryOk.mono _ _ _ | exact LeO.none _ | refine LeO.ite ?_ ?_ | refine LeO.bind ?_ (fun _ => ?_)
def impl_entriesOk.T4 : Bool × List (List Nat × List Nat) := (true, [([], []), ([0], [0]), ([1], [1]), ([2, 1], [2]), ([3], [3]), ([4, 3], [3, 4]), ([5, 3, 3], [3, 5]), ([6], [6]), ([6], [6]), ([8, 6], [6, 8]), ([7, 9, 6], [6, 7, 9]), ([10, 6], [6, 10]), ([11, 6], [6, 11]), ([6], [6]), ([13, 6], [6, 13]), ([12, 14, 6], [6, 12, 14]), ([6, 15, 3], [3, 6, 15]), ([3, 16], [3, 16])])
def impl_entriesOk.B4 : List Nat := [0, 1, 3, 7, 15, 31, 63, 127, 127, 383, 1023, 2047, 4095, 127, 8319, 32767, 65535, 131071]
theorem impl_entriesOk.tab4 : rtab .any (opsOf Try.f80 4) = impl_entriesOk.T4 := by kernel_rfl
theorem impl_entriesOk.bits4 : waitsOk impl_entriesOk.T4.2 impl_entriesOk.B4 = true := by kernel_rfl
set_option maxHeartbeats 8000000 in
set_option maxRecDepth 100000 in
theorem impl_entriesOk.calls (k : Nat) (A0 : Option Addr) (c0 : Nat) (l0 : List (S31)) (r : Bool) (w : World) (hr0 : Kd.C k31 w A0 l0.length l0) (hc0 : l0.length ≤ c0) (h : impl_entriesOk.f k l0 = some r) :
  Calls Try.prog 80 #[.slice A0 l0.length c0] w fun e w' => e = .returned (.bool r) ∧ Below w.heap.size w w' := by
 have hu31 := Try.underlying31; have HR0 := am hr0; have HC0 := am hc0; clear hr0 hc0; have HB := am (Below.refl w.heap.size w)
 have H : (impl_entriesOk.l0 k l0 l0 (l0.length : Int) 0) = some r := h
 clear h
 have H' := am H
 clear H; go_enter Try.func80, Try.ntmps80; go_wp2
 go_loopg [7] k (fun kq v7 w' => ∃ (x7_1 : Int), v7 = .int .i64 x7_1 ∧ Aside0 (impl_entriesOk.l0 kq l0 l0 (l0.length : Int) x7_1 = some r) ∧ Aside0 (kq ≤ k) ∧ Aside0 (Below w.heap.size w w'))
 case atStart => exact ⟨(0), sq, H', ⟨Nat.le_refl _⟩, ⟨bel⟩⟩
 case round =>
  clear H'; obtain ⟨x7_1, rfl, HA, HK1, HB⟩ := hrel
  cases gk with
  | zero => exact absurd HA.out (by simp [impl_entriesOk.l0])
  | succ k1 =>
   have H := HA.out; clear HA
   simp only [impl_entriesOk.l0] at H
   by_cases c2 : x7_1 < (l0.length : Int)
   ·rw [if_pos c2] at H; have c2b0 := decide_eq_true c2; clear c2
    by_cases c3 : 0 ≤ x7_1
    ·rw [if_pos c3] at H; have c3b0 := decide_eq_true c3; clear c3
     by_cases c4 : x7_1 < (l0.length : Int)
     ·rw [if_pos c4] at H; have c4b0 := decide_eq_true c4; clear c4; replace H := Option.bind_eq_some_iff.mp H; obtain ⟨t132, A50, H⟩ := H; replace H : (if t132 = true then (if x7_1 > 0 then (if 0 ≤ (wrap64 (x7_1 - 1)) then (if (wrap64 (x7_1 - 1)) < (l0.length : Int) then (if ((Op.bytesLess (((rd_T31 l0 (wrap64 (x7_1 - 1))).f0).toList) (((rd_T31 l0 x7_1).f0).toList)) = true) then (impl_entriesOk.l0 k1 l0 l0 (l0.length : Int) (wrap64 (x7_1 + 1))) else (some false)) else (none)) else (none)) else (impl_entriesOk.l0 k1 l0 l0 (l0.length : Int) (wrap64 (x7_1 + 1)))) else (some false)) = some r := H; have A5 := Aside0.mk A50; clear A50
      by_cases c6 : t132 = true
      ·subst c6
       have H1 : (if x7_1 > 0 then (if 0 ≤ (wrap64 (x7_1 - 1)) then (if (wrap64 (x7_1 - 1)) < (l0.length : Int) then (if ((Op.bytesLess (((rd_T31 l0 (wrap64 (x7_1 - 1))).f0).toList) (((rd_T31 l0 x7_1).f0).toList)) = true) then (impl_entriesOk.l0 k1 l0 l0 (l0.length : Int) (wrap64 (x7_1 + 1))) else (some false)) else (none)) else (none)) else (impl_entriesOk.l0 k1 l0 l0 (l0.length : Int) (wrap64 (x7_1 + 1)))) = some r := b34_
       replace H := H1; clear H1
       by_cases c7 : x7_1 > 0
       ·rw [if_pos c7] at H; have c7b0 := decide_eq_true c7; clear c7; obtain ⟨ji8, hji8⟩ : ∃ j_ : Int, (wrap64 (x7_1 - 1)) = j_ := ⟨_, rfl⟩
        replace H : (if 0 ≤ (ji8) then (if (ji8) < (l0.length : Int) then (if ((Op.bytesLess (((rd_T31 l0 (ji8)).f0).toList) (((rd_T31 l0 x7_1).f0).toList)) = true) then (impl_entriesOk.l0 k1 l0 l0 (l0.length : Int) (wrap64 (x7_1 + 1))) else (some false)) else (none)) else (none)) = some r := by first | (rw [hji8] at H; exact H) | (simp only [hji8] at H ⊢; exact H)
        (try rw [hji8] at A5)
        have hji8w : (IntKind.i64.wrap (x7_1 - 1)) = ji8 := (i64_w _).trans hji8
        by_cases c9 : 0 ≤ (ji8)
        ·rw [if_pos c9] at H; have c9b0 := decide_eq_true c9; clear c9
         by_cases c10 : (ji8) < (l0.length : Int)
         ·rw [if_pos c10] at H; have c10b0 := decide_eq_true c10; clear c10
          by_cases c11 : ((Op.bytesLess (((rd_T31 l0 (ji8)).f0).toList) (((rd_T31 l0 x7_1).f0).toList)) = true)
          ·rw [if_pos c11] at H
           have c11b0 : (Op.bytesLess (((rd_T31 l0 (ji8)).f0).toList) (((rd_T31 l0 x7_1).f0).toList)) = true := c11
           clear c11
           have H' := am H
           clear H
           have p130 : 0 ≤ (x7_1 : Int) := of_decide_eq_true ad
           have q130 : x7_1 < (l0.length : Int) := of_decide_eq_true ad
           obtain ⟨ad130, e130, hx130_0, hx130_1⟩ := at_T31 HR0.out x7_1 p130 q130
           cases e130
           replace hx130_0 := kp HB.out hx130_0; replace hx130_1 := kp HB.out hx130_1; replace p130 := eq_true p130; replace q130 := eq_true q130
           try go_wp2_with (first | ((with_reducible refine gate_dst (N := 4) rfl ?_); refine bx 4 (cs := #[.string (⟨#[]⟩ : ByteArray), .string (⟨#[]⟩ : ByteArray)]) (t := 31) ?_; intro gb131 hg w12 hbox hb; have BK131 := am (hbox); have GW131 := am ((b15_ : w.heap.size ≤ gb131)); have GE131 := am ((b15_ : w.heap.size ≤ gb131)); replace HB := am (below_step bel hb); clear hb hbox hg; have hcz13_0 := bc BK131.out 0; have hcz13_1 := bc BK131.out 1; have hfz13_0 := bf BK131.out 0; have hfz13_1 := bf BK131.out 1))
           have n0_ : Aside0 (((w12.setCell ⟨gb131, 0, none⟩ (.string ((rd_T31 l0 x7_1).f0))).setCell ⟨gb131, 1, none⟩ (.string ((rd_T31 l0 x7_1).f1))).heap[gb131]? = some (.cells #[.string ((rd_T31 l0 x7_1).f0), .string ((rd_T31 l0 x7_1).f1)] 31 (0, 0))) := ⟨b25_⟩
           have n1_ : Aside0 (Below w.heap.size w ((w12.setCell ⟨gb131, 0, none⟩ (.string ((rd_T31 l0 x7_1).f0))).setCell ⟨gb131, 1, none⟩ (.string ((rd_T31 l0 x7_1).f1)))) := ⟨bel1 GE131.out⟩
           (try clear BK131)
           (try clear HB)
           generalize ((w12.setCell ⟨gb131, 0, none⟩ (.string ((rd_T31 l0 x7_1).f0))).setCell ⟨gb131, 1, none⟩ (.string ((rd_T31 l0 x7_1).f1))) = w14 at n0_ n1_ ⊢
           have BK131 := n0_; have HB := n1_; clear n0_ n1_; replace BK131 := am (blk_drew BK131.out); replace HB := am (below_drew1 HB.out)
           have p133 : 0 ≤ ((ji8) : Int) := of_decide_eq_true ad
           have q133 : (ji8) < (l0.length : Int) := of_decide_eq_true ad
           obtain ⟨ad133, e133, hx133_0, hx133_1⟩ := at_T31 HR0.out (ji8) p133 q133; have hw133_1 := hx133_1; have hw133_0 := hx133_0
           obtain rfl : ad130 = ad133 := (by injection e133)
           replace hx133_0 := kp HB.out hx133_0; replace hx133_1 := kp HB.out hx133_1; replace p133 := eq_true p133; replace q133 := eq_true q133
           refine st (n := 18) (S := fun w' => w'.cell? ⟨gb131, 0, none⟩ = some (.string ((rd_T31 l0 x7_1).f0)) ∧ w'.cell? ⟨gb131, 1, none⟩ = some (.string ((rd_T31 l0 x7_1).f1)) ∧ w'.cell? (ad130.add (((ji8)).toNat * 2)) = some (.string ((rd_T31 l0 (ji8)).f0)) ∧ w'.cell? ⟨(ad130.add (((ji8)).toNat * 2)).block, (ad130.add (((ji8)).toNat * 2)).off + 1, none⟩ = some (.string ((rd_T31 l0 (ji8)).f1))) (ds := []) ⟨(blk_cell BK131.out 0).trans rfl, (blk_cell BK131.out 1).trans rfl, (kp HB.out hw133_0), (kp HB.out hw133_1)⟩ (fun hHeld => ?_); refine with_tabW impl_entriesOk.tab4 impl_entriesOk.bits4 (fun HT_ HW_ => ?_)
           generalize w14.drew = w15 at BK131 HB hx133_0 hx133_1 hHeld ⊢
           refine tk4 0 12 hHeld ?_
           refine on1 1 13 (fun K hK => ?_)
           refine goes_ Try.func58 (by kernel_rfl) rfl #[.agg #[.string ((rd_T31 l0 x7_1).f0), .string ((rd_T31 l0 x7_1).f1)]] (by rfl) rfl rfl mq ?_
           with_reducible refine (impl_entryOk.calls k1 ((rd_T31 l0 x7_1).f0) ((rd_T31 l0 x7_1).f1) true _ A5.out).mono ?_
           rintro e w16 ⟨rfl, hb⟩
           refine ⟨_, rfl, ?_⟩
           replace BK131 := am (blk_below (g := gb131) (o := .cells #[.string ((rd_T31 l0 x7_1).f0), .string ((rd_T31 l0 x7_1).f1)] 31 (0, 0)) (bq BK131.out) hb); replace HB := am (below_step (bel1 GE131.out) hb)
           (try clear hb)
           (try clear hb2)
           (try clear hk)
           (try clear hi)
           refine hK.out _ _ ⟨(blk_cell BK131.out 0).trans rfl, (blk_cell BK131.out 1).trans rfl, (kp HB.out hw133_0), (kp HB.out hw133_1)⟩ (fun hHeld => ?_)
           clear hK K
           refine norm_ (a' := ?_) ?_ ?_
           rotate_left
           ·show Act.put _ (some 13) _ = _
            simp only [Act.put, List.setIfInBounds_toArray, List.set_cons_zero, List.set_cons_succ, i64_w, i32_w]
            rfl
           refine pu 2 14 ?_
           refine pu 3 15 ?_
           refine pu 4 16 ?_
           refine pu 5 17 ?_
           refine pu 6 18 ?_
           refine pu 7 19 ?_
           refine pu 8 20 ?_
           refine pu 9 21 ?_
           refine pu 10 22 ?_
           refine pu 11 23 ?_
           refine pu 13 25 ?_
           refine tk4 12 24 hHeld ?_
           refine tk4 14 26 hHeld ?_
           refine pu 15 27 ?_
           refine pu 16 28 ?_
           refine pu 17 29 ?_
           refine done_ (done_of HT_.out (by kernel_rfl)) ?_
           try go_wp2
           go_roundg k1
           case measure => have := HK1.out; omega
           case rel => exact ⟨(wrap64 (x7_1 + 1)), sq, H', ⟨b62_⟩, ⟨bel1 GE131.out⟩⟩
          ·rw [if_neg c11] at H
           have c11b0 : (Op.bytesLess (((rd_T31 l0 (ji8)).f0).toList) (((rd_T31 l0 x7_1).f0).toList)) = false := by simpa using c11
           clear c11; obtain rfl := Option.some.inj H
           have p130 : 0 ≤ (x7_1 : Int) := of_decide_eq_true ad
           have q130 : x7_1 < (l0.length : Int) := of_decide_eq_true ad
           obtain ⟨ad130, e130, hx130_0, hx130_1⟩ := at_T31 HR0.out x7_1 p130 q130
           cases e130
           replace hx130_0 := kp HB.out hx130_0; replace hx130_1 := kp HB.out hx130_1; replace p130 := eq_true p130; replace q130 := eq_true q130
           try go_wp2_with (first | ((with_reducible refine gate_dst (N := 4) rfl ?_); refine bx 4 (cs := #[.string (⟨#[]⟩ : ByteArray), .string (⟨#[]⟩ : ByteArray)]) (t := 31) ?_; intro gb131 hg w17 hbox hb; have BK131 := am (hbox); have GW131 := am ((b15_ : w.heap.size ≤ gb131)); have GE131 := am ((b15_ : w.heap.size ≤ gb131)); replace HB := am (below_step bel hb); clear hb hbox hg; have hcz18_0 := bc BK131.out 0; have hcz18_1 := bc BK131.out 1; have hfz18_0 := bf BK131.out 0; have hfz18_1 := bf BK131.out 1))
           have n0_ : Aside0 (((w17.setCell ⟨gb131, 0, none⟩ (.string ((rd_T31 l0 x7_1).f0))).setCell ⟨gb131, 1, none⟩ (.string ((rd_T31 l0 x7_1).f1))).heap[gb131]? = some (.cells #[.string ((rd_T31 l0 x7_1).f0), .string ((rd_T31 l0 x7_1).f1)] 31 (0, 0))) := ⟨b25_⟩
           have n1_ : Aside0 (Below w.heap.size w ((w17.setCell ⟨gb131, 0, none⟩ (.string ((rd_T31 l0 x7_1).f0))).setCell ⟨gb131, 1, none⟩ (.string ((rd_T31 l0 x7_1).f1)))) := ⟨bel1 GE131.out⟩
           (try clear BK131)
           (try clear HB)
           generalize ((w17.setCell ⟨gb131, 0, none⟩ (.string ((rd_T31 l0 x7_1).f0))).setCell ⟨gb131, 1, none⟩ (.string ((rd_T31 l0 x7_1).f1))) = w19 at n0_ n1_ ⊢
           have BK131 := n0_; have HB := n1_; clear n0_ n1_; replace BK131 := am (blk_drew BK131.out); replace HB := am (below_drew1 HB.out)
           have p133 : 0 ≤ ((ji8) : Int) := of_decide_eq_true ad
           have q133 : (ji8) < (l0.length : Int) := of_decide_eq_true ad
           obtain ⟨ad133, e133, hx133_0, hx133_1⟩ := at_T31 HR0.out (ji8) p133 q133; have hw133_1 := hx133_1; have hw133_0 := hx133_0
           obtain rfl : ad130 = ad133 := (by injection e133)
           replace hx133_0 := kp HB.out hx133_0; replace hx133_1 := kp HB.out hx133_1; replace p133 := eq_true p133; replace q133 := eq_true q133
           refine st (n := 18) (S := fun w' => w'.cell? ⟨gb131, 0, none⟩ = some (.string ((rd_T31 l0 x7_1).f0)) ∧ w'.cell? ⟨gb131, 1, none⟩ = some (.string ((rd_T31 l0 x7_1).f1)) ∧ w'.cell? (ad130.add (((ji8)).toNat * 2)) = some (.string ((rd_T31 l0 (ji8)).f0)) ∧ w'.cell? ⟨(ad130.add (((ji8)).toNat * 2)).block, (ad130.add (((ji8)).toNat * 2)).off + 1, none⟩ = some (.string ((rd_T31 l0 (ji8)).f1))) (ds := []) ⟨(blk_cell BK131.out 0).trans rfl, (blk_cell BK131.out 1).trans rfl, (kp HB.out hw133_0), (kp HB.out hw133_1)⟩ (fun hHeld => ?_); refine with_tabW impl_entriesOk.tab4 impl_entriesOk.bits4 (fun HT_ HW_ => ?_)
           generalize w19.drew = w20 at BK131 HB hx133_0 hx133_1 hHeld ⊢
           refine tk4 0 12 hHeld ?_
           refine on1 1 13 (fun K hK => ?_)
           refine goes_ Try.func58 (by kernel_rfl) rfl #[.agg #[.string ((rd_T31 l0 x7_1).f0), .string ((rd_T31 l0 x7_1).f1)]] (by rfl) rfl rfl mq ?_
           with_reducible refine (impl_entryOk.calls k1 ((rd_T31 l0 x7_1).f0) ((rd_T31 l0 x7_1).f1) true _ A5.out).mono ?_
           rintro e w21 ⟨rfl, hb⟩
           refine ⟨_, rfl, ?_⟩
           replace BK131 := am (blk_below (g := gb131) (o := .cells #[.string ((rd_T31 l0 x7_1).f0), .string ((rd_T31 l0 x7_1).f1)] 31 (0, 0)) (bq BK131.out) hb); replace HB := am (below_step (bel1 GE131.out) hb)
           (try clear hb)
           (try clear hb2)
           (try clear hk)
           (try clear hi)
           refine hK.out _ _ ⟨(blk_cell BK131.out 0).trans rfl, (blk_cell BK131.out 1).trans rfl, (kp HB.out hw133_0), (kp HB.out hw133_1)⟩ (fun hHeld => ?_)
           clear hK K
           refine norm_ (a' := ?_) ?_ ?_
           rotate_left
           ·show Act.put _ (some 13) _ = _
            simp only [Act.put, List.setIfInBounds_toArray, List.set_cons_zero, List.set_cons_succ, i64_w, i32_w]
            rfl
           refine pu 2 14 ?_
           refine pu 3 15 ?_
           refine pu 4 16 ?_
           refine pu 5 17 ?_
           refine pu 6 18 ?_
           refine pu 7 19 ?_
           refine pu 8 20 ?_
           refine pu 9 21 ?_
           refine pu 10 22 ?_
           refine pu 11 23 ?_
           refine pu 13 25 ?_
           refine tk4 12 24 hHeld ?_
           refine tk4 14 26 hHeld ?_
           refine pu 15 27 ?_
           refine pu 16 28 ?_
           refine pu 17 29 ?_
           refine done_ (done_of HT_.out (by kernel_rfl)) ?_
           try go_wp2
           go_ret
           exact ⟨b69_, bel1 GE131.out⟩
         ·rw [if_neg c10] at H
          exact absurd H (by simp)
        ·rw [if_neg c9] at H
         exact absurd H (by simp)
       ·rw [if_neg c7] at H; have c7b0 := decide_eq_false c7; clear c7
        have H' := am H
        clear H
        have p130 : 0 ≤ (x7_1 : Int) := of_decide_eq_true ad
        have q130 : x7_1 < (l0.length : Int) := of_decide_eq_true ad
        obtain ⟨ad130, e130, hx130_0, hx130_1⟩ := at_T31 HR0.out x7_1 p130 q130
        cases e130
        replace hx130_0 := kp HB.out hx130_0; replace hx130_1 := kp HB.out hx130_1; replace p130 := eq_true p130; replace q130 := eq_true q130
        try go_wp2_with (first | ((with_reducible refine gate_dst (N := 4) rfl ?_); refine bx 4 (cs := #[.string (⟨#[]⟩ : ByteArray), .string (⟨#[]⟩ : ByteArray)]) (t := 31) ?_; intro gb131 hg w22 hbox hb; have BK131 := am (hbox); have GW131 := am ((b15_ : w.heap.size ≤ gb131)); have GE131 := am ((b15_ : w.heap.size ≤ gb131)); replace HB := am (below_step bel hb); clear hb hbox hg; have hcz23_0 := bc BK131.out 0; have hcz23_1 := bc BK131.out 1; have hfz23_0 := bf BK131.out 0; have hfz23_1 := bf BK131.out 1))
        have n0_ : Aside0 (((w22.setCell ⟨gb131, 0, none⟩ (.string ((rd_T31 l0 x7_1).f0))).setCell ⟨gb131, 1, none⟩ (.string ((rd_T31 l0 x7_1).f1))).heap[gb131]? = some (.cells #[.string ((rd_T31 l0 x7_1).f0), .string ((rd_T31 l0 x7_1).f1)] 31 (0, 0))) := ⟨b25_⟩
        have n1_ : Aside0 (Below w.heap.size w ((w22.setCell ⟨gb131, 0, none⟩ (.string ((rd_T31 l0 x7_1).f0))).setCell ⟨gb131, 1, none⟩ (.string ((rd_T31 l0 x7_1).f1)))) := ⟨bel1 GE131.out⟩
        (try clear BK131)
        (try clear HB)
        generalize ((w22.setCell ⟨gb131, 0, none⟩ (.string ((rd_T31 l0 x7_1).f0))).setCell ⟨gb131, 1, none⟩ (.string ((rd_T31 l0 x7_1).f1))) = w24 at n0_ n1_ ⊢
        have BK131 := n0_; have HB := n1_; clear n0_ n1_; replace BK131 := am (blk_drew BK131.out); replace HB := am (below_drew1 HB.out)
        refine st (n := 18) (S := fun w' => w'.cell? ⟨gb131, 0, none⟩ = some (.string ((rd_T31 l0 x7_1).f0)) ∧ w'.cell? ⟨gb131, 1, none⟩ = some (.string ((rd_T31 l0 x7_1).f1))) (ds := []) ⟨(blk_cell BK131.out 0).trans rfl, (blk_cell BK131.out 1).trans rfl⟩ (fun hHeld => ?_); refine with_tabW impl_entriesOk.tab4 impl_entriesOk.bits4 (fun HT_ HW_ => ?_)
        generalize w24.drew = w25 at BK131 HB hHeld ⊢
        refine tk2 0 12 hHeld ?_
        refine on1 1 13 (fun K hK => ?_)
        refine goes_ Try.func58 (by kernel_rfl) rfl #[.agg #[.string ((rd_T31 l0 x7_1).f0), .string ((rd_T31 l0 x7_1).f1)]] (by rfl) rfl rfl mq ?_
        with_reducible refine (impl_entryOk.calls k1 ((rd_T31 l0 x7_1).f0) ((rd_T31 l0 x7_1).f1) true _ A5.out).mono ?_
        rintro e w26 ⟨rfl, hb⟩
        refine ⟨_, rfl, ?_⟩
        replace BK131 := am (blk_below (g := gb131) (o := .cells #[.string ((rd_T31 l0 x7_1).f0), .string ((rd_T31 l0 x7_1).f1)] 31 (0, 0)) (bq BK131.out) hb); replace HB := am (below_step (bel1 GE131.out) hb)
        (try clear hb)
        (try clear hb2)
        (try clear hk)
        (try clear hi)
        refine hK.out _ _ ⟨(blk_cell BK131.out 0).trans rfl, (blk_cell BK131.out 1).trans rfl⟩ (fun hHeld => ?_)
        clear hK K
        refine norm_ (a' := ?_) ?_ ?_
        rotate_left
        ·show Act.put _ (some 13) _ = _
         simp only [Act.put, List.setIfInBounds_toArray, List.set_cons_zero, List.set_cons_succ, i64_w, i32_w]
         rfl
        refine pu 2 14 ?_
        refine pu 3 15 ?_
        refine pu 4 16 ?_
        refine pu 5 17 ?_
        refine pu 6 18 ?_
        refine puu 7 19 ?_
        refine puu 8 20 ?_
        refine puu 9 21 ?_
        refine puu 10 22 ?_
        refine puu 11 23 ?_
        refine puu 12 24 ?_
        refine puu 13 25 ?_
        refine puu 14 26 ?_
        refine puu 15 27 ?_
        refine pu 16 28 ?_
        refine pu 17 29 ?_
        refine done_ (done_of HT_.out (by kernel_rfl)) ?_
        try go_wp2
        go_roundg k1
        case measure => have := HK1.out; omega
        case rel => exact ⟨(wrap64 (x7_1 + 1)), sq, H', ⟨b62_⟩, ⟨bel1 GE131.out⟩⟩
      ·replace c6 := Bool.eq_false_iff.mpr c6; subst c6
       have H1 : (some false) = some r := b19_
       replace H := H1; clear H1
       obtain rfl := Option.some.inj H
       have p130 : 0 ≤ (x7_1 : Int) := of_decide_eq_true ad
       have q130 : x7_1 < (l0.length : Int) := of_decide_eq_true ad
       obtain ⟨ad130, e130, hx130_0, hx130_1⟩ := at_T31 HR0.out x7_1 p130 q130
       cases e130
       replace hx130_0 := kp HB.out hx130_0; replace hx130_1 := kp HB.out hx130_1; replace p130 := eq_true p130; replace q130 := eq_true q130
       try go_wp2_with (first | ((with_reducible refine gate_dst (N := 4) rfl ?_); refine bx 4 (cs := #[.string (⟨#[]⟩ : ByteArray), .string (⟨#[]⟩ : ByteArray)]) (t := 31) ?_; intro gb131 hg w27 hbox hb; have BK131 := am (hbox); have GW131 := am ((b15_ : w.heap.size ≤ gb131)); have GE131 := am ((b15_ : w.heap.size ≤ gb131)); replace HB := am (below_step bel hb); clear hb hbox hg; have hcz28_0 := bc BK131.out 0; have hcz28_1 := bc BK131.out 1; have hfz28_0 := bf BK131.out 0; have hfz28_1 := bf BK131.out 1))
       have n0_ : Aside0 (((w27.setCell ⟨gb131, 0, none⟩ (.string ((rd_T31 l0 x7_1).f0))).setCell ⟨gb131, 1, none⟩ (.string ((rd_T31 l0 x7_1).f1))).heap[gb131]? = some (.cells #[.string ((rd_T31 l0 x7_1).f0), .string ((rd_T31 l0 x7_1).f1)] 31 (0, 0))) := ⟨b25_⟩
       have n1_ : Aside0 (Below w.heap.size w ((w27.setCell ⟨gb131, 0, none⟩ (.string ((rd_T31 l0 x7_1).f0))).setCell ⟨gb131, 1, none⟩ (.string ((rd_T31 l0 x7_1).f1)))) := ⟨bel1 GE131.out⟩
       (try clear BK131)
       (try clear HB)
       generalize ((w27.setCell ⟨gb131, 0, none⟩ (.string ((rd_T31 l0 x7_1).f0))).setCell ⟨gb131, 1, none⟩ (.string ((rd_T31 l0 x7_1).f1))) = w29 at n0_ n1_ ⊢
       have BK131 := n0_; have HB := n1_; clear n0_ n1_; replace BK131 := am (blk_drew BK131.out); replace HB := am (below_drew1 HB.out)
       refine st (n := 18) (S := fun w' => w'.cell? ⟨gb131, 0, none⟩ = some (.string ((rd_T31 l0 x7_1).f0)) ∧ w'.cell? ⟨gb131, 1, none⟩ = some (.string ((rd_T31 l0 x7_1).f1))) (ds := []) ⟨(blk_cell BK131.out 0).trans rfl, (blk_cell BK131.out 1).trans rfl⟩ (fun hHeld => ?_); refine with_tabW impl_entriesOk.tab4 impl_entriesOk.bits4 (fun HT_ HW_ => ?_)
       generalize w29.drew = w30 at BK131 HB hHeld ⊢
       refine tk2 0 12 hHeld ?_
       refine on1 1 13 (fun K hK => ?_)
       refine goes_ Try.func58 (by kernel_rfl) rfl #[.agg #[.string ((rd_T31 l0 x7_1).f0), .string ((rd_T31 l0 x7_1).f1)]] (by rfl) rfl rfl mq ?_
       with_reducible refine (impl_entryOk.calls k1 ((rd_T31 l0 x7_1).f0) ((rd_T31 l0 x7_1).f1) false _ A5.out).mono ?_
       rintro e w31 ⟨rfl, hb⟩
       refine ⟨_, rfl, ?_⟩
       replace BK131 := am (blk_below (g := gb131) (o := .cells #[.string ((rd_T31 l0 x7_1).f0), .string ((rd_T31 l0 x7_1).f1)] 31 (0, 0)) (bq BK131.out) hb); replace HB := am (below_step (bel1 GE131.out) hb)
       (try clear hb)
       (try clear hb2)
       (try clear hk)
       (try clear hi)
       refine hK.out _ _ ⟨(blk_cell BK131.out 0).trans rfl, (blk_cell BK131.out 1).trans rfl⟩ (fun hHeld => ?_)
       clear hK K
       refine norm_ (a' := ?_) ?_ ?_
       rotate_left
       ·show Act.put _ (some 13) _ = _
        simp only [Act.put, List.setIfInBounds_toArray, List.set_cons_zero, List.set_cons_succ, i64_w, i32_w]
        rfl
       refine pu 2 14 ?_
       refine pu 3 15 ?_
       refine puu 4 16 ?_
       refine puu 5 17 ?_
       refine puu 6 18 ?_
       refine puu 7 19 ?_
       refine puu 8 20 ?_
       refine puu 9 21 ?_
       refine puu 10 22 ?_
       refine puu 11 23 ?_
       refine puu 12 24 ?_
       refine puu 13 25 ?_
       refine puu 14 26 ?_
       refine puu 15 27 ?_
       refine puu 16 28 ?_
       refine pu 17 29 ?_
       refine done_ (done_of HT_.out (by kernel_rfl)) ?_
       try go_wp2
       go_ret
       exact ⟨eq_, bel1 GE131.out⟩
     ·rw [if_neg c4] at H
      exact absurd H (by simp)
    ·rw [if_neg c3] at H
     exact absurd H (by simp)
   ·rw [if_neg c2] at H; have c2b0 := decide_eq_false c2; clear c2; obtain rfl := Option.some.inj H; go_wp2; go_ret
    exact ⟨eq_, bel⟩

/-! ### impl_BookOk: function 38 -/
def impl_BookOk.f (k : Nat) (l0_0 : List (S44)) (l0_1 : List (S31)) : Option (Bool) := (impl_affixesOk.f k l0_0).bind fun t135 => (if t135 = true then ((impl_entriesOk.f k l0_1).bind fun t136 => (some t136)) else (some false))
theorem impl_BookOk.mono : ∀ a0 a1 k, LeO (impl_BookOk.f k a0 a1) (impl_BookOk.f (k + 1) a0 a1) := by
 intro a0 a1 k
 unfold impl_BookOk.f
 repeat' first | (with_reducible first | exact impl_affixesOk.mono _ _ | exact impl_entriesOk.mono _ _ | exact LeO.refl _ | exact LeO.none _ | refine LeO.ite ?_ ?_ | refine LeO.bind ?_ (fun _ => ?_)) | exact impl_affixesOk.mono _ _ | exact impl_entriesOk.mono _ _ | exact LeO.none _ | refine LeO.ite ?_ ?_ | refine LeO.bind ?_ (fun _ => ?_)
set_option maxHeartbeats 8000000 in
set_option maxRecDepth 100000 in
theorem impl_BookOk.calls (k : Nat) (A0_0 : Option Addr) (c0_0 : Nat) (l0_0 : List (S44)) (A0_1 : Option Addr) (c0_1 : Nat) (l0_1 : List (S31)) (r : Bool) (w : World) (hr0_0 : Kd.C k44 w A0_0 l0_0.length l0_0) (hc0_0 : l0_0.length ≤ c0_0) (hr0_1 : Kd.C k31 w A0_1 l0_1.length l0_1) (hc0_1 : l0_1.length ≤ c0_1) (h : impl_BookOk.f k l0_0 l0_1 = some r) :
  Calls Try.prog 38 #[.agg #[.slice A0_0 l0_0.length c0_0, .slice A0_1 l0_1.length c0_1]] w fun e w' => e = .returned (.bool r) ∧ Below w.heap.size w w' := by
 have hu55 := Try.underlying55; have HR0_0 := am hr0_0; have HC0_0 := am hc0_0; clear hr0_0 hc0_0; have HR0_1 := am hr0_1; have HC0_1 := am hc0_1; clear hr0_1 hc0_1; have HB := am (Below.refl w.heap.size w)
 have H : ((impl_affixesOk.f k l0_0).bind fun t135 => (if t135 = true then ((impl_entriesOk.f k l0_1).bind fun t136 => (some t136)) else (some false))) = some r := h
 clear h; replace H := Option.bind_eq_some_iff.mp H; obtain ⟨t135, A20, H⟩ := H; replace H : (if t135 = true then ((impl_entriesOk.f k l0_1).bind fun t136 => (some t136)) else (some false)) = some r := H; have A2 := Aside0.mk A20; clear A20
 by_cases c3 : t135 = true
 ·subst c3
  have H1 : ((impl_entriesOk.f k l0_1).bind fun t136 => (some t136)) = some r := b34_
  replace H := H1; clear H1
  replace H := Option.bind_eq_some_iff.mp H; obtain ⟨t136, A40, H⟩ := H; replace H : (some t136) = some r := H; have A4 := Aside0.mk A40; clear A40; obtain rfl := Option.some.inj H; go_enter Try.func38, Try.ntmps38
  go_wp2_with (first | ((with_reducible refine gate_dst (N := 1) rfl ?_); refine bx 1 (cs := #[.slice A0_0 l0_0.length c0_0, .slice A0_1 l0_1.length c0_1]) (t := 55) ?_; intro gb134 hg w5 hbox hb; have BK134 := am (hbox); have GW134 := am ((b15_ : w.heap.size ≤ gb134)); have GE134 := am ((b15_ : w.heap.size ≤ gb134)); replace HB := am (below_step bel hb); clear hb hbox hg; have hcz6_0 := bc BK134.out 0; have hcz6_1 := bc BK134.out 1; have hfz6_0 := bf BK134.out 0; have hfz6_1 := bf BK134.out 1) | ((with_reducible refine gate_callee (f := 57) rfl ?_); refine goesL_ (some 5) rfl rfl Try.func57 (by kernel_rfl) rfl #[.slice A0_0 l0_0.length c0_0] rfl mq ?_; (with_reducible refine (impl_affixesOk.calls k _ _ l0_0 true _ ?side1 ?side2 A2.out).mono ?_); (case side1 => exact cq (Kd.C_below HR0_0.out HB.out)); (case side2 => exact HC0_0.out); rintro e w7 ⟨rfl, hb⟩; refine ⟨_, rfl, ?_⟩; replace BK134 := am (blk_below (g := gb134) (o := .cells #[.slice A0_0 l0_0.length c0_0, .slice A0_1 l0_1.length c0_1] 55 (0, 0)) (bq BK134.out) hb); replace HB := am (below_step (bel1 GE134.out) hb); (try clear hb); (try clear hb2); (try clear hk); (try clear hi); have hcz8_0 := bc BK134.out 0; have hcz8_1 := bc BK134.out 1; have hfz8_0 := bf BK134.out 0; have hfz8_1 := bf BK134.out 1) | (go_at_call 80; (with_reducible refine (impl_entriesOk.calls k _ _ l0_1 t136 _ ?side1 ?side2 A4.out).mono ?_); (case side1 => exact cq (Kd.C_below HR0_1.out HB.out)); (case side2 => exact HC0_1.out); rintro e w9 ⟨rfl, hb⟩; replace BK134 := am (blk_below (g := gb134) (o := .cells #[.slice A0_0 l0_0.length c0_0, .slice A0_1 l0_1.length c0_1] 55 (0, 0)) (bq BK134.out) hb); replace HB := am (below_step (bel1 GE134.out) hb); (try clear hb); (try clear hb2); (try clear hk); (try clear hi)))
  go_ret
  exact ⟨eq_, bel1 GE134.out⟩
 ·replace c3 := Bool.eq_false_iff.mpr c3; subst c3
  have H1 : (some false) = some r := b19_
  replace H := H1; clear H1
  obtain rfl := Option.some.inj H; go_enter Try.func38, Try.ntmps38
  go_wp2_with (first | ((with_reducible refine gate_dst (N := 1) rfl ?_); refine bx 1 (cs := #[.slice A0_0 l0_0.length c0_0, .slice A0_1 l0_1.length c0_1]) (t := 55) ?_; intro gb134 hg w10 hbox hb; have BK134 := am (hbox); have GW134 := am ((b15_ : w.heap.size ≤ gb134)); have GE134 := am ((b15_ : w.heap.size ≤ gb134)); replace HB := am (below_step bel hb); clear hb hbox hg; have hcz11_0 := bc BK134.out 0; have hcz11_1 := bc BK134.out 1; have hfz11_0 := bf BK134.out 0; have hfz11_1 := bf BK134.out 1) | ((with_reducible refine gate_callee (f := 57) rfl ?_); refine goesL_ (some 5) rfl rfl Try.func57 (by kernel_rfl) rfl #[.slice A0_0 l0_0.length c0_0] rfl mq ?_; (with_reducible refine (impl_affixesOk.calls k _ _ l0_0 false _ ?side1 ?side2 A2.out).mono ?_); (case side1 => exact cq (Kd.C_below HR0_0.out HB.out)); (case side2 => exact HC0_0.out); rintro e w12 ⟨rfl, hb⟩; refine ⟨_, rfl, ?_⟩; replace BK134 := am (blk_below (g := gb134) (o := .cells #[.slice A0_0 l0_0.length c0_0, .slice A0_1 l0_1.length c0_1] 55 (0, 0)) (bq BK134.out) hb); replace HB := am (below_step (bel1 GE134.out) hb); (try clear hb); (try clear hb2); (try clear hk); (try clear hi)))
  go_ret
  exact ⟨eq_, bel1 GE134.out⟩

end Go.Proofs.Ytedfcehhgbeibaa.QFnBookKnows

import Derived.Test.YtfpmfaelodfecaaGreatDoorQFnCheckx0
import Derived.Test.YtfpmfaelodfecaaGreatDoorQFnCheckx6
import Derived.Test.YtfpmfaelodfecaaGreatDoorQFnCheckx10
import Derived.Test.YtfpmfaelodfecaaGreatDoorQFnCheckx14
import Derived.Test.YtfpmfaelodfecaaGreatDoorQFnCheckx17
import Derived.Test.YtfpmfaelodfecaaGreatDoorQFnCheckx19
import Derived.Test.YtfpmfaelodfecaaGreatDoorQFnCheckx20
import Derived.Test.YtfpmfaelodfecaaGreatDoorVMSh2
namespace Go.Proofs.YtfpmfaelodfecaaGreatDoor.QFnCheck
open Go.RowKit Go.Proofs.YtfpmfaelodfecaaGreatDoorW.PrintWords Go.Proofs.YtfpmfaelodfecaaGreatDoorW.PrintLast Go.Proofs.YtfpmfaelodfecaaGreatDoorW.PrintMore Go.Proofs.YtfpmfaelodfecaaGreatDoor.Sh
attribute [local go_sem] max2_int min2_int max_two min_two max_three min_three max_four min_four
set_option linter.unusedVariables false
set_option linter.unusedSimpArgs false
set_option maxHeartbeats 8000000
set_option maxRecDepth 100000
-- shrunk

attribute [local go_sem high] eqA43
/-! ### spec_l13Of: function 41 -/
def spec_l13Of.j0 : Nat → Bool → List Int → Int → List (S82) → List (S78) → Option (ByteArray × Int)
 | 0, _, _, _, _, _ => none
 | k + 1, x12, x1000, x1001, x471000, x471001 => if x12 = true then ((spec_l2Words.f k x471000 x471001).bind fun t474 => (if (t474.length : Int) > 0 then ((spec_l1Rd_pick.f k x1000 x1001 (t474.length : Int)).bind fun bt477 => (if 0 ≤ bt477.1 then (if bt477.1 < (t474.length : Int) then (some (rdOf ByteArray.empty t474 bt477.1, bt477.2)) else (none)) else (none))) else ((spec_l13AnyWord.f k x1000 x1001).bind fun bt480 => (some (bt480.1, bt480.2))))) else ((spec_l13AnyWord.f k x1000 x1001).bind fun bt482 => (some (bt482.1, bt482.2)))
def spec_l13Of.f (k : Nat) (s0_0 : List Int) (s0_1 : Int) (l1_0 : List (S82)) (l1_1 : List (S78)) : Option (ByteArray × Int) := (spec_BookOk.f k l1_0 l1_1).bind fun t471 => (if t471 = true then ((spec_l1Rd_pick.f k s0_0 s0_1 2).bind fun bt472 => (spec_l13Of.j0 k (bt472.1 == 0) s0_0 bt472.2 l1_0 l1_1)) else (spec_l13Of.j0 k false s0_0 s0_1 l1_0 l1_1))
theorem spec_l13Of.calls (k : Nat) (g : Nat) (s0_0 : List Int) (s0_1 : Int) (A1_0 : Option Addr) (c1_0 : Nat) (l1_0 : List (S82)) (A1_1 : Option Addr) (c1_1 : Nat) (l1_1 : List (S78)) (r1 : ByteArray) (r2 : Int) (w0 w : World) (hI : IsS103 w0 w g s0_0 s0_1) (hB : Below w0.heap.size w0 w) (hr1_0 : ∀ W_, KeepBut w W_ g none → Kd.C k82 W_ A1_0 l1_0.length l1_0) (hc1_0 : l1_0.length ≤ c1_0) (hr1_1 : ∀ W_, KeepBut w W_ g none → Kd.C k78 W_ A1_1 l1_1.length l1_1) (hc1_1 : l1_1.length ≤ c1_1) (h : spec_l13Of.f k s0_0 s0_1 l1_0 l1_1 = some (r1, r2)) :
  Calls Tryz.prog 41 #[.pointer (some ⟨g, 0, none⟩), .agg #[.slice A1_0 l1_0.length c1_0, .slice A1_1 l1_1.length c1_1]] w fun e w' => e = .returned (.string r1) ∧ IsS103 w0 w' g s0_0 r2 ∧ Below w0.heap.size w0 w' ∧ KeepBut w w' g none := by
 have hu32 := Tryz.underlying32; have HR1_0 := am hr1_0; have HC1_0 := am hc1_0; clear hr1_0 hc1_0; have HR1_1 := am hr1_1; have HC1_1 := am hc1_1; clear hr1_1 hc1_1; have HI0 := am hI; have HK := am (KeepBut.refl w g none); have HL := am hB.size; clear hI; have HW0 := am hB.size; have HB := am hB; clear hB
 have H : ((spec_BookOk.f k l1_0 l1_1).bind fun t471 => (if t471 = true then ((spec_l1Rd_pick.f k s0_0 s0_1 2).bind fun bt472 => (spec_l13Of.j0 k (bt472.1 == 0) s0_0 bt472.2 l1_0 l1_1)) else (spec_l13Of.j0 k false s0_0 s0_1 l1_0 l1_1))) = some (r1, r2) := h
 clear h; have HC3 := am H; clear H; go_enter Tryz.func41, Tryz.ntmps41
 go_upto_region 1 with (first | ((with_reducible refine gate_dst (N := 3) rfl ?_); refine bx 3 (cs := #[.slice A1_0 l1_0.length c1_0, .slice A1_1 l1_1.length c1_1]) (t := 32) ?_; intro gb470 hg w4 hbox hb; replace HB := am (below_step b3_ hb); have BK470 := am (hbox); have GW470 := am ((b1_ : w.heap.size ≤ gb470)); have GE470 := am ((Nat.le_trans HW0.out (b1_ : w.heap.size ≤ gb470) : w0.heap.size ≤ gb470)); replace HK := am (KeepBut.trans b0_ (KeepBut.of_below hb g none) (.inl rfl)); have NB0_470 := am ((b16_ : g ≠ gb470)); have NB470_0 := am ((b17_ : gb470 ≠ g)); replace HI0 := am (IsS103.below b5_ hb); clear hb hbox hg))
 (try simp only [Act.put, List.setIfInBounds_toArray, List.set_cons_zero, List.set_cons_succ])
 go_cut [12] (fun v12 wc => ∃ (kq : Nat) (x12_2 : Bool) (x1001_2 : Int), v12 = .bool x12_2 ∧ Aside0 (spec_l13Of.j0 kq x12_2 s0_0 x1001_2 l1_0 l1_1 = some (r1, r2)) ∧ Aside0 (kq ≤ k) ∧ Aside0 (wc.heap[gb470]? = some (.cells #[(.slice A1_0 l1_0.length c1_0), (.slice A1_1 l1_1.length c1_1)] 32 (0, 0))) ∧ Aside0 (IsS103 w0 wc g s0_0 x1001_2) ∧ Aside0 (KeepBut w wc g none) ∧ Aside0 (Below w0.heap.size w0 wc))
 case first =>
  have H := HC3.out; clear HC3; replace H := bs H; obtain ⟨t471, A50, H⟩ := H; replace H : (if t471 = true then ((spec_l1Rd_pick.f k s0_0 s0_1 2).bind fun bt472 => (spec_l13Of.j0 k (bt472.1 == 0) s0_0 bt472.2 l1_0 l1_1)) else (spec_l13Of.j0 k false s0_0 s0_1 l1_0 l1_1)) = some (r1, r2) := H; have A5 := Aside0.mk A50; clear A50
  by_cases c6 : t471 = true
  ·subst c6
   have H1 : ((spec_l1Rd_pick.f k s0_0 s0_1 2).bind fun bt472 => (spec_l13Of.j0 k (bt472.1 == 0) s0_0 bt472.2 l1_0 l1_1)) = some (r1, r2) := b32_
   replace H := H1; clear H1
   replace H := bs H; obtain ⟨⟨t472, t473⟩, A70, H⟩ := H; replace H : (spec_l13Of.j0 k (t472 == 0) s0_0 t473 l1_0 l1_1) = some (r1, r2) := H; have A7 := Aside0.mk A70; clear A70
   have H' := am H
   clear H; have hnb8 := NB470_0.out; have hnc8 := NB0_470.out; have hcz9_0 := bc BK470.out 0; have hcz9_1 := bc BK470.out 1; have hfz9_0 := bf BK470.out 0; have hfz9_1 := bf BK470.out 1
   go_wp2_with (first | ((with_reducible refine gate_callee (f := 19) rfl ?_); refine goesL_ (some 7) rfl rfl Tryz.func19 (by kernel_rfl) rfl #[.agg #[.slice A1_0 l1_0.length c1_0, .slice A1_1 l1_1.length c1_1]] rfl mq ?_; (with_reducible refine (spec_BookOk.calls k _ _ l1_0 _ _ l1_1 true _ ?side1 ?side2 ?side3 ?side4 A5.out).mono ?_); (case side1 => exact Kd.C_foot_now HR1_0.out b9_); (case side2 => exact HC1_0.out); (case side3 => exact Kd.C_foot_now HR1_1.out b9_); (case side4 => exact HC1_1.out); rintro e w10 ⟨rfl, hb⟩; refine ⟨_, rfl, ?_⟩; replace BK470 := am (blk_below (g := gb470) (o := .cells #[.slice A1_0 l1_0.length c1_0, .slice A1_1 l1_1.length c1_1] 32 (0, 0)) (bq BK470.out) hb); replace HK := am (KeepBut.trans b9_ (KeepBut.of_below hb g none) (.inl rfl)); replace HB := am (below_step b30_ hb); replace HI0 := am (IsS103.below b25_ hb); (try clear hb); (try clear hb2); (try clear hk); (try clear hi)) | (go_at_call 39; (with_reducible refine (spec_l1Rd_pick.calls k g s0_0 s0_1 2 t472 t473 w0 _ ?side1 ?side2 A7.out).mono ?_); (case side1 => repeat (first | (with_reducible first | exact HI0.out | apply IsS103.alloc | apply IsS103.drewN | apply IsS103.drew | apply IsS103.set_1 | refine IsS103.far ?_ NB0_470.out _) | exact HI0.out)); (case side2 => repeat (first | (with_reducible first | exact HB.out | apply below_alloc | apply pw_below_drewN | apply below_drew1 | refine below_set ?_ (IsS103.ge HI0.out) | refine below_set ?_ GE470.out) | exact HB.out)); rintro e w11 ⟨rfl, hi, hb, hk⟩; replace BK470 := am (KeepBut.blk hk (g' := gb470) (o := .cells #[.slice A1_0 l1_0.length c1_0, .slice A1_1 l1_1.length c1_1] 32 (0, 0)) (bq BK470.out) NB470_0.out (by simp)); replace HK := am (KeepBut.trans b9_ hk (.inl rfl)); replace HB := am (hb); replace HI0 := am (hi); (try clear hb); (try clear hb2); (try clear hk); (try clear hi)))
   go_meet
   case rel => exact ⟨_, ((t472 == 0)), (t473), sq, H', ⟨b57_⟩, ⟨bq BK470.out⟩, ⟨b25_⟩, ⟨b9_⟩, ⟨b30_⟩⟩
  replace c6 := Bool.eq_false_iff.mpr c6; subst c6
  have H1 : (spec_l13Of.j0 k false s0_0 s0_1 l1_0 l1_1) = some (r1, r2) := b13_
  replace H := H1; clear H1
  have H' := am H
  clear H; have hnb12 := NB470_0.out; have hnc12 := NB0_470.out; have hcz13_0 := bc BK470.out 0; have hcz13_1 := bc BK470.out 1; have hfz13_0 := bf BK470.out 0; have hfz13_1 := bf BK470.out 1
  go_wp2_with (first | ((with_reducible refine gate_callee (f := 19) rfl ?_); refine goesL_ (some 7) rfl rfl Tryz.func19 (by kernel_rfl) rfl #[.agg #[.slice A1_0 l1_0.length c1_0, .slice A1_1 l1_1.length c1_1]] rfl mq ?_; (with_reducible refine (spec_BookOk.calls k _ _ l1_0 _ _ l1_1 false _ ?side1 ?side2 ?side3 ?side4 A5.out).mono ?_); (case side1 => exact Kd.C_foot_now HR1_0.out b9_); (case side2 => exact HC1_0.out); (case side3 => exact Kd.C_foot_now HR1_1.out b9_); (case side4 => exact HC1_1.out); rintro e w14 ⟨rfl, hb⟩; refine ⟨_, rfl, ?_⟩; replace BK470 := am (blk_below (g := gb470) (o := .cells #[.slice A1_0 l1_0.length c1_0, .slice A1_1 l1_1.length c1_1] 32 (0, 0)) (bq BK470.out) hb); replace HK := am (KeepBut.trans b9_ (KeepBut.of_below hb g none) (.inl rfl)); replace HB := am (below_step b30_ hb); replace HI0 := am (IsS103.below b25_ hb); (try clear hb); (try clear hb2); (try clear hk); (try clear hi)))
  go_meet
  case rel => exact ⟨_, (false), (s0_1), sq, H', ⟨b57_⟩, ⟨bq BK470.out⟩, ⟨b25_⟩, ⟨b9_⟩, ⟨b30_⟩⟩
 case rest =>
  clear HC3; (try clear c1); (try clear p2); (try clear c4); (try clear c6); (try clear c8); (try clear c12); (try clear hcz13_0); (try clear hcz13_1); (try clear hcz9_0); (try clear hcz9_1); (try clear hfz13_0); (try clear hfz13_1); (try clear hfz9_0); (try clear hfz9_1); obtain ⟨kq, x12_2, x1001_2, rfl, HA, HJ2, BK470, HI0, HK, HB⟩ := hcut
  cases kq with
  | zero => exact absurd HA.out (by simp [spec_l13Of.j0])
  | succ kj2 =>
   have H := HA.out; clear HA
   simp only [spec_l13Of.j0] at H
   by_cases c15 : x12_2 = true
   ·subst c15
    have H1 : ((spec_l2Words.f kj2 l1_0 l1_1).bind fun t474 => (if (t474.length : Int) > 0 then ((spec_l1Rd_pick.f kj2 s0_0 x1001_2 (t474.length : Int)).bind fun bt477 => (if 0 ≤ bt477.1 then (if bt477.1 < (t474.length : Int) then (some (rdOf ByteArray.empty t474 bt477.1, bt477.2)) else (none)) else (none))) else ((spec_l13AnyWord.f kj2 s0_0 x1001_2).bind fun bt480 => (some (bt480.1, bt480.2))))) = some (r1, r2) := b32_
    replace H := H1; clear H1
    replace H := bs H; obtain ⟨t474, A160, H⟩ := H; replace H : (if (t474.length : Int) > 0 then ((spec_l1Rd_pick.f kj2 s0_0 x1001_2 (t474.length : Int)).bind fun bt477 => (if 0 ≤ bt477.1 then (if bt477.1 < (t474.length : Int) then (some (rdOf ByteArray.empty t474 bt477.1, bt477.2)) else (none)) else (none))) else ((spec_l13AnyWord.f kj2 s0_0 x1001_2).bind fun bt480 => (some (bt480.1, bt480.2)))) = some (r1, r2) := H; have A16 := Aside0.mk A160; clear A160
    by_cases c17 : (t474.length : Int) > 0
    ·rw [if_pos c17] at H; have c17b0 := decide_eq_true c17
     have c17b1 : decide (0 < t474.length) = true := decide_eq_true (by omega)
     clear c17; replace H := bs H; obtain ⟨⟨t477, t478⟩, A180, H⟩ := H; replace H : (if 0 ≤ t477 then (if t477 < (t474.length : Int) then (some (rdOf ByteArray.empty t474 t477, t478)) else (none)) else (none)) = some (r1, r2) := H; have A18 := Aside0.mk A180; clear A180
     replace H := it H; obtain ⟨c19b0, H⟩ := H
     replace H := it H; obtain ⟨c20b0, H⟩ := H
     simp only [Option.some.injEq, Prod.mk.injEq] at H
     obtain ⟨rfl, rfl⟩ := H; have hnb21 := NB470_0.out; have hnc21 := NB0_470.out; have hcz22_0 := bc BK470.out 0; have hcz22_1 := bc BK470.out 1; have hfz22_0 := bf BK470.out 0; have hfz22_1 := bf BK470.out 1
     go_wp2_with (first | ((with_reducible refine gate_callee (f := 20) rfl ?_); refine goesL_ (some 14) rfl rfl Tryz.func20 (by kernel_rfl) rfl #[.agg #[.slice A1_0 l1_0.length c1_0, .slice A1_1 l1_1.length c1_1]] rfl mq ?_; (with_reducible refine (spec_l2Words.calls kj2 _ _ l1_0 _ _ l1_1 t474 _ ?side1 ?side2 ?side3 ?side4 A16.out).mono ?_); (case side1 => exact Kd.C_foot_now HR1_0.out b9_); (case side2 => exact HC1_0.out); (case side3 => exact Kd.C_foot_now HR1_1.out b9_); (case side4 => exact HC1_1.out); rintro e w23 ⟨v475, rfl, ho0, hb⟩; refine ⟨_, rfl, ?_⟩; have HO476 := am (Kd.V_lower (Kd.V_mono (ok' := fun k_ => k_ ≠ gb470 ∧ k_ ≠ g) ho0 (fun k_ hk_ => ⟨(Kd.freshB (g := gb470) (o := .cells #[.slice A1_0 l1_0.length c1_0, .slice A1_1 l1_1.length c1_1] 32 (0, 0)) (bq BK470.out) k_ hk_), (IsS103.fresh b25_ k_ hk_)⟩)) (keep_size (w := w) (g := g) (row := none) b9_)); replace BK470 := am (blk_below (g := gb470) (o := .cells #[.slice A1_0 l1_0.length c1_0, .slice A1_1 l1_1.length c1_1] 32 (0, 0)) (bq BK470.out) hb); replace HK := am (KeepBut.trans b9_ (KeepBut.of_below hb g none) (.inl rfl)); replace HB := am (below_step b30_ hb); replace HI0 := am (IsS103.below b25_ hb); (try clear hb); (try clear hb2); (try clear hk); (try clear hi); (try clear ho0); obtain ⟨Ao24, co24, eo24⟩ := Kd.V_slice HO476.out; subst eo24) | ((with_reducible refine gate_callee (f := 39) rfl ?_); refine goesL_ (some 22) rfl rfl Tryz.func39 (by kernel_rfl) rfl #[.pointer (some ⟨g, 0, none⟩), .int .i64 (t474.length : Int)] rfl mq ?_; (with_reducible refine (spec_l1Rd_pick.calls kj2 g s0_0 x1001_2 (t474.length : Int) t477 t478 w0 _ ?side1 ?side2 A18.out).mono ?_); (case side1 => repeat (first | (with_reducible first | exact HI0.out | apply IsS103.alloc | apply IsS103.drewN | apply IsS103.drew | apply IsS103.set_1 | refine IsS103.far ?_ NB0_470.out _) | exact HI0.out)); (case side2 => repeat (first | (with_reducible first | exact HB.out | apply below_alloc | apply pw_below_drewN | apply below_drew1 | refine below_set ?_ (IsS103.ge HI0.out) | refine below_set ?_ GE470.out) | exact HB.out)); rintro e w25 ⟨rfl, hi, hb, hk⟩; refine ⟨_, rfl, ?_⟩; replace BK470 := am (KeepBut.blk hk (g' := gb470) (o := .cells #[.slice A1_0 l1_0.length c1_0, .slice A1_1 l1_1.length c1_1] 32 (0, 0)) (bq BK470.out) NB470_0.out (by simp)); replace HO476 := am (Kd.V_mono (Kd.V_keep (Kd.V_mono (ok := fun k_ => (k_ ≠ gb470 ∧ k_ ≠ g)) (vq HO476.out) (fun k_ hk_ => (⟨hk_, hk_.2⟩ : _ ∧ k_ ≠ g))) hk (fun _ h => h.2)) (fun _ h => h.1)); replace HK := am (KeepBut.trans b9_ hk (.inl rfl)); replace HB := am (hb); replace HI0 := am (hi); (try clear hb); (try clear hb2); (try clear hk); (try clear hi); have p479 : 0 ≤ (t477 : Int) := of_decide_eq_true ad; have q479 : t477 < (t474.length : Int) := of_decide_eq_true ad; obtain ⟨ad479, e479, hx479_0⟩ := Kd.at_string (Kd.V_reads' HO476.out).2.2 t477 p479 q479; cases e479; replace p479 := eq_true p479; replace q479 := eq_true q479))
     go_ret
     exact ⟨eq_, b25_, b30_, b9_⟩
    rw [if_neg c17] at H; have c17b0 := decide_eq_false c17
    have c17b1 : decide (0 < t474.length) = false := decide_eq_false (by omega)
    clear c17; replace H := bs H; obtain ⟨⟨t480, t481⟩, A260, H⟩ := H; replace H : (some (t480, t481)) = some (r1, r2) := H; have A26 := Aside0.mk A260; clear A260
    simp only [Option.some.injEq, Prod.mk.injEq] at H
    obtain ⟨rfl, rfl⟩ := H; have hnb27 := NB470_0.out; have hnc27 := NB0_470.out; have hcz28_0 := bc BK470.out 0; have hcz28_1 := bc BK470.out 1; have hfz28_0 := bf BK470.out 0; have hfz28_1 := bf BK470.out 1
    go_wp2_with (first | ((with_reducible refine gate_callee (f := 20) rfl ?_); refine goesL_ (some 14) rfl rfl Tryz.func20 (by kernel_rfl) rfl #[.agg #[.slice A1_0 l1_0.length c1_0, .slice A1_1 l1_1.length c1_1]] rfl mq ?_; (with_reducible refine (spec_l2Words.calls kj2 _ _ l1_0 _ _ l1_1 t474 _ ?side1 ?side2 ?side3 ?side4 A16.out).mono ?_); (case side1 => exact Kd.C_foot_now HR1_0.out b9_); (case side2 => exact HC1_0.out); (case side3 => exact Kd.C_foot_now HR1_1.out b9_); (case side4 => exact HC1_1.out); rintro e w29 ⟨v475, rfl, ho0, hb⟩; refine ⟨_, rfl, ?_⟩; have HO476 := am (Kd.V_lower (Kd.V_mono (ok' := fun k_ => k_ ≠ gb470 ∧ k_ ≠ g) ho0 (fun k_ hk_ => ⟨(Kd.freshB (g := gb470) (o := .cells #[.slice A1_0 l1_0.length c1_0, .slice A1_1 l1_1.length c1_1] 32 (0, 0)) (bq BK470.out) k_ hk_), (IsS103.fresh b25_ k_ hk_)⟩)) (keep_size (w := w) (g := g) (row := none) b9_)); replace BK470 := am (blk_below (g := gb470) (o := .cells #[.slice A1_0 l1_0.length c1_0, .slice A1_1 l1_1.length c1_1] 32 (0, 0)) (bq BK470.out) hb); replace HK := am (KeepBut.trans b9_ (KeepBut.of_below hb g none) (.inl rfl)); replace HB := am (below_step b30_ hb); replace HI0 := am (IsS103.below b25_ hb); (try clear hb); (try clear hb2); (try clear hk); (try clear hi); (try clear ho0); obtain ⟨Ao30, co30, eo30⟩ := Kd.V_slice HO476.out; subst eo30) | ((with_reducible refine gate_callee (f := 68) rfl ?_); refine goesL_ (some 26) rfl rfl Tryz.func68 (by kernel_rfl) rfl #[.pointer (some ⟨g, 0, none⟩)] rfl mq ?_; (with_reducible refine (spec_l13AnyWord.calls kj2 g s0_0 x1001_2 t480 t481 w0 _ ?side1 ?side2 A26.out).mono ?_); (case side1 => repeat (first | (with_reducible first | exact HI0.out | apply IsS103.alloc | apply IsS103.drewN | apply IsS103.drew | apply IsS103.set_1 | refine IsS103.far ?_ NB0_470.out _) | exact HI0.out)); (case side2 => repeat (first | (with_reducible first | exact HB.out | apply below_alloc | apply pw_below_drewN | apply below_drew1 | refine below_set ?_ (IsS103.ge HI0.out) | refine below_set ?_ GE470.out) | exact HB.out)); rintro e w31 ⟨rfl, hi, hb, hk⟩; refine ⟨_, rfl, ?_⟩; replace BK470 := am (KeepBut.blk hk (g' := gb470) (o := .cells #[.slice A1_0 l1_0.length c1_0, .slice A1_1 l1_1.length c1_1] 32 (0, 0)) (bq BK470.out) NB470_0.out (by simp)); replace HO476 := am (Kd.V_mono (Kd.V_keep (Kd.V_mono (ok := fun k_ => (k_ ≠ gb470 ∧ k_ ≠ g)) (vq HO476.out) (fun k_ hk_ => (⟨hk_, hk_.2⟩ : _ ∧ k_ ≠ g))) hk (fun _ h => h.2)) (fun _ h => h.1)); replace HK := am (KeepBut.trans b9_ hk (.inl rfl)); replace HB := am (hb); replace HI0 := am (hi); (try clear hb); (try clear hb2); (try clear hk); (try clear hi)))
    go_ret
    exact ⟨eq_, b25_, b30_, b9_⟩
   replace c15 := Bool.eq_false_iff.mpr c15; subst c15
   have H1 : ((spec_l13AnyWord.f kj2 s0_0 x1001_2).bind fun bt482 => (some (bt482.1, bt482.2))) = some (r1, r2) := b13_
   replace H := H1; clear H1
   replace H := bs H; obtain ⟨⟨t482, t483⟩, A320, H⟩ := H; replace H : (some (t482, t483)) = some (r1, r2) := H; have A32 := Aside0.mk A320; clear A320
   simp only [Option.some.injEq, Prod.mk.injEq] at H
   obtain ⟨rfl, rfl⟩ := H
   go_wp2_with (first | ((with_reducible refine gate_callee (f := 68) rfl ?_); refine goesL_ (some 26) rfl rfl Tryz.func68 (by kernel_rfl) rfl #[.pointer (some ⟨g, 0, none⟩)] rfl mq ?_; (with_reducible refine (spec_l13AnyWord.calls kj2 g s0_0 x1001_2 t482 t483 w0 _ ?side1 ?side2 A32.out).mono ?_); (case side1 => repeat (first | (with_reducible first | exact HI0.out | apply IsS103.alloc | apply IsS103.drewN | apply IsS103.drew | apply IsS103.set_1 | refine IsS103.far ?_ NB0_470.out _) | exact HI0.out)); (case side2 => repeat (first | (with_reducible first | exact HB.out | apply below_alloc | apply pw_below_drewN | apply below_drew1 | refine below_set ?_ (IsS103.ge HI0.out) | refine below_set ?_ GE470.out) | exact HB.out)); rintro e w33 ⟨rfl, hi, hb, hk⟩; refine ⟨_, rfl, ?_⟩; replace BK470 := am (KeepBut.blk hk (g' := gb470) (o := .cells #[.slice A1_0 l1_0.length c1_0, .slice A1_1 l1_1.length c1_1] 32 (0, 0)) (bq BK470.out) NB470_0.out (by simp)); replace HK := am (KeepBut.trans b9_ hk (.inl rfl)); replace HB := am (hb); replace HI0 := am (hi); (try clear hb); (try clear hb2); (try clear hk); (try clear hi)))
   go_ret
   exact ⟨eq_, b25_, b30_, b9_⟩

/-! ### spec_l1Many: function 43 -/
def spec_l1Many.l0 : Nat → ByteArray → Int → ByteArray → Option (ByteArray)
 | 0, _, _, _ => none
 | k + 1, x0, x1, x5 => if x1 > 0 then (if (Int.tmod x1 2) = 1 then (if x5.size + x0.size ≤ 9223372036854775807 then (if x0.size + x0.size ≤ 9223372036854775807 then (spec_l1Many.l0 k (x0 ++ x0) (wrap64 (Int.tdiv x1 2)) (x5 ++ x0)) else (none)) else (none)) else (if x0.size + x0.size ≤ 9223372036854775807 then (spec_l1Many.l0 k (x0 ++ x0) (wrap64 (Int.tdiv x1 2)) x5) else (none))) else (some x5)
def spec_l1Many.f (k : Nat) (a0 : ByteArray) (a1 : Int) : Option (ByteArray) := spec_l1Many.l0 k a0 a1 (⟨#[]⟩ : ByteArray)
theorem spec_l1Many.calls (k : Nat) (a0 : ByteArray) (a1 : Int) (r : ByteArray) (w : World) (h : spec_l1Many.f k a0 a1 = some r) :
  Calls Tryz.prog 43 #[.string a0, .int .i64 a1] w fun e w' => e = .returned (.string r) ∧ Drawn0 w w' := by
 have H : (spec_l1Many.l0 k a0 a1 (⟨#[]⟩ : ByteArray)) = some r := h
 clear h
 have H' := am H
 clear H; go_enter Tryz.func43, Tryz.ntmps43; go_wp2
 go_loopg [0, 1, 5] k (fun kq v0 v1 v5 w' => ∃ (x0_1 : ByteArray) (x1_1 : Int) (x5_1 : ByteArray), v0 = .string x0_1 ∧ v1 = .int .i64 x1_1 ∧ v5 = .string x5_1 ∧ Aside0 (spec_l1Many.l0 kq x0_1 x1_1 x5_1 = some r) ∧ Aside0 (kq ≤ k) ∧ Drawn0 w w')
 case atStart => exact ⟨(a0), (a1), ((⟨#[]⟩ : ByteArray)), sq, sq, sq, H', ⟨Nat.le_refl _⟩, dr⟩
 case round =>
  clear H'; (try clear p2); obtain ⟨x0_1, x1_1, x5_1, rfl, rfl, rfl, HA, HK1, ⟨m1, rfl⟩⟩ := hrel
  cases gk with
  | zero => exact absurd HA.out (by simp [spec_l1Many.l0])
  | succ k1 =>
   have H := HA.out; clear HA
   simp only [spec_l1Many.l0] at H
   by_cases c3 : x1_1 > 0
   ·rw [if_pos c3] at H; have c3b0 := decide_eq_true c3; clear c3
    by_cases c4 : (Int.tmod x1_1 2) = 1
    ·rw [if_pos c4] at H
     have c4b0 : ((Int.tmod x1_1 2) == 1) = true := beq_iff_eq.mpr c4
     have c4b1 : ((Int.tmod x1_1 2) != 1) = false := bne_eq_false_iff_eq.mpr c4
     clear c4
     replace H := ip H; obtain ⟨c5, H⟩ := H; have c5b0 := eq_true c5
     have c5b1 : decide (x5_1.size + x0_1.size ≤ 9223372036854775807) = true := decide_eq_true c5
     try have c5b2 : (9223372036854775807 < x5_1.size + x0_1.size) = False := eq_false (Nat.not_lt.2 c5)
     replace H := ip H; obtain ⟨c6, H⟩ := H; have c6b0 := eq_true c6
     have c6b1 : decide (x0_1.size + x0_1.size ≤ 9223372036854775807) = true := decide_eq_true c6
     try have c6b2 : (9223372036854775807 < x0_1.size + x0_1.size) = False := eq_false (Nat.not_lt.2 c6)
     have H' := am H
     clear H; go_wp2
     go_roundg k1
     case measure => have := HK1.out; omega
     case rel => exact ⟨(x0_1 ++ x0_1), (wrap64 (Int.tdiv x1_1 2)), (x5_1 ++ x0_1), sq, sq, sq, H', ⟨b63_⟩, dr⟩
    rw [if_neg c4] at H
    have c4b0 : ((Int.tmod x1_1 2) == 1) = false := beq_eq_false_iff_ne.mpr c4
    have c4b1 : ((Int.tmod x1_1 2) != 1) = true := bne_iff_ne.mpr c4
    replace H := ip H; obtain ⟨c7, H⟩ := H; have c7b0 := eq_true c7
    have c7b1 : decide (x0_1.size + x0_1.size ≤ 9223372036854775807) = true := decide_eq_true c7
    try have c7b2 : (9223372036854775807 < x0_1.size + x0_1.size) = False := eq_false (Nat.not_lt.2 c7)
    have H' := am H
    clear H; go_wp2
    go_roundg k1
    case measure => have := HK1.out; omega
    case rel => exact ⟨(x0_1 ++ x0_1), (wrap64 (Int.tdiv x1_1 2)), (x5_1), sq, sq, sq, H', ⟨b63_⟩, dr⟩
   rw [if_neg c3] at H; have c3b0 := decide_eq_false c3; clear c3; obtain rfl := Option.some.inj H; go_wp2; go_ret
   exact ⟨sq, dr⟩

/-! ### spec_DrawCheck: function 14 -/
def spec_DrawCheck.l0 : Nat → ByteArray → Int → List Int → Int → List (S82) → List (S78) → Option ((List (S82)) × (List (S78)) × ByteArray)
 | 0, _, _, _, _, _, _ => none
 | k + 1, x6, x7, x488000, x488001, x496000, x496001 => if x7 > 0 then ((spec_l13Of.f k x488000 x488001 x496000 x496001).bind fun bt498 => ((spec_l13Word.f k x488000 bt498.2).bind fun bt500 => ((spec_l1Rd_of.f k x488000 bt500.2 (([bt498.1, bt500.1, (⟨#[67, 65, 84]⟩ : ByteArray), (⟨#[68, 111]⟩ : ByteArray), (⟨#[116, 111, 111, 108, 111, 110, 103, 97, 119, 111, 114, 100, 102, 111, 114, 116, 104, 105, 115]⟩ : ByteArray), (⟨#[49]⟩ : ByteArray)] : List ByteArray))).bind fun bt505 => (if x6.size + bt505.1.size ≤ 9223372036854775807 then ((spec_l1Rd_of.f k x488000 bt505.2 (([(⟨#[32]⟩ : ByteArray), (⟨#[44, 32]⟩ : ByteArray), (⟨#[46]⟩ : ByteArray), (⟨#[10]⟩ : ByteArray), (⟨#[39]⟩ : ByteArray)] : List ByteArray))).bind fun bt510 => (if (x6 ++ bt505.1).size + bt510.1.size ≤ 9223372036854775807 then (spec_DrawCheck.l0 k ((x6 ++ bt505.1) ++ bt510.1) (wrap64 (x7 - 1)) x488000 bt510.2 x496000 x496001) else (none))) else (none))))) else ((spec_l1Rd_pick.f k x488000 x488001 30).bind fun bt512 => (if bt512.1 = 0 then ((spec_l1Rd_pick.f k x488000 bt512.2 3).bind fun bt514 => ((spec_l1Many.f k (⟨#[97, 32]⟩ : ByteArray) (wrap64 (149 + bt514.1))).bind fun t516 => (some (x496000, x496001, t516)))) else (some (x496000, x496001, x6))))
def spec_DrawCheck.f (k : Nat) (l0 : List Int) : Option ((List (S82)) × (List (S78)) × ByteArray) := (spec_l1Open.f l0).bind fun bt485 => ((spec_l13AnyBook.f k bt485.1 bt485.2).bind fun bt488 => ((spec_l1Rd_pick.f k bt485.1 bt488.2.2 7).bind fun bt496 => (spec_DrawCheck.l0 k (⟨#[]⟩ : ByteArray) bt496.1 bt485.1 bt496.2 bt488.1 bt488.2.1)))
theorem spec_DrawCheck.calls (k : Nat) (A0 : Option Addr) (c0 : Nat) (l0 : List Int) (r1 : List (S82)) (r2 : List (S78)) (r3 : ByteArray) (w : World) (hr0 : Kd.C (Kd.int .u8) w A0 l0.length l0) (hc0 : l0.length ≤ c0) (h : spec_DrawCheck.f k l0 = some (r1, r2, r3)) :
  Calls Tryz.prog 14 #[.slice A0 l0.length c0] w fun e w' => ∃ v0_ v1_ : Value, e = .returned (.tuple #[.agg #[v0_, v1_], .string r3]) ∧ Kd.R k82 82 w' w.heap.size (fun _ => True) v0_ r1 ∧ Kd.R k78 78 w' w.heap.size (fun _ => True) v1_ r2 ∧ Below w.heap.size w w' := by
 have hu32 := Tryz.underlying32; have HR0 := am hr0; have HC0 := am hc0; clear hr0 hc0; have HB := am (Below.refl w.heap.size w)
 have H : ((spec_l1Open.f l0).bind fun bt485 => ((spec_l13AnyBook.f k bt485.1 bt485.2).bind fun bt488 => ((spec_l1Rd_pick.f k bt485.1 bt488.2.2 7).bind fun bt496 => (spec_DrawCheck.l0 k (⟨#[]⟩ : ByteArray) bt496.1 bt485.1 bt496.2 bt488.1 bt488.2.1)))) = some (r1, r2, r3) := h
 clear h; replace H := bs H; obtain ⟨⟨t485, t486⟩, A20, H⟩ := H; replace H : ((spec_l13AnyBook.f k t485 t486).bind fun bt488 => ((spec_l1Rd_pick.f k t485 bt488.2.2 7).bind fun bt496 => (spec_DrawCheck.l0 k (⟨#[]⟩ : ByteArray) bt496.1 t485 bt496.2 bt488.1 bt488.2.1))) = some (r1, r2, r3) := H; have A2 := Aside0.mk A20; clear A20; replace H := bs H; obtain ⟨⟨t488, t491, t494⟩, A30, H⟩ := H; replace H : ((spec_l1Rd_pick.f k t485 t494 7).bind fun bt496 => (spec_DrawCheck.l0 k (⟨#[]⟩ : ByteArray) bt496.1 t485 bt496.2 t488 t491)) = some (r1, r2, r3) := H; have A3 := Aside0.mk A30; clear A30; replace H := bs H; obtain ⟨⟨t496, t497⟩, A40, H⟩ := H; replace H : (spec_DrawCheck.l0 k (⟨#[]⟩ : ByteArray) t496 t485 t497 t488 t491) = some (r1, r2, r3) := H; have A4 := Aside0.mk A40; clear A40
 have H' := am H
 clear H; go_enter Tryz.func14, Tryz.ntmps14
 go_wp2_with (first | ((with_reducible refine gate_dst (N := 2) rfl ?_); refine bx 2 (cs := #[.slice none 0 0, .slice none 0 0]) (t := 32) ?_; intro gb484 hg w5 hbox hb; have BK484 := am (hbox); have GW484 := am ((b19_ : w.heap.size ≤ gb484)); have GE484 := am ((b19_ : w.heap.size ≤ gb484)); replace HB := am (below_step bel hb); clear hb hbox hg) | ((with_reducible refine gate_callee (f := 37) rfl ?_); refine goesL_ (some 9) rfl rfl Tryz.func37 (by kernel_rfl) rfl #[.slice A0 l0.length c0] rfl mq ?_; (with_reducible refine (spec_l1Open.calls _ _ l0 t485 t486 w _ ?side1 ?side2 ?side3 A2.out).mono ?_); (case side1 => repeat (first | (with_reducible first | exact HB.out | apply below_alloc | apply pw_below_drewN | apply below_drew1 | refine below_set ?_ GE484.out) | exact HB.out)); (case side2 => exact HR0.out); (case side3 => exact HC0.out); rintro e w6 ⟨g487, rfl, hi, hb, hb2⟩; refine ⟨_, rfl, ?_⟩; replace HB := am (hb); have HI487 := am (hi); have NB487_484 := am (IsS103.ne_blk hi (blk_below (g := gb484) (o := .cells #[.slice none 0 0, .slice none 0 0] 32 (0, 0)) (bq BK484.out) hb2) (by decide)); have NB484_487 := am (Ne.symm (IsS103.ne_blk hi (blk_below (g := gb484) (o := .cells #[.slice none 0 0, .slice none 0 0] 32 (0, 0)) (bq BK484.out) hb2) (by decide))); replace BK484 := am (blk_below (g := gb484) (o := .cells #[.slice none 0 0, .slice none 0 0] 32 (0, 0)) (bq BK484.out) hb2); (try clear hb); (try clear hb2); (try clear hk); (try clear hi)) | ((with_reducible refine gate_callee (f := 38) rfl ?_); refine goesL_ (some 11) rfl rfl Tryz.func38 (by kernel_rfl) rfl #[.pointer (some ⟨g487, 0, none⟩)] rfl mq ?_; (with_reducible refine (spec_l13AnyBook.calls k g487 t485 t486 t488 t491 t494 w _ ?side1 ?side2 A3.out).mono ?_); (case side1 => repeat (first | (with_reducible first | exact HI487.out | apply IsS103.alloc | apply IsS103.drewN | apply IsS103.drew | apply IsS103.set_1 | refine IsS103.far ?_ NB487_484.out _) | exact HI487.out)); (case side2 => repeat (first | (with_reducible first | exact HB.out | apply below_alloc | apply pw_below_drewN | apply below_drew1 | refine below_set ?_ (IsS103.ge HI487.out) | refine below_set ?_ GE484.out) | exact HB.out)); rintro e w7 ⟨v489, v492, rfl, ho0, ho1, hi, hb, hk⟩; refine ⟨_, rfl, ?_⟩; replace BK484 := am (KeepBut.blk hk (g' := gb484) (o := .cells #[.slice none 0 0, .slice none 0 0] 32 (0, 0)) (bq BK484.out) NB484_487.out (by simp)); have HO490 := am (Kd.R_lower ho0 (below_size b43_)); have HO493 := am (Kd.R_lower ho1 (below_size b43_)); replace HB := am (hb); replace HI487 := am (hi); (try clear hb); (try clear hb2); (try clear hk); (try clear hi); (try clear ho0); (try clear ho1)) | ((with_reducible refine gate_dst (N := 5) rfl ?_); refine bx 5 (cs := #[.slice none 0 0, .slice none 0 0]) (t := 32) ?_; intro gb495 hg w8 hbox hb; replace HO490 := am (Kd.R_below (rq HO490.out) hb); replace HO493 := am (Kd.R_below (rq HO493.out) hb); have BK495 := am (hbox); have GW495 := am ((b64_ : w.heap.size ≤ gb495)); have GE495 := am ((b64_ : w.heap.size ≤ gb495)); replace HB := am (below_step b43_ hb); have NB484_495 := am ((by rw [hg]; exact Nat.ne_of_lt (blk_lt (g := gb484) (o := .cells #[.slice none 0 0, .slice none 0 0] 32 (0, 0)) (bq BK484.out)) : gb484 ≠ gb495)); have NB495_484 := am ((by rw [hg]; exact Nat.ne_of_gt (blk_lt (g := gb484) (o := .cells #[.slice none 0 0, .slice none 0 0] 32 (0, 0)) (bq BK484.out)) : gb495 ≠ gb484)); replace BK484 := am (blk_below (g := gb484) (o := .cells #[.slice none 0 0, .slice none 0 0] 32 (0, 0)) (bq BK484.out) hb); have NB487_495 := am ((by rw [hg]; exact Nat.ne_of_lt (IsS103.lt (show IsS103 w _ g487 t485 t494 from by repeat (first | (with_reducible first | exact HI487.out | apply IsS103.alloc | apply IsS103.drewN | apply IsS103.drew | apply IsS103.set_1 | refine IsS103.far ?_ NB487_484.out _) | exact HI487.out))) : g487 ≠ gb495)); have NB495_487 := am ((by rw [hg]; exact Nat.ne_of_gt (IsS103.lt (show IsS103 w _ g487 t485 t494 from by repeat (first | (with_reducible first | exact HI487.out | apply IsS103.alloc | apply IsS103.drewN | apply IsS103.drew | apply IsS103.set_1 | refine IsS103.far ?_ NB487_484.out _) | exact HI487.out))) : gb495 ≠ g487)); replace HI487 := am (IsS103.below (by repeat (first | (with_reducible first | exact HI487.out | apply IsS103.alloc | apply IsS103.drewN | apply IsS103.drew | apply IsS103.set_1 | refine IsS103.far ?_ NB487_484.out _) | exact HI487.out)) hb); clear hb hbox hg; obtain ⟨Ao9, co9, eo9⟩ := Kd.R_slice HO490.out; subst eo9; have hnb10 := NB495_484.out; have hnc10 := NB484_495.out; have hnb11 := NB495_487.out; have hnc11 := NB487_495.out; have hcz12_0 := bc BK495.out 0; have hcz12_1 := bc BK495.out 1; have hfz12_0 := bf BK495.out 0; have hfz12_1 := bf BK495.out 1; obtain ⟨Ao13, co13, eo13⟩ := Kd.R_slice HO493.out; subst eo13) | ((with_reducible refine gate_callee (f := 39) rfl ?_); refine goesL_ (some 13) rfl rfl Tryz.func39 (by kernel_rfl) rfl #[.pointer (some ⟨g487, 0, none⟩), .int .i64 7] rfl mq ?_; (with_reducible refine (spec_l1Rd_pick.calls k g487 t485 t494 7 t496 t497 w _ ?side1 ?side2 A4.out).mono ?_); (case side1 => repeat (first | (with_reducible first | exact HI487.out | apply IsS103.alloc | apply IsS103.drewN | apply IsS103.drew | apply IsS103.set_1 | refine IsS103.far ?_ NB487_484.out _ | refine IsS103.far ?_ NB487_495.out _) | exact HI487.out)); (case side2 => repeat (first | (with_reducible first | exact HB.out | apply below_alloc | apply pw_below_drewN | apply below_drew1 | refine below_set ?_ (IsS103.ge HI487.out) | refine below_set ?_ GE484.out | refine below_set ?_ GE495.out) | exact HB.out)); rintro e w14 ⟨rfl, hi, hb, hk⟩; refine ⟨_, rfl, ?_⟩; replace BK484 := am (KeepBut.blk hk (g' := gb484) (o := .cells #[.slice none 0 0, .slice none 0 0] 32 (0, 0)) (by (with_reducible repeat (first | refine blk_drewN ?_ _ | refine blk_drew ?_ | refine blk_alloc ?_ _)); refine blk_far ?_ NB484_495.out _; (with_reducible repeat (first | refine blk_drewN ?_ _ | refine blk_drew ?_ | refine blk_alloc ?_ _)); refine blk_far ?_ NB484_495.out _; (with_reducible repeat (first | refine blk_drewN ?_ _ | refine blk_drew ?_ | refine blk_alloc ?_ _)); exact BK484.out) NB484_487.out (by simp)); replace HO490 := am (Kd.R_mono (Kd.R_keep (IsS103.apart (show IsS103 w _ g487 t485 t494 from by repeat (first | (with_reducible first | exact HI487.out | apply IsS103.alloc | apply IsS103.drewN | apply IsS103.drew | apply IsS103.set_1 | refine IsS103.far ?_ NB487_484.out _ | refine IsS103.far ?_ NB487_495.out _) | exact HI487.out)) (rq ((Kd.R_mono (Kd.R_far (p := ⟨gb495, 1, none⟩) (Kd.R_far (p := ⟨gb495, 0, none⟩) (Kd.R_types HO490.out BK495.out (by decide)) (fun _ hk => hk.2) (.slice Ao9 t488.length co9)) (fun _ hk => hk.2) (.slice Ao13 t491.length co13)) (fun _ h_ => h_.1)))) (by decide)) hk (fun _ h => h.2)) (fun _ h => h.1)); replace HO493 := am (Kd.R_mono (Kd.R_keep (IsS103.apart (show IsS103 w _ g487 t485 t494 from by repeat (first | (with_reducible first | exact HI487.out | apply IsS103.alloc | apply IsS103.drewN | apply IsS103.drew | apply IsS103.set_1 | refine IsS103.far ?_ NB487_484.out _ | refine IsS103.far ?_ NB487_495.out _) | exact HI487.out)) (rq ((Kd.R_mono (Kd.R_far (p := ⟨gb495, 1, none⟩) (Kd.R_far (p := ⟨gb495, 0, none⟩) (Kd.R_types HO493.out BK495.out (by decide)) (fun _ hk => hk.2) (.slice Ao9 t488.length co9)) (fun _ hk => hk.2) (.slice Ao13 t491.length co13)) (fun _ h_ => h_.1)))) (by decide)) hk (fun _ h => h.2)) (fun _ h => h.1)); replace BK495 := am (KeepBut.blk hk (g' := gb495) (o := .cells #[.slice Ao9 t488.length co9, .slice Ao13 t491.length co13] 32 (0, 0)) (by (with_reducible repeat (first | refine blk_drewN ?_ _ | refine blk_drew ?_ | refine blk_alloc ?_ _)); refine blk_put (cs := #[.slice Ao9 t488.length co9, .slice none 0 0]) ?_ 1 _ rfl; (with_reducible repeat (first | refine blk_drewN ?_ _ | refine blk_drew ?_ | refine blk_alloc ?_ _)); refine blk_put (cs := #[.slice none 0 0, .slice none 0 0]) ?_ 0 _ rfl; (with_reducible repeat (first | refine blk_drewN ?_ _ | refine blk_drew ?_ | refine blk_alloc ?_ _)); exact BK495.out) NB495_487.out (by simp)); replace HB := am (hb); replace HI487 := am (hi); (try clear hb); (try clear hb2); (try clear hk); (try clear hi)))
 go_loopg [6, 7] k (fun kq v6 v7 w' => ∃ (x6_1 : ByteArray) (x7_1 : Int) (x488001_1 : Int), v6 = .string x6_1 ∧ v7 = .int .i64 x7_1 ∧ Aside0 (spec_DrawCheck.l0 kq x6_1 x7_1 t485 x488001_1 t488 t491 = some (r1, r2, r3)) ∧ Aside0 (kq ≤ k) ∧ Aside0 (Kd.R k82 82 w' w.heap.size (fun _ => True) (.slice Ao9 t488.length co9) t488) ∧ Aside0 (Kd.R k78 78 w' w.heap.size (fun _ => True) (.slice Ao13 t491.length co13) t491) ∧ Aside0 (w'.heap[gb484]? = some (.cells #[(.slice none 0 0), (.slice none 0 0)] 32 (0, 0))) ∧ Aside0 (w'.heap[gb495]? = some (.cells #[(.slice Ao9 t488.length co9), (.slice Ao13 t491.length co13)] 32 (0, 0))) ∧ Aside0 (IsS103 w w' g487 t485 x488001_1) ∧ Aside0 (Below w.heap.size w w'))
 case atStart => exact ⟨((⟨#[]⟩ : ByteArray)), (t496), (t497), sq, sq, H', ⟨Nat.le_refl _⟩, ⟨rq HO490.out⟩, ⟨rq HO493.out⟩, ⟨bq BK484.out⟩, ⟨bq BK495.out⟩, ⟨b40_⟩, ⟨b24_⟩⟩
 case round =>
  clear H'; (try clear c1); (try clear p2); (try clear c3); (try clear c10); (try clear c11); (try clear c14); (try clear hcz12_0); (try clear hcz12_1); (try clear hfz12_0); (try clear hfz12_1); obtain ⟨x6_1, x7_1, x488001_1, rfl, rfl, HA, HK1, HO_496000, HO_496001, BK484, BK495, HI487, HB⟩ := hrel
  cases gk with
  | zero => exact absurd HA.out (by simp [spec_DrawCheck.l0])
  | succ k1 =>
   have H := HA.out; clear HA
   simp only [spec_DrawCheck.l0] at H
   by_cases c15 : x7_1 > 0
   ·rw [if_pos c15] at H; have c15b0 := decide_eq_true c15; clear c15; replace H := bs H; obtain ⟨⟨t498, t499⟩, A160, H⟩ := H; replace H : ((spec_l13Word.f k1 t485 t499).bind fun bt500 => ((spec_l1Rd_of.f k1 t485 bt500.2 (([t498, bt500.1, (⟨#[67, 65, 84]⟩ : ByteArray), (⟨#[68, 111]⟩ : ByteArray), (⟨#[116, 111, 111, 108, 111, 110, 103, 97, 119, 111, 114, 100, 102, 111, 114, 116, 104, 105, 115]⟩ : ByteArray), (⟨#[49]⟩ : ByteArray)] : List ByteArray))).bind fun bt505 => (if x6_1.size + bt505.1.size ≤ 9223372036854775807 then ((spec_l1Rd_of.f k1 t485 bt505.2 (([(⟨#[32]⟩ : ByteArray), (⟨#[44, 32]⟩ : ByteArray), (⟨#[46]⟩ : ByteArray), (⟨#[10]⟩ : ByteArray), (⟨#[39]⟩ : ByteArray)] : List ByteArray))).bind fun bt510 => (if (x6_1 ++ bt505.1).size + bt510.1.size ≤ 9223372036854775807 then (spec_DrawCheck.l0 k1 ((x6_1 ++ bt505.1) ++ bt510.1) (wrap64 (x7_1 - 1)) t485 bt510.2 t488 t491) else (none))) else (none)))) = some (r1, r2, r3) := H; have A16 := Aside0.mk A160; clear A160; replace H := bs H; obtain ⟨⟨t500, t501⟩, A170, H⟩ := H; replace H : ((spec_l1Rd_of.f k1 t485 t501 (([t498, t500, (⟨#[67, 65, 84]⟩ : ByteArray), (⟨#[68, 111]⟩ : ByteArray), (⟨#[116, 111, 111, 108, 111, 110, 103, 97, 119, 111, 114, 100, 102, 111, 114, 116, 104, 105, 115]⟩ : ByteArray), (⟨#[49]⟩ : ByteArray)] : List ByteArray))).bind fun bt505 => (if x6_1.size + bt505.1.size ≤ 9223372036854775807 then ((spec_l1Rd_of.f k1 t485 bt505.2 (([(⟨#[32]⟩ : ByteArray), (⟨#[44, 32]⟩ : ByteArray), (⟨#[46]⟩ : ByteArray), (⟨#[10]⟩ : ByteArray), (⟨#[39]⟩ : ByteArray)] : List ByteArray))).bind fun bt510 => (if (x6_1 ++ bt505.1).size + bt510.1.size ≤ 9223372036854775807 then (spec_DrawCheck.l0 k1 ((x6_1 ++ bt505.1) ++ bt510.1) (wrap64 (x7_1 - 1)) t485 bt510.2 t488 t491) else (none))) else (none))) = some (r1, r2, r3) := H; have A17 := Aside0.mk A170; clear A170; obtain ⟨y502, hy502⟩ : ∃ y_ : List ByteArray, y_ = (([t498, t500, (⟨#[67, 65, 84]⟩ : ByteArray), (⟨#[68, 111]⟩ : ByteArray), (⟨#[116, 111, 111, 108, 111, 110, 103, 97, 119, 111, 114, 100, 102, 111, 114, 116, 104, 105, 115]⟩ : ByteArray), (⟨#[49]⟩ : ByteArray)] : List ByteArray)) := ⟨_, rfl⟩
    replace H : ((spec_l1Rd_of.f k1 t485 t501 y502).bind fun bt505 => (if x6_1.size + bt505.1.size ≤ 9223372036854775807 then ((spec_l1Rd_of.f k1 t485 bt505.2 (([(⟨#[32]⟩ : ByteArray), (⟨#[44, 32]⟩ : ByteArray), (⟨#[46]⟩ : ByteArray), (⟨#[10]⟩ : ByteArray), (⟨#[39]⟩ : ByteArray)] : List ByteArray))).bind fun bt510 => (if (x6_1 ++ bt505.1).size + bt510.1.size ≤ 9223372036854775807 then (spec_DrawCheck.l0 k1 ((x6_1 ++ bt505.1) ++ bt510.1) (wrap64 (x7_1 - 1)) t485 bt510.2 t488 t491) else (none))) else (none))) = some (r1, r2, r3) := by first | (rw [hy502]; with_reducible exact H) | (have H2_ := bm H; rw [hy502]; with_reducible exact H2_) | (with_reducible exact bm H) | with_reducible exact H | (rw [hy502]; exact H) | exact H
    have Ny502 := am hy502; clear hy502; replace H := bs H; obtain ⟨⟨t505, t506⟩, A180, H⟩ := H; replace H : (if x6_1.size + t505.size ≤ 9223372036854775807 then ((spec_l1Rd_of.f k1 t485 t506 (([(⟨#[32]⟩ : ByteArray), (⟨#[44, 32]⟩ : ByteArray), (⟨#[46]⟩ : ByteArray), (⟨#[10]⟩ : ByteArray), (⟨#[39]⟩ : ByteArray)] : List ByteArray))).bind fun bt510 => (if (x6_1 ++ t505).size + bt510.1.size ≤ 9223372036854775807 then (spec_DrawCheck.l0 k1 ((x6_1 ++ t505) ++ bt510.1) (wrap64 (x7_1 - 1)) t485 bt510.2 t488 t491) else (none))) else (none)) = some (r1, r2, r3) := H; have A18 := Aside0.mk A180; clear A180
    replace H := ip H; obtain ⟨c19, H⟩ := H; have c19b0 := eq_true c19
    have c19b1 : decide (x6_1.size + t505.size ≤ 9223372036854775807) = true := decide_eq_true c19
    try have c19b2 : (9223372036854775807 < x6_1.size + t505.size) = False := eq_false (Nat.not_lt.2 c19)
    obtain ⟨y507, hy507⟩ : ∃ y_ : List ByteArray, y_ = (([(⟨#[32]⟩ : ByteArray), (⟨#[44, 32]⟩ : ByteArray), (⟨#[46]⟩ : ByteArray), (⟨#[10]⟩ : ByteArray), (⟨#[39]⟩ : ByteArray)] : List ByteArray)) := ⟨_, rfl⟩
    replace H : ((spec_l1Rd_of.f k1 t485 t506 y507).bind fun bt510 => (if (x6_1 ++ t505).size + bt510.1.size ≤ 9223372036854775807 then (spec_DrawCheck.l0 k1 ((x6_1 ++ t505) ++ bt510.1) (wrap64 (x7_1 - 1)) t485 bt510.2 t488 t491) else (none))) = some (r1, r2, r3) := by first | (rw [hy507]; with_reducible exact H) | (have H2_ := bm H; rw [hy507]; with_reducible exact H2_) | (with_reducible exact bm H) | with_reducible exact H | (rw [hy507]; exact H) | exact H
    have Ny507 := am hy507; clear hy507; replace H := bs H; obtain ⟨⟨t510, t511⟩, A200, H⟩ := H; replace H : (if (x6_1 ++ t505).size + t510.size ≤ 9223372036854775807 then (spec_DrawCheck.l0 k1 ((x6_1 ++ t505) ++ t510) (wrap64 (x7_1 - 1)) t485 t511 t488 t491) else (none)) = some (r1, r2, r3) := H; have A20 := Aside0.mk A200; clear A200
    replace H := ip H; obtain ⟨c21, H⟩ := H; have c21b0 := eq_true c21; have c21b5 := c21
    try simp at c21b5
    try have c21b4 := eq_false (Nat.not_lt.2 c21b5)
    have c21b7 := c21
    try simp only [ByteArray.size_append] at c21b7
    try have c21b8 := eq_false (Nat.not_lt.2 c21b7)
    try have c21b3 : (9223372036854775807 < x6_1.size + t505.size + t510.size) = False := by
          have h_ := c21
          simp only [ByteArray.size_append] at h_
          exact eq_false (by omega)
    have c21b1 : decide ((x6_1 ++ t505).size + t510.size ≤ 9223372036854775807) = true := decide_eq_true c21
    try have c21b2 : (9223372036854775807 < (x6_1 ++ t505).size + t510.size) = False := eq_false (Nat.not_lt.2 c21)
    have H' := am H
    clear H; have hnb22 := NB495_484.out; have hnc22 := NB484_495.out; have hnb23 := NB495_487.out; have hnc23 := NB487_495.out; have hcz24_0 := bc BK495.out 0; have hcz24_1 := bc BK495.out 1; have hfz24_0 := bf BK495.out 0; have hfz24_1 := bf BK495.out 1
    go_wp2_with (first | ((with_reducible refine gate_callee (f := 41) rfl ?_); refine goesL_ (some 22) rfl rfl Tryz.func41 (by kernel_rfl) rfl #[.pointer (some ⟨g487, 0, none⟩), .agg #[.slice Ao9 t488.length co9, .slice Ao13 t491.length co13]] rfl mq ?_; (with_reducible refine (spec_l13Of.calls k1 g487 t485 x488001_1 _ _ t488 _ _ t491 t498 t499 w _ ?side1 ?side2 ?side3 ?side4 ?side5 ?side6 A16.out).mono ?_); (case side1 => repeat (first | (with_reducible first | exact HI487.out | apply IsS103.alloc | apply IsS103.drewN | apply IsS103.drew | apply IsS103.set_1 | refine IsS103.far ?_ NB487_484.out _ | refine IsS103.far ?_ NB487_495.out _) | exact HI487.out)); (case side2 => repeat (first | (with_reducible first | exact HB.out | apply below_alloc | apply pw_below_drewN | apply below_drew1 | refine below_set ?_ (IsS103.ge HI487.out) | refine below_set ?_ GE484.out | refine below_set ?_ GE495.out) | exact HB.out)); (case side3 => exact Kd.C_foot_own (IsS103.apart (show IsS103 w _ g487 t485 x488001_1 from by repeat (first | (with_reducible first | exact HI487.out | apply IsS103.alloc | apply IsS103.drewN | apply IsS103.drew | apply IsS103.set_1 | refine IsS103.far ?_ NB487_484.out _ | refine IsS103.far ?_ NB487_495.out _) | exact HI487.out)) (rq HO_496000.out) (by decide)) (fun _ h_ => h_.2)); (case side4 => exact (Kd.R_reads' HO_496000.out).2.1); (case side5 => exact Kd.C_foot_own (IsS103.apart (show IsS103 w _ g487 t485 x488001_1 from by repeat (first | (with_reducible first | exact HI487.out | apply IsS103.alloc | apply IsS103.drewN | apply IsS103.drew | apply IsS103.set_1 | refine IsS103.far ?_ NB487_484.out _ | refine IsS103.far ?_ NB487_495.out _) | exact HI487.out)) (rq HO_496001.out) (by decide)) (fun _ h_ => h_.2)); (case side6 => exact (Kd.R_reads' HO_496001.out).2.1); rintro e w25 ⟨rfl, hi, hb, hk⟩; refine ⟨_, rfl, ?_⟩; replace HO_496000 := am (Kd.R_mono (Kd.R_keep (IsS103.apart (show IsS103 w _ g487 t485 x488001_1 from by repeat (first | (with_reducible first | exact HI487.out | apply IsS103.alloc | apply IsS103.drewN | apply IsS103.drew | apply IsS103.set_1 | refine IsS103.far ?_ NB487_484.out _ | refine IsS103.far ?_ NB487_495.out _) | exact HI487.out)) (rq HO_496000.out) (by decide)) hk (fun _ h => h.2)) (fun _ h => h.1)); replace HO_496001 := am (Kd.R_mono (Kd.R_keep (IsS103.apart (show IsS103 w _ g487 t485 x488001_1 from by repeat (first | (with_reducible first | exact HI487.out | apply IsS103.alloc | apply IsS103.drewN | apply IsS103.drew | apply IsS103.set_1 | refine IsS103.far ?_ NB487_484.out _ | refine IsS103.far ?_ NB487_495.out _) | exact HI487.out)) (rq HO_496001.out) (by decide)) hk (fun _ h => h.2)) (fun _ h => h.1)); replace BK484 := am (KeepBut.blk hk (g' := gb484) (o := .cells #[.slice none 0 0, .slice none 0 0] 32 (0, 0)) (bq BK484.out) NB484_487.out (by simp)); replace BK495 := am (KeepBut.blk hk (g' := gb495) (o := .cells #[.slice Ao9 t488.length co9, .slice Ao13 t491.length co13] 32 (0, 0)) (bq BK495.out) NB495_487.out (by simp)); replace HB := am (hb); replace HI487 := am (hi); (try clear hb); (try clear hb2); (try clear hk); (try clear hi)) | ((with_reducible refine gate_callee (f := 42) rfl ?_); refine goesL_ (some 24) rfl rfl Tryz.func42 (by kernel_rfl) rfl #[.pointer (some ⟨g487, 0, none⟩)] rfl mq ?_; (with_reducible refine (spec_l13Word.calls k1 g487 t485 t499 t500 t501 w _ ?side1 ?side2 A17.out).mono ?_); (case side1 => repeat (first | (with_reducible first | exact HI487.out | apply IsS103.alloc | apply IsS103.drewN | apply IsS103.drew | apply IsS103.set_1 | refine IsS103.far ?_ NB487_484.out _ | refine IsS103.far ?_ NB487_495.out _) | exact HI487.out)); (case side2 => repeat (first | (with_reducible first | exact HB.out | apply below_alloc | apply pw_below_drewN | apply below_drew1 | refine below_set ?_ (IsS103.ge HI487.out) | refine below_set ?_ GE484.out | refine below_set ?_ GE495.out) | exact HB.out)); rintro e w26 ⟨rfl, hi, hb, hk⟩; refine ⟨_, rfl, ?_⟩; replace HO_496000 := am (Kd.R_mono (Kd.R_keep (IsS103.apart (show IsS103 w _ g487 t485 t499 from by repeat (first | (with_reducible first | exact HI487.out | apply IsS103.alloc | apply IsS103.drewN | apply IsS103.drew | apply IsS103.set_1 | refine IsS103.far ?_ NB487_484.out _ | refine IsS103.far ?_ NB487_495.out _) | exact HI487.out)) (rq HO_496000.out) (by decide)) hk (fun _ h => h.2)) (fun _ h => h.1)); replace HO_496001 := am (Kd.R_mono (Kd.R_keep (IsS103.apart (show IsS103 w _ g487 t485 t499 from by repeat (first | (with_reducible first | exact HI487.out | apply IsS103.alloc | apply IsS103.drewN | apply IsS103.drew | apply IsS103.set_1 | refine IsS103.far ?_ NB487_484.out _ | refine IsS103.far ?_ NB487_495.out _) | exact HI487.out)) (rq HO_496001.out) (by decide)) hk (fun _ h => h.2)) (fun _ h => h.1)); replace BK484 := am (KeepBut.blk hk (g' := gb484) (o := .cells #[.slice none 0 0, .slice none 0 0] 32 (0, 0)) (bq BK484.out) NB484_487.out (by simp)); replace BK495 := am (KeepBut.blk hk (g' := gb495) (o := .cells #[.slice Ao9 t488.length co9, .slice Ao13 t491.length co13] 32 (0, 0)) (bq BK495.out) NB495_487.out (by simp)); replace HB := am (hb); replace HI487 := am (hi); (try clear hb); (try clear hb2); (try clear hk); (try clear hi)) | ((with_reducible refine gate_dst (N := 25) rfl ?_); refine Kd.R_lit Kd.string _ 9 ?hg (N := 25) ?hd (xs := ([t498, t500, (⟨#[67, 65, 84]⟩ : ByteArray), (⟨#[68, 111]⟩ : ByteArray), (⟨#[116, 111, 111, 108, 111, 110, 103, 97, 119, 111, 114, 100, 102, 111, 114, 116, 104, 105, 115]⟩ : ByteArray), (⟨#[49]⟩ : ByteArray)] : List ByteArray)) (inner := [.string t498, .string t500, .string (⟨#[67, 65, 84]⟩ : ByteArray), .string (⟨#[68, 111]⟩ : ByteArray), .string (⟨#[116, 111, 111, 108, 111, 110, 103, 97, 119, 111, 114, 100, 102, 111, 114, 116, 104, 105, 115]⟩ : ByteArray), .string (⟨#[49]⟩ : ByteArray)]) (ok := fun _ => True) (okp := fun _ => True) ?hr ?hp (fun _ hk => hk) trivial (Below.refl _ _) (Nat.le_refl _) (by simp) ?_; (case hd => rfl); (case hg => rfl); (case hr => first | (go_simp; done) | (go_simp; rfl)); (case hp => exact (Reps.one (show Kd.M Kd.string _ _ _ t498 [.string t498] from rfl) (Reps.one (show Kd.M Kd.string _ _ _ t500 [.string t500] from rfl) (Reps.one (show Kd.M Kd.string _ _ _ (⟨#[67, 65, 84]⟩ : ByteArray) [.string (⟨#[67, 65, 84]⟩ : ByteArray)] from rfl) (Reps.one (show Kd.M Kd.string _ _ _ (⟨#[68, 111]⟩ : ByteArray) [.string (⟨#[68, 111]⟩ : ByteArray)] from rfl) (Reps.one (show Kd.M Kd.string _ _ _ (⟨#[116, 111, 111, 108, 111, 110, 103, 97, 119, 111, 114, 100, 102, 111, 114, 116, 104, 105, 115]⟩ : ByteArray) [.string (⟨#[116, 111, 111, 108, 111, 110, 103, 97, 119, 111, 114, 100, 102, 111, 114, 116, 104, 105, 115]⟩ : ByteArray)] from rfl) (Reps.one (show Kd.M Kd.string _ _ _ (⟨#[49]⟩ : ByteArray) [.string (⟨#[49]⟩ : ByteArray)] from rfl) (Reps.none _ _)))))))); intro v503 w27 ho28 hb hg_ hnew_; clear hg_ hnew_; (first | rw [← Ny502.out] at ho28 | (simp only [Int.reduceToNat] at ho28; rw [← Ny502.out] at ho28) | (simp only [Int.toNat_natCast] at ho28; rw [← Ny502.out] at ho28)); replace HO_496000 := am (Kd.R_below (rq HO_496000.out) hb); replace HO_496001 := am (Kd.R_below (rq HO_496001.out) hb); have HO504 := am (Kd.R_lower ho28 (below_size b24_)); replace BK484 := am (blk_below (g := gb484) (o := .cells #[.slice none 0 0, .slice none 0 0] 32 (0, 0)) (bq BK484.out) hb); replace BK495 := am (blk_below (g := gb495) (o := .cells #[.slice Ao9 t488.length co9, .slice Ao13 t491.length co13] 32 (0, 0)) (bq BK495.out) hb); replace HB := am (below_step b24_ hb); replace HI487 := am (IsS103.below b40_ hb); clear hb ho28; obtain ⟨Ao29, co29, eo29⟩ := Kd.R_slice HO504.out; subst eo29) | ((with_reducible refine gate_callee (f := 40) rfl ?_); refine goesL_ (some 26) rfl rfl Tryz.func40 (by kernel_rfl) rfl #[.pointer (some ⟨g487, 0, none⟩), .slice Ao29 y502.length co29] rfl mq ?_; (with_reducible refine (spec_l1Rd_of.calls k1 g487 t485 t501 _ _ y502 t505 t506 w _ ?side1 ?side2 ?side3 ?side4 ?side5 A18.out).mono ?_); (case side1 => repeat (first | (with_reducible first | exact HI487.out | apply IsS103.alloc | apply IsS103.drewN | apply IsS103.drew | apply IsS103.set_1 | refine IsS103.far ?_ NB487_484.out _ | refine IsS103.far ?_ NB487_495.out _) | exact HI487.out)); (case side2 => repeat (first | (with_reducible first | exact HB.out | apply below_alloc | apply pw_below_drewN | apply below_drew1 | refine below_set ?_ (IsS103.ge HI487.out) | refine below_set ?_ GE484.out | refine below_set ?_ GE495.out) | exact HB.out)); (case side3 => exact cq (Kd.R_reads' HO504.out).2.2); (case side4 => exact (Kd.R_reads' HO504.out).2.1); (case side5 => exact far_slice (IsS103.own_ne HI487.out HO504.out (by decide))); rintro e w30 ⟨rfl, hi, hb, hk⟩; refine ⟨_, rfl, ?_⟩; replace HO_496000 := am (Kd.R_mono (Kd.R_keep (IsS103.apart (show IsS103 w _ g487 t485 t501 from by repeat (first | (with_reducible first | exact HI487.out | apply IsS103.alloc | apply IsS103.drewN | apply IsS103.drew | apply IsS103.set_1 | refine IsS103.far ?_ NB487_484.out _ | refine IsS103.far ?_ NB487_495.out _) | exact HI487.out)) (rq HO_496000.out) (by decide)) hk (fun _ h => h.2)) (fun _ h => h.1)); replace HO_496001 := am (Kd.R_mono (Kd.R_keep (IsS103.apart (show IsS103 w _ g487 t485 t501 from by repeat (first | (with_reducible first | exact HI487.out | apply IsS103.alloc | apply IsS103.drewN | apply IsS103.drew | apply IsS103.set_1 | refine IsS103.far ?_ NB487_484.out _ | refine IsS103.far ?_ NB487_495.out _) | exact HI487.out)) (rq HO_496001.out) (by decide)) hk (fun _ h => h.2)) (fun _ h => h.1)); replace BK484 := am (KeepBut.blk hk (g' := gb484) (o := .cells #[.slice none 0 0, .slice none 0 0] 32 (0, 0)) (bq BK484.out) NB484_487.out (by simp)); replace BK495 := am (KeepBut.blk hk (g' := gb495) (o := .cells #[.slice Ao9 t488.length co9, .slice Ao13 t491.length co13] 32 (0, 0)) (bq BK495.out) NB495_487.out (by simp)); replace HO504 := am (Kd.R_mono (Kd.R_keep (IsS103.apart (show IsS103 w _ g487 t485 t501 from by repeat (first | (with_reducible first | exact HI487.out | apply IsS103.alloc | apply IsS103.drewN | apply IsS103.drew | apply IsS103.set_1 | refine IsS103.far ?_ NB487_484.out _ | refine IsS103.far ?_ NB487_495.out _) | exact HI487.out)) (rq HO504.out) (by decide)) hk (fun _ h => h.2)) (fun _ h => h.1)); replace HB := am (hb); replace HI487 := am (hi); (try clear hb); (try clear hb2); (try clear hk); (try clear hi)) | ((with_reducible refine gate_dst (N := 29) rfl ?_); refine Kd.R_lit Kd.string _ 9 ?hg (N := 29) ?hd (xs := ([(⟨#[32]⟩ : ByteArray), (⟨#[44, 32]⟩ : ByteArray), (⟨#[46]⟩ : ByteArray), (⟨#[10]⟩ : ByteArray), (⟨#[39]⟩ : ByteArray)] : List ByteArray)) (inner := [.string (⟨#[32]⟩ : ByteArray), .string (⟨#[44, 32]⟩ : ByteArray), .string (⟨#[46]⟩ : ByteArray), .string (⟨#[10]⟩ : ByteArray), .string (⟨#[39]⟩ : ByteArray)]) (ok := fun _ => True) (okp := fun _ => True) ?hr ?hp (fun _ hk => hk) trivial (Below.refl _ _) (Nat.le_refl _) (by simp) ?_; (case hd => rfl); (case hg => rfl); (case hr => first | (go_simp; done) | (go_simp; rfl)); (case hp => exact (Reps.one (show Kd.M Kd.string _ _ _ (⟨#[32]⟩ : ByteArray) [.string (⟨#[32]⟩ : ByteArray)] from rfl) (Reps.one (show Kd.M Kd.string _ _ _ (⟨#[44, 32]⟩ : ByteArray) [.string (⟨#[44, 32]⟩ : ByteArray)] from rfl) (Reps.one (show Kd.M Kd.string _ _ _ (⟨#[46]⟩ : ByteArray) [.string (⟨#[46]⟩ : ByteArray)] from rfl) (Reps.one (show Kd.M Kd.string _ _ _ (⟨#[10]⟩ : ByteArray) [.string (⟨#[10]⟩ : ByteArray)] from rfl) (Reps.one (show Kd.M Kd.string _ _ _ (⟨#[39]⟩ : ByteArray) [.string (⟨#[39]⟩ : ByteArray)] from rfl) (Reps.none _ _))))))); intro v508 w31 ho32 hb hg_ hnew_; clear hg_ hnew_; (first | rw [← Ny507.out] at ho32 | (simp only [Int.reduceToNat] at ho32; rw [← Ny507.out] at ho32) | (simp only [Int.toNat_natCast] at ho32; rw [← Ny507.out] at ho32)); replace HO_496000 := am (Kd.R_below (rq HO_496000.out) hb); replace HO_496001 := am (Kd.R_below (rq HO_496001.out) hb); have HO509 := am (Kd.R_lower (Kd.R_new' ho32 (Kd.R_lt (rq HO504.out))) (below_size b24_)); replace HO504 := am (Kd.R_elder' (rq HO504.out) (Kd.R_base ho32) hb); replace BK484 := am (blk_below (g := gb484) (o := .cells #[.slice none 0 0, .slice none 0 0] 32 (0, 0)) (bq BK484.out) hb); replace BK495 := am (blk_below (g := gb495) (o := .cells #[.slice Ao9 t488.length co9, .slice Ao13 t491.length co13] 32 (0, 0)) (bq BK495.out) hb); replace HB := am (below_step b24_ hb); replace HI487 := am (IsS103.below b40_ hb); clear hb ho32; obtain ⟨Ao33, co33, eo33⟩ := Kd.R_slice HO509.out; subst eo33) | ((with_reducible refine gate_callee (f := 40) rfl ?_); refine goesL_ (some 30) rfl rfl Tryz.func40 (by kernel_rfl) rfl #[.pointer (some ⟨g487, 0, none⟩), .slice Ao33 y507.length co33] rfl mq ?_; (with_reducible refine (spec_l1Rd_of.calls k1 g487 t485 t506 _ _ y507 t510 t511 w _ ?side1 ?side2 ?side3 ?side4 ?side5 A20.out).mono ?_); (case side1 => repeat (first | (with_reducible first | exact HI487.out | apply IsS103.alloc | apply IsS103.drewN | apply IsS103.drew | apply IsS103.set_1 | refine IsS103.far ?_ NB487_484.out _ | refine IsS103.far ?_ NB487_495.out _) | exact HI487.out)); (case side2 => repeat (first | (with_reducible first | exact HB.out | apply below_alloc | apply pw_below_drewN | apply below_drew1 | refine below_set ?_ (IsS103.ge HI487.out) | refine below_set ?_ GE484.out | refine below_set ?_ GE495.out) | exact HB.out)); (case side3 => exact cq (Kd.R_reads' HO509.out).2.2); (case side4 => exact (Kd.R_reads' HO509.out).2.1); (case side5 => exact far_slice (IsS103.own_ne HI487.out HO509.out (by decide))); rintro e w34 ⟨rfl, hi, hb, hk⟩; refine ⟨_, rfl, ?_⟩; replace HO_496000 := am (Kd.R_mono (Kd.R_keep (IsS103.apart (show IsS103 w _ g487 t485 t506 from by repeat (first | (with_reducible first | exact HI487.out | apply IsS103.alloc | apply IsS103.drewN | apply IsS103.drew | apply IsS103.set_1 | refine IsS103.far ?_ NB487_484.out _ | refine IsS103.far ?_ NB487_495.out _) | exact HI487.out)) (rq HO_496000.out) (by decide)) hk (fun _ h => h.2)) (fun _ h => h.1)); replace HO_496001 := am (Kd.R_mono (Kd.R_keep (IsS103.apart (show IsS103 w _ g487 t485 t506 from by repeat (first | (with_reducible first | exact HI487.out | apply IsS103.alloc | apply IsS103.drewN | apply IsS103.drew | apply IsS103.set_1 | refine IsS103.far ?_ NB487_484.out _ | refine IsS103.far ?_ NB487_495.out _) | exact HI487.out)) (rq HO_496001.out) (by decide)) hk (fun _ h => h.2)) (fun _ h => h.1)); replace BK484 := am (KeepBut.blk hk (g' := gb484) (o := .cells #[.slice none 0 0, .slice none 0 0] 32 (0, 0)) (bq BK484.out) NB484_487.out (by simp)); replace BK495 := am (KeepBut.blk hk (g' := gb495) (o := .cells #[.slice Ao9 t488.length co9, .slice Ao13 t491.length co13] 32 (0, 0)) (bq BK495.out) NB495_487.out (by simp)); replace HO504 := am (Kd.R_mono (Kd.R_keep (IsS103.apart (show IsS103 w _ g487 t485 t506 from by repeat (first | (with_reducible first | exact HI487.out | apply IsS103.alloc | apply IsS103.drewN | apply IsS103.drew | apply IsS103.set_1 | refine IsS103.far ?_ NB487_484.out _ | refine IsS103.far ?_ NB487_495.out _) | exact HI487.out)) (rq HO504.out) (by decide)) hk (fun _ h => h.2)) (fun _ h => h.1)); replace HO509 := am (Kd.R_mono (Kd.R_keep (IsS103.apart (show IsS103 w _ g487 t485 t506 from by repeat (first | (with_reducible first | exact HI487.out | apply IsS103.alloc | apply IsS103.drewN | apply IsS103.drew | apply IsS103.set_1 | refine IsS103.far ?_ NB487_484.out _ | refine IsS103.far ?_ NB487_495.out _) | exact HI487.out)) (rq HO509.out) (by decide)) hk (fun _ h => h.2)) (fun _ h => h.1)); replace HB := am (hb); replace HI487 := am (hi); (try clear hb); (try clear hb2); (try clear hk); (try clear hi)))
    go_roundg k1
    case measure => have := HK1.out; omega
    case rel => exact ⟨((x6_1 ++ t505) ++ t510), (wrap64 (x7_1 - 1)), (t511), sq, sq, H', ⟨b63_⟩, ⟨rq HO_496000.out⟩, ⟨rq HO_496001.out⟩, ⟨bq BK484.out⟩, ⟨bq BK495.out⟩, ⟨b40_⟩, ⟨b24_⟩⟩
   rw [if_neg c15] at H; have c15b0 := decide_eq_false c15; clear c15; replace H := bs H; obtain ⟨⟨t512, t513⟩, A350, H⟩ := H; replace H : (if t512 = 0 then ((spec_l1Rd_pick.f k1 t485 t513 3).bind fun bt514 => ((spec_l1Many.f k1 (⟨#[97, 32]⟩ : ByteArray) (wrap64 (149 + bt514.1))).bind fun t516 => (some (t488, t491, t516)))) else (some (t488, t491, x6_1))) = some (r1, r2, r3) := H; have A35 := Aside0.mk A350; clear A350
   by_cases c36 : t512 = 0
   ·rw [if_pos c36] at H
    have c36b0 : (t512 == 0) = true := beq_iff_eq.mpr c36
    have c36b1 : (t512 != 0) = false := bne_eq_false_iff_eq.mpr c36
    clear c36; replace H := bs H; obtain ⟨⟨t514, t515⟩, A370, H⟩ := H; replace H : ((spec_l1Many.f k1 (⟨#[97, 32]⟩ : ByteArray) (wrap64 (149 + t514))).bind fun t516 => (some (t488, t491, t516))) = some (r1, r2, r3) := H; have A37 := Aside0.mk A370; clear A370; replace H := bs H; obtain ⟨t516, A380, H⟩ := H; replace H : (some (t488, t491, t516)) = some (r1, r2, r3) := H; have A38 := Aside0.mk A380; clear A380
    simp only [Option.some.injEq, Prod.mk.injEq] at H
    obtain ⟨rfl, rfl, rfl⟩ := H
    go_wp2_with (first | ((with_reducible refine gate_callee (f := 39) rfl ?_); refine goesL_ (some 33) rfl rfl Tryz.func39 (by kernel_rfl) rfl #[.pointer (some ⟨g487, 0, none⟩), .int .i64 30] rfl mq ?_; (with_reducible refine (spec_l1Rd_pick.calls k1 g487 t485 x488001_1 30 t512 t513 w _ ?side1 ?side2 A35.out).mono ?_); (case side1 => repeat (first | (with_reducible first | exact HI487.out | apply IsS103.alloc | apply IsS103.drewN | apply IsS103.drew | apply IsS103.set_1 | refine IsS103.far ?_ NB487_484.out _ | refine IsS103.far ?_ NB487_495.out _) | exact HI487.out)); (case side2 => repeat (first | (with_reducible first | exact HB.out | apply below_alloc | apply pw_below_drewN | apply below_drew1 | refine below_set ?_ (IsS103.ge HI487.out) | refine below_set ?_ GE484.out | refine below_set ?_ GE495.out) | exact HB.out)); rintro e w39 ⟨rfl, hi, hb, hk⟩; refine ⟨_, rfl, ?_⟩; replace HO_496000 := am (Kd.R_mono (Kd.R_keep (IsS103.apart (show IsS103 w _ g487 t485 x488001_1 from by repeat (first | (with_reducible first | exact HI487.out | apply IsS103.alloc | apply IsS103.drewN | apply IsS103.drew | apply IsS103.set_1 | refine IsS103.far ?_ NB487_484.out _ | refine IsS103.far ?_ NB487_495.out _) | exact HI487.out)) (rq HO_496000.out) (by decide)) hk (fun _ h => h.2)) (fun _ h => h.1)); replace HO_496001 := am (Kd.R_mono (Kd.R_keep (IsS103.apart (show IsS103 w _ g487 t485 x488001_1 from by repeat (first | (with_reducible first | exact HI487.out | apply IsS103.alloc | apply IsS103.drewN | apply IsS103.drew | apply IsS103.set_1 | refine IsS103.far ?_ NB487_484.out _ | refine IsS103.far ?_ NB487_495.out _) | exact HI487.out)) (rq HO_496001.out) (by decide)) hk (fun _ h => h.2)) (fun _ h => h.1)); replace BK484 := am (KeepBut.blk hk (g' := gb484) (o := .cells #[.slice none 0 0, .slice none 0 0] 32 (0, 0)) (bq BK484.out) NB484_487.out (by simp)); replace BK495 := am (KeepBut.blk hk (g' := gb495) (o := .cells #[.slice Ao9 t488.length co9, .slice Ao13 t491.length co13] 32 (0, 0)) (bq BK495.out) NB495_487.out (by simp)); replace HB := am (hb); replace HI487 := am (hi); (try clear hb); (try clear hb2); (try clear hk); (try clear hi)) | ((with_reducible refine gate_callee (f := 39) rfl ?_); refine goesL_ (some 36) rfl rfl Tryz.func39 (by kernel_rfl) rfl #[.pointer (some ⟨g487, 0, none⟩), .int .i64 3] rfl mq ?_; (with_reducible refine (spec_l1Rd_pick.calls k1 g487 t485 t513 3 t514 t515 w _ ?side1 ?side2 A37.out).mono ?_); (case side1 => repeat (first | (with_reducible first | exact HI487.out | apply IsS103.alloc | apply IsS103.drewN | apply IsS103.drew | apply IsS103.set_1 | refine IsS103.far ?_ NB487_484.out _ | refine IsS103.far ?_ NB487_495.out _) | exact HI487.out)); (case side2 => repeat (first | (with_reducible first | exact HB.out | apply below_alloc | apply pw_below_drewN | apply below_drew1 | refine below_set ?_ (IsS103.ge HI487.out) | refine below_set ?_ GE484.out | refine below_set ?_ GE495.out) | exact HB.out)); rintro e w40 ⟨rfl, hi, hb, hk⟩; refine ⟨_, rfl, ?_⟩; replace HO_496000 := am (Kd.R_mono (Kd.R_keep (IsS103.apart (show IsS103 w _ g487 t485 t513 from by repeat (first | (with_reducible first | exact HI487.out | apply IsS103.alloc | apply IsS103.drewN | apply IsS103.drew | apply IsS103.set_1 | refine IsS103.far ?_ NB487_484.out _ | refine IsS103.far ?_ NB487_495.out _) | exact HI487.out)) (rq HO_496000.out) (by decide)) hk (fun _ h => h.2)) (fun _ h => h.1)); replace HO_496001 := am (Kd.R_mono (Kd.R_keep (IsS103.apart (show IsS103 w _ g487 t485 t513 from by repeat (first | (with_reducible first | exact HI487.out | apply IsS103.alloc | apply IsS103.drewN | apply IsS103.drew | apply IsS103.set_1 | refine IsS103.far ?_ NB487_484.out _ | refine IsS103.far ?_ NB487_495.out _) | exact HI487.out)) (rq HO_496001.out) (by decide)) hk (fun _ h => h.2)) (fun _ h => h.1)); replace BK484 := am (KeepBut.blk hk (g' := gb484) (o := .cells #[.slice none 0 0, .slice none 0 0] 32 (0, 0)) (bq BK484.out) NB484_487.out (by simp)); replace BK495 := am (KeepBut.blk hk (g' := gb495) (o := .cells #[.slice Ao9 t488.length co9, .slice Ao13 t491.length co13] 32 (0, 0)) (bq BK495.out) NB495_487.out (by simp)); replace HB := am (hb); replace HI487 := am (hi); (try clear hb); (try clear hb2); (try clear hk); (try clear hi)) | ((with_reducible refine gate_callee (f := 43) rfl ?_); refine goesL_ (some 38) rfl rfl Tryz.func43 (by kernel_rfl) rfl #[.string (⟨#[97, 32]⟩ : ByteArray), .int .i64 (wrap64 (149 + t514))] rfl mq ?_; (with_reducible refine (spec_l1Many.calls k1 (⟨#[97, 32]⟩ : ByteArray) (wrap64 (149 + t514)) t516 _ A38.out).mono ?_); rintro e w' ⟨rfl, ⟨nd, rfl⟩⟩; refine ⟨_, rfl, ?_⟩; (try (rw [drewN_self w40]; generalize hq_ : World.drewN w40 _ = w40; have n0_ : Aside0 (Kd.R k82 82 w40 w.heap.size (fun _ => True) (.slice Ao9 t488.length co9) t488) := ⟨by rw [← hq_]; exact (rq HO_496000.out)⟩; have n1_ : Aside0 (Kd.R k78 78 w40 w.heap.size (fun _ => True) (.slice Ao13 t491.length co13) t491) := ⟨by rw [← hq_]; exact (rq HO_496001.out)⟩; have n2_ : Aside0 (w40.heap[gb484]? = some (.cells #[.slice none 0 0, .slice none 0 0] 32 (0, 0))) := ⟨by rw [← hq_]; exact (bq BK484.out)⟩; have n3_ : Aside0 (w40.heap[gb495]? = some (.cells #[.slice Ao9 t488.length co9, .slice Ao13 t491.length co13] 32 (0, 0))) := ⟨by rw [← hq_]; exact (bq BK495.out)⟩; have n4_ : Aside0 (IsS103 w w40 g487 t485 t515) := ⟨by rw [← hq_]; exact b40_⟩; have n5_ : Aside0 (Below w.heap.size w w40) := ⟨by rw [← hq_]; exact b24_⟩; clear HO_496000 HO_496001 BK484 BK495 HI487 HB hq_; have HO_496000 := n0_; have HO_496001 := n1_; have BK484 := n2_; have BK495 := n3_; have HI487 := n4_; have HB := n5_; clear n0_ n1_ n2_ n3_ n4_ n5_)); have hnb41 := NB495_484.out; have hnc41 := NB484_495.out; have hnb42 := NB495_487.out; have hnc42 := NB487_495.out; have hcz43_0 := bc BK495.out 0; have hcz43_1 := bc BK495.out 1; have hfz43_0 := bf BK495.out 0; have hfz43_1 := bf BK495.out 1; have hnb44 := NB484_487.out; have hnc44 := NB487_484.out; have hcz45_0 := bc BK484.out 0; have hcz45_1 := bc BK484.out 1; have hfz45_0 := bf BK484.out 0; have hfz45_1 := bf BK484.out 1))
    refine bodyPost_ret (results_ct rfl _ _ gb484 32 #[.slice Ao9 t488.length co9, .slice Ao13 t491.length co13] (0, 0) _ rfl b48_ Tryz.underlying32 rfl (by kernel_rfl)) rfl ?_
    exact ⟨_, _, eq_, b54_, b55_, b24_⟩
   rw [if_neg c36] at H
   have c36b0 : (t512 == 0) = false := beq_eq_false_iff_ne.mpr c36
   have c36b1 : (t512 != 0) = true := bne_iff_ne.mpr c36
   simp only [Option.some.injEq, Prod.mk.injEq] at H
   obtain ⟨rfl, rfl, rfl⟩ := H
   go_wp2_with (first | ((with_reducible refine gate_callee (f := 39) rfl ?_); refine goesL_ (some 33) rfl rfl Tryz.func39 (by kernel_rfl) rfl #[.pointer (some ⟨g487, 0, none⟩), .int .i64 30] rfl mq ?_; (with_reducible refine (spec_l1Rd_pick.calls k1 g487 t485 x488001_1 30 t512 t513 w _ ?side1 ?side2 A35.out).mono ?_); (case side1 => repeat (first | (with_reducible first | exact HI487.out | apply IsS103.alloc | apply IsS103.drewN | apply IsS103.drew | apply IsS103.set_1 | refine IsS103.far ?_ NB487_484.out _ | refine IsS103.far ?_ NB487_495.out _) | exact HI487.out)); (case side2 => repeat (first | (with_reducible first | exact HB.out | apply below_alloc | apply pw_below_drewN | apply below_drew1 | refine below_set ?_ (IsS103.ge HI487.out) | refine below_set ?_ GE484.out | refine below_set ?_ GE495.out) | exact HB.out)); rintro e w46 ⟨rfl, hi, hb, hk⟩; refine ⟨_, rfl, ?_⟩; replace HO_496000 := am (Kd.R_mono (Kd.R_keep (IsS103.apart (show IsS103 w _ g487 t485 x488001_1 from by repeat (first | (with_reducible first | exact HI487.out | apply IsS103.alloc | apply IsS103.drewN | apply IsS103.drew | apply IsS103.set_1 | refine IsS103.far ?_ NB487_484.out _ | refine IsS103.far ?_ NB487_495.out _) | exact HI487.out)) (rq HO_496000.out) (by decide)) hk (fun _ h => h.2)) (fun _ h => h.1)); replace HO_496001 := am (Kd.R_mono (Kd.R_keep (IsS103.apart (show IsS103 w _ g487 t485 x488001_1 from by repeat (first | (with_reducible first | exact HI487.out | apply IsS103.alloc | apply IsS103.drewN | apply IsS103.drew | apply IsS103.set_1 | refine IsS103.far ?_ NB487_484.out _ | refine IsS103.far ?_ NB487_495.out _) | exact HI487.out)) (rq HO_496001.out) (by decide)) hk (fun _ h => h.2)) (fun _ h => h.1)); replace BK484 := am (KeepBut.blk hk (g' := gb484) (o := .cells #[.slice none 0 0, .slice none 0 0] 32 (0, 0)) (bq BK484.out) NB484_487.out (by simp)); replace BK495 := am (KeepBut.blk hk (g' := gb495) (o := .cells #[.slice Ao9 t488.length co9, .slice Ao13 t491.length co13] 32 (0, 0)) (bq BK495.out) NB495_487.out (by simp)); replace HB := am (hb); replace HI487 := am (hi); (try clear hb); (try clear hb2); (try clear hk); (try clear hi); have hnb47 := NB495_484.out; have hnc47 := NB484_495.out; have hnb48 := NB495_487.out; have hnc48 := NB487_495.out; have hcz49_0 := bc BK495.out 0; have hcz49_1 := bc BK495.out 1; have hfz49_0 := bf BK495.out 0; have hfz49_1 := bf BK495.out 1; have hnb50 := NB484_487.out; have hnc50 := NB487_484.out; have hcz51_0 := bc BK484.out 0; have hcz51_1 := bc BK484.out 1; have hfz51_0 := bf BK484.out 0; have hfz51_1 := bf BK484.out 1))
   refine bodyPost_ret (results_ct rfl _ _ gb484 32 #[.slice Ao9 t488.length co9, .slice Ao13 t491.length co13] (0, 0) _ rfl b48_ Tryz.underlying32 rfl (by kernel_rfl)) rfl ?_
   exact ⟨_, _, eq_, b54_, b55_, b24_⟩

/-! ### laws_mdGuesses: function 15 -/
def laws_mdGuesses.l0 : Nat → List (S43) → List (S43) → Int → Option (Bool)
 | 0, _, _, _ => none
 | k + 1, x0, x1, x5 => if x5 < (x0.length : Int) then (if 0 ≤ x5 then (if x5 < (x1.length : Int) then (if (!((((rd_T43 x0 x5).f0).toList) == (((rd_T43 x1 x5).f0).toList)) || (!(((rd_T43 x0 x5).f1) == ((rd_T43 x1 x5).f1)))) = true then (some false) else (laws_mdGuesses.l0 k x0 x1 (wrap64 (x5 + 1)))) else (none)) else (none)) else (some true)
def laws_mdGuesses.f (k : Nat) (l0 : List (S43)) (l1 : List (S43)) : Option (Bool) := if (l0.length : Int) = (l1.length : Int) then (laws_mdGuesses.l0 k l0 l1 0) else (some false)
theorem laws_mdGuesses.calls (k : Nat) (A0 : Option Addr) (c0 : Nat) (l0 : List (S43)) (A1 : Option Addr) (c1 : Nat) (l1 : List (S43)) (r : Bool) (w : World) (hr0 : Kd.C k43 w A0 l0.length l0) (hc0 : l0.length ≤ c0) (hr1 : Kd.C k43 w A1 l1.length l1) (hc1 : l1.length ≤ c1) (h : laws_mdGuesses.f k l0 l1 = some r) :
  Calls Tryz.prog 15 #[.slice A0 l0.length c0, .slice A1 l1.length c1] w fun e w' => e = .returned (.bool r) ∧ Drawn0 w w' := by
 have hu43 := Tryz.underlying43; have HR0 := am hr0; have HC0 := am hc0; clear hr0 hc0; have HR1 := am hr1; have HC1 := am hc1; clear hr1 hc1
 have H : (if (l0.length : Int) = (l1.length : Int) then (laws_mdGuesses.l0 k l0 l1 0) else (some false)) = some r := h
 clear h
 by_cases c3 : (l0.length : Int) = (l1.length : Int)
 ·rw [if_pos c3] at H
  have c3b0 : ((l0.length : Int) == (l1.length : Int)) = true := beq_iff_eq.mpr c3
  have c3b1 : ((l0.length : Int) != (l1.length : Int)) = false := bne_eq_false_iff_eq.mpr c3
  have c3b2 : (l0.length == l1.length) = true := by first | simpa using c3 | (simp at c3 ⊢; omega)
  clear c3
  have H' := am H
  clear H; go_enter Tryz.func15, Tryz.ntmps15; go_wp2
  repeat (go_quiet (fail); try go_wp2)
  go_loopg [5] k (fun kq v5 w' => ∃ (x5_1 : Int), v5 = .int .i64 x5_1 ∧ Aside0 (laws_mdGuesses.l0 kq l0 l1 x5_1 = some r) ∧ Aside0 (kq ≤ k) ∧ Drawn0 w w')
  case atStart => exact ⟨(0), sq, H', ⟨Nat.le_refl _⟩, dr⟩
  case round =>
   clear H'; (try clear c1); (try clear p2); (try clear c3); (try clear c3b0); (try clear c3b1); (try clear c3b2); obtain ⟨x5_1, rfl, HA, HK1, ⟨m1, rfl⟩⟩ := hrel
   cases gk with
   | zero => exact absurd HA.out (by simp [laws_mdGuesses.l0])
   | succ k1 =>
    have H := HA.out; clear HA
    simp only [laws_mdGuesses.l0] at H
    by_cases c4 : x5_1 < (l0.length : Int)
    ·rw [if_pos c4] at H; have c4b0 := decide_eq_true c4; clear c4
     replace H := it H; obtain ⟨c5b0, H⟩ := H
     replace H := it H; obtain ⟨c6b0, H⟩ := H
     by_cases c7 : (!((((rd_T43 l0 x5_1).f0).toList) == (((rd_T43 l1 x5_1).f0).toList)) || (!(((rd_T43 l0 x5_1).f1) == ((rd_T43 l1 x5_1).f1)))) = true
     ·rw [if_pos c7] at H
      have c7b0 : (!((((rd_T43 l0 x5_1).f0).toList) == (((rd_T43 l1 x5_1).f0).toList)) || (!(((rd_T43 l0 x5_1).f1) == ((rd_T43 l1 x5_1).f1)))) = true := c7
      clear c7; obtain rfl := Option.some.inj H
      have p517 : 0 ≤ (x5_1 : Int) := of_decide_eq_true ad
      have q517 : x5_1 < (l0.length : Int) := of_decide_eq_true ad
      obtain ⟨ad517, e517, hx517_0, hx517_1⟩ := at_T43 HR0.out x5_1 p517 q517
      cases e517
      replace p517 := eq_true p517; replace q517 := eq_true q517
      have p518 : 0 ≤ (x5_1 : Int) := of_decide_eq_true ad
      have q518 : x5_1 < (l1.length : Int) := of_decide_eq_true ad
      obtain ⟨ad518, e518, hx518_0, hx518_1⟩ := at_T43 HR1.out x5_1 p518 q518
      cases e518
      replace p518 := eq_true p518; replace q518 := eq_true q518; go_wp2
      repeat (go_quiet (fail); try go_wp2)
      go_ret
      exact ⟨sq, dr⟩
     rw [if_neg c7] at H
     have c7b0 : (!((((rd_T43 l0 x5_1).f0).toList) == (((rd_T43 l1 x5_1).f0).toList)) || (!(((rd_T43 l0 x5_1).f1) == ((rd_T43 l1 x5_1).f1)))) = false := by simpa using c7
     clear c7
     have H' := am H
     clear H
     have p517 : 0 ≤ (x5_1 : Int) := of_decide_eq_true ad
     have q517 : x5_1 < (l0.length : Int) := of_decide_eq_true ad
     obtain ⟨ad517, e517, hx517_0, hx517_1⟩ := at_T43 HR0.out x5_1 p517 q517
     cases e517
     replace p517 := eq_true p517; replace q517 := eq_true q517
     have p518 : 0 ≤ (x5_1 : Int) := of_decide_eq_true ad
     have q518 : x5_1 < (l1.length : Int) := of_decide_eq_true ad
     obtain ⟨ad518, e518, hx518_0, hx518_1⟩ := at_T43 HR1.out x5_1 p518 q518
     cases e518
     replace p518 := eq_true p518; replace q518 := eq_true q518; go_wp2
     repeat (go_quiet (fail); try go_wp2)
     go_roundg k1
     case measure => have := HK1.out; omega
     case rel => exact ⟨(wrap64 (x5_1 + 1)), sq, H', ⟨b63_⟩, dr⟩
    rw [if_neg c4] at H; have c4b0 := decide_eq_false c4; clear c4; obtain rfl := Option.some.inj H; go_wp2
    repeat (go_quiet (fail); try go_wp2)
    go_ret
    exact ⟨sq, dr⟩
 rw [if_neg c3] at H
 have c3b0 : ((l0.length : Int) == (l1.length : Int)) = false := beq_eq_false_iff_ne.mpr c3
 have c3b1 : ((l0.length : Int) != (l1.length : Int)) = true := bne_iff_ne.mpr c3
 have c3b2 : (l0.length == l1.length) = false := by first | simpa using c3 | (simp at c3 ⊢; omega)
 obtain rfl := Option.some.inj H; go_enter Tryz.func15, Tryz.ntmps15; go_wp2
 repeat (go_quiet (fail); try go_wp2)
 go_ret
 exact ⟨sq, dr⟩

/-! ### impl_BookKnows: function 16 -/
def impl_BookKnows.f (k : Nat) (l0_0 : List (S82)) (l0_1 : List (S78)) (a1 : ByteArray) : Option (Bool) := (impl_BookOk.f k l0_0 l0_1).bind fun t520 => (if t520 = true then ((impl_Book_words.f k l0_0 l0_1).bind fun t521 => ((slices_Contains_string_string.f k t521 a1).bind fun t524 => (some t524))) else (some false))
theorem impl_BookKnows.calls (k : Nat) (A0_0 : Option Addr) (c0_0 : Nat) (l0_0 : List (S82)) (A0_1 : Option Addr) (c0_1 : Nat) (l0_1 : List (S78)) (a1 : ByteArray) (r : Bool) (w : World) (hr0_0 : Kd.C k82 w A0_0 l0_0.length l0_0) (hc0_0 : l0_0.length ≤ c0_0) (hr0_1 : Kd.C k78 w A0_1 l0_1.length l0_1) (hc0_1 : l0_1.length ≤ c0_1) (h : impl_BookKnows.f k l0_0 l0_1 a1 = some r) :
  Calls Tryz.prog 16 #[.agg #[.slice A0_0 l0_0.length c0_0, .slice A0_1 l0_1.length c0_1], .string a1] w fun e w' => e = .returned (.bool r) ∧ Below w.heap.size w w' := by
 have hu32 := Tryz.underlying32; have HR0_0 := am hr0_0; have HC0_0 := am hc0_0; clear hr0_0 hc0_0; have HR0_1 := am hr0_1; have HC0_1 := am hc0_1; clear hr0_1 hc0_1; have HB := am (Below.refl w.heap.size w)
 have H : ((impl_BookOk.f k l0_0 l0_1).bind fun t520 => (if t520 = true then ((impl_Book_words.f k l0_0 l0_1).bind fun t521 => ((slices_Contains_string_string.f k t521 a1).bind fun t524 => (some t524))) else (some false))) = some r := h
 clear h; replace H := bs H; obtain ⟨t520, A30, H⟩ := H; replace H : (if t520 = true then ((impl_Book_words.f k l0_0 l0_1).bind fun t521 => ((slices_Contains_string_string.f k t521 a1).bind fun t524 => (some t524))) else (some false)) = some r := H; have A3 := Aside0.mk A30; clear A30
 by_cases c4 : t520 = true
 ·subst c4
  have H1 : ((impl_Book_words.f k l0_0 l0_1).bind fun t521 => ((slices_Contains_string_string.f k t521 a1).bind fun t524 => (some t524))) = some r := b32_
  replace H := H1; clear H1
  replace H := bs H; obtain ⟨t521, A50, H⟩ := H; replace H : ((slices_Contains_string_string.f k t521 a1).bind fun t524 => (some t524)) = some r := H; have A5 := Aside0.mk A50; clear A50; replace H := bs H; obtain ⟨t524, A60, H⟩ := H; replace H : (some t524) = some r := H; have A6 := Aside0.mk A60; clear A60; obtain rfl := Option.some.inj H; go_enter Tryz.func16, Tryz.ntmps16
  go_wp2_with (first | ((with_reducible refine gate_dst (N := 2) rfl ?_); refine bx 2 (cs := #[.slice A0_0 l0_0.length c0_0, .slice A0_1 l0_1.length c0_1]) (t := 32) ?_; intro gb519 hg w7 hbox hb; have BK519 := am (hbox); have GW519 := am ((b19_ : w.heap.size ≤ gb519)); have GE519 := am ((b19_ : w.heap.size ≤ gb519)); replace HB := am (below_step bel hb); clear hb hbox hg; have hcz8_0 := bc BK519.out 0; have hcz8_1 := bc BK519.out 1; have hfz8_0 := bf BK519.out 0; have hfz8_1 := bf BK519.out 1) | ((with_reducible refine gate_callee (f := 26) rfl ?_); refine goesL_ (some 6) rfl rfl Tryz.func26 (by kernel_rfl) rfl #[.agg #[.slice A0_0 l0_0.length c0_0, .slice A0_1 l0_1.length c0_1]] rfl mq ?_; (with_reducible refine (impl_BookOk.calls k _ _ l0_0 _ _ l0_1 true _ ?side1 ?side2 ?side3 ?side4 A3.out).mono ?_); (case side1 => exact cq (Kd.C_below HR0_0.out HB.out)); (case side2 => exact HC0_0.out); (case side3 => exact cq (Kd.C_below HR0_1.out HB.out)); (case side4 => exact HC0_1.out); rintro e w9 ⟨rfl, hb⟩; refine ⟨_, rfl, ?_⟩; replace BK519 := am (blk_below (g := gb519) (o := .cells #[.slice A0_0 l0_0.length c0_0, .slice A0_1 l0_1.length c0_1] 32 (0, 0)) (bq BK519.out) hb); replace HB := am (below_step (bel1 GE519.out) hb); (try clear hb); (try clear hb2); (try clear hk); (try clear hi); have hcz10_0 := bc BK519.out 0; have hcz10_1 := bc BK519.out 1; have hfz10_0 := bf BK519.out 0; have hfz10_1 := bf BK519.out 1) | (go_at_call 27; (with_reducible refine (impl_Book_words.calls k _ _ l0_0 _ _ l0_1 t521 _ ?side1 ?side2 ?side3 ?side4 A5.out).mono ?_); (case side1 => exact cq (Kd.C_below HR0_0.out HB.out)); (case side2 => exact HC0_0.out); (case side3 => exact cq (Kd.C_below HR0_1.out HB.out)); (case side4 => exact HC0_1.out); rintro e w11 ⟨v522, rfl, ho0, hb⟩; have HO523 := am (Kd.R_lower ho0 (below_size (bel1 GE519.out))); replace BK519 := am (blk_below (g := gb519) (o := .cells #[.slice A0_0 l0_0.length c0_0, .slice A0_1 l0_1.length c0_1] 32 (0, 0)) (bq BK519.out) hb); replace HB := am (below_step (bel1 GE519.out) hb); (try clear hb); (try clear hb2); (try clear hk); (try clear hi); (try clear ho0); obtain ⟨Ao12, co12, eo12⟩ := Kd.R_slice HO523.out; subst eo12) | (go_at_call 30; (with_reducible refine (slices_Contains_string_string.calls k _ _ t521 a1 t524 _ ?side1 ?side2 A6.out).mono ?_); (case side1 => exact cq (Kd.R_reads' HO523.out).2.2); (case side2 => exact (Kd.R_reads' HO523.out).2.1); rintro e w' ⟨rfl, ⟨nd, rfl⟩⟩))
  go_ret
  exact ⟨eq_, bel1 GE519.out⟩
 replace c4 := Bool.eq_false_iff.mpr c4; subst c4
 have H1 : (some false) = some r := b13_
 replace H := H1; clear H1
 obtain rfl := Option.some.inj H; go_enter Tryz.func16, Tryz.ntmps16
 go_wp2_with (first | ((with_reducible refine gate_dst (N := 2) rfl ?_); refine bx 2 (cs := #[.slice A0_0 l0_0.length c0_0, .slice A0_1 l0_1.length c0_1]) (t := 32) ?_; intro gb519 hg w13 hbox hb; have BK519 := am (hbox); have GW519 := am ((b19_ : w.heap.size ≤ gb519)); have GE519 := am ((b19_ : w.heap.size ≤ gb519)); replace HB := am (below_step bel hb); clear hb hbox hg; have hcz14_0 := bc BK519.out 0; have hcz14_1 := bc BK519.out 1; have hfz14_0 := bf BK519.out 0; have hfz14_1 := bf BK519.out 1) | ((with_reducible refine gate_callee (f := 26) rfl ?_); refine goesL_ (some 6) rfl rfl Tryz.func26 (by kernel_rfl) rfl #[.agg #[.slice A0_0 l0_0.length c0_0, .slice A0_1 l0_1.length c0_1]] rfl mq ?_; (with_reducible refine (impl_BookOk.calls k _ _ l0_0 _ _ l0_1 false _ ?side1 ?side2 ?side3 ?side4 A3.out).mono ?_); (case side1 => exact cq (Kd.C_below HR0_0.out HB.out)); (case side2 => exact HC0_0.out); (case side3 => exact cq (Kd.C_below HR0_1.out HB.out)); (case side4 => exact HC0_1.out); rintro e w15 ⟨rfl, hb⟩; refine ⟨_, rfl, ?_⟩; replace BK519 := am (blk_below (g := gb519) (o := .cells #[.slice A0_0 l0_0.length c0_0, .slice A0_1 l0_1.length c0_1] 32 (0, 0)) (bq BK519.out) hb); replace HB := am (below_step (bel1 GE519.out) hb); (try clear hb); (try clear hb2); (try clear hk); (try clear hi)))
 go_ret
 exact ⟨eq_, bel1 GE519.out⟩
-- shrunk

/-! ### laws_FnCheck: function 4 -/
mutual
def laws_FnCheck.l0 : Nat → ByteArray → List (S43) → Int → List (S82) → List (S78) → Option (Bool)
 | 0, _, _, _, _, _ => none
 | k + 1, x4, x5, x6, x533000, x533001 => if x6 < (x5.length : Int) then (if 0 ≤ x6 then (if ((rd_T43 x5 x6).f1) < 0 then (laws_FnCheck.j1 k x4 x5 x6 ((rd_T43 x5 x6).f1) (wrap64 (((rd_T43 x5 x6).f1) + (((rd_T43 x5 x6).f0).size : Int))) true x533000 x533001) else (if (wrap64 (((rd_T43 x5 x6).f1) + (((rd_T43 x5 x6).f0).size : Int))) > (x4.size : Int) then (laws_FnCheck.j1 k x4 x5 x6 ((rd_T43 x5 x6).f1) (wrap64 (((rd_T43 x5 x6).f1) + (((rd_T43 x5 x6).f0).size : Int))) true x533000 x533001) else ((impl_BookKnows.f k x533000 x533001 ((rd_T43 x5 x6).f0)).bind fun t543 => (if t543 = true then (laws_FnCheck.j1 k x4 x5 x6 ((rd_T43 x5 x6).f1) (wrap64 (((rd_T43 x5 x6).f1) + (((rd_T43 x5 x6).f0).size : Int))) true x533000 x533001) else (if x6 > 0 then (if 0 ≤ (wrap64 (x6 - 1)) then (if (wrap64 (x6 - 1)) < (x5.length : Int) then (laws_FnCheck.j1 k x4 x5 x6 ((rd_T43 x5 x6).f1) (wrap64 (((rd_T43 x5 x6).f1) + (((rd_T43 x5 x6).f0).size : Int))) (decide (((rd_T43 x5 (wrap64 (x6 - 1))).f1) ≥ ((rd_T43 x5 x6).f1))) x533000 x533001) else (none)) else (none)) else (laws_FnCheck.j1 k x4 x5 x6 ((rd_T43 x5 x6).f1) (wrap64 (((rd_T43 x5 x6).f1) + (((rd_T43 x5 x6).f0).size : Int))) false x533000 x533001)))))) else (none)) else (some true)
def laws_FnCheck.j1 : Nat → ByteArray → List (S43) → Int → Int → Int → Bool → List (S82) → List (S78) → Option (Bool)
 | 0, _, _, _, _, _, _, _, _ => none
 | k + 1, x4, x5, x6, x7, x8, x77, x533000, x533001 => if x77 = true then (some false) else (laws_FnCheck.l1 k x4 x5 x6 x7 x8 x7 x533000 x533001)
def laws_FnCheck.l1 : Nat → ByteArray → List (S43) → Int → Int → Int → Int → List (S82) → List (S78) → Option (Bool)
 | 0, _, _, _, _, _, _, _, _ => none
 | k + 1, x4, x5, x6, x7, x8, x9, x533000, x533001 => if x9 < x8 then (if 0 ≤ x9 then (if x9 < (x4.size : Int) then (if (bt x4 x9) ≥ 65 then (laws_FnCheck.j3 k x4 x5 x6 x7 x8 x9 (bt x4 x9) (decide ((bt x4 x9) ≤ 90)) x533000 x533001) else (laws_FnCheck.j3 k x4 x5 x6 x7 x8 x9 (bt x4 x9) false x533000 x533001)) else (none)) else (none)) else (laws_FnCheck.l0 k x4 x5 (wrap64 (x6 + 1)) x533000 x533001)
def laws_FnCheck.j3 : Nat → ByteArray → List (S43) → Int → Int → Int → Int → Int → Bool → List (S82) → List (S78) → Option (Bool)
 | 0, _, _, _, _, _, _, _, _, _, _ => none
 | k + 1, x4, x5, x6, x7, x8, x9, x10, x92, x533000, x533001 => if x92 = true then (if 0 ≤ x6 then (if x6 < (x5.length : Int) then (if 0 ≤ (wrap64 (x9 - x7)) then (if (wrap64 (x9 - x7)) < (((rd_T43 x5 x6).f0).size : Int) then (if (bt ((rd_T43 x5 x6).f0) (wrap64 (x9 - x7))) = ((x10 + 32) % 256) then (laws_FnCheck.l1 k x4 x5 x6 x7 x8 (wrap64 (x9 + 1)) x533000 x533001) else (some false)) else (none)) else (none)) else (none)) else (none)) else (if 0 ≤ x6 then (if x6 < (x5.length : Int) then (if 0 ≤ (wrap64 (x9 - x7)) then (if (wrap64 (x9 - x7)) < (((rd_T43 x5 x6).f0).size : Int) then (if (bt ((rd_T43 x5 x6).f0) (wrap64 (x9 - x7))) = x10 then (laws_FnCheck.l1 k x4 x5 x6 x7 x8 (wrap64 (x9 + 1)) x533000 x533001) else (some false)) else (none)) else (none)) else (none)) else (none))
end
def laws_FnCheck.f (k : Nat) (l0 : List Int) : Option (Bool) := if (l0.length : Int) > 1048576 then (some true) else ((spec_DrawCheck.f k l0).bind fun bt525 => ((impl_Check.f k bt525.1 bt525.2.1 bt525.2.2).bind fun t533 => ((spec_Check.f k bt525.1 bt525.2.1 bt525.2.2).bind fun t536 => ((laws_mdGuesses.f k t533 t536).bind fun t539 => (if t539 = true then (laws_FnCheck.l0 k bt525.2.2 t533 0 bt525.1 bt525.2.1) else (some false))))))
def laws_FnCheck.T12 : Bool × List (List Nat × List Nat) := (true, [([], []), ([0], [0]), ([1], [1]), ([2], [2]), ([2], [2]), ([4, 2], [2, 4]), ([3, 5, 2], [2, 3, 5]), ([2, 6], [2, 6]), ([7, 2], [7]), ([8], [8]), ([8], [8]), ([8], [8]), ([10, 11, 8], [8, 10, 11]), ([12, 8], [8, 12]), ([13, 8], [8, 13]), ([9, 14, 8, 8], [8, 9, 14]), ([8, 15], [8, 15]), ([16, 15], [16]), ([17], [17]), ([18, 17], [17, 18]), ([19, 17, 17], [17, 19]), ([20], [20]), ([20], [20]), ([22, 20], [20, 22]), ([21, 23, 20], [20, 21, 23]), ([24, 20], [20, 24]), ([25, 20], [20, 25]), ([20], [20]), ([26, 27, 20], [20, 26, 27]), ([20, 28, 17], [17, 20, 28]), ([17, 29], [17, 29])])
def laws_FnCheck.B12 : List Nat := [0, 1, 3, 7, 7, 23, 63, 127, 255, 511, 511, 511, 3583, 7679, 15871, 32767, 65535, 131071, 262143, 524287, 1048575, 2097151, 2097151, 6291455, 16777215, 33554431, 67108863, 2097151, 268435455, 536870911, 1073741823]
theorem laws_FnCheck.tab12 : rtab .any (opsOf Tryz.f4 12) = laws_FnCheck.T12 := by kernel_rfl
theorem laws_FnCheck.bits12 : waitsOk laws_FnCheck.T12.2 laws_FnCheck.B12 = true := by kernel_rfl
theorem laws_FnCheck.calls (k : Nat) (A0 : Option Addr) (c0 : Nat) (l0 : List Int) (r : Bool) (w : World) (hr0 : Kd.C (Kd.int .u8) w A0 l0.length l0) (hc0 : l0.length ≤ c0) (h : laws_FnCheck.f k l0 = some r) :
  Calls Tryz.prog 4 #[.slice A0 l0.length c0] w fun e w' => e = .returned (.bool r) ∧ Below w.heap.size w w' := by
 have hu32 := Tryz.underlying32; have HR0 := am hr0; have HC0 := am hc0; clear hr0 hc0; have HB := am (Below.refl w.heap.size w)
 have H : (if (l0.length : Int) > 1048576 then (some true) else ((spec_DrawCheck.f k l0).bind fun bt525 => ((impl_Check.f k bt525.1 bt525.2.1 bt525.2.2).bind fun t533 => ((spec_Check.f k bt525.1 bt525.2.1 bt525.2.2).bind fun t536 => ((laws_mdGuesses.f k t533 t536).bind fun t539 => (if t539 = true then (laws_FnCheck.l0 k bt525.2.2 t533 0 bt525.1 bt525.2.1) else (some false))))))) = some r := h
 clear h
 by_cases c2 : (l0.length : Int) > 1048576
 ·rw [if_pos c2] at H; have c2b0 := decide_eq_true c2
  have c2b1 : decide (1048576 < l0.length) = true := decide_eq_true (by omega)
  clear c2; obtain rfl := Option.some.inj H; go_enter Tryz.func4, Tryz.ntmps4; go_wp2; go_ret
  exact ⟨eq_, bel⟩
 rw [if_neg c2] at H; have c2b0 := decide_eq_false c2
 have c2b1 : decide (1048576 < l0.length) = false := decide_eq_false (by omega)
 clear c2; replace H := bs H; obtain ⟨⟨t525, t528, t531⟩, A30, H⟩ := H; replace H : ((impl_Check.f k t525 t528 t531).bind fun t533 => ((spec_Check.f k t525 t528 t531).bind fun t536 => ((laws_mdGuesses.f k t533 t536).bind fun t539 => (if t539 = true then (laws_FnCheck.l0 k t531 t533 0 t525 t528) else (some false))))) = some r := H; have A3 := Aside0.mk A30; clear A30; replace H := bs H; obtain ⟨t533, A40, H⟩ := H; replace H : ((spec_Check.f k t525 t528 t531).bind fun t536 => ((laws_mdGuesses.f k t533 t536).bind fun t539 => (if t539 = true then (laws_FnCheck.l0 k t531 t533 0 t525 t528) else (some false)))) = some r := H; have A4 := Aside0.mk A40; clear A40; replace H := bs H; obtain ⟨t536, A50, H⟩ := H; replace H : ((laws_mdGuesses.f k t533 t536).bind fun t539 => (if t539 = true then (laws_FnCheck.l0 k t531 t533 0 t525 t528) else (some false))) = some r := H; have A5 := Aside0.mk A50; clear A50; replace H := bs H; obtain ⟨t539, A60, H⟩ := H; replace H : (if t539 = true then (laws_FnCheck.l0 k t531 t533 0 t525 t528) else (some false)) = some r := H; have A6 := Aside0.mk A60; clear A60
 by_cases c7 : t539 = true
 ·subst c7
  have H1 : (laws_FnCheck.l0 k t531 t533 0 t525 t528) = some r := b32_
  replace H := H1; clear H1
  have H' := am H
  clear H; go_enter Tryz.func4, Tryz.ntmps4
  go_wp2_with (first | ((with_reducible refine gate_callee (f := 14) rfl ?_); refine goesL_ (some 16) rfl rfl Tryz.func14 (by kernel_rfl) rfl #[.slice A0 l0.length c0] rfl mq ?_; (with_reducible refine (spec_DrawCheck.calls k _ _ l0 t525 t528 t531 _ ?side1 ?side2 A3.out).mono ?_); (case side1 => repeat (first | exact HR0.out | (with_reducible refine Kd.C_alloc ?_ _) | (with_reducible refine Kd.C_drewN ?_ _) | (with_reducible refine Kd.C_drew ?_))); (case side2 => exact HC0.out); rintro e w8 ⟨v526, v529, rfl, ho0, ho1, hb⟩; refine ⟨_, rfl, ?_⟩; have HO527 := am (Kd.R_lower ho0 (below_size bel)); have HO530 := am (Kd.R_lower ho1 (below_size bel)); replace HB := am (below_step bel hb); (try clear hb); (try clear hb2); (try clear hk); (try clear hi); (try clear ho0); (try clear ho1)) | ((with_reducible refine gate_dst (N := 3) rfl ?_); (try (refine gate_guard (by rfl) ?_; dsimp only)); refine bx 3 (cs := #[.slice none 0 0, .slice none 0 0]) (t := 32) ?_; intro gb532 hg w9 hbox hb; replace HO527 := am (Kd.R_below (rq HO527.out) hb); replace HO530 := am (Kd.R_below (rq HO530.out) hb); have BK532 := am (hbox); have GW532 := am ((b19_ : w.heap.size ≤ gb532)); have GE532 := am ((b19_ : w.heap.size ≤ gb532)); replace HB := am (below_step bel hb); clear hb hbox hg; obtain ⟨Ao10, co10, eo10⟩ := Kd.R_slice HO527.out; subst eo10; have hcz11_0 := bc BK532.out 0; have hcz11_1 := bc BK532.out 1; have hfz11_0 := bf BK532.out 0; have hfz11_1 := bf BK532.out 1; obtain ⟨Ao12, co12, eo12⟩ := Kd.R_slice HO530.out; subst eo12) | ((with_reducible refine gate_callee (f := 8) rfl ?_); refine goesL_ (some 21) rfl rfl Tryz.func8 (by kernel_rfl) rfl #[.agg #[.slice Ao10 t525.length co10, .slice Ao12 t528.length co12], .string t531] rfl mq ?_; (with_reducible refine (impl_Check.calls k _ _ t525 _ _ t528 t531 t533 _ ?side1 ?side2 ?side3 ?side4 A4.out).mono ?_); (case side1 => refine (Kd.R_reads' (e := 82) (base := w.heap.size) (ok := fun k_ => True) (n := t525.length) (c := co10) ?_).2.2; exact (rq ((Kd.R_mono (Kd.R_far (p := ⟨gb532, 1, none⟩) (Kd.R_far (p := ⟨gb532, 0, none⟩) (Kd.R_types HO527.out BK532.out (by decide)) (fun _ hk => hk.2) (.slice Ao10 t525.length co10)) (fun _ hk => hk.2) (.slice Ao12 t528.length co12)) (fun _ h_ => h_.1))))); (case side2 => exact (Kd.R_reads' HO527.out).2.1); (case side3 => refine (Kd.R_reads' (e := 78) (base := w.heap.size) (ok := fun k_ => True) (n := t528.length) (c := co12) ?_).2.2; exact (rq ((Kd.R_mono (Kd.R_far (p := ⟨gb532, 1, none⟩) (Kd.R_far (p := ⟨gb532, 0, none⟩) (Kd.R_types HO530.out BK532.out (by decide)) (fun _ hk => hk.2) (.slice Ao10 t525.length co10)) (fun _ hk => hk.2) (.slice Ao12 t528.length co12)) (fun _ h_ => h_.1))))); (case side4 => exact (Kd.R_reads' HO530.out).2.1); rintro e w13 ⟨v534, rfl, ho0, hb⟩; refine ⟨_, rfl, ?_⟩; replace HO527 := am (Kd.R_below (rq ((Kd.R_mono (Kd.R_far (p := ⟨gb532, 1, none⟩) (Kd.R_far (p := ⟨gb532, 0, none⟩) (Kd.R_types HO527.out BK532.out (by decide)) (fun _ hk => hk.2) (.slice Ao10 t525.length co10)) (fun _ hk => hk.2) (.slice Ao12 t528.length co12)) (fun _ h_ => h_.1)))) hb); replace HO530 := am (Kd.R_below (rq ((Kd.R_mono (Kd.R_far (p := ⟨gb532, 1, none⟩) (Kd.R_far (p := ⟨gb532, 0, none⟩) (Kd.R_types HO530.out BK532.out (by decide)) (fun _ hk => hk.2) (.slice Ao10 t525.length co10)) (fun _ hk => hk.2) (.slice Ao12 t528.length co12)) (fun _ h_ => h_.1)))) hb); have HO535 := am (Kd.R_lower ho0 (below_size (bel1 GE532.out))); replace BK532 := am (blk_below (g := gb532) (o := .cells #[.slice Ao10 t525.length co10, .slice Ao12 t528.length co12] 32 (0, 0)) (by (with_reducible repeat (first | refine blk_drewN ?_ _ | refine blk_drew ?_ | refine blk_alloc ?_ _)); refine blk_put (cs := #[.slice Ao10 t525.length co10, .slice none 0 0]) ?_ 1 _ rfl; (with_reducible repeat (first | refine blk_drewN ?_ _ | refine blk_drew ?_ | refine blk_alloc ?_ _)); refine blk_put (cs := #[.slice none 0 0, .slice none 0 0]) ?_ 0 _ rfl; (with_reducible repeat (first | refine blk_drewN ?_ _ | refine blk_drew ?_ | refine blk_alloc ?_ _)); exact BK532.out) hb); replace HB := am (below_step (bel1 GE532.out) hb); (try clear hb); (try clear hb2); (try clear hk); (try clear hi); (try clear ho0); have hcz14_0 := bc BK532.out 0; have hcz14_1 := bc BK532.out 1; have hfz14_0 := bf BK532.out 0; have hfz14_1 := bf BK532.out 1) | ((with_reducible refine gate_callee (f := 6) rfl ?_); refine goesL_ (some 25) rfl rfl Tryz.func6 (by kernel_rfl) rfl #[.agg #[.slice Ao10 t525.length co10, .slice Ao12 t528.length co12], .string t531] rfl mq ?_; (with_reducible refine (spec_Check.calls k _ _ t525 _ _ t528 t531 t536 _ ?side1 ?side2 ?side3 ?side4 A5.out).mono ?_); (case side1 => exact cq (Kd.R_reads' HO527.out).2.2); (case side2 => exact (Kd.R_reads' HO527.out).2.1); (case side3 => exact cq (Kd.R_reads' HO530.out).2.2); (case side4 => exact (Kd.R_reads' HO530.out).2.1); rintro e w15 ⟨v537, rfl, ho0, hb⟩; refine ⟨_, rfl, ?_⟩; replace HO527 := am (Kd.R_below (rq HO527.out) hb); replace HO530 := am (Kd.R_below (rq HO530.out) hb); have HO538 := am (Kd.R_lower (Kd.R_new' ho0 (Kd.R_lt (rq HO535.out))) (below_size (bel1 GE532.out))); replace HO535 := am (Kd.R_elder' (rq HO535.out) (Kd.R_base ho0) hb); replace BK532 := am (blk_below (g := gb532) (o := .cells #[.slice Ao10 t525.length co10, .slice Ao12 t528.length co12] 32 (0, 0)) (bq BK532.out) hb); replace HB := am (below_step (bel1 GE532.out) hb); (try clear hb); (try clear hb2); (try clear hk); (try clear hi); (try clear ho0); obtain ⟨Ao16, co16, eo16⟩ := Kd.R_slice HO535.out; subst eo16; obtain ⟨Ao17, co17, eo17⟩ := Kd.R_slice HO538.out; subst eo17) | ((with_reducible refine gate_callee (f := 15) rfl ?_); refine goesL_ (some 26) rfl rfl Tryz.func15 (by kernel_rfl) rfl #[.slice Ao16 t533.length co16, .slice Ao17 t536.length co17] rfl mq ?_; (with_reducible refine (laws_mdGuesses.calls k _ _ t533 _ _ t536 true _ ?side1 ?side2 ?side3 ?side4 A6.out).mono ?_); (case side1 => exact cq (Kd.R_reads' HO535.out).2.2); (case side2 => exact (Kd.R_reads' HO535.out).2.1); (case side3 => exact cq (Kd.R_reads' HO538.out).2.2); (case side4 => exact (Kd.R_reads' HO538.out).2.1); rintro e w' ⟨rfl, ⟨nd, rfl⟩⟩; refine ⟨_, rfl, ?_⟩))
  go_loopg [6] k (fun kq v6 w' => ∃ (x6_1 : Int), v6 = .int .i64 x6_1 ∧ Aside0 (laws_FnCheck.l0 kq t531 t533 x6_1 t525 t528 = some r) ∧ Aside0 (kq ≤ k) ∧ Aside0 (Kd.R k43 43 w' w.heap.size (fun _ => True) (.slice Ao16 t533.length co16) t533) ∧ Aside0 (Kd.R k82 82 w' w.heap.size (fun _ => True) (.slice Ao10 t525.length co10) t525) ∧ Aside0 (Kd.R k78 78 w' w.heap.size (fun _ => True) (.slice Ao12 t528.length co12) t528) ∧ Aside0 (w'.heap[gb532]? = some (.cells #[(.slice Ao10 t525.length co10), (.slice Ao12 t528.length co12)] 32 (0, 0))) ∧ Aside0 (Below w.heap.size w w'))
  case atStart => exact ⟨(0), sq, H', ⟨Nat.le_refl _⟩, ⟨rq (Kd.R_mono HO535.out (fun _ hk => trivial))⟩, ⟨rq HO527.out⟩, ⟨rq HO530.out⟩, ⟨bq BK532.out⟩, ⟨bel1 GE532.out⟩⟩
  case round =>
   clear H'; (try clear c1); (try clear c2); (try clear c2b0); (try clear c2b1); (try clear p2); (try clear c4); (try clear c6); (try clear c7); (try clear c8); (try clear c14); (try clear c15); (try clear hcz11_0); (try clear hcz11_1); (try clear hcz14_0); (try clear hcz14_1); (try clear hfz11_0); (try clear hfz11_1); (try clear hfz14_0); (try clear hfz14_1); obtain ⟨x6_1, rfl, HA, HK1, HO_5, HO_533000, HO_533001, BK532, HB⟩ := hrel
   cases gk with
   | zero => exact absurd HA.out (by simp [laws_FnCheck.l0])
   | succ k1 =>
    have H := HA.out; clear HA
    simp only [laws_FnCheck.l0] at H
    by_cases c18 : x6_1 < (t533.length : Int)
    ·rw [if_pos c18] at H; have c18b0 := decide_eq_true c18; clear c18
     replace H := it H; obtain ⟨c19b0, H⟩ := H; have HC20 := am H; clear H
     have p540 : 0 ≤ (x6_1 : Int) := of_decide_eq_true ad
     have q540 : x6_1 < (t533.length : Int) := of_decide_eq_true ad
     obtain ⟨ad540, e540, hx540_0, hx540_1⟩ := at_T43 (Kd.R_reads' HO_5.out).2.2 x6_1 p540 q540
     cases e540
     replace p540 := eq_true p540; replace q540 := eq_true q540
     have p541 : 0 ≤ (x6_1 : Int) := of_decide_eq_true ad
     have q541 : x6_1 < (t533.length : Int) := of_decide_eq_true ad
     obtain ⟨ad541, e541, hx541_0, hx541_1⟩ := at_T43 (Kd.R_reads' HO_5.out).2.2 x6_1 p541 q541
     obtain rfl : ad540 = ad541 := (by injection e541)
     replace p541 := eq_true p541; replace q541 := eq_true q541
     go_upto_region 12 with (fail)
     go_cut [77] (fun v77 wc => ∃ (kq : Nat) (x77_19 : Bool), v77 = .bool x77_19 ∧ Aside0 (laws_FnCheck.j1 kq t531 t533 x6_1 ((rd_T43 t533 x6_1).f1) (wrap64 (((rd_T43 t533 x6_1).f1) + (((rd_T43 t533 x6_1).f0).size : Int))) x77_19 t525 t528 = some r) ∧ Aside0 (kq ≤ k1) ∧ Aside0 (Kd.R k43 43 wc w.heap.size (fun _ => True) (.slice (some ad540) t533.length co16) t533) ∧ Aside0 (Kd.R k82 82 wc w.heap.size (fun _ => True) (.slice Ao10 t525.length co10) t525) ∧ Aside0 (Kd.R k78 78 wc w.heap.size (fun _ => True) (.slice Ao12 t528.length co12) t528) ∧ Aside0 (wc.heap[gb532]? = some (.cells #[(.slice Ao10 t525.length co10), (.slice Ao12 t528.length co12)] 32 (0, 0))) ∧ Aside0 (Below w.heap.size w wc))
     case first =>
      have H := HC20.out; clear HC20
      by_cases c21 : ((rd_T43 t533 x6_1).f1) < 0
      ·rw [if_pos c21] at H; have c21b0 := decide_eq_true c21; clear c21
       (first | rw [c21b0] | (simp only [i64_w, i32_w]; rw [c21b0]) | skip)
       have H' := am H
       clear H
       try go_wp2
       replace HO_5 := am (Kd.R_drew HO_5.out); replace HO_533000 := am (Kd.R_drew HO_533000.out); replace HO_533001 := am (Kd.R_drew HO_533001.out); replace BK532 := am (blk_drew BK532.out); replace HB := am (below_drew1 HB.out)
       refine st (n := 31) (S := fun w' => True) (ds := []) trivial (fun hHeld => ?_); refine with_tabW laws_FnCheck.tab12 laws_FnCheck.bits12 (fun HT_ HW_ => ?_)
       generalize wr.drew = w22 at HO_5 HO_533000 HO_533001 BK532 HB hHeld ⊢
       refine pu 0 47 ?_
       refine pu 1 48 ?_
       refine pu 2 49 ?_
       refine puu 3 50 ?_
       refine puu 4 51 ?_
       refine puu 5 52 ?_
       refine puu 6 53 ?_
       refine pu 7 54 ?_
       refine pu 8 55 ?_
       refine puu 9 56 ?_
       refine puu 10 57 ?_
       refine puu 11 58 ?_
       refine puu 12 59 ?_
       refine puu 13 60 ?_
       refine puu 14 61 ?_
       refine puu 15 62 ?_
       refine pu 16 63 ?_
       refine pu 17 64 ?_
       refine puu 18 65 ?_
       refine puu 19 66 ?_
       refine puu 20 67 ?_
       refine puu 21 68 ?_
       refine puu 22 69 ?_
       refine puu 23 70 ?_
       refine puu 24 71 ?_
       refine puu 25 72 ?_
       refine puu 26 73 ?_
       refine puu 27 74 ?_
       refine puu 28 75 ?_
       refine puu 29 76 ?_
       refine pu 30 77 ?_
       refine done_ (done_of HT_.out (by kernel_rfl)) ?_
       try go_wp2
       go_meet
       case rel => exact ⟨_, (true), sq, H', ⟨b61_⟩, ⟨rq HO_5.out⟩, ⟨rq HO_533000.out⟩, ⟨rq HO_533001.out⟩, ⟨bq BK532.out⟩, ⟨bel1 GE532.out⟩⟩
      rw [if_neg c21] at H; have c21b0 := decide_eq_false c21; clear c21
      (first | rw [c21b0] | (simp only [i64_w, i32_w]; rw [c21b0]) | skip)
      by_cases c23 : (wrap64 (((rd_T43 t533 x6_1).f1) + (((rd_T43 t533 x6_1).f0).size : Int))) > (t531.size : Int)
      ·rw [if_pos c23] at H; have c23b0 := decide_eq_true c23; clear c23
       have H' := am H
       clear H
       try go_wp2
       replace HO_5 := am (Kd.R_drew HO_5.out); replace HO_533000 := am (Kd.R_drew HO_533000.out); replace HO_533001 := am (Kd.R_drew HO_533001.out); replace BK532 := am (blk_drew BK532.out); replace HB := am (below_drew1 HB.out)
       refine st (n := 31) (S := fun w' => True) (ds := []) trivial (fun hHeld => ?_); refine with_tabW laws_FnCheck.tab12 laws_FnCheck.bits12 (fun HT_ HW_ => ?_)
       generalize wr.drew = w24 at HO_5 HO_533000 HO_533001 BK532 HB hHeld ⊢
       refine pu 0 47 ?_
       refine pu 1 48 ?_
       refine pu 2 49 ?_
       refine pu 3 50 ?_
       refine pu 4 51 ?_
       refine pu 5 52 ?_
       refine pu 6 53 ?_
       refine pu 7 54 ?_
       refine pu 8 55 ?_
       refine puu 9 56 ?_
       refine puu 10 57 ?_
       refine puu 11 58 ?_
       refine puu 12 59 ?_
       refine puu 13 60 ?_
       refine puu 14 61 ?_
       refine puu 15 62 ?_
       refine pu 16 63 ?_
       refine pu 17 64 ?_
       refine puu 18 65 ?_
       refine puu 19 66 ?_
       refine puu 20 67 ?_
       refine puu 21 68 ?_
       refine puu 22 69 ?_
       refine puu 23 70 ?_
       refine puu 24 71 ?_
       refine puu 25 72 ?_
       refine puu 26 73 ?_
       refine puu 27 74 ?_
       refine puu 28 75 ?_
       refine puu 29 76 ?_
       refine pu 30 77 ?_
       refine done_ (done_of HT_.out (by kernel_rfl)) ?_
       try go_wp2
       go_meet
       case rel => exact ⟨_, (true), sq, H', ⟨b61_⟩, ⟨rq HO_5.out⟩, ⟨rq HO_533000.out⟩, ⟨rq HO_533001.out⟩, ⟨bq BK532.out⟩, ⟨bel1 GE532.out⟩⟩
      rw [if_neg c23] at H; have c23b0 := decide_eq_false c23; clear c23; replace H := bs H; obtain ⟨t543, A250, H⟩ := H; replace H : (if t543 = true then (laws_FnCheck.j1 k1 t531 t533 x6_1 ((rd_T43 t533 x6_1).f1) (wrap64 (((rd_T43 t533 x6_1).f1) + (((rd_T43 t533 x6_1).f0).size : Int))) true t525 t528) else (if x6_1 > 0 then (if 0 ≤ (wrap64 (x6_1 - 1)) then (if (wrap64 (x6_1 - 1)) < (t533.length : Int) then (laws_FnCheck.j1 k1 t531 t533 x6_1 ((rd_T43 t533 x6_1).f1) (wrap64 (((rd_T43 t533 x6_1).f1) + (((rd_T43 t533 x6_1).f0).size : Int))) (decide (((rd_T43 t533 (wrap64 (x6_1 - 1))).f1) ≥ ((rd_T43 t533 x6_1).f1))) t525 t528) else (none)) else (none)) else (laws_FnCheck.j1 k1 t531 t533 x6_1 ((rd_T43 t533 x6_1).f1) (wrap64 (((rd_T43 t533 x6_1).f1) + (((rd_T43 t533 x6_1).f0).size : Int))) false t525 t528))) = some r := H; have A25 := Aside0.mk A250; clear A250
      by_cases c26 : t543 = true
      ·subst c26
       have H1 : (laws_FnCheck.j1 k1 t531 t533 x6_1 ((rd_T43 t533 x6_1).f1) (wrap64 (((rd_T43 t533 x6_1).f1) + (((rd_T43 t533 x6_1).f0).size : Int))) true t525 t528) = some r := b32_
       replace H := H1; clear H1
       have H' := am H
       clear H
       try go_wp2
       replace HO_5 := am (Kd.R_drew HO_5.out); replace HO_533000 := am (Kd.R_drew HO_533000.out); replace HO_533001 := am (Kd.R_drew HO_533001.out); replace BK532 := am (blk_drew BK532.out); replace HB := am (below_drew1 HB.out)
       have p542 : 0 ≤ (x6_1 : Int) := of_decide_eq_true ad
       have q542 : x6_1 < (t533.length : Int) := of_decide_eq_true ad
       obtain ⟨ad542, e542, hx542_0, hx542_1⟩ := at_T43 (Kd.R_reads' HO_5.out).2.2 x6_1 p542 q542
       obtain rfl : ad540 = ad542 := (by injection e542)
       replace p542 := eq_true p542; replace q542 := eq_true q542
       refine st (n := 31) (S := fun w' => w'.cell? ⟨gb532, 0, none⟩ = some (.slice Ao10 t525.length co10) ∧ w'.cell? ⟨gb532, 1, none⟩ = some (.slice Ao12 t528.length co12) ∧ w'.cell? (ad540.add ((x6_1).toNat * 2)) = some (.string ((rd_T43 t533 x6_1).f0)) ∧ w'.cell? ⟨(ad540.add ((x6_1).toNat * 2)).block, (ad540.add ((x6_1).toNat * 2)).off + 1, none⟩ = some (.int .i64 ((rd_T43 t533 x6_1).f1))) (ds := []) ⟨(blk_cell BK532.out 0).trans rfl, (blk_cell BK532.out 1).trans rfl, hx542_0, hx542_1⟩ (fun hHeld => ?_); refine with_tabW laws_FnCheck.tab12 laws_FnCheck.bits12 (fun HT_ HW_ => ?_)
       generalize wr.drew = w27 at HO_5 HO_533000 HO_533001 BK532 HB hx542_0 hx542_1 hHeld ⊢
       refine pu 0 47 ?_
       refine pu 1 48 ?_
       refine pu 2 49 ?_
       refine pu 3 50 ?_
       refine pu 4 51 ?_
       refine pu 5 52 ?_
       refine pu 6 53 ?_
       refine pu 7 54 ?_
       refine pu 8 55 ?_
       refine pu 10 57 ?_
       refine pu 11 58 ?_
       refine pu 12 59 ?_
       refine pu 13 60 ?_
       refine tk4 9 56 hHeld ?_
       refine tk4 14 61 hHeld ?_
       refine on1 15 62 (fun K hK => ?_)
       refine goes_ Tryz.func16 (by kernel_rfl) rfl #[.agg #[.slice Ao10 t525.length co10, .slice Ao12 t528.length co12], .string ((rd_T43 t533 x6_1).f0)] (by rfl) rfl rfl mq ?_
       with_reducible refine (impl_BookKnows.calls k1 _ _ t525 _ _ t528 ((rd_T43 t533 x6_1).f0) true _ ?side1 ?side2 ?side3 ?side4 A25.out).mono ?_
       (case side1 => exact cq (Kd.R_reads' HO_533000.out).2.2); (case side2 => exact (Kd.R_reads' HO_533000.out).2.1); (case side3 => exact cq (Kd.R_reads' HO_533001.out).2.2); (case side4 => exact (Kd.R_reads' HO_533001.out).2.1)
       rintro e w28 ⟨rfl, hb⟩
       have HS2_ := (hb.cell (World.block_lt_of_cell? _ _ (hHeld.2.2.1))).trans (hHeld.2.2.1); have HS3_ := (hb.cell (World.block_lt_of_cell? _ _ (hHeld.2.2.2))).trans (hHeld.2.2.2)
       refine ⟨_, rfl, ?_⟩
       replace HO_5 := am (Kd.R_below (rq HO_5.out) hb); replace HO_533000 := am (Kd.R_below (rq HO_533000.out) hb); replace HO_533001 := am (Kd.R_below (rq HO_533001.out) hb); replace BK532 := am (blk_below (g := gb532) (o := .cells #[.slice Ao10 t525.length co10, .slice Ao12 t528.length co12] 32 (0, 0)) (bq BK532.out) hb); replace HB := am (below_step (bel1 GE532.out) hb)
       (try clear hb)
       (try clear hb2)
       (try clear hk)
       (try clear hi)
       refine hK.out _ _ ⟨(blk_cell BK532.out 0).trans rfl, (blk_cell BK532.out 1).trans rfl, HS2_, HS3_⟩ (fun hHeld => ?_)
       clear hK K
       refine norm_ (a' := ?_) ?_ ?_
       rotate_left
       ·show Act.put _ (some 62) _ = _
        simp only [Act.put, List.setIfInBounds_toArray, List.set_cons_zero, List.set_cons_succ, i64_w, i32_w]
        rfl
       refine pu 16 63 ?_
       refine pu 17 64 ?_
       refine puu 18 65 ?_
       refine puu 19 66 ?_
       refine puu 20 67 ?_
       refine puu 21 68 ?_
       refine puu 22 69 ?_
       refine puu 23 70 ?_
       refine puu 24 71 ?_
       refine puu 25 72 ?_
       refine puu 26 73 ?_
       refine puu 27 74 ?_
       refine puu 28 75 ?_
       refine puu 29 76 ?_
       refine pu 30 77 ?_
       refine done_ (done_of HT_.out (by kernel_rfl)) ?_
       try go_wp2
       go_meet
       case rel => exact ⟨_, (true), sq, H', ⟨b61_⟩, ⟨rq HO_5.out⟩, ⟨rq HO_533000.out⟩, ⟨rq HO_533001.out⟩, ⟨bq BK532.out⟩, ⟨bel1 GE532.out⟩⟩
      replace c26 := Bool.eq_false_iff.mpr c26; subst c26
      have H1 : (if x6_1 > 0 then (if 0 ≤ (wrap64 (x6_1 - 1)) then (if (wrap64 (x6_1 - 1)) < (t533.length : Int) then (laws_FnCheck.j1 k1 t531 t533 x6_1 ((rd_T43 t533 x6_1).f1) (wrap64 (((rd_T43 t533 x6_1).f1) + (((rd_T43 t533 x6_1).f0).size : Int))) (decide (((rd_T43 t533 (wrap64 (x6_1 - 1))).f1) ≥ ((rd_T43 t533 x6_1).f1))) t525 t528) else (none)) else (none)) else (laws_FnCheck.j1 k1 t531 t533 x6_1 ((rd_T43 t533 x6_1).f1) (wrap64 (((rd_T43 t533 x6_1).f1) + (((rd_T43 t533 x6_1).f0).size : Int))) false t525 t528)) = some r := b13_
      replace H := H1; clear H1
      by_cases c29 : x6_1 > 0
      ·rw [if_pos c29] at H; have c29b0 := decide_eq_true c29; clear c29; obtain ⟨ji30, hji30⟩ : ∃ j_ : Int, (wrap64 (x6_1 - 1)) = j_ := ⟨_, rfl⟩
       replace H : (if 0 ≤ (ji30) then (if (ji30) < (t533.length : Int) then (laws_FnCheck.j1 k1 t531 t533 x6_1 ((rd_T43 t533 x6_1).f1) (wrap64 (((rd_T43 t533 x6_1).f1) + (((rd_T43 t533 x6_1).f0).size : Int))) (decide (((rd_T43 t533 (ji30)).f1) ≥ ((rd_T43 t533 x6_1).f1))) t525 t528) else (none)) else (none)) = some r := by first | (rw [hji30] at H; exact H) | (simp only [hji30] at H ⊢; exact H)
       (try rw [hji30] at A25)
       have hji30w : (IntKind.i64.wrap (x6_1 - 1)) = ji30 := (i64_w _).trans hji30
       replace H := it H; obtain ⟨c31b0, H⟩ := H
       replace H := it H; obtain ⟨c32b0, H⟩ := H
       have H' := am H
       clear H
       try go_wp2
       replace HO_5 := am (Kd.R_drew HO_5.out); replace HO_533000 := am (Kd.R_drew HO_533000.out); replace HO_533001 := am (Kd.R_drew HO_533001.out); replace BK532 := am (blk_drew BK532.out); replace HB := am (below_drew1 HB.out)
       have p542 : 0 ≤ (x6_1 : Int) := of_decide_eq_true ad
       have q542 : x6_1 < (t533.length : Int) := of_decide_eq_true ad
       obtain ⟨ad542, e542, hx542_0, hx542_1⟩ := at_T43 (Kd.R_reads' HO_5.out).2.2 x6_1 p542 q542
       obtain rfl : ad540 = ad542 := (by injection e542)
       replace p542 := eq_true p542; replace q542 := eq_true q542
       have p544 : 0 ≤ ((ji30) : Int) := of_decide_eq_true ad
       have q544 : (ji30) < (t533.length : Int) := of_decide_eq_true ad
       obtain ⟨ad544, e544, hx544_0, hx544_1⟩ := at_T43 (Kd.R_reads' HO_5.out).2.2 (ji30) p544 q544
       obtain rfl : ad540 = ad544 := (by injection e544)
       replace p544 := eq_true p544; replace q544 := eq_true q544
       refine st (n := 31) (S := fun w' => w'.cell? ⟨gb532, 0, none⟩ = some (.slice Ao10 t525.length co10) ∧ w'.cell? ⟨gb532, 1, none⟩ = some (.slice Ao12 t528.length co12) ∧ w'.cell? (ad540.add ((x6_1).toNat * 2)) = some (.string ((rd_T43 t533 x6_1).f0)) ∧ w'.cell? ⟨(ad540.add ((x6_1).toNat * 2)).block, (ad540.add ((x6_1).toNat * 2)).off + 1, none⟩ = some (.int .i64 ((rd_T43 t533 x6_1).f1)) ∧ w'.cell? (ad540.add (((ji30)).toNat * 2)) = some (.string ((rd_T43 t533 (ji30)).f0)) ∧ w'.cell? ⟨(ad540.add (((ji30)).toNat * 2)).block, (ad540.add (((ji30)).toNat * 2)).off + 1, none⟩ = some (.int .i64 ((rd_T43 t533 (ji30)).f1))) (ds := []) ⟨(blk_cell BK532.out 0).trans rfl, (blk_cell BK532.out 1).trans rfl, hx542_0, hx542_1, hx544_0, hx544_1⟩ (fun hHeld => ?_); refine with_tabW laws_FnCheck.tab12 laws_FnCheck.bits12 (fun HT_ HW_ => ?_)
       generalize wr.drew = w33 at HO_5 HO_533000 HO_533001 BK532 HB hx542_0 hx542_1 hx544_0 hx544_1 hHeld ⊢
       refine pu 0 47 ?_
       refine pu 1 48 ?_
       refine pu 2 49 ?_
       refine pu 3 50 ?_
       refine pu 4 51 ?_
       refine pu 5 52 ?_
       refine pu 6 53 ?_
       refine pu 7 54 ?_
       refine pu 8 55 ?_
       refine pu 10 57 ?_
       refine pu 11 58 ?_
       refine pu 12 59 ?_
       refine pu 13 60 ?_
       refine tk6 9 56 hHeld ?_
       refine tk6 14 61 hHeld ?_
       refine on1 15 62 (fun K hK => ?_)
       refine goes_ Tryz.func16 (by kernel_rfl) rfl #[.agg #[.slice Ao10 t525.length co10, .slice Ao12 t528.length co12], .string ((rd_T43 t533 x6_1).f0)] (by rfl) rfl rfl mq ?_
       with_reducible refine (impl_BookKnows.calls k1 _ _ t525 _ _ t528 ((rd_T43 t533 x6_1).f0) false _ ?side1 ?side2 ?side3 ?side4 A25.out).mono ?_
       (case side1 => exact cq (Kd.R_reads' HO_533000.out).2.2); (case side2 => exact (Kd.R_reads' HO_533000.out).2.1); (case side3 => exact cq (Kd.R_reads' HO_533001.out).2.2); (case side4 => exact (Kd.R_reads' HO_533001.out).2.1)
       rintro e w34 ⟨rfl, hb⟩
       have HS2_ := (hb.cell (World.block_lt_of_cell? _ _ (hHeld.2.2.1))).trans (hHeld.2.2.1); have HS3_ := (hb.cell (World.block_lt_of_cell? _ _ (hHeld.2.2.2.1))).trans (hHeld.2.2.2.1); have HS4_ := (hb.cell (World.block_lt_of_cell? _ _ (hHeld.2.2.2.2.1))).trans (hHeld.2.2.2.2.1); have HS5_ := (hb.cell (World.block_lt_of_cell? _ _ (hHeld.2.2.2.2.2))).trans (hHeld.2.2.2.2.2)
       refine ⟨_, rfl, ?_⟩
       replace HO_5 := am (Kd.R_below (rq HO_5.out) hb); replace HO_533000 := am (Kd.R_below (rq HO_533000.out) hb); replace HO_533001 := am (Kd.R_below (rq HO_533001.out) hb); replace BK532 := am (blk_below (g := gb532) (o := .cells #[.slice Ao10 t525.length co10, .slice Ao12 t528.length co12] 32 (0, 0)) (bq BK532.out) hb); replace HB := am (below_step (bel1 GE532.out) hb)
       (try clear hb)
       (try clear hb2)
       (try clear hk)
       (try clear hi)
       refine hK.out _ _ ⟨(blk_cell BK532.out 0).trans rfl, (blk_cell BK532.out 1).trans rfl, HS2_, HS3_, HS4_, HS5_⟩ (fun hHeld => ?_)
       clear hK K
       refine norm_ (a' := ?_) ?_ ?_
       rotate_left
       ·show Act.put _ (some 62) _ = _
        simp only [Act.put, List.setIfInBounds_toArray, List.set_cons_zero, List.set_cons_succ, i64_w, i32_w]
        rfl
       refine pu 16 63 ?_
       refine pu 17 64 ?_
       refine pu 18 65 ?_
       refine pu 19 66 ?_
       refine pu 20 67 ?_
       refine pu 21 68 ?_
       refine pu 22 69 ?_
       refine pu 23 70 ?_
       refine pu 24 71 ?_
       refine pu 25 72 ?_
       refine pu 27 74 ?_
       refine tk6 26 73 hHeld ?_
       refine pu 28 75 ?_
       refine pu 29 76 ?_
       refine pu 30 77 ?_
       refine done_ (done_of HT_.out (by kernel_rfl)) ?_
       try go_wp2
       go_meet
       case rel => exact ⟨_, (decide (((rd_T43 t533 (ji30)).f1) ≥ ((rd_T43 t533 x6_1).f1))), (by first | rfl | (simp; done) | (simp only [← hji30] <;> (first | rfl | simp)) | (simp [*]; done)), H', ⟨b61_⟩, ⟨rq HO_5.out⟩, ⟨rq HO_533000.out⟩, ⟨rq HO_533001.out⟩, ⟨bq BK532.out⟩, ⟨bel1 GE532.out⟩⟩
      rw [if_neg c29] at H; have c29b0 := decide_eq_false c29; clear c29
      have H' := am H
      clear H
      try go_wp2
      replace HO_5 := am (Kd.R_drew HO_5.out); replace HO_533000 := am (Kd.R_drew HO_533000.out); replace HO_533001 := am (Kd.R_drew HO_533001.out); replace BK532 := am (blk_drew BK532.out); replace HB := am (below_drew1 HB.out)
      have p542 : 0 ≤ (x6_1 : Int) := of_decide_eq_true ad
      have q542 : x6_1 < (t533.length : Int) := of_decide_eq_true ad
      obtain ⟨ad542, e542, hx542_0, hx542_1⟩ := at_T43 (Kd.R_reads' HO_5.out).2.2 x6_1 p542 q542
      obtain rfl : ad540 = ad542 := (by injection e542)
      replace p542 := eq_true p542; replace q542 := eq_true q542
      refine st (n := 31) (S := fun w' => w'.cell? ⟨gb532, 0, none⟩ = some (.slice Ao10 t525.length co10) ∧ w'.cell? ⟨gb532, 1, none⟩ = some (.slice Ao12 t528.length co12) ∧ w'.cell? (ad540.add ((x6_1).toNat * 2)) = some (.string ((rd_T43 t533 x6_1).f0)) ∧ w'.cell? ⟨(ad540.add ((x6_1).toNat * 2)).block, (ad540.add ((x6_1).toNat * 2)).off + 1, none⟩ = some (.int .i64 ((rd_T43 t533 x6_1).f1))) (ds := []) ⟨(blk_cell BK532.out 0).trans rfl, (blk_cell BK532.out 1).trans rfl, hx542_0, hx542_1⟩ (fun hHeld => ?_); refine with_tabW laws_FnCheck.tab12 laws_FnCheck.bits12 (fun HT_ HW_ => ?_)
      generalize wr.drew = w35 at HO_5 HO_533000 HO_533001 BK532 HB hx542_0 hx542_1 hHeld ⊢
      refine pu 0 47 ?_
      refine pu 1 48 ?_
      refine pu 2 49 ?_
      refine pu 3 50 ?_
      refine pu 4 51 ?_
      refine pu 5 52 ?_
      refine pu 6 53 ?_
      refine pu 7 54 ?_
      refine pu 8 55 ?_
      refine pu 10 57 ?_
      refine pu 11 58 ?_
      refine pu 12 59 ?_
      refine pu 13 60 ?_
      refine tk4 9 56 hHeld ?_
      refine tk4 14 61 hHeld ?_
      refine on1 15 62 (fun K hK => ?_)
      refine goes_ Tryz.func16 (by kernel_rfl) rfl #[.agg #[.slice Ao10 t525.length co10, .slice Ao12 t528.length co12], .string ((rd_T43 t533 x6_1).f0)] (by rfl) rfl rfl mq ?_
      with_reducible refine (impl_BookKnows.calls k1 _ _ t525 _ _ t528 ((rd_T43 t533 x6_1).f0) false _ ?side1 ?side2 ?side3 ?side4 A25.out).mono ?_
      (case side1 => exact cq (Kd.R_reads' HO_533000.out).2.2); (case side2 => exact (Kd.R_reads' HO_533000.out).2.1); (case side3 => exact cq (Kd.R_reads' HO_533001.out).2.2); (case side4 => exact (Kd.R_reads' HO_533001.out).2.1)
      rintro e w36 ⟨rfl, hb⟩
      have HS2_ := (hb.cell (World.block_lt_of_cell? _ _ (hHeld.2.2.1))).trans (hHeld.2.2.1); have HS3_ := (hb.cell (World.block_lt_of_cell? _ _ (hHeld.2.2.2))).trans (hHeld.2.2.2)
      refine ⟨_, rfl, ?_⟩
      replace HO_5 := am (Kd.R_below (rq HO_5.out) hb); replace HO_533000 := am (Kd.R_below (rq HO_533000.out) hb); replace HO_533001 := am (Kd.R_below (rq HO_533001.out) hb); replace BK532 := am (blk_below (g := gb532) (o := .cells #[.slice Ao10 t525.length co10, .slice Ao12 t528.length co12] 32 (0, 0)) (bq BK532.out) hb); replace HB := am (below_step (bel1 GE532.out) hb)
      (try clear hb)
      (try clear hb2)
      (try clear hk)
      (try clear hi)
      refine hK.out _ _ ⟨(blk_cell BK532.out 0).trans rfl, (blk_cell BK532.out 1).trans rfl, HS2_, HS3_⟩ (fun hHeld => ?_)
      clear hK K
      refine norm_ (a' := ?_) ?_ ?_
      rotate_left
      ·show Act.put _ (some 62) _ = _
       simp only [Act.put, List.setIfInBounds_toArray, List.set_cons_zero, List.set_cons_succ, i64_w, i32_w]
       rfl
      refine pu 16 63 ?_
      refine pu 17 64 ?_
      refine pu 18 65 ?_
      refine pu 19 66 ?_
      refine pu 20 67 ?_
      refine puu 21 68 ?_
      refine puu 22 69 ?_
      refine puu 23 70 ?_
      refine puu 24 71 ?_
      refine puu 25 72 ?_
      refine puu 26 73 ?_
      refine puu 27 74 ?_
      refine puu 28 75 ?_
      refine pu 29 76 ?_
      refine pu 30 77 ?_
      refine done_ (done_of HT_.out (by kernel_rfl)) ?_
      try go_wp2
      go_meet
      case rel => exact ⟨_, (false), sq, H', ⟨b61_⟩, ⟨rq HO_5.out⟩, ⟨rq HO_533000.out⟩, ⟨rq HO_533001.out⟩, ⟨bq BK532.out⟩, ⟨bel1 GE532.out⟩⟩
     case rest =>
      clear HC20; (try clear c1); (try clear c2); (try clear p2); (try clear c3); (try clear p5); (try clear q5); (try clear hx5); (try clear c16); (try clear c29); (try clear c29b0); (try clear c31); (try clear c32); (try clear hx542_0); (try clear hx542_1); (try clear hx544_0); (try clear hx544_1); (try clear p542); (try clear p544); (try clear q542); (try clear q544); obtain ⟨kq, x77_19, rfl, HA, HJ19, HO_5, HO_533000, HO_533001, BK532, HB⟩ := hcut
      cases kq with
      | zero => exact absurd HA.out (by simp [laws_FnCheck.j1])
      | succ kj19 =>
       have H := HA.out; clear HA
       simp only [laws_FnCheck.j1] at H
       by_cases c37 : x77_19 = true
       ·subst c37
        have H1 : (some false) = some r := b32_
        replace H := H1; clear H1
        obtain rfl := Option.some.inj H; go_wp2; go_ret
        exact ⟨eq_, bel1 GE532.out⟩
       replace c37 := Bool.eq_false_iff.mpr c37; subst c37
       have H1 : (laws_FnCheck.l1 kj19 t531 t533 x6_1 ((rd_T43 t533 x6_1).f1) (wrap64 (((rd_T43 t533 x6_1).f1) + (((rd_T43 t533 x6_1).f0).size : Int))) ((rd_T43 t533 x6_1).f1) t525 t528) = some r := b13_
       replace H := H1; clear H1
       have H' := am H
       clear H; go_wp2
       go_loopg [9] kj19 (fun kq v9 w' => ∃ (x9_3 : Int), v9 = .int .i64 x9_3 ∧ Aside0 (laws_FnCheck.l1 kq t531 t533 x6_1 ((rd_T43 t533 x6_1).f1) (wrap64 (((rd_T43 t533 x6_1).f1) + (((rd_T43 t533 x6_1).f0).size : Int))) x9_3 t525 t528 = some r) ∧ Aside0 (kq ≤ kj19) ∧ Aside0 (Kd.R k43 43 w' w.heap.size (fun _ => True) (.slice (some ad540) t533.length co16) t533) ∧ Aside0 (Kd.R k82 82 w' w.heap.size (fun _ => True) (.slice Ao10 t525.length co10) t525) ∧ Aside0 (Kd.R k78 78 w' w.heap.size (fun _ => True) (.slice Ao12 t528.length co12) t528) ∧ Aside0 (w'.heap[gb532]? = some (.cells #[(.slice Ao10 t525.length co10), (.slice Ao12 t528.length co12)] 32 (0, 0))) ∧ Aside0 (Below w.heap.size w w'))
       case atStart => exact ⟨(((rd_T43 t533 x6_1).f1)), sq, H', ⟨Nat.le_refl _⟩, ⟨rq HO_5.out⟩, ⟨rq HO_533000.out⟩, ⟨rq HO_533001.out⟩, ⟨bq BK532.out⟩, ⟨bel1 GE532.out⟩⟩
       case round =>
        clear H'; (try clear c1); (try clear c2); (try clear p2); (try clear c3); (try clear p5); (try clear q5); (try clear hx5); (try clear p6); (try clear c16); (try clear c29); (try clear c29b0); (try clear c31); (try clear c32); (try clear c37); (try clear hx542_0); (try clear hx542_1); (try clear hx544_0); (try clear hx544_1); (try clear p2); (try clear p5); (try clear p542); (try clear p544); (try clear q5); (try clear q542); (try clear q544); obtain ⟨x9_3, rfl, HA, HK3, HO_5, HO_533000, HO_533001, BK532, HB⟩ := hrel
        cases gk with
        | zero => exact absurd HA.out (by simp [laws_FnCheck.l1])
        | succ k3 =>
         have H := HA.out; clear HA
         simp only [laws_FnCheck.l1] at H
         by_cases c38 : x9_3 < (wrap64 (((rd_T43 t533 x6_1).f1) + (((rd_T43 t533 x6_1).f0).size : Int)))
         ·rw [if_pos c38] at H; have c38b0 := decide_eq_true c38; clear c38
          replace H := it H; obtain ⟨c39b0, H⟩ := H
          replace H := it H; obtain ⟨c40b0, H⟩ := H; have HC42 := am H; clear H
          have p41 : 0 ≤ (x9_3 : Int) := of_decide_eq_true ad
          have q41 : x9_3 < (t531.size : Int) := of_decide_eq_true ad
          have hx41 := bt_at t531 x9_3; replace p41 := eq_true p41; replace q41 := eq_true q41
          go_upto_region 18 with (fail)
          go_cut [92] (fun v92 wc => ∃ (kq : Nat) (x92_41 : Bool), v92 = .bool x92_41 ∧ Aside0 (laws_FnCheck.j3 kq t531 t533 x6_1 ((rd_T43 t533 x6_1).f1) (wrap64 (((rd_T43 t533 x6_1).f1) + (((rd_T43 t533 x6_1).f0).size : Int))) x9_3 (bt t531 x9_3) x92_41 t525 t528 = some r) ∧ Aside0 (kq ≤ k3) ∧ Aside0 (Kd.R k43 43 wc w.heap.size (fun _ => True) (.slice (some ad540) t533.length co16) t533) ∧ Aside0 (Kd.R k82 82 wc w.heap.size (fun _ => True) (.slice Ao10 t525.length co10) t525) ∧ Aside0 (Kd.R k78 78 wc w.heap.size (fun _ => True) (.slice Ao12 t528.length co12) t528) ∧ Aside0 (wc.heap[gb532]? = some (.cells #[(.slice Ao10 t525.length co10), (.slice Ao12 t528.length co12)] 32 (0, 0))) ∧ Aside0 (Below w.heap.size w wc))
          case first =>
           have H := HC42.out; clear HC42
           by_cases c43 : (bt t531 x9_3) ≥ 65
           ·rw [if_pos c43] at H; have c43b0 := decide_eq_true c43; clear c43
            (first | rw [c43b0] | (simp only [i64_w, i32_w]; rw [c43b0]) | skip)
            have H' := am H
            clear H; go_wp2
            go_meet
            case rel => exact ⟨_, (decide ((bt t531 x9_3) ≤ 90)), sq, H', ⟨by have := HK1.out; have := HJ19.out; have := HK3.out; first | omega | exact Nat.le_refl _⟩, ⟨rq HO_5.out⟩, ⟨rq HO_533000.out⟩, ⟨rq HO_533001.out⟩, ⟨bq BK532.out⟩, ⟨bel1 GE532.out⟩⟩
           rw [if_neg c43] at H; have c43b0 := decide_eq_false c43; clear c43
           (first | rw [c43b0] | (simp only [i64_w, i32_w]; rw [c43b0]) | skip)
           have H' := am H
           clear H; go_wp2
           go_meet
           case rel => exact ⟨_, (false), sq, H', ⟨by have := HK1.out; have := HJ19.out; have := HK3.out; first | omega | exact Nat.le_refl _⟩, ⟨rq HO_5.out⟩, ⟨rq HO_533000.out⟩, ⟨rq HO_533001.out⟩, ⟨bq BK532.out⟩, ⟨bel1 GE532.out⟩⟩
          case rest =>
           clear HC42; (try clear c1); (try clear c2); (try clear p2); (try clear c3); (try clear c4); (try clear p4); (try clear q4); (try clear hx4); (try clear p5); (try clear q5); (try clear hx5); (try clear p6); (try clear c16); (try clear c29); (try clear c29b0); (try clear c31); (try clear c32); (try clear c37); (try clear c38); (try clear c38b0); (try clear c39); (try clear c39b0); (try clear c40); (try clear c40b0); (try clear p41); (try clear q41); (try clear hx41); (try clear c43); (try clear c43b0); (try clear hx542_0); (try clear hx542_1); (try clear hx544_0); (try clear hx544_1); (try clear p2); (try clear p41); (try clear p5); (try clear p542); (try clear p544); (try clear p6); (try clear q41); (try clear q5); (try clear q542); (try clear q544); obtain ⟨kq, x92_41, rfl, HA, HJ41, HO_5, HO_533000, HO_533001, BK532, HB⟩ := hcut
           cases kq with
           | zero => exact absurd HA.out (by simp [laws_FnCheck.j3])
           | succ kj41 =>
            have H := HA.out; clear HA
            simp only [laws_FnCheck.j3] at H
            by_cases c44 : x92_41 = true
            ·subst c44
             have H1 : (if 0 ≤ x6_1 then (if x6_1 < (t533.length : Int) then (if 0 ≤ (wrap64 (x9_3 - ((rd_T43 t533 x6_1).f1))) then (if (wrap64 (x9_3 - ((rd_T43 t533 x6_1).f1))) < (((rd_T43 t533 x6_1).f0).size : Int) then (if (bt ((rd_T43 t533 x6_1).f0) (wrap64 (x9_3 - ((rd_T43 t533 x6_1).f1)))) = (((bt t531 x9_3) + 32) % 256) then (laws_FnCheck.l1 kj41 t531 t533 x6_1 ((rd_T43 t533 x6_1).f1) (wrap64 (((rd_T43 t533 x6_1).f1) + (((rd_T43 t533 x6_1).f0).size : Int))) (wrap64 (x9_3 + 1)) t525 t528) else (some false)) else (none)) else (none)) else (none)) else (none)) = some r := b32_
             replace H := H1; clear H1
             replace H := it H; obtain ⟨c45b0, H⟩ := H
             replace H := it H; obtain ⟨c46b0, H⟩ := H; obtain ⟨ji47, hji47⟩ : ∃ j_ : Int, (wrap64 (x9_3 - ((rd_T43 t533 x6_1).f1))) = j_ := ⟨_, rfl⟩
             replace H : (if 0 ≤ (ji47) then (if (ji47) < (((rd_T43 t533 x6_1).f0).size : Int) then (if (bt ((rd_T43 t533 x6_1).f0) (ji47)) = (((bt t531 x9_3) + 32) % 256) then (laws_FnCheck.l1 kj41 t531 t533 x6_1 ((rd_T43 t533 x6_1).f1) (wrap64 (((rd_T43 t533 x6_1).f1) + (((rd_T43 t533 x6_1).f0).size : Int))) (wrap64 (x9_3 + 1)) t525 t528) else (some false)) else (none)) else (none)) = some r := by first | (rw [hji47] at H; exact H) | (simp only [hji47] at H ⊢; exact H)
             have hji47w : (IntKind.i64.wrap (x9_3 - ((rd_T43 t533 x6_1).f1))) = ji47 := (i64_w _).trans hji47
             replace H := it H; obtain ⟨c48b0, H⟩ := H
             replace H := it H; obtain ⟨c49b0, H⟩ := H
             by_cases c51 : (bt ((rd_T43 t533 x6_1).f0) (ji47)) = (((bt t531 x9_3) + 32) % 256)
             ·rw [if_pos c51] at H
              have c51b0 : ((bt ((rd_T43 t533 x6_1).f0) (ji47)) == (((bt t531 x9_3) + 32) % 256)) = true := beq_iff_eq.mpr c51
              have c51b1 : ((bt ((rd_T43 t533 x6_1).f0) (ji47)) != (((bt t531 x9_3) + 32) % 256)) = false := bne_eq_false_iff_eq.mpr c51
              clear c51
              have H' := am H
              clear H
              have p545 : 0 ≤ (x6_1 : Int) := of_decide_eq_true ad
              have q545 : x6_1 < (t533.length : Int) := of_decide_eq_true ad
              obtain ⟨ad545, e545, hx545_0, hx545_1⟩ := at_T43 (Kd.R_reads' HO_5.out).2.2 x6_1 p545 q545
              obtain rfl : ad540 = ad545 := (by injection e545)
              replace p545 := eq_true p545; replace q545 := eq_true q545
              have p50 : 0 ≤ ((ji47) : Int) := of_decide_eq_true ad
              have q50 : (ji47) < (((rd_T43 t533 x6_1).f0).size : Int) := of_decide_eq_true ad
              have hx50 := bt_at ((rd_T43 t533 x6_1).f0) (ji47); replace p50 := eq_true p50; replace q50 := eq_true q50; go_wp2
              go_roundg kj41
              case measure => have := HK1.out; have := HJ19.out; have := HK3.out; have := HJ41.out; omega
              case rel => exact ⟨(wrap64 (x9_3 + 1)), sq, H', ⟨by have := HK1.out; have := HJ19.out; have := HK3.out; have := HJ41.out; omega⟩, ⟨rq HO_5.out⟩, ⟨rq HO_533000.out⟩, ⟨rq HO_533001.out⟩, ⟨bq BK532.out⟩, ⟨bel1 GE532.out⟩⟩
             rw [if_neg c51] at H
             have c51b0 : ((bt ((rd_T43 t533 x6_1).f0) (ji47)) == (((bt t531 x9_3) + 32) % 256)) = false := beq_eq_false_iff_ne.mpr c51
             have c51b1 : ((bt ((rd_T43 t533 x6_1).f0) (ji47)) != (((bt t531 x9_3) + 32) % 256)) = true := bne_iff_ne.mpr c51
             obtain rfl := Option.some.inj H
             have p545 : 0 ≤ (x6_1 : Int) := of_decide_eq_true ad
             have q545 : x6_1 < (t533.length : Int) := of_decide_eq_true ad
             obtain ⟨ad545, e545, hx545_0, hx545_1⟩ := at_T43 (Kd.R_reads' HO_5.out).2.2 x6_1 p545 q545
             obtain rfl : ad540 = ad545 := (by injection e545)
             replace p545 := eq_true p545; replace q545 := eq_true q545
             have p50 : 0 ≤ ((ji47) : Int) := of_decide_eq_true ad
             have q50 : (ji47) < (((rd_T43 t533 x6_1).f0).size : Int) := of_decide_eq_true ad
             have hx50 := bt_at ((rd_T43 t533 x6_1).f0) (ji47); replace p50 := eq_true p50; replace q50 := eq_true q50; go_wp2; go_ret
             exact ⟨by first | rfl | (simp [errW_none, errW_some] <;> rfl) | (simp only [← hji47]; first | rfl | (simp [errW_none, errW_some] <;> rfl)) | (simp [*, errW_none, errW_some] <;> rfl), bel1 GE532.out⟩
            replace c44 := Bool.eq_false_iff.mpr c44; subst c44
            have H1 : (if 0 ≤ x6_1 then (if x6_1 < (t533.length : Int) then (if 0 ≤ (wrap64 (x9_3 - ((rd_T43 t533 x6_1).f1))) then (if (wrap64 (x9_3 - ((rd_T43 t533 x6_1).f1))) < (((rd_T43 t533 x6_1).f0).size : Int) then (if (bt ((rd_T43 t533 x6_1).f0) (wrap64 (x9_3 - ((rd_T43 t533 x6_1).f1)))) = (bt t531 x9_3) then (laws_FnCheck.l1 kj41 t531 t533 x6_1 ((rd_T43 t533 x6_1).f1) (wrap64 (((rd_T43 t533 x6_1).f1) + (((rd_T43 t533 x6_1).f0).size : Int))) (wrap64 (x9_3 + 1)) t525 t528) else (some false)) else (none)) else (none)) else (none)) else (none)) = some r := b13_
            replace H := H1; clear H1
            replace H := it H; obtain ⟨c52b0, H⟩ := H
            replace H := it H; obtain ⟨c53b0, H⟩ := H; obtain ⟨ji54, hji54⟩ : ∃ j_ : Int, (wrap64 (x9_3 - ((rd_T43 t533 x6_1).f1))) = j_ := ⟨_, rfl⟩
            replace H : (if 0 ≤ (ji54) then (if (ji54) < (((rd_T43 t533 x6_1).f0).size : Int) then (if (bt ((rd_T43 t533 x6_1).f0) (ji54)) = (bt t531 x9_3) then (laws_FnCheck.l1 kj41 t531 t533 x6_1 ((rd_T43 t533 x6_1).f1) (wrap64 (((rd_T43 t533 x6_1).f1) + (((rd_T43 t533 x6_1).f0).size : Int))) (wrap64 (x9_3 + 1)) t525 t528) else (some false)) else (none)) else (none)) = some r := by first | (rw [hji54] at H; exact H) | (simp only [hji54] at H ⊢; exact H)
            have hji54w : (IntKind.i64.wrap (x9_3 - ((rd_T43 t533 x6_1).f1))) = ji54 := (i64_w _).trans hji54
            (try clear hji47w)
            replace H := it H; obtain ⟨c55b0, H⟩ := H
            replace H := it H; obtain ⟨c56b0, H⟩ := H
            by_cases c58 : (bt ((rd_T43 t533 x6_1).f0) (ji54)) = (bt t531 x9_3)
            ·rw [if_pos c58] at H
             have c58b0 : ((bt ((rd_T43 t533 x6_1).f0) (ji54)) == (bt t531 x9_3)) = true := beq_iff_eq.mpr c58
             have c58b1 : ((bt ((rd_T43 t533 x6_1).f0) (ji54)) != (bt t531 x9_3)) = false := bne_eq_false_iff_eq.mpr c58
             clear c58
             have H' := am H
             clear H
             have p546 : 0 ≤ (x6_1 : Int) := of_decide_eq_true ad
             have q546 : x6_1 < (t533.length : Int) := of_decide_eq_true ad
             obtain ⟨ad546, e546, hx546_0, hx546_1⟩ := at_T43 (Kd.R_reads' HO_5.out).2.2 x6_1 p546 q546
             obtain rfl : ad540 = ad546 := (by injection e546)
             replace p546 := eq_true p546; replace q546 := eq_true q546
             have p57 : 0 ≤ ((ji54) : Int) := of_decide_eq_true ad
             have q57 : (ji54) < (((rd_T43 t533 x6_1).f0).size : Int) := of_decide_eq_true ad
             have hx57 := bt_at ((rd_T43 t533 x6_1).f0) (ji54); replace p57 := eq_true p57; replace q57 := eq_true q57; go_wp2
             go_roundg kj41
             case measure => have := HK1.out; have := HJ19.out; have := HK3.out; have := HJ41.out; omega
             case rel => exact ⟨(wrap64 (x9_3 + 1)), sq, H', ⟨by have := HK1.out; have := HJ19.out; have := HK3.out; have := HJ41.out; omega⟩, ⟨rq HO_5.out⟩, ⟨rq HO_533000.out⟩, ⟨rq HO_533001.out⟩, ⟨bq BK532.out⟩, ⟨bel1 GE532.out⟩⟩
            rw [if_neg c58] at H
            have c58b0 : ((bt ((rd_T43 t533 x6_1).f0) (ji54)) == (bt t531 x9_3)) = false := beq_eq_false_iff_ne.mpr c58
            have c58b1 : ((bt ((rd_T43 t533 x6_1).f0) (ji54)) != (bt t531 x9_3)) = true := bne_iff_ne.mpr c58
            obtain rfl := Option.some.inj H
            have p546 : 0 ≤ (x6_1 : Int) := of_decide_eq_true ad
            have q546 : x6_1 < (t533.length : Int) := of_decide_eq_true ad
            obtain ⟨ad546, e546, hx546_0, hx546_1⟩ := at_T43 (Kd.R_reads' HO_5.out).2.2 x6_1 p546 q546
            obtain rfl : ad540 = ad546 := (by injection e546)
            replace p546 := eq_true p546; replace q546 := eq_true q546
            have p57 : 0 ≤ ((ji54) : Int) := of_decide_eq_true ad
            have q57 : (ji54) < (((rd_T43 t533 x6_1).f0).size : Int) := of_decide_eq_true ad
            have hx57 := bt_at ((rd_T43 t533 x6_1).f0) (ji54); replace p57 := eq_true p57; replace q57 := eq_true q57; go_wp2; go_ret
            exact ⟨by first | rfl | (simp [errW_none, errW_some] <;> rfl) | (simp only [← hji54]; first | rfl | (simp [errW_none, errW_some] <;> rfl)) | (simp [*, errW_none, errW_some] <;> rfl), bel1 GE532.out⟩
         rw [if_neg c38] at H; have c38b0 := decide_eq_false c38; clear c38
         have H' := am H
         clear H; go_wp2
         go_roundg k3
         case measure => have := HK1.out; have := HJ19.out; have := HK3.out; omega
         case rel => exact ⟨(wrap64 (x6_1 + 1)), sq, H', ⟨by have := HK1.out; have := HJ19.out; have := HK3.out; omega⟩, ⟨rq HO_5.out⟩, ⟨rq HO_533000.out⟩, ⟨rq HO_533001.out⟩, ⟨bq BK532.out⟩, ⟨bel1 GE532.out⟩⟩
    rw [if_neg c18] at H; have c18b0 := decide_eq_false c18; clear c18; obtain rfl := Option.some.inj H; go_wp2; go_ret
    exact ⟨eq_, bel1 GE532.out⟩
 replace c7 := Bool.eq_false_iff.mpr c7; subst c7
 have H1 : (some false) = some r := b13_
 replace H := H1; clear H1
 obtain rfl := Option.some.inj H; go_enter Tryz.func4, Tryz.ntmps4
 go_wp2_with (first | ((with_reducible refine gate_callee (f := 14) rfl ?_); refine goesL_ (some 16) rfl rfl Tryz.func14 (by kernel_rfl) rfl #[.slice A0 l0.length c0] rfl mq ?_; (with_reducible refine (spec_DrawCheck.calls k _ _ l0 t525 t528 t531 _ ?side1 ?side2 A3.out).mono ?_); (case side1 => repeat (first | exact HR0.out | (with_reducible refine Kd.C_alloc ?_ _) | (with_reducible refine Kd.C_drewN ?_ _) | (with_reducible refine Kd.C_drew ?_))); (case side2 => exact HC0.out); rintro e w59 ⟨v526, v529, rfl, ho0, ho1, hb⟩; refine ⟨_, rfl, ?_⟩; have HO527 := am (Kd.R_lower ho0 (below_size bel)); have HO530 := am (Kd.R_lower ho1 (below_size bel)); replace HB := am (below_step bel hb); (try clear hb); (try clear hb2); (try clear hk); (try clear hi); (try clear ho0); (try clear ho1)) | ((with_reducible refine gate_dst (N := 3) rfl ?_); (try (refine gate_guard (by rfl) ?_; dsimp only)); refine bx 3 (cs := #[.slice none 0 0, .slice none 0 0]) (t := 32) ?_; intro gb532 hg w60 hbox hb; replace HO527 := am (Kd.R_below (rq HO527.out) hb); replace HO530 := am (Kd.R_below (rq HO530.out) hb); have BK532 := am (hbox); have GW532 := am ((b19_ : w.heap.size ≤ gb532)); have GE532 := am ((b19_ : w.heap.size ≤ gb532)); replace HB := am (below_step bel hb); clear hb hbox hg; obtain ⟨Ao61, co61, eo61⟩ := Kd.R_slice HO527.out; subst eo61; have hcz62_0 := bc BK532.out 0; have hcz62_1 := bc BK532.out 1; have hfz62_0 := bf BK532.out 0; have hfz62_1 := bf BK532.out 1; obtain ⟨Ao63, co63, eo63⟩ := Kd.R_slice HO530.out; subst eo63) | ((with_reducible refine gate_callee (f := 8) rfl ?_); refine goesL_ (some 21) rfl rfl Tryz.func8 (by kernel_rfl) rfl #[.agg #[.slice Ao61 t525.length co61, .slice Ao63 t528.length co63], .string t531] rfl mq ?_; (with_reducible refine (impl_Check.calls k _ _ t525 _ _ t528 t531 t533 _ ?side1 ?side2 ?side3 ?side4 A4.out).mono ?_); (case side1 => refine (Kd.R_reads' (e := 82) (base := w.heap.size) (ok := fun k_ => True) (n := t525.length) (c := co61) ?_).2.2; exact (rq ((Kd.R_mono (Kd.R_far (p := ⟨gb532, 1, none⟩) (Kd.R_far (p := ⟨gb532, 0, none⟩) (Kd.R_types HO527.out BK532.out (by decide)) (fun _ hk => hk.2) (.slice Ao61 t525.length co61)) (fun _ hk => hk.2) (.slice Ao63 t528.length co63)) (fun _ h_ => h_.1))))); (case side2 => exact (Kd.R_reads' HO527.out).2.1); (case side3 => refine (Kd.R_reads' (e := 78) (base := w.heap.size) (ok := fun k_ => True) (n := t528.length) (c := co63) ?_).2.2; exact (rq ((Kd.R_mono (Kd.R_far (p := ⟨gb532, 1, none⟩) (Kd.R_far (p := ⟨gb532, 0, none⟩) (Kd.R_types HO530.out BK532.out (by decide)) (fun _ hk => hk.2) (.slice Ao61 t525.length co61)) (fun _ hk => hk.2) (.slice Ao63 t528.length co63)) (fun _ h_ => h_.1))))); (case side4 => exact (Kd.R_reads' HO530.out).2.1); rintro e w64 ⟨v534, rfl, ho0, hb⟩; refine ⟨_, rfl, ?_⟩; replace HO527 := am (Kd.R_below (rq ((Kd.R_mono (Kd.R_far (p := ⟨gb532, 1, none⟩) (Kd.R_far (p := ⟨gb532, 0, none⟩) (Kd.R_types HO527.out BK532.out (by decide)) (fun _ hk => hk.2) (.slice Ao61 t525.length co61)) (fun _ hk => hk.2) (.slice Ao63 t528.length co63)) (fun _ h_ => h_.1)))) hb); replace HO530 := am (Kd.R_below (rq ((Kd.R_mono (Kd.R_far (p := ⟨gb532, 1, none⟩) (Kd.R_far (p := ⟨gb532, 0, none⟩) (Kd.R_types HO530.out BK532.out (by decide)) (fun _ hk => hk.2) (.slice Ao61 t525.length co61)) (fun _ hk => hk.2) (.slice Ao63 t528.length co63)) (fun _ h_ => h_.1)))) hb); have HO535 := am (Kd.R_lower ho0 (below_size (bel1 GE532.out))); replace BK532 := am (blk_below (g := gb532) (o := .cells #[.slice Ao61 t525.length co61, .slice Ao63 t528.length co63] 32 (0, 0)) (by (with_reducible repeat (first | refine blk_drewN ?_ _ | refine blk_drew ?_ | refine blk_alloc ?_ _)); refine blk_put (cs := #[.slice Ao61 t525.length co61, .slice none 0 0]) ?_ 1 _ rfl; (with_reducible repeat (first | refine blk_drewN ?_ _ | refine blk_drew ?_ | refine blk_alloc ?_ _)); refine blk_put (cs := #[.slice none 0 0, .slice none 0 0]) ?_ 0 _ rfl; (with_reducible repeat (first | refine blk_drewN ?_ _ | refine blk_drew ?_ | refine blk_alloc ?_ _)); exact BK532.out) hb); replace HB := am (below_step (bel1 GE532.out) hb); (try clear hb); (try clear hb2); (try clear hk); (try clear hi); (try clear ho0); have hcz65_0 := bc BK532.out 0; have hcz65_1 := bc BK532.out 1; have hfz65_0 := bf BK532.out 0; have hfz65_1 := bf BK532.out 1) | ((with_reducible refine gate_callee (f := 6) rfl ?_); refine goesL_ (some 25) rfl rfl Tryz.func6 (by kernel_rfl) rfl #[.agg #[.slice Ao61 t525.length co61, .slice Ao63 t528.length co63], .string t531] rfl mq ?_; (with_reducible refine (spec_Check.calls k _ _ t525 _ _ t528 t531 t536 _ ?side1 ?side2 ?side3 ?side4 A5.out).mono ?_); (case side1 => exact cq (Kd.R_reads' HO527.out).2.2); (case side2 => exact (Kd.R_reads' HO527.out).2.1); (case side3 => exact cq (Kd.R_reads' HO530.out).2.2); (case side4 => exact (Kd.R_reads' HO530.out).2.1); rintro e w66 ⟨v537, rfl, ho0, hb⟩; refine ⟨_, rfl, ?_⟩; replace HO527 := am (Kd.R_below (rq HO527.out) hb); replace HO530 := am (Kd.R_below (rq HO530.out) hb); have HO538 := am (Kd.R_lower (Kd.R_new' ho0 (Kd.R_lt (rq HO535.out))) (below_size (bel1 GE532.out))); replace HO535 := am (Kd.R_elder' (rq HO535.out) (Kd.R_base ho0) hb); replace BK532 := am (blk_below (g := gb532) (o := .cells #[.slice Ao61 t525.length co61, .slice Ao63 t528.length co63] 32 (0, 0)) (bq BK532.out) hb); replace HB := am (below_step (bel1 GE532.out) hb); (try clear hb); (try clear hb2); (try clear hk); (try clear hi); (try clear ho0); obtain ⟨Ao67, co67, eo67⟩ := Kd.R_slice HO535.out; subst eo67; obtain ⟨Ao68, co68, eo68⟩ := Kd.R_slice HO538.out; subst eo68) | ((with_reducible refine gate_callee (f := 15) rfl ?_); refine goesL_ (some 26) rfl rfl Tryz.func15 (by kernel_rfl) rfl #[.slice Ao67 t533.length co67, .slice Ao68 t536.length co68] rfl mq ?_; (with_reducible refine (laws_mdGuesses.calls k _ _ t533 _ _ t536 false _ ?side1 ?side2 ?side3 ?side4 A6.out).mono ?_); (case side1 => exact cq (Kd.R_reads' HO535.out).2.2); (case side2 => exact (Kd.R_reads' HO535.out).2.1); (case side3 => exact cq (Kd.R_reads' HO538.out).2.2); (case side4 => exact (Kd.R_reads' HO538.out).2.1); rintro e w' ⟨rfl, ⟨nd, rfl⟩⟩; refine ⟨_, rfl, ?_⟩))
 go_ret
 exact ⟨eq_, bel1 GE532.out⟩

/-- THE ONE PURE STATEMENT of laws_FnCheck: yours. -/
def laws_FnCheck.Pure : Prop := ∀ (l0 : List Int), l0.length ≤ maxLen → l0.length * 1 ≤ 140737488351232 → (∀ x ∈ l0, (Lit.int .u8 x).wf = true) → ∃ k, laws_FnCheck.f k l0 = some true
theorem laws_FnCheck.walk (P : laws_FnCheck.Pure) (a0 : Option Addr) (len0 cap0 : Nat) (z0 : List Int) (w : World) (w0 : (a0 = none ∧ len0 = 0 ∧ cap0 = 0 ∧ z0 = []) ∨ ∃ x, a0 = some x ∧ len0 ≤ cap0 ∧ cap0 ≤ maxLen ∧ z0.length = cap0 ∧ (∀ i, i < z0.length → w.cell? (x.add i) = some (.int .u8 (z0.getD i 0))) ∧ ∀ n ∈ z0, (Lit.int .u8 n).wf = true) (y0 : len0 * 1 ≤ 140737488351232) :
  Calls Tryz.prog 4 #[.slice a0 len0 cap0] w fun e w' => e = .returned (.bool true) ∧ Below w.heap.size w w' := by
 obtain ⟨l0, rfl, hr0, hm0, hw0, hc0⟩ := ReadsInt.ofRowC w0; obtain ⟨k, h⟩ := P l0 hm0 y0 hw0
 refine (laws_FnCheck.calls k _ _ l0 true w (Kd.C_of_reads (d := (0 : Int)) (h1 := fun _ => rfl) hr0) hc0 h).mono ?_
 rintro e w' ⟨rfl, hd⟩
 exact ⟨rfl, hd⟩
end Go.Proofs.YtfpmfaelodfecaaGreatDoor.QFnCheck

import Derived.Test.YtfpmfaelodfecaaGreatDoorQFnCheckx0
import Derived.Test.YtfpmfaelodfecaaGreatDoorQFnCheckx17
import Derived.Test.YtfpmfaelodfecaaGreatDoorQFnCheckx19
import Derived.Test.YtfpmfaelodfecaaGreatDoorVMSh2
namespace Go.Proofs.YtfpmfaelodfecaaGreatDoor.QFnCheck
open Go.RowKit Go.Proofs.YtfpmfaelodfecaaGreatDoorW.PrintWords Go.Proofs.YtfpmfaelodfecaaGreatDoorW.PrintLast Go.Proofs.YtfpmfaelodfecaaGreatDoorW.PrintMore Go.Proofs.YtfpmfaelodfecaaGreatDoor.Sh
attribute [local go_sem] max2_int min2_int max_two min_two max_three min_three max_four min_four
set_option linter.unusedVariables false
set_option linter.unusedSimpArgs false
-- shrunk

/-! ### spec_l13AnyBook: function 38 -/
def spec_l13AnyBook.f (k : Nat) (s0_0 : List Int) (s0_1 : Int) : Option ((List (S82)) × (List (S78)) × Int) := (spec_l13Book.f k s0_0 s0_1).bind fun bt435 => ((spec_l1Rd_pick.f k s0_0 bt435.2.2 16).bind fun bt443 => (if bt443.1 = 0 then ((spec_l13AnyAffix.f k s0_0 bt443.2).bind fun bt445 => (if bt435.1.length < 1954687338268 then (some ((bt435.1 ++ [(⟨bt445.1, bt445.2.1, bt445.2.2.1, bt445.2.2.2.1, bt445.2.2.2.2.1⟩ : S82)]), bt435.2.1, bt445.2.2.2.2.2)) else (none))) else (if bt443.1 = 1 then ((spec_l13AnyWord.f k s0_0 bt443.2).bind fun bt454 => ((spec_l1Rd_of.f k s0_0 bt454.2 (([(⟨#[]⟩ : ByteArray), (⟨#[83, 71]⟩ : ByteArray), (⟨#[115]⟩ : ByteArray), (⟨#[65, 66, 67, 68, 69]⟩ : ByteArray)] : List ByteArray))).bind fun bt459 => (if bt435.2.1.length < 4398046511104 then (some (bt435.1, (bt435.2.1 ++ [(⟨bt454.1, bt459.1⟩ : S78)]), bt459.2)) else (none)))) else (if bt443.1 = 2 then (if (bt435.2.1.length : Int) > 0 then ((spec_l1Rd_of.f k s0_0 bt443.2 (([(⟨#[]⟩ : ByteArray), (⟨#[122, 122]⟩ : ByteArray), (⟨#[65]⟩ : ByteArray)] : List ByteArray))).bind fun bt467 => (if 0 < (bt435.2.1.length : Int) then (some (bt435.1, (bt435.2.1.set (0 : Int).toNat (⟨bt467.1, (rd_T78 bt435.2.1 0).f1⟩ : S78)), bt467.2)) else (none))) else (some (bt435.1, bt435.2.1, bt443.2))) else (some (bt435.1, bt435.2.1, bt443.2))))))
def spec_l13AnyBook.T4 : Bool × List (List Nat × List Nat) := (true, [([], []), ([0], [0]), ([], []), ([2], [2]), ([3], [3]), ([1, 4, 3], [1, 4]), ([0, 1, 2, 3, 4, 5], []), ([6, 5, 5, 0, 1, 2, 3, 4, 5], [5, 6])])
def spec_l13AnyBook.B4 : List Nat := [0, 1, 0, 4, 12, 31, 63, 127]
theorem spec_l13AnyBook.tab4 : rtab .any (opsOf Tryz.f38 4) = spec_l13AnyBook.T4 := by kernel_rfl
theorem spec_l13AnyBook.bits4 : waitsOk spec_l13AnyBook.T4.2 spec_l13AnyBook.B4 = true := by kernel_rfl
def spec_l13AnyBook.T6 : Bool × List (List Nat × List Nat) := (true, [([], []), ([0], [0]), ([], []), ([2], [2]), ([], []), ([], []), ([4, 5, 3], [4, 5]), ([3, 6], [3, 6]), ([7], [7]), ([1, 8, 6], [1, 8]), ([0, 1, 2, 3, 4, 5, 6, 7, 8, 9], []), ([10, 9, 9, 0, 1, 2, 3, 4, 5, 6, 7, 8, 9], [9, 10])])
def spec_l13AnyBook.B6 : List Nat := [0, 1, 0, 4, 0, 0, 60, 124, 252, 511, 1023, 2047]
theorem spec_l13AnyBook.tab6 : rtab .any (opsOf Tryz.f38 6) = spec_l13AnyBook.T6 := by kernel_rfl
theorem spec_l13AnyBook.bits6 : waitsOk spec_l13AnyBook.T6.2 spec_l13AnyBook.B6 = true := by kernel_rfl
def spec_l13AnyBook.T9 : Bool × List (List Nat × List Nat) := (true, [([], []), ([0], [0]), ([], []), ([], []), ([2, 3], [2, 3]), ([1, 0, 1, 2, 3, 4], [1]), ([5, 0, 1, 2, 3, 4], [5]), ([6, 4, 4, 0, 1, 2, 3, 4], [4, 6])])
def spec_l13AnyBook.B9 : List Nat := [0, 1, 0, 0, 12, 31, 63, 127]
theorem spec_l13AnyBook.tab9 : rtab .any (opsOf Tryz.f38 9) = spec_l13AnyBook.T9 := by kernel_rfl
theorem spec_l13AnyBook.bits9 : waitsOk spec_l13AnyBook.T9.2 spec_l13AnyBook.B9 = true := by kernel_rfl
set_option maxHeartbeats 8000000 in
set_option maxRecDepth 100000 in
theorem spec_l13AnyBook.calls (k : Nat) (g : Nat) (s0_0 : List Int) (s0_1 : Int) (r1 : List (S82)) (r2 : List (S78)) (r3 : Int) (w0 w : World) (hI : IsS103 w0 w g s0_0 s0_1) (hB : Below w0.heap.size w0 w) (h : spec_l13AnyBook.f k s0_0 s0_1 = some (r1, r2, r3)) :
  Calls Tryz.prog 38 #[.pointer (some ⟨g, 0, none⟩)] w fun e w' => ∃ v0_ v1_ : Value, e = .returned (.agg #[v0_, v1_]) ∧ Kd.R k82 82 w' w.heap.size (fun _ => True) v0_ r1 ∧ Kd.R k78 78 w' w.heap.size (fun _ => True) v1_ r2 ∧ IsS103 w0 w' g s0_0 r3 ∧ Below w0.heap.size w0 w' ∧ KeepBut w w' g none := by
 have hu32 := Tryz.underlying32; have hu78 := Tryz.underlying78; have HI0 := am hI; have HK := am (KeepBut.refl w g none); have HL := am hB.size; clear hI; have HW0 := am hB.size; have HB := am hB; clear hB
 have H : ((spec_l13Book.f k s0_0 s0_1).bind fun bt435 => ((spec_l1Rd_pick.f k s0_0 bt435.2.2 16).bind fun bt443 => (if bt443.1 = 0 then ((spec_l13AnyAffix.f k s0_0 bt443.2).bind fun bt445 => (if bt435.1.length < 1954687338268 then (some ((bt435.1 ++ [(⟨bt445.1, bt445.2.1, bt445.2.2.1, bt445.2.2.2.1, bt445.2.2.2.2.1⟩ : S82)]), bt435.2.1, bt445.2.2.2.2.2)) else (none))) else (if bt443.1 = 1 then ((spec_l13AnyWord.f k s0_0 bt443.2).bind fun bt454 => ((spec_l1Rd_of.f k s0_0 bt454.2 (([(⟨#[]⟩ : ByteArray), (⟨#[83, 71]⟩ : ByteArray), (⟨#[115]⟩ : ByteArray), (⟨#[65, 66, 67, 68, 69]⟩ : ByteArray)] : List ByteArray))).bind fun bt459 => (if bt435.2.1.length < 4398046511104 then (some (bt435.1, (bt435.2.1 ++ [(⟨bt454.1, bt459.1⟩ : S78)]), bt459.2)) else (none)))) else (if bt443.1 = 2 then (if (bt435.2.1.length : Int) > 0 then ((spec_l1Rd_of.f k s0_0 bt443.2 (([(⟨#[]⟩ : ByteArray), (⟨#[122, 122]⟩ : ByteArray), (⟨#[65]⟩ : ByteArray)] : List ByteArray))).bind fun bt467 => (if 0 < (bt435.2.1.length : Int) then (some (bt435.1, (bt435.2.1.set (0 : Int).toNat (⟨bt467.1, (rd_T78 bt435.2.1 0).f1⟩ : S78)), bt467.2)) else (none))) else (some (bt435.1, bt435.2.1, bt443.2))) else (some (bt435.1, bt435.2.1, bt443.2))))))) = some (r1, r2, r3) := h
 clear h; replace H := bs H; obtain ⟨⟨t435, t438, t441⟩, A20, H⟩ := H; replace H : ((spec_l1Rd_pick.f k s0_0 t441 16).bind fun bt443 => (if bt443.1 = 0 then ((spec_l13AnyAffix.f k s0_0 bt443.2).bind fun bt445 => (if t435.length < 1954687338268 then (some ((t435 ++ [(⟨bt445.1, bt445.2.1, bt445.2.2.1, bt445.2.2.2.1, bt445.2.2.2.2.1⟩ : S82)]), t438, bt445.2.2.2.2.2)) else (none))) else (if bt443.1 = 1 then ((spec_l13AnyWord.f k s0_0 bt443.2).bind fun bt454 => ((spec_l1Rd_of.f k s0_0 bt454.2 (([(⟨#[]⟩ : ByteArray), (⟨#[83, 71]⟩ : ByteArray), (⟨#[115]⟩ : ByteArray), (⟨#[65, 66, 67, 68, 69]⟩ : ByteArray)] : List ByteArray))).bind fun bt459 => (if t438.length < 4398046511104 then (some (t435, (t438 ++ [(⟨bt454.1, bt459.1⟩ : S78)]), bt459.2)) else (none)))) else (if bt443.1 = 2 then (if (t438.length : Int) > 0 then ((spec_l1Rd_of.f k s0_0 bt443.2 (([(⟨#[]⟩ : ByteArray), (⟨#[122, 122]⟩ : ByteArray), (⟨#[65]⟩ : ByteArray)] : List ByteArray))).bind fun bt467 => (if 0 < (t438.length : Int) then (some (t435, (t438.set (0 : Int).toNat (⟨bt467.1, (rd_T78 t438 0).f1⟩ : S78)), bt467.2)) else (none))) else (some (t435, t438, bt443.2))) else (some (t435, t438, bt443.2)))))) = some (r1, r2, r3) := H; have A2 := Aside0.mk A20; clear A20; replace H := bs H; obtain ⟨⟨t443, t444⟩, A30, H⟩ := H; replace H : (if t443 = 0 then ((spec_l13AnyAffix.f k s0_0 t444).bind fun bt445 => (if t435.length < 1954687338268 then (some ((t435 ++ [(⟨bt445.1, bt445.2.1, bt445.2.2.1, bt445.2.2.2.1, bt445.2.2.2.2.1⟩ : S82)]), t438, bt445.2.2.2.2.2)) else (none))) else (if t443 = 1 then ((spec_l13AnyWord.f k s0_0 t444).bind fun bt454 => ((spec_l1Rd_of.f k s0_0 bt454.2 (([(⟨#[]⟩ : ByteArray), (⟨#[83, 71]⟩ : ByteArray), (⟨#[115]⟩ : ByteArray), (⟨#[65, 66, 67, 68, 69]⟩ : ByteArray)] : List ByteArray))).bind fun bt459 => (if t438.length < 4398046511104 then (some (t435, (t438 ++ [(⟨bt454.1, bt459.1⟩ : S78)]), bt459.2)) else (none)))) else (if t443 = 2 then (if (t438.length : Int) > 0 then ((spec_l1Rd_of.f k s0_0 t444 (([(⟨#[]⟩ : ByteArray), (⟨#[122, 122]⟩ : ByteArray), (⟨#[65]⟩ : ByteArray)] : List ByteArray))).bind fun bt467 => (if 0 < (t438.length : Int) then (some (t435, (t438.set (0 : Int).toNat (⟨bt467.1, (rd_T78 t438 0).f1⟩ : S78)), bt467.2)) else (none))) else (some (t435, t438, t444))) else (some (t435, t438, t444))))) = some (r1, r2, r3) := H; have A3 := Aside0.mk A30; clear A30
 by_cases c4 : t443 = 0
 ·rw [if_pos c4] at H
  have c4b0 : (t443 == 0) = true := beq_iff_eq.mpr c4
  have c4b1 : (t443 != 0) = false := bne_eq_false_iff_eq.mpr c4
  clear c4; replace H := bs H; obtain ⟨⟨t445, t446, t447, t448, t449, t450⟩, A50, H⟩ := H; replace H : (if t435.length < 1954687338268 then (some ((t435 ++ [(⟨t445, t446, t447, t448, t449⟩ : S82)]), t438, t450)) else (none)) = some (r1, r2, r3) := H; have A5 := Aside0.mk A50; clear A50
  replace H := ip H; obtain ⟨c6, H⟩ := H; have LMc6 := Aside0.mk c6; clear c6; obtain ⟨y451, hy451⟩ : ∃ y_ : List (S82), y_ = (t435 ++ [(⟨t445, t446, t447, t448, t449⟩ : S82)]) := ⟨_, rfl⟩
  replace H : (some (y451, t438, t450)) = some (r1, r2, r3) := by first | (rw [hy451]; with_reducible exact H) | (have H2_ := bm H; rw [hy451]; with_reducible exact H2_) | (with_reducible exact bm H) | with_reducible exact H | (rw [hy451]; exact H) | exact H
  have Ny451 := am hy451; clear hy451
  simp only [Option.some.injEq, Prod.mk.injEq] at H
  obtain ⟨rfl, rfl, rfl⟩ := H; go_enter Tryz.func38, Tryz.ntmps38
  try go_wp2_with (first | ((with_reducible refine gate_dst (N := 2) rfl ?_); refine bx 2 (cs := #[.slice none 0 0, .slice none 0 0]) (t := 32) ?_; intro gb434 hg w7 hbox hb; replace HB := am (below_step b3_ hb); have BK434 := am (hbox); have GW434 := am ((b1_ : w.heap.size ≤ gb434)); have GE434 := am ((Nat.le_trans HW0.out (b1_ : w.heap.size ≤ gb434) : w0.heap.size ≤ gb434)); replace HK := am (KeepBut.trans b0_ (KeepBut.of_below hb g none) (.inl rfl)); have NB0_434 := am ((b16_ : g ≠ gb434)); have NB434_0 := am ((b17_ : gb434 ≠ g)); replace HI0 := am (IsS103.below b5_ hb); clear hb hbox hg) | ((with_reducible refine gate_callee (f := 66) rfl ?_); refine goesL_ (some 5) rfl rfl Tryz.func66 (by kernel_rfl) rfl #[.pointer (some ⟨g, 0, none⟩)] rfl mq ?_; (with_reducible refine (spec_l13Book.calls k g s0_0 s0_1 t435 t438 t441 w0 _ ?side1 ?side2 A2.out).mono ?_); (case side1 => repeat (first | (with_reducible first | exact HI0.out | apply IsS103.alloc | apply IsS103.drewN | apply IsS103.drew | apply IsS103.set_1 | refine IsS103.far ?_ NB0_434.out _) | exact HI0.out)); (case side2 => repeat (first | (with_reducible first | exact HB.out | apply below_alloc | apply pw_below_drewN | apply below_drew1 | refine below_set ?_ (IsS103.ge HI0.out) | refine below_set ?_ GE434.out) | exact HB.out)); rintro e w8 ⟨v436, v439, rfl, ho0, ho1, hi, hb, hk⟩; refine ⟨_, rfl, ?_⟩; replace BK434 := am (KeepBut.blk hk (g' := gb434) (o := .cells #[.slice none 0 0, .slice none 0 0] 32 (0, 0)) (bq BK434.out) NB434_0.out (by simp)); have HO437 := am (Kd.R_lower ho0 (keep_size (w := w) (g := g) (row := none) b6_)); have HO440 := am (Kd.R_lower ho1 (keep_size (w := w) (g := g) (row := none) b6_)); replace HK := am (KeepBut.trans b6_ hk (.inl rfl)); replace HB := am (hb); replace HI0 := am (hi); (try clear hb); (try clear hb2); (try clear hk); (try clear hi); (try clear ho0); (try clear ho1)) | ((with_reducible refine gate_dst (N := 3) rfl ?_); refine bx 3 (cs := #[.slice none 0 0, .slice none 0 0]) (t := 32) ?_; intro gb442 hg w9 hbox hb; replace HO437 := am (Kd.R_below (rq HO437.out) hb); replace HO440 := am (Kd.R_below (rq HO440.out) hb); replace HB := am (below_step b45_ hb); have BK442 := am (hbox); have GW442 := am ((b23_ : w.heap.size ≤ gb442)); have GE442 := am ((Nat.le_trans HW0.out (b23_ : w.heap.size ≤ gb442) : w0.heap.size ≤ gb442)); replace HK := am (KeepBut.trans b6_ (KeepBut.of_below hb g none) (.inl rfl)); have NB434_442 := am ((b58_ : gb434 ≠ gb442)); have NB442_434 := am ((b59_ : gb442 ≠ gb434)); replace BK434 := am (blk_below (g := gb434) (o := .cells #[.slice none 0 0, .slice none 0 0] 32 (0, 0)) (bq BK434.out) hb); have NB0_442 := am ((b38_ : g ≠ gb442)); have NB442_0 := am ((b39_ : gb442 ≠ g)); replace HI0 := am (IsS103.below b47_ hb); clear hb hbox hg; obtain ⟨Ao10, co10, eo10⟩ := Kd.R_slice HO437.out; subst eo10; have hnb11 := NB442_434.out; have hnc11 := NB434_442.out; have hnb12 := NB442_0.out; have hnc12 := NB0_442.out; have hcz13_0 := bc BK442.out 0; have hcz13_1 := bc BK442.out 1; have hfz13_0 := bf BK442.out 0; have hfz13_1 := bf BK442.out 1; obtain ⟨Ao14, co14, eo14⟩ := Kd.R_slice HO440.out; subst eo14) | ((with_reducible refine gate_callee (f := 39) rfl ?_); refine goesL_ (some 7) rfl rfl Tryz.func39 (by kernel_rfl) rfl #[.pointer (some ⟨g, 0, none⟩), .int .i64 16] rfl mq ?_; (with_reducible refine (spec_l1Rd_pick.calls k g s0_0 t441 16 t443 t444 w0 _ ?side1 ?side2 A3.out).mono ?_); (case side1 => repeat (first | (with_reducible first | exact HI0.out | apply IsS103.alloc | apply IsS103.drewN | apply IsS103.drew | apply IsS103.set_1 | refine IsS103.far ?_ NB0_434.out _ | refine IsS103.far ?_ NB0_442.out _) | exact HI0.out)); (case side2 => repeat (first | (with_reducible first | exact HB.out | apply below_alloc | apply pw_below_drewN | apply below_drew1 | refine below_set ?_ (IsS103.ge HI0.out) | refine below_set ?_ GE434.out | refine below_set ?_ GE442.out) | exact HB.out)); rintro e w15 ⟨rfl, hi, hb, hk⟩; refine ⟨_, rfl, ?_⟩; replace BK434 := am (KeepBut.blk hk (g' := gb434) (o := .cells #[.slice none 0 0, .slice none 0 0] 32 (0, 0)) b28_ NB434_0.out (by simp)); replace HO437 := am (Kd.R_mono (Kd.R_keep (IsS103.apart (show IsS103 w0 _ g s0_0 t441 from by repeat (first | (with_reducible first | exact HI0.out | apply IsS103.alloc | apply IsS103.drewN | apply IsS103.drew | apply IsS103.set_1 | refine IsS103.far ?_ NB0_434.out _ | refine IsS103.far ?_ NB0_442.out _) | exact HI0.out)) (rq ((Kd.R_mono (Kd.R_far (p := ⟨gb442, 1, none⟩) (Kd.R_far (p := ⟨gb442, 0, none⟩) (Kd.R_types HO437.out BK442.out (by decide)) (fun _ hk => hk.2) (.slice Ao10 t435.length co10)) (fun _ hk => hk.2) (.slice Ao14 t438.length co14)) (fun _ h_ => h_.1)))) (by decide)) hk (fun _ h => h.2)) (fun _ h => h.1)); replace HO440 := am (Kd.R_mono (Kd.R_keep (IsS103.apart (show IsS103 w0 _ g s0_0 t441 from by repeat (first | (with_reducible first | exact HI0.out | apply IsS103.alloc | apply IsS103.drewN | apply IsS103.drew | apply IsS103.set_1 | refine IsS103.far ?_ NB0_434.out _ | refine IsS103.far ?_ NB0_442.out _) | exact HI0.out)) (rq ((Kd.R_mono (Kd.R_far (p := ⟨gb442, 1, none⟩) (Kd.R_far (p := ⟨gb442, 0, none⟩) (Kd.R_types HO440.out BK442.out (by decide)) (fun _ hk => hk.2) (.slice Ao10 t435.length co10)) (fun _ hk => hk.2) (.slice Ao14 t438.length co14)) (fun _ h_ => h_.1)))) (by decide)) hk (fun _ h => h.2)) (fun _ h => h.1)); replace BK442 := am (KeepBut.blk hk (g' := gb442) (o := .cells #[.slice Ao10 t435.length co10, .slice Ao14 t438.length co14] 32 (0, 0)) (by (with_reducible repeat (first | refine blk_drewN ?_ _ | refine blk_drew ?_ | refine blk_alloc ?_ _)); refine blk_put (cs := #[.slice Ao10 t435.length co10, .slice none 0 0]) ?_ 1 _ rfl; (with_reducible repeat (first | refine blk_drewN ?_ _ | refine blk_drew ?_ | refine blk_alloc ?_ _)); refine blk_put (cs := #[.slice none 0 0, .slice none 0 0]) ?_ 0 _ rfl; (with_reducible repeat (first | refine blk_drewN ?_ _ | refine blk_drew ?_ | refine blk_alloc ?_ _)); exact BK442.out) NB442_0.out (by simp)); replace HK := am (KeepBut.trans b4_ hk (.inl rfl)); replace HB := am (hb); replace HI0 := am (hi); (try clear hb); (try clear hb2); (try clear hk); (try clear hi)))
  replace HO437 := am (Kd.R_drew HO437.out); replace HO440 := am (Kd.R_drew HO440.out); replace BK434 := am (blk_drew BK434.out); replace BK442 := am (blk_drew BK442.out); replace HI0 := am (IsS103.drew HI0.out); replace HK := am (keep_drew HK.out); replace HB := am (below_drew1 HB.out)
  refine start_ (n := 8) (S := fun w' => w'.cell? ⟨gb442, 0, none⟩ = some (.slice Ao10 t435.length co10) ∧ w'.cell? ⟨gb442, 1, none⟩ = some (.slice Ao14 t438.length co14)) (ds := [7]) #[false, false, false, false, false, false, false, false] (by kernel_rfl) rfl rfl ⟨(blk_cell BK442.out 0).trans rfl, (blk_cell BK442.out 1).trans rfl⟩ (fun hHeld => ?_); refine with_tabW spec_l13AnyBook.tab4 spec_l13AnyBook.bits4 (fun HT_ HW_ => ?_)
  generalize w15.drew = w16 at HO437 HO440 BK434 BK442 HI0 HK HB hHeld ⊢
  refine pu 0 10 ?_
  refine pu 2 12 ?_
  refine tk2 1 11 hHeld ?_
  refine on1 3 13 (fun K hK => ?_)
  refine goes_ Tryz.func67 (by kernel_rfl) rfl #[.pointer (some ⟨g, 0, none⟩)] (by rfl) rfl rfl mq ?_
  with_reducible refine (spec_l13AnyAffix.calls k g s0_0 t444 t445 t446 t447 t448 t449 t450 w0 _ ?side1 ?side2 A5.out).mono ?_
  (case side1 => repeat (first | (with_reducible first | exact HI0.out | apply IsS103.alloc | apply IsS103.drewN | apply IsS103.drew | apply IsS103.set_1 | refine IsS103.far ?_ NB0_434.out _ | refine IsS103.far ?_ NB0_442.out _) | exact HI0.out)); (case side2 => repeat (first | (with_reducible first | exact HB.out | apply below_alloc | apply pw_below_drewN | apply below_drew1 | refine below_set ?_ (IsS103.ge HI0.out) | refine below_set ?_ GE434.out | refine below_set ?_ GE442.out) | exact HB.out))
  rintro e w17 ⟨rfl, hi, hb, hk⟩
  refine ⟨_, rfl, ?_⟩
  replace BK434 := am (KeepBut.blk hk (g' := gb434) (o := .cells #[.slice none 0 0, .slice none 0 0] 32 (0, 0)) (bq BK434.out) NB434_0.out (by simp))
  replace HO437 := am (Kd.R_mono (Kd.R_keep (IsS103.apart (show IsS103 w0 _ g s0_0 t444 from by repeat (first | (with_reducible first | exact HI0.out | apply IsS103.alloc | apply IsS103.drewN | apply IsS103.drew | apply IsS103.set_1 | refine IsS103.far ?_ NB0_434.out _ | refine IsS103.far ?_ NB0_442.out _) | exact HI0.out)) (rq HO437.out) (by decide)) hk (fun _ h => h.2)) (fun _ h => h.1))
  replace HO440 := am (Kd.R_mono (Kd.R_keep (IsS103.apart (show IsS103 w0 _ g s0_0 t444 from by repeat (first | (with_reducible first | exact HI0.out | apply IsS103.alloc | apply IsS103.drewN | apply IsS103.drew | apply IsS103.set_1 | refine IsS103.far ?_ NB0_434.out _ | refine IsS103.far ?_ NB0_442.out _) | exact HI0.out)) (rq HO440.out) (by decide)) hk (fun _ h => h.2)) (fun _ h => h.1))
  replace BK442 := am (KeepBut.blk hk (g' := gb442) (o := .cells #[.slice Ao10 t435.length co10, .slice Ao14 t438.length co14] 32 (0, 0)) (bq BK442.out) NB442_0.out (by simp))
  replace HK := am (KeepBut.trans b4_ hk (.inl rfl))
  replace HB := am (hb); replace HI0 := am (hi)
  (try clear hb)
  (try clear hb2)
  (try clear hk)
  (try clear hi)
  refine hK.out _ _ ⟨(blk_cell BK442.out 0).trans rfl, (blk_cell BK442.out 1).trans rfl⟩ (fun hHeld => ?_)
  clear hK K
  refine norm_ (a' := ?_) ?_ ?_
  rotate_left
  ·show Act.put _ (some 13) _ = _
   simp only [Act.put, List.setIfInBounds_toArray, List.set_cons_zero, List.set_cons_succ, i64_w, i32_w]
   rfl
  refine on1 4 14 (fun K hK => ?_)
  refine value_ (w1 := ?_) (v := ?_) (by rfl) rfl ?_ ?_
  rotate_left 2
  ·go_simp
   constructor
   ·rfl
   ·rfl
  refine hK.out _ _ ⟨(blk_cell (blk_alloc BK442.out _) 0).trans rfl, (blk_cell (blk_alloc BK442.out _) 1).trans rfl⟩ (fun hHeld => ?_)
  clear hK K
  refine norm_ (a' := ?_) ?_ ?_
  rotate_left
  ·show Act.put _ (some 14) _ = _
   simp only [Act.put, List.setIfInBounds_toArray, List.set_cons_zero, List.set_cons_succ, i64_w, i32_w]
   rfl
  refine on1 5 15 (fun K hK => ?_)
  refine Kd.R_append_step k82 w.heap.size (by rfl) (.tmp 11) (.tmp 14) 29 82 (.agg #[(.string ⟨#[]⟩), (.bool false), (.string ⟨#[]⟩), (.string ⟨#[]⟩), (.string ⟨#[]⟩)]) 72 rfl Tryz.underlying29 info82 rfl (by decide) (by omega) (.slice Ao10 t435.length co10) t435 (⟨t445, t446, t447, t448, t449⟩ : S82) [.string t445, .bool t446, .string t447, .string t448, .string t449] (fun _ => True) (fun _ => False) rfl rfl ?aP (fun _ hk => hk.elim) ?aF ?aO (Below.refl _ _) ?aS ?aL ?_
  (case aP => exact k82_mkM _ _ _ (⟨t445, t446, t447, t448, t449⟩ : S82)); (case aF => exact (fun _ _ => trivial)); (case aO => exact (rq HO437.out)); (case aS => exact (keep_size (w := w) (g := g) (row := none) b4_)); (case aL => have := LMc6.out; omega); intro v452 w18 ho hb hg hat; rw [← Ny451.out] at ho
  replace BK434 := am (blk_grown (g := gb434) (o := .cells #[.slice none 0 0, .slice none 0 0] 32 (0, 0)) (bq BK434.out) hg (Kd.R_ne HO437.out BK434.out (by decide)))
  replace HO440 := am (Kd.R_over' (rq HO440.out) (Kd.R_typed (rq HO437.out)) (by decide) hg)
  replace BK442 := am (blk_grown (g := gb442) (o := .cells #[.slice Ao10 t435.length co10, .slice Ao14 t438.length co14] 32 (0, 0)) (bq BK442.out) hg (Kd.R_ne HO437.out BK442.out (by decide)))
  replace HB := am (below_weaken b20_ HL.out hb)
  replace HI0 := am (IsS103.grown b21_ hg (IsS103.own_ne HI0.out HO437.out (by decide)))
  replace HK := am (KeepBut.trans b4_ (KeepBut.of_grown hg g) (Kd.R_base2 HO437.out))
  have HO453 := am (ho); clear HO437; clear ho hb hg hat; obtain ⟨Ao19, co19, eo19⟩ := Kd.R_slice HO453.out
  (first | subst eo19 | (injection eo19 with f1_ f2_ f3_; have f4_ := f1_.symm; have f5_ := f3_.symm; clear f1_ f2_ f3_; subst f4_; subst f5_))
  refine hK.out _ _ ⟨(blk_cell BK442.out 0).trans rfl, (blk_cell BK442.out 1).trans rfl⟩ (fun hHeld => ?_)
  clear hK K
  refine norm_ (a' := ?_) ?_ ?_
  rotate_left
  ·show Act.put _ (some 15) _ = _
   simp only [Act.put, List.setIfInBounds_toArray, List.set_cons_zero, List.set_cons_succ, i64_w, i32_w]
   rfl
  refine pu 6 16 ?_
  refine last_ (i := 7) (N := none) #[true, true, true, true, true, true, true, true] rfl rfl (one_of HT_.out (by kernel_rfl)) (by decide) (fun K hK => ?_)
  have hs20 : w18.cell? ⟨gb442, 0, none⟩ = some (.slice Ao10 t435.length co10) := (blk_cell BK442.out 0).trans rfl
  have hfs20 := bf BK442.out 0; have hns20_0 := NB434_442.out; have hms20_0 := NB442_434.out
  refine skip_ (w1 := ?_) (by rfl) rfl ?_ ?_
  rotate_left
  ·go_simp
   rfl
  refine hK.out _ _ ?_
  clear hK K
  refine done_ (done_of HT_.out (by kernel_rfl)) ?_
  have hcz21_0 := bc BK442.out 0; have hcz21_1 := bc BK442.out 1; have hfz21_0 := bf BK442.out 0; have hfz21_1 := bf BK442.out 1; have hnb22 := NB434_0.out; have hnc22 := NB0_434.out; have hcz23_0 := bc BK434.out 0; have hcz23_1 := bc BK434.out 1; have hfz23_0 := bf BK434.out 0; have hfz23_1 := bf BK434.out 1
  try go_wp2
  refine bodyPost_ret (results_cell_row rfl _ _ gb434 32 #[.slice Ao19 y451.length co19, .slice Ao14 t438.length co14] (0, 0) _ rfl (by (with_reducible repeat (first | refine blk_drewN ?_ _ | refine blk_drew ?_ | refine blk_alloc ?_ _)); refine blk_put (cs := #[.slice Ao19 y451.length co19, .slice none 0 0]) ?_ 1 _ rfl; (with_reducible repeat (first | refine blk_drewN ?_ _ | refine blk_drew ?_ | refine blk_alloc ?_ _)); refine blk_put (cs := #[.slice none 0 0, .slice none 0 0]) ?_ 0 _ rfl; (with_reducible repeat (first | refine blk_drewN ?_ _ | refine blk_drew ?_ | refine blk_alloc ?_ _)); refine blk_far ?_ NB434_442.out _; (with_reducible repeat (first | refine blk_drewN ?_ _ | refine blk_drew ?_ | refine blk_alloc ?_ _)); exact BK434.out) Tryz.underlying32 rfl (by kernel_rfl)) rfl ?_
  exact ⟨_, _, eq_, by (with_reducible repeat (first | apply Kd.R_alloc | apply Kd.R_drewN | apply Kd.R_drew)); exact Kd.R_mono (Kd.R_far (p := ⟨gb434, 1, none⟩) (Kd.R_far (p := ⟨gb434, 0, none⟩) (Kd.R_far (p := ⟨gb442, 0, none⟩) (Kd.R_types (Kd.R_types HO453.out BK442.out (by decide)) BK434.out (by decide)) (fun _ hk => hk.1.2) (.slice Ao19 y451.length co19)) (fun _ hk => hk.2) (.slice Ao19 y451.length co19)) (fun _ hk => hk.2) (.slice Ao14 t438.length co14)) (fun _ hk => trivial), by (with_reducible repeat (first | apply Kd.R_alloc | apply Kd.R_drewN | apply Kd.R_drew)); exact Kd.R_mono (Kd.R_far (p := ⟨gb434, 1, none⟩) (Kd.R_far (p := ⟨gb434, 0, none⟩) (Kd.R_far (p := ⟨gb442, 0, none⟩) (Kd.R_types (Kd.R_types HO440.out BK442.out (by decide)) BK434.out (by decide)) (fun _ hk => hk.1.2) (.slice Ao19 y451.length co19)) (fun _ hk => hk.2) (.slice Ao19 y451.length co19)) (fun _ hk => hk.2) (.slice Ao14 t438.length co14)) (fun _ hk => trivial), b21_, b20_, b4_⟩
 rw [if_neg c4] at H
 have c4b0 : (t443 == 0) = false := beq_eq_false_iff_ne.mpr c4
 have c4b1 : (t443 != 0) = true := bne_iff_ne.mpr c4
 by_cases c24 : t443 = 1
 ·rw [if_pos c24] at H
  have c24b0 : (t443 == 1) = true := beq_iff_eq.mpr c24
  have c24b1 : (t443 != 1) = false := bne_eq_false_iff_eq.mpr c24
  clear c24; replace H := bs H; obtain ⟨⟨t454, t455⟩, A250, H⟩ := H; replace H : ((spec_l1Rd_of.f k s0_0 t455 (([(⟨#[]⟩ : ByteArray), (⟨#[83, 71]⟩ : ByteArray), (⟨#[115]⟩ : ByteArray), (⟨#[65, 66, 67, 68, 69]⟩ : ByteArray)] : List ByteArray))).bind fun bt459 => (if t438.length < 4398046511104 then (some (t435, (t438 ++ [(⟨t454, bt459.1⟩ : S78)]), bt459.2)) else (none))) = some (r1, r2, r3) := H; have A25 := Aside0.mk A250; clear A250; obtain ⟨y456, hy456⟩ : ∃ y_ : List ByteArray, y_ = (([(⟨#[]⟩ : ByteArray), (⟨#[83, 71]⟩ : ByteArray), (⟨#[115]⟩ : ByteArray), (⟨#[65, 66, 67, 68, 69]⟩ : ByteArray)] : List ByteArray)) := ⟨_, rfl⟩
  replace H : ((spec_l1Rd_of.f k s0_0 t455 y456).bind fun bt459 => (if t438.length < 4398046511104 then (some (t435, (t438 ++ [(⟨t454, bt459.1⟩ : S78)]), bt459.2)) else (none))) = some (r1, r2, r3) := by first | (rw [hy456]; with_reducible exact H) | (have H2_ := bm H; rw [hy456]; with_reducible exact H2_) | (with_reducible exact bm H) | with_reducible exact H | (rw [hy456]; exact H) | exact H
  have Ny456 := am hy456; clear hy456; replace H := bs H; obtain ⟨⟨t459, t460⟩, A260, H⟩ := H; replace H : (if t438.length < 4398046511104 then (some (t435, (t438 ++ [(⟨t454, t459⟩ : S78)]), t460)) else (none)) = some (r1, r2, r3) := H; have A26 := Aside0.mk A260; clear A260
  replace H := ip H; obtain ⟨c27, H⟩ := H; have LMc27 := Aside0.mk c27; clear c27; obtain ⟨y461, hy461⟩ : ∃ y_ : List (S78), y_ = (t438 ++ [(⟨t454, t459⟩ : S78)]) := ⟨_, rfl⟩
  replace H : (some (t435, y461, t460)) = some (r1, r2, r3) := by first | (rw [hy461]; with_reducible exact H) | (have H2_ := bm H; rw [hy461]; with_reducible exact H2_) | (with_reducible exact bm H) | with_reducible exact H | (rw [hy461]; exact H) | exact H
  have Ny461 := am hy461; clear hy461
  simp only [Option.some.injEq, Prod.mk.injEq] at H
  obtain ⟨rfl, rfl, rfl⟩ := H; go_enter Tryz.func38, Tryz.ntmps38
  try go_wp2_with (first | ((with_reducible refine gate_dst (N := 2) rfl ?_); refine bx 2 (cs := #[.slice none 0 0, .slice none 0 0]) (t := 32) ?_; intro gb434 hg w28 hbox hb; replace HB := am (below_step b3_ hb); have BK434 := am (hbox); have GW434 := am ((b1_ : w.heap.size ≤ gb434)); have GE434 := am ((Nat.le_trans HW0.out (b1_ : w.heap.size ≤ gb434) : w0.heap.size ≤ gb434)); replace HK := am (KeepBut.trans b0_ (KeepBut.of_below hb g none) (.inl rfl)); have NB0_434 := am ((b16_ : g ≠ gb434)); have NB434_0 := am ((b17_ : gb434 ≠ g)); replace HI0 := am (IsS103.below b5_ hb); clear hb hbox hg) | ((with_reducible refine gate_callee (f := 66) rfl ?_); refine goesL_ (some 5) rfl rfl Tryz.func66 (by kernel_rfl) rfl #[.pointer (some ⟨g, 0, none⟩)] rfl mq ?_; (with_reducible refine (spec_l13Book.calls k g s0_0 s0_1 t435 t438 t441 w0 _ ?side1 ?side2 A2.out).mono ?_); (case side1 => repeat (first | (with_reducible first | exact HI0.out | apply IsS103.alloc | apply IsS103.drewN | apply IsS103.drew | apply IsS103.set_1 | refine IsS103.far ?_ NB0_434.out _) | exact HI0.out)); (case side2 => repeat (first | (with_reducible first | exact HB.out | apply below_alloc | apply pw_below_drewN | apply below_drew1 | refine below_set ?_ (IsS103.ge HI0.out) | refine below_set ?_ GE434.out) | exact HB.out)); rintro e w29 ⟨v436, v439, rfl, ho0, ho1, hi, hb, hk⟩; refine ⟨_, rfl, ?_⟩; replace BK434 := am (KeepBut.blk hk (g' := gb434) (o := .cells #[.slice none 0 0, .slice none 0 0] 32 (0, 0)) (bq BK434.out) NB434_0.out (by simp)); have HO437 := am (Kd.R_lower ho0 (keep_size (w := w) (g := g) (row := none) b6_)); have HO440 := am (Kd.R_lower ho1 (keep_size (w := w) (g := g) (row := none) b6_)); replace HK := am (KeepBut.trans b6_ hk (.inl rfl)); replace HB := am (hb); replace HI0 := am (hi); (try clear hb); (try clear hb2); (try clear hk); (try clear hi); (try clear ho0); (try clear ho1)) | ((with_reducible refine gate_dst (N := 3) rfl ?_); refine bx 3 (cs := #[.slice none 0 0, .slice none 0 0]) (t := 32) ?_; intro gb442 hg w30 hbox hb; replace HO437 := am (Kd.R_below (rq HO437.out) hb); replace HO440 := am (Kd.R_below (rq HO440.out) hb); replace HB := am (below_step b45_ hb); have BK442 := am (hbox); have GW442 := am ((b23_ : w.heap.size ≤ gb442)); have GE442 := am ((Nat.le_trans HW0.out (b23_ : w.heap.size ≤ gb442) : w0.heap.size ≤ gb442)); replace HK := am (KeepBut.trans b6_ (KeepBut.of_below hb g none) (.inl rfl)); have NB434_442 := am ((b58_ : gb434 ≠ gb442)); have NB442_434 := am ((b59_ : gb442 ≠ gb434)); replace BK434 := am (blk_below (g := gb434) (o := .cells #[.slice none 0 0, .slice none 0 0] 32 (0, 0)) (bq BK434.out) hb); have NB0_442 := am ((b38_ : g ≠ gb442)); have NB442_0 := am ((b39_ : gb442 ≠ g)); replace HI0 := am (IsS103.below b47_ hb); clear hb hbox hg; obtain ⟨Ao31, co31, eo31⟩ := Kd.R_slice HO437.out; subst eo31; have hnb32 := NB442_434.out; have hnc32 := NB434_442.out; have hnb33 := NB442_0.out; have hnc33 := NB0_442.out; have hcz34_0 := bc BK442.out 0; have hcz34_1 := bc BK442.out 1; have hfz34_0 := bf BK442.out 0; have hfz34_1 := bf BK442.out 1; obtain ⟨Ao35, co35, eo35⟩ := Kd.R_slice HO440.out; subst eo35) | ((with_reducible refine gate_callee (f := 39) rfl ?_); refine goesL_ (some 7) rfl rfl Tryz.func39 (by kernel_rfl) rfl #[.pointer (some ⟨g, 0, none⟩), .int .i64 16] rfl mq ?_; (with_reducible refine (spec_l1Rd_pick.calls k g s0_0 t441 16 t443 t444 w0 _ ?side1 ?side2 A3.out).mono ?_); (case side1 => repeat (first | (with_reducible first | exact HI0.out | apply IsS103.alloc | apply IsS103.drewN | apply IsS103.drew | apply IsS103.set_1 | refine IsS103.far ?_ NB0_434.out _ | refine IsS103.far ?_ NB0_442.out _) | exact HI0.out)); (case side2 => repeat (first | (with_reducible first | exact HB.out | apply below_alloc | apply pw_below_drewN | apply below_drew1 | refine below_set ?_ (IsS103.ge HI0.out) | refine below_set ?_ GE434.out | refine below_set ?_ GE442.out) | exact HB.out)); rintro e w36 ⟨rfl, hi, hb, hk⟩; refine ⟨_, rfl, ?_⟩; replace BK434 := am (KeepBut.blk hk (g' := gb434) (o := .cells #[.slice none 0 0, .slice none 0 0] 32 (0, 0)) b28_ NB434_0.out (by simp)); replace HO437 := am (Kd.R_mono (Kd.R_keep (IsS103.apart (show IsS103 w0 _ g s0_0 t441 from by repeat (first | (with_reducible first | exact HI0.out | apply IsS103.alloc | apply IsS103.drewN | apply IsS103.drew | apply IsS103.set_1 | refine IsS103.far ?_ NB0_434.out _ | refine IsS103.far ?_ NB0_442.out _) | exact HI0.out)) (rq ((Kd.R_mono (Kd.R_far (p := ⟨gb442, 1, none⟩) (Kd.R_far (p := ⟨gb442, 0, none⟩) (Kd.R_types HO437.out BK442.out (by decide)) (fun _ hk => hk.2) (.slice Ao31 t435.length co31)) (fun _ hk => hk.2) (.slice Ao35 t438.length co35)) (fun _ h_ => h_.1)))) (by decide)) hk (fun _ h => h.2)) (fun _ h => h.1)); replace HO440 := am (Kd.R_mono (Kd.R_keep (IsS103.apart (show IsS103 w0 _ g s0_0 t441 from by repeat (first | (with_reducible first | exact HI0.out | apply IsS103.alloc | apply IsS103.drewN | apply IsS103.drew | apply IsS103.set_1 | refine IsS103.far ?_ NB0_434.out _ | refine IsS103.far ?_ NB0_442.out _) | exact HI0.out)) (rq ((Kd.R_mono (Kd.R_far (p := ⟨gb442, 1, none⟩) (Kd.R_far (p := ⟨gb442, 0, none⟩) (Kd.R_types HO440.out BK442.out (by decide)) (fun _ hk => hk.2) (.slice Ao31 t435.length co31)) (fun _ hk => hk.2) (.slice Ao35 t438.length co35)) (fun _ h_ => h_.1)))) (by decide)) hk (fun _ h => h.2)) (fun _ h => h.1)); replace BK442 := am (KeepBut.blk hk (g' := gb442) (o := .cells #[.slice Ao31 t435.length co31, .slice Ao35 t438.length co35] 32 (0, 0)) (by (with_reducible repeat (first | refine blk_drewN ?_ _ | refine blk_drew ?_ | refine blk_alloc ?_ _)); refine blk_put (cs := #[.slice Ao31 t435.length co31, .slice none 0 0]) ?_ 1 _ rfl; (with_reducible repeat (first | refine blk_drewN ?_ _ | refine blk_drew ?_ | refine blk_alloc ?_ _)); refine blk_put (cs := #[.slice none 0 0, .slice none 0 0]) ?_ 0 _ rfl; (with_reducible repeat (first | refine blk_drewN ?_ _ | refine blk_drew ?_ | refine blk_alloc ?_ _)); exact BK442.out) NB442_0.out (by simp)); replace HK := am (KeepBut.trans b4_ hk (.inl rfl)); replace HB := am (hb); replace HI0 := am (hi); (try clear hb); (try clear hb2); (try clear hk); (try clear hi)))
  replace HO437 := am (Kd.R_drew HO437.out); replace HO440 := am (Kd.R_drew HO440.out); replace BK434 := am (blk_drew BK434.out); replace BK442 := am (blk_drew BK442.out); replace HI0 := am (IsS103.drew HI0.out); replace HK := am (keep_drew HK.out); replace HB := am (below_drew1 HB.out)
  refine start_ (n := 12) (S := fun w' => w'.cell? ⟨gb442, 0, none⟩ = some (.slice Ao31 t435.length co31) ∧ w'.cell? ⟨gb442, 1, none⟩ = some (.slice Ao35 t438.length co35)) (ds := [11]) #[false, false, false, false, false, false, false, false, false, false, false, false] (by kernel_rfl) rfl rfl ⟨(blk_cell BK442.out 0).trans rfl, (blk_cell BK442.out 1).trans rfl⟩ (fun hHeld => ?_); refine with_tabW spec_l13AnyBook.tab6 spec_l13AnyBook.bits6 (fun HT_ HW_ => ?_)
  generalize w36.drew = w37 at HO437 HO440 BK434 BK442 HI0 HK HB hHeld ⊢
  refine pu 0 19 ?_
  refine pu 2 21 ?_
  refine pu 4 23 ?_
  refine tk2 1 20 hHeld ?_
  refine join_ (σ := Value) 6 #[true, true, true, true, true, true, false, false, false, false, false, false] (fun s_ => [(22, .string t454), (24, s_)]) (fun s_ w' => (w'.cell? ⟨gb442, 0, none⟩ = some (.slice Ao31 t435.length co31) ∧ w'.cell? ⟨gb442, 1, none⟩ = some (.slice Ao35 t438.length co35)) ∧ (Kd.R k82 82 w' w.heap.size (fun _ => True) (.slice Ao31 t435.length co31) t435) ∧ (Kd.R k78 78 w' w.heap.size (fun _ => True) (.slice Ao35 t438.length co35) t438) ∧ (Kd.R Kd.string 9 w' w.heap.size (fun _ => True) s_ y456) ∧ (w'.heap[gb434]? = some (.cells #[.slice none 0 0, .slice none 0 0] 32 (0, 0))) ∧ (w'.heap[gb442]? = some (.cells #[.slice Ao31 t435.length co31, .slice Ao35 t438.length co35] 32 (0, 0))) ∧ (IsS103 w0 w' g s0_0 t455) ∧ (KeepBut w w' g none) ∧ (Below w0.heap.size w0 w')) ?_ ?_
  rotate_left
  ·intro hCont
   refine two_ (i := 3) (j := 5) (Ni := some 22) (Nj := some 24) #[true, true, true, true, true, false, false, false, false, false, false, false] #[true, true, true, false, true, true, false, false, false, false, false, false] rfl rfl rfl rfl (two_of HT_.out (by kernel_rfl)) (by decide) (by decide) (fun K hK => ?_) (fun K hK => ?_)
   ·skip
    refine goes_ Tryz.func68 (by kernel_rfl) rfl #[.pointer (some ⟨g, 0, none⟩)] (by rfl) rfl rfl mq ?_
    with_reducible refine (spec_l13AnyWord.calls k g s0_0 t444 t454 t455 w0 _ ?side1 ?side2 A25.out).mono ?_
    (case side1 => repeat (first | (with_reducible first | exact HI0.out | apply IsS103.alloc | apply IsS103.drewN | apply IsS103.drew | apply IsS103.set_1 | refine IsS103.far ?_ NB0_434.out _ | refine IsS103.far ?_ NB0_442.out _) | exact HI0.out)); (case side2 => repeat (first | (with_reducible first | exact HB.out | apply below_alloc | apply pw_below_drewN | apply below_drew1 | refine below_set ?_ (IsS103.ge HI0.out) | refine below_set ?_ GE434.out | refine below_set ?_ GE442.out) | exact HB.out))
    rintro e w38 ⟨rfl, hi, hb, hk⟩
    refine ⟨_, rfl, ?_⟩
    replace BK434 := am (KeepBut.blk hk (g' := gb434) (o := .cells #[.slice none 0 0, .slice none 0 0] 32 (0, 0)) (bq BK434.out) NB434_0.out (by simp))
    replace HO437 := am (Kd.R_mono (Kd.R_keep (IsS103.apart (show IsS103 w0 _ g s0_0 t444 from by repeat (first | (with_reducible first | exact HI0.out | apply IsS103.alloc | apply IsS103.drewN | apply IsS103.drew | apply IsS103.set_1 | refine IsS103.far ?_ NB0_434.out _ | refine IsS103.far ?_ NB0_442.out _) | exact HI0.out)) (rq HO437.out) (by decide)) hk (fun _ h => h.2)) (fun _ h => h.1))
    replace HO440 := am (Kd.R_mono (Kd.R_keep (IsS103.apart (show IsS103 w0 _ g s0_0 t444 from by repeat (first | (with_reducible first | exact HI0.out | apply IsS103.alloc | apply IsS103.drewN | apply IsS103.drew | apply IsS103.set_1 | refine IsS103.far ?_ NB0_434.out _ | refine IsS103.far ?_ NB0_442.out _) | exact HI0.out)) (rq HO440.out) (by decide)) hk (fun _ h => h.2)) (fun _ h => h.1))
    replace BK442 := am (KeepBut.blk hk (g' := gb442) (o := .cells #[.slice Ao31 t435.length co31, .slice Ao35 t438.length co35] 32 (0, 0)) (bq BK442.out) NB442_0.out (by simp))
    replace HK := am (KeepBut.trans b4_ hk (.inl rfl))
    replace HB := am (hb); replace HI0 := am (hi)
    (try clear hb)
    (try clear hb2)
    (try clear hk)
    (try clear hi)
    refine hK.out _ _ ⟨(blk_cell BK442.out 0).trans rfl, (blk_cell BK442.out 1).trans rfl⟩ (fun hHeld => ?_)
    clear hK K
    refine norm_ (a' := ?_) ?_ ?_
    rotate_left
    ·show Act.put _ (some 22) _ = _
     simp only [Act.put, List.setIfInBounds_toArray, List.set_cons_zero, List.set_cons_succ, i64_w, i32_w]
     rfl
    refine on1 5 24 (fun K hK => ?_)
    refine Kd.R_lit_step Kd.string _ 9 ?hg (N := 24) ?hd (xs := ([(⟨#[]⟩ : ByteArray), (⟨#[83, 71]⟩ : ByteArray), (⟨#[115]⟩ : ByteArray), (⟨#[65, 66, 67, 68, 69]⟩ : ByteArray)] : List ByteArray)) (inner := [.string (⟨#[]⟩ : ByteArray), .string (⟨#[83, 71]⟩ : ByteArray), .string (⟨#[115]⟩ : ByteArray), .string (⟨#[65, 66, 67, 68, 69]⟩ : ByteArray)]) (ok := fun _ => True) (okp := fun _ => True) ?hr ?hp (fun _ hk => hk) trivial (Below.refl _ _) (Nat.le_refl _) (by simp) ?_; (case hd => rfl); (case hg => rfl); (case hr => first | (go_simp; done) | (go_simp; rfl)); (case hp => exact (Reps.one (show Kd.M Kd.string _ _ _ (⟨#[]⟩ : ByteArray) [.string (⟨#[]⟩ : ByteArray)] from rfl) (Reps.one (show Kd.M Kd.string _ _ _ (⟨#[83, 71]⟩ : ByteArray) [.string (⟨#[83, 71]⟩ : ByteArray)] from rfl) (Reps.one (show Kd.M Kd.string _ _ _ (⟨#[115]⟩ : ByteArray) [.string (⟨#[115]⟩ : ByteArray)] from rfl) (Reps.one (show Kd.M Kd.string _ _ _ (⟨#[65, 66, 67, 68, 69]⟩ : ByteArray) [.string (⟨#[65, 66, 67, 68, 69]⟩ : ByteArray)] from rfl) (Reps.none _ _))))))
    intro v457 w39 ho40 hb hg_ hnew_; clear hg_ hnew_
    (first | rw [← Ny456.out] at ho40 | (simp only [Int.reduceToNat] at ho40; rw [← Ny456.out] at ho40) | (simp only [Int.toNat_natCast] at ho40; rw [← Ny456.out] at ho40))
    replace HO437 := am (Kd.R_below (rq HO437.out) hb); replace HO440 := am (Kd.R_below (rq HO440.out) hb)
    have HO458 := am (Kd.R_lower ho40 (keep_size (w := w) (g := g) (row := none) b4_))
    replace BK434 := am (blk_below (g := gb434) (o := .cells #[.slice none 0 0, .slice none 0 0] 32 (0, 0)) (bq BK434.out) hb); replace BK442 := am (blk_below (g := gb442) (o := .cells #[.slice Ao31 t435.length co31, .slice Ao35 t438.length co35] 32 (0, 0)) (bq BK442.out) hb)
    replace HK := am (KeepBut.trans b4_ (KeepBut.of_below hb g none) (.inl rfl))
    replace HB := am (below_step b20_ hb)
    replace HI0 := am (IsS103.below b21_ hb)
    clear hb ho40
    refine hK.out _ _ ⟨(blk_cell BK442.out 0).trans rfl, (blk_cell BK442.out 1).trans rfl⟩ (fun hHeld => ?_)
    clear hK K
    refine norm_ (a' := ?_) ?_ ?_
    rotate_left
    ·show Act.put _ (some 24) _ = _
     simp only [Act.put, List.setIfInBounds_toArray, List.set_cons_zero, List.set_cons_succ, i64_w, i32_w]
     rfl
    exact norm_ b65_ (hCont (v457) _ ⟨hHeld, (rq HO437.out), (rq HO440.out), (rq HO458.out), (bq BK434.out), (bq BK442.out), b21_, b4_, b20_⟩)
   ·skip
    refine Kd.R_lit_step Kd.string _ 9 ?hg (N := 24) ?hd (xs := ([(⟨#[]⟩ : ByteArray), (⟨#[83, 71]⟩ : ByteArray), (⟨#[115]⟩ : ByteArray), (⟨#[65, 66, 67, 68, 69]⟩ : ByteArray)] : List ByteArray)) (inner := [.string (⟨#[]⟩ : ByteArray), .string (⟨#[83, 71]⟩ : ByteArray), .string (⟨#[115]⟩ : ByteArray), .string (⟨#[65, 66, 67, 68, 69]⟩ : ByteArray)]) (ok := fun _ => True) (okp := fun _ => True) ?hr ?hp (fun _ hk => hk) trivial (Below.refl _ _) (Nat.le_refl _) (by simp) ?_; (case hd => rfl); (case hg => rfl); (case hr => first | (go_simp; done) | (go_simp; rfl)); (case hp => exact (Reps.one (show Kd.M Kd.string _ _ _ (⟨#[]⟩ : ByteArray) [.string (⟨#[]⟩ : ByteArray)] from rfl) (Reps.one (show Kd.M Kd.string _ _ _ (⟨#[83, 71]⟩ : ByteArray) [.string (⟨#[83, 71]⟩ : ByteArray)] from rfl) (Reps.one (show Kd.M Kd.string _ _ _ (⟨#[115]⟩ : ByteArray) [.string (⟨#[115]⟩ : ByteArray)] from rfl) (Reps.one (show Kd.M Kd.string _ _ _ (⟨#[65, 66, 67, 68, 69]⟩ : ByteArray) [.string (⟨#[65, 66, 67, 68, 69]⟩ : ByteArray)] from rfl) (Reps.none _ _))))))
    intro v457 w38 ho39 hb hg_ hnew_; clear hg_ hnew_
    (first | rw [← Ny456.out] at ho39 | (simp only [Int.reduceToNat] at ho39; rw [← Ny456.out] at ho39) | (simp only [Int.toNat_natCast] at ho39; rw [← Ny456.out] at ho39))
    replace HO437 := am (Kd.R_below (rq HO437.out) hb); replace HO440 := am (Kd.R_below (rq HO440.out) hb)
    have HO458 := am (Kd.R_lower ho39 (keep_size (w := w) (g := g) (row := none) b4_))
    replace BK434 := am (blk_below (g := gb434) (o := .cells #[.slice none 0 0, .slice none 0 0] 32 (0, 0)) (bq BK434.out) hb); replace BK442 := am (blk_below (g := gb442) (o := .cells #[.slice Ao31 t435.length co31, .slice Ao35 t438.length co35] 32 (0, 0)) (bq BK442.out) hb)
    replace HK := am (KeepBut.trans b4_ (KeepBut.of_below hb g none) (.inl rfl))
    replace HB := am (below_step b20_ hb)
    replace HI0 := am (IsS103.below b21_ hb)
    clear hb ho39
    refine hK.out _ _ ⟨(blk_cell BK442.out 0).trans rfl, (blk_cell BK442.out 1).trans rfl⟩ (fun hHeld => ?_)
    clear hK K
    refine norm_ (a' := ?_) ?_ ?_
    rotate_left
    ·show Act.put _ (some 24) _ = _
     simp only [Act.put, List.setIfInBounds_toArray, List.set_cons_zero, List.set_cons_succ, i64_w, i32_w]
     rfl
    refine on1 3 22 (fun K hK => ?_)
    refine goes_ Tryz.func68 (by kernel_rfl) rfl #[.pointer (some ⟨g, 0, none⟩)] (by rfl) rfl rfl mq ?_
    with_reducible refine (spec_l13AnyWord.calls k g s0_0 t444 t454 t455 w0 _ ?side1 ?side2 A25.out).mono ?_
    (case side1 => repeat (first | (with_reducible first | exact HI0.out | apply IsS103.alloc | apply IsS103.drewN | apply IsS103.drew | apply IsS103.set_1 | refine IsS103.far ?_ NB0_434.out _ | refine IsS103.far ?_ NB0_442.out _) | exact HI0.out)); (case side2 => repeat (first | (with_reducible first | exact HB.out | apply below_alloc | apply pw_below_drewN | apply below_drew1 | refine below_set ?_ (IsS103.ge HI0.out) | refine below_set ?_ GE434.out | refine below_set ?_ GE442.out) | exact HB.out))
    rintro e w40 ⟨rfl, hi, hb, hk⟩
    refine ⟨_, rfl, ?_⟩
    replace BK434 := am (KeepBut.blk hk (g' := gb434) (o := .cells #[.slice none 0 0, .slice none 0 0] 32 (0, 0)) (bq BK434.out) NB434_0.out (by simp))
    replace HO437 := am (Kd.R_mono (Kd.R_keep (IsS103.apart (show IsS103 w0 _ g s0_0 t444 from by repeat (first | (with_reducible first | exact HI0.out | apply IsS103.alloc | apply IsS103.drewN | apply IsS103.drew | apply IsS103.set_1 | refine IsS103.far ?_ NB0_434.out _ | refine IsS103.far ?_ NB0_442.out _) | exact HI0.out)) (rq HO437.out) (by decide)) hk (fun _ h => h.2)) (fun _ h => h.1))
    replace HO440 := am (Kd.R_mono (Kd.R_keep (IsS103.apart (show IsS103 w0 _ g s0_0 t444 from by repeat (first | (with_reducible first | exact HI0.out | apply IsS103.alloc | apply IsS103.drewN | apply IsS103.drew | apply IsS103.set_1 | refine IsS103.far ?_ NB0_434.out _ | refine IsS103.far ?_ NB0_442.out _) | exact HI0.out)) (rq HO440.out) (by decide)) hk (fun _ h => h.2)) (fun _ h => h.1))
    replace BK442 := am (KeepBut.blk hk (g' := gb442) (o := .cells #[.slice Ao31 t435.length co31, .slice Ao35 t438.length co35] 32 (0, 0)) (bq BK442.out) NB442_0.out (by simp))
    replace HO458 := am (Kd.R_mono (Kd.R_keep (IsS103.apart (show IsS103 w0 _ g s0_0 t444 from by repeat (first | (with_reducible first | exact HI0.out | apply IsS103.alloc | apply IsS103.drewN | apply IsS103.drew | apply IsS103.set_1 | refine IsS103.far ?_ NB0_434.out _ | refine IsS103.far ?_ NB0_442.out _) | exact HI0.out)) (rq HO458.out) (by decide)) hk (fun _ h => h.2)) (fun _ h => h.1))
    replace HK := am (KeepBut.trans b4_ hk (.inl rfl))
    replace HB := am (hb); replace HI0 := am (hi)
    (try clear hb)
    (try clear hb2)
    (try clear hk)
    (try clear hi)
    refine hK.out _ _ ⟨(blk_cell BK442.out 0).trans rfl, (blk_cell BK442.out 1).trans rfl⟩ (fun hHeld => ?_)
    clear hK K
    refine norm_ (a' := ?_) ?_ ?_
    rotate_left
    ·show Act.put _ (some 22) _ = _
     simp only [Act.put, List.setIfInBounds_toArray, List.set_cons_zero, List.set_cons_succ, i64_w, i32_w]
     rfl
    exact norm_ b65_ (hCont (v457) _ ⟨hHeld, (rq HO437.out), (rq HO440.out), (rq HO458.out), (bq BK434.out), (bq BK442.out), b21_, b4_, b20_⟩)
  rintro v457 w41 ⟨hS_, h0_, h1_, h2_, h3_, h4_, h5_, h6_, h7_⟩
  have n0_ : Aside0 (Kd.R k82 82 w41 w.heap.size (fun _ => True) (.slice Ao31 t435.length co31) t435) := ⟨h0_⟩
  have n1_ : Aside0 (Kd.R k78 78 w41 w.heap.size (fun _ => True) (.slice Ao35 t438.length co35) t438) := ⟨h1_⟩
  have n2_ : Aside0 (Kd.R Kd.string 9 w41 w.heap.size (fun _ => True) v457 y456) := ⟨h2_⟩
  have n3_ : Aside0 (w41.heap[gb434]? = some (.cells #[.slice none 0 0, .slice none 0 0] 32 (0, 0))) := ⟨h3_⟩
  have n4_ : Aside0 (w41.heap[gb442]? = some (.cells #[.slice Ao31 t435.length co31, .slice Ao35 t438.length co35] 32 (0, 0))) := ⟨h4_⟩
  have n5_ : Aside0 (IsS103 w0 w41 g s0_0 t455) := ⟨h5_⟩
  have n6_ : Aside0 (KeepBut w w41 g none) := ⟨h6_⟩
  have n7_ : Aside0 (Below w0.heap.size w0 w41) := ⟨h7_⟩
  clear HO437; clear HO440; clear BK434; clear BK442; clear HI0; clear HK; clear HB; clear h0_ h1_ h2_ h3_ h4_ h5_ h6_ h7_; have HO437 := n0_; have HO440 := n1_; have HO458 := n2_; have BK434 := n3_; have BK442 := n4_; have HI0 := n5_; have HK := n6_; have HB := n7_; clear n0_ n1_ n2_ n3_ n4_ n5_ n6_ n7_
  have hHeld : w41.cell? ⟨gb442, 0, none⟩ = some (.slice Ao31 t435.length co31) ∧ w41.cell? ⟨gb442, 1, none⟩ = some (.slice Ao35 t438.length co35) := hS_
  obtain ⟨Ao42, co42, eo42⟩ := Kd.R_slice HO458.out
  (first | subst eo42 | (injection eo42 with f1_ f2_ f3_; have f4_ := f1_.symm; have f5_ := f3_.symm; clear f1_ f2_ f3_; subst f4_; subst f5_))
  refine norm_ (a' := ?_) ?_ ?_
  rotate_left
  ·simp only [putAll, Act.put, List.setIfInBounds_toArray, List.set_cons_zero, List.set_cons_succ]
   rfl
  refine on1 6 25 (fun K hK => ?_)
  refine goes_ Tryz.func40 (by kernel_rfl) rfl #[.pointer (some ⟨g, 0, none⟩), .slice Ao42 y456.length co42] (by rfl) rfl rfl mq ?_
  with_reducible refine (spec_l1Rd_of.calls k g s0_0 t455 _ _ y456 t459 t460 w0 _ ?side1 ?side2 ?side3 ?side4 ?side5 A26.out).mono ?_
  (case side1 => repeat (first | (with_reducible first | exact HI0.out | apply IsS103.alloc | apply IsS103.drewN | apply IsS103.drew | apply IsS103.set_1 | refine IsS103.far ?_ NB0_434.out _ | refine IsS103.far ?_ NB0_442.out _) | exact HI0.out)); (case side2 => repeat (first | (with_reducible first | exact HB.out | apply below_alloc | apply pw_below_drewN | apply below_drew1 | refine below_set ?_ (IsS103.ge HI0.out) | refine below_set ?_ GE434.out | refine below_set ?_ GE442.out) | exact HB.out)); (case side3 => exact cq (Kd.R_reads' HO458.out).2.2); (case side4 => exact (Kd.R_reads' HO458.out).2.1); (case side5 => exact far_slice (IsS103.own_ne HI0.out HO458.out (by decide)))
  rintro e w43 ⟨rfl, hi, hb, hk⟩
  refine ⟨_, rfl, ?_⟩
  replace BK434 := am (KeepBut.blk hk (g' := gb434) (o := .cells #[.slice none 0 0, .slice none 0 0] 32 (0, 0)) (bq BK434.out) NB434_0.out (by simp))
  replace HO437 := am (Kd.R_mono (Kd.R_keep (IsS103.apart (show IsS103 w0 _ g s0_0 t455 from by repeat (first | (with_reducible first | exact HI0.out | apply IsS103.alloc | apply IsS103.drewN | apply IsS103.drew | apply IsS103.set_1 | refine IsS103.far ?_ NB0_434.out _ | refine IsS103.far ?_ NB0_442.out _) | exact HI0.out)) (rq HO437.out) (by decide)) hk (fun _ h => h.2)) (fun _ h => h.1))
  replace HO440 := am (Kd.R_mono (Kd.R_keep (IsS103.apart (show IsS103 w0 _ g s0_0 t455 from by repeat (first | (with_reducible first | exact HI0.out | apply IsS103.alloc | apply IsS103.drewN | apply IsS103.drew | apply IsS103.set_1 | refine IsS103.far ?_ NB0_434.out _ | refine IsS103.far ?_ NB0_442.out _) | exact HI0.out)) (rq HO440.out) (by decide)) hk (fun _ h => h.2)) (fun _ h => h.1))
  replace BK442 := am (KeepBut.blk hk (g' := gb442) (o := .cells #[.slice Ao31 t435.length co31, .slice Ao35 t438.length co35] 32 (0, 0)) (bq BK442.out) NB442_0.out (by simp))
  replace HO458 := am (Kd.R_mono (Kd.R_keep (IsS103.apart (show IsS103 w0 _ g s0_0 t455 from by repeat (first | (with_reducible first | exact HI0.out | apply IsS103.alloc | apply IsS103.drewN | apply IsS103.drew | apply IsS103.set_1 | refine IsS103.far ?_ NB0_434.out _ | refine IsS103.far ?_ NB0_442.out _) | exact HI0.out)) (rq HO458.out) (by decide)) hk (fun _ h => h.2)) (fun _ h => h.1))
  replace HK := am (KeepBut.trans b4_ hk (.inl rfl))
  replace HB := am (hb); replace HI0 := am (hi)
  (try clear hb)
  (try clear hb2)
  (try clear hk)
  (try clear hi)
  refine hK.out _ _ ⟨(blk_cell BK442.out 0).trans rfl, (blk_cell BK442.out 1).trans rfl⟩ (fun hHeld => ?_)
  clear hK K
  refine norm_ (a' := ?_) ?_ ?_
  rotate_left
  ·show Act.put _ (some 25) _ = _
   simp only [Act.put, List.setIfInBounds_toArray, List.set_cons_zero, List.set_cons_succ, i64_w, i32_w]
   rfl
  refine pu 7 26 ?_
  refine on1 8 27 (fun K hK => ?_)
  refine value_ (w1 := ?_) (v := ?_) (by rfl) rfl ?_ ?_
  rotate_left 2
  ·go_simp
   constructor
   ·rfl
   ·rfl
  refine hK.out _ _ ⟨(blk_cell (blk_alloc BK442.out _) 0).trans rfl, (blk_cell (blk_alloc BK442.out _) 1).trans rfl⟩ (fun hHeld => ?_)
  clear hK K
  refine norm_ (a' := ?_) ?_ ?_
  rotate_left
  ·show Act.put _ (some 27) _ = _
   simp only [Act.put, List.setIfInBounds_toArray, List.set_cons_zero, List.set_cons_succ, i64_w, i32_w]
   rfl
  refine on1 9 28 (fun K hK => ?_)
  refine Kd.R_append_step k78 w.heap.size (by rfl) (.tmp 20) (.tmp 27) 30 78 (.agg #[(.string ⟨#[]⟩), (.string ⟨#[]⟩)]) 32 rfl Tryz.underlying30 info78 rfl (by decide) (by omega) (.slice Ao35 t438.length co35) t438 (⟨t454, t459⟩ : S78) [.string t454, .string t459] (fun _ => True) (fun _ => False) rfl rfl ?aP (fun _ hk => hk.elim) ?aF ?aO (Below.refl _ _) ?aS ?aL ?_
  (case aP => exact k78_mkM _ _ _ (⟨t454, t459⟩ : S78)); (case aF => exact (fun _ _ => trivial)); (case aO => exact (rq HO440.out)); (case aS => exact (keep_size (w := w) (g := g) (row := none) b4_)); (case aL => have := LMc27.out; omega); intro v462 w44 ho hb hg hat; rw [← Ny461.out] at ho
  replace BK434 := am (blk_grown (g := gb434) (o := .cells #[.slice none 0 0, .slice none 0 0] 32 (0, 0)) (bq BK434.out) hg (Kd.R_ne HO440.out BK434.out (by decide)))
  replace HO437 := am (Kd.R_over' (rq HO437.out) (Kd.R_typed (rq HO440.out)) (by decide) hg)
  replace BK442 := am (blk_grown (g := gb442) (o := .cells #[.slice Ao31 t435.length co31, .slice Ao35 t438.length co35] 32 (0, 0)) (bq BK442.out) hg (Kd.R_ne HO440.out BK442.out (by decide)))
  replace HO458 := am (Kd.R_over' (rq HO458.out) (Kd.R_typed (rq HO440.out)) (by decide) hg)
  replace HB := am (below_weaken b20_ HL.out hb)
  replace HI0 := am (IsS103.grown b21_ hg (IsS103.own_ne HI0.out HO440.out (by decide)))
  replace HK := am (KeepBut.trans b4_ (KeepBut.of_grown hg g) (Kd.R_base2 HO440.out))
  have HO463 := am (ho); clear HO440; clear ho hb hg hat; obtain ⟨Ao45, co45, eo45⟩ := Kd.R_slice HO463.out
  (first | subst eo45 | (injection eo45 with f1_ f2_ f3_; have f4_ := f1_.symm; have f5_ := f3_.symm; clear f1_ f2_ f3_; subst f4_; subst f5_))
  refine hK.out _ _ ⟨(blk_cell BK442.out 0).trans rfl, (blk_cell BK442.out 1).trans rfl⟩ (fun hHeld => ?_)
  clear hK K
  refine norm_ (a' := ?_) ?_ ?_
  rotate_left
  ·show Act.put _ (some 28) _ = _
   simp only [Act.put, List.setIfInBounds_toArray, List.set_cons_zero, List.set_cons_succ, i64_w, i32_w]
   rfl
  refine pu 10 29 ?_
  refine last_ (i := 11) (N := none) #[true, true, true, true, true, true, true, true, true, true, true, true] rfl rfl (one_of HT_.out (by kernel_rfl)) (by decide) (fun K hK => ?_)
  have hs46 : w44.cell? ⟨gb442, 1, none⟩ = some (.slice Ao35 t438.length co35) := (blk_cell BK442.out 1).trans rfl
  have hfs46 := bf BK442.out 1; have hns46_0 := NB434_442.out; have hms46_0 := NB442_434.out
  refine skip_ (w1 := ?_) (by rfl) rfl ?_ ?_
  rotate_left
  ·go_simp
   rfl
  refine hK.out _ _ ?_
  clear hK K
  refine done_ (done_of HT_.out (by kernel_rfl)) ?_
  have hcz47_0 := bc BK442.out 0; have hcz47_1 := bc BK442.out 1; have hfz47_0 := bf BK442.out 0; have hfz47_1 := bf BK442.out 1; have hnb48 := NB434_0.out; have hnc48 := NB0_434.out; have hcz49_0 := bc BK434.out 0; have hcz49_1 := bc BK434.out 1; have hfz49_0 := bf BK434.out 0; have hfz49_1 := bf BK434.out 1
  try go_wp2
  refine bodyPost_ret (results_cell_row rfl _ _ gb434 32 #[.slice Ao31 t435.length co31, .slice Ao45 y461.length co45] (0, 0) _ rfl (by (with_reducible repeat (first | refine blk_drewN ?_ _ | refine blk_drew ?_ | refine blk_alloc ?_ _)); refine blk_put (cs := #[.slice Ao31 t435.length co31, .slice none 0 0]) ?_ 1 _ rfl; (with_reducible repeat (first | refine blk_drewN ?_ _ | refine blk_drew ?_ | refine blk_alloc ?_ _)); refine blk_put (cs := #[.slice none 0 0, .slice none 0 0]) ?_ 0 _ rfl; (with_reducible repeat (first | refine blk_drewN ?_ _ | refine blk_drew ?_ | refine blk_alloc ?_ _)); refine blk_far ?_ NB434_442.out _; (with_reducible repeat (first | refine blk_drewN ?_ _ | refine blk_drew ?_ | refine blk_alloc ?_ _)); exact BK434.out) Tryz.underlying32 rfl (by kernel_rfl)) rfl ?_
  exact ⟨_, _, eq_, by (with_reducible repeat (first | apply Kd.R_alloc | apply Kd.R_drewN | apply Kd.R_drew)); exact Kd.R_mono (Kd.R_far (p := ⟨gb434, 1, none⟩) (Kd.R_far (p := ⟨gb434, 0, none⟩) (Kd.R_far (p := ⟨gb442, 1, none⟩) (Kd.R_types (Kd.R_types HO437.out BK442.out (by decide)) BK434.out (by decide)) (fun _ hk => hk.1.2) (.slice Ao45 y461.length co45)) (fun _ hk => hk.2) (.slice Ao31 t435.length co31)) (fun _ hk => hk.2) (.slice Ao45 y461.length co45)) (fun _ hk => trivial), by (with_reducible repeat (first | apply Kd.R_alloc | apply Kd.R_drewN | apply Kd.R_drew)); exact Kd.R_mono (Kd.R_far (p := ⟨gb434, 1, none⟩) (Kd.R_far (p := ⟨gb434, 0, none⟩) (Kd.R_far (p := ⟨gb442, 1, none⟩) (Kd.R_types (Kd.R_types HO463.out BK442.out (by decide)) BK434.out (by decide)) (fun _ hk => hk.1.2) (.slice Ao45 y461.length co45)) (fun _ hk => hk.2) (.slice Ao31 t435.length co31)) (fun _ hk => hk.2) (.slice Ao45 y461.length co45)) (fun _ hk => trivial), b21_, b20_, b4_⟩
 rw [if_neg c24] at H
 have c24b0 : (t443 == 1) = false := beq_eq_false_iff_ne.mpr c24
 have c24b1 : (t443 != 1) = true := bne_iff_ne.mpr c24
 by_cases c50 : t443 = 2
 ·rw [if_pos c50] at H
  have c50b0 : (t443 == 2) = true := beq_iff_eq.mpr c50
  have c50b1 : (t443 != 2) = false := bne_eq_false_iff_eq.mpr c50
  clear c50
  by_cases c51 : (t438.length : Int) > 0
  ·rw [if_pos c51] at H; have c51b0 := decide_eq_true c51
   have c51b1 : decide (0 < t438.length) = true := decide_eq_true (by omega)
   clear c51; obtain ⟨y464, hy464⟩ : ∃ y_ : List ByteArray, y_ = (([(⟨#[]⟩ : ByteArray), (⟨#[122, 122]⟩ : ByteArray), (⟨#[65]⟩ : ByteArray)] : List ByteArray)) := ⟨_, rfl⟩
   replace H : ((spec_l1Rd_of.f k s0_0 t444 y464).bind fun bt467 => (if 0 < (t438.length : Int) then (some (t435, (t438.set (0 : Int).toNat (⟨bt467.1, (rd_T78 t438 0).f1⟩ : S78)), bt467.2)) else (none))) = some (r1, r2, r3) := by first | (rw [hy464]; with_reducible exact H) | (have H2_ := bm H; rw [hy464]; with_reducible exact H2_) | (with_reducible exact bm H) | with_reducible exact H | (rw [hy464]; exact H) | exact H
   have Ny464 := am hy464; clear hy464; replace H := bs H; obtain ⟨⟨t467, t468⟩, A520, H⟩ := H; replace H : (if 0 < (t438.length : Int) then (some (t435, (t438.set (0 : Int).toNat (⟨t467, (rd_T78 t438 0).f1⟩ : S78)), t468)) else (none)) = some (r1, r2, r3) := H; have A52 := Aside0.mk A520; clear A520
   replace H := ip H; obtain ⟨c53, H⟩ := H; have c53b0 := decide_eq_true c53
   have c53b1 : decide (0 < t438.length) = true := decide_eq_true (by omega)
   clear c53; obtain ⟨y469, hy469⟩ : ∃ y_ : List (S78), y_ = (t438.set (0 : Int).toNat (⟨t467, (rd_T78 t438 0).f1⟩ : S78)) := ⟨_, rfl⟩
   replace H : (some (t435, y469, t468)) = some (r1, r2, r3) := by first | (rw [hy469]; with_reducible exact H) | (have H2_ := bm H; rw [hy469]; with_reducible exact H2_) | (with_reducible exact bm H) | with_reducible exact H | (rw [hy469]; exact H) | exact H
   have Ny469 := am hy469; clear hy469
   simp only [Option.some.injEq, Prod.mk.injEq] at H
   obtain ⟨rfl, rfl, rfl⟩ := H; go_enter Tryz.func38, Tryz.ntmps38
   try go_wp2_with (first | ((with_reducible refine gate_dst (N := 2) rfl ?_); refine bx 2 (cs := #[.slice none 0 0, .slice none 0 0]) (t := 32) ?_; intro gb434 hg w55 hbox hb; replace HB := am (below_step b3_ hb); have BK434 := am (hbox); have GW434 := am ((b1_ : w.heap.size ≤ gb434)); have GE434 := am ((Nat.le_trans HW0.out (b1_ : w.heap.size ≤ gb434) : w0.heap.size ≤ gb434)); replace HK := am (KeepBut.trans b0_ (KeepBut.of_below hb g none) (.inl rfl)); have NB0_434 := am ((b16_ : g ≠ gb434)); have NB434_0 := am ((b17_ : gb434 ≠ g)); replace HI0 := am (IsS103.below b5_ hb); clear hb hbox hg) | ((with_reducible refine gate_callee (f := 66) rfl ?_); refine goesL_ (some 5) rfl rfl Tryz.func66 (by kernel_rfl) rfl #[.pointer (some ⟨g, 0, none⟩)] rfl mq ?_; (with_reducible refine (spec_l13Book.calls k g s0_0 s0_1 t435 t438 t441 w0 _ ?side1 ?side2 A2.out).mono ?_); (case side1 => repeat (first | (with_reducible first | exact HI0.out | apply IsS103.alloc | apply IsS103.drewN | apply IsS103.drew | apply IsS103.set_1 | refine IsS103.far ?_ NB0_434.out _) | exact HI0.out)); (case side2 => repeat (first | (with_reducible first | exact HB.out | apply below_alloc | apply pw_below_drewN | apply below_drew1 | refine below_set ?_ (IsS103.ge HI0.out) | refine below_set ?_ GE434.out) | exact HB.out)); rintro e w56 ⟨v436, v439, rfl, ho0, ho1, hi, hb, hk⟩; refine ⟨_, rfl, ?_⟩; replace BK434 := am (KeepBut.blk hk (g' := gb434) (o := .cells #[.slice none 0 0, .slice none 0 0] 32 (0, 0)) (bq BK434.out) NB434_0.out (by simp)); have HO437 := am (Kd.R_lower ho0 (keep_size (w := w) (g := g) (row := none) b6_)); have HO440 := am (Kd.R_lower ho1 (keep_size (w := w) (g := g) (row := none) b6_)); replace HK := am (KeepBut.trans b6_ hk (.inl rfl)); replace HB := am (hb); replace HI0 := am (hi); (try clear hb); (try clear hb2); (try clear hk); (try clear hi); (try clear ho0); (try clear ho1)) | ((with_reducible refine gate_dst (N := 3) rfl ?_); refine bx 3 (cs := #[.slice none 0 0, .slice none 0 0]) (t := 32) ?_; intro gb442 hg w57 hbox hb; replace HO437 := am (Kd.R_below (rq HO437.out) hb); replace HO440 := am (Kd.R_below (rq HO440.out) hb); replace HB := am (below_step b45_ hb); have BK442 := am (hbox); have GW442 := am ((b23_ : w.heap.size ≤ gb442)); have GE442 := am ((Nat.le_trans HW0.out (b23_ : w.heap.size ≤ gb442) : w0.heap.size ≤ gb442)); replace HK := am (KeepBut.trans b6_ (KeepBut.of_below hb g none) (.inl rfl)); have NB434_442 := am ((b58_ : gb434 ≠ gb442)); have NB442_434 := am ((b59_ : gb442 ≠ gb434)); replace BK434 := am (blk_below (g := gb434) (o := .cells #[.slice none 0 0, .slice none 0 0] 32 (0, 0)) (bq BK434.out) hb); have NB0_442 := am ((b38_ : g ≠ gb442)); have NB442_0 := am ((b39_ : gb442 ≠ g)); replace HI0 := am (IsS103.below b47_ hb); clear hb hbox hg; obtain ⟨Ao58, co58, eo58⟩ := Kd.R_slice HO437.out; subst eo58; have hnb59 := NB442_434.out; have hnc59 := NB434_442.out; have hnb60 := NB442_0.out; have hnc60 := NB0_442.out; have hcz61_0 := bc BK442.out 0; have hcz61_1 := bc BK442.out 1; have hfz61_0 := bf BK442.out 0; have hfz61_1 := bf BK442.out 1; obtain ⟨Ao62, co62, eo62⟩ := Kd.R_slice HO440.out; subst eo62) | ((with_reducible refine gate_callee (f := 39) rfl ?_); refine goesL_ (some 7) rfl rfl Tryz.func39 (by kernel_rfl) rfl #[.pointer (some ⟨g, 0, none⟩), .int .i64 16] rfl mq ?_; (with_reducible refine (spec_l1Rd_pick.calls k g s0_0 t441 16 t443 t444 w0 _ ?side1 ?side2 A3.out).mono ?_); (case side1 => repeat (first | (with_reducible first | exact HI0.out | apply IsS103.alloc | apply IsS103.drewN | apply IsS103.drew | apply IsS103.set_1 | refine IsS103.far ?_ NB0_434.out _ | refine IsS103.far ?_ NB0_442.out _) | exact HI0.out)); (case side2 => repeat (first | (with_reducible first | exact HB.out | apply below_alloc | apply pw_below_drewN | apply below_drew1 | refine below_set ?_ (IsS103.ge HI0.out) | refine below_set ?_ GE434.out | refine below_set ?_ GE442.out) | exact HB.out)); rintro e w63 ⟨rfl, hi, hb, hk⟩; refine ⟨_, rfl, ?_⟩; replace BK434 := am (KeepBut.blk hk (g' := gb434) (o := .cells #[.slice none 0 0, .slice none 0 0] 32 (0, 0)) b28_ NB434_0.out (by simp)); replace HO437 := am (Kd.R_mono (Kd.R_keep (IsS103.apart (show IsS103 w0 _ g s0_0 t441 from by repeat (first | (with_reducible first | exact HI0.out | apply IsS103.alloc | apply IsS103.drewN | apply IsS103.drew | apply IsS103.set_1 | refine IsS103.far ?_ NB0_434.out _ | refine IsS103.far ?_ NB0_442.out _) | exact HI0.out)) (rq ((Kd.R_mono (Kd.R_far (p := ⟨gb442, 1, none⟩) (Kd.R_far (p := ⟨gb442, 0, none⟩) (Kd.R_types HO437.out BK442.out (by decide)) (fun _ hk => hk.2) (.slice Ao58 t435.length co58)) (fun _ hk => hk.2) (.slice Ao62 t438.length co62)) (fun _ h_ => h_.1)))) (by decide)) hk (fun _ h => h.2)) (fun _ h => h.1)); replace HO440 := am (Kd.R_mono (Kd.R_keep (IsS103.apart (show IsS103 w0 _ g s0_0 t441 from by repeat (first | (with_reducible first | exact HI0.out | apply IsS103.alloc | apply IsS103.drewN | apply IsS103.drew | apply IsS103.set_1 | refine IsS103.far ?_ NB0_434.out _ | refine IsS103.far ?_ NB0_442.out _) | exact HI0.out)) (rq ((Kd.R_mono (Kd.R_far (p := ⟨gb442, 1, none⟩) (Kd.R_far (p := ⟨gb442, 0, none⟩) (Kd.R_types HO440.out BK442.out (by decide)) (fun _ hk => hk.2) (.slice Ao58 t435.length co58)) (fun _ hk => hk.2) (.slice Ao62 t438.length co62)) (fun _ h_ => h_.1)))) (by decide)) hk (fun _ h => h.2)) (fun _ h => h.1)); replace BK442 := am (KeepBut.blk hk (g' := gb442) (o := .cells #[.slice Ao58 t435.length co58, .slice Ao62 t438.length co62] 32 (0, 0)) (by (with_reducible repeat (first | refine blk_drewN ?_ _ | refine blk_drew ?_ | refine blk_alloc ?_ _)); refine blk_put (cs := #[.slice Ao58 t435.length co58, .slice none 0 0]) ?_ 1 _ rfl; (with_reducible repeat (first | refine blk_drewN ?_ _ | refine blk_drew ?_ | refine blk_alloc ?_ _)); refine blk_put (cs := #[.slice none 0 0, .slice none 0 0]) ?_ 0 _ rfl; (with_reducible repeat (first | refine blk_drewN ?_ _ | refine blk_drew ?_ | refine blk_alloc ?_ _)); exact BK442.out) NB442_0.out (by simp)); replace HK := am (KeepBut.trans b4_ hk (.inl rfl)); replace HB := am (hb); replace HI0 := am (hi); (try clear hb); (try clear hb2); (try clear hk); (try clear hi); have hcz64_0 := bc BK442.out 0; have hcz64_1 := bc BK442.out 1; have hfz64_0 := bf BK442.out 0; have hfz64_1 := bf BK442.out 1))
   replace HO437 := am (Kd.R_drew HO437.out); replace HO440 := am (Kd.R_drew HO440.out); replace BK434 := am (blk_drew BK434.out); replace BK442 := am (blk_drew BK442.out); replace HI0 := am (IsS103.drew HI0.out); replace HK := am (keep_drew HK.out); replace HB := am (below_drew1 HB.out)
   refine start_ (n := 8) (S := fun w' => w'.cell? ⟨gb442, 0, none⟩ = some (.slice Ao58 t435.length co58) ∧ w'.cell? ⟨gb442, 1, none⟩ = some (.slice Ao62 t438.length co62)) (ds := [7]) #[false, false, false, false, false, false, false, false] (by kernel_rfl) rfl rfl ⟨(blk_cell BK442.out 0).trans rfl, (blk_cell BK442.out 1).trans rfl⟩ (fun hHeld => ?_); refine with_tabW spec_l13AnyBook.tab9 spec_l13AnyBook.bits9 (fun HT_ HW_ => ?_)
   generalize w63.drew = w65 at HO437 HO440 BK434 BK442 HI0 HK HB hHeld ⊢
   refine pu 0 36 ?_
   refine pu 2 38 ?_
   refine tk2 1 37 hHeld ?_
   refine on1 3 39 (fun K hK => ?_)
   refine Kd.R_lit_step Kd.string _ 9 ?hg (N := 39) ?hd (xs := ([(⟨#[]⟩ : ByteArray), (⟨#[122, 122]⟩ : ByteArray), (⟨#[65]⟩ : ByteArray)] : List ByteArray)) (inner := [.string (⟨#[]⟩ : ByteArray), .string (⟨#[122, 122]⟩ : ByteArray), .string (⟨#[65]⟩ : ByteArray)]) (ok := fun _ => True) (okp := fun _ => True) ?hr ?hp (fun _ hk => hk) trivial (Below.refl _ _) (Nat.le_refl _) (by simp) ?_; (case hd => rfl); (case hg => rfl); (case hr => first | (go_simp; done) | (go_simp; rfl)); (case hp => exact (Reps.one (show Kd.M Kd.string _ _ _ (⟨#[]⟩ : ByteArray) [.string (⟨#[]⟩ : ByteArray)] from rfl) (Reps.one (show Kd.M Kd.string _ _ _ (⟨#[122, 122]⟩ : ByteArray) [.string (⟨#[122, 122]⟩ : ByteArray)] from rfl) (Reps.one (show Kd.M Kd.string _ _ _ (⟨#[65]⟩ : ByteArray) [.string (⟨#[65]⟩ : ByteArray)] from rfl) (Reps.none _ _)))))
   intro v465 w66 ho67 hb hg_ hnew_; clear hg_ hnew_
   (first | rw [← Ny464.out] at ho67 | (simp only [Int.reduceToNat] at ho67; rw [← Ny464.out] at ho67) | (simp only [Int.toNat_natCast] at ho67; rw [← Ny464.out] at ho67))
   replace HO437 := am (Kd.R_below (rq HO437.out) hb); replace HO440 := am (Kd.R_below (rq HO440.out) hb)
   have HO466 := am (Kd.R_lower ho67 (keep_size (w := w) (g := g) (row := none) b4_))
   replace BK434 := am (blk_below (g := gb434) (o := .cells #[.slice none 0 0, .slice none 0 0] 32 (0, 0)) (bq BK434.out) hb); replace BK442 := am (blk_below (g := gb442) (o := .cells #[.slice Ao58 t435.length co58, .slice Ao62 t438.length co62] 32 (0, 0)) (bq BK442.out) hb)
   replace HK := am (KeepBut.trans b4_ (KeepBut.of_below hb g none) (.inl rfl))
   replace HB := am (below_step b20_ hb)
   replace HI0 := am (IsS103.below b21_ hb)
   clear hb ho67; obtain ⟨Ao68, co68, eo68⟩ := Kd.R_slice HO466.out
   (first | subst eo68 | (injection eo68 with f1_ f2_ f3_; have f4_ := f1_.symm; have f5_ := f3_.symm; clear f1_ f2_ f3_; subst f4_; subst f5_))
   refine hK.out _ _ ⟨(blk_cell BK442.out 0).trans rfl, (blk_cell BK442.out 1).trans rfl⟩ (fun hHeld => ?_)
   clear hK K
   refine norm_ (a' := ?_) ?_ ?_
   rotate_left
   ·show Act.put _ (some 39) _ = _
    simp only [Act.put, List.setIfInBounds_toArray, List.set_cons_zero, List.set_cons_succ, i64_w, i32_w]
    rfl
   refine on1 4 40 (fun K hK => ?_)
   refine goes_ Tryz.func40 (by kernel_rfl) rfl #[.pointer (some ⟨g, 0, none⟩), .slice Ao68 y464.length co68] (by rfl) rfl rfl mq ?_
   with_reducible refine (spec_l1Rd_of.calls k g s0_0 t444 _ _ y464 t467 t468 w0 _ ?side1 ?side2 ?side3 ?side4 ?side5 A52.out).mono ?_
   (case side1 => repeat (first | (with_reducible first | exact HI0.out | apply IsS103.alloc | apply IsS103.drewN | apply IsS103.drew | apply IsS103.set_1 | refine IsS103.far ?_ NB0_434.out _ | refine IsS103.far ?_ NB0_442.out _) | exact HI0.out)); (case side2 => repeat (first | (with_reducible first | exact HB.out | apply below_alloc | apply pw_below_drewN | apply below_drew1 | refine below_set ?_ (IsS103.ge HI0.out) | refine below_set ?_ GE434.out | refine below_set ?_ GE442.out) | exact HB.out)); (case side3 => exact cq (Kd.R_reads' HO466.out).2.2); (case side4 => exact (Kd.R_reads' HO466.out).2.1); (case side5 => exact far_slice (IsS103.own_ne HI0.out HO466.out (by decide)))
   rintro e w69 ⟨rfl, hi, hb, hk⟩
   refine ⟨_, rfl, ?_⟩
   replace BK434 := am (KeepBut.blk hk (g' := gb434) (o := .cells #[.slice none 0 0, .slice none 0 0] 32 (0, 0)) (bq BK434.out) NB434_0.out (by simp))
   replace HO437 := am (Kd.R_mono (Kd.R_keep (IsS103.apart (show IsS103 w0 _ g s0_0 t444 from by repeat (first | (with_reducible first | exact HI0.out | apply IsS103.alloc | apply IsS103.drewN | apply IsS103.drew | apply IsS103.set_1 | refine IsS103.far ?_ NB0_434.out _ | refine IsS103.far ?_ NB0_442.out _) | exact HI0.out)) (rq HO437.out) (by decide)) hk (fun _ h => h.2)) (fun _ h => h.1))
   replace HO440 := am (Kd.R_mono (Kd.R_keep (IsS103.apart (show IsS103 w0 _ g s0_0 t444 from by repeat (first | (with_reducible first | exact HI0.out | apply IsS103.alloc | apply IsS103.drewN | apply IsS103.drew | apply IsS103.set_1 | refine IsS103.far ?_ NB0_434.out _ | refine IsS103.far ?_ NB0_442.out _) | exact HI0.out)) (rq HO440.out) (by decide)) hk (fun _ h => h.2)) (fun _ h => h.1))
   replace BK442 := am (KeepBut.blk hk (g' := gb442) (o := .cells #[.slice Ao58 t435.length co58, .slice Ao62 t438.length co62] 32 (0, 0)) (bq BK442.out) NB442_0.out (by simp))
   replace HO466 := am (Kd.R_mono (Kd.R_keep (IsS103.apart (show IsS103 w0 _ g s0_0 t444 from by repeat (first | (with_reducible first | exact HI0.out | apply IsS103.alloc | apply IsS103.drewN | apply IsS103.drew | apply IsS103.set_1 | refine IsS103.far ?_ NB0_434.out _ | refine IsS103.far ?_ NB0_442.out _) | exact HI0.out)) (rq HO466.out) (by decide)) hk (fun _ h => h.2)) (fun _ h => h.1))
   replace HK := am (KeepBut.trans b4_ hk (.inl rfl))
   replace HB := am (hb); replace HI0 := am (hi)
   (try clear hb)
   (try clear hb2)
   (try clear hk)
   (try clear hi)
   have p54 : 0 ≤ (0 : Int) := (by omega)
   have q54 : (0 : Int) < ((t438.length : Int) : Int) := of_decide_eq_true ad
   have qi54 : (0 < t438.length) = True := eq_true (by omega)
   obtain ⟨go54, co54, eo54, gb54, gl54, cl54, HG54⟩ := Kd.R_form HO440.out (by omega)
   (first | cases eo54 | (injection eo54 with ea_ en_ ec_; (first | subst ea_ | (injection ea_ with ea_; subst ea_)); subst ec_; clear en_))
   have GB54 := Aside0.mk gb54; have GG54 := am HG54; clear gb54 gl54 HG54; obtain ⟨ce54, hcl54, hM54, hcc54, hfr54⟩ := Kd.R_elem HO440.out z78 (0 : Int) p54 q54; obtain rfl := k78_openM hM54
   have hx54_0 : World.cell? _ ⟨go54, (0 : Int).toNat * 2, none⟩ = some (.string ((rd_T78 t438 0).f0)) := hcc54 0 _ rfl
   have hx54_1 : World.cell? _ ⟨go54, (0 : Int).toNat * 2 + 1, none⟩ = some (.string ((rd_T78 t438 0).f1)) := hcc54 1 _ rfl
   have hf54_0 : World.frozen? _ ⟨go54, (0 : Int).toNat * 2, none⟩ = false := hfr54 0
   have hf54_1 : World.frozen? _ ⟨go54, (0 : Int).toNat * 2 + 1, none⟩ = false := hfr54 1
   clear hcl54 hcc54 hfr54; (try clear hM54)
   (try rw [show ((0 : Int)).toNat = 0 from rfl] at hx54_0)
   (try simp only [Nat.reduceMul, Nat.zero_mul, Nat.zero_add, Nat.reduceAdd] at hx54_0)
   (try rw [show ((0 : Int)).toNat = 0 from rfl] at hf54_0)
   (try simp only [Nat.reduceMul, Nat.zero_mul, Nat.zero_add, Nat.reduceAdd] at hf54_0)
   (try rw [show ((0 : Int)).toNat = 0 from rfl] at hx54_1)
   (try simp only [Nat.reduceMul, Nat.zero_mul, Nat.zero_add, Nat.reduceAdd] at hx54_1)
   (try rw [show ((0 : Int)).toNat = 0 from rfl] at hf54_1)
   (try simp only [Nat.reduceMul, Nat.zero_mul, Nat.zero_add, Nat.reduceAdd] at hf54_1)
   replace p54 := eq_true p54; replace q54 := eq_true q54
   have HN0_go54 := am (show g ≠ go54 from by have h_ := IsS103.own_ne HI0.out HO440.out (by decide); intro e_; exact h_ (by rw [e_]; rfl))
   obtain ⟨ce70, hcl70, hM70, hcc70, hfr70⟩ := Kd.R_elem HO440.out z78 (0 : Int) (by omega) b75_
   obtain rfl := k78_openM hM70
   have HP70 := (Kd.R_seg HO440.out (0 : Int) (by omega) b75_ (seg := [.string t467]) (j := 0) hcl70 hcc70 (show 1 ≤ 2 from by decide) (x' := (⟨t467, (rd_T78 t438 0).f1⟩ : S78)) (k78_mkM _ _ _ (⟨t467, (rd_T78 t438 0).f1⟩ : S78) ) (fun _ hk => hk)).1
   rw [← Ny469.out] at HP70; have HQ70 := am HP70
   clear hcl70 hcc70 hfr70 HP70; (try clear hM70)
   refine hK.out _ _ ⟨(blk_cell BK442.out 0).trans rfl, (blk_cell BK442.out 1).trans rfl⟩ (fun hHeld => ?_)
   clear hK K
   refine norm_ (a' := ?_) ?_ ?_
   rotate_left
   ·show Act.put _ (some 40) _ = _
    simp only [Act.put, List.setIfInBounds_toArray, List.set_cons_zero, List.set_cons_succ, i64_w, i32_w]
    rfl
   refine pu 5 41 ?_
   refine pu 6 42 ?_
   refine last_ (i := 7) (N := none) #[true, true, true, true, true, true, true, true] rfl rfl (one_of HT_.out (by kernel_rfl)) (by decide) (fun K hK => ?_)
   refine skip_ (w1 := ?_) (by rfl) rfl ?_ ?_
   rotate_left
   ·go_simp
    rfl
   refine hK.out _ _ ?_
   clear hK K
   refine done_ (done_of HT_.out (by kernel_rfl)) ?_
   have n0_ : Aside0 (Kd.R k82 82 (w69.setCell ⟨go54, 0, none⟩ (.string t467)) w.heap.size (fun _ => True) (.slice Ao58 t435.length co58) t435) := ⟨rq (Kd.R_mono (Kd.R_far (p := ⟨go54, 0, none⟩) (Kd.R_types HO437.out GG54.out (by decide)) (fun _ hk => hk.2) (.string t467)) (fun _ hk => trivial))⟩
   have n1_ : Aside0 (Kd.R k78 78 (w69.setCell ⟨go54, 0, none⟩ (.string t467)) w.heap.size (fun _ => True) (.slice (some ⟨go54, 0, none⟩) t438.length co62) y469) := ⟨rq HQ70.out⟩
   have n2_ : Aside0 (Kd.R Kd.string 9 (w69.setCell ⟨go54, 0, none⟩ (.string t467)) w.heap.size (fun _ => True) (.slice Ao68 y464.length co68) y464) := ⟨rq (Kd.R_mono (Kd.R_far (p := ⟨go54, 0, none⟩) (Kd.R_types HO466.out GG54.out (by decide)) (fun _ hk => hk.2) (.string t467)) (fun _ hk => trivial))⟩
   have n3_ : Aside0 ((w69.setCell ⟨go54, 0, none⟩ (.string t467)).heap[gb434]? = some (.cells #[.slice none 0 0, .slice none 0 0] 32 (0, 0))) := ⟨by (with_reducible repeat (first | refine blk_drewN ?_ _ | refine blk_drew ?_ | refine blk_alloc ?_ _)); refine blk_far ?_ (by have h_ := Kd.R_ne HO440.out BK434.out (by decide); intro e_; exact h_ (by rw [e_]; rfl)) _; (with_reducible repeat (first | refine blk_drewN ?_ _ | refine blk_drew ?_ | refine blk_alloc ?_ _)); exact BK434.out⟩
   have n4_ : Aside0 ((w69.setCell ⟨go54, 0, none⟩ (.string t467)).heap[gb442]? = some (.cells #[.slice Ao58 t435.length co58, .slice (some ⟨go54, 0, none⟩) t438.length co62] 32 (0, 0))) := ⟨by (with_reducible repeat (first | refine blk_drewN ?_ _ | refine blk_drew ?_ | refine blk_alloc ?_ _)); refine blk_far ?_ (by have h_ := Kd.R_ne HO440.out BK442.out (by decide); intro e_; exact h_ (by rw [e_]; rfl)) _; (with_reducible repeat (first | refine blk_drewN ?_ _ | refine blk_drew ?_ | refine blk_alloc ?_ _)); exact BK442.out⟩
   have n5_ : Aside0 (IsS103 w0 (w69.setCell ⟨go54, 0, none⟩ (.string t467)) g s0_0 t468) := ⟨by repeat (first | (with_reducible first | exact HI0.out | apply IsS103.alloc | apply IsS103.drewN | apply IsS103.drew | apply IsS103.set_1 | refine IsS103.far ?_ HN0_go54.out _ | refine IsS103.far ?_ NB0_434.out _ | refine IsS103.far ?_ NB0_442.out _) | exact HI0.out)⟩
   have n6_ : Aside0 (KeepBut w (w69.setCell ⟨go54, 0, none⟩ (.string t467)) g none) := ⟨by repeat (first | (with_reducible first | exact HK.out | apply KeepBut.set_ | apply keep_drewN | apply keep_drew | apply keep_alloc | refine keep_far ?_ GB54.out _ | refine keep_far ?_ GW434.out _ | refine keep_far ?_ GW442.out _) | exact HK.out)⟩
   have n7_ : Aside0 (Below w0.heap.size w0 (w69.setCell ⟨go54, 0, none⟩ (.string t467))) := ⟨by repeat (first | (with_reducible first | exact HB.out | apply below_alloc | apply pw_below_drewN | apply below_drew1 | refine below_set ?_ (Nat.le_trans HL.out GB54.out) | refine below_set ?_ (IsS103.ge HI0.out) | refine below_set ?_ GE434.out | refine below_set ?_ GE442.out) | exact HB.out)⟩
   (try clear HO437)
   (try clear HO440)
   (try clear HO466)
   (try clear BK434)
   (try clear BK442)
   (try clear HI0)
   (try clear HK)
   (try clear HB)
   generalize (w69.setCell ⟨go54, 0, none⟩ (.string t467)) = w71 at n0_ n1_ n2_ n3_ n4_ n5_ n6_ n7_ ⊢
   have HO437 := n0_; have HO440 := n1_; have HO466 := n2_; have BK434 := n3_; have BK442 := n4_; have HI0 := n5_; have HK := n6_; have HB := n7_; clear n0_ n1_ n2_ n3_ n4_ n5_ n6_ n7_; have hcz72_0 := bc BK442.out 0; have hcz72_1 := bc BK442.out 1; have hfz72_0 := bf BK442.out 0; have hfz72_1 := bf BK442.out 1; have hnb73 := NB434_0.out; have hnc73 := NB0_434.out; have hcz74_0 := bc BK434.out 0; have hcz74_1 := bc BK434.out 1; have hfz74_0 := bf BK434.out 0; have hfz74_1 := bf BK434.out 1
   try go_wp2
   refine bodyPost_ret (results_cell_row rfl _ _ gb434 32 #[.slice Ao58 t435.length co58, .slice (some ⟨go54, 0, none⟩) t438.length co62] (0, 0) _ rfl (by (with_reducible repeat (first | refine blk_drewN ?_ _ | refine blk_drew ?_ | refine blk_alloc ?_ _)); refine blk_put (cs := #[.slice Ao58 t435.length co58, .slice none 0 0]) ?_ 1 _ rfl; (with_reducible repeat (first | refine blk_drewN ?_ _ | refine blk_drew ?_ | refine blk_alloc ?_ _)); refine blk_put (cs := #[.slice none 0 0, .slice none 0 0]) ?_ 0 _ rfl; (with_reducible repeat (first | refine blk_drewN ?_ _ | refine blk_drew ?_ | refine blk_alloc ?_ _)); exact BK434.out) Tryz.underlying32 rfl (by kernel_rfl)) rfl ?_
   exact ⟨_, _, eq_, by (with_reducible repeat (first | apply Kd.R_alloc | apply Kd.R_drewN | apply Kd.R_drew)); exact Kd.R_mono (Kd.R_far (p := ⟨gb434, 1, none⟩) (Kd.R_far (p := ⟨gb434, 0, none⟩) (Kd.R_types HO437.out BK434.out (by decide)) (fun _ hk => hk.2) (.slice Ao58 t435.length co58)) (fun _ hk => hk.2) (.slice (some ⟨go54, 0, none⟩) t438.length co62)) (fun _ hk => trivial), by (with_reducible repeat (first | apply Kd.R_alloc | apply Kd.R_drewN | apply Kd.R_drew)); exact Kd.R_mono (Kd.R_far (p := ⟨gb434, 1, none⟩) (Kd.R_far (p := ⟨gb434, 0, none⟩) (Kd.R_types HO440.out BK434.out (by decide)) (fun _ hk => hk.2) (.slice Ao58 t435.length co58)) (fun _ hk => hk.2) (.slice (some ⟨go54, 0, none⟩) t438.length co62)) (fun _ hk => trivial), b21_, b20_, b4_⟩
  rw [if_neg c51] at H; have c51b0 := decide_eq_false c51
  have c51b1 : decide (0 < t438.length) = false := decide_eq_false (by omega)
  clear c51
  simp only [Option.some.injEq, Prod.mk.injEq] at H
  obtain ⟨rfl, rfl, rfl⟩ := H; go_enter Tryz.func38, Tryz.ntmps38
  go_wp2_with (first | ((with_reducible refine gate_dst (N := 2) rfl ?_); refine bx 2 (cs := #[.slice none 0 0, .slice none 0 0]) (t := 32) ?_; intro gb434 hg w75 hbox hb; replace HB := am (below_step b3_ hb); have BK434 := am (hbox); have GW434 := am ((b1_ : w.heap.size ≤ gb434)); have GE434 := am ((Nat.le_trans HW0.out (b1_ : w.heap.size ≤ gb434) : w0.heap.size ≤ gb434)); replace HK := am (KeepBut.trans b0_ (KeepBut.of_below hb g none) (.inl rfl)); have NB0_434 := am ((b16_ : g ≠ gb434)); have NB434_0 := am ((b17_ : gb434 ≠ g)); replace HI0 := am (IsS103.below b5_ hb); clear hb hbox hg) | ((with_reducible refine gate_callee (f := 66) rfl ?_); refine goesL_ (some 5) rfl rfl Tryz.func66 (by kernel_rfl) rfl #[.pointer (some ⟨g, 0, none⟩)] rfl mq ?_; (with_reducible refine (spec_l13Book.calls k g s0_0 s0_1 t435 t438 t441 w0 _ ?side1 ?side2 A2.out).mono ?_); (case side1 => repeat (first | (with_reducible first | exact HI0.out | apply IsS103.alloc | apply IsS103.drewN | apply IsS103.drew | apply IsS103.set_1 | refine IsS103.far ?_ NB0_434.out _) | exact HI0.out)); (case side2 => repeat (first | (with_reducible first | exact HB.out | apply below_alloc | apply pw_below_drewN | apply below_drew1 | refine below_set ?_ (IsS103.ge HI0.out) | refine below_set ?_ GE434.out) | exact HB.out)); rintro e w76 ⟨v436, v439, rfl, ho0, ho1, hi, hb, hk⟩; refine ⟨_, rfl, ?_⟩; replace BK434 := am (KeepBut.blk hk (g' := gb434) (o := .cells #[.slice none 0 0, .slice none 0 0] 32 (0, 0)) (bq BK434.out) NB434_0.out (by simp)); have HO437 := am (Kd.R_lower ho0 (keep_size (w := w) (g := g) (row := none) b6_)); have HO440 := am (Kd.R_lower ho1 (keep_size (w := w) (g := g) (row := none) b6_)); replace HK := am (KeepBut.trans b6_ hk (.inl rfl)); replace HB := am (hb); replace HI0 := am (hi); (try clear hb); (try clear hb2); (try clear hk); (try clear hi); (try clear ho0); (try clear ho1)) | ((with_reducible refine gate_dst (N := 3) rfl ?_); refine bx 3 (cs := #[.slice none 0 0, .slice none 0 0]) (t := 32) ?_; intro gb442 hg w77 hbox hb; replace HO437 := am (Kd.R_below (rq HO437.out) hb); replace HO440 := am (Kd.R_below (rq HO440.out) hb); replace HB := am (below_step b45_ hb); have BK442 := am (hbox); have GW442 := am ((b23_ : w.heap.size ≤ gb442)); have GE442 := am ((Nat.le_trans HW0.out (b23_ : w.heap.size ≤ gb442) : w0.heap.size ≤ gb442)); replace HK := am (KeepBut.trans b6_ (KeepBut.of_below hb g none) (.inl rfl)); have NB434_442 := am ((b58_ : gb434 ≠ gb442)); have NB442_434 := am ((b59_ : gb442 ≠ gb434)); replace BK434 := am (blk_below (g := gb434) (o := .cells #[.slice none 0 0, .slice none 0 0] 32 (0, 0)) (bq BK434.out) hb); have NB0_442 := am ((b38_ : g ≠ gb442)); have NB442_0 := am ((b39_ : gb442 ≠ g)); replace HI0 := am (IsS103.below b47_ hb); clear hb hbox hg; obtain ⟨Ao78, co78, eo78⟩ := Kd.R_slice HO437.out; subst eo78; have hnb79 := NB442_434.out; have hnc79 := NB434_442.out; have hnb80 := NB442_0.out; have hnc80 := NB0_442.out; have hcz81_0 := bc BK442.out 0; have hcz81_1 := bc BK442.out 1; have hfz81_0 := bf BK442.out 0; have hfz81_1 := bf BK442.out 1; obtain ⟨Ao82, co82, eo82⟩ := Kd.R_slice HO440.out; subst eo82) | ((with_reducible refine gate_callee (f := 39) rfl ?_); refine goesL_ (some 7) rfl rfl Tryz.func39 (by kernel_rfl) rfl #[.pointer (some ⟨g, 0, none⟩), .int .i64 16] rfl mq ?_; (with_reducible refine (spec_l1Rd_pick.calls k g s0_0 t441 16 t443 t444 w0 _ ?side1 ?side2 A3.out).mono ?_); (case side1 => repeat (first | (with_reducible first | exact HI0.out | apply IsS103.alloc | apply IsS103.drewN | apply IsS103.drew | apply IsS103.set_1 | refine IsS103.far ?_ NB0_434.out _ | refine IsS103.far ?_ NB0_442.out _) | exact HI0.out)); (case side2 => repeat (first | (with_reducible first | exact HB.out | apply below_alloc | apply pw_below_drewN | apply below_drew1 | refine below_set ?_ (IsS103.ge HI0.out) | refine below_set ?_ GE434.out | refine below_set ?_ GE442.out) | exact HB.out)); rintro e w83 ⟨rfl, hi, hb, hk⟩; refine ⟨_, rfl, ?_⟩; replace BK434 := am (KeepBut.blk hk (g' := gb434) (o := .cells #[.slice none 0 0, .slice none 0 0] 32 (0, 0)) b28_ NB434_0.out (by simp)); replace HO437 := am (Kd.R_mono (Kd.R_keep (IsS103.apart (show IsS103 w0 _ g s0_0 t441 from by repeat (first | (with_reducible first | exact HI0.out | apply IsS103.alloc | apply IsS103.drewN | apply IsS103.drew | apply IsS103.set_1 | refine IsS103.far ?_ NB0_434.out _ | refine IsS103.far ?_ NB0_442.out _) | exact HI0.out)) (rq ((Kd.R_mono (Kd.R_far (p := ⟨gb442, 1, none⟩) (Kd.R_far (p := ⟨gb442, 0, none⟩) (Kd.R_types HO437.out BK442.out (by decide)) (fun _ hk => hk.2) (.slice Ao78 t435.length co78)) (fun _ hk => hk.2) (.slice Ao82 t438.length co82)) (fun _ h_ => h_.1)))) (by decide)) hk (fun _ h => h.2)) (fun _ h => h.1)); replace HO440 := am (Kd.R_mono (Kd.R_keep (IsS103.apart (show IsS103 w0 _ g s0_0 t441 from by repeat (first | (with_reducible first | exact HI0.out | apply IsS103.alloc | apply IsS103.drewN | apply IsS103.drew | apply IsS103.set_1 | refine IsS103.far ?_ NB0_434.out _ | refine IsS103.far ?_ NB0_442.out _) | exact HI0.out)) (rq ((Kd.R_mono (Kd.R_far (p := ⟨gb442, 1, none⟩) (Kd.R_far (p := ⟨gb442, 0, none⟩) (Kd.R_types HO440.out BK442.out (by decide)) (fun _ hk => hk.2) (.slice Ao78 t435.length co78)) (fun _ hk => hk.2) (.slice Ao82 t438.length co82)) (fun _ h_ => h_.1)))) (by decide)) hk (fun _ h => h.2)) (fun _ h => h.1)); replace BK442 := am (KeepBut.blk hk (g' := gb442) (o := .cells #[.slice Ao78 t435.length co78, .slice Ao82 t438.length co82] 32 (0, 0)) (by (with_reducible repeat (first | refine blk_drewN ?_ _ | refine blk_drew ?_ | refine blk_alloc ?_ _)); refine blk_put (cs := #[.slice Ao78 t435.length co78, .slice none 0 0]) ?_ 1 _ rfl; (with_reducible repeat (first | refine blk_drewN ?_ _ | refine blk_drew ?_ | refine blk_alloc ?_ _)); refine blk_put (cs := #[.slice none 0 0, .slice none 0 0]) ?_ 0 _ rfl; (with_reducible repeat (first | refine blk_drewN ?_ _ | refine blk_drew ?_ | refine blk_alloc ?_ _)); exact BK442.out) NB442_0.out (by simp)); replace HK := am (KeepBut.trans b4_ hk (.inl rfl)); replace HB := am (hb); replace HI0 := am (hi); (try clear hb); (try clear hb2); (try clear hk); (try clear hi); have hcz84_0 := bc BK442.out 0; have hcz84_1 := bc BK442.out 1; have hfz84_0 := bf BK442.out 0; have hfz84_1 := bf BK442.out 1; have hnb85 := NB434_0.out; have hnc85 := NB0_434.out; have hcz86_0 := bc BK434.out 0; have hcz86_1 := bc BK434.out 1; have hfz86_0 := bf BK434.out 0; have hfz86_1 := bf BK434.out 1))
  refine bodyPost_ret (results_cell_row rfl _ _ gb434 32 #[.slice Ao78 t435.length co78, .slice Ao82 t438.length co82] (0, 0) _ rfl (by (with_reducible repeat (first | refine blk_drewN ?_ _ | refine blk_drew ?_ | refine blk_alloc ?_ _)); refine blk_put (cs := #[.slice Ao78 t435.length co78, .slice none 0 0]) ?_ 1 _ rfl; (with_reducible repeat (first | refine blk_drewN ?_ _ | refine blk_drew ?_ | refine blk_alloc ?_ _)); refine blk_put (cs := #[.slice none 0 0, .slice none 0 0]) ?_ 0 _ rfl; (with_reducible repeat (first | refine blk_drewN ?_ _ | refine blk_drew ?_ | refine blk_alloc ?_ _)); exact BK434.out) Tryz.underlying32 rfl (by kernel_rfl)) rfl ?_
  exact ⟨_, _, eq_, by (with_reducible repeat (first | apply Kd.R_alloc | apply Kd.R_drewN | apply Kd.R_drew)); exact Kd.R_mono (Kd.R_far (p := ⟨gb434, 1, none⟩) (Kd.R_far (p := ⟨gb434, 0, none⟩) (Kd.R_types HO437.out BK434.out (by decide)) (fun _ hk => hk.2) (.slice Ao78 t435.length co78)) (fun _ hk => hk.2) (.slice Ao82 t438.length co82)) (fun _ hk => trivial), by (with_reducible repeat (first | apply Kd.R_alloc | apply Kd.R_drewN | apply Kd.R_drew)); exact Kd.R_mono (Kd.R_far (p := ⟨gb434, 1, none⟩) (Kd.R_far (p := ⟨gb434, 0, none⟩) (Kd.R_types HO440.out BK434.out (by decide)) (fun _ hk => hk.2) (.slice Ao78 t435.length co78)) (fun _ hk => hk.2) (.slice Ao82 t438.length co82)) (fun _ hk => trivial), b21_, b20_, b4_⟩
 rw [if_neg c50] at H
 have c50b0 : (t443 == 2) = false := beq_eq_false_iff_ne.mpr c50
 have c50b1 : (t443 != 2) = true := bne_iff_ne.mpr c50
 simp only [Option.some.injEq, Prod.mk.injEq] at H
 obtain ⟨rfl, rfl, rfl⟩ := H; go_enter Tryz.func38, Tryz.ntmps38
 go_wp2_with (first | ((with_reducible refine gate_dst (N := 2) rfl ?_); refine bx 2 (cs := #[.slice none 0 0, .slice none 0 0]) (t := 32) ?_; intro gb434 hg w87 hbox hb; replace HB := am (below_step b3_ hb); have BK434 := am (hbox); have GW434 := am ((b1_ : w.heap.size ≤ gb434)); have GE434 := am ((Nat.le_trans HW0.out (b1_ : w.heap.size ≤ gb434) : w0.heap.size ≤ gb434)); replace HK := am (KeepBut.trans b0_ (KeepBut.of_below hb g none) (.inl rfl)); have NB0_434 := am ((b16_ : g ≠ gb434)); have NB434_0 := am ((b17_ : gb434 ≠ g)); replace HI0 := am (IsS103.below b5_ hb); clear hb hbox hg) | ((with_reducible refine gate_callee (f := 66) rfl ?_); refine goesL_ (some 5) rfl rfl Tryz.func66 (by kernel_rfl) rfl #[.pointer (some ⟨g, 0, none⟩)] rfl mq ?_; (with_reducible refine (spec_l13Book.calls k g s0_0 s0_1 t435 t438 t441 w0 _ ?side1 ?side2 A2.out).mono ?_); (case side1 => repeat (first | (with_reducible first | exact HI0.out | apply IsS103.alloc | apply IsS103.drewN | apply IsS103.drew | apply IsS103.set_1 | refine IsS103.far ?_ NB0_434.out _) | exact HI0.out)); (case side2 => repeat (first | (with_reducible first | exact HB.out | apply below_alloc | apply pw_below_drewN | apply below_drew1 | refine below_set ?_ (IsS103.ge HI0.out) | refine below_set ?_ GE434.out) | exact HB.out)); rintro e w88 ⟨v436, v439, rfl, ho0, ho1, hi, hb, hk⟩; refine ⟨_, rfl, ?_⟩; replace BK434 := am (KeepBut.blk hk (g' := gb434) (o := .cells #[.slice none 0 0, .slice none 0 0] 32 (0, 0)) (bq BK434.out) NB434_0.out (by simp)); have HO437 := am (Kd.R_lower ho0 (keep_size (w := w) (g := g) (row := none) b6_)); have HO440 := am (Kd.R_lower ho1 (keep_size (w := w) (g := g) (row := none) b6_)); replace HK := am (KeepBut.trans b6_ hk (.inl rfl)); replace HB := am (hb); replace HI0 := am (hi); (try clear hb); (try clear hb2); (try clear hk); (try clear hi); (try clear ho0); (try clear ho1)) | ((with_reducible refine gate_dst (N := 3) rfl ?_); refine bx 3 (cs := #[.slice none 0 0, .slice none 0 0]) (t := 32) ?_; intro gb442 hg w89 hbox hb; replace HO437 := am (Kd.R_below (rq HO437.out) hb); replace HO440 := am (Kd.R_below (rq HO440.out) hb); replace HB := am (below_step b45_ hb); have BK442 := am (hbox); have GW442 := am ((b23_ : w.heap.size ≤ gb442)); have GE442 := am ((Nat.le_trans HW0.out (b23_ : w.heap.size ≤ gb442) : w0.heap.size ≤ gb442)); replace HK := am (KeepBut.trans b6_ (KeepBut.of_below hb g none) (.inl rfl)); have NB434_442 := am ((b58_ : gb434 ≠ gb442)); have NB442_434 := am ((b59_ : gb442 ≠ gb434)); replace BK434 := am (blk_below (g := gb434) (o := .cells #[.slice none 0 0, .slice none 0 0] 32 (0, 0)) (bq BK434.out) hb); have NB0_442 := am ((b38_ : g ≠ gb442)); have NB442_0 := am ((b39_ : gb442 ≠ g)); replace HI0 := am (IsS103.below b47_ hb); clear hb hbox hg; obtain ⟨Ao90, co90, eo90⟩ := Kd.R_slice HO437.out; subst eo90; have hnb91 := NB442_434.out; have hnc91 := NB434_442.out; have hnb92 := NB442_0.out; have hnc92 := NB0_442.out; have hcz93_0 := bc BK442.out 0; have hcz93_1 := bc BK442.out 1; have hfz93_0 := bf BK442.out 0; have hfz93_1 := bf BK442.out 1; obtain ⟨Ao94, co94, eo94⟩ := Kd.R_slice HO440.out; subst eo94) | ((with_reducible refine gate_callee (f := 39) rfl ?_); refine goesL_ (some 7) rfl rfl Tryz.func39 (by kernel_rfl) rfl #[.pointer (some ⟨g, 0, none⟩), .int .i64 16] rfl mq ?_; (with_reducible refine (spec_l1Rd_pick.calls k g s0_0 t441 16 t443 t444 w0 _ ?side1 ?side2 A3.out).mono ?_); (case side1 => repeat (first | (with_reducible first | exact HI0.out | apply IsS103.alloc | apply IsS103.drewN | apply IsS103.drew | apply IsS103.set_1 | refine IsS103.far ?_ NB0_434.out _ | refine IsS103.far ?_ NB0_442.out _) | exact HI0.out)); (case side2 => repeat (first | (with_reducible first | exact HB.out | apply below_alloc | apply pw_below_drewN | apply below_drew1 | refine below_set ?_ (IsS103.ge HI0.out) | refine below_set ?_ GE434.out | refine below_set ?_ GE442.out) | exact HB.out)); rintro e w95 ⟨rfl, hi, hb, hk⟩; refine ⟨_, rfl, ?_⟩; replace BK434 := am (KeepBut.blk hk (g' := gb434) (o := .cells #[.slice none 0 0, .slice none 0 0] 32 (0, 0)) b28_ NB434_0.out (by simp)); replace HO437 := am (Kd.R_mono (Kd.R_keep (IsS103.apart (show IsS103 w0 _ g s0_0 t441 from by repeat (first | (with_reducible first | exact HI0.out | apply IsS103.alloc | apply IsS103.drewN | apply IsS103.drew | apply IsS103.set_1 | refine IsS103.far ?_ NB0_434.out _ | refine IsS103.far ?_ NB0_442.out _) | exact HI0.out)) (rq ((Kd.R_mono (Kd.R_far (p := ⟨gb442, 1, none⟩) (Kd.R_far (p := ⟨gb442, 0, none⟩) (Kd.R_types HO437.out BK442.out (by decide)) (fun _ hk => hk.2) (.slice Ao90 t435.length co90)) (fun _ hk => hk.2) (.slice Ao94 t438.length co94)) (fun _ h_ => h_.1)))) (by decide)) hk (fun _ h => h.2)) (fun _ h => h.1)); replace HO440 := am (Kd.R_mono (Kd.R_keep (IsS103.apart (show IsS103 w0 _ g s0_0 t441 from by repeat (first | (with_reducible first | exact HI0.out | apply IsS103.alloc | apply IsS103.drewN | apply IsS103.drew | apply IsS103.set_1 | refine IsS103.far ?_ NB0_434.out _ | refine IsS103.far ?_ NB0_442.out _) | exact HI0.out)) (rq ((Kd.R_mono (Kd.R_far (p := ⟨gb442, 1, none⟩) (Kd.R_far (p := ⟨gb442, 0, none⟩) (Kd.R_types HO440.out BK442.out (by decide)) (fun _ hk => hk.2) (.slice Ao90 t435.length co90)) (fun _ hk => hk.2) (.slice Ao94 t438.length co94)) (fun _ h_ => h_.1)))) (by decide)) hk (fun _ h => h.2)) (fun _ h => h.1)); replace BK442 := am (KeepBut.blk hk (g' := gb442) (o := .cells #[.slice Ao90 t435.length co90, .slice Ao94 t438.length co94] 32 (0, 0)) (by (with_reducible repeat (first | refine blk_drewN ?_ _ | refine blk_drew ?_ | refine blk_alloc ?_ _)); refine blk_put (cs := #[.slice Ao90 t435.length co90, .slice none 0 0]) ?_ 1 _ rfl; (with_reducible repeat (first | refine blk_drewN ?_ _ | refine blk_drew ?_ | refine blk_alloc ?_ _)); refine blk_put (cs := #[.slice none 0 0, .slice none 0 0]) ?_ 0 _ rfl; (with_reducible repeat (first | refine blk_drewN ?_ _ | refine blk_drew ?_ | refine blk_alloc ?_ _)); exact BK442.out) NB442_0.out (by simp)); replace HK := am (KeepBut.trans b4_ hk (.inl rfl)); replace HB := am (hb); replace HI0 := am (hi); (try clear hb); (try clear hb2); (try clear hk); (try clear hi); have hcz96_0 := bc BK442.out 0; have hcz96_1 := bc BK442.out 1; have hfz96_0 := bf BK442.out 0; have hfz96_1 := bf BK442.out 1; have hnb97 := NB434_0.out; have hnc97 := NB0_434.out; have hcz98_0 := bc BK434.out 0; have hcz98_1 := bc BK434.out 1; have hfz98_0 := bf BK434.out 0; have hfz98_1 := bf BK434.out 1))
 refine bodyPost_ret (results_cell_row rfl _ _ gb434 32 #[.slice Ao90 t435.length co90, .slice Ao94 t438.length co94] (0, 0) _ rfl (by (with_reducible repeat (first | refine blk_drewN ?_ _ | refine blk_drew ?_ | refine blk_alloc ?_ _)); refine blk_put (cs := #[.slice Ao90 t435.length co90, .slice none 0 0]) ?_ 1 _ rfl; (with_reducible repeat (first | refine blk_drewN ?_ _ | refine blk_drew ?_ | refine blk_alloc ?_ _)); refine blk_put (cs := #[.slice none 0 0, .slice none 0 0]) ?_ 0 _ rfl; (with_reducible repeat (first | refine blk_drewN ?_ _ | refine blk_drew ?_ | refine blk_alloc ?_ _)); exact BK434.out) Tryz.underlying32 rfl (by kernel_rfl)) rfl ?_
 exact ⟨_, _, eq_, by (with_reducible repeat (first | apply Kd.R_alloc | apply Kd.R_drewN | apply Kd.R_drew)); exact Kd.R_mono (Kd.R_far (p := ⟨gb434, 1, none⟩) (Kd.R_far (p := ⟨gb434, 0, none⟩) (Kd.R_types HO437.out BK434.out (by decide)) (fun _ hk => hk.2) (.slice Ao90 t435.length co90)) (fun _ hk => hk.2) (.slice Ao94 t438.length co94)) (fun _ hk => trivial), by (with_reducible repeat (first | apply Kd.R_alloc | apply Kd.R_drewN | apply Kd.R_drew)); exact Kd.R_mono (Kd.R_far (p := ⟨gb434, 1, none⟩) (Kd.R_far (p := ⟨gb434, 0, none⟩) (Kd.R_types HO440.out BK434.out (by decide)) (fun _ hk => hk.2) (.slice Ao90 t435.length co90)) (fun _ hk => hk.2) (.slice Ao94 t438.length co94)) (fun _ hk => trivial), b21_, b20_, b4_⟩
end Go.Proofs.YtfpmfaelodfecaaGreatDoor.QFnCheck

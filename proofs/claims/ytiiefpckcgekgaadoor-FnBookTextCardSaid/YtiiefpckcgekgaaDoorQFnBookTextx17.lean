import Derived.Test.YtiiefpckcgekgaaDoorQFnBookTextx0
import Derived.Test.YtiiefpckcgekgaaDoorQFnBookTextx11
import Derived.Test.YtiiefpckcgekgaaDoorQFnBookTextx13
import Derived.Test.YtiiefpckcgekgaaDoorQFnBookTextx16
import Derived.Test.YtiiefpckcgekgaaDoorVMSh2
import Derived.Test.YtiiefpckcgekgaaDoorQFnBookTextx6
namespace Go.Proofs.YtiiefpckcgekgaaDoor.QFnBookText
open Go.RowKit Go.Proofs.YtiiefpckcgekgaaDoorW.PrintWords Go.Proofs.YtiiefpckcgekgaaDoorW.PrintLast Go.Proofs.YtiiefpckcgekgaaDoorW.PrintMore Go.Proofs.YtiiefpckcgekgaaDoor.Sh
attribute [local go_sem] max2_int min2_int max_two min_two max_three min_three max_four min_four
set_option linter.unusedVariables false
set_option linter.unusedSimpArgs false
set_option maxHeartbeats 8000000
set_option maxRecDepth 100000
-- shrunk

/-! ### spec_l13AnyBook: function 31 -/
def spec_l13AnyBook.f (k : Nat) (s0_0 : List Int) (s0_1 : Int) : Option ((List (S40)) × (List (S43)) × Int) := (spec_l13Book.f k s0_0 s0_1).bind fun bt419 => ((spec_l1Rd_pick.f k s0_0 bt419.2.2 16).bind fun bt427 => (if bt427.1 = 0 then ((spec_l13AnyAffix.f k s0_0 bt427.2).bind fun bt429 => (if bt419.1.length < 1954687338268 then (some ((bt419.1 ++ [(⟨bt429.1, bt429.2.1, bt429.2.2.1, bt429.2.2.2.1, bt429.2.2.2.2.1⟩ : S40)]), bt419.2.1, bt429.2.2.2.2.2)) else (none))) else (if bt427.1 = 1 then ((spec_l13AnyWord.f k s0_0 bt427.2).bind fun bt438 => ((spec_l1Rd_of.f k s0_0 bt438.2 (([(⟨#[]⟩ : ByteArray), (⟨#[83, 71]⟩ : ByteArray), (⟨#[115]⟩ : ByteArray), (⟨#[65, 66, 67, 68, 69]⟩ : ByteArray)] : List ByteArray))).bind fun bt443 => (if bt419.2.1.length < 4398046511104 then (some (bt419.1, (bt419.2.1 ++ [(⟨bt438.1, bt443.1⟩ : S43)]), bt443.2)) else (none)))) else (if bt427.1 = 2 then (if (bt419.2.1.length : Int) > 0 then ((spec_l1Rd_of.f k s0_0 bt427.2 (([(⟨#[]⟩ : ByteArray), (⟨#[122, 122]⟩ : ByteArray), (⟨#[65]⟩ : ByteArray)] : List ByteArray))).bind fun bt451 => (if 0 < (bt419.2.1.length : Int) then (some (bt419.1, (bt419.2.1.set (0 : Int).toNat (⟨bt451.1, (rd_T43 bt419.2.1 0).f1⟩ : S43)), bt451.2)) else (none))) else (some (bt419.1, bt419.2.1, bt427.2))) else (some (bt419.1, bt419.2.1, bt427.2))))))
def spec_l13AnyBook.T4 : Bool × List (List Nat × List Nat) := (true, [([], []), ([0], [0]), ([], []), ([2], [2]), ([3], [3]), ([1, 4, 3], [1, 4]), ([0, 1, 2, 3, 4, 5], []), ([6, 5, 5, 0, 1, 2, 3, 4, 5], [5, 6])])
def spec_l13AnyBook.B4 : List Nat := [0, 1, 0, 4, 12, 31, 63, 127]
theorem spec_l13AnyBook.tab4 : rtab .any (opsOf Tryd.f31 4) = spec_l13AnyBook.T4 := by kernel_rfl
theorem spec_l13AnyBook.bits4 : waitsOk spec_l13AnyBook.T4.2 spec_l13AnyBook.B4 = true := by kernel_rfl
def spec_l13AnyBook.T6 : Bool × List (List Nat × List Nat) := (true, [([], []), ([0], [0]), ([], []), ([2], [2]), ([], []), ([], []), ([4, 5, 3], [4, 5]), ([3, 6], [3, 6]), ([7], [7]), ([1, 8, 6], [1, 8]), ([0, 1, 2, 3, 4, 5, 6, 7, 8, 9], []), ([10, 9, 9, 0, 1, 2, 3, 4, 5, 6, 7, 8, 9], [9, 10])])
def spec_l13AnyBook.B6 : List Nat := [0, 1, 0, 4, 0, 0, 60, 124, 252, 511, 1023, 2047]
theorem spec_l13AnyBook.tab6 : rtab .any (opsOf Tryd.f31 6) = spec_l13AnyBook.T6 := by kernel_rfl
theorem spec_l13AnyBook.bits6 : waitsOk spec_l13AnyBook.T6.2 spec_l13AnyBook.B6 = true := by kernel_rfl
def spec_l13AnyBook.T9 : Bool × List (List Nat × List Nat) := (true, [([], []), ([0], [0]), ([], []), ([], []), ([2, 3], [2, 3]), ([1, 0, 1, 2, 3, 4], [1]), ([5, 0, 1, 2, 3, 4], [5]), ([6, 4, 4, 0, 1, 2, 3, 4], [4, 6])])
def spec_l13AnyBook.B9 : List Nat := [0, 1, 0, 0, 12, 31, 63, 127]
theorem spec_l13AnyBook.tab9 : rtab .any (opsOf Tryd.f31 9) = spec_l13AnyBook.T9 := by kernel_rfl
theorem spec_l13AnyBook.bits9 : waitsOk spec_l13AnyBook.T9.2 spec_l13AnyBook.B9 = true := by kernel_rfl
theorem spec_l13AnyBook.calls (k : Nat) (g : Nat) (s0_0 : List Int) (s0_1 : Int) (r1 : List (S40)) (r2 : List (S43)) (r3 : Int) (w0 w : World) (hI : IsS75 w0 w g s0_0 s0_1) (hB : Below w0.heap.size w0 w) (h : spec_l13AnyBook.f k s0_0 s0_1 = some (r1, r2, r3)) :
  Calls Tryd.prog 31 #[.pointer (some ⟨g, 0, none⟩)] w fun e w' => ∃ v0_ v1_ : Value, e = .returned (.agg #[v0_, v1_]) ∧ Kd.R k40 40 w' w.heap.size (fun _ => True) v0_ r1 ∧ Kd.R k43 43 w' w.heap.size (fun _ => True) v1_ r2 ∧ IsS75 w0 w' g s0_0 r3 ∧ Below w0.heap.size w0 w' ∧ KeepBut w w' g none := by
 have hu25 := Tryd.underlying25; have hu43 := Tryd.underlying43; have HI0 := am hI; have HK := am (KeepBut.refl w g none); have HL := am hB.size; clear hI; have HW0 := am hB.size; have HB := am hB; clear hB
 have H : ((spec_l13Book.f k s0_0 s0_1).bind fun bt419 => ((spec_l1Rd_pick.f k s0_0 bt419.2.2 16).bind fun bt427 => (if bt427.1 = 0 then ((spec_l13AnyAffix.f k s0_0 bt427.2).bind fun bt429 => (if bt419.1.length < 1954687338268 then (some ((bt419.1 ++ [(⟨bt429.1, bt429.2.1, bt429.2.2.1, bt429.2.2.2.1, bt429.2.2.2.2.1⟩ : S40)]), bt419.2.1, bt429.2.2.2.2.2)) else (none))) else (if bt427.1 = 1 then ((spec_l13AnyWord.f k s0_0 bt427.2).bind fun bt438 => ((spec_l1Rd_of.f k s0_0 bt438.2 (([(⟨#[]⟩ : ByteArray), (⟨#[83, 71]⟩ : ByteArray), (⟨#[115]⟩ : ByteArray), (⟨#[65, 66, 67, 68, 69]⟩ : ByteArray)] : List ByteArray))).bind fun bt443 => (if bt419.2.1.length < 4398046511104 then (some (bt419.1, (bt419.2.1 ++ [(⟨bt438.1, bt443.1⟩ : S43)]), bt443.2)) else (none)))) else (if bt427.1 = 2 then (if (bt419.2.1.length : Int) > 0 then ((spec_l1Rd_of.f k s0_0 bt427.2 (([(⟨#[]⟩ : ByteArray), (⟨#[122, 122]⟩ : ByteArray), (⟨#[65]⟩ : ByteArray)] : List ByteArray))).bind fun bt451 => (if 0 < (bt419.2.1.length : Int) then (some (bt419.1, (bt419.2.1.set (0 : Int).toNat (⟨bt451.1, (rd_T43 bt419.2.1 0).f1⟩ : S43)), bt451.2)) else (none))) else (some (bt419.1, bt419.2.1, bt427.2))) else (some (bt419.1, bt419.2.1, bt427.2))))))) = some (r1, r2, r3) := h
 clear h; replace H := bs H; obtain ⟨⟨t419, t422, t425⟩, A20, H⟩ := H; replace H : ((spec_l1Rd_pick.f k s0_0 t425 16).bind fun bt427 => (if bt427.1 = 0 then ((spec_l13AnyAffix.f k s0_0 bt427.2).bind fun bt429 => (if t419.length < 1954687338268 then (some ((t419 ++ [(⟨bt429.1, bt429.2.1, bt429.2.2.1, bt429.2.2.2.1, bt429.2.2.2.2.1⟩ : S40)]), t422, bt429.2.2.2.2.2)) else (none))) else (if bt427.1 = 1 then ((spec_l13AnyWord.f k s0_0 bt427.2).bind fun bt438 => ((spec_l1Rd_of.f k s0_0 bt438.2 (([(⟨#[]⟩ : ByteArray), (⟨#[83, 71]⟩ : ByteArray), (⟨#[115]⟩ : ByteArray), (⟨#[65, 66, 67, 68, 69]⟩ : ByteArray)] : List ByteArray))).bind fun bt443 => (if t422.length < 4398046511104 then (some (t419, (t422 ++ [(⟨bt438.1, bt443.1⟩ : S43)]), bt443.2)) else (none)))) else (if bt427.1 = 2 then (if (t422.length : Int) > 0 then ((spec_l1Rd_of.f k s0_0 bt427.2 (([(⟨#[]⟩ : ByteArray), (⟨#[122, 122]⟩ : ByteArray), (⟨#[65]⟩ : ByteArray)] : List ByteArray))).bind fun bt451 => (if 0 < (t422.length : Int) then (some (t419, (t422.set (0 : Int).toNat (⟨bt451.1, (rd_T43 t422 0).f1⟩ : S43)), bt451.2)) else (none))) else (some (t419, t422, bt427.2))) else (some (t419, t422, bt427.2)))))) = some (r1, r2, r3) := H; have A2 := Aside0.mk A20; clear A20; replace H := bs H; obtain ⟨⟨t427, t428⟩, A30, H⟩ := H; replace H : (if t427 = 0 then ((spec_l13AnyAffix.f k s0_0 t428).bind fun bt429 => (if t419.length < 1954687338268 then (some ((t419 ++ [(⟨bt429.1, bt429.2.1, bt429.2.2.1, bt429.2.2.2.1, bt429.2.2.2.2.1⟩ : S40)]), t422, bt429.2.2.2.2.2)) else (none))) else (if t427 = 1 then ((spec_l13AnyWord.f k s0_0 t428).bind fun bt438 => ((spec_l1Rd_of.f k s0_0 bt438.2 (([(⟨#[]⟩ : ByteArray), (⟨#[83, 71]⟩ : ByteArray), (⟨#[115]⟩ : ByteArray), (⟨#[65, 66, 67, 68, 69]⟩ : ByteArray)] : List ByteArray))).bind fun bt443 => (if t422.length < 4398046511104 then (some (t419, (t422 ++ [(⟨bt438.1, bt443.1⟩ : S43)]), bt443.2)) else (none)))) else (if t427 = 2 then (if (t422.length : Int) > 0 then ((spec_l1Rd_of.f k s0_0 t428 (([(⟨#[]⟩ : ByteArray), (⟨#[122, 122]⟩ : ByteArray), (⟨#[65]⟩ : ByteArray)] : List ByteArray))).bind fun bt451 => (if 0 < (t422.length : Int) then (some (t419, (t422.set (0 : Int).toNat (⟨bt451.1, (rd_T43 t422 0).f1⟩ : S43)), bt451.2)) else (none))) else (some (t419, t422, t428))) else (some (t419, t422, t428))))) = some (r1, r2, r3) := H; have A3 := Aside0.mk A30; clear A30
 by_cases c4 : t427 = 0
 ·rw [if_pos c4] at H
  have c4b0 : (t427 == 0) = true := beq_iff_eq.mpr c4
  have c4b1 : (t427 != 0) = false := bne_eq_false_iff_eq.mpr c4
  clear c4; replace H := bs H; obtain ⟨⟨t429, t430, t431, t432, t433, t434⟩, A50, H⟩ := H; replace H : (if t419.length < 1954687338268 then (some ((t419 ++ [(⟨t429, t430, t431, t432, t433⟩ : S40)]), t422, t434)) else (none)) = some (r1, r2, r3) := H; have A5 := Aside0.mk A50; clear A50
  replace H := ip H; obtain ⟨c6, H⟩ := H; have LMc6 := Aside0.mk c6; clear c6; obtain ⟨y435, hy435⟩ : ∃ y_ : List (S40), y_ = (t419 ++ [(⟨t429, t430, t431, t432, t433⟩ : S40)]) := ⟨_, rfl⟩
  replace H : (some (y435, t422, t434)) = some (r1, r2, r3) := by first | (rw [hy435]; with_reducible exact H) | (have H2_ := bm H; rw [hy435]; with_reducible exact H2_) | (with_reducible exact bm H) | with_reducible exact H | (rw [hy435]; exact H) | exact H
  have Ny435 := am hy435; clear hy435
  simp only [Option.some.injEq, Prod.mk.injEq] at H
  obtain ⟨rfl, rfl, rfl⟩ := H; go_enter Tryd.func31, Tryd.ntmps31
  try go_wp2_with (first | ((with_reducible refine gate_dst (N := 2) rfl ?_); refine bx 2 (cs := #[.slice none 0 0, .slice none 0 0]) (t := 25) ?_; intro gb418 hg w7 hbox hb; replace HB := am (below_step b2_ hb); have BK418 := am (hbox); have GW418 := am ((b4_ : w.heap.size ≤ gb418)); have GE418 := am ((Nat.le_trans HW0.out (b4_ : w.heap.size ≤ gb418) : w0.heap.size ≤ gb418)); replace HK := am (KeepBut.trans b0_ (KeepBut.of_below hb g none) (.inl rfl)); have NB0_418 := am ((b15_ : g ≠ gb418)); have NB418_0 := am ((b16_ : gb418 ≠ g)); replace HI0 := am (IsS75.below b5_ hb); clear hb hbox hg) | ((with_reducible refine gate_callee (f := 38) rfl ?_); refine goesL_ (some 5) rfl rfl Tryd.func38 (by kernel_rfl) rfl #[.pointer (some ⟨g, 0, none⟩)] rfl mq ?_; (with_reducible refine (spec_l13Book.calls k g s0_0 s0_1 t419 t422 t425 w0 _ ?side1 ?side2 A2.out).mono ?_); (case side1 => repeat (first | (with_reducible first | exact HI0.out | apply IsS75.alloc | apply IsS75.drewN | apply IsS75.drew | apply IsS75.set_1 | refine IsS75.far ?_ NB0_418.out _) | exact HI0.out)); (case side2 => repeat (first | (with_reducible first | exact HB.out | apply below_alloc | apply pw_below_drewN | apply below_drew1 | refine below_set ?_ (IsS75.ge HI0.out) | refine below_set ?_ GE418.out) | exact HB.out)); rintro e w8 ⟨v420, v423, rfl, ho0, ho1, hi, hb, hk⟩; refine ⟨_, rfl, ?_⟩; replace BK418 := am (KeepBut.blk hk (g' := gb418) (o := .cells #[.slice none 0 0, .slice none 0 0] 25 (0, 0)) (bq BK418.out) NB418_0.out (by simp)); have HO421 := am (Kd.R_lower ho0 (keep_size (w := w) (g := g) (row := none) b7_)); have HO424 := am (Kd.R_lower ho1 (keep_size (w := w) (g := g) (row := none) b7_)); replace HK := am (KeepBut.trans b7_ hk (.inl rfl)); replace HB := am (hb); replace HI0 := am (hi); (try clear hb); (try clear hb2); (try clear hk); (try clear hi); (try clear ho0); (try clear ho1)) | ((with_reducible refine gate_dst (N := 3) rfl ?_); refine bx 3 (cs := #[.slice none 0 0, .slice none 0 0]) (t := 25) ?_; intro gb426 hg w9 hbox hb; replace HO421 := am (Kd.R_below (rq HO421.out) hb); replace HO424 := am (Kd.R_below (rq HO424.out) hb); replace HB := am (below_step b52_ hb); have BK426 := am (hbox); have GW426 := am ((b21_ : w.heap.size ≤ gb426)); have GE426 := am ((Nat.le_trans HW0.out (b21_ : w.heap.size ≤ gb426) : w0.heap.size ≤ gb426)); replace HK := am (KeepBut.trans b7_ (KeepBut.of_below hb g none) (.inl rfl)); have NB418_426 := am ((b66_ : gb418 ≠ gb426)); have NB426_418 := am ((b67_ : gb426 ≠ gb418)); replace BK418 := am (blk_below (g := gb418) (o := .cells #[.slice none 0 0, .slice none 0 0] 25 (0, 0)) (bq BK418.out) hb); have NB0_426 := am ((b40_ : g ≠ gb426)); have NB426_0 := am ((b41_ : gb426 ≠ g)); replace HI0 := am (IsS75.below b55_ hb); clear hb hbox hg; obtain ⟨Ao10, co10, eo10⟩ := Kd.R_slice HO421.out; subst eo10; have hnb11 := NB426_418.out; have hnc11 := NB418_426.out; have hnb12 := NB426_0.out; have hnc12 := NB0_426.out; have hcz13_0 := bc BK426.out 0; have hcz13_1 := bc BK426.out 1; have hfz13_0 := bf BK426.out 0; have hfz13_1 := bf BK426.out 1; obtain ⟨Ao14, co14, eo14⟩ := Kd.R_slice HO424.out; subst eo14) | ((with_reducible refine gate_callee (f := 49) rfl ?_); refine goesL_ (some 7) rfl rfl Tryd.func49 (by kernel_rfl) rfl #[.pointer (some ⟨g, 0, none⟩), .int .i64 16] rfl mq ?_; (with_reducible refine (spec_l1Rd_pick.calls k g s0_0 t425 16 t427 t428 w0 _ ?side1 ?side2 A3.out).mono ?_); (case side1 => repeat (first | (with_reducible first | exact HI0.out | apply IsS75.alloc | apply IsS75.drewN | apply IsS75.drew | apply IsS75.set_1 | refine IsS75.far ?_ NB0_418.out _ | refine IsS75.far ?_ NB0_426.out _) | exact HI0.out)); (case side2 => repeat (first | (with_reducible first | exact HB.out | apply below_alloc | apply pw_below_drewN | apply below_drew1 | refine below_set ?_ (IsS75.ge HI0.out) | refine below_set ?_ GE418.out | refine below_set ?_ GE426.out) | exact HB.out)); rintro e w15 ⟨rfl, hi, hb, hk⟩; refine ⟨_, rfl, ?_⟩; replace BK418 := am (KeepBut.blk hk (g' := gb418) (o := .cells #[.slice none 0 0, .slice none 0 0] 25 (0, 0)) b26_ NB418_0.out (by simp)); replace HO421 := am (Kd.R_mono (Kd.R_keep (IsS75.apart (show IsS75 w0 _ g s0_0 t425 from by repeat (first | (with_reducible first | exact HI0.out | apply IsS75.alloc | apply IsS75.drewN | apply IsS75.drew | apply IsS75.set_1 | refine IsS75.far ?_ NB0_418.out _ | refine IsS75.far ?_ NB0_426.out _) | exact HI0.out)) (rq ((Kd.R_mono (Kd.R_far (p := ⟨gb426, 1, none⟩) (Kd.R_far (p := ⟨gb426, 0, none⟩) (Kd.R_types HO421.out BK426.out (by decide)) (fun _ hk => hk.2) (.slice Ao10 t419.length co10)) (fun _ hk => hk.2) (.slice Ao14 t422.length co14)) (fun _ h_ => h_.1)))) (by decide)) hk (fun _ h => h.2)) (fun _ h => h.1)); replace HO424 := am (Kd.R_mono (Kd.R_keep (IsS75.apart (show IsS75 w0 _ g s0_0 t425 from by repeat (first | (with_reducible first | exact HI0.out | apply IsS75.alloc | apply IsS75.drewN | apply IsS75.drew | apply IsS75.set_1 | refine IsS75.far ?_ NB0_418.out _ | refine IsS75.far ?_ NB0_426.out _) | exact HI0.out)) (rq ((Kd.R_mono (Kd.R_far (p := ⟨gb426, 1, none⟩) (Kd.R_far (p := ⟨gb426, 0, none⟩) (Kd.R_types HO424.out BK426.out (by decide)) (fun _ hk => hk.2) (.slice Ao10 t419.length co10)) (fun _ hk => hk.2) (.slice Ao14 t422.length co14)) (fun _ h_ => h_.1)))) (by decide)) hk (fun _ h => h.2)) (fun _ h => h.1)); replace BK426 := am (KeepBut.blk hk (g' := gb426) (o := .cells #[.slice Ao10 t419.length co10, .slice Ao14 t422.length co14] 25 (0, 0)) (by (with_reducible repeat (first | refine blk_drewN ?_ _ | refine blk_drew ?_ | refine blk_alloc ?_ _)); refine blk_put (cs := #[.slice Ao10 t419.length co10, .slice none 0 0]) ?_ 1 _ rfl; (with_reducible repeat (first | refine blk_drewN ?_ _ | refine blk_drew ?_ | refine blk_alloc ?_ _)); refine blk_put (cs := #[.slice none 0 0, .slice none 0 0]) ?_ 0 _ rfl; (with_reducible repeat (first | refine blk_drewN ?_ _ | refine blk_drew ?_ | refine blk_alloc ?_ _)); exact BK426.out) NB426_0.out (by simp)); replace HK := am (KeepBut.trans b6_ hk (.inl rfl)); replace HB := am (hb); replace HI0 := am (hi); (try clear hb); (try clear hb2); (try clear hk); (try clear hi)))
  replace HO421 := am (Kd.R_drew HO421.out); replace HO424 := am (Kd.R_drew HO424.out); replace BK418 := am (blk_drew BK418.out); replace BK426 := am (blk_drew BK426.out); replace HI0 := am (IsS75.drew HI0.out); replace HK := am (keep_drew HK.out); replace HB := am (below_drew1 HB.out)
  refine start_ (n := 8) (S := fun w' => w'.cell? ⟨gb426, 0, none⟩ = some (.slice Ao10 t419.length co10) ∧ w'.cell? ⟨gb426, 1, none⟩ = some (.slice Ao14 t422.length co14)) (ds := [7]) #[false, false, false, false, false, false, false, false] (by kernel_rfl) rfl rfl ⟨(blk_cell BK426.out 0).trans rfl, (blk_cell BK426.out 1).trans rfl⟩ (fun hHeld => ?_); refine with_tabW spec_l13AnyBook.tab4 spec_l13AnyBook.bits4 (fun HT_ HW_ => ?_)
  generalize w15.drew = w16 at HO421 HO424 BK418 BK426 HI0 HK HB hHeld ⊢
  refine pu 0 10 ?_
  refine pu 2 12 ?_
  refine tk2 1 11 hHeld ?_
  refine on1 3 13 (fun K hK => ?_)
  refine goes_ Tryd.func50 (by kernel_rfl) rfl #[.pointer (some ⟨g, 0, none⟩)] (by rfl) rfl rfl mq ?_
  with_reducible refine (spec_l13AnyAffix.calls k g s0_0 t428 t429 t430 t431 t432 t433 t434 w0 _ ?side1 ?side2 A5.out).mono ?_
  (case side1 => repeat (first | (with_reducible first | exact HI0.out | apply IsS75.alloc | apply IsS75.drewN | apply IsS75.drew | apply IsS75.set_1 | refine IsS75.far ?_ NB0_418.out _ | refine IsS75.far ?_ NB0_426.out _) | exact HI0.out)); (case side2 => repeat (first | (with_reducible first | exact HB.out | apply below_alloc | apply pw_below_drewN | apply below_drew1 | refine below_set ?_ (IsS75.ge HI0.out) | refine below_set ?_ GE418.out | refine below_set ?_ GE426.out) | exact HB.out))
  rintro e w17 ⟨rfl, hi, hb, hk⟩
  refine ⟨_, rfl, ?_⟩
  replace BK418 := am (KeepBut.blk hk (g' := gb418) (o := .cells #[.slice none 0 0, .slice none 0 0] 25 (0, 0)) (bq BK418.out) NB418_0.out (by simp))
  replace HO421 := am (Kd.R_mono (Kd.R_keep (IsS75.apart (show IsS75 w0 _ g s0_0 t428 from by repeat (first | (with_reducible first | exact HI0.out | apply IsS75.alloc | apply IsS75.drewN | apply IsS75.drew | apply IsS75.set_1 | refine IsS75.far ?_ NB0_418.out _ | refine IsS75.far ?_ NB0_426.out _) | exact HI0.out)) (rq HO421.out) (by decide)) hk (fun _ h => h.2)) (fun _ h => h.1))
  replace HO424 := am (Kd.R_mono (Kd.R_keep (IsS75.apart (show IsS75 w0 _ g s0_0 t428 from by repeat (first | (with_reducible first | exact HI0.out | apply IsS75.alloc | apply IsS75.drewN | apply IsS75.drew | apply IsS75.set_1 | refine IsS75.far ?_ NB0_418.out _ | refine IsS75.far ?_ NB0_426.out _) | exact HI0.out)) (rq HO424.out) (by decide)) hk (fun _ h => h.2)) (fun _ h => h.1))
  replace BK426 := am (KeepBut.blk hk (g' := gb426) (o := .cells #[.slice Ao10 t419.length co10, .slice Ao14 t422.length co14] 25 (0, 0)) (bq BK426.out) NB426_0.out (by simp))
  replace HK := am (KeepBut.trans b6_ hk (.inl rfl))
  replace HB := am (hb); replace HI0 := am (hi)
  (try clear hb)
  (try clear hb2)
  (try clear hk)
  (try clear hi)
  refine hK.out _ _ ⟨(blk_cell BK426.out 0).trans rfl, (blk_cell BK426.out 1).trans rfl⟩ (fun hHeld => ?_)
  clear hK K
  refine norm_ (a' := ?_) ?_ ?_
  rotate_left
  ·show Act.put _ (some 13) _ = _
   simp only [Act.put, List.setIfInBounds_toArray, List.set_cons_zero, List.set_cons_succ, i64_w, i32_w]
   rfl
  refine on1 4 14 (fun K hK => ?_)
  refine value_ (w1 := ?_) (v := ?_) (by rfl) rfl ?_ ?_
  rotate_left 2
  ·go_simp
   constructor
   ·rfl
   ·rfl
  refine hK.out _ _ ⟨(blk_cell (blk_alloc BK426.out _) 0).trans rfl, (blk_cell (blk_alloc BK426.out _) 1).trans rfl⟩ (fun hHeld => ?_)
  clear hK K
  refine norm_ (a' := ?_) ?_ ?_
  rotate_left
  ·show Act.put _ (some 14) _ = _
   simp only [Act.put, List.setIfInBounds_toArray, List.set_cons_zero, List.set_cons_succ, i64_w, i32_w]
   rfl
  refine on1 5 15 (fun K hK => ?_)
  refine Kd.R_append_step k40 w.heap.size (by rfl) (.tmp 11) (.tmp 14) 22 40 (.agg #[(.string ⟨#[]⟩), (.bool false), (.string ⟨#[]⟩), (.string ⟨#[]⟩), (.string ⟨#[]⟩)]) 72 rfl Tryd.underlying22 info40 rfl (by decide) (by omega) (.slice Ao10 t419.length co10) t419 (⟨t429, t430, t431, t432, t433⟩ : S40) [.string t429, .bool t430, .string t431, .string t432, .string t433] (fun _ => True) (fun _ => False) rfl rfl ?aP (fun _ hk => hk.elim) ?aF ?aO (Below.refl _ _) ?aS ?aL ?_
  (case aP => exact k40_mkM _ _ _ (⟨t429, t430, t431, t432, t433⟩ : S40)); (case aF => exact (fun _ _ => trivial)); (case aO => exact (rq HO421.out)); (case aS => exact (keep_size (w := w) (g := g) (row := none) b6_)); (case aL => have := LMc6.out; omega); intro v436 w18 ho hb hg hat; rw [← Ny435.out] at ho
  replace BK418 := am (blk_grown (g := gb418) (o := .cells #[.slice none 0 0, .slice none 0 0] 25 (0, 0)) (bq BK418.out) hg (Kd.R_ne HO421.out BK418.out (by decide)))
  replace HO424 := am (Kd.R_over' (rq HO424.out) (Kd.R_typed (rq HO421.out)) (by decide) hg)
  replace BK426 := am (blk_grown (g := gb426) (o := .cells #[.slice Ao10 t419.length co10, .slice Ao14 t422.length co14] 25 (0, 0)) (bq BK426.out) hg (Kd.R_ne HO421.out BK426.out (by decide)))
  replace HB := am (below_weaken b17_ HL.out hb)
  replace HI0 := am (IsS75.grown b18_ hg (IsS75.own_ne HI0.out HO421.out (by decide)))
  replace HK := am (KeepBut.trans b6_ (KeepBut.of_grown hg g) (Kd.R_base2 HO421.out))
  have HO437 := am (ho); clear HO421; clear ho hb hg hat; obtain ⟨Ao19, co19, eo19⟩ := Kd.R_slice HO437.out
  (first | subst eo19 | (injection eo19 with f1_ f2_ f3_; have f4_ := f1_.symm; have f5_ := f3_.symm; clear f1_ f2_ f3_; subst f4_; subst f5_))
  refine hK.out _ _ ⟨(blk_cell BK426.out 0).trans rfl, (blk_cell BK426.out 1).trans rfl⟩ (fun hHeld => ?_)
  clear hK K
  refine norm_ (a' := ?_) ?_ ?_
  rotate_left
  ·show Act.put _ (some 15) _ = _
   simp only [Act.put, List.setIfInBounds_toArray, List.set_cons_zero, List.set_cons_succ, i64_w, i32_w]
   rfl
  refine pu 6 16 ?_
  refine last_ (i := 7) (N := none) #[true, true, true, true, true, true, true, true] rfl rfl (one_of HT_.out (by kernel_rfl)) (by decide) (fun K hK => ?_)
  have hs20 : w18.cell? ⟨gb426, 0, none⟩ = some (.slice Ao10 t419.length co10) := (blk_cell BK426.out 0).trans rfl
  have hfs20 := bf BK426.out 0; have hns20_0 := NB418_426.out; have hms20_0 := NB426_418.out
  refine skip_ (w1 := ?_) (by rfl) rfl ?_ ?_
  rotate_left
  ·go_simp
   rfl
  refine hK.out _ _ ?_
  clear hK K
  refine done_ (done_of HT_.out (by kernel_rfl)) ?_
  have hcz21_0 := bc BK426.out 0; have hcz21_1 := bc BK426.out 1; have hfz21_0 := bf BK426.out 0; have hfz21_1 := bf BK426.out 1; have hnb22 := NB418_0.out; have hnc22 := NB0_418.out; have hcz23_0 := bc BK418.out 0; have hcz23_1 := bc BK418.out 1; have hfz23_0 := bf BK418.out 0; have hfz23_1 := bf BK418.out 1
  try go_wp2
  refine bodyPost_ret (results_cell_row rfl _ _ gb418 25 #[.slice Ao19 y435.length co19, .slice Ao14 t422.length co14] (0, 0) _ rfl (by (with_reducible repeat (first | refine blk_drewN ?_ _ | refine blk_drew ?_ | refine blk_alloc ?_ _)); refine blk_put (cs := #[.slice Ao19 y435.length co19, .slice none 0 0]) ?_ 1 _ rfl; (with_reducible repeat (first | refine blk_drewN ?_ _ | refine blk_drew ?_ | refine blk_alloc ?_ _)); refine blk_put (cs := #[.slice none 0 0, .slice none 0 0]) ?_ 0 _ rfl; (with_reducible repeat (first | refine blk_drewN ?_ _ | refine blk_drew ?_ | refine blk_alloc ?_ _)); refine blk_far ?_ NB418_426.out _; (with_reducible repeat (first | refine blk_drewN ?_ _ | refine blk_drew ?_ | refine blk_alloc ?_ _)); exact BK418.out) Tryd.underlying25 rfl (by kernel_rfl)) rfl ?_
  exact ⟨_, _, eq_, by (with_reducible repeat (first | apply Kd.R_alloc | apply Kd.R_drewN | apply Kd.R_drew)); exact Kd.R_mono (Kd.R_far (p := ⟨gb418, 1, none⟩) (Kd.R_far (p := ⟨gb418, 0, none⟩) (Kd.R_far (p := ⟨gb426, 0, none⟩) (Kd.R_types (Kd.R_types HO437.out BK426.out (by decide)) BK418.out (by decide)) (fun _ hk => hk.1.2) (.slice Ao19 y435.length co19)) (fun _ hk => hk.2) (.slice Ao19 y435.length co19)) (fun _ hk => hk.2) (.slice Ao14 t422.length co14)) (fun _ hk => trivial), by (with_reducible repeat (first | apply Kd.R_alloc | apply Kd.R_drewN | apply Kd.R_drew)); exact Kd.R_mono (Kd.R_far (p := ⟨gb418, 1, none⟩) (Kd.R_far (p := ⟨gb418, 0, none⟩) (Kd.R_far (p := ⟨gb426, 0, none⟩) (Kd.R_types (Kd.R_types HO424.out BK426.out (by decide)) BK418.out (by decide)) (fun _ hk => hk.1.2) (.slice Ao19 y435.length co19)) (fun _ hk => hk.2) (.slice Ao19 y435.length co19)) (fun _ hk => hk.2) (.slice Ao14 t422.length co14)) (fun _ hk => trivial), b18_, b17_, b6_⟩
 rw [if_neg c4] at H
 have c4b0 : (t427 == 0) = false := beq_eq_false_iff_ne.mpr c4
 have c4b1 : (t427 != 0) = true := bne_iff_ne.mpr c4
 by_cases c24 : t427 = 1
 ·rw [if_pos c24] at H
  have c24b0 : (t427 == 1) = true := beq_iff_eq.mpr c24
  have c24b1 : (t427 != 1) = false := bne_eq_false_iff_eq.mpr c24
  clear c24; replace H := bs H; obtain ⟨⟨t438, t439⟩, A250, H⟩ := H; replace H : ((spec_l1Rd_of.f k s0_0 t439 (([(⟨#[]⟩ : ByteArray), (⟨#[83, 71]⟩ : ByteArray), (⟨#[115]⟩ : ByteArray), (⟨#[65, 66, 67, 68, 69]⟩ : ByteArray)] : List ByteArray))).bind fun bt443 => (if t422.length < 4398046511104 then (some (t419, (t422 ++ [(⟨t438, bt443.1⟩ : S43)]), bt443.2)) else (none))) = some (r1, r2, r3) := H; have A25 := Aside0.mk A250; clear A250; obtain ⟨y440, hy440⟩ : ∃ y_ : List ByteArray, y_ = (([(⟨#[]⟩ : ByteArray), (⟨#[83, 71]⟩ : ByteArray), (⟨#[115]⟩ : ByteArray), (⟨#[65, 66, 67, 68, 69]⟩ : ByteArray)] : List ByteArray)) := ⟨_, rfl⟩
  replace H : ((spec_l1Rd_of.f k s0_0 t439 y440).bind fun bt443 => (if t422.length < 4398046511104 then (some (t419, (t422 ++ [(⟨t438, bt443.1⟩ : S43)]), bt443.2)) else (none))) = some (r1, r2, r3) := by first | (rw [hy440]; with_reducible exact H) | (have H2_ := bm H; rw [hy440]; with_reducible exact H2_) | (with_reducible exact bm H) | with_reducible exact H | (rw [hy440]; exact H) | exact H
  have Ny440 := am hy440; clear hy440; replace H := bs H; obtain ⟨⟨t443, t444⟩, A260, H⟩ := H; replace H : (if t422.length < 4398046511104 then (some (t419, (t422 ++ [(⟨t438, t443⟩ : S43)]), t444)) else (none)) = some (r1, r2, r3) := H; have A26 := Aside0.mk A260; clear A260
  replace H := ip H; obtain ⟨c27, H⟩ := H; have LMc27 := Aside0.mk c27; clear c27; obtain ⟨y445, hy445⟩ : ∃ y_ : List (S43), y_ = (t422 ++ [(⟨t438, t443⟩ : S43)]) := ⟨_, rfl⟩
  replace H : (some (t419, y445, t444)) = some (r1, r2, r3) := by first | (rw [hy445]; with_reducible exact H) | (have H2_ := bm H; rw [hy445]; with_reducible exact H2_) | (with_reducible exact bm H) | with_reducible exact H | (rw [hy445]; exact H) | exact H
  have Ny445 := am hy445; clear hy445
  simp only [Option.some.injEq, Prod.mk.injEq] at H
  obtain ⟨rfl, rfl, rfl⟩ := H; go_enter Tryd.func31, Tryd.ntmps31
  try go_wp2_with (first | ((with_reducible refine gate_dst (N := 2) rfl ?_); refine bx 2 (cs := #[.slice none 0 0, .slice none 0 0]) (t := 25) ?_; intro gb418 hg w28 hbox hb; replace HB := am (below_step b2_ hb); have BK418 := am (hbox); have GW418 := am ((b4_ : w.heap.size ≤ gb418)); have GE418 := am ((Nat.le_trans HW0.out (b4_ : w.heap.size ≤ gb418) : w0.heap.size ≤ gb418)); replace HK := am (KeepBut.trans b0_ (KeepBut.of_below hb g none) (.inl rfl)); have NB0_418 := am ((b15_ : g ≠ gb418)); have NB418_0 := am ((b16_ : gb418 ≠ g)); replace HI0 := am (IsS75.below b5_ hb); clear hb hbox hg) | ((with_reducible refine gate_callee (f := 38) rfl ?_); refine goesL_ (some 5) rfl rfl Tryd.func38 (by kernel_rfl) rfl #[.pointer (some ⟨g, 0, none⟩)] rfl mq ?_; (with_reducible refine (spec_l13Book.calls k g s0_0 s0_1 t419 t422 t425 w0 _ ?side1 ?side2 A2.out).mono ?_); (case side1 => repeat (first | (with_reducible first | exact HI0.out | apply IsS75.alloc | apply IsS75.drewN | apply IsS75.drew | apply IsS75.set_1 | refine IsS75.far ?_ NB0_418.out _) | exact HI0.out)); (case side2 => repeat (first | (with_reducible first | exact HB.out | apply below_alloc | apply pw_below_drewN | apply below_drew1 | refine below_set ?_ (IsS75.ge HI0.out) | refine below_set ?_ GE418.out) | exact HB.out)); rintro e w29 ⟨v420, v423, rfl, ho0, ho1, hi, hb, hk⟩; refine ⟨_, rfl, ?_⟩; replace BK418 := am (KeepBut.blk hk (g' := gb418) (o := .cells #[.slice none 0 0, .slice none 0 0] 25 (0, 0)) (bq BK418.out) NB418_0.out (by simp)); have HO421 := am (Kd.R_lower ho0 (keep_size (w := w) (g := g) (row := none) b7_)); have HO424 := am (Kd.R_lower ho1 (keep_size (w := w) (g := g) (row := none) b7_)); replace HK := am (KeepBut.trans b7_ hk (.inl rfl)); replace HB := am (hb); replace HI0 := am (hi); (try clear hb); (try clear hb2); (try clear hk); (try clear hi); (try clear ho0); (try clear ho1)) | ((with_reducible refine gate_dst (N := 3) rfl ?_); refine bx 3 (cs := #[.slice none 0 0, .slice none 0 0]) (t := 25) ?_; intro gb426 hg w30 hbox hb; replace HO421 := am (Kd.R_below (rq HO421.out) hb); replace HO424 := am (Kd.R_below (rq HO424.out) hb); replace HB := am (below_step b52_ hb); have BK426 := am (hbox); have GW426 := am ((b21_ : w.heap.size ≤ gb426)); have GE426 := am ((Nat.le_trans HW0.out (b21_ : w.heap.size ≤ gb426) : w0.heap.size ≤ gb426)); replace HK := am (KeepBut.trans b7_ (KeepBut.of_below hb g none) (.inl rfl)); have NB418_426 := am ((b66_ : gb418 ≠ gb426)); have NB426_418 := am ((b67_ : gb426 ≠ gb418)); replace BK418 := am (blk_below (g := gb418) (o := .cells #[.slice none 0 0, .slice none 0 0] 25 (0, 0)) (bq BK418.out) hb); have NB0_426 := am ((b40_ : g ≠ gb426)); have NB426_0 := am ((b41_ : gb426 ≠ g)); replace HI0 := am (IsS75.below b55_ hb); clear hb hbox hg; obtain ⟨Ao31, co31, eo31⟩ := Kd.R_slice HO421.out; subst eo31; have hnb32 := NB426_418.out; have hnc32 := NB418_426.out; have hnb33 := NB426_0.out; have hnc33 := NB0_426.out; have hcz34_0 := bc BK426.out 0; have hcz34_1 := bc BK426.out 1; have hfz34_0 := bf BK426.out 0; have hfz34_1 := bf BK426.out 1; obtain ⟨Ao35, co35, eo35⟩ := Kd.R_slice HO424.out; subst eo35) | ((with_reducible refine gate_callee (f := 49) rfl ?_); refine goesL_ (some 7) rfl rfl Tryd.func49 (by kernel_rfl) rfl #[.pointer (some ⟨g, 0, none⟩), .int .i64 16] rfl mq ?_; (with_reducible refine (spec_l1Rd_pick.calls k g s0_0 t425 16 t427 t428 w0 _ ?side1 ?side2 A3.out).mono ?_); (case side1 => repeat (first | (with_reducible first | exact HI0.out | apply IsS75.alloc | apply IsS75.drewN | apply IsS75.drew | apply IsS75.set_1 | refine IsS75.far ?_ NB0_418.out _ | refine IsS75.far ?_ NB0_426.out _) | exact HI0.out)); (case side2 => repeat (first | (with_reducible first | exact HB.out | apply below_alloc | apply pw_below_drewN | apply below_drew1 | refine below_set ?_ (IsS75.ge HI0.out) | refine below_set ?_ GE418.out | refine below_set ?_ GE426.out) | exact HB.out)); rintro e w36 ⟨rfl, hi, hb, hk⟩; refine ⟨_, rfl, ?_⟩; replace BK418 := am (KeepBut.blk hk (g' := gb418) (o := .cells #[.slice none 0 0, .slice none 0 0] 25 (0, 0)) b26_ NB418_0.out (by simp)); replace HO421 := am (Kd.R_mono (Kd.R_keep (IsS75.apart (show IsS75 w0 _ g s0_0 t425 from by repeat (first | (with_reducible first | exact HI0.out | apply IsS75.alloc | apply IsS75.drewN | apply IsS75.drew | apply IsS75.set_1 | refine IsS75.far ?_ NB0_418.out _ | refine IsS75.far ?_ NB0_426.out _) | exact HI0.out)) (rq ((Kd.R_mono (Kd.R_far (p := ⟨gb426, 1, none⟩) (Kd.R_far (p := ⟨gb426, 0, none⟩) (Kd.R_types HO421.out BK426.out (by decide)) (fun _ hk => hk.2) (.slice Ao31 t419.length co31)) (fun _ hk => hk.2) (.slice Ao35 t422.length co35)) (fun _ h_ => h_.1)))) (by decide)) hk (fun _ h => h.2)) (fun _ h => h.1)); replace HO424 := am (Kd.R_mono (Kd.R_keep (IsS75.apart (show IsS75 w0 _ g s0_0 t425 from by repeat (first | (with_reducible first | exact HI0.out | apply IsS75.alloc | apply IsS75.drewN | apply IsS75.drew | apply IsS75.set_1 | refine IsS75.far ?_ NB0_418.out _ | refine IsS75.far ?_ NB0_426.out _) | exact HI0.out)) (rq ((Kd.R_mono (Kd.R_far (p := ⟨gb426, 1, none⟩) (Kd.R_far (p := ⟨gb426, 0, none⟩) (Kd.R_types HO424.out BK426.out (by decide)) (fun _ hk => hk.2) (.slice Ao31 t419.length co31)) (fun _ hk => hk.2) (.slice Ao35 t422.length co35)) (fun _ h_ => h_.1)))) (by decide)) hk (fun _ h => h.2)) (fun _ h => h.1)); replace BK426 := am (KeepBut.blk hk (g' := gb426) (o := .cells #[.slice Ao31 t419.length co31, .slice Ao35 t422.length co35] 25 (0, 0)) (by (with_reducible repeat (first | refine blk_drewN ?_ _ | refine blk_drew ?_ | refine blk_alloc ?_ _)); refine blk_put (cs := #[.slice Ao31 t419.length co31, .slice none 0 0]) ?_ 1 _ rfl; (with_reducible repeat (first | refine blk_drewN ?_ _ | refine blk_drew ?_ | refine blk_alloc ?_ _)); refine blk_put (cs := #[.slice none 0 0, .slice none 0 0]) ?_ 0 _ rfl; (with_reducible repeat (first | refine blk_drewN ?_ _ | refine blk_drew ?_ | refine blk_alloc ?_ _)); exact BK426.out) NB426_0.out (by simp)); replace HK := am (KeepBut.trans b6_ hk (.inl rfl)); replace HB := am (hb); replace HI0 := am (hi); (try clear hb); (try clear hb2); (try clear hk); (try clear hi)))
  replace HO421 := am (Kd.R_drew HO421.out); replace HO424 := am (Kd.R_drew HO424.out); replace BK418 := am (blk_drew BK418.out); replace BK426 := am (blk_drew BK426.out); replace HI0 := am (IsS75.drew HI0.out); replace HK := am (keep_drew HK.out); replace HB := am (below_drew1 HB.out)
  refine start_ (n := 12) (S := fun w' => w'.cell? ⟨gb426, 0, none⟩ = some (.slice Ao31 t419.length co31) ∧ w'.cell? ⟨gb426, 1, none⟩ = some (.slice Ao35 t422.length co35)) (ds := [11]) #[false, false, false, false, false, false, false, false, false, false, false, false] (by kernel_rfl) rfl rfl ⟨(blk_cell BK426.out 0).trans rfl, (blk_cell BK426.out 1).trans rfl⟩ (fun hHeld => ?_); refine with_tabW spec_l13AnyBook.tab6 spec_l13AnyBook.bits6 (fun HT_ HW_ => ?_)
  generalize w36.drew = w37 at HO421 HO424 BK418 BK426 HI0 HK HB hHeld ⊢
  refine pu 0 19 ?_
  refine pu 2 21 ?_
  refine pu 4 23 ?_
  refine tk2 1 20 hHeld ?_
  refine join_ (σ := Value) 6 #[true, true, true, true, true, true, false, false, false, false, false, false] (fun s_ => [(22, .string t438), (24, s_)]) (fun s_ w' => (w'.cell? ⟨gb426, 0, none⟩ = some (.slice Ao31 t419.length co31) ∧ w'.cell? ⟨gb426, 1, none⟩ = some (.slice Ao35 t422.length co35)) ∧ (Kd.R k40 40 w' w.heap.size (fun _ => True) (.slice Ao31 t419.length co31) t419) ∧ (Kd.R k43 43 w' w.heap.size (fun _ => True) (.slice Ao35 t422.length co35) t422) ∧ (Kd.R Kd.string 9 w' w.heap.size (fun _ => True) s_ y440) ∧ (w'.heap[gb418]? = some (.cells #[.slice none 0 0, .slice none 0 0] 25 (0, 0))) ∧ (w'.heap[gb426]? = some (.cells #[.slice Ao31 t419.length co31, .slice Ao35 t422.length co35] 25 (0, 0))) ∧ (IsS75 w0 w' g s0_0 t439) ∧ (KeepBut w w' g none) ∧ (Below w0.heap.size w0 w')) ?_ ?_
  rotate_left
  ·intro hCont
   refine two_ (i := 3) (j := 5) (Ni := some 22) (Nj := some 24) #[true, true, true, true, true, false, false, false, false, false, false, false] #[true, true, true, false, true, true, false, false, false, false, false, false] rfl rfl rfl rfl (two_of HT_.out (by kernel_rfl)) (by decide) (by decide) (fun K hK => ?_) (fun K hK => ?_)
   ·skip
    refine goes_ Tryd.func51 (by kernel_rfl) rfl #[.pointer (some ⟨g, 0, none⟩)] (by rfl) rfl rfl mq ?_
    with_reducible refine (spec_l13AnyWord.calls k g s0_0 t428 t438 t439 w0 _ ?side1 ?side2 A25.out).mono ?_
    (case side1 => repeat (first | (with_reducible first | exact HI0.out | apply IsS75.alloc | apply IsS75.drewN | apply IsS75.drew | apply IsS75.set_1 | refine IsS75.far ?_ NB0_418.out _ | refine IsS75.far ?_ NB0_426.out _) | exact HI0.out)); (case side2 => repeat (first | (with_reducible first | exact HB.out | apply below_alloc | apply pw_below_drewN | apply below_drew1 | refine below_set ?_ (IsS75.ge HI0.out) | refine below_set ?_ GE418.out | refine below_set ?_ GE426.out) | exact HB.out))
    rintro e w38 ⟨rfl, hi, hb, hk⟩
    refine ⟨_, rfl, ?_⟩
    replace BK418 := am (KeepBut.blk hk (g' := gb418) (o := .cells #[.slice none 0 0, .slice none 0 0] 25 (0, 0)) (bq BK418.out) NB418_0.out (by simp))
    replace HO421 := am (Kd.R_mono (Kd.R_keep (IsS75.apart (show IsS75 w0 _ g s0_0 t428 from by repeat (first | (with_reducible first | exact HI0.out | apply IsS75.alloc | apply IsS75.drewN | apply IsS75.drew | apply IsS75.set_1 | refine IsS75.far ?_ NB0_418.out _ | refine IsS75.far ?_ NB0_426.out _) | exact HI0.out)) (rq HO421.out) (by decide)) hk (fun _ h => h.2)) (fun _ h => h.1))
    replace HO424 := am (Kd.R_mono (Kd.R_keep (IsS75.apart (show IsS75 w0 _ g s0_0 t428 from by repeat (first | (with_reducible first | exact HI0.out | apply IsS75.alloc | apply IsS75.drewN | apply IsS75.drew | apply IsS75.set_1 | refine IsS75.far ?_ NB0_418.out _ | refine IsS75.far ?_ NB0_426.out _) | exact HI0.out)) (rq HO424.out) (by decide)) hk (fun _ h => h.2)) (fun _ h => h.1))
    replace BK426 := am (KeepBut.blk hk (g' := gb426) (o := .cells #[.slice Ao31 t419.length co31, .slice Ao35 t422.length co35] 25 (0, 0)) (bq BK426.out) NB426_0.out (by simp))
    replace HK := am (KeepBut.trans b6_ hk (.inl rfl))
    replace HB := am (hb); replace HI0 := am (hi)
    (try clear hb)
    (try clear hb2)
    (try clear hk)
    (try clear hi)
    refine hK.out _ _ ⟨(blk_cell BK426.out 0).trans rfl, (blk_cell BK426.out 1).trans rfl⟩ (fun hHeld => ?_)
    clear hK K
    refine norm_ (a' := ?_) ?_ ?_
    rotate_left
    ·show Act.put _ (some 22) _ = _
     simp only [Act.put, List.setIfInBounds_toArray, List.set_cons_zero, List.set_cons_succ, i64_w, i32_w]
     rfl
    refine on1 5 24 (fun K hK => ?_)
    refine Kd.R_lit_step Kd.string _ 9 ?hg (N := 24) ?hd (xs := ([(⟨#[]⟩ : ByteArray), (⟨#[83, 71]⟩ : ByteArray), (⟨#[115]⟩ : ByteArray), (⟨#[65, 66, 67, 68, 69]⟩ : ByteArray)] : List ByteArray)) (inner := [.string (⟨#[]⟩ : ByteArray), .string (⟨#[83, 71]⟩ : ByteArray), .string (⟨#[115]⟩ : ByteArray), .string (⟨#[65, 66, 67, 68, 69]⟩ : ByteArray)]) (ok := fun _ => True) (okp := fun _ => True) ?hr ?hp (fun _ hk => hk) trivial (Below.refl _ _) (Nat.le_refl _) (by simp) ?_; (case hd => rfl); (case hg => rfl); (case hr => first | (go_simp; done) | (go_simp; rfl)); (case hp => exact (Reps.one (show Kd.M Kd.string _ _ _ (⟨#[]⟩ : ByteArray) [.string (⟨#[]⟩ : ByteArray)] from rfl) (Reps.one (show Kd.M Kd.string _ _ _ (⟨#[83, 71]⟩ : ByteArray) [.string (⟨#[83, 71]⟩ : ByteArray)] from rfl) (Reps.one (show Kd.M Kd.string _ _ _ (⟨#[115]⟩ : ByteArray) [.string (⟨#[115]⟩ : ByteArray)] from rfl) (Reps.one (show Kd.M Kd.string _ _ _ (⟨#[65, 66, 67, 68, 69]⟩ : ByteArray) [.string (⟨#[65, 66, 67, 68, 69]⟩ : ByteArray)] from rfl) (Reps.none _ _))))))
    intro v441 w39 ho40 hb hg_ hnew_; clear hg_ hnew_
    (first | rw [← Ny440.out] at ho40 | (simp only [Int.reduceToNat] at ho40; rw [← Ny440.out] at ho40) | (simp only [Int.toNat_natCast] at ho40; rw [← Ny440.out] at ho40))
    replace HO421 := am (Kd.R_below (rq HO421.out) hb); replace HO424 := am (Kd.R_below (rq HO424.out) hb)
    have HO442 := am (Kd.R_lower ho40 (keep_size (w := w) (g := g) (row := none) b6_))
    replace BK418 := am (blk_below (g := gb418) (o := .cells #[.slice none 0 0, .slice none 0 0] 25 (0, 0)) (bq BK418.out) hb); replace BK426 := am (blk_below (g := gb426) (o := .cells #[.slice Ao31 t419.length co31, .slice Ao35 t422.length co35] 25 (0, 0)) (bq BK426.out) hb)
    replace HK := am (KeepBut.trans b6_ (KeepBut.of_below hb g none) (.inl rfl))
    replace HB := am (below_step b17_ hb)
    replace HI0 := am (IsS75.below b18_ hb)
    clear hb ho40
    refine hK.out _ _ ⟨(blk_cell BK426.out 0).trans rfl, (blk_cell BK426.out 1).trans rfl⟩ (fun hHeld => ?_)
    clear hK K
    refine norm_ (a' := ?_) ?_ ?_
    rotate_left
    ·show Act.put _ (some 24) _ = _
     simp only [Act.put, List.setIfInBounds_toArray, List.set_cons_zero, List.set_cons_succ, i64_w, i32_w]
     rfl
    exact norm_ b75_ (hCont (v441) _ ⟨hHeld, (rq HO421.out), (rq HO424.out), (rq HO442.out), (bq BK418.out), (bq BK426.out), b18_, b6_, b17_⟩)
   ·skip
    refine Kd.R_lit_step Kd.string _ 9 ?hg (N := 24) ?hd (xs := ([(⟨#[]⟩ : ByteArray), (⟨#[83, 71]⟩ : ByteArray), (⟨#[115]⟩ : ByteArray), (⟨#[65, 66, 67, 68, 69]⟩ : ByteArray)] : List ByteArray)) (inner := [.string (⟨#[]⟩ : ByteArray), .string (⟨#[83, 71]⟩ : ByteArray), .string (⟨#[115]⟩ : ByteArray), .string (⟨#[65, 66, 67, 68, 69]⟩ : ByteArray)]) (ok := fun _ => True) (okp := fun _ => True) ?hr ?hp (fun _ hk => hk) trivial (Below.refl _ _) (Nat.le_refl _) (by simp) ?_; (case hd => rfl); (case hg => rfl); (case hr => first | (go_simp; done) | (go_simp; rfl)); (case hp => exact (Reps.one (show Kd.M Kd.string _ _ _ (⟨#[]⟩ : ByteArray) [.string (⟨#[]⟩ : ByteArray)] from rfl) (Reps.one (show Kd.M Kd.string _ _ _ (⟨#[83, 71]⟩ : ByteArray) [.string (⟨#[83, 71]⟩ : ByteArray)] from rfl) (Reps.one (show Kd.M Kd.string _ _ _ (⟨#[115]⟩ : ByteArray) [.string (⟨#[115]⟩ : ByteArray)] from rfl) (Reps.one (show Kd.M Kd.string _ _ _ (⟨#[65, 66, 67, 68, 69]⟩ : ByteArray) [.string (⟨#[65, 66, 67, 68, 69]⟩ : ByteArray)] from rfl) (Reps.none _ _))))))
    intro v441 w38 ho39 hb hg_ hnew_; clear hg_ hnew_
    (first | rw [← Ny440.out] at ho39 | (simp only [Int.reduceToNat] at ho39; rw [← Ny440.out] at ho39) | (simp only [Int.toNat_natCast] at ho39; rw [← Ny440.out] at ho39))
    replace HO421 := am (Kd.R_below (rq HO421.out) hb); replace HO424 := am (Kd.R_below (rq HO424.out) hb)
    have HO442 := am (Kd.R_lower ho39 (keep_size (w := w) (g := g) (row := none) b6_))
    replace BK418 := am (blk_below (g := gb418) (o := .cells #[.slice none 0 0, .slice none 0 0] 25 (0, 0)) (bq BK418.out) hb); replace BK426 := am (blk_below (g := gb426) (o := .cells #[.slice Ao31 t419.length co31, .slice Ao35 t422.length co35] 25 (0, 0)) (bq BK426.out) hb)
    replace HK := am (KeepBut.trans b6_ (KeepBut.of_below hb g none) (.inl rfl))
    replace HB := am (below_step b17_ hb)
    replace HI0 := am (IsS75.below b18_ hb)
    clear hb ho39
    refine hK.out _ _ ⟨(blk_cell BK426.out 0).trans rfl, (blk_cell BK426.out 1).trans rfl⟩ (fun hHeld => ?_)
    clear hK K
    refine norm_ (a' := ?_) ?_ ?_
    rotate_left
    ·show Act.put _ (some 24) _ = _
     simp only [Act.put, List.setIfInBounds_toArray, List.set_cons_zero, List.set_cons_succ, i64_w, i32_w]
     rfl
    refine on1 3 22 (fun K hK => ?_)
    refine goes_ Tryd.func51 (by kernel_rfl) rfl #[.pointer (some ⟨g, 0, none⟩)] (by rfl) rfl rfl mq ?_
    with_reducible refine (spec_l13AnyWord.calls k g s0_0 t428 t438 t439 w0 _ ?side1 ?side2 A25.out).mono ?_
    (case side1 => repeat (first | (with_reducible first | exact HI0.out | apply IsS75.alloc | apply IsS75.drewN | apply IsS75.drew | apply IsS75.set_1 | refine IsS75.far ?_ NB0_418.out _ | refine IsS75.far ?_ NB0_426.out _) | exact HI0.out)); (case side2 => repeat (first | (with_reducible first | exact HB.out | apply below_alloc | apply pw_below_drewN | apply below_drew1 | refine below_set ?_ (IsS75.ge HI0.out) | refine below_set ?_ GE418.out | refine below_set ?_ GE426.out) | exact HB.out))
    rintro e w40 ⟨rfl, hi, hb, hk⟩
    refine ⟨_, rfl, ?_⟩
    replace BK418 := am (KeepBut.blk hk (g' := gb418) (o := .cells #[.slice none 0 0, .slice none 0 0] 25 (0, 0)) (bq BK418.out) NB418_0.out (by simp))
    replace HO421 := am (Kd.R_mono (Kd.R_keep (IsS75.apart (show IsS75 w0 _ g s0_0 t428 from by repeat (first | (with_reducible first | exact HI0.out | apply IsS75.alloc | apply IsS75.drewN | apply IsS75.drew | apply IsS75.set_1 | refine IsS75.far ?_ NB0_418.out _ | refine IsS75.far ?_ NB0_426.out _) | exact HI0.out)) (rq HO421.out) (by decide)) hk (fun _ h => h.2)) (fun _ h => h.1))
    replace HO424 := am (Kd.R_mono (Kd.R_keep (IsS75.apart (show IsS75 w0 _ g s0_0 t428 from by repeat (first | (with_reducible first | exact HI0.out | apply IsS75.alloc | apply IsS75.drewN | apply IsS75.drew | apply IsS75.set_1 | refine IsS75.far ?_ NB0_418.out _ | refine IsS75.far ?_ NB0_426.out _) | exact HI0.out)) (rq HO424.out) (by decide)) hk (fun _ h => h.2)) (fun _ h => h.1))
    replace BK426 := am (KeepBut.blk hk (g' := gb426) (o := .cells #[.slice Ao31 t419.length co31, .slice Ao35 t422.length co35] 25 (0, 0)) (bq BK426.out) NB426_0.out (by simp))
    replace HO442 := am (Kd.R_mono (Kd.R_keep (IsS75.apart (show IsS75 w0 _ g s0_0 t428 from by repeat (first | (with_reducible first | exact HI0.out | apply IsS75.alloc | apply IsS75.drewN | apply IsS75.drew | apply IsS75.set_1 | refine IsS75.far ?_ NB0_418.out _ | refine IsS75.far ?_ NB0_426.out _) | exact HI0.out)) (rq HO442.out) (by decide)) hk (fun _ h => h.2)) (fun _ h => h.1))
    replace HK := am (KeepBut.trans b6_ hk (.inl rfl))
    replace HB := am (hb); replace HI0 := am (hi)
    (try clear hb)
    (try clear hb2)
    (try clear hk)
    (try clear hi)
    refine hK.out _ _ ⟨(blk_cell BK426.out 0).trans rfl, (blk_cell BK426.out 1).trans rfl⟩ (fun hHeld => ?_)
    clear hK K
    refine norm_ (a' := ?_) ?_ ?_
    rotate_left
    ·show Act.put _ (some 22) _ = _
     simp only [Act.put, List.setIfInBounds_toArray, List.set_cons_zero, List.set_cons_succ, i64_w, i32_w]
     rfl
    exact norm_ b75_ (hCont (v441) _ ⟨hHeld, (rq HO421.out), (rq HO424.out), (rq HO442.out), (bq BK418.out), (bq BK426.out), b18_, b6_, b17_⟩)
  rintro v441 w41 ⟨hS_, h0_, h1_, h2_, h3_, h4_, h5_, h6_, h7_⟩
  have n0_ : Aside0 (Kd.R k40 40 w41 w.heap.size (fun _ => True) (.slice Ao31 t419.length co31) t419) := ⟨h0_⟩
  have n1_ : Aside0 (Kd.R k43 43 w41 w.heap.size (fun _ => True) (.slice Ao35 t422.length co35) t422) := ⟨h1_⟩
  have n2_ : Aside0 (Kd.R Kd.string 9 w41 w.heap.size (fun _ => True) v441 y440) := ⟨h2_⟩
  have n3_ : Aside0 (w41.heap[gb418]? = some (.cells #[.slice none 0 0, .slice none 0 0] 25 (0, 0))) := ⟨h3_⟩
  have n4_ : Aside0 (w41.heap[gb426]? = some (.cells #[.slice Ao31 t419.length co31, .slice Ao35 t422.length co35] 25 (0, 0))) := ⟨h4_⟩
  have n5_ : Aside0 (IsS75 w0 w41 g s0_0 t439) := ⟨h5_⟩
  have n6_ : Aside0 (KeepBut w w41 g none) := ⟨h6_⟩
  have n7_ : Aside0 (Below w0.heap.size w0 w41) := ⟨h7_⟩
  clear HO421; clear HO424; clear BK418; clear BK426; clear HI0; clear HK; clear HB; clear h0_ h1_ h2_ h3_ h4_ h5_ h6_ h7_; have HO421 := n0_; have HO424 := n1_; have HO442 := n2_; have BK418 := n3_; have BK426 := n4_; have HI0 := n5_; have HK := n6_; have HB := n7_; clear n0_ n1_ n2_ n3_ n4_ n5_ n6_ n7_
  have hHeld : w41.cell? ⟨gb426, 0, none⟩ = some (.slice Ao31 t419.length co31) ∧ w41.cell? ⟨gb426, 1, none⟩ = some (.slice Ao35 t422.length co35) := hS_
  obtain ⟨Ao42, co42, eo42⟩ := Kd.R_slice HO442.out
  (first | subst eo42 | (injection eo42 with f1_ f2_ f3_; have f4_ := f1_.symm; have f5_ := f3_.symm; clear f1_ f2_ f3_; subst f4_; subst f5_))
  refine norm_ (a' := ?_) ?_ ?_
  rotate_left
  ·simp only [putAll, Act.put, List.setIfInBounds_toArray, List.set_cons_zero, List.set_cons_succ]
   rfl
  refine on1 6 25 (fun K hK => ?_)
  refine goes_ Tryd.func52 (by kernel_rfl) rfl #[.pointer (some ⟨g, 0, none⟩), .slice Ao42 y440.length co42] (by rfl) rfl rfl mq ?_
  with_reducible refine (spec_l1Rd_of.calls k g s0_0 t439 _ _ y440 t443 t444 w0 _ ?side1 ?side2 ?side3 ?side4 ?side5 A26.out).mono ?_
  (case side1 => repeat (first | (with_reducible first | exact HI0.out | apply IsS75.alloc | apply IsS75.drewN | apply IsS75.drew | apply IsS75.set_1 | refine IsS75.far ?_ NB0_418.out _ | refine IsS75.far ?_ NB0_426.out _) | exact HI0.out)); (case side2 => repeat (first | (with_reducible first | exact HB.out | apply below_alloc | apply pw_below_drewN | apply below_drew1 | refine below_set ?_ (IsS75.ge HI0.out) | refine below_set ?_ GE418.out | refine below_set ?_ GE426.out) | exact HB.out)); (case side3 => exact cq (Kd.R_reads' HO442.out).2.2); (case side4 => exact (Kd.R_reads' HO442.out).2.1); (case side5 => exact far_slice (IsS75.own_ne HI0.out HO442.out (by decide)))
  rintro e w43 ⟨rfl, hi, hb, hk⟩
  refine ⟨_, rfl, ?_⟩
  replace BK418 := am (KeepBut.blk hk (g' := gb418) (o := .cells #[.slice none 0 0, .slice none 0 0] 25 (0, 0)) (bq BK418.out) NB418_0.out (by simp))
  replace HO421 := am (Kd.R_mono (Kd.R_keep (IsS75.apart (show IsS75 w0 _ g s0_0 t439 from by repeat (first | (with_reducible first | exact HI0.out | apply IsS75.alloc | apply IsS75.drewN | apply IsS75.drew | apply IsS75.set_1 | refine IsS75.far ?_ NB0_418.out _ | refine IsS75.far ?_ NB0_426.out _) | exact HI0.out)) (rq HO421.out) (by decide)) hk (fun _ h => h.2)) (fun _ h => h.1))
  replace HO424 := am (Kd.R_mono (Kd.R_keep (IsS75.apart (show IsS75 w0 _ g s0_0 t439 from by repeat (first | (with_reducible first | exact HI0.out | apply IsS75.alloc | apply IsS75.drewN | apply IsS75.drew | apply IsS75.set_1 | refine IsS75.far ?_ NB0_418.out _ | refine IsS75.far ?_ NB0_426.out _) | exact HI0.out)) (rq HO424.out) (by decide)) hk (fun _ h => h.2)) (fun _ h => h.1))
  replace BK426 := am (KeepBut.blk hk (g' := gb426) (o := .cells #[.slice Ao31 t419.length co31, .slice Ao35 t422.length co35] 25 (0, 0)) (bq BK426.out) NB426_0.out (by simp))
  replace HO442 := am (Kd.R_mono (Kd.R_keep (IsS75.apart (show IsS75 w0 _ g s0_0 t439 from by repeat (first | (with_reducible first | exact HI0.out | apply IsS75.alloc | apply IsS75.drewN | apply IsS75.drew | apply IsS75.set_1 | refine IsS75.far ?_ NB0_418.out _ | refine IsS75.far ?_ NB0_426.out _) | exact HI0.out)) (rq HO442.out) (by decide)) hk (fun _ h => h.2)) (fun _ h => h.1))
  replace HK := am (KeepBut.trans b6_ hk (.inl rfl))
  replace HB := am (hb); replace HI0 := am (hi)
  (try clear hb)
  (try clear hb2)
  (try clear hk)
  (try clear hi)
  refine hK.out _ _ ⟨(blk_cell BK426.out 0).trans rfl, (blk_cell BK426.out 1).trans rfl⟩ (fun hHeld => ?_)
  clear hK K
  refine norm_ (a' := ?_) ?_ ?_
  rotate_left
  ·show Act.put _ (some 25) _ = _
   simp only [Act.put, List.setIfInBounds_toArray, List.set_cons_zero, List.set_cons_succ, i64_w, i32_w]
   rfl
  refine pu 7 26 ?_
  refine on1 8 27 (fun K hK => ?_)
  refine value_ (w1 := ?_) (v := ?_) (by rfl) rfl ?_ ?_
  rotate_left 2
  ·go_simp
   constructor
   ·rfl
   ·rfl
  refine hK.out _ _ ⟨(blk_cell (blk_alloc BK426.out _) 0).trans rfl, (blk_cell (blk_alloc BK426.out _) 1).trans rfl⟩ (fun hHeld => ?_)
  clear hK K
  refine norm_ (a' := ?_) ?_ ?_
  rotate_left
  ·show Act.put _ (some 27) _ = _
   simp only [Act.put, List.setIfInBounds_toArray, List.set_cons_zero, List.set_cons_succ, i64_w, i32_w]
   rfl
  refine on1 9 28 (fun K hK => ?_)
  refine Kd.R_append_step k43 w.heap.size (by rfl) (.tmp 20) (.tmp 27) 23 43 (.agg #[(.string ⟨#[]⟩), (.string ⟨#[]⟩)]) 32 rfl Tryd.underlying23 info43 rfl (by decide) (by omega) (.slice Ao35 t422.length co35) t422 (⟨t438, t443⟩ : S43) [.string t438, .string t443] (fun _ => True) (fun _ => False) rfl rfl ?aP (fun _ hk => hk.elim) ?aF ?aO (Below.refl _ _) ?aS ?aL ?_
  (case aP => exact k43_mkM _ _ _ (⟨t438, t443⟩ : S43)); (case aF => exact (fun _ _ => trivial)); (case aO => exact (rq HO424.out)); (case aS => exact (keep_size (w := w) (g := g) (row := none) b6_)); (case aL => have := LMc27.out; omega); intro v446 w44 ho hb hg hat; rw [← Ny445.out] at ho
  replace BK418 := am (blk_grown (g := gb418) (o := .cells #[.slice none 0 0, .slice none 0 0] 25 (0, 0)) (bq BK418.out) hg (Kd.R_ne HO424.out BK418.out (by decide)))
  replace HO421 := am (Kd.R_over' (rq HO421.out) (Kd.R_typed (rq HO424.out)) (by decide) hg)
  replace BK426 := am (blk_grown (g := gb426) (o := .cells #[.slice Ao31 t419.length co31, .slice Ao35 t422.length co35] 25 (0, 0)) (bq BK426.out) hg (Kd.R_ne HO424.out BK426.out (by decide)))
  replace HO442 := am (Kd.R_over' (rq HO442.out) (Kd.R_typed (rq HO424.out)) (by decide) hg)
  replace HB := am (below_weaken b17_ HL.out hb)
  replace HI0 := am (IsS75.grown b18_ hg (IsS75.own_ne HI0.out HO424.out (by decide)))
  replace HK := am (KeepBut.trans b6_ (KeepBut.of_grown hg g) (Kd.R_base2 HO424.out))
  have HO447 := am (ho); clear HO424; clear ho hb hg hat; obtain ⟨Ao45, co45, eo45⟩ := Kd.R_slice HO447.out
  (first | subst eo45 | (injection eo45 with f1_ f2_ f3_; have f4_ := f1_.symm; have f5_ := f3_.symm; clear f1_ f2_ f3_; subst f4_; subst f5_))
  refine hK.out _ _ ⟨(blk_cell BK426.out 0).trans rfl, (blk_cell BK426.out 1).trans rfl⟩ (fun hHeld => ?_)
  clear hK K
  refine norm_ (a' := ?_) ?_ ?_
  rotate_left
  ·show Act.put _ (some 28) _ = _
   simp only [Act.put, List.setIfInBounds_toArray, List.set_cons_zero, List.set_cons_succ, i64_w, i32_w]
   rfl
  refine pu 10 29 ?_
  refine last_ (i := 11) (N := none) #[true, true, true, true, true, true, true, true, true, true, true, true] rfl rfl (one_of HT_.out (by kernel_rfl)) (by decide) (fun K hK => ?_)
  have hs46 : w44.cell? ⟨gb426, 1, none⟩ = some (.slice Ao35 t422.length co35) := (blk_cell BK426.out 1).trans rfl
  have hfs46 := bf BK426.out 1; have hns46_0 := NB418_426.out; have hms46_0 := NB426_418.out
  refine skip_ (w1 := ?_) (by rfl) rfl ?_ ?_
  rotate_left
  ·go_simp
   rfl
  refine hK.out _ _ ?_
  clear hK K
  refine done_ (done_of HT_.out (by kernel_rfl)) ?_
  have hcz47_0 := bc BK426.out 0; have hcz47_1 := bc BK426.out 1; have hfz47_0 := bf BK426.out 0; have hfz47_1 := bf BK426.out 1; have hnb48 := NB418_0.out; have hnc48 := NB0_418.out; have hcz49_0 := bc BK418.out 0; have hcz49_1 := bc BK418.out 1; have hfz49_0 := bf BK418.out 0; have hfz49_1 := bf BK418.out 1
  try go_wp2
  refine bodyPost_ret (results_cell_row rfl _ _ gb418 25 #[.slice Ao31 t419.length co31, .slice Ao45 y445.length co45] (0, 0) _ rfl (by (with_reducible repeat (first | refine blk_drewN ?_ _ | refine blk_drew ?_ | refine blk_alloc ?_ _)); refine blk_put (cs := #[.slice Ao31 t419.length co31, .slice none 0 0]) ?_ 1 _ rfl; (with_reducible repeat (first | refine blk_drewN ?_ _ | refine blk_drew ?_ | refine blk_alloc ?_ _)); refine blk_put (cs := #[.slice none 0 0, .slice none 0 0]) ?_ 0 _ rfl; (with_reducible repeat (first | refine blk_drewN ?_ _ | refine blk_drew ?_ | refine blk_alloc ?_ _)); refine blk_far ?_ NB418_426.out _; (with_reducible repeat (first | refine blk_drewN ?_ _ | refine blk_drew ?_ | refine blk_alloc ?_ _)); exact BK418.out) Tryd.underlying25 rfl (by kernel_rfl)) rfl ?_
  exact ⟨_, _, eq_, by (with_reducible repeat (first | apply Kd.R_alloc | apply Kd.R_drewN | apply Kd.R_drew)); exact Kd.R_mono (Kd.R_far (p := ⟨gb418, 1, none⟩) (Kd.R_far (p := ⟨gb418, 0, none⟩) (Kd.R_far (p := ⟨gb426, 1, none⟩) (Kd.R_types (Kd.R_types HO421.out BK426.out (by decide)) BK418.out (by decide)) (fun _ hk => hk.1.2) (.slice Ao45 y445.length co45)) (fun _ hk => hk.2) (.slice Ao31 t419.length co31)) (fun _ hk => hk.2) (.slice Ao45 y445.length co45)) (fun _ hk => trivial), by (with_reducible repeat (first | apply Kd.R_alloc | apply Kd.R_drewN | apply Kd.R_drew)); exact Kd.R_mono (Kd.R_far (p := ⟨gb418, 1, none⟩) (Kd.R_far (p := ⟨gb418, 0, none⟩) (Kd.R_far (p := ⟨gb426, 1, none⟩) (Kd.R_types (Kd.R_types HO447.out BK426.out (by decide)) BK418.out (by decide)) (fun _ hk => hk.1.2) (.slice Ao45 y445.length co45)) (fun _ hk => hk.2) (.slice Ao31 t419.length co31)) (fun _ hk => hk.2) (.slice Ao45 y445.length co45)) (fun _ hk => trivial), b18_, b17_, b6_⟩
 rw [if_neg c24] at H
 have c24b0 : (t427 == 1) = false := beq_eq_false_iff_ne.mpr c24
 have c24b1 : (t427 != 1) = true := bne_iff_ne.mpr c24
 by_cases c50 : t427 = 2
 ·rw [if_pos c50] at H
  have c50b0 : (t427 == 2) = true := beq_iff_eq.mpr c50
  have c50b1 : (t427 != 2) = false := bne_eq_false_iff_eq.mpr c50
  clear c50
  by_cases c51 : (t422.length : Int) > 0
  ·rw [if_pos c51] at H; have c51b0 := decide_eq_true c51
   have c51b1 : decide (0 < t422.length) = true := decide_eq_true (by omega)
   clear c51; obtain ⟨y448, hy448⟩ : ∃ y_ : List ByteArray, y_ = (([(⟨#[]⟩ : ByteArray), (⟨#[122, 122]⟩ : ByteArray), (⟨#[65]⟩ : ByteArray)] : List ByteArray)) := ⟨_, rfl⟩
   replace H : ((spec_l1Rd_of.f k s0_0 t428 y448).bind fun bt451 => (if 0 < (t422.length : Int) then (some (t419, (t422.set (0 : Int).toNat (⟨bt451.1, (rd_T43 t422 0).f1⟩ : S43)), bt451.2)) else (none))) = some (r1, r2, r3) := by first | (rw [hy448]; with_reducible exact H) | (have H2_ := bm H; rw [hy448]; with_reducible exact H2_) | (with_reducible exact bm H) | with_reducible exact H | (rw [hy448]; exact H) | exact H
   have Ny448 := am hy448; clear hy448; replace H := bs H; obtain ⟨⟨t451, t452⟩, A520, H⟩ := H; replace H : (if 0 < (t422.length : Int) then (some (t419, (t422.set (0 : Int).toNat (⟨t451, (rd_T43 t422 0).f1⟩ : S43)), t452)) else (none)) = some (r1, r2, r3) := H; have A52 := Aside0.mk A520; clear A520
   replace H := ip H; obtain ⟨c53, H⟩ := H; have c53b0 := decide_eq_true c53
   have c53b1 : decide (0 < t422.length) = true := decide_eq_true (by omega)
   clear c53; obtain ⟨y453, hy453⟩ : ∃ y_ : List (S43), y_ = (t422.set (0 : Int).toNat (⟨t451, (rd_T43 t422 0).f1⟩ : S43)) := ⟨_, rfl⟩
   replace H : (some (t419, y453, t452)) = some (r1, r2, r3) := by first | (rw [hy453]; with_reducible exact H) | (have H2_ := bm H; rw [hy453]; with_reducible exact H2_) | (with_reducible exact bm H) | with_reducible exact H | (rw [hy453]; exact H) | exact H
   have Ny453 := am hy453; clear hy453
   simp only [Option.some.injEq, Prod.mk.injEq] at H
   obtain ⟨rfl, rfl, rfl⟩ := H; go_enter Tryd.func31, Tryd.ntmps31
   try go_wp2_with (first | ((with_reducible refine gate_dst (N := 2) rfl ?_); refine bx 2 (cs := #[.slice none 0 0, .slice none 0 0]) (t := 25) ?_; intro gb418 hg w55 hbox hb; replace HB := am (below_step b2_ hb); have BK418 := am (hbox); have GW418 := am ((b4_ : w.heap.size ≤ gb418)); have GE418 := am ((Nat.le_trans HW0.out (b4_ : w.heap.size ≤ gb418) : w0.heap.size ≤ gb418)); replace HK := am (KeepBut.trans b0_ (KeepBut.of_below hb g none) (.inl rfl)); have NB0_418 := am ((b15_ : g ≠ gb418)); have NB418_0 := am ((b16_ : gb418 ≠ g)); replace HI0 := am (IsS75.below b5_ hb); clear hb hbox hg) | ((with_reducible refine gate_callee (f := 38) rfl ?_); refine goesL_ (some 5) rfl rfl Tryd.func38 (by kernel_rfl) rfl #[.pointer (some ⟨g, 0, none⟩)] rfl mq ?_; (with_reducible refine (spec_l13Book.calls k g s0_0 s0_1 t419 t422 t425 w0 _ ?side1 ?side2 A2.out).mono ?_); (case side1 => repeat (first | (with_reducible first | exact HI0.out | apply IsS75.alloc | apply IsS75.drewN | apply IsS75.drew | apply IsS75.set_1 | refine IsS75.far ?_ NB0_418.out _) | exact HI0.out)); (case side2 => repeat (first | (with_reducible first | exact HB.out | apply below_alloc | apply pw_below_drewN | apply below_drew1 | refine below_set ?_ (IsS75.ge HI0.out) | refine below_set ?_ GE418.out) | exact HB.out)); rintro e w56 ⟨v420, v423, rfl, ho0, ho1, hi, hb, hk⟩; refine ⟨_, rfl, ?_⟩; replace BK418 := am (KeepBut.blk hk (g' := gb418) (o := .cells #[.slice none 0 0, .slice none 0 0] 25 (0, 0)) (bq BK418.out) NB418_0.out (by simp)); have HO421 := am (Kd.R_lower ho0 (keep_size (w := w) (g := g) (row := none) b7_)); have HO424 := am (Kd.R_lower ho1 (keep_size (w := w) (g := g) (row := none) b7_)); replace HK := am (KeepBut.trans b7_ hk (.inl rfl)); replace HB := am (hb); replace HI0 := am (hi); (try clear hb); (try clear hb2); (try clear hk); (try clear hi); (try clear ho0); (try clear ho1)) | ((with_reducible refine gate_dst (N := 3) rfl ?_); refine bx 3 (cs := #[.slice none 0 0, .slice none 0 0]) (t := 25) ?_; intro gb426 hg w57 hbox hb; replace HO421 := am (Kd.R_below (rq HO421.out) hb); replace HO424 := am (Kd.R_below (rq HO424.out) hb); replace HB := am (below_step b52_ hb); have BK426 := am (hbox); have GW426 := am ((b21_ : w.heap.size ≤ gb426)); have GE426 := am ((Nat.le_trans HW0.out (b21_ : w.heap.size ≤ gb426) : w0.heap.size ≤ gb426)); replace HK := am (KeepBut.trans b7_ (KeepBut.of_below hb g none) (.inl rfl)); have NB418_426 := am ((b66_ : gb418 ≠ gb426)); have NB426_418 := am ((b67_ : gb426 ≠ gb418)); replace BK418 := am (blk_below (g := gb418) (o := .cells #[.slice none 0 0, .slice none 0 0] 25 (0, 0)) (bq BK418.out) hb); have NB0_426 := am ((b40_ : g ≠ gb426)); have NB426_0 := am ((b41_ : gb426 ≠ g)); replace HI0 := am (IsS75.below b55_ hb); clear hb hbox hg; obtain ⟨Ao58, co58, eo58⟩ := Kd.R_slice HO421.out; subst eo58; have hnb59 := NB426_418.out; have hnc59 := NB418_426.out; have hnb60 := NB426_0.out; have hnc60 := NB0_426.out; have hcz61_0 := bc BK426.out 0; have hcz61_1 := bc BK426.out 1; have hfz61_0 := bf BK426.out 0; have hfz61_1 := bf BK426.out 1; obtain ⟨Ao62, co62, eo62⟩ := Kd.R_slice HO424.out; subst eo62) | ((with_reducible refine gate_callee (f := 49) rfl ?_); refine goesL_ (some 7) rfl rfl Tryd.func49 (by kernel_rfl) rfl #[.pointer (some ⟨g, 0, none⟩), .int .i64 16] rfl mq ?_; (with_reducible refine (spec_l1Rd_pick.calls k g s0_0 t425 16 t427 t428 w0 _ ?side1 ?side2 A3.out).mono ?_); (case side1 => repeat (first | (with_reducible first | exact HI0.out | apply IsS75.alloc | apply IsS75.drewN | apply IsS75.drew | apply IsS75.set_1 | refine IsS75.far ?_ NB0_418.out _ | refine IsS75.far ?_ NB0_426.out _) | exact HI0.out)); (case side2 => repeat (first | (with_reducible first | exact HB.out | apply below_alloc | apply pw_below_drewN | apply below_drew1 | refine below_set ?_ (IsS75.ge HI0.out) | refine below_set ?_ GE418.out | refine below_set ?_ GE426.out) | exact HB.out)); rintro e w63 ⟨rfl, hi, hb, hk⟩; refine ⟨_, rfl, ?_⟩; replace BK418 := am (KeepBut.blk hk (g' := gb418) (o := .cells #[.slice none 0 0, .slice none 0 0] 25 (0, 0)) b26_ NB418_0.out (by simp)); replace HO421 := am (Kd.R_mono (Kd.R_keep (IsS75.apart (show IsS75 w0 _ g s0_0 t425 from by repeat (first | (with_reducible first | exact HI0.out | apply IsS75.alloc | apply IsS75.drewN | apply IsS75.drew | apply IsS75.set_1 | refine IsS75.far ?_ NB0_418.out _ | refine IsS75.far ?_ NB0_426.out _) | exact HI0.out)) (rq ((Kd.R_mono (Kd.R_far (p := ⟨gb426, 1, none⟩) (Kd.R_far (p := ⟨gb426, 0, none⟩) (Kd.R_types HO421.out BK426.out (by decide)) (fun _ hk => hk.2) (.slice Ao58 t419.length co58)) (fun _ hk => hk.2) (.slice Ao62 t422.length co62)) (fun _ h_ => h_.1)))) (by decide)) hk (fun _ h => h.2)) (fun _ h => h.1)); replace HO424 := am (Kd.R_mono (Kd.R_keep (IsS75.apart (show IsS75 w0 _ g s0_0 t425 from by repeat (first | (with_reducible first | exact HI0.out | apply IsS75.alloc | apply IsS75.drewN | apply IsS75.drew | apply IsS75.set_1 | refine IsS75.far ?_ NB0_418.out _ | refine IsS75.far ?_ NB0_426.out _) | exact HI0.out)) (rq ((Kd.R_mono (Kd.R_far (p := ⟨gb426, 1, none⟩) (Kd.R_far (p := ⟨gb426, 0, none⟩) (Kd.R_types HO424.out BK426.out (by decide)) (fun _ hk => hk.2) (.slice Ao58 t419.length co58)) (fun _ hk => hk.2) (.slice Ao62 t422.length co62)) (fun _ h_ => h_.1)))) (by decide)) hk (fun _ h => h.2)) (fun _ h => h.1)); replace BK426 := am (KeepBut.blk hk (g' := gb426) (o := .cells #[.slice Ao58 t419.length co58, .slice Ao62 t422.length co62] 25 (0, 0)) (by (with_reducible repeat (first | refine blk_drewN ?_ _ | refine blk_drew ?_ | refine blk_alloc ?_ _)); refine blk_put (cs := #[.slice Ao58 t419.length co58, .slice none 0 0]) ?_ 1 _ rfl; (with_reducible repeat (first | refine blk_drewN ?_ _ | refine blk_drew ?_ | refine blk_alloc ?_ _)); refine blk_put (cs := #[.slice none 0 0, .slice none 0 0]) ?_ 0 _ rfl; (with_reducible repeat (first | refine blk_drewN ?_ _ | refine blk_drew ?_ | refine blk_alloc ?_ _)); exact BK426.out) NB426_0.out (by simp)); replace HK := am (KeepBut.trans b6_ hk (.inl rfl)); replace HB := am (hb); replace HI0 := am (hi); (try clear hb); (try clear hb2); (try clear hk); (try clear hi); have hcz64_0 := bc BK426.out 0; have hcz64_1 := bc BK426.out 1; have hfz64_0 := bf BK426.out 0; have hfz64_1 := bf BK426.out 1))
   replace HO421 := am (Kd.R_drew HO421.out); replace HO424 := am (Kd.R_drew HO424.out); replace BK418 := am (blk_drew BK418.out); replace BK426 := am (blk_drew BK426.out); replace HI0 := am (IsS75.drew HI0.out); replace HK := am (keep_drew HK.out); replace HB := am (below_drew1 HB.out)
   refine start_ (n := 8) (S := fun w' => w'.cell? ⟨gb426, 0, none⟩ = some (.slice Ao58 t419.length co58) ∧ w'.cell? ⟨gb426, 1, none⟩ = some (.slice Ao62 t422.length co62)) (ds := [7]) #[false, false, false, false, false, false, false, false] (by kernel_rfl) rfl rfl ⟨(blk_cell BK426.out 0).trans rfl, (blk_cell BK426.out 1).trans rfl⟩ (fun hHeld => ?_); refine with_tabW spec_l13AnyBook.tab9 spec_l13AnyBook.bits9 (fun HT_ HW_ => ?_)
   generalize w63.drew = w65 at HO421 HO424 BK418 BK426 HI0 HK HB hHeld ⊢
   refine pu 0 36 ?_
   refine pu 2 38 ?_
   refine tk2 1 37 hHeld ?_
   refine on1 3 39 (fun K hK => ?_)
   refine Kd.R_lit_step Kd.string _ 9 ?hg (N := 39) ?hd (xs := ([(⟨#[]⟩ : ByteArray), (⟨#[122, 122]⟩ : ByteArray), (⟨#[65]⟩ : ByteArray)] : List ByteArray)) (inner := [.string (⟨#[]⟩ : ByteArray), .string (⟨#[122, 122]⟩ : ByteArray), .string (⟨#[65]⟩ : ByteArray)]) (ok := fun _ => True) (okp := fun _ => True) ?hr ?hp (fun _ hk => hk) trivial (Below.refl _ _) (Nat.le_refl _) (by simp) ?_; (case hd => rfl); (case hg => rfl); (case hr => first | (go_simp; done) | (go_simp; rfl)); (case hp => exact (Reps.one (show Kd.M Kd.string _ _ _ (⟨#[]⟩ : ByteArray) [.string (⟨#[]⟩ : ByteArray)] from rfl) (Reps.one (show Kd.M Kd.string _ _ _ (⟨#[122, 122]⟩ : ByteArray) [.string (⟨#[122, 122]⟩ : ByteArray)] from rfl) (Reps.one (show Kd.M Kd.string _ _ _ (⟨#[65]⟩ : ByteArray) [.string (⟨#[65]⟩ : ByteArray)] from rfl) (Reps.none _ _)))))
   intro v449 w66 ho67 hb hg_ hnew_; clear hg_ hnew_
   (first | rw [← Ny448.out] at ho67 | (simp only [Int.reduceToNat] at ho67; rw [← Ny448.out] at ho67) | (simp only [Int.toNat_natCast] at ho67; rw [← Ny448.out] at ho67))
   replace HO421 := am (Kd.R_below (rq HO421.out) hb); replace HO424 := am (Kd.R_below (rq HO424.out) hb)
   have HO450 := am (Kd.R_lower ho67 (keep_size (w := w) (g := g) (row := none) b6_))
   replace BK418 := am (blk_below (g := gb418) (o := .cells #[.slice none 0 0, .slice none 0 0] 25 (0, 0)) (bq BK418.out) hb); replace BK426 := am (blk_below (g := gb426) (o := .cells #[.slice Ao58 t419.length co58, .slice Ao62 t422.length co62] 25 (0, 0)) (bq BK426.out) hb)
   replace HK := am (KeepBut.trans b6_ (KeepBut.of_below hb g none) (.inl rfl))
   replace HB := am (below_step b17_ hb)
   replace HI0 := am (IsS75.below b18_ hb)
   clear hb ho67; obtain ⟨Ao68, co68, eo68⟩ := Kd.R_slice HO450.out
   (first | subst eo68 | (injection eo68 with f1_ f2_ f3_; have f4_ := f1_.symm; have f5_ := f3_.symm; clear f1_ f2_ f3_; subst f4_; subst f5_))
   refine hK.out _ _ ⟨(blk_cell BK426.out 0).trans rfl, (blk_cell BK426.out 1).trans rfl⟩ (fun hHeld => ?_)
   clear hK K
   refine norm_ (a' := ?_) ?_ ?_
   rotate_left
   ·show Act.put _ (some 39) _ = _
    simp only [Act.put, List.setIfInBounds_toArray, List.set_cons_zero, List.set_cons_succ, i64_w, i32_w]
    rfl
   refine on1 4 40 (fun K hK => ?_)
   refine goes_ Tryd.func52 (by kernel_rfl) rfl #[.pointer (some ⟨g, 0, none⟩), .slice Ao68 y448.length co68] (by rfl) rfl rfl mq ?_
   with_reducible refine (spec_l1Rd_of.calls k g s0_0 t428 _ _ y448 t451 t452 w0 _ ?side1 ?side2 ?side3 ?side4 ?side5 A52.out).mono ?_
   (case side1 => repeat (first | (with_reducible first | exact HI0.out | apply IsS75.alloc | apply IsS75.drewN | apply IsS75.drew | apply IsS75.set_1 | refine IsS75.far ?_ NB0_418.out _ | refine IsS75.far ?_ NB0_426.out _) | exact HI0.out)); (case side2 => repeat (first | (with_reducible first | exact HB.out | apply below_alloc | apply pw_below_drewN | apply below_drew1 | refine below_set ?_ (IsS75.ge HI0.out) | refine below_set ?_ GE418.out | refine below_set ?_ GE426.out) | exact HB.out)); (case side3 => exact cq (Kd.R_reads' HO450.out).2.2); (case side4 => exact (Kd.R_reads' HO450.out).2.1); (case side5 => exact far_slice (IsS75.own_ne HI0.out HO450.out (by decide)))
   rintro e w69 ⟨rfl, hi, hb, hk⟩
   refine ⟨_, rfl, ?_⟩
   replace BK418 := am (KeepBut.blk hk (g' := gb418) (o := .cells #[.slice none 0 0, .slice none 0 0] 25 (0, 0)) (bq BK418.out) NB418_0.out (by simp))
   replace HO421 := am (Kd.R_mono (Kd.R_keep (IsS75.apart (show IsS75 w0 _ g s0_0 t428 from by repeat (first | (with_reducible first | exact HI0.out | apply IsS75.alloc | apply IsS75.drewN | apply IsS75.drew | apply IsS75.set_1 | refine IsS75.far ?_ NB0_418.out _ | refine IsS75.far ?_ NB0_426.out _) | exact HI0.out)) (rq HO421.out) (by decide)) hk (fun _ h => h.2)) (fun _ h => h.1))
   replace HO424 := am (Kd.R_mono (Kd.R_keep (IsS75.apart (show IsS75 w0 _ g s0_0 t428 from by repeat (first | (with_reducible first | exact HI0.out | apply IsS75.alloc | apply IsS75.drewN | apply IsS75.drew | apply IsS75.set_1 | refine IsS75.far ?_ NB0_418.out _ | refine IsS75.far ?_ NB0_426.out _) | exact HI0.out)) (rq HO424.out) (by decide)) hk (fun _ h => h.2)) (fun _ h => h.1))
   replace BK426 := am (KeepBut.blk hk (g' := gb426) (o := .cells #[.slice Ao58 t419.length co58, .slice Ao62 t422.length co62] 25 (0, 0)) (bq BK426.out) NB426_0.out (by simp))
   replace HO450 := am (Kd.R_mono (Kd.R_keep (IsS75.apart (show IsS75 w0 _ g s0_0 t428 from by repeat (first | (with_reducible first | exact HI0.out | apply IsS75.alloc | apply IsS75.drewN | apply IsS75.drew | apply IsS75.set_1 | refine IsS75.far ?_ NB0_418.out _ | refine IsS75.far ?_ NB0_426.out _) | exact HI0.out)) (rq HO450.out) (by decide)) hk (fun _ h => h.2)) (fun _ h => h.1))
   replace HK := am (KeepBut.trans b6_ hk (.inl rfl))
   replace HB := am (hb); replace HI0 := am (hi)
   (try clear hb)
   (try clear hb2)
   (try clear hk)
   (try clear hi)
   have p54 : 0 ≤ (0 : Int) := (by omega)
   have q54 : (0 : Int) < ((t422.length : Int) : Int) := of_decide_eq_true ad
   have qi54 : (0 < t422.length) = True := eq_true (by omega)
   obtain ⟨go54, co54, eo54, gb54, gl54, cl54, HG54⟩ := Kd.R_form HO424.out (by omega)
   (first | cases eo54 | (injection eo54 with ea_ en_ ec_; (first | subst ea_ | (injection ea_ with ea_; subst ea_)); subst ec_; clear en_))
   have GB54 := Aside0.mk gb54; have GG54 := am HG54; clear gb54 gl54 HG54; obtain ⟨ce54, hcl54, hM54, hcc54, hfr54⟩ := Kd.R_elem HO424.out z43 (0 : Int) p54 q54; obtain rfl := k43_openM hM54
   have hx54_0 : World.cell? _ ⟨go54, (0 : Int).toNat * 2, none⟩ = some (.string ((rd_T43 t422 0).f0)) := hcc54 0 _ rfl
   have hx54_1 : World.cell? _ ⟨go54, (0 : Int).toNat * 2 + 1, none⟩ = some (.string ((rd_T43 t422 0).f1)) := hcc54 1 _ rfl
   have hf54_0 : World.frozen? _ ⟨go54, (0 : Int).toNat * 2, none⟩ = false := hfr54 0
   have hf54_1 : World.frozen? _ ⟨go54, (0 : Int).toNat * 2 + 1, none⟩ = false := hfr54 1
   clear hcl54 hcc54 hfr54; (try clear hM54)
   (try rw [show ((0 : Int)).toNat = 0 from rfl] at hx54_0)
   (try simp only [Nat.reduceMul, Nat.zero_mul, Nat.zero_add, Nat.reduceAdd] at hx54_0)
   (try rw [show ((0 : Int)).toNat = 0 from rfl] at hf54_0)
   (try simp only [Nat.reduceMul, Nat.zero_mul, Nat.zero_add, Nat.reduceAdd] at hf54_0)
   (try rw [show ((0 : Int)).toNat = 0 from rfl] at hx54_1)
   (try simp only [Nat.reduceMul, Nat.zero_mul, Nat.zero_add, Nat.reduceAdd] at hx54_1)
   (try rw [show ((0 : Int)).toNat = 0 from rfl] at hf54_1)
   (try simp only [Nat.reduceMul, Nat.zero_mul, Nat.zero_add, Nat.reduceAdd] at hf54_1)
   replace p54 := eq_true p54; replace q54 := eq_true q54
   have HN0_go54 := am (show g ≠ go54 from by have h_ := IsS75.own_ne HI0.out HO424.out (by decide); intro e_; exact h_ (by rw [e_]; rfl))
   obtain ⟨ce70, hcl70, hM70, hcc70, hfr70⟩ := Kd.R_elem HO424.out z43 (0 : Int) (by omega) b87_
   obtain rfl := k43_openM hM70
   have HP70 := (Kd.R_seg HO424.out (0 : Int) (by omega) b87_ (seg := [.string t451]) (j := 0) hcl70 hcc70 (show 1 ≤ 2 from by decide) (x' := (⟨t451, (rd_T43 t422 0).f1⟩ : S43)) (k43_mkM _ _ _ (⟨t451, (rd_T43 t422 0).f1⟩ : S43) ) (fun _ hk => hk)).1
   rw [← Ny453.out] at HP70; have HQ70 := am HP70
   clear hcl70 hcc70 hfr70 HP70; (try clear hM70)
   refine hK.out _ _ ⟨(blk_cell BK426.out 0).trans rfl, (blk_cell BK426.out 1).trans rfl⟩ (fun hHeld => ?_)
   clear hK K
   refine norm_ (a' := ?_) ?_ ?_
   rotate_left
   ·show Act.put _ (some 40) _ = _
    simp only [Act.put, List.setIfInBounds_toArray, List.set_cons_zero, List.set_cons_succ, i64_w, i32_w]
    rfl
   refine pu 5 41 ?_
   refine pu 6 42 ?_
   refine last_ (i := 7) (N := none) #[true, true, true, true, true, true, true, true] rfl rfl (one_of HT_.out (by kernel_rfl)) (by decide) (fun K hK => ?_)
   refine skip_ (w1 := ?_) (by rfl) rfl ?_ ?_
   rotate_left
   ·go_simp
    rfl
   refine hK.out _ _ ?_
   clear hK K
   refine done_ (done_of HT_.out (by kernel_rfl)) ?_
   have n0_ : Aside0 (Kd.R k40 40 (w69.setCell ⟨go54, 0, none⟩ (.string t451)) w.heap.size (fun _ => True) (.slice Ao58 t419.length co58) t419) := ⟨rq (Kd.R_mono (Kd.R_far (p := ⟨go54, 0, none⟩) (Kd.R_types HO421.out GG54.out (by decide)) (fun _ hk => hk.2) (.string t451)) (fun _ hk => trivial))⟩
   have n1_ : Aside0 (Kd.R k43 43 (w69.setCell ⟨go54, 0, none⟩ (.string t451)) w.heap.size (fun _ => True) (.slice (some ⟨go54, 0, none⟩) t422.length co62) y453) := ⟨rq HQ70.out⟩
   have n2_ : Aside0 (Kd.R Kd.string 9 (w69.setCell ⟨go54, 0, none⟩ (.string t451)) w.heap.size (fun _ => True) (.slice Ao68 y448.length co68) y448) := ⟨rq (Kd.R_mono (Kd.R_far (p := ⟨go54, 0, none⟩) (Kd.R_types HO450.out GG54.out (by decide)) (fun _ hk => hk.2) (.string t451)) (fun _ hk => trivial))⟩
   have n3_ : Aside0 ((w69.setCell ⟨go54, 0, none⟩ (.string t451)).heap[gb418]? = some (.cells #[.slice none 0 0, .slice none 0 0] 25 (0, 0))) := ⟨by (with_reducible repeat (first | refine blk_drewN ?_ _ | refine blk_drew ?_ | refine blk_alloc ?_ _)); refine blk_far ?_ (by have h_ := Kd.R_ne HO424.out BK418.out (by decide); intro e_; exact h_ (by rw [e_]; rfl)) _; (with_reducible repeat (first | refine blk_drewN ?_ _ | refine blk_drew ?_ | refine blk_alloc ?_ _)); exact BK418.out⟩
   have n4_ : Aside0 ((w69.setCell ⟨go54, 0, none⟩ (.string t451)).heap[gb426]? = some (.cells #[.slice Ao58 t419.length co58, .slice (some ⟨go54, 0, none⟩) t422.length co62] 25 (0, 0))) := ⟨by (with_reducible repeat (first | refine blk_drewN ?_ _ | refine blk_drew ?_ | refine blk_alloc ?_ _)); refine blk_far ?_ (by have h_ := Kd.R_ne HO424.out BK426.out (by decide); intro e_; exact h_ (by rw [e_]; rfl)) _; (with_reducible repeat (first | refine blk_drewN ?_ _ | refine blk_drew ?_ | refine blk_alloc ?_ _)); exact BK426.out⟩
   have n5_ : Aside0 (IsS75 w0 (w69.setCell ⟨go54, 0, none⟩ (.string t451)) g s0_0 t452) := ⟨by repeat (first | (with_reducible first | exact HI0.out | apply IsS75.alloc | apply IsS75.drewN | apply IsS75.drew | apply IsS75.set_1 | refine IsS75.far ?_ HN0_go54.out _ | refine IsS75.far ?_ NB0_418.out _ | refine IsS75.far ?_ NB0_426.out _) | exact HI0.out)⟩
   have n6_ : Aside0 (KeepBut w (w69.setCell ⟨go54, 0, none⟩ (.string t451)) g none) := ⟨by repeat (first | (with_reducible first | exact HK.out | apply KeepBut.set_ | apply keep_drewN | apply keep_drew | apply keep_alloc | refine keep_far ?_ GB54.out _ | refine keep_far ?_ GW418.out _ | refine keep_far ?_ GW426.out _) | exact HK.out)⟩
   have n7_ : Aside0 (Below w0.heap.size w0 (w69.setCell ⟨go54, 0, none⟩ (.string t451))) := ⟨by repeat (first | (with_reducible first | exact HB.out | apply below_alloc | apply pw_below_drewN | apply below_drew1 | refine below_set ?_ (Nat.le_trans HL.out GB54.out) | refine below_set ?_ (IsS75.ge HI0.out) | refine below_set ?_ GE418.out | refine below_set ?_ GE426.out) | exact HB.out)⟩
   (try clear HO421)
   (try clear HO424)
   (try clear HO450)
   (try clear BK418)
   (try clear BK426)
   (try clear HI0)
   (try clear HK)
   (try clear HB)
   generalize (w69.setCell ⟨go54, 0, none⟩ (.string t451)) = w71 at n0_ n1_ n2_ n3_ n4_ n5_ n6_ n7_ ⊢
   have HO421 := n0_; have HO424 := n1_; have HO450 := n2_; have BK418 := n3_; have BK426 := n4_; have HI0 := n5_; have HK := n6_; have HB := n7_; clear n0_ n1_ n2_ n3_ n4_ n5_ n6_ n7_; have hcz72_0 := bc BK426.out 0; have hcz72_1 := bc BK426.out 1; have hfz72_0 := bf BK426.out 0; have hfz72_1 := bf BK426.out 1; have hnb73 := NB418_0.out; have hnc73 := NB0_418.out; have hcz74_0 := bc BK418.out 0; have hcz74_1 := bc BK418.out 1; have hfz74_0 := bf BK418.out 0; have hfz74_1 := bf BK418.out 1
   try go_wp2
   refine bodyPost_ret (results_cell_row rfl _ _ gb418 25 #[.slice Ao58 t419.length co58, .slice (some ⟨go54, 0, none⟩) t422.length co62] (0, 0) _ rfl (by (with_reducible repeat (first | refine blk_drewN ?_ _ | refine blk_drew ?_ | refine blk_alloc ?_ _)); refine blk_put (cs := #[.slice Ao58 t419.length co58, .slice none 0 0]) ?_ 1 _ rfl; (with_reducible repeat (first | refine blk_drewN ?_ _ | refine blk_drew ?_ | refine blk_alloc ?_ _)); refine blk_put (cs := #[.slice none 0 0, .slice none 0 0]) ?_ 0 _ rfl; (with_reducible repeat (first | refine blk_drewN ?_ _ | refine blk_drew ?_ | refine blk_alloc ?_ _)); exact BK418.out) Tryd.underlying25 rfl (by kernel_rfl)) rfl ?_
   exact ⟨_, _, eq_, by (with_reducible repeat (first | apply Kd.R_alloc | apply Kd.R_drewN | apply Kd.R_drew)); exact Kd.R_mono (Kd.R_far (p := ⟨gb418, 1, none⟩) (Kd.R_far (p := ⟨gb418, 0, none⟩) (Kd.R_types HO421.out BK418.out (by decide)) (fun _ hk => hk.2) (.slice Ao58 t419.length co58)) (fun _ hk => hk.2) (.slice (some ⟨go54, 0, none⟩) t422.length co62)) (fun _ hk => trivial), by (with_reducible repeat (first | apply Kd.R_alloc | apply Kd.R_drewN | apply Kd.R_drew)); exact Kd.R_mono (Kd.R_far (p := ⟨gb418, 1, none⟩) (Kd.R_far (p := ⟨gb418, 0, none⟩) (Kd.R_types HO424.out BK418.out (by decide)) (fun _ hk => hk.2) (.slice Ao58 t419.length co58)) (fun _ hk => hk.2) (.slice (some ⟨go54, 0, none⟩) t422.length co62)) (fun _ hk => trivial), b18_, b17_, b6_⟩
  rw [if_neg c51] at H; have c51b0 := decide_eq_false c51
  have c51b1 : decide (0 < t422.length) = false := decide_eq_false (by omega)
  clear c51
  simp only [Option.some.injEq, Prod.mk.injEq] at H
  obtain ⟨rfl, rfl, rfl⟩ := H; go_enter Tryd.func31, Tryd.ntmps31
  go_wp2_with (first | ((with_reducible refine gate_dst (N := 2) rfl ?_); refine bx 2 (cs := #[.slice none 0 0, .slice none 0 0]) (t := 25) ?_; intro gb418 hg w75 hbox hb; replace HB := am (below_step b2_ hb); have BK418 := am (hbox); have GW418 := am ((b4_ : w.heap.size ≤ gb418)); have GE418 := am ((Nat.le_trans HW0.out (b4_ : w.heap.size ≤ gb418) : w0.heap.size ≤ gb418)); replace HK := am (KeepBut.trans b0_ (KeepBut.of_below hb g none) (.inl rfl)); have NB0_418 := am ((b15_ : g ≠ gb418)); have NB418_0 := am ((b16_ : gb418 ≠ g)); replace HI0 := am (IsS75.below b5_ hb); clear hb hbox hg) | ((with_reducible refine gate_callee (f := 38) rfl ?_); refine goesL_ (some 5) rfl rfl Tryd.func38 (by kernel_rfl) rfl #[.pointer (some ⟨g, 0, none⟩)] rfl mq ?_; (with_reducible refine (spec_l13Book.calls k g s0_0 s0_1 t419 t422 t425 w0 _ ?side1 ?side2 A2.out).mono ?_); (case side1 => repeat (first | (with_reducible first | exact HI0.out | apply IsS75.alloc | apply IsS75.drewN | apply IsS75.drew | apply IsS75.set_1 | refine IsS75.far ?_ NB0_418.out _) | exact HI0.out)); (case side2 => repeat (first | (with_reducible first | exact HB.out | apply below_alloc | apply pw_below_drewN | apply below_drew1 | refine below_set ?_ (IsS75.ge HI0.out) | refine below_set ?_ GE418.out) | exact HB.out)); rintro e w76 ⟨v420, v423, rfl, ho0, ho1, hi, hb, hk⟩; refine ⟨_, rfl, ?_⟩; replace BK418 := am (KeepBut.blk hk (g' := gb418) (o := .cells #[.slice none 0 0, .slice none 0 0] 25 (0, 0)) (bq BK418.out) NB418_0.out (by simp)); have HO421 := am (Kd.R_lower ho0 (keep_size (w := w) (g := g) (row := none) b7_)); have HO424 := am (Kd.R_lower ho1 (keep_size (w := w) (g := g) (row := none) b7_)); replace HK := am (KeepBut.trans b7_ hk (.inl rfl)); replace HB := am (hb); replace HI0 := am (hi); (try clear hb); (try clear hb2); (try clear hk); (try clear hi); (try clear ho0); (try clear ho1)) | ((with_reducible refine gate_dst (N := 3) rfl ?_); refine bx 3 (cs := #[.slice none 0 0, .slice none 0 0]) (t := 25) ?_; intro gb426 hg w77 hbox hb; replace HO421 := am (Kd.R_below (rq HO421.out) hb); replace HO424 := am (Kd.R_below (rq HO424.out) hb); replace HB := am (below_step b52_ hb); have BK426 := am (hbox); have GW426 := am ((b21_ : w.heap.size ≤ gb426)); have GE426 := am ((Nat.le_trans HW0.out (b21_ : w.heap.size ≤ gb426) : w0.heap.size ≤ gb426)); replace HK := am (KeepBut.trans b7_ (KeepBut.of_below hb g none) (.inl rfl)); have NB418_426 := am ((b66_ : gb418 ≠ gb426)); have NB426_418 := am ((b67_ : gb426 ≠ gb418)); replace BK418 := am (blk_below (g := gb418) (o := .cells #[.slice none 0 0, .slice none 0 0] 25 (0, 0)) (bq BK418.out) hb); have NB0_426 := am ((b40_ : g ≠ gb426)); have NB426_0 := am ((b41_ : gb426 ≠ g)); replace HI0 := am (IsS75.below b55_ hb); clear hb hbox hg; obtain ⟨Ao78, co78, eo78⟩ := Kd.R_slice HO421.out; subst eo78; have hnb79 := NB426_418.out; have hnc79 := NB418_426.out; have hnb80 := NB426_0.out; have hnc80 := NB0_426.out; have hcz81_0 := bc BK426.out 0; have hcz81_1 := bc BK426.out 1; have hfz81_0 := bf BK426.out 0; have hfz81_1 := bf BK426.out 1; obtain ⟨Ao82, co82, eo82⟩ := Kd.R_slice HO424.out; subst eo82) | ((with_reducible refine gate_callee (f := 49) rfl ?_); refine goesL_ (some 7) rfl rfl Tryd.func49 (by kernel_rfl) rfl #[.pointer (some ⟨g, 0, none⟩), .int .i64 16] rfl mq ?_; (with_reducible refine (spec_l1Rd_pick.calls k g s0_0 t425 16 t427 t428 w0 _ ?side1 ?side2 A3.out).mono ?_); (case side1 => repeat (first | (with_reducible first | exact HI0.out | apply IsS75.alloc | apply IsS75.drewN | apply IsS75.drew | apply IsS75.set_1 | refine IsS75.far ?_ NB0_418.out _ | refine IsS75.far ?_ NB0_426.out _) | exact HI0.out)); (case side2 => repeat (first | (with_reducible first | exact HB.out | apply below_alloc | apply pw_below_drewN | apply below_drew1 | refine below_set ?_ (IsS75.ge HI0.out) | refine below_set ?_ GE418.out | refine below_set ?_ GE426.out) | exact HB.out)); rintro e w83 ⟨rfl, hi, hb, hk⟩; refine ⟨_, rfl, ?_⟩; replace BK418 := am (KeepBut.blk hk (g' := gb418) (o := .cells #[.slice none 0 0, .slice none 0 0] 25 (0, 0)) b26_ NB418_0.out (by simp)); replace HO421 := am (Kd.R_mono (Kd.R_keep (IsS75.apart (show IsS75 w0 _ g s0_0 t425 from by repeat (first | (with_reducible first | exact HI0.out | apply IsS75.alloc | apply IsS75.drewN | apply IsS75.drew | apply IsS75.set_1 | refine IsS75.far ?_ NB0_418.out _ | refine IsS75.far ?_ NB0_426.out _) | exact HI0.out)) (rq ((Kd.R_mono (Kd.R_far (p := ⟨gb426, 1, none⟩) (Kd.R_far (p := ⟨gb426, 0, none⟩) (Kd.R_types HO421.out BK426.out (by decide)) (fun _ hk => hk.2) (.slice Ao78 t419.length co78)) (fun _ hk => hk.2) (.slice Ao82 t422.length co82)) (fun _ h_ => h_.1)))) (by decide)) hk (fun _ h => h.2)) (fun _ h => h.1)); replace HO424 := am (Kd.R_mono (Kd.R_keep (IsS75.apart (show IsS75 w0 _ g s0_0 t425 from by repeat (first | (with_reducible first | exact HI0.out | apply IsS75.alloc | apply IsS75.drewN | apply IsS75.drew | apply IsS75.set_1 | refine IsS75.far ?_ NB0_418.out _ | refine IsS75.far ?_ NB0_426.out _) | exact HI0.out)) (rq ((Kd.R_mono (Kd.R_far (p := ⟨gb426, 1, none⟩) (Kd.R_far (p := ⟨gb426, 0, none⟩) (Kd.R_types HO424.out BK426.out (by decide)) (fun _ hk => hk.2) (.slice Ao78 t419.length co78)) (fun _ hk => hk.2) (.slice Ao82 t422.length co82)) (fun _ h_ => h_.1)))) (by decide)) hk (fun _ h => h.2)) (fun _ h => h.1)); replace BK426 := am (KeepBut.blk hk (g' := gb426) (o := .cells #[.slice Ao78 t419.length co78, .slice Ao82 t422.length co82] 25 (0, 0)) (by (with_reducible repeat (first | refine blk_drewN ?_ _ | refine blk_drew ?_ | refine blk_alloc ?_ _)); refine blk_put (cs := #[.slice Ao78 t419.length co78, .slice none 0 0]) ?_ 1 _ rfl; (with_reducible repeat (first | refine blk_drewN ?_ _ | refine blk_drew ?_ | refine blk_alloc ?_ _)); refine blk_put (cs := #[.slice none 0 0, .slice none 0 0]) ?_ 0 _ rfl; (with_reducible repeat (first | refine blk_drewN ?_ _ | refine blk_drew ?_ | refine blk_alloc ?_ _)); exact BK426.out) NB426_0.out (by simp)); replace HK := am (KeepBut.trans b6_ hk (.inl rfl)); replace HB := am (hb); replace HI0 := am (hi); (try clear hb); (try clear hb2); (try clear hk); (try clear hi); have hcz84_0 := bc BK426.out 0; have hcz84_1 := bc BK426.out 1; have hfz84_0 := bf BK426.out 0; have hfz84_1 := bf BK426.out 1; have hnb85 := NB418_0.out; have hnc85 := NB0_418.out; have hcz86_0 := bc BK418.out 0; have hcz86_1 := bc BK418.out 1; have hfz86_0 := bf BK418.out 0; have hfz86_1 := bf BK418.out 1))
  refine bodyPost_ret (results_cell_row rfl _ _ gb418 25 #[.slice Ao78 t419.length co78, .slice Ao82 t422.length co82] (0, 0) _ rfl (by (with_reducible repeat (first | refine blk_drewN ?_ _ | refine blk_drew ?_ | refine blk_alloc ?_ _)); refine blk_put (cs := #[.slice Ao78 t419.length co78, .slice none 0 0]) ?_ 1 _ rfl; (with_reducible repeat (first | refine blk_drewN ?_ _ | refine blk_drew ?_ | refine blk_alloc ?_ _)); refine blk_put (cs := #[.slice none 0 0, .slice none 0 0]) ?_ 0 _ rfl; (with_reducible repeat (first | refine blk_drewN ?_ _ | refine blk_drew ?_ | refine blk_alloc ?_ _)); exact BK418.out) Tryd.underlying25 rfl (by kernel_rfl)) rfl ?_
  exact ⟨_, _, eq_, by (with_reducible repeat (first | apply Kd.R_alloc | apply Kd.R_drewN | apply Kd.R_drew)); exact Kd.R_mono (Kd.R_far (p := ⟨gb418, 1, none⟩) (Kd.R_far (p := ⟨gb418, 0, none⟩) (Kd.R_types HO421.out BK418.out (by decide)) (fun _ hk => hk.2) (.slice Ao78 t419.length co78)) (fun _ hk => hk.2) (.slice Ao82 t422.length co82)) (fun _ hk => trivial), by (with_reducible repeat (first | apply Kd.R_alloc | apply Kd.R_drewN | apply Kd.R_drew)); exact Kd.R_mono (Kd.R_far (p := ⟨gb418, 1, none⟩) (Kd.R_far (p := ⟨gb418, 0, none⟩) (Kd.R_types HO424.out BK418.out (by decide)) (fun _ hk => hk.2) (.slice Ao78 t419.length co78)) (fun _ hk => hk.2) (.slice Ao82 t422.length co82)) (fun _ hk => trivial), b18_, b17_, b6_⟩
 rw [if_neg c50] at H
 have c50b0 : (t427 == 2) = false := beq_eq_false_iff_ne.mpr c50
 have c50b1 : (t427 != 2) = true := bne_iff_ne.mpr c50
 simp only [Option.some.injEq, Prod.mk.injEq] at H
 obtain ⟨rfl, rfl, rfl⟩ := H; go_enter Tryd.func31, Tryd.ntmps31
 go_wp2_with (first | ((with_reducible refine gate_dst (N := 2) rfl ?_); refine bx 2 (cs := #[.slice none 0 0, .slice none 0 0]) (t := 25) ?_; intro gb418 hg w87 hbox hb; replace HB := am (below_step b2_ hb); have BK418 := am (hbox); have GW418 := am ((b4_ : w.heap.size ≤ gb418)); have GE418 := am ((Nat.le_trans HW0.out (b4_ : w.heap.size ≤ gb418) : w0.heap.size ≤ gb418)); replace HK := am (KeepBut.trans b0_ (KeepBut.of_below hb g none) (.inl rfl)); have NB0_418 := am ((b15_ : g ≠ gb418)); have NB418_0 := am ((b16_ : gb418 ≠ g)); replace HI0 := am (IsS75.below b5_ hb); clear hb hbox hg) | ((with_reducible refine gate_callee (f := 38) rfl ?_); refine goesL_ (some 5) rfl rfl Tryd.func38 (by kernel_rfl) rfl #[.pointer (some ⟨g, 0, none⟩)] rfl mq ?_; (with_reducible refine (spec_l13Book.calls k g s0_0 s0_1 t419 t422 t425 w0 _ ?side1 ?side2 A2.out).mono ?_); (case side1 => repeat (first | (with_reducible first | exact HI0.out | apply IsS75.alloc | apply IsS75.drewN | apply IsS75.drew | apply IsS75.set_1 | refine IsS75.far ?_ NB0_418.out _) | exact HI0.out)); (case side2 => repeat (first | (with_reducible first | exact HB.out | apply below_alloc | apply pw_below_drewN | apply below_drew1 | refine below_set ?_ (IsS75.ge HI0.out) | refine below_set ?_ GE418.out) | exact HB.out)); rintro e w88 ⟨v420, v423, rfl, ho0, ho1, hi, hb, hk⟩; refine ⟨_, rfl, ?_⟩; replace BK418 := am (KeepBut.blk hk (g' := gb418) (o := .cells #[.slice none 0 0, .slice none 0 0] 25 (0, 0)) (bq BK418.out) NB418_0.out (by simp)); have HO421 := am (Kd.R_lower ho0 (keep_size (w := w) (g := g) (row := none) b7_)); have HO424 := am (Kd.R_lower ho1 (keep_size (w := w) (g := g) (row := none) b7_)); replace HK := am (KeepBut.trans b7_ hk (.inl rfl)); replace HB := am (hb); replace HI0 := am (hi); (try clear hb); (try clear hb2); (try clear hk); (try clear hi); (try clear ho0); (try clear ho1)) | ((with_reducible refine gate_dst (N := 3) rfl ?_); refine bx 3 (cs := #[.slice none 0 0, .slice none 0 0]) (t := 25) ?_; intro gb426 hg w89 hbox hb; replace HO421 := am (Kd.R_below (rq HO421.out) hb); replace HO424 := am (Kd.R_below (rq HO424.out) hb); replace HB := am (below_step b52_ hb); have BK426 := am (hbox); have GW426 := am ((b21_ : w.heap.size ≤ gb426)); have GE426 := am ((Nat.le_trans HW0.out (b21_ : w.heap.size ≤ gb426) : w0.heap.size ≤ gb426)); replace HK := am (KeepBut.trans b7_ (KeepBut.of_below hb g none) (.inl rfl)); have NB418_426 := am ((b66_ : gb418 ≠ gb426)); have NB426_418 := am ((b67_ : gb426 ≠ gb418)); replace BK418 := am (blk_below (g := gb418) (o := .cells #[.slice none 0 0, .slice none 0 0] 25 (0, 0)) (bq BK418.out) hb); have NB0_426 := am ((b40_ : g ≠ gb426)); have NB426_0 := am ((b41_ : gb426 ≠ g)); replace HI0 := am (IsS75.below b55_ hb); clear hb hbox hg; obtain ⟨Ao90, co90, eo90⟩ := Kd.R_slice HO421.out; subst eo90; have hnb91 := NB426_418.out; have hnc91 := NB418_426.out; have hnb92 := NB426_0.out; have hnc92 := NB0_426.out; have hcz93_0 := bc BK426.out 0; have hcz93_1 := bc BK426.out 1; have hfz93_0 := bf BK426.out 0; have hfz93_1 := bf BK426.out 1; obtain ⟨Ao94, co94, eo94⟩ := Kd.R_slice HO424.out; subst eo94) | ((with_reducible refine gate_callee (f := 49) rfl ?_); refine goesL_ (some 7) rfl rfl Tryd.func49 (by kernel_rfl) rfl #[.pointer (some ⟨g, 0, none⟩), .int .i64 16] rfl mq ?_; (with_reducible refine (spec_l1Rd_pick.calls k g s0_0 t425 16 t427 t428 w0 _ ?side1 ?side2 A3.out).mono ?_); (case side1 => repeat (first | (with_reducible first | exact HI0.out | apply IsS75.alloc | apply IsS75.drewN | apply IsS75.drew | apply IsS75.set_1 | refine IsS75.far ?_ NB0_418.out _ | refine IsS75.far ?_ NB0_426.out _) | exact HI0.out)); (case side2 => repeat (first | (with_reducible first | exact HB.out | apply below_alloc | apply pw_below_drewN | apply below_drew1 | refine below_set ?_ (IsS75.ge HI0.out) | refine below_set ?_ GE418.out | refine below_set ?_ GE426.out) | exact HB.out)); rintro e w95 ⟨rfl, hi, hb, hk⟩; refine ⟨_, rfl, ?_⟩; replace BK418 := am (KeepBut.blk hk (g' := gb418) (o := .cells #[.slice none 0 0, .slice none 0 0] 25 (0, 0)) b26_ NB418_0.out (by simp)); replace HO421 := am (Kd.R_mono (Kd.R_keep (IsS75.apart (show IsS75 w0 _ g s0_0 t425 from by repeat (first | (with_reducible first | exact HI0.out | apply IsS75.alloc | apply IsS75.drewN | apply IsS75.drew | apply IsS75.set_1 | refine IsS75.far ?_ NB0_418.out _ | refine IsS75.far ?_ NB0_426.out _) | exact HI0.out)) (rq ((Kd.R_mono (Kd.R_far (p := ⟨gb426, 1, none⟩) (Kd.R_far (p := ⟨gb426, 0, none⟩) (Kd.R_types HO421.out BK426.out (by decide)) (fun _ hk => hk.2) (.slice Ao90 t419.length co90)) (fun _ hk => hk.2) (.slice Ao94 t422.length co94)) (fun _ h_ => h_.1)))) (by decide)) hk (fun _ h => h.2)) (fun _ h => h.1)); replace HO424 := am (Kd.R_mono (Kd.R_keep (IsS75.apart (show IsS75 w0 _ g s0_0 t425 from by repeat (first | (with_reducible first | exact HI0.out | apply IsS75.alloc | apply IsS75.drewN | apply IsS75.drew | apply IsS75.set_1 | refine IsS75.far ?_ NB0_418.out _ | refine IsS75.far ?_ NB0_426.out _) | exact HI0.out)) (rq ((Kd.R_mono (Kd.R_far (p := ⟨gb426, 1, none⟩) (Kd.R_far (p := ⟨gb426, 0, none⟩) (Kd.R_types HO424.out BK426.out (by decide)) (fun _ hk => hk.2) (.slice Ao90 t419.length co90)) (fun _ hk => hk.2) (.slice Ao94 t422.length co94)) (fun _ h_ => h_.1)))) (by decide)) hk (fun _ h => h.2)) (fun _ h => h.1)); replace BK426 := am (KeepBut.blk hk (g' := gb426) (o := .cells #[.slice Ao90 t419.length co90, .slice Ao94 t422.length co94] 25 (0, 0)) (by (with_reducible repeat (first | refine blk_drewN ?_ _ | refine blk_drew ?_ | refine blk_alloc ?_ _)); refine blk_put (cs := #[.slice Ao90 t419.length co90, .slice none 0 0]) ?_ 1 _ rfl; (with_reducible repeat (first | refine blk_drewN ?_ _ | refine blk_drew ?_ | refine blk_alloc ?_ _)); refine blk_put (cs := #[.slice none 0 0, .slice none 0 0]) ?_ 0 _ rfl; (with_reducible repeat (first | refine blk_drewN ?_ _ | refine blk_drew ?_ | refine blk_alloc ?_ _)); exact BK426.out) NB426_0.out (by simp)); replace HK := am (KeepBut.trans b6_ hk (.inl rfl)); replace HB := am (hb); replace HI0 := am (hi); (try clear hb); (try clear hb2); (try clear hk); (try clear hi); have hcz96_0 := bc BK426.out 0; have hcz96_1 := bc BK426.out 1; have hfz96_0 := bf BK426.out 0; have hfz96_1 := bf BK426.out 1; have hnb97 := NB418_0.out; have hnc97 := NB0_418.out; have hcz98_0 := bc BK418.out 0; have hcz98_1 := bc BK418.out 1; have hfz98_0 := bf BK418.out 0; have hfz98_1 := bf BK418.out 1))
 refine bodyPost_ret (results_cell_row rfl _ _ gb418 25 #[.slice Ao90 t419.length co90, .slice Ao94 t422.length co94] (0, 0) _ rfl (by (with_reducible repeat (first | refine blk_drewN ?_ _ | refine blk_drew ?_ | refine blk_alloc ?_ _)); refine blk_put (cs := #[.slice Ao90 t419.length co90, .slice none 0 0]) ?_ 1 _ rfl; (with_reducible repeat (first | refine blk_drewN ?_ _ | refine blk_drew ?_ | refine blk_alloc ?_ _)); refine blk_put (cs := #[.slice none 0 0, .slice none 0 0]) ?_ 0 _ rfl; (with_reducible repeat (first | refine blk_drewN ?_ _ | refine blk_drew ?_ | refine blk_alloc ?_ _)); exact BK418.out) Tryd.underlying25 rfl (by kernel_rfl)) rfl ?_
 exact ⟨_, _, eq_, by (with_reducible repeat (first | apply Kd.R_alloc | apply Kd.R_drewN | apply Kd.R_drew)); exact Kd.R_mono (Kd.R_far (p := ⟨gb418, 1, none⟩) (Kd.R_far (p := ⟨gb418, 0, none⟩) (Kd.R_types HO421.out BK418.out (by decide)) (fun _ hk => hk.2) (.slice Ao90 t419.length co90)) (fun _ hk => hk.2) (.slice Ao94 t422.length co94)) (fun _ hk => trivial), by (with_reducible repeat (first | apply Kd.R_alloc | apply Kd.R_drewN | apply Kd.R_drew)); exact Kd.R_mono (Kd.R_far (p := ⟨gb418, 1, none⟩) (Kd.R_far (p := ⟨gb418, 0, none⟩) (Kd.R_types HO424.out BK418.out (by decide)) (fun _ hk => hk.2) (.slice Ao90 t419.length co90)) (fun _ hk => hk.2) (.slice Ao94 t422.length co94)) (fun _ hk => trivial), b18_, b17_, b6_⟩
-- shrunk

attribute [local go_sem high] eqA40 eqA43
/-! ### spec_l1Open: function 32 -/
def spec_l1Open.f (l0 : List Int) : Option (List Int × Int) := if (l0.length : Int) > 2000 then (if 2000 ≤ (l0.length : Int) then (some (l0.take 2000, 0)) else (none)) else (some (l0, 0))
theorem spec_l1Open.calls (A0 : Option Addr) (c0 : Nat) (l0 : List Int) (r1 : List Int) (r2 : Int) (w0 w : World) (hB : Below w0.heap.size w0 w) (hr0 : Kd.C (Kd.int .u8) w0 A0 l0.length l0) (hc0 : l0.length ≤ c0) (h : spec_l1Open.f l0 = some (r1, r2)) :
  Calls Tryd.prog 32 #[.slice A0 l0.length c0] w fun e w' => ∃ g_ : Nat, e = .returned (.pointer (some ⟨g_, 0, none⟩)) ∧ IsS75 w0 w' g_ r1 r2 ∧ Below w0.heap.size w0 w' ∧ Below w.heap.size w w' := by
 have hu75 := Tryd.underlying75; have HR0 := am hr0; have HC0 := am hc0; clear hr0 hc0; have HBW := am (Below.refl w.heap.size w); have HW0 := am hB.size; have HB := am hB; clear hB
 have H : (if (l0.length : Int) > 2000 then (if 2000 ≤ (l0.length : Int) then (some (l0.take 2000, 0)) else (none)) else (some (l0, 0))) = some (r1, r2) := h
 clear h
 by_cases c2 : (l0.length : Int) > 2000
 ·rw [if_pos c2] at H; have c2b0 := decide_eq_true c2
  have c2b1 : decide (2000 < l0.length) = true := decide_eq_true (by omega)
  clear c2
  replace H := ip H; obtain ⟨c3, H⟩ := H; have c3b0 := eq_true c3
  have c3b1 : decide (2000 ≤ (l0.length : Int)) = true := decide_eq_true c3
  clear c3
  simp only [Option.some.injEq, Prod.mk.injEq] at H
  obtain ⟨rfl, rfl⟩ := H; obtain ⟨i04, hi04, _, hsz4, _⟩ := info_parts info5
  obtain ⟨hcut4, hA4, hC4⟩ := print_take_of (P := Tryd.prog) (Value.int .u8) 0 31 5 .i64 Tryd.underlying31 hi04 hsz4 A0 c0 l0 2000 (by omega) (of_decide_eq_true ad) HC0.out
  have HR454 := am (Kd.C_of_reads (h1 := fun _ => rfl) (hA4 _ (Kd.reads_of_C HR0.out))); have HC454 := am hC4; clear hA4 hC4 hi04 hsz4; go_enter Tryd.func32, Tryd.ntmps32
  go_wp2_with (first | ((with_reducible refine gate_dst (N := 10) rfl ?_); refine bx 10 (cs := #[.slice A0 (l0.take 2000).length c0, .int .i64 0]) (t := 75) ?_; intro gb455 hg w5 hbox hb; replace HB := am (below_step bel hb); have BK455 := am (hbox); have GW455 := am ((b64_ : w.heap.size ≤ gb455)); have GE455 := am ((Nat.le_trans HW0.out (b64_ : w.heap.size ≤ gb455) : w0.heap.size ≤ gb455)); replace HBW := am (below_step HBW.out hb); clear hb hbox hg))
  go_ret
  exact ⟨_, rfl, (show IsS75 w0 _ gb455 (l0.take 2000) 0 from ⟨_, _, by (with_reducible repeat (first | refine blk_drewN ?_ _ | refine blk_drew ?_ | refine blk_alloc ?_ _)); exact BK455.out, GE455.out, HR454.out⟩), bel1 GE455.out, by repeat (first | (with_reducible first | exact HBW.out | apply below_alloc | apply pw_below_drewN | apply below_drew1 | refine below_set ?_ GW455.out) | exact HBW.out)⟩
 rw [if_neg c2] at H; have c2b0 := decide_eq_false c2
 have c2b1 : decide (2000 < l0.length) = false := decide_eq_false (by omega)
 clear c2
 simp only [Option.some.injEq, Prod.mk.injEq] at H
 obtain ⟨rfl, rfl⟩ := H; go_enter Tryd.func32, Tryd.ntmps32
 go_wp2_with (first | ((with_reducible refine gate_dst (N := 10) rfl ?_); refine bx 10 (cs := #[.slice A0 l0.length c0, .int .i64 0]) (t := 75) ?_; intro gb456 hg w6 hbox hb; replace HB := am (below_step bel hb); have BK456 := am (hbox); have GW456 := am ((b64_ : w.heap.size ≤ gb456)); have GE456 := am ((Nat.le_trans HW0.out (b64_ : w.heap.size ≤ gb456) : w0.heap.size ≤ gb456)); replace HBW := am (below_step HBW.out hb); clear hb hbox hg))
 go_ret
 exact ⟨_, rfl, (show IsS75 w0 _ gb456 l0 0 from ⟨_, _, by (with_reducible repeat (first | refine blk_drewN ?_ _ | refine blk_drew ?_ | refine blk_alloc ?_ _)); exact BK456.out, GE456.out, HR0.out⟩), bel1 GE456.out, by repeat (first | (with_reducible first | exact HBW.out | apply below_alloc | apply pw_below_drewN | apply below_drew1 | refine below_set ?_ GW456.out) | exact HBW.out)⟩

/-! ### spec_DrawBookPut: function 10 -/
def spec_DrawBookPut.f (k : Nat) (l0 : List Int) : Option ((List (S40)) × (List (S43))) := (spec_l1Open.f l0).bind fun bt458 => ((spec_l13AnyBook.f k bt458.1 bt458.2).bind fun bt461 => (some (bt461.1, bt461.2.1)))
theorem spec_DrawBookPut.calls (k : Nat) (A0 : Option Addr) (c0 : Nat) (l0 : List Int) (r1 : List (S40)) (r2 : List (S43)) (w : World) (hr0 : Kd.C (Kd.int .u8) w A0 l0.length l0) (hc0 : l0.length ≤ c0) (h : spec_DrawBookPut.f k l0 = some (r1, r2)) :
  Calls Tryd.prog 10 #[.slice A0 l0.length c0] w fun e w' => ∃ v0_ v1_ : Value, e = .returned (.agg #[v0_, v1_]) ∧ Kd.R k40 40 w' w.heap.size (fun _ => True) v0_ r1 ∧ Kd.R k43 43 w' w.heap.size (fun _ => True) v1_ r2 ∧ Below w.heap.size w w' := by
 have hu25 := Tryd.underlying25; have HR0 := am hr0; have HC0 := am hc0; clear hr0 hc0; have HB := am (Below.refl w.heap.size w)
 have H : ((spec_l1Open.f l0).bind fun bt458 => ((spec_l13AnyBook.f k bt458.1 bt458.2).bind fun bt461 => (some (bt461.1, bt461.2.1)))) = some (r1, r2) := h
 clear h; replace H := bs H; obtain ⟨⟨t458, t459⟩, A20, H⟩ := H; replace H : ((spec_l13AnyBook.f k t458 t459).bind fun bt461 => (some (bt461.1, bt461.2.1))) = some (r1, r2) := H; have A2 := Aside0.mk A20; clear A20; replace H := bs H; obtain ⟨⟨t461, t464, t467⟩, A30, H⟩ := H; replace H : (some (t461, t464)) = some (r1, r2) := H; have A3 := Aside0.mk A30; clear A30
 simp only [Option.some.injEq, Prod.mk.injEq] at H
 obtain ⟨rfl, rfl⟩ := H; go_enter Tryd.func10, Tryd.ntmps10
 go_wp2_with (first | ((with_reducible refine gate_dst (N := 2) rfl ?_); refine bx 2 (cs := #[.slice none 0 0, .slice none 0 0]) (t := 25) ?_; intro gb457 hg w4 hbox hb; have BK457 := am (hbox); have GW457 := am ((b19_ : w.heap.size ≤ gb457)); have GE457 := am ((b19_ : w.heap.size ≤ gb457)); replace HB := am (below_step bel hb); clear hb hbox hg) | ((with_reducible refine gate_callee (f := 32) rfl ?_); refine goesL_ (some 4) rfl rfl Tryd.func32 (by kernel_rfl) rfl #[.slice A0 l0.length c0] rfl mq ?_; (with_reducible refine (spec_l1Open.calls _ _ l0 t458 t459 w _ ?side1 ?side2 ?side3 A2.out).mono ?_); (case side1 => repeat (first | (with_reducible first | exact HB.out | apply below_alloc | apply pw_below_drewN | apply below_drew1 | refine below_set ?_ GE457.out) | exact HB.out)); (case side2 => exact HR0.out); (case side3 => exact HC0.out); rintro e w5 ⟨g460, rfl, hi, hb, hb2⟩; refine ⟨_, rfl, ?_⟩; replace HB := am (hb); have HI460 := am (hi); have NB460_457 := am (IsS75.ne_blk hi (blk_below (g := gb457) (o := .cells #[.slice none 0 0, .slice none 0 0] 25 (0, 0)) (bq BK457.out) hb2) (by decide)); have NB457_460 := am (Ne.symm (IsS75.ne_blk hi (blk_below (g := gb457) (o := .cells #[.slice none 0 0, .slice none 0 0] 25 (0, 0)) (bq BK457.out) hb2) (by decide))); replace BK457 := am (blk_below (g := gb457) (o := .cells #[.slice none 0 0, .slice none 0 0] 25 (0, 0)) (bq BK457.out) hb2); (try clear hb); (try clear hb2); (try clear hk); (try clear hi)) | ((with_reducible refine gate_callee (f := 31) rfl ?_); refine goesL_ (some 5) rfl rfl Tryd.func31 (by kernel_rfl) rfl #[.pointer (some ⟨g460, 0, none⟩)] rfl mq ?_; (with_reducible refine (spec_l13AnyBook.calls k g460 t458 t459 t461 t464 t467 w _ ?side1 ?side2 A3.out).mono ?_); (case side1 => repeat (first | (with_reducible first | exact HI460.out | apply IsS75.alloc | apply IsS75.drewN | apply IsS75.drew | apply IsS75.set_1 | refine IsS75.far ?_ NB460_457.out _) | exact HI460.out)); (case side2 => repeat (first | (with_reducible first | exact HB.out | apply below_alloc | apply pw_below_drewN | apply below_drew1 | refine below_set ?_ (IsS75.ge HI460.out) | refine below_set ?_ GE457.out) | exact HB.out)); rintro e w6 ⟨v462, v465, rfl, ho0, ho1, hi, hb, hk⟩; refine ⟨_, rfl, ?_⟩; replace BK457 := am (KeepBut.blk hk (g' := gb457) (o := .cells #[.slice none 0 0, .slice none 0 0] 25 (0, 0)) (bq BK457.out) NB457_460.out (by simp)); have HO463 := am (Kd.R_lower ho0 (below_size b65_)); have HO466 := am (Kd.R_lower ho1 (below_size b65_)); replace HB := am (hb); replace HI460 := am (hi); (try clear hb); (try clear hb2); (try clear hk); (try clear hi); (try clear ho0); (try clear ho1); obtain ⟨Ao7, co7, eo7⟩ := Kd.R_slice HO463.out; subst eo7; have hnb8 := NB457_460.out; have hnc8 := NB460_457.out; have hcz9_0 := bc BK457.out 0; have hcz9_1 := bc BK457.out 1; have hfz9_0 := bf BK457.out 0; have hfz9_1 := bf BK457.out 1; obtain ⟨Ao10, co10, eo10⟩ := Kd.R_slice HO466.out; subst eo10))
 refine bodyPost_ret (results_cell_row rfl _ _ gb457 25 #[.slice Ao7 t461.length co7, .slice Ao10 t464.length co10] (0, 0) _ rfl (by (with_reducible repeat (first | refine blk_drewN ?_ _ | refine blk_drew ?_ | refine blk_alloc ?_ _)); refine blk_put (cs := #[.slice Ao7 t461.length co7, .slice none 0 0]) ?_ 1 _ rfl; (with_reducible repeat (first | refine blk_drewN ?_ _ | refine blk_drew ?_ | refine blk_alloc ?_ _)); refine blk_put (cs := #[.slice none 0 0, .slice none 0 0]) ?_ 0 _ rfl; (with_reducible repeat (first | refine blk_drewN ?_ _ | refine blk_drew ?_ | refine blk_alloc ?_ _)); exact BK457.out) Tryd.underlying25 rfl (by kernel_rfl)) rfl ?_
 exact ⟨_, _, eq_, by (with_reducible repeat (first | apply Kd.R_alloc | apply Kd.R_drewN | apply Kd.R_drew)); exact Kd.R_mono (Kd.R_far (p := ⟨gb457, 1, none⟩) (Kd.R_far (p := ⟨gb457, 0, none⟩) (Kd.R_types HO463.out BK457.out (by decide)) (fun _ hk => hk.2) (.slice Ao7 t461.length co7)) (fun _ hk => hk.2) (.slice Ao10 t464.length co10)) (fun _ hk => trivial), by (with_reducible repeat (first | apply Kd.R_alloc | apply Kd.R_drewN | apply Kd.R_drew)); exact Kd.R_mono (Kd.R_far (p := ⟨gb457, 1, none⟩) (Kd.R_far (p := ⟨gb457, 0, none⟩) (Kd.R_types HO466.out BK457.out (by decide)) (fun _ hk => hk.2) (.slice Ao7 t461.length co7)) (fun _ hk => hk.2) (.slice Ao10 t464.length co10)) (fun _ hk => trivial), b65_⟩

/-! ### spec_BookPut: function 12 -/
def spec_BookPut.f (k : Nat) (l0_0 : List (S40)) (l0_1 : List (S43)) : Option (ByteArray) := (spec_BookOk.f k l0_0 l0_1).bind fun t469 => (if t469 = true then ((spec_l2Put.f k l0_0 l0_1).bind fun t470 => (some t470)) else (some (⟨#[]⟩ : ByteArray)))
theorem spec_BookPut.calls (k : Nat) (A0_0 : Option Addr) (c0_0 : Nat) (l0_0 : List (S40)) (A0_1 : Option Addr) (c0_1 : Nat) (l0_1 : List (S43)) (r : ByteArray) (w : World) (hr0_0 : Kd.C k40 w A0_0 l0_0.length l0_0) (hc0_0 : l0_0.length ≤ c0_0) (hr0_1 : Kd.C k43 w A0_1 l0_1.length l0_1) (hc0_1 : l0_1.length ≤ c0_1) (h : spec_BookPut.f k l0_0 l0_1 = some r) :
  Calls Tryd.prog 12 #[.agg #[.slice A0_0 l0_0.length c0_0, .slice A0_1 l0_1.length c0_1]] w fun e w' => e = .returned (.string r) ∧ Below w.heap.size w w' := by
 have hu25 := Tryd.underlying25; have HR0_0 := am hr0_0; have HC0_0 := am hc0_0; clear hr0_0 hc0_0; have HR0_1 := am hr0_1; have HC0_1 := am hc0_1; clear hr0_1 hc0_1; have HB := am (Below.refl w.heap.size w)
 have H : ((spec_BookOk.f k l0_0 l0_1).bind fun t469 => (if t469 = true then ((spec_l2Put.f k l0_0 l0_1).bind fun t470 => (some t470)) else (some (⟨#[]⟩ : ByteArray)))) = some r := h
 clear h; replace H := bs H; obtain ⟨t469, A20, H⟩ := H; replace H : (if t469 = true then ((spec_l2Put.f k l0_0 l0_1).bind fun t470 => (some t470)) else (some (⟨#[]⟩ : ByteArray))) = some r := H; have A2 := Aside0.mk A20; clear A20
 by_cases c3 : t469 = true
 ·subst c3
  have H1 : ((spec_l2Put.f k l0_0 l0_1).bind fun t470 => (some t470)) = some r := b47_
  replace H := H1; clear H1
  replace H := bs H; obtain ⟨t470, A40, H⟩ := H; replace H : (some t470) = some r := H; have A4 := Aside0.mk A40; clear A40; obtain rfl := Option.some.inj H; go_enter Tryd.func12, Tryd.ntmps12
  go_wp2_with (first | ((with_reducible refine gate_dst (N := 1) rfl ?_); refine bx 1 (cs := #[.slice A0_0 l0_0.length c0_0, .slice A0_1 l0_1.length c0_1]) (t := 25) ?_; intro gb468 hg w5 hbox hb; have BK468 := am (hbox); have GW468 := am ((b19_ : w.heap.size ≤ gb468)); have GE468 := am ((b19_ : w.heap.size ≤ gb468)); replace HB := am (below_step bel hb); clear hb hbox hg; have hcz6_0 := bc BK468.out 0; have hcz6_1 := bc BK468.out 1; have hfz6_0 := bf BK468.out 0; have hfz6_1 := bf BK468.out 1) | ((with_reducible refine gate_callee (f := 13) rfl ?_); refine goesL_ (some 4) rfl rfl Tryd.func13 (by kernel_rfl) rfl #[.agg #[.slice A0_0 l0_0.length c0_0, .slice A0_1 l0_1.length c0_1]] rfl mq ?_; (with_reducible refine (spec_BookOk.calls k _ _ l0_0 _ _ l0_1 true _ ?side1 ?side2 ?side3 ?side4 A2.out).mono ?_); (case side1 => exact cq (Kd.C_below HR0_0.out HB.out)); (case side2 => exact HC0_0.out); (case side3 => exact cq (Kd.C_below HR0_1.out HB.out)); (case side4 => exact HC0_1.out); rintro e w7 ⟨rfl, hb⟩; refine ⟨_, rfl, ?_⟩; replace BK468 := am (blk_below (g := gb468) (o := .cells #[.slice A0_0 l0_0.length c0_0, .slice A0_1 l0_1.length c0_1] 25 (0, 0)) (bq BK468.out) hb); replace HB := am (below_step (bel1 GE468.out) hb); (try clear hb); (try clear hb2); (try clear hk); (try clear hi); have hcz8_0 := bc BK468.out 0; have hcz8_1 := bc BK468.out 1; have hfz8_0 := bf BK468.out 0; have hfz8_1 := bf BK468.out 1) | ((with_reducible refine gate_callee (f := 19) rfl ?_); refine goesL_ (some 7) rfl rfl Tryd.func19 (by kernel_rfl) rfl #[.agg #[.slice A0_0 l0_0.length c0_0, .slice A0_1 l0_1.length c0_1]] rfl mq ?_; (with_reducible refine (spec_l2Put.calls k _ _ l0_0 _ _ l0_1 t470 _ ?side1 ?side2 ?side3 ?side4 A4.out).mono ?_); (case side1 => exact cq (Kd.C_below HR0_0.out HB.out)); (case side2 => exact HC0_0.out); (case side3 => exact cq (Kd.C_below HR0_1.out HB.out)); (case side4 => exact HC0_1.out); rintro e w9 ⟨rfl, hb⟩; refine ⟨_, rfl, ?_⟩; replace BK468 := am (blk_below (g := gb468) (o := .cells #[.slice A0_0 l0_0.length c0_0, .slice A0_1 l0_1.length c0_1] 25 (0, 0)) (bq BK468.out) hb); replace HB := am (below_step (bel1 GE468.out) hb); (try clear hb); (try clear hb2); (try clear hk); (try clear hi)))
  go_ret
  exact ⟨eq_, bel1 GE468.out⟩
 replace c3 := Bool.eq_false_iff.mpr c3; subst c3
 have H1 : (some (⟨#[]⟩ : ByteArray)) = some r := b22_
 replace H := H1; clear H1
 obtain rfl := Option.some.inj H; go_enter Tryd.func12, Tryd.ntmps12
 go_wp2_with (first | ((with_reducible refine gate_dst (N := 1) rfl ?_); refine bx 1 (cs := #[.slice A0_0 l0_0.length c0_0, .slice A0_1 l0_1.length c0_1]) (t := 25) ?_; intro gb468 hg w10 hbox hb; have BK468 := am (hbox); have GW468 := am ((b19_ : w.heap.size ≤ gb468)); have GE468 := am ((b19_ : w.heap.size ≤ gb468)); replace HB := am (below_step bel hb); clear hb hbox hg; have hcz11_0 := bc BK468.out 0; have hcz11_1 := bc BK468.out 1; have hfz11_0 := bf BK468.out 0; have hfz11_1 := bf BK468.out 1) | ((with_reducible refine gate_callee (f := 13) rfl ?_); refine goesL_ (some 4) rfl rfl Tryd.func13 (by kernel_rfl) rfl #[.agg #[.slice A0_0 l0_0.length c0_0, .slice A0_1 l0_1.length c0_1]] rfl mq ?_; (with_reducible refine (spec_BookOk.calls k _ _ l0_0 _ _ l0_1 false _ ?side1 ?side2 ?side3 ?side4 A2.out).mono ?_); (case side1 => exact cq (Kd.C_below HR0_0.out HB.out)); (case side2 => exact HC0_0.out); (case side3 => exact cq (Kd.C_below HR0_1.out HB.out)); (case side4 => exact HC0_1.out); rintro e w12 ⟨rfl, hb⟩; refine ⟨_, rfl, ?_⟩; replace BK468 := am (blk_below (g := gb468) (o := .cells #[.slice A0_0 l0_0.length c0_0, .slice A0_1 l0_1.length c0_1] 25 (0, 0)) (bq BK468.out) hb); replace HB := am (below_step (bel1 GE468.out) hb); (try clear hb); (try clear hb2); (try clear hk); (try clear hi)))
 go_ret
 exact ⟨eq_, bel1 GE468.out⟩

/-! ### laws_mdBook: function 14 -/
mutual
def laws_mdBook.j0 : Nat → Bool → List (S40) → List (S43) → List (S40) → List (S43) → Option (Bool)
 | 0, _, _, _, _, _ => none
 | k + 1, x22, x472000, x472001, x473000, x473001 => if x22 = true then (some false) else (laws_mdBook.l0 k 0 x472000 x472001 x473000 x473001)
def laws_mdBook.l0 : Nat → Int → List (S40) → List (S43) → List (S40) → List (S43) → Option (Bool)
 | 0, _, _, _, _, _ => none
 | k + 1, x5, x472000, x472001, x473000, x473001 => if x5 < (x472000.length : Int) then (if 0 ≤ x5 then (if x5 < (x473000.length : Int) then (if (!((((rd_T40 x472000 x5).f0).toList) == (((rd_T40 x473000 x5).f0).toList)) || (!(((rd_T40 x472000 x5).f1) == ((rd_T40 x473000 x5).f1)) || (!((((rd_T40 x472000 x5).f2).toList) == (((rd_T40 x473000 x5).f2).toList)) || (!((((rd_T40 x472000 x5).f3).toList) == (((rd_T40 x473000 x5).f3).toList)) || (!((((rd_T40 x472000 x5).f4).toList) == (((rd_T40 x473000 x5).f4).toList))))))) = true then (some false) else (laws_mdBook.l0 k (wrap64 (x5 + 1)) x472000 x472001 x473000 x473001)) else (none)) else (none)) else (laws_mdBook.l1 k 0 x472000 x472001 x473000 x473001)
def laws_mdBook.l1 : Nat → Int → List (S40) → List (S43) → List (S40) → List (S43) → Option (Bool)
 | 0, _, _, _, _, _ => none
 | k + 1, x6, x472000, x472001, x473000, x473001 => if x6 < (x472001.length : Int) then (if 0 ≤ x6 then (if x6 < (x473001.length : Int) then (if (!((((rd_T43 x472001 x6).f0).toList) == (((rd_T43 x473001 x6).f0).toList)) || (!((((rd_T43 x472001 x6).f1).toList) == (((rd_T43 x473001 x6).f1).toList)))) = true then (some false) else (laws_mdBook.l1 k (wrap64 (x6 + 1)) x472000 x472001 x473000 x473001)) else (none)) else (none)) else (some true)
end
def laws_mdBook.f (k : Nat) (l0_0 : List (S40)) (l0_1 : List (S43)) (l1_0 : List (S40)) (l1_1 : List (S43)) : Option (Bool) := if (l0_0.length : Int) = (l1_0.length : Int) then (laws_mdBook.j0 k ((l0_1.length : Int) != (l1_1.length : Int)) l0_0 l0_1 l1_0 l1_1) else (laws_mdBook.j0 k true l0_0 l0_1 l1_0 l1_1)
theorem laws_mdBook.calls (k : Nat) (A0_0 : Option Addr) (c0_0 : Nat) (l0_0 : List (S40)) (A0_1 : Option Addr) (c0_1 : Nat) (l0_1 : List (S43)) (A1_0 : Option Addr) (c1_0 : Nat) (l1_0 : List (S40)) (A1_1 : Option Addr) (c1_1 : Nat) (l1_1 : List (S43)) (r : Bool) (w : World) (hr0_0 : Kd.C k40 w A0_0 l0_0.length l0_0) (hc0_0 : l0_0.length ≤ c0_0) (hr0_1 : Kd.C k43 w A0_1 l0_1.length l0_1) (hc0_1 : l0_1.length ≤ c0_1) (hr1_0 : Kd.C k40 w A1_0 l1_0.length l1_0) (hc1_0 : l1_0.length ≤ c1_0) (hr1_1 : Kd.C k43 w A1_1 l1_1.length l1_1) (hc1_1 : l1_1.length ≤ c1_1) (h : laws_mdBook.f k l0_0 l0_1 l1_0 l1_1 = some r) :
  Calls Tryd.prog 14 #[.agg #[.slice A0_0 l0_0.length c0_0, .slice A0_1 l0_1.length c0_1], .agg #[.slice A1_0 l1_0.length c1_0, .slice A1_1 l1_1.length c1_1]] w fun e w' => e = .returned (.bool r) ∧ Below w.heap.size w w' := by
 have hu25 := Tryd.underlying25; have hu40 := Tryd.underlying40; have hu43 := Tryd.underlying43; have HR0_0 := am hr0_0; have HC0_0 := am hc0_0; clear hr0_0 hc0_0; have HR0_1 := am hr0_1; have HC0_1 := am hc0_1; clear hr0_1 hc0_1; have HR1_0 := am hr1_0; have HC1_0 := am hc1_0; clear hr1_0 hc1_0; have HR1_1 := am hr1_1; have HC1_1 := am hc1_1; clear hr1_1 hc1_1; have HB := am (Below.refl w.heap.size w)
 have H : (if (l0_0.length : Int) = (l1_0.length : Int) then (laws_mdBook.j0 k ((l0_1.length : Int) != (l1_1.length : Int)) l0_0 l0_1 l1_0 l1_1) else (laws_mdBook.j0 k true l0_0 l0_1 l1_0 l1_1)) = some r := h
 clear h; have HC3 := am H; clear H; go_enter Tryd.func14, Tryd.ntmps14
 go_upto_region 1 with (first | ((with_reducible refine gate_dst (N := 2) rfl ?_); (try (refine gate_guard (by rfl) ?_; dsimp only)); refine bx 2 (cs := #[.slice A0_0 l0_0.length c0_0, .slice A0_1 l0_1.length c0_1]) (t := 25) ?_; intro gb471 hg w4 hbox hb; have BK471 := am (hbox); have GW471 := am ((b19_ : w.heap.size ≤ gb471)); have GE471 := am ((b19_ : w.heap.size ≤ gb471)); replace HB := am (below_step bel hb); clear hb hbox hg) | ((with_reducible refine gate_dst (N := 3) rfl ?_); (try (refine gate_guard (by rfl) ?_; dsimp only)); refine bx 3 (cs := #[.slice A1_0 l1_0.length c1_0, .slice A1_1 l1_1.length c1_1]) (t := 25) ?_; intro gb472 hg w5 hbox hb; have BK472 := am (hbox); have GW472 := am ((b90_ : w.heap.size ≤ gb472)); have GE472 := am ((b90_ : w.heap.size ≤ gb472)); replace HB := am (below_step (bel1 GE471.out) hb); have NB471_472 := am ((b76_ : gb471 ≠ gb472)); have NB472_471 := am ((b77_ : gb472 ≠ gb471)); replace BK471 := am (blk_below (g := gb471) (o := .cells #[.slice A0_0 l0_0.length c0_0, .slice A0_1 l0_1.length c0_1] 25 (0, 0)) (bq BK471.out) hb); clear hb hbox hg))
 repeat (go_quiet (first | ((with_reducible refine gate_dst (N := 2) rfl ?_); (try (refine gate_guard (by rfl) ?_; dsimp only)); refine bx 2 (cs := #[.slice A0_0 l0_0.length c0_0, .slice A0_1 l0_1.length c0_1]) (t := 25) ?_; intro gb471 hg w4 hbox hb; have BK471 := am (hbox); have GW471 := am ((b19_ : w.heap.size ≤ gb471)); have GE471 := am ((b19_ : w.heap.size ≤ gb471)); replace HB := am (below_step bel hb); clear hb hbox hg) | ((with_reducible refine gate_dst (N := 3) rfl ?_); (try (refine gate_guard (by rfl) ?_; dsimp only)); refine bx 3 (cs := #[.slice A1_0 l1_0.length c1_0, .slice A1_1 l1_1.length c1_1]) (t := 25) ?_; intro gb472 hg w5 hbox hb; have BK472 := am (hbox); have GW472 := am ((b90_ : w.heap.size ≤ gb472)); have GE472 := am ((b90_ : w.heap.size ≤ gb472)); replace HB := am (below_step (bel1 GE471.out) hb); have NB471_472 := am ((b76_ : gb471 ≠ gb472)); have NB472_471 := am ((b77_ : gb472 ≠ gb471)); replace BK471 := am (blk_below (g := gb471) (o := .cells #[.slice A0_0 l0_0.length c0_0, .slice A0_1 l0_1.length c0_1] 25 (0, 0)) (bq BK471.out) hb); clear hb hbox hg)); go_upto_region 1 with (first | ((with_reducible refine gate_dst (N := 2) rfl ?_); (try (refine gate_guard (by rfl) ?_; dsimp only)); refine bx 2 (cs := #[.slice A0_0 l0_0.length c0_0, .slice A0_1 l0_1.length c0_1]) (t := 25) ?_; intro gb471 hg w4 hbox hb; have BK471 := am (hbox); have GW471 := am ((b19_ : w.heap.size ≤ gb471)); have GE471 := am ((b19_ : w.heap.size ≤ gb471)); replace HB := am (below_step bel hb); clear hb hbox hg) | ((with_reducible refine gate_dst (N := 3) rfl ?_); (try (refine gate_guard (by rfl) ?_; dsimp only)); refine bx 3 (cs := #[.slice A1_0 l1_0.length c1_0, .slice A1_1 l1_1.length c1_1]) (t := 25) ?_; intro gb472 hg w5 hbox hb; have BK472 := am (hbox); have GW472 := am ((b90_ : w.heap.size ≤ gb472)); have GE472 := am ((b90_ : w.heap.size ≤ gb472)); replace HB := am (below_step (bel1 GE471.out) hb); have NB471_472 := am ((b76_ : gb471 ≠ gb472)); have NB472_471 := am ((b77_ : gb472 ≠ gb471)); replace BK471 := am (blk_below (g := gb471) (o := .cells #[.slice A0_0 l0_0.length c0_0, .slice A0_1 l0_1.length c0_1] 25 (0, 0)) (bq BK471.out) hb); clear hb hbox hg)))
 (try simp only [Act.put, List.setIfInBounds_toArray, List.set_cons_zero, List.set_cons_succ])
 go_cut [22] (fun v22 wc => ∃ (kq : Nat) (x22_2 : Bool), v22 = .bool x22_2 ∧ Aside0 (laws_mdBook.j0 kq x22_2 l0_0 l0_1 l1_0 l1_1 = some r) ∧ Aside0 (kq ≤ k) ∧ Aside0 (wc.heap[gb471]? = some (.cells #[(.slice A0_0 l0_0.length c0_0), (.slice A0_1 l0_1.length c0_1)] 25 (0, 0))) ∧ Aside0 (wc.heap[gb472]? = some (.cells #[(.slice A1_0 l1_0.length c1_0), (.slice A1_1 l1_1.length c1_1)] 25 (0, 0))) ∧ Aside0 (Below w.heap.size w wc))
 case first =>
  have H := HC3.out; clear HC3
  by_cases c6 : (l0_0.length : Int) = (l1_0.length : Int)
  ·rw [if_pos c6] at H
   have c6b0 : ((l0_0.length : Int) == (l1_0.length : Int)) = true := beq_iff_eq.mpr c6
   have c6b1 : ((l0_0.length : Int) != (l1_0.length : Int)) = false := bne_eq_false_iff_eq.mpr c6
   have c6b2 : (l0_0.length == l1_0.length) = true := by first | simpa using c6 | (simp at c6 ⊢; omega)
   clear c6
   (first | rw [c6b0] | (simp only [i64_w, i32_w]; rw [c6b0]) | skip)
   have H' := am H
   clear H; have hnb7 := NB471_472.out; have hnc7 := NB472_471.out; have hcz8_0 := bc BK471.out 0; have hcz8_1 := bc BK471.out 1; have hfz8_0 := bf BK471.out 0; have hfz8_1 := bf BK471.out 1; have hcz9_0 := bc BK472.out 0; have hcz9_1 := bc BK472.out 1; have hfz9_0 := bf BK472.out 0; have hfz9_1 := bf BK472.out 1; go_wp2
   repeat (go_quiet (fail); try go_wp2)
   go_meet
   case rel => exact ⟨_, (((l0_1.length : Int) != (l1_1.length : Int))), sq, H', ⟨b69_⟩, ⟨bq BK471.out⟩, ⟨bq BK472.out⟩, ⟨bel2 GE471.out GE472.out⟩⟩
  rw [if_neg c6] at H
  have c6b0 : ((l0_0.length : Int) == (l1_0.length : Int)) = false := beq_eq_false_iff_ne.mpr c6
  have c6b1 : ((l0_0.length : Int) != (l1_0.length : Int)) = true := bne_iff_ne.mpr c6
  have c6b2 : (l0_0.length == l1_0.length) = false := by first | simpa using c6 | (simp at c6 ⊢; omega)
  (first | rw [c6b0] | (simp only [i64_w, i32_w]; rw [c6b0]) | skip)
  have H' := am H
  clear H; have hnb10 := NB471_472.out; have hnc10 := NB472_471.out; have hcz11_0 := bc BK471.out 0; have hcz11_1 := bc BK471.out 1; have hfz11_0 := bf BK471.out 0; have hfz11_1 := bf BK471.out 1; have hcz12_0 := bc BK472.out 0; have hcz12_1 := bc BK472.out 1; have hfz12_0 := bf BK472.out 0; have hfz12_1 := bf BK472.out 1; go_wp2
  repeat (go_quiet (fail); try go_wp2)
  go_meet
  case rel => exact ⟨_, (true), sq, H', ⟨b69_⟩, ⟨bq BK471.out⟩, ⟨bq BK472.out⟩, ⟨bel2 GE471.out GE472.out⟩⟩
 case rest =>
  clear HC3; (try clear c1); (try clear p2); (try clear c6); (try clear c6b0); (try clear c6b1); (try clear c6b2); (try clear c7); (try clear c10); (try clear hcz11_0); (try clear hcz11_1); (try clear hcz12_0); (try clear hcz12_1); (try clear hcz8_0); (try clear hcz8_1); (try clear hcz9_0); (try clear hcz9_1); (try clear hfz11_0); (try clear hfz11_1); (try clear hfz12_0); (try clear hfz12_1); (try clear hfz8_0); (try clear hfz8_1); (try clear hfz9_0); (try clear hfz9_1); obtain ⟨kq, x22_2, rfl, HA, HJ2, BK471, BK472, HB⟩ := hcut
  cases kq with
  | zero => exact absurd HA.out (by simp [laws_mdBook.j0])
  | succ kj2 =>
   have H := HA.out; clear HA
   simp only [laws_mdBook.j0] at H
   by_cases c13 : x22_2 = true
   ·subst c13
    have H1 : (some false) = some r := b47_
    replace H := H1; clear H1
    obtain rfl := Option.some.inj H; go_wp2
    repeat (go_quiet (fail); try go_wp2)
    go_ret
    exact ⟨eq_, bel2 GE471.out GE472.out⟩
   replace c13 := Bool.eq_false_iff.mpr c13; subst c13
   have H1 : (laws_mdBook.l0 kj2 0 l0_0 l0_1 l1_0 l1_1) = some r := b22_
   replace H := H1; clear H1
   have H' := am H
   clear H; go_wp2
   repeat (go_quiet (fail); try go_wp2)
   go_loopg [5] kj2 (fun kq v5 w' => ∃ (x5_2 : Int), v5 = .int .i64 x5_2 ∧ Aside0 (laws_mdBook.l0 kq x5_2 l0_0 l0_1 l1_0 l1_1 = some r) ∧ Aside0 (kq ≤ kj2) ∧ Aside0 (w'.heap[gb471]? = some (.cells #[(.slice A0_0 l0_0.length c0_0), (.slice A0_1 l0_1.length c0_1)] 25 (0, 0))) ∧ Aside0 (w'.heap[gb472]? = some (.cells #[(.slice A1_0 l1_0.length c1_0), (.slice A1_1 l1_1.length c1_1)] 25 (0, 0))) ∧ Aside0 (Below w.heap.size w w'))
   case atStart => exact ⟨(0), sq, H', ⟨Nat.le_refl _⟩, ⟨bq BK471.out⟩, ⟨bq BK472.out⟩, ⟨bel2 GE471.out GE472.out⟩⟩
   case round =>
    clear H'; (try clear c1); (try clear p2); (try clear c6); (try clear c6b0); (try clear c6b1); (try clear c6b2); (try clear c7); (try clear c10); (try clear c13); (try clear hcz11_0); (try clear hcz11_1); (try clear hcz12_0); (try clear hcz12_1); (try clear hcz8_0); (try clear hcz8_1); (try clear hcz9_0); (try clear hcz9_1); (try clear hfz11_0); (try clear hfz11_1); (try clear hfz12_0); (try clear hfz12_1); (try clear hfz8_0); (try clear hfz8_1); (try clear hfz9_0); (try clear hfz9_1); (try clear p2); obtain ⟨x5_2, rfl, HA, HK2, BK471, BK472, HB⟩ := hrel
    cases gk with
    | zero => exact absurd HA.out (by simp [laws_mdBook.l0])
    | succ k2 =>
     have H := HA.out; clear HA
     simp only [laws_mdBook.l0] at H
     by_cases c14 : x5_2 < (l0_0.length : Int)
     ·rw [if_pos c14] at H; have c14b0 := decide_eq_true c14; clear c14
      replace H := it H; obtain ⟨c15b0, H⟩ := H
      replace H := it H; obtain ⟨c16b0, H⟩ := H
      by_cases c17 : (!((((rd_T40 l0_0 x5_2).f0).toList) == (((rd_T40 l1_0 x5_2).f0).toList)) || (!(((rd_T40 l0_0 x5_2).f1) == ((rd_T40 l1_0 x5_2).f1)) || (!((((rd_T40 l0_0 x5_2).f2).toList) == (((rd_T40 l1_0 x5_2).f2).toList)) || (!((((rd_T40 l0_0 x5_2).f3).toList) == (((rd_T40 l1_0 x5_2).f3).toList)) || (!((((rd_T40 l0_0 x5_2).f4).toList) == (((rd_T40 l1_0 x5_2).f4).toList))))))) = true
      ·rw [if_pos c17] at H
       have c17b0 : (!((((rd_T40 l0_0 x5_2).f0).toList) == (((rd_T40 l1_0 x5_2).f0).toList)) || (!(((rd_T40 l0_0 x5_2).f1) == ((rd_T40 l1_0 x5_2).f1)) || (!((((rd_T40 l0_0 x5_2).f2).toList) == (((rd_T40 l1_0 x5_2).f2).toList)) || (!((((rd_T40 l0_0 x5_2).f3).toList) == (((rd_T40 l1_0 x5_2).f3).toList)) || (!((((rd_T40 l0_0 x5_2).f4).toList) == (((rd_T40 l1_0 x5_2).f4).toList))))))) = true := c17
       clear c17; obtain rfl := Option.some.inj H; have hnb18 := NB471_472.out; have hnc18 := NB472_471.out; have hcz19_0 := bc BK471.out 0; have hcz19_1 := bc BK471.out 1; have hfz19_0 := bf BK471.out 0; have hfz19_1 := bf BK471.out 1
       have p473 : 0 ≤ (x5_2 : Int) := of_decide_eq_true ad
       have q473 : x5_2 < (l0_0.length : Int) := of_decide_eq_true ad
       obtain ⟨ad473, e473, hx473_0, hx473_1, hx473_2, hx473_3, hx473_4⟩ := at_T40 HR0_0.out x5_2 p473 q473
       cases e473
       replace hx473_0 := kp HB.out hx473_0; replace hx473_1 := kp HB.out hx473_1; replace hx473_2 := kp HB.out hx473_2; replace hx473_3 := kp HB.out hx473_3; replace hx473_4 := kp HB.out hx473_4; replace p473 := eq_true p473; replace q473 := eq_true q473; have hcz20_0 := bc BK472.out 0; have hcz20_1 := bc BK472.out 1; have hfz20_0 := bf BK472.out 0; have hfz20_1 := bf BK472.out 1
       have p474 : 0 ≤ (x5_2 : Int) := of_decide_eq_true ad
       have q474 : x5_2 < (l1_0.length : Int) := of_decide_eq_true ad
       obtain ⟨ad474, e474, hx474_0, hx474_1, hx474_2, hx474_3, hx474_4⟩ := at_T40 HR1_0.out x5_2 p474 q474
       cases e474
       replace hx474_0 := kp HB.out hx474_0; replace hx474_1 := kp HB.out hx474_1; replace hx474_2 := kp HB.out hx474_2; replace hx474_3 := kp HB.out hx474_3; replace hx474_4 := kp HB.out hx474_4; replace p474 := eq_true p474; replace q474 := eq_true q474; go_wp2
       repeat (go_quiet (fail); try go_wp2)
       go_ret
       exact ⟨eq_, bel2 GE471.out GE472.out⟩
      rw [if_neg c17] at H
      have c17b0 : (!((((rd_T40 l0_0 x5_2).f0).toList) == (((rd_T40 l1_0 x5_2).f0).toList)) || (!(((rd_T40 l0_0 x5_2).f1) == ((rd_T40 l1_0 x5_2).f1)) || (!((((rd_T40 l0_0 x5_2).f2).toList) == (((rd_T40 l1_0 x5_2).f2).toList)) || (!((((rd_T40 l0_0 x5_2).f3).toList) == (((rd_T40 l1_0 x5_2).f3).toList)) || (!((((rd_T40 l0_0 x5_2).f4).toList) == (((rd_T40 l1_0 x5_2).f4).toList))))))) = false := by simpa using c17
      clear c17
      have H' := am H
      clear H; have hnb21 := NB471_472.out; have hnc21 := NB472_471.out; have hcz22_0 := bc BK471.out 0; have hcz22_1 := bc BK471.out 1; have hfz22_0 := bf BK471.out 0; have hfz22_1 := bf BK471.out 1
      have p473 : 0 ≤ (x5_2 : Int) := of_decide_eq_true ad
      have q473 : x5_2 < (l0_0.length : Int) := of_decide_eq_true ad
      obtain ⟨ad473, e473, hx473_0, hx473_1, hx473_2, hx473_3, hx473_4⟩ := at_T40 HR0_0.out x5_2 p473 q473
      cases e473
      replace hx473_0 := kp HB.out hx473_0; replace hx473_1 := kp HB.out hx473_1; replace hx473_2 := kp HB.out hx473_2; replace hx473_3 := kp HB.out hx473_3; replace hx473_4 := kp HB.out hx473_4; replace p473 := eq_true p473; replace q473 := eq_true q473; have hcz23_0 := bc BK472.out 0; have hcz23_1 := bc BK472.out 1; have hfz23_0 := bf BK472.out 0; have hfz23_1 := bf BK472.out 1
      have p474 : 0 ≤ (x5_2 : Int) := of_decide_eq_true ad
      have q474 : x5_2 < (l1_0.length : Int) := of_decide_eq_true ad
      obtain ⟨ad474, e474, hx474_0, hx474_1, hx474_2, hx474_3, hx474_4⟩ := at_T40 HR1_0.out x5_2 p474 q474
      cases e474
      replace hx474_0 := kp HB.out hx474_0; replace hx474_1 := kp HB.out hx474_1; replace hx474_2 := kp HB.out hx474_2; replace hx474_3 := kp HB.out hx474_3; replace hx474_4 := kp HB.out hx474_4; replace p474 := eq_true p474; replace q474 := eq_true q474; go_wp2
      repeat (go_quiet (fail); try go_wp2)
      go_roundg k2
      case measure => have := HJ2.out; have := HK2.out; omega
      case rel => exact ⟨(wrap64 (x5_2 + 1)), sq, H', ⟨by have := HJ2.out; have := HK2.out; omega⟩, ⟨bq BK471.out⟩, ⟨bq BK472.out⟩, ⟨bel2 GE471.out GE472.out⟩⟩
     rw [if_neg c14] at H; have c14b0 := decide_eq_false c14; clear c14
     have H' := am H
     clear H; have hnb24 := NB471_472.out; have hnc24 := NB472_471.out; have hcz25_0 := bc BK471.out 0; have hcz25_1 := bc BK471.out 1; have hfz25_0 := bf BK471.out 0; have hfz25_1 := bf BK471.out 1; go_wp2
     repeat (go_quiet (fail); try go_wp2)
     go_loopg [6] k2 (fun kq v6 w' => ∃ (x6_3 : Int), v6 = .int .i64 x6_3 ∧ Aside0 (laws_mdBook.l1 kq x6_3 l0_0 l0_1 l1_0 l1_1 = some r) ∧ Aside0 (kq ≤ k2) ∧ Aside0 (w'.heap[gb471]? = some (.cells #[(.slice A0_0 l0_0.length c0_0), (.slice A0_1 l0_1.length c0_1)] 25 (0, 0))) ∧ Aside0 (w'.heap[gb472]? = some (.cells #[(.slice A1_0 l1_0.length c1_0), (.slice A1_1 l1_1.length c1_1)] 25 (0, 0))) ∧ Aside0 (Below w.heap.size w w'))
     case atStart => exact ⟨(0), sq, H', ⟨Nat.le_refl _⟩, ⟨bq BK471.out⟩, ⟨bq BK472.out⟩, ⟨bel2 GE471.out GE472.out⟩⟩
     case round =>
      clear H'; (try clear c1); (try clear c2); (try clear p2); (try clear p4); (try clear q4); (try clear hx4); (try clear c6); (try clear c6b0); (try clear c6b1); (try clear c6b2); (try clear p6); (try clear c7); (try clear c10); (try clear c13); (try clear c14); (try clear c14b0); (try clear c15); (try clear c15b0); (try clear c16); (try clear c16b0); (try clear c17); (try clear c17b0); (try clear c18); (try clear c21); (try clear c24); (try clear hcz11_0); (try clear hcz11_1); (try clear hcz12_0); (try clear hcz12_1); (try clear hcz19_0); (try clear hcz19_1); (try clear hcz20_0); (try clear hcz20_1); (try clear hcz22_0); (try clear hcz22_1); (try clear hcz23_0); (try clear hcz23_1); (try clear hcz25_0); (try clear hcz25_1); (try clear hcz8_0); (try clear hcz8_1); (try clear hcz9_0); (try clear hcz9_1); (try clear hfz11_0); (try clear hfz11_1); (try clear hfz12_0); (try clear hfz12_1); (try clear hfz19_0); (try clear hfz19_1); (try clear hfz20_0); (try clear hfz20_1); (try clear hfz22_0); (try clear hfz22_1); (try clear hfz23_0); (try clear hfz23_1); (try clear hfz25_0); (try clear hfz25_1); (try clear hfz8_0); (try clear hfz8_1); (try clear hfz9_0); (try clear hfz9_1); (try clear hx473_0); (try clear hx473_1); (try clear hx473_2); (try clear hx473_3); (try clear hx473_4); (try clear hx474_0); (try clear hx474_1); (try clear hx474_2); (try clear hx474_3); (try clear hx474_4); (try clear p2); (try clear p473); (try clear p474); (try clear q473); (try clear q474); obtain ⟨x6_3, rfl, HA, HK3, BK471, BK472, HB⟩ := hrel
      cases gk with
      | zero => exact absurd HA.out (by simp [laws_mdBook.l1])
      | succ k3 =>
       have H := HA.out; clear HA
       simp only [laws_mdBook.l1] at H
       by_cases c26 : x6_3 < (l0_1.length : Int)
       ·rw [if_pos c26] at H; have c26b0 := decide_eq_true c26; clear c26
        replace H := it H; obtain ⟨c27b0, H⟩ := H
        replace H := it H; obtain ⟨c28b0, H⟩ := H
        by_cases c29 : (!((((rd_T43 l0_1 x6_3).f0).toList) == (((rd_T43 l1_1 x6_3).f0).toList)) || (!((((rd_T43 l0_1 x6_3).f1).toList) == (((rd_T43 l1_1 x6_3).f1).toList)))) = true
        ·rw [if_pos c29] at H
         have c29b0 : (!((((rd_T43 l0_1 x6_3).f0).toList) == (((rd_T43 l1_1 x6_3).f0).toList)) || (!((((rd_T43 l0_1 x6_3).f1).toList) == (((rd_T43 l1_1 x6_3).f1).toList)))) = true := c29
         clear c29; obtain rfl := Option.some.inj H; have hnb30 := NB471_472.out; have hnc30 := NB472_471.out; have hcz31_0 := bc BK471.out 0; have hcz31_1 := bc BK471.out 1; have hfz31_0 := bf BK471.out 0; have hfz31_1 := bf BK471.out 1
         have p475 : 0 ≤ (x6_3 : Int) := of_decide_eq_true ad
         have q475 : x6_3 < (l0_1.length : Int) := of_decide_eq_true ad
         obtain ⟨ad475, e475, hx475_0, hx475_1⟩ := at_T43 HR0_1.out x6_3 p475 q475
         cases e475
         replace hx475_0 := kp HB.out hx475_0; replace hx475_1 := kp HB.out hx475_1; replace p475 := eq_true p475; replace q475 := eq_true q475; have hcz32_0 := bc BK472.out 0; have hcz32_1 := bc BK472.out 1; have hfz32_0 := bf BK472.out 0; have hfz32_1 := bf BK472.out 1
         have p476 : 0 ≤ (x6_3 : Int) := of_decide_eq_true ad
         have q476 : x6_3 < (l1_1.length : Int) := of_decide_eq_true ad
         obtain ⟨ad476, e476, hx476_0, hx476_1⟩ := at_T43 HR1_1.out x6_3 p476 q476
         cases e476
         replace hx476_0 := kp HB.out hx476_0; replace hx476_1 := kp HB.out hx476_1; replace p476 := eq_true p476; replace q476 := eq_true q476; go_wp2
         repeat (go_quiet (fail); try go_wp2)
         go_ret
         exact ⟨eq_, bel2 GE471.out GE472.out⟩
        rw [if_neg c29] at H
        have c29b0 : (!((((rd_T43 l0_1 x6_3).f0).toList) == (((rd_T43 l1_1 x6_3).f0).toList)) || (!((((rd_T43 l0_1 x6_3).f1).toList) == (((rd_T43 l1_1 x6_3).f1).toList)))) = false := by simpa using c29
        clear c29
        have H' := am H
        clear H; have hnb33 := NB471_472.out; have hnc33 := NB472_471.out; have hcz34_0 := bc BK471.out 0; have hcz34_1 := bc BK471.out 1; have hfz34_0 := bf BK471.out 0; have hfz34_1 := bf BK471.out 1
        have p475 : 0 ≤ (x6_3 : Int) := of_decide_eq_true ad
        have q475 : x6_3 < (l0_1.length : Int) := of_decide_eq_true ad
        obtain ⟨ad475, e475, hx475_0, hx475_1⟩ := at_T43 HR0_1.out x6_3 p475 q475
        cases e475
        replace hx475_0 := kp HB.out hx475_0; replace hx475_1 := kp HB.out hx475_1; replace p475 := eq_true p475; replace q475 := eq_true q475; have hcz35_0 := bc BK472.out 0; have hcz35_1 := bc BK472.out 1; have hfz35_0 := bf BK472.out 0; have hfz35_1 := bf BK472.out 1
        have p476 : 0 ≤ (x6_3 : Int) := of_decide_eq_true ad
        have q476 : x6_3 < (l1_1.length : Int) := of_decide_eq_true ad
        obtain ⟨ad476, e476, hx476_0, hx476_1⟩ := at_T43 HR1_1.out x6_3 p476 q476
        cases e476
        replace hx476_0 := kp HB.out hx476_0; replace hx476_1 := kp HB.out hx476_1; replace p476 := eq_true p476; replace q476 := eq_true q476; go_wp2
        repeat (go_quiet (fail); try go_wp2)
        go_roundg k3
        case measure => have := HJ2.out; have := HK2.out; have := HK3.out; omega
        case rel => exact ⟨(wrap64 (x6_3 + 1)), sq, H', ⟨by have := HJ2.out; have := HK2.out; have := HK3.out; omega⟩, ⟨bq BK471.out⟩, ⟨bq BK472.out⟩, ⟨bel2 GE471.out GE472.out⟩⟩
       rw [if_neg c26] at H; have c26b0 := decide_eq_false c26; clear c26; obtain rfl := Option.some.inj H; have hnb36 := NB471_472.out; have hnc36 := NB472_471.out; have hcz37_0 := bc BK471.out 0; have hcz37_1 := bc BK471.out 1; have hfz37_0 := bf BK471.out 0; have hfz37_1 := bf BK471.out 1; go_wp2
       repeat (go_quiet (fail); try go_wp2)
       go_ret
       exact ⟨eq_, bel2 GE471.out GE472.out⟩
end Go.Proofs.YtiiefpckcgekgaaDoor.QFnBookText

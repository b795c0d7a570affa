import Derived.Test.YtdfnijaacnlfaaaGreatQFnBookGuessesx0
import Derived.Test.YtdfnijaacnlfaaaGreatQFnBookGuessesx5
import Derived.Test.YtdfnijaacnlfaaaGreatQFnBookGuessesx6
import Derived.Test.YtdfnijaacnlfaaaGreatVMSh2
namespace Go.Proofs.YtdfnijaacnlfaaaGreat.QFnBookGuesses
open Go.RowKit Go.Proofs.YtdfnijaacnlfaaaGreatW.PrintWords Go.Proofs.YtdfnijaacnlfaaaGreatW.PrintLast Go.Proofs.YtdfnijaacnlfaaaGreatW.PrintMore Go.Proofs.YtdfnijaacnlfaaaGreat.Sh
attribute [local go_sem] max2_int min2_int max_two min_two max_three min_three max_four min_four
set_option linter.unusedVariables false
set_option linter.unusedSimpArgs false
set_option maxHeartbeats 8000000
set_option maxRecDepth 100000
-- shrunk

/-! ### spec_l13AnyBook: function 14 -/
def spec_l13AnyBook.f (k : Nat) (s0_0 : List Int) (s0_1 : Int) : Option ((List (S59)) × (List (S51)) × Int) := (spec_l13Book.f k s0_0 s0_1).bind fun bt247 => ((spec_l1Rd_pick.f k s0_0 bt247.2.2 16).bind fun bt255 => (if bt255.1 = 0 then ((spec_l13AnyAffix.f k s0_0 bt255.2).bind fun bt257 => (if bt247.1.length < 1954687338268 then (some ((bt247.1 ++ [(⟨bt257.1, bt257.2.1, bt257.2.2.1, bt257.2.2.2.1, bt257.2.2.2.2.1⟩ : S59)]), bt247.2.1, bt257.2.2.2.2.2)) else (none))) else (if bt255.1 = 1 then ((spec_l13AnyWord.f k s0_0 bt255.2).bind fun bt266 => ((spec_l1Rd_of.f k s0_0 bt266.2 (([(⟨#[]⟩ : ByteArray), (⟨#[83, 71]⟩ : ByteArray), (⟨#[115]⟩ : ByteArray), (⟨#[65, 66, 67, 68, 69]⟩ : ByteArray)] : List ByteArray))).bind fun bt271 => (if bt247.2.1.length < 4398046511104 then (some (bt247.1, (bt247.2.1 ++ [(⟨bt266.1, bt271.1⟩ : S51)]), bt271.2)) else (none)))) else (if bt255.1 = 2 then (if (bt247.2.1.length : Int) > 0 then ((spec_l1Rd_of.f k s0_0 bt255.2 (([(⟨#[]⟩ : ByteArray), (⟨#[122, 122]⟩ : ByteArray), (⟨#[65]⟩ : ByteArray)] : List ByteArray))).bind fun bt279 => (if 0 < (bt247.2.1.length : Int) then (some (bt247.1, (bt247.2.1.set (0 : Int).toNat (⟨bt279.1, (rd_T51 bt247.2.1 0).f1⟩ : S51)), bt279.2)) else (none))) else (some (bt247.1, bt247.2.1, bt255.2))) else (some (bt247.1, bt247.2.1, bt255.2))))))
def spec_l13AnyBook.T4 : Bool × List (List Nat × List Nat) := (true, [([], []), ([0], [0]), ([], []), ([2], [2]), ([3], [3]), ([1, 4, 3], [1, 4]), ([0, 1, 2, 3, 4, 5], []), ([6, 5, 5, 0, 1, 2, 3, 4, 5], [5, 6])])
def spec_l13AnyBook.B4 : List Nat := [0, 1, 0, 4, 12, 31, 63, 127]
theorem spec_l13AnyBook.tab4 : rtab .any (opsOf Tryz.f14 4) = spec_l13AnyBook.T4 := by kernel_rfl
theorem spec_l13AnyBook.bits4 : waitsOk spec_l13AnyBook.T4.2 spec_l13AnyBook.B4 = true := by kernel_rfl
def spec_l13AnyBook.T6 : Bool × List (List Nat × List Nat) := (true, [([], []), ([0], [0]), ([], []), ([2], [2]), ([], []), ([], []), ([4, 5, 3], [4, 5]), ([3, 6], [3, 6]), ([7], [7]), ([1, 8, 6], [1, 8]), ([0, 1, 2, 3, 4, 5, 6, 7, 8, 9], []), ([10, 9, 9, 0, 1, 2, 3, 4, 5, 6, 7, 8, 9], [9, 10])])
def spec_l13AnyBook.B6 : List Nat := [0, 1, 0, 4, 0, 0, 60, 124, 252, 511, 1023, 2047]
theorem spec_l13AnyBook.tab6 : rtab .any (opsOf Tryz.f14 6) = spec_l13AnyBook.T6 := by kernel_rfl
theorem spec_l13AnyBook.bits6 : waitsOk spec_l13AnyBook.T6.2 spec_l13AnyBook.B6 = true := by kernel_rfl
def spec_l13AnyBook.T9 : Bool × List (List Nat × List Nat) := (true, [([], []), ([0], [0]), ([], []), ([], []), ([2, 3], [2, 3]), ([1, 0, 1, 2, 3, 4], [1]), ([5, 0, 1, 2, 3, 4], [5]), ([6, 4, 4, 0, 1, 2, 3, 4], [4, 6])])
def spec_l13AnyBook.B9 : List Nat := [0, 1, 0, 0, 12, 31, 63, 127]
theorem spec_l13AnyBook.tab9 : rtab .any (opsOf Tryz.f14 9) = spec_l13AnyBook.T9 := by kernel_rfl
theorem spec_l13AnyBook.bits9 : waitsOk spec_l13AnyBook.T9.2 spec_l13AnyBook.B9 = true := by kernel_rfl
theorem spec_l13AnyBook.calls (k : Nat) (g : Nat) (s0_0 : List Int) (s0_1 : Int) (r1 : List (S59)) (r2 : List (S51)) (r3 : Int) (w0 w : World) (hI : IsS56 w0 w g s0_0 s0_1) (hB : Below w0.heap.size w0 w) (h : spec_l13AnyBook.f k s0_0 s0_1 = some (r1, r2, r3)) :
  Calls Tryz.prog 14 #[.pointer (some ⟨g, 0, none⟩)] w fun e w' => ∃ v0_ v1_ : Value, e = .returned (.agg #[v0_, v1_]) ∧ Kd.R k59 59 w' w.heap.size (fun _ => True) v0_ r1 ∧ Kd.R k51 51 w' w.heap.size (fun _ => True) v1_ r2 ∧ IsS56 w0 w' g s0_0 r3 ∧ Below w0.heap.size w0 w' ∧ KeepBut w w' g none := by
 have hu26 := Tryz.underlying26; have hu51 := Tryz.underlying51; have HI0 := am hI; have HK := am (KeepBut.refl w g none); have HL := am hB.size; clear hI; have HW0 := am hB.size; have HB := am hB; clear hB
 have H := h; unfold spec_l13AnyBook.f at H
 clear h; replace H := bs H; obtain ⟨⟨t247, t250, t253⟩, A20, H⟩ := H; dsimp only at H; have A2 := Aside0.mk A20; clear A20; replace H := bs H; obtain ⟨⟨t255, t256⟩, A30, H⟩ := H; dsimp only at H; have A3 := Aside0.mk A30; clear A30
 by_cases c4 : t255 = 0
 ·rw [if_pos c4] at H
  have c4b0 : (t255 == 0) = true := beq_iff_eq.mpr c4
  have c4b1 : (t255 != 0) = false := bne_eq_false_iff_eq.mpr c4
  clear c4; replace H := bs H; obtain ⟨⟨t257, t258, t259, t260, t261, t262⟩, A50, H⟩ := H; dsimp only at H; have A5 := Aside0.mk A50; clear A50
  replace H := ip H; obtain ⟨c6, H⟩ := H; have LMc6 := Aside0.mk c6; clear c6; obtain ⟨y263, hy263⟩ : ∃ y_ : List (S59), y_ = (t247 ++ [(⟨t257, t258, t259, t260, t261⟩ : S59)]) := ⟨_, rfl⟩
  rw [← hy263] at H
  have Ny263 := am hy263; clear hy263; simp only [Option.some.injEq, Prod.mk.injEq] at H
  obtain ⟨rfl, rfl, rfl⟩ := H; go_enter Tryz.func14, Tryz.ntmps14
  try go_wp2_with (first | ((with_reducible refine gate_dst (N := 2) rfl ?_); refine bx 2 (cs := #[.slice none 0 0, .slice none 0 0]) (t := 26) ?_; intro gb246 hg w7 hbox hb; replace HB := am (below_step b1_ hb); have BK246 := am (hbox); have GW246 := am ((b3_ : w.heap.size ≤ gb246)); have GE246 := am ((Nat.le_trans HW0.out (b3_ : w.heap.size ≤ gb246) : w0.heap.size ≤ gb246)); replace HK := am (KeepBut.trans b0_ (KeepBut.of_below hb g none) (.inl rfl)); have NB0_246 := am ((b18_ : g ≠ gb246)); have NB246_0 := am ((b19_ : gb246 ≠ g)); replace HI0 := am (IsS56.below b2_ hb); clear hb hbox hg) | ((with_reducible refine gate_callee (f := 28) rfl ?_); refine gl 5 Tryz.func28 #[.pointer (some ⟨g, 0, none⟩)] ?_; (with_reducible refine (spec_l13Book.calls k g s0_0 s0_1 t247 t250 t253 w0 _ ?side1 ?side2 A2.out).mono ?_); (case side1 => repeat (with_reducible exact HI0.out)); (case side2 => repeat (with_reducible exact HB.out)); rintro e w8 ⟨v248, v251, rfl, ho0, ho1, hi, hb, hk⟩; refine ⟨_, rfl, ?_⟩; replace BK246 := am (KeepBut.blk hk (g' := gb246) (o := .cells #[.slice none 0 0, .slice none 0 0] 26 (0, 0)) (bq BK246.out) NB246_0.out (by simp)); have HO249 := am (Kd.R_lower ho0 (keep_size (w := w) (g := g) (row := none) b7_)); have HO252 := am (Kd.R_lower ho1 (keep_size (w := w) (g := g) (row := none) b7_)); replace HK := am (KeepBut.trans b7_ hk (.inl rfl)); replace HB := am (hb); replace HI0 := am (hi); clear hb hk hi; clear ho0 ho1) | ((with_reducible refine gate_dst (N := 3) rfl ?_); refine bx 3 (cs := #[.slice none 0 0, .slice none 0 0]) (t := 26) ?_; intro gb254 hg w9 hbox hb; replace HO249 := am (Kd.R_below (rq HO249.out) hb); replace HO252 := am (Kd.R_below (rq HO252.out) hb); replace HB := am (below_step b58_ hb); have BK254 := am (hbox); have GW254 := am ((b24_ : w.heap.size ≤ gb254)); have GE254 := am ((Nat.le_trans HW0.out (b24_ : w.heap.size ≤ gb254) : w0.heap.size ≤ gb254)); replace HK := am (KeepBut.trans b7_ (KeepBut.of_below hb g none) (.inl rfl)); have NB246_254 := am ((b75_ : gb246 ≠ gb254)); have NB254_246 := am ((b76_ : gb254 ≠ gb246)); replace BK246 := am (blk_below (bq BK246.out) hb); have NB0_254 := am ((b50_ : g ≠ gb254)); have NB254_0 := am ((b51_ : gb254 ≠ g)); replace HI0 := am (IsS56.below b64_ hb); clear hb hbox hg; obtain ⟨Ao10, co10, eo10⟩ := Kd.R_slice HO249.out; subst eo10; have hnb11 := NB254_246.out; have hnc11 := NB246_254.out; have hnb12 := NB254_0.out; have hnc12 := NB0_254.out; have ⟨hcz13_0, hcz13_1, hfz13_0, hfz13_1⟩ := b2c BK254.out; obtain ⟨Ao14, co14, eo14⟩ := Kd.R_slice HO252.out; subst eo14) | ((with_reducible refine gate_callee (f := 29) rfl ?_); refine gl 7 Tryz.func29 #[.pointer (some ⟨g, 0, none⟩), .int .i64 16] ?_; (with_reducible refine (spec_l1Rd_pick.calls k g s0_0 t253 16 t255 t256 w0 _ ?side1 ?side2 A3.out).mono ?_); (case side1 => repeat (with_reducible first | exact HI0.out | refine IsS56.far ?_ NB0_254.out _)); (case side2 => repeat (with_reducible first | exact HB.out | refine below_set ?_ GE254.out)); rintro e w15 ⟨rfl, hi, hb, hk⟩; refine ⟨_, rfl, ?_⟩; replace BK246 := am (KeepBut.blk hk (g' := gb246) (o := .cells #[.slice none 0 0, .slice none 0 0] 26 (0, 0)) b30_ NB246_0.out (by simp)); replace HO249 := am (Kd.R_mono (Kd.R_keep (IsS56.apart (show IsS56 w0 _ g s0_0 t253 from by repeat (with_reducible first | exact HI0.out | refine IsS56.far ?_ NB0_254.out _)) (rq ((Kd.R_mono (Kd.R_far (p := ⟨gb254, 1, none⟩) (Kd.R_far (p := ⟨gb254, 0, none⟩) (Kd.R_types HO249.out BK254.out (by decide)) (fun _ hk => hk.2) (.slice Ao10 t247.length co10)) (fun _ hk => hk.2) (.slice Ao14 t250.length co14)) (fun _ h_ => h_.1)))) (by decide)) hk (fun _ h => h.2)) (fun _ h => h.1)); replace HO252 := am (Kd.R_mono (Kd.R_keep (IsS56.apart (show IsS56 w0 _ g s0_0 t253 from by repeat (with_reducible first | exact HI0.out | refine IsS56.far ?_ NB0_254.out _)) (rq ((Kd.R_mono (Kd.R_far (p := ⟨gb254, 1, none⟩) (Kd.R_far (p := ⟨gb254, 0, none⟩) (Kd.R_types HO252.out BK254.out (by decide)) (fun _ hk => hk.2) (.slice Ao10 t247.length co10)) (fun _ hk => hk.2) (.slice Ao14 t250.length co14)) (fun _ h_ => h_.1)))) (by decide)) hk (fun _ h => h.2)) (fun _ h => h.1)); replace BK254 := am (KeepBut.blk hk (g' := gb254) (o := .cells #[.slice Ao10 t247.length co10, .slice Ao14 t250.length co14] 26 (0, 0)) (by (with_reducible repeat (fail)); refine blk_put (cs := #[.slice Ao10 t247.length co10, .slice none 0 0]) ?_ 1 _ rfl; (with_reducible repeat (fail)); refine blk_put (cs := #[.slice none 0 0, .slice none 0 0]) ?_ 0 _ rfl; (with_reducible repeat (fail)); exact BK254.out) NB254_0.out (by simp)); replace HK := am (KeepBut.trans b6_ hk (.inl rfl)); replace HB := am (hb); replace HI0 := am (hi); clear hb hk hi))
  replace HO249 := am (Kd.R_drew HO249.out); replace HO252 := am (Kd.R_drew HO252.out); replace BK246 := am (blk_drew BK246.out); replace BK254 := am (blk_drew BK254.out); replace HI0 := am (IsS56.drew HI0.out); replace HK := am (keep_drew HK.out); replace HB := am (below_drew1 HB.out)
  refine start_ (n := 8) (S := fun w' => w'.cell? ⟨gb254, 0, none⟩ = some (.slice Ao10 t247.length co10) ∧ w'.cell? ⟨gb254, 1, none⟩ = some (.slice Ao14 t250.length co14)) (ds := [7]) #[false, false, false, false, false, false, false, false] (by kernel_rfl) rfl rfl ⟨bd BK254.out 0, bd BK254.out 1⟩ (fun hHeld => ?_); refine with_tabW spec_l13AnyBook.tab4 spec_l13AnyBook.bits4 (fun HT_ HW_ => ?_)
  generalize w15.drew = w16 at HO249 HO252 BK246 BK254 HI0 HK HB hHeld ⊢; refine pu 0 10 ?_; refine pu 2 12 ?_; refine tk2 1 11 hHeld ?_; refine on1 3 13 (fun K hK => ?_)
  refine go1 Tryz.func30 #[.pointer (some ⟨g, 0, none⟩)] ?_
  with_reducible refine (spec_l13AnyAffix.calls k g s0_0 t256 t257 t258 t259 t260 t261 t262 w0 _ ?side1 ?side2 A5.out).mono ?_
  (case side1 => repeat (with_reducible exact HI0.out)); (case side2 => repeat (with_reducible exact HB.out))
  rintro e w17 ⟨rfl, hi, hb, hk⟩; refine ⟨_, rfl, ?_⟩; replace BK246 := am (KeepBut.blk hk (g' := gb246) (o := .cells #[.slice none 0 0, .slice none 0 0] 26 (0, 0)) (bq BK246.out) NB246_0.out (by simp))
  replace HO249 := am (Kd.R_mono (Kd.R_keep (IsS56.apart (show IsS56 w0 _ g s0_0 t256 from by repeat (with_reducible exact HI0.out)) (rq HO249.out) (by decide)) hk (fun _ h => h.2)) (fun _ h => h.1))
  replace HO252 := am (Kd.R_mono (Kd.R_keep (IsS56.apart (show IsS56 w0 _ g s0_0 t256 from by repeat (with_reducible exact HI0.out)) (rq HO252.out) (by decide)) hk (fun _ h => h.2)) (fun _ h => h.1))
  replace BK254 := am (KeepBut.blk hk (g' := gb254) (o := .cells #[.slice Ao10 t247.length co10, .slice Ao14 t250.length co14] 26 (0, 0)) (bq BK254.out) NB254_0.out (by simp)); replace HK := am (KeepBut.trans b6_ hk (.inl rfl)); replace HB := am (hb); replace HI0 := am (hi); clear hb hk hi; refine hK.out _ _ ⟨bd BK254.out 0, bd BK254.out 1⟩ (fun hHeld => ?_); clear hK K; refine nm 13 ?_; refine on1 4 14 (fun K hK => ?_)
  refine value_ (w1 := ?_) (v := ?_) (by rfl) rfl ?_ ?_
  rotate_left 2
  ·go_simp
   constructor
   ·rfl
   ·rfl
  refine hK.out _ _ ⟨bd (blk_alloc BK254.out _) 0, bd (blk_alloc BK254.out _) 1⟩ (fun hHeld => ?_); clear hK K; refine nm 14 ?_; refine on1 5 15 (fun K hK => ?_)
  refine Kd.R_append_step k59 w.heap.size (by rfl) (.tmp 11) (.tmp 14) 23 59 (.agg #[(.string ⟨#[]⟩), (.bool false), (.string ⟨#[]⟩), (.string ⟨#[]⟩), (.string ⟨#[]⟩)]) 72 rfl Tryz.underlying23 info59 rfl (by decide) (by omega) (.slice Ao10 t247.length co10) t247 (⟨t257, t258, t259, t260, t261⟩ : S59) [.string t257, .bool t258, .string t259, .string t260, .string t261] (fun _ => True) (fun _ => False) rfl rfl ?aP (fun _ hk => hk.elim) ?aF ?aO (Below.refl _ _) ?aS ?aL ?_
  (case aP => exact k59_mkM _ _ _ (⟨t257, t258, t259, t260, t261⟩ : S59)); (case aF => exact (fun _ _ => trivial)); (case aO => exact (rq HO249.out)); (case aS => exact (keep_size (w := w) (g := g) (row := none) b6_)); (case aL => have := LMc6.out; omega); intro v264 w18 ho hb hg hat; rw [← Ny263.out] at ho
  replace BK246 := am (blk_grown (g := gb246) (o := .cells #[.slice none 0 0, .slice none 0 0] 26 (0, 0)) (bq BK246.out) hg (Kd.R_ne HO249.out BK246.out (by decide))); replace HO252 := am (Kd.R_over' (rq HO252.out) (Kd.R_typed (rq HO249.out)) (by decide) hg); replace BK254 := am (blk_grown (g := gb254) (o := .cells #[.slice Ao10 t247.length co10, .slice Ao14 t250.length co14] 26 (0, 0)) (bq BK254.out) hg (Kd.R_ne HO249.out BK254.out (by decide))); replace HB := am (below_weaken b21_ HL.out hb); replace HI0 := am (IsS56.grown b22_ hg (IsS56.own_ne HI0.out HO249.out (by decide))); replace HK := am (KeepBut.trans b6_ (KeepBut.of_grown hg g) (Kd.R_base2 HO249.out)); have HO265 := am (ho); clear HO249; clear ho hb hg hat; obtain ⟨Ao19, co19, eo19⟩ := Kd.R_slice HO265.out
  (subst eo19)
  refine hK.out _ _ ⟨bd BK254.out 0, bd BK254.out 1⟩ (fun hHeld => ?_); clear hK K; refine nm 15 ?_; refine pu 6 16 ?_
  refine last_ (i := 7) (N := none) #[true, true, true, true, true, true, true, true] rfl rfl (one_of HT_.out (by kernel_rfl)) (by decide) (fun K hK => ?_)
  have hs20 : w18.cell? ⟨gb254, 0, none⟩ = some (.slice Ao10 t247.length co10) := bd BK254.out 0
  have hfs20 := bf BK254.out 0; have hns20_0 := NB246_254.out; have hms20_0 := NB254_246.out
  refine skip_ (w1 := ?_) (by rfl) rfl ?_ ?_
  rotate_left
  ·go_simp
   rfl
  refine hK.out _ _ ?_; clear hK K
  refine done_ (done_of HT_.out (by kernel_rfl)) ?_
  have ⟨hcz21_0, hcz21_1, hfz21_0, hfz21_1⟩ := b2c BK254.out; have hnb22 := NB246_0.out; have hnc22 := NB0_246.out; have ⟨hcz23_0, hcz23_1, hfz23_0, hfz23_1⟩ := b2c BK246.out
  try go_wp2
  refine bodyPost_ret (results_cell_row rfl _ _ gb246 26 #[.slice Ao19 y263.length co19, .slice Ao14 t250.length co14] (0, 0) _ rfl (by (with_reducible repeat (fail)); refine blk_put (cs := #[.slice Ao19 y263.length co19, .slice none 0 0]) ?_ 1 _ rfl; (with_reducible repeat (fail)); refine blk_put (cs := #[.slice none 0 0, .slice none 0 0]) ?_ 0 _ rfl; (with_reducible repeat (fail)); refine blk_far ?_ NB246_254.out _; (with_reducible repeat (fail)); exact BK246.out) Tryz.underlying26 rfl (by kernel_rfl)) rfl ?_
  exact ⟨_, _, eq_, by (with_reducible repeat (fail)); exact Kd.R_mono (Kd.R_far (p := ⟨gb246, 1, none⟩) (Kd.R_far (p := ⟨gb246, 0, none⟩) (Kd.R_far (p := ⟨gb254, 0, none⟩) (Kd.R_types (Kd.R_types HO265.out BK254.out (by decide)) BK246.out (by decide)) (fun _ hk => hk.1.2) (.slice Ao19 y263.length co19)) (fun _ hk => hk.2) (.slice Ao19 y263.length co19)) (fun _ hk => hk.2) (.slice Ao14 t250.length co14)) (fun _ hk => trivial), by (with_reducible repeat (fail)); exact Kd.R_mono (Kd.R_far (p := ⟨gb246, 1, none⟩) (Kd.R_far (p := ⟨gb246, 0, none⟩) (Kd.R_far (p := ⟨gb254, 0, none⟩) (Kd.R_types (Kd.R_types HO252.out BK254.out (by decide)) BK246.out (by decide)) (fun _ hk => hk.1.2) (.slice Ao19 y263.length co19)) (fun _ hk => hk.2) (.slice Ao19 y263.length co19)) (fun _ hk => hk.2) (.slice Ao14 t250.length co14)) (fun _ hk => trivial), b22_, b21_, b6_⟩
 rw [if_neg c4] at H
 have c4b0 : (t255 == 0) = false := beq_eq_false_iff_ne.mpr c4
 have c4b1 : (t255 != 0) = true := bne_iff_ne.mpr c4
 by_cases c24 : t255 = 1
 ·rw [if_pos c24] at H
  have c24b0 : (t255 == 1) = true := beq_iff_eq.mpr c24
  have c24b1 : (t255 != 1) = false := bne_eq_false_iff_eq.mpr c24
  clear c24; replace H := bs H; obtain ⟨⟨t266, t267⟩, A250, H⟩ := H; dsimp only at H; have A25 := Aside0.mk A250; clear A250; obtain ⟨y268, hy268⟩ : ∃ y_ : List ByteArray, y_ = (([(⟨#[]⟩ : ByteArray), (⟨#[83, 71]⟩ : ByteArray), (⟨#[115]⟩ : ByteArray), (⟨#[65, 66, 67, 68, 69]⟩ : ByteArray)] : List ByteArray)) := ⟨_, rfl⟩
  rw [← hy268] at H
  have Ny268 := am hy268; clear hy268; replace H := bs H; obtain ⟨⟨t271, t272⟩, A260, H⟩ := H; dsimp only at H; have A26 := Aside0.mk A260; clear A260
  replace H := ip H; obtain ⟨c27, H⟩ := H; have LMc27 := Aside0.mk c27; clear c27; obtain ⟨y273, hy273⟩ : ∃ y_ : List (S51), y_ = (t250 ++ [(⟨t266, t271⟩ : S51)]) := ⟨_, rfl⟩
  rw [← hy273] at H
  have Ny273 := am hy273; clear hy273; simp only [Option.some.injEq, Prod.mk.injEq] at H
  obtain ⟨rfl, rfl, rfl⟩ := H; go_enter Tryz.func14, Tryz.ntmps14
  try go_wp2_with (first | ((with_reducible refine gate_dst (N := 2) rfl ?_); refine bx 2 (cs := #[.slice none 0 0, .slice none 0 0]) (t := 26) ?_; intro gb246 hg w28 hbox hb; replace HB := am (below_step b1_ hb); have BK246 := am (hbox); have GW246 := am ((b3_ : w.heap.size ≤ gb246)); have GE246 := am ((Nat.le_trans HW0.out (b3_ : w.heap.size ≤ gb246) : w0.heap.size ≤ gb246)); replace HK := am (KeepBut.trans b0_ (KeepBut.of_below hb g none) (.inl rfl)); have NB0_246 := am ((b18_ : g ≠ gb246)); have NB246_0 := am ((b19_ : gb246 ≠ g)); replace HI0 := am (IsS56.below b2_ hb); clear hb hbox hg) | ((with_reducible refine gate_callee (f := 28) rfl ?_); refine gl 5 Tryz.func28 #[.pointer (some ⟨g, 0, none⟩)] ?_; (with_reducible refine (spec_l13Book.calls k g s0_0 s0_1 t247 t250 t253 w0 _ ?side1 ?side2 A2.out).mono ?_); (case side1 => repeat (with_reducible exact HI0.out)); (case side2 => repeat (with_reducible exact HB.out)); rintro e w29 ⟨v248, v251, rfl, ho0, ho1, hi, hb, hk⟩; refine ⟨_, rfl, ?_⟩; replace BK246 := am (KeepBut.blk hk (g' := gb246) (o := .cells #[.slice none 0 0, .slice none 0 0] 26 (0, 0)) (bq BK246.out) NB246_0.out (by simp)); have HO249 := am (Kd.R_lower ho0 (keep_size (w := w) (g := g) (row := none) b7_)); have HO252 := am (Kd.R_lower ho1 (keep_size (w := w) (g := g) (row := none) b7_)); replace HK := am (KeepBut.trans b7_ hk (.inl rfl)); replace HB := am (hb); replace HI0 := am (hi); clear hb hk hi; clear ho0 ho1) | ((with_reducible refine gate_dst (N := 3) rfl ?_); refine bx 3 (cs := #[.slice none 0 0, .slice none 0 0]) (t := 26) ?_; intro gb254 hg w30 hbox hb; replace HO249 := am (Kd.R_below (rq HO249.out) hb); replace HO252 := am (Kd.R_below (rq HO252.out) hb); replace HB := am (below_step b58_ hb); have BK254 := am (hbox); have GW254 := am ((b24_ : w.heap.size ≤ gb254)); have GE254 := am ((Nat.le_trans HW0.out (b24_ : w.heap.size ≤ gb254) : w0.heap.size ≤ gb254)); replace HK := am (KeepBut.trans b7_ (KeepBut.of_below hb g none) (.inl rfl)); have NB246_254 := am ((b75_ : gb246 ≠ gb254)); have NB254_246 := am ((b76_ : gb254 ≠ gb246)); replace BK246 := am (blk_below (bq BK246.out) hb); have NB0_254 := am ((b50_ : g ≠ gb254)); have NB254_0 := am ((b51_ : gb254 ≠ g)); replace HI0 := am (IsS56.below b64_ hb); clear hb hbox hg; obtain ⟨Ao31, co31, eo31⟩ := Kd.R_slice HO249.out; subst eo31; have hnb32 := NB254_246.out; have hnc32 := NB246_254.out; have hnb33 := NB254_0.out; have hnc33 := NB0_254.out; have ⟨hcz34_0, hcz34_1, hfz34_0, hfz34_1⟩ := b2c BK254.out; obtain ⟨Ao35, co35, eo35⟩ := Kd.R_slice HO252.out; subst eo35) | ((with_reducible refine gate_callee (f := 29) rfl ?_); refine gl 7 Tryz.func29 #[.pointer (some ⟨g, 0, none⟩), .int .i64 16] ?_; (with_reducible refine (spec_l1Rd_pick.calls k g s0_0 t253 16 t255 t256 w0 _ ?side1 ?side2 A3.out).mono ?_); (case side1 => repeat (with_reducible first | exact HI0.out | refine IsS56.far ?_ NB0_254.out _)); (case side2 => repeat (with_reducible first | exact HB.out | refine below_set ?_ GE254.out)); rintro e w36 ⟨rfl, hi, hb, hk⟩; refine ⟨_, rfl, ?_⟩; replace BK246 := am (KeepBut.blk hk (g' := gb246) (o := .cells #[.slice none 0 0, .slice none 0 0] 26 (0, 0)) b30_ NB246_0.out (by simp)); replace HO249 := am (Kd.R_mono (Kd.R_keep (IsS56.apart (show IsS56 w0 _ g s0_0 t253 from by repeat (with_reducible first | exact HI0.out | refine IsS56.far ?_ NB0_254.out _)) (rq ((Kd.R_mono (Kd.R_far (p := ⟨gb254, 1, none⟩) (Kd.R_far (p := ⟨gb254, 0, none⟩) (Kd.R_types HO249.out BK254.out (by decide)) (fun _ hk => hk.2) (.slice Ao31 t247.length co31)) (fun _ hk => hk.2) (.slice Ao35 t250.length co35)) (fun _ h_ => h_.1)))) (by decide)) hk (fun _ h => h.2)) (fun _ h => h.1)); replace HO252 := am (Kd.R_mono (Kd.R_keep (IsS56.apart (show IsS56 w0 _ g s0_0 t253 from by repeat (with_reducible first | exact HI0.out | refine IsS56.far ?_ NB0_254.out _)) (rq ((Kd.R_mono (Kd.R_far (p := ⟨gb254, 1, none⟩) (Kd.R_far (p := ⟨gb254, 0, none⟩) (Kd.R_types HO252.out BK254.out (by decide)) (fun _ hk => hk.2) (.slice Ao31 t247.length co31)) (fun _ hk => hk.2) (.slice Ao35 t250.length co35)) (fun _ h_ => h_.1)))) (by decide)) hk (fun _ h => h.2)) (fun _ h => h.1)); replace BK254 := am (KeepBut.blk hk (g' := gb254) (o := .cells #[.slice Ao31 t247.length co31, .slice Ao35 t250.length co35] 26 (0, 0)) (by (with_reducible repeat (fail)); refine blk_put (cs := #[.slice Ao31 t247.length co31, .slice none 0 0]) ?_ 1 _ rfl; (with_reducible repeat (fail)); refine blk_put (cs := #[.slice none 0 0, .slice none 0 0]) ?_ 0 _ rfl; (with_reducible repeat (fail)); exact BK254.out) NB254_0.out (by simp)); replace HK := am (KeepBut.trans b6_ hk (.inl rfl)); replace HB := am (hb); replace HI0 := am (hi); clear hb hk hi))
  replace HO249 := am (Kd.R_drew HO249.out); replace HO252 := am (Kd.R_drew HO252.out); replace BK246 := am (blk_drew BK246.out); replace BK254 := am (blk_drew BK254.out); replace HI0 := am (IsS56.drew HI0.out); replace HK := am (keep_drew HK.out); replace HB := am (below_drew1 HB.out)
  refine start_ (n := 12) (S := fun w' => w'.cell? ⟨gb254, 0, none⟩ = some (.slice Ao31 t247.length co31) ∧ w'.cell? ⟨gb254, 1, none⟩ = some (.slice Ao35 t250.length co35)) (ds := [11]) #[false, false, false, false, false, false, false, false, false, false, false, false] (by kernel_rfl) rfl rfl ⟨bd BK254.out 0, bd BK254.out 1⟩ (fun hHeld => ?_); refine with_tabW spec_l13AnyBook.tab6 spec_l13AnyBook.bits6 (fun HT_ HW_ => ?_)
  generalize w36.drew = w37 at HO249 HO252 BK246 BK254 HI0 HK HB hHeld ⊢; refine pu 0 19 ?_; refine pu 2 21 ?_; refine pu 4 23 ?_; refine tk2 1 20 hHeld ?_
  refine join_ (σ := Value) 6 #[true, true, true, true, true, true, false, false, false, false, false, false] (fun s_ => [(22, .string t266), (24, s_)]) (fun s_ w' => (w'.cell? ⟨gb254, 0, none⟩ = some (.slice Ao31 t247.length co31) ∧ w'.cell? ⟨gb254, 1, none⟩ = some (.slice Ao35 t250.length co35)) ∧ (Kd.R k59 59 w' w.heap.size (fun _ => True) (.slice Ao31 t247.length co31) t247) ∧ (Kd.R k51 51 w' w.heap.size (fun _ => True) (.slice Ao35 t250.length co35) t250) ∧ (Kd.R Kd.string 9 w' w.heap.size (fun _ => True) s_ y268) ∧ (w'.heap[gb246]? = some (.cells #[.slice none 0 0, .slice none 0 0] 26 (0, 0))) ∧ (w'.heap[gb254]? = some (.cells #[.slice Ao31 t247.length co31, .slice Ao35 t250.length co35] 26 (0, 0))) ∧ (IsS56 w0 w' g s0_0 t267) ∧ (KeepBut w w' g none) ∧ (Below w0.heap.size w0 w')) ?_ ?_
  rotate_left
  ·intro hCont
   refine two_ (i := 3) (j := 5) (Ni := some 22) (Nj := some 24) #[true, true, true, true, true, false, false, false, false, false, false, false] #[true, true, true, false, true, true, false, false, false, false, false, false] rfl rfl rfl rfl (two_of HT_.out (by kernel_rfl)) (by decide) (by decide) (fun K hK => ?_) (fun K hK => ?_)
   ·skip
    refine go1 Tryz.func31 #[.pointer (some ⟨g, 0, none⟩)] ?_
    with_reducible refine (spec_l13AnyWord.calls k g s0_0 t256 t266 t267 w0 _ ?side1 ?side2 A25.out).mono ?_
    (case side1 => repeat (with_reducible exact HI0.out)); (case side2 => repeat (with_reducible exact HB.out))
    rintro e w38 ⟨rfl, hi, hb, hk⟩; refine ⟨_, rfl, ?_⟩; replace BK246 := am (KeepBut.blk hk (g' := gb246) (o := .cells #[.slice none 0 0, .slice none 0 0] 26 (0, 0)) (bq BK246.out) NB246_0.out (by simp))
    replace HO249 := am (Kd.R_mono (Kd.R_keep (IsS56.apart (show IsS56 w0 _ g s0_0 t256 from by repeat (with_reducible exact HI0.out)) (rq HO249.out) (by decide)) hk (fun _ h => h.2)) (fun _ h => h.1))
    replace HO252 := am (Kd.R_mono (Kd.R_keep (IsS56.apart (show IsS56 w0 _ g s0_0 t256 from by repeat (with_reducible exact HI0.out)) (rq HO252.out) (by decide)) hk (fun _ h => h.2)) (fun _ h => h.1))
    replace BK254 := am (KeepBut.blk hk (g' := gb254) (o := .cells #[.slice Ao31 t247.length co31, .slice Ao35 t250.length co35] 26 (0, 0)) (bq BK254.out) NB254_0.out (by simp)); replace HK := am (KeepBut.trans b6_ hk (.inl rfl)); replace HB := am (hb); replace HI0 := am (hi); clear hb hk hi; refine hK.out _ _ ⟨bd BK254.out 0, bd BK254.out 1⟩ (fun hHeld => ?_); clear hK K; refine nm 22 ?_; refine on1 5 24 (fun K hK => ?_)
    refine Kd.R_lit_step Kd.string _ 9 ?hg (N := 24) ?hd (xs := ([(⟨#[]⟩ : ByteArray), (⟨#[83, 71]⟩ : ByteArray), (⟨#[115]⟩ : ByteArray), (⟨#[65, 66, 67, 68, 69]⟩ : ByteArray)] : List ByteArray)) (inner := [.string (⟨#[]⟩ : ByteArray), .string (⟨#[83, 71]⟩ : ByteArray), .string (⟨#[115]⟩ : ByteArray), .string (⟨#[65, 66, 67, 68, 69]⟩ : ByteArray)]) (ok := fun _ => True) (okp := fun _ => True) ?hr ?hp (fun _ hk => hk) trivial (Below.refl _ _) (Nat.le_refl _) (by simp) ?_; (case hd => rfl); (case hg => rfl); (case hr => (go_simp; done)); (case hp => exact (Reps.one (show Kd.M Kd.string _ _ _ (⟨#[]⟩ : ByteArray) [.string (⟨#[]⟩ : ByteArray)] from rfl) (Reps.one (show Kd.M Kd.string _ _ _ (⟨#[83, 71]⟩ : ByteArray) [.string (⟨#[83, 71]⟩ : ByteArray)] from rfl) (Reps.one (show Kd.M Kd.string _ _ _ (⟨#[115]⟩ : ByteArray) [.string (⟨#[115]⟩ : ByteArray)] from rfl) (Reps.one (show Kd.M Kd.string _ _ _ (⟨#[65, 66, 67, 68, 69]⟩ : ByteArray) [.string (⟨#[65, 66, 67, 68, 69]⟩ : ByteArray)] from rfl) (Reps.none _ _))))))
    intro v269 w39 ho40 hb hg_ hnew_; clear hg_ hnew_
    (rw [← Ny268.out] at ho40)
    replace HO249 := am (Kd.R_below (rq HO249.out) hb); replace HO252 := am (Kd.R_below (rq HO252.out) hb); have HO270 := am (Kd.R_lower ho40 (keep_size (w := w) (g := g) (row := none) b6_)); replace BK246 := am (blk_below (bq BK246.out) hb); replace BK254 := am (blk_below (bq BK254.out) hb); replace HK := am (KeepBut.trans b6_ (KeepBut.of_below hb g none) (.inl rfl)); replace HB := am (below_step b21_ hb); replace HI0 := am (IsS56.below b22_ hb); clear hb ho40; refine hK.out _ _ ⟨bd BK254.out 0, bd BK254.out 1⟩ (fun hHeld => ?_); clear hK K; refine nm 24 ?_; exact norm_ b68_ (hCont (v269) _ ⟨hHeld, (rq HO249.out), (rq HO252.out), (rq HO270.out), (bq BK246.out), (bq BK254.out), b22_, b6_, b21_⟩)
   ·skip
    refine Kd.R_lit_step Kd.string _ 9 ?hg (N := 24) ?hd (xs := ([(⟨#[]⟩ : ByteArray), (⟨#[83, 71]⟩ : ByteArray), (⟨#[115]⟩ : ByteArray), (⟨#[65, 66, 67, 68, 69]⟩ : ByteArray)] : List ByteArray)) (inner := [.string (⟨#[]⟩ : ByteArray), .string (⟨#[83, 71]⟩ : ByteArray), .string (⟨#[115]⟩ : ByteArray), .string (⟨#[65, 66, 67, 68, 69]⟩ : ByteArray)]) (ok := fun _ => True) (okp := fun _ => True) ?hr ?hp (fun _ hk => hk) trivial (Below.refl _ _) (Nat.le_refl _) (by simp) ?_; (case hd => rfl); (case hg => rfl); (case hr => (go_simp; done)); (case hp => exact (Reps.one (show Kd.M Kd.string _ _ _ (⟨#[]⟩ : ByteArray) [.string (⟨#[]⟩ : ByteArray)] from rfl) (Reps.one (show Kd.M Kd.string _ _ _ (⟨#[83, 71]⟩ : ByteArray) [.string (⟨#[83, 71]⟩ : ByteArray)] from rfl) (Reps.one (show Kd.M Kd.string _ _ _ (⟨#[115]⟩ : ByteArray) [.string (⟨#[115]⟩ : ByteArray)] from rfl) (Reps.one (show Kd.M Kd.string _ _ _ (⟨#[65, 66, 67, 68, 69]⟩ : ByteArray) [.string (⟨#[65, 66, 67, 68, 69]⟩ : ByteArray)] from rfl) (Reps.none _ _))))))
    intro v269 w38 ho39 hb hg_ hnew_; clear hg_ hnew_
    (rw [← Ny268.out] at ho39)
    replace HO249 := am (Kd.R_below (rq HO249.out) hb); replace HO252 := am (Kd.R_below (rq HO252.out) hb); have HO270 := am (Kd.R_lower ho39 (keep_size (w := w) (g := g) (row := none) b6_)); replace BK246 := am (blk_below (bq BK246.out) hb); replace BK254 := am (blk_below (bq BK254.out) hb); replace HK := am (KeepBut.trans b6_ (KeepBut.of_below hb g none) (.inl rfl)); replace HB := am (below_step b21_ hb); replace HI0 := am (IsS56.below b22_ hb); clear hb ho39; refine hK.out _ _ ⟨bd BK254.out 0, bd BK254.out 1⟩ (fun hHeld => ?_); clear hK K; refine nm 24 ?_; refine on1 3 22 (fun K hK => ?_)
    refine go1 Tryz.func31 #[.pointer (some ⟨g, 0, none⟩)] ?_
    with_reducible refine (spec_l13AnyWord.calls k g s0_0 t256 t266 t267 w0 _ ?side1 ?side2 A25.out).mono ?_
    (case side1 => repeat (with_reducible exact HI0.out)); (case side2 => repeat (with_reducible exact HB.out))
    rintro e w40 ⟨rfl, hi, hb, hk⟩; refine ⟨_, rfl, ?_⟩; replace BK246 := am (KeepBut.blk hk (g' := gb246) (o := .cells #[.slice none 0 0, .slice none 0 0] 26 (0, 0)) (bq BK246.out) NB246_0.out (by simp))
    replace HO249 := am (Kd.R_mono (Kd.R_keep (IsS56.apart (show IsS56 w0 _ g s0_0 t256 from by repeat (with_reducible exact HI0.out)) (rq HO249.out) (by decide)) hk (fun _ h => h.2)) (fun _ h => h.1))
    replace HO252 := am (Kd.R_mono (Kd.R_keep (IsS56.apart (show IsS56 w0 _ g s0_0 t256 from by repeat (with_reducible exact HI0.out)) (rq HO252.out) (by decide)) hk (fun _ h => h.2)) (fun _ h => h.1))
    replace BK254 := am (KeepBut.blk hk (g' := gb254) (o := .cells #[.slice Ao31 t247.length co31, .slice Ao35 t250.length co35] 26 (0, 0)) (bq BK254.out) NB254_0.out (by simp))
    replace HO270 := am (Kd.R_mono (Kd.R_keep (IsS56.apart (show IsS56 w0 _ g s0_0 t256 from by repeat (with_reducible exact HI0.out)) (rq HO270.out) (by decide)) hk (fun _ h => h.2)) (fun _ h => h.1))
    replace HK := am (KeepBut.trans b6_ hk (.inl rfl)); replace HB := am (hb); replace HI0 := am (hi); clear hb hk hi; refine hK.out _ _ ⟨bd BK254.out 0, bd BK254.out 1⟩ (fun hHeld => ?_); clear hK K; refine nm 22 ?_; exact norm_ b68_ (hCont (v269) _ ⟨hHeld, (rq HO249.out), (rq HO252.out), (rq HO270.out), (bq BK246.out), (bq BK254.out), b22_, b6_, b21_⟩)
  rintro v269 w41 ⟨hS_, h0_, h1_, h2_, h3_, h4_, h5_, h6_, h7_⟩
  have n0_ : Aside0 (Kd.R k59 59 w41 w.heap.size (fun _ => True) (.slice Ao31 t247.length co31) t247) := ⟨h0_⟩
  have n1_ : Aside0 (Kd.R k51 51 w41 w.heap.size (fun _ => True) (.slice Ao35 t250.length co35) t250) := ⟨h1_⟩
  have n2_ : Aside0 (Kd.R Kd.string 9 w41 w.heap.size (fun _ => True) v269 y268) := ⟨h2_⟩
  have n3_ : Aside0 (w41.heap[gb246]? = some (.cells #[.slice none 0 0, .slice none 0 0] 26 (0, 0))) := ⟨h3_⟩
  have n4_ : Aside0 (w41.heap[gb254]? = some (.cells #[.slice Ao31 t247.length co31, .slice Ao35 t250.length co35] 26 (0, 0))) := ⟨h4_⟩
  have n5_ : Aside0 (IsS56 w0 w41 g s0_0 t267) := ⟨h5_⟩
  have n6_ : Aside0 (KeepBut w w41 g none) := ⟨h6_⟩
  have n7_ : Aside0 (Below w0.heap.size w0 w41) := ⟨h7_⟩
  clear HO249; clear HO252; clear BK246; clear BK254; clear HI0; clear HK; clear HB; clear h0_ h1_ h2_ h3_ h4_ h5_ h6_ h7_; have HO249 := n0_; have HO252 := n1_; have HO270 := n2_; have BK246 := n3_; have BK254 := n4_; have HI0 := n5_; have HK := n6_; have HB := n7_; clear n0_ n1_ n2_ n3_ n4_ n5_ n6_ n7_
  have hHeld : w41.cell? ⟨gb254, 0, none⟩ = some (.slice Ao31 t247.length co31) ∧ w41.cell? ⟨gb254, 1, none⟩ = some (.slice Ao35 t250.length co35) := hS_
  obtain ⟨Ao42, co42, eo42⟩ := Kd.R_slice HO270.out
  (subst eo42)
  refine norm_ (a' := ?_) ?_ ?_
  rotate_left
  ·simp only [putAll, Act.put, List.setIfInBounds_toArray, List.set_cons_zero, List.set_cons_succ]
   rfl
  refine on1 6 25 (fun K hK => ?_)
  refine go1 Tryz.func32 #[.pointer (some ⟨g, 0, none⟩), .slice Ao42 y268.length co42] ?_
  with_reducible refine (spec_l1Rd_of.calls k g s0_0 t267 _ _ y268 t271 t272 w0 _ ?side1 ?side2 ?side3 ?side4 ?side5 A26.out).mono ?_
  (case side1 => repeat (with_reducible exact HI0.out)); (case side2 => repeat (with_reducible exact HB.out)); (case side3 => exact cq (Kd.R_reads' HO270.out).2.2); (case side4 => exact (Kd.R_reads' HO270.out).2.1); (case side5 => exact far_slice (IsS56.own_ne HI0.out HO270.out (by decide)))
  rintro e w43 ⟨rfl, hi, hb, hk⟩; refine ⟨_, rfl, ?_⟩; replace BK246 := am (KeepBut.blk hk (g' := gb246) (o := .cells #[.slice none 0 0, .slice none 0 0] 26 (0, 0)) (bq BK246.out) NB246_0.out (by simp))
  replace HO249 := am (Kd.R_mono (Kd.R_keep (IsS56.apart (show IsS56 w0 _ g s0_0 t267 from by repeat (with_reducible exact HI0.out)) (rq HO249.out) (by decide)) hk (fun _ h => h.2)) (fun _ h => h.1))
  replace HO252 := am (Kd.R_mono (Kd.R_keep (IsS56.apart (show IsS56 w0 _ g s0_0 t267 from by repeat (with_reducible exact HI0.out)) (rq HO252.out) (by decide)) hk (fun _ h => h.2)) (fun _ h => h.1))
  replace BK254 := am (KeepBut.blk hk (g' := gb254) (o := .cells #[.slice Ao31 t247.length co31, .slice Ao35 t250.length co35] 26 (0, 0)) (bq BK254.out) NB254_0.out (by simp))
  replace HO270 := am (Kd.R_mono (Kd.R_keep (IsS56.apart (show IsS56 w0 _ g s0_0 t267 from by repeat (with_reducible exact HI0.out)) (rq HO270.out) (by decide)) hk (fun _ h => h.2)) (fun _ h => h.1))
  replace HK := am (KeepBut.trans b6_ hk (.inl rfl)); replace HB := am (hb); replace HI0 := am (hi); clear hb hk hi; refine hK.out _ _ ⟨bd BK254.out 0, bd BK254.out 1⟩ (fun hHeld => ?_); clear hK K; refine nm 25 ?_; refine pu 7 26 ?_; refine on1 8 27 (fun K hK => ?_)
  refine value_ (w1 := ?_) (v := ?_) (by rfl) rfl ?_ ?_
  rotate_left 2
  ·go_simp
   constructor
   ·rfl
   ·rfl
  refine hK.out _ _ ⟨bd (blk_alloc BK254.out _) 0, bd (blk_alloc BK254.out _) 1⟩ (fun hHeld => ?_); clear hK K; refine nm 27 ?_; refine on1 9 28 (fun K hK => ?_)
  refine Kd.R_append_step k51 w.heap.size (by rfl) (.tmp 20) (.tmp 27) 24 51 (.agg #[(.string ⟨#[]⟩), (.string ⟨#[]⟩)]) 32 rfl Tryz.underlying24 info51 rfl (by decide) (by omega) (.slice Ao35 t250.length co35) t250 (⟨t266, t271⟩ : S51) [.string t266, .string t271] (fun _ => True) (fun _ => False) rfl rfl ?aP (fun _ hk => hk.elim) ?aF ?aO (Below.refl _ _) ?aS ?aL ?_
  (case aP => exact k51_mkM _ _ _ (⟨t266, t271⟩ : S51)); (case aF => exact (fun _ _ => trivial)); (case aO => exact (rq HO252.out)); (case aS => exact (keep_size (w := w) (g := g) (row := none) b6_)); (case aL => have := LMc27.out; omega); intro v274 w44 ho hb hg hat; rw [← Ny273.out] at ho
  replace BK246 := am (blk_grown (g := gb246) (o := .cells #[.slice none 0 0, .slice none 0 0] 26 (0, 0)) (bq BK246.out) hg (Kd.R_ne HO252.out BK246.out (by decide))); replace HO249 := am (Kd.R_over' (rq HO249.out) (Kd.R_typed (rq HO252.out)) (by decide) hg); replace BK254 := am (blk_grown (g := gb254) (o := .cells #[.slice Ao31 t247.length co31, .slice Ao35 t250.length co35] 26 (0, 0)) (bq BK254.out) hg (Kd.R_ne HO252.out BK254.out (by decide))); replace HO270 := am (Kd.R_over' (rq HO270.out) (Kd.R_typed (rq HO252.out)) (by decide) hg); replace HB := am (below_weaken b21_ HL.out hb); replace HI0 := am (IsS56.grown b22_ hg (IsS56.own_ne HI0.out HO252.out (by decide))); replace HK := am (KeepBut.trans b6_ (KeepBut.of_grown hg g) (Kd.R_base2 HO252.out)); have HO275 := am (ho); clear HO252; clear ho hb hg hat; obtain ⟨Ao45, co45, eo45⟩ := Kd.R_slice HO275.out
  (subst eo45)
  refine hK.out _ _ ⟨bd BK254.out 0, bd BK254.out 1⟩ (fun hHeld => ?_); clear hK K; refine nm 28 ?_; refine pu 10 29 ?_
  refine last_ (i := 11) (N := none) #[true, true, true, true, true, true, true, true, true, true, true, true] rfl rfl (one_of HT_.out (by kernel_rfl)) (by decide) (fun K hK => ?_)
  have hs46 : w44.cell? ⟨gb254, 1, none⟩ = some (.slice Ao35 t250.length co35) := bd BK254.out 1
  have hfs46 := bf BK254.out 1; have hns46_0 := NB246_254.out; have hms46_0 := NB254_246.out
  refine skip_ (w1 := ?_) (by rfl) rfl ?_ ?_
  rotate_left
  ·go_simp
   rfl
  refine hK.out _ _ ?_; clear hK K
  refine done_ (done_of HT_.out (by kernel_rfl)) ?_
  have ⟨hcz47_0, hcz47_1, hfz47_0, hfz47_1⟩ := b2c BK254.out; have hnb48 := NB246_0.out; have hnc48 := NB0_246.out; have ⟨hcz49_0, hcz49_1, hfz49_0, hfz49_1⟩ := b2c BK246.out
  try go_wp2
  refine bodyPost_ret (results_cell_row rfl _ _ gb246 26 #[.slice Ao31 t247.length co31, .slice Ao45 y273.length co45] (0, 0) _ rfl (by (with_reducible repeat (fail)); refine blk_put (cs := #[.slice Ao31 t247.length co31, .slice none 0 0]) ?_ 1 _ rfl; (with_reducible repeat (fail)); refine blk_put (cs := #[.slice none 0 0, .slice none 0 0]) ?_ 0 _ rfl; (with_reducible repeat (fail)); refine blk_far ?_ NB246_254.out _; (with_reducible repeat (fail)); exact BK246.out) Tryz.underlying26 rfl (by kernel_rfl)) rfl ?_
  exact ⟨_, _, eq_, by (with_reducible repeat (fail)); exact Kd.R_mono (Kd.R_far (p := ⟨gb246, 1, none⟩) (Kd.R_far (p := ⟨gb246, 0, none⟩) (Kd.R_far (p := ⟨gb254, 1, none⟩) (Kd.R_types (Kd.R_types HO249.out BK254.out (by decide)) BK246.out (by decide)) (fun _ hk => hk.1.2) (.slice Ao45 y273.length co45)) (fun _ hk => hk.2) (.slice Ao31 t247.length co31)) (fun _ hk => hk.2) (.slice Ao45 y273.length co45)) (fun _ hk => trivial), by (with_reducible repeat (fail)); exact Kd.R_mono (Kd.R_far (p := ⟨gb246, 1, none⟩) (Kd.R_far (p := ⟨gb246, 0, none⟩) (Kd.R_far (p := ⟨gb254, 1, none⟩) (Kd.R_types (Kd.R_types HO275.out BK254.out (by decide)) BK246.out (by decide)) (fun _ hk => hk.1.2) (.slice Ao45 y273.length co45)) (fun _ hk => hk.2) (.slice Ao31 t247.length co31)) (fun _ hk => hk.2) (.slice Ao45 y273.length co45)) (fun _ hk => trivial), b22_, b21_, b6_⟩
 rw [if_neg c24] at H
 have c24b0 : (t255 == 1) = false := beq_eq_false_iff_ne.mpr c24
 have c24b1 : (t255 != 1) = true := bne_iff_ne.mpr c24
 by_cases c50 : t255 = 2
 ·rw [if_pos c50] at H
  have c50b0 : (t255 == 2) = true := beq_iff_eq.mpr c50
  have c50b1 : (t255 != 2) = false := bne_eq_false_iff_eq.mpr c50
  clear c50
  by_cases c51 : (t250.length : Int) > 0
  ·rw [if_pos c51] at H; have c51b0 := decide_eq_true c51
   have c51b1 : decide (0 < t250.length) = true := decide_eq_true (by omega)
   clear c51; obtain ⟨y276, hy276⟩ : ∃ y_ : List ByteArray, y_ = (([(⟨#[]⟩ : ByteArray), (⟨#[122, 122]⟩ : ByteArray), (⟨#[65]⟩ : ByteArray)] : List ByteArray)) := ⟨_, rfl⟩
   rw [← hy276] at H
   have Ny276 := am hy276; clear hy276; replace H := bs H; obtain ⟨⟨t279, t280⟩, A520, H⟩ := H; dsimp only at H; have A52 := Aside0.mk A520; clear A520; replace H := ip H; obtain ⟨c53, H⟩ := H; have c53b0 := decide_eq_true c53
   have c53b1 : decide (0 < t250.length) = true := decide_eq_true (by omega)
   clear c53; obtain ⟨y281, hy281⟩ : ∃ y_ : List (S51), y_ = (t250.set (0 : Int).toNat (⟨t279, (rd_T51 t250 0).f1⟩ : S51)) := ⟨_, rfl⟩
   rw [← hy281] at H
   have Ny281 := am hy281; clear hy281; simp only [Option.some.injEq, Prod.mk.injEq] at H
   obtain ⟨rfl, rfl, rfl⟩ := H; go_enter Tryz.func14, Tryz.ntmps14
   try go_wp2_with (first | ((with_reducible refine gate_dst (N := 2) rfl ?_); refine bx 2 (cs := #[.slice none 0 0, .slice none 0 0]) (t := 26) ?_; intro gb246 hg w55 hbox hb; replace HB := am (below_step b1_ hb); have BK246 := am (hbox); have GW246 := am ((b3_ : w.heap.size ≤ gb246)); have GE246 := am ((Nat.le_trans HW0.out (b3_ : w.heap.size ≤ gb246) : w0.heap.size ≤ gb246)); replace HK := am (KeepBut.trans b0_ (KeepBut.of_below hb g none) (.inl rfl)); have NB0_246 := am ((b18_ : g ≠ gb246)); have NB246_0 := am ((b19_ : gb246 ≠ g)); replace HI0 := am (IsS56.below b2_ hb); clear hb hbox hg) | ((with_reducible refine gate_callee (f := 28) rfl ?_); refine gl 5 Tryz.func28 #[.pointer (some ⟨g, 0, none⟩)] ?_; (with_reducible refine (spec_l13Book.calls k g s0_0 s0_1 t247 t250 t253 w0 _ ?side1 ?side2 A2.out).mono ?_); (case side1 => repeat (with_reducible exact HI0.out)); (case side2 => repeat (with_reducible exact HB.out)); rintro e w56 ⟨v248, v251, rfl, ho0, ho1, hi, hb, hk⟩; refine ⟨_, rfl, ?_⟩; replace BK246 := am (KeepBut.blk hk (g' := gb246) (o := .cells #[.slice none 0 0, .slice none 0 0] 26 (0, 0)) (bq BK246.out) NB246_0.out (by simp)); have HO249 := am (Kd.R_lower ho0 (keep_size (w := w) (g := g) (row := none) b7_)); have HO252 := am (Kd.R_lower ho1 (keep_size (w := w) (g := g) (row := none) b7_)); replace HK := am (KeepBut.trans b7_ hk (.inl rfl)); replace HB := am (hb); replace HI0 := am (hi); clear hb hk hi; clear ho0 ho1) | ((with_reducible refine gate_dst (N := 3) rfl ?_); refine bx 3 (cs := #[.slice none 0 0, .slice none 0 0]) (t := 26) ?_; intro gb254 hg w57 hbox hb; replace HO249 := am (Kd.R_below (rq HO249.out) hb); replace HO252 := am (Kd.R_below (rq HO252.out) hb); replace HB := am (below_step b58_ hb); have BK254 := am (hbox); have GW254 := am ((b24_ : w.heap.size ≤ gb254)); have GE254 := am ((Nat.le_trans HW0.out (b24_ : w.heap.size ≤ gb254) : w0.heap.size ≤ gb254)); replace HK := am (KeepBut.trans b7_ (KeepBut.of_below hb g none) (.inl rfl)); have NB246_254 := am ((b75_ : gb246 ≠ gb254)); have NB254_246 := am ((b76_ : gb254 ≠ gb246)); replace BK246 := am (blk_below (bq BK246.out) hb); have NB0_254 := am ((b50_ : g ≠ gb254)); have NB254_0 := am ((b51_ : gb254 ≠ g)); replace HI0 := am (IsS56.below b64_ hb); clear hb hbox hg; obtain ⟨Ao58, co58, eo58⟩ := Kd.R_slice HO249.out; subst eo58; have hnb59 := NB254_246.out; have hnc59 := NB246_254.out; have hnb60 := NB254_0.out; have hnc60 := NB0_254.out; have ⟨hcz61_0, hcz61_1, hfz61_0, hfz61_1⟩ := b2c BK254.out; obtain ⟨Ao62, co62, eo62⟩ := Kd.R_slice HO252.out; subst eo62) | ((with_reducible refine gate_callee (f := 29) rfl ?_); refine gl 7 Tryz.func29 #[.pointer (some ⟨g, 0, none⟩), .int .i64 16] ?_; (with_reducible refine (spec_l1Rd_pick.calls k g s0_0 t253 16 t255 t256 w0 _ ?side1 ?side2 A3.out).mono ?_); (case side1 => repeat (with_reducible first | exact HI0.out | refine IsS56.far ?_ NB0_254.out _)); (case side2 => repeat (with_reducible first | exact HB.out | refine below_set ?_ GE254.out)); rintro e w63 ⟨rfl, hi, hb, hk⟩; refine ⟨_, rfl, ?_⟩; replace BK246 := am (KeepBut.blk hk (g' := gb246) (o := .cells #[.slice none 0 0, .slice none 0 0] 26 (0, 0)) b30_ NB246_0.out (by simp)); replace HO249 := am (Kd.R_mono (Kd.R_keep (IsS56.apart (show IsS56 w0 _ g s0_0 t253 from by repeat (with_reducible first | exact HI0.out | refine IsS56.far ?_ NB0_254.out _)) (rq ((Kd.R_mono (Kd.R_far (p := ⟨gb254, 1, none⟩) (Kd.R_far (p := ⟨gb254, 0, none⟩) (Kd.R_types HO249.out BK254.out (by decide)) (fun _ hk => hk.2) (.slice Ao58 t247.length co58)) (fun _ hk => hk.2) (.slice Ao62 t250.length co62)) (fun _ h_ => h_.1)))) (by decide)) hk (fun _ h => h.2)) (fun _ h => h.1)); replace HO252 := am (Kd.R_mono (Kd.R_keep (IsS56.apart (show IsS56 w0 _ g s0_0 t253 from by repeat (with_reducible first | exact HI0.out | refine IsS56.far ?_ NB0_254.out _)) (rq ((Kd.R_mono (Kd.R_far (p := ⟨gb254, 1, none⟩) (Kd.R_far (p := ⟨gb254, 0, none⟩) (Kd.R_types HO252.out BK254.out (by decide)) (fun _ hk => hk.2) (.slice Ao58 t247.length co58)) (fun _ hk => hk.2) (.slice Ao62 t250.length co62)) (fun _ h_ => h_.1)))) (by decide)) hk (fun _ h => h.2)) (fun _ h => h.1)); replace BK254 := am (KeepBut.blk hk (g' := gb254) (o := .cells #[.slice Ao58 t247.length co58, .slice Ao62 t250.length co62] 26 (0, 0)) (by (with_reducible repeat (fail)); refine blk_put (cs := #[.slice Ao58 t247.length co58, .slice none 0 0]) ?_ 1 _ rfl; (with_reducible repeat (fail)); refine blk_put (cs := #[.slice none 0 0, .slice none 0 0]) ?_ 0 _ rfl; (with_reducible repeat (fail)); exact BK254.out) NB254_0.out (by simp)); replace HK := am (KeepBut.trans b6_ hk (.inl rfl)); replace HB := am (hb); replace HI0 := am (hi); clear hb hk hi; have ⟨hcz64_0, hcz64_1, hfz64_0, hfz64_1⟩ := b2c BK254.out))
   replace HO249 := am (Kd.R_drew HO249.out); replace HO252 := am (Kd.R_drew HO252.out); replace BK246 := am (blk_drew BK246.out); replace BK254 := am (blk_drew BK254.out); replace HI0 := am (IsS56.drew HI0.out); replace HK := am (keep_drew HK.out); replace HB := am (below_drew1 HB.out)
   refine start_ (n := 8) (S := fun w' => w'.cell? ⟨gb254, 0, none⟩ = some (.slice Ao58 t247.length co58) ∧ w'.cell? ⟨gb254, 1, none⟩ = some (.slice Ao62 t250.length co62)) (ds := [7]) #[false, false, false, false, false, false, false, false] (by kernel_rfl) rfl rfl ⟨bd BK254.out 0, bd BK254.out 1⟩ (fun hHeld => ?_); refine with_tabW spec_l13AnyBook.tab9 spec_l13AnyBook.bits9 (fun HT_ HW_ => ?_)
   generalize w63.drew = w65 at HO249 HO252 BK246 BK254 HI0 HK HB hHeld ⊢; refine pu 0 36 ?_; refine pu 2 38 ?_; refine tk2 1 37 hHeld ?_; refine on1 3 39 (fun K hK => ?_)
   refine Kd.R_lit_step Kd.string _ 9 ?hg (N := 39) ?hd (xs := ([(⟨#[]⟩ : ByteArray), (⟨#[122, 122]⟩ : ByteArray), (⟨#[65]⟩ : ByteArray)] : List ByteArray)) (inner := [.string (⟨#[]⟩ : ByteArray), .string (⟨#[122, 122]⟩ : ByteArray), .string (⟨#[65]⟩ : ByteArray)]) (ok := fun _ => True) (okp := fun _ => True) ?hr ?hp (fun _ hk => hk) trivial (Below.refl _ _) (Nat.le_refl _) (by simp) ?_; (case hd => rfl); (case hg => rfl); (case hr => (go_simp; done)); (case hp => exact (Reps.one (show Kd.M Kd.string _ _ _ (⟨#[]⟩ : ByteArray) [.string (⟨#[]⟩ : ByteArray)] from rfl) (Reps.one (show Kd.M Kd.string _ _ _ (⟨#[122, 122]⟩ : ByteArray) [.string (⟨#[122, 122]⟩ : ByteArray)] from rfl) (Reps.one (show Kd.M Kd.string _ _ _ (⟨#[65]⟩ : ByteArray) [.string (⟨#[65]⟩ : ByteArray)] from rfl) (Reps.none _ _)))))
   intro v277 w66 ho67 hb hg_ hnew_; clear hg_ hnew_
   (rw [← Ny276.out] at ho67)
   replace HO249 := am (Kd.R_below (rq HO249.out) hb); replace HO252 := am (Kd.R_below (rq HO252.out) hb); have HO278 := am (Kd.R_lower ho67 (keep_size (w := w) (g := g) (row := none) b6_)); replace BK246 := am (blk_below (bq BK246.out) hb); replace BK254 := am (blk_below (bq BK254.out) hb); replace HK := am (KeepBut.trans b6_ (KeepBut.of_below hb g none) (.inl rfl)); replace HB := am (below_step b21_ hb); replace HI0 := am (IsS56.below b22_ hb); clear hb ho67; obtain ⟨Ao68, co68, eo68⟩ := Kd.R_slice HO278.out
   (subst eo68)
   refine hK.out _ _ ⟨bd BK254.out 0, bd BK254.out 1⟩ (fun hHeld => ?_); clear hK K; refine nm 39 ?_; refine on1 4 40 (fun K hK => ?_)
   refine go1 Tryz.func32 #[.pointer (some ⟨g, 0, none⟩), .slice Ao68 y276.length co68] ?_
   with_reducible refine (spec_l1Rd_of.calls k g s0_0 t256 _ _ y276 t279 t280 w0 _ ?side1 ?side2 ?side3 ?side4 ?side5 A52.out).mono ?_
   (case side1 => repeat (with_reducible exact HI0.out)); (case side2 => repeat (with_reducible exact HB.out)); (case side3 => exact cq (Kd.R_reads' HO278.out).2.2); (case side4 => exact (Kd.R_reads' HO278.out).2.1); (case side5 => exact far_slice (IsS56.own_ne HI0.out HO278.out (by decide)))
   rintro e w69 ⟨rfl, hi, hb, hk⟩; refine ⟨_, rfl, ?_⟩; replace BK246 := am (KeepBut.blk hk (g' := gb246) (o := .cells #[.slice none 0 0, .slice none 0 0] 26 (0, 0)) (bq BK246.out) NB246_0.out (by simp))
   replace HO249 := am (Kd.R_mono (Kd.R_keep (IsS56.apart (show IsS56 w0 _ g s0_0 t256 from by repeat (with_reducible exact HI0.out)) (rq HO249.out) (by decide)) hk (fun _ h => h.2)) (fun _ h => h.1))
   replace HO252 := am (Kd.R_mono (Kd.R_keep (IsS56.apart (show IsS56 w0 _ g s0_0 t256 from by repeat (with_reducible exact HI0.out)) (rq HO252.out) (by decide)) hk (fun _ h => h.2)) (fun _ h => h.1))
   replace BK254 := am (KeepBut.blk hk (g' := gb254) (o := .cells #[.slice Ao58 t247.length co58, .slice Ao62 t250.length co62] 26 (0, 0)) (bq BK254.out) NB254_0.out (by simp))
   replace HO278 := am (Kd.R_mono (Kd.R_keep (IsS56.apart (show IsS56 w0 _ g s0_0 t256 from by repeat (with_reducible exact HI0.out)) (rq HO278.out) (by decide)) hk (fun _ h => h.2)) (fun _ h => h.1))
   replace HK := am (KeepBut.trans b6_ hk (.inl rfl)); replace HB := am (hb); replace HI0 := am (hi); clear hb hk hi
   have p54 : 0 ≤ (0 : Int) := (by omega)
   have q54 : (0 : Int) < ((t250.length : Int) : Int) := of_decide_eq_true ad
   have qi54 : (0 < t250.length) = True := eq_true (by omega)
   obtain ⟨go54, co54, eo54, gb54, gl54, cl54, HG54⟩ := Kd.R_form HO252.out (by omega)
   (cases eo54)
   have GB54 := Aside0.mk gb54; have GG54 := am HG54; clear gb54 gl54 HG54; obtain ⟨ce54, hcl54, hM54, hcc54, hfr54⟩ := Kd.R_elem HO252.out z51 (0 : Int) p54 q54; obtain rfl := k51_openM hM54
   have hx54_0 : World.cell? _ ⟨go54, (0 : Int).toNat * 2, none⟩ = some (.string ((rd_T51 t250 0).f0)) := hcc54 0 _ rfl
   have hx54_1 : World.cell? _ ⟨go54, (0 : Int).toNat * 2 + 1, none⟩ = some (.string ((rd_T51 t250 0).f1)) := hcc54 1 _ rfl
   have hf54_0 : World.frozen? _ ⟨go54, (0 : Int).toNat * 2, none⟩ = false := hfr54 0
   have hf54_1 : World.frozen? _ ⟨go54, (0 : Int).toNat * 2 + 1, none⟩ = false := hfr54 1
   clear hcl54 hcc54 hfr54; clear hM54
   rw [show ((0 : Int)).toNat = 0 from rfl] at hx54_0
   simp only [Nat.reduceMul, Nat.zero_mul, Nat.zero_add, Nat.reduceAdd] at hx54_0
   rw [show ((0 : Int)).toNat = 0 from rfl] at hf54_0
   simp only [Nat.reduceMul, Nat.zero_mul, Nat.zero_add, Nat.reduceAdd] at hf54_0
   rw [show ((0 : Int)).toNat = 0 from rfl] at hx54_1
   simp only [Nat.reduceMul, Nat.zero_mul, Nat.zero_add, Nat.reduceAdd] at hx54_1
   rw [show ((0 : Int)).toNat = 0 from rfl] at hf54_1
   simp only [Nat.reduceMul, Nat.zero_mul, Nat.zero_add, Nat.reduceAdd] at hf54_1
   replace p54 := eq_true p54; replace q54 := eq_true q54
   have HN0_go54 := am (show g ≠ go54 from by have h_ := IsS56.own_ne HI0.out HO252.out (by decide); intro e_; exact h_ (by rw [e_]; rfl))
   obtain ⟨ce70, hcl70, hM70, hcc70, hfr70⟩ := Kd.R_elem HO252.out z51 (0 : Int) (by omega) b100_
   obtain rfl := k51_openM hM70
   have HP70 := (Kd.R_seg HO252.out (0 : Int) (by omega) b100_ (seg := [.string t279]) (j := 0) hcl70 hcc70 (show 1 ≤ 2 from by decide) (x' := (⟨t279, (rd_T51 t250 0).f1⟩ : S51)) (k51_mkM _ _ _ (⟨t279, (rd_T51 t250 0).f1⟩ : S51) ) (fun _ hk => hk)).1
   rw [← Ny281.out] at HP70; have HQ70 := am HP70
   clear hcl70 hcc70 hfr70 HP70; clear hM70; refine hK.out _ _ ⟨bd BK254.out 0, bd BK254.out 1⟩ (fun hHeld => ?_); clear hK K; refine nm 40 ?_; refine pu 5 41 ?_; refine pu 6 42 ?_
   refine last_ (i := 7) (N := none) #[true, true, true, true, true, true, true, true] rfl rfl (one_of HT_.out (by kernel_rfl)) (by decide) (fun K hK => ?_)
   refine skip_ (w1 := ?_) (by rfl) rfl ?_ ?_
   rotate_left
   ·go_simp
    rfl
   refine hK.out _ _ ?_; clear hK K
   refine done_ (done_of HT_.out (by kernel_rfl)) ?_
   have n0_ : Aside0 (Kd.R k59 59 (w69.setCell ⟨go54, 0, none⟩ (.string t279)) w.heap.size (fun _ => True) (.slice Ao58 t247.length co58) t247) := ⟨rq (Kd.R_mono (Kd.R_far (p := ⟨go54, 0, none⟩) (Kd.R_types HO249.out GG54.out (by decide)) (fun _ hk => hk.2) (.string t279)) (fun _ hk => trivial))⟩
   have n1_ : Aside0 (Kd.R k51 51 (w69.setCell ⟨go54, 0, none⟩ (.string t279)) w.heap.size (fun _ => True) (.slice (some ⟨go54, 0, none⟩) t250.length co62) y281) := ⟨rq HQ70.out⟩
   have n2_ : Aside0 (Kd.R Kd.string 9 (w69.setCell ⟨go54, 0, none⟩ (.string t279)) w.heap.size (fun _ => True) (.slice Ao68 y276.length co68) y276) := ⟨rq (Kd.R_mono (Kd.R_far (p := ⟨go54, 0, none⟩) (Kd.R_types HO278.out GG54.out (by decide)) (fun _ hk => hk.2) (.string t279)) (fun _ hk => trivial))⟩
   have n3_ : Aside0 ((w69.setCell ⟨go54, 0, none⟩ (.string t279)).heap[gb246]? = some (.cells #[.slice none 0 0, .slice none 0 0] 26 (0, 0))) := ⟨by (with_reducible repeat (fail)); refine blk_far ?_ (by have h_ := Kd.R_ne HO252.out BK246.out (by decide); intro e_; exact h_ (by rw [e_]; rfl)) _; (with_reducible repeat (fail)); exact BK246.out⟩
   have n4_ : Aside0 ((w69.setCell ⟨go54, 0, none⟩ (.string t279)).heap[gb254]? = some (.cells #[.slice Ao58 t247.length co58, .slice (some ⟨go54, 0, none⟩) t250.length co62] 26 (0, 0))) := ⟨by (with_reducible repeat (fail)); refine blk_far ?_ (by have h_ := Kd.R_ne HO252.out BK254.out (by decide); intro e_; exact h_ (by rw [e_]; rfl)) _; (with_reducible repeat (fail)); exact BK254.out⟩
   have n5_ : Aside0 (IsS56 w0 (w69.setCell ⟨go54, 0, none⟩ (.string t279)) g s0_0 t280) := ⟨by repeat (with_reducible first | exact HI0.out | refine IsS56.far ?_ HN0_go54.out _)⟩
   have n6_ : Aside0 (KeepBut w (w69.setCell ⟨go54, 0, none⟩ (.string t279)) g none) := ⟨by repeat (with_reducible first | exact HK.out | refine keep_far ?_ GB54.out _)⟩
   have n7_ : Aside0 (Below w0.heap.size w0 (w69.setCell ⟨go54, 0, none⟩ (.string t279))) := ⟨by repeat (with_reducible first | exact HB.out | refine below_set ?_ (Nat.le_trans HL.out GB54.out))⟩
   clear HO249 HO252 HO278 BK246 BK254 HI0 HK HB; generalize (w69.setCell ⟨go54, 0, none⟩ (.string t279)) = w71 at n0_ n1_ n2_ n3_ n4_ n5_ n6_ n7_ ⊢
   have HO249 := n0_; have HO252 := n1_; have HO278 := n2_; have BK246 := n3_; have BK254 := n4_; have HI0 := n5_; have HK := n6_; have HB := n7_; clear n0_ n1_ n2_ n3_ n4_ n5_ n6_ n7_; have ⟨hcz72_0, hcz72_1, hfz72_0, hfz72_1⟩ := b2c BK254.out; have hnb73 := NB246_0.out; have hnc73 := NB0_246.out; have ⟨hcz74_0, hcz74_1, hfz74_0, hfz74_1⟩ := b2c BK246.out
   try go_wp2
   refine bodyPost_ret (results_cell_row rfl _ _ gb246 26 #[.slice Ao58 t247.length co58, .slice (some ⟨go54, 0, none⟩) t250.length co62] (0, 0) _ rfl (by (with_reducible repeat (fail)); refine blk_put (cs := #[.slice Ao58 t247.length co58, .slice none 0 0]) ?_ 1 _ rfl; (with_reducible repeat (fail)); refine blk_put (cs := #[.slice none 0 0, .slice none 0 0]) ?_ 0 _ rfl; (with_reducible repeat (fail)); exact BK246.out) Tryz.underlying26 rfl (by kernel_rfl)) rfl ?_
   exact ⟨_, _, eq_, by (with_reducible repeat (fail)); exact Kd.R_mono (Kd.R_far (p := ⟨gb246, 1, none⟩) (Kd.R_far (p := ⟨gb246, 0, none⟩) (Kd.R_types HO249.out BK246.out (by decide)) (fun _ hk => hk.2) (.slice Ao58 t247.length co58)) (fun _ hk => hk.2) (.slice (some ⟨go54, 0, none⟩) t250.length co62)) (fun _ hk => trivial), by (with_reducible repeat (fail)); exact Kd.R_mono (Kd.R_far (p := ⟨gb246, 1, none⟩) (Kd.R_far (p := ⟨gb246, 0, none⟩) (Kd.R_types HO252.out BK246.out (by decide)) (fun _ hk => hk.2) (.slice Ao58 t247.length co58)) (fun _ hk => hk.2) (.slice (some ⟨go54, 0, none⟩) t250.length co62)) (fun _ hk => trivial), b22_, b21_, b6_⟩
  rw [if_neg c51] at H; have c51b0 := decide_eq_false c51
  have c51b1 : decide (0 < t250.length) = false := decide_eq_false (by omega)
  clear c51; simp only [Option.some.injEq, Prod.mk.injEq] at H
  obtain ⟨rfl, rfl, rfl⟩ := H; go_enter Tryz.func14, Tryz.ntmps14
  go_wp2_with (first | ((with_reducible refine gate_dst (N := 2) rfl ?_); refine bx 2 (cs := #[.slice none 0 0, .slice none 0 0]) (t := 26) ?_; intro gb246 hg w75 hbox hb; replace HB := am (below_step b1_ hb); have BK246 := am (hbox); have GW246 := am ((b3_ : w.heap.size ≤ gb246)); have GE246 := am ((Nat.le_trans HW0.out (b3_ : w.heap.size ≤ gb246) : w0.heap.size ≤ gb246)); replace HK := am (KeepBut.trans b0_ (KeepBut.of_below hb g none) (.inl rfl)); have NB0_246 := am ((b18_ : g ≠ gb246)); have NB246_0 := am ((b19_ : gb246 ≠ g)); replace HI0 := am (IsS56.below b2_ hb); clear hb hbox hg) | ((with_reducible refine gate_callee (f := 28) rfl ?_); refine gl 5 Tryz.func28 #[.pointer (some ⟨g, 0, none⟩)] ?_; (with_reducible refine (spec_l13Book.calls k g s0_0 s0_1 t247 t250 t253 w0 _ ?side1 ?side2 A2.out).mono ?_); (case side1 => repeat (with_reducible exact HI0.out)); (case side2 => repeat (with_reducible exact HB.out)); rintro e w76 ⟨v248, v251, rfl, ho0, ho1, hi, hb, hk⟩; refine ⟨_, rfl, ?_⟩; replace BK246 := am (KeepBut.blk hk (g' := gb246) (o := .cells #[.slice none 0 0, .slice none 0 0] 26 (0, 0)) (bq BK246.out) NB246_0.out (by simp)); have HO249 := am (Kd.R_lower ho0 (keep_size (w := w) (g := g) (row := none) b7_)); have HO252 := am (Kd.R_lower ho1 (keep_size (w := w) (g := g) (row := none) b7_)); replace HK := am (KeepBut.trans b7_ hk (.inl rfl)); replace HB := am (hb); replace HI0 := am (hi); clear hb hk hi; clear ho0 ho1) | ((with_reducible refine gate_dst (N := 3) rfl ?_); refine bx 3 (cs := #[.slice none 0 0, .slice none 0 0]) (t := 26) ?_; intro gb254 hg w77 hbox hb; replace HO249 := am (Kd.R_below (rq HO249.out) hb); replace HO252 := am (Kd.R_below (rq HO252.out) hb); replace HB := am (below_step b58_ hb); have BK254 := am (hbox); have GW254 := am ((b24_ : w.heap.size ≤ gb254)); have GE254 := am ((Nat.le_trans HW0.out (b24_ : w.heap.size ≤ gb254) : w0.heap.size ≤ gb254)); replace HK := am (KeepBut.trans b7_ (KeepBut.of_below hb g none) (.inl rfl)); have NB246_254 := am ((b75_ : gb246 ≠ gb254)); have NB254_246 := am ((b76_ : gb254 ≠ gb246)); replace BK246 := am (blk_below (bq BK246.out) hb); have NB0_254 := am ((b50_ : g ≠ gb254)); have NB254_0 := am ((b51_ : gb254 ≠ g)); replace HI0 := am (IsS56.below b64_ hb); clear hb hbox hg; obtain ⟨Ao78, co78, eo78⟩ := Kd.R_slice HO249.out; subst eo78; have hnb79 := NB254_246.out; have hnc79 := NB246_254.out; have hnb80 := NB254_0.out; have hnc80 := NB0_254.out; have ⟨hcz81_0, hcz81_1, hfz81_0, hfz81_1⟩ := b2c BK254.out; obtain ⟨Ao82, co82, eo82⟩ := Kd.R_slice HO252.out; subst eo82) | ((with_reducible refine gate_callee (f := 29) rfl ?_); refine gl 7 Tryz.func29 #[.pointer (some ⟨g, 0, none⟩), .int .i64 16] ?_; (with_reducible refine (spec_l1Rd_pick.calls k g s0_0 t253 16 t255 t256 w0 _ ?side1 ?side2 A3.out).mono ?_); (case side1 => repeat (with_reducible first | exact HI0.out | refine IsS56.far ?_ NB0_254.out _)); (case side2 => repeat (with_reducible first | exact HB.out | refine below_set ?_ GE254.out)); rintro e w83 ⟨rfl, hi, hb, hk⟩; refine ⟨_, rfl, ?_⟩; replace BK246 := am (KeepBut.blk hk (g' := gb246) (o := .cells #[.slice none 0 0, .slice none 0 0] 26 (0, 0)) b30_ NB246_0.out (by simp)); replace HO249 := am (Kd.R_mono (Kd.R_keep (IsS56.apart (show IsS56 w0 _ g s0_0 t253 from by repeat (with_reducible first | exact HI0.out | refine IsS56.far ?_ NB0_254.out _)) (rq ((Kd.R_mono (Kd.R_far (p := ⟨gb254, 1, none⟩) (Kd.R_far (p := ⟨gb254, 0, none⟩) (Kd.R_types HO249.out BK254.out (by decide)) (fun _ hk => hk.2) (.slice Ao78 t247.length co78)) (fun _ hk => hk.2) (.slice Ao82 t250.length co82)) (fun _ h_ => h_.1)))) (by decide)) hk (fun _ h => h.2)) (fun _ h => h.1)); replace HO252 := am (Kd.R_mono (Kd.R_keep (IsS56.apart (show IsS56 w0 _ g s0_0 t253 from by repeat (with_reducible first | exact HI0.out | refine IsS56.far ?_ NB0_254.out _)) (rq ((Kd.R_mono (Kd.R_far (p := ⟨gb254, 1, none⟩) (Kd.R_far (p := ⟨gb254, 0, none⟩) (Kd.R_types HO252.out BK254.out (by decide)) (fun _ hk => hk.2) (.slice Ao78 t247.length co78)) (fun _ hk => hk.2) (.slice Ao82 t250.length co82)) (fun _ h_ => h_.1)))) (by decide)) hk (fun _ h => h.2)) (fun _ h => h.1)); replace BK254 := am (KeepBut.blk hk (g' := gb254) (o := .cells #[.slice Ao78 t247.length co78, .slice Ao82 t250.length co82] 26 (0, 0)) (by (with_reducible repeat (fail)); refine blk_put (cs := #[.slice Ao78 t247.length co78, .slice none 0 0]) ?_ 1 _ rfl; (with_reducible repeat (fail)); refine blk_put (cs := #[.slice none 0 0, .slice none 0 0]) ?_ 0 _ rfl; (with_reducible repeat (fail)); exact BK254.out) NB254_0.out (by simp)); replace HK := am (KeepBut.trans b6_ hk (.inl rfl)); replace HB := am (hb); replace HI0 := am (hi); clear hb hk hi; have ⟨hcz84_0, hcz84_1, hfz84_0, hfz84_1⟩ := b2c BK254.out; have hnb85 := NB246_0.out; have hnc85 := NB0_246.out; have ⟨hcz86_0, hcz86_1, hfz86_0, hfz86_1⟩ := b2c BK246.out))
  refine bodyPost_ret (results_cell_row rfl _ _ gb246 26 #[.slice Ao78 t247.length co78, .slice Ao82 t250.length co82] (0, 0) _ rfl (by (with_reducible repeat (fail)); refine blk_put (cs := #[.slice Ao78 t247.length co78, .slice none 0 0]) ?_ 1 _ rfl; (with_reducible repeat (fail)); refine blk_put (cs := #[.slice none 0 0, .slice none 0 0]) ?_ 0 _ rfl; (with_reducible repeat (fail)); exact BK246.out) Tryz.underlying26 rfl (by kernel_rfl)) rfl ?_
  exact ⟨_, _, eq_, by (with_reducible repeat (fail)); exact Kd.R_mono (Kd.R_far (p := ⟨gb246, 1, none⟩) (Kd.R_far (p := ⟨gb246, 0, none⟩) (Kd.R_types HO249.out BK246.out (by decide)) (fun _ hk => hk.2) (.slice Ao78 t247.length co78)) (fun _ hk => hk.2) (.slice Ao82 t250.length co82)) (fun _ hk => trivial), by (with_reducible repeat (fail)); exact Kd.R_mono (Kd.R_far (p := ⟨gb246, 1, none⟩) (Kd.R_far (p := ⟨gb246, 0, none⟩) (Kd.R_types HO252.out BK246.out (by decide)) (fun _ hk => hk.2) (.slice Ao78 t247.length co78)) (fun _ hk => hk.2) (.slice Ao82 t250.length co82)) (fun _ hk => trivial), b22_, b21_, b6_⟩
 rw [if_neg c50] at H
 have c50b0 : (t255 == 2) = false := beq_eq_false_iff_ne.mpr c50
 have c50b1 : (t255 != 2) = true := bne_iff_ne.mpr c50
 simp only [Option.some.injEq, Prod.mk.injEq] at H
 obtain ⟨rfl, rfl, rfl⟩ := H; go_enter Tryz.func14, Tryz.ntmps14
 go_wp2_with (first | ((with_reducible refine gate_dst (N := 2) rfl ?_); refine bx 2 (cs := #[.slice none 0 0, .slice none 0 0]) (t := 26) ?_; intro gb246 hg w87 hbox hb; replace HB := am (below_step b1_ hb); have BK246 := am (hbox); have GW246 := am ((b3_ : w.heap.size ≤ gb246)); have GE246 := am ((Nat.le_trans HW0.out (b3_ : w.heap.size ≤ gb246) : w0.heap.size ≤ gb246)); replace HK := am (KeepBut.trans b0_ (KeepBut.of_below hb g none) (.inl rfl)); have NB0_246 := am ((b18_ : g ≠ gb246)); have NB246_0 := am ((b19_ : gb246 ≠ g)); replace HI0 := am (IsS56.below b2_ hb); clear hb hbox hg) | ((with_reducible refine gate_callee (f := 28) rfl ?_); refine gl 5 Tryz.func28 #[.pointer (some ⟨g, 0, none⟩)] ?_; (with_reducible refine (spec_l13Book.calls k g s0_0 s0_1 t247 t250 t253 w0 _ ?side1 ?side2 A2.out).mono ?_); (case side1 => repeat (with_reducible exact HI0.out)); (case side2 => repeat (with_reducible exact HB.out)); rintro e w88 ⟨v248, v251, rfl, ho0, ho1, hi, hb, hk⟩; refine ⟨_, rfl, ?_⟩; replace BK246 := am (KeepBut.blk hk (g' := gb246) (o := .cells #[.slice none 0 0, .slice none 0 0] 26 (0, 0)) (bq BK246.out) NB246_0.out (by simp)); have HO249 := am (Kd.R_lower ho0 (keep_size (w := w) (g := g) (row := none) b7_)); have HO252 := am (Kd.R_lower ho1 (keep_size (w := w) (g := g) (row := none) b7_)); replace HK := am (KeepBut.trans b7_ hk (.inl rfl)); replace HB := am (hb); replace HI0 := am (hi); clear hb hk hi; clear ho0 ho1) | ((with_reducible refine gate_dst (N := 3) rfl ?_); refine bx 3 (cs := #[.slice none 0 0, .slice none 0 0]) (t := 26) ?_; intro gb254 hg w89 hbox hb; replace HO249 := am (Kd.R_below (rq HO249.out) hb); replace HO252 := am (Kd.R_below (rq HO252.out) hb); replace HB := am (below_step b58_ hb); have BK254 := am (hbox); have GW254 := am ((b24_ : w.heap.size ≤ gb254)); have GE254 := am ((Nat.le_trans HW0.out (b24_ : w.heap.size ≤ gb254) : w0.heap.size ≤ gb254)); replace HK := am (KeepBut.trans b7_ (KeepBut.of_below hb g none) (.inl rfl)); have NB246_254 := am ((b75_ : gb246 ≠ gb254)); have NB254_246 := am ((b76_ : gb254 ≠ gb246)); replace BK246 := am (blk_below (bq BK246.out) hb); have NB0_254 := am ((b50_ : g ≠ gb254)); have NB254_0 := am ((b51_ : gb254 ≠ g)); replace HI0 := am (IsS56.below b64_ hb); clear hb hbox hg; obtain ⟨Ao90, co90, eo90⟩ := Kd.R_slice HO249.out; subst eo90; have hnb91 := NB254_246.out; have hnc91 := NB246_254.out; have hnb92 := NB254_0.out; have hnc92 := NB0_254.out; have ⟨hcz93_0, hcz93_1, hfz93_0, hfz93_1⟩ := b2c BK254.out; obtain ⟨Ao94, co94, eo94⟩ := Kd.R_slice HO252.out; subst eo94) | ((with_reducible refine gate_callee (f := 29) rfl ?_); refine gl 7 Tryz.func29 #[.pointer (some ⟨g, 0, none⟩), .int .i64 16] ?_; (with_reducible refine (spec_l1Rd_pick.calls k g s0_0 t253 16 t255 t256 w0 _ ?side1 ?side2 A3.out).mono ?_); (case side1 => repeat (with_reducible first | exact HI0.out | refine IsS56.far ?_ NB0_254.out _)); (case side2 => repeat (with_reducible first | exact HB.out | refine below_set ?_ GE254.out)); rintro e w95 ⟨rfl, hi, hb, hk⟩; refine ⟨_, rfl, ?_⟩; replace BK246 := am (KeepBut.blk hk (g' := gb246) (o := .cells #[.slice none 0 0, .slice none 0 0] 26 (0, 0)) b30_ NB246_0.out (by simp)); replace HO249 := am (Kd.R_mono (Kd.R_keep (IsS56.apart (show IsS56 w0 _ g s0_0 t253 from by repeat (with_reducible first | exact HI0.out | refine IsS56.far ?_ NB0_254.out _)) (rq ((Kd.R_mono (Kd.R_far (p := ⟨gb254, 1, none⟩) (Kd.R_far (p := ⟨gb254, 0, none⟩) (Kd.R_types HO249.out BK254.out (by decide)) (fun _ hk => hk.2) (.slice Ao90 t247.length co90)) (fun _ hk => hk.2) (.slice Ao94 t250.length co94)) (fun _ h_ => h_.1)))) (by decide)) hk (fun _ h => h.2)) (fun _ h => h.1)); replace HO252 := am (Kd.R_mono (Kd.R_keep (IsS56.apart (show IsS56 w0 _ g s0_0 t253 from by repeat (with_reducible first | exact HI0.out | refine IsS56.far ?_ NB0_254.out _)) (rq ((Kd.R_mono (Kd.R_far (p := ⟨gb254, 1, none⟩) (Kd.R_far (p := ⟨gb254, 0, none⟩) (Kd.R_types HO252.out BK254.out (by decide)) (fun _ hk => hk.2) (.slice Ao90 t247.length co90)) (fun _ hk => hk.2) (.slice Ao94 t250.length co94)) (fun _ h_ => h_.1)))) (by decide)) hk (fun _ h => h.2)) (fun _ h => h.1)); replace BK254 := am (KeepBut.blk hk (g' := gb254) (o := .cells #[.slice Ao90 t247.length co90, .slice Ao94 t250.length co94] 26 (0, 0)) (by (with_reducible repeat (fail)); refine blk_put (cs := #[.slice Ao90 t247.length co90, .slice none 0 0]) ?_ 1 _ rfl; (with_reducible repeat (fail)); refine blk_put (cs := #[.slice none 0 0, .slice none 0 0]) ?_ 0 _ rfl; (with_reducible repeat (fail)); exact BK254.out) NB254_0.out (by simp)); replace HK := am (KeepBut.trans b6_ hk (.inl rfl)); replace HB := am (hb); replace HI0 := am (hi); clear hb hk hi; have ⟨hcz96_0, hcz96_1, hfz96_0, hfz96_1⟩ := b2c BK254.out; have hnb97 := NB246_0.out; have hnc97 := NB0_246.out; have ⟨hcz98_0, hcz98_1, hfz98_0, hfz98_1⟩ := b2c BK246.out))
 refine bodyPost_ret (results_cell_row rfl _ _ gb246 26 #[.slice Ao90 t247.length co90, .slice Ao94 t250.length co94] (0, 0) _ rfl (by (with_reducible repeat (fail)); refine blk_put (cs := #[.slice Ao90 t247.length co90, .slice none 0 0]) ?_ 1 _ rfl; (with_reducible repeat (fail)); refine blk_put (cs := #[.slice none 0 0, .slice none 0 0]) ?_ 0 _ rfl; (with_reducible repeat (fail)); exact BK246.out) Tryz.underlying26 rfl (by kernel_rfl)) rfl ?_
 exact ⟨_, _, eq_, by (with_reducible repeat (fail)); exact Kd.R_mono (Kd.R_far (p := ⟨gb246, 1, none⟩) (Kd.R_far (p := ⟨gb246, 0, none⟩) (Kd.R_types HO249.out BK246.out (by decide)) (fun _ hk => hk.2) (.slice Ao90 t247.length co90)) (fun _ hk => hk.2) (.slice Ao94 t250.length co94)) (fun _ hk => trivial), by (with_reducible repeat (fail)); exact Kd.R_mono (Kd.R_far (p := ⟨gb246, 1, none⟩) (Kd.R_far (p := ⟨gb246, 0, none⟩) (Kd.R_types HO252.out BK246.out (by decide)) (fun _ hk => hk.2) (.slice Ao90 t247.length co90)) (fun _ hk => hk.2) (.slice Ao94 t250.length co94)) (fun _ hk => trivial), b22_, b21_, b6_⟩
-- shrunk

/-! ### spec_l1Letters: function 43 -/
def spec_l1Letters.l0 : Nat → ByteArray → Int → Int → Option (Bool)
 | 0, _, _, _ => none
 | k + 1, x0, x1, x5 => if x5 < (x0.size : Int) then (if 0 ≤ x5 then (if (bt x0 x5) < 97 then (some false) else (if (bt x0 x5) > 122 then (some false) else (spec_l1Letters.l0 k x0 x1 (wrap64 (x5 + 1))))) else (none)) else (some (decide ((x0.size : Int) ≤ x1)))
def spec_l1Letters.f (k : Nat) (a0 : ByteArray) (a1 : Int) : Option (Bool) := spec_l1Letters.l0 k a0 a1 0
theorem spec_l1Letters.calls (k : Nat) (a0 : ByteArray) (a1 : Int) (r : Bool) (w : World) (h : spec_l1Letters.f k a0 a1 = some r) :
  Calls Tryz.prog 43 #[.string a0, .int .i64 a1] w fun e w' => e = .returned (.bool r) ∧ Drawn0 w w' := by
 have H := h; unfold spec_l1Letters.f at H
 clear h
 have H' := am H
 clear H; go_enter Tryz.func43, Tryz.ntmps43; go_wp2
 go_loopg [5] k (fun kq v5 w' => ∃ (x5_1 : Int), v5 = .int .i64 x5_1 ∧ Aside0 (spec_l1Letters.l0 kq a0 a1 x5_1 = some r) ∧ Aside0 (kq ≤ k) ∧ Drawn0 w w')
 case atStart => exact ⟨(0), sq, H', ⟨Nat.le_refl _⟩, dr⟩
 case round =>
  clear H'; obtain ⟨x5_1, rfl, HA, HK1, ⟨m1, rfl⟩⟩ := hrel
  cases gk with
  | zero => exact absurd HA.out (by simp [spec_l1Letters.l0])
  | succ k1 =>
   have H := HA.out; clear HA; simp only [spec_l1Letters.l0] at H
   by_cases c3 : x5_1 < (a0.size : Int)
   ·rw [if_pos c3] at H; have c3b0 := decide_eq_true c3; clear c3
    replace H := it H; obtain ⟨c4b0, H⟩ := H
    by_cases c6 : (bt a0 x5_1) < 97
    ·rw [if_pos c6] at H; have c6b0 := decide_eq_true c6; clear c6; obtain rfl := Option.some.inj H
     have p5 : 0 ≤ (x5_1 : Int) := of_decide_eq_true ad
     have q5 : x5_1 < (a0.size : Int) := of_decide_eq_true ad
     have hx5 := bt_at a0 x5_1; replace p5 := eq_true p5; replace q5 := eq_true q5; go_wp2; go_ret
     exact ⟨sq, dr⟩
    rw [if_neg c6] at H; have c6b0 := decide_eq_false c6; clear c6
    by_cases c8 : (bt a0 x5_1) > 122
    ·rw [if_pos c8] at H; have c8b0 := decide_eq_true c8; clear c8; obtain rfl := Option.some.inj H
     have p5 : 0 ≤ (x5_1 : Int) := of_decide_eq_true ad
     have q5 : x5_1 < (a0.size : Int) := of_decide_eq_true ad
     have hx5 := bt_at a0 x5_1; replace p5 := eq_true p5; replace q5 := eq_true q5
     have p7 : 0 ≤ (x5_1 : Int) := of_decide_eq_true ad
     have q7 : x5_1 < (a0.size : Int) := of_decide_eq_true ad
     have hx7 := bt_at a0 x5_1; replace p7 := eq_true p7; replace q7 := eq_true q7; go_wp2; go_ret
     exact ⟨sq, dr⟩
    rw [if_neg c8] at H; have c8b0 := decide_eq_false c8; clear c8
    have H' := am H
    clear H
    have p5 : 0 ≤ (x5_1 : Int) := of_decide_eq_true ad
    have q5 : x5_1 < (a0.size : Int) := of_decide_eq_true ad
    have hx5 := bt_at a0 x5_1; replace p5 := eq_true p5; replace q5 := eq_true q5
    have p7 : 0 ≤ (x5_1 : Int) := of_decide_eq_true ad
    have q7 : x5_1 < (a0.size : Int) := of_decide_eq_true ad
    have hx7 := bt_at a0 x5_1; replace p7 := eq_true p7; replace q7 := eq_true q7; go_wp2
    go_roundg k1
    case measure => have := HK1.out; omega
    case rel => exact ⟨(wrap64 (x5_1 + 1)), sq, H', ⟨b81_⟩, dr⟩
   rw [if_neg c3] at H; have c3b0 := decide_eq_false c3; clear c3; obtain rfl := Option.some.inj H; go_wp2; go_ret
   exact ⟨sq, dr⟩

/-! ### spec_l1Word: function 21 -/
def spec_l1Word.f (k : Nat) (a0 : ByteArray) : Option (Bool) := if (a0.size : Int) > 0 then ((spec_l1Letters.f k a0 12).bind fun t282 => (some t282)) else (some false)
theorem spec_l1Word.calls (k : Nat) (a0 : ByteArray) (r : Bool) (w : World) (h : spec_l1Word.f k a0 = some r) :
  Calls Tryz.prog 21 #[.string a0] w fun e w' => e = .returned (.bool r) ∧ Drawn0 w w' := by
 have H := h; unfold spec_l1Word.f at H
 clear h
 by_cases c2 : (a0.size : Int) > 0
 ·rw [if_pos c2] at H; have c2b0 := decide_eq_true c2
  have c2b1 : decide (0 < a0.size) = true := decide_eq_true (by omega)
  clear c2; replace H := bs H; obtain ⟨t282, A30, H⟩ := H; have A3 := Aside0.mk A30; clear A30; obtain rfl := Option.some.inj H; go_enter Tryz.func21, Tryz.ntmps21
  go_wp2_with (go_at_call 43; (with_reducible refine (spec_l1Letters.calls k a0 12 t282 _ A3.out).mono ?_); rintro e w' ⟨rfl, ⟨nd, rfl⟩⟩)
  go_ret
  exact ⟨sq, dr⟩
 rw [if_neg c2] at H; have c2b0 := decide_eq_false c2
 have c2b1 : decide (0 < a0.size) = false := decide_eq_false (by omega)
 clear c2; obtain rfl := Option.some.inj H; go_enter Tryz.func21, Tryz.ntmps21; go_wp2; go_ret
 exact ⟨sq, dr⟩

/-! ### spec_l1Step: function 55 -/
def spec_l1Step.j0 : Nat → List ByteArray → ByteArray → Bool → Option (List ByteArray)
 | 0, _, _, _ => none
 | k + 1, x0, x2, x14 => if x14 = true then (some x0) else ((spec_l1Put.f k x0 x2).bind fun t284 => (some t284))
def spec_l1Step.f (k : Nat) (l0 : List ByteArray) (a1 : ByteArray) (a2 : ByteArray) : Option (List ByteArray) := if a2.toList = a1.toList then (spec_l1Step.j0 k l0 a2 true) else ((spec_l1Word.f k a2).bind fun t283 => (spec_l1Step.j0 k l0 a2 (!t283)))
theorem spec_l1Step.calls (k : Nat) (P0_ : Nat → Prop) (A0 : Option Addr) (c0 : Nat) (l0 : List ByteArray) (a1 : ByteArray) (a2 : ByteArray) (r : List ByteArray) (w : World) (hs0 : Kd.V Kd.string 9 w w.heap.size (fun k_ => P0_ k_) (.slice A0 l0.length c0) l0) (h : spec_l1Step.f k l0 a1 a2 = some r) :
  Calls Tryz.prog 55 #[.slice A0 l0.length c0, .string a1, .string a2] w fun e w' => ∃ v0_ : Value, e = .returned (v0_) ∧ Kd.V Kd.string 9 w' w.heap.size (fun k_ => (P0_ k_ ∨ w.heap.size ≤ k_)) v0_ r ∧ Below w.heap.size w w' := by
 have HO0 := am (show Kd.V Kd.string 9 w w.heap.size (fun k_ => (P0_ k_ ∨ w.heap.size ≤ k_)) (.slice A0 l0.length c0) l0 from Kd.V_mono hs0 (fun k_ hk => .inl hk)); have HB := am (Below.refl w.heap.size w)
 have H := h; unfold spec_l1Step.f at H
 clear h; have HC4 := am H; clear H; go_enter Tryz.func55, Tryz.ntmps55
 go_upto_region 1 with (fail)
 go_cut [14] (fun v14 wc => ∃ (kq : Nat) (x14_3 : Bool), v14 = .bool x14_3 ∧ Aside0 (spec_l1Step.j0 kq l0 a2 x14_3 = some r) ∧ Aside0 (kq ≤ k) ∧ Aside0 (Kd.V Kd.string 9 wc w.heap.size (fun k_ => (P0_ k_ ∨ w.heap.size ≤ k_)) (.slice A0 l0.length c0) l0) ∧ Aside0 (Below w.heap.size w wc))
 case first =>
  have H := HC4.out; clear HC4
  by_cases c5 : a2.toList = a1.toList
  ·rw [if_pos c5] at H
   have c5b0 : (a2.toList == a1.toList) = true := beq_iff_eq.mpr c5
   have c5b1 : (a2.toList != a1.toList) = false := bne_eq_false_iff_eq.mpr c5
   clear c5
   (skip)
   have H' := am H
   clear H; go_wp2
   go_meet
   case rel => exact ⟨_, (true), sq, H', ⟨b59_⟩, ⟨vq HO0.out⟩, ⟨bel⟩⟩
  rw [if_neg c5] at H
  have c5b0 : (a2.toList == a1.toList) = false := beq_eq_false_iff_ne.mpr c5
  have c5b1 : (a2.toList != a1.toList) = true := bne_iff_ne.mpr c5
  (skip)
  replace H := bs H; obtain ⟨t283, A60, H⟩ := H; have A6 := Aside0.mk A60; clear A60
  have H' := am H
  clear H
  go_wp2_with (go_at_call 21; (with_reducible refine (spec_l1Word.calls k a2 t283 _ A6.out).mono ?_); rintro e w' ⟨rfl, ⟨nd, rfl⟩⟩)
  go_meet
  case rel => exact ⟨_, (!t283), sq, H', ⟨b59_⟩, ⟨vq HO0.out⟩, ⟨bel⟩⟩
 case rest =>
  clear HC4; obtain ⟨kq, x14_3, rfl, HA, HJ3, HO_0, HB⟩ := hcut
  cases kq with
  | zero => exact absurd HA.out (by simp [spec_l1Step.j0])
  | succ kj3 =>
   have H := HA.out; clear HA; simp only [spec_l1Step.j0] at H
   by_cases c7 : x14_3 = true
   ·subst c7
    have H1 : (some l0) = some r := b26_
    replace H := H1; clear H1
    obtain rfl := Option.some.inj H; go_wp2; go_ret
    exact ⟨_, eq_, by (with_reducible repeat (fail)); exact HO_0.out, bel⟩
   replace c7 := Bool.eq_false_iff.mpr c7; subst c7
   have H1 : ((spec_l1Put.f kj3 l0 a2).bind fun t284 => (some t284)) = some r := b10_
   replace H := H1; clear H1
   replace H := bs H; obtain ⟨t284, A80, H⟩ := H; have A8 := Aside0.mk A80; clear A80; obtain rfl := Option.some.inj H
   go_wp2_with ((with_reducible refine gate_callee (f := 45) rfl ?_); refine gl 18 Tryz.func45 #[.slice A0 l0.length c0, .string a2] ?_; (with_reducible refine (spec_l1Put.calls kj3 (fun k_ => (P0_ k_ ∨ w.heap.size ≤ k_)) _ _ l0 a2 t284 _ ?side1 A8.out).mono ?_); (case side1 => exact HO_0.out); rintro e w9 ⟨v285, rfl, ho0, hb⟩; refine ⟨_, rfl, ?_⟩; replace HO_0 := am (Kd.V_below (vq HO_0.out) hb); have HO286 := am (Kd.V_lower (Kd.V_mono (ok' := fun k_ => (P0_ k_ ∨ w.heap.size ≤ k_)) ho0 (fun k_ hk_ => Or.elim hk_ (fun hs_ => hs_) (fun hn_ => (.inr (Nat.le_trans (below_size bel) hn_))))) (below_size bel)); replace HB := am (below_step bel hb); clear hb; clear ho0)
   go_ret
   exact ⟨_, eq_, by (with_reducible repeat (fail)); exact HO286.out, bel⟩
-- shrunk

/-! ### spec_l1Near: function 33 -/
mutual
def spec_l1Near.l0 : Nat → ByteArray → List ByteArray → Int → Option (List ByteArray)
 | 0, _, _, _ => none
 | k + 1, x0, x3, x4 => if x4 ≤ (x0.size : Int) then (spec_l1Near.l1 k x0 x3 x4 97) else (some x3)
def spec_l1Near.l1 : Nat → ByteArray → List ByteArray → Int → Int → Option (List ByteArray)
 | 0, _, _, _, _ => none
 | k + 1, x0, x3, x4, x5 => if x5 ≤ 122 then (if 0 ≤ x4 then (if x4 ≤ (x0.size : Int) then ((some (([(x5) % 256] : List Int) : List Int)).bind fun y290 => (if (x0.extract 0 (x4 : Int).toNat).size + (strOfNums y290).size ≤ 9223372036854775807 then (if ((x0.extract 0 (x4 : Int).toNat) ++ (strOfNums y290)).size + (x0.extract (x4 : Int).toNat x0.size).size ≤ 9223372036854775807 then ((spec_l1Step.f k x3 x0 (((x0.extract 0 (x4 : Int).toNat) ++ (strOfNums y290)) ++ (x0.extract (x4 : Int).toNat x0.size))).bind fun t293 => (if x4 < (x0.size : Int) then ((some (([(x5) % 256] : List Int) : List Int)).bind fun y296 => (if (x0.extract 0 (x4 : Int).toNat).size + (strOfNums y296).size ≤ 9223372036854775807 then (if 0 ≤ (wrap64 (x4 + 1)) then (if (wrap64 (x4 + 1)) ≤ (x0.size : Int) then (if ((x0.extract 0 (x4 : Int).toNat) ++ (strOfNums y296)).size + (x0.extract ((wrap64 (x4 + 1)) : Int).toNat x0.size).size ≤ 9223372036854775807 then ((spec_l1Step.f k t293 x0 (((x0.extract 0 (x4 : Int).toNat) ++ (strOfNums y296)) ++ (x0.extract ((wrap64 (x4 + 1)) : Int).toNat x0.size))).bind fun t299 => (spec_l1Near.l1 k x0 t299 x4 (wrap32 (x5 + 1)))) else (none)) else (none)) else (none)) else (none))) else (spec_l1Near.l1 k x0 t293 x4 (wrap32 (x5 + 1))))) else (none)) else (none))) else (none)) else (none)) else (if x4 < (x0.size : Int) then (if 0 ≤ x4 then (if x4 ≤ (x0.size : Int) then (if 0 ≤ (wrap64 (x4 + 1)) then (if (wrap64 (x4 + 1)) ≤ (x0.size : Int) then (if (x0.extract 0 (x4 : Int).toNat).size + (x0.extract ((wrap64 (x4 + 1)) : Int).toNat x0.size).size ≤ 9223372036854775807 then ((spec_l1Step.f k x3 x0 ((x0.extract 0 (x4 : Int).toNat) ++ (x0.extract ((wrap64 (x4 + 1)) : Int).toNat x0.size))).bind fun t302 => (spec_l1Near.j2 k x0 t302 x4)) else (none)) else (none)) else (none)) else (none)) else (none)) else (spec_l1Near.j2 k x0 x3 x4))
def spec_l1Near.j2 : Nat → ByteArray → List ByteArray → Int → Option (List ByteArray)
 | 0, _, _, _ => none
 | k + 1, x0, x3, x4 => if (wrap64 (x4 + 1)) < (x0.size : Int) then (if 0 ≤ x4 then (if x4 ≤ (x0.size : Int) then (if 0 ≤ (wrap64 (x4 + 1)) then (if (wrap64 (x4 + 1)) ≤ (wrap64 (x4 + 2)) then (if (wrap64 (x4 + 2)) ≤ (x0.size : Int) then (if (x0.extract 0 (x4 : Int).toNat).size + (x0.extract ((wrap64 (x4 + 1)) : Int).toNat ((wrap64 (x4 + 2)) : Int).toNat).size ≤ 9223372036854775807 then (if x4 ≤ (wrap64 (x4 + 1)) then (if (wrap64 (x4 + 1)) ≤ (x0.size : Int) then (if ((x0.extract 0 (x4 : Int).toNat) ++ (x0.extract ((wrap64 (x4 + 1)) : Int).toNat ((wrap64 (x4 + 2)) : Int).toNat)).size + (x0.extract (x4 : Int).toNat ((wrap64 (x4 + 1)) : Int).toNat).size ≤ 9223372036854775807 then (if 0 ≤ (wrap64 (x4 + 2)) then (if (((x0.extract 0 (x4 : Int).toNat) ++ (x0.extract ((wrap64 (x4 + 1)) : Int).toNat ((wrap64 (x4 + 2)) : Int).toNat)) ++ (x0.extract (x4 : Int).toNat ((wrap64 (x4 + 1)) : Int).toNat)).size + (x0.extract ((wrap64 (x4 + 2)) : Int).toNat x0.size).size ≤ 9223372036854775807 then ((spec_l1Step.f k x3 x0 ((((x0.extract 0 (x4 : Int).toNat) ++ (x0.extract ((wrap64 (x4 + 1)) : Int).toNat ((wrap64 (x4 + 2)) : Int).toNat)) ++ (x0.extract (x4 : Int).toNat ((wrap64 (x4 + 1)) : Int).toNat)) ++ (x0.extract ((wrap64 (x4 + 2)) : Int).toNat x0.size))).bind fun t305 => (spec_l1Near.l0 k x0 t305 (wrap64 (x4 + 1)))) else (none)) else (none)) else (none)) else (none)) else (none)) else (none)) else (none)) else (none)) else (none)) else (none)) else (none)) else (spec_l1Near.l0 k x0 x3 (wrap64 (x4 + 1)))
end
def spec_l1Near.f (k : Nat) (a0 : ByteArray) : Option (List ByteArray) := spec_l1Near.l0 k a0 (([] : List ByteArray)) 0
def spec_l1Near.T8 : Bool × List (List Nat × List Nat) := (true, [([], []), ([], []), ([], []), ([], []), ([2, 3], [2, 3]), ([], []), ([5], [5]), ([6], [6]), ([7], [7]), ([4, 8], [4, 8]), ([], []), ([], []), ([10, 11], [10, 11]), ([9, 12], [9, 12]), ([0, 1, 13], [0, 1, 13]), ([14, 14, 0, 1, 2, 3, 4, 5, 6, 7, 8, 9, 10, 11, 12, 13, 14], [0, 14])])
def spec_l1Near.B8 : List Nat := [0, 0, 0, 0, 12, 0, 32, 96, 224, 508, 0, 0, 3072, 8188, 16383, 32767]
theorem spec_l1Near.tab8 : rtab .any (opsOf Tryz.f33 8) = spec_l1Near.T8 := by kernel_rfl
theorem spec_l1Near.bits8 : waitsOk spec_l1Near.T8.2 spec_l1Near.B8 = true := by kernel_rfl
def spec_l1Near.T10 : Bool × List (List Nat × List Nat) := (true, [([], []), ([], []), ([], []), ([], []), ([2, 3], [2, 3]), ([], []), ([5], [5]), ([6], [6]), ([7], [7]), ([4, 8], [4, 8]), ([], []), ([], []), ([11], [11]), ([10, 12], [10, 12]), ([9, 13], [9, 13]), ([0, 1, 14], [0, 1, 14]), ([15, 15, 0, 1, 2, 3, 4, 5, 6, 7, 8, 9, 10, 11, 12, 13, 14, 15], [0, 15])])
def spec_l1Near.B10 : List Nat := [0, 0, 0, 0, 12, 0, 32, 96, 224, 508, 0, 0, 2048, 7168, 16380, 32767, 65535]
theorem spec_l1Near.tab10 : rtab .any (opsOf Tryz.f33 10) = spec_l1Near.T10 := by kernel_rfl
theorem spec_l1Near.bits10 : waitsOk spec_l1Near.T10.2 spec_l1Near.B10 = true := by kernel_rfl
def spec_l1Near.T12 : Bool × List (List Nat × List Nat) := (true, [([], []), ([], []), ([], []), ([], []), ([2, 3], [2, 3]), ([], []), ([], []), ([6], [6]), ([5, 7], [5, 7]), ([4, 8], [4, 8]), ([0, 1, 9], [0, 1, 9]), ([10, 10, 0, 1, 2, 3, 4, 5, 6, 7, 8, 9, 10], [0, 10])])
def spec_l1Near.B12 : List Nat := [0, 0, 0, 0, 12, 0, 0, 64, 224, 508, 1023, 2047]
theorem spec_l1Near.tab12 : rtab .any (opsOf Tryz.f33 12) = spec_l1Near.T12 := by kernel_rfl
theorem spec_l1Near.bits12 : waitsOk spec_l1Near.T12.2 spec_l1Near.B12 = true := by kernel_rfl
def spec_l1Near.T14 : Bool × List (List Nat × List Nat) := (true, [([], []), ([], []), ([], []), ([], []), ([2, 3], [2, 3]), ([], []), ([], []), ([6], [6]), ([], []), ([8], [8]), ([5, 7, 9], [5, 7, 9]), ([4, 10], [4, 10]), ([], []), ([], []), ([], []), ([14], [14]), ([12, 13, 15], [12, 13, 15]), ([11, 16], [11, 16]), ([], []), ([], []), ([19], [19]), ([18, 20], [18, 20]), ([17, 21], [17, 21]), ([0, 1, 22], [0, 1, 22]), ([23, 23, 0, 1, 2, 3, 4, 5, 6, 7, 8, 9, 10, 11, 12, 13, 14, 15, 16, 17, 18, 19, 20, 21, 22, 23], [0, 23])])
def spec_l1Near.B14 : List Nat := [0, 0, 0, 0, 12, 0, 0, 64, 0, 256, 992, 2044, 0, 0, 0, 16384, 61440, 131068, 0, 0, 524288, 1835008, 4194300, 8388607, 16777215]
theorem spec_l1Near.tab14 : rtab .any (opsOf Tryz.f33 14) = spec_l1Near.T14 := by kernel_rfl
theorem spec_l1Near.bits14 : waitsOk spec_l1Near.T14.2 spec_l1Near.B14 = true := by kernel_rfl
theorem spec_l1Near.calls (k : Nat) (a0 : ByteArray) (r : List ByteArray) (w : World) (h : spec_l1Near.f k a0 = some r) :
  Calls Tryz.prog 33 #[.string a0] w fun e w' => ∃ v0_ : Value, e = .returned (v0_) ∧ Kd.V Kd.string 9 w' w.heap.size (fun k_ => (w.heap.size ≤ k_)) v0_ r ∧ Below w.heap.size w w' := by
 have HB := am (Below.refl w.heap.size w)
 have H := h; unfold spec_l1Near.f at H
 clear h; obtain ⟨y287, hy287⟩ : ∃ y_ : List ByteArray, y_ = (([] : List ByteArray)) := ⟨_, rfl⟩
 rw [← hy287] at H
 have Ny287 := am hy287; clear hy287
 have H' := am H
 clear H; go_enter Tryz.func33, Tryz.ntmps33
 go_wp2_with ((with_reducible refine gate_dst (N := 6) rfl ?_); refine Kd.R_lit Kd.string _ 9 ?hg (N := 6) ?hd (xs := ([] : List ByteArray)) (inner := []) (ok := fun _ => True) (okp := fun _ => True) ?hr ?hp (fun _ hk => hk) trivial (Below.refl _ _) (Nat.le_refl _) (by simp) ?_; (case hd => rfl); (case hg => rfl); (case hr => (go_simp; done)); (case hp => exact (Reps.none _ _)); intro v288 w2 ho3 hb hg_ hnew_; clear hg_ hnew_; (rw [← Ny287.out] at ho3); have HO289 := am (Kd.R_lower (Kd.R_newM (M := fun k_ => (w.heap.size ≤ k_)) ho3 (below_size bel) (fun k_ h_ => h_)) (below_size bel)); replace HB := am (below_step bel hb); clear hb ho3)
 go_loopg [3, 4] k (fun kq v3 v4 w' => ∃ (x3_1 : List ByteArray) (x4_1 : Int), v4 = .int .i64 x4_1 ∧ Aside0 (spec_l1Near.l0 kq a0 x3_1 x4_1 = some r) ∧ Aside0 (kq ≤ k) ∧ Aside0 (Kd.V Kd.string 9 w' w.heap.size (fun k_ => (w.heap.size ≤ k_)) v3 x3_1) ∧ Aside0 (Below w.heap.size w w'))
 case atStart => exact ⟨(y287), (0), sq, H', ⟨Nat.le_refl _⟩, ⟨Kd.R_V (rq (Kd.R_mono HO289.out (fun _ hk => hk.1)))⟩, ⟨bel⟩⟩
 case round =>
  clear H'; obtain ⟨x3_1, x4_1, rfl, HA, HK1, HO_3, HB⟩ := hrel
  cases gk with
  | zero => exact absurd HA.out (by simp [spec_l1Near.l0])
  | succ k1 =>
   have H := HA.out; clear HA; simp only [spec_l1Near.l0] at H
   by_cases c4 : x4_1 ≤ (a0.size : Int)
   ·rw [if_pos c4] at H; have c4b0 := decide_eq_true c4; clear c4
    have H' := am H
    clear H; go_wp2
    go_loopg [3, 5] k1 (fun kq v3 v5 w' => ∃ (x3_2 : List ByteArray) (x5_2 : Int), v5 = .int .i32 x5_2 ∧ Aside0 (spec_l1Near.l1 kq a0 x3_2 x4_1 x5_2 = some r) ∧ Aside0 (kq ≤ k1) ∧ Aside0 (Kd.V Kd.string 9 w' w.heap.size (fun k_ => (w.heap.size ≤ k_)) v3 x3_2) ∧ Aside0 (Below w.heap.size w w'))
    case atStart => exact ⟨(x3_1), (97), sq, H', ⟨Nat.le_refl _⟩, ⟨vq HO_3.out⟩, ⟨bel⟩⟩
    case round =>
     clear H'; clear c4b0; obtain ⟨x3_2, x5_2, rfl, HA, HK2, HO_3, HB⟩ := hrel
     cases gk with
     | zero => exact absurd HA.out (by simp [spec_l1Near.l1])
     | succ k2 =>
      have H := HA.out; clear HA; simp only [spec_l1Near.l1] at H
      by_cases c5 : x5_2 ≤ 122
      ·rw [if_pos c5] at H; have c5b0 := decide_eq_true c5; clear c5
       replace H := ip H; obtain ⟨c6, H⟩ := H; have c6b0 := eq_true c6
       have c6b1 : decide (0 ≤ x4_1) = true := decide_eq_true c6
       clear c6; replace H := ip H; obtain ⟨c7, H⟩ := H; have c7b0 := eq_true c7
       have c7b1 : decide (x4_1 ≤ (a0.size : Int)) = true := decide_eq_true c7
       clear c7; obtain ⟨y290, hy290⟩ : ∃ y_ : List Int, y_ = (([(x5_2) % 256] : List Int)) := ⟨_, rfl⟩
       replace H : (if (a0.extract 0 (x4_1 : Int).toNat).size + (strOfNums y290).size ≤ 9223372036854775807 then (if ((a0.extract 0 (x4_1 : Int).toNat) ++ (strOfNums y290)).size + (a0.extract (x4_1 : Int).toNat a0.size).size ≤ 9223372036854775807 then ((spec_l1Step.f k2 x3_2 a0 (((a0.extract 0 (x4_1 : Int).toNat) ++ (strOfNums y290)) ++ (a0.extract (x4_1 : Int).toNat a0.size))).bind fun t293 => (if x4_1 < (a0.size : Int) then ((some (([(x5_2) % 256] : List Int) : List Int)).bind fun y296 => (if (a0.extract 0 (x4_1 : Int).toNat).size + (strOfNums y296).size ≤ 9223372036854775807 then (if 0 ≤ (wrap64 (x4_1 + 1)) then (if (wrap64 (x4_1 + 1)) ≤ (a0.size : Int) then (if ((a0.extract 0 (x4_1 : Int).toNat) ++ (strOfNums y296)).size + (a0.extract ((wrap64 (x4_1 + 1)) : Int).toNat a0.size).size ≤ 9223372036854775807 then ((spec_l1Step.f k2 t293 a0 (((a0.extract 0 (x4_1 : Int).toNat) ++ (strOfNums y296)) ++ (a0.extract ((wrap64 (x4_1 + 1)) : Int).toNat a0.size))).bind fun t299 => (spec_l1Near.l1 k2 a0 t299 x4_1 (wrap32 (x5_2 + 1)))) else (none)) else (none)) else (none)) else (none))) else (spec_l1Near.l1 k2 a0 t293 x4_1 (wrap32 (x5_2 + 1))))) else (none)) else (none)) = some r := by (have H2_ := bm H; rw [hy290]; with_reducible exact H2_)
       have Ny290 := am hy290; clear hy290; replace H := ip H; obtain ⟨c8, H⟩ := H; have c8b0 := eq_true c8; have c8b5 := c8
       simp at c8b5
       have c8b4 := eq_false (Nat.not_lt.2 c8b5)
       try have c8b3 : (9223372036854775807 < (x4_1 : Int).toNat + (strOfNums y290).size) = False := by
             have h_ := c8
             simp only [ByteArray.size_append, ByteArray.size_extract] at h_
             have g0_ : (x4_1) ≤ (a0.size : Int) := of_decide_eq_true ad
             exact eq_false (by omega)
       have c8b1 : decide ((a0.extract 0 (x4_1 : Int).toNat).size + (strOfNums y290).size ≤ 9223372036854775807) = true := decide_eq_true c8
       have c8b2 : (9223372036854775807 < (a0.extract 0 (x4_1 : Int).toNat).size + (strOfNums y290).size) = False := eq_false (Nat.not_lt.2 c8)
       have c9b0 := eq_true (of_decide_eq_true ad : 0 ≤ x4_1); have c10b0 := eq_true (of_decide_eq_true ad : x4_1 ≤ (a0.size : Int)); replace H := ip H; obtain ⟨c11, H⟩ := H; have c11b0 := eq_true c11; have c11b5 := c11
       simp at c11b5
       have c11b4 := eq_false (Nat.not_lt.2 c11b5)
       try have c11b3 : (9223372036854775807 < (x4_1 : Int).toNat + (strOfNums y290).size + (a0.size - (x4_1 : Int).toNat)) = False := by
             have h_ := c11
             simp only [ByteArray.size_append, ByteArray.size_extract] at h_
             have g0_ : (x4_1) ≤ (a0.size : Int) := of_decide_eq_true ad
             exact eq_false (by omega)
       have c11b1 : decide (((a0.extract 0 (x4_1 : Int).toNat) ++ (strOfNums y290)).size + (a0.extract (x4_1 : Int).toNat a0.size).size ≤ 9223372036854775807) = true := decide_eq_true c11
       have c11b2 : (9223372036854775807 < ((a0.extract 0 (x4_1 : Int).toNat) ++ (strOfNums y290)).size + (a0.extract (x4_1 : Int).toNat a0.size).size) = False := eq_false (Nat.not_lt.2 c11)
       replace H := bs H; obtain ⟨t293, A120, H⟩ := H; have A12 := Aside0.mk A120; clear A120
       by_cases c13 : x4_1 < (a0.size : Int)
       ·rw [if_pos c13] at H; have c13b0 := decide_eq_true c13; clear c13; have c14b0 := eq_true (of_decide_eq_true ad : 0 ≤ x4_1); have c15b0 := eq_true (of_decide_eq_true ad : x4_1 ≤ (a0.size : Int)); obtain ⟨y296, hy296⟩ : ∃ y_ : List Int, y_ = (([(x5_2) % 256] : List Int)) := ⟨_, rfl⟩
        replace H := bm H; rw [← hy296] at H
        have Ny296 := am hy296; clear hy296; replace H := ip H; obtain ⟨c16, H⟩ := H; have c16b0 := eq_true c16; have c16b5 := c16
        simp at c16b5
        have c16b4 := eq_false (Nat.not_lt.2 c16b5)
        try have c16b3 : (9223372036854775807 < (x4_1 : Int).toNat + (strOfNums y296).size) = False := by
              have h_ := c16
              simp only [ByteArray.size_append, ByteArray.size_extract] at h_
              have g0_ : (x4_1) ≤ (a0.size : Int) := of_decide_eq_true ad
              exact eq_false (by omega)
        have c16b1 : decide ((a0.extract 0 (x4_1 : Int).toNat).size + (strOfNums y296).size ≤ 9223372036854775807) = true := decide_eq_true c16
        have c16b2 : (9223372036854775807 < (a0.extract 0 (x4_1 : Int).toNat).size + (strOfNums y296).size) = False := eq_false (Nat.not_lt.2 c16)
        obtain ⟨ji17, hji17⟩ : ∃ j_ : Int, (wrap64 (x4_1 + 1)) = j_ := ⟨_, rfl⟩
        rw [hji17] at H
        have hji17w : (IntKind.i64.wrap (x4_1 + 1)) = ji17 := (i64_w _).trans hji17
        replace H := ip H; obtain ⟨c18, H⟩ := H; have c18b0 := eq_true c18
        have c18b1 : decide (0 ≤ (ji17)) = true := decide_eq_true c18
        clear c18; replace H := ip H; obtain ⟨c19, H⟩ := H; have c19b0 := eq_true c19
        have c19b1 : decide ((ji17) ≤ (a0.size : Int)) = true := decide_eq_true c19
        clear c19; replace H := ip H; obtain ⟨c20, H⟩ := H; have c20b0 := eq_true c20; have c20b5 := c20
        simp at c20b5
        have c20b4 := eq_false (Nat.not_lt.2 c20b5)
        try have c20b3 : (9223372036854775807 < (x4_1 : Int).toNat + (strOfNums y296).size + (a0.size - ((ji17) : Int).toNat)) = False := by
              have h_ := c20
              simp only [ByteArray.size_append, ByteArray.size_extract] at h_
              have g0_ : (x4_1) ≤ (a0.size : Int) := of_decide_eq_true ad
              exact eq_false (by omega)
        have c20b1 : decide (((a0.extract 0 (x4_1 : Int).toNat) ++ (strOfNums y296)).size + (a0.extract ((ji17) : Int).toNat a0.size).size ≤ 9223372036854775807) = true := decide_eq_true c20
        have c20b2 : (9223372036854775807 < ((a0.extract 0 (x4_1 : Int).toNat) ++ (strOfNums y296)).size + (a0.extract ((ji17) : Int).toNat a0.size).size) = False := eq_false (Nat.not_lt.2 c20)
        replace H := bs H; obtain ⟨t299, A210, H⟩ := H; have A21 := Aside0.mk A210; clear A210
        have H' := am H
        clear H
        try go_wp2
        replace HO_3 := am (Kd.V_drew HO_3.out); replace HB := am (below_drew1 HB.out)
        refine st (n := 16) (S := fun w' => True) (ds := []) trivial (fun hHeld => ?_); refine with_tabW spec_l1Near.tab8 spec_l1Near.bits8 (fun HT_ HW_ => ?_)
        generalize wr.drew = w22 at HO_3 HB hHeld ⊢; refine pu 0 17 ?_; refine pu 1 18 ?_; refine pu 2 19 ?_; refine pu 3 20 ?_; refine pu 4 21 ?_; refine pu 5 22 ?_; refine pu 6 23 ?_; refine pu 10 27 ?_; refine pu 11 28 ?_; refine pu 12 29 ?_; refine on1 7 24 (fun K hK => ?_)
        refine Kd.R_lit_step (Kd.int .u8) _ 5 ?hg (N := 24) ?hd (xs := ([(x5_2) % 256] : List Int)) (inner := [.int .u8 ((x5_2) % 256)]) (ok := fun _ => True) (okp := fun _ => True) ?hr ?hp (fun _ hk => hk) trivial (Below.refl _ _) (Nat.le_refl _) (by simp) ?_; (case hd => rfl); (case hg => rfl); (case hr => (go_simp; rfl)); (case hp => exact (Reps.one (show Kd.M (Kd.int .u8) _ _ _ ((x5_2) % 256) [.int .u8 ((x5_2) % 256)] from rfl) (Reps.none _ _)))
        intro v291 w23 ho24 hb hg_ hnew_; clear hg_ hnew_
        (rw [← Ny290.out] at ho24)
        replace HO_3 := am (Kd.V_elder' (vq HO_3.out) (Kd.R_base ho24) hb); have HO292 := am (Kd.R_lower (Kd.R_newM (M := fun k_ => (w.heap.size ≤ k_)) ho24 (below_size bel) (fun k_ h_ => h_)) (below_size bel)); replace HB := am (below_step bel hb); clear hb ho24; obtain ⟨Ao26, co26, eo26⟩ := Kd.V_slice HO_3.out
        (subst eo26)
        refine hK.out _ _ trivial (fun hHeld => ?_); clear hK K; refine nm 24 ?_; refine on1 8 25 (fun K hK => ?_); have hcv25 := own_string (P := Tryz.prog) Tryz.underlying22 Tryz.underlying5 Tryz.underlying9 (Kd.own_of_R HO292.out)
        refine value_ (w1 := ?_) (v := ?_) (by rfl) rfl ?_ ?_
        rotate_left 2
        ·go_simp
         constructor
         ·rfl
         ·rfl
        clear hcv25; refine hK.out _ _ trivial (fun hHeld => ?_); clear hK K; refine nm 25 ?_; refine pu 9 26 ?_; refine pu 13 30 ?_; refine on1 14 31 (fun K hK => ?_)
        refine go1 Tryz.func55 #[.slice Ao26 x3_2.length co26, .string a0, .string (((a0.extract 0 (x4_1 : Int).toNat) ++ (strOfNums y290)) ++ (a0.extract (x4_1 : Int).toNat a0.size))] ?_
        with_reducible refine (spec_l1Step.calls k2 (fun k_ => ((w.heap.size ≤ k_) ∧ some k_ ≠ (v291 : Value).ownBlock)) _ _ x3_2 a0 (((a0.extract 0 (x4_1 : Int).toNat) ++ (strOfNums y290)) ++ (a0.extract (x4_1 : Int).toNat a0.size)) t293 _ ?side1 A12.out).mono ?_
        (case side1 => exact HO_3.out)
        rintro e w27 ⟨v294, rfl, ho0, hb⟩; refine ⟨_, rfl, ?_⟩
        replace HO_3 := am (Kd.V_below (vq HO_3.out) hb); have HO295 := am (Kd.V_lower (Kd.V_mono (ok' := fun k_ => (w.heap.size ≤ k_) ∧ some k_ ≠ (v291 : Value).ownBlock) ho0 (fun k_ hk_ => ⟨Or.elim hk_ (fun hs_ => hs_.1) (fun hn_ => (Nat.le_trans (below_size bel) hn_)), Or.elim hk_ (fun hs_ => hs_.2) (fun hn_ => (Kd.fresh' (Kd.R_lt (rq HO292.out)) k_ hn_))⟩)) (below_size bel)); replace HO292 := am (Kd.R_below (rq HO292.out) hb); replace HB := am (below_step bel hb)
        clear hb ho0; refine hK.out _ _ trivial (fun hHeld => ?_); clear hK K; refine nm 31 ?_; refine pu 15 3 ?_
        refine done_ (done_of HT_.out (by kernel_rfl)) ?_
        try go_wp2
        replace HO_3 := am (Kd.V_drew HO_3.out); replace HO292 := am (Kd.R_drew HO292.out); replace HO295 := am (Kd.V_drew HO295.out); replace HB := am (below_drew1 HB.out)
        refine st (n := 17) (S := fun w' => True) (ds := []) trivial (fun hHeld => ?_); refine with_tabW spec_l1Near.tab10 spec_l1Near.bits10 (fun HT_ HW_ => ?_)
        generalize w27.drew = w28 at HO_3 HO292 HO295 HB hHeld ⊢; refine pu 0 36 ?_; refine pu 1 37 ?_; refine pu 2 38 ?_; refine pu 3 39 ?_; refine pu 4 40 ?_; refine pu 5 41 ?_; refine pu 6 42 ?_; refine pu 10 46 ?_; refine pu 11 47 ?_; refine pu 12 48 ?_; refine pu 13 49 ?_; refine on1 7 43 (fun K hK => ?_)
        refine Kd.R_lit_step (Kd.int .u8) _ 5 ?hg (N := 43) ?hd (xs := ([(x5_2) % 256] : List Int)) (inner := [.int .u8 ((x5_2) % 256)]) (ok := fun _ => True) (okp := fun _ => True) ?hr ?hp (fun _ hk => hk) trivial (Below.refl _ _) (Nat.le_refl _) (by simp) ?_; (case hd => rfl); (case hg => rfl); (case hr => (go_simp; rfl)); (case hp => exact (Reps.one (show Kd.M (Kd.int .u8) _ _ _ ((x5_2) % 256) [.int .u8 ((x5_2) % 256)] from rfl) (Reps.none _ _)))
        intro v297 w29 ho30 hb hg_ hnew_; clear hg_ hnew_
        (rw [← Ny296.out] at ho30)
        replace HO_3 := am (Kd.V_elder' (vq HO_3.out) (Kd.R_base ho30) hb); replace HO295 := am (Kd.V_elder' (vq HO295.out) (Kd.R_base ho30) hb); have HO298 := am (Kd.R_lower (Kd.R_new' (Kd.R_newM (M := fun k_ => (w.heap.size ≤ k_)) ho30 (below_size bel) (fun k_ h_ => h_)) (Kd.R_lt (rq HO292.out))) (below_size bel)); replace HO292 := am (Kd.R_elder' (rq HO292.out) (Kd.R_base ho30) hb); replace HB := am (below_step bel hb); clear hb ho30; obtain ⟨Ao32, co32, eo32⟩ := Kd.V_slice HO295.out
        (subst eo32)
        refine hK.out _ _ trivial (fun hHeld => ?_); clear hK K; refine nm 43 ?_; refine on1 8 44 (fun K hK => ?_); have hcv31 := own_string (P := Tryz.prog) Tryz.underlying22 Tryz.underlying5 Tryz.underlying9 (Kd.own_of_R HO298.out)
        refine value_ (w1 := ?_) (v := ?_) (by rfl) rfl ?_ ?_
        rotate_left 2
        ·go_simp
         constructor
         ·rfl
         ·rfl
        clear hcv31; refine hK.out _ _ trivial (fun hHeld => ?_); clear hK K; refine nm 44 ?_; refine pu 9 45 ?_; refine pu 14 50 ?_; refine on1 15 51 (fun K hK => ?_)
        refine goes_ Tryz.func55 (by kernel_rfl) rfl #[.slice Ao32 t293.length co32, .string a0, .string (((a0.extract 0 (x4_1 : Int).toNat) ++ (strOfNums y296)) ++ (a0.extract ((ji17) : Int).toNat a0.size))] (by rfl) rfl rfl (by simp only [List.map_toArray, List.map_cons, List.map_nil]; rfl) ?_
        with_reducible refine (spec_l1Step.calls k2 (fun k_ => (((w.heap.size ≤ k_) ∧ some k_ ≠ (v291 : Value).ownBlock) ∧ some k_ ≠ (v297 : Value).ownBlock)) _ _ t293 a0 (((a0.extract 0 (x4_1 : Int).toNat) ++ (strOfNums y296)) ++ (a0.extract ((ji17) : Int).toNat a0.size)) t299 _ ?side1 A21.out).mono ?_
        (case side1 => exact HO295.out)
        rintro e w33 ⟨v300, rfl, ho0, hb⟩; refine ⟨_, rfl, ?_⟩
        replace HO_3 := am (Kd.V_below (vq HO_3.out) hb); replace HO295 := am (Kd.V_below (vq HO295.out) hb); have HO301 := am (Kd.V_lower (Kd.V_mono (ok' := fun k_ => (w.heap.size ≤ k_) ∧ some k_ ≠ (v291 : Value).ownBlock ∧ some k_ ≠ (v297 : Value).ownBlock) ho0 (fun k_ hk_ => ⟨Or.elim hk_ (fun hs_ => hs_.1.1) (fun hn_ => (Nat.le_trans (below_size bel) hn_)), Or.elim hk_ (fun hs_ => hs_.1.2) (fun hn_ => (Kd.fresh' (Kd.R_lt (rq HO292.out)) k_ hn_)), Or.elim hk_ (fun hs_ => hs_.2) (fun hn_ => (Kd.fresh' (Kd.R_lt (rq HO298.out)) k_ hn_))⟩)) (below_size bel)); replace HO292 := am (Kd.R_below (rq HO292.out) hb); replace HO298 := am (Kd.R_below (rq HO298.out) hb); replace HB := am (below_step bel hb)
        clear hb ho0; refine hK.out _ _ trivial (fun hHeld => ?_); clear hK K; refine nm 51 ?_; refine pu 16 3 ?_
        refine done_ (done_of HT_.out (by kernel_rfl)) ?_
        try go_wp2
        go_roundg k2
        case measure => have := HK1.out; have := HK2.out; omega
        case rel => exact ⟨(t299), (wrap32 (x5_2 + 1)), sq, H', ⟨b78_⟩, ⟨vq (Kd.V_mono HO301.out (fun _ hk => hk.1))⟩, ⟨bel⟩⟩
       rw [if_neg c13] at H; have c13b0 := decide_eq_false c13; clear c13
       have H' := am H
       clear H
       try go_wp2
       replace HO_3 := am (Kd.V_drew HO_3.out); replace HB := am (below_drew1 HB.out)
       refine st (n := 16) (S := fun w' => True) (ds := []) trivial (fun hHeld => ?_); refine with_tabW spec_l1Near.tab8 spec_l1Near.bits8 (fun HT_ HW_ => ?_)
       generalize wr.drew = w34 at HO_3 HB hHeld ⊢; refine pu 0 17 ?_; refine pu 1 18 ?_; refine pu 2 19 ?_; refine pu 3 20 ?_; refine pu 4 21 ?_; refine pu 5 22 ?_; refine pu 6 23 ?_; refine pu 10 27 ?_; refine pu 11 28 ?_; refine pu 12 29 ?_; refine on1 7 24 (fun K hK => ?_)
       refine Kd.R_lit_step (Kd.int .u8) _ 5 ?hg (N := 24) ?hd (xs := ([(x5_2) % 256] : List Int)) (inner := [.int .u8 ((x5_2) % 256)]) (ok := fun _ => True) (okp := fun _ => True) ?hr ?hp (fun _ hk => hk) trivial (Below.refl _ _) (Nat.le_refl _) (by simp) ?_; (case hd => rfl); (case hg => rfl); (case hr => (go_simp; rfl)); (case hp => exact (Reps.one (show Kd.M (Kd.int .u8) _ _ _ ((x5_2) % 256) [.int .u8 ((x5_2) % 256)] from rfl) (Reps.none _ _)))
       intro v291 w35 ho36 hb hg_ hnew_; clear hg_ hnew_
       (rw [← Ny290.out] at ho36)
       replace HO_3 := am (Kd.V_elder' (vq HO_3.out) (Kd.R_base ho36) hb); have HO292 := am (Kd.R_lower (Kd.R_newM (M := fun k_ => (w.heap.size ≤ k_)) ho36 (below_size bel) (fun k_ h_ => h_)) (below_size bel)); replace HB := am (below_step bel hb); clear hb ho36; obtain ⟨Ao38, co38, eo38⟩ := Kd.V_slice HO_3.out
       (subst eo38)
       refine hK.out _ _ trivial (fun hHeld => ?_); clear hK K; refine nm 24 ?_; refine on1 8 25 (fun K hK => ?_); have hcv37 := own_string (P := Tryz.prog) Tryz.underlying22 Tryz.underlying5 Tryz.underlying9 (Kd.own_of_R HO292.out)
       refine value_ (w1 := ?_) (v := ?_) (by rfl) rfl ?_ ?_
       rotate_left 2
       ·go_simp
        constructor
        ·rfl
        ·rfl
       clear hcv37; refine hK.out _ _ trivial (fun hHeld => ?_); clear hK K; refine nm 25 ?_; refine pu 9 26 ?_; refine pu 13 30 ?_; refine on1 14 31 (fun K hK => ?_)
       refine go1 Tryz.func55 #[.slice Ao38 x3_2.length co38, .string a0, .string (((a0.extract 0 (x4_1 : Int).toNat) ++ (strOfNums y290)) ++ (a0.extract (x4_1 : Int).toNat a0.size))] ?_
       with_reducible refine (spec_l1Step.calls k2 (fun k_ => ((w.heap.size ≤ k_) ∧ some k_ ≠ (v291 : Value).ownBlock)) _ _ x3_2 a0 (((a0.extract 0 (x4_1 : Int).toNat) ++ (strOfNums y290)) ++ (a0.extract (x4_1 : Int).toNat a0.size)) t293 _ ?side1 A12.out).mono ?_
       (case side1 => exact HO_3.out)
       rintro e w39 ⟨v294, rfl, ho0, hb⟩; refine ⟨_, rfl, ?_⟩
       replace HO_3 := am (Kd.V_below (vq HO_3.out) hb); have HO295 := am (Kd.V_lower (Kd.V_mono (ok' := fun k_ => (w.heap.size ≤ k_) ∧ some k_ ≠ (v291 : Value).ownBlock) ho0 (fun k_ hk_ => ⟨Or.elim hk_ (fun hs_ => hs_.1) (fun hn_ => (Nat.le_trans (below_size bel) hn_)), Or.elim hk_ (fun hs_ => hs_.2) (fun hn_ => (Kd.fresh' (Kd.R_lt (rq HO292.out)) k_ hn_))⟩)) (below_size bel)); replace HO292 := am (Kd.R_below (rq HO292.out) hb); replace HB := am (below_step bel hb)
       clear hb ho0; refine hK.out _ _ trivial (fun hHeld => ?_); clear hK K; refine nm 31 ?_; refine pu 15 3 ?_
       refine done_ (done_of HT_.out (by kernel_rfl)) ?_
       try go_wp2
       go_roundg k2
       case measure => have := HK1.out; have := HK2.out; omega
       case rel => exact ⟨(t293), (wrap32 (x5_2 + 1)), sq, H', ⟨b78_⟩, ⟨vq (Kd.V_mono HO295.out (fun _ hk => hk.1))⟩, ⟨bel⟩⟩
      rw [if_neg c5] at H; have c5b0 := decide_eq_false c5; clear c5; have HC40 := am H; clear H
      go_upto_if 55 with (fail)
      go_cut [3] (fun v3 wc => ∃ (kq : Nat) (x3_39 : List ByteArray), Aside0 (spec_l1Near.j2 kq a0 x3_39 x4_1 = some r) ∧ Aside0 (kq ≤ k2) ∧ Aside0 (Kd.V Kd.string 9 wc w.heap.size (fun k_ => (w.heap.size ≤ k_)) v3 x3_39) ∧ Aside0 (Below w.heap.size w wc))
      case first =>
       have H := HC40.out; clear HC40
       by_cases c41 : x4_1 < (a0.size : Int)
       ·rw [if_pos c41] at H; have c41b0 := decide_eq_true c41; clear c41
        (rw [c41b0])
        replace H := ip H; obtain ⟨c42, H⟩ := H; have c42b0 := eq_true c42
        have c42b1 : decide (0 ≤ x4_1) = true := decide_eq_true c42
        clear c42; replace H := ip H; obtain ⟨c43, H⟩ := H; have c43b0 := eq_true c43
        have c43b1 : decide (x4_1 ≤ (a0.size : Int)) = true := decide_eq_true c43
        clear c43; obtain ⟨ji44, hji44⟩ : ∃ j_ : Int, (wrap64 (x4_1 + 1)) = j_ := ⟨_, rfl⟩
        rw [hji44] at H
        have hji44w : (IntKind.i64.wrap (x4_1 + 1)) = ji44 := (i64_w _).trans hji44
        replace H := ip H; obtain ⟨c45, H⟩ := H; have c45b0 := eq_true c45
        have c45b1 : decide (0 ≤ (ji44)) = true := decide_eq_true c45
        clear c45; replace H := ip H; obtain ⟨c46, H⟩ := H; have c46b0 := eq_true c46
        have c46b1 : decide ((ji44) ≤ (a0.size : Int)) = true := decide_eq_true c46
        clear c46; replace H := ip H; obtain ⟨c47, H⟩ := H; have c47b0 := eq_true c47; have c47b5 := c47
        simp at c47b5
        have c47b4 := eq_false (Nat.not_lt.2 c47b5)
        try have c47b3 : (9223372036854775807 < (x4_1 : Int).toNat + (a0.size - ((ji44) : Int).toNat)) = False := by
              have h_ := c47
              simp only [ByteArray.size_append, ByteArray.size_extract] at h_
              have g0_ : (x4_1) ≤ (a0.size : Int) := of_decide_eq_true ad
              exact eq_false (by omega)
        have c47b1 : decide ((a0.extract 0 (x4_1 : Int).toNat).size + (a0.extract ((ji44) : Int).toNat a0.size).size ≤ 9223372036854775807) = true := decide_eq_true c47
        have c47b2 : (9223372036854775807 < (a0.extract 0 (x4_1 : Int).toNat).size + (a0.extract ((ji44) : Int).toNat a0.size).size) = False := eq_false (Nat.not_lt.2 c47)
        replace H := bs H; obtain ⟨t302, A480, H⟩ := H; have A48 := Aside0.mk A480; clear A480
        have H' := am H
        clear H
        try go_wp2
        replace HO_3 := am (Kd.V_drew HO_3.out); replace HB := am (below_drew1 HB.out); obtain ⟨Ao50, co50, eo50⟩ := Kd.V_slice HO_3.out
        (subst eo50)
        refine st (n := 12) (S := fun w' => True) (ds := []) trivial (fun hHeld => ?_); refine with_tabW spec_l1Near.tab12 spec_l1Near.bits12 (fun HT_ HW_ => ?_)
        generalize wr.drew = w49 at HO_3 HB hHeld ⊢; refine pu 0 56 ?_; refine pu 1 57 ?_; refine pu 2 58 ?_; refine pu 3 59 ?_; refine pu 4 60 ?_; refine pu 5 61 ?_; refine pu 6 62 ?_; refine pu 7 63 ?_; refine pu 8 64 ?_; refine pu 9 65 ?_; refine on1 10 66 (fun K hK => ?_)
        refine goes_ Tryz.func55 (by kernel_rfl) rfl #[.slice Ao50 x3_2.length co50, .string a0, .string ((a0.extract 0 (x4_1 : Int).toNat) ++ (a0.extract ((ji44) : Int).toNat a0.size))] (by rfl) rfl rfl (by simp only [List.map_toArray, List.map_cons, List.map_nil]; rfl) ?_
        with_reducible refine (spec_l1Step.calls k2 (fun k_ => (w.heap.size ≤ k_)) _ _ x3_2 a0 ((a0.extract 0 (x4_1 : Int).toNat) ++ (a0.extract ((ji44) : Int).toNat a0.size)) t302 _ ?side1 A48.out).mono ?_
        (case side1 => exact HO_3.out)
        rintro e w51 ⟨v303, rfl, ho0, hb⟩; refine ⟨_, rfl, ?_⟩
        replace HO_3 := am (Kd.V_below (vq HO_3.out) hb); have HO304 := am (Kd.V_lower (Kd.V_mono (ok' := fun k_ => (w.heap.size ≤ k_)) ho0 (fun k_ hk_ => Or.elim hk_ (fun hs_ => hs_) (fun hn_ => (Nat.le_trans (below_size bel) hn_)))) (below_size bel)); replace HB := am (below_step bel hb)
        clear hb ho0; refine hK.out _ _ trivial (fun hHeld => ?_); clear hK K; refine nm 66 ?_; refine pu 11 3 ?_
        refine done_ (done_of HT_.out (by kernel_rfl)) ?_
        try go_wp2
        go_meet
        case rel => exact ⟨_, (t302), H', ⟨b97_⟩, ⟨vq HO304.out⟩, ⟨bel⟩⟩
       rw [if_neg c41] at H; have c41b0 := decide_eq_false c41; clear c41
       (rw [c41b0])
       have H' := am H
       clear H; go_wp2
       go_meet
       case rel => exact ⟨_, (x3_2), H', ⟨b97_⟩, ⟨vq HO_3.out⟩, ⟨bel⟩⟩
      case rest =>
       clear HC40; clear c5b0; obtain ⟨kq, x3_39, HA, HJ39, HO_3, HB⟩ := hcut
       cases kq with
       | zero => exact absurd HA.out (by simp [spec_l1Near.j2])
       | succ kj39 =>
        have H := HA.out; clear HA; simp only [spec_l1Near.j2] at H
        by_cases c52 : (wrap64 (x4_1 + 1)) < (a0.size : Int)
        ·rw [if_pos c52] at H; have c52b0 := decide_eq_true c52; clear c52
         replace H := ip H; obtain ⟨c53, H⟩ := H; have c53b0 := eq_true c53
         have c53b1 : decide (0 ≤ x4_1) = true := decide_eq_true c53
         clear c53; replace H := ip H; obtain ⟨c54, H⟩ := H; have c54b0 := eq_true c54
         have c54b1 : decide (x4_1 ≤ (a0.size : Int)) = true := decide_eq_true c54
         clear c54; obtain ⟨ji55, hji55⟩ : ∃ j_ : Int, (wrap64 (x4_1 + 1)) = j_ := ⟨_, rfl⟩
         rw [hji55] at H
         rw [hji55] at c52b0
         have hji55w : (IntKind.i64.wrap (x4_1 + 1)) = ji55 := (i64_w _).trans hji55
         replace H := ip H; obtain ⟨c56, H⟩ := H; have c56b0 := eq_true c56
         have c56b1 : decide (0 ≤ (ji55)) = true := decide_eq_true c56
         clear c56; replace H := ip H; obtain ⟨c57, H⟩ := H; have c57b0 := eq_true c57
         have c57b1 : decide ((ji55) ≤ (wrap64 (x4_1 + 2))) = true := decide_eq_true c57
         replace H := ip H; obtain ⟨c58, H⟩ := H; have c58b0 := eq_true c58
         have c58b1 : decide ((wrap64 (x4_1 + 2)) ≤ (a0.size : Int)) = true := decide_eq_true c58
         replace H := ip H; obtain ⟨c59, H⟩ := H; have c59b0 := eq_true c59; have c59b5 := c59
         simp at c59b5
         have c59b4 := eq_false (Nat.not_lt.2 c59b5)
         try have c59b3 : (9223372036854775807 < (x4_1 : Int).toNat + (((wrap64 (x4_1 + 2)) : Int).toNat - ((ji55) : Int).toNat)) = False := by
               have h_ := c59
               simp only [ByteArray.size_append, ByteArray.size_extract] at h_
               have g0_ : (x4_1) ≤ (a0.size : Int) := of_decide_eq_true ad
               have g1_ : ((wrap64 (x4_1 + 2))) ≤ (a0.size : Int) := of_decide_eq_true ad
               exact eq_false (by omega)
         have c59b1 : decide ((a0.extract 0 (x4_1 : Int).toNat).size + (a0.extract ((ji55) : Int).toNat ((wrap64 (x4_1 + 2)) : Int).toNat).size ≤ 9223372036854775807) = true := decide_eq_true c59
         have c59b2 : (9223372036854775807 < (a0.extract 0 (x4_1 : Int).toNat).size + (a0.extract ((ji55) : Int).toNat ((wrap64 (x4_1 + 2)) : Int).toNat).size) = False := eq_false (Nat.not_lt.2 c59)
         have c60b0 := eq_true (of_decide_eq_true ad : 0 ≤ x4_1); replace H := ip H; obtain ⟨c61, H⟩ := H; have c61b0 := eq_true c61
         have c61b1 : decide (x4_1 ≤ (ji55)) = true := decide_eq_true c61
         clear c61; replace H := ip H; obtain ⟨c62, H⟩ := H; have c62b0 := eq_true c62
         have c62b1 : decide ((ji55) ≤ (a0.size : Int)) = true := decide_eq_true c62
         clear c62; replace H := ip H; obtain ⟨c63, H⟩ := H; have c63b0 := eq_true c63; have c63b5 := c63
         simp at c63b5
         have c63b4 := eq_false (Nat.not_lt.2 c63b5)
         try have c63b3 : (9223372036854775807 < (x4_1 : Int).toNat + (((wrap64 (x4_1 + 2)) : Int).toNat - ((ji55) : Int).toNat) + (((ji55) : Int).toNat - (x4_1 : Int).toNat)) = False := by
               have h_ := c63
               simp only [ByteArray.size_append, ByteArray.size_extract] at h_
               have g0_ : (x4_1) ≤ (a0.size : Int) := of_decide_eq_true ad
               have g1_ : ((wrap64 (x4_1 + 2))) ≤ (a0.size : Int) := of_decide_eq_true ad
               have g2_ : ((ji55)) ≤ (a0.size : Int) := of_decide_eq_true ad
               exact eq_false (by omega)
         have c63b1 : decide (((a0.extract 0 (x4_1 : Int).toNat) ++ (a0.extract ((ji55) : Int).toNat ((wrap64 (x4_1 + 2)) : Int).toNat)).size + (a0.extract (x4_1 : Int).toNat ((ji55) : Int).toNat).size ≤ 9223372036854775807) = true := decide_eq_true c63
         have c63b2 : (9223372036854775807 < ((a0.extract 0 (x4_1 : Int).toNat) ++ (a0.extract ((ji55) : Int).toNat ((wrap64 (x4_1 + 2)) : Int).toNat)).size + (a0.extract (x4_1 : Int).toNat ((ji55) : Int).toNat).size) = False := eq_false (Nat.not_lt.2 c63)
         obtain ⟨ji64, hji64⟩ : ∃ j_ : Int, (wrap64 (x4_1 + 2)) = j_ := ⟨_, rfl⟩
         rw [hji64] at H
         rw [hji64] at c57b0
         rw [hji64] at c57b1
         rw [hji64] at c57
         rw [hji64] at c58b0
         rw [hji64] at c58b1
         rw [hji64] at c58
         rw [hji64] at c59b0
         rw [hji64] at c59b3
         rw [hji64] at c59b4
         rw [hji64] at c59b5
         rw [hji64] at c59b1
         rw [hji64] at c59
         rw [hji64] at c63b0
         rw [hji64] at c63b3
         rw [hji64] at c63b4
         rw [hji64] at c63b5
         rw [hji64] at c63b1
         rw [hji64] at c63
         have hji64w : (IntKind.i64.wrap (x4_1 + 2)) = ji64 := (i64_w _).trans hji64
         replace H := ip H; obtain ⟨c65, H⟩ := H; have c65b0 := eq_true c65
         have c65b1 : decide (0 ≤ (ji64)) = true := decide_eq_true c65
         clear c65; have c66b0 := eq_true (of_decide_eq_true ad : (ji64) ≤ (a0.size : Int)); replace H := ip H; obtain ⟨c67, H⟩ := H; have c67b0 := eq_true c67; have c67b5 := c67
         simp at c67b5
         have c67b4 := eq_false (Nat.not_lt.2 c67b5)
         try have c67b3 : (9223372036854775807 < (x4_1 : Int).toNat + (((ji64) : Int).toNat - ((ji55) : Int).toNat) + (((ji55) : Int).toNat - (x4_1 : Int).toNat) + (a0.size - ((ji64) : Int).toNat)) = False := by
               have h_ := c67
               simp only [ByteArray.size_append, ByteArray.size_extract] at h_
               have g0_ : (x4_1) ≤ (a0.size : Int) := of_decide_eq_true ad
               have g1_ : ((ji64)) ≤ (a0.size : Int) := of_decide_eq_true ad
               have g2_ : ((ji55)) ≤ (a0.size : Int) := of_decide_eq_true ad
               exact eq_false (by omega)
         have c67b1 : decide ((((a0.extract 0 (x4_1 : Int).toNat) ++ (a0.extract ((ji55) : Int).toNat ((ji64) : Int).toNat)) ++ (a0.extract (x4_1 : Int).toNat ((ji55) : Int).toNat)).size + (a0.extract ((ji64) : Int).toNat a0.size).size ≤ 9223372036854775807) = true := decide_eq_true c67
         have c67b2 : (9223372036854775807 < (((a0.extract 0 (x4_1 : Int).toNat) ++ (a0.extract ((ji55) : Int).toNat ((ji64) : Int).toNat)) ++ (a0.extract (x4_1 : Int).toNat ((ji55) : Int).toNat)).size + (a0.extract ((ji64) : Int).toNat a0.size).size) = False := eq_false (Nat.not_lt.2 c67)
         replace H := bs H; obtain ⟨t305, A680, H⟩ := H; have A68 := Aside0.mk A680; clear A680
         have H' := am H
         clear H
         try go_wp2
         replace HO_3 := am (Kd.V_drew HO_3.out); replace HB := am (below_drew1 HB.out); obtain ⟨Ao70, co70, eo70⟩ := Kd.V_slice HO_3.out
         (subst eo70)
         refine st (n := 25) (S := fun w' => True) (ds := []) trivial (fun hHeld => ?_); refine with_tabW spec_l1Near.tab14 spec_l1Near.bits14 (fun HT_ HW_ => ?_)
         generalize wc.drew = w69 at HO_3 HB hHeld ⊢; refine pu 0 72 ?_; refine pu 1 73 ?_; refine pu 2 74 ?_; refine pu 3 75 ?_; refine pu 4 76 ?_; refine pu 5 77 ?_; refine pu 6 78 ?_; refine pu 7 79 ?_; refine pu 8 80 ?_; refine pu 9 81 ?_; refine pu 10 82 ?_; refine pu 11 83 ?_; refine pu 12 84 ?_; refine pu 13 85 ?_; refine pu 14 86 ?_; refine pu 15 87 ?_; refine pu 16 88 ?_; refine pu 17 89 ?_; refine pu 18 90 ?_; refine pu 19 91 ?_; refine pu 20 92 ?_; refine pu 21 93 ?_; refine pu 22 94 ?_; refine on1 23 95 (fun K hK => ?_)
         refine goes_ Tryz.func55 (by kernel_rfl) rfl #[.slice Ao70 x3_39.length co70, .string a0, .string ((((a0.extract 0 (x4_1 : Int).toNat) ++ (a0.extract ((ji55) : Int).toNat ((ji64) : Int).toNat)) ++ (a0.extract (x4_1 : Int).toNat ((ji55) : Int).toNat)) ++ (a0.extract ((ji64) : Int).toNat a0.size))] (by rfl) rfl rfl (by simp only [List.map_toArray, List.map_cons, List.map_nil]; rfl) ?_
         with_reducible refine (spec_l1Step.calls kj39 (fun k_ => (w.heap.size ≤ k_)) _ _ x3_39 a0 ((((a0.extract 0 (x4_1 : Int).toNat) ++ (a0.extract ((ji55) : Int).toNat ((ji64) : Int).toNat)) ++ (a0.extract (x4_1 : Int).toNat ((ji55) : Int).toNat)) ++ (a0.extract ((ji64) : Int).toNat a0.size)) t305 _ ?side1 A68.out).mono ?_
         (case side1 => exact HO_3.out)
         rintro e w71 ⟨v306, rfl, ho0, hb⟩; refine ⟨_, rfl, ?_⟩
         replace HO_3 := am (Kd.V_below (vq HO_3.out) hb); have HO307 := am (Kd.V_lower (Kd.V_mono (ok' := fun k_ => (w.heap.size ≤ k_)) ho0 (fun k_ hk_ => Or.elim hk_ (fun hs_ => hs_) (fun hn_ => (Nat.le_trans (below_size bel) hn_)))) (below_size bel)); replace HB := am (below_step bel hb)
         clear hb ho0; refine hK.out _ _ trivial (fun hHeld => ?_); clear hK K; refine nm 95 ?_; refine pu 24 3 ?_
         refine done_ (done_of HT_.out (by kernel_rfl)) ?_
         try go_wp2
         go_roundg kj39
         case measure => have := HK1.out; have := HK2.out; have := HJ39.out; omega
         case rel => exact ⟨(t305), (ji55), (by rfl), H', ⟨by have := HK1.out; have := HK2.out; have := HJ39.out; omega⟩, ⟨vq HO307.out⟩, ⟨bel⟩⟩
        rw [if_neg c52] at H; have c52b0 := decide_eq_false c52; clear c52
        have H' := am H
        clear H; go_wp2
        go_roundg kj39
        case measure => have := HK1.out; have := HK2.out; have := HJ39.out; omega
        case rel => exact ⟨(x3_39), (wrap64 (x4_1 + 1)), sq, H', ⟨by have := HK1.out; have := HK2.out; have := HJ39.out; omega⟩, ⟨vq HO_3.out⟩, ⟨bel⟩⟩
   rw [if_neg c4] at H; have c4b0 := decide_eq_false c4; clear c4; obtain rfl := Option.some.inj H; go_wp2; go_ret
   exact ⟨_, eq_, by (with_reducible repeat (fail)); exact HO_3.out, bel⟩
end Go.Proofs.YtdfnijaacnlfaaaGreat.QFnBookGuesses

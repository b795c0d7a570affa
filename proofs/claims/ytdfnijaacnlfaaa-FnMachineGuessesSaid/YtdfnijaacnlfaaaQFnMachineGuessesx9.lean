import Derived.Test.YtdfnijaacnlfaaaQFnMachineGuessesx0
import Derived.Test.YtdfnijaacnlfaaaQFnMachineGuessesx7
import Derived.Test.YtdfnijaacnlfaaaVMSh2
import Derived.Test.YtdfnijaacnlfaaaQFnMachineGuessesx4
namespace Go.Proofs.Ytdfnijaacnlfaaa.QFnMachineGuesses
open Go.RowKit Go.Proofs.YtdfnijaacnlfaaaW.PrintWords Go.Proofs.YtdfnijaacnlfaaaW.PrintLast Go.Proofs.YtdfnijaacnlfaaaW.PrintMore Go.Proofs.Ytdfnijaacnlfaaa.Sh
attribute [local go_sem] max2_int min2_int max_two min_two max_three min_three max_four min_four
set_option linter.unusedVariables false
set_option linter.unusedSimpArgs false
set_option maxHeartbeats 8000000
set_option maxRecDepth 100000
-- shrunk

/-! ### spec_l13Book: function 90 -/
mutual
def spec_l13Book.l0 : Nat → List ByteArray → Int → List Int → Int → List (S73) → Option ((List (S73)) × (List (S66)) × Int)
 | 0, _, _, _, _, _ => none
 | k + 1, x4, x5, x1000, x1001, x297000 => if x5 > 0 then ((spec_l13Word.f k x1000 x1001).bind fun bt302 => ((spec_l1Put.f k x4 bt302.1).bind fun t304 => (spec_l13Book.l0 k t304 (wrap64 (x5 - 1)) x1000 bt302.2 x297000))) else ((spec_l1Rd_pick.f k x1000 x1001 30).bind fun bt307 => (if bt307.1 = 0 then (spec_l13Book.l1 k x4 0 x1000 bt307.2 x297000) else (spec_l13Book.j2 k x4 x1000 bt307.2 x297000)))
def spec_l13Book.j2 : Nat → List ByteArray → List Int → Int → List (S73) → Option ((List (S73)) × (List (S66)) × Int)
 | 0, _, _, _, _ => none
 | k + 1, x4, x1000, x1001, x297000 => spec_l13Book.l2 k x4 0 x1000 x1001 x297000 ([] : List (S66))
def spec_l13Book.l2 : Nat → List ByteArray → Int → List Int → Int → List (S73) → List (S66) → Option ((List (S73)) × (List (S66)) × Int)
 | 0, _, _, _, _, _, _ => none
 | k + 1, x4, x7, x1000, x1001, x297000, x297001 => if x7 < (x4.length : Int) then (if 0 ≤ x7 then ((spec_l13Entry.f k x1000 x1001 (rdOf ByteArray.empty x4 x7)).bind fun bt316 => (if x297001.length < 4398046511104 then (spec_l13Book.l2 k x4 (wrap64 (x7 + 1)) x1000 bt316.2.2 x297000 (x297001 ++ [(⟨bt316.1, bt316.2.1⟩ : S66)])) else (none))) else (none)) else (some (x297000, x297001, x1001))
def spec_l13Book.l1 : Nat → List ByteArray → Int → List Int → Int → List (S73) → Option ((List (S73)) × (List (S66)) × Int)
 | 0, _, _, _, _, _ => none
 | k + 1, x4, x6, x1000, x1001, x297000 => if (x4.length : Int) < 24 then ((some (([(wrap64 (97 + x6)) % 256] : List Int) : List Int)).bind fun y309 => (if 1 + (strOfNums y309).size ≤ 9223372036854775807 then ((spec_l1Put.f k x4 ((⟨#[119]⟩ : ByteArray) ++ (strOfNums y309))).bind fun t312 => (spec_l13Book.l1 k t312 (wrap64 (x6 + 1)) x1000 x1001 x297000)) else (none))) else (spec_l13Book.j2 k x4 x1000 x1001 x297000)
end
def spec_l13Book.f (k : Nat) (s0_0 : List Int) (s0_1 : Int) : Option ((List (S73)) × (List (S66)) × Int) := (spec_l13Affixes.f k s0_0 s0_1).bind fun bt292 => ((spec_l1Rd_pick.f k s0_0 bt292.2 7).bind fun bt300 => (spec_l13Book.l0 k (([] : List ByteArray)) bt300.1 s0_0 bt300.2 bt292.1))
def spec_l13Book.T15 : Bool × List (List Nat × List Nat) := (true, [([], []), ([0], [0]), ([], []), ([], []), ([], []), ([3, 4], [3, 4]), ([5], [5]), ([2, 6], [2, 6]), ([7], [7]), ([1, 8, 7], [1, 8]), ([0, 1, 2, 3, 4, 5, 6, 7, 8, 9], []), ([10, 9, 9, 0, 1, 2, 3, 4, 5, 6, 7, 8, 9], [9, 10])])
def spec_l13Book.B15 : List Nat := [0, 1, 0, 0, 0, 24, 56, 124, 252, 511, 1023, 2047]
theorem spec_l13Book.tab15 : rtab .any (opsOf Try.f90 15) = spec_l13Book.T15 := by kernel_rfl
theorem spec_l13Book.bits15 : waitsOk spec_l13Book.T15.2 spec_l13Book.B15 = true := by kernel_rfl
theorem spec_l13Book.calls (k : Nat) (g : Nat) (s0_0 : List Int) (s0_1 : Int) (r1 : List (S73)) (r2 : List (S66)) (r3 : Int) (w0 w : World) (hI : IsS114 w0 w g s0_0 s0_1) (hB : Below w0.heap.size w0 w) (h : spec_l13Book.f k s0_0 s0_1 = some (r1, r2, r3)) :
  Calls Try.prog 90 #[.pointer (some ⟨g, 0, none⟩)] w fun e w' => ∃ v0_ v1_ : Value, e = .returned (.agg #[v0_, v1_]) ∧ Kd.R k73 73 w' w.heap.size (fun _ => True) v0_ r1 ∧ Kd.R k66 66 w' w.heap.size (fun _ => True) v1_ r2 ∧ IsS114 w0 w' g s0_0 r3 ∧ Below w0.heap.size w0 w' ∧ KeepBut w w' g none := by
 have hu34 := Try.underlying34; have HI0 := am hI; have HK := am (KeepBut.refl w g none); have HL := am hB.size; clear hI; have HW0 := am hB.size; have HB := am hB; clear hB
 have H := h; unfold spec_l13Book.f at H
 clear h; replace H := bs H; obtain ⟨⟨t292, t295⟩, A20, H⟩ := H; dsimp only at H; have A2 := Aside0.mk A20; clear A20; obtain ⟨y297, hy297⟩ : ∃ y_ : List ByteArray, y_ = (([] : List ByteArray)) := ⟨_, rfl⟩
 rw [← hy297] at H
 have Ny297 := am hy297; clear hy297; replace H := bs H; obtain ⟨⟨t300, t301⟩, A30, H⟩ := H; dsimp only at H; have A3 := Aside0.mk A30; clear A30
 have H' := am H
 clear H; go_enter Try.func90, Try.ntmps90
 go_wp2_with (first | ((with_reducible refine gate_dst (N := 2) rfl ?_); refine bx 2 (cs := #[.slice none 0 0, .slice none 0 0]) (t := 34) ?_; intro gb291 hg w4 hbox hb; replace HB := am (below_step b1_ hb); have BK291 := am (hbox); have GW291 := am ((b8_ : w.heap.size ≤ gb291)); have GE291 := am ((Nat.le_trans HW0.out (b8_ : w.heap.size ≤ gb291) : w0.heap.size ≤ gb291)); replace HK := am (KeepBut.trans b0_ (KeepBut.of_below hb g none) (.inl rfl)); have NB0_291 := am ((b48_ : g ≠ gb291)); have NB291_0 := am ((b49_ : gb291 ≠ g)); replace HI0 := am (IsS114.below b2_ hb); clear hb hbox hg) | ((with_reducible refine gate_callee (f := 111) rfl ?_); refine gl 9 Try.func111 #[.pointer (some ⟨g, 0, none⟩)] ?_; (with_reducible refine (spec_l13Affixes.calls k g s0_0 s0_1 t292 t295 w0 _ ?side1 ?side2 A2.out).mono ?_); (case side1 => repeat (with_reducible exact HI0.out)); (case side2 => repeat (with_reducible exact HB.out)); rintro e w5 ⟨v293, rfl, ho0, hi, hb, hk⟩; refine ⟨_, rfl, ?_⟩; replace BK291 := am (KeepBut.blk hk (g' := gb291) (o := .cells #[.slice none 0 0, .slice none 0 0] 34 (0, 0)) (bq BK291.out) NB291_0.out (by simp)); have HO294 := am (Kd.R_lower ho0 (keep_size (w := w) (g := g) (row := none) b37_)); replace HK := am (KeepBut.trans b37_ hk (.inl rfl)); replace HB := am (hb); replace HI0 := am (hi); clear hb hk hi; clear ho0; obtain ⟨Ao6, co6, eo6⟩ := Kd.R_slice HO294.out; subst eo6) | ((with_reducible refine gate_dst (N := 3) rfl ?_); refine bx 3 (cs := #[.slice none 0 0, .slice none 0 0]) (t := 34) ?_; intro gb296 hg w7 hbox hb; replace HO294 := am (Kd.R_below (rq HO294.out) hb); replace HB := am (below_step (by repeat (with_reducible exact HB.out)) hb); have BK296 := am (hbox); have GW296 := am ((b67_ : w.heap.size ≤ gb296)); have GE296 := am ((Nat.le_trans HW0.out (b67_ : w.heap.size ≤ gb296) : w0.heap.size ≤ gb296)); replace HK := am (KeepBut.trans b37_ (KeepBut.of_below hb g none) (.inl rfl)); have NB291_296 := am ((by rw [hg]; exact Nat.ne_of_lt (blk_lt (g := gb291) (o := .cells #[.slice none 0 0, .slice none 0 0] 34 (0, 0)) (bq BK291.out)) : gb291 ≠ gb296)); have NB296_291 := am ((by rw [hg]; exact Nat.ne_of_gt (blk_lt (g := gb291) (o := .cells #[.slice none 0 0, .slice none 0 0] 34 (0, 0)) (bq BK291.out)) : gb296 ≠ gb291)); replace BK291 := am (blk_below (bq BK291.out) hb); have NB0_296 := am ((by rw [hg]; exact Nat.ne_of_lt (IsS114.lt (show IsS114 w0 _ g s0_0 t295 from by repeat (with_reducible exact HI0.out))) : g ≠ gb296)); have NB296_0 := am ((by rw [hg]; exact Nat.ne_of_gt (IsS114.lt (show IsS114 w0 _ g s0_0 t295 from by repeat (with_reducible exact HI0.out))) : gb296 ≠ g)); replace HI0 := am (IsS114.below (by repeat (with_reducible exact HI0.out)) hb); clear hb hbox hg; have hnb8 := NB296_291.out; have hnc8 := NB291_296.out; have hnb9 := NB296_0.out; have hnc9 := NB0_296.out; have ⟨hcz10_0, hcz10_1, hfz10_0, hfz10_1⟩ := b2c BK296.out) | ((with_reducible refine gate_dst (N := 11) rfl ?_); refine Kd.R_lit Kd.string _ 9 ?hg (N := 11) ?hd (xs := ([] : List ByteArray)) (inner := []) (ok := fun _ => True) (okp := fun _ => True) ?hr ?hp (fun _ hk => hk) trivial (Below.refl _ _) (Nat.le_refl _) (by simp) ?_; (case hd => rfl); (case hg => rfl); (case hr => (go_simp; done)); (case hp => exact (Reps.none _ _)); intro v298 w11 ho12 hb hg_ hnew_; clear hg_ hnew_; (rw [← Ny297.out] at ho12); replace HO294 := am (Kd.R_below (rq ((Kd.R_mono (Kd.R_far (p := ⟨gb296, 1, none⟩) (Kd.R_far (p := ⟨gb296, 0, none⟩) (Kd.R_types HO294.out BK296.out (by decide)) (fun _ hk => hk.2) (.slice Ao6 t292.length co6)) (fun _ hk => hk.2) (.slice none 0 0)) (fun _ h_ => h_.1)))) hb); have HO299 := am (Kd.R_lower ho12 (keep_size (w := w) (g := g) (row := none) b3_)); replace BK291 := am (blk_below (g := gb291) (o := .cells #[.slice none 0 0, .slice none 0 0] 34 (0, 0)) (by (with_reducible repeat (fail)); refine blk_far ?_ NB291_296.out _; (with_reducible repeat (fail)); refine blk_far ?_ NB291_296.out _; (with_reducible repeat (fail)); exact BK291.out) hb); replace BK296 := am (blk_below (g := gb296) (o := .cells #[.slice Ao6 t292.length co6, .slice none 0 0] 34 (0, 0)) (by (with_reducible repeat (fail)); refine blk_put (cs := #[.slice Ao6 t292.length co6, .slice none 0 0]) ?_ 1 _ rfl; (with_reducible repeat (fail)); refine blk_put (cs := #[.slice none 0 0, .slice none 0 0]) ?_ 0 _ rfl; (with_reducible repeat (fail)); exact BK296.out) hb); replace HK := am (KeepBut.trans b3_ (KeepBut.of_below hb g none) (.inl rfl)); replace HB := am (below_step b6_ hb); replace HI0 := am (IsS114.below (show IsS114 w0 ((w7.setCell ⟨gb296, 0, none⟩ (.slice Ao6 t292.length co6)).setCell ⟨gb296, 1, none⟩ (.slice none 0 0)) g s0_0 t295 from by repeat (with_reducible first | exact HI0.out | refine IsS114.far ?_ NB0_296.out _)) hb); clear hb ho12) | ((with_reducible refine gate_callee (f := 53) rfl ?_); refine gl 13 Try.func53 #[.pointer (some ⟨g, 0, none⟩), .int .i64 7] ?_; (with_reducible refine (spec_l1Rd_pick.calls k g s0_0 t295 7 t300 t301 w0 _ ?side1 ?side2 A3.out).mono ?_); (case side1 => repeat (with_reducible exact HI0.out)); (case side2 => repeat (with_reducible exact HB.out)); rintro e w13 ⟨rfl, hi, hb, hk⟩; refine ⟨_, rfl, ?_⟩; replace BK291 := am (KeepBut.blk hk (g' := gb291) (o := .cells #[.slice none 0 0, .slice none 0 0] 34 (0, 0)) (bq BK291.out) NB291_0.out (by simp)); replace HO294 := am (Kd.R_mono (Kd.R_keep (IsS114.apart (show IsS114 w0 _ g s0_0 t295 from by repeat (with_reducible exact HI0.out)) (rq HO294.out) (by decide)) hk (fun _ h => h.2)) (fun _ h => h.1)); replace BK296 := am (KeepBut.blk hk (g' := gb296) (o := .cells #[.slice Ao6 t292.length co6, .slice none 0 0] 34 (0, 0)) (bq BK296.out) NB296_0.out (by simp)); replace HO299 := am (Kd.R_mono (Kd.R_keep (IsS114.apart (show IsS114 w0 _ g s0_0 t295 from by repeat (with_reducible exact HI0.out)) (rq HO299.out) (by decide)) hk (fun _ h => h.2)) (fun _ h => h.1)); replace HK := am (KeepBut.trans b3_ hk (.inl rfl)); replace HB := am (hb); replace HI0 := am (hi); clear hb hk hi))
 go_loopg [4, 5] k (fun kq v4 v5 w' => ∃ (x4_1 : List ByteArray) (x5_1 : Int) (x1001_1 : Int), v5 = .int .i64 x5_1 ∧ Aside0 (spec_l13Book.l0 kq x4_1 x5_1 s0_0 x1001_1 t292 = some (r1, r2, r3)) ∧ Aside0 (kq ≤ k) ∧ Aside0 (Kd.V Kd.string 9 w' w.heap.size (fun k_ => some k_ ≠ ((.slice Ao6 t292.length co6) : Value).ownBlock ∧ k_ ≠ gb291 ∧ k_ ≠ gb296 ∧ k_ ≠ g) v4 x4_1) ∧ Aside0 (Kd.R k73 73 w' w.heap.size (fun _ => True) (.slice Ao6 t292.length co6) t292) ∧ Aside0 (w'.heap[gb291]? = some (.cells #[(.slice none 0 0), (.slice none 0 0)] 34 (0, 0))) ∧ Aside0 (w'.heap[gb296]? = some (.cells #[(.slice Ao6 t292.length co6), (.slice none 0 0)] 34 (0, 0))) ∧ Aside0 (IsS114 w0 w' g s0_0 x1001_1) ∧ Aside0 (KeepBut w w' g none) ∧ Aside0 (Below w0.heap.size w0 w'))
 case atStart => exact ⟨(y297), (t300), (t301), sq, H', ⟨Nat.le_refl _⟩, ⟨Kd.R_V (rq (Kd.R_mono (IsS114.apart HI0.out (Kd.R_types (Kd.R_types (Kd.R_apart' HO299.out (Kd.R_typed HO294.out) (by decide)) BK291.out (by decide)) BK296.out (by decide)) (by decide)) (fun _ hk => ⟨hk.1.1.1.2, ⟨hk.1.1.2, ⟨hk.1.2, hk.2⟩⟩⟩)))⟩, ⟨rq HO294.out⟩, ⟨bq BK291.out⟩, ⟨bq BK296.out⟩, ⟨b4_⟩, ⟨b3_⟩, ⟨b6_⟩⟩
 case round =>
  clear H'; clear hcz10_0 hcz10_1 hfz10_0 hfz10_1; obtain ⟨x4_1, x5_1, x1001_1, rfl, HA, HK1, HO_4, HO_297000, BK291, BK296, HI0, HK, HB⟩ := hrel
  cases gk with
  | zero => exact absurd HA.out (by simp [spec_l13Book.l0])
  | succ k1 =>
   have H := HA.out; clear HA; simp only [spec_l13Book.l0] at H
   by_cases c14 : x5_1 > 0
   ·rw [if_pos c14] at H; have c14b0 := decide_eq_true c14; clear c14; replace H := bs H; obtain ⟨⟨t302, t303⟩, A150, H⟩ := H; dsimp only at H; have A15 := Aside0.mk A150; clear A150; replace H := bs H; obtain ⟨t304, A160, H⟩ := H; have A16 := Aside0.mk A160; clear A160
    have H' := am H
    clear H
    go_wp2_with (first | ((with_reducible refine gate_callee (f := 103) rfl ?_); refine gl 20 Try.func103 #[.pointer (some ⟨g, 0, none⟩)] ?_; (with_reducible refine (spec_l13Word.calls k1 g s0_0 x1001_1 t302 t303 w0 _ ?side1 ?side2 A15.out).mono ?_); (case side1 => repeat (with_reducible exact HI0.out)); (case side2 => repeat (with_reducible exact HB.out)); rintro e w17 ⟨rfl, hi, hb, hk⟩; refine ⟨_, rfl, ?_⟩; replace HO_4 := am (Kd.V_mono (Kd.V_keep (Kd.V_mono (ok := fun k_ => (some k_ ≠ (.slice Ao6 t292.length co6 : Value).ownBlock ∧ (k_ ≠ gb291 ∧ (k_ ≠ gb296 ∧ k_ ≠ g)))) (vq HO_4.out) (fun k_ hk_ => (⟨hk_, hk_.2.2.2⟩ : _ ∧ k_ ≠ g))) hk (fun _ h => h.2)) (fun _ h => h.1)); replace HO_297000 := am (Kd.R_mono (Kd.R_keep (IsS114.apart (show IsS114 w0 _ g s0_0 x1001_1 from by repeat (with_reducible exact HI0.out)) (rq HO_297000.out) (by decide)) hk (fun _ h => h.2)) (fun _ h => h.1)); replace BK291 := am (KeepBut.blk hk (g' := gb291) (o := .cells #[.slice none 0 0, .slice none 0 0] 34 (0, 0)) (bq BK291.out) NB291_0.out (by simp)); replace BK296 := am (KeepBut.blk hk (g' := gb296) (o := .cells #[.slice Ao6 t292.length co6, .slice none 0 0] 34 (0, 0)) (bq BK296.out) NB296_0.out (by simp)); replace HK := am (KeepBut.trans b3_ hk (.inl rfl)); replace HB := am (hb); replace HI0 := am (hi); clear hb hk hi; obtain ⟨Ao18, co18, eo18⟩ := Kd.V_slice HO_4.out; subst eo18) | ((with_reducible refine gate_callee (f := 112) rfl ?_); refine gl 21 Try.func112 #[.slice Ao18 x4_1.length co18, .string t302] ?_; (with_reducible refine (spec_l1Put.calls k1 (fun k_ => (some k_ ≠ (.slice Ao6 t292.length co6 : Value).ownBlock ∧ (k_ ≠ gb291 ∧ (k_ ≠ gb296 ∧ k_ ≠ g)))) _ _ x4_1 t302 t304 _ ?side1 A16.out).mono ?_); (case side1 => exact HO_4.out); rintro e w19 ⟨v305, rfl, ho0, hb⟩; refine ⟨_, rfl, ?_⟩; replace HO_4 := am (Kd.V_below (vq HO_4.out) hb); have HO306 := am (Kd.V_lower (Kd.V_mono (ok' := fun k_ => some k_ ≠ (.slice Ao6 t292.length co6 : Value).ownBlock ∧ k_ ≠ gb291 ∧ k_ ≠ gb296 ∧ k_ ≠ g) ho0 (fun k_ hk_ => ⟨Or.elim hk_ (fun hs_ => hs_.1) (fun hn_ => (Kd.fresh' (Kd.R_lt (rq HO_297000.out)) k_ hn_)), Or.elim hk_ (fun hs_ => hs_.2.1) (fun hn_ => (Kd.freshB (g := gb291) (o := .cells #[.slice none 0 0, .slice none 0 0] 34 (0, 0)) (bq BK291.out) k_ hn_)), Or.elim hk_ (fun hs_ => hs_.2.2.1) (fun hn_ => (Kd.freshB (g := gb296) (o := .cells #[.slice Ao6 t292.length co6, .slice none 0 0] 34 (0, 0)) (bq BK296.out) k_ hn_)), Or.elim hk_ (fun hs_ => hs_.2.2.2) (fun hn_ => (IsS114.fresh b4_ k_ hn_))⟩)) (keep_size (w := w) (g := g) (row := none) b3_)); replace HO_297000 := am (Kd.R_below (rq HO_297000.out) hb); replace BK291 := am (blk_below (bq BK291.out) hb); replace BK296 := am (blk_below (bq BK296.out) hb); replace HK := am (KeepBut.trans b3_ (KeepBut.of_below hb g none) (.inl rfl)); replace HB := am (below_step b6_ hb); replace HI0 := am (IsS114.below b4_ hb); clear hb; clear ho0))
    go_roundg k1
    case measure => have := HK1.out; omega
    case rel => exact ⟨(t304), (wrap64 (x5_1 - 1)), (t303), sq, H', ⟨b68_⟩, ⟨vq HO306.out⟩, ⟨rq HO_297000.out⟩, ⟨bq BK291.out⟩, ⟨bq BK296.out⟩, ⟨b4_⟩, ⟨b3_⟩, ⟨b6_⟩⟩
   rw [if_neg c14] at H; have c14b0 := decide_eq_false c14; clear c14; replace H := bs H; obtain ⟨⟨t307, t308⟩, A200, H⟩ := H; dsimp only at H; have A20 := Aside0.mk A200; clear A200; have HC21 := am H; clear H
   go_upto_if 24 with ((with_reducible refine gate_callee (f := 53) rfl ?_); refine gl 23 Try.func53 #[.pointer (some ⟨g, 0, none⟩), .int .i64 30] ?_; (with_reducible refine (spec_l1Rd_pick.calls k1 g s0_0 x1001_1 30 t307 t308 w0 _ ?side1 ?side2 A20.out).mono ?_); (case side1 => repeat (with_reducible exact HI0.out)); (case side2 => repeat (with_reducible exact HB.out)); rintro e w22 ⟨rfl, hi, hb, hk⟩; refine ⟨_, rfl, ?_⟩; replace HO_4 := am (Kd.V_mono (Kd.V_keep (Kd.V_mono (ok := fun k_ => (some k_ ≠ (.slice Ao6 t292.length co6 : Value).ownBlock ∧ (k_ ≠ gb291 ∧ (k_ ≠ gb296 ∧ k_ ≠ g)))) (vq HO_4.out) (fun k_ hk_ => (⟨hk_, hk_.2.2.2⟩ : _ ∧ k_ ≠ g))) hk (fun _ h => h.2)) (fun _ h => h.1)); replace HO_297000 := am (Kd.R_mono (Kd.R_keep (IsS114.apart (show IsS114 w0 _ g s0_0 x1001_1 from by repeat (with_reducible exact HI0.out)) (rq HO_297000.out) (by decide)) hk (fun _ h => h.2)) (fun _ h => h.1)); replace BK291 := am (KeepBut.blk hk (g' := gb291) (o := .cells #[.slice none 0 0, .slice none 0 0] 34 (0, 0)) (bq BK291.out) NB291_0.out (by simp)); replace BK296 := am (KeepBut.blk hk (g' := gb296) (o := .cells #[.slice Ao6 t292.length co6, .slice none 0 0] 34 (0, 0)) (bq BK296.out) NB296_0.out (by simp)); replace HK := am (KeepBut.trans b3_ hk (.inl rfl)); replace HB := am (hb); replace HI0 := am (hi); clear hb hk hi)
   go_cut [4] (fun v4 wc => ∃ (kq : Nat) (x4_20 : List ByteArray), Aside0 (spec_l13Book.j2 kq x4_20 s0_0 t308 t292 = some (r1, r2, r3)) ∧ Aside0 (kq ≤ k1) ∧ Aside0 (Kd.V Kd.string 9 wc w.heap.size (fun k_ => some k_ ≠ ((.slice Ao6 t292.length co6) : Value).ownBlock ∧ k_ ≠ gb291 ∧ k_ ≠ gb296 ∧ k_ ≠ g) v4 x4_20) ∧ Aside0 (Kd.R k73 73 wc w.heap.size (fun _ => True) (.slice Ao6 t292.length co6) t292) ∧ Aside0 (wc.heap[gb291]? = some (.cells #[(.slice none 0 0), (.slice none 0 0)] 34 (0, 0))) ∧ Aside0 (wc.heap[gb296]? = some (.cells #[(.slice Ao6 t292.length co6), (.slice none 0 0)] 34 (0, 0))) ∧ Aside0 (IsS114 w0 wc g s0_0 t308) ∧ Aside0 (KeepBut w wc g none) ∧ Aside0 (Below w0.heap.size w0 wc))
   case first =>
    have H := HC21.out; clear HC21
    by_cases c23 : t307 = 0
    ·rw [if_pos c23] at H
     have c23b0 : (t307 == 0) = true := beq_iff_eq.mpr c23
     have c23b1 : (t307 != 0) = false := bne_eq_false_iff_eq.mpr c23
     clear c23
     (rw [c23b0])
     have H' := am H
     clear H; go_wp2
     go_loopg [4, 6] k1 (fun kq v4 v6 w' => ∃ (x4_2 : List ByteArray) (x6_2 : Int), v6 = .int .i64 x6_2 ∧ Aside0 (spec_l13Book.l1 kq x4_2 x6_2 s0_0 t308 t292 = some (r1, r2, r3)) ∧ Aside0 (kq ≤ k1) ∧ Aside0 (Kd.V Kd.string 9 w' w.heap.size (fun k_ => some k_ ≠ ((.slice Ao6 t292.length co6) : Value).ownBlock ∧ k_ ≠ gb291 ∧ k_ ≠ gb296 ∧ k_ ≠ g) v4 x4_2) ∧ Aside0 (Kd.R k73 73 w' w.heap.size (fun _ => True) (.slice Ao6 t292.length co6) t292) ∧ Aside0 (w'.heap[gb291]? = some (.cells #[(.slice none 0 0), (.slice none 0 0)] 34 (0, 0))) ∧ Aside0 (w'.heap[gb296]? = some (.cells #[(.slice Ao6 t292.length co6), (.slice none 0 0)] 34 (0, 0))) ∧ Aside0 (IsS114 w0 w' g s0_0 t308) ∧ Aside0 (KeepBut w w' g none) ∧ Aside0 (Below w0.heap.size w0 w'))
     case atStart => exact ⟨(x4_1), (0), sq, H', ⟨Nat.le_refl _⟩, ⟨vq HO_4.out⟩, ⟨rq HO_297000.out⟩, ⟨bq BK291.out⟩, ⟨bq BK296.out⟩, ⟨b4_⟩, ⟨b3_⟩, ⟨b6_⟩⟩
     case round =>
      clear H'; clear c14b0 c23b0 c23b1; obtain ⟨x4_2, x6_2, rfl, HA, HK2, HO_4, HO_297000, BK291, BK296, HI0, HK, HB⟩ := hrel
      cases gk with
      | zero => exact absurd HA.out (by simp [spec_l13Book.l1])
      | succ k2 =>
       have H := HA.out; clear HA; simp only [spec_l13Book.l1] at H
       by_cases c24 : (x4_2.length : Int) < 24
       ·rw [if_pos c24] at H; have c24b0 := decide_eq_true c24
        have c24b1 : decide (x4_2.length < 24) = true := decide_eq_true (by omega)
        clear c24; obtain ⟨y309, hy309⟩ : ∃ y_ : List Int, y_ = (([(wrap64 (97 + x6_2)) % 256] : List Int)) := ⟨_, rfl⟩
        replace H := bm H; rw [← hy309] at H
        have Ny309 := am hy309; clear hy309; replace H := ip H; obtain ⟨c25, H⟩ := H; have c25b0 := eq_true c25
        have c25b1 : decide (1 + (strOfNums y309).size ≤ 9223372036854775807) = true := decide_eq_true c25
        have c25b2 : (9223372036854775807 < 1 + (strOfNums y309).size) = False := eq_false (Nat.not_lt.2 c25)
        replace H := bs H; obtain ⟨t312, A260, H⟩ := H; have A26 := Aside0.mk A260; clear A260
        have H' := am H
        clear H; obtain ⟨Ao27, co27, eo27⟩ := Kd.V_slice HO_4.out; subst eo27
        go_wp2_with (first | ((with_reducible refine gate_dst (N := 34) rfl ?_); refine Kd.R_lit (Kd.int .u8) _ 5 ?hg (N := 34) ?hd (xs := ([(wrap64 (97 + x6_2)) % 256] : List Int)) (inner := [.int .u8 ((wrap64 (97 + x6_2)) % 256)]) (ok := fun _ => True) (okp := fun _ => True) ?hr ?hp (fun _ hk => hk) trivial (Below.refl _ _) (Nat.le_refl _) (by simp) ?_; (case hd => rfl); (case hg => rfl); (case hr => (go_simp; done)); (case hp => exact (Reps.one (show Kd.M (Kd.int .u8) _ _ _ ((wrap64 (97 + x6_2)) % 256) [.int .u8 ((wrap64 (97 + x6_2)) % 256)] from rfl) (Reps.none _ _))); intro v310 w28 ho29 hb hg_ hnew_; clear hg_ hnew_; (rw [← Ny309.out] at ho29); replace HO_4 := am (Kd.V_elder' (vq HO_4.out) (Kd.R_base ho29) hb); replace HO_297000 := am (Kd.R_below (rq HO_297000.out) hb); have HO311 := am (Kd.R_lower ho29 (keep_size (w := w) (g := g) (row := none) b3_)); replace BK291 := am (blk_below (bq BK291.out) hb); replace BK296 := am (blk_below (bq BK296.out) hb); replace HK := am (KeepBut.trans b3_ (KeepBut.of_below hb g none) (.inl rfl)); replace HB := am (below_step b6_ hb); replace HI0 := am (IsS114.below b4_ hb); clear hb ho29; have hcv30 := own_string (P := Try.prog) Try.underlying41 Try.underlying5 Try.underlying9 (Kd.own_of_R HO311.out)) | ((with_reducible refine gate_callee (f := 112) rfl ?_); refine gl 37 Try.func112 #[.slice Ao27 x4_2.length co27, .string ((⟨#[119]⟩ : ByteArray) ++ (strOfNums y309))] ?_; (with_reducible refine (spec_l1Put.calls k2 (fun k_ => ((some k_ ≠ (.slice Ao6 t292.length co6 : Value).ownBlock ∧ (k_ ≠ gb291 ∧ (k_ ≠ gb296 ∧ k_ ≠ g))) ∧ some k_ ≠ (v310 : Value).ownBlock)) _ _ x4_2 ((⟨#[119]⟩ : ByteArray) ++ (strOfNums y309)) t312 _ ?side1 A26.out).mono ?_); (case side1 => exact HO_4.out); rintro e w31 ⟨v313, rfl, ho0, hb⟩; refine ⟨_, rfl, ?_⟩; replace HO_4 := am (Kd.V_below (vq HO_4.out) hb); have HO314 := am (Kd.V_lower (Kd.V_mono (ok' := fun k_ => some k_ ≠ (.slice Ao6 t292.length co6 : Value).ownBlock ∧ some k_ ≠ (v310 : Value).ownBlock ∧ k_ ≠ gb291 ∧ k_ ≠ gb296 ∧ k_ ≠ g) ho0 (fun k_ hk_ => ⟨Or.elim hk_ (fun hs_ => hs_.1.1) (fun hn_ => (Kd.fresh' (Kd.R_lt (rq HO_297000.out)) k_ hn_)), Or.elim hk_ (fun hs_ => hs_.2) (fun hn_ => (Kd.fresh' (Kd.R_lt (rq HO311.out)) k_ hn_)), Or.elim hk_ (fun hs_ => hs_.1.2.1) (fun hn_ => (Kd.freshB (g := gb291) (o := .cells #[.slice none 0 0, .slice none 0 0] 34 (0, 0)) (bq BK291.out) k_ hn_)), Or.elim hk_ (fun hs_ => hs_.1.2.2.1) (fun hn_ => (Kd.freshB (g := gb296) (o := .cells #[.slice Ao6 t292.length co6, .slice none 0 0] 34 (0, 0)) (bq BK296.out) k_ hn_)), Or.elim hk_ (fun hs_ => hs_.1.2.2.2) (fun hn_ => (IsS114.fresh b4_ k_ hn_))⟩)) (keep_size (w := w) (g := g) (row := none) b3_)); replace HO_297000 := am (Kd.R_below (rq HO_297000.out) hb); replace HO311 := am (Kd.R_below (rq HO311.out) hb); replace BK291 := am (blk_below (bq BK291.out) hb); replace BK296 := am (blk_below (bq BK296.out) hb); replace HK := am (KeepBut.trans b3_ (KeepBut.of_below hb g none) (.inl rfl)); replace HB := am (below_step b6_ hb); replace HI0 := am (IsS114.below b4_ hb); clear hb; clear ho0))
        go_roundg k2
        case measure => have := HK1.out; have := HK2.out; omega
        case rel => exact ⟨(t312), (wrap64 (x6_2 + 1)), sq, H', ⟨b30_⟩, ⟨vq (Kd.V_mono HO314.out (fun _ hk => ⟨hk.1, ⟨hk.2.2.1, ⟨hk.2.2.2.1, hk.2.2.2.2⟩⟩⟩))⟩, ⟨rq HO_297000.out⟩, ⟨bq BK291.out⟩, ⟨bq BK296.out⟩, ⟨b4_⟩, ⟨b3_⟩, ⟨b6_⟩⟩
       rw [if_neg c24] at H; have c24b0 := decide_eq_false c24
       have c24b1 : decide (x4_2.length < 24) = false := decide_eq_false (by omega)
       clear c24
       have H' := am H
       clear H; obtain ⟨Ao32, co32, eo32⟩ := Kd.V_slice HO_4.out; subst eo32; go_wp2
       go_meet
       case rel => exact ⟨_, (x4_2), H', ⟨b82_⟩, ⟨vq HO_4.out⟩, ⟨rq HO_297000.out⟩, ⟨bq BK291.out⟩, ⟨bq BK296.out⟩, ⟨b4_⟩, ⟨b3_⟩, ⟨b6_⟩⟩
    rw [if_neg c23] at H
    have c23b0 : (t307 == 0) = false := beq_eq_false_iff_ne.mpr c23
    have c23b1 : (t307 != 0) = true := bne_iff_ne.mpr c23
    (rw [c23b0])
    have H' := am H
    clear H; go_wp2
    go_meet
    case rel => exact ⟨_, (x4_1), H', ⟨b39_⟩, ⟨vq HO_4.out⟩, ⟨rq HO_297000.out⟩, ⟨bq BK291.out⟩, ⟨bq BK296.out⟩, ⟨b4_⟩, ⟨b3_⟩, ⟨b6_⟩⟩
   case rest =>
    clear HC21; clear c14b0; obtain ⟨kq, x4_20, HA, HJ20, HO_4, HO_297000, BK291, BK296, HI0, HK, HB⟩ := hcut
    cases kq with
    | zero => exact absurd HA.out (by simp [spec_l13Book.j2])
    | succ kj20 =>
     have H := HA.out; clear HA; simp only [spec_l13Book.j2] at H
     have H' := am H
     clear H; go_wp2
     go_loopg [7] kj20 (fun kq v7 w' => ∃ (x7_3 : Int) (x1001_3 : Int) (x297001_3 : List (S66)) (u297001 : Value), v7 = .int .i64 x7_3 ∧ Aside0 (spec_l13Book.l2 kq x4_20 x7_3 s0_0 x1001_3 t292 x297001_3 = some (r1, r2, r3)) ∧ Aside0 (kq ≤ kj20) ∧ Aside0 (Kd.V Kd.string 9 w' w.heap.size (fun k_ => some k_ ≠ ((.slice Ao6 t292.length co6) : Value).ownBlock ∧ some k_ ≠ (u297001 : Value).ownBlock ∧ k_ ≠ gb291 ∧ k_ ≠ gb296 ∧ k_ ≠ g) u4 x4_20) ∧ Aside0 (Kd.R k73 73 w' w.heap.size (fun _ => True) (.slice Ao6 t292.length co6) t292) ∧ Aside0 (Kd.R k66 66 w' w.heap.size (fun _ => True) u297001 x297001_3) ∧ Aside0 (w'.heap[gb291]? = some (.cells #[(.slice none 0 0), (.slice none 0 0)] 34 (0, 0))) ∧ Aside0 (w'.heap[gb296]? = some (.cells #[(.slice Ao6 t292.length co6), u297001] 34 (0, 0))) ∧ Aside0 (IsS114 w0 w' g s0_0 x1001_3) ∧ Aside0 (KeepBut w w' g none) ∧ Aside0 (Below w0.heap.size w0 w'))
     case atStart => exact ⟨(0), (t308), (([] : List (S66))), (.slice none 0 0), sq, H', ⟨Nat.le_refl _⟩, ⟨vq (Kd.V_mono HO_4.out (fun _ hk => ⟨hk.1, ⟨(by simp [Value.ownBlock]), ⟨hk.2.1, ⟨hk.2.2.1, hk.2.2.2⟩⟩⟩⟩))⟩, ⟨rq HO_297000.out⟩, ⟨by exact Kd.R_nil _ _ _ _ _⟩, ⟨bq BK291.out⟩, ⟨bq BK296.out⟩, ⟨b4_⟩, ⟨b3_⟩, ⟨b6_⟩⟩
     case round =>
      clear H'; obtain ⟨x7_3, x1001_3, x297001_3, u297001, rfl, HA, HK3, HO_4, HO_297000, HO_297001, BK291, BK296, HI0, HK, HB⟩ := hrel
      cases gk with
      | zero => exact absurd HA.out (by simp [spec_l13Book.l2])
      | succ k3 =>
       have H := HA.out; clear HA; simp only [spec_l13Book.l2] at H
       by_cases c33 : x7_3 < (x4_20.length : Int)
       ·rw [if_pos c33] at H; have c33b0 := decide_eq_true c33; clear c33
        replace H := it H; obtain ⟨c34b0, H⟩ := H; replace H := bs H; obtain ⟨⟨t316, t317, t318⟩, A350, H⟩ := H; dsimp only at H; have A35 := Aside0.mk A350; clear A350
        replace H := ip H; obtain ⟨c36, H⟩ := H; have LMc36 := Aside0.mk c36; clear c36; obtain ⟨y319, hy319⟩ : ∃ y_ : List (S66), y_ = (x297001_3 ++ [(⟨t316, t317⟩ : S66)]) := ⟨_, rfl⟩
        rw [← hy319] at H
        have Ny319 := am hy319; clear hy319
        have H' := am H
        clear H; obtain ⟨Ao37, co37, eo37⟩ := Kd.V_slice HO_4.out; subst eo37
        try go_wp2
        replace HO_4 := am (Kd.V_drew HO_4.out); replace HO_297000 := am (Kd.R_drew HO_297000.out); replace HO_297001 := am (Kd.R_drew HO_297001.out); replace BK291 := am (blk_drew BK291.out); replace BK296 := am (blk_drew BK296.out); replace HI0 := am (IsS114.drew HI0.out); replace HK := am (keep_drew HK.out); replace HB := am (below_drew1 HB.out)
        have p315 : 0 ≤ (x7_3 : Int) := of_decide_eq_true ad
        have q315 : x7_3 < (x4_20.length : Int) := of_decide_eq_true ad
        obtain ⟨ad315, e315, hx315_0⟩ := Kd.at_string (Kd.V_reads' HO_4.out).2.2 x7_3 p315 q315; cases e315; replace p315 := eq_true p315; replace q315 := eq_true q315
        refine start_ (n := 12) (S := fun w' => w'.cell? ⟨gb296, 0, none⟩ = some (.slice Ao6 t292.length co6) ∧ w'.cell? ⟨gb296, 1, none⟩ = some (u297001) ∧ w'.cell? (ad315.add (x7_3).toNat) = some (.string (rdOf ByteArray.empty x4_20 x7_3))) (ds := [9, 11]) #[false, false, false, false, false, false, false, false, false, false, false, false] (by kernel_rfl) rfl rfl ⟨bd BK296.out 0, bd BK296.out 1, hx315_0⟩ (fun hHeld => ?_); refine with_tabW spec_l13Book.tab15 spec_l13Book.bits15 (fun HT_ HW_ => ?_)
        generalize wr.drew = w38 at HO_4 HO_297000 HO_297001 BK291 BK296 HI0 HK HB hx315_0 hHeld ⊢; refine pu 0 44 ?_; refine pu 2 46 ?_; refine pu 3 47 ?_; refine pu 4 48 ?_; refine pu 5 49 ?_; refine tk3 1 45 hHeld ?_; refine tk3 6 50 hHeld ?_; refine on1 7 51 (fun K hK => ?_)
        refine go1 Try.func113 #[.pointer (some ⟨g, 0, none⟩), .string (rdOf ByteArray.empty x4_20 x7_3)] ?_
        with_reducible refine (spec_l13Entry.calls k3 g s0_0 x1001_3 (rdOf ByteArray.empty x4_20 x7_3) t316 t317 t318 w0 _ ?side1 ?side2 A35.out).mono ?_
        (case side1 => repeat (with_reducible exact HI0.out)); (case side2 => repeat (with_reducible exact HB.out))
        rintro e w39 ⟨rfl, hi, hb, hk⟩
        have HS2_ := keep_cell hk (hHeld.2.2) (by (rw [add_block]; exact (show _ ≠ _ from by have hq_ := Kd.F_in (Kd.V_at HO_4.out).2.2 rfl (by have a_ := of_eq_true p315; have b_ := of_eq_true q315; omega) (by decide); exact hq_.2.2.2.2)))
        refine ⟨_, rfl, ?_⟩
        replace HO_4 := am (Kd.V_mono (Kd.V_keep (Kd.V_mono (ok := fun k_ => (some k_ ≠ (.slice Ao6 t292.length co6 : Value).ownBlock ∧ (some k_ ≠ (u297001 : Value).ownBlock ∧ (k_ ≠ gb291 ∧ (k_ ≠ gb296 ∧ k_ ≠ g))))) (vq HO_4.out) (fun k_ hk_ => (⟨hk_, hk_.2.2.2.2⟩ : _ ∧ k_ ≠ g))) hk (fun _ h => h.2)) (fun _ h => h.1))
        replace HO_297000 := am (Kd.R_mono (Kd.R_keep (IsS114.apart (show IsS114 w0 _ g s0_0 x1001_3 from by repeat (with_reducible exact HI0.out)) (rq HO_297000.out) (by decide)) hk (fun _ h => h.2)) (fun _ h => h.1))
        replace HO_297001 := am (Kd.R_mono (Kd.R_keep (IsS114.apart (show IsS114 w0 _ g s0_0 x1001_3 from by repeat (with_reducible exact HI0.out)) (rq HO_297001.out) (by decide)) hk (fun _ h => h.2)) (fun _ h => h.1))
        replace BK291 := am (KeepBut.blk hk (g' := gb291) (o := .cells #[.slice none 0 0, .slice none 0 0] 34 (0, 0)) (bq BK291.out) NB291_0.out (by simp)); replace BK296 := am (KeepBut.blk hk (g' := gb296) (o := .cells #[.slice Ao6 t292.length co6, u297001] 34 (0, 0)) (bq BK296.out) NB296_0.out (by simp)); replace HK := am (KeepBut.trans b3_ hk (.inl rfl)); replace HB := am (hb); replace HI0 := am (hi); clear hb hk hi; refine hK.out _ _ ⟨bd BK296.out 0, bd BK296.out 1, HS2_⟩ (fun hHeld => ?_); clear hK K; refine nm 51 ?_; refine on1 8 52 (fun K hK => ?_)
        refine value_ (w1 := ?_) (v := ?_) (by rfl) rfl ?_ ?_
        rotate_left 2
        ·go_simp
         constructor
         ·rfl
         ·rfl
        refine hK.out _ _ ⟨bd (blk_alloc BK296.out _) 0, bd (blk_alloc BK296.out _) 1, (World.cell?_alloc_lt _ _ _ (World.block_lt_of_cell? _ _ (hHeld.2.2))).trans (hHeld.2.2)⟩ (fun hHeld => ?_); clear hK K; refine nm 52 ?_
        refine last_ (i := 9) (N := some 53) #[true, true, true, true, true, true, true, true, true, true, false, false] rfl rfl (one_of HT_.out (by kernel_rfl)) (by decide) (fun K hK => ?_)
        refine Kd.R_append_step k66 w.heap.size (by rfl) (.tmp 45) (.tmp 52) 28 66 (.agg #[(.string ⟨#[]⟩), (.string ⟨#[]⟩)]) 32 rfl Try.underlying28 info66 rfl (by decide) (by omega) u297001 x297001_3 (⟨t316, t317⟩ : S66) [.string t316, .string t317] (fun _ => True) (fun _ => False) rfl rfl ?aP (fun _ hk => hk.elim) ?aF ?aO (Below.refl _ _) ?aS ?aL ?_
        (case aP => exact k66_mkM _ _ _ (⟨t316, t317⟩ : S66)); (case aF => exact (fun _ _ => trivial)); (case aO => exact (rq HO_297001.out)); (case aS => exact (keep_size (w := w) (g := g) (row := none) b3_)); (case aL => have := LMc36.out; omega); intro v320 w40 ho hb hg hat; rw [← Ny319.out] at ho; replace HO_4 := am (Kd.V_afterv (ok := (fun k_ => some k_ ≠ (.slice Ao6 t292.length co6 : Value).ownBlock ∧ k_ ≠ gb291 ∧ k_ ≠ gb296 ∧ k_ ≠ g)) (vq (Kd.V_mono HO_4.out (fun _ hk => ⟨⟨hk.1, ⟨hk.2.2.1, ⟨hk.2.2.2.1, hk.2.2.2.2⟩⟩⟩, hk.2.1⟩))) hg hat)
        replace HO_297000 := am (Kd.R_over' (rq HO_297000.out) (Kd.R_typed (rq HO_297001.out)) (by decide) hg); replace BK291 := am (blk_grown (g := gb291) (o := .cells #[.slice none 0 0, .slice none 0 0] 34 (0, 0)) (bq BK291.out) hg (Kd.R_ne HO_297001.out BK291.out (by decide))); replace BK296 := am (blk_grown (g := gb296) (o := .cells #[.slice Ao6 t292.length co6, u297001] 34 (0, 0)) (bq BK296.out) hg (Kd.R_ne HO_297001.out BK296.out (by decide))); replace HB := am (below_weaken b6_ HL.out hb); replace HI0 := am (IsS114.grown b4_ hg (IsS114.own_ne HI0.out HO_297001.out (by decide))); replace HK := am (KeepBut.trans b3_ (KeepBut.of_grown hg g) (Kd.R_base2 HO_297001.out)); have HO321 := am (ho); clear HO_297001; clear ho hb hg hat; obtain ⟨Ao41, co41, eo41⟩ := Kd.R_slice HO321.out
        (subst eo41)
        refine hK.out _ _ ?_; clear hK K; refine nm 53 ?_; refine pu 10 54 ?_
        refine last_ (i := 11) (N := none) #[true, true, true, true, true, true, true, true, true, true, true, true] rfl rfl (one_of HT_.out (by kernel_rfl)) (by decide) (fun K hK => ?_)
        have hs42 : w40.cell? ⟨gb296, 1, none⟩ = some (u297001) := bd BK296.out 1
        have hfs42 := bf BK296.out 1; have hns42_0 := NB291_296.out; have hms42_0 := NB296_291.out
        refine skip_ (w1 := ?_) (by rfl) rfl ?_ ?_
        rotate_left
        ·go_simp
         rfl
        refine hK.out _ _ ?_; clear hK K
        refine done_ (done_of HT_.out (by kernel_rfl)) ?_
        try go_wp2
        go_roundg k3
        case measure => have := HK1.out; have := HJ20.out; have := HK3.out; omega
        case rel => exact ⟨(wrap64 (x7_3 + 1)), (t318), (y319), (.slice Ao41 y319.length co41), sq, H', ⟨by have := HK1.out; have := HJ20.out; have := HK3.out; omega⟩, ⟨vq (Kd.V_mono (Kd.V_far (p := ⟨gb296, 1, none⟩) (Kd.V_mono HO_4.out (fun k_ hk => (⟨hk, hk.1.2.2.1⟩ : _ ∧ k_ ≠ gb296))) (fun _ hk => hk.2) (.slice Ao41 y319.length co41)) (fun _ hk => ⟨hk.1.1.1, ⟨hk.1.2, ⟨hk.1.1.2.1, ⟨hk.1.1.2.2.1, hk.1.1.2.2.2⟩⟩⟩⟩))⟩, ⟨rq (Kd.R_mono (Kd.R_far (p := ⟨gb296, 1, none⟩) (Kd.R_types HO_297000.out BK296.out (by decide)) (fun _ hk => hk.2) (.slice Ao41 y319.length co41)) (fun _ hk => trivial))⟩, ⟨rq (Kd.R_mono (Kd.R_far (p := ⟨gb296, 1, none⟩) (Kd.R_types HO321.out BK296.out (by decide)) (fun _ hk => hk.2) (.slice Ao41 y319.length co41)) (fun _ hk => trivial))⟩, ⟨by (with_reducible repeat (fail)); refine blk_far ?_ NB291_296.out _; (with_reducible repeat (fail)); exact BK291.out⟩, ⟨by (with_reducible repeat (fail)); refine blk_put (cs := #[.slice Ao6 t292.length co6, u297001]) ?_ 1 _ rfl; (with_reducible repeat (fail)); exact BK296.out⟩, ⟨b4_⟩, ⟨b3_⟩, ⟨b6_⟩⟩
       rw [if_neg c33] at H; have c33b0 := decide_eq_false c33; clear c33; simp only [Option.some.injEq, Prod.mk.injEq] at H
       obtain ⟨rfl, rfl, rfl⟩ := H; obtain ⟨Ao43, co43, eo43⟩ := Kd.V_slice HO_4.out; subst eo43; have hnb44 := NB296_291.out; have hnc44 := NB291_296.out; have hnb45 := NB296_0.out; have hnc45 := NB0_296.out; have ⟨hcz46_0, hcz46_1, hfz46_0, hfz46_1⟩ := b2c BK296.out; have hnb47 := NB291_0.out; have hnc47 := NB0_291.out; have ⟨hcz48_0, hcz48_1, hfz48_0, hfz48_1⟩ := b2c BK291.out; obtain ⟨Ao49, co49, eo49⟩ := Kd.R_slice HO_297001.out; subst eo49; go_wp2
       refine bodyPost_ret (results_cell_row rfl _ _ gb291 34 #[.slice Ao6 t292.length co6, .slice Ao49 x297001_3.length co49] (0, 0) _ rfl (by (with_reducible repeat (fail)); refine blk_put (cs := #[.slice Ao6 t292.length co6, .slice none 0 0]) ?_ 1 _ rfl; (with_reducible repeat (fail)); refine blk_put (cs := #[.slice none 0 0, .slice none 0 0]) ?_ 0 _ rfl; (with_reducible repeat (fail)); exact BK291.out) Try.underlying34 rfl (by kernel_rfl)) rfl ?_
       exact ⟨_, _, eq_, by (with_reducible repeat (fail)); exact Kd.R_mono (Kd.R_far (p := ⟨gb291, 1, none⟩) (Kd.R_far (p := ⟨gb291, 0, none⟩) (Kd.R_types HO_297000.out BK291.out (by decide)) (fun _ hk => hk.2) (.slice Ao6 t292.length co6)) (fun _ hk => hk.2) (.slice Ao49 x297001_3.length co49)) (fun _ hk => trivial), by (with_reducible repeat (fail)); exact Kd.R_mono (Kd.R_far (p := ⟨gb291, 1, none⟩) (Kd.R_far (p := ⟨gb291, 0, none⟩) (Kd.R_types HO_297001.out BK291.out (by decide)) (fun _ hk => hk.2) (.slice Ao6 t292.length co6)) (fun _ hk => hk.2) (.slice Ao49 x297001_3.length co49)) (fun _ hk => trivial), b4_, b6_, b3_⟩

/-! ### spec_l2Has: function 171 -/
def spec_l2Has.l0 : Nat → ByteArray → ByteArray → Int → Option (Bool)
 | 0, _, _, _ => none
 | k + 1, x0, x1, x5 => if x5 < (x0.size : Int) then (if 0 ≤ x5 then (if x5 ≤ (wrap64 (x5 + 1)) then (if (wrap64 (x5 + 1)) ≤ (x0.size : Int) then (if (x0.extract (x5 : Int).toNat ((wrap64 (x5 + 1)) : Int).toNat).toList = x1.toList then (some true) else (spec_l2Has.l0 k x0 x1 (wrap64 (x5 + 1)))) else (none)) else (none)) else (none)) else (some false)
def spec_l2Has.f (k : Nat) (a0 : ByteArray) (a1 : ByteArray) : Option (Bool) := spec_l2Has.l0 k a0 a1 0
theorem spec_l2Has.calls (k : Nat) (a0 : ByteArray) (a1 : ByteArray) (r : Bool) (w : World) (h : spec_l2Has.f k a0 a1 = some r) :
  Calls Try.prog 171 #[.string a0, .string a1] w fun e w' => e = .returned (.bool r) ∧ Drawn0 w w' := by
 have H := h; unfold spec_l2Has.f at H
 clear h
 have H' := am H
 clear H; go_enter Try.func171, Try.ntmps171; go_wp2
 go_loopg [5] k (fun kq v5 w' => ∃ (x5_1 : Int), v5 = .int .i64 x5_1 ∧ Aside0 (spec_l2Has.l0 kq a0 a1 x5_1 = some r) ∧ Aside0 (kq ≤ k) ∧ Drawn0 w w')
 case atStart => exact ⟨(0), sq, H', ⟨Nat.le_refl _⟩, dr⟩
 case round =>
  clear H'; obtain ⟨x5_1, rfl, HA, HK1, ⟨m1, rfl⟩⟩ := hrel
  cases gk with
  | zero => exact absurd HA.out (by simp [spec_l2Has.l0])
  | succ k1 =>
   have H := HA.out; clear HA; simp only [spec_l2Has.l0] at H
   by_cases c3 : x5_1 < (a0.size : Int)
   ·rw [if_pos c3] at H; have c3b0 := decide_eq_true c3; clear c3
    replace H := ip H; obtain ⟨c4, H⟩ := H; have c4b0 := eq_true c4
    have c4b1 : decide (0 ≤ x5_1) = true := decide_eq_true c4
    clear c4; replace H := ip H; obtain ⟨c5, H⟩ := H; have c5b0 := eq_true c5
    have c5b1 : decide (x5_1 ≤ (wrap64 (x5_1 + 1))) = true := decide_eq_true c5
    replace H := ip H; obtain ⟨c6, H⟩ := H; have c6b0 := eq_true c6
    have c6b1 : decide ((wrap64 (x5_1 + 1)) ≤ (a0.size : Int)) = true := decide_eq_true c6
    by_cases c7 : (a0.extract (x5_1 : Int).toNat ((wrap64 (x5_1 + 1)) : Int).toNat).toList = a1.toList
    ·rw [if_pos c7] at H
     have c7b0 : ((a0.extract (x5_1 : Int).toNat ((wrap64 (x5_1 + 1)) : Int).toNat).toList == a1.toList) = true := beq_iff_eq.mpr c7
     have c7b1 : ((a0.extract (x5_1 : Int).toNat ((wrap64 (x5_1 + 1)) : Int).toNat).toList != a1.toList) = false := bne_eq_false_iff_eq.mpr c7
     clear c7; obtain rfl := Option.some.inj H; go_wp2; go_ret
     exact ⟨sq, dr⟩
    rw [if_neg c7] at H
    have c7b0 : ((a0.extract (x5_1 : Int).toNat ((wrap64 (x5_1 + 1)) : Int).toNat).toList == a1.toList) = false := beq_eq_false_iff_ne.mpr c7
    have c7b1 : ((a0.extract (x5_1 : Int).toNat ((wrap64 (x5_1 + 1)) : Int).toNat).toList != a1.toList) = true := bne_iff_ne.mpr c7
    have H' := am H
    clear H; go_wp2
    go_roundg k1
    case measure => have := HK1.out; omega
    case rel => exact ⟨(wrap64 (x5_1 + 1)), sq, H', ⟨b68_⟩, dr⟩
   rw [if_neg c3] at H; have c3b0 := decide_eq_false c3; clear c3; obtain rfl := Option.some.inj H; go_wp2; go_ret
   exact ⟨sq, dr⟩

/-! ### spec_l2Begins: function 115 -/
def spec_l2Begins.f (a0 : ByteArray) (a1 : ByteArray) : Option (Bool) := if (a0.size : Int) ≥ (a1.size : Int) then (if 0 ≤ (a1.size : Int) then (if (a1.size : Int) ≤ (a0.size : Int) then (some ((a0.extract 0 a1.size).toList == a1.toList)) else (none)) else (none)) else (some false)
theorem spec_l2Begins.calls (a0 : ByteArray) (a1 : ByteArray) (r : Bool) (w : World) (h : spec_l2Begins.f a0 a1 = some r) :
  Calls Try.prog 115 #[.string a0, .string a1] w fun e w' => e = .returned (.bool r) ∧ Drawn0 w w' := by
 have H := h; unfold spec_l2Begins.f at H
 clear h
 by_cases c3 : (a0.size : Int) ≥ (a1.size : Int)
 ·rw [if_pos c3] at H; have c3b0 := decide_eq_true c3
  have c3b1 : decide (a1.size ≤ a0.size) = true := decide_eq_true (Int.ofNat_le.mp c3)
  clear c3; replace H := ip H; obtain ⟨c4, H⟩ := H; have c4b0 := eq_true c4
  have c4b1 : decide (0 ≤ (a1.size : Int)) = true := decide_eq_true c4
  clear c4; replace H := ip H; obtain ⟨c5, H⟩ := H; have c5b0 := eq_true c5
  have c5b9 : (a1.size ≤ a0.size) = True := eq_true (by omega)
  have c5b6 : decide (a1.size ≤ a0.size) = true := decide_eq_true (by omega)
  have c5b1 : decide ((a1.size : Int) ≤ (a0.size : Int)) = true := decide_eq_true c5
  clear c5; obtain rfl := Option.some.inj H; go_enter Try.func115, Try.ntmps115; go_wp2; go_ret
  exact ⟨sq, dr⟩
 rw [if_neg c3] at H; have c3b0 := decide_eq_false c3
 have c3b1 : decide (a1.size ≤ a0.size) = false := decide_eq_false (fun h => c3 (Int.ofNat_le.mpr h))
 clear c3; obtain rfl := Option.some.inj H; go_enter Try.func115, Try.ntmps115; go_wp2; go_ret
 exact ⟨sq, dr⟩

/-! ### spec_l2Ends: function 116 -/
def spec_l2Ends.f (a0 : ByteArray) (a1 : ByteArray) : Option (Bool) := if (a0.size : Int) ≥ (a1.size : Int) then (if 0 ≤ (wrap64 ((a0.size : Int) - (a1.size : Int))) then (if (wrap64 ((a0.size : Int) - (a1.size : Int))) ≤ (a0.size : Int) then (some ((a0.extract ((wrap64 ((a0.size : Int) - (a1.size : Int))) : Int).toNat a0.size).toList == a1.toList)) else (none)) else (none)) else (some false)
theorem spec_l2Ends.calls (a0 : ByteArray) (a1 : ByteArray) (r : Bool) (w : World) (h : spec_l2Ends.f a0 a1 = some r) :
  Calls Try.prog 116 #[.string a0, .string a1] w fun e w' => e = .returned (.bool r) ∧ Drawn0 w w' := by
 have H := h; unfold spec_l2Ends.f at H
 clear h
 by_cases c3 : (a0.size : Int) ≥ (a1.size : Int)
 ·rw [if_pos c3] at H; have c3b0 := decide_eq_true c3
  have c3b1 : decide (a1.size ≤ a0.size) = true := decide_eq_true (Int.ofNat_le.mp c3)
  clear c3; obtain ⟨ji4, hji4⟩ : ∃ j_ : Int, (wrap64 ((a0.size : Int) - (a1.size : Int))) = j_ := ⟨_, rfl⟩
  rw [hji4] at H
  have hji4w : (IntKind.i64.wrap ((a0.size : Int) - (a1.size : Int))) = ji4 := (i64_w _).trans hji4
  replace H := ip H; obtain ⟨c5, H⟩ := H; have c5b0 := eq_true c5
  have c5b1 : decide (0 ≤ (ji4)) = true := decide_eq_true c5
  clear c5; replace H := ip H; obtain ⟨c6, H⟩ := H; have c6b0 := eq_true c6
  have c6b1 : decide ((ji4) ≤ (a0.size : Int)) = true := decide_eq_true c6
  clear c6; obtain rfl := Option.some.inj H; go_enter Try.func116, Try.ntmps116; go_wp2; go_ret
  exact ⟨by rfl, dr⟩
 rw [if_neg c3] at H; have c3b0 := decide_eq_false c3
 have c3b1 : decide (a1.size ≤ a0.size) = false := decide_eq_false (fun h => c3 (Int.ofNat_le.mpr h))
 clear c3; obtain rfl := Option.some.inj H; go_enter Try.func116, Try.ntmps116; go_wp2; go_ret
 exact ⟨sq, dr⟩
-- shrunk

/-! ### spec_l2Do: function 172 -/
def spec_l2Do.f (k : Nat) (a0_0 : ByteArray) (a0_1 : Bool) (a0_2 : ByteArray) (a0_3 : ByteArray) (a0_4 : ByteArray) (a1 : ByteArray) : Option (ByteArray × Bool) := if a0_1 = true then ((spec_l2Begins.f a1 a0_4).bind fun t323 => (if t323 = true then (if 0 ≤ (a0_2.size : Int) then (if (a0_2.size : Int) ≤ (a1.size : Int) then (if a0_3.size + (a1.extract a0_2.size a1.size).size ≤ 9223372036854775807 then ((spec_l1Word.f k (a0_3 ++ (a1.extract a0_2.size a1.size))).bind fun t324 => (some (a0_3 ++ (a1.extract a0_2.size a1.size), t324))) else (none)) else (none)) else (none)) else (some ((⟨#[]⟩ : ByteArray), false)))) else ((spec_l2Ends.f a1 a0_4).bind fun t325 => (if t325 = true then (if 0 ≤ (wrap64 ((a1.size : Int) - (a0_2.size : Int))) then (if (wrap64 ((a1.size : Int) - (a0_2.size : Int))) ≤ (a1.size : Int) then (if (a1.extract 0 ((wrap64 ((a1.size : Int) - (a0_2.size : Int))) : Int).toNat).size + a0_3.size ≤ 9223372036854775807 then ((spec_l1Word.f k ((a1.extract 0 ((wrap64 ((a1.size : Int) - (a0_2.size : Int))) : Int).toNat) ++ a0_3)).bind fun t326 => (some ((a1.extract 0 ((wrap64 ((a1.size : Int) - (a0_2.size : Int))) : Int).toNat) ++ a0_3, t326))) else (none)) else (none)) else (none)) else (some ((⟨#[]⟩ : ByteArray), false))))
theorem spec_l2Do.calls (k : Nat) (a0_0 : ByteArray) (a0_1 : Bool) (a0_2 : ByteArray) (a0_3 : ByteArray) (a0_4 : ByteArray) (a1 : ByteArray) (r1 : ByteArray) (r2 : Bool) (w : World) (h : spec_l2Do.f k a0_0 a0_1 a0_2 a0_3 a0_4 a1 = some (r1, r2)) :
  Calls Try.prog 172 #[.agg #[.string a0_0, .bool a0_1, .string a0_2, .string a0_3, .string a0_4], .string a1] w fun e w' => e = .returned (.tuple #[.string r1, .bool r2]) ∧ Below w.heap.size w w' := by
 have hu73 := Try.underlying73; have HB := am (Below.refl w.heap.size w)
 have H := h; unfold spec_l2Do.f at H
 clear h
 by_cases c3 : a0_1 = true
 ·subst c3
  rw [if_pos rfl] at H
  replace H := bs H; obtain ⟨t323, A40, H⟩ := H; have A4 := Aside0.mk A40; clear A40
  by_cases c5 : t323 = true
  ·subst c5
   rw [if_pos rfl] at H; replace H := ip H; obtain ⟨c6, H⟩ := H; have c6b0 := eq_true c6
   have c6b1 : decide (0 ≤ (a0_2.size : Int)) = true := decide_eq_true c6
   clear c6; replace H := ip H; obtain ⟨c7, H⟩ := H; have c7b0 := eq_true c7
   have c7b9 : (a0_2.size ≤ a1.size) = True := eq_true (by omega)
   have c7b6 : decide (a0_2.size ≤ a1.size) = true := decide_eq_true (by omega)
   have c7b1 : decide ((a0_2.size : Int) ≤ (a1.size : Int)) = true := decide_eq_true c7
   clear c7; replace H := ip H; obtain ⟨c8, H⟩ := H; have c8b0 := eq_true c8; have c8b5 := c8
   simp at c8b5
   have c8b4 := eq_false (Nat.not_lt.2 c8b5)
   try have c8b3 : (9223372036854775807 < a0_3.size + (a1.size - a0_2.size)) = False := by
         have h_ := c8
         simp only [ByteArray.size_append, ByteArray.size_extract] at h_
         exact eq_false (by omega)
   have c8b1 : decide (a0_3.size + (a1.extract a0_2.size a1.size).size ≤ 9223372036854775807) = true := decide_eq_true c8
   have c8b2 : (9223372036854775807 < a0_3.size + (a1.extract a0_2.size a1.size).size) = False := eq_false (Nat.not_lt.2 c8)
   replace H := bs H; obtain ⟨t324, A90, H⟩ := H; have A9 := Aside0.mk A90; clear A90
   simp only [Option.some.injEq, Prod.mk.injEq] at H
   obtain ⟨rfl, rfl⟩ := H; go_enter Try.func172, Try.ntmps172
   go_wp2_with (first | ((with_reducible refine gate_dst (N := 2) rfl ?_); refine bx 2 (cs := #[.string a0_0, .bool true, .string a0_2, .string a0_3, .string a0_4]) (t := 73) ?_; intro gb322 hg w10 hbox hb; have BK322 := am (hbox); have GW322 := am ((b17_ : w.heap.size ≤ gb322)); have GE322 := am ((b17_ : w.heap.size ≤ gb322)); replace HB := am (below_step bel hb); clear hb hbox hg; have ⟨hcz11_0, hcz11_1, hcz11_2, hcz11_3, hcz11_4, hfz11_0, hfz11_1, hfz11_2, hfz11_3, hfz11_4⟩ := b5c BK322.out) | (go_at_call 115; (with_reducible refine (spec_l2Begins.calls a1 a0_4 true _ A4.out).mono ?_); rintro e w' ⟨rfl, ⟨nd, rfl⟩⟩))
   repeat (go_quiet (fail); try go_wp2_with (go_at_call 71; (with_reducible refine (spec_l1Word.calls k (a0_3 ++ (a1.extract a0_2.size a1.size)) t324 _ A9.out).mono ?_); rintro e w' ⟨rfl, ⟨nd, rfl⟩⟩))
   go_ret2
   exact ⟨eq_, bel1 GE322.out⟩
  replace c5 := Bool.eq_false_iff.mpr c5; subst c5
  rw [if_neg Bool.false_ne_true] at H; simp only [Option.some.injEq, Prod.mk.injEq] at H
  obtain ⟨rfl, rfl⟩ := H; go_enter Try.func172, Try.ntmps172
  go_wp2_with (first | ((with_reducible refine gate_dst (N := 2) rfl ?_); refine bx 2 (cs := #[.string a0_0, .bool true, .string a0_2, .string a0_3, .string a0_4]) (t := 73) ?_; intro gb322 hg w12 hbox hb; have BK322 := am (hbox); have GW322 := am ((b17_ : w.heap.size ≤ gb322)); have GE322 := am ((b17_ : w.heap.size ≤ gb322)); replace HB := am (below_step bel hb); clear hb hbox hg; have ⟨hcz13_0, hcz13_1, hcz13_2, hcz13_3, hcz13_4, hfz13_0, hfz13_1, hfz13_2, hfz13_3, hfz13_4⟩ := b5c BK322.out) | (go_at_call 115; (with_reducible refine (spec_l2Begins.calls a1 a0_4 false _ A4.out).mono ?_); rintro e w' ⟨rfl, ⟨nd, rfl⟩⟩))
  go_ret2
  exact ⟨eq_, bel1 GE322.out⟩
 replace c3 := Bool.eq_false_iff.mpr c3; subst c3
 rw [if_neg Bool.false_ne_true] at H
 replace H := bs H; obtain ⟨t325, A140, H⟩ := H; have A14 := Aside0.mk A140; clear A140
 by_cases c15 : t325 = true
 ·subst c15
  rw [if_pos rfl] at H
  obtain ⟨ji16, hji16⟩ : ∃ j_ : Int, (wrap64 ((a1.size : Int) - (a0_2.size : Int))) = j_ := ⟨_, rfl⟩
  rw [hji16] at H
  have hji16w : (IntKind.i64.wrap ((a1.size : Int) - (a0_2.size : Int))) = ji16 := (i64_w _).trans hji16
  replace H := ip H; obtain ⟨c17, H⟩ := H; have c17b0 := eq_true c17
  have c17b1 : decide (0 ≤ (ji16)) = true := decide_eq_true c17
  clear c17; replace H := ip H; obtain ⟨c18, H⟩ := H; have c18b0 := eq_true c18
  have c18b1 : decide ((ji16) ≤ (a1.size : Int)) = true := decide_eq_true c18
  clear c18; replace H := ip H; obtain ⟨c19, H⟩ := H; have c19b0 := eq_true c19; have c19b5 := c19
  simp at c19b5
  have c19b4 := eq_false (Nat.not_lt.2 c19b5)
  try have c19b3 : (9223372036854775807 < ((ji16) : Int).toNat + a0_3.size) = False := by
        have h_ := c19
        simp only [ByteArray.size_append, ByteArray.size_extract] at h_
        have g0_ : ((ji16)) ≤ (a1.size : Int) := of_decide_eq_true ad
        exact eq_false (by omega)
  have c19b1 : decide ((a1.extract 0 ((ji16) : Int).toNat).size + a0_3.size ≤ 9223372036854775807) = true := decide_eq_true c19
  have c19b2 : (9223372036854775807 < (a1.extract 0 ((ji16) : Int).toNat).size + a0_3.size) = False := eq_false (Nat.not_lt.2 c19)
  replace H := bs H; obtain ⟨t326, A200, H⟩ := H; have A20 := Aside0.mk A200; clear A200
  simp only [Option.some.injEq, Prod.mk.injEq] at H
  obtain ⟨rfl, rfl⟩ := H; go_enter Try.func172, Try.ntmps172
  go_wp2_with (first | ((with_reducible refine gate_dst (N := 2) rfl ?_); refine bx 2 (cs := #[.string a0_0, .bool false, .string a0_2, .string a0_3, .string a0_4]) (t := 73) ?_; intro gb322 hg w21 hbox hb; have BK322 := am (hbox); have GW322 := am ((b17_ : w.heap.size ≤ gb322)); have GE322 := am ((b17_ : w.heap.size ≤ gb322)); replace HB := am (below_step bel hb); clear hb hbox hg; have ⟨hcz22_0, hcz22_1, hcz22_2, hcz22_3, hcz22_4, hfz22_0, hfz22_1, hfz22_2, hfz22_3, hfz22_4⟩ := b5c BK322.out) | (go_at_call 116; (with_reducible refine (spec_l2Ends.calls a1 a0_4 true _ A14.out).mono ?_); rintro e w' ⟨rfl, ⟨nd, rfl⟩⟩))
  repeat (go_quiet (fail); try go_wp2_with (go_at_call 71; (with_reducible refine (spec_l1Word.calls k ((a1.extract 0 ((ji16) : Int).toNat) ++ a0_3) t326 _ A20.out).mono ?_); rintro e w' ⟨rfl, ⟨nd, rfl⟩⟩))
  go_ret2
  exact ⟨by rfl, bel1 GE322.out⟩
 replace c15 := Bool.eq_false_iff.mpr c15; subst c15
 rw [if_neg Bool.false_ne_true] at H
 simp only [Option.some.injEq, Prod.mk.injEq] at H
 obtain ⟨rfl, rfl⟩ := H; go_enter Try.func172, Try.ntmps172
 go_wp2_with (first | ((with_reducible refine gate_dst (N := 2) rfl ?_); refine bx 2 (cs := #[.string a0_0, .bool false, .string a0_2, .string a0_3, .string a0_4]) (t := 73) ?_; intro gb322 hg w23 hbox hb; have BK322 := am (hbox); have GW322 := am ((b17_ : w.heap.size ≤ gb322)); have GE322 := am ((b17_ : w.heap.size ≤ gb322)); replace HB := am (below_step bel hb); clear hb hbox hg; have ⟨hcz24_0, hcz24_1, hcz24_2, hcz24_3, hcz24_4, hfz24_0, hfz24_1, hfz24_2, hfz24_3, hfz24_4⟩ := b5c BK322.out) | (go_at_call 116; (with_reducible refine (spec_l2Ends.calls a1 a0_4 false _ A14.out).mono ?_); rintro e w' ⟨rfl, ⟨nd, rfl⟩⟩))
 go_ret2
 exact ⟨eq_, bel1 GE322.out⟩

/-! ### spec_l2One: function 166 -/
mutual
def spec_l2One.l0 : Nat → List (S73) → ByteArray → Bool → List ByteArray → List ByteArray → Int → Option (List ByteArray)
 | 0, _, _, _, _, _, _ => none
 | k + 1, x0, x1, x2, x3, x9, x10 => if x10 < (x0.length : Int) then (if 0 ≤ x10 then (if (((rd_T73 x0 x10).f1) != x2) = true then (spec_l2One.j1 k x0 x1 x2 x3 x9 x10 true) else ((spec_l2Has.f k x1 ((rd_T73 x0 x10).f0)).bind fun t335 => (spec_l2One.j1 k x0 x1 x2 x3 x9 x10 (!t335)))) else (none)) else (some x9)
def spec_l2One.j1 : Nat → List (S73) → ByteArray → Bool → List ByteArray → List ByteArray → Int → Bool → Option (List ByteArray)
 | 0, _, _, _, _, _, _, _ => none
 | k + 1, x0, x1, x2, x3, x9, x10, x39 => if x39 = true then (spec_l2One.l0 k x0 x1 x2 x3 x9 (wrap64 (x10 + 1))) else (spec_l2One.l1 k x0 x1 x2 x3 x9 x10 0)
def spec_l2One.l1 : Nat → List (S73) → ByteArray → Bool → List ByteArray → List ByteArray → Int → Int → Option (List ByteArray)
 | 0, _, _, _, _, _, _, _ => none
 | k + 1, x0, x1, x2, x3, x9, x10, x11 => if x11 < (x3.length : Int) then (if 0 ≤ x10 then (if x10 < (x0.length : Int) then (if 0 ≤ x11 then ((spec_l2Do.f k ((rd_T73 x0 x10).f0) ((rd_T73 x0 x10).f1) ((rd_T73 x0 x10).f2) ((rd_T73 x0 x10).f3) ((rd_T73 x0 x10).f4) (rdOf ByteArray.empty x3 x11)).bind fun bt338 => (if bt338.2 = true then ((spec_l1Put.f k x9 bt338.1).bind fun t340 => (spec_l2One.l1 k x0 x1 x2 x3 t340 x10 (wrap64 (x11 + 1)))) else (spec_l2One.l1 k x0 x1 x2 x3 x9 x10 (wrap64 (x11 + 1))))) else (none)) else (none)) else (none)) else (spec_l2One.l0 k x0 x1 x2 x3 x9 (wrap64 (x10 + 1)))
end
def spec_l2One.f (k : Nat) (l0 : List (S73)) (a1 : ByteArray) (a2 : Bool) (l3 : List ByteArray) : Option (List ByteArray) := (some (([] : List ByteArray) : List ByteArray)).bind fun y327 => (if y327.length + l3.length < 8796093022208 then (spec_l2One.l0 k l0 a1 a2 l3 (y327 ++ l3) 0) else (none))
def spec_l2One.T9 : Bool × List (List Nat × List Nat) := (true, [([], []), ([], []), ([0, 1], [0, 1]), ([2], [2]), ([], []), ([], []), ([4, 5], [4, 5]), ([6], [6]), ([3, 7], [3, 7]), ([8], [8]), ([9], [9]), ([9], [9]), ([10, 8, 0, 1, 2, 3, 4, 5, 6, 7, 8, 9, 10], [10]), ([11, 12, 0, 1, 2, 3, 4, 5, 6, 7, 8, 9, 10, 11, 12], [11])])
def spec_l2One.B9 : List Nat := [0, 0, 3, 7, 0, 0, 48, 112, 255, 511, 1023, 1023, 2047, 8191]
theorem spec_l2One.tab9 : rtab .any (opsOf Try.f166 9) = spec_l2One.T9 := by kernel_rfl
theorem spec_l2One.bits9 : waitsOk spec_l2One.T9.2 spec_l2One.B9 = true := by kernel_rfl
theorem spec_l2One.calls (k : Nat) (A0 : Option Addr) (c0 : Nat) (l0 : List (S73)) (a1 : ByteArray) (a2 : Bool) (A3 : Option Addr) (c3 : Nat) (l3 : List ByteArray) (r : List ByteArray) (w : World) (hr0 : Kd.C k73 w A0 l0.length l0) (hc0 : l0.length ≤ c0) (hr3 : Kd.C Kd.string w A3 l3.length l3) (hc3 : l3.length ≤ c3) (h : spec_l2One.f k l0 a1 a2 l3 = some r) :
  Calls Try.prog 166 #[.slice A0 l0.length c0, .string a1, .bool a2, .slice A3 l3.length c3] w fun e w' => ∃ v0_ : Value, e = .returned (v0_) ∧ Kd.V Kd.string 9 w' w.heap.size (fun k_ => (w.heap.size ≤ k_)) v0_ r ∧ Below w.heap.size w w' := by
 have hu73 := Try.underlying73; have HR0 := am hr0; have HC0 := am hc0; clear hr0 hc0; have HR3 := am hr3; have HC3 := am hc3; clear hr3 hc3; have HB := am (Below.refl w.heap.size w)
 have H := h; unfold spec_l2One.f at H
 clear h; obtain ⟨y327, hy327⟩ : ∃ y_ : List ByteArray, y_ = (([] : List ByteArray)) := ⟨_, rfl⟩
 replace H := bm H; rw [← hy327] at H
 have Ny327 := am hy327; clear hy327
 replace H := ip H; obtain ⟨c5, H⟩ := H; have LMc5 := Aside0.mk c5; clear c5; obtain ⟨y330, hy330⟩ : ∃ y_ : List ByteArray, y_ = (y327 ++ l3) := ⟨_, rfl⟩
 rw [← hy330] at H
 have Ny330 := am hy330; clear hy330
 have H' := am H
 clear H; go_enter Try.func166, Try.ntmps166
 go_wp2_with (first | ((with_reducible refine gate_dst (N := 14) rfl ?_); refine Kd.R_lit Kd.string _ 9 ?hg (N := 14) ?hd (xs := ([] : List ByteArray)) (inner := []) (ok := fun _ => True) (okp := fun _ => True) ?hr ?hp (fun _ hk => hk) trivial (Below.refl _ _) (Nat.le_refl _) (by simp) ?_; (case hd => rfl); (case hg => rfl); (case hr => (go_simp; done)); (case hp => exact (Reps.none _ _)); intro v328 w6 ho7 hb hg_ hnew_; clear hg_ hnew_; (rw [← Ny327.out] at ho7); have HO329 := am (Kd.R_lower (Kd.R_newM (M := fun k_ => (w.heap.size ≤ k_)) ho7 (below_size bel) (fun k_ h_ => h_)) (below_size bel)); replace HB := am (below_step bel hb); clear hb ho7) | ((with_reducible refine gate_builtin (b := .append) (xs := #[.tmp 14, .tmp 15]) rfl ?_); at_builtin; refine Kd.R_append_rows Kd.string (w0 := w) w.heap.size rfl (.tmp 14) (.tmp 15) 27 9 (.string ⟨#[]⟩) 16 rfl Try.underlying27 info9 rfl (by decide) (by omega) v328 y327 l3 _ _ _ (fun k_ => (w.heap.size ≤ k_)) (fun _ => False) rfl rfl ?aO ?aR (fun _ _ h => h) (fun _ h => h.elim) ?aF ?aB ?aS ?aL ?_; (case aR => exact cq (Kd.C_below HR3.out HB.out)); (case aB => exact bel); (case aF => exact (fun k_ hk => (Nat.le_trans (below_size bel) hk))); (case aO => exact (rq (Kd.R_mono HO329.out (fun _ hk => hk.1)))); (case aS => exact (below_size bel)); (case aL => have := LMc5.out; omega); intro v331 w8 ho hb hg hat; rw [← Ny330.out] at ho; replace HB := am (hb); have HO332 := am (ho); clear HO329; clear ho hb hg hat))
 go_loopg [9, 10] k (fun kq v9 v10 w' => ∃ (x9_1 : List ByteArray) (x10_1 : Int), v10 = .int .i64 x10_1 ∧ Aside0 (spec_l2One.l0 kq l0 a1 a2 l3 x9_1 x10_1 = some r) ∧ Aside0 (kq ≤ k) ∧ Aside0 (Kd.V Kd.string 9 w' w.heap.size (fun k_ => (w.heap.size ≤ k_)) v9 x9_1) ∧ Aside0 (Below w.heap.size w w'))
 case atStart => exact ⟨(y330), (0), sq, H', ⟨Nat.le_refl _⟩, ⟨Kd.R_V (rq HO332.out)⟩, ⟨bel⟩⟩
 case round =>
  clear H'; obtain ⟨x9_1, x10_1, rfl, HA, HK1, HO_9, HB⟩ := hrel
  cases gk with
  | zero => exact absurd HA.out (by simp [spec_l2One.l0])
  | succ k1 =>
   have H := HA.out; clear HA; simp only [spec_l2One.l0] at H
   by_cases c9 : x10_1 < (l0.length : Int)
   ·rw [if_pos c9] at H; have c9b0 := decide_eq_true c9; clear c9; have HC10 := am H; clear H
    go_upto_region 5 with (fail)
    go_cut [39] (fun v39 wc => ∃ (kq : Nat) (x39_9 : Bool), v39 = .bool x39_9 ∧ Aside0 (spec_l2One.j1 kq l0 a1 a2 l3 x9_1 x10_1 x39_9 = some r) ∧ Aside0 (kq ≤ k1) ∧ Aside0 (Kd.V Kd.string 9 wc w.heap.size (fun k_ => (w.heap.size ≤ k_)) u9 x9_1) ∧ Aside0 (Below w.heap.size w wc))
    case first =>
     have H := HC10.out; clear HC10; replace H := it H; obtain ⟨c11b0, H⟩ := H
     (skip)
     by_cases c12 : (((rd_T73 l0 x10_1).f1) != a2) = true
     ·rw [if_pos c12] at H
      have c12b0 : (((rd_T73 l0 x10_1).f1) != a2) = true := c12
      (have c12b1 : decide (((rd_T73 l0 x10_1).f1) = a2) = false := by simpa using c12)
      (have c12b2 : (((rd_T73 l0 x10_1).f1) == a2) = false := by simpa using c12)
      (have c12b3 : ¬ (((rd_T73 l0 x10_1).f1) = a2) := by simpa using c12)
      clear c12
      have H' := am H
      clear H
      have p333 : 0 ≤ (x10_1 : Int) := of_decide_eq_true ad
      have q333 : x10_1 < (l0.length : Int) := of_decide_eq_true ad
      obtain ⟨ad333, e333, hx333_0, hx333_1, hx333_2, hx333_3, hx333_4⟩ := at_T73 HR0.out x10_1 p333 q333; cases e333
      replace hx333_0 := kp HB.out hx333_0; replace hx333_1 := kp HB.out hx333_1; replace hx333_2 := kp HB.out hx333_2; replace hx333_3 := kp HB.out hx333_3; replace hx333_4 := kp HB.out hx333_4; replace p333 := eq_true p333; replace q333 := eq_true q333; go_wp2
      go_meet
      case rel => exact ⟨_, (true), sq, H', ⟨b39_⟩, ⟨vq HO_9.out⟩, ⟨bel⟩⟩
     rw [if_neg c12] at H
     have c12b0 : (((rd_T73 l0 x10_1).f1) != a2) = false := by simpa using c12
     (have c12b1 : decide (((rd_T73 l0 x10_1).f1) = a2) = true := by simpa using c12)
     (have c12b2 : (((rd_T73 l0 x10_1).f1) == a2) = true := by simpa using c12)
     clear c12; replace H := bs H; obtain ⟨t335, A130, H⟩ := H; have A13 := Aside0.mk A130; clear A130
     have H' := am H
     clear H
     have p333 : 0 ≤ (x10_1 : Int) := of_decide_eq_true ad
     have q333 : x10_1 < (l0.length : Int) := of_decide_eq_true ad
     obtain ⟨ad333, e333, hx333_0, hx333_1, hx333_2, hx333_3, hx333_4⟩ := at_T73 HR0.out x10_1 p333 q333; cases e333; replace hx333_0 := kp HB.out hx333_0; replace hx333_1 := kp HB.out hx333_1; replace hx333_2 := kp HB.out hx333_2; replace hx333_3 := kp HB.out hx333_3; replace hx333_4 := kp HB.out hx333_4; replace p333 := eq_true p333; replace q333 := eq_true q333
     have p334 : 0 ≤ (x10_1 : Int) := of_decide_eq_true ad
     have q334 : x10_1 < (l0.length : Int) := of_decide_eq_true ad
     obtain ⟨ad334, e334, hx334_0, hx334_1, hx334_2, hx334_3, hx334_4⟩ := at_T73 HR0.out x10_1 p334 q334
     obtain rfl : ad333 = ad334 := (by injection e334)
     replace hx334_0 := kp HB.out hx334_0; replace hx334_1 := kp HB.out hx334_1; replace hx334_2 := kp HB.out hx334_2; replace hx334_3 := kp HB.out hx334_3; replace hx334_4 := kp HB.out hx334_4; replace p334 := eq_true p334; replace q334 := eq_true q334
     go_wp2_with (go_at_call 171; (with_reducible refine (spec_l2Has.calls k1 a1 ((rd_T73 l0 x10_1).f0) t335 _ A13.out).mono ?_); rintro e w' ⟨rfl, ⟨nd, rfl⟩⟩)
     go_meet
     case rel => exact ⟨_, (!t335), sq, H', ⟨b39_⟩, ⟨vq HO_9.out⟩, ⟨bel⟩⟩
    case rest =>
     clear HC10; clear c9b0; obtain ⟨kq, x39_9, rfl, HA, HJ9, HO_9, HB⟩ := hcut
     cases kq with
     | zero => exact absurd HA.out (by simp [spec_l2One.j1])
     | succ kj9 =>
      have H := HA.out; clear HA; simp only [spec_l2One.j1] at H
      by_cases c14 : x39_9 = true
      ·subst c14
       rw [if_pos rfl] at H
       have H' := am H
       clear H; go_wp2
       go_roundg kj9
       case measure => have := HK1.out; have := HJ9.out; omega
       case rel => exact ⟨(x9_1), (wrap64 (x10_1 + 1)), sq, H', ⟨by have := HK1.out; have := HJ9.out; omega⟩, ⟨vq HO_9.out⟩, ⟨bel⟩⟩
      replace c14 := Bool.eq_false_iff.mpr c14; subst c14
      rw [if_neg Bool.false_ne_true] at H
      have H' := am H
      clear H; go_wp2
      go_loopg [9, 11] kj9 (fun kq v9 v11 w' => ∃ (x9_3 : List ByteArray) (x11_3 : Int), v11 = .int .i64 x11_3 ∧ Aside0 (spec_l2One.l1 kq l0 a1 a2 l3 x9_3 x10_1 x11_3 = some r) ∧ Aside0 (kq ≤ kj9) ∧ Aside0 (Kd.V Kd.string 9 w' w.heap.size (fun k_ => (w.heap.size ≤ k_)) v9 x9_3) ∧ Aside0 (Below w.heap.size w w'))
      case atStart => exact ⟨(x9_1), (0), sq, H', ⟨Nat.le_refl _⟩, ⟨vq HO_9.out⟩, ⟨bel⟩⟩
      case round =>
       clear H'; obtain ⟨x9_3, x11_3, rfl, HA, HK3, HO_9, HB⟩ := hrel
       cases gk with
       | zero => exact absurd HA.out (by simp [spec_l2One.l1])
       | succ k3 =>
        have H := HA.out; clear HA; simp only [spec_l2One.l1] at H
        by_cases c15 : x11_3 < (l3.length : Int)
        ·rw [if_pos c15] at H; have c15b0 := decide_eq_true c15; clear c15
         replace H := it H; obtain ⟨c16b0, H⟩ := H; replace H := it H; obtain ⟨c17b0, H⟩ := H; replace H := it H; obtain ⟨c18b0, H⟩ := H; replace H := bs H; obtain ⟨⟨t338, t339⟩, A190, H⟩ := H; dsimp only at H; have A19 := Aside0.mk A190; clear A190
         by_cases c20 : t339 = true
         ·subst c20
          rw [if_pos rfl] at H
          replace H := bs H; obtain ⟨t340, A210, H⟩ := H; have A21 := Aside0.mk A210; clear A210
          have H' := am H
          clear H
          try go_wp2
          replace HO_9 := am (Kd.V_drew HO_9.out); replace HB := am (below_drew1 HB.out)
          have p336 : 0 ≤ (x10_1 : Int) := of_decide_eq_true ad
          have q336 : x10_1 < (l0.length : Int) := of_decide_eq_true ad
          obtain ⟨ad336, e336, hx336_0, hx336_1, hx336_2, hx336_3, hx336_4⟩ := at_T73 HR0.out x10_1 p336 q336; have hw336_4 := hx336_4; have hw336_3 := hx336_3; have hw336_2 := hx336_2; have hw336_1 := hx336_1; have hw336_0 := hx336_0; cases e336; replace hx336_0 := kp HB.out hx336_0; replace hx336_1 := kp HB.out hx336_1; replace hx336_2 := kp HB.out hx336_2; replace hx336_3 := kp HB.out hx336_3; replace hx336_4 := kp HB.out hx336_4; replace p336 := eq_true p336; replace q336 := eq_true q336
          have p337 : 0 ≤ (x11_3 : Int) := of_decide_eq_true ad
          have q337 : x11_3 < (l3.length : Int) := of_decide_eq_true ad
          obtain ⟨ad337, e337, hx337_0⟩ := Kd.at_string HR3.out x11_3 p337 q337; have hw337_0 := hx337_0; cases e337; replace hx337_0 := kp HB.out hx337_0; replace p337 := eq_true p337; replace q337 := eq_true q337
          refine st (n := 14) (S := fun w' => w'.cell? (ad336.add ((x10_1).toNat * 5)) = some (.string ((rd_T73 l0 x10_1).f0)) ∧ w'.cell? ⟨(ad336.add ((x10_1).toNat * 5)).block, (ad336.add ((x10_1).toNat * 5)).off + 1, none⟩ = some (.bool ((rd_T73 l0 x10_1).f1)) ∧ w'.cell? ⟨(ad336.add ((x10_1).toNat * 5)).block, (ad336.add ((x10_1).toNat * 5)).off + 2, none⟩ = some (.string ((rd_T73 l0 x10_1).f2)) ∧ w'.cell? ⟨(ad336.add ((x10_1).toNat * 5)).block, (ad336.add ((x10_1).toNat * 5)).off + 3, none⟩ = some (.string ((rd_T73 l0 x10_1).f3)) ∧ w'.cell? ⟨(ad336.add ((x10_1).toNat * 5)).block, (ad336.add ((x10_1).toNat * 5)).off + 4, none⟩ = some (.string ((rd_T73 l0 x10_1).f4)) ∧ w'.cell? (ad337.add (x11_3).toNat) = some (.string (rdOf ByteArray.empty l3 x11_3))) (ds := []) ⟨(kp HB.out hw336_0), (kp HB.out hw336_1), (kp HB.out hw336_2), (kp HB.out hw336_3), (kp HB.out hw336_4), (kp HB.out hw337_0)⟩ (fun hHeld => ?_); refine with_tabW spec_l2One.tab9 spec_l2One.bits9 (fun HT_ HW_ => ?_)
          generalize wr.drew = w22 at HO_9 HB hx336_0 hx336_1 hx336_2 hx336_3 hx336_4 hx337_0 hHeld ⊢; refine pu 0 47 ?_; refine pu 1 48 ?_; refine pu 2 49 ?_; refine pu 4 51 ?_; refine pu 5 52 ?_; refine pu 6 53 ?_; refine tk6 3 50 hHeld ?_; refine tk6 7 54 hHeld ?_; refine on1 8 55 (fun K hK => ?_)
          refine go1 Try.func172 #[.agg #[.string ((rd_T73 l0 x10_1).f0), .bool ((rd_T73 l0 x10_1).f1), .string ((rd_T73 l0 x10_1).f2), .string ((rd_T73 l0 x10_1).f3), .string ((rd_T73 l0 x10_1).f4)], .string (rdOf ByteArray.empty l3 x11_3)] ?_
          with_reducible refine (spec_l2Do.calls k3 ((rd_T73 l0 x10_1).f0) ((rd_T73 l0 x10_1).f1) ((rd_T73 l0 x10_1).f2) ((rd_T73 l0 x10_1).f3) ((rd_T73 l0 x10_1).f4) (rdOf ByteArray.empty l3 x11_3) t338 true _ A19.out).mono ?_
          rintro e w23 ⟨rfl, hb⟩; refine ⟨_, rfl, ?_⟩; replace HO_9 := am (Kd.V_below (vq HO_9.out) hb); replace HB := am (below_step bel hb); clear hb; refine hK.out _ _ ⟨(kp HB.out hw336_0), (kp HB.out hw336_1), (kp HB.out hw336_2), (kp HB.out hw336_3), (kp HB.out hw336_4), (kp HB.out hw337_0)⟩ (fun hHeld => ?_); clear hK K; refine nm 55 ?_; refine pu 9 46 ?_; refine pu 10 56 ?_; refine pu 11 57 ?_; refine pu 12 12 ?_; refine pu 13 13 ?_
          refine done_ (done_of HT_.out (by kernel_rfl)) ?_
          obtain ⟨Ao24, co24, eo24⟩ := Kd.V_slice HO_9.out; subst eo24
          try go_wp2_with ((with_reducible refine gate_callee (f := 112) rfl ?_); refine gl 61 Try.func112 #[.slice Ao24 x9_3.length co24, .string t338] ?_; (with_reducible refine (spec_l1Put.calls k3 (fun k_ => (w.heap.size ≤ k_)) _ _ x9_3 t338 t340 _ ?side1 A21.out).mono ?_); (case side1 => exact HO_9.out); rintro e w25 ⟨v341, rfl, ho0, hb⟩; refine ⟨_, rfl, ?_⟩; replace HO_9 := am (Kd.V_below (vq HO_9.out) hb); have HO342 := am (Kd.V_lower (Kd.V_mono (ok' := fun k_ => (w.heap.size ≤ k_)) ho0 (fun k_ hk_ => Or.elim hk_ (fun hs_ => hs_) (fun hn_ => (Nat.le_trans (below_size bel) hn_)))) (below_size bel)); replace HB := am (below_step bel hb); clear hb; clear ho0)
          go_roundg k3
          case measure => have := HK1.out; have := HJ9.out; have := HK3.out; omega
          case rel => exact ⟨(t340), (wrap64 (x11_3 + 1)), sq, H', ⟨by have := HK1.out; have := HJ9.out; have := HK3.out; omega⟩, ⟨vq HO342.out⟩, ⟨bel⟩⟩
         replace c20 := Bool.eq_false_iff.mpr c20; subst c20
         rw [if_neg Bool.false_ne_true] at H
         have H' := am H
         clear H
         try go_wp2
         replace HO_9 := am (Kd.V_drew HO_9.out); replace HB := am (below_drew1 HB.out)
         have p336 : 0 ≤ (x10_1 : Int) := of_decide_eq_true ad
         have q336 : x10_1 < (l0.length : Int) := of_decide_eq_true ad
         obtain ⟨ad336, e336, hx336_0, hx336_1, hx336_2, hx336_3, hx336_4⟩ := at_T73 HR0.out x10_1 p336 q336; have hw336_4 := hx336_4; have hw336_3 := hx336_3; have hw336_2 := hx336_2; have hw336_1 := hx336_1; have hw336_0 := hx336_0; cases e336; replace hx336_0 := kp HB.out hx336_0; replace hx336_1 := kp HB.out hx336_1; replace hx336_2 := kp HB.out hx336_2; replace hx336_3 := kp HB.out hx336_3; replace hx336_4 := kp HB.out hx336_4; replace p336 := eq_true p336; replace q336 := eq_true q336
         have p337 : 0 ≤ (x11_3 : Int) := of_decide_eq_true ad
         have q337 : x11_3 < (l3.length : Int) := of_decide_eq_true ad
         obtain ⟨ad337, e337, hx337_0⟩ := Kd.at_string HR3.out x11_3 p337 q337; have hw337_0 := hx337_0; cases e337; replace hx337_0 := kp HB.out hx337_0; replace p337 := eq_true p337; replace q337 := eq_true q337
         refine st (n := 14) (S := fun w' => w'.cell? (ad336.add ((x10_1).toNat * 5)) = some (.string ((rd_T73 l0 x10_1).f0)) ∧ w'.cell? ⟨(ad336.add ((x10_1).toNat * 5)).block, (ad336.add ((x10_1).toNat * 5)).off + 1, none⟩ = some (.bool ((rd_T73 l0 x10_1).f1)) ∧ w'.cell? ⟨(ad336.add ((x10_1).toNat * 5)).block, (ad336.add ((x10_1).toNat * 5)).off + 2, none⟩ = some (.string ((rd_T73 l0 x10_1).f2)) ∧ w'.cell? ⟨(ad336.add ((x10_1).toNat * 5)).block, (ad336.add ((x10_1).toNat * 5)).off + 3, none⟩ = some (.string ((rd_T73 l0 x10_1).f3)) ∧ w'.cell? ⟨(ad336.add ((x10_1).toNat * 5)).block, (ad336.add ((x10_1).toNat * 5)).off + 4, none⟩ = some (.string ((rd_T73 l0 x10_1).f4)) ∧ w'.cell? (ad337.add (x11_3).toNat) = some (.string (rdOf ByteArray.empty l3 x11_3))) (ds := []) ⟨(kp HB.out hw336_0), (kp HB.out hw336_1), (kp HB.out hw336_2), (kp HB.out hw336_3), (kp HB.out hw336_4), (kp HB.out hw337_0)⟩ (fun hHeld => ?_); refine with_tabW spec_l2One.tab9 spec_l2One.bits9 (fun HT_ HW_ => ?_)
         generalize wr.drew = w26 at HO_9 HB hx336_0 hx336_1 hx336_2 hx336_3 hx336_4 hx337_0 hHeld ⊢; refine pu 0 47 ?_; refine pu 1 48 ?_; refine pu 2 49 ?_; refine pu 4 51 ?_; refine pu 5 52 ?_; refine pu 6 53 ?_; refine tk6 3 50 hHeld ?_; refine tk6 7 54 hHeld ?_; refine on1 8 55 (fun K hK => ?_)
         refine go1 Try.func172 #[.agg #[.string ((rd_T73 l0 x10_1).f0), .bool ((rd_T73 l0 x10_1).f1), .string ((rd_T73 l0 x10_1).f2), .string ((rd_T73 l0 x10_1).f3), .string ((rd_T73 l0 x10_1).f4)], .string (rdOf ByteArray.empty l3 x11_3)] ?_
         with_reducible refine (spec_l2Do.calls k3 ((rd_T73 l0 x10_1).f0) ((rd_T73 l0 x10_1).f1) ((rd_T73 l0 x10_1).f2) ((rd_T73 l0 x10_1).f3) ((rd_T73 l0 x10_1).f4) (rdOf ByteArray.empty l3 x11_3) t338 false _ A19.out).mono ?_
         rintro e w27 ⟨rfl, hb⟩; refine ⟨_, rfl, ?_⟩; replace HO_9 := am (Kd.V_below (vq HO_9.out) hb); replace HB := am (below_step bel hb); clear hb; refine hK.out _ _ ⟨(kp HB.out hw336_0), (kp HB.out hw336_1), (kp HB.out hw336_2), (kp HB.out hw336_3), (kp HB.out hw336_4), (kp HB.out hw337_0)⟩ (fun hHeld => ?_); clear hK K; refine nm 55 ?_; refine pu 9 46 ?_; refine pu 10 56 ?_; refine pu 11 57 ?_; refine pu 12 12 ?_; refine pu 13 13 ?_
         refine done_ (done_of HT_.out (by kernel_rfl)) ?_
         try go_wp2
         go_roundg k3
         case measure => have := HK1.out; have := HJ9.out; have := HK3.out; omega
         case rel => exact ⟨(x9_3), (wrap64 (x11_3 + 1)), sq, H', ⟨by have := HK1.out; have := HJ9.out; have := HK3.out; omega⟩, ⟨vq HO_9.out⟩, ⟨bel⟩⟩
        rw [if_neg c15] at H; have c15b0 := decide_eq_false c15; clear c15
        have H' := am H
        clear H; go_wp2
        go_roundg k3
        case measure => have := HK1.out; have := HJ9.out; have := HK3.out; omega
        case rel => exact ⟨(x9_3), (wrap64 (x10_1 + 1)), sq, H', ⟨by have := HK1.out; have := HJ9.out; have := HK3.out; omega⟩, ⟨vq HO_9.out⟩, ⟨bel⟩⟩
   rw [if_neg c9] at H; have c9b0 := decide_eq_false c9; clear c9; obtain rfl := Option.some.inj H; go_wp2; go_ret
   exact ⟨_, eq_, by (with_reducible repeat (fail)); exact HO_9.out, bel⟩
-- shrunk

/-! ### spec_l2Forms: function 154 -/
def spec_l2Forms.f (k : Nat) (l0 : List (S73)) (a1_0 : ByteArray) (a1_1 : ByteArray) : Option (List ByteArray) := (spec_l2One.f k l0 a1_1 false (([a1_0] : List ByteArray))).bind fun t347 => ((spec_l2One.f k l0 a1_1 true t347).bind fun t350 => (some t350))
def spec_l2Forms.T1 : Bool × List (List Nat × List Nat) := (true, [([], []), ([], []), ([1], [1]), ([], []), ([], []), ([4], [4]), ([], []), ([6], [6]), ([7], [7]), ([3, 5, 8], [3, 5, 8]), ([0, 2, 9, 9], [0, 2, 9]), ([10, 10, 0, 1, 2, 3, 4, 5, 6, 7, 8, 9, 10], [10])])
def spec_l2Forms.B1 : List Nat := [0, 0, 2, 0, 0, 16, 0, 64, 192, 504, 1023, 2047]
theorem spec_l2Forms.tab1 : rtab .any (opsOf Try.f154 1) = spec_l2Forms.T1 := by kernel_rfl
theorem spec_l2Forms.bits1 : waitsOk spec_l2Forms.T1.2 spec_l2Forms.B1 = true := by kernel_rfl
theorem spec_l2Forms.calls (k : Nat) (A0 : Option Addr) (c0 : Nat) (l0 : List (S73)) (a1_0 : ByteArray) (a1_1 : ByteArray) (r : List ByteArray) (w : World) (hr0 : Kd.C k73 w A0 l0.length l0) (hc0 : l0.length ≤ c0) (h : spec_l2Forms.f k l0 a1_0 a1_1 = some r) :
  Calls Try.prog 154 #[.slice A0 l0.length c0, .agg #[.string a1_0, .string a1_1]] w fun e w' => ∃ v0_ : Value, e = .returned (v0_) ∧ Kd.V Kd.string 9 w' w.heap.size (fun k_ => (w.heap.size ≤ k_)) v0_ r ∧ Below w.heap.size w w' := by
 have hu66 := Try.underlying66; have HR0 := am hr0; have HC0 := am hc0; clear hr0 hc0; have HB := am (Below.refl w.heap.size w)
 have H := h; unfold spec_l2Forms.f at H
 clear h; obtain ⟨y344, hy344⟩ : ∃ y_ : List ByteArray, y_ = (([a1_0] : List ByteArray)) := ⟨_, rfl⟩
 rw [← hy344] at H
 have Ny344 := am hy344; clear hy344; replace H := bs H; obtain ⟨t347, A30, H⟩ := H; have A3 := Aside0.mk A30; clear A30; replace H := bs H; obtain ⟨t350, A40, H⟩ := H; have A4 := Aside0.mk A40; clear A40; obtain rfl := Option.some.inj H; go_enter Try.func154, Try.ntmps154
 try go_wp2_with ((with_reducible refine gate_dst (N := 3) rfl ?_); refine bx 3 (cs := #[.string a1_0, .string a1_1]) (t := 66) ?_; intro gb343 hg w5 hbox hb; have BK343 := am (hbox); have GW343 := am ((b17_ : w.heap.size ≤ gb343)); have GE343 := am ((b17_ : w.heap.size ≤ gb343)); replace HB := am (below_step bel hb); clear hb hbox hg)
 replace BK343 := am (blk_drew BK343.out); replace HB := am (below_drew1 HB.out)
 refine st (n := 12) (S := fun w' => w'.cell? ⟨gb343, 0, none⟩ = some (.string a1_0) ∧ w'.cell? ⟨gb343, 1, none⟩ = some (.string a1_1)) (ds := []) ⟨bd BK343.out 0, bd BK343.out 1⟩ (fun hHeld => ?_); refine with_tabW spec_l2Forms.tab1 spec_l2Forms.bits1 (fun HT_ HW_ => ?_)
 generalize w5.drew = w6 at BK343 HB hHeld ⊢
 refine pu 0 5 ?_
 refine pu 1 6 ?_
 refine pu 3 8 ?_
 refine pu 4 9 ?_
 refine pu 6 11 ?_
 refine tk2 2 7 hHeld ?_
 refine tk2 5 10 hHeld ?_
 refine tk2 7 12 hHeld ?_
 refine on1 8 13 (fun K hK => ?_)
 refine Kd.R_lit_step Kd.string _ 9 ?hg (N := 13) ?hd (xs := ([a1_0] : List ByteArray)) (inner := [.string a1_0]) (ok := fun _ => True) (okp := fun _ => True) ?hr ?hp (fun _ hk => hk) trivial (Below.refl _ _) (Nat.le_refl _) (by simp) ?_; (case hd => rfl); (case hg => rfl); (case hr => (go_simp; done)); (case hp => exact (Reps.one (show Kd.M Kd.string _ _ _ a1_0 [.string a1_0] from rfl) (Reps.none _ _)))
 intro v345 w7 ho8 hb hg_ hnew_; clear hg_ hnew_
 (rw [← Ny344.out] at ho8)
 have HO346 := am (Kd.R_lower (Kd.R_newM (M := fun k_ => (w.heap.size ≤ k_)) ho8 (below_size (bel1 GE343.out)) (fun k_ h_ => h_)) (below_size (bel1 GE343.out))); replace BK343 := am (blk_below (bq BK343.out) hb); replace HB := am (below_step (bel1 GE343.out) hb); clear hb ho8; obtain ⟨Ao9, co9, eo9⟩ := Kd.R_slice HO346.out
 (subst eo9)
 refine hK.out _ _ ⟨bd BK343.out 0, bd BK343.out 1⟩ (fun hHeld => ?_)
 clear hK K
 refine nm 13 ?_
 refine on1 9 14 (fun K hK => ?_)
 refine go1 Try.func166 #[.slice A0 l0.length c0, .string a1_1, .bool false, .slice Ao9 y344.length co9] ?_
 with_reducible refine (spec_l2One.calls k _ _ l0 a1_1 false _ _ y344 t347 _ ?side1 ?side2 ?side3 ?side4 A3.out).mono ?_
 (case side1 => exact cq (Kd.C_below HR0.out HB.out)); (case side2 => exact HC0.out); (case side3 => exact cq (Kd.R_reads' HO346.out).2.2); (case side4 => exact (Kd.R_reads' HO346.out).2.1)
 rintro e w10 ⟨v348, rfl, ho0, hb⟩
 refine ⟨_, rfl, ?_⟩
 have HO349 := am (Kd.V_lower (Kd.V_mono (ok' := fun k_ => (w.heap.size ≤ k_) ∧ some k_ ≠ (.slice Ao9 y344.length co9 : Value).ownBlock ∧ k_ ≠ gb343) ho0 (fun k_ hk_ => ⟨(Nat.le_trans (below_size (bel1 GE343.out)) hk_), (Kd.fresh' (Kd.R_lt (rq HO346.out)) k_ hk_), (Kd.freshB (g := gb343) (o := .cells #[.string a1_0, .string a1_1] 66 (0, 0)) (bq BK343.out) k_ hk_)⟩)) (below_size (bel1 GE343.out))); replace HO346 := am (Kd.R_below (rq HO346.out) hb); replace BK343 := am (blk_below (bq BK343.out) hb); replace HB := am (below_step (bel1 GE343.out) hb)
 clear hb
 clear ho0
 obtain ⟨Ao11, co11, eo11⟩ := Kd.V_slice HO349.out
 (subst eo11)
 refine hK.out _ _ ⟨bd BK343.out 0, bd BK343.out 1⟩ (fun hHeld => ?_)
 clear hK K
 refine nm 14 ?_
 refine on1 10 15 (fun K hK => ?_)
 refine go1 Try.func166 #[.slice A0 l0.length c0, .string a1_1, .bool true, .slice Ao11 t347.length co11] ?_
 with_reducible refine (spec_l2One.calls k _ _ l0 a1_1 true _ _ t347 t350 _ ?side1 ?side2 ?side3 ?side4 A4.out).mono ?_
 (case side1 => exact cq (Kd.C_below HR0.out HB.out)); (case side2 => exact HC0.out); (case side3 => exact cq (Kd.V_reads' HO349.out).2.2); (case side4 => exact (Kd.V_reads' HO349.out).2.1)
 rintro e w12 ⟨v351, rfl, ho0, hb⟩
 refine ⟨_, rfl, ?_⟩
 replace HO349 := am (Kd.V_below (vq HO349.out) hb); have HO352 := am (Kd.V_lower (Kd.V_mono (ok' := fun k_ => (w.heap.size ≤ k_) ∧ some k_ ≠ (.slice Ao9 y344.length co9 : Value).ownBlock ∧ k_ ≠ gb343) ho0 (fun k_ hk_ => ⟨(Nat.le_trans (below_size (bel1 GE343.out)) hk_), (Kd.fresh' (Kd.R_lt (rq HO346.out)) k_ hk_), (Kd.freshB (g := gb343) (o := .cells #[.string a1_0, .string a1_1] 66 (0, 0)) (bq BK343.out) k_ hk_)⟩)) (below_size (bel1 GE343.out))); replace HO346 := am (Kd.R_below (rq HO346.out) hb); replace BK343 := am (blk_below (bq BK343.out) hb); replace HB := am (below_step (bel1 GE343.out) hb)
 clear hb
 clear ho0
 refine hK.out _ _ ⟨bd BK343.out 0, bd BK343.out 1⟩ (fun hHeld => ?_)
 clear hK K
 refine nm 15 ?_
 refine pu 11 4 ?_
 refine done_ (done_of HT_.out (by kernel_rfl)) ?_
 try go_wp2
 go_ret
 exact ⟨_, eq_, by (with_reducible repeat (fail)); exact Kd.V_mono HO352.out (fun _ hk => hk.1), bel1 GE343.out⟩

/-! ### spec_l2Words: function 145 -/
mutual
def spec_l2Words.l0 : Nat → List ByteArray → Int → List (S73) → List (S66) → Option (List ByteArray)
 | 0, _, _, _, _ => none
 | k + 1, x3, x4, x354000, x354001 => if x4 < (x354001.length : Int) then (if 0 ≤ x4 then ((spec_l2Forms.f k x354000 ((rd_T66 x354001 x4).f0) ((rd_T66 x354001 x4).f1)).bind fun t358 => (spec_l2Words.l1 k x3 x4 t358 0 x354000 x354001)) else (none)) else (some x3)
def spec_l2Words.l1 : Nat → List ByteArray → Int → List ByteArray → Int → List (S73) → List (S66) → Option (List ByteArray)
 | 0, _, _, _, _, _, _ => none
 | k + 1, x3, x4, x5, x6, x354000, x354001 => if x6 < (x5.length : Int) then (if 0 ≤ x6 then ((spec_l1Put.f k x3 (rdOf ByteArray.empty x5 x6)).bind fun t362 => (spec_l2Words.l1 k t362 x4 x5 (wrap64 (x6 + 1)) x354000 x354001)) else (none)) else (spec_l2Words.l0 k x3 (wrap64 (x4 + 1)) x354000 x354001)
end
def spec_l2Words.f (k : Nat) (l0_0 : List (S73)) (l0_1 : List (S66)) : Option (List ByteArray) := spec_l2Words.l0 k (([] : List ByteArray)) 0 l0_0 l0_1
def spec_l2Words.T5 : Bool × List (List Nat × List Nat) := (true, [([], []), ([0], [0]), ([], []), ([2], [2]), ([], []), ([3, 4], [3, 4]), ([5], [5]), ([1, 6], [1, 6]), ([7, 7, 0, 1, 2, 3, 4, 5, 6, 7], [7])])
def spec_l2Words.B5 : List Nat := [0, 1, 0, 4, 0, 28, 60, 127, 255]
theorem spec_l2Words.tab5 : rtab .any (opsOf Try.f145 5) = spec_l2Words.T5 := by kernel_rfl
theorem spec_l2Words.bits5 : waitsOk spec_l2Words.T5.2 spec_l2Words.B5 = true := by kernel_rfl
theorem spec_l2Words.calls (k : Nat) (A0_0 : Option Addr) (c0_0 : Nat) (l0_0 : List (S73)) (A0_1 : Option Addr) (c0_1 : Nat) (l0_1 : List (S66)) (r : List ByteArray) (w : World) (hr0_0 : Kd.C k73 w A0_0 l0_0.length l0_0) (hc0_0 : l0_0.length ≤ c0_0) (hr0_1 : Kd.C k66 w A0_1 l0_1.length l0_1) (hc0_1 : l0_1.length ≤ c0_1) (h : spec_l2Words.f k l0_0 l0_1 = some r) :
  Calls Try.prog 145 #[.agg #[.slice A0_0 l0_0.length c0_0, .slice A0_1 l0_1.length c0_1]] w fun e w' => ∃ v0_ : Value, e = .returned (v0_) ∧ Kd.V Kd.string 9 w' w.heap.size (fun k_ => (w.heap.size ≤ k_)) v0_ r ∧ Below w.heap.size w w' := by
 have hu34 := Try.underlying34; have hu66 := Try.underlying66; have HR0_0 := am hr0_0; have HC0_0 := am hc0_0; clear hr0_0 hc0_0; have HR0_1 := am hr0_1; have HC0_1 := am hc0_1; clear hr0_1 hc0_1; have HB := am (Below.refl w.heap.size w)
 have H := h; unfold spec_l2Words.f at H
 clear h; obtain ⟨y354, hy354⟩ : ∃ y_ : List ByteArray, y_ = (([] : List ByteArray)) := ⟨_, rfl⟩
 rw [← hy354] at H
 have Ny354 := am hy354; clear hy354
 have H' := am H
 clear H; go_enter Try.func145, Try.ntmps145
 go_wp2_with (first | ((with_reducible refine gate_dst (N := 1) rfl ?_); refine bx 1 (cs := #[.slice A0_0 l0_0.length c0_0, .slice A0_1 l0_1.length c0_1]) (t := 34) ?_; intro gb353 hg w2 hbox hb; have BK353 := am (hbox); have GW353 := am ((b17_ : w.heap.size ≤ gb353)); have GE353 := am ((b17_ : w.heap.size ≤ gb353)); replace HB := am (below_step bel hb); clear hb hbox hg) | ((with_reducible refine gate_dst (N := 7) rfl ?_); refine Kd.R_lit Kd.string _ 9 ?hg (N := 7) ?hd (xs := ([] : List ByteArray)) (inner := []) (ok := fun _ => True) (okp := fun _ => True) ?hr ?hp (fun _ hk => hk) trivial (Below.refl _ _) (Nat.le_refl _) (by simp) ?_; (case hd => rfl); (case hg => rfl); (case hr => (go_simp; done)); (case hp => exact (Reps.none _ _)); intro v355 w3 ho4 hb hg_ hnew_; clear hg_ hnew_; (rw [← Ny354.out] at ho4); have HO356 := am (Kd.R_lower (Kd.R_newM (M := fun k_ => (w.heap.size ≤ k_)) ho4 (below_size (bel1 GE353.out)) (fun k_ h_ => h_)) (below_size (bel1 GE353.out))); replace BK353 := am (blk_below (bq BK353.out) hb); replace HB := am (below_step (bel1 GE353.out) hb); clear hb ho4))
 go_loopg [3, 4] k (fun kq v3 v4 w' => ∃ (x3_1 : List ByteArray) (x4_1 : Int), v4 = .int .i64 x4_1 ∧ Aside0 (spec_l2Words.l0 kq x3_1 x4_1 l0_0 l0_1 = some r) ∧ Aside0 (kq ≤ k) ∧ Aside0 (Kd.V Kd.string 9 w' w.heap.size (fun k_ => (w.heap.size ≤ k_) ∧ k_ ≠ gb353) v3 x3_1) ∧ Aside0 (w'.heap[gb353]? = some (.cells #[(.slice A0_0 l0_0.length c0_0), (.slice A0_1 l0_1.length c0_1)] 34 (0, 0))) ∧ Aside0 (Below w.heap.size w w'))
 case atStart => exact ⟨(y354), (0), sq, H', ⟨Nat.le_refl _⟩, ⟨Kd.R_V (rq (Kd.R_mono (Kd.R_types HO356.out BK353.out (by decide)) (fun _ hk => ⟨hk.1.1, hk.2⟩)))⟩, ⟨bq BK353.out⟩, ⟨bel1 GE353.out⟩⟩
 case round =>
  clear H'; obtain ⟨x3_1, x4_1, rfl, HA, HK1, HO_3, BK353, HB⟩ := hrel
  cases gk with
  | zero => exact absurd HA.out (by simp [spec_l2Words.l0])
  | succ k1 =>
   have H := HA.out; clear HA; simp only [spec_l2Words.l0] at H
   by_cases c5 : x4_1 < (l0_1.length : Int)
   ·rw [if_pos c5] at H; have c5b0 := decide_eq_true c5; clear c5
    replace H := it H; obtain ⟨c6b0, H⟩ := H; replace H := bs H; obtain ⟨t358, A70, H⟩ := H; have A7 := Aside0.mk A70; clear A70
    have H' := am H
    clear H; have ⟨hcz8_0, hcz8_1, hfz8_0, hfz8_1⟩ := b2c BK353.out
    try go_wp2
    replace HO_3 := am (Kd.V_drew HO_3.out); replace BK353 := am (blk_drew BK353.out); replace HB := am (below_drew1 HB.out)
    have p357 : 0 ≤ (x4_1 : Int) := of_decide_eq_true ad
    have q357 : x4_1 < (l0_1.length : Int) := of_decide_eq_true ad
    obtain ⟨ad357, e357, hx357_0, hx357_1⟩ := at_T66 HR0_1.out x4_1 p357 q357; have hw357_1 := hx357_1; have hw357_0 := hx357_0; cases e357; replace hx357_0 := kp HB.out hx357_0; replace hx357_1 := kp HB.out hx357_1; replace p357 := eq_true p357; replace q357 := eq_true q357
    refine st (n := 9) (S := fun w' => w'.cell? ⟨gb353, 0, none⟩ = some (.slice A0_0 l0_0.length c0_0) ∧ w'.cell? ⟨gb353, 1, none⟩ = some (.slice (some ad357) l0_1.length c0_1) ∧ w'.cell? (ad357.add ((x4_1).toNat * 2)) = some (.string ((rd_T66 l0_1 x4_1).f0)) ∧ w'.cell? ⟨(ad357.add ((x4_1).toNat * 2)).block, (ad357.add ((x4_1).toNat * 2)).off + 1, none⟩ = some (.string ((rd_T66 l0_1 x4_1).f1))) (ds := []) ⟨bd BK353.out 0, bd BK353.out 1, (kp HB.out hw357_0), (kp HB.out hw357_1)⟩ (fun hHeld => ?_); refine with_tabW spec_l2Words.tab5 spec_l2Words.bits5 (fun HT_ HW_ => ?_)
    generalize wr.drew = w9 at HO_3 BK353 HB hx357_0 hx357_1 hHeld ⊢; refine pu 0 15 ?_; refine pu 2 17 ?_; refine pu 4 19 ?_; refine tk4 1 16 hHeld ?_; refine tk4 3 18 hHeld ?_; refine pu 5 20 ?_; refine tk4 6 21 hHeld ?_; refine on1 7 22 (fun K hK => ?_)
    refine go1 Try.func154 #[.slice A0_0 l0_0.length c0_0, .agg #[.string ((rd_T66 l0_1 x4_1).f0), .string ((rd_T66 l0_1 x4_1).f1)]] ?_
    with_reducible refine (spec_l2Forms.calls k1 _ _ l0_0 ((rd_T66 l0_1 x4_1).f0) ((rd_T66 l0_1 x4_1).f1) t358 _ ?side1 ?side2 A7.out).mono ?_
    (case side1 => exact cq (Kd.C_below HR0_0.out HB.out)); (case side2 => exact HC0_0.out)
    rintro e w10 ⟨v359, rfl, ho0, hb⟩; refine ⟨_, rfl, ?_⟩
    replace HO_3 := am (Kd.V_below (vq HO_3.out) hb); have HO360 := am (Kd.V_lower (Kd.V_mono (ok' := fun k_ => (w.heap.size ≤ k_) ∧ k_ ≠ gb353) ho0 (fun k_ hk_ => ⟨(Nat.le_trans (below_size (bel1 GE353.out)) hk_), (Kd.freshB (g := gb353) (o := .cells #[.slice A0_0 l0_0.length c0_0, .slice (some ad357) l0_1.length c0_1] 34 (0, 0)) (bq BK353.out) k_ hk_)⟩)) (below_size (bel1 GE353.out))); replace BK353 := am (blk_below (bq BK353.out) hb); replace HB := am (below_step (bel1 GE353.out) hb)
    clear hb ho0; refine hK.out _ _ ⟨bd BK353.out 0, bd BK353.out 1, (kp HB.out hw357_0), (kp HB.out hw357_1)⟩ (fun hHeld => ?_); clear hK K; refine nm 22 ?_; refine pu 8 5 ?_
    refine done_ (done_of HT_.out (by kernel_rfl)) ?_
    try go_wp2
    go_loopg [3, 6] k1 (fun kq v3 v6 w' => ∃ (x3_2 : List ByteArray) (x6_2 : Int), v6 = .int .i64 x6_2 ∧ Aside0 (spec_l2Words.l1 kq x3_2 x4_1 t358 x6_2 l0_0 l0_1 = some r) ∧ Aside0 (kq ≤ k1) ∧ Aside0 (Kd.V Kd.string 9 w' w.heap.size (fun k_ => (w.heap.size ≤ k_) ∧ k_ ≠ gb353) v3 x3_2) ∧ Aside0 (Kd.V Kd.string 9 w' w.heap.size (fun k_ => (w.heap.size ≤ k_) ∧ k_ ≠ gb353) v359 t358) ∧ Aside0 (w'.heap[gb353]? = some (.cells #[(.slice A0_0 l0_0.length c0_0), (.slice (some ad357) l0_1.length c0_1)] 34 (0, 0))) ∧ Aside0 (Below w.heap.size w w'))
    case atStart => exact ⟨(x3_1), (0), sq, H', ⟨Nat.le_refl _⟩, ⟨vq HO_3.out⟩, ⟨vq HO360.out⟩, ⟨bq BK353.out⟩, ⟨bel1 GE353.out⟩⟩
    case round =>
     clear H'; clear c5b0 c6b0 hcz8_0 hcz8_1 hfz8_0 hfz8_1 hx357_0 hx357_1 p357 q357; obtain ⟨x3_2, x6_2, rfl, HA, HK2, HO_3, HO_5, BK353, HB⟩ := hrel
     cases gk with
     | zero => exact absurd HA.out (by simp [spec_l2Words.l1])
     | succ k2 =>
      have H := HA.out; clear HA; simp only [spec_l2Words.l1] at H
      by_cases c11 : x6_2 < (t358.length : Int)
      ·rw [if_pos c11] at H; have c11b0 := decide_eq_true c11; clear c11
       replace H := it H; obtain ⟨c12b0, H⟩ := H; replace H := bs H; obtain ⟨t362, A130, H⟩ := H; have A13 := Aside0.mk A130; clear A130
       have H' := am H
       clear H; obtain ⟨Ao14, co14, eo14⟩ := Kd.V_slice HO_5.out; subst eo14
       have p361 : 0 ≤ (x6_2 : Int) := of_decide_eq_true ad
       have q361 : x6_2 < (t358.length : Int) := of_decide_eq_true ad
       obtain ⟨ad361, e361, hx361_0⟩ := Kd.at_string (Kd.V_reads' HO_5.out).2.2 x6_2 p361 q361; cases e361; replace p361 := eq_true p361; replace q361 := eq_true q361; obtain ⟨Ao15, co15, eo15⟩ := Kd.V_slice HO_3.out; subst eo15
       go_wp2_with ((with_reducible refine gate_callee (f := 112) rfl ?_); refine gl 34 Try.func112 #[.slice Ao15 x3_2.length co15, .string (rdOf ByteArray.empty t358 x6_2)] ?_; (with_reducible refine (spec_l1Put.calls k2 (fun k_ => ((w.heap.size ≤ k_) ∧ k_ ≠ gb353)) _ _ x3_2 (rdOf ByteArray.empty t358 x6_2) t362 _ ?side1 A13.out).mono ?_); (case side1 => exact HO_3.out); rintro e w16 ⟨v363, rfl, ho0, hb⟩; refine ⟨_, rfl, ?_⟩; replace HO_3 := am (Kd.V_below (vq HO_3.out) hb); replace HO_5 := am (Kd.V_below (vq HO_5.out) hb); have HO364 := am (Kd.V_lower (Kd.V_mono (ok' := fun k_ => (w.heap.size ≤ k_) ∧ k_ ≠ gb353) ho0 (fun k_ hk_ => ⟨Or.elim hk_ (fun hs_ => hs_.1) (fun hn_ => (Nat.le_trans (below_size (bel1 GE353.out)) hn_)), Or.elim hk_ (fun hs_ => hs_.2) (fun hn_ => (Kd.freshB (g := gb353) (o := .cells #[.slice A0_0 l0_0.length c0_0, .slice (some ad357) l0_1.length c0_1] 34 (0, 0)) (bq BK353.out) k_ hn_))⟩)) (below_size (bel1 GE353.out))); replace BK353 := am (blk_below (bq BK353.out) hb); replace HB := am (below_step (bel1 GE353.out) hb); clear hb; clear ho0)
       go_roundg k2
       case measure => have := HK1.out; have := HK2.out; omega
       case rel => exact ⟨(t362), (wrap64 (x6_2 + 1)), sq, H', ⟨b30_⟩, ⟨vq HO364.out⟩, ⟨vq HO_5.out⟩, ⟨bq BK353.out⟩, ⟨bel1 GE353.out⟩⟩
      rw [if_neg c11] at H; have c11b0 := decide_eq_false c11; clear c11
      have H' := am H
      clear H; obtain ⟨Ao17, co17, eo17⟩ := Kd.V_slice HO_5.out; subst eo17; go_wp2
      go_roundg k2
      case measure => have := HK1.out; have := HK2.out; omega
      case rel => exact ⟨(x3_2), (wrap64 (x4_1 + 1)), sq, H', ⟨b30_⟩, ⟨vq HO_3.out⟩, ⟨bq BK353.out⟩, ⟨bel1 GE353.out⟩⟩
   rw [if_neg c5] at H; have c5b0 := decide_eq_false c5; clear c5; obtain rfl := Option.some.inj H; have ⟨hcz18_0, hcz18_1, hfz18_0, hfz18_1⟩ := b2c BK353.out; go_wp2; go_ret
   exact ⟨_, eq_, b101_, bel1 GE353.out⟩

/-! ### spec_l13Words: function 125 -/
mutual
def spec_l13Words.l0 : Nat → List ByteArray → Int → List Int → Int → Option (List ByteArray × Int)
 | 0, _, _, _, _ => none
 | k + 1, x3, x4, x1000, x1001 => if x4 > 0 then ((spec_l13Word.f k x1000 x1001).bind fun bt370 => ((spec_l1Put.f k x3 bt370.1).bind fun t372 => (spec_l13Words.l0 k t372 (wrap64 (x4 - 1)) x1000 bt370.2))) else ((spec_l1Rd_pick.f k x1000 x1001 3).bind fun bt375 => (if bt375.1 = 0 then ((spec_l13Book.f k x1000 bt375.2).bind fun bt377 => ((spec_l2Words.f k bt377.1 bt377.2.1).bind fun t384 => (spec_l13Words.j1 k t384 x1000 bt377.2.2))) else (spec_l13Words.j1 k x3 x1000 bt375.2)))
def spec_l13Words.j1 : Nat → List ByteArray → List Int → Int → Option (List ByteArray × Int)
 | 0, _, _, _ => none
 | k + 1, x3, x1000, x1001 => if (x3.length : Int) > 40 then (if 40 ≤ (x3.length : Int) then (some ((x3.take 40), x1001)) else (none)) else (some (x3, x1001))
end
def spec_l13Words.f (k : Nat) (s0_0 : List Int) (s0_1 : Int) : Option (List ByteArray × Int) := (spec_l1Rd_pick.f k s0_0 s0_1 9).bind fun bt368 => (spec_l13Words.l0 k (([] : List ByteArray)) bt368.1 s0_0 bt368.2)
theorem spec_l13Words.calls (k : Nat) (g : Nat) (s0_0 : List Int) (s0_1 : Int) (r1 : List ByteArray) (r2 : Int) (w0 w : World) (hI : IsS114 w0 w g s0_0 s0_1) (hB : Below w0.heap.size w0 w) (h : spec_l13Words.f k s0_0 s0_1 = some (r1, r2)) :
  Calls Try.prog 125 #[.pointer (some ⟨g, 0, none⟩)] w fun e w' => ∃ v0_ : Value, e = .returned (v0_) ∧ Kd.V Kd.string 9 w' w.heap.size (fun k_ => (w.heap.size ≤ k_)) v0_ r1 ∧ IsS114 w0 w' g s0_0 r2 ∧ Below w0.heap.size w0 w' ∧ KeepBut w w' g none := by
 have HI0 := am hI; have HK := am (KeepBut.refl w g none); have HL := am hB.size; clear hI; have HW0 := am hB.size; have HB := am hB; clear hB
 have H := h; unfold spec_l13Words.f at H
 clear h; obtain ⟨y365, hy365⟩ : ∃ y_ : List ByteArray, y_ = (([] : List ByteArray)) := ⟨_, rfl⟩
 rw [← hy365] at H
 have Ny365 := am hy365; clear hy365; replace H := bs H; obtain ⟨⟨t368, t369⟩, A20, H⟩ := H; dsimp only at H; have A2 := Aside0.mk A20; clear A20
 have H' := am H
 clear H; go_enter Try.func125, Try.ntmps125
 go_wp2_with (first | ((with_reducible refine gate_dst (N := 5) rfl ?_); refine Kd.R_lit Kd.string _ 9 ?hg (N := 5) ?hd (xs := ([] : List ByteArray)) (inner := []) (ok := fun _ => True) (okp := fun _ => True) ?hr ?hp (fun _ hk => hk) trivial (Below.refl _ _) (Nat.le_refl _) (by simp) ?_; (case hd => rfl); (case hg => rfl); (case hr => (go_simp; done)); (case hp => exact (Reps.none _ _)); intro v366 w3 ho4 hb hg_ hnew_; clear hg_ hnew_; (rw [← Ny365.out] at ho4); have HO367 := am (Kd.R_lower (Kd.R_newM (M := fun k_ => (w.heap.size ≤ k_)) ho4 (keep_size (w := w) (g := g) (row := none) b0_) (fun k_ h_ => h_)) (keep_size (w := w) (g := g) (row := none) b0_)); replace HK := am (KeepBut.trans b0_ (KeepBut.of_below hb g none) (.inl rfl)); replace HB := am (below_step b1_ hb); replace HI0 := am (IsS114.below b2_ hb); clear hb ho4) | ((with_reducible refine gate_callee (f := 53) rfl ?_); refine gl 7 Try.func53 #[.pointer (some ⟨g, 0, none⟩), .int .i64 9] ?_; (with_reducible refine (spec_l1Rd_pick.calls k g s0_0 s0_1 9 t368 t369 w0 _ ?side1 ?side2 A2.out).mono ?_); (case side1 => repeat (with_reducible exact HI0.out)); (case side2 => repeat (with_reducible exact HB.out)); rintro e w5 ⟨rfl, hi, hb, hk⟩; refine ⟨_, rfl, ?_⟩; replace HO367 := am (Kd.R_mono (Kd.R_keep (IsS114.apart (show IsS114 w0 _ g s0_0 s0_1 from by repeat (with_reducible exact HI0.out)) (rq HO367.out) (by decide)) hk (fun _ h => h.2)) (fun _ h => h.1)); replace HK := am (KeepBut.trans b0_ hk (.inl rfl)); replace HB := am (hb); replace HI0 := am (hi); clear hb hk hi))
 go_loopg [3, 4] k (fun kq v3 v4 w' => ∃ (x3_1 : List ByteArray) (x4_1 : Int) (x1001_1 : Int), v4 = .int .i64 x4_1 ∧ Aside0 (spec_l13Words.l0 kq x3_1 x4_1 s0_0 x1001_1 = some (r1, r2)) ∧ Aside0 (kq ≤ k) ∧ Aside0 (Kd.V Kd.string 9 w' w.heap.size (fun k_ => (w.heap.size ≤ k_) ∧ k_ ≠ g) v3 x3_1) ∧ Aside0 (IsS114 w0 w' g s0_0 x1001_1) ∧ Aside0 (KeepBut w w' g none) ∧ Aside0 (Below w0.heap.size w0 w'))
 case atStart => exact ⟨(y365), (t368), (t369), sq, H', ⟨Nat.le_refl _⟩, ⟨Kd.R_V (rq (Kd.R_mono (IsS114.apart HI0.out HO367.out (by decide)) (fun _ hk => ⟨hk.1.1, hk.2⟩)))⟩, ⟨b2_⟩, ⟨b0_⟩, ⟨b1_⟩⟩
 case round =>
  clear H'; obtain ⟨x3_1, x4_1, x1001_1, rfl, HA, HK1, HO_3, HI0, HK, HB⟩ := hrel
  cases gk with
  | zero => exact absurd HA.out (by simp [spec_l13Words.l0])
  | succ k1 =>
   have H := HA.out; clear HA; simp only [spec_l13Words.l0] at H
   by_cases c6 : x4_1 > 0
   ·rw [if_pos c6] at H; have c6b0 := decide_eq_true c6; clear c6; replace H := bs H; obtain ⟨⟨t370, t371⟩, A70, H⟩ := H; dsimp only at H; have A7 := Aside0.mk A70; clear A70; replace H := bs H; obtain ⟨t372, A80, H⟩ := H; have A8 := Aside0.mk A80; clear A80
    have H' := am H
    clear H
    go_wp2_with (first | ((with_reducible refine gate_callee (f := 103) rfl ?_); refine gl 14 Try.func103 #[.pointer (some ⟨g, 0, none⟩)] ?_; (with_reducible refine (spec_l13Word.calls k1 g s0_0 x1001_1 t370 t371 w0 _ ?side1 ?side2 A7.out).mono ?_); (case side1 => repeat (with_reducible exact HI0.out)); (case side2 => repeat (with_reducible exact HB.out)); rintro e w9 ⟨rfl, hi, hb, hk⟩; refine ⟨_, rfl, ?_⟩; replace HO_3 := am (Kd.V_mono (Kd.V_keep (Kd.V_mono (ok := fun k_ => (((w.heap.size ≤ k_)) ∧ k_ ≠ g)) (vq HO_3.out) (fun k_ hk_ => (⟨hk_, hk_.2⟩ : _ ∧ k_ ≠ g))) hk (fun _ h => h.2)) (fun _ h => h.1)); replace HK := am (KeepBut.trans b0_ hk (.inl rfl)); replace HB := am (hb); replace HI0 := am (hi); clear hb hk hi; obtain ⟨Ao10, co10, eo10⟩ := Kd.V_slice HO_3.out; subst eo10) | ((with_reducible refine gate_callee (f := 112) rfl ?_); refine gl 15 Try.func112 #[.slice Ao10 x3_1.length co10, .string t370] ?_; (with_reducible refine (spec_l1Put.calls k1 (fun k_ => ((w.heap.size ≤ k_) ∧ k_ ≠ g)) _ _ x3_1 t370 t372 _ ?side1 A8.out).mono ?_); (case side1 => exact HO_3.out); rintro e w11 ⟨v373, rfl, ho0, hb⟩; refine ⟨_, rfl, ?_⟩; replace HO_3 := am (Kd.V_below (vq HO_3.out) hb); have HO374 := am (Kd.V_lower (Kd.V_mono (ok' := fun k_ => (w.heap.size ≤ k_) ∧ k_ ≠ g) ho0 (fun k_ hk_ => ⟨Or.elim hk_ (fun hs_ => hs_.1) (fun hn_ => (Nat.le_trans (keep_size (w := w) (g := g) (row := none) b0_) hn_)), Or.elim hk_ (fun hs_ => hs_.2) (fun hn_ => (IsS114.fresh b2_ k_ hn_))⟩)) (keep_size (w := w) (g := g) (row := none) b0_)); replace HK := am (KeepBut.trans b0_ (KeepBut.of_below hb g none) (.inl rfl)); replace HB := am (below_step b1_ hb); replace HI0 := am (IsS114.below b2_ hb); clear hb; clear ho0))
    go_roundg k1
    case measure => have := HK1.out; omega
    case rel => exact ⟨(t372), (wrap64 (x4_1 - 1)), (t371), sq, H', ⟨b68_⟩, ⟨vq HO374.out⟩, ⟨b2_⟩, ⟨b0_⟩, ⟨b1_⟩⟩
   rw [if_neg c6] at H; have c6b0 := decide_eq_false c6; clear c6; replace H := bs H; obtain ⟨⟨t375, t376⟩, A120, H⟩ := H; dsimp only at H; have A12 := Aside0.mk A120; clear A120; have HC13 := am H; clear H
   go_upto_if 18 with ((with_reducible refine gate_callee (f := 53) rfl ?_); refine gl 17 Try.func53 #[.pointer (some ⟨g, 0, none⟩), .int .i64 3] ?_; (with_reducible refine (spec_l1Rd_pick.calls k1 g s0_0 x1001_1 3 t375 t376 w0 _ ?side1 ?side2 A12.out).mono ?_); (case side1 => repeat (with_reducible exact HI0.out)); (case side2 => repeat (with_reducible exact HB.out)); rintro e w14 ⟨rfl, hi, hb, hk⟩; refine ⟨_, rfl, ?_⟩; replace HO_3 := am (Kd.V_mono (Kd.V_keep (Kd.V_mono (ok := fun k_ => (((w.heap.size ≤ k_)) ∧ k_ ≠ g)) (vq HO_3.out) (fun k_ hk_ => (⟨hk_, hk_.2⟩ : _ ∧ k_ ≠ g))) hk (fun _ h => h.2)) (fun _ h => h.1)); replace HK := am (KeepBut.trans b0_ hk (.inl rfl)); replace HB := am (hb); replace HI0 := am (hi); clear hb hk hi)
   go_cut [3] (fun v3 wc => ∃ (kq : Nat) (x3_12 : List ByteArray) (x1001_12 : Int), Aside0 (spec_l13Words.j1 kq x3_12 s0_0 x1001_12 = some (r1, r2)) ∧ Aside0 (kq ≤ k1) ∧ Aside0 (Kd.V Kd.string 9 wc w.heap.size (fun k_ => (w.heap.size ≤ k_) ∧ k_ ≠ g) v3 x3_12) ∧ Aside0 (IsS114 w0 wc g s0_0 x1001_12) ∧ Aside0 (KeepBut w wc g none) ∧ Aside0 (Below w0.heap.size w0 wc))
   case first =>
    have H := HC13.out; clear HC13
    by_cases c15 : t375 = 0
    ·rw [if_pos c15] at H
     have c15b0 : (t375 == 0) = true := beq_iff_eq.mpr c15
     have c15b1 : (t375 != 0) = false := bne_eq_false_iff_eq.mpr c15
     clear c15
     (rw [c15b0])
     replace H := bs H; obtain ⟨⟨t377, t380, t383⟩, A160, H⟩ := H; dsimp only at H; have A16 := Aside0.mk A160; clear A160; replace H := bs H; obtain ⟨t384, A170, H⟩ := H; have A17 := Aside0.mk A170; clear A170
     have H' := am H
     clear H
     go_wp2_with (first | ((with_reducible refine gate_callee (f := 90) rfl ?_); refine gl 20 Try.func90 #[.pointer (some ⟨g, 0, none⟩)] ?_; (with_reducible refine (spec_l13Book.calls k1 g s0_0 t376 t377 t380 t383 w0 _ ?side1 ?side2 A16.out).mono ?_); (case side1 => repeat (with_reducible exact HI0.out)); (case side2 => repeat (with_reducible exact HB.out)); rintro e w18 ⟨v378, v381, rfl, ho0, ho1, hi, hb, hk⟩; refine ⟨_, rfl, ?_⟩; replace HO_3 := am (Kd.V_mono (Kd.V_told (Kd.V_told (Kd.V_oldK (Kd.V_mono (ok := fun k_ => (((w.heap.size ≤ k_)) ∧ k_ ≠ g)) (vq HO_3.out) (fun k_ hk_ => (⟨hk_, hk_.2⟩ : _ ∧ k_ ≠ g))) hk) (Kd.R_base ho0)) (Kd.R_base ho1)) (fun _ h_ => h_.1)); have HO379 := am (Kd.R_lower (Kd.R_newM (M := fun k_ => (w.heap.size ≤ k_)) ho0 (keep_size (w := w) (g := g) (row := none) b0_) (fun k_ h_ => h_)) (keep_size (w := w) (g := g) (row := none) b0_)); have HO382 := am (Kd.R_lower (Kd.R_newM (M := fun k_ => (w.heap.size ≤ k_)) ho1 (keep_size (w := w) (g := g) (row := none) b0_) (fun k_ h_ => h_)) (keep_size (w := w) (g := g) (row := none) b0_)); replace HK := am (KeepBut.trans b0_ hk (.inl rfl)); replace HB := am (hb); replace HI0 := am (hi); clear hb hk hi; clear ho0 ho1; obtain ⟨Ao19, co19, eo19⟩ := Kd.R_slice HO379.out; subst eo19; obtain ⟨Ao20, co20, eo20⟩ := Kd.R_slice HO382.out; subst eo20) | ((with_reducible refine gate_callee (f := 145) rfl ?_); refine gl 21 Try.func145 #[.agg #[.slice Ao19 t377.length co19, .slice Ao20 t380.length co20]] ?_; (with_reducible refine (spec_l2Words.calls k1 _ _ t377 _ _ t380 t384 _ ?side1 ?side2 ?side3 ?side4 A17.out).mono ?_); (case side1 => exact cq (Kd.R_reads' HO379.out).2.2); (case side2 => exact (Kd.R_reads' HO379.out).2.1); (case side3 => exact cq (Kd.R_reads' HO382.out).2.2); (case side4 => exact (Kd.R_reads' HO382.out).2.1); rintro e w21 ⟨v385, rfl, ho0, hb⟩; refine ⟨_, rfl, ?_⟩; replace HO_3 := am (Kd.V_below (vq HO_3.out) hb); have HO386 := am (Kd.V_lower (Kd.V_mono (ok' := fun k_ => (w.heap.size ≤ k_) ∧ some k_ ≠ (.slice Ao19 t377.length co19 : Value).ownBlock ∧ some k_ ≠ (.slice Ao20 t380.length co20 : Value).ownBlock ∧ k_ ≠ g) ho0 (fun k_ hk_ => ⟨(Nat.le_trans (keep_size (w := w) (g := g) (row := none) b0_) hk_), (Kd.fresh' (Kd.R_lt (rq HO379.out)) k_ hk_), (Kd.fresh' (Kd.R_lt (rq HO382.out)) k_ hk_), (IsS114.fresh b2_ k_ hk_)⟩)) (keep_size (w := w) (g := g) (row := none) b0_)); replace HO379 := am (Kd.R_below (rq HO379.out) hb); replace HO382 := am (Kd.R_below (rq HO382.out) hb); replace HK := am (KeepBut.trans b0_ (KeepBut.of_below hb g none) (.inl rfl)); replace HB := am (below_step b1_ hb); replace HI0 := am (IsS114.below b2_ hb); clear hb; clear ho0))
     go_meet
     case rel => exact ⟨_, (t384), (t383), H', ⟨b39_⟩, ⟨vq (Kd.V_mono HO386.out (fun _ hk => ⟨hk.1, hk.2.2.2⟩))⟩, ⟨b2_⟩, ⟨b0_⟩, ⟨b1_⟩⟩
    rw [if_neg c15] at H
    have c15b0 : (t375 == 0) = false := beq_eq_false_iff_ne.mpr c15
    have c15b1 : (t375 != 0) = true := bne_iff_ne.mpr c15
    (rw [c15b0])
    have H' := am H
    clear H; go_wp2
    go_meet
    case rel => exact ⟨_, (x3_1), (t376), H', ⟨b39_⟩, ⟨vq HO_3.out⟩, ⟨b2_⟩, ⟨b0_⟩, ⟨b1_⟩⟩
   case rest =>
    clear HC13; clear c6b0; obtain ⟨kq, x3_12, x1001_12, HA, HJ12, HO_3, HI0, HK, HB⟩ := hcut
    cases kq with
    | zero => exact absurd HA.out (by simp [spec_l13Words.j1])
    | succ kj12 =>
     have H := HA.out; clear HA; simp only [spec_l13Words.j1] at H
     by_cases c22 : (x3_12.length : Int) > 40
     ·rw [if_pos c22] at H; have c22b0 := decide_eq_true c22
      have c22b1 : decide (40 < x3_12.length) = true := decide_eq_true (by omega)
      clear c22; replace H := ip H; obtain ⟨c23, H⟩ := H; have c23b0 := eq_true c23
      have c23b1 : decide (40 ≤ (x3_12.length : Int)) = true := decide_eq_true c23
      clear c23; obtain ⟨y387, hy387⟩ : ∃ y_ : List ByteArray, y_ = (x3_12.take 40) := ⟨_, rfl⟩
      rw [← hy387] at H
      have Ny387 := am hy387; clear hy387; simp only [Option.some.injEq, Prod.mk.injEq] at H; obtain ⟨rfl, rfl⟩ := H; obtain ⟨Ao24, co24, eo24⟩ := Kd.V_slice HO_3.out; subst eo24
      have q25 : (40 : Int) ≤ ((x3_12.length : Int) : Int) := of_decide_eq_true ad
      obtain ⟨i025, hi025, _, hsz25, _⟩ := info_parts info9
      have hroom25 : x3_12.length ≤ co24 := (Kd.V_reads' HO_3.out).2.1
      have hC25 : Kd.F Kd.string _ _ Ao24 x3_12.length x3_12 := (Kd.V_at (base := w.heap.size) HO_3.out).2.2
      have hcut25 := cut_to (P := Try.prog) 27 9 .i64 Try.underlying27 hi025 Ao24 x3_12.length co24 40 (by omega) q25 hroom25; have hr25 := Kd.F_take (m := 40) hC25 (by omega)
      have hy25 : y387.length = (40 : Int).toNat := (by rw [Ny387.out, List.length_take]; omega)
      rw [← Ny387.out] at hr25; rw [← hy25] at hcut25
      have HO391 := am (show Kd.V Kd.string 9 _ w.heap.size _ (.slice Ao24 y387.length co24) y387 from Kd.V_mk (by omega) hr25)
      have HC391 := am (show y387.length ≤ co24 from by omega)
      clear hr25 hC25 hroom25 hi025 hsz25; have KY25 := am hy25; clear hy25; replace q25 := eq_true q25; go_wp2; go_ret
      exact ⟨_, eq_, by (with_reducible repeat (fail)); exact Kd.V_mono HO391.out (fun _ hk => hk.1), b2_, b1_, b0_⟩
     rw [if_neg c22] at H; have c22b0 := decide_eq_false c22
     have c22b1 : decide (40 < x3_12.length) = false := decide_eq_false (by omega)
     clear c22; simp only [Option.some.injEq, Prod.mk.injEq] at H
     obtain ⟨rfl, rfl⟩ := H; obtain ⟨Ao26, co26, eo26⟩ := Kd.V_slice HO_3.out; subst eo26; go_wp2; go_ret
     exact ⟨_, eq_, b101_, b2_, b1_, b0_⟩

/-! ### spec_l13Machine: function 102 -/
def spec_l13Machine.f (k : Nat) (s0_0 : List Int) (s0_1 : Int) : Option ((List (S95)) × Int) := (spec_l13Words.f k s0_0 s0_1).bind fun bt392 => ((spec_MachineOf.f k bt392.1).bind fun bt396 => (some (bt396.1, bt392.2)))
theorem spec_l13Machine.calls (k : Nat) (g : Nat) (s0_0 : List Int) (s0_1 : Int) (r1 : List (S95)) (r2 : Int) (w0 w : World) (hI : IsS114 w0 w g s0_0 s0_1) (hB : Below w0.heap.size w0 w) (h : spec_l13Machine.f k s0_0 s0_1 = some (r1, r2)) :
  Calls Try.prog 102 #[.pointer (some ⟨g, 0, none⟩)] w fun e w' => ∃ v0_ : Value, e = .returned (v0_) ∧ Kd.S k95 95 w' w.heap.size (fun _ => True) v0_ r1 ∧ IsS114 w0 w' g s0_0 r2 ∧ Below w0.heap.size w0 w' ∧ KeepBut w w' g none := by
 have HI0 := am hI; have HK := am (KeepBut.refl w g none); have HL := am hB.size; clear hI; have HW0 := am hB.size; have HB := am hB; clear hB
 have H := h; unfold spec_l13Machine.f at H
 clear h; replace H := bs H; obtain ⟨⟨t392, t395⟩, A20, H⟩ := H; dsimp only at H; have A2 := Aside0.mk A20; clear A20; replace H := bs H; obtain ⟨⟨t396, t397⟩, A30, H⟩ := H; dsimp only at H; have A3 := Aside0.mk A30; clear A30
 simp only [Option.some.injEq, Prod.mk.injEq] at H
 obtain ⟨rfl, rfl⟩ := H; go_enter Try.func102, Try.ntmps102
 go_wp2_with (first | ((with_reducible refine gate_callee (f := 125) rfl ?_); refine gl 7 Try.func125 #[.pointer (some ⟨g, 0, none⟩)] ?_; (with_reducible refine (spec_l13Words.calls k g s0_0 s0_1 t392 t395 w0 _ ?side1 ?side2 A2.out).mono ?_); (case side1 => repeat (with_reducible exact HI0.out)); (case side2 => repeat (with_reducible exact HB.out)); rintro e w4 ⟨v393, rfl, ho0, hi, hb, hk⟩; refine ⟨_, rfl, ?_⟩; have HO394 := am (Kd.V_lower (Kd.V_mono (ok' := fun k_ => k_ ≠ g) ho0 (fun k_ hk_ => (IsS114.fresh b2_ k_ hk_))) (keep_size (w := w) (g := g) (row := none) b0_)); replace HK := am (KeepBut.trans b0_ hk (.inl rfl)); replace HB := am (hb); replace HI0 := am (hi); clear hb hk hi; clear ho0; obtain ⟨Ao5, co5, eo5⟩ := Kd.V_slice HO394.out; subst eo5) | ((with_reducible refine gate_callee (f := 124) rfl ?_); refine gl 8 Try.func124 #[.slice Ao5 t392.length co5] ?_; (with_reducible refine (spec_MachineOf.calls k _ _ t392 t396 t397 _ ?side1 ?side2 A3.out).mono ?_); (case side1 => exact cq (Kd.V_reads' HO394.out).2.2); (case side2 => exact (Kd.V_reads' HO394.out).2.1); rintro e w6 ⟨v398, rfl, ho0, hb⟩; refine ⟨_, rfl, ?_⟩; replace HO394 := am (Kd.V_elder' (vq HO394.out) (Kd.S_base ho0) hb); have HO399 := am (Kd.S_lower ho0 (keep_size (w := w) (g := g) (row := none) b0_)); replace HK := am (KeepBut.trans b0_ (KeepBut.of_below hb g none) (.inl rfl)); replace HB := am (below_step b1_ hb); replace HI0 := am (IsS114.below b2_ hb); clear hb; clear ho0))
 go_ret
 exact ⟨_, eq_, by (with_reducible repeat (fail)); exact HO399.out, b2_, b1_, b0_⟩
end Go.Proofs.Ytdfnijaacnlfaaa.QFnMachineGuesses

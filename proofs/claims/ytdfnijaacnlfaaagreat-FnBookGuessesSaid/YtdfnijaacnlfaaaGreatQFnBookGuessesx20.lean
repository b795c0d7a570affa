import Derived.Test.YtdfnijaacnlfaaaGreatQFnBookGuessesx0
import Derived.Test.YtdfnijaacnlfaaaGreatQFnBookGuessesx15
import Derived.Test.YtdfnijaacnlfaaaGreatVMSh2
namespace Go.Proofs.YtdfnijaacnlfaaaGreat.QFnBookGuesses
open Go.RowKit Go.Proofs.YtdfnijaacnlfaaaGreatW.PrintWords Go.Proofs.YtdfnijaacnlfaaaGreatW.PrintLast Go.Proofs.YtdfnijaacnlfaaaGreatW.PrintMore Go.Proofs.YtdfnijaacnlfaaaGreat.Sh
attribute [local go_sem] max2_int min2_int max_two min_two max_three min_three max_four min_four
set_option linter.unusedVariables false
set_option linter.unusedSimpArgs false
set_option maxHeartbeats 8000000
set_option maxRecDepth 100000
-- shrunk

/-! ### impl_sorted: function 42 -/
/-- A list in ascending order, each once. -/
def impl_sorted.f (l0 : List ByteArray) : Option (List ByteArray) := if l0.length ≤ 1000000000 then some (M.setL l0) else none
def impl_sorted.ba (l : List UInt8) : ByteArray := ⟨l.toArray⟩
theorem impl_sorted.encs_ba (ss : List (List UInt8)) : encs Value.string (ss.map impl_sorted.ba) = ss.map encStr := by
 unfold encs
 rw [List.map_map]
 rfl
theorem impl_sorted.own {W : World} {base : Nat} {v : Value} {ss : List (List UInt8)} (h : Kd.R Kd.string 9 W base (fun _ => True) v (ss.map impl_sorted.ba)) : W.ownsRow base 9 1 v ss.length (ss.map encStr) := by
 have := Kd.own_of_R h
 rw [impl_sorted.encs_ba, List.length_map] at this
 exact this
theorem impl_sorted.row {W : World} {base : Nat} {v : Value} {ss : List (List UInt8)} (h : W.ownsRow base 9 1 v ss.length (ss.map encStr)) : Kd.R Kd.string 9 W base (fun _ => True) v (ss.map impl_sorted.ba) :=
 Kd.R_of_own (by rw [impl_sorted.encs_ba, List.length_map]; exact h) (fun _ _ => trivial)
theorem impl_sorted.holds {w : World} {base : Nat} {g n cap : Nat} {zs : List (List UInt8)} (h : w.ownsRow base 9 1 (.slice (some ⟨g, 0, none⟩) n cap) n (zs.map encStr)) :
  base ≤ g ∧ g < w.heap.size ∧ n ≤ cap ∧ zs.length = n ∧ Sort.Holds encStr w g 0 zs.toArray := by
 obtain ⟨g', cap', e, h1, h2, h3, _, h5, h6⟩ := Go.Lib.holds_of_ownsRow h (by intro e; cases e)
 cases e
 exact ⟨h1, h2, h3, h5, h6⟩
set_option maxHeartbeats 1000000 in
theorem impl_sorted.sort {w0 W : World} {base : Nat} {v : Value} {ss : List (List UInt8)} (h : Kd.R Kd.string 9 W base (fun _ => True) v (ss.map impl_sorted.ba)) (hB : Below base w0 W) (hbase : base ≤ W.heap.size) (hl : ss.length ≤ 1000000000) :
  Calls Tryz.prog 66 #[v] W fun e w' => e = .returned (.tuple #[]) ∧ Kd.R Kd.string 9 w' base (fun _ => True) v ((ss.mergeSort M.leU).map impl_sorted.ba) ∧ Below base w0 w' ∧ base ≤ w'.heap.size := by
 have ho := impl_sorted.own h
 rcases ho.2 with ⟨rfl, h0⟩ | ⟨g, cap, cur, rfl, hb, hg, h1, h2, h3, h4⟩
 ·have e0 : ss = [] := List.length_eq_zero_iff.1 h0
  subst e0
  have := Any.slices_Sort_string_none Try.laySort none 0 W
  change Calls Tryz.prog 66 _ _ _ at this
  refine this.mono ?_
  rintro e w' ⟨he, rfl⟩
  exact ⟨he, by simpa using h, hB, hbase⟩
 ·obtain ⟨hbg, hgl, hc, _, hH⟩ := impl_sorted.holds ho
  have := Any.slices_Sort_string Try.laySort g 0 cap ss W hH hgl (by omega)
  change Calls Tryz.prog 66 _ _ _ at this
  refine this.mono ?_
  rintro e w' ⟨he, n, os, rfl⟩
  have hl2 : (ss.mergeSort M.leU).length = ss.length := List.length_mergeSort ss
  have hs := ownsRow_sorted (n := n) (os := os) (ts := ss.mergeSort M.leU) hl2 hb hg h1 h2 h3; rw [← hl2] at hs
  refine ⟨he, ?_, ?_, ?_⟩
  ·have := impl_sorted.row hs
   rw [hl2] at this
   exact this
  ·exact hB.grown (grownBy_sorted _) hbase (fun j hj => by cases hj; exact hbg)
  ·exact Nat.le_trans hbase (grownBy_sorted (w := W) (g := g) (n := n) (os := os) (ss.mergeSort M.leU).toArray).size
set_option maxHeartbeats 1000000 in
theorem impl_sorted.compact {w0 W : World} {base : Nat} {v : Value} {ss : List (List UInt8)} (h : Kd.R Kd.string 9 W base (fun _ => True) v (ss.map impl_sorted.ba)) (hB : Below base w0 W) (hbase : base ≤ W.heap.size) (hl : ss.length ≤ 1000000000) :
  Calls Tryz.prog 67 #[v] W fun e w' => ∃ A c, e = .returned (.slice A (Go.Lib.compact ss).length c) ∧ Kd.R Kd.string 9 w' base (fun _ => True) (.slice A (Go.Lib.compact ss).length c) ((Go.Lib.compact ss).map impl_sorted.ba) ∧ Below base w0 w' ∧ W.grownBy w' v.ownBlock := by
 have ho := impl_sorted.own h
 rcases ho.2 with ⟨rfl, h0⟩ | ⟨g, cap, cur, rfl, hb, hg, h1, h2, h3, h4⟩
 ·have e0 : ss = [] := List.length_eq_zero_iff.1 h0
  subst e0
  have := Any.slices_Compact_string_empty Try.layCompact none 0 W
  change Calls Tryz.prog 67 _ _ _ at this
  refine this.mono ?_
  rintro e w' ⟨he, rfl⟩
  exact ⟨none, 0, he, h, hB, ⟨rfl, rfl, rfl, Nat.le_refl _, fun _ _ _ => rfl⟩⟩
 ·obtain ⟨hbg, hgl, hc, _, hH⟩ := impl_sorted.holds ho
  have := Any.slices_Compact_string Try.layCompact g 0 cap ss W hH (by omega) h1
  change Calls Tryz.prog 67 _ _ _ at this
  refine this.mono ?_
  rintro e w' ⟨he, q, rfl⟩
  have hle := Go.Lib.compact_length_le ss
  have hc2 := Go.Lib.ownsRow_putRow (q := q) (k := (Go.Lib.compact ss).length) (ys := Go.Lib.compact ss ++ List.replicate (ss.length - (Go.Lib.compact ss).length) []) ho (by simp; omega) (by omega)
  rw [List.take_left] at hc2
  refine ⟨_, _, he, impl_sorted.row hc2, Go.Lib.below_putRow hB hbg, rfl, rfl, rfl, by simp [Sort.putRow, Sort.mapBlock, Sort.ahead], fun k hk hne => ?_⟩
  have : g ≠ k := fun e => hne (by rw [← e]; rfl)
  simp [Sort.putRow, Sort.mapBlock, Sort.ahead, Array.getElem?_modify, this]
theorem impl_sorted.apart {W W1 : World} {base : Nat} {v v9 : Value} {xs : List ByteArray} (h : Kd.R Kd.string 9 W base (fun _ => True) v xs) (h9 : Kd.R Kd.string 9 W1 base (fun _ => True) v9 []) (hn : ∃ b, v9.ownBlock = some b ∧ W.heap.size ≤ b) :
  Kd.R Kd.string 9 W1 base (fun k => some k ≠ v.ownBlock) v9 [] := by
 refine Kd.R_of_own (Kd.own_of_R h9) (fun k hk => ?_)
 obtain ⟨b, hb, hle⟩ := hn; rw [hb] at hk
 cases hk
 intro e
 rcases (Kd.own_of_R h).2 with ⟨rfl, _⟩ | ⟨g, cap, cur, rfl, hbg, hg, _⟩
 ·simp [Value.ownBlock] at e
 ·have e2 : k = g := by simpa [Value.ownBlock] using e
  have := (Array.getElem?_eq_some_iff.1 hg).1
  omega
theorem impl_sorted.ba_of (l : List ByteArray) : (l.map (·.data.toList)).map impl_sorted.ba = l := by
 rw [List.map_map]
 conv => rhs; rw [← List.map_id l]
 exact List.map_congr_left (fun x _ => M.ba_of x)
theorem impl_sorted.compactL {w0 W : World} {base : Nat} {v : Value} {l : List ByteArray} (h : Kd.R Kd.string 9 W base (fun _ => True) v (((l.map (·.data.toList)).mergeSort M.leU).map impl_sorted.ba)) (hB : Below base w0 W) (hbase : base ≤ W.heap.size) (hl : l.length ≤ 1000000000) :
  Calls Tryz.prog 67 #[v] W fun e w' => ∃ A c, e = .returned (.slice A (M.setL l).length c) ∧ Kd.R Kd.string 9 w' base (fun _ => True) (.slice A (M.setL l).length c) (M.setL l) ∧ Below base w0 w' ∧ W.grownBy w' v.ownBlock := by
 have := impl_sorted.compact (w0 := w0) h hB hbase (by rw [List.length_mergeSort, List.length_map]; exact hl)
 rw [M.sorted_eq, List.length_map, impl_sorted.ba_of] at this
 exact this

set_option maxHeartbeats 4000000 in
set_option maxRecDepth 100000 in
theorem impl_sorted.calls (A0 : Option Addr) (c0 : Nat) (l0 : List ByteArray) (r : List ByteArray) (w : World) (hr0 : Kd.C Kd.string w A0 l0.length l0) (hc0 : l0.length ≤ c0) (h : impl_sorted.f l0 = some r) :
  Calls Tryz.prog 42 #[.slice A0 l0.length c0] w fun e w' => ∃ v0_ : Value, e = .returned (v0_) ∧ Kd.R Kd.string 9 w' w.heap.size (fun _ => True) v0_ r ∧ Below w.heap.size w w' := by
 unfold impl_sorted.f at h
 split at h
 case isFalse => cases h
 rename_i hsz; obtain rfl := Option.some.inj h; clear h; have hsl := M.setL_length l0; have HR := am hr0; clear hr0; go_enter Tryz.func42, Tryz.ntmps42
 go_wp2_with (first
  | ((with_reducible refine gate_dst (N := 4) rfl ?_); refine Kd.R_lit Kd.string w.heap.size 9 ?hg (N := 4) ?hd (xs := ([] : List ByteArray)) (inner := []) (ok := fun _ => True) (okp := fun _ => True) ?hr ?hp (fun _ hk => hk) trivial (Below.refl _ _) (Nat.le_refl _) (by simp) ?_; (case hd => rfl); (case hg => rfl); (case hr => (go_simp; done)); (case hp => exact (Reps.none _ _)); intro v4 w1 ho hb hg_ hnew_; have HO4 := am ho; have HB1 := am hb; clear ho hb hg_ hnew_)
  | ((with_reducible refine gate_builtin (b := .append) (xs := #[.tmp 4, .tmp 5]) rfl ?_); at_builtin; refine Kd.R_append_row Value.string (⟨#[]⟩ : ByteArray) (h1 := fun _ => rfl) (w0 := w) w.heap.size rfl (.tmp 4) (.tmp 5) 34 9 (.string ⟨#[]⟩) 16 rfl Tryz.underlying34 info9 rfl (by decide) v4 [] l0 A0 l0.length c0 (fun _ => True) rfl rfl (fun _ _ => trivial) HO4.out (Kd.C_below HR.out HB1.out) HB1.out (below_size HB1.out) (by simp; omega) ?_; intro v6 w2 ho hb hg_ hat_; rw [List.nil_append] at ho; have HO6 := am ho; have HB2 := am hb; clear ho hb hg_ hat_ HO4 HB1)
  | (go_at_call 66; refine (impl_sorted.sort (w0 := w) (base := w.heap.size) (ss := l0.map (·.data.toList)) (by rw [impl_sorted.ba_of]; exact HO6.out) HB2.out (below_size HB2.out) (by simpa using hsz)).mono ?_; rintro e w3 ⟨rfl, hR3, hB3, hs3⟩; have HO7 := am hR3; have HB3 := am hB3; clear hR3 hB3 hs3 HO6 HB2)
  | ((with_reducible refine gate_dst (N := 9) rfl ?_); refine Kd.R_lit Kd.string w.heap.size 9 ?hg (N := 9) ?hd (xs := ([] : List ByteArray)) (inner := []) (ok := fun _ => True) (okp := fun _ => True) ?hr ?hp (fun _ hk => hk) trivial HB3.out (below_size HB3.out) (by simp) ?_; (case hd => rfl); (case hg => rfl); (case hr => (go_simp; done)); (case hp => exact (Reps.none _ _)); intro v9 w4 ho hb hg_ hnew_; have HO8 := am (Kd.R_mono (Kd.R_grown HO7.out hg_ (fun _ _ h => by cases h)) (fun _ _ => trivial)); have HO9 := am (impl_sorted.apart HO7.out ho hnew_); have HB4 := am hb; clear ho hb hg_ hnew_ HO7 HB3)
  | (go_at_call 67; refine (impl_sorted.compactL (w0 := w) (base := w.heap.size) HO8.out HB4.out (below_size HB4.out) hsz).mono ?_; rintro e w5 ⟨A5, c5, rfl, hR5, hB5, hg5⟩; have HO5 := am hR5; have HO9' := am (Kd.R_mono (Kd.R_grown HO9.out hg5 (fun _ h => h)) (fun _ _ => trivial)); have HB5 := am hB5; clear hR5 hB5 hg5 HO8 HO9 HB4)
  | ((with_reducible refine gate_builtin (b := .append) (xs := #[.tmp 9, .tmp 11]) rfl ?_); at_builtin; refine Kd.R_append_row Value.string (⟨#[]⟩ : ByteArray) (h1 := fun _ => rfl) (w0 := w) w.heap.size rfl (.tmp 9) (.tmp 11) 34 9 (.string ⟨#[]⟩) 16 rfl Tryz.underlying34 info9 rfl (by decide) v9 [] (M.setL l0) A5 (M.setL l0).length c5 (fun _ => True) rfl rfl (fun _ _ => trivial) HO9'.out (Kd.R_reads' HO5.out).2.2 HB5.out (below_size HB5.out) (by simp; omega) ?_; intro v12 w6 ho hb hg_ hat_; rw [List.nil_append] at ho; have HO12 := am ho; have HB6 := am hb; clear ho hb hg_ hat_ HO9' HB5))
 go_ret
 exact ⟨v12, rfl, HO12.out, HB6.out⟩

/-! ### strings_Contains: function 64 -/
/-- Contains, of a text of one byte. -/
def strings_Contains.f (a0 : ByteArray) (a1 : ByteArray) : Option Bool := if a1.size = 1 then some (a0.data.toList.contains (a1.data.toList.headD 0)) else none
theorem strings_Contains.index (s : List UInt8) (c : UInt8) : decide (0 ≤ Go.Lib.indexByte s c) = s.contains c := by
 have h1 : ∀ s : List UInt8, -1 ≤ Go.Lib.indexByte s c := by
  intro s
  induction s with
  | nil => simp [Go.Lib.indexByte]
  | cons b l ih =>
   unfold Go.Lib.indexByte
   split
   ·omega
   ·split <;> omega
 induction s with
 | nil => simp [Go.Lib.indexByte]
 | cons b l ih =>
  unfold Go.Lib.indexByte
  rw [List.contains_cons]
  by_cases e : b = c
  ·subst e
   simp
  ·have e2 : (b == c) = false := by simpa using e
   have e3 : (c == b) = false := by simpa using fun h => e h.symm
   rw [e2, e3, Bool.false_or, ← ih]
   have := h1 l
   simp only [Bool.false_eq_true, if_false, beq_iff_eq]
   rw [decide_eq_decide]
   split <;> omega
theorem strings_Contains.calls (a0 : ByteArray) (a1 : ByteArray) (r : Bool) (w : World) (h : strings_Contains.f a0 a1 = some r) :
  Calls Tryz.prog 64 #[.string a0, .string a1] w fun e w' => e = .returned (.bool r) ∧ Drawn0 w w' := by
 unfold strings_Contains.f at h
 split at h
 case isFalse => cases h
 rename_i hs; obtain rfl := Option.some.inj h; obtain ⟨⟨l⟩⟩ := a1
 match l, hs with
 | [c], _ =>
  have := Any.strings_Contains_one Try.layHas a0 c w
  change Calls Tryz.prog 64 _ _ _ at this
  refine this.mono ?_
  rintro e w' ⟨he, rfl⟩
  refine ⟨?_, 0, rfl⟩
  rw [he, strings_Contains.index]
  rfl

/-! ### impl_AffixDo: function 65 -/
def impl_AffixDo.j0 : Nat → ByteArray → Bool → ByteArray → Bool → ByteArray → ByteArray → ByteArray → Option (ByteArray × Bool)
 | 0, _, _, _, _, _, _, _ => none
 | k + 1, x1, x14, x460000, x460001, x460002, x460003, x460004 => if x14 = true then (some ((⟨#[]⟩ : ByteArray), false)) else (if x460001 = true then ((strings_HasPrefix.f x1 x460004).bind fun t462 => (if t462 = true then (if 0 ≤ (x460002.size : Int) then (if (x460002.size : Int) ≤ (x1.size : Int) then (if x460003.size + (x1.extract x460002.size x1.size).size ≤ 9223372036854775807 then ((impl_WordOk.f k (x460003 ++ (x1.extract x460002.size x1.size))).bind fun t463 => (if t463 = true then (some (x460003 ++ (x1.extract x460002.size x1.size), true)) else (some ((⟨#[]⟩ : ByteArray), false)))) else (none)) else (none)) else (none)) else (some ((⟨#[]⟩ : ByteArray), false)))) else ((strings_HasSuffix.f x1 x460004).bind fun t464 => (if t464 = true then (if 0 ≤ (wrap64 ((x1.size : Int) - (x460002.size : Int))) then (if (wrap64 ((x1.size : Int) - (x460002.size : Int))) ≤ (x1.size : Int) then (if (x1.extract 0 ((wrap64 ((x1.size : Int) - (x460002.size : Int))) : Int).toNat).size + x460003.size ≤ 9223372036854775807 then ((impl_WordOk.f k ((x1.extract 0 ((wrap64 ((x1.size : Int) - (x460002.size : Int))) : Int).toNat) ++ x460003)).bind fun t465 => (if t465 = true then (some ((x1.extract 0 ((wrap64 ((x1.size : Int) - (x460002.size : Int))) : Int).toNat) ++ x460003, true)) else (some ((⟨#[]⟩ : ByteArray), false)))) else (none)) else (none)) else (none)) else (some ((⟨#[]⟩ : ByteArray), false)))))
def impl_AffixDo.f (k : Nat) (a0_0 : ByteArray) (a0_1 : Bool) (a0_2 : ByteArray) (a0_3 : ByteArray) (a0_4 : ByteArray) (a1 : ByteArray) : Option (ByteArray × Bool) := (impl_AffixOk.f k a0_0 a0_1 a0_2 a0_3 a0_4).bind fun t460 => (if t460 = true then ((impl_WordOk.f k a1).bind fun t461 => (impl_AffixDo.j0 k a1 (!t461) a0_0 a0_1 a0_2 a0_3 a0_4)) else (impl_AffixDo.j0 k a1 true a0_0 a0_1 a0_2 a0_3 a0_4))
theorem impl_AffixDo.calls (k : Nat) (a0_0 : ByteArray) (a0_1 : Bool) (a0_2 : ByteArray) (a0_3 : ByteArray) (a0_4 : ByteArray) (a1 : ByteArray) (r1 : ByteArray) (r2 : Bool) (w : World) (h : impl_AffixDo.f k a0_0 a0_1 a0_2 a0_3 a0_4 a1 = some (r1, r2)) :
  Calls Tryz.prog 65 #[.agg #[.string a0_0, .bool a0_1, .string a0_2, .string a0_3, .string a0_4], .string a1] w fun e w' => e = .returned (.tuple #[.string r1, .bool r2]) ∧ Below w.heap.size w w' := by
 have hu59 := Tryz.underlying59; have HB := am (Below.refl w.heap.size w)
 have H := h; unfold impl_AffixDo.f at H
 clear h; have HC3 := am H; clear H; go_enter Tryz.func65, Tryz.ntmps65
 go_upto_region 1 with ((with_reducible refine gate_dst (N := 2) rfl ?_); refine bx 2 (cs := #[.string a0_0, .bool a0_1, .string a0_2, .string a0_3, .string a0_4]) (t := 59) ?_; intro gb459 hg w4 hbox hb; have BK459 := am (hbox); have GW459 := am ((b15_ : w.heap.size ≤ gb459)); have GE459 := am ((b15_ : w.heap.size ≤ gb459)); replace HB := am (below_step bel hb); clear hb hbox hg)
 go_cut [14] (fun v14 wc => ∃ (kq : Nat) (x14_2 : Bool), v14 = .bool x14_2 ∧ Aside0 (impl_AffixDo.j0 kq a1 x14_2 a0_0 a0_1 a0_2 a0_3 a0_4 = some (r1, r2)) ∧ Aside0 (kq ≤ k) ∧ Aside0 (wc.heap[gb459]? = some (.cells #[.string a0_0, .bool a0_1, .string a0_2, .string a0_3, .string a0_4] 59 (0, 0))) ∧ Aside0 (Below w.heap.size w wc))
 case first =>
  have H := HC3.out; clear HC3; replace H := bs H; obtain ⟨t460, A50, H⟩ := H; have A5 := Aside0.mk A50; clear A50
  by_cases c6 : t460 = true
  ·subst c6
   have H1 : ((impl_WordOk.f k a1).bind fun t461 => (impl_AffixDo.j0 k a1 (!t461) a0_0 a0_1 a0_2 a0_3 a0_4)) = some (r1, r2) := b26_
   replace H := H1; clear H1
   replace H := bs H; obtain ⟨t461, A70, H⟩ := H; have A7 := Aside0.mk A70; clear A70
   have H' := am H
   clear H; have ⟨hcz8_0, hcz8_1, hcz8_2, hcz8_3, hcz8_4, hfz8_0, hfz8_1, hfz8_2, hfz8_3, hfz8_4⟩ := b5c BK459.out
   go_wp2_with (first | (go_at_call 56; (with_reducible refine (impl_AffixOk.calls k a0_0 a0_1 a0_2 a0_3 a0_4 true _ A5.out).mono ?_); rintro e w9 ⟨rfl, hb⟩; replace BK459 := am (blk_below (bq BK459.out) hb); replace HB := am (below_step (bel1 GE459.out) hb); clear hb) | (go_at_call 18; (with_reducible refine (impl_WordOk.calls k a1 t461 _ A7.out).mono ?_); rintro e w' ⟨rfl, ⟨nd, rfl⟩⟩))
   go_meet
   case rel => exact ⟨_, (!t461), sq, H', ⟨b59_⟩, ⟨bq BK459.out⟩, ⟨bel1 GE459.out⟩⟩
  replace c6 := Bool.eq_false_iff.mpr c6; subst c6
  have H1 : (impl_AffixDo.j0 k a1 true a0_0 a0_1 a0_2 a0_3 a0_4) = some (r1, r2) := b10_
  replace H := H1; clear H1
  have H' := am H
  clear H; have ⟨hcz10_0, hcz10_1, hcz10_2, hcz10_3, hcz10_4, hfz10_0, hfz10_1, hfz10_2, hfz10_3, hfz10_4⟩ := b5c BK459.out
  go_wp2_with (go_at_call 56; (with_reducible refine (impl_AffixOk.calls k a0_0 a0_1 a0_2 a0_3 a0_4 false _ A5.out).mono ?_); rintro e w11 ⟨rfl, hb⟩; replace BK459 := am (blk_below (bq BK459.out) hb); replace HB := am (below_step (bel1 GE459.out) hb); clear hb)
  go_meet
  case rel => exact ⟨_, (true), sq, H', ⟨b59_⟩, ⟨bq BK459.out⟩, ⟨bel1 GE459.out⟩⟩
 case rest =>
  clear HC3; obtain ⟨kq, x14_2, rfl, HA, HJ2, BK459, HB⟩ := hcut
  cases kq with
  | zero => exact absurd HA.out (by simp [impl_AffixDo.j0])
  | succ kj2 =>
   have H := HA.out; clear HA; simp only [impl_AffixDo.j0] at H
   by_cases c12 : x14_2 = true
   ·subst c12
    have H1 : (some ((⟨#[]⟩ : ByteArray), false)) = some (r1, r2) := b26_
    replace H := H1; clear H1; simp only [Option.some.injEq, Prod.mk.injEq] at H
    obtain ⟨rfl, rfl⟩ := H; go_wp2
    go_ret2
    exact ⟨eq_, bel1 GE459.out⟩
   replace c12 := Bool.eq_false_iff.mpr c12; subst c12
   have H1 : (if a0_1 = true then ((strings_HasPrefix.f a1 a0_4).bind fun t462 => (if t462 = true then (if 0 ≤ (a0_2.size : Int) then (if (a0_2.size : Int) ≤ (a1.size : Int) then (if a0_3.size + (a1.extract a0_2.size a1.size).size ≤ 9223372036854775807 then ((impl_WordOk.f kj2 (a0_3 ++ (a1.extract a0_2.size a1.size))).bind fun t463 => (if t463 = true then (some (a0_3 ++ (a1.extract a0_2.size a1.size), true)) else (some ((⟨#[]⟩ : ByteArray), false)))) else (none)) else (none)) else (none)) else (some ((⟨#[]⟩ : ByteArray), false)))) else ((strings_HasSuffix.f a1 a0_4).bind fun t464 => (if t464 = true then (if 0 ≤ (wrap64 ((a1.size : Int) - (a0_2.size : Int))) then (if (wrap64 ((a1.size : Int) - (a0_2.size : Int))) ≤ (a1.size : Int) then (if (a1.extract 0 ((wrap64 ((a1.size : Int) - (a0_2.size : Int))) : Int).toNat).size + a0_3.size ≤ 9223372036854775807 then ((impl_WordOk.f kj2 ((a1.extract 0 ((wrap64 ((a1.size : Int) - (a0_2.size : Int))) : Int).toNat) ++ a0_3)).bind fun t465 => (if t465 = true then (some ((a1.extract 0 ((wrap64 ((a1.size : Int) - (a0_2.size : Int))) : Int).toNat) ++ a0_3, true)) else (some ((⟨#[]⟩ : ByteArray), false)))) else (none)) else (none)) else (none)) else (some ((⟨#[]⟩ : ByteArray), false))))) = some (r1, r2) := b10_
   replace H := H1; clear H1
   by_cases c13 : a0_1 = true
   ·subst c13
    have H1 : ((strings_HasPrefix.f a1 a0_4).bind fun t462 => (if t462 = true then (if 0 ≤ (a0_2.size : Int) then (if (a0_2.size : Int) ≤ (a1.size : Int) then (if a0_3.size + (a1.extract a0_2.size a1.size).size ≤ 9223372036854775807 then ((impl_WordOk.f kj2 (a0_3 ++ (a1.extract a0_2.size a1.size))).bind fun t463 => (if t463 = true then (some (a0_3 ++ (a1.extract a0_2.size a1.size), true)) else (some ((⟨#[]⟩ : ByteArray), false)))) else (none)) else (none)) else (none)) else (some ((⟨#[]⟩ : ByteArray), false)))) = some (r1, r2) := b26_
    replace H := H1; clear H1
    replace H := bs H; obtain ⟨t462, A140, H⟩ := H; have A14 := Aside0.mk A140; clear A140
    by_cases c15 : t462 = true
    ·subst c15
     have H1 : (if 0 ≤ (a0_2.size : Int) then (if (a0_2.size : Int) ≤ (a1.size : Int) then (if a0_3.size + (a1.extract a0_2.size a1.size).size ≤ 9223372036854775807 then ((impl_WordOk.f kj2 (a0_3 ++ (a1.extract a0_2.size a1.size))).bind fun t463 => (if t463 = true then (some (a0_3 ++ (a1.extract a0_2.size a1.size), true)) else (some ((⟨#[]⟩ : ByteArray), false)))) else (none)) else (none)) else (none)) = some (r1, r2) := b26_
     replace H := H1; clear H1; replace H := ip H; obtain ⟨c16, H⟩ := H; have c16b0 := eq_true c16
     have c16b1 : decide (0 ≤ (a0_2.size : Int)) = true := decide_eq_true c16
     clear c16; replace H := ip H; obtain ⟨c17, H⟩ := H; have c17b0 := eq_true c17
     have c17b9 : (a0_2.size ≤ a1.size) = True := eq_true (by omega)
     have c17b6 : decide (a0_2.size ≤ a1.size) = true := decide_eq_true (by omega)
     have c17b1 : decide ((a0_2.size : Int) ≤ (a1.size : Int)) = true := decide_eq_true c17
     clear c17; replace H := ip H; obtain ⟨c18, H⟩ := H; have c18b0 := eq_true c18; have c18b5 := c18
     simp at c18b5
     have c18b4 := eq_false (Nat.not_lt.2 c18b5)
     try have c18b3 : (9223372036854775807 < a0_3.size + (a1.size - a0_2.size)) = False := by
           have h_ := c18
           simp only [ByteArray.size_append, ByteArray.size_extract] at h_
           exact eq_false (by omega)
     have c18b1 : decide (a0_3.size + (a1.extract a0_2.size a1.size).size ≤ 9223372036854775807) = true := decide_eq_true c18
     have c18b2 : (9223372036854775807 < a0_3.size + (a1.extract a0_2.size a1.size).size) = False := eq_false (Nat.not_lt.2 c18)
     replace H := bs H; obtain ⟨t463, A190, H⟩ := H; have A19 := Aside0.mk A190; clear A190
     by_cases c20 : t463 = true
     ·subst c20
      have H1 : (some (a0_3 ++ (a1.extract a0_2.size a1.size), true)) = some (r1, r2) := b26_
      replace H := H1; clear H1; simp only [Option.some.injEq, Prod.mk.injEq] at H
      obtain ⟨rfl, rfl⟩ := H; have ⟨hcz21_0, hcz21_1, hcz21_2, hcz21_3, hcz21_4, hfz21_0, hfz21_1, hfz21_2, hfz21_3, hfz21_4⟩ := b5c BK459.out
      go_wp2_with (go_at_call 73; (with_reducible refine (strings_HasPrefix.calls a1 a0_4 true _ A14.out).mono ?_); rintro e w' ⟨rfl, ⟨nd, rfl⟩⟩)
      repeat (go_quiet (fail); try go_wp2_with (go_at_call 18; (with_reducible refine (impl_WordOk.calls kj2 (a0_3 ++ (a1.extract a0_2.size a1.size)) true _ A19.out).mono ?_); rintro e w' ⟨rfl, ⟨nd, rfl⟩⟩))
      go_ret2
      exact ⟨eq_, bel1 GE459.out⟩
     replace c20 := Bool.eq_false_iff.mpr c20; subst c20
     have H1 : (some ((⟨#[]⟩ : ByteArray), false)) = some (r1, r2) := b10_
     replace H := H1; clear H1; simp only [Option.some.injEq, Prod.mk.injEq] at H
     obtain ⟨rfl, rfl⟩ := H; have ⟨hcz22_0, hcz22_1, hcz22_2, hcz22_3, hcz22_4, hfz22_0, hfz22_1, hfz22_2, hfz22_3, hfz22_4⟩ := b5c BK459.out
     go_wp2_with (go_at_call 73; (with_reducible refine (strings_HasPrefix.calls a1 a0_4 true _ A14.out).mono ?_); rintro e w' ⟨rfl, ⟨nd, rfl⟩⟩)
     repeat (go_quiet (fail); try go_wp2_with (go_at_call 18; (with_reducible refine (impl_WordOk.calls kj2 (a0_3 ++ (a1.extract a0_2.size a1.size)) false _ A19.out).mono ?_); rintro e w' ⟨rfl, ⟨nd, rfl⟩⟩))
     go_ret2
     exact ⟨eq_, bel1 GE459.out⟩
    replace c15 := Bool.eq_false_iff.mpr c15; subst c15
    have H1 : (some ((⟨#[]⟩ : ByteArray), false)) = some (r1, r2) := b10_
    replace H := H1; clear H1; simp only [Option.some.injEq, Prod.mk.injEq] at H
    obtain ⟨rfl, rfl⟩ := H; have ⟨hcz23_0, hcz23_1, hcz23_2, hcz23_3, hcz23_4, hfz23_0, hfz23_1, hfz23_2, hfz23_3, hfz23_4⟩ := b5c BK459.out
    go_wp2_with (go_at_call 73; (with_reducible refine (strings_HasPrefix.calls a1 a0_4 false _ A14.out).mono ?_); rintro e w' ⟨rfl, ⟨nd, rfl⟩⟩)
    go_ret2
    exact ⟨eq_, bel1 GE459.out⟩
   replace c13 := Bool.eq_false_iff.mpr c13; subst c13
   have H1 : ((strings_HasSuffix.f a1 a0_4).bind fun t464 => (if t464 = true then (if 0 ≤ (wrap64 ((a1.size : Int) - (a0_2.size : Int))) then (if (wrap64 ((a1.size : Int) - (a0_2.size : Int))) ≤ (a1.size : Int) then (if (a1.extract 0 ((wrap64 ((a1.size : Int) - (a0_2.size : Int))) : Int).toNat).size + a0_3.size ≤ 9223372036854775807 then ((impl_WordOk.f kj2 ((a1.extract 0 ((wrap64 ((a1.size : Int) - (a0_2.size : Int))) : Int).toNat) ++ a0_3)).bind fun t465 => (if t465 = true then (some ((a1.extract 0 ((wrap64 ((a1.size : Int) - (a0_2.size : Int))) : Int).toNat) ++ a0_3, true)) else (some ((⟨#[]⟩ : ByteArray), false)))) else (none)) else (none)) else (none)) else (some ((⟨#[]⟩ : ByteArray), false)))) = some (r1, r2) := b10_
   replace H := H1; clear H1
   replace H := bs H; obtain ⟨t464, A240, H⟩ := H; have A24 := Aside0.mk A240; clear A240
   by_cases c25 : t464 = true
   ·subst c25
    have H1 : (if 0 ≤ (wrap64 ((a1.size : Int) - (a0_2.size : Int))) then (if (wrap64 ((a1.size : Int) - (a0_2.size : Int))) ≤ (a1.size : Int) then (if (a1.extract 0 ((wrap64 ((a1.size : Int) - (a0_2.size : Int))) : Int).toNat).size + a0_3.size ≤ 9223372036854775807 then ((impl_WordOk.f kj2 ((a1.extract 0 ((wrap64 ((a1.size : Int) - (a0_2.size : Int))) : Int).toNat) ++ a0_3)).bind fun t465 => (if t465 = true then (some ((a1.extract 0 ((wrap64 ((a1.size : Int) - (a0_2.size : Int))) : Int).toNat) ++ a0_3, true)) else (some ((⟨#[]⟩ : ByteArray), false)))) else (none)) else (none)) else (none)) = some (r1, r2) := b26_
    replace H := H1; clear H1
    obtain ⟨ji26, hji26⟩ : ∃ j_ : Int, (wrap64 ((a1.size : Int) - (a0_2.size : Int))) = j_ := ⟨_, rfl⟩
    rw [hji26] at H
    have hji26w : (IntKind.i64.wrap ((a1.size : Int) - (a0_2.size : Int))) = ji26 := (i64_w _).trans hji26
    replace H := ip H; obtain ⟨c27, H⟩ := H; have c27b0 := eq_true c27
    have c27b1 : decide (0 ≤ (ji26)) = true := decide_eq_true c27
    clear c27; replace H := ip H; obtain ⟨c28, H⟩ := H; have c28b0 := eq_true c28
    have c28b1 : decide ((ji26) ≤ (a1.size : Int)) = true := decide_eq_true c28
    clear c28; replace H := ip H; obtain ⟨c29, H⟩ := H; have c29b0 := eq_true c29; have c29b5 := c29
    simp at c29b5
    have c29b4 := eq_false (Nat.not_lt.2 c29b5)
    try have c29b3 : (9223372036854775807 < ((ji26) : Int).toNat + a0_3.size) = False := by
          have h_ := c29
          simp only [ByteArray.size_append, ByteArray.size_extract] at h_
          have g0_ : ((ji26)) ≤ (a1.size : Int) := of_decide_eq_true ad
          exact eq_false (by omega)
    have c29b1 : decide ((a1.extract 0 ((ji26) : Int).toNat).size + a0_3.size ≤ 9223372036854775807) = true := decide_eq_true c29
    have c29b2 : (9223372036854775807 < (a1.extract 0 ((ji26) : Int).toNat).size + a0_3.size) = False := eq_false (Nat.not_lt.2 c29)
    replace H := bs H; obtain ⟨t465, A300, H⟩ := H; have A30 := Aside0.mk A300; clear A300
    by_cases c31 : t465 = true
    ·subst c31
     have H1 : (some ((a1.extract 0 ((ji26) : Int).toNat) ++ a0_3, true)) = some (r1, r2) := b26_
     replace H := H1; clear H1; simp only [Option.some.injEq, Prod.mk.injEq] at H
     obtain ⟨rfl, rfl⟩ := H; have ⟨hcz32_0, hcz32_1, hcz32_2, hcz32_3, hcz32_4, hfz32_0, hfz32_1, hfz32_2, hfz32_3, hfz32_4⟩ := b5c BK459.out
     go_wp2_with (go_at_call 74; (with_reducible refine (strings_HasSuffix.calls a1 a0_4 true _ A24.out).mono ?_); rintro e w' ⟨rfl, ⟨nd, rfl⟩⟩)
     repeat (go_quiet (fail); try go_wp2_with (go_at_call 18; (with_reducible refine (impl_WordOk.calls kj2 ((a1.extract 0 ((ji26) : Int).toNat) ++ a0_3) true _ A30.out).mono ?_); rintro e w' ⟨rfl, ⟨nd, rfl⟩⟩))
     go_ret2
     exact ⟨b98_, bel1 GE459.out⟩
    replace c31 := Bool.eq_false_iff.mpr c31; subst c31
    have H1 : (some ((⟨#[]⟩ : ByteArray), false)) = some (r1, r2) := b10_
    replace H := H1; clear H1; simp only [Option.some.injEq, Prod.mk.injEq] at H
    obtain ⟨rfl, rfl⟩ := H; have ⟨hcz33_0, hcz33_1, hcz33_2, hcz33_3, hcz33_4, hfz33_0, hfz33_1, hfz33_2, hfz33_3, hfz33_4⟩ := b5c BK459.out
    go_wp2_with (go_at_call 74; (with_reducible refine (strings_HasSuffix.calls a1 a0_4 true _ A24.out).mono ?_); rintro e w' ⟨rfl, ⟨nd, rfl⟩⟩)
    repeat (go_quiet (fail); try go_wp2_with (go_at_call 18; (with_reducible refine (impl_WordOk.calls kj2 ((a1.extract 0 ((ji26) : Int).toNat) ++ a0_3) false _ A30.out).mono ?_); rintro e w' ⟨rfl, ⟨nd, rfl⟩⟩))
    go_ret2
    exact ⟨b98_, bel1 GE459.out⟩
   replace c25 := Bool.eq_false_iff.mpr c25; subst c25
   have H1 : (some ((⟨#[]⟩ : ByteArray), false)) = some (r1, r2) := b10_
   replace H := H1; clear H1; simp only [Option.some.injEq, Prod.mk.injEq] at H
   obtain ⟨rfl, rfl⟩ := H; have ⟨hcz34_0, hcz34_1, hcz34_2, hcz34_3, hcz34_4, hfz34_0, hfz34_1, hfz34_2, hfz34_3, hfz34_4⟩ := b5c BK459.out
   go_wp2_with (go_at_call 74; (with_reducible refine (strings_HasSuffix.calls a1 a0_4 false _ A24.out).mono ?_); rintro e w' ⟨rfl, ⟨nd, rfl⟩⟩)
   go_ret2
   exact ⟨eq_, bel1 GE459.out⟩
-- shrunk

/-! ### impl_Forms: function 41 -/
mutual
def impl_Forms.j0 : Nat → List (S59) → Bool → ByteArray → ByteArray → Option (List ByteArray)
 | 0, _, _, _, _ => none
 | k + 1, x0, x21, x467000, x467001 => if x21 = true then (some (([] : List ByteArray))) else ((some (([false, true] : List Bool) : List Bool)).bind fun y475 => (impl_Forms.l0 k x0 (([x467000] : List ByteArray)) y475 (y475.length : Int) 0 x467000 x467001))
def impl_Forms.l0 : Nat → List (S59) → List ByteArray → List Bool → Int → Int → ByteArray → ByteArray → Option (List ByteArray)
 | 0, _, _, _, _, _, _, _ => none
 | k + 1, x0, x5, x26, x27, x28, x467000, x467001 => if x28 < x27 then (if 0 ≤ x28 then (if x28 < (x26.length : Int) then ((some (([] : List ByteArray) : List ByteArray)).bind fun y482 => (if y482.length + x5.length < 8796093022208 then ((some (y482 ++ x5 : List ByteArray)).bind fun y485 => (impl_Forms.l1 k x0 x5 (rdOf false x26 x28) x26 x27 x28 y485 (y485.length : Int) 0 x467000 x467001)) else (none))) else (none)) else (none)) else ((impl_sorted.f x5).bind fun t478 => (some t478))
def impl_Forms.l1 : Nat → List (S59) → List ByteArray → Bool → List Bool → Int → Int → List ByteArray → Int → Int → ByteArray → ByteArray → Option (List ByteArray)
 | 0, _, _, _, _, _, _, _, _, _, _, _ => none
 | k + 1, x0, x5, x7, x26, x27, x28, x34, x35, x36, x467000, x467001 => if x36 < x35 then (if 0 ≤ x36 then (if x36 < (x34.length : Int) then (impl_Forms.l2 k x0 x5 x7 (rdOf ByteArray.empty x34 x36) x26 x27 x28 x34 x35 x36 x0 (x0.length : Int) 0 x467000 x467001) else (none)) else (none)) else (impl_Forms.l0 k x0 x5 x26 x27 (wrap64 (x28 + 1)) x467000 x467001)
def impl_Forms.l2 : Nat → List (S59) → List ByteArray → Bool → ByteArray → List Bool → Int → Int → List ByteArray → Int → Int → List (S59) → Int → Int → ByteArray → ByteArray → Option (List ByteArray)
 | 0, _, _, _, _, _, _, _, _, _, _, _, _, _, _, _ => none
 | k + 1, x0, x5, x7, x9, x26, x27, x28, x34, x35, x36, x40, x41, x42, x467000, x467001 => if x42 < x41 then (if 0 ≤ x42 then (if x42 < (x40.length : Int) then (if (((rd_T59 x40 x42).f1) != x7) = true then (impl_Forms.j4 k x0 x5 x7 x9 x26 x27 x28 x34 x35 x36 x40 x41 x42 true x467000 x467001 ((rd_T59 x40 x42).f0) ((rd_T59 x40 x42).f1) ((rd_T59 x40 x42).f2) ((rd_T59 x40 x42).f3) ((rd_T59 x40 x42).f4)) else ((strings_Contains.f x467001 ((rd_T59 x40 x42).f0)).bind fun t491 => (impl_Forms.j4 k x0 x5 x7 x9 x26 x27 x28 x34 x35 x36 x40 x41 x42 (!t491) x467000 x467001 ((rd_T59 x40 x42).f0) ((rd_T59 x40 x42).f1) ((rd_T59 x40 x42).f2) ((rd_T59 x40 x42).f3) ((rd_T59 x40 x42).f4)))) else (none)) else (none)) else (impl_Forms.l1 k x0 x5 x7 x26 x27 x28 x34 x35 (wrap64 (x36 + 1)) x467000 x467001)
def impl_Forms.j4 : Nat → List (S59) → List ByteArray → Bool → ByteArray → List Bool → Int → Int → List ByteArray → Int → Int → List (S59) → Int → Int → Bool → ByteArray → ByteArray → ByteArray → Bool → ByteArray → ByteArray → ByteArray → Option (List ByteArray)
 | 0, _, _, _, _, _, _, _, _, _, _, _, _, _, _, _, _, _, _, _, _, _ => none
 | k + 1, x0, x5, x7, x9, x26, x27, x28, x34, x35, x36, x40, x41, x42, x57, x467000, x467001, x491000, x491001, x491002, x491003, x491004 => if x57 = true then (impl_Forms.l2 k x0 x5 x7 x9 x26 x27 x28 x34 x35 x36 x40 x41 (wrap64 (x42 + 1)) x467000 x467001) else (if x7 = true then (impl_Forms.j5 k x0 x5 x7 x9 x26 x27 x28 x34 x35 x36 x40 x41 x42 true x467000 x467001 x491000 x491001 x491002 x491003 x491004) else (impl_Forms.j5 k x0 x5 x7 x9 x26 x27 x28 x34 x35 x36 x40 x41 x42 (x9.toList == x467000.toList) x467000 x467001 x491000 x491001 x491002 x491003 x491004))
def impl_Forms.j5 : Nat → List (S59) → List ByteArray → Bool → ByteArray → List Bool → Int → Int → List ByteArray → Int → Int → List (S59) → Int → Int → Bool → ByteArray → ByteArray → ByteArray → Bool → ByteArray → ByteArray → ByteArray → Option (List ByteArray)
 | 0, _, _, _, _, _, _, _, _, _, _, _, _, _, _, _, _, _, _, _, _, _ => none
 | k + 1, x0, x5, x7, x9, x26, x27, x28, x34, x35, x36, x40, x41, x42, x64, x467000, x467001, x491000, x491001, x491002, x491003, x491004 => if x64 = true then ((impl_AffixDo.f k x491000 x491001 x491002 x491003 x491004 x9).bind fun bt492 => (if bt492.2 = true then (if x5.length < 8796093022208 then (impl_Forms.l2 k x0 (x5 ++ [bt492.1]) x7 x9 x26 x27 x28 x34 x35 x36 x40 x41 (wrap64 (x42 + 1)) x467000 x467001) else (none)) else (impl_Forms.l2 k x0 x5 x7 x9 x26 x27 x28 x34 x35 x36 x40 x41 (wrap64 (x42 + 1)) x467000 x467001))) else (impl_Forms.l2 k x0 x5 x7 x9 x26 x27 x28 x34 x35 x36 x40 x41 (wrap64 (x42 + 1)) x467000 x467001)
end
def impl_Forms.f (k : Nat) (l0 : List (S59)) (a1_0 : ByteArray) (a1_1 : ByteArray) : Option (List ByteArray) := (impl_affixesOk.f k l0).bind fun t467 => (if t467 = true then ((impl_entryOk.f k a1_0 a1_1).bind fun t468 => (impl_Forms.j0 k l0 (!t468) a1_0 a1_1)) else (impl_Forms.j0 k l0 true a1_0 a1_1))
theorem impl_Forms.calls (k : Nat) (A0 : Option Addr) (c0 : Nat) (l0 : List (S59)) (a1_0 : ByteArray) (a1_1 : ByteArray) (r : List ByteArray) (w : World) (hr0 : Kd.C k59 w A0 l0.length l0) (hc0 : l0.length ≤ c0) (h : impl_Forms.f k l0 a1_0 a1_1 = some r) :
  Calls Tryz.prog 41 #[.slice A0 l0.length c0, .agg #[.string a1_0, .string a1_1]] w fun e w' => ∃ v0_ : Value, e = .returned (v0_) ∧ Kd.R Kd.string 9 w' w.heap.size (fun _ => True) v0_ r ∧ Below w.heap.size w w' := by
 have hu51 := Tryz.underlying51; have hu59 := Tryz.underlying59; have HR0 := am hr0; have HC0 := am hc0; clear hr0 hc0; have HB := am (Below.refl w.heap.size w)
 have H := h; unfold impl_Forms.f at H
 clear h; have HC3 := am H; clear H; go_enter Tryz.func41, Tryz.ntmps41
 go_upto_region 1 with ((with_reducible refine gate_dst (N := 3) rfl ?_); refine bx 3 (cs := #[.string a1_0, .string a1_1]) (t := 51) ?_; intro gb466 hg w4 hbox hb; have BK466 := am (hbox); have GW466 := am ((b15_ : w.heap.size ≤ gb466)); have GE466 := am ((b15_ : w.heap.size ≤ gb466)); replace HB := am (below_step bel hb); clear hb hbox hg)
 go_cut [21] (fun v21 wc => ∃ (kq : Nat) (x21_2 : Bool), v21 = .bool x21_2 ∧ Aside0 (impl_Forms.j0 kq l0 x21_2 a1_0 a1_1 = some r) ∧ Aside0 (kq ≤ k) ∧ Aside0 (wc.heap[gb466]? = some (.cells #[.string a1_0, .string a1_1] 51 (0, 0))) ∧ Aside0 (Below w.heap.size w wc))
 case first =>
  have H := HC3.out; clear HC3; replace H := bs H; obtain ⟨t467, A50, H⟩ := H; have A5 := Aside0.mk A50; clear A50
  by_cases c6 : t467 = true
  ·subst c6
   have H1 : ((impl_entryOk.f k a1_0 a1_1).bind fun t468 => (impl_Forms.j0 k l0 (!t468) a1_0 a1_1)) = some r := b26_
   replace H := H1; clear H1
   replace H := bs H; obtain ⟨t468, A70, H⟩ := H; have A7 := Aside0.mk A70; clear A70
   have H' := am H
   clear H
   go_wp2_with (first | ((with_reducible refine gate_callee (f := 34) rfl ?_); refine gl 15 Tryz.func34 #[.slice A0 l0.length c0] ?_; (with_reducible refine (impl_affixesOk.calls k _ _ l0 true _ ?side1 ?side2 A5.out).mono ?_); (case side1 => exact cq (Kd.C_below HR0.out HB.out)); (case side2 => exact HC0.out); rintro e w8 ⟨rfl, hb⟩; refine ⟨_, rfl, ?_⟩; replace BK466 := am (blk_below (bq BK466.out) hb); replace HB := am (below_step (bel1 GE466.out) hb); clear hb; have ⟨hcz9_0, hcz9_1, hfz9_0, hfz9_1⟩ := b2c BK466.out) | (go_at_call 58; (with_reducible refine (impl_entryOk.calls k a1_0 a1_1 t468 _ A7.out).mono ?_); rintro e w10 ⟨rfl, hb⟩; replace BK466 := am (blk_below (bq BK466.out) hb); replace HB := am (below_step (bel1 GE466.out) hb); clear hb))
   go_meet
   case rel => exact ⟨_, (!t468), sq, H', ⟨b59_⟩, ⟨bq BK466.out⟩, ⟨bel1 GE466.out⟩⟩
  replace c6 := Bool.eq_false_iff.mpr c6; subst c6
  have H1 : (impl_Forms.j0 k l0 true a1_0 a1_1) = some r := b10_
  replace H := H1; clear H1
  have H' := am H
  clear H
  go_wp2_with ((with_reducible refine gate_callee (f := 34) rfl ?_); refine gl 15 Tryz.func34 #[.slice A0 l0.length c0] ?_; (with_reducible refine (impl_affixesOk.calls k _ _ l0 false _ ?side1 ?side2 A5.out).mono ?_); (case side1 => exact cq (Kd.C_below HR0.out HB.out)); (case side2 => exact HC0.out); rintro e w11 ⟨rfl, hb⟩; refine ⟨_, rfl, ?_⟩; replace BK466 := am (blk_below (bq BK466.out) hb); replace HB := am (below_step (bel1 GE466.out) hb); clear hb)
  go_meet
  case rel => exact ⟨_, (true), sq, H', ⟨b59_⟩, ⟨bq BK466.out⟩, ⟨bel1 GE466.out⟩⟩
 case rest =>
  clear HC3; obtain ⟨kq, x21_2, rfl, HA, HJ2, BK466, HB⟩ := hcut
  cases kq with
  | zero => exact absurd HA.out (by simp [impl_Forms.j0])
  | succ kj2 =>
   have H := HA.out; clear HA; simp only [impl_Forms.j0] at H
   by_cases c12 : x21_2 = true
   ·subst c12
    have H1 : (some (([] : List ByteArray))) = some r := b26_
    replace H := H1; clear H1
    obtain ⟨y469, hy469⟩ : ∃ y_ : List ByteArray, y_ = (([] : List ByteArray)) := ⟨_, rfl⟩
    rw [← hy469] at H
    have Ny469 := am hy469; clear hy469; obtain rfl := Option.some.inj H
    go_wp2_with ((with_reducible refine gate_dst (N := 22) rfl ?_); refine Kd.R_lit Kd.string _ 9 ?hg (N := 22) ?hd (xs := ([] : List ByteArray)) (inner := []) (ok := fun _ => True) (okp := fun _ => True) ?hr ?hp (fun _ hk => hk) trivial (Below.refl _ _) (Nat.le_refl _) (by simp) ?_; (case hd => rfl); (case hg => rfl); (case hr => (go_simp; done)); (case hp => exact (Reps.none _ _)); intro v470 w13 ho14 hb hg_ hnew_; clear hg_ hnew_; (rw [← Ny469.out] at ho14); have HO471 := am (Kd.R_lower ho14 (below_size (bel1 GE466.out))); replace BK466 := am (blk_below (bq BK466.out) hb); replace HB := am (below_step (bel1 GE466.out) hb); clear hb ho14)
    go_ret
    exact ⟨_, eq_, by (with_reducible repeat (fail)); exact HO471.out, bel1 GE466.out⟩
   replace c12 := Bool.eq_false_iff.mpr c12; subst c12
   have H1 : ((some (([false, true] : List Bool) : List Bool)).bind fun y475 => (impl_Forms.l0 kj2 l0 (([a1_0] : List ByteArray)) y475 (y475.length : Int) 0 a1_0 a1_1)) = some r := b10_
   replace H := H1; clear H1
   obtain ⟨y472, hy472⟩ : ∃ y_ : List ByteArray, y_ = (([a1_0] : List ByteArray)) := ⟨_, rfl⟩
   rw [← hy472] at H
   have Ny472 := am hy472; clear hy472; obtain ⟨y475, hy475⟩ : ∃ y_ : List Bool, y_ = (([false, true] : List Bool)) := ⟨_, rfl⟩
   replace H := bm H; rw [← hy475] at H
   have Ny475 := am hy475; clear hy475
   have H' := am H
   clear H; have ⟨hcz15_0, hcz15_1, hfz15_0, hfz15_1⟩ := b2c BK466.out
   go_wp2_with (first | ((with_reducible refine gate_dst (N := 25) rfl ?_); refine Kd.R_lit Kd.string _ 9 ?hg (N := 25) ?hd (xs := ([a1_0] : List ByteArray)) (inner := [.string a1_0]) (ok := fun _ => True) (okp := fun _ => True) ?hr ?hp (fun _ hk => hk) trivial (Below.refl _ _) (Nat.le_refl _) (by simp) ?_; (case hd => rfl); (case hg => rfl); (case hr => (go_simp; done)); (case hp => exact (Reps.one (show Kd.M Kd.string _ _ _ a1_0 [.string a1_0] from rfl) (Reps.none _ _))); intro v473 w16 ho17 hb hg_ hnew_; clear hg_ hnew_; (rw [← Ny472.out] at ho17); have HO474 := am (Kd.R_lower ho17 (below_size (bel1 GE466.out))); replace BK466 := am (blk_below (bq BK466.out) hb); replace HB := am (below_step (bel1 GE466.out) hb); clear hb ho17) | ((with_reducible refine gate_dst (N := 26) rfl ?_); refine Kd.R_lit Kd.bool _ 4 ?hg (N := 26) ?hd (xs := ([false, true] : List Bool)) (inner := [.bool false, .bool true]) (ok := fun _ => True) (okp := fun _ => True) ?hr ?hp (fun _ hk => hk) trivial (Below.refl _ _) (Nat.le_refl _) (by simp) ?_; (case hd => rfl); (case hg => rfl); (case hr => (go_simp; done)); (case hp => exact (Reps.one (show Kd.M Kd.bool _ _ _ false [.bool false] from rfl) (Reps.one (show Kd.M Kd.bool _ _ _ true [.bool true] from rfl) (Reps.none _ _)))); intro v476 w18 ho19 hb hg_ hnew_; clear hg_ hnew_; (rw [← Ny475.out] at ho19); replace HO474 := am (Kd.R_below (rq HO474.out) hb); have HO477 := am (Kd.R_lower ho19 (below_size (bel1 GE466.out))); replace BK466 := am (blk_below (bq BK466.out) hb); replace HB := am (below_step (bel1 GE466.out) hb); clear hb ho19; obtain ⟨Ao20, co20, eo20⟩ := Kd.R_slice HO477.out; subst eo20))
   go_loopg [5, 28] kj2 (fun kq v5 v28 w' => ∃ (x5_2 : List ByteArray) (x28_2 : Int), v28 = .int .i64 x28_2 ∧ Aside0 (impl_Forms.l0 kq l0 x5_2 y475 (y475.length : Int) x28_2 a1_0 a1_1 = some r) ∧ Aside0 (kq ≤ kj2) ∧ Aside0 (Kd.R Kd.string 9 w' w.heap.size (fun _ => True) v5 x5_2) ∧ Aside0 (Kd.R Kd.bool 4 w' w.heap.size (fun _ => True) (.slice Ao20 y475.length co20) y475) ∧ Aside0 (w'.heap[gb466]? = some (.cells #[.string a1_0, .string a1_1] 51 (0, 0))) ∧ Aside0 (Below w.heap.size w w'))
   case atStart => exact ⟨(y472), (0), sq, H', ⟨Nat.le_refl _⟩, ⟨rq HO474.out⟩, ⟨rq HO477.out⟩, ⟨bq BK466.out⟩, ⟨bel1 GE466.out⟩⟩
   case round =>
    clear H'; clear hcz15_0 hcz15_1 hfz15_0 hfz15_1; obtain ⟨x5_2, x28_2, rfl, HA, HK2, HO_5, HO_26, BK466, HB⟩ := hrel
    cases gk with
    | zero => exact absurd HA.out (by simp [impl_Forms.l0])
    | succ k2 =>
     have H := HA.out; clear HA; simp only [impl_Forms.l0] at H
     by_cases c21 : x28_2 < (y475.length : Int)
     ·rw [if_pos c21] at H; have c21b0 := decide_eq_true c21; clear c21
      replace H := it H; obtain ⟨c22b0, H⟩ := H
      replace H := it H; obtain ⟨c23b0, H⟩ := H; obtain ⟨y482, hy482⟩ : ∃ y_ : List ByteArray, y_ = (([] : List ByteArray)) := ⟨_, rfl⟩
      replace H := bm H; rw [← hy482] at H
      have Ny482 := am hy482; clear hy482
      replace H := ip H; obtain ⟨c24, H⟩ := H; have LMc24 := Aside0.mk c24; clear c24; obtain ⟨y485, hy485⟩ : ∃ y_ : List ByteArray, y_ = (y482 ++ x5_2) := ⟨_, rfl⟩
      replace H := bm H; rw [← hy485] at H
      have Ny485 := am hy485; clear hy485
      have H' := am H
      clear H
      have p481 : 0 ≤ (x28_2 : Int) := of_decide_eq_true ad
      have q481 : x28_2 < (y475.length : Int) := of_decide_eq_true ad
      obtain ⟨ad481, e481, hx481_0⟩ := Kd.at_bool (Kd.R_reads' HO_26.out).2.2 x28_2 p481 q481; cases e481; replace p481 := eq_true p481; replace q481 := eq_true q481
      go_wp2_with (first | ((with_reducible refine gate_dst (N := 32) rfl ?_); refine Kd.R_lit Kd.string _ 9 ?hg (N := 32) ?hd (xs := ([] : List ByteArray)) (inner := []) (ok := fun _ => True) (okp := fun _ => True) ?hr ?hp (fun _ hk => hk) trivial (Below.refl _ _) (Nat.le_refl _) (by simp) ?_; (case hd => rfl); (case hg => rfl); (case hr => (go_simp; done)); (case hp => exact (Reps.none _ _)); intro v483 w25 ho26 hb hg_ hnew_; clear hg_ hnew_; (rw [← Ny482.out] at ho26); replace HO_26 := am (Kd.R_below (rq HO_26.out) hb); have HO484 := am (Kd.R_lower (Kd.R_new' ho26 (Kd.R_lt (rq HO_5.out))) (below_size (bel1 GE466.out))); replace HO_5 := am (Kd.R_elder' (rq HO_5.out) (Kd.R_base ho26) hb); replace BK466 := am (blk_below (bq BK466.out) hb); replace HB := am (below_step (bel1 GE466.out) hb); clear hb ho26; obtain ⟨Ao28, co28, eo28⟩ := Kd.R_slice HO_5.out; subst eo28) | ((with_reducible refine gate_builtin (b := .append) (xs := #[.tmp 32, .tmp 33]) rfl ?_); at_builtin; refine Kd.R_append_rows Kd.string (w0 := w) w.heap.size rfl (.tmp 32) (.tmp 33) 34 9 (.string ⟨#[]⟩) 16 rfl Tryz.underlying34 info9 rfl (by decide) (by omega) v483 y482 x5_2 _ _ _ (fun k_ => some k_ ≠ (.slice Ao28 x5_2.length co28 : Value).ownBlock) (fun _ => False) rfl rfl ?aO ?aR (fun _ _ h => h) (fun _ h => h.elim) ?aF ?aB ?aS ?aL ?_; (case aR => exact cq (Kd.R_reads' HO_5.out).2.2); (case aB => exact (bel1 GE466.out)); (case aF => exact (fun k_ hk => Kd.fresh' (Kd.R_lt (rq HO_5.out)) k_ hk)); (case aO => exact (rq (Kd.R_mono HO484.out (fun _ hk => hk.2)))); (case aS => exact (below_size (bel1 GE466.out))); (case aL => have := LMc24.out; omega); intro v486 w27 ho hb hg hat; rw [← Ny485.out] at ho; replace HO_5 := am (Kd.R_after (ok := (fun _ => True)) (rq HO_5.out) hg hat); replace HO_26 := am (Kd.R_over' (rq HO_26.out) (Kd.R_typed (rq HO484.out)) (by decide) hg); replace BK466 := am (blk_grown (g := gb466) (o := .cells #[.string a1_0, .string a1_1] 51 (0, 0)) (bq BK466.out) hg (Kd.R_ne HO484.out BK466.out (by decide))); replace HB := am (hb); have HO487 := am (ho); clear HO484; clear ho hb hg hat; obtain ⟨Ao29, co29, eo29⟩ := Kd.R_slice HO487.out; subst eo29))
      go_loopg [5, 36] k2 (fun kq v5 v36 w' => ∃ (x5_3 : List ByteArray) (x36_3 : Int), v36 = .int .i64 x36_3 ∧ Aside0 (impl_Forms.l1 kq l0 x5_3 (rdOf false y475 x28_2) y475 (y475.length : Int) x28_2 y485 (y485.length : Int) x36_3 a1_0 a1_1 = some r) ∧ Aside0 (kq ≤ k2) ∧ Aside0 (Kd.R Kd.string 9 w' w.heap.size (fun k_ => some k_ ≠ ((.slice Ao29 y485.length co29) : Value).ownBlock) v5 x5_3) ∧ Aside0 (Kd.R Kd.bool 4 w' w.heap.size (fun _ => True) (.slice (some ad481) y475.length co20) y475) ∧ Aside0 (Kd.R Kd.string 9 w' w.heap.size (fun k_ => some k_ ≠ (v5 : Value).ownBlock) (.slice Ao29 y485.length co29) y485) ∧ Aside0 (w'.heap[gb466]? = some (.cells #[.string a1_0, .string a1_1] 51 (0, 0))) ∧ Aside0 (Below w.heap.size w w'))
      case atStart => exact ⟨(x5_2), (0), sq, H', ⟨Nat.le_refl _⟩, ⟨rq (Kd.R_mono HO_5.out (fun _ hk => hk.2))⟩, ⟨rq HO_26.out⟩, ⟨rq HO487.out⟩, ⟨bq BK466.out⟩, ⟨bel1 GE466.out⟩⟩
      case round =>
       clear H'; clear c21b0 c22b0 c23b0 hx481_0 p481 q481; obtain ⟨x5_3, x36_3, rfl, HA, HK3, HO_5, HO_26, HO_34, BK466, HB⟩ := hrel
       cases gk with
       | zero => exact absurd HA.out (by simp [impl_Forms.l1])
       | succ k3 =>
        have H := HA.out; clear HA; simp only [impl_Forms.l1] at H
        by_cases c30 : x36_3 < (y485.length : Int)
        ·rw [if_pos c30] at H; have c30b0 := decide_eq_true c30; clear c30
         replace H := it H; obtain ⟨c31b0, H⟩ := H; replace H := it H; obtain ⟨c32b0, H⟩ := H
         have H' := am H
         clear H
         have p488 : 0 ≤ (x36_3 : Int) := of_decide_eq_true ad
         have q488 : x36_3 < (y485.length : Int) := of_decide_eq_true ad
         obtain ⟨ad488, e488, hx488_0⟩ := Kd.at_string (Kd.R_reads' HO_34.out).2.2 x36_3 p488 q488; cases e488
         replace p488 := eq_true p488; replace q488 := eq_true q488; go_wp2
         go_loopg [5, 42] k3 (fun kq v5 v42 w' => ∃ (x5_4 : List ByteArray) (x42_4 : Int), v42 = .int .i64 x42_4 ∧ Aside0 (impl_Forms.l2 kq l0 x5_4 (rdOf false y475 x28_2) (rdOf ByteArray.empty y485 x36_3) y475 (y475.length : Int) x28_2 y485 (y485.length : Int) x36_3 l0 (l0.length : Int) x42_4 a1_0 a1_1 = some r) ∧ Aside0 (kq ≤ k3) ∧ Aside0 (Kd.R Kd.string 9 w' w.heap.size (fun k_ => some k_ ≠ ((.slice (some ad488) y485.length co29) : Value).ownBlock) v5 x5_4) ∧ Aside0 (Kd.R Kd.bool 4 w' w.heap.size (fun _ => True) (.slice (some ad481) y475.length co20) y475) ∧ Aside0 (Kd.R Kd.string 9 w' w.heap.size (fun k_ => some k_ ≠ (v5 : Value).ownBlock) (.slice (some ad488) y485.length co29) y485) ∧ Aside0 (w'.heap[gb466]? = some (.cells #[.string a1_0, .string a1_1] 51 (0, 0))) ∧ Aside0 (Below w.heap.size w w'))
         case atStart => exact ⟨(x5_3), (0), sq, H', ⟨Nat.le_refl _⟩, ⟨rq HO_5.out⟩, ⟨rq HO_26.out⟩, ⟨rq HO_34.out⟩, ⟨bq BK466.out⟩, ⟨bel1 GE466.out⟩⟩
         case round =>
          clear H'; clear c30b0 c31b0 c32b0 hx488_0 p488 q488; obtain ⟨x5_4, x42_4, rfl, HA, HK4, HO_5, HO_26, HO_34, BK466, HB⟩ := hrel
          cases gk with
          | zero => exact absurd HA.out (by simp [impl_Forms.l2])
          | succ k4 =>
           have H := HA.out; clear HA; simp only [impl_Forms.l2] at H
           by_cases c33 : x42_4 < (l0.length : Int)
           ·rw [if_pos c33] at H; have c33b0 := decide_eq_true c33; clear c33
            replace H := it H; obtain ⟨c34b0, H⟩ := H; replace H := it H; obtain ⟨c35b0, H⟩ := H; have HC36 := am H; clear H
            have p489 : 0 ≤ (x42_4 : Int) := of_decide_eq_true ad
            have q489 : x42_4 < (l0.length : Int) := of_decide_eq_true ad
            obtain ⟨ad489, e489, hx489_0, hx489_1, hx489_2, hx489_3, hx489_4⟩ := at_T59 HR0.out x42_4 p489 q489; cases e489; replace hx489_0 := kp HB.out hx489_0; replace hx489_1 := kp HB.out hx489_1; replace hx489_2 := kp HB.out hx489_2; replace hx489_3 := kp HB.out hx489_3; replace hx489_4 := kp HB.out hx489_4; replace p489 := eq_true p489; replace q489 := eq_true q489
            go_upto_region 13 with ((with_reducible refine gate_dst (N := 11) rfl ?_); refine bx 11 (cs := #[.string (⟨#[]⟩ : ByteArray), .bool false, .string (⟨#[]⟩ : ByteArray), .string (⟨#[]⟩ : ByteArray), .string (⟨#[]⟩ : ByteArray)]) (t := 59) ?_; intro gb490 hg w37 hbox hb; replace HO_5 := am (Kd.R_below (rq HO_5.out) hb); replace HO_26 := am (Kd.R_below (rq HO_26.out) hb); replace HO_34 := am (Kd.R_below (rq HO_34.out) hb); have BK490 := am (hbox); have GW490 := am ((by rw [hg]; exact (below_size (bel1 GE466.out)) : w.heap.size ≤ gb490)); have GE490 := am ((by rw [hg]; exact (below_size (bel1 GE466.out)) : w.heap.size ≤ gb490)); replace HB := am (below_step (bel1 GE466.out) hb); have NB466_490 := am ((by rw [hg]; exact Nat.ne_of_lt (blk_lt (g := gb466) (o := .cells #[.string a1_0, .string a1_1] 51 (0, 0)) (bq BK466.out)) : gb466 ≠ gb490)); have NB490_466 := am ((by rw [hg]; exact Nat.ne_of_gt (blk_lt (g := gb466) (o := .cells #[.string a1_0, .string a1_1] 51 (0, 0)) (bq BK466.out)) : gb490 ≠ gb466)); replace BK466 := am (blk_below (bq BK466.out) hb); clear hb hbox hg; have hnb38 := NB490_466.out; have hnc38 := NB466_490.out; have ⟨hcz39_0, hcz39_1, hcz39_2, hcz39_3, hcz39_4, hfz39_0, hfz39_1, hfz39_2, hfz39_3, hfz39_4⟩ := b5c BK490.out)
            go_cut [57] (fun v57 wc => ∃ (kq : Nat) (x57_35 : Bool), v57 = .bool x57_35 ∧ Aside0 (impl_Forms.j4 kq l0 x5_4 (rdOf false y475 x28_2) (rdOf ByteArray.empty y485 x36_3) y475 (y475.length : Int) x28_2 y485 (y485.length : Int) x36_3 l0 (l0.length : Int) x42_4 x57_35 a1_0 a1_1 ((rd_T59 l0 x42_4).f0) ((rd_T59 l0 x42_4).f1) ((rd_T59 l0 x42_4).f2) ((rd_T59 l0 x42_4).f3) ((rd_T59 l0 x42_4).f4) = some r) ∧ Aside0 (kq ≤ k4) ∧ Aside0 (Kd.R Kd.string 9 wc w.heap.size (fun k_ => some k_ ≠ ((.slice (some ad488) y485.length co29) : Value).ownBlock) u5 x5_4) ∧ Aside0 (Kd.R Kd.bool 4 wc w.heap.size (fun _ => True) (.slice (some ad481) y475.length co20) y475) ∧ Aside0 (Kd.R Kd.string 9 wc w.heap.size (fun k_ => some k_ ≠ (u5 : Value).ownBlock) (.slice (some ad488) y485.length co29) y485) ∧ Aside0 (wc.heap[gb466]? = some (.cells #[.string a1_0, .string a1_1] 51 (0, 0))) ∧ Aside0 (wc.heap[gb490]? = some (.cells #[.string ((rd_T59 l0 x42_4).f0), .bool ((rd_T59 l0 x42_4).f1), .string ((rd_T59 l0 x42_4).f2), .string ((rd_T59 l0 x42_4).f3), .string ((rd_T59 l0 x42_4).f4)] 59 (0, 0))) ∧ Aside0 (Below w.heap.size w wc))
            case first =>
             have H := HC36.out; clear HC36
             by_cases c40 : (((rd_T59 l0 x42_4).f1) != (rdOf false y475 x28_2)) = true
             ·rw [if_pos c40] at H
              have c40b0 : (((rd_T59 l0 x42_4).f1) != (rdOf false y475 x28_2)) = true := c40
              (have c40b1 : decide (((rd_T59 l0 x42_4).f1) = (rdOf false y475 x28_2)) = false := by simpa using c40)
              (have c40b2 : (((rd_T59 l0 x42_4).f1) == (rdOf false y475 x28_2)) = false := by simpa using c40)
              (have c40b3 : ¬ (((rd_T59 l0 x42_4).f1) = (rdOf false y475 x28_2)) := by simpa using c40)
              clear c40
              (skip)
              have H' := am H
              clear H; have hnb41 := NB490_466.out; have hnc41 := NB466_490.out; have ⟨hcz42_0, hcz42_1, hcz42_2, hcz42_3, hcz42_4, hfz42_0, hfz42_1, hfz42_2, hfz42_3, hfz42_4⟩ := b5c BK490.out; go_wp2
              go_meet
              case rel => exact ⟨_, (true), sq, H', ⟨by have := HJ2.out; have := HK2.out; have := HK3.out; have := HK4.out; omega⟩, ⟨rq (Kd.R_mono (Kd.R_far (p := ⟨gb490, 4, none⟩) (Kd.R_far (p := ⟨gb490, 3, none⟩) (Kd.R_far (p := ⟨gb490, 2, none⟩) (Kd.R_far (p := ⟨gb490, 1, none⟩) (Kd.R_far (p := ⟨gb490, 0, none⟩) (Kd.R_types HO_5.out BK490.out (by decide)) (fun _ hk => hk.2) (.string ((rd_T59 l0 x42_4).f0))) (fun _ hk => hk.2) (.bool ((rd_T59 l0 x42_4).f1))) (fun _ hk => hk.2) (.string ((rd_T59 l0 x42_4).f2))) (fun _ hk => hk.2) (.string ((rd_T59 l0 x42_4).f3))) (fun _ hk => hk.2) (.string ((rd_T59 l0 x42_4).f4))) (fun _ hk => hk.1))⟩, ⟨rq (Kd.R_mono (Kd.R_far (p := ⟨gb490, 4, none⟩) (Kd.R_far (p := ⟨gb490, 3, none⟩) (Kd.R_far (p := ⟨gb490, 2, none⟩) (Kd.R_far (p := ⟨gb490, 1, none⟩) (Kd.R_far (p := ⟨gb490, 0, none⟩) (Kd.R_types HO_26.out BK490.out (by decide)) (fun _ hk => hk.2) (.string ((rd_T59 l0 x42_4).f0))) (fun _ hk => hk.2) (.bool ((rd_T59 l0 x42_4).f1))) (fun _ hk => hk.2) (.string ((rd_T59 l0 x42_4).f2))) (fun _ hk => hk.2) (.string ((rd_T59 l0 x42_4).f3))) (fun _ hk => hk.2) (.string ((rd_T59 l0 x42_4).f4))) (fun _ hk => trivial))⟩, ⟨rq (Kd.R_mono (Kd.R_far (p := ⟨gb490, 4, none⟩) (Kd.R_far (p := ⟨gb490, 3, none⟩) (Kd.R_far (p := ⟨gb490, 2, none⟩) (Kd.R_far (p := ⟨gb490, 1, none⟩) (Kd.R_far (p := ⟨gb490, 0, none⟩) (Kd.R_types HO_34.out BK490.out (by decide)) (fun _ hk => hk.2) (.string ((rd_T59 l0 x42_4).f0))) (fun _ hk => hk.2) (.bool ((rd_T59 l0 x42_4).f1))) (fun _ hk => hk.2) (.string ((rd_T59 l0 x42_4).f2))) (fun _ hk => hk.2) (.string ((rd_T59 l0 x42_4).f3))) (fun _ hk => hk.2) (.string ((rd_T59 l0 x42_4).f4))) (fun _ hk => hk.1))⟩, ⟨b38_⟩, ⟨b20_⟩, ⟨bel2 GE466.out GE490.out⟩⟩
             rw [if_neg c40] at H
             have c40b0 : (((rd_T59 l0 x42_4).f1) != (rdOf false y475 x28_2)) = false := by simpa using c40
             (have c40b1 : decide (((rd_T59 l0 x42_4).f1) = (rdOf false y475 x28_2)) = true := by simpa using c40)
             (have c40b2 : (((rd_T59 l0 x42_4).f1) == (rdOf false y475 x28_2)) = true := by simpa using c40)
             clear c40
             (skip)
             replace H := bs H; obtain ⟨t491, A430, H⟩ := H; have A43 := Aside0.mk A430; clear A430
             have H' := am H
             clear H; have hnb44 := NB490_466.out; have hnc44 := NB466_490.out; have ⟨hcz45_0, hcz45_1, hcz45_2, hcz45_3, hcz45_4, hfz45_0, hfz45_1, hfz45_2, hfz45_3, hfz45_4⟩ := b5c BK490.out; have ⟨hcz46_0, hcz46_1, hfz46_0, hfz46_1⟩ := b2c BK466.out
             go_wp2_with (go_at_call 64; (with_reducible refine (strings_Contains.calls a1_1 ((rd_T59 l0 x42_4).f0) t491 _ A43.out).mono ?_); rintro e w' ⟨rfl, ⟨nd, rfl⟩⟩)
             go_meet
             case rel => exact ⟨_, (!t491), sq, H', ⟨by have := HJ2.out; have := HK2.out; have := HK3.out; have := HK4.out; omega⟩, ⟨rq (Kd.R_mono (Kd.R_far (p := ⟨gb490, 4, none⟩) (Kd.R_far (p := ⟨gb490, 3, none⟩) (Kd.R_far (p := ⟨gb490, 2, none⟩) (Kd.R_far (p := ⟨gb490, 1, none⟩) (Kd.R_far (p := ⟨gb490, 0, none⟩) (Kd.R_types HO_5.out BK490.out (by decide)) (fun _ hk => hk.2) (.string ((rd_T59 l0 x42_4).f0))) (fun _ hk => hk.2) (.bool ((rd_T59 l0 x42_4).f1))) (fun _ hk => hk.2) (.string ((rd_T59 l0 x42_4).f2))) (fun _ hk => hk.2) (.string ((rd_T59 l0 x42_4).f3))) (fun _ hk => hk.2) (.string ((rd_T59 l0 x42_4).f4))) (fun _ hk => hk.1))⟩, ⟨rq (Kd.R_mono (Kd.R_far (p := ⟨gb490, 4, none⟩) (Kd.R_far (p := ⟨gb490, 3, none⟩) (Kd.R_far (p := ⟨gb490, 2, none⟩) (Kd.R_far (p := ⟨gb490, 1, none⟩) (Kd.R_far (p := ⟨gb490, 0, none⟩) (Kd.R_types HO_26.out BK490.out (by decide)) (fun _ hk => hk.2) (.string ((rd_T59 l0 x42_4).f0))) (fun _ hk => hk.2) (.bool ((rd_T59 l0 x42_4).f1))) (fun _ hk => hk.2) (.string ((rd_T59 l0 x42_4).f2))) (fun _ hk => hk.2) (.string ((rd_T59 l0 x42_4).f3))) (fun _ hk => hk.2) (.string ((rd_T59 l0 x42_4).f4))) (fun _ hk => trivial))⟩, ⟨rq (Kd.R_mono (Kd.R_far (p := ⟨gb490, 4, none⟩) (Kd.R_far (p := ⟨gb490, 3, none⟩) (Kd.R_far (p := ⟨gb490, 2, none⟩) (Kd.R_far (p := ⟨gb490, 1, none⟩) (Kd.R_far (p := ⟨gb490, 0, none⟩) (Kd.R_types HO_34.out BK490.out (by decide)) (fun _ hk => hk.2) (.string ((rd_T59 l0 x42_4).f0))) (fun _ hk => hk.2) (.bool ((rd_T59 l0 x42_4).f1))) (fun _ hk => hk.2) (.string ((rd_T59 l0 x42_4).f2))) (fun _ hk => hk.2) (.string ((rd_T59 l0 x42_4).f3))) (fun _ hk => hk.2) (.string ((rd_T59 l0 x42_4).f4))) (fun _ hk => hk.1))⟩, ⟨b38_⟩, ⟨b20_⟩, ⟨bel2 GE466.out GE490.out⟩⟩
            case rest =>
             clear HC36; clear c33b0 c34b0 c35b0 hcz39_0 hcz39_1 hcz39_2 hcz39_3 hcz39_4 hfz39_0 hfz39_1 hfz39_2 hfz39_3 hfz39_4 hx489_0 hx489_1 hx489_2 hx489_3 hx489_4 p489 q489; obtain ⟨kq, x57_35, rfl, HA, HJ35, HO_5, HO_26, HO_34, BK466, BK490, HB⟩ := hcut
             cases kq with
             | zero => exact absurd HA.out (by simp [impl_Forms.j4])
             | succ kj35 =>
              have H := HA.out; clear HA; simp only [impl_Forms.j4] at H
              by_cases c47 : x57_35 = true
              ·subst c47
               have H1 : (impl_Forms.l2 kj35 l0 x5_4 (rdOf false y475 x28_2) (rdOf ByteArray.empty y485 x36_3) y475 (y475.length : Int) x28_2 y485 (y485.length : Int) x36_3 l0 (l0.length : Int) (wrap64 (x42_4 + 1)) a1_0 a1_1) = some r := b26_
               replace H := H1; clear H1
               have H' := am H
               clear H; go_wp2
               go_roundg kj35
               case measure => have := HJ2.out; have := HK2.out; have := HK3.out; have := HK4.out; have := HJ35.out; omega
               case rel => exact ⟨(x5_4), (wrap64 (x42_4 + 1)), sq, H', ⟨by have := HJ2.out; have := HK2.out; have := HK3.out; have := HK4.out; have := HJ35.out; omega⟩, ⟨rq HO_5.out⟩, ⟨rq HO_26.out⟩, ⟨rq HO_34.out⟩, ⟨bq BK466.out⟩, ⟨bel2 GE466.out GE490.out⟩⟩
              replace c47 := Bool.eq_false_iff.mpr c47; subst c47
              have H1 : (if (rdOf false y475 x28_2) = true then (impl_Forms.j5 kj35 l0 x5_4 (rdOf false y475 x28_2) (rdOf ByteArray.empty y485 x36_3) y475 (y475.length : Int) x28_2 y485 (y485.length : Int) x36_3 l0 (l0.length : Int) x42_4 true a1_0 a1_1 ((rd_T59 l0 x42_4).f0) ((rd_T59 l0 x42_4).f1) ((rd_T59 l0 x42_4).f2) ((rd_T59 l0 x42_4).f3) ((rd_T59 l0 x42_4).f4)) else (impl_Forms.j5 kj35 l0 x5_4 (rdOf false y475 x28_2) (rdOf ByteArray.empty y485 x36_3) y475 (y475.length : Int) x28_2 y485 (y485.length : Int) x36_3 l0 (l0.length : Int) x42_4 ((rdOf ByteArray.empty y485 x36_3).toList == a1_0.toList) a1_0 a1_1 ((rd_T59 l0 x42_4).f0) ((rd_T59 l0 x42_4).f1) ((rd_T59 l0 x42_4).f2) ((rd_T59 l0 x42_4).f3) ((rd_T59 l0 x42_4).f4))) = some r := b10_
              replace H := H1; clear H1; have HC48 := am H; clear H
              go_upto_region 14 with (fail)
              go_cut [64] (fun v64 wc => ∃ (kq : Nat) (x64_47 : Bool), v64 = .bool x64_47 ∧ Aside0 (impl_Forms.j5 kq l0 x5_4 (rdOf false y475 x28_2) (rdOf ByteArray.empty y485 x36_3) y475 (y475.length : Int) x28_2 y485 (y485.length : Int) x36_3 l0 (l0.length : Int) x42_4 x64_47 a1_0 a1_1 ((rd_T59 l0 x42_4).f0) ((rd_T59 l0 x42_4).f1) ((rd_T59 l0 x42_4).f2) ((rd_T59 l0 x42_4).f3) ((rd_T59 l0 x42_4).f4) = some r) ∧ Aside0 (kq ≤ kj35) ∧ Aside0 (Kd.R Kd.string 9 wc w.heap.size (fun k_ => some k_ ≠ ((.slice (some ad488) y485.length co29) : Value).ownBlock) u5 x5_4) ∧ Aside0 (Kd.R Kd.bool 4 wc w.heap.size (fun _ => True) (.slice (some ad481) y475.length co20) y475) ∧ Aside0 (Kd.R Kd.string 9 wc w.heap.size (fun k_ => some k_ ≠ (u5 : Value).ownBlock) (.slice (some ad488) y485.length co29) y485) ∧ Aside0 (wc.heap[gb466]? = some (.cells #[.string a1_0, .string a1_1] 51 (0, 0))) ∧ Aside0 (wc.heap[gb490]? = some (.cells #[.string ((rd_T59 l0 x42_4).f0), .bool ((rd_T59 l0 x42_4).f1), .string ((rd_T59 l0 x42_4).f2), .string ((rd_T59 l0 x42_4).f3), .string ((rd_T59 l0 x42_4).f4)] 59 (0, 0))) ∧ Aside0 (Below w.heap.size w wc))
              case first =>
               have H := HC48.out; clear HC48; obtain ⟨bq49, hbq49⟩ : ∃ b_ : Bool, b_ = (rdOf false y475 x28_2) := ⟨_, rfl⟩
               replace H : (if (bq49) = true then (impl_Forms.j5 kj35 l0 x5_4 (bq49) (rdOf ByteArray.empty y485 x36_3) y475 (y475.length : Int) x28_2 y485 (y485.length : Int) x36_3 l0 (l0.length : Int) x42_4 true a1_0 a1_1 ((rd_T59 l0 x42_4).f0) ((rd_T59 l0 x42_4).f1) ((rd_T59 l0 x42_4).f2) ((rd_T59 l0 x42_4).f3) ((rd_T59 l0 x42_4).f4)) else (impl_Forms.j5 kj35 l0 x5_4 (bq49) (rdOf ByteArray.empty y485 x36_3) y475 (y475.length : Int) x28_2 y485 (y485.length : Int) x36_3 l0 (l0.length : Int) x42_4 ((rdOf ByteArray.empty y485 x36_3).toList == a1_0.toList) a1_0 a1_1 ((rd_T59 l0 x42_4).f0) ((rd_T59 l0 x42_4).f1) ((rd_T59 l0 x42_4).f2) ((rd_T59 l0 x42_4).f3) ((rd_T59 l0 x42_4).f4))) = some r := by rw [← hbq49] at H; exact H
               have Nbq49 := am hbq49; clear hbq49
               rw [← Nbq49.out]
               by_cases c50 : (bq49) = true
               ·rw [if_pos c50] at H
                have c50b0 : (bq49) = true := c50
                have e7_ : rdOf false y475 x28_2 = true := Nbq49.out.symm.trans c50b0
                subst c50b0
                simp only [e7_] at *
                clear c50
                have H' := am H
                clear H; go_wp2
                go_meet
                case rel => exact ⟨_, (true), sq, H', ⟨by have := HJ2.out; have := HK2.out; have := HK3.out; have := HK4.out; have := HJ35.out; omega⟩, ⟨rq HO_5.out⟩, ⟨rq HO_26.out⟩, ⟨rq HO_34.out⟩, ⟨bq BK466.out⟩, ⟨bq BK490.out⟩, ⟨bel2 GE466.out GE490.out⟩⟩
               rw [if_neg c50] at H
               have c50b0 : (bq49) = false := by simpa using c50
               have e7_ : rdOf false y475 x28_2 = false := Nbq49.out.symm.trans c50b0
               subst c50b0
               simp only [e7_] at *
               clear c50
               have H' := am H
               clear H; have hnb51 := NB466_490.out; have hnc51 := NB490_466.out; have ⟨hcz52_0, hcz52_1, hfz52_0, hfz52_1⟩ := b2c BK466.out; go_wp2
               go_meet
               case rel => exact ⟨_, (((rdOf ByteArray.empty y485 x36_3).toList == a1_0.toList)), sq, H', ⟨by have := HJ2.out; have := HK2.out; have := HK3.out; have := HK4.out; have := HJ35.out; omega⟩, ⟨rq HO_5.out⟩, ⟨rq HO_26.out⟩, ⟨rq HO_34.out⟩, ⟨bq BK466.out⟩, ⟨bq BK490.out⟩, ⟨bel2 GE466.out GE490.out⟩⟩
              case rest =>
               clear HC48; obtain ⟨kq, x64_47, rfl, HA, HJ47, HO_5, HO_26, HO_34, BK466, BK490, HB⟩ := hcut
               cases kq with
               | zero => exact absurd HA.out (by simp [impl_Forms.j5])
               | succ kj47 =>
                have H := HA.out; clear HA; simp only [impl_Forms.j5] at H
                by_cases c53 : x64_47 = true
                ·subst c53
                 have H1 : ((impl_AffixDo.f kj47 ((rd_T59 l0 x42_4).f0) ((rd_T59 l0 x42_4).f1) ((rd_T59 l0 x42_4).f2) ((rd_T59 l0 x42_4).f3) ((rd_T59 l0 x42_4).f4) (rdOf ByteArray.empty y485 x36_3)).bind fun bt492 => (if bt492.2 = true then (if x5_4.length < 8796093022208 then (impl_Forms.l2 kj47 l0 (x5_4 ++ [bt492.1]) (rdOf false y475 x28_2) (rdOf ByteArray.empty y485 x36_3) y475 (y475.length : Int) x28_2 y485 (y485.length : Int) x36_3 l0 (l0.length : Int) (wrap64 (x42_4 + 1)) a1_0 a1_1) else (none)) else (impl_Forms.l2 kj47 l0 x5_4 (rdOf false y475 x28_2) (rdOf ByteArray.empty y485 x36_3) y475 (y475.length : Int) x28_2 y485 (y485.length : Int) x36_3 l0 (l0.length : Int) (wrap64 (x42_4 + 1)) a1_0 a1_1))) = some r := b26_
                 replace H := H1; clear H1; replace H := bs H; obtain ⟨⟨t492, t493⟩, A540, H⟩ := H; dsimp only at H; have A54 := Aside0.mk A540; clear A540
                 by_cases c55 : t493 = true
                 ·subst c55
                  have H1 : (if x5_4.length < 8796093022208 then (impl_Forms.l2 kj47 l0 (x5_4 ++ [t492]) (rdOf false y475 x28_2) (rdOf ByteArray.empty y485 x36_3) y475 (y475.length : Int) x28_2 y485 (y485.length : Int) x36_3 l0 (l0.length : Int) (wrap64 (x42_4 + 1)) a1_0 a1_1) else (none)) = some r := b26_
                  replace H := H1; clear H1
                  replace H := ip H; obtain ⟨c56, H⟩ := H; have LMc56 := Aside0.mk c56; clear c56; obtain ⟨y494, hy494⟩ : ∃ y_ : List ByteArray, y_ = (x5_4 ++ [t492]) := ⟨_, rfl⟩
                  rw [← hy494] at H
                  have Ny494 := am hy494; clear hy494
                  have H' := am H
                  clear H; have hnb57 := NB490_466.out; have hnc57 := NB466_490.out; have ⟨hcz58_0, hcz58_1, hcz58_2, hcz58_3, hcz58_4, hfz58_0, hfz58_1, hfz58_2, hfz58_3, hfz58_4⟩ := b5c BK490.out
                  go_wp2_with (first | ((with_reducible refine gate_callee (f := 65) rfl ?_); refine gl 68 Tryz.func65 #[.agg #[.string ((rd_T59 l0 x42_4).f0), .bool ((rd_T59 l0 x42_4).f1), .string ((rd_T59 l0 x42_4).f2), .string ((rd_T59 l0 x42_4).f3), .string ((rd_T59 l0 x42_4).f4)], .string (rdOf ByteArray.empty y485 x36_3)] ?_; (with_reducible refine (impl_AffixDo.calls kj47 ((rd_T59 l0 x42_4).f0) ((rd_T59 l0 x42_4).f1) ((rd_T59 l0 x42_4).f2) ((rd_T59 l0 x42_4).f3) ((rd_T59 l0 x42_4).f4) (rdOf ByteArray.empty y485 x36_3) t492 true _ A54.out).mono ?_); rintro e w59 ⟨rfl, hb⟩; refine ⟨_, rfl, ?_⟩; replace HO_5 := am (Kd.R_below (rq HO_5.out) hb); replace HO_26 := am (Kd.R_below (rq HO_26.out) hb); replace HO_34 := am (Kd.R_below (rq HO_34.out) hb); replace BK466 := am (blk_below (bq BK466.out) hb); replace BK490 := am (blk_below (bq BK490.out) hb); replace HB := am (below_step (bel2 GE466.out GE490.out) hb); clear hb) | ((with_reducible refine gate_builtin (b := .append) (xs := #[.tmp 72, .tmp 74]) rfl ?_); at_builtin; refine Kd.R_append Kd.string (w0 := w) w.heap.size rfl (.tmp 72) (.tmp 74) 34 9 (.string ⟨#[]⟩) 16 rfl Tryz.underlying34 info9 rfl (by decide) (by omega) u5 x5_4 t492 [.string t492] (fun k_ => some k_ ≠ (.slice (some ad488) y485.length co29 : Value).ownBlock) (fun _ => False) rfl rfl ?aP (fun _ hk => hk.elim) ?aF ?aO ?aB ?aS ?aL ?_; (case aP => exact rfl); (case aB => exact (bel2 GE466.out GE490.out)); (case aF => exact (fun k_ hk => Kd.fresh' (Kd.R_lt (rq HO_34.out)) k_ hk)); (case aO => exact (rq HO_5.out)); (case aS => exact (below_size (bel2 GE466.out GE490.out))); (case aL => have := LMc56.out; omega); intro v495 w60 ho hb hg hat; rw [← Ny494.out] at ho; replace HO_26 := am (Kd.R_over' (rq HO_26.out) (Kd.R_typed (rq HO_5.out)) (by decide) hg); replace HO_34 := am (Kd.R_after (ok := (fun _ => True)) (rq (Kd.R_mono HO_34.out (fun _ hk => ⟨trivial, hk⟩))) hg hat); replace BK466 := am (blk_grown (g := gb466) (o := .cells #[.string a1_0, .string a1_1] 51 (0, 0)) (bq BK466.out) hg (Kd.R_ne HO_5.out BK466.out (by decide))); replace BK490 := am (blk_grown (g := gb490) (o := .cells #[.string ((rd_T59 l0 x42_4).f0), .bool ((rd_T59 l0 x42_4).f1), .string ((rd_T59 l0 x42_4).f2), .string ((rd_T59 l0 x42_4).f3), .string ((rd_T59 l0 x42_4).f4)] 59 (0, 0)) (bq BK490.out) hg (Kd.R_ne HO_5.out BK490.out (by decide))); replace HB := am (hb); have HO496 := am (ho); clear HO_5; clear ho hb hg hat))
                  go_roundg kj47
                  case measure => have := HJ2.out; have := HK2.out; have := HK3.out; have := HK4.out; have := HJ35.out; have := HJ47.out; omega
                  case rel => exact ⟨(y494), (wrap64 (x42_4 + 1)), sq, H', ⟨b99_⟩, ⟨rq HO496.out⟩, ⟨rq HO_26.out⟩, ⟨rq (Kd.R_mono HO_34.out (fun _ hk => hk.2))⟩, ⟨bq BK466.out⟩, ⟨bel2 GE466.out GE490.out⟩⟩
                 replace c55 := Bool.eq_false_iff.mpr c55; subst c55
                 have H1 : (impl_Forms.l2 kj47 l0 x5_4 (rdOf false y475 x28_2) (rdOf ByteArray.empty y485 x36_3) y475 (y475.length : Int) x28_2 y485 (y485.length : Int) x36_3 l0 (l0.length : Int) (wrap64 (x42_4 + 1)) a1_0 a1_1) = some r := b10_
                 replace H := H1; clear H1
                 have H' := am H
                 clear H; have hnb61 := NB490_466.out; have hnc61 := NB466_490.out; have ⟨hcz62_0, hcz62_1, hcz62_2, hcz62_3, hcz62_4, hfz62_0, hfz62_1, hfz62_2, hfz62_3, hfz62_4⟩ := b5c BK490.out
                 go_wp2_with ((with_reducible refine gate_callee (f := 65) rfl ?_); refine gl 68 Tryz.func65 #[.agg #[.string ((rd_T59 l0 x42_4).f0), .bool ((rd_T59 l0 x42_4).f1), .string ((rd_T59 l0 x42_4).f2), .string ((rd_T59 l0 x42_4).f3), .string ((rd_T59 l0 x42_4).f4)], .string (rdOf ByteArray.empty y485 x36_3)] ?_; (with_reducible refine (impl_AffixDo.calls kj47 ((rd_T59 l0 x42_4).f0) ((rd_T59 l0 x42_4).f1) ((rd_T59 l0 x42_4).f2) ((rd_T59 l0 x42_4).f3) ((rd_T59 l0 x42_4).f4) (rdOf ByteArray.empty y485 x36_3) t492 false _ A54.out).mono ?_); rintro e w63 ⟨rfl, hb⟩; refine ⟨_, rfl, ?_⟩; replace HO_5 := am (Kd.R_below (rq HO_5.out) hb); replace HO_26 := am (Kd.R_below (rq HO_26.out) hb); replace HO_34 := am (Kd.R_below (rq HO_34.out) hb); replace BK466 := am (blk_below (bq BK466.out) hb); replace BK490 := am (blk_below (bq BK490.out) hb); replace HB := am (below_step (bel2 GE466.out GE490.out) hb); clear hb)
                 go_roundg kj47
                 case measure => have := HJ2.out; have := HK2.out; have := HK3.out; have := HK4.out; have := HJ35.out; have := HJ47.out; omega
                 case rel => exact ⟨(x5_4), (wrap64 (x42_4 + 1)), sq, H', ⟨b99_⟩, ⟨rq HO_5.out⟩, ⟨rq HO_26.out⟩, ⟨rq HO_34.out⟩, ⟨bq BK466.out⟩, ⟨bel2 GE466.out GE490.out⟩⟩
                replace c53 := Bool.eq_false_iff.mpr c53; subst c53
                have H1 : (impl_Forms.l2 kj47 l0 x5_4 (rdOf false y475 x28_2) (rdOf ByteArray.empty y485 x36_3) y475 (y475.length : Int) x28_2 y485 (y485.length : Int) x36_3 l0 (l0.length : Int) (wrap64 (x42_4 + 1)) a1_0 a1_1) = some r := b10_
                replace H := H1; clear H1
                have H' := am H
                clear H; go_wp2
                go_roundg kj47
                case measure => have := HJ2.out; have := HK2.out; have := HK3.out; have := HK4.out; have := HJ35.out; have := HJ47.out; omega
                case rel => exact ⟨(x5_4), (wrap64 (x42_4 + 1)), sq, H', ⟨b99_⟩, ⟨rq HO_5.out⟩, ⟨rq HO_26.out⟩, ⟨rq HO_34.out⟩, ⟨bq BK466.out⟩, ⟨bel2 GE466.out GE490.out⟩⟩
           rw [if_neg c33] at H; have c33b0 := decide_eq_false c33; clear c33
           have H' := am H
           clear H; go_wp2
           go_roundg k4
           case measure => have := HJ2.out; have := HK2.out; have := HK3.out; have := HK4.out; omega
           case rel => exact ⟨(x5_4), (wrap64 (x36_3 + 1)), sq, H', ⟨by have := HJ2.out; have := HK2.out; have := HK3.out; have := HK4.out; omega⟩, ⟨rq HO_5.out⟩, ⟨rq HO_26.out⟩, ⟨rq HO_34.out⟩, ⟨bq BK466.out⟩, ⟨bel1 GE466.out⟩⟩
        rw [if_neg c30] at H; have c30b0 := decide_eq_false c30; clear c30
        have H' := am H
        clear H; go_wp2
        go_roundg k3
        case measure => have := HJ2.out; have := HK2.out; have := HK3.out; omega
        case rel => exact ⟨(x5_3), (wrap64 (x28_2 + 1)), sq, H', ⟨by have := HJ2.out; have := HK2.out; have := HK3.out; omega⟩, ⟨rq (Kd.R_mono HO_5.out (fun _ hk => trivial))⟩, ⟨rq HO_26.out⟩, ⟨bq BK466.out⟩, ⟨bel1 GE466.out⟩⟩
     rw [if_neg c21] at H; have c21b0 := decide_eq_false c21; clear c21; replace H := bs H; obtain ⟨t478, A640, H⟩ := H; have A64 := Aside0.mk A640; clear A640; obtain rfl := Option.some.inj H; obtain ⟨Ao65, co65, eo65⟩ := Kd.R_slice HO_5.out; subst eo65
     go_wp2_with ((with_reducible refine gate_callee (f := 42) rfl ?_); refine gl 80 Tryz.func42 #[.slice Ao65 x5_2.length co65] ?_; (with_reducible refine (impl_sorted.calls _ _ x5_2 t478 _ ?side1 ?side2 A64.out).mono ?_); (case side1 => exact cq (Kd.R_reads' HO_5.out).2.2); (case side2 => exact (Kd.R_reads' HO_5.out).2.1); rintro e w66 ⟨v479, rfl, ho0, hb⟩; refine ⟨_, rfl, ?_⟩; replace HO_26 := am (Kd.R_below (rq HO_26.out) hb); have HO480 := am (Kd.R_lower (Kd.R_new' ho0 (Kd.R_lt (rq HO_5.out))) (below_size (bel1 GE466.out))); replace HO_5 := am (Kd.R_elder' (rq HO_5.out) (Kd.R_base ho0) hb); replace BK466 := am (blk_below (bq BK466.out) hb); replace HB := am (below_step (bel1 GE466.out) hb); clear hb; clear ho0)
     go_ret
     exact ⟨_, eq_, by (with_reducible repeat (fail)); exact Kd.R_mono HO480.out (fun _ hk => trivial), bel1 GE466.out⟩
-- shrunk

/-! ### impl_Book_words: function 20 -/
def impl_Book_words.l0 : Nat → List ByteArray → List (S51) → Int → Int → List (S59) → List (S51) → Option (List ByteArray)
 | 0, _, _, _, _, _, _ => none
 | k + 1, x3, x8, x9, x10, x498000, x498001 => if x10 < x9 then (if 0 ≤ x10 then (if x10 < (x8.length : Int) then ((impl_Forms.f k x498000 ((rd_T51 x8 x10).f0) ((rd_T51 x8 x10).f1)).bind fun t503 => (if x3.length + t503.length < 8796093022208 then (impl_Book_words.l0 k (x3 ++ t503) x8 x9 (wrap64 (x10 + 1)) x498000 x498001) else (none))) else (none)) else (none)) else ((impl_sorted.f x3).bind fun t509 => (some t509))
def impl_Book_words.f (k : Nat) (l0_0 : List (S59)) (l0_1 : List (S51)) : Option (List ByteArray) := impl_Book_words.l0 k (([] : List ByteArray)) l0_1 (l0_1.length : Int) 0 l0_0 l0_1
theorem impl_Book_words.calls (k : Nat) (A0_0 : Option Addr) (c0_0 : Nat) (l0_0 : List (S59)) (A0_1 : Option Addr) (c0_1 : Nat) (l0_1 : List (S51)) (r : List ByteArray) (w : World) (hr0_0 : Kd.C k59 w A0_0 l0_0.length l0_0) (hc0_0 : l0_0.length ≤ c0_0) (hr0_1 : Kd.C k51 w A0_1 l0_1.length l0_1) (hc0_1 : l0_1.length ≤ c0_1) (h : impl_Book_words.f k l0_0 l0_1 = some r) :
  Calls Tryz.prog 20 #[.agg #[.slice A0_0 l0_0.length c0_0, .slice A0_1 l0_1.length c0_1]] w fun e w' => ∃ v0_ : Value, e = .returned (v0_) ∧ Kd.R Kd.string 9 w' w.heap.size (fun _ => True) v0_ r ∧ Below w.heap.size w w' := by
 have hu26 := Tryz.underlying26; have hu51 := Tryz.underlying51; have HR0_0 := am hr0_0; have HC0_0 := am hc0_0; clear hr0_0 hc0_0; have HR0_1 := am hr0_1; have HC0_1 := am hc0_1; clear hr0_1 hc0_1; have HB := am (Below.refl w.heap.size w)
 have H := h; unfold impl_Book_words.f at H
 clear h; obtain ⟨y498, hy498⟩ : ∃ y_ : List ByteArray, y_ = (([] : List ByteArray)) := ⟨_, rfl⟩
 rw [← hy498] at H
 have Ny498 := am hy498; clear hy498
 have H' := am H
 clear H; go_enter Tryz.func20, Tryz.ntmps20
 go_wp2_with (first | ((with_reducible refine gate_dst (N := 1) rfl ?_); refine bx 1 (cs := #[.slice A0_0 l0_0.length c0_0, .slice A0_1 l0_1.length c0_1]) (t := 26) ?_; intro gb497 hg w2 hbox hb; have BK497 := am (hbox); have GW497 := am ((b15_ : w.heap.size ≤ gb497)); have GE497 := am ((b15_ : w.heap.size ≤ gb497)); replace HB := am (below_step bel hb); clear hb hbox hg) | ((with_reducible refine gate_dst (N := 6) rfl ?_); refine Kd.R_lit Kd.string _ 9 ?hg (N := 6) ?hd (xs := ([] : List ByteArray)) (inner := []) (ok := fun _ => True) (okp := fun _ => True) ?hr ?hp (fun _ hk => hk) trivial (Below.refl _ _) (Nat.le_refl _) (by simp) ?_; (case hd => rfl); (case hg => rfl); (case hr => (go_simp; done)); (case hp => exact (Reps.none _ _)); intro v499 w3 ho4 hb hg_ hnew_; clear hg_ hnew_; (rw [← Ny498.out] at ho4); have HO500 := am (Kd.R_lower ho4 (below_size (bel1 GE497.out))); replace BK497 := am (blk_below (bq BK497.out) hb); replace HB := am (below_step (bel1 GE497.out) hb); clear hb ho4; have ⟨hcz5_0, hcz5_1, hfz5_0, hfz5_1⟩ := b2c BK497.out))
 go_loopg [3, 10] k (fun kq v3 v10 w' => ∃ (x3_1 : List ByteArray) (x10_1 : Int), v10 = .int .i64 x10_1 ∧ Aside0 (impl_Book_words.l0 kq x3_1 l0_1 (l0_1.length : Int) x10_1 l0_0 l0_1 = some r) ∧ Aside0 (kq ≤ k) ∧ Aside0 (Kd.R Kd.string 9 w' w.heap.size (fun _ => True) v3 x3_1) ∧ Aside0 (w'.heap[gb497]? = some (.cells #[(.slice A0_0 l0_0.length c0_0), (.slice A0_1 l0_1.length c0_1)] 26 (0, 0))) ∧ Aside0 (Below w.heap.size w w'))
 case atStart => exact ⟨(y498), (0), sq, H', ⟨Nat.le_refl _⟩, ⟨rq HO500.out⟩, ⟨bq BK497.out⟩, ⟨bel1 GE497.out⟩⟩
 case round =>
  clear H'; clear hcz5_0 hcz5_1 hfz5_0 hfz5_1; obtain ⟨x3_1, x10_1, rfl, HA, HK1, HO_3, BK497, HB⟩ := hrel
  cases gk with
  | zero => exact absurd HA.out (by simp [impl_Book_words.l0])
  | succ k1 =>
   have H := HA.out; clear HA; simp only [impl_Book_words.l0] at H
   by_cases c6 : x10_1 < (l0_1.length : Int)
   ·rw [if_pos c6] at H; have c6b0 := decide_eq_true c6; clear c6
    replace H := it H; obtain ⟨c7b0, H⟩ := H
    replace H := it H; obtain ⟨c8b0, H⟩ := H; replace H := bs H; obtain ⟨t503, A90, H⟩ := H; have A9 := Aside0.mk A90; clear A90
    replace H := ip H; obtain ⟨c10, H⟩ := H; have LMc10 := Aside0.mk c10; clear c10; obtain ⟨y506, hy506⟩ : ∃ y_ : List ByteArray, y_ = (x3_1 ++ t503) := ⟨_, rfl⟩
    rw [← hy506] at H
    have Ny506 := am hy506; clear hy506
    have H' := am H
    clear H
    have p501 : 0 ≤ (x10_1 : Int) := of_decide_eq_true ad
    have q501 : x10_1 < (l0_1.length : Int) := of_decide_eq_true ad
    obtain ⟨ad501, e501, hx501_0, hx501_1⟩ := at_T51 HR0_1.out x10_1 p501 q501; cases e501; replace hx501_0 := kp HB.out hx501_0; replace hx501_1 := kp HB.out hx501_1; replace p501 := eq_true p501; replace q501 := eq_true q501
    go_wp2_with (first | ((with_reducible refine gate_dst (N := 5) rfl ?_); refine bx 5 (cs := #[.string (⟨#[]⟩ : ByteArray), .string (⟨#[]⟩ : ByteArray)]) (t := 51) ?_; intro gb502 hg w11 hbox hb; replace HO_3 := am (Kd.R_below (rq HO_3.out) hb); have BK502 := am (hbox); have GW502 := am ((by rw [hg]; exact (below_size (bel1 GE497.out)) : w.heap.size ≤ gb502)); have GE502 := am ((by rw [hg]; exact (below_size (bel1 GE497.out)) : w.heap.size ≤ gb502)); replace HB := am (below_step (bel1 GE497.out) hb); have NB497_502 := am ((by rw [hg]; exact Nat.ne_of_lt (blk_lt (g := gb497) (o := .cells #[.slice A0_0 l0_0.length c0_0, .slice (some ad501) l0_1.length c0_1] 26 (0, 0)) (bq BK497.out)) : gb497 ≠ gb502)); have NB502_497 := am ((by rw [hg]; exact Nat.ne_of_gt (blk_lt (g := gb497) (o := .cells #[.slice A0_0 l0_0.length c0_0, .slice (some ad501) l0_1.length c0_1] 26 (0, 0)) (bq BK497.out)) : gb502 ≠ gb497)); replace BK497 := am (blk_below (bq BK497.out) hb); clear hb hbox hg; have hnb12 := NB502_497.out; have hnc12 := NB497_502.out; have ⟨hcz13_0, hcz13_1, hfz13_0, hfz13_1⟩ := b2c BK502.out; have ⟨hcz14_0, hcz14_1, hfz14_0, hfz14_1⟩ := b2c BK497.out) | ((with_reducible refine gate_callee (f := 41) rfl ?_); refine gl 18 Tryz.func41 #[.slice A0_0 l0_0.length c0_0, .agg #[.string ((rd_T51 l0_1 x10_1).f0), .string ((rd_T51 l0_1 x10_1).f1)]] ?_; (with_reducible refine (impl_Forms.calls k1 _ _ l0_0 ((rd_T51 l0_1 x10_1).f0) ((rd_T51 l0_1 x10_1).f1) t503 _ ?side1 ?side2 A9.out).mono ?_); (case side1 => exact Kd.C_below HR0_0.out (bel2 GE497.out GE502.out)); (case side2 => exact HC0_0.out); rintro e w15 ⟨v504, rfl, ho0, hb⟩; refine ⟨_, rfl, ?_⟩; have HO505 := am (Kd.R_lower (Kd.R_new' ho0 (Kd.R_lt (rq ((Kd.R_mono (Kd.R_far (p := ⟨gb502, 1, none⟩) (Kd.R_far (p := ⟨gb502, 0, none⟩) (Kd.R_types HO_3.out BK502.out (by decide)) (fun _ hk => hk.2) (.string ((rd_T51 l0_1 x10_1).f0))) (fun _ hk => hk.2) (.string ((rd_T51 l0_1 x10_1).f1))) (fun _ h_ => h_.1)))))) (below_size (bel2 GE497.out GE502.out))); replace HO_3 := am (Kd.R_elder' (rq ((Kd.R_mono (Kd.R_far (p := ⟨gb502, 1, none⟩) (Kd.R_far (p := ⟨gb502, 0, none⟩) (Kd.R_types HO_3.out BK502.out (by decide)) (fun _ hk => hk.2) (.string ((rd_T51 l0_1 x10_1).f0))) (fun _ hk => hk.2) (.string ((rd_T51 l0_1 x10_1).f1))) (fun _ h_ => h_.1)))) (Kd.R_base ho0) hb); replace BK497 := am (blk_below (g := gb497) (o := .cells #[.slice A0_0 l0_0.length c0_0, .slice (some ad501) l0_1.length c0_1] 26 (0, 0)) (by (with_reducible repeat (fail)); refine blk_far ?_ NB497_502.out _; (with_reducible repeat (fail)); refine blk_far ?_ NB497_502.out _; (with_reducible repeat (fail)); exact BK497.out) hb); replace BK502 := am (blk_below (g := gb502) (o := .cells #[.string ((rd_T51 l0_1 x10_1).f0), .string ((rd_T51 l0_1 x10_1).f1)] 51 (0, 0)) (by (with_reducible repeat (fail)); refine blk_put (cs := #[.string ((rd_T51 l0_1 x10_1).f0), .string (⟨#[]⟩ : ByteArray)]) ?_ 1 _ rfl; (with_reducible repeat (fail)); refine blk_put (cs := #[.string (⟨#[]⟩ : ByteArray), .string (⟨#[]⟩ : ByteArray)]) ?_ 0 _ rfl; (with_reducible repeat (fail)); exact BK502.out) hb); replace HB := am (below_step (bel2 GE497.out GE502.out) hb); clear hb; clear ho0; obtain ⟨Ao17, co17, eo17⟩ := Kd.R_slice HO505.out; subst eo17) | ((with_reducible refine gate_builtin (b := .append) (xs := #[.tmp 14, .tmp 18]) rfl ?_); at_builtin; refine Kd.R_append_rows Kd.string (w0 := w) w.heap.size rfl (.tmp 14) (.tmp 18) 34 9 (.string ⟨#[]⟩) 16 rfl Tryz.underlying34 info9 rfl (by decide) (by omega) u3 x3_1 t503 _ _ _ (fun k_ => some k_ ≠ (.slice Ao17 t503.length co17 : Value).ownBlock) (fun _ => False) rfl rfl ?aO ?aR (fun _ _ h => h) (fun _ h => h.elim) ?aF ?aB ?aS ?aL ?_; (case aR => exact cq (Kd.R_reads' HO505.out).2.2); (case aB => exact (bel2 GE497.out GE502.out)); (case aF => exact (fun k_ hk => Kd.fresh' (Kd.R_lt (rq HO505.out)) k_ hk)); (case aO => exact (rq (Kd.R_mono HO_3.out (fun _ hk => hk.2)))); (case aS => exact (below_size (bel2 GE497.out GE502.out))); (case aL => have := LMc10.out; omega); intro v507 w16 ho hb hg hat; rw [← Ny506.out] at ho; replace BK497 := am (blk_grown (g := gb497) (o := .cells #[.slice A0_0 l0_0.length c0_0, .slice (some ad501) l0_1.length c0_1] 26 (0, 0)) (bq BK497.out) hg (Kd.R_ne HO_3.out BK497.out (by decide))); replace BK502 := am (blk_grown (g := gb502) (o := .cells #[.string ((rd_T51 l0_1 x10_1).f0), .string ((rd_T51 l0_1 x10_1).f1)] 51 (0, 0)) (bq BK502.out) hg (Kd.R_ne HO_3.out BK502.out (by decide))); replace HO505 := am (Kd.R_after (ok := (fun _ => True)) (rq HO505.out) hg hat); replace HB := am (hb); have HO508 := am (ho); clear HO_3; clear ho hb hg hat))
    go_roundg k1
    case measure => have := HK1.out; omega
    case rel => exact ⟨(y506), (wrap64 (x10_1 + 1)), sq, H', ⟨b81_⟩, ⟨rq (Kd.R_mono HO508.out (fun _ hk => trivial))⟩, ⟨bq BK497.out⟩, ⟨bel2 GE497.out GE502.out⟩⟩
   rw [if_neg c6] at H; have c6b0 := decide_eq_false c6; clear c6; replace H := bs H; obtain ⟨t509, A180, H⟩ := H; have A18 := Aside0.mk A180; clear A180; obtain rfl := Option.some.inj H; obtain ⟨Ao19, co19, eo19⟩ := Kd.R_slice HO_3.out; subst eo19
   go_wp2_with ((with_reducible refine gate_callee (f := 42) rfl ?_); refine gl 22 Tryz.func42 #[.slice Ao19 x3_1.length co19] ?_; (with_reducible refine (impl_sorted.calls _ _ x3_1 t509 _ ?side1 ?side2 A18.out).mono ?_); (case side1 => exact cq (Kd.R_reads' HO_3.out).2.2); (case side2 => exact (Kd.R_reads' HO_3.out).2.1); rintro e w20 ⟨v510, rfl, ho0, hb⟩; refine ⟨_, rfl, ?_⟩; have HO511 := am (Kd.R_lower (Kd.R_new' ho0 (Kd.R_lt (rq HO_3.out))) (below_size (bel1 GE497.out))); replace HO_3 := am (Kd.R_elder' (rq HO_3.out) (Kd.R_base ho0) hb); replace BK497 := am (blk_below (bq BK497.out) hb); replace HB := am (below_step (bel1 GE497.out) hb); clear hb; clear ho0)
   go_ret
   exact ⟨_, eq_, by (with_reducible repeat (fail)); exact Kd.R_mono HO511.out (fun _ hk => trivial), bel1 GE497.out⟩

/-! ### slices_Index_string_string: function 50 -/
def slices_Index_string_string.l0 : Nat → List ByteArray → ByteArray → Int → Int → Option (Int)
 | 0, _, _, _, _ => none
 | k + 1, x0, x1, x7, x8 => if x8 < x7 then (if 0 ≤ x8 then (if x8 < (x0.length : Int) then (if x1.toList = (rdOf ByteArray.empty x0 x8).toList then (some x8) else (slices_Index_string_string.l0 k x0 x1 x7 (wrap64 (x8 + 1)))) else (none)) else (none)) else (some (-1))
def slices_Index_string_string.f (k : Nat) (l0 : List ByteArray) (a1 : ByteArray) : Option (Int) := slices_Index_string_string.l0 k l0 a1 (l0.length : Int) 0
theorem slices_Index_string_string.calls (k : Nat) (A0 : Option Addr) (c0 : Nat) (l0 : List ByteArray) (a1 : ByteArray) (r : Int) (w : World) (hr0 : Kd.C Kd.string w A0 l0.length l0) (hc0 : l0.length ≤ c0) (h : slices_Index_string_string.f k l0 a1 = some r) :
  Calls Tryz.prog 50 #[.slice A0 l0.length c0, .string a1] w fun e w' => e = .returned (.int .i64 r) ∧ Drawn0 w w' := by
 have HR0 := am hr0; have HC0 := am hc0; clear hr0 hc0
 have H := h; unfold slices_Index_string_string.f at H
 clear h
 have H' := am H
 clear H; go_enter Tryz.func50, Tryz.ntmps50; go_wp2
 go_loopg [8] k (fun kq v8 w' => ∃ (x8_1 : Int), v8 = .int .i64 x8_1 ∧ Aside0 (slices_Index_string_string.l0 kq l0 a1 (l0.length : Int) x8_1 = some r) ∧ Aside0 (kq ≤ k) ∧ Drawn0 w w')
 case atStart => exact ⟨(0), sq, H', ⟨Nat.le_refl _⟩, dr⟩
 case round =>
  clear H'; obtain ⟨x8_1, rfl, HA, HK1, ⟨m1, rfl⟩⟩ := hrel
  cases gk with
  | zero => exact absurd HA.out (by simp [slices_Index_string_string.l0])
  | succ k1 =>
   have H := HA.out; clear HA; simp only [slices_Index_string_string.l0] at H
   by_cases c3 : x8_1 < (l0.length : Int)
   ·rw [if_pos c3] at H; have c3b0 := decide_eq_true c3; clear c3
    replace H := it H; obtain ⟨c4b0, H⟩ := H; replace H := it H; obtain ⟨c5b0, H⟩ := H
    by_cases c6 : a1.toList = (rdOf ByteArray.empty l0 x8_1).toList
    ·rw [if_pos c6] at H
     have c6b0 : (a1.toList == (rdOf ByteArray.empty l0 x8_1).toList) = true := beq_iff_eq.mpr c6
     have c6b1 : (a1.toList != (rdOf ByteArray.empty l0 x8_1).toList) = false := bne_eq_false_iff_eq.mpr c6
     clear c6; obtain rfl := Option.some.inj H
     have p512 : 0 ≤ (x8_1 : Int) := of_decide_eq_true ad
     have q512 : x8_1 < (l0.length : Int) := of_decide_eq_true ad
     obtain ⟨ad512, e512, hx512_0⟩ := Kd.at_string HR0.out x8_1 p512 q512; cases e512
     replace p512 := eq_true p512; replace q512 := eq_true q512; go_wp2; go_ret
     exact ⟨sq, dr⟩
    rw [if_neg c6] at H
    have c6b0 : (a1.toList == (rdOf ByteArray.empty l0 x8_1).toList) = false := beq_eq_false_iff_ne.mpr c6
    have c6b1 : (a1.toList != (rdOf ByteArray.empty l0 x8_1).toList) = true := bne_iff_ne.mpr c6
    have H' := am H
    clear H
    have p512 : 0 ≤ (x8_1 : Int) := of_decide_eq_true ad
    have q512 : x8_1 < (l0.length : Int) := of_decide_eq_true ad
    obtain ⟨ad512, e512, hx512_0⟩ := Kd.at_string HR0.out x8_1 p512 q512; cases e512
    replace p512 := eq_true p512; replace q512 := eq_true q512; go_wp2
    go_roundg k1
    case measure => have := HK1.out; omega
    case rel => exact ⟨(wrap64 (x8_1 + 1)), sq, H', ⟨b81_⟩, dr⟩
   rw [if_neg c3] at H; have c3b0 := decide_eq_false c3; clear c3; obtain rfl := Option.some.inj H; go_wp2; go_ret
   exact ⟨sq, dr⟩

/-! ### slices_Contains_string_string: function 27 -/
def slices_Contains_string_string.f (k : Nat) (l0 : List ByteArray) (a1 : ByteArray) : Option (Bool) := (slices_Index_string_string.f k l0 a1).bind fun t513 => (some (decide (t513 ≥ 0)))
theorem slices_Contains_string_string.calls (k : Nat) (A0 : Option Addr) (c0 : Nat) (l0 : List ByteArray) (a1 : ByteArray) (r : Bool) (w : World) (hr0 : Kd.C Kd.string w A0 l0.length l0) (hc0 : l0.length ≤ c0) (h : slices_Contains_string_string.f k l0 a1 = some r) :
  Calls Tryz.prog 27 #[.slice A0 l0.length c0, .string a1] w fun e w' => e = .returned (.bool r) ∧ Drawn0 w w' := by
 have HR0 := am hr0; have HC0 := am hc0; clear hr0 hc0
 have H := h; unfold slices_Contains_string_string.f at H
 clear h; replace H := bs H; obtain ⟨t513, A30, H⟩ := H; have A3 := Aside0.mk A30; clear A30; obtain rfl := Option.some.inj H; go_enter Tryz.func27, Tryz.ntmps27
 go_wp2_with ((with_reducible refine gate_callee (f := 50) rfl ?_); refine gl 7 Tryz.func50 #[.slice A0 l0.length c0, .string a1] ?_; (with_reducible refine (slices_Index_string_string.calls k _ _ l0 a1 t513 _ ?side1 ?side2 A3.out).mono ?_); (case side1 => repeat (exact HR0.out)); (case side2 => exact HC0.out); rintro e w' ⟨rfl, ⟨nd, rfl⟩⟩; refine ⟨_, rfl, ?_⟩)
 go_ret
 exact ⟨sq, dr⟩

/-! ### impl_BookKnows: function 12 -/
def impl_BookKnows.f (k : Nat) (l0_0 : List (S59)) (l0_1 : List (S51)) (a1 : ByteArray) : Option (Bool) := (impl_BookOk.f k l0_0 l0_1).bind fun t515 => (if t515 = true then ((impl_Book_words.f k l0_0 l0_1).bind fun t516 => ((slices_Contains_string_string.f k t516 a1).bind fun t519 => (some t519))) else (some false))
theorem impl_BookKnows.calls (k : Nat) (A0_0 : Option Addr) (c0_0 : Nat) (l0_0 : List (S59)) (A0_1 : Option Addr) (c0_1 : Nat) (l0_1 : List (S51)) (a1 : ByteArray) (r : Bool) (w : World) (hr0_0 : Kd.C k59 w A0_0 l0_0.length l0_0) (hc0_0 : l0_0.length ≤ c0_0) (hr0_1 : Kd.C k51 w A0_1 l0_1.length l0_1) (hc0_1 : l0_1.length ≤ c0_1) (h : impl_BookKnows.f k l0_0 l0_1 a1 = some r) :
  Calls Tryz.prog 12 #[.agg #[.slice A0_0 l0_0.length c0_0, .slice A0_1 l0_1.length c0_1], .string a1] w fun e w' => e = .returned (.bool r) ∧ Below w.heap.size w w' := by
 have hu26 := Tryz.underlying26; have HR0_0 := am hr0_0; have HC0_0 := am hc0_0; clear hr0_0 hc0_0; have HR0_1 := am hr0_1; have HC0_1 := am hc0_1; clear hr0_1 hc0_1; have HB := am (Below.refl w.heap.size w)
 have H := h; unfold impl_BookKnows.f at H
 clear h; replace H := bs H; obtain ⟨t515, A30, H⟩ := H; have A3 := Aside0.mk A30; clear A30
 by_cases c4 : t515 = true
 ·subst c4
  have H1 : ((impl_Book_words.f k l0_0 l0_1).bind fun t516 => ((slices_Contains_string_string.f k t516 a1).bind fun t519 => (some t519))) = some r := b26_
  replace H := H1; clear H1
  replace H := bs H; obtain ⟨t516, A50, H⟩ := H; have A5 := Aside0.mk A50; clear A50; replace H := bs H; obtain ⟨t519, A60, H⟩ := H; have A6 := Aside0.mk A60; clear A60; obtain rfl := Option.some.inj H; go_enter Tryz.func12, Tryz.ntmps12
  go_wp2_with (first | ((with_reducible refine gate_dst (N := 2) rfl ?_); refine bx 2 (cs := #[.slice A0_0 l0_0.length c0_0, .slice A0_1 l0_1.length c0_1]) (t := 26) ?_; intro gb514 hg w7 hbox hb; have BK514 := am (hbox); have GW514 := am ((b15_ : w.heap.size ≤ gb514)); have GE514 := am ((b15_ : w.heap.size ≤ gb514)); replace HB := am (below_step bel hb); clear hb hbox hg; have ⟨hcz8_0, hcz8_1, hfz8_0, hfz8_1⟩ := b2c BK514.out) | ((with_reducible refine gate_callee (f := 17) rfl ?_); refine gl 6 Tryz.func17 #[.agg #[.slice A0_0 l0_0.length c0_0, .slice A0_1 l0_1.length c0_1]] ?_; (with_reducible refine (impl_BookOk.calls k _ _ l0_0 _ _ l0_1 true _ ?side1 ?side2 ?side3 ?side4 A3.out).mono ?_); (case side1 => exact cq (Kd.C_below HR0_0.out HB.out)); (case side2 => exact HC0_0.out); (case side3 => exact cq (Kd.C_below HR0_1.out HB.out)); (case side4 => exact HC0_1.out); rintro e w9 ⟨rfl, hb⟩; refine ⟨_, rfl, ?_⟩; replace BK514 := am (blk_below (bq BK514.out) hb); replace HB := am (below_step (bel1 GE514.out) hb); clear hb; have ⟨hcz10_0, hcz10_1, hfz10_0, hfz10_1⟩ := b2c BK514.out) | (go_at_call 20; (with_reducible refine (impl_Book_words.calls k _ _ l0_0 _ _ l0_1 t516 _ ?side1 ?side2 ?side3 ?side4 A5.out).mono ?_); (case side1 => exact cq (Kd.C_below HR0_0.out HB.out)); (case side2 => exact HC0_0.out); (case side3 => exact cq (Kd.C_below HR0_1.out HB.out)); (case side4 => exact HC0_1.out); rintro e w11 ⟨v517, rfl, ho0, hb⟩; have HO518 := am (Kd.R_lower ho0 (below_size (bel1 GE514.out))); replace BK514 := am (blk_below (bq BK514.out) hb); replace HB := am (below_step (bel1 GE514.out) hb); clear hb; clear ho0; obtain ⟨Ao12, co12, eo12⟩ := Kd.R_slice HO518.out; subst eo12) | (go_at_call 27; (with_reducible refine (slices_Contains_string_string.calls k _ _ t516 a1 t519 _ ?side1 ?side2 A6.out).mono ?_); (case side1 => exact cq (Kd.R_reads' HO518.out).2.2); (case side2 => exact (Kd.R_reads' HO518.out).2.1); rintro e w' ⟨rfl, ⟨nd, rfl⟩⟩))
  go_ret
  exact ⟨eq_, bel1 GE514.out⟩
 replace c4 := Bool.eq_false_iff.mpr c4; subst c4
 have H1 : (some false) = some r := b10_
 replace H := H1; clear H1
 obtain rfl := Option.some.inj H; go_enter Tryz.func12, Tryz.ntmps12
 go_wp2_with (first | ((with_reducible refine gate_dst (N := 2) rfl ?_); refine bx 2 (cs := #[.slice A0_0 l0_0.length c0_0, .slice A0_1 l0_1.length c0_1]) (t := 26) ?_; intro gb514 hg w13 hbox hb; have BK514 := am (hbox); have GW514 := am ((b15_ : w.heap.size ≤ gb514)); have GE514 := am ((b15_ : w.heap.size ≤ gb514)); replace HB := am (below_step bel hb); clear hb hbox hg; have ⟨hcz14_0, hcz14_1, hfz14_0, hfz14_1⟩ := b2c BK514.out) | ((with_reducible refine gate_callee (f := 17) rfl ?_); refine gl 6 Tryz.func17 #[.agg #[.slice A0_0 l0_0.length c0_0, .slice A0_1 l0_1.length c0_1]] ?_; (with_reducible refine (impl_BookOk.calls k _ _ l0_0 _ _ l0_1 false _ ?side1 ?side2 ?side3 ?side4 A3.out).mono ?_); (case side1 => exact cq (Kd.C_below HR0_0.out HB.out)); (case side2 => exact HC0_0.out); (case side3 => exact cq (Kd.C_below HR0_1.out HB.out)); (case side4 => exact HC0_1.out); rintro e w15 ⟨rfl, hb⟩; refine ⟨_, rfl, ?_⟩; replace BK514 := am (blk_below (bq BK514.out) hb); replace HB := am (below_step (bel1 GE514.out) hb); clear hb))
 go_ret
 exact ⟨eq_, bel1 GE514.out⟩
end Go.Proofs.YtdfnijaacnlfaaaGreat.QFnBookGuesses

import Derived.Test.YtedfcehhgbeibaaQFnBookStemsx0
import Derived.Test.YtedfcehhgbeibaaVMSh2
namespace Go.Proofs.Ytedfcehhgbeibaa.QFnBookStems
open Go.RowKit Go.Proofs.YtedfcehhgbeibaaW.PrintWords Go.Proofs.YtedfcehhgbeibaaW.PrintLast Go.Proofs.YtedfcehhgbeibaaW.PrintMore Go.Proofs.Ytedfcehhgbeibaa.Sh
attribute [local go_sem] max2_int min2_int max_two min_two max_three min_three max_four min_four   -- for this text's walks alone
set_option linter.unusedVariables false
set_option linter.unusedSimpArgs false
-- shrunk

/-! ### impl_sorted: function 60 -/
/-- A list in ascending order, each once. -/
def impl_sorted.f (l0 : List ByteArray) : Option (List ByteArray) := if l0.length ≤ 1000000000 then some (M.setL l0) else none
def impl_sorted.ba (l : List UInt8) : ByteArray := ⟨l.toArray⟩
theorem impl_sorted.encs_ba (ss : List (List UInt8)) : encs Value.string (ss.map impl_sorted.ba) = ss.map encStr := by
 unfold encs
 rw [List.map_map]
 rfl
theorem impl_sorted.own {W : World} {base : Nat} {v : Value} {ss : List (List UInt8)} (h : Kd.R Kd.string 9 W base (fun _ => True) v (ss.map impl_sorted.ba)) : W.ownsRow base 9 1 v ss.length (ss.map encStr) := by
 have := Kd.own_of_R h
 rw [impl_sorted.encs_ba, List.length_map] at this
 exact this
theorem impl_sorted.row {W : World} {base : Nat} {v : Value} {ss : List (List UInt8)} (h : W.ownsRow base 9 1 v ss.length (ss.map encStr)) : Kd.R Kd.string 9 W base (fun _ => True) v (ss.map impl_sorted.ba) :=
 Kd.R_of_own (by rw [impl_sorted.encs_ba, List.length_map]; exact h) (fun _ _ => trivial)
theorem impl_sorted.holds {w : World} {base : Nat} {g n cap : Nat} {zs : List (List UInt8)} (h : w.ownsRow base 9 1 (.slice (some ⟨g, 0, none⟩) n cap) n (zs.map encStr)) :
  base ≤ g ∧ g < w.heap.size ∧ n ≤ cap ∧ zs.length = n ∧ Sort.Holds encStr w g 0 zs.toArray := by
 obtain ⟨g', cap', e, h1, h2, h3, _, h5, h6⟩ := Go.Lib.holds_of_ownsRow h (by intro e; cases e)
 cases e
 exact ⟨h1, h2, h3, h5, h6⟩
set_option maxHeartbeats 1000000 in
theorem impl_sorted.sort {w0 W : World} {base : Nat} {v : Value} {ss : List (List UInt8)} (h : Kd.R Kd.string 9 W base (fun _ => True) v (ss.map impl_sorted.ba)) (hB : Below base w0 W) (hbase : base ≤ W.heap.size) (hl : ss.length ≤ 1000000000) :
  Calls Try.prog 95 #[v] W fun e w' => e = .returned (.tuple #[]) ∧ Kd.R Kd.string 9 w' base (fun _ => True) v ((ss.mergeSort M.leU).map impl_sorted.ba) ∧ Below base w0 w' ∧ base ≤ w'.heap.size := by
 have ho := impl_sorted.own h
 rcases ho.2 with ⟨rfl, h0⟩ | ⟨g, cap, cur, rfl, hb, hg, h1, h2, h3, h4⟩
 ·have e0 : ss = [] := List.length_eq_zero_iff.1 h0
  subst e0
  have := Any.slices_Sort_string_none Try.laySort none 0 W
  change Calls Try.prog 95 _ _ _ at this
  refine this.mono ?_
  rintro e w' ⟨he, rfl⟩
  exact ⟨he, by simpa using h, hB, hbase⟩
 ·obtain ⟨hbg, hgl, hc, _, hH⟩ := impl_sorted.holds ho
  have := Any.slices_Sort_string Try.laySort g 0 cap ss W hH hgl (by omega)
  change Calls Try.prog 95 _ _ _ at this
  refine this.mono ?_
  rintro e w' ⟨he, n, os, rfl⟩
  have hl2 : (ss.mergeSort M.leU).length = ss.length := List.length_mergeSort ss
  have hs := ownsRow_sorted (n := n) (os := os) (ts := ss.mergeSort M.leU) hl2 hb hg h1 h2 h3; rw [← hl2] at hs
  refine ⟨he, ?_, ?_, ?_⟩
  ·have := impl_sorted.row hs
   rw [hl2] at this
   exact this
  ·exact hB.grown (grownBy_sorted _) hbase (fun j hj => by cases hj; exact hbg)
  ·exact Nat.le_trans hbase (grownBy_sorted (w := W) (g := g) (n := n) (os := os) (ss.mergeSort M.leU).toArray).size
set_option maxHeartbeats 1000000 in
theorem impl_sorted.compact {w0 W : World} {base : Nat} {v : Value} {ss : List (List UInt8)} (h : Kd.R Kd.string 9 W base (fun _ => True) v (ss.map impl_sorted.ba)) (hB : Below base w0 W) (hbase : base ≤ W.heap.size) (hl : ss.length ≤ 1000000000) :
  Calls Try.prog 96 #[v] W fun e w' => ∃ A c, e = .returned (.slice A (Go.Lib.compact ss).length c) ∧ Kd.R Kd.string 9 w' base (fun _ => True) (.slice A (Go.Lib.compact ss).length c) ((Go.Lib.compact ss).map impl_sorted.ba) ∧ Below base w0 w' ∧ W.grownBy w' v.ownBlock := by
 have ho := impl_sorted.own h
 rcases ho.2 with ⟨rfl, h0⟩ | ⟨g, cap, cur, rfl, hb, hg, h1, h2, h3, h4⟩
 ·have e0 : ss = [] := List.length_eq_zero_iff.1 h0
  subst e0
  have := Any.slices_Compact_string_empty Try.layCompact none 0 W
  change Calls Try.prog 96 _ _ _ at this
  refine this.mono ?_
  rintro e w' ⟨he, rfl⟩
  exact ⟨none, 0, he, h, hB, ⟨rfl, rfl, rfl, Nat.le_refl _, fun _ _ _ => rfl⟩⟩
 ·obtain ⟨hbg, hgl, hc, _, hH⟩ := impl_sorted.holds ho
  have := Any.slices_Compact_string Try.layCompact g 0 cap ss W hH (by omega) h1
  change Calls Try.prog 96 _ _ _ at this
  refine this.mono ?_
  rintro e w' ⟨he, q, rfl⟩
  have hle := Go.Lib.compact_length_le ss
  have hc2 := Go.Lib.ownsRow_putRow (q := q) (k := (Go.Lib.compact ss).length) (ys := Go.Lib.compact ss ++ List.replicate (ss.length - (Go.Lib.compact ss).length) []) ho (by simp; omega) (by omega)
  rw [List.take_left] at hc2
  refine ⟨_, _, he, impl_sorted.row hc2, Go.Lib.below_putRow hB hbg, rfl, rfl, rfl, by simp [Sort.putRow, Sort.mapBlock, Sort.ahead], fun k hk hne => ?_⟩
  have : g ≠ k := fun e => hne (by rw [← e]; rfl)
  simp [Sort.putRow, Sort.mapBlock, Sort.ahead, Array.getElem?_modify, this]
theorem impl_sorted.apart {W W1 : World} {base : Nat} {v v9 : Value} {xs : List ByteArray} (h : Kd.R Kd.string 9 W base (fun _ => True) v xs) (h9 : Kd.R Kd.string 9 W1 base (fun _ => True) v9 []) (hn : ∃ b, v9.ownBlock = some b ∧ W.heap.size ≤ b) :
  Kd.R Kd.string 9 W1 base (fun k => some k ≠ v.ownBlock) v9 [] := by
 refine Kd.R_of_own (Kd.own_of_R h9) (fun k hk => ?_)
 obtain ⟨b, hb, hle⟩ := hn; rw [hb] at hk
 cases hk
 intro e
 rcases (Kd.own_of_R h).2 with ⟨rfl, _⟩ | ⟨g, cap, cur, rfl, hbg, hg, _⟩
 ·simp [Value.ownBlock] at e
 ·have e2 : k = g := by simpa [Value.ownBlock] using e
  have := (Array.getElem?_eq_some_iff.1 hg).1
  omega
theorem impl_sorted.ba_of (l : List ByteArray) : (l.map (·.data.toList)).map impl_sorted.ba = l := by
 rw [List.map_map]
 conv => rhs; rw [← List.map_id l]
 exact List.map_congr_left (fun x _ => M.ba_of x)
theorem impl_sorted.compactL {w0 W : World} {base : Nat} {v : Value} {l : List ByteArray} (h : Kd.R Kd.string 9 W base (fun _ => True) v (((l.map (·.data.toList)).mergeSort M.leU).map impl_sorted.ba)) (hB : Below base w0 W) (hbase : base ≤ W.heap.size) (hl : l.length ≤ 1000000000) :
  Calls Try.prog 96 #[v] W fun e w' => ∃ A c, e = .returned (.slice A (M.setL l).length c) ∧ Kd.R Kd.string 9 w' base (fun _ => True) (.slice A (M.setL l).length c) (M.setL l) ∧ Below base w0 w' ∧ W.grownBy w' v.ownBlock := by
 have := impl_sorted.compact (w0 := w0) h hB hbase (by rw [List.length_mergeSort, List.length_map]; exact hl)
 rw [M.sorted_eq, List.length_map, impl_sorted.ba_of] at this
 exact this

set_option maxHeartbeats 4000000 in
set_option maxRecDepth 100000 in
theorem impl_sorted.calls (A0 : Option Addr) (c0 : Nat) (l0 : List ByteArray) (r : List ByteArray) (w : World) (hr0 : Kd.C Kd.string w A0 l0.length l0) (hc0 : l0.length ≤ c0) (h : impl_sorted.f l0 = some r) :
  Calls Try.prog 60 #[.slice A0 l0.length c0] w fun e w' => ∃ v0_ : Value, e = .returned (v0_) ∧ Kd.R Kd.string 9 w' w.heap.size (fun _ => True) v0_ r ∧ Below w.heap.size w w' := by
 unfold impl_sorted.f at h
 split at h
 case isFalse => cases h
 rename_i hsz; obtain rfl := Option.some.inj h; clear h; have hsl := M.setL_length l0; have HR := am hr0; clear hr0; go_enter Try.func60, Try.ntmps60
 go_wp2_with (first
  | ((with_reducible refine gate_dst (N := 4) rfl ?_); refine Kd.R_lit Kd.string w.heap.size 9 ?hg (N := 4) ?hd (xs := ([] : List ByteArray)) (inner := []) (ok := fun _ => True) (okp := fun _ => True) ?hr ?hp (fun _ hk => hk) trivial (Below.refl _ _) (Nat.le_refl _) (by simp) ?_; (case hd => rfl); (case hg => rfl); (case hr => first | (go_simp; done) | (go_simp; rfl)); (case hp => exact (Reps.none _ _)); intro v4 w1 ho hb hg_ hnew_; have HO4 := am ho; have HB1 := am hb; clear ho hb hg_ hnew_)
  | ((with_reducible refine gate_builtin (b := .append) (xs := #[.tmp 4, .tmp 5]) rfl ?_); at_builtin; refine Kd.R_append_row Value.string (⟨#[]⟩ : ByteArray) (h1 := fun _ => rfl) (w0 := w) w.heap.size rfl (.tmp 4) (.tmp 5) 27 9 (.string ⟨#[]⟩) 16 rfl Try.underlying27 info9 rfl (by decide) v4 [] l0 A0 l0.length c0 (fun _ => True) rfl rfl (fun _ _ => trivial) HO4.out (Kd.C_below HR.out HB1.out) HB1.out (below_size HB1.out) (by simp; omega) ?_; intro v6 w2 ho hb hg_ hat_; rw [List.nil_append] at ho; have HO6 := am ho; have HB2 := am hb; clear ho hb hg_ hat_ HO4 HB1)
  | (go_at_call 95; refine (impl_sorted.sort (w0 := w) (base := w.heap.size) (ss := l0.map (·.data.toList)) (by rw [impl_sorted.ba_of]; exact HO6.out) HB2.out (below_size HB2.out) (by simpa using hsz)).mono ?_; rintro e w3 ⟨rfl, hR3, hB3, hs3⟩; have HO7 := am hR3; have HB3 := am hB3; clear hR3 hB3 hs3 HO6 HB2)
  | ((with_reducible refine gate_dst (N := 9) rfl ?_); refine Kd.R_lit Kd.string w.heap.size 9 ?hg (N := 9) ?hd (xs := ([] : List ByteArray)) (inner := []) (ok := fun _ => True) (okp := fun _ => True) ?hr ?hp (fun _ hk => hk) trivial HB3.out (below_size HB3.out) (by simp) ?_; (case hd => rfl); (case hg => rfl); (case hr => first | (go_simp; done) | (go_simp; rfl)); (case hp => exact (Reps.none _ _)); intro v9 w4 ho hb hg_ hnew_; have HO8 := am (Kd.R_mono (Kd.R_grown HO7.out hg_ (fun _ _ h => by cases h)) (fun _ _ => trivial)); have HO9 := am (impl_sorted.apart HO7.out ho hnew_); have HB4 := am hb; clear ho hb hg_ hnew_ HO7 HB3)
  | (go_at_call 96; refine (impl_sorted.compactL (w0 := w) (base := w.heap.size) HO8.out HB4.out (below_size HB4.out) hsz).mono ?_; rintro e w5 ⟨A5, c5, rfl, hR5, hB5, hg5⟩; have HO5 := am hR5; have HO9' := am (Kd.R_mono (Kd.R_grown HO9.out hg5 (fun _ h => h)) (fun _ _ => trivial)); have HB5 := am hB5; clear hR5 hB5 hg5 HO8 HO9 HB4)
  | ((with_reducible refine gate_builtin (b := .append) (xs := #[.tmp 9, .tmp 11]) rfl ?_); at_builtin; refine Kd.R_append_row Value.string (⟨#[]⟩ : ByteArray) (h1 := fun _ => rfl) (w0 := w) w.heap.size rfl (.tmp 9) (.tmp 11) 27 9 (.string ⟨#[]⟩) 16 rfl Try.underlying27 info9 rfl (by decide) v9 [] (M.setL l0) A5 (M.setL l0).length c5 (fun _ => True) rfl rfl (fun _ _ => trivial) HO9'.out (Kd.R_reads' HO5.out).2.2 HB5.out (below_size HB5.out) (by simp; omega) ?_; intro v12 w6 ho hb hg_ hat_; rw [List.nil_append] at ho; have HO12 := am ho; have HB6 := am hb; clear ho hb hg_ hat_ HO9' HB5))
 go_ret
 exact ⟨v12, rfl, HO12.out, HB6.out⟩

end Go.Proofs.Ytedfcehhgbeibaa.QFnBookStems

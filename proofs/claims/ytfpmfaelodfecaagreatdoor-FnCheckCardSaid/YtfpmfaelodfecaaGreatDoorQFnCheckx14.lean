import Derived.Test.YtfpmfaelodfecaaGreatDoorQFnCheckx0
import Derived.Test.YtfpmfaelodfecaaGreatDoorQFnCheckx10
import Derived.Test.YtfpmfaelodfecaaGreatDoorVMSh2
namespace Go.Proofs.YtfpmfaelodfecaaGreatDoor.QFnCheck
open Go.RowKit Go.Proofs.YtfpmfaelodfecaaGreatDoorW.PrintWords Go.Proofs.YtfpmfaelodfecaaGreatDoorW.PrintLast Go.Proofs.YtfpmfaelodfecaaGreatDoorW.PrintMore Go.Proofs.YtfpmfaelodfecaaGreatDoor.Sh
attribute [local go_sem] max2_int min2_int max_two min_two max_three min_three max_four min_four
set_option linter.unusedVariables false
set_option linter.unusedSimpArgs false
set_option maxHeartbeats 8000000
set_option maxRecDepth 100000
-- shrunk

/-! ### impl_sorted: function 55 -/
/-- A list in ascending order, each once. -/
def impl_sorted.f (l0 : List ByteArray) : Option (List ByteArray) := if l0.length ≤ 1000000000 then some (M.setL l0) else none
def impl_sorted.ba (l : List UInt8) : ByteArray := ⟨l.toArray⟩
theorem impl_sorted.encs_ba (ss : List (List UInt8)) : encs Value.string (ss.map impl_sorted.ba) = ss.map encStr := by
 unfold encs
 rw [List.map_map]
 rfl
theorem impl_sorted.own {W : World} {base : Nat} {v : Value} {ss : List (List UInt8)} (h : Kd.R Kd.string 9 W base (fun _ => True) v (ss.map impl_sorted.ba)) : W.ownsRow base 9 1 v ss.length (ss.map encStr) := by
 have := Kd.own_of_R h
 rw [impl_sorted.encs_ba, List.length_map] at this
 exact this
theorem impl_sorted.row {W : World} {base : Nat} {v : Value} {ss : List (List UInt8)} (h : W.ownsRow base 9 1 v ss.length (ss.map encStr)) : Kd.R Kd.string 9 W base (fun _ => True) v (ss.map impl_sorted.ba) :=
 Kd.R_of_own (by rw [impl_sorted.encs_ba, List.length_map]; exact h) (fun _ _ => trivial)
theorem impl_sorted.holds {w : World} {base : Nat} {g n cap : Nat} {zs : List (List UInt8)} (h : w.ownsRow base 9 1 (.slice (some ⟨g, 0, none⟩) n cap) n (zs.map encStr)) :
  base ≤ g ∧ g < w.heap.size ∧ n ≤ cap ∧ zs.length = n ∧ Sort.Holds encStr w g 0 zs.toArray := by
 obtain ⟨g', cap', e, h1, h2, h3, _, h5, h6⟩ := Go.Lib.holds_of_ownsRow h (by intro e; cases e)
 cases e
 exact ⟨h1, h2, h3, h5, h6⟩
set_option maxHeartbeats 1000000 in
theorem impl_sorted.sort {w0 W : World} {base : Nat} {v : Value} {ss : List (List UInt8)} (h : Kd.R Kd.string 9 W base (fun _ => True) v (ss.map impl_sorted.ba)) (hB : Below base w0 W) (hbase : base ≤ W.heap.size) (hl : ss.length ≤ 1000000000) :
  Calls Tryz.prog 79 #[v] W fun e w' => e = .returned (.tuple #[]) ∧ Kd.R Kd.string 9 w' base (fun _ => True) v ((ss.mergeSort M.leU).map impl_sorted.ba) ∧ Below base w0 w' ∧ base ≤ w'.heap.size := by
 have ho := impl_sorted.own h
 rcases ho.2 with ⟨rfl, h0⟩ | ⟨g, cap, cur, rfl, hb, hg, h1, h2, h3, h4⟩
 ·have e0 : ss = [] := List.length_eq_zero_iff.1 h0
  subst e0
  have := Any.slices_Sort_string_none Try.laySort none 0 W
  change Calls Tryz.prog 79 _ _ _ at this
  refine this.mono ?_
  rintro e w' ⟨he, rfl⟩
  exact ⟨he, by simpa using h, hB, hbase⟩
 ·obtain ⟨hbg, hgl, hc, _, hH⟩ := impl_sorted.holds ho
  have := Any.slices_Sort_string Try.laySort g 0 cap ss W hH hgl (by omega)
  change Calls Tryz.prog 79 _ _ _ at this
  refine this.mono ?_
  rintro e w' ⟨he, n, os, rfl⟩
  have hl2 : (ss.mergeSort M.leU).length = ss.length := List.length_mergeSort ss
  have hs := ownsRow_sorted (n := n) (os := os) (ts := ss.mergeSort M.leU) hl2 hb hg h1 h2 h3; rw [← hl2] at hs
  refine ⟨he, ?_, ?_, ?_⟩
  ·have := impl_sorted.row hs
   rw [hl2] at this
   exact this
  ·exact hB.grown (grownBy_sorted _) hbase (fun j hj => by cases hj; exact hbg)
  ·exact Nat.le_trans hbase (grownBy_sorted (w := W) (g := g) (n := n) (os := os) (ss.mergeSort M.leU).toArray).size
set_option maxHeartbeats 1000000 in
theorem impl_sorted.compact {w0 W : World} {base : Nat} {v : Value} {ss : List (List UInt8)} (h : Kd.R Kd.string 9 W base (fun _ => True) v (ss.map impl_sorted.ba)) (hB : Below base w0 W) (hbase : base ≤ W.heap.size) (hl : ss.length ≤ 1000000000) :
  Calls Tryz.prog 80 #[v] W fun e w' => ∃ A c, e = .returned (.slice A (Go.Lib.compact ss).length c) ∧ Kd.R Kd.string 9 w' base (fun _ => True) (.slice A (Go.Lib.compact ss).length c) ((Go.Lib.compact ss).map impl_sorted.ba) ∧ Below base w0 w' ∧ W.grownBy w' v.ownBlock := by
 have ho := impl_sorted.own h
 rcases ho.2 with ⟨rfl, h0⟩ | ⟨g, cap, cur, rfl, hb, hg, h1, h2, h3, h4⟩
 ·have e0 : ss = [] := List.length_eq_zero_iff.1 h0
  subst e0
  have := Any.slices_Compact_string_empty Try.layCompact none 0 W
  change Calls Tryz.prog 80 _ _ _ at this
  refine this.mono ?_
  rintro e w' ⟨he, rfl⟩
  exact ⟨none, 0, he, h, hB, ⟨rfl, rfl, rfl, Nat.le_refl _, fun _ _ _ => rfl⟩⟩
 ·obtain ⟨hbg, hgl, hc, _, hH⟩ := impl_sorted.holds ho
  have := Any.slices_Compact_string Try.layCompact g 0 cap ss W hH (by omega) h1
  change Calls Tryz.prog 80 _ _ _ at this
  refine this.mono ?_
  rintro e w' ⟨he, q, rfl⟩
  have hle := Go.Lib.compact_length_le ss
  have hc2 := Go.Lib.ownsRow_putRow (q := q) (k := (Go.Lib.compact ss).length) (ys := Go.Lib.compact ss ++ List.replicate (ss.length - (Go.Lib.compact ss).length) []) ho (by simp; omega) (by omega)
  rw [List.take_left] at hc2
  refine ⟨_, _, he, impl_sorted.row hc2, Go.Lib.below_putRow hB hbg, rfl, rfl, rfl, by simp [Sort.putRow, Sort.mapBlock, Sort.ahead], fun k hk hne => ?_⟩
  have : g ≠ k := fun e => hne (by rw [← e]; rfl)
  simp [Sort.putRow, Sort.mapBlock, Sort.ahead, Array.getElem?_modify, this]
theorem impl_sorted.apart {W W1 : World} {base : Nat} {v v9 : Value} {xs : List ByteArray} (h : Kd.R Kd.string 9 W base (fun _ => True) v xs) (h9 : Kd.R Kd.string 9 W1 base (fun _ => True) v9 []) (hn : ∃ b, v9.ownBlock = some b ∧ W.heap.size ≤ b) :
  Kd.R Kd.string 9 W1 base (fun k => some k ≠ v.ownBlock) v9 [] := by
 refine Kd.R_of_own (Kd.own_of_R h9) (fun k hk => ?_)
 obtain ⟨b, hb, hle⟩ := hn; rw [hb] at hk
 cases hk
 intro e
 rcases (Kd.own_of_R h).2 with ⟨rfl, _⟩ | ⟨g, cap, cur, rfl, hbg, hg, _⟩
 ·simp [Value.ownBlock] at e
 ·have e2 : k = g := by simpa [Value.ownBlock] using e
  have := (Array.getElem?_eq_some_iff.1 hg).1
  omega
theorem impl_sorted.ba_of (l : List ByteArray) : (l.map (·.data.toList)).map impl_sorted.ba = l := by
 rw [List.map_map]
 conv => rhs; rw [← List.map_id l]
 exact List.map_congr_left (fun x _ => M.ba_of x)
theorem impl_sorted.compactL {w0 W : World} {base : Nat} {v : Value} {l : List ByteArray} (h : Kd.R Kd.string 9 W base (fun _ => True) v (((l.map (·.data.toList)).mergeSort M.leU).map impl_sorted.ba)) (hB : Below base w0 W) (hbase : base ≤ W.heap.size) (hl : l.length ≤ 1000000000) :
  Calls Tryz.prog 80 #[v] W fun e w' => ∃ A c, e = .returned (.slice A (M.setL l).length c) ∧ Kd.R Kd.string 9 w' base (fun _ => True) (.slice A (M.setL l).length c) (M.setL l) ∧ Below base w0 w' ∧ W.grownBy w' v.ownBlock := by
 have := impl_sorted.compact (w0 := w0) h hB hbase (by rw [List.length_mergeSort, List.length_map]; exact hl)
 rw [M.sorted_eq, List.length_map, impl_sorted.ba_of] at this
 exact this

set_option maxHeartbeats 4000000 in
set_option maxRecDepth 100000 in
theorem impl_sorted.calls (A0 : Option Addr) (c0 : Nat) (l0 : List ByteArray) (r : List ByteArray) (w : World) (hr0 : Kd.C Kd.string w A0 l0.length l0) (hc0 : l0.length ≤ c0) (h : impl_sorted.f l0 = some r) :
  Calls Tryz.prog 55 #[.slice A0 l0.length c0] w fun e w' => ∃ v0_ : Value, e = .returned (v0_) ∧ Kd.R Kd.string 9 w' w.heap.size (fun _ => True) v0_ r ∧ Below w.heap.size w w' := by
 unfold impl_sorted.f at h
 split at h
 case isFalse => cases h
 rename_i hsz; obtain rfl := Option.some.inj h; clear h; have hsl := M.setL_length l0; have HR := am hr0; clear hr0; go_enter Tryz.func55, Tryz.ntmps55
 go_wp2_with (first
  | ((with_reducible refine gate_dst (N := 4) rfl ?_); refine Kd.R_lit Kd.string w.heap.size 9 ?hg (N := 4) ?hd (xs := ([] : List ByteArray)) (inner := []) (ok := fun _ => True) (okp := fun _ => True) ?hr ?hp (fun _ hk => hk) trivial (Below.refl _ _) (Nat.le_refl _) (by simp) ?_; (case hd => rfl); (case hg => rfl); (case hr => first | (go_simp; done) | (go_simp; rfl)); (case hp => exact (Reps.none _ _)); intro v4 w1 ho hb hg_ hnew_; have HO4 := am ho; have HB1 := am hb; clear ho hb hg_ hnew_)
  | ((with_reducible refine gate_builtin (b := .append) (xs := #[.tmp 4, .tmp 5]) rfl ?_); at_builtin; refine Kd.R_append_row Value.string (⟨#[]⟩ : ByteArray) (h1 := fun _ => rfl) (w0 := w) w.heap.size rfl (.tmp 4) (.tmp 5) 49 9 (.string ⟨#[]⟩) 16 rfl Tryz.underlying49 info9 rfl (by decide) v4 [] l0 A0 l0.length c0 (fun _ => True) rfl rfl (fun _ _ => trivial) HO4.out (Kd.C_below HR.out HB1.out) HB1.out (below_size HB1.out) (by simp; omega) ?_; intro v6 w2 ho hb hg_ hat_; rw [List.nil_append] at ho; have HO6 := am ho; have HB2 := am hb; clear ho hb hg_ hat_ HO4 HB1)
  | (go_at_call 79; refine (impl_sorted.sort (w0 := w) (base := w.heap.size) (ss := l0.map (·.data.toList)) (by rw [impl_sorted.ba_of]; exact HO6.out) HB2.out (below_size HB2.out) (by simpa using hsz)).mono ?_; rintro e w3 ⟨rfl, hR3, hB3, hs3⟩; have HO7 := am hR3; have HB3 := am hB3; clear hR3 hB3 hs3 HO6 HB2)
  | ((with_reducible refine gate_dst (N := 9) rfl ?_); refine Kd.R_lit Kd.string w.heap.size 9 ?hg (N := 9) ?hd (xs := ([] : List ByteArray)) (inner := []) (ok := fun _ => True) (okp := fun _ => True) ?hr ?hp (fun _ hk => hk) trivial HB3.out (below_size HB3.out) (by simp) ?_; (case hd => rfl); (case hg => rfl); (case hr => first | (go_simp; done) | (go_simp; rfl)); (case hp => exact (Reps.none _ _)); intro v9 w4 ho hb hg_ hnew_; have HO8 := am (Kd.R_mono (Kd.R_grown HO7.out hg_ (fun _ _ h => by cases h)) (fun _ _ => trivial)); have HO9 := am (impl_sorted.apart HO7.out ho hnew_); have HB4 := am hb; clear ho hb hg_ hnew_ HO7 HB3)
  | (go_at_call 80; refine (impl_sorted.compactL (w0 := w) (base := w.heap.size) HO8.out HB4.out (below_size HB4.out) hsz).mono ?_; rintro e w5 ⟨A5, c5, rfl, hR5, hB5, hg5⟩; have HO5 := am hR5; have HO9' := am (Kd.R_mono (Kd.R_grown HO9.out hg5 (fun _ h => h)) (fun _ _ => trivial)); have HB5 := am hB5; clear hR5 hB5 hg5 HO8 HO9 HB4)
  | ((with_reducible refine gate_builtin (b := .append) (xs := #[.tmp 9, .tmp 11]) rfl ?_); at_builtin; refine Kd.R_append_row Value.string (⟨#[]⟩ : ByteArray) (h1 := fun _ => rfl) (w0 := w) w.heap.size rfl (.tmp 9) (.tmp 11) 49 9 (.string ⟨#[]⟩) 16 rfl Tryz.underlying49 info9 rfl (by decide) v9 [] (M.setL l0) A5 (M.setL l0).length c5 (fun _ => True) rfl rfl (fun _ _ => trivial) HO9'.out (Kd.R_reads' HO5.out).2.2 HB5.out (below_size HB5.out) (by simp; omega) ?_; intro v12 w6 ho hb hg_ hat_; rw [List.nil_append] at ho; have HO12 := am ho; have HB6 := am hb; clear ho hb hg_ hat_ HO9' HB5))
 go_ret
 exact ⟨v12, rfl, HO12.out, HB6.out⟩

/-! ### strings_Contains: function 77 -/
/-- Contains, of a text of one byte. -/
def strings_Contains.f (a0 : ByteArray) (a1 : ByteArray) : Option Bool := if a1.size = 1 then some (a0.data.toList.contains (a1.data.toList.headD 0)) else none
theorem strings_Contains.index (s : List UInt8) (c : UInt8) : decide (0 ≤ Go.Lib.indexByte s c) = s.contains c := by
 have h1 : ∀ s : List UInt8, -1 ≤ Go.Lib.indexByte s c := by
  intro s
  induction s with
  | nil => simp [Go.Lib.indexByte]
  | cons b l ih =>
   unfold Go.Lib.indexByte
   split
   ·omega
   ·split <;> omega
 induction s with
 | nil => simp [Go.Lib.indexByte]
 | cons b l ih =>
  unfold Go.Lib.indexByte
  rw [List.contains_cons]
  by_cases e : b = c
  ·subst e
   simp
  ·have e2 : (b == c) = false := by simpa using e
   have e3 : (c == b) = false := by simpa using fun h => e h.symm
   rw [e2, e3, Bool.false_or, ← ih]
   have := h1 l
   simp only [Bool.false_eq_true, if_false, beq_iff_eq]
   rw [decide_eq_decide]
   split <;> omega
theorem strings_Contains.calls (a0 : ByteArray) (a1 : ByteArray) (r : Bool) (w : World) (h : strings_Contains.f a0 a1 = some r) :
  Calls Tryz.prog 77 #[.string a0, .string a1] w fun e w' => e = .returned (.bool r) ∧ Drawn0 w w' := by
 unfold strings_Contains.f at h
 split at h
 case isFalse => cases h
 rename_i hs; obtain rfl := Option.some.inj h; obtain ⟨⟨l⟩⟩ := a1
 match l, hs with
 | [c], _ =>
  have := Any.strings_Contains_one Try.layHas a0 c w
  change Calls Tryz.prog 77 _ _ _ at this
  refine this.mono ?_
  rintro e w' ⟨he, rfl⟩
  refine ⟨?_, 0, rfl⟩
  rw [he, strings_Contains.index]
  rfl

/-! ### impl_AffixDo: function 78 -/
def impl_AffixDo.j0 : Nat → ByteArray → Bool → ByteArray → Bool → ByteArray → ByteArray → ByteArray → Option (ByteArray × Bool)
 | 0, _, _, _, _, _, _, _ => none
 | k + 1, x1, x14, x245000, x245001, x245002, x245003, x245004 => if x14 = true then (some ((⟨#[]⟩ : ByteArray), false)) else (if x245001 = true then ((strings_HasPrefix.f x1 x245004).bind fun t247 => (if t247 = true then (if 0 ≤ (x245002.size : Int) then (if (x245002.size : Int) ≤ (x1.size : Int) then (if x245003.size + (x1.extract x245002.size x1.size).size ≤ 9223372036854775807 then ((impl_WordOk.f k (x245003 ++ (x1.extract x245002.size x1.size))).bind fun t248 => (if t248 = true then (some (x245003 ++ (x1.extract x245002.size x1.size), true)) else (some ((⟨#[]⟩ : ByteArray), false)))) else (none)) else (none)) else (none)) else (some ((⟨#[]⟩ : ByteArray), false)))) else ((strings_HasSuffix.f x1 x245004).bind fun t249 => (if t249 = true then (if 0 ≤ (wrap64 ((x1.size : Int) - (x245002.size : Int))) then (if (wrap64 ((x1.size : Int) - (x245002.size : Int))) ≤ (x1.size : Int) then (if (x1.extract 0 ((wrap64 ((x1.size : Int) - (x245002.size : Int))) : Int).toNat).size + x245003.size ≤ 9223372036854775807 then ((impl_WordOk.f k ((x1.extract 0 ((wrap64 ((x1.size : Int) - (x245002.size : Int))) : Int).toNat) ++ x245003)).bind fun t250 => (if t250 = true then (some ((x1.extract 0 ((wrap64 ((x1.size : Int) - (x245002.size : Int))) : Int).toNat) ++ x245003, true)) else (some ((⟨#[]⟩ : ByteArray), false)))) else (none)) else (none)) else (none)) else (some ((⟨#[]⟩ : ByteArray), false)))))
def impl_AffixDo.f (k : Nat) (a0_0 : ByteArray) (a0_1 : Bool) (a0_2 : ByteArray) (a0_3 : ByteArray) (a0_4 : ByteArray) (a1 : ByteArray) : Option (ByteArray × Bool) := (impl_AffixOk.f k a0_0 a0_1 a0_2 a0_3 a0_4).bind fun t245 => (if t245 = true then ((impl_WordOk.f k a1).bind fun t246 => (impl_AffixDo.j0 k a1 (!t246) a0_0 a0_1 a0_2 a0_3 a0_4)) else (impl_AffixDo.j0 k a1 true a0_0 a0_1 a0_2 a0_3 a0_4))
theorem impl_AffixDo.calls (k : Nat) (a0_0 : ByteArray) (a0_1 : Bool) (a0_2 : ByteArray) (a0_3 : ByteArray) (a0_4 : ByteArray) (a1 : ByteArray) (r1 : ByteArray) (r2 : Bool) (w : World) (h : impl_AffixDo.f k a0_0 a0_1 a0_2 a0_3 a0_4 a1 = some (r1, r2)) :
  Calls Tryz.prog 78 #[.agg #[.string a0_0, .bool a0_1, .string a0_2, .string a0_3, .string a0_4], .string a1] w fun e w' => e = .returned (.tuple #[.string r1, .bool r2]) ∧ Below w.heap.size w w' := by
 have hu82 := Tryz.underlying82; have HB := am (Below.refl w.heap.size w)
 have H : ((impl_AffixOk.f k a0_0 a0_1 a0_2 a0_3 a0_4).bind fun t245 => (if t245 = true then ((impl_WordOk.f k a1).bind fun t246 => (impl_AffixDo.j0 k a1 (!t246) a0_0 a0_1 a0_2 a0_3 a0_4)) else (impl_AffixDo.j0 k a1 true a0_0 a0_1 a0_2 a0_3 a0_4))) = some (r1, r2) := h
 clear h; have HC3 := am H; clear H; go_enter Tryz.func78, Tryz.ntmps78
 go_upto_region 1 with (first | ((with_reducible refine gate_dst (N := 2) rfl ?_); refine bx 2 (cs := #[.string a0_0, .bool a0_1, .string a0_2, .string a0_3, .string a0_4]) (t := 82) ?_; intro gb244 hg w4 hbox hb; have BK244 := am (hbox); have GW244 := am ((b19_ : w.heap.size ≤ gb244)); have GE244 := am ((b19_ : w.heap.size ≤ gb244)); replace HB := am (below_step bel hb); clear hb hbox hg))
 repeat (go_quiet (first | ((with_reducible refine gate_dst (N := 2) rfl ?_); refine bx 2 (cs := #[.string a0_0, .bool a0_1, .string a0_2, .string a0_3, .string a0_4]) (t := 82) ?_; intro gb244 hg w4 hbox hb; have BK244 := am (hbox); have GW244 := am ((b19_ : w.heap.size ≤ gb244)); have GE244 := am ((b19_ : w.heap.size ≤ gb244)); replace HB := am (below_step bel hb); clear hb hbox hg)); go_upto_region 1 with (first | ((with_reducible refine gate_dst (N := 2) rfl ?_); refine bx 2 (cs := #[.string a0_0, .bool a0_1, .string a0_2, .string a0_3, .string a0_4]) (t := 82) ?_; intro gb244 hg w4 hbox hb; have BK244 := am (hbox); have GW244 := am ((b19_ : w.heap.size ≤ gb244)); have GE244 := am ((b19_ : w.heap.size ≤ gb244)); replace HB := am (below_step bel hb); clear hb hbox hg)))
 (try simp only [Act.put, List.setIfInBounds_toArray, List.set_cons_zero, List.set_cons_succ])
 go_cut [14] (fun v14 wc => ∃ (kq : Nat) (x14_2 : Bool), v14 = .bool x14_2 ∧ Aside0 (impl_AffixDo.j0 kq a1 x14_2 a0_0 a0_1 a0_2 a0_3 a0_4 = some (r1, r2)) ∧ Aside0 (kq ≤ k) ∧ Aside0 (wc.heap[gb244]? = some (.cells #[.string a0_0, .bool a0_1, .string a0_2, .string a0_3, .string a0_4] 82 (0, 0))) ∧ Aside0 (Below w.heap.size w wc))
 case first =>
  have H := HC3.out; clear HC3; replace H := bs H; obtain ⟨t245, A50, H⟩ := H; replace H : (if t245 = true then ((impl_WordOk.f k a1).bind fun t246 => (impl_AffixDo.j0 k a1 (!t246) a0_0 a0_1 a0_2 a0_3 a0_4)) else (impl_AffixDo.j0 k a1 true a0_0 a0_1 a0_2 a0_3 a0_4)) = some (r1, r2) := H; have A5 := Aside0.mk A50; clear A50
  by_cases c6 : t245 = true
  ·subst c6
   have H1 : ((impl_WordOk.f k a1).bind fun t246 => (impl_AffixDo.j0 k a1 (!t246) a0_0 a0_1 a0_2 a0_3 a0_4)) = some (r1, r2) := b32_
   replace H := H1; clear H1
   replace H := bs H; obtain ⟨t246, A70, H⟩ := H; replace H : (impl_AffixDo.j0 k a1 (!t246) a0_0 a0_1 a0_2 a0_3 a0_4) = some (r1, r2) := H; have A7 := Aside0.mk A70; clear A70
   have H' := am H
   clear H; have hcz8_0 := bc BK244.out 0; have hcz8_1 := bc BK244.out 1; have hcz8_2 := bc BK244.out 2; have hcz8_3 := bc BK244.out 3; have hcz8_4 := bc BK244.out 4; have hfz8_0 := bf BK244.out 0; have hfz8_1 := bf BK244.out 1; have hfz8_2 := bf BK244.out 2; have hfz8_3 := bf BK244.out 3; have hfz8_4 := bf BK244.out 4
   go_wp2_with (first | (go_at_call 74; (with_reducible refine (impl_AffixOk.calls k a0_0 a0_1 a0_2 a0_3 a0_4 true _ A5.out).mono ?_); rintro e w9 ⟨rfl, hb⟩; replace BK244 := am (blk_below (g := gb244) (o := .cells #[.string a0_0, .bool a0_1, .string a0_2, .string a0_3, .string a0_4] 82 (0, 0)) (bq BK244.out) hb); replace HB := am (below_step (bel1 GE244.out) hb); (try clear hb); (try clear hb2); (try clear hk); (try clear hi)) | (go_at_call 100; (with_reducible refine (impl_WordOk.calls k a1 t246 _ A7.out).mono ?_); rintro e w' ⟨rfl, ⟨nd, rfl⟩⟩; (try first | exact ⟨rfl, _, World.drewN_drewN _ _ _⟩ | exact ⟨rfl, _, Eq.trans (World.drewN_drewN _ _ _) (congrArg (World.drewN _) (Nat.add_assoc _ _ _))⟩)))
   repeat (go_quiet (first | (go_at_call 74; (with_reducible refine (impl_AffixOk.calls k a0_0 a0_1 a0_2 a0_3 a0_4 true _ A5.out).mono ?_); rintro e w9 ⟨rfl, hb⟩; replace BK244 := am (blk_below (g := gb244) (o := .cells #[.string a0_0, .bool a0_1, .string a0_2, .string a0_3, .string a0_4] 82 (0, 0)) (bq BK244.out) hb); replace HB := am (below_step (bel1 GE244.out) hb); (try clear hb); (try clear hb2); (try clear hk); (try clear hi)) | (go_at_call 100; (with_reducible refine (impl_WordOk.calls k a1 t246 _ A7.out).mono ?_); rintro e w' ⟨rfl, ⟨nd, rfl⟩⟩; (try first | exact ⟨rfl, _, World.drewN_drewN _ _ _⟩ | exact ⟨rfl, _, Eq.trans (World.drewN_drewN _ _ _) (congrArg (World.drewN _) (Nat.add_assoc _ _ _))⟩))); try go_wp2_with (first | (go_at_call 74; (with_reducible refine (impl_AffixOk.calls k a0_0 a0_1 a0_2 a0_3 a0_4 true _ A5.out).mono ?_); rintro e w9 ⟨rfl, hb⟩; replace BK244 := am (blk_below (g := gb244) (o := .cells #[.string a0_0, .bool a0_1, .string a0_2, .string a0_3, .string a0_4] 82 (0, 0)) (bq BK244.out) hb); replace HB := am (below_step (bel1 GE244.out) hb); (try clear hb); (try clear hb2); (try clear hk); (try clear hi)) | (go_at_call 100; (with_reducible refine (impl_WordOk.calls k a1 t246 _ A7.out).mono ?_); rintro e w' ⟨rfl, ⟨nd, rfl⟩⟩; (try first | exact ⟨rfl, _, World.drewN_drewN _ _ _⟩ | exact ⟨rfl, _, Eq.trans (World.drewN_drewN _ _ _) (congrArg (World.drewN _) (Nat.add_assoc _ _ _))⟩))))
   go_meet
   case rel => exact ⟨_, (!t246), sq, H', ⟨b57_⟩, ⟨bq BK244.out⟩, ⟨bel1 GE244.out⟩⟩
  replace c6 := Bool.eq_false_iff.mpr c6; subst c6
  have H1 : (impl_AffixDo.j0 k a1 true a0_0 a0_1 a0_2 a0_3 a0_4) = some (r1, r2) := b13_
  replace H := H1; clear H1
  have H' := am H
  clear H; have hcz10_0 := bc BK244.out 0; have hcz10_1 := bc BK244.out 1; have hcz10_2 := bc BK244.out 2; have hcz10_3 := bc BK244.out 3; have hcz10_4 := bc BK244.out 4; have hfz10_0 := bf BK244.out 0; have hfz10_1 := bf BK244.out 1; have hfz10_2 := bf BK244.out 2; have hfz10_3 := bf BK244.out 3; have hfz10_4 := bf BK244.out 4
  go_wp2_with (first | (go_at_call 74; (with_reducible refine (impl_AffixOk.calls k a0_0 a0_1 a0_2 a0_3 a0_4 false _ A5.out).mono ?_); rintro e w11 ⟨rfl, hb⟩; replace BK244 := am (blk_below (g := gb244) (o := .cells #[.string a0_0, .bool a0_1, .string a0_2, .string a0_3, .string a0_4] 82 (0, 0)) (bq BK244.out) hb); replace HB := am (below_step (bel1 GE244.out) hb); (try clear hb); (try clear hb2); (try clear hk); (try clear hi)))
  repeat (go_quiet (first | (go_at_call 74; (with_reducible refine (impl_AffixOk.calls k a0_0 a0_1 a0_2 a0_3 a0_4 false _ A5.out).mono ?_); rintro e w11 ⟨rfl, hb⟩; replace BK244 := am (blk_below (g := gb244) (o := .cells #[.string a0_0, .bool a0_1, .string a0_2, .string a0_3, .string a0_4] 82 (0, 0)) (bq BK244.out) hb); replace HB := am (below_step (bel1 GE244.out) hb); (try clear hb); (try clear hb2); (try clear hk); (try clear hi))); try go_wp2_with (first | (go_at_call 74; (with_reducible refine (impl_AffixOk.calls k a0_0 a0_1 a0_2 a0_3 a0_4 false _ A5.out).mono ?_); rintro e w11 ⟨rfl, hb⟩; replace BK244 := am (blk_below (g := gb244) (o := .cells #[.string a0_0, .bool a0_1, .string a0_2, .string a0_3, .string a0_4] 82 (0, 0)) (bq BK244.out) hb); replace HB := am (below_step (bel1 GE244.out) hb); (try clear hb); (try clear hb2); (try clear hk); (try clear hi))))
  go_meet
  case rel => exact ⟨_, (true), sq, H', ⟨b57_⟩, ⟨bq BK244.out⟩, ⟨bel1 GE244.out⟩⟩
 case rest =>
  clear HC3; (try clear p2); (try clear c6); (try clear c7); (try clear hcz10_0); (try clear hcz10_1); (try clear hcz10_2); (try clear hcz10_3); (try clear hcz10_4); (try clear hcz8_0); (try clear hcz8_1); (try clear hcz8_2); (try clear hcz8_3); (try clear hcz8_4); (try clear hfz10_0); (try clear hfz10_1); (try clear hfz10_2); (try clear hfz10_3); (try clear hfz10_4); (try clear hfz8_0); (try clear hfz8_1); (try clear hfz8_2); (try clear hfz8_3); (try clear hfz8_4); obtain ⟨kq, x14_2, rfl, HA, HJ2, BK244, HB⟩ := hcut
  cases kq with
  | zero => exact absurd HA.out (by simp [impl_AffixDo.j0])
  | succ kj2 =>
   have H := HA.out; clear HA
   simp only [impl_AffixDo.j0] at H
   by_cases c12 : x14_2 = true
   ·subst c12
    have H1 : (some ((⟨#[]⟩ : ByteArray), false)) = some (r1, r2) := b32_
    replace H := H1; clear H1
    simp only [Option.some.injEq, Prod.mk.injEq] at H
    obtain ⟨rfl, rfl⟩ := H; go_wp2
    repeat (go_quiet (fail); try go_wp2)
    go_ret2
    exact ⟨eq_, bel1 GE244.out⟩
   replace c12 := Bool.eq_false_iff.mpr c12; subst c12
   have H1 : (if a0_1 = true then ((strings_HasPrefix.f a1 a0_4).bind fun t247 => (if t247 = true then (if 0 ≤ (a0_2.size : Int) then (if (a0_2.size : Int) ≤ (a1.size : Int) then (if a0_3.size + (a1.extract a0_2.size a1.size).size ≤ 9223372036854775807 then ((impl_WordOk.f kj2 (a0_3 ++ (a1.extract a0_2.size a1.size))).bind fun t248 => (if t248 = true then (some (a0_3 ++ (a1.extract a0_2.size a1.size), true)) else (some ((⟨#[]⟩ : ByteArray), false)))) else (none)) else (none)) else (none)) else (some ((⟨#[]⟩ : ByteArray), false)))) else ((strings_HasSuffix.f a1 a0_4).bind fun t249 => (if t249 = true then (if 0 ≤ (wrap64 ((a1.size : Int) - (a0_2.size : Int))) then (if (wrap64 ((a1.size : Int) - (a0_2.size : Int))) ≤ (a1.size : Int) then (if (a1.extract 0 ((wrap64 ((a1.size : Int) - (a0_2.size : Int))) : Int).toNat).size + a0_3.size ≤ 9223372036854775807 then ((impl_WordOk.f kj2 ((a1.extract 0 ((wrap64 ((a1.size : Int) - (a0_2.size : Int))) : Int).toNat) ++ a0_3)).bind fun t250 => (if t250 = true then (some ((a1.extract 0 ((wrap64 ((a1.size : Int) - (a0_2.size : Int))) : Int).toNat) ++ a0_3, true)) else (some ((⟨#[]⟩ : ByteArray), false)))) else (none)) else (none)) else (none)) else (some ((⟨#[]⟩ : ByteArray), false))))) = some (r1, r2) := b13_
   replace H := H1; clear H1
   by_cases c13 : a0_1 = true
   ·subst c13
    have H1 : ((strings_HasPrefix.f a1 a0_4).bind fun t247 => (if t247 = true then (if 0 ≤ (a0_2.size : Int) then (if (a0_2.size : Int) ≤ (a1.size : Int) then (if a0_3.size + (a1.extract a0_2.size a1.size).size ≤ 9223372036854775807 then ((impl_WordOk.f kj2 (a0_3 ++ (a1.extract a0_2.size a1.size))).bind fun t248 => (if t248 = true then (some (a0_3 ++ (a1.extract a0_2.size a1.size), true)) else (some ((⟨#[]⟩ : ByteArray), false)))) else (none)) else (none)) else (none)) else (some ((⟨#[]⟩ : ByteArray), false)))) = some (r1, r2) := b32_
    replace H := H1; clear H1
    replace H := bs H; obtain ⟨t247, A140, H⟩ := H; replace H : (if t247 = true then (if 0 ≤ (a0_2.size : Int) then (if (a0_2.size : Int) ≤ (a1.size : Int) then (if a0_3.size + (a1.extract a0_2.size a1.size).size ≤ 9223372036854775807 then ((impl_WordOk.f kj2 (a0_3 ++ (a1.extract a0_2.size a1.size))).bind fun t248 => (if t248 = true then (some (a0_3 ++ (a1.extract a0_2.size a1.size), true)) else (some ((⟨#[]⟩ : ByteArray), false)))) else (none)) else (none)) else (none)) else (some ((⟨#[]⟩ : ByteArray), false))) = some (r1, r2) := H; have A14 := Aside0.mk A140; clear A140
    by_cases c15 : t247 = true
    ·subst c15
     have H1 : (if 0 ≤ (a0_2.size : Int) then (if (a0_2.size : Int) ≤ (a1.size : Int) then (if a0_3.size + (a1.extract a0_2.size a1.size).size ≤ 9223372036854775807 then ((impl_WordOk.f kj2 (a0_3 ++ (a1.extract a0_2.size a1.size))).bind fun t248 => (if t248 = true then (some (a0_3 ++ (a1.extract a0_2.size a1.size), true)) else (some ((⟨#[]⟩ : ByteArray), false)))) else (none)) else (none)) else (none)) = some (r1, r2) := b32_
     replace H := H1; clear H1
     replace H := ip H; obtain ⟨c16, H⟩ := H; have c16b0 := eq_true c16
     have c16b1 : decide (0 ≤ (a0_2.size : Int)) = true := decide_eq_true c16
     clear c16
     replace H := ip H; obtain ⟨c17, H⟩ := H; have c17b0 := eq_true c17
     have c17b9 : (a0_2.size ≤ a1.size) = True := eq_true (by omega)
     have c17b6 : decide (a0_2.size ≤ a1.size) = true := decide_eq_true (by omega)
     have c17b1 : decide ((a0_2.size : Int) ≤ (a1.size : Int)) = true := decide_eq_true c17
     clear c17
     replace H := ip H; obtain ⟨c18, H⟩ := H; have c18b0 := eq_true c18; have c18b5 := c18
     try simp at c18b5
     try have c18b4 := eq_false (Nat.not_lt.2 c18b5)
     try have c18b3 : (9223372036854775807 < a0_3.size + (a1.size - a0_2.size)) = False := by
           have h_ := c18
           simp only [ByteArray.size_append, ByteArray.size_extract] at h_
           exact eq_false (by omega)
     have c18b1 : decide (a0_3.size + (a1.extract a0_2.size a1.size).size ≤ 9223372036854775807) = true := decide_eq_true c18
     try have c18b2 : (9223372036854775807 < a0_3.size + (a1.extract a0_2.size a1.size).size) = False := eq_false (Nat.not_lt.2 c18)
     replace H := bs H; obtain ⟨t248, A190, H⟩ := H; replace H : (if t248 = true then (some (a0_3 ++ (a1.extract a0_2.size a1.size), true)) else (some ((⟨#[]⟩ : ByteArray), false))) = some (r1, r2) := H; have A19 := Aside0.mk A190; clear A190
     by_cases c20 : t248 = true
     ·subst c20
      have H1 : (some (a0_3 ++ (a1.extract a0_2.size a1.size), true)) = some (r1, r2) := b32_
      replace H := H1; clear H1
      simp only [Option.some.injEq, Prod.mk.injEq] at H
      obtain ⟨rfl, rfl⟩ := H; have hcz21_0 := bc BK244.out 0; have hcz21_1 := bc BK244.out 1; have hcz21_2 := bc BK244.out 2; have hcz21_3 := bc BK244.out 3; have hcz21_4 := bc BK244.out 4; have hfz21_0 := bf BK244.out 0; have hfz21_1 := bf BK244.out 1; have hfz21_2 := bf BK244.out 2; have hfz21_3 := bf BK244.out 3; have hfz21_4 := bf BK244.out 4
      go_wp2_with (first | (go_at_call 97; (with_reducible refine (strings_HasPrefix.calls a1 a0_4 true _ A14.out).mono ?_); rintro e w' ⟨rfl, ⟨nd, rfl⟩⟩; (try first | exact ⟨rfl, _, World.drewN_drewN _ _ _⟩ | exact ⟨rfl, _, Eq.trans (World.drewN_drewN _ _ _) (congrArg (World.drewN _) (Nat.add_assoc _ _ _))⟩)) | (go_at_call 100; (with_reducible refine (impl_WordOk.calls kj2 (a0_3 ++ (a1.extract a0_2.size a1.size)) true _ A19.out).mono ?_); rintro e w' ⟨rfl, ⟨nd, rfl⟩⟩; (try first | exact ⟨rfl, _, World.drewN_drewN _ _ _⟩ | exact ⟨rfl, _, Eq.trans (World.drewN_drewN _ _ _) (congrArg (World.drewN _) (Nat.add_assoc _ _ _))⟩)))
      repeat (go_quiet (first | (go_at_call 97; (with_reducible refine (strings_HasPrefix.calls a1 a0_4 true _ A14.out).mono ?_); rintro e w' ⟨rfl, ⟨nd, rfl⟩⟩; (try first | exact ⟨rfl, _, World.drewN_drewN _ _ _⟩ | exact ⟨rfl, _, Eq.trans (World.drewN_drewN _ _ _) (congrArg (World.drewN _) (Nat.add_assoc _ _ _))⟩)) | (go_at_call 100; (with_reducible refine (impl_WordOk.calls kj2 (a0_3 ++ (a1.extract a0_2.size a1.size)) true _ A19.out).mono ?_); rintro e w' ⟨rfl, ⟨nd, rfl⟩⟩; (try first | exact ⟨rfl, _, World.drewN_drewN _ _ _⟩ | exact ⟨rfl, _, Eq.trans (World.drewN_drewN _ _ _) (congrArg (World.drewN _) (Nat.add_assoc _ _ _))⟩))); try go_wp2_with (first | (go_at_call 97; (with_reducible refine (strings_HasPrefix.calls a1 a0_4 true _ A14.out).mono ?_); rintro e w' ⟨rfl, ⟨nd, rfl⟩⟩; (try first | exact ⟨rfl, _, World.drewN_drewN _ _ _⟩ | exact ⟨rfl, _, Eq.trans (World.drewN_drewN _ _ _) (congrArg (World.drewN _) (Nat.add_assoc _ _ _))⟩)) | (go_at_call 100; (with_reducible refine (impl_WordOk.calls kj2 (a0_3 ++ (a1.extract a0_2.size a1.size)) true _ A19.out).mono ?_); rintro e w' ⟨rfl, ⟨nd, rfl⟩⟩; (try first | exact ⟨rfl, _, World.drewN_drewN _ _ _⟩ | exact ⟨rfl, _, Eq.trans (World.drewN_drewN _ _ _) (congrArg (World.drewN _) (Nat.add_assoc _ _ _))⟩))))
      go_ret2
      exact ⟨eq_, bel1 GE244.out⟩
     replace c20 := Bool.eq_false_iff.mpr c20; subst c20
     have H1 : (some ((⟨#[]⟩ : ByteArray), false)) = some (r1, r2) := b13_
     replace H := H1; clear H1
     simp only [Option.some.injEq, Prod.mk.injEq] at H
     obtain ⟨rfl, rfl⟩ := H; have hcz22_0 := bc BK244.out 0; have hcz22_1 := bc BK244.out 1; have hcz22_2 := bc BK244.out 2; have hcz22_3 := bc BK244.out 3; have hcz22_4 := bc BK244.out 4; have hfz22_0 := bf BK244.out 0; have hfz22_1 := bf BK244.out 1; have hfz22_2 := bf BK244.out 2; have hfz22_3 := bf BK244.out 3; have hfz22_4 := bf BK244.out 4
     go_wp2_with (first | (go_at_call 97; (with_reducible refine (strings_HasPrefix.calls a1 a0_4 true _ A14.out).mono ?_); rintro e w' ⟨rfl, ⟨nd, rfl⟩⟩; (try first | exact ⟨rfl, _, World.drewN_drewN _ _ _⟩ | exact ⟨rfl, _, Eq.trans (World.drewN_drewN _ _ _) (congrArg (World.drewN _) (Nat.add_assoc _ _ _))⟩)) | (go_at_call 100; (with_reducible refine (impl_WordOk.calls kj2 (a0_3 ++ (a1.extract a0_2.size a1.size)) false _ A19.out).mono ?_); rintro e w' ⟨rfl, ⟨nd, rfl⟩⟩; (try first | exact ⟨rfl, _, World.drewN_drewN _ _ _⟩ | exact ⟨rfl, _, Eq.trans (World.drewN_drewN _ _ _) (congrArg (World.drewN _) (Nat.add_assoc _ _ _))⟩)))
     repeat (go_quiet (first | (go_at_call 97; (with_reducible refine (strings_HasPrefix.calls a1 a0_4 true _ A14.out).mono ?_); rintro e w' ⟨rfl, ⟨nd, rfl⟩⟩; (try first | exact ⟨rfl, _, World.drewN_drewN _ _ _⟩ | exact ⟨rfl, _, Eq.trans (World.drewN_drewN _ _ _) (congrArg (World.drewN _) (Nat.add_assoc _ _ _))⟩)) | (go_at_call 100; (with_reducible refine (impl_WordOk.calls kj2 (a0_3 ++ (a1.extract a0_2.size a1.size)) false _ A19.out).mono ?_); rintro e w' ⟨rfl, ⟨nd, rfl⟩⟩; (try first | exact ⟨rfl, _, World.drewN_drewN _ _ _⟩ | exact ⟨rfl, _, Eq.trans (World.drewN_drewN _ _ _) (congrArg (World.drewN _) (Nat.add_assoc _ _ _))⟩))); try go_wp2_with (first | (go_at_call 97; (with_reducible refine (strings_HasPrefix.calls a1 a0_4 true _ A14.out).mono ?_); rintro e w' ⟨rfl, ⟨nd, rfl⟩⟩; (try first | exact ⟨rfl, _, World.drewN_drewN _ _ _⟩ | exact ⟨rfl, _, Eq.trans (World.drewN_drewN _ _ _) (congrArg (World.drewN _) (Nat.add_assoc _ _ _))⟩)) | (go_at_call 100; (with_reducible refine (impl_WordOk.calls kj2 (a0_3 ++ (a1.extract a0_2.size a1.size)) false _ A19.out).mono ?_); rintro e w' ⟨rfl, ⟨nd, rfl⟩⟩; (try first | exact ⟨rfl, _, World.drewN_drewN _ _ _⟩ | exact ⟨rfl, _, Eq.trans (World.drewN_drewN _ _ _) (congrArg (World.drewN _) (Nat.add_assoc _ _ _))⟩))))
     go_ret2
     exact ⟨eq_, bel1 GE244.out⟩
    replace c15 := Bool.eq_false_iff.mpr c15; subst c15
    have H1 : (some ((⟨#[]⟩ : ByteArray), false)) = some (r1, r2) := b13_
    replace H := H1; clear H1
    simp only [Option.some.injEq, Prod.mk.injEq] at H
    obtain ⟨rfl, rfl⟩ := H; have hcz23_0 := bc BK244.out 0; have hcz23_1 := bc BK244.out 1; have hcz23_2 := bc BK244.out 2; have hcz23_3 := bc BK244.out 3; have hcz23_4 := bc BK244.out 4; have hfz23_0 := bf BK244.out 0; have hfz23_1 := bf BK244.out 1; have hfz23_2 := bf BK244.out 2; have hfz23_3 := bf BK244.out 3; have hfz23_4 := bf BK244.out 4
    go_wp2_with (first | (go_at_call 97; (with_reducible refine (strings_HasPrefix.calls a1 a0_4 false _ A14.out).mono ?_); rintro e w' ⟨rfl, ⟨nd, rfl⟩⟩; (try first | exact ⟨rfl, _, World.drewN_drewN _ _ _⟩ | exact ⟨rfl, _, Eq.trans (World.drewN_drewN _ _ _) (congrArg (World.drewN _) (Nat.add_assoc _ _ _))⟩)))
    repeat (go_quiet (first | (go_at_call 97; (with_reducible refine (strings_HasPrefix.calls a1 a0_4 false _ A14.out).mono ?_); rintro e w' ⟨rfl, ⟨nd, rfl⟩⟩; (try first | exact ⟨rfl, _, World.drewN_drewN _ _ _⟩ | exact ⟨rfl, _, Eq.trans (World.drewN_drewN _ _ _) (congrArg (World.drewN _) (Nat.add_assoc _ _ _))⟩))); try go_wp2_with (first | (go_at_call 97; (with_reducible refine (strings_HasPrefix.calls a1 a0_4 false _ A14.out).mono ?_); rintro e w' ⟨rfl, ⟨nd, rfl⟩⟩; (try first | exact ⟨rfl, _, World.drewN_drewN _ _ _⟩ | exact ⟨rfl, _, Eq.trans (World.drewN_drewN _ _ _) (congrArg (World.drewN _) (Nat.add_assoc _ _ _))⟩))))
    go_ret2
    exact ⟨eq_, bel1 GE244.out⟩
   replace c13 := Bool.eq_false_iff.mpr c13; subst c13
   have H1 : ((strings_HasSuffix.f a1 a0_4).bind fun t249 => (if t249 = true then (if 0 ≤ (wrap64 ((a1.size : Int) - (a0_2.size : Int))) then (if (wrap64 ((a1.size : Int) - (a0_2.size : Int))) ≤ (a1.size : Int) then (if (a1.extract 0 ((wrap64 ((a1.size : Int) - (a0_2.size : Int))) : Int).toNat).size + a0_3.size ≤ 9223372036854775807 then ((impl_WordOk.f kj2 ((a1.extract 0 ((wrap64 ((a1.size : Int) - (a0_2.size : Int))) : Int).toNat) ++ a0_3)).bind fun t250 => (if t250 = true then (some ((a1.extract 0 ((wrap64 ((a1.size : Int) - (a0_2.size : Int))) : Int).toNat) ++ a0_3, true)) else (some ((⟨#[]⟩ : ByteArray), false)))) else (none)) else (none)) else (none)) else (some ((⟨#[]⟩ : ByteArray), false)))) = some (r1, r2) := b13_
   replace H := H1; clear H1
   replace H := bs H; obtain ⟨t249, A240, H⟩ := H; replace H : (if t249 = true then (if 0 ≤ (wrap64 ((a1.size : Int) - (a0_2.size : Int))) then (if (wrap64 ((a1.size : Int) - (a0_2.size : Int))) ≤ (a1.size : Int) then (if (a1.extract 0 ((wrap64 ((a1.size : Int) - (a0_2.size : Int))) : Int).toNat).size + a0_3.size ≤ 9223372036854775807 then ((impl_WordOk.f kj2 ((a1.extract 0 ((wrap64 ((a1.size : Int) - (a0_2.size : Int))) : Int).toNat) ++ a0_3)).bind fun t250 => (if t250 = true then (some ((a1.extract 0 ((wrap64 ((a1.size : Int) - (a0_2.size : Int))) : Int).toNat) ++ a0_3, true)) else (some ((⟨#[]⟩ : ByteArray), false)))) else (none)) else (none)) else (none)) else (some ((⟨#[]⟩ : ByteArray), false))) = some (r1, r2) := H; have A24 := Aside0.mk A240; clear A240
   by_cases c25 : t249 = true
   ·subst c25
    have H1 : (if 0 ≤ (wrap64 ((a1.size : Int) - (a0_2.size : Int))) then (if (wrap64 ((a1.size : Int) - (a0_2.size : Int))) ≤ (a1.size : Int) then (if (a1.extract 0 ((wrap64 ((a1.size : Int) - (a0_2.size : Int))) : Int).toNat).size + a0_3.size ≤ 9223372036854775807 then ((impl_WordOk.f kj2 ((a1.extract 0 ((wrap64 ((a1.size : Int) - (a0_2.size : Int))) : Int).toNat) ++ a0_3)).bind fun t250 => (if t250 = true then (some ((a1.extract 0 ((wrap64 ((a1.size : Int) - (a0_2.size : Int))) : Int).toNat) ++ a0_3, true)) else (some ((⟨#[]⟩ : ByteArray), false)))) else (none)) else (none)) else (none)) = some (r1, r2) := b32_
    replace H := H1; clear H1
    obtain ⟨ji26, hji26⟩ : ∃ j_ : Int, (wrap64 ((a1.size : Int) - (a0_2.size : Int))) = j_ := ⟨_, rfl⟩
    replace H : (if 0 ≤ (ji26) then (if (ji26) ≤ (a1.size : Int) then (if (a1.extract 0 ((ji26) : Int).toNat).size + a0_3.size ≤ 9223372036854775807 then ((impl_WordOk.f kj2 ((a1.extract 0 ((ji26) : Int).toNat) ++ a0_3)).bind fun t250 => (if t250 = true then (some ((a1.extract 0 ((ji26) : Int).toNat) ++ a0_3, true)) else (some ((⟨#[]⟩ : ByteArray), false)))) else (none)) else (none)) else (none)) = some (r1, r2) := by first | (rw [hji26] at H; exact H) | (simp only [hji26] at H ⊢; exact H)
    (try rw [hji26] at A24)
    have hji26w : (IntKind.i64.wrap ((a1.size : Int) - (a0_2.size : Int))) = ji26 := (i64_w _).trans hji26
    replace H := ip H; obtain ⟨c27, H⟩ := H; have c27b0 := eq_true c27
    have c27b1 : decide (0 ≤ (ji26)) = true := decide_eq_true c27
    clear c27
    replace H := ip H; obtain ⟨c28, H⟩ := H; have c28b0 := eq_true c28
    have c28b1 : decide ((ji26) ≤ (a1.size : Int)) = true := decide_eq_true c28
    clear c28
    replace H := ip H; obtain ⟨c29, H⟩ := H; have c29b0 := eq_true c29; have c29b5 := c29
    try simp at c29b5
    try have c29b4 := eq_false (Nat.not_lt.2 c29b5)
    try have c29b3 : (9223372036854775807 < ((ji26) : Int).toNat + a0_3.size) = False := by
          have h_ := c29
          simp only [ByteArray.size_append, ByteArray.size_extract] at h_
          have g0_ : ((ji26)) ≤ (a1.size : Int) := of_decide_eq_true ad
          exact eq_false (by omega)
    have c29b1 : decide ((a1.extract 0 ((ji26) : Int).toNat).size + a0_3.size ≤ 9223372036854775807) = true := decide_eq_true c29
    try have c29b2 : (9223372036854775807 < (a1.extract 0 ((ji26) : Int).toNat).size + a0_3.size) = False := eq_false (Nat.not_lt.2 c29)
    replace H := bs H; obtain ⟨t250, A300, H⟩ := H; replace H : (if t250 = true then (some ((a1.extract 0 ((ji26) : Int).toNat) ++ a0_3, true)) else (some ((⟨#[]⟩ : ByteArray), false))) = some (r1, r2) := H; have A30 := Aside0.mk A300; clear A300
    by_cases c31 : t250 = true
    ·subst c31
     have H1 : (some ((a1.extract 0 ((ji26) : Int).toNat) ++ a0_3, true)) = some (r1, r2) := b32_
     replace H := H1; clear H1
     simp only [Option.some.injEq, Prod.mk.injEq] at H
     obtain ⟨rfl, rfl⟩ := H; have hcz32_0 := bc BK244.out 0; have hcz32_1 := bc BK244.out 1; have hcz32_2 := bc BK244.out 2; have hcz32_3 := bc BK244.out 3; have hcz32_4 := bc BK244.out 4; have hfz32_0 := bf BK244.out 0; have hfz32_1 := bf BK244.out 1; have hfz32_2 := bf BK244.out 2; have hfz32_3 := bf BK244.out 3; have hfz32_4 := bf BK244.out 4
     go_wp2_with (first | (go_at_call 98; (with_reducible refine (strings_HasSuffix.calls a1 a0_4 true _ A24.out).mono ?_); rintro e w' ⟨rfl, ⟨nd, rfl⟩⟩; (try first | exact ⟨rfl, _, World.drewN_drewN _ _ _⟩ | exact ⟨rfl, _, Eq.trans (World.drewN_drewN _ _ _) (congrArg (World.drewN _) (Nat.add_assoc _ _ _))⟩)) | (go_at_call 100; (with_reducible refine (impl_WordOk.calls kj2 ((a1.extract 0 ((ji26) : Int).toNat) ++ a0_3) true _ A30.out).mono ?_); rintro e w' ⟨rfl, ⟨nd, rfl⟩⟩; (try first | exact ⟨rfl, _, World.drewN_drewN _ _ _⟩ | exact ⟨rfl, _, Eq.trans (World.drewN_drewN _ _ _) (congrArg (World.drewN _) (Nat.add_assoc _ _ _))⟩)))
     repeat (go_quiet (first | (go_at_call 98; (with_reducible refine (strings_HasSuffix.calls a1 a0_4 true _ A24.out).mono ?_); rintro e w' ⟨rfl, ⟨nd, rfl⟩⟩; (try first | exact ⟨rfl, _, World.drewN_drewN _ _ _⟩ | exact ⟨rfl, _, Eq.trans (World.drewN_drewN _ _ _) (congrArg (World.drewN _) (Nat.add_assoc _ _ _))⟩)) | (go_at_call 100; (with_reducible refine (impl_WordOk.calls kj2 ((a1.extract 0 ((ji26) : Int).toNat) ++ a0_3) true _ A30.out).mono ?_); rintro e w' ⟨rfl, ⟨nd, rfl⟩⟩; (try first | exact ⟨rfl, _, World.drewN_drewN _ _ _⟩ | exact ⟨rfl, _, Eq.trans (World.drewN_drewN _ _ _) (congrArg (World.drewN _) (Nat.add_assoc _ _ _))⟩))); try go_wp2_with (first | (go_at_call 98; (with_reducible refine (strings_HasSuffix.calls a1 a0_4 true _ A24.out).mono ?_); rintro e w' ⟨rfl, ⟨nd, rfl⟩⟩; (try first | exact ⟨rfl, _, World.drewN_drewN _ _ _⟩ | exact ⟨rfl, _, Eq.trans (World.drewN_drewN _ _ _) (congrArg (World.drewN _) (Nat.add_assoc _ _ _))⟩)) | (go_at_call 100; (with_reducible refine (impl_WordOk.calls kj2 ((a1.extract 0 ((ji26) : Int).toNat) ++ a0_3) true _ A30.out).mono ?_); rintro e w' ⟨rfl, ⟨nd, rfl⟩⟩; (try first | exact ⟨rfl, _, World.drewN_drewN _ _ _⟩ | exact ⟨rfl, _, Eq.trans (World.drewN_drewN _ _ _) (congrArg (World.drewN _) (Nat.add_assoc _ _ _))⟩))))
     go_ret2
     exact ⟨b72_, bel1 GE244.out⟩
    replace c31 := Bool.eq_false_iff.mpr c31; subst c31
    have H1 : (some ((⟨#[]⟩ : ByteArray), false)) = some (r1, r2) := b13_
    replace H := H1; clear H1
    simp only [Option.some.injEq, Prod.mk.injEq] at H
    obtain ⟨rfl, rfl⟩ := H; have hcz33_0 := bc BK244.out 0; have hcz33_1 := bc BK244.out 1; have hcz33_2 := bc BK244.out 2; have hcz33_3 := bc BK244.out 3; have hcz33_4 := bc BK244.out 4; have hfz33_0 := bf BK244.out 0; have hfz33_1 := bf BK244.out 1; have hfz33_2 := bf BK244.out 2; have hfz33_3 := bf BK244.out 3; have hfz33_4 := bf BK244.out 4
    go_wp2_with (first | (go_at_call 98; (with_reducible refine (strings_HasSuffix.calls a1 a0_4 true _ A24.out).mono ?_); rintro e w' ⟨rfl, ⟨nd, rfl⟩⟩; (try first | exact ⟨rfl, _, World.drewN_drewN _ _ _⟩ | exact ⟨rfl, _, Eq.trans (World.drewN_drewN _ _ _) (congrArg (World.drewN _) (Nat.add_assoc _ _ _))⟩)) | (go_at_call 100; (with_reducible refine (impl_WordOk.calls kj2 ((a1.extract 0 ((ji26) : Int).toNat) ++ a0_3) false _ A30.out).mono ?_); rintro e w' ⟨rfl, ⟨nd, rfl⟩⟩; (try first | exact ⟨rfl, _, World.drewN_drewN _ _ _⟩ | exact ⟨rfl, _, Eq.trans (World.drewN_drewN _ _ _) (congrArg (World.drewN _) (Nat.add_assoc _ _ _))⟩)))
    repeat (go_quiet (first | (go_at_call 98; (with_reducible refine (strings_HasSuffix.calls a1 a0_4 true _ A24.out).mono ?_); rintro e w' ⟨rfl, ⟨nd, rfl⟩⟩; (try first | exact ⟨rfl, _, World.drewN_drewN _ _ _⟩ | exact ⟨rfl, _, Eq.trans (World.drewN_drewN _ _ _) (congrArg (World.drewN _) (Nat.add_assoc _ _ _))⟩)) | (go_at_call 100; (with_reducible refine (impl_WordOk.calls kj2 ((a1.extract 0 ((ji26) : Int).toNat) ++ a0_3) false _ A30.out).mono ?_); rintro e w' ⟨rfl, ⟨nd, rfl⟩⟩; (try first | exact ⟨rfl, _, World.drewN_drewN _ _ _⟩ | exact ⟨rfl, _, Eq.trans (World.drewN_drewN _ _ _) (congrArg (World.drewN _) (Nat.add_assoc _ _ _))⟩))); try go_wp2_with (first | (go_at_call 98; (with_reducible refine (strings_HasSuffix.calls a1 a0_4 true _ A24.out).mono ?_); rintro e w' ⟨rfl, ⟨nd, rfl⟩⟩; (try first | exact ⟨rfl, _, World.drewN_drewN _ _ _⟩ | exact ⟨rfl, _, Eq.trans (World.drewN_drewN _ _ _) (congrArg (World.drewN _) (Nat.add_assoc _ _ _))⟩)) | (go_at_call 100; (with_reducible refine (impl_WordOk.calls kj2 ((a1.extract 0 ((ji26) : Int).toNat) ++ a0_3) false _ A30.out).mono ?_); rintro e w' ⟨rfl, ⟨nd, rfl⟩⟩; (try first | exact ⟨rfl, _, World.drewN_drewN _ _ _⟩ | exact ⟨rfl, _, Eq.trans (World.drewN_drewN _ _ _) (congrArg (World.drewN _) (Nat.add_assoc _ _ _))⟩))))
    go_ret2
    exact ⟨b72_, bel1 GE244.out⟩
   replace c25 := Bool.eq_false_iff.mpr c25; subst c25
   have H1 : (some ((⟨#[]⟩ : ByteArray), false)) = some (r1, r2) := b13_
   replace H := H1; clear H1
   simp only [Option.some.injEq, Prod.mk.injEq] at H
   obtain ⟨rfl, rfl⟩ := H; have hcz34_0 := bc BK244.out 0; have hcz34_1 := bc BK244.out 1; have hcz34_2 := bc BK244.out 2; have hcz34_3 := bc BK244.out 3; have hcz34_4 := bc BK244.out 4; have hfz34_0 := bf BK244.out 0; have hfz34_1 := bf BK244.out 1; have hfz34_2 := bf BK244.out 2; have hfz34_3 := bf BK244.out 3; have hfz34_4 := bf BK244.out 4
   go_wp2_with (first | (go_at_call 98; (with_reducible refine (strings_HasSuffix.calls a1 a0_4 false _ A24.out).mono ?_); rintro e w' ⟨rfl, ⟨nd, rfl⟩⟩; (try first | exact ⟨rfl, _, World.drewN_drewN _ _ _⟩ | exact ⟨rfl, _, Eq.trans (World.drewN_drewN _ _ _) (congrArg (World.drewN _) (Nat.add_assoc _ _ _))⟩)))
   repeat (go_quiet (first | (go_at_call 98; (with_reducible refine (strings_HasSuffix.calls a1 a0_4 false _ A24.out).mono ?_); rintro e w' ⟨rfl, ⟨nd, rfl⟩⟩; (try first | exact ⟨rfl, _, World.drewN_drewN _ _ _⟩ | exact ⟨rfl, _, Eq.trans (World.drewN_drewN _ _ _) (congrArg (World.drewN _) (Nat.add_assoc _ _ _))⟩))); try go_wp2_with (first | (go_at_call 98; (with_reducible refine (strings_HasSuffix.calls a1 a0_4 false _ A24.out).mono ?_); rintro e w' ⟨rfl, ⟨nd, rfl⟩⟩; (try first | exact ⟨rfl, _, World.drewN_drewN _ _ _⟩ | exact ⟨rfl, _, Eq.trans (World.drewN_drewN _ _ _) (congrArg (World.drewN _) (Nat.add_assoc _ _ _))⟩))))
   go_ret2
   exact ⟨eq_, bel1 GE244.out⟩
-- shrunk

/-! ### impl_Forms: function 54 -/
mutual
def impl_Forms.j0 : Nat → List (S82) → Bool → ByteArray → ByteArray → Option (List ByteArray)
 | 0, _, _, _, _ => none
 | k + 1, x0, x21, x252000, x252001 => if x21 = true then (some (([] : List ByteArray))) else ((some (([false, true] : List Bool) : List Bool)).bind fun y260 => (impl_Forms.l0 k x0 (([x252000] : List ByteArray)) y260 (y260.length : Int) 0 x252000 x252001))
def impl_Forms.l0 : Nat → List (S82) → List ByteArray → List Bool → Int → Int → ByteArray → ByteArray → Option (List ByteArray)
 | 0, _, _, _, _, _, _, _ => none
 | k + 1, x0, x5, x26, x27, x28, x252000, x252001 => if x28 < x27 then (if 0 ≤ x28 then (if x28 < (x26.length : Int) then ((some (([] : List ByteArray) : List ByteArray)).bind fun y267 => (if y267.length + x5.length < 8796093022208 then ((some (y267 ++ x5 : List ByteArray)).bind fun y270 => (impl_Forms.l1 k x0 x5 (rdOf false x26 x28) x26 x27 x28 y270 (y270.length : Int) 0 x252000 x252001)) else (none))) else (none)) else (none)) else ((impl_sorted.f x5).bind fun t263 => (some t263))
def impl_Forms.l1 : Nat → List (S82) → List ByteArray → Bool → List Bool → Int → Int → List ByteArray → Int → Int → ByteArray → ByteArray → Option (List ByteArray)
 | 0, _, _, _, _, _, _, _, _, _, _, _ => none
 | k + 1, x0, x5, x7, x26, x27, x28, x34, x35, x36, x252000, x252001 => if x36 < x35 then (if 0 ≤ x36 then (if x36 < (x34.length : Int) then (impl_Forms.l2 k x0 x5 x7 (rdOf ByteArray.empty x34 x36) x26 x27 x28 x34 x35 x36 x0 (x0.length : Int) 0 x252000 x252001) else (none)) else (none)) else (impl_Forms.l0 k x0 x5 x26 x27 (wrap64 (x28 + 1)) x252000 x252001)
def impl_Forms.l2 : Nat → List (S82) → List ByteArray → Bool → ByteArray → List Bool → Int → Int → List ByteArray → Int → Int → List (S82) → Int → Int → ByteArray → ByteArray → Option (List ByteArray)
 | 0, _, _, _, _, _, _, _, _, _, _, _, _, _, _, _ => none
 | k + 1, x0, x5, x7, x9, x26, x27, x28, x34, x35, x36, x40, x41, x42, x252000, x252001 => if x42 < x41 then (if 0 ≤ x42 then (if x42 < (x40.length : Int) then (if (((rd_T82 x40 x42).f1) != x7) = true then (impl_Forms.j4 k x0 x5 x7 x9 x26 x27 x28 x34 x35 x36 x40 x41 x42 true x252000 x252001 ((rd_T82 x40 x42).f0) ((rd_T82 x40 x42).f1) ((rd_T82 x40 x42).f2) ((rd_T82 x40 x42).f3) ((rd_T82 x40 x42).f4)) else ((strings_Contains.f x252001 ((rd_T82 x40 x42).f0)).bind fun t276 => (impl_Forms.j4 k x0 x5 x7 x9 x26 x27 x28 x34 x35 x36 x40 x41 x42 (!t276) x252000 x252001 ((rd_T82 x40 x42).f0) ((rd_T82 x40 x42).f1) ((rd_T82 x40 x42).f2) ((rd_T82 x40 x42).f3) ((rd_T82 x40 x42).f4)))) else (none)) else (none)) else (impl_Forms.l1 k x0 x5 x7 x26 x27 x28 x34 x35 (wrap64 (x36 + 1)) x252000 x252001)
def impl_Forms.j4 : Nat → List (S82) → List ByteArray → Bool → ByteArray → List Bool → Int → Int → List ByteArray → Int → Int → List (S82) → Int → Int → Bool → ByteArray → ByteArray → ByteArray → Bool → ByteArray → ByteArray → ByteArray → Option (List ByteArray)
 | 0, _, _, _, _, _, _, _, _, _, _, _, _, _, _, _, _, _, _, _, _, _ => none
 | k + 1, x0, x5, x7, x9, x26, x27, x28, x34, x35, x36, x40, x41, x42, x57, x252000, x252001, x276000, x276001, x276002, x276003, x276004 => if x57 = true then (impl_Forms.l2 k x0 x5 x7 x9 x26 x27 x28 x34 x35 x36 x40 x41 (wrap64 (x42 + 1)) x252000 x252001) else (if x7 = true then (impl_Forms.j5 k x0 x5 x7 x9 x26 x27 x28 x34 x35 x36 x40 x41 x42 true x252000 x252001 x276000 x276001 x276002 x276003 x276004) else (impl_Forms.j5 k x0 x5 x7 x9 x26 x27 x28 x34 x35 x36 x40 x41 x42 (x9.toList == x252000.toList) x252000 x252001 x276000 x276001 x276002 x276003 x276004))
def impl_Forms.j5 : Nat → List (S82) → List ByteArray → Bool → ByteArray → List Bool → Int → Int → List ByteArray → Int → Int → List (S82) → Int → Int → Bool → ByteArray → ByteArray → ByteArray → Bool → ByteArray → ByteArray → ByteArray → Option (List ByteArray)
 | 0, _, _, _, _, _, _, _, _, _, _, _, _, _, _, _, _, _, _, _, _, _ => none
 | k + 1, x0, x5, x7, x9, x26, x27, x28, x34, x35, x36, x40, x41, x42, x64, x252000, x252001, x276000, x276001, x276002, x276003, x276004 => if x64 = true then ((impl_AffixDo.f k x276000 x276001 x276002 x276003 x276004 x9).bind fun bt277 => (if bt277.2 = true then (if x5.length < 8796093022208 then (impl_Forms.l2 k x0 (x5 ++ [bt277.1]) x7 x9 x26 x27 x28 x34 x35 x36 x40 x41 (wrap64 (x42 + 1)) x252000 x252001) else (none)) else (impl_Forms.l2 k x0 x5 x7 x9 x26 x27 x28 x34 x35 x36 x40 x41 (wrap64 (x42 + 1)) x252000 x252001))) else (impl_Forms.l2 k x0 x5 x7 x9 x26 x27 x28 x34 x35 x36 x40 x41 (wrap64 (x42 + 1)) x252000 x252001)
end
def impl_Forms.f (k : Nat) (l0 : List (S82)) (a1_0 : ByteArray) (a1_1 : ByteArray) : Option (List ByteArray) := (impl_affixesOk.f k l0).bind fun t252 => (if t252 = true then ((impl_entryOk.f k a1_0 a1_1).bind fun t253 => (impl_Forms.j0 k l0 (!t253) a1_0 a1_1)) else (impl_Forms.j0 k l0 true a1_0 a1_1))
theorem impl_Forms.calls (k : Nat) (A0 : Option Addr) (c0 : Nat) (l0 : List (S82)) (a1_0 : ByteArray) (a1_1 : ByteArray) (r : List ByteArray) (w : World) (hr0 : Kd.C k82 w A0 l0.length l0) (hc0 : l0.length ≤ c0) (h : impl_Forms.f k l0 a1_0 a1_1 = some r) :
  Calls Tryz.prog 54 #[.slice A0 l0.length c0, .agg #[.string a1_0, .string a1_1]] w fun e w' => ∃ v0_ : Value, e = .returned (v0_) ∧ Kd.R Kd.string 9 w' w.heap.size (fun _ => True) v0_ r ∧ Below w.heap.size w w' := by
 have hu78 := Tryz.underlying78; have hu82 := Tryz.underlying82; have HR0 := am hr0; have HC0 := am hc0; clear hr0 hc0; have HB := am (Below.refl w.heap.size w)
 have H : ((impl_affixesOk.f k l0).bind fun t252 => (if t252 = true then ((impl_entryOk.f k a1_0 a1_1).bind fun t253 => (impl_Forms.j0 k l0 (!t253) a1_0 a1_1)) else (impl_Forms.j0 k l0 true a1_0 a1_1))) = some r := h
 clear h; have HC3 := am H; clear H; go_enter Tryz.func54, Tryz.ntmps54
 go_upto_region 1 with (first | ((with_reducible refine gate_dst (N := 3) rfl ?_); refine bx 3 (cs := #[.string a1_0, .string a1_1]) (t := 78) ?_; intro gb251 hg w4 hbox hb; have BK251 := am (hbox); have GW251 := am ((b19_ : w.heap.size ≤ gb251)); have GE251 := am ((b19_ : w.heap.size ≤ gb251)); replace HB := am (below_step bel hb); clear hb hbox hg))
 (try simp only [Act.put, List.setIfInBounds_toArray, List.set_cons_zero, List.set_cons_succ])
 go_cut [21] (fun v21 wc => ∃ (kq : Nat) (x21_2 : Bool), v21 = .bool x21_2 ∧ Aside0 (impl_Forms.j0 kq l0 x21_2 a1_0 a1_1 = some r) ∧ Aside0 (kq ≤ k) ∧ Aside0 (wc.heap[gb251]? = some (.cells #[.string a1_0, .string a1_1] 78 (0, 0))) ∧ Aside0 (Below w.heap.size w wc))
 case first =>
  have H := HC3.out; clear HC3; replace H := bs H; obtain ⟨t252, A50, H⟩ := H; replace H : (if t252 = true then ((impl_entryOk.f k a1_0 a1_1).bind fun t253 => (impl_Forms.j0 k l0 (!t253) a1_0 a1_1)) else (impl_Forms.j0 k l0 true a1_0 a1_1)) = some r := H; have A5 := Aside0.mk A50; clear A50
  by_cases c6 : t252 = true
  ·subst c6
   have H1 : ((impl_entryOk.f k a1_0 a1_1).bind fun t253 => (impl_Forms.j0 k l0 (!t253) a1_0 a1_1)) = some r := b32_
   replace H := H1; clear H1
   replace H := bs H; obtain ⟨t253, A70, H⟩ := H; replace H : (impl_Forms.j0 k l0 (!t253) a1_0 a1_1) = some r := H; have A7 := Aside0.mk A70; clear A70
   have H' := am H
   clear H
   go_wp2_with (first | ((with_reducible refine gate_callee (f := 52) rfl ?_); refine goesL_ (some 15) rfl rfl Tryz.func52 (by kernel_rfl) rfl #[.slice A0 l0.length c0] rfl mq ?_; (with_reducible refine (impl_affixesOk.calls k _ _ l0 true _ ?side1 ?side2 A5.out).mono ?_); (case side1 => exact cq (Kd.C_below HR0.out HB.out)); (case side2 => exact HC0.out); rintro e w8 ⟨rfl, hb⟩; refine ⟨_, rfl, ?_⟩; replace BK251 := am (blk_below (g := gb251) (o := .cells #[.string a1_0, .string a1_1] 78 (0, 0)) (bq BK251.out) hb); replace HB := am (below_step (bel1 GE251.out) hb); (try clear hb); (try clear hb2); (try clear hk); (try clear hi); have hcz9_0 := bc BK251.out 0; have hcz9_1 := bc BK251.out 1; have hfz9_0 := bf BK251.out 0; have hfz9_1 := bf BK251.out 1) | (go_at_call 76; (with_reducible refine (impl_entryOk.calls k a1_0 a1_1 t253 _ A7.out).mono ?_); rintro e w10 ⟨rfl, hb⟩; replace BK251 := am (blk_below (g := gb251) (o := .cells #[.string a1_0, .string a1_1] 78 (0, 0)) (bq BK251.out) hb); replace HB := am (below_step (bel1 GE251.out) hb); (try clear hb); (try clear hb2); (try clear hk); (try clear hi)))
   go_meet
   case rel => exact ⟨_, (!t253), sq, H', ⟨b57_⟩, ⟨bq BK251.out⟩, ⟨bel1 GE251.out⟩⟩
  replace c6 := Bool.eq_false_iff.mpr c6; subst c6
  have H1 : (impl_Forms.j0 k l0 true a1_0 a1_1) = some r := b13_
  replace H := H1; clear H1
  have H' := am H
  clear H
  go_wp2_with (first | ((with_reducible refine gate_callee (f := 52) rfl ?_); refine goesL_ (some 15) rfl rfl Tryz.func52 (by kernel_rfl) rfl #[.slice A0 l0.length c0] rfl mq ?_; (with_reducible refine (impl_affixesOk.calls k _ _ l0 false _ ?side1 ?side2 A5.out).mono ?_); (case side1 => exact cq (Kd.C_below HR0.out HB.out)); (case side2 => exact HC0.out); rintro e w11 ⟨rfl, hb⟩; refine ⟨_, rfl, ?_⟩; replace BK251 := am (blk_below (g := gb251) (o := .cells #[.string a1_0, .string a1_1] 78 (0, 0)) (bq BK251.out) hb); replace HB := am (below_step (bel1 GE251.out) hb); (try clear hb); (try clear hb2); (try clear hk); (try clear hi)))
  go_meet
  case rel => exact ⟨_, (true), sq, H', ⟨b57_⟩, ⟨bq BK251.out⟩, ⟨bel1 GE251.out⟩⟩
 case rest =>
  clear HC3; (try clear p2); (try clear c5); (try clear c6); (try clear hcz9_0); (try clear hcz9_1); (try clear hfz9_0); (try clear hfz9_1); obtain ⟨kq, x21_2, rfl, HA, HJ2, BK251, HB⟩ := hcut
  cases kq with
  | zero => exact absurd HA.out (by simp [impl_Forms.j0])
  | succ kj2 =>
   have H := HA.out; clear HA
   simp only [impl_Forms.j0] at H
   by_cases c12 : x21_2 = true
   ·subst c12
    have H1 : (some (([] : List ByteArray))) = some r := b32_
    replace H := H1; clear H1
    obtain ⟨y254, hy254⟩ : ∃ y_ : List ByteArray, y_ = (([] : List ByteArray)) := ⟨_, rfl⟩
    replace H : (some y254) = some r := by first | (rw [hy254]; with_reducible exact H) | (have H2_ := bm H; rw [hy254]; with_reducible exact H2_) | (with_reducible exact bm H) | with_reducible exact H | (rw [hy254]; exact H) | exact H
    have Ny254 := am hy254; clear hy254; obtain rfl := Option.some.inj H
    go_wp2_with (first | ((with_reducible refine gate_dst (N := 22) rfl ?_); refine Kd.R_lit Kd.string _ 9 ?hg (N := 22) ?hd (xs := ([] : List ByteArray)) (inner := []) (ok := fun _ => True) (okp := fun _ => True) ?hr ?hp (fun _ hk => hk) trivial (Below.refl _ _) (Nat.le_refl _) (by simp) ?_; (case hd => rfl); (case hg => rfl); (case hr => first | (go_simp; done) | (go_simp; rfl)); (case hp => exact (Reps.none _ _)); intro v255 w13 ho14 hb hg_ hnew_; clear hg_ hnew_; (first | rw [← Ny254.out] at ho14 | (simp only [Int.reduceToNat] at ho14; rw [← Ny254.out] at ho14) | (simp only [Int.toNat_natCast] at ho14; rw [← Ny254.out] at ho14)); have HO256 := am (Kd.R_lower ho14 (below_size (bel1 GE251.out))); replace BK251 := am (blk_below (g := gb251) (o := .cells #[.string a1_0, .string a1_1] 78 (0, 0)) (bq BK251.out) hb); replace HB := am (below_step (bel1 GE251.out) hb); clear hb ho14))
    go_ret
    exact ⟨_, eq_, by (with_reducible repeat (first | apply Kd.R_alloc | apply Kd.R_drewN | apply Kd.R_drew)); exact HO256.out, bel1 GE251.out⟩
   replace c12 := Bool.eq_false_iff.mpr c12; subst c12
   have H1 : ((some (([false, true] : List Bool) : List Bool)).bind fun y260 => (impl_Forms.l0 kj2 l0 (([a1_0] : List ByteArray)) y260 (y260.length : Int) 0 a1_0 a1_1)) = some r := b13_
   replace H := H1; clear H1
   obtain ⟨y257, hy257⟩ : ∃ y_ : List ByteArray, y_ = (([a1_0] : List ByteArray)) := ⟨_, rfl⟩
   replace H : ((some (([false, true] : List Bool) : List Bool)).bind fun y260 => (impl_Forms.l0 kj2 l0 y257 y260 (y260.length : Int) 0 a1_0 a1_1)) = some r := by first | (rw [hy257]; with_reducible exact H) | (have H2_ := bm H; rw [hy257]; with_reducible exact H2_) | (with_reducible exact bm H) | with_reducible exact H | (rw [hy257]; exact H) | exact H
   have Ny257 := am hy257; clear hy257; obtain ⟨y260, hy260⟩ : ∃ y_ : List Bool, y_ = (([false, true] : List Bool)) := ⟨_, rfl⟩
   replace H : (impl_Forms.l0 kj2 l0 y257 y260 (y260.length : Int) 0 a1_0 a1_1) = some r := by first | (rw [hy260]; with_reducible exact H) | (have H2_ := bm H; rw [hy260]; with_reducible exact H2_) | (with_reducible exact bm H) | with_reducible exact H | (rw [hy260]; exact H) | exact H
   have Ny260 := am hy260; clear hy260
   have H' := am H
   clear H; have hcz15_0 := bc BK251.out 0; have hcz15_1 := bc BK251.out 1; have hfz15_0 := bf BK251.out 0; have hfz15_1 := bf BK251.out 1
   go_wp2_with (first | ((with_reducible refine gate_dst (N := 25) rfl ?_); refine Kd.R_lit Kd.string _ 9 ?hg (N := 25) ?hd (xs := ([a1_0] : List ByteArray)) (inner := [.string a1_0]) (ok := fun _ => True) (okp := fun _ => True) ?hr ?hp (fun _ hk => hk) trivial (Below.refl _ _) (Nat.le_refl _) (by simp) ?_; (case hd => rfl); (case hg => rfl); (case hr => first | (go_simp; done) | (go_simp; rfl)); (case hp => exact (Reps.one (show Kd.M Kd.string _ _ _ a1_0 [.string a1_0] from rfl) (Reps.none _ _))); intro v258 w16 ho17 hb hg_ hnew_; clear hg_ hnew_; (first | rw [← Ny257.out] at ho17 | (simp only [Int.reduceToNat] at ho17; rw [← Ny257.out] at ho17) | (simp only [Int.toNat_natCast] at ho17; rw [← Ny257.out] at ho17)); have HO259 := am (Kd.R_lower ho17 (below_size (bel1 GE251.out))); replace BK251 := am (blk_below (g := gb251) (o := .cells #[.string a1_0, .string a1_1] 78 (0, 0)) (bq BK251.out) hb); replace HB := am (below_step (bel1 GE251.out) hb); clear hb ho17) | ((with_reducible refine gate_dst (N := 26) rfl ?_); refine Kd.R_lit Kd.bool _ 4 ?hg (N := 26) ?hd (xs := ([false, true] : List Bool)) (inner := [.bool false, .bool true]) (ok := fun _ => True) (okp := fun _ => True) ?hr ?hp (fun _ hk => hk) trivial (Below.refl _ _) (Nat.le_refl _) (by simp) ?_; (case hd => rfl); (case hg => rfl); (case hr => first | (go_simp; done) | (go_simp; rfl)); (case hp => exact (Reps.one (show Kd.M Kd.bool _ _ _ false [.bool false] from rfl) (Reps.one (show Kd.M Kd.bool _ _ _ true [.bool true] from rfl) (Reps.none _ _)))); intro v261 w18 ho19 hb hg_ hnew_; clear hg_ hnew_; (first | rw [← Ny260.out] at ho19 | (simp only [Int.reduceToNat] at ho19; rw [← Ny260.out] at ho19) | (simp only [Int.toNat_natCast] at ho19; rw [← Ny260.out] at ho19)); replace HO259 := am (Kd.R_below (rq HO259.out) hb); have HO262 := am (Kd.R_lower ho19 (below_size (bel1 GE251.out))); replace BK251 := am (blk_below (g := gb251) (o := .cells #[.string a1_0, .string a1_1] 78 (0, 0)) (bq BK251.out) hb); replace HB := am (below_step (bel1 GE251.out) hb); clear hb ho19; obtain ⟨Ao20, co20, eo20⟩ := Kd.R_slice HO262.out; subst eo20))
   go_loopg [5, 28] kj2 (fun kq v5 v28 w' => ∃ (x5_2 : List ByteArray) (x28_2 : Int), v28 = .int .i64 x28_2 ∧ Aside0 (impl_Forms.l0 kq l0 x5_2 y260 (y260.length : Int) x28_2 a1_0 a1_1 = some r) ∧ Aside0 (kq ≤ kj2) ∧ Aside0 (Kd.R Kd.string 9 w' w.heap.size (fun _ => True) v5 x5_2) ∧ Aside0 (Kd.R Kd.bool 4 w' w.heap.size (fun _ => True) (.slice Ao20 y260.length co20) y260) ∧ Aside0 (w'.heap[gb251]? = some (.cells #[.string a1_0, .string a1_1] 78 (0, 0))) ∧ Aside0 (Below w.heap.size w w'))
   case atStart => exact ⟨(y257), (0), sq, H', ⟨Nat.le_refl _⟩, ⟨rq HO259.out⟩, ⟨rq HO262.out⟩, ⟨bq BK251.out⟩, ⟨bel1 GE251.out⟩⟩
   case round =>
    clear H'; (try clear c1); (try clear p2); (try clear c5); (try clear c6); (try clear c12); (try clear hcz15_0); (try clear hcz15_1); (try clear hcz9_0); (try clear hcz9_1); (try clear hfz15_0); (try clear hfz15_1); (try clear hfz9_0); (try clear hfz9_1); (try clear p2); obtain ⟨x5_2, x28_2, rfl, HA, HK2, HO_5, HO_26, BK251, HB⟩ := hrel
    cases gk with
    | zero => exact absurd HA.out (by simp [impl_Forms.l0])
    | succ k2 =>
     have H := HA.out; clear HA
     simp only [impl_Forms.l0] at H
     by_cases c21 : x28_2 < (y260.length : Int)
     ·rw [if_pos c21] at H; have c21b0 := decide_eq_true c21; clear c21
      replace H := it H; obtain ⟨c22b0, H⟩ := H
      replace H := it H; obtain ⟨c23b0, H⟩ := H; obtain ⟨y267, hy267⟩ : ∃ y_ : List ByteArray, y_ = (([] : List ByteArray)) := ⟨_, rfl⟩
      replace H : (if y267.length + x5_2.length < 8796093022208 then ((some (y267 ++ x5_2 : List ByteArray)).bind fun y270 => (impl_Forms.l1 k2 l0 x5_2 (rdOf false y260 x28_2) y260 (y260.length : Int) x28_2 y270 (y270.length : Int) 0 a1_0 a1_1)) else (none)) = some r := by first | (rw [hy267]; with_reducible exact H) | (have H2_ := bm H; rw [hy267]; with_reducible exact H2_) | (with_reducible exact bm H) | with_reducible exact H | (rw [hy267]; exact H) | exact H
      have Ny267 := am hy267; clear hy267
      replace H := ip H; obtain ⟨c24, H⟩ := H; have LMc24 := Aside0.mk c24; clear c24; obtain ⟨y270, hy270⟩ : ∃ y_ : List ByteArray, y_ = (y267 ++ x5_2) := ⟨_, rfl⟩
      replace H : (impl_Forms.l1 k2 l0 x5_2 (rdOf false y260 x28_2) y260 (y260.length : Int) x28_2 y270 (y270.length : Int) 0 a1_0 a1_1) = some r := by first | (rw [hy270]; with_reducible exact H) | (have H2_ := bm H; rw [hy270]; with_reducible exact H2_) | (with_reducible exact bm H) | with_reducible exact H | (rw [hy270]; exact H) | exact H
      have Ny270 := am hy270; clear hy270
      have H' := am H
      clear H
      have p266 : 0 ≤ (x28_2 : Int) := of_decide_eq_true ad
      have q266 : x28_2 < (y260.length : Int) := of_decide_eq_true ad
      obtain ⟨ad266, e266, hx266_0⟩ := Kd.at_bool (Kd.R_reads' HO_26.out).2.2 x28_2 p266 q266
      cases e266
      replace p266 := eq_true p266; replace q266 := eq_true q266
      go_wp2_with (first | ((with_reducible refine gate_dst (N := 32) rfl ?_); refine Kd.R_lit Kd.string _ 9 ?hg (N := 32) ?hd (xs := ([] : List ByteArray)) (inner := []) (ok := fun _ => True) (okp := fun _ => True) ?hr ?hp (fun _ hk => hk) trivial (Below.refl _ _) (Nat.le_refl _) (by simp) ?_; (case hd => rfl); (case hg => rfl); (case hr => first | (go_simp; done) | (go_simp; rfl)); (case hp => exact (Reps.none _ _)); intro v268 w25 ho26 hb hg_ hnew_; clear hg_ hnew_; (first | rw [← Ny267.out] at ho26 | (simp only [Int.reduceToNat] at ho26; rw [← Ny267.out] at ho26) | (simp only [Int.toNat_natCast] at ho26; rw [← Ny267.out] at ho26)); replace HO_26 := am (Kd.R_below (rq HO_26.out) hb); have HO269 := am (Kd.R_lower (Kd.R_new' ho26 (Kd.R_lt (rq HO_5.out))) (below_size (bel1 GE251.out))); replace HO_5 := am (Kd.R_elder' (rq HO_5.out) (Kd.R_base ho26) hb); replace BK251 := am (blk_below (g := gb251) (o := .cells #[.string a1_0, .string a1_1] 78 (0, 0)) (bq BK251.out) hb); replace HB := am (below_step (bel1 GE251.out) hb); clear hb ho26; obtain ⟨Ao28, co28, eo28⟩ := Kd.R_slice HO_5.out; subst eo28) | ((with_reducible refine gate_builtin (b := .append) (xs := #[.tmp 32, .tmp 33]) rfl ?_); at_builtin; refine Kd.R_append_rows Kd.string (w0 := w) w.heap.size rfl (.tmp 32) (.tmp 33) 49 9 (.string ⟨#[]⟩) 16 rfl Tryz.underlying49 info9 rfl (by decide) (by omega) v268 y267 x5_2 _ _ _ (fun k_ => some k_ ≠ (.slice Ao28 x5_2.length co28 : Value).ownBlock) (fun _ => False) rfl rfl ?aO ?aR (fun _ _ h => h) (fun _ h => h.elim) ?aF ?aB ?aS ?aL ?_; (case aR => exact cq (Kd.R_reads' HO_5.out).2.2); (case aB => exact (bel1 GE251.out)); (case aF => exact (fun k_ hk => Kd.fresh' (Kd.R_lt (rq HO_5.out)) k_ hk)); (case aO => exact (rq (Kd.R_mono HO269.out (fun _ hk => hk.2)))); (case aS => exact (below_size (bel1 GE251.out))); (case aL => have := LMc24.out; omega); intro v271 w27 ho hb hg hat; rw [← Ny270.out] at ho; replace HO_5 := am (Kd.R_after (ok := (fun _ => True)) (rq HO_5.out) hg hat); replace HO_26 := am (Kd.R_over' (rq HO_26.out) (Kd.R_typed (rq HO269.out)) (by decide) hg); replace BK251 := am (blk_grown (g := gb251) (o := .cells #[.string a1_0, .string a1_1] 78 (0, 0)) (bq BK251.out) hg (Kd.R_ne HO269.out BK251.out (by decide))); replace HB := am (hb); have HO272 := am (ho); clear HO269; clear ho hb hg hat; obtain ⟨Ao29, co29, eo29⟩ := Kd.R_slice HO272.out; subst eo29))
      go_loopg [5, 36] k2 (fun kq v5 v36 w' => ∃ (x5_3 : List ByteArray) (x36_3 : Int), v36 = .int .i64 x36_3 ∧ Aside0 (impl_Forms.l1 kq l0 x5_3 (rdOf false y260 x28_2) y260 (y260.length : Int) x28_2 y270 (y270.length : Int) x36_3 a1_0 a1_1 = some r) ∧ Aside0 (kq ≤ k2) ∧ Aside0 (Kd.R Kd.string 9 w' w.heap.size (fun k_ => some k_ ≠ ((.slice Ao29 y270.length co29) : Value).ownBlock) v5 x5_3) ∧ Aside0 (Kd.R Kd.bool 4 w' w.heap.size (fun _ => True) (.slice (some ad266) y260.length co20) y260) ∧ Aside0 (Kd.R Kd.string 9 w' w.heap.size (fun k_ => some k_ ≠ (v5 : Value).ownBlock) (.slice Ao29 y270.length co29) y270) ∧ Aside0 (w'.heap[gb251]? = some (.cells #[.string a1_0, .string a1_1] 78 (0, 0))) ∧ Aside0 (Below w.heap.size w w'))
      case atStart => exact ⟨(x5_2), (0), sq, H', ⟨Nat.le_refl _⟩, ⟨rq (Kd.R_mono HO_5.out (fun _ hk => hk.2))⟩, ⟨rq HO_26.out⟩, ⟨rq HO272.out⟩, ⟨bq BK251.out⟩, ⟨bel1 GE251.out⟩⟩
      case round =>
       clear H'; (try clear c1); (try clear c2); (try clear p2); (try clear q2); (try clear hx2); (try clear c5); (try clear c6); (try clear c12); (try clear c21); (try clear c21b0); (try clear c22); (try clear c22b0); (try clear c23); (try clear c23b0); (try clear c24); (try clear p26); (try clear q26); (try clear hx26); (try clear hcz15_0); (try clear hcz15_1); (try clear hcz9_0); (try clear hcz9_1); (try clear hfz15_0); (try clear hfz15_1); (try clear hfz9_0); (try clear hfz9_1); (try clear hx266_0); (try clear p2); (try clear p266); (try clear q266); obtain ⟨x5_3, x36_3, rfl, HA, HK3, HO_5, HO_26, HO_34, BK251, HB⟩ := hrel
       cases gk with
       | zero => exact absurd HA.out (by simp [impl_Forms.l1])
       | succ k3 =>
        have H := HA.out; clear HA
        simp only [impl_Forms.l1] at H
        by_cases c30 : x36_3 < (y270.length : Int)
        ·rw [if_pos c30] at H; have c30b0 := decide_eq_true c30; clear c30
         replace H := it H; obtain ⟨c31b0, H⟩ := H
         replace H := it H; obtain ⟨c32b0, H⟩ := H
         have H' := am H
         clear H
         have p273 : 0 ≤ (x36_3 : Int) := of_decide_eq_true ad
         have q273 : x36_3 < (y270.length : Int) := of_decide_eq_true ad
         obtain ⟨ad273, e273, hx273_0⟩ := Kd.at_string (Kd.R_reads' HO_34.out).2.2 x36_3 p273 q273
         cases e273
         replace p273 := eq_true p273; replace q273 := eq_true q273; go_wp2
         go_loopg [5, 42] k3 (fun kq v5 v42 w' => ∃ (x5_4 : List ByteArray) (x42_4 : Int), v42 = .int .i64 x42_4 ∧ Aside0 (impl_Forms.l2 kq l0 x5_4 (rdOf false y260 x28_2) (rdOf ByteArray.empty y270 x36_3) y260 (y260.length : Int) x28_2 y270 (y270.length : Int) x36_3 l0 (l0.length : Int) x42_4 a1_0 a1_1 = some r) ∧ Aside0 (kq ≤ k3) ∧ Aside0 (Kd.R Kd.string 9 w' w.heap.size (fun k_ => some k_ ≠ ((.slice (some ad273) y270.length co29) : Value).ownBlock) v5 x5_4) ∧ Aside0 (Kd.R Kd.bool 4 w' w.heap.size (fun _ => True) (.slice (some ad266) y260.length co20) y260) ∧ Aside0 (Kd.R Kd.string 9 w' w.heap.size (fun k_ => some k_ ≠ (v5 : Value).ownBlock) (.slice (some ad273) y270.length co29) y270) ∧ Aside0 (w'.heap[gb251]? = some (.cells #[.string a1_0, .string a1_1] 78 (0, 0))) ∧ Aside0 (Below w.heap.size w w'))
         case atStart => exact ⟨(x5_3), (0), sq, H', ⟨Nat.le_refl _⟩, ⟨rq HO_5.out⟩, ⟨rq HO_26.out⟩, ⟨rq HO_34.out⟩, ⟨bq BK251.out⟩, ⟨bel1 GE251.out⟩⟩
         case round =>
          clear H'; (try clear c1); (try clear c2); (try clear p2); (try clear q2); (try clear hx2); (try clear c3); (try clear c5); (try clear c6); (try clear c12); (try clear c21); (try clear c21b0); (try clear c22); (try clear c22b0); (try clear c23); (try clear c23b0); (try clear c24); (try clear p26); (try clear q26); (try clear hx26); (try clear p27); (try clear q27); (try clear hx27); (try clear c30); (try clear c30b0); (try clear c31); (try clear c31b0); (try clear c32); (try clear c32b0); (try clear hcz15_0); (try clear hcz15_1); (try clear hcz9_0); (try clear hcz9_1); (try clear hfz15_0); (try clear hfz15_1); (try clear hfz9_0); (try clear hfz9_1); (try clear hx266_0); (try clear hx273_0); (try clear p2); (try clear p26); (try clear p266); (try clear p273); (try clear q2); (try clear q26); (try clear q266); (try clear q273); obtain ⟨x5_4, x42_4, rfl, HA, HK4, HO_5, HO_26, HO_34, BK251, HB⟩ := hrel
          cases gk with
          | zero => exact absurd HA.out (by simp [impl_Forms.l2])
          | succ k4 =>
           have H := HA.out; clear HA
           simp only [impl_Forms.l2] at H
           by_cases c33 : x42_4 < (l0.length : Int)
           ·rw [if_pos c33] at H; have c33b0 := decide_eq_true c33; clear c33
            replace H := it H; obtain ⟨c34b0, H⟩ := H
            replace H := it H; obtain ⟨c35b0, H⟩ := H; have HC36 := am H; clear H
            have p274 : 0 ≤ (x42_4 : Int) := of_decide_eq_true ad
            have q274 : x42_4 < (l0.length : Int) := of_decide_eq_true ad
            obtain ⟨ad274, e274, hx274_0, hx274_1, hx274_2, hx274_3, hx274_4⟩ := at_T82 HR0.out x42_4 p274 q274
            cases e274
            replace hx274_0 := kp HB.out hx274_0; replace hx274_1 := kp HB.out hx274_1; replace hx274_2 := kp HB.out hx274_2; replace hx274_3 := kp HB.out hx274_3; replace hx274_4 := kp HB.out hx274_4; replace p274 := eq_true p274; replace q274 := eq_true q274
            go_upto_region 13 with (first | ((with_reducible refine gate_dst (N := 11) rfl ?_); refine bx 11 (cs := #[.string (⟨#[]⟩ : ByteArray), .bool false, .string (⟨#[]⟩ : ByteArray), .string (⟨#[]⟩ : ByteArray), .string (⟨#[]⟩ : ByteArray)]) (t := 82) ?_; intro gb275 hg w37 hbox hb; replace HO_5 := am (Kd.R_below (rq HO_5.out) hb); replace HO_26 := am (Kd.R_below (rq HO_26.out) hb); replace HO_34 := am (Kd.R_below (rq HO_34.out) hb); have BK275 := am (hbox); have GW275 := am ((by rw [hg]; exact (below_size (bel1 GE251.out)) : w.heap.size ≤ gb275)); have GE275 := am ((by rw [hg]; exact (below_size (bel1 GE251.out)) : w.heap.size ≤ gb275)); replace HB := am (below_step (bel1 GE251.out) hb); have NB251_275 := am ((by rw [hg]; exact Nat.ne_of_lt (blk_lt (g := gb251) (o := .cells #[.string a1_0, .string a1_1] 78 (0, 0)) (bq BK251.out)) : gb251 ≠ gb275)); have NB275_251 := am ((by rw [hg]; exact Nat.ne_of_gt (blk_lt (g := gb251) (o := .cells #[.string a1_0, .string a1_1] 78 (0, 0)) (bq BK251.out)) : gb275 ≠ gb251)); replace BK251 := am (blk_below (g := gb251) (o := .cells #[.string a1_0, .string a1_1] 78 (0, 0)) (bq BK251.out) hb); clear hb hbox hg; have hnb38 := NB275_251.out; have hnc38 := NB251_275.out; have hcz39_0 := bc BK275.out 0; have hcz39_1 := bc BK275.out 1; have hcz39_2 := bc BK275.out 2; have hcz39_3 := bc BK275.out 3; have hcz39_4 := bc BK275.out 4; have hfz39_0 := bf BK275.out 0; have hfz39_1 := bf BK275.out 1; have hfz39_2 := bf BK275.out 2; have hfz39_3 := bf BK275.out 3; have hfz39_4 := bf BK275.out 4))
            (try simp only [Act.put, List.setIfInBounds_toArray, List.set_cons_zero, List.set_cons_succ])
            go_cut [57] (fun v57 wc => ∃ (kq : Nat) (x57_35 : Bool), v57 = .bool x57_35 ∧ Aside0 (impl_Forms.j4 kq l0 x5_4 (rdOf false y260 x28_2) (rdOf ByteArray.empty y270 x36_3) y260 (y260.length : Int) x28_2 y270 (y270.length : Int) x36_3 l0 (l0.length : Int) x42_4 x57_35 a1_0 a1_1 ((rd_T82 l0 x42_4).f0) ((rd_T82 l0 x42_4).f1) ((rd_T82 l0 x42_4).f2) ((rd_T82 l0 x42_4).f3) ((rd_T82 l0 x42_4).f4) = some r) ∧ Aside0 (kq ≤ k4) ∧ Aside0 (Kd.R Kd.string 9 wc w.heap.size (fun k_ => some k_ ≠ ((.slice (some ad273) y270.length co29) : Value).ownBlock) u5 x5_4) ∧ Aside0 (Kd.R Kd.bool 4 wc w.heap.size (fun _ => True) (.slice (some ad266) y260.length co20) y260) ∧ Aside0 (Kd.R Kd.string 9 wc w.heap.size (fun k_ => some k_ ≠ (u5 : Value).ownBlock) (.slice (some ad273) y270.length co29) y270) ∧ Aside0 (wc.heap[gb251]? = some (.cells #[.string a1_0, .string a1_1] 78 (0, 0))) ∧ Aside0 (wc.heap[gb275]? = some (.cells #[.string ((rd_T82 l0 x42_4).f0), .bool ((rd_T82 l0 x42_4).f1), .string ((rd_T82 l0 x42_4).f2), .string ((rd_T82 l0 x42_4).f3), .string ((rd_T82 l0 x42_4).f4)] 82 (0, 0))) ∧ Aside0 (Below w.heap.size w wc))
            case first =>
             have H := HC36.out; clear HC36
             by_cases c40 : (((rd_T82 l0 x42_4).f1) != (rdOf false y260 x28_2)) = true
             ·rw [if_pos c40] at H
              have c40b0 : (((rd_T82 l0 x42_4).f1) != (rdOf false y260 x28_2)) = true := c40
              (try (have c40b1 : decide (((rd_T82 l0 x42_4).f1) = (rdOf false y260 x28_2)) = false := by simpa using c40))
              (try (have c40b2 : (((rd_T82 l0 x42_4).f1) == (rdOf false y260 x28_2)) = false := by simpa using c40))
              (try (have c40b3 : ¬ (((rd_T82 l0 x42_4).f1) = (rdOf false y260 x28_2)) := by simpa using c40))
              clear c40
              (first | rw [c40b0] | (simp only [i64_w, i32_w]; rw [c40b0]) | skip)
              have H' := am H
              clear H; have hnb41 := NB275_251.out; have hnc41 := NB251_275.out; have hcz42_0 := bc BK275.out 0; have hcz42_1 := bc BK275.out 1; have hcz42_2 := bc BK275.out 2; have hcz42_3 := bc BK275.out 3; have hcz42_4 := bc BK275.out 4; have hfz42_0 := bf BK275.out 0; have hfz42_1 := bf BK275.out 1; have hfz42_2 := bf BK275.out 2; have hfz42_3 := bf BK275.out 3; have hfz42_4 := bf BK275.out 4; go_wp2
              go_meet
              case rel => exact ⟨_, (true), sq, H', ⟨by have := HJ2.out; have := HK2.out; have := HK3.out; have := HK4.out; first | omega | exact Nat.le_refl _⟩, ⟨rq (Kd.R_mono (Kd.R_far (p := ⟨gb275, 4, none⟩) (Kd.R_far (p := ⟨gb275, 3, none⟩) (Kd.R_far (p := ⟨gb275, 2, none⟩) (Kd.R_far (p := ⟨gb275, 1, none⟩) (Kd.R_far (p := ⟨gb275, 0, none⟩) (Kd.R_types HO_5.out BK275.out (by decide)) (fun _ hk => hk.2) (.string ((rd_T82 l0 x42_4).f0))) (fun _ hk => hk.2) (.bool ((rd_T82 l0 x42_4).f1))) (fun _ hk => hk.2) (.string ((rd_T82 l0 x42_4).f2))) (fun _ hk => hk.2) (.string ((rd_T82 l0 x42_4).f3))) (fun _ hk => hk.2) (.string ((rd_T82 l0 x42_4).f4))) (fun _ hk => hk.1))⟩, ⟨rq (Kd.R_mono (Kd.R_far (p := ⟨gb275, 4, none⟩) (Kd.R_far (p := ⟨gb275, 3, none⟩) (Kd.R_far (p := ⟨gb275, 2, none⟩) (Kd.R_far (p := ⟨gb275, 1, none⟩) (Kd.R_far (p := ⟨gb275, 0, none⟩) (Kd.R_types HO_26.out BK275.out (by decide)) (fun _ hk => hk.2) (.string ((rd_T82 l0 x42_4).f0))) (fun _ hk => hk.2) (.bool ((rd_T82 l0 x42_4).f1))) (fun _ hk => hk.2) (.string ((rd_T82 l0 x42_4).f2))) (fun _ hk => hk.2) (.string ((rd_T82 l0 x42_4).f3))) (fun _ hk => hk.2) (.string ((rd_T82 l0 x42_4).f4))) (fun _ hk => trivial))⟩, ⟨rq (Kd.R_mono (Kd.R_far (p := ⟨gb275, 4, none⟩) (Kd.R_far (p := ⟨gb275, 3, none⟩) (Kd.R_far (p := ⟨gb275, 2, none⟩) (Kd.R_far (p := ⟨gb275, 1, none⟩) (Kd.R_far (p := ⟨gb275, 0, none⟩) (Kd.R_types HO_34.out BK275.out (by decide)) (fun _ hk => hk.2) (.string ((rd_T82 l0 x42_4).f0))) (fun _ hk => hk.2) (.bool ((rd_T82 l0 x42_4).f1))) (fun _ hk => hk.2) (.string ((rd_T82 l0 x42_4).f2))) (fun _ hk => hk.2) (.string ((rd_T82 l0 x42_4).f3))) (fun _ hk => hk.2) (.string ((rd_T82 l0 x42_4).f4))) (fun _ hk => hk.1))⟩, ⟨b34_⟩, ⟨b18_⟩, ⟨bel2 GE251.out GE275.out⟩⟩
             rw [if_neg c40] at H
             have c40b0 : (((rd_T82 l0 x42_4).f1) != (rdOf false y260 x28_2)) = false := by simpa using c40
             (try (have c40b1 : decide (((rd_T82 l0 x42_4).f1) = (rdOf false y260 x28_2)) = true := by simpa using c40))
             (try (have c40b2 : (((rd_T82 l0 x42_4).f1) == (rdOf false y260 x28_2)) = true := by simpa using c40))
             clear c40
             (first | rw [c40b0] | (simp only [i64_w, i32_w]; rw [c40b0]) | skip)
             replace H := bs H; obtain ⟨t276, A430, H⟩ := H; replace H : (impl_Forms.j4 k4 l0 x5_4 (rdOf false y260 x28_2) (rdOf ByteArray.empty y270 x36_3) y260 (y260.length : Int) x28_2 y270 (y270.length : Int) x36_3 l0 (l0.length : Int) x42_4 (!t276) a1_0 a1_1 ((rd_T82 l0 x42_4).f0) ((rd_T82 l0 x42_4).f1) ((rd_T82 l0 x42_4).f2) ((rd_T82 l0 x42_4).f3) ((rd_T82 l0 x42_4).f4)) = some r := H; have A43 := Aside0.mk A430; clear A430
             have H' := am H
             clear H; have hnb44 := NB275_251.out; have hnc44 := NB251_275.out; have hcz45_0 := bc BK275.out 0; have hcz45_1 := bc BK275.out 1; have hcz45_2 := bc BK275.out 2; have hcz45_3 := bc BK275.out 3; have hcz45_4 := bc BK275.out 4; have hfz45_0 := bf BK275.out 0; have hfz45_1 := bf BK275.out 1; have hfz45_2 := bf BK275.out 2; have hfz45_3 := bf BK275.out 3; have hfz45_4 := bf BK275.out 4; have hcz46_0 := bc BK251.out 0; have hcz46_1 := bc BK251.out 1; have hfz46_0 := bf BK251.out 0; have hfz46_1 := bf BK251.out 1
             go_wp2_with (first | (go_at_call 77; (with_reducible refine (strings_Contains.calls a1_1 ((rd_T82 l0 x42_4).f0) t276 _ A43.out).mono ?_); rintro e w' ⟨rfl, ⟨nd, rfl⟩⟩))
             go_meet
             case rel => exact ⟨_, (!t276), sq, H', ⟨by have := HJ2.out; have := HK2.out; have := HK3.out; have := HK4.out; first | omega | exact Nat.le_refl _⟩, ⟨rq (Kd.R_mono (Kd.R_far (p := ⟨gb275, 4, none⟩) (Kd.R_far (p := ⟨gb275, 3, none⟩) (Kd.R_far (p := ⟨gb275, 2, none⟩) (Kd.R_far (p := ⟨gb275, 1, none⟩) (Kd.R_far (p := ⟨gb275, 0, none⟩) (Kd.R_types HO_5.out BK275.out (by decide)) (fun _ hk => hk.2) (.string ((rd_T82 l0 x42_4).f0))) (fun _ hk => hk.2) (.bool ((rd_T82 l0 x42_4).f1))) (fun _ hk => hk.2) (.string ((rd_T82 l0 x42_4).f2))) (fun _ hk => hk.2) (.string ((rd_T82 l0 x42_4).f3))) (fun _ hk => hk.2) (.string ((rd_T82 l0 x42_4).f4))) (fun _ hk => hk.1))⟩, ⟨rq (Kd.R_mono (Kd.R_far (p := ⟨gb275, 4, none⟩) (Kd.R_far (p := ⟨gb275, 3, none⟩) (Kd.R_far (p := ⟨gb275, 2, none⟩) (Kd.R_far (p := ⟨gb275, 1, none⟩) (Kd.R_far (p := ⟨gb275, 0, none⟩) (Kd.R_types HO_26.out BK275.out (by decide)) (fun _ hk => hk.2) (.string ((rd_T82 l0 x42_4).f0))) (fun _ hk => hk.2) (.bool ((rd_T82 l0 x42_4).f1))) (fun _ hk => hk.2) (.string ((rd_T82 l0 x42_4).f2))) (fun _ hk => hk.2) (.string ((rd_T82 l0 x42_4).f3))) (fun _ hk => hk.2) (.string ((rd_T82 l0 x42_4).f4))) (fun _ hk => trivial))⟩, ⟨rq (Kd.R_mono (Kd.R_far (p := ⟨gb275, 4, none⟩) (Kd.R_far (p := ⟨gb275, 3, none⟩) (Kd.R_far (p := ⟨gb275, 2, none⟩) (Kd.R_far (p := ⟨gb275, 1, none⟩) (Kd.R_far (p := ⟨gb275, 0, none⟩) (Kd.R_types HO_34.out BK275.out (by decide)) (fun _ hk => hk.2) (.string ((rd_T82 l0 x42_4).f0))) (fun _ hk => hk.2) (.bool ((rd_T82 l0 x42_4).f1))) (fun _ hk => hk.2) (.string ((rd_T82 l0 x42_4).f2))) (fun _ hk => hk.2) (.string ((rd_T82 l0 x42_4).f3))) (fun _ hk => hk.2) (.string ((rd_T82 l0 x42_4).f4))) (fun _ hk => hk.1))⟩, ⟨b34_⟩, ⟨b18_⟩, ⟨bel2 GE251.out GE275.out⟩⟩
            case rest =>
             clear HC36; (try clear c1); (try clear c2); (try clear p2); (try clear q2); (try clear hx2); (try clear c3); (try clear c4); (try clear c5); (try clear c6); (try clear c12); (try clear c21); (try clear c21b0); (try clear c22); (try clear c22b0); (try clear c23); (try clear c23b0); (try clear c24); (try clear p26); (try clear q26); (try clear hx26); (try clear p27); (try clear q27); (try clear hx27); (try clear c30); (try clear c30b0); (try clear c31); (try clear c31b0); (try clear c32); (try clear c32b0); (try clear c33); (try clear c33b0); (try clear c34); (try clear c34b0); (try clear c35); (try clear c35b0); (try clear c38); (try clear c40); (try clear c40b0); (try clear c40b1); (try clear c40b2); (try clear c41); (try clear c44); (try clear hcz15_0); (try clear hcz15_1); (try clear hcz39_0); (try clear hcz39_1); (try clear hcz39_2); (try clear hcz39_3); (try clear hcz39_4); (try clear hcz42_0); (try clear hcz42_1); (try clear hcz42_2); (try clear hcz42_3); (try clear hcz42_4); (try clear hcz45_0); (try clear hcz45_1); (try clear hcz45_2); (try clear hcz45_3); (try clear hcz45_4); (try clear hcz46_0); (try clear hcz46_1); (try clear hcz9_0); (try clear hcz9_1); (try clear hfz15_0); (try clear hfz15_1); (try clear hfz39_0); (try clear hfz39_1); (try clear hfz39_2); (try clear hfz39_3); (try clear hfz39_4); (try clear hfz42_0); (try clear hfz42_1); (try clear hfz42_2); (try clear hfz42_3); (try clear hfz42_4); (try clear hfz45_0); (try clear hfz45_1); (try clear hfz45_2); (try clear hfz45_3); (try clear hfz45_4); (try clear hfz46_0); (try clear hfz46_1); (try clear hfz9_0); (try clear hfz9_1); (try clear hx266_0); (try clear hx273_0); (try clear hx274_0); (try clear hx274_1); (try clear hx274_2); (try clear hx274_3); (try clear hx274_4); (try clear p2); (try clear p26); (try clear p266); (try clear p27); (try clear p273); (try clear p274); (try clear q2); (try clear q26); (try clear q266); (try clear q27); (try clear q273); (try clear q274); obtain ⟨kq, x57_35, rfl, HA, HJ35, HO_5, HO_26, HO_34, BK251, BK275, HB⟩ := hcut
             cases kq with
             | zero => exact absurd HA.out (by simp [impl_Forms.j4])
             | succ kj35 =>
              have H := HA.out; clear HA
              simp only [impl_Forms.j4] at H
              by_cases c47 : x57_35 = true
              ·subst c47
               have H1 : (impl_Forms.l2 kj35 l0 x5_4 (rdOf false y260 x28_2) (rdOf ByteArray.empty y270 x36_3) y260 (y260.length : Int) x28_2 y270 (y270.length : Int) x36_3 l0 (l0.length : Int) (wrap64 (x42_4 + 1)) a1_0 a1_1) = some r := b32_
               replace H := H1; clear H1
               have H' := am H
               clear H; go_wp2
               go_roundg kj35
               case measure => have := HJ2.out; have := HK2.out; have := HK3.out; have := HK4.out; have := HJ35.out; omega
               case rel => exact ⟨(x5_4), (wrap64 (x42_4 + 1)), sq, H', ⟨by have := HJ2.out; have := HK2.out; have := HK3.out; have := HK4.out; have := HJ35.out; omega⟩, ⟨rq HO_5.out⟩, ⟨rq HO_26.out⟩, ⟨rq HO_34.out⟩, ⟨bq BK251.out⟩, ⟨bel2 GE251.out GE275.out⟩⟩
              replace c47 := Bool.eq_false_iff.mpr c47; subst c47
              have H1 : (if (rdOf false y260 x28_2) = true then (impl_Forms.j5 kj35 l0 x5_4 (rdOf false y260 x28_2) (rdOf ByteArray.empty y270 x36_3) y260 (y260.length : Int) x28_2 y270 (y270.length : Int) x36_3 l0 (l0.length : Int) x42_4 true a1_0 a1_1 ((rd_T82 l0 x42_4).f0) ((rd_T82 l0 x42_4).f1) ((rd_T82 l0 x42_4).f2) ((rd_T82 l0 x42_4).f3) ((rd_T82 l0 x42_4).f4)) else (impl_Forms.j5 kj35 l0 x5_4 (rdOf false y260 x28_2) (rdOf ByteArray.empty y270 x36_3) y260 (y260.length : Int) x28_2 y270 (y270.length : Int) x36_3 l0 (l0.length : Int) x42_4 ((rdOf ByteArray.empty y270 x36_3).toList == a1_0.toList) a1_0 a1_1 ((rd_T82 l0 x42_4).f0) ((rd_T82 l0 x42_4).f1) ((rd_T82 l0 x42_4).f2) ((rd_T82 l0 x42_4).f3) ((rd_T82 l0 x42_4).f4))) = some r := b13_
              replace H := H1; clear H1
              have HC48 := am H; clear H
              go_upto_region 14 with (fail)
              go_cut [64] (fun v64 wc => ∃ (kq : Nat) (x64_47 : Bool), v64 = .bool x64_47 ∧ Aside0 (impl_Forms.j5 kq l0 x5_4 (rdOf false y260 x28_2) (rdOf ByteArray.empty y270 x36_3) y260 (y260.length : Int) x28_2 y270 (y270.length : Int) x36_3 l0 (l0.length : Int) x42_4 x64_47 a1_0 a1_1 ((rd_T82 l0 x42_4).f0) ((rd_T82 l0 x42_4).f1) ((rd_T82 l0 x42_4).f2) ((rd_T82 l0 x42_4).f3) ((rd_T82 l0 x42_4).f4) = some r) ∧ Aside0 (kq ≤ kj35) ∧ Aside0 (Kd.R Kd.string 9 wc w.heap.size (fun k_ => some k_ ≠ ((.slice (some ad273) y270.length co29) : Value).ownBlock) u5 x5_4) ∧ Aside0 (Kd.R Kd.bool 4 wc w.heap.size (fun _ => True) (.slice (some ad266) y260.length co20) y260) ∧ Aside0 (Kd.R Kd.string 9 wc w.heap.size (fun k_ => some k_ ≠ (u5 : Value).ownBlock) (.slice (some ad273) y270.length co29) y270) ∧ Aside0 (wc.heap[gb251]? = some (.cells #[.string a1_0, .string a1_1] 78 (0, 0))) ∧ Aside0 (wc.heap[gb275]? = some (.cells #[.string ((rd_T82 l0 x42_4).f0), .bool ((rd_T82 l0 x42_4).f1), .string ((rd_T82 l0 x42_4).f2), .string ((rd_T82 l0 x42_4).f3), .string ((rd_T82 l0 x42_4).f4)] 82 (0, 0))) ∧ Aside0 (Below w.heap.size w wc))
              case first =>
               have H := HC48.out; clear HC48; obtain ⟨bq49, hbq49⟩ : ∃ b_ : Bool, b_ = (rdOf false y260 x28_2) := ⟨_, rfl⟩
               replace H : (if (bq49) = true then (impl_Forms.j5 kj35 l0 x5_4 (bq49) (rdOf ByteArray.empty y270 x36_3) y260 (y260.length : Int) x28_2 y270 (y270.length : Int) x36_3 l0 (l0.length : Int) x42_4 true a1_0 a1_1 ((rd_T82 l0 x42_4).f0) ((rd_T82 l0 x42_4).f1) ((rd_T82 l0 x42_4).f2) ((rd_T82 l0 x42_4).f3) ((rd_T82 l0 x42_4).f4)) else (impl_Forms.j5 kj35 l0 x5_4 (bq49) (rdOf ByteArray.empty y270 x36_3) y260 (y260.length : Int) x28_2 y270 (y270.length : Int) x36_3 l0 (l0.length : Int) x42_4 ((rdOf ByteArray.empty y270 x36_3).toList == a1_0.toList) a1_0 a1_1 ((rd_T82 l0 x42_4).f0) ((rd_T82 l0 x42_4).f1) ((rd_T82 l0 x42_4).f2) ((rd_T82 l0 x42_4).f3) ((rd_T82 l0 x42_4).f4))) = some r := by rw [← hbq49] at H; exact H
               have Nbq49 := am hbq49; clear hbq49
               (try rw [← Nbq49.out])
               by_cases c50 : (bq49) = true
               ·rw [if_pos c50] at H
                have c50b0 : (bq49) = true := c50
                have e7_ : rdOf false y260 x28_2 = true := Nbq49.out.symm.trans c50b0
                subst c50b0
                simp only [e7_] at *
                clear c50
                have H' := am H
                clear H; go_wp2
                go_meet
                case rel => exact ⟨_, (true), sq, H', ⟨by have := HJ2.out; have := HK2.out; have := HK3.out; have := HK4.out; have := HJ35.out; first | omega | exact Nat.le_refl _⟩, ⟨rq HO_5.out⟩, ⟨rq HO_26.out⟩, ⟨rq HO_34.out⟩, ⟨bq BK251.out⟩, ⟨bq BK275.out⟩, ⟨bel2 GE251.out GE275.out⟩⟩
               rw [if_neg c50] at H
               have c50b0 : (bq49) = false := by simpa using c50
               have e7_ : rdOf false y260 x28_2 = false := Nbq49.out.symm.trans c50b0
               subst c50b0
               simp only [e7_] at *
               clear c50
               have H' := am H
               clear H; have hnb51 := NB251_275.out; have hnc51 := NB275_251.out; have hcz52_0 := bc BK251.out 0; have hcz52_1 := bc BK251.out 1; have hfz52_0 := bf BK251.out 0; have hfz52_1 := bf BK251.out 1; go_wp2
               go_meet
               case rel => exact ⟨_, (((rdOf ByteArray.empty y270 x36_3).toList == a1_0.toList)), sq, H', ⟨by have := HJ2.out; have := HK2.out; have := HK3.out; have := HK4.out; have := HJ35.out; first | omega | exact Nat.le_refl _⟩, ⟨rq HO_5.out⟩, ⟨rq HO_26.out⟩, ⟨rq HO_34.out⟩, ⟨bq BK251.out⟩, ⟨bq BK275.out⟩, ⟨bel2 GE251.out GE275.out⟩⟩
              case rest =>
               clear HC48; (try clear c1); (try clear c2); (try clear p2); (try clear q2); (try clear hx2); (try clear c3); (try clear c4); (try clear q4); (try clear c5); (try clear c6); (try clear p6); (try clear c12); (try clear c21); (try clear c21b0); (try clear c22); (try clear c22b0); (try clear c23); (try clear c23b0); (try clear c24); (try clear p26); (try clear q26); (try clear hx26); (try clear p27); (try clear q27); (try clear hx27); (try clear c30); (try clear c30b0); (try clear c31); (try clear c31b0); (try clear c32); (try clear c32b0); (try clear c33); (try clear c33b0); (try clear c34); (try clear c34b0); (try clear c35); (try clear c35b0); (try clear c38); (try clear c40); (try clear c40b0); (try clear c40b1); (try clear c40b2); (try clear c41); (try clear c44); (try clear c47); (try clear q49); (try clear c50); (try clear c50b0); (try clear c51); (try clear c52); (try clear hcz15_0); (try clear hcz15_1); (try clear hcz39_0); (try clear hcz39_1); (try clear hcz39_2); (try clear hcz39_3); (try clear hcz39_4); (try clear hcz42_0); (try clear hcz42_1); (try clear hcz42_2); (try clear hcz42_3); (try clear hcz42_4); (try clear hcz45_0); (try clear hcz45_1); (try clear hcz45_2); (try clear hcz45_3); (try clear hcz45_4); (try clear hcz46_0); (try clear hcz46_1); (try clear hcz52_0); (try clear hcz52_1); (try clear hcz9_0); (try clear hcz9_1); (try clear hfz15_0); (try clear hfz15_1); (try clear hfz39_0); (try clear hfz39_1); (try clear hfz39_2); (try clear hfz39_3); (try clear hfz39_4); (try clear hfz42_0); (try clear hfz42_1); (try clear hfz42_2); (try clear hfz42_3); (try clear hfz42_4); (try clear hfz45_0); (try clear hfz45_1); (try clear hfz45_2); (try clear hfz45_3); (try clear hfz45_4); (try clear hfz46_0); (try clear hfz46_1); (try clear hfz52_0); (try clear hfz52_1); (try clear hfz9_0); (try clear hfz9_1); (try clear hx266_0); (try clear hx273_0); (try clear hx274_0); (try clear hx274_1); (try clear hx274_2); (try clear hx274_3); (try clear hx274_4); (try clear p2); (try clear p26); (try clear p266); (try clear p27); (try clear p273); (try clear p274); (try clear q2); (try clear q26); (try clear q266); (try clear q27); (try clear q273); (try clear q274); obtain ⟨kq, x64_47, rfl, HA, HJ47, HO_5, HO_26, HO_34, BK251, BK275, HB⟩ := hcut
               cases kq with
               | zero => exact absurd HA.out (by simp [impl_Forms.j5])
               | succ kj47 =>
                have H := HA.out; clear HA
                simp only [impl_Forms.j5] at H
                by_cases c53 : x64_47 = true
                ·subst c53
                 have H1 : ((impl_AffixDo.f kj47 ((rd_T82 l0 x42_4).f0) ((rd_T82 l0 x42_4).f1) ((rd_T82 l0 x42_4).f2) ((rd_T82 l0 x42_4).f3) ((rd_T82 l0 x42_4).f4) (rdOf ByteArray.empty y270 x36_3)).bind fun bt277 => (if bt277.2 = true then (if x5_4.length < 8796093022208 then (impl_Forms.l2 kj47 l0 (x5_4 ++ [bt277.1]) (rdOf false y260 x28_2) (rdOf ByteArray.empty y270 x36_3) y260 (y260.length : Int) x28_2 y270 (y270.length : Int) x36_3 l0 (l0.length : Int) (wrap64 (x42_4 + 1)) a1_0 a1_1) else (none)) else (impl_Forms.l2 kj47 l0 x5_4 (rdOf false y260 x28_2) (rdOf ByteArray.empty y270 x36_3) y260 (y260.length : Int) x28_2 y270 (y270.length : Int) x36_3 l0 (l0.length : Int) (wrap64 (x42_4 + 1)) a1_0 a1_1))) = some r := b32_
                 replace H := H1; clear H1
                 replace H := bs H; obtain ⟨⟨t277, t278⟩, A540, H⟩ := H; replace H : (if t278 = true then (if x5_4.length < 8796093022208 then (impl_Forms.l2 kj47 l0 (x5_4 ++ [t277]) (rdOf false y260 x28_2) (rdOf ByteArray.empty y270 x36_3) y260 (y260.length : Int) x28_2 y270 (y270.length : Int) x36_3 l0 (l0.length : Int) (wrap64 (x42_4 + 1)) a1_0 a1_1) else (none)) else (impl_Forms.l2 kj47 l0 x5_4 (rdOf false y260 x28_2) (rdOf ByteArray.empty y270 x36_3) y260 (y260.length : Int) x28_2 y270 (y270.length : Int) x36_3 l0 (l0.length : Int) (wrap64 (x42_4 + 1)) a1_0 a1_1)) = some r := H; have A54 := Aside0.mk A540; clear A540
                 by_cases c55 : t278 = true
                 ·subst c55
                  have H1 : (if x5_4.length < 8796093022208 then (impl_Forms.l2 kj47 l0 (x5_4 ++ [t277]) (rdOf false y260 x28_2) (rdOf ByteArray.empty y270 x36_3) y260 (y260.length : Int) x28_2 y270 (y270.length : Int) x36_3 l0 (l0.length : Int) (wrap64 (x42_4 + 1)) a1_0 a1_1) else (none)) = some r := b32_
                  replace H := H1; clear H1
                  replace H := ip H; obtain ⟨c56, H⟩ := H; have LMc56 := Aside0.mk c56; clear c56; obtain ⟨y279, hy279⟩ : ∃ y_ : List ByteArray, y_ = (x5_4 ++ [t277]) := ⟨_, rfl⟩
                  replace H : (impl_Forms.l2 kj47 l0 y279 (rdOf false y260 x28_2) (rdOf ByteArray.empty y270 x36_3) y260 (y260.length : Int) x28_2 y270 (y270.length : Int) x36_3 l0 (l0.length : Int) (wrap64 (x42_4 + 1)) a1_0 a1_1) = some r := by first | (rw [hy279]; with_reducible exact H) | (have H2_ := bm H; rw [hy279]; with_reducible exact H2_) | (with_reducible exact bm H) | with_reducible exact H | (rw [hy279]; exact H) | exact H
                  have Ny279 := am hy279; clear hy279
                  have H' := am H
                  clear H; have hnb57 := NB275_251.out; have hnc57 := NB251_275.out; have hcz58_0 := bc BK275.out 0; have hcz58_1 := bc BK275.out 1; have hcz58_2 := bc BK275.out 2; have hcz58_3 := bc BK275.out 3; have hcz58_4 := bc BK275.out 4; have hfz58_0 := bf BK275.out 0; have hfz58_1 := bf BK275.out 1; have hfz58_2 := bf BK275.out 2; have hfz58_3 := bf BK275.out 3; have hfz58_4 := bf BK275.out 4
                  go_wp2_with (first | ((with_reducible refine gate_callee (f := 78) rfl ?_); refine goesL_ (some 68) rfl rfl Tryz.func78 (by kernel_rfl) rfl #[.agg #[.string ((rd_T82 l0 x42_4).f0), .bool ((rd_T82 l0 x42_4).f1), .string ((rd_T82 l0 x42_4).f2), .string ((rd_T82 l0 x42_4).f3), .string ((rd_T82 l0 x42_4).f4)], .string (rdOf ByteArray.empty y270 x36_3)] rfl mq ?_; (with_reducible refine (impl_AffixDo.calls kj47 ((rd_T82 l0 x42_4).f0) ((rd_T82 l0 x42_4).f1) ((rd_T82 l0 x42_4).f2) ((rd_T82 l0 x42_4).f3) ((rd_T82 l0 x42_4).f4) (rdOf ByteArray.empty y270 x36_3) t277 true _ A54.out).mono ?_); rintro e w59 ⟨rfl, hb⟩; refine ⟨_, rfl, ?_⟩; replace HO_5 := am (Kd.R_below (rq HO_5.out) hb); replace HO_26 := am (Kd.R_below (rq HO_26.out) hb); replace HO_34 := am (Kd.R_below (rq HO_34.out) hb); replace BK251 := am (blk_below (g := gb251) (o := .cells #[.string a1_0, .string a1_1] 78 (0, 0)) (bq BK251.out) hb); replace BK275 := am (blk_below (g := gb275) (o := .cells #[.string ((rd_T82 l0 x42_4).f0), .bool ((rd_T82 l0 x42_4).f1), .string ((rd_T82 l0 x42_4).f2), .string ((rd_T82 l0 x42_4).f3), .string ((rd_T82 l0 x42_4).f4)] 82 (0, 0)) (bq BK275.out) hb); replace HB := am (below_step (bel2 GE251.out GE275.out) hb); (try clear hb); (try clear hb2); (try clear hk); (try clear hi)) | ((with_reducible refine gate_builtin (b := .append) (xs := #[.tmp 72, .tmp 74]) rfl ?_); at_builtin; refine Kd.R_append Kd.string (w0 := w) w.heap.size rfl (.tmp 72) (.tmp 74) 49 9 (.string ⟨#[]⟩) 16 rfl Tryz.underlying49 info9 rfl (by decide) (by omega) u5 x5_4 t277 [.string t277] (fun k_ => some k_ ≠ (.slice (some ad273) y270.length co29 : Value).ownBlock) (fun _ => False) rfl rfl ?aP (fun _ hk => hk.elim) ?aF ?aO ?aB ?aS ?aL ?_; (case aP => exact rfl); (case aB => exact (bel2 GE251.out GE275.out)); (case aF => exact (fun k_ hk => Kd.fresh' (Kd.R_lt (rq HO_34.out)) k_ hk)); (case aO => exact (rq HO_5.out)); (case aS => exact (below_size (bel2 GE251.out GE275.out))); (case aL => have := LMc56.out; omega); intro v280 w60 ho hb hg hat; rw [← Ny279.out] at ho; replace HO_26 := am (Kd.R_over' (rq HO_26.out) (Kd.R_typed (rq HO_5.out)) (by decide) hg); replace HO_34 := am (Kd.R_after (ok := (fun _ => True)) (rq (Kd.R_mono HO_34.out (fun _ hk => ⟨trivial, hk⟩))) hg hat); replace BK251 := am (blk_grown (g := gb251) (o := .cells #[.string a1_0, .string a1_1] 78 (0, 0)) (bq BK251.out) hg (Kd.R_ne HO_5.out BK251.out (by decide))); replace BK275 := am (blk_grown (g := gb275) (o := .cells #[.string ((rd_T82 l0 x42_4).f0), .bool ((rd_T82 l0 x42_4).f1), .string ((rd_T82 l0 x42_4).f2), .string ((rd_T82 l0 x42_4).f3), .string ((rd_T82 l0 x42_4).f4)] 82 (0, 0)) (bq BK275.out) hg (Kd.R_ne HO_5.out BK275.out (by decide))); replace HB := am (hb); have HO281 := am (ho); clear HO_5; clear ho hb hg hat))
                  go_roundg kj47
                  case measure => have := HJ2.out; have := HK2.out; have := HK3.out; have := HK4.out; have := HJ35.out; have := HJ47.out; omega
                  case rel => exact ⟨(y279), (wrap64 (x42_4 + 1)), sq, H', ⟨b74_⟩, ⟨rq HO281.out⟩, ⟨rq HO_26.out⟩, ⟨rq (Kd.R_mono HO_34.out (fun _ hk => hk.2))⟩, ⟨bq BK251.out⟩, ⟨bel2 GE251.out GE275.out⟩⟩
                 replace c55 := Bool.eq_false_iff.mpr c55; subst c55
                 have H1 : (impl_Forms.l2 kj47 l0 x5_4 (rdOf false y260 x28_2) (rdOf ByteArray.empty y270 x36_3) y260 (y260.length : Int) x28_2 y270 (y270.length : Int) x36_3 l0 (l0.length : Int) (wrap64 (x42_4 + 1)) a1_0 a1_1) = some r := b13_
                 replace H := H1; clear H1
                 have H' := am H
                 clear H; have hnb61 := NB275_251.out; have hnc61 := NB251_275.out; have hcz62_0 := bc BK275.out 0; have hcz62_1 := bc BK275.out 1; have hcz62_2 := bc BK275.out 2; have hcz62_3 := bc BK275.out 3; have hcz62_4 := bc BK275.out 4; have hfz62_0 := bf BK275.out 0; have hfz62_1 := bf BK275.out 1; have hfz62_2 := bf BK275.out 2; have hfz62_3 := bf BK275.out 3; have hfz62_4 := bf BK275.out 4
                 go_wp2_with (first | ((with_reducible refine gate_callee (f := 78) rfl ?_); refine goesL_ (some 68) rfl rfl Tryz.func78 (by kernel_rfl) rfl #[.agg #[.string ((rd_T82 l0 x42_4).f0), .bool ((rd_T82 l0 x42_4).f1), .string ((rd_T82 l0 x42_4).f2), .string ((rd_T82 l0 x42_4).f3), .string ((rd_T82 l0 x42_4).f4)], .string (rdOf ByteArray.empty y270 x36_3)] rfl mq ?_; (with_reducible refine (impl_AffixDo.calls kj47 ((rd_T82 l0 x42_4).f0) ((rd_T82 l0 x42_4).f1) ((rd_T82 l0 x42_4).f2) ((rd_T82 l0 x42_4).f3) ((rd_T82 l0 x42_4).f4) (rdOf ByteArray.empty y270 x36_3) t277 false _ A54.out).mono ?_); rintro e w63 ⟨rfl, hb⟩; refine ⟨_, rfl, ?_⟩; replace HO_5 := am (Kd.R_below (rq HO_5.out) hb); replace HO_26 := am (Kd.R_below (rq HO_26.out) hb); replace HO_34 := am (Kd.R_below (rq HO_34.out) hb); replace BK251 := am (blk_below (g := gb251) (o := .cells #[.string a1_0, .string a1_1] 78 (0, 0)) (bq BK251.out) hb); replace BK275 := am (blk_below (g := gb275) (o := .cells #[.string ((rd_T82 l0 x42_4).f0), .bool ((rd_T82 l0 x42_4).f1), .string ((rd_T82 l0 x42_4).f2), .string ((rd_T82 l0 x42_4).f3), .string ((rd_T82 l0 x42_4).f4)] 82 (0, 0)) (bq BK275.out) hb); replace HB := am (below_step (bel2 GE251.out GE275.out) hb); (try clear hb); (try clear hb2); (try clear hk); (try clear hi)))
                 go_roundg kj47
                 case measure => have := HJ2.out; have := HK2.out; have := HK3.out; have := HK4.out; have := HJ35.out; have := HJ47.out; omega
                 case rel => exact ⟨(x5_4), (wrap64 (x42_4 + 1)), sq, H', ⟨b74_⟩, ⟨rq HO_5.out⟩, ⟨rq HO_26.out⟩, ⟨rq HO_34.out⟩, ⟨bq BK251.out⟩, ⟨bel2 GE251.out GE275.out⟩⟩
                replace c53 := Bool.eq_false_iff.mpr c53; subst c53
                have H1 : (impl_Forms.l2 kj47 l0 x5_4 (rdOf false y260 x28_2) (rdOf ByteArray.empty y270 x36_3) y260 (y260.length : Int) x28_2 y270 (y270.length : Int) x36_3 l0 (l0.length : Int) (wrap64 (x42_4 + 1)) a1_0 a1_1) = some r := b13_
                replace H := H1; clear H1
                have H' := am H
                clear H; go_wp2
                go_roundg kj47
                case measure => have := HJ2.out; have := HK2.out; have := HK3.out; have := HK4.out; have := HJ35.out; have := HJ47.out; omega
                case rel => exact ⟨(x5_4), (wrap64 (x42_4 + 1)), sq, H', ⟨b74_⟩, ⟨rq HO_5.out⟩, ⟨rq HO_26.out⟩, ⟨rq HO_34.out⟩, ⟨bq BK251.out⟩, ⟨bel2 GE251.out GE275.out⟩⟩
           rw [if_neg c33] at H; have c33b0 := decide_eq_false c33; clear c33
           have H' := am H
           clear H; go_wp2
           go_roundg k4
           case measure => have := HJ2.out; have := HK2.out; have := HK3.out; have := HK4.out; omega
           case rel => exact ⟨(x5_4), (wrap64 (x36_3 + 1)), sq, H', ⟨by have := HJ2.out; have := HK2.out; have := HK3.out; have := HK4.out; omega⟩, ⟨rq HO_5.out⟩, ⟨rq HO_26.out⟩, ⟨rq HO_34.out⟩, ⟨bq BK251.out⟩, ⟨bel1 GE251.out⟩⟩
        rw [if_neg c30] at H; have c30b0 := decide_eq_false c30; clear c30
        have H' := am H
        clear H; go_wp2
        go_roundg k3
        case measure => have := HJ2.out; have := HK2.out; have := HK3.out; omega
        case rel => exact ⟨(x5_3), (wrap64 (x28_2 + 1)), sq, H', ⟨by have := HJ2.out; have := HK2.out; have := HK3.out; omega⟩, ⟨rq (Kd.R_mono HO_5.out (fun _ hk => trivial))⟩, ⟨rq HO_26.out⟩, ⟨bq BK251.out⟩, ⟨bel1 GE251.out⟩⟩
     rw [if_neg c21] at H; have c21b0 := decide_eq_false c21; clear c21; replace H := bs H; obtain ⟨t263, A640, H⟩ := H; replace H : (some t263) = some r := H; have A64 := Aside0.mk A640; clear A640; obtain rfl := Option.some.inj H; obtain ⟨Ao65, co65, eo65⟩ := Kd.R_slice HO_5.out; subst eo65
     go_wp2_with (first | ((with_reducible refine gate_callee (f := 55) rfl ?_); refine goesL_ (some 80) rfl rfl Tryz.func55 (by kernel_rfl) rfl #[.slice Ao65 x5_2.length co65] rfl mq ?_; (with_reducible refine (impl_sorted.calls _ _ x5_2 t263 _ ?side1 ?side2 A64.out).mono ?_); (case side1 => exact cq (Kd.R_reads' HO_5.out).2.2); (case side2 => exact (Kd.R_reads' HO_5.out).2.1); rintro e w66 ⟨v264, rfl, ho0, hb⟩; refine ⟨_, rfl, ?_⟩; replace HO_26 := am (Kd.R_below (rq HO_26.out) hb); have HO265 := am (Kd.R_lower (Kd.R_new' ho0 (Kd.R_lt (rq HO_5.out))) (below_size (bel1 GE251.out))); replace HO_5 := am (Kd.R_elder' (rq HO_5.out) (Kd.R_base ho0) hb); replace BK251 := am (blk_below (g := gb251) (o := .cells #[.string a1_0, .string a1_1] 78 (0, 0)) (bq BK251.out) hb); replace HB := am (below_step (bel1 GE251.out) hb); (try clear hb); (try clear hb2); (try clear hk); (try clear hi); (try clear ho0)))
     go_ret
     exact ⟨_, eq_, by (with_reducible repeat (first | apply Kd.R_alloc | apply Kd.R_drewN | apply Kd.R_drew)); exact Kd.R_mono HO265.out (fun _ hk => trivial), bel1 GE251.out⟩
-- shrunk

/-! ### impl_Book_words: function 27 -/
def impl_Book_words.l0 : Nat → List ByteArray → List (S78) → Int → Int → List (S82) → List (S78) → Option (List ByteArray)
 | 0, _, _, _, _, _, _ => none
 | k + 1, x3, x8, x9, x10, x283000, x283001 => if x10 < x9 then (if 0 ≤ x10 then (if x10 < (x8.length : Int) then ((impl_Forms.f k x283000 ((rd_T78 x8 x10).f0) ((rd_T78 x8 x10).f1)).bind fun t288 => (if x3.length + t288.length < 8796093022208 then (impl_Book_words.l0 k (x3 ++ t288) x8 x9 (wrap64 (x10 + 1)) x283000 x283001) else (none))) else (none)) else (none)) else ((impl_sorted.f x3).bind fun t294 => (some t294))
def impl_Book_words.f (k : Nat) (l0_0 : List (S82)) (l0_1 : List (S78)) : Option (List ByteArray) := impl_Book_words.l0 k (([] : List ByteArray)) l0_1 (l0_1.length : Int) 0 l0_0 l0_1
theorem impl_Book_words.calls (k : Nat) (A0_0 : Option Addr) (c0_0 : Nat) (l0_0 : List (S82)) (A0_1 : Option Addr) (c0_1 : Nat) (l0_1 : List (S78)) (r : List ByteArray) (w : World) (hr0_0 : Kd.C k82 w A0_0 l0_0.length l0_0) (hc0_0 : l0_0.length ≤ c0_0) (hr0_1 : Kd.C k78 w A0_1 l0_1.length l0_1) (hc0_1 : l0_1.length ≤ c0_1) (h : impl_Book_words.f k l0_0 l0_1 = some r) :
  Calls Tryz.prog 27 #[.agg #[.slice A0_0 l0_0.length c0_0, .slice A0_1 l0_1.length c0_1]] w fun e w' => ∃ v0_ : Value, e = .returned (v0_) ∧ Kd.R Kd.string 9 w' w.heap.size (fun _ => True) v0_ r ∧ Below w.heap.size w w' := by
 have hu32 := Tryz.underlying32; have hu78 := Tryz.underlying78; have HR0_0 := am hr0_0; have HC0_0 := am hc0_0; clear hr0_0 hc0_0; have HR0_1 := am hr0_1; have HC0_1 := am hc0_1; clear hr0_1 hc0_1; have HB := am (Below.refl w.heap.size w)
 have H : (impl_Book_words.l0 k (([] : List ByteArray)) l0_1 (l0_1.length : Int) 0 l0_0 l0_1) = some r := h
 clear h; obtain ⟨y283, hy283⟩ : ∃ y_ : List ByteArray, y_ = (([] : List ByteArray)) := ⟨_, rfl⟩
 replace H : (impl_Book_words.l0 k y283 l0_1 (l0_1.length : Int) 0 l0_0 l0_1) = some r := by first | (rw [hy283]; with_reducible exact H) | (have H2_ := bm H; rw [hy283]; with_reducible exact H2_) | (with_reducible exact bm H) | with_reducible exact H | (rw [hy283]; exact H) | exact H
 have Ny283 := am hy283; clear hy283
 have H' := am H
 clear H; go_enter Tryz.func27, Tryz.ntmps27
 go_wp2_with (first | ((with_reducible refine gate_dst (N := 1) rfl ?_); refine bx 1 (cs := #[.slice A0_0 l0_0.length c0_0, .slice A0_1 l0_1.length c0_1]) (t := 32) ?_; intro gb282 hg w2 hbox hb; have BK282 := am (hbox); have GW282 := am ((b19_ : w.heap.size ≤ gb282)); have GE282 := am ((b19_ : w.heap.size ≤ gb282)); replace HB := am (below_step bel hb); clear hb hbox hg) | ((with_reducible refine gate_dst (N := 6) rfl ?_); refine Kd.R_lit Kd.string _ 9 ?hg (N := 6) ?hd (xs := ([] : List ByteArray)) (inner := []) (ok := fun _ => True) (okp := fun _ => True) ?hr ?hp (fun _ hk => hk) trivial (Below.refl _ _) (Nat.le_refl _) (by simp) ?_; (case hd => rfl); (case hg => rfl); (case hr => first | (go_simp; done) | (go_simp; rfl)); (case hp => exact (Reps.none _ _)); intro v284 w3 ho4 hb hg_ hnew_; clear hg_ hnew_; (first | rw [← Ny283.out] at ho4 | (simp only [Int.reduceToNat] at ho4; rw [← Ny283.out] at ho4) | (simp only [Int.toNat_natCast] at ho4; rw [← Ny283.out] at ho4)); have HO285 := am (Kd.R_lower ho4 (below_size (bel1 GE282.out))); replace BK282 := am (blk_below (g := gb282) (o := .cells #[.slice A0_0 l0_0.length c0_0, .slice A0_1 l0_1.length c0_1] 32 (0, 0)) (bq BK282.out) hb); replace HB := am (below_step (bel1 GE282.out) hb); clear hb ho4; have hcz5_0 := bc BK282.out 0; have hcz5_1 := bc BK282.out 1; have hfz5_0 := bf BK282.out 0; have hfz5_1 := bf BK282.out 1))
 go_loopg [3, 10] k (fun kq v3 v10 w' => ∃ (x3_1 : List ByteArray) (x10_1 : Int), v10 = .int .i64 x10_1 ∧ Aside0 (impl_Book_words.l0 kq x3_1 l0_1 (l0_1.length : Int) x10_1 l0_0 l0_1 = some r) ∧ Aside0 (kq ≤ k) ∧ Aside0 (Kd.R Kd.string 9 w' w.heap.size (fun _ => True) v3 x3_1) ∧ Aside0 (w'.heap[gb282]? = some (.cells #[(.slice A0_0 l0_0.length c0_0), (.slice A0_1 l0_1.length c0_1)] 32 (0, 0))) ∧ Aside0 (Below w.heap.size w w'))
 case atStart => exact ⟨(y283), (0), sq, H', ⟨Nat.le_refl _⟩, ⟨rq HO285.out⟩, ⟨bq BK282.out⟩, ⟨bel1 GE282.out⟩⟩
 case round =>
  clear H'; (try clear c2); (try clear p2); (try clear hcz5_0); (try clear hcz5_1); (try clear hfz5_0); (try clear hfz5_1); obtain ⟨x3_1, x10_1, rfl, HA, HK1, HO_3, BK282, HB⟩ := hrel
  cases gk with
  | zero => exact absurd HA.out (by simp [impl_Book_words.l0])
  | succ k1 =>
   have H := HA.out; clear HA
   simp only [impl_Book_words.l0] at H
   by_cases c6 : x10_1 < (l0_1.length : Int)
   ·rw [if_pos c6] at H; have c6b0 := decide_eq_true c6; clear c6
    replace H := it H; obtain ⟨c7b0, H⟩ := H
    replace H := it H; obtain ⟨c8b0, H⟩ := H; replace H := bs H; obtain ⟨t288, A90, H⟩ := H; replace H : (if x3_1.length + t288.length < 8796093022208 then (impl_Book_words.l0 k1 (x3_1 ++ t288) l0_1 (l0_1.length : Int) (wrap64 (x10_1 + 1)) l0_0 l0_1) else (none)) = some r := H; have A9 := Aside0.mk A90; clear A90
    replace H := ip H; obtain ⟨c10, H⟩ := H; have LMc10 := Aside0.mk c10; clear c10; obtain ⟨y291, hy291⟩ : ∃ y_ : List ByteArray, y_ = (x3_1 ++ t288) := ⟨_, rfl⟩
    replace H : (impl_Book_words.l0 k1 y291 l0_1 (l0_1.length : Int) (wrap64 (x10_1 + 1)) l0_0 l0_1) = some r := by first | (rw [hy291]; with_reducible exact H) | (have H2_ := bm H; rw [hy291]; with_reducible exact H2_) | (with_reducible exact bm H) | with_reducible exact H | (rw [hy291]; exact H) | exact H
    have Ny291 := am hy291; clear hy291
    have H' := am H
    clear H
    have p286 : 0 ≤ (x10_1 : Int) := of_decide_eq_true ad
    have q286 : x10_1 < (l0_1.length : Int) := of_decide_eq_true ad
    obtain ⟨ad286, e286, hx286_0, hx286_1⟩ := at_T78 HR0_1.out x10_1 p286 q286
    cases e286
    replace hx286_0 := kp HB.out hx286_0; replace hx286_1 := kp HB.out hx286_1; replace p286 := eq_true p286; replace q286 := eq_true q286
    go_wp2_with (first | ((with_reducible refine gate_dst (N := 5) rfl ?_); refine bx 5 (cs := #[.string (⟨#[]⟩ : ByteArray), .string (⟨#[]⟩ : ByteArray)]) (t := 78) ?_; intro gb287 hg w11 hbox hb; replace HO_3 := am (Kd.R_below (rq HO_3.out) hb); have BK287 := am (hbox); have GW287 := am ((by rw [hg]; exact (below_size (bel1 GE282.out)) : w.heap.size ≤ gb287)); have GE287 := am ((by rw [hg]; exact (below_size (bel1 GE282.out)) : w.heap.size ≤ gb287)); replace HB := am (below_step (bel1 GE282.out) hb); have NB282_287 := am ((by rw [hg]; exact Nat.ne_of_lt (blk_lt (g := gb282) (o := .cells #[.slice A0_0 l0_0.length c0_0, .slice (some ad286) l0_1.length c0_1] 32 (0, 0)) (bq BK282.out)) : gb282 ≠ gb287)); have NB287_282 := am ((by rw [hg]; exact Nat.ne_of_gt (blk_lt (g := gb282) (o := .cells #[.slice A0_0 l0_0.length c0_0, .slice (some ad286) l0_1.length c0_1] 32 (0, 0)) (bq BK282.out)) : gb287 ≠ gb282)); replace BK282 := am (blk_below (g := gb282) (o := .cells #[.slice A0_0 l0_0.length c0_0, .slice (some ad286) l0_1.length c0_1] 32 (0, 0)) (bq BK282.out) hb); clear hb hbox hg; have hnb12 := NB287_282.out; have hnc12 := NB282_287.out; have hcz13_0 := bc BK287.out 0; have hcz13_1 := bc BK287.out 1; have hfz13_0 := bf BK287.out 0; have hfz13_1 := bf BK287.out 1; have hcz14_0 := bc BK282.out 0; have hcz14_1 := bc BK282.out 1; have hfz14_0 := bf BK282.out 0; have hfz14_1 := bf BK282.out 1) | ((with_reducible refine gate_callee (f := 54) rfl ?_); refine goesL_ (some 18) rfl rfl Tryz.func54 (by kernel_rfl) rfl #[.slice A0_0 l0_0.length c0_0, .agg #[.string ((rd_T78 l0_1 x10_1).f0), .string ((rd_T78 l0_1 x10_1).f1)]] rfl mq ?_; (with_reducible refine (impl_Forms.calls k1 _ _ l0_0 ((rd_T78 l0_1 x10_1).f0) ((rd_T78 l0_1 x10_1).f1) t288 _ ?side1 ?side2 A9.out).mono ?_); (case side1 => exact Kd.C_below HR0_0.out (bel2 GE282.out GE287.out)); (case side2 => exact HC0_0.out); rintro e w15 ⟨v289, rfl, ho0, hb⟩; refine ⟨_, rfl, ?_⟩; have HO290 := am (Kd.R_lower (Kd.R_new' ho0 (Kd.R_lt (rq ((Kd.R_mono (Kd.R_far (p := ⟨gb287, 1, none⟩) (Kd.R_far (p := ⟨gb287, 0, none⟩) (Kd.R_types HO_3.out BK287.out (by decide)) (fun _ hk => hk.2) (.string ((rd_T78 l0_1 x10_1).f0))) (fun _ hk => hk.2) (.string ((rd_T78 l0_1 x10_1).f1))) (fun _ h_ => h_.1)))))) (below_size (bel2 GE282.out GE287.out))); replace HO_3 := am (Kd.R_elder' (rq ((Kd.R_mono (Kd.R_far (p := ⟨gb287, 1, none⟩) (Kd.R_far (p := ⟨gb287, 0, none⟩) (Kd.R_types HO_3.out BK287.out (by decide)) (fun _ hk => hk.2) (.string ((rd_T78 l0_1 x10_1).f0))) (fun _ hk => hk.2) (.string ((rd_T78 l0_1 x10_1).f1))) (fun _ h_ => h_.1)))) (Kd.R_base ho0) hb); replace BK282 := am (blk_below (g := gb282) (o := .cells #[.slice A0_0 l0_0.length c0_0, .slice (some ad286) l0_1.length c0_1] 32 (0, 0)) (by (with_reducible repeat (first | refine blk_drewN ?_ _ | refine blk_drew ?_ | refine blk_alloc ?_ _)); refine blk_far ?_ NB282_287.out _; (with_reducible repeat (first | refine blk_drewN ?_ _ | refine blk_drew ?_ | refine blk_alloc ?_ _)); refine blk_far ?_ NB282_287.out _; (with_reducible repeat (first | refine blk_drewN ?_ _ | refine blk_drew ?_ | refine blk_alloc ?_ _)); exact BK282.out) hb); replace BK287 := am (blk_below (g := gb287) (o := .cells #[.string ((rd_T78 l0_1 x10_1).f0), .string ((rd_T78 l0_1 x10_1).f1)] 78 (0, 0)) (by (with_reducible repeat (first | refine blk_drewN ?_ _ | refine blk_drew ?_ | refine blk_alloc ?_ _)); refine blk_put (cs := #[.string ((rd_T78 l0_1 x10_1).f0), .string (⟨#[]⟩ : ByteArray)]) ?_ 1 _ rfl; (with_reducible repeat (first | refine blk_drewN ?_ _ | refine blk_drew ?_ | refine blk_alloc ?_ _)); refine blk_put (cs := #[.string (⟨#[]⟩ : ByteArray), .string (⟨#[]⟩ : ByteArray)]) ?_ 0 _ rfl; (with_reducible repeat (first | refine blk_drewN ?_ _ | refine blk_drew ?_ | refine blk_alloc ?_ _)); exact BK287.out) hb); replace HB := am (below_step (bel2 GE282.out GE287.out) hb); (try clear hb); (try clear hb2); (try clear hk); (try clear hi); (try clear ho0); obtain ⟨Ao17, co17, eo17⟩ := Kd.R_slice HO290.out; subst eo17) | ((with_reducible refine gate_builtin (b := .append) (xs := #[.tmp 14, .tmp 18]) rfl ?_); at_builtin; refine Kd.R_append_rows Kd.string (w0 := w) w.heap.size rfl (.tmp 14) (.tmp 18) 49 9 (.string ⟨#[]⟩) 16 rfl Tryz.underlying49 info9 rfl (by decide) (by omega) u3 x3_1 t288 _ _ _ (fun k_ => some k_ ≠ (.slice Ao17 t288.length co17 : Value).ownBlock) (fun _ => False) rfl rfl ?aO ?aR (fun _ _ h => h) (fun _ h => h.elim) ?aF ?aB ?aS ?aL ?_; (case aR => exact cq (Kd.R_reads' HO290.out).2.2); (case aB => exact (bel2 GE282.out GE287.out)); (case aF => exact (fun k_ hk => Kd.fresh' (Kd.R_lt (rq HO290.out)) k_ hk)); (case aO => exact (rq (Kd.R_mono HO_3.out (fun _ hk => hk.2)))); (case aS => exact (below_size (bel2 GE282.out GE287.out))); (case aL => have := LMc10.out; omega); intro v292 w16 ho hb hg hat; rw [← Ny291.out] at ho; replace BK282 := am (blk_grown (g := gb282) (o := .cells #[.slice A0_0 l0_0.length c0_0, .slice (some ad286) l0_1.length c0_1] 32 (0, 0)) (bq BK282.out) hg (Kd.R_ne HO_3.out BK282.out (by decide))); replace BK287 := am (blk_grown (g := gb287) (o := .cells #[.string ((rd_T78 l0_1 x10_1).f0), .string ((rd_T78 l0_1 x10_1).f1)] 78 (0, 0)) (bq BK287.out) hg (Kd.R_ne HO_3.out BK287.out (by decide))); replace HO290 := am (Kd.R_after (ok := (fun _ => True)) (rq HO290.out) hg hat); replace HB := am (hb); have HO293 := am (ho); clear HO_3; clear ho hb hg hat))
    go_roundg k1
    case measure => have := HK1.out; omega
    case rel => exact ⟨(y291), (wrap64 (x10_1 + 1)), sq, H', ⟨b63_⟩, ⟨rq (Kd.R_mono HO293.out (fun _ hk => trivial))⟩, ⟨bq BK282.out⟩, ⟨bel2 GE282.out GE287.out⟩⟩
   rw [if_neg c6] at H; have c6b0 := decide_eq_false c6; clear c6; replace H := bs H; obtain ⟨t294, A180, H⟩ := H; replace H : (some t294) = some r := H; have A18 := Aside0.mk A180; clear A180; obtain rfl := Option.some.inj H; obtain ⟨Ao19, co19, eo19⟩ := Kd.R_slice HO_3.out; subst eo19
   go_wp2_with (first | ((with_reducible refine gate_callee (f := 55) rfl ?_); refine goesL_ (some 22) rfl rfl Tryz.func55 (by kernel_rfl) rfl #[.slice Ao19 x3_1.length co19] rfl mq ?_; (with_reducible refine (impl_sorted.calls _ _ x3_1 t294 _ ?side1 ?side2 A18.out).mono ?_); (case side1 => exact cq (Kd.R_reads' HO_3.out).2.2); (case side2 => exact (Kd.R_reads' HO_3.out).2.1); rintro e w20 ⟨v295, rfl, ho0, hb⟩; refine ⟨_, rfl, ?_⟩; have HO296 := am (Kd.R_lower (Kd.R_new' ho0 (Kd.R_lt (rq HO_3.out))) (below_size (bel1 GE282.out))); replace HO_3 := am (Kd.R_elder' (rq HO_3.out) (Kd.R_base ho0) hb); replace BK282 := am (blk_below (g := gb282) (o := .cells #[.slice A0_0 l0_0.length c0_0, .slice A0_1 l0_1.length c0_1] 32 (0, 0)) (bq BK282.out) hb); replace HB := am (below_step (bel1 GE282.out) hb); (try clear hb); (try clear hb2); (try clear hk); (try clear hi); (try clear ho0)))
   go_ret
   exact ⟨_, eq_, by (with_reducible repeat (first | apply Kd.R_alloc | apply Kd.R_drewN | apply Kd.R_drew)); exact Kd.R_mono HO296.out (fun _ hk => trivial), bel1 GE282.out⟩

/-! ### impl_letter: function 28 -/
def impl_letter.f (a0 : Int) : Option (Bool) := if a0 ≥ 97 then (if a0 ≤ 122 then (some true) else ((impl_upper.f a0).bind fun t297 => (some t297))) else ((impl_upper.f a0).bind fun t298 => (some t298))
theorem impl_letter.calls (a0 : Int) (r : Bool) (w : World) (h : impl_letter.f a0 = some r) :
  Calls Tryz.prog 28 #[.int .u8 a0] w fun e w' => e = .returned (.bool r) ∧ Drawn0 w w' := by
 have H : (if a0 ≥ 97 then (if a0 ≤ 122 then (some true) else ((impl_upper.f a0).bind fun t297 => (some t297))) else ((impl_upper.f a0).bind fun t298 => (some t298))) = some r := h
 clear h
 by_cases c2 : a0 ≥ 97
 ·rw [if_pos c2] at H; have c2b0 := decide_eq_true c2; clear c2
  by_cases c3 : a0 ≤ 122
  ·rw [if_pos c3] at H; have c3b0 := decide_eq_true c3; clear c3; obtain rfl := Option.some.inj H; go_enter Tryz.func28, Tryz.ntmps28; go_wp2; go_ret
   exact ⟨sq, dr⟩
  rw [if_neg c3] at H; have c3b0 := decide_eq_false c3; clear c3; replace H := bs H; obtain ⟨t297, A40, H⟩ := H; replace H : (some t297) = some r := H; have A4 := Aside0.mk A40; clear A40; obtain rfl := Option.some.inj H; go_enter Tryz.func28, Tryz.ntmps28
  go_wp2_with (first | (go_at_call 56; (with_reducible refine (impl_upper.calls a0 t297 _ A4.out).mono ?_); rintro e w' ⟨rfl, ⟨nd, rfl⟩⟩))
  go_ret
  exact ⟨sq, dr⟩
 rw [if_neg c2] at H; have c2b0 := decide_eq_false c2; clear c2; replace H := bs H; obtain ⟨t298, A50, H⟩ := H; replace H : (some t298) = some r := H; have A5 := Aside0.mk A50; clear A50; obtain rfl := Option.some.inj H; go_enter Tryz.func28, Tryz.ntmps28
 go_wp2_with (first | (go_at_call 56; (with_reducible refine (impl_upper.calls a0 t298 _ A5.out).mono ?_); rintro e w' ⟨rfl, ⟨nd, rfl⟩⟩))
 go_ret
 exact ⟨sq, dr⟩

/-! ### strings_ToLower: function 29 -/
/-- ToLower, of a text of plain letters. -/
def strings_ToLower.f (a0 : ByteArray) : Option ByteArray := if a0.size ≤ 1000000000 ∧ (a0.data.toList.all fun b => decide (b.toNat < 128)) = true then some ⟨(Go.Lib.toLowerA a0.data.toList).toArray⟩ else none
theorem strings_ToLower.extra : Builder.Extra Tryz.prog Try.layLow_ren := {
 sizeBuilder := by kernel_rfl,
 liesBuilder := by kernel_rfl,
 t5 := Tryz.underlying5,
 a5 := Tryz.isAgg5,
 z5 := Tryz.sizeOf5,
 v5 := Tryz.zeroValue5,
 infoByte := by kernel_rfl,
 cellsByte := by kernel_rfl,
 sizeByte := by kernel_rfl,
 neB5 := by decide }
theorem strings_ToLower.calls (a0 : ByteArray) (r : ByteArray) (w : World) (h : strings_ToLower.f a0 = some r) :
  Calls Tryz.prog 29 #[.string a0] w fun e w' => e = .returned (.string r) ∧ Below w.heap.size w w' := by
 unfold strings_ToLower.f at h
 split at h
 case isFalse => cases h
 rename_i hz; obtain rfl := Option.some.inj h
 have := Any.strings_ToLower_ascii Try.layLow strings_ToLower.extra a0 w (by omega) (fun j b hb => of_decide_eq_true (List.all_eq_true.1 hz.2 b (List.mem_of_getElem? hb)))
 change Calls Tryz.prog 29 _ _ _ at this
 exact this

/-! ### slices_Index_string_string: function 63 -/
def slices_Index_string_string.l0 : Nat → List ByteArray → ByteArray → Int → Int → Option (Int)
 | 0, _, _, _, _ => none
 | k + 1, x0, x1, x7, x8 => if x8 < x7 then (if 0 ≤ x8 then (if x8 < (x0.length : Int) then (if x1.toList = (rdOf ByteArray.empty x0 x8).toList then (some x8) else (slices_Index_string_string.l0 k x0 x1 x7 (wrap64 (x8 + 1)))) else (none)) else (none)) else (some (-1))
def slices_Index_string_string.f (k : Nat) (l0 : List ByteArray) (a1 : ByteArray) : Option (Int) := slices_Index_string_string.l0 k l0 a1 (l0.length : Int) 0
theorem slices_Index_string_string.calls (k : Nat) (A0 : Option Addr) (c0 : Nat) (l0 : List ByteArray) (a1 : ByteArray) (r : Int) (w : World) (hr0 : Kd.C Kd.string w A0 l0.length l0) (hc0 : l0.length ≤ c0) (h : slices_Index_string_string.f k l0 a1 = some r) :
  Calls Tryz.prog 63 #[.slice A0 l0.length c0, .string a1] w fun e w' => e = .returned (.int .i64 r) ∧ Drawn0 w w' := by
 have HR0 := am hr0; have HC0 := am hc0; clear hr0 hc0
 have H : (slices_Index_string_string.l0 k l0 a1 (l0.length : Int) 0) = some r := h
 clear h
 have H' := am H
 clear H; go_enter Tryz.func63, Tryz.ntmps63; go_wp2
 go_loopg [8] k (fun kq v8 w' => ∃ (x8_1 : Int), v8 = .int .i64 x8_1 ∧ Aside0 (slices_Index_string_string.l0 kq l0 a1 (l0.length : Int) x8_1 = some r) ∧ Aside0 (kq ≤ k) ∧ Drawn0 w w')
 case atStart => exact ⟨(0), sq, H', ⟨Nat.le_refl _⟩, dr⟩
 case round =>
  clear H'; (try clear p2); obtain ⟨x8_1, rfl, HA, HK1, ⟨m1, rfl⟩⟩ := hrel
  cases gk with
  | zero => exact absurd HA.out (by simp [slices_Index_string_string.l0])
  | succ k1 =>
   have H := HA.out; clear HA
   simp only [slices_Index_string_string.l0] at H
   by_cases c3 : x8_1 < (l0.length : Int)
   ·rw [if_pos c3] at H; have c3b0 := decide_eq_true c3; clear c3
    replace H := it H; obtain ⟨c4b0, H⟩ := H
    replace H := it H; obtain ⟨c5b0, H⟩ := H
    by_cases c6 : a1.toList = (rdOf ByteArray.empty l0 x8_1).toList
    ·rw [if_pos c6] at H
     have c6b0 : (a1.toList == (rdOf ByteArray.empty l0 x8_1).toList) = true := beq_iff_eq.mpr c6
     have c6b1 : (a1.toList != (rdOf ByteArray.empty l0 x8_1).toList) = false := bne_eq_false_iff_eq.mpr c6
     clear c6; obtain rfl := Option.some.inj H
     have p299 : 0 ≤ (x8_1 : Int) := of_decide_eq_true ad
     have q299 : x8_1 < (l0.length : Int) := of_decide_eq_true ad
     obtain ⟨ad299, e299, hx299_0⟩ := Kd.at_string HR0.out x8_1 p299 q299
     cases e299
     replace p299 := eq_true p299; replace q299 := eq_true q299; go_wp2; go_ret
     exact ⟨sq, dr⟩
    rw [if_neg c6] at H
    have c6b0 : (a1.toList == (rdOf ByteArray.empty l0 x8_1).toList) = false := beq_eq_false_iff_ne.mpr c6
    have c6b1 : (a1.toList != (rdOf ByteArray.empty l0 x8_1).toList) = true := bne_iff_ne.mpr c6
    have H' := am H
    clear H
    have p299 : 0 ≤ (x8_1 : Int) := of_decide_eq_true ad
    have q299 : x8_1 < (l0.length : Int) := of_decide_eq_true ad
    obtain ⟨ad299, e299, hx299_0⟩ := Kd.at_string HR0.out x8_1 p299 q299
    cases e299
    replace p299 := eq_true p299; replace q299 := eq_true q299; go_wp2
    go_roundg k1
    case measure => have := HK1.out; omega
    case rel => exact ⟨(wrap64 (x8_1 + 1)), sq, H', ⟨b63_⟩, dr⟩
   rw [if_neg c3] at H; have c3b0 := decide_eq_false c3; clear c3; obtain rfl := Option.some.inj H; go_wp2; go_ret
   exact ⟨sq, dr⟩

/-! ### slices_Contains_string_string: function 30 -/
def slices_Contains_string_string.f (k : Nat) (l0 : List ByteArray) (a1 : ByteArray) : Option (Bool) := (slices_Index_string_string.f k l0 a1).bind fun t300 => (some (decide (t300 ≥ 0)))
theorem slices_Contains_string_string.calls (k : Nat) (A0 : Option Addr) (c0 : Nat) (l0 : List ByteArray) (a1 : ByteArray) (r : Bool) (w : World) (hr0 : Kd.C Kd.string w A0 l0.length l0) (hc0 : l0.length ≤ c0) (h : slices_Contains_string_string.f k l0 a1 = some r) :
  Calls Tryz.prog 30 #[.slice A0 l0.length c0, .string a1] w fun e w' => e = .returned (.bool r) ∧ Drawn0 w w' := by
 have HR0 := am hr0; have HC0 := am hc0; clear hr0 hc0
 have H : ((slices_Index_string_string.f k l0 a1).bind fun t300 => (some (decide (t300 ≥ 0)))) = some r := h
 clear h; replace H := bs H; obtain ⟨t300, A30, H⟩ := H; replace H : (some (decide (t300 ≥ 0))) = some r := H; have A3 := Aside0.mk A30; clear A30; obtain rfl := Option.some.inj H; go_enter Tryz.func30, Tryz.ntmps30
 go_wp2_with (first | ((with_reducible refine gate_callee (f := 63) rfl ?_); refine goesL_ (some 7) rfl rfl Tryz.func63 (by kernel_rfl) rfl #[.slice A0 l0.length c0, .string a1] rfl mq ?_; (with_reducible refine (slices_Index_string_string.calls k _ _ l0 a1 t300 _ ?side1 ?side2 A3.out).mono ?_); (case side1 => repeat (first | exact HR0.out | (with_reducible refine Kd.C_alloc ?_ _) | (with_reducible refine Kd.C_drewN ?_ _) | (with_reducible refine Kd.C_drew ?_))); (case side2 => exact HC0.out); rintro e w' ⟨rfl, ⟨nd, rfl⟩⟩; refine ⟨_, rfl, ?_⟩))
 go_ret
 exact ⟨sq, dr⟩
end Go.Proofs.YtfpmfaelodfecaaGreatDoor.QFnCheck

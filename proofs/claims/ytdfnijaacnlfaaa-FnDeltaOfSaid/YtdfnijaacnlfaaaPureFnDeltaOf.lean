/- A change from one book to another one leads there, and the other way round back; of a book and itself it is nothing. No condition. -/
import Derived.Test.YtdfnijaacnlfaaaQFnDeltaOfx24
import Derived.Test.YtdfnijaacnlfaaaVMBas
import Derived.Test.YtdfnijaacnlfaaaVMStr
import Derived.Test.YtdfnijaacnlfaaaVMAff
import Derived.Test.YtdfnijaacnlfaaaVMSml
import Derived.Test.YtdfnijaacnlfaaaVSized
namespace Go.Proofs.Ytdfnijaacnlfaaa
theorem PrintWords.sized_ints : type_of% @Go.Proofs.YtdfnijaacnlfaaaW.PrintWords.sized_ints := @Go.Proofs.YtdfnijaacnlfaaaW.PrintWords.sized_ints
end Go.Proofs.Ytdfnijaacnlfaaa
namespace Go.Proofs.Ytdfnijaacnlfaaa.Pure
open Go.RowKit Go.Proofs.Ytdfnijaacnlfaaa.QFnDeltaOf Go.Proofs.YtdfnijaacnlfaaaW.PrintWords Go.Proofs.YtdfnijaacnlfaaaW.PrintLast Go.Proofs.YtdfnijaacnlfaaaW.PrintMore Go.Proofs.Ytdfnijaacnlfaaa.M
set_option linter.unusedVariables false
set_option linter.unusedSimpArgs false
theorem letters_loop (s : ByteArray) (m : Int) (h : s.size ≤ 281474976710656) (d : Nat) : ∀ i : Int, 0 ≤ i → i ≤ s.size → (s.size : Int) - i = d →
  Ev (fun k => spec_l1Letters.l0 k s m i) (((bytesOf s).drop i.toNat).all low && decide ((s.size : Int) ≤ m)) := by
 induction d with
 | zero =>
  intro i h0 h1 hd
  refine Ev.step (fun k => spec_l1Letters.l0.eq_2 _ _ _ _) (eN ?_)
  rw [List.drop_eq_nil_of_le (by rw [bytesOf_length]; omega)]
  exact evTo (Ev.now _) (by simp)
 | succ d ih =>
  intro i h0 h1 hd
  refine Ev.step (fun k => spec_l1Letters.l0.eq_2 _ _ _ _) (eP (evPos h0 ?_))
  rw [bytes_drop s i h0 (by omega), List.all_cons]
  by_cases c : bt s i < 97
  ·exact evPos c (evTo (Ev.now _) (by simp [low]; omega))
  refine evNeg c ?_
  by_cases c1 : bt s i > 122
  ·exact evPos c1 (evTo (Ev.now _) (by simp [low]; omega))
  refine evNeg c1 ?_
  have e : low (bt s i) = true := (low_iff _).2 (by omega)
  rw [w6, e, Bool.true_and]
  exact ih (i + 1) (by omega) (by omega) (by omega)
theorem letters_spec (s : ByteArray) (m : Int) (h : s.size ≤ 140737488351232) : Ev (fun k => spec_l1Letters.f k s m) ((bytesOf s).all low && decide ((s.size : Int) ≤ m)) :=
 letters_loop s m (by omega) s.size 0 (by omega) (by omega) (by omega)
theorem flag_spec (s : ByteArray) : spec_l2Flag.f s = some (flagB s) := by
 unfold spec_l2Flag.f
 by_cases c : (s.size : Int) = 1
 ·rw [if_pos c, if_pos (by omega)]
  by_cases e : bt s 0 ≥ 65
  ·rw [if_pos e]
   simp [flagB, e]
   omega
  ·rw [if_neg e]
   simp [flagB, e]
 ·rw [if_neg c]
  simp [flagB]
  omega
theorem begins_spec (s p : ByteArray) : spec_l2Begins.f s p = some (begB s p) := by
 unfold spec_l2Begins.f
 by_cases c : (s.size : Int) ≥ (p.size : Int)
 ·rw [if_pos c, if_pos (by omega), if_pos (by omega), toList_beq]
  try rw [Int.toNat_natCast]
  simp [begB]
  omega
 ·rw [if_neg c]
  simp [begB]
  omega
theorem ends_spec (s p : ByteArray) (h : s.size ≤ 1407374883512320) : spec_l2Ends.f s p = some (endB s p) := by
 unfold spec_l2Ends.f
 by_cases c : (s.size : Int) ≥ (p.size : Int)
 ·rw [if_pos c, w6, if_pos (by omega), if_pos (by omega), toList_beq, show ((s.size : Int) - (p.size : Int)).toNat = s.size - p.size from by omega]
  simp [endB]
  omega
 ·rw [if_neg c]
  simp [endB]
  omega
theorem letters4 (s : ByteArray) (h : s.size ≤ 140737488351232) : Ev (fun k => spec_l1Letters.f k s 4) (partB s) :=
 evTo (letters_spec s 4 h) (by
  unfold partB
  congr 1
  exact decide_eq_decide.2 (by omega))
theorem affixOk_spec (g : ByteArray) (fr : Bool) (st ad wh : ByteArray) (h1 : st.size ≤ 140737488351232) (h2 : ad.size ≤ 140737488351232) (h3 : wh.size ≤ 140737488351232) :
  Ev (fun k => spec_AffixOk.f k g fr st ad wh) (affOk g fr st ad wh) := by
 have no : ∀ r, r = false → Ev (fun k => spec_AffixOk.j0 k true g fr st ad wh) r := fun r hr => Ev.step (fun k => spec_AffixOk.j0.eq_2 _ _ _ _ _ _ _) (evPos rfl (evTo (Ev.now _) hr.symm))
 unfold spec_AffixOk.f
 refine evCall (flag_spec _) ?_
 cases e1 : flagB g with
 | false => exact evNeg (by simp) (no _ (by simp [affOk, e1]))
 | true =>
  refine evPos rfl (Ev.bind (letters4 st h1) ?_)
  cases e2 : partB st with
  | false => exact evNeg (by simp) (no _ (by simp [affOk, e2]))
  | true =>
   refine evPos rfl (Ev.bind (letters4 ad h2) ?_)
   cases e3 : partB ad with
   | false => exact evNeg (by simp) (no _ (by simp [affOk, e3]))
   | true =>
    refine evPos rfl (Ev.bind (letters4 wh h3) ?_)
    cases e4 : partB wh with
    | false => exact no _ (by simp [affOk, e4])
    | true =>
     refine Ev.step (fun k => spec_AffixOk.j0.eq_2 _ _ _ _ _ _ _) (evNeg (by simp) ?_)
     cases fr with
     | true => exact evPos rfl (evCall (begins_spec _ _) (evTo (Ev.now _) (by simp [affOk, e1, e2, e3, e4])))
     | false => exact evNeg (by simp) (evCall (ends_spec _ _ (by omega)) (evTo (Ev.now _) (by simp [affOk, e1, e2, e3, e4])))
theorem lower_loop (s : ByteArray) (h : s.size ≤ 140737488351232) (d : Nat) : ∀ i : Int, 0 ≤ i → i ≤ s.size → (s.size : Int) - i = d →
  Ev (fun k => impl_lower.l0 k s (s.size : Int) i) (((bytesOf s).drop i.toNat).all low) := by
 induction d with
 | zero =>
  intro i h0 h1 hd
  refine Ev.step (fun k => impl_lower.l0.eq_2 _ _ _ _) (eN ?_)
  rw [List.drop_eq_nil_of_le (by rw [bytesOf_length]; omega)]
  exact evTo (Ev.now _) (by simp)
 | succ d ih =>
  intro i h0 h1 hd
  refine Ev.step (fun k => impl_lower.l0.eq_2 _ _ _ _) (eP (evPos h0 (eP ?_)))
  rw [bytes_drop s i h0 (by omega), List.all_cons]
  by_cases c : bt s i < 97
  ·exact evPos c (evTo (Ev.now _) (by simp [low]; omega))
  refine evNeg c ?_
  by_cases c1 : bt s i > 122
  ·exact evPos c1 (evTo (Ev.now _) (by simp [low]; omega))
  refine evNeg c1 ?_
  have e : low (bt s i) = true := (low_iff _).2 (by omega)
  rw [w6, e, Bool.true_and]
  exact ih (i + 1) (by omega) (by omega) (by omega)
theorem lower_impl (s : ByteArray) (h : s.size ≤ 140737488351232) : Ev (fun k => impl_lower.f k s) ((bytesOf s).all low) :=
 lower_loop s h s.size 0 (by omega) (by omega) (by omega)
theorem upper_impl (c : Int) : impl_upper.f c = some (decide (65 ≤ c) && decide (c ≤ 90)) := by
 unfold impl_upper.f
 by_cases e : c ≥ 65
 ·rw [if_pos e]; simp [e]
 ·rw [if_neg e]; simp; omega
theorem hasPrefix0 (s p : ByteArray) : stringslite_HasPrefix.f s p = some (begB s p) := begins_spec s p
theorem hasPrefix_lib (s p : ByteArray) : strings_HasPrefix.f s p = some (begB s p) := by
 unfold strings_HasPrefix.f
 rw [hasPrefix0]
 rfl
theorem hasSuffix0 (s p : ByteArray) (h : s.size ≤ 1407374883512320) : stringslite_HasSuffix.f s p = some (endB s p) := ends_spec s p h
theorem hasSuffix_lib (s p : ByteArray) (h : s.size ≤ 1407374883512320) : strings_HasSuffix.f s p = some (endB s p) := by
 unfold strings_HasSuffix.f
 rw [hasSuffix0 s p h]
 rfl
theorem parts_loop (g : ByteArray) (fr : Bool) (st ad wh : ByteArray) (l : List ByteArray) (hl : l.length ≤ 10) (hs : ∀ x ∈ l, x.size ≤ 140737488351232) (hw : wh.size ≤ 140737488351232) (d : Nat) : ∀ i : Int, 0 ≤ i → i ≤ l.length → (l.length : Int) - i = d →
  Ev (fun k => impl_AffixOk.l0 k l (l.length : Int) i g fr st ad wh) ((l.drop i.toNat).all partB && (if fr = true then begB wh st else endB wh st)) := by
 induction d with
 | zero =>
  intro i h0 h1 hd
  refine Ev.step (fun k => impl_AffixOk.l0.eq_2 _ _ _ _ _ _ _ _ _) (eN ?_)
  rw [List.drop_eq_nil_of_le (by omega), List.all_nil, Bool.true_and]
  cases fr with
  | true => exact evPos rfl (evCall (hasPrefix_lib _ _) (Ev.now _))
  | false => exact evNeg (by simp) (evCall (hasSuffix_lib _ _ (by omega)) (Ev.now _))
 | succ d ih =>
  intro i h0 h1 hd
  have hi : i.toNat < l.length := by omega
  have hx : rdOf ByteArray.empty l i = l[i.toNat] := by simp [rdOf, List.getD_eq_getElem?_getD, List.getElem?_eq_getElem hi]
  have hm := hs _ (List.getElem_mem hi)
  refine Ev.step (fun k => impl_AffixOk.l0.eq_2 _ _ _ _ _ _ _ _ _) (eP (evPos h0 (eP ?_)))
  rw [hx, List.drop_eq_getElem_cons hi, List.all_cons]
  generalize l[i.toNat] = x at *
  by_cases c : (x.size : Int) > 4
  ·refine evPos c (evTo (Ev.now _) ?_)
   have : partB x = false := by simp [partB]; omega
   rw [this]
   rfl
  ·refine evNeg c (Ev.bind (lower_impl x hm) ?_)
   have hp : partB x = (bytesOf x).all low := by
    simp only [partB]
    rw [decide_eq_true (by omega), Bool.and_true]
   rw [hp]
   cases e : (bytesOf x).all low with
   | false => exact evNeg (by simp) (evTo (Ev.now _) (by simp))
   | true =>
    refine evPos rfl ?_
    rw [w6, Bool.true_and, show i.toNat + 1 = (i + 1).toNat from by omega]
    exact ih (i + 1) (by omega) (by omega) (by omega)
theorem affixOk_impl (g : ByteArray) (fr : Bool) (st ad wh : ByteArray) (h1 : st.size ≤ 140737488351232) (h2 : ad.size ≤ 140737488351232) (h3 : wh.size ≤ 140737488351232) :
  Ev (fun k => impl_AffixOk.f k g fr st ad wh) (affOk g fr st ad wh) := by
 unfold impl_AffixOk.f
 by_cases c : (g.size : Int) = 1
 ·refine evPos c (eP (evCall (upper_impl _) ?_))
  have hf : flagB g = (decide (65 ≤ bt g 0) && decide (bt g 0 ≤ 90)) := by
   simp only [flagB]
   rw [decide_eq_true (by omega), Bool.true_and]
  rw [← hf]
  cases e : flagB g with
  | false => exact Ev.step (fun k => impl_AffixOk.j0.eq_2 _ _ _ _ _ _ _) (evPos rfl (evTo (Ev.now _) (by simp [affOk, e])))
  | true =>
   refine Ev.step (fun k => impl_AffixOk.j0.eq_2 _ _ _ _ _ _ _) (evNeg (by simp) (evCall rfl ?_))
   refine evTo (parts_loop g fr st ad wh [st, ad, wh] (by simp) (by
    intro x hx
    simp only [List.mem_cons, List.not_mem_nil, or_false] at hx
    rcases hx with rfl | rfl | rfl <;> assumption) h3 3 0 (by omega) (by simp) (by simp)) ?_
   simp [affOk, e, Bool.and_assoc]
 ·refine evNeg c (Ev.step (fun k => impl_AffixOk.j0.eq_2 _ _ _ _ _ _ _) (evPos rfl (evTo (Ev.now _) ?_)))
  have : flagB g = false := by simp [flagB]; omega
  simp [affOk, this]
abbrev Af := S73
theorem af_at {P : Af → Prop} {l : List Af} (h : ∀ s ∈ l, P s) (i : Nat) (hi : i < l.length) : P (rd_T73 l (i : Int)) := by
 have e : rd_T73 l (i : Int) = l[i] := by simp [rd_T73, List.getD_eq_getElem?_getD, hi]
 rw [e]
 exact h _ (List.getElem_mem hi)
def eqA (a b : Af) : Bool := a.f0.toList == b.f0.toList && (a.f1 == b.f1 && (a.f2.toList == b.f2.toList && (a.f3.toList == b.f3.toList && (a.f4.toList == b.f4.toList))))
theorem beq_comm' {α : Type} [BEq α] [LawfulBEq α] (a b : α) : (a == b) = (b == a) := by
 cases h : (a == b) with
 | true => rw [eq_of_beq h]; simp
 | false =>
  cases g : (b == a) with
  | false => rfl
  | true => rw [eq_of_beq g] at h; simp at h
theorem eqA_comm (a b : Af) : eqA a b = eqA b a := by
 unfold eqA
 rw [beq_comm' a.f0.toList, beq_comm' a.f1, beq_comm' a.f2.toList, beq_comm' a.f3.toList, beq_comm' a.f4.toList]
def dup (l : List Af) (i : Int) : Nat → Int → Bool
 | 0, _ => false
 | d + 1, k => eqA (rd_T73 l k) (rd_T73 l i) || dup l i d (k + 1)
def affGo (l : List Af) : Nat → Int → Bool
 | 0, _ => true
 | d + 1, i => affOk (rd_T73 l i).f0 (rd_T73 l i).f1 (rd_T73 l i).f2 (rd_T73 l i).f3 (rd_T73 l i).f4 && !dup l i i.toNat 0 && affGo l d (i + 1)
def affsB (l : List Af) : Bool := affGo l l.length 0 && decide (l.length ≤ 8)
abbrev AfSz (l : List Af) : Prop := ∀ s ∈ l, (s.f0.size ≤ 1048576 ∧ s.f2.size ≤ 1048576 ∧ s.f3.size ≤ 1048576 ∧ s.f4.size ≤ 1048576)
theorem dup_spec_loop (l : List Af) (hl : l.length ≤ 1048576) (i : Nat) (hi : i < l.length) {r : Bool} (d : Nat) : ∀ k : Nat, k + d = i → (dup l i d k = true → r = false) → (dup l i d k = false → Ev (fun n => spec_l2Affixes.l0 n l (wrap64 ((i : Int) + 1))) r) → Ev (fun n => spec_l2Affixes.l1 n l (i : Int) (k : Int)) r := by
 induction d with
 | zero =>
  intro k hk _ yes
  exact Ev.step (fun n => spec_l2Affixes.l1.eq_2 _ _ _ _) (eN (yes rfl))
 | succ d ih =>
  intro k hk no yes
  simp only [dup] at no yes
  refine Ev.step (fun n => spec_l2Affixes.l1.eq_2 _ _ _ _) (eP (eP (eP (eP (eP ?_)))))
  rw [w6 (n := (k : Int) + 1)]
  cases e : eqA (rd_T73 l (k : Int)) (rd_T73 l (i : Int)) with
  | true =>
   rw [e] at no
   exact evPos e (evTo (Ev.now _) (no rfl).symm)
  | false =>
   rw [e] at no yes
   simp only [Bool.false_or] at no yes
   exact evNeg (fun h => by have h' : eqA (rd_T73 l (k : Int)) (rd_T73 l (i : Int)) = true := h; rw [e] at h'; cases h') (ih (k + 1) (by omega) no yes)
theorem affs_spec_loop (l : List Af) (hl : l.length ≤ 1048576) (hs : AfSz l) (d : Nat) : ∀ i : Nat, i + d = l.length → Ev (fun n => spec_l2Affixes.l0 n l (i : Int)) (affGo l d i && decide (l.length ≤ 8)) := by
 induction d with
 | zero =>
  intro i hi
  refine Ev.step (fun n => spec_l2Affixes.l0.eq_2 _ _ _) (eN (evTo (Ev.now _) ?_))
  simp only [affGo, Bool.true_and]
  exact decide_eq_decide.2 (by omega)
 | succ d ih =>
  intro i hi
  have h := af_at hs i (by omega)
  refine Ev.step (fun n => spec_l2Affixes.l0.eq_2 _ _ _) (eP (eP (Ev.bind (affixOk_spec _ _ _ _ _ (by omega) (by omega) (by omega)) ?_)))
  simp only [affGo]
  cases e : affOk (rd_T73 l (i : Int)).f0 (rd_T73 l (i : Int)).f1 (rd_T73 l (i : Int)).f2 (rd_T73 l (i : Int)).f3 (rd_T73 l (i : Int)).f4 with
  | false => exact evNeg (by simp) (evTo (Ev.now _) (by simp))
  | true =>
   refine evPos rfl (dup_spec_loop l hl i (by omega) i 0 (by omega) (fun hd => ?_) (fun hd => ?_))
   ·have hd' : dup l (i : Int) (i : Int).toNat 0 = true := hd
    rw [hd']
    simp
   ·have hd' : dup l (i : Int) (i : Int).toNat 0 = false := hd
    rw [hd', w6 (n := (i : Int) + 1)]
    exact evTo (ih (i + 1) (by omega)) (by simp)
theorem affs_spec (l : List Af) (hl : l.length ≤ 1048576) (hs : AfSz l) : Ev (fun n => spec_l2Affixes.f n l) (affsB l) := affs_spec_loop l hl hs l.length 0 (by omega)
theorem dup_impl_loop (l q : List Af) (hl : l.length ≤ 1048576) (i : Nat) (hq : q = l.take i) (hi : i < l.length) (d : Nat) : ∀ k : Nat, k + d = i → ∃ v : Int, Ev (fun n => impl_Affix_123.l0 n q (q.length : Int) (k : Int) (rd_T73 l (i : Int)).f0 (rd_T73 l (i : Int)).f1 (rd_T73 l (i : Int)).f2 (rd_T73 l (i : Int)).f3 (rd_T73 l (i : Int)).f4) v ∧ decide (v ≥ 0) = dup l i d k := by
 have hql : q.length = i := by rw [hq, List.length_take]; omega
 induction d with
 | zero =>
  intro k hk
  exact ⟨-1, Ev.step (fun n => impl_Affix_123.l0.eq_2 _ _ _ _ _ _ _ _ _) (eN (Ev.now _)), rfl⟩
 | succ d ih =>
  intro k hk
  have hat : rd_T73 q (k : Int) = rd_T73 l (k : Int) := by
   simp only [rd_T73, List.getD_eq_getElem?_getD, Int.toNat_natCast]
   rw [hq, List.getElem?_take_of_lt (by omega)]
  simp only [dup]
  cases e : eqA (rd_T73 l (k : Int)) (rd_T73 l (i : Int)) with
  | true =>
   have e' : eqA (rd_T73 l (i : Int)) (rd_T73 l (k : Int)) = true := by rw [eqA_comm]; exact e
   refine ⟨k, Ev.step (fun n => impl_Affix_123.l0.eq_2 _ _ _ _ _ _ _ _ _) (eP (eP (eP ?_))), by simp⟩
   rw [hat]
   exact evPos e' (Ev.now _)
  | false =>
   have e' : eqA (rd_T73 l (i : Int)) (rd_T73 l (k : Int)) = false := by rw [eqA_comm]; exact e
   obtain ⟨v, h1, h2⟩ := ih (k + 1) (by omega)
   refine ⟨v, Ev.step (fun n => impl_Affix_123.l0.eq_2 _ _ _ _ _ _ _ _ _) (eP (eP (eP ?_))), by rw [Bool.false_or]; exact h2⟩
   rw [hat, w6 (n := (k : Int) + 1)]
   exact evNeg (fun h => by have h' : eqA (rd_T73 l (i : Int)) (rd_T73 l (k : Int)) = true := h; rw [e'] at h'; cases h') h1
theorem affs_impl_loop (l : List Af) (hl : l.length ≤ 1048576) (hs : AfSz l) (d : Nat) : ∀ i : Nat, i + d = l.length → Ev (fun n => impl_affixesOk.l0 n l l (l.length : Int) (i : Int)) (affGo l d i && decide (l.length ≤ 8)) := by
 induction d with
 | zero =>
  intro i hi
  refine Ev.step (fun n => impl_affixesOk.l0.eq_2 _ _ _ _ _) (eN (evTo (Ev.now _) ?_))
  simp only [affGo, Bool.true_and]
  exact decide_eq_decide.2 (by omega)
 | succ d ih =>
  intro i hi
  have h := af_at hs i (by omega)
  refine Ev.step (fun n => impl_affixesOk.l0.eq_2 _ _ _ _ _) (eP (eP (eP (Ev.bind (affixOk_impl _ _ _ _ _ (by omega) (by omega) (by omega)) ?_))))
  simp only [affGo]
  cases e : affOk (rd_T73 l (i : Int)).f0 (rd_T73 l (i : Int)).f1 (rd_T73 l (i : Int)).f2 (rd_T73 l (i : Int)).f3 (rd_T73 l (i : Int)).f4 with
  | false => exact evNeg (by simp) (evTo (Ev.now _) (by simp))
  | true =>
   obtain ⟨v, h1, h2⟩ := dup_impl_loop l (l.take i) hl i rfl (by omega) i 0 (by omega)
   have hd : Ev (fun n => impl_Affix_101.f n (l.take (i : Int).toNat) (rd_T73 l (i : Int)).f0 (rd_T73 l (i : Int)).f1 (rd_T73 l (i : Int)).f2 (rd_T73 l (i : Int)).f3 (rd_T73 l (i : Int)).f4) (dup l (i : Int) (i : Int).toNat 0) := Ev.bind h1 (evTo (Ev.now _) h2)
   refine evPos rfl (eP (Ev.bind hd ?_))
   rw [w6 (n := (i : Int) + 1)]
   cases dup l (i : Int) (i : Int).toNat 0 with
   | true => exact evPos rfl (evTo (Ev.now _) (by simp))
   | false => exact evNeg (by simp) (evTo (ih (i + 1) (by omega)) (by simp))
theorem affs_impl (l : List Af) (hl : l.length ≤ 1048576) (hs : AfSz l) : Ev (fun n => impl_affixesOk.f n l) (affsB l) := affs_impl_loop l hl hs l.length 0 (by omega)
theorem l1Word_spec (s : ByteArray) (h : s.size ≤ 140737488351232) : Ev (fun k => spec_l1Word.f k s) (wordB s) := by
 unfold spec_l1Word.f
 by_cases c : (s.size : Int) > 0
 ·have hp : 0 < s.size := by omega
  refine evPos c (Ev.bind (letters_spec s 12 h) (evTo (Ev.now _) ?_))
  simp only [wordB, wordL, bytesOf_length, decide_eq_true hp, Bool.true_and]
  rw [Bool.and_comm]
  congr 1
  exact decide_eq_decide.2 (by omega)
 ·exact evNeg c (evTo (Ev.now _) (wordB_no (by omega)).symm)
theorem within_impl (n a b : Int) : impl_within.f n a b = some (decide (a ≤ n) && decide (n ≤ b)) := by
 unfold impl_within.f
 by_cases c : n ≥ a
 ·rw [if_pos c]; simp [c]
 ·rw [if_neg c]; simp; omega
theorem word_impl (s : ByteArray) (h : s.size ≤ 140737488351232) : Ev (fun k => impl_WordOk.f k s) (wordB s) := by
 unfold impl_WordOk.f
 refine evCall (within_impl _ _ _) ?_
 by_cases c : (1 ≤ (s.size : Int) ∧ (s.size : Int) ≤ 12)
 ·have hp : 0 < s.size := by omega
  have hq : s.size ≤ 12 := by omega
  refine evPos (by simp; omega) (Ev.bind (lower_impl s h) (evTo (Ev.now _) ?_))
  simp only [wordB, wordL, bytesOf_length, decide_eq_true hp, decide_eq_true hq, Bool.true_and]
 ·exact evNeg (by simp; omega) (evTo (Ev.now _) (wordB_no (by omega)).symm)
theorem bt_extract0 (s : ByteArray) (i : Nat) (h : i < s.size) : bt (s.extract i (i + 1)) 0 = bt s i := by
 have hs : (s.extract i (i + 1)).size = 1 := by rw [size_extract s i (i + 1) (by omega) (by omega)]; omega
 have h1 := bytes_drop (s.extract i (i + 1)) 0 (by omega) (by omega)
 have h2 := bytes_drop s i (by omega) (by omega)
 rw [bytes_extract] at h1
 have h2' : (bytesOf s).drop i = bt s i :: (bytesOf s).drop ((i : Int) + 1).toNat := by simpa using h2
 rw [h2', show i + 1 - i = 1 from by omega] at h1
 simp only [List.take_succ_cons, List.take_zero] at h1
 have := congrArg List.head? h1
 simpa using this.symm
theorem flag_extract (s : ByteArray) (i : Nat) (h : i < s.size) : flagB (s.extract i (i + 1)) = (decide (65 ≤ bt s i) && decide (bt s i ≤ 90)) := by
 have hs : (s.extract i (i + 1)).size = 1 := by rw [size_extract s i (i + 1) (by omega) (by omega)]; omega
 unfold flagB
 rw [hs, bt_extract0 s i h]
 simp
def flGo (s : ByteArray) : Nat → Int → Bool
 | 0, _ => true
 | d + 1, i => (decide (65 ≤ bt s i) && decide (bt s i ≤ 90)) && (if i > 0 then decide (bt s (i - 1) < bt s i) else true) && flGo s d (i + 1)
def entB (w f : ByteArray) : Bool := flGo f f.size 0 && (wordB w && decide (f.size ≤ 4))
theorem ent_spec_loop (w f : ByteArray) (hw : w.size ≤ 1048576) (hf : f.size ≤ 1048576) (d : Nat) : ∀ i : Nat, i + d = f.size → Ev (fun k => spec_l2Entry.l0 k (i : Int) w f) (flGo f d i && (wordB w && decide (f.size ≤ 4))) := by
 induction d with
 | zero =>
  intro i hi
  refine Ev.step (fun k => spec_l2Entry.l0.eq_2 _ _ _ _) (eN (Ev.bind (l1Word_spec w (by omega)) ?_))
  simp only [flGo, Bool.true_and]
  cases wordB w with
  | false => exact evNeg (by simp) (Ev.now _)
  | true => exact evPos rfl (evTo (Ev.now _) (by rw [Bool.true_and]; exact decide_eq_decide.2 (by omega)))
 | succ d ih =>
  intro i hi
  refine Ev.step (fun k => spec_l2Entry.l0.eq_2 _ _ _ _) ?_
  rw [w6 (n := (i : Int) + 1)]
  refine eP (eP (eP (eP (evCall (flag_spec _) ?_))))
  rw [show ((i : Int) + 1).toNat = i + 1 from by omega, Int.toNat_natCast, flag_extract f i (by omega)]
  simp only [flGo]
  have next := ih (i + 1) (by omega)
  cases e : (decide (65 ≤ bt f i) && decide (bt f i ≤ 90)) with
  | false => exact evNeg (by simp) (evTo (Ev.now _) (by simp))
  | true =>
   refine evPos rfl ?_
   by_cases c : (i : Int) > 0
   ·rw [w6 (n := (i : Int) - 1), if_pos c]
    refine evPos c (eP (eP ?_))
    by_cases g : bt f ((i : Int) - 1) ≥ bt f i
    ·rw [decide_eq_false (show ¬ bt f ((i : Int) - 1) < bt f i from by omega)]
     exact evPos g (evTo (Ev.now _) (by simp))
    ·rw [decide_eq_true (show bt f ((i : Int) - 1) < bt f i from by omega)]
     exact evNeg g (evTo next (by simp))
   ·rw [if_neg c]
    exact evNeg c (evTo next (by simp))
theorem ent_spec (w f : ByteArray) (hw : w.size ≤ 1048576) (hf : f.size ≤ 1048576) : Ev (fun k => spec_l2Entry.f k w f) (entB w f) := ent_spec_loop w f hw hf f.size 0 (by omega)
theorem ent_impl_loop (w f : ByteArray) (hw : w.size ≤ 1048576) (hf : f.size ≤ 1048576) (d : Nat) : ∀ i : Nat, i + d = f.size → Ev (fun k => impl_entryOk.l0 k (f.size : Int) (i : Int) w f) (flGo f d i && (wordB w && decide (f.size ≤ 4))) := by
 induction d with
 | zero =>
  intro i hi
  refine Ev.step (fun k => impl_entryOk.l0.eq_2 _ _ _ _ _) (eN (Ev.bind (word_impl w (by omega)) ?_))
  simp only [flGo, Bool.true_and]
  cases wordB w with
  | false => exact evNeg (by simp) (Ev.now _)
  | true => exact evPos rfl (evTo (Ev.now _) (by rw [Bool.true_and]; exact decide_eq_decide.2 (by omega)))
 | succ d ih =>
  intro i hi
  refine Ev.step (fun k => impl_entryOk.l0.eq_2 _ _ _ _ _) ?_
  rw [w6 (n := (i : Int) + 1)]
  refine eP (eP (eP (evCall (upper_impl _) ?_)))
  simp only [flGo]
  have next := ih (i + 1) (by omega)
  cases e : (decide (65 ≤ bt f i) && decide (bt f i ≤ 90)) with
  | false => exact evNeg (by simp) (evTo (Ev.now _) (by simp))
  | true =>
   refine evPos rfl ?_
   by_cases c : (i : Int) > 0
   ·rw [w6 (n := (i : Int) - 1), if_pos c]
    refine evPos c (eP (eP ?_))
    by_cases g : bt f ((i : Int) - 1) ≥ bt f i
    ·rw [decide_eq_false (show ¬ bt f ((i : Int) - 1) < bt f i from by omega)]
     exact evPos g (evTo (Ev.now _) (by simp))
    ·rw [decide_eq_true (show bt f ((i : Int) - 1) < bt f i from by omega)]
     exact evNeg g (evTo next (by simp))
   ·rw [if_neg c]
    exact evNeg c (evTo next (by simp))
theorem ent_impl (w f : ByteArray) (hw : w.size ≤ 1048576) (hf : f.size ≤ 1048576) : Ev (fun k => impl_entryOk.f k w f) (entB w f) := ent_impl_loop w f hw hf f.size 0 (by omega)
abbrev En := S66
def entGo (l : List En) : Nat → Int → Bool
 | 0, _ => true
 | d + 1, i => entB (rd_T66 l i).f0 (rd_T66 l i).f1 && (if i > 0 then Op.bytesLess (rd_T66 l (i - 1)).f0.toList (rd_T66 l i).f0.toList else true) && entGo l d (i + 1)
def entsB (l : List En) : Bool := entGo l l.length 0 && decide (l.length ≤ 24)
theorem en_at {P : En → Prop} {l : List En} (h : ∀ s ∈ l, P s) (i : Nat) (hi : i < l.length) : P (rd_T66 l (i : Int)) := by
 have e : rd_T66 l (i : Int) = l[i] := by simp [rd_T66, List.getD_eq_getElem?_getD, hi]
 rw [e]
 exact h _ (List.getElem_mem hi)
theorem ents_spec_loop (A : List Af) (l : List En) (hl : l.length ≤ 1048576) (he : ∀ s ∈ l, (s.f0.size ≤ 1048576 ∧ s.f1.size ≤ 1048576)) {r : Bool} (no : entGo l l.length 0 = false → r = false) (d : Nat) : ∀ i : Nat, i + d = l.length → (entGo l d i = false → r = false) →
  (entGo l d i = true → Ev (fun k => (spec_l2Affixes.f k A).bind fun t130 => (if t130 = true then (some (decide ((l.length : Int) ≤ 24))) else (some false))) r) → Ev (fun k => spec_BookOk.l0 k (i : Int) A l) r := by
 induction d with
 | zero =>
  intro i hi _ yes
  exact Ev.step (fun k => spec_BookOk.l0.eq_2 _ _ _ _) (eN (yes rfl))
 | succ d ih =>
  intro i hi no' yes
  have hs := en_at he i (by omega)
  simp only [entGo] at no' yes
  refine Ev.step (fun k => spec_BookOk.l0.eq_2 _ _ _ _) (eP (eP (Ev.bind (ent_spec _ _ hs.1 hs.2) ?_)))
  rw [w6 (n := (i : Int) + 1)]
  have next := ih (i + 1) (by omega)
  cases e : entB (rd_T66 l (i : Int)).f0 (rd_T66 l (i : Int)).f1 with
  | false =>
   rw [e] at no'
   exact evNeg (by simp) (evTo (Ev.now _) (no' (by simp)).symm)
  | true =>
   rw [e] at no' yes
   refine evPos rfl ?_
   by_cases c : (i : Int) > 0
   ·rw [w6 (n := (i : Int) - 1)]
    rw [if_pos c] at no' yes
    refine evPos c (eP (eP ?_))
    cases g : Op.bytesLess (rd_T66 l ((i : Int) - 1)).f0.toList (rd_T66 l (i : Int)).f0.toList with
    | false =>
     rw [g] at no'
     exact evNeg (by simp) (evTo (Ev.now _) (no' (by simp)).symm)
    | true =>
     rw [g] at no' yes
     simp only [Bool.true_and] at no' yes
     exact evPos rfl (next no' yes)
   ·rw [if_neg c] at no' yes
    simp only [Bool.true_and] at no' yes
    exact evNeg c (next no' yes)
theorem ents_impl_loop (l : List En) (hl : l.length ≤ 1048576) (he : ∀ s ∈ l, (s.f0.size ≤ 1048576 ∧ s.f1.size ≤ 1048576)) (d : Nat) : ∀ i : Nat, i + d = l.length → Ev (fun k => impl_entriesOk.l0 k l l (l.length : Int) (i : Int)) (entGo l d i && decide (l.length ≤ 24)) := by
 induction d with
 | zero =>
  intro i hi
  refine Ev.step (fun k => impl_entriesOk.l0.eq_2 _ _ _ _ _) (eN (evTo (Ev.now _) ?_))
  simp only [entGo, Bool.true_and]
  exact decide_eq_decide.2 (by omega)
 | succ d ih =>
  intro i hi
  have hs := en_at he i (by omega)
  refine Ev.step (fun k => impl_entriesOk.l0.eq_2 _ _ _ _ _) (eP (eP (eP (Ev.bind (ent_impl _ _ hs.1 hs.2) ?_))))
  rw [w6 (n := (i : Int) + 1)]
  have next := ih (i + 1) (by omega)
  simp only [entGo]
  cases e : entB (rd_T66 l (i : Int)).f0 (rd_T66 l (i : Int)).f1 with
  | false => exact evNeg (by simp) (evTo (Ev.now _) (by simp))
  | true =>
   refine evPos rfl ?_
   by_cases c : (i : Int) > 0
   ·rw [w6 (n := (i : Int) - 1), if_pos c]
    refine evPos c (eP (eP ?_))
    cases g : Op.bytesLess (rd_T66 l ((i : Int) - 1)).f0.toList (rd_T66 l (i : Int)).f0.toList with
    | false => exact evNeg (by simp) (evTo (Ev.now _) (by simp))
    | true => exact evPos rfl (evTo next (by simp))
   ·rw [if_neg c]
    exact evNeg c (evTo next (by simp))
structure BkSz (A : List Af) (E : List En) : Prop where
 la : A.length ≤ 1048576
 le : E.length ≤ 1048576
 a : ∀ s ∈ A, (s.f0.size ≤ 1048576 ∧ s.f2.size ≤ 1048576 ∧ s.f3.size ≤ 1048576 ∧ s.f4.size ≤ 1048576)
 e : ∀ s ∈ E, (s.f0.size ≤ 1048576 ∧ s.f1.size ≤ 1048576)
def bookB (A : List Af) (E : List En) : Bool := affsB A && entsB E
theorem bookOk_spec (A : List Af) (E : List En) (h : BkSz A E) : Ev (fun n => spec_BookOk.f n A E) (bookB A E) := by
 refine ents_spec_loop A E h.le h.e (fun hf => by simp [bookB, entsB, hf]) E.length 0 (by omega) (fun hf => ?_) (fun ht => ?_)
 ·have hf' : entGo E E.length 0 = false := hf
  simp [bookB, entsB, hf']
 ·have ht' : entGo E E.length 0 = true := ht
  refine Ev.bind (affs_spec A h.la h.a) ?_
  simp only [bookB, entsB, ht', Bool.true_and]
  cases affsB A with
  | false => exact evNeg (by simp) (evTo (Ev.now _) (by simp))
  | true => exact evPos rfl (evTo (Ev.now _) (by rw [Bool.true_and]; exact decide_eq_decide.2 (by omega)))
theorem bookOk_impl (A : List Af) (E : List En) (h : BkSz A E) : Ev (fun n => impl_BookOk.f n A E) (bookB A E) := by
 unfold impl_BookOk.f
 refine Ev.bind (affs_impl A h.la h.a) ?_
 simp only [bookB]
 cases affsB A with
 | false => exact evNeg (by simp) (evTo (Ev.now _) (by simp))
 | true => exact evPos rfl (Ev.bind (ents_impl_loop E h.le h.e E.length 0 (by omega)) (evTo (Ev.now _) (by rw [Bool.true_and]; rfl)))
theorem ba_get (l : List ByteArray) (i : Nat) (h : i < l.length) : rdOf ByteArray.empty l (i : Int) = l[i] := by simp [rdOf, List.getD_eq_getElem?_getD, List.getElem?_eq_getElem h]
theorem ba_at {P : ByteArray → Prop} {l : List ByteArray} (h : ∀ s ∈ l, P s) (i : Nat) (hi : i < l.length) : P (rdOf ByteArray.empty l (i : Int)) := by
 rw [ba_get l i hi]
 exact h _ (List.getElem_mem hi)
def wGo (l : List ByteArray) : Nat → Int → Bool
 | 0, _ => true
 | d + 1, i => wordB (rdOf ByteArray.empty l i) && (if i > 0 then Op.bytesLess (rdOf ByteArray.empty l (i - 1)).toList (rdOf ByteArray.empty l i).toList else true) && wGo l d (i + 1)
theorem words_impl_loop (l : List ByteArray) (n : Int) (hl : l.length ≤ 1048576) (he : ∀ s ∈ l, s.size ≤ 1048576) (d : Nat) : ∀ i : Nat, i + d = l.length → Ev (fun k => impl_wordsOk.l0 k l n l (l.length : Int) (i : Int)) (wGo l d i && decide ((l.length : Int) ≤ n)) := by
 induction d with
 | zero =>
  intro i hi
  refine Ev.step (fun k => impl_wordsOk.l0.eq_2 _ _ _ _ _ _) (eN (evTo (Ev.now _) ?_))
  simp only [wGo, Bool.true_and]
 | succ d ih =>
  intro i hi
  have hs := ba_at (P := fun s => s.size ≤ 1048576) he i (by omega)
  refine Ev.step (fun k => impl_wordsOk.l0.eq_2 _ _ _ _ _ _) (eP (eP (eP (Ev.bind (word_impl _ (by omega)) ?_))))
  rw [w6 (n := (i : Int) + 1)]
  have next := ih (i + 1) (by omega)
  simp only [wGo]
  cases e : wordB (rdOf ByteArray.empty l (i : Int)) with
  | false => exact evNeg (by simp) (evTo (Ev.now _) (by simp))
  | true =>
   refine evPos rfl ?_
   by_cases c : (i : Int) > 0
   ·rw [w6 (n := (i : Int) - 1), if_pos c]
    refine evPos c (eP (eP ?_))
    cases g : Op.bytesLess (rdOf ByteArray.empty l ((i : Int) - 1)).toList (rdOf ByteArray.empty l (i : Int)).toList with
    | false => exact evNeg (by simp) (evTo (Ev.now _) (by simp))
    | true => exact evPos rfl (evTo next (by simp))
   ·rw [if_neg c]
    exact evNeg c (evTo next (by simp))
theorem words_impl (l : List ByteArray) (n : Int) (hl : l.length ≤ 1048576) (he : ∀ s ∈ l, s.size ≤ 1048576) : Ev (fun k => impl_wordsOk.f k l n) (wGo l l.length 0 && decide ((l.length : Int) ≤ n)) := words_impl_loop l n hl he l.length 0 (by omega)
abbrev StZ (l : List ByteArray) : Prop := l.length ≤ 1048576 ∧ ∀ s ∈ l, s.size ≤ 1048576
def hasStem (C : List En) (s : ByteArray) : Bool := C.any (fun e => e.f0.toList == s.toList)
theorem idx_nonneg (C : List En) (s : ByteArray) (i : Nat) : (0 ≤ Go.Lib.idxByFrom (fun _ (y : ByteArray × ByteArray) => decide (y.1 = s)) default (C.map (fun x => (x.f0, x.f1))) i) ↔ hasStem C s = true := by
 induction C generalizing i with
 | nil => simp [Go.Lib.idxByFrom, hasStem]
 | cons e C ih =>
  simp only [List.map_cons, Go.Lib.idxByFrom, hasStem, List.any_cons]
  have he : (e.f0.toList == s.toList) = decide (e.f0 = s) := toList_beq _ _
  by_cases c : e.f0 = s
  ·simp [c]

  ·rw [he]
   simp only [c, decide_false, Bool.false_eq_true, if_false, Bool.false_or]
   exact ih (i + 1)
theorem entryAt_ev (C : List En) (s : ByteArray) : ∃ t : Int, impl_entryAt.f C s = some t ∧ ((t ≥ 0) ↔ hasStem C s = true) := ⟨_, rfl, idx_nonneg C s 0⟩
def noGo (G : List ByteArray) (C : List En) : Nat → Int → Bool
 | 0, _ => true
 | d + 1, i => !(hasStem C (rdOf ByteArray.empty G i)) && noGo G C d (i + 1)
def deltaB (G : List ByteArray) (C : List En) (f : Bool) (L : List Af) : Bool := (wGo G G.length 0 && decide ((G.length : Int) ≤ 24)) && (entsB C && (affsB L && ((f || decide (L.length = 0)) && noGo G C G.length 0)))
theorem no_impl_loop (G : List ByteArray) (C : List En) (f : Bool) (L : List Af) (hl : G.length ≤ 1048576) (d : Nat) : ∀ i : Nat, i + d = G.length → Ev (fun k => impl_DeltaOk.l0 k G (G.length : Int) (i : Int) G C f L) (noGo G C d i) := by
 induction d with
 | zero =>
  intro i hi
  exact Ev.step (fun k => impl_DeltaOk.l0.eq_2 _ _ _ _ _ _ _ _) (eN (Ev.now _))
 | succ d ih =>
  intro i hi
  obtain ⟨t, ht, hh⟩ := entryAt_ev C (rdOf ByteArray.empty G (i : Int))
  refine Ev.step (fun k => impl_DeltaOk.l0.eq_2 _ _ _ _ _ _ _ _) (eP (eP (eP (evCall ht ?_))))
  rw [w6 (n := (i : Int) + 1)]
  simp only [noGo]
  by_cases c : t ≥ 0
  ·rw [hh.1 c]
   exact evPos c (evTo (Ev.now _) (by simp))
  ·have e : hasStem C (rdOf ByteArray.empty G (i : Int)) = false := by
    cases e : hasStem C (rdOf ByteArray.empty G (i : Int)) with
    | false => rfl
    | true => exact absurd (hh.2 e) c
   rw [e]
   exact evNeg c (evTo (ih (i + 1) (by omega)) (by simp))
theorem deltaOk_impl (G : List ByteArray) (C : List En) (f : Bool) (L : List Af) (hG : StZ G) (h : BkSz L C) : Ev (fun k => impl_DeltaOk.f k G C f L) (deltaB G C f L) := by
 have no := no_impl_loop G C f L hG.1 G.length 0 (by omega)
 have je : ∀ b : Bool, Ev (fun k => impl_DeltaOk.j0 k b G C f L) (!b && noGo G C G.length 0) := by
  intro b
  refine Ev.step (fun k => impl_DeltaOk.j0.eq_2 _ _ _ _ _ _) ?_
  cases b with
  | true => exact evPos rfl (Ev.now _)
  | false => exact evNeg (by simp) (evTo no (by simp))
 unfold impl_DeltaOk.f deltaB
 refine Ev.bind (words_impl G 24 hG.1 hG.2) ?_
 cases e0 : (wGo G G.length 0 && decide ((G.length : Int) ≤ 24)) with
 | false => exact evNeg (by simp) (evTo (je true) (by simp))
 | true =>
  refine evPos rfl (Ev.bind (ents_impl_loop C h.le h.e C.length 0 (by omega)) ?_)
  show Ev (fun n => if entsB C = true then _ else _) _
  cases e1 : entsB C with
  | false => exact evNeg (by simp) (evTo (je true) (by simp))
  | true =>
   refine evPos rfl (Ev.bind (affs_impl L h.la h.a) ?_)
   cases e2 : affsB L with
   | false => exact evNeg (by simp) (evTo (je true) (by simp))
   | true =>
    refine evPos rfl ?_
    cases f with
    | true => exact evPos rfl (evTo (je false) (by simp))
    | false =>
     refine evNeg (by simp) (evTo (je _) ?_)
     simp only [Bool.true_and, Bool.false_or]
     congr 1
     rw [Bool.eq_iff_iff, Bool.not_eq_true', decide_eq_false_iff_not, decide_eq_true_eq]
     omega
theorem af_get (l : List Af) (i : Nat) (hi : i < l.length) : rd_T73 l (i : Int) = l[i] := by simp [rd_T73, List.getD_eq_getElem?_getD, hi]
theorem en_get (l : List En) (i : Nat) (hi : i < l.length) : rd_T66 l (i : Int) = l[i] := by simp [rd_T66, List.getD_eq_getElem?_getD, hi]
abbrev AfOk1 (a : Af) : Prop := affOk a.f0 a.f1 a.f2 a.f3 a.f4 = true
abbrev EnOk1 (e : En) : Prop := entB e.f0 e.f1 = true
theorem affGo_all1 (l : List Af) (d : Nat) : ∀ i : Nat, i + d = l.length → affGo l d (i : Int) = true → ∀ j : Nat, i ≤ j → (hj : j < l.length) → AfOk1 l[j] := by
 induction d with
 | zero =>
  intro i hi _ j h1 h2
  omega
 | succ d ih =>
  intro i hi h j h1 h2
  simp only [affGo, Bool.and_eq_true] at h
  by_cases e : i = j
  ·subst e
   have := h.1.1
   rw [af_get l i h2] at this
   exact this
  ·exact ih (i + 1) (by omega) (by rw [show ((i + 1 : Nat) : Int) = (i : Int) + 1 from by omega]; exact h.2) j (by omega) h2
theorem affs_all1 {l : List Af} (h : affsB l = true) : ∀ a ∈ l, AfOk1 a := by
 intro a ha
 simp only [affsB, Bool.and_eq_true] at h
 obtain ⟨j, hj, rfl⟩ := List.mem_iff_getElem.1 ha
 exact affGo_all1 l l.length 0 (by omega) h.1 j (by omega) hj
theorem entGo_all1 (l : List En) (d : Nat) : ∀ i : Nat, i + d = l.length → entGo l d (i : Int) = true → ∀ j : Nat, i ≤ j → (hj : j < l.length) → EnOk1 l[j] := by
 induction d with
 | zero =>
  intro i hi _ j h1 h2
  omega
 | succ d ih =>
  intro i hi h j h1 h2
  simp only [entGo, Bool.and_eq_true] at h
  by_cases e : i = j
  ·subst e
   have := h.1.1
   rw [en_get l i h2] at this
   exact this
  ·exact ih (i + 1) (by omega) (by rw [show ((i + 1 : Nat) : Int) = (i : Int) + 1 from by omega]; exact h.2) j (by omega) h2
theorem ents_all1 {l : List En} (h : entsB l = true) : ∀ e ∈ l, EnOk1 e := by
 intro e he
 simp only [entsB, Bool.and_eq_true] at h
 obtain ⟨j, hj, rfl⟩ := List.mem_iff_getElem.1 he
 exact entGo_all1 l l.length 0 (by omega) h.1 j (by omega) hj
def AscE (l : List En) : Prop := l.Pairwise (fun x y => ltS x.f0 y.f0 = true)
theorem ascE_ext : ∀ {l k : List En}, AscE l → AscE k → (∀ x, x ∈ l ↔ x ∈ k) → l = k
 | [], [], _, _, _ => rfl
 | [], y :: k, _, _, h => absurd ((h y).2 List.mem_cons_self) (by simp)
 | x :: l, [], _, _, h => absurd ((h x).1 List.mem_cons_self) (by simp)
 | x :: l, y :: k, hl, hk, h => by
  have hl' := List.pairwise_cons.1 hl
  have hk' := List.pairwise_cons.1 hk
  have e : x = y := by
   rcases List.mem_cons.1 ((h x).1 List.mem_cons_self) with e | e
   ·exact e
   ·rcases List.mem_cons.1 ((h y).2 List.mem_cons_self) with e2 | e2
    ·exact e2.symm
    ·have h1 := hk'.1 x e
     have h2 := hl'.1 y e2
     rw [ltS_asymm h1] at h2
     cases h2
  subst e
  have : l = k := ascE_ext hl'.2 hk'.2 (fun z => by
   constructor
   ·intro hz
    rcases List.mem_cons.1 ((h z).1 (List.mem_cons_of_mem _ hz)) with e | e
    ·subst e
     have := hl'.1 z hz
     rw [ltS_irrefl] at this
     cases this
    ·exact e
   ·intro hz
    rcases List.mem_cons.1 ((h z).2 (List.mem_cons_of_mem _ hz)) with e | e
    ·subst e
     have := hk'.1 z hz
     rw [ltS_irrefl] at this
     cases this
    ·exact e)
  rw [this]
theorem entGo_adj (l : List En) (d : Nat) : ∀ i : Nat, i + d = l.length → entGo l d (i : Int) = true → ∀ j : Nat, i ≤ j + 1 → (hj : j + 1 < l.length) → ltS (l[j]'(by omega)).f0 l[j + 1].f0 = true := by
 induction d with
 | zero =>
  intro i hi _ j h1 h2
  omega
 | succ d ih =>
  intro i hi h j h1 h2
  simp only [entGo, Bool.and_eq_true] at h
  by_cases e : i = j + 1
  ·subst e
   have h3 := h.1.2
   rw [if_pos (by omega), show ((j + 1 : Nat) : Int) - 1 = (j : Int) from by omega, en_get l j (by omega), en_get l (j + 1) h2] at h3
   exact h3
  ·exact ih (i + 1) (by omega) (by rw [show ((i + 1 : Nat) : Int) = (i : Int) + 1 from by omega]; exact h.2) j (by omega) h2
theorem ents_asc {l : List En} (h : entsB l = true) : AscE l := by
 simp only [entsB, Bool.and_eq_true] at h
 have adj := entGo_adj l l.length 0 (by omega) h.1
 have step : ∀ (d i : Nat) (hj : i + 1 + d < l.length), ltS (l[i]'(by omega)).f0 l[i + 1 + d].f0 = true := by
  intro d
  induction d with
  | zero => intro i hj; exact adj i (by omega) hj
  | succ d ih => intro i hj; exact ltS_trans (ih i (by omega)) (adj (i + 1 + d) (by omega) hj)
 rw [AscE, List.pairwise_iff_getElem]
 intro i j hi hj hij
 obtain ⟨d, rfl⟩ : ∃ d, j = i + 1 + d := ⟨j - i - 1, by omega⟩
 exact step d i hj
theorem ents_mk {l : List En} (ha : AscE l) (ho : ∀ e ∈ l, EnOk1 e) (hl : l.length ≤ 24) : entsB l = true := by
 have go : ∀ (d i : Nat), i + d = l.length → entGo l d (i : Int) = true := by
  intro d
  induction d with
  | zero => intro i _; rfl
  | succ d ih =>
   intro i hi
   have hlt : i < l.length := by omega
   simp only [entGo, Bool.and_eq_true]
   refine ⟨⟨by rw [en_get l i hlt]; exact ho _ (List.getElem_mem hlt), ?_⟩, by rw [show (i : Int) + 1 = ((i + 1 : Nat) : Int) from by omega]; exact ih (i + 1) (by omega)⟩
   by_cases c : (i : Int) > 0
   ·obtain ⟨q, rfl⟩ : ∃ q, i = q + 1 := ⟨i - 1, by omega⟩
    rw [if_pos c, show ((q + 1 : Nat) : Int) - 1 = (q : Int) from by omega, en_get l q (by omega), en_get l (q + 1) hlt]
    exact (List.pairwise_iff_getElem.1 ha) q (q + 1) (by omega) hlt (by omega)
   ·rw [if_neg c]
 simp only [entsB, Bool.and_eq_true, decide_eq_true_eq]
 exact ⟨go l.length 0 (by omega), hl⟩
theorem wGo_mk {l : List ByteArray} (ha : Asc l) (ho : ∀ e ∈ l, wordB e = true) : wGo l l.length 0 = true := by
 have go : ∀ (d i : Nat), i + d = l.length → wGo l d (i : Int) = true := by
  intro d
  induction d with
  | zero => intro i _; rfl
  | succ d ih =>
   intro i hi
   have hlt : i < l.length := by omega
   simp only [wGo, Bool.and_eq_true]
   refine ⟨⟨by rw [ba_get l i hlt]; exact ho _ (List.getElem_mem hlt), ?_⟩, by rw [show (i : Int) + 1 = ((i + 1 : Nat) : Int) from by omega]; exact ih (i + 1) (by omega)⟩
   by_cases c : (i : Int) > 0
   ·obtain ⟨q, rfl⟩ : ∃ q, i = q + 1 := ⟨i - 1, by omega⟩
    rw [if_pos c, show ((q + 1 : Nat) : Int) - 1 = (q : Int) from by omega, ba_get l q (by omega), ba_get l (q + 1) hlt]
    exact (List.pairwise_iff_getElem.1 ha) q (q + 1) (by omega) hlt (by omega)
   ·rw [if_neg c]
 exact go l.length 0 (by omega)
theorem ascE_key {l : List En} (h : AscE l) {x y : En} (hx : x ∈ l) (hy : y ∈ l) (e : x.f0 = y.f0) : x = y := by
 obtain ⟨i, hi, rfl⟩ := List.mem_iff_getElem.1 hx
 obtain ⟨j, hj, rfl⟩ := List.mem_iff_getElem.1 hy
 have hp := List.pairwise_iff_getElem.1 h
 rcases Nat.lt_trichotomy i j with c | c | c
 ·have := hp i j hi hj c
  rw [e, ltS_irrefl] at this
  cases this
 ·subst c
  rfl
 ·have := hp j i hj hi c
  rw [e, ltS_irrefl] at this
  cases this
theorem ascE_nodup {l : List En} (h : AscE l) : (l.map (·.f0)).Nodup := by
 rw [List.nodup_iff_pairwise_ne, List.pairwise_map]
 exact h.imp (fun hh e => by rw [e, ltS_irrefl] at hh; cases hh)
theorem bookB_len {A : List Af} {E : List En} (h : bookB A E = true) : A.length ≤ 8 ∧ E.length ≤ 24 := by
 simp only [bookB, affsB, entsB, Bool.and_eq_true, decide_eq_true_eq] at h
 exact ⟨h.1.2, h.2.2⟩
theorem bkSz_ok {A : List Af} {E : List En} (h : bookB A E = true) : BkSz A E := by
 obtain ⟨h1, h2⟩ := bookB_len h
 have h : affsB A = true ∧ entsB E = true := by simpa only [bookB, Bool.and_eq_true] using h
 refine ⟨by omega, by omega, fun a ha => ?_, fun e he => ?_⟩
 ·obtain ⟨p0, p2, p3, p4, _⟩ := affOk_parts (affs_all1 h.1 a ha)
  have q0 : a.f0.size = 1 := by
   simp only [flagB, Bool.and_eq_true, decide_eq_true_eq] at p0
   exact p0.1
  have q2 := partB_size p2
  have q3 := partB_size p3
  have q4 := partB_size p4
  exact ⟨by omega, by omega, by omega, by omega⟩
 ·have p : entB e.f0 e.f1 = true := ents_all1 h.2 e he
  simp only [entB, Bool.and_eq_true, decide_eq_true_eq] at p
  have q := wordB_size p.2.1
  have q2 := p.2.2
  exact ⟨by omega, by omega⟩
theorem rdOf_get (l : List ByteArray) (i : Int) (_ : 0 ≤ i) (h : i.toNat < l.length) : rdOf ByteArray.empty l i = l[i.toNat] := by
 simp [rdOf, List.getD_eq_getElem?_getD, List.getElem?_eq_getElem h]
theorem put_end (l : List ByteArray) (s : ByteArray) (i : Int) (h0 : 0 ≤ i) (h1 : i ≤ l.length) (hl : l.length ≤ 1000000) : Ev (fun k => spec_l1Put.j2 k l s i false) (l.take i.toNat ++ s :: l.drop i.toNat) := by
 refine Ev.step (fun k => spec_l1Put.j2.eq_2 _ _ _ _ _) (evNeg (by simp) (evCall rfl (evPos h0 (evPos h1 (evCall rfl (evPos ?_ (evCall rfl (evCall rfl (evPos ?_ (evCall rfl (evCall rfl (evPos ?_ (evTo (Ev.now _) ?_)))))))))))))
 ·simp only [List.length_nil, List.length_take]
  omega
 ·simp only [List.nil_append, List.length_take, List.length_cons, List.length_nil]
  omega
 ·simp only [List.nil_append, List.length_append, List.length_take, List.length_cons, List.length_nil, List.length_drop]
  omega
 ·simp
theorem put_loop (l : List ByteArray) (s : ByteArray) (hl : l.length ≤ 1000000) (d : Nat) : ∀ i : Int, 0 ≤ i → i ≤ l.length → (l.length : Int) - i = d →
  Ev (fun k => spec_l1Put.l0 k l s i) (l.take i.toNat ++ putL (l.drop i.toNat) s) := by
 induction d with
 | zero =>
  intro i h0 h1 hd
  have e := put_end l s i h0 h1 hl
  rw [List.drop_eq_nil_of_le (by omega)] at e ⊢
  exact Ev.step (fun k => spec_l1Put.l0.eq_2 _ _ _ _) (eN (Ev.step (fun k => spec_l1Put.j1.eq_2 _ _ _ _ _) (evNeg (by simp) (evNeg (by omega) e))))
 | succ d ih =>
  intro i h0 h1 hd
  have hi : i.toNat < l.length := by omega
  have e := put_end l s i h0 h1 hl
  have ihe := ih (i + 1) (by omega) (by omega) (by omega)
  rw [List.drop_eq_getElem_cons hi] at e ⊢
  rw [show (i + 1).toNat = i.toNat + 1 from by omega, List.take_succ_eq_append_getElem hi] at ihe
  refine Ev.step (fun k => spec_l1Put.l0.eq_2 _ _ _ _) (eP (evPos h0 (Ev.step (fun k => spec_l1Put.j1.eq_2 _ _ _ _ _) ?_)))
  rw [rdOf_get l i h0 hi]
  generalize hx : l[i.toNat] = x at *
  by_cases c : Op.bytesLess x.toList s.toList = true
  ·refine evPos c ?_
   rw [w6]
   refine evTo ihe ?_
   simp [putL, ltS, c]
  ·refine evNeg c (eP (evPos h0 ?_))
   by_cases c2 : x = s
   ·refine Ev.step (fun k => spec_l1Put.j2.eq_2 _ _ _ _ _) (evPos (by simp [c2]) (evTo (Ev.now _) ?_))
    subst c2
    rw [show putL (x :: l.drop (i.toNat + 1)) x = x :: l.drop (i.toNat + 1) from by simp [putL, ltS_irrefl]]
    have : x :: l.drop (i.toNat + 1) = l.drop i.toNat := by rw [List.drop_eq_getElem_cons hi, hx]
    rw [this, List.take_append_drop]
   ·rw [show (x.toList == s.toList) = false from by rw [toList_beq]; simp [c2]]
    refine evTo e ?_
    simp [putL, ltS, c, c2]
theorem put_ev (l : List ByteArray) (s : ByteArray) (hl : l.length ≤ 1000000) : Ev (fun k => spec_l1Put.f k l s) (putL l s) :=
 evTo (put_loop l s hl l.length 0 (by omega) (by omega) (by omega)) (by simp)
def inB (l : List ByteArray) (s : ByteArray) : Bool := l.any (fun y => y.toList == s.toList)
theorem idx_loop (l : List ByteArray) (s : ByteArray) (hl : l.length ≤ 10000000) (d : Nat) : ∀ i : Nat, i + d = l.length → ∃ m, Ev (fun k => slices_Index_string_string.l0 k l s (l.length : Int) (i : Int)) m ∧ decide (m ≥ 0) = inB (l.drop i) s := by
 induction d with
 | zero =>
  intro i hi
  refine ⟨-1, Ev.step (fun k => slices_Index_string_string.l0.eq_2 ..) (eN (Ev.now _)), ?_⟩
  rw [List.drop_eq_nil_of_le (by omega)]
  rfl
 | succ d ih =>
  intro i hi
  have hlt : i < l.length := by omega
  obtain ⟨m, hm, h2⟩ := ih (i + 1) (by omega)
  have he : inB (l.drop i) s = (l[i].toList == s.toList || inB (l.drop (i + 1)) s) := by
   unfold inB
   rw [List.drop_eq_getElem_cons hlt, List.any_cons]
  have hw : wrap64 ((i : Int) + 1) = ((i + 1 : Nat) : Int) := w6
  by_cases c : l[i].toList = s.toList
  ·refine ⟨(i : Int), Ev.step (fun k => slices_Index_string_string.l0.eq_2 ..) (eP (eP (eP ?_))), ?_⟩
   ·rw [ba_get l i hlt]
    exact evPos c.symm (Ev.now _)
   ·rw [he, c]
    simp
  ·refine ⟨m, Ev.step (fun k => slices_Index_string_string.l0.eq_2 ..) (eP (eP (eP ?_))), ?_⟩
   ·rw [ba_get l i hlt, hw]
    exact evNeg (fun h => c h.symm) hm
   ·have cb : (l[i].toList == s.toList) = false := by simpa using c
    rw [he, cb, Bool.false_or, h2]
theorem contains_ev (l : List ByteArray) (s : ByteArray) (hl : l.length ≤ 10000000) : Ev (fun k => slices_Contains_string_string.f k l s) (inB l s) := by
 obtain ⟨m, hm, h2⟩ := idx_loop l s hl l.length 0 (by omega)
 rw [List.drop_zero] at h2
 unfold slices_Contains_string_string.f
 exact Ev.bind hm (evTo (Ev.now _) h2)
theorem hasStem_iff (C : List En) (s : ByteArray) : hasStem C s = true ↔ ∃ e ∈ C, e.f0 = s := by
 unfold hasStem
 rw [List.any_eq_true]
 constructor
 ·rintro ⟨e, he, h⟩
  exact ⟨e, he, by rw [toList_beq] at h; exact of_decide_eq_true h⟩
 ·rintro ⟨e, he, h⟩
  exact ⟨e, he, by rw [toList_beq]; exact decide_eq_true h⟩
theorem hasStem_no {C : List En} {s : ByteArray} (h : ¬ ∃ e ∈ C, e.f0 = s) : hasStem C s = false := by
 cases c : hasStem C s with
 | false => rfl
 | true => exact absurd ((hasStem_iff _ _).1 c) h
def inE (E : List En) (e : En) : Bool := E.any (fun x => e.f0.toList == x.f0.toList && (e.f1.toList == x.f1.toList))
theorem eqE_iff (x y : En) : (x.f0.toList == y.f0.toList && (x.f1.toList == y.f1.toList)) = true ↔ x = y := by
 rw [toList_beq, toList_beq, Bool.and_eq_true, decide_eq_true_eq, decide_eq_true_eq]
 obtain ⟨a, b⟩ := x
 obtain ⟨c, d⟩ := y
 simp
theorem inE_iff (E : List En) (e : En) : inE E e = true ↔ e ∈ E := by
 unfold inE
 rw [List.any_eq_true]
 constructor
 ·rintro ⟨x, hx, h⟩
  rw [(eqE_iff e x).1 h]
  exact hx
 ·intro h
  exact ⟨e, h, (eqE_iff e e).2 rfl⟩
def goesOf (E1 E2 : List En) : List ByteArray := (E1.filter (fun e => !hasStem E2 e.f0)).map (·.f0)
def comesOf (E1 E2 : List En) : List En := E2.filter (fun e => !inE E1 e)
def eqAs : List Af → List Af → Bool
 | [], [] => true
 | a :: l, b :: k => eqA a b && eqAs l k
 | _, _ => false
theorem eqA_iff (a b : Af) : eqA a b = true ↔ a = b := by
 obtain ⟨a0, a1, a2, a3, a4⟩ := a
 obtain ⟨b0, b1, b2, b3, b4⟩ := b
 simp [eqA, toList_beq]
theorem eqAs_iff : ∀ l k : List Af, eqAs l k = true ↔ l = k
 | [], [] => by simp [eqAs]
 | [], b :: k => by simp [eqAs]
 | a :: l, [] => by simp [eqAs]
 | a :: l, b :: k => by simp [eqAs, eqA_iff, eqAs_iff l k]
theorem neA_eq (a b : Af) : (!(a.f0.toList == b.f0.toList) || (!(a.f1 == b.f1) || (!(a.f2.toList == b.f2.toList) || (!(a.f3.toList == b.f3.toList) || (!(a.f4.toList == b.f4.toList)))))) = !eqA a b := by
 unfold eqA
 cases a.f0.toList == b.f0.toList <;> cases a.f1 == b.f1 <;> cases a.f2.toList == b.f2.toList <;> cases a.f3.toList == b.f3.toList <;> cases a.f4.toList == b.f4.toList <;> rfl
def deltaV (A1 : List Af) (E1 : List En) (A2 : List Af) (E2 : List En) : List ByteArray × List En × Bool × List Af :=
 if bookB A1 E1 = true ∧ bookB A2 E2 = true then (goesOf E1 E2, comesOf E1 E2, !eqAs A1 A2, if eqAs A1 A2 = true then [] else A2) else ([], [], false, [])
theorem deltaV_ok {A1 : List Af} {E1 : List En} {A2 : List Af} {E2 : List En} (h1 : bookB A1 E1 = true) (h2 : bookB A2 E2 = true) : deltaV A1 E1 A2 E2 = (goesOf E1 E2, comesOf E1 E2, !eqAs A1 A2, if eqAs A1 A2 = true then [] else A2) := if_pos ⟨h1, h2⟩
theorem deltaV_no {A1 : List Af} {E1 : List En} {A2 : List Af} {E2 : List En} (h : ¬ (bookB A1 E1 = true ∧ bookB A2 E2 = true)) : deltaV A1 E1 A2 E2 = ([], [], false, []) := if_neg h
theorem eqAs_impl_loop (l k : List Af) (hl : l.length ≤ 1048576) (he : l.length = k.length) (d : Nat) : ∀ i : Nat, i + d = l.length → Ev (fun n => impl_Affix_41.l0 n l k (l.length : Int) (i : Int)) (eqAs (l.drop i) (k.drop i)) := by
 induction d with
 | zero =>
  intro i hi
  rw [List.drop_eq_nil_of_le (by omega), List.drop_eq_nil_of_le (by omega)]
  exact Ev.step (fun n => impl_Affix_41.l0.eq_2 _ _ _ _ _) (eN (Ev.now _))
 | succ d ih =>
  intro i hi
  have h1 : i < l.length := by omega
  have h2 : i < k.length := by omega
  rw [List.drop_eq_getElem_cons h1, List.drop_eq_getElem_cons h2]
  refine Ev.step (fun n => impl_Affix_41.l0.eq_2 _ _ _ _ _) (eP (eP (eP (eP ?_))))
  rw [neA_eq, af_get l i h1, af_get k i h2, w6 (n := (i : Int) + 1)]
  simp only [eqAs]
  cases c : eqA l[i] k[i] with
  | false => exact evPos rfl (evTo (Ev.now _) (by simp))
  | true => exact evNeg (by simp) (evTo (ih (i + 1) (by omega)) (by simp))
theorem eqAs_len {l k : List Af} (h : l.length ≠ k.length) : eqAs l k = false := by
 cases c : eqAs l k with
 | false => rfl
 | true => exact absurd (congrArg List.length ((eqAs_iff l k).1 c)) h
theorem eqAs_impl (l k : List Af) (hl : l.length ≤ 1048576) : Ev (fun n => impl_Affix_41.f n l k) (eqAs l k) := by
 unfold impl_Affix_41.f
 by_cases he : l.length = k.length
 ·exact eP (eqAs_impl_loop l k hl he l.length 0 (by omega))
 ·exact eN (evTo (Ev.now _) (eqAs_len he).symm)
theorem eqAs_spec_loop (l k : List Af) (hl : l.length ≤ 1048576) (he : l.length = k.length) (d : Nat) : ∀ i : Nat, i + d = l.length → Ev (fun n => spec_l5Affixes.l0 n l k (i : Int)) (eqAs (l.drop i) (k.drop i)) := by
 induction d with
 | zero =>
  intro i hi
  rw [List.drop_eq_nil_of_le (by omega), List.drop_eq_nil_of_le (by omega)]
  exact Ev.step (fun n => spec_l5Affixes.l0.eq_2 _ _ _ _) (eN (Ev.now _))
 | succ d ih =>
  intro i hi
  have h1 : i < l.length := by omega
  have h2 : i < k.length := by omega
  rw [List.drop_eq_getElem_cons h1, List.drop_eq_getElem_cons h2]
  refine Ev.step (fun n => spec_l5Affixes.l0.eq_2 _ _ _ _) (eP (eP (eP ?_)))
  rw [neA_eq, af_get l i h1, af_get k i h2, w6 (n := (i : Int) + 1)]
  simp only [eqAs]
  cases c : eqA l[i] k[i] with
  | false => exact evPos rfl (evTo (Ev.now _) (by simp))
  | true => exact evNeg (by simp) (evTo (ih (i + 1) (by omega)) (by simp))
theorem eqAs_spec (l k : List Af) (hl : l.length ≤ 1048576) : Ev (fun n => spec_l5Affixes.f n l k) (eqAs l k) := by
 unfold spec_l5Affixes.f
 by_cases he : l.length = k.length
 ·exact eP (eqAs_spec_loop l k hl he l.length 0 (by omega))
 ·exact eN (evTo (Ev.now _) (eqAs_len he).symm)
theorem inE_loop (l : List En) (e : En) (hl : l.length ≤ 1048576) (d : Nat) : ∀ i : Nat, i + d = l.length → ∃ v : Int, Ev (fun n => impl_Entry_86.l0 n l (l.length : Int) (i : Int) e.f0 e.f1) v ∧ decide (v ≥ 0) = inE (l.drop i) e := by
 induction d with
 | zero =>
  intro i hi
  rw [List.drop_eq_nil_of_le (by omega)]
  exact ⟨-1, Ev.step (fun n => impl_Entry_86.l0.eq_2 _ _ _ _ _ _) (eN (Ev.now _)), rfl⟩
 | succ d ih =>
  intro i hi
  have h1 : i < l.length := by omega
  rw [List.drop_eq_getElem_cons h1]
  have eI : inE (l[i] :: l.drop (i + 1)) e = ((e.f0.toList == l[i].f0.toList && (e.f1.toList == l[i].f1.toList)) || inE (l.drop (i + 1)) e) := rfl
  rw [eI]
  by_cases c : (e.f0.toList == l[i].f0.toList && (e.f1.toList == l[i].f1.toList)) = true
  ·refine ⟨i, Ev.step (fun n => impl_Entry_86.l0.eq_2 _ _ _ _ _ _) (eP (eP (eP ?_))), by rw [c]; simp⟩
   rw [en_get l i h1]
   exact evPos c (Ev.now _)
  ·obtain ⟨v, hv, hd⟩ := ih (i + 1) (by omega)
   refine ⟨v, Ev.step (fun n => impl_Entry_86.l0.eq_2 _ _ _ _ _ _) (eP (eP (eP ?_))), by rw [Bool.eq_false_iff.2 c, Bool.false_or]; exact hd⟩
   rw [en_get l i h1, w6 (n := (i : Int) + 1)]
   exact evNeg c hv
theorem inE_impl (l : List En) (e : En) (hl : l.length ≤ 1048576) : Ev (fun n => impl_Entry_40.f n l e.f0 e.f1) (inE l e) := by
 obtain ⟨v, hv, hd⟩ := inE_loop l e hl l.length 0 (by omega)
 unfold impl_Entry_40.f
 exact Ev.bind (show Ev (fun n => impl_Entry_86.f n l e.f0 e.f1) v from hv) (evTo (Ev.now _) hd)
theorem entryAt_lt (C : List En) (s : ByteArray) : ∃ t : Int, impl_entryAt.f C s = some t ∧ ((t < 0) ↔ hasStem C s = false) := by
 obtain ⟨t, ht, h⟩ := entryAt_ev C s
 refine ⟨t, ht, ?_⟩
 constructor
 ·intro c
  cases e : hasStem C s with
  | false => rfl
  | true => have := h.2 e; omega
 ·intro c
  have : ¬ t ≥ 0 := fun q => by rw [h.1 q] at c; cases c
  omega
theorem goes_cons (E2 : List En) (e : En) (l : List En) : goesOf (e :: l) E2 = if hasStem E2 e.f0 = true then goesOf l E2 else e.f0 :: goesOf l E2 := by
 unfold goesOf
 cases c : hasStem E2 e.f0 <;> simp [c]
theorem comes_cons (E1 : List En) (e : En) (l : List En) : comesOf E1 (e :: l) = if inE E1 e = true then comesOf E1 l else e :: comesOf E1 l := by
 unfold comesOf
 cases c : inE E1 e <;> simp [c]
theorem dImpl_l1 (A1 : List Af) (E1 : List En) (A2 : List Af) (E2 : List En) (h1 : BkSz A1 E1) (h2 : BkSz A2 E2) (g : List ByteArray) (d : Nat) : ∀ (i : Nat) (c : List En), i + d = E2.length → c.length ≤ i →
  Ev (fun k => impl_DeltaOf.l1 k E2 (E2.length : Int) (i : Int) A1 E1 A2 E2 g c false []) (g, c ++ comesOf E1 (E2.drop i), !eqAs A1 A2, if eqAs A1 A2 = true then [] else A2) := by
 have ha1 := h1.la; have he1 := h1.le; have ha2 := h2.la; have he2 := h2.le
 induction d with
 | zero =>
  intro i c hi hc
  rw [List.drop_eq_nil_of_le (by omega)]
  refine Ev.step (fun k => impl_DeltaOf.l1.eq_2 _ _ _ _ _ _ _ _ _ _ _ _) (eN (Ev.bind (eqAs_impl A1 A2 (by omega)) ?_))
  have e0 : c ++ comesOf E1 [] = c := by simp [comesOf]
  rw [e0]
  cases e : eqAs A1 A2 with
  | true => exact evPos rfl (Ev.now _)
  | false => exact evNeg (by simp) (evPos (by simp only [List.length_nil]; omega) (Ev.now _))
 | succ d ih =>
  intro i c hi hc
  have hlt : i < E2.length := by omega
  rw [List.drop_eq_getElem_cons hlt, comes_cons]
  refine Ev.step (fun k => impl_DeltaOf.l1.eq_2 _ _ _ _ _ _ _ _ _ _ _ _) (eP (eP (eP ?_)))
  rw [en_get E2 i hlt, w6 (n := (i : Int) + 1)]
  refine Ev.bind (inE_impl E1 E2[i] he1) ?_
  cases q : inE E1 E2[i] with
  | true => exact evPos rfl (ih (i + 1) c (by omega) (by omega))
  | false =>
   refine evNeg (by simp) (eP ?_)
   refine evTo (ih (i + 1) (c ++ [E2[i]]) (by omega) (by simp; omega)) ?_
   rw [List.append_assoc]
   rfl
theorem dImpl_l0 (A1 : List Af) (E1 : List En) (A2 : List Af) (E2 : List En) (h1 : BkSz A1 E1) (h2 : BkSz A2 E2) (d : Nat) : ∀ (i : Nat) (g : List ByteArray), i + d = E1.length → g.length ≤ i →
  Ev (fun k => impl_DeltaOf.l0 k E1 (E1.length : Int) (i : Int) A1 E1 A2 E2 g [] false []) (g ++ goesOf (E1.drop i) E2, comesOf E1 E2, !eqAs A1 A2, if eqAs A1 A2 = true then [] else A2) := by
 have he1 := h1.le
 induction d with
 | zero =>
  intro i g hi hg
  rw [List.drop_eq_nil_of_le (by omega)]
  have e0 : g ++ goesOf [] E2 = g := by simp [goesOf]
  rw [e0]
  exact Ev.step (fun k => impl_DeltaOf.l0.eq_2 _ _ _ _ _ _ _ _ _ _ _ _) (eN (dImpl_l1 A1 E1 A2 E2 h1 h2 g E2.length 0 [] (by omega) (by simp)))
 | succ d ih =>
  intro i g hi hg
  have hlt : i < E1.length := by omega
  obtain ⟨t, ht, hh⟩ := entryAt_lt E2 E1[i].f0
  rw [List.drop_eq_getElem_cons hlt, goes_cons]
  refine Ev.step (fun k => impl_DeltaOf.l0.eq_2 _ _ _ _ _ _ _ _ _ _ _ _) (eP (eP (eP ?_)))
  rw [en_get E1 i hlt, w6 (n := (i : Int) + 1)]
  refine evCall ht ?_
  cases q : hasStem E2 E1[i].f0 with
  | true => exact evNeg (fun c => by rw [hh.1 c] at q; cases q) (ih (i + 1) g (by omega) (by omega))
  | false =>
   refine evPos (hh.2 q) (eP ?_)
   refine evTo (ih (i + 1) (g ++ [E1[i].f0]) (by omega) (by simp; omega)) ?_
   rw [List.append_assoc]
   rfl
theorem deltaOf_impl (A1 : List Af) (E1 : List En) (A2 : List Af) (E2 : List En) (h1 : BkSz A1 E1) (h2 : BkSz A2 E2) : Ev (fun k => impl_DeltaOf.f k A1 E1 A2 E2) (deltaV A1 E1 A2 E2) := by
 unfold impl_DeltaOf.f
 refine Ev.bind (bookOk_impl A1 E1 h1) ?_
 by_cases c1 : bookB A1 E1 = true
 ·refine evPos c1 (Ev.bind (bookOk_impl A2 E2 h2) (Ev.step (fun k => impl_DeltaOf.j0.eq_2 _ _ _ _ _ _) ?_))
  by_cases c2 : bookB A2 E2 = true
  ·rw [deltaV_ok c1 c2, c2]
   exact evNeg (by simp) (dImpl_l0 A1 E1 A2 E2 h1 h2 E1.length 0 [] (by omega) (by simp))
  ·rw [deltaV_no (fun q => c2 q.2), Bool.eq_false_iff.2 c2]
   exact evPos rfl (Ev.now _)
 ·rw [deltaV_no (fun q => c1 q.1)]
  exact evNeg c1 (Ev.step (fun k => impl_DeltaOf.j0.eq_2 _ _ _ _ _ _) (evPos rfl (Ev.now _)))
theorem at_loop (l : List En) (s : ByteArray) (ha : AscE l) (hl : l.length ≤ 1048576) (d : Nat) : ∀ i : Nat, i + d = l.length → (∀ j : Nat, j < i → (hj : j < l.length) → ltS l[j].f0 s = true) →
  ∃ v : Int × Bool, Ev (fun k => spec_l5At.l0 k l s (i : Int)) v ∧ v.2 = hasStem l s ∧ (v.2 = true → ∃ n : Nat, v.1 = n ∧ ∃ h : n < l.length, l[n].f0 = s) := by
 induction d with
 | zero =>
  intro i hi hlt
  refine ⟨(i, false), Ev.step (fun k => spec_l5At.l0.eq_2 _ _ _ _) (eN (Ev.now _)), (hasStem_no ?_).symm, fun h => by cases h⟩
  rintro ⟨e, he, rfl⟩
  obtain ⟨j, hj, rfl⟩ := List.mem_iff_getElem.1 he
  have := hlt j (by omega) hj
  rw [ltS_irrefl] at this
  cases this
 | succ d ih =>
  intro i hi hlt
  have hil : i < l.length := by omega
  by_cases c : ltS l[i].f0 s = true
  ·obtain ⟨v, hv, h1, h2⟩ := ih (i + 1) (by omega) (fun j hj hj2 => by
    by_cases q : j = i
    ·subst q
     exact c
    ·exact hlt j (by omega) hj2)
   refine ⟨v, Ev.step (fun k => spec_l5At.l0.eq_2 _ _ _ _) (eP (eP ?_)), h1, h2⟩
   rw [en_get l i hil, w6 (n := (i : Int) + 1)]
   exact evPos c hv
  ·refine ⟨(i, l[i].f0.toList == s.toList), Ev.step (fun k => spec_l5At.l0.eq_2 _ _ _ _) (eP (eP ?_)), ?_, fun h => ⟨i, rfl, hil, ?_⟩⟩
   ·rw [en_get l i hil]
    exact evNeg c (Ev.now _)
   ·show (l[i].f0.toList == s.toList) = _
    rw [toList_beq]
    by_cases q : l[i].f0 = s
    ·rw [decide_eq_true q]
     exact ((hasStem_iff l s).2 ⟨_, List.getElem_mem hil, q⟩).symm
    ·rw [decide_eq_false q]
     refine (hasStem_no ?_).symm
     rintro ⟨e, he, rfl⟩
     obtain ⟨j, hj, rfl⟩ := List.mem_iff_getElem.1 he
     have hp := List.pairwise_iff_getElem.1 ha
     rcases Nat.lt_trichotomy i j with o | o | o
     ·exact c (hp i j hil hj o)
     ·subst o
      exact q rfl
     ·have h1 := hlt j o hj
      rw [ltS_irrefl] at h1
      cases h1
   ·have h' : (l[i].f0.toList == s.toList) = true := h
    rw [toList_beq] at h'
    exact of_decide_eq_true h'
theorem at_ev (l : List En) (s : ByteArray) (ha : AscE l) (hl : l.length ≤ 1048576) : ∃ v : Int × Bool, Ev (fun k => spec_l5At.f k l s) v ∧ v.2 = hasStem l s ∧ (v.2 = true → ∃ n : Nat, v.1 = n ∧ ∃ h : n < l.length, l[n].f0 = s) :=
 at_loop l s ha hl l.length 0 (by omega) (fun j hj => absurd hj (by omega))
theorem dSpec_l1 (A1 : List Af) (E1 : List En) (A2 : List Af) (E2 : List En) (h1 : BkSz A1 E1) (h2 : BkSz A2 E2) (ho1 : AscE E1) (g : List ByteArray) (d : Nat) : ∀ (i : Nat) (c : List En), i + d = E2.length → c.length ≤ i →
  Ev (fun k => spec_DeltaOf.l1 k (i : Int) A1 E1 A2 E2 g c false) (g, c ++ comesOf E1 (E2.drop i), !eqAs A1 A2, if eqAs A1 A2 = true then [] else A2) := by
 have ha1 := h1.la; have he1 := h1.le; have ha2 := h2.la; have he2 := h2.le
 induction d with
 | zero =>
  intro i c hi hc
  rw [List.drop_eq_nil_of_le (by omega)]
  refine Ev.step (fun k => spec_DeltaOf.l1.eq_2 _ _ _ _ _ _ _ _ _) (eN (Ev.bind (eqAs_spec A1 A2 (by omega)) ?_))
  have e0 : c ++ comesOf E1 [] = c := by simp [comesOf]
  rw [e0]
  cases e : eqAs A1 A2 with
  | true => exact evPos rfl (Ev.now _)
  | false => exact evNeg (by simp) (evCall rfl (evPos (by simp only [List.length_nil]; omega) (Ev.now _)))
 | succ d ih =>
  intro i c hi hc
  have hlt : i < E2.length := by omega
  obtain ⟨v, hv, hv2, hv3⟩ := at_ev E1 E2[i].f0 ho1 he1
  rw [List.drop_eq_getElem_cons hlt, comes_cons]
  refine Ev.step (fun k => spec_DeltaOf.l1.eq_2 _ _ _ _ _ _ _ _ _) (eP (eP ?_))
  rw [en_get E2 i hlt]
  refine Ev.bind hv ?_
  have fin : ∀ b : Bool, b = !inE E1 E2[i] → Ev (fun k => spec_DeltaOf.j3 k (i : Int) b A1 E1 A2 E2 g c false) (g, c ++ (if inE E1 E2[i] = true then comesOf E1 (E2.drop (i + 1)) else E2[i] :: comesOf E1 (E2.drop (i + 1))), !eqAs A1 A2, if eqAs A1 A2 = true then [] else A2) := by
   intro b hb
   refine Ev.step (fun k => spec_DeltaOf.j3.eq_2 _ _ _ _ _ _ _ _ _ _) ?_
   rw [en_get E2 i hlt, w6 (n := (i : Int) + 1)]
   cases q : inE E1 E2[i] with
   | true =>
    rw [q] at hb
    subst hb
    exact evNeg (by simp) (ih (i + 1) c (by omega) (by omega))
   | false =>
    rw [q] at hb
    subst hb
    refine evPos rfl (eP (eP (eP ?_)))
    refine evTo (ih (i + 1) (c ++ [E2[i]]) (by omega) (by simp; omega)) ?_
    rw [List.append_assoc]
    rfl
  cases hb : v.2 with
  | true =>
   obtain ⟨n, hn, hnl, hk⟩ := hv3 hb
   refine evPos rfl (eP (eP ?_))
   rw [hn, en_get E1 n hnl]
   refine fin _ ?_
   have e1 : (!(E1[n].f0.toList == E2[i].f0.toList) || (!(E1[n].f1.toList == E2[i].f1.toList))) = !(E1[n].f0.toList == E2[i].f0.toList && (E1[n].f1.toList == E2[i].f1.toList)) := by
    cases E1[n].f0.toList == E2[i].f0.toList <;> cases E1[n].f1.toList == E2[i].f1.toList <;> rfl
   rw [e1]
   congr 1
   rw [Bool.eq_iff_iff, eqE_iff, inE_iff]
   constructor
   ·intro e
    rw [← e]
    exact List.getElem_mem hnl
   ·intro e
    exact ascE_key ho1 (List.getElem_mem hnl) e hk
  | false =>
   rw [hb] at hv2
   refine evNeg (by simp) (fin true ?_)
   have : inE E1 E2[i] = false := by
    cases q : inE E1 E2[i] with
    | false => rfl
    | true =>
     have := (hasStem_iff E1 E2[i].f0).2 ⟨_, (inE_iff _ _).1 q, rfl⟩
     rw [← hv2] at this
     cases this
   rw [this]
   rfl
theorem dSpec_l0 (A1 : List Af) (E1 : List En) (A2 : List Af) (E2 : List En) (h1 : BkSz A1 E1) (h2 : BkSz A2 E2) (ho1 : AscE E1) (ho2 : AscE E2) (d : Nat) : ∀ (i : Nat) (g : List ByteArray), i + d = E1.length → g.length ≤ i →
  Ev (fun k => spec_DeltaOf.l0 k (i : Int) A1 E1 A2 E2 g false) (g ++ goesOf (E1.drop i) E2, comesOf E1 E2, !eqAs A1 A2, if eqAs A1 A2 = true then [] else A2) := by
 have he1 := h1.le
 induction d with
 | zero =>
  intro i g hi hg
  rw [List.drop_eq_nil_of_le (by omega)]
  have e0 : g ++ goesOf [] E2 = g := by simp [goesOf]
  rw [e0]
  exact Ev.step (fun k => spec_DeltaOf.l0.eq_2 _ _ _ _ _ _ _ _) (eN (dSpec_l1 A1 E1 A2 E2 h1 h2 ho1 g E2.length 0 [] (by omega) (by simp)))
 | succ d ih =>
  intro i g hi hg
  have hlt : i < E1.length := by omega
  obtain ⟨v, hv, hv2, _⟩ := at_ev E2 E1[i].f0 ho2 h2.le
  rw [List.drop_eq_getElem_cons hlt, goes_cons, ← hv2]
  refine Ev.step (fun k => spec_DeltaOf.l0.eq_2 _ _ _ _ _ _ _ _) (eP (eP ?_))
  rw [en_get E1 i hlt, w6 (n := (i : Int) + 1)]
  refine Ev.bind hv ?_
  cases q : v.2 with
  | true => exact evPos rfl (ih (i + 1) g (by omega) (by omega))
  | false =>
   refine evNeg (by simp) (eP ?_)
   refine evTo (ih (i + 1) (g ++ [E1[i].f0]) (by omega) (by simp; omega)) ?_
   rw [List.append_assoc]
   rfl
theorem bookB_asc {A : List Af} {E : List En} (h : bookB A E = true) : AscE E := by
 simp only [bookB, Bool.and_eq_true] at h
 exact ents_asc h.2
theorem deltaOf_spec (A1 : List Af) (E1 : List En) (A2 : List Af) (E2 : List En) (h1 : BkSz A1 E1) (h2 : BkSz A2 E2) : Ev (fun k => spec_DeltaOf.f k A1 E1 A2 E2) (deltaV A1 E1 A2 E2) := by
 unfold spec_DeltaOf.f
 refine Ev.bind (bookOk_spec A1 E1 h1) ?_
 by_cases c1 : bookB A1 E1 = true
 ·refine evPos c1 (Ev.bind (bookOk_spec A2 E2 h2) (Ev.step (fun k => spec_DeltaOf.j0.eq_2 _ _ _ _ _ _ _) ?_))
  by_cases c2 : bookB A2 E2 = true
  ·rw [deltaV_ok c1 c2, c2]
   exact evNeg (by simp) (dSpec_l0 A1 E1 A2 E2 h1 h2 (bookB_asc c1) (bookB_asc c2) E1.length 0 [] (by omega) (by simp))
  ·rw [deltaV_no (fun q => c2 q.2), Bool.eq_false_iff.2 c2]
   exact evPos rfl (Ev.now _)
 ·rw [deltaV_no (fun q => c1 q.1)]
  exact evNeg c1 (Ev.step (fun k => spec_DeltaOf.j0.eq_2 _ _ _ _ _ _ _) (evPos rfl (Ev.now _)))
theorem le_iff (x y : En) : impl_Entry_96.le x y = !ltS y.f0 x.f0 := by
 unfold impl_Entry_96.le ltOf impl_Entry_96.cf ltS
 cases Op.bytesLess y.f0.toList x.f0.toList <;> cases Op.bytesLess x.f0.toList y.f0.toList <;> rfl
theorem sort_asc {l E : List En} (hn : (l.map (·.f0)).Nodup) (ha : AscE E) (hm : ∀ x, x ∈ l ↔ x ∈ E) : l.mergeSort impl_Entry_96.le = E := by
 have hp := List.mergeSort_perm l impl_Entry_96.le
 refine ascE_ext ?_ ha (fun x => (hp.mem_iff).trans (hm x))
 have hs : (l.mergeSort impl_Entry_96.le).Pairwise (fun x y => impl_Entry_96.le x y = true) := by
  refine List.pairwise_mergeSort ?_ ?_ l
  ·intro a b c h1 h2
   rw [le_iff, Bool.not_eq_true'] at h1 h2 ⊢
   cases q : ltS c.f0 a.f0 with
   | false => rfl
   | true =>
    by_cases e : b.f0 = a.f0
    ·rw [← e] at q
     rw [q] at h2
     cases h2
    ·have := ltS_trans q (ltS_total h1 e)
     rw [h2] at this
     cases this
  ·intro a b
   rw [le_iff, le_iff]
   cases q : ltS b.f0 a.f0 with
   | false => rfl
   | true => rw [ltS_asymm q]; rfl
 have hd : ((l.mergeSort impl_Entry_96.le).map (·.f0)).Nodup := (hp.map (·.f0)).nodup_iff.2 hn
 rw [List.nodup_iff_pairwise_ne, List.pairwise_map] at hd
 refine (hs.and hd).imp (fun h => ?_)
 obtain ⟨h1, h2⟩ := h
 rw [le_iff, Bool.not_eq_true'] at h1
 exact ltS_total h1 (fun e => h2 e.symm)
def keptOf (E1 : List En) (G : List ByteArray) (C : List En) : List En := E1.filter (fun e => !inB G e.f0 && !hasStem C e.f0)
theorem kept_cons (G : List ByteArray) (C : List En) (e : En) (l : List En) : keptOf (e :: l) G C = if inB G e.f0 = true then keptOf l G C else if hasStem C e.f0 = true then keptOf l G C else e :: keptOf l G C := by
 unfold keptOf
 cases a : inB G e.f0 <;> cases b : hasStem C e.f0 <;> simp [a, b]
theorem inB_mem (l : List ByteArray) (s : ByteArray) : inB l s = true ↔ s ∈ l := by
 unfold inB
 rw [List.any_eq_true]
 constructor
 ·rintro ⟨e, he, h⟩
  rw [toList_beq] at h
  rw [← of_decide_eq_true h]
  exact he
 ·intro h
  exact ⟨s, h, by rw [toList_beq]; exact decide_eq_true rfl⟩
theorem goes_mem (E1 E2 : List En) (s : ByteArray) : s ∈ goesOf E1 E2 ↔ (∃ e ∈ E1, e.f0 = s) ∧ ¬ ∃ e ∈ E2, e.f0 = s := by
 unfold goesOf
 rw [List.mem_map]
 constructor
 ·rintro ⟨e, he, rfl⟩
  obtain ⟨h1, h2⟩ := List.mem_filter.1 he
  rw [Bool.not_eq_true'] at h2
  refine ⟨⟨e, h1, rfl⟩, fun h => ?_⟩
  rw [(hasStem_iff _ _).2 h] at h2
  cases h2
 ·rintro ⟨⟨e, he, rfl⟩, h⟩
  exact ⟨e, List.mem_filter.2 ⟨he, by rw [hasStem_no h]; rfl⟩, rfl⟩
theorem comes_mem (E1 E2 : List En) (e : En) : e ∈ comesOf E1 E2 ↔ e ∈ E2 ∧ e ∉ E1 := by
 unfold comesOf
 rw [List.mem_filter, Bool.not_eq_true', ← Bool.not_eq_true, inE_iff]
theorem kept_mem {E1 E2 : List En} (h1 : AscE E1) (h2 : AscE E2) (e : En) : e ∈ keptOf E1 (goesOf E1 E2) (comesOf E1 E2) ↔ e ∈ E1 ∧ e ∈ E2 := by
 unfold keptOf
 rw [List.mem_filter, Bool.and_eq_true, Bool.not_eq_true', Bool.not_eq_true', ← Bool.not_eq_true, ← Bool.not_eq_true, inB_mem, hasStem_iff, goes_mem]
 constructor
 ·rintro ⟨ha, hb, hc⟩
  refine ⟨ha, ?_⟩
  have hx : ∃ x ∈ E2, x.f0 = e.f0 := Classical.byContradiction (fun q => hb ⟨⟨e, ha, rfl⟩, q⟩)
  obtain ⟨x, hx, hk⟩ := hx
  have : x ∈ E1 := Classical.byContradiction (fun q => hc ⟨x, (comes_mem E1 E2 x).2 ⟨hx, q⟩, hk⟩)
  rw [← ascE_key h1 this ha hk]
  exact hx
 ·rintro ⟨ha, hb⟩
  refine ⟨ha, fun q => q.2 ⟨e, hb, rfl⟩, ?_⟩
  rintro ⟨x, hx, hk⟩
  obtain ⟨q1, q2⟩ := (comes_mem E1 E2 x).1 hx
  rw [ascE_key h2 q1 hb hk] at q2
  exact q2 ha
theorem filter_asc {l : List En} (p : En → Bool) (h : AscE l) : AscE (l.filter p) := List.Pairwise.filter p h
theorem join_nodup {E1 E2 : List En} (h1 : AscE E1) (h2 : AscE E2) : ((keptOf E1 (goesOf E1 E2) (comesOf E1 E2) ++ comesOf E1 E2).map (·.f0)).Nodup := by
 rw [List.map_append, List.nodup_append]
 refine ⟨ascE_nodup (filter_asc _ h1), ascE_nodup (filter_asc _ h2), ?_⟩
 intro a ha b hb e
 subst e
 obtain ⟨x, hx, rfl⟩ := List.mem_map.1 ha
 obtain ⟨y, hy, hk⟩ := List.mem_map.1 hb
 obtain ⟨p1, p2⟩ := (kept_mem h1 h2 x).1 hx
 obtain ⟨q1, q2⟩ := (comes_mem E1 E2 y).1 hy
 rw [ascE_key h2 q1 p2 hk] at q2
 exact q2 p1
theorem join_mem {E1 E2 : List En} (h1 : AscE E1) (h2 : AscE E2) (e : En) : e ∈ keptOf E1 (goesOf E1 E2) (comesOf E1 E2) ++ comesOf E1 E2 ↔ e ∈ E2 := by
 rw [List.mem_append, kept_mem h1 h2, comes_mem]
 constructor
 ·rintro (h | h)
  ·exact h.2
  ·exact h.1
 ·intro h
  by_cases q : e ∈ E1
  ·exact .inl ⟨q, h⟩
  ·exact .inr ⟨h, q⟩
theorem deltaB_of {A1 : List Af} {E1 : List En} {A2 : List Af} {E2 : List En} (h1 : bookB A1 E1 = true) (h2 : bookB A2 E2 = true) : deltaB (goesOf E1 E2) (comesOf E1 E2) (!eqAs A1 A2) (if eqAs A1 A2 = true then [] else A2) = true := by
 obtain ⟨la1, le1⟩ := bookB_len h1
 obtain ⟨la2, le2⟩ := bookB_len h2
 have s1 := bookB_asc h1
 have s2 := bookB_asc h2
 simp only [bookB, Bool.and_eq_true] at h1 h2
 have o1 := ents_all1 h1.2
 have o2 := ents_all1 h2.2
 have g1 : Asc (goesOf E1 E2) := by
  unfold goesOf Asc
  rw [List.pairwise_map]
  exact filter_asc _ s1
 have g2 : (goesOf E1 E2).length ≤ 24 := by
  unfold goesOf
  rw [List.length_map]
  exact Nat.le_trans (List.length_filter_le _ _) le1
 have g3 : ∀ s ∈ goesOf E1 E2, wordB s = true := by
  intro s hs
  obtain ⟨⟨e, he, rfl⟩, _⟩ := (goes_mem E1 E2 s).1 hs
  have p : entB e.f0 e.f1 = true := o1 e he
  simp only [entB, Bool.and_eq_true] at p
  exact p.2.1
 have c1 : entsB (comesOf E1 E2) = true := ents_mk (filter_asc _ s2) (fun e he => o2 e ((comes_mem E1 E2 e).1 he).1) (Nat.le_trans (List.length_filter_le _ _) le2)
 have no : ∀ (d i : Nat), i + d = (goesOf E1 E2).length → noGo (goesOf E1 E2) (comesOf E1 E2) d (i : Int) = true := by
  intro d
  induction d with
  | zero => intro i _; rfl
  | succ d ih =>
   intro i hi
   have hlt : i < (goesOf E1 E2).length := by omega
   simp only [noGo, Bool.and_eq_true]
   refine ⟨?_, by rw [show (i : Int) + 1 = ((i + 1 : Nat) : Int) from by omega]; exact ih (i + 1) (by omega)⟩
   rw [ba_get _ i hlt, hasStem_no]
   ·rfl
   ·rintro ⟨e, he, hk⟩
    have := ((goes_mem E1 E2 _).1 (List.getElem_mem hlt)).2
    exact this ⟨e, ((comes_mem E1 E2 e).1 he).1, hk⟩
 have a0 : affsB ([] : List Af) = true := rfl
 have fin : (affsB (if eqAs A1 A2 = true then [] else A2) && ((!eqAs A1 A2 || decide ((if eqAs A1 A2 = true then ([] : List Af) else A2).length = 0)))) = true := by
  cases q : eqAs A1 A2 with
  | true => simp [a0]
  | false => simp [h2.1]
 rw [Bool.and_eq_true] at fin
 simp only [deltaB, Bool.and_eq_true, decide_eq_true_eq]
 exact ⟨⟨wGo_mk g1 g3, by omega⟩, c1, fin.1, fin.2, no _ 0 (by omega)⟩
theorem do_l1 (A1 : List Af) (E1 : List En) (G : List ByteArray) (C : List En) (f : Bool) (L : List Af) (X : List Af) (E2 : List En) (he1 : E1.length ≤ 1048576) (hg : G.length ≤ 1048576) (hc : C.length ≤ 1048576) {r : List Af × List En × Bool} (d : Nat) : ∀ (i : Nat) (o : List En), i + d = E1.length → o.length ≤ i →
  (Ev (fun k => impl_DeltaDo.l1 k E1 (E1.length : Int) (E1.length : Int) A1 E1 G C f L X (o ++ keptOf (E1.drop i) G C)) r) → Ev (fun k => impl_DeltaDo.l1 k E1 (E1.length : Int) (i : Int) A1 E1 G C f L X o) r := by
 induction d with
 | zero =>
  intro i o hi ho h
  rw [List.drop_eq_nil_of_le (by omega)] at h
  have e0 : o ++ keptOf [] G C = o := by simp [keptOf]
  rw [e0, show (E1.length : Int) = (i : Int) from by omega] at h
  rw [show (E1.length : Int) = (i : Int) from by omega]
  exact h
 | succ d ih =>
  intro i o hi ho h
  have hlt : i < E1.length := by omega
  obtain ⟨t, ht, hh⟩ := entryAt_lt C E1[i].f0
  rw [List.drop_eq_getElem_cons hlt, kept_cons] at h
  refine Ev.step (fun k => impl_DeltaDo.l1.eq_2 _ _ _ _ _ _ _ _ _ _ _ _) (eP (eP (eP ?_)))
  rw [en_get E1 i hlt, w6 (n := (i : Int) + 1)]
  refine Ev.bind (contains_ev G E1[i].f0 (by omega)) ?_
  cases q : inB G E1[i].f0 with
  | true =>
   rw [q] at h
   exact evPos rfl (ih (i + 1) o (by omega) (by omega) h)
  | false =>
   rw [q] at h
   refine evNeg (by simp) (evCall ht ?_)
   cases p : hasStem C E1[i].f0 with
   | true =>
    rw [p] at h
    exact evNeg (fun c => by rw [hh.1 c] at p; cases p) (ih (i + 1) o (by omega) (by omega) h)
   | false =>
    rw [p] at h
    refine evPos (hh.2 p) (eP (ih (i + 1) (o ++ [E1[i]]) (by omega) (by simp; omega) ?_))
    rw [List.append_assoc]
    exact h
theorem do_l0 (A1 : List Af) (E1 : List En) (G : List ByteArray) (C : List En) (f : Bool) (L : List Af) (X : List Af) (hg : G.length ≤ 1048576) (hG : ∀ s ∈ G, hasStem E1 s = true) {r : List Af × List En × Bool} (h : Ev (fun k => impl_DeltaDo.l1 k E1 (E1.length : Int) 0 A1 E1 G C f L X []) r) (d : Nat) : ∀ i : Nat, i + d = G.length →
  Ev (fun k => impl_DeltaDo.l0 k G (G.length : Int) (i : Int) A1 E1 G C f L X []) r := by
 induction d with
 | zero =>
  intro i hi
  exact Ev.step (fun k => impl_DeltaDo.l0.eq_2 _ _ _ _ _ _ _ _ _ _ _ _) (evNeg (by omega) h)
 | succ d ih =>
  intro i hi
  have hlt : i < G.length := by omega
  obtain ⟨t, ht, hh⟩ := entryAt_lt E1 G[i]
  refine Ev.step (fun k => impl_DeltaDo.l0.eq_2 _ _ _ _ _ _ _ _ _ _ _ _) (eP (eP (eP ?_)))
  rw [ba_get G i hlt, w6 (n := (i : Int) + 1)]
  refine evCall ht (evNeg (fun c => ?_) (ih (i + 1) (by omega)))
  have := hh.1 c
  rw [hG _ (List.getElem_mem hlt)] at this
  cases this
theorem deltaDo_ev (A1 : List Af) (E1 : List En) (A2 : List Af) (E2 : List En) (h1 : bookB A1 E1 = true) (h2 : bookB A2 E2 = true) :
  Ev (fun k => impl_DeltaDo.f k A1 E1 (goesOf E1 E2) (comesOf E1 E2) (!eqAs A1 A2) (if eqAs A1 A2 = true then [] else A2)) (A2, E2, true) := by
 have z1 := bkSz_ok h1
 have z2 := bkSz_ok h2
 have s1 := bookB_asc h1
 have s2 := bookB_asc h2
 obtain ⟨la1, le1⟩ := bookB_len h1
 obtain ⟨la2, le2⟩ := bookB_len h2
 have hD := deltaB_of h1 h2
 have hgl : (goesOf E1 E2).length ≤ 24 := by
  unfold goesOf
  rw [List.length_map]
  exact Nat.le_trans (List.length_filter_le _ _) le1
 have hcl : (comesOf E1 E2).length ≤ 24 := Nat.le_trans (List.length_filter_le _ _) le2
 have hG : StZ (goesOf E1 E2) := by
  refine ⟨by omega, fun s hs => ?_⟩
  obtain ⟨⟨e, he, rfl⟩, _⟩ := (goes_mem E1 E2 s).1 hs
  exact (z1.e e he).1
 have hL : (if eqAs A1 A2 = true then ([] : List Af) else A2).length ≤ 8 := by
  split
  ·simp
  ·exact la2
 have hC : BkSz (if eqAs A1 A2 = true then [] else A2) (comesOf E1 E2) := by
  refine ⟨by omega, by omega, fun a ha => ?_, fun e he => z2.e e ((comes_mem E1 E2 e).1 he).1⟩
  split at ha
  ·cases ha
  ·exact z2.a a ha
 have ok2 := bookOk_impl A2 E2 z2
 have last : ∀ X : List Af, X = A2 → Ev (fun k => impl_DeltaDo.j3 k A1 E1 X E2) (A2, E2, true) := by
  intro X hX
  subst hX
  exact Ev.step (fun k => impl_DeltaDo.j3.eq_2 _ _ _ _ _) (Ev.bind ok2 (evPos h2 (Ev.now _)))
 have hs : impl_sortEntries.f (keptOf E1 (goesOf E1 E2) (comesOf E1 E2) ++ comesOf E1 E2) = some E2 := by
  have hle : (keptOf E1 (goesOf E1 E2) (comesOf E1 E2) ++ comesOf E1 E2).length ≤ 1000000000 := by
   have := List.length_filter_le (fun e => !inB (goesOf E1 E2) e.f0 && !hasStem (comesOf E1 E2) e.f0) E1
   rw [List.length_append]
   unfold keptOf
   omega
  unfold impl_sortEntries.f impl_Entry_96.f
  rw [if_pos ⟨hle, join_nodup s1 s2⟩, sort_asc (join_nodup s1 s2) s2 (join_mem s1 s2)]
  rfl
 have hkl : (keptOf E1 (goesOf E1 E2) (comesOf E1 E2)).length ≤ 24 := Nat.le_trans (List.length_filter_le _ _) le1
 unfold impl_DeltaDo.f
 refine Ev.bind (bookOk_impl A1 E1 z1) (evPos h1 (Ev.bind (deltaOk_impl _ _ _ _ hG hC) (Ev.step (fun k => impl_DeltaDo.j0.eq_2 _ _ _ _ _ _ _ _) ?_)))
 rw [hD]
 refine evNeg (by simp) (evCall rfl (evPos (by simp only [List.length_nil]; omega) (do_l0 A1 E1 _ _ _ _ _ (by omega) (fun s hs => (hasStem_iff E1 s).2 ((goes_mem E1 E2 s).1 hs).1) ?_ (goesOf E1 E2).length 0 (by omega))))
 refine do_l1 A1 E1 _ _ _ _ _ E2 (by omega) (by omega) (by omega) E1.length 0 [] (by omega) (by simp) ?_
 rw [List.drop_zero]
 simp only [List.nil_append]
 refine Ev.step (fun k => impl_DeltaDo.l1.eq_2 _ _ _ _ _ _ _ _ _ _ _ _) (eN (eP (evCall hs ?_)))
 cases q : eqAs A1 A2 with
 | true => exact evNeg (by simp) (last _ ((eqAs_iff A1 A2).1 q))
 | false =>
  rw [q] at hL
  exact evPos rfl (evCall rfl (evPos (by simp only [List.length_nil]; simp at hL; simp; omega) (last _ (by simp))))
def Rdr (s : List Int) (p : Int) : Prop := s.length ≤ 2000 ∧ (∀ x ∈ s, 0 ≤ x ∧ x ≤ 255) ∧ 0 ≤ p ∧ p ≤ 1000000000000
theorem Rdr.at_ {s : List Int} {p : Int} (h : Rdr s p) (q : Int) (h0 : 0 ≤ q) (h1 : q ≤ 1000000000000) : Rdr s q := ⟨h.1, h.2.1, h0, h1⟩
theorem rd_range {s : List Int} (h : ∀ x ∈ s, 0 ≤ x ∧ x ≤ 255) (i : Int) : 0 ≤ rd s i ∧ rd s i ≤ 255 := by
 unfold rd
 rw [List.getD_eq_getElem?_getD]
 by_cases c : i.toNat < s.length
 ·rw [List.getElem?_eq_getElem c]
  exact h _ (List.getElem_mem c)
 ·rw [List.getElem?_eq_none (by omega)]
  simp
def pickY (a b p q : Int) : Int := wrap64 (wrap64 (wrap64 (wrap64 (wrap64 a * 131) + wrap64 (wrap64 b * 1117)) + wrap64 (p * 29)) + wrap64 (wrap64 q * 53))
def pickX (a b p q : Int) : Int := Go.bits .xor .i64 (pickY a b p q) (wrap64 (Int.tdiv (pickY a b p q) 64))
theorem pickX_pos (a b p q : Int) (ha : 0 ≤ a ∧ a ≤ 255) (hb : 0 ≤ b ∧ b ≤ 255) (h0 : 0 ≤ p) (h1 : p ≤ 1000000000000) (q0 : 0 ≤ q) (q1 : q ≤ p) : 0 ≤ pickX a b p q := by
 have e : pickY a b p q = a * 131 + b * 1117 + p * 29 + q * 53 := by
  unfold pickY
  rw [w6 (n := a), w6 (n := b), w6 (n := a * 131), w6 (n := b * 1117), w6 (n := p * 29), w6 (n := q), w6 (n := q * 53), w6 (n := a * 131 + b * 1117), w6 (n := a * 131 + b * 1117 + p * 29), w6 (n := a * 131 + b * 1117 + p * 29 + q * 53)]
 unfold pickX
 rw [e]
 have x0 : 0 ≤ a * 131 + b * 1117 + p * 29 + q * 53 := by omega
 have x1 : a * 131 + b * 1117 + p * 29 + q * 53 < 4611686018427387904 := by omega
 generalize a * 131 + b * 1117 + p * 29 + q * 53 = x at *
 have t0 := Int.tdiv_nonneg x0 (show (0 : Int) ≤ 64 from by omega)
 have t1 : Int.tdiv x 64 ≤ x := Int.tdiv_le_self 64 x0
 rw [w6 (n := Int.tdiv x 64)]
 exact xor_small x (Int.tdiv x 64) x0 x1 t0 (by omega)
theorem pick_ev {s : List Int} {p : Int} (h : Rdr s p) (n : Int) (hn : n ≤ 1000000000000000) : ∃ v, Ev (fun k => spec_l1Rd_pick.f k s p n) (v, p + 1) ∧ 0 ≤ v ∧ (v < n ∨ v = 0) := by
 obtain ⟨hl, hb, hp0, hp1⟩ := h
 have hr := rd_range hb
 unfold spec_l1Rd_pick.f
 rw [w6 (n := p + 1)]
 by_cases c : n < 1
 ·exact ⟨0, evPos c (Ev.step (fun k => spec_l1Rd_pick.j0.eq_2 _ _ _ _ _) (evPos rfl (Ev.now _))), by omega, .inr rfl⟩
 by_cases e : s.length = 0
 ·exact ⟨0, evNeg c (Ev.step (fun k => spec_l1Rd_pick.j0.eq_2 _ _ _ _ _) (evPos (by simp [e]) (Ev.now _))), by omega, .inr rfl⟩
 have hlen : 0 < (s.length : Int) := by omega
 have wr (i : Int) : wrap64 (rd s i) = rd s i := w64 (by have := (hr i).1; omega) (by have := (hr i).2; omega)
 by_cases c2 : p < (s.length : Int)
 ·have h1 := hr p
  refine ⟨Int.tmod (rd s p) n, evNeg c (Ev.step (fun k => spec_l1Rd_pick.j0.eq_2 _ _ _ _ _) (evNeg (by simpa using e) ?_)), Int.tmod_nonneg _ h1.1, .inl (Int.tmod_lt_of_pos _ (by omega))⟩
  rw [show p + 1 - 1 = p from by omega, w6 (n := p), wr]
  exact evPos c2 (evPos hp0 (eN (Ev.now _)))
 have m1 := Int.tmod_nonneg (s.length : Int) hp0
 have m2 := Int.tmod_lt_of_pos p hlen
 have m3 := Int.tmod_nonneg (s.length : Int) (show 0 ≤ p * 7 + 3 from by omega)
 have m4 := Int.tmod_lt_of_pos (p * 7 + 3) hlen
 have d1 := Int.tdiv_nonneg hp0 (show 0 ≤ (s.length : Int) from by omega)
 have d2 : Int.tdiv p (s.length : Int) ≤ p := Int.tdiv_le_self (s.length : Int) hp0
 have hz := pickX_pos (rd s (Int.tmod p (s.length : Int))) (rd s (Int.tmod (p * 7 + 3) (s.length : Int))) p (Int.tdiv p (s.length : Int)) (hr _) (hr _) hp0 hp1 d1 d2
 refine ⟨Int.tmod (pickX (rd s (Int.tmod p (s.length : Int))) (rd s (Int.tmod (p * 7 + 3) (s.length : Int))) p (Int.tdiv p (s.length : Int))) n, evNeg c (Ev.step (fun k => spec_l1Rd_pick.j0.eq_2 _ _ _ _ _) (evNeg (by simpa using e) ?_)), Int.tmod_nonneg _ hz, .inl (Int.tmod_lt_of_pos _ (by omega))⟩
 rw [show p + 1 - 1 = p from by omega, w6 (n := p), w6 (n := p * 7), w6 (n := p * 7 + 3)]
 exact evNeg c2 (eN (evPos m1 (evPos m2 (evPos m3 (evPos m4 (eN (Ev.now _)))))))
theorem of_ev {s : List Int} {p : Int} (h : Rdr s p) (l : List ByteArray) (h0 : 0 < l.length) (h1 : l.length ≤ 1000000) : ∃ x ∈ l, Ev (fun k => spec_l1Rd_of.f k s p l) (x, p + 1) := by
 obtain ⟨v, hv, v0, v1⟩ := pick_ev h (l.length : Int) (by omega)
 have v2 : v < (l.length : Int) := by omega
 have hl : v.toNat < l.length := by omega
 refine ⟨l[v.toNat], List.getElem_mem hl, ?_⟩
 unfold spec_l1Rd_of.f
 refine Ev.bind hv (evPos v0 (evPos v2 (evTo (Ev.now _) ?_)))
 simp [rdOf, List.getD_eq_getElem?_getD, List.getElem?_eq_getElem hl]
theorem open_ev (l : List Int) (h : ∀ x ∈ l, (Lit.int .u8 x).wf = true) : ∃ s, spec_l1Open.f l = some (s, 0) ∧ Rdr s 0 := by
 have hb : ∀ x ∈ l, 0 ≤ x ∧ x ≤ 255 := by
  intro x hx
  have := h x hx
  simp [Lit.wf, IntKind.min, IntKind.max, IntKind.signed, IntKind.bits] at this
  omega
 unfold spec_l1Open.f
 by_cases c : (l.length : Int) > 2000
 ·refine ⟨l.take 2000, by rw [if_pos c, if_pos (by omega)], ?_, fun x hx => hb x (List.mem_of_mem_take hx), by omega, by omega⟩
  rw [List.length_take]
  omega
 ·exact ⟨l, by rw [if_neg c], by omega, hb, by omega, by omega⟩
theorem least_spec (a b : Int) : spec_l1Least.f a b = some (min a b) := by
 unfold spec_l1Least.f
 by_cases c : a < b
 ·rw [if_pos c]; congr 1; omega
 ·rw [if_neg c]; congr 1; omega
theorem word13_loop {s : List Int} (d : Nat) : ∀ (x : ByteArray) (n p : Int), Rdr s p → p + d ≤ 1000000000000 → n = d → x.size + 2 * d ≤ 1000000 →
  ∃ r p', Ev (fun k => spec_l13Word.l0 k x n s p) (r, p') ∧ r.size ≤ 12 ∧ p ≤ p' ∧ p' ≤ p + d := by
 induction d with
 | zero =>
  intro x n p h hp hn hx
  refine ⟨x.extract 0 (min x.size 12), p, Ev.step (fun k => spec_l13Word.l0.eq_2 _ _ _ _ _) (eN (evCall (least_spec _ _) ?_)), ?_, by omega, by omega⟩
  ·refine eP (eP (evTo (Ev.now _) ?_))
   congr 3
   omega
  ·rw [size_extract _ _ _ (by omega) (by omega)]
   omega
 | succ d ih =>
  intro x n p h hp hn hx
  have hls : ∀ y ∈ ([(⟨#[97]⟩ : ByteArray), (⟨#[98]⟩ : ByteArray), (⟨#[99]⟩ : ByteArray), (⟨#[97, 98]⟩ : ByteArray), (⟨#[116]⟩ : ByteArray)] : List ByteArray), y.size ≤ 2 := by
   intro y hy
   simp only [List.mem_cons, List.not_mem_nil, or_false] at hy
   rcases hy with rfl | rfl | rfl | rfl | rfl <;> decide
  obtain ⟨y, hy, he⟩ := of_ev h ([(⟨#[97]⟩ : ByteArray), (⟨#[98]⟩ : ByteArray), (⟨#[99]⟩ : ByteArray), (⟨#[97, 98]⟩ : ByteArray), (⟨#[116]⟩ : ByteArray)] : List ByteArray) (by simp) (by simp)
  have hy2 := hls y hy
  obtain ⟨r, p', hr, h1, h2, h3⟩ := ih (x ++ y) (n - 1) (p + 1) (h.at_ _ (by have := h.2.2.1; omega) (by omega)) (by omega) (by omega) (by rw [size_append]; omega)
  refine ⟨r, p', Ev.step (fun k => spec_l13Word.l0.eq_2 _ _ _ _ _) (eP (Ev.bind he (evPos (by dsimp only; omega) ?_))), h1, by omega, by omega⟩
  rw [w6]
  exact hr
theorem word13_ev {s : List Int} {p : Int} (h : Rdr s p) (hp : p ≤ 999999999900) : ∃ r p', Ev (fun k => spec_l13Word.f k s p) (r, p') ∧ r.size ≤ 12 ∧ p ≤ p' ∧ p' ≤ p + 10 := by
 have h0 := h.2.2.1
 obtain ⟨v, hv, v0, v1⟩ := pick_ev h 3 (by omega)
 unfold spec_l13Word.f
 by_cases c : v = 0
 ·obtain ⟨u, hu, u0, u1⟩ := pick_ev (h.at_ (p + 1) (by omega) (by omega)) 5 (by omega)
  obtain ⟨d, hd⟩ := Int.eq_ofNat_of_zero_le (show 0 ≤ 1 + u from by omega)
  obtain ⟨r, p', hr, h1, h2, h3⟩ := word13_loop d (⟨#[]⟩ : ByteArray) (1 + u) (p + 1 + 1) (h.at_ _ (by omega) (by omega)) (by omega) hd (by have : (⟨#[]⟩ : ByteArray).size = 0 := rfl; omega)
  refine ⟨r, p', Ev.bind hv (evPos c (Ev.bind hu ?_)), h1, by omega, by omega⟩
  rw [w64 (by dsimp only; omega) (by dsimp only; omega)]
  exact hr
 ·obtain ⟨y, hy, he⟩ := of_ev (h.at_ (p + 1) (by omega) (by omega)) ([(⟨#[99, 97, 116]⟩ : ByteArray), (⟨#[99, 97, 116, 115]⟩ : ByteArray), (⟨#[97, 99, 116]⟩ : ByteArray), (⟨#[100, 111]⟩ : ByteArray), (⟨#[100, 111, 105, 110, 103]⟩ : ByteArray), (⟨#[103, 111]⟩ : ByteArray), (⟨#[117, 110, 100, 111]⟩ : ByteArray), (⟨#[116, 114, 121]⟩ : ByteArray), (⟨#[116, 114, 105, 101, 115]⟩ : ByteArray), (⟨#[97]⟩ : ByteArray), (⟨#[98, 97, 107, 101]⟩ : ByteArray), (⟨#[98, 97, 107, 105, 110, 103]⟩ : ByteArray), (⟨#[116, 97, 99, 116]⟩ : ByteArray), (⟨#[99, 97, 114, 116]⟩ : ByteArray), (⟨#[97, 98, 99, 97, 98, 99, 97, 98, 99, 97, 98, 99]⟩ : ByteArray)] : List ByteArray) (by simp) (by simp)
  refine ⟨y, p + 1 + 1, Ev.bind hv (evNeg c (Ev.bind he (Ev.now _))), ?_, by omega, by omega⟩
  simp only [List.mem_cons, List.not_mem_nil, or_false] at hy
  rcases hy with rfl | rfl | rfl | rfl | rfl | rfl | rfl | rfl | rfl | rfl | rfl | rfl | rfl | rfl | rfl <;> decide
theorem any13_ev {s : List Int} {p : Int} (h : Rdr s p) (hp : p ≤ 999999999800) : ∃ r p', Ev (fun k => spec_l13AnyWord.f k s p) (r, p') ∧ r.size ≤ 13 ∧ p ≤ p' ∧ p' ≤ p + 11 := by
 have h0 := h.2.2.1
 obtain ⟨v, hv, v0, v1⟩ := pick_ev h 16 (by omega)
 unfold spec_l13AnyWord.f
 by_cases c : v = 0
 ·obtain ⟨y, hy, he⟩ := of_ev (h.at_ (p + 1) (by omega) (by omega)) ([(⟨#[]⟩ : ByteArray), (⟨#[67, 97, 116]⟩ : ByteArray), (⟨#[97, 32, 98]⟩ : ByteArray), (⟨#[97, 98, 99, 97, 98, 99, 97, 98, 99, 97, 98, 99, 97]⟩ : ByteArray), (⟨#[120, 49]⟩ : ByteArray), (⟨#[45]⟩ : ByteArray)] : List ByteArray) (by simp) (by simp)
  refine ⟨y, p + 1 + 1, Ev.bind hv (evPos c (Ev.bind he (Ev.now _))), ?_, by omega, by omega⟩
  simp only [List.mem_cons, List.not_mem_nil, or_false] at hy
  rcases hy with rfl | rfl | rfl | rfl | rfl | rfl <;> decide
 ·obtain ⟨r, p', hr, h1, h2, h3⟩ := word13_ev (h.at_ (p + 1) (by omega) (by omega)) (by omega)
  exact ⟨r, p', Ev.bind hv (evNeg c (Ev.bind hr (Ev.now _))), by omega, by omega, by omega⟩
abbrev AfZ (a : Af) : Prop := a.f0.size ≤ 13 ∧ a.f2.size ≤ 13 ∧ a.f3.size ≤ 13 ∧ a.f4.size ≤ 13
abbrev AfY (a : Af) : Prop := AfZ a ∧ affOk a.f0 a.f1 a.f2 a.f3 a.f4 = true
abbrev EnZ (e : En) : Prop := e.f0.size ≤ 13 ∧ e.f1.size ≤ 5
theorem affix13_ev {s : List Int} {p : Int} (h : Rdr s p) : ∃ g fr st ad wh, Ev (fun k => spec_l13Affix.f k s p) (g, fr, st, ad, wh, p + 1) ∧ AfY ⟨g, fr, st, ad, wh⟩ := by
 unfold spec_l13Affix.f AfY AfZ
 obtain ⟨v, hv, v0, v1⟩ := pick_ev h 8 (by omega)
 have hs : v = 0 ∨ v = 1 ∨ v = 2 ∨ v = 3 ∨ v = 4 ∨ v = 5 ∨ v = 6 ∨ v = 7 := by omega
 refine ⟨_, _, _, _, _, evCall rfl (Ev.bind hv (evPos v0 (evPos (by simp only [List.length]; omega) (Ev.now _)))), ?_⟩
 rcases hs with rfl | rfl | rfl | rfl | rfl | rfl | rfl | rfl <;> exact ⟨by dsimp only; decide, by dsimp only; decide⟩
theorem anyAffix_ev {s : List Int} {p : Int} (h : Rdr s p) (hp : p ≤ 999999999000) : ∃ g fr st ad wh p', Ev (fun k => spec_l13AnyAffix.f k s p) (g, fr, st, ad, wh, p') ∧ AfZ ⟨g, fr, st, ad, wh⟩ ∧ p ≤ p' ∧ p' ≤ p + 10 := by
 have h0 := h.2.2.1
 obtain ⟨g, fr, st, ad, wh, he, ⟨z0, z1, z2, z3⟩, _⟩ := affix13_ev h
 obtain ⟨v, hv, v0, v1⟩ := pick_ev (h.at_ (p + 1) (by omega) (by omega)) 12 (by omega)
 have h2 := h.at_ (p + 1 + 1) (by omega) (by omega)
 unfold spec_l13AnyAffix.f
 by_cases c0 : v = 0
 ·obtain ⟨y, hy, hy2⟩ := of_ev h2 ([(⟨#[]⟩ : ByteArray), (⟨#[115]⟩ : ByteArray), (⟨#[65, 66]⟩ : ByteArray), (⟨#[90]⟩ : ByteArray)] : List ByteArray) (by simp) (by simp)
  refine ⟨y, fr, st, ad, wh, p + 1 + 1 + 1, Ev.bind he (Ev.bind hv (evPos c0 (Ev.bind hy2 (Ev.now _)))), ⟨?_, z1, z2, z3⟩, by omega, by omega⟩
  simp only [List.mem_cons, List.not_mem_nil, or_false] at hy
  rcases hy with rfl | rfl | rfl | rfl <;> (dsimp only; decide)
 by_cases c1 : v = 1
 ·obtain ⟨y, hy, hy2⟩ := of_ev h2 ([(⟨#[121]⟩ : ByteArray), (⟨#[97, 98, 99, 100, 101]⟩ : ByteArray), (⟨#[]⟩ : ByteArray), (⟨#[89]⟩ : ByteArray)] : List ByteArray) (by simp) (by simp)
  refine ⟨g, fr, y, ad, wh, p + 1 + 1 + 1, Ev.bind he (Ev.bind hv (evNeg c0 (evPos c1 (Ev.bind hy2 (Ev.now _))))), ⟨z0, ?_, z2, z3⟩, by omega, by omega⟩
  simp only [List.mem_cons, List.not_mem_nil, or_false] at hy
  rcases hy with rfl | rfl | rfl | rfl <;> (dsimp only; decide)
 by_cases c2 : v = 2
 ·obtain ⟨y, hy, hy2⟩ := of_ev h2 ([(⟨#[121]⟩ : ByteArray), (⟨#[116, 121]⟩ : ByteArray), (⟨#[97, 98, 99, 100, 101]⟩ : ByteArray), (⟨#[]⟩ : ByteArray)] : List ByteArray) (by simp) (by simp)
  refine ⟨g, fr, st, ad, y, p + 1 + 1 + 1, Ev.bind he (Ev.bind hv (evNeg c0 (evNeg c1 (evPos c2 (Ev.bind hy2 (Ev.now _)))))), ⟨z0, z1, z2, ?_⟩, by omega, by omega⟩
  simp only [List.mem_cons, List.not_mem_nil, or_false] at hy
  rcases hy with rfl | rfl | rfl | rfl <;> (dsimp only; decide)
 by_cases c3 : v = 3
 ·exact ⟨g, !fr, st, ad, wh, p + 1 + 1, Ev.bind he (Ev.bind hv (evNeg c0 (evNeg c1 (evNeg c2 (evPos c3 (Ev.now _)))))), ⟨z0, z1, z2, z3⟩, by omega, by omega⟩
 ·exact ⟨g, fr, st, ad, wh, p + 1 + 1, Ev.bind he (Ev.bind hv (evNeg c0 (evNeg c1 (evNeg c2 (evNeg c3 (Ev.now _)))))), ⟨z0, z1, z2, z3⟩, by omega, by omega⟩
theorem entry13_ev {s : List Int} {p : Int} (h : Rdr s p) (w : ByteArray) : ∃ fl, Ev (fun k => spec_l13Entry.f k s p w) (w, fl, p + 1) ∧ fl.size ≤ 5 := by
 obtain ⟨y, hy, he⟩ := of_ev h ([(⟨#[]⟩ : ByteArray), (⟨#[]⟩ : ByteArray), (⟨#[83]⟩ : ByteArray), (⟨#[71, 83]⟩ : ByteArray), (⟨#[85]⟩ : ByteArray), (⟨#[71, 85]⟩ : ByteArray), (⟨#[82]⟩ : ByteArray), (⟨#[84]⟩ : ByteArray), (⟨#[67, 82, 83, 85]⟩ : ByteArray)] : List ByteArray) (by simp) (by simp)
 unfold spec_l13Entry.f
 refine ⟨y, Ev.bind he (Ev.now _), ?_⟩
 simp only [List.mem_cons, List.not_mem_nil, or_false] at hy
 rcases hy with rfl | rfl | rfl | rfl | rfl | rfl | rfl | rfl | rfl <;> decide
theorem affixes_known (s : List Int) (p : Int) (out : List Af) (n : Int) (g : ByteArray) (fr : Bool) (st ad wh : ByteArray) (hl : out.length ≤ 1000) (d : Nat) : ∀ (i : Nat) (b : Bool), i + d = out.length →
  ∃ c : Bool, ∀ r, Ev (fun k => if c = true then spec_l13Affixes.l0 k out (wrap64 (n - 1)) s p else spec_l13Affixes.l0 k (out ++ [⟨g, fr, st, ad, wh⟩]) (wrap64 (n - 1)) s p) r → Ev (fun k => spec_l13Affixes.l1 k out n b (i : Int) s p g fr st ad wh) r := by
 induction d with
 | zero =>
  intro i b hi
  refine ⟨b, fun r hr => Ev.step (fun k => spec_l13Affixes.l1.eq_2 ..) (eN ?_)⟩
  cases b with
  | true => exact evPos rfl (by simpa using hr)
  | false => exact evNeg (by simp) (eP (by simpa using hr))
 | succ d ih =>
  intro i b hi
  have e : wrap64 ((i : Int) + 1) = ((i + 1 : Nat) : Int) := w6
  cases b with
  | true =>
   obtain ⟨c, hc⟩ := ih (i + 1) true (by omega)
   refine ⟨c, fun r hr => Ev.step (fun k => spec_l13Affixes.l1.eq_2 ..) (eP (evPos rfl ?_))⟩
   rw [e]
   exact hc r hr
  | false =>
   obtain ⟨c, hc⟩ := ih (i + 1) _ (by omega)
   refine ⟨c, fun r hr => Ev.step (fun k => spec_l13Affixes.l1.eq_2 ..) (eP (evNeg (by simp) (eP ?_)))⟩
   rw [e]
   exact hc r hr
theorem affixes_loop {s : List Int} (d : Nat) : ∀ (out : List Af) (n p : Int), Rdr s p → p + d ≤ 1000000000000 → n = d → out.length + d ≤ 4 → (∀ a ∈ out, AfY a) →
  ∃ A p', Ev (fun k => spec_l13Affixes.l0 k out n s p) (A, p') ∧ A.length ≤ 4 ∧ (∀ a ∈ A, AfY a) ∧ p ≤ p' ∧ p' ≤ p + d := by
 induction d with
 | zero =>
  intro out n p h hp hn hl hz
  exact ⟨out, p, Ev.step (fun k => spec_l13Affixes.l0.eq_2 ..) (eN (Ev.now _)), by omega, hz, by omega, by omega⟩
 | succ d ih =>
  intro out n p h hp hn hl hz
  have h0 := h.2.2.1
  obtain ⟨g, fr, st, ad, wh, he, hg⟩ := affix13_ev h
  obtain ⟨c, hc⟩ := affixes_known s (p + 1) out n g fr st ad wh (by omega) out.length 0 false (by omega)
  have hr : Rdr s (p + 1) := h.at_ _ (by omega) (by omega)
  have ew : wrap64 (n - 1) = n - 1 := w6
  rw [ew] at hc
  cases c with
  | true =>
   obtain ⟨A, p', h1, h2, h3, h4, h5⟩ := ih out (n - 1) (p + 1) hr (by omega) (by omega) (by omega) hz
   exact ⟨A, p', Ev.step (fun k => spec_l13Affixes.l0.eq_2 ..) (eP (Ev.bind he (hc _ (by simpa using h1)))), h2, h3, by omega, by omega⟩
  | false =>
   obtain ⟨A, p', h1, h2, h3, h4, h5⟩ := ih (out ++ [⟨g, fr, st, ad, wh⟩]) (n - 1) (p + 1) hr (by omega) (by omega) (by simp; omega) (fun a ha => by
    rcases List.mem_append.1 ha with ha | ha
    ·exact hz a ha
    ·rw [List.mem_singleton.1 ha]
     exact hg)
   exact ⟨A, p', Ev.step (fun k => spec_l13Affixes.l0.eq_2 ..) (eP (Ev.bind he (hc _ (by simpa using h1)))), h2, h3, by omega, by omega⟩
theorem affixes13_ev {s : List Int} {p : Int} (h : Rdr s p) (hp : p ≤ 999999999000) : ∃ A p', Ev (fun k => spec_l13Affixes.f k s p) (A, p') ∧ A.length ≤ 4 ∧ (∀ a ∈ A, AfY a) ∧ p ≤ p' ∧ p' ≤ p + 5 := by
 have h0 := h.2.2.1
 obtain ⟨v, hv, v0, v1⟩ := pick_ev h 5 (by omega)
 obtain ⟨d, hd⟩ := Int.eq_ofNat_of_zero_le v0
 have hd4 : d ≤ 4 := by
  rcases v1 with v1 | v1 <;> omega
 obtain ⟨A, p', h1, h2, h3, h4, h5⟩ := affixes_loop (s := s) d [] v (p + 1) (h.at_ _ (by omega) (by omega)) (by omega) hd (by simpa using hd4) (by simp)
 unfold spec_l13Affixes.f
 exact ⟨A, p', Ev.bind hv h1, h2, h3, by omega, by omega⟩
theorem nodup_le {α : Type} [DecidableEq α] : ∀ (l k : List α), l.Nodup → (∀ x ∈ l, x ∈ k) → l.length ≤ k.length
 | [], _, _, _ => by simp
 | x :: l, k, hn, hs => by
  have hx := hs x (by simp)
  have hn' := List.nodup_cons.1 hn
  have := nodup_le l (k.erase x) hn'.2 (fun y hy => by
   have hne : y ≠ x := fun e => hn'.1 (e ▸ hy)
   exact (List.mem_erase_of_ne hne).2 (hs y (by simp [hy])))
  rw [List.length_erase_of_mem hx] at this
  have : 0 < k.length := List.length_pos_of_mem hx
  rw [List.length_cons]
  omega
def fillW (j : Nat) : ByteArray := (⟨#[119]⟩ : ByteArray) ++ strOfNums [(wrap64 (97 + (j : Int))) % 256]
theorem fillW_size (j : Nat) : (fillW j).size = 2 := by
 unfold fillW
 rw [size_append]
 rfl
theorem fillW_inj {i j : Nat} (hi : i < 24) (hj : j < 24) (h : fillW i = fillW j) : i = j := by
 have hb : ∀ n : Nat, n < 24 → (fillW n).data.toList = [119, UInt8.ofNat (97 + n)] := by
  intro n hn
  unfold fillW
  rw [w6, show ((97 + (n : Int)) % 256) = ((97 + n : Nat) : Int) from by omega]
  rw [ByteArray.data_append, Array.toList_append]
  show [119] ++ [UInt8.ofNat ((97 + n : Nat) : Int).toNat] = _
  rw [Int.toNat_natCast]
  rfl
 have h1 := hb i hi
 rw [h, hb j hj] at h1
 simp only [List.cons.injEq, true_and, and_true] at h1
 have h2 := congrArg UInt8.toNat h1
 simp only [UInt8.toNat_ofNat'] at h2
 omega
abbrev WZ (ws : List ByteArray) : Prop := ∀ w ∈ ws, w.size ≤ 13
theorem putL_WZ {ws : List ByteArray} {w : ByteArray} (h : WZ ws) (hw : w.size ≤ 13) : WZ (putL ws w) := by
 intro x hx
 rcases (putL_mem ws w x).1 hx with hx | hx
 ·exact h x hx
 ·rw [hx]
  exact hw
theorem ents_draw {s : List Int} (A : List Af) (ws : List ByteArray) (hl : ws.length ≤ 100) (hz : WZ ws) (d : Nat) : ∀ (i : Nat) (E : List En) (p : Int), i + d = ws.length → Rdr s p → p + d ≤ 1000000000000 → E.length = i → (∀ e ∈ E, EnZ e) →
  ∃ E' p', Ev (fun k => spec_l13Book.l2 k ws (i : Int) s p A E) (A, E', p') ∧ E'.length = ws.length ∧ (∀ e ∈ E', EnZ e) ∧ p ≤ p' ∧ p' ≤ p + d := by
 induction d with
 | zero =>
  intro i E p hi h hp hE he
  exact ⟨E, p, Ev.step (fun k => spec_l13Book.l2.eq_2 ..) (eN (Ev.now _)), by omega, he, by omega, by omega⟩
 | succ d ih =>
  intro i E p hi h hp hE he
  have h0 := h.2.2.1
  have hlt : i < ws.length := by omega
  obtain ⟨fl, hf, hf2⟩ := entry13_ev h ws[i]
  obtain ⟨E', p', h1, h2, h3, h4, h5⟩ := ih (i + 1) (E ++ [⟨ws[i], fl⟩]) (p + 1) (by omega) (h.at_ _ (by omega) (by omega)) (by omega) (by simp [hE]) (fun e he' => by
   rcases List.mem_append.1 he' with he' | he'
   ·exact he e he'
   ·rw [List.mem_singleton.1 he']
    exact ⟨hz _ (List.getElem_mem hlt), hf2⟩)
  refine ⟨E', p', Ev.step (fun k => spec_l13Book.l2.eq_2 ..) (eP (eP ?_)), h2, h3, by omega, by omega⟩
  rw [ba_get ws i hlt, w6 (n := (i : Int) + 1)]
  exact Ev.bind hf (evPos (by omega) h1)
theorem fill_loop {s : List Int} {p : Int} (A : List Af) {Q : List En → Int → Prop} (fin : ∀ ws : List ByteArray, ws.length ≤ 24 → WZ ws → ∃ E p', Ev (fun k => spec_l13Book.j2 k ws s p A) (A, E, p') ∧ Q E p') (d : Nat) : ∀ (j : Nat) (ws : List ByteArray), j + d = 24 → ws.length ≤ 24 → WZ ws → (∀ i, i < j → fillW i ∈ ws) →
  ∃ E p', Ev (fun k => spec_l13Book.l1 k ws (j : Int) s p A) (A, E, p') ∧ Q E p' := by
 have out : ∀ (j : Nat) (ws : List ByteArray), ¬ (ws.length : Int) < 24 → ws.length ≤ 24 → WZ ws → ∃ E p', Ev (fun k => spec_l13Book.l1 k ws (j : Int) s p A) (A, E, p') ∧ Q E p' := by
  intro j ws h1 h2 h3
  obtain ⟨E, p', h4, h5⟩ := fin ws (by omega) h3
  exact ⟨E, p', Ev.step (fun k => spec_l13Book.l1.eq_2 ..) (evNeg h1 h4), h5⟩
 induction d with
 | zero =>
  intro j ws hj hl hz hin
  refine out j ws ?_ hl hz
  have := nodup_le ((List.range 24).map fillW) ws (by
   rw [List.nodup_iff_pairwise_ne, List.pairwise_map]
   refine (List.nodup_range (n := 24)).imp_of_mem ?_
   intro a b ha hb hne e
   exact hne (fillW_inj (List.mem_range.1 ha) (List.mem_range.1 hb) e)) (fun x hx => by
    obtain ⟨i, hi, rfl⟩ := List.mem_map.1 hx
    exact hin i (by have := List.mem_range.1 hi; omega))
  simp only [List.length_map, List.length_range] at this
  omega
 | succ d ih =>
  intro j ws hj hl hz hin
  by_cases c : (ws.length : Int) < 24
  ·have hp := (putL_length ws (fillW j)).2
   obtain ⟨E, p', h4, h5⟩ := ih (j + 1) (putL ws (fillW j)) (by omega) (by omega) (putL_WZ hz (by rw [fillW_size]; omega)) (fun i hi => (putL_mem ws (fillW j) _).2 (by
    by_cases e : i = j
    ·exact .inr (by rw [e])
    ·exact .inl (hin i (by omega))))
   refine ⟨E, p', Ev.step (fun k => spec_l13Book.l1.eq_2 ..) (evPos c (evCall rfl (evPos ?_ (Ev.bind (put_ev ws (fillW j) (by omega)) ?_)))), h5⟩
   ·show 1 + (strOfNums [_]).size ≤ 9223372036854775807
    have : (strOfNums [(wrap64 (97 + (j : Int))) % 256]).size = 1 := rfl
    omega
   ·rw [w6 (n := (j : Int) + 1)]
    exact h4
  ·exact out j ws c hl hz
theorem book_words {s : List Int} (A : List Af) (d : Nat) : ∀ (ws : List ByteArray) (n p : Int), Rdr s p → p + 100 + 11 * d ≤ 999999999000 → n = d → ws.length + d ≤ 24 → WZ ws →
  ∃ E p', Ev (fun k => spec_l13Book.l0 k ws n s p A) (A, E, p') ∧ (E.length ≤ 24 ∧ (∀ e ∈ E, EnZ e)) ∧ p ≤ p' ∧ p' ≤ p + 200 + 11 * d := by
 induction d with
 | zero =>
  intro ws n p h hp hn hl hz
  have h0 := h.2.2.1
  obtain ⟨v, hv, v0, v1⟩ := pick_ev h 30 (by omega)
  have hr := h.at_ (p + 1) (by omega) (by omega)
  have fin : ∀ ws : List ByteArray, ws.length ≤ 24 → WZ ws → ∃ E p', Ev (fun k => spec_l13Book.j2 k ws s (p + 1) A) (A, E, p') ∧ (E.length ≤ 24 ∧ (∀ e ∈ E, EnZ e)) ∧ p ≤ p' ∧ p' ≤ p + 200 := by
   intro ws hl hz
   obtain ⟨E, p', h1, h2, h3, h4, h5⟩ := ents_draw (s := s) A ws (by omega) hz ws.length 0 [] (p + 1) (by omega) hr (by omega) rfl (by simp)
   exact ⟨E, p', Ev.step (fun k => spec_l13Book.j2.eq_2 ..) h1, ⟨by omega, h3⟩, by omega, by omega⟩
  by_cases c : v = 0
  ·have fin' : ∀ ws : List ByteArray, ws.length ≤ 24 → WZ ws → ∃ E p', Ev (fun k => spec_l13Book.j2 k ws s (p + 1) A) (A, E, p') ∧ ((E.length ≤ 24 ∧ (∀ e ∈ E, EnZ e)) ∧ p ≤ p' ∧ p' ≤ p + 200) := fin
   obtain ⟨E, p', h1, h2⟩ := fill_loop A fin' 24 0 ws (by omega) (by omega) hz (fun i hi => absurd hi (by omega))
   exact ⟨E, p', Ev.step (fun k => spec_l13Book.l0.eq_2 ..) (eN (Ev.bind hv (evPos c h1))), h2.1, h2.2.1, by have := h2.2.2; omega⟩
  ·obtain ⟨E, p', h1, h2, h3, h4⟩ := fin ws (by omega) hz
   exact ⟨E, p', Ev.step (fun k => spec_l13Book.l0.eq_2 ..) (eN (Ev.bind hv (evNeg c h1))), h2, h3, by omega⟩
 | succ d ih =>
  intro ws n p h hp hn hl hz
  have h0 := h.2.2.1
  obtain ⟨w, p1, hw, w1, w2, w3⟩ := word13_ev h (by omega)
  have hp2 := (putL_length ws w).2
  obtain ⟨E, p', h1, h2, h3, h4⟩ := ih (putL ws w) (n - 1) p1 (h.at_ _ (by omega) (by omega)) (by omega) (by omega) (by omega) (putL_WZ hz (by omega))
  refine ⟨E, p', Ev.step (fun k => spec_l13Book.l0.eq_2 ..) (eP (Ev.bind hw (Ev.bind (put_ev ws w (by omega)) ?_))), h2, by omega, by omega⟩
  rw [w6 (n := n - 1)]
  exact h1
theorem book13_ev {s : List Int} {p : Int} (h : Rdr s p) (hp : p ≤ 999999998000) : ∃ A E p', Ev (fun k => spec_l13Book.f k s p) (A, E, p') ∧ (A.length ≤ 4 ∧ (∀ a ∈ A, AfY a)) ∧ (E.length ≤ 24 ∧ (∀ e ∈ E, EnZ e)) ∧ p ≤ p' ∧ p' ≤ p + 300 := by
 have h0 := h.2.2.1
 obtain ⟨A, p1, h1, h2, h3, h4, h5⟩ := affixes13_ev h (by omega)
 have hr1 := h.at_ p1 (by omega) (by omega)
 obtain ⟨v, hv, v0, v1⟩ := pick_ev hr1 7 (by omega)
 obtain ⟨d, hd⟩ := Int.eq_ofNat_of_zero_le v0
 have hd6 : d ≤ 6 := by
  rcases v1 with v1 | v1 <;> omega
 obtain ⟨E, p', k1, k2, k3, k4⟩ := book_words (s := s) A d [] v (p1 + 1) (h.at_ _ (by omega) (by omega)) (by omega) hd (by simp; omega) (fun w hw => by cases hw)
 unfold spec_l13Book.f
 exact ⟨A, E, p', Ev.bind h1 (Ev.bind hv k1), ⟨h2, h3⟩, k2, by omega, by omega⟩
theorem anyBook_ev {s : List Int} {p : Int} (h : Rdr s p) (hp : p ≤ 999999997000) : ∃ A E p', Ev (fun k => spec_l13AnyBook.f k s p) (A, E, p') ∧ (A.length ≤ 5 ∧ (∀ a ∈ A, AfZ a)) ∧ (E.length ≤ 25 ∧ (∀ e ∈ E, EnZ e)) ∧ p ≤ p' ∧ p' ≤ p + 400 := by
 have h0 := h.2.2.1
 obtain ⟨A, E, p1, h1, ⟨a1, a2⟩, ⟨e1, e2⟩, h4, h5⟩ := book13_ev h (by omega)
 obtain ⟨v, hv, v0, v1⟩ := pick_ev (h.at_ p1 (by omega) (by omega)) 16 (by omega)
 have hr := h.at_ (p1 + 1) (by omega) (by omega)
 unfold spec_l13AnyBook.f
 by_cases c0 : v = 0
 ·obtain ⟨g, fr, st, ad, wh, p2, hg, hz, q1, q2⟩ := anyAffix_ev hr (by omega)
  refine ⟨A ++ [⟨g, fr, st, ad, wh⟩], E, p2, Ev.bind h1 (Ev.bind hv (evPos c0 (Ev.bind hg (evPos (by dsimp only; omega) (Ev.now _))))), ⟨by simp; omega, fun a ha => ?_⟩, ⟨by omega, e2⟩, by omega, by omega⟩
  rcases List.mem_append.1 ha with ha | ha
  ·exact (a2 a ha).1
  ·rw [List.mem_singleton.1 ha]
   exact hz
 by_cases c1 : v = 1
 ·obtain ⟨w, p2, hw, hz, q1, q2⟩ := any13_ev hr (by omega)
  obtain ⟨y, hy, he⟩ := of_ev (h.at_ p2 (by omega) (by omega)) ([(⟨#[]⟩ : ByteArray), (⟨#[83, 71]⟩ : ByteArray), (⟨#[115]⟩ : ByteArray), (⟨#[65, 66, 67, 68, 69]⟩ : ByteArray)] : List ByteArray) (by simp) (by simp)
  refine ⟨A, E ++ [⟨w, y⟩], p2 + 1, Ev.bind h1 (Ev.bind hv (evNeg c0 (evPos c1 (Ev.bind hw (Ev.bind he (evPos (by dsimp only; omega) (Ev.now _))))))), ⟨by omega, fun a ha => (a2 a ha).1⟩, ⟨by simp; omega, fun e he' => ?_⟩, by omega, by omega⟩
  rcases List.mem_append.1 he' with he' | he'
  ·exact e2 e he'
  ·rw [List.mem_singleton.1 he']
   refine ⟨hz, ?_⟩
   simp only [List.mem_cons, List.not_mem_nil, or_false] at hy
   rcases hy with rfl | rfl | rfl | rfl <;> (dsimp only; decide)
 by_cases c2 : v = 2
 ·by_cases c3 : (E.length : Int) > 0
  ·obtain ⟨y, hy, he⟩ := of_ev hr ([(⟨#[]⟩ : ByteArray), (⟨#[122, 122]⟩ : ByteArray), (⟨#[65]⟩ : ByteArray)] : List ByteArray) (by simp) (by simp)
   have hlt : 0 < E.length := by omega
   refine ⟨A, E.set (0 : Int).toNat ⟨y, (rd_T66 E 0).f1⟩, p1 + 1 + 1, Ev.bind h1 (Ev.bind hv (evNeg c0 (evNeg c1 (evPos c2 (evPos c3 (Ev.bind he (evPos (by dsimp only; omega) (Ev.now _)))))))), ⟨by omega, fun a ha => (a2 a ha).1⟩, ⟨by simp; omega, fun e he' => ?_⟩, by omega, by omega⟩
   rcases List.mem_or_eq_of_mem_set he' with he' | he'
   ·exact e2 e he'
   ·rw [he']
    have e0 : rd_T66 E 0 = E[0] := by simp [rd_T66, List.getD_eq_getElem?_getD, hlt]
    rw [e0]
    refine ⟨?_, (e2 _ (List.getElem_mem hlt)).2⟩
    simp only [List.mem_cons, List.not_mem_nil, or_false] at hy
    rcases hy with rfl | rfl | rfl <;> (dsimp only; decide)
  ·exact ⟨A, E, p1 + 1, Ev.bind h1 (Ev.bind hv (evNeg c0 (evNeg c1 (evPos c2 (evNeg c3 (Ev.now _)))))), ⟨by omega, fun a ha => (a2 a ha).1⟩, ⟨by omega, e2⟩, by omega, by omega⟩
 ·exact ⟨A, E, p1 + 1, Ev.bind h1 (Ev.bind hv (evNeg c0 (evNeg c1 (evNeg c2 (Ev.now _))))), ⟨by omega, fun a ha => (a2 a ha).1⟩, ⟨by omega, e2⟩, by omega, by omega⟩
theorem bkSz_of {A : List Af} {E : List En} (ha : A.length ≤ 5) (hz : ∀ a ∈ A, AfZ a) (he : E.length ≤ 25) (hy : ∀ e ∈ E, EnZ e) : BkSz A E := by
 refine ⟨by omega, by omega, fun s hs => ?_, fun s hs => ?_⟩
 ·have := hz s hs
  unfold AfZ at this
  omega
 ·have := hy s hs
  unfold EnZ at this
  omega
theorem md1_loop (A : List Af) (E : List En) (hl : E.length ≤ 10000000) (d : Nat) : ∀ i : Nat, i + d = E.length → Ev (fun k => laws_mdBook.l1 k (i : Int) A E A E) true := by
 induction d with
 | zero =>
  intro i hi
  exact Ev.step (fun k => laws_mdBook.l1.eq_2 _ _ _ _ _ _) (eN (Ev.now _))
 | succ d ih =>
  intro i hi
  refine Ev.step (fun k => laws_mdBook.l1.eq_2 _ _ _ _ _ _) (eP (eP (eP (evNeg (by simp) ?_))))
  rw [w6]
  exact ih (i + 1) (by omega)
theorem md0_loop (A : List Af) (E : List En) (ha : A.length ≤ 10000000) (hl : E.length ≤ 10000000) (d : Nat) : ∀ i : Nat, i + d = A.length → Ev (fun k => laws_mdBook.l0 k (i : Int) A E A E) true := by
 induction d with
 | zero =>
  intro i hi
  exact Ev.step (fun k => laws_mdBook.l0.eq_2 _ _ _ _ _ _) (eN (md1_loop A E hl E.length 0 (by omega)))
 | succ d ih =>
  intro i hi
  refine Ev.step (fun k => laws_mdBook.l0.eq_2 _ _ _ _ _ _) (eP (eP (eP (evNeg (by simp) ?_))))
  rw [w6]
  exact ih (i + 1) (by omega)
theorem mdBk_ev (A : List Af) (E : List En) (ha : A.length ≤ 10000000) (hl : E.length ≤ 10000000) : Ev (fun k => laws_mdBook.f k A E A E) true := by
 unfold laws_mdBook.f
 exact evPos rfl (Ev.step (fun k => laws_mdBook.j0.eq_2 _ _ _ _ _ _) (evNeg (by simp) (md0_loop A E ha hl A.length 0 (by omega))))
theorem mdTexts_loop (l : List ByteArray) (hl : l.length ≤ 10000000) (d : Nat) : ∀ i : Nat, i + d = l.length → Ev (fun k => laws_mdTexts.l0 k l l (i : Int)) true := by
 induction d with
 | zero =>
  intro i hi
  exact Ev.step (fun k => laws_mdTexts.l0.eq_2 _ _ _ _) (eN (Ev.now _))
 | succ d ih =>
  intro i hi
  refine Ev.step (fun k => laws_mdTexts.l0.eq_2 _ _ _ _) (eP (eP (eP (evPos rfl ?_))))
  rw [w6]
  exact ih (i + 1) (by omega)
theorem mdTexts_ev (l : List ByteArray) (hl : l.length ≤ 10000000) : Ev (fun k => laws_mdTexts.f k l l) true := by
 unfold laws_mdTexts.f
 exact evPos rfl (mdTexts_loop l hl l.length 0 (by omega))
theorem deltaV_len (A1 : List Af) (E1 : List En) (A2 : List Af) (E2 : List En) : (deltaV A1 E1 A2 E2).1.length ≤ 24 ∧ (deltaV A1 E1 A2 E2).2.1.length ≤ 24 ∧ (deltaV A1 E1 A2 E2).2.2.2.length ≤ 8 := by
 by_cases h : bookB A1 E1 = true ∧ bookB A2 E2 = true
 ·rw [deltaV_ok h.1 h.2]
  obtain ⟨la1, le1⟩ := bookB_len h.1
  obtain ⟨la2, le2⟩ := bookB_len h.2
  refine ⟨?_, Nat.le_trans (List.length_filter_le _ _) le2, ?_⟩
  ·show (goesOf E1 E2).length ≤ 24
   unfold goesOf
   rw [List.length_map]
   exact Nat.le_trans (List.length_filter_le _ _) le1
  ·show (if eqAs A1 A2 = true then ([] : List Af) else A2).length ≤ 8
   split
   ·simp
   ·exact la2
 ·rw [deltaV_no h]
  simp
theorem drawDeltaOf_ev (l : List Int) (hw : ∀ x ∈ l, (Lit.int .u8 x).wf = true) : ∃ A E B F, Ev (fun k => spec_DrawDeltaOf.f k l) (A, E, B, F) ∧ BkSz A E ∧ BkSz B F := by
 obtain ⟨s, hs, hr⟩ := open_ev l hw
 obtain ⟨A, E, p1, h1, ha, he, h4, h5⟩ := anyBook_ev hr (by omega)
 have z1 := bkSz_of ha.1 ha.2 he.1 he.2
 obtain ⟨v, hv, v0, v1⟩ := pick_ev (hr.at_ p1 (by omega) (by omega)) 4 (by omega)
 unfold spec_DrawDeltaOf.f
 by_cases c : v = 0
 ·have hb : spec_l5Book.f A E = some (A, E) := by
   have l1 := ha.1
   have l2 := he.1
   unfold spec_l5Book.f
   rw [Option.bind_some, if_pos (by simp only [List.length_nil]; omega), Option.bind_some, if_pos (by simp only [List.length_nil]; omega)]
   rfl
  exact ⟨A, E, A, E, evCall hs (Ev.bind h1 (Ev.bind hv (evPos c (evCall hb (Ev.now _))))), z1, z1⟩
 ·obtain ⟨B, F, p2, h6, hb, hf, h7, h8⟩ := anyBook_ev (hr.at_ (p1 + 1) (by omega) (by omega)) (by omega)
  exact ⟨A, E, B, F, evCall hs (Ev.bind h1 (Ev.bind hv (evNeg c (Ev.bind h6 (Ev.now _))))), z1, bkSz_of hb.1 hb.2 hf.1 hf.2⟩
theorem mdDelta_ev (G : List ByteArray) (C : List En) (f : Bool) (L : List Af) (h1 : G.length ≤ 24) (h2 : C.length ≤ 24) (h3 : L.length ≤ 8) : Ev (fun k => laws_mdDelta.f k G C f L G C f L) true := by
 unfold laws_mdDelta.f
 exact Ev.bind (mdTexts_ev G (by omega)) (evPos rfl (evPos (by simp) (Ev.bind (mdBk_ev L C (by omega) (by omega)) (Ev.now _))))
theorem delta_none (A : List Af) (E : List En) (h : bookB A E = true) : deltaV A E A E = ([], [], false, []) := by
 have e : eqAs A A = true := (eqAs_iff A A).2 rfl
 have g : goesOf E E = [] := by
  refine List.eq_nil_iff_forall_not_mem.2 (fun s hs => ?_)
  have := (goes_mem E E s).1 hs
  exact this.2 this.1
 have c : comesOf E E = [] := by
  refine List.eq_nil_iff_forall_not_mem.2 (fun x hx => ?_)
  have := (comes_mem E E x).1 hx
  exact this.2 this.1
 rw [deltaV_ok h h, g, c, e]
 rfl
theorem FnDeltaOf : laws_FnDeltaOf.Pure := by
 intro l0 _ _ hw
 refine Ev.rounds ?_
 unfold laws_FnDeltaOf.f
 by_cases c0 : (l0.length : Int) > 1048576
 ·exact evPos c0 (Ev.now _)
 obtain ⟨A, E, B, F, hd, z1, z2⟩ := drawDeltaOf_ev l0 hw
 have di := deltaOf_impl A E B F z1 z2
 have ds := deltaOf_spec A E B F z1 z2
 obtain ⟨n1, n2, n3⟩ := deltaV_len A E B F
 have md := mdDelta_ev (deltaV A E B F).1 (deltaV A E B F).2.1 (deltaV A E B F).2.2.1 (deltaV A E B F).2.2.2 n1 n2 n3
 refine evNeg c0 (Ev.bind hd (Ev.bind di (Ev.bind ds (Ev.bind md (evPos rfl (Ev.bind (bookOk_spec A E z1) ?_))))))
 have no : Ev (fun k => laws_FnDeltaOf.j0 k true A E B F (deltaV A E B F).1 (deltaV A E B F).2.1 (deltaV A E B F).2.2.1 (deltaV A E B F).2.2.2) true :=
  Ev.step (fun k => laws_FnDeltaOf.j0.eq_2 _ _ _ _ _ _ _ _ _ _) (evPos rfl (Ev.bind ds (Ev.bind md (Ev.now _))))
 by_cases c1 : bookB A E = true
 ·refine evPos c1 (Ev.bind (bookOk_spec B F z2) ?_)
  by_cases c2 : bookB B F = true
  ·rw [c2]
   refine Ev.step (fun k => laws_FnDeltaOf.j0.eq_2 _ _ _ _ _ _ _ _ _ _) (evNeg (by simp) ?_)
   have db := deltaOf_impl B F A E z2 z1
   have dn := deltaOf_impl A E A E z1 z1
   rw [deltaV_ok c2 c1] at db
   rw [delta_none A E c1] at dn
   rw [deltaV_ok c1 c2] at n1 n2 n3 ⊢
   have hG : StZ (goesOf E F) := by
    refine ⟨by have n1' : (goesOf E F).length ≤ 24 := n1; omega, fun s hs => ?_⟩
    obtain ⟨⟨e, he, rfl⟩, _⟩ := (goes_mem E F s).1 hs
    exact (z1.e e he).1
   have hC : BkSz (if eqAs A B = true then [] else B) (comesOf E F) := by
    refine ⟨by have n3' : (if eqAs A B = true then ([] : List Af) else B).length ≤ 8 := n3; omega, by have n2' : (comesOf E F).length ≤ 24 := n2; omega, fun a ha => ?_, fun e he => z2.e e ((comes_mem E F e).1 he).1⟩
    split at ha
    ·cases ha
    ·exact z2.a a ha
   have hok := deltaOk_impl _ _ (!eqAs A B) _ hG hC
   rw [deltaB_of c1 c2] at hok
   obtain ⟨la1, le1⟩ := bookB_len c1
   obtain ⟨la2, le2⟩ := bookB_len c2
   refine Ev.bind (deltaDo_ev A E B F c1 c2) (Ev.bind db (Ev.bind (deltaDo_ev B F A E c2 c1) (Ev.bind dn (Ev.bind hok (evPos rfl (evPos rfl (Ev.bind (mdBk_ev B F (by omega) (by omega)) (evPos rfl (evPos rfl (Ev.bind (mdBk_ev A E (by omega) (by omega)) (evPos rfl (evPos (by simp [wrap64]) ?_))))))))))))
   exact Ev.step (fun k => laws_FnDeltaOf.j1.eq_2 _ _) (Ev.now _)
  ·rw [Bool.eq_false_iff.2 c2]
   exact no
 ·exact evNeg c1 no
end Go.Proofs.Ytdfnijaacnlfaaa.Pure

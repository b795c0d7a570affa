/- DeltaOf answers as the reference, of all pairs of books; it leaves its arguments, and its answer is its own. No condition. -/
import Derived.Test.YtdfnijaacnlfaaaQFnExactDeltaOfx19
import Derived.Test.YtdfnijaacnlfaaaVMBas
import Derived.Test.YtdfnijaacnlfaaaVMStr
import Derived.Test.YtdfnijaacnlfaaaVMAff
import Derived.Test.YtdfnijaacnlfaaaVMSml
namespace Go.Proofs.Ytdfnijaacnlfaaa.Pure
open Go.RowKit Go.Proofs.Ytdfnijaacnlfaaa.QFnExactDeltaOf Go.Proofs.YtdfnijaacnlfaaaW.PrintWords Go.Proofs.YtdfnijaacnlfaaaW.PrintLast Go.Proofs.YtdfnijaacnlfaaaW.PrintMore Go.Proofs.Ytdfnijaacnlfaaa.M
set_option linter.unusedVariables false
set_option linter.unusedSimpArgs false
theorem letters_loop (s : ByteArray) (m : Int) (h : s.size ≤ 281474976710656) (d : Nat) : ∀ i : Int, 0 ≤ i → i ≤ s.size → (s.size : Int) - i = d →
  Ev (fun k => spec_l1Letters.l0 k s m i) (((bytesOf s).drop i.toNat).all low && decide ((s.size : Int) ≤ m)) := by
 induction d with
 | zero =>
  intro i h0 h1 hd
  refine Ev.step (fun k => spec_l1Letters.l0.eq_2 _ _ _ _) (eN ?_)
  rw [List.drop_eq_nil_of_le (by rw [bytesOf_length]; omega)]
  exact evTo (Ev.now _) (by simp)
 | succ d ih =>
  intro i h0 h1 hd
  refine Ev.step (fun k => spec_l1Letters.l0.eq_2 _ _ _ _) (eP (evPos h0 ?_))
  rw [bytes_drop s i h0 (by omega), List.all_cons]
  by_cases c : bt s i < 97
  ·exact evPos c (evTo (Ev.now _) (by simp [low]; omega))
  refine evNeg c ?_
  by_cases c1 : bt s i > 122
  ·exact evPos c1 (evTo (Ev.now _) (by simp [low]; omega))
  refine evNeg c1 ?_
  have e : low (bt s i) = true := (low_iff _).2 (by omega)
  rw [w6, e, Bool.true_and]
  exact ih (i + 1) (by omega) (by omega) (by omega)
theorem letters_spec (s : ByteArray) (m : Int) (h : s.size ≤ 140737488351232) : Ev (fun k => spec_l1Letters.f k s m) ((bytesOf s).all low && decide ((s.size : Int) ≤ m)) :=
 letters_loop s m (by omega) s.size 0 (by omega) (by omega) (by omega)
theorem flag_spec (s : ByteArray) : spec_l2Flag.f s = some (flagB s) := by
 unfold spec_l2Flag.f
 by_cases c : (s.size : Int) = 1
 ·rw [if_pos c, if_pos (by omega)]
  by_cases e : bt s 0 ≥ 65
  ·rw [if_pos e]
   simp [flagB, e]
   omega
  ·rw [if_neg e]
   simp [flagB, e]
 ·rw [if_neg c]
  simp [flagB]
  omega
theorem begins_spec (s p : ByteArray) : spec_l2Begins.f s p = some (begB s p) := by
 unfold spec_l2Begins.f
 by_cases c : (s.size : Int) ≥ (p.size : Int)
 ·rw [if_pos c, if_pos (by omega), if_pos (by omega), toList_beq]
  try rw [Int.toNat_natCast]
  simp [begB]
  omega
 ·rw [if_neg c]
  simp [begB]
  omega
theorem ends_spec (s p : ByteArray) (h : s.size ≤ 1407374883512320) : spec_l2Ends.f s p = some (endB s p) := by
 unfold spec_l2Ends.f
 by_cases c : (s.size : Int) ≥ (p.size : Int)
 ·rw [if_pos c, w6, if_pos (by omega), if_pos (by omega), toList_beq, show ((s.size : Int) - (p.size : Int)).toNat = s.size - p.size from by omega]
  simp [endB]
  omega
 ·rw [if_neg c]
  simp [endB]
  omega
theorem letters4 (s : ByteArray) (h : s.size ≤ 140737488351232) : Ev (fun k => spec_l1Letters.f k s 4) (partB s) :=
 evTo (letters_spec s 4 h) (by
  unfold partB
  congr 1
  exact decide_eq_decide.2 (by omega))
theorem affixOk_spec (g : ByteArray) (fr : Bool) (st ad wh : ByteArray) (h1 : st.size ≤ 140737488351232) (h2 : ad.size ≤ 140737488351232) (h3 : wh.size ≤ 140737488351232) :
  Ev (fun k => spec_AffixOk.f k g fr st ad wh) (affOk g fr st ad wh) := by
 have no : ∀ r, r = false → Ev (fun k => spec_AffixOk.j0 k true g fr st ad wh) r := fun r hr => Ev.step (fun k => spec_AffixOk.j0.eq_2 _ _ _ _ _ _ _) (evPos rfl (evTo (Ev.now _) hr.symm))
 unfold spec_AffixOk.f
 refine evCall (flag_spec _) ?_
 cases e1 : flagB g with
 | false => exact evNeg (by simp) (no _ (by simp [affOk, e1]))
 | true =>
  refine evPos rfl (Ev.bind (letters4 st h1) ?_)
  cases e2 : partB st with
  | false => exact evNeg (by simp) (no _ (by simp [affOk, e2]))
  | true =>
   refine evPos rfl (Ev.bind (letters4 ad h2) ?_)
   cases e3 : partB ad with
   | false => exact evNeg (by simp) (no _ (by simp [affOk, e3]))
   | true =>
    refine evPos rfl (Ev.bind (letters4 wh h3) ?_)
    cases e4 : partB wh with
    | false => exact no _ (by simp [affOk, e4])
    | true =>
     refine Ev.step (fun k => spec_AffixOk.j0.eq_2 _ _ _ _ _ _ _) (evNeg (by simp) ?_)
     cases fr with
     | true => exact evPos rfl (evCall (begins_spec _ _) (evTo (Ev.now _) (by simp [affOk, e1, e2, e3, e4])))
     | false => exact evNeg (by simp) (evCall (ends_spec _ _ (by omega)) (evTo (Ev.now _) (by simp [affOk, e1, e2, e3, e4])))
theorem lower_loop (s : ByteArray) (h : s.size ≤ 140737488351232) (d : Nat) : ∀ i : Int, 0 ≤ i → i ≤ s.size → (s.size : Int) - i = d →
  Ev (fun k => impl_lower.l0 k s (s.size : Int) i) (((bytesOf s).drop i.toNat).all low) := by
 induction d with
 | zero =>
  intro i h0 h1 hd
  refine Ev.step (fun k => impl_lower.l0.eq_2 _ _ _ _) (eN ?_)
  rw [List.drop_eq_nil_of_le (by rw [bytesOf_length]; omega)]
  exact evTo (Ev.now _) (by simp)
 | succ d ih =>
  intro i h0 h1 hd
  refine Ev.step (fun k => impl_lower.l0.eq_2 _ _ _ _) (eP (evPos h0 (eP ?_)))
  rw [bytes_drop s i h0 (by omega), List.all_cons]
  by_cases c : bt s i < 97
  ·exact evPos c (evTo (Ev.now _) (by simp [low]; omega))
  refine evNeg c ?_
  by_cases c1 : bt s i > 122
  ·exact evPos c1 (evTo (Ev.now _) (by simp [low]; omega))
  refine evNeg c1 ?_
  have e : low (bt s i) = true := (low_iff _).2 (by omega)
  rw [w6, e, Bool.true_and]
  exact ih (i + 1) (by omega) (by omega) (by omega)
theorem lower_impl (s : ByteArray) (h : s.size ≤ 140737488351232) : Ev (fun k => impl_lower.f k s) ((bytesOf s).all low) :=
 lower_loop s h s.size 0 (by omega) (by omega) (by omega)
theorem upper_impl (c : Int) : impl_upper.f c = some (decide (65 ≤ c) && decide (c ≤ 90)) := by
 unfold impl_upper.f
 by_cases e : c ≥ 65
 ·rw [if_pos e]; simp [e]
 ·rw [if_neg e]; simp; omega
theorem hasPrefix0 (s p : ByteArray) : stringslite_HasPrefix.f s p = some (begB s p) := begins_spec s p
theorem hasPrefix_lib (s p : ByteArray) : strings_HasPrefix.f s p = some (begB s p) := by
 unfold strings_HasPrefix.f
 rw [hasPrefix0]
 rfl
theorem hasSuffix0 (s p : ByteArray) (h : s.size ≤ 1407374883512320) : stringslite_HasSuffix.f s p = some (endB s p) := ends_spec s p h
theorem hasSuffix_lib (s p : ByteArray) (h : s.size ≤ 1407374883512320) : strings_HasSuffix.f s p = some (endB s p) := by
 unfold strings_HasSuffix.f
 rw [hasSuffix0 s p h]
 rfl
theorem parts_loop (g : ByteArray) (fr : Bool) (st ad wh : ByteArray) (l : List ByteArray) (hl : l.length ≤ 10) (hs : ∀ x ∈ l, x.size ≤ 140737488351232) (hw : wh.size ≤ 140737488351232) (d : Nat) : ∀ i : Int, 0 ≤ i → i ≤ l.length → (l.length : Int) - i = d →
  Ev (fun k => impl_AffixOk.l0 k l (l.length : Int) i g fr st ad wh) ((l.drop i.toNat).all partB && (if fr = true then begB wh st else endB wh st)) := by
 induction d with
 | zero =>
  intro i h0 h1 hd
  refine Ev.step (fun k => impl_AffixOk.l0.eq_2 _ _ _ _ _ _ _ _ _) (eN ?_)
  rw [List.drop_eq_nil_of_le (by omega), List.all_nil, Bool.true_and]
  cases fr with
  | true => exact evPos rfl (evCall (hasPrefix_lib _ _) (Ev.now _))
  | false => exact evNeg (by simp) (evCall (hasSuffix_lib _ _ (by omega)) (Ev.now _))
 | succ d ih =>
  intro i h0 h1 hd
  have hi : i.toNat < l.length := by omega
  have hx : rdOf ByteArray.empty l i = l[i.toNat] := by simp [rdOf, List.getD_eq_getElem?_getD, List.getElem?_eq_getElem hi]
  have hm := hs _ (List.getElem_mem hi)
  refine Ev.step (fun k => impl_AffixOk.l0.eq_2 _ _ _ _ _ _ _ _ _) (eP (evPos h0 (eP ?_)))
  rw [hx, List.drop_eq_getElem_cons hi, List.all_cons]
  generalize l[i.toNat] = x at *
  by_cases c : (x.size : Int) > 4
  ·refine evPos c (evTo (Ev.now _) ?_)
   have : partB x = false := by simp [partB]; omega
   rw [this]
   rfl
  ·refine evNeg c (Ev.bind (lower_impl x hm) ?_)
   have hp : partB x = (bytesOf x).all low := by
    simp only [partB]
    rw [decide_eq_true (by omega), Bool.and_true]
   rw [hp]
   cases e : (bytesOf x).all low with
   | false => exact evNeg (by simp) (evTo (Ev.now _) (by simp))
   | true =>
    refine evPos rfl ?_
    rw [w6, Bool.true_and, show i.toNat + 1 = (i + 1).toNat from by omega]
    exact ih (i + 1) (by omega) (by omega) (by omega)
theorem affixOk_impl (g : ByteArray) (fr : Bool) (st ad wh : ByteArray) (h1 : st.size ≤ 140737488351232) (h2 : ad.size ≤ 140737488351232) (h3 : wh.size ≤ 140737488351232) :
  Ev (fun k => impl_AffixOk.f k g fr st ad wh) (affOk g fr st ad wh) := by
 unfold impl_AffixOk.f
 by_cases c : (g.size : Int) = 1
 ·refine evPos c (eP (evCall (upper_impl _) ?_))
  have hf : flagB g = (decide (65 ≤ bt g 0) && decide (bt g 0 ≤ 90)) := by
   simp only [flagB]
   rw [decide_eq_true (by omega), Bool.true_and]
  rw [← hf]
  cases e : flagB g with
  | false => exact Ev.step (fun k => impl_AffixOk.j0.eq_2 _ _ _ _ _ _ _) (evPos rfl (evTo (Ev.now _) (by simp [affOk, e])))
  | true =>
   refine Ev.step (fun k => impl_AffixOk.j0.eq_2 _ _ _ _ _ _ _) (evNeg (by simp) (evCall rfl ?_))
   refine evTo (parts_loop g fr st ad wh [st, ad, wh] (by simp) (by
    intro x hx
    simp only [List.mem_cons, List.not_mem_nil, or_false] at hx
    rcases hx with rfl | rfl | rfl <;> assumption) h3 3 0 (by omega) (by simp) (by simp)) ?_
   simp [affOk, e, Bool.and_assoc]
 ·refine evNeg c (Ev.step (fun k => impl_AffixOk.j0.eq_2 _ _ _ _ _ _ _) (evPos rfl (evTo (Ev.now _) ?_)))
  have : flagB g = false := by simp [flagB]; omega
  simp [affOk, this]
abbrev Af := S73
theorem af_at {P : Af → Prop} {l : List Af} (h : ∀ s ∈ l, P s) (i : Nat) (hi : i < l.length) : P (rd_T73 l (i : Int)) := by
 have e : rd_T73 l (i : Int) = l[i] := by simp [rd_T73, List.getD_eq_getElem?_getD, hi]
 rw [e]
 exact h _ (List.getElem_mem hi)
def eqA (a b : Af) : Bool := a.f0.toList == b.f0.toList && (a.f1 == b.f1 && (a.f2.toList == b.f2.toList && (a.f3.toList == b.f3.toList && (a.f4.toList == b.f4.toList))))
theorem beq_comm' {α : Type} [BEq α] [LawfulBEq α] (a b : α) : (a == b) = (b == a) := by
 cases h : (a == b) with
 | true => rw [eq_of_beq h]; simp
 | false =>
  cases g : (b == a) with
  | false => rfl
  | true => rw [eq_of_beq g] at h; simp at h
theorem eqA_comm (a b : Af) : eqA a b = eqA b a := by
 unfold eqA
 rw [beq_comm' a.f0.toList, beq_comm' a.f1, beq_comm' a.f2.toList, beq_comm' a.f3.toList, beq_comm' a.f4.toList]
def dup (l : List Af) (i : Int) : Nat → Int → Bool
 | 0, _ => false
 | d + 1, k => eqA (rd_T73 l k) (rd_T73 l i) || dup l i d (k + 1)
def affGo (l : List Af) : Nat → Int → Bool
 | 0, _ => true
 | d + 1, i => affOk (rd_T73 l i).f0 (rd_T73 l i).f1 (rd_T73 l i).f2 (rd_T73 l i).f3 (rd_T73 l i).f4 && !dup l i i.toNat 0 && affGo l d (i + 1)
def affsB (l : List Af) : Bool := affGo l l.length 0 && decide (l.length ≤ 8)
abbrev AfSz (l : List Af) : Prop := ∀ s ∈ l, (s.f0.size ≤ 1048576 ∧ s.f2.size ≤ 1048576 ∧ s.f3.size ≤ 1048576 ∧ s.f4.size ≤ 1048576)
theorem dup_spec_loop (l : List Af) (hl : l.length ≤ 1048576) (i : Nat) (hi : i < l.length) {r : Bool} (d : Nat) : ∀ k : Nat, k + d = i → (dup l i d k = true → r = false) → (dup l i d k = false → Ev (fun n => spec_l2Affixes.l0 n l (wrap64 ((i : Int) + 1))) r) → Ev (fun n => spec_l2Affixes.l1 n l (i : Int) (k : Int)) r := by
 induction d with
 | zero =>
  intro k hk _ yes
  exact Ev.step (fun n => spec_l2Affixes.l1.eq_2 _ _ _ _) (eN (yes rfl))
 | succ d ih =>
  intro k hk no yes
  simp only [dup] at no yes
  refine Ev.step (fun n => spec_l2Affixes.l1.eq_2 _ _ _ _) (eP (eP (eP (eP (eP ?_)))))
  rw [w6 (n := (k : Int) + 1)]
  cases e : eqA (rd_T73 l (k : Int)) (rd_T73 l (i : Int)) with
  | true =>
   rw [e] at no
   exact evPos e (evTo (Ev.now _) (no rfl).symm)
  | false =>
   rw [e] at no yes
   simp only [Bool.false_or] at no yes
   exact evNeg (fun h => by have h' : eqA (rd_T73 l (k : Int)) (rd_T73 l (i : Int)) = true := h; rw [e] at h'; cases h') (ih (k + 1) (by omega) no yes)
theorem affs_spec_loop (l : List Af) (hl : l.length ≤ 1048576) (hs : AfSz l) (d : Nat) : ∀ i : Nat, i + d = l.length → Ev (fun n => spec_l2Affixes.l0 n l (i : Int)) (affGo l d i && decide (l.length ≤ 8)) := by
 induction d with
 | zero =>
  intro i hi
  refine Ev.step (fun n => spec_l2Affixes.l0.eq_2 _ _ _) (eN (evTo (Ev.now _) ?_))
  simp only [affGo, Bool.true_and]
  exact decide_eq_decide.2 (by omega)
 | succ d ih =>
  intro i hi
  have h := af_at hs i (by omega)
  refine Ev.step (fun n => spec_l2Affixes.l0.eq_2 _ _ _) (eP (eP (Ev.bind (affixOk_spec _ _ _ _ _ (by omega) (by omega) (by omega)) ?_)))
  simp only [affGo]
  cases e : affOk (rd_T73 l (i : Int)).f0 (rd_T73 l (i : Int)).f1 (rd_T73 l (i : Int)).f2 (rd_T73 l (i : Int)).f3 (rd_T73 l (i : Int)).f4 with
  | false => exact evNeg (by simp) (evTo (Ev.now _) (by simp))
  | true =>
   refine evPos rfl (dup_spec_loop l hl i (by omega) i 0 (by omega) (fun hd => ?_) (fun hd => ?_))
   ·have hd' : dup l (i : Int) (i : Int).toNat 0 = true := hd
    rw [hd']
    simp
   ·have hd' : dup l (i : Int) (i : Int).toNat 0 = false := hd
    rw [hd', w6 (n := (i : Int) + 1)]
    exact evTo (ih (i + 1) (by omega)) (by simp)
theorem affs_spec (l : List Af) (hl : l.length ≤ 1048576) (hs : AfSz l) : Ev (fun n => spec_l2Affixes.f n l) (affsB l) := affs_spec_loop l hl hs l.length 0 (by omega)
theorem dup_impl_loop (l q : List Af) (hl : l.length ≤ 1048576) (i : Nat) (hq : q = l.take i) (hi : i < l.length) (d : Nat) : ∀ k : Nat, k + d = i → ∃ v : Int, Ev (fun n => impl_Affix_123.l0 n q (q.length : Int) (k : Int) (rd_T73 l (i : Int)).f0 (rd_T73 l (i : Int)).f1 (rd_T73 l (i : Int)).f2 (rd_T73 l (i : Int)).f3 (rd_T73 l (i : Int)).f4) v ∧ decide (v ≥ 0) = dup l i d k := by
 have hql : q.length = i := by rw [hq, List.length_take]; omega
 induction d with
 | zero =>
  intro k hk
  exact ⟨-1, Ev.step (fun n => impl_Affix_123.l0.eq_2 _ _ _ _ _ _ _ _ _) (eN (Ev.now _)), rfl⟩
 | succ d ih =>
  intro k hk
  have hat : rd_T73 q (k : Int) = rd_T73 l (k : Int) := by
   simp only [rd_T73, List.getD_eq_getElem?_getD, Int.toNat_natCast]
   rw [hq, List.getElem?_take_of_lt (by omega)]
  simp only [dup]
  cases e : eqA (rd_T73 l (k : Int)) (rd_T73 l (i : Int)) with
  | true =>
   have e' : eqA (rd_T73 l (i : Int)) (rd_T73 l (k : Int)) = true := by rw [eqA_comm]; exact e
   refine ⟨k, Ev.step (fun n => impl_Affix_123.l0.eq_2 _ _ _ _ _ _ _ _ _) (eP (eP (eP ?_))), by simp⟩
   rw [hat]
   exact evPos e' (Ev.now _)
  | false =>
   have e' : eqA (rd_T73 l (i : Int)) (rd_T73 l (k : Int)) = false := by rw [eqA_comm]; exact e
   obtain ⟨v, h1, h2⟩ := ih (k + 1) (by omega)
   refine ⟨v, Ev.step (fun n => impl_Affix_123.l0.eq_2 _ _ _ _ _ _ _ _ _) (eP (eP (eP ?_))), by rw [Bool.false_or]; exact h2⟩
   rw [hat, w6 (n := (k : Int) + 1)]
   exact evNeg (fun h => by have h' : eqA (rd_T73 l (i : Int)) (rd_T73 l (k : Int)) = true := h; rw [e'] at h'; cases h') h1
theorem affs_impl_loop (l : List Af) (hl : l.length ≤ 1048576) (hs : AfSz l) (d : Nat) : ∀ i : Nat, i + d = l.length → Ev (fun n => impl_affixesOk.l0 n l l (l.length : Int) (i : Int)) (affGo l d i && decide (l.length ≤ 8)) := by
 induction d with
 | zero =>
  intro i hi
  refine Ev.step (fun n => impl_affixesOk.l0.eq_2 _ _ _ _ _) (eN (evTo (Ev.now _) ?_))
  simp only [affGo, Bool.true_and]
  exact decide_eq_decide.2 (by omega)
 | succ d ih =>
  intro i hi
  have h := af_at hs i (by omega)
  refine Ev.step (fun n => impl_affixesOk.l0.eq_2 _ _ _ _ _) (eP (eP (eP (Ev.bind (affixOk_impl _ _ _ _ _ (by omega) (by omega) (by omega)) ?_))))
  simp only [affGo]
  cases e : affOk (rd_T73 l (i : Int)).f0 (rd_T73 l (i : Int)).f1 (rd_T73 l (i : Int)).f2 (rd_T73 l (i : Int)).f3 (rd_T73 l (i : Int)).f4 with
  | false => exact evNeg (by simp) (evTo (Ev.now _) (by simp))
  | true =>
   obtain ⟨v, h1, h2⟩ := dup_impl_loop l (l.take i) hl i rfl (by omega) i 0 (by omega)
   have hd : Ev (fun n => impl_Affix_101.f n (l.take (i : Int).toNat) (rd_T73 l (i : Int)).f0 (rd_T73 l (i : Int)).f1 (rd_T73 l (i : Int)).f2 (rd_T73 l (i : Int)).f3 (rd_T73 l (i : Int)).f4) (dup l (i : Int) (i : Int).toNat 0) := Ev.bind h1 (evTo (Ev.now _) h2)
   refine evPos rfl (eP (Ev.bind hd ?_))
   rw [w6 (n := (i : Int) + 1)]
   cases dup l (i : Int) (i : Int).toNat 0 with
   | true => exact evPos rfl (evTo (Ev.now _) (by simp))
   | false => exact evNeg (by simp) (evTo (ih (i + 1) (by omega)) (by simp))
theorem affs_impl (l : List Af) (hl : l.length ≤ 1048576) (hs : AfSz l) : Ev (fun n => impl_affixesOk.f n l) (affsB l) := affs_impl_loop l hl hs l.length 0 (by omega)
theorem l1Word_spec (s : ByteArray) (h : s.size ≤ 140737488351232) : Ev (fun k => spec_l1Word.f k s) (wordB s) := by
 unfold spec_l1Word.f
 by_cases c : (s.size : Int) > 0
 ·have hp : 0 < s.size := by omega
  refine evPos c (Ev.bind (letters_spec s 12 h) (evTo (Ev.now _) ?_))
  simp only [wordB, wordL, bytesOf_length, decide_eq_true hp, Bool.true_and]
  rw [Bool.and_comm]
  congr 1
  exact decide_eq_decide.2 (by omega)
 ·exact evNeg c (evTo (Ev.now _) (wordB_no (by omega)).symm)
theorem within_impl (n a b : Int) : impl_within.f n a b = some (decide (a ≤ n) && decide (n ≤ b)) := by
 unfold impl_within.f
 by_cases c : n ≥ a
 ·rw [if_pos c]; simp [c]
 ·rw [if_neg c]; simp; omega
theorem word_impl (s : ByteArray) (h : s.size ≤ 140737488351232) : Ev (fun k => impl_WordOk.f k s) (wordB s) := by
 unfold impl_WordOk.f
 refine evCall (within_impl _ _ _) ?_
 by_cases c : (1 ≤ (s.size : Int) ∧ (s.size : Int) ≤ 12)
 ·have hp : 0 < s.size := by omega
  have hq : s.size ≤ 12 := by omega
  refine evPos (by simp; omega) (Ev.bind (lower_impl s h) (evTo (Ev.now _) ?_))
  simp only [wordB, wordL, bytesOf_length, decide_eq_true hp, decide_eq_true hq, Bool.true_and]
 ·exact evNeg (by simp; omega) (evTo (Ev.now _) (wordB_no (by omega)).symm)
theorem bt_extract0 (s : ByteArray) (i : Nat) (h : i < s.size) : bt (s.extract i (i + 1)) 0 = bt s i := by
 have hs : (s.extract i (i + 1)).size = 1 := by rw [size_extract s i (i + 1) (by omega) (by omega)]; omega
 have h1 := bytes_drop (s.extract i (i + 1)) 0 (by omega) (by omega)
 have h2 := bytes_drop s i (by omega) (by omega)
 rw [bytes_extract] at h1
 have h2' : (bytesOf s).drop i = bt s i :: (bytesOf s).drop ((i : Int) + 1).toNat := by simpa using h2
 rw [h2', show i + 1 - i = 1 from by omega] at h1
 simp only [List.take_succ_cons, List.take_zero] at h1
 have := congrArg List.head? h1
 simpa using this.symm
theorem flag_extract (s : ByteArray) (i : Nat) (h : i < s.size) : flagB (s.extract i (i + 1)) = (decide (65 ≤ bt s i) && decide (bt s i ≤ 90)) := by
 have hs : (s.extract i (i + 1)).size = 1 := by rw [size_extract s i (i + 1) (by omega) (by omega)]; omega
 unfold flagB
 rw [hs, bt_extract0 s i h]
 simp
def flGo (s : ByteArray) : Nat → Int → Bool
 | 0, _ => true
 | d + 1, i => (decide (65 ≤ bt s i) && decide (bt s i ≤ 90)) && (if i > 0 then decide (bt s (i - 1) < bt s i) else true) && flGo s d (i + 1)
def entB (w f : ByteArray) : Bool := flGo f f.size 0 && (wordB w && decide (f.size ≤ 4))
theorem ent_spec_loop (w f : ByteArray) (hw : w.size ≤ 1048576) (hf : f.size ≤ 1048576) (d : Nat) : ∀ i : Nat, i + d = f.size → Ev (fun k => spec_l2Entry.l0 k (i : Int) w f) (flGo f d i && (wordB w && decide (f.size ≤ 4))) := by
 induction d with
 | zero =>
  intro i hi
  refine Ev.step (fun k => spec_l2Entry.l0.eq_2 _ _ _ _) (eN (Ev.bind (l1Word_spec w (by omega)) ?_))
  simp only [flGo, Bool.true_and]
  cases wordB w with
  | false => exact evNeg (by simp) (Ev.now _)
  | true => exact evPos rfl (evTo (Ev.now _) (by rw [Bool.true_and]; exact decide_eq_decide.2 (by omega)))
 | succ d ih =>
  intro i hi
  refine Ev.step (fun k => spec_l2Entry.l0.eq_2 _ _ _ _) ?_
  rw [w6 (n := (i : Int) + 1)]
  refine eP (eP (eP (eP (evCall (flag_spec _) ?_))))
  rw [show ((i : Int) + 1).toNat = i + 1 from by omega, Int.toNat_natCast, flag_extract f i (by omega)]
  simp only [flGo]
  have next := ih (i + 1) (by omega)
  cases e : (decide (65 ≤ bt f i) && decide (bt f i ≤ 90)) with
  | false => exact evNeg (by simp) (evTo (Ev.now _) (by simp))
  | true =>
   refine evPos rfl ?_
   by_cases c : (i : Int) > 0
   ·rw [w6 (n := (i : Int) - 1), if_pos c]
    refine evPos c (eP (eP ?_))
    by_cases g : bt f ((i : Int) - 1) ≥ bt f i
    ·rw [decide_eq_false (show ¬ bt f ((i : Int) - 1) < bt f i from by omega)]
     exact evPos g (evTo (Ev.now _) (by simp))
    ·rw [decide_eq_true (show bt f ((i : Int) - 1) < bt f i from by omega)]
     exact evNeg g (evTo next (by simp))
   ·rw [if_neg c]
    exact evNeg c (evTo next (by simp))
theorem ent_spec (w f : ByteArray) (hw : w.size ≤ 1048576) (hf : f.size ≤ 1048576) : Ev (fun k => spec_l2Entry.f k w f) (entB w f) := ent_spec_loop w f hw hf f.size 0 (by omega)
theorem ent_impl_loop (w f : ByteArray) (hw : w.size ≤ 1048576) (hf : f.size ≤ 1048576) (d : Nat) : ∀ i : Nat, i + d = f.size → Ev (fun k => impl_entryOk.l0 k (f.size : Int) (i : Int) w f) (flGo f d i && (wordB w && decide (f.size ≤ 4))) := by
 induction d with
 | zero =>
  intro i hi
  refine Ev.step (fun k => impl_entryOk.l0.eq_2 _ _ _ _ _) (eN (Ev.bind (word_impl w (by omega)) ?_))
  simp only [flGo, Bool.true_and]
  cases wordB w with
  | false => exact evNeg (by simp) (Ev.now _)
  | true => exact evPos rfl (evTo (Ev.now _) (by rw [Bool.true_and]; exact decide_eq_decide.2 (by omega)))
 | succ d ih =>
  intro i hi
  refine Ev.step (fun k => impl_entryOk.l0.eq_2 _ _ _ _ _) ?_
  rw [w6 (n := (i : Int) + 1)]
  refine eP (eP (eP (evCall (upper_impl _) ?_)))
  simp only [flGo]
  have next := ih (i + 1) (by omega)
  cases e : (decide (65 ≤ bt f i) && decide (bt f i ≤ 90)) with
  | false => exact evNeg (by simp) (evTo (Ev.now _) (by simp))
  | true =>
   refine evPos rfl ?_
   by_cases c : (i : Int) > 0
   ·rw [w6 (n := (i : Int) - 1), if_pos c]
    refine evPos c (eP (eP ?_))
    by_cases g : bt f ((i : Int) - 1) ≥ bt f i
    ·rw [decide_eq_false (show ¬ bt f ((i : Int) - 1) < bt f i from by omega)]
     exact evPos g (evTo (Ev.now _) (by simp))
    ·rw [decide_eq_true (show bt f ((i : Int) - 1) < bt f i from by omega)]
     exact evNeg g (evTo next (by simp))
   ·rw [if_neg c]
    exact evNeg c (evTo next (by simp))
theorem ent_impl (w f : ByteArray) (hw : w.size ≤ 1048576) (hf : f.size ≤ 1048576) : Ev (fun k => impl_entryOk.f k w f) (entB w f) := ent_impl_loop w f hw hf f.size 0 (by omega)
abbrev En := S66
def entGo (l : List En) : Nat → Int → Bool
 | 0, _ => true
 | d + 1, i => entB (rd_T66 l i).f0 (rd_T66 l i).f1 && (if i > 0 then Op.bytesLess (rd_T66 l (i - 1)).f0.toList (rd_T66 l i).f0.toList else true) && entGo l d (i + 1)
def entsB (l : List En) : Bool := entGo l l.length 0 && decide (l.length ≤ 24)
theorem en_at {P : En → Prop} {l : List En} (h : ∀ s ∈ l, P s) (i : Nat) (hi : i < l.length) : P (rd_T66 l (i : Int)) := by
 have e : rd_T66 l (i : Int) = l[i] := by simp [rd_T66, List.getD_eq_getElem?_getD, hi]
 rw [e]
 exact h _ (List.getElem_mem hi)
theorem ents_spec_loop (A : List Af) (l : List En) (hl : l.length ≤ 1048576) (he : ∀ s ∈ l, (s.f0.size ≤ 1048576 ∧ s.f1.size ≤ 1048576)) {r : Bool} (no : entGo l l.length 0 = false → r = false) (d : Nat) : ∀ i : Nat, i + d = l.length → (entGo l d i = false → r = false) →
  (entGo l d i = true → Ev (fun k => (spec_l2Affixes.f k A).bind fun t130 => (if t130 = true then (some (decide ((l.length : Int) ≤ 24))) else (some false))) r) → Ev (fun k => spec_BookOk.l0 k (i : Int) A l) r := by
 induction d with
 | zero =>
  intro i hi _ yes
  exact Ev.step (fun k => spec_BookOk.l0.eq_2 _ _ _ _) (eN (yes rfl))
 | succ d ih =>
  intro i hi no' yes
  have hs := en_at he i (by omega)
  simp only [entGo] at no' yes
  refine Ev.step (fun k => spec_BookOk.l0.eq_2 _ _ _ _) (eP (eP (Ev.bind (ent_spec _ _ hs.1 hs.2) ?_)))
  rw [w6 (n := (i : Int) + 1)]
  have next := ih (i + 1) (by omega)
  cases e : entB (rd_T66 l (i : Int)).f0 (rd_T66 l (i : Int)).f1 with
  | false =>
   rw [e] at no'
   exact evNeg (by simp) (evTo (Ev.now _) (no' (by simp)).symm)
  | true =>
   rw [e] at no' yes
   refine evPos rfl ?_
   by_cases c : (i : Int) > 0
   ·rw [w6 (n := (i : Int) - 1)]
    rw [if_pos c] at no' yes
    refine evPos c (eP (eP ?_))
    cases g : Op.bytesLess (rd_T66 l ((i : Int) - 1)).f0.toList (rd_T66 l (i : Int)).f0.toList with
    | false =>
     rw [g] at no'
     exact evNeg (by simp) (evTo (Ev.now _) (no' (by simp)).symm)
    | true =>
     rw [g] at no' yes
     simp only [Bool.true_and] at no' yes
     exact evPos rfl (next no' yes)
   ·rw [if_neg c] at no' yes
    simp only [Bool.true_and] at no' yes
    exact evNeg c (next no' yes)
theorem ents_impl_loop (l : List En) (hl : l.length ≤ 1048576) (he : ∀ s ∈ l, (s.f0.size ≤ 1048576 ∧ s.f1.size ≤ 1048576)) (d : Nat) : ∀ i : Nat, i + d = l.length → Ev (fun k => impl_entriesOk.l0 k l l (l.length : Int) (i : Int)) (entGo l d i && decide (l.length ≤ 24)) := by
 induction d with
 | zero =>
  intro i hi
  refine Ev.step (fun k => impl_entriesOk.l0.eq_2 _ _ _ _ _) (eN (evTo (Ev.now _) ?_))
  simp only [entGo, Bool.true_and]
  exact decide_eq_decide.2 (by omega)
 | succ d ih =>
  intro i hi
  have hs := en_at he i (by omega)
  refine Ev.step (fun k => impl_entriesOk.l0.eq_2 _ _ _ _ _) (eP (eP (eP (Ev.bind (ent_impl _ _ hs.1 hs.2) ?_))))
  rw [w6 (n := (i : Int) + 1)]
  have next := ih (i + 1) (by omega)
  simp only [entGo]
  cases e : entB (rd_T66 l (i : Int)).f0 (rd_T66 l (i : Int)).f1 with
  | false => exact evNeg (by simp) (evTo (Ev.now _) (by simp))
  | true =>
   refine evPos rfl ?_
   by_cases c : (i : Int) > 0
   ·rw [w6 (n := (i : Int) - 1), if_pos c]
    refine evPos c (eP (eP ?_))
    cases g : Op.bytesLess (rd_T66 l ((i : Int) - 1)).f0.toList (rd_T66 l (i : Int)).f0.toList with
    | false => exact evNeg (by simp) (evTo (Ev.now _) (by simp))
    | true => exact evPos rfl (evTo next (by simp))
   ·rw [if_neg c]
    exact evNeg c (evTo next (by simp))
structure BkSz (A : List Af) (E : List En) : Prop where
 la : A.length ≤ 1048576
 le : E.length ≤ 1048576
 a : ∀ s ∈ A, (s.f0.size ≤ 1048576 ∧ s.f2.size ≤ 1048576 ∧ s.f3.size ≤ 1048576 ∧ s.f4.size ≤ 1048576)
 e : ∀ s ∈ E, (s.f0.size ≤ 1048576 ∧ s.f1.size ≤ 1048576)
def bookB (A : List Af) (E : List En) : Bool := affsB A && entsB E
theorem bookOk_spec (A : List Af) (E : List En) (h : BkSz A E) : Ev (fun n => spec_BookOk.f n A E) (bookB A E) := by
 refine ents_spec_loop A E h.le h.e (fun hf => by simp [bookB, entsB, hf]) E.length 0 (by omega) (fun hf => ?_) (fun ht => ?_)
 ·have hf' : entGo E E.length 0 = false := hf
  simp [bookB, entsB, hf']
 ·have ht' : entGo E E.length 0 = true := ht
  refine Ev.bind (affs_spec A h.la h.a) ?_
  simp only [bookB, entsB, ht', Bool.true_and]
  cases affsB A with
  | false => exact evNeg (by simp) (evTo (Ev.now _) (by simp))
  | true => exact evPos rfl (evTo (Ev.now _) (by rw [Bool.true_and]; exact decide_eq_decide.2 (by omega)))
theorem bookOk_impl (A : List Af) (E : List En) (h : BkSz A E) : Ev (fun n => impl_BookOk.f n A E) (bookB A E) := by
 unfold impl_BookOk.f
 refine Ev.bind (affs_impl A h.la h.a) ?_
 simp only [bookB]
 cases affsB A with
 | false => exact evNeg (by simp) (evTo (Ev.now _) (by simp))
 | true => exact evPos rfl (Ev.bind (ents_impl_loop E h.le h.e E.length 0 (by omega)) (evTo (Ev.now _) (by rw [Bool.true_and]; rfl)))
theorem ba_get (l : List ByteArray) (i : Nat) (h : i < l.length) : rdOf ByteArray.empty l (i : Int) = l[i] := by simp [rdOf, List.getD_eq_getElem?_getD, List.getElem?_eq_getElem h]
def hasStem (C : List En) (s : ByteArray) : Bool := C.any (fun e => e.f0.toList == s.toList)
theorem idx_nonneg (C : List En) (s : ByteArray) (i : Nat) : (0 ≤ Go.Lib.idxByFrom (fun _ (y : ByteArray × ByteArray) => decide (y.1 = s)) default (C.map (fun x => (x.f0, x.f1))) i) ↔ hasStem C s = true := by
 induction C generalizing i with
 | nil => simp [Go.Lib.idxByFrom, hasStem]
 | cons e C ih =>
  simp only [List.map_cons, Go.Lib.idxByFrom, hasStem, List.any_cons]
  have he : (e.f0.toList == s.toList) = decide (e.f0 = s) := toList_beq _ _
  by_cases c : e.f0 = s
  ·simp [c]

  ·rw [he]
   simp only [c, decide_false, Bool.false_eq_true, if_false, Bool.false_or]
   exact ih (i + 1)
theorem entryAt_ev (C : List En) (s : ByteArray) : ∃ t : Int, impl_entryAt.f C s = some t ∧ ((t ≥ 0) ↔ hasStem C s = true) := ⟨_, rfl, idx_nonneg C s 0⟩
theorem af_get (l : List Af) (i : Nat) (hi : i < l.length) : rd_T73 l (i : Int) = l[i] := by simp [rd_T73, List.getD_eq_getElem?_getD, hi]
theorem en_get (l : List En) (i : Nat) (hi : i < l.length) : rd_T66 l (i : Int) = l[i] := by simp [rd_T66, List.getD_eq_getElem?_getD, hi]
def AscE (l : List En) : Prop := l.Pairwise (fun x y => ltS x.f0 y.f0 = true)
theorem entGo_adj (l : List En) (d : Nat) : ∀ i : Nat, i + d = l.length → entGo l d (i : Int) = true → ∀ j : Nat, i ≤ j + 1 → (hj : j + 1 < l.length) → ltS (l[j]'(by omega)).f0 l[j + 1].f0 = true := by
 induction d with
 | zero =>
  intro i hi _ j h1 h2
  omega
 | succ d ih =>
  intro i hi h j h1 h2
  simp only [entGo, Bool.and_eq_true] at h
  by_cases e : i = j + 1
  ·subst e
   have h3 := h.1.2
   rw [if_pos (by omega), show ((j + 1 : Nat) : Int) - 1 = (j : Int) from by omega, en_get l j (by omega), en_get l (j + 1) h2] at h3
   exact h3
  ·exact ih (i + 1) (by omega) (by rw [show ((i + 1 : Nat) : Int) = (i : Int) + 1 from by omega]; exact h.2) j (by omega) h2
theorem ents_asc {l : List En} (h : entsB l = true) : AscE l := by
 simp only [entsB, Bool.and_eq_true] at h
 have adj := entGo_adj l l.length 0 (by omega) h.1
 have step : ∀ (d i : Nat) (hj : i + 1 + d < l.length), ltS (l[i]'(by omega)).f0 l[i + 1 + d].f0 = true := by
  intro d
  induction d with
  | zero => intro i hj; exact adj i (by omega) hj
  | succ d ih => intro i hj; exact ltS_trans (ih i (by omega)) (adj (i + 1 + d) (by omega) hj)
 rw [AscE, List.pairwise_iff_getElem]
 intro i j hi hj hij
 obtain ⟨d, rfl⟩ : ∃ d, j = i + 1 + d := ⟨j - i - 1, by omega⟩
 exact step d i hj
theorem ascE_key {l : List En} (h : AscE l) {x y : En} (hx : x ∈ l) (hy : y ∈ l) (e : x.f0 = y.f0) : x = y := by
 obtain ⟨i, hi, rfl⟩ := List.mem_iff_getElem.1 hx
 obtain ⟨j, hj, rfl⟩ := List.mem_iff_getElem.1 hy
 have hp := List.pairwise_iff_getElem.1 h
 rcases Nat.lt_trichotomy i j with c | c | c
 ·have := hp i j hi hj c
  rw [e, ltS_irrefl] at this
  cases this
 ·subst c
  rfl
 ·have := hp j i hj hi c
  rw [e, ltS_irrefl] at this
  cases this
theorem bookB_len {A : List Af} {E : List En} (h : bookB A E = true) : A.length ≤ 8 ∧ E.length ≤ 24 := by
 simp only [bookB, affsB, entsB, Bool.and_eq_true, decide_eq_true_eq] at h
 exact ⟨h.1.2, h.2.2⟩
theorem hasStem_iff (C : List En) (s : ByteArray) : hasStem C s = true ↔ ∃ e ∈ C, e.f0 = s := by
 unfold hasStem
 rw [List.any_eq_true]
 constructor
 ·rintro ⟨e, he, h⟩
  exact ⟨e, he, by rw [toList_beq] at h; exact of_decide_eq_true h⟩
 ·rintro ⟨e, he, h⟩
  exact ⟨e, he, by rw [toList_beq]; exact decide_eq_true h⟩
theorem hasStem_no {C : List En} {s : ByteArray} (h : ¬ ∃ e ∈ C, e.f0 = s) : hasStem C s = false := by
 cases c : hasStem C s with
 | false => rfl
 | true => exact absurd ((hasStem_iff _ _).1 c) h
def inE (E : List En) (e : En) : Bool := E.any (fun x => e.f0.toList == x.f0.toList && (e.f1.toList == x.f1.toList))
theorem eqE_iff (x y : En) : (x.f0.toList == y.f0.toList && (x.f1.toList == y.f1.toList)) = true ↔ x = y := by
 rw [toList_beq, toList_beq, Bool.and_eq_true, decide_eq_true_eq, decide_eq_true_eq]
 obtain ⟨a, b⟩ := x
 obtain ⟨c, d⟩ := y
 simp
theorem inE_iff (E : List En) (e : En) : inE E e = true ↔ e ∈ E := by
 unfold inE
 rw [List.any_eq_true]
 constructor
 ·rintro ⟨x, hx, h⟩
  rw [(eqE_iff e x).1 h]
  exact hx
 ·intro h
  exact ⟨e, h, (eqE_iff e e).2 rfl⟩
def goesOf (E1 E2 : List En) : List ByteArray := (E1.filter (fun e => !hasStem E2 e.f0)).map (·.f0)
def comesOf (E1 E2 : List En) : List En := E2.filter (fun e => !inE E1 e)
def eqAs : List Af → List Af → Bool
 | [], [] => true
 | a :: l, b :: k => eqA a b && eqAs l k
 | _, _ => false
theorem eqA_iff (a b : Af) : eqA a b = true ↔ a = b := by
 obtain ⟨a0, a1, a2, a3, a4⟩ := a
 obtain ⟨b0, b1, b2, b3, b4⟩ := b
 simp [eqA, toList_beq]
theorem eqAs_iff : ∀ l k : List Af, eqAs l k = true ↔ l = k
 | [], [] => by simp [eqAs]
 | [], b :: k => by simp [eqAs]
 | a :: l, [] => by simp [eqAs]
 | a :: l, b :: k => by simp [eqAs, eqA_iff, eqAs_iff l k]
theorem neA_eq (a b : Af) : (!(a.f0.toList == b.f0.toList) || (!(a.f1 == b.f1) || (!(a.f2.toList == b.f2.toList) || (!(a.f3.toList == b.f3.toList) || (!(a.f4.toList == b.f4.toList)))))) = !eqA a b := by
 unfold eqA
 cases a.f0.toList == b.f0.toList <;> cases a.f1 == b.f1 <;> cases a.f2.toList == b.f2.toList <;> cases a.f3.toList == b.f3.toList <;> cases a.f4.toList == b.f4.toList <;> rfl
def deltaV (A1 : List Af) (E1 : List En) (A2 : List Af) (E2 : List En) : List ByteArray × List En × Bool × List Af :=
 if bookB A1 E1 = true ∧ bookB A2 E2 = true then (goesOf E1 E2, comesOf E1 E2, !eqAs A1 A2, if eqAs A1 A2 = true then [] else A2) else ([], [], false, [])
theorem deltaV_ok {A1 : List Af} {E1 : List En} {A2 : List Af} {E2 : List En} (h1 : bookB A1 E1 = true) (h2 : bookB A2 E2 = true) : deltaV A1 E1 A2 E2 = (goesOf E1 E2, comesOf E1 E2, !eqAs A1 A2, if eqAs A1 A2 = true then [] else A2) := if_pos ⟨h1, h2⟩
theorem deltaV_no {A1 : List Af} {E1 : List En} {A2 : List Af} {E2 : List En} (h : ¬ (bookB A1 E1 = true ∧ bookB A2 E2 = true)) : deltaV A1 E1 A2 E2 = ([], [], false, []) := if_neg h
theorem eqAs_impl_loop (l k : List Af) (hl : l.length ≤ 1048576) (he : l.length = k.length) (d : Nat) : ∀ i : Nat, i + d = l.length → Ev (fun n => impl_Affix_41.l0 n l k (l.length : Int) (i : Int)) (eqAs (l.drop i) (k.drop i)) := by
 induction d with
 | zero =>
  intro i hi
  rw [List.drop_eq_nil_of_le (by omega), List.drop_eq_nil_of_le (by omega)]
  exact Ev.step (fun n => impl_Affix_41.l0.eq_2 _ _ _ _ _) (eN (Ev.now _))
 | succ d ih =>
  intro i hi
  have h1 : i < l.length := by omega
  have h2 : i < k.length := by omega
  rw [List.drop_eq_getElem_cons h1, List.drop_eq_getElem_cons h2]
  refine Ev.step (fun n => impl_Affix_41.l0.eq_2 _ _ _ _ _) (eP (eP (eP (eP ?_))))
  rw [neA_eq, af_get l i h1, af_get k i h2, w6 (n := (i : Int) + 1)]
  simp only [eqAs]
  cases c : eqA l[i] k[i] with
  | false => exact evPos rfl (evTo (Ev.now _) (by simp))
  | true => exact evNeg (by simp) (evTo (ih (i + 1) (by omega)) (by simp))
theorem eqAs_len {l k : List Af} (h : l.length ≠ k.length) : eqAs l k = false := by
 cases c : eqAs l k with
 | false => rfl
 | true => exact absurd (congrArg List.length ((eqAs_iff l k).1 c)) h
theorem eqAs_impl (l k : List Af) (hl : l.length ≤ 1048576) : Ev (fun n => impl_Affix_41.f n l k) (eqAs l k) := by
 unfold impl_Affix_41.f
 by_cases he : l.length = k.length
 ·exact eP (eqAs_impl_loop l k hl he l.length 0 (by omega))
 ·exact eN (evTo (Ev.now _) (eqAs_len he).symm)
theorem eqAs_spec_loop (l k : List Af) (hl : l.length ≤ 1048576) (he : l.length = k.length) (d : Nat) : ∀ i : Nat, i + d = l.length → Ev (fun n => spec_l5Affixes.l0 n l k (i : Int)) (eqAs (l.drop i) (k.drop i)) := by
 induction d with
 | zero =>
  intro i hi
  rw [List.drop_eq_nil_of_le (by omega), List.drop_eq_nil_of_le (by omega)]
  exact Ev.step (fun n => spec_l5Affixes.l0.eq_2 _ _ _ _) (eN (Ev.now _))
 | succ d ih =>
  intro i hi
  have h1 : i < l.length := by omega
  have h2 : i < k.length := by omega
  rw [List.drop_eq_getElem_cons h1, List.drop_eq_getElem_cons h2]
  refine Ev.step (fun n => spec_l5Affixes.l0.eq_2 _ _ _ _) (eP (eP (eP ?_)))
  rw [neA_eq, af_get l i h1, af_get k i h2, w6 (n := (i : Int) + 1)]
  simp only [eqAs]
  cases c : eqA l[i] k[i] with
  | false => exact evPos rfl (evTo (Ev.now _) (by simp))
  | true => exact evNeg (by simp) (evTo (ih (i + 1) (by omega)) (by simp))
theorem eqAs_spec (l k : List Af) (hl : l.length ≤ 1048576) : Ev (fun n => spec_l5Affixes.f n l k) (eqAs l k) := by
 unfold spec_l5Affixes.f
 by_cases he : l.length = k.length
 ·exact eP (eqAs_spec_loop l k hl he l.length 0 (by omega))
 ·exact eN (evTo (Ev.now _) (eqAs_len he).symm)
theorem inE_loop (l : List En) (e : En) (hl : l.length ≤ 1048576) (d : Nat) : ∀ i : Nat, i + d = l.length → ∃ v : Int, Ev (fun n => impl_Entry_86.l0 n l (l.length : Int) (i : Int) e.f0 e.f1) v ∧ decide (v ≥ 0) = inE (l.drop i) e := by
 induction d with
 | zero =>
  intro i hi
  rw [List.drop_eq_nil_of_le (by omega)]
  exact ⟨-1, Ev.step (fun n => impl_Entry_86.l0.eq_2 _ _ _ _ _ _) (eN (Ev.now _)), rfl⟩
 | succ d ih =>
  intro i hi
  have h1 : i < l.length := by omega
  rw [List.drop_eq_getElem_cons h1]
  have eI : inE (l[i] :: l.drop (i + 1)) e = ((e.f0.toList == l[i].f0.toList && (e.f1.toList == l[i].f1.toList)) || inE (l.drop (i + 1)) e) := rfl
  rw [eI]
  by_cases c : (e.f0.toList == l[i].f0.toList && (e.f1.toList == l[i].f1.toList)) = true
  ·refine ⟨i, Ev.step (fun n => impl_Entry_86.l0.eq_2 _ _ _ _ _ _) (eP (eP (eP ?_))), by rw [c]; simp⟩
   rw [en_get l i h1]
   exact evPos c (Ev.now _)
  ·obtain ⟨v, hv, hd⟩ := ih (i + 1) (by omega)
   refine ⟨v, Ev.step (fun n => impl_Entry_86.l0.eq_2 _ _ _ _ _ _) (eP (eP (eP ?_))), by rw [Bool.eq_false_iff.2 c, Bool.false_or]; exact hd⟩
   rw [en_get l i h1, w6 (n := (i : Int) + 1)]
   exact evNeg c hv
theorem inE_impl (l : List En) (e : En) (hl : l.length ≤ 1048576) : Ev (fun n => impl_Entry_40.f n l e.f0 e.f1) (inE l e) := by
 obtain ⟨v, hv, hd⟩ := inE_loop l e hl l.length 0 (by omega)
 unfold impl_Entry_40.f
 exact Ev.bind (show Ev (fun n => impl_Entry_86.f n l e.f0 e.f1) v from hv) (evTo (Ev.now _) hd)
theorem entryAt_lt (C : List En) (s : ByteArray) : ∃ t : Int, impl_entryAt.f C s = some t ∧ ((t < 0) ↔ hasStem C s = false) := by
 obtain ⟨t, ht, h⟩ := entryAt_ev C s
 refine ⟨t, ht, ?_⟩
 constructor
 ·intro c
  cases e : hasStem C s with
  | false => rfl
  | true => have := h.2 e; omega
 ·intro c
  have : ¬ t ≥ 0 := fun q => by rw [h.1 q] at c; cases c
  omega
theorem goes_cons (E2 : List En) (e : En) (l : List En) : goesOf (e :: l) E2 = if hasStem E2 e.f0 = true then goesOf l E2 else e.f0 :: goesOf l E2 := by
 unfold goesOf
 cases c : hasStem E2 e.f0 <;> simp [c]
theorem comes_cons (E1 : List En) (e : En) (l : List En) : comesOf E1 (e :: l) = if inE E1 e = true then comesOf E1 l else e :: comesOf E1 l := by
 unfold comesOf
 cases c : inE E1 e <;> simp [c]
theorem dImpl_l1 (A1 : List Af) (E1 : List En) (A2 : List Af) (E2 : List En) (h1 : BkSz A1 E1) (h2 : BkSz A2 E2) (g : List ByteArray) (d : Nat) : ∀ (i : Nat) (c : List En), i + d = E2.length → c.length ≤ i →
  Ev (fun k => impl_DeltaOf.l1 k E2 (E2.length : Int) (i : Int) A1 E1 A2 E2 g c false []) (g, c ++ comesOf E1 (E2.drop i), !eqAs A1 A2, if eqAs A1 A2 = true then [] else A2) := by
 have ha1 := h1.la; have he1 := h1.le; have ha2 := h2.la; have he2 := h2.le
 induction d with
 | zero =>
  intro i c hi hc
  rw [List.drop_eq_nil_of_le (by omega)]
  refine Ev.step (fun k => impl_DeltaOf.l1.eq_2 _ _ _ _ _ _ _ _ _ _ _ _) (eN (Ev.bind (eqAs_impl A1 A2 (by omega)) ?_))
  have e0 : c ++ comesOf E1 [] = c := by simp [comesOf]
  rw [e0]
  cases e : eqAs A1 A2 with
  | true => exact evPos rfl (Ev.now _)
  | false => exact evNeg (by simp) (evPos (by simp only [List.length_nil]; omega) (Ev.now _))
 | succ d ih =>
  intro i c hi hc
  have hlt : i < E2.length := by omega
  rw [List.drop_eq_getElem_cons hlt, comes_cons]
  refine Ev.step (fun k => impl_DeltaOf.l1.eq_2 _ _ _ _ _ _ _ _ _ _ _ _) (eP (eP (eP ?_)))
  rw [en_get E2 i hlt, w6 (n := (i : Int) + 1)]
  refine Ev.bind (inE_impl E1 E2[i] he1) ?_
  cases q : inE E1 E2[i] with
  | true => exact evPos rfl (ih (i + 1) c (by omega) (by omega))
  | false =>
   refine evNeg (by simp) (eP ?_)
   refine evTo (ih (i + 1) (c ++ [E2[i]]) (by omega) (by simp; omega)) ?_
   rw [List.append_assoc]
   rfl
theorem dImpl_l0 (A1 : List Af) (E1 : List En) (A2 : List Af) (E2 : List En) (h1 : BkSz A1 E1) (h2 : BkSz A2 E2) (d : Nat) : ∀ (i : Nat) (g : List ByteArray), i + d = E1.length → g.length ≤ i →
  Ev (fun k => impl_DeltaOf.l0 k E1 (E1.length : Int) (i : Int) A1 E1 A2 E2 g [] false []) (g ++ goesOf (E1.drop i) E2, comesOf E1 E2, !eqAs A1 A2, if eqAs A1 A2 = true then [] else A2) := by
 have he1 := h1.le
 induction d with
 | zero =>
  intro i g hi hg
  rw [List.drop_eq_nil_of_le (by omega)]
  have e0 : g ++ goesOf [] E2 = g := by simp [goesOf]
  rw [e0]
  exact Ev.step (fun k => impl_DeltaOf.l0.eq_2 _ _ _ _ _ _ _ _ _ _ _ _) (eN (dImpl_l1 A1 E1 A2 E2 h1 h2 g E2.length 0 [] (by omega) (by simp)))
 | succ d ih =>
  intro i g hi hg
  have hlt : i < E1.length := by omega
  obtain ⟨t, ht, hh⟩ := entryAt_lt E2 E1[i].f0
  rw [List.drop_eq_getElem_cons hlt, goes_cons]
  refine Ev.step (fun k => impl_DeltaOf.l0.eq_2 _ _ _ _ _ _ _ _ _ _ _ _) (eP (eP (eP ?_)))
  rw [en_get E1 i hlt, w6 (n := (i : Int) + 1)]
  refine evCall ht ?_
  cases q : hasStem E2 E1[i].f0 with
  | true => exact evNeg (fun c => by rw [hh.1 c] at q; cases q) (ih (i + 1) g (by omega) (by omega))
  | false =>
   refine evPos (hh.2 q) (eP ?_)
   refine evTo (ih (i + 1) (g ++ [E1[i].f0]) (by omega) (by simp; omega)) ?_
   rw [List.append_assoc]
   rfl
theorem deltaOf_impl (A1 : List Af) (E1 : List En) (A2 : List Af) (E2 : List En) (h1 : BkSz A1 E1) (h2 : BkSz A2 E2) : Ev (fun k => impl_DeltaOf.f k A1 E1 A2 E2) (deltaV A1 E1 A2 E2) := by
 unfold impl_DeltaOf.f
 refine Ev.bind (bookOk_impl A1 E1 h1) ?_
 by_cases c1 : bookB A1 E1 = true
 ·refine evPos c1 (Ev.bind (bookOk_impl A2 E2 h2) (Ev.step (fun k => impl_DeltaOf.j0.eq_2 _ _ _ _ _ _) ?_))
  by_cases c2 : bookB A2 E2 = true
  ·rw [deltaV_ok c1 c2, c2]
   exact evNeg (by simp) (dImpl_l0 A1 E1 A2 E2 h1 h2 E1.length 0 [] (by omega) (by simp))
  ·rw [deltaV_no (fun q => c2 q.2), Bool.eq_false_iff.2 c2]
   exact evPos rfl (Ev.now _)
 ·rw [deltaV_no (fun q => c1 q.1)]
  exact evNeg c1 (Ev.step (fun k => impl_DeltaOf.j0.eq_2 _ _ _ _ _ _) (evPos rfl (Ev.now _)))
theorem at_loop (l : List En) (s : ByteArray) (ha : AscE l) (hl : l.length ≤ 1048576) (d : Nat) : ∀ i : Nat, i + d = l.length → (∀ j : Nat, j < i → (hj : j < l.length) → ltS l[j].f0 s = true) →
  ∃ v : Int × Bool, Ev (fun k => spec_l5At.l0 k l s (i : Int)) v ∧ v.2 = hasStem l s ∧ (v.2 = true → ∃ n : Nat, v.1 = n ∧ ∃ h : n < l.length, l[n].f0 = s) := by
 induction d with
 | zero =>
  intro i hi hlt
  refine ⟨(i, false), Ev.step (fun k => spec_l5At.l0.eq_2 _ _ _ _) (eN (Ev.now _)), (hasStem_no ?_).symm, fun h => by cases h⟩
  rintro ⟨e, he, rfl⟩
  obtain ⟨j, hj, rfl⟩ := List.mem_iff_getElem.1 he
  have := hlt j (by omega) hj
  rw [ltS_irrefl] at this
  cases this
 | succ d ih =>
  intro i hi hlt
  have hil : i < l.length := by omega
  by_cases c : ltS l[i].f0 s = true
  ·obtain ⟨v, hv, h1, h2⟩ := ih (i + 1) (by omega) (fun j hj hj2 => by
    by_cases q : j = i
    ·subst q
     exact c
    ·exact hlt j (by omega) hj2)
   refine ⟨v, Ev.step (fun k => spec_l5At.l0.eq_2 _ _ _ _) (eP (eP ?_)), h1, h2⟩
   rw [en_get l i hil, w6 (n := (i : Int) + 1)]
   exact evPos c hv
  ·refine ⟨(i, l[i].f0.toList == s.toList), Ev.step (fun k => spec_l5At.l0.eq_2 _ _ _ _) (eP (eP ?_)), ?_, fun h => ⟨i, rfl, hil, ?_⟩⟩
   ·rw [en_get l i hil]
    exact evNeg c (Ev.now _)
   ·show (l[i].f0.toList == s.toList) = _
    rw [toList_beq]
    by_cases q : l[i].f0 = s
    ·rw [decide_eq_true q]
     exact ((hasStem_iff l s).2 ⟨_, List.getElem_mem hil, q⟩).symm
    ·rw [decide_eq_false q]
     refine (hasStem_no ?_).symm
     rintro ⟨e, he, rfl⟩
     obtain ⟨j, hj, rfl⟩ := List.mem_iff_getElem.1 he
     have hp := List.pairwise_iff_getElem.1 ha
     rcases Nat.lt_trichotomy i j with o | o | o
     ·exact c (hp i j hil hj o)
     ·subst o
      exact q rfl
     ·have h1 := hlt j o hj
      rw [ltS_irrefl] at h1
      cases h1
   ·have h' : (l[i].f0.toList == s.toList) = true := h
    rw [toList_beq] at h'
    exact of_decide_eq_true h'
theorem at_ev (l : List En) (s : ByteArray) (ha : AscE l) (hl : l.length ≤ 1048576) : ∃ v : Int × Bool, Ev (fun k => spec_l5At.f k l s) v ∧ v.2 = hasStem l s ∧ (v.2 = true → ∃ n : Nat, v.1 = n ∧ ∃ h : n < l.length, l[n].f0 = s) :=
 at_loop l s ha hl l.length 0 (by omega) (fun j hj => absurd hj (by omega))
theorem dSpec_l1 (A1 : List Af) (E1 : List En) (A2 : List Af) (E2 : List En) (h1 : BkSz A1 E1) (h2 : BkSz A2 E2) (ho1 : AscE E1) (g : List ByteArray) (d : Nat) : ∀ (i : Nat) (c : List En), i + d = E2.length → c.length ≤ i →
  Ev (fun k => spec_DeltaOf.l1 k (i : Int) A1 E1 A2 E2 g c false) (g, c ++ comesOf E1 (E2.drop i), !eqAs A1 A2, if eqAs A1 A2 = true then [] else A2) := by
 have ha1 := h1.la; have he1 := h1.le; have ha2 := h2.la; have he2 := h2.le
 induction d with
 | zero =>
  intro i c hi hc
  rw [List.drop_eq_nil_of_le (by omega)]
  refine Ev.step (fun k => spec_DeltaOf.l1.eq_2 _ _ _ _ _ _ _ _ _) (eN (Ev.bind (eqAs_spec A1 A2 (by omega)) ?_))
  have e0 : c ++ comesOf E1 [] = c := by simp [comesOf]
  rw [e0]
  cases e : eqAs A1 A2 with
  | true => exact evPos rfl (Ev.now _)
  | false => exact evNeg (by simp) (evCall rfl (evPos (by simp only [List.length_nil]; omega) (Ev.now _)))
 | succ d ih =>
  intro i c hi hc
  have hlt : i < E2.length := by omega
  obtain ⟨v, hv, hv2, hv3⟩ := at_ev E1 E2[i].f0 ho1 he1
  rw [List.drop_eq_getElem_cons hlt, comes_cons]
  refine Ev.step (fun k => spec_DeltaOf.l1.eq_2 _ _ _ _ _ _ _ _ _) (eP (eP ?_))
  rw [en_get E2 i hlt]
  refine Ev.bind hv ?_
  have fin : ∀ b : Bool, b = !inE E1 E2[i] → Ev (fun k => spec_DeltaOf.j3 k (i : Int) b A1 E1 A2 E2 g c false) (g, c ++ (if inE E1 E2[i] = true then comesOf E1 (E2.drop (i + 1)) else E2[i] :: comesOf E1 (E2.drop (i + 1))), !eqAs A1 A2, if eqAs A1 A2 = true then [] else A2) := by
   intro b hb
   refine Ev.step (fun k => spec_DeltaOf.j3.eq_2 _ _ _ _ _ _ _ _ _ _) ?_
   rw [en_get E2 i hlt, w6 (n := (i : Int) + 1)]
   cases q : inE E1 E2[i] with
   | true =>
    rw [q] at hb
    subst hb
    exact evNeg (by simp) (ih (i + 1) c (by omega) (by omega))
   | false =>
    rw [q] at hb
    subst hb
    refine evPos rfl (eP (eP (eP ?_)))
    refine evTo (ih (i + 1) (c ++ [E2[i]]) (by omega) (by simp; omega)) ?_
    rw [List.append_assoc]
    rfl
  cases hb : v.2 with
  | true =>
   obtain ⟨n, hn, hnl, hk⟩ := hv3 hb
   refine evPos rfl (eP (eP ?_))
   rw [hn, en_get E1 n hnl]
   refine fin _ ?_
   have e1 : (!(E1[n].f0.toList == E2[i].f0.toList) || (!(E1[n].f1.toList == E2[i].f1.toList))) = !(E1[n].f0.toList == E2[i].f0.toList && (E1[n].f1.toList == E2[i].f1.toList)) := by
    cases E1[n].f0.toList == E2[i].f0.toList <;> cases E1[n].f1.toList == E2[i].f1.toList <;> rfl
   rw [e1]
   congr 1
   rw [Bool.eq_iff_iff, eqE_iff, inE_iff]
   constructor
   ·intro e
    rw [← e]
    exact List.getElem_mem hnl
   ·intro e
    exact ascE_key ho1 (List.getElem_mem hnl) e hk
  | false =>
   rw [hb] at hv2
   refine evNeg (by simp) (fin true ?_)
   have : inE E1 E2[i] = false := by
    cases q : inE E1 E2[i] with
    | false => rfl
    | true =>
     have := (hasStem_iff E1 E2[i].f0).2 ⟨_, (inE_iff _ _).1 q, rfl⟩
     rw [← hv2] at this
     cases this
   rw [this]
   rfl
theorem dSpec_l0 (A1 : List Af) (E1 : List En) (A2 : List Af) (E2 : List En) (h1 : BkSz A1 E1) (h2 : BkSz A2 E2) (ho1 : AscE E1) (ho2 : AscE E2) (d : Nat) : ∀ (i : Nat) (g : List ByteArray), i + d = E1.length → g.length ≤ i →
  Ev (fun k => spec_DeltaOf.l0 k (i : Int) A1 E1 A2 E2 g false) (g ++ goesOf (E1.drop i) E2, comesOf E1 E2, !eqAs A1 A2, if eqAs A1 A2 = true then [] else A2) := by
 have he1 := h1.le
 induction d with
 | zero =>
  intro i g hi hg
  rw [List.drop_eq_nil_of_le (by omega)]
  have e0 : g ++ goesOf [] E2 = g := by simp [goesOf]
  rw [e0]
  exact Ev.step (fun k => spec_DeltaOf.l0.eq_2 _ _ _ _ _ _ _ _) (eN (dSpec_l1 A1 E1 A2 E2 h1 h2 ho1 g E2.length 0 [] (by omega) (by simp)))
 | succ d ih =>
  intro i g hi hg
  have hlt : i < E1.length := by omega
  obtain ⟨v, hv, hv2, _⟩ := at_ev E2 E1[i].f0 ho2 h2.le
  rw [List.drop_eq_getElem_cons hlt, goes_cons, ← hv2]
  refine Ev.step (fun k => spec_DeltaOf.l0.eq_2 _ _ _ _ _ _ _ _) (eP (eP ?_))
  rw [en_get E1 i hlt, w6 (n := (i : Int) + 1)]
  refine Ev.bind hv ?_
  cases q : v.2 with
  | true => exact evPos rfl (ih (i + 1) g (by omega) (by omega))
  | false =>
   refine evNeg (by simp) (eP ?_)
   refine evTo (ih (i + 1) (g ++ [E1[i].f0]) (by omega) (by simp; omega)) ?_
   rw [List.append_assoc]
   rfl
theorem bookB_asc {A : List Af} {E : List En} (h : bookB A E = true) : AscE E := by
 simp only [bookB, Bool.and_eq_true] at h
 exact ents_asc h.2
theorem deltaOf_spec (A1 : List Af) (E1 : List En) (A2 : List Af) (E2 : List En) (h1 : BkSz A1 E1) (h2 : BkSz A2 E2) : Ev (fun k => spec_DeltaOf.f k A1 E1 A2 E2) (deltaV A1 E1 A2 E2) := by
 unfold spec_DeltaOf.f
 refine Ev.bind (bookOk_spec A1 E1 h1) ?_
 by_cases c1 : bookB A1 E1 = true
 ·refine evPos c1 (Ev.bind (bookOk_spec A2 E2 h2) (Ev.step (fun k => spec_DeltaOf.j0.eq_2 _ _ _ _ _ _ _) ?_))
  by_cases c2 : bookB A2 E2 = true
  ·rw [deltaV_ok c1 c2, c2]
   exact evNeg (by simp) (dSpec_l0 A1 E1 A2 E2 h1 h2 (bookB_asc c1) (bookB_asc c2) E1.length 0 [] (by omega) (by simp))
  ·rw [deltaV_no (fun q => c2 q.2), Bool.eq_false_iff.2 c2]
   exact evPos rfl (Ev.now _)
 ·rw [deltaV_no (fun q => c1 q.1)]
  exact evNeg c1 (Ev.step (fun k => spec_DeltaOf.j0.eq_2 _ _ _ _ _ _ _) (evPos rfl (Ev.now _)))
theorem fill_step {α β : Type} {f : α → β} {xs : List α} {ys : List β} {i : Nat} (z : α) (hl : ys.length = xs.length) (h : ∀ j : Nat, j < i → ys[j]? = (xs.map f)[j]?) (hi : i < xs.length) :
  (ys.set i (f (xs.getD i z))).length = xs.length ∧ ∀ j : Nat, j < i + 1 → (ys.set i (f (xs.getD i z)))[j]? = (xs.map f)[j]? := by
 refine ⟨by simpa using hl, fun j hj => ?_⟩
 by_cases c : i = j
 ·subst c
  simp [hl, hi, List.getD_eq_getElem?_getD]
 ·rw [List.getElem?_set_ne c]
  exact h j (by omega)
theorem fill_end {α β : Type} {f : α → β} {xs : List α} {ys : List β} (hl : ys.length = xs.length) (h : ∀ j : Nat, j < xs.length → ys[j]? = (xs.map f)[j]?) : ys = xs.map f := by
 refine List.ext_getElem? fun j => ?_
 by_cases c : j < xs.length
 ·exact h j c
 ·rw [List.getElem?_eq_none (by omega), List.getElem?_eq_none (by simp; omega)]
theorem szAffix_ev (g : ByteArray) (fr : Bool) (st ad wh : ByteArray) (n : Int) (h0 : 0 ≤ n) (h1 : n ≤ 1048576) (z : g.size ≤ 9223372036854775807 ∧ (True ∧ (st.size ≤ 9223372036854775807 ∧ (ad.size ≤ 9223372036854775807 ∧ wh.size ≤ 9223372036854775807)))) :
  ∃ m, laws_szAffix.f g fr st ad wh n = some m ∧ (m < 0 ∨ (0 ≤ m ∧ m = n - g.size - st.size - ad.size - wh.size)) := by
 obtain ⟨z0, _, z1, z2, z3⟩ := z
 unfold laws_szAffix.f
 rw [w6 (n := n - (g.size : Int))]
 by_cases c0 : n - (g.size : Int) < 0
 ·exact ⟨-1, if_pos c0, .inl (by omega)⟩
 rw [if_neg c0, w6 (n := n - (g.size : Int) - (st.size : Int))]
 by_cases c1 : n - (g.size : Int) - (st.size : Int) < 0
 ·exact ⟨-1, if_pos c1, .inl (by omega)⟩
 rw [if_neg c1, w6 (n := n - (g.size : Int) - (st.size : Int) - (ad.size : Int))]
 by_cases c2 : n - (g.size : Int) - (st.size : Int) - (ad.size : Int) < 0
 ·exact ⟨-1, if_pos c2, .inl (by omega)⟩
 rw [if_neg c2, w6 (n := n - (g.size : Int) - (st.size : Int) - (ad.size : Int) - (wh.size : Int))]
 by_cases c3 : n - (g.size : Int) - (st.size : Int) - (ad.size : Int) - (wh.size : Int) < 0
 ·exact ⟨-1, if_pos c3, .inl (by omega)⟩
 ·exact ⟨_, if_neg c3, .inr ⟨by omega, rfl⟩⟩
abbrev LAf := S103
def cvA (a : LAf) : Af := ⟨a.f0, a.f1, a.f2, a.f3, a.f4⟩
theorem toAffix_loop (l : List LAf) (hl : l.length ≤ 10000000) (d : Nat) : ∀ (i : Nat) (y : List Af), i + d = l.length → y.length = l.length → (∀ j : Nat, j < i → y[j]? = (l.map cvA)[j]?) → Ev (fun k => laws_toAffixS.l0 k l y (i : Int)) (l.map cvA) := by
 induction d with
 | zero =>
  intro i y hi hy h
  exact Ev.step (fun k => laws_toAffixS.l0.eq_2 _ _ _ _) (eN (evTo (Ev.now _) (fill_end hy (fun j hj => h j (by omega)))))
 | succ d ih =>
  intro i y hi hy h
  obtain ⟨h1, h2⟩ := fill_step (f := cvA) z103 hy h (by omega)
  refine Ev.step (fun k => laws_toAffixS.l0.eq_2 _ _ _ _) (eP (eP (evCall rfl (eP ?_))))
  rw [w6]
  exact ih (i + 1) _ (by omega) h1 h2
theorem toAffixs_ev (l : List LAf) (hl : l.length ≤ 10000000) : Ev (fun k => laws_toAffixS.f k l) (l.map cvA) := by
 unfold laws_toAffixS.f
 exact eP (eP (toAffix_loop l hl l.length 0 _ (by omega) (by simp) (fun j hj => absurd hj (by omega))))
theorem eqAffix_loop (l : List Af) (hl : l.length ≤ 10000000) (d : Nat) : ∀ i : Nat, i + d = l.length → Ev (fun k => laws_eqAffixS.l0 k l l (i : Int)) true := by
 induction d with
 | zero =>
  intro i hi
  exact Ev.step (fun k => laws_eqAffixS.l0.eq_2 _ _ _ _) (eN (Ev.now _))
 | succ d ih =>
  intro i hi
  refine Ev.step (fun k => laws_eqAffixS.l0.eq_2 _ _ _ _) (eP (eP (eP (evCall (a := true) (by simp [laws_eqAffix.f]) (evPos rfl ?_)))))
  rw [w6]
  exact ih (i + 1) (by omega)
theorem eqAffixs_ev (l : List Af) (hl : l.length ≤ 10000000) : Ev (fun k => laws_eqAffixS.f k l l) true := by
 unfold laws_eqAffixS.f
 exact evPos rfl (eqAffix_loop l hl l.length 0 (by omega))
theorem szAffixs_loop (l : List LAf) (hl : l.length ≤ 10000000) (he : ∀ s ∈ l, (s.f0.size ≤ 9223372036854775807 ∧ (True ∧ (s.f2.size ≤ 9223372036854775807 ∧ (s.f3.size ≤ 9223372036854775807 ∧ s.f4.size ≤ 9223372036854775807))))) (d : Nat) : ∀ (i : Nat) (n : Int), i + d = l.length → 0 ≤ n → n ≤ 1048576 → ∃ m, Ev (fun k => laws_szAffixS.l0 k l n (i : Int)) m ∧ (m < 0 ∨ (0 ≤ m ∧ m ≤ 1048576 ∧ ∀ s ∈ l.drop i, (s.f0.size ≤ 1048576 ∧ s.f2.size ≤ 1048576 ∧ s.f3.size ≤ 1048576 ∧ s.f4.size ≤ 1048576))) := by
 induction d with
 | zero =>
  intro i n hi h0 h1
  exact ⟨n, Ev.step (fun k => laws_szAffixS.l0.eq_2 _ _ _ _) (eN (Ev.now _)), .inr ⟨h0, h1, fun s hs => by rw [List.drop_eq_nil_of_le (by omega)] at hs; cases hs⟩⟩
 | succ d ih =>
  intro i n hi h0 h1
  have hlt : i < l.length := by omega
  have e : rd_T103 l (i : Int) = l[i] := by simp [rd_T103, List.getD_eq_getElem?_getD, hlt]
  have hw := he _ (List.getElem_mem hlt)
  obtain ⟨m, hm, hz⟩ := szAffix_ev l[i].f0 l[i].f1 l[i].f2 l[i].f3 l[i].f4 n h0 h1 hw
  by_cases c : m < 0
  ·refine ⟨-1, Ev.step (fun k => laws_szAffixS.l0.eq_2 _ _ _ _) (eP (eP ?_)), .inl (by omega)⟩
   rw [e]
   exact evCall hm (evPos c (Ev.now _))
  ·have hz' := hz.resolve_left c
   obtain ⟨q, hq, hr⟩ := ih (i + 1) m (by omega) (by omega) (by omega)
   refine ⟨q, Ev.step (fun k => laws_szAffixS.l0.eq_2 _ _ _ _) (eP (eP ?_)), hr.elim .inl (fun h => .inr ⟨h.1, h.2.1, fun s hs => ?_⟩)⟩
   ·rw [e]
    refine evCall hm (evNeg c ?_)
    rw [w6]
    exact hq
   ·rw [List.drop_eq_getElem_cons hlt] at hs
    rcases List.mem_cons.1 hs with rfl | hs
    ·omega
    ·exact h.2.2 s hs
theorem szAffixs_ev (l : List LAf) (n : Int) (h0 : 0 ≤ n) (h1 : n ≤ 1048576) (hl : l.length ≤ 9223372036854775807) (he : ∀ s ∈ l, (s.f0.size ≤ 9223372036854775807 ∧ (True ∧ (s.f2.size ≤ 9223372036854775807 ∧ (s.f3.size ≤ 9223372036854775807 ∧ s.f4.size ≤ 9223372036854775807))))) :
  ∃ m, Ev (fun k => laws_szAffixS.f k l n) m ∧ (m < 0 ∨ (0 ≤ m ∧ m ≤ 1048576 ∧ l.length ≤ 1048576 ∧ ∀ s ∈ l, (s.f0.size ≤ 1048576 ∧ s.f2.size ≤ 1048576 ∧ s.f3.size ≤ 1048576 ∧ s.f4.size ≤ 1048576))) := by
 unfold laws_szAffixS.f
 rw [w6 (n := n - (l.length : Int))]
 by_cases c : n - (l.length : Int) < 0
 ·exact ⟨-1, evPos c (Ev.now _), .inl (by omega)⟩
 ·obtain ⟨m, hm, hz⟩ := szAffixs_loop l (by omega) he l.length 0 (n - l.length) (by omega) (by omega) (by omega)
  exact ⟨m, evNeg c hm, hz.elim .inl (fun h => .inr ⟨h.1, h.2.1, by omega, by simpa using h.2.2⟩)⟩
theorem szEntry_ev (a b : ByteArray) (n : Int) (h0 : 0 ≤ n) (h1 : n ≤ 1048576) (z : a.size ≤ 9223372036854775807 ∧ b.size ≤ 9223372036854775807) : ∃ m, laws_szEntry.f a b n = some m ∧ (m < 0 ∨ (0 ≤ m ∧ m = n - a.size - b.size)) := by
 obtain ⟨z0, z1⟩ := z
 unfold laws_szEntry.f
 rw [w6 (n := n - (a.size : Int))]
 by_cases c0 : n - (a.size : Int) < 0
 ·exact ⟨-1, if_pos c0, .inl (by omega)⟩
 rw [if_neg c0, w6 (n := n - (a.size : Int) - (b.size : Int))]
 by_cases c1 : n - (a.size : Int) - (b.size : Int) < 0
 ·exact ⟨-1, if_pos c1, .inl (by omega)⟩
 ·exact ⟨_, if_neg c1, .inr ⟨by omega, rfl⟩⟩
abbrev LEn := S105
def cvN (e : LEn) : En := ⟨e.f0, e.f1⟩
theorem toEntry_loop (l : List LEn) (hl : l.length ≤ 10000000) (d : Nat) : ∀ (i : Nat) (y : List En), i + d = l.length → y.length = l.length → (∀ j : Nat, j < i → y[j]? = (l.map cvN)[j]?) → Ev (fun k => laws_toEntryS.l0 k l y (i : Int)) (l.map cvN) := by
 induction d with
 | zero =>
  intro i y hi hy h
  exact Ev.step (fun k => laws_toEntryS.l0.eq_2 _ _ _ _) (eN (evTo (Ev.now _) (fill_end hy (fun j hj => h j (by omega)))))
 | succ d ih =>
  intro i y hi hy h
  obtain ⟨h1, h2⟩ := fill_step (f := cvN) z105 hy h (by omega)
  refine Ev.step (fun k => laws_toEntryS.l0.eq_2 _ _ _ _) (eP (eP (evCall rfl (eP ?_))))
  rw [w6]
  exact ih (i + 1) _ (by omega) h1 h2
theorem toEntrys_ev (l : List LEn) (hl : l.length ≤ 10000000) : Ev (fun k => laws_toEntryS.f k l) (l.map cvN) := by
 unfold laws_toEntryS.f
 exact eP (eP (toEntry_loop l hl l.length 0 _ (by omega) (by simp) (fun j hj => absurd hj (by omega))))
theorem eqEntry_loop (l : List En) (hl : l.length ≤ 10000000) (d : Nat) : ∀ i : Nat, i + d = l.length → Ev (fun k => laws_eqEntryS.l0 k l l (i : Int)) true := by
 induction d with
 | zero =>
  intro i hi
  exact Ev.step (fun k => laws_eqEntryS.l0.eq_2 _ _ _ _) (eN (Ev.now _))
 | succ d ih =>
  intro i hi
  refine Ev.step (fun k => laws_eqEntryS.l0.eq_2 _ _ _ _) (eP (eP (eP (evCall (a := true) (by simp [laws_eqEntry.f]) (evPos rfl ?_)))))
  rw [w6]
  exact ih (i + 1) (by omega)
theorem eqEntrys_ev (l : List En) (hl : l.length ≤ 10000000) : Ev (fun k => laws_eqEntryS.f k l l) true := by
 unfold laws_eqEntryS.f
 exact evPos rfl (eqEntry_loop l hl l.length 0 (by omega))
theorem szEntrys_loop (l : List LEn) (hl : l.length ≤ 10000000) (he : ∀ s ∈ l, (s.f0.size ≤ 9223372036854775807 ∧ s.f1.size ≤ 9223372036854775807)) (d : Nat) : ∀ (i : Nat) (n : Int), i + d = l.length → 0 ≤ n → n ≤ 1048576 → ∃ m, Ev (fun k => laws_szEntryS.l0 k l n (i : Int)) m ∧ (m < 0 ∨ (0 ≤ m ∧ m ≤ 1048576 ∧ ∀ s ∈ l.drop i, (s.f0.size ≤ 1048576 ∧ s.f1.size ≤ 1048576))) := by
 induction d with
 | zero =>
  intro i n hi h0 h1
  exact ⟨n, Ev.step (fun k => laws_szEntryS.l0.eq_2 _ _ _ _) (eN (Ev.now _)), .inr ⟨h0, h1, fun s hs => by rw [List.drop_eq_nil_of_le (by omega)] at hs; cases hs⟩⟩
 | succ d ih =>
  intro i n hi h0 h1
  have hlt : i < l.length := by omega
  have e : rd_T105 l (i : Int) = l[i] := by simp [rd_T105, List.getD_eq_getElem?_getD, hlt]
  have hw := he _ (List.getElem_mem hlt)
  obtain ⟨m, hm, hz⟩ := szEntry_ev l[i].f0 l[i].f1 n h0 h1 hw
  by_cases c : m < 0
  ·refine ⟨-1, Ev.step (fun k => laws_szEntryS.l0.eq_2 _ _ _ _) (eP (eP ?_)), .inl (by omega)⟩
   rw [e]
   exact evCall hm (evPos c (Ev.now _))
  ·have hz' := hz.resolve_left c
   obtain ⟨q, hq, hr⟩ := ih (i + 1) m (by omega) (by omega) (by omega)
   refine ⟨q, Ev.step (fun k => laws_szEntryS.l0.eq_2 _ _ _ _) (eP (eP ?_)), hr.elim .inl (fun h => .inr ⟨h.1, h.2.1, fun s hs => ?_⟩)⟩
   ·rw [e]
    refine evCall hm (evNeg c ?_)
    rw [w6]
    exact hq
   ·rw [List.drop_eq_getElem_cons hlt] at hs
    rcases List.mem_cons.1 hs with rfl | hs
    ·omega
    ·exact h.2.2 s hs
theorem szEntrys_ev (l : List LEn) (n : Int) (h0 : 0 ≤ n) (h1 : n ≤ 1048576) (hl : l.length ≤ 9223372036854775807) (he : ∀ s ∈ l, (s.f0.size ≤ 9223372036854775807 ∧ s.f1.size ≤ 9223372036854775807)) :
  ∃ m, Ev (fun k => laws_szEntryS.f k l n) m ∧ (m < 0 ∨ (0 ≤ m ∧ m ≤ 1048576 ∧ l.length ≤ 1048576 ∧ ∀ s ∈ l, (s.f0.size ≤ 1048576 ∧ s.f1.size ≤ 1048576))) := by
 unfold laws_szEntryS.f
 rw [w6 (n := n - (l.length : Int))]
 by_cases c : n - (l.length : Int) < 0
 ·exact ⟨-1, evPos c (Ev.now _), .inl (by omega)⟩
 ·obtain ⟨m, hm, hz⟩ := szEntrys_loop l (by omega) he l.length 0 (n - l.length) (by omega) (by omega) (by omega)
  exact ⟨m, evNeg c hm, hz.elim .inl (fun h => .inr ⟨h.1, h.2.1, by omega, by simpa using h.2.2⟩)⟩
abbrev bkWf (A : List LAf) (E : List LEn) : Prop := (A.length ≤ 9223372036854775807 ∧ ∀ y1 ∈ A, (y1.f0.size ≤ 9223372036854775807 ∧ (True ∧ (y1.f2.size ≤ 9223372036854775807 ∧ (y1.f3.size ≤ 9223372036854775807 ∧ y1.f4.size ≤ 9223372036854775807))))) ∧ (E.length ≤ 9223372036854775807 ∧ ∀ y2 ∈ E, (y2.f0.size ≤ 9223372036854775807 ∧ y2.f1.size ≤ 9223372036854775807))
theorem szBook_ev (A : List LAf) (E : List LEn) (n : Int) (h0 : 0 ≤ n) (h1 : n ≤ 1048576) (z : bkWf A E) : ∃ m, Ev (fun k => laws_szBook.f k A E n) m ∧ (m < 0 ∨ (0 ≤ m ∧ m ≤ 1048576 ∧ BkSz (A.map cvA) (E.map cvN))) := by
 unfold laws_szBook.f
 obtain ⟨m, hm, hz⟩ := szAffixs_ev A n h0 h1 z.1.1 z.1.2
 by_cases c : m < 0
 ·exact ⟨-1, Ev.bind hm (evPos c (Ev.now _)), .inl (by omega)⟩
 have ha := hz.resolve_left c
 obtain ⟨q, hq, hy⟩ := szEntrys_ev E m ha.1 ha.2.1 z.2.1 z.2.2
 by_cases d : q < 0
 ·exact ⟨-1, Ev.bind hm (evNeg c (Ev.bind hq (evPos d (Ev.now _)))), .inl (by omega)⟩
 have hb := hy.resolve_left d
 refine ⟨q, Ev.bind hm (evNeg c (Ev.bind hq (evNeg d (Ev.now _)))), .inr ⟨hb.1, hb.2.1, by simpa using ha.2.2.1, by simpa using hb.2.2.1, fun s hs => ?_, fun s hs => ?_⟩⟩
 ·obtain ⟨t, ht, rfl⟩ := List.mem_map.1 hs
  exact ha.2.2.2 t ht
 ·obtain ⟨t, ht, rfl⟩ := List.mem_map.1 hs
  exact hb.2.2.2 t ht
theorem toBook_ev (A : List LAf) (E : List LEn) (h : BkSz (A.map cvA) (E.map cvN)) : Ev (fun k => laws_toBook.f k A E) (A.map cvA, E.map cvN) := by
 unfold laws_toBook.f
 have h1 := h.la
 have h2 := h.le
 rw [List.length_map] at h1 h2
 exact Ev.bind (toAffixs_ev A (by omega)) (Ev.bind (toEntrys_ev E (by omega)) (Ev.now _))
theorem eqBook_ev (A : List Af) (E : List En) (h : BkSz A E) : Ev (fun k => laws_eqBook.f k A E A E) true := by
 unfold laws_eqBook.f
 have h1 := h.la
 have h2 := h.le
 exact Ev.bind (eqAffixs_ev A (by omega)) (evPos rfl (Ev.bind (eqEntrys_ev E (by omega)) (evPos rfl (Ev.now _))))
theorem deltaV_len (A1 : List Af) (E1 : List En) (A2 : List Af) (E2 : List En) : (deltaV A1 E1 A2 E2).1.length ≤ 24 ∧ (deltaV A1 E1 A2 E2).2.1.length ≤ 24 ∧ (deltaV A1 E1 A2 E2).2.2.2.length ≤ 8 := by
 by_cases h : bookB A1 E1 = true ∧ bookB A2 E2 = true
 ·rw [deltaV_ok h.1 h.2]
  obtain ⟨la1, le1⟩ := bookB_len h.1
  obtain ⟨la2, le2⟩ := bookB_len h.2
  refine ⟨?_, Nat.le_trans (List.length_filter_le _ _) le2, ?_⟩
  ·show (goesOf E1 E2).length ≤ 24
   unfold goesOf
   rw [List.length_map]
   exact Nat.le_trans (List.length_filter_le _ _) le1
  ·show (if eqAs A1 A2 = true then ([] : List Af) else A2).length ≤ 8
   split
   ·simp
   ·exact la2
 ·rw [deltaV_no h]
  simp
theorem markText_loop (d : Nat) : ∀ (n : Int) (s : ByteArray), 0 ≤ n → n < 2 ^ d → n ≤ 4611686018427387904 → s.size + d ≤ 1000000 → ∃ t, Ev (fun k => laws_markText.l0 k n s) t := by
 induction d with
 | zero =>
  intro n s h0 h1 h2 hs
  exact ⟨_, Ev.step (fun k => laws_markText.l0.eq_2 _ _ _) (evNeg (by simp at h1; omega) (eP (Ev.now _)))⟩
 | succ d ih =>
  intro n s h0 h1 h2 hs
  by_cases c : n > 0
  ·have hd : Int.tdiv n 10 = n / 10 := Int.tdiv_eq_ediv_of_nonneg h0
   have hp : (2 : Int) ^ (d + 1) = 2 ^ d * 2 := Int.pow_succ 2 d
   have hz : ∀ x : Int, (strOfNums [x]).size = 1 := fun _ => rfl
   obtain ⟨t, ht⟩ := ih (n / 10) (strOfNums [(wrap64 (48 + (Int.tmod n 10))) % 256] ++ s) (by omega) (by omega) (by omega) (by rw [size_append, hz]; omega)
   refine ⟨t, Ev.step (fun k => laws_markText.l0.eq_2 _ _ _) (evPos c (evCall rfl (evPos (by rw [hz]; omega) ?_)))⟩
   rw [hd, w6 (n := n / 10)]
   exact ht
  ·exact ⟨_, Ev.step (fun k => laws_markText.l0.eq_2 _ _ _) (evNeg c (eP (Ev.now _)))⟩
theorem markText_some (n : Int) (h1 : n ≤ 4611686018427387904) : ∃ t, Ev (fun k => laws_markText.f k n) t := by
 unfold laws_markText.f
 by_cases c : n ≤ 0
 ·exact ⟨_, evPos c (Ev.now _)⟩
 ·obtain ⟨t, ht⟩ := markText_loop 63 n ⟨#[]⟩ (by omega) (by omega) h1 (by decide)
  exact ⟨t, evNeg c ht⟩
noncomputable def mt (n : Int) : ByteArray := Classical.epsilon (fun t => Ev (fun k => laws_markText.f k n) t)
theorem mt_ev (n : Int) (h1 : n ≤ 4611686018427387904) : Ev (fun k => laws_markText.f k n) (mt n) := Classical.epsilon_spec (p := fun t => Ev (fun k => laws_markText.f k n) t) (markText_some n h1)
noncomputable def marks (n : Int) (d : Nat) : List ByteArray := (List.range d).map (fun j : Nat => mt (n + (j : Int)))
theorem marks_length (n : Int) (d : Nat) : (marks n d).length = d := by simp [marks]
theorem marks_get (n : Int) (d i : Nat) (h : i < d) : rdOf ByteArray.empty (marks n d) (i : Int) = mt (n + i) := by
 rw [ba_get _ i (by rw [marks_length]; exact h)]
 simp [marks]
theorem markStr_loop (l0 : Nat) (d : Nat) : ∀ (i : Nat) (y : List ByteArray), y.length = l0 → i + d = l0 → l0 ≤ 2000000 → (∀ j : Nat, j < i → y[j]? = (marks 1 l0)[j]?) → Ev (fun k => laws_markStringS.l0 k y ((1 : Int) + i) (i : Int)) ((1 : Int) + l0, marks 1 l0) := by
 induction d with
 | zero =>
  intro i y hy hi hl h
  refine Ev.step (fun k => laws_markStringS.l0.eq_2 _ _ _ _) (eN (evTo (Ev.now _) ?_))
  have e : y = marks 1 l0 := by
   refine List.ext_getElem? fun j => ?_
   by_cases c : j < i
   ·exact h j c
   ·rw [List.getElem?_eq_none (by omega), List.getElem?_eq_none (by rw [marks_length]; omega)]
  rw [e, show (1 : Int) + (i : Int) = 1 + (l0 : Int) from by omega]
 | succ d ih =>
  intro i y hy hi hl h
  refine Ev.step (fun k => laws_markStringS.l0.eq_2 _ _ _ _) (eP (Ev.bind (mt_ev _ (by omega)) (eP ?_)))
  rw [w6 (n := (1 : Int) + (i : Int) + 1), w6 (n := (i : Int) + 1), show (1 : Int) + (i : Int) + 1 = 1 + ((i + 1 : Nat) : Int) from by omega]
  refine ih (i + 1) _ (by simpa using hy) (by omega) hl (fun j hj => ?_)
  rw [Int.toNat_natCast]
  by_cases c : i = j
  ·subst c
   rw [List.getElem?_set_self (by omega)]
   simp [marks, show i < l0 from by omega]
  ·rw [List.getElem?_set_ne c]
   exact h j (by omega)
theorem markStrs_ev (l : List ByteArray) (hl : l.length ≤ 2000000) : Ev (fun k => laws_markStringS.f k l 1) ((1 : Int) + l.length, marks 1 l.length) := by
 unfold laws_markStringS.f
 have := markStr_loop l.length l.length 0 l rfl (by omega) hl (fun j hj => absurd hj (by omega))
 simpa using this
theorem held_loop (l0 : Nat) (d : Nat) : ∀ i : Nat, i + d = l0 → l0 ≤ 2000000 → Ev (fun k => laws_heldStringS.l0 k (marks 1 l0) ((1 : Int) + i) (i : Int)) ((1 : Int) + l0) := by
 induction d with
 | zero =>
  intro i hi hl
  refine Ev.step (fun k => laws_heldStringS.l0.eq_2 _ _ _ _) (evNeg (by rw [marks_length]; omega) (evTo (Ev.now _) (by omega)))
 | succ d ih =>
  intro i hi hl
  refine Ev.step (fun k => laws_heldStringS.l0.eq_2 _ _ _ _) (evPos (by rw [marks_length]; omega) (eP (Ev.bind (mt_ev _ (by omega)) (evPos (by rw [marks_get 1 l0 i (by omega)]) ?_))))
  rw [w6 (n := (1 : Int) + (i : Int) + 1), w6 (n := (i : Int) + 1), show (1 : Int) + (i : Int) + 1 = 1 + ((i + 1 : Nat) : Int) from by omega]
  exact ih (i + 1) (by omega) hl
theorem held_ev (n : Nat) (hl : n ≤ 2000000) : Ev (fun k => laws_heldStringS.f k (marks 1 n) 1) ((1 : Int) + n) := by
 unfold laws_heldStringS.f
 have := held_loop n n 0 (by omega) hl
 simpa using this
theorem eqStr_loop (l : List ByteArray) (hl : l.length ≤ 10000000) (d : Nat) : ∀ i : Nat, i + d = l.length → Ev (fun k => laws_eqStringS.l0 k l l (i : Int)) true := by
 induction d with
 | zero =>
  intro i hi
  exact Ev.step (fun k => laws_eqStringS.l0.eq_2 _ _ _ _) (eN (Ev.now _))
 | succ d ih =>
  intro i hi
  refine Ev.step (fun k => laws_eqStringS.l0.eq_2 _ _ _ _) (eP (eP (eP (evPos rfl ?_))))
  rw [w6]
  exact ih (i + 1) (by omega)
theorem eqStrs_ev (l : List ByteArray) (hl : l.length ≤ 10000000) : Ev (fun k => laws_eqStringS.f k l l) true := by
 unfold laws_eqStringS.f
 exact evPos rfl (eqStr_loop l hl l.length 0 (by omega))
theorem eqEn_loop (l : List En) (hl : l.length ≤ 10000000) (d : Nat) : ∀ i : Nat, i + d = l.length → Ev (fun k => laws_eqEntryS.l0 k l l (i : Int)) true := by
 induction d with
 | zero =>
  intro i hi
  exact Ev.step (fun k => laws_eqEntryS.l0.eq_2 _ _ _ _) (eN (Ev.now _))
 | succ d ih =>
  intro i hi
  refine Ev.step (fun k => laws_eqEntryS.l0.eq_2 _ _ _ _) (eP (eP (eP (evCall (a := true) (by simp [laws_eqEntry.f]) (evPos rfl ?_)))))
  rw [w6]
  exact ih (i + 1) (by omega)
theorem eqAf_loop (l : List Af) (hl : l.length ≤ 10000000) (d : Nat) : ∀ i : Nat, i + d = l.length → Ev (fun k => laws_eqAffixS.l0 k l l (i : Int)) true := by
 induction d with
 | zero =>
  intro i hi
  exact Ev.step (fun k => laws_eqAffixS.l0.eq_2 _ _ _ _) (eN (Ev.now _))
 | succ d ih =>
  intro i hi
  refine Ev.step (fun k => laws_eqAffixS.l0.eq_2 _ _ _ _) (eP (eP (eP (evCall (a := true) (by simp [laws_eqAffix.f]) (evPos rfl ?_)))))
  rw [w6]
  exact ih (i + 1) (by omega)
noncomputable def mkA (b : Int) : Af := ⟨mt b, ((Int.tmod (b + 1) 3) == 0), mt (b + 1 + 1), mt (b + 1 + 1 + 1), mt (b + 1 + 1 + 1 + 1)⟩
noncomputable def mkE (b : Int) : En := ⟨mt b, mt (b + 1)⟩
noncomputable def mksA (b : Int) (L : Nat) : List Af := (List.range L).map (fun j : Nat => mkA (b + 5 * (j : Int)))
noncomputable def mksE (b : Int) (L : Nat) : List En := (List.range L).map (fun j : Nat => mkE (b + 2 * (j : Int)))
theorem mksA_length (b : Int) (L : Nat) : (mksA b L).length = L := by simp [mksA]
theorem mksE_length (b : Int) (L : Nat) : (mksE b L).length = L := by simp [mksE]
theorem mksA_get (b : Int) (L i : Nat) (h : i < L) : (mksA b L)[i]? = some (mkA (b + 5 * (i : Int))) := by simp [mksA, h]
theorem mksE_get (b : Int) (L i : Nat) (h : i < L) : (mksE b L)[i]? = some (mkE (b + 2 * (i : Int))) := by simp [mksE, h]
theorem mksA_at (b : Int) (L i : Nat) (h : i < L) : rd_T73 (mksA b L) (i : Int) = mkA (b + 5 * (i : Int)) := by
 simp only [rd_T73, List.getD_eq_getElem?_getD, Int.toNat_natCast]
 rw [mksA_get b L i h]
 rfl
theorem mksE_at (b : Int) (L i : Nat) (h : i < L) : rd_T66 (mksE b L) (i : Int) = mkE (b + 2 * (i : Int)) := by
 simp only [rd_T66, List.getD_eq_getElem?_getD, Int.toNat_natCast]
 rw [mksE_get b L i h]
 rfl
theorem afSet (y : List Af) (i : Nat) (h : i < y.length) (v : Af) : rd_T73 (y.set i v) (i : Int) = v := by
 simp [rd_T73, List.getD_eq_getElem?_getD, h]
theorem enSet (y : List En) (i : Nat) (h : i < y.length) (v : En) : rd_T66 (y.set i v) (i : Int) = v := by
 simp [rd_T66, List.getD_eq_getElem?_getD, h]
theorem set_upto {α : Type} {y m : List α} {L i : Nat} {v : α} (hy : y.length = L) (hi : i < L) (h : ∀ j : Nat, j < i → y[j]? = m[j]?) (hv : m[i]? = some v) : ∀ j : Nat, j < i + 1 → (y.set i v)[j]? = m[j]? := by
 intro j hj
 by_cases c : i = j
 ·subst c
  rw [List.getElem?_set_self (by omega), hv]
 ·rw [List.getElem?_set_ne c]
  exact h j (by omega)
theorem all_upto {α : Type} {y m : List α} {L : Nat} (hy : y.length = L) (hm : m.length = L) (h : ∀ j : Nat, j < L → y[j]? = m[j]?) : y = m := by
 refine List.ext_getElem? fun j => ?_
 by_cases c : j < L
 ·exact h j c
 ·rw [List.getElem?_eq_none (by omega), List.getElem?_eq_none (by omega)]
theorem markAfH_loop (b : Int) (hb : 0 ≤ b) (hb2 : b ≤ 10000000) (L : Nat) (hl : L ≤ 1048576) (d : Nat) : ∀ (i : Nat) (y : List Af), y.length = L → i + d = L → (∀ j : Nat, j < i → y[j]? = (mksA b L)[j]?) → Ev (fun k => laws_markAffixS.l0 k y (b + 5 * i) (i : Int)) (b + 5 * L, mksA b L) := by
 induction d with
 | zero =>
  intro i y hy hi h
  have e := all_upto hy (mksA_length b L) (fun j hj => h j (by omega))
  subst e
  exact Ev.step (fun k => laws_markAffixS.l0.eq_2 _ _ _ _) (eN (evTo (Ev.now _) (by rw [show b + 5 * (i : Int) = b + 5 * (L : Int) from by omega])))
 | succ d ih =>
  intro i y hy hi h
  obtain ⟨c, hc⟩ : ∃ c : Int, c = b + 5 * (i : Int) := ⟨_, rfl⟩
  have hc0 : 0 ≤ c ∧ c ≤ 20000000 := by omega
  rw [← hc]
  have hi0 : (0 : Int) ≤ (i : Int) := by omega
  have hi2 : (i : Int) < (y.length : Int) := by omega
  have b1 : c ≤ 4611686018427387904 := by omega
  have hw : ∀ n : Int, n ≤ 100000000 → -100000000 ≤ n → wrap64 n = n := fun n h1 h2 => w6
  have e1 : wrap64 (c + 1) = c + 1 := hw _ (by omega) (by omega)
  have e2 : wrap64 (c + 1 + 1) = c + 1 + 1 := hw _ (by omega) (by omega)
  have e3 : wrap64 (c + 1 + 1 + 1) = c + 1 + 1 + 1 := hw _ (by omega) (by omega)
  have e4 : wrap64 (c + 1 + 1 + 1 + 1) = c + 1 + 1 + 1 + 1 := hw _ (by omega) (by omega)
  have e5 : wrap64 (c + 1 + 1 + 1 + 1 + 1) = b + 5 * ((i + 1 : Nat) : Int) := by rw [hw _ (by omega) (by omega)]; omega
  have e6 : wrap64 ((i : Int) + 1) = ((i + 1 : Nat) : Int) := hw _ (by omega) (by omega)
  have b2 : wrap64 (wrap64 (c + 1) + 1) ≤ 4611686018427387904 := by rw [e1, e2]; omega
  have b3 : wrap64 (wrap64 (wrap64 (c + 1) + 1) + 1) ≤ 4611686018427387904 := by rw [e1, e2, e3]; omega
  have b4 : wrap64 (wrap64 (wrap64 (wrap64 (c + 1) + 1) + 1) + 1) ≤ 4611686018427387904 := by rw [e1, e2, e3, e4]; omega
  have hs := afSet y i (by omega)
  have next := ih (i + 1) (y.set i (mkA (c))) (by simp [hy]) (by omega) (set_upto hy (by omega) h (by rw [hc]; exact mksA_get b L i (by omega)))
  refine Ev.step (fun k => laws_markAffixS.l0.eq_2 _ _ _ _) (evPos hi2 (Ev.bind (mt_ev _ b1) (evPos hi0 (evCall rfl (evCall rfl (Ev.bind (mt_ev _ b2) (evCall rfl (Ev.bind (mt_ev _ b3) (evCall rfl (Ev.bind (mt_ev _ b4) ?_))))))))))
  rw [e1, e2, e3, e4, e5, e6]
  simp only [Int.toNat_natCast, List.set_set, hs]
  exact next
theorem markAfsH (b : Int) (hb : 0 ≤ b) (hb2 : b ≤ 10000000) (l : List Af) (hl : l.length ≤ 1048576) : Ev (fun k => laws_markAffixS.f k l b) (b + 5 * l.length, mksA b l.length) := by
 unfold laws_markAffixS.f
 have := markAfH_loop b hb hb2 l.length hl l.length 0 l rfl (by omega) (fun j hj => absurd hj (by omega))
 simpa using this
theorem markEnH_loop (b : Int) (hb : 0 ≤ b) (hb2 : b ≤ 30000000) (L : Nat) (hl : L ≤ 1048576) (d : Nat) : ∀ (i : Nat) (y : List En), y.length = L → i + d = L → (∀ j : Nat, j < i → y[j]? = (mksE b L)[j]?) → Ev (fun k => laws_markEntryS.l0 k y (b + 2 * (i : Int)) (i : Int)) (b + 2 * (L : Int), mksE b L) := by
 induction d with
 | zero =>
  intro i y hy hi h
  have e := all_upto hy (mksE_length b L) (fun j hj => h j (by omega))
  subst e
  exact Ev.step (fun k => laws_markEntryS.l0.eq_2 _ _ _ _) (eN (evTo (Ev.now _) (by rw [show b + 2 * (i : Int) = b + 2 * (L : Int) from by omega])))
 | succ d ih =>
  intro i y hy hi h
  have hw : ∀ n : Int, n ≤ 100000000 → -100000000 ≤ n → wrap64 n = n := fun n h1 h2 => w6
  have e1 : wrap64 (b + 2 * (i : Int) + 1) = b + 2 * (i : Int) + 1 := hw _ (by omega) (by omega)
  have e5 : wrap64 (b + 2 * (i : Int) + 1 + 1) = b + 2 * ((i + 1 : Nat) : Int) := by rw [hw _ (by omega) (by omega)]; omega
  have e6 : wrap64 ((i : Int) + 1) = ((i + 1 : Nat) : Int) := hw _ (by omega) (by omega)
  have hs := enSet y i (by omega)
  have next := ih (i + 1) (y.set i (mkE (b + 2 * (i : Int)))) (by simp [hy]) (by omega) (set_upto hy (by omega) h (mksE_get b L i (by omega)))
  refine Ev.step (fun k => laws_markEntryS.l0.eq_2 _ _ _ _) (eP (Ev.bind (mt_ev _ (by omega)) (eP (evCall rfl (Ev.bind (mt_ev _ (by rw [e1]; omega)) ?_)))))
  rw [e1, e5, e6]
  simp only [Int.toNat_natCast, List.set_set, hs]
  exact next
theorem markEnsH (b : Int) (hb : 0 ≤ b) (hb2 : b ≤ 30000000) (l : List En) (hl : l.length ≤ 1048576) : Ev (fun k => laws_markEntryS.f k l b) (b + 2 * l.length, mksE b l.length) := by
 unfold laws_markEntryS.f
 have := markEnH_loop b hb hb2 l.length hl l.length 0 l rfl (by omega) (fun j hj => absurd hj (by omega))
 simpa using this
theorem markBookB (b : Int) (hb : 0 ≤ b) (hb2 : b ≤ 10000000) (A : List Af) (E : List En) (h1 : A.length ≤ 1048576) (h2 : E.length ≤ 1048576) : Ev (fun k => laws_markBook.f k A E b) (b + 5 * A.length + 2 * (E.length : Int), mksA b A.length, mksE (b + 5 * A.length) E.length) := by
 unfold laws_markBook.f
 exact Ev.bind (markAfsH b hb (by omega) A h1) (Ev.bind (markEnsH _ (by omega) (by omega) E h2) (Ev.now _))
theorem markDl (G : List ByteArray) (E : List En) (f : Bool) (L : List Af) (h1 : G.length ≤ 1000) (h2 : E.length ≤ 1000) (h3 : L.length ≤ 1000) : Ev (fun k => laws_markDelta.f k G E f L 1) ((1 : Int) + G.length + 2 * (E.length : Int) + 5 * (L.length : Int), marks 1 G.length, mksE ((1 : Int) + G.length) E.length, mksA ((1 : Int) + G.length + 2 * (E.length : Int)) L.length) := by
 unfold laws_markDelta.f
 exact Ev.bind (markStrs_ev G (by omega)) (Ev.bind (markEnsH _ (by omega) (by omega) E (by omega)) (Ev.bind (markAfsH _ (by omega) (by omega) L (by omega)) (Ev.now _)))
theorem heldAf_loop (b : Int) (hb : 0 ≤ b) (hb2 : b ≤ 10000000) (L : Nat) (hl : L ≤ 1048576) (d : Nat) : ∀ i : Nat, i + d = L → Ev (fun k => laws_heldAffixS.l0 k (mksA b L) (b + 5 * i) (i : Int)) (b + 5 * L) := by
 have hlen := mksA_length b L
 induction d with
 | zero =>
  intro i hi
  exact Ev.step (fun k => laws_heldAffixS.l0.eq_2 _ _ _ _) (eN (evTo (Ev.now _) (by rw [show b + 5 * (i : Int) = b + 5 * (L : Int) from by omega])))
 | succ d ih =>
  intro i hi
  obtain ⟨c, hc⟩ : ∃ c : Int, c = b + 5 * (i : Int) := ⟨_, rfl⟩
  have hc0 : 0 ≤ c ∧ c ≤ 20000000 := by omega
  have hi0 : (0 : Int) ≤ (i : Int) := by omega
  have hi2 : (i : Int) < ((mksA b L).length : Int) := by omega
  have b1 : c ≤ 4611686018427387904 := by omega
  have b2 : c + 1 + 1 ≤ 4611686018427387904 := by omega
  have b3 : c + 1 + 1 + 1 ≤ 4611686018427387904 := by omega
  have b4 : c + 1 + 1 + 1 + 1 ≤ 4611686018427387904 := by omega
  have hw : ∀ n : Int, n ≤ 100000000 → -100000000 ≤ n → wrap64 n = n := fun n h1 h2 => w6
  have e1 : wrap64 (c + 1) = c + 1 := hw _ (by omega) (by omega)
  have e2 : wrap64 (c + 1 + 1) = c + 1 + 1 := hw _ (by omega) (by omega)
  have e3 : wrap64 (c + 1 + 1 + 1) = c + 1 + 1 + 1 := hw _ (by omega) (by omega)
  have e4 : wrap64 (c + 1 + 1 + 1 + 1) = c + 1 + 1 + 1 + 1 := hw _ (by omega) (by omega)
  have e5 : wrap64 (c + 1 + 1 + 1 + 1 + 1) = b + 5 * ((i + 1 : Nat) : Int) := by rw [hw _ (by omega) (by omega)]; omega
  have e6 : wrap64 ((i : Int) + 1) = ((i + 1 : Nat) : Int) := hw _ (by omega) (by omega)
  have next := ih (i + 1) (by omega)
  refine Ev.step (fun k => laws_heldAffixS.l0.eq_2 _ _ _ _) ?_
  rw [mksA_at b L i (by omega), ← hc, e1, e2, e3, e4, e5, e6]
  exact evPos hi2 (evPos hi0 (Ev.bind (mt_ev _ b1) (evPos rfl (evNeg (by simp [mkA]) (Ev.bind (mt_ev _ b2) (evPos rfl (Ev.bind (mt_ev _ b3) (evPos rfl (Ev.bind (mt_ev _ b4) (evPos rfl next))))))))))
theorem heldEn_loop (b : Int) (hb : 0 ≤ b) (hb2 : b ≤ 30000000) (L : Nat) (hl : L ≤ 1048576) (d : Nat) : ∀ i : Nat, i + d = L → Ev (fun k => laws_heldEntryS.l0 k (mksE b L) (b + 2 * (i : Int)) (i : Int)) (b + 2 * (L : Int)) := by
 have hlen := mksE_length b L
 induction d with
 | zero =>
  intro i hi
  exact Ev.step (fun k => laws_heldEntryS.l0.eq_2 _ _ _ _) (eN (evTo (Ev.now _) (by rw [show b + 2 * (i : Int) = b + 2 * (L : Int) from by omega])))
 | succ d ih =>
  intro i hi
  have hw : ∀ n : Int, n ≤ 100000000 → -100000000 ≤ n → wrap64 n = n := fun n h1 h2 => w6
  have e1 : wrap64 (b + 2 * (i : Int) + 1) = b + 2 * (i : Int) + 1 := hw _ (by omega) (by omega)
  have e5 : wrap64 (b + 2 * (i : Int) + 1 + 1) = b + 2 * ((i + 1 : Nat) : Int) := by rw [hw _ (by omega) (by omega)]; omega
  have e6 : wrap64 ((i : Int) + 1) = ((i + 1 : Nat) : Int) := hw _ (by omega) (by omega)
  have next := ih (i + 1) (by omega)
  refine Ev.step (fun k => laws_heldEntryS.l0.eq_2 _ _ _ _) ?_
  rw [mksE_at b L i (by omega), e1, e5, e6]
  exact eP (eP (Ev.bind (mt_ev _ (by omega)) (evPos rfl (Ev.bind (mt_ev _ (by omega)) (evPos rfl next)))))
theorem heldDl (g e l : Nat) (f : Bool) (h1 : g ≤ 1000) (h2 : e ≤ 1000) (h3 : l ≤ 1000) : Ev (fun k => laws_heldDelta.f k (marks 1 g) (mksE ((1 : Int) + g) e) f (mksA ((1 : Int) + g + 2 * (e : Int)) l) 1) ((1 : Int) + g + 2 * (e : Int) + 5 * (l : Int)) := by
 have he := heldEn_loop ((1 : Int) + g) (by omega) (by omega) e (by omega) e 0 (by omega)
 have ha := heldAf_loop ((1 : Int) + g + 2 * (e : Int)) (by omega) (by omega) l (by omega) l 0 (by omega)
 unfold laws_heldDelta.f laws_heldAffixS.f laws_heldEntryS.f
 refine Ev.bind (held_ev g (by omega)) (eN (Ev.bind (a := (1 : Int) + g + 2 * (e : Int)) (by simpa using he) (eN (Ev.bind (a := (1 : Int) + g + 2 * (e : Int) + 5 * (l : Int)) (by simpa using ha) (eN (Ev.now _))))))
theorem eqDl_ev (G : List ByteArray) (E : List En) (f : Bool) (L : List Af) (h1 : G.length ≤ 1000) (h2 : E.length ≤ 1000) (h3 : L.length ≤ 1000) : Ev (fun k => laws_eqDelta.f k G E f L G E f L) true := by
 unfold laws_eqDelta.f laws_eqAffixS.f laws_eqEntryS.f
 exact Ev.bind (eqStrs_ev G (by omega)) (evPos rfl (Ev.bind (a := true) (evPos rfl (eqEn_loop E (by omega) E.length 0 (by omega))) (evPos rfl (evNeg (by simp) (Ev.bind (a := true) (evPos rfl (eqAf_loop L (by omega) L.length 0 (by omega))) (evPos rfl (Ev.now _)))))))
theorem FnExactDeltaOf (A : List LAf) (E : List LEn) (B : List LAf) (F : List LEn) (z : bkWf A E) (z2 : bkWf B F) : ∃ k, laws_FnExactDeltaOf.f k A E B F = some true := by
 refine Ev.rounds ?_
 unfold laws_FnExactDeltaOf.f
 obtain ⟨m, hm, hz⟩ := szBook_ev A E 1048576 (by omega) (by omega) z
 refine Ev.bind hm ?_
 by_cases c : m < 0
 ·exact evPos c (Ev.now _)
 obtain ⟨g0, g1, s1⟩ := hz.resolve_left c
 obtain ⟨q, hq, hy⟩ := szBook_ev B F m g0 g1 z2
 refine evNeg c (Ev.bind hq ?_)
 by_cases d : q < 0
 ·exact evPos d (Ev.now _)
 have s2 := (hy.resolve_left d).2.2
 have t1 := toBook_ev A E s1
 have t2 := toBook_ev B F s2
 have di := deltaOf_impl _ _ _ _ s1 s2
 have ds := deltaOf_spec _ _ _ _ s1 s2
 obtain ⟨n1, n2, n3⟩ := deltaV_len (A.map cvA) (E.map cvN) (B.map cvA) (F.map cvN)
 generalize deltaV (A.map cvA) (E.map cvN) (B.map cvA) (F.map cvN) = v at di ds n1 n2 n3
 obtain ⟨G, C, f, L⟩ := v
 have n1 : G.length ≤ 24 := n1
 have n2 : C.length ≤ 24 := n2
 have n3 : L.length ≤ 8 := n3
 have ed := eqDl_ev G C f L (by omega) (by omega) (by omega)
 have e1 := eqBook_ev _ _ s1
 have e2 := eqBook_ev _ _ s2
 have m1 := markBookB 1 (by omega) (by omega) (A.map cvA) (E.map cvN) s1.la s1.le
 have m2 := markBookB ((1 : Int) + 5 * (A.map cvA).length + 2 * ((E.map cvN).length : Int)) (by have := s1.la; have := s1.le; omega) (by have := s1.la; have := s1.le; omega) (B.map cvA) (F.map cvN) s2.la s2.le
 have md := markDl G C f L (by omega) (by omega) (by omega)
 have hd := heldDl G.length C.length L.length f (by omega) (by omega) (by omega)
 refine evNeg d (Ev.bind t1 (Ev.bind t2 (Ev.bind ds (Ev.bind t1 (Ev.bind t2 (Ev.bind di (Ev.bind ed (evPos rfl ?_))))))))
 refine Ev.bind t1 (Ev.bind e1 (evPos rfl (Ev.bind t2 (Ev.bind e2 (evPos rfl (Ev.bind m1 (Ev.bind m2 (eN (Ev.bind ed ?_)))))))))
 refine Ev.step (fun k => laws_FnExactDeltaOf.j0.eq_2 _ _ _ _ _ _ _ _ _ _ _ _ _ _) (evNeg (by simp) (Ev.bind md (Ev.bind hd (eN (evPos rfl ?_)))))
 exact Ev.bind t1 (Ev.bind t2 (Ev.bind di (Ev.bind ed (evPos rfl (Ev.bind hd (eN (evPos rfl (Ev.now _))))))))
end Go.Proofs.Ytdfnijaacnlfaaa.Pure

/- Check answers as the reference, of every book and text, leaves the book as it was, and its answer is its own. No condition. -/
import Derived.Test.YtfpmfaelodfecaaGreatDoorQFnExactCheckx21
import Derived.Test.YtfpmfaelodfecaaGreatDoorVMBas
import Derived.Test.YtfpmfaelodfecaaGreatDoorVMStr
import Derived.Test.YtfpmfaelodfecaaGreatDoorVMAff
import Derived.Test.YtfpmfaelodfecaaGreatDoorVMSml
import Derived.Test.YtfpmfaelodfecaaGreatDoorVMSrt
namespace Go.Proofs.YtfpmfaelodfecaaGreatDoor.Pure
open Go.RowKit Go.Proofs.YtfpmfaelodfecaaGreatDoor.QFnExactCheck Go.Proofs.YtfpmfaelodfecaaGreatDoorW.PrintWords Go.Proofs.YtfpmfaelodfecaaGreatDoorW.PrintLast Go.Proofs.YtfpmfaelodfecaaGreatDoorW.PrintMore Go.Proofs.YtfpmfaelodfecaaGreatDoor.M
set_option linter.unusedVariables false
set_option linter.unusedSimpArgs false
theorem fill_step {α β : Type} {f : α → β} {xs : List α} {ys : List β} {i : Nat} (z : α) (hl : ys.length = xs.length) (h : ∀ j : Nat, j < i → ys[j]? = (xs.map f)[j]?) (hi : i < xs.length) :
  (ys.set i (f (xs.getD i z))).length = xs.length ∧ ∀ j : Nat, j < i + 1 → (ys.set i (f (xs.getD i z)))[j]? = (xs.map f)[j]? := by
 refine ⟨by simpa using hl, fun j hj => ?_⟩
 by_cases c : i = j
 ·subst c
  simp [hl, hi, List.getD_eq_getElem?_getD]
 ·rw [List.getElem?_set_ne c]
  exact h j (by omega)
theorem fill_end {α β : Type} {f : α → β} {xs : List α} {ys : List β} (hl : ys.length = xs.length) (h : ∀ j : Nat, j < xs.length → ys[j]? = (xs.map f)[j]?) : ys = xs.map f := by
 refine List.ext_getElem? fun j => ?_
 by_cases c : j < xs.length
 ·exact h j c
 ·rw [List.getElem?_eq_none (by omega), List.getElem?_eq_none (by simp; omega)]
theorem szAffix_ev (g : ByteArray) (fr : Bool) (st ad wh : ByteArray) (n : Int) (h0 : 0 ≤ n) (h1 : n ≤ 1048576) (z : g.size ≤ 9223372036854775807 ∧ (True ∧ (st.size ≤ 9223372036854775807 ∧ (ad.size ≤ 9223372036854775807 ∧ wh.size ≤ 9223372036854775807)))) :
  ∃ m, laws_szAffix.f g fr st ad wh n = some m ∧ (m < 0 ∨ (0 ≤ m ∧ m = n - g.size - st.size - ad.size - wh.size)) := by
 obtain ⟨z0, _, z1, z2, z3⟩ := z
 unfold laws_szAffix.f
 rw [w6 (n := n - (g.size : Int))]
 by_cases c0 : n - (g.size : Int) < 0
 ·exact ⟨-1, if_pos c0, .inl (by omega)⟩
 rw [if_neg c0, w6 (n := n - (g.size : Int) - (st.size : Int))]
 by_cases c1 : n - (g.size : Int) - (st.size : Int) < 0
 ·exact ⟨-1, if_pos c1, .inl (by omega)⟩
 rw [if_neg c1, w6 (n := n - (g.size : Int) - (st.size : Int) - (ad.size : Int))]
 by_cases c2 : n - (g.size : Int) - (st.size : Int) - (ad.size : Int) < 0
 ·exact ⟨-1, if_pos c2, .inl (by omega)⟩
 rw [if_neg c2, w6 (n := n - (g.size : Int) - (st.size : Int) - (ad.size : Int) - (wh.size : Int))]
 by_cases c3 : n - (g.size : Int) - (st.size : Int) - (ad.size : Int) - (wh.size : Int) < 0
 ·exact ⟨-1, if_pos c3, .inl (by omega)⟩
 ·exact ⟨_, if_neg c3, .inr ⟨by omega, rfl⟩⟩
abbrev Af := S82
abbrev LAf := S73
def cvA (a : LAf) : Af := ⟨a.f0, a.f1, a.f2, a.f3, a.f4⟩
theorem toAffix_loop (l : List LAf) (hl : l.length ≤ 10000000) (d : Nat) : ∀ (i : Nat) (y : List Af), i + d = l.length → y.length = l.length → (∀ j : Nat, j < i → y[j]? = (l.map cvA)[j]?) → Ev (fun k => laws_toAffixS.l0 k l y (i : Int)) (l.map cvA) := by
 induction d with
 | zero =>
  intro i y hi hy h
  exact Ev.step (fun k => laws_toAffixS.l0.eq_2 _ _ _ _) (eN (evTo (Ev.now _) (fill_end hy (fun j hj => h j (by omega)))))
 | succ d ih =>
  intro i y hi hy h
  obtain ⟨h1, h2⟩ := fill_step (f := cvA) z73 hy h (by omega)
  refine Ev.step (fun k => laws_toAffixS.l0.eq_2 _ _ _ _) (eP (eP (evCall rfl (eP ?_))))
  rw [w6]
  exact ih (i + 1) _ (by omega) h1 h2
theorem toAffixs_ev (l : List LAf) (hl : l.length ≤ 10000000) : Ev (fun k => laws_toAffixS.f k l) (l.map cvA) := by
 unfold laws_toAffixS.f
 exact eP (eP (toAffix_loop l hl l.length 0 _ (by omega) (by simp) (fun j hj => absurd hj (by omega))))
theorem eqAffix_loop (l : List Af) (hl : l.length ≤ 10000000) (d : Nat) : ∀ i : Nat, i + d = l.length → Ev (fun k => laws_eqAffixS.l0 k l l (i : Int)) true := by
 induction d with
 | zero =>
  intro i hi
  exact Ev.step (fun k => laws_eqAffixS.l0.eq_2 _ _ _ _) (eN (Ev.now _))
 | succ d ih =>
  intro i hi
  refine Ev.step (fun k => laws_eqAffixS.l0.eq_2 _ _ _ _) (eP (eP (eP (evCall (a := true) (by simp [laws_eqAffix.f]) (evPos rfl ?_)))))
  rw [w6]
  exact ih (i + 1) (by omega)
theorem eqAffixs_ev (l : List Af) (hl : l.length ≤ 10000000) : Ev (fun k => laws_eqAffixS.f k l l) true := by
 unfold laws_eqAffixS.f
 exact evPos rfl (eqAffix_loop l hl l.length 0 (by omega))
theorem szAffixs_loop (l : List LAf) (hl : l.length ≤ 10000000) (he : ∀ s ∈ l, (s.f0.size ≤ 9223372036854775807 ∧ (True ∧ (s.f2.size ≤ 9223372036854775807 ∧ (s.f3.size ≤ 9223372036854775807 ∧ s.f4.size ≤ 9223372036854775807))))) (d : Nat) : ∀ (i : Nat) (n : Int), i + d = l.length → 0 ≤ n → n ≤ 1048576 → ∃ m, Ev (fun k => laws_szAffixS.l0 k l n (i : Int)) m ∧ (m < 0 ∨ (0 ≤ m ∧ m ≤ 1048576 ∧ ∀ s ∈ l.drop i, (s.f0.size ≤ 1048576 ∧ s.f2.size ≤ 1048576 ∧ s.f3.size ≤ 1048576 ∧ s.f4.size ≤ 1048576))) := by
 induction d with
 | zero =>
  intro i n hi h0 h1
  exact ⟨n, Ev.step (fun k => laws_szAffixS.l0.eq_2 _ _ _ _) (eN (Ev.now _)), .inr ⟨h0, h1, fun s hs => by rw [List.drop_eq_nil_of_le (by omega)] at hs; cases hs⟩⟩
 | succ d ih =>
  intro i n hi h0 h1
  have hlt : i < l.length := by omega
  have e : rd_T73 l (i : Int) = l[i] := by simp [rd_T73, List.getD_eq_getElem?_getD, hlt]
  have hw := he _ (List.getElem_mem hlt)
  obtain ⟨m, hm, hz⟩ := szAffix_ev l[i].f0 l[i].f1 l[i].f2 l[i].f3 l[i].f4 n h0 h1 hw
  by_cases c : m < 0
  ·refine ⟨-1, Ev.step (fun k => laws_szAffixS.l0.eq_2 _ _ _ _) (eP (eP ?_)), .inl (by omega)⟩
   rw [e]
   exact evCall hm (evPos c (Ev.now _))
  ·have hz' := hz.resolve_left c
   obtain ⟨q, hq, hr⟩ := ih (i + 1) m (by omega) (by omega) (by omega)
   refine ⟨q, Ev.step (fun k => laws_szAffixS.l0.eq_2 _ _ _ _) (eP (eP ?_)), hr.elim .inl (fun h => .inr ⟨h.1, h.2.1, fun s hs => ?_⟩)⟩
   ·rw [e]
    refine evCall hm (evNeg c ?_)
    rw [w6]
    exact hq
   ·rw [List.drop_eq_getElem_cons hlt] at hs
    rcases List.mem_cons.1 hs with rfl | hs
    ·omega
    ·exact h.2.2 s hs
theorem szAffixs_ev (l : List LAf) (n : Int) (h0 : 0 ≤ n) (h1 : n ≤ 1048576) (hl : l.length ≤ 9223372036854775807) (he : ∀ s ∈ l, (s.f0.size ≤ 9223372036854775807 ∧ (True ∧ (s.f2.size ≤ 9223372036854775807 ∧ (s.f3.size ≤ 9223372036854775807 ∧ s.f4.size ≤ 9223372036854775807))))) :
  ∃ m, Ev (fun k => laws_szAffixS.f k l n) m ∧ (m < 0 ∨ (0 ≤ m ∧ m ≤ 1048576 ∧ l.length ≤ 1048576 ∧ ∀ s ∈ l, (s.f0.size ≤ 1048576 ∧ s.f2.size ≤ 1048576 ∧ s.f3.size ≤ 1048576 ∧ s.f4.size ≤ 1048576))) := by
 unfold laws_szAffixS.f
 rw [w6 (n := n - (l.length : Int))]
 by_cases c : n - (l.length : Int) < 0
 ·exact ⟨-1, evPos c (Ev.now _), .inl (by omega)⟩
 ·obtain ⟨m, hm, hz⟩ := szAffixs_loop l (by omega) he l.length 0 (n - l.length) (by omega) (by omega) (by omega)
  exact ⟨m, evNeg c hm, hz.elim .inl (fun h => .inr ⟨h.1, h.2.1, by omega, by simpa using h.2.2⟩)⟩
theorem szEntry_ev (a b : ByteArray) (n : Int) (h0 : 0 ≤ n) (h1 : n ≤ 1048576) (z : a.size ≤ 9223372036854775807 ∧ b.size ≤ 9223372036854775807) : ∃ m, laws_szEntry.f a b n = some m ∧ (m < 0 ∨ (0 ≤ m ∧ m = n - a.size - b.size)) := by
 obtain ⟨z0, z1⟩ := z
 unfold laws_szEntry.f
 rw [w6 (n := n - (a.size : Int))]
 by_cases c0 : n - (a.size : Int) < 0
 ·exact ⟨-1, if_pos c0, .inl (by omega)⟩
 rw [if_neg c0, w6 (n := n - (a.size : Int) - (b.size : Int))]
 by_cases c1 : n - (a.size : Int) - (b.size : Int) < 0
 ·exact ⟨-1, if_pos c1, .inl (by omega)⟩
 ·exact ⟨_, if_neg c1, .inr ⟨by omega, rfl⟩⟩
abbrev En := S78
abbrev LEn := S76
def cvN (e : LEn) : En := ⟨e.f0, e.f1⟩
theorem toEntry_loop (l : List LEn) (hl : l.length ≤ 10000000) (d : Nat) : ∀ (i : Nat) (y : List En), i + d = l.length → y.length = l.length → (∀ j : Nat, j < i → y[j]? = (l.map cvN)[j]?) → Ev (fun k => laws_toEntryS.l0 k l y (i : Int)) (l.map cvN) := by
 induction d with
 | zero =>
  intro i y hi hy h
  exact Ev.step (fun k => laws_toEntryS.l0.eq_2 _ _ _ _) (eN (evTo (Ev.now _) (fill_end hy (fun j hj => h j (by omega)))))
 | succ d ih =>
  intro i y hi hy h
  obtain ⟨h1, h2⟩ := fill_step (f := cvN) z76 hy h (by omega)
  refine Ev.step (fun k => laws_toEntryS.l0.eq_2 _ _ _ _) (eP (eP (evCall rfl (eP ?_))))
  rw [w6]
  exact ih (i + 1) _ (by omega) h1 h2
theorem toEntrys_ev (l : List LEn) (hl : l.length ≤ 10000000) : Ev (fun k => laws_toEntryS.f k l) (l.map cvN) := by
 unfold laws_toEntryS.f
 exact eP (eP (toEntry_loop l hl l.length 0 _ (by omega) (by simp) (fun j hj => absurd hj (by omega))))
theorem eqEntry_loop (l : List En) (hl : l.length ≤ 10000000) (d : Nat) : ∀ i : Nat, i + d = l.length → Ev (fun k => laws_eqEntryS.l0 k l l (i : Int)) true := by
 induction d with
 | zero =>
  intro i hi
  exact Ev.step (fun k => laws_eqEntryS.l0.eq_2 _ _ _ _) (eN (Ev.now _))
 | succ d ih =>
  intro i hi
  refine Ev.step (fun k => laws_eqEntryS.l0.eq_2 _ _ _ _) (eP (eP (eP (evCall (a := true) (by simp [laws_eqEntry.f]) (evPos rfl ?_)))))
  rw [w6]
  exact ih (i + 1) (by omega)
theorem eqEntrys_ev (l : List En) (hl : l.length ≤ 10000000) : Ev (fun k => laws_eqEntryS.f k l l) true := by
 unfold laws_eqEntryS.f
 exact evPos rfl (eqEntry_loop l hl l.length 0 (by omega))
theorem szEntrys_loop (l : List LEn) (hl : l.length ≤ 10000000) (he : ∀ s ∈ l, (s.f0.size ≤ 9223372036854775807 ∧ s.f1.size ≤ 9223372036854775807)) (d : Nat) : ∀ (i : Nat) (n : Int), i + d = l.length → 0 ≤ n → n ≤ 1048576 → ∃ m, Ev (fun k => laws_szEntryS.l0 k l n (i : Int)) m ∧ (m < 0 ∨ (0 ≤ m ∧ m ≤ 1048576 ∧ ∀ s ∈ l.drop i, (s.f0.size ≤ 1048576 ∧ s.f1.size ≤ 1048576))) := by
 induction d with
 | zero =>
  intro i n hi h0 h1
  exact ⟨n, Ev.step (fun k => laws_szEntryS.l0.eq_2 _ _ _ _) (eN (Ev.now _)), .inr ⟨h0, h1, fun s hs => by rw [List.drop_eq_nil_of_le (by omega)] at hs; cases hs⟩⟩
 | succ d ih =>
  intro i n hi h0 h1
  have hlt : i < l.length := by omega
  have e : rd_T76 l (i : Int) = l[i] := by simp [rd_T76, List.getD_eq_getElem?_getD, hlt]
  have hw := he _ (List.getElem_mem hlt)
  obtain ⟨m, hm, hz⟩ := szEntry_ev l[i].f0 l[i].f1 n h0 h1 hw
  by_cases c : m < 0
  ·refine ⟨-1, Ev.step (fun k => laws_szEntryS.l0.eq_2 _ _ _ _) (eP (eP ?_)), .inl (by omega)⟩
   rw [e]
   exact evCall hm (evPos c (Ev.now _))
  ·have hz' := hz.resolve_left c
   obtain ⟨q, hq, hr⟩ := ih (i + 1) m (by omega) (by omega) (by omega)
   refine ⟨q, Ev.step (fun k => laws_szEntryS.l0.eq_2 _ _ _ _) (eP (eP ?_)), hr.elim .inl (fun h => .inr ⟨h.1, h.2.1, fun s hs => ?_⟩)⟩
   ·rw [e]
    refine evCall hm (evNeg c ?_)
    rw [w6]
    exact hq
   ·rw [List.drop_eq_getElem_cons hlt] at hs
    rcases List.mem_cons.1 hs with rfl | hs
    ·omega
    ·exact h.2.2 s hs
theorem szEntrys_ev (l : List LEn) (n : Int) (h0 : 0 ≤ n) (h1 : n ≤ 1048576) (hl : l.length ≤ 9223372036854775807) (he : ∀ s ∈ l, (s.f0.size ≤ 9223372036854775807 ∧ s.f1.size ≤ 9223372036854775807)) :
  ∃ m, Ev (fun k => laws_szEntryS.f k l n) m ∧ (m < 0 ∨ (0 ≤ m ∧ m ≤ 1048576 ∧ l.length ≤ 1048576 ∧ ∀ s ∈ l, (s.f0.size ≤ 1048576 ∧ s.f1.size ≤ 1048576))) := by
 unfold laws_szEntryS.f
 rw [w6 (n := n - (l.length : Int))]
 by_cases c : n - (l.length : Int) < 0
 ·exact ⟨-1, evPos c (Ev.now _), .inl (by omega)⟩
 ·obtain ⟨m, hm, hz⟩ := szEntrys_loop l (by omega) he l.length 0 (n - l.length) (by omega) (by omega) (by omega)
  exact ⟨m, evNeg c hm, hz.elim .inl (fun h => .inr ⟨h.1, h.2.1, by omega, by simpa using h.2.2⟩)⟩
structure BkSz (A : List Af) (E : List En) : Prop where
 la : A.length ≤ 1048576
 le : E.length ≤ 1048576
 a : ∀ s ∈ A, (s.f0.size ≤ 1048576 ∧ s.f2.size ≤ 1048576 ∧ s.f3.size ≤ 1048576 ∧ s.f4.size ≤ 1048576)
 e : ∀ s ∈ E, (s.f0.size ≤ 1048576 ∧ s.f1.size ≤ 1048576)
abbrev bkWf (A : List LAf) (E : List LEn) : Prop := (A.length ≤ 9223372036854775807 ∧ ∀ y1 ∈ A, (y1.f0.size ≤ 9223372036854775807 ∧ (True ∧ (y1.f2.size ≤ 9223372036854775807 ∧ (y1.f3.size ≤ 9223372036854775807 ∧ y1.f4.size ≤ 9223372036854775807))))) ∧ (E.length ≤ 9223372036854775807 ∧ ∀ y2 ∈ E, (y2.f0.size ≤ 9223372036854775807 ∧ y2.f1.size ≤ 9223372036854775807))
theorem szBook_ev (A : List LAf) (E : List LEn) (n : Int) (h0 : 0 ≤ n) (h1 : n ≤ 1048576) (z : bkWf A E) : ∃ m, Ev (fun k => laws_szBook.f k A E n) m ∧ (m < 0 ∨ (0 ≤ m ∧ m ≤ 1048576 ∧ BkSz (A.map cvA) (E.map cvN))) := by
 unfold laws_szBook.f
 obtain ⟨m, hm, hz⟩ := szAffixs_ev A n h0 h1 z.1.1 z.1.2
 by_cases c : m < 0
 ·exact ⟨-1, Ev.bind hm (evPos c (Ev.now _)), .inl (by omega)⟩
 have ha := hz.resolve_left c
 obtain ⟨q, hq, hy⟩ := szEntrys_ev E m ha.1 ha.2.1 z.2.1 z.2.2
 by_cases d : q < 0
 ·exact ⟨-1, Ev.bind hm (evNeg c (Ev.bind hq (evPos d (Ev.now _)))), .inl (by omega)⟩
 have hb := hy.resolve_left d
 refine ⟨q, Ev.bind hm (evNeg c (Ev.bind hq (evNeg d (Ev.now _)))), .inr ⟨hb.1, hb.2.1, by simpa using ha.2.2.1, by simpa using hb.2.2.1, fun s hs => ?_, fun s hs => ?_⟩⟩
 ·obtain ⟨t, ht, rfl⟩ := List.mem_map.1 hs
  exact ha.2.2.2 t ht
 ·obtain ⟨t, ht, rfl⟩ := List.mem_map.1 hs
  exact hb.2.2.2 t ht
theorem toBook_ev (A : List LAf) (E : List LEn) (h : BkSz (A.map cvA) (E.map cvN)) : Ev (fun k => laws_toBook.f k A E) (A.map cvA, E.map cvN) := by
 unfold laws_toBook.f
 have h1 := h.la
 have h2 := h.le
 rw [List.length_map] at h1 h2
 exact Ev.bind (toAffixs_ev A (by omega)) (Ev.bind (toEntrys_ev E (by omega)) (Ev.now _))
theorem eqBook_ev (A : List Af) (E : List En) (h : BkSz A E) : Ev (fun k => laws_eqBook.f k A E A E) true := by
 unfold laws_eqBook.f
 have h1 := h.la
 have h2 := h.le
 exact Ev.bind (eqAffixs_ev A (by omega)) (evPos rfl (Ev.bind (eqEntrys_ev E (by omega)) (evPos rfl (Ev.now _))))
theorem ba_get (l : List ByteArray) (i : Nat) (h : i < l.length) : rdOf ByteArray.empty l (i : Int) = l[i] := by simp [rdOf, List.getD_eq_getElem?_getD, List.getElem?_eq_getElem h]
theorem ba_at {P : ByteArray → Prop} {l : List ByteArray} (h : ∀ s ∈ l, P s) (i : Nat) (hi : i < l.length) : P (rdOf ByteArray.empty l (i : Int)) := by
 rw [ba_get l i hi]
 exact h _ (List.getElem_mem hi)
theorem letters_loop (s : ByteArray) (m : Int) (h : s.size ≤ 281474976710656) (d : Nat) : ∀ i : Int, 0 ≤ i → i ≤ s.size → (s.size : Int) - i = d →
  Ev (fun k => spec_l1Letters.l0 k s m i) (((bytesOf s).drop i.toNat).all low && decide ((s.size : Int) ≤ m)) := by
 induction d with
 | zero =>
  intro i h0 h1 hd
  refine Ev.step (fun k => spec_l1Letters.l0.eq_2 _ _ _ _) (eN ?_)
  rw [List.drop_eq_nil_of_le (by rw [bytesOf_length]; omega)]
  exact evTo (Ev.now _) (by simp)
 | succ d ih =>
  intro i h0 h1 hd
  refine Ev.step (fun k => spec_l1Letters.l0.eq_2 _ _ _ _) (eP (evPos h0 ?_))
  rw [bytes_drop s i h0 (by omega), List.all_cons]
  by_cases c : bt s i < 97
  ·exact evPos c (evTo (Ev.now _) (by simp [low]; omega))
  refine evNeg c ?_
  by_cases c1 : bt s i > 122
  ·exact evPos c1 (evTo (Ev.now _) (by simp [low]; omega))
  refine evNeg c1 ?_
  have e : low (bt s i) = true := (low_iff _).2 (by omega)
  rw [w6, e, Bool.true_and]
  exact ih (i + 1) (by omega) (by omega) (by omega)
theorem letters_spec (s : ByteArray) (m : Int) (h : s.size ≤ 140737488351232) : Ev (fun k => spec_l1Letters.f k s m) ((bytesOf s).all low && decide ((s.size : Int) ≤ m)) :=
 letters_loop s m (by omega) s.size 0 (by omega) (by omega) (by omega)
theorem letters_wide (s : ByteArray) (m : Int) (h : s.size ≤ 281474976710656) : Ev (fun k => spec_l1Letters.f k s m) ((bytesOf s).all low && decide ((s.size : Int) ≤ m)) :=
 letters_loop s m h s.size 0 (by omega) (by omega) (by omega)
theorem l1Word_spec (s : ByteArray) (h : s.size ≤ 140737488351232) : Ev (fun k => spec_l1Word.f k s) (wordB s) := by
 unfold spec_l1Word.f
 by_cases c : (s.size : Int) > 0
 ·have hp : 0 < s.size := by omega
  refine evPos c (Ev.bind (letters_spec s 12 h) (evTo (Ev.now _) ?_))
  simp only [wordB, wordL, bytesOf_length, decide_eq_true hp, Bool.true_and]
  rw [Bool.and_comm]
  congr 1
  exact decide_eq_decide.2 (by omega)
 ·exact evNeg c (evTo (Ev.now _) (wordB_no (by omega)).symm)
theorem l1Word_spec' (s : ByteArray) (h : s.size ≤ 281474976710656) : Ev (fun k => spec_l1Word.f k s) (wordB s) := by
 by_cases c : s.size ≤ 140737488351232
 ·exact l1Word_spec s c
 unfold spec_l1Word.f
 refine eP (Ev.bind (letters_wide s 12 h) (evTo (Ev.now _) ?_))
 rw [wordB_no (by omega), decide_eq_false (by omega), Bool.and_false]
theorem lower_loop (s : ByteArray) (h : s.size ≤ 140737488351232) (d : Nat) : ∀ i : Int, 0 ≤ i → i ≤ s.size → (s.size : Int) - i = d →
  Ev (fun k => impl_lower.l0 k s (s.size : Int) i) (((bytesOf s).drop i.toNat).all low) := by
 induction d with
 | zero =>
  intro i h0 h1 hd
  refine Ev.step (fun k => impl_lower.l0.eq_2 _ _ _ _) (eN ?_)
  rw [List.drop_eq_nil_of_le (by rw [bytesOf_length]; omega)]
  exact evTo (Ev.now _) (by simp)
 | succ d ih =>
  intro i h0 h1 hd
  refine Ev.step (fun k => impl_lower.l0.eq_2 _ _ _ _) (eP (evPos h0 (eP ?_)))
  rw [bytes_drop s i h0 (by omega), List.all_cons]
  by_cases c : bt s i < 97
  ·exact evPos c (evTo (Ev.now _) (by simp [low]; omega))
  refine evNeg c ?_
  by_cases c1 : bt s i > 122
  ·exact evPos c1 (evTo (Ev.now _) (by simp [low]; omega))
  refine evNeg c1 ?_
  have e : low (bt s i) = true := (low_iff _).2 (by omega)
  rw [w6, e, Bool.true_and]
  exact ih (i + 1) (by omega) (by omega) (by omega)
theorem lower_impl (s : ByteArray) (h : s.size ≤ 140737488351232) : Ev (fun k => impl_lower.f k s) ((bytesOf s).all low) :=
 lower_loop s h s.size 0 (by omega) (by omega) (by omega)
theorem within_impl (n a b : Int) : impl_within.f n a b = some (decide (a ≤ n) && decide (n ≤ b)) := by
 unfold impl_within.f
 by_cases c : n ≥ a
 ·rw [if_pos c]; simp [c]
 ·rw [if_neg c]; simp; omega
theorem word_impl (s : ByteArray) (h : s.size ≤ 140737488351232) : Ev (fun k => impl_WordOk.f k s) (wordB s) := by
 unfold impl_WordOk.f
 refine evCall (within_impl _ _ _) ?_
 by_cases c : (1 ≤ (s.size : Int) ∧ (s.size : Int) ≤ 12)
 ·have hp : 0 < s.size := by omega
  have hq : s.size ≤ 12 := by omega
  refine evPos (by simp; omega) (Ev.bind (lower_impl s h) (evTo (Ev.now _) ?_))
  simp only [wordB, wordL, bytesOf_length, decide_eq_true hp, decide_eq_true hq, Bool.true_and]
 ·exact evNeg (by simp; omega) (evTo (Ev.now _) (wordB_no (by omega)).symm)
theorem word_impl' (s : ByteArray) (h : s.size ≤ 281474976710656) : Ev (fun k => impl_WordOk.f k s) (wordB s) := by
 by_cases c : s.size ≤ 140737488351232
 ·exact word_impl s c
 ·unfold impl_WordOk.f
  refine evCall (within_impl _ _ _) ?_
  exact evNeg (by simp; omega) (evTo (Ev.now _) (wordB_no (by omega)).symm)
abbrev Gu := S43
theorem gu_get (l : List Gu) (i : Nat) (h : i < l.length) : rd_T43 l (i : Int) = l[i] := by simp [rd_T43, List.getD_eq_getElem?_getD, List.getElem?_eq_getElem h]
theorem flag_spec (s : ByteArray) : spec_l2Flag.f s = some (flagB s) := by
 unfold spec_l2Flag.f
 by_cases c : (s.size : Int) = 1
 ·rw [if_pos c, if_pos (by omega)]
  by_cases e : bt s 0 ≥ 65
  ·rw [if_pos e]
   simp [flagB, e]
   omega
  ·rw [if_neg e]
   simp [flagB, e]
 ·rw [if_neg c]
  simp [flagB]
  omega
theorem begins_spec (s p : ByteArray) : spec_l2Begins.f s p = some (begB s p) := by
 unfold spec_l2Begins.f
 by_cases c : (s.size : Int) ≥ (p.size : Int)
 ·rw [if_pos c, if_pos (by omega), if_pos (by omega), toList_beq]
  try rw [Int.toNat_natCast]
  simp [begB]
  omega
 ·rw [if_neg c]
  simp [begB]
  omega
theorem ends_spec (s p : ByteArray) (h : s.size ≤ 1407374883512320) : spec_l2Ends.f s p = some (endB s p) := by
 unfold spec_l2Ends.f
 by_cases c : (s.size : Int) ≥ (p.size : Int)
 ·rw [if_pos c, w6, if_pos (by omega), if_pos (by omega), toList_beq, show ((s.size : Int) - (p.size : Int)).toNat = s.size - p.size from by omega]
  simp [endB]
  omega
 ·rw [if_neg c]
  simp [endB]
  omega
theorem letters4 (s : ByteArray) (h : s.size ≤ 140737488351232) : Ev (fun k => spec_l1Letters.f k s 4) (partB s) :=
 evTo (letters_spec s 4 h) (by
  unfold partB
  congr 1
  exact decide_eq_decide.2 (by omega))
theorem affixOk_spec (g : ByteArray) (fr : Bool) (st ad wh : ByteArray) (h1 : st.size ≤ 140737488351232) (h2 : ad.size ≤ 140737488351232) (h3 : wh.size ≤ 140737488351232) :
  Ev (fun k => spec_AffixOk.f k g fr st ad wh) (affOk g fr st ad wh) := by
 have no : ∀ r, r = false → Ev (fun k => spec_AffixOk.j0 k true g fr st ad wh) r := fun r hr => Ev.step (fun k => spec_AffixOk.j0.eq_2 _ _ _ _ _ _ _) (evPos rfl (evTo (Ev.now _) hr.symm))
 unfold spec_AffixOk.f
 refine evCall (flag_spec _) ?_
 cases e1 : flagB g with
 | false => exact evNeg (by simp) (no _ (by simp [affOk, e1]))
 | true =>
  refine evPos rfl (Ev.bind (letters4 st h1) ?_)
  cases e2 : partB st with
  | false => exact evNeg (by simp) (no _ (by simp [affOk, e2]))
  | true =>
   refine evPos rfl (Ev.bind (letters4 ad h2) ?_)
   cases e3 : partB ad with
   | false => exact evNeg (by simp) (no _ (by simp [affOk, e3]))
   | true =>
    refine evPos rfl (Ev.bind (letters4 wh h3) ?_)
    cases e4 : partB wh with
    | false => exact no _ (by simp [affOk, e4])
    | true =>
     refine Ev.step (fun k => spec_AffixOk.j0.eq_2 _ _ _ _ _ _ _) (evNeg (by simp) ?_)
     cases fr with
     | true => exact evPos rfl (evCall (begins_spec _ _) (evTo (Ev.now _) (by simp [affOk, e1, e2, e3, e4])))
     | false => exact evNeg (by simp) (evCall (ends_spec _ _ (by omega)) (evTo (Ev.now _) (by simp [affOk, e1, e2, e3, e4])))
theorem upper_impl (c : Int) : impl_upper.f c = some (decide (65 ≤ c) && decide (c ≤ 90)) := by
 unfold impl_upper.f
 by_cases e : c ≥ 65
 ·rw [if_pos e]; simp [e]
 ·rw [if_neg e]; simp; omega
theorem hasPrefix0 (s p : ByteArray) : stringslite_HasPrefix.f s p = some (begB s p) := begins_spec s p
theorem hasPrefix_lib (s p : ByteArray) : strings_HasPrefix.f s p = some (begB s p) := by
 unfold strings_HasPrefix.f
 rw [hasPrefix0]
 rfl
theorem hasSuffix0 (s p : ByteArray) (h : s.size ≤ 1407374883512320) : stringslite_HasSuffix.f s p = some (endB s p) := ends_spec s p h
theorem hasSuffix_lib (s p : ByteArray) (h : s.size ≤ 1407374883512320) : strings_HasSuffix.f s p = some (endB s p) := by
 unfold strings_HasSuffix.f
 rw [hasSuffix0 s p h]
 rfl
theorem parts_loop (g : ByteArray) (fr : Bool) (st ad wh : ByteArray) (l : List ByteArray) (hl : l.length ≤ 10) (hs : ∀ x ∈ l, x.size ≤ 140737488351232) (hw : wh.size ≤ 140737488351232) (d : Nat) : ∀ i : Int, 0 ≤ i → i ≤ l.length → (l.length : Int) - i = d →
  Ev (fun k => impl_AffixOk.l0 k l (l.length : Int) i g fr st ad wh) ((l.drop i.toNat).all partB && (if fr = true then begB wh st else endB wh st)) := by
 induction d with
 | zero =>
  intro i h0 h1 hd
  refine Ev.step (fun k => impl_AffixOk.l0.eq_2 _ _ _ _ _ _ _ _ _) (eN ?_)
  rw [List.drop_eq_nil_of_le (by omega), List.all_nil, Bool.true_and]
  cases fr with
  | true => exact evPos rfl (evCall (hasPrefix_lib _ _) (Ev.now _))
  | false => exact evNeg (by simp) (evCall (hasSuffix_lib _ _ (by omega)) (Ev.now _))
 | succ d ih =>
  intro i h0 h1 hd
  have hi : i.toNat < l.length := by omega
  have hx : rdOf ByteArray.empty l i = l[i.toNat] := by simp [rdOf, List.getD_eq_getElem?_getD, List.getElem?_eq_getElem hi]
  have hm := hs _ (List.getElem_mem hi)
  refine Ev.step (fun k => impl_AffixOk.l0.eq_2 _ _ _ _ _ _ _ _ _) (eP (evPos h0 (eP ?_)))
  rw [hx, List.drop_eq_getElem_cons hi, List.all_cons]
  generalize l[i.toNat] = x at *
  by_cases c : (x.size : Int) > 4
  ·refine evPos c (evTo (Ev.now _) ?_)
   have : partB x = false := by simp [partB]; omega
   rw [this]
   rfl
  ·refine evNeg c (Ev.bind (lower_impl x hm) ?_)
   have hp : partB x = (bytesOf x).all low := by
    simp only [partB]
    rw [decide_eq_true (by omega), Bool.and_true]
   rw [hp]
   cases e : (bytesOf x).all low with
   | false => exact evNeg (by simp) (evTo (Ev.now _) (by simp))
   | true =>
    refine evPos rfl ?_
    rw [w6, Bool.true_and, show i.toNat + 1 = (i + 1).toNat from by omega]
    exact ih (i + 1) (by omega) (by omega) (by omega)
theorem affixOk_impl (g : ByteArray) (fr : Bool) (st ad wh : ByteArray) (h1 : st.size ≤ 140737488351232) (h2 : ad.size ≤ 140737488351232) (h3 : wh.size ≤ 140737488351232) :
  Ev (fun k => impl_AffixOk.f k g fr st ad wh) (affOk g fr st ad wh) := by
 unfold impl_AffixOk.f
 by_cases c : (g.size : Int) = 1
 ·refine evPos c (eP (evCall (upper_impl _) ?_))
  have hf : flagB g = (decide (65 ≤ bt g 0) && decide (bt g 0 ≤ 90)) := by
   simp only [flagB]
   rw [decide_eq_true (by omega), Bool.true_and]
  rw [← hf]
  cases e : flagB g with
  | false => exact Ev.step (fun k => impl_AffixOk.j0.eq_2 _ _ _ _ _ _ _) (evPos rfl (evTo (Ev.now _) (by simp [affOk, e])))
  | true =>
   refine Ev.step (fun k => impl_AffixOk.j0.eq_2 _ _ _ _ _ _ _) (evNeg (by simp) (evCall rfl ?_))
   refine evTo (parts_loop g fr st ad wh [st, ad, wh] (by simp) (by
    intro x hx
    simp only [List.mem_cons, List.not_mem_nil, or_false] at hx
    rcases hx with rfl | rfl | rfl <;> assumption) h3 3 0 (by omega) (by simp) (by simp)) ?_
   simp [affOk, e, Bool.and_assoc]
 ·refine evNeg c (Ev.step (fun k => impl_AffixOk.j0.eq_2 _ _ _ _ _ _ _) (evPos rfl (evTo (Ev.now _) ?_)))
  have : flagB g = false := by simp [flagB]; omega
  simp [affOk, this]
theorem bt_extract0 (s : ByteArray) (i : Nat) (h : i < s.size) : bt (s.extract i (i + 1)) 0 = bt s i := by
 have hs : (s.extract i (i + 1)).size = 1 := by rw [size_extract s i (i + 1) (by omega) (by omega)]; omega
 have h1 := bytes_drop (s.extract i (i + 1)) 0 (by omega) (by omega)
 have h2 := bytes_drop s i (by omega) (by omega)
 rw [bytes_extract] at h1
 have h2' : (bytesOf s).drop i = bt s i :: (bytesOf s).drop ((i : Int) + 1).toNat := by simpa using h2
 rw [h2', show i + 1 - i = 1 from by omega] at h1
 simp only [List.take_succ_cons, List.take_zero] at h1
 have := congrArg List.head? h1
 simpa using this.symm
theorem flag_extract (s : ByteArray) (i : Nat) (h : i < s.size) : flagB (s.extract i (i + 1)) = (decide (65 ≤ bt s i) && decide (bt s i ≤ 90)) := by
 have hs : (s.extract i (i + 1)).size = 1 := by rw [size_extract s i (i + 1) (by omega) (by omega)]; omega
 unfold flagB
 rw [hs, bt_extract0 s i h]
 simp
def flGo (s : ByteArray) : Nat → Int → Bool
 | 0, _ => true
 | d + 1, i => (decide (65 ≤ bt s i) && decide (bt s i ≤ 90)) && (if i > 0 then decide (bt s (i - 1) < bt s i) else true) && flGo s d (i + 1)
def entB (w f : ByteArray) : Bool := flGo f f.size 0 && (wordB w && decide (f.size ≤ 4))
theorem ent_spec_loop (w f : ByteArray) (hw : w.size ≤ 1048576) (hf : f.size ≤ 1048576) (d : Nat) : ∀ i : Nat, i + d = f.size → Ev (fun k => spec_l2Entry.l0 k (i : Int) w f) (flGo f d i && (wordB w && decide (f.size ≤ 4))) := by
 induction d with
 | zero =>
  intro i hi
  refine Ev.step (fun k => spec_l2Entry.l0.eq_2 _ _ _ _) (eN (Ev.bind (l1Word_spec w (by omega)) ?_))
  simp only [flGo, Bool.true_and]
  cases wordB w with
  | false => exact evNeg (by simp) (Ev.now _)
  | true => exact evPos rfl (evTo (Ev.now _) (by rw [Bool.true_and]; exact decide_eq_decide.2 (by omega)))
 | succ d ih =>
  intro i hi
  refine Ev.step (fun k => spec_l2Entry.l0.eq_2 _ _ _ _) ?_
  rw [w6 (n := (i : Int) + 1)]
  refine eP (eP (eP (eP (evCall (flag_spec _) ?_))))
  rw [show ((i : Int) + 1).toNat = i + 1 from by omega, Int.toNat_natCast, flag_extract f i (by omega)]
  simp only [flGo]
  have next := ih (i + 1) (by omega)
  cases e : (decide (65 ≤ bt f i) && decide (bt f i ≤ 90)) with
  | false => exact evNeg (by simp) (evTo (Ev.now _) (by simp))
  | true =>
   refine evPos rfl ?_
   by_cases c : (i : Int) > 0
   ·rw [w6 (n := (i : Int) - 1), if_pos c]
    refine evPos c (eP (eP ?_))
    by_cases g : bt f ((i : Int) - 1) ≥ bt f i
    ·rw [decide_eq_false (show ¬ bt f ((i : Int) - 1) < bt f i from by omega)]
     exact evPos g (evTo (Ev.now _) (by simp))
    ·rw [decide_eq_true (show bt f ((i : Int) - 1) < bt f i from by omega)]
     exact evNeg g (evTo next (by simp))
   ·rw [if_neg c]
    exact evNeg c (evTo next (by simp))
theorem ent_spec (w f : ByteArray) (hw : w.size ≤ 1048576) (hf : f.size ≤ 1048576) : Ev (fun k => spec_l2Entry.f k w f) (entB w f) := ent_spec_loop w f hw hf f.size 0 (by omega)
theorem ent_impl_loop (w f : ByteArray) (hw : w.size ≤ 1048576) (hf : f.size ≤ 1048576) (d : Nat) : ∀ i : Nat, i + d = f.size → Ev (fun k => impl_entryOk.l0 k (f.size : Int) (i : Int) w f) (flGo f d i && (wordB w && decide (f.size ≤ 4))) := by
 induction d with
 | zero =>
  intro i hi
  refine Ev.step (fun k => impl_entryOk.l0.eq_2 _ _ _ _ _) (eN (Ev.bind (word_impl w (by omega)) ?_))
  simp only [flGo, Bool.true_and]
  cases wordB w with
  | false => exact evNeg (by simp) (Ev.now _)
  | true => exact evPos rfl (evTo (Ev.now _) (by rw [Bool.true_and]; exact decide_eq_decide.2 (by omega)))
 | succ d ih =>
  intro i hi
  refine Ev.step (fun k => impl_entryOk.l0.eq_2 _ _ _ _ _) ?_
  rw [w6 (n := (i : Int) + 1)]
  refine eP (eP (eP (evCall (upper_impl _) ?_)))
  simp only [flGo]
  have next := ih (i + 1) (by omega)
  cases e : (decide (65 ≤ bt f i) && decide (bt f i ≤ 90)) with
  | false => exact evNeg (by simp) (evTo (Ev.now _) (by simp))
  | true =>
   refine evPos rfl ?_
   by_cases c : (i : Int) > 0
   ·rw [w6 (n := (i : Int) - 1), if_pos c]
    refine evPos c (eP (eP ?_))
    by_cases g : bt f ((i : Int) - 1) ≥ bt f i
    ·rw [decide_eq_false (show ¬ bt f ((i : Int) - 1) < bt f i from by omega)]
     exact evPos g (evTo (Ev.now _) (by simp))
    ·rw [decide_eq_true (show bt f ((i : Int) - 1) < bt f i from by omega)]
     exact evNeg g (evTo next (by simp))
   ·rw [if_neg c]
    exact evNeg c (evTo next (by simp))
theorem ent_impl (w f : ByteArray) (hw : w.size ≤ 1048576) (hf : f.size ≤ 1048576) : Ev (fun k => impl_entryOk.f k w f) (entB w f) := ent_impl_loop w f hw hf f.size 0 (by omega)
def entGo (l : List En) : Nat → Int → Bool
 | 0, _ => true
 | d + 1, i => entB (rd_T78 l i).f0 (rd_T78 l i).f1 && (if i > 0 then Op.bytesLess (rd_T78 l (i - 1)).f0.toList (rd_T78 l i).f0.toList else true) && entGo l d (i + 1)
def entsB (l : List En) : Bool := entGo l l.length 0 && decide (l.length ≤ 24)
theorem en_at {P : En → Prop} {l : List En} (h : ∀ s ∈ l, P s) (i : Nat) (hi : i < l.length) : P (rd_T78 l (i : Int)) := by
 have e : rd_T78 l (i : Int) = l[i] := by simp [rd_T78, List.getD_eq_getElem?_getD, hi]
 rw [e]
 exact h _ (List.getElem_mem hi)
theorem ents_spec_loop (A : List Af) (l : List En) (hl : l.length ≤ 1048576) (he : ∀ s ∈ l, (s.f0.size ≤ 1048576 ∧ s.f1.size ≤ 1048576)) {r : Bool} (no : entGo l l.length 0 = false → r = false) (d : Nat) : ∀ i : Nat, i + d = l.length → (entGo l d i = false → r = false) →
  (entGo l d i = true → Ev (fun k => (spec_l2Affixes.f k A).bind fun t130 => (if t130 = true then (some (decide ((l.length : Int) ≤ 24))) else (some false))) r) → Ev (fun k => spec_BookOk.l0 k (i : Int) A l) r := by
 induction d with
 | zero =>
  intro i hi _ yes
  exact Ev.step (fun k => spec_BookOk.l0.eq_2 _ _ _ _) (eN (yes rfl))
 | succ d ih =>
  intro i hi no' yes
  have hs := en_at he i (by omega)
  simp only [entGo] at no' yes
  refine Ev.step (fun k => spec_BookOk.l0.eq_2 _ _ _ _) (eP (eP (Ev.bind (ent_spec _ _ hs.1 hs.2) ?_)))
  rw [w6 (n := (i : Int) + 1)]
  have next := ih (i + 1) (by omega)
  cases e : entB (rd_T78 l (i : Int)).f0 (rd_T78 l (i : Int)).f1 with
  | false =>
   rw [e] at no'
   exact evNeg (by simp) (evTo (Ev.now _) (no' (by simp)).symm)
  | true =>
   rw [e] at no' yes
   refine evPos rfl ?_
   by_cases c : (i : Int) > 0
   ·rw [w6 (n := (i : Int) - 1)]
    rw [if_pos c] at no' yes
    refine evPos c (eP (eP ?_))
    cases g : Op.bytesLess (rd_T78 l ((i : Int) - 1)).f0.toList (rd_T78 l (i : Int)).f0.toList with
    | false =>
     rw [g] at no'
     exact evNeg (by simp) (evTo (Ev.now _) (no' (by simp)).symm)
    | true =>
     rw [g] at no' yes
     simp only [Bool.true_and] at no' yes
     exact evPos rfl (next no' yes)
   ·rw [if_neg c] at no' yes
    simp only [Bool.true_and] at no' yes
    exact evNeg c (next no' yes)
theorem ents_impl_loop (l : List En) (hl : l.length ≤ 1048576) (he : ∀ s ∈ l, (s.f0.size ≤ 1048576 ∧ s.f1.size ≤ 1048576)) (d : Nat) : ∀ i : Nat, i + d = l.length → Ev (fun k => impl_entriesOk.l0 k l l (l.length : Int) (i : Int)) (entGo l d i && decide (l.length ≤ 24)) := by
 induction d with
 | zero =>
  intro i hi
  refine Ev.step (fun k => impl_entriesOk.l0.eq_2 _ _ _ _ _) (eN (evTo (Ev.now _) ?_))
  simp only [entGo, Bool.true_and]
  exact decide_eq_decide.2 (by omega)
 | succ d ih =>
  intro i hi
  have hs := en_at he i (by omega)
  refine Ev.step (fun k => impl_entriesOk.l0.eq_2 _ _ _ _ _) (eP (eP (eP (Ev.bind (ent_impl _ _ hs.1 hs.2) ?_))))
  rw [w6 (n := (i : Int) + 1)]
  have next := ih (i + 1) (by omega)
  simp only [entGo]
  cases e : entB (rd_T78 l (i : Int)).f0 (rd_T78 l (i : Int)).f1 with
  | false => exact evNeg (by simp) (evTo (Ev.now _) (by simp))
  | true =>
   refine evPos rfl ?_
   by_cases c : (i : Int) > 0
   ·rw [w6 (n := (i : Int) - 1), if_pos c]
    refine evPos c (eP (eP ?_))
    cases g : Op.bytesLess (rd_T78 l ((i : Int) - 1)).f0.toList (rd_T78 l (i : Int)).f0.toList with
    | false => exact evNeg (by simp) (evTo (Ev.now _) (by simp))
    | true => exact evPos rfl (evTo next (by simp))
   ·rw [if_neg c]
    exact evNeg c (evTo next (by simp))
theorem af_at {P : Af → Prop} {l : List Af} (h : ∀ s ∈ l, P s) (i : Nat) (hi : i < l.length) : P (rd_T82 l (i : Int)) := by
 have e : rd_T82 l (i : Int) = l[i] := by simp [rd_T82, List.getD_eq_getElem?_getD, hi]
 rw [e]
 exact h _ (List.getElem_mem hi)
def eqA (a b : Af) : Bool := a.f0.toList == b.f0.toList && (a.f1 == b.f1 && (a.f2.toList == b.f2.toList && (a.f3.toList == b.f3.toList && (a.f4.toList == b.f4.toList))))
theorem beq_comm' {α : Type} [BEq α] [LawfulBEq α] (a b : α) : (a == b) = (b == a) := by
 cases h : (a == b) with
 | true => rw [eq_of_beq h]; simp
 | false =>
  cases g : (b == a) with
  | false => rfl
  | true => rw [eq_of_beq g] at h; simp at h
theorem eqA_comm (a b : Af) : eqA a b = eqA b a := by
 unfold eqA
 rw [beq_comm' a.f0.toList, beq_comm' a.f1, beq_comm' a.f2.toList, beq_comm' a.f3.toList, beq_comm' a.f4.toList]
def dup (l : List Af) (i : Int) : Nat → Int → Bool
 | 0, _ => false
 | d + 1, k => eqA (rd_T82 l k) (rd_T82 l i) || dup l i d (k + 1)
def affGo (l : List Af) : Nat → Int → Bool
 | 0, _ => true
 | d + 1, i => affOk (rd_T82 l i).f0 (rd_T82 l i).f1 (rd_T82 l i).f2 (rd_T82 l i).f3 (rd_T82 l i).f4 && !dup l i i.toNat 0 && affGo l d (i + 1)
def affsB (l : List Af) : Bool := affGo l l.length 0 && decide (l.length ≤ 8)
abbrev AfSz (l : List Af) : Prop := ∀ s ∈ l, (s.f0.size ≤ 1048576 ∧ s.f2.size ≤ 1048576 ∧ s.f3.size ≤ 1048576 ∧ s.f4.size ≤ 1048576)
theorem dup_spec_loop (l : List Af) (hl : l.length ≤ 1048576) (i : Nat) (hi : i < l.length) {r : Bool} (d : Nat) : ∀ k : Nat, k + d = i → (dup l i d k = true → r = false) → (dup l i d k = false → Ev (fun n => spec_l2Affixes.l0 n l (wrap64 ((i : Int) + 1))) r) → Ev (fun n => spec_l2Affixes.l1 n l (i : Int) (k : Int)) r := by
 induction d with
 | zero =>
  intro k hk _ yes
  exact Ev.step (fun n => spec_l2Affixes.l1.eq_2 _ _ _ _) (eN (yes rfl))
 | succ d ih =>
  intro k hk no yes
  simp only [dup] at no yes
  refine Ev.step (fun n => spec_l2Affixes.l1.eq_2 _ _ _ _) (eP (eP (eP (eP (eP ?_)))))
  rw [w6 (n := (k : Int) + 1)]
  cases e : eqA (rd_T82 l (k : Int)) (rd_T82 l (i : Int)) with
  | true =>
   rw [e] at no
   exact evPos e (evTo (Ev.now _) (no rfl).symm)
  | false =>
   rw [e] at no yes
   simp only [Bool.false_or] at no yes
   exact evNeg (fun h => by have h' : eqA (rd_T82 l (k : Int)) (rd_T82 l (i : Int)) = true := h; rw [e] at h'; cases h') (ih (k + 1) (by omega) no yes)
theorem affs_spec_loop (l : List Af) (hl : l.length ≤ 1048576) (hs : AfSz l) (d : Nat) : ∀ i : Nat, i + d = l.length → Ev (fun n => spec_l2Affixes.l0 n l (i : Int)) (affGo l d i && decide (l.length ≤ 8)) := by
 induction d with
 | zero =>
  intro i hi
  refine Ev.step (fun n => spec_l2Affixes.l0.eq_2 _ _ _) (eN (evTo (Ev.now _) ?_))
  simp only [affGo, Bool.true_and]
  exact decide_eq_decide.2 (by omega)
 | succ d ih =>
  intro i hi
  have h := af_at hs i (by omega)
  refine Ev.step (fun n => spec_l2Affixes.l0.eq_2 _ _ _) (eP (eP (Ev.bind (affixOk_spec _ _ _ _ _ (by omega) (by omega) (by omega)) ?_)))
  simp only [affGo]
  cases e : affOk (rd_T82 l (i : Int)).f0 (rd_T82 l (i : Int)).f1 (rd_T82 l (i : Int)).f2 (rd_T82 l (i : Int)).f3 (rd_T82 l (i : Int)).f4 with
  | false => exact evNeg (by simp) (evTo (Ev.now _) (by simp))
  | true =>
   refine evPos rfl (dup_spec_loop l hl i (by omega) i 0 (by omega) (fun hd => ?_) (fun hd => ?_))
   ·have hd' : dup l (i : Int) (i : Int).toNat 0 = true := hd
    rw [hd']
    simp
   ·have hd' : dup l (i : Int) (i : Int).toNat 0 = false := hd
    rw [hd', w6 (n := (i : Int) + 1)]
    exact evTo (ih (i + 1) (by omega)) (by simp)
theorem affs_spec (l : List Af) (hl : l.length ≤ 1048576) (hs : AfSz l) : Ev (fun n => spec_l2Affixes.f n l) (affsB l) := affs_spec_loop l hl hs l.length 0 (by omega)
theorem dup_impl_loop (l q : List Af) (hl : l.length ≤ 1048576) (i : Nat) (hq : q = l.take i) (hi : i < l.length) (d : Nat) : ∀ k : Nat, k + d = i → ∃ v : Int, Ev (fun n => impl_Affix_99.l0 n q (q.length : Int) (k : Int) (rd_T82 l (i : Int)).f0 (rd_T82 l (i : Int)).f1 (rd_T82 l (i : Int)).f2 (rd_T82 l (i : Int)).f3 (rd_T82 l (i : Int)).f4) v ∧ decide (v ≥ 0) = dup l i d k := by
 have hql : q.length = i := by rw [hq, List.length_take]; omega
 induction d with
 | zero =>
  intro k hk
  exact ⟨-1, Ev.step (fun n => impl_Affix_99.l0.eq_2 _ _ _ _ _ _ _ _ _) (eN (Ev.now _)), rfl⟩
 | succ d ih =>
  intro k hk
  have hat : rd_T82 q (k : Int) = rd_T82 l (k : Int) := by
   simp only [rd_T82, List.getD_eq_getElem?_getD, Int.toNat_natCast]
   rw [hq, List.getElem?_take_of_lt (by omega)]
  simp only [dup]
  cases e : eqA (rd_T82 l (k : Int)) (rd_T82 l (i : Int)) with
  | true =>
   have e' : eqA (rd_T82 l (i : Int)) (rd_T82 l (k : Int)) = true := by rw [eqA_comm]; exact e
   refine ⟨k, Ev.step (fun n => impl_Affix_99.l0.eq_2 _ _ _ _ _ _ _ _ _) (eP (eP (eP ?_))), by simp⟩
   rw [hat]
   exact evPos e' (Ev.now _)
  | false =>
   have e' : eqA (rd_T82 l (i : Int)) (rd_T82 l (k : Int)) = false := by rw [eqA_comm]; exact e
   obtain ⟨v, h1, h2⟩ := ih (k + 1) (by omega)
   refine ⟨v, Ev.step (fun n => impl_Affix_99.l0.eq_2 _ _ _ _ _ _ _ _ _) (eP (eP (eP ?_))), by rw [Bool.false_or]; exact h2⟩
   rw [hat, w6 (n := (k : Int) + 1)]
   exact evNeg (fun h => by have h' : eqA (rd_T82 l (i : Int)) (rd_T82 l (k : Int)) = true := h; rw [e'] at h'; cases h') h1
theorem affs_impl_loop (l : List Af) (hl : l.length ≤ 1048576) (hs : AfSz l) (d : Nat) : ∀ i : Nat, i + d = l.length → Ev (fun n => impl_affixesOk.l0 n l l (l.length : Int) (i : Int)) (affGo l d i && decide (l.length ≤ 8)) := by
 induction d with
 | zero =>
  intro i hi
  refine Ev.step (fun n => impl_affixesOk.l0.eq_2 _ _ _ _ _) (eN (evTo (Ev.now _) ?_))
  simp only [affGo, Bool.true_and]
  exact decide_eq_decide.2 (by omega)
 | succ d ih =>
  intro i hi
  have h := af_at hs i (by omega)
  refine Ev.step (fun n => impl_affixesOk.l0.eq_2 _ _ _ _ _) (eP (eP (eP (Ev.bind (affixOk_impl _ _ _ _ _ (by omega) (by omega) (by omega)) ?_))))
  simp only [affGo]
  cases e : affOk (rd_T82 l (i : Int)).f0 (rd_T82 l (i : Int)).f1 (rd_T82 l (i : Int)).f2 (rd_T82 l (i : Int)).f3 (rd_T82 l (i : Int)).f4 with
  | false => exact evNeg (by simp) (evTo (Ev.now _) (by simp))
  | true =>
   obtain ⟨v, h1, h2⟩ := dup_impl_loop l (l.take i) hl i rfl (by omega) i 0 (by omega)
   have hd : Ev (fun n => impl_Affix_75.f n (l.take (i : Int).toNat) (rd_T82 l (i : Int)).f0 (rd_T82 l (i : Int)).f1 (rd_T82 l (i : Int)).f2 (rd_T82 l (i : Int)).f3 (rd_T82 l (i : Int)).f4) (dup l (i : Int) (i : Int).toNat 0) := Ev.bind h1 (evTo (Ev.now _) h2)
   refine evPos rfl (eP (Ev.bind hd ?_))
   rw [w6 (n := (i : Int) + 1)]
   cases dup l (i : Int) (i : Int).toNat 0 with
   | true => exact evPos rfl (evTo (Ev.now _) (by simp))
   | false => exact evNeg (by simp) (evTo (ih (i + 1) (by omega)) (by simp))
theorem affs_impl (l : List Af) (hl : l.length ≤ 1048576) (hs : AfSz l) : Ev (fun n => impl_affixesOk.f n l) (affsB l) := affs_impl_loop l hl hs l.length 0 (by omega)
theorem l2Do_spec (g : ByteArray) (fr : Bool) (st ad wh stem : ByteArray) (h1 : st.size ≤ wh.size) (h2 : ad.size ≤ 140737488351232) (h3 : stem.size ≤ 140737488351232) :
  Ev (fun k => spec_l2Do.f k g fr st ad wh stem) (outW (doB fr st ad wh stem)) := by
 unfold spec_l2Do.f
 cases fr with
 | true =>
  refine evPos rfl (evCall (begins_spec _ _) ?_)
  by_cases c : begB stem wh = true
  ·have hs := begB_size c
   have hz : (stem.extract st.size stem.size).size = stem.size - st.size := size_extract _ _ _ (by omega) (Nat.le_refl _)
   refine evPos c (eP (eP ?_))
   try rw [Int.toNat_natCast]
   refine eP (Ev.bind (l1Word_spec' _ (by rw [size_append]; omega)) (evTo (Ev.now _) ?_))
   simp [doB, c, outW]
  ·exact evNeg c (evTo (Ev.now _) (by simp [doB, c, outW]))
 | false =>
  refine evNeg (by simp) (evCall (ends_spec _ _ (by omega)) ?_)
  by_cases c : endB stem wh = true
  ·have hs := endB_size c
   have hz : (stem.extract 0 (stem.size - st.size)).size = stem.size - st.size := by
    rw [size_extract _ _ _ (by omega) (by omega)]
    omega
   refine evPos c ?_
   rw [w6, show ((stem.size : Int) - (st.size : Int)).toNat = stem.size - st.size from by omega]
   refine eP (eP (eP (Ev.bind (l1Word_spec' _ (by rw [size_append]; omega)) (evTo (Ev.now _) ?_))))
   simp [doB, c, outW]
  ·exact evNeg c (evTo (Ev.now _) (by simp [doB, c, outW]))
theorem rdOf_get (l : List ByteArray) (i : Int) (_ : 0 ≤ i) (h : i.toNat < l.length) : rdOf ByteArray.empty l i = l[i.toNat] := by
 simp [rdOf, List.getD_eq_getElem?_getD, List.getElem?_eq_getElem h]
theorem put_end (l : List ByteArray) (s : ByteArray) (i : Int) (h0 : 0 ≤ i) (h1 : i ≤ l.length) (hl : l.length ≤ 1000000) : Ev (fun k => spec_l1Put.j2 k l s i false) (l.take i.toNat ++ s :: l.drop i.toNat) := by
 refine Ev.step (fun k => spec_l1Put.j2.eq_2 _ _ _ _ _) (evNeg (by simp) (evCall rfl (evPos h0 (evPos h1 (evCall rfl (evPos ?_ (evCall rfl (evCall rfl (evPos ?_ (evCall rfl (evCall rfl (evPos ?_ (evTo (Ev.now _) ?_)))))))))))))
 ·simp only [List.length_nil, List.length_take]
  omega
 ·simp only [List.nil_append, List.length_take, List.length_cons, List.length_nil]
  omega
 ·simp only [List.nil_append, List.length_append, List.length_take, List.length_cons, List.length_nil, List.length_drop]
  omega
 ·simp
theorem put_loop (l : List ByteArray) (s : ByteArray) (hl : l.length ≤ 1000000) (d : Nat) : ∀ i : Int, 0 ≤ i → i ≤ l.length → (l.length : Int) - i = d →
  Ev (fun k => spec_l1Put.l0 k l s i) (l.take i.toNat ++ putL (l.drop i.toNat) s) := by
 induction d with
 | zero =>
  intro i h0 h1 hd
  have e := put_end l s i h0 h1 hl
  rw [List.drop_eq_nil_of_le (by omega)] at e ⊢
  exact Ev.step (fun k => spec_l1Put.l0.eq_2 _ _ _ _) (eN (Ev.step (fun k => spec_l1Put.j1.eq_2 _ _ _ _ _) (evNeg (by simp) (evNeg (by omega) e))))
 | succ d ih =>
  intro i h0 h1 hd
  have hi : i.toNat < l.length := by omega
  have e := put_end l s i h0 h1 hl
  have ihe := ih (i + 1) (by omega) (by omega) (by omega)
  rw [List.drop_eq_getElem_cons hi] at e ⊢
  rw [show (i + 1).toNat = i.toNat + 1 from by omega, List.take_succ_eq_append_getElem hi] at ihe
  refine Ev.step (fun k => spec_l1Put.l0.eq_2 _ _ _ _) (eP (evPos h0 (Ev.step (fun k => spec_l1Put.j1.eq_2 _ _ _ _ _) ?_)))
  rw [rdOf_get l i h0 hi]
  generalize hx : l[i.toNat] = x at *
  by_cases c : Op.bytesLess x.toList s.toList = true
  ·refine evPos c ?_
   rw [w6]
   refine evTo ihe ?_
   simp [putL, ltS, c]
  ·refine evNeg c (eP (evPos h0 ?_))
   by_cases c2 : x = s
   ·refine Ev.step (fun k => spec_l1Put.j2.eq_2 _ _ _ _ _) (evPos (by simp [c2]) (evTo (Ev.now _) ?_))
    subst c2
    rw [show putL (x :: l.drop (i.toNat + 1)) x = x :: l.drop (i.toNat + 1) from by simp [putL, ltS_irrefl]]
    have : x :: l.drop (i.toNat + 1) = l.drop i.toNat := by rw [List.drop_eq_getElem_cons hi, hx]
    rw [this, List.take_append_drop]
   ·rw [show (x.toList == s.toList) = false from by rw [toList_beq]; simp [c2]]
    refine evTo e ?_
    simp [putL, ltS, c, c2]
theorem put_ev (l : List ByteArray) (s : ByteArray) (hl : l.length ≤ 1000000) : Ev (fun k => spec_l1Put.f k l s) (putL l s) :=
 evTo (put_loop l s hl l.length 0 (by omega) (by omega) (by omega)) (by simp)
def hasFl (f g : ByteArray) : Bool := (bytesOf f).contains (bt g 0)
theorem bytes_one {g : ByteArray} (h : g.size = 1) : bytesOf g = [bt g 0] := by
 have h1 := bytes_drop g 0 (by omega) (by omega)
 have h2 : ((bytesOf g).drop ((0 : Int) + 1).toNat) = [] := List.drop_eq_nil_of_le (by rw [bytesOf_length]; omega)
 rw [h2] at h1
 simpa using h1
theorem bytes_at {f : ByteArray} (i : Nat) (h : i < f.size) : bytesOf (f.extract i (i + 1)) = [bt f i] := by
 have h1 := bytes_drop f i (by omega) (by omega)
 rw [Int.toNat_natCast] at h1
 rw [bytes_extract, h1]
 simp
theorem has_loop (f g : ByteArray) (hf : f.size ≤ 1048576) (hg : g.size = 1) (d : Nat) : ∀ i : Nat, i + d = f.size → Ev (fun k => spec_l2Has.l0 k f g (i : Int)) (((bytesOf f).drop i).contains (bt g 0)) := by
 induction d with
 | zero =>
  intro i hi
  refine Ev.step (fun k => spec_l2Has.l0.eq_2 _ _ _ _) (eN (evTo (Ev.now _) ?_))
  rw [List.drop_eq_nil_of_le (by rw [bytesOf_length]; omega)]
  rfl
 | succ d ih =>
  intro i hi
  have e : wrap64 ((i : Int) + 1) = ((i + 1 : Nat) : Int) := w6
  refine Ev.step (fun k => spec_l2Has.l0.eq_2 _ _ _ _) ?_
  rw [e]
  refine eP (eP (eP (eP ?_)))
  rw [Int.toNat_natCast, Int.toNat_natCast]
  have h1 := bytes_drop f i (by omega) (by omega)
  rw [Int.toNat_natCast, show ((i : Int) + 1).toNat = i + 1 from by omega] at h1
  rw [h1, List.contains_cons]
  by_cases c : bt f i = bt g 0
  ·refine evPos ((toList_iff _ _).2 (bytes_inj (by rw [bytes_at i (by omega), bytes_one hg, c]))) (evTo (Ev.now _) ?_)
   simp [c]
  ·refine evNeg (fun h => c ?_) (evTo (ih (i + 1) (by omega)) ?_)
   ·have := congrArg bytesOf ((toList_iff _ _).1 h)
    rw [bytes_at i (by omega), bytes_one hg] at this
    simpa using this
   ·have : (bt g 0 == bt f i) = false := by simpa using fun h => c h.symm
    rw [this, Bool.false_or]
theorem has_ev (f g : ByteArray) (hf : f.size ≤ 1048576) (hg : g.size = 1) : Ev (fun k => spec_l2Has.f k f g) (hasFl f g) := by
 have := has_loop f g hf hg f.size 0 (by omega)
 rw [List.drop_zero] at this
 exact this
abbrev AfOk (a : Af) : Prop := affOk a.f0 a.f1 a.f2 a.f3 a.f4 = true
theorem affGo_all (A : List Af) (d : Nat) : ∀ i : Nat, i + d = A.length → affGo A d (i : Int) = true → ∀ a ∈ A.drop i, AfOk a := by
 induction d with
 | zero =>
  intro i hi _ a ha
  rw [List.drop_eq_nil_of_le (by omega)] at ha
  cases ha
 | succ d ih =>
  intro i hi h a ha
  have hlt : i < A.length := by omega
  simp only [affGo, Bool.and_eq_true] at h
  have e : rd_T82 A (i : Int) = A[i] := by simp [rd_T82, List.getD_eq_getElem?_getD, hlt]
  rw [e] at h
  rw [List.drop_eq_getElem_cons hlt] at ha
  rcases List.mem_cons.1 ha with rfl | ha
  ·exact h.1.1
  ·exact ih (i + 1) (by omega) h.2 a ha
theorem affs_all {A : List Af} (h : affsB A = true) : (∀ a ∈ A, AfOk a) ∧ A.length ≤ 8 := by
 simp only [affsB, Bool.and_eq_true, decide_eq_true_eq] at h
 exact ⟨fun a ha => affGo_all A A.length 0 (by omega) h.1 a (by simpa using ha), h.2⟩
theorem ent_word {w f : ByteArray} (h : entB w f = true) : wordB w = true ∧ f.size ≤ 4 := by
 simp only [entB, Bool.and_eq_true, decide_eq_true_eq] at h
 exact h.2
def doA (a : Af) (s : ByteArray) : Option ByteArray := (doB a.f1 a.f2 a.f3 a.f4 s).filter wordB
theorem doA_word {a : Af} {s x : ByteArray} (h : doA a s = some x) : wordB x = true := by
 unfold doA at h
 rw [Option.filter_eq_some_iff] at h
 exact h.2
def selA (a : Af) (fl : ByteArray) (front : Bool) : Bool := (a.f1 == front) && hasFl fl a.f0
def candA (a : Af) (fl : ByteArray) (front : Bool) (ws : List ByteArray) : List ByteArray := if selA a fl front = true then ws.filterMap (doA a) else []
def oneL (A : List Af) (fl : ByteArray) (front : Bool) (ws out : List ByteArray) : List ByteArray := (A.flatMap (fun a => candA a fl front ws)).foldl putL out
abbrev WsZ (ws : List ByteArray) : Prop := ∀ s ∈ ws, s.size ≤ 1048576
theorem one_words (A : List Af) (fl : ByteArray) (front : Bool) (ws : List ByteArray) (i : Nat) (hi : i < A.length) (hok : AfOk A[i]) (hw : WsZ ws) (hl : ws.length ≤ 1000) {r : List ByteArray} (d : Nat) : ∀ (j : Nat) (out : List ByteArray), j + d = ws.length → out.length + d ≤ 100000 →
  (∀ out', out' = ((ws.drop j).filterMap (doA A[i])).foldl putL out → Ev (fun k => spec_l2One.l0 k A fl front ws out' (wrap64 ((i : Int) + 1))) r) → Ev (fun k => spec_l2One.l1 k A fl front ws out (i : Int) (j : Int)) r := by
 have hp := affOk_parts hok
 have e : rd_T82 A (i : Int) = A[i] := by simp [rd_T82, List.getD_eq_getElem?_getD, hi]
 induction d with
 | zero =>
  intro j out hj ho next
  refine Ev.step (fun k => spec_l2One.l1.eq_2 _ _ _ _ _ _ _ _) (eN (next _ ?_))
  rw [List.drop_eq_nil_of_le (by omega)]
  rfl
 | succ d ih =>
  intro j out hj ho next
  have hs := ba_at (P := fun s => s.size ≤ 1048576) hw j (by omega)
  have hlt : j < ws.length := by omega
  have hA : A.length ≤ A.length := Nat.le_refl _
  have s1 := partB_size hp.2.1
  have s2 := partB_size hp.2.2.1
  refine Ev.step (fun k => spec_l2One.l1.eq_2 _ _ _ _ _ _ _ _) (eP (eP (eP (eP ?_))))
  rw [e, w6 (n := (j : Int) + 1)]
  refine Ev.bind (l2Do_spec _ _ _ _ _ _ (strip_size hok) (by omega) (by omega)) ?_
  rw [List.drop_eq_getElem_cons hlt] at next
  rw [ba_get ws j hlt]
  cases h : doB A[i].f1 A[i].f2 A[i].f3 A[i].f4 ws[j] with
  | none =>
   have h2 : doA A[i] ws[j] = none := by unfold doA; rw [h]; rfl
   rw [List.filterMap_cons_none h2] at next
   exact evNeg (by simp [outW]) (ih (j + 1) out (by omega) (by omega) next)
  | some x =>
   by_cases c : wordB x = true
   ·have h2 : doA A[i] ws[j] = some x := by unfold doA; rw [h, Option.filter_some, if_pos c]
    rw [List.filterMap_cons_some h2, List.foldl_cons] at next
    have hl := (putL_length out x).2
    exact evPos (by simpa [outW] using c) (Ev.bind (put_ev out x (by omega)) (ih (j + 1) _ (by omega) (by omega) next))
   ·have h2 : doA A[i] ws[j] = none := by unfold doA; rw [h, Option.filter_some, if_neg c]
    rw [List.filterMap_cons_none h2] at next
    exact evNeg (by simpa [outW] using c) (ih (j + 1) out (by omega) (by omega) next)
set_option maxRecDepth 20000 in
theorem one_loop (A : List Af) (fl : ByteArray) (front : Bool) (ws : List ByteArray) (hok : ∀ a ∈ A, AfOk a) (hA : A.length ≤ 8) (hf : fl.size ≤ 1048576) (hw : WsZ ws) (hl : ws.length ≤ 1000) (d : Nat) : ∀ (i : Nat) (out : List ByteArray), i + d = A.length → out.length + d * 1000 ≤ 90000 →
  Ev (fun k => spec_l2One.l0 k A fl front ws out (i : Int)) (oneL (A.drop i) fl front ws out) := by
 induction d with
 | zero =>
  intro i out hi ho
  refine Ev.step (fun k => spec_l2One.l0.eq_2 _ _ _ _ _ _ _) (eN (evTo (Ev.now _) ?_))
  rw [List.drop_eq_nil_of_le (by omega)]
  rfl
 | succ d ih =>
  intro i out hi ho
  have hlt : i < A.length := by omega
  have e : rd_T82 A (i : Int) = A[i] := by simp [rd_T82, List.getD_eq_getElem?_getD, hlt]
  have ho' := hok _ (List.getElem_mem hlt)
  have hg : A[i].f0.size = 1 := by
   have := (affOk_parts ho').1
   simp only [flagB, Bool.and_eq_true, decide_eq_true_eq] at this
   exact this.1
  have ew : wrap64 ((i : Int) + 1) = ((i + 1 : Nat) : Int) := w6
  have split : oneL (A.drop i) fl front ws out = oneL (A.drop (i + 1)) fl front ws ((candA A[i] fl front ws).foldl putL out) := by
   unfold oneL
   rw [List.drop_eq_getElem_cons hlt, List.flatMap_cons, List.foldl_append]
  rw [split]
  refine Ev.step (fun k => spec_l2One.l0.eq_2 _ _ _ _ _ _ _) (eP (eP ?_))
  rw [e]
  have skip : selA A[i] fl front = false → Ev (fun k => spec_l2One.j1 k A fl front ws out (i : Int) true) (oneL (A.drop (i + 1)) fl front ws ((candA A[i] fl front ws).foldl putL out)) := by
   intro hs
   refine Ev.step (fun k => spec_l2One.j1.eq_2 _ _ _ _ _ _ _ _) (evPos rfl ?_)
   have hc : candA A[i] fl front ws = [] := by unfold candA; rw [if_neg (by simp [hs])]
   rw [ew, hc]
   exact ih (i + 1) out (by omega) (by omega)
  by_cases c : (A[i].f1 != front) = true
  ·refine evPos c (skip ?_)
   have : (A[i].f1 == front) = false := by simpa [bne] using c
   unfold selA
   rw [this]
   rfl
  ·have c1 : (A[i].f1 == front) = true := by simpa [bne] using c
   refine evNeg c (Ev.bind (has_ev fl _ hf hg) ?_)
   cases h : hasFl fl A[i].f0 with
   | false => exact skip (by unfold selA; rw [h, Bool.and_false])
   | true =>
    refine Ev.step (fun k => spec_l2One.j1.eq_2 _ _ _ _ _ _ _ _) (evNeg (by simp) (one_words A fl front ws i hlt ho' hw hl ws.length 0 out (by omega) (by omega) (fun out' he => ?_)))
    have hc : candA A[i] fl front ws = ws.filterMap (doA A[i]) := by unfold candA selA; rw [c1, h]; rfl
    rw [List.drop_zero] at he
    rw [ew, hc, ← he]
    refine ih (i + 1) out' (by omega) ?_
    have h1 := foldPut_length (ws.filterMap (doA A[i])) out
    have h2 := List.length_filterMap_le (doA A[i]) ws
    rw [he]
    omega
theorem l2One_ev (A : List Af) (fl : ByteArray) (front : Bool) (ws : List ByteArray) (hok : ∀ a ∈ A, AfOk a) (hA : A.length ≤ 8) (hf : fl.size ≤ 1048576) (hw : WsZ ws) (hl : ws.length ≤ 1000) : Ev (fun k => spec_l2One.f k A fl front ws) (oneL A fl front ws ws) := by
 unfold spec_l2One.f
 refine evCall rfl (evPos (by simp; omega) ?_)
 have := one_loop A fl front ws hok hA hf hw hl A.length 0 ws (by omega) (by omega)
 simpa using this
theorem cand_length (A : List Af) (fl : ByteArray) (front : Bool) (ws : List ByteArray) : (A.flatMap (fun a => candA a fl front ws)).length ≤ A.length * ws.length := by
 induction A with
 | nil => simp
 | cons a A ih =>
  rw [List.flatMap_cons, List.length_append, List.length_cons, Nat.add_mul]
  have : (candA a fl front ws).length ≤ ws.length := by
   unfold candA
   split
   ·exact List.length_filterMap_le _ _
   ·simp
  omega
theorem oneL_length (A : List Af) (fl : ByteArray) (front : Bool) (ws out : List ByteArray) : (oneL A fl front ws out).length ≤ out.length + A.length * ws.length := by
 have h1 := foldPut_length (A.flatMap (fun a => candA a fl front ws)) out
 have h2 := cand_length A fl front ws
 unfold oneL
 omega
theorem oneL_mem (A : List Af) (fl : ByteArray) (front : Bool) (ws out : List ByteArray) (x : ByteArray) : x ∈ oneL A fl front ws out ↔ x ∈ out ∨ ∃ a ∈ A, selA a fl front = true ∧ ∃ s ∈ ws, doA a s = some x := by
 unfold oneL
 rw [foldPut_mem, List.mem_flatMap]
 refine or_congr Iff.rfl ⟨fun ⟨a, ha, h⟩ => ?_, fun ⟨a, ha, hs, s, hw, h⟩ => ⟨a, ha, ?_⟩⟩
 ·unfold candA at h
  split at h
  ·rename_i hs
   obtain ⟨s, hw, he⟩ := List.mem_filterMap.1 h
   exact ⟨a, ha, hs, s, hw, he⟩
  ·cases h
 ·unfold candA
  rw [if_pos hs]
  exact List.mem_filterMap.2 ⟨s, hw, h⟩
theorem oneL_asc (A : List Af) (fl : ByteArray) (front : Bool) (ws : List ByteArray) {out : List ByteArray} (h : Asc out) : Asc (oneL A fl front ws out) := foldPut_asc _ h
theorem oneL_size {A : List Af} {fl : ByteArray} {front : Bool} {ws out : List ByteArray} (h : WsZ out) : WsZ (oneL A fl front ws out) := by
 intro s hs
 rcases (oneL_mem A fl front ws out s).1 hs with hs | ⟨a, _, _, t, _, he⟩
 ·exact h s hs
 ·have := wordB_size (doA_word he)
  omega
def formsL (A : List Af) (w fl : ByteArray) : List ByteArray := oneL A fl true (oneL A fl false [w] [w]) (oneL A fl false [w] [w])
theorem formsL_asc (A : List Af) (w fl : ByteArray) : Asc (formsL A w fl) := oneL_asc _ _ _ _ (oneL_asc _ _ _ _ (by simp [Asc]))
theorem formsL_length {A : List Af} (hA : A.length ≤ 8) (w fl : ByteArray) : (formsL A w fl).length ≤ 81 := by
 have h1 := oneL_length A fl false [w] [w]
 have h2 := oneL_length A fl true (oneL A fl false [w] [w]) (oneL A fl false [w] [w])
 unfold formsL
 simp only [List.length_cons, List.length_nil] at h1
 have h3 : (oneL A fl false [w] [w]).length ≤ 9 := by omega
 have h4 : A.length * (oneL A fl false [w] [w]).length ≤ 8 * 9 := Nat.mul_le_mul hA h3
 omega
theorem l2Forms_ev (A : List Af) (w fl : ByteArray) (hok : ∀ a ∈ A, AfOk a) (hA : A.length ≤ 8) (hf : fl.size ≤ 1048576) (hw : w.size ≤ 1048576) : Ev (fun k => spec_l2Forms.f k A w fl) (formsL A w fl) := by
 have z1 : WsZ [w] := fun s hs => by simpa using (List.mem_singleton.1 hs ▸ hw : s.size ≤ 1048576)
 have h1 := oneL_length A fl false [w] [w]
 simp only [List.length_cons, List.length_nil] at h1
 unfold spec_l2Forms.f
 exact Ev.bind (l2One_ev A fl false [w] hok hA hf z1 (by simp)) (Ev.bind (l2One_ev A fl true _ hok hA hf (oneL_size z1) (by omega)) (Ev.now _))
def formsB (A : List Af) (w fl : ByteArray) : List ByteArray := if affsB A = true ∧ entB w fl = true then formsL A w fl else []
theorem entGo_all (E : List En) (d : Nat) : ∀ i : Nat, i + d = E.length → entGo E d (i : Int) = true → ∀ e ∈ E.drop i, entB e.f0 e.f1 = true := by
 induction d with
 | zero =>
  intro i hi _ a ha
  rw [List.drop_eq_nil_of_le (by omega)] at ha
  cases ha
 | succ d ih =>
  intro i hi h a ha
  have hlt : i < E.length := by omega
  simp only [entGo, Bool.and_eq_true] at h
  have e : rd_T78 E (i : Int) = E[i] := by simp [rd_T78, List.getD_eq_getElem?_getD, hlt]
  rw [e] at h
  rw [List.drop_eq_getElem_cons hlt] at ha
  rcases List.mem_cons.1 ha with rfl | ha
  ·exact h.1.1
  ·exact ih (i + 1) (by omega) h.2 a ha
theorem ents_all {E : List En} (h : entsB E = true) : (∀ e ∈ E, entB e.f0 e.f1 = true) ∧ E.length ≤ 24 := by
 simp only [entsB, Bool.and_eq_true, decide_eq_true_eq] at h
 exact ⟨fun a ha => entGo_all E E.length 0 (by omega) h.1 a (by simpa using ha), h.2⟩
def allF (A : List Af) (E : List En) : List ByteArray := E.flatMap (fun e => formsL A e.f0 e.f1)
def wordsL (A : List Af) (E : List En) (out : List ByteArray) : List ByteArray := (allF A E).foldl putL out
theorem allF_length {A : List Af} (hA : A.length ≤ 8) (E : List En) : (allF A E).length ≤ E.length * 81 := by
 unfold allF
 induction E with
 | nil => simp
 | cons e E ih =>
  rw [List.flatMap_cons, List.length_append, List.length_cons, Nat.add_mul]
  have := formsL_length hA e.f0 e.f1
  omega
theorem wordsL_length {A : List Af} (hA : A.length ≤ 8) (E : List En) : (wordsL A E []).length ≤ E.length * 81 := by
 have h1 := foldPut_length (allF A E) []
 have h2 := allF_length hA E
 unfold wordsL
 simp only [List.length_nil] at h1
 omega
def inB (l : List ByteArray) (s : ByteArray) : Bool := l.any (fun y => y.toList == s.toList)
theorem idx_loop (l : List ByteArray) (s : ByteArray) (hl : l.length ≤ 10000000) (d : Nat) : ∀ i : Nat, i + d = l.length → ∃ m, Ev (fun k => slices_Index_string_string.l0 k l s (l.length : Int) (i : Int)) m ∧ decide (m ≥ 0) = inB (l.drop i) s := by
 induction d with
 | zero =>
  intro i hi
  refine ⟨-1, Ev.step (fun k => slices_Index_string_string.l0.eq_2 ..) (eN (Ev.now _)), ?_⟩
  rw [List.drop_eq_nil_of_le (by omega)]
  rfl
 | succ d ih =>
  intro i hi
  have hlt : i < l.length := by omega
  obtain ⟨m, hm, h2⟩ := ih (i + 1) (by omega)
  have he : inB (l.drop i) s = (l[i].toList == s.toList || inB (l.drop (i + 1)) s) := by
   unfold inB
   rw [List.drop_eq_getElem_cons hlt, List.any_cons]
  have hw : wrap64 ((i : Int) + 1) = ((i + 1 : Nat) : Int) := w6
  by_cases c : l[i].toList = s.toList
  ·refine ⟨(i : Int), Ev.step (fun k => slices_Index_string_string.l0.eq_2 ..) (eP (eP (eP ?_))), ?_⟩
   ·rw [ba_get l i hlt]
    exact evPos c.symm (Ev.now _)
   ·rw [he, c]
    simp
  ·refine ⟨m, Ev.step (fun k => slices_Index_string_string.l0.eq_2 ..) (eP (eP (eP ?_))), ?_⟩
   ·rw [ba_get l i hlt, hw]
    exact evNeg (fun h => c h.symm) hm
   ·have cb : (l[i].toList == s.toList) = false := by simpa using c
    rw [he, cb, Bool.false_or, h2]
theorem contains_ev (l : List ByteArray) (s : ByteArray) (hl : l.length ≤ 10000000) : Ev (fun k => slices_Contains_string_string.f k l s) (inB l s) := by
 obtain ⟨m, hm, h2⟩ := idx_loop l s hl l.length 0 (by omega)
 rw [List.drop_zero] at h2
 unfold slices_Contains_string_string.f
 exact Ev.bind hm (evTo (Ev.now _) h2)
theorem in_loop (l : List ByteArray) (s : ByteArray) (hl : l.length ≤ 10000000) (d : Nat) : ∀ i : Nat, i + d = l.length → Ev (fun k => spec_l2In.l0 k l s (i : Int)) (inB (l.drop i) s) := by
 induction d with
 | zero =>
  intro i hi
  refine Ev.step (fun k => spec_l2In.l0.eq_2 ..) (eN (evTo (Ev.now _) ?_))
  rw [List.drop_eq_nil_of_le (by omega)]
  rfl
 | succ d ih =>
  intro i hi
  have hlt : i < l.length := by omega
  refine Ev.step (fun k => spec_l2In.l0.eq_2 ..) (eP (eP ?_))
  have he : inB (l.drop i) s = (l[i].toList == s.toList || inB (l.drop (i + 1)) s) := by
   unfold inB
   rw [List.drop_eq_getElem_cons hlt, List.any_cons]
  rw [ba_get l i hlt, w6 (n := (i : Int) + 1), he]
  by_cases c : l[i].toList = s.toList
  ·exact evPos c (evTo (Ev.now _) (by simp [c]))
  ·have cb : (l[i].toList == s.toList) = false := by simpa using c
   rw [cb, Bool.false_or]
   exact evNeg c (ih (i + 1) (by omega))
theorem l2In_ev (l : List ByteArray) (s : ByteArray) (hl : l.length ≤ 10000000) : Ev (fun k => spec_l2In.f k l s) (inB l s) := in_loop l s hl l.length 0 (by omega)
def bookB (A : List Af) (E : List En) : Bool := affsB A && entsB E
theorem bookOk_spec (A : List Af) (E : List En) (h : BkSz A E) : Ev (fun n => spec_BookOk.f n A E) (bookB A E) := by
 refine ents_spec_loop A E h.le h.e (fun hf => by simp [bookB, entsB, hf]) E.length 0 (by omega) (fun hf => ?_) (fun ht => ?_)
 ·have hf' : entGo E E.length 0 = false := hf
  simp [bookB, entsB, hf']
 ·have ht' : entGo E E.length 0 = true := ht
  refine Ev.bind (affs_spec A h.la h.a) ?_
  simp only [bookB, entsB, ht', Bool.true_and]
  cases affsB A with
  | false => exact evNeg (by simp) (evTo (Ev.now _) (by simp))
  | true => exact evPos rfl (evTo (Ev.now _) (by rw [Bool.true_and]; exact decide_eq_decide.2 (by omega)))
theorem bookOk_impl (A : List Af) (E : List En) (h : BkSz A E) : Ev (fun n => impl_BookOk.f n A E) (bookB A E) := by
 unfold impl_BookOk.f
 refine Ev.bind (affs_impl A h.la h.a) ?_
 simp only [bookB]
 cases affsB A with
 | false => exact evNeg (by simp) (evTo (Ev.now _) (by simp))
 | true => exact evPos rfl (Ev.bind (ents_impl_loop E h.le h.e E.length 0 (by omega)) (evTo (Ev.now _) (by rw [Bool.true_and]; rfl)))
theorem words_inner (A : List Af) (E : List En) (i : Nat) (fs : List ByteArray) (hl : fs.length ≤ 1000) {r : List ByteArray} (d : Nat) : ∀ (j : Nat) (out : List ByteArray), j + d = fs.length → out.length + d ≤ 100000 →
  (∀ out', out' = (fs.drop j).foldl putL out → Ev (fun k => spec_l2Words.l0 k out' (wrap64 ((i : Int) + 1)) A E) r) → Ev (fun k => spec_l2Words.l1 k out (i : Int) fs (j : Int) A E) r := by
 induction d with
 | zero =>
  intro j out hj ho next
  refine Ev.step (fun k => spec_l2Words.l1.eq_2 ..) (eN (next _ ?_))
  rw [List.drop_eq_nil_of_le (by omega)]
  rfl
 | succ d ih =>
  intro j out hj ho next
  have hlt : j < fs.length := by omega
  rw [List.drop_eq_getElem_cons hlt, List.foldl_cons] at next
  have hp := (putL_length out fs[j]).2
  refine Ev.step (fun k => spec_l2Words.l1.eq_2 ..) (eP (eP ?_))
  rw [ba_get fs j hlt, w6 (n := (j : Int) + 1)]
  exact Ev.bind (put_ev out fs[j] (by omega)) (ih (j + 1) _ (by omega) (by omega) next)
theorem words_loop (A : List Af) (E : List En) (hok : ∀ a ∈ A, AfOk a) (hA : A.length ≤ 8) (he : ∀ s ∈ E, (s.f0.size ≤ 1048576 ∧ s.f1.size ≤ 1048576)) (hE : E.length ≤ 24) (d : Nat) : ∀ (i : Nat) (out : List ByteArray), i + d = E.length → out.length + d * 100 ≤ 90000 →
  Ev (fun k => spec_l2Words.l0 k out (i : Int) A E) (wordsL A (E.drop i) out) := by
 induction d with
 | zero =>
  intro i out hi ho
  refine Ev.step (fun k => spec_l2Words.l0.eq_2 ..) (eN (evTo (Ev.now _) ?_))
  rw [List.drop_eq_nil_of_le (by omega)]
  rfl
 | succ d ih =>
  intro i out hi ho
  have hlt : i < E.length := by omega
  have e : rd_T78 E (i : Int) = E[i] := by simp [rd_T78, List.getD_eq_getElem?_getD, hlt]
  have hz := he _ (List.getElem_mem hlt)
  have hn := formsL_length hA E[i].f0 E[i].f1
  have split : wordsL A (E.drop i) out = wordsL A (E.drop (i + 1)) ((formsL A E[i].f0 E[i].f1).foldl putL out) := by
   unfold wordsL allF
   rw [List.drop_eq_getElem_cons hlt, List.flatMap_cons, List.foldl_append]
  rw [split]
  refine Ev.step (fun k => spec_l2Words.l0.eq_2 ..) (eP (eP ?_))
  rw [e]
  refine Ev.bind (l2Forms_ev A _ _ hok hA hz.2 hz.1) (words_inner A E i _ (by omega) (formsL A E[i].f0 E[i].f1).length 0 out (by omega) (by omega) (fun out' h => ?_))
  rw [List.drop_zero] at h
  rw [w6 (n := (i : Int) + 1), ← h]
  have hp := foldPut_length (formsL A E[i].f0 E[i].f1) out
  exact ih (i + 1) out' (by omega) (by rw [h]; omega)
theorem l2Words_ev (A : List Af) (E : List En) (hok : ∀ a ∈ A, AfOk a) (hA : A.length ≤ 8) (he : ∀ s ∈ E, (s.f0.size ≤ 1048576 ∧ s.f1.size ≤ 1048576)) (hE : E.length ≤ 24) : Ev (fun k => spec_l2Words.f k A E) (wordsL A E []) := by
 have := words_loop A E hok hA he hE E.length 0 [] (by omega) (by simp; omega)
 rw [List.drop_zero] at this
 exact this
theorem affixDo_impl (g : ByteArray) (fr : Bool) (st ad wh stem : ByteArray) (h1 : st.size ≤ 140737488351232) (h2 : ad.size ≤ 140737488351232) (h3 : wh.size ≤ 140737488351232) (h4 : stem.size ≤ 281474976710656) :
  Ev (fun k => impl_AffixDo.f k g fr st ad wh stem) (outB (affDo g fr st ad wh stem)) := by
 have no : ∀ r, r = ((⟨#[]⟩ : ByteArray), false) → Ev (fun k => impl_AffixDo.j0 k stem true g fr st ad wh) r := fun r hr => Ev.step (fun k => impl_AffixDo.j0.eq_2 _ _ _ _ _ _ _ _) (evPos rfl (evTo (Ev.now _) hr.symm))
 unfold impl_AffixDo.f
 refine Ev.bind (affixOk_impl g fr st ad wh h1 h2 h3) ?_
 cases e1 : affOk g fr st ad wh with
 | false => exact evNeg (by simp) (no _ (by simp [affDo, e1, outB]))
 | true =>
  refine evPos rfl (Ev.bind (word_impl' stem h4) ?_)
  cases e2 : wordB stem with
  | false => exact no _ (by simp [affDo, e2, outB])
  | true =>
   have h12 := (wordB_size e2).2
   have hst := strip_size e1
   refine Ev.step (fun k => impl_AffixDo.j0.eq_2 _ _ _ _ _ _ _ _) (evNeg (by simp) ?_)
   cases fr with
   | true =>
    refine evPos rfl (evCall (hasPrefix_lib _ _) ?_)
    by_cases c : begB stem wh = true
    ·have hs := begB_size c
     have hz : (stem.extract st.size stem.size).size = stem.size - st.size := size_extract _ _ _ (by omega) (Nat.le_refl _)
     refine evPos c (eP (eP ?_))
     try rw [Int.toNat_natCast]
     refine eP (Ev.bind (word_impl' _ (by rw [size_append]; omega)) ?_)
     cases e3 : wordB (ad ++ stem.extract st.size stem.size) with
     | true => exact evPos rfl (evTo (Ev.now _) (by simp [affDo, e1, e2, doB, c, e3, Option.filter, outB]))
     | false => exact evNeg (by simp) (evTo (Ev.now _) (by simp [affDo, e1, e2, doB, c, e3, Option.filter, outB]))
    ·exact evNeg c (evTo (Ev.now _) (by simp [affDo, e1, e2, doB, c, outB]))
   | false =>
    refine evNeg (by simp) (evCall (hasSuffix_lib _ _ (by omega)) ?_)
    by_cases c : endB stem wh = true
    ·have hs := endB_size c
     have hz : (stem.extract 0 (stem.size - st.size)).size = stem.size - st.size := by
      rw [size_extract _ _ _ (by omega) (by omega)]
      omega
     refine evPos c ?_
     rw [w6, show ((stem.size : Int) - (st.size : Int)).toNat = stem.size - st.size from by omega]
     refine eP (eP (eP (Ev.bind (word_impl' _ (by rw [size_append]; omega)) ?_)))
     cases e3 : wordB (stem.extract 0 (stem.size - st.size) ++ ad) with
     | true => exact evPos rfl (evTo (Ev.now _) (by simp [affDo, e1, e2, doB, c, e3, Option.filter, outB]))
     | false => exact evNeg (by simp) (evTo (Ev.now _) (by simp [affDo, e1, e2, doB, c, e3, Option.filter, outB]))
    ·exact evNeg c (evTo (Ev.now _) (by simp [affDo, e1, e2, doB, c, outB]))
theorem has_lib (f g : ByteArray) (hg : g.size = 1) : strings_Contains.f f g = some (hasFl f g) := by
 unfold strings_Contains.f
 rw [if_pos hg]
 congr 1
 obtain ⟨⟨l⟩⟩ := g
 match l, hg with
 | [c], _ =>
  have hb : bt (⟨⟨[c]⟩⟩ : ByteArray) 0 = (c.toNat : Int) := by
   have := bytes_one (g := (⟨⟨[c]⟩⟩ : ByteArray)) rfl
   simpa [bytesOf] using this.symm
  unfold hasFl
  rw [hb]
  show f.data.toList.contains c = (f.data.toList.map (fun b => (b.toNat : Int))).contains (c.toNat : Int)
  induction f.data.toList with
  | nil => rfl
  | cons b l ih =>
   rw [List.map_cons, List.contains_cons, List.contains_cons, ih]
   congr 1
   rw [Bool.eq_iff_iff, beq_iff_eq, beq_iff_eq]
   constructor
   ·rintro rfl
    rfl
   ·intro h
    exact UInt8.toNat_inj.1 (by exact_mod_cast h)
def gA (fl stem : ByteArray) (front : Bool) (s : ByteArray) (a : Af) : List ByteArray := if (selA a fl front && (front || s.toList == stem.toList)) = true then (doA a s).toList else []
theorem affDo_doA {a : Af} {s : ByteArray} (ha : AfOk a) (hs : wordB s = true) : affDo a.f0 a.f1 a.f2 a.f3 a.f4 s = doA a s := by
 unfold affDo doA
 rw [if_pos ⟨ha, hs⟩]
theorem gA_length (fl stem : ByteArray) (front : Bool) (s : ByteArray) (a : Af) : (gA fl stem front s a).length ≤ 1 := by
 unfold gA
 split
 ·cases doA a s <;> simp
 ·simp
theorem gA_flat_length (fl stem : ByteArray) (front : Bool) (s : ByteArray) (A : List Af) : (A.flatMap (gA fl stem front s)).length ≤ A.length := by
 induction A with
 | nil => simp
 | cons a A ih =>
  rw [List.flatMap_cons, List.length_append, List.length_cons]
  have := gA_length fl stem front s a
  omega
theorem inner_loop (A : List Af) (fl stem : ByteArray) (front : Bool) (s : ByteArray) (ys snap : List ByteArray) (bs : List Bool) (n : Int) (ib i : Int) (hok : ∀ a ∈ A, AfOk a) (hA : A.length ≤ 8) (hz : AfSz A) (hs : wordB s = true) {r : List ByteArray} (d : Nat) : ∀ (j : Nat) (out : List ByteArray), j + d = A.length → out.length + d ≤ 100000 →
  (∀ out', out' = out ++ (A.drop j).flatMap (gA fl stem front s) → Ev (fun k => impl_Forms.l1 k A out' front bs n ib snap (snap.length : Int) (wrap64 (i + 1)) stem fl) r) → Ev (fun k => impl_Forms.l2 k A out front s bs n ib snap (snap.length : Int) i A (A.length : Int) (j : Int) stem fl) r := by
 induction d with
 | zero =>
  intro j out hj ho next
  refine Ev.step (fun k => impl_Forms.l2.eq_2 ..) (eN (next _ ?_))
  rw [List.drop_eq_nil_of_le (by omega)]
  simp
 | succ d ih =>
  intro j out hj ho next
  have hlt : j < A.length := by omega
  have e : rd_T82 A (j : Int) = A[j] := by simp [rd_T82, List.getD_eq_getElem?_getD, hlt]
  have ho' := hok _ (List.getElem_mem hlt)
  have hz' := hz _ (List.getElem_mem hlt)
  have hsz := wordB_size hs
  have hg : A[j].f0.size = 1 := by
   have := (affOk_parts ho').1
   simp only [flagB, Bool.and_eq_true, decide_eq_true_eq] at this
   exact this.1
  have ew : wrap64 ((j : Int) + 1) = ((j + 1 : Nat) : Int) := w6
  rw [List.drop_eq_getElem_cons hlt] at next
  simp only [List.flatMap_cons] at next
  have go : ∀ out', out' = out ++ gA fl stem front s A[j] → Ev (fun k => impl_Forms.l2 k A out' front s bs n ib snap (snap.length : Int) i A (A.length : Int) ((j + 1 : Nat) : Int) stem fl) r := by
   intro out' he
   have hl := gA_length fl stem front s A[j]
   refine ih (j + 1) out' (by omega) (by rw [he, List.length_append]; omega) (fun o h => next o ?_)
   rw [h, he, List.append_assoc]
  have skip4 : (selA A[j] fl front = false) → Ev (fun k => impl_Forms.j4 k A out front s bs n ib snap (snap.length : Int) i A (A.length : Int) (j : Int) true stem fl A[j].f0 A[j].f1 A[j].f2 A[j].f3 A[j].f4) r := by
   intro h
   refine Ev.step (fun k => impl_Forms.j4.eq_2 ..) (evPos rfl ?_)
   rw [ew]
   refine go out ?_
   unfold gA
   rw [h]
   simp
  have five : ∀ b : Bool, selA A[j] fl front = true → b = (front || s.toList == stem.toList) → Ev (fun k => impl_Forms.j5 k A out front s bs n ib snap (snap.length : Int) i A (A.length : Int) (j : Int) b stem fl A[j].f0 A[j].f1 A[j].f2 A[j].f3 A[j].f4) r := by
   intro b h1 h2
   refine Ev.step (fun k => impl_Forms.j5.eq_2 ..) ?_
   cases b with
   | false =>
    refine evNeg (by simp) ?_
    rw [ew]
    refine go out ?_
    unfold gA
    rw [← h2]
    simp
   | true =>
    refine evPos rfl (Ev.bind (affixDo_impl _ _ _ _ _ _ (by omega) (by omega) (by omega) (by omega)) ?_)
    rw [affDo_doA ho' hs, ew]
    have hgA : gA fl stem front s A[j] = (doA A[j] s).toList := by unfold gA; rw [h1, ← h2]; rfl
    cases hd : doA A[j] s with
    | none =>
     refine evNeg (by simp [outB]) (go out ?_)
     rw [hgA, hd]
     simp
    | some x =>
     refine evPos rfl (eP (go _ ?_))
     rw [hgA, hd]
     rfl
  refine Ev.step (fun k => impl_Forms.l2.eq_2 ..) (eP (eP (eP ?_)))
  rw [e]
  by_cases c : (A[j].f1 != front) = true
  ·refine evPos c (skip4 ?_)
   have : (A[j].f1 == front) = false := by simpa [bne] using c
   unfold selA
   rw [this]
   rfl
  ·have c1 : (A[j].f1 == front) = true := by simpa [bne] using c
   refine evNeg c (evCall (has_lib _ _ hg) ?_)
   cases h : hasFl fl A[j].f0 with
   | false => exact skip4 (by unfold selA; rw [h, Bool.and_false])
   | true =>
    have h1 : selA A[j] fl front = true := by unfold selA; rw [c1, h]; rfl
    refine Ev.step (fun k => impl_Forms.j4.eq_2 ..) (evNeg (by simp) ?_)
    cases front with
    | true => exact evPos rfl (five true h1 (by simp))
    | false => exact evNeg (by simp) (five _ h1 (by simp))
theorem stems_loop (A : List Af) (fl stem : ByteArray) (front : Bool) (snap : List ByteArray) (bs : List Bool) (n : Int) (ib : Int) (hok : ∀ a ∈ A, AfOk a) (hA : A.length ≤ 8) (hz : AfSz A) (hs : ∀ s ∈ snap, wordB s = true) (hl : snap.length ≤ 1000) {r : List ByteArray} (d : Nat) : ∀ (i : Nat) (out : List ByteArray), i + d = snap.length → out.length + d * 8 ≤ 90000 →
  (∀ out', out' = out ++ (snap.drop i).flatMap (fun s => A.flatMap (gA fl stem front s)) → Ev (fun k => impl_Forms.l0 k A out' bs n (wrap64 (ib + 1)) stem fl) r) → Ev (fun k => impl_Forms.l1 k A out front bs n ib snap (snap.length : Int) (i : Int) stem fl) r := by
 induction d with
 | zero =>
  intro i out hi ho next
  refine Ev.step (fun k => impl_Forms.l1.eq_2 ..) (eN (next _ ?_))
  rw [List.drop_eq_nil_of_le (by omega)]
  simp
 | succ d ih =>
  intro i out hi ho next
  have hlt : i < snap.length := by omega
  have ew : wrap64 ((i : Int) + 1) = ((i + 1 : Nat) : Int) := w6
  rw [List.drop_eq_getElem_cons hlt] at next
  simp only [List.flatMap_cons] at next
  refine Ev.step (fun k => impl_Forms.l1.eq_2 ..) (eP (eP (eP ?_)))
  rw [ba_get snap i hlt]
  refine inner_loop A fl stem front snap[i] snap snap bs n ib (i : Int) hok hA hz (hs _ (List.getElem_mem hlt)) A.length 0 out (by omega) (by omega) (fun out' he => ?_)
  rw [ew]
  rw [List.drop_zero] at he
  have hl2 := gA_flat_length fl stem front snap[i] A
  refine ih (i + 1) out' (by omega) (by rw [he, List.length_append]; omega) (fun o h => next o ?_)
  rw [h, he, List.append_assoc]
def outL (A : List Af) (fl stem : ByteArray) (front : Bool) (out : List ByteArray) : List ByteArray := out ++ out.flatMap (fun s => A.flatMap (gA fl stem front s))
theorem outL_length (A : List Af) (fl stem : ByteArray) (front : Bool) (out : List ByteArray) : (outL A fl stem front out).length ≤ out.length + A.length * out.length := by
 have : ∀ l : List ByteArray, (l.flatMap (fun s => A.flatMap (gA fl stem front s))).length ≤ A.length * l.length := by
  intro l
  induction l with
  | nil => simp
  | cons s l ih =>
   have := gA_flat_length fl stem front s A
   rw [List.flatMap_cons, List.length_append, List.length_cons, Nat.mul_add]
   omega
 have := this out
 unfold outL
 rw [List.length_append]
 omega
theorem outL_words {A : List Af} {fl stem : ByteArray} {front : Bool} {out : List ByteArray} (h : ∀ s ∈ out, wordB s = true) : ∀ s ∈ outL A fl stem front out, wordB s = true := by
 intro s hs
 rcases List.mem_append.1 hs with hs | hs
 ·exact h s hs
 ·obtain ⟨t, _, hs⟩ := List.mem_flatMap.1 hs
  obtain ⟨a, _, hs⟩ := List.mem_flatMap.1 hs
  unfold gA at hs
  split at hs
  ·exact doA_word (Option.mem_toList.1 hs)
  ·cases hs
theorem outL_mem (A : List Af) (fl stem : ByteArray) (front : Bool) (out : List ByteArray) (hf : front = true ∨ ∀ s ∈ out, s = stem) (x : ByteArray) : x ∈ outL A fl stem front out ↔ x ∈ out ∨ ∃ a ∈ A, selA a fl front = true ∧ ∃ s ∈ out, doA a s = some x := by
 unfold outL
 rw [List.mem_append, List.mem_flatMap]
 refine or_congr Iff.rfl ⟨fun ⟨s, hs, h⟩ => ?_, fun ⟨a, ha, h1, s, hs, h⟩ => ⟨s, hs, List.mem_flatMap.2 ⟨a, ha, ?_⟩⟩⟩
 ·obtain ⟨a, ha, h⟩ := List.mem_flatMap.1 h
  unfold gA at h
  split at h
  ·rename_i hc
   simp only [Bool.and_eq_true] at hc
   exact ⟨a, ha, hc.1, s, hs, Option.mem_toList.1 h⟩
  ·cases h
 ·unfold gA
  rw [h1, if_pos, h]
  ·simp
  ·rcases hf with rfl | hf
   ·rfl
   ·simp [hf s hs]
theorem forms_set (A : List Af) (w fl : ByteArray) : M.setL (outL A fl w true (outL A fl w false [w])) = formsL A w fl := by
 refine asc_ext (setL_asc _) (formsL_asc A w fl) (fun x => ?_)
 have h1 : ∀ y, y ∈ outL A fl w false [w] ↔ y ∈ oneL A fl false [w] [w] := fun y => by
  rw [outL_mem A fl w false [w] (.inr (fun s hs => List.mem_singleton.1 hs)), oneL_mem]
 unfold formsL
 rw [setL_mem, outL_mem A fl w true _ (.inl rfl), oneL_mem]
 simp only [h1]
theorem forms_impl (A : List Af) (w fl : ByteArray) (hl : A.length ≤ 1048576) (hs : AfSz A) (hf : fl.size ≤ 1048576) (hw : w.size ≤ 1048576) : Ev (fun k => impl_Forms.f k A w fl) (formsB A w fl) := by
 have no : Ev (fun k => impl_Forms.j0 k A true w fl) ([] : List ByteArray) := Ev.step (fun k => impl_Forms.j0.eq_2 ..) (evPos rfl (Ev.now _))
 unfold impl_Forms.f formsB
 refine Ev.bind (affs_impl A hl hs) ?_
 cases e1 : affsB A with
 | false => exact evNeg (by simp) (evTo no (by simp))
 | true =>
  refine evPos rfl (Ev.bind (ent_impl w fl hw hf) ?_)
  cases e2 : entB w fl with
  | false => exact evTo no (by simp)
  | true =>
   obtain ⟨h1, h2⟩ := affs_all e1
   have hwd := (ent_word e2).1
   have w1 : ∀ s ∈ [w], wordB s = true := fun s hs => by rw [List.mem_singleton.1 hs]; exact hwd
   have w2 := outL_words (A := A) (fl := fl) (stem := w) (front := false) w1
   have n1 := outL_length A fl w false [w]
   simp only [List.length_cons, List.length_nil] at n1
   have n2 := outL_length A fl w true (outL A fl w false [w])
   have n3 : A.length * (outL A fl w false [w]).length ≤ 8 * 9 := Nat.mul_le_mul h2 (by omega)
   refine Ev.step (fun k => impl_Forms.j0.eq_2 ..) (evNeg (by simp) (evCall rfl ?_))
   refine Ev.step (fun k => impl_Forms.l0.eq_2 ..) (evPos (by simp) (eP (evPos (by simp) (evCall rfl (evPos (by simp) (evCall rfl ?_))))))
   refine stems_loop A fl w false [w] [false, true] 2 0 h1 h2 hs w1 (by simp) 1 0 [w] (by simp) (by simp) (fun out1 he1 => ?_)
   rw [w6]
   have e1' : out1 = outL A fl w false [w] := by rw [he1]; rfl
   subst e1'
   refine Ev.step (fun k => impl_Forms.l0.eq_2 ..) (evPos (by simp) (eP (evPos (by simp) (evCall rfl (evPos (by simp; omega) (evCall rfl ?_))))))
   refine stems_loop A fl w true (outL A fl w false [w]) [false, true] 2 1 h1 h2 hs w2 (by omega) (outL A fl w false [w]).length 0 (outL A fl w false [w]) (by omega) (by omega) (fun out2 he2 => ?_)
   rw [w6]
   have e2' : out2 = outL A fl w true (outL A fl w false [w]) := by rw [he2]; rfl
   subst e2'
   refine Ev.step (fun k => impl_Forms.l0.eq_2 ..) (evNeg (by simp) (evCall (a := formsL A w fl) ?_ (evTo (Ev.now _) (by simp))))
   unfold impl_sorted.f
   rw [if_pos (by omega), forms_set]
theorem words_set (A : List Af) (E : List En) : M.setL (allF A E) = wordsL A E [] := rfl
theorem bookWords_loop (A : List Af) (E : List En) (hA : affsB A = true) (hE : entsB E = true) (hz : AfSz A) (hl : A.length ≤ 1048576) (he : ∀ s ∈ E, (s.f0.size ≤ 1048576 ∧ s.f1.size ≤ 1048576)) (d : Nat) : ∀ (i : Nat) (out : List ByteArray), i + d = E.length → out.length + d * 100 ≤ 90000 →
  Ev (fun k => impl_Book_words.l0 k out E (E.length : Int) (i : Int) A E) (M.setL (out ++ allF A (E.drop i))) := by
 induction d with
 | zero =>
  intro i out hi ho
  refine Ev.step (fun k => impl_Book_words.l0.eq_2 ..) (eN (evCall (a := M.setL out) ?_ (evTo (Ev.now _) ?_)))
  ·unfold impl_sorted.f
   rw [if_pos (by omega)]
  ·rw [List.drop_eq_nil_of_le (by omega)]
   simp [allF]
 | succ d ih =>
  intro i out hi ho
  have hlt : i < E.length := by omega
  have e : rd_T78 E (i : Int) = E[i] := by simp [rd_T78, List.getD_eq_getElem?_getD, hlt]
  have hs := he _ (List.getElem_mem hlt)
  have h1 := affs_all hA
  have h2 := ents_all hE
  have hn := formsL_length h1.2 E[i].f0 E[i].f1
  have hf := forms_impl A E[i].f0 E[i].f1 hl hz hs.2 hs.1
  rw [show formsB A E[i].f0 E[i].f1 = formsL A E[i].f0 E[i].f1 from if_pos ⟨hA, h2.1 _ (List.getElem_mem hlt)⟩] at hf
  refine Ev.step (fun k => impl_Book_words.l0.eq_2 ..) (eP (eP (eP ?_)))
  rw [e, w6 (n := (i : Int) + 1)]
  refine Ev.bind hf (eP (evTo (ih (i + 1) _ (by omega) (by rw [List.length_append]; omega)) ?_))
  unfold allF
  rw [List.drop_eq_getElem_cons hlt, List.flatMap_cons, List.append_assoc]
theorem bookWords_ev (A : List Af) (E : List En) (hA : affsB A = true) (hE : entsB E = true) (hz : AfSz A) (hl : A.length ≤ 1048576) (he : ∀ s ∈ E, (s.f0.size ≤ 1048576 ∧ s.f1.size ≤ 1048576)) : Ev (fun k => impl_Book_words.f k A E) (wordsL A E []) := by
 have h2 := (ents_all hE).2
 have := bookWords_loop A E hA hE hz hl he E.length 0 [] (by omega) (by simp; omega)
 rw [List.drop_zero, List.nil_append, words_set] at this
 exact this
def letB (x : Int) : Bool := (decide (97 ≤ x) && decide (x ≤ 122)) || (decide (65 ≤ x) && decide (x ≤ 90))
theorem letter_spec (x : Int) : spec_l4Letter.f x = some (letB x) := by
 unfold spec_l4Letter.f letB
 by_cases a : x ≥ 97
 ·rw [if_pos a, decide_eq_true (show 97 ≤ x from a), Bool.true_and]
  by_cases b : x ≤ 122
  ·rw [if_pos b, decide_eq_true b, Bool.true_or]
  ·rw [if_neg b, decide_eq_false b, Bool.false_or, if_pos (by omega), decide_eq_true (show 65 ≤ x by omega), Bool.true_and]
 ·rw [if_neg a, decide_eq_false (show ¬ 97 ≤ x from a), Bool.false_and, Bool.false_or]
  by_cases c : x ≥ 65
  ·rw [if_pos c, decide_eq_true (show 65 ≤ x from c), Bool.true_and]
  ·rw [if_neg c, decide_eq_false (show ¬ 65 ≤ x from c), Bool.false_and]
theorem letter_impl (x : Int) : impl_letter.f x = some (letB x) := by
 have hb : ∀ o : Option Bool, (o.bind fun t => some t) = o := fun o => by cases o <;> rfl
 unfold impl_letter.f impl_upper.f
 simp only [hb]
 exact letter_spec x
def endN (s : ByteArray) : Nat → Nat → Nat
 | 0, i => i
 | d + 1, i => if letB (bt s (i : Int)) = true then endN s d (i + 1) else i
theorem endN_le (s : ByteArray) : ∀ d i : Nat, i ≤ endN s d i ∧ endN s d i ≤ i + d
 | 0, i => by simp [endN]
 | d + 1, i => by
  have := endN_le s d (i + 1)
  simp only [endN]
  split <;> omega
theorem endN_all (s : ByteArray) : ∀ d i j : Nat, i ≤ j → j < endN s d i → letB (bt s (j : Int)) = true
 | 0, i, j, h1, h2 => by simp [endN] at h2; omega
 | d + 1, i, j, h1, h2 => by
  simp only [endN] at h2
  split at h2
  ·rename_i c
   by_cases e : j = i
   ·rw [e]; exact c
   ·exact endN_all s d (i + 1) j (by omega) h2
  ·omega
theorem endN_stop (s : ByteArray) : ∀ d i : Nat, endN s d i < i + d → letB (bt s (endN s d i : Int)) = false
 | 0, i, h => by simp [endN] at h
 | d + 1, i, h => by
  simp only [endN] at h ⊢
  split at h
  ·rename_i c
   rw [if_pos c]
   exact endN_stop s d (i + 1) (by omega)
  ·rename_i c
   rw [if_neg c]
   simpa using c
def smallB (s : ByteArray) : ByteArray := strOfNums ((bytesOf s).map spec_l4Small.low)
def wordAt (s : ByteArray) (i : Nat) : ByteArray := smallB (s.extract i (endN s (s.size - i) i))
def startB (s : ByteArray) (i : Nat) : Bool := letB (bt s (i : Int)) && !(decide (0 < i) && letB (bt s ((i : Int) - 1)))
def itemAt (s : ByteArray) (ws : List ByteArray) (i : Nat) : List Gu := if startB s i = true then (if inB ws (wordAt s i) = true then [] else [(⟨wordAt s i, (i : Int)⟩ : Gu)]) else []
theorem itemAt_length (s : ByteArray) (ws : List ByteArray) (i : Nat) : (itemAt s ws i).length ≤ 1 := by
 unfold itemAt
 split
 ·split <;> simp
 ·simp
def restL (s : ByteArray) (ws : List ByteArray) (i : Nat) : List Gu := (List.range' i (s.size - i)).flatMap (itemAt s ws)
theorem restL_step {s : ByteArray} (ws : List ByteArray) {i : Nat} (h : i < s.size) : restL s ws i = itemAt s ws i ++ restL s ws (i + 1) := by
 unfold restL
 rw [show s.size - i = (s.size - (i + 1)) + 1 from by omega, List.range'_succ, List.flatMap_cons]
theorem restL_end {s : ByteArray} (ws : List ByteArray) {i : Nat} (h : s.size ≤ i) : restL s ws i = [] := by
 unfold restL
 rw [show s.size - i = 0 from by omega]
 rfl
theorem restL_skip {s : ByteArray} (ws : List ByteArray) {i e : Nat} (he : e ≤ s.size) (ha : ∀ j, i ≤ j → j < e → letB (bt s (j : Int)) = true) : ∀ d j : Nat, j + d = e → i < j → restL s ws j = restL s ws e := by
 intro d
 induction d with
 | zero => intro j hj _; rw [show j = e from by omega]
 | succ d ih =>
  intro j hj hij
  have h0 : startB s j = false := by
   unfold startB
   have h1 := ha (j - 1) (by omega) (by omega)
   rw [show ((j - 1 : Nat) : Int) = (j : Int) - 1 from by omega] at h1
   rw [h1, decide_eq_true (show 0 < j by omega)]
   simp
  rw [restL_step ws (by omega), ih (j + 1) (by omega) (by omega)]
  unfold itemAt
  rw [h0]
  simp
theorem sub_small (s : ByteArray) (hs : s.size ≤ 300) (a b : Nat) : spec_l4Small.f (s.extract a b) = some (smallB (s.extract a b)) := by
 unfold spec_l4Small.f smallB
 exact if_pos (by rw [ByteArray.size_extract]; omega)
theorem bt_get (s : ByteArray) (i : Nat) (h : i < s.size) : (bytesOf s)[i]? = some (bt s (i : Int)) := by
 have h1 := bytes_drop s (i : Int) (by omega) (by omega)
 rw [Int.toNat_natCast] at h1
 have h2 := congrArg (fun l : List Int => l[0]?) h1
 simpa using h2
theorem sub_lower (s : ByteArray) (hs : s.size ≤ 300) (i e : Nat) (h1 : i ≤ e) (h2 : e ≤ s.size) (ha : ∀ j, i ≤ j → j < e → letB (bt s (j : Int)) = true) : strings_ToLower.f (s.extract i e) = some (smallB (s.extract i e)) := by
 have hb : bytesOf (s.extract i e) = ((bytesOf s).drop i).take (e - i) := bytes_extract s i e
 have hm : ∀ x ∈ bytesOf (s.extract i e), letB x = true := fun x hx => by
  obtain ⟨t, ht⟩ := List.mem_iff_getElem?.1 hx
  rw [hb, List.getElem?_take] at ht
  split at ht
  ·rw [List.getElem?_drop, bt_get s (i + t) (by omega)] at ht
   rw [← Option.some.inj ht]
   exact ha (i + t) (by omega) (by omega)
  ·cases ht
 have hm2 : ∀ b ∈ (s.extract i e).data.toList, letB (b.toNat : Int) = true := fun b hb2 => hm _ (List.mem_map.2 ⟨b, hb2, rfl⟩)
 unfold strings_ToLower.f
 rw [if_pos]
 ·congr 1
  unfold smallB
  apply ByteArray.ext
  apply Array.toList_inj.1
  rw [strOfNums_data]
  unfold bytesOf Go.Lib.toLowerA
  rw [List.map_map, List.map_map]
  refine List.map_congr_left (fun b hb2 => ?_)
  have hlt := b.toNat_lt
  have hu : (Go.Lib.isUpperB b = true) ↔ (65 ≤ b.toNat ∧ b.toNat ≤ 90) := by
   unfold Go.Lib.isUpperB
   rw [Bool.and_eq_true, decide_eq_true_eq, decide_eq_true_eq, UInt8.le_iff_toNat_le, UInt8.le_iff_toNat_le]
   exact Iff.rfl
  show Go.Lib.lowerB b = UInt8.ofNat (spec_l4Small.low (b.toNat : Int)).toNat
  unfold Go.Lib.lowerB spec_l4Small.low
  by_cases c : 65 ≤ b.toNat ∧ b.toNat ≤ 90
  ·rw [if_pos (hu.2 c), if_pos (by omega)]
   apply UInt8.toNat_inj.1
   rw [UInt8.toNat_add, UInt8.toNat_ofNat']
   show (b.toNat + 32) % 256 = _
   omega
  ·rw [if_neg (fun h => c (hu.1 h)), if_neg (by omega)]
   apply UInt8.toNat_inj.1
   rw [UInt8.toNat_ofNat']
   omega
 ·refine ⟨by rw [ByteArray.size_extract]; omega, List.all_eq_true.2 (fun b hb2 => decide_eq_true ?_)⟩
  have := hm2 b hb2
  unfold letB at this
  simp at this
  omega
theorem ck_spec_end (s : ByteArray) (hs : s.size ≤ 300) (out : List Gu) (ws : List ByteArray) (i : Nat) {r : List Gu} (d : Nat) : ∀ j : Nat, j + d = s.size → Ev (fun k => spec_Check.j4 k s out ws (i : Int) (endN s d j : Int)) r → Ev (fun k => spec_Check.l1 k s out ws (i : Int) (j : Int)) r := by
 induction d with
 | zero =>
  intro j hj h
  exact Ev.step (fun k => spec_Check.l1.eq_2 ..) (evNeg (by omega) h)
 | succ d ih =>
  intro j hj h
  refine Ev.step (fun k => spec_Check.l1.eq_2 ..) (eP (eP (evCall (letter_spec _) ?_)))
  simp only [endN] at h
  by_cases c : letB (bt s (j : Int)) = true
  ·rw [if_pos c] at h
   refine evPos c ?_
   rw [w6 (n := (j : Int) + 1)]
   exact ih (j + 1) (by omega) h
  ·rw [if_neg c] at h
   exact evNeg c h
theorem ck_impl_end (s : ByteArray) (hs : s.size ≤ 300) (out : List Gu) (ws : List ByteArray) (i : Nat) {r : List Gu} (d : Nat) : ∀ j : Nat, j + d = s.size → Ev (fun k => impl_Check.j3 k s out ws (i : Int) (endN s d j : Int)) r → Ev (fun k => impl_Check.l1 k s out ws (i : Int) (j : Int)) r := by
 induction d with
 | zero =>
  intro j hj h
  exact Ev.step (fun k => impl_Check.l1.eq_2 ..) (evNeg (by omega) h)
 | succ d ih =>
  intro j hj h
  refine Ev.step (fun k => impl_Check.l1.eq_2 ..) (eP (eP (evCall (letter_impl _) ?_)))
  simp only [endN] at h
  by_cases c : letB (bt s (j : Int)) = true
  ·rw [if_pos c] at h
   refine evPos c ?_
   rw [w6 (n := (j : Int) + 1)]
   exact ih (j + 1) (by omega) h
  ·rw [if_neg c] at h
   exact evNeg c h
theorem ck_spec_loop (s : ByteArray) (hs : s.size ≤ 300) (ws : List ByteArray) (hw : ws.length ≤ 10000000) (d : Nat) : ∀ (i : Nat) (out : List Gu), i + d = s.size → out.length ≤ i → Ev (fun k => spec_Check.l0 k s out ws (i : Int)) (out ++ restL s ws i) := by
 induction d with
 | zero =>
  intro i out hi ho
  rw [restL_end ws (by omega), List.append_nil]
  exact Ev.step (fun k => spec_Check.l0.eq_2 ..) (eN (Ev.now _))
 | succ d ih =>
  intro i out hi ho
  have hi1 : wrap64 ((i : Int) + 1) = ((i + 1 : Nat) : Int) := w6
  have hi2 : wrap64 ((i : Int) - 1) = (i : Int) - 1 := w6
  rw [restL_step ws (by omega)]
  have no : startB s i = false → Ev (fun k => spec_Check.j2 k s out ws (i : Int) true) (out ++ (itemAt s ws i ++ restL s ws (i + 1))) := fun h => by
   have e : itemAt s ws i = [] := by unfold itemAt; rw [h]; simp
   refine Ev.step (fun k => spec_Check.j2.eq_2 ..) (evPos rfl ?_)
   rw [hi1, e, List.nil_append]
   exact ih (i + 1) out (by omega) (by omega)
  have yes : startB s i = true → Ev (fun k => spec_Check.j2 k s out ws (i : Int) false) (out ++ (itemAt s ws i ++ restL s ws (i + 1))) := fun h => by
   refine Ev.step (fun k => spec_Check.j2.eq_2 ..) (evNeg (by simp) (ck_spec_end s hs out ws i (s.size - i) i (by omega) ?_))
   have he := endN_le s (s.size - i) i
   have hin := l2In_ev ws (wordAt s i) hw
   unfold itemAt
   rw [if_pos h]
   refine Ev.step (fun k => spec_Check.j4.eq_2 ..) (eP (eP (eP (evCall (sub_small s hs _ _) ?_))))
   rw [Int.toNat_natCast, Int.toNat_natCast, hi1]
   refine Ev.bind hin ?_
   cases c : inB ws (wordAt s i) with
   | true => exact evPos rfl (evTo (ih (i + 1) out (by omega) (by omega)) (by simp))
   | false => exact evNeg (by simp) (eP (evTo (ih (i + 1) _ (by omega) (by simp; omega)) (by simp [wordAt])))
  refine Ev.step (fun k => spec_Check.l0.eq_2 ..) (eP (eP (evCall (letter_spec _) ?_)))
  rw [hi2]
  by_cases c : letB (bt s (i : Int)) = true
  ·refine evPos c ?_
   by_cases c2 : (i : Int) > 0
   ·refine evPos c2 (eP (eP (evCall (letter_spec _) ?_)))
    cases c3 : letB (bt s ((i : Int) - 1)) with
    | true => exact no (by unfold startB; rw [c3, decide_eq_true (show 0 < i by omega)]; simp)
    | false => exact yes (by unfold startB; rw [c, c3]; simp)
   ·exact evNeg c2 (yes (by unfold startB; rw [c, decide_eq_false (show ¬ 0 < i by omega)]; simp))
  ·exact evNeg c (no (by unfold startB; rw [Bool.not_eq_true] at c; rw [c]; simp))
theorem ck_impl_loop (s : ByteArray) (hs : s.size ≤ 300) (ws : List ByteArray) (hw : ws.length ≤ 10000000) (n : Nat) : ∀ (d i : Nat) (out : List Gu), d ≤ n → i + d = s.size → out.length ≤ i → (i = 0 ∨ i = s.size ∨ letB (bt s ((i : Int) - 1)) = false ∨ letB (bt s (i : Int)) = false) → Ev (fun k => impl_Check.l0 k s out ws (i : Int)) (out ++ restL s ws i) := by
 induction n with
 | zero =>
  intro d i out hd hi ho hc
  rw [restL_end ws (by omega), List.append_nil]
  exact Ev.step (fun k => impl_Check.l0.eq_2 ..) (eN (Ev.now _))
 | succ n ih =>
  intro d i out hd hi ho hc
  by_cases hend : i = s.size
  ·rw [restL_end ws (by omega), List.append_nil]
   exact Ev.step (fun k => impl_Check.l0.eq_2 ..) (eN (Ev.now _))
  have hi1 : wrap64 ((i : Int) + 1) = ((i + 1 : Nat) : Int) := w6
  refine Ev.step (fun k => impl_Check.l0.eq_2 ..) (eP (eP (evCall (letter_impl _) ?_)))
  by_cases c : letB (bt s (i : Int)) = true
  ·have hst : startB s i = true := by
    unfold startB
    rw [c]
    rcases hc with hc | hc | hc | hc
    ·subst hc; simp
    ·omega
    ·rw [hc]; simp
    ·rw [hc] at c; cases c
   refine evPos c (ck_impl_end s hs out ws i (s.size - i) i (by omega) ?_)
   have he := endN_le s (s.size - i) i
   have hall := endN_all s (s.size - i) i
   have hgt : i < endN s (s.size - i) i := by
    rw [show s.size - i = (s.size - i - 1) + 1 from by omega]
    simp only [endN]
    rw [if_pos c]
    have := (endN_le s (s.size - i - 1) (i + 1)).1
    omega
   have hnext : endN s (s.size - i) i = 0 ∨ endN s (s.size - i) i = s.size ∨ letB (bt s ((endN s (s.size - i) i : Int) - 1)) = false ∨ letB (bt s (endN s (s.size - i) i : Int)) = false := by
    by_cases h : endN s (s.size - i) i = s.size
    ·exact .inr (.inl h)
    ·exact .inr (.inr (.inr (endN_stop s (s.size - i) i (by omega))))
   have hsk := restL_skip ws (i := i) (e := endN s (s.size - i) i) (by omega) hall (endN s (s.size - i) i - (i + 1)) (i + 1) (by omega) (by omega)
   have hin := contains_ev ws (wordAt s i) hw
   rw [restL_step ws (by omega), hsk]
   unfold itemAt
   rw [if_pos hst]
   refine Ev.step (fun k => impl_Check.j3.eq_2 ..) (eP (eP (eP (evCall (sub_lower s hs _ _ (by omega) (by omega) (by rw [Int.toNat_natCast, Int.toNat_natCast]; exact hall)) ?_))))
   rw [Int.toNat_natCast, Int.toNat_natCast]
   refine Ev.bind hin ?_
   cases c2 : inB ws (wordAt s i) with
   | true => exact evPos rfl (evTo (ih (s.size - endN s (s.size - i) i) (endN s (s.size - i) i) out (by omega) (by omega) (by omega) hnext) (by simp))
   | false => exact evNeg (by simp) (eP (evTo (ih (s.size - endN s (s.size - i) i) (endN s (s.size - i) i) _ (by omega) (by omega) (by simp; omega) hnext) (by simp [wordAt])))
  ·have hst : startB s i = false := by unfold startB; rw [Bool.not_eq_true] at c; rw [c]; simp
   refine evNeg c ?_
   rw [hi1, restL_step ws (by omega)]
   have e : itemAt s ws i = [] := by unfold itemAt; rw [hst]; simp
   rw [e, List.nil_append]
   refine ih (d - 1) (i + 1) out (by omega) (by omega) (by omega) (.inr (.inr (.inl ?_)))
   rw [show ((i + 1 : Nat) : Int) - 1 = (i : Int) from by omega]
   simpa using c
def checkB (A : List Af) (E : List En) (s : ByteArray) : List Gu := if bookB A E = true ∧ s.size ≤ 300 then restL s (wordsL A E []) 0 else []
theorem restL_length (s : ByteArray) (ws : List ByteArray) (d : Nat) : ∀ i : Nat, i + d = s.size → (restL s ws i).length ≤ d := by
 induction d with
 | zero => intro i hi; rw [restL_end ws (by omega)]; simp
 | succ d ih =>
  intro i hi
  rw [restL_step ws (by omega), List.length_append]
  have := itemAt_length s ws i
  have := ih (i + 1) (by omega)
  omega
theorem checkB_length (A : List Af) (E : List En) (s : ByteArray) : (checkB A E s).length ≤ 300 := by
 unfold checkB
 split
 ·rename_i h
  have := restL_length s (wordsL A E []) s.size 0 (by omega)
  omega
 ·simp
theorem check_spec (A : List Af) (E : List En) (h : BkSz A E) (s : ByteArray) (hs : s.size ≤ 1048576) : Ev (fun k => spec_Check.f k A E s) (checkB A E s) := by
 unfold spec_Check.f checkB
 refine evCall rfl (Ev.bind (bookOk_spec A E h) ?_)
 have fin : ∀ b : Bool, b = true → Ev (fun k => spec_Check.j0 k s ([] : List Gu) b A E) ([] : List Gu) := fun b hb => Ev.step (fun k => spec_Check.j0.eq_2 ..) (evPos hb (Ev.now _))
 by_cases e : bookB A E = true
 ·refine evPos e ?_
  by_cases c : (s.size : Int) > 300
  ·rw [decide_eq_true c, if_neg (by omega)]
   exact fin true rfl
  ·rw [decide_eq_false c, if_pos ⟨e, by omega⟩]
   have e' := e
   simp only [bookB, Bool.and_eq_true] at e'
   obtain ⟨h1, h2⟩ := affs_all e'.1
   have h3 := ents_all e'.2
   have hlen := wordsL_length h2 E
   refine Ev.step (fun k => spec_Check.j0.eq_2 ..) (evNeg (by simp) (Ev.bind (l2Words_ev A E h1 h2 h.e h3.2) ?_))
   have := ck_spec_loop s (by omega) (wordsL A E []) (by omega) s.size 0 [] (by omega) (by simp)
   rw [List.nil_append] at this
   exact this
 ·rw [if_neg (fun hh => e hh.1)]
  exact evNeg e (fin true rfl)
theorem check_impl (A : List Af) (E : List En) (h : BkSz A E) (s : ByteArray) (hs : s.size ≤ 1048576) : Ev (fun k => impl_Check.f k A E s) (checkB A E s) := by
 unfold impl_Check.f checkB
 refine evCall rfl (Ev.bind (bookOk_impl A E h) ?_)
 have fin : ∀ b : Bool, b = true → Ev (fun k => impl_Check.j0 k s ([] : List Gu) b A E) ([] : List Gu) := fun b hb => Ev.step (fun k => impl_Check.j0.eq_2 ..) (evPos hb (Ev.now _))
 by_cases e : bookB A E = true
 ·refine evPos e ?_
  by_cases c : (s.size : Int) > 300
  ·rw [decide_eq_true c, if_neg (by omega)]
   exact fin true rfl
  ·rw [decide_eq_false c, if_pos ⟨e, by omega⟩]
   have e' := e
   simp only [bookB, Bool.and_eq_true] at e'
   obtain ⟨h1, h2⟩ := affs_all e'.1
   have h3 := ents_all e'.2
   have hlen := wordsL_length h2 E
   refine Ev.step (fun k => impl_Check.j0.eq_2 ..) (evNeg (by simp) (Ev.bind (bookWords_ev A E e'.1 e'.2 h.a h.la h.e) ?_))
   have := ck_impl_loop s (by omega) (wordsL A E []) (by omega) s.size s.size 0 [] (by omega) (by omega) (by simp) (.inl rfl)
   rw [List.nil_append] at this
   exact this
 ·rw [if_neg (fun hh => e hh.1)]
  exact evNeg e (fin true rfl)
theorem markText_loop (d : Nat) : ∀ (n : Int) (s : ByteArray), 0 ≤ n → n < 2 ^ d → n ≤ 4611686018427387904 → s.size + d ≤ 1000000 → ∃ t, Ev (fun k => laws_markText.l0 k n s) t := by
 induction d with
 | zero =>
  intro n s h0 h1 h2 hs
  exact ⟨_, Ev.step (fun k => laws_markText.l0.eq_2 _ _ _) (evNeg (by simp at h1; omega) (eP (Ev.now _)))⟩
 | succ d ih =>
  intro n s h0 h1 h2 hs
  by_cases c : n > 0
  ·have hd : Int.tdiv n 10 = n / 10 := Int.tdiv_eq_ediv_of_nonneg h0
   have hp : (2 : Int) ^ (d + 1) = 2 ^ d * 2 := Int.pow_succ 2 d
   have hz : ∀ x : Int, (strOfNums [x]).size = 1 := fun _ => rfl
   obtain ⟨t, ht⟩ := ih (n / 10) (strOfNums [(wrap64 (48 + (Int.tmod n 10))) % 256] ++ s) (by omega) (by omega) (by omega) (by rw [size_append, hz]; omega)
   refine ⟨t, Ev.step (fun k => laws_markText.l0.eq_2 _ _ _) (evPos c (evCall rfl (evPos (by rw [hz]; omega) ?_)))⟩
   rw [hd, w6 (n := n / 10)]
   exact ht
  ·exact ⟨_, Ev.step (fun k => laws_markText.l0.eq_2 _ _ _) (evNeg c (eP (Ev.now _)))⟩
theorem markText_some (n : Int) (h1 : n ≤ 4611686018427387904) : ∃ t, Ev (fun k => laws_markText.f k n) t := by
 unfold laws_markText.f
 by_cases c : n ≤ 0
 ·exact ⟨_, evPos c (Ev.now _)⟩
 ·obtain ⟨t, ht⟩ := markText_loop 63 n ⟨#[]⟩ (by omega) (by omega) h1 (by decide)
  exact ⟨t, evNeg c ht⟩
noncomputable def mt (n : Int) : ByteArray := Classical.epsilon (fun t => Ev (fun k => laws_markText.f k n) t)
theorem mt_ev (n : Int) (h1 : n ≤ 4611686018427387904) : Ev (fun k => laws_markText.f k n) (mt n) := Classical.epsilon_spec (p := fun t => Ev (fun k => laws_markText.f k n) t) (markText_some n h1)
theorem markAf_loop (L : Nat) (d : Nat) : ∀ (i : Nat) (y : List Af), y.length = L → i + d = L → L ≤ 1048576 → ∃ z, Ev (fun k => laws_markAffixS.l0 k y ((1 : Int) + 5 * i) (i : Int)) ((1 : Int) + 5 * L, z) := by
 induction d with
 | zero =>
  intro i y hy hi hl
  exact ⟨y, Ev.step (fun k => laws_markAffixS.l0.eq_2 _ _ _ _) (eN (evTo (Ev.now _) (by rw [show (1 : Int) + 5 * (i : Int) = 1 + 5 * (L : Int) from by omega])))⟩
 | succ d ih =>
  intro i y hy hi hl
  have hw : ∀ n : Int, n ≤ 100000000 → -100000000 ≤ n → wrap64 n = n := fun n h1 h2 => w6
  have e1 : wrap64 ((1 : Int) + 5 * (i : Int) + 1) = 1 + 5 * (i : Int) + 1 := hw _ (by omega) (by omega)
  have e2 : wrap64 ((1 : Int) + 5 * (i : Int) + 1 + 1) = 1 + 5 * (i : Int) + 1 + 1 := hw _ (by omega) (by omega)
  have e3 : wrap64 ((1 : Int) + 5 * (i : Int) + 1 + 1 + 1) = 1 + 5 * (i : Int) + 1 + 1 + 1 := hw _ (by omega) (by omega)
  have e4 : wrap64 ((1 : Int) + 5 * (i : Int) + 1 + 1 + 1 + 1) = 1 + 5 * (i : Int) + 1 + 1 + 1 + 1 := hw _ (by omega) (by omega)
  have e5 : wrap64 ((1 : Int) + 5 * (i : Int) + 1 + 1 + 1 + 1 + 1) = 1 + 5 * ((i + 1 : Nat) : Int) := by rw [hw _ (by omega) (by omega)]; omega
  have e6 : wrap64 ((i : Int) + 1) = ((i + 1 : Nat) : Int) := hw _ (by omega) (by omega)
  have key : ∀ y' : List Af, y'.length = L → ∃ z, Ev (fun k => laws_markAffixS.l0 k y' ((1 : Int) + 5 * ((i + 1 : Nat) : Int)) ((i + 1 : Nat) : Int)) ((1 : Int) + 5 * L, z) := fun y' h' => ih (i + 1) y' h' (by omega) hl
  obtain ⟨Z, hZ⟩ : ∃ Z : List Af → List Af, ∀ y' : List Af, y'.length = L → Ev (fun k => laws_markAffixS.l0 k y' ((1 : Int) + 5 * ((i + 1 : Nat) : Int)) ((i + 1 : Nat) : Int)) ((1 : Int) + 5 * L, Z y') :=
   ⟨fun y' => if h : y'.length = L then Classical.choose (key y' h) else [], fun y' h => by simp only [dif_pos h]; exact Classical.choose_spec (key y' h)⟩
  refine ⟨Z ?_, Ev.step (fun k => laws_markAffixS.l0.eq_2 _ _ _ _) (eP (Ev.bind (mt_ev _ (by omega)) (eP (evCall rfl (evCall rfl (Ev.bind (mt_ev _ (by rw [e1, e2]; omega)) (evCall rfl (Ev.bind (mt_ev _ (by rw [e1, e2, e3]; omega)) (evCall rfl (Ev.bind (mt_ev _ (by rw [e1, e2, e3, e4]; omega)) ?_))))))))))⟩
  rotate_left
  ·rw [e1, e2, e3, e4, e5, e6]
   refine hZ _ ?_
   simp [hy]
theorem markAfs_ev (l : List Af) (hl : l.length ≤ 1048576) : ∃ z, Ev (fun k => laws_markAffixS.f k l 1) ((1 : Int) + 5 * l.length, z) := by
 unfold laws_markAffixS.f
 have := markAf_loop l.length l.length 0 l rfl (by omega) hl
 simpa using this
theorem markEn_loop (b : Int) (hb : 0 ≤ b) (hb2 : b ≤ 10000000) (L : Nat) (d : Nat) : ∀ (i : Nat) (y : List En), y.length = L → i + d = L → L ≤ 1048576 → ∃ z, Ev (fun k => laws_markEntryS.l0 k y (b + 2 * (i : Int)) (i : Int)) (b + 2 * (L : Int), z) := by
 induction d with
 | zero =>
  intro i y hy hi hl
  exact ⟨y, Ev.step (fun k => laws_markEntryS.l0.eq_2 _ _ _ _) (eN (evTo (Ev.now _) (by rw [show b + 2 * (i : Int) = b + 2 * (L : Int) from by omega])))⟩
 | succ d ih =>
  intro i y hy hi hl
  have hw : ∀ n : Int, n ≤ 100000000 → -100000000 ≤ n → wrap64 n = n := fun n h1 h2 => w6
  have e1 : wrap64 (b + 2 * (i : Int) + 1) = b + 2 * (i : Int) + 1 := hw _ (by omega) (by omega)
  have e5 : wrap64 (b + 2 * (i : Int) + 1 + 1) = b + 2 * ((i + 1 : Nat) : Int) := by rw [hw _ (by omega) (by omega)]; omega
  have e6 : wrap64 ((i : Int) + 1) = ((i + 1 : Nat) : Int) := hw _ (by omega) (by omega)
  have key : ∀ y' : List En, y'.length = L → ∃ z, Ev (fun k => laws_markEntryS.l0 k y' (b + 2 * ((i + 1 : Nat) : Int)) ((i + 1 : Nat) : Int)) (b + 2 * (L : Int), z) := fun y' h' => ih (i + 1) y' h' (by omega) hl
  obtain ⟨Z, hZ⟩ : ∃ Z : List En → List En, ∀ y' : List En, y'.length = L → Ev (fun k => laws_markEntryS.l0 k y' (b + 2 * ((i + 1 : Nat) : Int)) ((i + 1 : Nat) : Int)) (b + 2 * (L : Int), Z y') :=
   ⟨fun y' => if h : y'.length = L then Classical.choose (key y' h) else [], fun y' h => by simp only [dif_pos h]; exact Classical.choose_spec (key y' h)⟩
  refine ⟨Z ?_, Ev.step (fun k => laws_markEntryS.l0.eq_2 _ _ _ _) (eP (Ev.bind (mt_ev _ (by omega)) (eP (evCall rfl (Ev.bind (mt_ev _ (by rw [e1]; omega)) ?_)))))⟩
  rotate_left
  ·rw [e1, e5, e6]
   refine hZ _ ?_
   simp [hy]
theorem markBook_ev (A : List Af) (E : List En) (h1 : A.length ≤ 1048576) (h2 : E.length ≤ 1048576) : ∃ m y z, Ev (fun k => laws_markBook.f k A E 1) (m, y, z) ∧ 0 ≤ m := by
 obtain ⟨y, hy⟩ := markAfs_ev A h1
 obtain ⟨z, hz⟩ := markEn_loop ((1 : Int) + 5 * A.length) (by omega) (by omega) E.length E.length 0 E rfl (by omega) h2
 refine ⟨(1 : Int) + 5 * A.length + 2 * (E.length : Int), y, z, ?_, by omega⟩
 unfold laws_markBook.f laws_markEntryS.f
 refine Ev.bind hy (Ev.bind (a := ((1 : Int) + 5 * A.length + 2 * (E.length : Int), z)) ?_ (Ev.now _))
 simpa using hz
noncomputable def marksG (d : Nat) : List Gu := (List.range d).map (fun j : Nat => (⟨mt (1 + 2 * (j : Int)), 1 + 2 * (j : Int) + 1⟩ : Gu))
theorem marksG_length (d : Nat) : (marksG d).length = d := by simp [marksG]
theorem marksG_get (d i : Nat) (h : i < d) : rd_T43 (marksG d) (i : Int) = ⟨mt (1 + 2 * (i : Int)), 1 + 2 * (i : Int) + 1⟩ := by
 rw [gu_get _ i (by rw [marksG_length]; exact h)]
 simp [marksG]
theorem markGu_loop (l0 : Nat) (d : Nat) : ∀ (i : Nat) (y : List Gu), y.length = l0 → i + d = l0 → l0 ≤ 1000000 → (∀ j : Nat, j < i → y[j]? = (marksG l0)[j]?) → Ev (fun k => laws_markGuessS.l0 k y ((1 : Int) + 2 * i) (i : Int)) ((1 : Int) + 2 * l0, marksG l0) := by
 induction d with
 | zero =>
  intro i y hy hi hl h
  refine Ev.step (fun k => laws_markGuessS.l0.eq_2 ..) (eN (evTo (Ev.now _) ?_))
  have e : y = marksG l0 := by
   refine List.ext_getElem? fun j => ?_
   by_cases c : j < i
   ·exact h j c
   ·rw [List.getElem?_eq_none (by omega), List.getElem?_eq_none (by rw [marksG_length]; omega)]
  rw [e, show (1 : Int) + 2 * (i : Int) = 1 + 2 * (l0 : Int) from by omega]
 | succ d ih =>
  intro i y hy hi hl h
  refine Ev.step (fun k => laws_markGuessS.l0.eq_2 ..) (eP (Ev.bind (mt_ev _ (by omega)) (eP (evCall rfl ?_))))
  rw [w6 (n := (1 : Int) + 2 * (i : Int) + 1), w6 (n := (1 : Int) + 2 * (i : Int) + 1 + 1), w6 (n := (i : Int) + 1), show (1 : Int) + 2 * (i : Int) + 1 + 1 = 1 + 2 * ((i + 1 : Nat) : Int) from by omega, Int.toNat_natCast]
  refine ih (i + 1) _ (by simpa using hy) (by omega) hl (fun j hj => ?_)
  by_cases c : i = j
  ·subst c
   rw [List.getElem?_set_self (by simp; omega), gu_get _ i (by simp; omega)]
   simp [marksG, show i < l0 from by omega]
  ·rw [List.getElem?_set_ne c, List.getElem?_set_ne c]
   exact h j (by omega)
theorem markGus_ev (l : List Gu) (hl : l.length ≤ 1000000) : Ev (fun k => laws_markGuessS.f k l 1) ((1 : Int) + 2 * l.length, marksG l.length) := by
 unfold laws_markGuessS.f
 have := markGu_loop l.length l.length 0 l rfl (by omega) hl (fun j hj => absurd hj (by omega))
 simpa using this
theorem heldGu_loop (l0 : Nat) (d : Nat) : ∀ i : Nat, i + d = l0 → l0 ≤ 1000000 → Ev (fun k => laws_heldGuessS.l0 k (marksG l0) ((1 : Int) + 2 * i) (i : Int)) ((1 : Int) + 2 * l0) := by
 induction d with
 | zero =>
  intro i hi hl
  refine Ev.step (fun k => laws_heldGuessS.l0.eq_2 ..) (evNeg (by rw [marksG_length]; omega) (evTo (Ev.now _) (by omega)))
 | succ d ih =>
  intro i hi hl
  refine Ev.step (fun k => laws_heldGuessS.l0.eq_2 ..) (evPos (by rw [marksG_length]; omega) (eP (Ev.bind (mt_ev _ (by omega)) ?_)))
  rw [marksG_get l0 i (by omega), w6 (n := (1 : Int) + 2 * (i : Int) + 1), w6 (n := (1 : Int) + 2 * (i : Int) + 1 + 1), w6 (n := (i : Int) + 1), show (1 : Int) + 2 * (i : Int) + 1 + 1 = 1 + 2 * ((i + 1 : Nat) : Int) from by omega]
  refine evPos rfl (evPos rfl ?_)
  exact ih (i + 1) (by omega) hl
theorem heldGu_ev (n : Nat) (hl : n ≤ 1000000) : Ev (fun k => laws_heldGuessS.f k (marksG n) 1) ((1 : Int) + 2 * n) := by
 unfold laws_heldGuessS.f
 have := heldGu_loop n n 0 (by omega) hl
 simpa using this
theorem eqGu_loop (l : List Gu) (hl : l.length ≤ 1000000) (d : Nat) : ∀ i : Nat, i + d = l.length → Ev (fun k => laws_eqGuessS.l0 k l l (i : Int)) true := by
 induction d with
 | zero =>
  intro i hi
  exact Ev.step (fun k => laws_eqGuessS.l0.eq_2 ..) (eN (Ev.now _))
 | succ d ih =>
  intro i hi
  refine Ev.step (fun k => laws_eqGuessS.l0.eq_2 ..) (eP (eP (eP (evCall (a := true) (by unfold laws_eqGuess.f; rw [if_pos rfl, if_pos rfl]) (evPos rfl ?_)))))
  rw [w6]
  exact ih (i + 1) (by omega)
theorem eqGus_ev (l : List Gu) (hl : l.length ≤ 1000000) : Ev (fun k => laws_eqGuessS.f k l l) true := by
 unfold laws_eqGuessS.f
 exact evPos rfl (eqGu_loop l hl l.length 0 (by omega))
theorem FnExactCheck (A : List LAf) (E : List LEn) (s : ByteArray) (z : bkWf A E) (zs : s.size ≤ 140737488351232) : ∃ k, laws_FnExactCheck.f k A E s = some true := by
 refine Ev.rounds ?_
 unfold laws_FnExactCheck.f
 by_cases c0 : (s.size : Int) > 1048576
 ·exact evPos c0 (Ev.now _)
 obtain ⟨m, hm, hz⟩ := szBook_ev A E 1048576 (by omega) (by omega) z
 refine evNeg c0 (Ev.bind hm ?_)
 by_cases c : m < 0
 ·exact evPos c (Ev.now _)
 have h := (hz.resolve_left c).2.2
 have ht := toBook_ev A E h
 have gs := check_spec _ _ h s (by omega)
 have gi := check_impl _ _ h s (by omega)
 have hn := checkB_length (A.map cvA) (E.map cvN) s
 generalize checkB (A.map cvA) (E.map cvN) s = r at gs gi hn
 have er := eqGus_ev r (by omega)
 obtain ⟨q, y1, y2, hmk, hq⟩ := markBook_ev (A.map cvA) (E.map cvN) h.la h.le
 have mg := markGus_ev r (by omega)
 have hh := heldGu_ev r.length (by omega)
 refine evNeg c (Ev.bind ht (Ev.bind gs (Ev.bind ht (Ev.bind gi (Ev.bind er (evPos rfl ?_))))))
 refine Ev.bind ht (Ev.bind (eqBook_ev _ _ h) (evPos rfl (Ev.bind hmk (eN (Ev.bind er ?_)))))
 refine Ev.step (fun k => laws_FnExactCheck.j0.eq_2 ..) (evNeg (by simp) (Ev.bind mg (Ev.bind hh (eN (evPos rfl ?_)))))
 refine Ev.bind ht (Ev.bind gi (Ev.bind er (evPos rfl ?_)))
 exact Ev.bind hh (eN (evPos rfl (Ev.now _)))
end Go.Proofs.YtfpmfaelodfecaaGreatDoor.Pure

/- DeltaPut answers as the reference, of every delta, and leaves it as it was. No condition. -/
import Derived.Test.YtnljgfaomabkbaaQFnExactDeltaPutx14
import Derived.Test.YtnljgfaomabkbaaVMBas
import Derived.Test.YtnljgfaomabkbaaVMStr
import Derived.Test.YtnljgfaomabkbaaVMAff
namespace Go.Proofs.Ytnljgfaomabkbaa.Pure
open Go.RowKit Go.Proofs.Ytnljgfaomabkbaa.QFnExactDeltaPut Go.Proofs.YtnljgfaomabkbaaW.PrintWords Go.Proofs.YtnljgfaomabkbaaW.PrintLast Go.Proofs.YtnljgfaomabkbaaW.PrintMore Go.Proofs.Ytnljgfaomabkbaa.M
set_option linter.unusedVariables false
set_option linter.unusedSimpArgs false
theorem letters_loop (s : ByteArray) (m : Int) (h : s.size ≤ 281474976710656) (d : Nat) : ∀ i : Int, 0 ≤ i → i ≤ s.size → (s.size : Int) - i = d →
    Ev (fun k => spec_l1Letters.l0 k s m i) (((bytesOf s).drop i.toNat).all low && decide ((s.size : Int) ≤ m)) := by
  induction d with
  | zero =>
    intro i h0 h1 hd
    refine Ev.step (fun k => spec_l1Letters.l0.eq_2 _ _ _ _) (evNeg (by omega) ?_)
    rw [List.drop_eq_nil_of_le (by rw [bytesOf_length]; omega)]
    exact evTo (Ev.now _) (by simp)
  | succ d ih =>
    intro i h0 h1 hd
    refine Ev.step (fun k => spec_l1Letters.l0.eq_2 _ _ _ _) (evPos (by omega) (evPos h0 ?_))
    rw [bytes_drop s i h0 (by omega), List.all_cons]
    by_cases c : bt s i < 97
    · exact evPos c (evTo (Ev.now _) (by simp [low]; omega))
    refine evNeg c ?_
    by_cases c1 : bt s i > 122
    · exact evPos c1 (evTo (Ev.now _) (by simp [low]; omega))
    refine evNeg c1 ?_
    have e : low (bt s i) = true := (low_iff _).2 (by omega)
    rw [w64 (by omega) (by omega), e, Bool.true_and]
    exact ih (i + 1) (by omega) (by omega) (by omega)
theorem letters_spec (s : ByteArray) (m : Int) (h : s.size ≤ 140737488351232) : Ev (fun k => spec_l1Letters.f k s m) ((bytesOf s).all low && decide ((s.size : Int) ≤ m)) :=
  letters_loop s m (by omega) s.size 0 (by omega) (by omega) (by omega)
theorem letters_wide (s : ByteArray) (m : Int) (h : s.size ≤ 281474976710656) : Ev (fun k => spec_l1Letters.f k s m) ((bytesOf s).all low && decide ((s.size : Int) ≤ m)) :=
  letters_loop s m h s.size 0 (by omega) (by omega) (by omega)
theorem flag_spec (s : ByteArray) : spec_l2Flag.f s = some (flagB s) := by
  unfold spec_l2Flag.f
  by_cases c : (s.size : Int) = 1
  · rw [if_pos c, if_pos (by omega)]
    by_cases e : bt s 0 ≥ 65
    · rw [if_pos e]
      simp [flagB, e]
      omega
    · rw [if_neg e]
      simp [flagB, e]
  · rw [if_neg c]
    simp [flagB]
    omega
theorem begins_spec (s p : ByteArray) : spec_l2Begins.f s p = some (begB s p) := by
  unfold spec_l2Begins.f
  by_cases c : (s.size : Int) ≥ (p.size : Int)
  · rw [if_pos c, if_pos (by omega), if_pos (by omega), toList_beq]
    try rw [Int.toNat_natCast]
    simp [begB]
    omega
  · rw [if_neg c]
    simp [begB]
    omega
theorem ends_spec (s p : ByteArray) (h : s.size ≤ 1407374883512320) : spec_l2Ends.f s p = some (endB s p) := by
  unfold spec_l2Ends.f
  by_cases c : (s.size : Int) ≥ (p.size : Int)
  · rw [if_pos c, w64 (by omega) (by omega), if_pos (by omega), if_pos (by omega), toList_beq, show ((s.size : Int) - (p.size : Int)).toNat = s.size - p.size from by omega]
    simp [endB]
    omega
  · rw [if_neg c]
    simp [endB]
    omega
theorem letters4 (s : ByteArray) (h : s.size ≤ 140737488351232) : Ev (fun k => spec_l1Letters.f k s 4) (partB s) :=
  evTo (letters_spec s 4 h) (by
    unfold partB
    congr 1
    exact decide_eq_decide.2 (by omega))
theorem affixOk_spec (g : ByteArray) (fr : Bool) (st ad wh : ByteArray) (h1 : st.size ≤ 140737488351232) (h2 : ad.size ≤ 140737488351232) (h3 : wh.size ≤ 140737488351232) :
    Ev (fun k => spec_AffixOk.f k g fr st ad wh) (affOk g fr st ad wh) := by
  have no : ∀ r, r = false → Ev (fun k => spec_AffixOk.j0 k true g fr st ad wh) r := fun r hr => Ev.step (fun k => spec_AffixOk.j0.eq_2 _ _ _ _ _ _ _) (evPos rfl (evTo (Ev.now _) hr.symm))
  unfold spec_AffixOk.f
  refine evCall (flag_spec _) ?_
  cases e1 : flagB g with
  | false => exact evNeg (by simp) (no _ (by simp [affOk, e1]))
  | true =>
    refine evPos rfl (Ev.bind (letters4 st h1) ?_)
    cases e2 : partB st with
    | false => exact evNeg (by simp) (no _ (by simp [affOk, e2]))
    | true =>
      refine evPos rfl (Ev.bind (letters4 ad h2) ?_)
      cases e3 : partB ad with
      | false => exact evNeg (by simp) (no _ (by simp [affOk, e3]))
      | true =>
        refine evPos rfl (Ev.bind (letters4 wh h3) ?_)
        cases e4 : partB wh with
        | false => exact no _ (by simp [affOk, e4])
        | true =>
          refine Ev.step (fun k => spec_AffixOk.j0.eq_2 _ _ _ _ _ _ _) (evNeg (by simp) ?_)
          cases fr with
          | true => exact evPos rfl (evCall (begins_spec _ _) (evTo (Ev.now _) (by simp [affOk, e1, e2, e3, e4])))
          | false => exact evNeg (by simp) (evCall (ends_spec _ _ (by omega)) (evTo (Ev.now _) (by simp [affOk, e1, e2, e3, e4])))
theorem lower_loop (s : ByteArray) (h : s.size ≤ 140737488351232) (d : Nat) : ∀ i : Int, 0 ≤ i → i ≤ s.size → (s.size : Int) - i = d →
    Ev (fun k => impl_lower.l0 k s (s.size : Int) i) (((bytesOf s).drop i.toNat).all low) := by
  induction d with
  | zero =>
    intro i h0 h1 hd
    refine Ev.step (fun k => impl_lower.l0.eq_2 _ _ _ _) (evNeg (by omega) ?_)
    rw [List.drop_eq_nil_of_le (by rw [bytesOf_length]; omega)]
    exact evTo (Ev.now _) (by simp)
  | succ d ih =>
    intro i h0 h1 hd
    refine Ev.step (fun k => impl_lower.l0.eq_2 _ _ _ _) (evPos (by omega) (evPos h0 (evPos (by omega) ?_)))
    rw [bytes_drop s i h0 (by omega), List.all_cons]
    by_cases c : bt s i < 97
    · exact evPos c (evTo (Ev.now _) (by simp [low]; omega))
    refine evNeg c ?_
    by_cases c1 : bt s i > 122
    · exact evPos c1 (evTo (Ev.now _) (by simp [low]; omega))
    refine evNeg c1 ?_
    have e : low (bt s i) = true := (low_iff _).2 (by omega)
    rw [w64 (by omega) (by omega), e, Bool.true_and]
    exact ih (i + 1) (by omega) (by omega) (by omega)
theorem lower_impl (s : ByteArray) (h : s.size ≤ 140737488351232) : Ev (fun k => impl_lower.f k s) ((bytesOf s).all low) :=
  lower_loop s h s.size 0 (by omega) (by omega) (by omega)
theorem upper_impl (c : Int) : impl_upper.f c = some (decide (65 ≤ c) && decide (c ≤ 90)) := by
  unfold impl_upper.f
  by_cases e : c ≥ 65
  · rw [if_pos e]; simp [e]
  · rw [if_neg e]; simp; omega
theorem hasPrefix0 (s p : ByteArray) : stringslite_HasPrefix.f s p = some (begB s p) := begins_spec s p
theorem hasPrefix_lib (s p : ByteArray) : strings_HasPrefix.f s p = some (begB s p) := by
  unfold strings_HasPrefix.f
  rw [hasPrefix0]
  rfl
theorem hasSuffix0 (s p : ByteArray) (h : s.size ≤ 1407374883512320) : stringslite_HasSuffix.f s p = some (endB s p) := ends_spec s p h
theorem hasSuffix_lib (s p : ByteArray) (h : s.size ≤ 1407374883512320) : strings_HasSuffix.f s p = some (endB s p) := by
  unfold strings_HasSuffix.f
  rw [hasSuffix0 s p h]
  rfl
theorem parts_loop (g : ByteArray) (fr : Bool) (st ad wh : ByteArray) (l : List ByteArray) (hl : l.length ≤ 10) (hs : ∀ x ∈ l, x.size ≤ 140737488351232) (hw : wh.size ≤ 140737488351232) (d : Nat) : ∀ i : Int, 0 ≤ i → i ≤ l.length → (l.length : Int) - i = d →
    Ev (fun k => impl_AffixOk.l0 k l (l.length : Int) i g fr st ad wh) ((l.drop i.toNat).all partB && (if fr = true then begB wh st else endB wh st)) := by
  induction d with
  | zero =>
    intro i h0 h1 hd
    refine Ev.step (fun k => impl_AffixOk.l0.eq_2 _ _ _ _ _ _ _ _ _) (evNeg (by omega) ?_)
    rw [List.drop_eq_nil_of_le (by omega), List.all_nil, Bool.true_and]
    cases fr with
    | true => exact evPos rfl (evCall (hasPrefix_lib _ _) (Ev.now _))
    | false => exact evNeg (by simp) (evCall (hasSuffix_lib _ _ (by omega)) (Ev.now _))
  | succ d ih =>
    intro i h0 h1 hd
    have hi : i.toNat < l.length := by omega
    have hx : rdOf ByteArray.empty l i = l[i.toNat] := by simp [rdOf, List.getD_eq_getElem?_getD, List.getElem?_eq_getElem hi]
    have hm := hs _ (List.getElem_mem hi)
    refine Ev.step (fun k => impl_AffixOk.l0.eq_2 _ _ _ _ _ _ _ _ _) (evPos (by omega) (evPos h0 (evPos (by omega) ?_)))
    rw [hx, List.drop_eq_getElem_cons hi, List.all_cons]
    generalize l[i.toNat] = x at *
    by_cases c : (x.size : Int) > 4
    · refine evPos c (evTo (Ev.now _) ?_)
      have : partB x = false := by simp [partB]; omega
      rw [this]
      rfl
    · refine evNeg c (Ev.bind (lower_impl x hm) ?_)
      have hp : partB x = (bytesOf x).all low := by
        simp only [partB]
        rw [decide_eq_true (by omega), Bool.and_true]
      rw [hp]
      cases e : (bytesOf x).all low with
      | false => exact evNeg (by simp) (evTo (Ev.now _) (by simp))
      | true =>
        refine evPos rfl ?_
        rw [w64 (by omega) (by omega), Bool.true_and, show i.toNat + 1 = (i + 1).toNat from by omega]
        exact ih (i + 1) (by omega) (by omega) (by omega)
theorem affixOk_impl (g : ByteArray) (fr : Bool) (st ad wh : ByteArray) (h1 : st.size ≤ 140737488351232) (h2 : ad.size ≤ 140737488351232) (h3 : wh.size ≤ 140737488351232) :
    Ev (fun k => impl_AffixOk.f k g fr st ad wh) (affOk g fr st ad wh) := by
  unfold impl_AffixOk.f
  by_cases c : (g.size : Int) = 1
  · refine evPos c (evPos (by omega) (evCall (upper_impl _) ?_))
    have hf : flagB g = (decide (65 ≤ bt g 0) && decide (bt g 0 ≤ 90)) := by
      simp only [flagB]
      rw [decide_eq_true (by omega), Bool.true_and]
    rw [← hf]
    cases e : flagB g with
    | false => exact Ev.step (fun k => impl_AffixOk.j0.eq_2 _ _ _ _ _ _ _) (evPos rfl (evTo (Ev.now _) (by simp [affOk, e])))
    | true =>
      refine Ev.step (fun k => impl_AffixOk.j0.eq_2 _ _ _ _ _ _ _) (evNeg (by simp) (evCall rfl ?_))
      refine evTo (parts_loop g fr st ad wh [st, ad, wh] (by simp) (by
        intro x hx
        simp only [List.mem_cons, List.not_mem_nil, or_false] at hx
        rcases hx with rfl | rfl | rfl <;> assumption) h3 3 0 (by omega) (by simp) (by simp)) ?_
      simp [affOk, e, Bool.and_assoc]
  · refine evNeg c (Ev.step (fun k => impl_AffixOk.j0.eq_2 _ _ _ _ _ _ _) (evPos rfl (evTo (Ev.now _) ?_)))
    have : flagB g = false := by simp [flagB]; omega
    simp [affOk, this]
theorem fill_step {α β : Type} {f : α → β} {xs : List α} {ys : List β} {i : Nat} (z : α) (hl : ys.length = xs.length) (h : ∀ j : Nat, j < i → ys[j]? = (xs.map f)[j]?) (hi : i < xs.length) :
    (ys.set i (f (xs.getD i z))).length = xs.length ∧ ∀ j : Nat, j < i + 1 → (ys.set i (f (xs.getD i z)))[j]? = (xs.map f)[j]? := by
  refine ⟨by simpa using hl, fun j hj => ?_⟩
  by_cases c : i = j
  · subst c
    simp [hl, hi, List.getD_eq_getElem?_getD]
  · rw [List.getElem?_set_ne c]
    exact h j (by omega)
theorem fill_end {α β : Type} {f : α → β} {xs : List α} {ys : List β} (hl : ys.length = xs.length) (h : ∀ j : Nat, j < xs.length → ys[j]? = (xs.map f)[j]?) : ys = xs.map f := by
  refine List.ext_getElem? fun j => ?_
  by_cases c : j < xs.length
  · exact h j c
  · rw [List.getElem?_eq_none (by omega), List.getElem?_eq_none (by simp; omega)]
theorem szAffix_ev (g : ByteArray) (fr : Bool) (st ad wh : ByteArray) (n : Int) (h0 : 0 ≤ n) (h1 : n ≤ 1048576) (z : g.size ≤ 9223372036854775807 ∧ (True ∧ (st.size ≤ 9223372036854775807 ∧ (ad.size ≤ 9223372036854775807 ∧ wh.size ≤ 9223372036854775807)))) :
    ∃ m, laws_szAffix.f g fr st ad wh n = some m ∧ (m < 0 ∨ (0 ≤ m ∧ m = n - g.size - st.size - ad.size - wh.size)) := by
  obtain ⟨z0, _, z1, z2, z3⟩ := z
  unfold laws_szAffix.f
  rw [w64 (n := n - (g.size : Int)) (by omega) (by omega)]
  by_cases c0 : n - (g.size : Int) < 0
  · exact ⟨-1, if_pos c0, .inl (by omega)⟩
  rw [if_neg c0, w64 (n := n - (g.size : Int) - (st.size : Int)) (by omega) (by omega)]
  by_cases c1 : n - (g.size : Int) - (st.size : Int) < 0
  · exact ⟨-1, if_pos c1, .inl (by omega)⟩
  rw [if_neg c1, w64 (n := n - (g.size : Int) - (st.size : Int) - (ad.size : Int)) (by omega) (by omega)]
  by_cases c2 : n - (g.size : Int) - (st.size : Int) - (ad.size : Int) < 0
  · exact ⟨-1, if_pos c2, .inl (by omega)⟩
  rw [if_neg c2, w64 (n := n - (g.size : Int) - (st.size : Int) - (ad.size : Int) - (wh.size : Int)) (by omega) (by omega)]
  by_cases c3 : n - (g.size : Int) - (st.size : Int) - (ad.size : Int) - (wh.size : Int) < 0
  · exact ⟨-1, if_pos c3, .inl (by omega)⟩
  · exact ⟨_, if_neg c3, .inr ⟨by omega, rfl⟩⟩
abbrev LAf := S127
abbrev Af := S98
def cvA (a : LAf) : Af := ⟨a.f0, a.f1, a.f2, a.f3, a.f4⟩
theorem toAffix_loop (l : List LAf) (hl : l.length ≤ 10000000) (d : Nat) : ∀ (i : Nat) (y : List Af), i + d = l.length → y.length = l.length → (∀ j : Nat, j < i → y[j]? = (l.map cvA)[j]?) → Ev (fun k => laws_toAffixS.l0 k l y (i : Int)) (l.map cvA) := by
  induction d with
  | zero =>
    intro i y hi hy h
    exact Ev.step (fun k => laws_toAffixS.l0.eq_2 _ _ _ _) (evNeg (by omega) (evTo (Ev.now _) (fill_end hy (fun j hj => h j (by omega)))))
  | succ d ih =>
    intro i y hi hy h
    obtain ⟨h1, h2⟩ := fill_step (f := cvA) z127 hy h (by omega)
    refine Ev.step (fun k => laws_toAffixS.l0.eq_2 _ _ _ _) (evPos (by omega) (evPos (by omega) (evCall rfl (evPos (by omega) ?_))))
    rw [w64 (by omega) (by omega)]
    exact ih (i + 1) _ (by omega) h1 h2
theorem toAffixs_ev (l : List LAf) (hl : l.length ≤ 10000000) : Ev (fun k => laws_toAffixS.f k l) (l.map cvA) := by
  unfold laws_toAffixS.f
  exact evPos (by omega) (evPos (by omega) (toAffix_loop l hl l.length 0 _ (by omega) (by simp) (fun j hj => absurd hj (by omega))))
theorem eqAffix_loop (l : List Af) (hl : l.length ≤ 10000000) (d : Nat) : ∀ i : Nat, i + d = l.length → Ev (fun k => laws_eqAffixS.l0 k l l (i : Int)) true := by
  induction d with
  | zero =>
    intro i hi
    exact Ev.step (fun k => laws_eqAffixS.l0.eq_2 _ _ _ _) (evNeg (by omega) (Ev.now _))
  | succ d ih =>
    intro i hi
    refine Ev.step (fun k => laws_eqAffixS.l0.eq_2 _ _ _ _) (evPos (by omega) (evPos (by omega) (evPos (by omega) (evCall (a := true) (by simp [laws_eqAffix.f]) (evPos rfl ?_)))))
    rw [w64 (by omega) (by omega)]
    exact ih (i + 1) (by omega)
theorem eqAffixs_ev (l : List Af) (hl : l.length ≤ 10000000) : Ev (fun k => laws_eqAffixS.f k l l) true := by
  unfold laws_eqAffixS.f
  exact evPos rfl (eqAffix_loop l hl l.length 0 (by omega))
theorem szAffixs_loop (l : List LAf) (hl : l.length ≤ 10000000) (he : ∀ s ∈ l, (s.f0.size ≤ 9223372036854775807 ∧ (True ∧ (s.f2.size ≤ 9223372036854775807 ∧ (s.f3.size ≤ 9223372036854775807 ∧ s.f4.size ≤ 9223372036854775807))))) (d : Nat) : ∀ (i : Nat) (n : Int), i + d = l.length → 0 ≤ n → n ≤ 1048576 → ∃ m, Ev (fun k => laws_szAffixS.l0 k l n (i : Int)) m ∧ (m < 0 ∨ (0 ≤ m ∧ m ≤ 1048576 ∧ ∀ s ∈ l.drop i, (s.f0.size ≤ 1048576 ∧ s.f2.size ≤ 1048576 ∧ s.f3.size ≤ 1048576 ∧ s.f4.size ≤ 1048576))) := by
  induction d with
  | zero =>
    intro i n hi h0 h1
    exact ⟨n, Ev.step (fun k => laws_szAffixS.l0.eq_2 _ _ _ _) (evNeg (by omega) (Ev.now _)), .inr ⟨h0, h1, fun s hs => by rw [List.drop_eq_nil_of_le (by omega)] at hs; cases hs⟩⟩
  | succ d ih =>
    intro i n hi h0 h1
    have hlt : i < l.length := by omega
    have e : rd_T127 l (i : Int) = l[i] := by simp [rd_T127, List.getD_eq_getElem?_getD, hlt]
    have hw := he _ (List.getElem_mem hlt)
    obtain ⟨m, hm, hz⟩ := szAffix_ev l[i].f0 l[i].f1 l[i].f2 l[i].f3 l[i].f4 n h0 h1 hw
    by_cases c : m < 0
    · refine ⟨-1, Ev.step (fun k => laws_szAffixS.l0.eq_2 _ _ _ _) (evPos (by omega) (evPos (by omega) ?_)), .inl (by omega)⟩
      rw [e]
      exact evCall hm (evPos c (Ev.now _))
    · have hz' := hz.resolve_left c
      obtain ⟨q, hq, hr⟩ := ih (i + 1) m (by omega) (by omega) (by omega)
      refine ⟨q, Ev.step (fun k => laws_szAffixS.l0.eq_2 _ _ _ _) (evPos (by omega) (evPos (by omega) ?_)), hr.elim .inl (fun h => .inr ⟨h.1, h.2.1, fun s hs => ?_⟩)⟩
      · rw [e]
        refine evCall hm (evNeg c ?_)
        rw [w64 (by omega) (by omega)]
        exact hq
      · rw [List.drop_eq_getElem_cons hlt] at hs
        rcases List.mem_cons.1 hs with rfl | hs
        · omega
        · exact h.2.2 s hs
theorem szAffixs_ev (l : List LAf) (n : Int) (h0 : 0 ≤ n) (h1 : n ≤ 1048576) (hl : l.length ≤ 9223372036854775807) (he : ∀ s ∈ l, (s.f0.size ≤ 9223372036854775807 ∧ (True ∧ (s.f2.size ≤ 9223372036854775807 ∧ (s.f3.size ≤ 9223372036854775807 ∧ s.f4.size ≤ 9223372036854775807))))) :
    ∃ m, Ev (fun k => laws_szAffixS.f k l n) m ∧ (m < 0 ∨ (0 ≤ m ∧ m ≤ 1048576 ∧ l.length ≤ 1048576 ∧ ∀ s ∈ l, (s.f0.size ≤ 1048576 ∧ s.f2.size ≤ 1048576 ∧ s.f3.size ≤ 1048576 ∧ s.f4.size ≤ 1048576))) := by
  unfold laws_szAffixS.f
  rw [w64 (n := n - (l.length : Int)) (by omega) (by omega)]
  by_cases c : n - (l.length : Int) < 0
  · exact ⟨-1, evPos c (Ev.now _), .inl (by omega)⟩
  · obtain ⟨m, hm, hz⟩ := szAffixs_loop l (by omega) he l.length 0 (n - l.length) (by omega) (by omega) (by omega)
    exact ⟨m, evNeg c hm, hz.elim .inl (fun h => .inr ⟨h.1, h.2.1, by omega, by simpa using h.2.2⟩)⟩
theorem af_at {P : Af → Prop} {l : List Af} (h : ∀ s ∈ l, P s) (i : Nat) (hi : i < l.length) : P (rd_T98 l (i : Int)) := by
  have e : rd_T98 l (i : Int) = l[i] := by simp [rd_T98, List.getD_eq_getElem?_getD, hi]
  rw [e]
  exact h _ (List.getElem_mem hi)
def eqA (a b : Af) : Bool := a.f0.toList == b.f0.toList && (a.f1 == b.f1 && (a.f2.toList == b.f2.toList && (a.f3.toList == b.f3.toList && (a.f4.toList == b.f4.toList))))
theorem beq_comm' {α : Type} [BEq α] [LawfulBEq α] (a b : α) : (a == b) = (b == a) := by
  cases h : (a == b) with
  | true => rw [eq_of_beq h]; simp
  | false =>
    cases g : (b == a) with
    | false => rfl
    | true => rw [eq_of_beq g] at h; simp at h
theorem eqA_comm (a b : Af) : eqA a b = eqA b a := by
  unfold eqA
  rw [beq_comm' a.f0.toList, beq_comm' a.f1, beq_comm' a.f2.toList, beq_comm' a.f3.toList, beq_comm' a.f4.toList]
def dup (l : List Af) (i : Int) : Nat → Int → Bool
  | 0, _ => false
  | d + 1, k => eqA (rd_T98 l k) (rd_T98 l i) || dup l i d (k + 1)
def affGo (l : List Af) : Nat → Int → Bool
  | 0, _ => true
  | d + 1, i => affOk (rd_T98 l i).f0 (rd_T98 l i).f1 (rd_T98 l i).f2 (rd_T98 l i).f3 (rd_T98 l i).f4 && !dup l i i.toNat 0 && affGo l d (i + 1)
def affsB (l : List Af) : Bool := affGo l l.length 0 && decide (l.length ≤ 8)
abbrev AfSz (l : List Af) : Prop := ∀ s ∈ l, (s.f0.size ≤ 1048576 ∧ s.f2.size ≤ 1048576 ∧ s.f3.size ≤ 1048576 ∧ s.f4.size ≤ 1048576)
theorem dup_spec_loop (l : List Af) (hl : l.length ≤ 1048576) (i : Nat) (hi : i < l.length) {r : Bool} (d : Nat) : ∀ k : Nat, k + d = i → (dup l i d k = true → r = false) → (dup l i d k = false → Ev (fun n => spec_l2Affixes.l0 n l (wrap64 ((i : Int) + 1))) r) → Ev (fun n => spec_l2Affixes.l1 n l (i : Int) (k : Int)) r := by
  induction d with
  | zero =>
    intro k hk _ yes
    exact Ev.step (fun n => spec_l2Affixes.l1.eq_2 _ _ _ _) (evNeg (by omega) (yes rfl))
  | succ d ih =>
    intro k hk no yes
    simp only [dup] at no yes
    refine Ev.step (fun n => spec_l2Affixes.l1.eq_2 _ _ _ _) (evPos (by omega) (evPos (by omega) (evPos (by omega) (evPos (by omega) (evPos (by omega) ?_)))))
    rw [w64 (n := (k : Int) + 1) (by omega) (by omega)]
    cases e : eqA (rd_T98 l (k : Int)) (rd_T98 l (i : Int)) with
    | true =>
      rw [e] at no
      exact evPos e (evTo (Ev.now _) (no rfl).symm)
    | false =>
      rw [e] at no yes
      simp only [Bool.false_or] at no yes
      exact evNeg (fun h => by have h' : eqA (rd_T98 l (k : Int)) (rd_T98 l (i : Int)) = true := h; rw [e] at h'; cases h') (ih (k + 1) (by omega) no yes)
theorem affs_spec_loop (l : List Af) (hl : l.length ≤ 1048576) (hs : AfSz l) (d : Nat) : ∀ i : Nat, i + d = l.length → Ev (fun n => spec_l2Affixes.l0 n l (i : Int)) (affGo l d i && decide (l.length ≤ 8)) := by
  induction d with
  | zero =>
    intro i hi
    refine Ev.step (fun n => spec_l2Affixes.l0.eq_2 _ _ _) (evNeg (by omega) (evTo (Ev.now _) ?_))
    simp only [affGo, Bool.true_and]
    exact decide_eq_decide.2 (by omega)
  | succ d ih =>
    intro i hi
    have h := af_at hs i (by omega)
    refine Ev.step (fun n => spec_l2Affixes.l0.eq_2 _ _ _) (evPos (by omega) (evPos (by omega) (Ev.bind (affixOk_spec _ _ _ _ _ (by omega) (by omega) (by omega)) ?_)))
    simp only [affGo]
    cases e : affOk (rd_T98 l (i : Int)).f0 (rd_T98 l (i : Int)).f1 (rd_T98 l (i : Int)).f2 (rd_T98 l (i : Int)).f3 (rd_T98 l (i : Int)).f4 with
    | false => exact evNeg (by simp) (evTo (Ev.now _) (by simp))
    | true =>
      refine evPos rfl (dup_spec_loop l hl i (by omega) i 0 (by omega) (fun hd => ?_) (fun hd => ?_))
      · have hd' : dup l (i : Int) (i : Int).toNat 0 = true := hd
        rw [hd']
        simp
      · have hd' : dup l (i : Int) (i : Int).toNat 0 = false := hd
        rw [hd', w64 (n := (i : Int) + 1) (by omega) (by omega)]
        exact evTo (ih (i + 1) (by omega)) (by simp)
theorem affs_spec (l : List Af) (hl : l.length ≤ 1048576) (hs : AfSz l) : Ev (fun n => spec_l2Affixes.f n l) (affsB l) := affs_spec_loop l hl hs l.length 0 (by omega)
theorem dup_impl_loop (l q : List Af) (hl : l.length ≤ 1048576) (i : Nat) (hq : q = l.take i) (hi : i < l.length) (d : Nat) : ∀ k : Nat, k + d = i → ∃ v : Int, Ev (fun n => impl_Affix_146.l0 n q (q.length : Int) (k : Int) (rd_T98 l (i : Int)).f0 (rd_T98 l (i : Int)).f1 (rd_T98 l (i : Int)).f2 (rd_T98 l (i : Int)).f3 (rd_T98 l (i : Int)).f4) v ∧ decide (v ≥ 0) = dup l i d k := by
  have hql : q.length = i := by rw [hq, List.length_take]; omega
  induction d with
  | zero =>
    intro k hk
    exact ⟨-1, Ev.step (fun n => impl_Affix_146.l0.eq_2 _ _ _ _ _ _ _ _ _) (evNeg (by omega) (Ev.now _)), rfl⟩
  | succ d ih =>
    intro k hk
    have hat : rd_T98 q (k : Int) = rd_T98 l (k : Int) := by
      simp only [rd_T98, List.getD_eq_getElem?_getD, Int.toNat_natCast]
      rw [hq, List.getElem?_take_of_lt (by omega)]
    simp only [dup]
    cases e : eqA (rd_T98 l (k : Int)) (rd_T98 l (i : Int)) with
    | true =>
      have e' : eqA (rd_T98 l (i : Int)) (rd_T98 l (k : Int)) = true := by rw [eqA_comm]; exact e
      refine ⟨k, Ev.step (fun n => impl_Affix_146.l0.eq_2 _ _ _ _ _ _ _ _ _) (evPos (by omega) (evPos (by omega) (evPos (by omega) ?_))), by simp⟩
      rw [hat]
      exact evPos e' (Ev.now _)
    | false =>
      have e' : eqA (rd_T98 l (i : Int)) (rd_T98 l (k : Int)) = false := by rw [eqA_comm]; exact e
      obtain ⟨v, h1, h2⟩ := ih (k + 1) (by omega)
      refine ⟨v, Ev.step (fun n => impl_Affix_146.l0.eq_2 _ _ _ _ _ _ _ _ _) (evPos (by omega) (evPos (by omega) (evPos (by omega) ?_))), by rw [Bool.false_or]; exact h2⟩
      rw [hat, w64 (n := (k : Int) + 1) (by omega) (by omega)]
      exact evNeg (fun h => by have h' : eqA (rd_T98 l (i : Int)) (rd_T98 l (k : Int)) = true := h; rw [e'] at h'; cases h') h1
theorem affs_impl_loop (l : List Af) (hl : l.length ≤ 1048576) (hs : AfSz l) (d : Nat) : ∀ i : Nat, i + d = l.length → Ev (fun n => impl_affixesOk.l0 n l l (l.length : Int) (i : Int)) (affGo l d i && decide (l.length ≤ 8)) := by
  induction d with
  | zero =>
    intro i hi
    refine Ev.step (fun n => impl_affixesOk.l0.eq_2 _ _ _ _ _) (evNeg (by omega) (evTo (Ev.now _) ?_))
    simp only [affGo, Bool.true_and]
    exact decide_eq_decide.2 (by omega)
  | succ d ih =>
    intro i hi
    have h := af_at hs i (by omega)
    refine Ev.step (fun n => impl_affixesOk.l0.eq_2 _ _ _ _ _) (evPos (by omega) (evPos (by omega) (evPos (by omega) (Ev.bind (affixOk_impl _ _ _ _ _ (by omega) (by omega) (by omega)) ?_))))
    simp only [affGo]
    cases e : affOk (rd_T98 l (i : Int)).f0 (rd_T98 l (i : Int)).f1 (rd_T98 l (i : Int)).f2 (rd_T98 l (i : Int)).f3 (rd_T98 l (i : Int)).f4 with
    | false => exact evNeg (by simp) (evTo (Ev.now _) (by simp))
    | true =>
      obtain ⟨v, h1, h2⟩ := dup_impl_loop l (l.take i) hl i rfl (by omega) i 0 (by omega)
      have hd : Ev (fun n => impl_Affix_116.f n (l.take (i : Int).toNat) (rd_T98 l (i : Int)).f0 (rd_T98 l (i : Int)).f1 (rd_T98 l (i : Int)).f2 (rd_T98 l (i : Int)).f3 (rd_T98 l (i : Int)).f4) (dup l (i : Int) (i : Int).toNat 0) := Ev.bind h1 (evTo (Ev.now _) h2)
      refine evPos rfl (evPos (by omega) (Ev.bind hd ?_))
      rw [w64 (n := (i : Int) + 1) (by omega) (by omega)]
      cases dup l (i : Int) (i : Int).toNat 0 with
      | true => exact evPos rfl (evTo (Ev.now _) (by simp))
      | false => exact evNeg (by simp) (evTo (ih (i + 1) (by omega)) (by simp))
theorem affs_impl (l : List Af) (hl : l.length ≤ 1048576) (hs : AfSz l) : Ev (fun n => impl_affixesOk.f n l) (affsB l) := affs_impl_loop l hl hs l.length 0 (by omega)
theorem l1Word_spec (s : ByteArray) (h : s.size ≤ 140737488351232) : Ev (fun k => spec_l1Word.f k s) (wordB s) := by
  unfold spec_l1Word.f
  by_cases c : (s.size : Int) > 0
  · have hp : 0 < s.size := by omega
    refine evPos c (Ev.bind (letters_spec s 12 h) (evTo (Ev.now _) ?_))
    simp only [wordB, wordL, bytesOf_length, decide_eq_true hp, Bool.true_and]
    rw [Bool.and_comm]
    congr 1
    exact decide_eq_decide.2 (by omega)
  · exact evNeg c (evTo (Ev.now _) (wordB_no (by omega)).symm)
theorem l1Word_spec' (s : ByteArray) (h : s.size ≤ 281474976710656) : Ev (fun k => spec_l1Word.f k s) (wordB s) := by
  by_cases c : s.size ≤ 140737488351232
  · exact l1Word_spec s c
  unfold spec_l1Word.f
  refine evPos (by omega) (Ev.bind (letters_wide s 12 h) (evTo (Ev.now _) ?_))
  rw [wordB_no (by omega), decide_eq_false (by omega), Bool.and_false]
theorem within_impl (n a b : Int) : impl_within.f n a b = some (decide (a ≤ n) && decide (n ≤ b)) := by
  unfold impl_within.f
  by_cases c : n ≥ a
  · rw [if_pos c]; simp [c]
  · rw [if_neg c]; simp; omega
theorem word_impl (s : ByteArray) (h : s.size ≤ 140737488351232) : Ev (fun k => impl_WordOk.f k s) (wordB s) := by
  unfold impl_WordOk.f
  refine evCall (within_impl _ _ _) ?_
  by_cases c : (1 ≤ (s.size : Int) ∧ (s.size : Int) ≤ 12)
  · have hp : 0 < s.size := by omega
    have hq : s.size ≤ 12 := by omega
    refine evPos (by simp; omega) (Ev.bind (lower_impl s h) (evTo (Ev.now _) ?_))
    simp only [wordB, wordL, bytesOf_length, decide_eq_true hp, decide_eq_true hq, Bool.true_and]
  · exact evNeg (by simp; omega) (evTo (Ev.now _) (wordB_no (by omega)).symm)
theorem word_impl' (s : ByteArray) (h : s.size ≤ 281474976710656) : Ev (fun k => impl_WordOk.f k s) (wordB s) := by
  by_cases c : s.size ≤ 140737488351232
  · exact word_impl s c
  · unfold impl_WordOk.f
    refine evCall (within_impl _ _ _) ?_
    exact evNeg (by simp; omega) (evTo (Ev.now _) (wordB_no (by omega)).symm)
theorem bt_extract0 (s : ByteArray) (i : Nat) (h : i < s.size) : bt (s.extract i (i + 1)) 0 = bt s i := by
  have hs : (s.extract i (i + 1)).size = 1 := by rw [size_extract s i (i + 1) (by omega) (by omega)]; omega
  have h1 := bytes_drop (s.extract i (i + 1)) 0 (by omega) (by omega)
  have h2 := bytes_drop s i (by omega) (by omega)
  rw [bytes_extract] at h1
  have h2' : (bytesOf s).drop i = bt s i :: (bytesOf s).drop ((i : Int) + 1).toNat := by simpa using h2
  rw [h2', show i + 1 - i = 1 from by omega] at h1
  simp only [List.take_succ_cons, List.take_zero] at h1
  have := congrArg List.head? h1
  simpa using this.symm
theorem flag_extract (s : ByteArray) (i : Nat) (h : i < s.size) : flagB (s.extract i (i + 1)) = (decide (65 ≤ bt s i) && decide (bt s i ≤ 90)) := by
  have hs : (s.extract i (i + 1)).size = 1 := by rw [size_extract s i (i + 1) (by omega) (by omega)]; omega
  unfold flagB
  rw [hs, bt_extract0 s i h]
  simp
def flGo (s : ByteArray) : Nat → Int → Bool
  | 0, _ => true
  | d + 1, i => (decide (65 ≤ bt s i) && decide (bt s i ≤ 90)) && (if i > 0 then decide (bt s (i - 1) < bt s i) else true) && flGo s d (i + 1)
def entB (w f : ByteArray) : Bool := flGo f f.size 0 && (wordB w && decide (f.size ≤ 4))
theorem ent_spec_loop (w f : ByteArray) (hw : w.size ≤ 1048576) (hf : f.size ≤ 1048576) (d : Nat) : ∀ i : Nat, i + d = f.size → Ev (fun k => spec_l2Entry.l0 k (i : Int) w f) (flGo f d i && (wordB w && decide (f.size ≤ 4))) := by
  induction d with
  | zero =>
    intro i hi
    refine Ev.step (fun k => spec_l2Entry.l0.eq_2 _ _ _ _) (evNeg (by omega) (Ev.bind (l1Word_spec w (by omega)) ?_))
    simp only [flGo, Bool.true_and]
    cases wordB w with
    | false => exact evNeg (by simp) (Ev.now _)
    | true => exact evPos rfl (evTo (Ev.now _) (by rw [Bool.true_and]; exact decide_eq_decide.2 (by omega)))
  | succ d ih =>
    intro i hi
    refine Ev.step (fun k => spec_l2Entry.l0.eq_2 _ _ _ _) ?_
    rw [w64 (n := (i : Int) + 1) (by omega) (by omega)]
    refine evPos (by omega) (evPos (by omega) (evPos (by omega) (evPos (by omega) (evCall (flag_spec _) ?_))))
    rw [show ((i : Int) + 1).toNat = i + 1 from by omega, Int.toNat_natCast, flag_extract f i (by omega)]
    simp only [flGo]
    have next := ih (i + 1) (by omega)
    cases e : (decide (65 ≤ bt f i) && decide (bt f i ≤ 90)) with
    | false => exact evNeg (by simp) (evTo (Ev.now _) (by simp))
    | true =>
      refine evPos rfl ?_
      by_cases c : (i : Int) > 0
      · rw [w64 (n := (i : Int) - 1) (by omega) (by omega), if_pos c]
        refine evPos c (evPos (by omega) (evPos (by omega) ?_))
        by_cases g : bt f ((i : Int) - 1) ≥ bt f i
        · rw [decide_eq_false (show ¬ bt f ((i : Int) - 1) < bt f i from by omega)]
          exact evPos g (evTo (Ev.now _) (by simp))
        · rw [decide_eq_true (show bt f ((i : Int) - 1) < bt f i from by omega)]
          exact evNeg g (evTo next (by simp))
      · rw [if_neg c]
        exact evNeg c (evTo next (by simp))
theorem ent_spec (w f : ByteArray) (hw : w.size ≤ 1048576) (hf : f.size ≤ 1048576) : Ev (fun k => spec_l2Entry.f k w f) (entB w f) := ent_spec_loop w f hw hf f.size 0 (by omega)
theorem ent_impl_loop (w f : ByteArray) (hw : w.size ≤ 1048576) (hf : f.size ≤ 1048576) (d : Nat) : ∀ i : Nat, i + d = f.size → Ev (fun k => impl_entryOk.l0 k (f.size : Int) (i : Int) w f) (flGo f d i && (wordB w && decide (f.size ≤ 4))) := by
  induction d with
  | zero =>
    intro i hi
    refine Ev.step (fun k => impl_entryOk.l0.eq_2 _ _ _ _ _) (evNeg (by omega) (Ev.bind (word_impl w (by omega)) ?_))
    simp only [flGo, Bool.true_and]
    cases wordB w with
    | false => exact evNeg (by simp) (Ev.now _)
    | true => exact evPos rfl (evTo (Ev.now _) (by rw [Bool.true_and]; exact decide_eq_decide.2 (by omega)))
  | succ d ih =>
    intro i hi
    refine Ev.step (fun k => impl_entryOk.l0.eq_2 _ _ _ _ _) ?_
    rw [w64 (n := (i : Int) + 1) (by omega) (by omega)]
    refine evPos (by omega) (evPos (by omega) (evPos (by omega) (evCall (upper_impl _) ?_)))
    simp only [flGo]
    have next := ih (i + 1) (by omega)
    cases e : (decide (65 ≤ bt f i) && decide (bt f i ≤ 90)) with
    | false => exact evNeg (by simp) (evTo (Ev.now _) (by simp))
    | true =>
      refine evPos rfl ?_
      by_cases c : (i : Int) > 0
      · rw [w64 (n := (i : Int) - 1) (by omega) (by omega), if_pos c]
        refine evPos c (evPos (by omega) (evPos (by omega) ?_))
        by_cases g : bt f ((i : Int) - 1) ≥ bt f i
        · rw [decide_eq_false (show ¬ bt f ((i : Int) - 1) < bt f i from by omega)]
          exact evPos g (evTo (Ev.now _) (by simp))
        · rw [decide_eq_true (show bt f ((i : Int) - 1) < bt f i from by omega)]
          exact evNeg g (evTo next (by simp))
      · rw [if_neg c]
        exact evNeg c (evTo next (by simp))
theorem ent_impl (w f : ByteArray) (hw : w.size ≤ 1048576) (hf : f.size ≤ 1048576) : Ev (fun k => impl_entryOk.f k w f) (entB w f) := ent_impl_loop w f hw hf f.size 0 (by omega)
theorem szEntry_ev (a b : ByteArray) (n : Int) (h0 : 0 ≤ n) (h1 : n ≤ 1048576) (z : a.size ≤ 9223372036854775807 ∧ b.size ≤ 9223372036854775807) : ∃ m, laws_szEntry.f a b n = some m ∧ (m < 0 ∨ (0 ≤ m ∧ m = n - a.size - b.size)) := by
  obtain ⟨z0, z1⟩ := z
  unfold laws_szEntry.f
  rw [w64 (n := n - (a.size : Int)) (by omega) (by omega)]
  by_cases c0 : n - (a.size : Int) < 0
  · exact ⟨-1, if_pos c0, .inl (by omega)⟩
  rw [if_neg c0, w64 (n := n - (a.size : Int) - (b.size : Int)) (by omega) (by omega)]
  by_cases c1 : n - (a.size : Int) - (b.size : Int) < 0
  · exact ⟨-1, if_pos c1, .inl (by omega)⟩
  · exact ⟨_, if_neg c1, .inr ⟨by omega, rfl⟩⟩
abbrev LEn := S129
abbrev En := S90
def cvN (e : LEn) : En := ⟨e.f0, e.f1⟩
theorem toEntry_loop (l : List LEn) (hl : l.length ≤ 10000000) (d : Nat) : ∀ (i : Nat) (y : List En), i + d = l.length → y.length = l.length → (∀ j : Nat, j < i → y[j]? = (l.map cvN)[j]?) → Ev (fun k => laws_toEntryS.l0 k l y (i : Int)) (l.map cvN) := by
  induction d with
  | zero =>
    intro i y hi hy h
    exact Ev.step (fun k => laws_toEntryS.l0.eq_2 _ _ _ _) (evNeg (by omega) (evTo (Ev.now _) (fill_end hy (fun j hj => h j (by omega)))))
  | succ d ih =>
    intro i y hi hy h
    obtain ⟨h1, h2⟩ := fill_step (f := cvN) z129 hy h (by omega)
    refine Ev.step (fun k => laws_toEntryS.l0.eq_2 _ _ _ _) (evPos (by omega) (evPos (by omega) (evCall rfl (evPos (by omega) ?_))))
    rw [w64 (by omega) (by omega)]
    exact ih (i + 1) _ (by omega) h1 h2
theorem toEntrys_ev (l : List LEn) (hl : l.length ≤ 10000000) : Ev (fun k => laws_toEntryS.f k l) (l.map cvN) := by
  unfold laws_toEntryS.f
  exact evPos (by omega) (evPos (by omega) (toEntry_loop l hl l.length 0 _ (by omega) (by simp) (fun j hj => absurd hj (by omega))))
theorem eqEntry_loop (l : List En) (hl : l.length ≤ 10000000) (d : Nat) : ∀ i : Nat, i + d = l.length → Ev (fun k => laws_eqEntryS.l0 k l l (i : Int)) true := by
  induction d with
  | zero =>
    intro i hi
    exact Ev.step (fun k => laws_eqEntryS.l0.eq_2 _ _ _ _) (evNeg (by omega) (Ev.now _))
  | succ d ih =>
    intro i hi
    refine Ev.step (fun k => laws_eqEntryS.l0.eq_2 _ _ _ _) (evPos (by omega) (evPos (by omega) (evPos (by omega) (evCall (a := true) (by simp [laws_eqEntry.f]) (evPos rfl ?_)))))
    rw [w64 (by omega) (by omega)]
    exact ih (i + 1) (by omega)
theorem eqEntrys_ev (l : List En) (hl : l.length ≤ 10000000) : Ev (fun k => laws_eqEntryS.f k l l) true := by
  unfold laws_eqEntryS.f
  exact evPos rfl (eqEntry_loop l hl l.length 0 (by omega))
theorem szEntrys_loop (l : List LEn) (hl : l.length ≤ 10000000) (he : ∀ s ∈ l, (s.f0.size ≤ 9223372036854775807 ∧ s.f1.size ≤ 9223372036854775807)) (d : Nat) : ∀ (i : Nat) (n : Int), i + d = l.length → 0 ≤ n → n ≤ 1048576 → ∃ m, Ev (fun k => laws_szEntryS.l0 k l n (i : Int)) m ∧ (m < 0 ∨ (0 ≤ m ∧ m ≤ 1048576 ∧ ∀ s ∈ l.drop i, (s.f0.size ≤ 1048576 ∧ s.f1.size ≤ 1048576))) := by
  induction d with
  | zero =>
    intro i n hi h0 h1
    exact ⟨n, Ev.step (fun k => laws_szEntryS.l0.eq_2 _ _ _ _) (evNeg (by omega) (Ev.now _)), .inr ⟨h0, h1, fun s hs => by rw [List.drop_eq_nil_of_le (by omega)] at hs; cases hs⟩⟩
  | succ d ih =>
    intro i n hi h0 h1
    have hlt : i < l.length := by omega
    have e : rd_T129 l (i : Int) = l[i] := by simp [rd_T129, List.getD_eq_getElem?_getD, hlt]
    have hw := he _ (List.getElem_mem hlt)
    obtain ⟨m, hm, hz⟩ := szEntry_ev l[i].f0 l[i].f1 n h0 h1 hw
    by_cases c : m < 0
    · refine ⟨-1, Ev.step (fun k => laws_szEntryS.l0.eq_2 _ _ _ _) (evPos (by omega) (evPos (by omega) ?_)), .inl (by omega)⟩
      rw [e]
      exact evCall hm (evPos c (Ev.now _))
    · have hz' := hz.resolve_left c
      obtain ⟨q, hq, hr⟩ := ih (i + 1) m (by omega) (by omega) (by omega)
      refine ⟨q, Ev.step (fun k => laws_szEntryS.l0.eq_2 _ _ _ _) (evPos (by omega) (evPos (by omega) ?_)), hr.elim .inl (fun h => .inr ⟨h.1, h.2.1, fun s hs => ?_⟩)⟩
      · rw [e]
        refine evCall hm (evNeg c ?_)
        rw [w64 (by omega) (by omega)]
        exact hq
      · rw [List.drop_eq_getElem_cons hlt] at hs
        rcases List.mem_cons.1 hs with rfl | hs
        · omega
        · exact h.2.2 s hs
theorem szEntrys_ev (l : List LEn) (n : Int) (h0 : 0 ≤ n) (h1 : n ≤ 1048576) (hl : l.length ≤ 9223372036854775807) (he : ∀ s ∈ l, (s.f0.size ≤ 9223372036854775807 ∧ s.f1.size ≤ 9223372036854775807)) :
    ∃ m, Ev (fun k => laws_szEntryS.f k l n) m ∧ (m < 0 ∨ (0 ≤ m ∧ m ≤ 1048576 ∧ l.length ≤ 1048576 ∧ ∀ s ∈ l, (s.f0.size ≤ 1048576 ∧ s.f1.size ≤ 1048576))) := by
  unfold laws_szEntryS.f
  rw [w64 (n := n - (l.length : Int)) (by omega) (by omega)]
  by_cases c : n - (l.length : Int) < 0
  · exact ⟨-1, evPos c (Ev.now _), .inl (by omega)⟩
  · obtain ⟨m, hm, hz⟩ := szEntrys_loop l (by omega) he l.length 0 (n - l.length) (by omega) (by omega) (by omega)
    exact ⟨m, evNeg c hm, hz.elim .inl (fun h => .inr ⟨h.1, h.2.1, by omega, by simpa using h.2.2⟩)⟩
def entGo (l : List En) : Nat → Int → Bool
  | 0, _ => true
  | d + 1, i => entB (rd_T90 l i).f0 (rd_T90 l i).f1 && (if i > 0 then Op.bytesLess (rd_T90 l (i - 1)).f0.toList (rd_T90 l i).f0.toList else true) && entGo l d (i + 1)
def entsB (l : List En) : Bool := entGo l l.length 0 && decide (l.length ≤ 24)
theorem en_at {P : En → Prop} {l : List En} (h : ∀ s ∈ l, P s) (i : Nat) (hi : i < l.length) : P (rd_T90 l (i : Int)) := by
  have e : rd_T90 l (i : Int) = l[i] := by simp [rd_T90, List.getD_eq_getElem?_getD, hi]
  rw [e]
  exact h _ (List.getElem_mem hi)
theorem ents_spec_loop (A : List Af) (l : List En) (hl : l.length ≤ 1048576) (he : ∀ s ∈ l, (s.f0.size ≤ 1048576 ∧ s.f1.size ≤ 1048576)) {r : Bool} (no : entGo l l.length 0 = false → r = false) (d : Nat) : ∀ i : Nat, i + d = l.length → (entGo l d i = false → r = false) →
    (entGo l d i = true → Ev (fun k => (spec_l2Affixes.f k A).bind fun t130 => (if t130 = true then (some (decide ((l.length : Int) ≤ 24))) else (some false))) r) → Ev (fun k => spec_BookOk.l0 k (i : Int) A l) r := by
  induction d with
  | zero =>
    intro i hi _ yes
    exact Ev.step (fun k => spec_BookOk.l0.eq_2 _ _ _ _) (evNeg (by omega) (yes rfl))
  | succ d ih =>
    intro i hi no' yes
    have hs := en_at he i (by omega)
    simp only [entGo] at no' yes
    refine Ev.step (fun k => spec_BookOk.l0.eq_2 _ _ _ _) (evPos (by omega) (evPos (by omega) (Ev.bind (ent_spec _ _ hs.1 hs.2) ?_)))
    rw [w64 (n := (i : Int) + 1) (by omega) (by omega)]
    have next := ih (i + 1) (by omega)
    cases e : entB (rd_T90 l (i : Int)).f0 (rd_T90 l (i : Int)).f1 with
    | false =>
      rw [e] at no'
      exact evNeg (by simp) (evTo (Ev.now _) (no' (by simp)).symm)
    | true =>
      rw [e] at no' yes
      refine evPos rfl ?_
      by_cases c : (i : Int) > 0
      · rw [w64 (n := (i : Int) - 1) (by omega) (by omega)]
        rw [if_pos c] at no' yes
        refine evPos c (evPos (by omega) (evPos (by omega) ?_))
        cases g : Op.bytesLess (rd_T90 l ((i : Int) - 1)).f0.toList (rd_T90 l (i : Int)).f0.toList with
        | false =>
          rw [g] at no'
          exact evNeg (by simp) (evTo (Ev.now _) (no' (by simp)).symm)
        | true =>
          rw [g] at no' yes
          simp only [Bool.true_and] at no' yes
          exact evPos rfl (next no' yes)
      · rw [if_neg c] at no' yes
        simp only [Bool.true_and] at no' yes
        exact evNeg c (next no' yes)
theorem ents_impl_loop (l : List En) (hl : l.length ≤ 1048576) (he : ∀ s ∈ l, (s.f0.size ≤ 1048576 ∧ s.f1.size ≤ 1048576)) (d : Nat) : ∀ i : Nat, i + d = l.length → Ev (fun k => impl_entriesOk.l0 k l l (l.length : Int) (i : Int)) (entGo l d i && decide (l.length ≤ 24)) := by
  induction d with
  | zero =>
    intro i hi
    refine Ev.step (fun k => impl_entriesOk.l0.eq_2 _ _ _ _ _) (evNeg (by omega) (evTo (Ev.now _) ?_))
    simp only [entGo, Bool.true_and]
    exact decide_eq_decide.2 (by omega)
  | succ d ih =>
    intro i hi
    have hs := en_at he i (by omega)
    refine Ev.step (fun k => impl_entriesOk.l0.eq_2 _ _ _ _ _) (evPos (by omega) (evPos (by omega) (evPos (by omega) (Ev.bind (ent_impl _ _ hs.1 hs.2) ?_))))
    rw [w64 (n := (i : Int) + 1) (by omega) (by omega)]
    have next := ih (i + 1) (by omega)
    simp only [entGo]
    cases e : entB (rd_T90 l (i : Int)).f0 (rd_T90 l (i : Int)).f1 with
    | false => exact evNeg (by simp) (evTo (Ev.now _) (by simp))
    | true =>
      refine evPos rfl ?_
      by_cases c : (i : Int) > 0
      · rw [w64 (n := (i : Int) - 1) (by omega) (by omega), if_pos c]
        refine evPos c (evPos (by omega) (evPos (by omega) ?_))
        cases g : Op.bytesLess (rd_T90 l ((i : Int) - 1)).f0.toList (rd_T90 l (i : Int)).f0.toList with
        | false => exact evNeg (by simp) (evTo (Ev.now _) (by simp))
        | true => exact evPos rfl (evTo next (by simp))
      · rw [if_neg c]
        exact evNeg c (evTo next (by simp))
abbrev bkWf (A : List LAf) (E : List LEn) : Prop := (A.length ≤ 9223372036854775807 ∧ ∀ y1 ∈ A, (y1.f0.size ≤ 9223372036854775807 ∧ (True ∧ (y1.f2.size ≤ 9223372036854775807 ∧ (y1.f3.size ≤ 9223372036854775807 ∧ y1.f4.size ≤ 9223372036854775807))))) ∧ (E.length ≤ 9223372036854775807 ∧ ∀ y2 ∈ E, (y2.f0.size ≤ 9223372036854775807 ∧ y2.f1.size ≤ 9223372036854775807))
structure BkSz (A : List Af) (E : List En) : Prop where
  la : A.length ≤ 1048576
  le : E.length ≤ 1048576
  a : ∀ s ∈ A, (s.f0.size ≤ 1048576 ∧ s.f2.size ≤ 1048576 ∧ s.f3.size ≤ 1048576 ∧ s.f4.size ≤ 1048576)
  e : ∀ s ∈ E, (s.f0.size ≤ 1048576 ∧ s.f1.size ≤ 1048576)
def bookB (A : List Af) (E : List En) : Bool := affsB A && entsB E
theorem bookOk_spec (A : List Af) (E : List En) (h : BkSz A E) : Ev (fun n => spec_BookOk.f n A E) (bookB A E) := by
  refine ents_spec_loop A E h.le h.e (fun hf => by simp [bookB, entsB, hf]) E.length 0 (by omega) (fun hf => ?_) (fun ht => ?_)
  · have hf' : entGo E E.length 0 = false := hf
    simp [bookB, entsB, hf']
  · have ht' : entGo E E.length 0 = true := ht
    refine Ev.bind (affs_spec A h.la h.a) ?_
    simp only [bookB, entsB, ht', Bool.true_and]
    cases affsB A with
    | false => exact evNeg (by simp) (evTo (Ev.now _) (by simp))
    | true => exact evPos rfl (evTo (Ev.now _) (by rw [Bool.true_and]; exact decide_eq_decide.2 (by omega)))
theorem ba_get (l : List ByteArray) (i : Nat) (h : i < l.length) : rdOf ByteArray.empty l (i : Int) = l[i] := by simp [rdOf, List.getD_eq_getElem?_getD, List.getElem?_eq_getElem h]
theorem ba_at {P : ByteArray → Prop} {l : List ByteArray} (h : ∀ s ∈ l, P s) (i : Nat) (hi : i < l.length) : P (rdOf ByteArray.empty l (i : Int)) := by
  rw [ba_get l i hi]
  exact h _ (List.getElem_mem hi)
/-- Words, ascending, each once. -/
def wGo (l : List ByteArray) : Nat → Int → Bool
  | 0, _ => true
  | d + 1, i => wordB (rdOf ByteArray.empty l i) && (if i > 0 then Op.bytesLess (rdOf ByteArray.empty l (i - 1)).toList (rdOf ByteArray.empty l i).toList else true) && wGo l d (i + 1)
theorem words_impl_loop (l : List ByteArray) (n : Int) (hl : l.length ≤ 1048576) (he : ∀ s ∈ l, s.size ≤ 1048576) (d : Nat) : ∀ i : Nat, i + d = l.length → Ev (fun k => impl_wordsOk.l0 k l n l (l.length : Int) (i : Int)) (wGo l d i && decide ((l.length : Int) ≤ n)) := by
  induction d with
  | zero =>
    intro i hi
    refine Ev.step (fun k => impl_wordsOk.l0.eq_2 _ _ _ _ _ _) (evNeg (by omega) (evTo (Ev.now _) ?_))
    simp only [wGo, Bool.true_and]
  | succ d ih =>
    intro i hi
    have hs := ba_at (P := fun s => s.size ≤ 1048576) he i (by omega)
    refine Ev.step (fun k => impl_wordsOk.l0.eq_2 _ _ _ _ _ _) (evPos (by omega) (evPos (by omega) (evPos (by omega) (Ev.bind (word_impl _ (by omega)) ?_))))
    rw [w64 (n := (i : Int) + 1) (by omega) (by omega)]
    have next := ih (i + 1) (by omega)
    simp only [wGo]
    cases e : wordB (rdOf ByteArray.empty l (i : Int)) with
    | false => exact evNeg (by simp) (evTo (Ev.now _) (by simp))
    | true =>
      refine evPos rfl ?_
      by_cases c : (i : Int) > 0
      · rw [w64 (n := (i : Int) - 1) (by omega) (by omega), if_pos c]
        refine evPos c (evPos (by omega) (evPos (by omega) ?_))
        cases g : Op.bytesLess (rdOf ByteArray.empty l ((i : Int) - 1)).toList (rdOf ByteArray.empty l (i : Int)).toList with
        | false => exact evNeg (by simp) (evTo (Ev.now _) (by simp))
        | true => exact evPos rfl (evTo next (by simp))
      · rw [if_neg c]
        exact evNeg c (evTo next (by simp))
theorem words_impl (l : List ByteArray) (n : Int) (hl : l.length ≤ 1048576) (he : ∀ s ∈ l, s.size ≤ 1048576) : Ev (fun k => impl_wordsOk.f k l n) (wGo l l.length 0 && decide ((l.length : Int) ≤ n)) := words_impl_loop l n hl he l.length 0 (by omega)
theorem toStr_loop (l : List ByteArray) (hl : l.length ≤ 10000000) (d : Nat) : ∀ (i : Nat) (y : List ByteArray), i + d = l.length → y.length = l.length → (∀ j : Nat, j < i → y[j]? = (l.map id)[j]?) → Ev (fun k => laws_toStringS.l0 k l y (i : Int)) (l.map id) := by
  induction d with
  | zero =>
    intro i y hi hy h
    exact Ev.step (fun k => laws_toStringS.l0.eq_2 _ _ _ _) (evNeg (by omega) (evTo (Ev.now _) (fill_end hy (fun j hj => h j (by omega)))))
  | succ d ih =>
    intro i y hi hy h
    obtain ⟨h1, h2⟩ := fill_step (f := id) ByteArray.empty hy h (by omega)
    refine Ev.step (fun k => laws_toStringS.l0.eq_2 _ _ _ _) (evPos (by omega) (evPos (by omega) (evPos (by omega) ?_)))
    rw [w64 (by omega) (by omega)]
    exact ih (i + 1) _ (by omega) h1 h2
theorem toStrs_ev (l : List ByteArray) (hl : l.length ≤ 10000000) : Ev (fun k => laws_toStringS.f k l) l := by
  unfold laws_toStringS.f
  exact evPos (by omega) (evPos (by omega) (evTo (toStr_loop l hl l.length 0 _ (by omega) (by simp) (fun j hj => absurd hj (by omega))) (List.map_id l)))
theorem eqStr_loop (l : List ByteArray) (hl : l.length ≤ 10000000) (d : Nat) : ∀ i : Nat, i + d = l.length → Ev (fun k => laws_eqStringS.l0 k l l (i : Int)) true := by
  induction d with
  | zero =>
    intro i hi
    exact Ev.step (fun k => laws_eqStringS.l0.eq_2 _ _ _ _) (evNeg (by omega) (Ev.now _))
  | succ d ih =>
    intro i hi
    refine Ev.step (fun k => laws_eqStringS.l0.eq_2 _ _ _ _) (evPos (by omega) (evPos (by omega) (evPos (by omega) (evPos rfl ?_))))
    rw [w64 (by omega) (by omega)]
    exact ih (i + 1) (by omega)
theorem eqStrs_ev (l : List ByteArray) (hl : l.length ≤ 10000000) : Ev (fun k => laws_eqStringS.f k l l) true := by
  unfold laws_eqStringS.f
  exact evPos rfl (eqStr_loop l hl l.length 0 (by omega))
theorem szStrs_loop (l : List ByteArray) (hl : l.length ≤ 10000000) (he : ∀ s ∈ l, s.size ≤ 9223372036854775807) (d : Nat) : ∀ (i : Nat) (n : Int), i + d = l.length → 0 ≤ n → n ≤ 1048576 → ∃ m, Ev (fun k => laws_szStringS.l0 k l n (i : Int)) m ∧ (m < 0 ∨ (0 ≤ m ∧ m ≤ 1048576 ∧ ∀ s ∈ l.drop i, s.size ≤ 1048576)) := by
  induction d with
  | zero =>
    intro i n hi h0 h1
    exact ⟨n, Ev.step (fun k => laws_szStringS.l0.eq_2 _ _ _ _) (evNeg (by omega) (Ev.now _)), .inr ⟨h0, h1, fun s hs => by rw [List.drop_eq_nil_of_le (by omega)] at hs; cases hs⟩⟩
  | succ d ih =>
    intro i n hi h0 h1
    have hlt : i < l.length := by omega
    have e := ba_get l i hlt
    have hw := he _ (List.getElem_mem hlt)
    by_cases c : n - (l[i].size : Int) < 0
    · refine ⟨-1, Ev.step (fun k => laws_szStringS.l0.eq_2 _ _ _ _) (evPos (by omega) (evPos (by omega) ?_)), .inl (by omega)⟩
      rw [e, w64 (n := n - (l[i].size : Int)) (by omega) (by omega)]
      exact evPos c (Ev.now _)
    · obtain ⟨q, hq, hr⟩ := ih (i + 1) (n - (l[i].size : Int)) (by omega) (by omega) (by omega)
      refine ⟨q, Ev.step (fun k => laws_szStringS.l0.eq_2 _ _ _ _) (evPos (by omega) (evPos (by omega) ?_)), hr.elim .inl (fun h => .inr ⟨h.1, h.2.1, fun s hs => ?_⟩)⟩
      · rw [e, w64 (n := n - (l[i].size : Int)) (by omega) (by omega)]
        refine evNeg c ?_
        rw [w64 (n := (i : Int) + 1) (by omega) (by omega)]
        exact hq
      · rw [List.drop_eq_getElem_cons hlt] at hs
        rcases List.mem_cons.1 hs with rfl | hs
        · omega
        · exact h.2.2 s hs
theorem szStrs_ev (l : List ByteArray) (n : Int) (h0 : 0 ≤ n) (h1 : n ≤ 1048576) (hl : l.length ≤ 9223372036854775807) (he : ∀ s ∈ l, s.size ≤ 9223372036854775807) :
    ∃ m, Ev (fun k => laws_szStringS.f k l n) m ∧ (m < 0 ∨ (0 ≤ m ∧ m ≤ 1048576 ∧ l.length ≤ 1048576 ∧ ∀ s ∈ l, s.size ≤ 1048576)) := by
  unfold laws_szStringS.f
  rw [w64 (n := n - (l.length : Int)) (by omega) (by omega)]
  by_cases c : n - (l.length : Int) < 0
  · exact ⟨-1, evPos c (Ev.now _), .inl (by omega)⟩
  · obtain ⟨m, hm, hz⟩ := szStrs_loop l (by omega) he l.length 0 (n - l.length) (by omega) (by omega) (by omega)
    exact ⟨m, evNeg c hm, hz.elim .inl (fun h => .inr ⟨h.1, h.2.1, by omega, by simpa using h.2.2⟩)⟩
abbrev StZ (l : List ByteArray) : Prop := l.length ≤ 1048576 ∧ ∀ s ∈ l, s.size ≤ 1048576
abbrev dlWf (G : List ByteArray) (E : List LEn) (L : List LAf) : Prop := (G.length ≤ 9223372036854775807 ∧ ∀ y ∈ G, y.size ≤ 9223372036854775807) ∧ ((E.length ≤ 9223372036854775807 ∧ ∀ y2 ∈ E, (y2.f0.size ≤ 9223372036854775807 ∧ y2.f1.size ≤ 9223372036854775807)) ∧ (True ∧ (L.length ≤ 9223372036854775807 ∧ ∀ y1 ∈ L, (y1.f0.size ≤ 9223372036854775807 ∧ (True ∧ (y1.f2.size ≤ 9223372036854775807 ∧ (y1.f3.size ≤ 9223372036854775807 ∧ y1.f4.size ≤ 9223372036854775807)))))))
theorem szDelta_ev (G : List ByteArray) (E : List LEn) (f : Bool) (L : List LAf) (n : Int) (h0 : 0 ≤ n) (h1 : n ≤ 1048576) (z : dlWf G E L) : ∃ m, Ev (fun k => laws_szDelta.f k G E f L n) m ∧ (m < 0 ∨ (0 ≤ m ∧ m ≤ 1048576 ∧ StZ G ∧ BkSz (L.map cvA) (E.map cvN))) := by
  unfold laws_szDelta.f
  obtain ⟨m, hm, hz⟩ := szStrs_ev G n h0 h1 z.1.1 z.1.2
  by_cases c : m < 0
  · exact ⟨-1, Ev.bind hm (evPos c (Ev.now _)), .inl (by omega)⟩
  have ha := hz.resolve_left c
  obtain ⟨q, hq, hy⟩ := szEntrys_ev E m ha.1 ha.2.1 z.2.1.1 z.2.1.2
  by_cases d : q < 0
  · exact ⟨-1, Ev.bind hm (evNeg c (Ev.bind hq (evPos d (Ev.now _)))), .inl (by omega)⟩
  have hb := hy.resolve_left d
  obtain ⟨u, hu, hv⟩ := szAffixs_ev L q hb.1 hb.2.1 z.2.2.2.1 z.2.2.2.2
  by_cases e : u < 0
  · exact ⟨-1, Ev.bind hm (evNeg c (Ev.bind hq (evNeg d (Ev.bind hu (evPos e (Ev.now _)))))), .inl (by omega)⟩
  have hc := hv.resolve_left e
  refine ⟨u, Ev.bind hm (evNeg c (Ev.bind hq (evNeg d (Ev.bind hu (evNeg e (Ev.now _)))))), .inr ⟨hc.1, hc.2.1, ⟨ha.2.2.1, ha.2.2.2⟩, by simpa using hc.2.2.1, by simpa using hb.2.2.1, fun s hs => ?_, fun s hs => ?_⟩⟩
  · obtain ⟨t, ht, rfl⟩ := List.mem_map.1 hs
    exact hc.2.2.2 t ht
  · obtain ⟨t, ht, rfl⟩ := List.mem_map.1 hs
    exact hb.2.2.2 t ht
theorem toDelta_ev (G : List ByteArray) (E : List LEn) (f : Bool) (L : List LAf) (hG : StZ G) (h : BkSz (L.map cvA) (E.map cvN)) : Ev (fun k => laws_toDelta.f k G E f L) (G, E.map cvN, f, L.map cvA) := by
  unfold laws_toDelta.f
  have h1 := h.la
  have h2 := h.le
  have h3 := hG.1
  rw [List.length_map] at h1 h2
  exact Ev.bind (toStrs_ev G (by omega)) (Ev.bind (toEntrys_ev E (by omega)) (Ev.bind (toAffixs_ev L (by omega)) (Ev.now _)))
theorem eqDelta_ev (G : List ByteArray) (E : List En) (f : Bool) (L : List Af) (hG : StZ G) (h : BkSz L E) : Ev (fun k => laws_eqDelta.f k G E f L G E f L) true := by
  unfold laws_eqDelta.f
  have h1 := h.la
  have h2 := h.le
  have h3 := hG.1
  exact Ev.bind (eqStrs_ev G (by omega)) (evPos rfl (Ev.bind (eqEntrys_ev E (by omega)) (evPos rfl (evNeg (by simp) (Ev.bind (eqAffixs_ev L (by omega)) (evPos rfl (Ev.now _)))))))
/-- A stem is among entries. -/
def hasStem (C : List En) (s : ByteArray) : Bool := C.any (fun e => e.f0.toList == s.toList)
theorem idx_nonneg (C : List En) (s : ByteArray) (i : Nat) : (0 ≤ Go.Lib.idxByFrom (fun _ (y : ByteArray × ByteArray) => decide (y.1 = s)) default (C.map (fun x => (x.f0, x.f1))) i) ↔ hasStem C s = true := by
  induction C generalizing i with
  | nil => simp [Go.Lib.idxByFrom, hasStem]
  | cons e C ih =>
    simp only [List.map_cons, Go.Lib.idxByFrom, hasStem, List.any_cons]
    have he : (e.f0.toList == s.toList) = decide (e.f0 = s) := toList_beq _ _
    by_cases c : e.f0 = s
    · simp [c]

    · rw [he]
      simp only [c, decide_false, Bool.false_eq_true, if_false, Bool.false_or]
      exact ih (i + 1)
theorem entryAt_ev (C : List En) (s : ByteArray) : ∃ t : Int, impl_entryAt.f C s = some t ∧ ((t ≥ 0) ↔ hasStem C s = true) := ⟨_, rfl, idx_nonneg C s 0⟩
def noGo (G : List ByteArray) (C : List En) : Nat → Int → Bool
  | 0, _ => true
  | d + 1, i => !(hasStem C (rdOf ByteArray.empty G i)) && noGo G C d (i + 1)
def deltaB (G : List ByteArray) (C : List En) (f : Bool) (L : List Af) : Bool := (wGo G G.length 0 && decide ((G.length : Int) ≤ 24)) && (entsB C && (affsB L && ((f || decide (L.length = 0)) && noGo G C G.length 0)))
theorem has_spec_loop (G : List ByteArray) (C : List En) (f : Bool) (L : List Af) (hC : C.length ≤ 1048576) (hG : StZ G) (i : Nat) (hi : i < G.length) {r : Bool} (d : Nat) : ∀ j : Nat, j + d = C.length →
    (hasStem (C.drop j) (rdOf ByteArray.empty G (i : Int)) = true → r = false) → (hasStem (C.drop j) (rdOf ByteArray.empty G (i : Int)) = false → Ev (fun k => spec_DeltaOk.l0 k (wrap64 ((i : Int) + 1)) G C f L) r) → Ev (fun k => spec_DeltaOk.l1 k (i : Int) (j : Int) G C f L) r := by
  induction d with
  | zero =>
    intro j hj _ no
    refine Ev.step (fun k => spec_DeltaOk.l1.eq_2 _ _ _ _ _ _ _) (evNeg (by omega) (no ?_))
    rw [List.drop_eq_nil_of_le (by omega)]
    rfl
  | succ d ih =>
    intro j hj yes no
    have hlt : j < C.length := by omega
    have e : rd_T90 C (j : Int) = C[j] := by simp [rd_T90, List.getD_eq_getElem?_getD, hlt]
    rw [List.drop_eq_getElem_cons hlt] at yes no
    simp only [hasStem, List.any_cons] at yes no
    refine Ev.step (fun k => spec_DeltaOk.l1.eq_2 _ _ _ _ _ _ _) (evPos (by omega) (evPos (by omega) (evPos (by omega) (evPos (by omega) ?_))))
    rw [e, w64 (n := (j : Int) + 1) (by omega) (by omega)]
    by_cases c : C[j].f0.toList = (rdOf ByteArray.empty G (i : Int)).toList
    · exact evPos c (evTo (Ev.now _) (yes (by simp [c])).symm)
    · have cb : (C[j].f0.toList == (rdOf ByteArray.empty G (i : Int)).toList) = false := by simpa using c
      rw [cb] at yes no
      simp only [Bool.false_or] at yes no
      exact evNeg c (ih (j + 1) (by omega) yes no)
theorem delta_spec_loop (G : List ByteArray) (C : List En) (f : Bool) (L : List Af) (hG : StZ G) (h : BkSz L C) (d : Nat) : ∀ i : Nat, i + d = G.length → Ev (fun k => spec_DeltaOk.l0 k (i : Int) G C f L) ((wGo G d i && decide ((G.length : Int) ≤ 24)) && (entsB C && (affsB L && ((f || decide (L.length = 0)) && noGo G C d i)))) := by
  have hl := hG.1
  induction d with
  | zero =>
    intro i hi
    refine Ev.step (fun k => spec_DeltaOk.l0.eq_2 _ _ _ _ _ _) (evNeg (by omega) ?_)
    simp only [wGo, noGo, Bool.true_and, Bool.and_true]
    by_cases c : (G.length : Int) ≤ 24
    · rw [decide_eq_true c, Bool.true_and]
      refine evPos c (Ev.bind (a := entsB C) ?_ ?_)
      · unfold spec_l5Entries.f
        refine Ev.bind (bookOk_spec [] C ⟨by simp, h.le, by simp, h.e⟩) (evTo (Ev.now _) ?_)
        simp [bookB, affsB, affGo]
      · cases e1 : entsB C with
        | false => exact evNeg (by simp) (evTo (Ev.now _) (by simp))
        | true =>
          refine evPos rfl (Ev.bind (affs_spec L h.la h.a) ?_)
          cases e2 : affsB L with
          | false => exact evNeg (by simp) (evTo (Ev.now _) (by simp))
          | true =>
            refine evPos rfl ?_
            cases f with
            | true => exact evPos rfl (evTo (Ev.now _) (by simp))
            | false =>
              refine evNeg (by simp) (evTo (Ev.now _) ?_)
              simp only [Bool.false_or, Bool.true_and]
              rw [Bool.eq_iff_iff, beq_iff_eq, decide_eq_true_eq]
              omega
    · rw [decide_eq_false c, Bool.false_and]
      exact evNeg c (Ev.now _)
  | succ d ih =>
    intro i hi
    have hs := ba_at (P := fun s => s.size ≤ 1048576) hG.2 i (by omega)
    have next := ih (i + 1) (by omega)
    have inner : ∀ {r : Bool}, (hasStem C (rdOf ByteArray.empty G (i : Int)) = true → r = false) → (hasStem C (rdOf ByteArray.empty G (i : Int)) = false → r = ((wGo G d ((i + 1 : Nat) : Int) && decide ((G.length : Int) ≤ 24)) && (entsB C && (affsB L && ((f || decide (L.length = 0)) && noGo G C d ((i + 1 : Nat) : Int)))))) → Ev (fun k => spec_DeltaOk.j1 k (i : Int) false G C f L) r := by
      intro r yes no
      refine Ev.step (fun k => spec_DeltaOk.j1.eq_2 _ _ _ _ _ _ _) (evNeg (by simp) (has_spec_loop G C f L h.le hG i (by omega) C.length 0 (by omega) yes (fun hh => ?_)))
      rw [no hh, w64 (n := (i : Int) + 1) (by omega) (by omega)]
      exact next
    refine Ev.step (fun k => spec_DeltaOk.l0.eq_2 _ _ _ _ _ _) (evPos (by omega) (evPos (by omega) (Ev.bind (l1Word_spec _ (by omega)) ?_)))
    simp only [wGo, noGo]
    cases e : wordB (rdOf ByteArray.empty G (i : Int)) with
    | false => exact evNeg (by simp) (Ev.step (fun k => spec_DeltaOk.j1.eq_2 _ _ _ _ _ _ _) (evPos rfl (evTo (Ev.now _) (by simp))))
    | true =>
      refine evPos rfl ?_
      have fin : ∀ b : Bool, Ev (fun k => spec_DeltaOk.j1 k (i : Int) (!b) G C f L) ((true && b && wGo G d ((i : Int) + 1) && decide ((G.length : Int) ≤ 24)) && (entsB C && (affsB L && ((f || decide (L.length = 0)) && (!(hasStem C (rdOf ByteArray.empty G (i : Int))) && noGo G C d ((i : Int) + 1)))))) := by
        intro b
        cases b with
        | false => exact Ev.step (fun k => spec_DeltaOk.j1.eq_2 _ _ _ _ _ _ _) (evPos rfl (evTo (Ev.now _) (by simp)))
        | true =>
          refine inner (fun hh => ?_) (fun hh => ?_)
          · rw [hh]
            simp
          · rw [hh]
            simp
      by_cases c : (i : Int) > 0
      · rw [w64 (n := (i : Int) - 1) (by omega) (by omega), if_pos c]
        exact evPos c (evPos (by omega) (evPos (by omega) (fin _)))
      · rw [if_neg c]
        exact evNeg c (fin true)
theorem deltaOk_spec (G : List ByteArray) (C : List En) (f : Bool) (L : List Af) (hG : StZ G) (h : BkSz L C) : Ev (fun k => spec_DeltaOk.f k G C f L) (deltaB G C f L) := delta_spec_loop G C f L hG h G.length 0 (by omega)
theorem no_impl_loop (G : List ByteArray) (C : List En) (f : Bool) (L : List Af) (hl : G.length ≤ 1048576) (d : Nat) : ∀ i : Nat, i + d = G.length → Ev (fun k => impl_DeltaOk.l0 k G (G.length : Int) (i : Int) G C f L) (noGo G C d i) := by
  induction d with
  | zero =>
    intro i hi
    exact Ev.step (fun k => impl_DeltaOk.l0.eq_2 _ _ _ _ _ _ _ _) (evNeg (by omega) (Ev.now _))
  | succ d ih =>
    intro i hi
    obtain ⟨t, ht, hh⟩ := entryAt_ev C (rdOf ByteArray.empty G (i : Int))
    refine Ev.step (fun k => impl_DeltaOk.l0.eq_2 _ _ _ _ _ _ _ _) (evPos (by omega) (evPos (by omega) (evPos (by omega) (evCall ht ?_))))
    rw [w64 (n := (i : Int) + 1) (by omega) (by omega)]
    simp only [noGo]
    by_cases c : t ≥ 0
    · rw [hh.1 c]
      exact evPos c (evTo (Ev.now _) (by simp))
    · have e : hasStem C (rdOf ByteArray.empty G (i : Int)) = false := by
        cases e : hasStem C (rdOf ByteArray.empty G (i : Int)) with
        | false => rfl
        | true => exact absurd (hh.2 e) c
      rw [e]
      exact evNeg c (evTo (ih (i + 1) (by omega)) (by simp))
theorem deltaOk_impl (G : List ByteArray) (C : List En) (f : Bool) (L : List Af) (hG : StZ G) (h : BkSz L C) : Ev (fun k => impl_DeltaOk.f k G C f L) (deltaB G C f L) := by
  have no := no_impl_loop G C f L hG.1 G.length 0 (by omega)
  have je : ∀ b : Bool, Ev (fun k => impl_DeltaOk.j0 k b G C f L) (!b && noGo G C G.length 0) := by
    intro b
    refine Ev.step (fun k => impl_DeltaOk.j0.eq_2 _ _ _ _ _ _) ?_
    cases b with
    | true => exact evPos rfl (Ev.now _)
    | false => exact evNeg (by simp) (evTo no (by simp))
  unfold impl_DeltaOk.f deltaB
  refine Ev.bind (words_impl G 24 hG.1 hG.2) ?_
  cases e0 : (wGo G G.length 0 && decide ((G.length : Int) ≤ 24)) with
  | false => exact evNeg (by simp) (evTo (je true) (by simp))
  | true =>
    refine evPos rfl (Ev.bind (ents_impl_loop C h.le h.e C.length 0 (by omega)) ?_)
    show Ev (fun n => if entsB C = true then _ else _) _
    cases e1 : entsB C with
    | false => exact evNeg (by simp) (evTo (je true) (by simp))
    | true =>
      refine evPos rfl (Ev.bind (affs_impl L h.la h.a) ?_)
      cases e2 : affsB L with
      | false => exact evNeg (by simp) (evTo (je true) (by simp))
      | true =>
        refine evPos rfl ?_
        cases f with
        | true => exact evPos rfl (evTo (je false) (by simp))
        | false =>
          refine evNeg (by simp) (evTo (je _) ?_)
          simp only [Bool.true_and, Bool.false_or]
          congr 1
          rw [Bool.eq_iff_iff, Bool.not_eq_true', decide_eq_false_iff_not, decide_eq_true_eq]
          omega
def spB : ByteArray := ⟨#[32]⟩
def nlB : ByteArray := ⟨#[10]⟩
def affLine (a : Af) : ByteArray := ((((((((if a.f1 = true then (⟨#[102, 114, 111, 110, 116]⟩ : ByteArray) else ⟨#[101, 110, 100]⟩) ++ ⟨#[32]⟩) ++ a.f0) ++ ⟨#[32]⟩) ++ a.f2) ++ ⟨#[32]⟩) ++ a.f3) ++ ⟨#[32]⟩) ++ a.f4
def entLine (e : En) : ByteArray := if e.f1.toList = ([] : List UInt8) then e.f0 else (e.f0 ++ ⟨#[47]⟩) ++ e.f1
abbrev AfZ (a : Af) : Prop := a.f0.size ≤ 1048576 ∧ a.f2.size ≤ 1048576 ∧ a.f3.size ≤ 1048576 ∧ a.f4.size ≤ 1048576
abbrev EnZ (e : En) : Prop := e.f0.size ≤ 1048576 ∧ e.f1.size ≤ 1048576
theorem affLine_size {a : Af} (h : AfZ a) : (affLine a).size ≤ 8388600 := by
  obtain ⟨h0, h2, h3, h4⟩ := h
  have e1 : (⟨#[32]⟩ : ByteArray).size = 1 := rfl
  have e2 : (if a.f1 = true then (⟨#[102, 114, 111, 110, 116]⟩ : ByteArray) else ⟨#[101, 110, 100]⟩).size ≤ 5 := by
    split
    · decide
    · decide
  unfold affLine
  simp only [size_append, e1]
  omega
theorem entLine_size {e : En} (h : EnZ e) : (entLine e).size ≤ 8388600 := by
  obtain ⟨h0, h1⟩ := h
  have e1 : (⟨#[47]⟩ : ByteArray).size = 1 := rfl
  unfold entLine
  split
  · omega
  · simp only [size_append, e1]
    omega
theorem affPut_spec {a : Af} (h : AfZ a) : spec_l2AffixPut.f a.f0 a.f1 a.f2 a.f3 a.f4 = some (affLine a) := by
  obtain ⟨h0, h2, h3, h4⟩ := h
  unfold spec_l2AffixPut.f
  rw [if_pos (by omega)]
  rfl
theorem affPut_impl {a : Af} (h : AfZ a) : impl_affixLine.f a.f0 a.f1 a.f2 a.f3 a.f4 = some (affLine a ++ nlB) := by
  obtain ⟨h0, h2, h3, h4⟩ := h
  unfold impl_affixLine.f
  rw [if_pos (by omega)]
  rfl
theorem entPut_spec {e : En} (h : EnZ e) : spec_l2EntryPut.f e.f0 e.f1 = some (entLine e) := by
  obtain ⟨h0, h1⟩ := h
  have e1 : (⟨#[47]⟩ : ByteArray).size = 1 := rfl
  unfold spec_l2EntryPut.f entLine
  by_cases c : e.f1.toList = ([] : List UInt8)
  · rw [if_pos c, if_pos c]
  · rw [if_neg c, if_neg c, if_pos (by omega), if_pos (by simp only [size_append, e1]; omega)]
theorem entPut_impl {e : En} (h : EnZ e) : impl_entryLine.f e.f0 e.f1 = some (entLine e ++ nlB) := by
  obtain ⟨h0, h1⟩ := h
  unfold impl_entryLine.f entLine
  rw [if_pos (by omega)]
  split <;> rfl
def putAs (l : List Af) (o : ByteArray) : ByteArray := l.foldl (fun o a => (o ++ affLine a) ++ nlB) o
theorem app_assoc (a b c : ByteArray) : a ++ (b ++ c) = (a ++ b) ++ c := by
  apply bytes_inj
  rw [bytes_append, bytes_append, bytes_append, bytes_append, List.append_assoc]
theorem nl_size : nlB.size = 1 := rfl
theorem af_get (l : List Af) (i : Nat) (hi : i < l.length) : rd_T98 l (i : Int) = l[i] := by simp [rd_T98, List.getD_eq_getElem?_getD, hi]
theorem en_get (l : List En) (i : Nat) (hi : i < l.length) : rd_T90 l (i : Int) = l[i] := by simp [rd_T90, List.getD_eq_getElem?_getD, hi]
theorem putAs_step (l : List Af) (i : Nat) (hi : i < l.length) (o : ByteArray) : putAs (l.drop i) o = putAs (l.drop (i + 1)) ((o ++ affLine (rd_T98 l (i : Int))) ++ nlB) := by
  rw [af_get l i hi, List.drop_eq_getElem_cons hi]
  rfl
def putGs (l : List ByteArray) (o : ByteArray) : ByteArray := l.foldl (fun o s => ((o ++ (⟨#[45]⟩ : ByteArray)) ++ s) ++ nlB) o
def putCs (l : List En) (o : ByteArray) : ByteArray := l.foldl (fun o e => ((o ++ (⟨#[43]⟩ : ByteArray)) ++ entLine e) ++ nlB) o
def hdB (f : Bool) : ByteArray := if f = true then (⟨#[97, 102, 102, 105, 120, 101, 115, 10]⟩ : ByteArray) else ⟨#[]⟩
def putDl (G : List ByteArray) (C : List En) (f : Bool) (L : List Af) : ByteArray := putCs C (putGs G (putAs L (hdB f)))
theorem m_size : (⟨#[45]⟩ : ByteArray).size = 1 := rfl
theorem p_size : (⟨#[43]⟩ : ByteArray).size = 1 := rfl
theorem putGs_step (l : List ByteArray) (i : Nat) (hi : i < l.length) (o : ByteArray) : putGs (l.drop i) o = putGs (l.drop (i + 1)) (((o ++ (⟨#[45]⟩ : ByteArray)) ++ rdOf ByteArray.empty l (i : Int)) ++ nlB) := by
  rw [ba_get l i hi, List.drop_eq_getElem_cons hi]
  rfl
theorem putCs_step (l : List En) (i : Nat) (hi : i < l.length) (o : ByteArray) : putCs (l.drop i) o = putCs (l.drop (i + 1)) (((o ++ (⟨#[43]⟩ : ByteArray)) ++ entLine (rd_T90 l (i : Int))) ++ nlB) := by
  rw [en_get l i hi, List.drop_eq_getElem_cons hi]
  rfl
theorem nl_lit : (⟨#[10]⟩ : ByteArray) = nlB := rfl
theorem dputC_spec (G : List ByteArray) (C : List En) (f : Bool) (L : List Af) (hG : StZ G) (h : BkSz L C) (d : Nat) : ∀ (i : Nat) (o : ByteArray), i + d = C.length → o.size ≤ 35184372088832 + i * 8388608 → Ev (fun k => spec_l5Put.l2 k o (i : Int) G C f L) (putCs (C.drop i) o) := by
  have hl := h.le
  induction d with
  | zero =>
    intro i o hi ho
    refine Ev.step (fun k => spec_l5Put.l2.eq_2 ..) (evNeg (by omega) (evTo (Ev.now _) ?_))
    rw [List.drop_eq_nil_of_le (by omega)]
    rfl
  | succ d ih =>
    intro i o hi ho
    have hz := en_at (P := EnZ) h.e i (by omega)
    have hs := entLine_size hz
    rw [putCs_step C i (by omega) o]
    refine Ev.step (fun k => spec_l5Put.l2.eq_2 ..) (evPos (by omega) (evPos (by omega) (evPos (by omega) (evCall (entPut_spec hz) (evPos (by rw [size_append, p_size]; omega) (evPos (by rw [size_append, size_append, p_size]; omega) ?_))))))
    rw [w64 (n := (i : Int) + 1) (by omega) (by omega), nl_lit]
    exact ih (i + 1) _ (by omega) (by simp only [size_append, nl_size, p_size]; omega)
theorem dputG_spec (G : List ByteArray) (C : List En) (f : Bool) (L : List Af) (hG : StZ G) (h : BkSz L C) (d : Nat) : ∀ (i : Nat) (o : ByteArray), i + d = G.length → o.size ≤ 17592186044416 + i * 8388608 → Ev (fun k => spec_l5Put.l1 k o (i : Int) G C f L) (putCs C (putGs (G.drop i) o)) := by
  have hl := hG.1
  induction d with
  | zero =>
    intro i o hi ho
    refine Ev.step (fun k => spec_l5Put.l1.eq_2 ..) (evNeg (by omega) ?_)
    rw [List.drop_eq_nil_of_le (by omega)]
    exact dputC_spec G C f L hG h C.length 0 o (by omega) (by omega)
  | succ d ih =>
    intro i o hi ho
    have hs := ba_at (P := fun s => s.size ≤ 1048576) hG.2 i (by omega)
    rw [putGs_step G i (by omega) o]
    refine Ev.step (fun k => spec_l5Put.l1.eq_2 ..) (evPos (by omega) (evPos (by omega) (evPos (by omega) (evPos (by rw [size_append, m_size]; omega) (evPos (by rw [size_append, size_append, m_size]; omega) ?_)))))
    rw [w64 (n := (i : Int) + 1) (by omega) (by omega), nl_lit]
    exact ih (i + 1) _ (by omega) (by simp only [size_append, nl_size, m_size]; omega)
theorem dputA_spec (G : List ByteArray) (C : List En) (f : Bool) (L : List Af) (hG : StZ G) (h : BkSz L C) (d : Nat) : ∀ (i : Nat) (o : ByteArray), i + d = L.length → o.size ≤ 8796093022208 + i * 8388608 → Ev (fun k => spec_l5Put.l0 k o (i : Int) G C f L) (putCs C (putGs G (putAs (L.drop i) o))) := by
  have hl := h.la
  induction d with
  | zero =>
    intro i o hi ho
    refine Ev.step (fun k => spec_l5Put.l0.eq_2 ..) (evNeg (by omega) ?_)
    rw [List.drop_eq_nil_of_le (by omega)]
    exact dputG_spec G C f L hG h G.length 0 o (by omega) (by omega)
  | succ d ih =>
    intro i o hi ho
    have hz := af_at (P := AfZ) h.a i (by omega)
    have hs := affLine_size hz
    rw [putAs_step L i (by omega) o]
    refine Ev.step (fun k => spec_l5Put.l0.eq_2 ..) (evPos (by omega) (evPos (by omega) (evCall (affPut_spec hz) (evPos (by omega) (evPos (by rw [size_append]; omega) ?_)))))
    rw [w64 (n := (i : Int) + 1) (by omega) (by omega), nl_lit]
    exact ih (i + 1) _ (by omega) (by simp only [size_append, nl_size]; omega)
theorem hd_size (f : Bool) : (hdB f).size ≤ 8 := by cases f <;> decide
theorem l5Put_ev (G : List ByteArray) (C : List En) (f : Bool) (L : List Af) (hG : StZ G) (h : BkSz L C) : Ev (fun k => spec_l5Put.f k G C f L) (putDl G C f L) := by
  have hs := hd_size f
  have main := dputA_spec G C f L hG h L.length 0 (hdB f) (by omega) (by omega)
  unfold spec_l5Put.f
  cases f with
  | true => exact evPos rfl (Ev.step (fun k => spec_l5Put.j0.eq_2 ..) main)
  | false => exact evNeg (by simp) (Ev.step (fun k => spec_l5Put.j0.eq_2 ..) main)
theorem dputC_impl (C : List En) (hl : C.length ≤ 1048576) (he : ∀ s ∈ C, EnZ s) (d : Nat) : ∀ (i : Nat) (o : ByteArray), i + d = C.length → o.size ≤ 35184372088832 + i * 8388608 → Ev (fun k => impl_DeltaPut.l2 k o C (C.length : Int) (i : Int)) (putCs (C.drop i) o) := by
  induction d with
  | zero =>
    intro i o hi ho
    refine Ev.step (fun k => impl_DeltaPut.l2.eq_2 ..) (evNeg (by omega) (evTo (Ev.now _) ?_))
    rw [List.drop_eq_nil_of_le (by omega)]
    rfl
  | succ d ih =>
    intro i o hi ho
    have hz := en_at (P := EnZ) he i (by omega)
    have hs := entLine_size hz
    rw [putCs_step C i (by omega) o]
    refine Ev.step (fun k => impl_DeltaPut.l2.eq_2 ..) (evPos (by omega) (evPos (by omega) (evPos (by omega) (evCall (entPut_impl hz) (evPos (by rw [size_append, nl_size]; omega) (evPos (by rw [size_append, size_append, p_size, nl_size]; omega) ?_))))))
    rw [w64 (n := (i : Int) + 1) (by omega) (by omega), app_assoc, app_assoc]
    exact ih (i + 1) _ (by omega) (by simp only [size_append, nl_size, p_size]; omega)
theorem dputG_impl (G : List ByteArray) (C : List En) (f : Bool) (L : List Af) (hG : StZ G) (h : BkSz L C) (d : Nat) : ∀ (i : Nat) (o : ByteArray), i + d = G.length → o.size ≤ 17592186044416 + i * 8388608 → Ev (fun k => impl_DeltaPut.l1 k o G (G.length : Int) (i : Int) G C f L) (putCs C (putGs (G.drop i) o)) := by
  have hl := hG.1
  induction d with
  | zero =>
    intro i o hi ho
    refine Ev.step (fun k => impl_DeltaPut.l1.eq_2 ..) (evNeg (by omega) ?_)
    rw [List.drop_eq_nil_of_le (by omega)]
    exact dputC_impl C h.le h.e C.length 0 o (by omega) (by omega)
  | succ d ih =>
    intro i o hi ho
    have hs := ba_at (P := fun s => s.size ≤ 1048576) hG.2 i (by omega)
    rw [putGs_step G i (by omega) o]
    refine Ev.step (fun k => impl_DeltaPut.l1.eq_2 ..) (evPos (by omega) (evPos (by omega) (evPos (by omega) (evPos (by omega) (evPos (by rw [size_append, m_size]; omega) (evPos (by simp only [size_append, nl_lit, nl_size, m_size]; omega) ?_))))))
    rw [w64 (n := (i : Int) + 1) (by omega) (by omega), app_assoc, app_assoc, nl_lit]
    exact ih (i + 1) _ (by omega) (by simp only [size_append, nl_size, m_size]; omega)
theorem dputA_impl (G : List ByteArray) (C : List En) (f : Bool) (L : List Af) (hG : StZ G) (h : BkSz L C) (d : Nat) : ∀ (i : Nat) (o : ByteArray), i + d = L.length → o.size ≤ 8796093022208 + i * 8388608 → Ev (fun k => impl_DeltaPut.l0 k o L (L.length : Int) (i : Int) G C f L) (putCs C (putGs G (putAs (L.drop i) o))) := by
  have hl := h.la
  induction d with
  | zero =>
    intro i o hi ho
    refine Ev.step (fun k => impl_DeltaPut.l0.eq_2 ..) (evNeg (by omega) ?_)
    rw [List.drop_eq_nil_of_le (by omega)]
    exact dputG_impl G C f L hG h G.length 0 o (by omega) (by omega)
  | succ d ih =>
    intro i o hi ho
    have hz := af_at (P := AfZ) h.a i (by omega)
    have hs := affLine_size hz
    rw [putAs_step L i (by omega) o]
    refine Ev.step (fun k => impl_DeltaPut.l0.eq_2 ..) (evPos (by omega) (evPos (by omega) (evPos (by omega) (evCall (affPut_impl hz) (evPos (by rw [size_append, nl_size]; omega) ?_)))))
    rw [w64 (n := (i : Int) + 1) (by omega) (by omega), app_assoc]
    exact ih (i + 1) _ (by omega) (by simp only [size_append, nl_size]; omega)
def putDB (G : List ByteArray) (C : List En) (f : Bool) (L : List Af) : ByteArray := if deltaB G C f L = true then putDl G C f L else ⟨#[]⟩
theorem deltaPut_spec (G : List ByteArray) (C : List En) (f : Bool) (L : List Af) (hG : StZ G) (h : BkSz L C) : Ev (fun k => spec_DeltaPut.f k G C f L) (putDB G C f L) := by
  unfold spec_DeltaPut.f putDB
  refine Ev.bind (deltaOk_spec G C f L hG h) ?_
  by_cases c : deltaB G C f L = true
  · rw [if_pos c]
    exact evPos c (Ev.bind (l5Put_ev G C f L hG h) (Ev.now _))
  · rw [if_neg c]
    exact evNeg c (Ev.now _)
theorem deltaPut_impl (G : List ByteArray) (C : List En) (f : Bool) (L : List Af) (hG : StZ G) (h : BkSz L C) : Ev (fun k => impl_DeltaPut.f k G C f L) (putDB G C f L) := by
  have hs := hd_size f
  have main := dputA_impl G C f L hG h L.length 0 (hdB f) (by omega) (by omega)
  unfold impl_DeltaPut.f putDB
  refine Ev.bind (deltaOk_impl G C f L hG h) ?_
  by_cases c : deltaB G C f L = true
  · rw [if_pos c]
    refine evPos c ?_
    cases f with
    | true => exact evPos rfl (Ev.step (fun k => impl_DeltaPut.j0.eq_2 ..) main)
    | false => exact evNeg (by simp) (Ev.step (fun k => impl_DeltaPut.j0.eq_2 ..) main)
  · rw [if_neg c]
    exact evNeg c (Ev.now _)
theorem FnExactDeltaPut (G : List ByteArray) (E : List LEn) (f : Bool) (L : List LAf) (z : dlWf G E L) : ∃ k, laws_FnExactDeltaPut.f k G E f L = some true := by
  refine Ev.rounds ?_
  unfold laws_FnExactDeltaPut.f
  obtain ⟨m, hm, hz⟩ := szDelta_ev G E f L 1048576 (by omega) (by omega) z
  refine Ev.bind hm ?_
  by_cases c : m < 0
  · exact evPos c (Ev.now _)
  obtain ⟨hG, h⟩ := (hz.resolve_left c).2.2
  have ht := toDelta_ev G E f L hG h
  refine evNeg c ?_
  exact Ev.bind ht (Ev.bind (deltaPut_spec _ _ _ _ hG h) (Ev.bind ht (Ev.bind (deltaPut_impl _ _ _ _ hG h) (evPos rfl (Ev.bind ht (Ev.bind (eqDelta_ev _ _ _ _ hG h) (evPos rfl (Ev.now _))))))))
end Go.Proofs.Ytnljgfaomabkbaa.Pure

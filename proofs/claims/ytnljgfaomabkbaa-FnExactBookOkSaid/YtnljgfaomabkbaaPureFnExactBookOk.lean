/- BookOk answers as the reference, of every book, and leaves it as it was. No condition. -/
import Derived.Test.YtnljgfaomabkbaaQFnExactBookOkx10
import Derived.Test.YtnljgfaomabkbaaVMBas
import Derived.Test.YtnljgfaomabkbaaVMStr
import Derived.Test.YtnljgfaomabkbaaVMAff
namespace Go.Proofs.Ytnljgfaomabkbaa.Pure
open Go.RowKit Go.Proofs.Ytnljgfaomabkbaa.QFnExactBookOk Go.Proofs.YtnljgfaomabkbaaW.PrintWords Go.Proofs.YtnljgfaomabkbaaW.PrintLast Go.Proofs.YtnljgfaomabkbaaW.PrintMore Go.Proofs.Ytnljgfaomabkbaa.M
set_option linter.unusedVariables false
set_option linter.unusedSimpArgs false
theorem letters_loop (s : ByteArray) (m : Int) (h : s.size ≤ 281474976710656) (d : Nat) : ∀ i : Int, 0 ≤ i → i ≤ s.size → (s.size : Int) - i = d →
    Ev (fun k => spec_l1Letters.l0 k s m i) (((bytesOf s).drop i.toNat).all low && decide ((s.size : Int) ≤ m)) := by
  induction d with
  | zero =>
    intro i h0 h1 hd
    refine Ev.step (fun k => spec_l1Letters.l0.eq_2 _ _ _ _) (evNeg (by omega) ?_)
    rw [List.drop_eq_nil_of_le (by rw [bytesOf_length]; omega)]
    exact evTo (Ev.now _) (by simp)
  | succ d ih =>
    intro i h0 h1 hd
    refine Ev.step (fun k => spec_l1Letters.l0.eq_2 _ _ _ _) (evPos (by omega) (evPos h0 ?_))
    rw [bytes_drop s i h0 (by omega), List.all_cons]
    by_cases c : bt s i < 97
    · exact evPos c (evTo (Ev.now _) (by simp [low]; omega))
    refine evNeg c ?_
    by_cases c1 : bt s i > 122
    · exact evPos c1 (evTo (Ev.now _) (by simp [low]; omega))
    refine evNeg c1 ?_
    have e : low (bt s i) = true := (low_iff _).2 (by omega)
    rw [w64 (by omega) (by omega), e, Bool.true_and]
    exact ih (i + 1) (by omega) (by omega) (by omega)
theorem letters_spec (s : ByteArray) (m : Int) (h : s.size ≤ 140737488351232) : Ev (fun k => spec_l1Letters.f k s m) ((bytesOf s).all low && decide ((s.size : Int) ≤ m)) :=
  letters_loop s m (by omega) s.size 0 (by omega) (by omega) (by omega)
theorem letters_wide (s : ByteArray) (m : Int) (h : s.size ≤ 281474976710656) : Ev (fun k => spec_l1Letters.f k s m) ((bytesOf s).all low && decide ((s.size : Int) ≤ m)) :=
  letters_loop s m h s.size 0 (by omega) (by omega) (by omega)
theorem flag_spec (s : ByteArray) : spec_l2Flag.f s = some (flagB s) := by
  unfold spec_l2Flag.f
  by_cases c : (s.size : Int) = 1
  · rw [if_pos c, if_pos (by omega)]
    by_cases e : bt s 0 ≥ 65
    · rw [if_pos e]
      simp [flagB, e]
      omega
    · rw [if_neg e]
      simp [flagB, e]
  · rw [if_neg c]
    simp [flagB]
    omega
theorem begins_spec (s p : ByteArray) : spec_l2Begins.f s p = some (begB s p) := by
  unfold spec_l2Begins.f
  by_cases c : (s.size : Int) ≥ (p.size : Int)
  · rw [if_pos c, if_pos (by omega), if_pos (by omega), toList_beq]
    try rw [Int.toNat_natCast]
    simp [begB]
    omega
  · rw [if_neg c]
    simp [begB]
    omega
theorem ends_spec (s p : ByteArray) (h : s.size ≤ 1407374883512320) : spec_l2Ends.f s p = some (endB s p) := by
  unfold spec_l2Ends.f
  by_cases c : (s.size : Int) ≥ (p.size : Int)
  · rw [if_pos c, w64 (by omega) (by omega), if_pos (by omega), if_pos (by omega), toList_beq, show ((s.size : Int) - (p.size : Int)).toNat = s.size - p.size from by omega]
    simp [endB]
    omega
  · rw [if_neg c]
    simp [endB]
    omega
theorem letters4 (s : ByteArray) (h : s.size ≤ 140737488351232) : Ev (fun k => spec_l1Letters.f k s 4) (partB s) :=
  evTo (letters_spec s 4 h) (by
    unfold partB
    congr 1
    exact decide_eq_decide.2 (by omega))
theorem affixOk_spec (g : ByteArray) (fr : Bool) (st ad wh : ByteArray) (h1 : st.size ≤ 140737488351232) (h2 : ad.size ≤ 140737488351232) (h3 : wh.size ≤ 140737488351232) :
    Ev (fun k => spec_AffixOk.f k g fr st ad wh) (affOk g fr st ad wh) := by
  have no : ∀ r, r = false → Ev (fun k => spec_AffixOk.j0 k true g fr st ad wh) r := fun r hr => Ev.step (fun k => spec_AffixOk.j0.eq_2 _ _ _ _ _ _ _) (evPos rfl (evTo (Ev.now _) hr.symm))
  unfold spec_AffixOk.f
  refine evCall (flag_spec _) ?_
  cases e1 : flagB g with
  | false => exact evNeg (by simp) (no _ (by simp [affOk, e1]))
  | true =>
    refine evPos rfl (Ev.bind (letters4 st h1) ?_)
    cases e2 : partB st with
    | false => exact evNeg (by simp) (no _ (by simp [affOk, e2]))
    | true =>
      refine evPos rfl (Ev.bind (letters4 ad h2) ?_)
      cases e3 : partB ad with
      | false => exact evNeg (by simp) (no _ (by simp [affOk, e3]))
      | true =>
        refine evPos rfl (Ev.bind (letters4 wh h3) ?_)
        cases e4 : partB wh with
        | false => exact no _ (by simp [affOk, e4])
        | true =>
          refine Ev.step (fun k => spec_AffixOk.j0.eq_2 _ _ _ _ _ _ _) (evNeg (by simp) ?_)
          cases fr with
          | true => exact evPos rfl (evCall (begins_spec _ _) (evTo (Ev.now _) (by simp [affOk, e1, e2, e3, e4])))
          | false => exact evNeg (by simp) (evCall (ends_spec _ _ (by omega)) (evTo (Ev.now _) (by simp [affOk, e1, e2, e3, e4])))
theorem lower_loop (s : ByteArray) (h : s.size ≤ 140737488351232) (d : Nat) : ∀ i : Int, 0 ≤ i → i ≤ s.size → (s.size : Int) - i = d →
    Ev (fun k => impl_lower.l0 k s (s.size : Int) i) (((bytesOf s).drop i.toNat).all low) := by
  induction d with
  | zero =>
    intro i h0 h1 hd
    refine Ev.step (fun k => impl_lower.l0.eq_2 _ _ _ _) (evNeg (by omega) ?_)
    rw [List.drop_eq_nil_of_le (by rw [bytesOf_length]; omega)]
    exact evTo (Ev.now _) (by simp)
  | succ d ih =>
    intro i h0 h1 hd
    refine Ev.step (fun k => impl_lower.l0.eq_2 _ _ _ _) (evPos (by omega) (evPos h0 (evPos (by omega) ?_)))
    rw [bytes_drop s i h0 (by omega), List.all_cons]
    by_cases c : bt s i < 97
    · exact evPos c (evTo (Ev.now _) (by simp [low]; omega))
    refine evNeg c ?_
    by_cases c1 : bt s i > 122
    · exact evPos c1 (evTo (Ev.now _) (by simp [low]; omega))
    refine evNeg c1 ?_
    have e : low (bt s i) = true := (low_iff _).2 (by omega)
    rw [w64 (by omega) (by omega), e, Bool.true_and]
    exact ih (i + 1) (by omega) (by omega) (by omega)
theorem lower_impl (s : ByteArray) (h : s.size ≤ 140737488351232) : Ev (fun k => impl_lower.f k s) ((bytesOf s).all low) :=
  lower_loop s h s.size 0 (by omega) (by omega) (by omega)
theorem upper_impl (c : Int) : impl_upper.f c = some (decide (65 ≤ c) && decide (c ≤ 90)) := by
  unfold impl_upper.f
  by_cases e : c ≥ 65
  · rw [if_pos e]; simp [e]
  · rw [if_neg e]; simp; omega
theorem hasPrefix0 (s p : ByteArray) : stringslite_HasPrefix.f s p = some (begB s p) := begins_spec s p
theorem hasPrefix_lib (s p : ByteArray) : strings_HasPrefix.f s p = some (begB s p) := by
  unfold strings_HasPrefix.f
  rw [hasPrefix0]
  rfl
theorem hasSuffix0 (s p : ByteArray) (h : s.size ≤ 1407374883512320) : stringslite_HasSuffix.f s p = some (endB s p) := ends_spec s p h
theorem hasSuffix_lib (s p : ByteArray) (h : s.size ≤ 1407374883512320) : strings_HasSuffix.f s p = some (endB s p) := by
  unfold strings_HasSuffix.f
  rw [hasSuffix0 s p h]
  rfl
theorem parts_loop (g : ByteArray) (fr : Bool) (st ad wh : ByteArray) (l : List ByteArray) (hl : l.length ≤ 10) (hs : ∀ x ∈ l, x.size ≤ 140737488351232) (hw : wh.size ≤ 140737488351232) (d : Nat) : ∀ i : Int, 0 ≤ i → i ≤ l.length → (l.length : Int) - i = d →
    Ev (fun k => impl_AffixOk.l0 k l (l.length : Int) i g fr st ad wh) ((l.drop i.toNat).all partB && (if fr = true then begB wh st else endB wh st)) := by
  induction d with
  | zero =>
    intro i h0 h1 hd
    refine Ev.step (fun k => impl_AffixOk.l0.eq_2 _ _ _ _ _ _ _ _ _) (evNeg (by omega) ?_)
    rw [List.drop_eq_nil_of_le (by omega), List.all_nil, Bool.true_and]
    cases fr with
    | true => exact evPos rfl (evCall (hasPrefix_lib _ _) (Ev.now _))
    | false => exact evNeg (by simp) (evCall (hasSuffix_lib _ _ (by omega)) (Ev.now _))
  | succ d ih =>
    intro i h0 h1 hd
    have hi : i.toNat < l.length := by omega
    have hx : rdOf ByteArray.empty l i = l[i.toNat] := by simp [rdOf, List.getD_eq_getElem?_getD, List.getElem?_eq_getElem hi]
    have hm := hs _ (List.getElem_mem hi)
    refine Ev.step (fun k => impl_AffixOk.l0.eq_2 _ _ _ _ _ _ _ _ _) (evPos (by omega) (evPos h0 (evPos (by omega) ?_)))
    rw [hx, List.drop_eq_getElem_cons hi, List.all_cons]
    generalize l[i.toNat] = x at *
    by_cases c : (x.size : Int) > 4
    · refine evPos c (evTo (Ev.now _) ?_)
      have : partB x = false := by simp [partB]; omega
      rw [this]
      rfl
    · refine evNeg c (Ev.bind (lower_impl x hm) ?_)
      have hp : partB x = (bytesOf x).all low := by
        simp only [partB]
        rw [decide_eq_true (by omega), Bool.and_true]
      rw [hp]
      cases e : (bytesOf x).all low with
      | false => exact evNeg (by simp) (evTo (Ev.now _) (by simp))
      | true =>
        refine evPos rfl ?_
        rw [w64 (by omega) (by omega), Bool.true_and, show i.toNat + 1 = (i + 1).toNat from by omega]
        exact ih (i + 1) (by omega) (by omega) (by omega)
theorem affixOk_impl (g : ByteArray) (fr : Bool) (st ad wh : ByteArray) (h1 : st.size ≤ 140737488351232) (h2 : ad.size ≤ 140737488351232) (h3 : wh.size ≤ 140737488351232) :
    Ev (fun k => impl_AffixOk.f k g fr st ad wh) (affOk g fr st ad wh) := by
  unfold impl_AffixOk.f
  by_cases c : (g.size : Int) = 1
  · refine evPos c (evPos (by omega) (evCall (upper_impl _) ?_))
    have hf : flagB g = (decide (65 ≤ bt g 0) && decide (bt g 0 ≤ 90)) := by
      simp only [flagB]
      rw [decide_eq_true (by omega), Bool.true_and]
    rw [← hf]
    cases e : flagB g with
    | false => exact Ev.step (fun k => impl_AffixOk.j0.eq_2 _ _ _ _ _ _ _) (evPos rfl (evTo (Ev.now _) (by simp [affOk, e])))
    | true =>
      refine Ev.step (fun k => impl_AffixOk.j0.eq_2 _ _ _ _ _ _ _) (evNeg (by simp) (evCall rfl ?_))
      refine evTo (parts_loop g fr st ad wh [st, ad, wh] (by simp) (by
        intro x hx
        simp only [List.mem_cons, List.not_mem_nil, or_false] at hx
        rcases hx with rfl | rfl | rfl <;> assumption) h3 3 0 (by omega) (by simp) (by simp)) ?_
      simp [affOk, e, Bool.and_assoc]
  · refine evNeg c (Ev.step (fun k => impl_AffixOk.j0.eq_2 _ _ _ _ _ _ _) (evPos rfl (evTo (Ev.now _) ?_)))
    have : flagB g = false := by simp [flagB]; omega
    simp [affOk, this]
theorem fill_step {α β : Type} {f : α → β} {xs : List α} {ys : List β} {i : Nat} (z : α) (hl : ys.length = xs.length) (h : ∀ j : Nat, j < i → ys[j]? = (xs.map f)[j]?) (hi : i < xs.length) :
    (ys.set i (f (xs.getD i z))).length = xs.length ∧ ∀ j : Nat, j < i + 1 → (ys.set i (f (xs.getD i z)))[j]? = (xs.map f)[j]? := by
  refine ⟨by simpa using hl, fun j hj => ?_⟩
  by_cases c : i = j
  · subst c
    simp [hl, hi, List.getD_eq_getElem?_getD]
  · rw [List.getElem?_set_ne c]
    exact h j (by omega)
theorem fill_end {α β : Type} {f : α → β} {xs : List α} {ys : List β} (hl : ys.length = xs.length) (h : ∀ j : Nat, j < xs.length → ys[j]? = (xs.map f)[j]?) : ys = xs.map f := by
  refine List.ext_getElem? fun j => ?_
  by_cases c : j < xs.length
  · exact h j c
  · rw [List.getElem?_eq_none (by omega), List.getElem?_eq_none (by simp; omega)]
theorem szAffix_ev (g : ByteArray) (fr : Bool) (st ad wh : ByteArray) (n : Int) (h0 : 0 ≤ n) (h1 : n ≤ 1048576) (z : g.size ≤ 9223372036854775807 ∧ (True ∧ (st.size ≤ 9223372036854775807 ∧ (ad.size ≤ 9223372036854775807 ∧ wh.size ≤ 9223372036854775807)))) :
    ∃ m, laws_szAffix.f g fr st ad wh n = some m ∧ (m < 0 ∨ (0 ≤ m ∧ m = n - g.size - st.size - ad.size - wh.size)) := by
  obtain ⟨z0, _, z1, z2, z3⟩ := z
  unfold laws_szAffix.f
  rw [w64 (n := n - (g.size : Int)) (by omega) (by omega)]
  by_cases c0 : n - (g.size : Int) < 0
  · exact ⟨-1, if_pos c0, .inl (by omega)⟩
  rw [if_neg c0, w64 (n := n - (g.size : Int) - (st.size : Int)) (by omega) (by omega)]
  by_cases c1 : n - (g.size : Int) - (st.size : Int) < 0
  · exact ⟨-1, if_pos c1, .inl (by omega)⟩
  rw [if_neg c1, w64 (n := n - (g.size : Int) - (st.size : Int) - (ad.size : Int)) (by omega) (by omega)]
  by_cases c2 : n - (g.size : Int) - (st.size : Int) - (ad.size : Int) < 0
  · exact ⟨-1, if_pos c2, .inl (by omega)⟩
  rw [if_neg c2, w64 (n := n - (g.size : Int) - (st.size : Int) - (ad.size : Int) - (wh.size : Int)) (by omega) (by omega)]
  by_cases c3 : n - (g.size : Int) - (st.size : Int) - (ad.size : Int) - (wh.size : Int) < 0
  · exact ⟨-1, if_pos c3, .inl (by omega)⟩
  · exact ⟨_, if_neg c3, .inr ⟨by omega, rfl⟩⟩
abbrev LAf := S127
abbrev Af := S98
def cvA (a : LAf) : Af := ⟨a.f0, a.f1, a.f2, a.f3, a.f4⟩
theorem toAffix_loop (l : List LAf) (hl : l.length ≤ 10000000) (d : Nat) : ∀ (i : Nat) (y : List Af), i + d = l.length → y.length = l.length → (∀ j : Nat, j < i → y[j]? = (l.map cvA)[j]?) → Ev (fun k => laws_toAffixS.l0 k l y (i : Int)) (l.map cvA) := by
  induction d with
  | zero =>
    intro i y hi hy h
    exact Ev.step (fun k => laws_toAffixS.l0.eq_2 _ _ _ _) (evNeg (by omega) (evTo (Ev.now _) (fill_end hy (fun j hj => h j (by omega)))))
  | succ d ih =>
    intro i y hi hy h
    obtain ⟨h1, h2⟩ := fill_step (f := cvA) z127 hy h (by omega)
    refine Ev.step (fun k => laws_toAffixS.l0.eq_2 _ _ _ _) (evPos (by omega) (evPos (by omega) (evCall rfl (evPos (by omega) ?_))))
    rw [w64 (by omega) (by omega)]
    exact ih (i + 1) _ (by omega) h1 h2
theorem toAffixs_ev (l : List LAf) (hl : l.length ≤ 10000000) : Ev (fun k => laws_toAffixS.f k l) (l.map cvA) := by
  unfold laws_toAffixS.f
  exact evPos (by omega) (evPos (by omega) (toAffix_loop l hl l.length 0 _ (by omega) (by simp) (fun j hj => absurd hj (by omega))))
theorem eqAffix_loop (l : List Af) (hl : l.length ≤ 10000000) (d : Nat) : ∀ i : Nat, i + d = l.length → Ev (fun k => laws_eqAffixS.l0 k l l (i : Int)) true := by
  induction d with
  | zero =>
    intro i hi
    exact Ev.step (fun k => laws_eqAffixS.l0.eq_2 _ _ _ _) (evNeg (by omega) (Ev.now _))
  | succ d ih =>
    intro i hi
    refine Ev.step (fun k => laws_eqAffixS.l0.eq_2 _ _ _ _) (evPos (by omega) (evPos (by omega) (evPos (by omega) (evCall (a := true) (by simp [laws_eqAffix.f]) (evPos rfl ?_)))))
    rw [w64 (by omega) (by omega)]
    exact ih (i + 1) (by omega)
theorem eqAffixs_ev (l : List Af) (hl : l.length ≤ 10000000) : Ev (fun k => laws_eqAffixS.f k l l) true := by
  unfold laws_eqAffixS.f
  exact evPos rfl (eqAffix_loop l hl l.length 0 (by omega))
theorem szAffixs_loop (l : List LAf) (hl : l.length ≤ 10000000) (he : ∀ s ∈ l, (s.f0.size ≤ 9223372036854775807 ∧ (True ∧ (s.f2.size ≤ 9223372036854775807 ∧ (s.f3.size ≤ 9223372036854775807 ∧ s.f4.size ≤ 9223372036854775807))))) (d : Nat) : ∀ (i : Nat) (n : Int), i + d = l.length → 0 ≤ n → n ≤ 1048576 → ∃ m, Ev (fun k => laws_szAffixS.l0 k l n (i : Int)) m ∧ (m < 0 ∨ (0 ≤ m ∧ m ≤ 1048576 ∧ ∀ s ∈ l.drop i, (s.f0.size ≤ 1048576 ∧ s.f2.size ≤ 1048576 ∧ s.f3.size ≤ 1048576 ∧ s.f4.size ≤ 1048576))) := by
  induction d with
  | zero =>
    intro i n hi h0 h1
    exact ⟨n, Ev.step (fun k => laws_szAffixS.l0.eq_2 _ _ _ _) (evNeg (by omega) (Ev.now _)), .inr ⟨h0, h1, fun s hs => by rw [List.drop_eq_nil_of_le (by omega)] at hs; cases hs⟩⟩
  | succ d ih =>
    intro i n hi h0 h1
    have hlt : i < l.length := by omega
    have e : rd_T127 l (i : Int) = l[i] := by simp [rd_T127, List.getD_eq_getElem?_getD, hlt]
    have hw := he _ (List.getElem_mem hlt)
    obtain ⟨m, hm, hz⟩ := szAffix_ev l[i].f0 l[i].f1 l[i].f2 l[i].f3 l[i].f4 n h0 h1 hw
    by_cases c : m < 0
    · refine ⟨-1, Ev.step (fun k => laws_szAffixS.l0.eq_2 _ _ _ _) (evPos (by omega) (evPos (by omega) ?_)), .inl (by omega)⟩
      rw [e]
      exact evCall hm (evPos c (Ev.now _))
    · have hz' := hz.resolve_left c
      obtain ⟨q, hq, hr⟩ := ih (i + 1) m (by omega) (by omega) (by omega)
      refine ⟨q, Ev.step (fun k => laws_szAffixS.l0.eq_2 _ _ _ _) (evPos (by omega) (evPos (by omega) ?_)), hr.elim .inl (fun h => .inr ⟨h.1, h.2.1, fun s hs => ?_⟩)⟩
      · rw [e]
        refine evCall hm (evNeg c ?_)
        rw [w64 (by omega) (by omega)]
        exact hq
      · rw [List.drop_eq_getElem_cons hlt] at hs
        rcases List.mem_cons.1 hs with rfl | hs
        · omega
        · exact h.2.2 s hs
theorem szAffixs_ev (l : List LAf) (n : Int) (h0 : 0 ≤ n) (h1 : n ≤ 1048576) (hl : l.length ≤ 9223372036854775807) (he : ∀ s ∈ l, (s.f0.size ≤ 9223372036854775807 ∧ (True ∧ (s.f2.size ≤ 9223372036854775807 ∧ (s.f3.size ≤ 9223372036854775807 ∧ s.f4.size ≤ 9223372036854775807))))) :
    ∃ m, Ev (fun k => laws_szAffixS.f k l n) m ∧ (m < 0 ∨ (0 ≤ m ∧ m ≤ 1048576 ∧ l.length ≤ 1048576 ∧ ∀ s ∈ l, (s.f0.size ≤ 1048576 ∧ s.f2.size ≤ 1048576 ∧ s.f3.size ≤ 1048576 ∧ s.f4.size ≤ 1048576))) := by
  unfold laws_szAffixS.f
  rw [w64 (n := n - (l.length : Int)) (by omega) (by omega)]
  by_cases c : n - (l.length : Int) < 0
  · exact ⟨-1, evPos c (Ev.now _), .inl (by omega)⟩
  · obtain ⟨m, hm, hz⟩ := szAffixs_loop l (by omega) he l.length 0 (n - l.length) (by omega) (by omega) (by omega)
    exact ⟨m, evNeg c hm, hz.elim .inl (fun h => .inr ⟨h.1, h.2.1, by omega, by simpa using h.2.2⟩)⟩
theorem af_at {P : Af → Prop} {l : List Af} (h : ∀ s ∈ l, P s) (i : Nat) (hi : i < l.length) : P (rd_T98 l (i : Int)) := by
  have e : rd_T98 l (i : Int) = l[i] := by simp [rd_T98, List.getD_eq_getElem?_getD, hi]
  rw [e]
  exact h _ (List.getElem_mem hi)
def eqA (a b : Af) : Bool := a.f0.toList == b.f0.toList && (a.f1 == b.f1 && (a.f2.toList == b.f2.toList && (a.f3.toList == b.f3.toList && (a.f4.toList == b.f4.toList))))
theorem beq_comm' {α : Type} [BEq α] [LawfulBEq α] (a b : α) : (a == b) = (b == a) := by
  cases h : (a == b) with
  | true => rw [eq_of_beq h]; simp
  | false =>
    cases g : (b == a) with
    | false => rfl
    | true => rw [eq_of_beq g] at h; simp at h
theorem eqA_comm (a b : Af) : eqA a b = eqA b a := by
  unfold eqA
  rw [beq_comm' a.f0.toList, beq_comm' a.f1, beq_comm' a.f2.toList, beq_comm' a.f3.toList, beq_comm' a.f4.toList]
def dup (l : List Af) (i : Int) : Nat → Int → Bool
  | 0, _ => false
  | d + 1, k => eqA (rd_T98 l k) (rd_T98 l i) || dup l i d (k + 1)
def affGo (l : List Af) : Nat → Int → Bool
  | 0, _ => true
  | d + 1, i => affOk (rd_T98 l i).f0 (rd_T98 l i).f1 (rd_T98 l i).f2 (rd_T98 l i).f3 (rd_T98 l i).f4 && !dup l i i.toNat 0 && affGo l d (i + 1)
def affsB (l : List Af) : Bool := affGo l l.length 0 && decide (l.length ≤ 8)
abbrev AfSz (l : List Af) : Prop := ∀ s ∈ l, (s.f0.size ≤ 1048576 ∧ s.f2.size ≤ 1048576 ∧ s.f3.size ≤ 1048576 ∧ s.f4.size ≤ 1048576)
theorem dup_spec_loop (l : List Af) (hl : l.length ≤ 1048576) (i : Nat) (hi : i < l.length) {r : Bool} (d : Nat) : ∀ k : Nat, k + d = i → (dup l i d k = true → r = false) → (dup l i d k = false → Ev (fun n => spec_l2Affixes.l0 n l (wrap64 ((i : Int) + 1))) r) → Ev (fun n => spec_l2Affixes.l1 n l (i : Int) (k : Int)) r := by
  induction d with
  | zero =>
    intro k hk _ yes
    exact Ev.step (fun n => spec_l2Affixes.l1.eq_2 _ _ _ _) (evNeg (by omega) (yes rfl))
  | succ d ih =>
    intro k hk no yes
    simp only [dup] at no yes
    refine Ev.step (fun n => spec_l2Affixes.l1.eq_2 _ _ _ _) (evPos (by omega) (evPos (by omega) (evPos (by omega) (evPos (by omega) (evPos (by omega) ?_)))))
    rw [w64 (n := (k : Int) + 1) (by omega) (by omega)]
    cases e : eqA (rd_T98 l (k : Int)) (rd_T98 l (i : Int)) with
    | true =>
      rw [e] at no
      exact evPos e (evTo (Ev.now _) (no rfl).symm)
    | false =>
      rw [e] at no yes
      simp only [Bool.false_or] at no yes
      exact evNeg (fun h => by have h' : eqA (rd_T98 l (k : Int)) (rd_T98 l (i : Int)) = true := h; rw [e] at h'; cases h') (ih (k + 1) (by omega) no yes)
theorem affs_spec_loop (l : List Af) (hl : l.length ≤ 1048576) (hs : AfSz l) (d : Nat) : ∀ i : Nat, i + d = l.length → Ev (fun n => spec_l2Affixes.l0 n l (i : Int)) (affGo l d i && decide (l.length ≤ 8)) := by
  induction d with
  | zero =>
    intro i hi
    refine Ev.step (fun n => spec_l2Affixes.l0.eq_2 _ _ _) (evNeg (by omega) (evTo (Ev.now _) ?_))
    simp only [affGo, Bool.true_and]
    exact decide_eq_decide.2 (by omega)
  | succ d ih =>
    intro i hi
    have h := af_at hs i (by omega)
    refine Ev.step (fun n => spec_l2Affixes.l0.eq_2 _ _ _) (evPos (by omega) (evPos (by omega) (Ev.bind (affixOk_spec _ _ _ _ _ (by omega) (by omega) (by omega)) ?_)))
    simp only [affGo]
    cases e : affOk (rd_T98 l (i : Int)).f0 (rd_T98 l (i : Int)).f1 (rd_T98 l (i : Int)).f2 (rd_T98 l (i : Int)).f3 (rd_T98 l (i : Int)).f4 with
    | false => exact evNeg (by simp) (evTo (Ev.now _) (by simp))
    | true =>
      refine evPos rfl (dup_spec_loop l hl i (by omega) i 0 (by omega) (fun hd => ?_) (fun hd => ?_))
      · have hd' : dup l (i : Int) (i : Int).toNat 0 = true := hd
        rw [hd']
        simp
      · have hd' : dup l (i : Int) (i : Int).toNat 0 = false := hd
        rw [hd', w64 (n := (i : Int) + 1) (by omega) (by omega)]
        exact evTo (ih (i + 1) (by omega)) (by simp)
theorem affs_spec (l : List Af) (hl : l.length ≤ 1048576) (hs : AfSz l) : Ev (fun n => spec_l2Affixes.f n l) (affsB l) := affs_spec_loop l hl hs l.length 0 (by omega)
theorem dup_impl_loop (l q : List Af) (hl : l.length ≤ 1048576) (i : Nat) (hq : q = l.take i) (hi : i < l.length) (d : Nat) : ∀ k : Nat, k + d = i → ∃ v : Int, Ev (fun n => impl_Affix_146.l0 n q (q.length : Int) (k : Int) (rd_T98 l (i : Int)).f0 (rd_T98 l (i : Int)).f1 (rd_T98 l (i : Int)).f2 (rd_T98 l (i : Int)).f3 (rd_T98 l (i : Int)).f4) v ∧ decide (v ≥ 0) = dup l i d k := by
  have hql : q.length = i := by rw [hq, List.length_take]; omega
  induction d with
  | zero =>
    intro k hk
    exact ⟨-1, Ev.step (fun n => impl_Affix_146.l0.eq_2 _ _ _ _ _ _ _ _ _) (evNeg (by omega) (Ev.now _)), rfl⟩
  | succ d ih =>
    intro k hk
    have hat : rd_T98 q (k : Int) = rd_T98 l (k : Int) := by
      simp only [rd_T98, List.getD_eq_getElem?_getD, Int.toNat_natCast]
      rw [hq, List.getElem?_take_of_lt (by omega)]
    simp only [dup]
    cases e : eqA (rd_T98 l (k : Int)) (rd_T98 l (i : Int)) with
    | true =>
      have e' : eqA (rd_T98 l (i : Int)) (rd_T98 l (k : Int)) = true := by rw [eqA_comm]; exact e
      refine ⟨k, Ev.step (fun n => impl_Affix_146.l0.eq_2 _ _ _ _ _ _ _ _ _) (evPos (by omega) (evPos (by omega) (evPos (by omega) ?_))), by simp⟩
      rw [hat]
      exact evPos e' (Ev.now _)
    | false =>
      have e' : eqA (rd_T98 l (i : Int)) (rd_T98 l (k : Int)) = false := by rw [eqA_comm]; exact e
      obtain ⟨v, h1, h2⟩ := ih (k + 1) (by omega)
      refine ⟨v, Ev.step (fun n => impl_Affix_146.l0.eq_2 _ _ _ _ _ _ _ _ _) (evPos (by omega) (evPos (by omega) (evPos (by omega) ?_))), by rw [Bool.false_or]; exact h2⟩
      rw [hat, w64 (n := (k : Int) + 1) (by omega) (by omega)]
      exact evNeg (fun h => by have h' : eqA (rd_T98 l (i : Int)) (rd_T98 l (k : Int)) = true := h; rw [e'] at h'; cases h') h1
theorem affs_impl_loop (l : List Af) (hl : l.length ≤ 1048576) (hs : AfSz l) (d : Nat) : ∀ i : Nat, i + d = l.length → Ev (fun n => impl_affixesOk.l0 n l l (l.length : Int) (i : Int)) (affGo l d i && decide (l.length ≤ 8)) := by
  induction d with
  | zero =>
    intro i hi
    refine Ev.step (fun n => impl_affixesOk.l0.eq_2 _ _ _ _ _) (evNeg (by omega) (evTo (Ev.now _) ?_))
    simp only [affGo, Bool.true_and]
    exact decide_eq_decide.2 (by omega)
  | succ d ih =>
    intro i hi
    have h := af_at hs i (by omega)
    refine Ev.step (fun n => impl_affixesOk.l0.eq_2 _ _ _ _ _) (evPos (by omega) (evPos (by omega) (evPos (by omega) (Ev.bind (affixOk_impl _ _ _ _ _ (by omega) (by omega) (by omega)) ?_))))
    simp only [affGo]
    cases e : affOk (rd_T98 l (i : Int)).f0 (rd_T98 l (i : Int)).f1 (rd_T98 l (i : Int)).f2 (rd_T98 l (i : Int)).f3 (rd_T98 l (i : Int)).f4 with
    | false => exact evNeg (by simp) (evTo (Ev.now _) (by simp))
    | true =>
      obtain ⟨v, h1, h2⟩ := dup_impl_loop l (l.take i) hl i rfl (by omega) i 0 (by omega)
      have hd : Ev (fun n => impl_Affix_116.f n (l.take (i : Int).toNat) (rd_T98 l (i : Int)).f0 (rd_T98 l (i : Int)).f1 (rd_T98 l (i : Int)).f2 (rd_T98 l (i : Int)).f3 (rd_T98 l (i : Int)).f4) (dup l (i : Int) (i : Int).toNat 0) := Ev.bind h1 (evTo (Ev.now _) h2)
      refine evPos rfl (evPos (by omega) (Ev.bind hd ?_))
      rw [w64 (n := (i : Int) + 1) (by omega) (by omega)]
      cases dup l (i : Int) (i : Int).toNat 0 with
      | true => exact evPos rfl (evTo (Ev.now _) (by simp))
      | false => exact evNeg (by simp) (evTo (ih (i + 1) (by omega)) (by simp))
theorem affs_impl (l : List Af) (hl : l.length ≤ 1048576) (hs : AfSz l) : Ev (fun n => impl_affixesOk.f n l) (affsB l) := affs_impl_loop l hl hs l.length 0 (by omega)
theorem l1Word_spec (s : ByteArray) (h : s.size ≤ 140737488351232) : Ev (fun k => spec_l1Word.f k s) (wordB s) := by
  unfold spec_l1Word.f
  by_cases c : (s.size : Int) > 0
  · have hp : 0 < s.size := by omega
    refine evPos c (Ev.bind (letters_spec s 12 h) (evTo (Ev.now _) ?_))
    simp only [wordB, wordL, bytesOf_length, decide_eq_true hp, Bool.true_and]
    rw [Bool.and_comm]
    congr 1
    exact decide_eq_decide.2 (by omega)
  · exact evNeg c (evTo (Ev.now _) (wordB_no (by omega)).symm)
theorem l1Word_spec' (s : ByteArray) (h : s.size ≤ 281474976710656) : Ev (fun k => spec_l1Word.f k s) (wordB s) := by
  by_cases c : s.size ≤ 140737488351232
  · exact l1Word_spec s c
  unfold spec_l1Word.f
  refine evPos (by omega) (Ev.bind (letters_wide s 12 h) (evTo (Ev.now _) ?_))
  rw [wordB_no (by omega), decide_eq_false (by omega), Bool.and_false]
theorem within_impl (n a b : Int) : impl_within.f n a b = some (decide (a ≤ n) && decide (n ≤ b)) := by
  unfold impl_within.f
  by_cases c : n ≥ a
  · rw [if_pos c]; simp [c]
  · rw [if_neg c]; simp; omega
theorem word_impl (s : ByteArray) (h : s.size ≤ 140737488351232) : Ev (fun k => impl_WordOk.f k s) (wordB s) := by
  unfold impl_WordOk.f
  refine evCall (within_impl _ _ _) ?_
  by_cases c : (1 ≤ (s.size : Int) ∧ (s.size : Int) ≤ 12)
  · have hp : 0 < s.size := by omega
    have hq : s.size ≤ 12 := by omega
    refine evPos (by simp; omega) (Ev.bind (lower_impl s h) (evTo (Ev.now _) ?_))
    simp only [wordB, wordL, bytesOf_length, decide_eq_true hp, decide_eq_true hq, Bool.true_and]
  · exact evNeg (by simp; omega) (evTo (Ev.now _) (wordB_no (by omega)).symm)
theorem word_impl' (s : ByteArray) (h : s.size ≤ 281474976710656) : Ev (fun k => impl_WordOk.f k s) (wordB s) := by
  by_cases c : s.size ≤ 140737488351232
  · exact word_impl s c
  · unfold impl_WordOk.f
    refine evCall (within_impl _ _ _) ?_
    exact evNeg (by simp; omega) (evTo (Ev.now _) (wordB_no (by omega)).symm)
theorem bt_extract0 (s : ByteArray) (i : Nat) (h : i < s.size) : bt (s.extract i (i + 1)) 0 = bt s i := by
  have hs : (s.extract i (i + 1)).size = 1 := by rw [size_extract s i (i + 1) (by omega) (by omega)]; omega
  have h1 := bytes_drop (s.extract i (i + 1)) 0 (by omega) (by omega)
  have h2 := bytes_drop s i (by omega) (by omega)
  rw [bytes_extract] at h1
  have h2' : (bytesOf s).drop i = bt s i :: (bytesOf s).drop ((i : Int) + 1).toNat := by simpa using h2
  rw [h2', show i + 1 - i = 1 from by omega] at h1
  simp only [List.take_succ_cons, List.take_zero] at h1
  have := congrArg List.head? h1
  simpa using this.symm
theorem flag_extract (s : ByteArray) (i : Nat) (h : i < s.size) : flagB (s.extract i (i + 1)) = (decide (65 ≤ bt s i) && decide (bt s i ≤ 90)) := by
  have hs : (s.extract i (i + 1)).size = 1 := by rw [size_extract s i (i + 1) (by omega) (by omega)]; omega
  unfold flagB
  rw [hs, bt_extract0 s i h]
  simp
def flGo (s : ByteArray) : Nat → Int → Bool
  | 0, _ => true
  | d + 1, i => (decide (65 ≤ bt s i) && decide (bt s i ≤ 90)) && (if i > 0 then decide (bt s (i - 1) < bt s i) else true) && flGo s d (i + 1)
def entB (w f : ByteArray) : Bool := flGo f f.size 0 && (wordB w && decide (f.size ≤ 4))
theorem ent_spec_loop (w f : ByteArray) (hw : w.size ≤ 1048576) (hf : f.size ≤ 1048576) (d : Nat) : ∀ i : Nat, i + d = f.size → Ev (fun k => spec_l2Entry.l0 k (i : Int) w f) (flGo f d i && (wordB w && decide (f.size ≤ 4))) := by
  induction d with
  | zero =>
    intro i hi
    refine Ev.step (fun k => spec_l2Entry.l0.eq_2 _ _ _ _) (evNeg (by omega) (Ev.bind (l1Word_spec w (by omega)) ?_))
    simp only [flGo, Bool.true_and]
    cases wordB w with
    | false => exact evNeg (by simp) (Ev.now _)
    | true => exact evPos rfl (evTo (Ev.now _) (by rw [Bool.true_and]; exact decide_eq_decide.2 (by omega)))
  | succ d ih =>
    intro i hi
    refine Ev.step (fun k => spec_l2Entry.l0.eq_2 _ _ _ _) ?_
    rw [w64 (n := (i : Int) + 1) (by omega) (by omega)]
    refine evPos (by omega) (evPos (by omega) (evPos (by omega) (evPos (by omega) (evCall (flag_spec _) ?_))))
    rw [show ((i : Int) + 1).toNat = i + 1 from by omega, Int.toNat_natCast, flag_extract f i (by omega)]
    simp only [flGo]
    have next := ih (i + 1) (by omega)
    cases e : (decide (65 ≤ bt f i) && decide (bt f i ≤ 90)) with
    | false => exact evNeg (by simp) (evTo (Ev.now _) (by simp))
    | true =>
      refine evPos rfl ?_
      by_cases c : (i : Int) > 0
      · rw [w64 (n := (i : Int) - 1) (by omega) (by omega), if_pos c]
        refine evPos c (evPos (by omega) (evPos (by omega) ?_))
        by_cases g : bt f ((i : Int) - 1) ≥ bt f i
        · rw [decide_eq_false (show ¬ bt f ((i : Int) - 1) < bt f i from by omega)]
          exact evPos g (evTo (Ev.now _) (by simp))
        · rw [decide_eq_true (show bt f ((i : Int) - 1) < bt f i from by omega)]
          exact evNeg g (evTo next (by simp))
      · rw [if_neg c]
        exact evNeg c (evTo next (by simp))
theorem ent_spec (w f : ByteArray) (hw : w.size ≤ 1048576) (hf : f.size ≤ 1048576) : Ev (fun k => spec_l2Entry.f k w f) (entB w f) := ent_spec_loop w f hw hf f.size 0 (by omega)
theorem ent_impl_loop (w f : ByteArray) (hw : w.size ≤ 1048576) (hf : f.size ≤ 1048576) (d : Nat) : ∀ i : Nat, i + d = f.size → Ev (fun k => impl_entryOk.l0 k (f.size : Int) (i : Int) w f) (flGo f d i && (wordB w && decide (f.size ≤ 4))) := by
  induction d with
  | zero =>
    intro i hi
    refine Ev.step (fun k => impl_entryOk.l0.eq_2 _ _ _ _ _) (evNeg (by omega) (Ev.bind (word_impl w (by omega)) ?_))
    simp only [flGo, Bool.true_and]
    cases wordB w with
    | false => exact evNeg (by simp) (Ev.now _)
    | true => exact evPos rfl (evTo (Ev.now _) (by rw [Bool.true_and]; exact decide_eq_decide.2 (by omega)))
  | succ d ih =>
    intro i hi
    refine Ev.step (fun k => impl_entryOk.l0.eq_2 _ _ _ _ _) ?_
    rw [w64 (n := (i : Int) + 1) (by omega) (by omega)]
    refine evPos (by omega) (evPos (by omega) (evPos (by omega) (evCall (upper_impl _) ?_)))
    simp only [flGo]
    have next := ih (i + 1) (by omega)
    cases e : (decide (65 ≤ bt f i) && decide (bt f i ≤ 90)) with
    | false => exact evNeg (by simp) (evTo (Ev.now _) (by simp))
    | true =>
      refine evPos rfl ?_
      by_cases c : (i : Int) > 0
      · rw [w64 (n := (i : Int) - 1) (by omega) (by omega), if_pos c]
        refine evPos c (evPos (by omega) (evPos (by omega) ?_))
        by_cases g : bt f ((i : Int) - 1) ≥ bt f i
        · rw [decide_eq_false (show ¬ bt f ((i : Int) - 1) < bt f i from by omega)]
          exact evPos g (evTo (Ev.now _) (by simp))
        · rw [decide_eq_true (show bt f ((i : Int) - 1) < bt f i from by omega)]
          exact evNeg g (evTo next (by simp))
      · rw [if_neg c]
        exact evNeg c (evTo next (by simp))
theorem ent_impl (w f : ByteArray) (hw : w.size ≤ 1048576) (hf : f.size ≤ 1048576) : Ev (fun k => impl_entryOk.f k w f) (entB w f) := ent_impl_loop w f hw hf f.size 0 (by omega)
theorem szEntry_ev (a b : ByteArray) (n : Int) (h0 : 0 ≤ n) (h1 : n ≤ 1048576) (z : a.size ≤ 9223372036854775807 ∧ b.size ≤ 9223372036854775807) : ∃ m, laws_szEntry.f a b n = some m ∧ (m < 0 ∨ (0 ≤ m ∧ m = n - a.size - b.size)) := by
  obtain ⟨z0, z1⟩ := z
  unfold laws_szEntry.f
  rw [w64 (n := n - (a.size : Int)) (by omega) (by omega)]
  by_cases c0 : n - (a.size : Int) < 0
  · exact ⟨-1, if_pos c0, .inl (by omega)⟩
  rw [if_neg c0, w64 (n := n - (a.size : Int) - (b.size : Int)) (by omega) (by omega)]
  by_cases c1 : n - (a.size : Int) - (b.size : Int) < 0
  · exact ⟨-1, if_pos c1, .inl (by omega)⟩
  · exact ⟨_, if_neg c1, .inr ⟨by omega, rfl⟩⟩
abbrev LEn := S129
abbrev En := S90
def cvN (e : LEn) : En := ⟨e.f0, e.f1⟩
theorem toEntry_loop (l : List LEn) (hl : l.length ≤ 10000000) (d : Nat) : ∀ (i : Nat) (y : List En), i + d = l.length → y.length = l.length → (∀ j : Nat, j < i → y[j]? = (l.map cvN)[j]?) → Ev (fun k => laws_toEntryS.l0 k l y (i : Int)) (l.map cvN) := by
  induction d with
  | zero =>
    intro i y hi hy h
    exact Ev.step (fun k => laws_toEntryS.l0.eq_2 _ _ _ _) (evNeg (by omega) (evTo (Ev.now _) (fill_end hy (fun j hj => h j (by omega)))))
  | succ d ih =>
    intro i y hi hy h
    obtain ⟨h1, h2⟩ := fill_step (f := cvN) z129 hy h (by omega)
    refine Ev.step (fun k => laws_toEntryS.l0.eq_2 _ _ _ _) (evPos (by omega) (evPos (by omega) (evCall rfl (evPos (by omega) ?_))))
    rw [w64 (by omega) (by omega)]
    exact ih (i + 1) _ (by omega) h1 h2
theorem toEntrys_ev (l : List LEn) (hl : l.length ≤ 10000000) : Ev (fun k => laws_toEntryS.f k l) (l.map cvN) := by
  unfold laws_toEntryS.f
  exact evPos (by omega) (evPos (by omega) (toEntry_loop l hl l.length 0 _ (by omega) (by simp) (fun j hj => absurd hj (by omega))))
theorem eqEntry_loop (l : List En) (hl : l.length ≤ 10000000) (d : Nat) : ∀ i : Nat, i + d = l.length → Ev (fun k => laws_eqEntryS.l0 k l l (i : Int)) true := by
  induction d with
  | zero =>
    intro i hi
    exact Ev.step (fun k => laws_eqEntryS.l0.eq_2 _ _ _ _) (evNeg (by omega) (Ev.now _))
  | succ d ih =>
    intro i hi
    refine Ev.step (fun k => laws_eqEntryS.l0.eq_2 _ _ _ _) (evPos (by omega) (evPos (by omega) (evPos (by omega) (evCall (a := true) (by simp [laws_eqEntry.f]) (evPos rfl ?_)))))
    rw [w64 (by omega) (by omega)]
    exact ih (i + 1) (by omega)
theorem eqEntrys_ev (l : List En) (hl : l.length ≤ 10000000) : Ev (fun k => laws_eqEntryS.f k l l) true := by
  unfold laws_eqEntryS.f
  exact evPos rfl (eqEntry_loop l hl l.length 0 (by omega))
theorem szEntrys_loop (l : List LEn) (hl : l.length ≤ 10000000) (he : ∀ s ∈ l, (s.f0.size ≤ 9223372036854775807 ∧ s.f1.size ≤ 9223372036854775807)) (d : Nat) : ∀ (i : Nat) (n : Int), i + d = l.length → 0 ≤ n → n ≤ 1048576 → ∃ m, Ev (fun k => laws_szEntryS.l0 k l n (i : Int)) m ∧ (m < 0 ∨ (0 ≤ m ∧ m ≤ 1048576 ∧ ∀ s ∈ l.drop i, (s.f0.size ≤ 1048576 ∧ s.f1.size ≤ 1048576))) := by
  induction d with
  | zero =>
    intro i n hi h0 h1
    exact ⟨n, Ev.step (fun k => laws_szEntryS.l0.eq_2 _ _ _ _) (evNeg (by omega) (Ev.now _)), .inr ⟨h0, h1, fun s hs => by rw [List.drop_eq_nil_of_le (by omega)] at hs; cases hs⟩⟩
  | succ d ih =>
    intro i n hi h0 h1
    have hlt : i < l.length := by omega
    have e : rd_T129 l (i : Int) = l[i] := by simp [rd_T129, List.getD_eq_getElem?_getD, hlt]
    have hw := he _ (List.getElem_mem hlt)
    obtain ⟨m, hm, hz⟩ := szEntry_ev l[i].f0 l[i].f1 n h0 h1 hw
    by_cases c : m < 0
    · refine ⟨-1, Ev.step (fun k => laws_szEntryS.l0.eq_2 _ _ _ _) (evPos (by omega) (evPos (by omega) ?_)), .inl (by omega)⟩
      rw [e]
      exact evCall hm (evPos c (Ev.now _))
    · have hz' := hz.resolve_left c
      obtain ⟨q, hq, hr⟩ := ih (i + 1) m (by omega) (by omega) (by omega)
      refine ⟨q, Ev.step (fun k => laws_szEntryS.l0.eq_2 _ _ _ _) (evPos (by omega) (evPos (by omega) ?_)), hr.elim .inl (fun h => .inr ⟨h.1, h.2.1, fun s hs => ?_⟩)⟩
      · rw [e]
        refine evCall hm (evNeg c ?_)
        rw [w64 (by omega) (by omega)]
        exact hq
      · rw [List.drop_eq_getElem_cons hlt] at hs
        rcases List.mem_cons.1 hs with rfl | hs
        · omega
        · exact h.2.2 s hs
theorem szEntrys_ev (l : List LEn) (n : Int) (h0 : 0 ≤ n) (h1 : n ≤ 1048576) (hl : l.length ≤ 9223372036854775807) (he : ∀ s ∈ l, (s.f0.size ≤ 9223372036854775807 ∧ s.f1.size ≤ 9223372036854775807)) :
    ∃ m, Ev (fun k => laws_szEntryS.f k l n) m ∧ (m < 0 ∨ (0 ≤ m ∧ m ≤ 1048576 ∧ l.length ≤ 1048576 ∧ ∀ s ∈ l, (s.f0.size ≤ 1048576 ∧ s.f1.size ≤ 1048576))) := by
  unfold laws_szEntryS.f
  rw [w64 (n := n - (l.length : Int)) (by omega) (by omega)]
  by_cases c : n - (l.length : Int) < 0
  · exact ⟨-1, evPos c (Ev.now _), .inl (by omega)⟩
  · obtain ⟨m, hm, hz⟩ := szEntrys_loop l (by omega) he l.length 0 (n - l.length) (by omega) (by omega) (by omega)
    exact ⟨m, evNeg c hm, hz.elim .inl (fun h => .inr ⟨h.1, h.2.1, by omega, by simpa using h.2.2⟩)⟩
def entGo (l : List En) : Nat → Int → Bool
  | 0, _ => true
  | d + 1, i => entB (rd_T90 l i).f0 (rd_T90 l i).f1 && (if i > 0 then Op.bytesLess (rd_T90 l (i - 1)).f0.toList (rd_T90 l i).f0.toList else true) && entGo l d (i + 1)
def entsB (l : List En) : Bool := entGo l l.length 0 && decide (l.length ≤ 24)
theorem en_at {P : En → Prop} {l : List En} (h : ∀ s ∈ l, P s) (i : Nat) (hi : i < l.length) : P (rd_T90 l (i : Int)) := by
  have e : rd_T90 l (i : Int) = l[i] := by simp [rd_T90, List.getD_eq_getElem?_getD, hi]
  rw [e]
  exact h _ (List.getElem_mem hi)
theorem ents_spec_loop (A : List Af) (l : List En) (hl : l.length ≤ 1048576) (he : ∀ s ∈ l, (s.f0.size ≤ 1048576 ∧ s.f1.size ≤ 1048576)) {r : Bool} (no : entGo l l.length 0 = false → r = false) (d : Nat) : ∀ i : Nat, i + d = l.length → (entGo l d i = false → r = false) →
    (entGo l d i = true → Ev (fun k => (spec_l2Affixes.f k A).bind fun t130 => (if t130 = true then (some (decide ((l.length : Int) ≤ 24))) else (some false))) r) → Ev (fun k => spec_BookOk.l0 k (i : Int) A l) r := by
  induction d with
  | zero =>
    intro i hi _ yes
    exact Ev.step (fun k => spec_BookOk.l0.eq_2 _ _ _ _) (evNeg (by omega) (yes rfl))
  | succ d ih =>
    intro i hi no' yes
    have hs := en_at he i (by omega)
    simp only [entGo] at no' yes
    refine Ev.step (fun k => spec_BookOk.l0.eq_2 _ _ _ _) (evPos (by omega) (evPos (by omega) (Ev.bind (ent_spec _ _ hs.1 hs.2) ?_)))
    rw [w64 (n := (i : Int) + 1) (by omega) (by omega)]
    have next := ih (i + 1) (by omega)
    cases e : entB (rd_T90 l (i : Int)).f0 (rd_T90 l (i : Int)).f1 with
    | false =>
      rw [e] at no'
      exact evNeg (by simp) (evTo (Ev.now _) (no' (by simp)).symm)
    | true =>
      rw [e] at no' yes
      refine evPos rfl ?_
      by_cases c : (i : Int) > 0
      · rw [w64 (n := (i : Int) - 1) (by omega) (by omega)]
        rw [if_pos c] at no' yes
        refine evPos c (evPos (by omega) (evPos (by omega) ?_))
        cases g : Op.bytesLess (rd_T90 l ((i : Int) - 1)).f0.toList (rd_T90 l (i : Int)).f0.toList with
        | false =>
          rw [g] at no'
          exact evNeg (by simp) (evTo (Ev.now _) (no' (by simp)).symm)
        | true =>
          rw [g] at no' yes
          simp only [Bool.true_and] at no' yes
          exact evPos rfl (next no' yes)
      · rw [if_neg c] at no' yes
        simp only [Bool.true_and] at no' yes
        exact evNeg c (next no' yes)
theorem ents_impl_loop (l : List En) (hl : l.length ≤ 1048576) (he : ∀ s ∈ l, (s.f0.size ≤ 1048576 ∧ s.f1.size ≤ 1048576)) (d : Nat) : ∀ i : Nat, i + d = l.length → Ev (fun k => impl_entriesOk.l0 k l l (l.length : Int) (i : Int)) (entGo l d i && decide (l.length ≤ 24)) := by
  induction d with
  | zero =>
    intro i hi
    refine Ev.step (fun k => impl_entriesOk.l0.eq_2 _ _ _ _ _) (evNeg (by omega) (evTo (Ev.now _) ?_))
    simp only [entGo, Bool.true_and]
    exact decide_eq_decide.2 (by omega)
  | succ d ih =>
    intro i hi
    have hs := en_at he i (by omega)
    refine Ev.step (fun k => impl_entriesOk.l0.eq_2 _ _ _ _ _) (evPos (by omega) (evPos (by omega) (evPos (by omega) (Ev.bind (ent_impl _ _ hs.1 hs.2) ?_))))
    rw [w64 (n := (i : Int) + 1) (by omega) (by omega)]
    have next := ih (i + 1) (by omega)
    simp only [entGo]
    cases e : entB (rd_T90 l (i : Int)).f0 (rd_T90 l (i : Int)).f1 with
    | false => exact evNeg (by simp) (evTo (Ev.now _) (by simp))
    | true =>
      refine evPos rfl ?_
      by_cases c : (i : Int) > 0
      · rw [w64 (n := (i : Int) - 1) (by omega) (by omega), if_pos c]
        refine evPos c (evPos (by omega) (evPos (by omega) ?_))
        cases g : Op.bytesLess (rd_T90 l ((i : Int) - 1)).f0.toList (rd_T90 l (i : Int)).f0.toList with
        | false => exact evNeg (by simp) (evTo (Ev.now _) (by simp))
        | true => exact evPos rfl (evTo next (by simp))
      · rw [if_neg c]
        exact evNeg c (evTo next (by simp))
abbrev bkWf (A : List LAf) (E : List LEn) : Prop := (A.length ≤ 9223372036854775807 ∧ ∀ y1 ∈ A, (y1.f0.size ≤ 9223372036854775807 ∧ (True ∧ (y1.f2.size ≤ 9223372036854775807 ∧ (y1.f3.size ≤ 9223372036854775807 ∧ y1.f4.size ≤ 9223372036854775807))))) ∧ (E.length ≤ 9223372036854775807 ∧ ∀ y2 ∈ E, (y2.f0.size ≤ 9223372036854775807 ∧ y2.f1.size ≤ 9223372036854775807))
structure BkSz (A : List Af) (E : List En) : Prop where
  la : A.length ≤ 1048576
  le : E.length ≤ 1048576
  a : ∀ s ∈ A, (s.f0.size ≤ 1048576 ∧ s.f2.size ≤ 1048576 ∧ s.f3.size ≤ 1048576 ∧ s.f4.size ≤ 1048576)
  e : ∀ s ∈ E, (s.f0.size ≤ 1048576 ∧ s.f1.size ≤ 1048576)
def bookB (A : List Af) (E : List En) : Bool := affsB A && entsB E
theorem bookOk_spec (A : List Af) (E : List En) (h : BkSz A E) : Ev (fun n => spec_BookOk.f n A E) (bookB A E) := by
  refine ents_spec_loop A E h.le h.e (fun hf => by simp [bookB, entsB, hf]) E.length 0 (by omega) (fun hf => ?_) (fun ht => ?_)
  · have hf' : entGo E E.length 0 = false := hf
    simp [bookB, entsB, hf']
  · have ht' : entGo E E.length 0 = true := ht
    refine Ev.bind (affs_spec A h.la h.a) ?_
    simp only [bookB, entsB, ht', Bool.true_and]
    cases affsB A with
    | false => exact evNeg (by simp) (evTo (Ev.now _) (by simp))
    | true => exact evPos rfl (evTo (Ev.now _) (by rw [Bool.true_and]; exact decide_eq_decide.2 (by omega)))
theorem szBook_ev (A : List LAf) (E : List LEn) (n : Int) (h0 : 0 ≤ n) (h1 : n ≤ 1048576) (z : bkWf A E) : ∃ m, Ev (fun k => laws_szBook.f k A E n) m ∧ (m < 0 ∨ (0 ≤ m ∧ m ≤ 1048576 ∧ BkSz (A.map cvA) (E.map cvN))) := by
  unfold laws_szBook.f
  obtain ⟨m, hm, hz⟩ := szAffixs_ev A n h0 h1 z.1.1 z.1.2
  by_cases c : m < 0
  · exact ⟨-1, Ev.bind hm (evPos c (Ev.now _)), .inl (by omega)⟩
  have ha := hz.resolve_left c
  obtain ⟨q, hq, hy⟩ := szEntrys_ev E m ha.1 ha.2.1 z.2.1 z.2.2
  by_cases d : q < 0
  · exact ⟨-1, Ev.bind hm (evNeg c (Ev.bind hq (evPos d (Ev.now _)))), .inl (by omega)⟩
  have hb := hy.resolve_left d
  refine ⟨q, Ev.bind hm (evNeg c (Ev.bind hq (evNeg d (Ev.now _)))), .inr ⟨hb.1, hb.2.1, by simpa using ha.2.2.1, by simpa using hb.2.2.1, fun s hs => ?_, fun s hs => ?_⟩⟩
  · obtain ⟨t, ht, rfl⟩ := List.mem_map.1 hs
    exact ha.2.2.2 t ht
  · obtain ⟨t, ht, rfl⟩ := List.mem_map.1 hs
    exact hb.2.2.2 t ht
theorem toBook_ev (A : List LAf) (E : List LEn) (h : BkSz (A.map cvA) (E.map cvN)) : Ev (fun k => laws_toBook.f k A E) (A.map cvA, E.map cvN) := by
  unfold laws_toBook.f
  have h1 := h.la
  have h2 := h.le
  rw [List.length_map] at h1 h2
  exact Ev.bind (toAffixs_ev A (by omega)) (Ev.bind (toEntrys_ev E (by omega)) (Ev.now _))
theorem eqBook_ev (A : List Af) (E : List En) (h : BkSz A E) : Ev (fun k => laws_eqBook.f k A E A E) true := by
  unfold laws_eqBook.f
  have h1 := h.la
  have h2 := h.le
  exact Ev.bind (eqAffixs_ev A (by omega)) (evPos rfl (Ev.bind (eqEntrys_ev E (by omega)) (evPos rfl (Ev.now _))))
theorem bookOk_impl (A : List Af) (E : List En) (h : BkSz A E) : Ev (fun n => impl_BookOk.f n A E) (bookB A E) := by
  unfold impl_BookOk.f
  refine Ev.bind (affs_impl A h.la h.a) ?_
  simp only [bookB]
  cases affsB A with
  | false => exact evNeg (by simp) (evTo (Ev.now _) (by simp))
  | true => exact evPos rfl (Ev.bind (ents_impl_loop E h.le h.e E.length 0 (by omega)) (evTo (Ev.now _) (by rw [Bool.true_and]; rfl)))
theorem FnExactBookOk (A : List LAf) (E : List LEn) (z : bkWf A E) : ∃ k, laws_FnExactBookOk.f k A E = some true := by
  refine Ev.rounds ?_
  unfold laws_FnExactBookOk.f
  obtain ⟨m, hm, hz⟩ := szBook_ev A E 1048576 (by omega) (by omega) z
  refine Ev.bind hm ?_
  by_cases c : m < 0
  · exact evPos c (Ev.now _)
  have h := (hz.resolve_left c).2.2
  have ht := toBook_ev A E h
  refine evNeg c ?_
  exact Ev.bind ht (Ev.bind (bookOk_spec _ _ h) (Ev.bind ht (Ev.bind (bookOk_impl _ _ h) (evNeg (by simp) (Ev.bind ht (Ev.bind (eqBook_ev _ _ h) (evPos rfl (Ev.now _))))))))
end Go.Proofs.Ytnljgfaomabkbaa.Pure

/- AffixOk answers as the reference, of every affix. No condition. -/
import Derived.Test.YteddmcaljongeaaPFnExactAffixOkx2
import Derived.Test.YteddmcaljongeaaMBas
import Derived.Test.YteddmcaljongeaaMStr
import Derived.Test.YteddmcaljongeaaMAff
namespace Go.Proofs.Yteddmcaljongeaa.Pure
open Go.RowKit Go.Proofs.Yteddmcaljongeaa.PFnExactAffixOk Go.Proofs.YteddmcaljongeaaW.PrintWords Go.Proofs.YteddmcaljongeaaW.PrintLast Go.Proofs.Yteddmcaljongeaa.M
theorem letters_loop (s : ByteArray) (m : Int) (h : s.size ≤ 281474976710656) (d : Nat) : ∀ i : Int, 0 ≤ i → i ≤ s.size → (s.size : Int) - i = d →
    Ev (fun k => spec_l1Letters.l0 k s m i) (((bytesOf s).drop i.toNat).all low && decide ((s.size : Int) ≤ m)) := by
  induction d with
  | zero =>
    intro i h0 h1 hd
    refine Ev.step (fun k => spec_l1Letters.l0.eq_2 _ _ _ _) (evNeg (by omega) ?_)
    rw [List.drop_eq_nil_of_le (by rw [bytesOf_length]; omega)]
    exact evTo (Ev.now _) (by simp)
  | succ d ih =>
    intro i h0 h1 hd
    refine Ev.step (fun k => spec_l1Letters.l0.eq_2 _ _ _ _) (evPos (by omega) (evPos h0 ?_))
    rw [bytes_drop s i h0 (by omega), List.all_cons]
    by_cases c : bt s i < 97
    · exact evPos c (evTo (Ev.now _) (by simp [low]; omega))
    refine evNeg c ?_
    by_cases c1 : bt s i > 122
    · exact evPos c1 (evTo (Ev.now _) (by simp [low]; omega))
    refine evNeg c1 ?_
    have e : low (bt s i) = true := (low_iff _).2 (by omega)
    rw [w64 (by omega) (by omega), e, Bool.true_and]
    exact ih (i + 1) (by omega) (by omega) (by omega)
theorem letters_spec (s : ByteArray) (m : Int) (h : s.size ≤ 140737488351232) : Ev (fun k => spec_l1Letters.f k s m) ((bytesOf s).all low && decide ((s.size : Int) ≤ m)) :=
  letters_loop s m (by omega) s.size 0 (by omega) (by omega) (by omega)
theorem letters_wide (s : ByteArray) (m : Int) (h : s.size ≤ 281474976710656) : Ev (fun k => spec_l1Letters.f k s m) ((bytesOf s).all low && decide ((s.size : Int) ≤ m)) :=
  letters_loop s m h s.size 0 (by omega) (by omega) (by omega)
theorem flag_spec (s : ByteArray) : spec_l2Flag.f s = some (flagB s) := by
  unfold spec_l2Flag.f
  by_cases c : (s.size : Int) = 1
  · rw [if_pos c, if_pos (by omega)]
    by_cases e : bt s 0 ≥ 65
    · rw [if_pos e]
      simp [flagB, e]
      omega
    · rw [if_neg e]
      simp [flagB, e]
  · rw [if_neg c]
    simp [flagB]
    omega
theorem begins_spec (s p : ByteArray) : spec_l2Begins.f s p = some (begB s p) := by
  unfold spec_l2Begins.f
  by_cases c : (s.size : Int) ≥ (p.size : Int)
  · rw [if_pos c, if_pos (by omega), if_pos (by omega), toList_beq]
    try rw [Int.toNat_natCast]
    simp [begB]
    omega
  · rw [if_neg c]
    simp [begB]
    omega
theorem ends_spec (s p : ByteArray) (h : s.size ≤ 1407374883512320) : spec_l2Ends.f s p = some (endB s p) := by
  unfold spec_l2Ends.f
  by_cases c : (s.size : Int) ≥ (p.size : Int)
  · rw [if_pos c, w64 (by omega) (by omega), if_pos (by omega), if_pos (by omega), toList_beq, show ((s.size : Int) - (p.size : Int)).toNat = s.size - p.size from by omega]
    simp [endB]
    omega
  · rw [if_neg c]
    simp [endB]
    omega
theorem letters4 (s : ByteArray) (h : s.size ≤ 140737488351232) : Ev (fun k => spec_l1Letters.f k s 4) (partB s) :=
  evTo (letters_spec s 4 h) (by
    unfold partB
    congr 1
    exact decide_eq_decide.2 (by omega))
theorem affixOk_spec (g : ByteArray) (fr : Bool) (st ad wh : ByteArray) (h1 : st.size ≤ 140737488351232) (h2 : ad.size ≤ 140737488351232) (h3 : wh.size ≤ 140737488351232) :
    Ev (fun k => spec_AffixOk.f k g fr st ad wh) (affOk g fr st ad wh) := by
  have no : ∀ r, r = false → Ev (fun k => spec_AffixOk.j0 k true g fr st ad wh) r := fun r hr => Ev.step (fun k => spec_AffixOk.j0.eq_2 _ _ _ _ _ _ _) (evPos rfl (evTo (Ev.now _) hr.symm))
  unfold spec_AffixOk.f
  refine evCall (flag_spec _) ?_
  cases e1 : flagB g with
  | false => exact evNeg (by simp) (no _ (by simp [affOk, e1]))
  | true =>
    refine evPos rfl (Ev.bind (letters4 st h1) ?_)
    cases e2 : partB st with
    | false => exact evNeg (by simp) (no _ (by simp [affOk, e2]))
    | true =>
      refine evPos rfl (Ev.bind (letters4 ad h2) ?_)
      cases e3 : partB ad with
      | false => exact evNeg (by simp) (no _ (by simp [affOk, e3]))
      | true =>
        refine evPos rfl (Ev.bind (letters4 wh h3) ?_)
        cases e4 : partB wh with
        | false => exact no _ (by simp [affOk, e4])
        | true =>
          refine Ev.step (fun k => spec_AffixOk.j0.eq_2 _ _ _ _ _ _ _) (evNeg (by simp) ?_)
          cases fr with
          | true => exact evPos rfl (evCall (begins_spec _ _) (evTo (Ev.now _) (by simp [affOk, e1, e2, e3, e4])))
          | false => exact evNeg (by simp) (evCall (ends_spec _ _ (by omega)) (evTo (Ev.now _) (by simp [affOk, e1, e2, e3, e4])))
theorem lower_loop (s : ByteArray) (h : s.size ≤ 140737488351232) (d : Nat) : ∀ i : Int, 0 ≤ i → i ≤ s.size → (s.size : Int) - i = d →
    Ev (fun k => impl_lower.l0 k s (s.size : Int) i) (((bytesOf s).drop i.toNat).all low) := by
  induction d with
  | zero =>
    intro i h0 h1 hd
    refine Ev.step (fun k => impl_lower.l0.eq_2 _ _ _ _) (evNeg (by omega) ?_)
    rw [List.drop_eq_nil_of_le (by rw [bytesOf_length]; omega)]
    exact evTo (Ev.now _) (by simp)
  | succ d ih =>
    intro i h0 h1 hd
    refine Ev.step (fun k => impl_lower.l0.eq_2 _ _ _ _) (evPos (by omega) (evPos h0 (evPos (by omega) ?_)))
    rw [bytes_drop s i h0 (by omega), List.all_cons]
    by_cases c : bt s i < 97
    · exact evPos c (evTo (Ev.now _) (by simp [low]; omega))
    refine evNeg c ?_
    by_cases c1 : bt s i > 122
    · exact evPos c1 (evTo (Ev.now _) (by simp [low]; omega))
    refine evNeg c1 ?_
    have e : low (bt s i) = true := (low_iff _).2 (by omega)
    rw [w64 (by omega) (by omega), e, Bool.true_and]
    exact ih (i + 1) (by omega) (by omega) (by omega)
theorem lower_impl (s : ByteArray) (h : s.size ≤ 140737488351232) : Ev (fun k => impl_lower.f k s) ((bytesOf s).all low) :=
  lower_loop s h s.size 0 (by omega) (by omega) (by omega)
theorem upper_impl (c : Int) : impl_upper.f c = some (decide (65 ≤ c) && decide (c ≤ 90)) := by
  unfold impl_upper.f
  by_cases e : c ≥ 65
  · rw [if_pos e]; simp [e]
  · rw [if_neg e]; simp; omega
theorem hasPrefix0 (s p : ByteArray) : stringslite_HasPrefix.f s p = some (begB s p) := begins_spec s p
theorem hasPrefix_lib (s p : ByteArray) : strings_HasPrefix.f s p = some (begB s p) := by
  unfold strings_HasPrefix.f
  rw [hasPrefix0]
  rfl
theorem hasSuffix0 (s p : ByteArray) (h : s.size ≤ 1407374883512320) : stringslite_HasSuffix.f s p = some (endB s p) := ends_spec s p h
theorem hasSuffix_lib (s p : ByteArray) (h : s.size ≤ 1407374883512320) : strings_HasSuffix.f s p = some (endB s p) := by
  unfold strings_HasSuffix.f
  rw [hasSuffix0 s p h]
  rfl
theorem parts_loop (g : ByteArray) (fr : Bool) (st ad wh : ByteArray) (l : List ByteArray) (hl : l.length ≤ 10) (hs : ∀ x ∈ l, x.size ≤ 140737488351232) (hw : wh.size ≤ 140737488351232) (d : Nat) : ∀ i : Int, 0 ≤ i → i ≤ l.length → (l.length : Int) - i = d →
    Ev (fun k => impl_AffixOk.l0 k l (l.length : Int) i g fr st ad wh) ((l.drop i.toNat).all partB && (if fr = true then begB wh st else endB wh st)) := by
  induction d with
  | zero =>
    intro i h0 h1 hd
    refine Ev.step (fun k => impl_AffixOk.l0.eq_2 _ _ _ _ _ _ _ _ _) (evNeg (by omega) ?_)
    rw [List.drop_eq_nil_of_le (by omega), List.all_nil, Bool.true_and]
    cases fr with
    | true => exact evPos rfl (evCall (hasPrefix_lib _ _) (Ev.now _))
    | false => exact evNeg (by simp) (evCall (hasSuffix_lib _ _ (by omega)) (Ev.now _))
  | succ d ih =>
    intro i h0 h1 hd
    have hi : i.toNat < l.length := by omega
    have hx : rdOf ByteArray.empty l i = l[i.toNat] := by simp [rdOf, List.getD_eq_getElem?_getD, List.getElem?_eq_getElem hi]
    have hm := hs _ (List.getElem_mem hi)
    refine Ev.step (fun k => impl_AffixOk.l0.eq_2 _ _ _ _ _ _ _ _ _) (evPos (by omega) (evPos h0 (evPos (by omega) ?_)))
    rw [hx, List.drop_eq_getElem_cons hi, List.all_cons]
    generalize l[i.toNat] = x at *
    by_cases c : (x.size : Int) > 4
    · refine evPos c (evTo (Ev.now _) ?_)
      have : partB x = false := by simp [partB]; omega
      rw [this]
      rfl
    · refine evNeg c (Ev.bind (lower_impl x hm) ?_)
      have hp : partB x = (bytesOf x).all low := by
        simp only [partB]
        rw [decide_eq_true (by omega), Bool.and_true]
      rw [hp]
      cases e : (bytesOf x).all low with
      | false => exact evNeg (by simp) (evTo (Ev.now _) (by simp))
      | true =>
        refine evPos rfl ?_
        rw [w64 (by omega) (by omega), Bool.true_and, show i.toNat + 1 = (i + 1).toNat from by omega]
        exact ih (i + 1) (by omega) (by omega) (by omega)
theorem affixOk_impl (g : ByteArray) (fr : Bool) (st ad wh : ByteArray) (h1 : st.size ≤ 140737488351232) (h2 : ad.size ≤ 140737488351232) (h3 : wh.size ≤ 140737488351232) :
    Ev (fun k => impl_AffixOk.f k g fr st ad wh) (affOk g fr st ad wh) := by
  unfold impl_AffixOk.f
  by_cases c : (g.size : Int) = 1
  · refine evPos c (evPos (by omega) (evCall (upper_impl _) ?_))
    have hf : flagB g = (decide (65 ≤ bt g 0) && decide (bt g 0 ≤ 90)) := by
      simp only [flagB]
      rw [decide_eq_true (by omega), Bool.true_and]
    rw [← hf]
    cases e : flagB g with
    | false => exact Ev.step (fun k => impl_AffixOk.j0.eq_2 _ _ _ _ _ _ _) (evPos rfl (evTo (Ev.now _) (by simp [affOk, e])))
    | true =>
      refine Ev.step (fun k => impl_AffixOk.j0.eq_2 _ _ _ _ _ _ _) (evNeg (by simp) (evCall rfl ?_))
      refine evTo (parts_loop g fr st ad wh [st, ad, wh] (by simp) (by
        intro x hx
        simp only [List.mem_cons, List.not_mem_nil, or_false] at hx
        rcases hx with rfl | rfl | rfl <;> assumption) h3 3 0 (by omega) (by simp) (by simp)) ?_
      simp [affOk, e, Bool.and_assoc]
  · refine evNeg c (Ev.step (fun k => impl_AffixOk.j0.eq_2 _ _ _ _ _ _ _) (evPos rfl (evTo (Ev.now _) ?_)))
    have : flagB g = false := by simp [flagB]; omega
    simp [affOk, this]
theorem szAffix_ev (g : ByteArray) (fr : Bool) (st ad wh : ByteArray) (n : Int) (h0 : 0 ≤ n) (h1 : n ≤ 1048576) (z : g.size ≤ 9223372036854775807 ∧ (True ∧ (st.size ≤ 9223372036854775807 ∧ (ad.size ≤ 9223372036854775807 ∧ wh.size ≤ 9223372036854775807)))) :
    ∃ m, laws_szAffix.f g fr st ad wh n = some m ∧ (m < 0 ∨ (0 ≤ m ∧ m = n - g.size - st.size - ad.size - wh.size)) := by
  obtain ⟨z0, _, z1, z2, z3⟩ := z
  unfold laws_szAffix.f
  rw [w64 (n := n - (g.size : Int)) (by omega) (by omega)]
  by_cases c0 : n - (g.size : Int) < 0
  · exact ⟨-1, if_pos c0, .inl (by omega)⟩
  rw [if_neg c0, w64 (n := n - (g.size : Int) - (st.size : Int)) (by omega) (by omega)]
  by_cases c1 : n - (g.size : Int) - (st.size : Int) < 0
  · exact ⟨-1, if_pos c1, .inl (by omega)⟩
  rw [if_neg c1, w64 (n := n - (g.size : Int) - (st.size : Int) - (ad.size : Int)) (by omega) (by omega)]
  by_cases c2 : n - (g.size : Int) - (st.size : Int) - (ad.size : Int) < 0
  · exact ⟨-1, if_pos c2, .inl (by omega)⟩
  rw [if_neg c2, w64 (n := n - (g.size : Int) - (st.size : Int) - (ad.size : Int) - (wh.size : Int)) (by omega) (by omega)]
  by_cases c3 : n - (g.size : Int) - (st.size : Int) - (ad.size : Int) - (wh.size : Int) < 0
  · exact ⟨-1, if_pos c3, .inl (by omega)⟩
  · exact ⟨_, if_neg c3, .inr ⟨by omega, rfl⟩⟩
theorem FnExactAffixOk (g : ByteArray) (fr : Bool) (st ad wh : ByteArray) (z : g.size ≤ 9223372036854775807 ∧ (True ∧ (st.size ≤ 9223372036854775807 ∧ (ad.size ≤ 9223372036854775807 ∧ wh.size ≤ 9223372036854775807)))) : ∃ k, laws_FnExactAffixOk.f k g fr st ad wh = some true := by
  refine Ev.rounds ?_
  unfold laws_FnExactAffixOk.f
  obtain ⟨m, hm, hz⟩ := szAffix_ev g fr st ad wh 1048576 (by omega) (by omega) z
  refine evCall hm ?_
  by_cases c : m < 0
  · exact evPos c (Ev.now _)
  refine evNeg c (evCall rfl (Ev.bind (affixOk_spec g fr st ad wh (by omega) (by omega) (by omega)) (evCall rfl (Ev.bind (affixOk_impl g fr st ad wh (by omega) (by omega) (by omega)) (evNeg (by simp) (Ev.now _))))))
end Go.Proofs.Yteddmcaljongeaa.Pure

/- AffixBack answers as the reference, of every affix and word. No condition. -/
import Derived.Test.YteddmcaljongeaaQFnExactAffixBackx4
import Derived.Test.YteddmcaljongeaaMBas
import Derived.Test.YteddmcaljongeaaMStr
import Derived.Test.YteddmcaljongeaaMAff
namespace Go.Proofs.Yteddmcaljongeaa.Pure
open Go.RowKit Go.Proofs.Yteddmcaljongeaa.QFnExactAffixBack Go.Proofs.YteddmcaljongeaaW.PrintWords Go.Proofs.YteddmcaljongeaaW.PrintLast Go.Proofs.Yteddmcaljongeaa.M
theorem letters_loop (s : ByteArray) (m : Int) (h : s.size ≤ 281474976710656) (d : Nat) : ∀ i : Int, 0 ≤ i → i ≤ s.size → (s.size : Int) - i = d →
    Ev (fun k => spec_l1Letters.l0 k s m i) (((bytesOf s).drop i.toNat).all low && decide ((s.size : Int) ≤ m)) := by
  induction d with
  | zero =>
    intro i h0 h1 hd
    refine Ev.step (fun k => spec_l1Letters.l0.eq_2 _ _ _ _) (evNeg (by omega) ?_)
    rw [List.drop_eq_nil_of_le (by rw [bytesOf_length]; omega)]
    exact evTo (Ev.now _) (by simp)
  | succ d ih =>
    intro i h0 h1 hd
    refine Ev.step (fun k => spec_l1Letters.l0.eq_2 _ _ _ _) (evPos (by omega) (evPos h0 ?_))
    rw [bytes_drop s i h0 (by omega), List.all_cons]
    by_cases c : bt s i < 97
    · exact evPos c (evTo (Ev.now _) (by simp [low]; omega))
    refine evNeg c ?_
    by_cases c1 : bt s i > 122
    · exact evPos c1 (evTo (Ev.now _) (by simp [low]; omega))
    refine evNeg c1 ?_
    have e : low (bt s i) = true := (low_iff _).2 (by omega)
    rw [w64 (by omega) (by omega), e, Bool.true_and]
    exact ih (i + 1) (by omega) (by omega) (by omega)
theorem letters_spec (s : ByteArray) (m : Int) (h : s.size ≤ 140737488351232) : Ev (fun k => spec_l1Letters.f k s m) ((bytesOf s).all low && decide ((s.size : Int) ≤ m)) :=
  letters_loop s m (by omega) s.size 0 (by omega) (by omega) (by omega)
theorem letters_wide (s : ByteArray) (m : Int) (h : s.size ≤ 281474976710656) : Ev (fun k => spec_l1Letters.f k s m) ((bytesOf s).all low && decide ((s.size : Int) ≤ m)) :=
  letters_loop s m h s.size 0 (by omega) (by omega) (by omega)
theorem flag_spec (s : ByteArray) : spec_l2Flag.f s = some (flagB s) := by
  unfold spec_l2Flag.f
  by_cases c : (s.size : Int) = 1
  · rw [if_pos c, if_pos (by omega)]
    by_cases e : bt s 0 ≥ 65
    · rw [if_pos e]
      simp [flagB, e]
      omega
    · rw [if_neg e]
      simp [flagB, e]
  · rw [if_neg c]
    simp [flagB]
    omega
theorem begins_spec (s p : ByteArray) : spec_l2Begins.f s p = some (begB s p) := by
  unfold spec_l2Begins.f
  by_cases c : (s.size : Int) ≥ (p.size : Int)
  · rw [if_pos c, if_pos (by omega), if_pos (by omega), toList_beq]
    try rw [Int.toNat_natCast]
    simp [begB]
    omega
  · rw [if_neg c]
    simp [begB]
    omega
theorem ends_spec (s p : ByteArray) (h : s.size ≤ 1407374883512320) : spec_l2Ends.f s p = some (endB s p) := by
  unfold spec_l2Ends.f
  by_cases c : (s.size : Int) ≥ (p.size : Int)
  · rw [if_pos c, w64 (by omega) (by omega), if_pos (by omega), if_pos (by omega), toList_beq, show ((s.size : Int) - (p.size : Int)).toNat = s.size - p.size from by omega]
    simp [endB]
    omega
  · rw [if_neg c]
    simp [endB]
    omega
theorem letters4 (s : ByteArray) (h : s.size ≤ 140737488351232) : Ev (fun k => spec_l1Letters.f k s 4) (partB s) :=
  evTo (letters_spec s 4 h) (by
    unfold partB
    congr 1
    exact decide_eq_decide.2 (by omega))
theorem affixOk_spec (g : ByteArray) (fr : Bool) (st ad wh : ByteArray) (h1 : st.size ≤ 140737488351232) (h2 : ad.size ≤ 140737488351232) (h3 : wh.size ≤ 140737488351232) :
    Ev (fun k => spec_AffixOk.f k g fr st ad wh) (affOk g fr st ad wh) := by
  have no : ∀ r, r = false → Ev (fun k => spec_AffixOk.j0 k true g fr st ad wh) r := fun r hr => Ev.step (fun k => spec_AffixOk.j0.eq_2 _ _ _ _ _ _ _) (evPos rfl (evTo (Ev.now _) hr.symm))
  unfold spec_AffixOk.f
  refine evCall (flag_spec _) ?_
  cases e1 : flagB g with
  | false => exact evNeg (by simp) (no _ (by simp [affOk, e1]))
  | true =>
    refine evPos rfl (Ev.bind (letters4 st h1) ?_)
    cases e2 : partB st with
    | false => exact evNeg (by simp) (no _ (by simp [affOk, e2]))
    | true =>
      refine evPos rfl (Ev.bind (letters4 ad h2) ?_)
      cases e3 : partB ad with
      | false => exact evNeg (by simp) (no _ (by simp [affOk, e3]))
      | true =>
        refine evPos rfl (Ev.bind (letters4 wh h3) ?_)
        cases e4 : partB wh with
        | false => exact no _ (by simp [affOk, e4])
        | true =>
          refine Ev.step (fun k => spec_AffixOk.j0.eq_2 _ _ _ _ _ _ _) (evNeg (by simp) ?_)
          cases fr with
          | true => exact evPos rfl (evCall (begins_spec _ _) (evTo (Ev.now _) (by simp [affOk, e1, e2, e3, e4])))
          | false => exact evNeg (by simp) (evCall (ends_spec _ _ (by omega)) (evTo (Ev.now _) (by simp [affOk, e1, e2, e3, e4])))
theorem lower_loop (s : ByteArray) (h : s.size ≤ 140737488351232) (d : Nat) : ∀ i : Int, 0 ≤ i → i ≤ s.size → (s.size : Int) - i = d →
    Ev (fun k => impl_lower.l0 k s (s.size : Int) i) (((bytesOf s).drop i.toNat).all low) := by
  induction d with
  | zero =>
    intro i h0 h1 hd
    refine Ev.step (fun k => impl_lower.l0.eq_2 _ _ _ _) (evNeg (by omega) ?_)
    rw [List.drop_eq_nil_of_le (by rw [bytesOf_length]; omega)]
    exact evTo (Ev.now _) (by simp)
  | succ d ih =>
    intro i h0 h1 hd
    refine Ev.step (fun k => impl_lower.l0.eq_2 _ _ _ _) (evPos (by omega) (evPos h0 (evPos (by omega) ?_)))
    rw [bytes_drop s i h0 (by omega), List.all_cons]
    by_cases c : bt s i < 97
    · exact evPos c (evTo (Ev.now _) (by simp [low]; omega))
    refine evNeg c ?_
    by_cases c1 : bt s i > 122
    · exact evPos c1 (evTo (Ev.now _) (by simp [low]; omega))
    refine evNeg c1 ?_
    have e : low (bt s i) = true := (low_iff _).2 (by omega)
    rw [w64 (by omega) (by omega), e, Bool.true_and]
    exact ih (i + 1) (by omega) (by omega) (by omega)
theorem lower_impl (s : ByteArray) (h : s.size ≤ 140737488351232) : Ev (fun k => impl_lower.f k s) ((bytesOf s).all low) :=
  lower_loop s h s.size 0 (by omega) (by omega) (by omega)
theorem within_impl (n a b : Int) : impl_within.f n a b = some (decide (a ≤ n) && decide (n ≤ b)) := by
  unfold impl_within.f
  by_cases c : n ≥ a
  · rw [if_pos c]; simp [c]
  · rw [if_neg c]; simp; omega
theorem word_impl (s : ByteArray) (h : s.size ≤ 140737488351232) : Ev (fun k => impl_WordOk.f k s) (wordB s) := by
  unfold impl_WordOk.f
  refine evCall (within_impl _ _ _) ?_
  by_cases c : (1 ≤ (s.size : Int) ∧ (s.size : Int) ≤ 12)
  · have hp : 0 < s.size := by omega
    have hq : s.size ≤ 12 := by omega
    refine evPos (by simp; omega) (Ev.bind (lower_impl s h) (evTo (Ev.now _) ?_))
    simp only [wordB, wordL, bytesOf_length, decide_eq_true hp, decide_eq_true hq, Bool.true_and]
  · exact evNeg (by simp; omega) (evTo (Ev.now _) (wordB_no (by omega)).symm)
theorem word_impl' (s : ByteArray) (h : s.size ≤ 281474976710656) : Ev (fun k => impl_WordOk.f k s) (wordB s) := by
  by_cases c : s.size ≤ 140737488351232
  · exact word_impl s c
  · unfold impl_WordOk.f
    refine evCall (within_impl _ _ _) ?_
    exact evNeg (by simp; omega) (evTo (Ev.now _) (wordB_no (by omega)).symm)
theorem upper_impl (c : Int) : impl_upper.f c = some (decide (65 ≤ c) && decide (c ≤ 90)) := by
  unfold impl_upper.f
  by_cases e : c ≥ 65
  · rw [if_pos e]; simp [e]
  · rw [if_neg e]; simp; omega
theorem hasPrefix0 (s p : ByteArray) : stringslite_HasPrefix.f s p = some (begB s p) := begins_spec s p
theorem hasPrefix_lib (s p : ByteArray) : strings_HasPrefix.f s p = some (begB s p) := by
  unfold strings_HasPrefix.f
  rw [hasPrefix0]
  rfl
theorem hasSuffix0 (s p : ByteArray) (h : s.size ≤ 1407374883512320) : stringslite_HasSuffix.f s p = some (endB s p) := ends_spec s p h
theorem hasSuffix_lib (s p : ByteArray) (h : s.size ≤ 1407374883512320) : strings_HasSuffix.f s p = some (endB s p) := by
  unfold strings_HasSuffix.f
  rw [hasSuffix0 s p h]
  rfl
theorem parts_loop (g : ByteArray) (fr : Bool) (st ad wh : ByteArray) (l : List ByteArray) (hl : l.length ≤ 10) (hs : ∀ x ∈ l, x.size ≤ 140737488351232) (hw : wh.size ≤ 140737488351232) (d : Nat) : ∀ i : Int, 0 ≤ i → i ≤ l.length → (l.length : Int) - i = d →
    Ev (fun k => impl_AffixOk.l0 k l (l.length : Int) i g fr st ad wh) ((l.drop i.toNat).all partB && (if fr = true then begB wh st else endB wh st)) := by
  induction d with
  | zero =>
    intro i h0 h1 hd
    refine Ev.step (fun k => impl_AffixOk.l0.eq_2 _ _ _ _ _ _ _ _ _) (evNeg (by omega) ?_)
    rw [List.drop_eq_nil_of_le (by omega), List.all_nil, Bool.true_and]
    cases fr with
    | true => exact evPos rfl (evCall (hasPrefix_lib _ _) (Ev.now _))
    | false => exact evNeg (by simp) (evCall (hasSuffix_lib _ _ (by omega)) (Ev.now _))
  | succ d ih =>
    intro i h0 h1 hd
    have hi : i.toNat < l.length := by omega
    have hx : rdOf ByteArray.empty l i = l[i.toNat] := by simp [rdOf, List.getD_eq_getElem?_getD, List.getElem?_eq_getElem hi]
    have hm := hs _ (List.getElem_mem hi)
    refine Ev.step (fun k => impl_AffixOk.l0.eq_2 _ _ _ _ _ _ _ _ _) (evPos (by omega) (evPos h0 (evPos (by omega) ?_)))
    rw [hx, List.drop_eq_getElem_cons hi, List.all_cons]
    generalize l[i.toNat] = x at *
    by_cases c : (x.size : Int) > 4
    · refine evPos c (evTo (Ev.now _) ?_)
      have : partB x = false := by simp [partB]; omega
      rw [this]
      rfl
    · refine evNeg c (Ev.bind (lower_impl x hm) ?_)
      have hp : partB x = (bytesOf x).all low := by
        simp only [partB]
        rw [decide_eq_true (by omega), Bool.and_true]
      rw [hp]
      cases e : (bytesOf x).all low with
      | false => exact evNeg (by simp) (evTo (Ev.now _) (by simp))
      | true =>
        refine evPos rfl ?_
        rw [w64 (by omega) (by omega), Bool.true_and, show i.toNat + 1 = (i + 1).toNat from by omega]
        exact ih (i + 1) (by omega) (by omega) (by omega)
theorem affixOk_impl (g : ByteArray) (fr : Bool) (st ad wh : ByteArray) (h1 : st.size ≤ 140737488351232) (h2 : ad.size ≤ 140737488351232) (h3 : wh.size ≤ 140737488351232) :
    Ev (fun k => impl_AffixOk.f k g fr st ad wh) (affOk g fr st ad wh) := by
  unfold impl_AffixOk.f
  by_cases c : (g.size : Int) = 1
  · refine evPos c (evPos (by omega) (evCall (upper_impl _) ?_))
    have hf : flagB g = (decide (65 ≤ bt g 0) && decide (bt g 0 ≤ 90)) := by
      simp only [flagB]
      rw [decide_eq_true (by omega), Bool.true_and]
    rw [← hf]
    cases e : flagB g with
    | false => exact Ev.step (fun k => impl_AffixOk.j0.eq_2 _ _ _ _ _ _ _) (evPos rfl (evTo (Ev.now _) (by simp [affOk, e])))
    | true =>
      refine Ev.step (fun k => impl_AffixOk.j0.eq_2 _ _ _ _ _ _ _) (evNeg (by simp) (evCall rfl ?_))
      refine evTo (parts_loop g fr st ad wh [st, ad, wh] (by simp) (by
        intro x hx
        simp only [List.mem_cons, List.not_mem_nil, or_false] at hx
        rcases hx with rfl | rfl | rfl <;> assumption) h3 3 0 (by omega) (by simp) (by simp)) ?_
      simp [affOk, e, Bool.and_assoc]
  · refine evNeg c (Ev.step (fun k => impl_AffixOk.j0.eq_2 _ _ _ _ _ _ _) (evPos rfl (evTo (Ev.now _) ?_)))
    have : flagB g = false := by simp [flagB]; omega
    simp [affOk, this]
theorem affixDo_impl (g : ByteArray) (fr : Bool) (st ad wh stem : ByteArray) (h1 : st.size ≤ 140737488351232) (h2 : ad.size ≤ 140737488351232) (h3 : wh.size ≤ 140737488351232) (h4 : stem.size ≤ 281474976710656) :
    Ev (fun k => impl_AffixDo.f k g fr st ad wh stem) (outB (affDo g fr st ad wh stem)) := by
  have no : ∀ r, r = ((⟨#[]⟩ : ByteArray), false) → Ev (fun k => impl_AffixDo.j0 k stem true g fr st ad wh) r := fun r hr => Ev.step (fun k => impl_AffixDo.j0.eq_2 _ _ _ _ _ _ _ _) (evPos rfl (evTo (Ev.now _) hr.symm))
  unfold impl_AffixDo.f
  refine Ev.bind (affixOk_impl g fr st ad wh h1 h2 h3) ?_
  cases e1 : affOk g fr st ad wh with
  | false => exact evNeg (by simp) (no _ (by simp [affDo, e1, outB]))
  | true =>
    refine evPos rfl (Ev.bind (word_impl' stem h4) ?_)
    cases e2 : wordB stem with
    | false => exact no _ (by simp [affDo, e2, outB])
    | true =>
      have h12 := (wordB_size e2).2
      have hst := strip_size e1
      refine Ev.step (fun k => impl_AffixDo.j0.eq_2 _ _ _ _ _ _ _ _) (evNeg (by simp) ?_)
      cases fr with
      | true =>
        refine evPos rfl (evCall (hasPrefix_lib _ _) ?_)
        by_cases c : begB stem wh = true
        · have hs := begB_size c
          have hz : (stem.extract st.size stem.size).size = stem.size - st.size := size_extract _ _ _ (by omega) (Nat.le_refl _)
          refine evPos c (evPos (by omega) (evPos (by omega) ?_))
          try rw [Int.toNat_natCast]
          refine evPos (by omega) (Ev.bind (word_impl' _ (by rw [size_append]; omega)) ?_)
          cases e3 : wordB (ad ++ stem.extract st.size stem.size) with
          | true => exact evPos rfl (evTo (Ev.now _) (by simp [affDo, e1, e2, doB, c, e3, Option.filter, outB]))
          | false => exact evNeg (by simp) (evTo (Ev.now _) (by simp [affDo, e1, e2, doB, c, e3, Option.filter, outB]))
        · exact evNeg c (evTo (Ev.now _) (by simp [affDo, e1, e2, doB, c, outB]))
      | false =>
        refine evNeg (by simp) (evCall (hasSuffix_lib _ _ (by omega)) ?_)
        by_cases c : endB stem wh = true
        · have hs := endB_size c
          have hz : (stem.extract 0 (stem.size - st.size)).size = stem.size - st.size := by
            rw [size_extract _ _ _ (by omega) (by omega)]
            omega
          refine evPos c ?_
          rw [w64 (by omega) (by omega), show ((stem.size : Int) - (st.size : Int)).toNat = stem.size - st.size from by omega]
          refine evPos (by omega) (evPos (by omega) (evPos (by omega) (Ev.bind (word_impl' _ (by rw [size_append]; omega)) ?_)))
          cases e3 : wordB (stem.extract 0 (stem.size - st.size) ++ ad) with
          | true => exact evPos rfl (evTo (Ev.now _) (by simp [affDo, e1, e2, doB, c, e3, Option.filter, outB]))
          | false => exact evNeg (by simp) (evTo (Ev.now _) (by simp [affDo, e1, e2, doB, c, e3, Option.filter, outB]))
        · exact evNeg c (evTo (Ev.now _) (by simp [affDo, e1, e2, doB, c, outB]))
theorem cutPrefix_lib (s p : ByteArray) : strings_CutPrefix.f s p = some (if begB s p = true then s.extract p.size s.size else s, begB s p) := by
  unfold strings_CutPrefix.f stringslite_CutPrefix.f
  rw [hasPrefix0]
  simp only [Option.bind_some]
  by_cases c : begB s p = true
  · have := begB_size c
    rw [if_pos c, if_pos (by omega), if_pos (by omega), if_pos c, c]
    simp
  · rw [if_neg c, if_neg c]
    simp at c
    simp [c]
theorem cutSuffix_lib (s p : ByteArray) (h : s.size ≤ 1407374883512320) : strings_CutSuffix.f s p = some (if endB s p = true then s.extract 0 (s.size - p.size) else s, endB s p) := by
  unfold strings_CutSuffix.f stringslite_CutSuffix.f
  rw [hasSuffix0 s p h]
  simp only [Option.bind_some]
  by_cases c : endB s p = true
  · have := endB_size c
    rw [if_pos c, w64 (by omega) (by omega), if_pos (by omega), if_pos (by omega), if_pos c, c, show ((s.size : Int) - (p.size : Int)).toNat = s.size - p.size from by omega]
    simp
  · rw [if_neg c, if_neg c]
    simp at c
    simp [c]
theorem affixBack_impl (g : ByteArray) (fr : Bool) (st ad wh word : ByteArray) (h1 : st.size ≤ 140737488351232) (h2 : ad.size ≤ 140737488351232) (h3 : wh.size ≤ 140737488351232) (h4 : word.size ≤ 140737488351232) :
    Ev (fun k => impl_AffixBack.f k g fr st ad wh word) (outB (affBack g fr st ad wh word)) := by
  unfold impl_AffixBack.f
  cases fr with
  | true =>
    refine evPos rfl (evCall (cutPrefix_lib _ _) ?_)
    have hz : (if begB word ad = true then word.extract ad.size word.size else word).size ≤ word.size := by
      split
      · rename_i c
        rw [size_extract _ _ _ (begB_size c) (Nat.le_refl _)]
        omega
      · omega
    dsimp only
    refine evPos (by omega) (Ev.bind (affixDo_impl g true st ad wh _ h1 h2 h3 (by rw [size_append]; omega)) ?_)
    by_cases c : begB word ad = true
    · refine evPos c ?_
      rw [if_pos c]
      cases e : affDo g true st ad wh (st ++ word.extract ad.size word.size) with
      | none => exact evNeg (by simp [outB]) (evTo (Ev.now _) (by simp [affBack, backOk, backStem, c, e, outB]))
      | some x =>
        refine evPos rfl ?_
        by_cases c2 : x = word
        · subst c2
          exact evPos rfl (evTo (Ev.now _) (by simp [affBack, backOk, backStem, c, e, outB]))
        · exact evNeg (fun h => c2 ((toList_iff _ _).1 h)) (evTo (Ev.now _) (by simp [affBack, backOk, backStem, c, e, outB, c2]))
    · exact evNeg c (evTo (Ev.now _) (by simp [affBack, backOk, c, outB]))
  | false =>
    refine evNeg (by simp) (evCall (cutSuffix_lib _ _ (by omega)) ?_)
    have hz : (if endB word ad = true then word.extract 0 (word.size - ad.size) else word).size ≤ word.size := by
      split
      · rename_i c
        rw [size_extract _ _ _ (by omega) (by omega)]
        omega
      · omega
    dsimp only
    refine evPos (by omega) (Ev.bind (affixDo_impl g false st ad wh _ h1 h2 h3 (by rw [size_append]; omega)) ?_)
    by_cases c : endB word ad = true
    · refine evPos c ?_
      rw [if_pos c]
      cases e : affDo g false st ad wh (word.extract 0 (word.size - ad.size) ++ st) with
      | none => exact evNeg (by simp [outB]) (evTo (Ev.now _) (by simp [affBack, backOk, backStem, c, e, outB]))
      | some x =>
        refine evPos rfl ?_
        by_cases c2 : x = word
        · subst c2
          exact evPos rfl (evTo (Ev.now _) (by simp [affBack, backOk, backStem, c, e, outB]))
        · exact evNeg (fun h => c2 ((toList_iff _ _).1 h)) (evTo (Ev.now _) (by simp [affBack, backOk, backStem, c, e, outB, c2]))
    · exact evNeg c (evTo (Ev.now _) (by simp [affBack, backOk, c, outB]))
theorem l1Word_spec (s : ByteArray) (h : s.size ≤ 140737488351232) : Ev (fun k => spec_l1Word.f k s) (wordB s) := by
  unfold spec_l1Word.f
  by_cases c : (s.size : Int) > 0
  · have hp : 0 < s.size := by omega
    refine evPos c (Ev.bind (letters_spec s 12 h) (evTo (Ev.now _) ?_))
    simp only [wordB, wordL, bytesOf_length, decide_eq_true hp, Bool.true_and]
    rw [Bool.and_comm]
    congr 1
    exact decide_eq_decide.2 (by omega)
  · exact evNeg c (evTo (Ev.now _) (wordB_no (by omega)).symm)
theorem l1Word_spec' (s : ByteArray) (h : s.size ≤ 281474976710656) : Ev (fun k => spec_l1Word.f k s) (wordB s) := by
  by_cases c : s.size ≤ 140737488351232
  · exact l1Word_spec s c
  unfold spec_l1Word.f
  refine evPos (by omega) (Ev.bind (letters_wide s 12 h) (evTo (Ev.now _) ?_))
  rw [wordB_no (by omega), decide_eq_false (by omega), Bool.and_false]
theorem l2Do_spec (g : ByteArray) (fr : Bool) (st ad wh stem : ByteArray) (h1 : st.size ≤ wh.size) (h2 : ad.size ≤ 140737488351232) (h3 : stem.size ≤ 140737488351232) :
    Ev (fun k => spec_l2Do.f k g fr st ad wh stem) (outW (doB fr st ad wh stem)) := by
  unfold spec_l2Do.f
  cases fr with
  | true =>
    refine evPos rfl (evCall (begins_spec _ _) ?_)
    by_cases c : begB stem wh = true
    · have hs := begB_size c
      have hz : (stem.extract st.size stem.size).size = stem.size - st.size := size_extract _ _ _ (by omega) (Nat.le_refl _)
      refine evPos c (evPos (by omega) (evPos (by omega) ?_))
      try rw [Int.toNat_natCast]
      refine evPos (by omega) (Ev.bind (l1Word_spec' _ (by rw [size_append]; omega)) (evTo (Ev.now _) ?_))
      simp [doB, c, outW]
    · exact evNeg c (evTo (Ev.now _) (by simp [doB, c, outW]))
  | false =>
    refine evNeg (by simp) (evCall (ends_spec _ _ (by omega)) ?_)
    by_cases c : endB stem wh = true
    · have hs := endB_size c
      have hz : (stem.extract 0 (stem.size - st.size)).size = stem.size - st.size := by
        rw [size_extract _ _ _ (by omega) (by omega)]
        omega
      refine evPos c ?_
      rw [w64 (by omega) (by omega), show ((stem.size : Int) - (st.size : Int)).toNat = stem.size - st.size from by omega]
      refine evPos (by omega) (evPos (by omega) (evPos (by omega) (Ev.bind (l1Word_spec' _ (by rw [size_append]; omega)) (evTo (Ev.now _) ?_))))
      simp [doB, c, outW]
    · exact evNeg c (evTo (Ev.now _) (by simp [doB, c, outW]))
theorem back_join (g : ByteArray) (fr : Bool) (st ad wh word stem : ByteArray) (h0 : affOk g fr st ad wh = true) (h2 : ad.size ≤ 140737488351232) (h3 : stem.size ≤ 281474976710656) :
    Ev (fun k => spec_AffixBack.j1 k word stem g fr st ad wh) (outB (if affDo g fr st ad wh stem = some word then some stem else none)) := by
  have hst := strip_size h0
  refine Ev.step (fun k => spec_AffixBack.j1.eq_2 _ _ _ _ _ _ _ _) (Ev.bind (l1Word_spec' stem h3) ?_)
  cases e2 : wordB stem with
  | false => exact evNeg (by simp) (evTo (Ev.now _) (by simp [affDo, e2, outB]))
  | true =>
    have h12 := (wordB_size e2).2
    refine evPos rfl (Ev.bind (l2Do_spec g fr st ad wh stem hst h2 (by omega)) ?_)
    cases e : doB fr st ad wh stem with
    | none => exact evNeg (by simp [outW]) (evTo (Ev.now _) (by simp [affDo, e, outB]))
    | some x =>
      cases e3 : wordB x with
      | false => exact evNeg (by simp [outW, e3]) (evTo (Ev.now _) (by simp [affDo, e, e3, outB, Option.filter]))
      | true =>
        refine evPos e3 ?_
        by_cases c : x = word
        · subst c
          exact evPos rfl (evTo (Ev.now _) (by simp [affDo, h0, e2, e, e3, outB, Option.filter]))
        · exact evNeg (fun h => c ((toList_iff _ _).1 h)) (evTo (Ev.now _) (by simp [affDo, h0, e2, e, e3, outB, Option.filter, c]))
theorem affixBack_spec (g : ByteArray) (fr : Bool) (st ad wh word : ByteArray) (h1 : st.size ≤ 140737488351232) (h2 : ad.size ≤ 140737488351232) (h3 : wh.size ≤ 140737488351232) (h4 : word.size ≤ 140737488351232) :
    Ev (fun k => spec_AffixBack.f k g fr st ad wh word) (outB (affBack g fr st ad wh word)) := by
  have no : ∀ r, r = ((⟨#[]⟩ : ByteArray), false) → Ev (fun k => spec_AffixBack.j0 k word true g fr st ad wh) r := fun r hr => Ev.step (fun k => spec_AffixBack.j0.eq_2 _ _ _ _ _ _ _ _) (evPos rfl (evTo (Ev.now _) hr.symm))
  have nodo : ∀ s, affDo g fr st ad wh s = some word → affOk g fr st ad wh = true ∧ wordB word = true := fun s hs => ⟨(affDo_some hs).1, (affDo_some hs).2.2.2⟩
  unfold spec_AffixBack.f
  refine Ev.bind (affixOk_spec g fr st ad wh h1 h2 h3) ?_
  cases e1 : affOk g fr st ad wh with
  | false =>
    refine evNeg (by simp) (no _ ?_)
    unfold affBack
    rw [if_neg (fun h => by have := (nodo _ h.2).1; rw [e1] at this; cases this)]
    rfl
  | true =>
    refine evPos rfl (Ev.bind (l1Word_spec word h4) ?_)
    cases e2 : wordB word with
    | false =>
      refine no _ ?_
      unfold affBack
      rw [if_neg (fun h => by have := (nodo _ h.2).2; rw [e2] at this; cases this)]
      rfl
    | true =>
      refine Ev.step (fun k => spec_AffixBack.j0.eq_2 _ _ _ _ _ _ _ _) (evNeg (by simp) ?_)
      cases fr with
      | true =>
        refine evPos rfl (evCall (begins_spec _ _) ?_)
        by_cases c : begB word ad = true
        · have hs := begB_size c
          have hz : (word.extract ad.size word.size).size = word.size - ad.size := size_extract _ _ _ (by omega) (Nat.le_refl _)
          refine evPos c (evPos (by omega) (evPos (by omega) ?_))
          try rw [Int.toNat_natCast]
          refine evPos (by omega) (evTo (back_join g true st ad wh word _ e1 h2 (by rw [size_append]; omega)) ?_)
          simp [affBack, backOk, backStem, c]
        · exact evNeg c (evTo (Ev.now _) (by simp [affBack, backOk, c, outB]))
      | false =>
        refine evNeg (by simp) (evCall (ends_spec _ _ (by omega)) ?_)
        by_cases c : endB word ad = true
        · have hs := endB_size c
          have hz : (word.extract 0 (word.size - ad.size)).size = word.size - ad.size := by
            rw [size_extract _ _ _ (by omega) (by omega)]
            omega
          refine evPos c ?_
          rw [w64 (by omega) (by omega), show ((word.size : Int) - (ad.size : Int)).toNat = word.size - ad.size from by omega]
          refine evPos (by omega) (evPos (by omega) (evPos (by omega) (evTo (back_join g false st ad wh word _ e1 h2 (by rw [size_append]; omega)) ?_)))
          simp [affBack, backOk, backStem, c]
        · exact evNeg c (evTo (Ev.now _) (by simp [affBack, backOk, c, outB]))
theorem szAffix_ev (g : ByteArray) (fr : Bool) (st ad wh : ByteArray) (n : Int) (h0 : 0 ≤ n) (h1 : n ≤ 1048576) (z : g.size ≤ 9223372036854775807 ∧ (True ∧ (st.size ≤ 9223372036854775807 ∧ (ad.size ≤ 9223372036854775807 ∧ wh.size ≤ 9223372036854775807)))) :
    ∃ m, laws_szAffix.f g fr st ad wh n = some m ∧ (m < 0 ∨ (0 ≤ m ∧ m = n - g.size - st.size - ad.size - wh.size)) := by
  obtain ⟨z0, _, z1, z2, z3⟩ := z
  unfold laws_szAffix.f
  rw [w64 (n := n - (g.size : Int)) (by omega) (by omega)]
  by_cases c0 : n - (g.size : Int) < 0
  · exact ⟨-1, if_pos c0, .inl (by omega)⟩
  rw [if_neg c0, w64 (n := n - (g.size : Int) - (st.size : Int)) (by omega) (by omega)]
  by_cases c1 : n - (g.size : Int) - (st.size : Int) < 0
  · exact ⟨-1, if_pos c1, .inl (by omega)⟩
  rw [if_neg c1, w64 (n := n - (g.size : Int) - (st.size : Int) - (ad.size : Int)) (by omega) (by omega)]
  by_cases c2 : n - (g.size : Int) - (st.size : Int) - (ad.size : Int) < 0
  · exact ⟨-1, if_pos c2, .inl (by omega)⟩
  rw [if_neg c2, w64 (n := n - (g.size : Int) - (st.size : Int) - (ad.size : Int) - (wh.size : Int)) (by omega) (by omega)]
  by_cases c3 : n - (g.size : Int) - (st.size : Int) - (ad.size : Int) - (wh.size : Int) < 0
  · exact ⟨-1, if_pos c3, .inl (by omega)⟩
  · exact ⟨_, if_neg c3, .inr ⟨by omega, rfl⟩⟩
theorem FnExactAffixBack (g : ByteArray) (fr : Bool) (st ad wh stem : ByteArray) (z : g.size ≤ 9223372036854775807 ∧ (True ∧ (st.size ≤ 9223372036854775807 ∧ (ad.size ≤ 9223372036854775807 ∧ wh.size ≤ 9223372036854775807)))) (hs : stem.size ≤ 140737488351232) : ∃ k, laws_FnExactAffixBack.f k g fr st ad wh stem = some true := by
  refine Ev.rounds ?_
  unfold laws_FnExactAffixBack.f
  by_cases c0 : (stem.size : Int) > 1048576
  · exact evPos c0 (Ev.now _)
  obtain ⟨m, hm, hz⟩ := szAffix_ev g fr st ad wh 1048576 (by omega) (by omega) z
  refine evNeg c0 (evCall hm ?_)
  by_cases c : m < 0
  · exact evPos c (Ev.now _)
  refine evNeg c (evCall rfl (Ev.bind (affixBack_spec g fr st ad wh stem (by omega) (by omega) (by omega) (by omega)) (evCall rfl (Ev.bind (affixBack_impl g fr st ad wh stem (by omega) (by omega) (by omega) (by omega)) (evPos rfl (evNeg (by simp) (Ev.now _)))))))
end Go.Proofs.Yteddmcaljongeaa.Pure

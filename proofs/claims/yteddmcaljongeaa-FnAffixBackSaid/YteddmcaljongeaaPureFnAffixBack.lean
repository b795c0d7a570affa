/- What AffixBack leads back to makes the word again; it answers as the reference; of a drawn affix and word. No condition. -/
import Derived.Test.YteddmcaljongeaaQFnAffixBackx6
import Derived.Test.YteddmcaljongeaaMBas
import Derived.Test.YteddmcaljongeaaMStr
import Derived.Test.YteddmcaljongeaaMAff
import Derived.Test.YteddmcaljongeaaWSized
namespace Go.Proofs.Yteddmcaljongeaa
/-- The printed row names it so. -/
theorem PrintWords.sized_ints : type_of% @Go.Proofs.YteddmcaljongeaaW.PrintWords.sized_ints := @Go.Proofs.YteddmcaljongeaaW.PrintWords.sized_ints
end Go.Proofs.Yteddmcaljongeaa
namespace Go.Proofs.Yteddmcaljongeaa.Pure
open Go.RowKit Go.Proofs.Yteddmcaljongeaa.QFnAffixBack Go.Proofs.YteddmcaljongeaaW.PrintWords Go.Proofs.YteddmcaljongeaaW.PrintLast Go.Proofs.Yteddmcaljongeaa.M
theorem letters_loop (s : ByteArray) (m : Int) (h : s.size ≤ 281474976710656) (d : Nat) : ∀ i : Int, 0 ≤ i → i ≤ s.size → (s.size : Int) - i = d →
    Ev (fun k => spec_l1Letters.l0 k s m i) (((bytesOf s).drop i.toNat).all low && decide ((s.size : Int) ≤ m)) := by
  induction d with
  | zero =>
    intro i h0 h1 hd
    refine Ev.step (fun k => spec_l1Letters.l0.eq_2 _ _ _ _) (evNeg (by omega) ?_)
    rw [List.drop_eq_nil_of_le (by rw [bytesOf_length]; omega)]
    exact evTo (Ev.now _) (by simp)
  | succ d ih =>
    intro i h0 h1 hd
    refine Ev.step (fun k => spec_l1Letters.l0.eq_2 _ _ _ _) (evPos (by omega) (evPos h0 ?_))
    rw [bytes_drop s i h0 (by omega), List.all_cons]
    by_cases c : bt s i < 97
    · exact evPos c (evTo (Ev.now _) (by simp [low]; omega))
    refine evNeg c ?_
    by_cases c1 : bt s i > 122
    · exact evPos c1 (evTo (Ev.now _) (by simp [low]; omega))
    refine evNeg c1 ?_
    have e : low (bt s i) = true := (low_iff _).2 (by omega)
    rw [w64 (by omega) (by omega), e, Bool.true_and]
    exact ih (i + 1) (by omega) (by omega) (by omega)
theorem letters_spec (s : ByteArray) (m : Int) (h : s.size ≤ 140737488351232) : Ev (fun k => spec_l1Letters.f k s m) ((bytesOf s).all low && decide ((s.size : Int) ≤ m)) :=
  letters_loop s m (by omega) s.size 0 (by omega) (by omega) (by omega)
theorem letters_wide (s : ByteArray) (m : Int) (h : s.size ≤ 281474976710656) : Ev (fun k => spec_l1Letters.f k s m) ((bytesOf s).all low && decide ((s.size : Int) ≤ m)) :=
  letters_loop s m h s.size 0 (by omega) (by omega) (by omega)
theorem flag_spec (s : ByteArray) : spec_l2Flag.f s = some (flagB s) := by
  unfold spec_l2Flag.f
  by_cases c : (s.size : Int) = 1
  · rw [if_pos c, if_pos (by omega)]
    by_cases e : bt s 0 ≥ 65
    · rw [if_pos e]
      simp [flagB, e]
      omega
    · rw [if_neg e]
      simp [flagB, e]
  · rw [if_neg c]
    simp [flagB]
    omega
theorem begins_spec (s p : ByteArray) : spec_l2Begins.f s p = some (begB s p) := by
  unfold spec_l2Begins.f
  by_cases c : (s.size : Int) ≥ (p.size : Int)
  · rw [if_pos c, if_pos (by omega), if_pos (by omega), toList_beq]
    try rw [Int.toNat_natCast]
    simp [begB]
    omega
  · rw [if_neg c]
    simp [begB]
    omega
theorem ends_spec (s p : ByteArray) (h : s.size ≤ 1407374883512320) : spec_l2Ends.f s p = some (endB s p) := by
  unfold spec_l2Ends.f
  by_cases c : (s.size : Int) ≥ (p.size : Int)
  · rw [if_pos c, w64 (by omega) (by omega), if_pos (by omega), if_pos (by omega), toList_beq, show ((s.size : Int) - (p.size : Int)).toNat = s.size - p.size from by omega]
    simp [endB]
    omega
  · rw [if_neg c]
    simp [endB]
    omega
theorem letters4 (s : ByteArray) (h : s.size ≤ 140737488351232) : Ev (fun k => spec_l1Letters.f k s 4) (partB s) :=
  evTo (letters_spec s 4 h) (by
    unfold partB
    congr 1
    exact decide_eq_decide.2 (by omega))
theorem affixOk_spec (g : ByteArray) (fr : Bool) (st ad wh : ByteArray) (h1 : st.size ≤ 140737488351232) (h2 : ad.size ≤ 140737488351232) (h3 : wh.size ≤ 140737488351232) :
    Ev (fun k => spec_AffixOk.f k g fr st ad wh) (affOk g fr st ad wh) := by
  have no : ∀ r, r = false → Ev (fun k => spec_AffixOk.j0 k true g fr st ad wh) r := fun r hr => Ev.step (fun k => spec_AffixOk.j0.eq_2 _ _ _ _ _ _ _) (evPos rfl (evTo (Ev.now _) hr.symm))
  unfold spec_AffixOk.f
  refine evCall (flag_spec _) ?_
  cases e1 : flagB g with
  | false => exact evNeg (by simp) (no _ (by simp [affOk, e1]))
  | true =>
    refine evPos rfl (Ev.bind (letters4 st h1) ?_)
    cases e2 : partB st with
    | false => exact evNeg (by simp) (no _ (by simp [affOk, e2]))
    | true =>
      refine evPos rfl (Ev.bind (letters4 ad h2) ?_)
      cases e3 : partB ad with
      | false => exact evNeg (by simp) (no _ (by simp [affOk, e3]))
      | true =>
        refine evPos rfl (Ev.bind (letters4 wh h3) ?_)
        cases e4 : partB wh with
        | false => exact no _ (by simp [affOk, e4])
        | true =>
          refine Ev.step (fun k => spec_AffixOk.j0.eq_2 _ _ _ _ _ _ _) (evNeg (by simp) ?_)
          cases fr with
          | true => exact evPos rfl (evCall (begins_spec _ _) (evTo (Ev.now _) (by simp [affOk, e1, e2, e3, e4])))
          | false => exact evNeg (by simp) (evCall (ends_spec _ _ (by omega)) (evTo (Ev.now _) (by simp [affOk, e1, e2, e3, e4])))
theorem lower_loop (s : ByteArray) (h : s.size ≤ 140737488351232) (d : Nat) : ∀ i : Int, 0 ≤ i → i ≤ s.size → (s.size : Int) - i = d →
    Ev (fun k => impl_lower.l0 k s (s.size : Int) i) (((bytesOf s).drop i.toNat).all low) := by
  induction d with
  | zero =>
    intro i h0 h1 hd
    refine Ev.step (fun k => impl_lower.l0.eq_2 _ _ _ _) (evNeg (by omega) ?_)
    rw [List.drop_eq_nil_of_le (by rw [bytesOf_length]; omega)]
    exact evTo (Ev.now _) (by simp)
  | succ d ih =>
    intro i h0 h1 hd
    refine Ev.step (fun k => impl_lower.l0.eq_2 _ _ _ _) (evPos (by omega) (evPos h0 (evPos (by omega) ?_)))
    rw [bytes_drop s i h0 (by omega), List.all_cons]
    by_cases c : bt s i < 97
    · exact evPos c (evTo (Ev.now _) (by simp [low]; omega))
    refine evNeg c ?_
    by_cases c1 : bt s i > 122
    · exact evPos c1 (evTo (Ev.now _) (by simp [low]; omega))
    refine evNeg c1 ?_
    have e : low (bt s i) = true := (low_iff _).2 (by omega)
    rw [w64 (by omega) (by omega), e, Bool.true_and]
    exact ih (i + 1) (by omega) (by omega) (by omega)
theorem lower_impl (s : ByteArray) (h : s.size ≤ 140737488351232) : Ev (fun k => impl_lower.f k s) ((bytesOf s).all low) :=
  lower_loop s h s.size 0 (by omega) (by omega) (by omega)
theorem within_impl (n a b : Int) : impl_within.f n a b = some (decide (a ≤ n) && decide (n ≤ b)) := by
  unfold impl_within.f
  by_cases c : n ≥ a
  · rw [if_pos c]; simp [c]
  · rw [if_neg c]; simp; omega
theorem word_impl (s : ByteArray) (h : s.size ≤ 140737488351232) : Ev (fun k => impl_WordOk.f k s) (wordB s) := by
  unfold impl_WordOk.f
  refine evCall (within_impl _ _ _) ?_
  by_cases c : (1 ≤ (s.size : Int) ∧ (s.size : Int) ≤ 12)
  · have hp : 0 < s.size := by omega
    have hq : s.size ≤ 12 := by omega
    refine evPos (by simp; omega) (Ev.bind (lower_impl s h) (evTo (Ev.now _) ?_))
    simp only [wordB, wordL, bytesOf_length, decide_eq_true hp, decide_eq_true hq, Bool.true_and]
  · exact evNeg (by simp; omega) (evTo (Ev.now _) (wordB_no (by omega)).symm)
theorem word_impl' (s : ByteArray) (h : s.size ≤ 281474976710656) : Ev (fun k => impl_WordOk.f k s) (wordB s) := by
  by_cases c : s.size ≤ 140737488351232
  · exact word_impl s c
  · unfold impl_WordOk.f
    refine evCall (within_impl _ _ _) ?_
    exact evNeg (by simp; omega) (evTo (Ev.now _) (wordB_no (by omega)).symm)
theorem upper_impl (c : Int) : impl_upper.f c = some (decide (65 ≤ c) && decide (c ≤ 90)) := by
  unfold impl_upper.f
  by_cases e : c ≥ 65
  · rw [if_pos e]; simp [e]
  · rw [if_neg e]; simp; omega
theorem hasPrefix0 (s p : ByteArray) : stringslite_HasPrefix.f s p = some (begB s p) := begins_spec s p
theorem hasPrefix_lib (s p : ByteArray) : strings_HasPrefix.f s p = some (begB s p) := by
  unfold strings_HasPrefix.f
  rw [hasPrefix0]
  rfl
theorem hasSuffix0 (s p : ByteArray) (h : s.size ≤ 1407374883512320) : stringslite_HasSuffix.f s p = some (endB s p) := ends_spec s p h
theorem hasSuffix_lib (s p : ByteArray) (h : s.size ≤ 1407374883512320) : strings_HasSuffix.f s p = some (endB s p) := by
  unfold strings_HasSuffix.f
  rw [hasSuffix0 s p h]
  rfl
theorem parts_loop (g : ByteArray) (fr : Bool) (st ad wh : ByteArray) (l : List ByteArray) (hl : l.length ≤ 10) (hs : ∀ x ∈ l, x.size ≤ 140737488351232) (hw : wh.size ≤ 140737488351232) (d : Nat) : ∀ i : Int, 0 ≤ i → i ≤ l.length → (l.length : Int) - i = d →
    Ev (fun k => impl_AffixOk.l0 k l (l.length : Int) i g fr st ad wh) ((l.drop i.toNat).all partB && (if fr = true then begB wh st else endB wh st)) := by
  induction d with
  | zero =>
    intro i h0 h1 hd
    refine Ev.step (fun k => impl_AffixOk.l0.eq_2 _ _ _ _ _ _ _ _ _) (evNeg (by omega) ?_)
    rw [List.drop_eq_nil_of_le (by omega), List.all_nil, Bool.true_and]
    cases fr with
    | true => exact evPos rfl (evCall (hasPrefix_lib _ _) (Ev.now _))
    | false => exact evNeg (by simp) (evCall (hasSuffix_lib _ _ (by omega)) (Ev.now _))
  | succ d ih =>
    intro i h0 h1 hd
    have hi : i.toNat < l.length := by omega
    have hx : rdOf ByteArray.empty l i = l[i.toNat] := by simp [rdOf, List.getD_eq_getElem?_getD, List.getElem?_eq_getElem hi]
    have hm := hs _ (List.getElem_mem hi)
    refine Ev.step (fun k => impl_AffixOk.l0.eq_2 _ _ _ _ _ _ _ _ _) (evPos (by omega) (evPos h0 (evPos (by omega) ?_)))
    rw [hx, List.drop_eq_getElem_cons hi, List.all_cons]
    generalize l[i.toNat] = x at *
    by_cases c : (x.size : Int) > 4
    · refine evPos c (evTo (Ev.now _) ?_)
      have : partB x = false := by simp [partB]; omega
      rw [this]
      rfl
    · refine evNeg c (Ev.bind (lower_impl x hm) ?_)
      have hp : partB x = (bytesOf x).all low := by
        simp only [partB]
        rw [decide_eq_true (by omega), Bool.and_true]
      rw [hp]
      cases e : (bytesOf x).all low with
      | false => exact evNeg (by simp) (evTo (Ev.now _) (by simp))
      | true =>
        refine evPos rfl ?_
        rw [w64 (by omega) (by omega), Bool.true_and, show i.toNat + 1 = (i + 1).toNat from by omega]
        exact ih (i + 1) (by omega) (by omega) (by omega)
theorem affixOk_impl (g : ByteArray) (fr : Bool) (st ad wh : ByteArray) (h1 : st.size ≤ 140737488351232) (h2 : ad.size ≤ 140737488351232) (h3 : wh.size ≤ 140737488351232) :
    Ev (fun k => impl_AffixOk.f k g fr st ad wh) (affOk g fr st ad wh) := by
  unfold impl_AffixOk.f
  by_cases c : (g.size : Int) = 1
  · refine evPos c (evPos (by omega) (evCall (upper_impl _) ?_))
    have hf : flagB g = (decide (65 ≤ bt g 0) && decide (bt g 0 ≤ 90)) := by
      simp only [flagB]
      rw [decide_eq_true (by omega), Bool.true_and]
    rw [← hf]
    cases e : flagB g with
    | false => exact Ev.step (fun k => impl_AffixOk.j0.eq_2 _ _ _ _ _ _ _) (evPos rfl (evTo (Ev.now _) (by simp [affOk, e])))
    | true =>
      refine Ev.step (fun k => impl_AffixOk.j0.eq_2 _ _ _ _ _ _ _) (evNeg (by simp) (evCall rfl ?_))
      refine evTo (parts_loop g fr st ad wh [st, ad, wh] (by simp) (by
        intro x hx
        simp only [List.mem_cons, List.not_mem_nil, or_false] at hx
        rcases hx with rfl | rfl | rfl <;> assumption) h3 3 0 (by omega) (by simp) (by simp)) ?_
      simp [affOk, e, Bool.and_assoc]
  · refine evNeg c (Ev.step (fun k => impl_AffixOk.j0.eq_2 _ _ _ _ _ _ _) (evPos rfl (evTo (Ev.now _) ?_)))
    have : flagB g = false := by simp [flagB]; omega
    simp [affOk, this]
theorem affixDo_impl (g : ByteArray) (fr : Bool) (st ad wh stem : ByteArray) (h1 : st.size ≤ 140737488351232) (h2 : ad.size ≤ 140737488351232) (h3 : wh.size ≤ 140737488351232) (h4 : stem.size ≤ 281474976710656) :
    Ev (fun k => impl_AffixDo.f k g fr st ad wh stem) (outB (affDo g fr st ad wh stem)) := by
  have no : ∀ r, r = ((⟨#[]⟩ : ByteArray), false) → Ev (fun k => impl_AffixDo.j0 k stem true g fr st ad wh) r := fun r hr => Ev.step (fun k => impl_AffixDo.j0.eq_2 _ _ _ _ _ _ _ _) (evPos rfl (evTo (Ev.now _) hr.symm))
  unfold impl_AffixDo.f
  refine Ev.bind (affixOk_impl g fr st ad wh h1 h2 h3) ?_
  cases e1 : affOk g fr st ad wh with
  | false => exact evNeg (by simp) (no _ (by simp [affDo, e1, outB]))
  | true =>
    refine evPos rfl (Ev.bind (word_impl' stem h4) ?_)
    cases e2 : wordB stem with
    | false => exact no _ (by simp [affDo, e2, outB])
    | true =>
      have h12 := (wordB_size e2).2
      have hst := strip_size e1
      refine Ev.step (fun k => impl_AffixDo.j0.eq_2 _ _ _ _ _ _ _ _) (evNeg (by simp) ?_)
      cases fr with
      | true =>
        refine evPos rfl (evCall (hasPrefix_lib _ _) ?_)
        by_cases c : begB stem wh = true
        · have hs := begB_size c
          have hz : (stem.extract st.size stem.size).size = stem.size - st.size := size_extract _ _ _ (by omega) (Nat.le_refl _)
          refine evPos c (evPos (by omega) (evPos (by omega) ?_))
          try rw [Int.toNat_natCast]
          refine evPos (by omega) (Ev.bind (word_impl' _ (by rw [size_append]; omega)) ?_)
          cases e3 : wordB (ad ++ stem.extract st.size stem.size) with
          | true => exact evPos rfl (evTo (Ev.now _) (by simp [affDo, e1, e2, doB, c, e3, Option.filter, outB]))
          | false => exact evNeg (by simp) (evTo (Ev.now _) (by simp [affDo, e1, e2, doB, c, e3, Option.filter, outB]))
        · exact evNeg c (evTo (Ev.now _) (by simp [affDo, e1, e2, doB, c, outB]))
      | false =>
        refine evNeg (by simp) (evCall (hasSuffix_lib _ _ (by omega)) ?_)
        by_cases c : endB stem wh = true
        · have hs := endB_size c
          have hz : (stem.extract 0 (stem.size - st.size)).size = stem.size - st.size := by
            rw [size_extract _ _ _ (by omega) (by omega)]
            omega
          refine evPos c ?_
          rw [w64 (by omega) (by omega), show ((stem.size : Int) - (st.size : Int)).toNat = stem.size - st.size from by omega]
          refine evPos (by omega) (evPos (by omega) (evPos (by omega) (Ev.bind (word_impl' _ (by rw [size_append]; omega)) ?_)))
          cases e3 : wordB (stem.extract 0 (stem.size - st.size) ++ ad) with
          | true => exact evPos rfl (evTo (Ev.now _) (by simp [affDo, e1, e2, doB, c, e3, Option.filter, outB]))
          | false => exact evNeg (by simp) (evTo (Ev.now _) (by simp [affDo, e1, e2, doB, c, e3, Option.filter, outB]))
        · exact evNeg c (evTo (Ev.now _) (by simp [affDo, e1, e2, doB, c, outB]))
theorem cutPrefix_lib (s p : ByteArray) : strings_CutPrefix.f s p = some (if begB s p = true then s.extract p.size s.size else s, begB s p) := by
  unfold strings_CutPrefix.f stringslite_CutPrefix.f
  rw [hasPrefix0]
  simp only [Option.bind_some]
  by_cases c : begB s p = true
  · have := begB_size c
    rw [if_pos c, if_pos (by omega), if_pos (by omega), if_pos c, c]
    simp
  · rw [if_neg c, if_neg c]
    simp at c
    simp [c]
theorem cutSuffix_lib (s p : ByteArray) (h : s.size ≤ 1407374883512320) : strings_CutSuffix.f s p = some (if endB s p = true then s.extract 0 (s.size - p.size) else s, endB s p) := by
  unfold strings_CutSuffix.f stringslite_CutSuffix.f
  rw [hasSuffix0 s p h]
  simp only [Option.bind_some]
  by_cases c : endB s p = true
  · have := endB_size c
    rw [if_pos c, w64 (by omega) (by omega), if_pos (by omega), if_pos (by omega), if_pos c, c, show ((s.size : Int) - (p.size : Int)).toNat = s.size - p.size from by omega]
    simp
  · rw [if_neg c, if_neg c]
    simp at c
    simp [c]
theorem affixBack_impl (g : ByteArray) (fr : Bool) (st ad wh word : ByteArray) (h1 : st.size ≤ 140737488351232) (h2 : ad.size ≤ 140737488351232) (h3 : wh.size ≤ 140737488351232) (h4 : word.size ≤ 140737488351232) :
    Ev (fun k => impl_AffixBack.f k g fr st ad wh word) (outB (affBack g fr st ad wh word)) := by
  unfold impl_AffixBack.f
  cases fr with
  | true =>
    refine evPos rfl (evCall (cutPrefix_lib _ _) ?_)
    have hz : (if begB word ad = true then word.extract ad.size word.size else word).size ≤ word.size := by
      split
      · rename_i c
        rw [size_extract _ _ _ (begB_size c) (Nat.le_refl _)]
        omega
      · omega
    dsimp only
    refine evPos (by omega) (Ev.bind (affixDo_impl g true st ad wh _ h1 h2 h3 (by rw [size_append]; omega)) ?_)
    by_cases c : begB word ad = true
    · refine evPos c ?_
      rw [if_pos c]
      cases e : affDo g true st ad wh (st ++ word.extract ad.size word.size) with
      | none => exact evNeg (by simp [outB]) (evTo (Ev.now _) (by simp [affBack, backOk, backStem, c, e, outB]))
      | some x =>
        refine evPos rfl ?_
        by_cases c2 : x = word
        · subst c2
          exact evPos rfl (evTo (Ev.now _) (by simp [affBack, backOk, backStem, c, e, outB]))
        · exact evNeg (fun h => c2 ((toList_iff _ _).1 h)) (evTo (Ev.now _) (by simp [affBack, backOk, backStem, c, e, outB, c2]))
    · exact evNeg c (evTo (Ev.now _) (by simp [affBack, backOk, c, outB]))
  | false =>
    refine evNeg (by simp) (evCall (cutSuffix_lib _ _ (by omega)) ?_)
    have hz : (if endB word ad = true then word.extract 0 (word.size - ad.size) else word).size ≤ word.size := by
      split
      · rename_i c
        rw [size_extract _ _ _ (by omega) (by omega)]
        omega
      · omega
    dsimp only
    refine evPos (by omega) (Ev.bind (affixDo_impl g false st ad wh _ h1 h2 h3 (by rw [size_append]; omega)) ?_)
    by_cases c : endB word ad = true
    · refine evPos c ?_
      rw [if_pos c]
      cases e : affDo g false st ad wh (word.extract 0 (word.size - ad.size) ++ st) with
      | none => exact evNeg (by simp [outB]) (evTo (Ev.now _) (by simp [affBack, backOk, backStem, c, e, outB]))
      | some x =>
        refine evPos rfl ?_
        by_cases c2 : x = word
        · subst c2
          exact evPos rfl (evTo (Ev.now _) (by simp [affBack, backOk, backStem, c, e, outB]))
        · exact evNeg (fun h => c2 ((toList_iff _ _).1 h)) (evTo (Ev.now _) (by simp [affBack, backOk, backStem, c, e, outB, c2]))
    · exact evNeg c (evTo (Ev.now _) (by simp [affBack, backOk, c, outB]))
theorem l1Word_spec (s : ByteArray) (h : s.size ≤ 140737488351232) : Ev (fun k => spec_l1Word.f k s) (wordB s) := by
  unfold spec_l1Word.f
  by_cases c : (s.size : Int) > 0
  · have hp : 0 < s.size := by omega
    refine evPos c (Ev.bind (letters_spec s 12 h) (evTo (Ev.now _) ?_))
    simp only [wordB, wordL, bytesOf_length, decide_eq_true hp, Bool.true_and]
    rw [Bool.and_comm]
    congr 1
    exact decide_eq_decide.2 (by omega)
  · exact evNeg c (evTo (Ev.now _) (wordB_no (by omega)).symm)
theorem l1Word_spec' (s : ByteArray) (h : s.size ≤ 281474976710656) : Ev (fun k => spec_l1Word.f k s) (wordB s) := by
  by_cases c : s.size ≤ 140737488351232
  · exact l1Word_spec s c
  unfold spec_l1Word.f
  refine evPos (by omega) (Ev.bind (letters_wide s 12 h) (evTo (Ev.now _) ?_))
  rw [wordB_no (by omega), decide_eq_false (by omega), Bool.and_false]
theorem l2Do_spec (g : ByteArray) (fr : Bool) (st ad wh stem : ByteArray) (h1 : st.size ≤ wh.size) (h2 : ad.size ≤ 140737488351232) (h3 : stem.size ≤ 140737488351232) :
    Ev (fun k => spec_l2Do.f k g fr st ad wh stem) (outW (doB fr st ad wh stem)) := by
  unfold spec_l2Do.f
  cases fr with
  | true =>
    refine evPos rfl (evCall (begins_spec _ _) ?_)
    by_cases c : begB stem wh = true
    · have hs := begB_size c
      have hz : (stem.extract st.size stem.size).size = stem.size - st.size := size_extract _ _ _ (by omega) (Nat.le_refl _)
      refine evPos c (evPos (by omega) (evPos (by omega) ?_))
      try rw [Int.toNat_natCast]
      refine evPos (by omega) (Ev.bind (l1Word_spec' _ (by rw [size_append]; omega)) (evTo (Ev.now _) ?_))
      simp [doB, c, outW]
    · exact evNeg c (evTo (Ev.now _) (by simp [doB, c, outW]))
  | false =>
    refine evNeg (by simp) (evCall (ends_spec _ _ (by omega)) ?_)
    by_cases c : endB stem wh = true
    · have hs := endB_size c
      have hz : (stem.extract 0 (stem.size - st.size)).size = stem.size - st.size := by
        rw [size_extract _ _ _ (by omega) (by omega)]
        omega
      refine evPos c ?_
      rw [w64 (by omega) (by omega), show ((stem.size : Int) - (st.size : Int)).toNat = stem.size - st.size from by omega]
      refine evPos (by omega) (evPos (by omega) (evPos (by omega) (Ev.bind (l1Word_spec' _ (by rw [size_append]; omega)) (evTo (Ev.now _) ?_))))
      simp [doB, c, outW]
    · exact evNeg c (evTo (Ev.now _) (by simp [doB, c, outW]))
theorem back_join (g : ByteArray) (fr : Bool) (st ad wh word stem : ByteArray) (h0 : affOk g fr st ad wh = true) (h2 : ad.size ≤ 140737488351232) (h3 : stem.size ≤ 281474976710656) :
    Ev (fun k => spec_AffixBack.j1 k word stem g fr st ad wh) (outB (if affDo g fr st ad wh stem = some word then some stem else none)) := by
  have hst := strip_size h0
  refine Ev.step (fun k => spec_AffixBack.j1.eq_2 _ _ _ _ _ _ _ _) (Ev.bind (l1Word_spec' stem h3) ?_)
  cases e2 : wordB stem with
  | false => exact evNeg (by simp) (evTo (Ev.now _) (by simp [affDo, e2, outB]))
  | true =>
    have h12 := (wordB_size e2).2
    refine evPos rfl (Ev.bind (l2Do_spec g fr st ad wh stem hst h2 (by omega)) ?_)
    cases e : doB fr st ad wh stem with
    | none => exact evNeg (by simp [outW]) (evTo (Ev.now _) (by simp [affDo, e, outB]))
    | some x =>
      cases e3 : wordB x with
      | false => exact evNeg (by simp [outW, e3]) (evTo (Ev.now _) (by simp [affDo, e, e3, outB, Option.filter]))
      | true =>
        refine evPos e3 ?_
        by_cases c : x = word
        · subst c
          exact evPos rfl (evTo (Ev.now _) (by simp [affDo, h0, e2, e, e3, outB, Option.filter]))
        · exact evNeg (fun h => c ((toList_iff _ _).1 h)) (evTo (Ev.now _) (by simp [affDo, h0, e2, e, e3, outB, Option.filter, c]))
theorem affixBack_spec (g : ByteArray) (fr : Bool) (st ad wh word : ByteArray) (h1 : st.size ≤ 140737488351232) (h2 : ad.size ≤ 140737488351232) (h3 : wh.size ≤ 140737488351232) (h4 : word.size ≤ 140737488351232) :
    Ev (fun k => spec_AffixBack.f k g fr st ad wh word) (outB (affBack g fr st ad wh word)) := by
  have no : ∀ r, r = ((⟨#[]⟩ : ByteArray), false) → Ev (fun k => spec_AffixBack.j0 k word true g fr st ad wh) r := fun r hr => Ev.step (fun k => spec_AffixBack.j0.eq_2 _ _ _ _ _ _ _ _) (evPos rfl (evTo (Ev.now _) hr.symm))
  have nodo : ∀ s, affDo g fr st ad wh s = some word → affOk g fr st ad wh = true ∧ wordB word = true := fun s hs => ⟨(affDo_some hs).1, (affDo_some hs).2.2.2⟩
  unfold spec_AffixBack.f
  refine Ev.bind (affixOk_spec g fr st ad wh h1 h2 h3) ?_
  cases e1 : affOk g fr st ad wh with
  | false =>
    refine evNeg (by simp) (no _ ?_)
    unfold affBack
    rw [if_neg (fun h => by have := (nodo _ h.2).1; rw [e1] at this; cases this)]
    rfl
  | true =>
    refine evPos rfl (Ev.bind (l1Word_spec word h4) ?_)
    cases e2 : wordB word with
    | false =>
      refine no _ ?_
      unfold affBack
      rw [if_neg (fun h => by have := (nodo _ h.2).2; rw [e2] at this; cases this)]
      rfl
    | true =>
      refine Ev.step (fun k => spec_AffixBack.j0.eq_2 _ _ _ _ _ _ _ _) (evNeg (by simp) ?_)
      cases fr with
      | true =>
        refine evPos rfl (evCall (begins_spec _ _) ?_)
        by_cases c : begB word ad = true
        · have hs := begB_size c
          have hz : (word.extract ad.size word.size).size = word.size - ad.size := size_extract _ _ _ (by omega) (Nat.le_refl _)
          refine evPos c (evPos (by omega) (evPos (by omega) ?_))
          try rw [Int.toNat_natCast]
          refine evPos (by omega) (evTo (back_join g true st ad wh word _ e1 h2 (by rw [size_append]; omega)) ?_)
          simp [affBack, backOk, backStem, c]
        · exact evNeg c (evTo (Ev.now _) (by simp [affBack, backOk, c, outB]))
      | false =>
        refine evNeg (by simp) (evCall (ends_spec _ _ (by omega)) ?_)
        by_cases c : endB word ad = true
        · have hs := endB_size c
          have hz : (word.extract 0 (word.size - ad.size)).size = word.size - ad.size := by
            rw [size_extract _ _ _ (by omega) (by omega)]
            omega
          refine evPos c ?_
          rw [w64 (by omega) (by omega), show ((word.size : Int) - (ad.size : Int)).toNat = word.size - ad.size from by omega]
          refine evPos (by omega) (evPos (by omega) (evPos (by omega) (evTo (back_join g false st ad wh word _ e1 h2 (by rw [size_append]; omega)) ?_)))
          simp [affBack, backOk, backStem, c]
        · exact evNeg c (evTo (Ev.now _) (by simp [affBack, backOk, c, outB]))
/-- What a reader's bytes and place are. -/
def Rdr (s : List Int) (p : Int) : Prop := s.length ≤ 2000 ∧ (∀ x ∈ s, 0 ≤ x ∧ x ≤ 255) ∧ 0 ≤ p ∧ p ≤ 1000000000000
theorem Rdr.at_ {s : List Int} {p : Int} (h : Rdr s p) (q : Int) (h0 : 0 ≤ q) (h1 : q ≤ 1000000000000) : Rdr s q := ⟨h.1, h.2.1, h0, h1⟩
theorem rd_range {s : List Int} (h : ∀ x ∈ s, 0 ≤ x ∧ x ≤ 255) (i : Int) : 0 ≤ rd s i ∧ rd s i ≤ 255 := by
  unfold rd
  rw [List.getD_eq_getElem?_getD]
  by_cases c : i.toNat < s.length
  · rw [List.getElem?_eq_getElem c]
    exact h _ (List.getElem_mem c)
  · rw [List.getElem?_eq_none (by omega)]
    simp
def pickY (a b p q : Int) : Int := wrap64 (wrap64 (wrap64 (wrap64 (wrap64 a * 131) + wrap64 (wrap64 b * 1117)) + wrap64 (p * 29)) + wrap64 (wrap64 q * 53))
def pickX (a b p q : Int) : Int := Go.bits .xor .i64 (pickY a b p q) (wrap64 (Int.tdiv (pickY a b p q) 64))
theorem pickX_pos (a b p q : Int) (ha : 0 ≤ a ∧ a ≤ 255) (hb : 0 ≤ b ∧ b ≤ 255) (h0 : 0 ≤ p) (h1 : p ≤ 1000000000000) (q0 : 0 ≤ q) (q1 : q ≤ p) : 0 ≤ pickX a b p q := by
  have e : pickY a b p q = a * 131 + b * 1117 + p * 29 + q * 53 := by
    unfold pickY
    rw [w64 (n := a) (by omega) (by omega), w64 (n := b) (by omega) (by omega), w64 (n := a * 131) (by omega) (by omega), w64 (n := b * 1117) (by omega) (by omega), w64 (n := p * 29) (by omega) (by omega), w64 (n := q) (by omega) (by omega), w64 (n := q * 53) (by omega) (by omega), w64 (n := a * 131 + b * 1117) (by omega) (by omega), w64 (n := a * 131 + b * 1117 + p * 29) (by omega) (by omega), w64 (n := a * 131 + b * 1117 + p * 29 + q * 53) (by omega) (by omega)]
  unfold pickX
  rw [e]
  have x0 : 0 ≤ a * 131 + b * 1117 + p * 29 + q * 53 := by omega
  have x1 : a * 131 + b * 1117 + p * 29 + q * 53 < 4611686018427387904 := by omega
  generalize a * 131 + b * 1117 + p * 29 + q * 53 = x at *
  have t0 := Int.tdiv_nonneg x0 (show (0 : Int) ≤ 64 from by omega)
  have t1 : Int.tdiv x 64 ≤ x := Int.tdiv_le_self 64 x0
  rw [w64 (n := Int.tdiv x 64) (by omega) (by omega)]
  exact xor_small x (Int.tdiv x 64) x0 x1 t0 (by omega)
theorem pick_ev {s : List Int} {p : Int} (h : Rdr s p) (n : Int) (hn : n ≤ 1000000000000000) : ∃ v, Ev (fun k => spec_l1Rd_pick.f k s p n) (v, p + 1) ∧ 0 ≤ v ∧ (v < n ∨ v = 0) := by
  obtain ⟨hl, hb, hp0, hp1⟩ := h
  have hr := rd_range hb
  unfold spec_l1Rd_pick.f
  rw [w64 (n := p + 1) (by omega) (by omega)]
  by_cases c : n < 1
  · exact ⟨0, evPos c (Ev.step (fun k => spec_l1Rd_pick.j0.eq_2 _ _ _ _ _) (evPos rfl (Ev.now _))), by omega, .inr rfl⟩
  by_cases e : s.length = 0
  · exact ⟨0, evNeg c (Ev.step (fun k => spec_l1Rd_pick.j0.eq_2 _ _ _ _ _) (evPos (by simp [e]) (Ev.now _))), by omega, .inr rfl⟩
  have hlen : 0 < (s.length : Int) := by omega
  have wr (i : Int) : wrap64 (rd s i) = rd s i := w64 (by have := (hr i).1; omega) (by have := (hr i).2; omega)
  by_cases c2 : p < (s.length : Int)
  · have h1 := hr p
    refine ⟨Int.tmod (rd s p) n, evNeg c (Ev.step (fun k => spec_l1Rd_pick.j0.eq_2 _ _ _ _ _) (evNeg (by simpa using e) ?_)), Int.tmod_nonneg _ h1.1, .inl (Int.tmod_lt_of_pos _ (by omega))⟩
    rw [show p + 1 - 1 = p from by omega, w64 (n := p) (by omega) (by omega), wr]
    exact evPos c2 (evPos hp0 (evNeg (by omega) (Ev.now _)))
  have m1 := Int.tmod_nonneg (s.length : Int) hp0
  have m2 := Int.tmod_lt_of_pos p hlen
  have m3 := Int.tmod_nonneg (s.length : Int) (show 0 ≤ p * 7 + 3 from by omega)
  have m4 := Int.tmod_lt_of_pos (p * 7 + 3) hlen
  have d1 := Int.tdiv_nonneg hp0 (show 0 ≤ (s.length : Int) from by omega)
  have d2 : Int.tdiv p (s.length : Int) ≤ p := Int.tdiv_le_self (s.length : Int) hp0
  have hz := pickX_pos (rd s (Int.tmod p (s.length : Int))) (rd s (Int.tmod (p * 7 + 3) (s.length : Int))) p (Int.tdiv p (s.length : Int)) (hr _) (hr _) hp0 hp1 d1 d2
  refine ⟨Int.tmod (pickX (rd s (Int.tmod p (s.length : Int))) (rd s (Int.tmod (p * 7 + 3) (s.length : Int))) p (Int.tdiv p (s.length : Int))) n, evNeg c (Ev.step (fun k => spec_l1Rd_pick.j0.eq_2 _ _ _ _ _) (evNeg (by simpa using e) ?_)), Int.tmod_nonneg _ hz, .inl (Int.tmod_lt_of_pos _ (by omega))⟩
  rw [show p + 1 - 1 = p from by omega, w64 (n := p) (by omega) (by omega), w64 (n := p * 7) (by omega) (by omega), w64 (n := p * 7 + 3) (by omega) (by omega)]
  exact evNeg c2 (evNeg (by omega) (evPos m1 (evPos m2 (evPos m3 (evPos m4 (evNeg (by omega) (Ev.now _)))))))
theorem of_ev {s : List Int} {p : Int} (h : Rdr s p) (l : List ByteArray) (h0 : 0 < l.length) (h1 : l.length ≤ 1000000) : ∃ x ∈ l, Ev (fun k => spec_l1Rd_of.f k s p l) (x, p + 1) := by
  obtain ⟨v, hv, v0, v1⟩ := pick_ev h (l.length : Int) (by omega)
  have v2 : v < (l.length : Int) := by omega
  have hl : v.toNat < l.length := by omega
  refine ⟨l[v.toNat], List.getElem_mem hl, ?_⟩
  unfold spec_l1Rd_of.f
  refine Ev.bind hv (evPos v0 (evPos v2 (evTo (Ev.now _) ?_)))
  simp [rdOf, List.getD_eq_getElem?_getD, List.getElem?_eq_getElem hl]
theorem open_ev (l : List Int) (h : ∀ x ∈ l, (Lit.int .u8 x).wf = true) : ∃ s, spec_l1Open.f l = some (s, 0) ∧ Rdr s 0 := by
  have hb : ∀ x ∈ l, 0 ≤ x ∧ x ≤ 255 := by
    intro x hx
    have := h x hx
    simp [Lit.wf, IntKind.min, IntKind.max, IntKind.signed, IntKind.bits] at this
    omega
  unfold spec_l1Open.f
  by_cases c : (l.length : Int) > 2000
  · refine ⟨l.take 2000, by rw [if_pos c, if_pos (by omega)], ?_, fun x hx => hb x (List.mem_of_mem_take hx), by omega, by omega⟩
    rw [List.length_take]
    omega
  · exact ⟨l, by rw [if_neg c], by omega, hb, by omega, by omega⟩
theorem least_spec (a b : Int) : spec_l1Least.f a b = some (min a b) := by
  unfold spec_l1Least.f
  by_cases c : a < b
  · rw [if_pos c]; congr 1; omega
  · rw [if_neg c]; congr 1; omega
theorem word13_loop {s : List Int} (d : Nat) : ∀ (x : ByteArray) (n p : Int), Rdr s p → p + d ≤ 1000000000000 → n = d → x.size + 2 * d ≤ 1000000 →
    ∃ r p', Ev (fun k => spec_l13Word.l0 k x n s p) (r, p') ∧ r.size ≤ 12 ∧ p ≤ p' ∧ p' ≤ p + d := by
  induction d with
  | zero =>
    intro x n p h hp hn hx
    refine ⟨x.extract 0 (min x.size 12), p, Ev.step (fun k => spec_l13Word.l0.eq_2 _ _ _ _ _) (evNeg (by omega) (evCall (least_spec _ _) ?_)), ?_, by omega, by omega⟩
    · refine evPos (by omega) (evPos (by omega) (evTo (Ev.now _) ?_))
      congr 3
      omega
    · rw [size_extract _ _ _ (by omega) (by omega)]
      omega
  | succ d ih =>
    intro x n p h hp hn hx
    have hls : ∀ y ∈ ([(⟨#[97]⟩ : ByteArray), (⟨#[98]⟩ : ByteArray), (⟨#[99]⟩ : ByteArray), (⟨#[97, 98]⟩ : ByteArray), (⟨#[116]⟩ : ByteArray)] : List ByteArray), y.size ≤ 2 := by
      intro y hy
      simp only [List.mem_cons, List.not_mem_nil, or_false] at hy
      rcases hy with rfl | rfl | rfl | rfl | rfl <;> decide
    obtain ⟨y, hy, he⟩ := of_ev h ([(⟨#[97]⟩ : ByteArray), (⟨#[98]⟩ : ByteArray), (⟨#[99]⟩ : ByteArray), (⟨#[97, 98]⟩ : ByteArray), (⟨#[116]⟩ : ByteArray)] : List ByteArray) (by simp) (by simp)
    have hy2 := hls y hy
    obtain ⟨r, p', hr, h1, h2, h3⟩ := ih (x ++ y) (n - 1) (p + 1) (h.at_ _ (by have := h.2.2.1; omega) (by omega)) (by omega) (by omega) (by rw [size_append]; omega)
    refine ⟨r, p', Ev.step (fun k => spec_l13Word.l0.eq_2 _ _ _ _ _) (evPos (by omega) (Ev.bind he (evPos (by dsimp only; omega) ?_))), h1, by omega, by omega⟩
    rw [w64 (by omega) (by omega)]
    exact hr
theorem word13_ev {s : List Int} {p : Int} (h : Rdr s p) (hp : p ≤ 999999999900) : ∃ r p', Ev (fun k => spec_l13Word.f k s p) (r, p') ∧ r.size ≤ 12 ∧ p ≤ p' ∧ p' ≤ p + 10 := by
  have h0 := h.2.2.1
  obtain ⟨v, hv, v0, v1⟩ := pick_ev h 3 (by omega)
  unfold spec_l13Word.f
  by_cases c : v = 0
  · obtain ⟨u, hu, u0, u1⟩ := pick_ev (h.at_ (p + 1) (by omega) (by omega)) 5 (by omega)
    obtain ⟨d, hd⟩ := Int.eq_ofNat_of_zero_le (show 0 ≤ 1 + u from by omega)
    obtain ⟨r, p', hr, h1, h2, h3⟩ := word13_loop d (⟨#[]⟩ : ByteArray) (1 + u) (p + 1 + 1) (h.at_ _ (by omega) (by omega)) (by omega) hd (by have : (⟨#[]⟩ : ByteArray).size = 0 := rfl; omega)
    refine ⟨r, p', Ev.bind hv (evPos c (Ev.bind hu ?_)), h1, by omega, by omega⟩
    rw [w64 (by dsimp only; omega) (by dsimp only; omega)]
    exact hr
  · obtain ⟨y, hy, he⟩ := of_ev (h.at_ (p + 1) (by omega) (by omega)) ([(⟨#[99, 97, 116]⟩ : ByteArray), (⟨#[99, 97, 116, 115]⟩ : ByteArray), (⟨#[97, 99, 116]⟩ : ByteArray), (⟨#[100, 111]⟩ : ByteArray), (⟨#[100, 111, 105, 110, 103]⟩ : ByteArray), (⟨#[103, 111]⟩ : ByteArray), (⟨#[117, 110, 100, 111]⟩ : ByteArray), (⟨#[116, 114, 121]⟩ : ByteArray), (⟨#[116, 114, 105, 101, 115]⟩ : ByteArray), (⟨#[97]⟩ : ByteArray), (⟨#[98, 97, 107, 101]⟩ : ByteArray), (⟨#[98, 97, 107, 105, 110, 103]⟩ : ByteArray), (⟨#[116, 97, 99, 116]⟩ : ByteArray), (⟨#[99, 97, 114, 116]⟩ : ByteArray), (⟨#[97, 98, 99, 97, 98, 99, 97, 98, 99, 97, 98, 99]⟩ : ByteArray)] : List ByteArray) (by simp) (by simp)
    refine ⟨y, p + 1 + 1, Ev.bind hv (evNeg c (Ev.bind he (Ev.now _))), ?_, by omega, by omega⟩
    simp only [List.mem_cons, List.not_mem_nil, or_false] at hy
    rcases hy with rfl | rfl | rfl | rfl | rfl | rfl | rfl | rfl | rfl | rfl | rfl | rfl | rfl | rfl | rfl <;> decide
theorem any13_ev {s : List Int} {p : Int} (h : Rdr s p) (hp : p ≤ 999999999800) : ∃ r p', Ev (fun k => spec_l13AnyWord.f k s p) (r, p') ∧ r.size ≤ 13 ∧ p ≤ p' ∧ p' ≤ p + 11 := by
  have h0 := h.2.2.1
  obtain ⟨v, hv, v0, v1⟩ := pick_ev h 16 (by omega)
  unfold spec_l13AnyWord.f
  by_cases c : v = 0
  · obtain ⟨y, hy, he⟩ := of_ev (h.at_ (p + 1) (by omega) (by omega)) ([(⟨#[]⟩ : ByteArray), (⟨#[67, 97, 116]⟩ : ByteArray), (⟨#[97, 32, 98]⟩ : ByteArray), (⟨#[97, 98, 99, 97, 98, 99, 97, 98, 99, 97, 98, 99, 97]⟩ : ByteArray), (⟨#[120, 49]⟩ : ByteArray), (⟨#[45]⟩ : ByteArray)] : List ByteArray) (by simp) (by simp)
    refine ⟨y, p + 1 + 1, Ev.bind hv (evPos c (Ev.bind he (Ev.now _))), ?_, by omega, by omega⟩
    simp only [List.mem_cons, List.not_mem_nil, or_false] at hy
    rcases hy with rfl | rfl | rfl | rfl | rfl | rfl <;> decide
  · obtain ⟨r, p', hr, h1, h2, h3⟩ := word13_ev (h.at_ (p + 1) (by omega) (by omega)) (by omega)
    exact ⟨r, p', Ev.bind hv (evNeg c (Ev.bind hr (Ev.now _))), by omega, by omega, by omega⟩
theorem affix13_ev {s : List Int} {p : Int} (h : Rdr s p) : ∃ g fr st ad wh, Ev (fun k => spec_l13Affix.f k s p) (g, fr, st, ad, wh, p + 1) ∧ st.size ≤ 13 ∧ ad.size ≤ 13 ∧ wh.size ≤ 13 := by
  unfold spec_l13Affix.f
  obtain ⟨v, hv, v0, v1⟩ := pick_ev h 8 (by omega)
  have hs : v = 0 ∨ v = 1 ∨ v = 2 ∨ v = 3 ∨ v = 4 ∨ v = 5 ∨ v = 6 ∨ v = 7 := by omega
  refine ⟨_, _, _, _, _, evCall rfl (Ev.bind hv (evPos v0 (evPos (by simp only [List.length]; omega) (Ev.now _)))), ?_⟩
  rcases hs with rfl | rfl | rfl | rfl | rfl | rfl | rfl | rfl <;> (dsimp only; decide)
theorem anyAffix_ev {s : List Int} {p : Int} (h : Rdr s p) (hp : p ≤ 999999999000) : ∃ g fr st ad wh p', Ev (fun k => spec_l13AnyAffix.f k s p) (g, fr, st, ad, wh, p') ∧ st.size ≤ 13 ∧ ad.size ≤ 13 ∧ wh.size ≤ 13 ∧ p ≤ p' ∧ p' ≤ p + 10 := by
  have h0 := h.2.2.1
  obtain ⟨g, fr, st, ad, wh, he, z1, z2, z3⟩ := affix13_ev h
  obtain ⟨v, hv, v0, v1⟩ := pick_ev (h.at_ (p + 1) (by omega) (by omega)) 12 (by omega)
  have h2 := h.at_ (p + 1 + 1) (by omega) (by omega)
  unfold spec_l13AnyAffix.f
  by_cases c0 : v = 0
  · obtain ⟨y, hy, hy2⟩ := of_ev h2 ([(⟨#[]⟩ : ByteArray), (⟨#[115]⟩ : ByteArray), (⟨#[65, 66]⟩ : ByteArray), (⟨#[90]⟩ : ByteArray)] : List ByteArray) (by simp) (by simp)
    exact ⟨y, fr, st, ad, wh, p + 1 + 1 + 1, Ev.bind he (Ev.bind hv (evPos c0 (Ev.bind hy2 (Ev.now _)))), z1, z2, z3, by omega, by omega⟩
  by_cases c1 : v = 1
  · obtain ⟨y, hy, hy2⟩ := of_ev h2 ([(⟨#[121]⟩ : ByteArray), (⟨#[97, 98, 99, 100, 101]⟩ : ByteArray), (⟨#[]⟩ : ByteArray), (⟨#[89]⟩ : ByteArray)] : List ByteArray) (by simp) (by simp)
    refine ⟨g, fr, y, ad, wh, p + 1 + 1 + 1, Ev.bind he (Ev.bind hv (evNeg c0 (evPos c1 (Ev.bind hy2 (Ev.now _))))), ?_, z2, z3, by omega, by omega⟩
    simp only [List.mem_cons, List.not_mem_nil, or_false] at hy
    rcases hy with rfl | rfl | rfl | rfl <;> decide
  by_cases c2 : v = 2
  · obtain ⟨y, hy, hy2⟩ := of_ev h2 ([(⟨#[121]⟩ : ByteArray), (⟨#[116, 121]⟩ : ByteArray), (⟨#[97, 98, 99, 100, 101]⟩ : ByteArray), (⟨#[]⟩ : ByteArray)] : List ByteArray) (by simp) (by simp)
    refine ⟨g, fr, st, ad, y, p + 1 + 1 + 1, Ev.bind he (Ev.bind hv (evNeg c0 (evNeg c1 (evPos c2 (Ev.bind hy2 (Ev.now _)))))), z1, z2, ?_, by omega, by omega⟩
    simp only [List.mem_cons, List.not_mem_nil, or_false] at hy
    rcases hy with rfl | rfl | rfl | rfl <;> decide
  by_cases c3 : v = 3
  · exact ⟨g, !fr, st, ad, wh, p + 1 + 1, Ev.bind he (Ev.bind hv (evNeg c0 (evNeg c1 (evNeg c2 (evPos c3 (Ev.now _)))))), z1, z2, z3, by omega, by omega⟩
  · exact ⟨g, fr, st, ad, wh, p + 1 + 1, Ev.bind he (Ev.bind hv (evNeg c0 (evNeg c1 (evNeg c2 (evNeg c3 (Ev.now _)))))), z1, z2, z3, by omega, by omega⟩
theorem drawBack_ev (l : List Int) (h : ∀ x ∈ l, (Lit.int .u8 x).wf = true) : ∃ g fr st ad wh s, Ev (fun k => spec_DrawAffixBack.f k l) (g, fr, st, ad, wh, s) ∧ st.size ≤ 13 ∧ ad.size ≤ 13 ∧ wh.size ≤ 13 ∧ s.size ≤ 1000 := by
  obtain ⟨s, hs, hr⟩ := open_ev l h
  obtain ⟨g, fr, st, ad, wh, p1, he, z1, z2, z3, q1, q2⟩ := anyAffix_ev hr (by omega)
  obtain ⟨y, hy, hy2⟩ := of_ev (hr.at_ p1 (by omega) (by omega)) ([(⟨#[116, 114, 121]⟩ : ByteArray), (⟨#[98, 97, 107, 101]⟩ : ByteArray), (⟨#[97, 99, 116]⟩ : ByteArray), (⟨#[116, 97, 99]⟩ : ByteArray), (⟨#[97]⟩ : ByteArray), (⟨#[100, 111]⟩ : ByteArray), (⟨#[99, 97, 116]⟩ : ByteArray)] : List ByteArray) (by simp) (by simp)
  have hy3 : y.size ≤ 13 := by
    simp only [List.mem_cons, List.not_mem_nil, or_false] at hy
    rcases hy with rfl | rfl | rfl | rfl | rfl | rfl | rfl <;> decide
  have hno : ∀ p, 0 ≤ p → p ≤ 1000 → ∃ r, Ev (fun k => spec_DrawAffixBack.j0 k y false s p g fr st ad wh) (g, fr, st, ad, wh, r) ∧ r.size ≤ 1000 := by
    intro p p0 p1
    obtain ⟨r, p', h1, h2, _, _⟩ := any13_ev (hr.at_ p (by omega) (by omega)) (by omega)
    exact ⟨r, Ev.step (fun k => spec_DrawAffixBack.j0.eq_2 _ _ _ _ _ _ _ _ _ _) (evNeg (by simp) (Ev.bind h1 (Ev.now _))), by omega⟩
  have hok := affixOk_spec g fr st ad wh (by omega) (by omega) (by omega)
  cases e : affOk g fr st ad wh with
  | false =>
    rw [e] at hok
    obtain ⟨r, h1, h2⟩ := hno (p1 + 1) (by omega) (by omega)
    exact ⟨g, fr, st, ad, wh, r, evCall hs (Ev.bind he (Ev.bind hy2 (Ev.bind hok (evNeg (by simp) h1)))), z1, z2, z3, h2⟩
  | true =>
    rw [e] at hok
    obtain ⟨v, hv, v0, v1⟩ := pick_ev (hr.at_ (p1 + 1) (by omega) (by omega)) 3 (by omega)
    by_cases c : v > 0
    · have hd := l2Do_spec g fr st ad wh y (strip_size e) (by omega) (by omega)
      by_cases c2 : (outW (doB fr st ad wh y)).2 = true
      · refine ⟨g, fr, st, ad, wh, (outW (doB fr st ad wh y)).1, evCall hs (Ev.bind he (Ev.bind hy2 (Ev.bind hok (evPos rfl (Ev.bind hv ?_))))), z1, z2, z3, ?_⟩
        · exact Ev.step (fun k => spec_DrawAffixBack.j0.eq_2 _ _ _ _ _ _ _ _ _ _) (evPos (by simpa using c) (Ev.bind hd (evPos c2 (Ev.now _))))
        · cases ed : doB fr st ad wh y with
          | none => simp only [outW]; decide
          | some x =>
            rw [ed] at c2
            have := (wordB_size (s := x) c2).2
            simp only [outW]
            omega
      · obtain ⟨r, p', h1, h2, _, _⟩ := any13_ev (hr.at_ (p1 + 1 + 1) (by omega) (by omega)) (by omega)
        exact ⟨g, fr, st, ad, wh, r, evCall hs (Ev.bind he (Ev.bind hy2 (Ev.bind hok (evPos rfl (Ev.bind hv (Ev.step (fun k => spec_DrawAffixBack.j0.eq_2 _ _ _ _ _ _ _ _ _ _) (evPos (by simpa using c) (Ev.bind hd (evNeg c2 (Ev.bind h1 (Ev.now _))))))))))), z1, z2, z3, by omega⟩
    · obtain ⟨r, h1, h2⟩ := hno (p1 + 1 + 1) (by omega) (by omega)
      refine ⟨g, fr, st, ad, wh, r, evCall hs (Ev.bind he (Ev.bind hy2 (Ev.bind hok (evPos rfl (Ev.bind hv ?_))))), z1, z2, z3, h2⟩
      dsimp only
      rw [decide_eq_false c]
      exact h1
theorem FnAffixBack : laws_FnAffixBack.Pure := by
  intro l0 hl hm hw
  refine Ev.rounds ?_
  unfold laws_FnAffixBack.f
  by_cases c0 : (l0.length : Int) > 1048576
  · exact evPos c0 (Ev.now _)
  obtain ⟨g, fr, st, ad, wh, s, hs, z1, z2, z3, z4⟩ := drawBack_ev l0 hw
  refine evNeg c0 (Ev.bind hs (Ev.bind (affixBack_impl g fr st ad wh s (by omega) (by omega) (by omega) (by omega)) (Ev.bind (affixBack_spec g fr st ad wh s (by omega) (by omega) (by omega) (by omega)) (evPos rfl (evNeg (by simp) ?_)))))
  cases e : affBack g fr st ad wh s with
  | none => exact evNeg (by simp [outB]) (evTo (Ev.now _) (by simp))
  | some x =>
    have hd := affDo_back e
    have hx := (wordB_size (affDo_some hd).2.1).2
    have hi := affixDo_impl g fr st ad wh x (by omega) (by omega) (by omega) (by omega)
    rw [hd] at hi
    exact evPos rfl (Ev.bind hi (evPos rfl (evTo (Ev.now _) (by simp [outB]))))
end Go.Proofs.Yteddmcaljongeaa.Pure

import Derived.Test.YtpljfjbhlboffaaVMStr
namespace Go.Proofs.Ytpljfjbhlboffaa.M
open Go.RowKit Go.Proofs.YtpljfjbhlboffaaW.PrintWords Go.Proofs.YtpljfjbhlboffaaW.PrintLast Go.Proofs.YtpljfjbhlboffaaW.PrintMore

theorem toList_iff (s t : ByteArray) : s.toList = t.toList ↔ s = t := by
  constructor
  · intro h
    rw [Go.ByteArray.toList_eq, Go.ByteArray.toList_eq] at h
    cases s
    cases t
    simpa using h
  · intro h
    rw [h]
theorem toList_beq (s t : ByteArray) : (s.toList == t.toList) = decide (s = t) := by
  by_cases h : s = t
  · simp [h]
  · rw [decide_eq_false h, beq_eq_false_iff_ne]
    exact fun e => h ((toList_iff _ _).1 e)

/-- A text begins, ends with another one. -/
def begB (s p : ByteArray) : Bool := decide (p.size ≤ s.size) && decide (s.extract 0 p.size = p)
def endB (s p : ByteArray) : Bool := decide (p.size ≤ s.size) && decide (s.extract (s.size - p.size) s.size = p)
theorem bytes_take_all (s : ByteArray) (a : Nat) : bytesOf (s.extract a s.size) = (bytesOf s).drop a := by
  rw [bytes_extract, List.take_of_length_le]
  rw [List.length_drop, bytesOf_length]
  exact Nat.le_refl _
theorem bytes_take (s : ByteArray) (b : Nat) : bytesOf (s.extract 0 b) = (bytesOf s).take b := by
  rw [bytes_extract]
  simp
theorem begB_iff (s p : ByteArray) : begB s p = true ↔ ∃ t, bytesOf s = bytesOf p ++ t := by
  simp only [begB, Bool.and_eq_true, decide_eq_true_eq]
  constructor
  · rintro ⟨h1, h2⟩
    refine ⟨(bytesOf s).drop p.size, ?_⟩
    have e : (bytesOf s).take p.size = bytesOf p := by rw [← bytes_take, h2]
    rw [← e, List.take_append_drop]
  · rintro ⟨t, h⟩
    have hl := congrArg List.length h
    rw [List.length_append, bytesOf_length, bytesOf_length] at hl
    refine ⟨by omega, bytes_inj ?_⟩
    rw [bytes_take, h, List.take_left' (bytesOf_length p)]
theorem endB_iff (s p : ByteArray) : endB s p = true ↔ ∃ t, bytesOf s = t ++ bytesOf p := by
  simp only [endB, Bool.and_eq_true, decide_eq_true_eq]
  constructor
  · rintro ⟨h1, h2⟩
    refine ⟨(bytesOf s).take (s.size - p.size), ?_⟩
    have e : (bytesOf s).drop (s.size - p.size) = bytesOf p := by rw [← bytes_take_all, h2]
    rw [← e, List.take_append_drop]
  · rintro ⟨t, h⟩
    have hl := congrArg List.length h
    rw [List.length_append, bytesOf_length, bytesOf_length] at hl
    refine ⟨by omega, bytes_inj ?_⟩
    rw [bytes_take_all, h, List.drop_left' (by omega)]
theorem begB_size {s p : ByteArray} (h : begB s p = true) : p.size ≤ s.size := by
  simp only [begB, Bool.and_eq_true, decide_eq_true_eq] at h
  exact h.1
theorem endB_size {s p : ByteArray} (h : endB s p = true) : p.size ≤ s.size := by
  simp only [endB, Bool.and_eq_true, decide_eq_true_eq] at h
  exact h.1

def flagB (g : ByteArray) : Bool := decide (g.size = 1) && (decide (65 ≤ bt g 0) && decide (bt g 0 ≤ 90))
def partB (s : ByteArray) : Bool := (bytesOf s).all low && decide (s.size ≤ 4)
def affOk (g : ByteArray) (fr : Bool) (st ad wh : ByteArray) : Bool :=
  flagB g && partB st && partB ad && partB wh && (if fr = true then begB wh st else endB wh st)
def doB (fr : Bool) (st ad wh stem : ByteArray) : Option ByteArray :=
  if fr = true then (if begB stem wh = true then some (ad ++ stem.extract st.size stem.size) else none)
  else (if endB stem wh = true then some (stem.extract 0 (stem.size - st.size) ++ ad) else none)
def outB : Option ByteArray → ByteArray × Bool
  | some x => (x, true)
  | none => (⟨#[]⟩, false)
def outW : Option ByteArray → ByteArray × Bool
  | some x => (x, wordB x)
  | none => (⟨#[]⟩, false)
def affDo (g : ByteArray) (fr : Bool) (st ad wh stem : ByteArray) : Option ByteArray :=
  if affOk g fr st ad wh = true ∧ wordB stem = true then (doB fr st ad wh stem).filter wordB else none
def backStem (fr : Bool) (st ad word : ByteArray) : ByteArray := if fr = true then st ++ word.extract ad.size word.size else word.extract 0 (word.size - ad.size) ++ st
def backOk (fr : Bool) (ad word : ByteArray) : Bool := if fr = true then begB word ad else endB word ad
def affBack (g : ByteArray) (fr : Bool) (st ad wh word : ByteArray) : Option ByteArray :=
  if backOk fr ad word = true ∧ affDo g fr st ad wh (backStem fr st ad word) = some word then some (backStem fr st ad word) else none
theorem partB_size {s : ByteArray} (h : partB s = true) : s.size ≤ 4 := by
  simp only [partB, Bool.and_eq_true, decide_eq_true_eq] at h
  exact h.2
theorem affOk_parts {g : ByteArray} {fr : Bool} {st ad wh : ByteArray} (h : affOk g fr st ad wh = true) : flagB g = true ∧ partB st = true ∧ partB ad = true ∧ partB wh = true ∧ (if fr = true then begB wh st else endB wh st) = true := by
  simp only [affOk, Bool.and_eq_true] at h
  exact ⟨h.1.1.1.1, h.1.1.1.2, h.1.1.2, h.1.2, h.2⟩
theorem strip_size {g : ByteArray} {fr : Bool} {st ad wh : ByteArray} (h : affOk g fr st ad wh = true) : st.size ≤ wh.size := by
  have := (affOk_parts h).2.2.2.2
  cases fr with
  | true => exact begB_size this
  | false => exact endB_size this
theorem affDo_some {g : ByteArray} {fr : Bool} {st ad wh stem x : ByteArray} (h : affDo g fr st ad wh stem = some x) : affOk g fr st ad wh = true ∧ wordB stem = true ∧ doB fr st ad wh stem = some x ∧ wordB x = true := by
  unfold affDo at h
  split at h
  · rename_i hc
    rw [Option.filter_eq_some_iff] at h
    exact ⟨hc.1, hc.2, h.1, h.2⟩
  · exact absurd h (by simp)
theorem affDo_intro {g : ByteArray} {fr : Bool} {st ad wh stem x : ByteArray} (h : affOk g fr st ad wh = true) (h1 : wordB stem = true) (h2 : doB fr st ad wh stem = some x) (h3 : wordB x = true) : affDo g fr st ad wh stem = some x := by
  unfold affDo
  rw [if_pos ⟨h, h1⟩, Option.filter_eq_some_iff]
  exact ⟨h2, h3⟩
/-- What an affix makes of a stem it leads back to it. -/
theorem back_do {g : ByteArray} {fr : Bool} {st ad wh stem x : ByteArray} (h : affDo g fr st ad wh stem = some x) :
    backOk fr ad x = true ∧ backStem fr st ad x = stem ∧ x.size + st.size = stem.size + ad.size ∧ st.size ≤ stem.size := by
  obtain ⟨h1, h2, h3, h4⟩ := affDo_some h
  have hp := (affOk_parts h1).2.2.2.2
  cases fr with
  | true =>
    simp only [doB, if_true] at h3
    split at h3
    · rename_i hb
      obtain rfl := Option.some.inj h3
      obtain ⟨t, ht⟩ := (begB_iff _ _).1 hb
      obtain ⟨u, hu⟩ := (begB_iff _ _).1 hp
      have hs : st.size ≤ stem.size := Nat.le_trans (begB_size hp) (begB_size hb)
      have e : bytesOf (stem.extract st.size stem.size) = u ++ t := by
        rw [bytes_take_all, ht, hu, List.append_assoc, List.drop_left' (bytesOf_length st)]
      have z : (stem.extract st.size stem.size).size = stem.size - st.size := size_extract _ _ _ hs (Nat.le_refl _)
      refine ⟨(begB_iff _ _).2 ⟨u ++ t, by rw [bytes_append, e]⟩, bytes_inj ?_, ?_, hs⟩
      · simp only [backStem, if_true]
        rw [bytes_append, bytes_take_all, bytes_append, List.drop_left' (bytesOf_length ad), e, ht, hu, List.append_assoc]
      · rw [size_append, z]
        omega
    · exact absurd h3 (by simp)
  | false =>
    simp only [doB, Bool.false_eq_true, if_false] at h3
    split at h3
    · rename_i hb
      obtain rfl := Option.some.inj h3
      obtain ⟨t, ht⟩ := (endB_iff _ _).1 hb
      obtain ⟨u, hu⟩ := (endB_iff _ _).1 hp
      have hs : st.size ≤ stem.size := Nat.le_trans (endB_size hp) (endB_size hb)
      have hl := congrArg List.length ht
      rw [hu, ← List.append_assoc, List.length_append, bytesOf_length, bytesOf_length] at hl
      have e : bytesOf (stem.extract 0 (stem.size - st.size)) = t ++ u := by
        rw [bytes_take, ht, hu, ← List.append_assoc, List.take_left' (by omega)]
      have z : (stem.extract 0 (stem.size - st.size)).size = stem.size - st.size := by
        rw [size_extract _ _ _ (by omega) (by omega)]
        omega
      refine ⟨(endB_iff _ _).2 ⟨t ++ u, by rw [bytes_append, e]⟩, bytes_inj ?_, ?_, hs⟩
      · simp only [backStem, Bool.false_eq_true, if_false]
        rw [bytes_append, bytes_take, bytes_append, size_append, List.take_left' (by rw [bytesOf_length]; omega), e, ht, hu, List.append_assoc]
      · rw [size_append, z]
        omega
    · exact absurd h3 (by simp)
theorem affBack_do {g : ByteArray} {fr : Bool} {st ad wh stem x : ByteArray} (h : affDo g fr st ad wh stem = some x) : affBack g fr st ad wh x = some stem := by
  obtain ⟨h1, h2, _, _⟩ := back_do h
  unfold affBack
  rw [h2, if_pos ⟨h1, h⟩]
theorem affDo_back {g : ByteArray} {fr : Bool} {st ad wh word x : ByteArray} (h : affBack g fr st ad wh word = some x) : affDo g fr st ad wh x = some word := by
  unfold affBack at h
  split at h
  · rename_i hc
    obtain rfl := Option.some.inj h
    exact hc.2
  · exact absurd h (by simp)
end Go.Proofs.Ytpljfjbhlboffaa.M

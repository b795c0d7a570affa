import Derived.Test.YtdfnijaacnlfaaaVMStr
namespace Go.Proofs.Ytdfnijaacnlfaaa.M
open Go.RowKit Go.Proofs.YtdfnijaacnlfaaaW.PrintWords Go.Proofs.YtdfnijaacnlfaaaW.PrintLast Go.Proofs.YtdfnijaacnlfaaaW.PrintMore

theorem toList_iff (s t : ByteArray) : s.toList = t.toList ↔ s = t := by
  constructor
  · intro h
    rw [Go.ByteArray.toList_eq, Go.ByteArray.toList_eq] at h
    cases s
    cases t
    simpa using h
  · intro h
    rw [h]
theorem toList_beq (s t : ByteArray) : (s.toList == t.toList) = decide (s = t) := by
  by_cases h : s = t
  · simp [h]
  · rw [decide_eq_false h, beq_eq_false_iff_ne]
    exact fun e => h ((toList_iff _ _).1 e)

/-- A text begins, ends with another one. -/
def begB (s p : ByteArray) : Bool := decide (p.size ≤ s.size) && decide (s.extract 0 p.size = p)
def endB (s p : ByteArray) : Bool := decide (p.size ≤ s.size) && decide (s.extract (s.size - p.size) s.size = p)
theorem bytes_take_all (s : ByteArray) (a : Nat) : bytesOf (s.extract a s.size) = (bytesOf s).drop a := by
  rw [bytes_extract, List.take_of_length_le]
  rw [List.length_drop, bytesOf_length]
  exact Nat.le_refl _
theorem bytes_take (s : ByteArray) (b : Nat) : bytesOf (s.extract 0 b) = (bytesOf s).take b := by
  rw [bytes_extract]
  simp
theorem begB_size {s p : ByteArray} (h : begB s p = true) : p.size ≤ s.size := by
  simp only [begB, Bool.and_eq_true, decide_eq_true_eq] at h
  exact h.1
theorem endB_size {s p : ByteArray} (h : endB s p = true) : p.size ≤ s.size := by
  simp only [endB, Bool.and_eq_true, decide_eq_true_eq] at h
  exact h.1

def flagB (g : ByteArray) : Bool := decide (g.size = 1) && (decide (65 ≤ bt g 0) && decide (bt g 0 ≤ 90))
def partB (s : ByteArray) : Bool := (bytesOf s).all low && decide (s.size ≤ 4)
def affOk (g : ByteArray) (fr : Bool) (st ad wh : ByteArray) : Bool :=
  flagB g && partB st && partB ad && partB wh && (if fr = true then begB wh st else endB wh st)
def doB (fr : Bool) (st ad wh stem : ByteArray) : Option ByteArray :=
  if fr = true then (if begB stem wh = true then some (ad ++ stem.extract st.size stem.size) else none)
  else (if endB stem wh = true then some (stem.extract 0 (stem.size - st.size) ++ ad) else none)
def outB : Option ByteArray → ByteArray × Bool
  | some x => (x, true)
  | none => (⟨#[]⟩, false)
def outW : Option ByteArray → ByteArray × Bool
  | some x => (x, wordB x)
  | none => (⟨#[]⟩, false)
theorem partB_size {s : ByteArray} (h : partB s = true) : s.size ≤ 4 := by
  simp only [partB, Bool.and_eq_true, decide_eq_true_eq] at h
  exact h.2
theorem affOk_parts {g : ByteArray} {fr : Bool} {st ad wh : ByteArray} (h : affOk g fr st ad wh = true) : flagB g = true ∧ partB st = true ∧ partB ad = true ∧ partB wh = true ∧ (if fr = true then begB wh st else endB wh st) = true := by
  simp only [affOk, Bool.and_eq_true] at h
  exact ⟨h.1.1.1.1, h.1.1.1.2, h.1.1.2, h.1.2, h.2⟩
theorem strip_size {g : ByteArray} {fr : Bool} {st ad wh : ByteArray} (h : affOk g fr st ad wh = true) : st.size ≤ wh.size := by
  have := (affOk_parts h).2.2.2.2
  cases fr with
  | true => exact begB_size this
  | false => exact endB_size this
end Go.Proofs.Ytdfnijaacnlfaaa.M

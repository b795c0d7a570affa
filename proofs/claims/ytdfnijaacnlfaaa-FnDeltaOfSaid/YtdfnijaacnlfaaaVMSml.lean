import Derived.Test.YtdfnijaacnlfaaaVMAff
namespace Go.Proofs.Ytdfnijaacnlfaaa.M
open Go.RowKit Go.Proofs.YtdfnijaacnlfaaaW.PrintWords Go.Proofs.YtdfnijaacnlfaaaW.PrintLast Go.Proofs.YtdfnijaacnlfaaaW.PrintMore

theorem less_irrefl : ∀ x : List UInt8, Op.bytesLess x x = false
  | [] => rfl
  | a :: x => by simp [Op.bytesLess, less_irrefl x]
theorem less_trans : ∀ x y z : List UInt8, Op.bytesLess x y = true → Op.bytesLess y z = true → Op.bytesLess x z = true
  | [], [], _ => by simp [Op.bytesLess]
  | _, _ :: _, [] => by simp [Op.bytesLess]
  | [], _ :: _, _ :: _ => by simp [Op.bytesLess]
  | _ :: _, [], _ => by simp [Op.bytesLess]
  | a :: x, b :: y, c :: z => by
    simp only [Op.bytesLess, Bool.or_eq_true, decide_eq_true_eq, Bool.and_eq_true, beq_iff_eq]
    rintro (h | ⟨rfl, h⟩) (k | ⟨rfl, k⟩)
    · exact .inl (UInt8.lt_trans h k)
    · exact .inl h
    · exact .inl k
    · exact .inr ⟨rfl, less_trans x y z h k⟩
theorem less_total : ∀ x y : List UInt8, Op.bytesLess x y = false → x ≠ y → Op.bytesLess y x = true
  | [], [] => by simp
  | [], _ :: _ => by simp [Op.bytesLess]
  | _ :: _, [] => by simp [Op.bytesLess]
  | a :: x, b :: y => by
    simp only [Op.bytesLess, Bool.or_eq_false_iff, decide_eq_false_iff_not, Bool.or_eq_true, decide_eq_true_eq, Bool.and_eq_true, beq_iff_eq]
    rintro ⟨h, k⟩ hne
    by_cases e : a = b
    · subst e
      refine .inr ⟨rfl, less_total x y (by simpa using k) (fun e => hne (by rw [e]))⟩
    · rcases UInt8.lt_or_lt_of_ne e with h1 | h1
      · exact absurd h1 h
      · exact .inl h1

/-- One text stands ahead of another one. -/
def ltS (s t : ByteArray) : Bool := Op.bytesLess s.toList t.toList
theorem ltS_irrefl (s : ByteArray) : ltS s s = false := less_irrefl _
theorem ltS_trans {s t u : ByteArray} (h : ltS s t = true) (k : ltS t u = true) : ltS s u = true := less_trans _ _ _ h k
theorem ltS_total {s t : ByteArray} (h : ltS s t = false) (hne : s ≠ t) : ltS t s = true := less_total _ _ h (fun e => hne ((toList_iff _ _).1 e))
theorem ltS_asymm {s t : ByteArray} (h : ltS s t = true) : ltS t s = false := by
  cases e : ltS t s
  · rfl
  · have := ltS_trans h e
    rw [ltS_irrefl] at this
    cases this
/-- Ascending, each once. -/
def Asc (l : List ByteArray) : Prop := l.Pairwise (fun s t => ltS s t = true)
/-- A text put among others, ascending, once. -/
def putL : List ByteArray → ByteArray → List ByteArray
  | [], s => [s]
  | x :: l, s => if ltS x s = true then x :: putL l s else if x = s then x :: l else s :: x :: l
theorem putL_mem (l : List ByteArray) (s x : ByteArray) : x ∈ putL l s ↔ x ∈ l ∨ x = s := by
  induction l with
  | nil => simp [putL]
  | cons y l ih =>
    simp only [putL]
    split
    · rw [List.mem_cons, ih, List.mem_cons, or_assoc]
    · split
      · rename_i e
        subst e
        simp only [List.mem_cons]
        exact ⟨.inl, fun h => h.elim id .inl⟩
      · simp only [List.mem_cons]
        exact ⟨fun h => h.elim .inr .inl, fun h => h.elim .inr .inl⟩
theorem putL_length (l : List ByteArray) (s : ByteArray) : l.length ≤ (putL l s).length ∧ (putL l s).length ≤ l.length + 1 := by
  induction l with
  | nil => simp [putL]
  | cons y l ih =>
    simp only [putL]
    split
    · simp only [List.length_cons]
      omega
    · split <;> simp
end Go.Proofs.Ytdfnijaacnlfaaa.M

import Derived.Test.YtpljfjbhlboffaaVMAff
namespace Go.Proofs.Ytpljfjbhlboffaa.M
open Go.RowKit Go.Proofs.YtpljfjbhlboffaaW.PrintWords Go.Proofs.YtpljfjbhlboffaaW.PrintLast Go.Proofs.YtpljfjbhlboffaaW.PrintMore

theorem less_irrefl : ∀ x : List UInt8, Op.bytesLess x x = false
  | [] => rfl
  | a :: x => by simp [Op.bytesLess, less_irrefl x]
theorem less_trans : ∀ x y z : List UInt8, Op.bytesLess x y = true → Op.bytesLess y z = true → Op.bytesLess x z = true
  | [], [], _ => by simp [Op.bytesLess]
  | _, _ :: _, [] => by simp [Op.bytesLess]
  | [], _ :: _, _ :: _ => by simp [Op.bytesLess]
  | _ :: _, [], _ => by simp [Op.bytesLess]
  | a :: x, b :: y, c :: z => by
    simp only [Op.bytesLess, Bool.or_eq_true, decide_eq_true_eq, Bool.and_eq_true, beq_iff_eq]
    rintro (h | ⟨rfl, h⟩) (k | ⟨rfl, k⟩)
    · exact .inl (UInt8.lt_trans h k)
    · exact .inl h
    · exact .inl k
    · exact .inr ⟨rfl, less_trans x y z h k⟩
theorem less_total : ∀ x y : List UInt8, Op.bytesLess x y = false → x ≠ y → Op.bytesLess y x = true
  | [], [] => by simp
  | [], _ :: _ => by simp [Op.bytesLess]
  | _ :: _, [] => by simp [Op.bytesLess]
  | a :: x, b :: y => by
    simp only [Op.bytesLess, Bool.or_eq_false_iff, decide_eq_false_iff_not, Bool.or_eq_true, decide_eq_true_eq, Bool.and_eq_true, beq_iff_eq]
    rintro ⟨h, k⟩ hne
    by_cases e : a = b
    · subst e
      refine .inr ⟨rfl, less_total x y (by simpa using k) (fun e => hne (by rw [e]))⟩
    · rcases UInt8.lt_or_lt_of_ne e with h1 | h1
      · exact absurd h1 h
      · exact .inl h1

/-- One text stands ahead of another one. -/
def ltS (s t : ByteArray) : Bool := Op.bytesLess s.toList t.toList
theorem ltS_irrefl (s : ByteArray) : ltS s s = false := less_irrefl _
theorem ltS_trans {s t u : ByteArray} (h : ltS s t = true) (k : ltS t u = true) : ltS s u = true := less_trans _ _ _ h k
theorem ltS_total {s t : ByteArray} (h : ltS s t = false) (hne : s ≠ t) : ltS t s = true := less_total _ _ h (fun e => hne ((toList_iff _ _).1 e))
theorem ltS_asymm {s t : ByteArray} (h : ltS s t = true) : ltS t s = false := by
  cases e : ltS t s
  · rfl
  · have := ltS_trans h e
    rw [ltS_irrefl] at this
    cases this
theorem ltS_ne {s t : ByteArray} (h : ltS s t = true) : s ≠ t := by
  rintro rfl
  rw [ltS_irrefl] at h
  cases h

/-- Ascending, each once. -/
def Asc (l : List ByteArray) : Prop := l.Pairwise (fun s t => ltS s t = true)
theorem asc_ext : ∀ {l k : List ByteArray}, Asc l → Asc k → (∀ x, x ∈ l ↔ x ∈ k) → l = k
  | [], [], _, _, _ => rfl
  | [], y :: k, _, _, h => absurd ((h y).2 List.mem_cons_self) (by simp)
  | x :: l, [], _, _, h => absurd ((h x).1 List.mem_cons_self) (by simp)
  | x :: l, y :: k, hl, hk, h => by
    have hl' := List.pairwise_cons.1 hl
    have hk' := List.pairwise_cons.1 hk
    have e : x = y := by
      rcases List.mem_cons.1 ((h x).1 List.mem_cons_self) with e | e
      · exact e
      · rcases List.mem_cons.1 ((h y).2 List.mem_cons_self) with e2 | e2
        · exact e2.symm
        · have h1 := hk'.1 x e
          have h2 := hl'.1 y e2
          rw [ltS_asymm h1] at h2
          cases h2
    subst e
    have : l = k := asc_ext hl'.2 hk'.2 (fun z => by
      constructor
      · intro hz
        rcases List.mem_cons.1 ((h z).1 (List.mem_cons_of_mem _ hz)) with e | e
        · subst e
          have := hl'.1 z hz
          rw [ltS_irrefl] at this
          cases this
        · exact e
      · intro hz
        rcases List.mem_cons.1 ((h z).2 (List.mem_cons_of_mem _ hz)) with e | e
        · subst e
          have := hk'.1 z hz
          rw [ltS_irrefl] at this
          cases this
        · exact e)
    rw [this]

/-- A text put among others, ascending, once. -/
def putL : List ByteArray → ByteArray → List ByteArray
  | [], s => [s]
  | x :: l, s => if ltS x s = true then x :: putL l s else if x = s then x :: l else s :: x :: l
theorem putL_mem (l : List ByteArray) (s x : ByteArray) : x ∈ putL l s ↔ x ∈ l ∨ x = s := by
  induction l with
  | nil => simp [putL]
  | cons y l ih =>
    simp only [putL]
    split
    · rw [List.mem_cons, ih, List.mem_cons, or_assoc]
    · split
      · rename_i e
        subst e
        simp only [List.mem_cons]
        exact ⟨.inl, fun h => h.elim id .inl⟩
      · simp only [List.mem_cons]
        exact ⟨fun h => h.elim .inr .inl, fun h => h.elim .inr .inl⟩
theorem putL_asc {l : List ByteArray} (h : Asc l) (s : ByteArray) : Asc (putL l s) := by
  induction l with
  | nil => simp [putL, Asc]
  | cons y l ih =>
    have h' := List.pairwise_cons.1 h
    simp only [putL]
    split
    · rename_i hlt
      refine List.pairwise_cons.2 ⟨fun z hz => ?_, ih h'.2⟩
      rcases (putL_mem _ _ _).1 hz with hz | rfl
      · exact h'.1 z hz
      · exact hlt
    · rename_i hlt
      split
      · exact h
      · rename_i hne
        have hs : ltS s y = true := ltS_total (by simpa using hlt) hne
        refine List.pairwise_cons.2 ⟨fun z hz => ?_, h⟩
        rcases List.mem_cons.1 hz with rfl | hz
        · exact hs
        · exact ltS_trans hs (h'.1 z hz)
theorem putL_length (l : List ByteArray) (s : ByteArray) : l.length ≤ (putL l s).length ∧ (putL l s).length ≤ l.length + 1 := by
  induction l with
  | nil => simp [putL]
  | cons y l ih =>
    simp only [putL]
    split
    · simp only [List.length_cons]
      omega
    · split <;> simp
/-- Put, if it is a word and another one. -/
def stepL (s : ByteArray) (l : List ByteArray) (x : ByteArray) : List ByteArray := if x = s ∨ wordB x = false then l else putL l x
theorem stepL_length (s : ByteArray) (l : List ByteArray) (x : ByteArray) : l.length ≤ (stepL s l x).length ∧ (stepL s l x).length ≤ l.length + 1 := by
  unfold stepL
  split
  · omega
  · exact putL_length l x
theorem stepL_asc (s : ByteArray) {l : List ByteArray} (h : Asc l) (x : ByteArray) : Asc (stepL s l x) := by
  unfold stepL
  split
  · exact h
  · exact putL_asc h x
theorem stepL_mem (s : ByteArray) (l : List ByteArray) (x y : ByteArray) : y ∈ stepL s l x ↔ y ∈ l ∨ (y = x ∧ x ≠ s ∧ wordB x = true) := by
  unfold stepL
  split
  · rename_i h
    refine ⟨.inl, fun k => k.elim id ?_⟩
    rintro ⟨rfl, h1, h2⟩
    rcases h with h | h
    · exact absurd h h1
    · rw [h] at h2
      cases h2
  · rename_i h
    rw [putL_mem]
    refine ⟨fun k => k.elim .inl (fun e => .inr ⟨e, fun e2 => h (.inl e2), ?_⟩), fun k => k.elim .inl (fun e => .inr e.1)⟩
    cases e3 : wordB x
    · exact absurd (.inr e3) h
    · rfl
theorem foldStep_mem (s : ByteArray) (c : List ByteArray) : ∀ (l : List ByteArray) (y : ByteArray), y ∈ c.foldl (stepL s) l ↔ y ∈ l ∨ (y ∈ c ∧ y ≠ s ∧ wordB y = true) := by
  induction c with
  | nil => intro l y; simp
  | cons x c ih =>
    intro l y
    rw [List.foldl_cons, ih, stepL_mem, List.mem_cons, or_assoc]
    constructor
    · rintro (h | ⟨rfl, h⟩ | ⟨h1, h2⟩)
      · exact .inl h
      · exact .inr ⟨.inl rfl, h⟩
      · exact .inr ⟨.inr h1, h2⟩
    · rintro (h | ⟨rfl | h1, h2⟩)
      · exact .inl h
      · exact .inr (.inl ⟨rfl, h2⟩)
      · exact .inr (.inr ⟨h1, h2⟩)
theorem foldStep_asc (s : ByteArray) (c : List ByteArray) : ∀ {l : List ByteArray}, Asc l → Asc (c.foldl (stepL s) l) := by
  induction c with
  | nil => intro l h; exact h
  | cons x c ih => intro l h; exact ih (stepL_asc s h x)
theorem foldStep_length (s : ByteArray) (c : List ByteArray) : ∀ l : List ByteArray, (c.foldl (stepL s) l).length ≤ l.length + c.length := by
  induction c with
  | nil => intro l; simp
  | cons x c ih =>
    intro l
    have h1 := ih (stepL s l x)
    have h2 := (stepL_length s l x).2
    rw [List.foldl_cons, List.length_cons]
    omega
end Go.Proofs.Ytpljfjbhlboffaa.M

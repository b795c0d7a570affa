import Derived.Test.YtiiefpckcgekgaaDoorVMBas
import Derived.Lib.SplitLaws
import Derived.Lib.IndexBytes
namespace Go.Proofs.YtiiefpckcgekgaaDoor.M
open Go.RowKit Go.Proofs.YtiiefpckcgekgaaDoorW.PrintWords Go.Proofs.YtiiefpckcgekgaaDoorW.PrintLast Go.Proofs.YtiiefpckcgekgaaDoorW.PrintMore

/-- The pieces of a text between a byte. -/
def cutU (c : UInt8) : List UInt8 → List (List UInt8)
  | [] => [[]]
  | b :: l => if b = c then [] :: cutU c l else
    match cutU c l with
    | [] => [[b]]
    | x :: r => (b :: x) :: r
theorem cutU_ne (c : UInt8) (l : List UInt8) : cutU c l ≠ [] := by
  cases l with
  | nil => simp [cutU]
  | cons b l =>
    unfold cutU
    split
    · simp
    · split <;> simp
theorem cutU_hd (c b : UInt8) (l : List UInt8) (h : b ≠ c) : ∃ x r, cutU c l = x :: r ∧ cutU c (b :: l) = (b :: x) :: r := by
  cases e : cutU c l with
  | nil => exact absurd e (cutU_ne c l)
  | cons x r => exact ⟨x, r, rfl, by rw [cutU, if_neg h, e]⟩
theorem cutU_length (c : UInt8) : ∀ l : List UInt8, (cutU c l).length = l.count c + 1
  | [] => by simp [cutU]
  | b :: l => by
    have ih := cutU_length c l
    by_cases h : b = c
    · subst h
      rw [cutU, if_pos rfl, List.length_cons, ih, List.count_cons_self]
    · obtain ⟨x, r, e1, e2⟩ := cutU_hd c b l h
      rw [e2, List.length_cons, List.count_cons_of_ne h, ← ih, e1, List.length_cons]
/-- Where there is none, the text is its one piece. -/
theorem cutU_none (c : UInt8) : ∀ l : List UInt8, c ∉ l → cutU c l = [l]
  | [], _ => rfl
  | b :: l, h => by
    have hb : b ≠ c := fun e => h (by simp [e])
    obtain ⟨x, r, e1, e2⟩ := cutU_hd c b l hb
    rw [cutU_none c l (fun m => h (by simp [m]))] at e1
    cases e1
    exact e2
theorem cutU_app (c : UInt8) (t : List UInt8) : ∀ l : List UInt8, c ∉ l → cutU c (l ++ c :: t) = l :: cutU c t
  | [], _ => by simp [cutU]
  | b :: l, h => by
    have hb : b ≠ c := fun e => h (by simp [e])
    obtain ⟨x, r, e1, e2⟩ := cutU_hd c b (l ++ c :: t) hb
    rw [cutU_app c t l (fun m => h (by simp [m]))] at e1
    cases e1
    exact e2
/-- A text is its first piece and, behind the byte, the rest. -/
theorem cutU_split (c : UInt8) : ∀ l : List UInt8, c ∈ l → ∃ p t, l = p ++ c :: t ∧ c ∉ p ∧ cutU c l = p :: cutU c t
  | [], h => by cases h
  | b :: l, h => by
    by_cases hb : b = c
    · subst hb
      exact ⟨[], l, rfl, by simp, by simp [cutU]⟩
    · obtain ⟨p, t, e, h1, h2⟩ := cutU_split c l (by simpa [Ne.symm hb] using h)
      refine ⟨b :: p, t, by rw [e]; rfl, by simp [h1, Ne.symm hb], ?_⟩
      obtain ⟨x, r, e1, e2⟩ := cutU_hd c b l hb
      rw [h2] at e1
      cases e1
      exact e2
theorem index_mem (c : UInt8) : ∀ l : List UInt8, c ∈ l → ∃ p t, l = p ++ c :: t ∧ c ∉ p ∧ Go.Lib.indexByte l c = (p.length : Int)
  | [], h => by cases h
  | b :: l, h => by
    by_cases hb : b = c
    · subst hb
      exact ⟨[], l, rfl, by simp, by simp [Go.Lib.indexByte]⟩
    · obtain ⟨p, t, e, h1, h2⟩ := index_mem c l (by simpa [Ne.symm hb] using h)
      refine ⟨b :: p, t, by rw [e]; rfl, by simp [h1, Ne.symm hb], ?_⟩
      have e1 : (b == c) = false := by simpa using hb
      have e2 : (Go.Lib.indexByte l c == -1) = false := by rw [h2]; exact beq_eq_false_iff_ne.2 (by omega)
      rw [Go.Lib.indexByte, e1, e2, h2]
      simp
theorem index_no (c : UInt8) : ∀ l : List UInt8, c ∉ l → Go.Lib.indexByte l c = -1
  | [], _ => rfl
  | b :: l, h => by
    have e1 : (b == c) = false := by simpa using fun e : b = c => h (by simp [e])
    rw [Go.Lib.indexByte, e1, index_no c l (fun m => h (by simp [m]))]
    simp
theorem splitK_cutU (c : UInt8) : ∀ (k : Nat) (l : List UInt8), l.count c = k → Go.Lib.splitK [c] 0 k l = cutU c l
  | 0, l, h => by
    rw [cutU_none c l (List.count_eq_zero.1 h)]
    rfl
  | k + 1, l, h => by
    have hm : c ∈ l := List.count_pos_iff.1 (by omega)
    obtain ⟨p, t, e, h1, h2⟩ := index_mem c l hm
    have hk : t.count c = k := by
      rw [e, List.count_append, List.count_cons_self, List.count_eq_zero.2 h1] at h
      omega
    rw [Go.Lib.splitK, Go.Lib.index_one, h2, if_neg (fun e => by have := beq_iff_eq.1 e; omega), Int.toNat_natCast, Nat.add_zero]
    have e3 : l.drop (p.length + [c].length) = t := by rw [e, List.length_singleton, List.drop_append, List.drop_eq_nil_of_le (by omega)]; simp
    have e4 : l.take p.length = p := by rw [e, List.take_left]
    rw [e3, e4, splitK_cutU c k t hk, e, cutU_app c t p h1]
theorem ba_data (s : ByteArray) : (⟨s.data.toList.toArray⟩ : ByteArray) = s := rfl
/-- What strings.Split answers at one byte. -/
def spl (c : UInt8) (s : ByteArray) : List ByteArray := (cutU c s.data.toList).map (fun l => ⟨l.toArray⟩)
theorem spl_splitB (c : UInt8) (s : ByteArray) : Go.Lib.splitB ⟨#[c]⟩ 0 (s.data.toList.count c) s = spl c s := by
  have h := Go.Lib.splitB_data ⟨#[c]⟩ 0 (s.data.toList.count c) s
  have h2 : Go.Lib.splitK [c] 0 (s.data.toList.count c) s.data.toList = cutU c s.data.toList := splitK_cutU c _ _ rfl
  have e := congrArg (List.map (fun l : List UInt8 => (⟨l.toArray⟩ : ByteArray))) (h.trans h2)
  rw [List.map_map] at e
  unfold spl
  rw [← e]
  exact (List.map_id _).symm
theorem spl_length (c : UInt8) (s : ByteArray) : (spl c s).length = s.data.toList.count c + 1 := by rw [spl, List.length_map, cutU_length]
theorem countB_one (c : UInt8) (s : ByteArray) : Go.Lib.countB s ⟨#[c]⟩ = s.data.toList.count c := Go.Lib.count_one c s.data.toList
/-- A text in front of the first such byte, and behind it. -/
def cutP (c : UInt8) (s : ByteArray) : ByteArray × ByteArray × Bool :=
  (⟨(s.data.toList.takeWhile (· != c)).toArray⟩, ⟨((s.data.toList.dropWhile (· != c)).drop 1).toArray⟩, s.data.toList.contains c)
theorem ba_ext {s t : ByteArray} (h : s.data.toList = t.data.toList) : s = t := by
  obtain ⟨⟨a⟩⟩ := s
  obtain ⟨⟨b⟩⟩ := t
  exact congrArg (fun l : List UInt8 => (⟨⟨l⟩⟩ : ByteArray)) h
theorem cutP_no (c : UInt8) (s : ByteArray) (h : c ∉ s.data.toList) : cutP c s = (s, ⟨#[]⟩, false) := by
  have e1 : ∀ l : List UInt8, c ∉ l → l.takeWhile (· != c) = l ∧ l.dropWhile (· != c) = [] := by
    intro l hl
    induction l with
    | nil => exact ⟨rfl, rfl⟩
    | cons b l ih =>
      have hb : (b != c) = true := by simpa using fun e : b = c => hl (by simp [e])
      obtain ⟨i1, i2⟩ := ih (fun m => hl (by simp [m]))
      exact ⟨by rw [List.takeWhile_cons, if_pos hb, i1], by rw [List.dropWhile_cons, if_pos hb, i2]⟩
  obtain ⟨i1, i2⟩ := e1 _ h
  have i3 : s.data.toList.contains c = false := by simpa using h
  unfold cutP
  rw [i1, i2, i3]
  rfl
theorem cutP_at (c : UInt8) (p t : List UInt8) (h : c ∉ p) (s : ByteArray) (e : s.data.toList = p ++ c :: t) : cutP c s = (⟨p.toArray⟩, ⟨t.toArray⟩, true) := by
  have e1 : ∀ l : List UInt8, c ∉ l → (l ++ c :: t).takeWhile (· != c) = l ∧ (l ++ c :: t).dropWhile (· != c) = c :: t := by
    intro l hl
    induction l with
    | nil => simp
    | cons b l ih =>
      have hb : (b != c) = true := by simpa using fun e : b = c => hl (by simp [e])
      obtain ⟨i1, i2⟩ := ih (fun m => hl (by simp [m]))
      exact ⟨by rw [List.cons_append, List.takeWhile_cons, if_pos hb, i1], by rw [List.cons_append, List.dropWhile_cons, if_pos hb, i2]⟩
  obtain ⟨i1, i2⟩ := e1 p h
  unfold cutP
  rw [e, i1, i2]
  simp
end Go.Proofs.YtiiefpckcgekgaaDoor.M

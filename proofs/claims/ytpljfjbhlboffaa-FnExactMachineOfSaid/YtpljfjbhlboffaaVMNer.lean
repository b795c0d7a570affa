import Derived.Test.YtpljfjbhlboffaaVMSml
namespace Go.Proofs.Ytpljfjbhlboffaa.M
open Go.RowKit Go.Proofs.YtpljfjbhlboffaaW.PrintWords Go.Proofs.YtpljfjbhlboffaaW.PrintLast Go.Proofs.YtpljfjbhlboffaaW.PrintMore

/-- What one edit makes of a text, in the order in which it is tried. -/
def insB (s : ByteArray) (i : Nat) (c : Int) : ByteArray := (s.extract 0 i ++ strOfNums [c % 256]) ++ s.extract i s.size
def subB (s : ByteArray) (i : Nat) (c : Int) : ByteArray := (s.extract 0 i ++ strOfNums [c % 256]) ++ s.extract (i + 1) s.size
def delB (s : ByteArray) (i : Nat) : ByteArray := s.extract 0 i ++ s.extract (i + 1) s.size
def swpB (s : ByteArray) (i : Nat) : ByteArray := ((s.extract 0 i ++ s.extract (i + 1) (i + 2)) ++ s.extract i (i + 1)) ++ s.extract (i + 2) s.size
def letAt (s : ByteArray) (i : Nat) (c : Nat) : List ByteArray := if i < s.size then [insB s i c, subB s i c] else [insB s i c]
def lettersAt (s : ByteArray) (i : Nat) (c : Nat) : List ByteArray := (List.range' c (123 - c)).flatMap (letAt s i)
def delAt (s : ByteArray) (i : Nat) : List ByteArray := if i < s.size then [delB s i] else []
def swpAt (s : ByteArray) (i : Nat) : List ByteArray := if i + 1 < s.size then [swpB s i] else []
def candsAt (s : ByteArray) (i : Nat) : List ByteArray := lettersAt s i 97 ++ (delAt s i ++ swpAt s i)
def candsFrom (s : ByteArray) (i : Nat) : List ByteArray := (List.range' i (s.size + 1 - i)).flatMap (candsAt s)
def nearL (s : ByteArray) : List ByteArray := (candsFrom s 0).foldl (stepL s) []
theorem candsFrom_step (s : ByteArray) (i : Nat) (h : i ≤ s.size) : candsFrom s i = candsAt s i ++ candsFrom s (i + 1) := by
  unfold candsFrom
  rw [show s.size + 1 - i = (s.size + 1 - (i + 1)) + 1 from by omega, List.range'_succ, List.flatMap_cons]
theorem candsFrom_end (s : ByteArray) (i : Nat) (h : s.size < i) : candsFrom s i = [] := by
  unfold candsFrom
  rw [show s.size + 1 - i = 0 from by omega]
  rfl
theorem lettersAt_step (s : ByteArray) (i c : Nat) (h : c ≤ 122) : lettersAt s i c = letAt s i c ++ lettersAt s i (c + 1) := by
  unfold lettersAt
  rw [show 123 - c = (123 - (c + 1)) + 1 from by omega, List.range'_succ, List.flatMap_cons]
theorem lettersAt_end (s : ByteArray) (i c : Nat) (h : 122 < c) : lettersAt s i c = [] := by
  unfold lettersAt
  rw [show 123 - c = 0 from by omega]
  rfl
theorem flat_length {α β : Type} (f : α → List β) (n : Nat) (h : ∀ a, (f a).length ≤ n) (l : List α) : (l.flatMap f).length ≤ n * l.length := by
  induction l with
  | nil => simp
  | cons a l ih =>
    rw [List.flatMap_cons, List.length_append, List.length_cons, Nat.mul_add]
    have := h a
    omega
theorem lettersAt_length (s : ByteArray) (i c : Nat) : (lettersAt s i c).length ≤ 246 := by
  have := flat_length (letAt s i) 2 (fun a => by unfold letAt; split <;> simp) (List.range' c (123 - c))
  rw [List.length_range'] at this
  unfold lettersAt
  omega
theorem candsAt_length (s : ByteArray) (i : Nat) : (candsAt s i).length ≤ 248 := by
  have h1 := lettersAt_length s i 97
  have h2 : (delAt s i).length ≤ 1 := by unfold delAt; split <;> simp
  have h3 : (swpAt s i).length ≤ 1 := by unfold swpAt; split <;> simp
  unfold candsAt
  rw [List.length_append, List.length_append]
  omega
theorem candsFrom_length (s : ByteArray) (i : Nat) : (candsFrom s i).length ≤ 248 * (s.size + 1 - i) := by
  have := flat_length (candsAt s) 248 (candsAt_length s) (List.range' i (s.size + 1 - i))
  rw [List.length_range'] at this
  exact this
theorem nearL_asc (s : ByteArray) : Asc (nearL s) := foldStep_asc s _ (by simp [Asc])
theorem nearL_mem (s x : ByteArray) : x ∈ nearL s ↔ x ∈ candsFrom s 0 ∧ x ≠ s ∧ wordB x = true := by
  unfold nearL
  rw [foldStep_mem]
  simp
theorem nearL_length (s : ByteArray) : (nearL s).length ≤ 248 * (s.size + 1) := by
  have h1 := foldStep_length s (candsFrom s 0) []
  have h2 := candsFrom_length s 0
  unfold nearL
  simp at h1
  omega
theorem one_bytes (c : Nat) (h : c < 256) : bytesOf (strOfNums [(c : Int) % 256]) = [(c : Int)] := by
  have e : ((c : Int) % 256) = (c : Int) := by omega
  rw [e]
  simp [strOfNums, bytesOf]
  omega
theorem one_size (c : Int) : (strOfNums [c]).size = 1 := rfl

theorem insB_bytes (s : ByteArray) (i c : Nat) (h : c < 256) : bytesOf (insB s i c) = (bytesOf s).take i ++ (c : Int) :: (bytesOf s).drop i := by
  unfold insB
  rw [bytes_append, bytes_append, bytes_take, bytes_take_all, one_bytes c h]
  simp
theorem subB_bytes (s : ByteArray) (i c : Nat) (h : c < 256) : bytesOf (subB s i c) = (bytesOf s).take i ++ (c : Int) :: (bytesOf s).drop (i + 1) := by
  unfold subB
  rw [bytes_append, bytes_append, bytes_take, bytes_take_all, one_bytes c h]
  simp
theorem delB_bytes (s : ByteArray) (i : Nat) : bytesOf (delB s i) = (bytesOf s).take i ++ (bytesOf s).drop (i + 1) := by
  unfold delB
  rw [bytes_append, bytes_take, bytes_take_all]
theorem swpB_bytes (s : ByteArray) (i : Nat) : bytesOf (swpB s i) = (bytesOf s).take i ++ (((bytesOf s).drop (i + 1)).take 1 ++ (((bytesOf s).drop i).take 1 ++ (bytesOf s).drop (i + 2))) := by
  unfold swpB
  rw [bytes_append, bytes_append, bytes_append, bytes_take, bytes_take_all, bytes_extract, bytes_extract]
  simp only [List.append_assoc, Nat.add_sub_cancel_left]
  rw [show i + 2 - (i + 1) = 1 from by omega]
/-- A word has another one near it. -/
theorem nearL_some {s : ByteArray} (h : wordB s = true) : nearL s ≠ [] := by
  have hw := (wordL_iff _).1 h
  have h12 := wordB_size h
  obtain ⟨a, t, ht⟩ : ∃ a t, bytesOf s = a :: t := by
    cases e : bytesOf s with
    | nil => rw [e] at hw; simp at hw
    | cons a t => exact ⟨a, t, rfl⟩
  have main : ∀ c : Nat, 97 ≤ c → c ≤ 122 → (c : Int) ≠ a → subB s 0 c ∈ nearL s := by
    intro c h1 h2 h3
    have hb : bytesOf (subB s 0 c) = (c : Int) :: t := by
      rw [subB_bytes s 0 c (by omega), ht]
      rfl
    rw [nearL_mem]
    refine ⟨?_, ?_, (wordL_iff _).2 ?_⟩
    · rw [candsFrom_step s 0 (by omega)]
      refine List.mem_append_left _ (List.mem_append_left _ ?_)
      refine List.mem_flatMap.2 ⟨c, ?_, ?_⟩
      · rw [List.mem_range'_1]
        omega
      · unfold letAt
        rw [if_pos (by omega)]
        simp
    · intro e
      rw [e, ht] at hb
      exact h3 (List.cons.inj hb).1.symm
    · rw [hb]
      rw [ht] at hw
      refine ⟨by simp, by simpa using hw.2.1, fun x hx => ?_⟩
      rcases List.mem_cons.1 hx with rfl | hx
      · omega
      · exact hw.2.2 x (List.mem_cons_of_mem _ hx)
  by_cases e : a = 97
  · exact List.ne_nil_of_mem (main 98 (by omega) (by omega) (by omega))
  · exact List.ne_nil_of_mem (main 97 (by omega) (by omega) (by omega))
end Go.Proofs.Ytpljfjbhlboffaa.M

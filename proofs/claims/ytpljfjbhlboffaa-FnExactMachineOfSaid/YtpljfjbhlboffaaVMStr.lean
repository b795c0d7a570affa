import Derived.Test.YtpljfjbhlboffaaVMBas
namespace Go.Proofs.Ytpljfjbhlboffaa.M
open Go.RowKit Go.Proofs.YtpljfjbhlboffaaW.PrintWords Go.Proofs.YtpljfjbhlboffaaW.PrintLast Go.Proofs.YtpljfjbhlboffaaW.PrintMore

theorem bytes_drop (s : ByteArray) (i : Int) (h0 : 0 ≤ i) (h1 : i < s.size) : (bytesOf s).drop i.toNat = bt s i :: (bytesOf s).drop (i + 1).toNat := by
  have hl : i.toNat < (bytesOf s).length := by rw [bytesOf_length]; omega
  rw [List.drop_eq_getElem_cons hl, show (i + 1).toNat = i.toNat + 1 from by omega]
  congr 1
  rw [← rd_bytesOf]
  simp [rd, List.getD_eq_getElem?_getD, List.getElem?_eq_getElem hl]
theorem bytes_inj {s t : ByteArray} (h : bytesOf s = bytesOf t) : s = t := by
  have e : s.data.toList = t.data.toList := by
    refine List.map_inj_right (fun x y hxy => ?_) |>.1 h
    exact UInt8.toNat_inj.1 (by exact_mod_cast hxy)
  cases s
  cases t
  simpa using e
theorem bytes_append (s t : ByteArray) : bytesOf (s ++ t) = bytesOf s ++ bytesOf t := by
  simp [bytesOf, ByteArray.data_append]
theorem bytes_extract (s : ByteArray) (a b : Nat) : bytesOf (s.extract a b) = ((bytesOf s).drop a).take (b - a) := by
  simp [bytesOf, ByteArray.data_extract, List.map_take, List.map_drop, Array.toList_extract]
theorem bytes_range (s : ByteArray) : ∀ x ∈ bytesOf s, 0 ≤ x ∧ x ≤ 255 := by
  intro x hx
  simp only [bytesOf, List.mem_map] at hx
  obtain ⟨b, _, rfl⟩ := hx
  have := b.toNat_lt
  omega
theorem size_extract (s : ByteArray) (a b : Nat) (h : a ≤ b) (hb : b ≤ s.size) : (s.extract a b).size = b - a := by
  rw [← bytesOf_length, bytes_extract, List.length_take, List.length_drop, bytesOf_length]
  omega
theorem size_append (s t : ByteArray) : (s ++ t).size = s.size + t.size := by
  rw [← bytesOf_length, bytes_append, List.length_append, bytesOf_length, bytesOf_length]

/-- A small letter. -/
def low (c : Int) : Bool := decide (97 ≤ c) && decide (c ≤ 122)
/-- A word: one to twelve small letters. -/
def wordL (l : List Int) : Bool := decide (0 < l.length) && decide (l.length ≤ 12) && l.all low
def wordB (s : ByteArray) : Bool := wordL (bytesOf s)
theorem low_iff (c : Int) : low c = true ↔ 97 ≤ c ∧ c ≤ 122 := by simp [low]
theorem wordL_iff (l : List Int) : wordL l = true ↔ 0 < l.length ∧ l.length ≤ 12 ∧ ∀ c ∈ l, 97 ≤ c ∧ c ≤ 122 := by
  simp [wordL, List.all_eq_true, low_iff, and_assoc]
theorem wordB_size {s : ByteArray} (h : wordB s = true) : 0 < s.size ∧ s.size ≤ 12 := by
  have := (wordL_iff _).1 h
  rw [bytesOf_length] at this
  omega
theorem wordB_no {s : ByteArray} (h : ¬ (0 < s.size ∧ s.size ≤ 12)) : wordB s = false := by
  cases e : wordB s
  · rfl
  · exact absurd (wordB_size e) h
end Go.Proofs.Ytpljfjbhlboffaa.M

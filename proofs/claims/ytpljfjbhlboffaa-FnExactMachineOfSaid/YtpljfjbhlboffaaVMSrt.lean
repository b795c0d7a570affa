import Derived.Test.YtpljfjbhlboffaaVMSml
import Derived.Lib.SlicesCompact
import Derived.Sort.Walk0
namespace Go.Proofs.Ytpljfjbhlboffaa.M
open Go.RowKit Go.Proofs.YtpljfjbhlboffaaW.PrintWords Go.Proofs.YtpljfjbhlboffaaW.PrintLast Go.Proofs.YtpljfjbhlboffaaW.PrintMore

/-- Texts put one by one among others: ascending, each once. -/
def setL (l : List ByteArray) : List ByteArray := l.foldl putL []
theorem foldPut_mem (c : List ByteArray) : ∀ (l : List ByteArray) (y : ByteArray), y ∈ c.foldl putL l ↔ y ∈ l ∨ y ∈ c := by
  induction c with
  | nil => intro l y; simp
  | cons x c ih => intro l y; rw [List.foldl_cons, ih, putL_mem, List.mem_cons, or_assoc]
theorem foldPut_asc (c : List ByteArray) : ∀ {l : List ByteArray}, Asc l → Asc (c.foldl putL l) := by
  induction c with
  | nil => intro l h; exact h
  | cons x c ih => intro l h; exact ih (putL_asc h x)
theorem foldPut_length (c : List ByteArray) : ∀ l : List ByteArray, (c.foldl putL l).length ≤ l.length + c.length := by
  induction c with
  | nil => intro l; simp
  | cons x c ih =>
    intro l
    have h1 := ih (putL l x)
    have h2 := (putL_length l x).2
    rw [List.foldl_cons, List.length_cons]
    omega
theorem setL_mem (l : List ByteArray) (y : ByteArray) : y ∈ setL l ↔ y ∈ l := by
  unfold setL
  rw [foldPut_mem]
  simp
theorem setL_asc (l : List ByteArray) : Asc (setL l) := foldPut_asc l (by simp [Asc])
theorem setL_length (l : List ByteArray) : (setL l).length ≤ l.length := by
  have := foldPut_length l []
  unfold setL
  simpa using this
theorem setL_ext {l k : List ByteArray} (h : ∀ x, x ∈ l ↔ x ∈ k) : setL l = setL k := asc_ext (setL_asc l) (setL_asc k) (fun x => by rw [setL_mem, setL_mem, h])
/-- An ascending list is what is made of itself. -/
theorem setL_self {l : List ByteArray} (h : Asc l) : setL l = l := asc_ext (setL_asc l) h (fun x => setL_mem l x)

abbrev leU : List UInt8 → List UInt8 → Bool := fun x y => decide (x ≤ y)
theorem compact_mem_of {zs : List (List UInt8)} {x : List UInt8} (h : x ∈ Lib.compact zs) : x ∈ zs := by
  unfold Lib.compact Lib.compactUpTo at h
  obtain ⟨j, hj, rfl⟩ := List.mem_map.1 h
  have hl : j < zs.length := List.mem_range.1 (List.mem_filter.1 hj).1
  simp [hl]
theorem compact_mem_to {zs : List (List UInt8)} {x : List UInt8} (h : x ∈ zs) : x ∈ Lib.compact zs := by
  obtain ⟨j, hj, hx⟩ := List.getElem_of_mem h
  have main : ∀ (n : Nat) (j : Nat) (hj : j < zs.length), j = n → zs[j] = x → x ∈ Lib.compact zs := by
    intro n
    induction n with
    | zero =>
      intro j hj e hx
      subst e
      unfold Lib.compact Lib.compactUpTo
      refine List.mem_map.2 ⟨0, List.mem_filter.2 ⟨List.mem_range.2 hj, by simp [Lib.keeps]⟩, ?_⟩
      simp [hj, hx]
    | succ n ih =>
      intro j hj e hx
      by_cases c : zs[n]'(by omega) = x
      · exact ih n (by omega) rfl c
      · unfold Lib.compact Lib.compactUpTo
        refine List.mem_map.2 ⟨j, List.mem_filter.2 ⟨List.mem_range.2 hj, ?_⟩, ?_⟩
        · subst e
          have h1 : n < zs.length := by omega
          simp only [Lib.keeps, decide_eq_true_eq]
          right
          simp only [List.getElem!_toArray, Nat.add_sub_cancel]
          rw [getElem!_pos zs (n + 1) hj, getElem!_pos zs n h1, hx]
          exact fun e => c e.symm
        · simp [hj, hx]
  exact main j j hj rfl hx
theorem compact_asc {zs : List (List UInt8)} (h : zs.Pairwise (fun a b => leU a b = true)) : (Lib.compact zs).Pairwise (fun a b => Op.bytesLess a b = true) := by
  unfold Lib.compact Lib.compactUpTo
  rw [List.pairwise_map]
  have le_get : ∀ i j, (hi : i ≤ j) → (hj : j < zs.length) → zs[i]'(by omega) ≤ zs[j] := by
    intro i j hi hj
    rcases Nat.lt_or_ge i j with c | c
    · have := List.pairwise_iff_getElem.1 h i j (by omega) hj c
      simpa [leU] using this
    · have e : i = j := by omega
      subst e
      exact List.le_refl _
  refine List.Pairwise.imp_of_mem ?_ (List.Pairwise.filter _ List.pairwise_lt_range)
  intro i j hi hj hlt
  have hjl : j < zs.length := List.mem_range.1 (List.mem_filter.1 hj).1
  have hk := (List.mem_filter.1 hj).2
  simp only [Lib.keeps, decide_eq_true_eq] at hk
  rcases hk with hk | hk
  · omega
  · rw [bytesLess_eq, decide_eq_true_eq]
    simp only [List.getElem!_toArray] at hk ⊢
    rw [getElem!_pos zs j hjl, getElem!_pos zs (j - 1) (by omega)] at hk
    rw [getElem!_pos zs i (by omega), getElem!_pos zs j hjl]
    have a1 := le_get i (j - 1) (by omega) (by omega)
    have a2 := le_get (j - 1) j (by omega) hjl
    refine List.lt_of_le_of_lt a1 ?_
    rcases Classical.em (zs[j - 1] < zs[j]) with c | c
    · exact c
    · exact absurd (List.le_antisymm (List.not_lt.1 c) a2) hk
theorem ba_of (x : ByteArray) : (⟨x.data.toList.toArray⟩ : ByteArray) = x := by cases x; simp
/-- What the sort and the compacting leave. -/
theorem sorted_eq (l : List ByteArray) : Lib.compact ((l.map (·.data.toList)).mergeSort leU) = (setL l).map (·.data.toList) := by
  have tr : ∀ a b c : List UInt8, leU a b = true → leU b c = true → leU a c = true := fun a b c h1 h2 => by simp only [leU, decide_eq_true_eq] at *; exact List.le_trans h1 h2
  have tot : ∀ a b : List UInt8, (leU a b || leU b a) = true := fun a b => by simp only [leU, Bool.or_eq_true, decide_eq_true_eq]; exact List.le_total a b
  have hs := List.pairwise_mergeSort tr tot (l.map (·.data.toList))
  have hp := List.mergeSort_perm (l.map (·.data.toList)) leU
  generalize (l.map (·.data.toList)).mergeSort leU = zs at hs hp
  have e : (Lib.compact zs).map (fun b => (⟨b.toArray⟩ : ByteArray)) = setL l := by
    refine asc_ext ?_ (setL_asc l) (fun x => ?_)
    · unfold Asc
      rw [List.pairwise_map]
      refine (compact_asc hs).imp (fun {a b} h => ?_)
      unfold ltS
      rw [show (⟨a.toArray⟩ : ByteArray).toList = a from by simp [Go.ByteArray.toList_eq], show (⟨b.toArray⟩ : ByteArray).toList = b from by simp [Go.ByteArray.toList_eq]]
      exact h
    · rw [setL_mem, List.mem_map]
      constructor
      · rintro ⟨b, hb, rfl⟩
        obtain ⟨y, hy, e⟩ := List.mem_map.1 (hp.mem_iff.1 (compact_mem_of hb))
        rw [← e, ba_of]
        exact hy
      · intro hx
        exact ⟨x.data.toList, compact_mem_to (hp.mem_iff.2 (List.mem_map_of_mem hx)), ba_of x⟩
  rw [← e, List.map_map]
  conv => lhs; rw [← List.map_id (Lib.compact zs)]
  refine List.map_congr_left (fun b _ => ?_)
  simp
end Go.Proofs.Ytpljfjbhlboffaa.M

import Derived.Test.YtpljfjbhlboffaaVWords
import Derived.Test.YtpljfjbhlboffaaVLast
import Derived.ChangeArms
import Derived.WideShapes
namespace Go.Proofs.Ytpljfjbhlboffaa.M
open Go.RowKit Go.Proofs.YtpljfjbhlboffaaW.PrintWords Go.Proofs.YtpljfjbhlboffaaW.PrintLast

/-- What is read as data of type t reads as a value of kind d, and Q holds of it. -/
structure Opens (P : Program) (t : TypeId) {α : Type} (d : Kd α) (Q : α → Prop) : Prop where
  go : ∀ {H : Type} {enc : TypeId × Value → H} {w : World} {base : Nat} {spare : Nat → Bool} {held : Bool} {fuel : Nat} {cs : List Value} {x : DataW H × List MemPlace},
    DataW.trod enc P w base spare held fuel t cs = some x → ∃ v, d.K w v cs ∧ Q v
theorem opens_int {P : Program} {t : TypeId} {k : IntKind} (ht : P.underlying t = some (.int k)) : Opens P t (Kd.int k) (fun n => (Lit.int k n).wf = true) := by
  refine ⟨?_⟩
  intro H enc w base spare held fuel cs x h
  obtain ⟨n, rfl, _, hw⟩ := DataW.trod_int ht h
  exact ⟨n, rfl, hw⟩
theorem opens_bool {P : Program} {t : TypeId} (ht : P.underlying t = some .bool) : Opens P t Kd.bool (fun _ => True) := by
  refine ⟨?_⟩
  intro H enc w base spare held fuel cs x h
  obtain ⟨n, rfl, _⟩ := DataW.trod_bool ht h
  exact ⟨n, rfl, trivial⟩
theorem opens_string {P : Program} {t : TypeId} (ht : P.underlying t = some .string) : Opens P t Kd.string (fun s => s.size ≤ 9223372036854775807) := by
  refine ⟨?_⟩
  intro H enc w base spare held fuel cs x h
  obtain ⟨n, rfl, _, hw⟩ := DataW.trod_string ht h
  exact ⟨n, rfl, by simpa [maxLen] using hw⟩
theorem pick_list {α : Type} {R : Nat → α → Prop} : ∀ n : Nat, (∀ j, j < n → ∃ v, R j v) → ∃ xs : List α, xs.length = n ∧ ∀ j v, xs[j]? = some v → R j v := by
  intro n
  induction n with
  | zero => exact fun _ => ⟨[], rfl, fun j v h => by simp at h⟩
  | succ n ih =>
    intro h
    obtain ⟨xs, hl, hx⟩ := ih (fun j hj => h j (by omega))
    obtain ⟨v, hv⟩ := h n (by omega)
    refine ⟨xs ++ [v], by simp [hl], fun j u hu => ?_⟩
    by_cases hj : j < xs.length
    · rw [List.getElem?_append_left hj] at hu
      exact hx j u hu
    · rw [List.getElem?_append_right (by omega)] at hu
      by_cases e : j - xs.length = 0
      · rw [e] at hu
        simp at hu
        subst hu
        rw [show j = n from by omega]
        exact hv
      · rw [List.getElem?_eq_none (by simp; omega)] at hu
        exact absurd hu (by simp)
theorem opens_slice {P : Program} {t e : TypeId} {α : Type} {d : Kd α} {Q : α → Prop} (ht : P.underlying t = some (.slice e)) (hc : P.cellsOf e = d.sz) (he : Opens P e d Q) :
    Opens P t (Kd.slice e d) (fun xs => xs.length ≤ 9223372036854775807 ∧ ∀ x ∈ xs, Q x) := by
  refine ⟨?_⟩
  intro H enc w base spare held fuel cs x h
  rcases DataW.trod_slice ht h with ⟨rfl, _⟩ | ⟨a, len, cap, elems, rest, n, _, rfl, _, hb, hl, hm, hlen, hel, _, _⟩
  · exact ⟨[], ⟨none, 0, rfl, Nat.le_refl _, rfl, Nat.zero_le _, fun h => absurd h (Nat.lt_irrefl 0)⟩, by simp, fun x hx => by cases hx⟩
  · have hm' : cap ≤ 9223372036854775807 := by simpa [maxLen] using hm
    have each : ∀ j, j < len → ∃ v, Q v ∧ ∃ c, c.length = d.sz ∧ d.K w v c ∧ ∀ i u, c[i]? = some u → w.cell? (a.add (j * d.sz + i)) = some u := by
      intro j hj
      have h1 := hel j hj
      rw [List.getElem?_eq_getElem (by omega), Option.bind_eq_some_iff] at h1
      obtain ⟨c, hcs, h2⟩ := h1
      obtain ⟨_, hcl, hcell⟩ := World.cells?_some hcs
      obtain ⟨v, hk, hq⟩ := he.go h2
      refine ⟨v, hq, c, by rw [hcl, hc], hk, fun i u hu => ?_⟩
      have hi : i < P.cellsOf e := by rw [← hcl]; exact (List.getElem?_eq_some_iff.1 hu).1
      rw [← hu, ← hcell i hi, hc, add_add]
    obtain ⟨xs, hxl, hx⟩ := pick_list len each
    refine ⟨xs, ⟨some a, cap, by rw [hxl], by omega, rfl, by omega, fun _ => ⟨a, rfl, fun j p hp => (hx j p hp).2⟩⟩, by omega, fun y hy => ?_⟩
    obtain ⟨j, hj⟩ := List.getElem?_of_mem hy
    exact (hx j y hj).1
/-- The fields from one place on. -/
structure OpensF (P : Program) (off : Nat) (fs : List Field) {α : Type} (d : Kd α) (Q : α → Prop) : Prop where
  go : ∀ {H : Type} {enc : TypeId × Value → H} {w : World} {base : Nat} {spare : Nat → Bool} {held : Bool} {fuel : Nat} {cs : List Value},
    cs.length = off + d.sz → (∀ f ∈ fs, ∃ y, DataW.trod enc P w base spare held fuel f.type ((cs.drop f.offset).take (P.cellsOf f.type)) = some y) → ∃ v, d.K w v (cs.drop off) ∧ Q v
theorem opensF_one {P : Program} {f : Field} {α : Type} {d : Kd α} {Q : α → Prop} {off : Nat} (h : Opens P f.type d Q) (hc : P.cellsOf f.type = d.sz) (ho : f.offset = off) : OpensF P off [f] d Q := by
  subst ho
  refine ⟨?_⟩
  intro H enc w base spare held fuel cs hl hf
  obtain ⟨y, hy⟩ := hf f (by simp)
  obtain ⟨v, hk, hq⟩ := h.go hy
  rw [List.take_of_length_le (by rw [List.length_drop]; omega)] at hk
  exact ⟨v, hk, hq⟩
theorem opensF_cons {P : Program} {f : Field} {fs : List Field} {α β : Type} {a : Kd α} {b : Kd β} {Q : α → Prop} {R : β → Prop} {off : Nat} (h : Opens P f.type a Q) (hc : P.cellsOf f.type = a.sz) (ho : f.offset = off) (hr : OpensF P (off + a.sz) fs b R) :
    OpensF P off (f :: fs) (Kd.pair a b) (fun x => Q x.1 ∧ R x.2) := by
  subst ho
  refine ⟨?_⟩
  intro H enc w base spare held fuel cs hl hf
  have hl' : cs.length = f.offset + (a.sz + b.sz) := hl
  obtain ⟨y, hy⟩ := hf f (by simp)
  obtain ⟨v, hk, hq⟩ := h.go hy
  obtain ⟨u, hk2, hq2⟩ := hr.go (cs := cs) (by omega) (fun g hg => hf g (by simp [hg]))
  refine ⟨(v, u), ⟨_, _, ?_, hk, hk2⟩, hq, hq2⟩
  rw [hc, ← List.drop_drop, List.take_append_drop]
theorem opens_struct {P : Program} {t : TypeId} {fs : Array Field} {α β : Type} {d : Kd α} {Q : α → Prop} {f : β → α} (g : α → β) (hfg : ∀ x, f (g x) = x) (ht : P.underlying t = some (.struct fs)) (hc : P.cellsOf t = d.sz) (h : OpensF P 0 fs.toList d Q) :
    Opens P t (Kd.iso d f) (fun x => Q (f x)) := by
  refine ⟨?_⟩
  intro H enc w base spare held fuel cs x hx
  obtain ⟨xs, n, _, _, hl, hlen, hf⟩ := DataW.trod_struct ht hx
  obtain ⟨v, hk, hq⟩ := h.go (cs := cs) (by omega) (fun fd hfd => by
    obtain ⟨i, hi⟩ := List.getElem?_of_mem hfd
    have hi' : fs[i]? = some fd := by rw [← hi, Array.getElem?_toList]
    have := hf i fd hi'
    have hlt : i < xs.length := by
      have := (Array.getElem?_eq_some_iff.1 hi').1
      omega
    exact ⟨_, by rw [this, List.getElem?_eq_getElem hlt]⟩)
  refine ⟨g v, ?_, by show Q (f (g v)); rw [hfg]; exact hq⟩
  show d.K w (f (g v)) cs
  rw [hfg]
  simpa using hk
theorem opens_imp {P : Program} {t : TypeId} {α : Type} {d : Kd α} {Q R : α → Prop} (h : Opens P t d Q) (hi : ∀ x, Q x → R x) : Opens P t d R := by
  refine ⟨?_⟩
  intro H enc w base spare held fuel cs x hx
  obtain ⟨v, hk, hq⟩ := h.go hx
  exact ⟨v, hk, hi v hq⟩
end Go.Proofs.Ytpljfjbhlboffaa.M

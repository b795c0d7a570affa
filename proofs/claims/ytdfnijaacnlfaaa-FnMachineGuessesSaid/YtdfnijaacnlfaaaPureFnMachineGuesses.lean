/- A machine guesses just the words that it knows one step away, in order; of a drawn machine and a text. No condition. -/
import Derived.Test.YtdfnijaacnlfaaaQFnMachineGuessesx29
import Derived.Test.YtdfnijaacnlfaaaVMBas
import Derived.Test.YtdfnijaacnlfaaaVMStr
import Derived.Test.YtdfnijaacnlfaaaVMAff
import Derived.Test.YtdfnijaacnlfaaaVMSml
import Derived.Test.YtdfnijaacnlfaaaVMNer
import Derived.Test.YtdfnijaacnlfaaaVMSrt
import Derived.Test.YtdfnijaacnlfaaaVMDst
import Derived.Test.YtdfnijaacnlfaaaVMAry
import Derived.Test.YtdfnijaacnlfaaaVSized
namespace Go.Proofs.Ytdfnijaacnlfaaa
theorem PrintWords.sized_ints : type_of% @Go.Proofs.YtdfnijaacnlfaaaW.PrintWords.sized_ints := @Go.Proofs.YtdfnijaacnlfaaaW.PrintWords.sized_ints
end Go.Proofs.Ytdfnijaacnlfaaa
namespace Go.Proofs.Ytdfnijaacnlfaaa.Pure
open Go.RowKit Go.Proofs.Ytdfnijaacnlfaaa.QFnMachineGuesses Go.Proofs.YtdfnijaacnlfaaaW.PrintWords Go.Proofs.YtdfnijaacnlfaaaW.PrintLast Go.Proofs.YtdfnijaacnlfaaaW.PrintMore Go.Proofs.Ytdfnijaacnlfaaa.M
set_option linter.unusedVariables false
set_option linter.unusedSimpArgs false
theorem ba_get (l : List ByteArray) (i : Nat) (h : i < l.length) : rdOf ByteArray.empty l (i : Int) = l[i] := by simp [rdOf, List.getD_eq_getElem?_getD, List.getElem?_eq_getElem h]
theorem ba_at {P : ByteArray → Prop} {l : List ByteArray} (h : ∀ s ∈ l, P s) (i : Nat) (hi : i < l.length) : P (rdOf ByteArray.empty l (i : Int)) := by
 rw [ba_get l i hi]
 exact h _ (List.getElem_mem hi)
abbrev St := S95
abbrev Eg := S97
def edgesFrom (n i : Int) : Int → List Eg → Bool
 | _, [] => true
 | p, e :: es => (decide (97 ≤ e.f0) && decide (e.f0 ≤ 122)) && (decide (i + 1 ≤ e.f1) && decide (e.f1 ≤ n - 1)) && decide (p < e.f0) && edgesFrom n i e.f0 es
def prevAt (es : List Eg) (k : Int) : Int := if k = 0 then 0 else (rd_T97 es (k - 1)).f0
def stOk (m : List St) (i : Int) : Bool := edgesFrom m.length i 0 (rd_T95 m i).f1 && (decide (i = 0) || (rd_T95 m i).f0 || !(rd_T95 m i).f1.isEmpty)
def deepFold (dp : List Int) : Int → List Eg → Int
 | v, [] => v
 | v, e :: es => deepFold dp (if rd dp e.f1 + 1 > v then rd dp e.f1 + 1 else v) es
def longFold (dp : List Int) : Int → List Eg → Int
 | v, [] => v
 | v, e :: es => longFold dp (if rd dp e.f1 ≥ 0 then mx v (rd dp e.f1 + 1) else v) es
def deepGo (m : List St) : Nat → List Int → List Int
 | 0, dp => dp
 | i + 1, dp => deepGo m i (dp.set i (deepFold dp (rd dp i) (rd_T95 m i).f1))
def longGo (m : List St) : Nat → List Int → Bool
 | 0, dp => decide (rd dp 0 ≤ 12)
 | i + 1, dp => stOk m i && longGo m i (dp.set i (longFold dp (if (rd_T95 m i).f0 = true then 0 else -1) (rd_T95 m i).f1))
def allOk (m : List St) : Nat → Bool
 | 0 => true
 | i + 1 => stOk m i && allOk m i
def machOk (m : List St) : Bool := decide (1 ≤ m.length) && decide (m.length ≤ 400) && allOk m m.length && decide (rd (deepGo m m.length (List.replicate m.length 0)) 0 ≤ 12)
theorem eg_drop (es : List Eg) (k : Int) (h0 : 0 ≤ k) (h : k < es.length) : es.drop k.toNat = rd_T97 es k :: es.drop (k + 1).toNat := by
 have hl : k.toNat < es.length := by omega
 rw [List.drop_eq_getElem_cons hl, show (k + 1).toNat = k.toNat + 1 from by omega]
 congr 1
 exact (getD_get es _ k h0 hl).symm
theorem edges_mem {n i p : Int} {es : List Eg} (h : edgesFrom n i p es = true) : ∀ e ∈ es, 97 ≤ e.f0 ∧ e.f0 ≤ 122 ∧ i + 1 ≤ e.f1 ∧ e.f1 ≤ n - 1 ∧ p < e.f0 := by
 induction es generalizing p with
 | nil => intro e he; cases he
 | cons x es ih =>
  simp only [edgesFrom, Bool.and_eq_true, decide_eq_true_eq] at h
  obtain ⟨⟨⟨⟨h1, h2⟩, h3, h4⟩, h5⟩, h6⟩ := h
  intro e he
  rcases List.mem_cons.1 he with rfl | he
  ·exact ⟨h1, h2, h3, h4, h5⟩
  ·obtain ⟨g1, g2, g3, g4, g5⟩ := ih h6 e he
   exact ⟨g1, g2, g3, g4, by omega⟩
theorem allOk_at {m : List St} {n : Nat} (h : allOk m n = true) : ∀ i : Nat, i < n → stOk m i = true := by
 induction n with
 | zero => intro i hi; omega
 | succ n ih =>
  simp only [allOk, Bool.and_eq_true] at h
  intro i hi
  by_cases e : i = n
  ·rw [e]; exact h.1
  ·exact ih h.2 i (by omega)
theorem allOk_of {m : List St} {n : Nat} (h : ∀ i : Nat, i < n → stOk m i = true) : allOk m n = true := by
 induction n with
 | zero => rfl
 | succ n ih =>
  simp only [allOk, Bool.and_eq_true]
  exact ⟨h n (by omega), ih (fun i hi => h i (by omega))⟩
theorem deepFold_bounds {dp : List Int} {b : Int} : ∀ {es : List Eg} {v : Int}, 0 ≤ v → v ≤ b → (∀ e ∈ es, 0 ≤ rd dp e.f1 ∧ rd dp e.f1 + 1 ≤ b) → 0 ≤ deepFold dp v es ∧ deepFold dp v es ≤ b := by
 intro es
 induction es with
 | nil => intro v h0 h1 _; exact ⟨h0, h1⟩
 | cons e es ih =>
  intro v h0 h1 h
  have he := h e List.mem_cons_self
  simp only [deepFold]
  refine ih ?_ ?_ (fun x hx => h x (List.mem_cons_of_mem _ hx)) <;> split <;> omega
theorem longFold_eq {dp dq : List Int} : ∀ {es : List Eg} {v : Int}, 0 ≤ v → (∀ e ∈ es, 0 ≤ rd dp e.f1 ∧ rd dq e.f1 = rd dp e.f1) → longFold dq v es = deepFold dp v es := by
 intro es
 induction es with
 | nil => intro v _ _; rfl
 | cons e es ih =>
  intro v h0 h
  have he := h e List.mem_cons_self
  simp only [longFold, deepFold]
  rw [he.2, if_pos he.1]
  have : mx v (rd dp e.f1 + 1) = if rd dp e.f1 + 1 > v then rd dp e.f1 + 1 else v := by
   unfold mx
   repeat' split
   all_goals omega
  rw [this]
  refine ih ?_ (fun x hx => h x (List.mem_cons_of_mem _ hx))
  split <;> omega
theorem long_deep (m : List St) : ∀ (i : Nat) (dp dq : List Int), i ≤ m.length → dp.length = m.length → dq.length = m.length → (∀ j : Nat, i < m.length → j < i → rd dp j = 0) → (∀ j : Nat, j < i → rd dp j = 0) →
  (∀ j : Nat, 0 < j → i ≤ j → j < m.length → 0 ≤ rd dp j ∧ rd dq j = rd dp j) → (i = 0 → (decide (rd dq 0 ≤ 12)) = decide (rd dp 0 ≤ 12)) →
  longGo m i dq = (allOk m i && decide (rd (deepGo m i dp) 0 ≤ 12)) := by
 intro i
 induction i with
 | zero =>
  intro dp dq _ _ _ _ _ _ h0
  simp only [longGo, allOk, deepGo, Bool.true_and]
  exact h0 rfl
 | succ i ih =>
  intro dp dq hi hp hq _ hz hr _
  simp only [longGo, allOk, deepGo]
  cases e : stOk m i with
  | false => simp
  | true =>
   rw [Bool.true_and, Bool.true_and]
   simp only [stOk, Bool.and_eq_true, Bool.or_eq_true, decide_eq_true_eq] at e
   have hm := edges_mem e.1
   have he : ∀ x ∈ (rd_T95 m i).f1, 0 ≤ rd dp x.f1 ∧ rd dq x.f1 = rd dp x.f1 := by
    intro x hx
    obtain ⟨_, _, g3, g4, _⟩ := hm x hx
    have := hr x.f1.toNat (by omega) (by omega) (by omega)
    rw [show ((x.f1.toNat : Nat) : Int) = x.f1 from by omega] at this
    exact this
   have hz0 : rd dp (i : Int) = 0 := hz i (by omega)
   refine Eq.trans ?_ (congrArg (fun v => allOk m i && decide (rd (deepGo m i (dp.set i (deepFold dp v (rd_T95 m i).f1))) 0 ≤ 12)) hz0.symm)
   have hset (xs : List Int) (v : Int) (hl : xs.length = m.length) (j : Nat) (hj : j < m.length) : rd (xs.set i v) (j : Int) = if j = i then v else rd xs j := by
    by_cases c : j = i
    ·rw [if_pos c, c]
     have := rd_set_eq xs (i : Int) v (by omega) (by omega)
     simpa using this
    ·rw [if_neg c]
     have := rd_set_ne xs (i : Int) (j : Int) v (by omega) (by omega) (by omega)
     simpa using this
   have hd := deepFold_bounds (dp := dp) (b := 1000000000000 + deepFold dp 0 (rd_T95 m i).f1 + (rd_T95 m i).f1.foldl (fun a x => a + (if 0 ≤ rd dp x.f1 then rd dp x.f1 else 0)) 0) (es := (rd_T95 m i).f1) (v := 0)
   have h0d : 0 ≤ deepFold dp 0 (rd_T95 m i).f1 := by
    have key : ∀ (es : List Eg) (v : Int), 0 ≤ v → 0 ≤ deepFold dp v es := by
     intro es
     induction es with
     | nil => intro v h; exact h
     | cons x es ih2 =>
      intro v h
      simp only [deepFold]
      exact ih2 _ (by split <;> omega)
    exact key _ 0 (by omega)
   clear hd
   have hlong : (if (rd_T95 m i).f0 = true then longFold dq 0 (rd_T95 m i).f1 = deepFold dp 0 (rd_T95 m i).f1 else ((rd_T95 m i).f1 = [] ∧ i = 0) ∨ longFold dq (-1) (rd_T95 m i).f1 = deepFold dp 0 (rd_T95 m i).f1) := by
    split
    ·exact longFold_eq (by omega) he
    ·rename_i hend
     cases ees : (rd_T95 m i).f1 with
     | nil =>
      left
      refine ⟨rfl, ?_⟩
      rcases e.2 with (h | h) | h
      ·omega
      ·exact absurd h hend
      ·rw [ees] at h
       simp at h
     | cons x es =>
      right
      rw [ees] at he
      have hx := he x List.mem_cons_self
      simp only [longFold, deepFold]
      rw [hx.2, if_pos hx.1]
      rw [show mx (-1) (rd dp x.f1 + 1) = rd dp x.f1 + 1 from by unfold mx; rw [if_pos (by omega)], if_pos (by omega)]
      exact longFold_eq (by omega) (fun y hy => he y (List.mem_cons_of_mem _ hy))
   refine ih _ _ (by omega) (by simpa using hp) (by simpa using hq) ?_ ?_ ?_ ?_
   ·intro j _ hj
    rw [hset dp _ hp j (by omega), if_neg (by omega)]
    exact hz j (by omega)
   ·intro j hj
    rw [hset dp _ hp j (by omega), if_neg (by omega)]
    exact hz j (by omega)
   ·intro j hj0 hij hj
    rw [hset dp _ hp j hj, hset dq _ hq j hj]
    by_cases c : j = i
    ·rw [if_pos c, if_pos c]
     refine ⟨h0d, ?_⟩
     by_cases ce : (rd_T95 m i).f0 = true
     ·rw [if_pos ce] at hlong ⊢
      exact hlong
     ·rw [if_neg ce] at hlong ⊢
      rcases hlong with h | h
      ·omega
      ·exact h
    ·rw [if_neg c, if_neg c]
     exact hr j hj0 (by omega) hj
   ·intro hi0
    subst hi0
    have h1 := hset dp (deepFold dp 0 (rd_T95 m 0).f1) hp 0 (by omega)
    have h2 := hset dq (longFold dq (if (rd_T95 m 0).f0 = true then 0 else -1) (rd_T95 m 0).f1) hq 0 (by omega)
    rw [if_pos rfl] at h1 h2
    have h1' : rd (dp.set 0 (deepFold dp 0 (rd_T95 m 0).f1)) 0 = deepFold dp 0 (rd_T95 m 0).f1 := h1
    have h2' : rd (dq.set 0 (longFold dq (if (rd_T95 m 0).f0 = true then 0 else -1) (rd_T95 m 0).f1)) 0 = longFold dq (if (rd_T95 m 0).f0 = true then 0 else -1) (rd_T95 m 0).f1 := h2
    refine (congrArg (fun z => decide (z ≤ 12)) h2').trans (Eq.trans ?_ (congrArg (fun z => decide (z ≤ 12)) h1').symm)
    have hlong' := hlong
    by_cases ce : (rd_T95 m ((0 : Nat) : Int)).f0 = true
    ·rw [if_pos ce] at hlong'
     have : longFold dq (if (rd_T95 m 0).f0 = true then 0 else -1) (rd_T95 m 0).f1 = deepFold dp 0 (rd_T95 m 0).f1 := by
      rw [if_pos (show (rd_T95 m 0).f0 = true from ce)]
      exact hlong'
     rw [this]
    ·rw [if_neg ce] at hlong'
     have e1 : (if (rd_T95 m 0).f0 = true then (0 : Int) else -1) = -1 := if_neg ce
     rw [e1]
     rcases hlong' with h | h
     ·have h' : (rd_T95 m 0).f1 = [] := h.1
      rw [h']
      simp [longFold, deepFold]
     ·have h' : longFold dq (-1) (rd_T95 m 0).f1 = deepFold dp 0 (rd_T95 m 0).f1 := h
      rw [h']
theorem longGo_ok (m : List St) (h : 1 ≤ m.length) : longGo m m.length (List.replicate m.length 0) = (allOk m m.length && decide (rd (deepGo m m.length (List.replicate m.length 0)) 0 ≤ 12)) := by
 refine long_deep m m.length _ _ (Nat.le_refl _) (by simp) (by simp) (fun j hj _ => absurd hj (by omega)) (fun j hj => rd_replicate _ _ _ (by omega) (by omega)) (fun j _ h1 h2 => absurd h2 (by omega)) (fun h0 => by omega)
theorem in_spec (n a b : Int) : spec_l1In.f n a b = some (decide (a ≤ n) && decide (n ≤ b)) := by
 unfold spec_l1In.f
 by_cases c : n ≥ a
 ·rw [if_pos c]; simp [c]
 ·rw [if_neg c]; simp; omega
theorem stAt_small {m : List St} (hs : ∀ s ∈ m, s.f1.length ≤ 1048576) (i : Int) : (rd_T95 m i).f1.length ≤ 1048576 := by
 unfold rd_T95
 rw [List.getD_eq_getElem?_getD]
 by_cases c : i.toNat < m.length
 ·rw [List.getElem?_eq_getElem c]
  exact hs _ (List.getElem_mem c)
 ·rw [List.getElem?_eq_none (by omega)]
  simp [z95]
theorem edge_last {es : List Eg} (k : Int) (h0 : 0 ≤ k) (h : k = es.length) : es.drop k.toNat = [] := List.drop_eq_nil_of_le (by omega)
theorem prev_next (es : List Eg) (k : Int) (h0 : 0 ≤ k) : prevAt es (k + 1) = (rd_T97 es k).f0 := by
 unfold prevAt
 rw [if_neg (by omega), show k + 1 - 1 = k from by omega]
theorem ok_spec_edges (m : List St) (hm : m.length ≤ 1048576) (hs : ∀ s ∈ m, s.f1.length ≤ 1048576) (i : Nat) (hi : i < m.length) {r : Bool} (d : Nat) : ∀ k : Int, 0 ≤ k → (k + d : Int) = (rd_T95 m i).f1.length →
  (edgesFrom m.length i (prevAt (rd_T95 m i).f1 k) ((rd_T95 m i).f1.drop k.toNat) = false → r = false) →
  (edgesFrom m.length i (prevAt (rd_T95 m i).f1 k) ((rd_T95 m i).f1.drop k.toNat) = true → Ev (fun n => spec_MachineOk.l1 n m (i : Int) ((rd_T95 m i).f1.length : Int)) r) → Ev (fun n => spec_MachineOk.l1 n m (i : Int) k) r := by
 have hz := stAt_small hs (i : Int)
 induction d with
 | zero =>
  intro k h0 hk _ yes
  rw [edge_last k h0 (by omega)] at yes
  obtain rfl : k = ((rd_T95 m i).f1.length : Int) := by omega
  exact yes rfl
 | succ d ih =>
  intro k h0 hk no yes
  have hlt : k < ((rd_T95 m i).f1.length : Int) := by omega
  rw [eg_drop _ k h0 hlt] at no yes
  have ihk := ih (k + 1) (by omega) (by omega)
  rw [prev_next _ k h0] at ihk
  simp only [edgesFrom] at no yes
  refine Ev.step (fun n => spec_MachineOk.l1.eq_2 _ _ _ _) (eP (eP (evPos hlt (evPos h0 (evCall (in_spec _ _ _) ?_)))))
  cases c1 : (decide (97 ≤ (rd_T97 (rd_T95 m i).f1 k).f0) && decide ((rd_T97 (rd_T95 m i).f1 k).f0 ≤ 122)) with
  | false =>
   rw [c1] at no
   exact evNeg (by simp) (evTo (Ev.now _) (no (by simp)).symm)
  | true =>
   rw [c1] at no yes
   refine evPos rfl (evCall (in_spec _ _ _) ?_)
   rw [w6 (n := (i : Int) + 1), w6 (n := (m.length : Int) - 1)]
   cases c2 : (decide ((i : Int) + 1 ≤ (rd_T97 (rd_T95 m i).f1 k).f1) && decide ((rd_T97 (rd_T95 m i).f1 k).f1 ≤ (m.length : Int) - 1)) with
   | false =>
    rw [c2] at no
    exact evNeg (by simp) (evTo (Ev.now _) (no (by simp)).symm)
   | true =>
    rw [c2] at no yes
    refine evPos rfl ?_
    rw [w6 (n := k + 1)]
    by_cases c3 : k > 0
    ·rw [w6 (n := k - 1)]
     have hp : prevAt (rd_T95 m i).f1 k = (rd_T97 (rd_T95 m i).f1 (k - 1)).f0 := by
      unfold prevAt
      rw [if_neg (by omega)]
     rw [hp] at no yes
     refine evPos c3 (eP (eP ?_))
     by_cases c4 : (rd_T97 (rd_T95 m i).f1 (k - 1)).f0 ≥ (rd_T97 (rd_T95 m i).f1 k).f0
     ·exact evPos c4 (evTo (Ev.now _) (no (by rw [decide_eq_false (by omega)]; simp)).symm)
     ·rw [decide_eq_true (by omega)] at no yes
      simp only [Bool.true_and] at no yes
      exact evNeg c4 (ihk no yes)
    ·have hp : prevAt (rd_T95 m i).f1 k = 0 := by
      unfold prevAt
      rw [if_pos (by omega)]
     simp only [Bool.and_eq_true, decide_eq_true_eq] at c1
     rw [hp, decide_eq_true (by omega)] at no yes
     simp only [Bool.true_and] at no yes
     exact evNeg c3 (ihk no yes)
theorem ok_spec_loop (m : List St) (hm : m.length ≤ 1048576) (hs : ∀ s ∈ m, s.f1.length ≤ 1048576) {r : Bool} (no : allOk m m.length = false → r = false)
  (yes : allOk m m.length = true → Ev (fun n => (spec_l1In.f (m.length : Int) 1 400).bind fun t163 => (if t163 = true then ((spec_l3Deep.f n m).bind fun t164 => (some (decide (t164 ≤ 12)))) else (some false))) r)
  (d : Nat) : ∀ i : Nat, i + d = m.length → (∀ j : Nat, j < i → stOk m j = true) → Ev (fun n => spec_MachineOk.l0 n m (i : Int)) r := by
 induction d with
 | zero =>
  intro i hi h
  exact Ev.step (fun n => spec_MachineOk.l0.eq_2 _ _ _) (eN (yes (allOk_of (fun j hj => h j (by omega)))))
 | succ d ih =>
  intro i hi h
  have bad : stOk m i = false → r = false := by
   intro hb
   refine no ?_
   cases e : allOk m m.length with
   | false => rfl
   | true =>
    have := allOk_at e i (by omega)
    rw [hb] at this
    cases this
  have hz := stAt_small hs (i : Int)
  refine Ev.step (fun n => spec_MachineOk.l0.eq_2 _ _ _) (eP (ok_spec_edges m hm hs i (by omega) (rd_T95 m i).f1.length 0 (by omega) (by omega) (fun hf => bad ?_) (fun ht => ?_)))
  ·have hf' : edgesFrom m.length i 0 (rd_T95 m i).f1 = false := hf
   simp [stOk, hf']
  ·have ht' : edgesFrom m.length i 0 (rd_T95 m i).f1 = true := ht
   have good : stOk m i = true → Ev (fun n => spec_MachineOk.l0 n m (wrap64 ((i : Int) + 1))) r := by
    intro hg
    rw [w6]
    refine ih (i + 1) (by omega) (fun j hj => ?_)
    by_cases c : j = i
    ·rw [c]; exact hg
    ·exact h j (by omega)
   refine Ev.step (fun n => spec_MachineOk.l1.eq_2 _ _ _ _) (eP (eP (eN ?_)))
   by_cases c : (i : Int) > 0
   ·refine evPos c ?_
    by_cases c2 : (rd_T95 m i).f0 = true
    ·exact evPos c2 (good (by simp [stOk, ht', c2]))
    ·refine evNeg c2 ?_
     by_cases c3 : ((rd_T95 m i).f1.length : Int) = 0
     ·refine evPos c3 (evTo (Ev.now _) (bad ?_).symm)
      have hnil : (rd_T95 m i).f1 = [] := List.length_eq_zero_iff.1 (by omega)
      simp [stOk, c2, hnil]
      omega
     ·refine evNeg c3 (good ?_)
      have hne : (rd_T95 m i).f1 ≠ [] := fun h => c3 (by rw [h]; rfl)
      simp [stOk, ht', hne]
   ·exact evNeg c (good (by simp [stOk, ht']; omega))
theorem deep_bounds {m : List St} {i : Nat} {dp : List Int} (hi : i < m.length) (hok : stOk m i = true) (hl : dp.length = m.length) (hz : rd dp (i : Int) = 0)
  (hb : ∀ j : Nat, i < j → j < m.length → 0 ≤ rd dp j ∧ rd dp j ≤ (m.length : Int) - j) :
  (∀ e ∈ (rd_T95 m i).f1, 0 ≤ e.f1 ∧ e.f1 < m.length ∧ (i : Int) < e.f1 ∧ 0 ≤ rd dp e.f1 ∧ rd dp e.f1 + 1 ≤ (m.length : Int) - i) := by
 intro e he
 simp only [stOk, Bool.and_eq_true] at hok
 obtain ⟨_, _, g3, g4, _⟩ := edges_mem hok.1 e he
 have := hb e.f1.toNat (by omega) (by omega)
 rw [show ((e.f1.toNat : Nat) : Int) = e.f1 from by omega] at this
 exact ⟨by omega, by omega, by omega, by omega, by omega⟩
theorem deep_edges (m : List St) (hm : m.length ≤ 400) (i : Nat) (hi : i < m.length) {r : Int} (es : List Eg) : ∀ (pre : List Eg) (dp : List Int), (rd_T95 m i).f1 = pre ++ es → (rd_T95 m i).f1.length ≤ 1048576 → dp.length = m.length →
  0 ≤ rd dp (i : Int) → rd dp (i : Int) ≤ 400 → (∀ e ∈ es, 0 ≤ e.f1 ∧ e.f1 < m.length ∧ (i : Int) < e.f1 ∧ 0 ≤ rd dp e.f1 ∧ rd dp e.f1 + 1 ≤ 400) →
  (Ev (fun n => spec_l3Deep.l0 n m (dp.set i (deepFold dp (rd dp (i : Int)) es)) ((i : Int) - 1)) r) → Ev (fun n => spec_l3Deep.l1 n m dp (i : Int) (pre.length : Int)) r := by
 induction es with
 | nil =>
  intro pre dp hp hs hl hv hv2 _ next
  rw [List.append_nil] at hp
  refine Ev.step (fun n => spec_l3Deep.l1.eq_2 _ _ _ _ _) (eP (eP (evNeg (by rw [← hp]; exact Int.lt_irrefl _) ?_)))
  rw [w6]
  have e : dp.set i (rd dp (i : Int)) = dp := by
   refine List.ext_getElem (by simp) (fun j h1 h2 => ?_)
   by_cases c : i = j
   ·subst c
    simp [rd, List.getD_eq_getElem?_getD, h2]
   ·simp [List.getElem_set_ne c]
  simp only [deepFold] at next
  rw [e] at next
  exact next
 | cons x es ih =>
  intro pre dp hp hs hl hv hv2 he next
  have hx := he x List.mem_cons_self
  have hlen : (rd_T95 m i).f1.length = pre.length + (es.length + 1) := by rw [hp]; simp
  have hat : rd_T97 (rd_T95 m i).f1 (pre.length : Int) = x := by
   simp [rd_T97, hp, List.getD_eq_getElem?_getD]
  have hp' : (rd_T95 m i).f1 = (pre ++ [x]) ++ es := by rw [hp]; simp
  have hpl : ((pre ++ [x]).length : Int) = (pre.length : Int) + 1 := by simp
  refine Ev.step (fun n => spec_l3Deep.l1.eq_2 _ _ _ _ _) (eP (eP (eP (eP ?_))))
  have hat' : rd_T97 (rd_T95 m (i : Int)).f1 (pre.length : Int) = x := hat
  rw [hat', w6 (n := rd dp x.f1 + 1), w6 (n := (pre.length : Int) + 1), ← hpl]
  refine eP (eP (eP ?_))
  have same (v : Int) (y : Eg) (hy : y ∈ es) : rd (dp.set (i : Int).toNat v) y.f1 = rd dp y.f1 := by
   have := he y (List.mem_cons_of_mem _ hy)
   exact rd_set_ne dp (i : Int) y.f1 v (by omega) (by omega) (by omega)
  have foldsame (v : Int) : ∀ (l : List Eg) (u : Int), (∀ y ∈ l, y ∈ es) → deepFold (dp.set (i : Int).toNat v) u l = deepFold dp u l := by
   intro l
   induction l with
   | nil => intro u _; rfl
   | cons y l ihl =>
    intro u hy
    simp only [deepFold]
    rw [same v y (hy y List.mem_cons_self), ihl _ (fun z hz => hy z (List.mem_cons_of_mem _ hz))]
  simp only [deepFold] at next
  by_cases c : rd dp x.f1 + 1 > rd dp (i : Int)
  ·rw [if_pos c] at next
   have hset : rd (dp.set (i : Int).toNat (rd dp x.f1 + 1)) (i : Int) = rd dp x.f1 + 1 := rd_set_eq dp (i : Int) _ (by omega) (by omega)
   refine evPos c (ih (pre ++ [x]) _ hp' hs (by simpa using hl) (by rw [hset]; omega) (by rw [hset]; omega) (fun y hy => ?_) ?_)
   ·have := he y (List.mem_cons_of_mem _ hy)
    rw [same _ y hy]
    exact this
   ·rw [hset, foldsame _ es _ (fun y hy => hy), Int.toNat_natCast, List.set_set]
    exact next
  ·rw [if_neg c] at next
   exact evNeg c (ih (pre ++ [x]) dp hp' hs hl hv hv2 (fun y hy => he y (List.mem_cons_of_mem _ hy)) next)
theorem deep_loop (m : List St) (hm : m.length ≤ 400) (h1 : 1 ≤ m.length) (hs : ∀ s ∈ m, s.f1.length ≤ 1048576) (hok : allOk m m.length = true) (i : Nat) : ∀ dp : List Int, i ≤ m.length → dp.length = m.length → (∀ j : Nat, j < i → rd dp j = 0) →
  (∀ j : Nat, i ≤ j → j < m.length → 0 ≤ rd dp j ∧ rd dp j ≤ (m.length : Int) - j) → Ev (fun n => spec_l3Deep.l0 n m dp ((i : Int) - 1)) (rd (deepGo m i dp) 0) := by
 induction i with
 | zero =>
  intro dp _ hl _ _
  exact Ev.step (fun n => spec_l3Deep.l0.eq_2 _ _ _ _) (eN (eP (Ev.now _)))
 | succ i ih =>
  intro dp hi hl hz hb
  have hst := allOk_at hok i (by omega)
  have hz0 := hz i (by omega)
  have hbd := deep_bounds (by omega) hst hl hz0 (fun j h1 h2 => hb j (by omega) h2)
  have hfb := deepFold_bounds (dp := dp) (b := (m.length : Int) - i) (es := (rd_T95 m i).f1) (v := 0) (by omega) (by omega) (fun e he => by have := hbd e he; omega)
  refine Ev.step (fun n => spec_l3Deep.l0.eq_2 _ _ _ _) (eP ?_)
  rw [show (((i + 1 : Nat) : Int) - 1) = (i : Int) from by omega]
  refine deep_edges m hm i (by omega) (rd_T95 m i).f1 [] dp rfl (stAt_small hs _) hl (by omega) (by omega) (fun e he => by have := hbd e he; omega) ?_
  rw [hz0]
  simp only [deepGo]
  rw [hz0]
  have hset (j : Nat) (hj : j < m.length) : rd (dp.set i (deepFold dp 0 (rd_T95 m i).f1)) (j : Int) = if j = i then deepFold dp 0 (rd_T95 m i).f1 else rd dp j := by
   by_cases c : j = i
   ·rw [if_pos c, c]
    have := rd_set_eq dp (i : Int) (deepFold dp 0 (rd_T95 m i).f1) (by omega) (by omega)
    simpa using this
   ·rw [if_neg c]
    have := rd_set_ne dp (i : Int) (j : Int) (deepFold dp 0 (rd_T95 m i).f1) (by omega) (by omega) (by omega)
    simpa using this
  refine ih _ (by omega) (by simpa using hl) (fun j hj => ?_) (fun j h1 h2 => ?_)
  ·rw [hset j (by omega), if_neg (by omega)]
   exact hz j (by omega)
  ·rw [hset j h2]
   by_cases c : j = i
   ·rw [if_pos c]
    subst c
    exact hfb
   ·rw [if_neg c]
    exact hb j (by omega) h2
theorem deep_spec (m : List St) (hm : m.length ≤ 400) (h1 : 1 ≤ m.length) (hs : ∀ s ∈ m, s.f1.length ≤ 1048576) (hok : allOk m m.length = true) : Ev (fun n => spec_l3Deep.f n m) (rd (deepGo m m.length (List.replicate m.length 0)) 0) := by
 unfold spec_l3Deep.f
 refine eP (eP ?_)
 rw [w6]
 exact deep_loop m hm h1 hs hok m.length _ (Nat.le_refl _) (by simp) (fun j hj => rd_replicate _ _ _ (by omega) (by omega)) (fun j h1 h2 => absurd h2 (by omega))
theorem machOk_spec (m : List St) (hm : m.length ≤ 1048576) (hs : ∀ s ∈ m, s.f1.length ≤ 1048576) : Ev (fun n => spec_MachineOk.f n m) (machOk m) := by
 refine ok_spec_loop m hm hs (fun h => by simp [machOk, h]) (fun h => ?_) m.length 0 (by omega) (fun j hj => absurd hj (by omega))
 refine evCall (in_spec _ _ _) ?_
 by_cases c : (1 ≤ (m.length : Int) ∧ (m.length : Int) ≤ 400)
 ·refine evPos (by simp; omega) (Ev.bind (deep_spec m (by omega) (by omega) hs h) (evTo (Ev.now _) ?_))
  simp only [machOk, h]
  rw [decide_eq_true (show 1 ≤ m.length from by omega), decide_eq_true (show m.length ≤ 400 from by omega)]
  simp
 ·refine evNeg (by simp; omega) (evTo (Ev.now _) ?_)
  cases e : machOk m with
  | false => rfl
  | true =>
   simp only [machOk, Bool.and_eq_true, decide_eq_true_eq] at e
   omega
theorem within_impl (n a b : Int) : impl_within.f n a b = some (decide (a ≤ n) && decide (n ≤ b)) := by
 unfold impl_within.f
 by_cases c : n ≥ a
 ·rw [if_pos c]; simp [c]
 ·rw [if_neg c]; simp; omega
theorem longFold_bounds {dp : List Int} {b : Int} : ∀ {es : List Eg} {v : Int}, -1 ≤ v → v ≤ b → (∀ e ∈ es, rd dp e.f1 + 1 ≤ b) → -1 ≤ longFold dp v es ∧ longFold dp v es ≤ b := by
 intro es
 induction es with
 | nil => intro v h0 h1 _; exact ⟨h0, h1⟩
 | cons e es ih =>
  intro v h0 h1 h
  have he := h e List.mem_cons_self
  simp only [longFold]
  refine ih ?_ ?_ (fun x hx => h x (List.mem_cons_of_mem _ hx)) <;> unfold mx <;> repeat' split
  all_goals omega
theorem longFold_same {dp dq : List Int} : ∀ {es : List Eg} {v : Int}, (∀ e ∈ es, rd dq e.f1 = rd dp e.f1) → longFold dq v es = longFold dp v es := by
 intro es
 induction es with
 | nil => intro v _; rfl
 | cons e es ih =>
  intro v h
  simp only [longFold]
  rw [h e List.mem_cons_self]
  exact ih (fun x hx => h x (List.mem_cons_of_mem _ hx))
theorem ok_impl_edges (m : List St) (hm : m.length ≤ 400) (i : Nat) (hi : i < m.length) (hs : (rd_T95 m i).f1.length ≤ 1048576) {r ends : Bool} (es : List Eg) : ∀ (pre : List Eg) (dp : List Int), (rd_T95 m i).f1 = pre ++ es → dp.length = m.length →
  -1 ≤ rd dp (i : Int) → rd dp (i : Int) ≤ 400 → (∀ j : Nat, i < j → j < m.length → -1 ≤ rd dp j ∧ rd dp j + 1 ≤ 400) →
  (edgesFrom m.length i (prevAt (rd_T95 m i).f1 pre.length) es = false → r = false) →
  (edgesFrom m.length i (prevAt (rd_T95 m i).f1 pre.length) es = true → Ev (fun n => impl_MachineOk.l0 n m (dp.set i (longFold dp (rd dp (i : Int)) es)) ((i : Int) - 1)) r) →
  Ev (fun n => impl_MachineOk.l1 n m dp (i : Int) (rd_T95 m i).f1 ((rd_T95 m i).f1.length : Int) (pre.length : Int) ends (rd_T95 m i).f1) r := by
 induction es with
 | nil =>
  intro pre dp hp hl hv hv2 _ _ yes
  rw [List.append_nil] at hp
  refine Ev.step (fun n => impl_MachineOk.l1.eq_2 _ _ _ _ _ _ _ _ _) (evNeg (by rw [← hp]; exact Int.lt_irrefl _) ?_)
  rw [w6]
  have e : dp.set i (rd dp (i : Int)) = dp := by
   refine List.ext_getElem (by simp) (fun j h1 h2 => ?_)
   by_cases c : i = j
   ·subst c
    simp [rd, List.getD_eq_getElem?_getD, h2]
   ·simp [List.getElem_set_ne c]
  have next := yes rfl
  simp only [longFold] at next
  rw [e] at next
  exact next
 | cons x es ih =>
  intro pre dp hp hl hv hv2 hb no yes
  have hlen : (rd_T95 m i).f1.length = pre.length + (es.length + 1) := by rw [hp]; simp
  have hat : rd_T97 (rd_T95 m i).f1 (pre.length : Int) = x := by
   simp [rd_T97, hp, List.getD_eq_getElem?_getD]
  have hat' : rd_T97 (rd_T95 m i).f1 (pre.length : Int) = x := hat
  have hp' : (rd_T95 m i).f1 = (pre ++ [x]) ++ es := by rw [hp]; simp
  have hpl : ((pre ++ [x]).length : Int) = (pre.length : Int) + 1 := by simp
  have hpn : prevAt (rd_T95 m i).f1 ((pre ++ [x]).length : Int) = x.f0 := by
   rw [hpl, prev_next _ _ (by omega), hat]
  have ihx (dq : List Int) := ih (pre ++ [x]) dq hp'
  rw [hpn] at ihx
  simp only [edgesFrom] at no yes
  refine Ev.step (fun n => impl_MachineOk.l1.eq_2 _ _ _ _ _ _ _ _ _) (eP (eP (eP ?_)))
  rw [hat']
  refine evCall (within_impl _ _ _) ?_
  have stop : r = false → Ev (fun n => impl_MachineOk.j4 n m dp (i : Int) (rd_T95 m i).f1 ((rd_T95 m i).f1.length : Int) (pre.length : Int) true ends (rd_T95 m i).f1 x.f0 x.f1) r := fun h => Ev.step (fun n => impl_MachineOk.j4.eq_2 _ _ _ _ _ _ _ _ _ _ _ _) (evPos rfl (evTo (Ev.now _) h.symm))
  cases c1 : (decide (97 ≤ x.f0) && decide (x.f0 ≤ 122)) with
  | false =>
   rw [c1] at no
   exact evNeg (by simp) (stop (no (by simp)))
  | true =>
   rw [c1] at no yes
   refine evPos rfl ?_
   rw [w6 (n := (i : Int) + 1), w6 (n := (m.length : Int) - 1)]
   have last : (decide (prevAt (rd_T95 m i).f1 (pre.length : Int) < x.f0)) = true → Ev (fun n => (impl_within.f x.f1 ((i : Int) + 1) ((m.length : Int) - 1)).bind fun t => impl_MachineOk.j4 n m dp (i : Int) (rd_T95 m i).f1 ((rd_T95 m i).f1.length : Int) (pre.length : Int) (!t) ends (rd_T95 m i).f1 x.f0 x.f1) r := by
    intro c3
    rw [c3] at no yes
    refine evCall (within_impl _ _ _) ?_
    cases c2 : (decide ((i : Int) + 1 ≤ x.f1) && decide (x.f1 ≤ (m.length : Int) - 1)) with
    | false =>
     rw [c2] at no
     exact stop (no (by simp))
    | true =>
     rw [c2] at no yes
     simp only [Bool.true_and] at no yes
     simp only [Bool.and_eq_true, decide_eq_true_eq] at c2
     have hx := hb x.f1.toNat (by omega) (by omega)
     rw [show ((x.f1.toNat : Nat) : Int) = x.f1 from by omega] at hx
     refine Ev.step (fun n => impl_MachineOk.j4.eq_2 _ _ _ _ _ _ _ _ _ _ _ _) (evNeg (by simp) (eP (eP ?_)))
     rw [w6 (n := (pre.length : Int) + 1), ← hpl]
     by_cases c4 : rd dp x.f1 ≥ 0
     ·rw [w6 (n := rd dp x.f1 + 1)]
      have hmx : mx (rd dp (i : Int)) (rd dp x.f1 + 1) ≤ 400 ∧ -1 ≤ mx (rd dp (i : Int)) (rd dp x.f1 + 1) := by unfold mx; split <;> omega
      have hset : rd (dp.set (i : Int).toNat (mx (rd dp (i : Int)) (rd dp x.f1 + 1))) (i : Int) = mx (rd dp (i : Int)) (rd dp x.f1 + 1) := rd_set_eq dp (i : Int) _ (by omega) (by omega)
      refine evPos c4 (eP (eP (ihx _ (by simpa using hl) (by rw [hset]; omega) (by rw [hset]; omega) (fun j h1 h2 => ?_) no (fun ht => ?_))))
      ·have := rd_set_ne dp (i : Int) (j : Int) (mx (rd dp (i : Int)) (rd dp x.f1 + 1)) (by omega) (by omega) (by omega)
       rw [this]
       exact hb j h1 h2
      ·have next := yes ht
       simp only [longFold] at next
       rw [if_pos c4] at next
       rw [hset, longFold_same (dp := dp) (fun e he => ?_), Int.toNat_natCast, List.set_set]
       ·exact next
       ·obtain ⟨_, _, g3, g4, _⟩ := edges_mem ht e he
        exact rd_set_ne dp (i : Int) e.f1 _ (by omega) (by omega) (by omega)
     ·refine evNeg c4 (ihx dp hl hv hv2 hb no (fun ht => ?_))
      have next := yes ht
      simp only [longFold] at next
      rw [if_neg c4] at next
      exact next
   by_cases c3 : (pre.length : Int) > 0
   ·rw [w6 (n := (pre.length : Int) - 1)]
    have hpv : prevAt (rd_T95 m i).f1 (pre.length : Int) = (rd_T97 (rd_T95 m i).f1 ((pre.length : Int) - 1)).f0 := by
     unfold prevAt
     rw [if_neg (by omega)]
    refine evPos c3 (eP (eP ?_))
    by_cases c4 : (rd_T97 (rd_T95 m i).f1 ((pre.length : Int) - 1)).f0 ≥ x.f0
    ·refine evPos c4 (stop (no ?_))
     rw [hpv, decide_eq_false (show ¬ (rd_T97 (rd_T95 m i).f1 ((pre.length : Int) - 1)).f0 < x.f0 from by omega)]
     simp
    ·refine evNeg c4 (last ?_)
     rw [hpv]
     exact decide_eq_true (by omega)
   ·refine evNeg c3 (last ?_)
    simp only [Bool.and_eq_true, decide_eq_true_eq] at c1
    unfold prevAt
    rw [if_pos (by omega)]
    exact decide_eq_true (by omega)
theorem ok_impl_loop (m : List St) (hm : m.length ≤ 400) (h1 : 1 ≤ m.length) (hs : ∀ s ∈ m, s.f1.length ≤ 1048576) (i : Nat) : ∀ dp : List Int, i ≤ m.length → dp.length = m.length →
  (∀ j : Nat, i ≤ j → j < m.length → -1 ≤ rd dp j ∧ rd dp j ≤ (m.length : Int) - j) → Ev (fun n => impl_MachineOk.l0 n m dp ((i : Int) - 1)) (longGo m i dp) := by
 induction i with
 | zero =>
  intro dp _ hl _
  exact Ev.step (fun n => impl_MachineOk.l0.eq_2 _ _ _ _) (eN (eP (Ev.now _)))
 | succ i ih =>
  intro dp hi hl hb
  have hz := stAt_small hs (i : Int)
  refine Ev.step (fun n => impl_MachineOk.l0.eq_2 _ _ _ _) ?_
  rw [show (((i + 1 : Nat) : Int) - 1) = (i : Int) from by omega]
  refine eP (eP (eP ?_))
  have main : (decide ((i : Int) = 0) || (rd_T95 m i).f0 || !(rd_T95 m i).f1.isEmpty) = true → Ev (fun n => impl_MachineOk.j1 n m dp (i : Int) false (rd_T95 m i).f0 (rd_T95 m i).f1) (longGo m (i + 1) dp) := by
   intro hc
   have hst : stOk m i = edgesFrom m.length i 0 (rd_T95 m i).f1 := by
    unfold stOk
    rw [hc, Bool.and_true]
   have run (v : Int) (hv0 : -1 ≤ v) (hv1 : v ≤ 0) (hv : v = if (rd_T95 m i).f0 = true then 0 else -1) : Ev (fun n => impl_MachineOk.l1 n m (dp.set i v) (i : Int) (rd_T95 m i).f1 ((rd_T95 m i).f1.length : Int) 0 (rd_T95 m i).f0 (rd_T95 m i).f1) (longGo m (i + 1) dp) := by
    have hset : rd (dp.set i v) (i : Int) = v := by
     have := rd_set_eq dp (i : Int) v (by omega) (by omega)
     simpa using this
    have hne (j : Int) (h0 : 0 ≤ j) (hj : (i : Int) ≠ j) : rd (dp.set i v) j = rd dp j := by
     have := rd_set_ne dp (i : Int) j v (by omega) h0 hj
     simpa using this
    refine ok_impl_edges m hm i (by omega) hz (rd_T95 m i).f1 [] (dp.set i v) rfl (by simpa using hl) (by rw [hset]; omega) (by rw [hset]; omega) (fun j q1 q2 => ?_) (fun hf => ?_) (fun ht => ?_)
    ·rw [hne j (by omega) (by omega)]
     have := hb j (by omega) q2
     omega
    ·have hf' : edgesFrom m.length i 0 (rd_T95 m i).f1 = false := hf
     simp only [longGo]
     rw [hst, hf', Bool.false_and]
    ·have ht' : edgesFrom m.length i 0 (rd_T95 m i).f1 = true := ht
     have hto (e : Eg) (he : e ∈ (rd_T95 m i).f1) : (i : Int) < e.f1 ∧ e.f1 < m.length := by
      obtain ⟨_, _, g3, g4, _⟩ := edges_mem ht' e he
      omega
     simp only [longGo]
     rw [hst, ht', Bool.true_and, hset, List.set_set, longFold_same (dp := dp) (fun e he => hne e.f1 (by have := hto e he; omega) (by have := hto e he; omega)), ← hv]
     have hfb := longFold_bounds (dp := dp) (b := (m.length : Int) - i) (es := (rd_T95 m i).f1) (v := v) (by omega) (by omega) (fun e he => by
      have q := hto e he
      have := hb e.f1.toNat (by omega) (by omega)
      rw [show ((e.f1.toNat : Nat) : Int) = e.f1 from by omega] at this
      omega)
     refine ih _ (by omega) (by simpa using hl) (fun j q1 q2 => ?_)
     by_cases c : j = i
     ·subst c
      have := rd_set_eq dp (j : Int) (longFold dp v (rd_T95 m j).f1) (by omega) (by omega)
      rw [show (dp.set j (longFold dp v (rd_T95 m j).f1)) = (dp.set (j : Int).toNat (longFold dp v (rd_T95 m j).f1)) from by simp, this]
      exact hfb
     ·have := rd_set_ne dp (i : Int) (j : Int) (longFold dp v (rd_T95 m i).f1) (by omega) (by omega) (by omega)
      rw [show (dp.set i (longFold dp v (rd_T95 m i).f1)) = (dp.set (i : Int).toNat (longFold dp v (rd_T95 m i).f1)) from by simp, this]
      exact hb j (by omega) q2
   refine Ev.step (fun n => impl_MachineOk.j1.eq_2 _ _ _ _ _ _ _) (evNeg (by simp) (eP (eP (evCall rfl ?_))))
   rw [Int.toNat_natCast]
   by_cases ce : (rd_T95 m i).f0 = true
   ·refine evPos ce (Ev.step (fun n => impl_MachineOk.j2.eq_2 _ _ _ _ _ _) ?_)
    rw [List.set_set]
    exact run 0 (by omega) (by omega) (by rw [if_pos ce])
   ·exact evNeg ce (Ev.step (fun n => impl_MachineOk.j2.eq_2 _ _ _ _ _ _) (run (-1) (by omega) (by omega) (by rw [if_neg ce])))
  by_cases c : (i : Int) > 0
  ·refine evPos c ?_
   by_cases ce : (rd_T95 m i).f0 = true
   ·exact evPos ce (main (by simp [ce]))
   ·refine evNeg ce ?_
    by_cases cn : (rd_T95 m i).f1 = []
    ·have e1 : ((((rd_T95 m (i : Int)).f1).length : Int) == 0) = true := by
      have : (rd_T95 m (i : Int)).f1 = [] := cn
      rw [this]
      rfl
     rw [e1]
     refine Ev.step (fun n => impl_MachineOk.j1.eq_2 _ _ _ _ _ _ _) (evPos rfl (evTo (Ev.now _) ?_))
     have hf : stOk m i = false := by
      have c' : ¬ i = 0 := by omega
      simp [stOk, ce, cn, c']
     simp [longGo, hf]
    ·have hne : ((rd_T95 m i).f1.length : Int) ≠ 0 := fun h => cn (List.length_eq_zero_iff.1 (by omega))
     have e1 : ((((rd_T95 m (i : Int)).f1).length : Int) == 0) = false := beq_eq_false_iff_ne.2 hne
     rw [e1]
     exact main (by simp [cn])
  ·exact evNeg c (main (by simp; omega))
theorem machOk_impl (m : List St) (hm : m.length ≤ 1048576) (hs : ∀ s ∈ m, s.f1.length ≤ 1048576) : Ev (fun n => impl_MachineOk.f n m) (machOk m) := by
 unfold impl_MachineOk.f
 refine evCall (within_impl _ _ _) ?_
 by_cases c : (1 ≤ (m.length : Int) ∧ (m.length : Int) ≤ 400)
 ·refine evPos (by simp; omega) (eP (eP ?_))
  rw [w6]
  refine evTo (ok_impl_loop m (by omega) (by omega) hs m.length _ (Nat.le_refl _) (by simp) (fun j h1 h2 => absurd h2 (by omega))) ?_
  rw [longGo_ok m (by omega)]
  simp only [machOk]
  rw [decide_eq_true (show 1 ≤ m.length from by omega), decide_eq_true (show m.length ≤ 400 from by omega)]
  simp
 ·refine evNeg (by simp; omega) (evTo (Ev.now _) ?_)
  cases e : machOk m with
  | false => rfl
  | true =>
   simp only [machOk, Bool.and_eq_true, decide_eq_true_eq] at e
   omega
theorem ok_to {m : List St} {n : Nat} (hok : allOk m m.length = true) (i : Nat) (hi : i < m.length) : ∀ e ∈ (rd_T95 m i).f1, (i : Int) < e.f1 ∧ e.f1 < m.length := by
 intro e he
 have h := allOk_at hok i hi
 simp only [stOk, Bool.and_eq_true] at h
 obtain ⟨_, _, g3, g4, _⟩ := edges_mem h.1 e he
 omega
theorem machOk_facts {m : List St} (h : machOk m = true) : 1 ≤ m.length ∧ m.length ≤ 400 ∧ allOk m m.length = true := by
 simp only [machOk, Bool.and_eq_true, decide_eq_true_eq] at h
 exact ⟨h.1.1.1, h.1.1.2, h.1.2⟩
def hop (c : Int) : List Eg → Int
 | [] => -1
 | e :: es => if e.f0 = c then e.f1 else hop c es
def hopL (c : Int) : Int → List Eg → Int
 | v, [] => v
 | v, e :: es => hopL c (if e.f0 = c then e.f1 else v) es
theorem hopL_past {n i c : Int} : ∀ {es : List Eg} {p v : Int}, edgesFrom n i p es = true → c ≤ p → hopL c v es = v := by
 intro es
 induction es with
 | nil => intro p v _ _; rfl
 | cons e es ih =>
  intro p v h hc
  simp only [edgesFrom, Bool.and_eq_true, decide_eq_true_eq] at h
  obtain ⟨⟨_, h5⟩, h6⟩ := h
  simp only [hopL]
  rw [if_neg (by omega)]
  exact ih h6 (by omega)
theorem hopL_hop {n i c : Int} : ∀ {es : List Eg} {p : Int}, edgesFrom n i p es = true → hopL c (-1) es = hop c es := by
 intro es
 induction es with
 | nil => intro p _; rfl
 | cons e es ih =>
  intro p h
  simp only [edgesFrom, Bool.and_eq_true, decide_eq_true_eq] at h
  obtain ⟨_, h6⟩ := h
  simp only [hopL, hop]
  by_cases g : e.f0 = c
  ·rw [if_pos g, if_pos g]
   exact hopL_past h6 (by omega)
  ·rw [if_neg g, if_neg g]
   exact ih h6
theorem hop_bounds {c a b : Int} : ∀ {es : List Eg}, (∀ e ∈ es, a < e.f1 ∧ e.f1 < b) → hop c es = -1 ∨ (a < hop c es ∧ hop c es < b) := by
 intro es
 induction es with
 | nil => intro _; exact .inl rfl
 | cons e es ih =>
  intro h
  simp only [hop]
  by_cases g : e.f0 = c
  ·rw [if_pos g]; exact .inr (h e List.mem_cons_self)
  ·rw [if_neg g]; exact ih (fun x hx => h x (List.mem_cons_of_mem _ hx))
def trail (m : List St) (w : ByteArray) : Nat → Nat → Int → Int
 | 0, _, a => a
 | d + 1, i, a => if hop (wrap64 (bt w i)) (rd_T95 m a).f1 < 0 then -1 else trail m w d (i + 1) (hop (wrap64 (bt w i)) (rd_T95 m a).f1)
def knows (m : List St) (w : ByteArray) : Bool := machOk m && (decide (0 ≤ trail m w w.size 0 0) && (rd_T95 m (trail m w w.size 0 0)).f0)
theorem go_edges (m : List St) (w : ByteArray) (at_ : Nat) (i : Nat) (ha : at_ < m.length) (hi : i < w.size) (hs : (rd_T95 m at_).f1.length ≤ 1048576) {r : Int} (es : List Eg) : ∀ (pre : List Eg) (v : Int), (rd_T95 m at_).f1 = pre ++ es →
  (hopL (wrap64 (bt w i)) v es < 0 → r = -1) → (¬ hopL (wrap64 (bt w i)) v es < 0 → Ev (fun n => spec_l3Go.l0 n m w (hopL (wrap64 (bt w i)) v es) (wrap64 ((i : Int) + 1))) r) → Ev (fun n => spec_l3Go.l1 n m w (at_ : Int) (i : Int) v (pre.length : Int)) r := by
 induction es with
 | nil =>
  intro pre v hp no yes
  rw [List.append_nil] at hp
  refine Ev.step (fun n => spec_l3Go.l1.eq_2 _ _ _ _ _ _ _) (eP (eP (evNeg (by rw [← hp]; exact Int.lt_irrefl _) ?_)))
  simp only [hopL] at no yes
  by_cases c : v < 0
  ·exact evPos c (evTo (Ev.now _) (no c).symm)
  ·exact evNeg c (yes c)
 | cons e es ih =>
  intro pre v hp no yes
  have hlen : (rd_T95 m at_).f1.length = pre.length + (es.length + 1) := by rw [hp]; simp
  have hat : rd_T97 (rd_T95 m at_).f1 (pre.length : Int) = e := by simp [rd_T97, hp, List.getD_eq_getElem?_getD]
  have hpl : ((pre ++ [e]).length : Int) = (pre.length : Int) + 1 := by simp
  have hp' : (rd_T95 m at_).f1 = (pre ++ [e]) ++ es := by rw [hp]; simp
  refine Ev.step (fun n => spec_l3Go.l1.eq_2 _ _ _ _ _ _ _) (eP (eP (eP (eP (eP (eP ?_))))))
  rw [hat, w6 (n := (pre.length : Int) + 1), ← hpl]
  simp only [hopL] at no yes
  by_cases g : e.f0 = wrap64 (bt w i)
  ·rw [if_pos g] at no yes
   exact evPos g (ih (pre ++ [e]) _ hp' no yes)
  ·rw [if_neg g] at no yes
   exact evNeg g (ih (pre ++ [e]) _ hp' no yes)
theorem go_val (m : List St) (hm : m.length ≤ 400) (hs : ∀ s ∈ m, s.f1.length ≤ 1048576) (hok : allOk m m.length = true) (w : ByteArray) (hw : w.size ≤ 1048576) (d : Nat) : ∀ i at_ : Nat, i + d = w.size → at_ < m.length →
  Ev (fun n => spec_l3Go.l0 n m w (at_ : Int) (i : Int)) (trail m w d i at_) ∧ trail m w d i at_ < m.length := by
 induction d with
 | zero =>
  intro i a hi ha
  exact ⟨Ev.step (fun n => spec_l3Go.l0.eq_2 _ _ _ _ _) (eN (Ev.now _)), by simp only [trail]; omega⟩
 | succ d ih =>
  intro i a hi ha
  have hz := stAt_small hs (a : Int)
  have ho := allOk_at hok a ha
  simp only [stOk, Bool.and_eq_true] at ho
  have hh : hopL (wrap64 (bt w i)) (-1) (rd_T95 m a).f1 = hop (wrap64 (bt w i)) (rd_T95 m a).f1 := hopL_hop ho.1
  have hb := hop_bounds (c := wrap64 (bt w i)) (ok_to (n := 0) hok a ha)
  have hgo {r : Int} := go_edges m w a i ha (by omega) hz (r := r) (rd_T95 m a).f1 [] (-1) rfl
  rw [hh] at hgo
  by_cases c : hop (wrap64 (bt w i)) (rd_T95 m a).f1 < 0
  ·have e : trail m w (d + 1) i a = -1 := by simp only [trail]; rw [if_pos c]
   rw [e]
   exact ⟨Ev.step (fun n => spec_l3Go.l0.eq_2 _ _ _ _ _) (eP (hgo (fun _ => rfl) (fun h => absurd c h))), by omega⟩
  ·have e : trail m w (d + 1) i a = trail m w d (i + 1) (hop (wrap64 (bt w i)) (rd_T95 m a).f1) := by simp only [trail]; rw [if_neg c]
   rw [e]
   obtain ⟨h1, h3⟩ := ih (i + 1) (hop (wrap64 (bt w i)) (rd_T95 m a).f1).toNat (by omega) (by omega)
   rw [show (((hop (wrap64 (bt w i)) (rd_T95 m a).f1).toNat : Nat) : Int) = hop (wrap64 (bt w i)) (rd_T95 m a).f1 from by omega] at h1 h3
   refine ⟨Ev.step (fun n => spec_l3Go.l0.eq_2 _ _ _ _ _) (eP (hgo (fun h => absurd h c) (fun _ => ?_))), h3⟩
   rw [w6 (n := (i : Int) + 1)]
   exact h1
theorem step_impl (b : Bool) (x : Int) (l : List Eg) (hl : l.length ≤ 1048576) (es : List Eg) : ∀ pre : List Eg, l = pre ++ es → Ev (fun n => impl_State_step.l0 n x l (l.length : Int) (pre.length : Int)) (hop (wrap64 x) es) := by
 induction es with
 | nil =>
  intro pre hp
  rw [List.append_nil] at hp
  exact Ev.step (fun n => impl_State_step.l0.eq_2 _ _ _ _ _) (evNeg (by rw [← hp]; exact Int.lt_irrefl _) (Ev.now _))
 | cons e es ih =>
  intro pre hp
  have hlen : l.length = pre.length + (es.length + 1) := by rw [hp]; simp
  have hat : rd_T97 l (pre.length : Int) = e := by simp [rd_T97, hp, List.getD_eq_getElem?_getD]
  have hpl : ((pre ++ [e]).length : Int) = (pre.length : Int) + 1 := by simp
  have hp' : l = (pre ++ [e]) ++ es := by rw [hp]; simp
  refine Ev.step (fun n => impl_State_step.l0.eq_2 _ _ _ _ _) (eP (eP (eP ?_)))
  rw [hat]
  simp only [hop]
  by_cases g : e.f0 = wrap64 x
  ·rw [if_pos g]
   exact evPos g (Ev.now _)
  ·rw [if_neg g, w6 (n := (pre.length : Int) + 1), ← hpl]
   exact evNeg g (ih (pre ++ [e]) hp')
theorem follow_val (m : List St) (hm : m.length ≤ 400) (hs : ∀ s ∈ m, s.f1.length ≤ 1048576) (hok : allOk m m.length = true) (w : ByteArray) (hw : w.size ≤ 1048576) (d : Nat) : ∀ i at_ : Nat, i + d = w.size → at_ < m.length →
  Ev (fun n => impl_follow.l0 n m w (at_ : Int) (w.size : Int) (i : Int)) (trail m w d i at_) ∧ trail m w d i at_ < m.length := by
 induction d with
 | zero =>
  intro i a hi ha
  exact ⟨Ev.step (fun n => impl_follow.l0.eq_2 _ _ _ _ _ _) (eN (Ev.now _)), by simp only [trail]; omega⟩
 | succ d ih =>
  intro i a hi ha
  have hz := stAt_small hs (a : Int)
  have hb := hop_bounds (c := wrap64 (bt w i)) (ok_to (n := 0) hok a ha)
  have hstep : Ev (fun n => impl_State_step.f n (rd_T95 m a).f0 (rd_T95 m a).f1 (bt w i)) (hop (wrap64 (bt w i)) (rd_T95 m a).f1) := step_impl (rd_T95 m a).f0 (bt w i) (rd_T95 m a).f1 hz (rd_T95 m a).f1 [] rfl
  by_cases c : hop (wrap64 (bt w i)) (rd_T95 m a).f1 < 0
  ·have e : trail m w (d + 1) i a = -1 := by simp only [trail]; rw [if_pos c]
   rw [e]
   exact ⟨Ev.step (fun n => impl_follow.l0.eq_2 _ _ _ _ _ _) (eP (eP (eP (eP (eP (Ev.bind hstep (evPos c (Ev.now _)))))))), by omega⟩
  ·have e : trail m w (d + 1) i a = trail m w d (i + 1) (hop (wrap64 (bt w i)) (rd_T95 m a).f1) := by simp only [trail]; rw [if_neg c]
   rw [e]
   obtain ⟨h2, h3⟩ := ih (i + 1) (hop (wrap64 (bt w i)) (rd_T95 m a).f1).toNat (by omega) (by omega)
   rw [show (((hop (wrap64 (bt w i)) (rd_T95 m a).f1).toNat : Nat) : Int) = hop (wrap64 (bt w i)) (rd_T95 m a).f1 from by omega] at h2 h3
   refine ⟨Ev.step (fun n => impl_follow.l0.eq_2 _ _ _ _ _ _) (eP (eP (eP (eP (eP (Ev.bind hstep (evNeg c ?_))))))), h3⟩
   rw [w6 (n := (i : Int) + 1)]
   exact h2
theorem knows_impl (m : List St) (hm : m.length ≤ 1048576) (hs : ∀ s ∈ m, s.f1.length ≤ 1048576) (w : ByteArray) (hw : w.size ≤ 1048576) : Ev (fun n => impl_MachineKnows.f n m w) (knows m w) := by
 have i1 := machOk_impl m hm hs
 unfold impl_MachineKnows.f knows
 cases e : machOk m with
 | false =>
  rw [e] at i1
  exact Ev.bind i1 (evNeg (by simp) (Ev.now _))
 | true =>
  rw [e] at i1
  obtain ⟨g1, g2, g3⟩ := machOk_facts e
  obtain ⟨h2, h3⟩ := follow_val m g2 hs g3 w hw w.size 0 0 (by omega) (by omega)
  have h3' : trail m w w.size 0 0 < m.length := h3
  rw [Bool.true_and]
  by_cases c : trail m w w.size 0 0 ≥ 0
  ·rw [decide_eq_true (show 0 ≤ trail m w w.size 0 0 from c), Bool.true_and]
   exact Ev.bind i1 (evPos rfl (Ev.bind h2 (evPos c (evPos c (evPos h3' (Ev.now _))))))
  ·rw [decide_eq_false (show ¬ 0 ≤ trail m w w.size 0 0 from c), Bool.false_and]
   exact Ev.bind i1 (evPos rfl (Ev.bind h2 (evNeg c (Ev.now _))))
theorem letters_loop (s : ByteArray) (m : Int) (h : s.size ≤ 281474976710656) (d : Nat) : ∀ i : Int, 0 ≤ i → i ≤ s.size → (s.size : Int) - i = d →
  Ev (fun k => spec_l1Letters.l0 k s m i) (((bytesOf s).drop i.toNat).all low && decide ((s.size : Int) ≤ m)) := by
 induction d with
 | zero =>
  intro i h0 h1 hd
  refine Ev.step (fun k => spec_l1Letters.l0.eq_2 _ _ _ _) (eN ?_)
  rw [List.drop_eq_nil_of_le (by rw [bytesOf_length]; omega)]
  exact evTo (Ev.now _) (by simp)
 | succ d ih =>
  intro i h0 h1 hd
  refine Ev.step (fun k => spec_l1Letters.l0.eq_2 _ _ _ _) (eP (evPos h0 ?_))
  rw [bytes_drop s i h0 (by omega), List.all_cons]
  by_cases c : bt s i < 97
  ·exact evPos c (evTo (Ev.now _) (by simp [low]; omega))
  refine evNeg c ?_
  by_cases c1 : bt s i > 122
  ·exact evPos c1 (evTo (Ev.now _) (by simp [low]; omega))
  refine evNeg c1 ?_
  have e : low (bt s i) = true := (low_iff _).2 (by omega)
  rw [w6, e, Bool.true_and]
  exact ih (i + 1) (by omega) (by omega) (by omega)
theorem letters_spec (s : ByteArray) (m : Int) (h : s.size ≤ 140737488351232) : Ev (fun k => spec_l1Letters.f k s m) ((bytesOf s).all low && decide ((s.size : Int) ≤ m)) :=
 letters_loop s m (by omega) s.size 0 (by omega) (by omega) (by omega)
theorem letters_wide (s : ByteArray) (m : Int) (h : s.size ≤ 281474976710656) : Ev (fun k => spec_l1Letters.f k s m) ((bytesOf s).all low && decide ((s.size : Int) ≤ m)) :=
 letters_loop s m h s.size 0 (by omega) (by omega) (by omega)
theorem l1Word_spec (s : ByteArray) (h : s.size ≤ 140737488351232) : Ev (fun k => spec_l1Word.f k s) (wordB s) := by
 unfold spec_l1Word.f
 by_cases c : (s.size : Int) > 0
 ·have hp : 0 < s.size := by omega
  refine evPos c (Ev.bind (letters_spec s 12 h) (evTo (Ev.now _) ?_))
  simp only [wordB, wordL, bytesOf_length, decide_eq_true hp, Bool.true_and]
  rw [Bool.and_comm]
  congr 1
  exact decide_eq_decide.2 (by omega)
 ·exact evNeg c (evTo (Ev.now _) (wordB_no (by omega)).symm)
theorem l1Word_spec' (s : ByteArray) (h : s.size ≤ 281474976710656) : Ev (fun k => spec_l1Word.f k s) (wordB s) := by
 by_cases c : s.size ≤ 140737488351232
 ·exact l1Word_spec s c
 unfold spec_l1Word.f
 refine eP (Ev.bind (letters_wide s 12 h) (evTo (Ev.now _) ?_))
 rw [wordB_no (by omega), decide_eq_false (by omega), Bool.and_false]
theorem rdOf_get (l : List ByteArray) (i : Int) (_ : 0 ≤ i) (h : i.toNat < l.length) : rdOf ByteArray.empty l i = l[i.toNat] := by
 simp [rdOf, List.getD_eq_getElem?_getD, List.getElem?_eq_getElem h]
theorem put_end (l : List ByteArray) (s : ByteArray) (i : Int) (h0 : 0 ≤ i) (h1 : i ≤ l.length) (hl : l.length ≤ 1000000) : Ev (fun k => spec_l1Put.j2 k l s i false) (l.take i.toNat ++ s :: l.drop i.toNat) := by
 refine Ev.step (fun k => spec_l1Put.j2.eq_2 _ _ _ _ _) (evNeg (by simp) (evCall rfl (evPos h0 (evPos h1 (evCall rfl (evPos ?_ (evCall rfl (evCall rfl (evPos ?_ (evCall rfl (evCall rfl (evPos ?_ (evTo (Ev.now _) ?_)))))))))))))
 ·simp only [List.length_nil, List.length_take]
  omega
 ·simp only [List.nil_append, List.length_take, List.length_cons, List.length_nil]
  omega
 ·simp only [List.nil_append, List.length_append, List.length_take, List.length_cons, List.length_nil, List.length_drop]
  omega
 ·simp
theorem put_loop (l : List ByteArray) (s : ByteArray) (hl : l.length ≤ 1000000) (d : Nat) : ∀ i : Int, 0 ≤ i → i ≤ l.length → (l.length : Int) - i = d →
  Ev (fun k => spec_l1Put.l0 k l s i) (l.take i.toNat ++ putL (l.drop i.toNat) s) := by
 induction d with
 | zero =>
  intro i h0 h1 hd
  have e := put_end l s i h0 h1 hl
  rw [List.drop_eq_nil_of_le (by omega)] at e ⊢
  exact Ev.step (fun k => spec_l1Put.l0.eq_2 _ _ _ _) (eN (Ev.step (fun k => spec_l1Put.j1.eq_2 _ _ _ _ _) (evNeg (by simp) (evNeg (by omega) e))))
 | succ d ih =>
  intro i h0 h1 hd
  have hi : i.toNat < l.length := by omega
  have e := put_end l s i h0 h1 hl
  have ihe := ih (i + 1) (by omega) (by omega) (by omega)
  rw [List.drop_eq_getElem_cons hi] at e ⊢
  rw [show (i + 1).toNat = i.toNat + 1 from by omega, List.take_succ_eq_append_getElem hi] at ihe
  refine Ev.step (fun k => spec_l1Put.l0.eq_2 _ _ _ _) (eP (evPos h0 (Ev.step (fun k => spec_l1Put.j1.eq_2 _ _ _ _ _) ?_)))
  rw [rdOf_get l i h0 hi]
  generalize hx : l[i.toNat] = x at *
  by_cases c : Op.bytesLess x.toList s.toList = true
  ·refine evPos c ?_
   rw [w6]
   refine evTo ihe ?_
   simp [putL, ltS, c]
  ·refine evNeg c (eP (evPos h0 ?_))
   by_cases c2 : x = s
   ·refine Ev.step (fun k => spec_l1Put.j2.eq_2 _ _ _ _ _) (evPos (by simp [c2]) (evTo (Ev.now _) ?_))
    subst c2
    rw [show putL (x :: l.drop (i.toNat + 1)) x = x :: l.drop (i.toNat + 1) from by simp [putL, ltS_irrefl]]
    have : x :: l.drop (i.toNat + 1) = l.drop i.toNat := by rw [List.drop_eq_getElem_cons hi, hx]
    rw [this, List.take_append_drop]
   ·rw [show (x.toList == s.toList) = false from by rw [toList_beq]; simp [c2]]
    refine evTo e ?_
    simp [putL, ltS, c, c2]
theorem put_ev (l : List ByteArray) (s : ByteArray) (hl : l.length ≤ 1000000) : Ev (fun k => spec_l1Put.f k l s) (putL l s) :=
 evTo (put_loop l s hl l.length 0 (by omega) (by omega) (by omega)) (by simp)
theorem step_ev (l : List ByteArray) (s x : ByteArray) (hl : l.length ≤ 1000000) (hx : x.size ≤ 140737488351232) : Ev (fun k => spec_l1Step.f k l s x) (stepL s l x) := by
 unfold spec_l1Step.f
 by_cases c : x = s
 ·exact evPos (by rw [c]) (Ev.step (fun k => spec_l1Step.j0.eq_2 _ _ _ _) (evPos rfl (evTo (Ev.now _) (by simp [stepL, c]))))
 ·refine evNeg (fun h => c ((toList_iff _ _).1 h)) (Ev.bind (l1Word_spec x hx) (Ev.step (fun k => spec_l1Step.j0.eq_2 _ _ _ _) ?_))
  cases e : wordB x with
  | false => exact evPos rfl (evTo (Ev.now _) (by simp [stepL, e]))
  | true => exact evNeg (by simp) (Ev.bind (put_ev l x hl) (evTo (Ev.now _) (by simp [stepL, c, e])))
theorem w32 {n : Int} (h0 : -2147483648 ≤ n) (h1 : n ≤ 2147483647) : wrap32 n = n := by
 unfold wrap32
 omega
theorem near_end {s : ByteArray} {i : Nat} {l r : List ByteArray} (h1 : i ≤ s.size) (hs : s.size ≤ 100) (hl : l.length ≤ 1000 * i + 900)
  (next : ∀ l' : List ByteArray, l' = (swpAt s i).foldl (stepL s) l → Ev (fun k => spec_l1Near.l0 k s l' ((i + 1 : Nat) : Int)) r) : Ev (fun k => spec_l1Near.j2 k s l (i : Int)) r := by
 refine Ev.step (fun k => spec_l1Near.j2.eq_2 _ _ _ _) ?_
 rw [w6 (n := (i : Int) + 1), w6 (n := (i : Int) + 2)]
 by_cases c : (i : Int) + 1 < s.size
 ·have e1 : ((i : Int) + 1).toNat = i + 1 := by omega
  have e2 : ((i : Int) + 2).toNat = i + 2 := by omega
  have z0 : (s.extract 0 i).size = i := by rw [size_extract _ _ _ (by omega) (by omega)]; omega
  have z1 : (s.extract (i + 1) (i + 2)).size = 1 := by rw [size_extract _ _ _ (by omega) (by omega)]; omega
  have z2 : (s.extract i (i + 1)).size = 1 := by rw [size_extract _ _ _ (by omega) (by omega)]; omega
  have z3 : (s.extract (i + 2) s.size).size = s.size - (i + 2) := size_extract _ _ _ (by omega) (Nat.le_refl _)
  rw [Int.toNat_natCast, e1, e2]
  refine evPos c (eP (eP (eP (eP (eP (eP (eP (eP (evPos ?_ (eP (evPos ?_ (Ev.bind (step_ev l s _ (by omega) ?_) ?_))))))))))))
  ·rw [size_append]; omega
  ·rw [size_append, size_append]; omega
  ·rw [size_append, size_append, size_append]; omega
  ·exact next _ (by rw [swpAt, if_pos (by omega)]; rfl)
 ·exact evNeg c (next _ (by rw [swpAt, if_neg (by omega)]; rfl))
theorem near_letters {s : ByteArray} {i : Nat} {r : List ByteArray} (h1 : i ≤ s.size) (hs : s.size ≤ 100)
  (d : Nat) : ∀ (c : Nat) (l : List ByteArray), 97 ≤ c → c + d = 123 → l.length ≤ 1000 * i + (123 - d) * 2 →
  (∀ l' : List ByteArray, l' = (lettersAt s i c ++ delAt s i).foldl (stepL s) l → l'.length ≤ 1000 * i + 900 → Ev (fun k => spec_l1Near.j2 k s l' (i : Int)) r) → Ev (fun k => spec_l1Near.l1 k s l (i : Int) (c : Int)) r := by
 have z0 : (s.extract 0 i).size = i := by rw [size_extract _ _ _ (by omega) (by omega)]; omega
 have z1 : (s.extract i s.size).size = s.size - i := size_extract _ _ _ (by omega) (Nat.le_refl _)
 induction d with
 | zero =>
  intro c l hc hd hl next
  refine Ev.step (fun k => spec_l1Near.l1.eq_2 _ _ _ _ _) (eN ?_)
  rw [lettersAt_end s i c (by omega), List.nil_append] at next
  by_cases q : (i : Int) < s.size
  ·have z2 : (s.extract (i + 1) s.size).size = s.size - (i + 1) := size_extract _ _ _ (by omega) (Nat.le_refl _)
   rw [w6 (n := (i : Int) + 1), Int.toNat_natCast, show ((i : Int) + 1).toNat = i + 1 from by omega]
   refine evPos q (eP (eP (eP (eP (eP (Ev.bind (step_ev l s _ (by omega) (by rw [size_append]; omega)) ?_))))))
   refine next _ (by rw [delAt, if_pos (by omega)]; rfl) ?_
   have := (stepL_length s l (s.extract 0 i ++ s.extract (i + 1) s.size)).2
   omega
  ·exact evNeg q (next _ (by rw [delAt, if_neg (by omega)]; rfl) (by omega))
 | succ d ih =>
  intro c l hc hd hl next
  refine Ev.step (fun k => spec_l1Near.l1.eq_2 _ _ _ _ _) (eP (eP (eP (evCall rfl ?_))))
  have zc : (strOfNums [(c : Int) % 256]).size = 1 := one_size _
  rw [Int.toNat_natCast]
  refine eP (evPos (by rw [size_append]; omega) (Ev.bind (step_ev l s _ (by omega) (by rw [size_append, size_append]; omega)) ?_))
  have hl1 := (stepL_length s l ((s.extract 0 i ++ strOfNums [(c : Int) % 256]) ++ s.extract i s.size)).2
  rw [w32 (by omega) (by omega)]
  rw [lettersAt_step s i c (by omega)] at next
  by_cases q : (i : Int) < s.size
  ·have z2 : (s.extract (i + 1) s.size).size = s.size - (i + 1) := size_extract _ _ _ (by omega) (Nat.le_refl _)
   rw [w6 (n := (i : Int) + 1), show ((i : Int) + 1).toNat = i + 1 from by omega]
   refine evPos q (evCall rfl (eP (eP (eP (evPos (by rw [size_append]; omega) (Ev.bind (step_ev _ s _ (by omega) (by rw [size_append, size_append]; omega)) ?_))))))
   have hl2 := (stepL_length s (stepL s l ((s.extract 0 i ++ strOfNums [(c : Int) % 256]) ++ s.extract i s.size)) ((s.extract 0 i ++ strOfNums [(c : Int) % 256]) ++ s.extract (i + 1) s.size)).2
   refine ih (c + 1) _ (by omega) (by omega) (by omega) (fun l' h' => next l' ?_)
   rw [h', letAt, if_pos (by omega)]
   rfl
  ·refine evNeg q (ih (c + 1) _ (by omega) (by omega) (by omega) (fun l' h' => next l' ?_))
   rw [h', letAt, if_neg (by omega)]
   rfl
theorem near_loop {s : ByteArray} (hs : s.size ≤ 100) (d : Nat) : ∀ (i : Nat) (l : List ByteArray), i + d = s.size + 1 → l.length ≤ 1000 * i → Ev (fun k => spec_l1Near.l0 k s l (i : Int)) ((candsFrom s i).foldl (stepL s) l) := by
 induction d with
 | zero =>
  intro i l hd hl
  rw [candsFrom_end s i (by omega)]
  exact Ev.step (fun k => spec_l1Near.l0.eq_2 _ _ _ _) (eN (Ev.now _))
 | succ d ih =>
  intro i l hd hl
  refine Ev.step (fun k => spec_l1Near.l0.eq_2 _ _ _ _) (eP ?_)
  refine near_letters (c := 97) (d := 26) (by omega) hs _ (by omega) (by omega) (by omega) (fun l1 e1 hl1 => near_end (by omega) hs hl1 (fun l2 e2 => ?_))
  refine evTo (ih (i + 1) l2 (by omega) ?_) ?_
  ·rw [e2]
   have h1 : ((swpAt s i).foldl (stepL s) l1).length ≤ l1.length + (swpAt s i).length := foldStep_length s _ _
   have h2 : (swpAt s i).length ≤ 1 := by unfold swpAt; split <;> simp
   omega
  ·rw [candsFrom_step s i (by omega), List.foldl_append, e2, e1, candsAt, List.foldl_append, List.foldl_append, List.foldl_append]
theorem near_ev (s : ByteArray) (hs : s.size ≤ 100) : Ev (fun k => spec_l1Near.f k s) (nearL s) :=
 near_loop hs (s.size + 1) 0 [] (by omega) (by simp)
theorem lower_loop (s : ByteArray) (h : s.size ≤ 140737488351232) (d : Nat) : ∀ i : Int, 0 ≤ i → i ≤ s.size → (s.size : Int) - i = d →
  Ev (fun k => impl_lower.l0 k s (s.size : Int) i) (((bytesOf s).drop i.toNat).all low) := by
 induction d with
 | zero =>
  intro i h0 h1 hd
  refine Ev.step (fun k => impl_lower.l0.eq_2 _ _ _ _) (eN ?_)
  rw [List.drop_eq_nil_of_le (by rw [bytesOf_length]; omega)]
  exact evTo (Ev.now _) (by simp)
 | succ d ih =>
  intro i h0 h1 hd
  refine Ev.step (fun k => impl_lower.l0.eq_2 _ _ _ _) (eP (evPos h0 (eP ?_)))
  rw [bytes_drop s i h0 (by omega), List.all_cons]
  by_cases c : bt s i < 97
  ·exact evPos c (evTo (Ev.now _) (by simp [low]; omega))
  refine evNeg c ?_
  by_cases c1 : bt s i > 122
  ·exact evPos c1 (evTo (Ev.now _) (by simp [low]; omega))
  refine evNeg c1 ?_
  have e : low (bt s i) = true := (low_iff _).2 (by omega)
  rw [w6, e, Bool.true_and]
  exact ih (i + 1) (by omega) (by omega) (by omega)
theorem lower_impl (s : ByteArray) (h : s.size ≤ 140737488351232) : Ev (fun k => impl_lower.f k s) ((bytesOf s).all low) :=
 lower_loop s h s.size 0 (by omega) (by omega) (by omega)
theorem word_impl (s : ByteArray) (h : s.size ≤ 140737488351232) : Ev (fun k => impl_WordOk.f k s) (wordB s) := by
 unfold impl_WordOk.f
 refine evCall (within_impl _ _ _) ?_
 by_cases c : (1 ≤ (s.size : Int) ∧ (s.size : Int) ≤ 12)
 ·have hp : 0 < s.size := by omega
  have hq : s.size ≤ 12 := by omega
  refine evPos (by simp; omega) (Ev.bind (lower_impl s h) (evTo (Ev.now _) ?_))
  simp only [wordB, wordL, bytesOf_length, decide_eq_true hp, decide_eq_true hq, Bool.true_and]
 ·exact evNeg (by simp; omega) (evTo (Ev.now _) (wordB_no (by omega)).symm)
theorem cand_size (s x : ByteArray) (hx : x ∈ candsFrom s 0) : x.size ≤ s.size + 2 := by
 unfold candsFrom at hx
 obtain ⟨i, hi, hx⟩ := List.mem_flatMap.1 hx
 have hi2 := (List.mem_range'_1.1 hi).2
 have e1 : ∀ c : Int, (strOfNums [c]).size = 1 := fun _ => rfl
 have ex : ∀ a b : Nat, (s.extract a b).size ≤ b - a ∧ (s.extract a b).size ≤ s.size - a := by
  intro a b
  rw [← bytesOf_length, bytes_extract, List.length_take, List.length_drop, bytesOf_length]
  omega
 unfold candsAt at hx
 rcases List.mem_append.1 hx with hx | hx
 ·unfold lettersAt at hx
  obtain ⟨c, _, hx⟩ := List.mem_flatMap.1 hx
  have h1 := (ex 0 i).1
  have h2 := (ex i s.size).2
  have h3 := (ex (i + 1) s.size).2
  unfold letAt at hx
  split at hx
  ·rcases List.mem_cons.1 hx with rfl | hx
   ·unfold insB
    rw [size_append, size_append, e1]
    omega
   ·rw [List.mem_singleton.1 hx]
    unfold subB
    rw [size_append, size_append, e1]
    omega
  ·rw [List.mem_singleton.1 hx]
   unfold insB
   rw [size_append, size_append, e1]
   omega
 ·rcases List.mem_append.1 hx with hx | hx
  ·have h1 := (ex 0 i).1
   have h3 := (ex (i + 1) s.size).2
   unfold delAt at hx
   split at hx
   ·rw [List.mem_singleton.1 hx]
    unfold delB
    rw [size_append]
    omega
   ·cases hx
  ·have h1 := (ex 0 i).1
   have h2 := (ex (i + 1) (i + 2)).1
   have h3 := (ex i (i + 1)).1
   have h4 := (ex (i + 2) s.size).2
   unfold swpAt at hx
   split at hx
   ·rw [List.mem_singleton.1 hx]
    unfold swpB
    rw [size_append, size_append, size_append]
    omega
   ·cases hx
theorem go_ev (s : ByteArray) (l : List ByteArray) : ∀ xs : List ByteArray, xs.length + l.length ≤ 90000 → (∀ x ∈ l, x.size ≤ 1048576) → Ev (fun k => impl_Near.go k s l xs) (xs ++ l.filter (fun x => decide (x ≠ s) && wordB x)) := by
 induction l with
 | nil =>
  intro xs _ _
  exact evTo (Ev.now _) (by simp)
 | cons x l ih =>
  intro xs hl hz
  rw [List.length_cons] at hl
  have hz' : ∀ y ∈ l, y.size ≤ 1048576 := fun y hy => hz y (List.mem_cons_of_mem _ hy)
  have hx := hz x List.mem_cons_self
  show Ev (fun k => (impl_Near.put k s xs x).bind fun ys => impl_Near.go k s l ys) _
  by_cases c : x = s
  ·subst c
   refine Ev.bind (a := xs) (eP (evPos rfl (Ev.now _))) (evTo (ih xs (by omega) hz') ?_)
   simp
  ·refine Ev.bind (a := xs ++ (if wordB x = true then [x] else [])) (eP (evNeg (fun h => c ((toList_iff _ _).1 h)) (Ev.bind (word_impl x (by omega)) (evTo (Ev.now _) ?_)))) (evTo (ih _ ?_ hz') ?_)
   ·cases wordB x <;> simp
   ·rw [List.length_append]
    have : (if wordB x = true then [x] else []).length ≤ 1 := by split <;> simp
    omega
   ·cases e : wordB x <;> simp [c, e]
def nearB (s : ByteArray) : List ByteArray := if wordB s = true then nearL s else []
theorem near_impl (s : ByteArray) (h : s.size ≤ 140737488351232) : Ev (fun k => impl_Near.f k s) (nearB s) := by
 unfold impl_Near.f nearB
 refine Ev.bind (word_impl s h) ?_
 cases e : wordB s with
 | false => exact evNeg (by simp) (evTo (Ev.now _) (by simp))
 | true =>
  have hs := wordB_size e
  have hl := candsFrom_length s 0
  have hg := go_ev s (candsFrom s 0) [] (by simp; omega) (fun x hx => by have := cand_size s x hx; omega)
  refine evPos rfl (eP (Ev.bind hg (evTo (evEq (r := nearL s) ?_) (by simp))))
  have hf := List.length_filter_le (fun x => decide (x ≠ s) && wordB x) (candsFrom s 0)
  unfold impl_sorted.f
  rw [if_pos (by simp only [List.nil_append]; omega)]
  congr 1
  refine asc_ext (setL_asc _) (nearL_asc s) (fun x => ?_)
  rw [setL_mem, nearL_mem, List.nil_append, List.mem_filter]
  simp
theorem nearB_length (s : ByteArray) : (nearB s).length ≤ 100000 := by
 unfold nearB
 split
 ·rename_i e
  have h1 := nearL_length s
  have h2 := wordB_size e
  omega
 ·simp
def mgB (m : List St) (s : ByteArray) : List ByteArray := if machOk m = true ∧ wordB s = true then (nearL s).filter (fun w => knows m w) else []
theorem mg_drop {l : List ByteArray} {i : Nat} (h : i < l.length) : l.drop i = l[i] :: l.drop (i + 1) := (List.getElem_cons_drop ..).symm
theorem mgI_loop (m : List St) (hm : m.length ≤ 1048576) (hs : ∀ s ∈ m, s.f1.length ≤ 1048576) (ws : List ByteArray) (hl : ws.length ≤ 1000000) (hz : ∀ w ∈ ws, w.size ≤ 1048576) (d : Nat) : ∀ (i : Nat) (out : List ByteArray), i + d = ws.length → out.length ≤ i →
  Ev (fun k => impl_MachineGuesses.l0 k m out ws (ws.length : Int) (i : Int)) (out ++ (ws.drop i).filter (fun w => knows m w)) := by
 induction d with
 | zero =>
  intro i out hi ho
  have e : ws.drop i = [] := List.drop_eq_nil_iff.2 (by omega)
  rw [e]
  exact Ev.step (fun k => impl_MachineGuesses.l0.eq_2 ..) (eN (evTo (Ev.now _) (by simp)))
 | succ d ih =>
  intro i out hi ho
  have hi' : i < ws.length := by omega
  rw [mg_drop hi', List.filter_cons]
  refine Ev.step (fun k => impl_MachineGuesses.l0.eq_2 ..) (eP (eP (eP ?_)))
  rw [ba_get ws i hi', w6 (n := (i : Int) + 1)]
  refine Ev.bind (knows_impl m hm hs _ (hz _ (List.getElem_mem hi'))) ?_
  cases e : knows m ws[i] with
  | true => exact evPos rfl (eP (evTo (ih (i + 1) _ (by omega) (by simp; omega)) (by simp)))
  | false => exact evNeg (by simp) (evTo (ih (i + 1) _ (by omega) (by omega)) (by simp))
theorem mgS_loop (m : List St) (hm : m.length ≤ 1048576) (hs : ∀ s ∈ m, s.f1.length ≤ 1048576) (hok : machOk m = true) (ws : List ByteArray) (hl : ws.length ≤ 1000000) (hz : ∀ w ∈ ws, w.size ≤ 1048576) (d : Nat) : ∀ (i : Nat) (out : List ByteArray), i + d = ws.length → out.length ≤ i →
  Ev (fun k => spec_MachineGuesses.l0 k m out ws (i : Int)) (out ++ (ws.drop i).filter (fun w => knows m w)) := by
 obtain ⟨g1, g2, g3⟩ := machOk_facts hok
 induction d with
 | zero =>
  intro i out hi ho
  have e : ws.drop i = [] := List.drop_eq_nil_iff.2 (by omega)
  rw [e]
  exact Ev.step (fun k => spec_MachineGuesses.l0.eq_2 ..) (eN (evTo (Ev.now _) (by simp)))
 | succ d ih =>
  intro i out hi ho
  have hi' : i < ws.length := by omega
  have hw := hz _ (List.getElem_mem hi')
  rw [mg_drop hi', List.filter_cons]
  refine Ev.step (fun k => spec_MachineGuesses.l0.eq_2 ..) (eP (eP ?_))
  rw [ba_get ws i hi', w6 (n := (i : Int) + 1)]
  obtain ⟨h1', h3'⟩ := go_val m g2 hs g3 ws[i] hw ws[i].size 0 0 (by omega) (by omega)
  have h1 : Ev (fun n => spec_l3Go.l0 n m ws[i] 0 0) (trail m ws[i] ws[i].size 0 0) := h1'
  have h3 : trail m ws[i] ws[i].size 0 0 < m.length := h3'
  have ek : knows m ws[i] = (decide (0 ≤ trail m ws[i] ws[i].size 0 0) && (rd_T95 m (trail m ws[i] ws[i].size 0 0)).f0) := by
   unfold knows
   rw [hok, Bool.true_and]
  refine Ev.bind h1 ?_
  by_cases c : trail m ws[i] ws[i].size 0 0 ≥ 0
  ·refine evPos c (evPos c (evPos h3 ?_))
   rw [decide_eq_true (show 0 ≤ trail m ws[i] ws[i].size 0 0 from c), Bool.true_and] at ek
   cases e : knows m ws[i] with
   | true => exact evPos (by rw [← ek, e]) (eP (evTo (ih (i + 1) _ (by omega) (by simp; omega)) (by simp)))
   | false => exact evNeg (by rw [← ek, e]; simp) (evTo (ih (i + 1) _ (by omega) (by omega)) (by simp))
  ·rw [decide_eq_false (show ¬ 0 ≤ trail m ws[i] ws[i].size 0 0 from c), Bool.false_and] at ek
   rw [ek]
   exact evNeg c (evTo (ih (i + 1) _ (by omega) (by omega)) (by simp))
theorem nearL_small {s : ByteArray} : ∀ w ∈ nearL s, w.size ≤ 1048576 := fun w hw => by
 have := wordB_size ((nearL_mem s w).1 hw).2.2
 omega
theorem mg_impl (m : List St) (hm : m.length ≤ 1048576) (hs : ∀ s ∈ m, s.f1.length ≤ 1048576) (s : ByteArray) (h : s.size ≤ 1048576) : Ev (fun k => impl_MachineGuesses.f k m s) (mgB m s) := by
 unfold impl_MachineGuesses.f mgB
 refine evCall rfl (Ev.bind (machOk_impl m hm hs) ?_)
 have hn := nearB_length s
 cases e : machOk m with
 | false => exact evNeg (by simp) (evTo (Ev.now _) (by simp))
 | true =>
  refine evPos rfl (Ev.bind (near_impl s (by omega)) ?_)
  unfold nearB at hn ⊢
  cases c : wordB s with
  | true =>
   rw [c, if_pos rfl] at hn
   rw [if_pos rfl, if_pos ⟨rfl, rfl⟩]
   have := mgI_loop m hm hs (nearL s) (by omega) nearL_small (nearL s).length 0 [] (by omega) (by simp)
   rw [List.drop_zero, List.nil_append] at this
   exact this
  | false =>
   rw [if_neg (by simp), if_neg (by simp)]
   have := mgI_loop m hm hs [] (by simp) (by simp) 0 0 [] (by simp) (by simp)
   simpa using this
theorem mg_spec (m : List St) (hm : m.length ≤ 1048576) (hs : ∀ s ∈ m, s.f1.length ≤ 1048576) (s : ByteArray) (h : s.size ≤ 1048576) : Ev (fun k => spec_MachineGuesses.f k m s) (mgB m s) := by
 unfold spec_MachineGuesses.f mgB
 refine evCall rfl (Ev.bind (machOk_spec m hm hs) ?_)
 have hn := nearB_length s
 have fin : ∀ b : Bool, b = true → Ev (fun k => spec_MachineGuesses.j0 k m s ([] : List ByteArray) b) ([] : List ByteArray) := fun b hb => Ev.step (fun k => spec_MachineGuesses.j0.eq_2 ..) (evPos hb (Ev.now _))
 cases e : machOk m with
 | false => exact evNeg (by simp) (evTo (fin true rfl) (by simp))
 | true =>
  refine evPos rfl (Ev.bind (l1Word_spec s (by omega)) ?_)
  unfold nearB at hn
  cases c : wordB s with
  | true =>
   rw [c, if_pos rfl] at hn
   have hz := wordB_size c
   rw [if_pos ⟨rfl, rfl⟩]
   refine Ev.step (fun k => spec_MachineGuesses.j0.eq_2 ..) (evNeg (by simp) (Ev.bind (near_ev s (by omega)) ?_))
   have := mgS_loop m hm hs e (nearL s) (by omega) nearL_small (nearL s).length 0 [] (by omega) (by simp)
   rw [List.drop_zero, List.nil_append] at this
   exact this
  | false =>
   rw [if_neg (by simp)]
   exact fin _ rfl
theorem mgB_length (m : List St) (s : ByteArray) : (mgB m s).length ≤ 1000000 := by
 have hn := nearB_length s
 unfold mgB
 unfold nearB at hn
 split
 ·rename_i h
  rw [if_pos h.2] at hn
  have := List.length_filter_le (fun w => knows m w) (nearL s)
  omega
 ·simp
theorem least_spec (a b : Int) : spec_l1Least.f a b = some (min a b) := by
 unfold spec_l1Least.f
 by_cases c : a < b
 ·rw [if_pos c]; congr 1; omega
 ·rw [if_neg c]; congr 1; omega
def cntFold (dp : List Int) : Int → List Eg → Int
 | v, [] => v
 | v, e :: es => cntFold dp (mn (v + rd dp e.f1) 1000000000) es
def cntGo (m : List St) : Nat → List Int → List Int
 | 0, dp => dp
 | i + 1, dp => cntGo m i (dp.set i (cntFold dp (if (rd_T95 m i).f0 = true then 1 else rd dp i) (rd_T95 m i).f1))
def cnts (m : List St) : List Int := cntGo m m.length (List.replicate m.length 0)
abbrev cntB (dp : List Int) : Prop := ∀ j : Int, 0 ≤ rd dp j ∧ rd dp j ≤ 1000000000
theorem mn_min (a b : Int) : mn a b = min a b := by
 unfold mn
 split <;> omega
theorem cntB_set {dp : List Int} (h : cntB dp) (i : Nat) (v : Int) (h0 : 0 ≤ v) (h1 : v ≤ 1000000000) : cntB (dp.set i v) := by
 intro j
 have hj := h j
 unfold rd at hj ⊢
 rw [List.getD_eq_getElem?_getD] at hj ⊢
 by_cases c : i = j.toNat
 ·by_cases cl : i < dp.length
  ·rw [← c]
   simp [cl]
   omega
  ·rw [List.getElem?_eq_none (by simp; omega)]
   simp
 ·rw [List.getElem?_set_ne c]
  exact hj
theorem cntFold_same {dp dq : List Int} : ∀ {es : List Eg} {v : Int}, (∀ e ∈ es, rd dq e.f1 = rd dp e.f1) → cntFold dq v es = cntFold dp v es := by
 intro es
 induction es with
 | nil => intro v _; rfl
 | cons e es ih =>
  intro v h
  simp only [cntFold]
  rw [h e List.mem_cons_self]
  exact ih (fun x hx => h x (List.mem_cons_of_mem _ hx))
theorem cntFold_bounds {dp : List Int} (hb : cntB dp) : ∀ {es : List Eg} {v : Int}, 0 ≤ v → v ≤ 1000000000 → 0 ≤ cntFold dp v es ∧ cntFold dp v es ≤ 1000000000 := by
 intro es
 induction es with
 | nil => intro v h0 h1; exact ⟨h0, h1⟩
 | cons e es ih =>
  intro v h0 h1
  have he := hb e.f1
  simp only [cntFold]
  rw [mn_min]
  exact ih (by omega) (by omega)
theorem set_self (dp : List Int) (i : Nat) : dp.set i (rd dp (i : Int)) = dp := by
 refine List.ext_getElem (by simp) (fun j h1 h2 => ?_)
 by_cases c : i = j
 ·subst c
  simp [rd, List.getD_eq_getElem?_getD, h2]
 ·simp [List.getElem_set_ne c]
theorem cnt_spec_edges (m : List St) (hm : m.length ≤ 400) (i : Nat) (hi : i < m.length) (hs : (rd_T95 m i).f1.length ≤ 1048576) (hto : ∀ e ∈ (rd_T95 m i).f1, (i : Int) < e.f1 ∧ e.f1 < m.length) {r : List Int} (es : List Eg) :
  ∀ (pre : List Eg) (dp : List Int), (rd_T95 m i).f1 = pre ++ es → dp.length = m.length → cntB dp → Ev (fun n => spec_l3Counts.l0 n m (dp.set i (cntFold dp (rd dp (i : Int)) es)) ((i : Int) - 1)) r → Ev (fun n => spec_l3Counts.l1 n m dp (i : Int) (pre.length : Int)) r := by
 induction es with
 | nil =>
  intro pre dp hp hl _ next
  rw [List.append_nil] at hp
  refine Ev.step (fun n => spec_l3Counts.l1.eq_2 _ _ _ _ _) (eP (eP (evNeg (by rw [← hp]; exact Int.lt_irrefl _) ?_)))
  rw [w6]
  simp only [cntFold] at next
  rw [set_self] at next
  exact next
 | cons x es ih =>
  intro pre dp hp hl hb next
  have hlen : (rd_T95 m i).f1.length = pre.length + (es.length + 1) := by rw [hp]; simp
  have hat : rd_T97 (rd_T95 m i).f1 (pre.length : Int) = x := by simp [rd_T97, hp, List.getD_eq_getElem?_getD]
  have hp' : (rd_T95 m i).f1 = (pre ++ [x]) ++ es := by rw [hp]; simp
  have hpl : ((pre ++ [x]).length : Int) = (pre.length : Int) + 1 := by simp
  have hx := hto x (by rw [hp]; simp)
  have hv := hb (i : Int)
  have hw := hb x.f1
  refine Ev.step (fun n => spec_l3Counts.l1.eq_2 _ _ _ _ _) (eP (eP (eP (eP (eP ?_)))))
  rw [hat]
  refine eP (eP ?_)
  rw [w6 (n := rd dp (i : Int) + rd dp x.f1)]
  refine evCall (least_spec _ _) ?_
  rw [w6 (n := (pre.length : Int) + 1), ← hpl]
  have hset : rd (dp.set i (min (rd dp (i : Int) + rd dp x.f1) 1000000000)) (i : Int) = min (rd dp (i : Int) + rd dp x.f1) 1000000000 := by
   have := rd_set_eq dp (i : Int) (min (rd dp (i : Int) + rd dp x.f1) 1000000000) (by omega) (by omega)
   simpa using this
  refine ih (pre ++ [x]) _ hp' (by simpa using hl) (cntB_set hb _ _ (by omega) (by omega)) ?_
  rw [Int.toNat_natCast, hset, List.set_set, cntFold_same (dp := dp) (fun e he => ?_), ← mn_min]
  ·exact next
  ·have := hto e (by rw [hp]; simp [he])
   have := rd_set_ne dp (i : Int) e.f1 (min (rd dp (i : Int) + rd dp x.f1) 1000000000) (by omega) (by omega) (by omega)
   simpa using this
theorem cnt_impl_edges (m : List St) (hm : m.length ≤ 400) (i : Nat) (hi : i < m.length) (hs : (rd_T95 m i).f1.length ≤ 1048576) (hto : ∀ e ∈ (rd_T95 m i).f1, (i : Int) < e.f1 ∧ e.f1 < m.length) {r : List Int} (es : List Eg) :
  ∀ (pre : List Eg) (dp : List Int), (rd_T95 m i).f1 = pre ++ es → dp.length = m.length → cntB dp → Ev (fun n => impl_counts.l0 n m (dp.set i (cntFold dp (rd dp (i : Int)) es)) ((i : Int) - 1)) r → Ev (fun n => impl_counts.l1 n m dp (i : Int) (rd_T95 m i).f1 ((rd_T95 m i).f1.length : Int) (pre.length : Int)) r := by
 induction es with
 | nil =>
  intro pre dp hp hl _ next
  rw [List.append_nil] at hp
  refine Ev.step (fun n => impl_counts.l1.eq_2 _ _ _ _ _ _ _) (evNeg (by rw [← hp]; exact Int.lt_irrefl _) ?_)
  rw [w6]
  simp only [cntFold] at next
  rw [set_self] at next
  exact next
 | cons x es ih =>
  intro pre dp hp hl hb next
  have hlen : (rd_T95 m i).f1.length = pre.length + (es.length + 1) := by rw [hp]; simp
  have hat : rd_T97 (rd_T95 m i).f1 (pre.length : Int) = x := by simp [rd_T97, hp, List.getD_eq_getElem?_getD]
  have hp' : (rd_T95 m i).f1 = (pre ++ [x]) ++ es := by rw [hp]; simp
  have hpl : ((pre ++ [x]).length : Int) = (pre.length : Int) + 1 := by simp
  have hx := hto x (by rw [hp]; simp)
  have hv := hb (i : Int)
  have hw := hb x.f1
  refine Ev.step (fun n => impl_counts.l1.eq_2 _ _ _ _ _ _ _) (eP (eP (eP (eP (eP ?_)))))
  rw [hat]
  refine eP (eP ?_)
  rw [w6 (n := rd dp (i : Int) + rd dp x.f1), w6 (n := (pre.length : Int) + 1), ← hpl]
  have hmn : 0 ≤ mn (rd dp (i : Int) + rd dp x.f1) 1000000000 ∧ mn (rd dp (i : Int) + rd dp x.f1) 1000000000 ≤ 1000000000 := by rw [mn_min]; omega
  have hset : rd (dp.set i (mn (rd dp (i : Int) + rd dp x.f1) 1000000000)) (i : Int) = mn (rd dp (i : Int) + rd dp x.f1) 1000000000 := by
   have := rd_set_eq dp (i : Int) (mn (rd dp (i : Int) + rd dp x.f1) 1000000000) (by omega) (by omega)
   simpa using this
  refine ih (pre ++ [x]) _ hp' (by simpa using hl) (cntB_set hb _ _ (by omega) (by omega)) ?_
  rw [Int.toNat_natCast, hset, List.set_set, cntFold_same (dp := dp) (fun e he => ?_)]
  ·exact next
  ·have := hto e (by rw [hp]; simp [he])
   have := rd_set_ne dp (i : Int) e.f1 (mn (rd dp (i : Int) + rd dp x.f1) 1000000000) (by omega) (by omega) (by omega)
   simpa using this
theorem cntGo_len (m : List St) : ∀ (i : Nat) (dp : List Int), (cntGo m i dp).length = dp.length := by
 intro i
 induction i with
 | zero => intro dp; rfl
 | succ i ih => intro dp; simp only [cntGo]; rw [ih]; simp
theorem cnt_step {m : List St} {i : Nat} {dp : List Int} (hl : dp.length = m.length) (hi : i < m.length) (hto : ∀ e ∈ (rd_T95 m i).f1, (i : Int) < e.f1 ∧ e.f1 < m.length) : (dp.set i 1).set i (cntFold (dp.set i 1) (rd (dp.set i 1) (i : Int)) (rd_T95 m i).f1) = dp.set i (cntFold dp 1 (rd_T95 m i).f1) := by
 have hset : rd (dp.set i 1) (i : Int) = 1 := by
  have := rd_set_eq dp (i : Int) 1 (by omega) (by omega)
  simpa using this
 rw [hset, List.set_set, cntFold_same (dp := dp) (fun e he => ?_)]
 have := hto e he
 have := rd_set_ne dp (i : Int) e.f1 1 (by omega) (by omega) (by omega)
 simpa using this
theorem cnt_spec_loop (m : List St) (hm : m.length ≤ 400) (hs : ∀ s ∈ m, s.f1.length ≤ 1048576) (hok : allOk m m.length = true) (i : Nat) : ∀ dp : List Int, i ≤ m.length → dp.length = m.length → cntB dp → Ev (fun n => spec_l3Counts.l0 n m dp ((i : Int) - 1)) (cntGo m i dp) := by
 induction i with
 | zero =>
  intro dp _ _ _
  exact Ev.step (fun n => spec_l3Counts.l0.eq_2 _ _ _ _) (eN (Ev.now _))
 | succ i ih =>
  intro dp hi hl hb
  have hto := ok_to (n := 0) hok i (by omega)
  have hz := stAt_small hs (i : Int)
  refine Ev.step (fun n => spec_l3Counts.l0.eq_2 _ _ _ _) ?_
  rw [show (((i + 1 : Nat) : Int) - 1) = (i : Int) from by omega]
  refine eP (eP (eP ?_))
  simp only [cntGo]
  by_cases c : (rd_T95 m i).f0 = true
  ·refine evPos c (eP (Ev.step (fun n => spec_l3Counts.j1.eq_2 _ _ _ _) ?_))
   rw [Int.toNat_natCast, if_pos c]
   refine cnt_spec_edges m hm i (by omega) hz hto (rd_T95 m i).f1 [] (dp.set i 1) rfl (by simpa using hl) (cntB_set hb _ _ (by omega) (by omega)) ?_
   rw [cnt_step hl (by omega) hto]
   have hf := cntFold_bounds hb (es := (rd_T95 m i).f1) (v := 1) (by omega) (by omega)
   exact ih _ (by omega) (by simpa using hl) (cntB_set hb _ _ hf.1 hf.2)
  ·refine evNeg c (Ev.step (fun n => spec_l3Counts.j1.eq_2 _ _ _ _) ?_)
   rw [if_neg c]
   have hf := cntFold_bounds hb (es := (rd_T95 m i).f1) (v := rd dp (i : Int)) (hb _).1 (hb _).2
   exact cnt_spec_edges m hm i (by omega) hz hto (rd_T95 m i).f1 [] dp rfl hl hb (ih _ (by omega) (by simpa using hl) (cntB_set hb _ _ hf.1 hf.2))
theorem cnt_impl_loop (m : List St) (hm : m.length ≤ 400) (hs : ∀ s ∈ m, s.f1.length ≤ 1048576) (hok : allOk m m.length = true) (i : Nat) : ∀ dp : List Int, i ≤ m.length → dp.length = m.length → cntB dp → Ev (fun n => impl_counts.l0 n m dp ((i : Int) - 1)) (cntGo m i dp) := by
 induction i with
 | zero =>
  intro dp _ _ _
  exact Ev.step (fun n => impl_counts.l0.eq_2 _ _ _ _) (eN (Ev.now _))
 | succ i ih =>
  intro dp hi hl hb
  have hto := ok_to (n := 0) hok i (by omega)
  have hz := stAt_small hs (i : Int)
  refine Ev.step (fun n => impl_counts.l0.eq_2 _ _ _ _) ?_
  rw [show (((i + 1 : Nat) : Int) - 1) = (i : Int) from by omega]
  refine eP (eP (eP ?_))
  simp only [cntGo]
  by_cases c : (rd_T95 m i).f0 = true
  ·refine evPos c (eP (Ev.step (fun n => impl_counts.j1.eq_2 _ _ _ _) (eP (eP ?_))))
   rw [Int.toNat_natCast, if_pos c]
   refine cnt_impl_edges m hm i (by omega) hz hto (rd_T95 m i).f1 [] (dp.set i 1) rfl (by simpa using hl) (cntB_set hb _ _ (by omega) (by omega)) ?_
   rw [cnt_step hl (by omega) hto]
   have hf := cntFold_bounds hb (es := (rd_T95 m i).f1) (v := 1) (by omega) (by omega)
   exact ih _ (by omega) (by simpa using hl) (cntB_set hb _ _ hf.1 hf.2)
  ·refine evNeg c (Ev.step (fun n => impl_counts.j1.eq_2 _ _ _ _) (eP (eP ?_)))
   rw [if_neg c]
   have hf := cntFold_bounds hb (es := (rd_T95 m i).f1) (v := rd dp (i : Int)) (hb _).1 (hb _).2
   exact cnt_impl_edges m hm i (by omega) hz hto (rd_T95 m i).f1 [] dp rfl hl hb (ih _ (by omega) (by simpa using hl) (cntB_set hb _ _ hf.1 hf.2))
theorem cntB_zero (n : Nat) : cntB (List.replicate n 0) := by
 intro j
 unfold rd
 rw [List.getD_eq_getElem?_getD, List.getElem?_replicate]
 split <;> simp
theorem cnts_len (m : List St) : (cnts m).length = m.length := by
 unfold cnts
 rw [cntGo_len]
 simp
theorem counts_spec (m : List St) (hs : ∀ s ∈ m, s.f1.length ≤ 1048576) (hok : machOk m = true) : Ev (fun n => spec_l3Counts.f n m) (cnts m) := by
 obtain ⟨h1, h2, h3⟩ := machOk_facts hok
 unfold spec_l3Counts.f
 refine eP (eP ?_)
 rw [w6]
 exact cnt_spec_loop m h2 hs h3 m.length _ (Nat.le_refl _) (by simp) (cntB_zero _)
theorem counts_impl (m : List St) (hs : ∀ s ∈ m, s.f1.length ≤ 1048576) (hok : machOk m = true) : Ev (fun n => impl_counts.f n m) (cnts m) := by
 obtain ⟨h1, h2, h3⟩ := machOk_facts hok
 unfold impl_counts.f
 refine eP (eP ?_)
 rw [w6]
 exact cnt_impl_loop m h2 hs h3 m.length _ (Nat.le_refl _) (by simp) (cntB_zero _)
theorem cntGo_bounds (m : List St) : ∀ (i : Nat) (dp : List Int), cntB dp → cntB (cntGo m i dp) := by
 intro i
 induction i with
 | zero => intro dp h; exact h
 | succ i ih =>
  intro dp h
  simp only [cntGo]
  have hv : 0 ≤ (if (rd_T95 m i).f0 = true then 1 else rd dp (i : Int)) ∧ (if (rd_T95 m i).f0 = true then 1 else rd dp (i : Int)) ≤ 1000000000 := by
   have := h (i : Int)
   split <;> omega
  have hf := cntFold_bounds h (es := (rd_T95 m i).f1) hv.1 hv.2
  exact ih _ (cntB_set h _ _ hf.1 hf.2)
theorem cnts_bounds (m : List St) : cntB (cnts m) := cntGo_bounds m m.length _ (cntB_zero _)
theorem cntFold_ge {dp : List Int} (hb : cntB dp) : ∀ {es : List Eg} {v : Int}, v ≤ 1000000000 → v ≤ cntFold dp v es := by
 intro es
 induction es with
 | nil => intro v _; exact Int.le_refl _
 | cons e es ih =>
  intro v h1
  have he := hb e.f1
  simp only [cntFold]
  rw [mn_min]
  have := ih (v := min (v + rd dp e.f1) 1000000000) (by omega)
  omega
theorem cntGo_facts (m : List St) (hok : allOk m m.length = true) : ∀ (i : Nat) (dp : List Int), i ≤ m.length → dp.length = m.length → cntB dp → (∀ j : Nat, j < i → rd dp j = 0) →
  (∀ j : Nat, i ≤ j → j < m.length → rd dp j = cntFold dp (if (rd_T95 m j).f0 = true then 1 else 0) (rd_T95 m j).f1) →
  cntB (cntGo m i dp) ∧ ∀ j : Nat, j < m.length → rd (cntGo m i dp) j = cntFold (cntGo m i dp) (if (rd_T95 m j).f0 = true then 1 else 0) (rd_T95 m j).f1 := by
 intro i
 induction i with
 | zero => intro dp _ _ hb _ h; exact ⟨hb, fun j hj => h j (by omega) hj⟩
 | succ i ih =>
  intro dp hi hl hb hz h
  have hz0 : rd dp (i : Int) = 0 := hz i (by omega)
  have hto := ok_to (n := 0) hok i (by omega)
  have hne (v : Int) (j : Int) (h0 : 0 ≤ j) (hj : (i : Int) ≠ j) : rd (dp.set i v) j = rd dp j := by
   have := rd_set_ne dp (i : Int) j v (by omega) h0 hj
   simpa using this
  have heq (v : Int) : rd (dp.set i v) (i : Int) = v := by
   have := rd_set_eq dp (i : Int) v (by omega) (by omega)
   simpa using this
  simp only [cntGo]
  rw [hz0]
  have hv : 0 ≤ cntFold dp (if (rd_T95 m i).f0 = true then 1 else 0) (rd_T95 m i).f1 ∧ cntFold dp (if (rd_T95 m i).f0 = true then 1 else 0) (rd_T95 m i).f1 ≤ 1000000000 := by
   refine cntFold_bounds hb ?_ ?_ <;> split <;> omega
  refine ih _ (by omega) (by simpa using hl) (cntB_set hb _ _ hv.1 hv.2) (fun j hj => ?_) (fun j h1 h2 => ?_)
  ·rw [hne _ j (by omega) (by omega)]
   exact hz j (by omega)
  ·by_cases c : j = i
   ·subst c
    rw [heq, cntFold_same (dp := dp) (fun e he => hne _ e.f1 (by have := hto e he; omega) (by have := hto e he; omega))]
   ·have hto2 := ok_to (n := 0) hok j h2
    rw [hne _ j (by omega) (by omega), h j (by omega) h2, cntFold_same (dp := dp) (fun e he => hne _ e.f1 (by have := hto2 e he; omega) (by have := hto2 e he; omega))]
theorem cnts_facts (m : List St) (hok : allOk m m.length = true) : cntB (cnts m) ∧ ∀ j : Nat, j < m.length → rd (cnts m) j = cntFold (cnts m) (if (rd_T95 m j).f0 = true then 1 else 0) (rd_T95 m j).f1 :=
 cntGo_facts m hok m.length _ (Nat.le_refl _) (by simp) (cntB_zero _) (fun j hj => rd_replicate _ _ _ (by omega) (by omega)) (fun j h1 h2 => absurd h2 (by omega))
def sumE (cs : List Int) : List Eg → Int
 | [] => 0
 | e :: es => rd cs e.f1 + sumE cs es
def lowE (cs : List Int) (c : Int) : List Eg → Int
 | [] => 0
 | e :: es => (if e.f0 < c then rd cs e.f1 else 0) + lowE cs c es
theorem sumE_nonneg {cs : List Int} (hb : cntB cs) : ∀ es : List Eg, 0 ≤ sumE cs es := by
 intro es
 induction es with
 | nil => exact Int.le_refl _
 | cons e es ih =>
  have := hb e.f1
  simp only [sumE]
  omega
theorem cntFold_sum {dp : List Int} (hb : cntB dp) : ∀ {es : List Eg} {v : Int}, cntFold dp v es < 1000000000 → v ≤ 1000000000 → cntFold dp v es = v + sumE dp es := by
 intro es
 induction es with
 | nil =>
  intro v _ _
  simp [cntFold, sumE]
 | cons e es ih =>
  intro v h hv
  simp only [cntFold, sumE] at h ⊢
  rw [mn_min] at h ⊢
  have hge := cntFold_ge hb (es := es) (v := min (v + rd dp e.f1) 1000000000) (by omega)
  have hmin : min (v + rd dp e.f1) 1000000000 = v + rd dp e.f1 := by omega
  rw [hmin] at h hge ⊢
  have := ih h (by omega)
  omega
theorem lowE_none {n i c : Int} (cs : List Int) : ∀ {es : List Eg} {p : Int}, edgesFrom n i p es = true → c ≤ p → lowE cs c es = 0 := by
 intro es
 induction es with
 | nil => intro p _ _; rfl
 | cons e es ih =>
  intro p h hc
  simp only [edgesFrom, Bool.and_eq_true, decide_eq_true_eq] at h
  obtain ⟨⟨_, h5⟩, h6⟩ := h
  simp only [lowE]
  rw [if_neg (by omega), ih h6 (by omega)]
  rfl
def pickE (cs : List Int) (f : Int → Int → List Int) : List Eg → Int → List Int
 | [], _ => []
 | e :: es, rank => if rank < rd cs e.f1 then e.f0 :: f e.f1 rank else pickE cs f es (rank - rd cs e.f1)
theorem pick_ok {n i : Int} {cs : List Int} (hb : cntB cs) (f : Int → Int → List Int) : ∀ {es : List Eg} {p rank : Int}, edgesFrom n i p es = true → 0 ≤ rank → rank < sumE cs es →
  ∃ e ∈ es, pickE cs f es rank = e.f0 :: f e.f1 (rank - lowE cs e.f0 es) ∧ hop e.f0 es = e.f1 ∧ 0 ≤ rank - lowE cs e.f0 es ∧ rank - lowE cs e.f0 es < rd cs e.f1 := by
 intro es
 induction es with
 | nil =>
  intro p rank _ h0 h1
  simp only [sumE] at h1
  omega
 | cons x es ih =>
  intro p rank h h0 h1
  have h' := h
  simp only [edgesFrom, Bool.and_eq_true, decide_eq_true_eq] at h'
  obtain ⟨_, h6⟩ := h'
  simp only [sumE] at h1
  by_cases c : rank < rd cs x.f1
  ·have e0 : lowE cs x.f0 (x :: es) = 0 := by
    simp only [lowE]
    rw [if_neg (by omega), lowE_none cs h6 (by omega)]
    rfl
   refine ⟨x, List.mem_cons_self, ?_, ?_, ?_, ?_⟩
   ·simp only [pickE]
    rw [if_pos c, e0, Int.sub_zero]
   ·simp [hop]
   ·rw [e0]
    omega
   ·rw [e0]
    omega
  ·obtain ⟨e, he, g1, g2, g3, g4⟩ := ih (rank := rank - rd cs x.f1) h6 (by omega) (by omega)
   have hlt := (edges_mem h6 e he).2.2.2.2
   have e0 : lowE cs e.f0 (x :: es) = rd cs x.f1 + lowE cs e.f0 es := by
    simp only [lowE]
    rw [if_pos hlt]
   refine ⟨e, List.mem_cons_of_mem _ he, ?_, ?_, by omega, by omega⟩
   ·simp only [pickE]
    rw [if_neg c, g1, e0]
    congr 2
    omega
   ·simp only [hop]
    rw [if_neg (by omega)]
    exact g2
def wAt (m : List St) (cs : List Int) : Nat → Int → Int → List Int
 | 0, _, _ => []
 | d + 1, a, rank => if (rd_T95 m a).f0 = true ∧ rank = 0 then [] else pickE cs (wAt m cs d) (rd_T95 m a).f1 (rank - if (rd_T95 m a).f0 = true then 1 else 0)
def accL (m : List St) : List Int → Int → Bool
 | [], a => (rd_T95 m a).f0
 | c :: w, a => decide (0 ≤ hop c (rd_T95 m a).f1) && accL m w (hop c (rd_T95 m a).f1)
def rankL (m : List St) (cs : List Int) : List Int → Int → Int
 | [], _ => 0
 | c :: w, a => (if (rd_T95 m a).f0 = true then 1 else 0) + lowE cs c (rd_T95 m a).f1 + rankL m cs w (hop c (rd_T95 m a).f1)
theorem state_sum {m : List St} (hok : allOk m m.length = true) (a : Nat) (ha : a < m.length) (hs : rd (cnts m) a < 1000000000) : rd (cnts m) a = (if (rd_T95 m a).f0 = true then 1 else 0) + sumE (cnts m) (rd_T95 m a).f1 := by
 obtain ⟨hb, hf⟩ := cnts_facts m hok
 have h := hf a ha
 rw [h]
 refine cntFold_sum hb (by rw [← h]; exact hs) ?_
 split <;> omega
theorem sum_mem {cs : List Int} (hb : cntB cs) : ∀ {es : List Eg}, ∀ e ∈ es, rd cs e.f1 ≤ sumE cs es := by
 intro es
 induction es with
 | nil => intro e he; cases he
 | cons x es ih =>
  intro e he
  have h1 := sumE_nonneg hb es
  have h2 := hb x.f1
  simp only [sumE]
  rcases List.mem_cons.1 he with rfl | he
  ·omega
  ·have := ih e he
   omega
theorem word_law (m : List St) (hok : allOk m m.length = true) (d : Nat) : ∀ (a : Nat) (rank : Int), m.length ≤ a + d → a < m.length → 0 ≤ rank → rank < rd (cnts m) a → rd (cnts m) a < 1000000000 →
  accL m (wAt m (cnts m) d a rank) a = true ∧ rankL m (cnts m) (wAt m (cnts m) d a rank) a = rank ∧ (∀ c ∈ wAt m (cnts m) d a rank, 97 ≤ c ∧ c ≤ 122) ∧ (wAt m (cnts m) d a rank).length + a < m.length := by
 induction d with
 | zero => intro a _ _ h; omega
 | succ d ih =>
  intro a rank hd ha h0 h1 h2
  obtain ⟨hb, _⟩ := cnts_facts m hok
  have hsum := state_sum hok a ha h2
  have ho := allOk_at hok a ha
  simp only [stOk, Bool.and_eq_true] at ho
  simp only [wAt]
  by_cases c : (rd_T95 m a).f0 = true ∧ rank = 0
  ·rw [if_pos c]
   exact ⟨c.1, c.2.symm, fun x hx => by simp at hx, by simpa using ha⟩
  ·rw [if_neg c]
   have hrk : 0 ≤ rank - (if (rd_T95 m a).f0 = true then 1 else 0) ∧ rank - (if (rd_T95 m a).f0 = true then 1 else 0) < sumE (cnts m) (rd_T95 m a).f1 := by
    by_cases ce : (rd_T95 m a).f0 = true
    ·have : rank ≠ 0 := fun h => c ⟨ce, h⟩
     rw [if_pos ce] at hsum ⊢
     omega
    ·rw [if_neg ce] at hsum ⊢
     omega
   obtain ⟨e, he, g1, g2, g3, g4⟩ := pick_ok hb (wAt m (cnts m) d) ho.1 hrk.1 hrk.2
   have hm := edges_mem ho.1 e he
   have hto := ok_to (n := 0) hok a ha e he
   have hcast : ((e.f1.toNat : Nat) : Int) = e.f1 := by omega
   have hsm := sum_mem hb e he
   obtain ⟨k1, k2, k3, k4⟩ := ih e.f1.toNat (rank - (if (rd_T95 m a).f0 = true then 1 else 0) - lowE (cnts m) e.f0 (rd_T95 m a).f1) (by omega) (by omega) g3 (by rw [hcast]; exact g4) (by
    rw [hcast]
    have : (0 : Int) ≤ if (rd_T95 m a).f0 = true then 1 else 0 := by split <;> omega
    omega)
   rw [hcast] at k1 k2 k3 k4
   rw [g1]
   refine ⟨?_, ?_, ?_, ?_⟩
   ·simp only [accL]
    rw [g2, k1, decide_eq_true (by omega)]
    rfl
   ·simp only [rankL]
    rw [g2, k2]
    omega
   ·intro x hx
    rcases List.mem_cons.1 hx with rfl | hx
    ·exact ⟨hm.1, hm.2.1⟩
    ·exact k3 x hx
   ·rw [List.length_cons]
    omega
theorem bytesOf_nums (l : List Int) (h : ∀ x ∈ l, 0 ≤ x ∧ x < 256) : bytesOf (strOfNums l) = l := by
 simp only [bytesOf, strOfNums, List.map_map]
 conv => rhs; rw [← List.map_id l]
 refine List.map_congr_left (fun x hx => ?_)
 have := h x hx
 simp
 omega
theorem trail_acc (m : List St) (w : ByteArray) (d : Nat) : ∀ (i : Nat) (a : Int), i + d = w.size → 0 ≤ a → (decide (0 ≤ trail m w d i a) && (rd_T95 m (trail m w d i a)).f0) = accL m ((bytesOf w).drop i) a := by
 induction d with
 | zero =>
  intro i a hi ha
  rw [List.drop_eq_nil_of_le (by rw [bytesOf_length]; omega), show trail m w 0 i a = a from rfl, decide_eq_true ha]
  simp [accL]
 | succ d ih =>
  intro i a hi ha
  have hd := bytes_drop w (i : Int) (by omega) (by omega)
  rw [Int.toNat_natCast, show ((i : Int) + 1).toNat = i + 1 from by omega] at hd
  have hbt : wrap64 (bt w i) = bt w i := by
   have := bt0 w i
   have := bt1 w i
   exact w6
  rw [hd]
  simp only [accL]
  by_cases c : hop (bt w i) (rd_T95 m a).f1 < 0
  ·have e : trail m w (d + 1) i a = -1 := by
    simp only [trail]
    rw [hbt, if_pos c]
   rw [e, decide_eq_false (show ¬ (0 ≤ hop (bt w i) (rd_T95 m a).f1) from by omega)]
   rfl
  ·have e : trail m w (d + 1) i a = trail m w d (i + 1) (hop (bt w i) (rd_T95 m a).f1) := by
    simp only [trail]
    rw [hbt, if_neg c]
   rw [e, decide_eq_true (show 0 ≤ hop (bt w i) (rd_T95 m a).f1 from by omega), Bool.true_and]
   exact ih (i + 1) _ (by omega) (by omega)
theorem knows_acc {m : List St} (h : machOk m = true) (w : ByteArray) : knows m w = accL m (bytesOf w) 0 := by
 have := trail_acc m w w.size 0 0 (by omega) (by omega)
 rw [List.drop_zero] at this
 unfold knows
 rw [h, Bool.true_and]
 exact this
def mwordB (m : List St) (a : Int) : ByteArray := if machOk m = true ∧ rd (cnts m) 0 < 1000000000 ∧ 0 ≤ a ∧ a < rd (cnts m) 0 then strOfNums (wAt m (cnts m) m.length 0 a) else ⟨#[]⟩
theorem word_impl_edges (m : List St) (hm : m.length ≤ 400) (cs : List Int) (hc : cs.length = m.length) (hb : cntB cs) (a : Nat) (ha : a < m.length) (hs : (rd_T95 m a).f1.length ≤ 1048576) (hto : ∀ e ∈ (rd_T95 m a).f1, (a : Int) < e.f1 ∧ e.f1 < m.length) (out : List Int) (hout : out.length ≤ a) (f : Int → Int → List Int)
  (next : ∀ e ∈ (rd_T95 m a).f1, ∀ rank : Int, 0 ≤ rank → rank < rd cs e.f1 → Ev (fun n => impl_MachineWord.l0 n m rank cs (out ++ [e.f0 % 256]) e.f1) (strOfNums (out ++ e.f0 :: f e.f1 rank)))
  (es : List Eg) : ∀ (pre : List Eg) (rank : Int), (rd_T95 m a).f1 = pre ++ es → 0 ≤ rank → rank < 1000000000 → rank < sumE cs es →
   Ev (fun n => impl_MachineWord.l1 n m rank cs out (a : Int) (rd_T95 m a).f1 ((rd_T95 m a).f1.length : Int) (pre.length : Int)) (strOfNums (out ++ pickE cs f es rank)) := by
 induction es with
 | nil =>
  intro pre rank _ h0 _ h2
  simp only [sumE] at h2
  omega
 | cons e es ih =>
  intro pre rank hp h0 h1 h2
  have hlen : (rd_T95 m a).f1.length = pre.length + (es.length + 1) := by rw [hp]; simp
  have hat : rd_T97 (rd_T95 m a).f1 (pre.length : Int) = e := by simp [rd_T97, hp, List.getD_eq_getElem?_getD]
  have hpl : ((pre ++ [e]).length : Int) = (pre.length : Int) + 1 := by simp
  have hp' : (rd_T95 m a).f1 = (pre ++ [e]) ++ es := by rw [hp]; simp
  have hmem : e ∈ (rd_T95 m a).f1 := by rw [hp]; simp
  have hx := hto e hmem
  have hw := hb e.f1
  simp only [sumE] at h2
  simp only [pickE]
  by_cases c : rank < rd cs e.f1
  ·rw [if_pos c]
   refine Ev.step (fun n => impl_MachineWord.l1.eq_2 _ _ _ _ _ _ _ _ _) (eP (eP (eP ?_)))
   rw [hat]
   exact eP (eP (evPos c (eP (next e hmem rank h0 c))))
  ·rw [if_neg c]
   have g2 := ih (pre ++ [e]) (rank - rd cs e.f1) hp' (by omega) (by omega) (by omega)
   rw [hpl] at g2
   refine Ev.step (fun n => impl_MachineWord.l1.eq_2 _ _ _ _ _ _ _ _ _) (eP (eP (eP ?_)))
   rw [hat, w6 (n := (pre.length : Int) + 1)]
   refine eP (eP (evNeg c ?_))
   rw [w6 (n := rank - rd cs e.f1)]
   exact g2
theorem word_val (m : List St) (hm : m.length ≤ 400) (hs : ∀ s ∈ m, s.f1.length ≤ 1048576) (hok : allOk m m.length = true) (d : Nat) : ∀ (a : Nat) (rank : Int) (out : List Int), m.length ≤ a + d → a < m.length → out.length ≤ a → 0 ≤ rank → rank < rd (cnts m) a → rd (cnts m) a < 1000000000 →
  Ev (fun n => impl_MachineWord.l0 n m rank (cnts m) out (a : Int)) (strOfNums (out ++ wAt m (cnts m) d a rank)) := by
 induction d with
 | zero => intro a _ _ h ha; omega
 | succ d ih =>
  intro a rank out hd ha hout h0 h1 h2
  obtain ⟨hb, hf⟩ := cnts_facts m hok
  have hz := stAt_small hs (a : Int)
  have hto := ok_to (n := 0) hok a ha
  have hsum := state_sum hok a ha h2
  have ho := allOk_at hok a ha
  simp only [stOk, Bool.and_eq_true] at ho
  have edges := word_impl_edges m hm (cnts m) (cnts_len m) hb a ha hz hto out hout (wAt m (cnts m) d) (fun e he rk g0 g1 => by
   have hx := hto e he
   have hmm := edges_mem ho.1 e he
   have hcast : ((e.f1.toNat : Nat) : Int) = e.f1 := by omega
   have hsm := sum_mem hb e he
   have b0 : (0 : Int) ≤ if (rd_T95 m a).f0 = true then 1 else 0 := by split <;> omega
   have k := ih e.f1.toNat rk (out ++ [e.f0 % 256]) (by omega) (by omega) (by simp; omega) g0 (by rw [hcast]; exact g1) (by rw [hcast]; omega)
   rw [hcast] at k
   refine evTo k ?_
   rw [List.append_assoc, List.singleton_append, show e.f0 % 256 = e.f0 from by omega]) (rd_T95 m a).f1 []
  simp only [wAt]
  by_cases c : (rd_T95 m a).f0 = true
  ·rw [if_pos c] at hsum
   by_cases c0 : rank = 0
   ·rw [if_pos ⟨c, c0⟩, List.append_nil]
    exact Ev.step (fun n => impl_MachineWord.l0.eq_2 _ _ _ _ _ _) (eP (eP (evPos c (evPos c0 (Ev.now _)))))
   ·rw [if_neg (fun h => c0 h.2), if_pos c]
    refine Ev.step (fun n => impl_MachineWord.l0.eq_2 _ _ _ _ _ _) (eP (eP (evPos c (evNeg c0 (Ev.step (fun n => impl_MachineWord.j2.eq_2 _ _ _ _ _ _) (eP (eP ?_)))))))
    rw [w6 (n := rank - 1)]
    exact edges (rank - 1) rfl (by omega) (by omega) (by omega)
  ·rw [if_neg c] at hsum
   rw [if_neg (fun h => c h.1), if_neg c, Int.sub_zero]
   exact Ev.step (fun n => impl_MachineWord.l0.eq_2 _ _ _ _ _ _) (eP (eP (evNeg c (Ev.step (fun n => impl_MachineWord.j2.eq_2 _ _ _ _ _ _) (eP (eP (edges rank rfl (by omega) (by omega) (by omega))))))))
theorem mword_impl (m : List St) (hm : m.length ≤ 1048576) (hs : ∀ s ∈ m, s.f1.length ≤ 1048576) (a : Int) : Ev (fun n => impl_MachineWord.f n m a) (mwordB m a) := by
 have i1 := machOk_impl m hm hs
 unfold impl_MachineWord.f mwordB
 cases e : machOk m with
 | false =>
  rw [e] at i1
  rw [if_neg (fun h => by cases h.1)]
  exact Ev.bind i1 (evNeg (by simp) (Ev.now _))
 | true =>
  rw [e] at i1
  obtain ⟨g1, g2, g3⟩ := machOk_facts e
  obtain ⟨hb, hf⟩ := cnts_facts m g3
  have hl := cnts_len m
  have h0 := hb 0
  have ci := counts_impl m hs e
  by_cases c : rd (cnts m) 0 < 1000000000
  ·have hwi : impl_within.f a 0 (wrap64 (rd (cnts m) 0 - 1)) = some (decide (0 ≤ a) && decide (a ≤ rd (cnts m) 0 - 1)) := by rw [within_impl, w6]
   by_cases ca : 0 ≤ a ∧ a < rd (cnts m) 0
   ·have k2 := word_val m g2 hs g3 m.length 0 a [] (by omega) (by omega) (by simp) ca.1 ca.2 c
    have hd : (decide (0 ≤ a) && decide (a ≤ rd (cnts m) 0 - 1)) = true := by simp; omega
    rw [hd] at hwi
    rw [if_pos ⟨rfl, c, ca⟩]
    exact Ev.bind i1 (evPos rfl (Ev.bind ci (eP (eN (evCall hwi (Ev.step (fun n => impl_MachineWord.j0.eq_2 _ _ _ _ _) (evNeg (by simp) k2)))))))
   ·have hd : (decide (0 ≤ a) && decide (a ≤ rd (cnts m) 0 - 1)) = false := by
     cases hq : (decide (0 ≤ a) && decide (a ≤ rd (cnts m) 0 - 1)) with
     | false => rfl
     | true =>
      simp only [Bool.and_eq_true, decide_eq_true_eq] at hq
      exact absurd ⟨hq.1, by omega⟩ ca
    rw [hd] at hwi
    rw [if_neg (fun h => ca h.2.2)]
    exact Ev.bind i1 (evPos rfl (Ev.bind ci (eP (eN (evCall hwi (Ev.step (fun n => impl_MachineWord.j0.eq_2 _ _ _ _ _) (evPos rfl (Ev.now _))))))))
  ·rw [if_neg (fun h => c h.2.1)]
   exact Ev.bind i1 (evPos rfl (Ev.bind ci (eP (eP (Ev.step (fun n => impl_MachineWord.j0.eq_2 _ _ _ _ _) (evPos rfl (Ev.now _)))))))
theorem word_spec_edges (m : List St) (hm : m.length ≤ 400) (cs : List Int) (hc : cs.length = m.length) (hb : cntB cs) (a : Nat) (ha : a < m.length) (hs : (rd_T95 m a).f1.length ≤ 1048576) (hto : ∀ e ∈ (rd_T95 m a).f1, (a : Int) < e.f1 ∧ e.f1 < m.length) (out : List Int) (hout : out.length ≤ a) (f : Int → Int → List Int)
  (next : ∀ e ∈ (rd_T95 m a).f1, ∀ rank : Int, 0 ≤ rank → rank < rd cs e.f1 → Ev (fun n => spec_MachineWord.l0 n m rank cs e.f1 (out ++ [e.f0 % 256])) (strOfNums (out ++ e.f0 :: f e.f1 rank)))
  (es : List Eg) : ∀ (pre : List Eg) (rank : Int), (rd_T95 m a).f1 = pre ++ es → 0 ≤ rank → rank < 1000000000 → rank < sumE cs es →
   Ev (fun n => spec_MachineWord.l1 n m rank cs (a : Int) out (pre.length : Int)) (strOfNums (out ++ pickE cs f es rank)) := by
 induction es with
 | nil =>
  intro pre rank _ h0 _ h2
  simp only [sumE] at h2
  omega
 | cons e es ih =>
  intro pre rank hp h0 h1 h2
  have hlen : (rd_T95 m a).f1.length = pre.length + (es.length + 1) := by rw [hp]; simp
  have hat : rd_T97 (rd_T95 m a).f1 (pre.length : Int) = e := by simp [rd_T97, hp, List.getD_eq_getElem?_getD]
  have hpl : ((pre ++ [e]).length : Int) = (pre.length : Int) + 1 := by simp
  have hp' : (rd_T95 m a).f1 = (pre ++ [e]) ++ es := by rw [hp]; simp
  have hmem : e ∈ (rd_T95 m a).f1 := by rw [hp]; simp
  have hx := hto e hmem
  have hw := hb e.f1
  simp only [sumE] at h2
  simp only [pickE]
  by_cases c : rank < rd cs e.f1
  ·rw [if_pos c]
   refine Ev.step (fun n => spec_MachineWord.l1.eq_2 _ _ _ _ _ _ _) (eP (eP (eP (eP ?_))))
   rw [hat]
   exact eP (eP (evPos c (eP (next e hmem rank h0 c))))
  ·rw [if_neg c]
   have g2 := ih (pre ++ [e]) (rank - rd cs e.f1) hp' (by omega) (by omega) (by omega)
   rw [hpl] at g2
   refine Ev.step (fun n => spec_MachineWord.l1.eq_2 _ _ _ _ _ _ _) (eP (eP (eP (eP ?_))))
   rw [hat, w6 (n := (pre.length : Int) + 1)]
   refine eP (eP (evNeg c ?_))
   rw [w6 (n := rank - rd cs e.f1)]
   exact g2
theorem word_vals (m : List St) (hm : m.length ≤ 400) (hs : ∀ s ∈ m, s.f1.length ≤ 1048576) (hok : allOk m m.length = true) (d : Nat) : ∀ (a : Nat) (rank : Int) (out : List Int), m.length ≤ a + d → a < m.length → out.length ≤ a → 0 ≤ rank → rank < rd (cnts m) a → rd (cnts m) a < 1000000000 →
  Ev (fun n => spec_MachineWord.l0 n m rank (cnts m) (a : Int) out) (strOfNums (out ++ wAt m (cnts m) d a rank)) := by
 induction d with
 | zero => intro a _ _ h ha; omega
 | succ d ih =>
  intro a rank out hd ha hout h0 h1 h2
  obtain ⟨hb, hf⟩ := cnts_facts m hok
  have hz := stAt_small hs (a : Int)
  have hto := ok_to (n := 0) hok a ha
  have hsum := state_sum hok a ha h2
  have ho := allOk_at hok a ha
  simp only [stOk, Bool.and_eq_true] at ho
  have edges := word_spec_edges m hm (cnts m) (cnts_len m) hb a ha hz hto out hout (wAt m (cnts m) d) (fun e he rk g0 g1 => by
   have hx := hto e he
   have hmm := edges_mem ho.1 e he
   have hcast : ((e.f1.toNat : Nat) : Int) = e.f1 := by omega
   have hsm := sum_mem hb e he
   have b0 : (0 : Int) ≤ if (rd_T95 m a).f0 = true then 1 else 0 := by split <;> omega
   have k := ih e.f1.toNat rk (out ++ [e.f0 % 256]) (by omega) (by omega) (by simp; omega) g0 (by rw [hcast]; exact g1) (by rw [hcast]; omega)
   rw [hcast] at k
   refine evTo k ?_
   rw [List.append_assoc, List.singleton_append, show e.f0 % 256 = e.f0 from by omega]) (rd_T95 m a).f1 []
  simp only [wAt]
  by_cases c : (rd_T95 m a).f0 = true
  ·rw [if_pos c] at hsum
   by_cases c0 : rank = 0
   ·rw [if_pos ⟨c, c0⟩, List.append_nil]
    exact Ev.step (fun n => spec_MachineWord.l0.eq_2 _ _ _ _ _ _) (eP (eP (evPos c (evPos c0 (Ev.now _)))))
   ·rw [if_neg (fun h => c0 h.2), if_pos c]
    refine Ev.step (fun n => spec_MachineWord.l0.eq_2 _ _ _ _ _ _) (eP (eP (evPos c (evNeg c0 (Ev.step (fun n => spec_MachineWord.j2.eq_2 _ _ _ _ _ _) ?_)))))
    rw [w6 (n := rank - 1)]
    exact edges (rank - 1) rfl (by omega) (by omega) (by omega)
  ·rw [if_neg c] at hsum
   rw [if_neg (fun h => c h.1), if_neg c, Int.sub_zero]
   exact Ev.step (fun n => spec_MachineWord.l0.eq_2 _ _ _ _ _ _) (eP (eP (evNeg c (Ev.step (fun n => spec_MachineWord.j2.eq_2 _ _ _ _ _ _) (edges rank rfl (by omega) (by omega) (by omega))))))
theorem small_spec (m : List St) (hm : m.length ≤ 1048576) (hs : ∀ s ∈ m, s.f1.length ≤ 1048576) : Ev (fun n => spec_l3Small.f n m) (machOk m && decide (rd (cnts m) 0 < 1000000000)) := by
 have s1 := machOk_spec m hm hs
 unfold spec_l3Small.f
 cases e : machOk m with
 | false =>
  rw [e] at s1
  exact Ev.bind s1 (evNeg (by simp) (Ev.now _))
 | true =>
  rw [e] at s1
  have hl := cnts_len m
  have := (machOk_facts e).1
  exact Ev.bind s1 (evPos rfl (Ev.bind (counts_spec m hs e) (eP (evTo (Ev.now _) (by simp)))))
theorem mword_spec (m : List St) (hm : m.length ≤ 1048576) (hs : ∀ s ∈ m, s.f1.length ≤ 1048576) (a : Int) : Ev (fun n => spec_MachineWord.f n m a) (mwordB m a) := by
 have s0 := small_spec m hm hs
 unfold spec_MachineWord.f mwordB
 by_cases h : machOk m = true ∧ rd (cnts m) 0 < 1000000000
 ·rw [h.1, decide_eq_true h.2, Bool.true_and] at s0
  obtain ⟨g1, g2, g3⟩ := machOk_facts h.1
  obtain ⟨hb, hf⟩ := cnts_facts m g3
  have hl := cnts_len m
  have h0 := hb 0
  have cs := counts_spec m hs h.1
  have c := h.2
  have hin : spec_l1In.f a 0 (wrap64 (rd (cnts m) 0 - 1)) = some (decide (0 ≤ a) && decide (a ≤ rd (cnts m) 0 - 1)) := by rw [in_spec, w6]
  by_cases ca : 0 ≤ a ∧ a < rd (cnts m) 0
  ·have k2 := word_vals m g2 hs g3 m.length 0 a [] (by omega) (by omega) (by simp) ca.1 ca.2 c
   have hd : (decide (0 ≤ a) && decide (a ≤ rd (cnts m) 0 - 1)) = true := by simp; omega
   rw [hd] at hin
   rw [if_pos ⟨h.1, c, ca⟩]
   exact Ev.bind s0 (evPos rfl (Ev.bind cs (eP (evCall hin (Ev.step (fun n => spec_MachineWord.j0.eq_2 _ _ _ _) (evNeg (by simp) (Ev.bind cs k2)))))))
  ·have hd : (decide (0 ≤ a) && decide (a ≤ rd (cnts m) 0 - 1)) = false := by
    cases hq : (decide (0 ≤ a) && decide (a ≤ rd (cnts m) 0 - 1)) with
    | false => rfl
    | true =>
     simp only [Bool.and_eq_true, decide_eq_true_eq] at hq
     exact absurd ⟨hq.1, by omega⟩ ca
   rw [hd] at hin
   rw [if_neg (fun h => ca h.2.2)]
   exact Ev.bind s0 (evPos rfl (Ev.bind cs (eP (evCall hin (Ev.step (fun n => spec_MachineWord.j0.eq_2 _ _ _ _) (evPos rfl (Ev.now _)))))))
 ·have hf : (machOk m && decide (rd (cnts m) 0 < 1000000000)) = false := by
   cases hq : (machOk m && decide (rd (cnts m) 0 < 1000000000)) with
   | false => rfl
   | true =>
    simp only [Bool.and_eq_true, decide_eq_true_eq] at hq
    exact absurd hq h
  rw [hf] at s0
  rw [if_neg (fun k => h ⟨k.1, k.2.1⟩)]
  exact Ev.bind s0 (evNeg (by simp) (Ev.step (fun n => spec_MachineWord.j0.eq_2 _ _ _ _) (evPos rfl (Ev.now _))))
def mcountB (m : List St) : Int := if machOk m = true then rd (cnts m) 0 else 0
theorem mcount_spec (m : List St) (hm : m.length ≤ 1048576) (hs : ∀ s ∈ m, s.f1.length ≤ 1048576) : Ev (fun k => spec_MachineCount.f k m) (mcountB m) := by
 have s1 := machOk_spec m hm hs
 unfold spec_MachineCount.f mcountB
 cases e : machOk m with
 | false =>
  rw [e] at s1
  rw [if_neg (by simp)]
  exact Ev.bind s1 (evNeg (by simp) (Ev.now _))
 | true =>
  rw [e] at s1
  rw [if_pos rfl]
  obtain ⟨g1, g2, g3⟩ := machOk_facts e
  have hl := cnts_len m
  exact Ev.bind s1 (evPos rfl (Ev.bind (counts_spec m hs e) (eP (Ev.now _))))
theorem mcount_impl (m : List St) (hm : m.length ≤ 1048576) (hs : ∀ s ∈ m, s.f1.length ≤ 1048576) : Ev (fun k => impl_MachineCount.f k m) (mcountB m) := by
 have s1 := machOk_impl m hm hs
 unfold impl_MachineCount.f mcountB
 cases e : machOk m with
 | false =>
  rw [e] at s1
  rw [if_neg (by simp)]
  exact Ev.bind s1 (evNeg (by simp) (Ev.now _))
 | true =>
  rw [e] at s1
  rw [if_pos rfl]
  obtain ⟨g1, g2, g3⟩ := machOk_facts e
  have hl := cnts_len m
  exact Ev.bind s1 (evPos rfl (Ev.bind (counts_impl m hs e) (eP (Ev.now _))))
def wGo (l : List ByteArray) : Nat → Int → Bool
 | 0, _ => true
 | d + 1, i => wordB (rdOf ByteArray.empty l i) && (if i > 0 then Op.bytesLess (rdOf ByteArray.empty l (i - 1)).toList (rdOf ByteArray.empty l i).toList else true) && wGo l d (i + 1)
def wsB (l : List ByteArray) : Bool := wGo l l.length 0 && decide ((l.length : Int) ≤ 300)
theorem l3Words_loop (l : List ByteArray) (hl : l.length ≤ 1048576) (he : ∀ s ∈ l, s.size ≤ 1048576) (d : Nat) : ∀ i : Nat, i + d = l.length → Ev (fun k => spec_l3Words.l0 k l (i : Int)) (wGo l d i && decide ((l.length : Int) ≤ 300)) := by
 induction d with
 | zero =>
  intro i hi
  refine Ev.step (fun k => spec_l3Words.l0.eq_2 ..) (eN (evTo (Ev.now _) ?_))
  simp only [wGo, Bool.true_and]
 | succ d ih =>
  intro i hi
  have hs := ba_at (P := fun s => s.size ≤ 1048576) he i (by omega)
  refine Ev.step (fun k => spec_l3Words.l0.eq_2 ..) (eP (eP (Ev.bind (l1Word_spec _ (by omega)) ?_)))
  rw [w6 (n := (i : Int) + 1)]
  have next := ih (i + 1) (by omega)
  simp only [wGo]
  cases e : wordB (rdOf ByteArray.empty l (i : Int)) with
  | false => exact evNeg (by simp) (evTo (Ev.now _) (by simp))
  | true =>
   refine evPos rfl ?_
   by_cases c : (i : Int) > 0
   ·rw [w6 (n := (i : Int) - 1), if_pos c]
    refine evPos c (eP (eP ?_))
    cases g : Op.bytesLess (rdOf ByteArray.empty l ((i : Int) - 1)).toList (rdOf ByteArray.empty l (i : Int)).toList with
    | false => exact evNeg (by simp) (evTo (Ev.now _) (by simp))
    | true => exact evPos rfl (evTo next (by simp))
   ·rw [if_neg c]
    exact evNeg c (evTo next (by simp))
theorem l3Words_ev (l : List ByteArray) (hl : l.length ≤ 1048576) (he : ∀ s ∈ l, s.size ≤ 1048576) : Ev (fun k => spec_l3Words.f k l) (wsB l) := l3Words_loop l hl he l.length 0 (by omega)
theorem wGo_words (l : List ByteArray) (d : Nat) : ∀ i : Nat, i + d = l.length → wGo l d i = true → ∀ s ∈ l.drop i, wordB s = true := by
 induction d with
 | zero =>
  intro i hi _ s hs
  rw [List.drop_eq_nil_of_le (by omega)] at hs
  cases hs
 | succ d ih =>
  intro i hi h s hs
  have hlt : i < l.length := by omega
  simp only [wGo, Bool.and_eq_true] at h
  rw [List.drop_eq_getElem_cons hlt] at hs
  rcases List.mem_cons.1 hs with rfl | hs
  ·rw [← ba_get l i hlt]
   exact h.1.1
  ·exact ih (i + 1) (by omega) h.2 s hs
def Rdr (s : List Int) (p : Int) : Prop := s.length ≤ 2000 ∧ (∀ x ∈ s, 0 ≤ x ∧ x ≤ 255) ∧ 0 ≤ p ∧ p ≤ 1000000000000
theorem Rdr.at_ {s : List Int} {p : Int} (h : Rdr s p) (q : Int) (h0 : 0 ≤ q) (h1 : q ≤ 1000000000000) : Rdr s q := ⟨h.1, h.2.1, h0, h1⟩
theorem rd_range {s : List Int} (h : ∀ x ∈ s, 0 ≤ x ∧ x ≤ 255) (i : Int) : 0 ≤ rd s i ∧ rd s i ≤ 255 := by
 unfold rd
 rw [List.getD_eq_getElem?_getD]
 by_cases c : i.toNat < s.length
 ·rw [List.getElem?_eq_getElem c]
  exact h _ (List.getElem_mem c)
 ·rw [List.getElem?_eq_none (by omega)]
  simp
def pickY (a b p q : Int) : Int := wrap64 (wrap64 (wrap64 (wrap64 (wrap64 a * 131) + wrap64 (wrap64 b * 1117)) + wrap64 (p * 29)) + wrap64 (wrap64 q * 53))
def pickX (a b p q : Int) : Int := Go.bits .xor .i64 (pickY a b p q) (wrap64 (Int.tdiv (pickY a b p q) 64))
theorem pickX_pos (a b p q : Int) (ha : 0 ≤ a ∧ a ≤ 255) (hb : 0 ≤ b ∧ b ≤ 255) (h0 : 0 ≤ p) (h1 : p ≤ 1000000000000) (q0 : 0 ≤ q) (q1 : q ≤ p) : 0 ≤ pickX a b p q := by
 have e : pickY a b p q = a * 131 + b * 1117 + p * 29 + q * 53 := by
  unfold pickY
  rw [w6 (n := a), w6 (n := b), w6 (n := a * 131), w6 (n := b * 1117), w6 (n := p * 29), w6 (n := q), w6 (n := q * 53), w6 (n := a * 131 + b * 1117), w6 (n := a * 131 + b * 1117 + p * 29), w6 (n := a * 131 + b * 1117 + p * 29 + q * 53)]
 unfold pickX
 rw [e]
 have x0 : 0 ≤ a * 131 + b * 1117 + p * 29 + q * 53 := by omega
 have x1 : a * 131 + b * 1117 + p * 29 + q * 53 < 4611686018427387904 := by omega
 generalize a * 131 + b * 1117 + p * 29 + q * 53 = x at *
 have t0 := Int.tdiv_nonneg x0 (show (0 : Int) ≤ 64 from by omega)
 have t1 : Int.tdiv x 64 ≤ x := Int.tdiv_le_self 64 x0
 rw [w6 (n := Int.tdiv x 64)]
 exact xor_small x (Int.tdiv x 64) x0 x1 t0 (by omega)
theorem pick_ev {s : List Int} {p : Int} (h : Rdr s p) (n : Int) (hn : n ≤ 1000000000000000) : ∃ v, Ev (fun k => spec_l1Rd_pick.f k s p n) (v, p + 1) ∧ 0 ≤ v ∧ (v < n ∨ v = 0) := by
 obtain ⟨hl, hb, hp0, hp1⟩ := h
 have hr := rd_range hb
 unfold spec_l1Rd_pick.f
 rw [w6 (n := p + 1)]
 by_cases c : n < 1
 ·exact ⟨0, evPos c (Ev.step (fun k => spec_l1Rd_pick.j0.eq_2 _ _ _ _ _) (evPos rfl (Ev.now _))), by omega, .inr rfl⟩
 by_cases e : s.length = 0
 ·exact ⟨0, evNeg c (Ev.step (fun k => spec_l1Rd_pick.j0.eq_2 _ _ _ _ _) (evPos (by simp [e]) (Ev.now _))), by omega, .inr rfl⟩
 have hlen : 0 < (s.length : Int) := by omega
 have wr (i : Int) : wrap64 (rd s i) = rd s i := w64 (by have := (hr i).1; omega) (by have := (hr i).2; omega)
 by_cases c2 : p < (s.length : Int)
 ·have h1 := hr p
  refine ⟨Int.tmod (rd s p) n, evNeg c (Ev.step (fun k => spec_l1Rd_pick.j0.eq_2 _ _ _ _ _) (evNeg (by simpa using e) ?_)), Int.tmod_nonneg _ h1.1, .inl (Int.tmod_lt_of_pos _ (by omega))⟩
  rw [show p + 1 - 1 = p from by omega, w6 (n := p), wr]
  exact evPos c2 (evPos hp0 (eN (Ev.now _)))
 have m1 := Int.tmod_nonneg (s.length : Int) hp0
 have m2 := Int.tmod_lt_of_pos p hlen
 have m3 := Int.tmod_nonneg (s.length : Int) (show 0 ≤ p * 7 + 3 from by omega)
 have m4 := Int.tmod_lt_of_pos (p * 7 + 3) hlen
 have d1 := Int.tdiv_nonneg hp0 (show 0 ≤ (s.length : Int) from by omega)
 have d2 : Int.tdiv p (s.length : Int) ≤ p := Int.tdiv_le_self (s.length : Int) hp0
 have hz := pickX_pos (rd s (Int.tmod p (s.length : Int))) (rd s (Int.tmod (p * 7 + 3) (s.length : Int))) p (Int.tdiv p (s.length : Int)) (hr _) (hr _) hp0 hp1 d1 d2
 refine ⟨Int.tmod (pickX (rd s (Int.tmod p (s.length : Int))) (rd s (Int.tmod (p * 7 + 3) (s.length : Int))) p (Int.tdiv p (s.length : Int))) n, evNeg c (Ev.step (fun k => spec_l1Rd_pick.j0.eq_2 _ _ _ _ _) (evNeg (by simpa using e) ?_)), Int.tmod_nonneg _ hz, .inl (Int.tmod_lt_of_pos _ (by omega))⟩
 rw [show p + 1 - 1 = p from by omega, w6 (n := p), w6 (n := p * 7), w6 (n := p * 7 + 3)]
 exact evNeg c2 (eN (evPos m1 (evPos m2 (evPos m3 (evPos m4 (eN (Ev.now _)))))))
theorem of_ev {s : List Int} {p : Int} (h : Rdr s p) (l : List ByteArray) (h0 : 0 < l.length) (h1 : l.length ≤ 1000000) : ∃ x ∈ l, Ev (fun k => spec_l1Rd_of.f k s p l) (x, p + 1) := by
 obtain ⟨v, hv, v0, v1⟩ := pick_ev h (l.length : Int) (by omega)
 have v2 : v < (l.length : Int) := by omega
 have hl : v.toNat < l.length := by omega
 refine ⟨l[v.toNat], List.getElem_mem hl, ?_⟩
 unfold spec_l1Rd_of.f
 refine Ev.bind hv (evPos v0 (evPos v2 (evTo (Ev.now _) ?_)))
 simp [rdOf, List.getD_eq_getElem?_getD, List.getElem?_eq_getElem hl]
theorem open_ev (l : List Int) (h : ∀ x ∈ l, (Lit.int .u8 x).wf = true) : ∃ s, spec_l1Open.f l = some (s, 0) ∧ Rdr s 0 := by
 have hb : ∀ x ∈ l, 0 ≤ x ∧ x ≤ 255 := by
  intro x hx
  have := h x hx
  simp [Lit.wf, IntKind.min, IntKind.max, IntKind.signed, IntKind.bits] at this
  omega
 unfold spec_l1Open.f
 by_cases c : (l.length : Int) > 2000
 ·refine ⟨l.take 2000, by rw [if_pos c, if_pos (by omega)], ?_, fun x hx => hb x (List.mem_of_mem_take hx), by omega, by omega⟩
  rw [List.length_take]
  omega
 ·exact ⟨l, by rw [if_neg c], by omega, hb, by omega, by omega⟩
theorem word13_loop {s : List Int} (d : Nat) : ∀ (x : ByteArray) (n p : Int), Rdr s p → p + d ≤ 1000000000000 → n = d → x.size + 2 * d ≤ 1000000 →
  ∃ r p', Ev (fun k => spec_l13Word.l0 k x n s p) (r, p') ∧ r.size ≤ 12 ∧ p ≤ p' ∧ p' ≤ p + d := by
 induction d with
 | zero =>
  intro x n p h hp hn hx
  refine ⟨x.extract 0 (min x.size 12), p, Ev.step (fun k => spec_l13Word.l0.eq_2 _ _ _ _ _) (eN (evCall (least_spec _ _) ?_)), ?_, by omega, by omega⟩
  ·refine eP (eP (evTo (Ev.now _) ?_))
   congr 3
   omega
  ·rw [size_extract _ _ _ (by omega) (by omega)]
   omega
 | succ d ih =>
  intro x n p h hp hn hx
  have hls : ∀ y ∈ ([(⟨#[97]⟩ : ByteArray), (⟨#[98]⟩ : ByteArray), (⟨#[99]⟩ : ByteArray), (⟨#[97, 98]⟩ : ByteArray), (⟨#[116]⟩ : ByteArray)] : List ByteArray), y.size ≤ 2 := by
   intro y hy
   simp only [List.mem_cons, List.not_mem_nil, or_false] at hy
   rcases hy with rfl | rfl | rfl | rfl | rfl <;> decide
  obtain ⟨y, hy, he⟩ := of_ev h ([(⟨#[97]⟩ : ByteArray), (⟨#[98]⟩ : ByteArray), (⟨#[99]⟩ : ByteArray), (⟨#[97, 98]⟩ : ByteArray), (⟨#[116]⟩ : ByteArray)] : List ByteArray) (by simp) (by simp)
  have hy2 := hls y hy
  obtain ⟨r, p', hr, h1, h2, h3⟩ := ih (x ++ y) (n - 1) (p + 1) (h.at_ _ (by have := h.2.2.1; omega) (by omega)) (by omega) (by omega) (by rw [size_append]; omega)
  refine ⟨r, p', Ev.step (fun k => spec_l13Word.l0.eq_2 _ _ _ _ _) (eP (Ev.bind he (evPos (by dsimp only; omega) ?_))), h1, by omega, by omega⟩
  rw [w6]
  exact hr
theorem word13_ev {s : List Int} {p : Int} (h : Rdr s p) (hp : p ≤ 999999999900) : ∃ r p', Ev (fun k => spec_l13Word.f k s p) (r, p') ∧ r.size ≤ 12 ∧ p ≤ p' ∧ p' ≤ p + 10 := by
 have h0 := h.2.2.1
 obtain ⟨v, hv, v0, v1⟩ := pick_ev h 3 (by omega)
 unfold spec_l13Word.f
 by_cases c : v = 0
 ·obtain ⟨u, hu, u0, u1⟩ := pick_ev (h.at_ (p + 1) (by omega) (by omega)) 5 (by omega)
  obtain ⟨d, hd⟩ := Int.eq_ofNat_of_zero_le (show 0 ≤ 1 + u from by omega)
  obtain ⟨r, p', hr, h1, h2, h3⟩ := word13_loop d (⟨#[]⟩ : ByteArray) (1 + u) (p + 1 + 1) (h.at_ _ (by omega) (by omega)) (by omega) hd (by have : (⟨#[]⟩ : ByteArray).size = 0 := rfl; omega)
  refine ⟨r, p', Ev.bind hv (evPos c (Ev.bind hu ?_)), h1, by omega, by omega⟩
  rw [w64 (by dsimp only; omega) (by dsimp only; omega)]
  exact hr
 ·obtain ⟨y, hy, he⟩ := of_ev (h.at_ (p + 1) (by omega) (by omega)) ([(⟨#[99, 97, 116]⟩ : ByteArray), (⟨#[99, 97, 116, 115]⟩ : ByteArray), (⟨#[97, 99, 116]⟩ : ByteArray), (⟨#[100, 111]⟩ : ByteArray), (⟨#[100, 111, 105, 110, 103]⟩ : ByteArray), (⟨#[103, 111]⟩ : ByteArray), (⟨#[117, 110, 100, 111]⟩ : ByteArray), (⟨#[116, 114, 121]⟩ : ByteArray), (⟨#[116, 114, 105, 101, 115]⟩ : ByteArray), (⟨#[97]⟩ : ByteArray), (⟨#[98, 97, 107, 101]⟩ : ByteArray), (⟨#[98, 97, 107, 105, 110, 103]⟩ : ByteArray), (⟨#[116, 97, 99, 116]⟩ : ByteArray), (⟨#[99, 97, 114, 116]⟩ : ByteArray), (⟨#[97, 98, 99, 97, 98, 99, 97, 98, 99, 97, 98, 99]⟩ : ByteArray)] : List ByteArray) (by simp) (by simp)
  refine ⟨y, p + 1 + 1, Ev.bind hv (evNeg c (Ev.bind he (Ev.now _))), ?_, by omega, by omega⟩
  simp only [List.mem_cons, List.not_mem_nil, or_false] at hy
  rcases hy with rfl | rfl | rfl | rfl | rfl | rfl | rfl | rfl | rfl | rfl | rfl | rfl | rfl | rfl | rfl <;> decide
theorem any13_ev {s : List Int} {p : Int} (h : Rdr s p) (hp : p ≤ 999999999800) : ∃ r p', Ev (fun k => spec_l13AnyWord.f k s p) (r, p') ∧ r.size ≤ 13 ∧ p ≤ p' ∧ p' ≤ p + 11 := by
 have h0 := h.2.2.1
 obtain ⟨v, hv, v0, v1⟩ := pick_ev h 16 (by omega)
 unfold spec_l13AnyWord.f
 by_cases c : v = 0
 ·obtain ⟨y, hy, he⟩ := of_ev (h.at_ (p + 1) (by omega) (by omega)) ([(⟨#[]⟩ : ByteArray), (⟨#[67, 97, 116]⟩ : ByteArray), (⟨#[97, 32, 98]⟩ : ByteArray), (⟨#[97, 98, 99, 97, 98, 99, 97, 98, 99, 97, 98, 99, 97]⟩ : ByteArray), (⟨#[120, 49]⟩ : ByteArray), (⟨#[45]⟩ : ByteArray)] : List ByteArray) (by simp) (by simp)
  refine ⟨y, p + 1 + 1, Ev.bind hv (evPos c (Ev.bind he (Ev.now _))), ?_, by omega, by omega⟩
  simp only [List.mem_cons, List.not_mem_nil, or_false] at hy
  rcases hy with rfl | rfl | rfl | rfl | rfl | rfl <;> decide
 ·obtain ⟨r, p', hr, h1, h2, h3⟩ := word13_ev (h.at_ (p + 1) (by omega) (by omega)) (by omega)
  exact ⟨r, p', Ev.bind hv (evNeg c (Ev.bind hr (Ev.now _))), by omega, by omega, by omega⟩
abbrev Af := S73
abbrev En := S66
abbrev AfZ (a : Af) : Prop := a.f0.size ≤ 13 ∧ a.f2.size ≤ 13 ∧ a.f3.size ≤ 13 ∧ a.f4.size ≤ 13
abbrev AfY (a : Af) : Prop := AfZ a ∧ affOk a.f0 a.f1 a.f2 a.f3 a.f4 = true
abbrev EnZ (e : En) : Prop := e.f0.size ≤ 13 ∧ e.f1.size ≤ 5
theorem affix13_ev {s : List Int} {p : Int} (h : Rdr s p) : ∃ g fr st ad wh, Ev (fun k => spec_l13Affix.f k s p) (g, fr, st, ad, wh, p + 1) ∧ AfY ⟨g, fr, st, ad, wh⟩ := by
 unfold spec_l13Affix.f AfY AfZ
 obtain ⟨v, hv, v0, v1⟩ := pick_ev h 8 (by omega)
 have hs : v = 0 ∨ v = 1 ∨ v = 2 ∨ v = 3 ∨ v = 4 ∨ v = 5 ∨ v = 6 ∨ v = 7 := by omega
 refine ⟨_, _, _, _, _, evCall rfl (Ev.bind hv (evPos v0 (evPos (by simp only [List.length]; omega) (Ev.now _)))), ?_⟩
 rcases hs with rfl | rfl | rfl | rfl | rfl | rfl | rfl | rfl <;> exact ⟨by dsimp only; decide, by dsimp only; decide⟩
theorem entry13_ev {s : List Int} {p : Int} (h : Rdr s p) (w : ByteArray) : ∃ fl, Ev (fun k => spec_l13Entry.f k s p w) (w, fl, p + 1) ∧ fl.size ≤ 5 := by
 obtain ⟨y, hy, he⟩ := of_ev h ([(⟨#[]⟩ : ByteArray), (⟨#[]⟩ : ByteArray), (⟨#[83]⟩ : ByteArray), (⟨#[71, 83]⟩ : ByteArray), (⟨#[85]⟩ : ByteArray), (⟨#[71, 85]⟩ : ByteArray), (⟨#[82]⟩ : ByteArray), (⟨#[84]⟩ : ByteArray), (⟨#[67, 82, 83, 85]⟩ : ByteArray)] : List ByteArray) (by simp) (by simp)
 unfold spec_l13Entry.f
 refine ⟨y, Ev.bind he (Ev.now _), ?_⟩
 simp only [List.mem_cons, List.not_mem_nil, or_false] at hy
 rcases hy with rfl | rfl | rfl | rfl | rfl | rfl | rfl | rfl | rfl <;> decide
theorem affixes_known (s : List Int) (p : Int) (out : List Af) (n : Int) (g : ByteArray) (fr : Bool) (st ad wh : ByteArray) (hl : out.length ≤ 1000) (d : Nat) : ∀ (i : Nat) (b : Bool), i + d = out.length →
  ∃ c : Bool, ∀ r, Ev (fun k => if c = true then spec_l13Affixes.l0 k out (wrap64 (n - 1)) s p else spec_l13Affixes.l0 k (out ++ [⟨g, fr, st, ad, wh⟩]) (wrap64 (n - 1)) s p) r → Ev (fun k => spec_l13Affixes.l1 k out n b (i : Int) s p g fr st ad wh) r := by
 induction d with
 | zero =>
  intro i b hi
  refine ⟨b, fun r hr => Ev.step (fun k => spec_l13Affixes.l1.eq_2 ..) (eN ?_)⟩
  cases b with
  | true => exact evPos rfl (by simpa using hr)
  | false => exact evNeg (by simp) (eP (by simpa using hr))
 | succ d ih =>
  intro i b hi
  have e : wrap64 ((i : Int) + 1) = ((i + 1 : Nat) : Int) := w6
  cases b with
  | true =>
   obtain ⟨c, hc⟩ := ih (i + 1) true (by omega)
   refine ⟨c, fun r hr => Ev.step (fun k => spec_l13Affixes.l1.eq_2 ..) (eP (evPos rfl ?_))⟩
   rw [e]
   exact hc r hr
  | false =>
   obtain ⟨c, hc⟩ := ih (i + 1) _ (by omega)
   refine ⟨c, fun r hr => Ev.step (fun k => spec_l13Affixes.l1.eq_2 ..) (eP (evNeg (by simp) (eP ?_)))⟩
   rw [e]
   exact hc r hr
theorem affixes_loop {s : List Int} (d : Nat) : ∀ (out : List Af) (n p : Int), Rdr s p → p + d ≤ 1000000000000 → n = d → out.length + d ≤ 4 → (∀ a ∈ out, AfY a) →
  ∃ A p', Ev (fun k => spec_l13Affixes.l0 k out n s p) (A, p') ∧ A.length ≤ 4 ∧ (∀ a ∈ A, AfY a) ∧ p ≤ p' ∧ p' ≤ p + d := by
 induction d with
 | zero =>
  intro out n p h hp hn hl hz
  exact ⟨out, p, Ev.step (fun k => spec_l13Affixes.l0.eq_2 ..) (eN (Ev.now _)), by omega, hz, by omega, by omega⟩
 | succ d ih =>
  intro out n p h hp hn hl hz
  have h0 := h.2.2.1
  obtain ⟨g, fr, st, ad, wh, he, hg⟩ := affix13_ev h
  obtain ⟨c, hc⟩ := affixes_known s (p + 1) out n g fr st ad wh (by omega) out.length 0 false (by omega)
  have hr : Rdr s (p + 1) := h.at_ _ (by omega) (by omega)
  have ew : wrap64 (n - 1) = n - 1 := w6
  rw [ew] at hc
  cases c with
  | true =>
   obtain ⟨A, p', h1, h2, h3, h4, h5⟩ := ih out (n - 1) (p + 1) hr (by omega) (by omega) (by omega) hz
   exact ⟨A, p', Ev.step (fun k => spec_l13Affixes.l0.eq_2 ..) (eP (Ev.bind he (hc _ (by simpa using h1)))), h2, h3, by omega, by omega⟩
  | false =>
   obtain ⟨A, p', h1, h2, h3, h4, h5⟩ := ih (out ++ [⟨g, fr, st, ad, wh⟩]) (n - 1) (p + 1) hr (by omega) (by omega) (by simp; omega) (fun a ha => by
    rcases List.mem_append.1 ha with ha | ha
    ·exact hz a ha
    ·rw [List.mem_singleton.1 ha]
     exact hg)
   exact ⟨A, p', Ev.step (fun k => spec_l13Affixes.l0.eq_2 ..) (eP (Ev.bind he (hc _ (by simpa using h1)))), h2, h3, by omega, by omega⟩
theorem affixes13_ev {s : List Int} {p : Int} (h : Rdr s p) (hp : p ≤ 999999999000) : ∃ A p', Ev (fun k => spec_l13Affixes.f k s p) (A, p') ∧ A.length ≤ 4 ∧ (∀ a ∈ A, AfY a) ∧ p ≤ p' ∧ p' ≤ p + 5 := by
 have h0 := h.2.2.1
 obtain ⟨v, hv, v0, v1⟩ := pick_ev h 5 (by omega)
 obtain ⟨d, hd⟩ := Int.eq_ofNat_of_zero_le v0
 have hd4 : d ≤ 4 := by
  rcases v1 with v1 | v1 <;> omega
 obtain ⟨A, p', h1, h2, h3, h4, h5⟩ := affixes_loop (s := s) d [] v (p + 1) (h.at_ _ (by omega) (by omega)) (by omega) hd (by simpa using hd4) (by simp)
 unfold spec_l13Affixes.f
 exact ⟨A, p', Ev.bind hv h1, h2, h3, by omega, by omega⟩
theorem nodup_le {α : Type} [DecidableEq α] : ∀ (l k : List α), l.Nodup → (∀ x ∈ l, x ∈ k) → l.length ≤ k.length
 | [], _, _, _ => by simp
 | x :: l, k, hn, hs => by
  have hx := hs x (by simp)
  have hn' := List.nodup_cons.1 hn
  have := nodup_le l (k.erase x) hn'.2 (fun y hy => by
   have hne : y ≠ x := fun e => hn'.1 (e ▸ hy)
   exact (List.mem_erase_of_ne hne).2 (hs y (by simp [hy])))
  rw [List.length_erase_of_mem hx] at this
  have : 0 < k.length := List.length_pos_of_mem hx
  rw [List.length_cons]
  omega
def fillW (j : Nat) : ByteArray := (⟨#[119]⟩ : ByteArray) ++ strOfNums [(wrap64 (97 + (j : Int))) % 256]
theorem fillW_size (j : Nat) : (fillW j).size = 2 := by
 unfold fillW
 rw [size_append]
 rfl
theorem fillW_inj {i j : Nat} (hi : i < 24) (hj : j < 24) (h : fillW i = fillW j) : i = j := by
 have hb : ∀ n : Nat, n < 24 → (fillW n).data.toList = [119, UInt8.ofNat (97 + n)] := by
  intro n hn
  unfold fillW
  rw [w6, show ((97 + (n : Int)) % 256) = ((97 + n : Nat) : Int) from by omega]
  rw [ByteArray.data_append, Array.toList_append]
  show [119] ++ [UInt8.ofNat ((97 + n : Nat) : Int).toNat] = _
  rw [Int.toNat_natCast]
  rfl
 have h1 := hb i hi
 rw [h, hb j hj] at h1
 simp only [List.cons.injEq, true_and, and_true] at h1
 have h2 := congrArg UInt8.toNat h1
 simp only [UInt8.toNat_ofNat'] at h2
 omega
abbrev WZ (ws : List ByteArray) : Prop := ∀ w ∈ ws, w.size ≤ 13
theorem putL_WZ {ws : List ByteArray} {w : ByteArray} (h : WZ ws) (hw : w.size ≤ 13) : WZ (putL ws w) := by
 intro x hx
 rcases (putL_mem ws w x).1 hx with hx | hx
 ·exact h x hx
 ·rw [hx]
  exact hw
theorem ents_draw {s : List Int} (A : List Af) (ws : List ByteArray) (hl : ws.length ≤ 100) (hz : WZ ws) (d : Nat) : ∀ (i : Nat) (E : List En) (p : Int), i + d = ws.length → Rdr s p → p + d ≤ 1000000000000 → E.length = i → (∀ e ∈ E, EnZ e) →
  ∃ E' p', Ev (fun k => spec_l13Book.l2 k ws (i : Int) s p A E) (A, E', p') ∧ E'.length = ws.length ∧ (∀ e ∈ E', EnZ e) ∧ p ≤ p' ∧ p' ≤ p + d := by
 induction d with
 | zero =>
  intro i E p hi h hp hE he
  exact ⟨E, p, Ev.step (fun k => spec_l13Book.l2.eq_2 ..) (eN (Ev.now _)), by omega, he, by omega, by omega⟩
 | succ d ih =>
  intro i E p hi h hp hE he
  have h0 := h.2.2.1
  have hlt : i < ws.length := by omega
  obtain ⟨fl, hf, hf2⟩ := entry13_ev h ws[i]
  obtain ⟨E', p', h1, h2, h3, h4, h5⟩ := ih (i + 1) (E ++ [⟨ws[i], fl⟩]) (p + 1) (by omega) (h.at_ _ (by omega) (by omega)) (by omega) (by simp [hE]) (fun e he' => by
   rcases List.mem_append.1 he' with he' | he'
   ·exact he e he'
   ·rw [List.mem_singleton.1 he']
    exact ⟨hz _ (List.getElem_mem hlt), hf2⟩)
  refine ⟨E', p', Ev.step (fun k => spec_l13Book.l2.eq_2 ..) (eP (eP ?_)), h2, h3, by omega, by omega⟩
  rw [ba_get ws i hlt, w6 (n := (i : Int) + 1)]
  exact Ev.bind hf (evPos (by omega) h1)
theorem fill_loop {s : List Int} {p : Int} (A : List Af) {Q : List En → Int → Prop} (fin : ∀ ws : List ByteArray, ws.length ≤ 24 → WZ ws → ∃ E p', Ev (fun k => spec_l13Book.j2 k ws s p A) (A, E, p') ∧ Q E p') (d : Nat) : ∀ (j : Nat) (ws : List ByteArray), j + d = 24 → ws.length ≤ 24 → WZ ws → (∀ i, i < j → fillW i ∈ ws) →
  ∃ E p', Ev (fun k => spec_l13Book.l1 k ws (j : Int) s p A) (A, E, p') ∧ Q E p' := by
 have out : ∀ (j : Nat) (ws : List ByteArray), ¬ (ws.length : Int) < 24 → ws.length ≤ 24 → WZ ws → ∃ E p', Ev (fun k => spec_l13Book.l1 k ws (j : Int) s p A) (A, E, p') ∧ Q E p' := by
  intro j ws h1 h2 h3
  obtain ⟨E, p', h4, h5⟩ := fin ws (by omega) h3
  exact ⟨E, p', Ev.step (fun k => spec_l13Book.l1.eq_2 ..) (evNeg h1 h4), h5⟩
 induction d with
 | zero =>
  intro j ws hj hl hz hin
  refine out j ws ?_ hl hz
  have := nodup_le ((List.range 24).map fillW) ws (by
   rw [List.nodup_iff_pairwise_ne, List.pairwise_map]
   refine (List.nodup_range (n := 24)).imp_of_mem ?_
   intro a b ha hb hne e
   exact hne (fillW_inj (List.mem_range.1 ha) (List.mem_range.1 hb) e)) (fun x hx => by
    obtain ⟨i, hi, rfl⟩ := List.mem_map.1 hx
    exact hin i (by have := List.mem_range.1 hi; omega))
  simp only [List.length_map, List.length_range] at this
  omega
 | succ d ih =>
  intro j ws hj hl hz hin
  by_cases c : (ws.length : Int) < 24
  ·have hp := (putL_length ws (fillW j)).2
   obtain ⟨E, p', h4, h5⟩ := ih (j + 1) (putL ws (fillW j)) (by omega) (by omega) (putL_WZ hz (by rw [fillW_size]; omega)) (fun i hi => (putL_mem ws (fillW j) _).2 (by
    by_cases e : i = j
    ·exact .inr (by rw [e])
    ·exact .inl (hin i (by omega))))
   refine ⟨E, p', Ev.step (fun k => spec_l13Book.l1.eq_2 ..) (evPos c (evCall rfl (evPos ?_ (Ev.bind (put_ev ws (fillW j) (by omega)) ?_)))), h5⟩
   ·show 1 + (strOfNums [_]).size ≤ 9223372036854775807
    have : (strOfNums [(wrap64 (97 + (j : Int))) % 256]).size = 1 := rfl
    omega
   ·rw [w6 (n := (j : Int) + 1)]
    exact h4
  ·exact out j ws c hl hz
theorem book_words {s : List Int} (A : List Af) (d : Nat) : ∀ (ws : List ByteArray) (n p : Int), Rdr s p → p + 100 + 11 * d ≤ 999999999000 → n = d → ws.length + d ≤ 24 → WZ ws →
  ∃ E p', Ev (fun k => spec_l13Book.l0 k ws n s p A) (A, E, p') ∧ (E.length ≤ 24 ∧ (∀ e ∈ E, EnZ e)) ∧ p ≤ p' ∧ p' ≤ p + 200 + 11 * d := by
 induction d with
 | zero =>
  intro ws n p h hp hn hl hz
  have h0 := h.2.2.1
  obtain ⟨v, hv, v0, v1⟩ := pick_ev h 30 (by omega)
  have hr := h.at_ (p + 1) (by omega) (by omega)
  have fin : ∀ ws : List ByteArray, ws.length ≤ 24 → WZ ws → ∃ E p', Ev (fun k => spec_l13Book.j2 k ws s (p + 1) A) (A, E, p') ∧ (E.length ≤ 24 ∧ (∀ e ∈ E, EnZ e)) ∧ p ≤ p' ∧ p' ≤ p + 200 := by
   intro ws hl hz
   obtain ⟨E, p', h1, h2, h3, h4, h5⟩ := ents_draw (s := s) A ws (by omega) hz ws.length 0 [] (p + 1) (by omega) hr (by omega) rfl (by simp)
   exact ⟨E, p', Ev.step (fun k => spec_l13Book.j2.eq_2 ..) h1, ⟨by omega, h3⟩, by omega, by omega⟩
  by_cases c : v = 0
  ·have fin' : ∀ ws : List ByteArray, ws.length ≤ 24 → WZ ws → ∃ E p', Ev (fun k => spec_l13Book.j2 k ws s (p + 1) A) (A, E, p') ∧ ((E.length ≤ 24 ∧ (∀ e ∈ E, EnZ e)) ∧ p ≤ p' ∧ p' ≤ p + 200) := fin
   obtain ⟨E, p', h1, h2⟩ := fill_loop A fin' 24 0 ws (by omega) (by omega) hz (fun i hi => absurd hi (by omega))
   exact ⟨E, p', Ev.step (fun k => spec_l13Book.l0.eq_2 ..) (eN (Ev.bind hv (evPos c h1))), h2.1, h2.2.1, by have := h2.2.2; omega⟩
  ·obtain ⟨E, p', h1, h2, h3, h4⟩ := fin ws (by omega) hz
   exact ⟨E, p', Ev.step (fun k => spec_l13Book.l0.eq_2 ..) (eN (Ev.bind hv (evNeg c h1))), h2, h3, by omega⟩
 | succ d ih =>
  intro ws n p h hp hn hl hz
  have h0 := h.2.2.1
  obtain ⟨w, p1, hw, w1, w2, w3⟩ := word13_ev h (by omega)
  have hp2 := (putL_length ws w).2
  obtain ⟨E, p', h1, h2, h3, h4⟩ := ih (putL ws w) (n - 1) p1 (h.at_ _ (by omega) (by omega)) (by omega) (by omega) (by omega) (putL_WZ hz (by omega))
  refine ⟨E, p', Ev.step (fun k => spec_l13Book.l0.eq_2 ..) (eP (Ev.bind hw (Ev.bind (put_ev ws w (by omega)) ?_))), h2, by omega, by omega⟩
  rw [w6 (n := n - 1)]
  exact h1
theorem book13_ev {s : List Int} {p : Int} (h : Rdr s p) (hp : p ≤ 999999998000) : ∃ A E p', Ev (fun k => spec_l13Book.f k s p) (A, E, p') ∧ (A.length ≤ 4 ∧ (∀ a ∈ A, AfY a)) ∧ (E.length ≤ 24 ∧ (∀ e ∈ E, EnZ e)) ∧ p ≤ p' ∧ p' ≤ p + 300 := by
 have h0 := h.2.2.1
 obtain ⟨A, p1, h1, h2, h3, h4, h5⟩ := affixes13_ev h (by omega)
 have hr1 := h.at_ p1 (by omega) (by omega)
 obtain ⟨v, hv, v0, v1⟩ := pick_ev hr1 7 (by omega)
 obtain ⟨d, hd⟩ := Int.eq_ofNat_of_zero_le v0
 have hd6 : d ≤ 6 := by
  rcases v1 with v1 | v1 <;> omega
 obtain ⟨E, p', k1, k2, k3, k4⟩ := book_words (s := s) A d [] v (p1 + 1) (h.at_ _ (by omega) (by omega)) (by omega) hd (by simp; omega) (fun w hw => by cases hw)
 unfold spec_l13Book.f
 exact ⟨A, E, p', Ev.bind h1 (Ev.bind hv k1), ⟨h2, h3⟩, k2, by omega, by omega⟩
def endsL (l : List ByteArray) (c : Int) : List ByteArray := (l.filter (fun s => decide (0 < s.size) && decide (bt s 0 = c))).map (fun s => s.extract 1 s.size)
theorem endsL_cons (s : ByteArray) (l : List ByteArray) (c : Int) : endsL (s :: l) c = (if 0 < s.size ∧ bt s 0 = c then [s.extract 1 s.size] else []) ++ endsL l c := by
 unfold endsL
 rw [List.filter_cons]
 by_cases h1 : 0 < s.size
 ·by_cases h2 : bt s 0 = c
  ·simp [h1, h2]
  ·simp [h2]
 ·simp [h1]
theorem ends_loop (l : List ByteArray) (c : Int) (hl : l.length ≤ 100000) (d : Nat) : ∀ (i : Nat) (out : List ByteArray), i + d = l.length → out.length ≤ i → Ev (fun k => spec_l3Ends.l0 k l c out (i : Int)) (out ++ endsL (l.drop i) c) := by
 induction d with
 | zero =>
  intro i out hi ho
  refine Ev.step (fun k => spec_l3Ends.l0.eq_2 ..) (eN (evTo (Ev.now _) ?_))
  rw [List.drop_eq_nil_of_le (by omega)]
  simp [endsL]
 | succ d ih =>
  intro i out hi ho
  have hlt : i < l.length := by omega
  have e1 : wrap64 ((i : Int) + 1) = ((i + 1 : Nat) : Int) := w6
  refine Ev.step (fun k => spec_l3Ends.l0.eq_2 ..) (eP (eP ?_))
  rw [ba_get l i hlt, e1, List.drop_eq_getElem_cons hlt, endsL_cons]
  by_cases c1 : (l[i].size : Int) > 0
  ·refine evPos c1 (evPos c1 ?_)
   by_cases c2 : bt l[i] 0 = c
   ·rw [if_pos ⟨by omega, c2⟩]
    refine evPos c2 (eP (eP (evTo (ih (i + 1) _ (by omega) (by simp; omega)) ?_)))
    simp
   ·rw [if_neg (fun h => c2 h.2), List.nil_append]
    exact evNeg c2 (ih (i + 1) _ (by omega) (by omega))
  ·rw [if_neg (fun h => c1 (by have := h.1; omega)), List.nil_append]
   exact evNeg c1 (ih (i + 1) _ (by omega) (by omega))
theorem ends_ev (l : List ByteArray) (c : Int) (hl : l.length ≤ 100000) : Ev (fun k => spec_l3Ends.f k l c) (endsL l c) := by
 have := ends_loop l c hl l.length 0 [] (by omega) (by simp)
 rw [List.drop_zero, List.nil_append] at this
 exact this
theorem endsL_length (l : List ByteArray) (c : Int) : (endsL l c).length ≤ l.length := by
 unfold endsL
 rw [List.length_map]
 exact List.length_filter_le _ _
theorem same_loop (a b : List ByteArray) (h : a.length = b.length) (hl : a.length ≤ 100000) (d : Nat) : ∀ i : Nat, i + d = a.length → Ev (fun k => spec_l3Same.l0 k a b (i : Int)) (decide (a.drop i = b.drop i)) := by
 induction d with
 | zero =>
  intro i hi
  refine Ev.step (fun k => spec_l3Same.l0.eq_2 ..) (eN (evTo (Ev.now _) ?_))
  rw [List.drop_eq_nil_of_le (by omega), List.drop_eq_nil_of_le (by omega)]
  simp
 | succ d ih =>
  intro i hi
  have h1 : i < a.length := by omega
  have h2 : i < b.length := by omega
  refine Ev.step (fun k => spec_l3Same.l0.eq_2 ..) (eP (eP (eP ?_)))
  rw [ba_get a i h1, ba_get b i h2, w6 (n := (i : Int) + 1), List.drop_eq_getElem_cons h1, List.drop_eq_getElem_cons h2]
  by_cases c : a[i] = b[i]
  ·refine evPos (by rw [c]) (evTo (ih (i + 1) (by omega)) ?_)
   rw [c, decide_eq_decide]
   exact ⟨fun h => by rw [h], fun h => (List.cons.inj h).2⟩
  ·exact evNeg (fun e => c ((toList_iff _ _).1 e)) (evTo (Ev.now _) (decide_eq_false (fun e => c (List.cons.inj e).1)).symm)
theorem same_ev (a b : List ByteArray) (ha : a.length ≤ 100000) : Ev (fun k => spec_l3Same.f k a b) (decide (a = b)) := by
 unfold spec_l3Same.f
 by_cases h : a.length = b.length
 ·refine eP ?_
  have := same_loop a b h ha a.length 0 (by omega)
  rw [List.drop_zero, List.drop_zero] at this
  exact this
 ·refine eN (evTo (Ev.now _) ?_)
  rw [decide_eq_false]
  rintro rfl
  exact h rfl
theorem long_loop (l : List ByteArray) (hl : l.length ≤ 100000) (d : Nat) : ∀ (i : Nat) (v : Int), i + d = l.length → ∃ r, Ev (fun k => spec_l3Long.l0 k l v (i : Int)) r := by
 induction d with
 | zero =>
  intro i v hi
  exact ⟨v, Ev.step (fun k => spec_l3Long.l0.eq_2 ..) (eN (Ev.now _))⟩
 | succ d ih =>
  intro i v hi
  have e1 : wrap64 ((i : Int) + 1) = ((i + 1 : Nat) : Int) := w6
  by_cases c : ((rdOf ByteArray.empty l (i : Int)).size : Int) > v
  ·obtain ⟨r, hr⟩ := ih (i + 1) ((rdOf ByteArray.empty l (i : Int)).size : Int) (by omega)
   refine ⟨r, Ev.step (fun k => spec_l3Long.l0.eq_2 ..) (eP (eP (evPos c ?_)))⟩
   rw [e1]
   exact hr
  ·obtain ⟨r, hr⟩ := ih (i + 1) v (by omega)
   refine ⟨r, Ev.step (fun k => spec_l3Long.l0.eq_2 ..) (eP (eP (evNeg c ?_)))⟩
   rw [e1]
   exact hr
theorem long_ev (l : List ByteArray) (hl : l.length ≤ 100000) : ∃ r, Ev (fun k => spec_l3Long.f k l) r := long_loop l hl l.length 0 0 (by omega)
theorem less_loop (a b : List ByteArray) (ha : a.length ≤ 100000) (d : Nat) : ∀ i : Nat, i + d = a.length → ∃ r, Ev (fun k => spec_l3Less.l0 k a b (i : Int)) r := by
 induction d with
 | zero =>
  intro i hi
  exact ⟨_, Ev.step (fun k => spec_l3Less.l0.eq_2 ..) (eN (Ev.step (fun k => spec_l3Less.j1.eq_2 ..) (evNeg (by simp) (Ev.now _))))⟩
 | succ d ih =>
  intro i hi
  have e1 : wrap64 ((i : Int) + 1) = ((i + 1 : Nat) : Int) := w6
  by_cases c : (i : Int) < (b.length : Int)
  ·by_cases c2 : (rdOf ByteArray.empty a (i : Int)).toList = (rdOf ByteArray.empty b (i : Int)).toList
   ·obtain ⟨r, hr⟩ := ih (i + 1) (by omega)
    refine ⟨r, Ev.step (fun k => spec_l3Less.l0.eq_2 ..) (eP (Ev.step (fun k => spec_l3Less.j1.eq_2 ..) (evPos (decide_eq_true c) (eP (eP (eP (evPos c2 ?_)))))))⟩
    rw [e1]
    exact hr
   ·exact ⟨_, Ev.step (fun k => spec_l3Less.l0.eq_2 ..) (eP (Ev.step (fun k => spec_l3Less.j1.eq_2 ..) (evPos (decide_eq_true c) (eP (eP (eP (evNeg c2 (Ev.now _))))))))⟩
  ·exact ⟨_, Ev.step (fun k => spec_l3Less.l0.eq_2 ..) (eP (Ev.step (fun k => spec_l3Less.j1.eq_2 ..) (evNeg (by rw [decide_eq_false c]; simp) (Ev.now _))))⟩
theorem less_ev (a b : List ByteArray) (ha : a.length ≤ 100000) (hb : b.length ≤ 100000) : ∃ r, Ev (fun k => spec_l3Less.f k a b) r := by
 obtain ⟨x, hx⟩ := long_ev a ha
 obtain ⟨y, hy⟩ := long_ev b hb
 unfold spec_l3Less.f
 by_cases c : x = y
 ·obtain ⟨r, hr⟩ := less_loop a b ha a.length 0 (by omega)
  exact ⟨r, Ev.bind hx (Ev.bind hy (evPos c hr))⟩
 ·exact ⟨_, Ev.bind hx (Ev.bind hy (evNeg c (Ev.bind hx (Ev.bind hy (Ev.now _)))))⟩
theorem rls_get (l : List (List ByteArray)) (i : Nat) (h : i < l.length) : rd_L2 l (i : Int) = l[i] := by simp [rd_L2, List.getD_eq_getElem?_getD, h]
abbrev RowsZ (l : List (List ByteArray)) : Prop := ∀ x ∈ l, x.length ≤ 100000
theorem sort_put (all out : List (List ByteArray)) (i : Nat) (hi : i < all.length) (ho : out.length = i) (hl : all.length ≤ 100000) {Q : List (List ByteArray) → Prop}
  (next : ∀ out' : List (List ByteArray), out'.length = i + 1 → (∀ x ∈ out', x ∈ out ∨ x = all[i]) → ∃ r, Ev (fun k => spec_l3Sort.l0 k all out' ((i + 1 : Nat) : Int)) r ∧ Q r) (q : Nat) (hq : q ≤ out.length) : ∃ r, Ev (fun k => spec_l3Sort.j2 k all out (i : Int) (q : Int) false) r ∧ Q r := by
 obtain ⟨r, hr, hQ⟩ := next (([] ++ out.take q ++ [all[i]]) ++ out.drop q) (by simp; omega) (fun x hx => by
  simp only [List.nil_append, List.mem_append, List.mem_singleton] at hx
  rcases hx with (hx | hx) | hx
  ·exact .inl (List.mem_of_mem_take hx)
  ·exact .inr hx
  ·exact .inl (List.mem_of_mem_drop hx))
 refine ⟨r, Ev.step (fun k => spec_l3Sort.j2.eq_2 ..) (evNeg (by simp) (evCall rfl (eP (eP (evCall rfl (evPos (by simp; omega) (evCall rfl (eP (eP (evCall rfl (evPos (by simp; omega) (evCall rfl (evCall rfl (evPos (by simp; omega) ?_)))))))))))))), hQ⟩
 rw [rls_get all i hi, Int.toNat_natCast, w6 (n := (i : Int) + 1)]
 exact hr
theorem sort_find (all out : List (List ByteArray)) (hz : RowsZ all) (hz2 : RowsZ out) (i : Nat) (hi : i < all.length) (ho : out.length = i) (hl : all.length ≤ 100000) {Q : List (List ByteArray) → Prop}
  (next : ∀ out' : List (List ByteArray), out'.length = i + 1 → (∀ x ∈ out', x ∈ out ∨ x = all[i]) → ∃ r, Ev (fun k => spec_l3Sort.l0 k all out' ((i + 1 : Nat) : Int)) r ∧ Q r) (q : Nat) : q ≤ out.length → ∃ r, Ev (fun k => spec_l3Sort.l1 k all out (i : Int) (q : Int)) r ∧ Q r := by
 induction q with
 | zero =>
  intro hq
  obtain ⟨r, hr, hQ⟩ := sort_put all out i hi ho hl next 0 (by omega)
  exact ⟨r, Ev.step (fun k => spec_l3Sort.l1.eq_2 ..) (evNeg (by omega) hr), hQ⟩
 | succ q ih =>
  intro hq
  have e1 : wrap64 (((q + 1 : Nat) : Int) - 1) = (q : Int) := by rw [w6]; omega
  have hqo : q < out.length := by omega
  obtain ⟨b, hb⟩ := less_ev all[i] out[q] (hz _ (List.getElem_mem hi)) (hz2 _ (List.getElem_mem hqo))
  have start : ∀ r, Ev (fun k => spec_l3Sort.j2 k all out (i : Int) ((q + 1 : Nat) : Int) b) r → Ev (fun k => spec_l3Sort.l1 k all out (i : Int) ((q + 1 : Nat) : Int)) r := by
   intro r hr
   refine Ev.step (fun k => spec_l3Sort.l1.eq_2 ..) (eP (eP (eP ?_)))
   rw [e1, rls_get all i hi, rls_get out q hqo]
   exact eP (eP (Ev.bind hb hr))
  cases b with
  | true =>
   obtain ⟨r, hr, hQ⟩ := ih (by omega)
   refine ⟨r, start r (Ev.step (fun k => spec_l3Sort.j2.eq_2 ..) (evPos rfl ?_)), hQ⟩
   rw [e1]
   exact hr
  | false =>
   obtain ⟨r, hr, hQ⟩ := sort_put all out i hi ho hl next (q + 1) (by omega)
   exact ⟨r, start r hr, hQ⟩
theorem sort_loop (all : List (List ByteArray)) (hz : RowsZ all) (hl : all.length ≤ 100000) (d : Nat) : ∀ (i : Nat) (out : List (List ByteArray)), i + d = all.length → out.length = i → (∀ x ∈ out, x ∈ all) →
  ∃ r, Ev (fun k => spec_l3Sort.l0 k all out (i : Int)) r ∧ (r.length = all.length ∧ ∀ x ∈ r, x ∈ all) := by
 induction d with
 | zero =>
  intro i out hi ho hm
  exact ⟨out, Ev.step (fun k => spec_l3Sort.l0.eq_2 ..) (eN (Ev.now _)), by omega, hm⟩
 | succ d ih =>
  intro i out hi ho hm
  have hlt : i < all.length := by omega
  obtain ⟨r, hr, hQ⟩ := sort_find all out hz (fun x hx => hz x (hm x hx)) i hlt ho hl (fun out' h1 h2 => ih (i + 1) out' (by omega) h1 (fun x hx => by
   rcases h2 x hx with h | h
   ·exact hm x h
   ·rw [h]
    exact List.getElem_mem hlt)) out.length (Nat.le_refl _)
  exact ⟨r, Ev.step (fun k => spec_l3Sort.l0.eq_2 ..) (evPos (by omega) hr), hQ⟩
theorem sort_ev (all : List (List ByteArray)) (hz : RowsZ all) (hl : all.length ≤ 100000) : ∃ r, Ev (fun k => spec_l3Sort.f k all) r ∧ (r.length = all.length ∧ ∀ x ∈ r, x ∈ all) := sort_loop all hz hl all.length 0 [] (by omega) rfl (by simp)
theorem at_loop (all : List (List ByteArray)) (x : List ByteArray) (hz : RowsZ all) (hl : all.length ≤ 100000) (d : Nat) : ∀ i : Nat, i + d = all.length → ∃ j : Int, Ev (fun k => spec_l3At.l0 k all x (i : Int)) j := by
 induction d with
 | zero =>
  intro i hi
  exact ⟨-1, Ev.step (fun k => spec_l3At.l0.eq_2 ..) (eN (Ev.now _))⟩
 | succ d ih =>
  intro i hi
  have hlt : i < all.length := by omega
  have hs := same_ev all[i] x (hz _ (List.getElem_mem hlt))
  obtain ⟨j, hj⟩ := ih (i + 1) (by omega)
  by_cases c : all[i] = x
  ·refine ⟨i, Ev.step (fun k => spec_l3At.l0.eq_2 ..) (eP (eP ?_))⟩
   rw [rls_get all i hlt]
   exact Ev.bind hs (evPos (decide_eq_true c) (Ev.now _))
  ·refine ⟨j, Ev.step (fun k => spec_l3At.l0.eq_2 ..) (eP (eP ?_))⟩
   rw [rls_get all i hlt, w6 (n := (i : Int) + 1)]
   exact Ev.bind hs (evNeg (by rw [decide_eq_false c]; simp) hj)
def chainL (l : List ByteArray) (p : List Int) : List ByteArray := p.foldl endsL l
theorem ends_mem {l : List ByteArray} {c : Int} {t : ByteArray} (h : t ∈ endsL l c) : ∃ w ∈ l, bytesOf w = c :: bytesOf t := by
 unfold endsL at h
 obtain ⟨w, hw, rfl⟩ := List.mem_map.1 h
 obtain ⟨h1, h2⟩ := List.mem_filter.1 hw
 simp only [Bool.and_eq_true, decide_eq_true_eq] at h2
 refine ⟨w, h1, ?_⟩
 have := bytes_drop w 0 (by omega) (by omega)
 rw [show (0 : Int).toNat = 0 from rfl, List.drop_zero, show ((0 : Int) + 1).toNat = 1 from rfl, h2.2] at this
 rw [bytes_take_all]
 exact this
theorem chain_mem : ∀ (p : List Int) (l : List ByteArray) (t : ByteArray), t ∈ chainL l p → ∃ w ∈ l, bytesOf w = p ++ bytesOf t := by
 intro p
 induction p with
 | nil => exact fun l t h => ⟨t, h, rfl⟩
 | cons c p ih =>
  intro l t h
  obtain ⟨u, hu, h1⟩ := ih (endsL l c) t h
  obtain ⟨w, hw, h2⟩ := ends_mem hu
  exact ⟨w, hw, by rw [h2, h1]; rfl⟩
theorem chain_length (p : List Int) : ∀ l : List ByteArray, (chainL l p).length ≤ l.length := by
 induction p with
 | nil => exact fun l => Nat.le_refl _
 | cons c p ih => exact fun l => Nat.le_trans (ih (endsL l c)) (endsL_length l c)
theorem chain_snoc (l : List ByteArray) (p : List Int) (c : Int) : chainL l (p ++ [c]) = endsL (chainL l p) c := by
 unfold chainL
 rw [List.foldl_append]
 rfl
def begs (l : List ByteArray) : List (List Int) := l.flatMap (fun w => (List.range (w.size + 1)).map (fun n => (bytesOf w).take n))
theorem begs_length (l : List ByteArray) (n : Nat) (h : ∀ w ∈ l, w.size ≤ n) : (begs l).length ≤ (n + 1) * l.length := by
 induction l with
 | nil => simp [begs]
 | cons w l ih =>
  have h1 := ih (fun x hx => h x (List.mem_cons_of_mem _ hx))
  have h2 := h w List.mem_cons_self
  unfold begs at h1 ⊢
  rw [List.flatMap_cons, List.length_append, List.length_map, List.length_range, List.length_cons, Nat.mul_add]
  omega
structure AllOk (ws : List ByteArray) (out : List (List ByteArray)) : Prop where
 nodup : out.Nodup
 from_ : ∀ x ∈ out, ∃ p, x = chainL ws p ∧ (p = [] ∨ x ≠ [])
theorem chain_begs {ws : List ByteArray} {p : List Int} (h : p = [] ∨ chainL ws p ≠ []) : p ∈ ([] : List Int) :: begs ws := by
 rcases h with rfl | h
 ·exact List.mem_cons_self
 ·obtain ⟨t, ht⟩ := List.exists_mem_of_ne_nil _ h
  obtain ⟨w, hw, hb⟩ := chain_mem p ws t ht
  refine List.mem_cons_of_mem _ (List.mem_flatMap.2 ⟨w, hw, List.mem_map.2 ⟨p.length, List.mem_range.2 ?_, ?_⟩⟩)
  ·rw [← bytesOf_length, hb, List.length_append]
   omega
  ·rw [hb, List.take_left]
theorem allOk_length {ws : List ByteArray} {out : List (List ByteArray)} (h : AllOk ws out) (hl : ws.length ≤ 300) (hz : ∀ w ∈ ws, w.size ≤ 12) : out.length ≤ 4000 := by
 have h1 := nodup_le out ((([] : List Int) :: begs ws).map (chainL ws)) h.nodup (fun x hx => by
  obtain ⟨p, rfl, hp⟩ := h.from_ x hx
  exact List.mem_map_of_mem (chain_begs hp))
 have h2 := begs_length ws 12 hz
 rw [List.length_map, List.length_cons] at h1
 omega
theorem allOk_rows {ws : List ByteArray} {out : List (List ByteArray)} (h : AllOk ws out) (hl : ws.length ≤ 300) : RowsZ out := by
 intro x hx
 obtain ⟨p, rfl, _⟩ := h.from_ x hx
 have := chain_length p ws
 omega
theorem allOk_put {ws : List ByteArray} {out : List (List ByteArray)} (h : AllOk ws out) (i : Nat) (hi : i < out.length) (c : Int) (hne : endsL out[i] c ≠ []) (hn : endsL out[i] c ∉ out) : AllOk ws (out ++ [endsL out[i] c]) := by
 obtain ⟨p, hp, _⟩ := h.from_ _ (List.getElem_mem hi)
 refine ⟨?_, fun x hx => ?_⟩
 ·rw [List.nodup_append]
  refine ⟨h.nodup, by simp, fun a ha b hb => ?_⟩
  rw [List.mem_singleton.1 hb]
  rintro rfl
  exact hn ha
 ·rcases List.mem_append.1 hx with hx | hx
  ·exact h.from_ x hx
  ·rw [List.mem_singleton.1 hx]
   exact ⟨p ++ [c], by rw [chain_snoc, ← hp], .inr hne⟩
theorem all_known (ws : List ByteArray) (out : List (List ByteArray)) (h : RowsZ out) (hl : out.length ≤ 5000) (i : Nat) (c : Int) (x : List ByteArray) (d : Nat) : ∀ (j : Nat) (b : Bool), j + d = out.length → ∃ q : Bool, (q = false → b = false ∧ x ∉ out.drop j) ∧
  ∀ r, Ev (fun k => if q = true then spec_l3All.l1 k out (i : Int) ((c + 1) % 256) else spec_l3All.l1 k (out ++ [x]) (i : Int) ((c + 1) % 256)) r → Ev (fun k => spec_l3All.l2 k out (i : Int) c x b (j : Int)) r := by
 induction d with
 | zero =>
  intro j b hj
  refine ⟨b, fun e => ⟨e, by rw [List.drop_eq_nil_of_le (by omega)]; simp⟩, fun r hr => Ev.step (fun k => spec_l3All.l2.eq_2 ..) (eN ?_)⟩
  cases b with
  | true => exact evPos rfl (by simpa using hr)
  | false => exact evNeg (by simp) (eP (by simpa using hr))
 | succ d ih =>
  intro j b hj
  have hlt : j < out.length := by omega
  have e1 : wrap64 ((j : Int) + 1) = ((j + 1 : Nat) : Int) := w6
  cases b with
  | true =>
   refine ⟨true, (fun e => by cases e), fun r hr => Ev.step (fun k => spec_l3All.l2.eq_2 ..) (eP (evPos rfl (by simpa using hr)))⟩
  | false =>
   obtain ⟨q, hq1, hq2⟩ := ih (j + 1) (decide (out[j] = x)) (by omega)
   refine ⟨q, fun e => ⟨rfl, ?_⟩, fun r hr => Ev.step (fun k => spec_l3All.l2.eq_2 ..) (eP (evNeg (by simp) (eP ?_)))⟩
   ·rw [List.drop_eq_getElem_cons hlt, List.mem_cons]
    have := hq1 e
    rintro (h | h)
    ·have h2 := of_decide_eq_false this.1
     exact h2 h.symm
    ·exact this.2 h
   ·rw [rls_get out j hlt, e1]
    exact Ev.bind (same_ev out[j] x (h _ (List.getElem_mem hlt))) (hq2 r hr)
theorem all_letters {ws : List ByteArray} (hl : ws.length ≤ 300) (hz : ∀ w ∈ ws, w.size ≤ 12) (i : Nat) {Q : List (List ByteArray) → Prop} (next : ∀ out, AllOk ws out → i < out.length → ∃ r, Ev (fun k => spec_l3All.l0 k out ((i + 1 : Nat) : Int)) r ∧ Q r) (d : Nat) : ∀ (c : Nat) (out : List (List ByteArray)), 97 ≤ c → c + d = 123 → AllOk ws out → i < out.length →
  ∃ r, Ev (fun k => spec_l3All.l1 k out (i : Int) (c : Int)) r ∧ Q r := by
 induction d with
 | zero =>
  intro c out h1 h2 ho hi
  have hlen := allOk_length ho hl hz
  obtain ⟨r, hr, hQ⟩ := next out ho hi
  refine ⟨r, Ev.step (fun k => spec_l3All.l1.eq_2 ..) (eN ?_), hQ⟩
  rw [w6 (n := (i : Int) + 1)]
  exact hr
 | succ d ih =>
  intro c out h1 h2 ho hi
  have hlen := allOk_length ho hl hz
  have hrows := allOk_rows ho hl
  have ec : ((c : Int) + 1) % 256 = ((c + 1 : Nat) : Int) := by omega
  have he := ends_ev out[i] (c : Int) (hrows _ (List.getElem_mem hi))
  obtain ⟨q, hq1, hq2⟩ := all_known ws out hrows (by omega) i (c : Int) (endsL out[i] (c : Int)) out.length 0 (((endsL out[i] (c : Int)).length : Int) == 0) (by omega)
  rw [ec] at hq2
  have start : ∀ r, Ev (fun k => spec_l3All.l2 k out (i : Int) (c : Int) (endsL out[i] (c : Int)) (((endsL out[i] (c : Int)).length : Int) == 0) 0) r → Ev (fun k => spec_l3All.l1 k out (i : Int) (c : Int)) r := by
   intro r hr
   refine Ev.step (fun k => spec_l3All.l1.eq_2 ..) (eP (eP (eP ?_)))
   rw [rls_get out i hi]
   exact Ev.bind he hr
  cases q with
  | true =>
   obtain ⟨r, hr, hQ⟩ := ih (c + 1) out (by omega) (by omega) ho hi
   exact ⟨r, start r (hq2 r (by simpa using hr)), hQ⟩
  | false =>
   obtain ⟨g1, g2⟩ := hq1 rfl
   rw [List.drop_zero] at g2
   have hne : endsL out[i] (c : Int) ≠ [] := by
    intro e
    rw [e] at g1
    simp at g1
   obtain ⟨r, hr, hQ⟩ := ih (c + 1) (out ++ [endsL out[i] (c : Int)]) (by omega) (by omega) (allOk_put ho i hi c hne g2) (by simp; omega)
   exact ⟨r, start r (hq2 r (by simpa using hr)), hQ⟩
theorem all_loop {ws : List ByteArray} (hl : ws.length ≤ 300) (hz : ∀ w ∈ ws, w.size ≤ 12) (d : Nat) : ∀ (i : Nat) (out : List (List ByteArray)), i + d = 5000 → AllOk ws out → ∃ r, Ev (fun k => spec_l3All.l0 k out (i : Int)) r ∧ (r.length ≤ 4000 ∧ ∀ x ∈ r, ∃ p, x = chainL ws p) := by
 induction d with
 | zero =>
  intro i out hi ho
  have hlen := allOk_length ho hl hz
  obtain ⟨r, hr, h1, h2⟩ := sort_ev out (allOk_rows ho hl) (by omega)
  exact ⟨r, Ev.step (fun k => spec_l3All.l0.eq_2 ..) (eN (Ev.bind hr (Ev.now _))), by omega, fun x hx => by obtain ⟨p, hp, _⟩ := ho.from_ x (h2 x hx); exact ⟨p, hp⟩⟩
 | succ d ih =>
  intro i out hi ho
  have hlen := allOk_length ho hl hz
  by_cases c : i < out.length
  ·obtain ⟨r, hr, hQ⟩ := all_letters hl hz i (fun out' h1 h2 => ih (i + 1) out' (by omega) h1) 26 97 out (by omega) (by omega) ho c
   exact ⟨r, Ev.step (fun k => spec_l3All.l0.eq_2 ..) (evPos (by omega) hr), hQ⟩
  ·obtain ⟨r, hr, h1, h2⟩ := sort_ev out (allOk_rows ho hl) (by omega)
   exact ⟨r, Ev.step (fun k => spec_l3All.l0.eq_2 ..) (eN (Ev.bind hr (Ev.now _))), by omega, fun x hx => by obtain ⟨p, hp, _⟩ := ho.from_ x (h2 x hx); exact ⟨p, hp⟩⟩
theorem all_ev (ws : List ByteArray) (hl : ws.length ≤ 300) (hz : ∀ w ∈ ws, w.size ≤ 12) : ∃ r, Ev (fun k => spec_l3All.f k ws) r ∧ (r.length ≤ 4000 ∧ ∀ x ∈ r, ∃ p, x = chainL ws p) :=
 all_loop hl hz 5000 0 [ws] (by omega) ⟨by simp, fun x hx => by rw [List.mem_singleton.1 hx]; exact ⟨[], rfl, .inl rfl⟩⟩
theorem wsB_facts {l : List ByteArray} (h : wsB l = true) : l.length ≤ 300 ∧ ∀ s ∈ l, wordB s = true := by
 simp only [wsB, Bool.and_eq_true, decide_eq_true_eq] at h
 refine ⟨by omega, ?_⟩
 have := wGo_words l l.length 0 (by omega) h.1
 rwa [List.drop_zero] at this
theorem of_letters (A : List (List ByteArray)) (hA : A.length ≤ 400) (hz : RowsZ A) (out : List St) (b : Bool) (i : Nat) (hi : i < A.length) (ho : out.length = i) {Q : List St × Bool → Prop}
  (next : ∀ es : List Eg, es.length ≤ 26 → ∃ r, Ev (fun k => spec_MachineOf.l0 k A (out ++ [⟨b, es⟩]) ((i + 1 : Nat) : Int)) r ∧ Q r) (d : Nat) : ∀ (c : Nat) (es : List Eg), 97 ≤ c → c + d = 123 → es.length + d ≤ 26 →
  ∃ r, Ev (fun k => spec_MachineOf.l1 k A out (i : Int) (c : Int) b es) r ∧ Q r := by
 induction d with
 | zero =>
  intro c es h1 h2 h3
  obtain ⟨r, hr, hQ⟩ := next es (by omega)
  refine ⟨r, Ev.step (fun k => spec_MachineOf.l1.eq_2 ..) (eN (eP ?_)), hQ⟩
  rw [w6 (n := (i : Int) + 1)]
  exact hr
 | succ d ih =>
  intro c es h1 h2 h3
  have ec : ((c : Int) + 1) % 256 = ((c + 1 : Nat) : Int) := by omega
  have he := ends_ev A[i] (c : Int) (hz _ (List.getElem_mem hi))
  by_cases c1 : ((endsL A[i] (c : Int)).length : Int) > 0
  ·obtain ⟨j, hj⟩ := at_loop A (endsL A[i] (c : Int)) hz (by omega) A.length 0 (by omega)
   obtain ⟨r, hr, hQ⟩ := ih (c + 1) (es ++ [⟨wrap64 (c : Int), j⟩]) (by omega) (by omega) (by simp; omega)
   refine ⟨r, Ev.step (fun k => spec_MachineOf.l1.eq_2 ..) (eP (eP (eP ?_))), hQ⟩
   rw [rls_get A i hi]
   refine Ev.bind he (evPos c1 (Ev.bind hj (eP ?_)))
   rw [ec]
   exact hr
  ·obtain ⟨r, hr, hQ⟩ := ih (c + 1) es (by omega) (by omega) (by omega)
   refine ⟨r, Ev.step (fun k => spec_MachineOf.l1.eq_2 ..) (eP (eP (eP ?_))), hQ⟩
   rw [rls_get A i hi]
   refine Ev.bind he (evNeg c1 ?_)
   rw [ec]
   exact hr
abbrev MZ (m : List St) : Prop := m.length ≤ 500 ∧ ∀ s ∈ m, s.f1.length ≤ 100
theorem of_loop (A : List (List ByteArray)) (hA : A.length ≤ 400) (hz : RowsZ A) (d : Nat) : ∀ (i : Nat) (out : List St), i + d = A.length → out.length = i → (∀ s ∈ out, s.f1.length ≤ 26) → ∃ r, Ev (fun k => spec_MachineOf.l0 k A out (i : Int)) r ∧ (r.1.length ≤ 400 ∧ ∀ s ∈ r.1, s.f1.length ≤ 26) := by
 induction d with
 | zero =>
  intro i out hi ho hs
  exact ⟨(out, true), Ev.step (fun k => spec_MachineOf.l0.eq_2 ..) (eN (Ev.now _)), by dsimp only; omega, hs⟩
 | succ d ih =>
  intro i out hi ho hs
  have hlt : i < A.length := by omega
  have go : ∀ b : Bool, ∃ r, Ev (fun k => spec_MachineOf.l1 k A out (i : Int) ((97 : Nat) : Int) b []) r ∧ (r.1.length ≤ 400 ∧ ∀ s ∈ r.1, s.f1.length ≤ 26) := fun b =>
   of_letters A hA hz out b i hlt ho (fun es he => ih (i + 1) (out ++ [⟨b, es⟩]) (by omega) (by simp; omega) (fun s h => by
    rcases List.mem_append.1 h with h | h
    ·exact hs s h
    ·rw [List.mem_singleton.1 h]
     exact he)) 26 97 [] (by omega) (by omega) (by simp)
  by_cases c : ((rd_L2 A (i : Int)).length : Int) > 0
  ·obtain ⟨r, hr, hQ⟩ := go ((rdOf ByteArray.empty (rd_L2 A (i : Int)) 0).toList == ([] : List UInt8))
   exact ⟨r, Ev.step (fun k => spec_MachineOf.l0.eq_2 ..) (eP (eP (evPos c (evPos (by omega) hr)))), hQ⟩
  ·obtain ⟨r, hr, hQ⟩ := go false
   exact ⟨r, Ev.step (fun k => spec_MachineOf.l0.eq_2 ..) (eP (eP (evNeg c hr))), hQ⟩
theorem machineOf_ev (ws : List ByteArray) (hl : ws.length ≤ 1048576) (he : ∀ s ∈ ws, s.size ≤ 1048576) : ∃ r, Ev (fun k => spec_MachineOf.f k ws) r ∧ (r.1.length ≤ 400 ∧ ∀ s ∈ r.1, s.f1.length ≤ 26) := by
 have hw := l3Words_ev ws hl he
 unfold spec_MachineOf.f
 cases e : wsB ws with
 | false =>
  rw [e] at hw
  exact ⟨([], false), Ev.bind hw (evNeg (by simp) (Ev.now _)), by simp⟩
 | true =>
  rw [e] at hw
  obtain ⟨h1, h2⟩ := wsB_facts e
  obtain ⟨A, hA, hA1, hA2⟩ := all_ev ws h1 (fun w hw => (wordB_size (h2 w hw)).2)
  by_cases c : (A.length : Int) > 400
  ·exact ⟨([], false), Ev.bind hw (evPos rfl (Ev.bind hA (evPos c (Ev.now _)))), by simp⟩
  ·have hz : RowsZ A := fun x hx => by
    obtain ⟨p, rfl⟩ := hA2 x hx
    have := chain_length p ws
    omega
   obtain ⟨r, hr, hQ⟩ := of_loop A (by omega) hz A.length 0 [] (by omega) rfl (by simp)
   exact ⟨r, Ev.bind hw (evPos rfl (Ev.bind hA (evNeg c hr))), hQ⟩
theorem begins_spec (s p : ByteArray) : spec_l2Begins.f s p = some (begB s p) := by
 unfold spec_l2Begins.f
 by_cases c : (s.size : Int) ≥ (p.size : Int)
 ·rw [if_pos c, if_pos (by omega), if_pos (by omega), toList_beq]
  try rw [Int.toNat_natCast]
  simp [begB]
  omega
 ·rw [if_neg c]
  simp [begB]
  omega
theorem ends_spec (s p : ByteArray) (h : s.size ≤ 1407374883512320) : spec_l2Ends.f s p = some (endB s p) := by
 unfold spec_l2Ends.f
 by_cases c : (s.size : Int) ≥ (p.size : Int)
 ·rw [if_pos c, w6, if_pos (by omega), if_pos (by omega), toList_beq, show ((s.size : Int) - (p.size : Int)).toNat = s.size - p.size from by omega]
  simp [endB]
  omega
 ·rw [if_neg c]
  simp [endB]
  omega
theorem l2Do_spec (g : ByteArray) (fr : Bool) (st ad wh stem : ByteArray) (h1 : st.size ≤ wh.size) (h2 : ad.size ≤ 140737488351232) (h3 : stem.size ≤ 140737488351232) :
  Ev (fun k => spec_l2Do.f k g fr st ad wh stem) (outW (doB fr st ad wh stem)) := by
 unfold spec_l2Do.f
 cases fr with
 | true =>
  refine evPos rfl (evCall (begins_spec _ _) ?_)
  by_cases c : begB stem wh = true
  ·have hs := begB_size c
   have hz : (stem.extract st.size stem.size).size = stem.size - st.size := size_extract _ _ _ (by omega) (Nat.le_refl _)
   refine evPos c (eP (eP ?_))
   try rw [Int.toNat_natCast]
   refine eP (Ev.bind (l1Word_spec' _ (by rw [size_append]; omega)) (evTo (Ev.now _) ?_))
   simp [doB, c, outW]
  ·exact evNeg c (evTo (Ev.now _) (by simp [doB, c, outW]))
 | false =>
  refine evNeg (by simp) (evCall (ends_spec _ _ (by omega)) ?_)
  by_cases c : endB stem wh = true
  ·have hs := endB_size c
   have hz : (stem.extract 0 (stem.size - st.size)).size = stem.size - st.size := by
    rw [size_extract _ _ _ (by omega) (by omega)]
    omega
   refine evPos c ?_
   rw [w6, show ((stem.size : Int) - (st.size : Int)).toNat = stem.size - st.size from by omega]
   refine eP (eP (eP (Ev.bind (l1Word_spec' _ (by rw [size_append]; omega)) (evTo (Ev.now _) ?_))))
   simp [doB, c, outW]
  ·exact evNeg c (evTo (Ev.now _) (by simp [doB, c, outW]))
def hasFl (f g : ByteArray) : Bool := (bytesOf f).contains (bt g 0)
theorem bytes_one {g : ByteArray} (h : g.size = 1) : bytesOf g = [bt g 0] := by
 have h1 := bytes_drop g 0 (by omega) (by omega)
 have h2 : ((bytesOf g).drop ((0 : Int) + 1).toNat) = [] := List.drop_eq_nil_of_le (by rw [bytesOf_length]; omega)
 rw [h2] at h1
 simpa using h1
theorem bytes_at {f : ByteArray} (i : Nat) (h : i < f.size) : bytesOf (f.extract i (i + 1)) = [bt f i] := by
 have h1 := bytes_drop f i (by omega) (by omega)
 rw [Int.toNat_natCast] at h1
 rw [bytes_extract, h1]
 simp
theorem has_loop (f g : ByteArray) (hf : f.size ≤ 1048576) (hg : g.size = 1) (d : Nat) : ∀ i : Nat, i + d = f.size → Ev (fun k => spec_l2Has.l0 k f g (i : Int)) (((bytesOf f).drop i).contains (bt g 0)) := by
 induction d with
 | zero =>
  intro i hi
  refine Ev.step (fun k => spec_l2Has.l0.eq_2 _ _ _ _) (eN (evTo (Ev.now _) ?_))
  rw [List.drop_eq_nil_of_le (by rw [bytesOf_length]; omega)]
  rfl
 | succ d ih =>
  intro i hi
  have e : wrap64 ((i : Int) + 1) = ((i + 1 : Nat) : Int) := w6
  refine Ev.step (fun k => spec_l2Has.l0.eq_2 _ _ _ _) ?_
  rw [e]
  refine eP (eP (eP (eP ?_)))
  rw [Int.toNat_natCast, Int.toNat_natCast]
  have h1 := bytes_drop f i (by omega) (by omega)
  rw [Int.toNat_natCast, show ((i : Int) + 1).toNat = i + 1 from by omega] at h1
  rw [h1, List.contains_cons]
  by_cases c : bt f i = bt g 0
  ·refine evPos ((toList_iff _ _).2 (bytes_inj (by rw [bytes_at i (by omega), bytes_one hg, c]))) (evTo (Ev.now _) ?_)
   simp [c]
  ·refine evNeg (fun h => c ?_) (evTo (ih (i + 1) (by omega)) ?_)
   ·have := congrArg bytesOf ((toList_iff _ _).1 h)
    rw [bytes_at i (by omega), bytes_one hg] at this
    simpa using this
   ·have : (bt g 0 == bt f i) = false := by simpa using fun h => c h.symm
    rw [this, Bool.false_or]
theorem has_ev (f g : ByteArray) (hf : f.size ≤ 1048576) (hg : g.size = 1) : Ev (fun k => spec_l2Has.f k f g) (hasFl f g) := by
 have := has_loop f g hf hg f.size 0 (by omega)
 rw [List.drop_zero] at this
 exact this
abbrev AfOk (a : Af) : Prop := affOk a.f0 a.f1 a.f2 a.f3 a.f4 = true
def doA (a : Af) (s : ByteArray) : Option ByteArray := (doB a.f1 a.f2 a.f3 a.f4 s).filter wordB
theorem doA_word {a : Af} {s x : ByteArray} (h : doA a s = some x) : wordB x = true := by
 unfold doA at h
 rw [Option.filter_eq_some_iff] at h
 exact h.2
def selA (a : Af) (fl : ByteArray) (front : Bool) : Bool := (a.f1 == front) && hasFl fl a.f0
def candA (a : Af) (fl : ByteArray) (front : Bool) (ws : List ByteArray) : List ByteArray := if selA a fl front = true then ws.filterMap (doA a) else []
def oneL (A : List Af) (fl : ByteArray) (front : Bool) (ws out : List ByteArray) : List ByteArray := (A.flatMap (fun a => candA a fl front ws)).foldl putL out
abbrev WsZ (ws : List ByteArray) : Prop := ∀ s ∈ ws, s.size ≤ 1048576
theorem one_words (A : List Af) (fl : ByteArray) (front : Bool) (ws : List ByteArray) (i : Nat) (hi : i < A.length) (hok : AfOk A[i]) (hw : WsZ ws) (hl : ws.length ≤ 1000) {r : List ByteArray} (d : Nat) : ∀ (j : Nat) (out : List ByteArray), j + d = ws.length → out.length + d ≤ 100000 →
  (∀ out', out' = ((ws.drop j).filterMap (doA A[i])).foldl putL out → Ev (fun k => spec_l2One.l0 k A fl front ws out' (wrap64 ((i : Int) + 1))) r) → Ev (fun k => spec_l2One.l1 k A fl front ws out (i : Int) (j : Int)) r := by
 have hp := affOk_parts hok
 have e : rd_T73 A (i : Int) = A[i] := by simp [rd_T73, List.getD_eq_getElem?_getD, hi]
 induction d with
 | zero =>
  intro j out hj ho next
  refine Ev.step (fun k => spec_l2One.l1.eq_2 _ _ _ _ _ _ _ _) (eN (next _ ?_))
  rw [List.drop_eq_nil_of_le (by omega)]
  rfl
 | succ d ih =>
  intro j out hj ho next
  have hs := ba_at (P := fun s => s.size ≤ 1048576) hw j (by omega)
  have hlt : j < ws.length := by omega
  have hA : A.length ≤ A.length := Nat.le_refl _
  have s1 := partB_size hp.2.1
  have s2 := partB_size hp.2.2.1
  refine Ev.step (fun k => spec_l2One.l1.eq_2 _ _ _ _ _ _ _ _) (eP (eP (eP (eP ?_))))
  rw [e, w6 (n := (j : Int) + 1)]
  refine Ev.bind (l2Do_spec _ _ _ _ _ _ (strip_size hok) (by omega) (by omega)) ?_
  rw [List.drop_eq_getElem_cons hlt] at next
  rw [ba_get ws j hlt]
  cases h : doB A[i].f1 A[i].f2 A[i].f3 A[i].f4 ws[j] with
  | none =>
   have h2 : doA A[i] ws[j] = none := by unfold doA; rw [h]; rfl
   rw [List.filterMap_cons_none h2] at next
   exact evNeg (by simp [outW]) (ih (j + 1) out (by omega) (by omega) next)
  | some x =>
   by_cases c : wordB x = true
   ·have h2 : doA A[i] ws[j] = some x := by unfold doA; rw [h, Option.filter_some, if_pos c]
    rw [List.filterMap_cons_some h2, List.foldl_cons] at next
    have hl := (putL_length out x).2
    exact evPos (by simpa [outW] using c) (Ev.bind (put_ev out x (by omega)) (ih (j + 1) _ (by omega) (by omega) next))
   ·have h2 : doA A[i] ws[j] = none := by unfold doA; rw [h, Option.filter_some, if_neg c]
    rw [List.filterMap_cons_none h2] at next
    exact evNeg (by simpa [outW] using c) (ih (j + 1) out (by omega) (by omega) next)
set_option maxRecDepth 20000 in
theorem one_loop (A : List Af) (fl : ByteArray) (front : Bool) (ws : List ByteArray) (hok : ∀ a ∈ A, AfOk a) (hA : A.length ≤ 8) (hf : fl.size ≤ 1048576) (hw : WsZ ws) (hl : ws.length ≤ 1000) (d : Nat) : ∀ (i : Nat) (out : List ByteArray), i + d = A.length → out.length + d * 1000 ≤ 90000 →
  Ev (fun k => spec_l2One.l0 k A fl front ws out (i : Int)) (oneL (A.drop i) fl front ws out) := by
 induction d with
 | zero =>
  intro i out hi ho
  refine Ev.step (fun k => spec_l2One.l0.eq_2 _ _ _ _ _ _ _) (eN (evTo (Ev.now _) ?_))
  rw [List.drop_eq_nil_of_le (by omega)]
  rfl
 | succ d ih =>
  intro i out hi ho
  have hlt : i < A.length := by omega
  have e : rd_T73 A (i : Int) = A[i] := by simp [rd_T73, List.getD_eq_getElem?_getD, hlt]
  have ho' := hok _ (List.getElem_mem hlt)
  have hg : A[i].f0.size = 1 := by
   have := (affOk_parts ho').1
   simp only [flagB, Bool.and_eq_true, decide_eq_true_eq] at this
   exact this.1
  have ew : wrap64 ((i : Int) + 1) = ((i + 1 : Nat) : Int) := w6
  have split : oneL (A.drop i) fl front ws out = oneL (A.drop (i + 1)) fl front ws ((candA A[i] fl front ws).foldl putL out) := by
   unfold oneL
   rw [List.drop_eq_getElem_cons hlt, List.flatMap_cons, List.foldl_append]
  rw [split]
  refine Ev.step (fun k => spec_l2One.l0.eq_2 _ _ _ _ _ _ _) (eP (eP ?_))
  rw [e]
  have skip : selA A[i] fl front = false → Ev (fun k => spec_l2One.j1 k A fl front ws out (i : Int) true) (oneL (A.drop (i + 1)) fl front ws ((candA A[i] fl front ws).foldl putL out)) := by
   intro hs
   refine Ev.step (fun k => spec_l2One.j1.eq_2 _ _ _ _ _ _ _ _) (evPos rfl ?_)
   have hc : candA A[i] fl front ws = [] := by unfold candA; rw [if_neg (by simp [hs])]
   rw [ew, hc]
   exact ih (i + 1) out (by omega) (by omega)
  by_cases c : (A[i].f1 != front) = true
  ·refine evPos c (skip ?_)
   have : (A[i].f1 == front) = false := by simpa [bne] using c
   unfold selA
   rw [this]
   rfl
  ·have c1 : (A[i].f1 == front) = true := by simpa [bne] using c
   refine evNeg c (Ev.bind (has_ev fl _ hf hg) ?_)
   cases h : hasFl fl A[i].f0 with
   | false => exact skip (by unfold selA; rw [h, Bool.and_false])
   | true =>
    refine Ev.step (fun k => spec_l2One.j1.eq_2 _ _ _ _ _ _ _ _) (evNeg (by simp) (one_words A fl front ws i hlt ho' hw hl ws.length 0 out (by omega) (by omega) (fun out' he => ?_)))
    have hc : candA A[i] fl front ws = ws.filterMap (doA A[i]) := by unfold candA selA; rw [c1, h]; rfl
    rw [List.drop_zero] at he
    rw [ew, hc, ← he]
    refine ih (i + 1) out' (by omega) ?_
    have h1 := foldPut_length (ws.filterMap (doA A[i])) out
    have h2 := List.length_filterMap_le (doA A[i]) ws
    rw [he]
    omega
theorem l2One_ev (A : List Af) (fl : ByteArray) (front : Bool) (ws : List ByteArray) (hok : ∀ a ∈ A, AfOk a) (hA : A.length ≤ 8) (hf : fl.size ≤ 1048576) (hw : WsZ ws) (hl : ws.length ≤ 1000) : Ev (fun k => spec_l2One.f k A fl front ws) (oneL A fl front ws ws) := by
 unfold spec_l2One.f
 refine evCall rfl (evPos (by simp; omega) ?_)
 have := one_loop A fl front ws hok hA hf hw hl A.length 0 ws (by omega) (by omega)
 simpa using this
theorem cand_length (A : List Af) (fl : ByteArray) (front : Bool) (ws : List ByteArray) : (A.flatMap (fun a => candA a fl front ws)).length ≤ A.length * ws.length := by
 induction A with
 | nil => simp
 | cons a A ih =>
  rw [List.flatMap_cons, List.length_append, List.length_cons, Nat.add_mul]
  have : (candA a fl front ws).length ≤ ws.length := by
   unfold candA
   split
   ·exact List.length_filterMap_le _ _
   ·simp
  omega
theorem oneL_length (A : List Af) (fl : ByteArray) (front : Bool) (ws out : List ByteArray) : (oneL A fl front ws out).length ≤ out.length + A.length * ws.length := by
 have h1 := foldPut_length (A.flatMap (fun a => candA a fl front ws)) out
 have h2 := cand_length A fl front ws
 unfold oneL
 omega
theorem oneL_mem (A : List Af) (fl : ByteArray) (front : Bool) (ws out : List ByteArray) (x : ByteArray) : x ∈ oneL A fl front ws out ↔ x ∈ out ∨ ∃ a ∈ A, selA a fl front = true ∧ ∃ s ∈ ws, doA a s = some x := by
 unfold oneL
 rw [foldPut_mem, List.mem_flatMap]
 refine or_congr Iff.rfl ⟨fun ⟨a, ha, h⟩ => ?_, fun ⟨a, ha, hs, s, hw, h⟩ => ⟨a, ha, ?_⟩⟩
 ·unfold candA at h
  split at h
  ·rename_i hs
   obtain ⟨s, hw, he⟩ := List.mem_filterMap.1 h
   exact ⟨a, ha, hs, s, hw, he⟩
  ·cases h
 ·unfold candA
  rw [if_pos hs]
  exact List.mem_filterMap.2 ⟨s, hw, h⟩
theorem oneL_size {A : List Af} {fl : ByteArray} {front : Bool} {ws out : List ByteArray} (h : WsZ out) : WsZ (oneL A fl front ws out) := by
 intro s hs
 rcases (oneL_mem A fl front ws out s).1 hs with hs | ⟨a, _, _, t, _, he⟩
 ·exact h s hs
 ·have := wordB_size (doA_word he)
  omega
def formsL (A : List Af) (w fl : ByteArray) : List ByteArray := oneL A fl true (oneL A fl false [w] [w]) (oneL A fl false [w] [w])
theorem formsL_length {A : List Af} (hA : A.length ≤ 8) (w fl : ByteArray) : (formsL A w fl).length ≤ 81 := by
 have h1 := oneL_length A fl false [w] [w]
 have h2 := oneL_length A fl true (oneL A fl false [w] [w]) (oneL A fl false [w] [w])
 unfold formsL
 simp only [List.length_cons, List.length_nil] at h1
 have h3 : (oneL A fl false [w] [w]).length ≤ 9 := by omega
 have h4 : A.length * (oneL A fl false [w] [w]).length ≤ 8 * 9 := Nat.mul_le_mul hA h3
 omega
theorem l2Forms_ev (A : List Af) (w fl : ByteArray) (hok : ∀ a ∈ A, AfOk a) (hA : A.length ≤ 8) (hf : fl.size ≤ 1048576) (hw : w.size ≤ 1048576) : Ev (fun k => spec_l2Forms.f k A w fl) (formsL A w fl) := by
 have z1 : WsZ [w] := fun s hs => by simpa using (List.mem_singleton.1 hs ▸ hw : s.size ≤ 1048576)
 have h1 := oneL_length A fl false [w] [w]
 simp only [List.length_cons, List.length_nil] at h1
 unfold spec_l2Forms.f
 exact Ev.bind (l2One_ev A fl false [w] hok hA hf z1 (by simp)) (Ev.bind (l2One_ev A fl true _ hok hA hf (oneL_size z1) (by omega)) (Ev.now _))
def allF (A : List Af) (E : List En) : List ByteArray := E.flatMap (fun e => formsL A e.f0 e.f1)
def wordsL (A : List Af) (E : List En) (out : List ByteArray) : List ByteArray := (allF A E).foldl putL out
theorem allF_length {A : List Af} (hA : A.length ≤ 8) (E : List En) : (allF A E).length ≤ E.length * 81 := by
 unfold allF
 induction E with
 | nil => simp
 | cons e E ih =>
  rw [List.flatMap_cons, List.length_append, List.length_cons, Nat.add_mul]
  have := formsL_length hA e.f0 e.f1
  omega
theorem wordsL_mem (A : List Af) (E : List En) (x : ByteArray) : x ∈ wordsL A E [] ↔ ∃ e ∈ E, x ∈ formsL A e.f0 e.f1 := by
 unfold wordsL allF
 rw [foldPut_mem, List.mem_flatMap]
 simp
theorem wordsL_asc (A : List Af) (E : List En) : Asc (wordsL A E []) := foldPut_asc _ (by simp [Asc])
theorem wordsL_length {A : List Af} (hA : A.length ≤ 8) (E : List En) : (wordsL A E []).length ≤ E.length * 81 := by
 have h1 := foldPut_length (allF A E) []
 have h2 := allF_length hA E
 unfold wordsL
 simp only [List.length_nil] at h1
 omega
theorem words_inner (A : List Af) (E : List En) (i : Nat) (fs : List ByteArray) (hl : fs.length ≤ 1000) {r : List ByteArray} (d : Nat) : ∀ (j : Nat) (out : List ByteArray), j + d = fs.length → out.length + d ≤ 100000 →
  (∀ out', out' = (fs.drop j).foldl putL out → Ev (fun k => spec_l2Words.l0 k out' (wrap64 ((i : Int) + 1)) A E) r) → Ev (fun k => spec_l2Words.l1 k out (i : Int) fs (j : Int) A E) r := by
 induction d with
 | zero =>
  intro j out hj ho next
  refine Ev.step (fun k => spec_l2Words.l1.eq_2 ..) (eN (next _ ?_))
  rw [List.drop_eq_nil_of_le (by omega)]
  rfl
 | succ d ih =>
  intro j out hj ho next
  have hlt : j < fs.length := by omega
  rw [List.drop_eq_getElem_cons hlt, List.foldl_cons] at next
  have hp := (putL_length out fs[j]).2
  refine Ev.step (fun k => spec_l2Words.l1.eq_2 ..) (eP (eP ?_))
  rw [ba_get fs j hlt, w6 (n := (j : Int) + 1)]
  exact Ev.bind (put_ev out fs[j] (by omega)) (ih (j + 1) _ (by omega) (by omega) next)
theorem words_loop (A : List Af) (E : List En) (hok : ∀ a ∈ A, AfOk a) (hA : A.length ≤ 8) (he : ∀ s ∈ E, (s.f0.size ≤ 1048576 ∧ s.f1.size ≤ 1048576)) (hE : E.length ≤ 24) (d : Nat) : ∀ (i : Nat) (out : List ByteArray), i + d = E.length → out.length + d * 100 ≤ 90000 →
  Ev (fun k => spec_l2Words.l0 k out (i : Int) A E) (wordsL A (E.drop i) out) := by
 induction d with
 | zero =>
  intro i out hi ho
  refine Ev.step (fun k => spec_l2Words.l0.eq_2 ..) (eN (evTo (Ev.now _) ?_))
  rw [List.drop_eq_nil_of_le (by omega)]
  rfl
 | succ d ih =>
  intro i out hi ho
  have hlt : i < E.length := by omega
  have e : rd_T66 E (i : Int) = E[i] := by simp [rd_T66, List.getD_eq_getElem?_getD, hlt]
  have hz := he _ (List.getElem_mem hlt)
  have hn := formsL_length hA E[i].f0 E[i].f1
  have split : wordsL A (E.drop i) out = wordsL A (E.drop (i + 1)) ((formsL A E[i].f0 E[i].f1).foldl putL out) := by
   unfold wordsL allF
   rw [List.drop_eq_getElem_cons hlt, List.flatMap_cons, List.foldl_append]
  rw [split]
  refine Ev.step (fun k => spec_l2Words.l0.eq_2 ..) (eP (eP ?_))
  rw [e]
  refine Ev.bind (l2Forms_ev A _ _ hok hA hz.2 hz.1) (words_inner A E i _ (by omega) (formsL A E[i].f0 E[i].f1).length 0 out (by omega) (by omega) (fun out' h => ?_))
  rw [List.drop_zero] at h
  rw [w6 (n := (i : Int) + 1), ← h]
  have hp := foldPut_length (formsL A E[i].f0 E[i].f1) out
  exact ih (i + 1) out' (by omega) (by rw [h]; omega)
theorem l2Words_ev (A : List Af) (E : List En) (hok : ∀ a ∈ A, AfOk a) (hA : A.length ≤ 8) (he : ∀ s ∈ E, (s.f0.size ≤ 1048576 ∧ s.f1.size ≤ 1048576)) (hE : E.length ≤ 24) : Ev (fun k => spec_l2Words.f k A E) (wordsL A E []) := by
 have := words_loop A E hok hA he hE E.length 0 [] (by omega) (by simp; omega)
 rw [List.drop_zero] at this
 exact this
theorem oneL_small {A : List Af} {fl : ByteArray} {front : Bool} {ws out : List ByteArray} (h : WZ out) : WZ (oneL A fl front ws out) := by
 intro x hx
 rcases (oneL_mem A fl front ws out x).1 hx with hx | ⟨a, _, _, s, _, hd⟩
 ·exact h x hx
 ·have := wordB_size (doA_word hd)
  omega
theorem formsL_small {A : List Af} {w fl : ByteArray} (h : w.size ≤ 13) : WZ (formsL A w fl) := oneL_small (oneL_small (fun x hx => by rw [List.mem_singleton.1 hx]; exact h))
theorem wordsL_small {A : List Af} {E : List En} (h : ∀ e ∈ E, EnZ e) : WZ (wordsL A E []) := by
 intro x hx
 obtain ⟨e, he, hx⟩ := (wordsL_mem A E x).1 hx
 exact formsL_small (h e he).1 x hx
theorem wordsL_ev13 {A : List Af} {E : List En} (ha : A.length ≤ 4 ∧ ∀ a ∈ A, AfY a) (he : E.length ≤ 24 ∧ ∀ e ∈ E, EnZ e) : Ev (fun k => spec_l2Words.f k A E) (wordsL A E []) ∧ (wordsL A E []).length ≤ 2000 := by
 refine ⟨l2Words_ev A E (fun a h => (ha.2 a h).2) (by omega) (fun s h => ?_) he.1, ?_⟩
 ·have := he.2 s h
  omega
 ·have := wordsL_length (A := A) (by omega) E
  omega
theorem words13_end {s : List Int} {p : Int} (ws : List ByteArray) (hl : ws.length ≤ 2000) (hz : WZ ws) (ha : Asc ws) : ∃ r, Ev (fun k => spec_l13Words.j1 k ws s p) (r, p) ∧ r.length ≤ 40 ∧ WZ r ∧ Asc r := by
 by_cases c : (ws.length : Int) > 40
 ·exact ⟨ws.take 40, Ev.step (fun k => spec_l13Words.j1.eq_2 ..) (evPos c (eP (Ev.now _))), by rw [List.length_take]; omega, fun w hw => hz w (List.mem_of_mem_take hw), ha.sublist (List.take_sublist 40 ws)⟩
 ·exact ⟨ws, Ev.step (fun k => spec_l13Words.j1.eq_2 ..) (evNeg c (Ev.now _)), by omega, hz, ha⟩
theorem words13_loop {s : List Int} (d : Nat) : ∀ (ws : List ByteArray) (n p : Int), Rdr s p → p + 500 + 11 * d ≤ 999999998000 → n = d → ws.length + d ≤ 24 → WZ ws → Asc ws →
  ∃ r p', Ev (fun k => spec_l13Words.l0 k ws n s p) (r, p') ∧ (r.length ≤ 40 ∧ WZ r ∧ Asc r) ∧ p ≤ p' ∧ p' ≤ p + 400 + 11 * d := by
 induction d with
 | zero =>
  intro ws n p h hp hn hl hz ha
  have h0 := h.2.2.1
  obtain ⟨v, hv, v0, v1⟩ := pick_ev h 3 (by omega)
  by_cases c : v = 0
  ·obtain ⟨A, E, p1, hb, a1, e1, g1, g2⟩ := book13_ev (h.at_ (p + 1) (by omega) (by omega)) (by omega)
   obtain ⟨w1, w2⟩ := wordsL_ev13 a1 e1
   obtain ⟨r, hr, k1, k2, k3⟩ := words13_end (s := s) (p := p1) (wordsL A E []) w2 (wordsL_small e1.2) (wordsL_asc A E)
   exact ⟨r, p1, Ev.step (fun k => spec_l13Words.l0.eq_2 ..) (eN (Ev.bind hv (evPos c (Ev.bind hb (Ev.bind w1 hr))))), ⟨k1, k2, k3⟩, by omega, by omega⟩
  ·obtain ⟨r, hr, k1, k2, k3⟩ := words13_end (s := s) (p := p + 1) ws (by omega) hz ha
   exact ⟨r, p + 1, Ev.step (fun k => spec_l13Words.l0.eq_2 ..) (eN (Ev.bind hv (evNeg c hr))), ⟨k1, k2, k3⟩, by omega, by omega⟩
 | succ d ih =>
  intro ws n p h hp hn hl hz ha
  have h0 := h.2.2.1
  obtain ⟨w, p1, hw, w1, w2, w3⟩ := word13_ev h (by omega)
  have hp2 := (putL_length ws w).2
  obtain ⟨r, p', h1, h2, h3, h4⟩ := ih (putL ws w) (n - 1) p1 (h.at_ _ (by omega) (by omega)) (by omega) (by omega) (by omega) (putL_WZ hz (by omega)) (putL_asc ha w)
  refine ⟨r, p', Ev.step (fun k => spec_l13Words.l0.eq_2 ..) (eP (Ev.bind hw (Ev.bind (put_ev ws w (by omega)) ?_))), h2, by omega, by omega⟩
  rw [w6 (n := n - 1)]
  exact h1
theorem words13_ev {s : List Int} {p : Int} (h : Rdr s p) (hp : p ≤ 999999990000) : ∃ r p', Ev (fun k => spec_l13Words.f k s p) (r, p') ∧ (r.length ≤ 40 ∧ WZ r ∧ Asc r) ∧ p ≤ p' ∧ p' ≤ p + 600 := by
 have h0 := h.2.2.1
 obtain ⟨v, hv, v0, v1⟩ := pick_ev h 9 (by omega)
 obtain ⟨d, hd⟩ := Int.eq_ofNat_of_zero_le v0
 have hd8 : d ≤ 8 := by
  rcases v1 with v1 | v1 <;> omega
 obtain ⟨r, p', k1, k2, k3, k4⟩ := words13_loop (s := s) d [] v (p + 1) (h.at_ _ (by omega) (by omega)) (by omega) hd (by simp; omega) (fun w hw => by cases hw) (by simp [Asc])
 unfold spec_l13Words.f
 exact ⟨r, p', Ev.bind hv k1, k2, by omega, by omega⟩
theorem machine13_ev {s : List Int} {p : Int} (h : Rdr s p) (hp : p ≤ 999999990000) : ∃ m p', Ev (fun k => spec_l13Machine.f k s p) (m, p') ∧ (m.length ≤ 400 ∧ ∀ s ∈ m, s.f1.length ≤ 26) ∧ p ≤ p' ∧ p' ≤ p + 600 := by
 obtain ⟨ws, p1, h1, ⟨w1, w2, _⟩, h3, h4⟩ := words13_ev h hp
 obtain ⟨r, hr, hQ⟩ := machineOf_ev ws (by omega) (fun x hx => by have := w2 x hx; omega)
 unfold spec_l13Machine.f
 exact ⟨r.1, p1, Ev.bind h1 (Ev.bind hr (Ev.now _)), hQ, h3, h4⟩
theorem anyMachine_loop {s : List Int} (d : Nat) : ∀ (i : Nat) (out : List St) (p : Int), i + d = 13 → Rdr s p → p + d ≤ 999999999000 → out.length = i → (∀ x ∈ out, x.f1.length ≤ 26) →
  ∃ m p', Ev (fun k => spec_l13AnyMachine.l0 k out (i : Int) s p) (m, p') ∧ MZ m ∧ p ≤ p' ∧ p' ≤ p + d + 1 := by
 have fin : ∀ (i : Nat) (out : List St), i ≤ 13 → out.length = i → (∀ x ∈ out, x.f1.length ≤ 26) → MZ (out ++ [⟨true, []⟩]) := by
  intro i out hi ho hs
  refine ⟨by simp; omega, fun x hx => ?_⟩
  rcases List.mem_append.1 hx with hx | hx
  ·have := hs x hx
   omega
  ·rw [List.mem_singleton.1 hx]
   simp
 induction d with
 | zero =>
  intro i out p hi h hp ho hs
  have h0 := h.2.2.1
  obtain ⟨v, hv, v0, v1⟩ := pick_ev h 11 (by omega)
  refine ⟨_, p + 1, Ev.step (fun k => spec_l13AnyMachine.l0.eq_2 ..) (Ev.bind hv (evNeg ?_ (eP (Ev.now _)))), fin i out (by omega) ho hs, by omega, by omega⟩
  rw [w6]
  omega
 | succ d ih =>
  intro i out p hi h hp ho hs
  have h0 := h.2.2.1
  obtain ⟨v, hv, v0, v1⟩ := pick_ev h 11 (by omega)
  have ew : wrap64 (3 + v) = 3 + v := w6
  by_cases c : (i : Int) < wrap64 (3 + v)
  ·obtain ⟨m, p', h1, h2, h3, h4⟩ := ih (i + 1) (out ++ [⟨(Int.tmod (i : Int) 3) == 0, [⟨97, wrap64 ((i : Int) + 1)⟩, ⟨98, wrap64 ((i : Int) + 1)⟩]⟩]) (p + 1) (by omega) (h.at_ _ (by omega) (by omega)) (by omega) (by simp; omega) (fun x hx => by
    rcases List.mem_append.1 hx with hx | hx
    ·exact hs x hx
    ·rw [List.mem_singleton.1 hx]
     simp)
   refine ⟨m, p', Ev.step (fun k => spec_l13AnyMachine.l0.eq_2 ..) (Ev.bind hv (evPos c (eP ?_))), h2, by omega, by omega⟩
   rw [← w64 (n := ((i + 1 : Nat) : Int)) (by omega) (by omega)] at h1
   exact h1
  ·exact ⟨_, p + 1, Ev.step (fun k => spec_l13AnyMachine.l0.eq_2 ..) (Ev.bind hv (evNeg c (eP (Ev.now _)))), fin i out (by omega) ho hs, by omega, by omega⟩
theorem anyMachine_ev {s : List Int} {p : Int} (h : Rdr s p) (hp : p ≤ 999999980000) : ∃ m p', Ev (fun k => spec_l13AnyMachine.f k s p) (m, p') ∧ MZ m ∧ p ≤ p' ∧ p' ≤ p + 700 := by
 have h0 := h.2.2.1
 obtain ⟨m, p1, hm, ⟨m1, m2⟩, q1, q2⟩ := machine13_ev h (by omega)
 have mz : MZ m := ⟨by omega, fun x hx => by have := m2 x hx; omega⟩
 unfold spec_l13AnyMachine.f
 by_cases c : (m.length : Int) = 0
 ·exact ⟨m, p1, Ev.bind hm (evPos c (Ev.now _)), mz, by omega, by omega⟩
 obtain ⟨j, hj, j0, j1⟩ := pick_ev (h.at_ p1 (by omega) (by omega)) (m.length : Int) (by omega)
 obtain ⟨v, hv, v0, v1⟩ := pick_ev (h.at_ (p1 + 1) (by omega) (by omega)) 10 (by omega)
 have hr := h.at_ (p1 + 1 + 1) (by omega) (by omega)
 have hjl : j < (m.length : Int) := by omega
 have hat : (rd_T95 m j).f1.length ≤ 26 := by
  have e : rd_T95 m j = m[j.toNat]'(by omega) := getD_get m _ j j0 (by omega)
  rw [e]
  exact m2 _ (List.getElem_mem _)
 have hset : ∀ x : St, x.f1.length ≤ 30 → MZ (m.set j.toNat x) := by
  intro x hx
  refine ⟨by simp; omega, fun y hy => ?_⟩
  rcases List.mem_or_eq_of_mem_set hy with hy | hy
  ·have := m2 y hy
   omega
  ·rw [hy]
   omega
 by_cases c0 : v = 0
 ·exact ⟨_, p1 + 1 + 1, Ev.bind hm (evNeg c (Ev.bind hj (Ev.bind hv (evPos c0 (evPos j0 (evPos hjl (Ev.now _))))))), hset _ (by dsimp only; omega), by omega, by omega⟩
 by_cases c1 : v = 1
 ·obtain ⟨a, ha, a0, a1⟩ := pick_ev hr 26 (by omega)
  obtain ⟨b, hb, b0, b1⟩ := pick_ev (h.at_ (p1 + 1 + 1 + 1) (by omega) (by omega)) (wrap64 ((m.length : Int) + 1)) (by rw [w6]; omega)
  refine ⟨_, p1 + 1 + 1 + 1 + 1, Ev.bind hm (evNeg c (Ev.bind hj (Ev.bind hv (evNeg c0 (evPos c1 (evPos j0 (evPos hjl (Ev.bind ha (Ev.bind hb (evPos ?_ (Ev.now _))))))))))), hset _ ?_, by omega, by omega⟩
  ·have : (rd_T95 m j).f1.length < 8796093022208 := by omega
   exact this
  ·have : ((rd_T95 m j).f1 ++ [(⟨wrap64 (97 + a), b⟩ : Eg)]).length ≤ 30 := by
    rw [List.length_append]
    simp
    omega
   exact this
 by_cases c2 : v = 2
 ·obtain ⟨a, ha, a0, a1⟩ := pick_ev hr 2 (by omega)
  refine ⟨_, p1 + 1 + 1 + 1, Ev.bind hm (evNeg c (Ev.bind hj (Ev.bind hv (evNeg c0 (evNeg c1 (evPos c2 (Ev.bind ha (evPos (by dsimp only; omega) (Ev.now _)))))))))  , ⟨by simp; omega, fun x hx => ?_⟩, by omega, by omega⟩
  rcases List.mem_append.1 hx with hx | hx
  ·exact mz.2 x hx
  ·rw [List.mem_singleton.1 hx]
   simp
 by_cases c3 : v = 3
 ·obtain ⟨m', p', h1, h2, h3, h4⟩ := anyMachine_loop (s := s) 13 0 [] (p1 + 1 + 1) (by omega) hr (by omega) rfl (by simp)
  exact ⟨m', p', Ev.bind hm (evNeg c (Ev.bind hj (Ev.bind hv (evNeg c0 (evNeg c1 (evNeg c2 (evPos c3 h1))))))), h2, by omega, by omega⟩
 ·exact ⟨m, p1 + 1 + 1, Ev.bind hm (evNeg c (Ev.bind hj (Ev.bind hv (evNeg c0 (evNeg c1 (evNeg c2 (evNeg c3 (Ev.now _)))))))), mz, by omega, by omega⟩
theorem mwordB_size {m : List St} (hm : m.length ≤ 500) (a : Int) : (mwordB m a).size ≤ 500 := by
 unfold mwordB
 split
 ·rename_i h
  obtain ⟨h1, h2, h3, h4⟩ := h
  obtain ⟨g1, g2, g3⟩ := machOk_facts h1
  obtain ⟨_, _, k3, k4⟩ := word_law m g3 m.length 0 a (by omega) (by omega) h3 h4 h2
  have k5 : (wAt m (cnts m) m.length 0 a).length + 0 < m.length := k4
  rw [← bytesOf_length, bytesOf_nums _ (fun x hx => by have := k3 x hx; omega)]
  omega
 ·exact Nat.zero_le _
theorem nth_near {s : ByteArray} (h : wordB s = true) (u v : Int) (hu : 0 ≤ u) (hu1 : u < 256) (hv : 0 ≤ v) (hv1 : v < 256) :
  ∃ j, Int.tmod (wrap64 (wrap64 (u * 256) + v)) ((nearL s).length : Int) = j ∧ ¬ ((nearL s).length : Int) = 0 ∧ 0 ≤ j ∧ j < ((nearL s).length : Int) ∧ wordB (rdOf ByteArray.empty (nearL s) j) = true := by
 have hne := nearL_some h
 have hp : 0 < (nearL s).length := List.length_pos_iff.2 hne
 rw [w6 (n := u * 256), w6 (n := u * 256 + v)]
 have j0 := Int.tmod_nonneg ((nearL s).length : Int) (show 0 ≤ u * 256 + v from by omega)
 have j1 := Int.tmod_lt_of_pos (u * 256 + v) (show 0 < ((nearL s).length : Int) from by omega)
 refine ⟨_, rfl, by omega, j0, j1, ?_⟩
 rw [rdOf_get _ _ j0 (by omega)]
 exact ((nearL_mem s _).1 (List.getElem_mem _)).2.2
theorem other_evL {t : List Int} {p : Int} (h : Rdr t p) (hp : p ≤ 999999999000) (s : ByteArray) (hs : s.size ≤ 1000) : ∃ r p', Ev (fun k => spec_l13Other.f k t p s) (r, p') ∧ r.size ≤ 13 ∧ p ≤ p' ∧ p' ≤ p + 20 := by
 have h0 := h.2.2.1
 have no : ∀ q, p ≤ q → q ≤ p + 1 → ∃ r p', Ev (fun k => spec_l13Other.j0 k s false t q) (r, p') ∧ r.size ≤ 13 ∧ p ≤ p' ∧ p' ≤ p + 20 := by
  intro q q0 q1
  obtain ⟨r, p', h1, h2, h3, h4⟩ := any13_ev (h.at_ q (by omega) (by omega)) (by omega)
  exact ⟨r, p', Ev.step (fun k => spec_l13Other.j0.eq_2 _ _ _ _ _) (evNeg (by simp) (Ev.bind h1 (Ev.now _))), h2, by omega, by omega⟩
 unfold spec_l13Other.f
 cases e : wordB s with
 | false =>
  obtain ⟨r, p', h1, h2⟩ := no p (by omega) (by omega)
  have hw := l1Word_spec s (by omega)
  rw [e] at hw
  exact ⟨r, p', Ev.bind hw (evNeg (by simp) h1), h2⟩
 | true =>
  have hw := l1Word_spec s (by omega)
  rw [e] at hw
  obtain ⟨v, hv, v0, v1⟩ := pick_ev h 2 (by omega)
  by_cases c : v = 0
  ·obtain ⟨a, ha, a0, a1⟩ := pick_ev (h.at_ (p + 1) (by omega) (by omega)) 256 (by omega)
   obtain ⟨b, hb, b0, b1⟩ := pick_ev (h.at_ (p + 1 + 1) (by omega) (by omega)) 256 (by omega)
   obtain ⟨x, hx, x0, x1⟩ := pick_ev (h.at_ (p + 1 + 1 + 1) (by omega) (by omega)) 3 (by omega)
   obtain ⟨j, hj, jn, j0, j1, jw⟩ := nth_near e a b a0 (by omega) b0 (by omega)
   have start : ∀ r p', Ev (fun k => (spec_l1Rd_pick.f k t (p + 1 + 1 + 1) 3).bind fun bt => if bt.1 = 0 then ((spec_l1Near.f k (rdOf ByteArray.empty (nearL s) j)).bind fun t200 => ((spec_l1Rd_pick.f k t bt.2 256).bind fun bt203 => ((spec_l1Rd_pick.f k t bt203.2 256).bind fun bt205 => (if (t200.length : Int) = 0 then (none) else (if 0 ≤ (Int.tmod (wrap64 ((wrap64 (bt203.1 * 256)) + bt205.1)) (t200.length : Int)) then (if (Int.tmod (wrap64 ((wrap64 (bt203.1 * 256)) + bt205.1)) (t200.length : Int)) < (t200.length : Int) then (some (rdOf ByteArray.empty t200 (Int.tmod (wrap64 ((wrap64 (bt203.1 * 256)) + bt205.1)) (t200.length : Int)), bt205.2)) else (none)) else (none)))))) else (some (rdOf ByteArray.empty (nearL s) j, bt.2))) (r, p') →
     Ev (fun k => (spec_l1Word.f k s).bind fun t187 => (if t187 = true then ((spec_l1Rd_pick.f k t p 2).bind fun bt188 => (spec_l13Other.j0 k s (bt188.1 == 0) t bt188.2)) else (spec_l13Other.j0 k s false t p))) (r, p') := by
    intro r p' hr
    refine Ev.bind hw (evPos rfl (Ev.bind hv ?_))
    rw [show (v == 0) = true from by simp [c]]
    refine Ev.step (fun k => spec_l13Other.j0.eq_2 _ _ _ _ _) (evPos rfl (Ev.bind (near_ev s (by have := wordB_size e; omega)) (Ev.bind ha (Ev.bind hb ?_))))
    dsimp only
    rw [hj]
    exact evNeg jn (evPos j0 (evPos j1 hr))
   by_cases c2 : x = 0
   ·have hs2 := (wordB_size jw).2
    obtain ⟨a', ha', a0', a1'⟩ := pick_ev (h.at_ (p + 1 + 1 + 1 + 1) (by omega) (by omega)) 256 (by omega)
    obtain ⟨b', hb', b0', b1'⟩ := pick_ev (h.at_ (p + 1 + 1 + 1 + 1 + 1) (by omega) (by omega)) 256 (by omega)
    obtain ⟨j', hj', jn', j0', j1', jw'⟩ := nth_near jw a' b' a0' (by omega) b0' (by omega)
    have hz := (wordB_size jw').2
    refine ⟨rdOf ByteArray.empty (nearL (rdOf ByteArray.empty (nearL s) j)) j', p + 1 + 1 + 1 + 1 + 1 + 1, start _ _ (Ev.bind hx (evPos c2 (Ev.bind (near_ev _ (by omega)) (Ev.bind ha' (Ev.bind hb' ?_))))), by omega, by omega, by omega⟩
    dsimp only
    rw [hj']
    exact evNeg jn' (evPos j0' (evPos j1' (Ev.now _)))
   ·have hz := (wordB_size jw).2
    exact ⟨_, _, start _ _ (Ev.bind hx (evNeg c2 (Ev.now _))), by omega, by omega, by omega⟩
  ·obtain ⟨r, p', h1, h2⟩ := no (p + 1) (by omega) (by omega)
   refine ⟨r, p', Ev.bind hw (evPos rfl (Ev.bind hv ?_)), h2⟩
   rw [show (v == 0) = false from by simp [c]]
   exact h1
theorem dist_small (a b : ByteArray) (i k : Nat) (h : i ≤ 100) (h2 : k ≤ 100) : 0 ≤ dist a b i k ∧ dist a b i k ≤ 100 := by
 obtain ⟨_, _, _, m, _, p⟩ := dist_facts a b _ i k (Nat.le_refl _)
 omega
theorem rl_set_eq (M : List (List Int)) (i : Nat) (R : List Int) (h : i < M.length) : rd_L10 (M.set i R) (i : Int) = R := by
 simp [rd_L10, List.getD_eq_getElem?_getD, h]
theorem rl_set_ne (M : List (List Int)) (i j : Nat) (R : List Int) (h : i ≠ j) : rd_L10 (M.set i R) (j : Int) = rd_L10 M (j : Int) := by
 simp [rd_L10, List.getD_eq_getElem?_getD, List.getElem?_set_ne h]
theorem rd_setN_eq (xs : List Int) (i : Nat) (v : Int) (h : i < xs.length) : rd (xs.set i v) (i : Int) = v := by
 have := rd_set_eq xs (i : Int) v (by omega) (by omega)
 simpa using this
theorem rd_setN_ne (xs : List Int) (i j : Nat) (v : Int) (h : i ≠ j) : rd (xs.set i v) (j : Int) = rd xs (j : Int) := by
 have := rd_set_ne xs (i : Int) (j : Int) v (by omega) (by omega) (by omega)
 simpa using this
def InvM (a b : ByteArray) (M : List (List Int)) (i k : Nat) : Prop :=
 M.length = a.size + 1 ∧ (∀ j : Nat, j ≤ a.size → (rd_L10 M (j : Int)).length = b.size + 1) ∧
 ∀ x y : Nat, x ≤ a.size → y ≤ b.size → (x < i ∨ (x = i ∧ y < k) ∨ y = 0 ∨ x = 0) → rd (rd_L10 M (x : Int)) (y : Int) = dist a b x y
theorem inv_put {a b : ByteArray} {M : List (List Int)} {i k : Nat} (h : InvM a b M i k) (hi : i ≤ a.size) (hk : k ≤ b.size) (_ : 1 ≤ i) (_ : 1 ≤ k) : InvM a b (M.set i ((rd_L10 M (i : Int)).set k (dist a b i k))) i (k + 1) := by
 obtain ⟨h1, h2, h3⟩ := h
 refine ⟨by simpa using h1, fun j hj => ?_, fun x y hx hy hc => ?_⟩
 ·by_cases c : i = j
  ·subst c
   rw [rl_set_eq _ _ _ (by omega), List.length_set]
   exact h2 i hj
  ·rw [rl_set_ne _ _ _ _ c]
   exact h2 j hj
 ·by_cases c : i = x
  ·subst c
   rw [rl_set_eq _ _ _ (by omega)]
   by_cases d : k = y
   ·subst d
    exact rd_setN_eq _ _ _ (by rw [h2 i hi]; omega)
   ·rw [rd_setN_ne _ _ _ _ d]
    exact h3 i y hx hy (by omega)
  ·rw [rl_set_ne _ _ _ _ c]
   exact h3 x y hx hy (by omega)
theorem inv_next {a b : ByteArray} {M : List (List Int)} {i : Nat} (h : InvM a b M i (b.size + 1)) : InvM a b M (i + 1) 1 :=
 ⟨h.1, h.2.1, fun x y hx hy hc => h.2.2 x y hx hy (by omega)⟩
theorem mn_minF (x y : Int) : mn x y = min x y := by
 unfold mn
 split <;> omega
theorem far_impl_row (a b : ByteArray) (ha : a.size ≤ 100) (hb : b.size ≤ 100) (i : Nat) (hi : i ≤ a.size) (hi1 : 1 ≤ i) {r : Int}
  (next : ∀ M, InvM a b M i (b.size + 1) → Ev (fun k => impl_Far.l2 k a b M ((i + 1 : Nat) : Int)) r) (d : Nat) : ∀ (k : Nat) (M : List (List Int)), k + d = b.size + 1 → 1 ≤ k → InvM a b M i k →
  Ev (fun n => impl_Far.l3 n a b M (i : Int) (k : Int)) r := by
 induction d with
 | zero =>
  intro k M hk _ hM
  obtain rfl : k = b.size + 1 := by omega
  refine Ev.step (fun n => impl_Far.l3.eq_2 _ _ _ _ _ _) (eN ?_)
  rw [w6]
  exact next M hM
 | succ d ih =>
  intro k M hk hk1 hM
  obtain ⟨m1, m2, m3⟩ := hM
  have ihk := ih (k + 1) (M.set i ((rd_L10 M (i : Int)).set k (dist a b i k))) (by omega) (by omega) (inv_put ⟨m1, m2, m3⟩ hi (by omega) hi1 hk1)
  obtain ⟨i, rfl⟩ : ∃ m, i = m + 1 := ⟨i - 1, by omega⟩
  obtain ⟨k, rfl⟩ : ∃ m, k = m + 1 := ⟨k - 1, by omega⟩
  have wi1 : wrap64 (((i + 1 : Nat) : Int) - 1) = (i : Int) := by rw [w6]; omega
  have wk1 : wrap64 (((k + 1 : Nat) : Int) - 1) = (k : Int) := by rw [w6]; omega
  have wk : wrap64 (((k + 1 : Nat) : Int) + 1) = ((k + 1 + 1 : Nat) : Int) := by rw [w6]; omega
  have b1 := dist_small a b i k (by omega) (by omega)
  have b2 := dist_small a b i (k + 1) (by omega) (by omega)
  have b3 := dist_small a b (i + 1) k (by omega) (by omega)
  have b4 := dist_small a b (i - 1) (k - 1) (by omega) (by omega)
  have l1 := m2 i (by omega)
  have l2 := m2 (i + 1) hi
  have l3 := m2 (i - 1) (by omega)
  have e1 := m3 i k (by omega) (by omega) (by omega)
  have e2 := m3 i (k + 1) (by omega) (by omega) (by omega)
  have e3 := m3 (i + 1) k (by omega) (by omega) (by omega)
  have e4 := m3 (i - 1) (k - 1) (by omega) (by omega) (by omega)
  have join : ∀ v : Int, v = dist a b i k + (if bt a (i : Int) = bt b (k : Int) then 0 else 1) → Ev (fun n => impl_Far.j5 n a b M ((i + 1 : Nat) : Int) ((k + 1 : Nat) : Int) v) r := by
   intro v hv
   have hv01 : (if bt a (i : Int) = bt b (k : Int) then (0 : Int) else 1) = 0 ∨ (if bt a (i : Int) = bt b (k : Int) then (0 : Int) else 1) = 1 := by split <;> simp
   have h3 : mn (mn v (dist a b i (k + 1) + 1)) (dist a b (i + 1) k + 1) = dist3 a b i k := by
    rw [mn_minF, mn_minF]
    unfold dist3
    omega
   have h3b : 0 ≤ dist3 a b i k := by
    unfold dist3
    omega
   refine Ev.step (fun n => impl_Far.j5.eq_2 _ _ _ _ _ _ _) ?_
   rw [wi1, wk1, e2, e3, w6 (n := dist a b i (k + 1) + 1), w6 (n := dist a b (i + 1) k + 1), h3]
   refine eP (eP (eP (eP (eP (eP (eP (eP ?_)))))))
   have hs := dist_succ a b i k
   have two (z : Nat) (hz : 1 ≤ z) (hz2 : z ≤ 100) : wrap64 (((z + 1 : Nat) : Int) - 2) = ((z - 1 : Nat) : Int) := by rw [w6]; omega
   have no : dist3 a b i k = dist a b (i + 1) (k + 1) → Ev (fun n => impl_Far.j6 n a b M ((i + 1 : Nat) : Int) ((k + 1 : Nat) : Int) (dist3 a b i k) false) r := by
    intro he
    refine Ev.step (fun n => impl_Far.j6.eq_2 _ _ _ _ _ _ _ _) (evNeg (by simp) (eP (eP (eP (eP ?_)))))
    rw [wk, he, Int.toNat_natCast, Int.toNat_natCast]
    exact ihk
   by_cases c1 : ((i + 1 : Nat) : Int) > 1
   ·by_cases c2 : ((k + 1 : Nat) : Int) > 1
    ·refine evPos c1 (evPos c2 ?_)
     rw [two i (by omega) (by omega), two k (by omega) (by omega)]
     refine eP (eP (eP ?_))
     by_cases c3 : bt a (i : Int) = bt b ((k - 1 : Nat) : Int)
     ·refine evPos c3 (eP (eP (eP ?_)))
      by_cases c4 : bt a ((i - 1 : Nat) : Int) = bt b (k : Int)
      ·rw [if_pos ⟨by omega, by omega, c3, c4⟩] at hs
       rw [show (bt a ((i - 1 : Nat) : Int) == bt b (k : Int)) = true from beq_iff_eq.2 c4]
       refine Ev.step (fun n => impl_Far.j6.eq_2 _ _ _ _ _ _ _ _) ?_
       rw [two i (by omega) (by omega), two k (by omega) (by omega), e4, w6 (n := dist a b (i - 1) (k - 1) + 1), mn_minF, ← hs, wk, Int.toNat_natCast, Int.toNat_natCast]
       exact evPos rfl (eP (eP (eP (eP (eP (eP (eP (evPos (by omega) ihk))))))))
      ·rw [if_neg (fun h => c4 h.2.2.2)] at hs
       rw [show (bt a ((i - 1 : Nat) : Int) == bt b (k : Int)) = false from beq_eq_false_iff_ne.2 c4]
       exact no hs.symm
     ·rw [if_neg (fun h => c3 h.2.2.1)] at hs
      exact evNeg c3 (no hs.symm)
    ·rw [if_neg (fun h => c2 (by omega))] at hs
     exact evPos c1 (evNeg c2 (no hs.symm))
   ·rw [if_neg (fun h => c1 (by omega))] at hs
    exact evNeg c1 (no hs.symm)
  refine Ev.step (fun n => impl_Far.l3.eq_2 _ _ _ _ _ _) (eP ?_)
  rw [wi1, wk1, e1]
  refine eP (eP (eP (eP (eP (eP ?_)))))
  by_cases c : bt a (i : Int) = bt b (k : Int)
  ·exact evPos c (join _ (by rw [if_pos c]; omega))
  ·refine evNeg c (join _ ?_)
   rw [if_neg c, w6]
theorem far_impl_rows (a b : ByteArray) (ha : a.size ≤ 100) (hb : b.size ≤ 100) (d : Nat) : ∀ (i : Nat) (M : List (List Int)), i + d = a.size + 1 → 1 ≤ i → InvM a b M i 1 → Ev (fun n => impl_Far.l2 n a b M (i : Int)) (farD a b) := by
 induction d with
 | zero =>
  intro i M hi _ hM
  obtain rfl : i = a.size + 1 := by omega
  refine Ev.step (fun n => impl_Far.l2.eq_2 _ _ _ _ _) (eN ?_)
  rw [hM.2.2 a.size b.size (Nat.le_refl _) (Nat.le_refl _) (by omega)]
  have := hM.2.1 a.size (Nat.le_refl _)
  have := hM.1
  exact eP (eP (eP (eP (Ev.now _))))
 | succ d ih =>
  intro i M hi hi1 hM
  exact Ev.step (fun n => impl_Far.l2.eq_2 _ _ _ _ _) (eP (far_impl_row a b ha hb i (by omega) hi1 (fun M' hM' => ih (i + 1) M' (by omega) (by omega) (inv_next hM')) b.size 1 M (by omega) (by omega) hM))
theorem far_impl_first (a b : ByteArray) (ha : a.size ≤ 100) (hb : b.size ≤ 100) (d : Nat) : ∀ (k : Nat) (M : List (List Int)), k + d = b.size + 1 → M.length = a.size + 1 → (∀ j : Nat, j ≤ a.size → (rd_L10 M (j : Int)).length = b.size + 1) →
  (∀ j : Nat, 1 ≤ j → j ≤ a.size → rd (rd_L10 M (j : Int)) 0 = j) → (∀ j : Nat, j < k → rd (rd_L10 M 0) (j : Int) = j) → Ev (fun n => impl_Far.l1 n a b M ((b.size + 1 : Nat) : Int) (k : Int)) (farD a b) := by
 induction d with
 | zero =>
  intro k M hk h1 h2 h3 h4
  refine Ev.step (fun n => impl_Far.l1.eq_2 _ _ _ _ _ _) (eN (far_impl_rows a b ha hb a.size 1 M (by omega) (by omega) ⟨h1, h2, fun x y hx hy hc => ?_⟩))
  by_cases c : x = 0
  ·subst c
   rw [dist_zero]
   exact h4 y (by omega)
  ·obtain rfl : y = 0 := by omega
   rw [dist_nil]
   exact h3 x (by omega) hx
 | succ d ih =>
  intro k M hk h1 h2 h3 h4
  have z : (rd_L10 M ((0 : Nat) : Int)).length = b.size + 1 := h2 0 (by omega)
  have z' : (rd_L10 M 0).length = b.size + 1 := z
  refine Ev.step (fun n => impl_Far.l1.eq_2 _ _ _ _ _ _) (eP (eP (eP (eP ?_))))
  rw [w6, show ((k : Int) + 1) = ((k + 1 : Nat) : Int) from by omega, Int.toNat_natCast, show (0 : Int).toNat = 0 from rfl]
  have e0 : rd_L10 (M.set 0 ((rd_L10 M 0).set k (k : Int))) 0 = (rd_L10 M 0).set k (k : Int) := rl_set_eq M 0 _ (by omega)
  refine ih (k + 1) _ (by omega) (by simpa using h1) (fun j hj => ?_) (fun j hj1 hj => ?_) (fun j hj => ?_)
  ·by_cases c : 0 = j
   ·subst c
    show (rd_L10 (M.set 0 ((rd_L10 M 0).set k (k : Int))) 0).length = b.size + 1
    rw [e0, List.length_set]
    exact z'
   ·rw [rl_set_ne _ _ _ _ c]
    exact h2 j hj
  ·rw [rl_set_ne _ _ _ _ (by omega)]
   exact h3 j hj1 hj
  ·rw [e0]
   by_cases c : k = j
   ·subst c
    exact rd_setN_eq _ _ _ (by omega)
   ·rw [rd_setN_ne _ _ _ _ c]
    exact h4 j (by omega)
theorem far_impl_zero (a b : ByteArray) (ha : a.size ≤ 100) (hb : b.size ≤ 100) (d : Nat) : ∀ (i : Nat) (M : List (List Int)), i + d = a.size + 1 → M.length = a.size + 1 → (∀ j : Nat, j < i → rd_L10 M (j : Int) = (List.replicate (b.size + 1) 0).set 0 (j : Int)) →
  Ev (fun n => impl_Far.l0 n a b M ((a.size + 1 : Nat) : Int) (i : Int)) (farD a b) := by
 induction d with
 | zero =>
  intro i M hi h1 h2
  have z : rd_L10 M ((0 : Nat) : Int) = (List.replicate (b.size + 1) 0).set 0 ((0 : Nat) : Int) := h2 0 (by omega)
  have z' : rd_L10 M 0 = (List.replicate (b.size + 1) 0).set 0 0 := z
  refine Ev.step (fun n => impl_Far.l0.eq_2 _ _ _ _ _ _) (eN (eP ?_))
  have hl : ((rd_L10 M 0).length : Int) = ((b.size + 1 : Nat) : Int) := by rw [z']; simp
  rw [hl]
  refine far_impl_first a b ha hb (b.size + 1) 0 M (by omega) h1 (fun j hj => ?_) (fun j hj1 hj => ?_) (fun j hj => absurd hj (by omega))
  ·rw [h2 j (by omega)]
   simp
  ·rw [h2 j (by omega)]
   exact rd_setN_eq _ 0 _ (by simp)
 | succ d ih =>
  intro i M hi h1 h2
  have wb : wrap64 ((b.size : Int) + 1) = ((b.size + 1 : Nat) : Int) := by rw [w6]; omega
  have wi : wrap64 ((i : Int) + 1) = ((i + 1 : Nat) : Int) := by rw [w6]; omega
  have e : rd_L10 (M.set i (List.replicate (b.size + 1) 0)) (i : Int) = List.replicate (b.size + 1) 0 := rl_set_eq _ _ _ (by omega)
  refine Ev.step (fun n => impl_Far.l0.eq_2 _ _ _ _ _ _) (eP ?_)
  rw [wb, Int.toNat_natCast, Int.toNat_natCast]
  refine eP (eP (eP (eP (evCall rfl ?_))))
  rw [e, wi, show (0 : Int).toNat = 0 from rfl]
  refine evPos (by simp) (ih (i + 1) _ (by omega) (by simpa using h1) (fun j hj => ?_))
  by_cases c : i = j
  ·subst c
   rw [rl_set_eq _ _ _ (by simp; omega)]
  ·rw [rl_set_ne _ _ _ _ c, rl_set_ne _ _ _ _ c]
   exact h2 j (by omega)
theorem far_impl (a b : ByteArray) (ha : a.size ≤ 140737488351232) (hb : b.size ≤ 140737488351232) : Ev (fun n => impl_Far.f n a b) (farB a b) := by
 unfold impl_Far.f
 refine Ev.bind (word_impl a ha) ?_
 cases e1 : wordB a with
 | false => exact evNeg (by simp) (Ev.step (fun n => impl_Far.j0.eq_2 _ _ _ _) (evPos rfl (evTo (Ev.now _) (by simp [farB, e1]))))
 | true =>
  have h1 := wordB_size e1
  refine evPos rfl (Ev.bind (word_impl b hb) ?_)
  cases e2 : wordB b with
  | false => exact Ev.step (fun n => impl_Far.j0.eq_2 _ _ _ _) (evPos rfl (evTo (Ev.now _) (by simp [farB, e2])))
  | true =>
   have h2 := wordB_size e2
   have wa : wrap64 ((a.size : Int) + 1) = ((a.size + 1 : Nat) : Int) := by rw [w6]; omega
   refine Ev.step (fun n => impl_Far.j0.eq_2 _ _ _ _) (evNeg (by simp) ?_)
   rw [wa, Int.toNat_natCast]
   refine eP (eP (evCall rfl ?_))
   have hl : ((List.replicate (a.size + 1) ([] : List Int)).length : Int) = ((a.size + 1 : Nat) : Int) := by simp
   rw [hl]
   exact evTo (far_impl_zero a b (by omega) (by omega) (a.size + 1) 0 _ (by omega) (by simp) (fun j hj => absurd hj (by omega))) (by simp [farB, e1, e2])
theorem mdHas_loop (l : List ByteArray) (x : ByteArray) (hl : l.length ≤ 10000000) (d : Nat) : ∀ i : Nat, i + d = l.length → Ev (fun k => laws_mdHas.l0 k l x (i : Int)) ((l.drop i).any (fun y => y.toList == x.toList)) := by
 induction d with
 | zero =>
  intro i hi
  refine Ev.step (fun k => laws_mdHas.l0.eq_2 _ _ _ _) (eN (evTo (Ev.now _) ?_))
  rw [List.drop_eq_nil_of_le (by omega)]
  rfl
 | succ d ih =>
  intro i hi
  have hlt : i < l.length := by omega
  refine Ev.step (fun k => laws_mdHas.l0.eq_2 _ _ _ _) (eP (eP ?_))
  rw [ba_get l i hlt, w6 (n := (i : Int) + 1), List.drop_eq_getElem_cons hlt, List.any_cons]
  by_cases c : l[i].toList = x.toList
  ·exact evPos c (evTo (Ev.now _) (by simp [c]))
  ·have cb : (l[i].toList == x.toList) = false := by simpa using c
   rw [cb, Bool.false_or]
   exact evNeg c (ih (i + 1) (by omega))
theorem mdHas_ev (l : List ByteArray) (x : ByteArray) (hl : l.length ≤ 10000000) : ∃ b : Bool, Ev (fun k => laws_mdHas.f k l x) b ∧ (b = true ↔ x ∈ l) := by
 refine ⟨_, mdHas_loop l x hl l.length 0 (by omega), ?_⟩
 rw [List.drop_zero, List.any_eq_true]
 constructor
 ·rintro ⟨y, hy, e⟩
  rw [← (toList_iff y x).1 (by simpa using e)]
  exact hy
 ·exact fun h => ⟨x, h, by simp⟩
theorem mdTexts_loop (l : List ByteArray) (hl : l.length ≤ 10000000) (d : Nat) : ∀ i : Nat, i + d = l.length → Ev (fun k => laws_mdTexts.l0 k l l (i : Int)) true := by
 induction d with
 | zero =>
  intro i hi
  exact Ev.step (fun k => laws_mdTexts.l0.eq_2 _ _ _ _) (eN (Ev.now _))
 | succ d ih =>
  intro i hi
  refine Ev.step (fun k => laws_mdTexts.l0.eq_2 _ _ _ _) (eP (eP (eP (evPos rfl ?_))))
  rw [w6]
  exact ih (i + 1) (by omega)
theorem mdTexts_ev (l : List ByteArray) (hl : l.length ≤ 10000000) : Ev (fun k => laws_mdTexts.f k l l) true := by
 unfold laws_mdTexts.f
 exact evPos rfl (mdTexts_loop l hl l.length 0 (by omega))
theorem dk1 {α : Type} (P : List α) (a : α) (R : List α) : (P ++ a :: R).drop (P.length + 1) = R := by
 simp
theorem dk2 {α : Type} (P : List α) (a b : α) (R : List α) : (P ++ a :: b :: R).drop (P.length + 2) = R := by
 simp
theorem mem_at {s x : ByteArray} {i : Nat} (hi : i ≤ s.size) (h : x ∈ candsAt s i) : x ∈ candsFrom s 0 := by
 unfold candsFrom
 exact List.mem_flatMap.2 ⟨i, List.mem_range'_1.2 (by omega), h⟩
theorem mem_let {s x : ByteArray} {i c : Nat} (hi : i ≤ s.size) (h1 : 97 ≤ c) (h2 : c ≤ 122) (h : x ∈ letAt s i c) : x ∈ candsFrom s 0 := by
 refine mem_at hi ?_
 unfold candsAt lettersAt
 exact List.mem_append_left _ (List.mem_flatMap.2 ⟨c, List.mem_range'_1.2 (by omega), h⟩)
theorem mem_ins {s : ByteArray} {i c : Nat} (hi : i ≤ s.size) (h1 : 97 ≤ c) (h2 : c ≤ 122) : insB s i c ∈ candsFrom s 0 := by
 refine mem_let hi h1 h2 ?_
 unfold letAt
 split <;> simp
theorem mem_sub {s : ByteArray} {i c : Nat} (hi : i < s.size) (h1 : 97 ≤ c) (h2 : c ≤ 122) : subB s i c ∈ candsFrom s 0 := by
 refine mem_let (Nat.le_of_lt hi) h1 h2 ?_
 unfold letAt
 rw [if_pos hi]
 simp
theorem mem_del {s : ByteArray} {i : Nat} (hi : i < s.size) : delB s i ∈ candsFrom s 0 := by
 refine mem_at (Nat.le_of_lt hi) ?_
 unfold candsAt delAt
 rw [if_pos hi]
 simp
theorem mem_swp {s : ByteArray} {i : Nat} (hi : i + 1 < s.size) : swpB s i ∈ candsFrom s 0 := by
 refine mem_at (i := i) (by omega) ?_
 unfold candsAt swpAt
 rw [if_pos hi]
 simp
theorem low_nat {s : ByteArray} (hs : wordB s = true) {d : Int} (hd : d ∈ bytesOf s) : ∃ n : Nat, d = (n : Int) ∧ 97 ≤ n ∧ n ≤ 122 := by
 have := ((wordL_iff _).1 hs).2.2 d hd
 exact ⟨d.toNat, by omega, by omega, by omega⟩
theorem split_at (s : ByteArray) (i : Nat) (hi : i ≤ s.size) : ∃ P Q : List Int, bytesOf s = P ++ Q ∧ P.length = i :=
 ⟨(bytesOf s).take i, (bytesOf s).drop i, (List.take_append_drop i (bytesOf s)).symm, by rw [List.length_take, bytesOf_length]; exact Nat.min_eq_left hi⟩
theorem size_of {s : ByteArray} {l : List Int} (h : bytesOf s = l) : s.size = l.length := by rw [← h, bytesOf_length]
theorem bt_nat (s : ByteArray) (j : Nat) : bt s (j : Int) = ((bytesOf s)[j]?).getD 0 := by
 rw [← rd_bytesOf]
 simp [rd, List.getD_eq_getElem?_getD]
theorem bytes_atN (s : ByteArray) (j : Nat) : (bytesOf s)[j]? = if j < s.size then some (bt s (j : Int)) else none := by
 rw [bt_nat]
 by_cases h : j < s.size
 ·rw [if_pos h, List.getElem?_eq_getElem (by rw [bytesOf_length]; exact h)]
  rfl
 ·rw [if_neg h]
  exact List.getElem?_eq_none (by rw [bytesOf_length]; omega)
theorem drop_nat (s : ByteArray) (p : Nat) (h : p < s.size) : (bytesOf s).drop p = bt s (p : Int) :: (bytesOf s).drop (p + 1) := by
 have := bytes_drop s (p : Int) (by omega) (by omega)
 rwa [Int.toNat_natCast, show ((p : Int) + 1).toNat = p + 1 from by omega] at this
def OneAt (a b : ByteArray) (i k p : Nat) : Prop :=
 (∀ j : Nat, j < p → bt a (j : Int) = bt b (j : Int)) ∧
 ((k = i + 1 ∧ p ≤ i ∧ ∀ j : Nat, p ≤ j → j < i → bt a (j : Int) = bt b ((j + 1 : Nat) : Int)) ∨
 (i = k + 1 ∧ p ≤ k ∧ ∀ j : Nat, p ≤ j → j < k → bt a ((j + 1 : Nat) : Int) = bt b (j : Int)) ∨
 (i = k ∧ p < i ∧ ∀ j : Nat, p < j → j < i → bt a (j : Int) = bt b (j : Int)) ∨
 (i = k ∧ p + 1 < i ∧ bt a (p : Int) = bt b ((p + 1 : Nat) : Int) ∧ bt a ((p + 1 : Nat) : Int) = bt b (p : Int) ∧ ∀ j : Nat, p + 1 < j → j < i → bt a (j : Int) = bt b (j : Int)))
theorem one_ext {a b : ByteArray} {i k p : Nat} (h : OneAt a b i k p) (e : bt a (i : Int) = bt b (k : Int)) : OneAt a b (i + 1) (k + 1) p := by
 obtain ⟨h0, h⟩ := h
 refine ⟨h0, ?_⟩
 rcases h with ⟨rfl, h1, h2⟩ | ⟨rfl, h1, h2⟩ | ⟨rfl, h1, h2⟩ | ⟨rfl, h1, h2, h3, h4⟩
 ·refine .inl ⟨rfl, by omega, fun j h5 h6 => ?_⟩
  by_cases c : j = i
  ·rw [c]
   exact e
  ·exact h2 j h5 (by omega)
 ·refine .inr (.inl ⟨rfl, by omega, fun j h5 h6 => ?_⟩)
  by_cases c : j = k
  ·rw [c]
   exact e
  ·exact h2 j h5 (by omega)
 ·refine .inr (.inr (.inl ⟨rfl, by omega, fun j h5 h6 => ?_⟩))
  by_cases c : j = i
  ·rw [c]
   exact e
  ·exact h2 j h5 (by omega)
 ·refine .inr (.inr (.inr ⟨rfl, by omega, h2, h3, fun j h5 h6 => ?_⟩))
  by_cases c : j = i
  ·rw [c]
   exact e
  ·exact h4 j h5 (by omega)
theorem dist_le1 (a b : ByteArray) (i k : Nat) : dist a b (i + 1) (k + 1) ≤ dist a b i k + (if bt a (i : Int) = bt b (k : Int) then 0 else 1) ∧ dist a b (i + 1) (k + 1) ≤ dist a b i (k + 1) + 1 ∧ dist a b (i + 1) (k + 1) ≤ dist a b (i + 1) k + 1 := by
 have h : dist a b (i + 1) (k + 1) ≤ dist3 a b i k := by
  rw [dist_succ]
  split <;> omega
 have h3 : dist3 a b i k ≤ dist a b i k + (if bt a (i : Int) = bt b (k : Int) then 0 else 1) ∧ dist3 a b i k ≤ dist a b i (k + 1) + 1 ∧ dist3 a b i k ≤ dist a b (i + 1) k + 1 := by
  unfold dist3
  omega
 omega
theorem dist_ext (a b : ByteArray) (i k n : Nat) : (∀ j : Nat, j < n → bt a ((i + j : Nat) : Int) = bt b ((k + j : Nat) : Int)) → dist a b (i + n) (k + n) ≤ dist a b i k := by
 induction n with
 | zero => exact fun _ => Int.le_refl _
 | succ n ih =>
  intro h
  have h1 := (dist_le1 a b (i + n) (k + n)).1
  rw [if_pos (h n (by omega))] at h1
  have h2 := ih (fun j hj => h j (by omega))
  show dist a b (i + n + 1) (k + n + 1) ≤ _
  omega
theorem dist_same (a b : ByteArray) (p : Nat) (h : ∀ j : Nat, j < p → bt a (j : Int) = bt b (j : Int)) : dist a b p p = 0 := (dist_facts a b _ p p (Nat.le_refl _)).2.2.2.2.1.2 ⟨rfl, h⟩
theorem one_dist {a b : ByteArray} {i k p : Nat} (h : OneAt a b i k p) : dist a b i k ≤ 1 := by
 obtain ⟨h0, h⟩ := h
 have hp := dist_same a b p h0
 rcases h with ⟨rfl, h1, h2⟩ | ⟨rfl, h1, h2⟩ | ⟨rfl, h1, h2⟩ | ⟨rfl, h1, h2, h3, h4⟩
 ·obtain ⟨n, rfl⟩ : ∃ n, i = p + n := ⟨i - p, by omega⟩
  have e1 := dist_ext a b p (p + 1) n (fun j hj => by rw [h2 (p + j) (by omega) (by omega), show p + j + 1 = p + 1 + j from by omega])
  have e2 : dist a b p (p + 1) ≤ 1 := by
   cases p with
   | zero =>
    rw [dist_zero]
    omega
   | succ p =>
    have := (dist_le1 a b p (p + 1)).2.2
    omega
  rw [show p + n + 1 = p + 1 + n from by omega]
  omega
 ·obtain ⟨n, rfl⟩ : ∃ n, k = p + n := ⟨k - p, by omega⟩
  have e1 := dist_ext a b (p + 1) p n (fun j hj => by rw [← h2 (p + j) (by omega) (by omega), show p + j + 1 = p + 1 + j from by omega])
  have e2 : dist a b (p + 1) p ≤ 1 := by
   cases p with
   | zero =>
    rw [dist_nil]
    omega
   | succ p =>
    have := (dist_le1 a b (p + 1) p).2.1
    omega
  rw [show p + n + 1 = p + 1 + n from by omega]
  omega
 ·obtain ⟨n, rfl⟩ : ∃ n, i = p + 1 + n := ⟨i - (p + 1), by omega⟩
  have e1 := dist_ext a b (p + 1) (p + 1) n (fun j hj => h2 (p + 1 + j) (by omega) (by omega))
  have e2 := (dist_le1 a b p p).1
  have e3 : (if bt a (p : Int) = bt b (p : Int) then (0 : Int) else 1) ≤ 1 := by split <;> omega
  omega
 ·obtain ⟨n, rfl⟩ : ∃ n, i = p + 2 + n := ⟨i - (p + 2), by omega⟩
  have e1 := dist_ext a b (p + 2) (p + 2) n (fun j hj => h4 (p + 2 + j) (by omega) (by omega))
  have e2 : dist a b (p + 2) (p + 2) ≤ 1 := by
   rw [show p + 2 = (p + 1) + 1 from rfl, dist_succ, if_pos ⟨by omega, by omega, by rw [Nat.add_sub_cancel]; exact h3, by rw [Nat.add_sub_cancel]; exact h2⟩, Nat.add_sub_cancel]
   omega
  omega
theorem dist_one (a b : ByteArray) : ∀ n i k : Nat, i + k ≤ n → dist a b i k = 1 → ∃ p, OneAt a b i k p := by
 intro n
 induction n with
 | zero =>
  intro i k h e
  obtain rfl : i = 0 := by omega
  rw [dist_zero] at e
  omega
 | succ n ih =>
  intro i k h e
  cases i with
  | zero =>
   rw [dist_zero] at e
   exact ⟨0, fun j hj => absurd hj (by omega), .inl ⟨by omega, by omega, fun j _ hj => absurd hj (by omega)⟩⟩
  | succ i =>
   cases k with
   | zero =>
    rw [dist_nil] at e
    exact ⟨0, fun j hj => absurd hj (by omega), .inr (.inl ⟨by omega, by omega, fun j _ hj => absurd hj (by omega)⟩)⟩
   | succ k =>
    have three : dist3 a b i k = 1 → ∃ p, OneAt a b (i + 1) (k + 1) p := by
     intro h3
     have hc : dist a b i k + (if bt a (i : Int) = bt b (k : Int) then 0 else 1) = 1 ∨ dist a b i (k + 1) = 0 ∨ dist a b (i + 1) k = 0 := by
      unfold dist3 at h3
      omega
     rcases hc with hc | hc | hc
     ·by_cases c : bt a (i : Int) = bt b (k : Int)
      ·rw [if_pos c] at hc
       obtain ⟨p, hp⟩ := ih i k (by omega) (by omega)
       exact ⟨p, one_ext hp c⟩
      ·rw [if_neg c] at hc
       have := (dist_facts a b _ i k (Nat.le_refl _)).2.2.2.2.1.1 (by omega)
       exact ⟨i, this.2, .inr (.inr (.inl ⟨by omega, by omega, fun j h1 h2 => absurd h2 (by omega)⟩))⟩
     ·have := (dist_facts a b _ i (k + 1) (Nat.le_refl _)).2.2.2.2.1.1 hc
      exact ⟨i, this.2, .inr (.inl ⟨by omega, by omega, fun j h1 h2 => absurd h2 (by omega)⟩)⟩
     ·have := (dist_facts a b _ (i + 1) k (Nat.le_refl _)).2.2.2.2.1.1 hc
      exact ⟨i + 1, this.2, .inl ⟨by omega, by omega, fun j h1 h2 => absurd h2 (by omega)⟩⟩
    rw [dist_succ] at e
    split at e
    ·rename_i c
     have hc : dist3 a b i k = 1 ∨ dist a b (i - 1) (k - 1) = 0 := by omega
     rcases hc with hc | hc
     ·exact three hc
     ·have := (dist_facts a b _ (i - 1) (k - 1) (Nat.le_refl _)).2.2.2.2.1.1 hc
      obtain ⟨i, rfl⟩ : ∃ m, i = m + 1 := ⟨i - 1, by omega⟩
      obtain ⟨k, rfl⟩ : ∃ m, k = m + 1 := ⟨k - 1, by omega⟩
      simp only [Nat.add_sub_cancel] at this c
      obtain rfl : i = k := this.1
      exact ⟨i, this.2, .inr (.inr (.inr ⟨rfl, by omega, c.2.2.2, c.2.2.1, fun j h1 h2 => absurd h2 (by omega)⟩))⟩
    ·exact three e
theorem at_mem (s : ByteArray) (p : Nat) (h : p < s.size) : bt s (p : Int) ∈ bytesOf s := List.mem_of_getElem? ((bytes_atN s p).trans (if_pos h))
theorem one_cand {a b : ByteArray} (hb : wordB b = true) {p : Nat} (h : OneAt a b a.size b.size p) : b ∈ candsFrom a 0 := by
 obtain ⟨h0, h⟩ := h
 have pre : p ≤ a.size → p ≤ b.size → ∀ (X : List Int) (j : Nat), j < p → (bytesOf b)[j]? = ((bytesOf a).take p ++ X)[j]? := by
  intro q1 q2 X j hj
  have hl : ((bytesOf a).take p).length = p := by rw [List.length_take, bytesOf_length]; omega
  rw [List.getElem?_append_left (by omega), List.getElem?_take_of_lt hj, bytes_atN, bytes_atN, if_pos (by omega), if_pos (by omega), h0 j hj]
 have suf : p ≤ a.size → ∀ (X : List Int) (m : Nat), ((bytesOf a).take p ++ X)[p + m]? = X[m]? := by
  intro q1 X m
  have hl : ((bytesOf a).take p).length = p := by rw [List.length_take, bytesOf_length]; omega
  rw [List.getElem?_append_right (by omega), hl, Nat.add_sub_cancel_left]
 rcases h with ⟨hk, h1, h2⟩ | ⟨hk, h1, h2⟩ | ⟨hk, h1, h2⟩ | ⟨hk, h1, h2, h3, h4⟩
 ·obtain ⟨n, hn, n1, n2⟩ := low_nat hb (at_mem b p (by omega))
  have : b = insB a p (n : Int) := bytes_inj (by
   rw [insB_bytes a p n (by omega)]
   refine List.ext_getElem? fun j => ?_
   by_cases c1 : j < p
   ·exact pre (by omega) (by omega) _ j c1
   obtain ⟨m, rfl⟩ : ∃ m, j = p + m := ⟨j - p, by omega⟩
   rw [suf (by omega)]
   cases m with
   | zero => rw [bytes_atN, if_pos (by omega), List.getElem?_cons_zero, Nat.add_zero, hn]
   | succ m =>
    rw [List.getElem?_cons_succ, List.getElem?_drop, bytes_atN, bytes_atN]
    by_cases c3 : p + m < a.size
    ·rw [if_pos (by omega), if_pos c3, h2 (p + m) (by omega) c3]
     rfl
    ·rw [if_neg (by omega), if_neg c3])
  rw [this]
  exact mem_ins (by omega) n1 n2
 ·have : b = delB a p := bytes_inj (by
   rw [delB_bytes]
   refine List.ext_getElem? fun j => ?_
   by_cases c1 : j < p
   ·exact pre (by omega) (by omega) _ j c1
   obtain ⟨m, rfl⟩ : ∃ m, j = p + m := ⟨j - p, by omega⟩
   rw [suf (by omega), List.getElem?_drop, bytes_atN, bytes_atN]
   by_cases c3 : p + m < b.size
   ·rw [if_pos c3, if_pos (by omega), ← h2 (p + m) (by omega) c3, show p + 1 + m = p + m + 1 from by omega]
   ·rw [if_neg c3, if_neg (by omega)])
  rw [this]
  exact mem_del (by omega)
 ·obtain ⟨n, hn, n1, n2⟩ := low_nat hb (at_mem b p (by omega))
  have : b = subB a p (n : Int) := bytes_inj (by
   rw [subB_bytes a p n (by omega)]
   refine List.ext_getElem? fun j => ?_
   by_cases c1 : j < p
   ·exact pre (by omega) (by omega) _ j c1
   obtain ⟨m, rfl⟩ : ∃ m, j = p + m := ⟨j - p, by omega⟩
   rw [suf (by omega)]
   cases m with
   | zero => rw [bytes_atN, if_pos (by omega), List.getElem?_cons_zero, Nat.add_zero, hn]
   | succ m =>
    rw [List.getElem?_cons_succ, List.getElem?_drop, bytes_atN, bytes_atN]
    by_cases c3 : p + (m + 1) < b.size
    ·rw [if_pos c3, if_pos (by omega), ← h2 (p + (m + 1)) (by omega) (by omega), show p + 1 + m = p + (m + 1) from by omega]
    ·rw [if_neg c3, if_neg (by omega)])
  rw [this]
  exact mem_sub (by omega) n1 n2
 ·have : b = swpB a p := bytes_inj (by
   rw [swpB_bytes, drop_nat a (p + 1) (by omega), drop_nat a p (by omega)]
   refine List.ext_getElem? fun j => ?_
   by_cases c1 : j < p
   ·exact pre (by omega) (by omega) _ j c1
   obtain ⟨m, rfl⟩ : ∃ m, j = p + m := ⟨j - p, by omega⟩
   rw [suf (by omega)]
   match m with
   | 0 =>
    rw [bytes_atN, if_pos (by omega), Nat.add_zero, ← h3]
    rfl
   | 1 =>
    rw [bytes_atN, if_pos (by omega), ← h2]
    rfl
   | m + 2 =>
    show _ = ((bytesOf a).drop (p + 2))[m]?
    rw [List.getElem?_drop, bytes_atN, bytes_atN]
    by_cases c3 : p + (m + 2) < b.size
    ·rw [if_pos c3, if_pos (by omega), ← h4 (p + (m + 2)) (by omega) (by omega), show p + 2 + m = p + (m + 2) from by omega]
    ·rw [if_neg c3, if_neg (by omega)])
  rw [this]
  exact mem_swp (by omega)
theorem ap_lt {P X : List Int} {j : Nat} (h : j < P.length) : (P ++ X)[j]? = P[j]? := List.getElem?_append_left h
theorem ap_ge (P X : List Int) (m : Nat) : (P ++ X)[P.length + m]? = X[m]? := by rw [List.getElem?_append_right (by omega), Nat.add_sub_cancel_left]
theorem cand_one {s x : ByteArray} (hx : x ∈ candsFrom s 0) : ∃ p, OneAt s x s.size x.size p := by
 unfold candsFrom at hx
 obtain ⟨i, hi, hx⟩ := List.mem_flatMap.1 hx
 have hi2 := (List.mem_range'_1.1 hi).2
 have hle : i ≤ s.size := by omega
 obtain ⟨P, Q, hS, hP⟩ := split_at s i hle
 have zS := size_of hS
 rw [List.length_append] at zS
 have pre : ∀ {Y : List Int}, bytesOf x = P ++ Y → ∀ j : Nat, j < P.length → bt s (j : Int) = bt x (j : Int) := by
  intro Y hX j hj
  rw [bt_nat, bt_nat, hS, hX, ap_lt hj, ap_lt hj]
 have insCase : ∀ c : Nat, c ≤ 122 → x = insB s i (c : Int) → ∃ p, OneAt s x s.size x.size p := by
  intro c hc e
  have hX : bytesOf x = P ++ (c : Int) :: Q := by rw [e, insB_bytes s i c (by omega), hS, ← hP, List.take_left, List.drop_left]
  have hz := size_of hX
  rw [List.length_append, List.length_cons] at hz
  refine ⟨P.length, pre hX, .inl ⟨by omega, by omega, fun j h1 h2 => ?_⟩⟩
  obtain ⟨m, rfl⟩ : ∃ m, j = P.length + m := ⟨j - P.length, by omega⟩
  rw [bt_nat, bt_nat, hS, hX, ap_ge, show P.length + m + 1 = P.length + (m + 1) from by omega, ap_ge, List.getElem?_cons_succ]
 unfold candsAt at hx
 rcases List.mem_append.1 hx with hx | hx
 ·unfold lettersAt at hx
  obtain ⟨c, hc, hx⟩ := List.mem_flatMap.1 hx
  have hc2 := (List.mem_range'_1.1 hc)
  unfold letAt at hx
  split at hx
  ·rename_i hlt
   rcases List.mem_cons.1 hx with hx | hx
   ·exact insCase c (by omega) hx
   ·have e := List.mem_singleton.1 hx
    cases Q with
    | nil =>
     simp at zS
     omega
    | cons d Q =>
     have hX : bytesOf x = P ++ (c : Int) :: Q := by rw [e, subB_bytes s i c (by omega), hS, ← hP, List.take_left, dk1]
     have hz := size_of hX
     rw [List.length_append, List.length_cons] at hz
     rw [List.length_cons] at zS
     refine ⟨P.length, pre hX, .inr (.inr (.inl ⟨by omega, by omega, fun j h1 h2 => ?_⟩))⟩
     obtain ⟨m, rfl⟩ : ∃ m, j = P.length + (m + 1) := ⟨j - P.length - 1, by omega⟩
     rw [bt_nat, bt_nat, hS, hX, ap_ge, ap_ge, List.getElem?_cons_succ, List.getElem?_cons_succ]
  ·exact insCase c (by omega) (List.mem_singleton.1 hx)
 ·rcases List.mem_append.1 hx with hx | hx
  ·unfold delAt at hx
   split at hx
   ·rename_i hlt
    have e := List.mem_singleton.1 hx
    cases Q with
    | nil =>
     simp at zS
     omega
    | cons d Q =>
     have hX : bytesOf x = P ++ Q := by rw [e, delB_bytes, hS, ← hP, List.take_left, dk1]
     have hz := size_of hX
     rw [List.length_append] at hz
     rw [List.length_cons] at zS
     refine ⟨P.length, pre hX, .inr (.inl ⟨by omega, by omega, fun j h1 h2 => ?_⟩)⟩
     obtain ⟨m, rfl⟩ : ∃ m, j = P.length + m := ⟨j - P.length, by omega⟩
     rw [bt_nat, bt_nat, hS, hX, ap_ge, show P.length + m + 1 = P.length + (m + 1) from by omega, ap_ge, List.getElem?_cons_succ]
   ·cases hx
  ·unfold swpAt at hx
   split at hx
   ·rename_i hlt
    have e := List.mem_singleton.1 hx
    match Q, hS, zS with
    | [], _, zS => simp at zS; omega
    | [d], _, zS => simp at zS; omega
    | d :: f :: Q, hS, zS =>
     have hX : bytesOf x = P ++ f :: d :: Q := by
      rw [e, swpB_bytes, hS, ← hP, List.take_left, dk1, List.drop_left, dk2]
      simp
     have hz := size_of hX
     rw [List.length_append, List.length_cons, List.length_cons] at hz
     rw [List.length_cons, List.length_cons] at zS
     refine ⟨P.length, pre hX, .inr (.inr (.inr ⟨by omega, by omega, ?_, ?_, fun j h1 h2 => ?_⟩))⟩
     ·have e0 := ap_ge P (d :: f :: Q) 0
      rw [Nat.add_zero] at e0
      rw [bt_nat, bt_nat, hS, hX, ap_ge, e0]
      rfl
     ·have e0 := ap_ge P (f :: d :: Q) 0
      rw [Nat.add_zero] at e0
      rw [bt_nat, bt_nat, hS, hX, ap_ge, e0]
      rfl
     ·obtain ⟨m, rfl⟩ : ∃ m, j = P.length + (m + 2) := ⟨j - P.length - 2, by omega⟩
      rw [bt_nat, bt_nat, hS, hX, ap_ge, ap_ge]
      rfl
   ·cases hx
theorem near_far {a b : ByteArray} (hb : wordB b = true) : (b ∈ candsFrom a 0 ∧ b ≠ a) ↔ farD a b = 1 := by
 constructor
 ·rintro ⟨h, hne⟩
  obtain ⟨p, hp⟩ := cand_one h
  have h1 := one_dist hp
  have h2 := (dist_facts a b _ a.size b.size (Nat.le_refl _)).2.2.2.2.2
  have h3 : farD a b ≠ 0 := fun e => hne ((farD_zero a b).1 e).symm
  unfold farD at *
  omega
 ·intro h
  refine ⟨?_, ?_⟩
  ·obtain ⟨p, hp⟩ := dist_one a b _ a.size b.size (Nat.le_refl _) h
   exact one_cand hb hp
  ·rintro rfl
   rw [(farD_zero b b).2 rfl] at h
   omega
theorem near_is {a b : ByteArray} (ha : wordB a = true) : b ∈ nearL a ↔ farB a b = 1 := by
 rw [nearL_mem]
 unfold farB
 by_cases hb : wordB b = true
 ·rw [if_pos ⟨ha, hb⟩, ← near_far hb]
  exact ⟨fun h => ⟨h.1, h.2.1⟩, fun h => ⟨h.1, h.2, hb⟩⟩
 ·rw [if_neg (fun h => hb h.2)]
  exact ⟨fun h => absurd h.2.2 hb, fun h => by omega⟩
theorem word_spec (s : ByteArray) (h : s.size ≤ 140737488351232) : Ev (fun k => spec_WordOk.f k s) (wordB s) := Ev.bind (l1Word_spec s h) (Ev.now _)
theorem drawMG_ev (l : List Int) (hw : ∀ x ∈ l, (Lit.int .u8 x).wf = true) : ∃ m s, Ev (fun k => spec_DrawMachineGuesses.f k l) (m, s) ∧ MZ m ∧ s.size ≤ 1000 := by
 obtain ⟨t, hs, hr⟩ := open_ev l hw
 obtain ⟨m, p, hm, ⟨m1, m2⟩, q1, q2⟩ := anyMachine_ev hr (by omega)
 have hl1 : m.length ≤ 1048576 := by omega
 have hs1 : ∀ s ∈ m, s.f1.length ≤ 1048576 := fun s hs => by have := m2 s hs; omega
 have hsm := small_spec m hl1 hs1
 obtain ⟨s, p', h1, h2, p0, p1⟩ := any13_ev (hr.at_ p (by omega) (by omega)) (by omega)
 have stay : ∀ q, Ev (fun k => spec_DrawMachineGuesses.j0 k m s false t q) (m, s) := fun q => Ev.step (fun k => spec_DrawMachineGuesses.j0.eq_2 ..) (evNeg (by simp) (Ev.now _))
 cases e : (machOk m && decide (rd (cnts m) 0 < 1000000000)) with
 | false =>
  rw [e] at hsm
  exact ⟨m, s, evCall hs (Ev.bind hm (Ev.bind h1 (Ev.bind hsm (evNeg (by simp) (stay _))))), ⟨m1, m2⟩, by omega⟩
 | true =>
  rw [e] at hsm
  obtain ⟨v, hv, v0, v1⟩ := pick_ev (hr.at_ p' (by omega) (by omega)) 2 (by omega)
  have start : ∀ x, Ev (fun k => spec_DrawMachineGuesses.j0 k m s (v == 0) t (p' + 1)) (m, x) → Ev (fun k => spec_DrawMachineGuesses.f k l) (m, x) := fun x h => evCall hs (Ev.bind hm (Ev.bind h1 (Ev.bind hsm (evPos rfl (Ev.bind hv h)))))
  by_cases c : v = 0
  ·have hc := mcount_spec m hl1 hs1
   have hb := (cnts_bounds m 0).2
   have hcb : mcountB m ≤ 1000000000 := by
    unfold mcountB
    split <;> omega
   by_cases c2 : mcountB m > 0
   ·obtain ⟨j, hj, j0, j1⟩ := pick_ev (hr.at_ (p' + 1) (by omega) (by omega)) (mcountB m) (by omega)
    have hz := mwordB_size m1 j
    obtain ⟨x, p2, h3, h4, _, _⟩ := other_evL (hr.at_ (p' + 1 + 1) (by omega) (by omega)) (by omega) (mwordB m j) (by omega)
    exact ⟨m, x, start _ (Ev.step (fun k => spec_DrawMachineGuesses.j0.eq_2 ..) (evPos (by simp [c]) (Ev.bind hc (evPos c2 (Ev.bind hj (Ev.bind (mword_spec m hl1 hs1 j) (Ev.bind h3 (Ev.now _)))))))), ⟨m1, m2⟩, by omega⟩
   ·exact ⟨m, s, start _ (Ev.step (fun k => spec_DrawMachineGuesses.j0.eq_2 ..) (evPos (by simp [c]) (Ev.bind hc (evNeg c2 (Ev.now _))))), ⟨m1, m2⟩, by omega⟩
  ·refine ⟨m, s, start _ ?_, ⟨m1, m2⟩, by omega⟩
   rw [show (v == 0) = false from by simp [c]]
   exact stay _
theorem mword_knows (m : List St) (i : Int) : mwordB m i = ⟨#[]⟩ ∨ knows m (mwordB m i) = true := by
 by_cases h : machOk m = true ∧ rd (cnts m) 0 < 1000000000 ∧ 0 ≤ i ∧ i < rd (cnts m) 0
 ·refine .inr ?_
  obtain ⟨ok, h2, h3, h4⟩ := h
  obtain ⟨g1, g2, g3⟩ := machOk_facts ok
  obtain ⟨k1, k2, k3, k4⟩ := word_law m g3 m.length 0 i (by omega) (by omega) h3 h4 h2
  have ew : mwordB m i = strOfNums (wAt m (cnts m) m.length 0 i) := if_pos ⟨ok, h2, h3, h4⟩
  have hb : bytesOf (mwordB m i) = wAt m (cnts m) m.length 0 i := by
   rw [ew]
   exact bytesOf_nums _ (fun x hx => by have := k3 x hx; omega)
  rw [knows_acc ok, hb]
  exact k1
 ·exact .inl (if_neg h)
theorem mg_l1 (m : List St) (hm : m.length ≤ 1048576) (hs : ∀ s ∈ m, s.f1.length ≤ 1048576) (L : List ByteArray) (hl : L.length ≤ 1000000) (ha : Asc L) (hk : ∀ x ∈ L, knows m x = true) (hz : ∀ x ∈ L, x.size ≤ 1048576) (d : Nat) : ∀ i : Nat, i + d = L.length → Ev (fun k => laws_FnMachineGuesses.l1 k m L (i : Int)) true := by
 induction d with
 | zero =>
  intro i hi
  exact Ev.step (fun k => laws_FnMachineGuesses.l1.eq_2 ..) (eN (Ev.now _))
 | succ d ih =>
  intro i hi
  have hlt : i < L.length := by omega
  have hw : wrap64 ((i : Int) + 1) = ((i + 1 : Nat) : Int) := w6
  have kn := knows_impl m hm hs L[i] (hz _ (List.getElem_mem hlt))
  rw [hk _ (List.getElem_mem hlt)] at kn
  refine Ev.step (fun k => laws_FnMachineGuesses.l1.eq_2 ..) (eP (eP ?_))
  rw [ba_get L i hlt, hw]
  refine Ev.bind kn (evPos rfl ?_)
  by_cases c : (i : Int) > 0
  ·obtain ⟨q, rfl⟩ : ∃ q, i = q + 1 := ⟨i - 1, by omega⟩
   have hn2 : Op.bytesLess (L[q]'(by omega)).toList (L[q + 1]'(by omega)).toList = true := List.pairwise_iff_getElem.1 ha q (q + 1) (by omega) (by omega) (by omega)
   have e1 : wrap64 (((q + 1 : Nat) : Int) - 1) = (q : Int) := by rw [w6]; omega
   rw [e1, ba_get L q (by omega)]
   exact evPos c (eP (eP (evPos hn2 (ih (q + 1 + 1) (by omega)))))
  ·exact evNeg c (ih (i + 1) (by omega))
theorem mg_l0 (m : List St) (m1 : m.length ≤ 500) (hs : ∀ s ∈ m, s.f1.length ≤ 1048576) (s : ByteArray) (cs : wordB s = true) (hsz : s.size ≤ 1000) (ok : machOk m = true) (n : Int) (hn : n ≤ 1000000000) (fin : Ev (fun k => laws_FnMachineGuesses.l1 k m (mgB m s) 0) true) (d : Nat) : ∀ i : Nat, i + d = 60 → Ev (fun k => laws_FnMachineGuesses.l0 k m s (mgB m s) n (i : Int)) true := by
 have hm : m.length ≤ 1048576 := by omega
 have hlen := mgB_length m s
 have out : ∀ i : Nat, Ev (fun k => laws_FnMachineGuesses.j2 k m s (mgB m s) n (i : Int) false) true := fun i => Ev.step (fun k => laws_FnMachineGuesses.j2.eq_2 ..) (evNeg (by simp) fin)
 induction d with
 | zero =>
  intro i hi
  refine Ev.step (fun k => laws_FnMachineGuesses.l0.eq_2 ..) ?_
  by_cases c : (i : Int) < n
  ·refine evPos c ?_
   rw [decide_eq_false (show ¬ (i : Int) < 60 from by omega)]
   exact out i
  ·exact evNeg c (out i)
 | succ d ih =>
  intro i hi
  refine Ev.step (fun k => laws_FnMachineGuesses.l0.eq_2 ..) ?_
  by_cases c : (i : Int) < n
  ·refine evPos c ?_
   rw [decide_eq_true (show (i : Int) < 60 from by omega)]
   refine Ev.step (fun k => laws_FnMachineGuesses.j2.eq_2 ..) (evPos rfl ?_)
   rw [w6 (n := (i : Int) + 1)]
   have hz := mwordB_size m1 (i : Int)
   obtain ⟨b, h1, h2⟩ := mdHas_ev (mgB m s) (mwordB m (i : Int)) (by omega)
   refine Ev.bind (mword_impl m hm hs (i : Int)) (Ev.bind (far_impl (mwordB m (i : Int)) s (by omega) (by omega)) (Ev.bind h1 (evNeg ?_ (ih (i + 1) (by omega)))))
   have hsym : farB (mwordB m (i : Int)) s = farB s (mwordB m (i : Int)) := by
    unfold farB
    rw [farD_symm]
    simp only [and_comm]
   have eb : (farB (mwordB m (i : Int)) s == 1) = b := by
    rw [Bool.eq_iff_iff, beq_iff_eq, h2, hsym, ← near_is cs]
    have em : mgB m s = (nearL s).filter (fun w => knows m w) := if_pos ⟨ok, cs⟩
    rw [em, List.mem_filter]
    rcases mword_knows m (i : Int) with h | h
    ·rw [h]
     have no : ¬ (⟨#[]⟩ : ByteArray) ∈ nearL s := fun q => by
      have := wordB_size ((nearL_mem s _).1 q).2.2
      have e0 : (⟨#[]⟩ : ByteArray).size = 0 := rfl
      omega
     exact ⟨fun q => absurd q no, fun q => absurd q.1 no⟩
    ·exact ⟨fun q => ⟨q, h⟩, fun q => q.1⟩
   rw [eb]
   simp
  ·exact evNeg c (out i)
theorem FnMachineGuesses : laws_FnMachineGuesses.Pure := by
 intro l0 hl hmx hw
 refine Ev.rounds ?_
 unfold laws_FnMachineGuesses.f
 by_cases c0 : (l0.length : Int) > 1048576
 ·exact evPos c0 (Ev.now _)
 obtain ⟨m, s, hd, ⟨m1, m2⟩, hz⟩ := drawMG_ev l0 hw
 have hl1 : m.length ≤ 1048576 := by omega
 have hs1 : ∀ s ∈ m, s.f1.length ≤ 1048576 := fun s hs => by have := m2 s hs; omega
 have gs := mg_spec m hl1 hs1 s (by omega)
 have gi := mg_impl m hl1 hs1 s (by omega)
 have hlen := mgB_length m s
 have ht := mdTexts_ev (mgB m s) (by omega)
 have no : Ev (fun k => laws_FnMachineGuesses.j0 k m s (mgB m s) true) true := Ev.step (fun k => laws_FnMachineGuesses.j0.eq_2 ..) (evPos rfl (Ev.bind gs (Ev.bind ht (Ev.now _))))
 refine evNeg c0 (Ev.bind hd (Ev.bind gi (Ev.bind gs (Ev.bind ht (evPos rfl (Ev.bind (machOk_spec m hl1 hs1) ?_))))))
 cases ok : machOk m with
 | false => exact evNeg (by simp) no
 | true =>
  refine evPos rfl (Ev.bind (word_spec s (by omega)) ?_)
  cases cs : wordB s with
  | false => exact no
  | true =>
   have hc := mcount_impl m hl1 hs1
   have hb := (cnts_bounds m 0).2
   have hcb : mcountB m ≤ 1000000000 := by
    unfold mcountB
    split <;> omega
   have em : mgB m s = (nearL s).filter (fun w => knows m w) := if_pos ⟨ok, cs⟩
   have ha : Asc (mgB m s) := by
    rw [em]
    exact List.Pairwise.filter _ (nearL_asc s)
   have hk : ∀ x ∈ mgB m s, knows m x = true := by
    intro x hx
    rw [em] at hx
    exact (List.mem_filter.1 hx).2
   have hx : ∀ x ∈ mgB m s, x.size ≤ 1048576 := by
    intro x hx
    rw [em] at hx
    exact nearL_small x (List.mem_filter.1 hx).1
   refine Ev.step (fun k => laws_FnMachineGuesses.j0.eq_2 ..) (evNeg (by simp) (Ev.bind hc ?_))
   exact mg_l0 m (by omega) hs1 s cs hz ok (mcountB m) hcb (mg_l1 m hl1 hs1 (mgB m s) hlen ha hk hx (mgB m s).length 0 (by omega)) 60 0 (by omega)
end Go.Proofs.Ytdfnijaacnlfaaa.Pure

/- Guesses answers as the reference, of every texts, text and distance, and its answer is its own. No condition. -/
import Derived.Test.YtfpmfaelodfecaaQFnExactGuessesx9
import Derived.Test.YtfpmfaelodfecaaVMBas
import Derived.Test.YtfpmfaelodfecaaVMStr
import Derived.Test.YtfpmfaelodfecaaVMAff
import Derived.Test.YtfpmfaelodfecaaVMSml
import Derived.Test.YtfpmfaelodfecaaVMDst
import Derived.Test.YtfpmfaelodfecaaVMAry
namespace Go.Proofs.Ytfpmfaelodfecaa.Pure
open Go.RowKit Go.Proofs.Ytfpmfaelodfecaa.QFnExactGuesses Go.Proofs.YtfpmfaelodfecaaW.PrintWords Go.Proofs.YtfpmfaelodfecaaW.PrintLast Go.Proofs.YtfpmfaelodfecaaW.PrintMore Go.Proofs.Ytfpmfaelodfecaa.M
set_option linter.unusedVariables false
set_option linter.unusedSimpArgs false
theorem ba_get (l : List ByteArray) (i : Nat) (h : i < l.length) : rdOf ByteArray.empty l (i : Int) = l[i] := by simp [rdOf, List.getD_eq_getElem?_getD, List.getElem?_eq_getElem h]
theorem ba_at {P : ByteArray → Prop} {l : List ByteArray} (h : ∀ s ∈ l, P s) (i : Nat) (hi : i < l.length) : P (rdOf ByteArray.empty l (i : Int)) := by
 rw [ba_get l i hi]
 exact h _ (List.getElem_mem hi)
theorem letters_loop (s : ByteArray) (m : Int) (h : s.size ≤ 281474976710656) (d : Nat) : ∀ i : Int, 0 ≤ i → i ≤ s.size → (s.size : Int) - i = d →
  Ev (fun k => spec_l1Letters.l0 k s m i) (((bytesOf s).drop i.toNat).all low && decide ((s.size : Int) ≤ m)) := by
 induction d with
 | zero =>
  intro i h0 h1 hd
  refine Ev.step (fun k => spec_l1Letters.l0.eq_2 _ _ _ _) (eN ?_)
  rw [List.drop_eq_nil_of_le (by rw [bytesOf_length]; omega)]
  exact evTo (Ev.now _) (by simp)
 | succ d ih =>
  intro i h0 h1 hd
  refine Ev.step (fun k => spec_l1Letters.l0.eq_2 _ _ _ _) (eP (evPos h0 ?_))
  rw [bytes_drop s i h0 (by omega), List.all_cons]
  by_cases c : bt s i < 97
  ·exact evPos c (evTo (Ev.now _) (by simp [low]; omega))
  refine evNeg c ?_
  by_cases c1 : bt s i > 122
  ·exact evPos c1 (evTo (Ev.now _) (by simp [low]; omega))
  refine evNeg c1 ?_
  have e : low (bt s i) = true := (low_iff _).2 (by omega)
  rw [w6, e, Bool.true_and]
  exact ih (i + 1) (by omega) (by omega) (by omega)
theorem letters_spec (s : ByteArray) (m : Int) (h : s.size ≤ 140737488351232) : Ev (fun k => spec_l1Letters.f k s m) ((bytesOf s).all low && decide ((s.size : Int) ≤ m)) :=
 letters_loop s m (by omega) s.size 0 (by omega) (by omega) (by omega)
theorem l1Word_spec (s : ByteArray) (h : s.size ≤ 140737488351232) : Ev (fun k => spec_l1Word.f k s) (wordB s) := by
 unfold spec_l1Word.f
 by_cases c : (s.size : Int) > 0
 ·have hp : 0 < s.size := by omega
  refine evPos c (Ev.bind (letters_spec s 12 h) (evTo (Ev.now _) ?_))
  simp only [wordB, wordL, bytesOf_length, decide_eq_true hp, Bool.true_and]
  rw [Bool.and_comm]
  congr 1
  exact decide_eq_decide.2 (by omega)
 ·exact evNeg c (evTo (Ev.now _) (wordB_no (by omega)).symm)
theorem lower_loop (s : ByteArray) (h : s.size ≤ 140737488351232) (d : Nat) : ∀ i : Int, 0 ≤ i → i ≤ s.size → (s.size : Int) - i = d →
  Ev (fun k => impl_lower.l0 k s (s.size : Int) i) (((bytesOf s).drop i.toNat).all low) := by
 induction d with
 | zero =>
  intro i h0 h1 hd
  refine Ev.step (fun k => impl_lower.l0.eq_2 _ _ _ _) (eN ?_)
  rw [List.drop_eq_nil_of_le (by rw [bytesOf_length]; omega)]
  exact evTo (Ev.now _) (by simp)
 | succ d ih =>
  intro i h0 h1 hd
  refine Ev.step (fun k => impl_lower.l0.eq_2 _ _ _ _) (eP (evPos h0 (eP ?_)))
  rw [bytes_drop s i h0 (by omega), List.all_cons]
  by_cases c : bt s i < 97
  ·exact evPos c (evTo (Ev.now _) (by simp [low]; omega))
  refine evNeg c ?_
  by_cases c1 : bt s i > 122
  ·exact evPos c1 (evTo (Ev.now _) (by simp [low]; omega))
  refine evNeg c1 ?_
  have e : low (bt s i) = true := (low_iff _).2 (by omega)
  rw [w6, e, Bool.true_and]
  exact ih (i + 1) (by omega) (by omega) (by omega)
theorem lower_impl (s : ByteArray) (h : s.size ≤ 140737488351232) : Ev (fun k => impl_lower.f k s) ((bytesOf s).all low) :=
 lower_loop s h s.size 0 (by omega) (by omega) (by omega)
theorem within_impl (n a b : Int) : impl_within.f n a b = some (decide (a ≤ n) && decide (n ≤ b)) := by
 unfold impl_within.f
 by_cases c : n ≥ a
 ·rw [if_pos c]; simp [c]
 ·rw [if_neg c]; simp; omega
theorem word_impl (s : ByteArray) (h : s.size ≤ 140737488351232) : Ev (fun k => impl_WordOk.f k s) (wordB s) := by
 unfold impl_WordOk.f
 refine evCall (within_impl _ _ _) ?_
 by_cases c : (1 ≤ (s.size : Int) ∧ (s.size : Int) ≤ 12)
 ·have hp : 0 < s.size := by omega
  have hq : s.size ≤ 12 := by omega
  refine evPos (by simp; omega) (Ev.bind (lower_impl s h) (evTo (Ev.now _) ?_))
  simp only [wordB, wordL, bytesOf_length, decide_eq_true hp, decide_eq_true hq, Bool.true_and]
 ·exact evNeg (by simp; omega) (evTo (Ev.now _) (wordB_no (by omega)).symm)
def wGo (l : List ByteArray) : Nat → Int → Bool
 | 0, _ => true
 | d + 1, i => wordB (rdOf ByteArray.empty l i) && (if i > 0 then Op.bytesLess (rdOf ByteArray.empty l (i - 1)).toList (rdOf ByteArray.empty l i).toList else true) && wGo l d (i + 1)
theorem words_impl_loop (l : List ByteArray) (n : Int) (hl : l.length ≤ 1048576) (he : ∀ s ∈ l, s.size ≤ 1048576) (d : Nat) : ∀ i : Nat, i + d = l.length → Ev (fun k => impl_wordsOk.l0 k l n l (l.length : Int) (i : Int)) (wGo l d i && decide ((l.length : Int) ≤ n)) := by
 induction d with
 | zero =>
  intro i hi
  refine Ev.step (fun k => impl_wordsOk.l0.eq_2 _ _ _ _ _ _) (eN (evTo (Ev.now _) ?_))
  simp only [wGo, Bool.true_and]
 | succ d ih =>
  intro i hi
  have hs := ba_at (P := fun s => s.size ≤ 1048576) he i (by omega)
  refine Ev.step (fun k => impl_wordsOk.l0.eq_2 _ _ _ _ _ _) (eP (eP (eP (Ev.bind (word_impl _ (by omega)) ?_))))
  rw [w6 (n := (i : Int) + 1)]
  have next := ih (i + 1) (by omega)
  simp only [wGo]
  cases e : wordB (rdOf ByteArray.empty l (i : Int)) with
  | false => exact evNeg (by simp) (evTo (Ev.now _) (by simp))
  | true =>
   refine evPos rfl ?_
   by_cases c : (i : Int) > 0
   ·rw [w6 (n := (i : Int) - 1), if_pos c]
    refine evPos c (eP (eP ?_))
    cases g : Op.bytesLess (rdOf ByteArray.empty l ((i : Int) - 1)).toList (rdOf ByteArray.empty l (i : Int)).toList with
    | false => exact evNeg (by simp) (evTo (Ev.now _) (by simp))
    | true => exact evPos rfl (evTo next (by simp))
   ·rw [if_neg c]
    exact evNeg c (evTo next (by simp))
theorem words_impl (l : List ByteArray) (n : Int) (hl : l.length ≤ 1048576) (he : ∀ s ∈ l, s.size ≤ 1048576) : Ev (fun k => impl_wordsOk.f k l n) (wGo l l.length 0 && decide ((l.length : Int) ≤ n)) := words_impl_loop l n hl he l.length 0 (by omega)
def wsB (l : List ByteArray) : Bool := wGo l l.length 0 && decide ((l.length : Int) ≤ 300)
theorem l3Words_loop (l : List ByteArray) (hl : l.length ≤ 1048576) (he : ∀ s ∈ l, s.size ≤ 1048576) (d : Nat) : ∀ i : Nat, i + d = l.length → Ev (fun k => spec_l3Words.l0 k l (i : Int)) (wGo l d i && decide ((l.length : Int) ≤ 300)) := by
 induction d with
 | zero =>
  intro i hi
  refine Ev.step (fun k => spec_l3Words.l0.eq_2 ..) (eN (evTo (Ev.now _) ?_))
  simp only [wGo, Bool.true_and]
 | succ d ih =>
  intro i hi
  have hs := ba_at (P := fun s => s.size ≤ 1048576) he i (by omega)
  refine Ev.step (fun k => spec_l3Words.l0.eq_2 ..) (eP (eP (Ev.bind (l1Word_spec _ (by omega)) ?_)))
  rw [w6 (n := (i : Int) + 1)]
  have next := ih (i + 1) (by omega)
  simp only [wGo]
  cases e : wordB (rdOf ByteArray.empty l (i : Int)) with
  | false => exact evNeg (by simp) (evTo (Ev.now _) (by simp))
  | true =>
   refine evPos rfl ?_
   by_cases c : (i : Int) > 0
   ·rw [w6 (n := (i : Int) - 1), if_pos c]
    refine evPos c (eP (eP ?_))
    cases g : Op.bytesLess (rdOf ByteArray.empty l ((i : Int) - 1)).toList (rdOf ByteArray.empty l (i : Int)).toList with
    | false => exact evNeg (by simp) (evTo (Ev.now _) (by simp))
    | true => exact evPos rfl (evTo next (by simp))
   ·rw [if_neg c]
    exact evNeg c (evTo next (by simp))
theorem l3Words_ev (l : List ByteArray) (hl : l.length ≤ 1048576) (he : ∀ s ∈ l, s.size ≤ 1048576) : Ev (fun k => spec_l3Words.f k l) (wsB l) := l3Words_loop l hl he l.length 0 (by omega)
theorem wGo_words (l : List ByteArray) (d : Nat) : ∀ i : Nat, i + d = l.length → wGo l d i = true → ∀ s ∈ l.drop i, wordB s = true := by
 induction d with
 | zero =>
  intro i hi _ s hs
  rw [List.drop_eq_nil_of_le (by omega)] at hs
  cases hs
 | succ d ih =>
  intro i hi h s hs
  have hlt : i < l.length := by omega
  simp only [wGo, Bool.and_eq_true] at h
  rw [List.drop_eq_getElem_cons hlt] at hs
  rcases List.mem_cons.1 hs with rfl | hs
  ·rw [← ba_get l i hlt]
   exact h.1.1
  ·exact ih (i + 1) (by omega) h.2 s hs
theorem ws_facts {ws : List ByteArray} (h : wsB ws = true) : ws.length ≤ 300 ∧ (∀ s ∈ ws, wordB s = true) ∧ ∀ s ∈ ws, s.size ≤ 12 := by
 unfold wsB at h
 rw [Bool.and_eq_true, decide_eq_true_eq] at h
 have h2 := wGo_words ws ws.length 0 (by omega) h.1
 rw [List.drop_zero] at h2
 exact ⟨by omega, h2, fun s hs => (wordB_size (h2 s hs)).2⟩
abbrev Gu := S36
theorem le_iff (x y : Gu) : impl_Guess.le x y = true ↔ ltOf impl_Guess.cf y x = false := by
 unfold impl_Guess.le
 simp
theorem le_trans' (x y z : Gu) (h1 : impl_Guess.le x y = true) (h2 : impl_Guess.le y z = true) : impl_Guess.le x z = true := by
 rw [le_iff] at *
 exact impl_Guess.swo.ntrans _ _ _ h2 h1
theorem le_total' (x y : Gu) : (impl_Guess.le x y || impl_Guess.le y x) = true := by
 rw [Bool.or_eq_true, le_iff, le_iff]
 cases h1 : ltOf impl_Guess.cf y x
 ·exact .inl rfl
 ·right
  cases h2 : ltOf impl_Guess.cf x y
  ·rfl
  ·have := impl_Guess.swo.trans _ _ _ h1 h2
   rw [impl_Guess.swo.irrefl] at this
   cases this
theorem le_anti (x y : Gu) (h1 : impl_Guess.le x y = true) (h2 : impl_Guess.le y x = true) : x = y := by
 rw [le_iff] at *
 exact impl_Guess.tot _ _ h2 h1
theorem lt_eq {x y : Gu} (h : x.f1 = y.f1) : ltOf impl_Guess.cf x y = Op.bytesLess x.f0.toList y.f0.toList := by
 rw [bytesLess_eq, Bool.eq_iff_iff, impl_Guess.lt_iff, h]
 simp
def putG : List Gu → Gu → List Gu
 | [], g => [g]
 | x :: l, g => if ltOf impl_Guess.cf x g = true then x :: putG l g else g :: x :: l
theorem putG_perm (l : List Gu) (g : Gu) : (putG l g).Perm (g :: l) := by
 induction l with
 | nil => exact List.Perm.refl _
 | cons x l ih =>
  simp only [putG]
  split
  ·exact (List.Perm.cons x ih).trans (List.Perm.swap g x l)
  ·exact List.Perm.refl _
theorem putG_length (l : List Gu) (g : Gu) : (putG l g).length = l.length + 1 := (putG_perm l g).length_eq
theorem putG_sorted {l : List Gu} (h : l.Pairwise (fun a b => impl_Guess.le a b = true)) (g : Gu) : (putG l g).Pairwise (fun a b => impl_Guess.le a b = true) := by
 induction l with
 | nil => simp [putG]
 | cons x l ih =>
  have h' := List.pairwise_cons.1 h
  simp only [putG]
  split
  ·rename_i hlt
   refine List.pairwise_cons.2 ⟨fun z hz => ?_, ih h'.2⟩
   rcases List.mem_cons.1 ((putG_perm l g).mem_iff.1 hz) with rfl | hz
   ·rcases Bool.or_eq_true _ _ ▸ le_total' x z with e | e
    ·exact e
    ·rw [le_iff, hlt] at e
     cases e
   ·exact h'.1 z hz
  ·rename_i hlt
   have e : impl_Guess.le g x = true := (le_iff _ _).2 (by simpa using hlt)
   refine List.pairwise_cons.2 ⟨fun z hz => ?_, h⟩
   rcases List.mem_cons.1 hz with rfl | hz
   ·exact e
   ·exact le_trans' _ _ _ e (h'.1 z hz)
theorem foldG_perm (c : List Gu) : ∀ l : List Gu, (c.foldl putG l).Perm (c ++ l) := by
 induction c with
 | nil => intro l; exact List.Perm.refl _
 | cons g c ih =>
  intro l
  rw [List.foldl_cons]
  exact (ih _).trans (((putG_perm l g).append_left c).trans List.perm_middle)
theorem foldG_sorted (c : List Gu) : ∀ l : List Gu, l.Pairwise (fun a b => impl_Guess.le a b = true) → (c.foldl putG l).Pairwise (fun a b => impl_Guess.le a b = true) := by
 induction c with
 | nil => intro l h; exact h
 | cons g c ih => intro l h; exact ih _ (putG_sorted h g)
theorem sortedG_uniq : ∀ {l k : List Gu}, l.Pairwise (fun a b => impl_Guess.le a b = true) → k.Pairwise (fun a b => impl_Guess.le a b = true) → l.Perm k → l = k
 | [], k, _, _, hp => by have := hp.length_eq; cases k <;> simp_all
 | x :: l, [], _, _, hp => by have := hp.length_eq; simp at this
 | x :: l, y :: k, hl, hk, hp => by
  have hl' := List.pairwise_cons.1 hl
  have hk' := List.pairwise_cons.1 hk
  have e : x = y := by
   rcases List.mem_cons.1 (hp.mem_iff.1 List.mem_cons_self) with e | e
   ·exact e
   ·rcases List.mem_cons.1 (hp.mem_iff.2 List.mem_cons_self) with e2 | e2
    ·exact e2.symm
    ·exact le_anti _ _ (hl'.1 _ e2) (hk'.1 _ e)
  subst e
  rw [sortedG_uniq hl'.2 hk'.2 ((List.perm_cons x).1 hp)]
theorem foldG_sort (c : List Gu) : c.foldl putG [] = c.mergeSort impl_Guess.le := by
 refine sortedG_uniq (foldG_sorted c [] List.Pairwise.nil) (List.pairwise_mergeSort le_trans' le_total' c) ?_
 have h := foldG_perm c []
 rw [List.append_nil] at h
 exact h.trans (List.mergeSort_perm c impl_Guess.le).symm
def gsL (ws : List ByteArray) (w : ByteArray) (far : Int) : List Gu := ws.flatMap (fun s => if farD s w ≤ far then [(⟨s, farD s w⟩ : Gu)] else [])
theorem drop_cons {α : Type} {l : List α} {i : Nat} (h : i < l.length) : l.drop i = l[i] :: l.drop (i + 1) := (List.getElem_cons_drop ..).symm
def guB (ws : List ByteArray) (w : ByteArray) (far : Int) : List Gu := if wsB ws = true ∧ wordB w = true then ((gsL ws w far).mergeSort impl_Guess.le).take 10 else []
theorem guB_length (ws : List ByteArray) (w : ByteArray) (far : Int) : (guB ws w far).length ≤ 10 := by
 unfold guB
 split
 ·rw [List.length_take]; omega
 ·simp
theorem gu_get (l : List Gu) (i : Nat) (h : i < l.length) : rd_T36 l (i : Int) = l[i] := by simp [rd_T36, List.getD_eq_getElem?_getD, List.getElem?_eq_getElem h]
theorem least_spec (a b : Int) : spec_l1Least.f a b = some (min a b) := by
 unfold spec_l1Least.f
 by_cases c : a < b
 ·rw [if_pos c]; congr 1; omega
 ·rw [if_neg c]; congr 1; omega
theorem dist_small (a b : ByteArray) (i k : Nat) (h : i ≤ 100) (h2 : k ≤ 100) : 0 ≤ dist a b i k ∧ dist a b i k ≤ 100 := by
 obtain ⟨_, _, _, m, _, p⟩ := dist_facts a b _ i k (Nat.le_refl _)
 omega
def rowD (a b : ByteArray) (i k : Nat) : List Int := (List.range k).map (fun j => dist a b i j)
theorem rowD_length (a b : ByteArray) (i k : Nat) : (rowD a b i k).length = k := by simp [rowD]
theorem rowD_succ (a b : ByteArray) (i k : Nat) : rowD a b i (k + 1) = rowD a b i k ++ [dist a b i k] := by simp [rowD, List.range_succ]
theorem rowD_rd (a b : ByteArray) (i k : Nat) (j : Nat) (h : j < k) : rd (rowD a b i k) (j : Int) = dist a b i j := by
 simp [rd, rowD, List.getD_eq_getElem?_getD, h]
def tabD (a b : ByteArray) (i : Nat) : List (List Int) := (List.range i).map (fun j => rowD a b j (b.size + 1))
theorem tabD_length (a b : ByteArray) (i : Nat) : (tabD a b i).length = i := by simp [tabD]
theorem tabD_succ (a b : ByteArray) (i : Nat) : tabD a b (i + 1) = tabD a b i ++ [rowD a b i (b.size + 1)] := by simp [tabD, List.range_succ]
theorem tabD_rd (a b : ByteArray) (i j : Nat) (h : j < i) : rd_L2 (tabD a b i) (j : Int) = rowD a b j (b.size + 1) := by
 simp [rd_L2, tabD, List.getD_eq_getElem?_getD, h]
theorem far_spec_row (a b : ByteArray) (ha : a.size ≤ 100) (hb : b.size ≤ 100) (i : Nat) (hi : i ≤ a.size) {r : Int}
  (next : Ev (fun k => spec_l1Far.l0 k a b (tabD a b (i + 1)) ((i + 1 : Nat) : Int)) r) (d : Nat) : ∀ k : Nat, k + d = b.size + 1 →
  Ev (fun n => spec_l1Far.l1 n a b (tabD a b i) (i : Int) (rowD a b i k) (k : Int)) r := by
 induction d with
 | zero =>
  intro k hk
  obtain rfl : k = b.size + 1 := by omega
  refine Ev.step (fun n => spec_l1Far.l1.eq_2 _ _ _ _ _ _ _) (eN (evPos (by rw [tabD_length]; omega) ?_))
  rw [w6, ← tabD_succ]
  exact next
 | succ d ih =>
  intro k hk
  have ihk := ih (k + 1) (by omega)
  rw [rowD_succ] at ihk
  refine Ev.step (fun n => spec_l1Far.l1.eq_2 _ _ _ _ _ _ _) (eP ?_)
  have wk : wrap64 ((k : Int) + 1) = ((k + 1 : Nat) : Int) := by rw [w6]; omega
  by_cases ci : i = 0
  ·subst ci
   rw [dist_zero] at ihk
   refine evPos rfl (evPos (by rw [rowD_length]; omega) ?_)
   rw [wk]
   exact ihk
  by_cases ck : k = 0
  ·subst ck
   rw [dist_nil] at ihk
   refine eN (evPos rfl (evPos (by rw [rowD_length]; omega) ?_))
   rw [wk]
   exact ihk
  obtain ⟨i, rfl⟩ : ∃ m, i = m + 1 := ⟨i - 1, by omega⟩
  obtain ⟨k, rfl⟩ : ∃ m, k = m + 1 := ⟨k - 1, by omega⟩
  have wi1 : wrap64 (((i + 1 : Nat) : Int) - 1) = (i : Int) := by rw [w6]; omega
  have wk1 : wrap64 (((k + 1 : Nat) : Int) - 1) = (k : Int) := by rw [w6]; omega
  have rowi : rd_L2 (tabD a b (i + 1)) (i : Int) = rowD a b i (b.size + 1) := tabD_rd a b (i + 1) i (by omega)
  have b1 := dist_small a b i k (by omega) (by omega)
  have b2 := dist_small a b i (k + 1) (by omega) (by omega)
  have b3 := dist_small a b (i + 1) k (by omega) (by omega)
  have b4 := dist_small a b (i - 1) (k - 1) (by omega) (by omega)
  refine eN (eN ?_)
  rw [wi1, wk1, rowi, rowD_rd a b i (b.size + 1) k (by omega)]
  have join : ∀ v : Int, v = dist a b i k + (if bt a (i : Int) = bt b (k : Int) then 0 else 1) → Ev (fun n => spec_l1Far.j2 n a b (tabD a b (i + 1)) ((i + 1 : Nat) : Int) (rowD a b (i + 1) (k + 1)) ((k + 1 : Nat) : Int) v) r := by
   intro v hv
   have hv01 : (if bt a (i : Int) = bt b (k : Int) then (0 : Int) else 1) = 0 ∨ (if bt a (i : Int) = bt b (k : Int) then (0 : Int) else 1) = 1 := by split <;> simp
   have h3 : min v (min (dist a b i (k + 1) + 1) (dist a b (i + 1) k + 1)) = dist3 a b i k := by
    unfold dist3
    omega
   refine Ev.step (fun n => spec_l1Far.j2.eq_2 _ _ _ _ _ _ _ _) ?_
   rw [wi1, wk1, rowi, rowD_rd a b i (b.size + 1) (k + 1) (by omega), rowD_rd a b (i + 1) (k + 1) k (by omega), w6 (n := dist a b i (k + 1) + 1), w6 (n := dist a b (i + 1) k + 1)]
   refine eP (evPos (by rw [tabD_length]; omega) (eP (evPos (by rw [rowD_length]; omega) (eP (evPos (by rw [rowD_length]; omega) (evCall (least_spec _ _) (evCall (least_spec _ _) ?_)))))))
   rw [h3]
   have fin : ∀ x, x = dist a b (i + 1) (k + 1) → Ev (fun n => if (rowD a b (i + 1) (k + 1)).length < 17592186044416 then spec_l1Far.l1 n a b (tabD a b (i + 1)) ((i + 1 : Nat) : Int) (rowD a b (i + 1) (k + 1) ++ [x]) (wrap64 (((k + 1 : Nat) : Int) + 1)) else none) r := by
    rintro x rfl
    refine evPos (by rw [rowD_length]; omega) ?_
    rw [wk]
    exact ihk
   have hs := dist_succ a b i k
   have two (z : Nat) (hz : 1 ≤ z) (hz2 : z ≤ 100) : wrap64 (((z + 1 : Nat) : Int) - 2) = ((z - 1 : Nat) : Int) := by rw [w6]; omega
   have no : dist3 a b i k = dist a b (i + 1) (k + 1) → Ev (fun n => spec_l1Far.j3 n a b (tabD a b (i + 1)) ((i + 1 : Nat) : Int) (rowD a b (i + 1) (k + 1)) ((k + 1 : Nat) : Int) (dist3 a b i k) false) r :=
    fun he => Ev.step (fun n => spec_l1Far.j3.eq_2 _ _ _ _ _ _ _ _ _) (evNeg (by simp) (fin _ he))
   by_cases c1 : ((i + 1 : Nat) : Int) > 1
   ·by_cases c2 : ((k + 1 : Nat) : Int) > 1
    ·refine evPos c1 (evPos c2 ?_)
     rw [two i (by omega) (by omega), two k (by omega) (by omega)]
     refine eP (eP (eP ?_))
     by_cases c3 : bt a (i : Int) = bt b ((k - 1 : Nat) : Int)
     ·refine evPos c3 (eP (eP (eP ?_)))
      by_cases c4 : bt a ((i - 1 : Nat) : Int) = bt b (k : Int)
      ·rw [if_pos ⟨by omega, by omega, c3, c4⟩] at hs
       have row2 : rd_L2 (tabD a b (i + 1)) ((i - 1 : Nat) : Int) = rowD a b (i - 1) (b.size + 1) := tabD_rd a b (i + 1) (i - 1) (by omega)
       rw [show (bt a ((i - 1 : Nat) : Int) == bt b (k : Int)) = true from beq_iff_eq.2 c4]
       refine Ev.step (fun n => spec_l1Far.j3.eq_2 _ _ _ _ _ _ _ _ _) ?_
       rw [two i (by omega) (by omega), two k (by omega) (by omega), row2, rowD_rd a b (i - 1) (b.size + 1) (k - 1) (by omega), w6 (n := dist a b (i - 1) (k - 1) + 1)]
       exact evPos rfl (eP (evPos (by rw [tabD_length]; omega) (eP (evPos (by rw [rowD_length]; omega) (evCall (least_spec _ _) (fin _ hs.symm))))))
      ·rw [if_neg (fun h => c4 h.2.2.2)] at hs
       rw [show (bt a ((i - 1 : Nat) : Int) == bt b (k : Int)) = false from beq_eq_false_iff_ne.2 c4]
       exact no hs.symm
     ·rw [if_neg (fun h => c3 h.2.2.1)] at hs
      exact evNeg c3 (no hs.symm)
    ·rw [if_neg (fun h => c2 (by omega))] at hs
     exact evPos c1 (evNeg c2 (no hs.symm))
   ·rw [if_neg (fun h => c1 (by omega))] at hs
    exact evNeg c1 (no hs.symm)
  refine eP (evPos (by rw [tabD_length]; omega) (eP (evPos (by rw [rowD_length]; omega) (eP (eP ?_)))))
  by_cases c : bt a (i : Int) = bt b (k : Int)
  ·exact evPos c (join _ (by rw [if_pos c]; omega))
  ·refine evNeg c (join _ ?_)
   rw [if_neg c, w6]
theorem far_spec_loop (a b : ByteArray) (ha : a.size ≤ 100) (hb : b.size ≤ 100) (d : Nat) : ∀ i : Nat, i + d = a.size + 1 → Ev (fun n => spec_l1Far.l0 n a b (tabD a b i) (i : Int)) (farD a b) := by
 induction d with
 | zero =>
  intro i hi
  obtain rfl : i = a.size + 1 := by omega
  have row : rd_L2 (tabD a b (a.size + 1)) (a.size : Int) = rowD a b a.size (b.size + 1) := tabD_rd a b (a.size + 1) a.size (by omega)
  refine Ev.step (fun n => spec_l1Far.l0.eq_2 _ _ _ _ _) (eN ?_)
  rw [row, rowD_rd a b a.size (b.size + 1) b.size (by omega)]
  exact eP (evPos (by rw [tabD_length]; omega) (eP (evPos (by rw [rowD_length]; omega) (Ev.now _))))
 | succ d ih =>
  intro i hi
  have h := far_spec_row a b ha hb i (by omega) (ih (i + 1) (by omega)) (b.size + 1) 0 (by omega)
  exact Ev.step (fun n => spec_l1Far.l0.eq_2 _ _ _ _ _) (evPos (by omega) h)
theorem l1Far_spec (a b : ByteArray) (ha : a.size ≤ 100) (hb : b.size ≤ 100) : Ev (fun n => spec_l1Far.f n a b) (farD a b) := far_spec_loop a b ha hb (a.size + 1) 0 (by omega)
theorem putG_ev (l : List Gu) (g : Gu) (hl : l.length ≤ 1000000) (d : Nat) : ∀ i : Nat, i + d = l.length → Ev (fun k => spec_l4Put.l0 k l (i : Int) g.f0 g.f1) (l.take i ++ putG (l.drop i) g) := by
 have out : ∀ i : Nat, i ≤ l.length → Ev (fun k => spec_l4Put.j1 k l (i : Int) false g.f0 g.f1) (l.take i ++ g :: l.drop i) := fun i hi => by
  refine Ev.step (fun k => spec_l4Put.j1.eq_2 ..) (evNeg (by simp) (evCall rfl (eP (eP (evCall rfl (evPos ?_ (evCall rfl (evCall rfl (evPos ?_ (evCall rfl (evCall rfl (evPos ?_ (evTo (Ev.now _) ?_)))))))))))))
  ·simp; omega
  ·simp; omega
  ·simp; omega
  ·simp
 induction d with
 | zero =>
  intro i hi
  have e : l.drop i = [] := List.drop_eq_nil_iff.2 (by omega)
  refine Ev.step (fun k => spec_l4Put.l0.eq_2 ..) (eN (evTo (out i (by omega)) ?_))
  rw [e]
  rfl
 | succ d ih =>
  intro i hi
  have hi' : i < l.length := by omega
  have next : Ev (fun k => spec_l4Put.j1 k l (i : Int) (ltOf impl_Guess.cf l[i] g) g.f0 g.f1) (l.take i ++ putG (l.drop i) g) := by
   rw [drop_cons hi']
   simp only [putG]
   cases e : ltOf impl_Guess.cf l[i] g with
   | true =>
    refine Ev.step (fun k => spec_l4Put.j1.eq_2 ..) (evPos rfl ?_)
    rw [w6]
    refine evTo (ih (i + 1) (by omega)) ?_
    rw [List.take_succ_eq_append_getElem hi', List.append_assoc, List.singleton_append, if_pos rfl]
   | false =>
    refine evTo (out i (by omega)) ?_
    rw [drop_cons hi']
    simp
  refine Ev.step (fun k => spec_l4Put.l0.eq_2 ..) (eP (eP ?_))
  rw [gu_get l i hi']
  have lt := impl_Guess.lt_iff l[i] g
  by_cases c1 : l[i].f1 < g.f1
  ·refine evPos c1 (evTo (Ev.congr (fun _ => ?_) next) rfl)
   rw [lt.2 (.inl c1)]
  ·refine evNeg c1 ?_
   by_cases c2 : l[i].f1 = g.f1
   ·refine evPos c2 (evTo (Ev.congr (fun _ => ?_) next) rfl)
    rw [lt_eq c2]
   ·refine evNeg c2 (evTo (Ev.congr (fun _ => ?_) next) rfl)
    have : ltOf impl_Guess.cf l[i] g = false := by
     rw [impl_Guess.lf]
     rintro (h | h)
     ·exact c1 h
     ·exact c2 h.1
    rw [this]
theorem l4Put_ev (l : List Gu) (g : Gu) (hl : l.length ≤ 1000000) : Ev (fun k => spec_l4Put.f k l g.f0 g.f1) (putG l g) := by
 unfold spec_l4Put.f
 have := putG_ev l g hl l.length 0 (by omega)
 simpa using this
theorem gs_loop (ws : List ByteArray) (w : ByteArray) (far : Int) (hl : ws.length ≤ 100000) (hz : ∀ s ∈ ws, s.size ≤ 12) (hw : w.size ≤ 12) (d : Nat) : ∀ (i : Nat) (out : List Gu), i + d = ws.length → out.length ≤ i →
  Ev (fun k => spec_l4Guesses.l0 k ws w far out (i : Int)) (((gsL (ws.drop i) w far).foldl putG out).take 10) := by
 induction d with
 | zero =>
  intro i out hi ho
  have e : ws.drop i = [] := List.drop_eq_nil_iff.2 (by omega)
  rw [e]
  refine Ev.step (fun k => spec_l4Guesses.l0.eq_2 ..) (eN ?_)
  by_cases c : (out.length : Int) > 10
  ·exact evPos c (eP (evTo (Ev.now _) rfl))
  ·refine evNeg c (evTo (Ev.now _) ?_)
   exact (List.take_of_length_le (l := out) (by omega)).symm
 | succ d ih =>
  intro i out hi ho
  have hi' : i < ws.length := by omega
  have e : gsL (ws.drop i) w far = (if farD ws[i] w ≤ far then [(⟨ws[i], farD ws[i] w⟩ : Gu)] else []) ++ gsL (ws.drop (i + 1)) w far := by
   rw [drop_cons hi']
   rfl
  have hs := hz _ (List.getElem_mem hi')
  refine Ev.step (fun k => spec_l4Guesses.l0.eq_2 ..) (eP (eP ?_))
  rw [ba_get ws i hi', w6 (n := (i : Int) + 1), e]
  refine Ev.bind (l1Far_spec _ _ (by omega) (by omega)) ?_
  by_cases c : farD ws[i] w ≤ far
  ·rw [if_pos c, List.foldl_append]
   refine evPos c (Ev.bind (l4Put_ev out ⟨ws[i], farD ws[i] w⟩ (by omega)) ?_)
   exact ih (i + 1) _ (by omega) (by rw [putG_length]; omega)
  ·rw [if_neg c, List.nil_append]
   exact evNeg c (ih (i + 1) _ (by omega) (by omega))
theorem guesses_spec (ws : List ByteArray) (w : ByteArray) (far : Int) (hl : ws.length ≤ 1048576) (hz : ∀ s ∈ ws, s.size ≤ 1048576) (hw : w.size ≤ 1048576) : Ev (fun k => spec_Guesses.f k ws w far) (guB ws w far) := by
 unfold spec_Guesses.f guB
 refine Ev.bind (l3Words_ev ws hl hz) ?_
 by_cases c : wsB ws = true
 ·refine evPos c (Ev.bind (l1Word_spec w (by omega)) ?_)
  obtain ⟨h1, h2, h3⟩ := ws_facts c
  by_cases c2 : wordB w = true
  ·rw [if_pos ⟨c, c2⟩]
   refine evPos c2 (Ev.bind ?_ (Ev.now _))
   unfold spec_l4Guesses.f
   have := gs_loop ws w far (by omega) h3 (wordB_size c2).2 ws.length 0 [] (by omega) (by simp)
   rw [List.drop_zero, foldG_sort] at this
   exact this
  ·rw [if_neg (fun h => c2 h.2)]
   exact evNeg c2 (Ev.now _)
 ·rw [if_neg (fun h => c h.1)]
  exact evNeg c (Ev.now _)
theorem rl_set_eq (M : List (List Int)) (i : Nat) (R : List Int) (h : i < M.length) : rd_L2 (M.set i R) (i : Int) = R := by
 simp [rd_L2, List.getD_eq_getElem?_getD, h]
theorem rl_set_ne (M : List (List Int)) (i j : Nat) (R : List Int) (h : i ≠ j) : rd_L2 (M.set i R) (j : Int) = rd_L2 M (j : Int) := by
 simp [rd_L2, List.getD_eq_getElem?_getD, List.getElem?_set_ne h]
theorem rd_setN_eq (xs : List Int) (i : Nat) (v : Int) (h : i < xs.length) : rd (xs.set i v) (i : Int) = v := by
 have := rd_set_eq xs (i : Int) v (by omega) (by omega)
 simpa using this
theorem rd_setN_ne (xs : List Int) (i j : Nat) (v : Int) (h : i ≠ j) : rd (xs.set i v) (j : Int) = rd xs (j : Int) := by
 have := rd_set_ne xs (i : Int) (j : Int) v (by omega) (by omega) (by omega)
 simpa using this
def InvM (a b : ByteArray) (M : List (List Int)) (i k : Nat) : Prop :=
 M.length = a.size + 1 ∧ (∀ j : Nat, j ≤ a.size → (rd_L2 M (j : Int)).length = b.size + 1) ∧
 ∀ x y : Nat, x ≤ a.size → y ≤ b.size → (x < i ∨ (x = i ∧ y < k) ∨ y = 0 ∨ x = 0) → rd (rd_L2 M (x : Int)) (y : Int) = dist a b x y
theorem inv_put {a b : ByteArray} {M : List (List Int)} {i k : Nat} (h : InvM a b M i k) (hi : i ≤ a.size) (hk : k ≤ b.size) (_ : 1 ≤ i) (_ : 1 ≤ k) : InvM a b (M.set i ((rd_L2 M (i : Int)).set k (dist a b i k))) i (k + 1) := by
 obtain ⟨h1, h2, h3⟩ := h
 refine ⟨by simpa using h1, fun j hj => ?_, fun x y hx hy hc => ?_⟩
 ·by_cases c : i = j
  ·subst c
   rw [rl_set_eq _ _ _ (by omega), List.length_set]
   exact h2 i hj
  ·rw [rl_set_ne _ _ _ _ c]
   exact h2 j hj
 ·by_cases c : i = x
  ·subst c
   rw [rl_set_eq _ _ _ (by omega)]
   by_cases d : k = y
   ·subst d
    exact rd_setN_eq _ _ _ (by rw [h2 i hi]; omega)
   ·rw [rd_setN_ne _ _ _ _ d]
    exact h3 i y hx hy (by omega)
  ·rw [rl_set_ne _ _ _ _ c]
   exact h3 x y hx hy (by omega)
theorem inv_next {a b : ByteArray} {M : List (List Int)} {i : Nat} (h : InvM a b M i (b.size + 1)) : InvM a b M (i + 1) 1 :=
 ⟨h.1, h.2.1, fun x y hx hy hc => h.2.2 x y hx hy (by omega)⟩
theorem mn_min (x y : Int) : mn x y = min x y := by
 unfold mn
 split <;> omega
theorem far_impl_row (a b : ByteArray) (ha : a.size ≤ 100) (hb : b.size ≤ 100) (i : Nat) (hi : i ≤ a.size) (hi1 : 1 ≤ i) {r : Int}
  (next : ∀ M, InvM a b M i (b.size + 1) → Ev (fun k => impl_Far.l2 k a b M ((i + 1 : Nat) : Int)) r) (d : Nat) : ∀ (k : Nat) (M : List (List Int)), k + d = b.size + 1 → 1 ≤ k → InvM a b M i k →
  Ev (fun n => impl_Far.l3 n a b M (i : Int) (k : Int)) r := by
 induction d with
 | zero =>
  intro k M hk _ hM
  obtain rfl : k = b.size + 1 := by omega
  refine Ev.step (fun n => impl_Far.l3.eq_2 _ _ _ _ _ _) (eN ?_)
  rw [w6]
  exact next M hM
 | succ d ih =>
  intro k M hk hk1 hM
  obtain ⟨m1, m2, m3⟩ := hM
  have ihk := ih (k + 1) (M.set i ((rd_L2 M (i : Int)).set k (dist a b i k))) (by omega) (by omega) (inv_put ⟨m1, m2, m3⟩ hi (by omega) hi1 hk1)
  obtain ⟨i, rfl⟩ : ∃ m, i = m + 1 := ⟨i - 1, by omega⟩
  obtain ⟨k, rfl⟩ : ∃ m, k = m + 1 := ⟨k - 1, by omega⟩
  have wi1 : wrap64 (((i + 1 : Nat) : Int) - 1) = (i : Int) := by rw [w6]; omega
  have wk1 : wrap64 (((k + 1 : Nat) : Int) - 1) = (k : Int) := by rw [w6]; omega
  have wk : wrap64 (((k + 1 : Nat) : Int) + 1) = ((k + 1 + 1 : Nat) : Int) := by rw [w6]; omega
  have b1 := dist_small a b i k (by omega) (by omega)
  have b2 := dist_small a b i (k + 1) (by omega) (by omega)
  have b3 := dist_small a b (i + 1) k (by omega) (by omega)
  have b4 := dist_small a b (i - 1) (k - 1) (by omega) (by omega)
  have l1 := m2 i (by omega)
  have l2 := m2 (i + 1) hi
  have l3 := m2 (i - 1) (by omega)
  have e1 := m3 i k (by omega) (by omega) (by omega)
  have e2 := m3 i (k + 1) (by omega) (by omega) (by omega)
  have e3 := m3 (i + 1) k (by omega) (by omega) (by omega)
  have e4 := m3 (i - 1) (k - 1) (by omega) (by omega) (by omega)
  have join : ∀ v : Int, v = dist a b i k + (if bt a (i : Int) = bt b (k : Int) then 0 else 1) → Ev (fun n => impl_Far.j5 n a b M ((i + 1 : Nat) : Int) ((k + 1 : Nat) : Int) v) r := by
   intro v hv
   have hv01 : (if bt a (i : Int) = bt b (k : Int) then (0 : Int) else 1) = 0 ∨ (if bt a (i : Int) = bt b (k : Int) then (0 : Int) else 1) = 1 := by split <;> simp
   have h3 : mn (mn v (dist a b i (k + 1) + 1)) (dist a b (i + 1) k + 1) = dist3 a b i k := by
    rw [mn_min, mn_min]
    unfold dist3
    omega
   have h3b : 0 ≤ dist3 a b i k := by
    unfold dist3
    omega
   refine Ev.step (fun n => impl_Far.j5.eq_2 _ _ _ _ _ _ _) ?_
   rw [wi1, wk1, e2, e3, w6 (n := dist a b i (k + 1) + 1), w6 (n := dist a b (i + 1) k + 1), h3]
   refine eP (eP (eP (eP (eP (eP (eP (eP ?_)))))))
   have hs := dist_succ a b i k
   have two (z : Nat) (hz : 1 ≤ z) (hz2 : z ≤ 100) : wrap64 (((z + 1 : Nat) : Int) - 2) = ((z - 1 : Nat) : Int) := by rw [w6]; omega
   have no : dist3 a b i k = dist a b (i + 1) (k + 1) → Ev (fun n => impl_Far.j6 n a b M ((i + 1 : Nat) : Int) ((k + 1 : Nat) : Int) (dist3 a b i k) false) r := by
    intro he
    refine Ev.step (fun n => impl_Far.j6.eq_2 _ _ _ _ _ _ _ _) (evNeg (by simp) (eP (eP (eP (eP ?_)))))
    rw [wk, he, Int.toNat_natCast, Int.toNat_natCast]
    exact ihk
   by_cases c1 : ((i + 1 : Nat) : Int) > 1
   ·by_cases c2 : ((k + 1 : Nat) : Int) > 1
    ·refine evPos c1 (evPos c2 ?_)
     rw [two i (by omega) (by omega), two k (by omega) (by omega)]
     refine eP (eP (eP ?_))
     by_cases c3 : bt a (i : Int) = bt b ((k - 1 : Nat) : Int)
     ·refine evPos c3 (eP (eP (eP ?_)))
      by_cases c4 : bt a ((i - 1 : Nat) : Int) = bt b (k : Int)
      ·rw [if_pos ⟨by omega, by omega, c3, c4⟩] at hs
       rw [show (bt a ((i - 1 : Nat) : Int) == bt b (k : Int)) = true from beq_iff_eq.2 c4]
       refine Ev.step (fun n => impl_Far.j6.eq_2 _ _ _ _ _ _ _ _) ?_
       rw [two i (by omega) (by omega), two k (by omega) (by omega), e4, w6 (n := dist a b (i - 1) (k - 1) + 1), mn_min, ← hs, wk, Int.toNat_natCast, Int.toNat_natCast]
       exact evPos rfl (eP (eP (eP (eP (eP (eP (eP (evPos (by omega) ihk))))))))
      ·rw [if_neg (fun h => c4 h.2.2.2)] at hs
       rw [show (bt a ((i - 1 : Nat) : Int) == bt b (k : Int)) = false from beq_eq_false_iff_ne.2 c4]
       exact no hs.symm
     ·rw [if_neg (fun h => c3 h.2.2.1)] at hs
      exact evNeg c3 (no hs.symm)
    ·rw [if_neg (fun h => c2 (by omega))] at hs
     exact evPos c1 (evNeg c2 (no hs.symm))
   ·rw [if_neg (fun h => c1 (by omega))] at hs
    exact evNeg c1 (no hs.symm)
  refine Ev.step (fun n => impl_Far.l3.eq_2 _ _ _ _ _ _) (eP ?_)
  rw [wi1, wk1, e1]
  refine eP (eP (eP (eP (eP (eP ?_)))))
  by_cases c : bt a (i : Int) = bt b (k : Int)
  ·exact evPos c (join _ (by rw [if_pos c]; omega))
  ·refine evNeg c (join _ ?_)
   rw [if_neg c, w6]
theorem far_impl_rows (a b : ByteArray) (ha : a.size ≤ 100) (hb : b.size ≤ 100) (d : Nat) : ∀ (i : Nat) (M : List (List Int)), i + d = a.size + 1 → 1 ≤ i → InvM a b M i 1 → Ev (fun n => impl_Far.l2 n a b M (i : Int)) (farD a b) := by
 induction d with
 | zero =>
  intro i M hi _ hM
  obtain rfl : i = a.size + 1 := by omega
  refine Ev.step (fun n => impl_Far.l2.eq_2 _ _ _ _ _) (eN ?_)
  rw [hM.2.2 a.size b.size (Nat.le_refl _) (Nat.le_refl _) (by omega)]
  have := hM.2.1 a.size (Nat.le_refl _)
  have := hM.1
  exact eP (eP (eP (eP (Ev.now _))))
 | succ d ih =>
  intro i M hi hi1 hM
  exact Ev.step (fun n => impl_Far.l2.eq_2 _ _ _ _ _) (eP (far_impl_row a b ha hb i (by omega) hi1 (fun M' hM' => ih (i + 1) M' (by omega) (by omega) (inv_next hM')) b.size 1 M (by omega) (by omega) hM))
theorem far_impl_first (a b : ByteArray) (ha : a.size ≤ 100) (hb : b.size ≤ 100) (d : Nat) : ∀ (k : Nat) (M : List (List Int)), k + d = b.size + 1 → M.length = a.size + 1 → (∀ j : Nat, j ≤ a.size → (rd_L2 M (j : Int)).length = b.size + 1) →
  (∀ j : Nat, 1 ≤ j → j ≤ a.size → rd (rd_L2 M (j : Int)) 0 = j) → (∀ j : Nat, j < k → rd (rd_L2 M 0) (j : Int) = j) → Ev (fun n => impl_Far.l1 n a b M ((b.size + 1 : Nat) : Int) (k : Int)) (farD a b) := by
 induction d with
 | zero =>
  intro k M hk h1 h2 h3 h4
  refine Ev.step (fun n => impl_Far.l1.eq_2 _ _ _ _ _ _) (eN (far_impl_rows a b ha hb a.size 1 M (by omega) (by omega) ⟨h1, h2, fun x y hx hy hc => ?_⟩))
  by_cases c : x = 0
  ·subst c
   rw [dist_zero]
   exact h4 y (by omega)
  ·obtain rfl : y = 0 := by omega
   rw [dist_nil]
   exact h3 x (by omega) hx
 | succ d ih =>
  intro k M hk h1 h2 h3 h4
  have z : (rd_L2 M ((0 : Nat) : Int)).length = b.size + 1 := h2 0 (by omega)
  have z' : (rd_L2 M 0).length = b.size + 1 := z
  refine Ev.step (fun n => impl_Far.l1.eq_2 _ _ _ _ _ _) (eP (eP (eP (eP ?_))))
  rw [w6, show ((k : Int) + 1) = ((k + 1 : Nat) : Int) from by omega, Int.toNat_natCast, show (0 : Int).toNat = 0 from rfl]
  have e0 : rd_L2 (M.set 0 ((rd_L2 M 0).set k (k : Int))) 0 = (rd_L2 M 0).set k (k : Int) := rl_set_eq M 0 _ (by omega)
  refine ih (k + 1) _ (by omega) (by simpa using h1) (fun j hj => ?_) (fun j hj1 hj => ?_) (fun j hj => ?_)
  ·by_cases c : 0 = j
   ·subst c
    show (rd_L2 (M.set 0 ((rd_L2 M 0).set k (k : Int))) 0).length = b.size + 1
    rw [e0, List.length_set]
    exact z'
   ·rw [rl_set_ne _ _ _ _ c]
    exact h2 j hj
  ·rw [rl_set_ne _ _ _ _ (by omega)]
   exact h3 j hj1 hj
  ·rw [e0]
   by_cases c : k = j
   ·subst c
    exact rd_setN_eq _ _ _ (by omega)
   ·rw [rd_setN_ne _ _ _ _ c]
    exact h4 j (by omega)
theorem far_impl_zero (a b : ByteArray) (ha : a.size ≤ 100) (hb : b.size ≤ 100) (d : Nat) : ∀ (i : Nat) (M : List (List Int)), i + d = a.size + 1 → M.length = a.size + 1 → (∀ j : Nat, j < i → rd_L2 M (j : Int) = (List.replicate (b.size + 1) 0).set 0 (j : Int)) →
  Ev (fun n => impl_Far.l0 n a b M ((a.size + 1 : Nat) : Int) (i : Int)) (farD a b) := by
 induction d with
 | zero =>
  intro i M hi h1 h2
  have z : rd_L2 M ((0 : Nat) : Int) = (List.replicate (b.size + 1) 0).set 0 ((0 : Nat) : Int) := h2 0 (by omega)
  have z' : rd_L2 M 0 = (List.replicate (b.size + 1) 0).set 0 0 := z
  refine Ev.step (fun n => impl_Far.l0.eq_2 _ _ _ _ _ _) (eN (eP ?_))
  have hl : ((rd_L2 M 0).length : Int) = ((b.size + 1 : Nat) : Int) := by rw [z']; simp
  rw [hl]
  refine far_impl_first a b ha hb (b.size + 1) 0 M (by omega) h1 (fun j hj => ?_) (fun j hj1 hj => ?_) (fun j hj => absurd hj (by omega))
  ·rw [h2 j (by omega)]
   simp
  ·rw [h2 j (by omega)]
   exact rd_setN_eq _ 0 _ (by simp)
 | succ d ih =>
  intro i M hi h1 h2
  have wb : wrap64 ((b.size : Int) + 1) = ((b.size + 1 : Nat) : Int) := by rw [w6]; omega
  have wi : wrap64 ((i : Int) + 1) = ((i + 1 : Nat) : Int) := by rw [w6]; omega
  have e : rd_L2 (M.set i (List.replicate (b.size + 1) 0)) (i : Int) = List.replicate (b.size + 1) 0 := rl_set_eq _ _ _ (by omega)
  refine Ev.step (fun n => impl_Far.l0.eq_2 _ _ _ _ _ _) (eP ?_)
  rw [wb, Int.toNat_natCast, Int.toNat_natCast]
  refine eP (eP (eP (eP (evCall rfl ?_))))
  rw [e, wi, show (0 : Int).toNat = 0 from rfl]
  refine evPos (by simp) (ih (i + 1) _ (by omega) (by simpa using h1) (fun j hj => ?_))
  by_cases c : i = j
  ·subst c
   rw [rl_set_eq _ _ _ (by simp; omega)]
  ·rw [rl_set_ne _ _ _ _ c, rl_set_ne _ _ _ _ c]
   exact h2 j (by omega)
theorem far_impl (a b : ByteArray) (ha : a.size ≤ 140737488351232) (hb : b.size ≤ 140737488351232) : Ev (fun n => impl_Far.f n a b) (farB a b) := by
 unfold impl_Far.f
 refine Ev.bind (word_impl a ha) ?_
 cases e1 : wordB a with
 | false => exact evNeg (by simp) (Ev.step (fun n => impl_Far.j0.eq_2 _ _ _ _) (evPos rfl (evTo (Ev.now _) (by simp [farB, e1]))))
 | true =>
  have h1 := wordB_size e1
  refine evPos rfl (Ev.bind (word_impl b hb) ?_)
  cases e2 : wordB b with
  | false => exact Ev.step (fun n => impl_Far.j0.eq_2 _ _ _ _) (evPos rfl (evTo (Ev.now _) (by simp [farB, e2])))
  | true =>
   have h2 := wordB_size e2
   have wa : wrap64 ((a.size : Int) + 1) = ((a.size + 1 : Nat) : Int) := by rw [w6]; omega
   refine Ev.step (fun n => impl_Far.j0.eq_2 _ _ _ _) (evNeg (by simp) ?_)
   rw [wa, Int.toNat_natCast]
   refine eP (eP (evCall rfl ?_))
   have hl : ((List.replicate (a.size + 1) ([] : List Int)).length : Int) = ((a.size + 1 : Nat) : Int) := by simp
   rw [hl]
   exact evTo (far_impl_zero a b (by omega) (by omega) (a.size + 1) 0 _ (by omega) (by simp) (fun j hj => absurd hj (by omega))) (by simp [farB, e1, e2])
def withB (a b : ByteArray) (n : Int) : Bool := wordB a && wordB b && decide (farD a b ≤ n)
theorem within_far (a b : ByteArray) (n : Int) : withB a b n = (decide (0 ≤ farB a b) && decide (farB a b ≤ n)) := by
 unfold withB farB
 have hp : 0 ≤ farD a b := (dist_facts a b _ a.size b.size (Nat.le_refl _)).2.2.2.2.2
 by_cases c : wordB a = true ∧ wordB b = true
 ·rw [if_pos c, c.1, c.2, decide_eq_true hp]
  rfl
 ·rw [if_neg c]
  have : (wordB a && wordB b) = false := by
   cases e1 : wordB a <;> cases e2 : wordB b <;> simp_all
  rw [this]
  simp
theorem withinW_impl (a b : ByteArray) (n : Int) (ha : a.size ≤ 140737488351232) (hb : b.size ≤ 140737488351232) : Ev (fun k => impl_Within.f k a b n) (withB a b n) := by
 unfold impl_Within.f
 refine Ev.bind (far_impl a b ha hb) ?_
 rw [within_far]
 by_cases c : farB a b ≥ 0
 ·exact evPos c (evTo (Ev.now _) (by rw [decide_eq_true c, Bool.true_and]))
 ·exact evNeg c (evTo (Ev.now _) (by rw [decide_eq_false c, Bool.false_and]))
theorem gs_impl_loop (ws : List ByteArray) (w : ByteArray) (far : Int) (hl : ws.length ≤ 100000) (hk : ∀ s ∈ ws, wordB s = true) (hz : ∀ s ∈ ws, s.size ≤ 12) (hw : w.size ≤ 12) (hkw : wordB w = true) (d : Nat) : ∀ (i : Nat) (out : List Gu), i + d = ws.length → out.length ≤ i →
  Ev (fun k => impl_guesses.l0 k w far out ws (ws.length : Int) (i : Int)) (((out ++ gsL (ws.drop i) w far).mergeSort impl_Guess.le).take 10) := by
 induction d with
 | zero =>
  intro i out hi ho
  have e : ws.drop i = [] := List.drop_eq_nil_iff.2 (by omega)
  have e2 : gsL [] w far = [] := rfl
  rw [e, e2, List.append_nil]
  have hm : ∀ n : Nat, mn (n : Int) 10 = ((min n 10 : Nat) : Int) := fun n => by rw [mn_min]; omega
  refine Ev.step (fun k => impl_guesses.l0.eq_2 ..) (eN (evCall (a := out.mergeSort impl_Guess.le) (by unfold impl_Guess.f; rw [if_pos (by omega)]) (evCall rfl ?_)))
  rw [hm]
  refine eP (eP (evCall rfl (evPos ?_ (evTo (Ev.now _) ?_))))
  ·simp; omega
  ·rw [List.nil_append, Int.toNat_natCast]
   rcases Nat.le_total out.length 10 with h | h
   ·rw [Nat.min_eq_left h, List.take_of_length_le (by rw [List.length_mergeSort]; omega), List.take_of_length_le (by rw [List.length_mergeSort]; omega)]
   ·rw [Nat.min_eq_right h]
 | succ d ih =>
  intro i out hi ho
  have hi' : i < ws.length := by omega
  have e : gsL (ws.drop i) w far = (if farD ws[i] w ≤ far then [(⟨ws[i], farD ws[i] w⟩ : Gu)] else []) ++ gsL (ws.drop (i + 1)) w far := by
   rw [drop_cons hi']
   rfl
  have hs := hz _ (List.getElem_mem hi')
  have hks := hk _ (List.getElem_mem hi')
  have hb : withB ws[i] w far = decide (farD ws[i] w ≤ far) := by unfold withB; rw [hks, hkw]; simp
  have hf : farB ws[i] w = farD ws[i] w := by unfold farB; rw [if_pos ⟨hks, hkw⟩]
  refine Ev.step (fun k => impl_guesses.l0.eq_2 ..) (eP (eP (eP ?_)))
  rw [ba_get ws i hi', w6 (n := (i : Int) + 1), e]
  refine Ev.bind (evTo (withinW_impl _ _ far (by omega) (by omega)) hb) ?_
  by_cases c : farD ws[i] w ≤ far
  ·rw [if_pos c, ← List.append_assoc]
   refine evPos (by simpa using c) (Ev.bind (evTo (far_impl _ _ (by omega) (by omega)) hf) (eP ?_))
   exact ih (i + 1) _ (by omega) (by simp; omega)
  ·rw [if_neg c, List.nil_append]
   exact evNeg (by simpa using c) (ih (i + 1) _ (by omega) (by omega))
theorem guesses_impl (ws : List ByteArray) (w : ByteArray) (far : Int) (hl : ws.length ≤ 1048576) (hz : ∀ s ∈ ws, s.size ≤ 1048576) (hw : w.size ≤ 1048576) : Ev (fun k => impl_Guesses.f k ws w far) (guB ws w far) := by
 unfold impl_Guesses.f guB
 refine Ev.bind (words_impl ws 300 hl hz) ?_
 by_cases c : wsB ws = true
 ·refine evPos c (Ev.bind (word_impl w (by omega)) ?_)
  obtain ⟨h1, h2, h3⟩ := ws_facts c
  by_cases c2 : wordB w = true
  ·rw [if_pos ⟨c, c2⟩]
   refine evPos c2 (Ev.bind ?_ (Ev.now _))
   unfold impl_guesses.f
   have := gs_impl_loop ws w far (by omega) h2 h3 (wordB_size c2).2 c2 ws.length 0 [] (by omega) (by simp)
   rw [List.drop_zero, List.nil_append] at this
   exact this
  ·rw [if_neg (fun h => c2 h.2)]
   exact evNeg c2 (Ev.now _)
 ·rw [if_neg (fun h => c h.1)]
  exact evNeg c (Ev.now _)
theorem markText_loop (d : Nat) : ∀ (n : Int) (s : ByteArray), 0 ≤ n → n < 2 ^ d → n ≤ 4611686018427387904 → s.size + d ≤ 1000000 → ∃ t, Ev (fun k => laws_markText.l0 k n s) t := by
 induction d with
 | zero =>
  intro n s h0 h1 h2 hs
  exact ⟨_, Ev.step (fun k => laws_markText.l0.eq_2 _ _ _) (evNeg (by simp at h1; omega) (eP (Ev.now _)))⟩
 | succ d ih =>
  intro n s h0 h1 h2 hs
  by_cases c : n > 0
  ·have hd : Int.tdiv n 10 = n / 10 := Int.tdiv_eq_ediv_of_nonneg h0
   have hp : (2 : Int) ^ (d + 1) = 2 ^ d * 2 := Int.pow_succ 2 d
   have hz : ∀ x : Int, (strOfNums [x]).size = 1 := fun _ => rfl
   obtain ⟨t, ht⟩ := ih (n / 10) (strOfNums [(wrap64 (48 + (Int.tmod n 10))) % 256] ++ s) (by omega) (by omega) (by omega) (by rw [size_append, hz]; omega)
   refine ⟨t, Ev.step (fun k => laws_markText.l0.eq_2 _ _ _) (evPos c (evCall rfl (evPos (by rw [hz]; omega) ?_)))⟩
   rw [hd, w6 (n := n / 10)]
   exact ht
  ·exact ⟨_, Ev.step (fun k => laws_markText.l0.eq_2 _ _ _) (evNeg c (eP (Ev.now _)))⟩
theorem markText_some (n : Int) (h1 : n ≤ 4611686018427387904) : ∃ t, Ev (fun k => laws_markText.f k n) t := by
 unfold laws_markText.f
 by_cases c : n ≤ 0
 ·exact ⟨_, evPos c (Ev.now _)⟩
 ·obtain ⟨t, ht⟩ := markText_loop 63 n ⟨#[]⟩ (by omega) (by omega) h1 (by decide)
  exact ⟨t, evNeg c ht⟩
noncomputable def mt (n : Int) : ByteArray := Classical.epsilon (fun t => Ev (fun k => laws_markText.f k n) t)
theorem mt_ev (n : Int) (h1 : n ≤ 4611686018427387904) : Ev (fun k => laws_markText.f k n) (mt n) := Classical.epsilon_spec (p := fun t => Ev (fun k => laws_markText.f k n) t) (markText_some n h1)
noncomputable def marks (n : Int) (d : Nat) : List ByteArray := (List.range d).map (fun j : Nat => mt (n + (j : Int)))
theorem marks_length (n : Int) (d : Nat) : (marks n d).length = d := by simp [marks]
theorem markStr_loop (l0 : Nat) (d : Nat) : ∀ (i : Nat) (y : List ByteArray), y.length = l0 → i + d = l0 → l0 ≤ 2000000 → (∀ j : Nat, j < i → y[j]? = (marks 1 l0)[j]?) → Ev (fun k => laws_markStringS.l0 k y ((1 : Int) + i) (i : Int)) ((1 : Int) + l0, marks 1 l0) := by
 induction d with
 | zero =>
  intro i y hy hi hl h
  refine Ev.step (fun k => laws_markStringS.l0.eq_2 _ _ _ _) (eN (evTo (Ev.now _) ?_))
  have e : y = marks 1 l0 := by
   refine List.ext_getElem? fun j => ?_
   by_cases c : j < i
   ·exact h j c
   ·rw [List.getElem?_eq_none (by omega), List.getElem?_eq_none (by rw [marks_length]; omega)]
  rw [e, show (1 : Int) + (i : Int) = 1 + (l0 : Int) from by omega]
 | succ d ih =>
  intro i y hy hi hl h
  refine Ev.step (fun k => laws_markStringS.l0.eq_2 _ _ _ _) (eP (Ev.bind (mt_ev _ (by omega)) (eP ?_)))
  rw [w6 (n := (1 : Int) + (i : Int) + 1), w6 (n := (i : Int) + 1), show (1 : Int) + (i : Int) + 1 = 1 + ((i + 1 : Nat) : Int) from by omega]
  refine ih (i + 1) _ (by simpa using hy) (by omega) hl (fun j hj => ?_)
  rw [Int.toNat_natCast]
  by_cases c : i = j
  ·subst c
   rw [List.getElem?_set_self (by omega)]
   simp [marks, show i < l0 from by omega]
  ·rw [List.getElem?_set_ne c]
   exact h j (by omega)
theorem markStrs_ev (l : List ByteArray) (hl : l.length ≤ 2000000) : Ev (fun k => laws_markStringS.f k l 1) ((1 : Int) + l.length, marks 1 l.length) := by
 unfold laws_markStringS.f
 have := markStr_loop l.length l.length 0 l rfl (by omega) hl (fun j hj => absurd hj (by omega))
 simpa using this
noncomputable def marksG (d : Nat) : List Gu := (List.range d).map (fun j : Nat => (⟨mt (1 + 2 * (j : Int)), 1 + 2 * (j : Int) + 1⟩ : Gu))
theorem marksG_length (d : Nat) : (marksG d).length = d := by simp [marksG]
theorem marksG_get (d i : Nat) (h : i < d) : rd_T36 (marksG d) (i : Int) = ⟨mt (1 + 2 * (i : Int)), 1 + 2 * (i : Int) + 1⟩ := by
 rw [gu_get _ i (by rw [marksG_length]; exact h)]
 simp [marksG]
theorem markGu_loop (l0 : Nat) (d : Nat) : ∀ (i : Nat) (y : List Gu), y.length = l0 → i + d = l0 → l0 ≤ 1000000 → (∀ j : Nat, j < i → y[j]? = (marksG l0)[j]?) → Ev (fun k => laws_markGuessS.l0 k y ((1 : Int) + 2 * i) (i : Int)) ((1 : Int) + 2 * l0, marksG l0) := by
 induction d with
 | zero =>
  intro i y hy hi hl h
  refine Ev.step (fun k => laws_markGuessS.l0.eq_2 ..) (eN (evTo (Ev.now _) ?_))
  have e : y = marksG l0 := by
   refine List.ext_getElem? fun j => ?_
   by_cases c : j < i
   ·exact h j c
   ·rw [List.getElem?_eq_none (by omega), List.getElem?_eq_none (by rw [marksG_length]; omega)]
  rw [e, show (1 : Int) + 2 * (i : Int) = 1 + 2 * (l0 : Int) from by omega]
 | succ d ih =>
  intro i y hy hi hl h
  refine Ev.step (fun k => laws_markGuessS.l0.eq_2 ..) (eP (Ev.bind (mt_ev _ (by omega)) (eP (evCall rfl ?_))))
  rw [w6 (n := (1 : Int) + 2 * (i : Int) + 1), w6 (n := (1 : Int) + 2 * (i : Int) + 1 + 1), w6 (n := (i : Int) + 1), show (1 : Int) + 2 * (i : Int) + 1 + 1 = 1 + 2 * ((i + 1 : Nat) : Int) from by omega, Int.toNat_natCast]
  refine ih (i + 1) _ (by simpa using hy) (by omega) hl (fun j hj => ?_)
  by_cases c : i = j
  ·subst c
   rw [List.getElem?_set_self (by simp; omega), gu_get _ i (by simp; omega)]
   simp [marksG, show i < l0 from by omega]
  ·rw [List.getElem?_set_ne c, List.getElem?_set_ne c]
   exact h j (by omega)
theorem markGus_ev (l : List Gu) (hl : l.length ≤ 1000000) : Ev (fun k => laws_markGuessS.f k l 1) ((1 : Int) + 2 * l.length, marksG l.length) := by
 unfold laws_markGuessS.f
 have := markGu_loop l.length l.length 0 l rfl (by omega) hl (fun j hj => absurd hj (by omega))
 simpa using this
theorem heldGu_loop (l0 : Nat) (d : Nat) : ∀ i : Nat, i + d = l0 → l0 ≤ 1000000 → Ev (fun k => laws_heldGuessS.l0 k (marksG l0) ((1 : Int) + 2 * i) (i : Int)) ((1 : Int) + 2 * l0) := by
 induction d with
 | zero =>
  intro i hi hl
  refine Ev.step (fun k => laws_heldGuessS.l0.eq_2 ..) (evNeg (by rw [marksG_length]; omega) (evTo (Ev.now _) (by omega)))
 | succ d ih =>
  intro i hi hl
  refine Ev.step (fun k => laws_heldGuessS.l0.eq_2 ..) (evPos (by rw [marksG_length]; omega) (eP (Ev.bind (mt_ev _ (by omega)) ?_)))
  rw [marksG_get l0 i (by omega), w6 (n := (1 : Int) + 2 * (i : Int) + 1), w6 (n := (1 : Int) + 2 * (i : Int) + 1 + 1), w6 (n := (i : Int) + 1), show (1 : Int) + 2 * (i : Int) + 1 + 1 = 1 + 2 * ((i + 1 : Nat) : Int) from by omega]
  refine evPos rfl (evPos rfl ?_)
  exact ih (i + 1) (by omega) hl
theorem heldGu_ev (n : Nat) (hl : n ≤ 1000000) : Ev (fun k => laws_heldGuessS.f k (marksG n) 1) ((1 : Int) + 2 * n) := by
 unfold laws_heldGuessS.f
 have := heldGu_loop n n 0 (by omega) hl
 simpa using this
theorem eqGu_loop (l : List Gu) (hl : l.length ≤ 1000000) (d : Nat) : ∀ i : Nat, i + d = l.length → Ev (fun k => laws_eqGuessS.l0 k l l (i : Int)) true := by
 induction d with
 | zero =>
  intro i hi
  exact Ev.step (fun k => laws_eqGuessS.l0.eq_2 ..) (eN (Ev.now _))
 | succ d ih =>
  intro i hi
  refine Ev.step (fun k => laws_eqGuessS.l0.eq_2 ..) (eP (eP (eP (evCall (a := true) (by unfold laws_eqGuess.f; rw [if_pos rfl, if_pos rfl]) (evPos rfl ?_)))))
  rw [w6]
  exact ih (i + 1) (by omega)
theorem eqGus_ev (l : List Gu) (hl : l.length ≤ 1000000) : Ev (fun k => laws_eqGuessS.f k l l) true := by
 unfold laws_eqGuessS.f
 exact evPos rfl (eqGu_loop l hl l.length 0 (by omega))
theorem eqStr_loop (l : List ByteArray) (hl : l.length ≤ 10000000) (d : Nat) : ∀ i : Nat, i + d = l.length → Ev (fun k => laws_eqStringS.l0 k l l (i : Int)) true := by
 induction d with
 | zero =>
  intro i hi
  exact Ev.step (fun k => laws_eqStringS.l0.eq_2 _ _ _ _) (eN (Ev.now _))
 | succ d ih =>
  intro i hi
  refine Ev.step (fun k => laws_eqStringS.l0.eq_2 _ _ _ _) (eP (eP (eP (evPos rfl ?_))))
  rw [w6]
  exact ih (i + 1) (by omega)
theorem eqStrs_ev (l : List ByteArray) (hl : l.length ≤ 10000000) : Ev (fun k => laws_eqStringS.f k l l) true := by
 unfold laws_eqStringS.f
 exact evPos rfl (eqStr_loop l hl l.length 0 (by omega))
theorem fill_step {α β : Type} {f : α → β} {xs : List α} {ys : List β} {i : Nat} (z : α) (hl : ys.length = xs.length) (h : ∀ j : Nat, j < i → ys[j]? = (xs.map f)[j]?) (hi : i < xs.length) :
  (ys.set i (f (xs.getD i z))).length = xs.length ∧ ∀ j : Nat, j < i + 1 → (ys.set i (f (xs.getD i z)))[j]? = (xs.map f)[j]? := by
 refine ⟨by simpa using hl, fun j hj => ?_⟩
 by_cases c : i = j
 ·subst c
  simp [hl, hi, List.getD_eq_getElem?_getD]
 ·rw [List.getElem?_set_ne c]
  exact h j (by omega)
theorem fill_end {α β : Type} {f : α → β} {xs : List α} {ys : List β} (hl : ys.length = xs.length) (h : ∀ j : Nat, j < xs.length → ys[j]? = (xs.map f)[j]?) : ys = xs.map f := by
 refine List.ext_getElem? fun j => ?_
 by_cases c : j < xs.length
 ·exact h j c
 ·rw [List.getElem?_eq_none (by omega), List.getElem?_eq_none (by simp; omega)]
theorem toStr_loop (l : List ByteArray) (hl : l.length ≤ 10000000) (d : Nat) : ∀ (i : Nat) (y : List ByteArray), i + d = l.length → y.length = l.length → (∀ j : Nat, j < i → y[j]? = (l.map id)[j]?) → Ev (fun k => laws_toStringS.l0 k l y (i : Int)) (l.map id) := by
 induction d with
 | zero =>
  intro i y hi hy h
  exact Ev.step (fun k => laws_toStringS.l0.eq_2 _ _ _ _) (eN (evTo (Ev.now _) (fill_end hy (fun j hj => h j (by omega)))))
 | succ d ih =>
  intro i y hi hy h
  obtain ⟨h1, h2⟩ := fill_step (f := id) ByteArray.empty hy h (by omega)
  refine Ev.step (fun k => laws_toStringS.l0.eq_2 _ _ _ _) (eP (eP (eP ?_)))
  rw [w6]
  exact ih (i + 1) _ (by omega) h1 h2
theorem toStrs_ev (l : List ByteArray) (hl : l.length ≤ 10000000) : Ev (fun k => laws_toStringS.f k l) l := by
 unfold laws_toStringS.f
 exact eP (eP (evTo (toStr_loop l hl l.length 0 _ (by omega) (by simp) (fun j hj => absurd hj (by omega))) (List.map_id l)))
theorem szStrs_loop (l : List ByteArray) (hl : l.length ≤ 10000000) (he : ∀ s ∈ l, s.size ≤ 9223372036854775807) (d : Nat) : ∀ (i : Nat) (n : Int), i + d = l.length → 0 ≤ n → n ≤ 1048576 → ∃ m, Ev (fun k => laws_szStringS.l0 k l n (i : Int)) m ∧ (m < 0 ∨ (0 ≤ m ∧ m ≤ 1048576 ∧ ∀ s ∈ l.drop i, s.size ≤ 1048576)) := by
 induction d with
 | zero =>
  intro i n hi h0 h1
  exact ⟨n, Ev.step (fun k => laws_szStringS.l0.eq_2 _ _ _ _) (eN (Ev.now _)), .inr ⟨h0, h1, fun s hs => by rw [List.drop_eq_nil_of_le (by omega)] at hs; cases hs⟩⟩
 | succ d ih =>
  intro i n hi h0 h1
  have hlt : i < l.length := by omega
  have e := ba_get l i hlt
  have hw := he _ (List.getElem_mem hlt)
  by_cases c : n - (l[i].size : Int) < 0
  ·refine ⟨-1, Ev.step (fun k => laws_szStringS.l0.eq_2 _ _ _ _) (eP (eP ?_)), .inl (by omega)⟩
   rw [e, w6 (n := n - (l[i].size : Int))]
   exact evPos c (Ev.now _)
  ·obtain ⟨q, hq, hr⟩ := ih (i + 1) (n - (l[i].size : Int)) (by omega) (by omega) (by omega)
   refine ⟨q, Ev.step (fun k => laws_szStringS.l0.eq_2 _ _ _ _) (eP (eP ?_)), hr.elim .inl (fun h => .inr ⟨h.1, h.2.1, fun s hs => ?_⟩)⟩
   ·rw [e, w6 (n := n - (l[i].size : Int))]
    refine evNeg c ?_
    rw [w6 (n := (i : Int) + 1)]
    exact hq
   ·rw [List.drop_eq_getElem_cons hlt] at hs
    rcases List.mem_cons.1 hs with rfl | hs
    ·omega
    ·exact h.2.2 s hs
theorem szStrs_ev (l : List ByteArray) (n : Int) (h0 : 0 ≤ n) (h1 : n ≤ 1048576) (hl : l.length ≤ 9223372036854775807) (he : ∀ s ∈ l, s.size ≤ 9223372036854775807) :
  ∃ m, Ev (fun k => laws_szStringS.f k l n) m ∧ (m < 0 ∨ (0 ≤ m ∧ m ≤ 1048576 ∧ l.length ≤ 1048576 ∧ ∀ s ∈ l, s.size ≤ 1048576)) := by
 unfold laws_szStringS.f
 rw [w6 (n := n - (l.length : Int))]
 by_cases c : n - (l.length : Int) < 0
 ·exact ⟨-1, evPos c (Ev.now _), .inl (by omega)⟩
 ·obtain ⟨m, hm, hz⟩ := szStrs_loop l (by omega) he l.length 0 (n - l.length) (by omega) (by omega) (by omega)
  exact ⟨m, evNeg c hm, hz.elim .inl (fun h => .inr ⟨h.1, h.2.1, by omega, by simpa using h.2.2⟩)⟩
theorem FnExactGuesses (l : List ByteArray) (w : ByteArray) (far : Int) (z : (l.length ≤ 9223372036854775807 ∧ ∀ y1 ∈ l, y1.size ≤ 9223372036854775807)) (_ : w.size ≤ 140737488351232) {p : Prop} (_ : p) : ∃ k, laws_FnExactGuesses.f k l w far = some true := by
 refine Ev.rounds ?_
 unfold laws_FnExactGuesses.f
 by_cases c0 : (w.size : Int) > 1048576
 ·exact evPos c0 (Ev.now _)
 obtain ⟨m, hm, hz⟩ := szStrs_ev l 1048576 (by omega) (by omega) z.1 z.2
 refine evNeg c0 (Ev.bind hm ?_)
 by_cases c : m < 0
 ·exact evPos c (Ev.now _)
 obtain ⟨_, _, hl, he⟩ := hz.resolve_left c
 have ht := toStrs_ev l (by omega)
 have gs := guesses_spec l w far hl he (by omega)
 have gi := guesses_impl l w far hl he (by omega)
 have hg := guB_length l w far
 generalize guB l w far = r at gs gi hg
 have er := eqGus_ev r (by omega)
 have em := markStrs_ev l (by omega)
 have mg := markGus_ev r (by omega)
 have hh := heldGu_ev r.length (by omega)
 refine evNeg c (Ev.bind ht (Ev.bind gs (Ev.bind ht (Ev.bind gi (Ev.bind er (evPos rfl (Ev.bind ht (Ev.bind (eqStrs_ev l (by omega)) (evPos rfl (Ev.bind em ?_))))))))))
 refine evNeg (by show ¬ ((1 : Int) + l.length < 0); omega) (Ev.bind er ?_)
 refine Ev.step (fun k => laws_FnExactGuesses.j0.eq_2 ..) (evNeg (by simp) (Ev.bind mg (Ev.bind hh ?_)))
 refine eN (evPos rfl (Ev.bind ht (Ev.bind gi (Ev.bind er (evPos rfl (Ev.bind hh (eN (evPos rfl (Ev.now _)))))))))
end Go.Proofs.Ytfpmfaelodfecaa.Pure

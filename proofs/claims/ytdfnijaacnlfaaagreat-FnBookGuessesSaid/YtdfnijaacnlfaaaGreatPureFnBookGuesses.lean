/- A book suggests its nearest words, of a drawn book and a drawn text. No condition. -/
import Derived.Test.YtdfnijaacnlfaaaGreatQFnBookGuessesx28
import Derived.Test.YtdfnijaacnlfaaaGreatVMBas
import Derived.Test.YtdfnijaacnlfaaaGreatVMStr
import Derived.Test.YtdfnijaacnlfaaaGreatVMAff
import Derived.Test.YtdfnijaacnlfaaaGreatVMSml
import Derived.Test.YtdfnijaacnlfaaaGreatVMSrt
import Derived.Test.YtdfnijaacnlfaaaGreatVMDst
import Derived.Test.YtdfnijaacnlfaaaGreatVMAry
import Derived.Test.YtdfnijaacnlfaaaGreatVMNer
import Derived.Test.YtdfnijaacnlfaaaGreatVSized
namespace Go.Proofs.YtdfnijaacnlfaaaGreat
theorem PrintWords.sized_ints : type_of% @Go.Proofs.YtdfnijaacnlfaaaGreatW.PrintWords.sized_ints := @Go.Proofs.YtdfnijaacnlfaaaGreatW.PrintWords.sized_ints
end Go.Proofs.YtdfnijaacnlfaaaGreat
namespace Go.Proofs.YtdfnijaacnlfaaaGreat.Pure
open Go.RowKit Go.Proofs.YtdfnijaacnlfaaaGreat.QFnBookGuesses Go.Proofs.YtdfnijaacnlfaaaGreatW.PrintWords Go.Proofs.YtdfnijaacnlfaaaGreatW.PrintLast Go.Proofs.YtdfnijaacnlfaaaGreatW.PrintMore Go.Proofs.YtdfnijaacnlfaaaGreat.M
set_option linter.unusedVariables false
set_option linter.unusedSimpArgs false
theorem ba_get (l : List ByteArray) (i : Nat) (h : i < l.length) : rdOf ByteArray.empty l (i : Int) = l[i] := by simp [rdOf, List.getD_eq_getElem?_getD, List.getElem?_eq_getElem h]
theorem ba_at {P : ByteArray → Prop} {l : List ByteArray} (h : ∀ s ∈ l, P s) (i : Nat) (hi : i < l.length) : P (rdOf ByteArray.empty l (i : Int)) := by
 rw [ba_get l i hi]
 exact h _ (List.getElem_mem hi)
theorem letters_loop (s : ByteArray) (m : Int) (h : s.size ≤ 281474976710656) (d : Nat) : ∀ i : Int, 0 ≤ i → i ≤ s.size → (s.size : Int) - i = d →
  Ev (fun k => spec_l1Letters.l0 k s m i) (((bytesOf s).drop i.toNat).all low && decide ((s.size : Int) ≤ m)) := by
 induction d with
 | zero =>
  intro i h0 h1 hd
  refine Ev.step (fun k => spec_l1Letters.l0.eq_2 _ _ _ _) (eN ?_)
  rw [List.drop_eq_nil_of_le (by rw [bytesOf_length]; omega)]
  exact evTo (Ev.now _) (by simp)
 | succ d ih =>
  intro i h0 h1 hd
  refine Ev.step (fun k => spec_l1Letters.l0.eq_2 _ _ _ _) (eP (evPos h0 ?_))
  rw [bytes_drop s i h0 (by omega), List.all_cons]
  by_cases c : bt s i < 97
  ·exact evPos c (evTo (Ev.now _) (by simp [low]; omega))
  refine evNeg c ?_
  by_cases c1 : bt s i > 122
  ·exact evPos c1 (evTo (Ev.now _) (by simp [low]; omega))
  refine evNeg c1 ?_
  have e : low (bt s i) = true := (low_iff _).2 (by omega)
  rw [w6, e, Bool.true_and]
  exact ih (i + 1) (by omega) (by omega) (by omega)
theorem letters_spec (s : ByteArray) (m : Int) (h : s.size ≤ 140737488351232) : Ev (fun k => spec_l1Letters.f k s m) ((bytesOf s).all low && decide ((s.size : Int) ≤ m)) :=
 letters_loop s m (by omega) s.size 0 (by omega) (by omega) (by omega)
theorem letters_wide (s : ByteArray) (m : Int) (h : s.size ≤ 281474976710656) : Ev (fun k => spec_l1Letters.f k s m) ((bytesOf s).all low && decide ((s.size : Int) ≤ m)) :=
 letters_loop s m h s.size 0 (by omega) (by omega) (by omega)
theorem l1Word_spec (s : ByteArray) (h : s.size ≤ 140737488351232) : Ev (fun k => spec_l1Word.f k s) (wordB s) := by
 unfold spec_l1Word.f
 by_cases c : (s.size : Int) > 0
 ·have hp : 0 < s.size := by omega
  refine evPos c (Ev.bind (letters_spec s 12 h) (evTo (Ev.now _) ?_))
  simp only [wordB, wordL, bytesOf_length, decide_eq_true hp, Bool.true_and]
  rw [Bool.and_comm]
  congr 1
  exact decide_eq_decide.2 (by omega)
 ·exact evNeg c (evTo (Ev.now _) (wordB_no (by omega)).symm)
theorem l1Word_spec' (s : ByteArray) (h : s.size ≤ 281474976710656) : Ev (fun k => spec_l1Word.f k s) (wordB s) := by
 by_cases c : s.size ≤ 140737488351232
 ·exact l1Word_spec s c
 unfold spec_l1Word.f
 refine eP (Ev.bind (letters_wide s 12 h) (evTo (Ev.now _) ?_))
 rw [wordB_no (by omega), decide_eq_false (by omega), Bool.and_false]
theorem lower_loop (s : ByteArray) (h : s.size ≤ 140737488351232) (d : Nat) : ∀ i : Int, 0 ≤ i → i ≤ s.size → (s.size : Int) - i = d →
  Ev (fun k => impl_lower.l0 k s (s.size : Int) i) (((bytesOf s).drop i.toNat).all low) := by
 induction d with
 | zero =>
  intro i h0 h1 hd
  refine Ev.step (fun k => impl_lower.l0.eq_2 _ _ _ _) (eN ?_)
  rw [List.drop_eq_nil_of_le (by rw [bytesOf_length]; omega)]
  exact evTo (Ev.now _) (by simp)
 | succ d ih =>
  intro i h0 h1 hd
  refine Ev.step (fun k => impl_lower.l0.eq_2 _ _ _ _) (eP (evPos h0 (eP ?_)))
  rw [bytes_drop s i h0 (by omega), List.all_cons]
  by_cases c : bt s i < 97
  ·exact evPos c (evTo (Ev.now _) (by simp [low]; omega))
  refine evNeg c ?_
  by_cases c1 : bt s i > 122
  ·exact evPos c1 (evTo (Ev.now _) (by simp [low]; omega))
  refine evNeg c1 ?_
  have e : low (bt s i) = true := (low_iff _).2 (by omega)
  rw [w6, e, Bool.true_and]
  exact ih (i + 1) (by omega) (by omega) (by omega)
theorem lower_impl (s : ByteArray) (h : s.size ≤ 140737488351232) : Ev (fun k => impl_lower.f k s) ((bytesOf s).all low) :=
 lower_loop s h s.size 0 (by omega) (by omega) (by omega)
theorem within_impl (n a b : Int) : impl_within.f n a b = some (decide (a ≤ n) && decide (n ≤ b)) := by
 unfold impl_within.f
 by_cases c : n ≥ a
 ·rw [if_pos c]; simp [c]
 ·rw [if_neg c]; simp; omega
theorem word_impl (s : ByteArray) (h : s.size ≤ 140737488351232) : Ev (fun k => impl_WordOk.f k s) (wordB s) := by
 unfold impl_WordOk.f
 refine evCall (within_impl _ _ _) ?_
 by_cases c : (1 ≤ (s.size : Int) ∧ (s.size : Int) ≤ 12)
 ·have hp : 0 < s.size := by omega
  have hq : s.size ≤ 12 := by omega
  refine evPos (by simp; omega) (Ev.bind (lower_impl s h) (evTo (Ev.now _) ?_))
  simp only [wordB, wordL, bytesOf_length, decide_eq_true hp, decide_eq_true hq, Bool.true_and]
 ·exact evNeg (by simp; omega) (evTo (Ev.now _) (wordB_no (by omega)).symm)
theorem word_impl' (s : ByteArray) (h : s.size ≤ 281474976710656) : Ev (fun k => impl_WordOk.f k s) (wordB s) := by
 by_cases c : s.size ≤ 140737488351232
 ·exact word_impl s c
 ·unfold impl_WordOk.f
  refine evCall (within_impl _ _ _) ?_
  exact evNeg (by simp; omega) (evTo (Ev.now _) (wordB_no (by omega)).symm)
abbrev Gu := S38
theorem le_iff (x y : Gu) : impl_Guess.le x y = true ↔ ltOf impl_Guess.cf y x = false := by
 unfold impl_Guess.le
 simp
theorem le_trans' (x y z : Gu) (h1 : impl_Guess.le x y = true) (h2 : impl_Guess.le y z = true) : impl_Guess.le x z = true := by
 rw [le_iff] at *
 exact impl_Guess.swo.ntrans _ _ _ h2 h1
theorem le_total' (x y : Gu) : (impl_Guess.le x y || impl_Guess.le y x) = true := by
 rw [Bool.or_eq_true, le_iff, le_iff]
 cases h1 : ltOf impl_Guess.cf y x
 ·exact .inl rfl
 ·right
  cases h2 : ltOf impl_Guess.cf x y
  ·rfl
  ·have := impl_Guess.swo.trans _ _ _ h1 h2
   rw [impl_Guess.swo.irrefl] at this
   cases this
theorem le_anti (x y : Gu) (h1 : impl_Guess.le x y = true) (h2 : impl_Guess.le y x = true) : x = y := by
 rw [le_iff] at *
 exact impl_Guess.tot _ _ h2 h1
theorem lt_eq {x y : Gu} (h : x.f1 = y.f1) : ltOf impl_Guess.cf x y = Op.bytesLess x.f0.toList y.f0.toList := by
 rw [bytesLess_eq, Bool.eq_iff_iff, impl_Guess.lt_iff, h]
 simp
def putG : List Gu → Gu → List Gu
 | [], g => [g]
 | x :: l, g => if ltOf impl_Guess.cf x g = true then x :: putG l g else g :: x :: l
theorem putG_perm (l : List Gu) (g : Gu) : (putG l g).Perm (g :: l) := by
 induction l with
 | nil => exact List.Perm.refl _
 | cons x l ih =>
  simp only [putG]
  split
  ·exact (List.Perm.cons x ih).trans (List.Perm.swap g x l)
  ·exact List.Perm.refl _
theorem putG_length (l : List Gu) (g : Gu) : (putG l g).length = l.length + 1 := (putG_perm l g).length_eq
theorem putG_sorted {l : List Gu} (h : l.Pairwise (fun a b => impl_Guess.le a b = true)) (g : Gu) : (putG l g).Pairwise (fun a b => impl_Guess.le a b = true) := by
 induction l with
 | nil => simp [putG]
 | cons x l ih =>
  have h' := List.pairwise_cons.1 h
  simp only [putG]
  split
  ·rename_i hlt
   refine List.pairwise_cons.2 ⟨fun z hz => ?_, ih h'.2⟩
   rcases List.mem_cons.1 ((putG_perm l g).mem_iff.1 hz) with rfl | hz
   ·rcases Bool.or_eq_true _ _ ▸ le_total' x z with e | e
    ·exact e
    ·rw [le_iff, hlt] at e
     cases e
   ·exact h'.1 z hz
  ·rename_i hlt
   have e : impl_Guess.le g x = true := (le_iff _ _).2 (by simpa using hlt)
   refine List.pairwise_cons.2 ⟨fun z hz => ?_, h⟩
   rcases List.mem_cons.1 hz with rfl | hz
   ·exact e
   ·exact le_trans' _ _ _ e (h'.1 z hz)
theorem foldG_perm (c : List Gu) : ∀ l : List Gu, (c.foldl putG l).Perm (c ++ l) := by
 induction c with
 | nil => intro l; exact List.Perm.refl _
 | cons g c ih =>
  intro l
  rw [List.foldl_cons]
  exact (ih _).trans (((putG_perm l g).append_left c).trans List.perm_middle)
theorem foldG_sorted (c : List Gu) : ∀ l : List Gu, l.Pairwise (fun a b => impl_Guess.le a b = true) → (c.foldl putG l).Pairwise (fun a b => impl_Guess.le a b = true) := by
 induction c with
 | nil => intro l h; exact h
 | cons g c ih => intro l h; exact ih _ (putG_sorted h g)
theorem sortedG_uniq : ∀ {l k : List Gu}, l.Pairwise (fun a b => impl_Guess.le a b = true) → k.Pairwise (fun a b => impl_Guess.le a b = true) → l.Perm k → l = k
 | [], k, _, _, hp => by have := hp.length_eq; cases k <;> simp_all
 | x :: l, [], _, _, hp => by have := hp.length_eq; simp at this
 | x :: l, y :: k, hl, hk, hp => by
  have hl' := List.pairwise_cons.1 hl
  have hk' := List.pairwise_cons.1 hk
  have e : x = y := by
   rcases List.mem_cons.1 (hp.mem_iff.1 List.mem_cons_self) with e | e
   ·exact e
   ·rcases List.mem_cons.1 (hp.mem_iff.2 List.mem_cons_self) with e2 | e2
    ·exact e2.symm
    ·exact le_anti _ _ (hl'.1 _ e2) (hk'.1 _ e)
  subst e
  rw [sortedG_uniq hl'.2 hk'.2 ((List.perm_cons x).1 hp)]
theorem foldG_sort (c : List Gu) : c.foldl putG [] = c.mergeSort impl_Guess.le := by
 refine sortedG_uniq (foldG_sorted c [] List.Pairwise.nil) (List.pairwise_mergeSort le_trans' le_total' c) ?_
 have h := foldG_perm c []
 rw [List.append_nil] at h
 exact h.trans (List.mergeSort_perm c impl_Guess.le).symm
def gsL (ws : List ByteArray) (w : ByteArray) (far : Int) : List Gu := ws.flatMap (fun s => if farD s w ≤ far then [(⟨s, farD s w⟩ : Gu)] else [])
theorem drop_cons {α : Type} {l : List α} {i : Nat} (h : i < l.length) : l.drop i = l[i] :: l.drop (i + 1) := (List.getElem_cons_drop ..).symm
theorem gu_get (l : List Gu) (i : Nat) (h : i < l.length) : rd_T38 l (i : Int) = l[i] := by simp [rd_T38, List.getD_eq_getElem?_getD, List.getElem?_eq_getElem h]
theorem least_spec (a b : Int) : spec_l1Least.f a b = some (min a b) := by
 unfold spec_l1Least.f
 by_cases c : a < b
 ·rw [if_pos c]; congr 1; omega
 ·rw [if_neg c]; congr 1; omega
theorem dist_small (a b : ByteArray) (i k : Nat) (h : i ≤ 100) (h2 : k ≤ 100) : 0 ≤ dist a b i k ∧ dist a b i k ≤ 100 := by
 obtain ⟨_, _, _, m, _, p⟩ := dist_facts a b _ i k (Nat.le_refl _)
 omega
def rowD (a b : ByteArray) (i k : Nat) : List Int := (List.range k).map (fun j => dist a b i j)
theorem rowD_length (a b : ByteArray) (i k : Nat) : (rowD a b i k).length = k := by simp [rowD]
theorem rowD_succ (a b : ByteArray) (i k : Nat) : rowD a b i (k + 1) = rowD a b i k ++ [dist a b i k] := by simp [rowD, List.range_succ]
theorem rowD_rd (a b : ByteArray) (i k : Nat) (j : Nat) (h : j < k) : rd (rowD a b i k) (j : Int) = dist a b i j := by
 simp [rd, rowD, List.getD_eq_getElem?_getD, h]
def tabD (a b : ByteArray) (i : Nat) : List (List Int) := (List.range i).map (fun j => rowD a b j (b.size + 1))
theorem tabD_length (a b : ByteArray) (i : Nat) : (tabD a b i).length = i := by simp [tabD]
theorem tabD_succ (a b : ByteArray) (i : Nat) : tabD a b (i + 1) = tabD a b i ++ [rowD a b i (b.size + 1)] := by simp [tabD, List.range_succ]
theorem tabD_rd (a b : ByteArray) (i j : Nat) (h : j < i) : rd_L6 (tabD a b i) (j : Int) = rowD a b j (b.size + 1) := by
 simp [rd_L6, tabD, List.getD_eq_getElem?_getD, h]
theorem far_spec_row (a b : ByteArray) (ha : a.size ≤ 100) (hb : b.size ≤ 100) (i : Nat) (hi : i ≤ a.size) {r : Int}
  (next : Ev (fun k => spec_l1Far.l0 k a b (tabD a b (i + 1)) ((i + 1 : Nat) : Int)) r) (d : Nat) : ∀ k : Nat, k + d = b.size + 1 →
  Ev (fun n => spec_l1Far.l1 n a b (tabD a b i) (i : Int) (rowD a b i k) (k : Int)) r := by
 induction d with
 | zero =>
  intro k hk
  obtain rfl : k = b.size + 1 := by omega
  refine Ev.step (fun n => spec_l1Far.l1.eq_2 _ _ _ _ _ _ _) (eN (evPos (by rw [tabD_length]; omega) ?_))
  rw [w6, ← tabD_succ]
  exact next
 | succ d ih =>
  intro k hk
  have ihk := ih (k + 1) (by omega)
  rw [rowD_succ] at ihk
  refine Ev.step (fun n => spec_l1Far.l1.eq_2 _ _ _ _ _ _ _) (eP ?_)
  have wk : wrap64 ((k : Int) + 1) = ((k + 1 : Nat) : Int) := by rw [w6]; omega
  by_cases ci : i = 0
  ·subst ci
   rw [dist_zero] at ihk
   refine evPos rfl (evPos (by rw [rowD_length]; omega) ?_)
   rw [wk]
   exact ihk
  by_cases ck : k = 0
  ·subst ck
   rw [dist_nil] at ihk
   refine eN (evPos rfl (evPos (by rw [rowD_length]; omega) ?_))
   rw [wk]
   exact ihk
  obtain ⟨i, rfl⟩ : ∃ m, i = m + 1 := ⟨i - 1, by omega⟩
  obtain ⟨k, rfl⟩ : ∃ m, k = m + 1 := ⟨k - 1, by omega⟩
  have wi1 : wrap64 (((i + 1 : Nat) : Int) - 1) = (i : Int) := by rw [w6]; omega
  have wk1 : wrap64 (((k + 1 : Nat) : Int) - 1) = (k : Int) := by rw [w6]; omega
  have rowi : rd_L6 (tabD a b (i + 1)) (i : Int) = rowD a b i (b.size + 1) := tabD_rd a b (i + 1) i (by omega)
  have b1 := dist_small a b i k (by omega) (by omega)
  have b2 := dist_small a b i (k + 1) (by omega) (by omega)
  have b3 := dist_small a b (i + 1) k (by omega) (by omega)
  have b4 := dist_small a b (i - 1) (k - 1) (by omega) (by omega)
  refine eN (eN ?_)
  rw [wi1, wk1, rowi, rowD_rd a b i (b.size + 1) k (by omega)]
  have join : ∀ v : Int, v = dist a b i k + (if bt a (i : Int) = bt b (k : Int) then 0 else 1) → Ev (fun n => spec_l1Far.j2 n a b (tabD a b (i + 1)) ((i + 1 : Nat) : Int) (rowD a b (i + 1) (k + 1)) ((k + 1 : Nat) : Int) v) r := by
   intro v hv
   have hv01 : (if bt a (i : Int) = bt b (k : Int) then (0 : Int) else 1) = 0 ∨ (if bt a (i : Int) = bt b (k : Int) then (0 : Int) else 1) = 1 := by split <;> simp
   have h3 : min v (min (dist a b i (k + 1) + 1) (dist a b (i + 1) k + 1)) = dist3 a b i k := by
    unfold dist3
    omega
   refine Ev.step (fun n => spec_l1Far.j2.eq_2 _ _ _ _ _ _ _ _) ?_
   rw [wi1, wk1, rowi, rowD_rd a b i (b.size + 1) (k + 1) (by omega), rowD_rd a b (i + 1) (k + 1) k (by omega), w6 (n := dist a b i (k + 1) + 1), w6 (n := dist a b (i + 1) k + 1)]
   refine eP (evPos (by rw [tabD_length]; omega) (eP (evPos (by rw [rowD_length]; omega) (eP (evPos (by rw [rowD_length]; omega) (evCall (least_spec _ _) (evCall (least_spec _ _) ?_)))))))
   rw [h3]
   have fin : ∀ x, x = dist a b (i + 1) (k + 1) → Ev (fun n => if (rowD a b (i + 1) (k + 1)).length < 17592186044416 then spec_l1Far.l1 n a b (tabD a b (i + 1)) ((i + 1 : Nat) : Int) (rowD a b (i + 1) (k + 1) ++ [x]) (wrap64 (((k + 1 : Nat) : Int) + 1)) else none) r := by
    rintro x rfl
    refine evPos (by rw [rowD_length]; omega) ?_
    rw [wk]
    exact ihk
   have hs := dist_succ a b i k
   have two (z : Nat) (hz : 1 ≤ z) (hz2 : z ≤ 100) : wrap64 (((z + 1 : Nat) : Int) - 2) = ((z - 1 : Nat) : Int) := by rw [w6]; omega
   have no : dist3 a b i k = dist a b (i + 1) (k + 1) → Ev (fun n => spec_l1Far.j3 n a b (tabD a b (i + 1)) ((i + 1 : Nat) : Int) (rowD a b (i + 1) (k + 1)) ((k + 1 : Nat) : Int) (dist3 a b i k) false) r :=
    fun he => Ev.step (fun n => spec_l1Far.j3.eq_2 _ _ _ _ _ _ _ _ _) (evNeg (by simp) (fin _ he))
   by_cases c1 : ((i + 1 : Nat) : Int) > 1
   ·by_cases c2 : ((k + 1 : Nat) : Int) > 1
    ·refine evPos c1 (evPos c2 ?_)
     rw [two i (by omega) (by omega), two k (by omega) (by omega)]
     refine eP (eP (eP ?_))
     by_cases c3 : bt a (i : Int) = bt b ((k - 1 : Nat) : Int)
     ·refine evPos c3 (eP (eP (eP ?_)))
      by_cases c4 : bt a ((i - 1 : Nat) : Int) = bt b (k : Int)
      ·rw [if_pos ⟨by omega, by omega, c3, c4⟩] at hs
       have row2 : rd_L6 (tabD a b (i + 1)) ((i - 1 : Nat) : Int) = rowD a b (i - 1) (b.size + 1) := tabD_rd a b (i + 1) (i - 1) (by omega)
       rw [show (bt a ((i - 1 : Nat) : Int) == bt b (k : Int)) = true from beq_iff_eq.2 c4]
       refine Ev.step (fun n => spec_l1Far.j3.eq_2 _ _ _ _ _ _ _ _ _) ?_
       rw [two i (by omega) (by omega), two k (by omega) (by omega), row2, rowD_rd a b (i - 1) (b.size + 1) (k - 1) (by omega), w6 (n := dist a b (i - 1) (k - 1) + 1)]
       exact evPos rfl (eP (evPos (by rw [tabD_length]; omega) (eP (evPos (by rw [rowD_length]; omega) (evCall (least_spec _ _) (fin _ hs.symm))))))
      ·rw [if_neg (fun h => c4 h.2.2.2)] at hs
       rw [show (bt a ((i - 1 : Nat) : Int) == bt b (k : Int)) = false from beq_eq_false_iff_ne.2 c4]
       exact no hs.symm
     ·rw [if_neg (fun h => c3 h.2.2.1)] at hs
      exact evNeg c3 (no hs.symm)
    ·rw [if_neg (fun h => c2 (by omega))] at hs
     exact evPos c1 (evNeg c2 (no hs.symm))
   ·rw [if_neg (fun h => c1 (by omega))] at hs
    exact evNeg c1 (no hs.symm)
  refine eP (evPos (by rw [tabD_length]; omega) (eP (evPos (by rw [rowD_length]; omega) (eP (eP ?_)))))
  by_cases c : bt a (i : Int) = bt b (k : Int)
  ·exact evPos c (join _ (by rw [if_pos c]; omega))
  ·refine evNeg c (join _ ?_)
   rw [if_neg c, w6]
theorem far_spec_loop (a b : ByteArray) (ha : a.size ≤ 100) (hb : b.size ≤ 100) (d : Nat) : ∀ i : Nat, i + d = a.size + 1 → Ev (fun n => spec_l1Far.l0 n a b (tabD a b i) (i : Int)) (farD a b) := by
 induction d with
 | zero =>
  intro i hi
  obtain rfl : i = a.size + 1 := by omega
  have row : rd_L6 (tabD a b (a.size + 1)) (a.size : Int) = rowD a b a.size (b.size + 1) := tabD_rd a b (a.size + 1) a.size (by omega)
  refine Ev.step (fun n => spec_l1Far.l0.eq_2 _ _ _ _ _) (eN ?_)
  rw [row, rowD_rd a b a.size (b.size + 1) b.size (by omega)]
  exact eP (evPos (by rw [tabD_length]; omega) (eP (evPos (by rw [rowD_length]; omega) (Ev.now _))))
 | succ d ih =>
  intro i hi
  have h := far_spec_row a b ha hb i (by omega) (ih (i + 1) (by omega)) (b.size + 1) 0 (by omega)
  exact Ev.step (fun n => spec_l1Far.l0.eq_2 _ _ _ _ _) (evPos (by omega) h)
theorem l1Far_spec (a b : ByteArray) (ha : a.size ≤ 100) (hb : b.size ≤ 100) : Ev (fun n => spec_l1Far.f n a b) (farD a b) := far_spec_loop a b ha hb (a.size + 1) 0 (by omega)
theorem putG_ev (l : List Gu) (g : Gu) (hl : l.length ≤ 1000000) (d : Nat) : ∀ i : Nat, i + d = l.length → Ev (fun k => spec_l4Put.l0 k l (i : Int) g.f0 g.f1) (l.take i ++ putG (l.drop i) g) := by
 have out : ∀ i : Nat, i ≤ l.length → Ev (fun k => spec_l4Put.j1 k l (i : Int) false g.f0 g.f1) (l.take i ++ g :: l.drop i) := fun i hi => by
  refine Ev.step (fun k => spec_l4Put.j1.eq_2 ..) (evNeg (by simp) (evCall rfl (eP (eP (evCall rfl (evPos ?_ (evCall rfl (evCall rfl (evPos ?_ (evCall rfl (evCall rfl (evPos ?_ (evTo (Ev.now _) ?_)))))))))))))
  ·simp; omega
  ·simp; omega
  ·simp; omega
  ·simp
 induction d with
 | zero =>
  intro i hi
  have e : l.drop i = [] := List.drop_eq_nil_iff.2 (by omega)
  refine Ev.step (fun k => spec_l4Put.l0.eq_2 ..) (eN (evTo (out i (by omega)) ?_))
  rw [e]
  rfl
 | succ d ih =>
  intro i hi
  have hi' : i < l.length := by omega
  have next : Ev (fun k => spec_l4Put.j1 k l (i : Int) (ltOf impl_Guess.cf l[i] g) g.f0 g.f1) (l.take i ++ putG (l.drop i) g) := by
   rw [drop_cons hi']
   simp only [putG]
   cases e : ltOf impl_Guess.cf l[i] g with
   | true =>
    refine Ev.step (fun k => spec_l4Put.j1.eq_2 ..) (evPos rfl ?_)
    rw [w6]
    refine evTo (ih (i + 1) (by omega)) ?_
    rw [List.take_succ_eq_append_getElem hi', List.append_assoc, List.singleton_append, if_pos rfl]
   | false =>
    refine evTo (out i (by omega)) ?_
    rw [drop_cons hi']
    simp
  refine Ev.step (fun k => spec_l4Put.l0.eq_2 ..) (eP (eP ?_))
  rw [gu_get l i hi']
  have lt := impl_Guess.lt_iff l[i] g
  by_cases c1 : l[i].f1 < g.f1
  ·refine evPos c1 (evTo (Ev.congr (fun _ => ?_) next) rfl)
   rw [lt.2 (.inl c1)]
  ·refine evNeg c1 ?_
   by_cases c2 : l[i].f1 = g.f1
   ·refine evPos c2 (evTo (Ev.congr (fun _ => ?_) next) rfl)
    rw [lt_eq c2]
   ·refine evNeg c2 (evTo (Ev.congr (fun _ => ?_) next) rfl)
    have : ltOf impl_Guess.cf l[i] g = false := by
     rw [impl_Guess.lf]
     rintro (h | h)
     ·exact c1 h
     ·exact c2 h.1
    rw [this]
theorem l4Put_ev (l : List Gu) (g : Gu) (hl : l.length ≤ 1000000) : Ev (fun k => spec_l4Put.f k l g.f0 g.f1) (putG l g) := by
 unfold spec_l4Put.f
 have := putG_ev l g hl l.length 0 (by omega)
 simpa using this
theorem gs_loop (ws : List ByteArray) (w : ByteArray) (far : Int) (hl : ws.length ≤ 100000) (hz : ∀ s ∈ ws, s.size ≤ 12) (hw : w.size ≤ 12) (d : Nat) : ∀ (i : Nat) (out : List Gu), i + d = ws.length → out.length ≤ i →
  Ev (fun k => spec_l4Guesses.l0 k ws w far out (i : Int)) (((gsL (ws.drop i) w far).foldl putG out).take 10) := by
 induction d with
 | zero =>
  intro i out hi ho
  have e : ws.drop i = [] := List.drop_eq_nil_iff.2 (by omega)
  rw [e]
  refine Ev.step (fun k => spec_l4Guesses.l0.eq_2 ..) (eN ?_)
  by_cases c : (out.length : Int) > 10
  ·exact evPos c (eP (evTo (Ev.now _) rfl))
  ·refine evNeg c (evTo (Ev.now _) ?_)
   exact (List.take_of_length_le (l := out) (by omega)).symm
 | succ d ih =>
  intro i out hi ho
  have hi' : i < ws.length := by omega
  have e : gsL (ws.drop i) w far = (if farD ws[i] w ≤ far then [(⟨ws[i], farD ws[i] w⟩ : Gu)] else []) ++ gsL (ws.drop (i + 1)) w far := by
   rw [drop_cons hi']
   rfl
  have hs := hz _ (List.getElem_mem hi')
  refine Ev.step (fun k => spec_l4Guesses.l0.eq_2 ..) (eP (eP ?_))
  rw [ba_get ws i hi', w6 (n := (i : Int) + 1), e]
  refine Ev.bind (l1Far_spec _ _ (by omega) (by omega)) ?_
  by_cases c : farD ws[i] w ≤ far
  ·rw [if_pos c, List.foldl_append]
   refine evPos c (Ev.bind (l4Put_ev out ⟨ws[i], farD ws[i] w⟩ (by omega)) ?_)
   exact ih (i + 1) _ (by omega) (by rw [putG_length]; omega)
  ·rw [if_neg c, List.nil_append]
   exact evNeg c (ih (i + 1) _ (by omega) (by omega))
theorem rl_set_eq (M : List (List Int)) (i : Nat) (R : List Int) (h : i < M.length) : rd_L6 (M.set i R) (i : Int) = R := by
 simp [rd_L6, List.getD_eq_getElem?_getD, h]
theorem rl_set_ne (M : List (List Int)) (i j : Nat) (R : List Int) (h : i ≠ j) : rd_L6 (M.set i R) (j : Int) = rd_L6 M (j : Int) := by
 simp [rd_L6, List.getD_eq_getElem?_getD, List.getElem?_set_ne h]
theorem rd_setN_eq (xs : List Int) (i : Nat) (v : Int) (h : i < xs.length) : rd (xs.set i v) (i : Int) = v := by
 have := rd_set_eq xs (i : Int) v (by omega) (by omega)
 simpa using this
theorem rd_setN_ne (xs : List Int) (i j : Nat) (v : Int) (h : i ≠ j) : rd (xs.set i v) (j : Int) = rd xs (j : Int) := by
 have := rd_set_ne xs (i : Int) (j : Int) v (by omega) (by omega) (by omega)
 simpa using this
def InvM (a b : ByteArray) (M : List (List Int)) (i k : Nat) : Prop :=
 M.length = a.size + 1 ∧ (∀ j : Nat, j ≤ a.size → (rd_L6 M (j : Int)).length = b.size + 1) ∧
 ∀ x y : Nat, x ≤ a.size → y ≤ b.size → (x < i ∨ (x = i ∧ y < k) ∨ y = 0 ∨ x = 0) → rd (rd_L6 M (x : Int)) (y : Int) = dist a b x y
theorem inv_put {a b : ByteArray} {M : List (List Int)} {i k : Nat} (h : InvM a b M i k) (hi : i ≤ a.size) (hk : k ≤ b.size) (_ : 1 ≤ i) (_ : 1 ≤ k) : InvM a b (M.set i ((rd_L6 M (i : Int)).set k (dist a b i k))) i (k + 1) := by
 obtain ⟨h1, h2, h3⟩ := h
 refine ⟨by simpa using h1, fun j hj => ?_, fun x y hx hy hc => ?_⟩
 ·by_cases c : i = j
  ·subst c
   rw [rl_set_eq _ _ _ (by omega), List.length_set]
   exact h2 i hj
  ·rw [rl_set_ne _ _ _ _ c]
   exact h2 j hj
 ·by_cases c : i = x
  ·subst c
   rw [rl_set_eq _ _ _ (by omega)]
   by_cases d : k = y
   ·subst d
    exact rd_setN_eq _ _ _ (by rw [h2 i hi]; omega)
   ·rw [rd_setN_ne _ _ _ _ d]
    exact h3 i y hx hy (by omega)
  ·rw [rl_set_ne _ _ _ _ c]
   exact h3 x y hx hy (by omega)
theorem inv_next {a b : ByteArray} {M : List (List Int)} {i : Nat} (h : InvM a b M i (b.size + 1)) : InvM a b M (i + 1) 1 :=
 ⟨h.1, h.2.1, fun x y hx hy hc => h.2.2 x y hx hy (by omega)⟩
theorem mn_min (x y : Int) : mn x y = min x y := by
 unfold mn
 split <;> omega
theorem far_impl_row (a b : ByteArray) (ha : a.size ≤ 100) (hb : b.size ≤ 100) (i : Nat) (hi : i ≤ a.size) (hi1 : 1 ≤ i) {r : Int}
  (next : ∀ M, InvM a b M i (b.size + 1) → Ev (fun k => impl_Far.l2 k a b M ((i + 1 : Nat) : Int)) r) (d : Nat) : ∀ (k : Nat) (M : List (List Int)), k + d = b.size + 1 → 1 ≤ k → InvM a b M i k →
  Ev (fun n => impl_Far.l3 n a b M (i : Int) (k : Int)) r := by
 induction d with
 | zero =>
  intro k M hk _ hM
  obtain rfl : k = b.size + 1 := by omega
  refine Ev.step (fun n => impl_Far.l3.eq_2 _ _ _ _ _ _) (eN ?_)
  rw [w6]
  exact next M hM
 | succ d ih =>
  intro k M hk hk1 hM
  obtain ⟨m1, m2, m3⟩ := hM
  have ihk := ih (k + 1) (M.set i ((rd_L6 M (i : Int)).set k (dist a b i k))) (by omega) (by omega) (inv_put ⟨m1, m2, m3⟩ hi (by omega) hi1 hk1)
  obtain ⟨i, rfl⟩ : ∃ m, i = m + 1 := ⟨i - 1, by omega⟩
  obtain ⟨k, rfl⟩ : ∃ m, k = m + 1 := ⟨k - 1, by omega⟩
  have wi1 : wrap64 (((i + 1 : Nat) : Int) - 1) = (i : Int) := by rw [w6]; omega
  have wk1 : wrap64 (((k + 1 : Nat) : Int) - 1) = (k : Int) := by rw [w6]; omega
  have wk : wrap64 (((k + 1 : Nat) : Int) + 1) = ((k + 1 + 1 : Nat) : Int) := by rw [w6]; omega
  have b1 := dist_small a b i k (by omega) (by omega)
  have b2 := dist_small a b i (k + 1) (by omega) (by omega)
  have b3 := dist_small a b (i + 1) k (by omega) (by omega)
  have b4 := dist_small a b (i - 1) (k - 1) (by omega) (by omega)
  have l1 := m2 i (by omega)
  have l2 := m2 (i + 1) hi
  have l3 := m2 (i - 1) (by omega)
  have e1 := m3 i k (by omega) (by omega) (by omega)
  have e2 := m3 i (k + 1) (by omega) (by omega) (by omega)
  have e3 := m3 (i + 1) k (by omega) (by omega) (by omega)
  have e4 := m3 (i - 1) (k - 1) (by omega) (by omega) (by omega)
  have join : ∀ v : Int, v = dist a b i k + (if bt a (i : Int) = bt b (k : Int) then 0 else 1) → Ev (fun n => impl_Far.j5 n a b M ((i + 1 : Nat) : Int) ((k + 1 : Nat) : Int) v) r := by
   intro v hv
   have hv01 : (if bt a (i : Int) = bt b (k : Int) then (0 : Int) else 1) = 0 ∨ (if bt a (i : Int) = bt b (k : Int) then (0 : Int) else 1) = 1 := by split <;> simp
   have h3 : mn (mn v (dist a b i (k + 1) + 1)) (dist a b (i + 1) k + 1) = dist3 a b i k := by
    rw [mn_min, mn_min]
    unfold dist3
    omega
   have h3b : 0 ≤ dist3 a b i k := by
    unfold dist3
    omega
   refine Ev.step (fun n => impl_Far.j5.eq_2 _ _ _ _ _ _ _) ?_
   rw [wi1, wk1, e2, e3, w6 (n := dist a b i (k + 1) + 1), w6 (n := dist a b (i + 1) k + 1), h3]
   refine eP (eP (eP (eP (eP (eP (eP (eP ?_)))))))
   have hs := dist_succ a b i k
   have two (z : Nat) (hz : 1 ≤ z) (hz2 : z ≤ 100) : wrap64 (((z + 1 : Nat) : Int) - 2) = ((z - 1 : Nat) : Int) := by rw [w6]; omega
   have no : dist3 a b i k = dist a b (i + 1) (k + 1) → Ev (fun n => impl_Far.j6 n a b M ((i + 1 : Nat) : Int) ((k + 1 : Nat) : Int) (dist3 a b i k) false) r := by
    intro he
    refine Ev.step (fun n => impl_Far.j6.eq_2 _ _ _ _ _ _ _ _) (evNeg (by simp) (eP (eP (eP (eP ?_)))))
    rw [wk, he, Int.toNat_natCast, Int.toNat_natCast]
    exact ihk
   by_cases c1 : ((i + 1 : Nat) : Int) > 1
   ·by_cases c2 : ((k + 1 : Nat) : Int) > 1
    ·refine evPos c1 (evPos c2 ?_)
     rw [two i (by omega) (by omega), two k (by omega) (by omega)]
     refine eP (eP (eP ?_))
     by_cases c3 : bt a (i : Int) = bt b ((k - 1 : Nat) : Int)
     ·refine evPos c3 (eP (eP (eP ?_)))
      by_cases c4 : bt a ((i - 1 : Nat) : Int) = bt b (k : Int)
      ·rw [if_pos ⟨by omega, by omega, c3, c4⟩] at hs
       rw [show (bt a ((i - 1 : Nat) : Int) == bt b (k : Int)) = true from beq_iff_eq.2 c4]
       refine Ev.step (fun n => impl_Far.j6.eq_2 _ _ _ _ _ _ _ _) ?_
       rw [two i (by omega) (by omega), two k (by omega) (by omega), e4, w6 (n := dist a b (i - 1) (k - 1) + 1), mn_min, ← hs, wk, Int.toNat_natCast, Int.toNat_natCast]
       exact evPos rfl (eP (eP (eP (eP (eP (eP (eP (evPos (by omega) ihk))))))))
      ·rw [if_neg (fun h => c4 h.2.2.2)] at hs
       rw [show (bt a ((i - 1 : Nat) : Int) == bt b (k : Int)) = false from beq_eq_false_iff_ne.2 c4]
       exact no hs.symm
     ·rw [if_neg (fun h => c3 h.2.2.1)] at hs
      exact evNeg c3 (no hs.symm)
    ·rw [if_neg (fun h => c2 (by omega))] at hs
     exact evPos c1 (evNeg c2 (no hs.symm))
   ·rw [if_neg (fun h => c1 (by omega))] at hs
    exact evNeg c1 (no hs.symm)
  refine Ev.step (fun n => impl_Far.l3.eq_2 _ _ _ _ _ _) (eP ?_)
  rw [wi1, wk1, e1]
  refine eP (eP (eP (eP (eP (eP ?_)))))
  by_cases c : bt a (i : Int) = bt b (k : Int)
  ·exact evPos c (join _ (by rw [if_pos c]; omega))
  ·refine evNeg c (join _ ?_)
   rw [if_neg c, w6]
theorem far_impl_rows (a b : ByteArray) (ha : a.size ≤ 100) (hb : b.size ≤ 100) (d : Nat) : ∀ (i : Nat) (M : List (List Int)), i + d = a.size + 1 → 1 ≤ i → InvM a b M i 1 → Ev (fun n => impl_Far.l2 n a b M (i : Int)) (farD a b) := by
 induction d with
 | zero =>
  intro i M hi _ hM
  obtain rfl : i = a.size + 1 := by omega
  refine Ev.step (fun n => impl_Far.l2.eq_2 _ _ _ _ _) (eN ?_)
  rw [hM.2.2 a.size b.size (Nat.le_refl _) (Nat.le_refl _) (by omega)]
  have := hM.2.1 a.size (Nat.le_refl _)
  have := hM.1
  exact eP (eP (eP (eP (Ev.now _))))
 | succ d ih =>
  intro i M hi hi1 hM
  exact Ev.step (fun n => impl_Far.l2.eq_2 _ _ _ _ _) (eP (far_impl_row a b ha hb i (by omega) hi1 (fun M' hM' => ih (i + 1) M' (by omega) (by omega) (inv_next hM')) b.size 1 M (by omega) (by omega) hM))
theorem far_impl_first (a b : ByteArray) (ha : a.size ≤ 100) (hb : b.size ≤ 100) (d : Nat) : ∀ (k : Nat) (M : List (List Int)), k + d = b.size + 1 → M.length = a.size + 1 → (∀ j : Nat, j ≤ a.size → (rd_L6 M (j : Int)).length = b.size + 1) →
  (∀ j : Nat, 1 ≤ j → j ≤ a.size → rd (rd_L6 M (j : Int)) 0 = j) → (∀ j : Nat, j < k → rd (rd_L6 M 0) (j : Int) = j) → Ev (fun n => impl_Far.l1 n a b M ((b.size + 1 : Nat) : Int) (k : Int)) (farD a b) := by
 induction d with
 | zero =>
  intro k M hk h1 h2 h3 h4
  refine Ev.step (fun n => impl_Far.l1.eq_2 _ _ _ _ _ _) (eN (far_impl_rows a b ha hb a.size 1 M (by omega) (by omega) ⟨h1, h2, fun x y hx hy hc => ?_⟩))
  by_cases c : x = 0
  ·subst c
   rw [dist_zero]
   exact h4 y (by omega)
  ·obtain rfl : y = 0 := by omega
   rw [dist_nil]
   exact h3 x (by omega) hx
 | succ d ih =>
  intro k M hk h1 h2 h3 h4
  have z : (rd_L6 M ((0 : Nat) : Int)).length = b.size + 1 := h2 0 (by omega)
  have z' : (rd_L6 M 0).length = b.size + 1 := z
  refine Ev.step (fun n => impl_Far.l1.eq_2 _ _ _ _ _ _) (eP (eP (eP (eP ?_))))
  rw [w6, show ((k : Int) + 1) = ((k + 1 : Nat) : Int) from by omega, Int.toNat_natCast, show (0 : Int).toNat = 0 from rfl]
  have e0 : rd_L6 (M.set 0 ((rd_L6 M 0).set k (k : Int))) 0 = (rd_L6 M 0).set k (k : Int) := rl_set_eq M 0 _ (by omega)
  refine ih (k + 1) _ (by omega) (by simpa using h1) (fun j hj => ?_) (fun j hj1 hj => ?_) (fun j hj => ?_)
  ·by_cases c : 0 = j
   ·subst c
    show (rd_L6 (M.set 0 ((rd_L6 M 0).set k (k : Int))) 0).length = b.size + 1
    rw [e0, List.length_set]
    exact z'
   ·rw [rl_set_ne _ _ _ _ c]
    exact h2 j hj
  ·rw [rl_set_ne _ _ _ _ (by omega)]
   exact h3 j hj1 hj
  ·rw [e0]
   by_cases c : k = j
   ·subst c
    exact rd_setN_eq _ _ _ (by omega)
   ·rw [rd_setN_ne _ _ _ _ c]
    exact h4 j (by omega)
theorem far_impl_zero (a b : ByteArray) (ha : a.size ≤ 100) (hb : b.size ≤ 100) (d : Nat) : ∀ (i : Nat) (M : List (List Int)), i + d = a.size + 1 → M.length = a.size + 1 → (∀ j : Nat, j < i → rd_L6 M (j : Int) = (List.replicate (b.size + 1) 0).set 0 (j : Int)) →
  Ev (fun n => impl_Far.l0 n a b M ((a.size + 1 : Nat) : Int) (i : Int)) (farD a b) := by
 induction d with
 | zero =>
  intro i M hi h1 h2
  have z : rd_L6 M ((0 : Nat) : Int) = (List.replicate (b.size + 1) 0).set 0 ((0 : Nat) : Int) := h2 0 (by omega)
  have z' : rd_L6 M 0 = (List.replicate (b.size + 1) 0).set 0 0 := z
  refine Ev.step (fun n => impl_Far.l0.eq_2 _ _ _ _ _ _) (eN (eP ?_))
  have hl : ((rd_L6 M 0).length : Int) = ((b.size + 1 : Nat) : Int) := by rw [z']; simp
  rw [hl]
  refine far_impl_first a b ha hb (b.size + 1) 0 M (by omega) h1 (fun j hj => ?_) (fun j hj1 hj => ?_) (fun j hj => absurd hj (by omega))
  ·rw [h2 j (by omega)]
   simp
  ·rw [h2 j (by omega)]
   exact rd_setN_eq _ 0 _ (by simp)
 | succ d ih =>
  intro i M hi h1 h2
  have wb : wrap64 ((b.size : Int) + 1) = ((b.size + 1 : Nat) : Int) := by rw [w6]; omega
  have wi : wrap64 ((i : Int) + 1) = ((i + 1 : Nat) : Int) := by rw [w6]; omega
  have e : rd_L6 (M.set i (List.replicate (b.size + 1) 0)) (i : Int) = List.replicate (b.size + 1) 0 := rl_set_eq _ _ _ (by omega)
  refine Ev.step (fun n => impl_Far.l0.eq_2 _ _ _ _ _ _) (eP ?_)
  rw [wb, Int.toNat_natCast, Int.toNat_natCast]
  refine eP (eP (eP (eP (evCall rfl ?_))))
  rw [e, wi, show (0 : Int).toNat = 0 from rfl]
  refine evPos (by simp) (ih (i + 1) _ (by omega) (by simpa using h1) (fun j hj => ?_))
  by_cases c : i = j
  ·subst c
   rw [rl_set_eq _ _ _ (by simp; omega)]
  ·rw [rl_set_ne _ _ _ _ c, rl_set_ne _ _ _ _ c]
   exact h2 j (by omega)
theorem far_impl (a b : ByteArray) (ha : a.size ≤ 140737488351232) (hb : b.size ≤ 140737488351232) : Ev (fun n => impl_Far.f n a b) (farB a b) := by
 unfold impl_Far.f
 refine Ev.bind (word_impl a ha) ?_
 cases e1 : wordB a with
 | false => exact evNeg (by simp) (Ev.step (fun n => impl_Far.j0.eq_2 _ _ _ _) (evPos rfl (evTo (Ev.now _) (by simp [farB, e1]))))
 | true =>
  have h1 := wordB_size e1
  refine evPos rfl (Ev.bind (word_impl b hb) ?_)
  cases e2 : wordB b with
  | false => exact Ev.step (fun n => impl_Far.j0.eq_2 _ _ _ _) (evPos rfl (evTo (Ev.now _) (by simp [farB, e2])))
  | true =>
   have h2 := wordB_size e2
   have wa : wrap64 ((a.size : Int) + 1) = ((a.size + 1 : Nat) : Int) := by rw [w6]; omega
   refine Ev.step (fun n => impl_Far.j0.eq_2 _ _ _ _) (evNeg (by simp) ?_)
   rw [wa, Int.toNat_natCast]
   refine eP (eP (evCall rfl ?_))
   have hl : ((List.replicate (a.size + 1) ([] : List Int)).length : Int) = ((a.size + 1 : Nat) : Int) := by simp
   rw [hl]
   exact evTo (far_impl_zero a b (by omega) (by omega) (a.size + 1) 0 _ (by omega) (by simp) (fun j hj => absurd hj (by omega))) (by simp [farB, e1, e2])
def withB (a b : ByteArray) (n : Int) : Bool := wordB a && wordB b && decide (farD a b ≤ n)
theorem within_far (a b : ByteArray) (n : Int) : withB a b n = (decide (0 ≤ farB a b) && decide (farB a b ≤ n)) := by
 unfold withB farB
 have hp : 0 ≤ farD a b := (dist_facts a b _ a.size b.size (Nat.le_refl _)).2.2.2.2.2
 by_cases c : wordB a = true ∧ wordB b = true
 ·rw [if_pos c, c.1, c.2, decide_eq_true hp]
  rfl
 ·rw [if_neg c]
  have : (wordB a && wordB b) = false := by
   cases e1 : wordB a <;> cases e2 : wordB b <;> simp_all
  rw [this]
  simp
theorem withinW_impl (a b : ByteArray) (n : Int) (ha : a.size ≤ 140737488351232) (hb : b.size ≤ 140737488351232) : Ev (fun k => impl_Within.f k a b n) (withB a b n) := by
 unfold impl_Within.f
 refine Ev.bind (far_impl a b ha hb) ?_
 rw [within_far]
 by_cases c : farB a b ≥ 0
 ·exact evPos c (evTo (Ev.now _) (by rw [decide_eq_true c, Bool.true_and]))
 ·exact evNeg c (evTo (Ev.now _) (by rw [decide_eq_false c, Bool.false_and]))
theorem gs_impl_loop (ws : List ByteArray) (w : ByteArray) (far : Int) (hl : ws.length ≤ 100000) (hk : ∀ s ∈ ws, wordB s = true) (hz : ∀ s ∈ ws, s.size ≤ 12) (hw : w.size ≤ 12) (hkw : wordB w = true) (d : Nat) : ∀ (i : Nat) (out : List Gu), i + d = ws.length → out.length ≤ i →
  Ev (fun k => impl_guesses.l0 k w far out ws (ws.length : Int) (i : Int)) (((out ++ gsL (ws.drop i) w far).mergeSort impl_Guess.le).take 10) := by
 induction d with
 | zero =>
  intro i out hi ho
  have e : ws.drop i = [] := List.drop_eq_nil_iff.2 (by omega)
  have e2 : gsL [] w far = [] := rfl
  rw [e, e2, List.append_nil]
  have hm : ∀ n : Nat, mn (n : Int) 10 = ((min n 10 : Nat) : Int) := fun n => by rw [mn_min]; omega
  refine Ev.step (fun k => impl_guesses.l0.eq_2 ..) (eN (evCall (a := out.mergeSort impl_Guess.le) (by unfold impl_Guess.f; rw [if_pos (by omega)]) (evCall rfl ?_)))
  rw [hm]
  refine eP (eP (evCall rfl (evPos ?_ (evTo (Ev.now _) ?_))))
  ·simp; omega
  ·rw [List.nil_append, Int.toNat_natCast]
   rcases Nat.le_total out.length 10 with h | h
   ·rw [Nat.min_eq_left h, List.take_of_length_le (by rw [List.length_mergeSort]; omega), List.take_of_length_le (by rw [List.length_mergeSort]; omega)]
   ·rw [Nat.min_eq_right h]
 | succ d ih =>
  intro i out hi ho
  have hi' : i < ws.length := by omega
  have e : gsL (ws.drop i) w far = (if farD ws[i] w ≤ far then [(⟨ws[i], farD ws[i] w⟩ : Gu)] else []) ++ gsL (ws.drop (i + 1)) w far := by
   rw [drop_cons hi']
   rfl
  have hs := hz _ (List.getElem_mem hi')
  have hks := hk _ (List.getElem_mem hi')
  have hb : withB ws[i] w far = decide (farD ws[i] w ≤ far) := by unfold withB; rw [hks, hkw]; simp
  have hf : farB ws[i] w = farD ws[i] w := by unfold farB; rw [if_pos ⟨hks, hkw⟩]
  refine Ev.step (fun k => impl_guesses.l0.eq_2 ..) (eP (eP (eP ?_)))
  rw [ba_get ws i hi', w6 (n := (i : Int) + 1), e]
  refine Ev.bind (evTo (withinW_impl _ _ far (by omega) (by omega)) hb) ?_
  by_cases c : farD ws[i] w ≤ far
  ·rw [if_pos c, ← List.append_assoc]
   refine evPos (by simpa using c) (Ev.bind (evTo (far_impl _ _ (by omega) (by omega)) hf) (eP ?_))
   exact ih (i + 1) _ (by omega) (by simp; omega)
  ·rw [if_neg c, List.nil_append]
   exact evNeg (by simpa using c) (ih (i + 1) _ (by omega) (by omega))
theorem flag_spec (s : ByteArray) : spec_l2Flag.f s = some (flagB s) := by
 unfold spec_l2Flag.f
 by_cases c : (s.size : Int) = 1
 ·rw [if_pos c, if_pos (by omega)]
  by_cases e : bt s 0 ≥ 65
  ·rw [if_pos e]
   simp [flagB, e]
   omega
  ·rw [if_neg e]
   simp [flagB, e]
 ·rw [if_neg c]
  simp [flagB]
  omega
theorem begins_spec (s p : ByteArray) : spec_l2Begins.f s p = some (begB s p) := by
 unfold spec_l2Begins.f
 by_cases c : (s.size : Int) ≥ (p.size : Int)
 ·rw [if_pos c, if_pos (by omega), if_pos (by omega), toList_beq]
  try rw [Int.toNat_natCast]
  simp [begB]
  omega
 ·rw [if_neg c]
  simp [begB]
  omega
theorem ends_spec (s p : ByteArray) (h : s.size ≤ 1407374883512320) : spec_l2Ends.f s p = some (endB s p) := by
 unfold spec_l2Ends.f
 by_cases c : (s.size : Int) ≥ (p.size : Int)
 ·rw [if_pos c, w6, if_pos (by omega), if_pos (by omega), toList_beq, show ((s.size : Int) - (p.size : Int)).toNat = s.size - p.size from by omega]
  simp [endB]
  omega
 ·rw [if_neg c]
  simp [endB]
  omega
theorem letters4 (s : ByteArray) (h : s.size ≤ 140737488351232) : Ev (fun k => spec_l1Letters.f k s 4) (partB s) :=
 evTo (letters_spec s 4 h) (by
  unfold partB
  congr 1
  exact decide_eq_decide.2 (by omega))
theorem affixOk_spec (g : ByteArray) (fr : Bool) (st ad wh : ByteArray) (h1 : st.size ≤ 140737488351232) (h2 : ad.size ≤ 140737488351232) (h3 : wh.size ≤ 140737488351232) :
  Ev (fun k => spec_AffixOk.f k g fr st ad wh) (affOk g fr st ad wh) := by
 have no : ∀ r, r = false → Ev (fun k => spec_AffixOk.j0 k true g fr st ad wh) r := fun r hr => Ev.step (fun k => spec_AffixOk.j0.eq_2 _ _ _ _ _ _ _) (evPos rfl (evTo (Ev.now _) hr.symm))
 unfold spec_AffixOk.f
 refine evCall (flag_spec _) ?_
 cases e1 : flagB g with
 | false => exact evNeg (by simp) (no _ (by simp [affOk, e1]))
 | true =>
  refine evPos rfl (Ev.bind (letters4 st h1) ?_)
  cases e2 : partB st with
  | false => exact evNeg (by simp) (no _ (by simp [affOk, e2]))
  | true =>
   refine evPos rfl (Ev.bind (letters4 ad h2) ?_)
   cases e3 : partB ad with
   | false => exact evNeg (by simp) (no _ (by simp [affOk, e3]))
   | true =>
    refine evPos rfl (Ev.bind (letters4 wh h3) ?_)
    cases e4 : partB wh with
    | false => exact no _ (by simp [affOk, e4])
    | true =>
     refine Ev.step (fun k => spec_AffixOk.j0.eq_2 _ _ _ _ _ _ _) (evNeg (by simp) ?_)
     cases fr with
     | true => exact evPos rfl (evCall (begins_spec _ _) (evTo (Ev.now _) (by simp [affOk, e1, e2, e3, e4])))
     | false => exact evNeg (by simp) (evCall (ends_spec _ _ (by omega)) (evTo (Ev.now _) (by simp [affOk, e1, e2, e3, e4])))
theorem upper_impl (c : Int) : impl_upper.f c = some (decide (65 ≤ c) && decide (c ≤ 90)) := by
 unfold impl_upper.f
 by_cases e : c ≥ 65
 ·rw [if_pos e]; simp [e]
 ·rw [if_neg e]; simp; omega
theorem hasPrefix0 (s p : ByteArray) : stringslite_HasPrefix.f s p = some (begB s p) := begins_spec s p
theorem hasPrefix_lib (s p : ByteArray) : strings_HasPrefix.f s p = some (begB s p) := by
 unfold strings_HasPrefix.f
 rw [hasPrefix0]
 rfl
theorem hasSuffix0 (s p : ByteArray) (h : s.size ≤ 1407374883512320) : stringslite_HasSuffix.f s p = some (endB s p) := ends_spec s p h
theorem hasSuffix_lib (s p : ByteArray) (h : s.size ≤ 1407374883512320) : strings_HasSuffix.f s p = some (endB s p) := by
 unfold strings_HasSuffix.f
 rw [hasSuffix0 s p h]
 rfl
theorem parts_loop (g : ByteArray) (fr : Bool) (st ad wh : ByteArray) (l : List ByteArray) (hl : l.length ≤ 10) (hs : ∀ x ∈ l, x.size ≤ 140737488351232) (hw : wh.size ≤ 140737488351232) (d : Nat) : ∀ i : Int, 0 ≤ i → i ≤ l.length → (l.length : Int) - i = d →
  Ev (fun k => impl_AffixOk.l0 k l (l.length : Int) i g fr st ad wh) ((l.drop i.toNat).all partB && (if fr = true then begB wh st else endB wh st)) := by
 induction d with
 | zero =>
  intro i h0 h1 hd
  refine Ev.step (fun k => impl_AffixOk.l0.eq_2 _ _ _ _ _ _ _ _ _) (eN ?_)
  rw [List.drop_eq_nil_of_le (by omega), List.all_nil, Bool.true_and]
  cases fr with
  | true => exact evPos rfl (evCall (hasPrefix_lib _ _) (Ev.now _))
  | false => exact evNeg (by simp) (evCall (hasSuffix_lib _ _ (by omega)) (Ev.now _))
 | succ d ih =>
  intro i h0 h1 hd
  have hi : i.toNat < l.length := by omega
  have hx : rdOf ByteArray.empty l i = l[i.toNat] := by simp [rdOf, List.getD_eq_getElem?_getD, List.getElem?_eq_getElem hi]
  have hm := hs _ (List.getElem_mem hi)
  refine Ev.step (fun k => impl_AffixOk.l0.eq_2 _ _ _ _ _ _ _ _ _) (eP (evPos h0 (eP ?_)))
  rw [hx, List.drop_eq_getElem_cons hi, List.all_cons]
  generalize l[i.toNat] = x at *
  by_cases c : (x.size : Int) > 4
  ·refine evPos c (evTo (Ev.now _) ?_)
   have : partB x = false := by simp [partB]; omega
   rw [this]
   rfl
  ·refine evNeg c (Ev.bind (lower_impl x hm) ?_)
   have hp : partB x = (bytesOf x).all low := by
    simp only [partB]
    rw [decide_eq_true (by omega), Bool.and_true]
   rw [hp]
   cases e : (bytesOf x).all low with
   | false => exact evNeg (by simp) (evTo (Ev.now _) (by simp))
   | true =>
    refine evPos rfl ?_
    rw [w6, Bool.true_and, show i.toNat + 1 = (i + 1).toNat from by omega]
    exact ih (i + 1) (by omega) (by omega) (by omega)
theorem affixOk_impl (g : ByteArray) (fr : Bool) (st ad wh : ByteArray) (h1 : st.size ≤ 140737488351232) (h2 : ad.size ≤ 140737488351232) (h3 : wh.size ≤ 140737488351232) :
  Ev (fun k => impl_AffixOk.f k g fr st ad wh) (affOk g fr st ad wh) := by
 unfold impl_AffixOk.f
 by_cases c : (g.size : Int) = 1
 ·refine evPos c (eP (evCall (upper_impl _) ?_))
  have hf : flagB g = (decide (65 ≤ bt g 0) && decide (bt g 0 ≤ 90)) := by
   simp only [flagB]
   rw [decide_eq_true (by omega), Bool.true_and]
  rw [← hf]
  cases e : flagB g with
  | false => exact Ev.step (fun k => impl_AffixOk.j0.eq_2 _ _ _ _ _ _ _) (evPos rfl (evTo (Ev.now _) (by simp [affOk, e])))
  | true =>
   refine Ev.step (fun k => impl_AffixOk.j0.eq_2 _ _ _ _ _ _ _) (evNeg (by simp) (evCall rfl ?_))
   refine evTo (parts_loop g fr st ad wh [st, ad, wh] (by simp) (by
    intro x hx
    simp only [List.mem_cons, List.not_mem_nil, or_false] at hx
    rcases hx with rfl | rfl | rfl <;> assumption) h3 3 0 (by omega) (by simp) (by simp)) ?_
   simp [affOk, e, Bool.and_assoc]
 ·refine evNeg c (Ev.step (fun k => impl_AffixOk.j0.eq_2 _ _ _ _ _ _ _) (evPos rfl (evTo (Ev.now _) ?_)))
  have : flagB g = false := by simp [flagB]; omega
  simp [affOk, this]
abbrev Af := S59
theorem af_at {P : Af → Prop} {l : List Af} (h : ∀ s ∈ l, P s) (i : Nat) (hi : i < l.length) : P (rd_T59 l (i : Int)) := by
 have e : rd_T59 l (i : Int) = l[i] := by simp [rd_T59, List.getD_eq_getElem?_getD, hi]
 rw [e]
 exact h _ (List.getElem_mem hi)
def eqA (a b : Af) : Bool := a.f0.toList == b.f0.toList && (a.f1 == b.f1 && (a.f2.toList == b.f2.toList && (a.f3.toList == b.f3.toList && (a.f4.toList == b.f4.toList))))
theorem beq_comm' {α : Type} [BEq α] [LawfulBEq α] (a b : α) : (a == b) = (b == a) := by
 cases h : (a == b) with
 | true => rw [eq_of_beq h]; simp
 | false =>
  cases g : (b == a) with
  | false => rfl
  | true => rw [eq_of_beq g] at h; simp at h
theorem eqA_comm (a b : Af) : eqA a b = eqA b a := by
 unfold eqA
 rw [beq_comm' a.f0.toList, beq_comm' a.f1, beq_comm' a.f2.toList, beq_comm' a.f3.toList, beq_comm' a.f4.toList]
def dup (l : List Af) (i : Int) : Nat → Int → Bool
 | 0, _ => false
 | d + 1, k => eqA (rd_T59 l k) (rd_T59 l i) || dup l i d (k + 1)
def affGo (l : List Af) : Nat → Int → Bool
 | 0, _ => true
 | d + 1, i => affOk (rd_T59 l i).f0 (rd_T59 l i).f1 (rd_T59 l i).f2 (rd_T59 l i).f3 (rd_T59 l i).f4 && !dup l i i.toNat 0 && affGo l d (i + 1)
def affsB (l : List Af) : Bool := affGo l l.length 0 && decide (l.length ≤ 8)
abbrev AfSz (l : List Af) : Prop := ∀ s ∈ l, (s.f0.size ≤ 1048576 ∧ s.f2.size ≤ 1048576 ∧ s.f3.size ≤ 1048576 ∧ s.f4.size ≤ 1048576)
theorem dup_spec_loop (l : List Af) (hl : l.length ≤ 1048576) (i : Nat) (hi : i < l.length) {r : Bool} (d : Nat) : ∀ k : Nat, k + d = i → (dup l i d k = true → r = false) → (dup l i d k = false → Ev (fun n => spec_l2Affixes.l0 n l (wrap64 ((i : Int) + 1))) r) → Ev (fun n => spec_l2Affixes.l1 n l (i : Int) (k : Int)) r := by
 induction d with
 | zero =>
  intro k hk _ yes
  exact Ev.step (fun n => spec_l2Affixes.l1.eq_2 _ _ _ _) (eN (yes rfl))
 | succ d ih =>
  intro k hk no yes
  simp only [dup] at no yes
  refine Ev.step (fun n => spec_l2Affixes.l1.eq_2 _ _ _ _) (eP (eP (eP (eP (eP ?_)))))
  rw [w6 (n := (k : Int) + 1)]
  cases e : eqA (rd_T59 l (k : Int)) (rd_T59 l (i : Int)) with
  | true =>
   rw [e] at no
   exact evPos e (evTo (Ev.now _) (no rfl).symm)
  | false =>
   rw [e] at no yes
   simp only [Bool.false_or] at no yes
   exact evNeg (fun h => by have h' : eqA (rd_T59 l (k : Int)) (rd_T59 l (i : Int)) = true := h; rw [e] at h'; cases h') (ih (k + 1) (by omega) no yes)
theorem affs_spec_loop (l : List Af) (hl : l.length ≤ 1048576) (hs : AfSz l) (d : Nat) : ∀ i : Nat, i + d = l.length → Ev (fun n => spec_l2Affixes.l0 n l (i : Int)) (affGo l d i && decide (l.length ≤ 8)) := by
 induction d with
 | zero =>
  intro i hi
  refine Ev.step (fun n => spec_l2Affixes.l0.eq_2 _ _ _) (eN (evTo (Ev.now _) ?_))
  simp only [affGo, Bool.true_and]
  exact decide_eq_decide.2 (by omega)
 | succ d ih =>
  intro i hi
  have h := af_at hs i (by omega)
  refine Ev.step (fun n => spec_l2Affixes.l0.eq_2 _ _ _) (eP (eP (Ev.bind (affixOk_spec _ _ _ _ _ (by omega) (by omega) (by omega)) ?_)))
  simp only [affGo]
  cases e : affOk (rd_T59 l (i : Int)).f0 (rd_T59 l (i : Int)).f1 (rd_T59 l (i : Int)).f2 (rd_T59 l (i : Int)).f3 (rd_T59 l (i : Int)).f4 with
  | false => exact evNeg (by simp) (evTo (Ev.now _) (by simp))
  | true =>
   refine evPos rfl (dup_spec_loop l hl i (by omega) i 0 (by omega) (fun hd => ?_) (fun hd => ?_))
   ·have hd' : dup l (i : Int) (i : Int).toNat 0 = true := hd
    rw [hd']
    simp
   ·have hd' : dup l (i : Int) (i : Int).toNat 0 = false := hd
    rw [hd', w6 (n := (i : Int) + 1)]
    exact evTo (ih (i + 1) (by omega)) (by simp)
theorem affs_spec (l : List Af) (hl : l.length ≤ 1048576) (hs : AfSz l) : Ev (fun n => spec_l2Affixes.f n l) (affsB l) := affs_spec_loop l hl hs l.length 0 (by omega)
theorem dup_impl_loop (l q : List Af) (hl : l.length ≤ 1048576) (i : Nat) (hq : q = l.take i) (hi : i < l.length) (d : Nat) : ∀ k : Nat, k + d = i → ∃ v : Int, Ev (fun n => impl_Affix_75.l0 n q (q.length : Int) (k : Int) (rd_T59 l (i : Int)).f0 (rd_T59 l (i : Int)).f1 (rd_T59 l (i : Int)).f2 (rd_T59 l (i : Int)).f3 (rd_T59 l (i : Int)).f4) v ∧ decide (v ≥ 0) = dup l i d k := by
 have hql : q.length = i := by rw [hq, List.length_take]; omega
 induction d with
 | zero =>
  intro k hk
  exact ⟨-1, Ev.step (fun n => impl_Affix_75.l0.eq_2 _ _ _ _ _ _ _ _ _) (eN (Ev.now _)), rfl⟩
 | succ d ih =>
  intro k hk
  have hat : rd_T59 q (k : Int) = rd_T59 l (k : Int) := by
   simp only [rd_T59, List.getD_eq_getElem?_getD, Int.toNat_natCast]
   rw [hq, List.getElem?_take_of_lt (by omega)]
  simp only [dup]
  cases e : eqA (rd_T59 l (k : Int)) (rd_T59 l (i : Int)) with
  | true =>
   have e' : eqA (rd_T59 l (i : Int)) (rd_T59 l (k : Int)) = true := by rw [eqA_comm]; exact e
   refine ⟨k, Ev.step (fun n => impl_Affix_75.l0.eq_2 _ _ _ _ _ _ _ _ _) (eP (eP (eP ?_))), by simp⟩
   rw [hat]
   exact evPos e' (Ev.now _)
  | false =>
   have e' : eqA (rd_T59 l (i : Int)) (rd_T59 l (k : Int)) = false := by rw [eqA_comm]; exact e
   obtain ⟨v, h1, h2⟩ := ih (k + 1) (by omega)
   refine ⟨v, Ev.step (fun n => impl_Affix_75.l0.eq_2 _ _ _ _ _ _ _ _ _) (eP (eP (eP ?_))), by rw [Bool.false_or]; exact h2⟩
   rw [hat, w6 (n := (k : Int) + 1)]
   exact evNeg (fun h => by have h' : eqA (rd_T59 l (i : Int)) (rd_T59 l (k : Int)) = true := h; rw [e'] at h'; cases h') h1
theorem affs_impl_loop (l : List Af) (hl : l.length ≤ 1048576) (hs : AfSz l) (d : Nat) : ∀ i : Nat, i + d = l.length → Ev (fun n => impl_affixesOk.l0 n l l (l.length : Int) (i : Int)) (affGo l d i && decide (l.length ≤ 8)) := by
 induction d with
 | zero =>
  intro i hi
  refine Ev.step (fun n => impl_affixesOk.l0.eq_2 _ _ _ _ _) (eN (evTo (Ev.now _) ?_))
  simp only [affGo, Bool.true_and]
  exact decide_eq_decide.2 (by omega)
 | succ d ih =>
  intro i hi
  have h := af_at hs i (by omega)
  refine Ev.step (fun n => impl_affixesOk.l0.eq_2 _ _ _ _ _) (eP (eP (eP (Ev.bind (affixOk_impl _ _ _ _ _ (by omega) (by omega) (by omega)) ?_))))
  simp only [affGo]
  cases e : affOk (rd_T59 l (i : Int)).f0 (rd_T59 l (i : Int)).f1 (rd_T59 l (i : Int)).f2 (rd_T59 l (i : Int)).f3 (rd_T59 l (i : Int)).f4 with
  | false => exact evNeg (by simp) (evTo (Ev.now _) (by simp))
  | true =>
   obtain ⟨v, h1, h2⟩ := dup_impl_loop l (l.take i) hl i rfl (by omega) i 0 (by omega)
   have hd : Ev (fun n => impl_Affix_57.f n (l.take (i : Int).toNat) (rd_T59 l (i : Int)).f0 (rd_T59 l (i : Int)).f1 (rd_T59 l (i : Int)).f2 (rd_T59 l (i : Int)).f3 (rd_T59 l (i : Int)).f4) (dup l (i : Int) (i : Int).toNat 0) := Ev.bind h1 (evTo (Ev.now _) h2)
   refine evPos rfl (eP (Ev.bind hd ?_))
   rw [w6 (n := (i : Int) + 1)]
   cases dup l (i : Int) (i : Int).toNat 0 with
   | true => exact evPos rfl (evTo (Ev.now _) (by simp))
   | false => exact evNeg (by simp) (evTo (ih (i + 1) (by omega)) (by simp))
theorem affs_impl (l : List Af) (hl : l.length ≤ 1048576) (hs : AfSz l) : Ev (fun n => impl_affixesOk.f n l) (affsB l) := affs_impl_loop l hl hs l.length 0 (by omega)
theorem bt_extract0 (s : ByteArray) (i : Nat) (h : i < s.size) : bt (s.extract i (i + 1)) 0 = bt s i := by
 have hs : (s.extract i (i + 1)).size = 1 := by rw [size_extract s i (i + 1) (by omega) (by omega)]; omega
 have h1 := bytes_drop (s.extract i (i + 1)) 0 (by omega) (by omega)
 have h2 := bytes_drop s i (by omega) (by omega)
 rw [bytes_extract] at h1
 have h2' : (bytesOf s).drop i = bt s i :: (bytesOf s).drop ((i : Int) + 1).toNat := by simpa using h2
 rw [h2', show i + 1 - i = 1 from by omega] at h1
 simp only [List.take_succ_cons, List.take_zero] at h1
 have := congrArg List.head? h1
 simpa using this.symm
theorem flag_extract (s : ByteArray) (i : Nat) (h : i < s.size) : flagB (s.extract i (i + 1)) = (decide (65 ≤ bt s i) && decide (bt s i ≤ 90)) := by
 have hs : (s.extract i (i + 1)).size = 1 := by rw [size_extract s i (i + 1) (by omega) (by omega)]; omega
 unfold flagB
 rw [hs, bt_extract0 s i h]
 simp
def flGo (s : ByteArray) : Nat → Int → Bool
 | 0, _ => true
 | d + 1, i => (decide (65 ≤ bt s i) && decide (bt s i ≤ 90)) && (if i > 0 then decide (bt s (i - 1) < bt s i) else true) && flGo s d (i + 1)
def entB (w f : ByteArray) : Bool := flGo f f.size 0 && (wordB w && decide (f.size ≤ 4))
theorem ent_spec_loop (w f : ByteArray) (hw : w.size ≤ 1048576) (hf : f.size ≤ 1048576) (d : Nat) : ∀ i : Nat, i + d = f.size → Ev (fun k => spec_l2Entry.l0 k (i : Int) w f) (flGo f d i && (wordB w && decide (f.size ≤ 4))) := by
 induction d with
 | zero =>
  intro i hi
  refine Ev.step (fun k => spec_l2Entry.l0.eq_2 _ _ _ _) (eN (Ev.bind (l1Word_spec w (by omega)) ?_))
  simp only [flGo, Bool.true_and]
  cases wordB w with
  | false => exact evNeg (by simp) (Ev.now _)
  | true => exact evPos rfl (evTo (Ev.now _) (by rw [Bool.true_and]; exact decide_eq_decide.2 (by omega)))
 | succ d ih =>
  intro i hi
  refine Ev.step (fun k => spec_l2Entry.l0.eq_2 _ _ _ _) ?_
  rw [w6 (n := (i : Int) + 1)]
  refine eP (eP (eP (eP (evCall (flag_spec _) ?_))))
  rw [show ((i : Int) + 1).toNat = i + 1 from by omega, Int.toNat_natCast, flag_extract f i (by omega)]
  simp only [flGo]
  have next := ih (i + 1) (by omega)
  cases e : (decide (65 ≤ bt f i) && decide (bt f i ≤ 90)) with
  | false => exact evNeg (by simp) (evTo (Ev.now _) (by simp))
  | true =>
   refine evPos rfl ?_
   by_cases c : (i : Int) > 0
   ·rw [w6 (n := (i : Int) - 1), if_pos c]
    refine evPos c (eP (eP ?_))
    by_cases g : bt f ((i : Int) - 1) ≥ bt f i
    ·rw [decide_eq_false (show ¬ bt f ((i : Int) - 1) < bt f i from by omega)]
     exact evPos g (evTo (Ev.now _) (by simp))
    ·rw [decide_eq_true (show bt f ((i : Int) - 1) < bt f i from by omega)]
     exact evNeg g (evTo next (by simp))
   ·rw [if_neg c]
    exact evNeg c (evTo next (by simp))
theorem ent_spec (w f : ByteArray) (hw : w.size ≤ 1048576) (hf : f.size ≤ 1048576) : Ev (fun k => spec_l2Entry.f k w f) (entB w f) := ent_spec_loop w f hw hf f.size 0 (by omega)
theorem ent_impl_loop (w f : ByteArray) (hw : w.size ≤ 1048576) (hf : f.size ≤ 1048576) (d : Nat) : ∀ i : Nat, i + d = f.size → Ev (fun k => impl_entryOk.l0 k (f.size : Int) (i : Int) w f) (flGo f d i && (wordB w && decide (f.size ≤ 4))) := by
 induction d with
 | zero =>
  intro i hi
  refine Ev.step (fun k => impl_entryOk.l0.eq_2 _ _ _ _ _) (eN (Ev.bind (word_impl w (by omega)) ?_))
  simp only [flGo, Bool.true_and]
  cases wordB w with
  | false => exact evNeg (by simp) (Ev.now _)
  | true => exact evPos rfl (evTo (Ev.now _) (by rw [Bool.true_and]; exact decide_eq_decide.2 (by omega)))
 | succ d ih =>
  intro i hi
  refine Ev.step (fun k => impl_entryOk.l0.eq_2 _ _ _ _ _) ?_
  rw [w6 (n := (i : Int) + 1)]
  refine eP (eP (eP (evCall (upper_impl _) ?_)))
  simp only [flGo]
  have next := ih (i + 1) (by omega)
  cases e : (decide (65 ≤ bt f i) && decide (bt f i ≤ 90)) with
  | false => exact evNeg (by simp) (evTo (Ev.now _) (by simp))
  | true =>
   refine evPos rfl ?_
   by_cases c : (i : Int) > 0
   ·rw [w6 (n := (i : Int) - 1), if_pos c]
    refine evPos c (eP (eP ?_))
    by_cases g : bt f ((i : Int) - 1) ≥ bt f i
    ·rw [decide_eq_false (show ¬ bt f ((i : Int) - 1) < bt f i from by omega)]
     exact evPos g (evTo (Ev.now _) (by simp))
    ·rw [decide_eq_true (show bt f ((i : Int) - 1) < bt f i from by omega)]
     exact evNeg g (evTo next (by simp))
   ·rw [if_neg c]
    exact evNeg c (evTo next (by simp))
theorem ent_impl (w f : ByteArray) (hw : w.size ≤ 1048576) (hf : f.size ≤ 1048576) : Ev (fun k => impl_entryOk.f k w f) (entB w f) := ent_impl_loop w f hw hf f.size 0 (by omega)
abbrev En := S51
def entGo (l : List En) : Nat → Int → Bool
 | 0, _ => true
 | d + 1, i => entB (rd_T51 l i).f0 (rd_T51 l i).f1 && (if i > 0 then Op.bytesLess (rd_T51 l (i - 1)).f0.toList (rd_T51 l i).f0.toList else true) && entGo l d (i + 1)
def entsB (l : List En) : Bool := entGo l l.length 0 && decide (l.length ≤ 24)
theorem en_at {P : En → Prop} {l : List En} (h : ∀ s ∈ l, P s) (i : Nat) (hi : i < l.length) : P (rd_T51 l (i : Int)) := by
 have e : rd_T51 l (i : Int) = l[i] := by simp [rd_T51, List.getD_eq_getElem?_getD, hi]
 rw [e]
 exact h _ (List.getElem_mem hi)
theorem ents_spec_loop (A : List Af) (l : List En) (hl : l.length ≤ 1048576) (he : ∀ s ∈ l, (s.f0.size ≤ 1048576 ∧ s.f1.size ≤ 1048576)) {r : Bool} (no : entGo l l.length 0 = false → r = false) (d : Nat) : ∀ i : Nat, i + d = l.length → (entGo l d i = false → r = false) →
  (entGo l d i = true → Ev (fun k => (spec_l2Affixes.f k A).bind fun t130 => (if t130 = true then (some (decide ((l.length : Int) ≤ 24))) else (some false))) r) → Ev (fun k => spec_BookOk.l0 k (i : Int) A l) r := by
 induction d with
 | zero =>
  intro i hi _ yes
  exact Ev.step (fun k => spec_BookOk.l0.eq_2 _ _ _ _) (eN (yes rfl))
 | succ d ih =>
  intro i hi no' yes
  have hs := en_at he i (by omega)
  simp only [entGo] at no' yes
  refine Ev.step (fun k => spec_BookOk.l0.eq_2 _ _ _ _) (eP (eP (Ev.bind (ent_spec _ _ hs.1 hs.2) ?_)))
  rw [w6 (n := (i : Int) + 1)]
  have next := ih (i + 1) (by omega)
  cases e : entB (rd_T51 l (i : Int)).f0 (rd_T51 l (i : Int)).f1 with
  | false =>
   rw [e] at no'
   exact evNeg (by simp) (evTo (Ev.now _) (no' (by simp)).symm)
  | true =>
   rw [e] at no' yes
   refine evPos rfl ?_
   by_cases c : (i : Int) > 0
   ·rw [w6 (n := (i : Int) - 1)]
    rw [if_pos c] at no' yes
    refine evPos c (eP (eP ?_))
    cases g : Op.bytesLess (rd_T51 l ((i : Int) - 1)).f0.toList (rd_T51 l (i : Int)).f0.toList with
    | false =>
     rw [g] at no'
     exact evNeg (by simp) (evTo (Ev.now _) (no' (by simp)).symm)
    | true =>
     rw [g] at no' yes
     simp only [Bool.true_and] at no' yes
     exact evPos rfl (next no' yes)
   ·rw [if_neg c] at no' yes
    simp only [Bool.true_and] at no' yes
    exact evNeg c (next no' yes)
theorem ents_impl_loop (l : List En) (hl : l.length ≤ 1048576) (he : ∀ s ∈ l, (s.f0.size ≤ 1048576 ∧ s.f1.size ≤ 1048576)) (d : Nat) : ∀ i : Nat, i + d = l.length → Ev (fun k => impl_entriesOk.l0 k l l (l.length : Int) (i : Int)) (entGo l d i && decide (l.length ≤ 24)) := by
 induction d with
 | zero =>
  intro i hi
  refine Ev.step (fun k => impl_entriesOk.l0.eq_2 _ _ _ _ _) (eN (evTo (Ev.now _) ?_))
  simp only [entGo, Bool.true_and]
  exact decide_eq_decide.2 (by omega)
 | succ d ih =>
  intro i hi
  have hs := en_at he i (by omega)
  refine Ev.step (fun k => impl_entriesOk.l0.eq_2 _ _ _ _ _) (eP (eP (eP (Ev.bind (ent_impl _ _ hs.1 hs.2) ?_))))
  rw [w6 (n := (i : Int) + 1)]
  have next := ih (i + 1) (by omega)
  simp only [entGo]
  cases e : entB (rd_T51 l (i : Int)).f0 (rd_T51 l (i : Int)).f1 with
  | false => exact evNeg (by simp) (evTo (Ev.now _) (by simp))
  | true =>
   refine evPos rfl ?_
   by_cases c : (i : Int) > 0
   ·rw [w6 (n := (i : Int) - 1), if_pos c]
    refine evPos c (eP (eP ?_))
    cases g : Op.bytesLess (rd_T51 l ((i : Int) - 1)).f0.toList (rd_T51 l (i : Int)).f0.toList with
    | false => exact evNeg (by simp) (evTo (Ev.now _) (by simp))
    | true => exact evPos rfl (evTo next (by simp))
   ·rw [if_neg c]
    exact evNeg c (evTo next (by simp))
structure BkSz (A : List Af) (E : List En) : Prop where
 la : A.length ≤ 1048576
 le : E.length ≤ 1048576
 a : ∀ s ∈ A, (s.f0.size ≤ 1048576 ∧ s.f2.size ≤ 1048576 ∧ s.f3.size ≤ 1048576 ∧ s.f4.size ≤ 1048576)
 e : ∀ s ∈ E, (s.f0.size ≤ 1048576 ∧ s.f1.size ≤ 1048576)
def bookB (A : List Af) (E : List En) : Bool := affsB A && entsB E
theorem bookOk_spec (A : List Af) (E : List En) (h : BkSz A E) : Ev (fun n => spec_BookOk.f n A E) (bookB A E) := by
 refine ents_spec_loop A E h.le h.e (fun hf => by simp [bookB, entsB, hf]) E.length 0 (by omega) (fun hf => ?_) (fun ht => ?_)
 ·have hf' : entGo E E.length 0 = false := hf
  simp [bookB, entsB, hf']
 ·have ht' : entGo E E.length 0 = true := ht
  refine Ev.bind (affs_spec A h.la h.a) ?_
  simp only [bookB, entsB, ht', Bool.true_and]
  cases affsB A with
  | false => exact evNeg (by simp) (evTo (Ev.now _) (by simp))
  | true => exact evPos rfl (evTo (Ev.now _) (by rw [Bool.true_and]; exact decide_eq_decide.2 (by omega)))
theorem bookOk_impl (A : List Af) (E : List En) (h : BkSz A E) : Ev (fun n => impl_BookOk.f n A E) (bookB A E) := by
 unfold impl_BookOk.f
 refine Ev.bind (affs_impl A h.la h.a) ?_
 simp only [bookB]
 cases affsB A with
 | false => exact evNeg (by simp) (evTo (Ev.now _) (by simp))
 | true => exact evPos rfl (Ev.bind (ents_impl_loop E h.le h.e E.length 0 (by omega)) (evTo (Ev.now _) (by rw [Bool.true_and]; rfl)))
theorem l2Do_spec (g : ByteArray) (fr : Bool) (st ad wh stem : ByteArray) (h1 : st.size ≤ wh.size) (h2 : ad.size ≤ 140737488351232) (h3 : stem.size ≤ 140737488351232) :
  Ev (fun k => spec_l2Do.f k g fr st ad wh stem) (outW (doB fr st ad wh stem)) := by
 unfold spec_l2Do.f
 cases fr with
 | true =>
  refine evPos rfl (evCall (begins_spec _ _) ?_)
  by_cases c : begB stem wh = true
  ·have hs := begB_size c
   have hz : (stem.extract st.size stem.size).size = stem.size - st.size := size_extract _ _ _ (by omega) (Nat.le_refl _)
   refine evPos c (eP (eP ?_))
   try rw [Int.toNat_natCast]
   refine eP (Ev.bind (l1Word_spec' _ (by rw [size_append]; omega)) (evTo (Ev.now _) ?_))
   simp [doB, c, outW]
  ·exact evNeg c (evTo (Ev.now _) (by simp [doB, c, outW]))
 | false =>
  refine evNeg (by simp) (evCall (ends_spec _ _ (by omega)) ?_)
  by_cases c : endB stem wh = true
  ·have hs := endB_size c
   have hz : (stem.extract 0 (stem.size - st.size)).size = stem.size - st.size := by
    rw [size_extract _ _ _ (by omega) (by omega)]
    omega
   refine evPos c ?_
   rw [w6, show ((stem.size : Int) - (st.size : Int)).toNat = stem.size - st.size from by omega]
   refine eP (eP (eP (Ev.bind (l1Word_spec' _ (by rw [size_append]; omega)) (evTo (Ev.now _) ?_))))
   simp [doB, c, outW]
  ·exact evNeg c (evTo (Ev.now _) (by simp [doB, c, outW]))
theorem rdOf_get (l : List ByteArray) (i : Int) (_ : 0 ≤ i) (h : i.toNat < l.length) : rdOf ByteArray.empty l i = l[i.toNat] := by
 simp [rdOf, List.getD_eq_getElem?_getD, List.getElem?_eq_getElem h]
theorem put_end (l : List ByteArray) (s : ByteArray) (i : Int) (h0 : 0 ≤ i) (h1 : i ≤ l.length) (hl : l.length ≤ 1000000) : Ev (fun k => spec_l1Put.j2 k l s i false) (l.take i.toNat ++ s :: l.drop i.toNat) := by
 refine Ev.step (fun k => spec_l1Put.j2.eq_2 _ _ _ _ _) (evNeg (by simp) (evCall rfl (evPos h0 (evPos h1 (evCall rfl (evPos ?_ (evCall rfl (evCall rfl (evPos ?_ (evCall rfl (evCall rfl (evPos ?_ (evTo (Ev.now _) ?_)))))))))))))
 ·simp only [List.length_nil, List.length_take]
  omega
 ·simp only [List.nil_append, List.length_take, List.length_cons, List.length_nil]
  omega
 ·simp only [List.nil_append, List.length_append, List.length_take, List.length_cons, List.length_nil, List.length_drop]
  omega
 ·simp
theorem put_loop (l : List ByteArray) (s : ByteArray) (hl : l.length ≤ 1000000) (d : Nat) : ∀ i : Int, 0 ≤ i → i ≤ l.length → (l.length : Int) - i = d →
  Ev (fun k => spec_l1Put.l0 k l s i) (l.take i.toNat ++ putL (l.drop i.toNat) s) := by
 induction d with
 | zero =>
  intro i h0 h1 hd
  have e := put_end l s i h0 h1 hl
  rw [List.drop_eq_nil_of_le (by omega)] at e ⊢
  exact Ev.step (fun k => spec_l1Put.l0.eq_2 _ _ _ _) (eN (Ev.step (fun k => spec_l1Put.j1.eq_2 _ _ _ _ _) (evNeg (by simp) (evNeg (by omega) e))))
 | succ d ih =>
  intro i h0 h1 hd
  have hi : i.toNat < l.length := by omega
  have e := put_end l s i h0 h1 hl
  have ihe := ih (i + 1) (by omega) (by omega) (by omega)
  rw [List.drop_eq_getElem_cons hi] at e ⊢
  rw [show (i + 1).toNat = i.toNat + 1 from by omega, List.take_succ_eq_append_getElem hi] at ihe
  refine Ev.step (fun k => spec_l1Put.l0.eq_2 _ _ _ _) (eP (evPos h0 (Ev.step (fun k => spec_l1Put.j1.eq_2 _ _ _ _ _) ?_)))
  rw [rdOf_get l i h0 hi]
  generalize hx : l[i.toNat] = x at *
  by_cases c : Op.bytesLess x.toList s.toList = true
  ·refine evPos c ?_
   rw [w6]
   refine evTo ihe ?_
   simp [putL, ltS, c]
  ·refine evNeg c (eP (evPos h0 ?_))
   by_cases c2 : x = s
   ·refine Ev.step (fun k => spec_l1Put.j2.eq_2 _ _ _ _ _) (evPos (by simp [c2]) (evTo (Ev.now _) ?_))
    subst c2
    rw [show putL (x :: l.drop (i.toNat + 1)) x = x :: l.drop (i.toNat + 1) from by simp [putL, ltS_irrefl]]
    have : x :: l.drop (i.toNat + 1) = l.drop i.toNat := by rw [List.drop_eq_getElem_cons hi, hx]
    rw [this, List.take_append_drop]
   ·rw [show (x.toList == s.toList) = false from by rw [toList_beq]; simp [c2]]
    refine evTo e ?_
    simp [putL, ltS, c, c2]
theorem put_ev (l : List ByteArray) (s : ByteArray) (hl : l.length ≤ 1000000) : Ev (fun k => spec_l1Put.f k l s) (putL l s) :=
 evTo (put_loop l s hl l.length 0 (by omega) (by omega) (by omega)) (by simp)
def hasFl (f g : ByteArray) : Bool := (bytesOf f).contains (bt g 0)
theorem bytes_one {g : ByteArray} (h : g.size = 1) : bytesOf g = [bt g 0] := by
 have h1 := bytes_drop g 0 (by omega) (by omega)
 have h2 : ((bytesOf g).drop ((0 : Int) + 1).toNat) = [] := List.drop_eq_nil_of_le (by rw [bytesOf_length]; omega)
 rw [h2] at h1
 simpa using h1
theorem bytes_at {f : ByteArray} (i : Nat) (h : i < f.size) : bytesOf (f.extract i (i + 1)) = [bt f i] := by
 have h1 := bytes_drop f i (by omega) (by omega)
 rw [Int.toNat_natCast] at h1
 rw [bytes_extract, h1]
 simp
theorem has_loop (f g : ByteArray) (hf : f.size ≤ 1048576) (hg : g.size = 1) (d : Nat) : ∀ i : Nat, i + d = f.size → Ev (fun k => spec_l2Has.l0 k f g (i : Int)) (((bytesOf f).drop i).contains (bt g 0)) := by
 induction d with
 | zero =>
  intro i hi
  refine Ev.step (fun k => spec_l2Has.l0.eq_2 _ _ _ _) (eN (evTo (Ev.now _) ?_))
  rw [List.drop_eq_nil_of_le (by rw [bytesOf_length]; omega)]
  rfl
 | succ d ih =>
  intro i hi
  have e : wrap64 ((i : Int) + 1) = ((i + 1 : Nat) : Int) := w6
  refine Ev.step (fun k => spec_l2Has.l0.eq_2 _ _ _ _) ?_
  rw [e]
  refine eP (eP (eP (eP ?_)))
  rw [Int.toNat_natCast, Int.toNat_natCast]
  have h1 := bytes_drop f i (by omega) (by omega)
  rw [Int.toNat_natCast, show ((i : Int) + 1).toNat = i + 1 from by omega] at h1
  rw [h1, List.contains_cons]
  by_cases c : bt f i = bt g 0
  ·refine evPos ((toList_iff _ _).2 (bytes_inj (by rw [bytes_at i (by omega), bytes_one hg, c]))) (evTo (Ev.now _) ?_)
   simp [c]
  ·refine evNeg (fun h => c ?_) (evTo (ih (i + 1) (by omega)) ?_)
   ·have := congrArg bytesOf ((toList_iff _ _).1 h)
    rw [bytes_at i (by omega), bytes_one hg] at this
    simpa using this
   ·have : (bt g 0 == bt f i) = false := by simpa using fun h => c h.symm
    rw [this, Bool.false_or]
theorem has_ev (f g : ByteArray) (hf : f.size ≤ 1048576) (hg : g.size = 1) : Ev (fun k => spec_l2Has.f k f g) (hasFl f g) := by
 have := has_loop f g hf hg f.size 0 (by omega)
 rw [List.drop_zero] at this
 exact this
abbrev AfOk (a : Af) : Prop := affOk a.f0 a.f1 a.f2 a.f3 a.f4 = true
theorem affGo_all (A : List Af) (d : Nat) : ∀ i : Nat, i + d = A.length → affGo A d (i : Int) = true → ∀ a ∈ A.drop i, AfOk a := by
 induction d with
 | zero =>
  intro i hi _ a ha
  rw [List.drop_eq_nil_of_le (by omega)] at ha
  cases ha
 | succ d ih =>
  intro i hi h a ha
  have hlt : i < A.length := by omega
  simp only [affGo, Bool.and_eq_true] at h
  have e : rd_T59 A (i : Int) = A[i] := by simp [rd_T59, List.getD_eq_getElem?_getD, hlt]
  rw [e] at h
  rw [List.drop_eq_getElem_cons hlt] at ha
  rcases List.mem_cons.1 ha with rfl | ha
  ·exact h.1.1
  ·exact ih (i + 1) (by omega) h.2 a ha
theorem affs_all {A : List Af} (h : affsB A = true) : (∀ a ∈ A, AfOk a) ∧ A.length ≤ 8 := by
 simp only [affsB, Bool.and_eq_true, decide_eq_true_eq] at h
 exact ⟨fun a ha => affGo_all A A.length 0 (by omega) h.1 a (by simpa using ha), h.2⟩
theorem ent_word {w f : ByteArray} (h : entB w f = true) : wordB w = true ∧ f.size ≤ 4 := by
 simp only [entB, Bool.and_eq_true, decide_eq_true_eq] at h
 exact h.2
def doA (a : Af) (s : ByteArray) : Option ByteArray := (doB a.f1 a.f2 a.f3 a.f4 s).filter wordB
theorem doA_word {a : Af} {s x : ByteArray} (h : doA a s = some x) : wordB x = true := by
 unfold doA at h
 rw [Option.filter_eq_some_iff] at h
 exact h.2
def selA (a : Af) (fl : ByteArray) (front : Bool) : Bool := (a.f1 == front) && hasFl fl a.f0
def candA (a : Af) (fl : ByteArray) (front : Bool) (ws : List ByteArray) : List ByteArray := if selA a fl front = true then ws.filterMap (doA a) else []
def oneL (A : List Af) (fl : ByteArray) (front : Bool) (ws out : List ByteArray) : List ByteArray := (A.flatMap (fun a => candA a fl front ws)).foldl putL out
abbrev WsZ (ws : List ByteArray) : Prop := ∀ s ∈ ws, s.size ≤ 1048576
theorem one_words (A : List Af) (fl : ByteArray) (front : Bool) (ws : List ByteArray) (i : Nat) (hi : i < A.length) (hok : AfOk A[i]) (hw : WsZ ws) (hl : ws.length ≤ 1000) {r : List ByteArray} (d : Nat) : ∀ (j : Nat) (out : List ByteArray), j + d = ws.length → out.length + d ≤ 100000 →
  (∀ out', out' = ((ws.drop j).filterMap (doA A[i])).foldl putL out → Ev (fun k => spec_l2One.l0 k A fl front ws out' (wrap64 ((i : Int) + 1))) r) → Ev (fun k => spec_l2One.l1 k A fl front ws out (i : Int) (j : Int)) r := by
 have hp := affOk_parts hok
 have e : rd_T59 A (i : Int) = A[i] := by simp [rd_T59, List.getD_eq_getElem?_getD, hi]
 induction d with
 | zero =>
  intro j out hj ho next
  refine Ev.step (fun k => spec_l2One.l1.eq_2 _ _ _ _ _ _ _ _) (eN (next _ ?_))
  rw [List.drop_eq_nil_of_le (by omega)]
  rfl
 | succ d ih =>
  intro j out hj ho next
  have hs := ba_at (P := fun s => s.size ≤ 1048576) hw j (by omega)
  have hlt : j < ws.length := by omega
  have hA : A.length ≤ A.length := Nat.le_refl _
  have s1 := partB_size hp.2.1
  have s2 := partB_size hp.2.2.1
  refine Ev.step (fun k => spec_l2One.l1.eq_2 _ _ _ _ _ _ _ _) (eP (eP (eP (eP ?_))))
  rw [e, w6 (n := (j : Int) + 1)]
  refine Ev.bind (l2Do_spec _ _ _ _ _ _ (strip_size hok) (by omega) (by omega)) ?_
  rw [List.drop_eq_getElem_cons hlt] at next
  rw [ba_get ws j hlt]
  cases h : doB A[i].f1 A[i].f2 A[i].f3 A[i].f4 ws[j] with
  | none =>
   have h2 : doA A[i] ws[j] = none := by unfold doA; rw [h]; rfl
   rw [List.filterMap_cons_none h2] at next
   exact evNeg (by simp [outW]) (ih (j + 1) out (by omega) (by omega) next)
  | some x =>
   by_cases c : wordB x = true
   ·have h2 : doA A[i] ws[j] = some x := by unfold doA; rw [h, Option.filter_some, if_pos c]
    rw [List.filterMap_cons_some h2, List.foldl_cons] at next
    have hl := (putL_length out x).2
    exact evPos (by simpa [outW] using c) (Ev.bind (put_ev out x (by omega)) (ih (j + 1) _ (by omega) (by omega) next))
   ·have h2 : doA A[i] ws[j] = none := by unfold doA; rw [h, Option.filter_some, if_neg c]
    rw [List.filterMap_cons_none h2] at next
    exact evNeg (by simpa [outW] using c) (ih (j + 1) out (by omega) (by omega) next)
set_option maxRecDepth 20000 in
theorem one_loop (A : List Af) (fl : ByteArray) (front : Bool) (ws : List ByteArray) (hok : ∀ a ∈ A, AfOk a) (hA : A.length ≤ 8) (hf : fl.size ≤ 1048576) (hw : WsZ ws) (hl : ws.length ≤ 1000) (d : Nat) : ∀ (i : Nat) (out : List ByteArray), i + d = A.length → out.length + d * 1000 ≤ 90000 →
  Ev (fun k => spec_l2One.l0 k A fl front ws out (i : Int)) (oneL (A.drop i) fl front ws out) := by
 induction d with
 | zero =>
  intro i out hi ho
  refine Ev.step (fun k => spec_l2One.l0.eq_2 _ _ _ _ _ _ _) (eN (evTo (Ev.now _) ?_))
  rw [List.drop_eq_nil_of_le (by omega)]
  rfl
 | succ d ih =>
  intro i out hi ho
  have hlt : i < A.length := by omega
  have e : rd_T59 A (i : Int) = A[i] := by simp [rd_T59, List.getD_eq_getElem?_getD, hlt]
  have ho' := hok _ (List.getElem_mem hlt)
  have hg : A[i].f0.size = 1 := by
   have := (affOk_parts ho').1
   simp only [flagB, Bool.and_eq_true, decide_eq_true_eq] at this
   exact this.1
  have ew : wrap64 ((i : Int) + 1) = ((i + 1 : Nat) : Int) := w6
  have split : oneL (A.drop i) fl front ws out = oneL (A.drop (i + 1)) fl front ws ((candA A[i] fl front ws).foldl putL out) := by
   unfold oneL
   rw [List.drop_eq_getElem_cons hlt, List.flatMap_cons, List.foldl_append]
  rw [split]
  refine Ev.step (fun k => spec_l2One.l0.eq_2 _ _ _ _ _ _ _) (eP (eP ?_))
  rw [e]
  have skip : selA A[i] fl front = false → Ev (fun k => spec_l2One.j1 k A fl front ws out (i : Int) true) (oneL (A.drop (i + 1)) fl front ws ((candA A[i] fl front ws).foldl putL out)) := by
   intro hs
   refine Ev.step (fun k => spec_l2One.j1.eq_2 _ _ _ _ _ _ _ _) (evPos rfl ?_)
   have hc : candA A[i] fl front ws = [] := by unfold candA; rw [if_neg (by simp [hs])]
   rw [ew, hc]
   exact ih (i + 1) out (by omega) (by omega)
  by_cases c : (A[i].f1 != front) = true
  ·refine evPos c (skip ?_)
   have : (A[i].f1 == front) = false := by simpa [bne] using c
   unfold selA
   rw [this]
   rfl
  ·have c1 : (A[i].f1 == front) = true := by simpa [bne] using c
   refine evNeg c (Ev.bind (has_ev fl _ hf hg) ?_)
   cases h : hasFl fl A[i].f0 with
   | false => exact skip (by unfold selA; rw [h, Bool.and_false])
   | true =>
    refine Ev.step (fun k => spec_l2One.j1.eq_2 _ _ _ _ _ _ _ _) (evNeg (by simp) (one_words A fl front ws i hlt ho' hw hl ws.length 0 out (by omega) (by omega) (fun out' he => ?_)))
    have hc : candA A[i] fl front ws = ws.filterMap (doA A[i]) := by unfold candA selA; rw [c1, h]; rfl
    rw [List.drop_zero] at he
    rw [ew, hc, ← he]
    refine ih (i + 1) out' (by omega) ?_
    have h1 := foldPut_length (ws.filterMap (doA A[i])) out
    have h2 := List.length_filterMap_le (doA A[i]) ws
    rw [he]
    omega
theorem l2One_ev (A : List Af) (fl : ByteArray) (front : Bool) (ws : List ByteArray) (hok : ∀ a ∈ A, AfOk a) (hA : A.length ≤ 8) (hf : fl.size ≤ 1048576) (hw : WsZ ws) (hl : ws.length ≤ 1000) : Ev (fun k => spec_l2One.f k A fl front ws) (oneL A fl front ws ws) := by
 unfold spec_l2One.f
 refine evCall rfl (evPos (by simp; omega) ?_)
 have := one_loop A fl front ws hok hA hf hw hl A.length 0 ws (by omega) (by omega)
 simpa using this
theorem cand_length (A : List Af) (fl : ByteArray) (front : Bool) (ws : List ByteArray) : (A.flatMap (fun a => candA a fl front ws)).length ≤ A.length * ws.length := by
 induction A with
 | nil => simp
 | cons a A ih =>
  rw [List.flatMap_cons, List.length_append, List.length_cons, Nat.add_mul]
  have : (candA a fl front ws).length ≤ ws.length := by
   unfold candA
   split
   ·exact List.length_filterMap_le _ _
   ·simp
  omega
theorem oneL_length (A : List Af) (fl : ByteArray) (front : Bool) (ws out : List ByteArray) : (oneL A fl front ws out).length ≤ out.length + A.length * ws.length := by
 have h1 := foldPut_length (A.flatMap (fun a => candA a fl front ws)) out
 have h2 := cand_length A fl front ws
 unfold oneL
 omega
theorem oneL_mem (A : List Af) (fl : ByteArray) (front : Bool) (ws out : List ByteArray) (x : ByteArray) : x ∈ oneL A fl front ws out ↔ x ∈ out ∨ ∃ a ∈ A, selA a fl front = true ∧ ∃ s ∈ ws, doA a s = some x := by
 unfold oneL
 rw [foldPut_mem, List.mem_flatMap]
 refine or_congr Iff.rfl ⟨fun ⟨a, ha, h⟩ => ?_, fun ⟨a, ha, hs, s, hw, h⟩ => ⟨a, ha, ?_⟩⟩
 ·unfold candA at h
  split at h
  ·rename_i hs
   obtain ⟨s, hw, he⟩ := List.mem_filterMap.1 h
   exact ⟨a, ha, hs, s, hw, he⟩
  ·cases h
 ·unfold candA
  rw [if_pos hs]
  exact List.mem_filterMap.2 ⟨s, hw, h⟩
theorem oneL_asc (A : List Af) (fl : ByteArray) (front : Bool) (ws : List ByteArray) {out : List ByteArray} (h : Asc out) : Asc (oneL A fl front ws out) := foldPut_asc _ h
theorem oneL_size {A : List Af} {fl : ByteArray} {front : Bool} {ws out : List ByteArray} (h : WsZ out) : WsZ (oneL A fl front ws out) := by
 intro s hs
 rcases (oneL_mem A fl front ws out s).1 hs with hs | ⟨a, _, _, t, _, he⟩
 ·exact h s hs
 ·have := wordB_size (doA_word he)
  omega
def formsL (A : List Af) (w fl : ByteArray) : List ByteArray := oneL A fl true (oneL A fl false [w] [w]) (oneL A fl false [w] [w])
theorem formsL_asc (A : List Af) (w fl : ByteArray) : Asc (formsL A w fl) := oneL_asc _ _ _ _ (oneL_asc _ _ _ _ (by simp [Asc]))
theorem formsL_length {A : List Af} (hA : A.length ≤ 8) (w fl : ByteArray) : (formsL A w fl).length ≤ 81 := by
 have h1 := oneL_length A fl false [w] [w]
 have h2 := oneL_length A fl true (oneL A fl false [w] [w]) (oneL A fl false [w] [w])
 unfold formsL
 simp only [List.length_cons, List.length_nil] at h1
 have h3 : (oneL A fl false [w] [w]).length ≤ 9 := by omega
 have h4 : A.length * (oneL A fl false [w] [w]).length ≤ 8 * 9 := Nat.mul_le_mul hA h3
 omega
theorem l2Forms_ev (A : List Af) (w fl : ByteArray) (hok : ∀ a ∈ A, AfOk a) (hA : A.length ≤ 8) (hf : fl.size ≤ 1048576) (hw : w.size ≤ 1048576) : Ev (fun k => spec_l2Forms.f k A w fl) (formsL A w fl) := by
 have z1 : WsZ [w] := fun s hs => by simpa using (List.mem_singleton.1 hs ▸ hw : s.size ≤ 1048576)
 have h1 := oneL_length A fl false [w] [w]
 simp only [List.length_cons, List.length_nil] at h1
 unfold spec_l2Forms.f
 exact Ev.bind (l2One_ev A fl false [w] hok hA hf z1 (by simp)) (Ev.bind (l2One_ev A fl true _ hok hA hf (oneL_size z1) (by omega)) (Ev.now _))
def formsB (A : List Af) (w fl : ByteArray) : List ByteArray := if affsB A = true ∧ entB w fl = true then formsL A w fl else []
theorem entGo_all (E : List En) (d : Nat) : ∀ i : Nat, i + d = E.length → entGo E d (i : Int) = true → ∀ e ∈ E.drop i, entB e.f0 e.f1 = true := by
 induction d with
 | zero =>
  intro i hi _ a ha
  rw [List.drop_eq_nil_of_le (by omega)] at ha
  cases ha
 | succ d ih =>
  intro i hi h a ha
  have hlt : i < E.length := by omega
  simp only [entGo, Bool.and_eq_true] at h
  have e : rd_T51 E (i : Int) = E[i] := by simp [rd_T51, List.getD_eq_getElem?_getD, hlt]
  rw [e] at h
  rw [List.drop_eq_getElem_cons hlt] at ha
  rcases List.mem_cons.1 ha with rfl | ha
  ·exact h.1.1
  ·exact ih (i + 1) (by omega) h.2 a ha
theorem ents_all {E : List En} (h : entsB E = true) : (∀ e ∈ E, entB e.f0 e.f1 = true) ∧ E.length ≤ 24 := by
 simp only [entsB, Bool.and_eq_true, decide_eq_true_eq] at h
 exact ⟨fun a ha => entGo_all E E.length 0 (by omega) h.1 a (by simpa using ha), h.2⟩
def allF (A : List Af) (E : List En) : List ByteArray := E.flatMap (fun e => formsL A e.f0 e.f1)
def wordsL (A : List Af) (E : List En) (out : List ByteArray) : List ByteArray := (allF A E).foldl putL out
theorem allF_length {A : List Af} (hA : A.length ≤ 8) (E : List En) : (allF A E).length ≤ E.length * 81 := by
 unfold allF
 induction E with
 | nil => simp
 | cons e E ih =>
  rw [List.flatMap_cons, List.length_append, List.length_cons, Nat.add_mul]
  have := formsL_length hA e.f0 e.f1
  omega
theorem wordsL_mem (A : List Af) (E : List En) (x : ByteArray) : x ∈ wordsL A E [] ↔ ∃ e ∈ E, x ∈ formsL A e.f0 e.f1 := by
 unfold wordsL allF
 rw [foldPut_mem, List.mem_flatMap]
 simp
theorem wordsL_length {A : List Af} (hA : A.length ≤ 8) (E : List En) : (wordsL A E []).length ≤ E.length * 81 := by
 have h1 := foldPut_length (allF A E) []
 have h2 := allF_length hA E
 unfold wordsL
 simp only [List.length_nil] at h1
 omega
def inB (l : List ByteArray) (s : ByteArray) : Bool := l.any (fun y => y.toList == s.toList)
theorem inB_iff (l : List ByteArray) (s : ByteArray) : inB l s = true ↔ s ∈ l := by
 unfold inB
 rw [List.any_eq_true]
 constructor
 ·rintro ⟨y, hy, h⟩
  have e : y = s := (toList_iff _ _).1 (by simpa using h)
  rw [← e]
  exact hy
 ·intro h
  exact ⟨s, h, by simp⟩
theorem words_inner (A : List Af) (E : List En) (i : Nat) (fs : List ByteArray) (hl : fs.length ≤ 1000) {r : List ByteArray} (d : Nat) : ∀ (j : Nat) (out : List ByteArray), j + d = fs.length → out.length + d ≤ 100000 →
  (∀ out', out' = (fs.drop j).foldl putL out → Ev (fun k => spec_l2Words.l0 k out' (wrap64 ((i : Int) + 1)) A E) r) → Ev (fun k => spec_l2Words.l1 k out (i : Int) fs (j : Int) A E) r := by
 induction d with
 | zero =>
  intro j out hj ho next
  refine Ev.step (fun k => spec_l2Words.l1.eq_2 ..) (eN (next _ ?_))
  rw [List.drop_eq_nil_of_le (by omega)]
  rfl
 | succ d ih =>
  intro j out hj ho next
  have hlt : j < fs.length := by omega
  rw [List.drop_eq_getElem_cons hlt, List.foldl_cons] at next
  have hp := (putL_length out fs[j]).2
  refine Ev.step (fun k => spec_l2Words.l1.eq_2 ..) (eP (eP ?_))
  rw [ba_get fs j hlt, w6 (n := (j : Int) + 1)]
  exact Ev.bind (put_ev out fs[j] (by omega)) (ih (j + 1) _ (by omega) (by omega) next)
theorem words_loop (A : List Af) (E : List En) (hok : ∀ a ∈ A, AfOk a) (hA : A.length ≤ 8) (he : ∀ s ∈ E, (s.f0.size ≤ 1048576 ∧ s.f1.size ≤ 1048576)) (hE : E.length ≤ 24) (d : Nat) : ∀ (i : Nat) (out : List ByteArray), i + d = E.length → out.length + d * 100 ≤ 90000 →
  Ev (fun k => spec_l2Words.l0 k out (i : Int) A E) (wordsL A (E.drop i) out) := by
 induction d with
 | zero =>
  intro i out hi ho
  refine Ev.step (fun k => spec_l2Words.l0.eq_2 ..) (eN (evTo (Ev.now _) ?_))
  rw [List.drop_eq_nil_of_le (by omega)]
  rfl
 | succ d ih =>
  intro i out hi ho
  have hlt : i < E.length := by omega
  have e : rd_T51 E (i : Int) = E[i] := by simp [rd_T51, List.getD_eq_getElem?_getD, hlt]
  have hz := he _ (List.getElem_mem hlt)
  have hn := formsL_length hA E[i].f0 E[i].f1
  have split : wordsL A (E.drop i) out = wordsL A (E.drop (i + 1)) ((formsL A E[i].f0 E[i].f1).foldl putL out) := by
   unfold wordsL allF
   rw [List.drop_eq_getElem_cons hlt, List.flatMap_cons, List.foldl_append]
  rw [split]
  refine Ev.step (fun k => spec_l2Words.l0.eq_2 ..) (eP (eP ?_))
  rw [e]
  refine Ev.bind (l2Forms_ev A _ _ hok hA hz.2 hz.1) (words_inner A E i _ (by omega) (formsL A E[i].f0 E[i].f1).length 0 out (by omega) (by omega) (fun out' h => ?_))
  rw [List.drop_zero] at h
  rw [w6 (n := (i : Int) + 1), ← h]
  have hp := foldPut_length (formsL A E[i].f0 E[i].f1) out
  exact ih (i + 1) out' (by omega) (by rw [h]; omega)
theorem l2Words_ev (A : List Af) (E : List En) (hok : ∀ a ∈ A, AfOk a) (hA : A.length ≤ 8) (he : ∀ s ∈ E, (s.f0.size ≤ 1048576 ∧ s.f1.size ≤ 1048576)) (hE : E.length ≤ 24) : Ev (fun k => spec_l2Words.f k A E) (wordsL A E []) := by
 have := words_loop A E hok hA he hE E.length 0 [] (by omega) (by simp; omega)
 rw [List.drop_zero] at this
 exact this
theorem affixDo_impl (g : ByteArray) (fr : Bool) (st ad wh stem : ByteArray) (h1 : st.size ≤ 140737488351232) (h2 : ad.size ≤ 140737488351232) (h3 : wh.size ≤ 140737488351232) (h4 : stem.size ≤ 281474976710656) :
  Ev (fun k => impl_AffixDo.f k g fr st ad wh stem) (outB (affDo g fr st ad wh stem)) := by
 have no : ∀ r, r = ((⟨#[]⟩ : ByteArray), false) → Ev (fun k => impl_AffixDo.j0 k stem true g fr st ad wh) r := fun r hr => Ev.step (fun k => impl_AffixDo.j0.eq_2 _ _ _ _ _ _ _ _) (evPos rfl (evTo (Ev.now _) hr.symm))
 unfold impl_AffixDo.f
 refine Ev.bind (affixOk_impl g fr st ad wh h1 h2 h3) ?_
 cases e1 : affOk g fr st ad wh with
 | false => exact evNeg (by simp) (no _ (by simp [affDo, e1, outB]))
 | true =>
  refine evPos rfl (Ev.bind (word_impl' stem h4) ?_)
  cases e2 : wordB stem with
  | false => exact no _ (by simp [affDo, e2, outB])
  | true =>
   have h12 := (wordB_size e2).2
   have hst := strip_size e1
   refine Ev.step (fun k => impl_AffixDo.j0.eq_2 _ _ _ _ _ _ _ _) (evNeg (by simp) ?_)
   cases fr with
   | true =>
    refine evPos rfl (evCall (hasPrefix_lib _ _) ?_)
    by_cases c : begB stem wh = true
    ·have hs := begB_size c
     have hz : (stem.extract st.size stem.size).size = stem.size - st.size := size_extract _ _ _ (by omega) (Nat.le_refl _)
     refine evPos c (eP (eP ?_))
     try rw [Int.toNat_natCast]
     refine eP (Ev.bind (word_impl' _ (by rw [size_append]; omega)) ?_)
     cases e3 : wordB (ad ++ stem.extract st.size stem.size) with
     | true => exact evPos rfl (evTo (Ev.now _) (by simp [affDo, e1, e2, doB, c, e3, Option.filter, outB]))
     | false => exact evNeg (by simp) (evTo (Ev.now _) (by simp [affDo, e1, e2, doB, c, e3, Option.filter, outB]))
    ·exact evNeg c (evTo (Ev.now _) (by simp [affDo, e1, e2, doB, c, outB]))
   | false =>
    refine evNeg (by simp) (evCall (hasSuffix_lib _ _ (by omega)) ?_)
    by_cases c : endB stem wh = true
    ·have hs := endB_size c
     have hz : (stem.extract 0 (stem.size - st.size)).size = stem.size - st.size := by
      rw [size_extract _ _ _ (by omega) (by omega)]
      omega
     refine evPos c ?_
     rw [w6, show ((stem.size : Int) - (st.size : Int)).toNat = stem.size - st.size from by omega]
     refine eP (eP (eP (Ev.bind (word_impl' _ (by rw [size_append]; omega)) ?_)))
     cases e3 : wordB (stem.extract 0 (stem.size - st.size) ++ ad) with
     | true => exact evPos rfl (evTo (Ev.now _) (by simp [affDo, e1, e2, doB, c, e3, Option.filter, outB]))
     | false => exact evNeg (by simp) (evTo (Ev.now _) (by simp [affDo, e1, e2, doB, c, e3, Option.filter, outB]))
    ·exact evNeg c (evTo (Ev.now _) (by simp [affDo, e1, e2, doB, c, outB]))
theorem has_lib (f g : ByteArray) (hg : g.size = 1) : strings_Contains.f f g = some (hasFl f g) := by
 unfold strings_Contains.f
 rw [if_pos hg]
 congr 1
 obtain ⟨⟨l⟩⟩ := g
 match l, hg with
 | [c], _ =>
  have hb : bt (⟨⟨[c]⟩⟩ : ByteArray) 0 = (c.toNat : Int) := by
   have := bytes_one (g := (⟨⟨[c]⟩⟩ : ByteArray)) rfl
   simpa [bytesOf] using this.symm
  unfold hasFl
  rw [hb]
  show f.data.toList.contains c = (f.data.toList.map (fun b => (b.toNat : Int))).contains (c.toNat : Int)
  induction f.data.toList with
  | nil => rfl
  | cons b l ih =>
   rw [List.map_cons, List.contains_cons, List.contains_cons, ih]
   congr 1
   rw [Bool.eq_iff_iff, beq_iff_eq, beq_iff_eq]
   constructor
   ·rintro rfl
    rfl
   ·intro h
    exact UInt8.toNat_inj.1 (by exact_mod_cast h)
def gA (fl stem : ByteArray) (front : Bool) (s : ByteArray) (a : Af) : List ByteArray := if (selA a fl front && (front || s.toList == stem.toList)) = true then (doA a s).toList else []
theorem affDo_doA {a : Af} {s : ByteArray} (ha : AfOk a) (hs : wordB s = true) : affDo a.f0 a.f1 a.f2 a.f3 a.f4 s = doA a s := by
 unfold affDo doA
 rw [if_pos ⟨ha, hs⟩]
theorem gA_length (fl stem : ByteArray) (front : Bool) (s : ByteArray) (a : Af) : (gA fl stem front s a).length ≤ 1 := by
 unfold gA
 split
 ·cases doA a s <;> simp
 ·simp
theorem gA_flat_length (fl stem : ByteArray) (front : Bool) (s : ByteArray) (A : List Af) : (A.flatMap (gA fl stem front s)).length ≤ A.length := by
 induction A with
 | nil => simp
 | cons a A ih =>
  rw [List.flatMap_cons, List.length_append, List.length_cons]
  have := gA_length fl stem front s a
  omega
theorem inner_loop (A : List Af) (fl stem : ByteArray) (front : Bool) (s : ByteArray) (ys snap : List ByteArray) (bs : List Bool) (n : Int) (ib i : Int) (hok : ∀ a ∈ A, AfOk a) (hA : A.length ≤ 8) (hz : AfSz A) (hs : wordB s = true) {r : List ByteArray} (d : Nat) : ∀ (j : Nat) (out : List ByteArray), j + d = A.length → out.length + d ≤ 100000 →
  (∀ out', out' = out ++ (A.drop j).flatMap (gA fl stem front s) → Ev (fun k => impl_Forms.l1 k A out' front bs n ib snap (snap.length : Int) (wrap64 (i + 1)) stem fl) r) → Ev (fun k => impl_Forms.l2 k A out front s bs n ib snap (snap.length : Int) i A (A.length : Int) (j : Int) stem fl) r := by
 induction d with
 | zero =>
  intro j out hj ho next
  refine Ev.step (fun k => impl_Forms.l2.eq_2 ..) (eN (next _ ?_))
  rw [List.drop_eq_nil_of_le (by omega)]
  simp
 | succ d ih =>
  intro j out hj ho next
  have hlt : j < A.length := by omega
  have e : rd_T59 A (j : Int) = A[j] := by simp [rd_T59, List.getD_eq_getElem?_getD, hlt]
  have ho' := hok _ (List.getElem_mem hlt)
  have hz' := hz _ (List.getElem_mem hlt)
  have hsz := wordB_size hs
  have hg : A[j].f0.size = 1 := by
   have := (affOk_parts ho').1
   simp only [flagB, Bool.and_eq_true, decide_eq_true_eq] at this
   exact this.1
  have ew : wrap64 ((j : Int) + 1) = ((j + 1 : Nat) : Int) := w6
  rw [List.drop_eq_getElem_cons hlt] at next
  simp only [List.flatMap_cons] at next
  have go : ∀ out', out' = out ++ gA fl stem front s A[j] → Ev (fun k => impl_Forms.l2 k A out' front s bs n ib snap (snap.length : Int) i A (A.length : Int) ((j + 1 : Nat) : Int) stem fl) r := by
   intro out' he
   have hl := gA_length fl stem front s A[j]
   refine ih (j + 1) out' (by omega) (by rw [he, List.length_append]; omega) (fun o h => next o ?_)
   rw [h, he, List.append_assoc]
  have skip4 : (selA A[j] fl front = false) → Ev (fun k => impl_Forms.j4 k A out front s bs n ib snap (snap.length : Int) i A (A.length : Int) (j : Int) true stem fl A[j].f0 A[j].f1 A[j].f2 A[j].f3 A[j].f4) r := by
   intro h
   refine Ev.step (fun k => impl_Forms.j4.eq_2 ..) (evPos rfl ?_)
   rw [ew]
   refine go out ?_
   unfold gA
   rw [h]
   simp
  have five : ∀ b : Bool, selA A[j] fl front = true → b = (front || s.toList == stem.toList) → Ev (fun k => impl_Forms.j5 k A out front s bs n ib snap (snap.length : Int) i A (A.length : Int) (j : Int) b stem fl A[j].f0 A[j].f1 A[j].f2 A[j].f3 A[j].f4) r := by
   intro b h1 h2
   refine Ev.step (fun k => impl_Forms.j5.eq_2 ..) ?_
   cases b with
   | false =>
    refine evNeg (by simp) ?_
    rw [ew]
    refine go out ?_
    unfold gA
    rw [← h2]
    simp
   | true =>
    refine evPos rfl (Ev.bind (affixDo_impl _ _ _ _ _ _ (by omega) (by omega) (by omega) (by omega)) ?_)
    rw [affDo_doA ho' hs, ew]
    have hgA : gA fl stem front s A[j] = (doA A[j] s).toList := by unfold gA; rw [h1, ← h2]; rfl
    cases hd : doA A[j] s with
    | none =>
     refine evNeg (by simp [outB]) (go out ?_)
     rw [hgA, hd]
     simp
    | some x =>
     refine evPos rfl (eP (go _ ?_))
     rw [hgA, hd]
     rfl
  refine Ev.step (fun k => impl_Forms.l2.eq_2 ..) (eP (eP (eP ?_)))
  rw [e]
  by_cases c : (A[j].f1 != front) = true
  ·refine evPos c (skip4 ?_)
   have : (A[j].f1 == front) = false := by simpa [bne] using c
   unfold selA
   rw [this]
   rfl
  ·have c1 : (A[j].f1 == front) = true := by simpa [bne] using c
   refine evNeg c (evCall (has_lib _ _ hg) ?_)
   cases h : hasFl fl A[j].f0 with
   | false => exact skip4 (by unfold selA; rw [h, Bool.and_false])
   | true =>
    have h1 : selA A[j] fl front = true := by unfold selA; rw [c1, h]; rfl
    refine Ev.step (fun k => impl_Forms.j4.eq_2 ..) (evNeg (by simp) ?_)
    cases front with
    | true => exact evPos rfl (five true h1 (by simp))
    | false => exact evNeg (by simp) (five _ h1 (by simp))
theorem stems_loop (A : List Af) (fl stem : ByteArray) (front : Bool) (snap : List ByteArray) (bs : List Bool) (n : Int) (ib : Int) (hok : ∀ a ∈ A, AfOk a) (hA : A.length ≤ 8) (hz : AfSz A) (hs : ∀ s ∈ snap, wordB s = true) (hl : snap.length ≤ 1000) {r : List ByteArray} (d : Nat) : ∀ (i : Nat) (out : List ByteArray), i + d = snap.length → out.length + d * 8 ≤ 90000 →
  (∀ out', out' = out ++ (snap.drop i).flatMap (fun s => A.flatMap (gA fl stem front s)) → Ev (fun k => impl_Forms.l0 k A out' bs n (wrap64 (ib + 1)) stem fl) r) → Ev (fun k => impl_Forms.l1 k A out front bs n ib snap (snap.length : Int) (i : Int) stem fl) r := by
 induction d with
 | zero =>
  intro i out hi ho next
  refine Ev.step (fun k => impl_Forms.l1.eq_2 ..) (eN (next _ ?_))
  rw [List.drop_eq_nil_of_le (by omega)]
  simp
 | succ d ih =>
  intro i out hi ho next
  have hlt : i < snap.length := by omega
  have ew : wrap64 ((i : Int) + 1) = ((i + 1 : Nat) : Int) := w6
  rw [List.drop_eq_getElem_cons hlt] at next
  simp only [List.flatMap_cons] at next
  refine Ev.step (fun k => impl_Forms.l1.eq_2 ..) (eP (eP (eP ?_)))
  rw [ba_get snap i hlt]
  refine inner_loop A fl stem front snap[i] snap snap bs n ib (i : Int) hok hA hz (hs _ (List.getElem_mem hlt)) A.length 0 out (by omega) (by omega) (fun out' he => ?_)
  rw [ew]
  rw [List.drop_zero] at he
  have hl2 := gA_flat_length fl stem front snap[i] A
  refine ih (i + 1) out' (by omega) (by rw [he, List.length_append]; omega) (fun o h => next o ?_)
  rw [h, he, List.append_assoc]
def outL (A : List Af) (fl stem : ByteArray) (front : Bool) (out : List ByteArray) : List ByteArray := out ++ out.flatMap (fun s => A.flatMap (gA fl stem front s))
theorem outL_length (A : List Af) (fl stem : ByteArray) (front : Bool) (out : List ByteArray) : (outL A fl stem front out).length ≤ out.length + A.length * out.length := by
 have : ∀ l : List ByteArray, (l.flatMap (fun s => A.flatMap (gA fl stem front s))).length ≤ A.length * l.length := by
  intro l
  induction l with
  | nil => simp
  | cons s l ih =>
   have := gA_flat_length fl stem front s A
   rw [List.flatMap_cons, List.length_append, List.length_cons, Nat.mul_add]
   omega
 have := this out
 unfold outL
 rw [List.length_append]
 omega
theorem outL_words {A : List Af} {fl stem : ByteArray} {front : Bool} {out : List ByteArray} (h : ∀ s ∈ out, wordB s = true) : ∀ s ∈ outL A fl stem front out, wordB s = true := by
 intro s hs
 rcases List.mem_append.1 hs with hs | hs
 ·exact h s hs
 ·obtain ⟨t, _, hs⟩ := List.mem_flatMap.1 hs
  obtain ⟨a, _, hs⟩ := List.mem_flatMap.1 hs
  unfold gA at hs
  split at hs
  ·exact doA_word (Option.mem_toList.1 hs)
  ·cases hs
theorem outL_mem (A : List Af) (fl stem : ByteArray) (front : Bool) (out : List ByteArray) (hf : front = true ∨ ∀ s ∈ out, s = stem) (x : ByteArray) : x ∈ outL A fl stem front out ↔ x ∈ out ∨ ∃ a ∈ A, selA a fl front = true ∧ ∃ s ∈ out, doA a s = some x := by
 unfold outL
 rw [List.mem_append, List.mem_flatMap]
 refine or_congr Iff.rfl ⟨fun ⟨s, hs, h⟩ => ?_, fun ⟨a, ha, h1, s, hs, h⟩ => ⟨s, hs, List.mem_flatMap.2 ⟨a, ha, ?_⟩⟩⟩
 ·obtain ⟨a, ha, h⟩ := List.mem_flatMap.1 h
  unfold gA at h
  split at h
  ·rename_i hc
   simp only [Bool.and_eq_true] at hc
   exact ⟨a, ha, hc.1, s, hs, Option.mem_toList.1 h⟩
  ·cases h
 ·unfold gA
  rw [h1, if_pos, h]
  ·simp
  ·rcases hf with rfl | hf
   ·rfl
   ·simp [hf s hs]
theorem forms_set (A : List Af) (w fl : ByteArray) : M.setL (outL A fl w true (outL A fl w false [w])) = formsL A w fl := by
 refine asc_ext (setL_asc _) (formsL_asc A w fl) (fun x => ?_)
 have h1 : ∀ y, y ∈ outL A fl w false [w] ↔ y ∈ oneL A fl false [w] [w] := fun y => by
  rw [outL_mem A fl w false [w] (.inr (fun s hs => List.mem_singleton.1 hs)), oneL_mem]
 unfold formsL
 rw [setL_mem, outL_mem A fl w true _ (.inl rfl), oneL_mem]
 simp only [h1]
theorem forms_impl (A : List Af) (w fl : ByteArray) (hl : A.length ≤ 1048576) (hs : AfSz A) (hf : fl.size ≤ 1048576) (hw : w.size ≤ 1048576) : Ev (fun k => impl_Forms.f k A w fl) (formsB A w fl) := by
 have no : Ev (fun k => impl_Forms.j0 k A true w fl) ([] : List ByteArray) := Ev.step (fun k => impl_Forms.j0.eq_2 ..) (evPos rfl (Ev.now _))
 unfold impl_Forms.f formsB
 refine Ev.bind (affs_impl A hl hs) ?_
 cases e1 : affsB A with
 | false => exact evNeg (by simp) (evTo no (by simp))
 | true =>
  refine evPos rfl (Ev.bind (ent_impl w fl hw hf) ?_)
  cases e2 : entB w fl with
  | false => exact evTo no (by simp)
  | true =>
   obtain ⟨h1, h2⟩ := affs_all e1
   have hwd := (ent_word e2).1
   have w1 : ∀ s ∈ [w], wordB s = true := fun s hs => by rw [List.mem_singleton.1 hs]; exact hwd
   have w2 := outL_words (A := A) (fl := fl) (stem := w) (front := false) w1
   have n1 := outL_length A fl w false [w]
   simp only [List.length_cons, List.length_nil] at n1
   have n2 := outL_length A fl w true (outL A fl w false [w])
   have n3 : A.length * (outL A fl w false [w]).length ≤ 8 * 9 := Nat.mul_le_mul h2 (by omega)
   refine Ev.step (fun k => impl_Forms.j0.eq_2 ..) (evNeg (by simp) (evCall rfl ?_))
   refine Ev.step (fun k => impl_Forms.l0.eq_2 ..) (evPos (by simp) (eP (evPos (by simp) (evCall rfl (evPos (by simp) (evCall rfl ?_))))))
   refine stems_loop A fl w false [w] [false, true] 2 0 h1 h2 hs w1 (by simp) 1 0 [w] (by simp) (by simp) (fun out1 he1 => ?_)
   rw [w6]
   have e1' : out1 = outL A fl w false [w] := by rw [he1]; rfl
   subst e1'
   refine Ev.step (fun k => impl_Forms.l0.eq_2 ..) (evPos (by simp) (eP (evPos (by simp) (evCall rfl (evPos (by simp; omega) (evCall rfl ?_))))))
   refine stems_loop A fl w true (outL A fl w false [w]) [false, true] 2 1 h1 h2 hs w2 (by omega) (outL A fl w false [w]).length 0 (outL A fl w false [w]) (by omega) (by omega) (fun out2 he2 => ?_)
   rw [w6]
   have e2' : out2 = outL A fl w true (outL A fl w false [w]) := by rw [he2]; rfl
   subst e2'
   refine Ev.step (fun k => impl_Forms.l0.eq_2 ..) (evNeg (by simp) (evCall (a := formsL A w fl) ?_ (evTo (Ev.now _) (by simp))))
   unfold impl_sorted.f
   rw [if_pos (by omega), forms_set]
theorem words_set (A : List Af) (E : List En) : M.setL (allF A E) = wordsL A E [] := rfl
theorem bookWords_loop (A : List Af) (E : List En) (hA : affsB A = true) (hE : entsB E = true) (hz : AfSz A) (hl : A.length ≤ 1048576) (he : ∀ s ∈ E, (s.f0.size ≤ 1048576 ∧ s.f1.size ≤ 1048576)) (d : Nat) : ∀ (i : Nat) (out : List ByteArray), i + d = E.length → out.length + d * 100 ≤ 90000 →
  Ev (fun k => impl_Book_words.l0 k out E (E.length : Int) (i : Int) A E) (M.setL (out ++ allF A (E.drop i))) := by
 induction d with
 | zero =>
  intro i out hi ho
  refine Ev.step (fun k => impl_Book_words.l0.eq_2 ..) (eN (evCall (a := M.setL out) ?_ (evTo (Ev.now _) ?_)))
  ·unfold impl_sorted.f
   rw [if_pos (by omega)]
  ·rw [List.drop_eq_nil_of_le (by omega)]
   simp [allF]
 | succ d ih =>
  intro i out hi ho
  have hlt : i < E.length := by omega
  have e : rd_T51 E (i : Int) = E[i] := by simp [rd_T51, List.getD_eq_getElem?_getD, hlt]
  have hs := he _ (List.getElem_mem hlt)
  have h1 := affs_all hA
  have h2 := ents_all hE
  have hn := formsL_length h1.2 E[i].f0 E[i].f1
  have hf := forms_impl A E[i].f0 E[i].f1 hl hz hs.2 hs.1
  rw [show formsB A E[i].f0 E[i].f1 = formsL A E[i].f0 E[i].f1 from if_pos ⟨hA, h2.1 _ (List.getElem_mem hlt)⟩] at hf
  refine Ev.step (fun k => impl_Book_words.l0.eq_2 ..) (eP (eP (eP ?_)))
  rw [e, w6 (n := (i : Int) + 1)]
  refine Ev.bind hf (eP (evTo (ih (i + 1) _ (by omega) (by rw [List.length_append]; omega)) ?_))
  unfold allF
  rw [List.drop_eq_getElem_cons hlt, List.flatMap_cons, List.append_assoc]
theorem bookWords_ev (A : List Af) (E : List En) (hA : affsB A = true) (hE : entsB E = true) (hz : AfSz A) (hl : A.length ≤ 1048576) (he : ∀ s ∈ E, (s.f0.size ≤ 1048576 ∧ s.f1.size ≤ 1048576)) : Ev (fun k => impl_Book_words.f k A E) (wordsL A E []) := by
 have h2 := (ents_all hE).2
 have := bookWords_loop A E hA hE hz hl he E.length 0 [] (by omega) (by simp; omega)
 rw [List.drop_zero, List.nil_append, words_set] at this
 exact this
theorem in_loop (l : List ByteArray) (s : ByteArray) (hl : l.length ≤ 10000000) (d : Nat) : ∀ i : Nat, i + d = l.length → Ev (fun k => spec_l2In.l0 k l s (i : Int)) (inB (l.drop i) s) := by
 induction d with
 | zero =>
  intro i hi
  refine Ev.step (fun k => spec_l2In.l0.eq_2 ..) (eN (evTo (Ev.now _) ?_))
  rw [List.drop_eq_nil_of_le (by omega)]
  rfl
 | succ d ih =>
  intro i hi
  have hlt : i < l.length := by omega
  refine Ev.step (fun k => spec_l2In.l0.eq_2 ..) (eP (eP ?_))
  have he : inB (l.drop i) s = (l[i].toList == s.toList || inB (l.drop (i + 1)) s) := by
   unfold inB
   rw [List.drop_eq_getElem_cons hlt, List.any_cons]
  rw [ba_get l i hlt, w6 (n := (i : Int) + 1), he]
  by_cases c : l[i].toList = s.toList
  ·exact evPos c (evTo (Ev.now _) (by simp [c]))
  ·have cb : (l[i].toList == s.toList) = false := by simpa using c
   rw [cb, Bool.false_or]
   exact evNeg c (ih (i + 1) (by omega))
theorem l2In_ev (l : List ByteArray) (s : ByteArray) (hl : l.length ≤ 10000000) : Ev (fun k => spec_l2In.f k l s) (inB l s) := in_loop l s hl l.length 0 (by omega)
theorem idx_loop (l : List ByteArray) (s : ByteArray) (hl : l.length ≤ 10000000) (d : Nat) : ∀ i : Nat, i + d = l.length → ∃ m, Ev (fun k => slices_Index_string_string.l0 k l s (l.length : Int) (i : Int)) m ∧ decide (m ≥ 0) = inB (l.drop i) s := by
 induction d with
 | zero =>
  intro i hi
  refine ⟨-1, Ev.step (fun k => slices_Index_string_string.l0.eq_2 ..) (eN (Ev.now _)), ?_⟩
  rw [List.drop_eq_nil_of_le (by omega)]
  rfl
 | succ d ih =>
  intro i hi
  have hlt : i < l.length := by omega
  obtain ⟨m, hm, h2⟩ := ih (i + 1) (by omega)
  have he : inB (l.drop i) s = (l[i].toList == s.toList || inB (l.drop (i + 1)) s) := by
   unfold inB
   rw [List.drop_eq_getElem_cons hlt, List.any_cons]
  have hw : wrap64 ((i : Int) + 1) = ((i + 1 : Nat) : Int) := w6
  by_cases c : l[i].toList = s.toList
  ·refine ⟨(i : Int), Ev.step (fun k => slices_Index_string_string.l0.eq_2 ..) (eP (eP (eP ?_))), ?_⟩
   ·rw [ba_get l i hlt]
    exact evPos c.symm (Ev.now _)
   ·rw [he, c]
    simp
  ·refine ⟨m, Ev.step (fun k => slices_Index_string_string.l0.eq_2 ..) (eP (eP (eP ?_))), ?_⟩
   ·rw [ba_get l i hlt, hw]
    exact evNeg (fun h => c h.symm) hm
   ·have cb : (l[i].toList == s.toList) = false := by simpa using c
    rw [he, cb, Bool.false_or, h2]
theorem contains_ev (l : List ByteArray) (s : ByteArray) (hl : l.length ≤ 10000000) : Ev (fun k => slices_Contains_string_string.f k l s) (inB l s) := by
 obtain ⟨m, hm, h2⟩ := idx_loop l s hl l.length 0 (by omega)
 rw [List.drop_zero] at h2
 unfold slices_Contains_string_string.f
 exact Ev.bind hm (evTo (Ev.now _) h2)
theorem knows_impl (A : List Af) (E : List En) (h : BkSz A E) (s : ByteArray) : Ev (fun k => impl_BookKnows.f k A E s) (bookB A E && inB (wordsL A E []) s) := by
 unfold impl_BookKnows.f
 refine Ev.bind (bookOk_impl A E h) ?_
 cases e : bookB A E with
 | false => exact evNeg (by simp) (evTo (Ev.now _) (by simp))
 | true =>
  simp only [bookB, Bool.and_eq_true] at e
  obtain ⟨h1, h2⟩ := affs_all e.1
  have h3 := ents_all e.2
  have hw := wordsL_length h2 E
  exact evPos rfl (Ev.bind (bookWords_ev A E e.1 e.2 h.a h.la h.e) (Ev.bind (contains_ev _ s (by omega)) (evTo (Ev.now _) (by simp))))
theorem forms_words {A : List Af} {w fl : ByteArray} (hw : wordB w = true) : ∀ x ∈ formsL A w fl, wordB x = true := by
 intro x hx
 unfold formsL at hx
 rcases (oneL_mem ..).1 hx with hx | ⟨a, _, _, s, _, he⟩
 ·rcases (oneL_mem ..).1 hx with hx | ⟨a, _, _, s, _, he⟩
  ·rw [List.mem_singleton.1 hx]
   exact hw
  ·exact doA_word he
 ·exact doA_word he
def bgL (l : List Gu) : List Gu := l.takeWhile (fun g => decide (g.f1 = (rd_T38 l 0).f1))
def allG (A : List Af) (E : List En) (s : ByteArray) : List Gu := ((gsL (wordsL A E []) s 2).mergeSort impl_Guess.le).take 10
def bguB (A : List Af) (E : List En) (s : ByteArray) : List Gu := if bookB A E = true ∧ wordB s = true ∧ inB (wordsL A E []) s = false then bgL (allG A E s) else []
theorem allG_length (A : List Af) (E : List En) (s : ByteArray) : (allG A E s).length ≤ 10 := by
 unfold allG
 rw [List.length_take]
 omega
theorem bgS_loop (l : List Gu) (hl : l.length ≤ 10) (d : Nat) : ∀ (i : Nat) (out : List Gu), i + d = l.length → out.length ≤ i → Ev (fun k => spec_BookGuesses.l0 k out l (i : Int)) (out ++ (l.drop i).takeWhile (fun g => decide (g.f1 = (rd_T38 l 0).f1))) := by
 induction d with
 | zero =>
  intro i out hi ho
  have e : l.drop i = [] := List.drop_eq_nil_iff.2 (by omega)
  rw [e]
  exact Ev.step (fun k => spec_BookGuesses.l0.eq_2 ..) (eN (evTo (Ev.now _) (by simp)))
 | succ d ih =>
  intro i out hi ho
  have hi' : i < l.length := by omega
  rw [drop_cons hi', List.takeWhile_cons]
  refine Ev.step (fun k => spec_BookGuesses.l0.eq_2 ..) (eP (eP (eP ?_)))
  rw [gu_get l i hi', w6 (n := (i : Int) + 1)]
  by_cases c : l[i].f1 = (rd_T38 l 0).f1
  ·rw [decide_eq_true c]
   refine evPos c (eP (evTo (ih (i + 1) _ (by omega) (by simp; omega)) ?_))
   rw [List.append_assoc]
   rfl
  ·rw [decide_eq_false c]
   exact evNeg c (evTo (Ev.now _) (by simp))
theorem bgI_loop (l : List Gu) (hl : l.length ≤ 10) (d : Nat) : ∀ (i : Nat), i + d = l.length → Ev (fun k => impl_BookGuesses.l0 k (l.take i) l (l.length : Int) (i : Int)) (l.take i ++ (l.drop i).takeWhile (fun g => decide (g.f1 = (rd_T38 l 0).f1))) := by
 induction d with
 | zero =>
  intro i hi
  have e : l.drop i = [] := List.drop_eq_nil_iff.2 (by omega)
  rw [e]
  exact Ev.step (fun k => impl_BookGuesses.l0.eq_2 ..) (eN (evTo (Ev.now _) (by simp)))
 | succ d ih =>
  intro i hi
  have hi' : i < l.length := by omega
  rw [drop_cons hi', List.takeWhile_cons]
  have hlt : (l.take i).length = i := by rw [List.length_take]; omega
  have next : Ev (fun k => impl_BookGuesses.l0 k (l.take i ++ [l[i]]) l (l.length : Int) ((i + 1 : Nat) : Int)) (l.take i ++ l[i] :: (l.drop (i + 1)).takeWhile (fun g => decide (g.f1 = (rd_T38 l 0).f1))) := by
   have := ih (i + 1) (by omega)
   rw [List.take_succ_eq_append_getElem hi', List.append_assoc] at this
   exact this
  refine Ev.step (fun k => impl_BookGuesses.l0.eq_2 ..) (eP (eP (eP ?_)))
  rw [gu_get l i hi', w6 (n := (i : Int) + 1)]
  by_cases c0 : ((l.take i).length : Int) > 0
  ·have e0 : rd_T38 (l.take i) 0 = rd_T38 l 0 := by
    have h1 := gu_get (l.take i) 0 (by omega)
    have h2 := gu_get l 0 (by omega)
    rw [List.getElem_take] at h1
    exact h1.trans h2.symm
   rw [e0]
   refine evPos c0 (eP ?_)
   by_cases c : l[i].f1 = (rd_T38 l 0).f1
   ·rw [decide_eq_true c]
    exact evPos c (eP (evTo next rfl))
   ·rw [decide_eq_false c]
    exact evNeg c (evTo (Ev.now _) (by simp))
  ·have h0 : i = 0 := by omega
   subst h0
   have c : l[0].f1 = (rd_T38 l 0).f1 := by
    have h2 := gu_get l 0 (by omega)
    exact congrArg (fun g : Gu => g.f1) h2.symm
   rw [decide_eq_true c]
   exact evNeg c0 (eP (evTo next rfl))
theorem wsL_facts {A : List Af} {E : List En} (e : bookB A E = true) : (wordsL A E []).length ≤ 2000 ∧ (∀ x ∈ wordsL A E [], wordB x = true) ∧ ∀ x ∈ wordsL A E [], x.size ≤ 12 := by
 simp only [bookB, Bool.and_eq_true] at e
 obtain ⟨h1, h2⟩ := affs_all e.1
 have h3 := ents_all e.2
 have hlen := wordsL_length h2 E
 have hw : ∀ x ∈ wordsL A E [], wordB x = true := fun x hx => by
  obtain ⟨en, hen, hm⟩ := (wordsL_mem A E x).1 hx
  exact forms_words (fl := en.f1) (ent_word (h3.1 en hen)).1 _ hm
 exact ⟨by omega, hw, fun x hx => (wordB_size (hw x hx)).2⟩
theorem bg_spec (A : List Af) (E : List En) (h : BkSz A E) (s : ByteArray) (hs : s.size ≤ 1048576) : Ev (fun k => spec_BookGuesses.f k A E s) (bguB A E s) := by
 unfold spec_BookGuesses.f bguB
 refine evCall rfl (Ev.bind (bookOk_spec A E h) ?_)
 have fin : ∀ b : Bool, b = true → Ev (fun k => spec_BookGuesses.j0 k s ([] : List Gu) b A E) ([] : List Gu) := fun b hb => Ev.step (fun k => spec_BookGuesses.j0.eq_2 ..) (evPos hb (Ev.now _))
 by_cases e : bookB A E = true
 ·refine evPos e (Ev.bind (l1Word_spec s (by omega)) ?_)
  obtain ⟨g1, g2, g3⟩ := wsL_facts e
  have e' := e
  simp only [bookB, Bool.and_eq_true] at e'
  obtain ⟨h1, h2⟩ := affs_all e'.1
  have h3 := ents_all e'.2
  have hw := l2Words_ev A E h1 h2 h.e h3.2
  by_cases c : wordB s = true
  ·refine evPos c (Ev.bind hw (Ev.bind (l2In_ev _ s (by omega)) ?_))
   cases c2 : inB (wordsL A E []) s with
   | true => rw [if_neg (by simp)]; exact fin true rfl
   | false =>
    rw [if_pos ⟨e, c, rfl⟩]
    refine Ev.step (fun k => spec_BookGuesses.j0.eq_2 ..) (evNeg (by simp) (Ev.bind hw (Ev.bind (a := allG A E s) ?_ ?_)))
    ·unfold spec_l4Guesses.f
     have := gs_loop (wordsL A E []) s 2 (by omega) g3 (wordB_size c).2 (wordsL A E []).length 0 [] (by omega) (by simp)
     rw [List.drop_zero, foldG_sort] at this
     exact this
    ·have := bgS_loop (allG A E s) (allG_length A E s) (allG A E s).length 0 [] (by omega) (by simp)
     rw [List.drop_zero, List.nil_append] at this
     exact this
  ·rw [if_neg (fun hh => c hh.2.1)]
   exact evNeg c (fin true rfl)
 ·rw [if_neg (fun hh => e hh.1)]
  exact evNeg e (fin true rfl)
theorem bg_impl (A : List Af) (E : List En) (h : BkSz A E) (s : ByteArray) (hs : s.size ≤ 1048576) : Ev (fun k => impl_BookGuesses.f k A E s) (bguB A E s) := by
 unfold impl_BookGuesses.f bguB
 refine evCall rfl (Ev.bind (bookOk_impl A E h) ?_)
 have fin : ∀ b : Bool, b = true → Ev (fun k => impl_BookGuesses.j0 k s ([] : List Gu) b A E) ([] : List Gu) := fun b hb => Ev.step (fun k => impl_BookGuesses.j0.eq_2 ..) (evPos hb (Ev.now _))
 by_cases e : bookB A E = true
 ·refine evPos e (Ev.bind (word_impl s (by omega)) ?_)
  obtain ⟨g1, g2, g3⟩ := wsL_facts e
  have e' := e
  simp only [bookB, Bool.and_eq_true] at e'
  by_cases c : wordB s = true
  ·have hk := knows_impl A E h s
   rw [e, Bool.true_and] at hk
   refine evPos c (Ev.bind hk ?_)
   cases c2 : inB (wordsL A E []) s with
   | true => rw [if_neg (by simp)]; exact fin true rfl
   | false =>
    rw [if_pos ⟨e, c, rfl⟩]
    refine Ev.step (fun k => impl_BookGuesses.j0.eq_2 ..) (evNeg (by simp) (Ev.bind (bookWords_ev A E e'.1 e'.2 h.a h.la h.e) (Ev.bind (a := allG A E s) ?_ ?_)))
    ·unfold impl_guesses.f
     have := gs_impl_loop (wordsL A E []) s 2 (by omega) g2 g3 (wordB_size c).2 c (wordsL A E []).length 0 [] (by omega) (by simp)
     rw [List.drop_zero, List.nil_append] at this
     exact this
    ·have := bgI_loop (allG A E s) (allG_length A E s) (allG A E s).length 0 (by omega)
     rw [List.drop_zero, List.take_zero, List.nil_append] at this
     exact this
  ·rw [if_neg (fun hh => c hh.2.1)]
   exact evNeg c (fin true rfl)
 ·rw [if_neg (fun hh => e hh.1)]
  exact evNeg e (fin true rfl)
def leastL (ws : List ByteArray) (s : ByteArray) (m : Int) : Int := ws.foldl (fun m w => if farD w s < m then farD w s else m) m
theorem leastL_facts (s : ByteArray) : ∀ (ws : List ByteArray) (m : Int), leastL ws s m ≤ m ∧ (∀ w ∈ ws, leastL ws s m ≤ farD w s) ∧ (leastL ws s m = m ∨ ∃ w ∈ ws, leastL ws s m = farD w s) := by
 intro ws
 induction ws with
 | nil => intro m; exact ⟨Int.le_refl _, fun w hw => absurd hw (by simp), .inl rfl⟩
 | cons w ws ih =>
  intro m
  have e : leastL (w :: ws) s m = leastL ws s (if farD w s < m then farD w s else m) := rfl
  rw [e]
  obtain ⟨h1, h2, h3⟩ := ih (if farD w s < m then farD w s else m)
  have h4 : (if farD w s < m then farD w s else m) ≤ m ∧ (if farD w s < m then farD w s else m) ≤ farD w s := by split <;> omega
  refine ⟨by omega, fun x hx => ?_, ?_⟩
  ·rcases List.mem_cons.1 hx with rfl | hx
   ·omega
   ·exact h2 x hx
  ·rcases h3 with h3 | ⟨x, hx, h3⟩
   ·rw [h3]
    split
    ·exact .inr ⟨w, List.mem_cons_self, rfl⟩
    ·exact .inl rfl
   ·exact .inr ⟨x, List.mem_cons_of_mem _ hx, h3⟩
theorem gsL_mem (ws : List ByteArray) (w : ByteArray) (far : Int) (g : Gu) : g ∈ gsL ws w far ↔ ∃ s ∈ ws, farD s w ≤ far ∧ g = ⟨s, farD s w⟩ := by
 unfold gsL
 rw [List.mem_flatMap]
 constructor
 ·rintro ⟨s, hs, h⟩
  split at h
  ·rename_i c
   exact ⟨s, hs, c, List.mem_singleton.1 h⟩
  ·simp at h
 ·rintro ⟨s, hs, c, rfl⟩
  exact ⟨s, hs, by rw [if_pos c]; exact List.mem_singleton.2 rfl⟩
theorem bgu_law {A : List Af} {E : List En} {s : ByteArray} (e : bookB A E = true) (c : wordB s = true) :
  (∀ g ∈ bguB A E s, g.f1 = leastL (wordsL A E []) s 3 ∧ inB (wordsL A E []) g.f0 = true) ∧ ((0 < (bguB A E s).length) ↔ (leastL (wordsL A E []) s 3 = 1 ∨ leastL (wordsL A E []) s 3 = 2)) := by
 obtain ⟨l1, l2, l3⟩ := leastL_facts s (wordsL A E []) 3
 obtain ⟨_, g2, _⟩ := wsL_facts e
 generalize hm : leastL (wordsL A E []) s 3 = m at *
 have f0 : ∀ w : ByteArray, 0 ≤ farD w s := fun w => (dist_facts w s _ _ _ (Nat.le_refl _)).2.2.2.2.2
 have m0 : 0 ≤ m := by
  rcases l3 with h | ⟨w, _, h⟩
  ·omega
  ·have := f0 w; omega
 unfold bguB
 cases c2 : inB (wordsL A E []) s with
 | true =>
  rw [if_neg (by simp)]
  have hs := (inB_iff _ _).1 c2
  have h1 := l2 s hs
  rw [(farD_zero s s).2 rfl] at h1
  refine ⟨fun g hg => absurd hg (by simp), ⟨fun h => by simp at h, fun h => by omega⟩⟩
 | false =>
  rw [if_pos ⟨e, c, rfl⟩]
  have hne : ∀ w ∈ wordsL A E [], farD w s ≠ 0 := fun w hw h0 => by
   rw [farD_zero] at h0
   subst h0
   rw [(inB_iff _ _).2 hw] at c2
   cases c2
  have memA : ∀ g, g ∈ allG A E s → g ∈ gsL (wordsL A E []) s 2 := fun g hg => (List.mergeSort_perm _ _).mem_iff.1 (List.mem_of_mem_take hg)
  have srt := List.pairwise_mergeSort le_trans' le_total' (gsL (wordsL A E []) s 2)
  have prm := List.mergeSort_perm (gsL (wordsL A E []) s 2) impl_Guess.le
  cases hG : (gsL (wordsL A E []) s 2).mergeSort impl_Guess.le with
  | nil =>
   have e0 : allG A E s = [] := by unfold allG; rw [hG]; rfl
   rw [e0]
   rw [hG] at prm
   have hnil : gsL (wordsL A E []) s 2 = [] := prm.symm.eq_nil
   refine ⟨fun g hg => absurd hg (by simp [bgL]), ⟨fun h => absurd h (by simp [bgL]), fun h => ?_⟩⟩
   rcases l3 with h3 | ⟨w, hw, h3⟩
   ·omega
   ·have : (⟨w, farD w s⟩ : Gu) ∈ gsL (wordsL A E []) s 2 := (gsL_mem _ _ _ _).2 ⟨w, hw, by omega, rfl⟩
    rw [hnil] at this
    simp at this
  | cons g0 G =>
   have e0 : allG A E s = g0 :: G.take 9 := by unfold allG; rw [hG]; rfl
   have hg0 : g0 ∈ gsL (wordsL A E []) s 2 := by
    rw [hG] at prm
    exact prm.mem_iff.1 List.mem_cons_self
   obtain ⟨w0, hw0, hf0, rfl⟩ := (gsL_mem _ _ _ _).1 hg0
   have r0 : (rd_T38 (allG A E s) 0).f1 = farD w0 s := by
    have h2 := gu_get (allG A E s) 0 (by rw [e0]; simp)
    rw [show rd_T38 (allG A E s) 0 = _ from h2]
    simp [e0]
   have hmin : ∀ w ∈ wordsL A E [], farD w s ≤ 2 → farD w0 s ≤ farD w s := fun w hw hf => by
    have hin : (⟨w, farD w s⟩ : Gu) ∈ gsL (wordsL A E []) s 2 := (gsL_mem _ _ _ _).2 ⟨w, hw, hf, rfl⟩
    have hin2 := prm.mem_iff.2 hin
    rw [hG] at hin2 srt
    rcases List.mem_cons.1 hin2 with h | h
    ·have := congrArg (fun g : Gu => g.f1) h
     have : farD w s = farD w0 s := this
     omega
    ·have h4 := (List.pairwise_cons.1 srt).1 _ h
     rw [le_iff, impl_Guess.lf] at h4
     have h5 : ¬ farD w s < farD w0 s := fun h6 => h4 (.inl h6)
     omega
   have hmw : m = farD w0 s := by
    have h1 := l2 w0 hw0
    rcases l3 with h3 | ⟨w, hw, h3⟩
    ·omega
    ·have := hmin w hw (by omega)
     omega
   have h12 : m = 1 ∨ m = 2 := by
    have := hne w0 hw0
    have := f0 w0
    omega
   refine ⟨fun g hg => ?_, ⟨fun _ => h12, fun _ => ?_⟩⟩
   ·unfold bgL at hg
    have h1 := List.all_takeWhile (p := fun g : Gu => decide (g.f1 = (rd_T38 (allG A E s) 0).f1)) (l := allG A E s)
    rw [List.all_eq_true] at h1
    have h2 := of_decide_eq_true (h1 g hg)
    have h3 := memA g ((List.takeWhile_sublist _).subset hg)
    obtain ⟨w, hw, _, rfl⟩ := (gsL_mem _ _ _ _).1 h3
    exact ⟨by rw [h2, r0, hmw], (inB_iff _ _).2 hw⟩
   ·unfold bgL
    rw [r0, e0, List.takeWhile_cons, decide_eq_true (rfl : farD w0 s = farD w0 s)]
    simp
def Rdr (s : List Int) (p : Int) : Prop := s.length ≤ 2000 ∧ (∀ x ∈ s, 0 ≤ x ∧ x ≤ 255) ∧ 0 ≤ p ∧ p ≤ 1000000000000
theorem Rdr.at_ {s : List Int} {p : Int} (h : Rdr s p) (q : Int) (h0 : 0 ≤ q) (h1 : q ≤ 1000000000000) : Rdr s q := ⟨h.1, h.2.1, h0, h1⟩
theorem rd_range {s : List Int} (h : ∀ x ∈ s, 0 ≤ x ∧ x ≤ 255) (i : Int) : 0 ≤ rd s i ∧ rd s i ≤ 255 := by
 unfold rd
 rw [List.getD_eq_getElem?_getD]
 by_cases c : i.toNat < s.length
 ·rw [List.getElem?_eq_getElem c]
  exact h _ (List.getElem_mem c)
 ·rw [List.getElem?_eq_none (by omega)]
  simp
def pickY (a b p q : Int) : Int := wrap64 (wrap64 (wrap64 (wrap64 (wrap64 a * 131) + wrap64 (wrap64 b * 1117)) + wrap64 (p * 29)) + wrap64 (wrap64 q * 53))
def pickX (a b p q : Int) : Int := Go.bits .xor .i64 (pickY a b p q) (wrap64 (Int.tdiv (pickY a b p q) 64))
theorem pickX_pos (a b p q : Int) (ha : 0 ≤ a ∧ a ≤ 255) (hb : 0 ≤ b ∧ b ≤ 255) (h0 : 0 ≤ p) (h1 : p ≤ 1000000000000) (q0 : 0 ≤ q) (q1 : q ≤ p) : 0 ≤ pickX a b p q := by
 have e : pickY a b p q = a * 131 + b * 1117 + p * 29 + q * 53 := by
  unfold pickY
  rw [w6 (n := a), w6 (n := b), w6 (n := a * 131), w6 (n := b * 1117), w6 (n := p * 29), w6 (n := q), w6 (n := q * 53), w6 (n := a * 131 + b * 1117), w6 (n := a * 131 + b * 1117 + p * 29), w6 (n := a * 131 + b * 1117 + p * 29 + q * 53)]
 unfold pickX
 rw [e]
 have x0 : 0 ≤ a * 131 + b * 1117 + p * 29 + q * 53 := by omega
 have x1 : a * 131 + b * 1117 + p * 29 + q * 53 < 4611686018427387904 := by omega
 generalize a * 131 + b * 1117 + p * 29 + q * 53 = x at *
 have t0 := Int.tdiv_nonneg x0 (show (0 : Int) ≤ 64 from by omega)
 have t1 : Int.tdiv x 64 ≤ x := Int.tdiv_le_self 64 x0
 rw [w6 (n := Int.tdiv x 64)]
 exact xor_small x (Int.tdiv x 64) x0 x1 t0 (by omega)
theorem pick_ev {s : List Int} {p : Int} (h : Rdr s p) (n : Int) (hn : n ≤ 1000000000000000) : ∃ v, Ev (fun k => spec_l1Rd_pick.f k s p n) (v, p + 1) ∧ 0 ≤ v ∧ (v < n ∨ v = 0) := by
 obtain ⟨hl, hb, hp0, hp1⟩ := h
 have hr := rd_range hb
 unfold spec_l1Rd_pick.f
 rw [w6 (n := p + 1)]
 by_cases c : n < 1
 ·exact ⟨0, evPos c (Ev.step (fun k => spec_l1Rd_pick.j0.eq_2 _ _ _ _ _) (evPos rfl (Ev.now _))), by omega, .inr rfl⟩
 by_cases e : s.length = 0
 ·exact ⟨0, evNeg c (Ev.step (fun k => spec_l1Rd_pick.j0.eq_2 _ _ _ _ _) (evPos (by simp [e]) (Ev.now _))), by omega, .inr rfl⟩
 have hlen : 0 < (s.length : Int) := by omega
 have wr (i : Int) : wrap64 (rd s i) = rd s i := w64 (by have := (hr i).1; omega) (by have := (hr i).2; omega)
 by_cases c2 : p < (s.length : Int)
 ·have h1 := hr p
  refine ⟨Int.tmod (rd s p) n, evNeg c (Ev.step (fun k => spec_l1Rd_pick.j0.eq_2 _ _ _ _ _) (evNeg (by simpa using e) ?_)), Int.tmod_nonneg _ h1.1, .inl (Int.tmod_lt_of_pos _ (by omega))⟩
  rw [show p + 1 - 1 = p from by omega, w6 (n := p), wr]
  exact evPos c2 (evPos hp0 (eN (Ev.now _)))
 have m1 := Int.tmod_nonneg (s.length : Int) hp0
 have m2 := Int.tmod_lt_of_pos p hlen
 have m3 := Int.tmod_nonneg (s.length : Int) (show 0 ≤ p * 7 + 3 from by omega)
 have m4 := Int.tmod_lt_of_pos (p * 7 + 3) hlen
 have d1 := Int.tdiv_nonneg hp0 (show 0 ≤ (s.length : Int) from by omega)
 have d2 : Int.tdiv p (s.length : Int) ≤ p := Int.tdiv_le_self (s.length : Int) hp0
 have hz := pickX_pos (rd s (Int.tmod p (s.length : Int))) (rd s (Int.tmod (p * 7 + 3) (s.length : Int))) p (Int.tdiv p (s.length : Int)) (hr _) (hr _) hp0 hp1 d1 d2
 refine ⟨Int.tmod (pickX (rd s (Int.tmod p (s.length : Int))) (rd s (Int.tmod (p * 7 + 3) (s.length : Int))) p (Int.tdiv p (s.length : Int))) n, evNeg c (Ev.step (fun k => spec_l1Rd_pick.j0.eq_2 _ _ _ _ _) (evNeg (by simpa using e) ?_)), Int.tmod_nonneg _ hz, .inl (Int.tmod_lt_of_pos _ (by omega))⟩
 rw [show p + 1 - 1 = p from by omega, w6 (n := p), w6 (n := p * 7), w6 (n := p * 7 + 3)]
 exact evNeg c2 (eN (evPos m1 (evPos m2 (evPos m3 (evPos m4 (eN (Ev.now _)))))))
theorem of_ev {s : List Int} {p : Int} (h : Rdr s p) (l : List ByteArray) (h0 : 0 < l.length) (h1 : l.length ≤ 1000000) : ∃ x ∈ l, Ev (fun k => spec_l1Rd_of.f k s p l) (x, p + 1) := by
 obtain ⟨v, hv, v0, v1⟩ := pick_ev h (l.length : Int) (by omega)
 have v2 : v < (l.length : Int) := by omega
 have hl : v.toNat < l.length := by omega
 refine ⟨l[v.toNat], List.getElem_mem hl, ?_⟩
 unfold spec_l1Rd_of.f
 refine Ev.bind hv (evPos v0 (evPos v2 (evTo (Ev.now _) ?_)))
 simp [rdOf, List.getD_eq_getElem?_getD, List.getElem?_eq_getElem hl]
theorem open_ev (l : List Int) (h : ∀ x ∈ l, (Lit.int .u8 x).wf = true) : ∃ s, spec_l1Open.f l = some (s, 0) ∧ Rdr s 0 := by
 have hb : ∀ x ∈ l, 0 ≤ x ∧ x ≤ 255 := by
  intro x hx
  have := h x hx
  simp [Lit.wf, IntKind.min, IntKind.max, IntKind.signed, IntKind.bits] at this
  omega
 unfold spec_l1Open.f
 by_cases c : (l.length : Int) > 2000
 ·refine ⟨l.take 2000, by rw [if_pos c, if_pos (by omega)], ?_, fun x hx => hb x (List.mem_of_mem_take hx), by omega, by omega⟩
  rw [List.length_take]
  omega
 ·exact ⟨l, by rw [if_neg c], by omega, hb, by omega, by omega⟩
theorem word13_loop {s : List Int} (d : Nat) : ∀ (x : ByteArray) (n p : Int), Rdr s p → p + d ≤ 1000000000000 → n = d → x.size + 2 * d ≤ 1000000 →
  ∃ r p', Ev (fun k => spec_l13Word.l0 k x n s p) (r, p') ∧ r.size ≤ 12 ∧ p ≤ p' ∧ p' ≤ p + d := by
 induction d with
 | zero =>
  intro x n p h hp hn hx
  refine ⟨x.extract 0 (min x.size 12), p, Ev.step (fun k => spec_l13Word.l0.eq_2 _ _ _ _ _) (eN (evCall (least_spec _ _) ?_)), ?_, by omega, by omega⟩
  ·refine eP (eP (evTo (Ev.now _) ?_))
   congr 3
   omega
  ·rw [size_extract _ _ _ (by omega) (by omega)]
   omega
 | succ d ih =>
  intro x n p h hp hn hx
  have hls : ∀ y ∈ ([(⟨#[97]⟩ : ByteArray), (⟨#[98]⟩ : ByteArray), (⟨#[99]⟩ : ByteArray), (⟨#[97, 98]⟩ : ByteArray), (⟨#[116]⟩ : ByteArray)] : List ByteArray), y.size ≤ 2 := by
   intro y hy
   simp only [List.mem_cons, List.not_mem_nil, or_false] at hy
   rcases hy with rfl | rfl | rfl | rfl | rfl <;> decide
  obtain ⟨y, hy, he⟩ := of_ev h ([(⟨#[97]⟩ : ByteArray), (⟨#[98]⟩ : ByteArray), (⟨#[99]⟩ : ByteArray), (⟨#[97, 98]⟩ : ByteArray), (⟨#[116]⟩ : ByteArray)] : List ByteArray) (by simp) (by simp)
  have hy2 := hls y hy
  obtain ⟨r, p', hr, h1, h2, h3⟩ := ih (x ++ y) (n - 1) (p + 1) (h.at_ _ (by have := h.2.2.1; omega) (by omega)) (by omega) (by omega) (by rw [size_append]; omega)
  refine ⟨r, p', Ev.step (fun k => spec_l13Word.l0.eq_2 _ _ _ _ _) (eP (Ev.bind he (evPos (by dsimp only; omega) ?_))), h1, by omega, by omega⟩
  rw [w6]
  exact hr
theorem word13_ev {s : List Int} {p : Int} (h : Rdr s p) (hp : p ≤ 999999999900) : ∃ r p', Ev (fun k => spec_l13Word.f k s p) (r, p') ∧ r.size ≤ 12 ∧ p ≤ p' ∧ p' ≤ p + 10 := by
 have h0 := h.2.2.1
 obtain ⟨v, hv, v0, v1⟩ := pick_ev h 3 (by omega)
 unfold spec_l13Word.f
 by_cases c : v = 0
 ·obtain ⟨u, hu, u0, u1⟩ := pick_ev (h.at_ (p + 1) (by omega) (by omega)) 5 (by omega)
  obtain ⟨d, hd⟩ := Int.eq_ofNat_of_zero_le (show 0 ≤ 1 + u from by omega)
  obtain ⟨r, p', hr, h1, h2, h3⟩ := word13_loop d (⟨#[]⟩ : ByteArray) (1 + u) (p + 1 + 1) (h.at_ _ (by omega) (by omega)) (by omega) hd (by have : (⟨#[]⟩ : ByteArray).size = 0 := rfl; omega)
  refine ⟨r, p', Ev.bind hv (evPos c (Ev.bind hu ?_)), h1, by omega, by omega⟩
  rw [w64 (by dsimp only; omega) (by dsimp only; omega)]
  exact hr
 ·obtain ⟨y, hy, he⟩ := of_ev (h.at_ (p + 1) (by omega) (by omega)) ([(⟨#[99, 97, 116]⟩ : ByteArray), (⟨#[99, 97, 116, 115]⟩ : ByteArray), (⟨#[97, 99, 116]⟩ : ByteArray), (⟨#[100, 111]⟩ : ByteArray), (⟨#[100, 111, 105, 110, 103]⟩ : ByteArray), (⟨#[103, 111]⟩ : ByteArray), (⟨#[117, 110, 100, 111]⟩ : ByteArray), (⟨#[116, 114, 121]⟩ : ByteArray), (⟨#[116, 114, 105, 101, 115]⟩ : ByteArray), (⟨#[97]⟩ : ByteArray), (⟨#[98, 97, 107, 101]⟩ : ByteArray), (⟨#[98, 97, 107, 105, 110, 103]⟩ : ByteArray), (⟨#[116, 97, 99, 116]⟩ : ByteArray), (⟨#[99, 97, 114, 116]⟩ : ByteArray), (⟨#[97, 98, 99, 97, 98, 99, 97, 98, 99, 97, 98, 99]⟩ : ByteArray)] : List ByteArray) (by simp) (by simp)
  refine ⟨y, p + 1 + 1, Ev.bind hv (evNeg c (Ev.bind he (Ev.now _))), ?_, by omega, by omega⟩
  simp only [List.mem_cons, List.not_mem_nil, or_false] at hy
  rcases hy with rfl | rfl | rfl | rfl | rfl | rfl | rfl | rfl | rfl | rfl | rfl | rfl | rfl | rfl | rfl <;> decide
theorem any13_ev {s : List Int} {p : Int} (h : Rdr s p) (hp : p ≤ 999999999800) : ∃ r p', Ev (fun k => spec_l13AnyWord.f k s p) (r, p') ∧ r.size ≤ 13 ∧ p ≤ p' ∧ p' ≤ p + 11 := by
 have h0 := h.2.2.1
 obtain ⟨v, hv, v0, v1⟩ := pick_ev h 16 (by omega)
 unfold spec_l13AnyWord.f
 by_cases c : v = 0
 ·obtain ⟨y, hy, he⟩ := of_ev (h.at_ (p + 1) (by omega) (by omega)) ([(⟨#[]⟩ : ByteArray), (⟨#[67, 97, 116]⟩ : ByteArray), (⟨#[97, 32, 98]⟩ : ByteArray), (⟨#[97, 98, 99, 97, 98, 99, 97, 98, 99, 97, 98, 99, 97]⟩ : ByteArray), (⟨#[120, 49]⟩ : ByteArray), (⟨#[45]⟩ : ByteArray)] : List ByteArray) (by simp) (by simp)
  refine ⟨y, p + 1 + 1, Ev.bind hv (evPos c (Ev.bind he (Ev.now _))), ?_, by omega, by omega⟩
  simp only [List.mem_cons, List.not_mem_nil, or_false] at hy
  rcases hy with rfl | rfl | rfl | rfl | rfl | rfl <;> decide
 ·obtain ⟨r, p', hr, h1, h2, h3⟩ := word13_ev (h.at_ (p + 1) (by omega) (by omega)) (by omega)
  exact ⟨r, p', Ev.bind hv (evNeg c (Ev.bind hr (Ev.now _))), by omega, by omega, by omega⟩
abbrev AfZ (a : Af) : Prop := a.f0.size ≤ 13 ∧ a.f2.size ≤ 13 ∧ a.f3.size ≤ 13 ∧ a.f4.size ≤ 13
abbrev AfY (a : Af) : Prop := AfZ a ∧ affOk a.f0 a.f1 a.f2 a.f3 a.f4 = true
abbrev EnZ (e : En) : Prop := e.f0.size ≤ 13 ∧ e.f1.size ≤ 5
theorem affix13_ev {s : List Int} {p : Int} (h : Rdr s p) : ∃ g fr st ad wh, Ev (fun k => spec_l13Affix.f k s p) (g, fr, st, ad, wh, p + 1) ∧ AfY ⟨g, fr, st, ad, wh⟩ := by
 unfold spec_l13Affix.f AfY AfZ
 obtain ⟨v, hv, v0, v1⟩ := pick_ev h 8 (by omega)
 have hs : v = 0 ∨ v = 1 ∨ v = 2 ∨ v = 3 ∨ v = 4 ∨ v = 5 ∨ v = 6 ∨ v = 7 := by omega
 refine ⟨_, _, _, _, _, evCall rfl (Ev.bind hv (evPos v0 (evPos (by simp only [List.length]; omega) (Ev.now _)))), ?_⟩
 rcases hs with rfl | rfl | rfl | rfl | rfl | rfl | rfl | rfl <;> exact ⟨by dsimp only; decide, by dsimp only; decide⟩
theorem anyAffix_ev {s : List Int} {p : Int} (h : Rdr s p) (hp : p ≤ 999999999000) : ∃ g fr st ad wh p', Ev (fun k => spec_l13AnyAffix.f k s p) (g, fr, st, ad, wh, p') ∧ AfZ ⟨g, fr, st, ad, wh⟩ ∧ p ≤ p' ∧ p' ≤ p + 10 := by
 have h0 := h.2.2.1
 obtain ⟨g, fr, st, ad, wh, he, ⟨z0, z1, z2, z3⟩, _⟩ := affix13_ev h
 obtain ⟨v, hv, v0, v1⟩ := pick_ev (h.at_ (p + 1) (by omega) (by omega)) 12 (by omega)
 have h2 := h.at_ (p + 1 + 1) (by omega) (by omega)
 unfold spec_l13AnyAffix.f
 by_cases c0 : v = 0
 ·obtain ⟨y, hy, hy2⟩ := of_ev h2 ([(⟨#[]⟩ : ByteArray), (⟨#[115]⟩ : ByteArray), (⟨#[65, 66]⟩ : ByteArray), (⟨#[90]⟩ : ByteArray)] : List ByteArray) (by simp) (by simp)
  refine ⟨y, fr, st, ad, wh, p + 1 + 1 + 1, Ev.bind he (Ev.bind hv (evPos c0 (Ev.bind hy2 (Ev.now _)))), ⟨?_, z1, z2, z3⟩, by omega, by omega⟩
  simp only [List.mem_cons, List.not_mem_nil, or_false] at hy
  rcases hy with rfl | rfl | rfl | rfl <;> (dsimp only; decide)
 by_cases c1 : v = 1
 ·obtain ⟨y, hy, hy2⟩ := of_ev h2 ([(⟨#[121]⟩ : ByteArray), (⟨#[97, 98, 99, 100, 101]⟩ : ByteArray), (⟨#[]⟩ : ByteArray), (⟨#[89]⟩ : ByteArray)] : List ByteArray) (by simp) (by simp)
  refine ⟨g, fr, y, ad, wh, p + 1 + 1 + 1, Ev.bind he (Ev.bind hv (evNeg c0 (evPos c1 (Ev.bind hy2 (Ev.now _))))), ⟨z0, ?_, z2, z3⟩, by omega, by omega⟩
  simp only [List.mem_cons, List.not_mem_nil, or_false] at hy
  rcases hy with rfl | rfl | rfl | rfl <;> (dsimp only; decide)
 by_cases c2 : v = 2
 ·obtain ⟨y, hy, hy2⟩ := of_ev h2 ([(⟨#[121]⟩ : ByteArray), (⟨#[116, 121]⟩ : ByteArray), (⟨#[97, 98, 99, 100, 101]⟩ : ByteArray), (⟨#[]⟩ : ByteArray)] : List ByteArray) (by simp) (by simp)
  refine ⟨g, fr, st, ad, y, p + 1 + 1 + 1, Ev.bind he (Ev.bind hv (evNeg c0 (evNeg c1 (evPos c2 (Ev.bind hy2 (Ev.now _)))))), ⟨z0, z1, z2, ?_⟩, by omega, by omega⟩
  simp only [List.mem_cons, List.not_mem_nil, or_false] at hy
  rcases hy with rfl | rfl | rfl | rfl <;> (dsimp only; decide)
 by_cases c3 : v = 3
 ·exact ⟨g, !fr, st, ad, wh, p + 1 + 1, Ev.bind he (Ev.bind hv (evNeg c0 (evNeg c1 (evNeg c2 (evPos c3 (Ev.now _)))))), ⟨z0, z1, z2, z3⟩, by omega, by omega⟩
 ·exact ⟨g, fr, st, ad, wh, p + 1 + 1, Ev.bind he (Ev.bind hv (evNeg c0 (evNeg c1 (evNeg c2 (evNeg c3 (Ev.now _)))))), ⟨z0, z1, z2, z3⟩, by omega, by omega⟩
theorem entry13_ev {s : List Int} {p : Int} (h : Rdr s p) (w : ByteArray) : ∃ fl, Ev (fun k => spec_l13Entry.f k s p w) (w, fl, p + 1) ∧ fl.size ≤ 5 := by
 obtain ⟨y, hy, he⟩ := of_ev h ([(⟨#[]⟩ : ByteArray), (⟨#[]⟩ : ByteArray), (⟨#[83]⟩ : ByteArray), (⟨#[71, 83]⟩ : ByteArray), (⟨#[85]⟩ : ByteArray), (⟨#[71, 85]⟩ : ByteArray), (⟨#[82]⟩ : ByteArray), (⟨#[84]⟩ : ByteArray), (⟨#[67, 82, 83, 85]⟩ : ByteArray)] : List ByteArray) (by simp) (by simp)
 unfold spec_l13Entry.f
 refine ⟨y, Ev.bind he (Ev.now _), ?_⟩
 simp only [List.mem_cons, List.not_mem_nil, or_false] at hy
 rcases hy with rfl | rfl | rfl | rfl | rfl | rfl | rfl | rfl | rfl <;> decide
theorem affixes_known (s : List Int) (p : Int) (out : List Af) (n : Int) (g : ByteArray) (fr : Bool) (st ad wh : ByteArray) (hl : out.length ≤ 1000) (d : Nat) : ∀ (i : Nat) (b : Bool), i + d = out.length →
  ∃ c : Bool, ∀ r, Ev (fun k => if c = true then spec_l13Affixes.l0 k out (wrap64 (n - 1)) s p else spec_l13Affixes.l0 k (out ++ [⟨g, fr, st, ad, wh⟩]) (wrap64 (n - 1)) s p) r → Ev (fun k => spec_l13Affixes.l1 k out n b (i : Int) s p g fr st ad wh) r := by
 induction d with
 | zero =>
  intro i b hi
  refine ⟨b, fun r hr => Ev.step (fun k => spec_l13Affixes.l1.eq_2 ..) (eN ?_)⟩
  cases b with
  | true => exact evPos rfl (by simpa using hr)
  | false => exact evNeg (by simp) (eP (by simpa using hr))
 | succ d ih =>
  intro i b hi
  have e : wrap64 ((i : Int) + 1) = ((i + 1 : Nat) : Int) := w6
  cases b with
  | true =>
   obtain ⟨c, hc⟩ := ih (i + 1) true (by omega)
   refine ⟨c, fun r hr => Ev.step (fun k => spec_l13Affixes.l1.eq_2 ..) (eP (evPos rfl ?_))⟩
   rw [e]
   exact hc r hr
  | false =>
   obtain ⟨c, hc⟩ := ih (i + 1) _ (by omega)
   refine ⟨c, fun r hr => Ev.step (fun k => spec_l13Affixes.l1.eq_2 ..) (eP (evNeg (by simp) (eP ?_)))⟩
   rw [e]
   exact hc r hr
theorem affixes_loop {s : List Int} (d : Nat) : ∀ (out : List Af) (n p : Int), Rdr s p → p + d ≤ 1000000000000 → n = d → out.length + d ≤ 4 → (∀ a ∈ out, AfY a) →
  ∃ A p', Ev (fun k => spec_l13Affixes.l0 k out n s p) (A, p') ∧ A.length ≤ 4 ∧ (∀ a ∈ A, AfY a) ∧ p ≤ p' ∧ p' ≤ p + d := by
 induction d with
 | zero =>
  intro out n p h hp hn hl hz
  exact ⟨out, p, Ev.step (fun k => spec_l13Affixes.l0.eq_2 ..) (eN (Ev.now _)), by omega, hz, by omega, by omega⟩
 | succ d ih =>
  intro out n p h hp hn hl hz
  have h0 := h.2.2.1
  obtain ⟨g, fr, st, ad, wh, he, hg⟩ := affix13_ev h
  obtain ⟨c, hc⟩ := affixes_known s (p + 1) out n g fr st ad wh (by omega) out.length 0 false (by omega)
  have hr : Rdr s (p + 1) := h.at_ _ (by omega) (by omega)
  have ew : wrap64 (n - 1) = n - 1 := w6
  rw [ew] at hc
  cases c with
  | true =>
   obtain ⟨A, p', h1, h2, h3, h4, h5⟩ := ih out (n - 1) (p + 1) hr (by omega) (by omega) (by omega) hz
   exact ⟨A, p', Ev.step (fun k => spec_l13Affixes.l0.eq_2 ..) (eP (Ev.bind he (hc _ (by simpa using h1)))), h2, h3, by omega, by omega⟩
  | false =>
   obtain ⟨A, p', h1, h2, h3, h4, h5⟩ := ih (out ++ [⟨g, fr, st, ad, wh⟩]) (n - 1) (p + 1) hr (by omega) (by omega) (by simp; omega) (fun a ha => by
    rcases List.mem_append.1 ha with ha | ha
    ·exact hz a ha
    ·rw [List.mem_singleton.1 ha]
     exact hg)
   exact ⟨A, p', Ev.step (fun k => spec_l13Affixes.l0.eq_2 ..) (eP (Ev.bind he (hc _ (by simpa using h1)))), h2, h3, by omega, by omega⟩
theorem affixes13_ev {s : List Int} {p : Int} (h : Rdr s p) (hp : p ≤ 999999999000) : ∃ A p', Ev (fun k => spec_l13Affixes.f k s p) (A, p') ∧ A.length ≤ 4 ∧ (∀ a ∈ A, AfY a) ∧ p ≤ p' ∧ p' ≤ p + 5 := by
 have h0 := h.2.2.1
 obtain ⟨v, hv, v0, v1⟩ := pick_ev h 5 (by omega)
 obtain ⟨d, hd⟩ := Int.eq_ofNat_of_zero_le v0
 have hd4 : d ≤ 4 := by
  rcases v1 with v1 | v1 <;> omega
 obtain ⟨A, p', h1, h2, h3, h4, h5⟩ := affixes_loop (s := s) d [] v (p + 1) (h.at_ _ (by omega) (by omega)) (by omega) hd (by simpa using hd4) (by simp)
 unfold spec_l13Affixes.f
 exact ⟨A, p', Ev.bind hv h1, h2, h3, by omega, by omega⟩
theorem nodup_le {α : Type} [DecidableEq α] : ∀ (l k : List α), l.Nodup → (∀ x ∈ l, x ∈ k) → l.length ≤ k.length
 | [], _, _, _ => by simp
 | x :: l, k, hn, hs => by
  have hx := hs x (by simp)
  have hn' := List.nodup_cons.1 hn
  have := nodup_le l (k.erase x) hn'.2 (fun y hy => by
   have hne : y ≠ x := fun e => hn'.1 (e ▸ hy)
   exact (List.mem_erase_of_ne hne).2 (hs y (by simp [hy])))
  rw [List.length_erase_of_mem hx] at this
  have : 0 < k.length := List.length_pos_of_mem hx
  rw [List.length_cons]
  omega
def fillW (j : Nat) : ByteArray := (⟨#[119]⟩ : ByteArray) ++ strOfNums [(wrap64 (97 + (j : Int))) % 256]
theorem fillW_size (j : Nat) : (fillW j).size = 2 := by
 unfold fillW
 rw [size_append]
 rfl
theorem fillW_inj {i j : Nat} (hi : i < 24) (hj : j < 24) (h : fillW i = fillW j) : i = j := by
 have hb : ∀ n : Nat, n < 24 → (fillW n).data.toList = [119, UInt8.ofNat (97 + n)] := by
  intro n hn
  unfold fillW
  rw [w6, show ((97 + (n : Int)) % 256) = ((97 + n : Nat) : Int) from by omega]
  rw [ByteArray.data_append, Array.toList_append]
  show [119] ++ [UInt8.ofNat ((97 + n : Nat) : Int).toNat] = _
  rw [Int.toNat_natCast]
  rfl
 have h1 := hb i hi
 rw [h, hb j hj] at h1
 simp only [List.cons.injEq, true_and, and_true] at h1
 have h2 := congrArg UInt8.toNat h1
 simp only [UInt8.toNat_ofNat'] at h2
 omega
abbrev WZ (ws : List ByteArray) : Prop := ∀ w ∈ ws, w.size ≤ 13
theorem putL_WZ {ws : List ByteArray} {w : ByteArray} (h : WZ ws) (hw : w.size ≤ 13) : WZ (putL ws w) := by
 intro x hx
 rcases (putL_mem ws w x).1 hx with hx | hx
 ·exact h x hx
 ·rw [hx]
  exact hw
theorem ents_draw {s : List Int} (A : List Af) (ws : List ByteArray) (hl : ws.length ≤ 100) (hz : WZ ws) (d : Nat) : ∀ (i : Nat) (E : List En) (p : Int), i + d = ws.length → Rdr s p → p + d ≤ 1000000000000 → E.length = i → (∀ e ∈ E, EnZ e) →
  ∃ E' p', Ev (fun k => spec_l13Book.l2 k ws (i : Int) s p A E) (A, E', p') ∧ E'.length = ws.length ∧ (∀ e ∈ E', EnZ e) ∧ p ≤ p' ∧ p' ≤ p + d := by
 induction d with
 | zero =>
  intro i E p hi h hp hE he
  exact ⟨E, p, Ev.step (fun k => spec_l13Book.l2.eq_2 ..) (eN (Ev.now _)), by omega, he, by omega, by omega⟩
 | succ d ih =>
  intro i E p hi h hp hE he
  have h0 := h.2.2.1
  have hlt : i < ws.length := by omega
  obtain ⟨fl, hf, hf2⟩ := entry13_ev h ws[i]
  obtain ⟨E', p', h1, h2, h3, h4, h5⟩ := ih (i + 1) (E ++ [⟨ws[i], fl⟩]) (p + 1) (by omega) (h.at_ _ (by omega) (by omega)) (by omega) (by simp [hE]) (fun e he' => by
   rcases List.mem_append.1 he' with he' | he'
   ·exact he e he'
   ·rw [List.mem_singleton.1 he']
    exact ⟨hz _ (List.getElem_mem hlt), hf2⟩)
  refine ⟨E', p', Ev.step (fun k => spec_l13Book.l2.eq_2 ..) (eP (eP ?_)), h2, h3, by omega, by omega⟩
  rw [ba_get ws i hlt, w6 (n := (i : Int) + 1)]
  exact Ev.bind hf (evPos (by omega) h1)
theorem fill_loop {s : List Int} {p : Int} (A : List Af) {Q : List En → Int → Prop} (fin : ∀ ws : List ByteArray, ws.length ≤ 24 → WZ ws → ∃ E p', Ev (fun k => spec_l13Book.j2 k ws s p A) (A, E, p') ∧ Q E p') (d : Nat) : ∀ (j : Nat) (ws : List ByteArray), j + d = 24 → ws.length ≤ 24 → WZ ws → (∀ i, i < j → fillW i ∈ ws) →
  ∃ E p', Ev (fun k => spec_l13Book.l1 k ws (j : Int) s p A) (A, E, p') ∧ Q E p' := by
 have out : ∀ (j : Nat) (ws : List ByteArray), ¬ (ws.length : Int) < 24 → ws.length ≤ 24 → WZ ws → ∃ E p', Ev (fun k => spec_l13Book.l1 k ws (j : Int) s p A) (A, E, p') ∧ Q E p' := by
  intro j ws h1 h2 h3
  obtain ⟨E, p', h4, h5⟩ := fin ws (by omega) h3
  exact ⟨E, p', Ev.step (fun k => spec_l13Book.l1.eq_2 ..) (evNeg h1 h4), h5⟩
 induction d with
 | zero =>
  intro j ws hj hl hz hin
  refine out j ws ?_ hl hz
  have := nodup_le ((List.range 24).map fillW) ws (by
   rw [List.nodup_iff_pairwise_ne, List.pairwise_map]
   refine (List.nodup_range (n := 24)).imp_of_mem ?_
   intro a b ha hb hne e
   exact hne (fillW_inj (List.mem_range.1 ha) (List.mem_range.1 hb) e)) (fun x hx => by
    obtain ⟨i, hi, rfl⟩ := List.mem_map.1 hx
    exact hin i (by have := List.mem_range.1 hi; omega))
  simp only [List.length_map, List.length_range] at this
  omega
 | succ d ih =>
  intro j ws hj hl hz hin
  by_cases c : (ws.length : Int) < 24
  ·have hp := (putL_length ws (fillW j)).2
   obtain ⟨E, p', h4, h5⟩ := ih (j + 1) (putL ws (fillW j)) (by omega) (by omega) (putL_WZ hz (by rw [fillW_size]; omega)) (fun i hi => (putL_mem ws (fillW j) _).2 (by
    by_cases e : i = j
    ·exact .inr (by rw [e])
    ·exact .inl (hin i (by omega))))
   refine ⟨E, p', Ev.step (fun k => spec_l13Book.l1.eq_2 ..) (evPos c (evCall rfl (evPos ?_ (Ev.bind (put_ev ws (fillW j) (by omega)) ?_)))), h5⟩
   ·show 1 + (strOfNums [_]).size ≤ 9223372036854775807
    have : (strOfNums [(wrap64 (97 + (j : Int))) % 256]).size = 1 := rfl
    omega
   ·rw [w6 (n := (j : Int) + 1)]
    exact h4
  ·exact out j ws c hl hz
theorem book_words {s : List Int} (A : List Af) (d : Nat) : ∀ (ws : List ByteArray) (n p : Int), Rdr s p → p + 100 + 11 * d ≤ 999999999000 → n = d → ws.length + d ≤ 24 → WZ ws →
  ∃ E p', Ev (fun k => spec_l13Book.l0 k ws n s p A) (A, E, p') ∧ (E.length ≤ 24 ∧ (∀ e ∈ E, EnZ e)) ∧ p ≤ p' ∧ p' ≤ p + 200 + 11 * d := by
 induction d with
 | zero =>
  intro ws n p h hp hn hl hz
  have h0 := h.2.2.1
  obtain ⟨v, hv, v0, v1⟩ := pick_ev h 30 (by omega)
  have hr := h.at_ (p + 1) (by omega) (by omega)
  have fin : ∀ ws : List ByteArray, ws.length ≤ 24 → WZ ws → ∃ E p', Ev (fun k => spec_l13Book.j2 k ws s (p + 1) A) (A, E, p') ∧ (E.length ≤ 24 ∧ (∀ e ∈ E, EnZ e)) ∧ p ≤ p' ∧ p' ≤ p + 200 := by
   intro ws hl hz
   obtain ⟨E, p', h1, h2, h3, h4, h5⟩ := ents_draw (s := s) A ws (by omega) hz ws.length 0 [] (p + 1) (by omega) hr (by omega) rfl (by simp)
   exact ⟨E, p', Ev.step (fun k => spec_l13Book.j2.eq_2 ..) h1, ⟨by omega, h3⟩, by omega, by omega⟩
  by_cases c : v = 0
  ·have fin' : ∀ ws : List ByteArray, ws.length ≤ 24 → WZ ws → ∃ E p', Ev (fun k => spec_l13Book.j2 k ws s (p + 1) A) (A, E, p') ∧ ((E.length ≤ 24 ∧ (∀ e ∈ E, EnZ e)) ∧ p ≤ p' ∧ p' ≤ p + 200) := fin
   obtain ⟨E, p', h1, h2⟩ := fill_loop A fin' 24 0 ws (by omega) (by omega) hz (fun i hi => absurd hi (by omega))
   exact ⟨E, p', Ev.step (fun k => spec_l13Book.l0.eq_2 ..) (eN (Ev.bind hv (evPos c h1))), h2.1, h2.2.1, by have := h2.2.2; omega⟩
  ·obtain ⟨E, p', h1, h2, h3, h4⟩ := fin ws (by omega) hz
   exact ⟨E, p', Ev.step (fun k => spec_l13Book.l0.eq_2 ..) (eN (Ev.bind hv (evNeg c h1))), h2, h3, by omega⟩
 | succ d ih =>
  intro ws n p h hp hn hl hz
  have h0 := h.2.2.1
  obtain ⟨w, p1, hw, w1, w2, w3⟩ := word13_ev h (by omega)
  have hp2 := (putL_length ws w).2
  obtain ⟨E, p', h1, h2, h3, h4⟩ := ih (putL ws w) (n - 1) p1 (h.at_ _ (by omega) (by omega)) (by omega) (by omega) (by omega) (putL_WZ hz (by omega))
  refine ⟨E, p', Ev.step (fun k => spec_l13Book.l0.eq_2 ..) (eP (Ev.bind hw (Ev.bind (put_ev ws w (by omega)) ?_))), h2, by omega, by omega⟩
  rw [w6 (n := n - 1)]
  exact h1
theorem book13_ev {s : List Int} {p : Int} (h : Rdr s p) (hp : p ≤ 999999998000) : ∃ A E p', Ev (fun k => spec_l13Book.f k s p) (A, E, p') ∧ (A.length ≤ 4 ∧ (∀ a ∈ A, AfY a)) ∧ (E.length ≤ 24 ∧ (∀ e ∈ E, EnZ e)) ∧ p ≤ p' ∧ p' ≤ p + 300 := by
 have h0 := h.2.2.1
 obtain ⟨A, p1, h1, h2, h3, h4, h5⟩ := affixes13_ev h (by omega)
 have hr1 := h.at_ p1 (by omega) (by omega)
 obtain ⟨v, hv, v0, v1⟩ := pick_ev hr1 7 (by omega)
 obtain ⟨d, hd⟩ := Int.eq_ofNat_of_zero_le v0
 have hd6 : d ≤ 6 := by
  rcases v1 with v1 | v1 <;> omega
 obtain ⟨E, p', k1, k2, k3, k4⟩ := book_words (s := s) A d [] v (p1 + 1) (h.at_ _ (by omega) (by omega)) (by omega) hd (by simp; omega) (fun w hw => by cases hw)
 unfold spec_l13Book.f
 exact ⟨A, E, p', Ev.bind h1 (Ev.bind hv k1), ⟨h2, h3⟩, k2, by omega, by omega⟩
theorem anyBook_ev {s : List Int} {p : Int} (h : Rdr s p) (hp : p ≤ 999999997000) : ∃ A E p', Ev (fun k => spec_l13AnyBook.f k s p) (A, E, p') ∧ (A.length ≤ 5 ∧ (∀ a ∈ A, AfZ a)) ∧ (E.length ≤ 25 ∧ (∀ e ∈ E, EnZ e)) ∧ p ≤ p' ∧ p' ≤ p + 400 := by
 have h0 := h.2.2.1
 obtain ⟨A, E, p1, h1, ⟨a1, a2⟩, ⟨e1, e2⟩, h4, h5⟩ := book13_ev h (by omega)
 obtain ⟨v, hv, v0, v1⟩ := pick_ev (h.at_ p1 (by omega) (by omega)) 16 (by omega)
 have hr := h.at_ (p1 + 1) (by omega) (by omega)
 unfold spec_l13AnyBook.f
 by_cases c0 : v = 0
 ·obtain ⟨g, fr, st, ad, wh, p2, hg, hz, q1, q2⟩ := anyAffix_ev hr (by omega)
  refine ⟨A ++ [⟨g, fr, st, ad, wh⟩], E, p2, Ev.bind h1 (Ev.bind hv (evPos c0 (Ev.bind hg (evPos (by dsimp only; omega) (Ev.now _))))), ⟨by simp; omega, fun a ha => ?_⟩, ⟨by omega, e2⟩, by omega, by omega⟩
  rcases List.mem_append.1 ha with ha | ha
  ·exact (a2 a ha).1
  ·rw [List.mem_singleton.1 ha]
   exact hz
 by_cases c1 : v = 1
 ·obtain ⟨w, p2, hw, hz, q1, q2⟩ := any13_ev hr (by omega)
  obtain ⟨y, hy, he⟩ := of_ev (h.at_ p2 (by omega) (by omega)) ([(⟨#[]⟩ : ByteArray), (⟨#[83, 71]⟩ : ByteArray), (⟨#[115]⟩ : ByteArray), (⟨#[65, 66, 67, 68, 69]⟩ : ByteArray)] : List ByteArray) (by simp) (by simp)
  refine ⟨A, E ++ [⟨w, y⟩], p2 + 1, Ev.bind h1 (Ev.bind hv (evNeg c0 (evPos c1 (Ev.bind hw (Ev.bind he (evPos (by dsimp only; omega) (Ev.now _))))))), ⟨by omega, fun a ha => (a2 a ha).1⟩, ⟨by simp; omega, fun e he' => ?_⟩, by omega, by omega⟩
  rcases List.mem_append.1 he' with he' | he'
  ·exact e2 e he'
  ·rw [List.mem_singleton.1 he']
   refine ⟨hz, ?_⟩
   simp only [List.mem_cons, List.not_mem_nil, or_false] at hy
   rcases hy with rfl | rfl | rfl | rfl <;> (dsimp only; decide)
 by_cases c2 : v = 2
 ·by_cases c3 : (E.length : Int) > 0
  ·obtain ⟨y, hy, he⟩ := of_ev hr ([(⟨#[]⟩ : ByteArray), (⟨#[122, 122]⟩ : ByteArray), (⟨#[65]⟩ : ByteArray)] : List ByteArray) (by simp) (by simp)
   have hlt : 0 < E.length := by omega
   refine ⟨A, E.set (0 : Int).toNat ⟨y, (rd_T51 E 0).f1⟩, p1 + 1 + 1, Ev.bind h1 (Ev.bind hv (evNeg c0 (evNeg c1 (evPos c2 (evPos c3 (Ev.bind he (evPos (by dsimp only; omega) (Ev.now _)))))))), ⟨by omega, fun a ha => (a2 a ha).1⟩, ⟨by simp; omega, fun e he' => ?_⟩, by omega, by omega⟩
   rcases List.mem_or_eq_of_mem_set he' with he' | he'
   ·exact e2 e he'
   ·rw [he']
    have e0 : rd_T51 E 0 = E[0] := by simp [rd_T51, List.getD_eq_getElem?_getD, hlt]
    rw [e0]
    refine ⟨?_, (e2 _ (List.getElem_mem hlt)).2⟩
    simp only [List.mem_cons, List.not_mem_nil, or_false] at hy
    rcases hy with rfl | rfl | rfl <;> (dsimp only; decide)
  ·exact ⟨A, E, p1 + 1, Ev.bind h1 (Ev.bind hv (evNeg c0 (evNeg c1 (evPos c2 (evNeg c3 (Ev.now _)))))), ⟨by omega, fun a ha => (a2 a ha).1⟩, ⟨by omega, e2⟩, by omega, by omega⟩
 ·exact ⟨A, E, p1 + 1, Ev.bind h1 (Ev.bind hv (evNeg c0 (evNeg c1 (evNeg c2 (Ev.now _))))), ⟨by omega, fun a ha => (a2 a ha).1⟩, ⟨by omega, e2⟩, by omega, by omega⟩
theorem bkSz_of {A : List Af} {E : List En} (ha : A.length ≤ 5) (hz : ∀ a ∈ A, AfZ a) (he : E.length ≤ 25) (hy : ∀ e ∈ E, EnZ e) : BkSz A E := by
 refine ⟨by omega, by omega, fun s hs => ?_, fun s hs => ?_⟩
 ·have := hz s hs
  unfold AfZ at this
  omega
 ·have := hy s hs
  unfold EnZ at this
  omega
theorem of13_ev {s : List Int} {p : Int} (h : Rdr s p) (hp : p ≤ 999999990000) (A : List Af) (E : List En) (hb : BkSz A E) : ∃ x p', Ev (fun k => spec_l13Of.f k s p A E) (x, p') ∧ x.size ≤ 13 ∧ p ≤ p' ∧ p' ≤ p + 50 := by
 have h0 := h.2.2.1
 have ok := bookOk_spec A E hb
 have no : ∀ q : Int, Rdr s q → q ≤ 999999999000 → ∃ x p', Ev (fun k => spec_l13Of.j0 k false s q A E) (x, p') ∧ x.size ≤ 13 ∧ q ≤ p' ∧ p' ≤ q + 40 := by
  intro q hq hq2
  obtain ⟨r, p', hr, h1, h2, h3⟩ := any13_ev hq (by omega)
  exact ⟨r, p', Ev.step (fun k => spec_l13Of.j0.eq_2 ..) (evNeg (by simp) (Ev.bind hr (Ev.now _))), h1, h2, by omega⟩
 unfold spec_l13Of.f
 by_cases e : bookB A E = true
 ·rw [e] at ok
  obtain ⟨v, hv, v0, v1⟩ := pick_ev h 2 (by omega)
  have hr1 := h.at_ (p + 1) (by omega) (by omega)
  by_cases c : v = 0
  ·simp only [bookB, Bool.and_eq_true] at e
   obtain ⟨h1, h2⟩ := affs_all e.1
   have h3 := ents_all e.2
   have hw := l2Words_ev A E h1 h2 hb.e h3.2
   have hlen := wordsL_length h2 E
   by_cases c2 : ((wordsL A E []).length : Int) > 0
   ·obtain ⟨u, hu, u0, u1⟩ := pick_ev hr1 ((wordsL A E []).length : Int) (by omega)
    obtain ⟨i, rfl⟩ := Int.eq_ofNat_of_zero_le u0
    have hi : i < (wordsL A E []).length := by omega
    obtain ⟨en, hen, hm⟩ := (wordsL_mem A E _).1 (List.getElem_mem hi)
    have hwd := forms_words (fl := en.f1) (ent_word (h3.1 en hen)).1 _ hm
    have hsz := wordB_size hwd
    refine ⟨(wordsL A E [])[i], p + 1 + 1, Ev.bind ok (evPos rfl (Ev.bind hv (Ev.step (fun k => spec_l13Of.j0.eq_2 ..) (evPos (by simp [c]) (Ev.bind hw (evPos c2 (Ev.bind hu (eP (evPos (by dsimp only; omega) ?_))))))))), by omega, by omega, by omega⟩
    dsimp only
    rw [ba_get _ i hi]
    exact Ev.now _
   ·obtain ⟨r, p', hr, q1, q2, q3⟩ := any13_ev hr1 (by omega)
    exact ⟨r, p', Ev.bind ok (evPos rfl (Ev.bind hv (Ev.step (fun k => spec_l13Of.j0.eq_2 ..) (evPos (by simp [c]) (Ev.bind hw (evNeg c2 (Ev.bind hr (Ev.now _)))))))), q1, by omega, by omega⟩
  ·obtain ⟨x, p', hx, hz⟩ := no (p + 1) hr1 (by omega)
   have cb : (v == 0) = false := by simpa using c
   exact ⟨x, p', Ev.bind ok (evPos rfl (Ev.bind hv (by dsimp only; rw [cb]; exact hx))), hz.1, by omega, by omega⟩
 ·rw [Bool.not_eq_true] at e
  rw [e] at ok
  obtain ⟨x, p', hx, hz⟩ := no p h (by omega)
  exact ⟨x, p', Ev.bind ok (evNeg (by simp) hx), hz.1, by omega, by omega⟩
theorem step_ev (l : List ByteArray) (s x : ByteArray) (hl : l.length ≤ 1000000) (hx : x.size ≤ 140737488351232) : Ev (fun k => spec_l1Step.f k l s x) (stepL s l x) := by
 unfold spec_l1Step.f
 by_cases c : x = s
 ·exact evPos (by rw [c]) (Ev.step (fun k => spec_l1Step.j0.eq_2 _ _ _ _) (evPos rfl (evTo (Ev.now _) (by simp [stepL, c]))))
 ·refine evNeg (fun h => c ((toList_iff _ _).1 h)) (Ev.bind (l1Word_spec x hx) (Ev.step (fun k => spec_l1Step.j0.eq_2 _ _ _ _) ?_))
  cases e : wordB x with
  | false => exact evPos rfl (evTo (Ev.now _) (by simp [stepL, e]))
  | true => exact evNeg (by simp) (Ev.bind (put_ev l x hl) (evTo (Ev.now _) (by simp [stepL, c, e])))
theorem w32 {n : Int} (h0 : -2147483648 ≤ n) (h1 : n ≤ 2147483647) : wrap32 n = n := by
 unfold wrap32
 omega
theorem near_end {s : ByteArray} {i : Nat} {l r : List ByteArray} (h1 : i ≤ s.size) (hs : s.size ≤ 100) (hl : l.length ≤ 1000 * i + 900)
  (next : ∀ l' : List ByteArray, l' = (swpAt s i).foldl (stepL s) l → Ev (fun k => spec_l1Near.l0 k s l' ((i + 1 : Nat) : Int)) r) : Ev (fun k => spec_l1Near.j2 k s l (i : Int)) r := by
 refine Ev.step (fun k => spec_l1Near.j2.eq_2 _ _ _ _) ?_
 rw [w6 (n := (i : Int) + 1), w6 (n := (i : Int) + 2)]
 by_cases c : (i : Int) + 1 < s.size
 ·have e1 : ((i : Int) + 1).toNat = i + 1 := by omega
  have e2 : ((i : Int) + 2).toNat = i + 2 := by omega
  have z0 : (s.extract 0 i).size = i := by rw [size_extract _ _ _ (by omega) (by omega)]; omega
  have z1 : (s.extract (i + 1) (i + 2)).size = 1 := by rw [size_extract _ _ _ (by omega) (by omega)]; omega
  have z2 : (s.extract i (i + 1)).size = 1 := by rw [size_extract _ _ _ (by omega) (by omega)]; omega
  have z3 : (s.extract (i + 2) s.size).size = s.size - (i + 2) := size_extract _ _ _ (by omega) (Nat.le_refl _)
  rw [Int.toNat_natCast, e1, e2]
  refine evPos c (eP (eP (eP (eP (eP (eP (eP (eP (evPos ?_ (eP (evPos ?_ (Ev.bind (step_ev l s _ (by omega) ?_) ?_))))))))))))
  ·rw [size_append]; omega
  ·rw [size_append, size_append]; omega
  ·rw [size_append, size_append, size_append]; omega
  ·exact next _ (by rw [swpAt, if_pos (by omega)]; rfl)
 ·exact evNeg c (next _ (by rw [swpAt, if_neg (by omega)]; rfl))
theorem near_letters {s : ByteArray} {i : Nat} {r : List ByteArray} (h1 : i ≤ s.size) (hs : s.size ≤ 100)
  (d : Nat) : ∀ (c : Nat) (l : List ByteArray), 97 ≤ c → c + d = 123 → l.length ≤ 1000 * i + (123 - d) * 2 →
  (∀ l' : List ByteArray, l' = (lettersAt s i c ++ delAt s i).foldl (stepL s) l → l'.length ≤ 1000 * i + 900 → Ev (fun k => spec_l1Near.j2 k s l' (i : Int)) r) → Ev (fun k => spec_l1Near.l1 k s l (i : Int) (c : Int)) r := by
 have z0 : (s.extract 0 i).size = i := by rw [size_extract _ _ _ (by omega) (by omega)]; omega
 have z1 : (s.extract i s.size).size = s.size - i := size_extract _ _ _ (by omega) (Nat.le_refl _)
 induction d with
 | zero =>
  intro c l hc hd hl next
  refine Ev.step (fun k => spec_l1Near.l1.eq_2 _ _ _ _ _) (eN ?_)
  rw [lettersAt_end s i c (by omega), List.nil_append] at next
  by_cases q : (i : Int) < s.size
  ·have z2 : (s.extract (i + 1) s.size).size = s.size - (i + 1) := size_extract _ _ _ (by omega) (Nat.le_refl _)
   rw [w6 (n := (i : Int) + 1), Int.toNat_natCast, show ((i : Int) + 1).toNat = i + 1 from by omega]
   refine evPos q (eP (eP (eP (eP (eP (Ev.bind (step_ev l s _ (by omega) (by rw [size_append]; omega)) ?_))))))
   refine next _ (by rw [delAt, if_pos (by omega)]; rfl) ?_
   have := (stepL_length s l (s.extract 0 i ++ s.extract (i + 1) s.size)).2
   omega
  ·exact evNeg q (next _ (by rw [delAt, if_neg (by omega)]; rfl) (by omega))
 | succ d ih =>
  intro c l hc hd hl next
  refine Ev.step (fun k => spec_l1Near.l1.eq_2 _ _ _ _ _) (eP (eP (eP (evCall rfl ?_))))
  have zc : (strOfNums [(c : Int) % 256]).size = 1 := one_size _
  rw [Int.toNat_natCast]
  refine eP (evPos (by rw [size_append]; omega) (Ev.bind (step_ev l s _ (by omega) (by rw [size_append, size_append]; omega)) ?_))
  have hl1 := (stepL_length s l ((s.extract 0 i ++ strOfNums [(c : Int) % 256]) ++ s.extract i s.size)).2
  rw [w32 (by omega) (by omega)]
  rw [lettersAt_step s i c (by omega)] at next
  by_cases q : (i : Int) < s.size
  ·have z2 : (s.extract (i + 1) s.size).size = s.size - (i + 1) := size_extract _ _ _ (by omega) (Nat.le_refl _)
   rw [w6 (n := (i : Int) + 1), show ((i : Int) + 1).toNat = i + 1 from by omega]
   refine evPos q (evCall rfl (eP (eP (eP (evPos (by rw [size_append]; omega) (Ev.bind (step_ev _ s _ (by omega) (by rw [size_append, size_append]; omega)) ?_))))))
   have hl2 := (stepL_length s (stepL s l ((s.extract 0 i ++ strOfNums [(c : Int) % 256]) ++ s.extract i s.size)) ((s.extract 0 i ++ strOfNums [(c : Int) % 256]) ++ s.extract (i + 1) s.size)).2
   refine ih (c + 1) _ (by omega) (by omega) (by omega) (fun l' h' => next l' ?_)
   rw [h', letAt, if_pos (by omega)]
   rfl
  ·refine evNeg q (ih (c + 1) _ (by omega) (by omega) (by omega) (fun l' h' => next l' ?_))
   rw [h', letAt, if_neg (by omega)]
   rfl
theorem near_loop {s : ByteArray} (hs : s.size ≤ 100) (d : Nat) : ∀ (i : Nat) (l : List ByteArray), i + d = s.size + 1 → l.length ≤ 1000 * i → Ev (fun k => spec_l1Near.l0 k s l (i : Int)) ((candsFrom s i).foldl (stepL s) l) := by
 induction d with
 | zero =>
  intro i l hd hl
  rw [candsFrom_end s i (by omega)]
  exact Ev.step (fun k => spec_l1Near.l0.eq_2 _ _ _ _) (eN (Ev.now _))
 | succ d ih =>
  intro i l hd hl
  refine Ev.step (fun k => spec_l1Near.l0.eq_2 _ _ _ _) (eP ?_)
  refine near_letters (c := 97) (d := 26) (by omega) hs _ (by omega) (by omega) (by omega) (fun l1 e1 hl1 => near_end (by omega) hs hl1 (fun l2 e2 => ?_))
  refine evTo (ih (i + 1) l2 (by omega) ?_) ?_
  ·rw [e2]
   have h1 : ((swpAt s i).foldl (stepL s) l1).length ≤ l1.length + (swpAt s i).length := foldStep_length s _ _
   have h2 : (swpAt s i).length ≤ 1 := by unfold swpAt; split <;> simp
   omega
  ·rw [candsFrom_step s i (by omega), List.foldl_append, e2, e1, candsAt, List.foldl_append, List.foldl_append, List.foldl_append]
theorem near_ev (s : ByteArray) (hs : s.size ≤ 100) : Ev (fun k => spec_l1Near.f k s) (nearL s) :=
 near_loop hs (s.size + 1) 0 [] (by omega) (by simp)
theorem nth_near {s : ByteArray} (h : wordB s = true) (u v : Int) (hu : 0 ≤ u) (hu1 : u < 256) (hv : 0 ≤ v) (hv1 : v < 256) :
  ∃ j, Int.tmod (wrap64 (wrap64 (u * 256) + v)) ((nearL s).length : Int) = j ∧ ¬ ((nearL s).length : Int) = 0 ∧ 0 ≤ j ∧ j < ((nearL s).length : Int) ∧ wordB (rdOf ByteArray.empty (nearL s) j) = true := by
 have hne := nearL_some h
 have hp : 0 < (nearL s).length := List.length_pos_iff.2 hne
 rw [w6 (n := u * 256), w6 (n := u * 256 + v)]
 have j0 := Int.tmod_nonneg ((nearL s).length : Int) (show 0 ≤ u * 256 + v from by omega)
 have j1 := Int.tmod_lt_of_pos (u * 256 + v) (show 0 < ((nearL s).length : Int) from by omega)
 refine ⟨_, rfl, by omega, j0, j1, ?_⟩
 rw [rdOf_get _ _ j0 (by omega)]
 exact ((nearL_mem s _).1 (List.getElem_mem _)).2.2
theorem other_ev {t : List Int} {p : Int} (h : Rdr t p) (hp : p ≤ 999999999000) (s : ByteArray) (hs : s.size ≤ 100) : ∃ r p', Ev (fun k => spec_l13Other.f k t p s) (r, p') ∧ r.size ≤ 13 ∧ p ≤ p' ∧ p' ≤ p + 20 := by
 have h0 := h.2.2.1
 have no : ∀ q, p ≤ q → q ≤ p + 1 → ∃ r p', Ev (fun k => spec_l13Other.j0 k s false t q) (r, p') ∧ r.size ≤ 13 ∧ p ≤ p' ∧ p' ≤ p + 20 := by
  intro q q0 q1
  obtain ⟨r, p', h1, h2, h3, h4⟩ := any13_ev (h.at_ q (by omega) (by omega)) (by omega)
  exact ⟨r, p', Ev.step (fun k => spec_l13Other.j0.eq_2 _ _ _ _ _) (evNeg (by simp) (Ev.bind h1 (Ev.now _))), h2, by omega, by omega⟩
 unfold spec_l13Other.f
 cases e : wordB s with
 | false =>
  obtain ⟨r, p', h1, h2⟩ := no p (by omega) (by omega)
  have hw := l1Word_spec s (by omega)
  rw [e] at hw
  exact ⟨r, p', Ev.bind hw (evNeg (by simp) h1), h2⟩
 | true =>
  have hw := l1Word_spec s (by omega)
  rw [e] at hw
  obtain ⟨v, hv, v0, v1⟩ := pick_ev h 2 (by omega)
  by_cases c : v = 0
  ·obtain ⟨a, ha, a0, a1⟩ := pick_ev (h.at_ (p + 1) (by omega) (by omega)) 256 (by omega)
   obtain ⟨b, hb, b0, b1⟩ := pick_ev (h.at_ (p + 1 + 1) (by omega) (by omega)) 256 (by omega)
   obtain ⟨x, hx, x0, x1⟩ := pick_ev (h.at_ (p + 1 + 1 + 1) (by omega) (by omega)) 3 (by omega)
   obtain ⟨j, hj, jn, j0, j1, jw⟩ := nth_near e a b a0 (by omega) b0 (by omega)
   have start : ∀ r p', Ev (fun k => (spec_l1Rd_pick.f k t (p + 1 + 1 + 1) 3).bind fun bt => if bt.1 = 0 then ((spec_l1Near.f k (rdOf ByteArray.empty (nearL s) j)).bind fun t200 => ((spec_l1Rd_pick.f k t bt.2 256).bind fun bt203 => ((spec_l1Rd_pick.f k t bt203.2 256).bind fun bt205 => (if (t200.length : Int) = 0 then (none) else (if 0 ≤ (Int.tmod (wrap64 ((wrap64 (bt203.1 * 256)) + bt205.1)) (t200.length : Int)) then (if (Int.tmod (wrap64 ((wrap64 (bt203.1 * 256)) + bt205.1)) (t200.length : Int)) < (t200.length : Int) then (some (rdOf ByteArray.empty t200 (Int.tmod (wrap64 ((wrap64 (bt203.1 * 256)) + bt205.1)) (t200.length : Int)), bt205.2)) else (none)) else (none)))))) else (some (rdOf ByteArray.empty (nearL s) j, bt.2))) (r, p') →
     Ev (fun k => (spec_l1Word.f k s).bind fun t187 => (if t187 = true then ((spec_l1Rd_pick.f k t p 2).bind fun bt188 => (spec_l13Other.j0 k s (bt188.1 == 0) t bt188.2)) else (spec_l13Other.j0 k s false t p))) (r, p') := by
    intro r p' hr
    refine Ev.bind hw (evPos rfl (Ev.bind hv ?_))
    rw [show (v == 0) = true from by simp [c]]
    refine Ev.step (fun k => spec_l13Other.j0.eq_2 _ _ _ _ _) (evPos rfl (Ev.bind (near_ev s hs) (Ev.bind ha (Ev.bind hb ?_))))
    dsimp only
    rw [hj]
    exact evNeg jn (evPos j0 (evPos j1 hr))
   by_cases c2 : x = 0
   ·have hs2 := (wordB_size jw).2
    obtain ⟨a', ha', a0', a1'⟩ := pick_ev (h.at_ (p + 1 + 1 + 1 + 1) (by omega) (by omega)) 256 (by omega)
    obtain ⟨b', hb', b0', b1'⟩ := pick_ev (h.at_ (p + 1 + 1 + 1 + 1 + 1) (by omega) (by omega)) 256 (by omega)
    obtain ⟨j', hj', jn', j0', j1', jw'⟩ := nth_near jw a' b' a0' (by omega) b0' (by omega)
    have hz := (wordB_size jw').2
    refine ⟨rdOf ByteArray.empty (nearL (rdOf ByteArray.empty (nearL s) j)) j', p + 1 + 1 + 1 + 1 + 1 + 1, start _ _ (Ev.bind hx (evPos c2 (Ev.bind (near_ev _ (by omega)) (Ev.bind ha' (Ev.bind hb' ?_))))), by omega, by omega, by omega⟩
    dsimp only
    rw [hj']
    exact evNeg jn' (evPos j0' (evPos j1' (Ev.now _)))
   ·have hz := (wordB_size jw).2
    exact ⟨_, _, start _ _ (Ev.bind hx (evNeg c2 (Ev.now _))), by omega, by omega, by omega⟩
  ·obtain ⟨r, p', h1, h2⟩ := no (p + 1) (by omega) (by omega)
   refine ⟨r, p', Ev.bind hw (evPos rfl (Ev.bind hv ?_)), h2⟩
   rw [show (v == 0) = false from by simp [c]]
   exact h1
theorem drawBookGu_ev (l : List Int) (hw : ∀ x ∈ l, (Lit.int .u8 x).wf = true) : ∃ A E x, Ev (fun k => spec_DrawBookGuesses.f k l) (A, E, x) ∧ BkSz A E ∧ x.size ≤ 13 := by
 obtain ⟨s, hs, hr⟩ := open_ev l hw
 obtain ⟨A, E, p1, h1, ha, he, h4, h5⟩ := anyBook_ev hr (by omega)
 have hb := bkSz_of ha.1 ha.2 he.1 he.2
 obtain ⟨x, p2, hx, hz, h6, h7⟩ := of13_ev (hr.at_ p1 (by omega) (by omega)) (by omega) A E hb
 obtain ⟨y, p3, hy, hz2, _, _⟩ := other_ev (hr.at_ p2 (by omega) (by omega)) (by omega) x (by omega)
 unfold spec_DrawBookGuesses.f
 exact ⟨A, E, y, evCall hs (Ev.bind h1 (Ev.bind hx (Ev.bind hy (Ev.now _)))), hb, hz2⟩
theorem mdGu_loop (l : List Gu) (hl : l.length ≤ 1000000) (d : Nat) : ∀ i : Nat, i + d = l.length → Ev (fun k => laws_mdGuesses.l0 k l l (i : Int)) true := by
 induction d with
 | zero =>
  intro i hi
  exact Ev.step (fun k => laws_mdGuesses.l0.eq_2 ..) (eN (Ev.now _))
 | succ d ih =>
  intro i hi
  refine Ev.step (fun k => laws_mdGuesses.l0.eq_2 ..) (eP (eP (eP (evNeg (by simp) ?_))))
  rw [w6]
  exact ih (i + 1) (by omega)
theorem mdGu_ev (l : List Gu) (hl : l.length ≤ 1000000) : Ev (fun k => laws_mdGuesses.f k l l) true := by
 unfold laws_mdGuesses.f
 exact evPos rfl (mdGu_loop l hl l.length 0 (by omega))
theorem book_ok {A : List Af} {E : List En} (h : bookB A E = true) : affsB A = true ∧ entsB E = true := by simpa only [bookB, Bool.and_eq_true] using h
def bwordsB (A : List Af) (E : List En) : List ByteArray := if bookB A E = true then wordsL A E [] else []
theorem bwords_impl (A : List Af) (E : List En) (h : BkSz A E) : Ev (fun k => impl_BookWords.f k A E) (bwordsB A E) := by
 unfold impl_BookWords.f bwordsB
 refine Ev.bind (bookOk_impl A E h) ?_
 cases e : bookB A E with
 | false => exact evNeg (by simp) (evTo (Ev.now _) (by simp))
 | true =>
  have e := book_ok e
  exact evPos rfl (Ev.bind (bookWords_ev A E e.1 e.2 h.a h.la h.e) (evTo (Ev.now _) (by simp)))
theorem word_spec (s : ByteArray) (h : s.size ≤ 140737488351232) : Ev (fun k => spec_WordOk.f k s) (wordB s) := Ev.bind (l1Word_spec s h) (Ev.now _)
theorem bgl1 (A : List Af) (E : List En) (hb : BkSz A E) (e : bookB A E = true) (l : List Gu) (hl : l.length ≤ 10) (m : Int) (hA : ∀ g ∈ l, g.f1 = m ∧ inB (wordsL A E []) g.f0 = true) (hq : 0 < l.length ↔ (m = 1 ∨ m = 2)) (d : Nat) :
  ∀ i : Nat, i + d = l.length → Ev (fun k => laws_FnBookGuesses.l1 k l m (i : Int) A E) true := by
 induction d with
 | zero =>
  intro i hi
  refine Ev.step (fun k => laws_FnBookGuesses.l1.eq_2 ..) (eN ?_)
  by_cases c : m = 1
  ·have h1 : (l.length : Int) > 0 := by have := hq.2 (.inl c); omega
   exact evPos c (evTo (Ev.now _) (by rw [decide_eq_true h1]; rfl))
  ·refine evNeg c (evTo (Ev.now _) ?_)
   by_cases c2 : m = 2
   ·have h1 : (l.length : Int) > 0 := by have := hq.2 (.inr c2); omega
    rw [decide_eq_true h1, c2]
    rfl
   ·have h1 : ¬ (l.length : Int) > 0 := fun h => by
     have := hq.1 (by omega)
     omega
    rw [decide_eq_false h1, beq_eq_false_iff_ne.2 c2]
    rfl
 | succ d ih =>
  intro i hi
  have hi' : i < l.length := by omega
  obtain ⟨h1, h2⟩ := hA _ (List.getElem_mem hi')
  refine Ev.step (fun k => laws_FnBookGuesses.l1.eq_2 ..) (eP (eP ?_))
  rw [gu_get l i hi', w6 (n := (i : Int) + 1)]
  have hk := knows_impl A E hb l[i].f0
  rw [e, h2] at hk
  exact evPos h1 (Ev.bind hk (evPos rfl (ih (i + 1) (by omega))))
theorem bgl0 (A : List Af) (E : List En) (s : ByteArray) (l : List Gu) (ws : List ByteArray) (hk : ∀ w ∈ ws, wordB w = true) (hs : wordB s = true) (hl : ws.length ≤ 2000) (fin : Ev (fun k => laws_FnBookGuesses.l1 k l (leastL ws s 3) 0 A E) true) (d : Nat) :
  ∀ (i : Nat) (m : Int), i + d = ws.length → leastL (ws.drop i) s m = leastL ws s 3 → Ev (fun k => laws_FnBookGuesses.l0 k s l m ws (i : Int) A E) true := by
 induction d with
 | zero =>
  intro i m hi hm
  have e : ws.drop i = [] := List.drop_eq_nil_iff.2 (by omega)
  rw [e] at hm
  have hm2 : m = leastL ws s 3 := hm
  rw [hm2]
  exact Ev.step (fun k => laws_FnBookGuesses.l0.eq_2 ..) (evNeg (by omega) fin)
 | succ d ih =>
  intro i m hi hm
  have hi' : i < ws.length := by omega
  have hwi := hk _ (List.getElem_mem hi')
  have hz := wordB_size hwi
  have hz2 := wordB_size hs
  have hf : farB ws[i] s = farD ws[i] s := by unfold farB; rw [if_pos ⟨hwi, hs⟩]
  rw [drop_cons hi'] at hm
  have hm2 : leastL (ws.drop (i + 1)) s (if farD ws[i] s < m then farD ws[i] s else m) = leastL ws s 3 := hm
  refine Ev.step (fun k => laws_FnBookGuesses.l0.eq_2 ..) (eP (eP ?_))
  rw [ba_get ws i hi', w6 (n := (i : Int) + 1)]
  refine Ev.bind (evTo (far_impl _ _ (by omega) (by omega)) hf) ?_
  by_cases c : farD ws[i] s < m
  ·rw [if_pos c] at hm2
   exact evPos c (ih (i + 1) _ (by omega) hm2)
  ·rw [if_neg c] at hm2
   exact evNeg c (ih (i + 1) _ (by omega) hm2)
theorem bguB_length (A : List Af) (E : List En) (s : ByteArray) : (bguB A E s).length ≤ 10 := by
 unfold bguB
 split
 ·have h1 := (List.takeWhile_sublist (l := allG A E s) (fun g => decide (g.f1 = (rd_T38 (allG A E s) 0).f1))).length_le
  have h2 := allG_length A E s
  unfold bgL
  omega
 ·simp
theorem FnBookGuesses : laws_FnBookGuesses.Pure := by
 intro l0 hl hm hw
 refine Ev.rounds ?_
 unfold laws_FnBookGuesses.f
 by_cases c0 : (l0.length : Int) > 1048576
 ·exact evPos c0 (Ev.now _)
 obtain ⟨A, E, s, hd, hb, hs⟩ := drawBookGu_ev l0 hw
 have gi := bg_impl A E hb s (by omega)
 have gs := bg_spec A E hb s (by omega)
 have md := mdGu_ev (bguB A E s) (by have := bguB_length A E s; omega)
 have fin : ∀ b : Bool, b = true → Ev (fun k => laws_FnBookGuesses.j0 k s (bguB A E s) b A E) true := fun b hbt => Ev.step (fun k => laws_FnBookGuesses.j0.eq_2 ..) (evPos hbt (Ev.bind gs (Ev.bind md (Ev.now _))))
 refine evNeg c0 (Ev.bind hd (Ev.bind gi (Ev.bind gs (Ev.bind md (evPos rfl (Ev.bind (bookOk_spec A E hb) ?_))))))
 by_cases e : bookB A E = true
 ·refine evPos e (Ev.bind (word_spec s (by omega)) ?_)
  cases c : wordB s with
  | false => exact fin _ rfl
  | true =>
   have wi := bwords_impl A E hb
   have ew : bwordsB A E = wordsL A E [] := by unfold bwordsB; rw [if_pos e]
   rw [ew] at wi
   obtain ⟨g1, g2, _⟩ := wsL_facts e
   obtain ⟨k1, k2⟩ := bgu_law e c
   refine Ev.step (fun k => laws_FnBookGuesses.j0.eq_2 ..) (evNeg (by simp) (Ev.bind wi ?_))
   exact bgl0 A E s _ _ g2 c g1 (bgl1 A E hb e _ (bguB_length A E s) _ k1 k2 (bguB A E s).length 0 (by omega)) (wordsL A E []).length 0 3 (by omega) (by rw [List.drop_zero])
 ·exact evNeg e (fin _ rfl)
end Go.Proofs.YtdfnijaacnlfaaaGreat.Pure

/- WordOk answers as the reference's WordOk, at every text. No condition. -/
import Derived.Test.YtigfbndkpcahmaaPFnExactWordOkx1
import Derived.Test.YtigfbndkpcahmaaMBas
import Derived.Test.YtigfbndkpcahmaaMStr
namespace Go.Proofs.Ytigfbndkpcahmaa.Pure
open Go.RowKit Go.Proofs.Ytigfbndkpcahmaa.PFnExactWordOk Go.Proofs.YtigfbndkpcahmaaW.PrintWords Go.Proofs.YtigfbndkpcahmaaW.PrintLast Go.Proofs.Ytigfbndkpcahmaa.M
theorem letters_loop (s : ByteArray) (m : Int) (h : s.size ≤ 140737488351232) (d : Nat) : ∀ i : Int, 0 ≤ i → i ≤ s.size → (s.size : Int) - i = d →
    Ev (fun k => spec_l1Letters.l0 k s m i) (((bytesOf s).drop i.toNat).all low && decide ((s.size : Int) ≤ m)) := by
  induction d with
  | zero =>
    intro i h0 h1 hd
    refine Ev.step (fun k => spec_l1Letters.l0.eq_2 _ _ _ _) (evNeg (by omega) ?_)
    rw [List.drop_eq_nil_of_le (by rw [bytesOf_length]; omega)]
    exact evTo (Ev.now _) (by simp)
  | succ d ih =>
    intro i h0 h1 hd
    refine Ev.step (fun k => spec_l1Letters.l0.eq_2 _ _ _ _) (evPos (by omega) (evPos h0 ?_))
    rw [bytes_drop s i h0 (by omega), List.all_cons]
    by_cases c : bt s i < 97
    · exact evPos c (evTo (Ev.now _) (by simp [low]; omega))
    refine evNeg c ?_
    by_cases c1 : bt s i > 122
    · exact evPos c1 (evTo (Ev.now _) (by simp [low]; omega))
    refine evNeg c1 ?_
    have e : low (bt s i) = true := (low_iff _).2 (by omega)
    rw [w64 (by omega) (by omega), e, Bool.true_and]
    exact ih (i + 1) (by omega) (by omega) (by omega)
theorem letters_spec (s : ByteArray) (m : Int) (h : s.size ≤ 140737488351232) : Ev (fun k => spec_l1Letters.f k s m) ((bytesOf s).all low && decide ((s.size : Int) ≤ m)) :=
  letters_loop s m h s.size 0 (by omega) (by omega) (by omega)
theorem l1Word_spec (s : ByteArray) (h : s.size ≤ 140737488351232) : Ev (fun k => spec_l1Word.f k s) (wordB s) := by
  unfold spec_l1Word.f
  by_cases c : (s.size : Int) > 0
  · have hp : 0 < s.size := by omega
    refine evPos c (Ev.bind (letters_spec s 12 h) (evTo (Ev.now _) ?_))
    simp only [wordB, wordL, bytesOf_length, decide_eq_true hp, Bool.true_and]
    rw [Bool.and_comm]
    congr 1
    exact decide_eq_decide.2 (by omega)
  · exact evNeg c (evTo (Ev.now _) (wordB_no (by omega)).symm)
theorem lower_loop (s : ByteArray) (h : s.size ≤ 140737488351232) (d : Nat) : ∀ i : Int, 0 ≤ i → i ≤ s.size → (s.size : Int) - i = d →
    Ev (fun k => impl_lower.l0 k s (s.size : Int) i) (((bytesOf s).drop i.toNat).all low) := by
  induction d with
  | zero =>
    intro i h0 h1 hd
    refine Ev.step (fun k => impl_lower.l0.eq_2 _ _ _ _) (evNeg (by omega) ?_)
    rw [List.drop_eq_nil_of_le (by rw [bytesOf_length]; omega)]
    exact evTo (Ev.now _) (by simp)
  | succ d ih =>
    intro i h0 h1 hd
    refine Ev.step (fun k => impl_lower.l0.eq_2 _ _ _ _) (evPos (by omega) (evPos h0 (evPos (by omega) ?_)))
    rw [bytes_drop s i h0 (by omega), List.all_cons]
    by_cases c : bt s i < 97
    · exact evPos c (evTo (Ev.now _) (by simp [low]; omega))
    refine evNeg c ?_
    by_cases c1 : bt s i > 122
    · exact evPos c1 (evTo (Ev.now _) (by simp [low]; omega))
    refine evNeg c1 ?_
    have e : low (bt s i) = true := (low_iff _).2 (by omega)
    rw [w64 (by omega) (by omega), e, Bool.true_and]
    exact ih (i + 1) (by omega) (by omega) (by omega)
theorem lower_impl (s : ByteArray) (h : s.size ≤ 140737488351232) : Ev (fun k => impl_lower.f k s) ((bytesOf s).all low) :=
  lower_loop s h s.size 0 (by omega) (by omega) (by omega)
theorem within_impl (n a b : Int) : impl_within.f n a b = some (decide (a ≤ n) && decide (n ≤ b)) := by
  unfold impl_within.f
  by_cases c : n ≥ a
  · rw [if_pos c]; simp [c]
  · rw [if_neg c]; simp; omega
theorem word_impl (s : ByteArray) (h : s.size ≤ 140737488351232) : Ev (fun k => impl_WordOk.f k s) (wordB s) := by
  unfold impl_WordOk.f
  refine evCall (within_impl _ _ _) ?_
  by_cases c : (1 ≤ (s.size : Int) ∧ (s.size : Int) ≤ 12)
  · have hp : 0 < s.size := by omega
    have hq : s.size ≤ 12 := by omega
    refine evPos (by simp; omega) (Ev.bind (lower_impl s h) (evTo (Ev.now _) ?_))
    simp only [wordB, wordL, bytesOf_length, decide_eq_true hp, decide_eq_true hq, Bool.true_and]
  · exact evNeg (by simp; omega) (evTo (Ev.now _) (wordB_no (by omega)).symm)
theorem word_spec (s : ByteArray) (h : s.size ≤ 140737488351232) : Ev (fun k => spec_WordOk.f k s) (wordB s) := Ev.bind (l1Word_spec s h) (Ev.now _)
theorem FnExactWordOk : laws_FnExactWordOk.Pure := by
  intro a0 h0
  refine Ev.rounds ?_
  unfold laws_FnExactWordOk.f
  by_cases c0 : (a0.size : Int) > 1048576
  · exact evPos c0 (Ev.now _)
  refine evNeg c0 (Ev.bind (word_spec a0 h0) (Ev.bind (word_impl a0 h0) ?_))
  exact evNeg (by simp) (Ev.now _)
end Go.Proofs.Ytigfbndkpcahmaa.Pure

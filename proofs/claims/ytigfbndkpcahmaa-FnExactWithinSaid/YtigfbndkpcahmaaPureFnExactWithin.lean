/- Within answers as the reference's Within, at every two texts and distance. No condition. -/
import Derived.Test.YtigfbndkpcahmaaQFnExactWithinx5
import Derived.Test.YtigfbndkpcahmaaMBas
import Derived.Test.YtigfbndkpcahmaaMStr
import Derived.Test.YtigfbndkpcahmaaMDst
import Derived.Test.YtigfbndkpcahmaaMAry
namespace Go.Proofs.Ytigfbndkpcahmaa.Pure
open Go.RowKit Go.Proofs.Ytigfbndkpcahmaa.QFnExactWithin Go.Proofs.YtigfbndkpcahmaaW.PrintWords Go.Proofs.YtigfbndkpcahmaaW.PrintLast Go.Proofs.YtigfbndkpcahmaaW.PrintMore Go.Proofs.Ytigfbndkpcahmaa.M
theorem letters_loop (s : ByteArray) (m : Int) (h : s.size ≤ 281474976710656) (d : Nat) : ∀ i : Int, 0 ≤ i → i ≤ s.size → (s.size : Int) - i = d →
    Ev (fun k => spec_l1Letters.l0 k s m i) (((bytesOf s).drop i.toNat).all low && decide ((s.size : Int) ≤ m)) := by
  induction d with
  | zero =>
    intro i h0 h1 hd
    refine Ev.step (fun k => spec_l1Letters.l0.eq_2 _ _ _ _) (evNeg (by omega) ?_)
    rw [List.drop_eq_nil_of_le (by rw [bytesOf_length]; omega)]
    exact evTo (Ev.now _) (by simp)
  | succ d ih =>
    intro i h0 h1 hd
    refine Ev.step (fun k => spec_l1Letters.l0.eq_2 _ _ _ _) (evPos (by omega) (evPos h0 ?_))
    rw [bytes_drop s i h0 (by omega), List.all_cons]
    by_cases c : bt s i < 97
    · exact evPos c (evTo (Ev.now _) (by simp [low]; omega))
    refine evNeg c ?_
    by_cases c1 : bt s i > 122
    · exact evPos c1 (evTo (Ev.now _) (by simp [low]; omega))
    refine evNeg c1 ?_
    have e : low (bt s i) = true := (low_iff _).2 (by omega)
    rw [w64 (by omega) (by omega), e, Bool.true_and]
    exact ih (i + 1) (by omega) (by omega) (by omega)
theorem letters_spec (s : ByteArray) (m : Int) (h : s.size ≤ 140737488351232) : Ev (fun k => spec_l1Letters.f k s m) ((bytesOf s).all low && decide ((s.size : Int) ≤ m)) :=
  letters_loop s m (by omega) s.size 0 (by omega) (by omega) (by omega)
theorem letters_wide (s : ByteArray) (m : Int) (h : s.size ≤ 281474976710656) : Ev (fun k => spec_l1Letters.f k s m) ((bytesOf s).all low && decide ((s.size : Int) ≤ m)) :=
  letters_loop s m h s.size 0 (by omega) (by omega) (by omega)
theorem l1Word_spec (s : ByteArray) (h : s.size ≤ 140737488351232) : Ev (fun k => spec_l1Word.f k s) (wordB s) := by
  unfold spec_l1Word.f
  by_cases c : (s.size : Int) > 0
  · have hp : 0 < s.size := by omega
    refine evPos c (Ev.bind (letters_spec s 12 h) (evTo (Ev.now _) ?_))
    simp only [wordB, wordL, bytesOf_length, decide_eq_true hp, Bool.true_and]
    rw [Bool.and_comm]
    congr 1
    exact decide_eq_decide.2 (by omega)
  · exact evNeg c (evTo (Ev.now _) (wordB_no (by omega)).symm)
theorem l1Word_spec' (s : ByteArray) (h : s.size ≤ 281474976710656) : Ev (fun k => spec_l1Word.f k s) (wordB s) := by
  by_cases c : s.size ≤ 140737488351232
  · exact l1Word_spec s c
  unfold spec_l1Word.f
  refine evPos (by omega) (Ev.bind (letters_wide s 12 h) (evTo (Ev.now _) ?_))
  rw [wordB_no (by omega), decide_eq_false (by omega), Bool.and_false]
theorem least_spec (a b : Int) : spec_l1Least.f a b = some (min a b) := by
  unfold spec_l1Least.f
  by_cases c : a < b
  · rw [if_pos c]; congr 1; omega
  · rw [if_neg c]; congr 1; omega
theorem dist_small (a b : ByteArray) (i k : Nat) (h : i ≤ 100) (h2 : k ≤ 100) : 0 ≤ dist a b i k ∧ dist a b i k ≤ 100 := by
  obtain ⟨_, _, _, m, _, p⟩ := dist_facts a b _ i k (Nat.le_refl _)
  omega
/-- A row of the table of distances, as far as k. -/
def rowD (a b : ByteArray) (i k : Nat) : List Int := (List.range k).map (fun j => dist a b i j)
theorem rowD_length (a b : ByteArray) (i k : Nat) : (rowD a b i k).length = k := by simp [rowD]
theorem rowD_succ (a b : ByteArray) (i k : Nat) : rowD a b i (k + 1) = rowD a b i k ++ [dist a b i k] := by simp [rowD, List.range_succ]
theorem rowD_rd (a b : ByteArray) (i k : Nat) (j : Nat) (h : j < k) : rd (rowD a b i k) (j : Int) = dist a b i j := by
  simp [rd, rowD, List.getD_eq_getElem?_getD, h]
def tabD (a b : ByteArray) (i : Nat) : List (List Int) := (List.range i).map (fun j => rowD a b j (b.size + 1))
theorem tabD_length (a b : ByteArray) (i : Nat) : (tabD a b i).length = i := by simp [tabD]
theorem tabD_succ (a b : ByteArray) (i : Nat) : tabD a b (i + 1) = tabD a b i ++ [rowD a b i (b.size + 1)] := by simp [tabD, List.range_succ]
theorem tabD_rd (a b : ByteArray) (i j : Nat) (h : j < i) : rd_L1 (tabD a b i) (j : Int) = rowD a b j (b.size + 1) := by
  simp [rd_L1, tabD, List.getD_eq_getElem?_getD, h]
theorem far_spec_row (a b : ByteArray) (ha : a.size ≤ 100) (hb : b.size ≤ 100) (i : Nat) (hi : i ≤ a.size) {r : Int}
    (next : Ev (fun k => spec_l1Far.l0 k a b (tabD a b (i + 1)) ((i + 1 : Nat) : Int)) r) (d : Nat) : ∀ k : Nat, k + d = b.size + 1 →
    Ev (fun n => spec_l1Far.l1 n a b (tabD a b i) (i : Int) (rowD a b i k) (k : Int)) r := by
  induction d with
  | zero =>
    intro k hk
    obtain rfl : k = b.size + 1 := by omega
    refine Ev.step (fun n => spec_l1Far.l1.eq_2 _ _ _ _ _ _ _) (evNeg (by omega) (evPos (by rw [tabD_length]; omega) ?_))
    rw [w64 (by omega) (by omega), ← tabD_succ]
    exact next
  | succ d ih =>
    intro k hk
    have ihk := ih (k + 1) (by omega)
    rw [rowD_succ] at ihk
    refine Ev.step (fun n => spec_l1Far.l1.eq_2 _ _ _ _ _ _ _) (evPos (by omega) ?_)
    have wk : wrap64 ((k : Int) + 1) = ((k + 1 : Nat) : Int) := by rw [w64 (by omega) (by omega)]; omega
    by_cases ci : i = 0
    · subst ci
      rw [dist_zero] at ihk
      refine evPos rfl (evPos (by rw [rowD_length]; omega) ?_)
      rw [wk]
      exact ihk
    by_cases ck : k = 0
    · subst ck
      rw [dist_nil] at ihk
      refine evNeg (by omega) (evPos rfl (evPos (by rw [rowD_length]; omega) ?_))
      rw [wk]
      exact ihk
    obtain ⟨i, rfl⟩ : ∃ m, i = m + 1 := ⟨i - 1, by omega⟩
    obtain ⟨k, rfl⟩ : ∃ m, k = m + 1 := ⟨k - 1, by omega⟩
    have wi1 : wrap64 (((i + 1 : Nat) : Int) - 1) = (i : Int) := by rw [w64 (by omega) (by omega)]; omega
    have wk1 : wrap64 (((k + 1 : Nat) : Int) - 1) = (k : Int) := by rw [w64 (by omega) (by omega)]; omega
    have rowi : rd_L1 (tabD a b (i + 1)) (i : Int) = rowD a b i (b.size + 1) := tabD_rd a b (i + 1) i (by omega)
    have b1 := dist_small a b i k (by omega) (by omega)
    have b2 := dist_small a b i (k + 1) (by omega) (by omega)
    have b3 := dist_small a b (i + 1) k (by omega) (by omega)
    have b4 := dist_small a b (i - 1) (k - 1) (by omega) (by omega)
    refine evNeg (by omega) (evNeg (by omega) ?_)
    rw [wi1, wk1, rowi, rowD_rd a b i (b.size + 1) k (by omega)]
    have join : ∀ v : Int, v = dist a b i k + (if bt a (i : Int) = bt b (k : Int) then 0 else 1) → Ev (fun n => spec_l1Far.j2 n a b (tabD a b (i + 1)) ((i + 1 : Nat) : Int) (rowD a b (i + 1) (k + 1)) ((k + 1 : Nat) : Int) v) r := by
      intro v hv
      have hv01 : (if bt a (i : Int) = bt b (k : Int) then (0 : Int) else 1) = 0 ∨ (if bt a (i : Int) = bt b (k : Int) then (0 : Int) else 1) = 1 := by split <;> simp
      have h3 : min v (min (dist a b i (k + 1) + 1) (dist a b (i + 1) k + 1)) = dist3 a b i k := by
        unfold dist3
        omega
      refine Ev.step (fun n => spec_l1Far.j2.eq_2 _ _ _ _ _ _ _ _) ?_
      rw [wi1, wk1, rowi, rowD_rd a b i (b.size + 1) (k + 1) (by omega), rowD_rd a b (i + 1) (k + 1) k (by omega), w64 (n := dist a b i (k + 1) + 1) (by omega) (by omega), w64 (n := dist a b (i + 1) k + 1) (by omega) (by omega)]
      refine evPos (by omega) (evPos (by rw [tabD_length]; omega) (evPos (by omega) (evPos (by rw [rowD_length]; omega) (evPos (by omega) (evPos (by rw [rowD_length]; omega) (evCall (least_spec _ _) (evCall (least_spec _ _) ?_)))))))
      rw [h3]
      have fin : ∀ x, x = dist a b (i + 1) (k + 1) → Ev (fun n => if (rowD a b (i + 1) (k + 1)).length < 17592186044416 then spec_l1Far.l1 n a b (tabD a b (i + 1)) ((i + 1 : Nat) : Int) (rowD a b (i + 1) (k + 1) ++ [x]) (wrap64 (((k + 1 : Nat) : Int) + 1)) else none) r := by
        rintro x rfl
        refine evPos (by rw [rowD_length]; omega) ?_
        rw [wk]
        exact ihk
      have hs := dist_succ a b i k
      have two (z : Nat) (hz : 1 ≤ z) (hz2 : z ≤ 100) : wrap64 (((z + 1 : Nat) : Int) - 2) = ((z - 1 : Nat) : Int) := by rw [w64 (by omega) (by omega)]; omega
      have no : dist3 a b i k = dist a b (i + 1) (k + 1) → Ev (fun n => spec_l1Far.j3 n a b (tabD a b (i + 1)) ((i + 1 : Nat) : Int) (rowD a b (i + 1) (k + 1)) ((k + 1 : Nat) : Int) (dist3 a b i k) false) r :=
        fun he => Ev.step (fun n => spec_l1Far.j3.eq_2 _ _ _ _ _ _ _ _ _) (evNeg (by simp) (fin _ he))
      by_cases c1 : ((i + 1 : Nat) : Int) > 1
      · by_cases c2 : ((k + 1 : Nat) : Int) > 1
        · refine evPos c1 (evPos c2 ?_)
          rw [two i (by omega) (by omega), two k (by omega) (by omega)]
          refine evPos (by omega) (evPos (by omega) (evPos (by omega) ?_))
          by_cases c3 : bt a (i : Int) = bt b ((k - 1 : Nat) : Int)
          · refine evPos c3 (evPos (by omega) (evPos (by omega) (evPos (by omega) ?_)))
            by_cases c4 : bt a ((i - 1 : Nat) : Int) = bt b (k : Int)
            · rw [if_pos ⟨by omega, by omega, c3, c4⟩] at hs
              have row2 : rd_L1 (tabD a b (i + 1)) ((i - 1 : Nat) : Int) = rowD a b (i - 1) (b.size + 1) := tabD_rd a b (i + 1) (i - 1) (by omega)
              rw [show (bt a ((i - 1 : Nat) : Int) == bt b (k : Int)) = true from beq_iff_eq.2 c4]
              refine Ev.step (fun n => spec_l1Far.j3.eq_2 _ _ _ _ _ _ _ _ _) ?_
              rw [two i (by omega) (by omega), two k (by omega) (by omega), row2, rowD_rd a b (i - 1) (b.size + 1) (k - 1) (by omega), w64 (n := dist a b (i - 1) (k - 1) + 1) (by omega) (by omega)]
              exact evPos rfl (evPos (by omega) (evPos (by rw [tabD_length]; omega) (evPos (by omega) (evPos (by rw [rowD_length]; omega) (evCall (least_spec _ _) (fin _ hs.symm))))))
            · rw [if_neg (fun h => c4 h.2.2.2)] at hs
              rw [show (bt a ((i - 1 : Nat) : Int) == bt b (k : Int)) = false from beq_eq_false_iff_ne.2 c4]
              exact no hs.symm
          · rw [if_neg (fun h => c3 h.2.2.1)] at hs
            exact evNeg c3 (no hs.symm)
        · rw [if_neg (fun h => c2 (by omega))] at hs
          exact evPos c1 (evNeg c2 (no hs.symm))
      · rw [if_neg (fun h => c1 (by omega))] at hs
        exact evNeg c1 (no hs.symm)
    refine evPos (by omega) (evPos (by rw [tabD_length]; omega) (evPos (by omega) (evPos (by rw [rowD_length]; omega) (evPos (by omega) (evPos (by omega) ?_)))))
    by_cases c : bt a (i : Int) = bt b (k : Int)
    · exact evPos c (join _ (by rw [if_pos c]; omega))
    · refine evNeg c (join _ ?_)
      rw [if_neg c, w64 (by omega) (by omega)]
theorem far_spec_loop (a b : ByteArray) (ha : a.size ≤ 100) (hb : b.size ≤ 100) (d : Nat) : ∀ i : Nat, i + d = a.size + 1 → Ev (fun n => spec_l1Far.l0 n a b (tabD a b i) (i : Int)) (farD a b) := by
  induction d with
  | zero =>
    intro i hi
    obtain rfl : i = a.size + 1 := by omega
    have row : rd_L1 (tabD a b (a.size + 1)) (a.size : Int) = rowD a b a.size (b.size + 1) := tabD_rd a b (a.size + 1) a.size (by omega)
    refine Ev.step (fun n => spec_l1Far.l0.eq_2 _ _ _ _ _) (evNeg (by omega) ?_)
    rw [row, rowD_rd a b a.size (b.size + 1) b.size (by omega)]
    exact evPos (by omega) (evPos (by rw [tabD_length]; omega) (evPos (by omega) (evPos (by rw [rowD_length]; omega) (Ev.now _))))
  | succ d ih =>
    intro i hi
    have h := far_spec_row a b ha hb i (by omega) (ih (i + 1) (by omega)) (b.size + 1) 0 (by omega)
    exact Ev.step (fun n => spec_l1Far.l0.eq_2 _ _ _ _ _) (evPos (by omega) h)
theorem l1Far_spec (a b : ByteArray) (ha : a.size ≤ 100) (hb : b.size ≤ 100) : Ev (fun n => spec_l1Far.f n a b) (farD a b) := far_spec_loop a b ha hb (a.size + 1) 0 (by omega)
theorem lower_loop (s : ByteArray) (h : s.size ≤ 140737488351232) (d : Nat) : ∀ i : Int, 0 ≤ i → i ≤ s.size → (s.size : Int) - i = d →
    Ev (fun k => impl_lower.l0 k s (s.size : Int) i) (((bytesOf s).drop i.toNat).all low) := by
  induction d with
  | zero =>
    intro i h0 h1 hd
    refine Ev.step (fun k => impl_lower.l0.eq_2 _ _ _ _) (evNeg (by omega) ?_)
    rw [List.drop_eq_nil_of_le (by rw [bytesOf_length]; omega)]
    exact evTo (Ev.now _) (by simp)
  | succ d ih =>
    intro i h0 h1 hd
    refine Ev.step (fun k => impl_lower.l0.eq_2 _ _ _ _) (evPos (by omega) (evPos h0 (evPos (by omega) ?_)))
    rw [bytes_drop s i h0 (by omega), List.all_cons]
    by_cases c : bt s i < 97
    · exact evPos c (evTo (Ev.now _) (by simp [low]; omega))
    refine evNeg c ?_
    by_cases c1 : bt s i > 122
    · exact evPos c1 (evTo (Ev.now _) (by simp [low]; omega))
    refine evNeg c1 ?_
    have e : low (bt s i) = true := (low_iff _).2 (by omega)
    rw [w64 (by omega) (by omega), e, Bool.true_and]
    exact ih (i + 1) (by omega) (by omega) (by omega)
theorem lower_impl (s : ByteArray) (h : s.size ≤ 140737488351232) : Ev (fun k => impl_lower.f k s) ((bytesOf s).all low) :=
  lower_loop s h s.size 0 (by omega) (by omega) (by omega)
theorem within_impl (n a b : Int) : impl_within.f n a b = some (decide (a ≤ n) && decide (n ≤ b)) := by
  unfold impl_within.f
  by_cases c : n ≥ a
  · rw [if_pos c]; simp [c]
  · rw [if_neg c]; simp; omega
theorem word_impl (s : ByteArray) (h : s.size ≤ 140737488351232) : Ev (fun k => impl_WordOk.f k s) (wordB s) := by
  unfold impl_WordOk.f
  refine evCall (within_impl _ _ _) ?_
  by_cases c : (1 ≤ (s.size : Int) ∧ (s.size : Int) ≤ 12)
  · have hp : 0 < s.size := by omega
    have hq : s.size ≤ 12 := by omega
    refine evPos (by simp; omega) (Ev.bind (lower_impl s h) (evTo (Ev.now _) ?_))
    simp only [wordB, wordL, bytesOf_length, decide_eq_true hp, decide_eq_true hq, Bool.true_and]
  · exact evNeg (by simp; omega) (evTo (Ev.now _) (wordB_no (by omega)).symm)
theorem word_impl' (s : ByteArray) (h : s.size ≤ 281474976710656) : Ev (fun k => impl_WordOk.f k s) (wordB s) := by
  by_cases c : s.size ≤ 140737488351232
  · exact word_impl s c
  · unfold impl_WordOk.f
    refine evCall (within_impl _ _ _) ?_
    exact evNeg (by simp; omega) (evTo (Ev.now _) (wordB_no (by omega)).symm)
theorem rl_set_eq (M : List (List Int)) (i : Nat) (R : List Int) (h : i < M.length) : rd_L1 (M.set i R) (i : Int) = R := by
  simp [rd_L1, List.getD_eq_getElem?_getD, h]
theorem rl_set_ne (M : List (List Int)) (i j : Nat) (R : List Int) (h : i ≠ j) : rd_L1 (M.set i R) (j : Int) = rd_L1 M (j : Int) := by
  simp [rd_L1, List.getD_eq_getElem?_getD, List.getElem?_set_ne h]
theorem rd_setN_eq (xs : List Int) (i : Nat) (v : Int) (h : i < xs.length) : rd (xs.set i v) (i : Int) = v := by
  have := rd_set_eq xs (i : Int) v (by omega) (by omega)
  simpa using this
theorem rd_setN_ne (xs : List Int) (i j : Nat) (v : Int) (h : i ≠ j) : rd (xs.set i v) (j : Int) = rd xs (j : Int) := by
  have := rd_set_ne xs (i : Int) (j : Int) v (by omega) (by omega) (by omega)
  simpa using this
def InvM (a b : ByteArray) (M : List (List Int)) (i k : Nat) : Prop :=
  M.length = a.size + 1 ∧ (∀ j : Nat, j ≤ a.size → (rd_L1 M (j : Int)).length = b.size + 1) ∧
  ∀ x y : Nat, x ≤ a.size → y ≤ b.size → (x < i ∨ (x = i ∧ y < k) ∨ y = 0 ∨ x = 0) → rd (rd_L1 M (x : Int)) (y : Int) = dist a b x y
theorem inv_put {a b : ByteArray} {M : List (List Int)} {i k : Nat} (h : InvM a b M i k) (hi : i ≤ a.size) (hk : k ≤ b.size) (_ : 1 ≤ i) (_ : 1 ≤ k) : InvM a b (M.set i ((rd_L1 M (i : Int)).set k (dist a b i k))) i (k + 1) := by
  obtain ⟨h1, h2, h3⟩ := h
  refine ⟨by simpa using h1, fun j hj => ?_, fun x y hx hy hc => ?_⟩
  · by_cases c : i = j
    · subst c
      rw [rl_set_eq _ _ _ (by omega), List.length_set]
      exact h2 i hj
    · rw [rl_set_ne _ _ _ _ c]
      exact h2 j hj
  · by_cases c : i = x
    · subst c
      rw [rl_set_eq _ _ _ (by omega)]
      by_cases d : k = y
      · subst d
        exact rd_setN_eq _ _ _ (by rw [h2 i hi]; omega)
      · rw [rd_setN_ne _ _ _ _ d]
        exact h3 i y hx hy (by omega)
    · rw [rl_set_ne _ _ _ _ c]
      exact h3 x y hx hy (by omega)
theorem inv_next {a b : ByteArray} {M : List (List Int)} {i : Nat} (h : InvM a b M i (b.size + 1)) : InvM a b M (i + 1) 1 :=
  ⟨h.1, h.2.1, fun x y hx hy hc => h.2.2 x y hx hy (by omega)⟩
theorem mn_min (x y : Int) : mn x y = min x y := by
  unfold mn
  split <;> omega
theorem far_impl_row (a b : ByteArray) (ha : a.size ≤ 100) (hb : b.size ≤ 100) (i : Nat) (hi : i ≤ a.size) (hi1 : 1 ≤ i) {r : Int}
    (next : ∀ M, InvM a b M i (b.size + 1) → Ev (fun k => impl_Far.l2 k a b M ((i + 1 : Nat) : Int)) r) (d : Nat) : ∀ (k : Nat) (M : List (List Int)), k + d = b.size + 1 → 1 ≤ k → InvM a b M i k →
    Ev (fun n => impl_Far.l3 n a b M (i : Int) (k : Int)) r := by
  induction d with
  | zero =>
    intro k M hk _ hM
    obtain rfl : k = b.size + 1 := by omega
    refine Ev.step (fun n => impl_Far.l3.eq_2 _ _ _ _ _ _) (evNeg (by omega) ?_)
    rw [w64 (by omega) (by omega)]
    exact next M hM
  | succ d ih =>
    intro k M hk hk1 hM
    obtain ⟨m1, m2, m3⟩ := hM
    have ihk := ih (k + 1) (M.set i ((rd_L1 M (i : Int)).set k (dist a b i k))) (by omega) (by omega) (inv_put ⟨m1, m2, m3⟩ hi (by omega) hi1 hk1)
    obtain ⟨i, rfl⟩ : ∃ m, i = m + 1 := ⟨i - 1, by omega⟩
    obtain ⟨k, rfl⟩ : ∃ m, k = m + 1 := ⟨k - 1, by omega⟩
    have wi1 : wrap64 (((i + 1 : Nat) : Int) - 1) = (i : Int) := by rw [w64 (by omega) (by omega)]; omega
    have wk1 : wrap64 (((k + 1 : Nat) : Int) - 1) = (k : Int) := by rw [w64 (by omega) (by omega)]; omega
    have wk : wrap64 (((k + 1 : Nat) : Int) + 1) = ((k + 1 + 1 : Nat) : Int) := by rw [w64 (by omega) (by omega)]; omega
    have b1 := dist_small a b i k (by omega) (by omega)
    have b2 := dist_small a b i (k + 1) (by omega) (by omega)
    have b3 := dist_small a b (i + 1) k (by omega) (by omega)
    have b4 := dist_small a b (i - 1) (k - 1) (by omega) (by omega)
    have l1 := m2 i (by omega)
    have l2 := m2 (i + 1) hi
    have l3 := m2 (i - 1) (by omega)
    have e1 := m3 i k (by omega) (by omega) (by omega)
    have e2 := m3 i (k + 1) (by omega) (by omega) (by omega)
    have e3 := m3 (i + 1) k (by omega) (by omega) (by omega)
    have e4 := m3 (i - 1) (k - 1) (by omega) (by omega) (by omega)
    have join : ∀ v : Int, v = dist a b i k + (if bt a (i : Int) = bt b (k : Int) then 0 else 1) → Ev (fun n => impl_Far.j5 n a b M ((i + 1 : Nat) : Int) ((k + 1 : Nat) : Int) v) r := by
      intro v hv
      have hv01 : (if bt a (i : Int) = bt b (k : Int) then (0 : Int) else 1) = 0 ∨ (if bt a (i : Int) = bt b (k : Int) then (0 : Int) else 1) = 1 := by split <;> simp
      have h3 : mn (mn v (dist a b i (k + 1) + 1)) (dist a b (i + 1) k + 1) = dist3 a b i k := by
        rw [mn_min, mn_min]
        unfold dist3
        omega
      have h3b : 0 ≤ dist3 a b i k := by
        unfold dist3
        omega
      refine Ev.step (fun n => impl_Far.j5.eq_2 _ _ _ _ _ _ _) ?_
      rw [wi1, wk1, e2, e3, w64 (n := dist a b i (k + 1) + 1) (by omega) (by omega), w64 (n := dist a b (i + 1) k + 1) (by omega) (by omega), h3]
      refine evPos (by omega) (evPos (by omega) (evPos (by omega) (evPos (by omega) (evPos (by omega) (evPos (by omega) (evPos (by omega) (evPos (by omega) ?_)))))))
      have hs := dist_succ a b i k
      have two (z : Nat) (hz : 1 ≤ z) (hz2 : z ≤ 100) : wrap64 (((z + 1 : Nat) : Int) - 2) = ((z - 1 : Nat) : Int) := by rw [w64 (by omega) (by omega)]; omega
      have no : dist3 a b i k = dist a b (i + 1) (k + 1) → Ev (fun n => impl_Far.j6 n a b M ((i + 1 : Nat) : Int) ((k + 1 : Nat) : Int) (dist3 a b i k) false) r := by
        intro he
        refine Ev.step (fun n => impl_Far.j6.eq_2 _ _ _ _ _ _ _ _) (evNeg (by simp) (evPos (by omega) (evPos (by omega) (evPos (by omega) (evPos (by omega) ?_)))))
        rw [wk, he, Int.toNat_natCast, Int.toNat_natCast]
        exact ihk
      by_cases c1 : ((i + 1 : Nat) : Int) > 1
      · by_cases c2 : ((k + 1 : Nat) : Int) > 1
        · refine evPos c1 (evPos c2 ?_)
          rw [two i (by omega) (by omega), two k (by omega) (by omega)]
          refine evPos (by omega) (evPos (by omega) (evPos (by omega) ?_))
          by_cases c3 : bt a (i : Int) = bt b ((k - 1 : Nat) : Int)
          · refine evPos c3 (evPos (by omega) (evPos (by omega) (evPos (by omega) ?_)))
            by_cases c4 : bt a ((i - 1 : Nat) : Int) = bt b (k : Int)
            · rw [if_pos ⟨by omega, by omega, c3, c4⟩] at hs
              rw [show (bt a ((i - 1 : Nat) : Int) == bt b (k : Int)) = true from beq_iff_eq.2 c4]
              refine Ev.step (fun n => impl_Far.j6.eq_2 _ _ _ _ _ _ _ _) ?_
              rw [two i (by omega) (by omega), two k (by omega) (by omega), e4, w64 (n := dist a b (i - 1) (k - 1) + 1) (by omega) (by omega), mn_min, ← hs, wk, Int.toNat_natCast, Int.toNat_natCast]
              exact evPos rfl (evPos (by omega) (evPos (by omega) (evPos (by omega) (evPos (by omega) (evPos (by omega) (evPos (by omega) (evPos (by omega) (evPos (by omega) ihk))))))))
            · rw [if_neg (fun h => c4 h.2.2.2)] at hs
              rw [show (bt a ((i - 1 : Nat) : Int) == bt b (k : Int)) = false from beq_eq_false_iff_ne.2 c4]
              exact no hs.symm
          · rw [if_neg (fun h => c3 h.2.2.1)] at hs
            exact evNeg c3 (no hs.symm)
        · rw [if_neg (fun h => c2 (by omega))] at hs
          exact evPos c1 (evNeg c2 (no hs.symm))
      · rw [if_neg (fun h => c1 (by omega))] at hs
        exact evNeg c1 (no hs.symm)
    refine Ev.step (fun n => impl_Far.l3.eq_2 _ _ _ _ _ _) (evPos (by omega) ?_)
    rw [wi1, wk1, e1]
    refine evPos (by omega) (evPos (by omega) (evPos (by omega) (evPos (by omega) (evPos (by omega) (evPos (by omega) ?_)))))
    by_cases c : bt a (i : Int) = bt b (k : Int)
    · exact evPos c (join _ (by rw [if_pos c]; omega))
    · refine evNeg c (join _ ?_)
      rw [if_neg c, w64 (by omega) (by omega)]
theorem far_impl_rows (a b : ByteArray) (ha : a.size ≤ 100) (hb : b.size ≤ 100) (d : Nat) : ∀ (i : Nat) (M : List (List Int)), i + d = a.size + 1 → 1 ≤ i → InvM a b M i 1 → Ev (fun n => impl_Far.l2 n a b M (i : Int)) (farD a b) := by
  induction d with
  | zero =>
    intro i M hi _ hM
    obtain rfl : i = a.size + 1 := by omega
    refine Ev.step (fun n => impl_Far.l2.eq_2 _ _ _ _ _) (evNeg (by omega) ?_)
    rw [hM.2.2 a.size b.size (Nat.le_refl _) (Nat.le_refl _) (by omega)]
    have := hM.2.1 a.size (Nat.le_refl _)
    have := hM.1
    exact evPos (by omega) (evPos (by omega) (evPos (by omega) (evPos (by omega) (Ev.now _))))
  | succ d ih =>
    intro i M hi hi1 hM
    exact Ev.step (fun n => impl_Far.l2.eq_2 _ _ _ _ _) (evPos (by omega) (far_impl_row a b ha hb i (by omega) hi1 (fun M' hM' => ih (i + 1) M' (by omega) (by omega) (inv_next hM')) b.size 1 M (by omega) (by omega) hM))
theorem far_impl_first (a b : ByteArray) (ha : a.size ≤ 100) (hb : b.size ≤ 100) (d : Nat) : ∀ (k : Nat) (M : List (List Int)), k + d = b.size + 1 → M.length = a.size + 1 → (∀ j : Nat, j ≤ a.size → (rd_L1 M (j : Int)).length = b.size + 1) →
    (∀ j : Nat, 1 ≤ j → j ≤ a.size → rd (rd_L1 M (j : Int)) 0 = j) → (∀ j : Nat, j < k → rd (rd_L1 M 0) (j : Int) = j) → Ev (fun n => impl_Far.l1 n a b M ((b.size + 1 : Nat) : Int) (k : Int)) (farD a b) := by
  induction d with
  | zero =>
    intro k M hk h1 h2 h3 h4
    refine Ev.step (fun n => impl_Far.l1.eq_2 _ _ _ _ _ _) (evNeg (by omega) (far_impl_rows a b ha hb a.size 1 M (by omega) (by omega) ⟨h1, h2, fun x y hx hy hc => ?_⟩))
    by_cases c : x = 0
    · subst c
      rw [dist_zero]
      exact h4 y (by omega)
    · obtain rfl : y = 0 := by omega
      rw [dist_nil]
      exact h3 x (by omega) hx
  | succ d ih =>
    intro k M hk h1 h2 h3 h4
    have z : (rd_L1 M ((0 : Nat) : Int)).length = b.size + 1 := h2 0 (by omega)
    have z' : (rd_L1 M 0).length = b.size + 1 := z
    refine Ev.step (fun n => impl_Far.l1.eq_2 _ _ _ _ _ _) (evPos (by omega) (evPos (by omega) (evPos (by omega) (evPos (by omega) ?_))))
    rw [w64 (by omega) (by omega), show ((k : Int) + 1) = ((k + 1 : Nat) : Int) from by omega, Int.toNat_natCast, show (0 : Int).toNat = 0 from rfl]
    have e0 : rd_L1 (M.set 0 ((rd_L1 M 0).set k (k : Int))) 0 = (rd_L1 M 0).set k (k : Int) := rl_set_eq M 0 _ (by omega)
    refine ih (k + 1) _ (by omega) (by simpa using h1) (fun j hj => ?_) (fun j hj1 hj => ?_) (fun j hj => ?_)
    · by_cases c : 0 = j
      · subst c
        show (rd_L1 (M.set 0 ((rd_L1 M 0).set k (k : Int))) 0).length = b.size + 1
        rw [e0, List.length_set]
        exact z'
      · rw [rl_set_ne _ _ _ _ c]
        exact h2 j hj
    · rw [rl_set_ne _ _ _ _ (by omega)]
      exact h3 j hj1 hj
    · rw [e0]
      by_cases c : k = j
      · subst c
        exact rd_setN_eq _ _ _ (by omega)
      · rw [rd_setN_ne _ _ _ _ c]
        exact h4 j (by omega)
theorem far_impl_zero (a b : ByteArray) (ha : a.size ≤ 100) (hb : b.size ≤ 100) (d : Nat) : ∀ (i : Nat) (M : List (List Int)), i + d = a.size + 1 → M.length = a.size + 1 → (∀ j : Nat, j < i → rd_L1 M (j : Int) = (List.replicate (b.size + 1) 0).set 0 (j : Int)) →
    Ev (fun n => impl_Far.l0 n a b M ((a.size + 1 : Nat) : Int) (i : Int)) (farD a b) := by
  induction d with
  | zero =>
    intro i M hi h1 h2
    have z : rd_L1 M ((0 : Nat) : Int) = (List.replicate (b.size + 1) 0).set 0 ((0 : Nat) : Int) := h2 0 (by omega)
    have z' : rd_L1 M 0 = (List.replicate (b.size + 1) 0).set 0 0 := z
    refine Ev.step (fun n => impl_Far.l0.eq_2 _ _ _ _ _ _) (evNeg (by omega) (evPos (by omega) ?_))
    have hl : ((rd_L1 M 0).length : Int) = ((b.size + 1 : Nat) : Int) := by rw [z']; simp
    rw [hl]
    refine far_impl_first a b ha hb (b.size + 1) 0 M (by omega) h1 (fun j hj => ?_) (fun j hj1 hj => ?_) (fun j hj => absurd hj (by omega))
    · rw [h2 j (by omega)]
      simp
    · rw [h2 j (by omega)]
      exact rd_setN_eq _ 0 _ (by simp)
  | succ d ih =>
    intro i M hi h1 h2
    have wb : wrap64 ((b.size : Int) + 1) = ((b.size + 1 : Nat) : Int) := by rw [w64 (by omega) (by omega)]; omega
    have wi : wrap64 ((i : Int) + 1) = ((i + 1 : Nat) : Int) := by rw [w64 (by omega) (by omega)]; omega
    have e : rd_L1 (M.set i (List.replicate (b.size + 1) 0)) (i : Int) = List.replicate (b.size + 1) 0 := rl_set_eq _ _ _ (by omega)
    refine Ev.step (fun n => impl_Far.l0.eq_2 _ _ _ _ _ _) (evPos (by omega) ?_)
    rw [wb, Int.toNat_natCast, Int.toNat_natCast]
    refine evPos (by omega) (evPos (by omega) (evPos (by omega) (evPos (by omega) (evCall rfl ?_))))
    rw [e, wi, show (0 : Int).toNat = 0 from rfl]
    refine evPos (by simp) (ih (i + 1) _ (by omega) (by simpa using h1) (fun j hj => ?_))
    by_cases c : i = j
    · subst c
      rw [rl_set_eq _ _ _ (by simp; omega)]
    · rw [rl_set_ne _ _ _ _ c, rl_set_ne _ _ _ _ c]
      exact h2 j (by omega)
theorem far_impl (a b : ByteArray) (ha : a.size ≤ 140737488351232) (hb : b.size ≤ 140737488351232) : Ev (fun n => impl_Far.f n a b) (farB a b) := by
  unfold impl_Far.f
  refine Ev.bind (word_impl a ha) ?_
  cases e1 : wordB a with
  | false => exact evNeg (by simp) (Ev.step (fun n => impl_Far.j0.eq_2 _ _ _ _) (evPos rfl (evTo (Ev.now _) (by simp [farB, e1]))))
  | true =>
    have h1 := wordB_size e1
    refine evPos rfl (Ev.bind (word_impl b hb) ?_)
    cases e2 : wordB b with
    | false => exact Ev.step (fun n => impl_Far.j0.eq_2 _ _ _ _) (evPos rfl (evTo (Ev.now _) (by simp [farB, e2])))
    | true =>
      have h2 := wordB_size e2
      have wa : wrap64 ((a.size : Int) + 1) = ((a.size + 1 : Nat) : Int) := by rw [w64 (by omega) (by omega)]; omega
      refine Ev.step (fun n => impl_Far.j0.eq_2 _ _ _ _) (evNeg (by simp) ?_)
      rw [wa, Int.toNat_natCast]
      refine evPos (by omega) (evPos (by omega) (evCall rfl ?_))
      have hl : ((List.replicate (a.size + 1) ([] : List Int)).length : Int) = ((a.size + 1 : Nat) : Int) := by simp
      rw [hl]
      exact evTo (far_impl_zero a b (by omega) (by omega) (a.size + 1) 0 _ (by omega) (by simp) (fun j hj => absurd hj (by omega))) (by simp [farB, e1, e2])
def withB (a b : ByteArray) (n : Int) : Bool := wordB a && wordB b && decide (farD a b ≤ n)
theorem within_far (a b : ByteArray) (n : Int) : withB a b n = (decide (0 ≤ farB a b) && decide (farB a b ≤ n)) := by
  unfold withB farB
  have hp : 0 ≤ farD a b := (dist_facts a b _ a.size b.size (Nat.le_refl _)).2.2.2.2.2
  by_cases c : wordB a = true ∧ wordB b = true
  · rw [if_pos c, c.1, c.2, decide_eq_true hp]
    rfl
  · rw [if_neg c]
    have : (wordB a && wordB b) = false := by
      cases e1 : wordB a <;> cases e2 : wordB b <;> simp_all
    rw [this]
    simp
theorem withinW_impl (a b : ByteArray) (n : Int) (ha : a.size ≤ 140737488351232) (hb : b.size ≤ 140737488351232) : Ev (fun k => impl_Within.f k a b n) (withB a b n) := by
  unfold impl_Within.f
  refine Ev.bind (far_impl a b ha hb) ?_
  rw [within_far]
  by_cases c : farB a b ≥ 0
  · exact evPos c (evTo (Ev.now _) (by rw [decide_eq_true c, Bool.true_and]))
  · exact evNeg c (evTo (Ev.now _) (by rw [decide_eq_false c, Bool.false_and]))
theorem withinW_spec (a b : ByteArray) (n : Int) (ha : a.size ≤ 140737488351232) (hb : b.size ≤ 140737488351232) : Ev (fun k => spec_Within.f k a b n) (withB a b n) := by
  unfold spec_Within.f
  refine Ev.bind (l1Word_spec a ha) ?_
  cases e1 : wordB a with
  | false => exact evNeg (by simp) (evTo (Ev.now _) (by simp [withB, e1]))
  | true =>
    have h1 := wordB_size e1
    refine evPos rfl (Ev.bind (l1Word_spec b hb) ?_)
    cases e2 : wordB b with
    | false => exact evNeg (by simp) (evTo (Ev.now _) (by simp [withB, e2]))
    | true =>
      have h2 := wordB_size e2
      exact evPos rfl (Ev.bind (l1Far_spec a b (by omega) (by omega)) (evTo (Ev.now _) (by simp [withB, e1, e2])))
theorem FnExactWithin : laws_FnExactWithin.Pure := by
  intro a0 a1 a2 h0 h1 _
  refine Ev.rounds ?_
  unfold laws_FnExactWithin.f
  by_cases c0 : (a0.size : Int) > 1048576
  · exact evPos c0 (Ev.now _)
  refine evNeg c0 ?_
  by_cases c1 : (a1.size : Int) > 1048576
  · exact evPos c1 (Ev.now _)
  exact evNeg c1 (Ev.bind (withinW_spec a0 a1 a2 h0 h1) (Ev.bind (withinW_impl a0 a1 a2 h0 h1) (evNeg (by simp) (Ev.now _))))
end Go.Proofs.Ytigfbndkpcahmaa.Pure

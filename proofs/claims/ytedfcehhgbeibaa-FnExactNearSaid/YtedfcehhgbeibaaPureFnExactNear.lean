/- Near answers as the reference, of every text, and its answer is its own. No condition. -/
import Derived.Test.YtedfcehhgbeibaaQFnExactNearx7
import Derived.Test.YtedfcehhgbeibaaVMBas
import Derived.Test.YtedfcehhgbeibaaVMStr
import Derived.Test.YtedfcehhgbeibaaVMAff
import Derived.Test.YtedfcehhgbeibaaVMSml
import Derived.Test.YtedfcehhgbeibaaVMNer
import Derived.Test.YtedfcehhgbeibaaVMSrt
namespace Go.Proofs.Ytedfcehhgbeibaa.Pure
open Go.RowKit Go.Proofs.Ytedfcehhgbeibaa.QFnExactNear Go.Proofs.YtedfcehhgbeibaaW.PrintWords Go.Proofs.YtedfcehhgbeibaaW.PrintLast Go.Proofs.YtedfcehhgbeibaaW.PrintMore Go.Proofs.Ytedfcehhgbeibaa.M
set_option linter.unusedVariables false
set_option linter.unusedSimpArgs false
theorem letters_loop (s : ByteArray) (m : Int) (h : s.size ≤ 281474976710656) (d : Nat) : ∀ i : Int, 0 ≤ i → i ≤ s.size → (s.size : Int) - i = d →
    Ev (fun k => spec_l1Letters.l0 k s m i) (((bytesOf s).drop i.toNat).all low && decide ((s.size : Int) ≤ m)) := by
  induction d with
  | zero =>
    intro i h0 h1 hd
    refine Ev.step (fun k => spec_l1Letters.l0.eq_2 _ _ _ _) (evNeg (by omega) ?_)
    rw [List.drop_eq_nil_of_le (by rw [bytesOf_length]; omega)]
    exact evTo (Ev.now _) (by simp)
  | succ d ih =>
    intro i h0 h1 hd
    refine Ev.step (fun k => spec_l1Letters.l0.eq_2 _ _ _ _) (evPos (by omega) (evPos h0 ?_))
    rw [bytes_drop s i h0 (by omega), List.all_cons]
    by_cases c : bt s i < 97
    · exact evPos c (evTo (Ev.now _) (by simp [low]; omega))
    refine evNeg c ?_
    by_cases c1 : bt s i > 122
    · exact evPos c1 (evTo (Ev.now _) (by simp [low]; omega))
    refine evNeg c1 ?_
    have e : low (bt s i) = true := (low_iff _).2 (by omega)
    rw [w64 (by omega) (by omega), e, Bool.true_and]
    exact ih (i + 1) (by omega) (by omega) (by omega)
theorem letters_spec (s : ByteArray) (m : Int) (h : s.size ≤ 140737488351232) : Ev (fun k => spec_l1Letters.f k s m) ((bytesOf s).all low && decide ((s.size : Int) ≤ m)) :=
  letters_loop s m (by omega) s.size 0 (by omega) (by omega) (by omega)
theorem letters_wide (s : ByteArray) (m : Int) (h : s.size ≤ 281474976710656) : Ev (fun k => spec_l1Letters.f k s m) ((bytesOf s).all low && decide ((s.size : Int) ≤ m)) :=
  letters_loop s m h s.size 0 (by omega) (by omega) (by omega)
theorem l1Word_spec (s : ByteArray) (h : s.size ≤ 140737488351232) : Ev (fun k => spec_l1Word.f k s) (wordB s) := by
  unfold spec_l1Word.f
  by_cases c : (s.size : Int) > 0
  · have hp : 0 < s.size := by omega
    refine evPos c (Ev.bind (letters_spec s 12 h) (evTo (Ev.now _) ?_))
    simp only [wordB, wordL, bytesOf_length, decide_eq_true hp, Bool.true_and]
    rw [Bool.and_comm]
    congr 1
    exact decide_eq_decide.2 (by omega)
  · exact evNeg c (evTo (Ev.now _) (wordB_no (by omega)).symm)
theorem l1Word_spec' (s : ByteArray) (h : s.size ≤ 281474976710656) : Ev (fun k => spec_l1Word.f k s) (wordB s) := by
  by_cases c : s.size ≤ 140737488351232
  · exact l1Word_spec s c
  unfold spec_l1Word.f
  refine evPos (by omega) (Ev.bind (letters_wide s 12 h) (evTo (Ev.now _) ?_))
  rw [wordB_no (by omega), decide_eq_false (by omega), Bool.and_false]
theorem rdOf_get (l : List ByteArray) (i : Int) (_ : 0 ≤ i) (h : i.toNat < l.length) : rdOf ByteArray.empty l i = l[i.toNat] := by
  simp [rdOf, List.getD_eq_getElem?_getD, List.getElem?_eq_getElem h]
theorem put_end (l : List ByteArray) (s : ByteArray) (i : Int) (h0 : 0 ≤ i) (h1 : i ≤ l.length) (hl : l.length ≤ 1000000) : Ev (fun k => spec_l1Put.j2 k l s i false) (l.take i.toNat ++ s :: l.drop i.toNat) := by
  refine Ev.step (fun k => spec_l1Put.j2.eq_2 _ _ _ _ _) (evNeg (by simp) (evCall rfl (evPos h0 (evPos h1 (evCall rfl (evPos ?_ (evCall rfl (evCall rfl (evPos ?_ (evCall rfl (evCall rfl (evPos ?_ (evTo (Ev.now _) ?_)))))))))))))
  · simp only [List.length_nil, List.length_take]
    omega
  · simp only [List.nil_append, List.length_take, List.length_cons, List.length_nil]
    omega
  · simp only [List.nil_append, List.length_append, List.length_take, List.length_cons, List.length_nil, List.length_drop]
    omega
  · simp
theorem put_loop (l : List ByteArray) (s : ByteArray) (hl : l.length ≤ 1000000) (d : Nat) : ∀ i : Int, 0 ≤ i → i ≤ l.length → (l.length : Int) - i = d →
    Ev (fun k => spec_l1Put.l0 k l s i) (l.take i.toNat ++ putL (l.drop i.toNat) s) := by
  induction d with
  | zero =>
    intro i h0 h1 hd
    have e := put_end l s i h0 h1 hl
    rw [List.drop_eq_nil_of_le (by omega)] at e ⊢
    exact Ev.step (fun k => spec_l1Put.l0.eq_2 _ _ _ _) (evNeg (by omega) (Ev.step (fun k => spec_l1Put.j1.eq_2 _ _ _ _ _) (evNeg (by simp) (evNeg (by omega) e))))
  | succ d ih =>
    intro i h0 h1 hd
    have hi : i.toNat < l.length := by omega
    have e := put_end l s i h0 h1 hl
    have ihe := ih (i + 1) (by omega) (by omega) (by omega)
    rw [List.drop_eq_getElem_cons hi] at e ⊢
    rw [show (i + 1).toNat = i.toNat + 1 from by omega, List.take_succ_eq_append_getElem hi] at ihe
    refine Ev.step (fun k => spec_l1Put.l0.eq_2 _ _ _ _) (evPos (by omega) (evPos h0 (Ev.step (fun k => spec_l1Put.j1.eq_2 _ _ _ _ _) ?_)))
    rw [rdOf_get l i h0 hi]
    generalize hx : l[i.toNat] = x at *
    by_cases c : Op.bytesLess x.toList s.toList = true
    · refine evPos c ?_
      rw [w64 (by omega) (by omega)]
      refine evTo ihe ?_
      simp [putL, ltS, c]
    · refine evNeg c (evPos (by omega) (evPos h0 ?_))
      by_cases c2 : x = s
      · refine Ev.step (fun k => spec_l1Put.j2.eq_2 _ _ _ _ _) (evPos (by simp [c2]) (evTo (Ev.now _) ?_))
        subst c2
        rw [show putL (x :: l.drop (i.toNat + 1)) x = x :: l.drop (i.toNat + 1) from by simp [putL, ltS_irrefl]]
        have : x :: l.drop (i.toNat + 1) = l.drop i.toNat := by rw [List.drop_eq_getElem_cons hi, hx]
        rw [this, List.take_append_drop]
      · rw [show (x.toList == s.toList) = false from by rw [toList_beq]; simp [c2]]
        refine evTo e ?_
        simp [putL, ltS, c, c2]
theorem put_ev (l : List ByteArray) (s : ByteArray) (hl : l.length ≤ 1000000) : Ev (fun k => spec_l1Put.f k l s) (putL l s) :=
  evTo (put_loop l s hl l.length 0 (by omega) (by omega) (by omega)) (by simp)
theorem step_ev (l : List ByteArray) (s x : ByteArray) (hl : l.length ≤ 1000000) (hx : x.size ≤ 140737488351232) : Ev (fun k => spec_l1Step.f k l s x) (stepL s l x) := by
  unfold spec_l1Step.f
  by_cases c : x = s
  · exact evPos (by rw [c]) (Ev.step (fun k => spec_l1Step.j0.eq_2 _ _ _ _) (evPos rfl (evTo (Ev.now _) (by simp [stepL, c]))))
  · refine evNeg (fun h => c ((toList_iff _ _).1 h)) (Ev.bind (l1Word_spec x hx) (Ev.step (fun k => spec_l1Step.j0.eq_2 _ _ _ _) ?_))
    cases e : wordB x with
    | false => exact evPos rfl (evTo (Ev.now _) (by simp [stepL, e]))
    | true => exact evNeg (by simp) (Ev.bind (put_ev l x hl) (evTo (Ev.now _) (by simp [stepL, c, e])))
theorem w32 {n : Int} (h0 : -2147483648 ≤ n) (h1 : n ≤ 2147483647) : wrap32 n = n := by
  unfold wrap32
  omega
theorem near_end {s : ByteArray} {i : Nat} {l r : List ByteArray} (h1 : i ≤ s.size) (hs : s.size ≤ 100) (hl : l.length ≤ 1000 * i + 900)
    (next : ∀ l' : List ByteArray, l' = (swpAt s i).foldl (stepL s) l → Ev (fun k => spec_l1Near.l0 k s l' ((i + 1 : Nat) : Int)) r) : Ev (fun k => spec_l1Near.j2 k s l (i : Int)) r := by
  refine Ev.step (fun k => spec_l1Near.j2.eq_2 _ _ _ _) ?_
  rw [w64 (n := (i : Int) + 1) (by omega) (by omega), w64 (n := (i : Int) + 2) (by omega) (by omega)]
  by_cases c : (i : Int) + 1 < s.size
  · have e1 : ((i : Int) + 1).toNat = i + 1 := by omega
    have e2 : ((i : Int) + 2).toNat = i + 2 := by omega
    have z0 : (s.extract 0 i).size = i := by rw [size_extract _ _ _ (by omega) (by omega)]; omega
    have z1 : (s.extract (i + 1) (i + 2)).size = 1 := by rw [size_extract _ _ _ (by omega) (by omega)]; omega
    have z2 : (s.extract i (i + 1)).size = 1 := by rw [size_extract _ _ _ (by omega) (by omega)]; omega
    have z3 : (s.extract (i + 2) s.size).size = s.size - (i + 2) := size_extract _ _ _ (by omega) (Nat.le_refl _)
    rw [Int.toNat_natCast, e1, e2]
    refine evPos c (evPos (by omega) (evPos (by omega) (evPos (by omega) (evPos (by omega) (evPos (by omega) (evPos (by omega) (evPos (by omega) (evPos (by omega) (evPos ?_ (evPos (by omega) (evPos ?_ (Ev.bind (step_ev l s _ (by omega) ?_) ?_))))))))))))
    · rw [size_append]; omega
    · rw [size_append, size_append]; omega
    · rw [size_append, size_append, size_append]; omega
    · exact next _ (by rw [swpAt, if_pos (by omega)]; rfl)
  · exact evNeg c (next _ (by rw [swpAt, if_neg (by omega)]; rfl))
theorem near_letters {s : ByteArray} {i : Nat} {r : List ByteArray} (h1 : i ≤ s.size) (hs : s.size ≤ 100)
    (d : Nat) : ∀ (c : Nat) (l : List ByteArray), 97 ≤ c → c + d = 123 → l.length ≤ 1000 * i + (123 - d) * 2 →
    (∀ l' : List ByteArray, l' = (lettersAt s i c ++ delAt s i).foldl (stepL s) l → l'.length ≤ 1000 * i + 900 → Ev (fun k => spec_l1Near.j2 k s l' (i : Int)) r) → Ev (fun k => spec_l1Near.l1 k s l (i : Int) (c : Int)) r := by
  have z0 : (s.extract 0 i).size = i := by rw [size_extract _ _ _ (by omega) (by omega)]; omega
  have z1 : (s.extract i s.size).size = s.size - i := size_extract _ _ _ (by omega) (Nat.le_refl _)
  induction d with
  | zero =>
    intro c l hc hd hl next
    refine Ev.step (fun k => spec_l1Near.l1.eq_2 _ _ _ _ _) (evNeg (by omega) ?_)
    rw [lettersAt_end s i c (by omega), List.nil_append] at next
    by_cases q : (i : Int) < s.size
    · have z2 : (s.extract (i + 1) s.size).size = s.size - (i + 1) := size_extract _ _ _ (by omega) (Nat.le_refl _)
      rw [w64 (n := (i : Int) + 1) (by omega) (by omega), Int.toNat_natCast, show ((i : Int) + 1).toNat = i + 1 from by omega]
      refine evPos q (evPos (by omega) (evPos (by omega) (evPos (by omega) (evPos (by omega) (evPos (by omega) (Ev.bind (step_ev l s _ (by omega) (by rw [size_append]; omega)) ?_))))))
      refine next _ (by rw [delAt, if_pos (by omega)]; rfl) ?_
      have := (stepL_length s l (s.extract 0 i ++ s.extract (i + 1) s.size)).2
      omega
    · exact evNeg q (next _ (by rw [delAt, if_neg (by omega)]; rfl) (by omega))
  | succ d ih =>
    intro c l hc hd hl next
    refine Ev.step (fun k => spec_l1Near.l1.eq_2 _ _ _ _ _) (evPos (by omega) (evPos (by omega) (evPos (by omega) (evCall rfl ?_))))
    have zc : (strOfNums [(c : Int) % 256]).size = 1 := one_size _
    rw [Int.toNat_natCast]
    refine evPos (by omega) (evPos (by rw [size_append]; omega) (Ev.bind (step_ev l s _ (by omega) (by rw [size_append, size_append]; omega)) ?_))
    have hl1 := (stepL_length s l ((s.extract 0 i ++ strOfNums [(c : Int) % 256]) ++ s.extract i s.size)).2
    rw [w32 (by omega) (by omega)]
    rw [lettersAt_step s i c (by omega)] at next
    by_cases q : (i : Int) < s.size
    · have z2 : (s.extract (i + 1) s.size).size = s.size - (i + 1) := size_extract _ _ _ (by omega) (Nat.le_refl _)
      rw [w64 (n := (i : Int) + 1) (by omega) (by omega), show ((i : Int) + 1).toNat = i + 1 from by omega]
      refine evPos q (evCall rfl (evPos (by omega) (evPos (by omega) (evPos (by omega) (evPos (by rw [size_append]; omega) (Ev.bind (step_ev _ s _ (by omega) (by rw [size_append, size_append]; omega)) ?_))))))
      have hl2 := (stepL_length s (stepL s l ((s.extract 0 i ++ strOfNums [(c : Int) % 256]) ++ s.extract i s.size)) ((s.extract 0 i ++ strOfNums [(c : Int) % 256]) ++ s.extract (i + 1) s.size)).2
      refine ih (c + 1) _ (by omega) (by omega) (by omega) (fun l' h' => next l' ?_)
      rw [h', letAt, if_pos (by omega)]
      rfl
    · refine evNeg q (ih (c + 1) _ (by omega) (by omega) (by omega) (fun l' h' => next l' ?_))
      rw [h', letAt, if_neg (by omega)]
      rfl
theorem near_loop {s : ByteArray} (hs : s.size ≤ 100) (d : Nat) : ∀ (i : Nat) (l : List ByteArray), i + d = s.size + 1 → l.length ≤ 1000 * i → Ev (fun k => spec_l1Near.l0 k s l (i : Int)) ((candsFrom s i).foldl (stepL s) l) := by
  induction d with
  | zero =>
    intro i l hd hl
    rw [candsFrom_end s i (by omega)]
    exact Ev.step (fun k => spec_l1Near.l0.eq_2 _ _ _ _) (evNeg (by omega) (Ev.now _))
  | succ d ih =>
    intro i l hd hl
    refine Ev.step (fun k => spec_l1Near.l0.eq_2 _ _ _ _) (evPos (by omega) ?_)
    refine near_letters (c := 97) (d := 26) (by omega) hs _ (by omega) (by omega) (by omega) (fun l1 e1 hl1 => near_end (by omega) hs hl1 (fun l2 e2 => ?_))
    refine evTo (ih (i + 1) l2 (by omega) ?_) ?_
    · rw [e2]
      have h1 : ((swpAt s i).foldl (stepL s) l1).length ≤ l1.length + (swpAt s i).length := foldStep_length s _ _
      have h2 : (swpAt s i).length ≤ 1 := by unfold swpAt; split <;> simp
      omega
    · rw [candsFrom_step s i (by omega), List.foldl_append, e2, e1, candsAt, List.foldl_append, List.foldl_append, List.foldl_append]
theorem near_ev (s : ByteArray) (hs : s.size ≤ 100) : Ev (fun k => spec_l1Near.f k s) (nearL s) :=
  near_loop hs (s.size + 1) 0 [] (by omega) (by simp)
theorem lower_loop (s : ByteArray) (h : s.size ≤ 140737488351232) (d : Nat) : ∀ i : Int, 0 ≤ i → i ≤ s.size → (s.size : Int) - i = d →
    Ev (fun k => impl_lower.l0 k s (s.size : Int) i) (((bytesOf s).drop i.toNat).all low) := by
  induction d with
  | zero =>
    intro i h0 h1 hd
    refine Ev.step (fun k => impl_lower.l0.eq_2 _ _ _ _) (evNeg (by omega) ?_)
    rw [List.drop_eq_nil_of_le (by rw [bytesOf_length]; omega)]
    exact evTo (Ev.now _) (by simp)
  | succ d ih =>
    intro i h0 h1 hd
    refine Ev.step (fun k => impl_lower.l0.eq_2 _ _ _ _) (evPos (by omega) (evPos h0 (evPos (by omega) ?_)))
    rw [bytes_drop s i h0 (by omega), List.all_cons]
    by_cases c : bt s i < 97
    · exact evPos c (evTo (Ev.now _) (by simp [low]; omega))
    refine evNeg c ?_
    by_cases c1 : bt s i > 122
    · exact evPos c1 (evTo (Ev.now _) (by simp [low]; omega))
    refine evNeg c1 ?_
    have e : low (bt s i) = true := (low_iff _).2 (by omega)
    rw [w64 (by omega) (by omega), e, Bool.true_and]
    exact ih (i + 1) (by omega) (by omega) (by omega)
theorem lower_impl (s : ByteArray) (h : s.size ≤ 140737488351232) : Ev (fun k => impl_lower.f k s) ((bytesOf s).all low) :=
  lower_loop s h s.size 0 (by omega) (by omega) (by omega)
theorem within_impl (n a b : Int) : impl_within.f n a b = some (decide (a ≤ n) && decide (n ≤ b)) := by
  unfold impl_within.f
  by_cases c : n ≥ a
  · rw [if_pos c]; simp [c]
  · rw [if_neg c]; simp; omega
theorem word_impl (s : ByteArray) (h : s.size ≤ 140737488351232) : Ev (fun k => impl_WordOk.f k s) (wordB s) := by
  unfold impl_WordOk.f
  refine evCall (within_impl _ _ _) ?_
  by_cases c : (1 ≤ (s.size : Int) ∧ (s.size : Int) ≤ 12)
  · have hp : 0 < s.size := by omega
    have hq : s.size ≤ 12 := by omega
    refine evPos (by simp; omega) (Ev.bind (lower_impl s h) (evTo (Ev.now _) ?_))
    simp only [wordB, wordL, bytesOf_length, decide_eq_true hp, decide_eq_true hq, Bool.true_and]
  · exact evNeg (by simp; omega) (evTo (Ev.now _) (wordB_no (by omega)).symm)
theorem word_impl' (s : ByteArray) (h : s.size ≤ 281474976710656) : Ev (fun k => impl_WordOk.f k s) (wordB s) := by
  by_cases c : s.size ≤ 140737488351232
  · exact word_impl s c
  · unfold impl_WordOk.f
    refine evCall (within_impl _ _ _) ?_
    exact evNeg (by simp; omega) (evTo (Ev.now _) (wordB_no (by omega)).symm)
theorem cand_size (s x : ByteArray) (hx : x ∈ candsFrom s 0) : x.size ≤ s.size + 2 := by
  unfold candsFrom at hx
  obtain ⟨i, hi, hx⟩ := List.mem_flatMap.1 hx
  have hi2 := (List.mem_range'_1.1 hi).2
  have e1 : ∀ c : Int, (strOfNums [c]).size = 1 := fun _ => rfl
  have ex : ∀ a b : Nat, (s.extract a b).size ≤ b - a ∧ (s.extract a b).size ≤ s.size - a := by
    intro a b
    rw [← bytesOf_length, bytes_extract, List.length_take, List.length_drop, bytesOf_length]
    omega
  unfold candsAt at hx
  rcases List.mem_append.1 hx with hx | hx
  · unfold lettersAt at hx
    obtain ⟨c, _, hx⟩ := List.mem_flatMap.1 hx
    have h1 := (ex 0 i).1
    have h2 := (ex i s.size).2
    have h3 := (ex (i + 1) s.size).2
    unfold letAt at hx
    split at hx
    · rcases List.mem_cons.1 hx with rfl | hx
      · unfold insB
        rw [size_append, size_append, e1]
        omega
      · rw [List.mem_singleton.1 hx]
        unfold subB
        rw [size_append, size_append, e1]
        omega
    · rw [List.mem_singleton.1 hx]
      unfold insB
      rw [size_append, size_append, e1]
      omega
  · rcases List.mem_append.1 hx with hx | hx
    · have h1 := (ex 0 i).1
      have h3 := (ex (i + 1) s.size).2
      unfold delAt at hx
      split at hx
      · rw [List.mem_singleton.1 hx]
        unfold delB
        rw [size_append]
        omega
      · cases hx
    · have h1 := (ex 0 i).1
      have h2 := (ex (i + 1) (i + 2)).1
      have h3 := (ex i (i + 1)).1
      have h4 := (ex (i + 2) s.size).2
      unfold swpAt at hx
      split at hx
      · rw [List.mem_singleton.1 hx]
        unfold swpB
        rw [size_append, size_append, size_append]
        omega
      · cases hx
theorem go_ev (s : ByteArray) (l : List ByteArray) : ∀ xs : List ByteArray, xs.length + l.length ≤ 90000 → (∀ x ∈ l, x.size ≤ 1048576) → Ev (fun k => impl_Near.go k s l xs) (xs ++ l.filter (fun x => decide (x ≠ s) && wordB x)) := by
  induction l with
  | nil =>
    intro xs _ _
    exact evTo (Ev.now _) (by simp)
  | cons x l ih =>
    intro xs hl hz
    rw [List.length_cons] at hl
    have hz' : ∀ y ∈ l, y.size ≤ 1048576 := fun y hy => hz y (List.mem_cons_of_mem _ hy)
    have hx := hz x List.mem_cons_self
    show Ev (fun k => (impl_Near.put k s xs x).bind fun ys => impl_Near.go k s l ys) _
    by_cases c : x = s
    · subst c
      refine Ev.bind (a := xs) (evPos (by omega) (evPos rfl (Ev.now _))) (evTo (ih xs (by omega) hz') ?_)
      simp
    · refine Ev.bind (a := xs ++ (if wordB x = true then [x] else [])) (evPos (by omega) (evNeg (fun h => c ((toList_iff _ _).1 h)) (Ev.bind (word_impl x (by omega)) (evTo (Ev.now _) ?_)))) (evTo (ih _ ?_ hz') ?_)
      · cases wordB x <;> simp
      · rw [List.length_append]
        have : (if wordB x = true then [x] else []).length ≤ 1 := by split <;> simp
        omega
      · cases e : wordB x <;> simp [c, e]
def nearB (s : ByteArray) : List ByteArray := if wordB s = true then nearL s else []
theorem near_impl (s : ByteArray) (h : s.size ≤ 140737488351232) : Ev (fun k => impl_Near.f k s) (nearB s) := by
  unfold impl_Near.f nearB
  refine Ev.bind (word_impl s h) ?_
  cases e : wordB s with
  | false => exact evNeg (by simp) (evTo (Ev.now _) (by simp))
  | true =>
    have hs := wordB_size e
    have hl := candsFrom_length s 0
    have hg := go_ev s (candsFrom s 0) [] (by simp; omega) (fun x hx => by have := cand_size s x hx; omega)
    refine evPos rfl (evPos (by omega) (Ev.bind hg (evTo (evEq (r := nearL s) ?_) (by simp))))
    have hf := List.length_filter_le (fun x => decide (x ≠ s) && wordB x) (candsFrom s 0)
    unfold impl_sorted.f
    rw [if_pos (by simp only [List.nil_append]; omega)]
    congr 1
    refine asc_ext (setL_asc _) (nearL_asc s) (fun x => ?_)
    rw [setL_mem, nearL_mem, List.nil_append, List.mem_filter]
    simp
theorem near_spec (s : ByteArray) (h : s.size ≤ 140737488351232) : Ev (fun k => spec_Near.f k s) (nearB s) := by
  unfold spec_Near.f nearB
  refine Ev.bind (l1Word_spec s h) ?_
  cases e : wordB s with
  | false => exact evNeg (by simp) (evTo (Ev.now _) (by simp))
  | true =>
    have hs := wordB_size e
    exact evPos rfl (Ev.bind (near_ev s (by omega)) (evTo (Ev.now _) (by simp)))
theorem nearB_length (s : ByteArray) : (nearB s).length ≤ 100000 := by
  unfold nearB
  split
  · rename_i e
    have h1 := nearL_length s
    have h2 := wordB_size e
    omega
  · simp
theorem ba_get (l : List ByteArray) (i : Nat) (h : i < l.length) : rdOf ByteArray.empty l (i : Int) = l[i] := by simp [rdOf, List.getD_eq_getElem?_getD, List.getElem?_eq_getElem h]
theorem ba_at {P : ByteArray → Prop} {l : List ByteArray} (h : ∀ s ∈ l, P s) (i : Nat) (hi : i < l.length) : P (rdOf ByteArray.empty l (i : Int)) := by
  rw [ba_get l i hi]
  exact h _ (List.getElem_mem hi)
theorem markText_loop (d : Nat) : ∀ (n : Int) (s : ByteArray), 0 ≤ n → n < 2 ^ d → n ≤ 4611686018427387904 → s.size + d ≤ 1000000 → ∃ t, Ev (fun k => laws_markText.l0 k n s) t := by
  induction d with
  | zero =>
    intro n s h0 h1 h2 hs
    exact ⟨_, Ev.step (fun k => laws_markText.l0.eq_2 _ _ _) (evNeg (by simp at h1; omega) (evPos (by omega) (Ev.now _)))⟩
  | succ d ih =>
    intro n s h0 h1 h2 hs
    by_cases c : n > 0
    · have hd : Int.tdiv n 10 = n / 10 := Int.tdiv_eq_ediv_of_nonneg h0
      have hp : (2 : Int) ^ (d + 1) = 2 ^ d * 2 := Int.pow_succ 2 d
      have hz : ∀ x : Int, (strOfNums [x]).size = 1 := fun _ => rfl
      obtain ⟨t, ht⟩ := ih (n / 10) (strOfNums [(wrap64 (48 + (Int.tmod n 10))) % 256] ++ s) (by omega) (by omega) (by omega) (by rw [size_append, hz]; omega)
      refine ⟨t, Ev.step (fun k => laws_markText.l0.eq_2 _ _ _) (evPos c (evCall rfl (evPos (by rw [hz]; omega) ?_)))⟩
      rw [hd, w64 (n := n / 10) (by omega) (by omega)]
      exact ht
    · exact ⟨_, Ev.step (fun k => laws_markText.l0.eq_2 _ _ _) (evNeg c (evPos (by omega) (Ev.now _)))⟩
theorem markText_some (n : Int) (h1 : n ≤ 4611686018427387904) : ∃ t, Ev (fun k => laws_markText.f k n) t := by
  unfold laws_markText.f
  by_cases c : n ≤ 0
  · exact ⟨_, evPos c (Ev.now _)⟩
  · obtain ⟨t, ht⟩ := markText_loop 63 n ⟨#[]⟩ (by omega) (by omega) h1 (by decide)
    exact ⟨t, evNeg c ht⟩
/-- The mark of a number. -/
noncomputable def mt (n : Int) : ByteArray := Classical.epsilon (fun t => Ev (fun k => laws_markText.f k n) t)
theorem mt_ev (n : Int) (h1 : n ≤ 4611686018427387904) : Ev (fun k => laws_markText.f k n) (mt n) := Classical.epsilon_spec (p := fun t => Ev (fun k => laws_markText.f k n) t) (markText_some n h1)
noncomputable def marks (n : Int) (d : Nat) : List ByteArray := (List.range d).map (fun j : Nat => mt (n + (j : Int)))
theorem marks_length (n : Int) (d : Nat) : (marks n d).length = d := by simp [marks]
theorem marks_get (n : Int) (d i : Nat) (h : i < d) : rdOf ByteArray.empty (marks n d) (i : Int) = mt (n + i) := by
  rw [ba_get _ i (by rw [marks_length]; exact h)]
  simp [marks]
theorem markStr_loop (l0 : Nat) (d : Nat) : ∀ (i : Nat) (y : List ByteArray), y.length = l0 → i + d = l0 → l0 ≤ 1000000 → (∀ j : Nat, j < i → y[j]? = (marks 1 l0)[j]?) → Ev (fun k => laws_markStringS.l0 k y ((1 : Int) + i) (i : Int)) ((1 : Int) + l0, marks 1 l0) := by
  induction d with
  | zero =>
    intro i y hy hi hl h
    refine Ev.step (fun k => laws_markStringS.l0.eq_2 _ _ _ _) (evNeg (by omega) (evTo (Ev.now _) ?_))
    have e : y = marks 1 l0 := by
      refine List.ext_getElem? fun j => ?_
      by_cases c : j < i
      · exact h j c
      · rw [List.getElem?_eq_none (by omega), List.getElem?_eq_none (by rw [marks_length]; omega)]
    rw [e, show (1 : Int) + (i : Int) = 1 + (l0 : Int) from by omega]
  | succ d ih =>
    intro i y hy hi hl h
    refine Ev.step (fun k => laws_markStringS.l0.eq_2 _ _ _ _) (evPos (by omega) (Ev.bind (mt_ev _ (by omega)) (evPos (by omega) ?_)))
    rw [w64 (n := (1 : Int) + (i : Int) + 1) (by omega) (by omega), w64 (n := (i : Int) + 1) (by omega) (by omega), show (1 : Int) + (i : Int) + 1 = 1 + ((i + 1 : Nat) : Int) from by omega]
    refine ih (i + 1) _ (by simpa using hy) (by omega) hl (fun j hj => ?_)
    rw [Int.toNat_natCast]
    by_cases c : i = j
    · subst c
      rw [List.getElem?_set_self (by omega)]
      simp [marks, show i < l0 from by omega]
    · rw [List.getElem?_set_ne c]
      exact h j (by omega)
theorem markStrs_ev (l : List ByteArray) (hl : l.length ≤ 1000000) : Ev (fun k => laws_markStringS.f k l 1) ((1 : Int) + l.length, marks 1 l.length) := by
  unfold laws_markStringS.f
  have := markStr_loop l.length l.length 0 l rfl (by omega) hl (fun j hj => absurd hj (by omega))
  simpa using this
theorem held_loop (l0 : Nat) (d : Nat) : ∀ i : Nat, i + d = l0 → l0 ≤ 1000000 → Ev (fun k => laws_heldStringS.l0 k (marks 1 l0) ((1 : Int) + i) (i : Int)) ((1 : Int) + l0) := by
  induction d with
  | zero =>
    intro i hi hl
    refine Ev.step (fun k => laws_heldStringS.l0.eq_2 _ _ _ _) (evNeg (by rw [marks_length]; omega) (evTo (Ev.now _) (by omega)))
  | succ d ih =>
    intro i hi hl
    refine Ev.step (fun k => laws_heldStringS.l0.eq_2 _ _ _ _) (evPos (by rw [marks_length]; omega) (evPos (by omega) (Ev.bind (mt_ev _ (by omega)) (evPos (by rw [marks_get 1 l0 i (by omega)]) ?_))))
    rw [w64 (n := (1 : Int) + (i : Int) + 1) (by omega) (by omega), w64 (n := (i : Int) + 1) (by omega) (by omega), show (1 : Int) + (i : Int) + 1 = 1 + ((i + 1 : Nat) : Int) from by omega]
    exact ih (i + 1) (by omega) hl
theorem held_ev (n : Nat) (hl : n ≤ 1000000) : Ev (fun k => laws_heldStringS.f k (marks 1 n) 1) ((1 : Int) + n) := by
  unfold laws_heldStringS.f
  have := held_loop n n 0 (by omega) hl
  simpa using this
theorem eqStr_loop (l : List ByteArray) (hl : l.length ≤ 10000000) (d : Nat) : ∀ i : Nat, i + d = l.length → Ev (fun k => laws_eqStringS.l0 k l l (i : Int)) true := by
  induction d with
  | zero =>
    intro i hi
    exact Ev.step (fun k => laws_eqStringS.l0.eq_2 _ _ _ _) (evNeg (by omega) (Ev.now _))
  | succ d ih =>
    intro i hi
    refine Ev.step (fun k => laws_eqStringS.l0.eq_2 _ _ _ _) (evPos (by omega) (evPos (by omega) (evPos (by omega) (evPos rfl ?_))))
    rw [w64 (by omega) (by omega)]
    exact ih (i + 1) (by omega)
theorem eqStrs_ev (l : List ByteArray) (hl : l.length ≤ 10000000) : Ev (fun k => laws_eqStringS.f k l l) true := by
  unfold laws_eqStringS.f
  exact evPos rfl (eqStr_loop l hl l.length 0 (by omega))
theorem FnExactNear : laws_FnExactNear.Pure := by
  intro a h
  refine Ev.rounds ?_
  unfold laws_FnExactNear.f
  by_cases c : (a.size : Int) > 1048576
  · exact evPos c (Ev.now _)
  have ni := near_impl a h
  have ns := near_spec a h
  have hl := nearB_length a
  generalize nearB a = r at ni ns hl
  have er := eqStrs_ev r (by omega)
  have hms := markStrs_ev r (by omega)
  have hh := held_ev r.length (by omega)
  refine evNeg c (Ev.bind ns (Ev.bind ni (Ev.bind er (evPos rfl ?_))))
  refine Ev.bind hms (Ev.bind hh (evNeg (by omega) (evPos rfl ?_)))
  refine Ev.bind ni (Ev.bind er (evPos rfl ?_))
  exact Ev.bind hh (evNeg (by omega) (evPos rfl (Ev.now _)))
end Go.Proofs.Ytedfcehhgbeibaa.Pure

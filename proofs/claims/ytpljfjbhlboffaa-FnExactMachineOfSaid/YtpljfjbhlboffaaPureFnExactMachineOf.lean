/- MachineOf answers as the reference, of every texts, and its answer is its own. No condition. -/
import Derived.Test.YtpljfjbhlboffaaQFnExactMachineOfx10
import Derived.Test.YtpljfjbhlboffaaVMBas
import Derived.Test.YtpljfjbhlboffaaVMStr
import Derived.Test.YtpljfjbhlboffaaVMAff
import Derived.Test.YtpljfjbhlboffaaVMSml
import Derived.Test.YtpljfjbhlboffaaVMNer
import Derived.Test.YtpljfjbhlboffaaVMSrt
import Derived.Test.YtpljfjbhlboffaaVMAry
namespace Go.Proofs.Ytpljfjbhlboffaa.Pure
open Go.RowKit Go.Proofs.Ytpljfjbhlboffaa.QFnExactMachineOf Go.Proofs.YtpljfjbhlboffaaW.PrintWords Go.Proofs.YtpljfjbhlboffaaW.PrintLast Go.Proofs.YtpljfjbhlboffaaW.PrintMore Go.Proofs.Ytpljfjbhlboffaa.M
set_option linter.unusedVariables false
set_option linter.unusedSimpArgs false
theorem letters_loop (s : ByteArray) (m : Int) (h : s.size ≤ 281474976710656) (d : Nat) : ∀ i : Int, 0 ≤ i → i ≤ s.size → (s.size : Int) - i = d →
  Ev (fun k => spec_l1Letters.l0 k s m i) (((bytesOf s).drop i.toNat).all low && decide ((s.size : Int) ≤ m)) := by
 induction d with
 | zero =>
  intro i h0 h1 hd
  refine Ev.step (fun k => spec_l1Letters.l0.eq_2 _ _ _ _) (eN ?_)
  rw [List.drop_eq_nil_of_le (by rw [bytesOf_length]; omega)]
  exact evTo (Ev.now _) (by simp)
 | succ d ih =>
  intro i h0 h1 hd
  refine Ev.step (fun k => spec_l1Letters.l0.eq_2 _ _ _ _) (eP (evPos h0 ?_))
  rw [bytes_drop s i h0 (by omega), List.all_cons]
  by_cases c : bt s i < 97
  ·exact evPos c (evTo (Ev.now _) (by simp [low]; omega))
  refine evNeg c ?_
  by_cases c1 : bt s i > 122
  ·exact evPos c1 (evTo (Ev.now _) (by simp [low]; omega))
  refine evNeg c1 ?_
  have e : low (bt s i) = true := (low_iff _).2 (by omega)
  rw [w6, e, Bool.true_and]
  exact ih (i + 1) (by omega) (by omega) (by omega)
theorem letters_spec (s : ByteArray) (m : Int) (h : s.size ≤ 140737488351232) : Ev (fun k => spec_l1Letters.f k s m) ((bytesOf s).all low && decide ((s.size : Int) ≤ m)) :=
 letters_loop s m (by omega) s.size 0 (by omega) (by omega) (by omega)
theorem l1Word_spec (s : ByteArray) (h : s.size ≤ 140737488351232) : Ev (fun k => spec_l1Word.f k s) (wordB s) := by
 unfold spec_l1Word.f
 by_cases c : (s.size : Int) > 0
 ·have hp : 0 < s.size := by omega
  refine evPos c (Ev.bind (letters_spec s 12 h) (evTo (Ev.now _) ?_))
  simp only [wordB, wordL, bytesOf_length, decide_eq_true hp, Bool.true_and]
  rw [Bool.and_comm]
  congr 1
  exact decide_eq_decide.2 (by omega)
 ·exact evNeg c (evTo (Ev.now _) (wordB_no (by omega)).symm)
theorem ba_get (l : List ByteArray) (i : Nat) (h : i < l.length) : rdOf ByteArray.empty l (i : Int) = l[i] := by simp [rdOf, List.getD_eq_getElem?_getD, List.getElem?_eq_getElem h]
theorem ba_at {P : ByteArray → Prop} {l : List ByteArray} (h : ∀ s ∈ l, P s) (i : Nat) (hi : i < l.length) : P (rdOf ByteArray.empty l (i : Int)) := by
 rw [ba_get l i hi]
 exact h _ (List.getElem_mem hi)
theorem lower_loop (s : ByteArray) (h : s.size ≤ 140737488351232) (d : Nat) : ∀ i : Int, 0 ≤ i → i ≤ s.size → (s.size : Int) - i = d →
  Ev (fun k => impl_lower.l0 k s (s.size : Int) i) (((bytesOf s).drop i.toNat).all low) := by
 induction d with
 | zero =>
  intro i h0 h1 hd
  refine Ev.step (fun k => impl_lower.l0.eq_2 _ _ _ _) (eN ?_)
  rw [List.drop_eq_nil_of_le (by rw [bytesOf_length]; omega)]
  exact evTo (Ev.now _) (by simp)
 | succ d ih =>
  intro i h0 h1 hd
  refine Ev.step (fun k => impl_lower.l0.eq_2 _ _ _ _) (eP (evPos h0 (eP ?_)))
  rw [bytes_drop s i h0 (by omega), List.all_cons]
  by_cases c : bt s i < 97
  ·exact evPos c (evTo (Ev.now _) (by simp [low]; omega))
  refine evNeg c ?_
  by_cases c1 : bt s i > 122
  ·exact evPos c1 (evTo (Ev.now _) (by simp [low]; omega))
  refine evNeg c1 ?_
  have e : low (bt s i) = true := (low_iff _).2 (by omega)
  rw [w6, e, Bool.true_and]
  exact ih (i + 1) (by omega) (by omega) (by omega)
theorem lower_impl (s : ByteArray) (h : s.size ≤ 140737488351232) : Ev (fun k => impl_lower.f k s) ((bytesOf s).all low) :=
 lower_loop s h s.size 0 (by omega) (by omega) (by omega)
theorem within_impl (n a b : Int) : impl_within.f n a b = some (decide (a ≤ n) && decide (n ≤ b)) := by
 unfold impl_within.f
 by_cases c : n ≥ a
 ·rw [if_pos c]; simp [c]
 ·rw [if_neg c]; simp; omega
theorem word_impl (s : ByteArray) (h : s.size ≤ 140737488351232) : Ev (fun k => impl_WordOk.f k s) (wordB s) := by
 unfold impl_WordOk.f
 refine evCall (within_impl _ _ _) ?_
 by_cases c : (1 ≤ (s.size : Int) ∧ (s.size : Int) ≤ 12)
 ·have hp : 0 < s.size := by omega
  have hq : s.size ≤ 12 := by omega
  refine evPos (by simp; omega) (Ev.bind (lower_impl s h) (evTo (Ev.now _) ?_))
  simp only [wordB, wordL, bytesOf_length, decide_eq_true hp, decide_eq_true hq, Bool.true_and]
 ·exact evNeg (by simp; omega) (evTo (Ev.now _) (wordB_no (by omega)).symm)
def wGo (l : List ByteArray) : Nat → Int → Bool
 | 0, _ => true
 | d + 1, i => wordB (rdOf ByteArray.empty l i) && (if i > 0 then Op.bytesLess (rdOf ByteArray.empty l (i - 1)).toList (rdOf ByteArray.empty l i).toList else true) && wGo l d (i + 1)
theorem words_impl_loop (l : List ByteArray) (n : Int) (hl : l.length ≤ 1048576) (he : ∀ s ∈ l, s.size ≤ 1048576) (d : Nat) : ∀ i : Nat, i + d = l.length → Ev (fun k => impl_wordsOk.l0 k l n l (l.length : Int) (i : Int)) (wGo l d i && decide ((l.length : Int) ≤ n)) := by
 induction d with
 | zero =>
  intro i hi
  refine Ev.step (fun k => impl_wordsOk.l0.eq_2 _ _ _ _ _ _) (eN (evTo (Ev.now _) ?_))
  simp only [wGo, Bool.true_and]
 | succ d ih =>
  intro i hi
  have hs := ba_at (P := fun s => s.size ≤ 1048576) he i (by omega)
  refine Ev.step (fun k => impl_wordsOk.l0.eq_2 _ _ _ _ _ _) (eP (eP (eP (Ev.bind (word_impl _ (by omega)) ?_))))
  rw [w6 (n := (i : Int) + 1)]
  have next := ih (i + 1) (by omega)
  simp only [wGo]
  cases e : wordB (rdOf ByteArray.empty l (i : Int)) with
  | false => exact evNeg (by simp) (evTo (Ev.now _) (by simp))
  | true =>
   refine evPos rfl ?_
   by_cases c : (i : Int) > 0
   ·rw [w6 (n := (i : Int) - 1), if_pos c]
    refine evPos c (eP (eP ?_))
    cases g : Op.bytesLess (rdOf ByteArray.empty l ((i : Int) - 1)).toList (rdOf ByteArray.empty l (i : Int)).toList with
    | false => exact evNeg (by simp) (evTo (Ev.now _) (by simp))
    | true => exact evPos rfl (evTo next (by simp))
   ·rw [if_neg c]
    exact evNeg c (evTo next (by simp))
theorem words_impl (l : List ByteArray) (n : Int) (hl : l.length ≤ 1048576) (he : ∀ s ∈ l, s.size ≤ 1048576) : Ev (fun k => impl_wordsOk.f k l n) (wGo l l.length 0 && decide ((l.length : Int) ≤ n)) := words_impl_loop l n hl he l.length 0 (by omega)
def wsB (l : List ByteArray) : Bool := wGo l l.length 0 && decide ((l.length : Int) ≤ 300)
theorem l3Words_loop (l : List ByteArray) (hl : l.length ≤ 1048576) (he : ∀ s ∈ l, s.size ≤ 1048576) (d : Nat) : ∀ i : Nat, i + d = l.length → Ev (fun k => spec_l3Words.l0 k l (i : Int)) (wGo l d i && decide ((l.length : Int) ≤ 300)) := by
 induction d with
 | zero =>
  intro i hi
  refine Ev.step (fun k => spec_l3Words.l0.eq_2 ..) (eN (evTo (Ev.now _) ?_))
  simp only [wGo, Bool.true_and]
 | succ d ih =>
  intro i hi
  have hs := ba_at (P := fun s => s.size ≤ 1048576) he i (by omega)
  refine Ev.step (fun k => spec_l3Words.l0.eq_2 ..) (eP (eP (Ev.bind (l1Word_spec _ (by omega)) ?_)))
  rw [w6 (n := (i : Int) + 1)]
  have next := ih (i + 1) (by omega)
  simp only [wGo]
  cases e : wordB (rdOf ByteArray.empty l (i : Int)) with
  | false => exact evNeg (by simp) (evTo (Ev.now _) (by simp))
  | true =>
   refine evPos rfl ?_
   by_cases c : (i : Int) > 0
   ·rw [w6 (n := (i : Int) - 1), if_pos c]
    refine evPos c (eP (eP ?_))
    cases g : Op.bytesLess (rdOf ByteArray.empty l ((i : Int) - 1)).toList (rdOf ByteArray.empty l (i : Int)).toList with
    | false => exact evNeg (by simp) (evTo (Ev.now _) (by simp))
    | true => exact evPos rfl (evTo next (by simp))
   ·rw [if_neg c]
    exact evNeg c (evTo next (by simp))
theorem l3Words_ev (l : List ByteArray) (hl : l.length ≤ 1048576) (he : ∀ s ∈ l, s.size ≤ 1048576) : Ev (fun k => spec_l3Words.f k l) (wsB l) := l3Words_loop l hl he l.length 0 (by omega)
theorem wGo_words (l : List ByteArray) (d : Nat) : ∀ i : Nat, i + d = l.length → wGo l d i = true → ∀ s ∈ l.drop i, wordB s = true := by
 induction d with
 | zero =>
  intro i hi _ s hs
  rw [List.drop_eq_nil_of_le (by omega)] at hs
  cases hs
 | succ d ih =>
  intro i hi h s hs
  have hlt : i < l.length := by omega
  simp only [wGo, Bool.and_eq_true] at h
  rw [List.drop_eq_getElem_cons hlt] at hs
  rcases List.mem_cons.1 hs with rfl | hs
  ·rw [← ba_get l i hlt]
   exact h.1.1
  ·exact ih (i + 1) (by omega) h.2 s hs
theorem ws_facts {ws : List ByteArray} (h : wsB ws = true) : ws.length ≤ 300 ∧ (∀ s ∈ ws, wordB s = true) ∧ ∀ s ∈ ws, s.size ≤ 12 := by
 unfold wsB at h
 rw [Bool.and_eq_true, decide_eq_true_eq] at h
 have h2 := wGo_words ws ws.length 0 (by omega) h.1
 rw [List.drop_zero] at h2
 exact ⟨by omega, h2, fun s hs => (wordB_size (h2 s hs)).2⟩
theorem nodup_le {α : Type} [DecidableEq α] : ∀ (l k : List α), l.Nodup → (∀ x ∈ l, x ∈ k) → l.length ≤ k.length
 | [], _, _, _ => by simp
 | x :: l, k, hn, hs => by
  have hx := hs x (by simp)
  have hn' := List.nodup_cons.1 hn
  have := nodup_le l (k.erase x) hn'.2 (fun y hy => by
   have hne : y ≠ x := fun e => hn'.1 (e ▸ hy)
   exact (List.mem_erase_of_ne hne).2 (hs y (by simp [hy])))
  rw [List.length_erase_of_mem hx] at this
  have : 0 < k.length := List.length_pos_of_mem hx
  rw [List.length_cons]
  omega
def endsL (l : List ByteArray) (c : Int) : List ByteArray := (l.filter (fun s => decide (0 < s.size) && decide (bt s 0 = c))).map (fun s => s.extract 1 s.size)
theorem endsL_cons (s : ByteArray) (l : List ByteArray) (c : Int) : endsL (s :: l) c = (if 0 < s.size ∧ bt s 0 = c then [s.extract 1 s.size] else []) ++ endsL l c := by
 unfold endsL
 rw [List.filter_cons]
 by_cases h1 : 0 < s.size
 ·by_cases h2 : bt s 0 = c
  ·simp [h1, h2]
  ·simp [h2]
 ·simp [h1]
theorem ends_loop (l : List ByteArray) (c : Int) (hl : l.length ≤ 100000) (d : Nat) : ∀ (i : Nat) (out : List ByteArray), i + d = l.length → out.length ≤ i → Ev (fun k => spec_l3Ends.l0 k l c out (i : Int)) (out ++ endsL (l.drop i) c) := by
 induction d with
 | zero =>
  intro i out hi ho
  refine Ev.step (fun k => spec_l3Ends.l0.eq_2 ..) (eN (evTo (Ev.now _) ?_))
  rw [List.drop_eq_nil_of_le (by omega)]
  simp [endsL]
 | succ d ih =>
  intro i out hi ho
  have hlt : i < l.length := by omega
  have e1 : wrap64 ((i : Int) + 1) = ((i + 1 : Nat) : Int) := w6
  refine Ev.step (fun k => spec_l3Ends.l0.eq_2 ..) (eP (eP ?_))
  rw [ba_get l i hlt, e1, List.drop_eq_getElem_cons hlt, endsL_cons]
  by_cases c1 : (l[i].size : Int) > 0
  ·refine evPos c1 (evPos c1 ?_)
   by_cases c2 : bt l[i] 0 = c
   ·rw [if_pos ⟨by omega, c2⟩]
    refine evPos c2 (eP (eP (evTo (ih (i + 1) _ (by omega) (by simp; omega)) ?_)))
    simp
   ·rw [if_neg (fun h => c2 h.2), List.nil_append]
    exact evNeg c2 (ih (i + 1) _ (by omega) (by omega))
  ·rw [if_neg (fun h => c1 (by have := h.1; omega)), List.nil_append]
   exact evNeg c1 (ih (i + 1) _ (by omega) (by omega))
theorem ends_ev (l : List ByteArray) (c : Int) (hl : l.length ≤ 100000) : Ev (fun k => spec_l3Ends.f k l c) (endsL l c) := by
 have := ends_loop l c hl l.length 0 [] (by omega) (by simp)
 rw [List.drop_zero, List.nil_append] at this
 exact this
theorem endsL_length (l : List ByteArray) (c : Int) : (endsL l c).length ≤ l.length := by
 unfold endsL
 rw [List.length_map]
 exact List.length_filter_le _ _
theorem same_loop (a b : List ByteArray) (h : a.length = b.length) (hl : a.length ≤ 100000) (d : Nat) : ∀ i : Nat, i + d = a.length → Ev (fun k => spec_l3Same.l0 k a b (i : Int)) (decide (a.drop i = b.drop i)) := by
 induction d with
 | zero =>
  intro i hi
  refine Ev.step (fun k => spec_l3Same.l0.eq_2 ..) (eN (evTo (Ev.now _) ?_))
  rw [List.drop_eq_nil_of_le (by omega), List.drop_eq_nil_of_le (by omega)]
  simp
 | succ d ih =>
  intro i hi
  have h1 : i < a.length := by omega
  have h2 : i < b.length := by omega
  refine Ev.step (fun k => spec_l3Same.l0.eq_2 ..) (eP (eP (eP ?_)))
  rw [ba_get a i h1, ba_get b i h2, w6 (n := (i : Int) + 1), List.drop_eq_getElem_cons h1, List.drop_eq_getElem_cons h2]
  by_cases c : a[i] = b[i]
  ·refine evPos (by rw [c]) (evTo (ih (i + 1) (by omega)) ?_)
   rw [c, decide_eq_decide]
   exact ⟨fun h => by rw [h], fun h => (List.cons.inj h).2⟩
  ·exact evNeg (fun e => c ((toList_iff _ _).1 e)) (evTo (Ev.now _) (decide_eq_false (fun e => c (List.cons.inj e).1)).symm)
theorem same_ev (a b : List ByteArray) (ha : a.length ≤ 100000) : Ev (fun k => spec_l3Same.f k a b) (decide (a = b)) := by
 unfold spec_l3Same.f
 by_cases h : a.length = b.length
 ·refine eP ?_
  have := same_loop a b h ha a.length 0 (by omega)
  rw [List.drop_zero, List.drop_zero] at this
  exact this
 ·refine eN (evTo (Ev.now _) ?_)
  rw [decide_eq_false]
  rintro rfl
  exact h rfl
theorem rls_get (l : List (List ByteArray)) (i : Nat) (h : i < l.length) : rd_L1 l (i : Int) = l[i] := by simp [rd_L1, List.getD_eq_getElem?_getD, h]
abbrev RowsZ (l : List (List ByteArray)) : Prop := ∀ x ∈ l, x.length ≤ 100000
def chainL (l : List ByteArray) (p : List Int) : List ByteArray := p.foldl endsL l
theorem ends_mem {l : List ByteArray} {c : Int} {t : ByteArray} (h : t ∈ endsL l c) : ∃ w ∈ l, bytesOf w = c :: bytesOf t := by
 unfold endsL at h
 obtain ⟨w, hw, rfl⟩ := List.mem_map.1 h
 obtain ⟨h1, h2⟩ := List.mem_filter.1 hw
 simp only [Bool.and_eq_true, decide_eq_true_eq] at h2
 refine ⟨w, h1, ?_⟩
 have := bytes_drop w 0 (by omega) (by omega)
 rw [show (0 : Int).toNat = 0 from rfl, List.drop_zero, show ((0 : Int) + 1).toNat = 1 from rfl, h2.2] at this
 rw [bytes_take_all]
 exact this
theorem chain_mem : ∀ (p : List Int) (l : List ByteArray) (t : ByteArray), t ∈ chainL l p → ∃ w ∈ l, bytesOf w = p ++ bytesOf t := by
 intro p
 induction p with
 | nil => exact fun l t h => ⟨t, h, rfl⟩
 | cons c p ih =>
  intro l t h
  obtain ⟨u, hu, h1⟩ := ih (endsL l c) t h
  obtain ⟨w, hw, h2⟩ := ends_mem hu
  exact ⟨w, hw, by rw [h2, h1]; rfl⟩
theorem chain_length (p : List Int) : ∀ l : List ByteArray, (chainL l p).length ≤ l.length := by
 induction p with
 | nil => exact fun l => Nat.le_refl _
 | cons c p ih => exact fun l => Nat.le_trans (ih (endsL l c)) (endsL_length l c)
theorem chain_snoc (l : List ByteArray) (p : List Int) (c : Int) : chainL l (p ++ [c]) = endsL (chainL l p) c := by
 unfold chainL
 rw [List.foldl_append]
 rfl
def begs (l : List ByteArray) : List (List Int) := l.flatMap (fun w => (List.range (w.size + 1)).map (fun n => (bytesOf w).take n))
theorem begs_length (l : List ByteArray) (n : Nat) (h : ∀ w ∈ l, w.size ≤ n) : (begs l).length ≤ (n + 1) * l.length := by
 induction l with
 | nil => simp [begs]
 | cons w l ih =>
  have h1 := ih (fun x hx => h x (List.mem_cons_of_mem _ hx))
  have h2 := h w List.mem_cons_self
  unfold begs at h1 ⊢
  rw [List.flatMap_cons, List.length_append, List.length_map, List.length_range, List.length_cons, Nat.mul_add]
  omega
structure AllOk (ws : List ByteArray) (out : List (List ByteArray)) : Prop where
 nodup : out.Nodup
 from_ : ∀ x ∈ out, ∃ p, x = chainL ws p ∧ (p = [] ∨ x ≠ [])
theorem chain_begs {ws : List ByteArray} {p : List Int} (h : p = [] ∨ chainL ws p ≠ []) : p ∈ ([] : List Int) :: begs ws := by
 rcases h with rfl | h
 ·exact List.mem_cons_self
 ·obtain ⟨t, ht⟩ := List.exists_mem_of_ne_nil _ h
  obtain ⟨w, hw, hb⟩ := chain_mem p ws t ht
  refine List.mem_cons_of_mem _ (List.mem_flatMap.2 ⟨w, hw, List.mem_map.2 ⟨p.length, List.mem_range.2 ?_, ?_⟩⟩)
  ·rw [← bytesOf_length, hb, List.length_append]
   omega
  ·rw [hb, List.take_left]
theorem allOk_length {ws : List ByteArray} {out : List (List ByteArray)} (h : AllOk ws out) (hl : ws.length ≤ 300) (hz : ∀ w ∈ ws, w.size ≤ 12) : out.length ≤ 4000 := by
 have h1 := nodup_le out ((([] : List Int) :: begs ws).map (chainL ws)) h.nodup (fun x hx => by
  obtain ⟨p, rfl, hp⟩ := h.from_ x hx
  exact List.mem_map_of_mem (chain_begs hp))
 have h2 := begs_length ws 12 hz
 rw [List.length_map, List.length_cons] at h1
 omega
theorem allOk_rows {ws : List ByteArray} {out : List (List ByteArray)} (h : AllOk ws out) (hl : ws.length ≤ 300) : RowsZ out := by
 intro x hx
 obtain ⟨p, rfl, _⟩ := h.from_ x hx
 have := chain_length p ws
 omega
theorem allOk_put {ws : List ByteArray} {out : List (List ByteArray)} (h : AllOk ws out) (i : Nat) (hi : i < out.length) (c : Int) (hne : endsL out[i] c ≠ []) (hn : endsL out[i] c ∉ out) : AllOk ws (out ++ [endsL out[i] c]) := by
 obtain ⟨p, hp, _⟩ := h.from_ _ (List.getElem_mem hi)
 refine ⟨?_, fun x hx => ?_⟩
 ·rw [List.nodup_append]
  refine ⟨h.nodup, by simp, fun a ha b hb => ?_⟩
  rw [List.mem_singleton.1 hb]
  rintro rfl
  exact hn ha
 ·rcases List.mem_append.1 hx with hx | hx
  ·exact h.from_ x hx
  ·rw [List.mem_singleton.1 hx]
   exact ⟨p ++ [c], by rw [chain_snoc, ← hp], .inr hne⟩
def lngL (v : Int) (l : List ByteArray) : Int := l.foldl (fun v s => max v (s.size : Int)) v
def stLex : List ByteArray → List ByteArray → Bool
 | [], [] => false
 | [], _ :: _ => true
 | _ :: _, [] => false
 | x :: a, y :: b => if x = y then stLex a b else ltS x y
def setLt (a b : List ByteArray) : Bool := if lngL 0 a = lngL 0 b then stLex a b else decide (lngL 0 b < lngL 0 a)
theorem stLex_irrefl : ∀ a, stLex a a = false
 | [] => rfl
 | x :: a => by rw [stLex, if_pos rfl]; exact stLex_irrefl a
theorem stLex_trans : ∀ {a b c : List ByteArray}, stLex a b = true → stLex b c = true → stLex a c = true
 | [], [], _, h, _ => by simp [stLex] at h
 | [], _ :: _, [], _, h => by simp [stLex] at h
 | [], _ :: _, _ :: _, _, _ => rfl
 | _ :: _, [], _, h, _ => by simp [stLex] at h
 | _ :: _, _ :: _, [], _, h => by simp [stLex] at h
 | x :: a, y :: b, z :: c, h, k => by
  rw [stLex] at h k ⊢
  by_cases e1 : x = y
  ·subst e1
   rw [if_pos rfl] at h
   by_cases e2 : x = z
   ·subst e2
    rw [if_pos rfl] at k ⊢
    exact stLex_trans h k
   ·rw [if_neg e2] at k ⊢
    exact k
  ·rw [if_neg e1] at h
   by_cases e2 : y = z
   ·subst e2
    rw [if_neg e1]
    exact h
   ·rw [if_neg e2] at k
    have hk := ltS_trans h k
    rw [if_neg (ltS_ne hk)]
    exact hk
theorem stLex_total : ∀ {a b : List ByteArray}, stLex a b = false → a ≠ b → stLex b a = true
 | [], [], _, h => absurd rfl h
 | [], _ :: _, h, _ => by simp [stLex] at h
 | _ :: _, [], _, _ => rfl
 | x :: a, y :: b, h, hn => by
  rw [stLex] at h ⊢
  by_cases e : x = y
  ·subst e
   rw [if_pos rfl] at h ⊢
   exact stLex_total h (fun e => hn (by rw [e]))
  ·rw [if_neg e] at h
   rw [if_neg (Ne.symm e)]
   exact ltS_total h e
theorem setLt_irrefl (a : List ByteArray) : setLt a a = false := by rw [setLt, if_pos rfl]; exact stLex_irrefl a
theorem setLt_trans {a b c : List ByteArray} (h : setLt a b = true) (k : setLt b c = true) : setLt a c = true := by
 unfold setLt at h k ⊢
 by_cases e1 : lngL 0 a = lngL 0 b
 ·rw [if_pos e1] at h
  by_cases e2 : lngL 0 b = lngL 0 c
  ·rw [if_pos e2] at k
   rw [if_pos (e1.trans e2)]
   exact stLex_trans h k
  ·rw [if_neg e2] at k
   rw [e1, if_neg e2]
   exact k
 ·rw [if_neg e1] at h
  have h' := of_decide_eq_true h
  by_cases e2 : lngL 0 b = lngL 0 c
  ·rw [← e2, if_neg e1]
   exact h
  ·rw [if_neg e2] at k
   have k' := of_decide_eq_true k
   rw [if_neg (by omega)]
   exact decide_eq_true (by omega)
theorem setLt_total {a b : List ByteArray} (h : setLt a b = false) (hn : a ≠ b) : setLt b a = true := by
 unfold setLt at h ⊢
 by_cases e : lngL 0 a = lngL 0 b
 ·rw [if_pos e] at h
  rw [if_pos e.symm]
  exact stLex_total h hn
 ·rw [if_neg e] at h
  rw [if_neg (Ne.symm e)]
  have := of_decide_eq_false h
  exact decide_eq_true (by omega)
theorem setLt_ne {a b : List ByteArray} (h : setLt a b = true) : a ≠ b := by
 rintro rfl
 rw [setLt_irrefl] at h
 cases h
theorem setLt_asymm {a b : List ByteArray} (h : setLt a b = true) : setLt b a = false := by
 cases k : setLt b a with
 | false => rfl
 | true => rw [← setLt_irrefl a]; exact (setLt_trans h k).symm
abbrev Srtd (l : List (List ByteArray)) : Prop := l.Pairwise (fun a b => setLt a b = true)
theorem Srtd.nodup {l : List (List ByteArray)} (h : Srtd l) : l.Nodup := h.imp (fun h => setLt_ne h)
theorem srtd_ext {l k : List (List ByteArray)} (h1 : Srtd l) (h2 : Srtd k) (h : ∀ x, x ∈ l ↔ x ∈ k) : l = k := by
 have hp : l.Perm k := (List.perm_ext_iff_of_nodup h1.nodup h2.nodup).2 h
 refine List.Perm.eq_of_pairwise (le := fun a b => setLt a b = true) ?_ h1 h2 hp
 intro a b _ _ h3 h4
 rw [setLt_asymm h3] at h4
 cases h4
theorem lngV_loop (l : List ByteArray) (hl : l.length ≤ 100000) (d : Nat) : ∀ (i : Nat) (v : Int), i + d = l.length → Ev (fun k => spec_l3Long.l0 k l v (i : Int)) (lngL v (l.drop i)) := by
 induction d with
 | zero =>
  intro i v hi
  refine Ev.step (fun k => spec_l3Long.l0.eq_2 ..) (eN (evTo (Ev.now _) ?_))
  rw [List.drop_eq_nil_of_le (by omega)]
  rfl
 | succ d ih =>
  intro i v hi
  have hlt : i < l.length := by omega
  have e1 : wrap64 ((i : Int) + 1) = ((i + 1 : Nat) : Int) := w6
  rw [List.drop_eq_getElem_cons hlt]
  show Ev _ (lngL (max v (l[i].size : Int)) (l.drop (i + 1)))
  refine Ev.step (fun k => spec_l3Long.l0.eq_2 ..) (eP (eP ?_))
  rw [e1, ba_get l i hlt]
  by_cases c : (l[i].size : Int) > v
  ·rw [show max v (l[i].size : Int) = (l[i].size : Int) from by omega]
   exact evPos c (ih (i + 1) _ (by omega))
  ·rw [show max v (l[i].size : Int) = v from by omega]
   exact evNeg c (ih (i + 1) _ (by omega))
theorem lngV_ev (l : List ByteArray) (hl : l.length ≤ 100000) : Ev (fun k => spec_l3Long.f k l) (lngL 0 l) := by
 have := lngV_loop l hl l.length 0 0 (by omega)
 rwa [List.drop_zero] at this
theorem lessV_loop (a b : List ByteArray) (ha : a.length ≤ 100000) (d : Nat) : ∀ i : Nat, i + d = a.length → Ev (fun k => spec_l3Less.l0 k a b (i : Int)) (stLex (a.drop i) (b.drop i)) := by
 induction d with
 | zero =>
  intro i hi
  refine Ev.step (fun k => spec_l3Less.l0.eq_2 ..) (eN (Ev.step (fun k => spec_l3Less.j1.eq_2 ..) (evNeg (by simp) (evTo (Ev.now _) ?_))))
  rw [List.drop_eq_nil_of_le (show a.length ≤ i by omega)]
  rcases Nat.lt_or_ge i b.length with h | h
  ·rw [List.drop_eq_getElem_cons h]
   exact decide_eq_true (by omega)
  ·rw [List.drop_eq_nil_of_le h]
   exact decide_eq_false (by omega)
 | succ d ih =>
  intro i hi
  have hlt : i < a.length := by omega
  have e1 : wrap64 ((i : Int) + 1) = ((i + 1 : Nat) : Int) := w6
  rw [List.drop_eq_getElem_cons hlt]
  by_cases c : (i : Int) < (b.length : Int)
  ·have hlb : i < b.length := by omega
   rw [List.drop_eq_getElem_cons hlb, stLex]
   by_cases c2 : a[i] = b[i]
   ·rw [if_pos c2]
    refine Ev.step (fun k => spec_l3Less.l0.eq_2 ..) (eP (Ev.step (fun k => spec_l3Less.j1.eq_2 ..) (evPos (decide_eq_true c) (eP (eP (eP ?_))))))
    rw [ba_get a i hlt, ba_get b i hlb, e1]
    exact evPos (by rw [c2]) (ih (i + 1) (by omega))
   ·rw [if_neg c2]
    refine Ev.step (fun k => spec_l3Less.l0.eq_2 ..) (eP (Ev.step (fun k => spec_l3Less.j1.eq_2 ..) (evPos (decide_eq_true c) (eP (eP (eP ?_))))))
    rw [ba_get a i hlt, ba_get b i hlb]
    exact evNeg (fun h => c2 ((toList_iff _ _).1 h)) (Ev.now _)
  ·rw [List.drop_eq_nil_of_le (show b.length ≤ i by omega), stLex]
   exact Ev.step (fun k => spec_l3Less.l0.eq_2 ..) (eP (Ev.step (fun k => spec_l3Less.j1.eq_2 ..) (evNeg (by rw [decide_eq_false c]; simp) (evTo (Ev.now _) (decide_eq_false (by omega))))))
theorem lessV_ev (a b : List ByteArray) (ha : a.length ≤ 100000) (hb : b.length ≤ 100000) : Ev (fun k => spec_l3Less.f k a b) (setLt a b) := by
 have hx := lngV_ev a ha
 have hy := lngV_ev b hb
 unfold spec_l3Less.f setLt
 by_cases c : lngL 0 a = lngL 0 b
 ·rw [if_pos c]
  have := lessV_loop a b ha a.length 0 (by omega)
  rw [List.drop_zero, List.drop_zero] at this
  exact Ev.bind hx (Ev.bind hy (evPos c this))
 ·rw [if_neg c]
  exact Ev.bind hx (Ev.bind hy (evNeg c (Ev.bind hx (Ev.bind hy (evTo (Ev.now _) (decide_eq_decide.2 (by omega)))))))
abbrev PutOk (x : List ByteArray) (out out' : List (List ByteArray)) : Prop := out'.Perm (x :: out) ∧ (Srtd out → x ∉ out → Srtd out')
theorem put_ok (x : List ByteArray) (out : List (List ByteArray)) (q : Nat) (hq : q ≤ out.length) (h1 : ∀ y ∈ out.drop q, setLt x y = true) (h2 : Srtd out → x ∉ out → ∀ y ∈ out.take q, setLt y x = true) : PutOk x out (([] ++ out.take q ++ [x]) ++ out.drop q) := by
 refine ⟨?_, fun hs hn => ?_⟩
 ·rw [List.nil_append, List.append_assoc]
  refine (List.perm_append_comm_assoc _ _ _).trans ?_
  rw [List.take_append_drop]
  exact List.Perm.refl _
 ·rw [List.nil_append, List.append_assoc]
  have hs' := hs
  rw [← List.take_append_drop q out] at hs'
  obtain ⟨s1, s2, s3⟩ := List.pairwise_append.1 hs'
  refine List.pairwise_append.2 ⟨s1, List.pairwise_cons.2 ⟨h1, s2⟩, fun a ha b hb => ?_⟩
  rcases List.mem_cons.1 hb with rfl | hb
  ·exact h2 hs hn a ha
  ·exact s3 a ha b hb
theorem sortV_put (all out out' : List (List ByteArray)) (i : Nat) (hi : i < all.length) (ho : out.length = i) (hl : all.length ≤ 100000) (q : Nat) (hq : q ≤ out.length) (he : out' = ([] ++ out.take q ++ [all[i]]) ++ out.drop q) {r : List (List ByteArray)}
  (hr : Ev (fun k => spec_l3Sort.l0 k all out' ((i + 1 : Nat) : Int)) r) : Ev (fun k => spec_l3Sort.j2 k all out (i : Int) (q : Int) false) r := by
 subst he
 refine Ev.step (fun k => spec_l3Sort.j2.eq_2 ..) (evNeg (by simp) (evCall rfl (eP (eP (evCall rfl (evPos (by simp; omega) (evCall rfl (eP (eP (evCall rfl (evPos (by simp; omega) (evCall rfl (evCall rfl (evPos (by simp; omega) ?_))))))))))))))
 rw [rls_get all i hi, Int.toNat_natCast, w6 (n := (i : Int) + 1)]
 exact hr
theorem sortV_find (all out : List (List ByteArray)) (hz : RowsZ all) (hz2 : RowsZ out) (i : Nat) (hi : i < all.length) (ho : out.length = i) (hl : all.length ≤ 100000) {Q : List (List ByteArray) → Prop}
  (next : ∀ out' : List (List ByteArray), PutOk all[i] out out' → ∃ r, Ev (fun k => spec_l3Sort.l0 k all out' ((i + 1 : Nat) : Int)) r ∧ Q r) (q : Nat) : q ≤ out.length → (∀ y ∈ out.drop q, setLt all[i] y = true) → ∃ r, Ev (fun k => spec_l3Sort.l1 k all out (i : Int) (q : Int)) r ∧ Q r := by
 induction q with
 | zero =>
  intro hq h1
  obtain ⟨r, hr, hQ⟩ := next _ (put_ok all[i] out 0 hq h1 (fun _ _ y hy => by simp at hy))
  exact ⟨r, Ev.step (fun k => spec_l3Sort.l1.eq_2 ..) (eN (sortV_put all out _ i hi ho hl 0 (by omega) rfl hr)), hQ⟩
 | succ q ih =>
  intro hq h1
  have e1 : wrap64 (((q + 1 : Nat) : Int) - 1) = (q : Int) := by rw [w6]; omega
  have hqo : q < out.length := by omega
  have hb := lessV_ev all[i] out[q] (hz _ (List.getElem_mem hi)) (hz2 _ (List.getElem_mem hqo))
  have start : ∀ r, Ev (fun k => spec_l3Sort.j2 k all out (i : Int) ((q + 1 : Nat) : Int) (setLt all[i] out[q])) r → Ev (fun k => spec_l3Sort.l1 k all out (i : Int) ((q + 1 : Nat) : Int)) r := by
   intro r hr
   refine Ev.step (fun k => spec_l3Sort.l1.eq_2 ..) (eP (eP (eP ?_)))
   rw [e1, rls_get all i hi, rls_get out q hqo]
   exact eP (eP (Ev.bind hb hr))
  cases hb' : setLt all[i] out[q] with
  | true =>
   obtain ⟨r, hr, hQ⟩ := ih (by omega) (fun y hy => by
    rw [List.drop_eq_getElem_cons hqo] at hy
    rcases List.mem_cons.1 hy with rfl | hy
    ·exact hb'
    ·exact h1 y hy)
   refine ⟨r, start r ?_, hQ⟩
   rw [hb']
   refine Ev.step (fun k => spec_l3Sort.j2.eq_2 ..) (evPos rfl ?_)
   rw [e1]
   exact hr
  | false =>
   obtain ⟨r, hr, hQ⟩ := next _ (put_ok all[i] out (q + 1) hq h1 (fun hs hn y hy => by
    have hne : all[i] ≠ out[q] := fun e => hn (e ▸ List.getElem_mem hqo)
    have hlt := setLt_total hb' hne
    obtain ⟨j, hj, rfl⟩ := List.mem_iff_getElem.1 hy
    rw [List.length_take] at hj
    rw [List.getElem_take]
    rcases Nat.lt_or_ge j q with hjq | hjq
    ·exact setLt_trans (List.pairwise_iff_getElem.1 hs j q (by omega) hqo hjq) hlt
    ·have : j = q := by omega
     subst this
     exact hlt))
   refine ⟨r, start r ?_, hQ⟩
   rw [hb']
   exact sortV_put all out _ i hi ho hl (q + 1) (by omega) rfl hr
theorem sortV_loop (all : List (List ByteArray)) (hz : RowsZ all) (hl : all.length ≤ 100000) (hn : all.Nodup) (d : Nat) : ∀ (i : Nat) (out : List (List ByteArray)), i + d = all.length → out.Perm (all.take i) → Srtd out →
  ∃ r, Ev (fun k => spec_l3Sort.l0 k all out (i : Int)) r ∧ (r.Perm all ∧ Srtd r) := by
 induction d with
 | zero =>
  intro i out hi hp hs
  have hlen := hp.length_eq
  rw [List.length_take] at hlen
  rw [List.take_of_length_le (by omega)] at hp
  exact ⟨out, Ev.step (fun k => spec_l3Sort.l0.eq_2 ..) (eN (Ev.now _)), hp, hs⟩
 | succ d ih =>
  intro i out hi hp hs
  have hlt : i < all.length := by omega
  have hlen := hp.length_eq
  rw [List.length_take] at hlen
  have hno : all[i] ∉ out := by
   intro h
   obtain ⟨j, hj, e⟩ := List.mem_iff_getElem.1 (hp.mem_iff.1 h)
   rw [List.length_take] at hj
   rw [List.getElem_take] at e
   have := (List.getElem_inj (h₀ := by omega) (h₁ := hlt) hn).1 e
   omega
  obtain ⟨r, hr, hQ⟩ := sortV_find all out hz (fun x hx => hz x (List.mem_of_mem_take (hp.mem_iff.1 hx))) i hlt (by omega) hl (fun out' h => ih (i + 1) out' (by omega) (by
   refine h.1.trans ?_
   rw [List.take_succ_eq_append_getElem hlt]
   exact ((List.Perm.cons _ hp).trans (List.perm_append_singleton _ _).symm)) (h.2 hs hno)) out.length (Nat.le_refl _) (by simp)
  rw [show (out.length : Int) = ((out.length : Nat) : Int) from rfl] at hr
  exact ⟨r, Ev.step (fun k => spec_l3Sort.l0.eq_2 ..) (evPos (by omega) hr), hQ⟩
theorem sortV_ev (all : List (List ByteArray)) (hz : RowsZ all) (hl : all.length ≤ 100000) (hn : all.Nodup) : ∃ r, Ev (fun k => spec_l3Sort.f k all) r ∧ (r.Perm all ∧ Srtd r) := sortV_loop all hz hl hn all.length 0 [] (by omega) (by simp) List.Pairwise.nil
def InS (ws x : List ByteArray) : Prop := x = ws ∨ (x ≠ [] ∧ ∃ p, x = chainL ws p)
theorem inS_ends {ws x : List ByteArray} (h : InS ws x) (c : Int) (hne : endsL x c ≠ []) : InS ws (endsL x c) := by
 rcases h with rfl | ⟨_, p, rfl⟩
 ·exact .inr ⟨hne, [c], rfl⟩
 ·exact .inr ⟨hne, p ++ [c], (chain_snoc _ _ _).symm⟩
theorem chain_nil : ∀ p : List Int, chainL [] p = []
 | [] => rfl
 | c :: p => chain_nil p
theorem ends_letter {ws : List ByteArray} (hw : ∀ w ∈ ws, wordB w = true) {p : List Int} {c : Int} (h : endsL (chainL ws p) c ≠ []) : 97 ≤ c ∧ c ≤ 122 := by
 rw [← chain_snoc] at h
 obtain ⟨t, ht⟩ := List.exists_mem_of_ne_nil _ h
 obtain ⟨w, hw1, hb⟩ := chain_mem _ _ _ ht
 have := ((wordL_iff _).1 (hw w hw1)).2.2 c (by rw [hb]; simp)
 exact this
theorem closed_all {ws : List ByteArray} (hw : ∀ w ∈ ws, wordB w = true) {out : List (List ByteArray)} (h0 : ws ∈ out) (hc : ∀ x ∈ out, ∀ c : Int, 97 ≤ c → c ≤ 122 → endsL x c = [] ∨ endsL x c ∈ out) : ∀ x, InS ws x → x ∈ out := by
 have key : ∀ n (p : List Int), p.length = n → chainL ws p ≠ [] ∨ p = [] → chainL ws p ∈ out := by
  intro n
  induction n with
  | zero =>
   intro p hp _
   rw [List.length_eq_zero_iff.1 hp]
   exact h0
  | succ n ih =>
   intro p hp h
   obtain ⟨q, c, rfl⟩ : ∃ q c, p = q ++ [c] := ⟨p.dropLast, p.getLast (by intro e; simp [e] at hp), (List.dropLast_concat_getLast _).symm⟩
   rw [chain_snoc] at h ⊢
   have h := h.resolve_right (by simp)
   have hq : chainL ws q ∈ out := ih q (by simpa using hp) (by
    by_cases e : chainL ws q = []
    ·rw [e] at h
     exact absurd rfl h
    ·exact .inl e)
   obtain ⟨l1, l2⟩ := ends_letter hw h
   exact (hc _ hq c l1 l2).resolve_left h
 rintro x (rfl | ⟨hne, p, rfl⟩)
 ·exact h0
 ·exact key p.length p rfl (.inl hne)
abbrev Shut (out : List (List ByteArray)) (i : Nat) : Prop := ∀ j (hj : j < out.length), j < i → ∀ c : Int, 97 ≤ c → c ≤ 122 → endsL out[j] c = [] ∨ endsL out[j] c ∈ out
theorem shut_put {out : List (List ByteArray)} {i : Nat} (h : Shut out i) (hi : i ≤ out.length) (x : List ByteArray) : Shut (out ++ [x]) i := by
 intro j hj hji c h1 h2
 have hj' : j < out.length := by omega
 rw [List.getElem_append_left hj']
 rcases h j hj' hji c h1 h2 with h | h
 ·exact .inl h
 ·exact .inr (List.mem_append_left _ h)
theorem allV_known (out : List (List ByteArray)) (h : RowsZ out) (hl : out.length ≤ 5000) (i : Nat) (c : Int) (x : List ByteArray) (d : Nat) : ∀ (j : Nat) (b : Bool), j + d = out.length → ∃ q : Bool, ((q = true → b = true ∨ x ∈ out) ∧ (q = false → b = false ∧ x ∉ out.drop j)) ∧
  ∀ r, Ev (fun k => if q = true then spec_l3All.l1 k out (i : Int) ((c + 1) % 256) else spec_l3All.l1 k (out ++ [x]) (i : Int) ((c + 1) % 256)) r → Ev (fun k => spec_l3All.l2 k out (i : Int) c x b (j : Int)) r := by
 induction d with
 | zero =>
  intro j b hj
  refine ⟨b, ⟨.inl, fun e => ⟨e, by rw [List.drop_eq_nil_of_le (by omega)]; simp⟩⟩, fun r hr => Ev.step (fun k => spec_l3All.l2.eq_2 ..) (eN ?_)⟩
  cases b with
  | true => exact evPos rfl (by simpa using hr)
  | false => exact evNeg (by simp) (eP (by simpa using hr))
 | succ d ih =>
  intro j b hj
  have hlt : j < out.length := by omega
  have e1 : wrap64 ((j : Int) + 1) = ((j + 1 : Nat) : Int) := w6
  cases b with
  | true =>
   refine ⟨true, ⟨fun _ => .inl rfl, (fun e => by cases e)⟩, fun r hr => Ev.step (fun k => spec_l3All.l2.eq_2 ..) (eP (evPos rfl (by simpa using hr)))⟩
  | false =>
   obtain ⟨q, hq1, hq2⟩ := ih (j + 1) (decide (out[j] = x)) (by omega)
   refine ⟨q, ⟨fun e => .inr ?_, fun e => ⟨rfl, ?_⟩⟩, fun r hr => Ev.step (fun k => spec_l3All.l2.eq_2 ..) (eP (evNeg (by simp) (eP ?_)))⟩
   ·rcases hq1.1 e with h | h
    ·rw [← of_decide_eq_true h]
     exact List.getElem_mem hlt
    ·exact h
   ·rw [List.drop_eq_getElem_cons hlt, List.mem_cons]
    have := hq1.2 e
    rintro (h | h)
    ·have h2 := of_decide_eq_false this.1
     exact h2 h.symm
    ·exact this.2 h
   ·rw [rls_get out j hlt, e1]
    exact Ev.bind (same_ev out[j] x (h _ (List.getElem_mem hlt))) (hq2 r hr)
theorem allV_letters {ws : List ByteArray} (hl : ws.length ≤ 300) (hz : ∀ w ∈ ws, w.size ≤ 12) (i : Nat) {Q : List (List ByteArray) → Prop} (next : ∀ out, AllOk ws out → ws ∈ out → i < out.length → Shut out (i + 1) → ∃ r, Ev (fun k => spec_l3All.l0 k out ((i + 1 : Nat) : Int)) r ∧ Q r) (d : Nat) : ∀ (c : Nat) (out : List (List ByteArray)), 97 ≤ c → c + d = 123 → AllOk ws out → ws ∈ out → ∀ hi : i < out.length,
  Shut out i → (∀ e : Nat, 97 ≤ e → e < c → endsL out[i] (e : Int) = [] ∨ endsL out[i] (e : Int) ∈ out) → ∃ r, Ev (fun k => spec_l3All.l1 k out (i : Int) (c : Int)) r ∧ Q r := by
 induction d with
 | zero =>
  intro c out h1 h2 ho hw hi hs hd
  have hlen := allOk_length ho hl hz
  obtain ⟨r, hr, hQ⟩ := next out ho hw hi (fun j hj hji e h3 h4 => by
   by_cases ej : j = i
   ·subst ej
    obtain ⟨n, rfl⟩ : ∃ n : Nat, e = (n : Int) := ⟨e.toNat, by omega⟩
    exact hd n (by omega) (by omega)
   ·exact hs j hj (by omega) e h3 h4)
  refine ⟨r, Ev.step (fun k => spec_l3All.l1.eq_2 ..) (eN ?_), hQ⟩
  rw [w6 (n := (i : Int) + 1)]
  exact hr
 | succ d ih =>
  intro c out h1 h2 ho hw hi hs hd
  have hlen := allOk_length ho hl hz
  have hrows := allOk_rows ho hl
  have ec : ((c : Int) + 1) % 256 = ((c + 1 : Nat) : Int) := by omega
  have he := ends_ev out[i] (c : Int) (hrows _ (List.getElem_mem hi))
  obtain ⟨q, hq1, hq2⟩ := allV_known out hrows (by omega) i (c : Int) (endsL out[i] (c : Int)) out.length 0 (((endsL out[i] (c : Int)).length : Int) == 0) (by omega)
  rw [ec] at hq2
  have start : ∀ r, Ev (fun k => spec_l3All.l2 k out (i : Int) (c : Int) (endsL out[i] (c : Int)) (((endsL out[i] (c : Int)).length : Int) == 0) 0) r → Ev (fun k => spec_l3All.l1 k out (i : Int) (c : Int)) r := by
   intro r hr
   refine Ev.step (fun k => spec_l3All.l1.eq_2 ..) (eP (eP (eP ?_)))
   rw [rls_get out i hi]
   exact Ev.bind he hr
  cases q with
  | true =>
   have hk : endsL out[i] (c : Int) = [] ∨ endsL out[i] (c : Int) ∈ out := by
    rcases hq1.1 rfl with h | h
    ·left
     have : ((endsL out[i] (c : Int)).length : Int) = 0 := by simpa using h
     exact List.length_eq_zero_iff.1 (by omega)
    ·exact .inr h
   obtain ⟨r, hr, hQ⟩ := ih (c + 1) out (by omega) (by omega) ho hw hi hs (fun e h3 h4 => by
    by_cases e1 : e = c
    ·subst e1
     exact hk
    ·exact hd e h3 (by omega))
   exact ⟨r, start r (hq2 r (by simpa using hr)), hQ⟩
  | false =>
   obtain ⟨g1, g2⟩ := hq1.2 rfl
   rw [List.drop_zero] at g2
   have hne : endsL out[i] (c : Int) ≠ [] := by
    intro e
    rw [e] at g1
    simp at g1
   have hi2 : i < (out ++ [endsL out[i] (c : Int)]).length := by simp; omega
   have e0 : (out ++ [endsL out[i] (c : Int)])[i] = out[i] := List.getElem_append_left hi
   obtain ⟨r, hr, hQ⟩ := ih (c + 1) (out ++ [endsL out[i] (c : Int)]) (by omega) (by omega) (allOk_put ho i hi c hne g2) (List.mem_append_left _ hw) hi2 (shut_put hs (by omega) _) (fun e h3 h4 => by
    rw [e0]
    by_cases e1 : e = c
    ·subst e1
     exact .inr (List.mem_append_right _ (List.mem_singleton.2 rfl))
    ·exact (hd e h3 (by omega)).imp id (List.mem_append_left _))
   exact ⟨r, start r (hq2 r (by simpa using hr)), hQ⟩
theorem allV_loop {ws : List ByteArray} (hl : ws.length ≤ 300) (hw : ∀ w ∈ ws, wordB w = true) (d : Nat) : ∀ (i : Nat) (out : List (List ByteArray)), i + d = 5000 → AllOk ws out → ws ∈ out → Shut out i → ∃ r, Ev (fun k => spec_l3All.l0 k out (i : Int)) r ∧ (Srtd r ∧ ∀ x, x ∈ r ↔ InS ws x) := by
 have hz : ∀ w ∈ ws, w.size ≤ 12 := fun w h => (wordB_size (hw w h)).2
 have fin : ∀ (i : Nat) (out : List (List ByteArray)), ¬ i < out.length → AllOk ws out → ws ∈ out → Shut out i → ∃ r, Ev (fun k => spec_l3All.l0 k out (i : Int)) r ∧ (Srtd r ∧ ∀ x, x ∈ r ↔ InS ws x) := by
  intro i out c ho h0 hs
  have hlen := allOk_length ho hl hz
  obtain ⟨r, hr, h1, h2⟩ := sortV_ev out (allOk_rows ho hl) (by omega) ho.nodup
  refine ⟨r, Ev.step (fun k => spec_l3All.l0.eq_2 ..) (eN (Ev.bind hr (Ev.now _))), h2, fun x => ⟨fun hx => ?_, fun hx => h1.mem_iff.2 (closed_all hw h0 (fun y hy e h3 h4 => ?_) x hx)⟩⟩
  ·obtain ⟨p, hp, hne⟩ := ho.from_ x (h1.mem_iff.1 hx)
   rcases hne with rfl | hne
   ·exact .inl hp
   ·exact .inr ⟨hne, p, hp⟩
  ·obtain ⟨j, hj, rfl⟩ := List.mem_iff_getElem.1 hy
   exact hs j hj (by omega) e h3 h4
 induction d with
 | zero =>
  intro i out hi ho h0 hs
  have hlen := allOk_length ho hl hz
  exact fin i out (by omega) ho h0 hs
 | succ d ih =>
  intro i out hi ho h0 hs
  by_cases c : i < out.length
  ·have hlen := allOk_length ho hl hz
   obtain ⟨r, hr, hQ⟩ := allV_letters hl hz i (fun out' h1 h2 h3 h4 => ih (i + 1) out' (by omega) h1 h2 h4) 26 97 out (by omega) (by omega) ho h0 c hs (fun e h3 h4 => by omega)
   exact ⟨r, Ev.step (fun k => spec_l3All.l0.eq_2 ..) (evPos (by omega) hr), hQ⟩
  ·exact fin i out c ho h0 hs
noncomputable def setsOf (ws : List ByteArray) : List (List ByteArray) := Classical.epsilon (fun A => Srtd A ∧ ∀ x, x ∈ A ↔ InS ws x)
theorem setsOf_eq {ws : List ByteArray} {A : List (List ByteArray)} (h : Srtd A ∧ ∀ x, x ∈ A ↔ InS ws x) : setsOf ws = A := by
 have hs := Classical.epsilon_spec (p := fun A => Srtd A ∧ ∀ x, x ∈ A ↔ InS ws x) ⟨A, h⟩
 exact srtd_ext hs.1 h.1 (fun x => (hs.2 x).trans (h.2 x).symm)
theorem allV_ev (ws : List ByteArray) (hl : ws.length ≤ 300) (hw : ∀ w ∈ ws, wordB w = true) : Ev (fun k => spec_l3All.f k ws) (setsOf ws) ∧ (Srtd (setsOf ws) ∧ ∀ x, x ∈ setsOf ws ↔ InS ws x) := by
 obtain ⟨r, hr, hQ⟩ := allV_loop hl hw 5000 0 [ws] (by omega) ⟨by simp, fun x hx => by rw [List.mem_singleton.1 hx]; exact ⟨[], rfl, .inl rfl⟩⟩ (by simp) (fun j hj h => by omega)
 rw [setsOf_eq hQ]
 exact ⟨hr, hQ⟩
def posL (x : List ByteArray) : List (List ByteArray) → Nat
 | [] => 0
 | y :: ys => if y = x then 0 else posL x ys + 1
theorem atV_loop (all : List (List ByteArray)) (x : List ByteArray) (hz : RowsZ all) (hl : all.length ≤ 100000) (d : Nat) : ∀ i : Nat, i + d = all.length → x ∈ all.drop i → Ev (fun k => spec_l3At.l0 k all x (i : Int)) ((i + posL x (all.drop i) : Nat) : Int) := by
 induction d with
 | zero =>
  intro i hi hx
  rw [List.drop_eq_nil_of_le (by omega)] at hx
  cases hx
 | succ d ih =>
  intro i hi hx
  have hlt : i < all.length := by omega
  have hs := same_ev all[i] x (hz _ (List.getElem_mem hlt))
  rw [List.drop_eq_getElem_cons hlt] at hx ⊢
  refine Ev.step (fun k => spec_l3At.l0.eq_2 ..) (eP (eP ?_))
  rw [rls_get all i hlt, posL]
  by_cases c : all[i] = x
  ·rw [if_pos c]
   exact Ev.bind hs (evPos (decide_eq_true c) (Ev.now _))
  ·rw [if_neg c, w6 (n := (i : Int) + 1)]
   refine Ev.bind hs (evNeg (by rw [decide_eq_false c]; simp) (evTo (ih (i + 1) (by omega) ((List.mem_cons.1 hx).resolve_left (Ne.symm c))) ?_))
   omega
theorem atV_ev (all : List (List ByteArray)) (x : List ByteArray) (hz : RowsZ all) (hl : all.length ≤ 100000) (hx : x ∈ all) : Ev (fun k => spec_l3At.f k all x) (posL x all : Int) := by
 have := atV_loop all x hz hl all.length 0 (by omega) hx
 rwa [List.drop_zero, Nat.zero_add] at this
abbrev St := S45
abbrev Eg := S49
def lexB : List Int → List Int → Bool
 | _, [] => false
 | [], _ :: _ => true
 | a :: x, b :: y => decide (a < b) || (a == b && lexB x y)
theorem less_lexB : ∀ x y : List UInt8, Op.bytesLess x y = lexB (x.map (fun b => (b.toNat : Int))) (y.map (fun b => (b.toNat : Int)))
 | [], [] => rfl
 | [], _ :: _ => rfl
 | _ :: _, [] => rfl
 | a :: x, b :: y => by
  simp only [Op.bytesLess, List.map_cons, lexB, less_lexB x y]
  congr 1
  ·rw [decide_eq_decide, UInt8.lt_iff_toNat_lt]
   omega
  ·congr 1
   rw [Bool.eq_iff_iff, beq_iff_eq, beq_iff_eq]
   constructor
   ·rintro rfl
    rfl
   ·intro h
    exact UInt8.toNat_inj.1 (by omega)
theorem ltS_lexB (s t : ByteArray) : Op.bytesLess s.toList t.toList = lexB (bytesOf s) (bytesOf t) := by
 rw [less_lexB, Go.ByteArray.toList_eq, Go.ByteArray.toList_eq]
 rfl
structure SetOk (x : List ByteArray) : Prop where
 asc : Asc x
 len : x.length ≤ 300
 txt : ∀ s ∈ x, s.size ≤ 12 ∧ ∀ c ∈ bytesOf s, 97 ≤ c ∧ c ≤ 122
theorem bytes_cons {s : ByteArray} (h : 0 < s.size) : bytesOf s = bt s 0 :: bytesOf (s.extract 1 s.size) := by
 have := bytes_drop s 0 (by omega) (by omega)
 rw [show (0 : Int).toNat = 0 from rfl, List.drop_zero, show ((0 : Int) + 1).toNat = 1 from rfl] at this
 rw [bytes_take_all]
 exact this
theorem mem_ends {x : List ByteArray} {c : Int} {t : ByteArray} : t ∈ endsL x c ↔ ∃ s ∈ x, bytesOf s = c :: bytesOf t := by
 refine ⟨ends_mem, fun ⟨s, hs, hb⟩ => ?_⟩
 have hz : 0 < s.size := by rw [← bytesOf_length, hb]; simp
 have h1 := bytes_cons hz
 rw [hb] at h1
 have e1 := (List.cons.inj h1).1
 have e2 := bytes_inj (List.cons.inj h1).2
 unfold endsL
 refine List.mem_map.2 ⟨s, List.mem_filter.2 ⟨hs, ?_⟩, e2.symm⟩
 simp [hz, e1]
theorem wGo_adj (l : List ByteArray) (d : Nat) : ∀ i : Nat, i + d = l.length → wGo l d i = true → ∀ j (h : j + 1 < l.length), i ≤ j + 1 → ltS l[j] l[j + 1] = true := by
 induction d with
 | zero => intro i hi _ j h1 h2; omega
 | succ d ih =>
  intro i hi h j h1 h2
  simp only [wGo, Bool.and_eq_true] at h
  by_cases e : i = j + 1
  ·have h3 := h.1.2
   rw [if_pos (by omega), show (i : Int) - 1 = ((j : Nat) : Int) by omega, ba_get l j (by omega), ba_get l i (by omega)] at h3
   subst e
   exact h3
  ·exact ih (i + 1) (by omega) h.2 j h1 (by omega)
theorem adj_asc (l : List ByteArray) (h : ∀ j (h : j + 1 < l.length), ltS l[j] l[j + 1] = true) : Asc l := by
 refine List.pairwise_iff_getElem.2 (fun i j hi hj hij => ?_)
 have key : ∀ d (hd : i + d + 1 < l.length), ltS l[i] l[i + d + 1] = true := by
  intro d
  induction d with
  | zero => intro hd; exact h i hd
  | succ d ih => intro hd; exact ltS_trans (ih (by omega)) (h (i + d + 1) (by omega))
 have := key (j - i - 1) (by omega)
 simpa [show i + (j - i - 1) + 1 = j by omega] using this
theorem set_ws {ws : List ByteArray} (h : wsB ws = true) : SetOk ws := by
 obtain ⟨h1, h2, h3⟩ := ws_facts h
 unfold wsB at h
 rw [Bool.and_eq_true] at h
 exact ⟨adj_asc ws (fun j hj => wGo_adj ws ws.length 0 (by omega) h.1 j hj (by omega)), h1, fun s hs => ⟨h3 s hs, ((wordL_iff _).1 (h2 s hs)).2.2⟩⟩
theorem set_ends {x : List ByteArray} (h : SetOk x) (c : Int) : SetOk (endsL x c) := by
 refine ⟨?_, Nat.le_trans (endsL_length x c) h.len, fun t ht => ?_⟩
 ·unfold endsL
  refine List.pairwise_map.2 (List.Pairwise.imp_of_mem ?_ (h.asc.filter _))
  intro s t hs ht hlt
  simp only [List.mem_filter, Bool.and_eq_true, decide_eq_true_eq] at hs ht
  unfold ltS at hlt ⊢
  rw [ltS_lexB, bytes_cons hs.2.1, bytes_cons ht.2.1, hs.2.2, ht.2.2] at hlt
  rw [ltS_lexB]
  simpa [lexB] using hlt
 ·obtain ⟨s, hs, hb⟩ := mem_ends.1 ht
  have h1 := h.txt s hs
  rw [hb] at h1
  refine ⟨?_, fun d hd => h1.2 d (List.mem_cons_of_mem _ hd)⟩
  have h2 := congrArg List.length hb
  rw [bytesOf_length, List.length_cons, bytesOf_length] at h2
  omega
theorem set_chain (p : List Int) : ∀ {x : List ByteArray}, SetOk x → SetOk (chainL x p) := by
 induction p with
 | nil => exact fun h => h
 | cons c p ih => exact fun h => ih (set_ends h c)
theorem set_in {ws x : List ByteArray} (h : SetOk ws) (hx : InS ws x) : SetOk x := by
 rcases hx with rfl | ⟨_, p, rfl⟩
 ·exact h
 ·exact set_chain p h
def lettersD (x : List ByteArray) (c d : Nat) : List Int := ((List.range' c d).map (fun n : Nat => (n : Int))).filter (fun c => !(endsL x c).isEmpty)
def lettersL (x : List ByteArray) : List Int := lettersD x 97 26
theorem letters_mem (x : List ByteArray) (c : Int) : c ∈ lettersL x ↔ (97 ≤ c ∧ c ≤ 122) ∧ endsL x c ≠ [] := by
 unfold lettersL lettersD
 rw [List.mem_filter, List.mem_map]
 constructor
 ·rintro ⟨⟨n, hn, rfl⟩, h⟩
  have hn2 := List.mem_range'_1.1 hn
  exact ⟨by omega, by simpa using h⟩
 ·rintro ⟨h1, h2⟩
  exact ⟨⟨c.toNat, List.mem_range'_1.2 ⟨by omega, by omega⟩, by omega⟩, by simpa using h2⟩
theorem letters_asc (x : List ByteArray) : (lettersL x).Pairwise (· < ·) := by
 unfold lettersL lettersD
 refine List.Pairwise.filter _ (List.pairwise_map.2 ((List.pairwise_lt_range' ).imp ?_))
 intro a b h
 omega
theorem ends_ne {x : List ByteArray} {c : Int} : endsL x c ≠ [] ↔ ∃ s ∈ x, 0 < s.size ∧ bt s 0 = c := by
 constructor
 ·intro h
  obtain ⟨t, ht⟩ := List.exists_mem_of_ne_nil _ h
  obtain ⟨s, hs, hb⟩ := mem_ends.1 ht
  have hz : 0 < s.size := by rw [← bytesOf_length, hb]; simp
  rw [bytes_cons hz] at hb
  exact ⟨s, hs, hz, (List.cons.inj hb).1⟩
 ·rintro ⟨s, hs, hz, rfl⟩ e
  have : s.extract 1 s.size ∈ endsL x (bt s 0) := mem_ends.2 ⟨s, hs, bytes_cons hz⟩
  rw [e] at this
  cases this
theorem letter_in {x : List ByteArray} (h : SetOk x) {c : Int} (hc : endsL x c ≠ []) : 97 ≤ c ∧ c ≤ 122 := by
 obtain ⟨s, hs, hz, rfl⟩ := ends_ne.1 hc
 exact (h.txt s hs).2 _ (by rw [bytes_cons hz]; exact List.mem_cons_self)
def flStep (out : List Int) (s : ByteArray) : List Int := if s.size = 0 then out else if out.getLast? = some (bt s 0) then out else out ++ [bt s 0]
theorem last_max {out : List Int} (h : out.Pairwise (· < ·)) {l : Int} (hl : out.getLast? = some l) : l ∈ out ∧ ∀ c ∈ out, c ≤ l := by
 have hne : out ≠ [] := by rintro rfl; simp at hl
 have e : out.getLast hne = l := by rw [List.getLast?_eq_some_getLast hne] at hl; exact Option.some.inj hl
 rw [← List.dropLast_concat_getLast hne, e] at h ⊢
 rw [List.pairwise_append] at h
 refine ⟨by simp, fun c hc => ?_⟩
 rcases List.mem_append.1 hc with hc | hc
 ·have := h.2.2 c hc l (by simp)
  omega
 ·have := List.mem_singleton.1 hc
  omega
theorem fl_facts : ∀ (x : List ByteArray) (out : List Int), Asc x → out.Pairwise (· < ·) → (∀ c ∈ out, ∀ s ∈ x, 0 < s.size → c ≤ bt s 0) →
  (x.foldl flStep out).Pairwise (· < ·) ∧ ∀ c, c ∈ x.foldl flStep out ↔ c ∈ out ∨ ∃ s ∈ x, 0 < s.size ∧ bt s 0 = c
 | [], out, _, ho, _ => ⟨ho, fun c => by simp⟩
 | s :: x, out, ha, ho, hc => by
  rw [List.foldl_cons]
  obtain ⟨ha1, ha2⟩ := List.pairwise_cons.1 ha
  have hb : ∀ t ∈ x, 0 < s.size → 0 < t.size → bt s 0 ≤ bt t 0 := by
   intro t ht h1 h2
   have h3 := ha1 t ht
   unfold ltS at h3
   rw [ltS_lexB, bytes_cons h1, bytes_cons h2] at h3
   simp only [lexB, Bool.or_eq_true, decide_eq_true_eq, Bool.and_eq_true, beq_iff_eq] at h3
   omega
  by_cases z : s.size = 0
  ·have e : flStep out s = out := by unfold flStep; rw [if_pos z]
   rw [e]
   obtain ⟨g1, g2⟩ := fl_facts x out ha2 ho (fun c h t ht => hc c h t (List.mem_cons_of_mem _ ht))
   refine ⟨g1, fun c => (g2 c).trans ⟨fun h => h.imp id (fun ⟨t, ht, h⟩ => ⟨t, List.mem_cons_of_mem _ ht, h⟩), ?_⟩⟩
   rintro (h | ⟨t, ht, h1, h2⟩)
   ·exact .inl h
   ·rcases List.mem_cons.1 ht with rfl | ht
    ·omega
    ·exact .inr ⟨t, ht, h1, h2⟩
  ·by_cases l : out.getLast? = some (bt s 0)
   ·have e : flStep out s = out := by unfold flStep; rw [if_neg z, if_pos l]
    rw [e]
    obtain ⟨g1, g2⟩ := fl_facts x out ha2 ho (fun c h t ht => hc c h t (List.mem_cons_of_mem _ ht))
    refine ⟨g1, fun c => (g2 c).trans ⟨fun h => h.imp id (fun ⟨t, ht, h⟩ => ⟨t, List.mem_cons_of_mem _ ht, h⟩), ?_⟩⟩
    rintro (h | ⟨t, ht, h1, h2⟩)
    ·exact .inl h
    ·rcases List.mem_cons.1 ht with rfl | ht
     ·rw [← h2]
      exact .inl (last_max ho l).1
     ·exact .inr ⟨t, ht, h1, h2⟩
   ·have e : flStep out s = out ++ [bt s 0] := by unfold flStep; rw [if_neg z, if_neg l]
    rw [e]
    have hlt : ∀ c ∈ out, c < bt s 0 := by
     intro c h
     have h1 := hc c h s List.mem_cons_self (by omega)
     by_cases e2 : c = bt s 0
     ·exfalso
      have hne : out ≠ [] := by rintro rfl; cases h
      have h2 := last_max ho (List.getLast?_eq_some_getLast hne)
      have h3 := h2.2 c h
      have h4 := hc _ h2.1 s List.mem_cons_self (by omega)
      exact l (by rw [List.getLast?_eq_some_getLast hne]; congr 1; omega)
     ·omega
    obtain ⟨g1, g2⟩ := fl_facts x (out ++ [bt s 0]) ha2 (List.pairwise_append.2 ⟨ho, by simp, fun a h1 b h2 => by rw [List.mem_singleton.1 h2]; exact hlt a h1⟩) (fun c h t ht hz => by
     rcases List.mem_append.1 h with h | h
     ·exact hc c h t (List.mem_cons_of_mem _ ht) hz
     ·rw [List.mem_singleton.1 h]
      exact hb t ht (by omega) hz)
    refine ⟨g1, fun c => (g2 c).trans ⟨?_, ?_⟩⟩
    ·rintro (h | ⟨t, ht, h⟩)
     ·rcases List.mem_append.1 h with h | h
      ·exact .inl h
      ·exact .inr ⟨s, List.mem_cons_self, by omega, (List.mem_singleton.1 h).symm⟩
     ·exact .inr ⟨t, List.mem_cons_of_mem _ ht, h⟩
    ·rintro (h | ⟨t, ht, h1, h2⟩)
     ·exact .inl (List.mem_append_left _ h)
     ·rcases List.mem_cons.1 ht with rfl | ht
      ·exact .inl (List.mem_append_right _ (by rw [h2]; simp))
      ·exact .inr ⟨t, ht, h1, h2⟩
theorem fl_letters {x : List ByteArray} (h : SetOk x) : x.foldl flStep [] = lettersL x := by
 obtain ⟨g1, g2⟩ := fl_facts x [] h.asc List.Pairwise.nil (by simp)
 have hm : ∀ c, c ∈ x.foldl flStep [] ↔ c ∈ lettersL x := fun c => by
  rw [g2, letters_mem, ends_ne]
  constructor
  ·rintro (h1 | h1)
   ·cases h1
   ·exact ⟨letter_in h (ends_ne.2 h1), h1⟩
  ·exact fun h1 => .inr h1.2
 have n1 : (x.foldl flStep []).Nodup := g1.imp (fun h e => by omega)
 have n2 : (lettersL x).Nodup := (letters_asc x).imp (fun h e => by omega)
 exact List.Perm.eq_of_pairwise (le := fun a b : Int => a < b) (fun a b _ _ h1 h2 => by omega) g1 (letters_asc x) ((List.perm_ext_iff_of_nodup n1 n2).2 hm)
def edgesL (A : List (List ByteArray)) (x : List ByteArray) : List Eg := (lettersL x).map (fun c => ⟨c, (posL (endsL x c) A : Int)⟩)
def stL (A : List (List ByteArray)) (x : List ByteArray) : St := ⟨decide (0 < x.length) && (rdOf ByteArray.empty x 0).toList.isEmpty, edgesL A x⟩
noncomputable def moB (ws : List ByteArray) : List St × Bool := if wsB ws = true then (if (setsOf ws).length > 400 then ([], false) else ((setsOf ws).map (stL (setsOf ws)), true)) else ([], false)
theorem sets_facts {ws : List ByteArray} (h : wsB ws = true) : Ev (fun k => spec_l3All.f k ws) (setsOf ws) ∧ Srtd (setsOf ws) ∧ (∀ x, x ∈ setsOf ws ↔ InS ws x) ∧ (∀ x ∈ setsOf ws, SetOk x) ∧ (setsOf ws).length ≤ 4000 := by
 obtain ⟨h1, h2, h3⟩ := ws_facts h
 obtain ⟨g1, g2, g3⟩ := allV_ev ws h1 h2
 refine ⟨g1, g2, g3, fun x hx => set_in (set_ws h) ((g3 x).1 hx), ?_⟩
 refine allOk_length (ws := ws) ⟨g2.nodup, fun x hx => ?_⟩ h1 h3
 rcases (g3 x).1 hx with rfl | ⟨hne, p, hp⟩
 ·exact ⟨[], rfl, .inl rfl⟩
 ·exact ⟨p, hp, .inr hne⟩
theorem ends_in {ws : List ByteArray} (h : wsB ws = true) {x : List ByteArray} (hx : x ∈ setsOf ws) {c : Int} (hc : endsL x c ≠ []) : endsL x c ∈ setsOf ws :=
 ((sets_facts h).2.2.1 _).2 (inS_ends (((sets_facts h).2.2.1 _).1 hx) c hc)
theorem lettersD_succ (x : List ByteArray) (c d : Nat) : lettersD x c (d + 1) = (if endsL x (c : Int) = [] then [] else [(c : Int)]) ++ lettersD x (c + 1) d := by
 unfold lettersD
 rw [List.range'_succ, List.map_cons, List.filter_cons]
 by_cases e : endsL x (c : Int) = []
 ·simp [e]
 ·simp [e]
theorem ofV_letters {ws : List ByteArray} (h : wsB ws = true) (hA : (setsOf ws).length ≤ 400) (out : List St) (b : Bool) (i : Nat) (hi : i < (setsOf ws).length) (ho : out.length = i) {r : List St × Bool} (d : Nat) : ∀ (c : Nat) (es : List Eg), 97 ≤ c → c + d = 123 → es.length + d ≤ 26 →
  Ev (fun k => spec_MachineOf.l0 k (setsOf ws) (out ++ [⟨b, es ++ (lettersD (setsOf ws)[i] c d).map (fun c => (⟨c, (posL (endsL (setsOf ws)[i] c) (setsOf ws) : Int)⟩ : Eg))⟩]) ((i + 1 : Nat) : Int)) r →
  Ev (fun k => spec_MachineOf.l1 k (setsOf ws) out (i : Int) (c : Int) b es) r := by
 obtain ⟨_, hs, hin, hok, _⟩ := sets_facts h
 have hz : RowsZ (setsOf ws) := fun x hx => by have := (hok x hx).len; omega
 induction d with
 | zero =>
  intro c es h1 h2 h3 hr
  refine Ev.step (fun k => spec_MachineOf.l1.eq_2 ..) (eN (eP ?_))
  rw [w6 (n := (i : Int) + 1)]
  simpa [lettersD] using hr
 | succ d ih =>
  intro c es h1 h2 h3 hr
  have ec : ((c : Int) + 1) % 256 = ((c + 1 : Nat) : Int) := by omega
  have he := ends_ev (setsOf ws)[i] (c : Int) (hz _ (List.getElem_mem hi))
  rw [lettersD_succ] at hr
  refine Ev.step (fun k => spec_MachineOf.l1.eq_2 ..) (eP (eP (eP ?_)))
  rw [rls_get (setsOf ws) i hi]
  by_cases c1 : endsL (setsOf ws)[i] (c : Int) = []
  ·rw [if_pos c1, List.nil_append] at hr
   refine Ev.bind he (evNeg (by rw [c1]; simp) ?_)
   rw [ec]
   exact ih (c + 1) es (by omega) (by omega) (by omega) hr
  ·rw [if_neg c1] at hr
   have hl : 0 < (endsL (setsOf ws)[i] (c : Int)).length := List.length_pos_iff.2 c1
   refine Ev.bind he (eP (Ev.bind (atV_ev (setsOf ws) _ hz (by omega) (ends_in h (List.getElem_mem hi) c1)) (eP ?_)))
   rw [ec, w6 (n := (c : Int))]
   refine ih (c + 1) _ (by omega) (by omega) (by simp; omega) ?_
   rw [List.append_assoc]
   simpa using hr
theorem ofV_loop {ws : List ByteArray} (h : wsB ws = true) (hA : (setsOf ws).length ≤ 400) (d : Nat) : ∀ (i : Nat) (out : List St), i + d = (setsOf ws).length → out.length = i →
  Ev (fun k => spec_MachineOf.l0 k (setsOf ws) out (i : Int)) (out ++ ((setsOf ws).drop i).map (stL (setsOf ws)), true) := by
 induction d with
 | zero =>
  intro i out hi ho
  refine Ev.step (fun k => spec_MachineOf.l0.eq_2 ..) (eN (evTo (Ev.now _) ?_))
  rw [List.drop_eq_nil_of_le (by omega)]
  simp
 | succ d ih =>
  intro i out hi ho
  have hlt : i < (setsOf ws).length := by omega
  rw [List.drop_eq_getElem_cons hlt, List.map_cons]
  have hn := ih (i + 1) (out ++ [stL (setsOf ws) (setsOf ws)[i]]) (by omega) (by simp; omega)
  rw [List.append_assoc, List.singleton_append] at hn
  have go : ∀ b : Bool, b = (decide (0 < (setsOf ws)[i].length) && (rdOf ByteArray.empty (setsOf ws)[i] 0).toList.isEmpty) → Ev (fun k => spec_MachineOf.l1 k (setsOf ws) out (i : Int) ((97 : Nat) : Int) b []) (out ++ stL (setsOf ws) (setsOf ws)[i] :: ((setsOf ws).drop (i + 1)).map (stL (setsOf ws)), true) := by
   rintro b rfl
   exact ofV_letters h hA out _ i hlt ho 26 97 [] (by omega) (by omega) (by simp) hn
  by_cases c : ((setsOf ws)[i].length : Int) > 0
  ·refine Ev.step (fun k => spec_MachineOf.l0.eq_2 ..) (eP (eP ?_))
   rw [rls_get (setsOf ws) i hlt]
   refine evPos c (eP (go _ ?_))
   rw [decide_eq_true (show 0 < (setsOf ws)[i].length by omega), Bool.true_and]
   generalize (rdOf ByteArray.empty (setsOf ws)[i] 0).toList = l
   cases l <;> rfl
  ·refine Ev.step (fun k => spec_MachineOf.l0.eq_2 ..) (eP (eP ?_))
   rw [rls_get (setsOf ws) i hlt]
   refine evNeg c (go _ ?_)
   rw [decide_eq_false (show ¬ 0 < (setsOf ws)[i].length by omega), Bool.false_and]
theorem moB_spec (ws : List ByteArray) (hl : ws.length ≤ 1048576) (he : ∀ s ∈ ws, s.size ≤ 1048576) : Ev (fun k => spec_MachineOf.f k ws) (moB ws) := by
 have hw := l3Words_ev ws hl he
 unfold spec_MachineOf.f moB
 cases e : wsB ws with
 | false =>
  rw [e] at hw
  exact Ev.bind hw (evNeg (by simp) (Ev.now _))
 | true =>
  rw [e] at hw
  rw [if_pos rfl]
  by_cases c : (setsOf ws).length > 400
  ·rw [if_pos c]
   exact Ev.bind hw (evPos rfl (Ev.bind (sets_facts e).1 (eP (Ev.now _))))
  ·rw [if_neg c]
   have := ofV_loop e (by omega) (setsOf ws).length 0 [] (by omega) rfl
   rw [List.drop_zero, List.nil_append] at this
   exact Ev.bind hw (evPos rfl (Ev.bind (sets_facts e).1 (evNeg (by omega) this)))
theorem behind_loop (l : List ByteArray) (c : Int) (hl : l.length ≤ 100000) (d : Nat) : ∀ (i : Nat) (out : List ByteArray), i + d = l.length → out.length ≤ i → Ev (fun k => impl_behind.l0 k c out l (l.length : Int) (i : Int)) (out ++ endsL (l.drop i) c) := by
 induction d with
 | zero =>
  intro i out hi ho
  refine Ev.step (fun k => impl_behind.l0.eq_2 ..) (eN (evTo (Ev.now _) ?_))
  rw [List.drop_eq_nil_of_le (by omega)]
  simp [endsL]
 | succ d ih =>
  intro i out hi ho
  have hlt : i < l.length := by omega
  have e1 : wrap64 ((i : Int) + 1) = ((i + 1 : Nat) : Int) := w6
  refine Ev.step (fun k => impl_behind.l0.eq_2 ..) (eP (eP (eP ?_)))
  rw [ba_get l i hlt, e1, List.drop_eq_getElem_cons hlt, endsL_cons]
  by_cases c0 : l[i].toList = []
  ·have hz : l[i].size = 0 := by
    rw [Lib.toList_data] at c0
    have := data_length l[i]
    rw [c0] at this
    exact this.symm
   rw [if_neg (fun h => by omega), List.nil_append]
   exact evPos c0 (ih (i + 1) _ (by omega) (by omega))
  ·have hz : 0 < l[i].size := by
    rcases Nat.eq_zero_or_pos l[i].size with h | h
    ·exfalso
     have h2 := data_length l[i]
     rw [h] at h2
     exact c0 (by rw [Lib.toList_data]; exact List.length_eq_zero_iff.1 h2)
    ·exact h
   refine evNeg c0 (eP ?_)
   by_cases c2 : bt l[i] 0 = c
   ·rw [if_pos ⟨hz, c2⟩]
    refine evPos c2 (eP (eP (evTo (ih (i + 1) _ (by omega) (by simp; omega)) ?_)))
    simp
   ·rw [if_neg (fun h => c2 h.2), List.nil_append]
    exact evNeg c2 (ih (i + 1) _ (by omega) (by omega))
theorem behind_ev (l : List ByteArray) (c : Int) (hl : l.length ≤ 100000) : Ev (fun k => impl_behind.f k l c) (endsL l c) := by
 have := behind_loop l c hl l.length 0 [] (by omega) (by simp)
 rw [List.drop_zero, List.nil_append] at this
 exact this
theorem first_loop (l : List ByteArray) (hl : l.length ≤ 100000) (d : Nat) : ∀ (i : Nat) (out : List Int), i + d = l.length → out.length ≤ i → Ev (fun k => impl_firstLetters.l0 k out l (l.length : Int) (i : Int)) ((l.drop i).foldl flStep out) := by
 induction d with
 | zero =>
  intro i out hi ho
  refine Ev.step (fun k => impl_firstLetters.l0.eq_2 ..) (eN (evTo (Ev.now _) ?_))
  rw [List.drop_eq_nil_of_le (by omega)]
  rfl
 | succ d ih =>
  intro i out hi ho
  have hlt : i < l.length := by omega
  have e1 : wrap64 ((i : Int) + 1) = ((i + 1 : Nat) : Int) := w6
  refine Ev.step (fun k => impl_firstLetters.l0.eq_2 ..) (eP (eP (eP ?_)))
  rw [ba_get l i hlt, e1, List.drop_eq_getElem_cons hlt, List.foldl_cons]
  have hzt : l[i].toList = [] ↔ l[i].size = 0 := by
   rw [Lib.toList_data, ← List.length_eq_zero_iff, data_length]
  by_cases c0 : l[i].toList = []
  ·have e : flStep out l[i] = out := by unfold flStep; rw [if_pos (hzt.1 c0)]
   rw [e]
   exact evPos c0 (ih (i + 1) _ (by omega) (by omega))
  ·have hz : ¬ l[i].size = 0 := fun h => c0 (hzt.2 h)
   by_cases c1 : (out.length : Int) = 0
   ·have h0 : out = [] := List.length_eq_zero_iff.1 (by omega)
    subst h0
    have e : flStep [] l[i] = [] ++ [bt l[i] 0] := by unfold flStep; rw [if_neg hz, if_neg nofun]
    rw [e]
    exact evNeg c0 (evPos c1 (eP (eP (ih (i + 1) _ (by omega) (by simp)))))
   ·have hw : wrap64 ((out.length : Int) - 1) = ((out.length - 1 : Nat) : Int) := by
     have := w6 (n := (out.length : Int) - 1)
     omega
    have hlast : out.getLast? = some (rd out ((out.length - 1 : Nat) : Int)) := by
     rw [List.getLast?_eq_getElem?]
     simp [rd, List.getD_eq_getElem?_getD, show out.length - 1 < out.length by omega]
    refine evNeg c0 (evNeg c1 ?_)
    rw [hw]
    by_cases c2 : rd out ((out.length - 1 : Nat) : Int) = bt l[i] 0
    ·have e : flStep out l[i] = out := by unfold flStep; rw [if_neg hz, if_pos (by rw [hlast, c2])]
     rw [e]
     exact eP (eP (eP (evPos c2 (ih (i + 1) _ (by omega) (by omega)))))
    ·have e : flStep out l[i] = out ++ [bt l[i] 0] := by unfold flStep; rw [if_neg hz, if_neg (by rw [hlast]; intro h; exact c2 (Option.some.inj h))]
     rw [e]
     exact eP (eP (eP (evNeg c2 (eP (ih (i + 1) _ (by omega) (by simp; omega))))))
theorem first_ev {x : List ByteArray} (h : SetOk x) : Ev (fun k => impl_firstLetters.f k x) (lettersL x) := by
 have hl := h.len
 have := first_loop x (by omega) x.length 0 [] (by omega) (by simp)
 rw [List.drop_zero, fl_letters h] at this
 exact this
theorem letters_length (x : List ByteArray) : (lettersL x).length ≤ 26 := by
 unfold lettersL lettersD
 refine Nat.le_trans (List.length_filter_le _ _) ?_
 simp
theorem split10 : ∀ (x y T U : List UInt8), (10 : UInt8) ∉ x → (10 : UInt8) ∉ y → (T = [] ∨ ∃ T', T = 10 :: T') → (U = [] ∨ ∃ U', U = 10 :: U') → x ++ T = y ++ U → x = y ∧ T = U
 | [], [], T, U, _, _, _, _, h => ⟨rfl, by simpa using h⟩
 | [], b :: y, T, U, _, hy, hT, _, h => by
  rcases hT with rfl | ⟨T', rfl⟩
  ·simp at h
  ·simp only [List.nil_append, List.cons_append, List.cons.injEq] at h
   exact absurd h.1 (fun e => hy (by rw [e]; simp))
 | a :: x, [], T, U, hx, _, _, hU, h => by
  rcases hU with rfl | ⟨U', rfl⟩
  ·simp at h
  ·simp only [List.nil_append, List.cons_append, List.cons.injEq] at h
   exact absurd h.1 (fun e => hx (by rw [← e]; simp))
 | a :: x, b :: y, T, U, hx, hy, hT, hU, h => by
  simp only [List.cons_append, List.cons.injEq] at h
  obtain ⟨h1, h2⟩ := split10 x y T U (fun e => hx (List.mem_cons_of_mem _ e)) (fun e => hy (List.mem_cons_of_mem _ e)) hT hU h.2
  exact ⟨by rw [h.1, h1], h2⟩
theorem tail10 (r : List (List UInt8)) : Go.Lib.joinTail [10] r = [] ∨ ∃ T', Go.Lib.joinTail [10] r = 10 :: T' := by
 cases r with
 | nil => exact .inl rfl
 | cons z r => exact .inr ⟨_, rfl⟩
theorem tail_inj : ∀ (a b : List (List UInt8)), (∀ s ∈ a, (10 : UInt8) ∉ s) → (∀ s ∈ b, (10 : UInt8) ∉ s) → Go.Lib.joinTail [10] a = Go.Lib.joinTail [10] b → a = b
 | [], [], _, _, _ => rfl
 | [], z :: b, _, _, h => by simp [Go.Lib.joinTail] at h
 | z :: a, [], _, _, h => by simp [Go.Lib.joinTail] at h
 | x :: a, y :: b, ha, hb, h => by
  have e : ∀ (z : List UInt8) (r : List (List UInt8)), Go.Lib.joinTail [10] (z :: r) = 10 :: (z ++ Go.Lib.joinTail [10] r) := fun z r => rfl
  rw [e, e, List.cons.injEq] at h
  obtain ⟨h1, h2⟩ := split10 x y _ _ (ha x List.mem_cons_self) (hb y List.mem_cons_self) (tail10 a) (tail10 b) h.2
  rw [h1, tail_inj a b (fun s hs => ha s (List.mem_cons_of_mem _ hs)) (fun s hs => hb s (List.mem_cons_of_mem _ hs)) h2]
theorem join_inj {a b : List (List UInt8)} (na : a ≠ []) (nb : b ≠ []) (ha : ∀ s ∈ a, (10 : UInt8) ∉ s) (hb : ∀ s ∈ b, (10 : UInt8) ∉ s) (h : Go.Lib.join a [10] = Go.Lib.join b [10]) : a = b := by
 obtain ⟨x, r, rfl⟩ := List.exists_cons_of_ne_nil na
 obtain ⟨y, q, rfl⟩ := List.exists_cons_of_ne_nil nb
 rw [Go.Lib.join_cons, Go.Lib.join_cons] at h
 obtain ⟨h1, h2⟩ := split10 x y _ _ (ha x List.mem_cons_self) (hb y List.mem_cons_self) (tail10 r) (tail10 q) h
 rw [h1, tail_inj r q (fun s hs => ha s (List.mem_cons_of_mem _ hs)) (fun s hs => hb s (List.mem_cons_of_mem _ hs)) h2]
theorem no10 {x : List ByteArray} (h : SetOk x) : ∀ s ∈ x.map (fun s : ByteArray => s.data.toList), (10 : UInt8) ∉ s := by
 intro s hs hm
 obtain ⟨t, ht, rfl⟩ := List.mem_map.1 hs
 have := (h.txt t ht).2 10 (List.mem_map.2 ⟨10, hm, rfl⟩)
 omega
theorem mapd_inj : ∀ {a b : List ByteArray}, a.map (fun s : ByteArray => s.data.toList) = b.map (fun s : ByteArray => s.data.toList) → a = b
 | [], [], _ => rfl
 | [], _ :: _, h => by simp at h
 | _ :: _, [], h => by simp at h
 | x :: a, y :: b, h => by
  rw [List.map_cons, List.map_cons, List.cons.injEq] at h
  rw [mapd_inj h.2, ByteArray.ext (Array.toList_inj.1 h.1)]
theorem jn_inj {x y : List ByteArray} (hx : SetOk x) (hy : SetOk y) (nx : x ≠ []) (ny : y ≠ []) (h : impl_MachineOf.jn x = impl_MachineOf.jn y) : x = y := by
 unfold impl_MachineOf.jn at h
 injection h with h
 have h := Array.toList_inj.2 h
 have h := join_inj (by simpa using nx) (by simpa using ny) (no10 hx) (no10 hy) h
 exact mapd_inj h
theorem lens_le (n : Nat) : ∀ r : List (List UInt8), (∀ s ∈ r, s.length ≤ n) → Go.Lib.lens r ≤ n * r.length
 | [], _ => by simp [Go.Lib.lens]
 | x :: r, h => by
  have h1 := lens_le n r (fun s hs => h s (List.mem_cons_of_mem _ hs))
  have h2 := h x List.mem_cons_self
  simp only [Go.Lib.lens, List.length_cons, Nat.mul_add, List.map_cons, List.sum_cons] at h1 ⊢
  omega
theorem okB_set {x : List ByteArray} (h : SetOk x) (hne : x ≠ []) : impl_MachineOf.okB x = true := by
 have hl := h.len
 have hp := List.length_pos_iff.2 hne
 have hj : (Go.Lib.join (x.map (fun s : ByteArray => s.data.toList)) (⟨#[10]⟩ : ByteArray).data.toList).length ≤ 1000000000 := by
  obtain ⟨s, r, rfl⟩ := List.exists_cons_of_ne_nil hne
  rw [List.map_cons, Go.Lib.join_length]
  have h1 := lens_le 12 (s.data.toList :: r.map (fun s : ByteArray => s.data.toList)) (fun t ht => by
   rw [← List.map_cons (f := fun s : ByteArray => s.data.toList)] at ht
   obtain ⟨u, hu, rfl⟩ := List.mem_map.1 ht
   rw [data_length]
   exact (h.txt u hu).1)
  simp only [List.length_cons, List.length_map, show (⟨#[10]⟩ : ByteArray).data.toList.length = 1 from rfl] at *
  omega
 simp only [impl_MachineOf.okB, Bool.and_eq_true, decide_eq_true_eq]
 exact ⟨⟨hp, by omega⟩, hj⟩
structure Seen (ws : List ByteArray) (sn : List (ByteArray × List ByteArray)) : Prop where
 nod : (sn.map (·.2)).Nodup
 key : ∀ e ∈ sn, e.1 = impl_MachineOf.jn e.2
 in_ : ∀ e ∈ sn, InS ws e.2 ∧ e.2 ≠ []
theorem Seen.length {ws : List ByteArray} (h : wsB ws = true) {sn : List (ByteArray × List ByteArray)} (hs : Seen ws sn) : sn.length ≤ 4000 := by
 obtain ⟨h1, _, h3⟩ := ws_facts h
 have := allOk_length (ws := ws) (out := sn.map (·.2)) ⟨hs.nod, fun x hx => by
  obtain ⟨e, he, rfl⟩ := List.mem_map.1 hx
  rcases (hs.in_ e he).1 with h | ⟨hne, p, hp⟩
  ·exact ⟨[], h, .inl rfl⟩
  ·exact ⟨p, hp, .inr hne⟩⟩ h1 h3
 simpa using this
theorem Seen.any {ws : List ByteArray} (h : wsB ws = true) {sn : List (ByteArray × List ByteArray)} (hs : Seen ws sn) {l : List ByteArray} (hl : InS ws l) (hne : l ≠ []) : sn.any (fun e => e.1.toList == (impl_MachineOf.jn l).toList) = true ↔ l ∈ sn.map (·.2) := by
 rw [List.any_eq_true]
 constructor
 ·rintro ⟨e, he, h1⟩
  have h2 : e.1 = impl_MachineOf.jn l := (toList_iff _ _).1 (by simpa using h1)
  rw [hs.key e he] at h2
  obtain ⟨h3, h4⟩ := hs.in_ e he
  exact List.mem_map.2 ⟨e, he, jn_inj (set_in (set_ws h) h3) (set_in (set_ws h) hl) h4 hne h2⟩
 ·intro hm
  obtain ⟨e, he, rfl⟩ := List.mem_map.1 hm
  exact ⟨e, he, by simp [hs.key e he]⟩
theorem Seen.put {ws : List ByteArray} {sn : List (ByteArray × List ByteArray)} (hs : Seen ws sn) {l : List ByteArray} (hl : InS ws l) (hne : l ≠ []) (c : l ∉ sn.map (·.2)) : Seen ws (sn ++ [(impl_MachineOf.jn l, l)]) := by
 refine ⟨?_, ?_, ?_⟩
 ·rw [List.map_append, List.nodup_append]
  refine ⟨hs.nod, by simp, fun a ha b hb => ?_⟩
  have : b = l := by simpa using hb
  rw [this]
  rintro rfl
  exact c ha
 ·intro e he
  rcases List.mem_append.1 he with he | he
  ·exact hs.key e he
  ·rw [List.mem_singleton.1 he]
 ·intro e he
  rcases List.mem_append.1 he with he | he
  ·exact hs.in_ e he
  ·rw [List.mem_singleton.1 he]
   exact ⟨hl, hne⟩
structure More (ws : List ByteArray) (sn sn' : List (ByteArray × List ByteArray)) : Prop where
 seen : Seen ws sn'
 sub : ∀ x ∈ sn.map (·.2), x ∈ sn'.map (·.2)
 shut : ∀ x ∈ sn'.map (·.2), x ∉ sn.map (·.2) → ∀ c, endsL x c = [] ∨ endsL x c ∈ sn'.map (·.2)
theorem More.refl {ws : List ByteArray} {sn : List (ByteArray × List ByteArray)} (h : Seen ws sn) : More ws sn sn := ⟨h, fun _ h => h, fun x h1 h2 => absurd h1 h2⟩
theorem More.trans {ws : List ByteArray} {a b c : List (ByteArray × List ByteArray)} (h : More ws a b) (k : More ws b c) : More ws a c :=
 ⟨k.seen, fun x hx => k.sub x (h.sub x hx), fun x hx hn e => by
  by_cases hb : x ∈ b.map (·.2)
  ·exact (h.shut x hb hn e).imp id (k.sub _)
  ·exact k.shut x hx hb e⟩
theorem search_ev {ws : List ByteArray} (h : wsB ws = true) (n : Nat) : ∀ (l : List ByteArray) (sn : List (ByteArray × List ByteArray)), InS ws l → l ≠ [] → (∀ s ∈ l, s.size ≤ n) → Seen ws sn →
  ∃ sn', Ev (fun k => impl_MachineOf.g k sn l) sn' ∧ More ws sn sn' ∧ l ∈ sn'.map (·.2) := by
 induction n with
 | zero =>
  intro l sn hl hne hz hs
  have hok := set_in (set_ws h) hl
  have hlen := hs.length h
  by_cases c : l ∈ sn.map (·.2)
  ·exact ⟨sn, Ev.step (fun k => impl_MachineOf.g.eq_2 ..) (evPos ⟨okB_set hok hne, by omega⟩ (evPos ((hs.any h hl hne).2 c) (Ev.now _))), More.refl hs, c⟩
  ·have hlet : lettersL l = [] := by
    refine List.eq_nil_iff_forall_not_mem.2 (fun c hc => ?_)
    obtain ⟨s, hs2, hz2, _⟩ := ends_ne.1 ((letters_mem l c).1 hc).2
    have := hz s hs2
    omega
   have hf := first_ev hok
   rw [hlet] at hf
   refine ⟨sn ++ [(impl_MachineOf.jn l, l)], Ev.step (fun k => impl_MachineOf.g.eq_2 ..) (evPos ⟨okB_set hok hne, by omega⟩ (evNeg (fun e => c ((hs.any h hl hne).1 e)) (Ev.bind hf (Ev.now _)))), ⟨hs.put hl hne c, ?_, ?_⟩, ?_⟩
   ·intro x hx
    rw [List.map_append]
    exact List.mem_append_left _ hx
   ·intro x hx hn e
    rw [List.map_append] at hx
    rcases List.mem_append.1 hx with hx | hx
    ·exact absurd hx hn
    ·have hxl : x = l := by simpa using hx
     subst hxl
     left
     by_cases hc : endsL x e = []
     ·exact hc
     ·have := (letters_mem x e).2 ⟨letter_in hok hc, hc⟩
      rw [hlet] at this
      cases this
   ·rw [List.map_append]
    exact List.mem_append_right _ (by simp)
 | succ n ih =>
  intro l sn hl hne hz hs
  have hok := set_in (set_ws h) hl
  have hlen := hs.length h
  by_cases c : l ∈ sn.map (·.2)
  ·exact ⟨sn, Ev.step (fun k => impl_MachineOf.g.eq_2 ..) (evPos ⟨okB_set hok hne, by omega⟩ (evPos ((hs.any h hl hne).2 c) (Ev.now _))), More.refl hs, c⟩
  ·have loop : ∀ (cs : List Int), (∀ c ∈ cs, endsL l c ≠ []) → ∀ sn, Seen ws sn → ∃ sn', Ev (fun k => impl_MachineOf.gl (impl_MachineOf.g k) k l cs sn) sn' ∧ More ws sn sn' ∧ ∀ c ∈ cs, endsL l c ∈ sn'.map (·.2) := by
    intro cs
    induction cs with
    | nil => exact fun _ sn hs => ⟨sn, Ev.now _, More.refl hs, by simp⟩
    | cons c cs ihc =>
     intro hcs sn hs
     have hc := hcs c List.mem_cons_self
     obtain ⟨sn1, h1, h2, h3⟩ := ih (endsL l c) sn (inS_ends hl c hc) hc (fun t ht => by
      obtain ⟨s, hs2, hb⟩ := mem_ends.1 ht
      have h4 := hz s hs2
      have h5 := congrArg List.length hb
      rw [bytesOf_length, List.length_cons, bytesOf_length] at h5
      omega) hs
     obtain ⟨sn2, g1, g2, g3⟩ := ihc (fun d hd => hcs d (List.mem_cons_of_mem _ hd)) sn1 h2.seen
     have hll := hok.len
     refine ⟨sn2, Ev.bind (behind_ev l c (by omega)) (Ev.bind h1 g1), h2.trans g2, fun d hd => ?_⟩
     rcases List.mem_cons.1 hd with rfl | hd
     ·exact g2.sub _ h3
     ·exact g3 d hd
   have hs1 := hs.put hl hne c
   obtain ⟨sn', g1, g2, g3⟩ := loop (lettersL l) (fun c hc => ((letters_mem l c).1 hc).2) _ hs1
   have hin : l ∈ sn'.map (·.2) := g2.sub l (by rw [List.map_append]; exact List.mem_append_right _ (by simp))
   refine ⟨sn', Ev.step (fun k => impl_MachineOf.g.eq_2 ..) (evPos ⟨okB_set hok hne, by omega⟩ (evNeg (fun e => c ((hs.any h hl hne).1 e)) (Ev.bind (first_ev hok) g1))), ⟨g2.seen, fun x hx => g2.sub x (by rw [List.map_append]; exact List.mem_append_left _ hx), fun x hx hn e => ?_⟩, hin⟩
   by_cases hxl : x = l
   ·subst hxl
    by_cases hc : endsL x e = []
    ·exact .inl hc
    ·exact .inr (g3 e ((letters_mem x e).2 ⟨letter_in hok hc, hc⟩))
   ·exact g2.shut x hx (fun hm => by
     rw [List.map_append] at hm
     rcases List.mem_append.1 hm with hm | hm
     ·exact hn hm
     ·exact hxl (by simpa using hm)) e
theorem search_all {ws : List ByteArray} (h : wsB ws = true) (hne : ws ≠ []) : ∃ sn, Ev (fun k => impl_MachineOf.g k [] ws) sn ∧ Seen ws sn ∧ ∀ x, x ∈ sn.map (·.2) ↔ x ∈ setsOf ws := by
 obtain ⟨_, _, hin, _, _⟩ := sets_facts h
 obtain ⟨_, h2, h3⟩ := ws_facts h
 obtain ⟨sn, h4, h5, h6⟩ := search_ev h 12 ws [] (.inl rfl) hne h3 ⟨by simp, by simp, by simp⟩
 refine ⟨sn, h4, h5.seen, fun x => ⟨fun hx => ?_, fun hx => ?_⟩⟩
 ·obtain ⟨e, he, rfl⟩ := List.mem_map.1 hx
  exact (hin _).2 (h5.seen.in_ e he).1
 ·exact closed_all h2 h6 (fun y hy c _ _ => h5.shut y hy (by simp) c) x ((hin x).1 hx)
theorem mx_max (a b : Int) : mx a b = max a b := by
 unfold mx
 split <;> omega
theorem lng_eq (l : List ByteArray) : impl_MachineOf.lng l = lngL 0 l := by
 unfold impl_MachineOf.lng lngL
 congr 1
 funext n s
 exact mx_max _ _
theorem lex_eq : ∀ a b : List ByteArray, impl_MachineOf.lex a b = stLex a b
 | [], [] => rfl
 | [], _ :: _ => rfl
 | _ :: _, [] => rfl
 | x :: a, y :: b => by
  rw [impl_MachineOf.lex, stLex, lex_eq a b]
  by_cases e : x = y
  ·subst e
   rw [if_pos rfl, less_irrefl]
   simp
  ·rw [if_neg e]
   cases h : ltS x y with
   | true => exact if_pos h
   | false =>
    have h2 := ltS_total h e
    exact (if_neg (fun h3 => by unfold ltS at h; rw [h] at h3; cases h3)).trans (if_pos h2)
theorem lt_eq (a b : List ByteArray) : impl_MachineOf.lt a b = setLt a b := by
 unfold impl_MachineOf.lt setLt
 rw [lng_eq, lng_eq, lex_eq]
 by_cases h : lngL 0 a = lngL 0 b
 ·rw [if_pos h, if_neg (by omega), if_neg (by omega)]
 ·rw [if_neg h]
  by_cases h2 : lngL 0 b < lngL 0 a
  ·rw [if_pos h2, decide_eq_true h2]
  ·rw [if_neg h2, if_pos (by omega), decide_eq_false h2]
theorem longest_loop (l : List ByteArray) (hl : l.length ≤ 100000) (d : Nat) : ∀ (i : Nat) (v : Int), i + d = l.length → ∃ r, Ev (fun k => impl_longest.l0 k v l (l.length : Int) (i : Int)) r := by
 induction d with
 | zero =>
  intro i v hi
  exact ⟨v, Ev.step (fun k => impl_longest.l0.eq_2 ..) (eN (Ev.now _))⟩
 | succ d ih =>
  intro i v hi
  have e1 : wrap64 ((i : Int) + 1) = ((i + 1 : Nat) : Int) := w6
  obtain ⟨r, hr⟩ := ih (i + 1) (mx v ((rdOf ByteArray.empty l (i : Int)).size : Int)) (by omega)
  refine ⟨r, Ev.step (fun k => impl_longest.l0.eq_2 ..) (eP (eP (eP ?_)))⟩
  rw [e1]
  exact hr
theorem cmpS_some (x y : ByteArray) : ∃ r, cmp_Compare_string.f x y = some r := by
 have n2 : ∀ z : ByteArray, (z.toList != z.toList) = false := fun z => by simp
 unfold cmp_Compare_string.f cmp_isNaN_string.f
 simp only [n2, Option.bind_some, Bool.false_eq_true, if_false]
 by_cases h4 : Op.bytesLess x.toList y.toList = true <;> by_cases h5 : Op.bytesLess y.toList x.toList = true <;> simp [h4, h5]
theorem cmpI_some (x y : Int) : ∃ r, cmp_Compare_int.f x y = some r := by
 have n2 : ∀ z : Int, (z != z) = false := fun z => by simp
 unfold cmp_Compare_int.f cmp_isNaN_int.f
 simp only [n2, Option.bind_some, Bool.false_eq_true, if_false]
 by_cases h4 : x < y <;> by_cases h5 : x > y <;> simp [h4, h5]
theorem cmpL_loop (a b : List ByteArray) (hl : a.length ≤ 100000) (d : Nat) : ∀ i : Nat, i + d = a.length → ∃ r, Ev (fun k => slices_Compare_string_string.l0 k a b a (a.length : Int) (i : Int)) r := by
 induction d with
 | zero =>
  intro i hi
  by_cases c : (a.length : Int) < (b.length : Int)
  ·exact ⟨_, Ev.step (fun k => slices_Compare_string_string.l0.eq_2 ..) (eN (evPos c (Ev.now _)))⟩
  ·exact ⟨_, Ev.step (fun k => slices_Compare_string_string.l0.eq_2 ..) (eN (evNeg c (Ev.now _)))⟩
 | succ d ih =>
  intro i hi
  have e1 : wrap64 ((i : Int) + 1) = ((i + 1 : Nat) : Int) := w6
  by_cases c : (i : Int) ≥ (b.length : Int)
  ·exact ⟨_, Ev.step (fun k => slices_Compare_string_string.l0.eq_2 ..) (eP (eP (eP (evPos c (Ev.now _)))))⟩
  ·obtain ⟨t, ht⟩ := cmpS_some (rdOf ByteArray.empty a (i : Int)) (rdOf ByteArray.empty b (i : Int))
   by_cases z : t = 0
   ·obtain ⟨r, hr⟩ := ih (i + 1) (by omega)
    refine ⟨r, Ev.step (fun k => slices_Compare_string_string.l0.eq_2 ..) (eP (eP (eP (evNeg c (eP (evCall ht (evPos z ?_)))))))⟩
    rw [e1]
    exact hr
   ·exact ⟨t, Ev.step (fun k => slices_Compare_string_string.l0.eq_2 ..) (eP (eP (eP (evNeg c (eP (evCall ht (evNeg z (Ev.now _))))))))⟩
theorem cmpO_ev (x y : Int) : ∃ r, Ev (fun k => cmp_Or_int.f k [x, y]) r := by
 have e2 : wrap64 ((0 : Int) + 1) = 1 := w6
 have e3 : wrap64 ((1 : Int) + 1) = 2 := w6
 unfold cmp_Or_int.f
 by_cases hx : rd [x, y] 0 = 0
 ·by_cases hy : rd [x, y] 1 = 0
  ·refine ⟨0, Ev.step (fun k => cmp_Or_int.l0.eq_2 ..) (evPos (by simp) (eP (evPos (by simp) (evPos hx ?_))))⟩
   rw [e2]
   refine Ev.step (fun k => cmp_Or_int.l0.eq_2 ..) (evPos (by simp) (eP (evPos (by simp) (evPos hy ?_))))
   rw [e3]
   exact Ev.step (fun k => cmp_Or_int.l0.eq_2 ..) (evNeg (by simp) (Ev.now _))
  ·refine ⟨rd [x, y] 1, Ev.step (fun k => cmp_Or_int.l0.eq_2 ..) (evPos (by simp) (eP (evPos (by simp) (evPos hx ?_))))⟩
   rw [e2]
   exact Ev.step (fun k => cmp_Or_int.l0.eq_2 ..) (evPos (by simp) (eP (evPos (by simp) (evNeg hy (Ev.now _)))))
 ·exact ⟨_, Ev.step (fun k => cmp_Or_int.l0.eq_2 ..) (evPos (by simp) (eP (evPos (by simp) (evNeg hx (Ev.now _)))))⟩
theorem cmpF_ev (a b : List ByteArray) (ha : a.length ≤ 100000) (hb : b.length ≤ 100000) : ∃ r, Ev (fun k => impl_MachineOf.cmpF k a b) r := by
 obtain ⟨lb, h1⟩ := longest_loop b hb b.length 0 0 (by omega)
 obtain ⟨la, h2⟩ := longest_loop a ha a.length 0 0 (by omega)
 obtain ⟨t, h3⟩ := cmpI_some lb la
 obtain ⟨u, h4⟩ := cmpL_loop a b ha a.length 0 (by omega)
 obtain ⟨r, h5⟩ := cmpO_ev t u
 exact ⟨r, Ev.bind h1 (Ev.bind h2 (evCall h3 (Ev.bind h4 h5)))⟩
theorem ev_all {α : Type} {P : Nat → α → Prop} : ∀ l : List α, (∀ a ∈ l, ∃ K, ∀ k, K ≤ k → P k a) → ∃ K, ∀ k, K ≤ k → ∀ a ∈ l, P k a
 | [], _ => ⟨0, fun _ _ a h => by cases h⟩
 | a :: l, h => by
  obtain ⟨K, hK⟩ := ev_all l (fun b hb => h b (List.mem_cons_of_mem _ hb))
  obtain ⟨K2, hK2⟩ := h a List.mem_cons_self
  refine ⟨max K K2, fun k hk b hb => ?_⟩
  rcases List.mem_cons.1 hb with rfl | hb
  ·exact hK2 k (by omega)
  ·exact hK k (by omega) b hb
theorem okA_ev {ws : List ByteArray} (h : wsB ws = true) {sn : List (ByteArray × List ByteArray)} (hs : Seen ws sn) (hp : 0 < sn.length) : ∃ K, ∀ k, K ≤ k → impl_MachineOf.okA k sn = true := by
 have hz : ∀ e ∈ sn, SetOk e.2 := fun e he => set_in (set_ws h) (hs.in_ e he).1
 obtain ⟨K, hK⟩ := ev_all (P := fun k a => ∀ b ∈ sn, (impl_MachineOf.cmpF k a.2 b.2).isSome = true) sn (fun a ha => ev_all sn (fun b hb => by
  have h1 := (hz a ha).len
  have h2 := (hz b hb).len
  obtain ⟨r, K, hr⟩ := cmpF_ev a.2 b.2 (by omega) (by omega)
  exact ⟨K, fun k hk => (congrArg Option.isSome (hr k hk)).trans rfl⟩))
 refine ⟨K, fun k hk => ?_⟩
 simp only [impl_MachineOf.okA, Bool.and_eq_true, decide_eq_true_eq, List.all_eq_true]
 exact ⟨hp, fun a ha => ⟨okB_set (hz a ha) (hs.in_ a ha).2, fun b hb => hK k hk a ha b hb⟩⟩
theorem evIf {α : Type} {c : Nat → Prop} [∀ k, Decidable (c k)] {a b : Nat → Option α} {r : α} (h : ∃ K, ∀ k, K ≤ k → c k) (k : Ev a r) : Ev (fun n => if c n then a n else b n) r := by
 obtain ⟨K, h⟩ := h
 obtain ⟨K2, k⟩ := k
 exact ⟨max K K2, fun n hn => (if_pos (h n (by omega))).trans (k n (by omega))⟩
theorem pos_eq (x : List ByteArray) : ∀ (l : List (List ByteArray)) (i : Nat), x ∈ l → impl_MachineOf.pos x l i = some (i + posL x l)
 | [], _, h => by cases h
 | y :: ys, i, h => by
  rw [impl_MachineOf.pos, posL]
  by_cases e : y = x
  ·rw [if_pos (by rw [e]), if_pos e]
   rfl
  ·rw [if_neg (fun h => e (impl_MachineOf.map_inj h)), if_neg e, pos_eq x ys (i + 1) ((List.mem_cons.1 h).resolve_left (Ne.symm e))]
   congr 1
   omega
theorem oe_ev {ws : List ByteArray} (h : wsB ws = true) {x : List ByteArray} (hx : x ∈ setsOf ws) : ∀ (cs : List Int), (∀ c ∈ cs, endsL x c ≠ []) → ∀ es, Ev (fun k => impl_MachineOf.oe k (setsOf ws) x cs es) (es ++ cs.map (fun c => (⟨c, (posL (endsL x c) (setsOf ws) : Int)⟩ : Eg)))
 | [], _, es => by
  rw [List.map_nil, List.append_nil]
  exact Ev.now es
 | c :: cs, hc, es => by
  have hok := (sets_facts h).2.2.2.1 x hx
  have hll := hok.len
  have h1 := hc c List.mem_cons_self
  have h2 := ends_in h hx h1
  have h3 := oe_ev h hx cs (fun d hd => hc d (List.mem_cons_of_mem _ hd)) (es ++ [(⟨wrap64 c, ((0 + posL (endsL x c) (setsOf ws) : Nat) : Int)⟩ : Eg)])
  have hl := letter_in hok h1
  refine Ev.bind (behind_ev x c (by omega)) (evPos (okB_set (set_ends hok c) h1) (evCall (pos_eq _ _ 0 h2) (evTo h3 ?_)))
  rw [List.append_assoc, w6, Nat.zero_add]
  rfl
theorem os_ev {ws : List ByteArray} (h : wsB ws = true) : ∀ (l : List (List ByteArray)), (∀ x ∈ l, x ∈ setsOf ws ∧ x ≠ []) → ∀ out, Ev (fun k => impl_MachineOf.os k (setsOf ws) l out) (out ++ l.map (stL (setsOf ws)))
 | [], _, out => by
  rw [List.map_nil, List.append_nil]
  exact Ev.now out
 | x :: l, hx, out => by
  obtain ⟨h1, h2⟩ := hx x List.mem_cons_self
  have hok := (sets_facts h).2.2.2.1 x h1
  have hll := letters_length x
  have h3 := oe_ev h h1 (lettersL x) (fun c hc => ((letters_mem x c).1 hc).2) []
  rw [List.nil_append] at h3
  have h4 := os_ev h l (fun y hy => hx y (List.mem_cons_of_mem _ hy)) (out ++ [(⟨(rdOf ByteArray.empty x 0).toList.isEmpty, edgesL (setsOf ws) x⟩ : St)])
  refine Ev.bind (first_ev hok) (eP (Ev.bind h3 (evTo h4 ?_)))
  have e : stL (setsOf ws) x = ⟨(rdOf ByteArray.empty x 0).toList.isEmpty, edgesL (setsOf ws) x⟩ := by
   unfold stL
   rw [decide_eq_true (List.length_pos_iff.2 h2), Bool.true_and]
  rw [List.map_cons, e, List.append_assoc]
  rfl
theorem sets_nil : setsOf [] = [[]] := setsOf_eq ⟨by simp, fun x => by
 simp only [InS, chain_nil, List.mem_singleton]
 exact ⟨.inl, fun h => h.elim id (fun ⟨h1, _, h2⟩ => absurd h2 h1)⟩⟩
theorem ne_of_in {ws : List ByteArray} (hne : ws ≠ []) {x : List ByteArray} (h : InS ws x) : x ≠ [] := by
 rcases h with rfl | ⟨h, _⟩
 ·exact hne
 ·exact h
theorem srtd_le {l : List (List ByteArray)} (h : Srtd l) : l.Pairwise (fun a b => impl_MachineOf.le a b = true) := h.imp (fun {a b} h => by
 unfold impl_MachineOf.le
 rw [lt_eq, setLt_asymm h]
 rfl)
theorem moB_impl (ws : List ByteArray) (hl : ws.length ≤ 1048576) (he : ∀ s ∈ ws, s.size ≤ 1048576) : Ev (fun k => impl_MachineOf.f k ws) (moB ws) := by
 have hw := words_impl ws 300 hl he
 change Ev _ (wsB ws) at hw
 unfold impl_MachineOf.f moB
 cases e : wsB ws with
 | false =>
  rw [e] at hw
  exact Ev.bind hw (evNeg (by simp) (Ev.now _))
 | true =>
  rw [e] at hw
  rw [if_pos rfl]
  by_cases c0 : ws = []
  ·subst c0
   rw [sets_nil, if_neg (by simp)]
   refine Ev.bind hw (evPos rfl (evPos rfl (evTo (Ev.now _) ?_)))
   have : lettersL [] = [] := List.eq_nil_iff_forall_not_mem.2 (fun c hc => ((letters_mem [] c).1 hc).2 rfl)
   simp [stL, edgesL, this]
  ·obtain ⟨sn, h1, h2, h3⟩ := search_all e c0
   obtain ⟨g0, g1, g2, g3, g4⟩ := sets_facts e
   have hperm : (sn.map (·.2)).Perm (setsOf ws) := (List.perm_ext_iff_of_nodup h2.nod g1.nodup).2 h3
   have hlen : sn.length = (setsOf ws).length := by rw [← hperm.length_eq, List.length_map]
   have hp : 0 < (setsOf ws).length := List.length_pos_iff.2 (fun e2 => by have := (g2 ws).2 (.inl rfl); rw [e2] at this; cases this)
   have hsort : (sn.map (·.2)).mergeSort impl_MachineOf.le = setsOf ws := impl_MachineOf.sorted_ext ((List.mergeSort_perm _ _).trans hperm) (impl_MachineOf.le_sorted _) (srtd_le g1)
   refine Ev.bind hw (evPos rfl (evNeg (fun h => c0 (List.length_eq_zero_iff.1 (by omega))) (Ev.bind h1 ?_)))
   unfold impl_MachineOf.fin
   rw [hsort]
   by_cases c : (setsOf ws).length > 400
   ·rw [if_pos c]
    exact eP (eP (Ev.now _))
   ·rw [if_neg c]
    have h5 := os_ev e (setsOf ws) (fun x hx => ⟨hx, ne_of_in c0 ((g2 x).1 hx)⟩) []
    rw [List.nil_append] at h5
    exact eP (eN (evIf (okA_ev e h2 (by omega)) (Ev.bind h5 (Ev.now _))))
theorem moB_small (ws : List ByteArray) : (moB ws).1.length ≤ 400 ∧ ∀ s ∈ (moB ws).1, s.f1.length ≤ 26 := by
 unfold moB
 split
 ·split
  ·exact ⟨by simp, by simp⟩
  ·refine ⟨by simp; omega, fun s hs => ?_⟩
   obtain ⟨x, _, rfl⟩ := List.mem_map.1 hs
   show (edgesL _ x).length ≤ 26
   unfold edgesL
   rw [List.length_map]
   have h2 : (lettersL x).length ≤ 26 := by
    unfold lettersL lettersD
    refine Nat.le_trans (List.length_filter_le _ _) ?_
    simp
   exact h2
 ·exact ⟨by simp, by simp⟩
theorem fill_step {α β : Type} {f : α → β} {xs : List α} {ys : List β} {i : Nat} (z : α) (hl : ys.length = xs.length) (h : ∀ j : Nat, j < i → ys[j]? = (xs.map f)[j]?) (hi : i < xs.length) :
  (ys.set i (f (xs.getD i z))).length = xs.length ∧ ∀ j : Nat, j < i + 1 → (ys.set i (f (xs.getD i z)))[j]? = (xs.map f)[j]? := by
 refine ⟨by simpa using hl, fun j hj => ?_⟩
 by_cases c : i = j
 ·subst c
  simp [hl, hi, List.getD_eq_getElem?_getD]
 ·rw [List.getElem?_set_ne c]
  exact h j (by omega)
theorem fill_end {α β : Type} {f : α → β} {xs : List α} {ys : List β} (hl : ys.length = xs.length) (h : ∀ j : Nat, j < xs.length → ys[j]? = (xs.map f)[j]?) : ys = xs.map f := by
 refine List.ext_getElem? fun j => ?_
 by_cases c : j < xs.length
 ·exact h j c
 ·rw [List.getElem?_eq_none (by omega), List.getElem?_eq_none (by simp; omega)]
theorem eqEdges_loop (l : List S49) (hl : l.length ≤ 10000000) (d : Nat) : ∀ i : Nat, i + d = l.length → Ev (fun k => laws_eqEdgeS.l0 k l l (i : Int)) true := by
 induction d with
 | zero =>
  intro i hi
  exact Ev.step (fun k => laws_eqEdgeS.l0.eq_2 _ _ _ _) (eN (Ev.now _))
 | succ d ih =>
  intro i hi
  refine Ev.step (fun k => laws_eqEdgeS.l0.eq_2 _ _ _ _) (eP (eP (eP (evCall (a := true) (by simp [laws_eqEdge.f]) (evPos rfl ?_)))))
  rw [w6]
  exact ih (i + 1) (by omega)
theorem eqStates_loop (l : List S45) (hl : l.length ≤ 10000000) (he : ∀ s ∈ l, s.f1.length ≤ 10000000) (d : Nat) : ∀ i : Nat, i + d = l.length → Ev (fun k => laws_eqStateS.l0 k l l (i : Int)) true := by
 induction d with
 | zero =>
  intro i hi
  exact Ev.step (fun k => laws_eqStateS.l0.eq_2 _ _ _ _) (eN (Ev.now _))
 | succ d ih =>
  intro i hi
  have hm : (rd_T45 l (i : Int)).f1.length ≤ 10000000 := by
   have hlt : i < l.length := by omega
   have e : rd_T45 l (i : Int) = l[i] := by simp [rd_T45, List.getD_eq_getElem?_getD, hlt]
   rw [e]
   exact he _ (List.getElem_mem hlt)
  have hs : Ev (fun k => laws_eqState.f k (rd_T45 l (i : Int)).f0 (rd_T45 l (i : Int)).f1 (rd_T45 l (i : Int)).f0 (rd_T45 l (i : Int)).f1) true := by
   unfold laws_eqState.f laws_eqEdgeS.f
   exact evNeg (by simp) (Ev.bind (evPos rfl (eqEdges_loop _ hm _ 0 (Nat.zero_add _))) (evPos rfl (Ev.now _)))
  refine Ev.step (fun k => laws_eqStateS.l0.eq_2 _ _ _ _) (eP (eP (eP (Ev.bind hs (evPos rfl ?_)))))
  rw [w6]
  exact ih (i + 1) (by omega)
theorem eqStates_ev (l : List S45) (hl : l.length ≤ 10000000) (he : ∀ s ∈ l, s.f1.length ≤ 10000000) : Ev (fun k => laws_eqStateS.f k l l) true := by
 unfold laws_eqStateS.f
 exact evPos rfl (eqStates_loop l hl he l.length 0 (by omega))
theorem markText_loop (d : Nat) : ∀ (n : Int) (s : ByteArray), 0 ≤ n → n < 2 ^ d → n ≤ 4611686018427387904 → s.size + d ≤ 1000000 → ∃ t, Ev (fun k => laws_markText.l0 k n s) t := by
 induction d with
 | zero =>
  intro n s h0 h1 h2 hs
  exact ⟨_, Ev.step (fun k => laws_markText.l0.eq_2 _ _ _) (evNeg (by simp at h1; omega) (eP (Ev.now _)))⟩
 | succ d ih =>
  intro n s h0 h1 h2 hs
  by_cases c : n > 0
  ·have hd : Int.tdiv n 10 = n / 10 := Int.tdiv_eq_ediv_of_nonneg h0
   have hp : (2 : Int) ^ (d + 1) = 2 ^ d * 2 := Int.pow_succ 2 d
   have hz : ∀ x : Int, (strOfNums [x]).size = 1 := fun _ => rfl
   obtain ⟨t, ht⟩ := ih (n / 10) (strOfNums [(wrap64 (48 + (Int.tmod n 10))) % 256] ++ s) (by omega) (by omega) (by omega) (by rw [size_append, hz]; omega)
   refine ⟨t, Ev.step (fun k => laws_markText.l0.eq_2 _ _ _) (evPos c (evCall rfl (evPos (by rw [hz]; omega) ?_)))⟩
   rw [hd, w6 (n := n / 10)]
   exact ht
  ·exact ⟨_, Ev.step (fun k => laws_markText.l0.eq_2 _ _ _) (evNeg c (eP (Ev.now _)))⟩
theorem markText_some (n : Int) (h1 : n ≤ 4611686018427387904) : ∃ t, Ev (fun k => laws_markText.f k n) t := by
 unfold laws_markText.f
 by_cases c : n ≤ 0
 ·exact ⟨_, evPos c (Ev.now _)⟩
 ·obtain ⟨t, ht⟩ := markText_loop 63 n ⟨#[]⟩ (by omega) (by omega) h1 (by decide)
  exact ⟨t, evNeg c ht⟩
noncomputable def mt (n : Int) : ByteArray := Classical.epsilon (fun t => Ev (fun k => laws_markText.f k n) t)
theorem mt_ev (n : Int) (h1 : n ≤ 4611686018427387904) : Ev (fun k => laws_markText.f k n) (mt n) := Classical.epsilon_spec (p := fun t => Ev (fun k => laws_markText.f k n) t) (markText_some n h1)
noncomputable def marks (n : Int) (d : Nat) : List ByteArray := (List.range d).map (fun j : Nat => mt (n + (j : Int)))
theorem marks_length (n : Int) (d : Nat) : (marks n d).length = d := by simp [marks]
theorem markStr_loop (l0 : Nat) (d : Nat) : ∀ (i : Nat) (y : List ByteArray), y.length = l0 → i + d = l0 → l0 ≤ 2000000 → (∀ j : Nat, j < i → y[j]? = (marks 1 l0)[j]?) → Ev (fun k => laws_markStringS.l0 k y ((1 : Int) + i) (i : Int)) ((1 : Int) + l0, marks 1 l0) := by
 induction d with
 | zero =>
  intro i y hy hi hl h
  refine Ev.step (fun k => laws_markStringS.l0.eq_2 _ _ _ _) (eN (evTo (Ev.now _) ?_))
  have e : y = marks 1 l0 := by
   refine List.ext_getElem? fun j => ?_
   by_cases c : j < i
   ·exact h j c
   ·rw [List.getElem?_eq_none (by omega), List.getElem?_eq_none (by rw [marks_length]; omega)]
  rw [e, show (1 : Int) + (i : Int) = 1 + (l0 : Int) from by omega]
 | succ d ih =>
  intro i y hy hi hl h
  refine Ev.step (fun k => laws_markStringS.l0.eq_2 _ _ _ _) (eP (Ev.bind (mt_ev _ (by omega)) (eP ?_)))
  rw [w6 (n := (1 : Int) + (i : Int) + 1), w6 (n := (i : Int) + 1), show (1 : Int) + (i : Int) + 1 = 1 + ((i + 1 : Nat) : Int) from by omega]
  refine ih (i + 1) _ (by simpa using hy) (by omega) hl (fun j hj => ?_)
  rw [Int.toNat_natCast]
  by_cases c : i = j
  ·subst c
   rw [List.getElem?_set_self (by omega)]
   simp [marks, show i < l0 from by omega]
  ·rw [List.getElem?_set_ne c]
   exact h j (by omega)
theorem markStrs_ev (l : List ByteArray) (hl : l.length ≤ 2000000) : Ev (fun k => laws_markStringS.f k l 1) ((1 : Int) + l.length, marks 1 l.length) := by
 unfold laws_markStringS.f
 have := markStr_loop l.length l.length 0 l rfl (by omega) hl (fun j hj => absurd hj (by omega))
 simpa using this
theorem eqStr_loop (l : List ByteArray) (hl : l.length ≤ 10000000) (d : Nat) : ∀ i : Nat, i + d = l.length → Ev (fun k => laws_eqStringS.l0 k l l (i : Int)) true := by
 induction d with
 | zero =>
  intro i hi
  exact Ev.step (fun k => laws_eqStringS.l0.eq_2 _ _ _ _) (eN (Ev.now _))
 | succ d ih =>
  intro i hi
  refine Ev.step (fun k => laws_eqStringS.l0.eq_2 _ _ _ _) (eP (eP (eP (evPos rfl ?_))))
  rw [w6]
  exact ih (i + 1) (by omega)
theorem eqStrs_ev (l : List ByteArray) (hl : l.length ≤ 10000000) : Ev (fun k => laws_eqStringS.f k l l) true := by
 unfold laws_eqStringS.f
 exact evPos rfl (eqStr_loop l hl l.length 0 (by omega))
theorem toStr_loop (l : List ByteArray) (hl : l.length ≤ 10000000) (d : Nat) : ∀ (i : Nat) (y : List ByteArray), i + d = l.length → y.length = l.length → (∀ j : Nat, j < i → y[j]? = (l.map id)[j]?) → Ev (fun k => laws_toStringS.l0 k l y (i : Int)) (l.map id) := by
 induction d with
 | zero =>
  intro i y hi hy h
  exact Ev.step (fun k => laws_toStringS.l0.eq_2 _ _ _ _) (eN (evTo (Ev.now _) (fill_end hy (fun j hj => h j (by omega)))))
 | succ d ih =>
  intro i y hi hy h
  obtain ⟨h1, h2⟩ := fill_step (f := id) ByteArray.empty hy h (by omega)
  refine Ev.step (fun k => laws_toStringS.l0.eq_2 _ _ _ _) (eP (eP (eP ?_)))
  rw [w6]
  exact ih (i + 1) _ (by omega) h1 h2
theorem toStrs_ev (l : List ByteArray) (hl : l.length ≤ 10000000) : Ev (fun k => laws_toStringS.f k l) l := by
 unfold laws_toStringS.f
 exact eP (eP (evTo (toStr_loop l hl l.length 0 _ (by omega) (by simp) (fun j hj => absurd hj (by omega))) (List.map_id l)))
theorem szStrs_loop (l : List ByteArray) (hl : l.length ≤ 10000000) (he : ∀ s ∈ l, s.size ≤ 9223372036854775807) (d : Nat) : ∀ (i : Nat) (n : Int), i + d = l.length → 0 ≤ n → n ≤ 1048576 → ∃ m, Ev (fun k => laws_szStringS.l0 k l n (i : Int)) m ∧ (m < 0 ∨ (0 ≤ m ∧ m ≤ 1048576 ∧ ∀ s ∈ l.drop i, s.size ≤ 1048576)) := by
 induction d with
 | zero =>
  intro i n hi h0 h1
  exact ⟨n, Ev.step (fun k => laws_szStringS.l0.eq_2 _ _ _ _) (eN (Ev.now _)), .inr ⟨h0, h1, fun s hs => by rw [List.drop_eq_nil_of_le (by omega)] at hs; cases hs⟩⟩
 | succ d ih =>
  intro i n hi h0 h1
  have hlt : i < l.length := by omega
  have e := ba_get l i hlt
  have hw := he _ (List.getElem_mem hlt)
  by_cases c : n - (l[i].size : Int) < 0
  ·refine ⟨-1, Ev.step (fun k => laws_szStringS.l0.eq_2 _ _ _ _) (eP (eP ?_)), .inl (by omega)⟩
   rw [e, w6 (n := n - (l[i].size : Int))]
   exact evPos c (Ev.now _)
  ·obtain ⟨q, hq, hr⟩ := ih (i + 1) (n - (l[i].size : Int)) (by omega) (by omega) (by omega)
   refine ⟨q, Ev.step (fun k => laws_szStringS.l0.eq_2 _ _ _ _) (eP (eP ?_)), hr.elim .inl (fun h => .inr ⟨h.1, h.2.1, fun s hs => ?_⟩)⟩
   ·rw [e, w6 (n := n - (l[i].size : Int))]
    refine evNeg c ?_
    rw [w6 (n := (i : Int) + 1)]
    exact hq
   ·rw [List.drop_eq_getElem_cons hlt] at hs
    rcases List.mem_cons.1 hs with rfl | hs
    ·omega
    ·exact h.2.2 s hs
theorem szStrs_ev (l : List ByteArray) (n : Int) (h0 : 0 ≤ n) (h1 : n ≤ 1048576) (hl : l.length ≤ 9223372036854775807) (he : ∀ s ∈ l, s.size ≤ 9223372036854775807) :
  ∃ m, Ev (fun k => laws_szStringS.f k l n) m ∧ (m < 0 ∨ (0 ≤ m ∧ m ≤ 1048576 ∧ l.length ≤ 1048576 ∧ ∀ s ∈ l, s.size ≤ 1048576)) := by
 unfold laws_szStringS.f
 rw [w6 (n := n - (l.length : Int))]
 by_cases c : n - (l.length : Int) < 0
 ·exact ⟨-1, evPos c (Ev.now _), .inl (by omega)⟩
 ·obtain ⟨m, hm, hz⟩ := szStrs_loop l (by omega) he l.length 0 (n - l.length) (by omega) (by omega) (by omega)
  exact ⟨m, evNeg c hm, hz.elim .inl (fun h => .inr ⟨h.1, h.2.1, by omega, by simpa using h.2.2⟩)⟩
theorem st_get (l : List St) (i : Nat) (h : i < l.length) : rd_T45 l (i : Int) = l[i] := by simp [rd_T45, List.getD_eq_getElem?_getD, h]
theorem eg_get (l : List Eg) (i : Nat) (h : i < l.length) : rd_T49 l (i : Int) = l[i] := by simp [rd_T49, List.getD_eq_getElem?_getD, h]
theorem mkE_get : ∀ (l : List Eg) (a : Int) (j : Nat), j < l.length → (laws_markStateS.mkE l a)[j]? = some ⟨a + 2 * j, a + 2 * j + 1⟩
 | [], a, j, h => by simp at h
 | e :: l, a, 0, _ => by simp [laws_markStateS.mkE]
 | e :: l, a, j + 1, h => by
  have := mkE_get l (a + 2) j (by simpa using h)
  rw [laws_markStateS.mkE, List.getElem?_cons_succ, this]
  congr 2 <;> omega
theorem heldE_loop (l : List Eg) (a : Int) (hl : l.length ≤ 2000000) (h0 : 0 ≤ a) (h1 : a ≤ 8000000000000000) (d : Nat) : ∀ i : Nat, i + d = l.length → Ev (fun k => laws_heldEdgeS.l0 k (laws_markStateS.mkE l a) (a + 2 * i) (i : Int)) (a + 2 * l.length) := by
 have hm := laws_markStateS.mkE_length l a
 induction d with
 | zero =>
  intro i hi
  refine Ev.step (fun k => laws_heldEdgeS.l0.eq_2 ..) (eN (evTo (Ev.now _) ?_))
  rw [show i = l.length by omega]
 | succ d ih =>
  intro i hi
  have hlt : i < l.length := by omega
  have hg : (laws_markStateS.mkE l a)[i]'(by omega) = ⟨a + 2 * i, a + 2 * i + 1⟩ := (List.getElem?_eq_some_iff.1 (mkE_get l a i hlt)).2
  have next := ih (i + 1) (by omega)
  have e1 : wrap64 (a + 2 * (i : Int) + 1) = a + 2 * i + 1 := w6
  have e2 : wrap64 (a + 2 * (i : Int) + 1 + 1) = a + 2 * ((i + 1 : Nat) : Int) := (w6).trans (by omega)
  have e3 : wrap64 ((i : Int) + 1) = ((i + 1 : Nat) : Int) := w6
  refine Ev.step (fun k => laws_heldEdgeS.l0.eq_2 ..) (eP (eP ?_))
  rw [eg_get _ i (by omega), hg, e1, e2, e3]
  exact evPos rfl (evPos rfl next)
theorem heldE_ev (l : List Eg) (a : Int) (hl : l.length ≤ 2000000) (h0 : 0 ≤ a) (h1 : a ≤ 8000000000000000) : Ev (fun k => laws_heldEdgeS.f k (laws_markStateS.mkE l a) a) (a + 2 * l.length) := by
 have := heldE_loop l a hl h0 h1 l.length 0 (by omega)
 show Ev (fun k => laws_heldEdgeS.l0 k (laws_markStateS.mkE l a) a 0) _
 simpa using this
theorem mkS_get : ∀ (l : List St) (a : Int) (j : Nat) (h : j < l.length), (laws_markStateS.mkS l a)[j]? = some ⟨Int.tmod (laws_markStateS.ks (l.take j) a) 3 == 0, laws_markStateS.mkE l[j].f1 (laws_markStateS.ks (l.take j) a + 1)⟩
 | [], a, j, h => by simp at h
 | s :: l, a, 0, _ => by simp [laws_markStateS.mkS, laws_markStateS.ks]
 | s :: l, a, j + 1, h => by
  have := mkS_get l (a + 1 + 2 * (s.f1.length : Int)) j (by simpa using h)
  rw [laws_markStateS.mkS, List.getElem?_cons_succ, this]
  rfl
theorem heldS_loop (l : List St) (hl : l.length ≤ 10000) (hs : ∀ s ∈ l, s.f1.length ≤ 10000) (d : Nat) : ∀ i : Nat, i + d = l.length → Ev (fun k => laws_heldStateS.l0 k (laws_markStateS.mkS l 1) (laws_markStateS.ks (l.take i) 1) (i : Int)) (laws_markStateS.ks l 1) := by
 have hm := laws_markStateS.mkS_length l 1
 have hb := laws_markStateS.ks_le l (fun s h => by have := hs s h; omega) 1
 induction d with
 | zero =>
  intro i hi
  refine Ev.step (fun k => laws_heldStateS.l0.eq_2 ..) (eN (evTo (Ev.now _) ?_))
  rw [List.take_of_length_le (by omega)]
 | succ d ih =>
  intro i hi
  have hlt : i < l.length := by omega
  have hg := (List.getElem?_eq_some_iff.1 (mkS_get l 1 i hlt)).2
  have next := ih (i + 1) (by omega)
  have hbi := hb i (by omega)
  have hsi := hs _ (List.getElem_mem hlt)
  rw [laws_markStateS.ks_snoc l i hlt] at next
  have e1 : wrap64 (laws_markStateS.ks (l.take i) 1 + 1) = laws_markStateS.ks (l.take i) 1 + 1 := w6
  have e3 : wrap64 ((i : Int) + 1) = ((i + 1 : Nat) : Int) := w6
  have he := heldE_ev l[i].f1 (laws_markStateS.ks (l.take i) 1 + 1) (by omega) (by omega) (by omega)
  refine Ev.step (fun k => laws_heldStateS.l0.eq_2 ..) (eP (eP ?_))
  rw [st_get _ i (by omega), hg, e1, e3]
  exact evNeg (by simp) (Ev.bind he (evNeg (by omega) next))
theorem heldS_ev (l : List St) (hl : l.length ≤ 10000) (hs : ∀ s ∈ l, s.f1.length ≤ 10000) : Ev (fun k => laws_heldStateS.f k (laws_markStateS.mkS l 1) 1) (laws_markStateS.ks l 1) := heldS_loop l hl hs l.length 0 (by omega)
theorem FnExactMachineOf (l : List ByteArray) (z : (l.length ≤ 9223372036854775807 ∧ ∀ y1 ∈ l, y1.size ≤ 9223372036854775807)) : ∃ k, laws_FnExactMachineOf.f k l = some true := by
 refine Ev.rounds ?_
 unfold laws_FnExactMachineOf.f
 obtain ⟨m, hm, hz⟩ := szStrs_ev l 1048576 (by omega) (by omega) z.1 z.2
 refine Ev.bind hm ?_
 by_cases c : m < 0
 ·exact evPos c (Ev.now _)
 obtain ⟨_, _, hl, he⟩ := hz.resolve_left c
 have ht := toStrs_ev l (by omega)
 obtain ⟨s1, s2⟩ := moB_small l
 have hks := (laws_markStateS.ks_le (moB l).1 (fun s h => by have := s2 s h; omega) 1 (moB l).1.length (Nat.le_refl _)).1
 rw [List.take_length] at hks
 have hmk : laws_markStateS.f (moB l).1 1 = some (laws_markStateS.ks (moB l).1 1, laws_markStateS.mkS (moB l).1 1) := if_pos ⟨by omega, fun s h => by have := s2 s h; omega, by omega, by omega⟩
 refine evNeg c (Ev.bind ht (Ev.bind (moB_spec l hl he) (Ev.bind (moB_impl l hl he) (Ev.bind (eqStates_ev (moB l).1 (by omega) (fun s h => by have := s2 s h; omega)) (Ev.bind (eqStrs_ev l (by omega)) (Ev.bind (markStrs_ev l (by omega)) (evCall hmk (Ev.bind (heldS_ev (moB l).1 (by omega) (fun s h => by have := s2 s h; omega)) ?_))))))))
 exact evPos ⟨rfl, rfl, rfl, by show (0 : Int) ≤ 1 + l.length; omega, by omega, rfl⟩ (Ev.now _)
end Go.Proofs.Ytpljfjbhlboffaa.Pure

/- All that is one step from a word is just so far, and among its near words just if it is one step away; of two drawn words. No condition. -/
import Derived.Test.YtedfcehhgbeibaaQFnNearx10
import Derived.Test.YtedfcehhgbeibaaVMBas
import Derived.Test.YtedfcehhgbeibaaVMStr
import Derived.Test.YtedfcehhgbeibaaVMAff
import Derived.Test.YtedfcehhgbeibaaVMSml
import Derived.Test.YtedfcehhgbeibaaVMNer
import Derived.Test.YtedfcehhgbeibaaVMSrt
import Derived.Test.YtedfcehhgbeibaaVMDst
import Derived.Test.YtedfcehhgbeibaaVMAry
import Derived.Test.YtedfcehhgbeibaaVSized
namespace Go.Proofs.Ytedfcehhgbeibaa
theorem PrintWords.sized_ints : type_of% @Go.Proofs.YtedfcehhgbeibaaW.PrintWords.sized_ints := @Go.Proofs.YtedfcehhgbeibaaW.PrintWords.sized_ints
end Go.Proofs.Ytedfcehhgbeibaa
namespace Go.Proofs.Ytedfcehhgbeibaa.Pure
open Go.RowKit Go.Proofs.Ytedfcehhgbeibaa.QFnNear Go.Proofs.YtedfcehhgbeibaaW.PrintWords Go.Proofs.YtedfcehhgbeibaaW.PrintLast Go.Proofs.YtedfcehhgbeibaaW.PrintMore Go.Proofs.Ytedfcehhgbeibaa.M
set_option linter.unusedVariables false
set_option linter.unusedSimpArgs false
theorem ba_get (l : List ByteArray) (i : Nat) (h : i < l.length) : rdOf ByteArray.empty l (i : Int) = l[i] := by simp [rdOf, List.getD_eq_getElem?_getD, List.getElem?_eq_getElem h]
def Rdr (s : List Int) (p : Int) : Prop := s.length ≤ 2000 ∧ (∀ x ∈ s, 0 ≤ x ∧ x ≤ 255) ∧ 0 ≤ p ∧ p ≤ 1000000000000
theorem Rdr.at_ {s : List Int} {p : Int} (h : Rdr s p) (q : Int) (h0 : 0 ≤ q) (h1 : q ≤ 1000000000000) : Rdr s q := ⟨h.1, h.2.1, h0, h1⟩
theorem rd_range {s : List Int} (h : ∀ x ∈ s, 0 ≤ x ∧ x ≤ 255) (i : Int) : 0 ≤ rd s i ∧ rd s i ≤ 255 := by
 unfold rd
 rw [List.getD_eq_getElem?_getD]
 by_cases c : i.toNat < s.length
 ·rw [List.getElem?_eq_getElem c]
  exact h _ (List.getElem_mem c)
 ·rw [List.getElem?_eq_none (by omega)]
  simp
def pickY (a b p q : Int) : Int := wrap64 (wrap64 (wrap64 (wrap64 (wrap64 a * 131) + wrap64 (wrap64 b * 1117)) + wrap64 (p * 29)) + wrap64 (wrap64 q * 53))
def pickX (a b p q : Int) : Int := Go.bits .xor .i64 (pickY a b p q) (wrap64 (Int.tdiv (pickY a b p q) 64))
theorem pickX_pos (a b p q : Int) (ha : 0 ≤ a ∧ a ≤ 255) (hb : 0 ≤ b ∧ b ≤ 255) (h0 : 0 ≤ p) (h1 : p ≤ 1000000000000) (q0 : 0 ≤ q) (q1 : q ≤ p) : 0 ≤ pickX a b p q := by
 have e : pickY a b p q = a * 131 + b * 1117 + p * 29 + q * 53 := by
  unfold pickY
  rw [w6 (n := a), w6 (n := b), w6 (n := a * 131), w6 (n := b * 1117), w6 (n := p * 29), w6 (n := q), w6 (n := q * 53), w6 (n := a * 131 + b * 1117), w6 (n := a * 131 + b * 1117 + p * 29), w6 (n := a * 131 + b * 1117 + p * 29 + q * 53)]
 unfold pickX
 rw [e]
 have x0 : 0 ≤ a * 131 + b * 1117 + p * 29 + q * 53 := by omega
 have x1 : a * 131 + b * 1117 + p * 29 + q * 53 < 4611686018427387904 := by omega
 generalize a * 131 + b * 1117 + p * 29 + q * 53 = x at *
 have t0 := Int.tdiv_nonneg x0 (show (0 : Int) ≤ 64 from by omega)
 have t1 : Int.tdiv x 64 ≤ x := Int.tdiv_le_self 64 x0
 rw [w6 (n := Int.tdiv x 64)]
 exact xor_small x (Int.tdiv x 64) x0 x1 t0 (by omega)
theorem pick_ev {s : List Int} {p : Int} (h : Rdr s p) (n : Int) (hn : n ≤ 1000000000000000) : ∃ v, Ev (fun k => spec_l1Rd_pick.f k s p n) (v, p + 1) ∧ 0 ≤ v ∧ (v < n ∨ v = 0) := by
 obtain ⟨hl, hb, hp0, hp1⟩ := h
 have hr := rd_range hb
 unfold spec_l1Rd_pick.f
 rw [w6 (n := p + 1)]
 by_cases c : n < 1
 ·exact ⟨0, evPos c (Ev.step (fun k => spec_l1Rd_pick.j0.eq_2 _ _ _ _ _) (evPos rfl (Ev.now _))), by omega, .inr rfl⟩
 by_cases e : s.length = 0
 ·exact ⟨0, evNeg c (Ev.step (fun k => spec_l1Rd_pick.j0.eq_2 _ _ _ _ _) (evPos (by simp [e]) (Ev.now _))), by omega, .inr rfl⟩
 have hlen : 0 < (s.length : Int) := by omega
 have wr (i : Int) : wrap64 (rd s i) = rd s i := w64 (by have := (hr i).1; omega) (by have := (hr i).2; omega)
 by_cases c2 : p < (s.length : Int)
 ·have h1 := hr p
  refine ⟨Int.tmod (rd s p) n, evNeg c (Ev.step (fun k => spec_l1Rd_pick.j0.eq_2 _ _ _ _ _) (evNeg (by simpa using e) ?_)), Int.tmod_nonneg _ h1.1, .inl (Int.tmod_lt_of_pos _ (by omega))⟩
  rw [show p + 1 - 1 = p from by omega, w6 (n := p), wr]
  exact evPos c2 (evPos hp0 (eN (Ev.now _)))
 have m1 := Int.tmod_nonneg (s.length : Int) hp0
 have m2 := Int.tmod_lt_of_pos p hlen
 have m3 := Int.tmod_nonneg (s.length : Int) (show 0 ≤ p * 7 + 3 from by omega)
 have m4 := Int.tmod_lt_of_pos (p * 7 + 3) hlen
 have d1 := Int.tdiv_nonneg hp0 (show 0 ≤ (s.length : Int) from by omega)
 have d2 : Int.tdiv p (s.length : Int) ≤ p := Int.tdiv_le_self (s.length : Int) hp0
 have hz := pickX_pos (rd s (Int.tmod p (s.length : Int))) (rd s (Int.tmod (p * 7 + 3) (s.length : Int))) p (Int.tdiv p (s.length : Int)) (hr _) (hr _) hp0 hp1 d1 d2
 refine ⟨Int.tmod (pickX (rd s (Int.tmod p (s.length : Int))) (rd s (Int.tmod (p * 7 + 3) (s.length : Int))) p (Int.tdiv p (s.length : Int))) n, evNeg c (Ev.step (fun k => spec_l1Rd_pick.j0.eq_2 _ _ _ _ _) (evNeg (by simpa using e) ?_)), Int.tmod_nonneg _ hz, .inl (Int.tmod_lt_of_pos _ (by omega))⟩
 rw [show p + 1 - 1 = p from by omega, w6 (n := p), w6 (n := p * 7), w6 (n := p * 7 + 3)]
 exact evNeg c2 (eN (evPos m1 (evPos m2 (evPos m3 (evPos m4 (eN (Ev.now _)))))))
theorem of_ev {s : List Int} {p : Int} (h : Rdr s p) (l : List ByteArray) (h0 : 0 < l.length) (h1 : l.length ≤ 1000000) : ∃ x ∈ l, Ev (fun k => spec_l1Rd_of.f k s p l) (x, p + 1) := by
 obtain ⟨v, hv, v0, v1⟩ := pick_ev h (l.length : Int) (by omega)
 have v2 : v < (l.length : Int) := by omega
 have hl : v.toNat < l.length := by omega
 refine ⟨l[v.toNat], List.getElem_mem hl, ?_⟩
 unfold spec_l1Rd_of.f
 refine Ev.bind hv (evPos v0 (evPos v2 (evTo (Ev.now _) ?_)))
 simp [rdOf, List.getD_eq_getElem?_getD, List.getElem?_eq_getElem hl]
theorem open_ev (l : List Int) (h : ∀ x ∈ l, (Lit.int .u8 x).wf = true) : ∃ s, spec_l1Open.f l = some (s, 0) ∧ Rdr s 0 := by
 have hb : ∀ x ∈ l, 0 ≤ x ∧ x ≤ 255 := by
  intro x hx
  have := h x hx
  simp [Lit.wf, IntKind.min, IntKind.max, IntKind.signed, IntKind.bits] at this
  omega
 unfold spec_l1Open.f
 by_cases c : (l.length : Int) > 2000
 ·refine ⟨l.take 2000, by rw [if_pos c, if_pos (by omega)], ?_, fun x hx => hb x (List.mem_of_mem_take hx), by omega, by omega⟩
  rw [List.length_take]
  omega
 ·exact ⟨l, by rw [if_neg c], by omega, hb, by omega, by omega⟩
theorem least_spec (a b : Int) : spec_l1Least.f a b = some (min a b) := by
 unfold spec_l1Least.f
 by_cases c : a < b
 ·rw [if_pos c]; congr 1; omega
 ·rw [if_neg c]; congr 1; omega
theorem word13_loop {s : List Int} (d : Nat) : ∀ (x : ByteArray) (n p : Int), Rdr s p → p + d ≤ 1000000000000 → n = d → x.size + 2 * d ≤ 1000000 →
  ∃ r p', Ev (fun k => spec_l13Word.l0 k x n s p) (r, p') ∧ r.size ≤ 12 ∧ p ≤ p' ∧ p' ≤ p + d := by
 induction d with
 | zero =>
  intro x n p h hp hn hx
  refine ⟨x.extract 0 (min x.size 12), p, Ev.step (fun k => spec_l13Word.l0.eq_2 _ _ _ _ _) (eN (evCall (least_spec _ _) ?_)), ?_, by omega, by omega⟩
  ·refine eP (eP (evTo (Ev.now _) ?_))
   congr 3
   omega
  ·rw [size_extract _ _ _ (by omega) (by omega)]
   omega
 | succ d ih =>
  intro x n p h hp hn hx
  have hls : ∀ y ∈ ([(⟨#[97]⟩ : ByteArray), (⟨#[98]⟩ : ByteArray), (⟨#[99]⟩ : ByteArray), (⟨#[97, 98]⟩ : ByteArray), (⟨#[116]⟩ : ByteArray)] : List ByteArray), y.size ≤ 2 := by
   intro y hy
   simp only [List.mem_cons, List.not_mem_nil, or_false] at hy
   rcases hy with rfl | rfl | rfl | rfl | rfl <;> decide
  obtain ⟨y, hy, he⟩ := of_ev h ([(⟨#[97]⟩ : ByteArray), (⟨#[98]⟩ : ByteArray), (⟨#[99]⟩ : ByteArray), (⟨#[97, 98]⟩ : ByteArray), (⟨#[116]⟩ : ByteArray)] : List ByteArray) (by simp) (by simp)
  have hy2 := hls y hy
  obtain ⟨r, p', hr, h1, h2, h3⟩ := ih (x ++ y) (n - 1) (p + 1) (h.at_ _ (by have := h.2.2.1; omega) (by omega)) (by omega) (by omega) (by rw [size_append]; omega)
  refine ⟨r, p', Ev.step (fun k => spec_l13Word.l0.eq_2 _ _ _ _ _) (eP (Ev.bind he (evPos (by dsimp only; omega) ?_))), h1, by omega, by omega⟩
  rw [w6]
  exact hr
theorem word13_ev {s : List Int} {p : Int} (h : Rdr s p) (hp : p ≤ 999999999900) : ∃ r p', Ev (fun k => spec_l13Word.f k s p) (r, p') ∧ r.size ≤ 12 ∧ p ≤ p' ∧ p' ≤ p + 10 := by
 have h0 := h.2.2.1
 obtain ⟨v, hv, v0, v1⟩ := pick_ev h 3 (by omega)
 unfold spec_l13Word.f
 by_cases c : v = 0
 ·obtain ⟨u, hu, u0, u1⟩ := pick_ev (h.at_ (p + 1) (by omega) (by omega)) 5 (by omega)
  obtain ⟨d, hd⟩ := Int.eq_ofNat_of_zero_le (show 0 ≤ 1 + u from by omega)
  obtain ⟨r, p', hr, h1, h2, h3⟩ := word13_loop d (⟨#[]⟩ : ByteArray) (1 + u) (p + 1 + 1) (h.at_ _ (by omega) (by omega)) (by omega) hd (by have : (⟨#[]⟩ : ByteArray).size = 0 := rfl; omega)
  refine ⟨r, p', Ev.bind hv (evPos c (Ev.bind hu ?_)), h1, by omega, by omega⟩
  rw [w64 (by dsimp only; omega) (by dsimp only; omega)]
  exact hr
 ·obtain ⟨y, hy, he⟩ := of_ev (h.at_ (p + 1) (by omega) (by omega)) ([(⟨#[99, 97, 116]⟩ : ByteArray), (⟨#[99, 97, 116, 115]⟩ : ByteArray), (⟨#[97, 99, 116]⟩ : ByteArray), (⟨#[100, 111]⟩ : ByteArray), (⟨#[100, 111, 105, 110, 103]⟩ : ByteArray), (⟨#[103, 111]⟩ : ByteArray), (⟨#[117, 110, 100, 111]⟩ : ByteArray), (⟨#[116, 114, 121]⟩ : ByteArray), (⟨#[116, 114, 105, 101, 115]⟩ : ByteArray), (⟨#[97]⟩ : ByteArray), (⟨#[98, 97, 107, 101]⟩ : ByteArray), (⟨#[98, 97, 107, 105, 110, 103]⟩ : ByteArray), (⟨#[116, 97, 99, 116]⟩ : ByteArray), (⟨#[99, 97, 114, 116]⟩ : ByteArray), (⟨#[97, 98, 99, 97, 98, 99, 97, 98, 99, 97, 98, 99]⟩ : ByteArray)] : List ByteArray) (by simp) (by simp)
  refine ⟨y, p + 1 + 1, Ev.bind hv (evNeg c (Ev.bind he (Ev.now _))), ?_, by omega, by omega⟩
  simp only [List.mem_cons, List.not_mem_nil, or_false] at hy
  rcases hy with rfl | rfl | rfl | rfl | rfl | rfl | rfl | rfl | rfl | rfl | rfl | rfl | rfl | rfl | rfl <;> decide
theorem any13_ev {s : List Int} {p : Int} (h : Rdr s p) (hp : p ≤ 999999999800) : ∃ r p', Ev (fun k => spec_l13AnyWord.f k s p) (r, p') ∧ r.size ≤ 13 ∧ p ≤ p' ∧ p' ≤ p + 11 := by
 have h0 := h.2.2.1
 obtain ⟨v, hv, v0, v1⟩ := pick_ev h 16 (by omega)
 unfold spec_l13AnyWord.f
 by_cases c : v = 0
 ·obtain ⟨y, hy, he⟩ := of_ev (h.at_ (p + 1) (by omega) (by omega)) ([(⟨#[]⟩ : ByteArray), (⟨#[67, 97, 116]⟩ : ByteArray), (⟨#[97, 32, 98]⟩ : ByteArray), (⟨#[97, 98, 99, 97, 98, 99, 97, 98, 99, 97, 98, 99, 97]⟩ : ByteArray), (⟨#[120, 49]⟩ : ByteArray), (⟨#[45]⟩ : ByteArray)] : List ByteArray) (by simp) (by simp)
  refine ⟨y, p + 1 + 1, Ev.bind hv (evPos c (Ev.bind he (Ev.now _))), ?_, by omega, by omega⟩
  simp only [List.mem_cons, List.not_mem_nil, or_false] at hy
  rcases hy with rfl | rfl | rfl | rfl | rfl | rfl <;> decide
 ·obtain ⟨r, p', hr, h1, h2, h3⟩ := word13_ev (h.at_ (p + 1) (by omega) (by omega)) (by omega)
  exact ⟨r, p', Ev.bind hv (evNeg c (Ev.bind hr (Ev.now _))), by omega, by omega, by omega⟩
theorem letters_loop (s : ByteArray) (m : Int) (h : s.size ≤ 281474976710656) (d : Nat) : ∀ i : Int, 0 ≤ i → i ≤ s.size → (s.size : Int) - i = d →
  Ev (fun k => spec_l1Letters.l0 k s m i) (((bytesOf s).drop i.toNat).all low && decide ((s.size : Int) ≤ m)) := by
 induction d with
 | zero =>
  intro i h0 h1 hd
  refine Ev.step (fun k => spec_l1Letters.l0.eq_2 _ _ _ _) (eN ?_)
  rw [List.drop_eq_nil_of_le (by rw [bytesOf_length]; omega)]
  exact evTo (Ev.now _) (by simp)
 | succ d ih =>
  intro i h0 h1 hd
  refine Ev.step (fun k => spec_l1Letters.l0.eq_2 _ _ _ _) (eP (evPos h0 ?_))
  rw [bytes_drop s i h0 (by omega), List.all_cons]
  by_cases c : bt s i < 97
  ·exact evPos c (evTo (Ev.now _) (by simp [low]; omega))
  refine evNeg c ?_
  by_cases c1 : bt s i > 122
  ·exact evPos c1 (evTo (Ev.now _) (by simp [low]; omega))
  refine evNeg c1 ?_
  have e : low (bt s i) = true := (low_iff _).2 (by omega)
  rw [w6, e, Bool.true_and]
  exact ih (i + 1) (by omega) (by omega) (by omega)
theorem letters_spec (s : ByteArray) (m : Int) (h : s.size ≤ 140737488351232) : Ev (fun k => spec_l1Letters.f k s m) ((bytesOf s).all low && decide ((s.size : Int) ≤ m)) :=
 letters_loop s m (by omega) s.size 0 (by omega) (by omega) (by omega)
theorem l1Word_spec (s : ByteArray) (h : s.size ≤ 140737488351232) : Ev (fun k => spec_l1Word.f k s) (wordB s) := by
 unfold spec_l1Word.f
 by_cases c : (s.size : Int) > 0
 ·have hp : 0 < s.size := by omega
  refine evPos c (Ev.bind (letters_spec s 12 h) (evTo (Ev.now _) ?_))
  simp only [wordB, wordL, bytesOf_length, decide_eq_true hp, Bool.true_and]
  rw [Bool.and_comm]
  congr 1
  exact decide_eq_decide.2 (by omega)
 ·exact evNeg c (evTo (Ev.now _) (wordB_no (by omega)).symm)
theorem rdOf_get (l : List ByteArray) (i : Int) (_ : 0 ≤ i) (h : i.toNat < l.length) : rdOf ByteArray.empty l i = l[i.toNat] := by
 simp [rdOf, List.getD_eq_getElem?_getD, List.getElem?_eq_getElem h]
theorem put_end (l : List ByteArray) (s : ByteArray) (i : Int) (h0 : 0 ≤ i) (h1 : i ≤ l.length) (hl : l.length ≤ 1000000) : Ev (fun k => spec_l1Put.j2 k l s i false) (l.take i.toNat ++ s :: l.drop i.toNat) := by
 refine Ev.step (fun k => spec_l1Put.j2.eq_2 _ _ _ _ _) (evNeg (by simp) (evCall rfl (evPos h0 (evPos h1 (evCall rfl (evPos ?_ (evCall rfl (evCall rfl (evPos ?_ (evCall rfl (evCall rfl (evPos ?_ (evTo (Ev.now _) ?_)))))))))))))
 ·simp only [List.length_nil, List.length_take]
  omega
 ·simp only [List.nil_append, List.length_take, List.length_cons, List.length_nil]
  omega
 ·simp only [List.nil_append, List.length_append, List.length_take, List.length_cons, List.length_nil, List.length_drop]
  omega
 ·simp
theorem put_loop (l : List ByteArray) (s : ByteArray) (hl : l.length ≤ 1000000) (d : Nat) : ∀ i : Int, 0 ≤ i → i ≤ l.length → (l.length : Int) - i = d →
  Ev (fun k => spec_l1Put.l0 k l s i) (l.take i.toNat ++ putL (l.drop i.toNat) s) := by
 induction d with
 | zero =>
  intro i h0 h1 hd
  have e := put_end l s i h0 h1 hl
  rw [List.drop_eq_nil_of_le (by omega)] at e ⊢
  exact Ev.step (fun k => spec_l1Put.l0.eq_2 _ _ _ _) (eN (Ev.step (fun k => spec_l1Put.j1.eq_2 _ _ _ _ _) (evNeg (by simp) (evNeg (by omega) e))))
 | succ d ih =>
  intro i h0 h1 hd
  have hi : i.toNat < l.length := by omega
  have e := put_end l s i h0 h1 hl
  have ihe := ih (i + 1) (by omega) (by omega) (by omega)
  rw [List.drop_eq_getElem_cons hi] at e ⊢
  rw [show (i + 1).toNat = i.toNat + 1 from by omega, List.take_succ_eq_append_getElem hi] at ihe
  refine Ev.step (fun k => spec_l1Put.l0.eq_2 _ _ _ _) (eP (evPos h0 (Ev.step (fun k => spec_l1Put.j1.eq_2 _ _ _ _ _) ?_)))
  rw [rdOf_get l i h0 hi]
  generalize hx : l[i.toNat] = x at *
  by_cases c : Op.bytesLess x.toList s.toList = true
  ·refine evPos c ?_
   rw [w6]
   refine evTo ihe ?_
   simp [putL, ltS, c]
  ·refine evNeg c (eP (evPos h0 ?_))
   by_cases c2 : x = s
   ·refine Ev.step (fun k => spec_l1Put.j2.eq_2 _ _ _ _ _) (evPos (by simp [c2]) (evTo (Ev.now _) ?_))
    subst c2
    rw [show putL (x :: l.drop (i.toNat + 1)) x = x :: l.drop (i.toNat + 1) from by simp [putL, ltS_irrefl]]
    have : x :: l.drop (i.toNat + 1) = l.drop i.toNat := by rw [List.drop_eq_getElem_cons hi, hx]
    rw [this, List.take_append_drop]
   ·rw [show (x.toList == s.toList) = false from by rw [toList_beq]; simp [c2]]
    refine evTo e ?_
    simp [putL, ltS, c, c2]
theorem put_ev (l : List ByteArray) (s : ByteArray) (hl : l.length ≤ 1000000) : Ev (fun k => spec_l1Put.f k l s) (putL l s) :=
 evTo (put_loop l s hl l.length 0 (by omega) (by omega) (by omega)) (by simp)
theorem step_ev (l : List ByteArray) (s x : ByteArray) (hl : l.length ≤ 1000000) (hx : x.size ≤ 140737488351232) : Ev (fun k => spec_l1Step.f k l s x) (stepL s l x) := by
 unfold spec_l1Step.f
 by_cases c : x = s
 ·exact evPos (by rw [c]) (Ev.step (fun k => spec_l1Step.j0.eq_2 _ _ _ _) (evPos rfl (evTo (Ev.now _) (by simp [stepL, c]))))
 ·refine evNeg (fun h => c ((toList_iff _ _).1 h)) (Ev.bind (l1Word_spec x hx) (Ev.step (fun k => spec_l1Step.j0.eq_2 _ _ _ _) ?_))
  cases e : wordB x with
  | false => exact evPos rfl (evTo (Ev.now _) (by simp [stepL, e]))
  | true => exact evNeg (by simp) (Ev.bind (put_ev l x hl) (evTo (Ev.now _) (by simp [stepL, c, e])))
theorem w32 {n : Int} (h0 : -2147483648 ≤ n) (h1 : n ≤ 2147483647) : wrap32 n = n := by
 unfold wrap32
 omega
theorem near_end {s : ByteArray} {i : Nat} {l r : List ByteArray} (h1 : i ≤ s.size) (hs : s.size ≤ 100) (hl : l.length ≤ 1000 * i + 900)
  (next : ∀ l' : List ByteArray, l' = (swpAt s i).foldl (stepL s) l → Ev (fun k => spec_l1Near.l0 k s l' ((i + 1 : Nat) : Int)) r) : Ev (fun k => spec_l1Near.j2 k s l (i : Int)) r := by
 refine Ev.step (fun k => spec_l1Near.j2.eq_2 _ _ _ _) ?_
 rw [w6 (n := (i : Int) + 1), w6 (n := (i : Int) + 2)]
 by_cases c : (i : Int) + 1 < s.size
 ·have e1 : ((i : Int) + 1).toNat = i + 1 := by omega
  have e2 : ((i : Int) + 2).toNat = i + 2 := by omega
  have z0 : (s.extract 0 i).size = i := by rw [size_extract _ _ _ (by omega) (by omega)]; omega
  have z1 : (s.extract (i + 1) (i + 2)).size = 1 := by rw [size_extract _ _ _ (by omega) (by omega)]; omega
  have z2 : (s.extract i (i + 1)).size = 1 := by rw [size_extract _ _ _ (by omega) (by omega)]; omega
  have z3 : (s.extract (i + 2) s.size).size = s.size - (i + 2) := size_extract _ _ _ (by omega) (Nat.le_refl _)
  rw [Int.toNat_natCast, e1, e2]
  refine evPos c (eP (eP (eP (eP (eP (eP (eP (eP (evPos ?_ (eP (evPos ?_ (Ev.bind (step_ev l s _ (by omega) ?_) ?_))))))))))))
  ·rw [size_append]; omega
  ·rw [size_append, size_append]; omega
  ·rw [size_append, size_append, size_append]; omega
  ·exact next _ (by rw [swpAt, if_pos (by omega)]; rfl)
 ·exact evNeg c (next _ (by rw [swpAt, if_neg (by omega)]; rfl))
theorem near_letters {s : ByteArray} {i : Nat} {r : List ByteArray} (h1 : i ≤ s.size) (hs : s.size ≤ 100)
  (d : Nat) : ∀ (c : Nat) (l : List ByteArray), 97 ≤ c → c + d = 123 → l.length ≤ 1000 * i + (123 - d) * 2 →
  (∀ l' : List ByteArray, l' = (lettersAt s i c ++ delAt s i).foldl (stepL s) l → l'.length ≤ 1000 * i + 900 → Ev (fun k => spec_l1Near.j2 k s l' (i : Int)) r) → Ev (fun k => spec_l1Near.l1 k s l (i : Int) (c : Int)) r := by
 have z0 : (s.extract 0 i).size = i := by rw [size_extract _ _ _ (by omega) (by omega)]; omega
 have z1 : (s.extract i s.size).size = s.size - i := size_extract _ _ _ (by omega) (Nat.le_refl _)
 induction d with
 | zero =>
  intro c l hc hd hl next
  refine Ev.step (fun k => spec_l1Near.l1.eq_2 _ _ _ _ _) (eN ?_)
  rw [lettersAt_end s i c (by omega), List.nil_append] at next
  by_cases q : (i : Int) < s.size
  ·have z2 : (s.extract (i + 1) s.size).size = s.size - (i + 1) := size_extract _ _ _ (by omega) (Nat.le_refl _)
   rw [w6 (n := (i : Int) + 1), Int.toNat_natCast, show ((i : Int) + 1).toNat = i + 1 from by omega]
   refine evPos q (eP (eP (eP (eP (eP (Ev.bind (step_ev l s _ (by omega) (by rw [size_append]; omega)) ?_))))))
   refine next _ (by rw [delAt, if_pos (by omega)]; rfl) ?_
   have := (stepL_length s l (s.extract 0 i ++ s.extract (i + 1) s.size)).2
   omega
  ·exact evNeg q (next _ (by rw [delAt, if_neg (by omega)]; rfl) (by omega))
 | succ d ih =>
  intro c l hc hd hl next
  refine Ev.step (fun k => spec_l1Near.l1.eq_2 _ _ _ _ _) (eP (eP (eP (evCall rfl ?_))))
  have zc : (strOfNums [(c : Int) % 256]).size = 1 := one_size _
  rw [Int.toNat_natCast]
  refine eP (evPos (by rw [size_append]; omega) (Ev.bind (step_ev l s _ (by omega) (by rw [size_append, size_append]; omega)) ?_))
  have hl1 := (stepL_length s l ((s.extract 0 i ++ strOfNums [(c : Int) % 256]) ++ s.extract i s.size)).2
  rw [w32 (by omega) (by omega)]
  rw [lettersAt_step s i c (by omega)] at next
  by_cases q : (i : Int) < s.size
  ·have z2 : (s.extract (i + 1) s.size).size = s.size - (i + 1) := size_extract _ _ _ (by omega) (Nat.le_refl _)
   rw [w6 (n := (i : Int) + 1), show ((i : Int) + 1).toNat = i + 1 from by omega]
   refine evPos q (evCall rfl (eP (eP (eP (evPos (by rw [size_append]; omega) (Ev.bind (step_ev _ s _ (by omega) (by rw [size_append, size_append]; omega)) ?_))))))
   have hl2 := (stepL_length s (stepL s l ((s.extract 0 i ++ strOfNums [(c : Int) % 256]) ++ s.extract i s.size)) ((s.extract 0 i ++ strOfNums [(c : Int) % 256]) ++ s.extract (i + 1) s.size)).2
   refine ih (c + 1) _ (by omega) (by omega) (by omega) (fun l' h' => next l' ?_)
   rw [h', letAt, if_pos (by omega)]
   rfl
  ·refine evNeg q (ih (c + 1) _ (by omega) (by omega) (by omega) (fun l' h' => next l' ?_))
   rw [h', letAt, if_neg (by omega)]
   rfl
theorem near_loop {s : ByteArray} (hs : s.size ≤ 100) (d : Nat) : ∀ (i : Nat) (l : List ByteArray), i + d = s.size + 1 → l.length ≤ 1000 * i → Ev (fun k => spec_l1Near.l0 k s l (i : Int)) ((candsFrom s i).foldl (stepL s) l) := by
 induction d with
 | zero =>
  intro i l hd hl
  rw [candsFrom_end s i (by omega)]
  exact Ev.step (fun k => spec_l1Near.l0.eq_2 _ _ _ _) (eN (Ev.now _))
 | succ d ih =>
  intro i l hd hl
  refine Ev.step (fun k => spec_l1Near.l0.eq_2 _ _ _ _) (eP ?_)
  refine near_letters (c := 97) (d := 26) (by omega) hs _ (by omega) (by omega) (by omega) (fun l1 e1 hl1 => near_end (by omega) hs hl1 (fun l2 e2 => ?_))
  refine evTo (ih (i + 1) l2 (by omega) ?_) ?_
  ·rw [e2]
   have h1 : ((swpAt s i).foldl (stepL s) l1).length ≤ l1.length + (swpAt s i).length := foldStep_length s _ _
   have h2 : (swpAt s i).length ≤ 1 := by unfold swpAt; split <;> simp
   omega
  ·rw [candsFrom_step s i (by omega), List.foldl_append, e2, e1, candsAt, List.foldl_append, List.foldl_append, List.foldl_append]
theorem near_ev (s : ByteArray) (hs : s.size ≤ 100) : Ev (fun k => spec_l1Near.f k s) (nearL s) :=
 near_loop hs (s.size + 1) 0 [] (by omega) (by simp)
theorem nth_near {s : ByteArray} (h : wordB s = true) (u v : Int) (hu : 0 ≤ u) (hu1 : u < 256) (hv : 0 ≤ v) (hv1 : v < 256) :
  ∃ j, Int.tmod (wrap64 (wrap64 (u * 256) + v)) ((nearL s).length : Int) = j ∧ ¬ ((nearL s).length : Int) = 0 ∧ 0 ≤ j ∧ j < ((nearL s).length : Int) ∧ wordB (rdOf ByteArray.empty (nearL s) j) = true := by
 have hne := nearL_some h
 have hp : 0 < (nearL s).length := List.length_pos_iff.2 hne
 rw [w6 (n := u * 256), w6 (n := u * 256 + v)]
 have j0 := Int.tmod_nonneg ((nearL s).length : Int) (show 0 ≤ u * 256 + v from by omega)
 have j1 := Int.tmod_lt_of_pos (u * 256 + v) (show 0 < ((nearL s).length : Int) from by omega)
 refine ⟨_, rfl, by omega, j0, j1, ?_⟩
 rw [rdOf_get _ _ j0 (by omega)]
 exact ((nearL_mem s _).1 (List.getElem_mem _)).2.2
theorem other_ev {t : List Int} {p : Int} (h : Rdr t p) (hp : p ≤ 999999999000) (s : ByteArray) (hs : s.size ≤ 100) : ∃ r p', Ev (fun k => spec_l13Other.f k t p s) (r, p') ∧ r.size ≤ 13 ∧ p ≤ p' ∧ p' ≤ p + 20 := by
 have h0 := h.2.2.1
 have no : ∀ q, p ≤ q → q ≤ p + 1 → ∃ r p', Ev (fun k => spec_l13Other.j0 k s false t q) (r, p') ∧ r.size ≤ 13 ∧ p ≤ p' ∧ p' ≤ p + 20 := by
  intro q q0 q1
  obtain ⟨r, p', h1, h2, h3, h4⟩ := any13_ev (h.at_ q (by omega) (by omega)) (by omega)
  exact ⟨r, p', Ev.step (fun k => spec_l13Other.j0.eq_2 _ _ _ _ _) (evNeg (by simp) (Ev.bind h1 (Ev.now _))), h2, by omega, by omega⟩
 unfold spec_l13Other.f
 cases e : wordB s with
 | false =>
  obtain ⟨r, p', h1, h2⟩ := no p (by omega) (by omega)
  have hw := l1Word_spec s (by omega)
  rw [e] at hw
  exact ⟨r, p', Ev.bind hw (evNeg (by simp) h1), h2⟩
 | true =>
  have hw := l1Word_spec s (by omega)
  rw [e] at hw
  obtain ⟨v, hv, v0, v1⟩ := pick_ev h 2 (by omega)
  by_cases c : v = 0
  ·obtain ⟨a, ha, a0, a1⟩ := pick_ev (h.at_ (p + 1) (by omega) (by omega)) 256 (by omega)
   obtain ⟨b, hb, b0, b1⟩ := pick_ev (h.at_ (p + 1 + 1) (by omega) (by omega)) 256 (by omega)
   obtain ⟨x, hx, x0, x1⟩ := pick_ev (h.at_ (p + 1 + 1 + 1) (by omega) (by omega)) 3 (by omega)
   obtain ⟨j, hj, jn, j0, j1, jw⟩ := nth_near e a b a0 (by omega) b0 (by omega)
   have start : ∀ r p', Ev (fun k => (spec_l1Rd_pick.f k t (p + 1 + 1 + 1) 3).bind fun bt => if bt.1 = 0 then ((spec_l1Near.f k (rdOf ByteArray.empty (nearL s) j)).bind fun t200 => ((spec_l1Rd_pick.f k t bt.2 256).bind fun bt203 => ((spec_l1Rd_pick.f k t bt203.2 256).bind fun bt205 => (if (t200.length : Int) = 0 then (none) else (if 0 ≤ (Int.tmod (wrap64 ((wrap64 (bt203.1 * 256)) + bt205.1)) (t200.length : Int)) then (if (Int.tmod (wrap64 ((wrap64 (bt203.1 * 256)) + bt205.1)) (t200.length : Int)) < (t200.length : Int) then (some (rdOf ByteArray.empty t200 (Int.tmod (wrap64 ((wrap64 (bt203.1 * 256)) + bt205.1)) (t200.length : Int)), bt205.2)) else (none)) else (none)))))) else (some (rdOf ByteArray.empty (nearL s) j, bt.2))) (r, p') →
     Ev (fun k => (spec_l1Word.f k s).bind fun t187 => (if t187 = true then ((spec_l1Rd_pick.f k t p 2).bind fun bt188 => (spec_l13Other.j0 k s (bt188.1 == 0) t bt188.2)) else (spec_l13Other.j0 k s false t p))) (r, p') := by
    intro r p' hr
    refine Ev.bind hw (evPos rfl (Ev.bind hv ?_))
    rw [show (v == 0) = true from by simp [c]]
    refine Ev.step (fun k => spec_l13Other.j0.eq_2 _ _ _ _ _) (evPos rfl (Ev.bind (near_ev s hs) (Ev.bind ha (Ev.bind hb ?_))))
    dsimp only
    rw [hj]
    exact evNeg jn (evPos j0 (evPos j1 hr))
   by_cases c2 : x = 0
   ·have hs2 := (wordB_size jw).2
    obtain ⟨a', ha', a0', a1'⟩ := pick_ev (h.at_ (p + 1 + 1 + 1 + 1) (by omega) (by omega)) 256 (by omega)
    obtain ⟨b', hb', b0', b1'⟩ := pick_ev (h.at_ (p + 1 + 1 + 1 + 1 + 1) (by omega) (by omega)) 256 (by omega)
    obtain ⟨j', hj', jn', j0', j1', jw'⟩ := nth_near jw a' b' a0' (by omega) b0' (by omega)
    have hz := (wordB_size jw').2
    refine ⟨rdOf ByteArray.empty (nearL (rdOf ByteArray.empty (nearL s) j)) j', p + 1 + 1 + 1 + 1 + 1 + 1, start _ _ (Ev.bind hx (evPos c2 (Ev.bind (near_ev _ (by omega)) (Ev.bind ha' (Ev.bind hb' ?_))))), by omega, by omega, by omega⟩
    dsimp only
    rw [hj']
    exact evNeg jn' (evPos j0' (evPos j1' (Ev.now _)))
   ·have hz := (wordB_size jw).2
    exact ⟨_, _, start _ _ (Ev.bind hx (evNeg c2 (Ev.now _))), by omega, by omega, by omega⟩
  ·obtain ⟨r, p', h1, h2⟩ := no (p + 1) (by omega) (by omega)
   refine ⟨r, p', Ev.bind hw (evPos rfl (Ev.bind hv ?_)), h2⟩
   rw [show (v == 0) = false from by simp [c]]
   exact h1
theorem drawFar_ev (l : List Int) (h : ∀ x ∈ l, (Lit.int .u8 x).wf = true) : ∃ a b, Ev (fun k => spec_DrawFar.f k l) (a, b) ∧ a.size ≤ 13 ∧ b.size ≤ 13 := by
 obtain ⟨s, hs, hr⟩ := open_ev l h
 obtain ⟨a, p1, he, z1, q1, q2⟩ := any13_ev hr (by omega)
 obtain ⟨b, p2, hb, z2, _, _⟩ := other_ev (hr.at_ p1 (by omega) (by omega)) (by omega) a (by omega)
 exact ⟨a, b, evCall hs (Ev.bind he (Ev.bind hb (Ev.now _))), z1, z2⟩
theorem lower_loop (s : ByteArray) (h : s.size ≤ 140737488351232) (d : Nat) : ∀ i : Int, 0 ≤ i → i ≤ s.size → (s.size : Int) - i = d →
  Ev (fun k => impl_lower.l0 k s (s.size : Int) i) (((bytesOf s).drop i.toNat).all low) := by
 induction d with
 | zero =>
  intro i h0 h1 hd
  refine Ev.step (fun k => impl_lower.l0.eq_2 _ _ _ _) (eN ?_)
  rw [List.drop_eq_nil_of_le (by rw [bytesOf_length]; omega)]
  exact evTo (Ev.now _) (by simp)
 | succ d ih =>
  intro i h0 h1 hd
  refine Ev.step (fun k => impl_lower.l0.eq_2 _ _ _ _) (eP (evPos h0 (eP ?_)))
  rw [bytes_drop s i h0 (by omega), List.all_cons]
  by_cases c : bt s i < 97
  ·exact evPos c (evTo (Ev.now _) (by simp [low]; omega))
  refine evNeg c ?_
  by_cases c1 : bt s i > 122
  ·exact evPos c1 (evTo (Ev.now _) (by simp [low]; omega))
  refine evNeg c1 ?_
  have e : low (bt s i) = true := (low_iff _).2 (by omega)
  rw [w6, e, Bool.true_and]
  exact ih (i + 1) (by omega) (by omega) (by omega)
theorem lower_impl (s : ByteArray) (h : s.size ≤ 140737488351232) : Ev (fun k => impl_lower.f k s) ((bytesOf s).all low) :=
 lower_loop s h s.size 0 (by omega) (by omega) (by omega)
theorem within_impl (n a b : Int) : impl_within.f n a b = some (decide (a ≤ n) && decide (n ≤ b)) := by
 unfold impl_within.f
 by_cases c : n ≥ a
 ·rw [if_pos c]; simp [c]
 ·rw [if_neg c]; simp; omega
theorem word_impl (s : ByteArray) (h : s.size ≤ 140737488351232) : Ev (fun k => impl_WordOk.f k s) (wordB s) := by
 unfold impl_WordOk.f
 refine evCall (within_impl _ _ _) ?_
 by_cases c : (1 ≤ (s.size : Int) ∧ (s.size : Int) ≤ 12)
 ·have hp : 0 < s.size := by omega
  have hq : s.size ≤ 12 := by omega
  refine evPos (by simp; omega) (Ev.bind (lower_impl s h) (evTo (Ev.now _) ?_))
  simp only [wordB, wordL, bytesOf_length, decide_eq_true hp, decide_eq_true hq, Bool.true_and]
 ·exact evNeg (by simp; omega) (evTo (Ev.now _) (wordB_no (by omega)).symm)
theorem cand_size (s x : ByteArray) (hx : x ∈ candsFrom s 0) : x.size ≤ s.size + 2 := by
 unfold candsFrom at hx
 obtain ⟨i, hi, hx⟩ := List.mem_flatMap.1 hx
 have hi2 := (List.mem_range'_1.1 hi).2
 have e1 : ∀ c : Int, (strOfNums [c]).size = 1 := fun _ => rfl
 have ex : ∀ a b : Nat, (s.extract a b).size ≤ b - a ∧ (s.extract a b).size ≤ s.size - a := by
  intro a b
  rw [← bytesOf_length, bytes_extract, List.length_take, List.length_drop, bytesOf_length]
  omega
 unfold candsAt at hx
 rcases List.mem_append.1 hx with hx | hx
 ·unfold lettersAt at hx
  obtain ⟨c, _, hx⟩ := List.mem_flatMap.1 hx
  have h1 := (ex 0 i).1
  have h2 := (ex i s.size).2
  have h3 := (ex (i + 1) s.size).2
  unfold letAt at hx
  split at hx
  ·rcases List.mem_cons.1 hx with rfl | hx
   ·unfold insB
    rw [size_append, size_append, e1]
    omega
   ·rw [List.mem_singleton.1 hx]
    unfold subB
    rw [size_append, size_append, e1]
    omega
  ·rw [List.mem_singleton.1 hx]
   unfold insB
   rw [size_append, size_append, e1]
   omega
 ·rcases List.mem_append.1 hx with hx | hx
  ·have h1 := (ex 0 i).1
   have h3 := (ex (i + 1) s.size).2
   unfold delAt at hx
   split at hx
   ·rw [List.mem_singleton.1 hx]
    unfold delB
    rw [size_append]
    omega
   ·cases hx
  ·have h1 := (ex 0 i).1
   have h2 := (ex (i + 1) (i + 2)).1
   have h3 := (ex i (i + 1)).1
   have h4 := (ex (i + 2) s.size).2
   unfold swpAt at hx
   split at hx
   ·rw [List.mem_singleton.1 hx]
    unfold swpB
    rw [size_append, size_append, size_append]
    omega
   ·cases hx
theorem go_ev (s : ByteArray) (l : List ByteArray) : ∀ xs : List ByteArray, xs.length + l.length ≤ 90000 → (∀ x ∈ l, x.size ≤ 1048576) → Ev (fun k => impl_Near.go k s l xs) (xs ++ l.filter (fun x => decide (x ≠ s) && wordB x)) := by
 induction l with
 | nil =>
  intro xs _ _
  exact evTo (Ev.now _) (by simp)
 | cons x l ih =>
  intro xs hl hz
  rw [List.length_cons] at hl
  have hz' : ∀ y ∈ l, y.size ≤ 1048576 := fun y hy => hz y (List.mem_cons_of_mem _ hy)
  have hx := hz x List.mem_cons_self
  show Ev (fun k => (impl_Near.put k s xs x).bind fun ys => impl_Near.go k s l ys) _
  by_cases c : x = s
  ·subst c
   refine Ev.bind (a := xs) (eP (evPos rfl (Ev.now _))) (evTo (ih xs (by omega) hz') ?_)
   simp
  ·refine Ev.bind (a := xs ++ (if wordB x = true then [x] else [])) (eP (evNeg (fun h => c ((toList_iff _ _).1 h)) (Ev.bind (word_impl x (by omega)) (evTo (Ev.now _) ?_)))) (evTo (ih _ ?_ hz') ?_)
   ·cases wordB x <;> simp
   ·rw [List.length_append]
    have : (if wordB x = true then [x] else []).length ≤ 1 := by split <;> simp
    omega
   ·cases e : wordB x <;> simp [c, e]
def nearB (s : ByteArray) : List ByteArray := if wordB s = true then nearL s else []
theorem near_impl (s : ByteArray) (h : s.size ≤ 140737488351232) : Ev (fun k => impl_Near.f k s) (nearB s) := by
 unfold impl_Near.f nearB
 refine Ev.bind (word_impl s h) ?_
 cases e : wordB s with
 | false => exact evNeg (by simp) (evTo (Ev.now _) (by simp))
 | true =>
  have hs := wordB_size e
  have hl := candsFrom_length s 0
  have hg := go_ev s (candsFrom s 0) [] (by simp; omega) (fun x hx => by have := cand_size s x hx; omega)
  refine evPos rfl (eP (Ev.bind hg (evTo (evEq (r := nearL s) ?_) (by simp))))
  have hf := List.length_filter_le (fun x => decide (x ≠ s) && wordB x) (candsFrom s 0)
  unfold impl_sorted.f
  rw [if_pos (by simp only [List.nil_append]; omega)]
  congr 1
  refine asc_ext (setL_asc _) (nearL_asc s) (fun x => ?_)
  rw [setL_mem, nearL_mem, List.nil_append, List.mem_filter]
  simp
theorem nearB_length (s : ByteArray) : (nearB s).length ≤ 100000 := by
 unfold nearB
 split
 ·rename_i e
  have h1 := nearL_length s
  have h2 := wordB_size e
  omega
 ·simp
theorem near_spec (s : ByteArray) (h : s.size ≤ 140737488351232) : Ev (fun k => spec_Near.f k s) (nearB s) := by
 unfold spec_Near.f nearB
 refine Ev.bind (l1Word_spec s h) ?_
 cases e : wordB s with
 | false => exact evNeg (by simp) (evTo (Ev.now _) (by simp))
 | true =>
  have hs := wordB_size e
  exact evPos rfl (Ev.bind (near_ev s (by omega)) (evTo (Ev.now _) (by simp)))
theorem dist_small (a b : ByteArray) (i k : Nat) (h : i ≤ 100) (h2 : k ≤ 100) : 0 ≤ dist a b i k ∧ dist a b i k ≤ 100 := by
 obtain ⟨_, _, _, m, _, p⟩ := dist_facts a b _ i k (Nat.le_refl _)
 omega
theorem rl_set_eq (M : List (List Int)) (i : Nat) (R : List Int) (h : i < M.length) : rd_L3 (M.set i R) (i : Int) = R := by
 simp [rd_L3, List.getD_eq_getElem?_getD, h]
theorem rl_set_ne (M : List (List Int)) (i j : Nat) (R : List Int) (h : i ≠ j) : rd_L3 (M.set i R) (j : Int) = rd_L3 M (j : Int) := by
 simp [rd_L3, List.getD_eq_getElem?_getD, List.getElem?_set_ne h]
theorem rd_setN_eq (xs : List Int) (i : Nat) (v : Int) (h : i < xs.length) : rd (xs.set i v) (i : Int) = v := by
 have := rd_set_eq xs (i : Int) v (by omega) (by omega)
 simpa using this
theorem rd_setN_ne (xs : List Int) (i j : Nat) (v : Int) (h : i ≠ j) : rd (xs.set i v) (j : Int) = rd xs (j : Int) := by
 have := rd_set_ne xs (i : Int) (j : Int) v (by omega) (by omega) (by omega)
 simpa using this
def InvM (a b : ByteArray) (M : List (List Int)) (i k : Nat) : Prop :=
 M.length = a.size + 1 ∧ (∀ j : Nat, j ≤ a.size → (rd_L3 M (j : Int)).length = b.size + 1) ∧
 ∀ x y : Nat, x ≤ a.size → y ≤ b.size → (x < i ∨ (x = i ∧ y < k) ∨ y = 0 ∨ x = 0) → rd (rd_L3 M (x : Int)) (y : Int) = dist a b x y
theorem inv_put {a b : ByteArray} {M : List (List Int)} {i k : Nat} (h : InvM a b M i k) (hi : i ≤ a.size) (hk : k ≤ b.size) (_ : 1 ≤ i) (_ : 1 ≤ k) : InvM a b (M.set i ((rd_L3 M (i : Int)).set k (dist a b i k))) i (k + 1) := by
 obtain ⟨h1, h2, h3⟩ := h
 refine ⟨by simpa using h1, fun j hj => ?_, fun x y hx hy hc => ?_⟩
 ·by_cases c : i = j
  ·subst c
   rw [rl_set_eq _ _ _ (by omega), List.length_set]
   exact h2 i hj
  ·rw [rl_set_ne _ _ _ _ c]
   exact h2 j hj
 ·by_cases c : i = x
  ·subst c
   rw [rl_set_eq _ _ _ (by omega)]
   by_cases d : k = y
   ·subst d
    exact rd_setN_eq _ _ _ (by rw [h2 i hi]; omega)
   ·rw [rd_setN_ne _ _ _ _ d]
    exact h3 i y hx hy (by omega)
  ·rw [rl_set_ne _ _ _ _ c]
   exact h3 x y hx hy (by omega)
theorem inv_next {a b : ByteArray} {M : List (List Int)} {i : Nat} (h : InvM a b M i (b.size + 1)) : InvM a b M (i + 1) 1 :=
 ⟨h.1, h.2.1, fun x y hx hy hc => h.2.2 x y hx hy (by omega)⟩
theorem mn_min (x y : Int) : mn x y = min x y := by
 unfold mn
 split <;> omega
theorem far_impl_row (a b : ByteArray) (ha : a.size ≤ 100) (hb : b.size ≤ 100) (i : Nat) (hi : i ≤ a.size) (hi1 : 1 ≤ i) {r : Int}
  (next : ∀ M, InvM a b M i (b.size + 1) → Ev (fun k => impl_Far.l2 k a b M ((i + 1 : Nat) : Int)) r) (d : Nat) : ∀ (k : Nat) (M : List (List Int)), k + d = b.size + 1 → 1 ≤ k → InvM a b M i k →
  Ev (fun n => impl_Far.l3 n a b M (i : Int) (k : Int)) r := by
 induction d with
 | zero =>
  intro k M hk _ hM
  obtain rfl : k = b.size + 1 := by omega
  refine Ev.step (fun n => impl_Far.l3.eq_2 _ _ _ _ _ _) (eN ?_)
  rw [w6]
  exact next M hM
 | succ d ih =>
  intro k M hk hk1 hM
  obtain ⟨m1, m2, m3⟩ := hM
  have ihk := ih (k + 1) (M.set i ((rd_L3 M (i : Int)).set k (dist a b i k))) (by omega) (by omega) (inv_put ⟨m1, m2, m3⟩ hi (by omega) hi1 hk1)
  obtain ⟨i, rfl⟩ : ∃ m, i = m + 1 := ⟨i - 1, by omega⟩
  obtain ⟨k, rfl⟩ : ∃ m, k = m + 1 := ⟨k - 1, by omega⟩
  have wi1 : wrap64 (((i + 1 : Nat) : Int) - 1) = (i : Int) := by rw [w6]; omega
  have wk1 : wrap64 (((k + 1 : Nat) : Int) - 1) = (k : Int) := by rw [w6]; omega
  have wk : wrap64 (((k + 1 : Nat) : Int) + 1) = ((k + 1 + 1 : Nat) : Int) := by rw [w6]; omega
  have b1 := dist_small a b i k (by omega) (by omega)
  have b2 := dist_small a b i (k + 1) (by omega) (by omega)
  have b3 := dist_small a b (i + 1) k (by omega) (by omega)
  have b4 := dist_small a b (i - 1) (k - 1) (by omega) (by omega)
  have l1 := m2 i (by omega)
  have l2 := m2 (i + 1) hi
  have l3 := m2 (i - 1) (by omega)
  have e1 := m3 i k (by omega) (by omega) (by omega)
  have e2 := m3 i (k + 1) (by omega) (by omega) (by omega)
  have e3 := m3 (i + 1) k (by omega) (by omega) (by omega)
  have e4 := m3 (i - 1) (k - 1) (by omega) (by omega) (by omega)
  have join : ∀ v : Int, v = dist a b i k + (if bt a (i : Int) = bt b (k : Int) then 0 else 1) → Ev (fun n => impl_Far.j5 n a b M ((i + 1 : Nat) : Int) ((k + 1 : Nat) : Int) v) r := by
   intro v hv
   have hv01 : (if bt a (i : Int) = bt b (k : Int) then (0 : Int) else 1) = 0 ∨ (if bt a (i : Int) = bt b (k : Int) then (0 : Int) else 1) = 1 := by split <;> simp
   have h3 : mn (mn v (dist a b i (k + 1) + 1)) (dist a b (i + 1) k + 1) = dist3 a b i k := by
    rw [mn_min, mn_min]
    unfold dist3
    omega
   have h3b : 0 ≤ dist3 a b i k := by
    unfold dist3
    omega
   refine Ev.step (fun n => impl_Far.j5.eq_2 _ _ _ _ _ _ _) ?_
   rw [wi1, wk1, e2, e3, w6 (n := dist a b i (k + 1) + 1), w6 (n := dist a b (i + 1) k + 1), h3]
   refine eP (eP (eP (eP (eP (eP (eP (eP ?_)))))))
   have hs := dist_succ a b i k
   have two (z : Nat) (hz : 1 ≤ z) (hz2 : z ≤ 100) : wrap64 (((z + 1 : Nat) : Int) - 2) = ((z - 1 : Nat) : Int) := by rw [w6]; omega
   have no : dist3 a b i k = dist a b (i + 1) (k + 1) → Ev (fun n => impl_Far.j6 n a b M ((i + 1 : Nat) : Int) ((k + 1 : Nat) : Int) (dist3 a b i k) false) r := by
    intro he
    refine Ev.step (fun n => impl_Far.j6.eq_2 _ _ _ _ _ _ _ _) (evNeg (by simp) (eP (eP (eP (eP ?_)))))
    rw [wk, he, Int.toNat_natCast, Int.toNat_natCast]
    exact ihk
   by_cases c1 : ((i + 1 : Nat) : Int) > 1
   ·by_cases c2 : ((k + 1 : Nat) : Int) > 1
    ·refine evPos c1 (evPos c2 ?_)
     rw [two i (by omega) (by omega), two k (by omega) (by omega)]
     refine eP (eP (eP ?_))
     by_cases c3 : bt a (i : Int) = bt b ((k - 1 : Nat) : Int)
     ·refine evPos c3 (eP (eP (eP ?_)))
      by_cases c4 : bt a ((i - 1 : Nat) : Int) = bt b (k : Int)
      ·rw [if_pos ⟨by omega, by omega, c3, c4⟩] at hs
       rw [show (bt a ((i - 1 : Nat) : Int) == bt b (k : Int)) = true from beq_iff_eq.2 c4]
       refine Ev.step (fun n => impl_Far.j6.eq_2 _ _ _ _ _ _ _ _) ?_
       rw [two i (by omega) (by omega), two k (by omega) (by omega), e4, w6 (n := dist a b (i - 1) (k - 1) + 1), mn_min, ← hs, wk, Int.toNat_natCast, Int.toNat_natCast]
       exact evPos rfl (eP (eP (eP (eP (eP (eP (eP (evPos (by omega) ihk))))))))
      ·rw [if_neg (fun h => c4 h.2.2.2)] at hs
       rw [show (bt a ((i - 1 : Nat) : Int) == bt b (k : Int)) = false from beq_eq_false_iff_ne.2 c4]
       exact no hs.symm
     ·rw [if_neg (fun h => c3 h.2.2.1)] at hs
      exact evNeg c3 (no hs.symm)
    ·rw [if_neg (fun h => c2 (by omega))] at hs
     exact evPos c1 (evNeg c2 (no hs.symm))
   ·rw [if_neg (fun h => c1 (by omega))] at hs
    exact evNeg c1 (no hs.symm)
  refine Ev.step (fun n => impl_Far.l3.eq_2 _ _ _ _ _ _) (eP ?_)
  rw [wi1, wk1, e1]
  refine eP (eP (eP (eP (eP (eP ?_)))))
  by_cases c : bt a (i : Int) = bt b (k : Int)
  ·exact evPos c (join _ (by rw [if_pos c]; omega))
  ·refine evNeg c (join _ ?_)
   rw [if_neg c, w6]
theorem far_impl_rows (a b : ByteArray) (ha : a.size ≤ 100) (hb : b.size ≤ 100) (d : Nat) : ∀ (i : Nat) (M : List (List Int)), i + d = a.size + 1 → 1 ≤ i → InvM a b M i 1 → Ev (fun n => impl_Far.l2 n a b M (i : Int)) (farD a b) := by
 induction d with
 | zero =>
  intro i M hi _ hM
  obtain rfl : i = a.size + 1 := by omega
  refine Ev.step (fun n => impl_Far.l2.eq_2 _ _ _ _ _) (eN ?_)
  rw [hM.2.2 a.size b.size (Nat.le_refl _) (Nat.le_refl _) (by omega)]
  have := hM.2.1 a.size (Nat.le_refl _)
  have := hM.1
  exact eP (eP (eP (eP (Ev.now _))))
 | succ d ih =>
  intro i M hi hi1 hM
  exact Ev.step (fun n => impl_Far.l2.eq_2 _ _ _ _ _) (eP (far_impl_row a b ha hb i (by omega) hi1 (fun M' hM' => ih (i + 1) M' (by omega) (by omega) (inv_next hM')) b.size 1 M (by omega) (by omega) hM))
theorem far_impl_first (a b : ByteArray) (ha : a.size ≤ 100) (hb : b.size ≤ 100) (d : Nat) : ∀ (k : Nat) (M : List (List Int)), k + d = b.size + 1 → M.length = a.size + 1 → (∀ j : Nat, j ≤ a.size → (rd_L3 M (j : Int)).length = b.size + 1) →
  (∀ j : Nat, 1 ≤ j → j ≤ a.size → rd (rd_L3 M (j : Int)) 0 = j) → (∀ j : Nat, j < k → rd (rd_L3 M 0) (j : Int) = j) → Ev (fun n => impl_Far.l1 n a b M ((b.size + 1 : Nat) : Int) (k : Int)) (farD a b) := by
 induction d with
 | zero =>
  intro k M hk h1 h2 h3 h4
  refine Ev.step (fun n => impl_Far.l1.eq_2 _ _ _ _ _ _) (eN (far_impl_rows a b ha hb a.size 1 M (by omega) (by omega) ⟨h1, h2, fun x y hx hy hc => ?_⟩))
  by_cases c : x = 0
  ·subst c
   rw [dist_zero]
   exact h4 y (by omega)
  ·obtain rfl : y = 0 := by omega
   rw [dist_nil]
   exact h3 x (by omega) hx
 | succ d ih =>
  intro k M hk h1 h2 h3 h4
  have z : (rd_L3 M ((0 : Nat) : Int)).length = b.size + 1 := h2 0 (by omega)
  have z' : (rd_L3 M 0).length = b.size + 1 := z
  refine Ev.step (fun n => impl_Far.l1.eq_2 _ _ _ _ _ _) (eP (eP (eP (eP ?_))))
  rw [w6, show ((k : Int) + 1) = ((k + 1 : Nat) : Int) from by omega, Int.toNat_natCast, show (0 : Int).toNat = 0 from rfl]
  have e0 : rd_L3 (M.set 0 ((rd_L3 M 0).set k (k : Int))) 0 = (rd_L3 M 0).set k (k : Int) := rl_set_eq M 0 _ (by omega)
  refine ih (k + 1) _ (by omega) (by simpa using h1) (fun j hj => ?_) (fun j hj1 hj => ?_) (fun j hj => ?_)
  ·by_cases c : 0 = j
   ·subst c
    show (rd_L3 (M.set 0 ((rd_L3 M 0).set k (k : Int))) 0).length = b.size + 1
    rw [e0, List.length_set]
    exact z'
   ·rw [rl_set_ne _ _ _ _ c]
    exact h2 j hj
  ·rw [rl_set_ne _ _ _ _ (by omega)]
   exact h3 j hj1 hj
  ·rw [e0]
   by_cases c : k = j
   ·subst c
    exact rd_setN_eq _ _ _ (by omega)
   ·rw [rd_setN_ne _ _ _ _ c]
    exact h4 j (by omega)
theorem far_impl_zero (a b : ByteArray) (ha : a.size ≤ 100) (hb : b.size ≤ 100) (d : Nat) : ∀ (i : Nat) (M : List (List Int)), i + d = a.size + 1 → M.length = a.size + 1 → (∀ j : Nat, j < i → rd_L3 M (j : Int) = (List.replicate (b.size + 1) 0).set 0 (j : Int)) →
  Ev (fun n => impl_Far.l0 n a b M ((a.size + 1 : Nat) : Int) (i : Int)) (farD a b) := by
 induction d with
 | zero =>
  intro i M hi h1 h2
  have z : rd_L3 M ((0 : Nat) : Int) = (List.replicate (b.size + 1) 0).set 0 ((0 : Nat) : Int) := h2 0 (by omega)
  have z' : rd_L3 M 0 = (List.replicate (b.size + 1) 0).set 0 0 := z
  refine Ev.step (fun n => impl_Far.l0.eq_2 _ _ _ _ _ _) (eN (eP ?_))
  have hl : ((rd_L3 M 0).length : Int) = ((b.size + 1 : Nat) : Int) := by rw [z']; simp
  rw [hl]
  refine far_impl_first a b ha hb (b.size + 1) 0 M (by omega) h1 (fun j hj => ?_) (fun j hj1 hj => ?_) (fun j hj => absurd hj (by omega))
  ·rw [h2 j (by omega)]
   simp
  ·rw [h2 j (by omega)]
   exact rd_setN_eq _ 0 _ (by simp)
 | succ d ih =>
  intro i M hi h1 h2
  have wb : wrap64 ((b.size : Int) + 1) = ((b.size + 1 : Nat) : Int) := by rw [w6]; omega
  have wi : wrap64 ((i : Int) + 1) = ((i + 1 : Nat) : Int) := by rw [w6]; omega
  have e : rd_L3 (M.set i (List.replicate (b.size + 1) 0)) (i : Int) = List.replicate (b.size + 1) 0 := rl_set_eq _ _ _ (by omega)
  refine Ev.step (fun n => impl_Far.l0.eq_2 _ _ _ _ _ _) (eP ?_)
  rw [wb, Int.toNat_natCast, Int.toNat_natCast]
  refine eP (eP (eP (eP (evCall rfl ?_))))
  rw [e, wi, show (0 : Int).toNat = 0 from rfl]
  refine evPos (by simp) (ih (i + 1) _ (by omega) (by simpa using h1) (fun j hj => ?_))
  by_cases c : i = j
  ·subst c
   rw [rl_set_eq _ _ _ (by simp; omega)]
  ·rw [rl_set_ne _ _ _ _ c, rl_set_ne _ _ _ _ c]
   exact h2 j (by omega)
theorem far_impl (a b : ByteArray) (ha : a.size ≤ 140737488351232) (hb : b.size ≤ 140737488351232) : Ev (fun n => impl_Far.f n a b) (farB a b) := by
 unfold impl_Far.f
 refine Ev.bind (word_impl a ha) ?_
 cases e1 : wordB a with
 | false => exact evNeg (by simp) (Ev.step (fun n => impl_Far.j0.eq_2 _ _ _ _) (evPos rfl (evTo (Ev.now _) (by simp [farB, e1]))))
 | true =>
  have h1 := wordB_size e1
  refine evPos rfl (Ev.bind (word_impl b hb) ?_)
  cases e2 : wordB b with
  | false => exact Ev.step (fun n => impl_Far.j0.eq_2 _ _ _ _) (evPos rfl (evTo (Ev.now _) (by simp [farB, e2])))
  | true =>
   have h2 := wordB_size e2
   have wa : wrap64 ((a.size : Int) + 1) = ((a.size + 1 : Nat) : Int) := by rw [w6]; omega
   refine Ev.step (fun n => impl_Far.j0.eq_2 _ _ _ _) (evNeg (by simp) ?_)
   rw [wa, Int.toNat_natCast]
   refine eP (eP (evCall rfl ?_))
   have hl : ((List.replicate (a.size + 1) ([] : List Int)).length : Int) = ((a.size + 1 : Nat) : Int) := by simp
   rw [hl]
   exact evTo (far_impl_zero a b (by omega) (by omega) (a.size + 1) 0 _ (by omega) (by simp) (fun j hj => absurd hj (by omega))) (by simp [farB, e1, e2])
theorem mdHas_loop (l : List ByteArray) (x : ByteArray) (hl : l.length ≤ 10000000) (d : Nat) : ∀ i : Nat, i + d = l.length → Ev (fun k => laws_mdHas.l0 k l x (i : Int)) ((l.drop i).any (fun y => y.toList == x.toList)) := by
 induction d with
 | zero =>
  intro i hi
  refine Ev.step (fun k => laws_mdHas.l0.eq_2 _ _ _ _) (eN (evTo (Ev.now _) ?_))
  rw [List.drop_eq_nil_of_le (by omega)]
  rfl
 | succ d ih =>
  intro i hi
  have hlt : i < l.length := by omega
  refine Ev.step (fun k => laws_mdHas.l0.eq_2 _ _ _ _) (eP (eP ?_))
  rw [ba_get l i hlt, w6 (n := (i : Int) + 1), List.drop_eq_getElem_cons hlt, List.any_cons]
  by_cases c : l[i].toList = x.toList
  ·exact evPos c (evTo (Ev.now _) (by simp [c]))
  ·have cb : (l[i].toList == x.toList) = false := by simpa using c
   rw [cb, Bool.false_or]
   exact evNeg c (ih (i + 1) (by omega))
theorem mdHas_ev (l : List ByteArray) (x : ByteArray) (hl : l.length ≤ 10000000) : ∃ b : Bool, Ev (fun k => laws_mdHas.f k l x) b ∧ (b = true ↔ x ∈ l) := by
 refine ⟨_, mdHas_loop l x hl l.length 0 (by omega), ?_⟩
 rw [List.drop_zero, List.any_eq_true]
 constructor
 ·rintro ⟨y, hy, e⟩
  rw [← (toList_iff y x).1 (by simpa using e)]
  exact hy
 ·exact fun h => ⟨x, h, by simp⟩
theorem mdTexts_loop (l : List ByteArray) (hl : l.length ≤ 10000000) (d : Nat) : ∀ i : Nat, i + d = l.length → Ev (fun k => laws_mdTexts.l0 k l l (i : Int)) true := by
 induction d with
 | zero =>
  intro i hi
  exact Ev.step (fun k => laws_mdTexts.l0.eq_2 _ _ _ _) (eN (Ev.now _))
 | succ d ih =>
  intro i hi
  refine Ev.step (fun k => laws_mdTexts.l0.eq_2 _ _ _ _) (eP (eP (eP (evPos rfl ?_))))
  rw [w6]
  exact ih (i + 1) (by omega)
theorem mdTexts_ev (l : List ByteArray) (hl : l.length ≤ 10000000) : Ev (fun k => laws_mdTexts.f k l l) true := by
 unfold laws_mdTexts.f
 exact evPos rfl (mdTexts_loop l hl l.length 0 (by omega))
theorem dk1 {α : Type} (P : List α) (a : α) (R : List α) : (P ++ a :: R).drop (P.length + 1) = R := by
 simp
theorem dk2 {α : Type} (P : List α) (a b : α) (R : List α) : (P ++ a :: b :: R).drop (P.length + 2) = R := by
 simp
theorem mem_at {s x : ByteArray} {i : Nat} (hi : i ≤ s.size) (h : x ∈ candsAt s i) : x ∈ candsFrom s 0 := by
 unfold candsFrom
 exact List.mem_flatMap.2 ⟨i, List.mem_range'_1.2 (by omega), h⟩
theorem mem_let {s x : ByteArray} {i c : Nat} (hi : i ≤ s.size) (h1 : 97 ≤ c) (h2 : c ≤ 122) (h : x ∈ letAt s i c) : x ∈ candsFrom s 0 := by
 refine mem_at hi ?_
 unfold candsAt lettersAt
 exact List.mem_append_left _ (List.mem_flatMap.2 ⟨c, List.mem_range'_1.2 (by omega), h⟩)
theorem mem_ins {s : ByteArray} {i c : Nat} (hi : i ≤ s.size) (h1 : 97 ≤ c) (h2 : c ≤ 122) : insB s i c ∈ candsFrom s 0 := by
 refine mem_let hi h1 h2 ?_
 unfold letAt
 split <;> simp
theorem mem_sub {s : ByteArray} {i c : Nat} (hi : i < s.size) (h1 : 97 ≤ c) (h2 : c ≤ 122) : subB s i c ∈ candsFrom s 0 := by
 refine mem_let (Nat.le_of_lt hi) h1 h2 ?_
 unfold letAt
 rw [if_pos hi]
 simp
theorem mem_del {s : ByteArray} {i : Nat} (hi : i < s.size) : delB s i ∈ candsFrom s 0 := by
 refine mem_at (Nat.le_of_lt hi) ?_
 unfold candsAt delAt
 rw [if_pos hi]
 simp
theorem mem_swp {s : ByteArray} {i : Nat} (hi : i + 1 < s.size) : swpB s i ∈ candsFrom s 0 := by
 refine mem_at (i := i) (by omega) ?_
 unfold candsAt swpAt
 rw [if_pos hi]
 simp
theorem low_nat {s : ByteArray} (hs : wordB s = true) {d : Int} (hd : d ∈ bytesOf s) : ∃ n : Nat, d = (n : Int) ∧ 97 ≤ n ∧ n ≤ 122 := by
 have := ((wordL_iff _).1 hs).2.2 d hd
 exact ⟨d.toNat, by omega, by omega, by omega⟩
theorem split_at (s : ByteArray) (i : Nat) (hi : i ≤ s.size) : ∃ P Q : List Int, bytesOf s = P ++ Q ∧ P.length = i :=
 ⟨(bytesOf s).take i, (bytesOf s).drop i, (List.take_append_drop i (bytesOf s)).symm, by rw [List.length_take, bytesOf_length]; exact Nat.min_eq_left hi⟩
theorem size_of {s : ByteArray} {l : List Int} (h : bytesOf s = l) : s.size = l.length := by rw [← h, bytesOf_length]
theorem bt_nat (s : ByteArray) (j : Nat) : bt s (j : Int) = ((bytesOf s)[j]?).getD 0 := by
 rw [← rd_bytesOf]
 simp [rd, List.getD_eq_getElem?_getD]
theorem bytes_at (s : ByteArray) (j : Nat) : (bytesOf s)[j]? = if j < s.size then some (bt s (j : Int)) else none := by
 rw [bt_nat]
 by_cases h : j < s.size
 ·rw [if_pos h, List.getElem?_eq_getElem (by rw [bytesOf_length]; exact h)]
  rfl
 ·rw [if_neg h]
  exact List.getElem?_eq_none (by rw [bytesOf_length]; omega)
theorem drop_nat (s : ByteArray) (p : Nat) (h : p < s.size) : (bytesOf s).drop p = bt s (p : Int) :: (bytesOf s).drop (p + 1) := by
 have := bytes_drop s (p : Int) (by omega) (by omega)
 rwa [Int.toNat_natCast, show ((p : Int) + 1).toNat = p + 1 from by omega] at this
def OneAt (a b : ByteArray) (i k p : Nat) : Prop :=
 (∀ j : Nat, j < p → bt a (j : Int) = bt b (j : Int)) ∧
 ((k = i + 1 ∧ p ≤ i ∧ ∀ j : Nat, p ≤ j → j < i → bt a (j : Int) = bt b ((j + 1 : Nat) : Int)) ∨
 (i = k + 1 ∧ p ≤ k ∧ ∀ j : Nat, p ≤ j → j < k → bt a ((j + 1 : Nat) : Int) = bt b (j : Int)) ∨
 (i = k ∧ p < i ∧ ∀ j : Nat, p < j → j < i → bt a (j : Int) = bt b (j : Int)) ∨
 (i = k ∧ p + 1 < i ∧ bt a (p : Int) = bt b ((p + 1 : Nat) : Int) ∧ bt a ((p + 1 : Nat) : Int) = bt b (p : Int) ∧ ∀ j : Nat, p + 1 < j → j < i → bt a (j : Int) = bt b (j : Int)))
theorem one_ext {a b : ByteArray} {i k p : Nat} (h : OneAt a b i k p) (e : bt a (i : Int) = bt b (k : Int)) : OneAt a b (i + 1) (k + 1) p := by
 obtain ⟨h0, h⟩ := h
 refine ⟨h0, ?_⟩
 rcases h with ⟨rfl, h1, h2⟩ | ⟨rfl, h1, h2⟩ | ⟨rfl, h1, h2⟩ | ⟨rfl, h1, h2, h3, h4⟩
 ·refine .inl ⟨rfl, by omega, fun j h5 h6 => ?_⟩
  by_cases c : j = i
  ·rw [c]
   exact e
  ·exact h2 j h5 (by omega)
 ·refine .inr (.inl ⟨rfl, by omega, fun j h5 h6 => ?_⟩)
  by_cases c : j = k
  ·rw [c]
   exact e
  ·exact h2 j h5 (by omega)
 ·refine .inr (.inr (.inl ⟨rfl, by omega, fun j h5 h6 => ?_⟩))
  by_cases c : j = i
  ·rw [c]
   exact e
  ·exact h2 j h5 (by omega)
 ·refine .inr (.inr (.inr ⟨rfl, by omega, h2, h3, fun j h5 h6 => ?_⟩))
  by_cases c : j = i
  ·rw [c]
   exact e
  ·exact h4 j h5 (by omega)
theorem dist_le1 (a b : ByteArray) (i k : Nat) : dist a b (i + 1) (k + 1) ≤ dist a b i k + (if bt a (i : Int) = bt b (k : Int) then 0 else 1) ∧ dist a b (i + 1) (k + 1) ≤ dist a b i (k + 1) + 1 ∧ dist a b (i + 1) (k + 1) ≤ dist a b (i + 1) k + 1 := by
 have h : dist a b (i + 1) (k + 1) ≤ dist3 a b i k := by
  rw [dist_succ]
  split <;> omega
 have h3 : dist3 a b i k ≤ dist a b i k + (if bt a (i : Int) = bt b (k : Int) then 0 else 1) ∧ dist3 a b i k ≤ dist a b i (k + 1) + 1 ∧ dist3 a b i k ≤ dist a b (i + 1) k + 1 := by
  unfold dist3
  omega
 omega
theorem dist_ext (a b : ByteArray) (i k n : Nat) : (∀ j : Nat, j < n → bt a ((i + j : Nat) : Int) = bt b ((k + j : Nat) : Int)) → dist a b (i + n) (k + n) ≤ dist a b i k := by
 induction n with
 | zero => exact fun _ => Int.le_refl _
 | succ n ih =>
  intro h
  have h1 := (dist_le1 a b (i + n) (k + n)).1
  rw [if_pos (h n (by omega))] at h1
  have h2 := ih (fun j hj => h j (by omega))
  show dist a b (i + n + 1) (k + n + 1) ≤ _
  omega
theorem dist_same (a b : ByteArray) (p : Nat) (h : ∀ j : Nat, j < p → bt a (j : Int) = bt b (j : Int)) : dist a b p p = 0 := (dist_facts a b _ p p (Nat.le_refl _)).2.2.2.2.1.2 ⟨rfl, h⟩
theorem one_dist {a b : ByteArray} {i k p : Nat} (h : OneAt a b i k p) : dist a b i k ≤ 1 := by
 obtain ⟨h0, h⟩ := h
 have hp := dist_same a b p h0
 rcases h with ⟨rfl, h1, h2⟩ | ⟨rfl, h1, h2⟩ | ⟨rfl, h1, h2⟩ | ⟨rfl, h1, h2, h3, h4⟩
 ·obtain ⟨n, rfl⟩ : ∃ n, i = p + n := ⟨i - p, by omega⟩
  have e1 := dist_ext a b p (p + 1) n (fun j hj => by rw [h2 (p + j) (by omega) (by omega), show p + j + 1 = p + 1 + j from by omega])
  have e2 : dist a b p (p + 1) ≤ 1 := by
   cases p with
   | zero =>
    rw [dist_zero]
    omega
   | succ p =>
    have := (dist_le1 a b p (p + 1)).2.2
    omega
  rw [show p + n + 1 = p + 1 + n from by omega]
  omega
 ·obtain ⟨n, rfl⟩ : ∃ n, k = p + n := ⟨k - p, by omega⟩
  have e1 := dist_ext a b (p + 1) p n (fun j hj => by rw [← h2 (p + j) (by omega) (by omega), show p + j + 1 = p + 1 + j from by omega])
  have e2 : dist a b (p + 1) p ≤ 1 := by
   cases p with
   | zero =>
    rw [dist_nil]
    omega
   | succ p =>
    have := (dist_le1 a b (p + 1) p).2.1
    omega
  rw [show p + n + 1 = p + 1 + n from by omega]
  omega
 ·obtain ⟨n, rfl⟩ : ∃ n, i = p + 1 + n := ⟨i - (p + 1), by omega⟩
  have e1 := dist_ext a b (p + 1) (p + 1) n (fun j hj => h2 (p + 1 + j) (by omega) (by omega))
  have e2 := (dist_le1 a b p p).1
  have e3 : (if bt a (p : Int) = bt b (p : Int) then (0 : Int) else 1) ≤ 1 := by split <;> omega
  omega
 ·obtain ⟨n, rfl⟩ : ∃ n, i = p + 2 + n := ⟨i - (p + 2), by omega⟩
  have e1 := dist_ext a b (p + 2) (p + 2) n (fun j hj => h4 (p + 2 + j) (by omega) (by omega))
  have e2 : dist a b (p + 2) (p + 2) ≤ 1 := by
   rw [show p + 2 = (p + 1) + 1 from rfl, dist_succ, if_pos ⟨by omega, by omega, by rw [Nat.add_sub_cancel]; exact h3, by rw [Nat.add_sub_cancel]; exact h2⟩, Nat.add_sub_cancel]
   omega
  omega
theorem dist_one (a b : ByteArray) : ∀ n i k : Nat, i + k ≤ n → dist a b i k = 1 → ∃ p, OneAt a b i k p := by
 intro n
 induction n with
 | zero =>
  intro i k h e
  obtain rfl : i = 0 := by omega
  rw [dist_zero] at e
  omega
 | succ n ih =>
  intro i k h e
  cases i with
  | zero =>
   rw [dist_zero] at e
   exact ⟨0, fun j hj => absurd hj (by omega), .inl ⟨by omega, by omega, fun j _ hj => absurd hj (by omega)⟩⟩
  | succ i =>
   cases k with
   | zero =>
    rw [dist_nil] at e
    exact ⟨0, fun j hj => absurd hj (by omega), .inr (.inl ⟨by omega, by omega, fun j _ hj => absurd hj (by omega)⟩)⟩
   | succ k =>
    have three : dist3 a b i k = 1 → ∃ p, OneAt a b (i + 1) (k + 1) p := by
     intro h3
     have hc : dist a b i k + (if bt a (i : Int) = bt b (k : Int) then 0 else 1) = 1 ∨ dist a b i (k + 1) = 0 ∨ dist a b (i + 1) k = 0 := by
      unfold dist3 at h3
      omega
     rcases hc with hc | hc | hc
     ·by_cases c : bt a (i : Int) = bt b (k : Int)
      ·rw [if_pos c] at hc
       obtain ⟨p, hp⟩ := ih i k (by omega) (by omega)
       exact ⟨p, one_ext hp c⟩
      ·rw [if_neg c] at hc
       have := (dist_facts a b _ i k (Nat.le_refl _)).2.2.2.2.1.1 (by omega)
       exact ⟨i, this.2, .inr (.inr (.inl ⟨by omega, by omega, fun j h1 h2 => absurd h2 (by omega)⟩))⟩
     ·have := (dist_facts a b _ i (k + 1) (Nat.le_refl _)).2.2.2.2.1.1 hc
      exact ⟨i, this.2, .inr (.inl ⟨by omega, by omega, fun j h1 h2 => absurd h2 (by omega)⟩)⟩
     ·have := (dist_facts a b _ (i + 1) k (Nat.le_refl _)).2.2.2.2.1.1 hc
      exact ⟨i + 1, this.2, .inl ⟨by omega, by omega, fun j h1 h2 => absurd h2 (by omega)⟩⟩
    rw [dist_succ] at e
    split at e
    ·rename_i c
     have hc : dist3 a b i k = 1 ∨ dist a b (i - 1) (k - 1) = 0 := by omega
     rcases hc with hc | hc
     ·exact three hc
     ·have := (dist_facts a b _ (i - 1) (k - 1) (Nat.le_refl _)).2.2.2.2.1.1 hc
      obtain ⟨i, rfl⟩ : ∃ m, i = m + 1 := ⟨i - 1, by omega⟩
      obtain ⟨k, rfl⟩ : ∃ m, k = m + 1 := ⟨k - 1, by omega⟩
      simp only [Nat.add_sub_cancel] at this c
      obtain rfl : i = k := this.1
      exact ⟨i, this.2, .inr (.inr (.inr ⟨rfl, by omega, c.2.2.2, c.2.2.1, fun j h1 h2 => absurd h2 (by omega)⟩))⟩
    ·exact three e
theorem at_mem (s : ByteArray) (p : Nat) (h : p < s.size) : bt s (p : Int) ∈ bytesOf s := List.mem_of_getElem? ((bytes_at s p).trans (if_pos h))
theorem one_cand {a b : ByteArray} (hb : wordB b = true) {p : Nat} (h : OneAt a b a.size b.size p) : b ∈ candsFrom a 0 := by
 obtain ⟨h0, h⟩ := h
 have pre : p ≤ a.size → p ≤ b.size → ∀ (X : List Int) (j : Nat), j < p → (bytesOf b)[j]? = ((bytesOf a).take p ++ X)[j]? := by
  intro q1 q2 X j hj
  have hl : ((bytesOf a).take p).length = p := by rw [List.length_take, bytesOf_length]; omega
  rw [List.getElem?_append_left (by omega), List.getElem?_take_of_lt hj, bytes_at, bytes_at, if_pos (by omega), if_pos (by omega), h0 j hj]
 have suf : p ≤ a.size → ∀ (X : List Int) (m : Nat), ((bytesOf a).take p ++ X)[p + m]? = X[m]? := by
  intro q1 X m
  have hl : ((bytesOf a).take p).length = p := by rw [List.length_take, bytesOf_length]; omega
  rw [List.getElem?_append_right (by omega), hl, Nat.add_sub_cancel_left]
 rcases h with ⟨hk, h1, h2⟩ | ⟨hk, h1, h2⟩ | ⟨hk, h1, h2⟩ | ⟨hk, h1, h2, h3, h4⟩
 ·obtain ⟨n, hn, n1, n2⟩ := low_nat hb (at_mem b p (by omega))
  have : b = insB a p (n : Int) := bytes_inj (by
   rw [insB_bytes a p n (by omega)]
   refine List.ext_getElem? fun j => ?_
   by_cases c1 : j < p
   ·exact pre (by omega) (by omega) _ j c1
   obtain ⟨m, rfl⟩ : ∃ m, j = p + m := ⟨j - p, by omega⟩
   rw [suf (by omega)]
   cases m with
   | zero => rw [bytes_at, if_pos (by omega), List.getElem?_cons_zero, Nat.add_zero, hn]
   | succ m =>
    rw [List.getElem?_cons_succ, List.getElem?_drop, bytes_at, bytes_at]
    by_cases c3 : p + m < a.size
    ·rw [if_pos (by omega), if_pos c3, h2 (p + m) (by omega) c3]
     rfl
    ·rw [if_neg (by omega), if_neg c3])
  rw [this]
  exact mem_ins (by omega) n1 n2
 ·have : b = delB a p := bytes_inj (by
   rw [delB_bytes]
   refine List.ext_getElem? fun j => ?_
   by_cases c1 : j < p
   ·exact pre (by omega) (by omega) _ j c1
   obtain ⟨m, rfl⟩ : ∃ m, j = p + m := ⟨j - p, by omega⟩
   rw [suf (by omega), List.getElem?_drop, bytes_at, bytes_at]
   by_cases c3 : p + m < b.size
   ·rw [if_pos c3, if_pos (by omega), ← h2 (p + m) (by omega) c3, show p + 1 + m = p + m + 1 from by omega]
   ·rw [if_neg c3, if_neg (by omega)])
  rw [this]
  exact mem_del (by omega)
 ·obtain ⟨n, hn, n1, n2⟩ := low_nat hb (at_mem b p (by omega))
  have : b = subB a p (n : Int) := bytes_inj (by
   rw [subB_bytes a p n (by omega)]
   refine List.ext_getElem? fun j => ?_
   by_cases c1 : j < p
   ·exact pre (by omega) (by omega) _ j c1
   obtain ⟨m, rfl⟩ : ∃ m, j = p + m := ⟨j - p, by omega⟩
   rw [suf (by omega)]
   cases m with
   | zero => rw [bytes_at, if_pos (by omega), List.getElem?_cons_zero, Nat.add_zero, hn]
   | succ m =>
    rw [List.getElem?_cons_succ, List.getElem?_drop, bytes_at, bytes_at]
    by_cases c3 : p + (m + 1) < b.size
    ·rw [if_pos c3, if_pos (by omega), ← h2 (p + (m + 1)) (by omega) (by omega), show p + 1 + m = p + (m + 1) from by omega]
    ·rw [if_neg c3, if_neg (by omega)])
  rw [this]
  exact mem_sub (by omega) n1 n2
 ·have : b = swpB a p := bytes_inj (by
   rw [swpB_bytes, drop_nat a (p + 1) (by omega), drop_nat a p (by omega)]
   refine List.ext_getElem? fun j => ?_
   by_cases c1 : j < p
   ·exact pre (by omega) (by omega) _ j c1
   obtain ⟨m, rfl⟩ : ∃ m, j = p + m := ⟨j - p, by omega⟩
   rw [suf (by omega)]
   match m with
   | 0 =>
    rw [bytes_at, if_pos (by omega), Nat.add_zero, ← h3]
    rfl
   | 1 =>
    rw [bytes_at, if_pos (by omega), ← h2]
    rfl
   | m + 2 =>
    show _ = ((bytesOf a).drop (p + 2))[m]?
    rw [List.getElem?_drop, bytes_at, bytes_at]
    by_cases c3 : p + (m + 2) < b.size
    ·rw [if_pos c3, if_pos (by omega), ← h4 (p + (m + 2)) (by omega) (by omega), show p + 2 + m = p + (m + 2) from by omega]
    ·rw [if_neg c3, if_neg (by omega)])
  rw [this]
  exact mem_swp (by omega)
theorem ap_lt {P X : List Int} {j : Nat} (h : j < P.length) : (P ++ X)[j]? = P[j]? := List.getElem?_append_left h
theorem ap_ge (P X : List Int) (m : Nat) : (P ++ X)[P.length + m]? = X[m]? := by rw [List.getElem?_append_right (by omega), Nat.add_sub_cancel_left]
theorem cand_one {s x : ByteArray} (hx : x ∈ candsFrom s 0) : ∃ p, OneAt s x s.size x.size p := by
 unfold candsFrom at hx
 obtain ⟨i, hi, hx⟩ := List.mem_flatMap.1 hx
 have hi2 := (List.mem_range'_1.1 hi).2
 have hle : i ≤ s.size := by omega
 obtain ⟨P, Q, hS, hP⟩ := split_at s i hle
 have zS := size_of hS
 rw [List.length_append] at zS
 have pre : ∀ {Y : List Int}, bytesOf x = P ++ Y → ∀ j : Nat, j < P.length → bt s (j : Int) = bt x (j : Int) := by
  intro Y hX j hj
  rw [bt_nat, bt_nat, hS, hX, ap_lt hj, ap_lt hj]
 have insCase : ∀ c : Nat, c ≤ 122 → x = insB s i (c : Int) → ∃ p, OneAt s x s.size x.size p := by
  intro c hc e
  have hX : bytesOf x = P ++ (c : Int) :: Q := by rw [e, insB_bytes s i c (by omega), hS, ← hP, List.take_left, List.drop_left]
  have hz := size_of hX
  rw [List.length_append, List.length_cons] at hz
  refine ⟨P.length, pre hX, .inl ⟨by omega, by omega, fun j h1 h2 => ?_⟩⟩
  obtain ⟨m, rfl⟩ : ∃ m, j = P.length + m := ⟨j - P.length, by omega⟩
  rw [bt_nat, bt_nat, hS, hX, ap_ge, show P.length + m + 1 = P.length + (m + 1) from by omega, ap_ge, List.getElem?_cons_succ]
 unfold candsAt at hx
 rcases List.mem_append.1 hx with hx | hx
 ·unfold lettersAt at hx
  obtain ⟨c, hc, hx⟩ := List.mem_flatMap.1 hx
  have hc2 := (List.mem_range'_1.1 hc)
  unfold letAt at hx
  split at hx
  ·rename_i hlt
   rcases List.mem_cons.1 hx with hx | hx
   ·exact insCase c (by omega) hx
   ·have e := List.mem_singleton.1 hx
    cases Q with
    | nil =>
     simp at zS
     omega
    | cons d Q =>
     have hX : bytesOf x = P ++ (c : Int) :: Q := by rw [e, subB_bytes s i c (by omega), hS, ← hP, List.take_left, dk1]
     have hz := size_of hX
     rw [List.length_append, List.length_cons] at hz
     rw [List.length_cons] at zS
     refine ⟨P.length, pre hX, .inr (.inr (.inl ⟨by omega, by omega, fun j h1 h2 => ?_⟩))⟩
     obtain ⟨m, rfl⟩ : ∃ m, j = P.length + (m + 1) := ⟨j - P.length - 1, by omega⟩
     rw [bt_nat, bt_nat, hS, hX, ap_ge, ap_ge, List.getElem?_cons_succ, List.getElem?_cons_succ]
  ·exact insCase c (by omega) (List.mem_singleton.1 hx)
 ·rcases List.mem_append.1 hx with hx | hx
  ·unfold delAt at hx
   split at hx
   ·rename_i hlt
    have e := List.mem_singleton.1 hx
    cases Q with
    | nil =>
     simp at zS
     omega
    | cons d Q =>
     have hX : bytesOf x = P ++ Q := by rw [e, delB_bytes, hS, ← hP, List.take_left, dk1]
     have hz := size_of hX
     rw [List.length_append] at hz
     rw [List.length_cons] at zS
     refine ⟨P.length, pre hX, .inr (.inl ⟨by omega, by omega, fun j h1 h2 => ?_⟩)⟩
     obtain ⟨m, rfl⟩ : ∃ m, j = P.length + m := ⟨j - P.length, by omega⟩
     rw [bt_nat, bt_nat, hS, hX, ap_ge, show P.length + m + 1 = P.length + (m + 1) from by omega, ap_ge, List.getElem?_cons_succ]
   ·cases hx
  ·unfold swpAt at hx
   split at hx
   ·rename_i hlt
    have e := List.mem_singleton.1 hx
    match Q, hS, zS with
    | [], _, zS => simp at zS; omega
    | [d], _, zS => simp at zS; omega
    | d :: f :: Q, hS, zS =>
     have hX : bytesOf x = P ++ f :: d :: Q := by
      rw [e, swpB_bytes, hS, ← hP, List.take_left, dk1, List.drop_left, dk2]
      simp
     have hz := size_of hX
     rw [List.length_append, List.length_cons, List.length_cons] at hz
     rw [List.length_cons, List.length_cons] at zS
     refine ⟨P.length, pre hX, .inr (.inr (.inr ⟨by omega, by omega, ?_, ?_, fun j h1 h2 => ?_⟩))⟩
     ·have e0 := ap_ge P (d :: f :: Q) 0
      rw [Nat.add_zero] at e0
      rw [bt_nat, bt_nat, hS, hX, ap_ge, e0]
      rfl
     ·have e0 := ap_ge P (f :: d :: Q) 0
      rw [Nat.add_zero] at e0
      rw [bt_nat, bt_nat, hS, hX, ap_ge, e0]
      rfl
     ·obtain ⟨m, rfl⟩ : ∃ m, j = P.length + (m + 2) := ⟨j - P.length - 2, by omega⟩
      rw [bt_nat, bt_nat, hS, hX, ap_ge, ap_ge]
      rfl
   ·cases hx
theorem near_far {a b : ByteArray} (hb : wordB b = true) : (b ∈ candsFrom a 0 ∧ b ≠ a) ↔ farD a b = 1 := by
 constructor
 ·rintro ⟨h, hne⟩
  obtain ⟨p, hp⟩ := cand_one h
  have h1 := one_dist hp
  have h2 := (dist_facts a b _ a.size b.size (Nat.le_refl _)).2.2.2.2.2
  have h3 : farD a b ≠ 0 := fun e => hne ((farD_zero a b).1 e).symm
  unfold farD at *
  omega
 ·intro h
  refine ⟨?_, ?_⟩
  ·obtain ⟨p, hp⟩ := dist_one a b _ a.size b.size (Nat.le_refl _) h
   exact one_cand hb hp
  ·rintro rfl
   rw [(farD_zero b b).2 rfl] at h
   omega
theorem near_is {a b : ByteArray} (ha : wordB a = true) : b ∈ nearL a ↔ farB a b = 1 := by
 rw [nearL_mem]
 unfold farB
 by_cases hb : wordB b = true
 ·rw [if_pos ⟨ha, hb⟩, ← near_far hb]
  exact ⟨fun h => ⟨h.1, h.2.1⟩, fun h => ⟨h.1, h.2, hb⟩⟩
 ·rw [if_neg (fun h => hb h.2)]
  exact ⟨fun h => absurd h.2.2 hb, fun h => by omega⟩
theorem near_asc (l : List Int) (a b : ByteArray) (L : List ByteArray) (hL : L.length ≤ 100000) (ha : Asc L) {r : Bool} (fin : ∀ i : Nat, L.length ≤ i → Ev (fun k => laws_FnNear.l0 k l a b L (i : Int)) r) (d : Nat) : ∀ i : Nat, 1 ≤ i → i + d = L.length + 1 → Ev (fun k => laws_FnNear.l0 k l a b L (i : Int)) r := by
 induction d with
 | zero => exact fun i h1 h2 => fin i (by omega)
 | succ d ih =>
  intro i h1 h2
  by_cases c : L.length ≤ i
  ·exact fin i c
  ·obtain ⟨q, rfl⟩ : ∃ q : Nat, i = q + 1 := ⟨i - 1, by omega⟩
   have hn2 : Op.bytesLess (L[q]'(by omega)).toList (L[q + 1]'(by omega)).toList = true := List.pairwise_iff_getElem.1 ha q (q + 1) (by omega) (by omega) (by omega)
   have e1 : wrap64 (((q + 1 : Nat) : Int) - 1) = (q : Int) := by rw [w6]; omega
   refine Ev.step (fun k => laws_FnNear.l0.eq_2 ..) ?_
   rw [e1, w64 (n := ((q + 1 : Nat) : Int) + 1) (by omega) (by omega), ba_get L q (by omega), ba_get L (q + 1) (by omega)]
   exact eP (eP (eP (eP (evPos hn2 (ih (q + 1 + 1) (by omega) (by omega))))))
theorem FnNear : laws_FnNear.Pure := by
 intro l0 hl hm hw
 refine Ev.rounds ?_
 unfold laws_FnNear.f
 by_cases c0 : (l0.length : Int) > 1048576
 ·exact evPos c0 (Ev.now _)
 obtain ⟨a, b, hd, z1, z2⟩ := drawFar_ev l0 hw
 have ni := near_impl a (by omega)
 have ns := near_spec a (by omega)
 have hlen := nearB_length a
 have ht := mdTexts_ev (nearB a) (by omega)
 refine evNeg c0 (Ev.bind hd (Ev.bind ni (Ev.bind ns (Ev.bind ht (evPos rfl ?_)))))
 dsimp only
 cases cw : wordB a with
 | false =>
  have e : nearB a = [] := if_neg (by rw [cw]; simp)
  rw [e] at ns ht ⊢
  exact Ev.step (fun k => laws_FnNear.j0.eq_2 ..) (evPos rfl (Ev.bind ns (Ev.bind ht (Ev.now _))))
 | true =>
  have e : nearB a = nearL a := if_pos cw
  have hp : 0 < (nearL a).length := List.length_pos_iff.2 (nearL_some cw)
  rw [e] at hlen ⊢
  rw [show (((nearL a).length : Int) == 0) = false from by rw [beq_eq_false_iff_ne]; omega]
  refine Ev.step (fun k => laws_FnNear.j0.eq_2 ..) (evNeg (by simp) (near_asc l0 a b (nearL a) hlen (nearL_asc a) (fun i hi => ?_) (nearL a).length 1 (by omega) (by omega)))
  have k0 := Int.emod_nonneg (l0.length : Int) (show ((nearL a).length : Int) ≠ 0 by omega)
  have k1 := Int.emod_lt_of_pos (l0.length : Int) (show 0 < ((nearL a).length : Int) by omega)
  obtain ⟨q, hq⟩ := Int.eq_ofNat_of_zero_le k0
  have hlt : q < (nearL a).length := by omega
  refine Ev.step (fun k => laws_FnNear.l0.eq_2 ..) (eN (eN (evPos k0 (evPos k1 ?_))))
  rw [hq, ba_get (nearL a) q hlt]
  have hx : (nearL a)[q] ∈ nearL a := List.getElem_mem hlt
  have hxw := ((nearL_mem a _).1 hx).2.2
  have hxz := (wordB_size hxw).2
  have f1 := far_impl a (nearL a)[q] (by omega) (by omega)
  rw [(near_is cw).1 hx] at f1
  have f2 := far_impl a b (by omega) (by omega)
  obtain ⟨p, h1, h2⟩ := mdHas_ev (nearL a) b (by omega)
  refine Ev.bind f1 (evPos rfl (Ev.bind f2 (Ev.bind h1 (evTo (Ev.now _) ?_))))
  rw [beq_iff_eq, Bool.eq_iff_iff, beq_iff_eq, h2, near_is cw]
end Go.Proofs.Ytedfcehhgbeibaa.Pure

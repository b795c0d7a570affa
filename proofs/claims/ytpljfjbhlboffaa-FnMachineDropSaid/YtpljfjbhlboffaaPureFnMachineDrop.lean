/- A machine without one of its words knows all others, and not this one; of drawn texts. No condition. -/
import Derived.Test.YtpljfjbhlboffaaQFnMachineDropx22
import Derived.Test.YtpljfjbhlboffaaVMBas
import Derived.Test.YtpljfjbhlboffaaVMStr
import Derived.Test.YtpljfjbhlboffaaVMAff
import Derived.Test.YtpljfjbhlboffaaVMSml
import Derived.Test.YtpljfjbhlboffaaVMNer
import Derived.Test.YtpljfjbhlboffaaVMSrt
import Derived.Test.YtpljfjbhlboffaaVMAry
import Derived.Test.YtpljfjbhlboffaaVSized
namespace Go.Proofs.Ytpljfjbhlboffaa
theorem PrintWords.sized_ints : type_of% @Go.Proofs.YtpljfjbhlboffaaW.PrintWords.sized_ints := @Go.Proofs.YtpljfjbhlboffaaW.PrintWords.sized_ints
end Go.Proofs.Ytpljfjbhlboffaa
namespace Go.Proofs.Ytpljfjbhlboffaa.Pure
open Go.RowKit Go.Proofs.Ytpljfjbhlboffaa.QFnMachineDrop Go.Proofs.YtpljfjbhlboffaaW.PrintWords Go.Proofs.YtpljfjbhlboffaaW.PrintLast Go.Proofs.YtpljfjbhlboffaaW.PrintMore Go.Proofs.Ytpljfjbhlboffaa.M
set_option linter.unusedVariables false
set_option linter.unusedSimpArgs false
def Rdr (s : List Int) (p : Int) : Prop := s.length ≤ 2000 ∧ (∀ x ∈ s, 0 ≤ x ∧ x ≤ 255) ∧ 0 ≤ p ∧ p ≤ 1000000000000
theorem Rdr.at_ {s : List Int} {p : Int} (h : Rdr s p) (q : Int) (h0 : 0 ≤ q) (h1 : q ≤ 1000000000000) : Rdr s q := ⟨h.1, h.2.1, h0, h1⟩
theorem rd_range {s : List Int} (h : ∀ x ∈ s, 0 ≤ x ∧ x ≤ 255) (i : Int) : 0 ≤ rd s i ∧ rd s i ≤ 255 := by
 unfold rd
 rw [List.getD_eq_getElem?_getD]
 by_cases c : i.toNat < s.length
 ·rw [List.getElem?_eq_getElem c]
  exact h _ (List.getElem_mem c)
 ·rw [List.getElem?_eq_none (by omega)]
  simp
def pickY (a b p q : Int) : Int := wrap64 (wrap64 (wrap64 (wrap64 (wrap64 a * 131) + wrap64 (wrap64 b * 1117)) + wrap64 (p * 29)) + wrap64 (wrap64 q * 53))
def pickX (a b p q : Int) : Int := Go.bits .xor .i64 (pickY a b p q) (wrap64 (Int.tdiv (pickY a b p q) 64))
theorem pickX_pos (a b p q : Int) (ha : 0 ≤ a ∧ a ≤ 255) (hb : 0 ≤ b ∧ b ≤ 255) (h0 : 0 ≤ p) (h1 : p ≤ 1000000000000) (q0 : 0 ≤ q) (q1 : q ≤ p) : 0 ≤ pickX a b p q := by
 have e : pickY a b p q = a * 131 + b * 1117 + p * 29 + q * 53 := by
  unfold pickY
  rw [w6 (n := a), w6 (n := b), w6 (n := a * 131), w6 (n := b * 1117), w6 (n := p * 29), w6 (n := q), w6 (n := q * 53), w6 (n := a * 131 + b * 1117), w6 (n := a * 131 + b * 1117 + p * 29), w6 (n := a * 131 + b * 1117 + p * 29 + q * 53)]
 unfold pickX
 rw [e]
 have x0 : 0 ≤ a * 131 + b * 1117 + p * 29 + q * 53 := by omega
 have x1 : a * 131 + b * 1117 + p * 29 + q * 53 < 4611686018427387904 := by omega
 generalize a * 131 + b * 1117 + p * 29 + q * 53 = x at *
 have t0 := Int.tdiv_nonneg x0 (show (0 : Int) ≤ 64 from by omega)
 have t1 : Int.tdiv x 64 ≤ x := Int.tdiv_le_self 64 x0
 rw [w6 (n := Int.tdiv x 64)]
 exact xor_small x (Int.tdiv x 64) x0 x1 t0 (by omega)
theorem pick_ev {s : List Int} {p : Int} (h : Rdr s p) (n : Int) (hn : n ≤ 1000000000000000) : ∃ v, Ev (fun k => spec_l1Rd_pick.f k s p n) (v, p + 1) ∧ 0 ≤ v ∧ (v < n ∨ v = 0) := by
 obtain ⟨hl, hb, hp0, hp1⟩ := h
 have hr := rd_range hb
 unfold spec_l1Rd_pick.f
 rw [w6 (n := p + 1)]
 by_cases c : n < 1
 ·exact ⟨0, evPos c (Ev.step (fun k => spec_l1Rd_pick.j0.eq_2 _ _ _ _ _) (evPos rfl (Ev.now _))), by omega, .inr rfl⟩
 by_cases e : s.length = 0
 ·exact ⟨0, evNeg c (Ev.step (fun k => spec_l1Rd_pick.j0.eq_2 _ _ _ _ _) (evPos (by simp [e]) (Ev.now _))), by omega, .inr rfl⟩
 have hlen : 0 < (s.length : Int) := by omega
 have wr (i : Int) : wrap64 (rd s i) = rd s i := w64 (by have := (hr i).1; omega) (by have := (hr i).2; omega)
 by_cases c2 : p < (s.length : Int)
 ·have h1 := hr p
  refine ⟨Int.tmod (rd s p) n, evNeg c (Ev.step (fun k => spec_l1Rd_pick.j0.eq_2 _ _ _ _ _) (evNeg (by simpa using e) ?_)), Int.tmod_nonneg _ h1.1, .inl (Int.tmod_lt_of_pos _ (by omega))⟩
  rw [show p + 1 - 1 = p from by omega, w6 (n := p), wr]
  exact evPos c2 (evPos hp0 (eN (Ev.now _)))
 have m1 := Int.tmod_nonneg (s.length : Int) hp0
 have m2 := Int.tmod_lt_of_pos p hlen
 have m3 := Int.tmod_nonneg (s.length : Int) (show 0 ≤ p * 7 + 3 from by omega)
 have m4 := Int.tmod_lt_of_pos (p * 7 + 3) hlen
 have d1 := Int.tdiv_nonneg hp0 (show 0 ≤ (s.length : Int) from by omega)
 have d2 : Int.tdiv p (s.length : Int) ≤ p := Int.tdiv_le_self (s.length : Int) hp0
 have hz := pickX_pos (rd s (Int.tmod p (s.length : Int))) (rd s (Int.tmod (p * 7 + 3) (s.length : Int))) p (Int.tdiv p (s.length : Int)) (hr _) (hr _) hp0 hp1 d1 d2
 refine ⟨Int.tmod (pickX (rd s (Int.tmod p (s.length : Int))) (rd s (Int.tmod (p * 7 + 3) (s.length : Int))) p (Int.tdiv p (s.length : Int))) n, evNeg c (Ev.step (fun k => spec_l1Rd_pick.j0.eq_2 _ _ _ _ _) (evNeg (by simpa using e) ?_)), Int.tmod_nonneg _ hz, .inl (Int.tmod_lt_of_pos _ (by omega))⟩
 rw [show p + 1 - 1 = p from by omega, w6 (n := p), w6 (n := p * 7), w6 (n := p * 7 + 3)]
 exact evNeg c2 (eN (evPos m1 (evPos m2 (evPos m3 (evPos m4 (eN (Ev.now _)))))))
theorem of_ev {s : List Int} {p : Int} (h : Rdr s p) (l : List ByteArray) (h0 : 0 < l.length) (h1 : l.length ≤ 1000000) : ∃ x ∈ l, Ev (fun k => spec_l1Rd_of.f k s p l) (x, p + 1) := by
 obtain ⟨v, hv, v0, v1⟩ := pick_ev h (l.length : Int) (by omega)
 have v2 : v < (l.length : Int) := by omega
 have hl : v.toNat < l.length := by omega
 refine ⟨l[v.toNat], List.getElem_mem hl, ?_⟩
 unfold spec_l1Rd_of.f
 refine Ev.bind hv (evPos v0 (evPos v2 (evTo (Ev.now _) ?_)))
 simp [rdOf, List.getD_eq_getElem?_getD, List.getElem?_eq_getElem hl]
theorem open_ev (l : List Int) (h : ∀ x ∈ l, (Lit.int .u8 x).wf = true) : ∃ s, spec_l1Open.f l = some (s, 0) ∧ Rdr s 0 := by
 have hb : ∀ x ∈ l, 0 ≤ x ∧ x ≤ 255 := by
  intro x hx
  have := h x hx
  simp [Lit.wf, IntKind.min, IntKind.max, IntKind.signed, IntKind.bits] at this
  omega
 unfold spec_l1Open.f
 by_cases c : (l.length : Int) > 2000
 ·refine ⟨l.take 2000, by rw [if_pos c, if_pos (by omega)], ?_, fun x hx => hb x (List.mem_of_mem_take hx), by omega, by omega⟩
  rw [List.length_take]
  omega
 ·exact ⟨l, by rw [if_neg c], by omega, hb, by omega, by omega⟩
theorem least_spec (a b : Int) : spec_l1Least.f a b = some (min a b) := by
 unfold spec_l1Least.f
 by_cases c : a < b
 ·rw [if_pos c]; congr 1; omega
 ·rw [if_neg c]; congr 1; omega
theorem word13_loop {s : List Int} (d : Nat) : ∀ (x : ByteArray) (n p : Int), Rdr s p → p + d ≤ 1000000000000 → n = d → x.size + 2 * d ≤ 1000000 →
  ∃ r p', Ev (fun k => spec_l13Word.l0 k x n s p) (r, p') ∧ r.size ≤ 12 ∧ p ≤ p' ∧ p' ≤ p + d := by
 induction d with
 | zero =>
  intro x n p h hp hn hx
  refine ⟨x.extract 0 (min x.size 12), p, Ev.step (fun k => spec_l13Word.l0.eq_2 _ _ _ _ _) (eN (evCall (least_spec _ _) ?_)), ?_, by omega, by omega⟩
  ·refine eP (eP (evTo (Ev.now _) ?_))
   congr 3
   omega
  ·rw [size_extract _ _ _ (by omega) (by omega)]
   omega
 | succ d ih =>
  intro x n p h hp hn hx
  have hls : ∀ y ∈ ([(⟨#[97]⟩ : ByteArray), (⟨#[98]⟩ : ByteArray), (⟨#[99]⟩ : ByteArray), (⟨#[97, 98]⟩ : ByteArray), (⟨#[116]⟩ : ByteArray)] : List ByteArray), y.size ≤ 2 := by
   intro y hy
   simp only [List.mem_cons, List.not_mem_nil, or_false] at hy
   rcases hy with rfl | rfl | rfl | rfl | rfl <;> decide
  obtain ⟨y, hy, he⟩ := of_ev h ([(⟨#[97]⟩ : ByteArray), (⟨#[98]⟩ : ByteArray), (⟨#[99]⟩ : ByteArray), (⟨#[97, 98]⟩ : ByteArray), (⟨#[116]⟩ : ByteArray)] : List ByteArray) (by simp) (by simp)
  have hy2 := hls y hy
  obtain ⟨r, p', hr, h1, h2, h3⟩ := ih (x ++ y) (n - 1) (p + 1) (h.at_ _ (by have := h.2.2.1; omega) (by omega)) (by omega) (by omega) (by rw [size_append]; omega)
  refine ⟨r, p', Ev.step (fun k => spec_l13Word.l0.eq_2 _ _ _ _ _) (eP (Ev.bind he (evPos (by dsimp only; omega) ?_))), h1, by omega, by omega⟩
  rw [w6]
  exact hr
theorem word13_ev {s : List Int} {p : Int} (h : Rdr s p) (hp : p ≤ 999999999900) : ∃ r p', Ev (fun k => spec_l13Word.f k s p) (r, p') ∧ r.size ≤ 12 ∧ p ≤ p' ∧ p' ≤ p + 10 := by
 have h0 := h.2.2.1
 obtain ⟨v, hv, v0, v1⟩ := pick_ev h 3 (by omega)
 unfold spec_l13Word.f
 by_cases c : v = 0
 ·obtain ⟨u, hu, u0, u1⟩ := pick_ev (h.at_ (p + 1) (by omega) (by omega)) 5 (by omega)
  obtain ⟨d, hd⟩ := Int.eq_ofNat_of_zero_le (show 0 ≤ 1 + u from by omega)
  obtain ⟨r, p', hr, h1, h2, h3⟩ := word13_loop d (⟨#[]⟩ : ByteArray) (1 + u) (p + 1 + 1) (h.at_ _ (by omega) (by omega)) (by omega) hd (by have : (⟨#[]⟩ : ByteArray).size = 0 := rfl; omega)
  refine ⟨r, p', Ev.bind hv (evPos c (Ev.bind hu ?_)), h1, by omega, by omega⟩
  rw [w64 (by dsimp only; omega) (by dsimp only; omega)]
  exact hr
 ·obtain ⟨y, hy, he⟩ := of_ev (h.at_ (p + 1) (by omega) (by omega)) ([(⟨#[99, 97, 116]⟩ : ByteArray), (⟨#[99, 97, 116, 115]⟩ : ByteArray), (⟨#[97, 99, 116]⟩ : ByteArray), (⟨#[100, 111]⟩ : ByteArray), (⟨#[100, 111, 105, 110, 103]⟩ : ByteArray), (⟨#[103, 111]⟩ : ByteArray), (⟨#[117, 110, 100, 111]⟩ : ByteArray), (⟨#[116, 114, 121]⟩ : ByteArray), (⟨#[116, 114, 105, 101, 115]⟩ : ByteArray), (⟨#[97]⟩ : ByteArray), (⟨#[98, 97, 107, 101]⟩ : ByteArray), (⟨#[98, 97, 107, 105, 110, 103]⟩ : ByteArray), (⟨#[116, 97, 99, 116]⟩ : ByteArray), (⟨#[99, 97, 114, 116]⟩ : ByteArray), (⟨#[97, 98, 99, 97, 98, 99, 97, 98, 99, 97, 98, 99]⟩ : ByteArray)] : List ByteArray) (by simp) (by simp)
  refine ⟨y, p + 1 + 1, Ev.bind hv (evNeg c (Ev.bind he (Ev.now _))), ?_, by omega, by omega⟩
  simp only [List.mem_cons, List.not_mem_nil, or_false] at hy
  rcases hy with rfl | rfl | rfl | rfl | rfl | rfl | rfl | rfl | rfl | rfl | rfl | rfl | rfl | rfl | rfl <;> decide
theorem any13_ev {s : List Int} {p : Int} (h : Rdr s p) (hp : p ≤ 999999999800) : ∃ r p', Ev (fun k => spec_l13AnyWord.f k s p) (r, p') ∧ r.size ≤ 13 ∧ p ≤ p' ∧ p' ≤ p + 11 := by
 have h0 := h.2.2.1
 obtain ⟨v, hv, v0, v1⟩ := pick_ev h 16 (by omega)
 unfold spec_l13AnyWord.f
 by_cases c : v = 0
 ·obtain ⟨y, hy, he⟩ := of_ev (h.at_ (p + 1) (by omega) (by omega)) ([(⟨#[]⟩ : ByteArray), (⟨#[67, 97, 116]⟩ : ByteArray), (⟨#[97, 32, 98]⟩ : ByteArray), (⟨#[97, 98, 99, 97, 98, 99, 97, 98, 99, 97, 98, 99, 97]⟩ : ByteArray), (⟨#[120, 49]⟩ : ByteArray), (⟨#[45]⟩ : ByteArray)] : List ByteArray) (by simp) (by simp)
  refine ⟨y, p + 1 + 1, Ev.bind hv (evPos c (Ev.bind he (Ev.now _))), ?_, by omega, by omega⟩
  simp only [List.mem_cons, List.not_mem_nil, or_false] at hy
  rcases hy with rfl | rfl | rfl | rfl | rfl | rfl <;> decide
 ·obtain ⟨r, p', hr, h1, h2, h3⟩ := word13_ev (h.at_ (p + 1) (by omega) (by omega)) (by omega)
  exact ⟨r, p', Ev.bind hv (evNeg c (Ev.bind hr (Ev.now _))), by omega, by omega, by omega⟩
theorem rdOf_get (l : List ByteArray) (i : Int) (_ : 0 ≤ i) (h : i.toNat < l.length) : rdOf ByteArray.empty l i = l[i.toNat] := by
 simp [rdOf, List.getD_eq_getElem?_getD, List.getElem?_eq_getElem h]
theorem put_end (l : List ByteArray) (s : ByteArray) (i : Int) (h0 : 0 ≤ i) (h1 : i ≤ l.length) (hl : l.length ≤ 1000000) : Ev (fun k => spec_l1Put.j2 k l s i false) (l.take i.toNat ++ s :: l.drop i.toNat) := by
 refine Ev.step (fun k => spec_l1Put.j2.eq_2 _ _ _ _ _) (evNeg (by simp) (evCall rfl (evPos h0 (evPos h1 (evCall rfl (evPos ?_ (evCall rfl (evCall rfl (evPos ?_ (evCall rfl (evCall rfl (evPos ?_ (evTo (Ev.now _) ?_)))))))))))))
 ·simp only [List.length_nil, List.length_take]
  omega
 ·simp only [List.nil_append, List.length_take, List.length_cons, List.length_nil]
  omega
 ·simp only [List.nil_append, List.length_append, List.length_take, List.length_cons, List.length_nil, List.length_drop]
  omega
 ·simp
theorem put_loop (l : List ByteArray) (s : ByteArray) (hl : l.length ≤ 1000000) (d : Nat) : ∀ i : Int, 0 ≤ i → i ≤ l.length → (l.length : Int) - i = d →
  Ev (fun k => spec_l1Put.l0 k l s i) (l.take i.toNat ++ putL (l.drop i.toNat) s) := by
 induction d with
 | zero =>
  intro i h0 h1 hd
  have e := put_end l s i h0 h1 hl
  rw [List.drop_eq_nil_of_le (by omega)] at e ⊢
  exact Ev.step (fun k => spec_l1Put.l0.eq_2 _ _ _ _) (eN (Ev.step (fun k => spec_l1Put.j1.eq_2 _ _ _ _ _) (evNeg (by simp) (evNeg (by omega) e))))
 | succ d ih =>
  intro i h0 h1 hd
  have hi : i.toNat < l.length := by omega
  have e := put_end l s i h0 h1 hl
  have ihe := ih (i + 1) (by omega) (by omega) (by omega)
  rw [List.drop_eq_getElem_cons hi] at e ⊢
  rw [show (i + 1).toNat = i.toNat + 1 from by omega, List.take_succ_eq_append_getElem hi] at ihe
  refine Ev.step (fun k => spec_l1Put.l0.eq_2 _ _ _ _) (eP (evPos h0 (Ev.step (fun k => spec_l1Put.j1.eq_2 _ _ _ _ _) ?_)))
  rw [rdOf_get l i h0 hi]
  generalize hx : l[i.toNat] = x at *
  by_cases c : Op.bytesLess x.toList s.toList = true
  ·refine evPos c ?_
   rw [w6]
   refine evTo ihe ?_
   simp [putL, ltS, c]
  ·refine evNeg c (eP (evPos h0 ?_))
   by_cases c2 : x = s
   ·refine Ev.step (fun k => spec_l1Put.j2.eq_2 _ _ _ _ _) (evPos (by simp [c2]) (evTo (Ev.now _) ?_))
    subst c2
    rw [show putL (x :: l.drop (i.toNat + 1)) x = x :: l.drop (i.toNat + 1) from by simp [putL, ltS_irrefl]]
    have : x :: l.drop (i.toNat + 1) = l.drop i.toNat := by rw [List.drop_eq_getElem_cons hi, hx]
    rw [this, List.take_append_drop]
   ·rw [show (x.toList == s.toList) = false from by rw [toList_beq]; simp [c2]]
    refine evTo e ?_
    simp [putL, ltS, c, c2]
theorem put_ev (l : List ByteArray) (s : ByteArray) (hl : l.length ≤ 1000000) : Ev (fun k => spec_l1Put.f k l s) (putL l s) :=
 evTo (put_loop l s hl l.length 0 (by omega) (by omega) (by omega)) (by simp)
abbrev Af := S135
abbrev En := S127
theorem ba_get (l : List ByteArray) (i : Nat) (h : i < l.length) : rdOf ByteArray.empty l (i : Int) = l[i] := by simp [rdOf, List.getD_eq_getElem?_getD, List.getElem?_eq_getElem h]
theorem ba_at {P : ByteArray → Prop} {l : List ByteArray} (h : ∀ s ∈ l, P s) (i : Nat) (hi : i < l.length) : P (rdOf ByteArray.empty l (i : Int)) := by
 rw [ba_get l i hi]
 exact h _ (List.getElem_mem hi)
abbrev AfZ (a : Af) : Prop := a.f0.size ≤ 13 ∧ a.f2.size ≤ 13 ∧ a.f3.size ≤ 13 ∧ a.f4.size ≤ 13
abbrev AfY (a : Af) : Prop := AfZ a ∧ affOk a.f0 a.f1 a.f2 a.f3 a.f4 = true
abbrev EnZ (e : En) : Prop := e.f0.size ≤ 13 ∧ e.f1.size ≤ 5
theorem affix13_ev {s : List Int} {p : Int} (h : Rdr s p) : ∃ g fr st ad wh, Ev (fun k => spec_l13Affix.f k s p) (g, fr, st, ad, wh, p + 1) ∧ AfY ⟨g, fr, st, ad, wh⟩ := by
 unfold spec_l13Affix.f AfY AfZ
 obtain ⟨v, hv, v0, v1⟩ := pick_ev h 8 (by omega)
 have hs : v = 0 ∨ v = 1 ∨ v = 2 ∨ v = 3 ∨ v = 4 ∨ v = 5 ∨ v = 6 ∨ v = 7 := by omega
 refine ⟨_, _, _, _, _, evCall rfl (Ev.bind hv (evPos v0 (evPos (by simp only [List.length]; omega) (Ev.now _)))), ?_⟩
 rcases hs with rfl | rfl | rfl | rfl | rfl | rfl | rfl | rfl <;> exact ⟨by dsimp only; decide, by dsimp only; decide⟩
theorem entry13_ev {s : List Int} {p : Int} (h : Rdr s p) (w : ByteArray) : ∃ fl, Ev (fun k => spec_l13Entry.f k s p w) (w, fl, p + 1) ∧ fl.size ≤ 5 := by
 obtain ⟨y, hy, he⟩ := of_ev h ([(⟨#[]⟩ : ByteArray), (⟨#[]⟩ : ByteArray), (⟨#[83]⟩ : ByteArray), (⟨#[71, 83]⟩ : ByteArray), (⟨#[85]⟩ : ByteArray), (⟨#[71, 85]⟩ : ByteArray), (⟨#[82]⟩ : ByteArray), (⟨#[84]⟩ : ByteArray), (⟨#[67, 82, 83, 85]⟩ : ByteArray)] : List ByteArray) (by simp) (by simp)
 unfold spec_l13Entry.f
 refine ⟨y, Ev.bind he (Ev.now _), ?_⟩
 simp only [List.mem_cons, List.not_mem_nil, or_false] at hy
 rcases hy with rfl | rfl | rfl | rfl | rfl | rfl | rfl | rfl | rfl <;> decide
theorem affixes_known (s : List Int) (p : Int) (out : List Af) (n : Int) (g : ByteArray) (fr : Bool) (st ad wh : ByteArray) (hl : out.length ≤ 1000) (d : Nat) : ∀ (i : Nat) (b : Bool), i + d = out.length →
  ∃ c : Bool, ∀ r, Ev (fun k => if c = true then spec_l13Affixes.l0 k out (wrap64 (n - 1)) s p else spec_l13Affixes.l0 k (out ++ [⟨g, fr, st, ad, wh⟩]) (wrap64 (n - 1)) s p) r → Ev (fun k => spec_l13Affixes.l1 k out n b (i : Int) s p g fr st ad wh) r := by
 induction d with
 | zero =>
  intro i b hi
  refine ⟨b, fun r hr => Ev.step (fun k => spec_l13Affixes.l1.eq_2 ..) (eN ?_)⟩
  cases b with
  | true => exact evPos rfl (by simpa using hr)
  | false => exact evNeg (by simp) (eP (by simpa using hr))
 | succ d ih =>
  intro i b hi
  have e : wrap64 ((i : Int) + 1) = ((i + 1 : Nat) : Int) := w6
  cases b with
  | true =>
   obtain ⟨c, hc⟩ := ih (i + 1) true (by omega)
   refine ⟨c, fun r hr => Ev.step (fun k => spec_l13Affixes.l1.eq_2 ..) (eP (evPos rfl ?_))⟩
   rw [e]
   exact hc r hr
  | false =>
   obtain ⟨c, hc⟩ := ih (i + 1) _ (by omega)
   refine ⟨c, fun r hr => Ev.step (fun k => spec_l13Affixes.l1.eq_2 ..) (eP (evNeg (by simp) (eP ?_)))⟩
   rw [e]
   exact hc r hr
theorem affixes_loop {s : List Int} (d : Nat) : ∀ (out : List Af) (n p : Int), Rdr s p → p + d ≤ 1000000000000 → n = d → out.length + d ≤ 4 → (∀ a ∈ out, AfY a) →
  ∃ A p', Ev (fun k => spec_l13Affixes.l0 k out n s p) (A, p') ∧ A.length ≤ 4 ∧ (∀ a ∈ A, AfY a) ∧ p ≤ p' ∧ p' ≤ p + d := by
 induction d with
 | zero =>
  intro out n p h hp hn hl hz
  exact ⟨out, p, Ev.step (fun k => spec_l13Affixes.l0.eq_2 ..) (eN (Ev.now _)), by omega, hz, by omega, by omega⟩
 | succ d ih =>
  intro out n p h hp hn hl hz
  have h0 := h.2.2.1
  obtain ⟨g, fr, st, ad, wh, he, hg⟩ := affix13_ev h
  obtain ⟨c, hc⟩ := affixes_known s (p + 1) out n g fr st ad wh (by omega) out.length 0 false (by omega)
  have hr : Rdr s (p + 1) := h.at_ _ (by omega) (by omega)
  have ew : wrap64 (n - 1) = n - 1 := w6
  rw [ew] at hc
  cases c with
  | true =>
   obtain ⟨A, p', h1, h2, h3, h4, h5⟩ := ih out (n - 1) (p + 1) hr (by omega) (by omega) (by omega) hz
   exact ⟨A, p', Ev.step (fun k => spec_l13Affixes.l0.eq_2 ..) (eP (Ev.bind he (hc _ (by simpa using h1)))), h2, h3, by omega, by omega⟩
  | false =>
   obtain ⟨A, p', h1, h2, h3, h4, h5⟩ := ih (out ++ [⟨g, fr, st, ad, wh⟩]) (n - 1) (p + 1) hr (by omega) (by omega) (by simp; omega) (fun a ha => by
    rcases List.mem_append.1 ha with ha | ha
    ·exact hz a ha
    ·rw [List.mem_singleton.1 ha]
     exact hg)
   exact ⟨A, p', Ev.step (fun k => spec_l13Affixes.l0.eq_2 ..) (eP (Ev.bind he (hc _ (by simpa using h1)))), h2, h3, by omega, by omega⟩
theorem affixes13_ev {s : List Int} {p : Int} (h : Rdr s p) (hp : p ≤ 999999999000) : ∃ A p', Ev (fun k => spec_l13Affixes.f k s p) (A, p') ∧ A.length ≤ 4 ∧ (∀ a ∈ A, AfY a) ∧ p ≤ p' ∧ p' ≤ p + 5 := by
 have h0 := h.2.2.1
 obtain ⟨v, hv, v0, v1⟩ := pick_ev h 5 (by omega)
 obtain ⟨d, hd⟩ := Int.eq_ofNat_of_zero_le v0
 have hd4 : d ≤ 4 := by
  rcases v1 with v1 | v1 <;> omega
 obtain ⟨A, p', h1, h2, h3, h4, h5⟩ := affixes_loop (s := s) d [] v (p + 1) (h.at_ _ (by omega) (by omega)) (by omega) hd (by simpa using hd4) (by simp)
 unfold spec_l13Affixes.f
 exact ⟨A, p', Ev.bind hv h1, h2, h3, by omega, by omega⟩
theorem nodup_le {α : Type} [DecidableEq α] : ∀ (l k : List α), l.Nodup → (∀ x ∈ l, x ∈ k) → l.length ≤ k.length
 | [], _, _, _ => by simp
 | x :: l, k, hn, hs => by
  have hx := hs x (by simp)
  have hn' := List.nodup_cons.1 hn
  have := nodup_le l (k.erase x) hn'.2 (fun y hy => by
   have hne : y ≠ x := fun e => hn'.1 (e ▸ hy)
   exact (List.mem_erase_of_ne hne).2 (hs y (by simp [hy])))
  rw [List.length_erase_of_mem hx] at this
  have : 0 < k.length := List.length_pos_of_mem hx
  rw [List.length_cons]
  omega
def fillW (j : Nat) : ByteArray := (⟨#[119]⟩ : ByteArray) ++ strOfNums [(wrap64 (97 + (j : Int))) % 256]
theorem fillW_size (j : Nat) : (fillW j).size = 2 := by
 unfold fillW
 rw [size_append]
 rfl
theorem fillW_inj {i j : Nat} (hi : i < 24) (hj : j < 24) (h : fillW i = fillW j) : i = j := by
 have hb : ∀ n : Nat, n < 24 → (fillW n).data.toList = [119, UInt8.ofNat (97 + n)] := by
  intro n hn
  unfold fillW
  rw [w6, show ((97 + (n : Int)) % 256) = ((97 + n : Nat) : Int) from by omega]
  rw [ByteArray.data_append, Array.toList_append]
  show [119] ++ [UInt8.ofNat ((97 + n : Nat) : Int).toNat] = _
  rw [Int.toNat_natCast]
  rfl
 have h1 := hb i hi
 rw [h, hb j hj] at h1
 simp only [List.cons.injEq, true_and, and_true] at h1
 have h2 := congrArg UInt8.toNat h1
 simp only [UInt8.toNat_ofNat'] at h2
 omega
abbrev WZ (ws : List ByteArray) : Prop := ∀ w ∈ ws, w.size ≤ 13
theorem putL_WZ {ws : List ByteArray} {w : ByteArray} (h : WZ ws) (hw : w.size ≤ 13) : WZ (putL ws w) := by
 intro x hx
 rcases (putL_mem ws w x).1 hx with hx | hx
 ·exact h x hx
 ·rw [hx]
  exact hw
theorem ents_draw {s : List Int} (A : List Af) (ws : List ByteArray) (hl : ws.length ≤ 100) (hz : WZ ws) (d : Nat) : ∀ (i : Nat) (E : List En) (p : Int), i + d = ws.length → Rdr s p → p + d ≤ 1000000000000 → E.length = i → (∀ e ∈ E, EnZ e) →
  ∃ E' p', Ev (fun k => spec_l13Book.l2 k ws (i : Int) s p A E) (A, E', p') ∧ E'.length = ws.length ∧ (∀ e ∈ E', EnZ e) ∧ p ≤ p' ∧ p' ≤ p + d := by
 induction d with
 | zero =>
  intro i E p hi h hp hE he
  exact ⟨E, p, Ev.step (fun k => spec_l13Book.l2.eq_2 ..) (eN (Ev.now _)), by omega, he, by omega, by omega⟩
 | succ d ih =>
  intro i E p hi h hp hE he
  have h0 := h.2.2.1
  have hlt : i < ws.length := by omega
  obtain ⟨fl, hf, hf2⟩ := entry13_ev h ws[i]
  obtain ⟨E', p', h1, h2, h3, h4, h5⟩ := ih (i + 1) (E ++ [⟨ws[i], fl⟩]) (p + 1) (by omega) (h.at_ _ (by omega) (by omega)) (by omega) (by simp [hE]) (fun e he' => by
   rcases List.mem_append.1 he' with he' | he'
   ·exact he e he'
   ·rw [List.mem_singleton.1 he']
    exact ⟨hz _ (List.getElem_mem hlt), hf2⟩)
  refine ⟨E', p', Ev.step (fun k => spec_l13Book.l2.eq_2 ..) (eP (eP ?_)), h2, h3, by omega, by omega⟩
  rw [ba_get ws i hlt, w6 (n := (i : Int) + 1)]
  exact Ev.bind hf (evPos (by omega) h1)
theorem fill_loop {s : List Int} {p : Int} (A : List Af) {Q : List En → Int → Prop} (fin : ∀ ws : List ByteArray, ws.length ≤ 24 → WZ ws → ∃ E p', Ev (fun k => spec_l13Book.j2 k ws s p A) (A, E, p') ∧ Q E p') (d : Nat) : ∀ (j : Nat) (ws : List ByteArray), j + d = 24 → ws.length ≤ 24 → WZ ws → (∀ i, i < j → fillW i ∈ ws) →
  ∃ E p', Ev (fun k => spec_l13Book.l1 k ws (j : Int) s p A) (A, E, p') ∧ Q E p' := by
 have out : ∀ (j : Nat) (ws : List ByteArray), ¬ (ws.length : Int) < 24 → ws.length ≤ 24 → WZ ws → ∃ E p', Ev (fun k => spec_l13Book.l1 k ws (j : Int) s p A) (A, E, p') ∧ Q E p' := by
  intro j ws h1 h2 h3
  obtain ⟨E, p', h4, h5⟩ := fin ws (by omega) h3
  exact ⟨E, p', Ev.step (fun k => spec_l13Book.l1.eq_2 ..) (evNeg h1 h4), h5⟩
 induction d with
 | zero =>
  intro j ws hj hl hz hin
  refine out j ws ?_ hl hz
  have := nodup_le ((List.range 24).map fillW) ws (by
   rw [List.nodup_iff_pairwise_ne, List.pairwise_map]
   refine (List.nodup_range (n := 24)).imp_of_mem ?_
   intro a b ha hb hne e
   exact hne (fillW_inj (List.mem_range.1 ha) (List.mem_range.1 hb) e)) (fun x hx => by
    obtain ⟨i, hi, rfl⟩ := List.mem_map.1 hx
    exact hin i (by have := List.mem_range.1 hi; omega))
  simp only [List.length_map, List.length_range] at this
  omega
 | succ d ih =>
  intro j ws hj hl hz hin
  by_cases c : (ws.length : Int) < 24
  ·have hp := (putL_length ws (fillW j)).2
   obtain ⟨E, p', h4, h5⟩ := ih (j + 1) (putL ws (fillW j)) (by omega) (by omega) (putL_WZ hz (by rw [fillW_size]; omega)) (fun i hi => (putL_mem ws (fillW j) _).2 (by
    by_cases e : i = j
    ·exact .inr (by rw [e])
    ·exact .inl (hin i (by omega))))
   refine ⟨E, p', Ev.step (fun k => spec_l13Book.l1.eq_2 ..) (evPos c (evCall rfl (evPos ?_ (Ev.bind (put_ev ws (fillW j) (by omega)) ?_)))), h5⟩
   ·show 1 + (strOfNums [_]).size ≤ 9223372036854775807
    have : (strOfNums [(wrap64 (97 + (j : Int))) % 256]).size = 1 := rfl
    omega
   ·rw [w6 (n := (j : Int) + 1)]
    exact h4
  ·exact out j ws c hl hz
theorem book_words {s : List Int} (A : List Af) (d : Nat) : ∀ (ws : List ByteArray) (n p : Int), Rdr s p → p + 100 + 11 * d ≤ 999999999000 → n = d → ws.length + d ≤ 24 → WZ ws →
  ∃ E p', Ev (fun k => spec_l13Book.l0 k ws n s p A) (A, E, p') ∧ (E.length ≤ 24 ∧ (∀ e ∈ E, EnZ e)) ∧ p ≤ p' ∧ p' ≤ p + 200 + 11 * d := by
 induction d with
 | zero =>
  intro ws n p h hp hn hl hz
  have h0 := h.2.2.1
  obtain ⟨v, hv, v0, v1⟩ := pick_ev h 30 (by omega)
  have hr := h.at_ (p + 1) (by omega) (by omega)
  have fin : ∀ ws : List ByteArray, ws.length ≤ 24 → WZ ws → ∃ E p', Ev (fun k => spec_l13Book.j2 k ws s (p + 1) A) (A, E, p') ∧ (E.length ≤ 24 ∧ (∀ e ∈ E, EnZ e)) ∧ p ≤ p' ∧ p' ≤ p + 200 := by
   intro ws hl hz
   obtain ⟨E, p', h1, h2, h3, h4, h5⟩ := ents_draw (s := s) A ws (by omega) hz ws.length 0 [] (p + 1) (by omega) hr (by omega) rfl (by simp)
   exact ⟨E, p', Ev.step (fun k => spec_l13Book.j2.eq_2 ..) h1, ⟨by omega, h3⟩, by omega, by omega⟩
  by_cases c : v = 0
  ·have fin' : ∀ ws : List ByteArray, ws.length ≤ 24 → WZ ws → ∃ E p', Ev (fun k => spec_l13Book.j2 k ws s (p + 1) A) (A, E, p') ∧ ((E.length ≤ 24 ∧ (∀ e ∈ E, EnZ e)) ∧ p ≤ p' ∧ p' ≤ p + 200) := fin
   obtain ⟨E, p', h1, h2⟩ := fill_loop A fin' 24 0 ws (by omega) (by omega) hz (fun i hi => absurd hi (by omega))
   exact ⟨E, p', Ev.step (fun k => spec_l13Book.l0.eq_2 ..) (eN (Ev.bind hv (evPos c h1))), h2.1, h2.2.1, by have := h2.2.2; omega⟩
  ·obtain ⟨E, p', h1, h2, h3, h4⟩ := fin ws (by omega) hz
   exact ⟨E, p', Ev.step (fun k => spec_l13Book.l0.eq_2 ..) (eN (Ev.bind hv (evNeg c h1))), h2, h3, by omega⟩
 | succ d ih =>
  intro ws n p h hp hn hl hz
  have h0 := h.2.2.1
  obtain ⟨w, p1, hw, w1, w2, w3⟩ := word13_ev h (by omega)
  have hp2 := (putL_length ws w).2
  obtain ⟨E, p', h1, h2, h3, h4⟩ := ih (putL ws w) (n - 1) p1 (h.at_ _ (by omega) (by omega)) (by omega) (by omega) (by omega) (putL_WZ hz (by omega))
  refine ⟨E, p', Ev.step (fun k => spec_l13Book.l0.eq_2 ..) (eP (Ev.bind hw (Ev.bind (put_ev ws w (by omega)) ?_))), h2, by omega, by omega⟩
  rw [w6 (n := n - 1)]
  exact h1
theorem book13_ev {s : List Int} {p : Int} (h : Rdr s p) (hp : p ≤ 999999998000) : ∃ A E p', Ev (fun k => spec_l13Book.f k s p) (A, E, p') ∧ (A.length ≤ 4 ∧ (∀ a ∈ A, AfY a)) ∧ (E.length ≤ 24 ∧ (∀ e ∈ E, EnZ e)) ∧ p ≤ p' ∧ p' ≤ p + 300 := by
 have h0 := h.2.2.1
 obtain ⟨A, p1, h1, h2, h3, h4, h5⟩ := affixes13_ev h (by omega)
 have hr1 := h.at_ p1 (by omega) (by omega)
 obtain ⟨v, hv, v0, v1⟩ := pick_ev hr1 7 (by omega)
 obtain ⟨d, hd⟩ := Int.eq_ofNat_of_zero_le v0
 have hd6 : d ≤ 6 := by
  rcases v1 with v1 | v1 <;> omega
 obtain ⟨E, p', k1, k2, k3, k4⟩ := book_words (s := s) A d [] v (p1 + 1) (h.at_ _ (by omega) (by omega)) (by omega) hd (by simp; omega) (fun w hw => by cases hw)
 unfold spec_l13Book.f
 exact ⟨A, E, p', Ev.bind h1 (Ev.bind hv k1), ⟨h2, h3⟩, k2, by omega, by omega⟩
theorem letters_loop (s : ByteArray) (m : Int) (h : s.size ≤ 281474976710656) (d : Nat) : ∀ i : Int, 0 ≤ i → i ≤ s.size → (s.size : Int) - i = d →
  Ev (fun k => spec_l1Letters.l0 k s m i) (((bytesOf s).drop i.toNat).all low && decide ((s.size : Int) ≤ m)) := by
 induction d with
 | zero =>
  intro i h0 h1 hd
  refine Ev.step (fun k => spec_l1Letters.l0.eq_2 _ _ _ _) (eN ?_)
  rw [List.drop_eq_nil_of_le (by rw [bytesOf_length]; omega)]
  exact evTo (Ev.now _) (by simp)
 | succ d ih =>
  intro i h0 h1 hd
  refine Ev.step (fun k => spec_l1Letters.l0.eq_2 _ _ _ _) (eP (evPos h0 ?_))
  rw [bytes_drop s i h0 (by omega), List.all_cons]
  by_cases c : bt s i < 97
  ·exact evPos c (evTo (Ev.now _) (by simp [low]; omega))
  refine evNeg c ?_
  by_cases c1 : bt s i > 122
  ·exact evPos c1 (evTo (Ev.now _) (by simp [low]; omega))
  refine evNeg c1 ?_
  have e : low (bt s i) = true := (low_iff _).2 (by omega)
  rw [w6, e, Bool.true_and]
  exact ih (i + 1) (by omega) (by omega) (by omega)
theorem letters_spec (s : ByteArray) (m : Int) (h : s.size ≤ 140737488351232) : Ev (fun k => spec_l1Letters.f k s m) ((bytesOf s).all low && decide ((s.size : Int) ≤ m)) :=
 letters_loop s m (by omega) s.size 0 (by omega) (by omega) (by omega)
theorem letters_wide (s : ByteArray) (m : Int) (h : s.size ≤ 281474976710656) : Ev (fun k => spec_l1Letters.f k s m) ((bytesOf s).all low && decide ((s.size : Int) ≤ m)) :=
 letters_loop s m h s.size 0 (by omega) (by omega) (by omega)
theorem begins_spec (s p : ByteArray) : spec_l2Begins.f s p = some (begB s p) := by
 unfold spec_l2Begins.f
 by_cases c : (s.size : Int) ≥ (p.size : Int)
 ·rw [if_pos c, if_pos (by omega), if_pos (by omega), toList_beq]
  try rw [Int.toNat_natCast]
  simp [begB]
  omega
 ·rw [if_neg c]
  simp [begB]
  omega
theorem ends_spec (s p : ByteArray) (h : s.size ≤ 1407374883512320) : spec_l2Ends.f s p = some (endB s p) := by
 unfold spec_l2Ends.f
 by_cases c : (s.size : Int) ≥ (p.size : Int)
 ·rw [if_pos c, w6, if_pos (by omega), if_pos (by omega), toList_beq, show ((s.size : Int) - (p.size : Int)).toNat = s.size - p.size from by omega]
  simp [endB]
  omega
 ·rw [if_neg c]
  simp [endB]
  omega
theorem lower_loop (s : ByteArray) (h : s.size ≤ 140737488351232) (d : Nat) : ∀ i : Int, 0 ≤ i → i ≤ s.size → (s.size : Int) - i = d →
  Ev (fun k => impl_lower.l0 k s (s.size : Int) i) (((bytesOf s).drop i.toNat).all low) := by
 induction d with
 | zero =>
  intro i h0 h1 hd
  refine Ev.step (fun k => impl_lower.l0.eq_2 _ _ _ _) (eN ?_)
  rw [List.drop_eq_nil_of_le (by rw [bytesOf_length]; omega)]
  exact evTo (Ev.now _) (by simp)
 | succ d ih =>
  intro i h0 h1 hd
  refine Ev.step (fun k => impl_lower.l0.eq_2 _ _ _ _) (eP (evPos h0 (eP ?_)))
  rw [bytes_drop s i h0 (by omega), List.all_cons]
  by_cases c : bt s i < 97
  ·exact evPos c (evTo (Ev.now _) (by simp [low]; omega))
  refine evNeg c ?_
  by_cases c1 : bt s i > 122
  ·exact evPos c1 (evTo (Ev.now _) (by simp [low]; omega))
  refine evNeg c1 ?_
  have e : low (bt s i) = true := (low_iff _).2 (by omega)
  rw [w6, e, Bool.true_and]
  exact ih (i + 1) (by omega) (by omega) (by omega)
theorem lower_impl (s : ByteArray) (h : s.size ≤ 140737488351232) : Ev (fun k => impl_lower.f k s) ((bytesOf s).all low) :=
 lower_loop s h s.size 0 (by omega) (by omega) (by omega)
theorem l1Word_spec (s : ByteArray) (h : s.size ≤ 140737488351232) : Ev (fun k => spec_l1Word.f k s) (wordB s) := by
 unfold spec_l1Word.f
 by_cases c : (s.size : Int) > 0
 ·have hp : 0 < s.size := by omega
  refine evPos c (Ev.bind (letters_spec s 12 h) (evTo (Ev.now _) ?_))
  simp only [wordB, wordL, bytesOf_length, decide_eq_true hp, Bool.true_and]
  rw [Bool.and_comm]
  congr 1
  exact decide_eq_decide.2 (by omega)
 ·exact evNeg c (evTo (Ev.now _) (wordB_no (by omega)).symm)
theorem l1Word_spec' (s : ByteArray) (h : s.size ≤ 281474976710656) : Ev (fun k => spec_l1Word.f k s) (wordB s) := by
 by_cases c : s.size ≤ 140737488351232
 ·exact l1Word_spec s c
 unfold spec_l1Word.f
 refine eP (Ev.bind (letters_wide s 12 h) (evTo (Ev.now _) ?_))
 rw [wordB_no (by omega), decide_eq_false (by omega), Bool.and_false]
theorem within_impl (n a b : Int) : impl_within.f n a b = some (decide (a ≤ n) && decide (n ≤ b)) := by
 unfold impl_within.f
 by_cases c : n ≥ a
 ·rw [if_pos c]; simp [c]
 ·rw [if_neg c]; simp; omega
theorem word_impl (s : ByteArray) (h : s.size ≤ 140737488351232) : Ev (fun k => impl_WordOk.f k s) (wordB s) := by
 unfold impl_WordOk.f
 refine evCall (within_impl _ _ _) ?_
 by_cases c : (1 ≤ (s.size : Int) ∧ (s.size : Int) ≤ 12)
 ·have hp : 0 < s.size := by omega
  have hq : s.size ≤ 12 := by omega
  refine evPos (by simp; omega) (Ev.bind (lower_impl s h) (evTo (Ev.now _) ?_))
  simp only [wordB, wordL, bytesOf_length, decide_eq_true hp, decide_eq_true hq, Bool.true_and]
 ·exact evNeg (by simp; omega) (evTo (Ev.now _) (wordB_no (by omega)).symm)
theorem l2Do_spec (g : ByteArray) (fr : Bool) (st ad wh stem : ByteArray) (h1 : st.size ≤ wh.size) (h2 : ad.size ≤ 140737488351232) (h3 : stem.size ≤ 140737488351232) :
  Ev (fun k => spec_l2Do.f k g fr st ad wh stem) (outW (doB fr st ad wh stem)) := by
 unfold spec_l2Do.f
 cases fr with
 | true =>
  refine evPos rfl (evCall (begins_spec _ _) ?_)
  by_cases c : begB stem wh = true
  ·have hs := begB_size c
   have hz : (stem.extract st.size stem.size).size = stem.size - st.size := size_extract _ _ _ (by omega) (Nat.le_refl _)
   refine evPos c (eP (eP ?_))
   try rw [Int.toNat_natCast]
   refine eP (Ev.bind (l1Word_spec' _ (by rw [size_append]; omega)) (evTo (Ev.now _) ?_))
   simp [doB, c, outW]
  ·exact evNeg c (evTo (Ev.now _) (by simp [doB, c, outW]))
 | false =>
  refine evNeg (by simp) (evCall (ends_spec _ _ (by omega)) ?_)
  by_cases c : endB stem wh = true
  ·have hs := endB_size c
   have hz : (stem.extract 0 (stem.size - st.size)).size = stem.size - st.size := by
    rw [size_extract _ _ _ (by omega) (by omega)]
    omega
   refine evPos c ?_
   rw [w6, show ((stem.size : Int) - (st.size : Int)).toNat = stem.size - st.size from by omega]
   refine eP (eP (eP (Ev.bind (l1Word_spec' _ (by rw [size_append]; omega)) (evTo (Ev.now _) ?_))))
   simp [doB, c, outW]
  ·exact evNeg c (evTo (Ev.now _) (by simp [doB, c, outW]))
def hasFl (f g : ByteArray) : Bool := (bytesOf f).contains (bt g 0)
theorem bytes_one {g : ByteArray} (h : g.size = 1) : bytesOf g = [bt g 0] := by
 have h1 := bytes_drop g 0 (by omega) (by omega)
 have h2 : ((bytesOf g).drop ((0 : Int) + 1).toNat) = [] := List.drop_eq_nil_of_le (by rw [bytesOf_length]; omega)
 rw [h2] at h1
 simpa using h1
theorem bytes_at {f : ByteArray} (i : Nat) (h : i < f.size) : bytesOf (f.extract i (i + 1)) = [bt f i] := by
 have h1 := bytes_drop f i (by omega) (by omega)
 rw [Int.toNat_natCast] at h1
 rw [bytes_extract, h1]
 simp
theorem has_loop (f g : ByteArray) (hf : f.size ≤ 1048576) (hg : g.size = 1) (d : Nat) : ∀ i : Nat, i + d = f.size → Ev (fun k => spec_l2Has.l0 k f g (i : Int)) (((bytesOf f).drop i).contains (bt g 0)) := by
 induction d with
 | zero =>
  intro i hi
  refine Ev.step (fun k => spec_l2Has.l0.eq_2 _ _ _ _) (eN (evTo (Ev.now _) ?_))
  rw [List.drop_eq_nil_of_le (by rw [bytesOf_length]; omega)]
  rfl
 | succ d ih =>
  intro i hi
  have e : wrap64 ((i : Int) + 1) = ((i + 1 : Nat) : Int) := w6
  refine Ev.step (fun k => spec_l2Has.l0.eq_2 _ _ _ _) ?_
  rw [e]
  refine eP (eP (eP (eP ?_)))
  rw [Int.toNat_natCast, Int.toNat_natCast]
  have h1 := bytes_drop f i (by omega) (by omega)
  rw [Int.toNat_natCast, show ((i : Int) + 1).toNat = i + 1 from by omega] at h1
  rw [h1, List.contains_cons]
  by_cases c : bt f i = bt g 0
  ·refine evPos ((toList_iff _ _).2 (bytes_inj (by rw [bytes_at i (by omega), bytes_one hg, c]))) (evTo (Ev.now _) ?_)
   simp [c]
  ·refine evNeg (fun h => c ?_) (evTo (ih (i + 1) (by omega)) ?_)
   ·have := congrArg bytesOf ((toList_iff _ _).1 h)
    rw [bytes_at i (by omega), bytes_one hg] at this
    simpa using this
   ·have : (bt g 0 == bt f i) = false := by simpa using fun h => c h.symm
    rw [this, Bool.false_or]
theorem has_ev (f g : ByteArray) (hf : f.size ≤ 1048576) (hg : g.size = 1) : Ev (fun k => spec_l2Has.f k f g) (hasFl f g) := by
 have := has_loop f g hf hg f.size 0 (by omega)
 rw [List.drop_zero] at this
 exact this
abbrev AfOk (a : Af) : Prop := affOk a.f0 a.f1 a.f2 a.f3 a.f4 = true
def doA (a : Af) (s : ByteArray) : Option ByteArray := (doB a.f1 a.f2 a.f3 a.f4 s).filter wordB
theorem doA_word {a : Af} {s x : ByteArray} (h : doA a s = some x) : wordB x = true := by
 unfold doA at h
 rw [Option.filter_eq_some_iff] at h
 exact h.2
def selA (a : Af) (fl : ByteArray) (front : Bool) : Bool := (a.f1 == front) && hasFl fl a.f0
def candA (a : Af) (fl : ByteArray) (front : Bool) (ws : List ByteArray) : List ByteArray := if selA a fl front = true then ws.filterMap (doA a) else []
def oneL (A : List Af) (fl : ByteArray) (front : Bool) (ws out : List ByteArray) : List ByteArray := (A.flatMap (fun a => candA a fl front ws)).foldl putL out
abbrev WsZ (ws : List ByteArray) : Prop := ∀ s ∈ ws, s.size ≤ 1048576
theorem one_words (A : List Af) (fl : ByteArray) (front : Bool) (ws : List ByteArray) (i : Nat) (hi : i < A.length) (hok : AfOk A[i]) (hw : WsZ ws) (hl : ws.length ≤ 1000) {r : List ByteArray} (d : Nat) : ∀ (j : Nat) (out : List ByteArray), j + d = ws.length → out.length + d ≤ 100000 →
  (∀ out', out' = ((ws.drop j).filterMap (doA A[i])).foldl putL out → Ev (fun k => spec_l2One.l0 k A fl front ws out' (wrap64 ((i : Int) + 1))) r) → Ev (fun k => spec_l2One.l1 k A fl front ws out (i : Int) (j : Int)) r := by
 have hp := affOk_parts hok
 have e : rd_T135 A (i : Int) = A[i] := by simp [rd_T135, List.getD_eq_getElem?_getD, hi]
 induction d with
 | zero =>
  intro j out hj ho next
  refine Ev.step (fun k => spec_l2One.l1.eq_2 _ _ _ _ _ _ _ _) (eN (next _ ?_))
  rw [List.drop_eq_nil_of_le (by omega)]
  rfl
 | succ d ih =>
  intro j out hj ho next
  have hs := ba_at (P := fun s => s.size ≤ 1048576) hw j (by omega)
  have hlt : j < ws.length := by omega
  have hA : A.length ≤ A.length := Nat.le_refl _
  have s1 := partB_size hp.2.1
  have s2 := partB_size hp.2.2.1
  refine Ev.step (fun k => spec_l2One.l1.eq_2 _ _ _ _ _ _ _ _) (eP (eP (eP (eP ?_))))
  rw [e, w6 (n := (j : Int) + 1)]
  refine Ev.bind (l2Do_spec _ _ _ _ _ _ (strip_size hok) (by omega) (by omega)) ?_
  rw [List.drop_eq_getElem_cons hlt] at next
  rw [ba_get ws j hlt]
  cases h : doB A[i].f1 A[i].f2 A[i].f3 A[i].f4 ws[j] with
  | none =>
   have h2 : doA A[i] ws[j] = none := by unfold doA; rw [h]; rfl
   rw [List.filterMap_cons_none h2] at next
   exact evNeg (by simp [outW]) (ih (j + 1) out (by omega) (by omega) next)
  | some x =>
   by_cases c : wordB x = true
   ·have h2 : doA A[i] ws[j] = some x := by unfold doA; rw [h, Option.filter_some, if_pos c]
    rw [List.filterMap_cons_some h2, List.foldl_cons] at next
    have hl := (putL_length out x).2
    exact evPos (by simpa [outW] using c) (Ev.bind (put_ev out x (by omega)) (ih (j + 1) _ (by omega) (by omega) next))
   ·have h2 : doA A[i] ws[j] = none := by unfold doA; rw [h, Option.filter_some, if_neg c]
    rw [List.filterMap_cons_none h2] at next
    exact evNeg (by simpa [outW] using c) (ih (j + 1) out (by omega) (by omega) next)
set_option maxRecDepth 20000 in
theorem one_loop (A : List Af) (fl : ByteArray) (front : Bool) (ws : List ByteArray) (hok : ∀ a ∈ A, AfOk a) (hA : A.length ≤ 8) (hf : fl.size ≤ 1048576) (hw : WsZ ws) (hl : ws.length ≤ 1000) (d : Nat) : ∀ (i : Nat) (out : List ByteArray), i + d = A.length → out.length + d * 1000 ≤ 90000 →
  Ev (fun k => spec_l2One.l0 k A fl front ws out (i : Int)) (oneL (A.drop i) fl front ws out) := by
 induction d with
 | zero =>
  intro i out hi ho
  refine Ev.step (fun k => spec_l2One.l0.eq_2 _ _ _ _ _ _ _) (eN (evTo (Ev.now _) ?_))
  rw [List.drop_eq_nil_of_le (by omega)]
  rfl
 | succ d ih =>
  intro i out hi ho
  have hlt : i < A.length := by omega
  have e : rd_T135 A (i : Int) = A[i] := by simp [rd_T135, List.getD_eq_getElem?_getD, hlt]
  have ho' := hok _ (List.getElem_mem hlt)
  have hg : A[i].f0.size = 1 := by
   have := (affOk_parts ho').1
   simp only [flagB, Bool.and_eq_true, decide_eq_true_eq] at this
   exact this.1
  have ew : wrap64 ((i : Int) + 1) = ((i + 1 : Nat) : Int) := w6
  have split : oneL (A.drop i) fl front ws out = oneL (A.drop (i + 1)) fl front ws ((candA A[i] fl front ws).foldl putL out) := by
   unfold oneL
   rw [List.drop_eq_getElem_cons hlt, List.flatMap_cons, List.foldl_append]
  rw [split]
  refine Ev.step (fun k => spec_l2One.l0.eq_2 _ _ _ _ _ _ _) (eP (eP ?_))
  rw [e]
  have skip : selA A[i] fl front = false → Ev (fun k => spec_l2One.j1 k A fl front ws out (i : Int) true) (oneL (A.drop (i + 1)) fl front ws ((candA A[i] fl front ws).foldl putL out)) := by
   intro hs
   refine Ev.step (fun k => spec_l2One.j1.eq_2 _ _ _ _ _ _ _ _) (evPos rfl ?_)
   have hc : candA A[i] fl front ws = [] := by unfold candA; rw [if_neg (by simp [hs])]
   rw [ew, hc]
   exact ih (i + 1) out (by omega) (by omega)
  by_cases c : (A[i].f1 != front) = true
  ·refine evPos c (skip ?_)
   have : (A[i].f1 == front) = false := by simpa [bne] using c
   unfold selA
   rw [this]
   rfl
  ·have c1 : (A[i].f1 == front) = true := by simpa [bne] using c
   refine evNeg c (Ev.bind (has_ev fl _ hf hg) ?_)
   cases h : hasFl fl A[i].f0 with
   | false => exact skip (by unfold selA; rw [h, Bool.and_false])
   | true =>
    refine Ev.step (fun k => spec_l2One.j1.eq_2 _ _ _ _ _ _ _ _) (evNeg (by simp) (one_words A fl front ws i hlt ho' hw hl ws.length 0 out (by omega) (by omega) (fun out' he => ?_)))
    have hc : candA A[i] fl front ws = ws.filterMap (doA A[i]) := by unfold candA selA; rw [c1, h]; rfl
    rw [List.drop_zero] at he
    rw [ew, hc, ← he]
    refine ih (i + 1) out' (by omega) ?_
    have h1 := foldPut_length (ws.filterMap (doA A[i])) out
    have h2 := List.length_filterMap_le (doA A[i]) ws
    rw [he]
    omega
theorem l2One_ev (A : List Af) (fl : ByteArray) (front : Bool) (ws : List ByteArray) (hok : ∀ a ∈ A, AfOk a) (hA : A.length ≤ 8) (hf : fl.size ≤ 1048576) (hw : WsZ ws) (hl : ws.length ≤ 1000) : Ev (fun k => spec_l2One.f k A fl front ws) (oneL A fl front ws ws) := by
 unfold spec_l2One.f
 refine evCall rfl (evPos (by simp; omega) ?_)
 have := one_loop A fl front ws hok hA hf hw hl A.length 0 ws (by omega) (by omega)
 simpa using this
theorem cand_length (A : List Af) (fl : ByteArray) (front : Bool) (ws : List ByteArray) : (A.flatMap (fun a => candA a fl front ws)).length ≤ A.length * ws.length := by
 induction A with
 | nil => simp
 | cons a A ih =>
  rw [List.flatMap_cons, List.length_append, List.length_cons, Nat.add_mul]
  have : (candA a fl front ws).length ≤ ws.length := by
   unfold candA
   split
   ·exact List.length_filterMap_le _ _
   ·simp
  omega
theorem oneL_length (A : List Af) (fl : ByteArray) (front : Bool) (ws out : List ByteArray) : (oneL A fl front ws out).length ≤ out.length + A.length * ws.length := by
 have h1 := foldPut_length (A.flatMap (fun a => candA a fl front ws)) out
 have h2 := cand_length A fl front ws
 unfold oneL
 omega
theorem oneL_mem (A : List Af) (fl : ByteArray) (front : Bool) (ws out : List ByteArray) (x : ByteArray) : x ∈ oneL A fl front ws out ↔ x ∈ out ∨ ∃ a ∈ A, selA a fl front = true ∧ ∃ s ∈ ws, doA a s = some x := by
 unfold oneL
 rw [foldPut_mem, List.mem_flatMap]
 refine or_congr Iff.rfl ⟨fun ⟨a, ha, h⟩ => ?_, fun ⟨a, ha, hs, s, hw, h⟩ => ⟨a, ha, ?_⟩⟩
 ·unfold candA at h
  split at h
  ·rename_i hs
   obtain ⟨s, hw, he⟩ := List.mem_filterMap.1 h
   exact ⟨a, ha, hs, s, hw, he⟩
  ·cases h
 ·unfold candA
  rw [if_pos hs]
  exact List.mem_filterMap.2 ⟨s, hw, h⟩
theorem oneL_size {A : List Af} {fl : ByteArray} {front : Bool} {ws out : List ByteArray} (h : WsZ out) : WsZ (oneL A fl front ws out) := by
 intro s hs
 rcases (oneL_mem A fl front ws out s).1 hs with hs | ⟨a, _, _, t, _, he⟩
 ·exact h s hs
 ·have := wordB_size (doA_word he)
  omega
def formsL (A : List Af) (w fl : ByteArray) : List ByteArray := oneL A fl true (oneL A fl false [w] [w]) (oneL A fl false [w] [w])
theorem formsL_length {A : List Af} (hA : A.length ≤ 8) (w fl : ByteArray) : (formsL A w fl).length ≤ 81 := by
 have h1 := oneL_length A fl false [w] [w]
 have h2 := oneL_length A fl true (oneL A fl false [w] [w]) (oneL A fl false [w] [w])
 unfold formsL
 simp only [List.length_cons, List.length_nil] at h1
 have h3 : (oneL A fl false [w] [w]).length ≤ 9 := by omega
 have h4 : A.length * (oneL A fl false [w] [w]).length ≤ 8 * 9 := Nat.mul_le_mul hA h3
 omega
theorem l2Forms_ev (A : List Af) (w fl : ByteArray) (hok : ∀ a ∈ A, AfOk a) (hA : A.length ≤ 8) (hf : fl.size ≤ 1048576) (hw : w.size ≤ 1048576) : Ev (fun k => spec_l2Forms.f k A w fl) (formsL A w fl) := by
 have z1 : WsZ [w] := fun s hs => by simpa using (List.mem_singleton.1 hs ▸ hw : s.size ≤ 1048576)
 have h1 := oneL_length A fl false [w] [w]
 simp only [List.length_cons, List.length_nil] at h1
 unfold spec_l2Forms.f
 exact Ev.bind (l2One_ev A fl false [w] hok hA hf z1 (by simp)) (Ev.bind (l2One_ev A fl true _ hok hA hf (oneL_size z1) (by omega)) (Ev.now _))
def allF (A : List Af) (E : List En) : List ByteArray := E.flatMap (fun e => formsL A e.f0 e.f1)
def wordsL (A : List Af) (E : List En) (out : List ByteArray) : List ByteArray := (allF A E).foldl putL out
theorem allF_length {A : List Af} (hA : A.length ≤ 8) (E : List En) : (allF A E).length ≤ E.length * 81 := by
 unfold allF
 induction E with
 | nil => simp
 | cons e E ih =>
  rw [List.flatMap_cons, List.length_append, List.length_cons, Nat.add_mul]
  have := formsL_length hA e.f0 e.f1
  omega
theorem wordsL_mem (A : List Af) (E : List En) (x : ByteArray) : x ∈ wordsL A E [] ↔ ∃ e ∈ E, x ∈ formsL A e.f0 e.f1 := by
 unfold wordsL allF
 rw [foldPut_mem, List.mem_flatMap]
 simp
theorem wordsL_asc (A : List Af) (E : List En) : Asc (wordsL A E []) := foldPut_asc _ (by simp [Asc])
theorem wordsL_length {A : List Af} (hA : A.length ≤ 8) (E : List En) : (wordsL A E []).length ≤ E.length * 81 := by
 have h1 := foldPut_length (allF A E) []
 have h2 := allF_length hA E
 unfold wordsL
 simp only [List.length_nil] at h1
 omega
theorem words_inner (A : List Af) (E : List En) (i : Nat) (fs : List ByteArray) (hl : fs.length ≤ 1000) {r : List ByteArray} (d : Nat) : ∀ (j : Nat) (out : List ByteArray), j + d = fs.length → out.length + d ≤ 100000 →
  (∀ out', out' = (fs.drop j).foldl putL out → Ev (fun k => spec_l2Words.l0 k out' (wrap64 ((i : Int) + 1)) A E) r) → Ev (fun k => spec_l2Words.l1 k out (i : Int) fs (j : Int) A E) r := by
 induction d with
 | zero =>
  intro j out hj ho next
  refine Ev.step (fun k => spec_l2Words.l1.eq_2 ..) (eN (next _ ?_))
  rw [List.drop_eq_nil_of_le (by omega)]
  rfl
 | succ d ih =>
  intro j out hj ho next
  have hlt : j < fs.length := by omega
  rw [List.drop_eq_getElem_cons hlt, List.foldl_cons] at next
  have hp := (putL_length out fs[j]).2
  refine Ev.step (fun k => spec_l2Words.l1.eq_2 ..) (eP (eP ?_))
  rw [ba_get fs j hlt, w6 (n := (j : Int) + 1)]
  exact Ev.bind (put_ev out fs[j] (by omega)) (ih (j + 1) _ (by omega) (by omega) next)
theorem words_loop (A : List Af) (E : List En) (hok : ∀ a ∈ A, AfOk a) (hA : A.length ≤ 8) (he : ∀ s ∈ E, (s.f0.size ≤ 1048576 ∧ s.f1.size ≤ 1048576)) (hE : E.length ≤ 24) (d : Nat) : ∀ (i : Nat) (out : List ByteArray), i + d = E.length → out.length + d * 100 ≤ 90000 →
  Ev (fun k => spec_l2Words.l0 k out (i : Int) A E) (wordsL A (E.drop i) out) := by
 induction d with
 | zero =>
  intro i out hi ho
  refine Ev.step (fun k => spec_l2Words.l0.eq_2 ..) (eN (evTo (Ev.now _) ?_))
  rw [List.drop_eq_nil_of_le (by omega)]
  rfl
 | succ d ih =>
  intro i out hi ho
  have hlt : i < E.length := by omega
  have e : rd_T127 E (i : Int) = E[i] := by simp [rd_T127, List.getD_eq_getElem?_getD, hlt]
  have hz := he _ (List.getElem_mem hlt)
  have hn := formsL_length hA E[i].f0 E[i].f1
  have split : wordsL A (E.drop i) out = wordsL A (E.drop (i + 1)) ((formsL A E[i].f0 E[i].f1).foldl putL out) := by
   unfold wordsL allF
   rw [List.drop_eq_getElem_cons hlt, List.flatMap_cons, List.foldl_append]
  rw [split]
  refine Ev.step (fun k => spec_l2Words.l0.eq_2 ..) (eP (eP ?_))
  rw [e]
  refine Ev.bind (l2Forms_ev A _ _ hok hA hz.2 hz.1) (words_inner A E i _ (by omega) (formsL A E[i].f0 E[i].f1).length 0 out (by omega) (by omega) (fun out' h => ?_))
  rw [List.drop_zero] at h
  rw [w6 (n := (i : Int) + 1), ← h]
  have hp := foldPut_length (formsL A E[i].f0 E[i].f1) out
  exact ih (i + 1) out' (by omega) (by rw [h]; omega)
theorem l2Words_ev (A : List Af) (E : List En) (hok : ∀ a ∈ A, AfOk a) (hA : A.length ≤ 8) (he : ∀ s ∈ E, (s.f0.size ≤ 1048576 ∧ s.f1.size ≤ 1048576)) (hE : E.length ≤ 24) : Ev (fun k => spec_l2Words.f k A E) (wordsL A E []) := by
 have := words_loop A E hok hA he hE E.length 0 [] (by omega) (by simp; omega)
 rw [List.drop_zero] at this
 exact this
theorem oneL_small {A : List Af} {fl : ByteArray} {front : Bool} {ws out : List ByteArray} (h : WZ out) : WZ (oneL A fl front ws out) := by
 intro x hx
 rcases (oneL_mem A fl front ws out x).1 hx with hx | ⟨a, _, _, s, _, hd⟩
 ·exact h x hx
 ·have := wordB_size (doA_word hd)
  omega
theorem formsL_small {A : List Af} {w fl : ByteArray} (h : w.size ≤ 13) : WZ (formsL A w fl) := oneL_small (oneL_small (fun x hx => by rw [List.mem_singleton.1 hx]; exact h))
theorem wordsL_small {A : List Af} {E : List En} (h : ∀ e ∈ E, EnZ e) : WZ (wordsL A E []) := by
 intro x hx
 obtain ⟨e, he, hx⟩ := (wordsL_mem A E x).1 hx
 exact formsL_small (h e he).1 x hx
theorem wordsL_ev13 {A : List Af} {E : List En} (ha : A.length ≤ 4 ∧ ∀ a ∈ A, AfY a) (he : E.length ≤ 24 ∧ ∀ e ∈ E, EnZ e) : Ev (fun k => spec_l2Words.f k A E) (wordsL A E []) ∧ (wordsL A E []).length ≤ 2000 := by
 refine ⟨l2Words_ev A E (fun a h => (ha.2 a h).2) (by omega) (fun s h => ?_) he.1, ?_⟩
 ·have := he.2 s h
  omega
 ·have := wordsL_length (A := A) (by omega) E
  omega
theorem words13_end {s : List Int} {p : Int} (ws : List ByteArray) (hl : ws.length ≤ 2000) (hz : WZ ws) (ha : Asc ws) : ∃ r, Ev (fun k => spec_l13Words.j1 k ws s p) (r, p) ∧ r.length ≤ 40 ∧ WZ r ∧ Asc r := by
 by_cases c : (ws.length : Int) > 40
 ·exact ⟨ws.take 40, Ev.step (fun k => spec_l13Words.j1.eq_2 ..) (evPos c (eP (Ev.now _))), by rw [List.length_take]; omega, fun w hw => hz w (List.mem_of_mem_take hw), ha.sublist (List.take_sublist 40 ws)⟩
 ·exact ⟨ws, Ev.step (fun k => spec_l13Words.j1.eq_2 ..) (evNeg c (Ev.now _)), by omega, hz, ha⟩
theorem words13_loop {s : List Int} (d : Nat) : ∀ (ws : List ByteArray) (n p : Int), Rdr s p → p + 500 + 11 * d ≤ 999999998000 → n = d → ws.length + d ≤ 24 → WZ ws → Asc ws →
  ∃ r p', Ev (fun k => spec_l13Words.l0 k ws n s p) (r, p') ∧ (r.length ≤ 40 ∧ WZ r ∧ Asc r) ∧ p ≤ p' ∧ p' ≤ p + 400 + 11 * d := by
 induction d with
 | zero =>
  intro ws n p h hp hn hl hz ha
  have h0 := h.2.2.1
  obtain ⟨v, hv, v0, v1⟩ := pick_ev h 3 (by omega)
  by_cases c : v = 0
  ·obtain ⟨A, E, p1, hb, a1, e1, g1, g2⟩ := book13_ev (h.at_ (p + 1) (by omega) (by omega)) (by omega)
   obtain ⟨w1, w2⟩ := wordsL_ev13 a1 e1
   obtain ⟨r, hr, k1, k2, k3⟩ := words13_end (s := s) (p := p1) (wordsL A E []) w2 (wordsL_small e1.2) (wordsL_asc A E)
   exact ⟨r, p1, Ev.step (fun k => spec_l13Words.l0.eq_2 ..) (eN (Ev.bind hv (evPos c (Ev.bind hb (Ev.bind w1 hr))))), ⟨k1, k2, k3⟩, by omega, by omega⟩
  ·obtain ⟨r, hr, k1, k2, k3⟩ := words13_end (s := s) (p := p + 1) ws (by omega) hz ha
   exact ⟨r, p + 1, Ev.step (fun k => spec_l13Words.l0.eq_2 ..) (eN (Ev.bind hv (evNeg c hr))), ⟨k1, k2, k3⟩, by omega, by omega⟩
 | succ d ih =>
  intro ws n p h hp hn hl hz ha
  have h0 := h.2.2.1
  obtain ⟨w, p1, hw, w1, w2, w3⟩ := word13_ev h (by omega)
  have hp2 := (putL_length ws w).2
  obtain ⟨r, p', h1, h2, h3, h4⟩ := ih (putL ws w) (n - 1) p1 (h.at_ _ (by omega) (by omega)) (by omega) (by omega) (by omega) (putL_WZ hz (by omega)) (putL_asc ha w)
  refine ⟨r, p', Ev.step (fun k => spec_l13Words.l0.eq_2 ..) (eP (Ev.bind hw (Ev.bind (put_ev ws w (by omega)) ?_))), h2, by omega, by omega⟩
  rw [w6 (n := n - 1)]
  exact h1
theorem words13_ev {s : List Int} {p : Int} (h : Rdr s p) (hp : p ≤ 999999990000) : ∃ r p', Ev (fun k => spec_l13Words.f k s p) (r, p') ∧ (r.length ≤ 40 ∧ WZ r ∧ Asc r) ∧ p ≤ p' ∧ p' ≤ p + 600 := by
 have h0 := h.2.2.1
 obtain ⟨v, hv, v0, v1⟩ := pick_ev h 9 (by omega)
 obtain ⟨d, hd⟩ := Int.eq_ofNat_of_zero_le v0
 have hd8 : d ≤ 8 := by
  rcases v1 with v1 | v1 <;> omega
 obtain ⟨r, p', k1, k2, k3, k4⟩ := words13_loop (s := s) d [] v (p + 1) (h.at_ _ (by omega) (by omega)) (by omega) hd (by simp; omega) (fun w hw => by cases hw) (by simp [Asc])
 unfold spec_l13Words.f
 exact ⟨r, p', Ev.bind hv k1, k2, by omega, by omega⟩
def wGo (l : List ByteArray) : Nat → Int → Bool
 | 0, _ => true
 | d + 1, i => wordB (rdOf ByteArray.empty l i) && (if i > 0 then Op.bytesLess (rdOf ByteArray.empty l (i - 1)).toList (rdOf ByteArray.empty l i).toList else true) && wGo l d (i + 1)
theorem words_impl_loop (l : List ByteArray) (n : Int) (hl : l.length ≤ 1048576) (he : ∀ s ∈ l, s.size ≤ 1048576) (d : Nat) : ∀ i : Nat, i + d = l.length → Ev (fun k => impl_wordsOk.l0 k l n l (l.length : Int) (i : Int)) (wGo l d i && decide ((l.length : Int) ≤ n)) := by
 induction d with
 | zero =>
  intro i hi
  refine Ev.step (fun k => impl_wordsOk.l0.eq_2 _ _ _ _ _ _) (eN (evTo (Ev.now _) ?_))
  simp only [wGo, Bool.true_and]
 | succ d ih =>
  intro i hi
  have hs := ba_at (P := fun s => s.size ≤ 1048576) he i (by omega)
  refine Ev.step (fun k => impl_wordsOk.l0.eq_2 _ _ _ _ _ _) (eP (eP (eP (Ev.bind (word_impl _ (by omega)) ?_))))
  rw [w6 (n := (i : Int) + 1)]
  have next := ih (i + 1) (by omega)
  simp only [wGo]
  cases e : wordB (rdOf ByteArray.empty l (i : Int)) with
  | false => exact evNeg (by simp) (evTo (Ev.now _) (by simp))
  | true =>
   refine evPos rfl ?_
   by_cases c : (i : Int) > 0
   ·rw [w6 (n := (i : Int) - 1), if_pos c]
    refine evPos c (eP (eP ?_))
    cases g : Op.bytesLess (rdOf ByteArray.empty l ((i : Int) - 1)).toList (rdOf ByteArray.empty l (i : Int)).toList with
    | false => exact evNeg (by simp) (evTo (Ev.now _) (by simp))
    | true => exact evPos rfl (evTo next (by simp))
   ·rw [if_neg c]
    exact evNeg c (evTo next (by simp))
theorem words_impl (l : List ByteArray) (n : Int) (hl : l.length ≤ 1048576) (he : ∀ s ∈ l, s.size ≤ 1048576) : Ev (fun k => impl_wordsOk.f k l n) (wGo l l.length 0 && decide ((l.length : Int) ≤ n)) := words_impl_loop l n hl he l.length 0 (by omega)
def wsB (l : List ByteArray) : Bool := wGo l l.length 0 && decide ((l.length : Int) ≤ 300)
theorem l3Words_loop (l : List ByteArray) (hl : l.length ≤ 1048576) (he : ∀ s ∈ l, s.size ≤ 1048576) (d : Nat) : ∀ i : Nat, i + d = l.length → Ev (fun k => spec_l3Words.l0 k l (i : Int)) (wGo l d i && decide ((l.length : Int) ≤ 300)) := by
 induction d with
 | zero =>
  intro i hi
  refine Ev.step (fun k => spec_l3Words.l0.eq_2 ..) (eN (evTo (Ev.now _) ?_))
  simp only [wGo, Bool.true_and]
 | succ d ih =>
  intro i hi
  have hs := ba_at (P := fun s => s.size ≤ 1048576) he i (by omega)
  refine Ev.step (fun k => spec_l3Words.l0.eq_2 ..) (eP (eP (Ev.bind (l1Word_spec _ (by omega)) ?_)))
  rw [w6 (n := (i : Int) + 1)]
  have next := ih (i + 1) (by omega)
  simp only [wGo]
  cases e : wordB (rdOf ByteArray.empty l (i : Int)) with
  | false => exact evNeg (by simp) (evTo (Ev.now _) (by simp))
  | true =>
   refine evPos rfl ?_
   by_cases c : (i : Int) > 0
   ·rw [w6 (n := (i : Int) - 1), if_pos c]
    refine evPos c (eP (eP ?_))
    cases g : Op.bytesLess (rdOf ByteArray.empty l ((i : Int) - 1)).toList (rdOf ByteArray.empty l (i : Int)).toList with
    | false => exact evNeg (by simp) (evTo (Ev.now _) (by simp))
    | true => exact evPos rfl (evTo next (by simp))
   ·rw [if_neg c]
    exact evNeg c (evTo next (by simp))
theorem l3Words_ev (l : List ByteArray) (hl : l.length ≤ 1048576) (he : ∀ s ∈ l, s.size ≤ 1048576) : Ev (fun k => spec_l3Words.f k l) (wsB l) := l3Words_loop l hl he l.length 0 (by omega)
theorem wGo_words (l : List ByteArray) (d : Nat) : ∀ i : Nat, i + d = l.length → wGo l d i = true → ∀ s ∈ l.drop i, wordB s = true := by
 induction d with
 | zero =>
  intro i hi _ s hs
  rw [List.drop_eq_nil_of_le (by omega)] at hs
  cases hs
 | succ d ih =>
  intro i hi h s hs
  have hlt : i < l.length := by omega
  simp only [wGo, Bool.and_eq_true] at h
  rw [List.drop_eq_getElem_cons hlt] at hs
  rcases List.mem_cons.1 hs with rfl | hs
  ·rw [← ba_get l i hlt]
   exact h.1.1
  ·exact ih (i + 1) (by omega) h.2 s hs
theorem ws_facts {ws : List ByteArray} (h : wsB ws = true) : ws.length ≤ 300 ∧ (∀ s ∈ ws, wordB s = true) ∧ ∀ s ∈ ws, s.size ≤ 12 := by
 unfold wsB at h
 rw [Bool.and_eq_true, decide_eq_true_eq] at h
 have h2 := wGo_words ws ws.length 0 (by omega) h.1
 rw [List.drop_zero] at h2
 exact ⟨by omega, h2, fun s hs => (wordB_size (h2 s hs)).2⟩
def endsL (l : List ByteArray) (c : Int) : List ByteArray := (l.filter (fun s => decide (0 < s.size) && decide (bt s 0 = c))).map (fun s => s.extract 1 s.size)
theorem endsL_cons (s : ByteArray) (l : List ByteArray) (c : Int) : endsL (s :: l) c = (if 0 < s.size ∧ bt s 0 = c then [s.extract 1 s.size] else []) ++ endsL l c := by
 unfold endsL
 rw [List.filter_cons]
 by_cases h1 : 0 < s.size
 ·by_cases h2 : bt s 0 = c
  ·simp [h1, h2]
  ·simp [h2]
 ·simp [h1]
theorem ends_loop (l : List ByteArray) (c : Int) (hl : l.length ≤ 100000) (d : Nat) : ∀ (i : Nat) (out : List ByteArray), i + d = l.length → out.length ≤ i → Ev (fun k => spec_l3Ends.l0 k l c out (i : Int)) (out ++ endsL (l.drop i) c) := by
 induction d with
 | zero =>
  intro i out hi ho
  refine Ev.step (fun k => spec_l3Ends.l0.eq_2 ..) (eN (evTo (Ev.now _) ?_))
  rw [List.drop_eq_nil_of_le (by omega)]
  simp [endsL]
 | succ d ih =>
  intro i out hi ho
  have hlt : i < l.length := by omega
  have e1 : wrap64 ((i : Int) + 1) = ((i + 1 : Nat) : Int) := w6
  refine Ev.step (fun k => spec_l3Ends.l0.eq_2 ..) (eP (eP ?_))
  rw [ba_get l i hlt, e1, List.drop_eq_getElem_cons hlt, endsL_cons]
  by_cases c1 : (l[i].size : Int) > 0
  ·refine evPos c1 (evPos c1 ?_)
   by_cases c2 : bt l[i] 0 = c
   ·rw [if_pos ⟨by omega, c2⟩]
    refine evPos c2 (eP (eP (evTo (ih (i + 1) _ (by omega) (by simp; omega)) ?_)))
    simp
   ·rw [if_neg (fun h => c2 h.2), List.nil_append]
    exact evNeg c2 (ih (i + 1) _ (by omega) (by omega))
  ·rw [if_neg (fun h => c1 (by have := h.1; omega)), List.nil_append]
   exact evNeg c1 (ih (i + 1) _ (by omega) (by omega))
theorem ends_ev (l : List ByteArray) (c : Int) (hl : l.length ≤ 100000) : Ev (fun k => spec_l3Ends.f k l c) (endsL l c) := by
 have := ends_loop l c hl l.length 0 [] (by omega) (by simp)
 rw [List.drop_zero, List.nil_append] at this
 exact this
theorem endsL_length (l : List ByteArray) (c : Int) : (endsL l c).length ≤ l.length := by
 unfold endsL
 rw [List.length_map]
 exact List.length_filter_le _ _
theorem same_loop (a b : List ByteArray) (h : a.length = b.length) (hl : a.length ≤ 100000) (d : Nat) : ∀ i : Nat, i + d = a.length → Ev (fun k => spec_l3Same.l0 k a b (i : Int)) (decide (a.drop i = b.drop i)) := by
 induction d with
 | zero =>
  intro i hi
  refine Ev.step (fun k => spec_l3Same.l0.eq_2 ..) (eN (evTo (Ev.now _) ?_))
  rw [List.drop_eq_nil_of_le (by omega), List.drop_eq_nil_of_le (by omega)]
  simp
 | succ d ih =>
  intro i hi
  have h1 : i < a.length := by omega
  have h2 : i < b.length := by omega
  refine Ev.step (fun k => spec_l3Same.l0.eq_2 ..) (eP (eP (eP ?_)))
  rw [ba_get a i h1, ba_get b i h2, w6 (n := (i : Int) + 1), List.drop_eq_getElem_cons h1, List.drop_eq_getElem_cons h2]
  by_cases c : a[i] = b[i]
  ·refine evPos (by rw [c]) (evTo (ih (i + 1) (by omega)) ?_)
   rw [c, decide_eq_decide]
   exact ⟨fun h => by rw [h], fun h => (List.cons.inj h).2⟩
  ·exact evNeg (fun e => c ((toList_iff _ _).1 e)) (evTo (Ev.now _) (decide_eq_false (fun e => c (List.cons.inj e).1)).symm)
theorem same_ev (a b : List ByteArray) (ha : a.length ≤ 100000) : Ev (fun k => spec_l3Same.f k a b) (decide (a = b)) := by
 unfold spec_l3Same.f
 by_cases h : a.length = b.length
 ·refine eP ?_
  have := same_loop a b h ha a.length 0 (by omega)
  rw [List.drop_zero, List.drop_zero] at this
  exact this
 ·refine eN (evTo (Ev.now _) ?_)
  rw [decide_eq_false]
  rintro rfl
  exact h rfl
theorem rls_get (l : List (List ByteArray)) (i : Nat) (h : i < l.length) : rd_L1 l (i : Int) = l[i] := by simp [rd_L1, List.getD_eq_getElem?_getD, h]
abbrev RowsZ (l : List (List ByteArray)) : Prop := ∀ x ∈ l, x.length ≤ 100000
def chainL (l : List ByteArray) (p : List Int) : List ByteArray := p.foldl endsL l
theorem ends_mem {l : List ByteArray} {c : Int} {t : ByteArray} (h : t ∈ endsL l c) : ∃ w ∈ l, bytesOf w = c :: bytesOf t := by
 unfold endsL at h
 obtain ⟨w, hw, rfl⟩ := List.mem_map.1 h
 obtain ⟨h1, h2⟩ := List.mem_filter.1 hw
 simp only [Bool.and_eq_true, decide_eq_true_eq] at h2
 refine ⟨w, h1, ?_⟩
 have := bytes_drop w 0 (by omega) (by omega)
 rw [show (0 : Int).toNat = 0 from rfl, List.drop_zero, show ((0 : Int) + 1).toNat = 1 from rfl, h2.2] at this
 rw [bytes_take_all]
 exact this
theorem chain_mem : ∀ (p : List Int) (l : List ByteArray) (t : ByteArray), t ∈ chainL l p → ∃ w ∈ l, bytesOf w = p ++ bytesOf t := by
 intro p
 induction p with
 | nil => exact fun l t h => ⟨t, h, rfl⟩
 | cons c p ih =>
  intro l t h
  obtain ⟨u, hu, h1⟩ := ih (endsL l c) t h
  obtain ⟨w, hw, h2⟩ := ends_mem hu
  exact ⟨w, hw, by rw [h2, h1]; rfl⟩
theorem chain_length (p : List Int) : ∀ l : List ByteArray, (chainL l p).length ≤ l.length := by
 induction p with
 | nil => exact fun l => Nat.le_refl _
 | cons c p ih => exact fun l => Nat.le_trans (ih (endsL l c)) (endsL_length l c)
theorem chain_snoc (l : List ByteArray) (p : List Int) (c : Int) : chainL l (p ++ [c]) = endsL (chainL l p) c := by
 unfold chainL
 rw [List.foldl_append]
 rfl
def begs (l : List ByteArray) : List (List Int) := l.flatMap (fun w => (List.range (w.size + 1)).map (fun n => (bytesOf w).take n))
theorem begs_length (l : List ByteArray) (n : Nat) (h : ∀ w ∈ l, w.size ≤ n) : (begs l).length ≤ (n + 1) * l.length := by
 induction l with
 | nil => simp [begs]
 | cons w l ih =>
  have h1 := ih (fun x hx => h x (List.mem_cons_of_mem _ hx))
  have h2 := h w List.mem_cons_self
  unfold begs at h1 ⊢
  rw [List.flatMap_cons, List.length_append, List.length_map, List.length_range, List.length_cons, Nat.mul_add]
  omega
structure AllOk (ws : List ByteArray) (out : List (List ByteArray)) : Prop where
 nodup : out.Nodup
 from_ : ∀ x ∈ out, ∃ p, x = chainL ws p ∧ (p = [] ∨ x ≠ [])
theorem chain_begs {ws : List ByteArray} {p : List Int} (h : p = [] ∨ chainL ws p ≠ []) : p ∈ ([] : List Int) :: begs ws := by
 rcases h with rfl | h
 ·exact List.mem_cons_self
 ·obtain ⟨t, ht⟩ := List.exists_mem_of_ne_nil _ h
  obtain ⟨w, hw, hb⟩ := chain_mem p ws t ht
  refine List.mem_cons_of_mem _ (List.mem_flatMap.2 ⟨w, hw, List.mem_map.2 ⟨p.length, List.mem_range.2 ?_, ?_⟩⟩)
  ·rw [← bytesOf_length, hb, List.length_append]
   omega
  ·rw [hb, List.take_left]
theorem allOk_length {ws : List ByteArray} {out : List (List ByteArray)} (h : AllOk ws out) (hl : ws.length ≤ 300) (hz : ∀ w ∈ ws, w.size ≤ 12) : out.length ≤ 4000 := by
 have h1 := nodup_le out ((([] : List Int) :: begs ws).map (chainL ws)) h.nodup (fun x hx => by
  obtain ⟨p, rfl, hp⟩ := h.from_ x hx
  exact List.mem_map_of_mem (chain_begs hp))
 have h2 := begs_length ws 12 hz
 rw [List.length_map, List.length_cons] at h1
 omega
theorem allOk_rows {ws : List ByteArray} {out : List (List ByteArray)} (h : AllOk ws out) (hl : ws.length ≤ 300) : RowsZ out := by
 intro x hx
 obtain ⟨p, rfl, _⟩ := h.from_ x hx
 have := chain_length p ws
 omega
theorem allOk_put {ws : List ByteArray} {out : List (List ByteArray)} (h : AllOk ws out) (i : Nat) (hi : i < out.length) (c : Int) (hne : endsL out[i] c ≠ []) (hn : endsL out[i] c ∉ out) : AllOk ws (out ++ [endsL out[i] c]) := by
 obtain ⟨p, hp, _⟩ := h.from_ _ (List.getElem_mem hi)
 refine ⟨?_, fun x hx => ?_⟩
 ·rw [List.nodup_append]
  refine ⟨h.nodup, by simp, fun a ha b hb => ?_⟩
  rw [List.mem_singleton.1 hb]
  rintro rfl
  exact hn ha
 ·rcases List.mem_append.1 hx with hx | hx
  ·exact h.from_ x hx
  ·rw [List.mem_singleton.1 hx]
   exact ⟨p ++ [c], by rw [chain_snoc, ← hp], .inr hne⟩
def lngL (v : Int) (l : List ByteArray) : Int := l.foldl (fun v s => max v (s.size : Int)) v
def stLex : List ByteArray → List ByteArray → Bool
 | [], [] => false
 | [], _ :: _ => true
 | _ :: _, [] => false
 | x :: a, y :: b => if x = y then stLex a b else ltS x y
def setLt (a b : List ByteArray) : Bool := if lngL 0 a = lngL 0 b then stLex a b else decide (lngL 0 b < lngL 0 a)
theorem stLex_irrefl : ∀ a, stLex a a = false
 | [] => rfl
 | x :: a => by rw [stLex, if_pos rfl]; exact stLex_irrefl a
theorem stLex_trans : ∀ {a b c : List ByteArray}, stLex a b = true → stLex b c = true → stLex a c = true
 | [], [], _, h, _ => by simp [stLex] at h
 | [], _ :: _, [], _, h => by simp [stLex] at h
 | [], _ :: _, _ :: _, _, _ => rfl
 | _ :: _, [], _, h, _ => by simp [stLex] at h
 | _ :: _, _ :: _, [], _, h => by simp [stLex] at h
 | x :: a, y :: b, z :: c, h, k => by
  rw [stLex] at h k ⊢
  by_cases e1 : x = y
  ·subst e1
   rw [if_pos rfl] at h
   by_cases e2 : x = z
   ·subst e2
    rw [if_pos rfl] at k ⊢
    exact stLex_trans h k
   ·rw [if_neg e2] at k ⊢
    exact k
  ·rw [if_neg e1] at h
   by_cases e2 : y = z
   ·subst e2
    rw [if_neg e1]
    exact h
   ·rw [if_neg e2] at k
    have hk := ltS_trans h k
    rw [if_neg (ltS_ne hk)]
    exact hk
theorem stLex_total : ∀ {a b : List ByteArray}, stLex a b = false → a ≠ b → stLex b a = true
 | [], [], _, h => absurd rfl h
 | [], _ :: _, h, _ => by simp [stLex] at h
 | _ :: _, [], _, _ => rfl
 | x :: a, y :: b, h, hn => by
  rw [stLex] at h ⊢
  by_cases e : x = y
  ·subst e
   rw [if_pos rfl] at h ⊢
   exact stLex_total h (fun e => hn (by rw [e]))
  ·rw [if_neg e] at h
   rw [if_neg (Ne.symm e)]
   exact ltS_total h e
theorem setLt_irrefl (a : List ByteArray) : setLt a a = false := by rw [setLt, if_pos rfl]; exact stLex_irrefl a
theorem setLt_trans {a b c : List ByteArray} (h : setLt a b = true) (k : setLt b c = true) : setLt a c = true := by
 unfold setLt at h k ⊢
 by_cases e1 : lngL 0 a = lngL 0 b
 ·rw [if_pos e1] at h
  by_cases e2 : lngL 0 b = lngL 0 c
  ·rw [if_pos e2] at k
   rw [if_pos (e1.trans e2)]
   exact stLex_trans h k
  ·rw [if_neg e2] at k
   rw [e1, if_neg e2]
   exact k
 ·rw [if_neg e1] at h
  have h' := of_decide_eq_true h
  by_cases e2 : lngL 0 b = lngL 0 c
  ·rw [← e2, if_neg e1]
   exact h
  ·rw [if_neg e2] at k
   have k' := of_decide_eq_true k
   rw [if_neg (by omega)]
   exact decide_eq_true (by omega)
theorem setLt_total {a b : List ByteArray} (h : setLt a b = false) (hn : a ≠ b) : setLt b a = true := by
 unfold setLt at h ⊢
 by_cases e : lngL 0 a = lngL 0 b
 ·rw [if_pos e] at h
  rw [if_pos e.symm]
  exact stLex_total h hn
 ·rw [if_neg e] at h
  rw [if_neg (Ne.symm e)]
  have := of_decide_eq_false h
  exact decide_eq_true (by omega)
theorem setLt_ne {a b : List ByteArray} (h : setLt a b = true) : a ≠ b := by
 rintro rfl
 rw [setLt_irrefl] at h
 cases h
theorem setLt_asymm {a b : List ByteArray} (h : setLt a b = true) : setLt b a = false := by
 cases k : setLt b a with
 | false => rfl
 | true => rw [← setLt_irrefl a]; exact (setLt_trans h k).symm
abbrev Srtd (l : List (List ByteArray)) : Prop := l.Pairwise (fun a b => setLt a b = true)
theorem Srtd.nodup {l : List (List ByteArray)} (h : Srtd l) : l.Nodup := h.imp (fun h => setLt_ne h)
theorem srtd_ext {l k : List (List ByteArray)} (h1 : Srtd l) (h2 : Srtd k) (h : ∀ x, x ∈ l ↔ x ∈ k) : l = k := by
 have hp : l.Perm k := (List.perm_ext_iff_of_nodup h1.nodup h2.nodup).2 h
 refine List.Perm.eq_of_pairwise (le := fun a b => setLt a b = true) ?_ h1 h2 hp
 intro a b _ _ h3 h4
 rw [setLt_asymm h3] at h4
 cases h4
theorem lngV_loop (l : List ByteArray) (hl : l.length ≤ 100000) (d : Nat) : ∀ (i : Nat) (v : Int), i + d = l.length → Ev (fun k => spec_l3Long.l0 k l v (i : Int)) (lngL v (l.drop i)) := by
 induction d with
 | zero =>
  intro i v hi
  refine Ev.step (fun k => spec_l3Long.l0.eq_2 ..) (eN (evTo (Ev.now _) ?_))
  rw [List.drop_eq_nil_of_le (by omega)]
  rfl
 | succ d ih =>
  intro i v hi
  have hlt : i < l.length := by omega
  have e1 : wrap64 ((i : Int) + 1) = ((i + 1 : Nat) : Int) := w6
  rw [List.drop_eq_getElem_cons hlt]
  show Ev _ (lngL (max v (l[i].size : Int)) (l.drop (i + 1)))
  refine Ev.step (fun k => spec_l3Long.l0.eq_2 ..) (eP (eP ?_))
  rw [e1, ba_get l i hlt]
  by_cases c : (l[i].size : Int) > v
  ·rw [show max v (l[i].size : Int) = (l[i].size : Int) from by omega]
   exact evPos c (ih (i + 1) _ (by omega))
  ·rw [show max v (l[i].size : Int) = v from by omega]
   exact evNeg c (ih (i + 1) _ (by omega))
theorem lngV_ev (l : List ByteArray) (hl : l.length ≤ 100000) : Ev (fun k => spec_l3Long.f k l) (lngL 0 l) := by
 have := lngV_loop l hl l.length 0 0 (by omega)
 rwa [List.drop_zero] at this
theorem lessV_loop (a b : List ByteArray) (ha : a.length ≤ 100000) (d : Nat) : ∀ i : Nat, i + d = a.length → Ev (fun k => spec_l3Less.l0 k a b (i : Int)) (stLex (a.drop i) (b.drop i)) := by
 induction d with
 | zero =>
  intro i hi
  refine Ev.step (fun k => spec_l3Less.l0.eq_2 ..) (eN (Ev.step (fun k => spec_l3Less.j1.eq_2 ..) (evNeg (by simp) (evTo (Ev.now _) ?_))))
  rw [List.drop_eq_nil_of_le (show a.length ≤ i by omega)]
  rcases Nat.lt_or_ge i b.length with h | h
  ·rw [List.drop_eq_getElem_cons h]
   exact decide_eq_true (by omega)
  ·rw [List.drop_eq_nil_of_le h]
   exact decide_eq_false (by omega)
 | succ d ih =>
  intro i hi
  have hlt : i < a.length := by omega
  have e1 : wrap64 ((i : Int) + 1) = ((i + 1 : Nat) : Int) := w6
  rw [List.drop_eq_getElem_cons hlt]
  by_cases c : (i : Int) < (b.length : Int)
  ·have hlb : i < b.length := by omega
   rw [List.drop_eq_getElem_cons hlb, stLex]
   by_cases c2 : a[i] = b[i]
   ·rw [if_pos c2]
    refine Ev.step (fun k => spec_l3Less.l0.eq_2 ..) (eP (Ev.step (fun k => spec_l3Less.j1.eq_2 ..) (evPos (decide_eq_true c) (eP (eP (eP ?_))))))
    rw [ba_get a i hlt, ba_get b i hlb, e1]
    exact evPos (by rw [c2]) (ih (i + 1) (by omega))
   ·rw [if_neg c2]
    refine Ev.step (fun k => spec_l3Less.l0.eq_2 ..) (eP (Ev.step (fun k => spec_l3Less.j1.eq_2 ..) (evPos (decide_eq_true c) (eP (eP (eP ?_))))))
    rw [ba_get a i hlt, ba_get b i hlb]
    exact evNeg (fun h => c2 ((toList_iff _ _).1 h)) (Ev.now _)
  ·rw [List.drop_eq_nil_of_le (show b.length ≤ i by omega), stLex]
   exact Ev.step (fun k => spec_l3Less.l0.eq_2 ..) (eP (Ev.step (fun k => spec_l3Less.j1.eq_2 ..) (evNeg (by rw [decide_eq_false c]; simp) (evTo (Ev.now _) (decide_eq_false (by omega))))))
theorem lessV_ev (a b : List ByteArray) (ha : a.length ≤ 100000) (hb : b.length ≤ 100000) : Ev (fun k => spec_l3Less.f k a b) (setLt a b) := by
 have hx := lngV_ev a ha
 have hy := lngV_ev b hb
 unfold spec_l3Less.f setLt
 by_cases c : lngL 0 a = lngL 0 b
 ·rw [if_pos c]
  have := lessV_loop a b ha a.length 0 (by omega)
  rw [List.drop_zero, List.drop_zero] at this
  exact Ev.bind hx (Ev.bind hy (evPos c this))
 ·rw [if_neg c]
  exact Ev.bind hx (Ev.bind hy (evNeg c (Ev.bind hx (Ev.bind hy (evTo (Ev.now _) (decide_eq_decide.2 (by omega)))))))
abbrev PutOk (x : List ByteArray) (out out' : List (List ByteArray)) : Prop := out'.Perm (x :: out) ∧ (Srtd out → x ∉ out → Srtd out')
theorem put_ok (x : List ByteArray) (out : List (List ByteArray)) (q : Nat) (hq : q ≤ out.length) (h1 : ∀ y ∈ out.drop q, setLt x y = true) (h2 : Srtd out → x ∉ out → ∀ y ∈ out.take q, setLt y x = true) : PutOk x out (([] ++ out.take q ++ [x]) ++ out.drop q) := by
 refine ⟨?_, fun hs hn => ?_⟩
 ·rw [List.nil_append, List.append_assoc]
  refine (List.perm_append_comm_assoc _ _ _).trans ?_
  rw [List.take_append_drop]
  exact List.Perm.refl _
 ·rw [List.nil_append, List.append_assoc]
  have hs' := hs
  rw [← List.take_append_drop q out] at hs'
  obtain ⟨s1, s2, s3⟩ := List.pairwise_append.1 hs'
  refine List.pairwise_append.2 ⟨s1, List.pairwise_cons.2 ⟨h1, s2⟩, fun a ha b hb => ?_⟩
  rcases List.mem_cons.1 hb with rfl | hb
  ·exact h2 hs hn a ha
  ·exact s3 a ha b hb
theorem sortV_put (all out out' : List (List ByteArray)) (i : Nat) (hi : i < all.length) (ho : out.length = i) (hl : all.length ≤ 100000) (q : Nat) (hq : q ≤ out.length) (he : out' = ([] ++ out.take q ++ [all[i]]) ++ out.drop q) {r : List (List ByteArray)}
  (hr : Ev (fun k => spec_l3Sort.l0 k all out' ((i + 1 : Nat) : Int)) r) : Ev (fun k => spec_l3Sort.j2 k all out (i : Int) (q : Int) false) r := by
 subst he
 refine Ev.step (fun k => spec_l3Sort.j2.eq_2 ..) (evNeg (by simp) (evCall rfl (eP (eP (evCall rfl (evPos (by simp; omega) (evCall rfl (eP (eP (evCall rfl (evPos (by simp; omega) (evCall rfl (evCall rfl (evPos (by simp; omega) ?_))))))))))))))
 rw [rls_get all i hi, Int.toNat_natCast, w6 (n := (i : Int) + 1)]
 exact hr
theorem sortV_find (all out : List (List ByteArray)) (hz : RowsZ all) (hz2 : RowsZ out) (i : Nat) (hi : i < all.length) (ho : out.length = i) (hl : all.length ≤ 100000) {Q : List (List ByteArray) → Prop}
  (next : ∀ out' : List (List ByteArray), PutOk all[i] out out' → ∃ r, Ev (fun k => spec_l3Sort.l0 k all out' ((i + 1 : Nat) : Int)) r ∧ Q r) (q : Nat) : q ≤ out.length → (∀ y ∈ out.drop q, setLt all[i] y = true) → ∃ r, Ev (fun k => spec_l3Sort.l1 k all out (i : Int) (q : Int)) r ∧ Q r := by
 induction q with
 | zero =>
  intro hq h1
  obtain ⟨r, hr, hQ⟩ := next _ (put_ok all[i] out 0 hq h1 (fun _ _ y hy => by simp at hy))
  exact ⟨r, Ev.step (fun k => spec_l3Sort.l1.eq_2 ..) (eN (sortV_put all out _ i hi ho hl 0 (by omega) rfl hr)), hQ⟩
 | succ q ih =>
  intro hq h1
  have e1 : wrap64 (((q + 1 : Nat) : Int) - 1) = (q : Int) := by rw [w6]; omega
  have hqo : q < out.length := by omega
  have hb := lessV_ev all[i] out[q] (hz _ (List.getElem_mem hi)) (hz2 _ (List.getElem_mem hqo))
  have start : ∀ r, Ev (fun k => spec_l3Sort.j2 k all out (i : Int) ((q + 1 : Nat) : Int) (setLt all[i] out[q])) r → Ev (fun k => spec_l3Sort.l1 k all out (i : Int) ((q + 1 : Nat) : Int)) r := by
   intro r hr
   refine Ev.step (fun k => spec_l3Sort.l1.eq_2 ..) (eP (eP (eP ?_)))
   rw [e1, rls_get all i hi, rls_get out q hqo]
   exact eP (eP (Ev.bind hb hr))
  cases hb' : setLt all[i] out[q] with
  | true =>
   obtain ⟨r, hr, hQ⟩ := ih (by omega) (fun y hy => by
    rw [List.drop_eq_getElem_cons hqo] at hy
    rcases List.mem_cons.1 hy with rfl | hy
    ·exact hb'
    ·exact h1 y hy)
   refine ⟨r, start r ?_, hQ⟩
   rw [hb']
   refine Ev.step (fun k => spec_l3Sort.j2.eq_2 ..) (evPos rfl ?_)
   rw [e1]
   exact hr
  | false =>
   obtain ⟨r, hr, hQ⟩ := next _ (put_ok all[i] out (q + 1) hq h1 (fun hs hn y hy => by
    have hne : all[i] ≠ out[q] := fun e => hn (e ▸ List.getElem_mem hqo)
    have hlt := setLt_total hb' hne
    obtain ⟨j, hj, rfl⟩ := List.mem_iff_getElem.1 hy
    rw [List.length_take] at hj
    rw [List.getElem_take]
    rcases Nat.lt_or_ge j q with hjq | hjq
    ·exact setLt_trans (List.pairwise_iff_getElem.1 hs j q (by omega) hqo hjq) hlt
    ·have : j = q := by omega
     subst this
     exact hlt))
   refine ⟨r, start r ?_, hQ⟩
   rw [hb']
   exact sortV_put all out _ i hi ho hl (q + 1) (by omega) rfl hr
theorem sortV_loop (all : List (List ByteArray)) (hz : RowsZ all) (hl : all.length ≤ 100000) (hn : all.Nodup) (d : Nat) : ∀ (i : Nat) (out : List (List ByteArray)), i + d = all.length → out.Perm (all.take i) → Srtd out →
  ∃ r, Ev (fun k => spec_l3Sort.l0 k all out (i : Int)) r ∧ (r.Perm all ∧ Srtd r) := by
 induction d with
 | zero =>
  intro i out hi hp hs
  have hlen := hp.length_eq
  rw [List.length_take] at hlen
  rw [List.take_of_length_le (by omega)] at hp
  exact ⟨out, Ev.step (fun k => spec_l3Sort.l0.eq_2 ..) (eN (Ev.now _)), hp, hs⟩
 | succ d ih =>
  intro i out hi hp hs
  have hlt : i < all.length := by omega
  have hlen := hp.length_eq
  rw [List.length_take] at hlen
  have hno : all[i] ∉ out := by
   intro h
   obtain ⟨j, hj, e⟩ := List.mem_iff_getElem.1 (hp.mem_iff.1 h)
   rw [List.length_take] at hj
   rw [List.getElem_take] at e
   have := (List.getElem_inj (h₀ := by omega) (h₁ := hlt) hn).1 e
   omega
  obtain ⟨r, hr, hQ⟩ := sortV_find all out hz (fun x hx => hz x (List.mem_of_mem_take (hp.mem_iff.1 hx))) i hlt (by omega) hl (fun out' h => ih (i + 1) out' (by omega) (by
   refine h.1.trans ?_
   rw [List.take_succ_eq_append_getElem hlt]
   exact ((List.Perm.cons _ hp).trans (List.perm_append_singleton _ _).symm)) (h.2 hs hno)) out.length (Nat.le_refl _) (by simp)
  rw [show (out.length : Int) = ((out.length : Nat) : Int) from rfl] at hr
  exact ⟨r, Ev.step (fun k => spec_l3Sort.l0.eq_2 ..) (evPos (by omega) hr), hQ⟩
theorem sortV_ev (all : List (List ByteArray)) (hz : RowsZ all) (hl : all.length ≤ 100000) (hn : all.Nodup) : ∃ r, Ev (fun k => spec_l3Sort.f k all) r ∧ (r.Perm all ∧ Srtd r) := sortV_loop all hz hl hn all.length 0 [] (by omega) (by simp) List.Pairwise.nil
def InS (ws x : List ByteArray) : Prop := x = ws ∨ (x ≠ [] ∧ ∃ p, x = chainL ws p)
theorem inS_ends {ws x : List ByteArray} (h : InS ws x) (c : Int) (hne : endsL x c ≠ []) : InS ws (endsL x c) := by
 rcases h with rfl | ⟨_, p, rfl⟩
 ·exact .inr ⟨hne, [c], rfl⟩
 ·exact .inr ⟨hne, p ++ [c], (chain_snoc _ _ _).symm⟩
theorem chain_nil : ∀ p : List Int, chainL [] p = []
 | [] => rfl
 | c :: p => chain_nil p
theorem ends_letter {ws : List ByteArray} (hw : ∀ w ∈ ws, wordB w = true) {p : List Int} {c : Int} (h : endsL (chainL ws p) c ≠ []) : 97 ≤ c ∧ c ≤ 122 := by
 rw [← chain_snoc] at h
 obtain ⟨t, ht⟩ := List.exists_mem_of_ne_nil _ h
 obtain ⟨w, hw1, hb⟩ := chain_mem _ _ _ ht
 have := ((wordL_iff _).1 (hw w hw1)).2.2 c (by rw [hb]; simp)
 exact this
theorem closed_all {ws : List ByteArray} (hw : ∀ w ∈ ws, wordB w = true) {out : List (List ByteArray)} (h0 : ws ∈ out) (hc : ∀ x ∈ out, ∀ c : Int, 97 ≤ c → c ≤ 122 → endsL x c = [] ∨ endsL x c ∈ out) : ∀ x, InS ws x → x ∈ out := by
 have key : ∀ n (p : List Int), p.length = n → chainL ws p ≠ [] ∨ p = [] → chainL ws p ∈ out := by
  intro n
  induction n with
  | zero =>
   intro p hp _
   rw [List.length_eq_zero_iff.1 hp]
   exact h0
  | succ n ih =>
   intro p hp h
   obtain ⟨q, c, rfl⟩ : ∃ q c, p = q ++ [c] := ⟨p.dropLast, p.getLast (by intro e; simp [e] at hp), (List.dropLast_concat_getLast _).symm⟩
   rw [chain_snoc] at h ⊢
   have h := h.resolve_right (by simp)
   have hq : chainL ws q ∈ out := ih q (by simpa using hp) (by
    by_cases e : chainL ws q = []
    ·rw [e] at h
     exact absurd rfl h
    ·exact .inl e)
   obtain ⟨l1, l2⟩ := ends_letter hw h
   exact (hc _ hq c l1 l2).resolve_left h
 rintro x (rfl | ⟨hne, p, rfl⟩)
 ·exact h0
 ·exact key p.length p rfl (.inl hne)
abbrev Shut (out : List (List ByteArray)) (i : Nat) : Prop := ∀ j (hj : j < out.length), j < i → ∀ c : Int, 97 ≤ c → c ≤ 122 → endsL out[j] c = [] ∨ endsL out[j] c ∈ out
theorem shut_put {out : List (List ByteArray)} {i : Nat} (h : Shut out i) (hi : i ≤ out.length) (x : List ByteArray) : Shut (out ++ [x]) i := by
 intro j hj hji c h1 h2
 have hj' : j < out.length := by omega
 rw [List.getElem_append_left hj']
 rcases h j hj' hji c h1 h2 with h | h
 ·exact .inl h
 ·exact .inr (List.mem_append_left _ h)
theorem allV_known (out : List (List ByteArray)) (h : RowsZ out) (hl : out.length ≤ 5000) (i : Nat) (c : Int) (x : List ByteArray) (d : Nat) : ∀ (j : Nat) (b : Bool), j + d = out.length → ∃ q : Bool, ((q = true → b = true ∨ x ∈ out) ∧ (q = false → b = false ∧ x ∉ out.drop j)) ∧
  ∀ r, Ev (fun k => if q = true then spec_l3All.l1 k out (i : Int) ((c + 1) % 256) else spec_l3All.l1 k (out ++ [x]) (i : Int) ((c + 1) % 256)) r → Ev (fun k => spec_l3All.l2 k out (i : Int) c x b (j : Int)) r := by
 induction d with
 | zero =>
  intro j b hj
  refine ⟨b, ⟨.inl, fun e => ⟨e, by rw [List.drop_eq_nil_of_le (by omega)]; simp⟩⟩, fun r hr => Ev.step (fun k => spec_l3All.l2.eq_2 ..) (eN ?_)⟩
  cases b with
  | true => exact evPos rfl (by simpa using hr)
  | false => exact evNeg (by simp) (eP (by simpa using hr))
 | succ d ih =>
  intro j b hj
  have hlt : j < out.length := by omega
  have e1 : wrap64 ((j : Int) + 1) = ((j + 1 : Nat) : Int) := w6
  cases b with
  | true =>
   refine ⟨true, ⟨fun _ => .inl rfl, (fun e => by cases e)⟩, fun r hr => Ev.step (fun k => spec_l3All.l2.eq_2 ..) (eP (evPos rfl (by simpa using hr)))⟩
  | false =>
   obtain ⟨q, hq1, hq2⟩ := ih (j + 1) (decide (out[j] = x)) (by omega)
   refine ⟨q, ⟨fun e => .inr ?_, fun e => ⟨rfl, ?_⟩⟩, fun r hr => Ev.step (fun k => spec_l3All.l2.eq_2 ..) (eP (evNeg (by simp) (eP ?_)))⟩
   ·rcases hq1.1 e with h | h
    ·rw [← of_decide_eq_true h]
     exact List.getElem_mem hlt
    ·exact h
   ·rw [List.drop_eq_getElem_cons hlt, List.mem_cons]
    have := hq1.2 e
    rintro (h | h)
    ·have h2 := of_decide_eq_false this.1
     exact h2 h.symm
    ·exact this.2 h
   ·rw [rls_get out j hlt, e1]
    exact Ev.bind (same_ev out[j] x (h _ (List.getElem_mem hlt))) (hq2 r hr)
theorem allV_letters {ws : List ByteArray} (hl : ws.length ≤ 300) (hz : ∀ w ∈ ws, w.size ≤ 12) (i : Nat) {Q : List (List ByteArray) → Prop} (next : ∀ out, AllOk ws out → ws ∈ out → i < out.length → Shut out (i + 1) → ∃ r, Ev (fun k => spec_l3All.l0 k out ((i + 1 : Nat) : Int)) r ∧ Q r) (d : Nat) : ∀ (c : Nat) (out : List (List ByteArray)), 97 ≤ c → c + d = 123 → AllOk ws out → ws ∈ out → ∀ hi : i < out.length,
  Shut out i → (∀ e : Nat, 97 ≤ e → e < c → endsL out[i] (e : Int) = [] ∨ endsL out[i] (e : Int) ∈ out) → ∃ r, Ev (fun k => spec_l3All.l1 k out (i : Int) (c : Int)) r ∧ Q r := by
 induction d with
 | zero =>
  intro c out h1 h2 ho hw hi hs hd
  have hlen := allOk_length ho hl hz
  obtain ⟨r, hr, hQ⟩ := next out ho hw hi (fun j hj hji e h3 h4 => by
   by_cases ej : j = i
   ·subst ej
    obtain ⟨n, rfl⟩ : ∃ n : Nat, e = (n : Int) := ⟨e.toNat, by omega⟩
    exact hd n (by omega) (by omega)
   ·exact hs j hj (by omega) e h3 h4)
  refine ⟨r, Ev.step (fun k => spec_l3All.l1.eq_2 ..) (eN ?_), hQ⟩
  rw [w6 (n := (i : Int) + 1)]
  exact hr
 | succ d ih =>
  intro c out h1 h2 ho hw hi hs hd
  have hlen := allOk_length ho hl hz
  have hrows := allOk_rows ho hl
  have ec : ((c : Int) + 1) % 256 = ((c + 1 : Nat) : Int) := by omega
  have he := ends_ev out[i] (c : Int) (hrows _ (List.getElem_mem hi))
  obtain ⟨q, hq1, hq2⟩ := allV_known out hrows (by omega) i (c : Int) (endsL out[i] (c : Int)) out.length 0 (((endsL out[i] (c : Int)).length : Int) == 0) (by omega)
  rw [ec] at hq2
  have start : ∀ r, Ev (fun k => spec_l3All.l2 k out (i : Int) (c : Int) (endsL out[i] (c : Int)) (((endsL out[i] (c : Int)).length : Int) == 0) 0) r → Ev (fun k => spec_l3All.l1 k out (i : Int) (c : Int)) r := by
   intro r hr
   refine Ev.step (fun k => spec_l3All.l1.eq_2 ..) (eP (eP (eP ?_)))
   rw [rls_get out i hi]
   exact Ev.bind he hr
  cases q with
  | true =>
   have hk : endsL out[i] (c : Int) = [] ∨ endsL out[i] (c : Int) ∈ out := by
    rcases hq1.1 rfl with h | h
    ·left
     have : ((endsL out[i] (c : Int)).length : Int) = 0 := by simpa using h
     exact List.length_eq_zero_iff.1 (by omega)
    ·exact .inr h
   obtain ⟨r, hr, hQ⟩ := ih (c + 1) out (by omega) (by omega) ho hw hi hs (fun e h3 h4 => by
    by_cases e1 : e = c
    ·subst e1
     exact hk
    ·exact hd e h3 (by omega))
   exact ⟨r, start r (hq2 r (by simpa using hr)), hQ⟩
  | false =>
   obtain ⟨g1, g2⟩ := hq1.2 rfl
   rw [List.drop_zero] at g2
   have hne : endsL out[i] (c : Int) ≠ [] := by
    intro e
    rw [e] at g1
    simp at g1
   have hi2 : i < (out ++ [endsL out[i] (c : Int)]).length := by simp; omega
   have e0 : (out ++ [endsL out[i] (c : Int)])[i] = out[i] := List.getElem_append_left hi
   obtain ⟨r, hr, hQ⟩ := ih (c + 1) (out ++ [endsL out[i] (c : Int)]) (by omega) (by omega) (allOk_put ho i hi c hne g2) (List.mem_append_left _ hw) hi2 (shut_put hs (by omega) _) (fun e h3 h4 => by
    rw [e0]
    by_cases e1 : e = c
    ·subst e1
     exact .inr (List.mem_append_right _ (List.mem_singleton.2 rfl))
    ·exact (hd e h3 (by omega)).imp id (List.mem_append_left _))
   exact ⟨r, start r (hq2 r (by simpa using hr)), hQ⟩
theorem allV_loop {ws : List ByteArray} (hl : ws.length ≤ 300) (hw : ∀ w ∈ ws, wordB w = true) (d : Nat) : ∀ (i : Nat) (out : List (List ByteArray)), i + d = 5000 → AllOk ws out → ws ∈ out → Shut out i → ∃ r, Ev (fun k => spec_l3All.l0 k out (i : Int)) r ∧ (Srtd r ∧ ∀ x, x ∈ r ↔ InS ws x) := by
 have hz : ∀ w ∈ ws, w.size ≤ 12 := fun w h => (wordB_size (hw w h)).2
 have fin : ∀ (i : Nat) (out : List (List ByteArray)), ¬ i < out.length → AllOk ws out → ws ∈ out → Shut out i → ∃ r, Ev (fun k => spec_l3All.l0 k out (i : Int)) r ∧ (Srtd r ∧ ∀ x, x ∈ r ↔ InS ws x) := by
  intro i out c ho h0 hs
  have hlen := allOk_length ho hl hz
  obtain ⟨r, hr, h1, h2⟩ := sortV_ev out (allOk_rows ho hl) (by omega) ho.nodup
  refine ⟨r, Ev.step (fun k => spec_l3All.l0.eq_2 ..) (eN (Ev.bind hr (Ev.now _))), h2, fun x => ⟨fun hx => ?_, fun hx => h1.mem_iff.2 (closed_all hw h0 (fun y hy e h3 h4 => ?_) x hx)⟩⟩
  ·obtain ⟨p, hp, hne⟩ := ho.from_ x (h1.mem_iff.1 hx)
   rcases hne with rfl | hne
   ·exact .inl hp
   ·exact .inr ⟨hne, p, hp⟩
  ·obtain ⟨j, hj, rfl⟩ := List.mem_iff_getElem.1 hy
   exact hs j hj (by omega) e h3 h4
 induction d with
 | zero =>
  intro i out hi ho h0 hs
  have hlen := allOk_length ho hl hz
  exact fin i out (by omega) ho h0 hs
 | succ d ih =>
  intro i out hi ho h0 hs
  by_cases c : i < out.length
  ·have hlen := allOk_length ho hl hz
   obtain ⟨r, hr, hQ⟩ := allV_letters hl hz i (fun out' h1 h2 h3 h4 => ih (i + 1) out' (by omega) h1 h2 h4) 26 97 out (by omega) (by omega) ho h0 c hs (fun e h3 h4 => by omega)
   exact ⟨r, Ev.step (fun k => spec_l3All.l0.eq_2 ..) (evPos (by omega) hr), hQ⟩
  ·exact fin i out c ho h0 hs
noncomputable def setsOf (ws : List ByteArray) : List (List ByteArray) := Classical.epsilon (fun A => Srtd A ∧ ∀ x, x ∈ A ↔ InS ws x)
theorem setsOf_eq {ws : List ByteArray} {A : List (List ByteArray)} (h : Srtd A ∧ ∀ x, x ∈ A ↔ InS ws x) : setsOf ws = A := by
 have hs := Classical.epsilon_spec (p := fun A => Srtd A ∧ ∀ x, x ∈ A ↔ InS ws x) ⟨A, h⟩
 exact srtd_ext hs.1 h.1 (fun x => (hs.2 x).trans (h.2 x).symm)
theorem allV_ev (ws : List ByteArray) (hl : ws.length ≤ 300) (hw : ∀ w ∈ ws, wordB w = true) : Ev (fun k => spec_l3All.f k ws) (setsOf ws) ∧ (Srtd (setsOf ws) ∧ ∀ x, x ∈ setsOf ws ↔ InS ws x) := by
 obtain ⟨r, hr, hQ⟩ := allV_loop hl hw 5000 0 [ws] (by omega) ⟨by simp, fun x hx => by rw [List.mem_singleton.1 hx]; exact ⟨[], rfl, .inl rfl⟩⟩ (by simp) (fun j hj h => by omega)
 rw [setsOf_eq hQ]
 exact ⟨hr, hQ⟩
def posL (x : List ByteArray) : List (List ByteArray) → Nat
 | [] => 0
 | y :: ys => if y = x then 0 else posL x ys + 1
theorem posL_lt {x : List ByteArray} : ∀ {l : List (List ByteArray)}, x ∈ l → posL x l < l.length ∧ l[posL x l]? = some x
 | [], h => by cases h
 | y :: ys, h => by
  rw [posL]
  by_cases e : y = x
  ·subst e
   rw [if_pos rfl]
   exact ⟨by simp, rfl⟩
  ·rw [if_neg e]
   have := posL_lt ((List.mem_cons.1 h).resolve_left (Ne.symm e))
   exact ⟨by simp; omega, by simpa using this.2⟩
theorem atV_loop (all : List (List ByteArray)) (x : List ByteArray) (hz : RowsZ all) (hl : all.length ≤ 100000) (d : Nat) : ∀ i : Nat, i + d = all.length → x ∈ all.drop i → Ev (fun k => spec_l3At.l0 k all x (i : Int)) ((i + posL x (all.drop i) : Nat) : Int) := by
 induction d with
 | zero =>
  intro i hi hx
  rw [List.drop_eq_nil_of_le (by omega)] at hx
  cases hx
 | succ d ih =>
  intro i hi hx
  have hlt : i < all.length := by omega
  have hs := same_ev all[i] x (hz _ (List.getElem_mem hlt))
  rw [List.drop_eq_getElem_cons hlt] at hx ⊢
  refine Ev.step (fun k => spec_l3At.l0.eq_2 ..) (eP (eP ?_))
  rw [rls_get all i hlt, posL]
  by_cases c : all[i] = x
  ·rw [if_pos c]
   exact Ev.bind hs (evPos (decide_eq_true c) (Ev.now _))
  ·rw [if_neg c, w6 (n := (i : Int) + 1)]
   refine Ev.bind hs (evNeg (by rw [decide_eq_false c]; simp) (evTo (ih (i + 1) (by omega) ((List.mem_cons.1 hx).resolve_left (Ne.symm c))) ?_))
   omega
theorem atV_ev (all : List (List ByteArray)) (x : List ByteArray) (hz : RowsZ all) (hl : all.length ≤ 100000) (hx : x ∈ all) : Ev (fun k => spec_l3At.f k all x) (posL x all : Int) := by
 have := atV_loop all x hz hl all.length 0 (by omega) hx
 rwa [List.drop_zero, Nat.zero_add] at this
abbrev St := S45
abbrev Eg := S49
def edgesFrom (n i : Int) : Int → List Eg → Bool
 | _, [] => true
 | p, e :: es => (decide (97 ≤ e.f0) && decide (e.f0 ≤ 122)) && (decide (i + 1 ≤ e.f1) && decide (e.f1 ≤ n - 1)) && decide (p < e.f0) && edgesFrom n i e.f0 es
def prevAt (es : List Eg) (k : Int) : Int := if k = 0 then 0 else (rd_T49 es (k - 1)).f0
def stOk (m : List St) (i : Int) : Bool := edgesFrom m.length i 0 (rd_T45 m i).f1 && (decide (i = 0) || (rd_T45 m i).f0 || !(rd_T45 m i).f1.isEmpty)
def deepFold (dp : List Int) : Int → List Eg → Int
 | v, [] => v
 | v, e :: es => deepFold dp (if rd dp e.f1 + 1 > v then rd dp e.f1 + 1 else v) es
def longFold (dp : List Int) : Int → List Eg → Int
 | v, [] => v
 | v, e :: es => longFold dp (if rd dp e.f1 ≥ 0 then mx v (rd dp e.f1 + 1) else v) es
def deepGo (m : List St) : Nat → List Int → List Int
 | 0, dp => dp
 | i + 1, dp => deepGo m i (dp.set i (deepFold dp (rd dp i) (rd_T45 m i).f1))
def longGo (m : List St) : Nat → List Int → Bool
 | 0, dp => decide (rd dp 0 ≤ 12)
 | i + 1, dp => stOk m i && longGo m i (dp.set i (longFold dp (if (rd_T45 m i).f0 = true then 0 else -1) (rd_T45 m i).f1))
def allOk (m : List St) : Nat → Bool
 | 0 => true
 | i + 1 => stOk m i && allOk m i
def machOk (m : List St) : Bool := decide (1 ≤ m.length) && decide (m.length ≤ 400) && allOk m m.length && decide (rd (deepGo m m.length (List.replicate m.length 0)) 0 ≤ 12)
theorem edges_mem {n i p : Int} {es : List Eg} (h : edgesFrom n i p es = true) : ∀ e ∈ es, 97 ≤ e.f0 ∧ e.f0 ≤ 122 ∧ i + 1 ≤ e.f1 ∧ e.f1 ≤ n - 1 ∧ p < e.f0 := by
 induction es generalizing p with
 | nil => intro e he; cases he
 | cons x es ih =>
  simp only [edgesFrom, Bool.and_eq_true, decide_eq_true_eq] at h
  obtain ⟨⟨⟨⟨h1, h2⟩, h3, h4⟩, h5⟩, h6⟩ := h
  intro e he
  rcases List.mem_cons.1 he with rfl | he
  ·exact ⟨h1, h2, h3, h4, h5⟩
  ·obtain ⟨g1, g2, g3, g4, g5⟩ := ih h6 e he
   exact ⟨g1, g2, g3, g4, by omega⟩
theorem allOk_at {m : List St} {n : Nat} (h : allOk m n = true) : ∀ i : Nat, i < n → stOk m i = true := by
 induction n with
 | zero => intro i hi; omega
 | succ n ih =>
  simp only [allOk, Bool.and_eq_true] at h
  intro i hi
  by_cases e : i = n
  ·rw [e]; exact h.1
  ·exact ih h.2 i (by omega)
theorem allOk_of {m : List St} {n : Nat} (h : ∀ i : Nat, i < n → stOk m i = true) : allOk m n = true := by
 induction n with
 | zero => rfl
 | succ n ih =>
  simp only [allOk, Bool.and_eq_true]
  exact ⟨h n (by omega), ih (fun i hi => h i (by omega))⟩
theorem deepFold_bounds {dp : List Int} {b : Int} : ∀ {es : List Eg} {v : Int}, 0 ≤ v → v ≤ b → (∀ e ∈ es, 0 ≤ rd dp e.f1 ∧ rd dp e.f1 + 1 ≤ b) → 0 ≤ deepFold dp v es ∧ deepFold dp v es ≤ b := by
 intro es
 induction es with
 | nil => intro v h0 h1 _; exact ⟨h0, h1⟩
 | cons e es ih =>
  intro v h0 h1 h
  have he := h e List.mem_cons_self
  simp only [deepFold]
  refine ih ?_ ?_ (fun x hx => h x (List.mem_cons_of_mem _ hx)) <;> split <;> omega
theorem longFold_eq {dp dq : List Int} : ∀ {es : List Eg} {v : Int}, 0 ≤ v → (∀ e ∈ es, 0 ≤ rd dp e.f1 ∧ rd dq e.f1 = rd dp e.f1) → longFold dq v es = deepFold dp v es := by
 intro es
 induction es with
 | nil => intro v _ _; rfl
 | cons e es ih =>
  intro v h0 h
  have he := h e List.mem_cons_self
  simp only [longFold, deepFold]
  rw [he.2, if_pos he.1]
  have : mx v (rd dp e.f1 + 1) = if rd dp e.f1 + 1 > v then rd dp e.f1 + 1 else v := by
   unfold mx
   repeat' split
   all_goals omega
  rw [this]
  refine ih ?_ (fun x hx => h x (List.mem_cons_of_mem _ hx))
  split <;> omega
theorem long_deep (m : List St) : ∀ (i : Nat) (dp dq : List Int), i ≤ m.length → dp.length = m.length → dq.length = m.length → (∀ j : Nat, i < m.length → j < i → rd dp j = 0) → (∀ j : Nat, j < i → rd dp j = 0) →
  (∀ j : Nat, 0 < j → i ≤ j → j < m.length → 0 ≤ rd dp j ∧ rd dq j = rd dp j) → (i = 0 → (decide (rd dq 0 ≤ 12)) = decide (rd dp 0 ≤ 12)) →
  longGo m i dq = (allOk m i && decide (rd (deepGo m i dp) 0 ≤ 12)) := by
 intro i
 induction i with
 | zero =>
  intro dp dq _ _ _ _ _ _ h0
  simp only [longGo, allOk, deepGo, Bool.true_and]
  exact h0 rfl
 | succ i ih =>
  intro dp dq hi hp hq _ hz hr _
  simp only [longGo, allOk, deepGo]
  cases e : stOk m i with
  | false => simp
  | true =>
   rw [Bool.true_and, Bool.true_and]
   simp only [stOk, Bool.and_eq_true, Bool.or_eq_true, decide_eq_true_eq] at e
   have hm := edges_mem e.1
   have he : ∀ x ∈ (rd_T45 m i).f1, 0 ≤ rd dp x.f1 ∧ rd dq x.f1 = rd dp x.f1 := by
    intro x hx
    obtain ⟨_, _, g3, g4, _⟩ := hm x hx
    have := hr x.f1.toNat (by omega) (by omega) (by omega)
    rw [show ((x.f1.toNat : Nat) : Int) = x.f1 from by omega] at this
    exact this
   have hz0 : rd dp (i : Int) = 0 := hz i (by omega)
   refine Eq.trans ?_ (congrArg (fun v => allOk m i && decide (rd (deepGo m i (dp.set i (deepFold dp v (rd_T45 m i).f1))) 0 ≤ 12)) hz0.symm)
   have hset (xs : List Int) (v : Int) (hl : xs.length = m.length) (j : Nat) (hj : j < m.length) : rd (xs.set i v) (j : Int) = if j = i then v else rd xs j := by
    by_cases c : j = i
    ·rw [if_pos c, c]
     have := rd_set_eq xs (i : Int) v (by omega) (by omega)
     simpa using this
    ·rw [if_neg c]
     have := rd_set_ne xs (i : Int) (j : Int) v (by omega) (by omega) (by omega)
     simpa using this
   have hd := deepFold_bounds (dp := dp) (b := 1000000000000 + deepFold dp 0 (rd_T45 m i).f1 + (rd_T45 m i).f1.foldl (fun a x => a + (if 0 ≤ rd dp x.f1 then rd dp x.f1 else 0)) 0) (es := (rd_T45 m i).f1) (v := 0)
   have h0d : 0 ≤ deepFold dp 0 (rd_T45 m i).f1 := by
    have key : ∀ (es : List Eg) (v : Int), 0 ≤ v → 0 ≤ deepFold dp v es := by
     intro es
     induction es with
     | nil => intro v h; exact h
     | cons x es ih2 =>
      intro v h
      simp only [deepFold]
      exact ih2 _ (by split <;> omega)
    exact key _ 0 (by omega)
   clear hd
   have hlong : (if (rd_T45 m i).f0 = true then longFold dq 0 (rd_T45 m i).f1 = deepFold dp 0 (rd_T45 m i).f1 else ((rd_T45 m i).f1 = [] ∧ i = 0) ∨ longFold dq (-1) (rd_T45 m i).f1 = deepFold dp 0 (rd_T45 m i).f1) := by
    split
    ·exact longFold_eq (by omega) he
    ·rename_i hend
     cases ees : (rd_T45 m i).f1 with
     | nil =>
      left
      refine ⟨rfl, ?_⟩
      rcases e.2 with (h | h) | h
      ·omega
      ·exact absurd h hend
      ·rw [ees] at h
       simp at h
     | cons x es =>
      right
      rw [ees] at he
      have hx := he x List.mem_cons_self
      simp only [longFold, deepFold]
      rw [hx.2, if_pos hx.1]
      rw [show mx (-1) (rd dp x.f1 + 1) = rd dp x.f1 + 1 from by unfold mx; rw [if_pos (by omega)], if_pos (by omega)]
      exact longFold_eq (by omega) (fun y hy => he y (List.mem_cons_of_mem _ hy))
   refine ih _ _ (by omega) (by simpa using hp) (by simpa using hq) ?_ ?_ ?_ ?_
   ·intro j _ hj
    rw [hset dp _ hp j (by omega), if_neg (by omega)]
    exact hz j (by omega)
   ·intro j hj
    rw [hset dp _ hp j (by omega), if_neg (by omega)]
    exact hz j (by omega)
   ·intro j hj0 hij hj
    rw [hset dp _ hp j hj, hset dq _ hq j hj]
    by_cases c : j = i
    ·rw [if_pos c, if_pos c]
     refine ⟨h0d, ?_⟩
     by_cases ce : (rd_T45 m i).f0 = true
     ·rw [if_pos ce] at hlong ⊢
      exact hlong
     ·rw [if_neg ce] at hlong ⊢
      rcases hlong with h | h
      ·omega
      ·exact h
    ·rw [if_neg c, if_neg c]
     exact hr j hj0 (by omega) hj
   ·intro hi0
    subst hi0
    have h1 := hset dp (deepFold dp 0 (rd_T45 m 0).f1) hp 0 (by omega)
    have h2 := hset dq (longFold dq (if (rd_T45 m 0).f0 = true then 0 else -1) (rd_T45 m 0).f1) hq 0 (by omega)
    rw [if_pos rfl] at h1 h2
    have h1' : rd (dp.set 0 (deepFold dp 0 (rd_T45 m 0).f1)) 0 = deepFold dp 0 (rd_T45 m 0).f1 := h1
    have h2' : rd (dq.set 0 (longFold dq (if (rd_T45 m 0).f0 = true then 0 else -1) (rd_T45 m 0).f1)) 0 = longFold dq (if (rd_T45 m 0).f0 = true then 0 else -1) (rd_T45 m 0).f1 := h2
    refine (congrArg (fun z => decide (z ≤ 12)) h2').trans (Eq.trans ?_ (congrArg (fun z => decide (z ≤ 12)) h1').symm)
    have hlong' := hlong
    by_cases ce : (rd_T45 m ((0 : Nat) : Int)).f0 = true
    ·rw [if_pos ce] at hlong'
     have : longFold dq (if (rd_T45 m 0).f0 = true then 0 else -1) (rd_T45 m 0).f1 = deepFold dp 0 (rd_T45 m 0).f1 := by
      rw [if_pos (show (rd_T45 m 0).f0 = true from ce)]
      exact hlong'
     rw [this]
    ·rw [if_neg ce] at hlong'
     have e1 : (if (rd_T45 m 0).f0 = true then (0 : Int) else -1) = -1 := if_neg ce
     rw [e1]
     rcases hlong' with h | h
     ·have h' : (rd_T45 m 0).f1 = [] := h.1
      rw [h']
      simp [longFold, deepFold]
     ·have h' : longFold dq (-1) (rd_T45 m 0).f1 = deepFold dp 0 (rd_T45 m 0).f1 := h
      rw [h']
theorem longGo_ok (m : List St) (h : 1 ≤ m.length) : longGo m m.length (List.replicate m.length 0) = (allOk m m.length && decide (rd (deepGo m m.length (List.replicate m.length 0)) 0 ≤ 12)) := by
 refine long_deep m m.length _ _ (Nat.le_refl _) (by simp) (by simp) (fun j hj _ => absurd hj (by omega)) (fun j hj => rd_replicate _ _ _ (by omega) (by omega)) (fun j _ h1 h2 => absurd h2 (by omega)) (fun h0 => by omega)
def lexB : List Int → List Int → Bool
 | _, [] => false
 | [], _ :: _ => true
 | a :: x, b :: y => decide (a < b) || (a == b && lexB x y)
theorem less_lexB : ∀ x y : List UInt8, Op.bytesLess x y = lexB (x.map (fun b => (b.toNat : Int))) (y.map (fun b => (b.toNat : Int)))
 | [], [] => rfl
 | [], _ :: _ => rfl
 | _ :: _, [] => rfl
 | a :: x, b :: y => by
  simp only [Op.bytesLess, List.map_cons, lexB, less_lexB x y]
  congr 1
  ·rw [decide_eq_decide, UInt8.lt_iff_toNat_lt]
   omega
  ·congr 1
   rw [Bool.eq_iff_iff, beq_iff_eq, beq_iff_eq]
   constructor
   ·rintro rfl
    rfl
   ·intro h
    exact UInt8.toNat_inj.1 (by omega)
theorem ltS_lexB (s t : ByteArray) : Op.bytesLess s.toList t.toList = lexB (bytesOf s) (bytesOf t) := by
 rw [less_lexB, Go.ByteArray.toList_eq, Go.ByteArray.toList_eq]
 rfl
structure SetOk (x : List ByteArray) : Prop where
 asc : Asc x
 len : x.length ≤ 300
 txt : ∀ s ∈ x, s.size ≤ 12 ∧ ∀ c ∈ bytesOf s, 97 ≤ c ∧ c ≤ 122
theorem bytes_cons {s : ByteArray} (h : 0 < s.size) : bytesOf s = bt s 0 :: bytesOf (s.extract 1 s.size) := by
 have := bytes_drop s 0 (by omega) (by omega)
 rw [show (0 : Int).toNat = 0 from rfl, List.drop_zero, show ((0 : Int) + 1).toNat = 1 from rfl] at this
 rw [bytes_take_all]
 exact this
theorem mem_ends {x : List ByteArray} {c : Int} {t : ByteArray} : t ∈ endsL x c ↔ ∃ s ∈ x, bytesOf s = c :: bytesOf t := by
 refine ⟨ends_mem, fun ⟨s, hs, hb⟩ => ?_⟩
 have hz : 0 < s.size := by rw [← bytesOf_length, hb]; simp
 have h1 := bytes_cons hz
 rw [hb] at h1
 have e1 := (List.cons.inj h1).1
 have e2 := bytes_inj (List.cons.inj h1).2
 unfold endsL
 refine List.mem_map.2 ⟨s, List.mem_filter.2 ⟨hs, ?_⟩, e2.symm⟩
 simp [hz, e1]
theorem wGo_adj (l : List ByteArray) (d : Nat) : ∀ i : Nat, i + d = l.length → wGo l d i = true → ∀ j (h : j + 1 < l.length), i ≤ j + 1 → ltS l[j] l[j + 1] = true := by
 induction d with
 | zero => intro i hi _ j h1 h2; omega
 | succ d ih =>
  intro i hi h j h1 h2
  simp only [wGo, Bool.and_eq_true] at h
  by_cases e : i = j + 1
  ·have h3 := h.1.2
   rw [if_pos (by omega), show (i : Int) - 1 = ((j : Nat) : Int) by omega, ba_get l j (by omega), ba_get l i (by omega)] at h3
   subst e
   exact h3
  ·exact ih (i + 1) (by omega) h.2 j h1 (by omega)
theorem adj_asc (l : List ByteArray) (h : ∀ j (h : j + 1 < l.length), ltS l[j] l[j + 1] = true) : Asc l := by
 refine List.pairwise_iff_getElem.2 (fun i j hi hj hij => ?_)
 have key : ∀ d (hd : i + d + 1 < l.length), ltS l[i] l[i + d + 1] = true := by
  intro d
  induction d with
  | zero => intro hd; exact h i hd
  | succ d ih => intro hd; exact ltS_trans (ih (by omega)) (h (i + d + 1) (by omega))
 have := key (j - i - 1) (by omega)
 simpa [show i + (j - i - 1) + 1 = j by omega] using this
theorem set_ws {ws : List ByteArray} (h : wsB ws = true) : SetOk ws := by
 obtain ⟨h1, h2, h3⟩ := ws_facts h
 unfold wsB at h
 rw [Bool.and_eq_true] at h
 exact ⟨adj_asc ws (fun j hj => wGo_adj ws ws.length 0 (by omega) h.1 j hj (by omega)), h1, fun s hs => ⟨h3 s hs, ((wordL_iff _).1 (h2 s hs)).2.2⟩⟩
theorem set_ends {x : List ByteArray} (h : SetOk x) (c : Int) : SetOk (endsL x c) := by
 refine ⟨?_, Nat.le_trans (endsL_length x c) h.len, fun t ht => ?_⟩
 ·unfold endsL
  refine List.pairwise_map.2 (List.Pairwise.imp_of_mem ?_ (h.asc.filter _))
  intro s t hs ht hlt
  simp only [List.mem_filter, Bool.and_eq_true, decide_eq_true_eq] at hs ht
  unfold ltS at hlt ⊢
  rw [ltS_lexB, bytes_cons hs.2.1, bytes_cons ht.2.1, hs.2.2, ht.2.2] at hlt
  rw [ltS_lexB]
  simpa [lexB] using hlt
 ·obtain ⟨s, hs, hb⟩ := mem_ends.1 ht
  have h1 := h.txt s hs
  rw [hb] at h1
  refine ⟨?_, fun d hd => h1.2 d (List.mem_cons_of_mem _ hd)⟩
  have h2 := congrArg List.length hb
  rw [bytesOf_length, List.length_cons, bytesOf_length] at h2
  omega
theorem set_chain (p : List Int) : ∀ {x : List ByteArray}, SetOk x → SetOk (chainL x p) := by
 induction p with
 | nil => exact fun h => h
 | cons c p ih => exact fun h => ih (set_ends h c)
theorem set_in {ws x : List ByteArray} (h : SetOk ws) (hx : InS ws x) : SetOk x := by
 rcases hx with rfl | ⟨_, p, rfl⟩
 ·exact h
 ·exact set_chain p h
def lettersD (x : List ByteArray) (c d : Nat) : List Int := ((List.range' c d).map (fun n : Nat => (n : Int))).filter (fun c => !(endsL x c).isEmpty)
def lettersL (x : List ByteArray) : List Int := lettersD x 97 26
theorem letters_mem (x : List ByteArray) (c : Int) : c ∈ lettersL x ↔ (97 ≤ c ∧ c ≤ 122) ∧ endsL x c ≠ [] := by
 unfold lettersL lettersD
 rw [List.mem_filter, List.mem_map]
 constructor
 ·rintro ⟨⟨n, hn, rfl⟩, h⟩
  have hn2 := List.mem_range'_1.1 hn
  exact ⟨by omega, by simpa using h⟩
 ·rintro ⟨h1, h2⟩
  exact ⟨⟨c.toNat, List.mem_range'_1.2 ⟨by omega, by omega⟩, by omega⟩, by simpa using h2⟩
theorem letters_asc (x : List ByteArray) : (lettersL x).Pairwise (· < ·) := by
 unfold lettersL lettersD
 refine List.Pairwise.filter _ (List.pairwise_map.2 ((List.pairwise_lt_range' ).imp ?_))
 intro a b h
 omega
theorem ends_ne {x : List ByteArray} {c : Int} : endsL x c ≠ [] ↔ ∃ s ∈ x, 0 < s.size ∧ bt s 0 = c := by
 constructor
 ·intro h
  obtain ⟨t, ht⟩ := List.exists_mem_of_ne_nil _ h
  obtain ⟨s, hs, hb⟩ := mem_ends.1 ht
  have hz : 0 < s.size := by rw [← bytesOf_length, hb]; simp
  rw [bytes_cons hz] at hb
  exact ⟨s, hs, hz, (List.cons.inj hb).1⟩
 ·rintro ⟨s, hs, hz, rfl⟩ e
  have : s.extract 1 s.size ∈ endsL x (bt s 0) := mem_ends.2 ⟨s, hs, bytes_cons hz⟩
  rw [e] at this
  cases this
theorem letter_in {x : List ByteArray} (h : SetOk x) {c : Int} (hc : endsL x c ≠ []) : 97 ≤ c ∧ c ≤ 122 := by
 obtain ⟨s, hs, hz, rfl⟩ := ends_ne.1 hc
 exact (h.txt s hs).2 _ (by rw [bytes_cons hz]; exact List.mem_cons_self)
def flStep (out : List Int) (s : ByteArray) : List Int := if s.size = 0 then out else if out.getLast? = some (bt s 0) then out else out ++ [bt s 0]
theorem last_max {out : List Int} (h : out.Pairwise (· < ·)) {l : Int} (hl : out.getLast? = some l) : l ∈ out ∧ ∀ c ∈ out, c ≤ l := by
 have hne : out ≠ [] := by rintro rfl; simp at hl
 have e : out.getLast hne = l := by rw [List.getLast?_eq_some_getLast hne] at hl; exact Option.some.inj hl
 rw [← List.dropLast_concat_getLast hne, e] at h ⊢
 rw [List.pairwise_append] at h
 refine ⟨by simp, fun c hc => ?_⟩
 rcases List.mem_append.1 hc with hc | hc
 ·have := h.2.2 c hc l (by simp)
  omega
 ·have := List.mem_singleton.1 hc
  omega
theorem fl_facts : ∀ (x : List ByteArray) (out : List Int), Asc x → out.Pairwise (· < ·) → (∀ c ∈ out, ∀ s ∈ x, 0 < s.size → c ≤ bt s 0) →
  (x.foldl flStep out).Pairwise (· < ·) ∧ ∀ c, c ∈ x.foldl flStep out ↔ c ∈ out ∨ ∃ s ∈ x, 0 < s.size ∧ bt s 0 = c
 | [], out, _, ho, _ => ⟨ho, fun c => by simp⟩
 | s :: x, out, ha, ho, hc => by
  rw [List.foldl_cons]
  obtain ⟨ha1, ha2⟩ := List.pairwise_cons.1 ha
  have hb : ∀ t ∈ x, 0 < s.size → 0 < t.size → bt s 0 ≤ bt t 0 := by
   intro t ht h1 h2
   have h3 := ha1 t ht
   unfold ltS at h3
   rw [ltS_lexB, bytes_cons h1, bytes_cons h2] at h3
   simp only [lexB, Bool.or_eq_true, decide_eq_true_eq, Bool.and_eq_true, beq_iff_eq] at h3
   omega
  by_cases z : s.size = 0
  ·have e : flStep out s = out := by unfold flStep; rw [if_pos z]
   rw [e]
   obtain ⟨g1, g2⟩ := fl_facts x out ha2 ho (fun c h t ht => hc c h t (List.mem_cons_of_mem _ ht))
   refine ⟨g1, fun c => (g2 c).trans ⟨fun h => h.imp id (fun ⟨t, ht, h⟩ => ⟨t, List.mem_cons_of_mem _ ht, h⟩), ?_⟩⟩
   rintro (h | ⟨t, ht, h1, h2⟩)
   ·exact .inl h
   ·rcases List.mem_cons.1 ht with rfl | ht
    ·omega
    ·exact .inr ⟨t, ht, h1, h2⟩
  ·by_cases l : out.getLast? = some (bt s 0)
   ·have e : flStep out s = out := by unfold flStep; rw [if_neg z, if_pos l]
    rw [e]
    obtain ⟨g1, g2⟩ := fl_facts x out ha2 ho (fun c h t ht => hc c h t (List.mem_cons_of_mem _ ht))
    refine ⟨g1, fun c => (g2 c).trans ⟨fun h => h.imp id (fun ⟨t, ht, h⟩ => ⟨t, List.mem_cons_of_mem _ ht, h⟩), ?_⟩⟩
    rintro (h | ⟨t, ht, h1, h2⟩)
    ·exact .inl h
    ·rcases List.mem_cons.1 ht with rfl | ht
     ·rw [← h2]
      exact .inl (last_max ho l).1
     ·exact .inr ⟨t, ht, h1, h2⟩
   ·have e : flStep out s = out ++ [bt s 0] := by unfold flStep; rw [if_neg z, if_neg l]
    rw [e]
    have hlt : ∀ c ∈ out, c < bt s 0 := by
     intro c h
     have h1 := hc c h s List.mem_cons_self (by omega)
     by_cases e2 : c = bt s 0
     ·exfalso
      have hne : out ≠ [] := by rintro rfl; cases h
      have h2 := last_max ho (List.getLast?_eq_some_getLast hne)
      have h3 := h2.2 c h
      have h4 := hc _ h2.1 s List.mem_cons_self (by omega)
      exact l (by rw [List.getLast?_eq_some_getLast hne]; congr 1; omega)
     ·omega
    obtain ⟨g1, g2⟩ := fl_facts x (out ++ [bt s 0]) ha2 (List.pairwise_append.2 ⟨ho, by simp, fun a h1 b h2 => by rw [List.mem_singleton.1 h2]; exact hlt a h1⟩) (fun c h t ht hz => by
     rcases List.mem_append.1 h with h | h
     ·exact hc c h t (List.mem_cons_of_mem _ ht) hz
     ·rw [List.mem_singleton.1 h]
      exact hb t ht (by omega) hz)
    refine ⟨g1, fun c => (g2 c).trans ⟨?_, ?_⟩⟩
    ·rintro (h | ⟨t, ht, h⟩)
     ·rcases List.mem_append.1 h with h | h
      ·exact .inl h
      ·exact .inr ⟨s, List.mem_cons_self, by omega, (List.mem_singleton.1 h).symm⟩
     ·exact .inr ⟨t, List.mem_cons_of_mem _ ht, h⟩
    ·rintro (h | ⟨t, ht, h1, h2⟩)
     ·exact .inl (List.mem_append_left _ h)
     ·rcases List.mem_cons.1 ht with rfl | ht
      ·exact .inl (List.mem_append_right _ (by rw [h2]; simp))
      ·exact .inr ⟨t, ht, h1, h2⟩
theorem fl_letters {x : List ByteArray} (h : SetOk x) : x.foldl flStep [] = lettersL x := by
 obtain ⟨g1, g2⟩ := fl_facts x [] h.asc List.Pairwise.nil (by simp)
 have hm : ∀ c, c ∈ x.foldl flStep [] ↔ c ∈ lettersL x := fun c => by
  rw [g2, letters_mem, ends_ne]
  constructor
  ·rintro (h1 | h1)
   ·cases h1
   ·exact ⟨letter_in h (ends_ne.2 h1), h1⟩
  ·exact fun h1 => .inr h1.2
 have n1 : (x.foldl flStep []).Nodup := g1.imp (fun h e => by omega)
 have n2 : (lettersL x).Nodup := (letters_asc x).imp (fun h e => by omega)
 exact List.Perm.eq_of_pairwise (le := fun a b : Int => a < b) (fun a b _ _ h1 h2 => by omega) g1 (letters_asc x) ((List.perm_ext_iff_of_nodup n1 n2).2 hm)
def edgesL (A : List (List ByteArray)) (x : List ByteArray) : List Eg := (lettersL x).map (fun c => ⟨c, (posL (endsL x c) A : Int)⟩)
def stL (A : List (List ByteArray)) (x : List ByteArray) : St := ⟨decide (0 < x.length) && (rdOf ByteArray.empty x 0).toList.isEmpty, edgesL A x⟩
noncomputable def moB (ws : List ByteArray) : List St × Bool := if wsB ws = true then (if (setsOf ws).length > 400 then ([], false) else ((setsOf ws).map (stL (setsOf ws)), true)) else ([], false)
theorem sets_facts {ws : List ByteArray} (h : wsB ws = true) : Ev (fun k => spec_l3All.f k ws) (setsOf ws) ∧ Srtd (setsOf ws) ∧ (∀ x, x ∈ setsOf ws ↔ InS ws x) ∧ (∀ x ∈ setsOf ws, SetOk x) ∧ (setsOf ws).length ≤ 4000 := by
 obtain ⟨h1, h2, h3⟩ := ws_facts h
 obtain ⟨g1, g2, g3⟩ := allV_ev ws h1 h2
 refine ⟨g1, g2, g3, fun x hx => set_in (set_ws h) ((g3 x).1 hx), ?_⟩
 refine allOk_length (ws := ws) ⟨g2.nodup, fun x hx => ?_⟩ h1 h3
 rcases (g3 x).1 hx with rfl | ⟨hne, p, hp⟩
 ·exact ⟨[], rfl, .inl rfl⟩
 ·exact ⟨p, hp, .inr hne⟩
theorem ends_in {ws : List ByteArray} (h : wsB ws = true) {x : List ByteArray} (hx : x ∈ setsOf ws) {c : Int} (hc : endsL x c ≠ []) : endsL x c ∈ setsOf ws :=
 ((sets_facts h).2.2.1 _).2 (inS_ends (((sets_facts h).2.2.1 _).1 hx) c hc)
theorem lettersD_succ (x : List ByteArray) (c d : Nat) : lettersD x c (d + 1) = (if endsL x (c : Int) = [] then [] else [(c : Int)]) ++ lettersD x (c + 1) d := by
 unfold lettersD
 rw [List.range'_succ, List.map_cons, List.filter_cons]
 by_cases e : endsL x (c : Int) = []
 ·simp [e]
 ·simp [e]
theorem ofV_letters {ws : List ByteArray} (h : wsB ws = true) (hA : (setsOf ws).length ≤ 400) (out : List St) (b : Bool) (i : Nat) (hi : i < (setsOf ws).length) (ho : out.length = i) {r : List St × Bool} (d : Nat) : ∀ (c : Nat) (es : List Eg), 97 ≤ c → c + d = 123 → es.length + d ≤ 26 →
  Ev (fun k => spec_MachineOf.l0 k (setsOf ws) (out ++ [⟨b, es ++ (lettersD (setsOf ws)[i] c d).map (fun c => (⟨c, (posL (endsL (setsOf ws)[i] c) (setsOf ws) : Int)⟩ : Eg))⟩]) ((i + 1 : Nat) : Int)) r →
  Ev (fun k => spec_MachineOf.l1 k (setsOf ws) out (i : Int) (c : Int) b es) r := by
 obtain ⟨_, hs, hin, hok, _⟩ := sets_facts h
 have hz : RowsZ (setsOf ws) := fun x hx => by have := (hok x hx).len; omega
 induction d with
 | zero =>
  intro c es h1 h2 h3 hr
  refine Ev.step (fun k => spec_MachineOf.l1.eq_2 ..) (eN (eP ?_))
  rw [w6 (n := (i : Int) + 1)]
  simpa [lettersD] using hr
 | succ d ih =>
  intro c es h1 h2 h3 hr
  have ec : ((c : Int) + 1) % 256 = ((c + 1 : Nat) : Int) := by omega
  have he := ends_ev (setsOf ws)[i] (c : Int) (hz _ (List.getElem_mem hi))
  rw [lettersD_succ] at hr
  refine Ev.step (fun k => spec_MachineOf.l1.eq_2 ..) (eP (eP (eP ?_)))
  rw [rls_get (setsOf ws) i hi]
  by_cases c1 : endsL (setsOf ws)[i] (c : Int) = []
  ·rw [if_pos c1, List.nil_append] at hr
   refine Ev.bind he (evNeg (by rw [c1]; simp) ?_)
   rw [ec]
   exact ih (c + 1) es (by omega) (by omega) (by omega) hr
  ·rw [if_neg c1] at hr
   have hl : 0 < (endsL (setsOf ws)[i] (c : Int)).length := List.length_pos_iff.2 c1
   refine Ev.bind he (eP (Ev.bind (atV_ev (setsOf ws) _ hz (by omega) (ends_in h (List.getElem_mem hi) c1)) (eP ?_)))
   rw [ec, w6 (n := (c : Int))]
   refine ih (c + 1) _ (by omega) (by omega) (by simp; omega) ?_
   rw [List.append_assoc]
   simpa using hr
theorem ofV_loop {ws : List ByteArray} (h : wsB ws = true) (hA : (setsOf ws).length ≤ 400) (d : Nat) : ∀ (i : Nat) (out : List St), i + d = (setsOf ws).length → out.length = i →
  Ev (fun k => spec_MachineOf.l0 k (setsOf ws) out (i : Int)) (out ++ ((setsOf ws).drop i).map (stL (setsOf ws)), true) := by
 induction d with
 | zero =>
  intro i out hi ho
  refine Ev.step (fun k => spec_MachineOf.l0.eq_2 ..) (eN (evTo (Ev.now _) ?_))
  rw [List.drop_eq_nil_of_le (by omega)]
  simp
 | succ d ih =>
  intro i out hi ho
  have hlt : i < (setsOf ws).length := by omega
  rw [List.drop_eq_getElem_cons hlt, List.map_cons]
  have hn := ih (i + 1) (out ++ [stL (setsOf ws) (setsOf ws)[i]]) (by omega) (by simp; omega)
  rw [List.append_assoc, List.singleton_append] at hn
  have go : ∀ b : Bool, b = (decide (0 < (setsOf ws)[i].length) && (rdOf ByteArray.empty (setsOf ws)[i] 0).toList.isEmpty) → Ev (fun k => spec_MachineOf.l1 k (setsOf ws) out (i : Int) ((97 : Nat) : Int) b []) (out ++ stL (setsOf ws) (setsOf ws)[i] :: ((setsOf ws).drop (i + 1)).map (stL (setsOf ws)), true) := by
   rintro b rfl
   exact ofV_letters h hA out _ i hlt ho 26 97 [] (by omega) (by omega) (by simp) hn
  by_cases c : ((setsOf ws)[i].length : Int) > 0
  ·refine Ev.step (fun k => spec_MachineOf.l0.eq_2 ..) (eP (eP ?_))
   rw [rls_get (setsOf ws) i hlt]
   refine evPos c (eP (go _ ?_))
   rw [decide_eq_true (show 0 < (setsOf ws)[i].length by omega), Bool.true_and]
   generalize (rdOf ByteArray.empty (setsOf ws)[i] 0).toList = l
   cases l <;> rfl
  ·refine Ev.step (fun k => spec_MachineOf.l0.eq_2 ..) (eP (eP ?_))
   rw [rls_get (setsOf ws) i hlt]
   refine evNeg c (go _ ?_)
   rw [decide_eq_false (show ¬ 0 < (setsOf ws)[i].length by omega), Bool.false_and]
theorem moB_spec (ws : List ByteArray) (hl : ws.length ≤ 1048576) (he : ∀ s ∈ ws, s.size ≤ 1048576) : Ev (fun k => spec_MachineOf.f k ws) (moB ws) := by
 have hw := l3Words_ev ws hl he
 unfold spec_MachineOf.f moB
 cases e : wsB ws with
 | false =>
  rw [e] at hw
  exact Ev.bind hw (evNeg (by simp) (Ev.now _))
 | true =>
  rw [e] at hw
  rw [if_pos rfl]
  by_cases c : (setsOf ws).length > 400
  ·rw [if_pos c]
   exact Ev.bind hw (evPos rfl (Ev.bind (sets_facts e).1 (eP (Ev.now _))))
  ·rw [if_neg c]
   have := ofV_loop e (by omega) (setsOf ws).length 0 [] (by omega) rfl
   rw [List.drop_zero, List.nil_append] at this
   exact Ev.bind hw (evPos rfl (Ev.bind (sets_facts e).1 (evNeg (by omega) this)))
theorem behind_loop (l : List ByteArray) (c : Int) (hl : l.length ≤ 100000) (d : Nat) : ∀ (i : Nat) (out : List ByteArray), i + d = l.length → out.length ≤ i → Ev (fun k => impl_behind.l0 k c out l (l.length : Int) (i : Int)) (out ++ endsL (l.drop i) c) := by
 induction d with
 | zero =>
  intro i out hi ho
  refine Ev.step (fun k => impl_behind.l0.eq_2 ..) (eN (evTo (Ev.now _) ?_))
  rw [List.drop_eq_nil_of_le (by omega)]
  simp [endsL]
 | succ d ih =>
  intro i out hi ho
  have hlt : i < l.length := by omega
  have e1 : wrap64 ((i : Int) + 1) = ((i + 1 : Nat) : Int) := w6
  refine Ev.step (fun k => impl_behind.l0.eq_2 ..) (eP (eP (eP ?_)))
  rw [ba_get l i hlt, e1, List.drop_eq_getElem_cons hlt, endsL_cons]
  by_cases c0 : l[i].toList = []
  ·have hz : l[i].size = 0 := by
    rw [Lib.toList_data] at c0
    have := data_length l[i]
    rw [c0] at this
    exact this.symm
   rw [if_neg (fun h => by omega), List.nil_append]
   exact evPos c0 (ih (i + 1) _ (by omega) (by omega))
  ·have hz : 0 < l[i].size := by
    rcases Nat.eq_zero_or_pos l[i].size with h | h
    ·exfalso
     have h2 := data_length l[i]
     rw [h] at h2
     exact c0 (by rw [Lib.toList_data]; exact List.length_eq_zero_iff.1 h2)
    ·exact h
   refine evNeg c0 (eP ?_)
   by_cases c2 : bt l[i] 0 = c
   ·rw [if_pos ⟨hz, c2⟩]
    refine evPos c2 (eP (eP (evTo (ih (i + 1) _ (by omega) (by simp; omega)) ?_)))
    simp
   ·rw [if_neg (fun h => c2 h.2), List.nil_append]
    exact evNeg c2 (ih (i + 1) _ (by omega) (by omega))
theorem behind_ev (l : List ByteArray) (c : Int) (hl : l.length ≤ 100000) : Ev (fun k => impl_behind.f k l c) (endsL l c) := by
 have := behind_loop l c hl l.length 0 [] (by omega) (by simp)
 rw [List.drop_zero, List.nil_append] at this
 exact this
theorem first_loop (l : List ByteArray) (hl : l.length ≤ 100000) (d : Nat) : ∀ (i : Nat) (out : List Int), i + d = l.length → out.length ≤ i → Ev (fun k => impl_firstLetters.l0 k out l (l.length : Int) (i : Int)) ((l.drop i).foldl flStep out) := by
 induction d with
 | zero =>
  intro i out hi ho
  refine Ev.step (fun k => impl_firstLetters.l0.eq_2 ..) (eN (evTo (Ev.now _) ?_))
  rw [List.drop_eq_nil_of_le (by omega)]
  rfl
 | succ d ih =>
  intro i out hi ho
  have hlt : i < l.length := by omega
  have e1 : wrap64 ((i : Int) + 1) = ((i + 1 : Nat) : Int) := w6
  refine Ev.step (fun k => impl_firstLetters.l0.eq_2 ..) (eP (eP (eP ?_)))
  rw [ba_get l i hlt, e1, List.drop_eq_getElem_cons hlt, List.foldl_cons]
  have hzt : l[i].toList = [] ↔ l[i].size = 0 := by
   rw [Lib.toList_data, ← List.length_eq_zero_iff, data_length]
  by_cases c0 : l[i].toList = []
  ·have e : flStep out l[i] = out := by unfold flStep; rw [if_pos (hzt.1 c0)]
   rw [e]
   exact evPos c0 (ih (i + 1) _ (by omega) (by omega))
  ·have hz : ¬ l[i].size = 0 := fun h => c0 (hzt.2 h)
   by_cases c1 : (out.length : Int) = 0
   ·have h0 : out = [] := List.length_eq_zero_iff.1 (by omega)
    subst h0
    have e : flStep [] l[i] = [] ++ [bt l[i] 0] := by unfold flStep; rw [if_neg hz, if_neg nofun]
    rw [e]
    exact evNeg c0 (evPos c1 (eP (eP (ih (i + 1) _ (by omega) (by simp)))))
   ·have hw : wrap64 ((out.length : Int) - 1) = ((out.length - 1 : Nat) : Int) := by
     have := w6 (n := (out.length : Int) - 1)
     omega
    have hlast : out.getLast? = some (rd out ((out.length - 1 : Nat) : Int)) := by
     rw [List.getLast?_eq_getElem?]
     simp [rd, List.getD_eq_getElem?_getD, show out.length - 1 < out.length by omega]
    refine evNeg c0 (evNeg c1 ?_)
    rw [hw]
    by_cases c2 : rd out ((out.length - 1 : Nat) : Int) = bt l[i] 0
    ·have e : flStep out l[i] = out := by unfold flStep; rw [if_neg hz, if_pos (by rw [hlast, c2])]
     rw [e]
     exact eP (eP (eP (evPos c2 (ih (i + 1) _ (by omega) (by omega)))))
    ·have e : flStep out l[i] = out ++ [bt l[i] 0] := by unfold flStep; rw [if_neg hz, if_neg (by rw [hlast]; intro h; exact c2 (Option.some.inj h))]
     rw [e]
     exact eP (eP (eP (evNeg c2 (eP (ih (i + 1) _ (by omega) (by simp; omega))))))
theorem first_ev {x : List ByteArray} (h : SetOk x) : Ev (fun k => impl_firstLetters.f k x) (lettersL x) := by
 have hl := h.len
 have := first_loop x (by omega) x.length 0 [] (by omega) (by simp)
 rw [List.drop_zero, fl_letters h] at this
 exact this
theorem letters_length (x : List ByteArray) : (lettersL x).length ≤ 26 := by
 unfold lettersL lettersD
 refine Nat.le_trans (List.length_filter_le _ _) ?_
 simp
theorem split10 : ∀ (x y T U : List UInt8), (10 : UInt8) ∉ x → (10 : UInt8) ∉ y → (T = [] ∨ ∃ T', T = 10 :: T') → (U = [] ∨ ∃ U', U = 10 :: U') → x ++ T = y ++ U → x = y ∧ T = U
 | [], [], T, U, _, _, _, _, h => ⟨rfl, by simpa using h⟩
 | [], b :: y, T, U, _, hy, hT, _, h => by
  rcases hT with rfl | ⟨T', rfl⟩
  ·simp at h
  ·simp only [List.nil_append, List.cons_append, List.cons.injEq] at h
   exact absurd h.1 (fun e => hy (by rw [e]; simp))
 | a :: x, [], T, U, hx, _, _, hU, h => by
  rcases hU with rfl | ⟨U', rfl⟩
  ·simp at h
  ·simp only [List.nil_append, List.cons_append, List.cons.injEq] at h
   exact absurd h.1 (fun e => hx (by rw [← e]; simp))
 | a :: x, b :: y, T, U, hx, hy, hT, hU, h => by
  simp only [List.cons_append, List.cons.injEq] at h
  obtain ⟨h1, h2⟩ := split10 x y T U (fun e => hx (List.mem_cons_of_mem _ e)) (fun e => hy (List.mem_cons_of_mem _ e)) hT hU h.2
  exact ⟨by rw [h.1, h1], h2⟩
theorem tail10 (r : List (List UInt8)) : Go.Lib.joinTail [10] r = [] ∨ ∃ T', Go.Lib.joinTail [10] r = 10 :: T' := by
 cases r with
 | nil => exact .inl rfl
 | cons z r => exact .inr ⟨_, rfl⟩
theorem tail_inj : ∀ (a b : List (List UInt8)), (∀ s ∈ a, (10 : UInt8) ∉ s) → (∀ s ∈ b, (10 : UInt8) ∉ s) → Go.Lib.joinTail [10] a = Go.Lib.joinTail [10] b → a = b
 | [], [], _, _, _ => rfl
 | [], z :: b, _, _, h => by simp [Go.Lib.joinTail] at h
 | z :: a, [], _, _, h => by simp [Go.Lib.joinTail] at h
 | x :: a, y :: b, ha, hb, h => by
  have e : ∀ (z : List UInt8) (r : List (List UInt8)), Go.Lib.joinTail [10] (z :: r) = 10 :: (z ++ Go.Lib.joinTail [10] r) := fun z r => rfl
  rw [e, e, List.cons.injEq] at h
  obtain ⟨h1, h2⟩ := split10 x y _ _ (ha x List.mem_cons_self) (hb y List.mem_cons_self) (tail10 a) (tail10 b) h.2
  rw [h1, tail_inj a b (fun s hs => ha s (List.mem_cons_of_mem _ hs)) (fun s hs => hb s (List.mem_cons_of_mem _ hs)) h2]
theorem join_inj {a b : List (List UInt8)} (na : a ≠ []) (nb : b ≠ []) (ha : ∀ s ∈ a, (10 : UInt8) ∉ s) (hb : ∀ s ∈ b, (10 : UInt8) ∉ s) (h : Go.Lib.join a [10] = Go.Lib.join b [10]) : a = b := by
 obtain ⟨x, r, rfl⟩ := List.exists_cons_of_ne_nil na
 obtain ⟨y, q, rfl⟩ := List.exists_cons_of_ne_nil nb
 rw [Go.Lib.join_cons, Go.Lib.join_cons] at h
 obtain ⟨h1, h2⟩ := split10 x y _ _ (ha x List.mem_cons_self) (hb y List.mem_cons_self) (tail10 r) (tail10 q) h
 rw [h1, tail_inj r q (fun s hs => ha s (List.mem_cons_of_mem _ hs)) (fun s hs => hb s (List.mem_cons_of_mem _ hs)) h2]
theorem no10 {x : List ByteArray} (h : SetOk x) : ∀ s ∈ x.map (fun s : ByteArray => s.data.toList), (10 : UInt8) ∉ s := by
 intro s hs hm
 obtain ⟨t, ht, rfl⟩ := List.mem_map.1 hs
 have := (h.txt t ht).2 10 (List.mem_map.2 ⟨10, hm, rfl⟩)
 omega
theorem mapd_inj : ∀ {a b : List ByteArray}, a.map (fun s : ByteArray => s.data.toList) = b.map (fun s : ByteArray => s.data.toList) → a = b
 | [], [], _ => rfl
 | [], _ :: _, h => by simp at h
 | _ :: _, [], h => by simp at h
 | x :: a, y :: b, h => by
  rw [List.map_cons, List.map_cons, List.cons.injEq] at h
  rw [mapd_inj h.2, ByteArray.ext (Array.toList_inj.1 h.1)]
theorem jn_inj {x y : List ByteArray} (hx : SetOk x) (hy : SetOk y) (nx : x ≠ []) (ny : y ≠ []) (h : impl_MachineOf.jn x = impl_MachineOf.jn y) : x = y := by
 unfold impl_MachineOf.jn at h
 injection h with h
 have h := Array.toList_inj.2 h
 have h := join_inj (by simpa using nx) (by simpa using ny) (no10 hx) (no10 hy) h
 exact mapd_inj h
theorem lens_le (n : Nat) : ∀ r : List (List UInt8), (∀ s ∈ r, s.length ≤ n) → Go.Lib.lens r ≤ n * r.length
 | [], _ => by simp [Go.Lib.lens]
 | x :: r, h => by
  have h1 := lens_le n r (fun s hs => h s (List.mem_cons_of_mem _ hs))
  have h2 := h x List.mem_cons_self
  simp only [Go.Lib.lens, List.length_cons, Nat.mul_add, List.map_cons, List.sum_cons] at h1 ⊢
  omega
theorem okB_set {x : List ByteArray} (h : SetOk x) (hne : x ≠ []) : impl_MachineOf.okB x = true := by
 have hl := h.len
 have hp := List.length_pos_iff.2 hne
 have hj : (Go.Lib.join (x.map (fun s : ByteArray => s.data.toList)) (⟨#[10]⟩ : ByteArray).data.toList).length ≤ 1000000000 := by
  obtain ⟨s, r, rfl⟩ := List.exists_cons_of_ne_nil hne
  rw [List.map_cons, Go.Lib.join_length]
  have h1 := lens_le 12 (s.data.toList :: r.map (fun s : ByteArray => s.data.toList)) (fun t ht => by
   rw [← List.map_cons (f := fun s : ByteArray => s.data.toList)] at ht
   obtain ⟨u, hu, rfl⟩ := List.mem_map.1 ht
   rw [data_length]
   exact (h.txt u hu).1)
  simp only [List.length_cons, List.length_map, show (⟨#[10]⟩ : ByteArray).data.toList.length = 1 from rfl] at *
  omega
 simp only [impl_MachineOf.okB, Bool.and_eq_true, decide_eq_true_eq]
 exact ⟨⟨hp, by omega⟩, hj⟩
structure Seen (ws : List ByteArray) (sn : List (ByteArray × List ByteArray)) : Prop where
 nod : (sn.map (·.2)).Nodup
 key : ∀ e ∈ sn, e.1 = impl_MachineOf.jn e.2
 in_ : ∀ e ∈ sn, InS ws e.2 ∧ e.2 ≠ []
theorem Seen.length {ws : List ByteArray} (h : wsB ws = true) {sn : List (ByteArray × List ByteArray)} (hs : Seen ws sn) : sn.length ≤ 4000 := by
 obtain ⟨h1, _, h3⟩ := ws_facts h
 have := allOk_length (ws := ws) (out := sn.map (·.2)) ⟨hs.nod, fun x hx => by
  obtain ⟨e, he, rfl⟩ := List.mem_map.1 hx
  rcases (hs.in_ e he).1 with h | ⟨hne, p, hp⟩
  ·exact ⟨[], h, .inl rfl⟩
  ·exact ⟨p, hp, .inr hne⟩⟩ h1 h3
 simpa using this
theorem Seen.any {ws : List ByteArray} (h : wsB ws = true) {sn : List (ByteArray × List ByteArray)} (hs : Seen ws sn) {l : List ByteArray} (hl : InS ws l) (hne : l ≠ []) : sn.any (fun e => e.1.toList == (impl_MachineOf.jn l).toList) = true ↔ l ∈ sn.map (·.2) := by
 rw [List.any_eq_true]
 constructor
 ·rintro ⟨e, he, h1⟩
  have h2 : e.1 = impl_MachineOf.jn l := (toList_iff _ _).1 (by simpa using h1)
  rw [hs.key e he] at h2
  obtain ⟨h3, h4⟩ := hs.in_ e he
  exact List.mem_map.2 ⟨e, he, jn_inj (set_in (set_ws h) h3) (set_in (set_ws h) hl) h4 hne h2⟩
 ·intro hm
  obtain ⟨e, he, rfl⟩ := List.mem_map.1 hm
  exact ⟨e, he, by simp [hs.key e he]⟩
theorem Seen.put {ws : List ByteArray} {sn : List (ByteArray × List ByteArray)} (hs : Seen ws sn) {l : List ByteArray} (hl : InS ws l) (hne : l ≠ []) (c : l ∉ sn.map (·.2)) : Seen ws (sn ++ [(impl_MachineOf.jn l, l)]) := by
 refine ⟨?_, ?_, ?_⟩
 ·rw [List.map_append, List.nodup_append]
  refine ⟨hs.nod, by simp, fun a ha b hb => ?_⟩
  have : b = l := by simpa using hb
  rw [this]
  rintro rfl
  exact c ha
 ·intro e he
  rcases List.mem_append.1 he with he | he
  ·exact hs.key e he
  ·rw [List.mem_singleton.1 he]
 ·intro e he
  rcases List.mem_append.1 he with he | he
  ·exact hs.in_ e he
  ·rw [List.mem_singleton.1 he]
   exact ⟨hl, hne⟩
structure More (ws : List ByteArray) (sn sn' : List (ByteArray × List ByteArray)) : Prop where
 seen : Seen ws sn'
 sub : ∀ x ∈ sn.map (·.2), x ∈ sn'.map (·.2)
 shut : ∀ x ∈ sn'.map (·.2), x ∉ sn.map (·.2) → ∀ c, endsL x c = [] ∨ endsL x c ∈ sn'.map (·.2)
theorem More.refl {ws : List ByteArray} {sn : List (ByteArray × List ByteArray)} (h : Seen ws sn) : More ws sn sn := ⟨h, fun _ h => h, fun x h1 h2 => absurd h1 h2⟩
theorem More.trans {ws : List ByteArray} {a b c : List (ByteArray × List ByteArray)} (h : More ws a b) (k : More ws b c) : More ws a c :=
 ⟨k.seen, fun x hx => k.sub x (h.sub x hx), fun x hx hn e => by
  by_cases hb : x ∈ b.map (·.2)
  ·exact (h.shut x hb hn e).imp id (k.sub _)
  ·exact k.shut x hx hb e⟩
theorem search_ev {ws : List ByteArray} (h : wsB ws = true) (n : Nat) : ∀ (l : List ByteArray) (sn : List (ByteArray × List ByteArray)), InS ws l → l ≠ [] → (∀ s ∈ l, s.size ≤ n) → Seen ws sn →
  ∃ sn', Ev (fun k => impl_MachineOf.g k sn l) sn' ∧ More ws sn sn' ∧ l ∈ sn'.map (·.2) := by
 induction n with
 | zero =>
  intro l sn hl hne hz hs
  have hok := set_in (set_ws h) hl
  have hlen := hs.length h
  by_cases c : l ∈ sn.map (·.2)
  ·exact ⟨sn, Ev.step (fun k => impl_MachineOf.g.eq_2 ..) (evPos ⟨okB_set hok hne, by omega⟩ (evPos ((hs.any h hl hne).2 c) (Ev.now _))), More.refl hs, c⟩
  ·have hlet : lettersL l = [] := by
    refine List.eq_nil_iff_forall_not_mem.2 (fun c hc => ?_)
    obtain ⟨s, hs2, hz2, _⟩ := ends_ne.1 ((letters_mem l c).1 hc).2
    have := hz s hs2
    omega
   have hf := first_ev hok
   rw [hlet] at hf
   refine ⟨sn ++ [(impl_MachineOf.jn l, l)], Ev.step (fun k => impl_MachineOf.g.eq_2 ..) (evPos ⟨okB_set hok hne, by omega⟩ (evNeg (fun e => c ((hs.any h hl hne).1 e)) (Ev.bind hf (Ev.now _)))), ⟨hs.put hl hne c, ?_, ?_⟩, ?_⟩
   ·intro x hx
    rw [List.map_append]
    exact List.mem_append_left _ hx
   ·intro x hx hn e
    rw [List.map_append] at hx
    rcases List.mem_append.1 hx with hx | hx
    ·exact absurd hx hn
    ·have hxl : x = l := by simpa using hx
     subst hxl
     left
     by_cases hc : endsL x e = []
     ·exact hc
     ·have := (letters_mem x e).2 ⟨letter_in hok hc, hc⟩
      rw [hlet] at this
      cases this
   ·rw [List.map_append]
    exact List.mem_append_right _ (by simp)
 | succ n ih =>
  intro l sn hl hne hz hs
  have hok := set_in (set_ws h) hl
  have hlen := hs.length h
  by_cases c : l ∈ sn.map (·.2)
  ·exact ⟨sn, Ev.step (fun k => impl_MachineOf.g.eq_2 ..) (evPos ⟨okB_set hok hne, by omega⟩ (evPos ((hs.any h hl hne).2 c) (Ev.now _))), More.refl hs, c⟩
  ·have loop : ∀ (cs : List Int), (∀ c ∈ cs, endsL l c ≠ []) → ∀ sn, Seen ws sn → ∃ sn', Ev (fun k => impl_MachineOf.gl (impl_MachineOf.g k) k l cs sn) sn' ∧ More ws sn sn' ∧ ∀ c ∈ cs, endsL l c ∈ sn'.map (·.2) := by
    intro cs
    induction cs with
    | nil => exact fun _ sn hs => ⟨sn, Ev.now _, More.refl hs, by simp⟩
    | cons c cs ihc =>
     intro hcs sn hs
     have hc := hcs c List.mem_cons_self
     obtain ⟨sn1, h1, h2, h3⟩ := ih (endsL l c) sn (inS_ends hl c hc) hc (fun t ht => by
      obtain ⟨s, hs2, hb⟩ := mem_ends.1 ht
      have h4 := hz s hs2
      have h5 := congrArg List.length hb
      rw [bytesOf_length, List.length_cons, bytesOf_length] at h5
      omega) hs
     obtain ⟨sn2, g1, g2, g3⟩ := ihc (fun d hd => hcs d (List.mem_cons_of_mem _ hd)) sn1 h2.seen
     have hll := hok.len
     refine ⟨sn2, Ev.bind (behind_ev l c (by omega)) (Ev.bind h1 g1), h2.trans g2, fun d hd => ?_⟩
     rcases List.mem_cons.1 hd with rfl | hd
     ·exact g2.sub _ h3
     ·exact g3 d hd
   have hs1 := hs.put hl hne c
   obtain ⟨sn', g1, g2, g3⟩ := loop (lettersL l) (fun c hc => ((letters_mem l c).1 hc).2) _ hs1
   have hin : l ∈ sn'.map (·.2) := g2.sub l (by rw [List.map_append]; exact List.mem_append_right _ (by simp))
   refine ⟨sn', Ev.step (fun k => impl_MachineOf.g.eq_2 ..) (evPos ⟨okB_set hok hne, by omega⟩ (evNeg (fun e => c ((hs.any h hl hne).1 e)) (Ev.bind (first_ev hok) g1))), ⟨g2.seen, fun x hx => g2.sub x (by rw [List.map_append]; exact List.mem_append_left _ hx), fun x hx hn e => ?_⟩, hin⟩
   by_cases hxl : x = l
   ·subst hxl
    by_cases hc : endsL x e = []
    ·exact .inl hc
    ·exact .inr (g3 e ((letters_mem x e).2 ⟨letter_in hok hc, hc⟩))
   ·exact g2.shut x hx (fun hm => by
     rw [List.map_append] at hm
     rcases List.mem_append.1 hm with hm | hm
     ·exact hn hm
     ·exact hxl (by simpa using hm)) e
theorem search_all {ws : List ByteArray} (h : wsB ws = true) (hne : ws ≠ []) : ∃ sn, Ev (fun k => impl_MachineOf.g k [] ws) sn ∧ Seen ws sn ∧ ∀ x, x ∈ sn.map (·.2) ↔ x ∈ setsOf ws := by
 obtain ⟨_, _, hin, _, _⟩ := sets_facts h
 obtain ⟨_, h2, h3⟩ := ws_facts h
 obtain ⟨sn, h4, h5, h6⟩ := search_ev h 12 ws [] (.inl rfl) hne h3 ⟨by simp, by simp, by simp⟩
 refine ⟨sn, h4, h5.seen, fun x => ⟨fun hx => ?_, fun hx => ?_⟩⟩
 ·obtain ⟨e, he, rfl⟩ := List.mem_map.1 hx
  exact (hin _).2 (h5.seen.in_ e he).1
 ·exact closed_all h2 h6 (fun y hy c _ _ => h5.shut y hy (by simp) c) x ((hin x).1 hx)
theorem mx_max (a b : Int) : mx a b = max a b := by
 unfold mx
 split <;> omega
theorem lng_eq (l : List ByteArray) : impl_MachineOf.lng l = lngL 0 l := by
 unfold impl_MachineOf.lng lngL
 congr 1
 funext n s
 exact mx_max _ _
theorem lex_eq : ∀ a b : List ByteArray, impl_MachineOf.lex a b = stLex a b
 | [], [] => rfl
 | [], _ :: _ => rfl
 | _ :: _, [] => rfl
 | x :: a, y :: b => by
  rw [impl_MachineOf.lex, stLex, lex_eq a b]
  by_cases e : x = y
  ·subst e
   rw [if_pos rfl, less_irrefl]
   simp
  ·rw [if_neg e]
   cases h : ltS x y with
   | true => exact if_pos h
   | false =>
    have h2 := ltS_total h e
    exact (if_neg (fun h3 => by unfold ltS at h; rw [h] at h3; cases h3)).trans (if_pos h2)
theorem lt_eq (a b : List ByteArray) : impl_MachineOf.lt a b = setLt a b := by
 unfold impl_MachineOf.lt setLt
 rw [lng_eq, lng_eq, lex_eq]
 by_cases h : lngL 0 a = lngL 0 b
 ·rw [if_pos h, if_neg (by omega), if_neg (by omega)]
 ·rw [if_neg h]
  by_cases h2 : lngL 0 b < lngL 0 a
  ·rw [if_pos h2, decide_eq_true h2]
  ·rw [if_neg h2, if_pos (by omega), decide_eq_false h2]
theorem longest_loop (l : List ByteArray) (hl : l.length ≤ 100000) (d : Nat) : ∀ (i : Nat) (v : Int), i + d = l.length → ∃ r, Ev (fun k => impl_longest.l0 k v l (l.length : Int) (i : Int)) r := by
 induction d with
 | zero =>
  intro i v hi
  exact ⟨v, Ev.step (fun k => impl_longest.l0.eq_2 ..) (eN (Ev.now _))⟩
 | succ d ih =>
  intro i v hi
  have e1 : wrap64 ((i : Int) + 1) = ((i + 1 : Nat) : Int) := w6
  obtain ⟨r, hr⟩ := ih (i + 1) (mx v ((rdOf ByteArray.empty l (i : Int)).size : Int)) (by omega)
  refine ⟨r, Ev.step (fun k => impl_longest.l0.eq_2 ..) (eP (eP (eP ?_)))⟩
  rw [e1]
  exact hr
theorem cmpS_some (x y : ByteArray) : ∃ r, cmp_Compare_string.f x y = some r := by
 have n2 : ∀ z : ByteArray, (z.toList != z.toList) = false := fun z => by simp
 unfold cmp_Compare_string.f cmp_isNaN_string.f
 simp only [n2, Option.bind_some, Bool.false_eq_true, if_false]
 by_cases h4 : Op.bytesLess x.toList y.toList = true <;> by_cases h5 : Op.bytesLess y.toList x.toList = true <;> simp [h4, h5]
theorem cmpI_some (x y : Int) : ∃ r, cmp_Compare_int.f x y = some r := by
 have n2 : ∀ z : Int, (z != z) = false := fun z => by simp
 unfold cmp_Compare_int.f cmp_isNaN_int.f
 simp only [n2, Option.bind_some, Bool.false_eq_true, if_false]
 by_cases h4 : x < y <;> by_cases h5 : x > y <;> simp [h4, h5]
theorem cmpL_loop (a b : List ByteArray) (hl : a.length ≤ 100000) (d : Nat) : ∀ i : Nat, i + d = a.length → ∃ r, Ev (fun k => slices_Compare_string_string.l0 k a b a (a.length : Int) (i : Int)) r := by
 induction d with
 | zero =>
  intro i hi
  by_cases c : (a.length : Int) < (b.length : Int)
  ·exact ⟨_, Ev.step (fun k => slices_Compare_string_string.l0.eq_2 ..) (eN (evPos c (Ev.now _)))⟩
  ·exact ⟨_, Ev.step (fun k => slices_Compare_string_string.l0.eq_2 ..) (eN (evNeg c (Ev.now _)))⟩
 | succ d ih =>
  intro i hi
  have e1 : wrap64 ((i : Int) + 1) = ((i + 1 : Nat) : Int) := w6
  by_cases c : (i : Int) ≥ (b.length : Int)
  ·exact ⟨_, Ev.step (fun k => slices_Compare_string_string.l0.eq_2 ..) (eP (eP (eP (evPos c (Ev.now _)))))⟩
  ·obtain ⟨t, ht⟩ := cmpS_some (rdOf ByteArray.empty a (i : Int)) (rdOf ByteArray.empty b (i : Int))
   by_cases z : t = 0
   ·obtain ⟨r, hr⟩ := ih (i + 1) (by omega)
    refine ⟨r, Ev.step (fun k => slices_Compare_string_string.l0.eq_2 ..) (eP (eP (eP (evNeg c (eP (evCall ht (evPos z ?_)))))))⟩
    rw [e1]
    exact hr
   ·exact ⟨t, Ev.step (fun k => slices_Compare_string_string.l0.eq_2 ..) (eP (eP (eP (evNeg c (eP (evCall ht (evNeg z (Ev.now _))))))))⟩
theorem cmpO_ev (x y : Int) : ∃ r, Ev (fun k => cmp_Or_int.f k [x, y]) r := by
 have e2 : wrap64 ((0 : Int) + 1) = 1 := w6
 have e3 : wrap64 ((1 : Int) + 1) = 2 := w6
 unfold cmp_Or_int.f
 by_cases hx : rd [x, y] 0 = 0
 ·by_cases hy : rd [x, y] 1 = 0
  ·refine ⟨0, Ev.step (fun k => cmp_Or_int.l0.eq_2 ..) (evPos (by simp) (eP (evPos (by simp) (evPos hx ?_))))⟩
   rw [e2]
   refine Ev.step (fun k => cmp_Or_int.l0.eq_2 ..) (evPos (by simp) (eP (evPos (by simp) (evPos hy ?_))))
   rw [e3]
   exact Ev.step (fun k => cmp_Or_int.l0.eq_2 ..) (evNeg (by simp) (Ev.now _))
  ·refine ⟨rd [x, y] 1, Ev.step (fun k => cmp_Or_int.l0.eq_2 ..) (evPos (by simp) (eP (evPos (by simp) (evPos hx ?_))))⟩
   rw [e2]
   exact Ev.step (fun k => cmp_Or_int.l0.eq_2 ..) (evPos (by simp) (eP (evPos (by simp) (evNeg hy (Ev.now _)))))
 ·exact ⟨_, Ev.step (fun k => cmp_Or_int.l0.eq_2 ..) (evPos (by simp) (eP (evPos (by simp) (evNeg hx (Ev.now _)))))⟩
theorem cmpF_ev (a b : List ByteArray) (ha : a.length ≤ 100000) (hb : b.length ≤ 100000) : ∃ r, Ev (fun k => impl_MachineOf.cmpF k a b) r := by
 obtain ⟨lb, h1⟩ := longest_loop b hb b.length 0 0 (by omega)
 obtain ⟨la, h2⟩ := longest_loop a ha a.length 0 0 (by omega)
 obtain ⟨t, h3⟩ := cmpI_some lb la
 obtain ⟨u, h4⟩ := cmpL_loop a b ha a.length 0 (by omega)
 obtain ⟨r, h5⟩ := cmpO_ev t u
 exact ⟨r, Ev.bind h1 (Ev.bind h2 (evCall h3 (Ev.bind h4 h5)))⟩
theorem ev_all {α : Type} {P : Nat → α → Prop} : ∀ l : List α, (∀ a ∈ l, ∃ K, ∀ k, K ≤ k → P k a) → ∃ K, ∀ k, K ≤ k → ∀ a ∈ l, P k a
 | [], _ => ⟨0, fun _ _ a h => by cases h⟩
 | a :: l, h => by
  obtain ⟨K, hK⟩ := ev_all l (fun b hb => h b (List.mem_cons_of_mem _ hb))
  obtain ⟨K2, hK2⟩ := h a List.mem_cons_self
  refine ⟨max K K2, fun k hk b hb => ?_⟩
  rcases List.mem_cons.1 hb with rfl | hb
  ·exact hK2 k (by omega)
  ·exact hK k (by omega) b hb
theorem okA_ev {ws : List ByteArray} (h : wsB ws = true) {sn : List (ByteArray × List ByteArray)} (hs : Seen ws sn) (hp : 0 < sn.length) : ∃ K, ∀ k, K ≤ k → impl_MachineOf.okA k sn = true := by
 have hz : ∀ e ∈ sn, SetOk e.2 := fun e he => set_in (set_ws h) (hs.in_ e he).1
 obtain ⟨K, hK⟩ := ev_all (P := fun k a => ∀ b ∈ sn, (impl_MachineOf.cmpF k a.2 b.2).isSome = true) sn (fun a ha => ev_all sn (fun b hb => by
  have h1 := (hz a ha).len
  have h2 := (hz b hb).len
  obtain ⟨r, K, hr⟩ := cmpF_ev a.2 b.2 (by omega) (by omega)
  exact ⟨K, fun k hk => (congrArg Option.isSome (hr k hk)).trans rfl⟩))
 refine ⟨K, fun k hk => ?_⟩
 simp only [impl_MachineOf.okA, Bool.and_eq_true, decide_eq_true_eq, List.all_eq_true]
 exact ⟨hp, fun a ha => ⟨okB_set (hz a ha) (hs.in_ a ha).2, fun b hb => hK k hk a ha b hb⟩⟩
theorem evIf {α : Type} {c : Nat → Prop} [∀ k, Decidable (c k)] {a b : Nat → Option α} {r : α} (h : ∃ K, ∀ k, K ≤ k → c k) (k : Ev a r) : Ev (fun n => if c n then a n else b n) r := by
 obtain ⟨K, h⟩ := h
 obtain ⟨K2, k⟩ := k
 exact ⟨max K K2, fun n hn => (if_pos (h n (by omega))).trans (k n (by omega))⟩
theorem pos_eq (x : List ByteArray) : ∀ (l : List (List ByteArray)) (i : Nat), x ∈ l → impl_MachineOf.pos x l i = some (i + posL x l)
 | [], _, h => by cases h
 | y :: ys, i, h => by
  rw [impl_MachineOf.pos, posL]
  by_cases e : y = x
  ·rw [if_pos (by rw [e]), if_pos e]
   rfl
  ·rw [if_neg (fun h => e (impl_MachineOf.map_inj h)), if_neg e, pos_eq x ys (i + 1) ((List.mem_cons.1 h).resolve_left (Ne.symm e))]
   congr 1
   omega
theorem oe_ev {ws : List ByteArray} (h : wsB ws = true) {x : List ByteArray} (hx : x ∈ setsOf ws) : ∀ (cs : List Int), (∀ c ∈ cs, endsL x c ≠ []) → ∀ es, Ev (fun k => impl_MachineOf.oe k (setsOf ws) x cs es) (es ++ cs.map (fun c => (⟨c, (posL (endsL x c) (setsOf ws) : Int)⟩ : Eg)))
 | [], _, es => by
  rw [List.map_nil, List.append_nil]
  exact Ev.now es
 | c :: cs, hc, es => by
  have hok := (sets_facts h).2.2.2.1 x hx
  have hll := hok.len
  have h1 := hc c List.mem_cons_self
  have h2 := ends_in h hx h1
  have h3 := oe_ev h hx cs (fun d hd => hc d (List.mem_cons_of_mem _ hd)) (es ++ [(⟨wrap64 c, ((0 + posL (endsL x c) (setsOf ws) : Nat) : Int)⟩ : Eg)])
  have hl := letter_in hok h1
  refine Ev.bind (behind_ev x c (by omega)) (evPos (okB_set (set_ends hok c) h1) (evCall (pos_eq _ _ 0 h2) (evTo h3 ?_)))
  rw [List.append_assoc, w6, Nat.zero_add]
  rfl
theorem os_ev {ws : List ByteArray} (h : wsB ws = true) : ∀ (l : List (List ByteArray)), (∀ x ∈ l, x ∈ setsOf ws ∧ x ≠ []) → ∀ out, Ev (fun k => impl_MachineOf.os k (setsOf ws) l out) (out ++ l.map (stL (setsOf ws)))
 | [], _, out => by
  rw [List.map_nil, List.append_nil]
  exact Ev.now out
 | x :: l, hx, out => by
  obtain ⟨h1, h2⟩ := hx x List.mem_cons_self
  have hok := (sets_facts h).2.2.2.1 x h1
  have hll := letters_length x
  have h3 := oe_ev h h1 (lettersL x) (fun c hc => ((letters_mem x c).1 hc).2) []
  rw [List.nil_append] at h3
  have h4 := os_ev h l (fun y hy => hx y (List.mem_cons_of_mem _ hy)) (out ++ [(⟨(rdOf ByteArray.empty x 0).toList.isEmpty, edgesL (setsOf ws) x⟩ : St)])
  refine Ev.bind (first_ev hok) (eP (Ev.bind h3 (evTo h4 ?_)))
  have e : stL (setsOf ws) x = ⟨(rdOf ByteArray.empty x 0).toList.isEmpty, edgesL (setsOf ws) x⟩ := by
   unfold stL
   rw [decide_eq_true (List.length_pos_iff.2 h2), Bool.true_and]
  rw [List.map_cons, e, List.append_assoc]
  rfl
theorem sets_nil : setsOf [] = [[]] := setsOf_eq ⟨by simp, fun x => by
 simp only [InS, chain_nil, List.mem_singleton]
 exact ⟨.inl, fun h => h.elim id (fun ⟨h1, _, h2⟩ => absurd h2 h1)⟩⟩
theorem ne_of_in {ws : List ByteArray} (hne : ws ≠ []) {x : List ByteArray} (h : InS ws x) : x ≠ [] := by
 rcases h with rfl | ⟨h, _⟩
 ·exact hne
 ·exact h
theorem srtd_le {l : List (List ByteArray)} (h : Srtd l) : l.Pairwise (fun a b => impl_MachineOf.le a b = true) := h.imp (fun {a b} h => by
 unfold impl_MachineOf.le
 rw [lt_eq, setLt_asymm h]
 rfl)
theorem moB_impl (ws : List ByteArray) (hl : ws.length ≤ 1048576) (he : ∀ s ∈ ws, s.size ≤ 1048576) : Ev (fun k => impl_MachineOf.f k ws) (moB ws) := by
 have hw := words_impl ws 300 hl he
 change Ev _ (wsB ws) at hw
 unfold impl_MachineOf.f moB
 cases e : wsB ws with
 | false =>
  rw [e] at hw
  exact Ev.bind hw (evNeg (by simp) (Ev.now _))
 | true =>
  rw [e] at hw
  rw [if_pos rfl]
  by_cases c0 : ws = []
  ·subst c0
   rw [sets_nil, if_neg (by simp)]
   refine Ev.bind hw (evPos rfl (evPos rfl (evTo (Ev.now _) ?_)))
   have : lettersL [] = [] := List.eq_nil_iff_forall_not_mem.2 (fun c hc => ((letters_mem [] c).1 hc).2 rfl)
   simp [stL, edgesL, this]
  ·obtain ⟨sn, h1, h2, h3⟩ := search_all e c0
   obtain ⟨g0, g1, g2, g3, g4⟩ := sets_facts e
   have hperm : (sn.map (·.2)).Perm (setsOf ws) := (List.perm_ext_iff_of_nodup h2.nod g1.nodup).2 h3
   have hlen : sn.length = (setsOf ws).length := by rw [← hperm.length_eq, List.length_map]
   have hp : 0 < (setsOf ws).length := List.length_pos_iff.2 (fun e2 => by have := (g2 ws).2 (.inl rfl); rw [e2] at this; cases this)
   have hsort : (sn.map (·.2)).mergeSort impl_MachineOf.le = setsOf ws := impl_MachineOf.sorted_ext ((List.mergeSort_perm _ _).trans hperm) (impl_MachineOf.le_sorted _) (srtd_le g1)
   refine Ev.bind hw (evPos rfl (evNeg (fun h => c0 (List.length_eq_zero_iff.1 (by omega))) (Ev.bind h1 ?_)))
   unfold impl_MachineOf.fin
   rw [hsort]
   by_cases c : (setsOf ws).length > 400
   ·rw [if_pos c]
    exact eP (eP (Ev.now _))
   ·rw [if_neg c]
    have h5 := os_ev e (setsOf ws) (fun x hx => ⟨hx, ne_of_in c0 ((g2 x).1 hx)⟩) []
    rw [List.nil_append] at h5
    exact eP (eN (evIf (okA_ev e h2 (by omega)) (Ev.bind h5 (Ev.now _))))
theorem stAt_small {m : List St} (hs : ∀ s ∈ m, s.f1.length ≤ 1048576) (i : Int) : (rd_T45 m i).f1.length ≤ 1048576 := by
 unfold rd_T45
 rw [List.getD_eq_getElem?_getD]
 by_cases c : i.toNat < m.length
 ·rw [List.getElem?_eq_getElem c]
  exact hs _ (List.getElem_mem c)
 ·rw [List.getElem?_eq_none (by omega)]
  simp [z45]
theorem prev_next (es : List Eg) (k : Int) (h0 : 0 ≤ k) : prevAt es (k + 1) = (rd_T49 es k).f0 := by
 unfold prevAt
 rw [if_neg (by omega), show k + 1 - 1 = k from by omega]
theorem longFold_bounds {dp : List Int} {b : Int} : ∀ {es : List Eg} {v : Int}, -1 ≤ v → v ≤ b → (∀ e ∈ es, rd dp e.f1 + 1 ≤ b) → -1 ≤ longFold dp v es ∧ longFold dp v es ≤ b := by
 intro es
 induction es with
 | nil => intro v h0 h1 _; exact ⟨h0, h1⟩
 | cons e es ih =>
  intro v h0 h1 h
  have he := h e List.mem_cons_self
  simp only [longFold]
  refine ih ?_ ?_ (fun x hx => h x (List.mem_cons_of_mem _ hx)) <;> unfold mx <;> repeat' split
  all_goals omega
theorem longFold_same {dp dq : List Int} : ∀ {es : List Eg} {v : Int}, (∀ e ∈ es, rd dq e.f1 = rd dp e.f1) → longFold dq v es = longFold dp v es := by
 intro es
 induction es with
 | nil => intro v _; rfl
 | cons e es ih =>
  intro v h
  simp only [longFold]
  rw [h e List.mem_cons_self]
  exact ih (fun x hx => h x (List.mem_cons_of_mem _ hx))
theorem ok_impl_edges (m : List St) (hm : m.length ≤ 400) (i : Nat) (hi : i < m.length) (hs : (rd_T45 m i).f1.length ≤ 1048576) {r ends : Bool} (es : List Eg) : ∀ (pre : List Eg) (dp : List Int), (rd_T45 m i).f1 = pre ++ es → dp.length = m.length →
  -1 ≤ rd dp (i : Int) → rd dp (i : Int) ≤ 400 → (∀ j : Nat, i < j → j < m.length → -1 ≤ rd dp j ∧ rd dp j + 1 ≤ 400) →
  (edgesFrom m.length i (prevAt (rd_T45 m i).f1 pre.length) es = false → r = false) →
  (edgesFrom m.length i (prevAt (rd_T45 m i).f1 pre.length) es = true → Ev (fun n => impl_MachineOk.l0 n m (dp.set i (longFold dp (rd dp (i : Int)) es)) ((i : Int) - 1)) r) →
  Ev (fun n => impl_MachineOk.l1 n m dp (i : Int) (rd_T45 m i).f1 ((rd_T45 m i).f1.length : Int) (pre.length : Int) ends (rd_T45 m i).f1) r := by
 induction es with
 | nil =>
  intro pre dp hp hl hv hv2 _ _ yes
  rw [List.append_nil] at hp
  refine Ev.step (fun n => impl_MachineOk.l1.eq_2 _ _ _ _ _ _ _ _ _) (evNeg (by rw [← hp]; exact Int.lt_irrefl _) ?_)
  rw [w6]
  have e : dp.set i (rd dp (i : Int)) = dp := by
   refine List.ext_getElem (by simp) (fun j h1 h2 => ?_)
   by_cases c : i = j
   ·subst c
    simp [rd, List.getD_eq_getElem?_getD, h2]
   ·simp [List.getElem_set_ne c]
  have next := yes rfl
  simp only [longFold] at next
  rw [e] at next
  exact next
 | cons x es ih =>
  intro pre dp hp hl hv hv2 hb no yes
  have hlen : (rd_T45 m i).f1.length = pre.length + (es.length + 1) := by rw [hp]; simp
  have hat : rd_T49 (rd_T45 m i).f1 (pre.length : Int) = x := by
   simp [rd_T49, hp, List.getD_eq_getElem?_getD]
  have hat' : rd_T49 (rd_T45 m i).f1 (pre.length : Int) = x := hat
  have hp' : (rd_T45 m i).f1 = (pre ++ [x]) ++ es := by rw [hp]; simp
  have hpl : ((pre ++ [x]).length : Int) = (pre.length : Int) + 1 := by simp
  have hpn : prevAt (rd_T45 m i).f1 ((pre ++ [x]).length : Int) = x.f0 := by
   rw [hpl, prev_next _ _ (by omega), hat]
  have ihx (dq : List Int) := ih (pre ++ [x]) dq hp'
  rw [hpn] at ihx
  simp only [edgesFrom] at no yes
  refine Ev.step (fun n => impl_MachineOk.l1.eq_2 _ _ _ _ _ _ _ _ _) (eP (eP (eP ?_)))
  rw [hat']
  refine evCall (within_impl _ _ _) ?_
  have stop : r = false → Ev (fun n => impl_MachineOk.j4 n m dp (i : Int) (rd_T45 m i).f1 ((rd_T45 m i).f1.length : Int) (pre.length : Int) true ends (rd_T45 m i).f1 x.f0 x.f1) r := fun h => Ev.step (fun n => impl_MachineOk.j4.eq_2 _ _ _ _ _ _ _ _ _ _ _ _) (evPos rfl (evTo (Ev.now _) h.symm))
  cases c1 : (decide (97 ≤ x.f0) && decide (x.f0 ≤ 122)) with
  | false =>
   rw [c1] at no
   exact evNeg (by simp) (stop (no (by simp)))
  | true =>
   rw [c1] at no yes
   refine evPos rfl ?_
   rw [w6 (n := (i : Int) + 1), w6 (n := (m.length : Int) - 1)]
   have last : (decide (prevAt (rd_T45 m i).f1 (pre.length : Int) < x.f0)) = true → Ev (fun n => (impl_within.f x.f1 ((i : Int) + 1) ((m.length : Int) - 1)).bind fun t => impl_MachineOk.j4 n m dp (i : Int) (rd_T45 m i).f1 ((rd_T45 m i).f1.length : Int) (pre.length : Int) (!t) ends (rd_T45 m i).f1 x.f0 x.f1) r := by
    intro c3
    rw [c3] at no yes
    refine evCall (within_impl _ _ _) ?_
    cases c2 : (decide ((i : Int) + 1 ≤ x.f1) && decide (x.f1 ≤ (m.length : Int) - 1)) with
    | false =>
     rw [c2] at no
     exact stop (no (by simp))
    | true =>
     rw [c2] at no yes
     simp only [Bool.true_and] at no yes
     simp only [Bool.and_eq_true, decide_eq_true_eq] at c2
     have hx := hb x.f1.toNat (by omega) (by omega)
     rw [show ((x.f1.toNat : Nat) : Int) = x.f1 from by omega] at hx
     refine Ev.step (fun n => impl_MachineOk.j4.eq_2 _ _ _ _ _ _ _ _ _ _ _ _) (evNeg (by simp) (eP (eP ?_)))
     rw [w6 (n := (pre.length : Int) + 1), ← hpl]
     by_cases c4 : rd dp x.f1 ≥ 0
     ·rw [w6 (n := rd dp x.f1 + 1)]
      have hmx : mx (rd dp (i : Int)) (rd dp x.f1 + 1) ≤ 400 ∧ -1 ≤ mx (rd dp (i : Int)) (rd dp x.f1 + 1) := by unfold mx; split <;> omega
      have hset : rd (dp.set (i : Int).toNat (mx (rd dp (i : Int)) (rd dp x.f1 + 1))) (i : Int) = mx (rd dp (i : Int)) (rd dp x.f1 + 1) := rd_set_eq dp (i : Int) _ (by omega) (by omega)
      refine evPos c4 (eP (eP (ihx _ (by simpa using hl) (by rw [hset]; omega) (by rw [hset]; omega) (fun j h1 h2 => ?_) no (fun ht => ?_))))
      ·have := rd_set_ne dp (i : Int) (j : Int) (mx (rd dp (i : Int)) (rd dp x.f1 + 1)) (by omega) (by omega) (by omega)
       rw [this]
       exact hb j h1 h2
      ·have next := yes ht
       simp only [longFold] at next
       rw [if_pos c4] at next
       rw [hset, longFold_same (dp := dp) (fun e he => ?_), Int.toNat_natCast, List.set_set]
       ·exact next
       ·obtain ⟨_, _, g3, g4, _⟩ := edges_mem ht e he
        exact rd_set_ne dp (i : Int) e.f1 _ (by omega) (by omega) (by omega)
     ·refine evNeg c4 (ihx dp hl hv hv2 hb no (fun ht => ?_))
      have next := yes ht
      simp only [longFold] at next
      rw [if_neg c4] at next
      exact next
   by_cases c3 : (pre.length : Int) > 0
   ·rw [w6 (n := (pre.length : Int) - 1)]
    have hpv : prevAt (rd_T45 m i).f1 (pre.length : Int) = (rd_T49 (rd_T45 m i).f1 ((pre.length : Int) - 1)).f0 := by
     unfold prevAt
     rw [if_neg (by omega)]
    refine evPos c3 (eP (eP ?_))
    by_cases c4 : (rd_T49 (rd_T45 m i).f1 ((pre.length : Int) - 1)).f0 ≥ x.f0
    ·refine evPos c4 (stop (no ?_))
     rw [hpv, decide_eq_false (show ¬ (rd_T49 (rd_T45 m i).f1 ((pre.length : Int) - 1)).f0 < x.f0 from by omega)]
     simp
    ·refine evNeg c4 (last ?_)
     rw [hpv]
     exact decide_eq_true (by omega)
   ·refine evNeg c3 (last ?_)
    simp only [Bool.and_eq_true, decide_eq_true_eq] at c1
    unfold prevAt
    rw [if_pos (by omega)]
    exact decide_eq_true (by omega)
theorem ok_impl_loop (m : List St) (hm : m.length ≤ 400) (h1 : 1 ≤ m.length) (hs : ∀ s ∈ m, s.f1.length ≤ 1048576) (i : Nat) : ∀ dp : List Int, i ≤ m.length → dp.length = m.length →
  (∀ j : Nat, i ≤ j → j < m.length → -1 ≤ rd dp j ∧ rd dp j ≤ (m.length : Int) - j) → Ev (fun n => impl_MachineOk.l0 n m dp ((i : Int) - 1)) (longGo m i dp) := by
 induction i with
 | zero =>
  intro dp _ hl _
  exact Ev.step (fun n => impl_MachineOk.l0.eq_2 _ _ _ _) (eN (eP (Ev.now _)))
 | succ i ih =>
  intro dp hi hl hb
  have hz := stAt_small hs (i : Int)
  refine Ev.step (fun n => impl_MachineOk.l0.eq_2 _ _ _ _) ?_
  rw [show (((i + 1 : Nat) : Int) - 1) = (i : Int) from by omega]
  refine eP (eP (eP ?_))
  have main : (decide ((i : Int) = 0) || (rd_T45 m i).f0 || !(rd_T45 m i).f1.isEmpty) = true → Ev (fun n => impl_MachineOk.j1 n m dp (i : Int) false (rd_T45 m i).f0 (rd_T45 m i).f1) (longGo m (i + 1) dp) := by
   intro hc
   have hst : stOk m i = edgesFrom m.length i 0 (rd_T45 m i).f1 := by
    unfold stOk
    rw [hc, Bool.and_true]
   have run (v : Int) (hv0 : -1 ≤ v) (hv1 : v ≤ 0) (hv : v = if (rd_T45 m i).f0 = true then 0 else -1) : Ev (fun n => impl_MachineOk.l1 n m (dp.set i v) (i : Int) (rd_T45 m i).f1 ((rd_T45 m i).f1.length : Int) 0 (rd_T45 m i).f0 (rd_T45 m i).f1) (longGo m (i + 1) dp) := by
    have hset : rd (dp.set i v) (i : Int) = v := by
     have := rd_set_eq dp (i : Int) v (by omega) (by omega)
     simpa using this
    have hne (j : Int) (h0 : 0 ≤ j) (hj : (i : Int) ≠ j) : rd (dp.set i v) j = rd dp j := by
     have := rd_set_ne dp (i : Int) j v (by omega) h0 hj
     simpa using this
    refine ok_impl_edges m hm i (by omega) hz (rd_T45 m i).f1 [] (dp.set i v) rfl (by simpa using hl) (by rw [hset]; omega) (by rw [hset]; omega) (fun j q1 q2 => ?_) (fun hf => ?_) (fun ht => ?_)
    ·rw [hne j (by omega) (by omega)]
     have := hb j (by omega) q2
     omega
    ·have hf' : edgesFrom m.length i 0 (rd_T45 m i).f1 = false := hf
     simp only [longGo]
     rw [hst, hf', Bool.false_and]
    ·have ht' : edgesFrom m.length i 0 (rd_T45 m i).f1 = true := ht
     have hto (e : Eg) (he : e ∈ (rd_T45 m i).f1) : (i : Int) < e.f1 ∧ e.f1 < m.length := by
      obtain ⟨_, _, g3, g4, _⟩ := edges_mem ht' e he
      omega
     simp only [longGo]
     rw [hst, ht', Bool.true_and, hset, List.set_set, longFold_same (dp := dp) (fun e he => hne e.f1 (by have := hto e he; omega) (by have := hto e he; omega)), ← hv]
     have hfb := longFold_bounds (dp := dp) (b := (m.length : Int) - i) (es := (rd_T45 m i).f1) (v := v) (by omega) (by omega) (fun e he => by
      have q := hto e he
      have := hb e.f1.toNat (by omega) (by omega)
      rw [show ((e.f1.toNat : Nat) : Int) = e.f1 from by omega] at this
      omega)
     refine ih _ (by omega) (by simpa using hl) (fun j q1 q2 => ?_)
     by_cases c : j = i
     ·subst c
      have := rd_set_eq dp (j : Int) (longFold dp v (rd_T45 m j).f1) (by omega) (by omega)
      rw [show (dp.set j (longFold dp v (rd_T45 m j).f1)) = (dp.set (j : Int).toNat (longFold dp v (rd_T45 m j).f1)) from by simp, this]
      exact hfb
     ·have := rd_set_ne dp (i : Int) (j : Int) (longFold dp v (rd_T45 m i).f1) (by omega) (by omega) (by omega)
      rw [show (dp.set i (longFold dp v (rd_T45 m i).f1)) = (dp.set (i : Int).toNat (longFold dp v (rd_T45 m i).f1)) from by simp, this]
      exact hb j (by omega) q2
   refine Ev.step (fun n => impl_MachineOk.j1.eq_2 _ _ _ _ _ _ _) (evNeg (by simp) (eP (eP (evCall rfl ?_))))
   rw [Int.toNat_natCast]
   by_cases ce : (rd_T45 m i).f0 = true
   ·refine evPos ce (Ev.step (fun n => impl_MachineOk.j2.eq_2 _ _ _ _ _ _) ?_)
    rw [List.set_set]
    exact run 0 (by omega) (by omega) (by rw [if_pos ce])
   ·exact evNeg ce (Ev.step (fun n => impl_MachineOk.j2.eq_2 _ _ _ _ _ _) (run (-1) (by omega) (by omega) (by rw [if_neg ce])))
  by_cases c : (i : Int) > 0
  ·refine evPos c ?_
   by_cases ce : (rd_T45 m i).f0 = true
   ·exact evPos ce (main (by simp [ce]))
   ·refine evNeg ce ?_
    by_cases cn : (rd_T45 m i).f1 = []
    ·have e1 : ((((rd_T45 m (i : Int)).f1).length : Int) == 0) = true := by
      have : (rd_T45 m (i : Int)).f1 = [] := cn
      rw [this]
      rfl
     rw [e1]
     refine Ev.step (fun n => impl_MachineOk.j1.eq_2 _ _ _ _ _ _ _) (evPos rfl (evTo (Ev.now _) ?_))
     have hf : stOk m i = false := by
      have c' : ¬ i = 0 := by omega
      simp [stOk, ce, cn, c']
     simp [longGo, hf]
    ·have hne : ((rd_T45 m i).f1.length : Int) ≠ 0 := fun h => cn (List.length_eq_zero_iff.1 (by omega))
     have e1 : ((((rd_T45 m (i : Int)).f1).length : Int) == 0) = false := beq_eq_false_iff_ne.2 hne
     rw [e1]
     exact main (by simp [cn])
  ·exact evNeg c (main (by simp; omega))
theorem machOk_impl (m : List St) (hm : m.length ≤ 1048576) (hs : ∀ s ∈ m, s.f1.length ≤ 1048576) : Ev (fun n => impl_MachineOk.f n m) (machOk m) := by
 unfold impl_MachineOk.f
 refine evCall (within_impl _ _ _) ?_
 by_cases c : (1 ≤ (m.length : Int) ∧ (m.length : Int) ≤ 400)
 ·refine evPos (by simp; omega) (eP (eP ?_))
  rw [w6]
  refine evTo (ok_impl_loop m (by omega) (by omega) hs m.length _ (Nat.le_refl _) (by simp) (fun j h1 h2 => absurd h2 (by omega))) ?_
  rw [longGo_ok m (by omega)]
  simp only [machOk]
  rw [decide_eq_true (show 1 ≤ m.length from by omega), decide_eq_true (show m.length ≤ 400 from by omega)]
  simp
 ·refine evNeg (by simp; omega) (evTo (Ev.now _) ?_)
  cases e : machOk m with
  | false => rfl
  | true =>
   simp only [machOk, Bool.and_eq_true, decide_eq_true_eq] at e
   omega
theorem ok_to {m : List St} {n : Nat} (hok : allOk m m.length = true) (i : Nat) (hi : i < m.length) : ∀ e ∈ (rd_T45 m i).f1, (i : Int) < e.f1 ∧ e.f1 < m.length := by
 intro e he
 have h := allOk_at hok i hi
 simp only [stOk, Bool.and_eq_true] at h
 obtain ⟨_, _, g3, g4, _⟩ := edges_mem h.1 e he
 omega
theorem machOk_facts {m : List St} (h : machOk m = true) : 1 ≤ m.length ∧ m.length ≤ 400 ∧ allOk m m.length = true := by
 simp only [machOk, Bool.and_eq_true, decide_eq_true_eq] at h
 exact ⟨h.1.1.1, h.1.1.2, h.1.2⟩
def hop (c : Int) : List Eg → Int
 | [] => -1
 | e :: es => if e.f0 = c then e.f1 else hop c es
theorem hop_bounds {c a b : Int} : ∀ {es : List Eg}, (∀ e ∈ es, a < e.f1 ∧ e.f1 < b) → hop c es = -1 ∨ (a < hop c es ∧ hop c es < b) := by
 intro es
 induction es with
 | nil => intro _; exact .inl rfl
 | cons e es ih =>
  intro h
  simp only [hop]
  by_cases g : e.f0 = c
  ·rw [if_pos g]; exact .inr (h e List.mem_cons_self)
  ·rw [if_neg g]; exact ih (fun x hx => h x (List.mem_cons_of_mem _ hx))
def trail (m : List St) (w : ByteArray) : Nat → Nat → Int → Int
 | 0, _, a => a
 | d + 1, i, a => if hop (wrap64 (bt w i)) (rd_T45 m a).f1 < 0 then -1 else trail m w d (i + 1) (hop (wrap64 (bt w i)) (rd_T45 m a).f1)
def knows (m : List St) (w : ByteArray) : Bool := machOk m && (decide (0 ≤ trail m w w.size 0 0) && (rd_T45 m (trail m w w.size 0 0)).f0)
def cntFold (dp : List Int) : Int → List Eg → Int
 | v, [] => v
 | v, e :: es => cntFold dp (mn (v + rd dp e.f1) 1000000000) es
def cntGo (m : List St) : Nat → List Int → List Int
 | 0, dp => dp
 | i + 1, dp => cntGo m i (dp.set i (cntFold dp (if (rd_T45 m i).f0 = true then 1 else rd dp i) (rd_T45 m i).f1))
def cnts (m : List St) : List Int := cntGo m m.length (List.replicate m.length 0)
abbrev cntB (dp : List Int) : Prop := ∀ j : Int, 0 ≤ rd dp j ∧ rd dp j ≤ 1000000000
theorem mn_min (a b : Int) : mn a b = min a b := by
 unfold mn
 split <;> omega
theorem cntB_set {dp : List Int} (h : cntB dp) (i : Nat) (v : Int) (h0 : 0 ≤ v) (h1 : v ≤ 1000000000) : cntB (dp.set i v) := by
 intro j
 have hj := h j
 unfold rd at hj ⊢
 rw [List.getD_eq_getElem?_getD] at hj ⊢
 by_cases c : i = j.toNat
 ·by_cases cl : i < dp.length
  ·rw [← c]
   simp [cl]
   omega
  ·rw [List.getElem?_eq_none (by simp; omega)]
   simp
 ·rw [List.getElem?_set_ne c]
  exact hj
theorem cntFold_same {dp dq : List Int} : ∀ {es : List Eg} {v : Int}, (∀ e ∈ es, rd dq e.f1 = rd dp e.f1) → cntFold dq v es = cntFold dp v es := by
 intro es
 induction es with
 | nil => intro v _; rfl
 | cons e es ih =>
  intro v h
  simp only [cntFold]
  rw [h e List.mem_cons_self]
  exact ih (fun x hx => h x (List.mem_cons_of_mem _ hx))
theorem cntFold_bounds {dp : List Int} (hb : cntB dp) : ∀ {es : List Eg} {v : Int}, 0 ≤ v → v ≤ 1000000000 → 0 ≤ cntFold dp v es ∧ cntFold dp v es ≤ 1000000000 := by
 intro es
 induction es with
 | nil => intro v h0 h1; exact ⟨h0, h1⟩
 | cons e es ih =>
  intro v h0 h1
  have he := hb e.f1
  simp only [cntFold]
  rw [mn_min]
  exact ih (by omega) (by omega)
theorem set_self (dp : List Int) (i : Nat) : dp.set i (rd dp (i : Int)) = dp := by
 refine List.ext_getElem (by simp) (fun j h1 h2 => ?_)
 by_cases c : i = j
 ·subst c
  simp [rd, List.getD_eq_getElem?_getD, h2]
 ·simp [List.getElem_set_ne c]
theorem cnt_impl_edges (m : List St) (hm : m.length ≤ 400) (i : Nat) (hi : i < m.length) (hs : (rd_T45 m i).f1.length ≤ 1048576) (hto : ∀ e ∈ (rd_T45 m i).f1, (i : Int) < e.f1 ∧ e.f1 < m.length) {r : List Int} (es : List Eg) :
  ∀ (pre : List Eg) (dp : List Int), (rd_T45 m i).f1 = pre ++ es → dp.length = m.length → cntB dp → Ev (fun n => impl_counts.l0 n m (dp.set i (cntFold dp (rd dp (i : Int)) es)) ((i : Int) - 1)) r → Ev (fun n => impl_counts.l1 n m dp (i : Int) (rd_T45 m i).f1 ((rd_T45 m i).f1.length : Int) (pre.length : Int)) r := by
 induction es with
 | nil =>
  intro pre dp hp hl _ next
  rw [List.append_nil] at hp
  refine Ev.step (fun n => impl_counts.l1.eq_2 _ _ _ _ _ _ _) (evNeg (by rw [← hp]; exact Int.lt_irrefl _) ?_)
  rw [w6]
  simp only [cntFold] at next
  rw [set_self] at next
  exact next
 | cons x es ih =>
  intro pre dp hp hl hb next
  have hlen : (rd_T45 m i).f1.length = pre.length + (es.length + 1) := by rw [hp]; simp
  have hat : rd_T49 (rd_T45 m i).f1 (pre.length : Int) = x := by simp [rd_T49, hp, List.getD_eq_getElem?_getD]
  have hp' : (rd_T45 m i).f1 = (pre ++ [x]) ++ es := by rw [hp]; simp
  have hpl : ((pre ++ [x]).length : Int) = (pre.length : Int) + 1 := by simp
  have hx := hto x (by rw [hp]; simp)
  have hv := hb (i : Int)
  have hw := hb x.f1
  refine Ev.step (fun n => impl_counts.l1.eq_2 _ _ _ _ _ _ _) (eP (eP (eP (eP (eP ?_)))))
  rw [hat]
  refine eP (eP ?_)
  rw [w6 (n := rd dp (i : Int) + rd dp x.f1), w6 (n := (pre.length : Int) + 1), ← hpl]
  have hmn : 0 ≤ mn (rd dp (i : Int) + rd dp x.f1) 1000000000 ∧ mn (rd dp (i : Int) + rd dp x.f1) 1000000000 ≤ 1000000000 := by rw [mn_min]; omega
  have hset : rd (dp.set i (mn (rd dp (i : Int) + rd dp x.f1) 1000000000)) (i : Int) = mn (rd dp (i : Int) + rd dp x.f1) 1000000000 := by
   have := rd_set_eq dp (i : Int) (mn (rd dp (i : Int) + rd dp x.f1) 1000000000) (by omega) (by omega)
   simpa using this
  refine ih (pre ++ [x]) _ hp' (by simpa using hl) (cntB_set hb _ _ (by omega) (by omega)) ?_
  rw [Int.toNat_natCast, hset, List.set_set, cntFold_same (dp := dp) (fun e he => ?_)]
  ·exact next
  ·have := hto e (by rw [hp]; simp [he])
   have := rd_set_ne dp (i : Int) e.f1 (mn (rd dp (i : Int) + rd dp x.f1) 1000000000) (by omega) (by omega) (by omega)
   simpa using this
theorem cntGo_len (m : List St) : ∀ (i : Nat) (dp : List Int), (cntGo m i dp).length = dp.length := by
 intro i
 induction i with
 | zero => intro dp; rfl
 | succ i ih => intro dp; simp only [cntGo]; rw [ih]; simp
theorem cnt_step {m : List St} {i : Nat} {dp : List Int} (hl : dp.length = m.length) (hi : i < m.length) (hto : ∀ e ∈ (rd_T45 m i).f1, (i : Int) < e.f1 ∧ e.f1 < m.length) : (dp.set i 1).set i (cntFold (dp.set i 1) (rd (dp.set i 1) (i : Int)) (rd_T45 m i).f1) = dp.set i (cntFold dp 1 (rd_T45 m i).f1) := by
 have hset : rd (dp.set i 1) (i : Int) = 1 := by
  have := rd_set_eq dp (i : Int) 1 (by omega) (by omega)
  simpa using this
 rw [hset, List.set_set, cntFold_same (dp := dp) (fun e he => ?_)]
 have := hto e he
 have := rd_set_ne dp (i : Int) e.f1 1 (by omega) (by omega) (by omega)
 simpa using this
theorem cnt_impl_loop (m : List St) (hm : m.length ≤ 400) (hs : ∀ s ∈ m, s.f1.length ≤ 1048576) (hok : allOk m m.length = true) (i : Nat) : ∀ dp : List Int, i ≤ m.length → dp.length = m.length → cntB dp → Ev (fun n => impl_counts.l0 n m dp ((i : Int) - 1)) (cntGo m i dp) := by
 induction i with
 | zero =>
  intro dp _ _ _
  exact Ev.step (fun n => impl_counts.l0.eq_2 _ _ _ _) (eN (Ev.now _))
 | succ i ih =>
  intro dp hi hl hb
  have hto := ok_to (n := 0) hok i (by omega)
  have hz := stAt_small hs (i : Int)
  refine Ev.step (fun n => impl_counts.l0.eq_2 _ _ _ _) ?_
  rw [show (((i + 1 : Nat) : Int) - 1) = (i : Int) from by omega]
  refine eP (eP (eP ?_))
  simp only [cntGo]
  by_cases c : (rd_T45 m i).f0 = true
  ·refine evPos c (eP (Ev.step (fun n => impl_counts.j1.eq_2 _ _ _ _) (eP (eP ?_))))
   rw [Int.toNat_natCast, if_pos c]
   refine cnt_impl_edges m hm i (by omega) hz hto (rd_T45 m i).f1 [] (dp.set i 1) rfl (by simpa using hl) (cntB_set hb _ _ (by omega) (by omega)) ?_
   rw [cnt_step hl (by omega) hto]
   have hf := cntFold_bounds hb (es := (rd_T45 m i).f1) (v := 1) (by omega) (by omega)
   exact ih _ (by omega) (by simpa using hl) (cntB_set hb _ _ hf.1 hf.2)
  ·refine evNeg c (Ev.step (fun n => impl_counts.j1.eq_2 _ _ _ _) (eP (eP ?_)))
   rw [if_neg c]
   have hf := cntFold_bounds hb (es := (rd_T45 m i).f1) (v := rd dp (i : Int)) (hb _).1 (hb _).2
   exact cnt_impl_edges m hm i (by omega) hz hto (rd_T45 m i).f1 [] dp rfl hl hb (ih _ (by omega) (by simpa using hl) (cntB_set hb _ _ hf.1 hf.2))
theorem cntB_zero (n : Nat) : cntB (List.replicate n 0) := by
 intro j
 unfold rd
 rw [List.getD_eq_getElem?_getD, List.getElem?_replicate]
 split <;> simp
theorem cnts_len (m : List St) : (cnts m).length = m.length := by
 unfold cnts
 rw [cntGo_len]
 simp
theorem counts_impl (m : List St) (hs : ∀ s ∈ m, s.f1.length ≤ 1048576) (hok : machOk m = true) : Ev (fun n => impl_counts.f n m) (cnts m) := by
 obtain ⟨h1, h2, h3⟩ := machOk_facts hok
 unfold impl_counts.f
 refine eP (eP ?_)
 rw [w6]
 exact cnt_impl_loop m h2 hs h3 m.length _ (Nat.le_refl _) (by simp) (cntB_zero _)
theorem cntGo_facts (m : List St) (hok : allOk m m.length = true) : ∀ (i : Nat) (dp : List Int), i ≤ m.length → dp.length = m.length → cntB dp → (∀ j : Nat, j < i → rd dp j = 0) →
  (∀ j : Nat, i ≤ j → j < m.length → rd dp j = cntFold dp (if (rd_T45 m j).f0 = true then 1 else 0) (rd_T45 m j).f1) →
  cntB (cntGo m i dp) ∧ ∀ j : Nat, j < m.length → rd (cntGo m i dp) j = cntFold (cntGo m i dp) (if (rd_T45 m j).f0 = true then 1 else 0) (rd_T45 m j).f1 := by
 intro i
 induction i with
 | zero => intro dp _ _ hb _ h; exact ⟨hb, fun j hj => h j (by omega) hj⟩
 | succ i ih =>
  intro dp hi hl hb hz h
  have hz0 : rd dp (i : Int) = 0 := hz i (by omega)
  have hto := ok_to (n := 0) hok i (by omega)
  have hne (v : Int) (j : Int) (h0 : 0 ≤ j) (hj : (i : Int) ≠ j) : rd (dp.set i v) j = rd dp j := by
   have := rd_set_ne dp (i : Int) j v (by omega) h0 hj
   simpa using this
  have heq (v : Int) : rd (dp.set i v) (i : Int) = v := by
   have := rd_set_eq dp (i : Int) v (by omega) (by omega)
   simpa using this
  simp only [cntGo]
  rw [hz0]
  have hv : 0 ≤ cntFold dp (if (rd_T45 m i).f0 = true then 1 else 0) (rd_T45 m i).f1 ∧ cntFold dp (if (rd_T45 m i).f0 = true then 1 else 0) (rd_T45 m i).f1 ≤ 1000000000 := by
   refine cntFold_bounds hb ?_ ?_ <;> split <;> omega
  refine ih _ (by omega) (by simpa using hl) (cntB_set hb _ _ hv.1 hv.2) (fun j hj => ?_) (fun j h1 h2 => ?_)
  ·rw [hne _ j (by omega) (by omega)]
   exact hz j (by omega)
  ·by_cases c : j = i
   ·subst c
    rw [heq, cntFold_same (dp := dp) (fun e he => hne _ e.f1 (by have := hto e he; omega) (by have := hto e he; omega))]
   ·have hto2 := ok_to (n := 0) hok j h2
    rw [hne _ j (by omega) (by omega), h j (by omega) h2, cntFold_same (dp := dp) (fun e he => hne _ e.f1 (by have := hto2 e he; omega) (by have := hto2 e he; omega))]
theorem cnts_facts (m : List St) (hok : allOk m m.length = true) : cntB (cnts m) ∧ ∀ j : Nat, j < m.length → rd (cnts m) j = cntFold (cnts m) (if (rd_T45 m j).f0 = true then 1 else 0) (rd_T45 m j).f1 :=
 cntGo_facts m hok m.length _ (Nat.le_refl _) (by simp) (cntB_zero _) (fun j hj => rd_replicate _ _ _ (by omega) (by omega)) (fun j h1 h2 => absurd h2 (by omega))
def sumE (cs : List Int) : List Eg → Int
 | [] => 0
 | e :: es => rd cs e.f1 + sumE cs es
theorem sumE_nonneg {cs : List Int} (hb : cntB cs) : ∀ es : List Eg, 0 ≤ sumE cs es := by
 intro es
 induction es with
 | nil => exact Int.le_refl _
 | cons e es ih =>
  have := hb e.f1
  simp only [sumE]
  omega
def accL (m : List St) : List Int → Int → Bool
 | [], a => (rd_T45 m a).f0
 | c :: w, a => decide (0 ≤ hop c (rd_T45 m a).f1) && accL m w (hop c (rd_T45 m a).f1)
theorem trail_acc (m : List St) (w : ByteArray) (d : Nat) : ∀ (i : Nat) (a : Int), i + d = w.size → 0 ≤ a → (decide (0 ≤ trail m w d i a) && (rd_T45 m (trail m w d i a)).f0) = accL m ((bytesOf w).drop i) a := by
 induction d with
 | zero =>
  intro i a hi ha
  rw [List.drop_eq_nil_of_le (by rw [bytesOf_length]; omega), show trail m w 0 i a = a from rfl, decide_eq_true ha]
  simp [accL]
 | succ d ih =>
  intro i a hi ha
  have hd := bytes_drop w (i : Int) (by omega) (by omega)
  rw [Int.toNat_natCast, show ((i : Int) + 1).toNat = i + 1 from by omega] at hd
  have hbt : wrap64 (bt w i) = bt w i := by
   have := bt0 w i
   have := bt1 w i
   exact w6
  rw [hd]
  simp only [accL]
  by_cases c : hop (bt w i) (rd_T45 m a).f1 < 0
  ·have e : trail m w (d + 1) i a = -1 := by
    simp only [trail]
    rw [hbt, if_pos c]
   rw [e, decide_eq_false (show ¬ (0 ≤ hop (bt w i) (rd_T45 m a).f1) from by omega)]
   rfl
  ·have e : trail m w (d + 1) i a = trail m w d (i + 1) (hop (bt w i) (rd_T45 m a).f1) := by
    simp only [trail]
    rw [hbt, if_neg c]
   rw [e, decide_eq_true (show 0 ≤ hop (bt w i) (rd_T45 m a).f1 from by omega), Bool.true_and]
   exact ih (i + 1) _ (by omega) (by omega)
theorem knows_acc {m : List St} (h : machOk m = true) (w : ByteArray) : knows m w = accL m (bytesOf w) 0 := by
 have := trail_acc m w w.size 0 0 (by omega) (by omega)
 rw [List.drop_zero] at this
 unfold knows
 rw [h, Bool.true_and]
 exact this
def mcountB (m : List St) : Int := if machOk m = true then rd (cnts m) 0 else 0
theorem lng_le {b : Int} : ∀ {x : List ByteArray} {v : Int}, v ≤ b → (∀ s ∈ x, (s.size : Int) ≤ b) → lngL v x ≤ b
 | [], v, hv, _ => hv
 | s :: x, v, hv, h => lng_le (x := x) (v := max v (s.size : Int)) (by have := h s List.mem_cons_self; omega) (fun t ht => h t (List.mem_cons_of_mem _ ht))
theorem lng_v : ∀ {x : List ByteArray} {v : Int}, v ≤ lngL v x
 | [], v => Int.le_refl _
 | s :: x, v => Int.le_trans (show v ≤ max v (s.size : Int) by omega) (lng_v (x := x))
theorem lng_ge : ∀ {x : List ByteArray} {v : Int} {s : ByteArray}, s ∈ x → (s.size : Int) ≤ lngL v x
 | t :: x, v, s, h => by
  rcases List.mem_cons.1 h with rfl | h
  ·exact Int.le_trans (show (s.size : Int) ≤ max v (s.size : Int) by omega) (lng_v (x := x))
  ·exact lng_ge (x := x) h
theorem lng_ends {x : List ByteArray} {c : Int} (h : endsL x c ≠ []) : lngL 0 (endsL x c) < lngL 0 x := by
 obtain ⟨s, hs, hz, _⟩ := ends_ne.1 h
 have h1 := lng_ge (v := 0) hs
 have : lngL 0 (endsL x c) ≤ lngL 0 x - 1 := lng_le (by omega) (fun t ht => by
  obtain ⟨u, hu, hb⟩ := mem_ends.1 ht
  have h2 := lng_ge (v := 0) hu
  have h3 := congrArg List.length hb
  rw [bytesOf_length, List.length_cons, bytesOf_length] at h3
  omega)
 omega
theorem lng_chain : ∀ (p : List Int) (x : List ByteArray), chainL x p ≠ [] → lngL 0 (chainL x p) ≤ lngL 0 x ∧ (p ≠ [] → lngL 0 (chainL x p) < lngL 0 x)
 | [], x, _ => ⟨Int.le_refl _, fun h => absurd rfl h⟩
 | c :: p, x, h => by
  have hc : endsL x c ≠ [] := fun e => h (by show chainL (endsL x c) p = []; rw [e]; exact chain_nil p)
  have h1 := lng_chain p (endsL x c) h
  have h2 := lng_ends hc
  have h3 : lngL 0 (chainL x (c :: p)) ≤ lngL 0 (endsL x c) := h1.1
  exact ⟨by omega, fun _ => by omega⟩
theorem lt_of_lng {x y : List ByteArray} (h : lngL 0 y < lngL 0 x) : setLt x y = true := by
 unfold setLt
 rw [if_neg (by omega), decide_eq_true h]
theorem srtd_idx {A : List (List ByteArray)} (hs : Srtd A) {i j : Nat} (hi : i < A.length) (hj : j < A.length) (h : setLt A[i] A[j] = true) : i < j := by
 rcases Nat.lt_trichotomy i j with h1 | h1 | h1
 ·exact h1
 ·subst h1
  rw [setLt_irrefl] at h
  cases h
 ·have := List.pairwise_iff_getElem.1 hs j i hj hi h1
  rw [setLt_asymm this] at h
  cases h
noncomputable def mOf (ws : List ByteArray) : List St := (setsOf ws).map (stL (setsOf ws))
theorem first_set {ws : List ByteArray} (h : wsB ws = true) : ∃ hp : 0 < (setsOf ws).length, (setsOf ws)[0] = ws := by
 obtain ⟨_, g1, g2, _, _⟩ := sets_facts h
 have hw := (g2 ws).2 (.inl rfl)
 obtain ⟨j, hj, e⟩ := List.mem_iff_getElem.1 hw
 have hp : 0 < (setsOf ws).length := by omega
 refine ⟨hp, ?_⟩
 rcases (g2 _).1 (List.getElem_mem hp) with e0 | ⟨hne, p, e0⟩
 ·exact e0
 ·by_cases c : p = []
  ·rw [e0, c]
   rfl
  ·have h1 := lt_of_lng ((lng_chain p ws (e0 ▸ hne)).2 c)
   rw [← e0] at h1
   have := srtd_idx g1 hj hp (by rw [e]; exact h1)
   omega
theorem mOf_at (ws : List ByteArray) (i : Nat) (hi : i < (setsOf ws).length) : rd_T45 (mOf ws) (i : Int) = stL (setsOf ws) (setsOf ws)[i] := by
 simp [rd_T45, mOf, List.getD_eq_getElem?_getD, hi]
theorem edges_ok {n i : Int} (f : Int → Int) : ∀ {cs : List Int} {p : Int}, cs.Pairwise (· < ·) → (∀ c ∈ cs, p < c ∧ 97 ≤ c ∧ c ≤ 122 ∧ i + 1 ≤ f c ∧ f c ≤ n - 1) → edgesFrom n i p (cs.map (fun c => (⟨c, f c⟩ : Eg))) = true
 | [], p, _, _ => rfl
 | c :: cs, p, hp, h => by
  obtain ⟨h1, h2⟩ := List.pairwise_cons.1 hp
  obtain ⟨g1, g2, g3, g4, g5⟩ := h c List.mem_cons_self
  have := edges_ok (n := n) (i := i) f (p := c) h2 (fun d hd => ⟨h1 d hd, (h d (List.mem_cons_of_mem _ hd)).2⟩)
  simp [edgesFrom, g1, g2, g3, g4, g5, this]
theorem pos_after {ws : List ByteArray} (h : wsB ws = true) (i : Nat) (hi : i < (setsOf ws).length) {c : Int} (hc : endsL (setsOf ws)[i] c ≠ []) : i < posL (endsL (setsOf ws)[i] c) (setsOf ws) ∧ posL (endsL (setsOf ws)[i] c) (setsOf ws) < (setsOf ws).length := by
 obtain ⟨_, g1, _, _, _⟩ := sets_facts h
 obtain ⟨h1, h2⟩ := posL_lt (ends_in h (List.getElem_mem hi) hc)
 obtain ⟨_, h3⟩ := List.getElem?_eq_some_iff.1 h2
 exact ⟨srtd_idx g1 hi h1 (by rw [h3]; exact lt_of_lng (lng_ends hc)), h1⟩
theorem ends_first {A : List (List ByteArray)} {x : List ByteArray} (h : SetOk x) : (stL A x).f0 = true ↔ ∃ s ∈ x, bytesOf s = [] := by
 have hz : ∀ s : ByteArray, s.toList.isEmpty = true ↔ bytesOf s = [] := fun s => by
  rw [List.isEmpty_iff, Lib.toList_data, bytesOf, List.map_eq_nil_iff]
 show (decide (0 < x.length) && (rdOf ByteArray.empty x 0).toList.isEmpty) = true ↔ _
 rw [Bool.and_eq_true, decide_eq_true_eq, hz]
 constructor
 ·rintro ⟨h1, h2⟩
  refine ⟨x[0], List.getElem_mem h1, ?_⟩
  rw [← h2]
  congr 1
  exact (ba_get x 0 h1).symm
 ·rintro ⟨s, hs, hb⟩
  obtain ⟨j, hj, rfl⟩ := List.mem_iff_getElem.1 hs
  have hp : 0 < x.length := by omega
  refine ⟨hp, ?_⟩
  rw [show (0 : Int) = ((0 : Nat) : Int) from rfl, ba_get x 0 hp]
  rcases Nat.eq_zero_or_pos j with rfl | h0
  ·exact hb
  ·have := List.pairwise_iff_getElem.1 h.asc 0 j hp hj h0
   unfold ltS at this
   rw [ltS_lexB, hb] at this
   cases hq : bytesOf x[0] with
   | nil => rfl
   | cons a l => rw [hq] at this; simp [lexB] at this
theorem deep_le {ws : List ByteArray} (h : wsB ws = true) : ∀ (i : Nat) (dp : List Int), i ≤ (setsOf ws).length → dp.length = (setsOf ws).length → (∀ j : Nat, j < i → rd dp j = 0) → (∀ j (hj : j < (setsOf ws).length), i ≤ j → 0 ≤ rd dp j ∧ rd dp j ≤ lngL 0 (setsOf ws)[j]) →
  ∀ j (hj : j < (setsOf ws).length), rd (deepGo (mOf ws) i dp) j ≤ lngL 0 (setsOf ws)[j]
 | 0, dp, _, _, _, h2 => fun j hj => (h2 j hj (Nat.zero_le _)).2
 | i + 1, dp, hi, hl, h1, h2 => by
  have hi' : i < (setsOf ws).length := by omega
  have hb := deepFold_bounds (dp := dp) (b := lngL 0 (setsOf ws)[i]) (es := (rd_T45 (mOf ws) (i : Int)).f1) (v := rd dp i) (by rw [h1 i (by omega)]; omega) (by rw [h1 i (by omega)]; exact lng_v) (fun e he => by
   rw [mOf_at ws i hi'] at he
   obtain ⟨c, hc, rfl⟩ := List.mem_map.1 he
   have hc := ((letters_mem _ c).1 hc).2
   obtain ⟨p1, p2⟩ := pos_after h i hi' hc
   have h3 := h2 _ p2 (by omega)
   obtain ⟨_, h4⟩ := List.getElem?_eq_some_iff.1 (posL_lt (ends_in h (List.getElem_mem hi') hc)).2
   rw [h4] at h3
   have h5 := lng_ends hc
   show 0 ≤ rd dp (posL (endsL (setsOf ws)[i] c) (setsOf ws) : Int) ∧ rd dp (posL (endsL (setsOf ws)[i] c) (setsOf ws) : Int) + 1 ≤ _
   exact ⟨h3.1, by omega⟩)
  refine deep_le h i _ (by omega) (by simpa using hl) (fun j hj => ?_) (fun j hj hij => ?_)
  ·have := rd_set_ne dp (i : Int) (j : Int) (deepFold dp (rd dp i) (rd_T45 (mOf ws) (i : Int)).f1) (by omega) (by omega) (by omega)
   rw [Int.toNat_natCast] at this
   rw [this]
   exact h1 j (by omega)
  ·by_cases e : j = i
   ·subst e
    have := rd_set_eq dp (j : Int) (deepFold dp (rd dp j) (rd_T45 (mOf ws) (j : Int)).f1) (by omega) (by omega)
    rw [Int.toNat_natCast] at this
    rw [this]
    exact hb
   ·have := rd_set_ne dp (i : Int) (j : Int) (deepFold dp (rd dp i) (rd_T45 (mOf ws) (i : Int)).f1) (by omega) (by omega) (by omega)
    rw [Int.toNat_natCast] at this
    rw [this]
    exact h2 j hj (by omega)
theorem nonempty_set {ws : List ByteArray} (h : wsB ws = true) (i : Nat) (hi : i < (setsOf ws).length) (h0 : i ≠ 0) : (setsOf ws)[i] ≠ [] := by
 obtain ⟨_, g1, g2, _, _⟩ := sets_facts h
 rcases (g2 _).1 (List.getElem_mem hi) with e | ⟨hne, _⟩
 ·exfalso
  obtain ⟨hp, e0⟩ := first_set h
  have h1 := List.pairwise_iff_getElem.1 g1 0 i hp hi (by omega)
  rw [e, e0, setLt_irrefl] at h1
  cases h1
 ·exact hne
theorem mOf_allOk {ws : List ByteArray} (h : wsB ws = true) : allOk (mOf ws) (mOf ws).length = true := by
 have hl : (mOf ws).length = (setsOf ws).length := List.length_map _
 refine allOk_of (fun i hi => ?_)
 rw [hl] at hi
 have hok := (sets_facts h).2.2.2.1 _ (List.getElem_mem hi)
 unfold stOk
 rw [mOf_at ws i hi, Bool.and_eq_true]
 refine ⟨edges_ok (fun c => (posL (endsL (setsOf ws)[i] c) (setsOf ws) : Int)) (letters_asc _) (fun c hc => ?_), ?_⟩
 ·obtain ⟨h1, h2⟩ := (letters_mem _ c).1 hc
  obtain ⟨p1, p2⟩ := pos_after h i hi h2
  rw [hl]
  exact ⟨by omega, h1.1, h1.2, by omega, by omega⟩
 ·by_cases h0 : i = 0
  ·subst h0
   simp
  ·obtain ⟨s, hs⟩ := List.exists_mem_of_ne_nil _ (nonempty_set h i hi h0)
   by_cases hz : 0 < s.size
   ·have hc : bt s 0 ∈ lettersL (setsOf ws)[i] := (letters_mem _ _).2 ⟨letter_in hok (ends_ne.2 ⟨s, hs, hz, rfl⟩), ends_ne.2 ⟨s, hs, hz, rfl⟩⟩
    have : (stL (setsOf ws) (setsOf ws)[i]).f1.isEmpty = false := by
     rw [Bool.eq_false_iff, Ne, List.isEmpty_iff]
     intro e
     have e2 := List.map_eq_nil_iff.1 e
     rw [e2] at hc
     cases hc
    rw [this]
    simp
   ·have : (stL (setsOf ws) (setsOf ws)[i]).f0 = true := (ends_first hok).2 ⟨s, hs, List.length_eq_zero_iff.1 (by rw [bytesOf_length]; omega)⟩
    rw [this]
    simp
theorem mOf_ok {ws : List ByteArray} (h : wsB ws = true) (hA : (setsOf ws).length ≤ 400) : machOk (mOf ws) = true := by
 have hl : (mOf ws).length = (setsOf ws).length := List.length_map _
 obtain ⟨hp, e0⟩ := first_set h
 unfold machOk
 have hd := deep_le h (setsOf ws).length (List.replicate (setsOf ws).length 0) (Nat.le_refl _) (by simp) (fun j hj => rd_replicate _ _ _ (by omega) (by omega)) (fun j hj hij => by omega) 0 hp
 rw [mOf_allOk h, hl, decide_eq_true (show 1 ≤ (setsOf ws).length by omega), decide_eq_true hA]
 simp only [Bool.true_and, decide_eq_true_eq]
 refine Int.le_trans hd (lng_le (by omega) (fun s hs => ?_))
 rw [e0] at hs
 have := (set_ws h).txt s hs
 omega
theorem hop_map (f : Int → Int) (c : Int) : ∀ cs : List Int, hop c (cs.map (fun c => (⟨c, f c⟩ : Eg))) = if c ∈ cs then f c else -1
 | [] => by simp [hop]
 | d :: cs => by
  rw [List.map_cons, hop, hop_map f c cs]
  by_cases e : d = c
  ·subst e
   simp
  ·rw [if_neg e]
   simp [Ne.symm e]
theorem acc_iff {ws : List ByteArray} (h : wsB ws = true) : ∀ (l : List Int) (i : Nat) (hi : i < (setsOf ws).length), accL (mOf ws) l (i : Int) = true ↔ ∃ s ∈ (setsOf ws)[i], bytesOf s = l
 | [], i, hi => by
  rw [accL, mOf_at ws i hi]
  exact ends_first ((sets_facts h).2.2.2.1 _ (List.getElem_mem hi))
 | c :: l, i, hi => by
  have hok := (sets_facts h).2.2.2.1 _ (List.getElem_mem hi)
  rw [accL, mOf_at ws i hi]
  show (decide (0 ≤ hop c (edgesL (setsOf ws) (setsOf ws)[i])) && accL (mOf ws) l (hop c (edgesL (setsOf ws) (setsOf ws)[i]))) = true ↔ _
  unfold edgesL
  rw [hop_map (fun c => (posL (endsL (setsOf ws)[i] c) (setsOf ws) : Int))]
  by_cases hc : endsL (setsOf ws)[i] c = []
  ·rw [if_neg (fun e => ((letters_mem _ c).1 e).2 hc)]
   constructor
   ·intro e
    simp at e
   ·rintro ⟨s, hs, hb⟩
    exfalso
    have hz : 0 < s.size := by rw [← bytesOf_length, hb]; simp
    rw [bytes_cons hz] at hb
    exact ends_ne.2 ⟨s, hs, hz, (List.cons.inj hb).1⟩ hc
  ·rw [if_pos ((letters_mem _ c).2 ⟨letter_in hok hc, hc⟩)]
   obtain ⟨h1, h2⟩ := posL_lt (ends_in h (List.getElem_mem hi) hc)
   obtain ⟨_, h3⟩ := List.getElem?_eq_some_iff.1 h2
   rw [decide_eq_true (by omega), Bool.true_and, acc_iff h l _ h1, h3]
   constructor
   ·rintro ⟨t, ht, rfl⟩
    exact mem_ends.1 ht
   ·rintro ⟨s, hs, hb⟩
    have hz : 0 < s.size := by rw [← bytesOf_length, hb]; simp
    have hb2 := bytes_cons hz
    rw [hb] at hb2
    have e2 := (List.cons.inj hb2).2
    exact ⟨s.extract 1 s.size, mem_ends.2 ⟨s, hs, by rw [hb, e2]⟩, e2.symm⟩
theorem mOf_knows {ws : List ByteArray} (h : wsB ws = true) (hA : (setsOf ws).length ≤ 400) (w : ByteArray) : knows (mOf ws) w = true ↔ w ∈ ws := by
 obtain ⟨hp, e0⟩ := first_set h
 have := acc_iff h (bytesOf w) 0 hp
 rw [e0] at this
 rw [knows_acc (mOf_ok h hA), show (0 : Int) = ((0 : Nat) : Int) from rfl, this]
 constructor
 ·rintro ⟨s, hs, hb⟩
  rw [← bytes_inj hb]
  exact hs
 ·exact fun hw => ⟨w, hw, rfl⟩
theorem cntFold_few {dp : List Int} (hb : cntB dp) : ∀ {es : List Eg} {v : Int}, v + sumE dp es < 1000000000 → cntFold dp v es = v + sumE dp es
 | [], v, _ => by simp [cntFold, sumE]
 | e :: es, v, h => by
  have h1 := sumE_nonneg hb es
  rw [sumE] at h ⊢
  rw [cntFold, mn_min, show min (v + rd dp e.f1) 1000000000 = v + rd dp e.f1 by omega, cntFold_few hb (by omega)]
  omega
theorem letter_sum (x : List ByteArray) : ∀ (cs : List Int), cs.Nodup → (∀ s ∈ x, 0 < s.size → bt s 0 ∈ cs) → (cs.map (fun c => ((endsL x c).length : Int))).sum = ((x.filter (fun s => decide (0 < s.size))).length : Int) := by
 induction x with
 | nil => intro cs _ _; induction cs with
  | nil => rfl
  | cons c cs ih => rw [List.map_cons, List.sum_cons, ih (List.nodup_cons.1 (by assumption)).2 (by simp)]; rfl
 | cons s x ih =>
  intro cs hn hc
  have h1 := ih cs hn (fun t ht => hc t (List.mem_cons_of_mem _ ht))
  have one : ∀ (cs : List Int), cs.Nodup → (cs.map (fun c => ((endsL (s :: x) c).length : Int))).sum = (if 0 < s.size ∧ bt s 0 ∈ cs then 1 else 0) + (cs.map (fun c => ((endsL x c).length : Int))).sum := by
   intro cs
   induction cs with
   | nil => intro _; simp
   | cons c cs ihc =>
    intro hn
    obtain ⟨n1, n2⟩ := List.nodup_cons.1 hn
    rw [List.map_cons, List.sum_cons, List.map_cons, List.sum_cons, ihc n2, endsL_cons, List.length_append]
    by_cases z : 0 < s.size
    ·by_cases e : bt s 0 = c
     ·subst e
      rw [if_pos ⟨z, rfl⟩, if_neg (fun h => n1 h.2), if_pos ⟨z, List.mem_cons_self⟩]
      simp only [List.length_singleton]
      omega
     ·rw [if_neg (fun h => e h.2)]
      by_cases k : bt s 0 ∈ cs
      ·rw [if_pos ⟨z, k⟩, if_pos ⟨z, List.mem_cons_of_mem _ k⟩]
       simp only [List.length_nil]
       omega
      ·rw [if_neg (fun h => k h.2), if_neg (fun h => (List.mem_cons.1 h.2).elim e k)]
       simp only [List.length_nil]
       omega
    ·rw [if_neg (fun h => z h.1), if_neg (fun h => z h.1), if_neg (fun h => z h.1)]
     simp only [List.length_nil]
     omega
  rw [one cs hn, h1, List.filter_cons]
  by_cases z : 0 < s.size
  ·rw [if_pos ⟨z, hc s List.mem_cons_self z⟩, if_pos (decide_eq_true z), List.length_cons]
   omega
  ·rw [if_neg (fun h => z h.1), if_neg (by simpa using z)]
   omega
theorem nonempty_many {x : List ByteArray} (ha : Asc x) : (x.length : Int) = (if (∃ s ∈ x, bytesOf s = []) then 1 else 0) + ((x.filter (fun s => decide (0 < s.size))).length : Int) := by
 have hz : ∀ s : ByteArray, bytesOf s = [] ↔ s.size = 0 := fun s => by rw [← List.length_eq_zero_iff, bytesOf_length]
 have rest : ∀ y : List ByteArray, (∀ t ∈ y, 0 < t.size) → y.filter (fun s => decide (0 < s.size)) = y := fun y hy => List.filter_eq_self.2 (fun t ht => decide_eq_true (hy t ht))
 cases x with
 | nil => simp
 | cons s x =>
  obtain ⟨h1, h2⟩ := List.pairwise_cons.1 ha
  have hx : ∀ t ∈ x, 0 < t.size := fun t ht => by
   have h3 := h1 t ht
   unfold ltS at h3
   rw [ltS_lexB] at h3
   rcases Nat.eq_zero_or_pos t.size with h4 | h4
   ·rw [(hz t).2 h4] at h3
    cases bytesOf s <;> simp [lexB] at h3
   ·exact h4
  rw [List.filter_cons, rest x hx]
  by_cases z : 0 < s.size
  ·rw [if_pos (show decide (0 < s.size) = true from decide_eq_true z), if_neg]
   ·simp
   ·rintro ⟨t, ht, hb⟩
    rcases List.mem_cons.1 ht with rfl | ht
    ·have := (hz t).1 hb
     omega
    ·have := hx t ht
     have := (hz t).1 hb
     omega
  ·rw [if_neg (show ¬ decide (0 < s.size) = true from fun e => z (of_decide_eq_true e)), if_pos (show ∃ t ∈ s :: x, bytesOf t = [] from ⟨s, List.mem_cons_self, (hz s).2 (by omega)⟩), List.length_cons]
   omega
theorem sumE_map (dp : List Int) (f g : Int → Int) : ∀ cs : List Int, (∀ c ∈ cs, rd dp (f c) = g c) → sumE dp (cs.map (fun c => (⟨c, f c⟩ : Eg))) = (cs.map g).sum
 | [], _ => rfl
 | c :: cs, h => by
  rw [List.map_cons, sumE, List.map_cons, List.sum_cons, sumE_map dp f g cs (fun d hd => h d (List.mem_cons_of_mem _ hd)), h c List.mem_cons_self]
theorem mOf_cnt {ws : List ByteArray} (h : wsB ws = true) (d : Nat) : ∀ i (hi : i < (setsOf ws).length), (setsOf ws).length ≤ i + d → rd (cnts (mOf ws)) (i : Int) = ((setsOf ws)[i].length : Int) := by
 have hl : (mOf ws).length = (setsOf ws).length := List.length_map _
 obtain ⟨hb, hf⟩ := cnts_facts (mOf ws) (mOf_allOk h)
 induction d with
 | zero => intro i hi h1; omega
 | succ d ih =>
  intro i hi h1
  have hok := (sets_facts h).2.2.2.1 _ (List.getElem_mem hi)
  rw [hf i (by omega), mOf_at ws i hi]
  have hsum : sumE (cnts (mOf ws)) (stL (setsOf ws) (setsOf ws)[i]).f1 = (((setsOf ws)[i].filter (fun s => decide (0 < s.size))).length : Int) := by
   show sumE _ (edgesL _ _) = _
   unfold edgesL
   rw [sumE_map _ (fun c => (posL (endsL (setsOf ws)[i] c) (setsOf ws) : Int)) (fun c => ((endsL (setsOf ws)[i] c).length : Int)) _ (fun c hc => ?_)]
   ·exact letter_sum _ _ ((letters_asc _).imp (fun h e => by omega)) (fun s hs hz => (letters_mem _ _).2 ⟨letter_in hok (ends_ne.2 ⟨s, hs, hz, rfl⟩), ends_ne.2 ⟨s, hs, hz, rfl⟩⟩)
   ·have hc := ((letters_mem _ c).1 hc).2
    obtain ⟨p1, p2⟩ := pos_after h i hi hc
    obtain ⟨_, h3⟩ := List.getElem?_eq_some_iff.1 (posL_lt (ends_in h (List.getElem_mem hi) hc)).2
    rw [ih _ p2 (by omega), h3]
  have hm := nonempty_many hok.asc
  have hlen := hok.len
  have hfe := ends_first (A := setsOf ws) hok
  by_cases e : (stL (setsOf ws) (setsOf ws)[i]).f0 = true
  ·rw [if_pos (hfe.1 e)] at hm
   rw [if_pos e, cntFold_few hb (by rw [hsum]; omega), hsum]
   exact hm.symm
  ·rw [if_neg (fun k => e (hfe.2 k))] at hm
   rw [if_neg e, cntFold_few hb (by rw [hsum]; omega), hsum]
   exact hm.symm
theorem mOf_count {ws : List ByteArray} (h : wsB ws = true) (hA : (setsOf ws).length ≤ 400) : rd (cnts (mOf ws)) 0 = (ws.length : Int) ∧ mcountB (mOf ws) = (ws.length : Int) := by
 obtain ⟨hp, e0⟩ := first_set h
 have h1 := mOf_cnt h (setsOf ws).length 0 hp (by omega)
 rw [e0] at h1
 exact ⟨h1, (if_pos (mOf_ok h hA)).trans h1⟩
theorem moB_small (ws : List ByteArray) : (moB ws).1.length ≤ 400 ∧ ∀ s ∈ (moB ws).1, s.f1.length ≤ 26 := by
 unfold moB
 split
 ·split
  ·exact ⟨by simp, by simp⟩
  ·refine ⟨by simp; omega, fun s hs => ?_⟩
   obtain ⟨x, _, rfl⟩ := List.mem_map.1 hs
   show (edgesL _ x).length ≤ 26
   unfold edgesL
   rw [List.length_map]
   have h2 : (lettersL x).length ≤ 26 := by
    unfold lettersL lettersD
    refine Nat.le_trans (List.length_filter_le _ _) ?_
    simp
   exact h2
 ·exact ⟨by simp, by simp⟩
theorem moB_true {ws : List ByteArray} (h : (moB ws).2 = true) : wsB ws = true ∧ (setsOf ws).length ≤ 400 ∧ (moB ws).1 = mOf ws := by
 unfold moB at h ⊢
 split at h
 ·rename_i h1
  split at h
  ·cases h
  ·rename_i h2
   rw [if_pos h1, if_neg h2]
   exact ⟨h1, by omega, rfl⟩
 ·cases h
theorem drawMO_ev (l : List Int) (hw : ∀ x ∈ l, (Lit.int .u8 x).wf = true) : ∃ ws, Ev (fun k => spec_DrawMachineOf.f k l) ws ∧ ws.length ≤ 41 ∧ ∀ s ∈ ws, s.size ≤ 1000 := by
 obtain ⟨t, hs, hr⟩ := open_ev l hw
 obtain ⟨ws, p, h1, ⟨w1, w2, _⟩, q1, q2⟩ := words13_ev hr (by omega)
 obtain ⟨v, hv, v0, v1⟩ := pick_ev (hr.at_ p (by omega) (by omega)) 10 (by omega)
 have hz : ∀ s ∈ ws, s.size ≤ 1000 := fun s h => by have := w2 s h; omega
 unfold spec_DrawMachineOf.f spec_l13AnyWords.f
 by_cases c : v = 0
 ·obtain ⟨x, p', hx, x1, _, _⟩ := any13_ev (hr.at_ (p + 1) (by omega) (by omega)) (by omega)
  refine ⟨ws ++ [x], evCall hs (Ev.bind (Ev.bind h1 (Ev.bind hv (evPos c (Ev.bind hx (evPos (by dsimp only; omega) (Ev.now _)))))) (Ev.now _)), by simp; omega, fun s h => ?_⟩
  rcases List.mem_append.1 h with h | h
  ·exact hz s h
  ·rw [List.mem_singleton.1 h]
   omega
 ·exact ⟨ws, evCall hs (Ev.bind (Ev.bind h1 (Ev.bind hv (evNeg c (Ev.now _)))) (Ev.now _)), by omega, hz⟩
theorem st_get (l : List St) (i : Nat) (h : i < l.length) : rd_T45 l (i : Int) = l[i] := by simp [rd_T45, List.getD_eq_getElem?_getD, h]
theorem eg_get (l : List Eg) (i : Nat) (h : i < l.length) : rd_T49 l (i : Int) = l[i] := by simp [rd_T49, List.getD_eq_getElem?_getD, h]
theorem md_edges (a b : List St) (i : Nat) (hi : i < a.length) (hi2 : i < b.length) (hl : a.length ≤ 10000) (he : a[i].f1.length ≤ 10000) (hee : a[i].f1.length = b[i].f1.length) (next : ∃ r, Ev (fun k => laws_mdMachine.l0 k a b ((i + 1 : Nat) : Int)) r ∧ (r = true ↔ a.drop (i + 1) = b.drop (i + 1))) (d : Nat) : ∀ j : Nat, j + d = a[i].f1.length →
  ∃ r, Ev (fun k => laws_mdMachine.l1 k a b (i : Int) (j : Int)) r ∧ (r = true ↔ (a[i].f1.drop j = b[i].f1.drop j ∧ a.drop (i + 1) = b.drop (i + 1))) := by
 induction d with
 | zero =>
  intro j hj
  obtain ⟨r, hr, hq⟩ := next
  refine ⟨r, Ev.step (fun k => laws_mdMachine.l1.eq_2 ..) (eP (eP ?_)), ?_⟩
  ·rw [st_get a i hi, w6 (n := (i : Int) + 1)]
   exact evNeg (by omega) hr
  ·rw [List.drop_eq_nil_of_le (by omega), List.drop_eq_nil_of_le (by omega), hq]
   simp
 | succ d ih =>
  intro j hj
  have h1 : j < a[i].f1.length := by omega
  have h2 : j < b[i].f1.length := by omega
  by_cases e : a[i].f1[j] = b[i].f1[j]
  ·obtain ⟨r, hr, hq⟩ := ih (j + 1) (by omega)
   refine ⟨r, Ev.step (fun k => laws_mdMachine.l1.eq_2 ..) (eP (eP ?_)), ?_⟩
   ·rw [st_get a i hi, st_get b i hi2, eg_get _ j h1, eg_get _ j h2, w6 (n := (j : Int) + 1)]
    exact eP (eP (eP (eP (evNeg (by rw [e]; simp) hr))))
   ·rw [hq, List.drop_eq_getElem_cons h1, List.drop_eq_getElem_cons h2, e]
    exact ⟨fun h => ⟨by rw [h.1], h.2⟩, fun h => ⟨(List.cons.inj h.1).2, h.2⟩⟩
  ·refine ⟨false, Ev.step (fun k => laws_mdMachine.l1.eq_2 ..) (eP (eP ?_)), ?_⟩
   ·rw [st_get a i hi, st_get b i hi2, eg_get _ j h1, eg_get _ j h2]
    refine eP (eP (eP (eP (evPos ?_ (Ev.now _)))))
    simp only [Bool.or_eq_true, Bool.not_eq_true', beq_eq_false_iff_ne]
    by_cases e2 : a[i].f1[j].f0 = b[i].f1[j].f0
    ·right
     intro e3
     exact e (by cases h : a[i].f1[j]; cases k : b[i].f1[j]; rw [h, k] at e2 e3; simp only at e2 e3; rw [e2, e3])
    ·exact .inl e2
   ·rw [List.drop_eq_getElem_cons h1, List.drop_eq_getElem_cons h2]
    exact ⟨fun h => (Bool.false_ne_true h).elim, fun h => absurd (List.cons.inj h.1).1 e⟩
theorem md_loop (a b : List St) (hab : a.length = b.length) (hl : a.length ≤ 10000) (he : ∀ s ∈ a, s.f1.length ≤ 10000) (d : Nat) : ∀ i : Nat, i + d = a.length → ∃ r, Ev (fun k => laws_mdMachine.l0 k a b (i : Int)) r ∧ (r = true ↔ a.drop i = b.drop i) := by
 induction d with
 | zero =>
  intro i hi
  refine ⟨true, Ev.step (fun k => laws_mdMachine.l0.eq_2 ..) (eN (Ev.now _)), ?_⟩
  rw [List.drop_eq_nil_of_le (by omega), List.drop_eq_nil_of_le (by omega)]
  simp
 | succ d ih =>
  intro i hi
  have h1 : i < a.length := by omega
  have h2 : i < b.length := by omega
  have hn := ih (i + 1) (by omega)
  rw [List.drop_eq_getElem_cons h1, List.drop_eq_getElem_cons h2]
  by_cases e0 : a[i].f0 = b[i].f0
  ·by_cases e1 : a[i].f1.length = b[i].f1.length
   ·obtain ⟨r, hr, hq⟩ := md_edges a b i h1 h2 hl (he _ (List.getElem_mem h1)) e1 hn a[i].f1.length 0 (by omega)
    refine ⟨r, Ev.step (fun k => laws_mdMachine.l0.eq_2 ..) (eP (eP (eP ?_))), ?_⟩
    ·rw [st_get a i h1, st_get b i h2]
     exact evNeg (by rw [e0]; simp) (Ev.step (fun k => laws_mdMachine.j1.eq_2 ..) (evNeg (by rw [e1]; simp) hr))
    ·rw [hq, List.drop_zero, List.drop_zero, List.cons.injEq]
     constructor
     ·rintro ⟨h3, h4⟩
      refine ⟨?_, h4⟩
      cases h : a[i]
      cases k : b[i]
      rw [h, k] at e0 h3
      simp only at e0 h3
      rw [e0, h3]
     ·rintro ⟨h3, h4⟩
      exact ⟨by rw [h3], h4⟩
   ·refine ⟨false, Ev.step (fun k => laws_mdMachine.l0.eq_2 ..) (eP (eP (eP ?_))), ?_⟩
    ·rw [st_get a i h1, st_get b i h2]
     refine evNeg (by rw [e0]; simp) (Ev.step (fun k => laws_mdMachine.j1.eq_2 ..) (evPos ?_ (Ev.now _)))
     rw [bne_iff_ne]
     omega
    ·constructor
     ·intro h
      cases h
     ·intro h
      exact absurd (by rw [(List.cons.inj h).1]) e1
  ·refine ⟨false, Ev.step (fun k => laws_mdMachine.l0.eq_2 ..) (eP (eP (eP ?_))), ?_⟩
   ·rw [st_get a i h1, st_get b i h2]
    exact evPos (by rw [bne_iff_ne]; exact e0) (Ev.step (fun k => laws_mdMachine.j1.eq_2 ..) (evPos rfl (Ev.now _)))
   ·constructor
    ·intro h
     cases h
    ·intro h
     exact absurd (by rw [(List.cons.inj h).1]) e0
theorem md_ev (a b : List St) (hl : a.length ≤ 10000) (he : ∀ s ∈ a, s.f1.length ≤ 10000) : ∃ r, Ev (fun k => laws_mdMachine.f k a b) r ∧ (r = true ↔ a = b) := by
 unfold laws_mdMachine.f
 by_cases h : a.length = b.length
 ·obtain ⟨r, hr, hq⟩ := md_loop a b h hl he a.length 0 (by omega)
  rw [List.drop_zero, List.drop_zero] at hq
  exact ⟨r, evPos (by omega) hr, hq⟩
 ·exact ⟨false, eN (Ev.now _), ⟨fun e => (Bool.false_ne_true e).elim, fun e => absurd (by rw [e]) h⟩⟩
theorem md_self (a : List St) (hl : a.length ≤ 10000) (he : ∀ s ∈ a, s.f1.length ≤ 10000) : Ev (fun k => laws_mdMachine.f k a a) true := by
 obtain ⟨r, hr, hq⟩ := md_ev a a hl he
 rw [hq.2 rfl] at hr
 exact hr
theorem mcount_impl (m : List St) (hm : m.length ≤ 1048576) (hs : ∀ s ∈ m, s.f1.length ≤ 1048576) : Ev (fun k => impl_MachineCount.f k m) (mcountB m) := by
 have s1 := machOk_impl m hm hs
 unfold impl_MachineCount.f mcountB
 cases e : machOk m with
 | false =>
  rw [e] at s1
  rw [if_neg (by simp)]
  exact Ev.bind s1 (evNeg (by simp) (Ev.now _))
 | true =>
  rw [e] at s1
  rw [if_pos rfl]
  obtain ⟨g1, g2, g3⟩ := machOk_facts e
  have hl := cnts_len m
  exact Ev.bind s1 (evPos rfl (Ev.bind (counts_impl m hs e) (eP (Ev.now _))))
theorem step_impl (b : Bool) (x : Int) (l : List Eg) (hl : l.length ≤ 1048576) (es : List Eg) : ∀ pre : List Eg, l = pre ++ es → Ev (fun n => impl_State_step.l0 n x l (l.length : Int) (pre.length : Int)) (hop (wrap64 x) es) := by
 induction es with
 | nil =>
  intro pre hp
  rw [List.append_nil] at hp
  exact Ev.step (fun n => impl_State_step.l0.eq_2 _ _ _ _ _) (evNeg (by rw [← hp]; exact Int.lt_irrefl _) (Ev.now _))
 | cons e es ih =>
  intro pre hp
  have hlen : l.length = pre.length + (es.length + 1) := by rw [hp]; simp
  have hat : rd_T49 l (pre.length : Int) = e := by simp [rd_T49, hp, List.getD_eq_getElem?_getD]
  have hpl : ((pre ++ [e]).length : Int) = (pre.length : Int) + 1 := by simp
  have hp' : l = (pre ++ [e]) ++ es := by rw [hp]; simp
  refine Ev.step (fun n => impl_State_step.l0.eq_2 _ _ _ _ _) (eP (eP (eP ?_)))
  rw [hat]
  simp only [hop]
  by_cases g : e.f0 = wrap64 x
  ·rw [if_pos g]
   exact evPos g (Ev.now _)
  ·rw [if_neg g, w6 (n := (pre.length : Int) + 1), ← hpl]
   exact evNeg g (ih (pre ++ [e]) hp')
theorem follow_val (m : List St) (hm : m.length ≤ 400) (hs : ∀ s ∈ m, s.f1.length ≤ 1048576) (hok : allOk m m.length = true) (w : ByteArray) (hw : w.size ≤ 1048576) (d : Nat) : ∀ i at_ : Nat, i + d = w.size → at_ < m.length →
  Ev (fun n => impl_follow.l0 n m w (at_ : Int) (w.size : Int) (i : Int)) (trail m w d i at_) ∧ trail m w d i at_ < m.length := by
 induction d with
 | zero =>
  intro i a hi ha
  exact ⟨Ev.step (fun n => impl_follow.l0.eq_2 _ _ _ _ _ _) (eN (Ev.now _)), by simp only [trail]; omega⟩
 | succ d ih =>
  intro i a hi ha
  have hz := stAt_small hs (a : Int)
  have hb := hop_bounds (c := wrap64 (bt w i)) (ok_to (n := 0) hok a ha)
  have hstep : Ev (fun n => impl_State_step.f n (rd_T45 m a).f0 (rd_T45 m a).f1 (bt w i)) (hop (wrap64 (bt w i)) (rd_T45 m a).f1) := step_impl (rd_T45 m a).f0 (bt w i) (rd_T45 m a).f1 hz (rd_T45 m a).f1 [] rfl
  by_cases c : hop (wrap64 (bt w i)) (rd_T45 m a).f1 < 0
  ·have e : trail m w (d + 1) i a = -1 := by simp only [trail]; rw [if_pos c]
   rw [e]
   exact ⟨Ev.step (fun n => impl_follow.l0.eq_2 _ _ _ _ _ _) (eP (eP (eP (eP (eP (Ev.bind hstep (evPos c (Ev.now _)))))))), by omega⟩
  ·have e : trail m w (d + 1) i a = trail m w d (i + 1) (hop (wrap64 (bt w i)) (rd_T45 m a).f1) := by simp only [trail]; rw [if_neg c]
   rw [e]
   obtain ⟨h2, h3⟩ := ih (i + 1) (hop (wrap64 (bt w i)) (rd_T45 m a).f1).toNat (by omega) (by omega)
   rw [show (((hop (wrap64 (bt w i)) (rd_T45 m a).f1).toNat : Nat) : Int) = hop (wrap64 (bt w i)) (rd_T45 m a).f1 from by omega] at h2 h3
   refine ⟨Ev.step (fun n => impl_follow.l0.eq_2 _ _ _ _ _ _) (eP (eP (eP (eP (eP (Ev.bind hstep (evNeg c ?_))))))), h3⟩
   rw [w6 (n := (i : Int) + 1)]
   exact h2
theorem knows_impl (m : List St) (hm : m.length ≤ 1048576) (hs : ∀ s ∈ m, s.f1.length ≤ 1048576) (w : ByteArray) (hw : w.size ≤ 1048576) : Ev (fun n => impl_MachineKnows.f n m w) (knows m w) := by
 have i1 := machOk_impl m hm hs
 unfold impl_MachineKnows.f knows
 cases e : machOk m with
 | false =>
  rw [e] at i1
  exact Ev.bind i1 (evNeg (by simp) (Ev.now _))
 | true =>
  rw [e] at i1
  obtain ⟨g1, g2, g3⟩ := machOk_facts e
  obtain ⟨h2, h3⟩ := follow_val m g2 hs g3 w hw w.size 0 0 (by omega) (by omega)
  have h3' : trail m w w.size 0 0 < m.length := h3
  rw [Bool.true_and]
  by_cases c : trail m w w.size 0 0 ≥ 0
  ·rw [decide_eq_true (show 0 ≤ trail m w w.size 0 0 from c), Bool.true_and]
   exact Ev.bind i1 (evPos rfl (Ev.bind h2 (evPos c (evPos c (evPos h3' (Ev.now _))))))
  ·rw [decide_eq_false (show ¬ 0 ≤ trail m w w.size 0 0 from c), Bool.false_and]
   exact Ev.bind i1 (evPos rfl (Ev.bind h2 (evNeg c (Ev.now _))))
theorem all_less {ws less : List ByteArray} (h : wsB less = true) (hA : (setsOf less).length ≤ 400) (hz : ∀ s ∈ less, s.size ≤ 1000) (he : ∀ s ∈ mOf less, s.f1.length ≤ 26) (hl : (mOf less).length ≤ 400) (q : Nat) (hq : q < ws.length) (hwl : ws.length ≤ 10000) (hzq : ws[q].size ≤ 1000) (hno : ws[q] ∉ less) (hlen : less.length + 1 = ws.length) (d : Nat) : ∀ i : Nat, i + d = less.length →
  Ev (fun k => laws_FnMachineDrop.l0 k ws (q : Int) less (mOf less) (i : Int)) true := by
 have hs1 : ∀ s ∈ mOf less, s.f1.length ≤ 1048576 := fun s hs => by have := he s hs; omega
 induction d with
 | zero =>
  intro i hi
  have h1 := knows_impl (mOf less) (by omega) hs1 ws[q] (by omega)
  have hk : knows (mOf less) ws[q] = false := Bool.eq_false_iff.2 (fun e => hno ((mOf_knows h hA _).1 e))
  rw [hk] at h1
  have h2 := mcount_impl (mOf less) (by omega) hs1
  rw [(mOf_count h hA).2] at h2
  refine Ev.step (fun k => laws_FnMachineDrop.l0.eq_2 ..) (eN (eP (eP ?_)))
  rw [ba_get ws q hq]
  refine Ev.bind h1 (evNeg (by simp) (Ev.bind h2 (evTo (Ev.now _) ?_)))
  rw [w6, beq_iff_eq]
  omega
 | succ d ih =>
  intro i hi
  have hlt : i < less.length := by omega
  have hsz := hz _ (List.getElem_mem hlt)
  have h1 := knows_impl (mOf less) (by omega) hs1 less[i] (by omega)
  rw [(mOf_knows h hA _).2 (List.getElem_mem hlt)] at h1
  refine Ev.step (fun k => laws_FnMachineDrop.l0.eq_2 ..) (eP (eP ?_))
  rw [ba_get less i hlt, w6 (n := (i : Int) + 1)]
  exact Ev.bind h1 (evPos rfl (ih (i + 1) (by omega)))
theorem drop_ev (l0 l1 : List Int) (hw : ∀ x ∈ l0, (Lit.int .u8 x).wf = true) : Ev (fun k => laws_FnMachineDrop.j0 k l0 l1 false) true := by
 obtain ⟨ws, hd, h1, h2⟩ := drawMO_ev l0 hw
 have h2' : ∀ s ∈ ws, s.size ≤ 1048576 := fun s hs => by have := h2 s hs; omega
 obtain ⟨s1, s2⟩ := moB_small ws
 have hself := md_self (moB ws).1 (by omega) (fun s hs => by have := s2 s hs; omega)
 have stay : Ev (fun k => laws_FnMachineDrop.j1 k l1 ws (moB ws).1 (moB ws).2 (moB ws).1 (moB ws).2 true) true := Ev.step (fun k => laws_FnMachineDrop.j1.eq_2 ..) (evPos rfl (evPos (by simp) (Ev.bind hself (Ev.now _))))
 refine Ev.step (fun k => laws_FnMachineDrop.j0.eq_2 ..) (evNeg (by simp) (Ev.bind hd (Ev.bind (moB_impl ws (by omega) h2') (Ev.bind (moB_spec ws (by omega) h2') (evNeg (by simp) (Ev.bind hself (evPos rfl ?_)))))))
 by_cases e : (moB ws).2 = true
 case neg => exact evNeg e stay
 refine evPos e ?_
 by_cases h0 : ws.length = 0
 ·rw [show (((ws.length : Int)) == 0) = true from by simp [h0]]
  exact stay
 obtain ⟨g1, g2, g3⟩ := moB_true e
 rw [show (((ws.length : Int)) == 0) = false from by simpa using h0]
 have hq : l1.length % ws.length < ws.length := Nat.mod_lt _ (by omega)
 have eq : (l1.length : Int) % (ws.length : Int) = ((l1.length % ws.length : Nat) : Int) := (Int.natCast_emod _ _).symm
 generalize l1.length % ws.length = q at hq eq
 have e1 : wrap64 ((q : Int) + 1) = ((q + 1 : Nat) : Int) := w6
 have hll : (ws.take q ++ ws.drop (q + 1)).length + 1 = ws.length := by
  rw [List.length_append, List.length_take, List.length_drop]
  omega
 have hsub : ∀ s ∈ ws.take q ++ ws.drop (q + 1), s ∈ ws := fun s hs => by
  rcases List.mem_append.1 hs with hs | hs
  ·exact List.mem_of_mem_take hs
  ·exact List.mem_of_mem_drop hs
 have hno : ws[q] ∉ ws.take q ++ ws.drop (q + 1) := by
  have hn : ws.Nodup := (set_ws g1).asc.imp (fun h => ltS_ne h)
  rw [← List.take_append_drop q ws, List.drop_eq_getElem_cons hq, List.nodup_append, List.nodup_cons] at hn
  intro hm
  rcases List.mem_append.1 hm with hm | hm
  ·exact hn.2.2 _ hm _ List.mem_cons_self rfl
  ·exact hn.2.1.1 hm
 have hz : ∀ s ∈ ws.take q ++ ws.drop (q + 1), s.size ≤ 1000 := fun s hs => h2 s (hsub s hs)
 refine Ev.step (fun k => laws_FnMachineDrop.j1.eq_2 ..) (evNeg (by simp) (eN ?_))
 rw [eq, e1, Int.toNat_natCast, Int.toNat_natCast]
 refine evCall rfl (eP (eP (evCall rfl (evPos (by simp; omega) (evCall rfl (eP (eP (evCall rfl (evPos (by simp; omega) (evCall rfl ?_))))))))))
 rw [List.nil_append]
 refine Ev.bind (moB_impl _ (by omega) (fun s hs => by have := hz s hs; omega)) ?_
 by_cases f : (moB (ws.take q ++ ws.drop (q + 1))).2 = true
 ·obtain ⟨k1, k2, k3⟩ := moB_true f
  obtain ⟨t1, t2⟩ := moB_small (ws.take q ++ ws.drop (q + 1))
  rw [k3] at t1 t2
  refine evPos f ?_
  rw [k3]
  exact all_less k1 k2 hz t2 t1 q hq (by omega) (h2 _ (List.getElem_mem hq)) hno hll (ws.take q ++ ws.drop (q + 1)).length 0 (by omega)
 ·exact evNeg f (Ev.now _)
theorem FnMachineDrop : laws_FnMachineDrop.Pure := by
 intro l0 l1 hl hm hw _ _ _
 refine Ev.rounds ?_
 unfold laws_FnMachineDrop.f
 have stop : Ev (fun k => laws_FnMachineDrop.j0 k l0 l1 true) true := Ev.step (fun k => laws_FnMachineDrop.j0.eq_2 ..) (evPos rfl (Ev.now _))
 by_cases c0 : (l0.length : Int) > 1048576
 ·exact evPos c0 stop
 refine evNeg c0 ?_
 by_cases c1 : (l1.length : Int) > 1048576
 ·rw [decide_eq_true c1]
  exact stop
 ·rw [decide_eq_false c1]
  exact drop_ev l0 l1 hw
end Go.Proofs.Ytpljfjbhlboffaa.Pure

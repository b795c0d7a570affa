/- A book is read back from its text: of a drawn book, and of a drawn text. No condition. -/
import Derived.Test.YtiiefpckcgekgaaDoorQFnBookTextx19
import Derived.Test.YtiiefpckcgekgaaDoorVMBas
import Derived.Test.YtiiefpckcgekgaaDoorVMStr
import Derived.Test.YtiiefpckcgekgaaDoorVMAff
import Derived.Test.YtiiefpckcgekgaaDoorVMSml
import Derived.Test.YtiiefpckcgekgaaDoorVMSpl
import Derived.Test.YtiiefpckcgekgaaDoorVSized
namespace Go.Proofs.YtiiefpckcgekgaaDoor
theorem PrintWords.sized_ints : type_of% @Go.Proofs.YtiiefpckcgekgaaDoorW.PrintWords.sized_ints := @Go.Proofs.YtiiefpckcgekgaaDoorW.PrintWords.sized_ints
end Go.Proofs.YtiiefpckcgekgaaDoor
namespace Go.Proofs.YtiiefpckcgekgaaDoor.Pure
open Go.RowKit Go.Proofs.YtiiefpckcgekgaaDoor.QFnBookText Go.Proofs.YtiiefpckcgekgaaDoorW.PrintWords Go.Proofs.YtiiefpckcgekgaaDoorW.PrintLast Go.Proofs.YtiiefpckcgekgaaDoorW.PrintMore Go.Proofs.YtiiefpckcgekgaaDoor.M
set_option linter.unusedVariables false
set_option linter.unusedSimpArgs false
def Rdr (s : List Int) (p : Int) : Prop := s.length ≤ 2000 ∧ (∀ x ∈ s, 0 ≤ x ∧ x ≤ 255) ∧ 0 ≤ p ∧ p ≤ 1000000000000
theorem Rdr.at_ {s : List Int} {p : Int} (h : Rdr s p) (q : Int) (h0 : 0 ≤ q) (h1 : q ≤ 1000000000000) : Rdr s q := ⟨h.1, h.2.1, h0, h1⟩
theorem rd_range {s : List Int} (h : ∀ x ∈ s, 0 ≤ x ∧ x ≤ 255) (i : Int) : 0 ≤ rd s i ∧ rd s i ≤ 255 := by
 unfold rd
 rw [List.getD_eq_getElem?_getD]
 by_cases c : i.toNat < s.length
 ·rw [List.getElem?_eq_getElem c]
  exact h _ (List.getElem_mem c)
 ·rw [List.getElem?_eq_none (by omega)]
  simp
def pickY (a b p q : Int) : Int := wrap64 (wrap64 (wrap64 (wrap64 (wrap64 a * 131) + wrap64 (wrap64 b * 1117)) + wrap64 (p * 29)) + wrap64 (wrap64 q * 53))
def pickX (a b p q : Int) : Int := Go.bits .xor .i64 (pickY a b p q) (wrap64 (Int.tdiv (pickY a b p q) 64))
theorem pickX_pos (a b p q : Int) (ha : 0 ≤ a ∧ a ≤ 255) (hb : 0 ≤ b ∧ b ≤ 255) (h0 : 0 ≤ p) (h1 : p ≤ 1000000000000) (q0 : 0 ≤ q) (q1 : q ≤ p) : 0 ≤ pickX a b p q := by
 have e : pickY a b p q = a * 131 + b * 1117 + p * 29 + q * 53 := by
  unfold pickY
  rw [w6 (n := a), w6 (n := b), w6 (n := a * 131), w6 (n := b * 1117), w6 (n := p * 29), w6 (n := q), w6 (n := q * 53), w6 (n := a * 131 + b * 1117), w6 (n := a * 131 + b * 1117 + p * 29), w6 (n := a * 131 + b * 1117 + p * 29 + q * 53)]
 unfold pickX
 rw [e]
 have x0 : 0 ≤ a * 131 + b * 1117 + p * 29 + q * 53 := by omega
 have x1 : a * 131 + b * 1117 + p * 29 + q * 53 < 4611686018427387904 := by omega
 generalize a * 131 + b * 1117 + p * 29 + q * 53 = x at *
 have t0 := Int.tdiv_nonneg x0 (show (0 : Int) ≤ 64 from by omega)
 have t1 : Int.tdiv x 64 ≤ x := Int.tdiv_le_self 64 x0
 rw [w6 (n := Int.tdiv x 64)]
 exact xor_small x (Int.tdiv x 64) x0 x1 t0 (by omega)
theorem pick_ev {s : List Int} {p : Int} (h : Rdr s p) (n : Int) (hn : n ≤ 1000000000000000) : ∃ v, Ev (fun k => spec_l1Rd_pick.f k s p n) (v, p + 1) ∧ 0 ≤ v ∧ (v < n ∨ v = 0) := by
 obtain ⟨hl, hb, hp0, hp1⟩ := h
 have hr := rd_range hb
 unfold spec_l1Rd_pick.f
 rw [w6 (n := p + 1)]
 by_cases c : n < 1
 ·exact ⟨0, evPos c (Ev.step (fun k => spec_l1Rd_pick.j0.eq_2 _ _ _ _ _) (evPos rfl (Ev.now _))), by omega, .inr rfl⟩
 by_cases e : s.length = 0
 ·exact ⟨0, evNeg c (Ev.step (fun k => spec_l1Rd_pick.j0.eq_2 _ _ _ _ _) (evPos (by simp [e]) (Ev.now _))), by omega, .inr rfl⟩
 have hlen : 0 < (s.length : Int) := by omega
 have wr (i : Int) : wrap64 (rd s i) = rd s i := w64 (by have := (hr i).1; omega) (by have := (hr i).2; omega)
 by_cases c2 : p < (s.length : Int)
 ·have h1 := hr p
  refine ⟨Int.tmod (rd s p) n, evNeg c (Ev.step (fun k => spec_l1Rd_pick.j0.eq_2 _ _ _ _ _) (evNeg (by simpa using e) ?_)), Int.tmod_nonneg _ h1.1, .inl (Int.tmod_lt_of_pos _ (by omega))⟩
  rw [show p + 1 - 1 = p from by omega, w6 (n := p), wr]
  exact evPos c2 (evPos hp0 (eN (Ev.now _)))
 have m1 := Int.tmod_nonneg (s.length : Int) hp0
 have m2 := Int.tmod_lt_of_pos p hlen
 have m3 := Int.tmod_nonneg (s.length : Int) (show 0 ≤ p * 7 + 3 from by omega)
 have m4 := Int.tmod_lt_of_pos (p * 7 + 3) hlen
 have d1 := Int.tdiv_nonneg hp0 (show 0 ≤ (s.length : Int) from by omega)
 have d2 : Int.tdiv p (s.length : Int) ≤ p := Int.tdiv_le_self (s.length : Int) hp0
 have hz := pickX_pos (rd s (Int.tmod p (s.length : Int))) (rd s (Int.tmod (p * 7 + 3) (s.length : Int))) p (Int.tdiv p (s.length : Int)) (hr _) (hr _) hp0 hp1 d1 d2
 refine ⟨Int.tmod (pickX (rd s (Int.tmod p (s.length : Int))) (rd s (Int.tmod (p * 7 + 3) (s.length : Int))) p (Int.tdiv p (s.length : Int))) n, evNeg c (Ev.step (fun k => spec_l1Rd_pick.j0.eq_2 _ _ _ _ _) (evNeg (by simpa using e) ?_)), Int.tmod_nonneg _ hz, .inl (Int.tmod_lt_of_pos _ (by omega))⟩
 rw [show p + 1 - 1 = p from by omega, w6 (n := p), w6 (n := p * 7), w6 (n := p * 7 + 3)]
 exact evNeg c2 (eN (evPos m1 (evPos m2 (evPos m3 (evPos m4 (eN (Ev.now _)))))))
theorem of_ev {s : List Int} {p : Int} (h : Rdr s p) (l : List ByteArray) (h0 : 0 < l.length) (h1 : l.length ≤ 1000000) : ∃ x ∈ l, Ev (fun k => spec_l1Rd_of.f k s p l) (x, p + 1) := by
 obtain ⟨v, hv, v0, v1⟩ := pick_ev h (l.length : Int) (by omega)
 have v2 : v < (l.length : Int) := by omega
 have hl : v.toNat < l.length := by omega
 refine ⟨l[v.toNat], List.getElem_mem hl, ?_⟩
 unfold spec_l1Rd_of.f
 refine Ev.bind hv (evPos v0 (evPos v2 (evTo (Ev.now _) ?_)))
 simp [rdOf, List.getD_eq_getElem?_getD, List.getElem?_eq_getElem hl]
theorem open_ev (l : List Int) (h : ∀ x ∈ l, (Lit.int .u8 x).wf = true) : ∃ s, spec_l1Open.f l = some (s, 0) ∧ Rdr s 0 := by
 have hb : ∀ x ∈ l, 0 ≤ x ∧ x ≤ 255 := by
  intro x hx
  have := h x hx
  simp [Lit.wf, IntKind.min, IntKind.max, IntKind.signed, IntKind.bits] at this
  omega
 unfold spec_l1Open.f
 by_cases c : (l.length : Int) > 2000
 ·refine ⟨l.take 2000, by rw [if_pos c, if_pos (by omega)], ?_, fun x hx => hb x (List.mem_of_mem_take hx), by omega, by omega⟩
  rw [List.length_take]
  omega
 ·exact ⟨l, by rw [if_neg c], by omega, hb, by omega, by omega⟩
theorem least_spec (a b : Int) : spec_l1Least.f a b = some (min a b) := by
 unfold spec_l1Least.f
 by_cases c : a < b
 ·rw [if_pos c]; congr 1; omega
 ·rw [if_neg c]; congr 1; omega
theorem word13_loop {s : List Int} (d : Nat) : ∀ (x : ByteArray) (n p : Int), Rdr s p → p + d ≤ 1000000000000 → n = d → x.size + 2 * d ≤ 1000000 →
  ∃ r p', Ev (fun k => spec_l13Word.l0 k x n s p) (r, p') ∧ r.size ≤ 12 ∧ p ≤ p' ∧ p' ≤ p + d := by
 induction d with
 | zero =>
  intro x n p h hp hn hx
  refine ⟨x.extract 0 (min x.size 12), p, Ev.step (fun k => spec_l13Word.l0.eq_2 _ _ _ _ _) (eN (evCall (least_spec _ _) ?_)), ?_, by omega, by omega⟩
  ·refine eP (eP (evTo (Ev.now _) ?_))
   congr 3
   omega
  ·rw [size_extract _ _ _ (by omega) (by omega)]
   omega
 | succ d ih =>
  intro x n p h hp hn hx
  have hls : ∀ y ∈ ([(⟨#[97]⟩ : ByteArray), (⟨#[98]⟩ : ByteArray), (⟨#[99]⟩ : ByteArray), (⟨#[97, 98]⟩ : ByteArray), (⟨#[116]⟩ : ByteArray)] : List ByteArray), y.size ≤ 2 := by
   intro y hy
   simp only [List.mem_cons, List.not_mem_nil, or_false] at hy
   rcases hy with rfl | rfl | rfl | rfl | rfl <;> decide
  obtain ⟨y, hy, he⟩ := of_ev h ([(⟨#[97]⟩ : ByteArray), (⟨#[98]⟩ : ByteArray), (⟨#[99]⟩ : ByteArray), (⟨#[97, 98]⟩ : ByteArray), (⟨#[116]⟩ : ByteArray)] : List ByteArray) (by simp) (by simp)
  have hy2 := hls y hy
  obtain ⟨r, p', hr, h1, h2, h3⟩ := ih (x ++ y) (n - 1) (p + 1) (h.at_ _ (by have := h.2.2.1; omega) (by omega)) (by omega) (by omega) (by rw [size_append]; omega)
  refine ⟨r, p', Ev.step (fun k => spec_l13Word.l0.eq_2 _ _ _ _ _) (eP (Ev.bind he (evPos (by dsimp only; omega) ?_))), h1, by omega, by omega⟩
  rw [w6]
  exact hr
theorem word13_ev {s : List Int} {p : Int} (h : Rdr s p) (hp : p ≤ 999999999900) : ∃ r p', Ev (fun k => spec_l13Word.f k s p) (r, p') ∧ r.size ≤ 12 ∧ p ≤ p' ∧ p' ≤ p + 10 := by
 have h0 := h.2.2.1
 obtain ⟨v, hv, v0, v1⟩ := pick_ev h 3 (by omega)
 unfold spec_l13Word.f
 by_cases c : v = 0
 ·obtain ⟨u, hu, u0, u1⟩ := pick_ev (h.at_ (p + 1) (by omega) (by omega)) 5 (by omega)
  obtain ⟨d, hd⟩ := Int.eq_ofNat_of_zero_le (show 0 ≤ 1 + u from by omega)
  obtain ⟨r, p', hr, h1, h2, h3⟩ := word13_loop d (⟨#[]⟩ : ByteArray) (1 + u) (p + 1 + 1) (h.at_ _ (by omega) (by omega)) (by omega) hd (by have : (⟨#[]⟩ : ByteArray).size = 0 := rfl; omega)
  refine ⟨r, p', Ev.bind hv (evPos c (Ev.bind hu ?_)), h1, by omega, by omega⟩
  rw [w64 (by dsimp only; omega) (by dsimp only; omega)]
  exact hr
 ·obtain ⟨y, hy, he⟩ := of_ev (h.at_ (p + 1) (by omega) (by omega)) ([(⟨#[99, 97, 116]⟩ : ByteArray), (⟨#[99, 97, 116, 115]⟩ : ByteArray), (⟨#[97, 99, 116]⟩ : ByteArray), (⟨#[100, 111]⟩ : ByteArray), (⟨#[100, 111, 105, 110, 103]⟩ : ByteArray), (⟨#[103, 111]⟩ : ByteArray), (⟨#[117, 110, 100, 111]⟩ : ByteArray), (⟨#[116, 114, 121]⟩ : ByteArray), (⟨#[116, 114, 105, 101, 115]⟩ : ByteArray), (⟨#[97]⟩ : ByteArray), (⟨#[98, 97, 107, 101]⟩ : ByteArray), (⟨#[98, 97, 107, 105, 110, 103]⟩ : ByteArray), (⟨#[116, 97, 99, 116]⟩ : ByteArray), (⟨#[99, 97, 114, 116]⟩ : ByteArray), (⟨#[97, 98, 99, 97, 98, 99, 97, 98, 99, 97, 98, 99]⟩ : ByteArray)] : List ByteArray) (by simp) (by simp)
  refine ⟨y, p + 1 + 1, Ev.bind hv (evNeg c (Ev.bind he (Ev.now _))), ?_, by omega, by omega⟩
  simp only [List.mem_cons, List.not_mem_nil, or_false] at hy
  rcases hy with rfl | rfl | rfl | rfl | rfl | rfl | rfl | rfl | rfl | rfl | rfl | rfl | rfl | rfl | rfl <;> decide
theorem any13_ev {s : List Int} {p : Int} (h : Rdr s p) (hp : p ≤ 999999999800) : ∃ r p', Ev (fun k => spec_l13AnyWord.f k s p) (r, p') ∧ r.size ≤ 13 ∧ p ≤ p' ∧ p' ≤ p + 11 := by
 have h0 := h.2.2.1
 obtain ⟨v, hv, v0, v1⟩ := pick_ev h 16 (by omega)
 unfold spec_l13AnyWord.f
 by_cases c : v = 0
 ·obtain ⟨y, hy, he⟩ := of_ev (h.at_ (p + 1) (by omega) (by omega)) ([(⟨#[]⟩ : ByteArray), (⟨#[67, 97, 116]⟩ : ByteArray), (⟨#[97, 32, 98]⟩ : ByteArray), (⟨#[97, 98, 99, 97, 98, 99, 97, 98, 99, 97, 98, 99, 97]⟩ : ByteArray), (⟨#[120, 49]⟩ : ByteArray), (⟨#[45]⟩ : ByteArray)] : List ByteArray) (by simp) (by simp)
  refine ⟨y, p + 1 + 1, Ev.bind hv (evPos c (Ev.bind he (Ev.now _))), ?_, by omega, by omega⟩
  simp only [List.mem_cons, List.not_mem_nil, or_false] at hy
  rcases hy with rfl | rfl | rfl | rfl | rfl | rfl <;> decide
 ·obtain ⟨r, p', hr, h1, h2, h3⟩ := word13_ev (h.at_ (p + 1) (by omega) (by omega)) (by omega)
  exact ⟨r, p', Ev.bind hv (evNeg c (Ev.bind hr (Ev.now _))), by omega, by omega, by omega⟩
theorem rdOf_get (l : List ByteArray) (i : Int) (_ : 0 ≤ i) (h : i.toNat < l.length) : rdOf ByteArray.empty l i = l[i.toNat] := by
 simp [rdOf, List.getD_eq_getElem?_getD, List.getElem?_eq_getElem h]
theorem put_end (l : List ByteArray) (s : ByteArray) (i : Int) (h0 : 0 ≤ i) (h1 : i ≤ l.length) (hl : l.length ≤ 1000000) : Ev (fun k => spec_l1Put.j2 k l s i false) (l.take i.toNat ++ s :: l.drop i.toNat) := by
 refine Ev.step (fun k => spec_l1Put.j2.eq_2 _ _ _ _ _) (evNeg (by simp) (evCall rfl (evPos h0 (evPos h1 (evCall rfl (evPos ?_ (evCall rfl (evCall rfl (evPos ?_ (evCall rfl (evCall rfl (evPos ?_ (evTo (Ev.now _) ?_)))))))))))))
 ·simp only [List.length_nil, List.length_take]
  omega
 ·simp only [List.nil_append, List.length_take, List.length_cons, List.length_nil]
  omega
 ·simp only [List.nil_append, List.length_append, List.length_take, List.length_cons, List.length_nil, List.length_drop]
  omega
 ·simp
theorem put_loop (l : List ByteArray) (s : ByteArray) (hl : l.length ≤ 1000000) (d : Nat) : ∀ i : Int, 0 ≤ i → i ≤ l.length → (l.length : Int) - i = d →
  Ev (fun k => spec_l1Put.l0 k l s i) (l.take i.toNat ++ putL (l.drop i.toNat) s) := by
 induction d with
 | zero =>
  intro i h0 h1 hd
  have e := put_end l s i h0 h1 hl
  rw [List.drop_eq_nil_of_le (by omega)] at e ⊢
  exact Ev.step (fun k => spec_l1Put.l0.eq_2 _ _ _ _) (eN (Ev.step (fun k => spec_l1Put.j1.eq_2 _ _ _ _ _) (evNeg (by simp) (evNeg (by omega) e))))
 | succ d ih =>
  intro i h0 h1 hd
  have hi : i.toNat < l.length := by omega
  have e := put_end l s i h0 h1 hl
  have ihe := ih (i + 1) (by omega) (by omega) (by omega)
  rw [List.drop_eq_getElem_cons hi] at e ⊢
  rw [show (i + 1).toNat = i.toNat + 1 from by omega, List.take_succ_eq_append_getElem hi] at ihe
  refine Ev.step (fun k => spec_l1Put.l0.eq_2 _ _ _ _) (eP (evPos h0 (Ev.step (fun k => spec_l1Put.j1.eq_2 _ _ _ _ _) ?_)))
  rw [rdOf_get l i h0 hi]
  generalize hx : l[i.toNat] = x at *
  by_cases c : Op.bytesLess x.toList s.toList = true
  ·refine evPos c ?_
   rw [w6]
   refine evTo ihe ?_
   simp [putL, ltS, c]
  ·refine evNeg c (eP (evPos h0 ?_))
   by_cases c2 : x = s
   ·refine Ev.step (fun k => spec_l1Put.j2.eq_2 _ _ _ _ _) (evPos (by simp [c2]) (evTo (Ev.now _) ?_))
    subst c2
    rw [show putL (x :: l.drop (i.toNat + 1)) x = x :: l.drop (i.toNat + 1) from by simp [putL, ltS_irrefl]]
    have : x :: l.drop (i.toNat + 1) = l.drop i.toNat := by rw [List.drop_eq_getElem_cons hi, hx]
    rw [this, List.take_append_drop]
   ·rw [show (x.toList == s.toList) = false from by rw [toList_beq]; simp [c2]]
    refine evTo e ?_
    simp [putL, ltS, c, c2]
theorem put_ev (l : List ByteArray) (s : ByteArray) (hl : l.length ≤ 1000000) : Ev (fun k => spec_l1Put.f k l s) (putL l s) :=
 evTo (put_loop l s hl l.length 0 (by omega) (by omega) (by omega)) (by simp)
abbrev Af := S40
abbrev En := S43
theorem ba_get (l : List ByteArray) (i : Nat) (h : i < l.length) : rdOf ByteArray.empty l (i : Int) = l[i] := by simp [rdOf, List.getD_eq_getElem?_getD, List.getElem?_eq_getElem h]
abbrev AfZ (a : Af) : Prop := a.f0.size ≤ 13 ∧ a.f2.size ≤ 13 ∧ a.f3.size ≤ 13 ∧ a.f4.size ≤ 13
abbrev AfY (a : Af) : Prop := AfZ a ∧ affOk a.f0 a.f1 a.f2 a.f3 a.f4 = true
abbrev EnZ (e : En) : Prop := e.f0.size ≤ 13 ∧ e.f1.size ≤ 5
theorem affix13_ev {s : List Int} {p : Int} (h : Rdr s p) : ∃ g fr st ad wh, Ev (fun k => spec_l13Affix.f k s p) (g, fr, st, ad, wh, p + 1) ∧ AfY ⟨g, fr, st, ad, wh⟩ := by
 unfold spec_l13Affix.f AfY AfZ
 obtain ⟨v, hv, v0, v1⟩ := pick_ev h 8 (by omega)
 have hs : v = 0 ∨ v = 1 ∨ v = 2 ∨ v = 3 ∨ v = 4 ∨ v = 5 ∨ v = 6 ∨ v = 7 := by omega
 refine ⟨_, _, _, _, _, evCall rfl (Ev.bind hv (evPos v0 (evPos (by simp only [List.length]; omega) (Ev.now _)))), ?_⟩
 rcases hs with rfl | rfl | rfl | rfl | rfl | rfl | rfl | rfl <;> exact ⟨by dsimp only; decide, by dsimp only; decide⟩
theorem anyAffix_ev {s : List Int} {p : Int} (h : Rdr s p) (hp : p ≤ 999999999000) : ∃ g fr st ad wh p', Ev (fun k => spec_l13AnyAffix.f k s p) (g, fr, st, ad, wh, p') ∧ AfZ ⟨g, fr, st, ad, wh⟩ ∧ p ≤ p' ∧ p' ≤ p + 10 := by
 have h0 := h.2.2.1
 obtain ⟨g, fr, st, ad, wh, he, ⟨z0, z1, z2, z3⟩, _⟩ := affix13_ev h
 obtain ⟨v, hv, v0, v1⟩ := pick_ev (h.at_ (p + 1) (by omega) (by omega)) 12 (by omega)
 have h2 := h.at_ (p + 1 + 1) (by omega) (by omega)
 unfold spec_l13AnyAffix.f
 by_cases c0 : v = 0
 ·obtain ⟨y, hy, hy2⟩ := of_ev h2 ([(⟨#[]⟩ : ByteArray), (⟨#[115]⟩ : ByteArray), (⟨#[65, 66]⟩ : ByteArray), (⟨#[90]⟩ : ByteArray)] : List ByteArray) (by simp) (by simp)
  refine ⟨y, fr, st, ad, wh, p + 1 + 1 + 1, Ev.bind he (Ev.bind hv (evPos c0 (Ev.bind hy2 (Ev.now _)))), ⟨?_, z1, z2, z3⟩, by omega, by omega⟩
  simp only [List.mem_cons, List.not_mem_nil, or_false] at hy
  rcases hy with rfl | rfl | rfl | rfl <;> (dsimp only; decide)
 by_cases c1 : v = 1
 ·obtain ⟨y, hy, hy2⟩ := of_ev h2 ([(⟨#[121]⟩ : ByteArray), (⟨#[97, 98, 99, 100, 101]⟩ : ByteArray), (⟨#[]⟩ : ByteArray), (⟨#[89]⟩ : ByteArray)] : List ByteArray) (by simp) (by simp)
  refine ⟨g, fr, y, ad, wh, p + 1 + 1 + 1, Ev.bind he (Ev.bind hv (evNeg c0 (evPos c1 (Ev.bind hy2 (Ev.now _))))), ⟨z0, ?_, z2, z3⟩, by omega, by omega⟩
  simp only [List.mem_cons, List.not_mem_nil, or_false] at hy
  rcases hy with rfl | rfl | rfl | rfl <;> (dsimp only; decide)
 by_cases c2 : v = 2
 ·obtain ⟨y, hy, hy2⟩ := of_ev h2 ([(⟨#[121]⟩ : ByteArray), (⟨#[116, 121]⟩ : ByteArray), (⟨#[97, 98, 99, 100, 101]⟩ : ByteArray), (⟨#[]⟩ : ByteArray)] : List ByteArray) (by simp) (by simp)
  refine ⟨g, fr, st, ad, y, p + 1 + 1 + 1, Ev.bind he (Ev.bind hv (evNeg c0 (evNeg c1 (evPos c2 (Ev.bind hy2 (Ev.now _)))))), ⟨z0, z1, z2, ?_⟩, by omega, by omega⟩
  simp only [List.mem_cons, List.not_mem_nil, or_false] at hy
  rcases hy with rfl | rfl | rfl | rfl <;> (dsimp only; decide)
 by_cases c3 : v = 3
 ·exact ⟨g, !fr, st, ad, wh, p + 1 + 1, Ev.bind he (Ev.bind hv (evNeg c0 (evNeg c1 (evNeg c2 (evPos c3 (Ev.now _)))))), ⟨z0, z1, z2, z3⟩, by omega, by omega⟩
 ·exact ⟨g, fr, st, ad, wh, p + 1 + 1, Ev.bind he (Ev.bind hv (evNeg c0 (evNeg c1 (evNeg c2 (evNeg c3 (Ev.now _)))))), ⟨z0, z1, z2, z3⟩, by omega, by omega⟩
theorem entry13_ev {s : List Int} {p : Int} (h : Rdr s p) (w : ByteArray) : ∃ fl, Ev (fun k => spec_l13Entry.f k s p w) (w, fl, p + 1) ∧ fl.size ≤ 5 := by
 obtain ⟨y, hy, he⟩ := of_ev h ([(⟨#[]⟩ : ByteArray), (⟨#[]⟩ : ByteArray), (⟨#[83]⟩ : ByteArray), (⟨#[71, 83]⟩ : ByteArray), (⟨#[85]⟩ : ByteArray), (⟨#[71, 85]⟩ : ByteArray), (⟨#[82]⟩ : ByteArray), (⟨#[84]⟩ : ByteArray), (⟨#[67, 82, 83, 85]⟩ : ByteArray)] : List ByteArray) (by simp) (by simp)
 unfold spec_l13Entry.f
 refine ⟨y, Ev.bind he (Ev.now _), ?_⟩
 simp only [List.mem_cons, List.not_mem_nil, or_false] at hy
 rcases hy with rfl | rfl | rfl | rfl | rfl | rfl | rfl | rfl | rfl <;> decide
theorem affixes_known (s : List Int) (p : Int) (out : List Af) (n : Int) (g : ByteArray) (fr : Bool) (st ad wh : ByteArray) (hl : out.length ≤ 1000) (d : Nat) : ∀ (i : Nat) (b : Bool), i + d = out.length →
  ∃ c : Bool, ∀ r, Ev (fun k => if c = true then spec_l13Affixes.l0 k out (wrap64 (n - 1)) s p else spec_l13Affixes.l0 k (out ++ [⟨g, fr, st, ad, wh⟩]) (wrap64 (n - 1)) s p) r → Ev (fun k => spec_l13Affixes.l1 k out n b (i : Int) s p g fr st ad wh) r := by
 induction d with
 | zero =>
  intro i b hi
  refine ⟨b, fun r hr => Ev.step (fun k => spec_l13Affixes.l1.eq_2 ..) (eN ?_)⟩
  cases b with
  | true => exact evPos rfl (by simpa using hr)
  | false => exact evNeg (by simp) (eP (by simpa using hr))
 | succ d ih =>
  intro i b hi
  have e : wrap64 ((i : Int) + 1) = ((i + 1 : Nat) : Int) := w6
  cases b with
  | true =>
   obtain ⟨c, hc⟩ := ih (i + 1) true (by omega)
   refine ⟨c, fun r hr => Ev.step (fun k => spec_l13Affixes.l1.eq_2 ..) (eP (evPos rfl ?_))⟩
   rw [e]
   exact hc r hr
  | false =>
   obtain ⟨c, hc⟩ := ih (i + 1) _ (by omega)
   refine ⟨c, fun r hr => Ev.step (fun k => spec_l13Affixes.l1.eq_2 ..) (eP (evNeg (by simp) (eP ?_)))⟩
   rw [e]
   exact hc r hr
theorem affixes_loop {s : List Int} (d : Nat) : ∀ (out : List Af) (n p : Int), Rdr s p → p + d ≤ 1000000000000 → n = d → out.length + d ≤ 4 → (∀ a ∈ out, AfY a) →
  ∃ A p', Ev (fun k => spec_l13Affixes.l0 k out n s p) (A, p') ∧ A.length ≤ 4 ∧ (∀ a ∈ A, AfY a) ∧ p ≤ p' ∧ p' ≤ p + d := by
 induction d with
 | zero =>
  intro out n p h hp hn hl hz
  exact ⟨out, p, Ev.step (fun k => spec_l13Affixes.l0.eq_2 ..) (eN (Ev.now _)), by omega, hz, by omega, by omega⟩
 | succ d ih =>
  intro out n p h hp hn hl hz
  have h0 := h.2.2.1
  obtain ⟨g, fr, st, ad, wh, he, hg⟩ := affix13_ev h
  obtain ⟨c, hc⟩ := affixes_known s (p + 1) out n g fr st ad wh (by omega) out.length 0 false (by omega)
  have hr : Rdr s (p + 1) := h.at_ _ (by omega) (by omega)
  have ew : wrap64 (n - 1) = n - 1 := w6
  rw [ew] at hc
  cases c with
  | true =>
   obtain ⟨A, p', h1, h2, h3, h4, h5⟩ := ih out (n - 1) (p + 1) hr (by omega) (by omega) (by omega) hz
   exact ⟨A, p', Ev.step (fun k => spec_l13Affixes.l0.eq_2 ..) (eP (Ev.bind he (hc _ (by simpa using h1)))), h2, h3, by omega, by omega⟩
  | false =>
   obtain ⟨A, p', h1, h2, h3, h4, h5⟩ := ih (out ++ [⟨g, fr, st, ad, wh⟩]) (n - 1) (p + 1) hr (by omega) (by omega) (by simp; omega) (fun a ha => by
    rcases List.mem_append.1 ha with ha | ha
    ·exact hz a ha
    ·rw [List.mem_singleton.1 ha]
     exact hg)
   exact ⟨A, p', Ev.step (fun k => spec_l13Affixes.l0.eq_2 ..) (eP (Ev.bind he (hc _ (by simpa using h1)))), h2, h3, by omega, by omega⟩
theorem affixes13_ev {s : List Int} {p : Int} (h : Rdr s p) (hp : p ≤ 999999999000) : ∃ A p', Ev (fun k => spec_l13Affixes.f k s p) (A, p') ∧ A.length ≤ 4 ∧ (∀ a ∈ A, AfY a) ∧ p ≤ p' ∧ p' ≤ p + 5 := by
 have h0 := h.2.2.1
 obtain ⟨v, hv, v0, v1⟩ := pick_ev h 5 (by omega)
 obtain ⟨d, hd⟩ := Int.eq_ofNat_of_zero_le v0
 have hd4 : d ≤ 4 := by
  rcases v1 with v1 | v1 <;> omega
 obtain ⟨A, p', h1, h2, h3, h4, h5⟩ := affixes_loop (s := s) d [] v (p + 1) (h.at_ _ (by omega) (by omega)) (by omega) hd (by simpa using hd4) (by simp)
 unfold spec_l13Affixes.f
 exact ⟨A, p', Ev.bind hv h1, h2, h3, by omega, by omega⟩
theorem nodup_le {α : Type} [DecidableEq α] : ∀ (l k : List α), l.Nodup → (∀ x ∈ l, x ∈ k) → l.length ≤ k.length
 | [], _, _, _ => by simp
 | x :: l, k, hn, hs => by
  have hx := hs x (by simp)
  have hn' := List.nodup_cons.1 hn
  have := nodup_le l (k.erase x) hn'.2 (fun y hy => by
   have hne : y ≠ x := fun e => hn'.1 (e ▸ hy)
   exact (List.mem_erase_of_ne hne).2 (hs y (by simp [hy])))
  rw [List.length_erase_of_mem hx] at this
  have : 0 < k.length := List.length_pos_of_mem hx
  rw [List.length_cons]
  omega
def fillW (j : Nat) : ByteArray := (⟨#[119]⟩ : ByteArray) ++ strOfNums [(wrap64 (97 + (j : Int))) % 256]
theorem fillW_size (j : Nat) : (fillW j).size = 2 := by
 unfold fillW
 rw [size_append]
 rfl
theorem fillW_inj {i j : Nat} (hi : i < 24) (hj : j < 24) (h : fillW i = fillW j) : i = j := by
 have hb : ∀ n : Nat, n < 24 → (fillW n).data.toList = [119, UInt8.ofNat (97 + n)] := by
  intro n hn
  unfold fillW
  rw [w6, show ((97 + (n : Int)) % 256) = ((97 + n : Nat) : Int) from by omega]
  rw [ByteArray.data_append, Array.toList_append]
  show [119] ++ [UInt8.ofNat ((97 + n : Nat) : Int).toNat] = _
  rw [Int.toNat_natCast]
  rfl
 have h1 := hb i hi
 rw [h, hb j hj] at h1
 simp only [List.cons.injEq, true_and, and_true] at h1
 have h2 := congrArg UInt8.toNat h1
 simp only [UInt8.toNat_ofNat'] at h2
 omega
abbrev WZ (ws : List ByteArray) : Prop := ∀ w ∈ ws, w.size ≤ 13
theorem putL_WZ {ws : List ByteArray} {w : ByteArray} (h : WZ ws) (hw : w.size ≤ 13) : WZ (putL ws w) := by
 intro x hx
 rcases (putL_mem ws w x).1 hx with hx | hx
 ·exact h x hx
 ·rw [hx]
  exact hw
theorem ents_draw {s : List Int} (A : List Af) (ws : List ByteArray) (hl : ws.length ≤ 100) (hz : WZ ws) (d : Nat) : ∀ (i : Nat) (E : List En) (p : Int), i + d = ws.length → Rdr s p → p + d ≤ 1000000000000 → E.length = i → (∀ e ∈ E, EnZ e) →
  ∃ E' p', Ev (fun k => spec_l13Book.l2 k ws (i : Int) s p A E) (A, E', p') ∧ E'.length = ws.length ∧ (∀ e ∈ E', EnZ e) ∧ p ≤ p' ∧ p' ≤ p + d := by
 induction d with
 | zero =>
  intro i E p hi h hp hE he
  exact ⟨E, p, Ev.step (fun k => spec_l13Book.l2.eq_2 ..) (eN (Ev.now _)), by omega, he, by omega, by omega⟩
 | succ d ih =>
  intro i E p hi h hp hE he
  have h0 := h.2.2.1
  have hlt : i < ws.length := by omega
  obtain ⟨fl, hf, hf2⟩ := entry13_ev h ws[i]
  obtain ⟨E', p', h1, h2, h3, h4, h5⟩ := ih (i + 1) (E ++ [⟨ws[i], fl⟩]) (p + 1) (by omega) (h.at_ _ (by omega) (by omega)) (by omega) (by simp [hE]) (fun e he' => by
   rcases List.mem_append.1 he' with he' | he'
   ·exact he e he'
   ·rw [List.mem_singleton.1 he']
    exact ⟨hz _ (List.getElem_mem hlt), hf2⟩)
  refine ⟨E', p', Ev.step (fun k => spec_l13Book.l2.eq_2 ..) (eP (eP ?_)), h2, h3, by omega, by omega⟩
  rw [ba_get ws i hlt, w6 (n := (i : Int) + 1)]
  exact Ev.bind hf (evPos (by omega) h1)
theorem fill_loop {s : List Int} {p : Int} (A : List Af) {Q : List En → Int → Prop} (fin : ∀ ws : List ByteArray, ws.length ≤ 24 → WZ ws → ∃ E p', Ev (fun k => spec_l13Book.j2 k ws s p A) (A, E, p') ∧ Q E p') (d : Nat) : ∀ (j : Nat) (ws : List ByteArray), j + d = 24 → ws.length ≤ 24 → WZ ws → (∀ i, i < j → fillW i ∈ ws) →
  ∃ E p', Ev (fun k => spec_l13Book.l1 k ws (j : Int) s p A) (A, E, p') ∧ Q E p' := by
 have out : ∀ (j : Nat) (ws : List ByteArray), ¬ (ws.length : Int) < 24 → ws.length ≤ 24 → WZ ws → ∃ E p', Ev (fun k => spec_l13Book.l1 k ws (j : Int) s p A) (A, E, p') ∧ Q E p' := by
  intro j ws h1 h2 h3
  obtain ⟨E, p', h4, h5⟩ := fin ws (by omega) h3
  exact ⟨E, p', Ev.step (fun k => spec_l13Book.l1.eq_2 ..) (evNeg h1 h4), h5⟩
 induction d with
 | zero =>
  intro j ws hj hl hz hin
  refine out j ws ?_ hl hz
  have := nodup_le ((List.range 24).map fillW) ws (by
   rw [List.nodup_iff_pairwise_ne, List.pairwise_map]
   refine (List.nodup_range (n := 24)).imp_of_mem ?_
   intro a b ha hb hne e
   exact hne (fillW_inj (List.mem_range.1 ha) (List.mem_range.1 hb) e)) (fun x hx => by
    obtain ⟨i, hi, rfl⟩ := List.mem_map.1 hx
    exact hin i (by have := List.mem_range.1 hi; omega))
  simp only [List.length_map, List.length_range] at this
  omega
 | succ d ih =>
  intro j ws hj hl hz hin
  by_cases c : (ws.length : Int) < 24
  ·have hp := (putL_length ws (fillW j)).2
   obtain ⟨E, p', h4, h5⟩ := ih (j + 1) (putL ws (fillW j)) (by omega) (by omega) (putL_WZ hz (by rw [fillW_size]; omega)) (fun i hi => (putL_mem ws (fillW j) _).2 (by
    by_cases e : i = j
    ·exact .inr (by rw [e])
    ·exact .inl (hin i (by omega))))
   refine ⟨E, p', Ev.step (fun k => spec_l13Book.l1.eq_2 ..) (evPos c (evCall rfl (evPos ?_ (Ev.bind (put_ev ws (fillW j) (by omega)) ?_)))), h5⟩
   ·show 1 + (strOfNums [_]).size ≤ 9223372036854775807
    have : (strOfNums [(wrap64 (97 + (j : Int))) % 256]).size = 1 := rfl
    omega
   ·rw [w6 (n := (j : Int) + 1)]
    exact h4
  ·exact out j ws c hl hz
theorem book_words {s : List Int} (A : List Af) (d : Nat) : ∀ (ws : List ByteArray) (n p : Int), Rdr s p → p + 100 + 11 * d ≤ 999999999000 → n = d → ws.length + d ≤ 24 → WZ ws →
  ∃ E p', Ev (fun k => spec_l13Book.l0 k ws n s p A) (A, E, p') ∧ (E.length ≤ 24 ∧ (∀ e ∈ E, EnZ e)) ∧ p ≤ p' ∧ p' ≤ p + 200 + 11 * d := by
 induction d with
 | zero =>
  intro ws n p h hp hn hl hz
  have h0 := h.2.2.1
  obtain ⟨v, hv, v0, v1⟩ := pick_ev h 30 (by omega)
  have hr := h.at_ (p + 1) (by omega) (by omega)
  have fin : ∀ ws : List ByteArray, ws.length ≤ 24 → WZ ws → ∃ E p', Ev (fun k => spec_l13Book.j2 k ws s (p + 1) A) (A, E, p') ∧ (E.length ≤ 24 ∧ (∀ e ∈ E, EnZ e)) ∧ p ≤ p' ∧ p' ≤ p + 200 := by
   intro ws hl hz
   obtain ⟨E, p', h1, h2, h3, h4, h5⟩ := ents_draw (s := s) A ws (by omega) hz ws.length 0 [] (p + 1) (by omega) hr (by omega) rfl (by simp)
   exact ⟨E, p', Ev.step (fun k => spec_l13Book.j2.eq_2 ..) h1, ⟨by omega, h3⟩, by omega, by omega⟩
  by_cases c : v = 0
  ·have fin' : ∀ ws : List ByteArray, ws.length ≤ 24 → WZ ws → ∃ E p', Ev (fun k => spec_l13Book.j2 k ws s (p + 1) A) (A, E, p') ∧ ((E.length ≤ 24 ∧ (∀ e ∈ E, EnZ e)) ∧ p ≤ p' ∧ p' ≤ p + 200) := fin
   obtain ⟨E, p', h1, h2⟩ := fill_loop A fin' 24 0 ws (by omega) (by omega) hz (fun i hi => absurd hi (by omega))
   exact ⟨E, p', Ev.step (fun k => spec_l13Book.l0.eq_2 ..) (eN (Ev.bind hv (evPos c h1))), h2.1, h2.2.1, by have := h2.2.2; omega⟩
  ·obtain ⟨E, p', h1, h2, h3, h4⟩ := fin ws (by omega) hz
   exact ⟨E, p', Ev.step (fun k => spec_l13Book.l0.eq_2 ..) (eN (Ev.bind hv (evNeg c h1))), h2, h3, by omega⟩
 | succ d ih =>
  intro ws n p h hp hn hl hz
  have h0 := h.2.2.1
  obtain ⟨w, p1, hw, w1, w2, w3⟩ := word13_ev h (by omega)
  have hp2 := (putL_length ws w).2
  obtain ⟨E, p', h1, h2, h3, h4⟩ := ih (putL ws w) (n - 1) p1 (h.at_ _ (by omega) (by omega)) (by omega) (by omega) (by omega) (putL_WZ hz (by omega))
  refine ⟨E, p', Ev.step (fun k => spec_l13Book.l0.eq_2 ..) (eP (Ev.bind hw (Ev.bind (put_ev ws w (by omega)) ?_))), h2, by omega, by omega⟩
  rw [w6 (n := n - 1)]
  exact h1
theorem book13_ev {s : List Int} {p : Int} (h : Rdr s p) (hp : p ≤ 999999998000) : ∃ A E p', Ev (fun k => spec_l13Book.f k s p) (A, E, p') ∧ (A.length ≤ 4 ∧ (∀ a ∈ A, AfY a)) ∧ (E.length ≤ 24 ∧ (∀ e ∈ E, EnZ e)) ∧ p ≤ p' ∧ p' ≤ p + 300 := by
 have h0 := h.2.2.1
 obtain ⟨A, p1, h1, h2, h3, h4, h5⟩ := affixes13_ev h (by omega)
 have hr1 := h.at_ p1 (by omega) (by omega)
 obtain ⟨v, hv, v0, v1⟩ := pick_ev hr1 7 (by omega)
 obtain ⟨d, hd⟩ := Int.eq_ofNat_of_zero_le v0
 have hd6 : d ≤ 6 := by
  rcases v1 with v1 | v1 <;> omega
 obtain ⟨E, p', k1, k2, k3, k4⟩ := book_words (s := s) A d [] v (p1 + 1) (h.at_ _ (by omega) (by omega)) (by omega) hd (by simp; omega) (fun w hw => by cases hw)
 unfold spec_l13Book.f
 exact ⟨A, E, p', Ev.bind h1 (Ev.bind hv k1), ⟨h2, h3⟩, k2, by omega, by omega⟩
theorem anyBook_ev {s : List Int} {p : Int} (h : Rdr s p) (hp : p ≤ 999999997000) : ∃ A E p', Ev (fun k => spec_l13AnyBook.f k s p) (A, E, p') ∧ (A.length ≤ 5 ∧ (∀ a ∈ A, AfZ a)) ∧ (E.length ≤ 25 ∧ (∀ e ∈ E, EnZ e)) ∧ p ≤ p' ∧ p' ≤ p + 400 := by
 have h0 := h.2.2.1
 obtain ⟨A, E, p1, h1, ⟨a1, a2⟩, ⟨e1, e2⟩, h4, h5⟩ := book13_ev h (by omega)
 obtain ⟨v, hv, v0, v1⟩ := pick_ev (h.at_ p1 (by omega) (by omega)) 16 (by omega)
 have hr := h.at_ (p1 + 1) (by omega) (by omega)
 unfold spec_l13AnyBook.f
 by_cases c0 : v = 0
 ·obtain ⟨g, fr, st, ad, wh, p2, hg, hz, q1, q2⟩ := anyAffix_ev hr (by omega)
  refine ⟨A ++ [⟨g, fr, st, ad, wh⟩], E, p2, Ev.bind h1 (Ev.bind hv (evPos c0 (Ev.bind hg (evPos (by dsimp only; omega) (Ev.now _))))), ⟨by simp; omega, fun a ha => ?_⟩, ⟨by omega, e2⟩, by omega, by omega⟩
  rcases List.mem_append.1 ha with ha | ha
  ·exact (a2 a ha).1
  ·rw [List.mem_singleton.1 ha]
   exact hz
 by_cases c1 : v = 1
 ·obtain ⟨w, p2, hw, hz, q1, q2⟩ := any13_ev hr (by omega)
  obtain ⟨y, hy, he⟩ := of_ev (h.at_ p2 (by omega) (by omega)) ([(⟨#[]⟩ : ByteArray), (⟨#[83, 71]⟩ : ByteArray), (⟨#[115]⟩ : ByteArray), (⟨#[65, 66, 67, 68, 69]⟩ : ByteArray)] : List ByteArray) (by simp) (by simp)
  refine ⟨A, E ++ [⟨w, y⟩], p2 + 1, Ev.bind h1 (Ev.bind hv (evNeg c0 (evPos c1 (Ev.bind hw (Ev.bind he (evPos (by dsimp only; omega) (Ev.now _))))))), ⟨by omega, fun a ha => (a2 a ha).1⟩, ⟨by simp; omega, fun e he' => ?_⟩, by omega, by omega⟩
  rcases List.mem_append.1 he' with he' | he'
  ·exact e2 e he'
  ·rw [List.mem_singleton.1 he']
   refine ⟨hz, ?_⟩
   simp only [List.mem_cons, List.not_mem_nil, or_false] at hy
   rcases hy with rfl | rfl | rfl | rfl <;> (dsimp only; decide)
 by_cases c2 : v = 2
 ·by_cases c3 : (E.length : Int) > 0
  ·obtain ⟨y, hy, he⟩ := of_ev hr ([(⟨#[]⟩ : ByteArray), (⟨#[122, 122]⟩ : ByteArray), (⟨#[65]⟩ : ByteArray)] : List ByteArray) (by simp) (by simp)
   have hlt : 0 < E.length := by omega
   refine ⟨A, E.set (0 : Int).toNat ⟨y, (rd_T43 E 0).f1⟩, p1 + 1 + 1, Ev.bind h1 (Ev.bind hv (evNeg c0 (evNeg c1 (evPos c2 (evPos c3 (Ev.bind he (evPos (by dsimp only; omega) (Ev.now _)))))))), ⟨by omega, fun a ha => (a2 a ha).1⟩, ⟨by simp; omega, fun e he' => ?_⟩, by omega, by omega⟩
   rcases List.mem_or_eq_of_mem_set he' with he' | he'
   ·exact e2 e he'
   ·rw [he']
    have e0 : rd_T43 E 0 = E[0] := by simp [rd_T43, List.getD_eq_getElem?_getD, hlt]
    rw [e0]
    refine ⟨?_, (e2 _ (List.getElem_mem hlt)).2⟩
    simp only [List.mem_cons, List.not_mem_nil, or_false] at hy
    rcases hy with rfl | rfl | rfl <;> (dsimp only; decide)
  ·exact ⟨A, E, p1 + 1, Ev.bind h1 (Ev.bind hv (evNeg c0 (evNeg c1 (evPos c2 (evNeg c3 (Ev.now _)))))), ⟨by omega, fun a ha => (a2 a ha).1⟩, ⟨by omega, e2⟩, by omega, by omega⟩
 ·exact ⟨A, E, p1 + 1, Ev.bind h1 (Ev.bind hv (evNeg c0 (evNeg c1 (evNeg c2 (Ev.now _))))), ⟨by omega, fun a ha => (a2 a ha).1⟩, ⟨by omega, e2⟩, by omega, by omega⟩
structure BkSz (A : List Af) (E : List En) : Prop where
 la : A.length ≤ 1048576
 le : E.length ≤ 1048576
 a : ∀ s ∈ A, (s.f0.size ≤ 1048576 ∧ s.f2.size ≤ 1048576 ∧ s.f3.size ≤ 1048576 ∧ s.f4.size ≤ 1048576)
 e : ∀ s ∈ E, (s.f0.size ≤ 1048576 ∧ s.f1.size ≤ 1048576)
theorem bkSz_of {A : List Af} {E : List En} (ha : A.length ≤ 5) (hz : ∀ a ∈ A, AfZ a) (he : E.length ≤ 25) (hy : ∀ e ∈ E, EnZ e) : BkSz A E := by
 refine ⟨by omega, by omega, fun s hs => ?_, fun s hs => ?_⟩
 ·have := hz s hs
  unfold AfZ at this
  omega
 ·have := hy s hs
  unfold EnZ at this
  omega
theorem ext_ba (s : ByteArray) (a b : Nat) : s.extract a b = ⟨((s.data.toList.drop a).take (b - a)).toArray⟩ := by
 apply ba_ext
 simp [ByteArray.data_extract, Array.toList_extract]
theorem ext_end (s : ByteArray) (a : Nat) : s.extract a s.size = ⟨(s.data.toList.drop a).toArray⟩ := by
 rw [ext_ba, List.take_of_length_le]
 rw [List.length_drop, data_length]
 exact Nat.le_refl _
theorem bt_data (s : ByteArray) (i : Nat) (h : i < s.data.toList.length) : bt s (i : Int) = ((s.data.toList[i]).toNat : Int) := by
 have hs : ((i : Int)).toNat < s.size := by rw [data_length] at h; omega
 rw [← bt_at s (i : Int) hs]
 simp
 rfl
theorem cut_loop (s : ByteArray) (c : UInt8) (x : Int) (hx : x = (c.toNat : Int)) (hs : s.size ≤ 10000000) (d : Nat) : ∀ (i fr : Nat) (out : List ByteArray), i + d = s.size → fr ≤ i → out.length ≤ i → c ∉ (s.data.toList.drop fr).take (i - fr) →
  Ev (fun k => spec_l1Cut.l0 k s x out (fr : Int) (i : Int)) (out ++ (cutU c (s.data.toList.drop fr)).map (fun l => ⟨l.toArray⟩)) := by
 have hl := data_length s
 induction d with
 | zero =>
  intro i fr out hi hf ho hn
  have e1 : (s.data.toList.drop fr).take (i - fr) = s.data.toList.drop fr := List.take_of_length_le (by rw [List.length_drop]; omega)
  rw [e1] at hn
  refine Ev.step (fun k => spec_l1Cut.l0.eq_2 _ _ _ _ _ _) (eN (eP (eP (eP (evTo (Ev.now _) ?_)))))
  rw [cutU_none c _ hn, Int.toNat_natCast, ext_end]
  rfl
 | succ d ih =>
  intro i fr out hi hf ho hn
  have hi2 : i < s.data.toList.length := by omega
  have hw : wrap64 ((i : Int) + 1) = ((i + 1 : Nat) : Int) := w6
  refine Ev.step (fun k => spec_l1Cut.l0.eq_2 _ _ _ _ _ _) (eP (eP ?_))
  rw [hw]
  have hd : s.data.toList.drop fr = (s.data.toList.drop fr).take (i - fr) ++ s.data.toList[i] :: s.data.toList.drop (i + 1) := by
   have h1 := (List.take_append_drop (i - fr) (s.data.toList.drop fr)).symm
   rw [List.drop_drop, show fr + (i - fr) = i from by omega, List.drop_eq_getElem_cons hi2] at h1
   exact h1
  by_cases e : s.data.toList[i] = c
  ·refine evPos (by rw [bt_data s i hi2, hx, e]) (eP (eP (eP (eP ?_))))
   refine evTo (ih (i + 1) (i + 1) _ (by omega) (by omega) (by simp; omega) (by simp)) ?_
   rw [e] at hd
   rw [hd, cutU_app c _ _ hn, Int.toNat_natCast, Int.toNat_natCast, ext_ba, List.map_cons, List.append_assoc]
   rfl
  ·refine evNeg (by rw [bt_data s i hi2, hx]; intro h; exact e (UInt8.toNat_inj.1 (Int.ofNat.inj h))) ?_
   refine ih (i + 1) fr out (by omega) (by omega) (by omega) ?_
   have e2 : (s.data.toList.drop fr).take (i + 1 - fr) = (s.data.toList.drop fr).take (i - fr) ++ [s.data.toList[i]] := by
    have g : (s.data.toList.drop fr)[i - fr]? = some s.data.toList[i] := by
     rw [List.getElem?_drop, show fr + (i - fr) = i from by omega, List.getElem?_eq_getElem hi2]
    rw [show i + 1 - fr = (i - fr) + 1 from by omega, List.take_add_one, g]
    rfl
   rw [e2]
   intro h
   rcases List.mem_append.1 h with h | h
   ·exact hn h
   ·exact e (List.mem_singleton.1 h).symm
theorem l1Cut_ev (s : ByteArray) (c : UInt8) (x : Int) (hx : x = (c.toNat : Int)) (hs : s.size ≤ 10000000) : Ev (fun k => spec_l1Cut.f k s x) (spl c s) := by
 unfold spec_l1Cut.f
 have := cut_loop s c x hx hs s.size 0 0 [] (by omega) (by omega) (by simp) (by simp)
 simpa [spl] using this
theorem cutU_len (c : UInt8) : ∀ (l p : List UInt8), p ∈ cutU c l → p.length ≤ l.length
 | [], p, h => by
  simp only [cutU, List.mem_singleton] at h
  simp [h]
 | b :: l, p, h => by
  by_cases e : b = c
  ·rw [cutU, if_pos e] at h
   rcases List.mem_cons.1 h with rfl | h
   ·simp
   ·have := cutU_len c l p h
    rw [List.length_cons]
    omega
  ·obtain ⟨x, r, e1, e2⟩ := cutU_hd c b l e
   rw [e2] at h
   rcases List.mem_cons.1 h with rfl | h
   ·have := cutU_len c l x (by simp [e1])
    simp only [List.length_cons]
    omega
   ·have := cutU_len c l p (by simp [e1, h])
    rw [List.length_cons]
    omega
theorem spl_size {c : UInt8} {s p : ByteArray} (h : p ∈ spl c s) : p.size ≤ s.size := by
 obtain ⟨l, hl, rfl⟩ := List.mem_map.1 h
 have := cutU_len c _ l hl
 rw [data_length] at this
 exact this
theorem split_ev {s : ByteArray} (c : UInt8) (hs : s.size ≤ 1000000000) : strings_Split.f s ⟨#[c]⟩ = some (spl c s) := by
 unfold strings_Split.f
 rw [if_pos ⟨rfl, hs⟩]
 rfl
theorem cut_ev {s : ByteArray} (c : UInt8) (hs : s.size ≤ 1000000000) : strings_Cut.f s ⟨#[c]⟩ = some (cutP c s) := by
 unfold strings_Cut.f
 rw [if_pos ⟨rfl, hs⟩]
 rfl
theorem has_ev {s : ByteArray} (c : UInt8) : strings_Contains.f s ⟨#[c]⟩ = some (s.data.toList.contains c) := by
 unfold strings_Contains.f
 rw [if_pos (show ByteArray.size ⟨#[c]⟩ = 1 from rfl)]
 rfl
theorem letters_loop (s : ByteArray) (m : Int) (h : s.size ≤ 281474976710656) (d : Nat) : ∀ i : Int, 0 ≤ i → i ≤ s.size → (s.size : Int) - i = d →
  Ev (fun k => spec_l1Letters.l0 k s m i) (((bytesOf s).drop i.toNat).all low && decide ((s.size : Int) ≤ m)) := by
 induction d with
 | zero =>
  intro i h0 h1 hd
  refine Ev.step (fun k => spec_l1Letters.l0.eq_2 _ _ _ _) (eN ?_)
  rw [List.drop_eq_nil_of_le (by rw [bytesOf_length]; omega)]
  exact evTo (Ev.now _) (by simp)
 | succ d ih =>
  intro i h0 h1 hd
  refine Ev.step (fun k => spec_l1Letters.l0.eq_2 _ _ _ _) (eP (evPos h0 ?_))
  rw [bytes_drop s i h0 (by omega), List.all_cons]
  by_cases c : bt s i < 97
  ·exact evPos c (evTo (Ev.now _) (by simp [low]; omega))
  refine evNeg c ?_
  by_cases c1 : bt s i > 122
  ·exact evPos c1 (evTo (Ev.now _) (by simp [low]; omega))
  refine evNeg c1 ?_
  have e : low (bt s i) = true := (low_iff _).2 (by omega)
  rw [w6, e, Bool.true_and]
  exact ih (i + 1) (by omega) (by omega) (by omega)
theorem letters_spec (s : ByteArray) (m : Int) (h : s.size ≤ 140737488351232) : Ev (fun k => spec_l1Letters.f k s m) ((bytesOf s).all low && decide ((s.size : Int) ≤ m)) :=
 letters_loop s m (by omega) s.size 0 (by omega) (by omega) (by omega)
theorem flag_spec (s : ByteArray) : spec_l2Flag.f s = some (flagB s) := by
 unfold spec_l2Flag.f
 by_cases c : (s.size : Int) = 1
 ·rw [if_pos c, if_pos (by omega)]
  by_cases e : bt s 0 ≥ 65
  ·rw [if_pos e]
   simp [flagB, e]
   omega
  ·rw [if_neg e]
   simp [flagB, e]
 ·rw [if_neg c]
  simp [flagB]
  omega
theorem begins_spec (s p : ByteArray) : spec_l2Begins.f s p = some (begB s p) := by
 unfold spec_l2Begins.f
 by_cases c : (s.size : Int) ≥ (p.size : Int)
 ·rw [if_pos c, if_pos (by omega), if_pos (by omega), toList_beq]
  try rw [Int.toNat_natCast]
  simp [begB]
  omega
 ·rw [if_neg c]
  simp [begB]
  omega
theorem ends_spec (s p : ByteArray) (h : s.size ≤ 1407374883512320) : spec_l2Ends.f s p = some (endB s p) := by
 unfold spec_l2Ends.f
 by_cases c : (s.size : Int) ≥ (p.size : Int)
 ·rw [if_pos c, w6, if_pos (by omega), if_pos (by omega), toList_beq, show ((s.size : Int) - (p.size : Int)).toNat = s.size - p.size from by omega]
  simp [endB]
  omega
 ·rw [if_neg c]
  simp [endB]
  omega
theorem letters4 (s : ByteArray) (h : s.size ≤ 140737488351232) : Ev (fun k => spec_l1Letters.f k s 4) (partB s) :=
 evTo (letters_spec s 4 h) (by
  unfold partB
  congr 1
  exact decide_eq_decide.2 (by omega))
theorem affixOk_spec (g : ByteArray) (fr : Bool) (st ad wh : ByteArray) (h1 : st.size ≤ 140737488351232) (h2 : ad.size ≤ 140737488351232) (h3 : wh.size ≤ 140737488351232) :
  Ev (fun k => spec_AffixOk.f k g fr st ad wh) (affOk g fr st ad wh) := by
 have no : ∀ r, r = false → Ev (fun k => spec_AffixOk.j0 k true g fr st ad wh) r := fun r hr => Ev.step (fun k => spec_AffixOk.j0.eq_2 _ _ _ _ _ _ _) (evPos rfl (evTo (Ev.now _) hr.symm))
 unfold spec_AffixOk.f
 refine evCall (flag_spec _) ?_
 cases e1 : flagB g with
 | false => exact evNeg (by simp) (no _ (by simp [affOk, e1]))
 | true =>
  refine evPos rfl (Ev.bind (letters4 st h1) ?_)
  cases e2 : partB st with
  | false => exact evNeg (by simp) (no _ (by simp [affOk, e2]))
  | true =>
   refine evPos rfl (Ev.bind (letters4 ad h2) ?_)
   cases e3 : partB ad with
   | false => exact evNeg (by simp) (no _ (by simp [affOk, e3]))
   | true =>
    refine evPos rfl (Ev.bind (letters4 wh h3) ?_)
    cases e4 : partB wh with
    | false => exact no _ (by simp [affOk, e4])
    | true =>
     refine Ev.step (fun k => spec_AffixOk.j0.eq_2 _ _ _ _ _ _ _) (evNeg (by simp) ?_)
     cases fr with
     | true => exact evPos rfl (evCall (begins_spec _ _) (evTo (Ev.now _) (by simp [affOk, e1, e2, e3, e4])))
     | false => exact evNeg (by simp) (evCall (ends_spec _ _ (by omega)) (evTo (Ev.now _) (by simp [affOk, e1, e2, e3, e4])))
theorem lower_loop (s : ByteArray) (h : s.size ≤ 140737488351232) (d : Nat) : ∀ i : Int, 0 ≤ i → i ≤ s.size → (s.size : Int) - i = d →
  Ev (fun k => impl_lower.l0 k s (s.size : Int) i) (((bytesOf s).drop i.toNat).all low) := by
 induction d with
 | zero =>
  intro i h0 h1 hd
  refine Ev.step (fun k => impl_lower.l0.eq_2 _ _ _ _) (eN ?_)
  rw [List.drop_eq_nil_of_le (by rw [bytesOf_length]; omega)]
  exact evTo (Ev.now _) (by simp)
 | succ d ih =>
  intro i h0 h1 hd
  refine Ev.step (fun k => impl_lower.l0.eq_2 _ _ _ _) (eP (evPos h0 (eP ?_)))
  rw [bytes_drop s i h0 (by omega), List.all_cons]
  by_cases c : bt s i < 97
  ·exact evPos c (evTo (Ev.now _) (by simp [low]; omega))
  refine evNeg c ?_
  by_cases c1 : bt s i > 122
  ·exact evPos c1 (evTo (Ev.now _) (by simp [low]; omega))
  refine evNeg c1 ?_
  have e : low (bt s i) = true := (low_iff _).2 (by omega)
  rw [w6, e, Bool.true_and]
  exact ih (i + 1) (by omega) (by omega) (by omega)
theorem lower_impl (s : ByteArray) (h : s.size ≤ 140737488351232) : Ev (fun k => impl_lower.f k s) ((bytesOf s).all low) :=
 lower_loop s h s.size 0 (by omega) (by omega) (by omega)
theorem upper_impl (c : Int) : impl_upper.f c = some (decide (65 ≤ c) && decide (c ≤ 90)) := by
 unfold impl_upper.f
 by_cases e : c ≥ 65
 ·rw [if_pos e]; simp [e]
 ·rw [if_neg e]; simp; omega
theorem hasPrefix0 (s p : ByteArray) : stringslite_HasPrefix.f s p = some (begB s p) := begins_spec s p
theorem hasPrefix_lib (s p : ByteArray) : strings_HasPrefix.f s p = some (begB s p) := by
 unfold strings_HasPrefix.f
 rw [hasPrefix0]
 rfl
theorem hasSuffix0 (s p : ByteArray) (h : s.size ≤ 1407374883512320) : stringslite_HasSuffix.f s p = some (endB s p) := ends_spec s p h
theorem hasSuffix_lib (s p : ByteArray) (h : s.size ≤ 1407374883512320) : strings_HasSuffix.f s p = some (endB s p) := by
 unfold strings_HasSuffix.f
 rw [hasSuffix0 s p h]
 rfl
theorem parts_loop (g : ByteArray) (fr : Bool) (st ad wh : ByteArray) (l : List ByteArray) (hl : l.length ≤ 10) (hs : ∀ x ∈ l, x.size ≤ 140737488351232) (hw : wh.size ≤ 140737488351232) (d : Nat) : ∀ i : Int, 0 ≤ i → i ≤ l.length → (l.length : Int) - i = d →
  Ev (fun k => impl_AffixOk.l0 k l (l.length : Int) i g fr st ad wh) ((l.drop i.toNat).all partB && (if fr = true then begB wh st else endB wh st)) := by
 induction d with
 | zero =>
  intro i h0 h1 hd
  refine Ev.step (fun k => impl_AffixOk.l0.eq_2 _ _ _ _ _ _ _ _ _) (eN ?_)
  rw [List.drop_eq_nil_of_le (by omega), List.all_nil, Bool.true_and]
  cases fr with
  | true => exact evPos rfl (evCall (hasPrefix_lib _ _) (Ev.now _))
  | false => exact evNeg (by simp) (evCall (hasSuffix_lib _ _ (by omega)) (Ev.now _))
 | succ d ih =>
  intro i h0 h1 hd
  have hi : i.toNat < l.length := by omega
  have hx : rdOf ByteArray.empty l i = l[i.toNat] := by simp [rdOf, List.getD_eq_getElem?_getD, List.getElem?_eq_getElem hi]
  have hm := hs _ (List.getElem_mem hi)
  refine Ev.step (fun k => impl_AffixOk.l0.eq_2 _ _ _ _ _ _ _ _ _) (eP (evPos h0 (eP ?_)))
  rw [hx, List.drop_eq_getElem_cons hi, List.all_cons]
  generalize l[i.toNat] = x at *
  by_cases c : (x.size : Int) > 4
  ·refine evPos c (evTo (Ev.now _) ?_)
   have : partB x = false := by simp [partB]; omega
   rw [this]
   rfl
  ·refine evNeg c (Ev.bind (lower_impl x hm) ?_)
   have hp : partB x = (bytesOf x).all low := by
    simp only [partB]
    rw [decide_eq_true (by omega), Bool.and_true]
   rw [hp]
   cases e : (bytesOf x).all low with
   | false => exact evNeg (by simp) (evTo (Ev.now _) (by simp))
   | true =>
    refine evPos rfl ?_
    rw [w6, Bool.true_and, show i.toNat + 1 = (i + 1).toNat from by omega]
    exact ih (i + 1) (by omega) (by omega) (by omega)
theorem affixOk_impl (g : ByteArray) (fr : Bool) (st ad wh : ByteArray) (h1 : st.size ≤ 140737488351232) (h2 : ad.size ≤ 140737488351232) (h3 : wh.size ≤ 140737488351232) :
  Ev (fun k => impl_AffixOk.f k g fr st ad wh) (affOk g fr st ad wh) := by
 unfold impl_AffixOk.f
 by_cases c : (g.size : Int) = 1
 ·refine evPos c (eP (evCall (upper_impl _) ?_))
  have hf : flagB g = (decide (65 ≤ bt g 0) && decide (bt g 0 ≤ 90)) := by
   simp only [flagB]
   rw [decide_eq_true (by omega), Bool.true_and]
  rw [← hf]
  cases e : flagB g with
  | false => exact Ev.step (fun k => impl_AffixOk.j0.eq_2 _ _ _ _ _ _ _) (evPos rfl (evTo (Ev.now _) (by simp [affOk, e])))
  | true =>
   refine Ev.step (fun k => impl_AffixOk.j0.eq_2 _ _ _ _ _ _ _) (evNeg (by simp) (evCall rfl ?_))
   refine evTo (parts_loop g fr st ad wh [st, ad, wh] (by simp) (by
    intro x hx
    simp only [List.mem_cons, List.not_mem_nil, or_false] at hx
    rcases hx with rfl | rfl | rfl <;> assumption) h3 3 0 (by omega) (by simp) (by simp)) ?_
   simp [affOk, e, Bool.and_assoc]
 ·refine evNeg c (Ev.step (fun k => impl_AffixOk.j0.eq_2 _ _ _ _ _ _ _) (evPos rfl (evTo (Ev.now _) ?_)))
  have : flagB g = false := by simp [flagB]; omega
  simp [affOk, this]
theorem af_at {P : Af → Prop} {l : List Af} (h : ∀ s ∈ l, P s) (i : Nat) (hi : i < l.length) : P (rd_T40 l (i : Int)) := by
 have e : rd_T40 l (i : Int) = l[i] := by simp [rd_T40, List.getD_eq_getElem?_getD, hi]
 rw [e]
 exact h _ (List.getElem_mem hi)
def eqA (a b : Af) : Bool := a.f0.toList == b.f0.toList && (a.f1 == b.f1 && (a.f2.toList == b.f2.toList && (a.f3.toList == b.f3.toList && (a.f4.toList == b.f4.toList))))
theorem beq_comm' {α : Type} [BEq α] [LawfulBEq α] (a b : α) : (a == b) = (b == a) := by
 cases h : (a == b) with
 | true => rw [eq_of_beq h]; simp
 | false =>
  cases g : (b == a) with
  | false => rfl
  | true => rw [eq_of_beq g] at h; simp at h
theorem eqA_comm (a b : Af) : eqA a b = eqA b a := by
 unfold eqA
 rw [beq_comm' a.f0.toList, beq_comm' a.f1, beq_comm' a.f2.toList, beq_comm' a.f3.toList, beq_comm' a.f4.toList]
def dup (l : List Af) (i : Int) : Nat → Int → Bool
 | 0, _ => false
 | d + 1, k => eqA (rd_T40 l k) (rd_T40 l i) || dup l i d (k + 1)
def affGo (l : List Af) : Nat → Int → Bool
 | 0, _ => true
 | d + 1, i => affOk (rd_T40 l i).f0 (rd_T40 l i).f1 (rd_T40 l i).f2 (rd_T40 l i).f3 (rd_T40 l i).f4 && !dup l i i.toNat 0 && affGo l d (i + 1)
def affsB (l : List Af) : Bool := affGo l l.length 0 && decide (l.length ≤ 8)
abbrev AfSz (l : List Af) : Prop := ∀ s ∈ l, (s.f0.size ≤ 1048576 ∧ s.f2.size ≤ 1048576 ∧ s.f3.size ≤ 1048576 ∧ s.f4.size ≤ 1048576)
theorem dup_spec_loop (l : List Af) (hl : l.length ≤ 1048576) (i : Nat) (hi : i < l.length) {r : Bool} (d : Nat) : ∀ k : Nat, k + d = i → (dup l i d k = true → r = false) → (dup l i d k = false → Ev (fun n => spec_l2Affixes.l0 n l (wrap64 ((i : Int) + 1))) r) → Ev (fun n => spec_l2Affixes.l1 n l (i : Int) (k : Int)) r := by
 induction d with
 | zero =>
  intro k hk _ yes
  exact Ev.step (fun n => spec_l2Affixes.l1.eq_2 _ _ _ _) (eN (yes rfl))
 | succ d ih =>
  intro k hk no yes
  simp only [dup] at no yes
  refine Ev.step (fun n => spec_l2Affixes.l1.eq_2 _ _ _ _) (eP (eP (eP (eP (eP ?_)))))
  rw [w6 (n := (k : Int) + 1)]
  cases e : eqA (rd_T40 l (k : Int)) (rd_T40 l (i : Int)) with
  | true =>
   rw [e] at no
   exact evPos e (evTo (Ev.now _) (no rfl).symm)
  | false =>
   rw [e] at no yes
   simp only [Bool.false_or] at no yes
   exact evNeg (fun h => by have h' : eqA (rd_T40 l (k : Int)) (rd_T40 l (i : Int)) = true := h; rw [e] at h'; cases h') (ih (k + 1) (by omega) no yes)
theorem affs_spec_loop (l : List Af) (hl : l.length ≤ 1048576) (hs : AfSz l) (d : Nat) : ∀ i : Nat, i + d = l.length → Ev (fun n => spec_l2Affixes.l0 n l (i : Int)) (affGo l d i && decide (l.length ≤ 8)) := by
 induction d with
 | zero =>
  intro i hi
  refine Ev.step (fun n => spec_l2Affixes.l0.eq_2 _ _ _) (eN (evTo (Ev.now _) ?_))
  simp only [affGo, Bool.true_and]
  exact decide_eq_decide.2 (by omega)
 | succ d ih =>
  intro i hi
  have h := af_at hs i (by omega)
  refine Ev.step (fun n => spec_l2Affixes.l0.eq_2 _ _ _) (eP (eP (Ev.bind (affixOk_spec _ _ _ _ _ (by omega) (by omega) (by omega)) ?_)))
  simp only [affGo]
  cases e : affOk (rd_T40 l (i : Int)).f0 (rd_T40 l (i : Int)).f1 (rd_T40 l (i : Int)).f2 (rd_T40 l (i : Int)).f3 (rd_T40 l (i : Int)).f4 with
  | false => exact evNeg (by simp) (evTo (Ev.now _) (by simp))
  | true =>
   refine evPos rfl (dup_spec_loop l hl i (by omega) i 0 (by omega) (fun hd => ?_) (fun hd => ?_))
   ·have hd' : dup l (i : Int) (i : Int).toNat 0 = true := hd
    rw [hd']
    simp
   ·have hd' : dup l (i : Int) (i : Int).toNat 0 = false := hd
    rw [hd', w6 (n := (i : Int) + 1)]
    exact evTo (ih (i + 1) (by omega)) (by simp)
theorem affs_spec (l : List Af) (hl : l.length ≤ 1048576) (hs : AfSz l) : Ev (fun n => spec_l2Affixes.f n l) (affsB l) := affs_spec_loop l hl hs l.length 0 (by omega)
theorem dup_impl_loop (l q : List Af) (hl : l.length ≤ 1048576) (i : Nat) (hq : q = l.take i) (hi : i < l.length) (d : Nat) : ∀ k : Nat, k + d = i → ∃ v : Int, Ev (fun n => impl_Affix_85.l0 n q (q.length : Int) (k : Int) (rd_T40 l (i : Int)).f0 (rd_T40 l (i : Int)).f1 (rd_T40 l (i : Int)).f2 (rd_T40 l (i : Int)).f3 (rd_T40 l (i : Int)).f4) v ∧ decide (v ≥ 0) = dup l i d k := by
 have hql : q.length = i := by rw [hq, List.length_take]; omega
 induction d with
 | zero =>
  intro k hk
  exact ⟨-1, Ev.step (fun n => impl_Affix_85.l0.eq_2 _ _ _ _ _ _ _ _ _) (eN (Ev.now _)), rfl⟩
 | succ d ih =>
  intro k hk
  have hat : rd_T40 q (k : Int) = rd_T40 l (k : Int) := by
   simp only [rd_T40, List.getD_eq_getElem?_getD, Int.toNat_natCast]
   rw [hq, List.getElem?_take_of_lt (by omega)]
  simp only [dup]
  cases e : eqA (rd_T40 l (k : Int)) (rd_T40 l (i : Int)) with
  | true =>
   have e' : eqA (rd_T40 l (i : Int)) (rd_T40 l (k : Int)) = true := by rw [eqA_comm]; exact e
   refine ⟨k, Ev.step (fun n => impl_Affix_85.l0.eq_2 _ _ _ _ _ _ _ _ _) (eP (eP (eP ?_))), by simp⟩
   rw [hat]
   exact evPos e' (Ev.now _)
  | false =>
   have e' : eqA (rd_T40 l (i : Int)) (rd_T40 l (k : Int)) = false := by rw [eqA_comm]; exact e
   obtain ⟨v, h1, h2⟩ := ih (k + 1) (by omega)
   refine ⟨v, Ev.step (fun n => impl_Affix_85.l0.eq_2 _ _ _ _ _ _ _ _ _) (eP (eP (eP ?_))), by rw [Bool.false_or]; exact h2⟩
   rw [hat, w6 (n := (k : Int) + 1)]
   exact evNeg (fun h => by have h' : eqA (rd_T40 l (i : Int)) (rd_T40 l (k : Int)) = true := h; rw [e'] at h'; cases h') h1
theorem affs_impl_loop (l : List Af) (hl : l.length ≤ 1048576) (hs : AfSz l) (d : Nat) : ∀ i : Nat, i + d = l.length → Ev (fun n => impl_affixesOk.l0 n l l (l.length : Int) (i : Int)) (affGo l d i && decide (l.length ≤ 8)) := by
 induction d with
 | zero =>
  intro i hi
  refine Ev.step (fun n => impl_affixesOk.l0.eq_2 _ _ _ _ _) (eN (evTo (Ev.now _) ?_))
  simp only [affGo, Bool.true_and]
  exact decide_eq_decide.2 (by omega)
 | succ d ih =>
  intro i hi
  have h := af_at hs i (by omega)
  refine Ev.step (fun n => impl_affixesOk.l0.eq_2 _ _ _ _ _) (eP (eP (eP (Ev.bind (affixOk_impl _ _ _ _ _ (by omega) (by omega) (by omega)) ?_))))
  simp only [affGo]
  cases e : affOk (rd_T40 l (i : Int)).f0 (rd_T40 l (i : Int)).f1 (rd_T40 l (i : Int)).f2 (rd_T40 l (i : Int)).f3 (rd_T40 l (i : Int)).f4 with
  | false => exact evNeg (by simp) (evTo (Ev.now _) (by simp))
  | true =>
   obtain ⟨v, h1, h2⟩ := dup_impl_loop l (l.take i) hl i rfl (by omega) i 0 (by omega)
   have hd : Ev (fun n => impl_Affix_65.f n (l.take (i : Int).toNat) (rd_T40 l (i : Int)).f0 (rd_T40 l (i : Int)).f1 (rd_T40 l (i : Int)).f2 (rd_T40 l (i : Int)).f3 (rd_T40 l (i : Int)).f4) (dup l (i : Int) (i : Int).toNat 0) := Ev.bind h1 (evTo (Ev.now _) h2)
   refine evPos rfl (eP (Ev.bind hd ?_))
   rw [w6 (n := (i : Int) + 1)]
   cases dup l (i : Int) (i : Int).toNat 0 with
   | true => exact evPos rfl (evTo (Ev.now _) (by simp))
   | false => exact evNeg (by simp) (evTo (ih (i + 1) (by omega)) (by simp))
theorem affs_impl (l : List Af) (hl : l.length ≤ 1048576) (hs : AfSz l) : Ev (fun n => impl_affixesOk.f n l) (affsB l) := affs_impl_loop l hl hs l.length 0 (by omega)
theorem l1Word_spec (s : ByteArray) (h : s.size ≤ 140737488351232) : Ev (fun k => spec_l1Word.f k s) (wordB s) := by
 unfold spec_l1Word.f
 by_cases c : (s.size : Int) > 0
 ·have hp : 0 < s.size := by omega
  refine evPos c (Ev.bind (letters_spec s 12 h) (evTo (Ev.now _) ?_))
  simp only [wordB, wordL, bytesOf_length, decide_eq_true hp, Bool.true_and]
  rw [Bool.and_comm]
  congr 1
  exact decide_eq_decide.2 (by omega)
 ·exact evNeg c (evTo (Ev.now _) (wordB_no (by omega)).symm)
theorem within_impl (n a b : Int) : impl_within.f n a b = some (decide (a ≤ n) && decide (n ≤ b)) := by
 unfold impl_within.f
 by_cases c : n ≥ a
 ·rw [if_pos c]; simp [c]
 ·rw [if_neg c]; simp; omega
theorem word_impl (s : ByteArray) (h : s.size ≤ 140737488351232) : Ev (fun k => impl_WordOk.f k s) (wordB s) := by
 unfold impl_WordOk.f
 refine evCall (within_impl _ _ _) ?_
 by_cases c : (1 ≤ (s.size : Int) ∧ (s.size : Int) ≤ 12)
 ·have hp : 0 < s.size := by omega
  have hq : s.size ≤ 12 := by omega
  refine evPos (by simp; omega) (Ev.bind (lower_impl s h) (evTo (Ev.now _) ?_))
  simp only [wordB, wordL, bytesOf_length, decide_eq_true hp, decide_eq_true hq, Bool.true_and]
 ·exact evNeg (by simp; omega) (evTo (Ev.now _) (wordB_no (by omega)).symm)
theorem bt_extract0 (s : ByteArray) (i : Nat) (h : i < s.size) : bt (s.extract i (i + 1)) 0 = bt s i := by
 have hs : (s.extract i (i + 1)).size = 1 := by rw [size_extract s i (i + 1) (by omega) (by omega)]; omega
 have h1 := bytes_drop (s.extract i (i + 1)) 0 (by omega) (by omega)
 have h2 := bytes_drop s i (by omega) (by omega)
 rw [bytes_extract] at h1
 have h2' : (bytesOf s).drop i = bt s i :: (bytesOf s).drop ((i : Int) + 1).toNat := by simpa using h2
 rw [h2', show i + 1 - i = 1 from by omega] at h1
 simp only [List.take_succ_cons, List.take_zero] at h1
 have := congrArg List.head? h1
 simpa using this.symm
theorem flag_extract (s : ByteArray) (i : Nat) (h : i < s.size) : flagB (s.extract i (i + 1)) = (decide (65 ≤ bt s i) && decide (bt s i ≤ 90)) := by
 have hs : (s.extract i (i + 1)).size = 1 := by rw [size_extract s i (i + 1) (by omega) (by omega)]; omega
 unfold flagB
 rw [hs, bt_extract0 s i h]
 simp
def flGo (s : ByteArray) : Nat → Int → Bool
 | 0, _ => true
 | d + 1, i => (decide (65 ≤ bt s i) && decide (bt s i ≤ 90)) && (if i > 0 then decide (bt s (i - 1) < bt s i) else true) && flGo s d (i + 1)
def entB (w f : ByteArray) : Bool := flGo f f.size 0 && (wordB w && decide (f.size ≤ 4))
theorem ent_spec_loop (w f : ByteArray) (hw : w.size ≤ 1048576) (hf : f.size ≤ 1048576) (d : Nat) : ∀ i : Nat, i + d = f.size → Ev (fun k => spec_l2Entry.l0 k (i : Int) w f) (flGo f d i && (wordB w && decide (f.size ≤ 4))) := by
 induction d with
 | zero =>
  intro i hi
  refine Ev.step (fun k => spec_l2Entry.l0.eq_2 _ _ _ _) (eN (Ev.bind (l1Word_spec w (by omega)) ?_))
  simp only [flGo, Bool.true_and]
  cases wordB w with
  | false => exact evNeg (by simp) (Ev.now _)
  | true => exact evPos rfl (evTo (Ev.now _) (by rw [Bool.true_and]; exact decide_eq_decide.2 (by omega)))
 | succ d ih =>
  intro i hi
  refine Ev.step (fun k => spec_l2Entry.l0.eq_2 _ _ _ _) ?_
  rw [w6 (n := (i : Int) + 1)]
  refine eP (eP (eP (eP (evCall (flag_spec _) ?_))))
  rw [show ((i : Int) + 1).toNat = i + 1 from by omega, Int.toNat_natCast, flag_extract f i (by omega)]
  simp only [flGo]
  have next := ih (i + 1) (by omega)
  cases e : (decide (65 ≤ bt f i) && decide (bt f i ≤ 90)) with
  | false => exact evNeg (by simp) (evTo (Ev.now _) (by simp))
  | true =>
   refine evPos rfl ?_
   by_cases c : (i : Int) > 0
   ·rw [w6 (n := (i : Int) - 1), if_pos c]
    refine evPos c (eP (eP ?_))
    by_cases g : bt f ((i : Int) - 1) ≥ bt f i
    ·rw [decide_eq_false (show ¬ bt f ((i : Int) - 1) < bt f i from by omega)]
     exact evPos g (evTo (Ev.now _) (by simp))
    ·rw [decide_eq_true (show bt f ((i : Int) - 1) < bt f i from by omega)]
     exact evNeg g (evTo next (by simp))
   ·rw [if_neg c]
    exact evNeg c (evTo next (by simp))
theorem ent_spec (w f : ByteArray) (hw : w.size ≤ 1048576) (hf : f.size ≤ 1048576) : Ev (fun k => spec_l2Entry.f k w f) (entB w f) := ent_spec_loop w f hw hf f.size 0 (by omega)
theorem ent_impl_loop (w f : ByteArray) (hw : w.size ≤ 1048576) (hf : f.size ≤ 1048576) (d : Nat) : ∀ i : Nat, i + d = f.size → Ev (fun k => impl_entryOk.l0 k (f.size : Int) (i : Int) w f) (flGo f d i && (wordB w && decide (f.size ≤ 4))) := by
 induction d with
 | zero =>
  intro i hi
  refine Ev.step (fun k => impl_entryOk.l0.eq_2 _ _ _ _ _) (eN (Ev.bind (word_impl w (by omega)) ?_))
  simp only [flGo, Bool.true_and]
  cases wordB w with
  | false => exact evNeg (by simp) (Ev.now _)
  | true => exact evPos rfl (evTo (Ev.now _) (by rw [Bool.true_and]; exact decide_eq_decide.2 (by omega)))
 | succ d ih =>
  intro i hi
  refine Ev.step (fun k => impl_entryOk.l0.eq_2 _ _ _ _ _) ?_
  rw [w6 (n := (i : Int) + 1)]
  refine eP (eP (eP (evCall (upper_impl _) ?_)))
  simp only [flGo]
  have next := ih (i + 1) (by omega)
  cases e : (decide (65 ≤ bt f i) && decide (bt f i ≤ 90)) with
  | false => exact evNeg (by simp) (evTo (Ev.now _) (by simp))
  | true =>
   refine evPos rfl ?_
   by_cases c : (i : Int) > 0
   ·rw [w6 (n := (i : Int) - 1), if_pos c]
    refine evPos c (eP (eP ?_))
    by_cases g : bt f ((i : Int) - 1) ≥ bt f i
    ·rw [decide_eq_false (show ¬ bt f ((i : Int) - 1) < bt f i from by omega)]
     exact evPos g (evTo (Ev.now _) (by simp))
    ·rw [decide_eq_true (show bt f ((i : Int) - 1) < bt f i from by omega)]
     exact evNeg g (evTo next (by simp))
   ·rw [if_neg c]
    exact evNeg c (evTo next (by simp))
theorem ent_impl (w f : ByteArray) (hw : w.size ≤ 1048576) (hf : f.size ≤ 1048576) : Ev (fun k => impl_entryOk.f k w f) (entB w f) := ent_impl_loop w f hw hf f.size 0 (by omega)
def entGo (l : List En) : Nat → Int → Bool
 | 0, _ => true
 | d + 1, i => entB (rd_T43 l i).f0 (rd_T43 l i).f1 && (if i > 0 then Op.bytesLess (rd_T43 l (i - 1)).f0.toList (rd_T43 l i).f0.toList else true) && entGo l d (i + 1)
def entsB (l : List En) : Bool := entGo l l.length 0 && decide (l.length ≤ 24)
theorem en_at {P : En → Prop} {l : List En} (h : ∀ s ∈ l, P s) (i : Nat) (hi : i < l.length) : P (rd_T43 l (i : Int)) := by
 have e : rd_T43 l (i : Int) = l[i] := by simp [rd_T43, List.getD_eq_getElem?_getD, hi]
 rw [e]
 exact h _ (List.getElem_mem hi)
theorem ents_spec_loop (A : List Af) (l : List En) (hl : l.length ≤ 1048576) (he : ∀ s ∈ l, (s.f0.size ≤ 1048576 ∧ s.f1.size ≤ 1048576)) {r : Bool} (no : entGo l l.length 0 = false → r = false) (d : Nat) : ∀ i : Nat, i + d = l.length → (entGo l d i = false → r = false) →
  (entGo l d i = true → Ev (fun k => (spec_l2Affixes.f k A).bind fun t130 => (if t130 = true then (some (decide ((l.length : Int) ≤ 24))) else (some false))) r) → Ev (fun k => spec_BookOk.l0 k (i : Int) A l) r := by
 induction d with
 | zero =>
  intro i hi _ yes
  exact Ev.step (fun k => spec_BookOk.l0.eq_2 _ _ _ _) (eN (yes rfl))
 | succ d ih =>
  intro i hi no' yes
  have hs := en_at he i (by omega)
  simp only [entGo] at no' yes
  refine Ev.step (fun k => spec_BookOk.l0.eq_2 _ _ _ _) (eP (eP (Ev.bind (ent_spec _ _ hs.1 hs.2) ?_)))
  rw [w6 (n := (i : Int) + 1)]
  have next := ih (i + 1) (by omega)
  cases e : entB (rd_T43 l (i : Int)).f0 (rd_T43 l (i : Int)).f1 with
  | false =>
   rw [e] at no'
   exact evNeg (by simp) (evTo (Ev.now _) (no' (by simp)).symm)
  | true =>
   rw [e] at no' yes
   refine evPos rfl ?_
   by_cases c : (i : Int) > 0
   ·rw [w6 (n := (i : Int) - 1)]
    rw [if_pos c] at no' yes
    refine evPos c (eP (eP ?_))
    cases g : Op.bytesLess (rd_T43 l ((i : Int) - 1)).f0.toList (rd_T43 l (i : Int)).f0.toList with
    | false =>
     rw [g] at no'
     exact evNeg (by simp) (evTo (Ev.now _) (no' (by simp)).symm)
    | true =>
     rw [g] at no' yes
     simp only [Bool.true_and] at no' yes
     exact evPos rfl (next no' yes)
   ·rw [if_neg c] at no' yes
    simp only [Bool.true_and] at no' yes
    exact evNeg c (next no' yes)
theorem ents_impl_loop (l : List En) (hl : l.length ≤ 1048576) (he : ∀ s ∈ l, (s.f0.size ≤ 1048576 ∧ s.f1.size ≤ 1048576)) (d : Nat) : ∀ i : Nat, i + d = l.length → Ev (fun k => impl_entriesOk.l0 k l l (l.length : Int) (i : Int)) (entGo l d i && decide (l.length ≤ 24)) := by
 induction d with
 | zero =>
  intro i hi
  refine Ev.step (fun k => impl_entriesOk.l0.eq_2 _ _ _ _ _) (eN (evTo (Ev.now _) ?_))
  simp only [entGo, Bool.true_and]
  exact decide_eq_decide.2 (by omega)
 | succ d ih =>
  intro i hi
  have hs := en_at he i (by omega)
  refine Ev.step (fun k => impl_entriesOk.l0.eq_2 _ _ _ _ _) (eP (eP (eP (Ev.bind (ent_impl _ _ hs.1 hs.2) ?_))))
  rw [w6 (n := (i : Int) + 1)]
  have next := ih (i + 1) (by omega)
  simp only [entGo]
  cases e : entB (rd_T43 l (i : Int)).f0 (rd_T43 l (i : Int)).f1 with
  | false => exact evNeg (by simp) (evTo (Ev.now _) (by simp))
  | true =>
   refine evPos rfl ?_
   by_cases c : (i : Int) > 0
   ·rw [w6 (n := (i : Int) - 1), if_pos c]
    refine evPos c (eP (eP ?_))
    cases g : Op.bytesLess (rd_T43 l ((i : Int) - 1)).f0.toList (rd_T43 l (i : Int)).f0.toList with
    | false => exact evNeg (by simp) (evTo (Ev.now _) (by simp))
    | true => exact evPos rfl (evTo next (by simp))
   ·rw [if_neg c]
    exact evNeg c (evTo next (by simp))
def bookB (A : List Af) (E : List En) : Bool := affsB A && entsB E
theorem bookOk_spec (A : List Af) (E : List En) (h : BkSz A E) : Ev (fun n => spec_BookOk.f n A E) (bookB A E) := by
 refine ents_spec_loop A E h.le h.e (fun hf => by simp [bookB, entsB, hf]) E.length 0 (by omega) (fun hf => ?_) (fun ht => ?_)
 ·have hf' : entGo E E.length 0 = false := hf
  simp [bookB, entsB, hf']
 ·have ht' : entGo E E.length 0 = true := ht
  refine Ev.bind (affs_spec A h.la h.a) ?_
  simp only [bookB, entsB, ht', Bool.true_and]
  cases affsB A with
  | false => exact evNeg (by simp) (evTo (Ev.now _) (by simp))
  | true => exact evPos rfl (evTo (Ev.now _) (by rw [Bool.true_and]; exact decide_eq_decide.2 (by omega)))
theorem bookOk_impl (A : List Af) (E : List En) (h : BkSz A E) : Ev (fun n => impl_BookOk.f n A E) (bookB A E) := by
 unfold impl_BookOk.f
 refine Ev.bind (affs_impl A h.la h.a) ?_
 simp only [bookB]
 cases affsB A with
 | false => exact evNeg (by simp) (evTo (Ev.now _) (by simp))
 | true => exact evPos rfl (Ev.bind (ents_impl_loop E h.le h.e E.length 0 (by omega)) (evTo (Ev.now _) (by rw [Bool.true_and]; rfl)))
def nlB : ByteArray := ⟨#[10]⟩
def affLine (a : Af) : ByteArray := ((((((((if a.f1 = true then (⟨#[102, 114, 111, 110, 116]⟩ : ByteArray) else ⟨#[101, 110, 100]⟩) ++ ⟨#[32]⟩) ++ a.f0) ++ ⟨#[32]⟩) ++ a.f2) ++ ⟨#[32]⟩) ++ a.f3) ++ ⟨#[32]⟩) ++ a.f4
def entLine (e : En) : ByteArray := if e.f1.toList = ([] : List UInt8) then e.f0 else (e.f0 ++ ⟨#[47]⟩) ++ e.f1
abbrev AfL (a : Af) : Prop := a.f0.size ≤ 1048576 ∧ a.f2.size ≤ 1048576 ∧ a.f3.size ≤ 1048576 ∧ a.f4.size ≤ 1048576
abbrev EnL (e : En) : Prop := e.f0.size ≤ 1048576 ∧ e.f1.size ≤ 1048576
theorem affLine_size {a : Af} (h : AfL a) : (affLine a).size ≤ 8388600 := by
 obtain ⟨h0, h2, h3, h4⟩ := h
 have e1 : (⟨#[32]⟩ : ByteArray).size = 1 := rfl
 have e2 : (if a.f1 = true then (⟨#[102, 114, 111, 110, 116]⟩ : ByteArray) else ⟨#[101, 110, 100]⟩).size ≤ 5 := by
  split
  ·decide
  ·decide
 unfold affLine
 simp only [size_append, e1]
 omega
theorem entLine_size {e : En} (h : EnL e) : (entLine e).size ≤ 8388600 := by
 obtain ⟨h0, h1⟩ := h
 have e1 : (⟨#[47]⟩ : ByteArray).size = 1 := rfl
 unfold entLine
 split
 ·omega
 ·simp only [size_append, e1]
  omega
theorem affPut_spec {a : Af} (h : AfL a) : spec_l2AffixPut.f a.f0 a.f1 a.f2 a.f3 a.f4 = some (affLine a) := by
 obtain ⟨h0, h2, h3, h4⟩ := h
 unfold spec_l2AffixPut.f
 rw [if_pos (by omega)]
 rfl
theorem affPut_impl {a : Af} (h : AfL a) : impl_affixLine.f a.f0 a.f1 a.f2 a.f3 a.f4 = some (affLine a ++ nlB) := by
 obtain ⟨h0, h2, h3, h4⟩ := h
 unfold impl_affixLine.f
 rw [if_pos (by omega)]
 rfl
theorem entPut_spec {e : En} (h : EnL e) : spec_l2EntryPut.f e.f0 e.f1 = some (entLine e) := by
 obtain ⟨h0, h1⟩ := h
 have e1 : (⟨#[47]⟩ : ByteArray).size = 1 := rfl
 unfold spec_l2EntryPut.f entLine
 by_cases c : e.f1.toList = ([] : List UInt8)
 ·rw [if_pos c, if_pos c]
 ·rw [if_neg c, if_neg c, if_pos (by omega), if_pos (by simp only [size_append, e1]; omega)]
theorem entPut_impl {e : En} (h : EnL e) : impl_entryLine.f e.f0 e.f1 = some (entLine e ++ nlB) := by
 obtain ⟨h0, h1⟩ := h
 unfold impl_entryLine.f entLine
 rw [if_pos (by omega)]
 split <;> rfl
def putAs (l : List Af) (o : ByteArray) : ByteArray := l.foldl (fun o a => (o ++ affLine a) ++ nlB) o
theorem app_assoc (a b c : ByteArray) : a ++ (b ++ c) = (a ++ b) ++ c := by
 apply bytes_inj
 rw [bytes_append, bytes_append, bytes_append, bytes_append, List.append_assoc]
theorem nl_size : nlB.size = 1 := rfl
theorem af_get (l : List Af) (i : Nat) (hi : i < l.length) : rd_T40 l (i : Int) = l[i] := by simp [rd_T40, List.getD_eq_getElem?_getD, hi]
theorem en_get (l : List En) (i : Nat) (hi : i < l.length) : rd_T43 l (i : Int) = l[i] := by simp [rd_T43, List.getD_eq_getElem?_getD, hi]
theorem putAs_step (l : List Af) (i : Nat) (hi : i < l.length) (o : ByteArray) : putAs (l.drop i) o = putAs (l.drop (i + 1)) ((o ++ affLine (rd_T40 l (i : Int))) ++ nlB) := by
 rw [af_get l i hi, List.drop_eq_getElem_cons hi]
 rfl
def putEs (l : List En) (o : ByteArray) : ByteArray := l.foldl (fun o e => (o ++ entLine e) ++ nlB) o
def putBk (A : List Af) (E : List En) : ByteArray := putEs E (putAs A ⟨#[]⟩)
theorem putEs_step (l : List En) (i : Nat) (hi : i < l.length) (o : ByteArray) : putEs (l.drop i) o = putEs (l.drop (i + 1)) ((o ++ entLine (rd_T43 l (i : Int))) ++ nlB) := by
 rw [en_get l i hi, List.drop_eq_getElem_cons hi]
 rfl
theorem putE_spec_loop (A : List Af) (E : List En) (h : BkSz A E) (d : Nat) : ∀ (i : Nat) (o : ByteArray), i + d = E.length → o.size ≤ 8796093022208 + i * 8388608 → Ev (fun k => spec_l2Put.l1 k o (i : Int) A E) (putEs (E.drop i) o) := by
 have hl := h.le
 induction d with
 | zero =>
  intro i o hi ho
  refine Ev.step (fun k => spec_l2Put.l1.eq_2 _ _ _ _ _) (eN (evTo (Ev.now _) ?_))
  rw [List.drop_eq_nil_of_le (by omega)]
  rfl
 | succ d ih =>
  intro i o hi ho
  have hz := en_at (P := EnL) h.e i (by omega)
  have hs := entLine_size hz
  rw [putEs_step E i (by omega) o]
  refine Ev.step (fun k => spec_l2Put.l1.eq_2 _ _ _ _ _) (eP (eP (evCall (entPut_spec hz) (eP (evPos (by rw [size_append]; omega) ?_)))))
  rw [w6 (n := (i : Int) + 1)]
  exact ih (i + 1) _ (by omega) (by have e : (⟨#[10]⟩ : ByteArray).size = 1 := rfl; simp only [size_append, nl_size, e]; omega)
theorem put_spec_loop (A : List Af) (E : List En) (h : BkSz A E) (d : Nat) : ∀ (i : Nat) (o : ByteArray), i + d = A.length → o.size ≤ i * 8388608 → Ev (fun k => spec_l2Put.l0 k o (i : Int) A E) (putEs E (putAs (A.drop i) o)) := by
 have hl := h.la
 induction d with
 | zero =>
  intro i o hi ho
  refine Ev.step (fun k => spec_l2Put.l0.eq_2 _ _ _ _ _) (eN ?_)
  rw [List.drop_eq_nil_of_le (by omega)]
  exact putE_spec_loop A E h E.length 0 o (by omega) (by omega)
 | succ d ih =>
  intro i o hi ho
  have hz := af_at (P := AfL) h.a i (by omega)
  have hs := affLine_size hz
  rw [putAs_step A i (by omega) o]
  refine Ev.step (fun k => spec_l2Put.l0.eq_2 _ _ _ _ _) (eP (eP (evCall (affPut_spec hz) (eP (evPos (by rw [size_append]; omega) ?_)))))
  rw [w6 (n := (i : Int) + 1)]
  exact ih (i + 1) _ (by omega) (by have e : (⟨#[10]⟩ : ByteArray).size = 1 := rfl; simp only [size_append, nl_size, e]; omega)
theorem l2Put_ev (A : List Af) (E : List En) (h : BkSz A E) : Ev (fun k => spec_l2Put.f k A E) (putBk A E) := put_spec_loop A E h A.length 0 _ (by omega) (by decide)
theorem putE_impl_loop (A : List Af) (E : List En) (h : BkSz A E) (d : Nat) : ∀ (i : Nat) (o : ByteArray), i + d = E.length → o.size ≤ 8796093022208 + i * 8388608 → Ev (fun k => impl_BookPut.l1 k o E (E.length : Int) (i : Int)) (putEs (E.drop i) o) := by
 have hl := h.le
 induction d with
 | zero =>
  intro i o hi ho
  refine Ev.step (fun k => impl_BookPut.l1.eq_2 _ _ _ _ _) (eN (evTo (Ev.now _) ?_))
  rw [List.drop_eq_nil_of_le (by omega)]
  rfl
 | succ d ih =>
  intro i o hi ho
  have hz := en_at (P := EnL) h.e i (by omega)
  have hs := entLine_size hz
  rw [putEs_step E i (by omega) o]
  refine Ev.step (fun k => impl_BookPut.l1.eq_2 _ _ _ _ _) (eP (eP (eP (evCall (entPut_impl hz) (evPos (by rw [size_append, nl_size]; omega) ?_)))))
  rw [w6 (n := (i : Int) + 1), app_assoc]
  exact ih (i + 1) _ (by omega) (by simp only [size_append, nl_size]; omega)
theorem put_impl_loop (A : List Af) (E : List En) (h : BkSz A E) (d : Nat) : ∀ (i : Nat) (o : ByteArray), i + d = A.length → o.size ≤ i * 8388608 → Ev (fun k => impl_BookPut.l0 k o A (A.length : Int) (i : Int) A E) (putEs E (putAs (A.drop i) o)) := by
 have hl := h.la
 induction d with
 | zero =>
  intro i o hi ho
  refine Ev.step (fun k => impl_BookPut.l0.eq_2 _ _ _ _ _ _ _) (eN ?_)
  rw [List.drop_eq_nil_of_le (by omega)]
  exact putE_impl_loop A E h E.length 0 o (by omega) (by omega)
 | succ d ih =>
  intro i o hi ho
  have hz := af_at (P := AfL) h.a i (by omega)
  have hs := affLine_size hz
  rw [putAs_step A i (by omega) o]
  refine Ev.step (fun k => impl_BookPut.l0.eq_2 _ _ _ _ _ _ _) (eP (eP (eP (evCall (affPut_impl hz) (evPos (by rw [size_append, nl_size]; omega) ?_)))))
  rw [w6 (n := (i : Int) + 1), app_assoc]
  exact ih (i + 1) _ (by omega) (by simp only [size_append, nl_size]; omega)
def putB (A : List Af) (E : List En) : ByteArray := if bookB A E = true then putBk A E else ⟨#[]⟩
theorem bookPut_impl (A : List Af) (E : List En) (h : BkSz A E) : Ev (fun k => impl_BookPut.f k A E) (putB A E) := by
 unfold impl_BookPut.f putB
 refine Ev.bind (bookOk_impl A E h) ?_
 by_cases c : bookB A E = true
 ·rw [if_pos c]
  exact evPos c (put_impl_loop A E h A.length 0 _ (by omega) (by decide))
 ·rw [if_neg c]
  exact evNeg c (Ev.now _)
def linesB (s : ByteArray) : List ByteArray := (spl 10 s).dropLast
theorem spl_ne (c : UInt8) (s : ByteArray) : (spl c s).length = (spl c s).dropLast.length + 1 := by
 have := spl_length c s
 rw [List.length_dropLast]
 omega
theorem count_le (c : UInt8) (s : ByteArray) : s.data.toList.count c ≤ s.size := by
 rw [← data_length]
 exact List.count_le_length
theorem linesB_length (s : ByteArray) : (linesB s).length ≤ s.size := by
 have := count_le 10 s
 rw [linesB, List.length_dropLast, spl_length]
 omega
theorem linesB_size {s p : ByteArray} (h : p ∈ linesB s) : p.size ≤ s.size := spl_size (List.dropLast_subset _ h)
theorem lines_ev {s : ByteArray} (hs : s.size ≤ 1000000000) : impl_linesOf.f s = some (linesB s) := by
 unfold impl_linesOf.f
 have hc := count_le 10 s
 have hl := spl_length 10 s
 have hw : wrap64 (((spl 10 s).length : Int) - 1) = ((spl 10 s).length : Int) - 1 := w6
 rw [split_ev 10 hs, Option.bind_some, hw, if_pos (by omega), if_pos (by omega), linesB, List.dropLast_eq_take]
 congr 2
 omega
abbrev emB : ByteArray := ⟨#[]⟩
def affOf (q : List ByteArray) : Af := ⟨rdOf ByteArray.empty q 1, (rdOf ByteArray.empty q 0).toList == ([102, 114, 111, 110, 116] : List UInt8), rdOf ByteArray.empty q 2, rdOf ByteArray.empty q 3, rdOf ByteArray.empty q 4⟩
def readA (x : ByteArray) : Af := affOf (spl 32 x ++ [emB, emB, emB, emB])
def readE (x : ByteArray) : En := ⟨(cutP 47 x).1, (cutP 47 x).2.1⟩
def has32 (x : ByteArray) : Bool := x.data.toList.contains 32
theorem readA_ev {s : ByteArray} (hs : s.size ≤ 1000000000) : impl_readAffix.f s = some ((readA s).f0, (readA s).f1, (readA s).f2, (readA s).f3, (readA s).f4) := by
 have hc := count_le 32 s
 have hl := spl_length 32 s
 have hq : (spl 32 s ++ [emB, emB, emB, emB]).length = (spl 32 s).length + 4 := by rw [List.length_append]; rfl
 unfold impl_readAffix.f
 rw [split_ev 32 hs, Option.bind_some, Option.bind_some, if_pos (show (spl 32 s).length + ([emB, emB, emB, emB] : List ByteArray).length < 8796093022208 from by simp only [List.length_cons, List.length_nil]; omega), Option.bind_some, if_pos (by rw [hq]; omega), if_pos (by rw [hq]; omega), if_pos (by rw [hq]; omega), if_pos (by rw [hq]; omega), if_pos (by rw [hq]; omega)]
 rfl
theorem readE_ev {s : ByteArray} (hs : s.size ≤ 1000000000) : impl_readEntry.f s = some ((readE s).f0, (readE s).f1) := by
 unfold impl_readEntry.f
 rw [cut_ev 47 hs, Option.bind_some]
 rfl
theorem affOf_ev (q : List ByteArray) (h : q.length = 5) : spec_l2AffixGet.f q = some ((affOf q).f0, (affOf q).f1, (affOf q).f2, (affOf q).f3, (affOf q).f4) := by
 unfold spec_l2AffixGet.f
 rw [if_pos (by omega), if_pos (by omega), if_pos (by omega), if_pos (by omega), if_pos (by omega)]
 rfl
theorem rd_size {q : List ByteArray} {n : Nat} (h : ∀ p ∈ q, p.size ≤ n) (i : Int) : (rdOf ByteArray.empty q i).size ≤ n := by
 unfold rdOf
 rw [List.getD_eq_getElem?_getD]
 cases e : q[i.toNat]? with
 | none => exact Nat.zero_le _
 | some p => exact h p (List.mem_of_getElem? e)
theorem affOf_sz {q : List ByteArray} (h : ∀ p ∈ q, p.size ≤ 1048576) : AfL (affOf q) := ⟨rd_size h _, rd_size h _, rd_size h _, rd_size h _⟩
theorem readA_sz {x : ByteArray} (h : x.size ≤ 1048576) : AfL (readA x) := affOf_sz (fun p hp => by
 rcases List.mem_append.1 hp with hp | hp
 ·exact Nat.le_trans (spl_size hp) h
 ·have e : p = emB := by simpa using hp
  rw [e]
  exact Nat.zero_le _)
theorem readE_sz {x : ByteArray} (h : x.size ≤ 1048576) : EnL (readE x) := by
 have hl := data_length x
 have h1 : (x.data.toList.takeWhile (· != 47)).length ≤ x.data.toList.length := (List.takeWhile_sublist _).length_le
 have h2 : ((x.data.toList.dropWhile (· != 47)).drop 1).length ≤ x.data.toList.length := Nat.le_trans (List.drop_sublist 1 _).length_le (List.dropWhile_sublist _).length_le
 exact ⟨Nat.le_trans (show (readE x).f0.size ≤ x.data.toList.length from h1) (by omega), Nat.le_trans (show (readE x).f1.size ≤ x.data.toList.length from h2) (by omega)⟩
def parseI : List ByteArray → List Af → List En → List Af × List En
 | [], A, E => (A, E)
 | x :: l, A, E => if has32 x = true then parseI l (A ++ [readA x]) E else parseI l A (E ++ [readE x])
def getE (x : ByteArray) : Option En :=
 if (spl 47 x).length > 2 then none
 else if (spl 47 x).length = 2 then
  (if (rdOf ByteArray.empty (spl 47 x) 1).toList = ([] : List UInt8) then none else if entB (rdOf ByteArray.empty (spl 47 x) 0) (rdOf ByteArray.empty (spl 47 x) 1) = true then some ⟨rdOf ByteArray.empty (spl 47 x) 0, rdOf ByteArray.empty (spl 47 x) 1⟩ else none)
 else if entB (rdOf ByteArray.empty (spl 47 x) 0) emB = true then some ⟨rdOf ByteArray.empty (spl 47 x) 0, emB⟩ else none
def parseS : List ByteArray → List Af → List En → Option (List Af × List En)
 | [], A, E => some (A, E)
 | x :: l, A, E => if (spl 32 x).length = 5 then parseS l (A ++ [affOf (spl 32 x)]) E else
  match getE x with
  | none => none
  | some e => parseS l A (E ++ [e])
theorem getE_sz {x : ByteArray} (h : x.size ≤ 1048576) {e : En} (he : getE x = some e) : EnL e := by
 have hp : ∀ p ∈ spl 47 x, p.size ≤ 1048576 := fun p hp => Nat.le_trans (spl_size hp) h
 unfold getE at he
 split at he
 ·cases he
 ·split at he
  ·split at he
   ·cases he
   ·split at he
    ·cases he
     exact ⟨rd_size hp _, rd_size hp _⟩
    ·cases he
  ·split at he
   ·cases he
    exact ⟨rd_size hp _, Nat.zero_le _⟩
   ·cases he
theorem getE_ev (x : ByteArray) (h : x.size ≤ 1048576) : ∃ v, Ev (fun k => spec_l2EntryGet.f k x) v ∧ (getE x = none → v.2.2 = false) ∧ (∀ e, getE x = some e → v = (e.f0, e.f1, true)) := by
 have hp : ∀ p ∈ spl 47 x, p.size ≤ 1048576 := fun p hp => Nat.le_trans (spl_size hp) h
 have hz0 := rd_size hp 0
 have hz1 := rd_size hp 1
 have hl : 1 ≤ (spl 47 x).length := by rw [spl_length]; omega
 have hc := l1Cut_ev x 47 47 rfl (by omega)
 have e0 := ent_spec (rdOf ByteArray.empty (spl 47 x) 0) emB hz0 (Nat.zero_le _)
 have e1 := ent_spec (rdOf ByteArray.empty (spl 47 x) 0) (rdOf ByteArray.empty (spl 47 x) 1) hz0 hz1
 unfold spec_l2EntryGet.f getE
 by_cases c : (spl 47 x).length > 2
 ·rw [if_pos c]
  exact ⟨_, Ev.bind hc (eP (Ev.step (fun k => spec_l2EntryGet.j0.eq_2 _ _ _) (evPos rfl (Ev.now _)))), fun _ => rfl, fun e he => by cases he⟩
 ·rw [if_neg c]
  by_cases c2 : (spl 47 x).length = 2
  ·rw [if_pos c2]
   by_cases c3 : (rdOf ByteArray.empty (spl 47 x) 1).toList = ([] : List UInt8)
   ·rw [if_pos c3]
    refine ⟨_, Ev.bind hc (eN (eP (eP (Ev.step (fun k => spec_l2EntryGet.j0.eq_2 _ _ _) (evPos ?_ (Ev.now _)))))), fun _ => rfl, fun e he => by cases he⟩
    rw [c3]
    rfl
   ·rw [if_neg c3]
    have hne : ¬ ((rdOf ByteArray.empty (spl 47 x) 1).toList == ([] : List UInt8)) = true := fun q => c3 (eq_of_beq q)
    refine ⟨_, Ev.bind hc (eN (eP (eP (Ev.step (fun k => spec_l2EntryGet.j0.eq_2 _ _ _) (evNeg hne (eP (eP (eP (Ev.bind e1 (Ev.now _)))))))))), fun q => ?_, fun e he => ?_⟩
    ·split at q
     ·cases q
     ·rename_i r
      exact Bool.eq_false_iff.2 r
    ·split at he
     ·rename_i r
      cases he
      simp only [r]
     ·cases he
  ·rw [if_neg c2]
   refine ⟨_, Ev.bind hc (eN (eN (Ev.step (fun k => spec_l2EntryGet.j0.eq_2 _ _ _) (evNeg (by simp) (eP (eN (Ev.bind e0 (Ev.now _)))))))), fun q => ?_, fun e he => ?_⟩
   ·split at q
    ·cases q
    ·rename_i r
     exact Bool.eq_false_iff.2 r
   ·split at he
    ·rename_i r
     cases he
     simp only [r]
    ·cases he
noncomputable def fin (T : ByteArray) (p : List Af × List En) : List Af × List En × Bool := if bookB p.1 p.2 = true ∧ putBk p.1 p.2 = T then (p.1, p.2, true) else ([], [], false)
theorem fin_yes {T : ByteArray} {A : List Af} {E : List En} (c : bookB A E = true) (d : putBk A E = T) : fin T (A, E) = (A, E, true) := if_pos ⟨c, d⟩
theorem fin_no {T : ByteArray} {A : List Af} {E : List En} (c : ¬ (bookB A E = true ∧ putBk A E = T)) : fin T (A, E) = ([], [], false) := if_neg c
theorem toList_eq_iff (a b : ByteArray) : a.toList = b.toList ↔ a = b := toList_iff a b
theorem fin_impl (T : ByteArray) (A : List Af) (E : List En) (h : BkSz A E) : Ev (fun k => (impl_BookOk.f k A E).bind fun t => (if t = true then ((impl_BookPut.f k A E).bind fun u => (if u.toList = T.toList then (some (A, E, true)) else (some (([] : List Af), ([] : List En), false)))) else (some (([] : List Af), ([] : List En), false)))) (fin T (A, E)) := by
 refine Ev.bind (bookOk_impl A E h) ?_
 by_cases c : bookB A E = true
 ·refine evPos c (Ev.bind (bookPut_impl A E h) ?_)
  have e : putB A E = putBk A E := by rw [putB, if_pos c]
  rw [e]
  by_cases d : putBk A E = T
  ·exact evPos ((toList_eq_iff _ _).2 d) (evTo (Ev.now _) (fin_yes c d).symm)
  ·exact evNeg (fun q => d ((toList_eq_iff _ _).1 q)) (evTo (Ev.now _) (fin_no (fun q => d q.2)).symm)
 ·exact evNeg c (evTo (Ev.now _) (fin_no (fun q => c q.1)).symm)
theorem fin_spec (T : ByteArray) (A : List Af) (E : List En) (h : BkSz A E) : Ev (fun k => (spec_BookOk.f k A E).bind fun t => (if t = true then ((spec_l2Put.f k A E).bind fun u => (if u.toList = T.toList then (some (A, E, true)) else (some (([] : List Af), ([] : List En), false)))) else (some (([] : List Af), ([] : List En), false)))) (fin T (A, E)) := by
 refine Ev.bind (bookOk_spec A E h) ?_
 by_cases c : bookB A E = true
 ·refine evPos c (Ev.bind (l2Put_ev A E h) ?_)
  by_cases d : putBk A E = T
  ·exact evPos ((toList_eq_iff _ _).2 d) (evTo (Ev.now _) (fin_yes c d).symm)
  ·exact evNeg (fun q => d ((toList_eq_iff _ _).1 q)) (evTo (Ev.now _) (fin_no (fun q => d q.2)).symm)
 ·exact evNeg c (evTo (Ev.now _) (fin_no (fun q => c q.1)).symm)
theorem mem_snoc_all {α : Type} {P : α → Prop} {l : List α} {x : α} (h : ∀ s ∈ l, P s) (hx : P x) : ∀ s ∈ l ++ [x], P s := by
 intro s hs
 rcases List.mem_append.1 hs with hs | hs
 ·exact h s hs
 ·rw [List.mem_singleton.1 hs]
  exact hx
theorem get_impl_loop (T : ByteArray) (L : List ByteArray) (hL : L.length ≤ 1048576) (hx : ∀ x ∈ L, x.size ≤ 1048576) (d : Nat) : ∀ (i : Nat) (A : List Af) (E : List En), i + d = L.length → A.length ≤ i → E.length ≤ i → (∀ s ∈ A, AfL s) → (∀ s ∈ E, EnL s) →
  Ev (fun k => impl_BookGet.l0 k T L (L.length : Int) (i : Int) A E) (fin T (parseI (L.drop i) A E)) := by
 induction d with
 | zero =>
  intro i A E hi ha he hA hE
  rw [List.drop_eq_nil_of_le (by omega)]
  exact Ev.step (fun k => impl_BookGet.l0.eq_2 _ _ _ _ _ _ _) (eN (fin_impl T A E ⟨by omega, by omega, hA, hE⟩))
 | succ d ih =>
  intro i A E hi ha he hA hE
  have hlt : i < L.length := by omega
  have hz := hx _ (List.getElem_mem hlt)
  have hw : wrap64 ((i : Int) + 1) = ((i + 1 : Nat) : Int) := w6
  refine Ev.step (fun k => impl_BookGet.l0.eq_2 _ _ _ _ _ _ _) (eP (eP (eP (evCall (has_ev 32) ?_))))
  rw [ba_get L i hlt, hw, List.drop_eq_getElem_cons hlt]
  unfold parseI
  by_cases c : has32 L[i] = true
  ·rw [if_pos c]
   exact evPos c (evCall (readA_ev (by omega)) (eP (ih (i + 1) _ _ (by omega) (by simp; omega) (by omega) (mem_snoc_all hA (readA_sz hz)) hE)))
  ·rw [if_neg c]
   exact evNeg c (evCall (readE_ev (by omega)) (eP (ih (i + 1) _ _ (by omega) (by omega) (by simp; omega) hA (mem_snoc_all hE (readE_sz hz)))))
theorem get_impl (T : ByteArray) (hT : T.size ≤ 1048576) : Ev (fun k => impl_BookGet.f k T) (fin T (parseI (linesB T) [] [])) := by
 unfold impl_BookGet.f
 have hl := linesB_length T
 refine evCall (lines_ev (by omega)) ?_
 exact get_impl_loop T (linesB T) (by omega) (fun x hx => Nat.le_trans (linesB_size hx) hT) (linesB T).length 0 [] [] (by omega) (by simp) (by simp) (fun s hs => by cases hs) (fun s hs => by cases hs)
noncomputable def finS (T : ByteArray) : Option (List Af × List En) → List Af × List En × Bool
 | none => ([], [], false)
 | some p => fin T p
theorem get_spec_loop (T : ByteArray) (L D : List ByteArray) (hD : D = L.dropLast) (hl : L.length = D.length + 1) (hL : L.length ≤ 1048577) (hx : ∀ x ∈ D, x.size ≤ 1048576) (d : Nat) : ∀ (i : Nat) (A : List Af) (E : List En), i + d = D.length → A.length ≤ i → E.length ≤ i → (∀ s ∈ A, AfL s) → (∀ s ∈ E, EnL s) →
  Ev (fun k => spec_BookGet.l0 k T L (i : Int) A E) (finS T (parseS (D.drop i) A E)) := by
 induction d with
 | zero =>
  intro i A E hi ha he hA hE
  have hw : wrap64 ((i : Int) + 1) = ((i + 1 : Nat) : Int) := w6
  rw [List.drop_eq_nil_of_le (by omega)]
  refine Ev.step (fun k => spec_BookGet.l0.eq_2 _ _ _ _ _ _) ?_
  rw [hw]
  exact eN (fin_spec T A E ⟨by omega, by omega, hA, hE⟩)
 | succ d ih =>
  intro i A E hi ha he hA hE
  have hlt : i < D.length := by omega
  have hlt2 : i < L.length := by omega
  have hz := hx _ (List.getElem_mem hlt)
  have hw : wrap64 ((i : Int) + 1) = ((i + 1 : Nat) : Int) := w6
  have hg : rdOf ByteArray.empty L (i : Int) = D[i] := by
   rw [ba_get L i hlt2]
   subst hD
   rw [List.getElem_dropLast]
  refine Ev.step (fun k => spec_BookGet.l0.eq_2 _ _ _ _ _ _) ?_
  rw [hw, hg]
  refine eP (eP (eP (Ev.bind (l1Cut_ev D[i] 32 32 rfl (by omega)) ?_)))
  rw [List.drop_eq_getElem_cons hlt]
  unfold parseS
  by_cases c : (spl 32 D[i]).length = 5
  ·rw [if_pos c]
   exact eP (evCall (affOf_ev _ c) (eP (ih (i + 1) _ _ (by omega) (by simp; omega) (by omega) (mem_snoc_all hA (affOf_sz (fun p hp => Nat.le_trans (spl_size hp) hz))) hE)))
  ·rw [if_neg c]
   obtain ⟨v, hv, h1, h2⟩ := getE_ev D[i] hz
   refine eN (Ev.bind hv ?_)
   cases g : getE D[i] with
   | none => exact evNeg (by rw [h1 g]; simp) (Ev.now _)
   | some e =>
    obtain rfl := h2 e g
    exact evPos rfl (eP (ih (i + 1) _ _ (by omega) (by omega) (by simp; omega) hA (mem_snoc_all hE (getE_sz hz g))))
theorem get_spec (T : ByteArray) (hT : T.size ≤ 1048576) : Ev (fun k => spec_BookGet.f k T) (finS T (parseS (linesB T) [] [])) := by
 unfold spec_BookGet.f
 have hl := linesB_length T
 have h2 := spl_ne 10 T
 have h3 : (spl 10 T).length = (linesB T).length + 1 := h2
 exact Ev.bind (l1Cut_ev T 10 10 rfl (by omega)) (get_spec_loop T (spl 10 T) (linesB T) rfl h3 (by omega) (fun x hx => Nat.le_trans (linesB_size hx) hT) (linesB T).length 0 [] [] (by omega) (by simp) (by simp) (fun s hs => by cases hs) (fun s hs => by cases hs))
def bigB (s : ByteArray) : Prop := ∀ b ∈ s.data.toList, 65 ≤ b.toNat
theorem big_of_bytes {s : ByteArray} (h : ∀ x ∈ bytesOf s, 65 ≤ x) : bigB s := fun b hb => by
 have := h (b.toNat : Int) (List.mem_map.2 ⟨b, hb, rfl⟩)
 omega
theorem big_no {s : ByteArray} (h : bigB s) (c : UInt8) (hc : c.toNat < 65) : c ∉ s.data.toList := fun m => by
 have := h c m
 omega
theorem big_letters {s : ByteArray} (h : (bytesOf s).all low = true) : bigB s := big_of_bytes (fun x hx => by
 have := (low_iff x).1 (List.all_eq_true.1 h x hx)
 omega)
theorem big_part {s : ByteArray} (h : partB s = true) : bigB s := by
 simp only [partB, Bool.and_eq_true] at h
 exact big_letters h.1
theorem big_word {s : ByteArray} (h : wordB s = true) : bigB s := big_of_bytes (fun x hx => by
 have := ((wordL_iff _).1 h).2.2 x hx
 omega)
theorem big_flag {s : ByteArray} (h : flagB s = true) : bigB s := by
 simp only [flagB, Bool.and_eq_true, decide_eq_true_eq] at h
 obtain ⟨h1, h2, h3⟩ := h
 refine big_of_bytes (fun x hx => ?_)
 have e := bytes_drop s 0 (by omega) (by omega)
 rw [List.drop_eq_nil_of_le (show (bytesOf s).length ≤ ((0 : Int) + 1).toNat by rw [bytesOf_length]; omega)] at e
 have e2 : bytesOf s = [bt s 0] := by simpa using e
 rw [e2, List.mem_singleton] at hx
 omega
theorem flGo_big (s : ByteArray) (d : Nat) : ∀ i : Nat, i + d = s.size → flGo s d (i : Int) = true → ∀ x ∈ (bytesOf s).drop i, 65 ≤ x := by
 induction d with
 | zero =>
  intro i hi _ x hx
  rw [List.drop_eq_nil_of_le (by rw [bytesOf_length]; omega)] at hx
  cases hx
 | succ d ih =>
  intro i hi h x hx
  simp only [flGo, Bool.and_eq_true, decide_eq_true_eq] at h
  have e := bytes_drop s (i : Int) (by omega) (by omega)
  rw [Int.toNat_natCast, show ((i : Int) + 1).toNat = i + 1 from by omega] at e
  rw [e] at hx
  rcases List.mem_cons.1 hx with rfl | hx
  ·exact h.1.1.1
  ·exact ih (i + 1) (by omega) (by rw [show ((i + 1 : Nat) : Int) = (i : Int) + 1 from by omega]; exact h.2) x hx
theorem entB_parts {w f : ByteArray} (h : entB w f = true) : bigB w ∧ bigB f := by
 simp only [entB, Bool.and_eq_true] at h
 refine ⟨big_word h.2.1, big_of_bytes (fun x hx => ?_)⟩
 exact flGo_big f f.size 0 (by omega) h.1 x (by simpa using hx)
abbrev AfOk (a : Af) : Prop := affOk a.f0 a.f1 a.f2 a.f3 a.f4 = true
abbrev EnOk (e : En) : Prop := entB e.f0 e.f1 = true
theorem affGo_all (l : List Af) (d : Nat) : ∀ i : Nat, i + d = l.length → affGo l d (i : Int) = true → ∀ j : Nat, i ≤ j → (hj : j < l.length) → AfOk l[j] := by
 induction d with
 | zero =>
  intro i hi _ j h1 h2
  omega
 | succ d ih =>
  intro i hi h j h1 h2
  simp only [affGo, Bool.and_eq_true] at h
  by_cases e : i = j
  ·subst e
   have := h.1.1
   rw [af_get l i h2] at this
   exact this
  ·exact ih (i + 1) (by omega) (by rw [show ((i + 1 : Nat) : Int) = (i : Int) + 1 from by omega]; exact h.2) j (by omega) h2
theorem affs_all {l : List Af} (h : affsB l = true) : ∀ a ∈ l, AfOk a := by
 intro a ha
 simp only [affsB, Bool.and_eq_true] at h
 obtain ⟨j, hj, rfl⟩ := List.mem_iff_getElem.1 ha
 exact affGo_all l l.length 0 (by omega) h.1 j (by omega) hj
theorem entGo_all (l : List En) (d : Nat) : ∀ i : Nat, i + d = l.length → entGo l d (i : Int) = true → ∀ j : Nat, i ≤ j → (hj : j < l.length) → EnOk l[j] := by
 induction d with
 | zero =>
  intro i hi _ j h1 h2
  omega
 | succ d ih =>
  intro i hi h j h1 h2
  simp only [entGo, Bool.and_eq_true] at h
  by_cases e : i = j
  ·subst e
   have := h.1.1
   rw [en_get l i h2] at this
   exact this
  ·exact ih (i + 1) (by omega) (by rw [show ((i + 1 : Nat) : Int) = (i : Int) + 1 from by omega]; exact h.2) j (by omega) h2
theorem ents_all {l : List En} (h : entsB l = true) : ∀ e ∈ l, EnOk e := by
 intro e he
 simp only [entsB, Bool.and_eq_true] at h
 obtain ⟨j, hj, rfl⟩ := List.mem_iff_getElem.1 he
 exact entGo_all l l.length 0 (by omega) h.1 j (by omega) hj
theorem data_app (a b : ByteArray) : (a ++ b).data.toList = a.data.toList ++ b.data.toList := by simp [ByteArray.data_append]
theorem spl_cons {c : UInt8} (p t x : ByteArray) (h : c ∉ p.data.toList) (hx : x.data.toList = p.data.toList ++ c :: t.data.toList) : spl c x = p :: spl c t := by
 unfold spl
 rw [hx, cutU_app c _ _ h]
 rfl
theorem spl_one {c : UInt8} {p : ByteArray} (h : c ∉ p.data.toList) : spl c p = [p] := by
 unfold spl
 rw [cutU_none c _ h]
 rfl
def kindB (f : Bool) : ByteArray := if f = true then ⟨#[102, 114, 111, 110, 116]⟩ else ⟨#[101, 110, 100]⟩
theorem kind_big (f : Bool) : bigB (kindB f) := by
 cases f with
 | true => intro b hb; simp [kindB] at hb; rcases hb with rfl | rfl | rfl | rfl | rfl <;> decide
 | false => intro b hb; simp [kindB] at hb; rcases hb with rfl | rfl | rfl <;> decide
theorem affLine_eq (a : Af) : affLine a = ((((((((kindB a.f1 ++ ⟨#[32]⟩) ++ a.f0) ++ ⟨#[32]⟩) ++ a.f2) ++ ⟨#[32]⟩) ++ a.f3) ++ ⟨#[32]⟩) ++ a.f4) := rfl
theorem affLine_data (a : Af) : (affLine a).data.toList = (kindB a.f1).data.toList ++ 32 :: (a.f0.data.toList ++ 32 :: (a.f2.data.toList ++ 32 :: (a.f3.data.toList ++ 32 :: a.f4.data.toList))) := by
 rw [affLine_eq]
 simp only [data_app, List.append_assoc, List.cons_append, List.nil_append]
theorem affLine_bigs {a : Af} (h : AfOk a) : bigB a.f0 ∧ bigB a.f2 ∧ bigB a.f3 ∧ bigB a.f4 := by
 obtain ⟨h0, h2, h3, h4, _⟩ := affOk_parts h
 exact ⟨big_flag h0, big_part h2, big_part h3, big_part h4⟩
theorem affLine_spl {a : Af} (h : AfOk a) : spl 32 (affLine a) = [kindB a.f1, a.f0, a.f2, a.f3, a.f4] := by
 obtain ⟨h0, h2, h3, h4⟩ := affLine_bigs h
 rw [spl_cons (kindB a.f1) (((((((a.f0 ++ ⟨#[32]⟩) ++ a.f2) ++ ⟨#[32]⟩) ++ a.f3) ++ ⟨#[32]⟩) ++ a.f4)) _ (big_no (kind_big _) 32 (by decide)) (by rw [affLine_data]; simp only [data_app, List.append_assoc, List.cons_append, List.nil_append]),
  spl_cons a.f0 ((((a.f2 ++ ⟨#[32]⟩) ++ a.f3) ++ ⟨#[32]⟩) ++ a.f4) _ (big_no h0 32 (by decide)) (by simp only [data_app, List.append_assoc, List.cons_append, List.nil_append]),
  spl_cons a.f2 ((a.f3 ++ ⟨#[32]⟩) ++ a.f4) _ (big_no h2 32 (by decide)) (by simp only [data_app, List.append_assoc, List.cons_append, List.nil_append]),
  spl_cons a.f3 a.f4 _ (big_no h3 32 (by decide)) (by simp only [data_app, List.append_assoc, List.cons_append, List.nil_append]), spl_one (big_no h4 32 (by decide))]
theorem affOf_line (a : Af) (r : List ByteArray) : affOf (kindB a.f1 :: a.f0 :: a.f2 :: a.f3 :: a.f4 :: r) = a := by
 obtain ⟨f0, f1, f2, f3, f4⟩ := a
 have e : ((kindB f1).toList == ([102, 114, 111, 110, 116] : List UInt8)) = f1 := by
  rw [Go.ByteArray.toList_eq]
  cases f1 <;> rfl
 show (⟨f0, (kindB f1).toList == ([102, 114, 111, 110, 116] : List UInt8), f2, f3, f4⟩ : Af) = _
 rw [e]
theorem affLine_has (a : Af) : has32 (affLine a) = true := by
 unfold has32
 rw [affLine_data]
 simp
theorem affLine_no {a : Af} (h : AfOk a) : (10 : UInt8) ∉ (affLine a).data.toList := by
 obtain ⟨h0, h2, h3, h4⟩ := affLine_bigs h
 rw [affLine_data]
 have hk := big_no (kind_big a.f1) 10 (by decide)
 have n0 := big_no h0 10 (by decide)
 have n2 := big_no h2 10 (by decide)
 have n3 := big_no h3 10 (by decide)
 have n4 := big_no h4 10 (by decide)
 simp only [List.mem_append, List.mem_cons, not_or]
 exact ⟨hk, by decide, n0, by decide, n2, by decide, n3, by decide, n4⟩
theorem nil_of_toList {s : ByteArray} (h : s.toList = ([] : List UInt8)) : s = emB := by
 refine (toList_iff _ _).1 ?_
 rw [h, Go.ByteArray.toList_eq]
theorem entLine_nil {e : En} (c : e.f1.toList = ([] : List UInt8)) : entLine e = e.f0 := if_pos c
theorem entLine_cons {e : En} (c : ¬ e.f1.toList = ([] : List UInt8)) : (entLine e).data.toList = e.f0.data.toList ++ 47 :: e.f1.data.toList := by
 rw [entLine, if_neg c]
 simp only [data_app, List.append_assoc, List.cons_append, List.nil_append]
theorem entLine_no {e : En} (h : EnOk e) (c : UInt8) (hc : c.toNat < 65) (h47 : c ≠ 47) : c ∉ (entLine e).data.toList := by
 obtain ⟨h0, h1⟩ := entB_parts h
 by_cases q : e.f1.toList = ([] : List UInt8)
 ·rw [entLine_nil q]
  exact big_no h0 c hc
 ·rw [entLine_cons q]
  simp only [List.mem_append, List.mem_cons, not_or]
  exact ⟨big_no h0 c hc, h47, big_no h1 c hc⟩
theorem readE_line {e : En} (h : EnOk e) : readE (entLine e) = e := by
 obtain ⟨h0, h1⟩ := entB_parts h
 obtain ⟨f0, f1⟩ := e
 unfold readE
 by_cases q : f1.toList = ([] : List UInt8)
 ·rw [entLine_nil (e := ⟨f0, f1⟩) q, cutP_no 47 _ (big_no h0 47 (by decide)), nil_of_toList q]
 ·rw [cutP_at 47 f0.data.toList f1.data.toList (big_no h0 47 (by decide)) _ (entLine_cons (e := ⟨f0, f1⟩) q)]
theorem getE_line {e : En} (h : EnOk e) : getE (entLine e) = some e := by
 obtain ⟨h0, h1⟩ := entB_parts h
 obtain ⟨f0, f1⟩ := e
 unfold getE
 by_cases q : f1.toList = ([] : List UInt8)
 ·have hs : spl 47 (entLine (⟨f0, f1⟩ : En)) = [f0] := by
   rw [entLine_nil (e := ⟨f0, f1⟩) q]
   exact spl_one (big_no h0 47 (by decide))
  have q2 := nil_of_toList q
  subst q2
  rw [hs]
  have h' : entB f0 emB = true := h
  simp [rdOf, h']
 ·have hs : spl 47 (entLine (⟨f0, f1⟩ : En)) = [f0, f1] := by
   rw [spl_cons f0 f1 _ (big_no h0 47 (by decide)) (entLine_cons (e := ⟨f0, f1⟩) q), spl_one (big_no h1 47 (by decide))]
  have h' : entB f0 f1 = true := h
  rw [hs]
  simp [rdOf, h', q]
theorem cutU_lines : ∀ L : List ByteArray, (∀ x ∈ L, (10 : UInt8) ∉ x.data.toList) → cutU 10 (L.flatMap (fun x => x.data.toList ++ [10])) = L.map (·.data.toList) ++ [[]]
 | [], _ => rfl
 | x :: l, h => by
  rw [List.flatMap_cons, List.append_assoc, List.singleton_append, cutU_app 10 _ _ (h x (by simp)), cutU_lines l (fun y hy => h y (by simp [hy]))]
  rfl
theorem linesB_flat (L : List ByteArray) (h : ∀ x ∈ L, (10 : UInt8) ∉ x.data.toList) (T : ByteArray) (hT : T.data.toList = L.flatMap (fun x => x.data.toList ++ [10])) : linesB T = L := by
 unfold linesB spl
 rw [hT, cutU_lines L h, List.map_append, List.map_map, List.map_singleton, List.dropLast_concat]
 conv => rhs; rw [← List.map_id L]
 rfl
theorem putAs_data (A : List Af) : ∀ o : ByteArray, (putAs A o).data.toList = o.data.toList ++ (A.map affLine).flatMap (fun x => x.data.toList ++ [10]) := by
 induction A with
 | nil => intro o; simp [putAs]
 | cons a A ih =>
  intro o
  have e : putAs (a :: A) o = putAs A ((o ++ affLine a) ++ nlB) := rfl
  rw [e, ih, data_app, data_app, List.map_cons, List.flatMap_cons]
  simp only [List.append_assoc]
  rfl
theorem putEs_data (A : List En) : ∀ o : ByteArray, (putEs A o).data.toList = o.data.toList ++ (A.map entLine).flatMap (fun x => x.data.toList ++ [10]) := by
 induction A with
 | nil => intro o; simp [putEs]
 | cons a A ih =>
  intro o
  have e : putEs (a :: A) o = putEs A ((o ++ entLine a) ++ nlB) := rfl
  rw [e, ih, data_app, data_app, List.map_cons, List.flatMap_cons]
  simp only [List.append_assoc]
  rfl
theorem putBk_data (A : List Af) (E : List En) : (putBk A E).data.toList = (A.map affLine ++ E.map entLine).flatMap (fun x => x.data.toList ++ [10]) := by
 unfold putBk
 rw [putEs_data, putAs_data, List.flatMap_append]
 rfl
theorem parseI_aff : ∀ (A : List Af) (_ : ∀ a ∈ A, AfOk a) (L : List ByteArray) (A0 : List Af) (E0 : List En), parseI (A.map affLine ++ L) A0 E0 = parseI L (A0 ++ A) E0
 | [], _, L, A0, E0 => by simp
 | a :: A, h, L, A0, E0 => by
  have ha := h a (by simp)
  rw [List.map_cons, List.cons_append, parseI, if_pos (affLine_has a), parseI_aff A (fun b hb => h b (by simp [hb]))]
  have e : readA (affLine a) = a := by
   unfold readA
   rw [affLine_spl ha]
   exact affOf_line a _
  rw [e, List.append_assoc]
  rfl
theorem parseI_ent : ∀ (E : List En) (_ : ∀ e ∈ E, EnOk e) (A0 : List Af) (E0 : List En), parseI (E.map entLine) A0 E0 = (A0, E0 ++ E)
 | [], _, A0, E0 => by simp [parseI]
 | e :: E, h, A0, E0 => by
  have he := h e (by simp)
  have hn : ¬ has32 (entLine e) = true := by
   unfold has32
   simpa using entLine_no he 32 (by decide) (by decide)
  rw [List.map_cons, parseI, if_neg hn, parseI_ent E (fun b hb => h b (by simp [hb])), readE_line he, List.append_assoc]
  rfl
theorem parseS_aff : ∀ (A : List Af) (_ : ∀ a ∈ A, AfOk a) (L : List ByteArray) (A0 : List Af) (E0 : List En), parseS (A.map affLine ++ L) A0 E0 = parseS L (A0 ++ A) E0
 | [], _, L, A0, E0 => by simp
 | a :: A, h, L, A0, E0 => by
  have ha := h a (by simp)
  have e : affOf (spl 32 (affLine a)) = a := by
   rw [affLine_spl ha]
   exact affOf_line a _
  rw [List.map_cons, List.cons_append, parseS, if_pos (by rw [affLine_spl ha]; rfl), parseS_aff A (fun b hb => h b (by simp [hb])), e, List.append_assoc]
  rfl
theorem parseS_ent : ∀ (E : List En) (_ : ∀ e ∈ E, EnOk e) (A0 : List Af) (E0 : List En), parseS (E.map entLine) A0 E0 = some (A0, E0 ++ E)
 | [], _, A0, E0 => by simp [parseS]
 | e :: E, h, A0, E0 => by
  have he := h e (by simp)
  have hn : ¬ (spl 32 (entLine e)).length = 5 := by
   rw [spl_one (entLine_no he 32 (by decide) (by decide))]
   simp
  rw [List.map_cons, parseS, if_neg hn, getE_line he]
  show parseS (E.map entLine) A0 (E0 ++ [e]) = _
  rw [parseS_ent E (fun b hb => h b (by simp [hb])), List.append_assoc]
  rfl
theorem round {A : List Af} {E : List En} {T : ByteArray} (c : bookB A E = true) (d : putBk A E = T) : parseI (linesB T) [] [] = (A, E) ∧ parseS (linesB T) [] [] = some (A, E) := by
 simp only [bookB, Bool.and_eq_true] at c
 have hA := affs_all c.1
 have hE := ents_all c.2
 have hl : linesB T = A.map affLine ++ E.map entLine := by
  refine linesB_flat _ (fun x hx => ?_) T (by rw [← d, putBk_data])
  rcases List.mem_append.1 hx with hx | hx
  ·obtain ⟨a, ha, rfl⟩ := List.mem_map.1 hx
   exact affLine_no (hA a ha)
  ·obtain ⟨e, he, rfl⟩ := List.mem_map.1 hx
   exact entLine_no (hE e he) 10 (by decide) (by decide)
 rw [hl, parseI_aff A hA, parseI_ent E hE, parseS_aff A hA, parseS_ent E hE]
 exact ⟨rfl, rfl⟩
theorem same_get (T : ByteArray) : finS T (parseS (linesB T) [] []) = fin T (parseI (linesB T) [] []) := by
 obtain ⟨⟨A1, E1⟩, hp⟩ : ∃ p, parseI (linesB T) [] [] = p := ⟨_, rfl⟩
 by_cases c1 : bookB A1 E1 = true ∧ putBk A1 E1 = T
 ·rw [(round c1.1 c1.2).2, hp]
  rfl
 ·rw [hp, fin_no c1]
  cases hs : parseS (linesB T) [] [] with
  | none => rfl
  | some q =>
   obtain ⟨A2, E2⟩ := q
   refine fin_no (fun c2 => ?_)
   have := (round c2.1 c2.2).1
   rw [hp] at this
   cases this
   exact c1 c2
noncomputable def getB (T : ByteArray) : List Af × List En × Bool := fin T (parseI (linesB T) [] [])
theorem getB_impl (T : ByteArray) (hT : T.size ≤ 1048576) : Ev (fun k => impl_BookGet.f k T) (getB T) := get_impl T hT
theorem getB_spec (T : ByteArray) (hT : T.size ≤ 1048576) : Ev (fun k => spec_BookGet.f k T) (getB T) := evTo (get_spec T hT) (same_get T)
theorem getB_cases (T : ByteArray) : getB T = ([], [], false) ∨ ∃ A E, getB T = (A, E, true) ∧ bookB A E = true ∧ putBk A E = T := by
 unfold getB
 obtain ⟨⟨A1, E1⟩, hp⟩ : ∃ p, parseI (linesB T) [] [] = p := ⟨_, rfl⟩
 rw [hp]
 by_cases c1 : bookB A1 E1 = true ∧ putBk A1 E1 = T
 ·exact .inr ⟨A1, E1, fin_yes c1.1 c1.2, c1⟩
 ·exact .inl (fin_no c1)
theorem getB_round {A : List Af} {E : List En} {T : ByteArray} (c : bookB A E = true) (d : putBk A E = T) : getB T = (A, E, true) := by
 unfold getB
 rw [(round c d).1]
 exact fin_yes c d
theorem bookB_len {A : List Af} {E : List En} (h : bookB A E = true) : A.length ≤ 8 ∧ E.length ≤ 24 := by
 simp only [bookB, affsB, entsB, Bool.and_eq_true, decide_eq_true_eq] at h
 exact ⟨h.1.2, h.2.2⟩
theorem bookPut_spec (A : List Af) (E : List En) (h : BkSz A E) : Ev (fun k => spec_BookPut.f k A E) (putB A E) := by
 unfold spec_BookPut.f putB
 refine Ev.bind (bookOk_spec A E h) ?_
 by_cases c : bookB A E = true
 ·rw [if_pos c]
  exact evPos c (Ev.bind (l2Put_ev A E h) (Ev.now _))
 ·rw [if_neg c]
  exact evNeg c (Ev.now _)
theorem affLine_size13 {a : Af} (h : AfZ a) : (affLine a).size ≤ 99 := by
 obtain ⟨h0, h2, h3, h4⟩ := h
 have e1 : (⟨#[32]⟩ : ByteArray).size = 1 := rfl
 have e2 : (if a.f1 = true then (⟨#[102, 114, 111, 110, 116]⟩ : ByteArray) else ⟨#[101, 110, 100]⟩).size ≤ 5 := by
  split
  ·decide
  ·decide
 unfold affLine
 simp only [size_append, e1]
 omega
theorem entLine_size13 {e : En} (h : EnZ e) : (entLine e).size ≤ 99 := by
 obtain ⟨h0, h1⟩ := h
 have e1 : (⟨#[47]⟩ : ByteArray).size = 1 := rfl
 unfold entLine
 split
 ·omega
 ·simp only [size_append, e1]
  omega
theorem putAs_size : ∀ (A : List Af) (o : ByteArray), (∀ a ∈ A, AfZ a) → (putAs A o).size ≤ o.size + A.length * 100
 | [], o, _ => by simp [putAs]
 | a :: A, o, h => by
  have h1 := affLine_size13 (h a (by simp))
  have h2 := putAs_size A ((o ++ affLine a) ++ nlB) (fun b hb => h b (by simp [hb]))
  have e : putAs (a :: A) o = putAs A ((o ++ affLine a) ++ nlB) := rfl
  rw [e]
  simp only [size_append, nl_size, List.length_cons] at h2 ⊢
  omega
theorem putEs_size : ∀ (A : List En) (o : ByteArray), (∀ a ∈ A, EnZ a) → (putEs A o).size ≤ o.size + A.length * 100
 | [], o, _ => by simp [putEs]
 | a :: A, o, h => by
  have h1 := entLine_size13 (h a (by simp))
  have h2 := putEs_size A ((o ++ entLine a) ++ nlB) (fun b hb => h b (by simp [hb]))
  have e : putEs (a :: A) o = putEs A ((o ++ entLine a) ++ nlB) := rfl
  rw [e]
  simp only [size_append, nl_size, List.length_cons] at h2 ⊢
  omega
theorem putBk_size {A : List Af} {E : List En} (ha : A.length ≤ 5) (hz : ∀ a ∈ A, AfZ a) (he : E.length ≤ 25) (hy : ∀ e ∈ E, EnZ e) : (putBk A E).size ≤ 4000 := by
 have h1 := putAs_size A ⟨#[]⟩ hz
 have h2 := putEs_size E (putAs A ⟨#[]⟩) hy
 have e : (⟨#[]⟩ : ByteArray).size = 0 := rfl
 unfold putBk
 omega
theorem drawBookPut_ev (l : List Int) (hw : ∀ x ∈ l, (Lit.int .u8 x).wf = true) : ∃ A E, Ev (fun k => spec_DrawBookPut.f k l) (A, E) ∧ A.length ≤ 5 ∧ E.length ≤ 25 ∧ BkSz A E ∧ (putBk A E).size ≤ 4000 := by
 obtain ⟨s, hs, hr⟩ := open_ev l hw
 obtain ⟨A, E, p1, h1, ha, he, h4, h5⟩ := anyBook_ev hr (by omega)
 unfold spec_DrawBookPut.f
 exact ⟨A, E, evCall hs (Ev.bind h1 (Ev.now _)), ha.1, he.1, bkSz_of ha.1 ha.2 he.1 he.2, putBk_size ha.1 ha.2 he.1 he.2⟩
theorem cut13_ev {s : List Int} {p : Int} (h : Rdr s p) (hp : p ≤ 999999999000) (t : ByteArray) (ht : t.size ≤ 4000) : ∃ T p', Ev (fun k => spec_l13Cut.f k s p t) (T, p') ∧ T.size ≤ 10000 := by
 have h0 := h.2.2.1
 have hw : wrap64 ((t.size : Int) + 1) = (t.size : Int) + 1 := w6
 obtain ⟨v, hv, v0, v1⟩ := pick_ev h ((t.size : Int) + 1) (by omega)
 obtain ⟨u, hu, u0, u1⟩ := pick_ev (h.at_ (p + 1) (by omega) (by omega)) 5 (by omega)
 have h2 := h.at_ (p + 1 + 1) (by omega) (by omega)
 have hz : (t.extract 0 v.toNat).size = v.toNat := by rw [size_extract t 0 v.toNat (by omega) (by omega)]; omega
 have hz2 : (t.extract v.toNat t.size).size = t.size - v.toNat := size_extract t v.toNat t.size (by omega) (by omega)
 unfold spec_l13Cut.f
 rw [hw]
 by_cases c0 : u = 0
 ·obtain ⟨y, hy, hy2⟩ := of_ev h2 ([(⟨#[32]⟩ : ByteArray), (⟨#[10]⟩ : ByteArray), (⟨#[47]⟩ : ByteArray), (⟨#[97]⟩ : ByteArray), (⟨#[83]⟩ : ByteArray), (⟨#[45]⟩ : ByteArray), (⟨#[43]⟩ : ByteArray), (⟨#[48]⟩ : ByteArray)] : List ByteArray) (by simp) (by simp)
  have hy1 : y.size = 1 := by
   simp only [List.mem_cons, List.not_mem_nil, or_false] at hy
   rcases hy with rfl | rfl | rfl | rfl | rfl | rfl | rfl | rfl <;> rfl
  refine ⟨_, _, Ev.bind hv (Ev.bind hu (evPos c0 (evPos v0 (eP (Ev.bind hy2 (evPos (by dsimp only; omega) (evPos (by dsimp only; rw [size_append]; omega) (Ev.now _)))))))), ?_⟩
  simp only [size_append]
  omega
 by_cases c1 : u = 1
 ·exact ⟨_, _, Ev.bind hv (Ev.bind hu (evNeg c0 (evPos c1 (evPos v0 (eP (Ev.now _)))))), by first | omega | (dsimp only; omega)⟩
 ·exact ⟨_, _, Ev.bind hv (Ev.bind hu (evNeg c0 (evNeg c1 (Ev.now _)))), by first | omega | (dsimp only; omega)⟩
theorem drawBookGet_ev (l : List Int) (hw : ∀ x ∈ l, (Lit.int .u8 x).wf = true) : ∃ T, Ev (fun k => spec_DrawBookGet.f k l) T ∧ T.size ≤ 10000 := by
 obtain ⟨s, hs, hr⟩ := open_ev l hw
 obtain ⟨A, E, p1, h1, ⟨a1, a2⟩, ⟨e1, e2⟩, h4, h5⟩ := book13_ev hr (by omega)
 have hz := bkSz_of (A := A) (E := E) (by omega) (fun a ha => (a2 a ha).1) (by omega) e2
 have hp := putBk_size (A := A) (E := E) (by omega) (fun a ha => (a2 a ha).1) (by omega) e2
 obtain ⟨T, p2, h6, h7⟩ := cut13_ev (hr.at_ p1 (by omega) (by omega)) (by omega) _ hp
 unfold spec_DrawBookGet.f
 exact ⟨T, evCall hs (Ev.bind h1 (Ev.bind (l2Put_ev A E hz) (Ev.bind h6 (Ev.now _)))), h7⟩
theorem md1_loop (A : List Af) (E : List En) (hl : E.length ≤ 10000000) (d : Nat) : ∀ i : Nat, i + d = E.length → Ev (fun k => laws_mdBook.l1 k (i : Int) A E A E) true := by
 induction d with
 | zero =>
  intro i hi
  exact Ev.step (fun k => laws_mdBook.l1.eq_2 _ _ _ _ _ _) (eN (Ev.now _))
 | succ d ih =>
  intro i hi
  refine Ev.step (fun k => laws_mdBook.l1.eq_2 _ _ _ _ _ _) (eP (eP (eP (evNeg (by simp) ?_))))
  rw [w6]
  exact ih (i + 1) (by omega)
theorem md0_loop (A : List Af) (E : List En) (ha : A.length ≤ 10000000) (hl : E.length ≤ 10000000) (d : Nat) : ∀ i : Nat, i + d = A.length → Ev (fun k => laws_mdBook.l0 k (i : Int) A E A E) true := by
 induction d with
 | zero =>
  intro i hi
  exact Ev.step (fun k => laws_mdBook.l0.eq_2 _ _ _ _ _ _) (eN (md1_loop A E hl E.length 0 (by omega)))
 | succ d ih =>
  intro i hi
  refine Ev.step (fun k => laws_mdBook.l0.eq_2 _ _ _ _ _ _) (eP (eP (eP (evNeg (by simp) ?_))))
  rw [w6]
  exact ih (i + 1) (by omega)
theorem mdBk_ev (A : List Af) (E : List En) (ha : A.length ≤ 10000000) (hl : E.length ≤ 10000000) : Ev (fun k => laws_mdBook.f k A E A E) true := by
 unfold laws_mdBook.f
 exact evPos rfl (Ev.step (fun k => laws_mdBook.j0.eq_2 _ _ _ _ _ _) (evNeg (by simp) (md0_loop A E ha hl A.length 0 (by omega))))
theorem bkSz_ok {A : List Af} {E : List En} (h : bookB A E = true) : BkSz A E := by
 obtain ⟨h1, h2⟩ := bookB_len h
 have h : affsB A = true ∧ entsB E = true := by simpa only [bookB, Bool.and_eq_true] using h
 refine ⟨by omega, by omega, fun a ha => ?_, fun e he => ?_⟩
 ·obtain ⟨p0, p2, p3, p4, _⟩ := affOk_parts (affs_all h.1 a ha)
  have q0 : a.f0.size = 1 := by
   simp only [flagB, Bool.and_eq_true, decide_eq_true_eq] at p0
   exact p0.1
  have q2 := partB_size p2
  have q3 := partB_size p3
  have q4 := partB_size p4
  exact ⟨by omega, by omega, by omega, by omega⟩
 ·have p : entB e.f0 e.f1 = true := ents_all h.2 e he
  simp only [entB, Bool.and_eq_true, decide_eq_true_eq] at p
  have q := wordB_size p.2.1
  have q2 := p.2.2
  exact ⟨by omega, by omega⟩
theorem getB_putB (A : List Af) (E : List En) : ∃ A' E', getB (putB A E) = (A', E', true) ∧ (bookB A E = true → A' = A ∧ E' = E) := by
 by_cases c : bookB A E = true
 ·refine ⟨A, E, getB_round c ?_, fun _ => ⟨rfl, rfl⟩⟩
  rw [putB, if_pos c]
 ·refine ⟨[], [], getB_round (by decide) ?_, fun h => absurd h c⟩
  rw [putB, if_neg c]
  rfl
theorem bookText_j1 (x : List Int) (hw : ∀ y ∈ x, (Lit.int .u8 y).wf = true) : Ev (fun k => laws_FnBookText.j1 k x false) true := by
 obtain ⟨T, hd, hs⟩ := drawBookGet_ev x hw
 have hT : T.size ≤ 1048576 := by omega
 have hi := getB_impl T hT
 have hp := getB_spec T hT
 refine Ev.step (fun k => laws_FnBookText.j1.eq_2 _ _ _) (evNeg (by simp) (Ev.bind hd (Ev.bind hi (Ev.bind hp (evPos (by simp) ?_)))))
 rcases getB_cases T with h | ⟨A, E, h, c, d⟩
 ·rw [h]
  exact Ev.bind (mdBk_ev [] [] (by simp) (by simp)) (evPos rfl (evNeg (by simp) (Ev.now _)))
 ·rw [h]
  obtain ⟨l1, l2⟩ := bookB_len c
  have hq := bookPut_impl A E (bkSz_ok c)
  rw [putB, if_pos c, d] at hq
  exact Ev.bind (mdBk_ev A E (by omega) (by omega)) (evPos rfl (evPos rfl (Ev.bind hq (evTo (Ev.now _) (by simp)))))
theorem FnBookText : laws_FnBookText.Pure := by
 intro l0 l1 _ _ hw0 _ _ hw1
 refine Ev.rounds ?_
 unfold laws_FnBookText.f
 by_cases c0 : (l0.length : Int) > 1048576
 ·exact evPos c0 (Ev.step (fun k => laws_FnBookText.j0.eq_2 _ _ _ _) (evPos rfl (Ev.now _)))
 refine evNeg c0 (Ev.step (fun k => laws_FnBookText.j0.eq_2 _ _ _ _) ?_)
 by_cases c1 : (l1.length : Int) > 1048576
 ·exact evPos (by simpa using c1) (Ev.now _)
 obtain ⟨A, E, hd, ha, he, hz, hp⟩ := drawBookPut_ev l0 hw0
 have hs : (putB A E).size ≤ 1048576 := by
  unfold putB
  split
  ·omega
  ·exact Nat.zero_le _
 obtain ⟨A', E', g, hg⟩ := getB_putB A E
 have hi := getB_impl _ hs
 rw [g] at hi
 have hj := bookText_j1 l1 hw1
 refine evNeg (by simpa using c1) (Ev.bind hd (Ev.bind (bookPut_impl A E hz) (Ev.bind hi (Ev.bind (bookPut_spec A E hz) (evPos rfl (evPos rfl (Ev.bind (bookOk_spec A E hz) ?_)))))))
 by_cases c : bookB A E = true
 ·obtain ⟨rfl, rfl⟩ := hg c
  exact evPos c (Ev.bind (mdBk_ev A' E' (by omega) (by omega)) hj)
 ·exact evNeg c hj
end Go.Proofs.YtiiefpckcgekgaaDoor.Pure

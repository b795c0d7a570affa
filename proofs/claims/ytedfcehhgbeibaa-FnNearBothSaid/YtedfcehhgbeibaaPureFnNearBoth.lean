/- Two words are near each other either way round, and within their distance, and not within less; of two drawn words. No condition. -/
import Derived.Test.YtedfcehhgbeibaaQFnNearBothx10
import Derived.Test.YtedfcehhgbeibaaVMBas
import Derived.Test.YtedfcehhgbeibaaVMStr
import Derived.Test.YtedfcehhgbeibaaVMAff
import Derived.Test.YtedfcehhgbeibaaVMSml
import Derived.Test.YtedfcehhgbeibaaVMNer
import Derived.Test.YtedfcehhgbeibaaVMSrt
import Derived.Test.YtedfcehhgbeibaaVMDst
import Derived.Test.YtedfcehhgbeibaaVMAry
import Derived.Test.YtedfcehhgbeibaaVSized
namespace Go.Proofs.Ytedfcehhgbeibaa
/-- The printed row names it so. -/
theorem PrintWords.sized_ints : type_of% @Go.Proofs.YtedfcehhgbeibaaW.PrintWords.sized_ints := @Go.Proofs.YtedfcehhgbeibaaW.PrintWords.sized_ints
end Go.Proofs.Ytedfcehhgbeibaa
namespace Go.Proofs.Ytedfcehhgbeibaa.Pure
open Go.RowKit Go.Proofs.Ytedfcehhgbeibaa.QFnNearBoth Go.Proofs.YtedfcehhgbeibaaW.PrintWords Go.Proofs.YtedfcehhgbeibaaW.PrintLast Go.Proofs.YtedfcehhgbeibaaW.PrintMore Go.Proofs.Ytedfcehhgbeibaa.M
set_option linter.unusedVariables false
set_option linter.unusedSimpArgs false
/-- What a reader's bytes and place are. -/
def Rdr (s : List Int) (p : Int) : Prop := s.length ≤ 2000 ∧ (∀ x ∈ s, 0 ≤ x ∧ x ≤ 255) ∧ 0 ≤ p ∧ p ≤ 1000000000000
theorem Rdr.at_ {s : List Int} {p : Int} (h : Rdr s p) (q : Int) (h0 : 0 ≤ q) (h1 : q ≤ 1000000000000) : Rdr s q := ⟨h.1, h.2.1, h0, h1⟩
theorem rd_range {s : List Int} (h : ∀ x ∈ s, 0 ≤ x ∧ x ≤ 255) (i : Int) : 0 ≤ rd s i ∧ rd s i ≤ 255 := by
  unfold rd
  rw [List.getD_eq_getElem?_getD]
  by_cases c : i.toNat < s.length
  · rw [List.getElem?_eq_getElem c]
    exact h _ (List.getElem_mem c)
  · rw [List.getElem?_eq_none (by omega)]
    simp
def pickY (a b p q : Int) : Int := wrap64 (wrap64 (wrap64 (wrap64 (wrap64 a * 131) + wrap64 (wrap64 b * 1117)) + wrap64 (p * 29)) + wrap64 (wrap64 q * 53))
def pickX (a b p q : Int) : Int := Go.bits .xor .i64 (pickY a b p q) (wrap64 (Int.tdiv (pickY a b p q) 64))
theorem pickX_pos (a b p q : Int) (ha : 0 ≤ a ∧ a ≤ 255) (hb : 0 ≤ b ∧ b ≤ 255) (h0 : 0 ≤ p) (h1 : p ≤ 1000000000000) (q0 : 0 ≤ q) (q1 : q ≤ p) : 0 ≤ pickX a b p q := by
  have e : pickY a b p q = a * 131 + b * 1117 + p * 29 + q * 53 := by
    unfold pickY
    rw [w64 (n := a) (by omega) (by omega), w64 (n := b) (by omega) (by omega), w64 (n := a * 131) (by omega) (by omega), w64 (n := b * 1117) (by omega) (by omega), w64 (n := p * 29) (by omega) (by omega), w64 (n := q) (by omega) (by omega), w64 (n := q * 53) (by omega) (by omega), w64 (n := a * 131 + b * 1117) (by omega) (by omega), w64 (n := a * 131 + b * 1117 + p * 29) (by omega) (by omega), w64 (n := a * 131 + b * 1117 + p * 29 + q * 53) (by omega) (by omega)]
  unfold pickX
  rw [e]
  have x0 : 0 ≤ a * 131 + b * 1117 + p * 29 + q * 53 := by omega
  have x1 : a * 131 + b * 1117 + p * 29 + q * 53 < 4611686018427387904 := by omega
  generalize a * 131 + b * 1117 + p * 29 + q * 53 = x at *
  have t0 := Int.tdiv_nonneg x0 (show (0 : Int) ≤ 64 from by omega)
  have t1 : Int.tdiv x 64 ≤ x := Int.tdiv_le_self 64 x0
  rw [w64 (n := Int.tdiv x 64) (by omega) (by omega)]
  exact xor_small x (Int.tdiv x 64) x0 x1 t0 (by omega)
theorem pick_ev {s : List Int} {p : Int} (h : Rdr s p) (n : Int) (hn : n ≤ 1000000000000000) : ∃ v, Ev (fun k => spec_l1Rd_pick.f k s p n) (v, p + 1) ∧ 0 ≤ v ∧ (v < n ∨ v = 0) := by
  obtain ⟨hl, hb, hp0, hp1⟩ := h
  have hr := rd_range hb
  unfold spec_l1Rd_pick.f
  rw [w64 (n := p + 1) (by omega) (by omega)]
  by_cases c : n < 1
  · exact ⟨0, evPos c (Ev.step (fun k => spec_l1Rd_pick.j0.eq_2 _ _ _ _ _) (evPos rfl (Ev.now _))), by omega, .inr rfl⟩
  by_cases e : s.length = 0
  · exact ⟨0, evNeg c (Ev.step (fun k => spec_l1Rd_pick.j0.eq_2 _ _ _ _ _) (evPos (by simp [e]) (Ev.now _))), by omega, .inr rfl⟩
  have hlen : 0 < (s.length : Int) := by omega
  have wr (i : Int) : wrap64 (rd s i) = rd s i := w64 (by have := (hr i).1; omega) (by have := (hr i).2; omega)
  by_cases c2 : p < (s.length : Int)
  · have h1 := hr p
    refine ⟨Int.tmod (rd s p) n, evNeg c (Ev.step (fun k => spec_l1Rd_pick.j0.eq_2 _ _ _ _ _) (evNeg (by simpa using e) ?_)), Int.tmod_nonneg _ h1.1, .inl (Int.tmod_lt_of_pos _ (by omega))⟩
    rw [show p + 1 - 1 = p from by omega, w64 (n := p) (by omega) (by omega), wr]
    exact evPos c2 (evPos hp0 (evNeg (by omega) (Ev.now _)))
  have m1 := Int.tmod_nonneg (s.length : Int) hp0
  have m2 := Int.tmod_lt_of_pos p hlen
  have m3 := Int.tmod_nonneg (s.length : Int) (show 0 ≤ p * 7 + 3 from by omega)
  have m4 := Int.tmod_lt_of_pos (p * 7 + 3) hlen
  have d1 := Int.tdiv_nonneg hp0 (show 0 ≤ (s.length : Int) from by omega)
  have d2 : Int.tdiv p (s.length : Int) ≤ p := Int.tdiv_le_self (s.length : Int) hp0
  have hz := pickX_pos (rd s (Int.tmod p (s.length : Int))) (rd s (Int.tmod (p * 7 + 3) (s.length : Int))) p (Int.tdiv p (s.length : Int)) (hr _) (hr _) hp0 hp1 d1 d2
  refine ⟨Int.tmod (pickX (rd s (Int.tmod p (s.length : Int))) (rd s (Int.tmod (p * 7 + 3) (s.length : Int))) p (Int.tdiv p (s.length : Int))) n, evNeg c (Ev.step (fun k => spec_l1Rd_pick.j0.eq_2 _ _ _ _ _) (evNeg (by simpa using e) ?_)), Int.tmod_nonneg _ hz, .inl (Int.tmod_lt_of_pos _ (by omega))⟩
  rw [show p + 1 - 1 = p from by omega, w64 (n := p) (by omega) (by omega), w64 (n := p * 7) (by omega) (by omega), w64 (n := p * 7 + 3) (by omega) (by omega)]
  exact evNeg c2 (evNeg (by omega) (evPos m1 (evPos m2 (evPos m3 (evPos m4 (evNeg (by omega) (Ev.now _)))))))
theorem of_ev {s : List Int} {p : Int} (h : Rdr s p) (l : List ByteArray) (h0 : 0 < l.length) (h1 : l.length ≤ 1000000) : ∃ x ∈ l, Ev (fun k => spec_l1Rd_of.f k s p l) (x, p + 1) := by
  obtain ⟨v, hv, v0, v1⟩ := pick_ev h (l.length : Int) (by omega)
  have v2 : v < (l.length : Int) := by omega
  have hl : v.toNat < l.length := by omega
  refine ⟨l[v.toNat], List.getElem_mem hl, ?_⟩
  unfold spec_l1Rd_of.f
  refine Ev.bind hv (evPos v0 (evPos v2 (evTo (Ev.now _) ?_)))
  simp [rdOf, List.getD_eq_getElem?_getD, List.getElem?_eq_getElem hl]
theorem open_ev (l : List Int) (h : ∀ x ∈ l, (Lit.int .u8 x).wf = true) : ∃ s, spec_l1Open.f l = some (s, 0) ∧ Rdr s 0 := by
  have hb : ∀ x ∈ l, 0 ≤ x ∧ x ≤ 255 := by
    intro x hx
    have := h x hx
    simp [Lit.wf, IntKind.min, IntKind.max, IntKind.signed, IntKind.bits] at this
    omega
  unfold spec_l1Open.f
  by_cases c : (l.length : Int) > 2000
  · refine ⟨l.take 2000, by rw [if_pos c, if_pos (by omega)], ?_, fun x hx => hb x (List.mem_of_mem_take hx), by omega, by omega⟩
    rw [List.length_take]
    omega
  · exact ⟨l, by rw [if_neg c], by omega, hb, by omega, by omega⟩
theorem least_spec (a b : Int) : spec_l1Least.f a b = some (min a b) := by
  unfold spec_l1Least.f
  by_cases c : a < b
  · rw [if_pos c]; congr 1; omega
  · rw [if_neg c]; congr 1; omega
theorem word13_loop {s : List Int} (d : Nat) : ∀ (x : ByteArray) (n p : Int), Rdr s p → p + d ≤ 1000000000000 → n = d → x.size + 2 * d ≤ 1000000 →
    ∃ r p', Ev (fun k => spec_l13Word.l0 k x n s p) (r, p') ∧ r.size ≤ 12 ∧ p ≤ p' ∧ p' ≤ p + d := by
  induction d with
  | zero =>
    intro x n p h hp hn hx
    refine ⟨x.extract 0 (min x.size 12), p, Ev.step (fun k => spec_l13Word.l0.eq_2 _ _ _ _ _) (evNeg (by omega) (evCall (least_spec _ _) ?_)), ?_, by omega, by omega⟩
    · refine evPos (by omega) (evPos (by omega) (evTo (Ev.now _) ?_))
      congr 3
      omega
    · rw [size_extract _ _ _ (by omega) (by omega)]
      omega
  | succ d ih =>
    intro x n p h hp hn hx
    have hls : ∀ y ∈ ([(⟨#[97]⟩ : ByteArray), (⟨#[98]⟩ : ByteArray), (⟨#[99]⟩ : ByteArray), (⟨#[97, 98]⟩ : ByteArray), (⟨#[116]⟩ : ByteArray)] : List ByteArray), y.size ≤ 2 := by
      intro y hy
      simp only [List.mem_cons, List.not_mem_nil, or_false] at hy
      rcases hy with rfl | rfl | rfl | rfl | rfl <;> decide
    obtain ⟨y, hy, he⟩ := of_ev h ([(⟨#[97]⟩ : ByteArray), (⟨#[98]⟩ : ByteArray), (⟨#[99]⟩ : ByteArray), (⟨#[97, 98]⟩ : ByteArray), (⟨#[116]⟩ : ByteArray)] : List ByteArray) (by simp) (by simp)
    have hy2 := hls y hy
    obtain ⟨r, p', hr, h1, h2, h3⟩ := ih (x ++ y) (n - 1) (p + 1) (h.at_ _ (by have := h.2.2.1; omega) (by omega)) (by omega) (by omega) (by rw [size_append]; omega)
    refine ⟨r, p', Ev.step (fun k => spec_l13Word.l0.eq_2 _ _ _ _ _) (evPos (by omega) (Ev.bind he (evPos (by dsimp only; omega) ?_))), h1, by omega, by omega⟩
    rw [w64 (by omega) (by omega)]
    exact hr
theorem word13_ev {s : List Int} {p : Int} (h : Rdr s p) (hp : p ≤ 999999999900) : ∃ r p', Ev (fun k => spec_l13Word.f k s p) (r, p') ∧ r.size ≤ 12 ∧ p ≤ p' ∧ p' ≤ p + 10 := by
  have h0 := h.2.2.1
  obtain ⟨v, hv, v0, v1⟩ := pick_ev h 3 (by omega)
  unfold spec_l13Word.f
  by_cases c : v = 0
  · obtain ⟨u, hu, u0, u1⟩ := pick_ev (h.at_ (p + 1) (by omega) (by omega)) 5 (by omega)
    obtain ⟨d, hd⟩ := Int.eq_ofNat_of_zero_le (show 0 ≤ 1 + u from by omega)
    obtain ⟨r, p', hr, h1, h2, h3⟩ := word13_loop d (⟨#[]⟩ : ByteArray) (1 + u) (p + 1 + 1) (h.at_ _ (by omega) (by omega)) (by omega) hd (by have : (⟨#[]⟩ : ByteArray).size = 0 := rfl; omega)
    refine ⟨r, p', Ev.bind hv (evPos c (Ev.bind hu ?_)), h1, by omega, by omega⟩
    rw [w64 (by dsimp only; omega) (by dsimp only; omega)]
    exact hr
  · obtain ⟨y, hy, he⟩ := of_ev (h.at_ (p + 1) (by omega) (by omega)) ([(⟨#[99, 97, 116]⟩ : ByteArray), (⟨#[99, 97, 116, 115]⟩ : ByteArray), (⟨#[97, 99, 116]⟩ : ByteArray), (⟨#[100, 111]⟩ : ByteArray), (⟨#[100, 111, 105, 110, 103]⟩ : ByteArray), (⟨#[103, 111]⟩ : ByteArray), (⟨#[117, 110, 100, 111]⟩ : ByteArray), (⟨#[116, 114, 121]⟩ : ByteArray), (⟨#[116, 114, 105, 101, 115]⟩ : ByteArray), (⟨#[97]⟩ : ByteArray), (⟨#[98, 97, 107, 101]⟩ : ByteArray), (⟨#[98, 97, 107, 105, 110, 103]⟩ : ByteArray), (⟨#[116, 97, 99, 116]⟩ : ByteArray), (⟨#[99, 97, 114, 116]⟩ : ByteArray), (⟨#[97, 98, 99, 97, 98, 99, 97, 98, 99, 97, 98, 99]⟩ : ByteArray)] : List ByteArray) (by simp) (by simp)
    refine ⟨y, p + 1 + 1, Ev.bind hv (evNeg c (Ev.bind he (Ev.now _))), ?_, by omega, by omega⟩
    simp only [List.mem_cons, List.not_mem_nil, or_false] at hy
    rcases hy with rfl | rfl | rfl | rfl | rfl | rfl | rfl | rfl | rfl | rfl | rfl | rfl | rfl | rfl | rfl <;> decide
theorem any13_ev {s : List Int} {p : Int} (h : Rdr s p) (hp : p ≤ 999999999800) : ∃ r p', Ev (fun k => spec_l13AnyWord.f k s p) (r, p') ∧ r.size ≤ 13 ∧ p ≤ p' ∧ p' ≤ p + 11 := by
  have h0 := h.2.2.1
  obtain ⟨v, hv, v0, v1⟩ := pick_ev h 16 (by omega)
  unfold spec_l13AnyWord.f
  by_cases c : v = 0
  · obtain ⟨y, hy, he⟩ := of_ev (h.at_ (p + 1) (by omega) (by omega)) ([(⟨#[]⟩ : ByteArray), (⟨#[67, 97, 116]⟩ : ByteArray), (⟨#[97, 32, 98]⟩ : ByteArray), (⟨#[97, 98, 99, 97, 98, 99, 97, 98, 99, 97, 98, 99, 97]⟩ : ByteArray), (⟨#[120, 49]⟩ : ByteArray), (⟨#[45]⟩ : ByteArray)] : List ByteArray) (by simp) (by simp)
    refine ⟨y, p + 1 + 1, Ev.bind hv (evPos c (Ev.bind he (Ev.now _))), ?_, by omega, by omega⟩
    simp only [List.mem_cons, List.not_mem_nil, or_false] at hy
    rcases hy with rfl | rfl | rfl | rfl | rfl | rfl <;> decide
  · obtain ⟨r, p', hr, h1, h2, h3⟩ := word13_ev (h.at_ (p + 1) (by omega) (by omega)) (by omega)
    exact ⟨r, p', Ev.bind hv (evNeg c (Ev.bind hr (Ev.now _))), by omega, by omega, by omega⟩
theorem letters_loop (s : ByteArray) (m : Int) (h : s.size ≤ 281474976710656) (d : Nat) : ∀ i : Int, 0 ≤ i → i ≤ s.size → (s.size : Int) - i = d →
    Ev (fun k => spec_l1Letters.l0 k s m i) (((bytesOf s).drop i.toNat).all low && decide ((s.size : Int) ≤ m)) := by
  induction d with
  | zero =>
    intro i h0 h1 hd
    refine Ev.step (fun k => spec_l1Letters.l0.eq_2 _ _ _ _) (evNeg (by omega) ?_)
    rw [List.drop_eq_nil_of_le (by rw [bytesOf_length]; omega)]
    exact evTo (Ev.now _) (by simp)
  | succ d ih =>
    intro i h0 h1 hd
    refine Ev.step (fun k => spec_l1Letters.l0.eq_2 _ _ _ _) (evPos (by omega) (evPos h0 ?_))
    rw [bytes_drop s i h0 (by omega), List.all_cons]
    by_cases c : bt s i < 97
    · exact evPos c (evTo (Ev.now _) (by simp [low]; omega))
    refine evNeg c ?_
    by_cases c1 : bt s i > 122
    · exact evPos c1 (evTo (Ev.now _) (by simp [low]; omega))
    refine evNeg c1 ?_
    have e : low (bt s i) = true := (low_iff _).2 (by omega)
    rw [w64 (by omega) (by omega), e, Bool.true_and]
    exact ih (i + 1) (by omega) (by omega) (by omega)
theorem letters_spec (s : ByteArray) (m : Int) (h : s.size ≤ 140737488351232) : Ev (fun k => spec_l1Letters.f k s m) ((bytesOf s).all low && decide ((s.size : Int) ≤ m)) :=
  letters_loop s m (by omega) s.size 0 (by omega) (by omega) (by omega)
theorem letters_wide (s : ByteArray) (m : Int) (h : s.size ≤ 281474976710656) : Ev (fun k => spec_l1Letters.f k s m) ((bytesOf s).all low && decide ((s.size : Int) ≤ m)) :=
  letters_loop s m h s.size 0 (by omega) (by omega) (by omega)
theorem l1Word_spec (s : ByteArray) (h : s.size ≤ 140737488351232) : Ev (fun k => spec_l1Word.f k s) (wordB s) := by
  unfold spec_l1Word.f
  by_cases c : (s.size : Int) > 0
  · have hp : 0 < s.size := by omega
    refine evPos c (Ev.bind (letters_spec s 12 h) (evTo (Ev.now _) ?_))
    simp only [wordB, wordL, bytesOf_length, decide_eq_true hp, Bool.true_and]
    rw [Bool.and_comm]
    congr 1
    exact decide_eq_decide.2 (by omega)
  · exact evNeg c (evTo (Ev.now _) (wordB_no (by omega)).symm)
theorem l1Word_spec' (s : ByteArray) (h : s.size ≤ 281474976710656) : Ev (fun k => spec_l1Word.f k s) (wordB s) := by
  by_cases c : s.size ≤ 140737488351232
  · exact l1Word_spec s c
  unfold spec_l1Word.f
  refine evPos (by omega) (Ev.bind (letters_wide s 12 h) (evTo (Ev.now _) ?_))
  rw [wordB_no (by omega), decide_eq_false (by omega), Bool.and_false]
theorem rdOf_get (l : List ByteArray) (i : Int) (_ : 0 ≤ i) (h : i.toNat < l.length) : rdOf ByteArray.empty l i = l[i.toNat] := by
  simp [rdOf, List.getD_eq_getElem?_getD, List.getElem?_eq_getElem h]
theorem put_end (l : List ByteArray) (s : ByteArray) (i : Int) (h0 : 0 ≤ i) (h1 : i ≤ l.length) (hl : l.length ≤ 1000000) : Ev (fun k => spec_l1Put.j2 k l s i false) (l.take i.toNat ++ s :: l.drop i.toNat) := by
  refine Ev.step (fun k => spec_l1Put.j2.eq_2 _ _ _ _ _) (evNeg (by simp) (evCall rfl (evPos h0 (evPos h1 (evCall rfl (evPos ?_ (evCall rfl (evCall rfl (evPos ?_ (evCall rfl (evCall rfl (evPos ?_ (evTo (Ev.now _) ?_)))))))))))))
  · simp only [List.length_nil, List.length_take]
    omega
  · simp only [List.nil_append, List.length_take, List.length_cons, List.length_nil]
    omega
  · simp only [List.nil_append, List.length_append, List.length_take, List.length_cons, List.length_nil, List.length_drop]
    omega
  · simp
theorem put_loop (l : List ByteArray) (s : ByteArray) (hl : l.length ≤ 1000000) (d : Nat) : ∀ i : Int, 0 ≤ i → i ≤ l.length → (l.length : Int) - i = d →
    Ev (fun k => spec_l1Put.l0 k l s i) (l.take i.toNat ++ putL (l.drop i.toNat) s) := by
  induction d with
  | zero =>
    intro i h0 h1 hd
    have e := put_end l s i h0 h1 hl
    rw [List.drop_eq_nil_of_le (by omega)] at e ⊢
    exact Ev.step (fun k => spec_l1Put.l0.eq_2 _ _ _ _) (evNeg (by omega) (Ev.step (fun k => spec_l1Put.j1.eq_2 _ _ _ _ _) (evNeg (by simp) (evNeg (by omega) e))))
  | succ d ih =>
    intro i h0 h1 hd
    have hi : i.toNat < l.length := by omega
    have e := put_end l s i h0 h1 hl
    have ihe := ih (i + 1) (by omega) (by omega) (by omega)
    rw [List.drop_eq_getElem_cons hi] at e ⊢
    rw [show (i + 1).toNat = i.toNat + 1 from by omega, List.take_succ_eq_append_getElem hi] at ihe
    refine Ev.step (fun k => spec_l1Put.l0.eq_2 _ _ _ _) (evPos (by omega) (evPos h0 (Ev.step (fun k => spec_l1Put.j1.eq_2 _ _ _ _ _) ?_)))
    rw [rdOf_get l i h0 hi]
    generalize hx : l[i.toNat] = x at *
    by_cases c : Op.bytesLess x.toList s.toList = true
    · refine evPos c ?_
      rw [w64 (by omega) (by omega)]
      refine evTo ihe ?_
      simp [putL, ltS, c]
    · refine evNeg c (evPos (by omega) (evPos h0 ?_))
      by_cases c2 : x = s
      · refine Ev.step (fun k => spec_l1Put.j2.eq_2 _ _ _ _ _) (evPos (by simp [c2]) (evTo (Ev.now _) ?_))
        subst c2
        rw [show putL (x :: l.drop (i.toNat + 1)) x = x :: l.drop (i.toNat + 1) from by simp [putL, ltS_irrefl]]
        have : x :: l.drop (i.toNat + 1) = l.drop i.toNat := by rw [List.drop_eq_getElem_cons hi, hx]
        rw [this, List.take_append_drop]
      · rw [show (x.toList == s.toList) = false from by rw [toList_beq]; simp [c2]]
        refine evTo e ?_
        simp [putL, ltS, c, c2]
theorem put_ev (l : List ByteArray) (s : ByteArray) (hl : l.length ≤ 1000000) : Ev (fun k => spec_l1Put.f k l s) (putL l s) :=
  evTo (put_loop l s hl l.length 0 (by omega) (by omega) (by omega)) (by simp)
theorem step_ev (l : List ByteArray) (s x : ByteArray) (hl : l.length ≤ 1000000) (hx : x.size ≤ 140737488351232) : Ev (fun k => spec_l1Step.f k l s x) (stepL s l x) := by
  unfold spec_l1Step.f
  by_cases c : x = s
  · exact evPos (by rw [c]) (Ev.step (fun k => spec_l1Step.j0.eq_2 _ _ _ _) (evPos rfl (evTo (Ev.now _) (by simp [stepL, c]))))
  · refine evNeg (fun h => c ((toList_iff _ _).1 h)) (Ev.bind (l1Word_spec x hx) (Ev.step (fun k => spec_l1Step.j0.eq_2 _ _ _ _) ?_))
    cases e : wordB x with
    | false => exact evPos rfl (evTo (Ev.now _) (by simp [stepL, e]))
    | true => exact evNeg (by simp) (Ev.bind (put_ev l x hl) (evTo (Ev.now _) (by simp [stepL, c, e])))
theorem w32 {n : Int} (h0 : -2147483648 ≤ n) (h1 : n ≤ 2147483647) : wrap32 n = n := by
  unfold wrap32
  omega
theorem near_end {s : ByteArray} {i : Nat} {l r : List ByteArray} (h1 : i ≤ s.size) (hs : s.size ≤ 100) (hl : l.length ≤ 1000 * i + 900)
    (next : ∀ l' : List ByteArray, l' = (swpAt s i).foldl (stepL s) l → Ev (fun k => spec_l1Near.l0 k s l' ((i + 1 : Nat) : Int)) r) : Ev (fun k => spec_l1Near.j2 k s l (i : Int)) r := by
  refine Ev.step (fun k => spec_l1Near.j2.eq_2 _ _ _ _) ?_
  rw [w64 (n := (i : Int) + 1) (by omega) (by omega), w64 (n := (i : Int) + 2) (by omega) (by omega)]
  by_cases c : (i : Int) + 1 < s.size
  · have e1 : ((i : Int) + 1).toNat = i + 1 := by omega
    have e2 : ((i : Int) + 2).toNat = i + 2 := by omega
    have z0 : (s.extract 0 i).size = i := by rw [size_extract _ _ _ (by omega) (by omega)]; omega
    have z1 : (s.extract (i + 1) (i + 2)).size = 1 := by rw [size_extract _ _ _ (by omega) (by omega)]; omega
    have z2 : (s.extract i (i + 1)).size = 1 := by rw [size_extract _ _ _ (by omega) (by omega)]; omega
    have z3 : (s.extract (i + 2) s.size).size = s.size - (i + 2) := size_extract _ _ _ (by omega) (Nat.le_refl _)
    rw [Int.toNat_natCast, e1, e2]
    refine evPos c (evPos (by omega) (evPos (by omega) (evPos (by omega) (evPos (by omega) (evPos (by omega) (evPos (by omega) (evPos (by omega) (evPos (by omega) (evPos ?_ (evPos (by omega) (evPos ?_ (Ev.bind (step_ev l s _ (by omega) ?_) ?_))))))))))))
    · rw [size_append]; omega
    · rw [size_append, size_append]; omega
    · rw [size_append, size_append, size_append]; omega
    · exact next _ (by rw [swpAt, if_pos (by omega)]; rfl)
  · exact evNeg c (next _ (by rw [swpAt, if_neg (by omega)]; rfl))
theorem near_letters {s : ByteArray} {i : Nat} {r : List ByteArray} (h1 : i ≤ s.size) (hs : s.size ≤ 100)
    (d : Nat) : ∀ (c : Nat) (l : List ByteArray), 97 ≤ c → c + d = 123 → l.length ≤ 1000 * i + (123 - d) * 2 →
    (∀ l' : List ByteArray, l' = (lettersAt s i c ++ delAt s i).foldl (stepL s) l → l'.length ≤ 1000 * i + 900 → Ev (fun k => spec_l1Near.j2 k s l' (i : Int)) r) → Ev (fun k => spec_l1Near.l1 k s l (i : Int) (c : Int)) r := by
  have z0 : (s.extract 0 i).size = i := by rw [size_extract _ _ _ (by omega) (by omega)]; omega
  have z1 : (s.extract i s.size).size = s.size - i := size_extract _ _ _ (by omega) (Nat.le_refl _)
  induction d with
  | zero =>
    intro c l hc hd hl next
    refine Ev.step (fun k => spec_l1Near.l1.eq_2 _ _ _ _ _) (evNeg (by omega) ?_)
    rw [lettersAt_end s i c (by omega), List.nil_append] at next
    by_cases q : (i : Int) < s.size
    · have z2 : (s.extract (i + 1) s.size).size = s.size - (i + 1) := size_extract _ _ _ (by omega) (Nat.le_refl _)
      rw [w64 (n := (i : Int) + 1) (by omega) (by omega), Int.toNat_natCast, show ((i : Int) + 1).toNat = i + 1 from by omega]
      refine evPos q (evPos (by omega) (evPos (by omega) (evPos (by omega) (evPos (by omega) (evPos (by omega) (Ev.bind (step_ev l s _ (by omega) (by rw [size_append]; omega)) ?_))))))
      refine next _ (by rw [delAt, if_pos (by omega)]; rfl) ?_
      have := (stepL_length s l (s.extract 0 i ++ s.extract (i + 1) s.size)).2
      omega
    · exact evNeg q (next _ (by rw [delAt, if_neg (by omega)]; rfl) (by omega))
  | succ d ih =>
    intro c l hc hd hl next
    refine Ev.step (fun k => spec_l1Near.l1.eq_2 _ _ _ _ _) (evPos (by omega) (evPos (by omega) (evPos (by omega) (evCall rfl ?_))))
    have zc : (strOfNums [(c : Int) % 256]).size = 1 := one_size _
    rw [Int.toNat_natCast]
    refine evPos (by omega) (evPos (by rw [size_append]; omega) (Ev.bind (step_ev l s _ (by omega) (by rw [size_append, size_append]; omega)) ?_))
    have hl1 := (stepL_length s l ((s.extract 0 i ++ strOfNums [(c : Int) % 256]) ++ s.extract i s.size)).2
    rw [w32 (by omega) (by omega)]
    rw [lettersAt_step s i c (by omega)] at next
    by_cases q : (i : Int) < s.size
    · have z2 : (s.extract (i + 1) s.size).size = s.size - (i + 1) := size_extract _ _ _ (by omega) (Nat.le_refl _)
      rw [w64 (n := (i : Int) + 1) (by omega) (by omega), show ((i : Int) + 1).toNat = i + 1 from by omega]
      refine evPos q (evCall rfl (evPos (by omega) (evPos (by omega) (evPos (by omega) (evPos (by rw [size_append]; omega) (Ev.bind (step_ev _ s _ (by omega) (by rw [size_append, size_append]; omega)) ?_))))))
      have hl2 := (stepL_length s (stepL s l ((s.extract 0 i ++ strOfNums [(c : Int) % 256]) ++ s.extract i s.size)) ((s.extract 0 i ++ strOfNums [(c : Int) % 256]) ++ s.extract (i + 1) s.size)).2
      refine ih (c + 1) _ (by omega) (by omega) (by omega) (fun l' h' => next l' ?_)
      rw [h', letAt, if_pos (by omega)]
      rfl
    · refine evNeg q (ih (c + 1) _ (by omega) (by omega) (by omega) (fun l' h' => next l' ?_))
      rw [h', letAt, if_neg (by omega)]
      rfl
theorem near_loop {s : ByteArray} (hs : s.size ≤ 100) (d : Nat) : ∀ (i : Nat) (l : List ByteArray), i + d = s.size + 1 → l.length ≤ 1000 * i → Ev (fun k => spec_l1Near.l0 k s l (i : Int)) ((candsFrom s i).foldl (stepL s) l) := by
  induction d with
  | zero =>
    intro i l hd hl
    rw [candsFrom_end s i (by omega)]
    exact Ev.step (fun k => spec_l1Near.l0.eq_2 _ _ _ _) (evNeg (by omega) (Ev.now _))
  | succ d ih =>
    intro i l hd hl
    refine Ev.step (fun k => spec_l1Near.l0.eq_2 _ _ _ _) (evPos (by omega) ?_)
    refine near_letters (c := 97) (d := 26) (by omega) hs _ (by omega) (by omega) (by omega) (fun l1 e1 hl1 => near_end (by omega) hs hl1 (fun l2 e2 => ?_))
    refine evTo (ih (i + 1) l2 (by omega) ?_) ?_
    · rw [e2]
      have h1 : ((swpAt s i).foldl (stepL s) l1).length ≤ l1.length + (swpAt s i).length := foldStep_length s _ _
      have h2 : (swpAt s i).length ≤ 1 := by unfold swpAt; split <;> simp
      omega
    · rw [candsFrom_step s i (by omega), List.foldl_append, e2, e1, candsAt, List.foldl_append, List.foldl_append, List.foldl_append]
theorem near_ev (s : ByteArray) (hs : s.size ≤ 100) : Ev (fun k => spec_l1Near.f k s) (nearL s) :=
  near_loop hs (s.size + 1) 0 [] (by omega) (by simp)
theorem nth_near {s : ByteArray} (h : wordB s = true) (u v : Int) (hu : 0 ≤ u) (hu1 : u < 256) (hv : 0 ≤ v) (hv1 : v < 256) :
    ∃ j, Int.tmod (wrap64 (wrap64 (u * 256) + v)) ((nearL s).length : Int) = j ∧ ¬ ((nearL s).length : Int) = 0 ∧ 0 ≤ j ∧ j < ((nearL s).length : Int) ∧ wordB (rdOf ByteArray.empty (nearL s) j) = true := by
  have hne := nearL_some h
  have hp : 0 < (nearL s).length := List.length_pos_iff.2 hne
  rw [w64 (n := u * 256) (by omega) (by omega), w64 (n := u * 256 + v) (by omega) (by omega)]
  have j0 := Int.tmod_nonneg ((nearL s).length : Int) (show 0 ≤ u * 256 + v from by omega)
  have j1 := Int.tmod_lt_of_pos (u * 256 + v) (show 0 < ((nearL s).length : Int) from by omega)
  refine ⟨_, rfl, by omega, j0, j1, ?_⟩
  rw [rdOf_get _ _ j0 (by omega)]
  exact ((nearL_mem s _).1 (List.getElem_mem _)).2.2
theorem other_ev {t : List Int} {p : Int} (h : Rdr t p) (hp : p ≤ 999999999000) (s : ByteArray) (hs : s.size ≤ 100) : ∃ r p', Ev (fun k => spec_l13Other.f k t p s) (r, p') ∧ r.size ≤ 13 ∧ p ≤ p' ∧ p' ≤ p + 20 := by
  have h0 := h.2.2.1
  have no : ∀ q, p ≤ q → q ≤ p + 1 → ∃ r p', Ev (fun k => spec_l13Other.j0 k s false t q) (r, p') ∧ r.size ≤ 13 ∧ p ≤ p' ∧ p' ≤ p + 20 := by
    intro q q0 q1
    obtain ⟨r, p', h1, h2, h3, h4⟩ := any13_ev (h.at_ q (by omega) (by omega)) (by omega)
    exact ⟨r, p', Ev.step (fun k => spec_l13Other.j0.eq_2 _ _ _ _ _) (evNeg (by simp) (Ev.bind h1 (Ev.now _))), h2, by omega, by omega⟩
  unfold spec_l13Other.f
  cases e : wordB s with
  | false =>
    obtain ⟨r, p', h1, h2⟩ := no p (by omega) (by omega)
    have hw := l1Word_spec s (by omega)
    rw [e] at hw
    exact ⟨r, p', Ev.bind hw (evNeg (by simp) h1), h2⟩
  | true =>
    have hw := l1Word_spec s (by omega)
    rw [e] at hw
    obtain ⟨v, hv, v0, v1⟩ := pick_ev h 2 (by omega)
    by_cases c : v = 0
    · obtain ⟨a, ha, a0, a1⟩ := pick_ev (h.at_ (p + 1) (by omega) (by omega)) 256 (by omega)
      obtain ⟨b, hb, b0, b1⟩ := pick_ev (h.at_ (p + 1 + 1) (by omega) (by omega)) 256 (by omega)
      obtain ⟨x, hx, x0, x1⟩ := pick_ev (h.at_ (p + 1 + 1 + 1) (by omega) (by omega)) 3 (by omega)
      obtain ⟨j, hj, jn, j0, j1, jw⟩ := nth_near e a b a0 (by omega) b0 (by omega)
      have start : ∀ r p', Ev (fun k => (spec_l1Rd_pick.f k t (p + 1 + 1 + 1) 3).bind fun bt => if bt.1 = 0 then ((spec_l1Near.f k (rdOf ByteArray.empty (nearL s) j)).bind fun t200 => ((spec_l1Rd_pick.f k t bt.2 256).bind fun bt203 => ((spec_l1Rd_pick.f k t bt203.2 256).bind fun bt205 => (if (t200.length : Int) = 0 then (none) else (if 0 ≤ (Int.tmod (wrap64 ((wrap64 (bt203.1 * 256)) + bt205.1)) (t200.length : Int)) then (if (Int.tmod (wrap64 ((wrap64 (bt203.1 * 256)) + bt205.1)) (t200.length : Int)) < (t200.length : Int) then (some (rdOf ByteArray.empty t200 (Int.tmod (wrap64 ((wrap64 (bt203.1 * 256)) + bt205.1)) (t200.length : Int)), bt205.2)) else (none)) else (none)))))) else (some (rdOf ByteArray.empty (nearL s) j, bt.2))) (r, p') →
          Ev (fun k => (spec_l1Word.f k s).bind fun t187 => (if t187 = true then ((spec_l1Rd_pick.f k t p 2).bind fun bt188 => (spec_l13Other.j0 k s (bt188.1 == 0) t bt188.2)) else (spec_l13Other.j0 k s false t p))) (r, p') := by
        intro r p' hr
        refine Ev.bind hw (evPos rfl (Ev.bind hv ?_))
        rw [show (v == 0) = true from by simp [c]]
        refine Ev.step (fun k => spec_l13Other.j0.eq_2 _ _ _ _ _) (evPos rfl (Ev.bind (near_ev s hs) (Ev.bind ha (Ev.bind hb ?_))))
        dsimp only
        rw [hj]
        exact evNeg jn (evPos j0 (evPos j1 hr))
      by_cases c2 : x = 0
      · have hs2 := (wordB_size jw).2
        obtain ⟨a', ha', a0', a1'⟩ := pick_ev (h.at_ (p + 1 + 1 + 1 + 1) (by omega) (by omega)) 256 (by omega)
        obtain ⟨b', hb', b0', b1'⟩ := pick_ev (h.at_ (p + 1 + 1 + 1 + 1 + 1) (by omega) (by omega)) 256 (by omega)
        obtain ⟨j', hj', jn', j0', j1', jw'⟩ := nth_near jw a' b' a0' (by omega) b0' (by omega)
        have hz := (wordB_size jw').2
        refine ⟨rdOf ByteArray.empty (nearL (rdOf ByteArray.empty (nearL s) j)) j', p + 1 + 1 + 1 + 1 + 1 + 1, start _ _ (Ev.bind hx (evPos c2 (Ev.bind (near_ev _ (by omega)) (Ev.bind ha' (Ev.bind hb' ?_))))), by omega, by omega, by omega⟩
        dsimp only
        rw [hj']
        exact evNeg jn' (evPos j0' (evPos j1' (Ev.now _)))
      · have hz := (wordB_size jw).2
        exact ⟨_, _, start _ _ (Ev.bind hx (evNeg c2 (Ev.now _))), by omega, by omega, by omega⟩
    · obtain ⟨r, p', h1, h2⟩ := no (p + 1) (by omega) (by omega)
      refine ⟨r, p', Ev.bind hw (evPos rfl (Ev.bind hv ?_)), h2⟩
      rw [show (v == 0) = false from by simp [c]]
      exact h1
theorem drawFar_ev (l : List Int) (h : ∀ x ∈ l, (Lit.int .u8 x).wf = true) : ∃ a b, Ev (fun k => spec_DrawFar.f k l) (a, b) ∧ a.size ≤ 13 ∧ b.size ≤ 13 := by
  obtain ⟨s, hs, hr⟩ := open_ev l h
  obtain ⟨a, p1, he, z1, q1, q2⟩ := any13_ev hr (by omega)
  obtain ⟨b, p2, hb, z2, _, _⟩ := other_ev (hr.at_ p1 (by omega) (by omega)) (by omega) a (by omega)
  exact ⟨a, b, evCall hs (Ev.bind he (Ev.bind hb (Ev.now _))), z1, z2⟩
theorem dist_small (a b : ByteArray) (i k : Nat) (h : i ≤ 100) (h2 : k ≤ 100) : 0 ≤ dist a b i k ∧ dist a b i k ≤ 100 := by
  obtain ⟨_, _, _, m, _, p⟩ := dist_facts a b _ i k (Nat.le_refl _)
  omega
/-- A row of the table of distances, as far as k. -/
def rowD (a b : ByteArray) (i k : Nat) : List Int := (List.range k).map (fun j => dist a b i j)
theorem rowD_length (a b : ByteArray) (i k : Nat) : (rowD a b i k).length = k := by simp [rowD]
theorem rowD_succ (a b : ByteArray) (i k : Nat) : rowD a b i (k + 1) = rowD a b i k ++ [dist a b i k] := by simp [rowD, List.range_succ]
theorem rowD_rd (a b : ByteArray) (i k : Nat) (j : Nat) (h : j < k) : rd (rowD a b i k) (j : Int) = dist a b i j := by
  simp [rd, rowD, List.getD_eq_getElem?_getD, h]
def tabD (a b : ByteArray) (i : Nat) : List (List Int) := (List.range i).map (fun j => rowD a b j (b.size + 1))
theorem tabD_length (a b : ByteArray) (i : Nat) : (tabD a b i).length = i := by simp [tabD]
theorem tabD_succ (a b : ByteArray) (i : Nat) : tabD a b (i + 1) = tabD a b i ++ [rowD a b i (b.size + 1)] := by simp [tabD, List.range_succ]
theorem tabD_rd (a b : ByteArray) (i j : Nat) (h : j < i) : rd_L3 (tabD a b i) (j : Int) = rowD a b j (b.size + 1) := by
  simp [rd_L3, tabD, List.getD_eq_getElem?_getD, h]
theorem far_spec_row (a b : ByteArray) (ha : a.size ≤ 100) (hb : b.size ≤ 100) (i : Nat) (hi : i ≤ a.size) {r : Int}
    (next : Ev (fun k => spec_l1Far.l0 k a b (tabD a b (i + 1)) ((i + 1 : Nat) : Int)) r) (d : Nat) : ∀ k : Nat, k + d = b.size + 1 →
    Ev (fun n => spec_l1Far.l1 n a b (tabD a b i) (i : Int) (rowD a b i k) (k : Int)) r := by
  induction d with
  | zero =>
    intro k hk
    obtain rfl : k = b.size + 1 := by omega
    refine Ev.step (fun n => spec_l1Far.l1.eq_2 _ _ _ _ _ _ _) (evNeg (by omega) (evPos (by rw [tabD_length]; omega) ?_))
    rw [w64 (by omega) (by omega), ← tabD_succ]
    exact next
  | succ d ih =>
    intro k hk
    have ihk := ih (k + 1) (by omega)
    rw [rowD_succ] at ihk
    refine Ev.step (fun n => spec_l1Far.l1.eq_2 _ _ _ _ _ _ _) (evPos (by omega) ?_)
    have wk : wrap64 ((k : Int) + 1) = ((k + 1 : Nat) : Int) := by rw [w64 (by omega) (by omega)]; omega
    by_cases ci : i = 0
    · subst ci
      rw [dist_zero] at ihk
      refine evPos rfl (evPos (by rw [rowD_length]; omega) ?_)
      rw [wk]
      exact ihk
    by_cases ck : k = 0
    · subst ck
      rw [dist_nil] at ihk
      refine evNeg (by omega) (evPos rfl (evPos (by rw [rowD_length]; omega) ?_))
      rw [wk]
      exact ihk
    obtain ⟨i, rfl⟩ : ∃ m, i = m + 1 := ⟨i - 1, by omega⟩
    obtain ⟨k, rfl⟩ : ∃ m, k = m + 1 := ⟨k - 1, by omega⟩
    have wi1 : wrap64 (((i + 1 : Nat) : Int) - 1) = (i : Int) := by rw [w64 (by omega) (by omega)]; omega
    have wk1 : wrap64 (((k + 1 : Nat) : Int) - 1) = (k : Int) := by rw [w64 (by omega) (by omega)]; omega
    have rowi : rd_L3 (tabD a b (i + 1)) (i : Int) = rowD a b i (b.size + 1) := tabD_rd a b (i + 1) i (by omega)
    have b1 := dist_small a b i k (by omega) (by omega)
    have b2 := dist_small a b i (k + 1) (by omega) (by omega)
    have b3 := dist_small a b (i + 1) k (by omega) (by omega)
    have b4 := dist_small a b (i - 1) (k - 1) (by omega) (by omega)
    refine evNeg (by omega) (evNeg (by omega) ?_)
    rw [wi1, wk1, rowi, rowD_rd a b i (b.size + 1) k (by omega)]
    have join : ∀ v : Int, v = dist a b i k + (if bt a (i : Int) = bt b (k : Int) then 0 else 1) → Ev (fun n => spec_l1Far.j2 n a b (tabD a b (i + 1)) ((i + 1 : Nat) : Int) (rowD a b (i + 1) (k + 1)) ((k + 1 : Nat) : Int) v) r := by
      intro v hv
      have hv01 : (if bt a (i : Int) = bt b (k : Int) then (0 : Int) else 1) = 0 ∨ (if bt a (i : Int) = bt b (k : Int) then (0 : Int) else 1) = 1 := by split <;> simp
      have h3 : min v (min (dist a b i (k + 1) + 1) (dist a b (i + 1) k + 1)) = dist3 a b i k := by
        unfold dist3
        omega
      refine Ev.step (fun n => spec_l1Far.j2.eq_2 _ _ _ _ _ _ _ _) ?_
      rw [wi1, wk1, rowi, rowD_rd a b i (b.size + 1) (k + 1) (by omega), rowD_rd a b (i + 1) (k + 1) k (by omega), w64 (n := dist a b i (k + 1) + 1) (by omega) (by omega), w64 (n := dist a b (i + 1) k + 1) (by omega) (by omega)]
      refine evPos (by omega) (evPos (by rw [tabD_length]; omega) (evPos (by omega) (evPos (by rw [rowD_length]; omega) (evPos (by omega) (evPos (by rw [rowD_length]; omega) (evCall (least_spec _ _) (evCall (least_spec _ _) ?_)))))))
      rw [h3]
      have fin : ∀ x, x = dist a b (i + 1) (k + 1) → Ev (fun n => if (rowD a b (i + 1) (k + 1)).length < 17592186044416 then spec_l1Far.l1 n a b (tabD a b (i + 1)) ((i + 1 : Nat) : Int) (rowD a b (i + 1) (k + 1) ++ [x]) (wrap64 (((k + 1 : Nat) : Int) + 1)) else none) r := by
        rintro x rfl
        refine evPos (by rw [rowD_length]; omega) ?_
        rw [wk]
        exact ihk
      have hs := dist_succ a b i k
      have two (z : Nat) (hz : 1 ≤ z) (hz2 : z ≤ 100) : wrap64 (((z + 1 : Nat) : Int) - 2) = ((z - 1 : Nat) : Int) := by rw [w64 (by omega) (by omega)]; omega
      have no : dist3 a b i k = dist a b (i + 1) (k + 1) → Ev (fun n => spec_l1Far.j3 n a b (tabD a b (i + 1)) ((i + 1 : Nat) : Int) (rowD a b (i + 1) (k + 1)) ((k + 1 : Nat) : Int) (dist3 a b i k) false) r :=
        fun he => Ev.step (fun n => spec_l1Far.j3.eq_2 _ _ _ _ _ _ _ _ _) (evNeg (by simp) (fin _ he))
      by_cases c1 : ((i + 1 : Nat) : Int) > 1
      · by_cases c2 : ((k + 1 : Nat) : Int) > 1
        · refine evPos c1 (evPos c2 ?_)
          rw [two i (by omega) (by omega), two k (by omega) (by omega)]
          refine evPos (by omega) (evPos (by omega) (evPos (by omega) ?_))
          by_cases c3 : bt a (i : Int) = bt b ((k - 1 : Nat) : Int)
          · refine evPos c3 (evPos (by omega) (evPos (by omega) (evPos (by omega) ?_)))
            by_cases c4 : bt a ((i - 1 : Nat) : Int) = bt b (k : Int)
            · rw [if_pos ⟨by omega, by omega, c3, c4⟩] at hs
              have row2 : rd_L3 (tabD a b (i + 1)) ((i - 1 : Nat) : Int) = rowD a b (i - 1) (b.size + 1) := tabD_rd a b (i + 1) (i - 1) (by omega)
              rw [show (bt a ((i - 1 : Nat) : Int) == bt b (k : Int)) = true from beq_iff_eq.2 c4]
              refine Ev.step (fun n => spec_l1Far.j3.eq_2 _ _ _ _ _ _ _ _ _) ?_
              rw [two i (by omega) (by omega), two k (by omega) (by omega), row2, rowD_rd a b (i - 1) (b.size + 1) (k - 1) (by omega), w64 (n := dist a b (i - 1) (k - 1) + 1) (by omega) (by omega)]
              exact evPos rfl (evPos (by omega) (evPos (by rw [tabD_length]; omega) (evPos (by omega) (evPos (by rw [rowD_length]; omega) (evCall (least_spec _ _) (fin _ hs.symm))))))
            · rw [if_neg (fun h => c4 h.2.2.2)] at hs
              rw [show (bt a ((i - 1 : Nat) : Int) == bt b (k : Int)) = false from beq_eq_false_iff_ne.2 c4]
              exact no hs.symm
          · rw [if_neg (fun h => c3 h.2.2.1)] at hs
            exact evNeg c3 (no hs.symm)
        · rw [if_neg (fun h => c2 (by omega))] at hs
          exact evPos c1 (evNeg c2 (no hs.symm))
      · rw [if_neg (fun h => c1 (by omega))] at hs
        exact evNeg c1 (no hs.symm)
    refine evPos (by omega) (evPos (by rw [tabD_length]; omega) (evPos (by omega) (evPos (by rw [rowD_length]; omega) (evPos (by omega) (evPos (by omega) ?_)))))
    by_cases c : bt a (i : Int) = bt b (k : Int)
    · exact evPos c (join _ (by rw [if_pos c]; omega))
    · refine evNeg c (join _ ?_)
      rw [if_neg c, w64 (by omega) (by omega)]
theorem far_spec_loop (a b : ByteArray) (ha : a.size ≤ 100) (hb : b.size ≤ 100) (d : Nat) : ∀ i : Nat, i + d = a.size + 1 → Ev (fun n => spec_l1Far.l0 n a b (tabD a b i) (i : Int)) (farD a b) := by
  induction d with
  | zero =>
    intro i hi
    obtain rfl : i = a.size + 1 := by omega
    have row : rd_L3 (tabD a b (a.size + 1)) (a.size : Int) = rowD a b a.size (b.size + 1) := tabD_rd a b (a.size + 1) a.size (by omega)
    refine Ev.step (fun n => spec_l1Far.l0.eq_2 _ _ _ _ _) (evNeg (by omega) ?_)
    rw [row, rowD_rd a b a.size (b.size + 1) b.size (by omega)]
    exact evPos (by omega) (evPos (by rw [tabD_length]; omega) (evPos (by omega) (evPos (by rw [rowD_length]; omega) (Ev.now _))))
  | succ d ih =>
    intro i hi
    have h := far_spec_row a b ha hb i (by omega) (ih (i + 1) (by omega)) (b.size + 1) 0 (by omega)
    exact Ev.step (fun n => spec_l1Far.l0.eq_2 _ _ _ _ _) (evPos (by omega) h)
theorem l1Far_spec (a b : ByteArray) (ha : a.size ≤ 100) (hb : b.size ≤ 100) : Ev (fun n => spec_l1Far.f n a b) (farD a b) := far_spec_loop a b ha hb (a.size + 1) 0 (by omega)
theorem far_spec (a b : ByteArray) (ha : a.size ≤ 140737488351232) (hb : b.size ≤ 140737488351232) : Ev (fun n => spec_Far.f n a b) (farB a b) := by
  unfold spec_Far.f
  refine Ev.bind (l1Word_spec a ha) ?_
  cases e1 : wordB a with
  | false => exact evNeg (by simp) (Ev.step (fun n => spec_Far.j0.eq_2 _ _ _ _) (evPos rfl (evTo (Ev.now _) (by simp [farB, e1]))))
  | true =>
    have h1 := wordB_size e1
    refine evPos rfl (Ev.bind (l1Word_spec b hb) ?_)
    cases e2 : wordB b with
    | false => exact Ev.step (fun n => spec_Far.j0.eq_2 _ _ _ _) (evPos rfl (evTo (Ev.now _) (by simp [farB, e2])))
    | true =>
      have h2 := wordB_size e2
      exact Ev.step (fun n => spec_Far.j0.eq_2 _ _ _ _) (evNeg (by simp) (Ev.bind (l1Far_spec a b (by omega) (by omega)) (evTo (Ev.now _) (by simp [farB, e1, e2]))))
theorem lower_loop (s : ByteArray) (h : s.size ≤ 140737488351232) (d : Nat) : ∀ i : Int, 0 ≤ i → i ≤ s.size → (s.size : Int) - i = d →
    Ev (fun k => impl_lower.l0 k s (s.size : Int) i) (((bytesOf s).drop i.toNat).all low) := by
  induction d with
  | zero =>
    intro i h0 h1 hd
    refine Ev.step (fun k => impl_lower.l0.eq_2 _ _ _ _) (evNeg (by omega) ?_)
    rw [List.drop_eq_nil_of_le (by rw [bytesOf_length]; omega)]
    exact evTo (Ev.now _) (by simp)
  | succ d ih =>
    intro i h0 h1 hd
    refine Ev.step (fun k => impl_lower.l0.eq_2 _ _ _ _) (evPos (by omega) (evPos h0 (evPos (by omega) ?_)))
    rw [bytes_drop s i h0 (by omega), List.all_cons]
    by_cases c : bt s i < 97
    · exact evPos c (evTo (Ev.now _) (by simp [low]; omega))
    refine evNeg c ?_
    by_cases c1 : bt s i > 122
    · exact evPos c1 (evTo (Ev.now _) (by simp [low]; omega))
    refine evNeg c1 ?_
    have e : low (bt s i) = true := (low_iff _).2 (by omega)
    rw [w64 (by omega) (by omega), e, Bool.true_and]
    exact ih (i + 1) (by omega) (by omega) (by omega)
theorem lower_impl (s : ByteArray) (h : s.size ≤ 140737488351232) : Ev (fun k => impl_lower.f k s) ((bytesOf s).all low) :=
  lower_loop s h s.size 0 (by omega) (by omega) (by omega)
theorem within_impl (n a b : Int) : impl_within.f n a b = some (decide (a ≤ n) && decide (n ≤ b)) := by
  unfold impl_within.f
  by_cases c : n ≥ a
  · rw [if_pos c]; simp [c]
  · rw [if_neg c]; simp; omega
theorem word_impl (s : ByteArray) (h : s.size ≤ 140737488351232) : Ev (fun k => impl_WordOk.f k s) (wordB s) := by
  unfold impl_WordOk.f
  refine evCall (within_impl _ _ _) ?_
  by_cases c : (1 ≤ (s.size : Int) ∧ (s.size : Int) ≤ 12)
  · have hp : 0 < s.size := by omega
    have hq : s.size ≤ 12 := by omega
    refine evPos (by simp; omega) (Ev.bind (lower_impl s h) (evTo (Ev.now _) ?_))
    simp only [wordB, wordL, bytesOf_length, decide_eq_true hp, decide_eq_true hq, Bool.true_and]
  · exact evNeg (by simp; omega) (evTo (Ev.now _) (wordB_no (by omega)).symm)
theorem word_impl' (s : ByteArray) (h : s.size ≤ 281474976710656) : Ev (fun k => impl_WordOk.f k s) (wordB s) := by
  by_cases c : s.size ≤ 140737488351232
  · exact word_impl s c
  · unfold impl_WordOk.f
    refine evCall (within_impl _ _ _) ?_
    exact evNeg (by simp; omega) (evTo (Ev.now _) (wordB_no (by omega)).symm)
theorem rl_set_eq (M : List (List Int)) (i : Nat) (R : List Int) (h : i < M.length) : rd_L3 (M.set i R) (i : Int) = R := by
  simp [rd_L3, List.getD_eq_getElem?_getD, h]
theorem rl_set_ne (M : List (List Int)) (i j : Nat) (R : List Int) (h : i ≠ j) : rd_L3 (M.set i R) (j : Int) = rd_L3 M (j : Int) := by
  simp [rd_L3, List.getD_eq_getElem?_getD, List.getElem?_set_ne h]
theorem rd_setN_eq (xs : List Int) (i : Nat) (v : Int) (h : i < xs.length) : rd (xs.set i v) (i : Int) = v := by
  have := rd_set_eq xs (i : Int) v (by omega) (by omega)
  simpa using this
theorem rd_setN_ne (xs : List Int) (i j : Nat) (v : Int) (h : i ≠ j) : rd (xs.set i v) (j : Int) = rd xs (j : Int) := by
  have := rd_set_ne xs (i : Int) (j : Int) v (by omega) (by omega) (by omega)
  simpa using this
def InvM (a b : ByteArray) (M : List (List Int)) (i k : Nat) : Prop :=
  M.length = a.size + 1 ∧ (∀ j : Nat, j ≤ a.size → (rd_L3 M (j : Int)).length = b.size + 1) ∧
  ∀ x y : Nat, x ≤ a.size → y ≤ b.size → (x < i ∨ (x = i ∧ y < k) ∨ y = 0 ∨ x = 0) → rd (rd_L3 M (x : Int)) (y : Int) = dist a b x y
theorem inv_put {a b : ByteArray} {M : List (List Int)} {i k : Nat} (h : InvM a b M i k) (hi : i ≤ a.size) (hk : k ≤ b.size) (_ : 1 ≤ i) (_ : 1 ≤ k) : InvM a b (M.set i ((rd_L3 M (i : Int)).set k (dist a b i k))) i (k + 1) := by
  obtain ⟨h1, h2, h3⟩ := h
  refine ⟨by simpa using h1, fun j hj => ?_, fun x y hx hy hc => ?_⟩
  · by_cases c : i = j
    · subst c
      rw [rl_set_eq _ _ _ (by omega), List.length_set]
      exact h2 i hj
    · rw [rl_set_ne _ _ _ _ c]
      exact h2 j hj
  · by_cases c : i = x
    · subst c
      rw [rl_set_eq _ _ _ (by omega)]
      by_cases d : k = y
      · subst d
        exact rd_setN_eq _ _ _ (by rw [h2 i hi]; omega)
      · rw [rd_setN_ne _ _ _ _ d]
        exact h3 i y hx hy (by omega)
    · rw [rl_set_ne _ _ _ _ c]
      exact h3 x y hx hy (by omega)
theorem inv_next {a b : ByteArray} {M : List (List Int)} {i : Nat} (h : InvM a b M i (b.size + 1)) : InvM a b M (i + 1) 1 :=
  ⟨h.1, h.2.1, fun x y hx hy hc => h.2.2 x y hx hy (by omega)⟩
theorem mn_min (x y : Int) : mn x y = min x y := by
  unfold mn
  split <;> omega
theorem far_impl_row (a b : ByteArray) (ha : a.size ≤ 100) (hb : b.size ≤ 100) (i : Nat) (hi : i ≤ a.size) (hi1 : 1 ≤ i) {r : Int}
    (next : ∀ M, InvM a b M i (b.size + 1) → Ev (fun k => impl_Far.l2 k a b M ((i + 1 : Nat) : Int)) r) (d : Nat) : ∀ (k : Nat) (M : List (List Int)), k + d = b.size + 1 → 1 ≤ k → InvM a b M i k →
    Ev (fun n => impl_Far.l3 n a b M (i : Int) (k : Int)) r := by
  induction d with
  | zero =>
    intro k M hk _ hM
    obtain rfl : k = b.size + 1 := by omega
    refine Ev.step (fun n => impl_Far.l3.eq_2 _ _ _ _ _ _) (evNeg (by omega) ?_)
    rw [w64 (by omega) (by omega)]
    exact next M hM
  | succ d ih =>
    intro k M hk hk1 hM
    obtain ⟨m1, m2, m3⟩ := hM
    have ihk := ih (k + 1) (M.set i ((rd_L3 M (i : Int)).set k (dist a b i k))) (by omega) (by omega) (inv_put ⟨m1, m2, m3⟩ hi (by omega) hi1 hk1)
    obtain ⟨i, rfl⟩ : ∃ m, i = m + 1 := ⟨i - 1, by omega⟩
    obtain ⟨k, rfl⟩ : ∃ m, k = m + 1 := ⟨k - 1, by omega⟩
    have wi1 : wrap64 (((i + 1 : Nat) : Int) - 1) = (i : Int) := by rw [w64 (by omega) (by omega)]; omega
    have wk1 : wrap64 (((k + 1 : Nat) : Int) - 1) = (k : Int) := by rw [w64 (by omega) (by omega)]; omega
    have wk : wrap64 (((k + 1 : Nat) : Int) + 1) = ((k + 1 + 1 : Nat) : Int) := by rw [w64 (by omega) (by omega)]; omega
    have b1 := dist_small a b i k (by omega) (by omega)
    have b2 := dist_small a b i (k + 1) (by omega) (by omega)
    have b3 := dist_small a b (i + 1) k (by omega) (by omega)
    have b4 := dist_small a b (i - 1) (k - 1) (by omega) (by omega)
    have l1 := m2 i (by omega)
    have l2 := m2 (i + 1) hi
    have l3 := m2 (i - 1) (by omega)
    have e1 := m3 i k (by omega) (by omega) (by omega)
    have e2 := m3 i (k + 1) (by omega) (by omega) (by omega)
    have e3 := m3 (i + 1) k (by omega) (by omega) (by omega)
    have e4 := m3 (i - 1) (k - 1) (by omega) (by omega) (by omega)
    have join : ∀ v : Int, v = dist a b i k + (if bt a (i : Int) = bt b (k : Int) then 0 else 1) → Ev (fun n => impl_Far.j5 n a b M ((i + 1 : Nat) : Int) ((k + 1 : Nat) : Int) v) r := by
      intro v hv
      have hv01 : (if bt a (i : Int) = bt b (k : Int) then (0 : Int) else 1) = 0 ∨ (if bt a (i : Int) = bt b (k : Int) then (0 : Int) else 1) = 1 := by split <;> simp
      have h3 : mn (mn v (dist a b i (k + 1) + 1)) (dist a b (i + 1) k + 1) = dist3 a b i k := by
        rw [mn_min, mn_min]
        unfold dist3
        omega
      have h3b : 0 ≤ dist3 a b i k := by
        unfold dist3
        omega
      refine Ev.step (fun n => impl_Far.j5.eq_2 _ _ _ _ _ _ _) ?_
      rw [wi1, wk1, e2, e3, w64 (n := dist a b i (k + 1) + 1) (by omega) (by omega), w64 (n := dist a b (i + 1) k + 1) (by omega) (by omega), h3]
      refine evPos (by omega) (evPos (by omega) (evPos (by omega) (evPos (by omega) (evPos (by omega) (evPos (by omega) (evPos (by omega) (evPos (by omega) ?_)))))))
      have hs := dist_succ a b i k
      have two (z : Nat) (hz : 1 ≤ z) (hz2 : z ≤ 100) : wrap64 (((z + 1 : Nat) : Int) - 2) = ((z - 1 : Nat) : Int) := by rw [w64 (by omega) (by omega)]; omega
      have no : dist3 a b i k = dist a b (i + 1) (k + 1) → Ev (fun n => impl_Far.j6 n a b M ((i + 1 : Nat) : Int) ((k + 1 : Nat) : Int) (dist3 a b i k) false) r := by
        intro he
        refine Ev.step (fun n => impl_Far.j6.eq_2 _ _ _ _ _ _ _ _) (evNeg (by simp) (evPos (by omega) (evPos (by omega) (evPos (by omega) (evPos (by omega) ?_)))))
        rw [wk, he, Int.toNat_natCast, Int.toNat_natCast]
        exact ihk
      by_cases c1 : ((i + 1 : Nat) : Int) > 1
      · by_cases c2 : ((k + 1 : Nat) : Int) > 1
        · refine evPos c1 (evPos c2 ?_)
          rw [two i (by omega) (by omega), two k (by omega) (by omega)]
          refine evPos (by omega) (evPos (by omega) (evPos (by omega) ?_))
          by_cases c3 : bt a (i : Int) = bt b ((k - 1 : Nat) : Int)
          · refine evPos c3 (evPos (by omega) (evPos (by omega) (evPos (by omega) ?_)))
            by_cases c4 : bt a ((i - 1 : Nat) : Int) = bt b (k : Int)
            · rw [if_pos ⟨by omega, by omega, c3, c4⟩] at hs
              rw [show (bt a ((i - 1 : Nat) : Int) == bt b (k : Int)) = true from beq_iff_eq.2 c4]
              refine Ev.step (fun n => impl_Far.j6.eq_2 _ _ _ _ _ _ _ _) ?_
              rw [two i (by omega) (by omega), two k (by omega) (by omega), e4, w64 (n := dist a b (i - 1) (k - 1) + 1) (by omega) (by omega), mn_min, ← hs, wk, Int.toNat_natCast, Int.toNat_natCast]
              exact evPos rfl (evPos (by omega) (evPos (by omega) (evPos (by omega) (evPos (by omega) (evPos (by omega) (evPos (by omega) (evPos (by omega) (evPos (by omega) ihk))))))))
            · rw [if_neg (fun h => c4 h.2.2.2)] at hs
              rw [show (bt a ((i - 1 : Nat) : Int) == bt b (k : Int)) = false from beq_eq_false_iff_ne.2 c4]
              exact no hs.symm
          · rw [if_neg (fun h => c3 h.2.2.1)] at hs
            exact evNeg c3 (no hs.symm)
        · rw [if_neg (fun h => c2 (by omega))] at hs
          exact evPos c1 (evNeg c2 (no hs.symm))
      · rw [if_neg (fun h => c1 (by omega))] at hs
        exact evNeg c1 (no hs.symm)
    refine Ev.step (fun n => impl_Far.l3.eq_2 _ _ _ _ _ _) (evPos (by omega) ?_)
    rw [wi1, wk1, e1]
    refine evPos (by omega) (evPos (by omega) (evPos (by omega) (evPos (by omega) (evPos (by omega) (evPos (by omega) ?_)))))
    by_cases c : bt a (i : Int) = bt b (k : Int)
    · exact evPos c (join _ (by rw [if_pos c]; omega))
    · refine evNeg c (join _ ?_)
      rw [if_neg c, w64 (by omega) (by omega)]
theorem far_impl_rows (a b : ByteArray) (ha : a.size ≤ 100) (hb : b.size ≤ 100) (d : Nat) : ∀ (i : Nat) (M : List (List Int)), i + d = a.size + 1 → 1 ≤ i → InvM a b M i 1 → Ev (fun n => impl_Far.l2 n a b M (i : Int)) (farD a b) := by
  induction d with
  | zero =>
    intro i M hi _ hM
    obtain rfl : i = a.size + 1 := by omega
    refine Ev.step (fun n => impl_Far.l2.eq_2 _ _ _ _ _) (evNeg (by omega) ?_)
    rw [hM.2.2 a.size b.size (Nat.le_refl _) (Nat.le_refl _) (by omega)]
    have := hM.2.1 a.size (Nat.le_refl _)
    have := hM.1
    exact evPos (by omega) (evPos (by omega) (evPos (by omega) (evPos (by omega) (Ev.now _))))
  | succ d ih =>
    intro i M hi hi1 hM
    exact Ev.step (fun n => impl_Far.l2.eq_2 _ _ _ _ _) (evPos (by omega) (far_impl_row a b ha hb i (by omega) hi1 (fun M' hM' => ih (i + 1) M' (by omega) (by omega) (inv_next hM')) b.size 1 M (by omega) (by omega) hM))
theorem far_impl_first (a b : ByteArray) (ha : a.size ≤ 100) (hb : b.size ≤ 100) (d : Nat) : ∀ (k : Nat) (M : List (List Int)), k + d = b.size + 1 → M.length = a.size + 1 → (∀ j : Nat, j ≤ a.size → (rd_L3 M (j : Int)).length = b.size + 1) →
    (∀ j : Nat, 1 ≤ j → j ≤ a.size → rd (rd_L3 M (j : Int)) 0 = j) → (∀ j : Nat, j < k → rd (rd_L3 M 0) (j : Int) = j) → Ev (fun n => impl_Far.l1 n a b M ((b.size + 1 : Nat) : Int) (k : Int)) (farD a b) := by
  induction d with
  | zero =>
    intro k M hk h1 h2 h3 h4
    refine Ev.step (fun n => impl_Far.l1.eq_2 _ _ _ _ _ _) (evNeg (by omega) (far_impl_rows a b ha hb a.size 1 M (by omega) (by omega) ⟨h1, h2, fun x y hx hy hc => ?_⟩))
    by_cases c : x = 0
    · subst c
      rw [dist_zero]
      exact h4 y (by omega)
    · obtain rfl : y = 0 := by omega
      rw [dist_nil]
      exact h3 x (by omega) hx
  | succ d ih =>
    intro k M hk h1 h2 h3 h4
    have z : (rd_L3 M ((0 : Nat) : Int)).length = b.size + 1 := h2 0 (by omega)
    have z' : (rd_L3 M 0).length = b.size + 1 := z
    refine Ev.step (fun n => impl_Far.l1.eq_2 _ _ _ _ _ _) (evPos (by omega) (evPos (by omega) (evPos (by omega) (evPos (by omega) ?_))))
    rw [w64 (by omega) (by omega), show ((k : Int) + 1) = ((k + 1 : Nat) : Int) from by omega, Int.toNat_natCast, show (0 : Int).toNat = 0 from rfl]
    have e0 : rd_L3 (M.set 0 ((rd_L3 M 0).set k (k : Int))) 0 = (rd_L3 M 0).set k (k : Int) := rl_set_eq M 0 _ (by omega)
    refine ih (k + 1) _ (by omega) (by simpa using h1) (fun j hj => ?_) (fun j hj1 hj => ?_) (fun j hj => ?_)
    · by_cases c : 0 = j
      · subst c
        show (rd_L3 (M.set 0 ((rd_L3 M 0).set k (k : Int))) 0).length = b.size + 1
        rw [e0, List.length_set]
        exact z'
      · rw [rl_set_ne _ _ _ _ c]
        exact h2 j hj
    · rw [rl_set_ne _ _ _ _ (by omega)]
      exact h3 j hj1 hj
    · rw [e0]
      by_cases c : k = j
      · subst c
        exact rd_setN_eq _ _ _ (by omega)
      · rw [rd_setN_ne _ _ _ _ c]
        exact h4 j (by omega)
theorem far_impl_zero (a b : ByteArray) (ha : a.size ≤ 100) (hb : b.size ≤ 100) (d : Nat) : ∀ (i : Nat) (M : List (List Int)), i + d = a.size + 1 → M.length = a.size + 1 → (∀ j : Nat, j < i → rd_L3 M (j : Int) = (List.replicate (b.size + 1) 0).set 0 (j : Int)) →
    Ev (fun n => impl_Far.l0 n a b M ((a.size + 1 : Nat) : Int) (i : Int)) (farD a b) := by
  induction d with
  | zero =>
    intro i M hi h1 h2
    have z : rd_L3 M ((0 : Nat) : Int) = (List.replicate (b.size + 1) 0).set 0 ((0 : Nat) : Int) := h2 0 (by omega)
    have z' : rd_L3 M 0 = (List.replicate (b.size + 1) 0).set 0 0 := z
    refine Ev.step (fun n => impl_Far.l0.eq_2 _ _ _ _ _ _) (evNeg (by omega) (evPos (by omega) ?_))
    have hl : ((rd_L3 M 0).length : Int) = ((b.size + 1 : Nat) : Int) := by rw [z']; simp
    rw [hl]
    refine far_impl_first a b ha hb (b.size + 1) 0 M (by omega) h1 (fun j hj => ?_) (fun j hj1 hj => ?_) (fun j hj => absurd hj (by omega))
    · rw [h2 j (by omega)]
      simp
    · rw [h2 j (by omega)]
      exact rd_setN_eq _ 0 _ (by simp)
  | succ d ih =>
    intro i M hi h1 h2
    have wb : wrap64 ((b.size : Int) + 1) = ((b.size + 1 : Nat) : Int) := by rw [w64 (by omega) (by omega)]; omega
    have wi : wrap64 ((i : Int) + 1) = ((i + 1 : Nat) : Int) := by rw [w64 (by omega) (by omega)]; omega
    have e : rd_L3 (M.set i (List.replicate (b.size + 1) 0)) (i : Int) = List.replicate (b.size + 1) 0 := rl_set_eq _ _ _ (by omega)
    refine Ev.step (fun n => impl_Far.l0.eq_2 _ _ _ _ _ _) (evPos (by omega) ?_)
    rw [wb, Int.toNat_natCast, Int.toNat_natCast]
    refine evPos (by omega) (evPos (by omega) (evPos (by omega) (evPos (by omega) (evCall rfl ?_))))
    rw [e, wi, show (0 : Int).toNat = 0 from rfl]
    refine evPos (by simp) (ih (i + 1) _ (by omega) (by simpa using h1) (fun j hj => ?_))
    by_cases c : i = j
    · subst c
      rw [rl_set_eq _ _ _ (by simp; omega)]
    · rw [rl_set_ne _ _ _ _ c, rl_set_ne _ _ _ _ c]
      exact h2 j (by omega)
theorem far_impl (a b : ByteArray) (ha : a.size ≤ 140737488351232) (hb : b.size ≤ 140737488351232) : Ev (fun n => impl_Far.f n a b) (farB a b) := by
  unfold impl_Far.f
  refine Ev.bind (word_impl a ha) ?_
  cases e1 : wordB a with
  | false => exact evNeg (by simp) (Ev.step (fun n => impl_Far.j0.eq_2 _ _ _ _) (evPos rfl (evTo (Ev.now _) (by simp [farB, e1]))))
  | true =>
    have h1 := wordB_size e1
    refine evPos rfl (Ev.bind (word_impl b hb) ?_)
    cases e2 : wordB b with
    | false => exact Ev.step (fun n => impl_Far.j0.eq_2 _ _ _ _) (evPos rfl (evTo (Ev.now _) (by simp [farB, e2])))
    | true =>
      have h2 := wordB_size e2
      have wa : wrap64 ((a.size : Int) + 1) = ((a.size + 1 : Nat) : Int) := by rw [w64 (by omega) (by omega)]; omega
      refine Ev.step (fun n => impl_Far.j0.eq_2 _ _ _ _) (evNeg (by simp) ?_)
      rw [wa, Int.toNat_natCast]
      refine evPos (by omega) (evPos (by omega) (evCall rfl ?_))
      have hl : ((List.replicate (a.size + 1) ([] : List Int)).length : Int) = ((a.size + 1 : Nat) : Int) := by simp
      rw [hl]
      exact evTo (far_impl_zero a b (by omega) (by omega) (a.size + 1) 0 _ (by omega) (by simp) (fun j hj => absurd hj (by omega))) (by simp [farB, e1, e2])
def withB (a b : ByteArray) (n : Int) : Bool := wordB a && wordB b && decide (farD a b ≤ n)
theorem within_far (a b : ByteArray) (n : Int) : withB a b n = (decide (0 ≤ farB a b) && decide (farB a b ≤ n)) := by
  unfold withB farB
  have hp : 0 ≤ farD a b := (dist_facts a b _ a.size b.size (Nat.le_refl _)).2.2.2.2.2
  by_cases c : wordB a = true ∧ wordB b = true
  · rw [if_pos c, c.1, c.2, decide_eq_true hp]
    rfl
  · rw [if_neg c]
    have : (wordB a && wordB b) = false := by
      cases e1 : wordB a <;> cases e2 : wordB b <;> simp_all
    rw [this]
    simp
theorem withinW_impl (a b : ByteArray) (n : Int) (ha : a.size ≤ 140737488351232) (hb : b.size ≤ 140737488351232) : Ev (fun k => impl_Within.f k a b n) (withB a b n) := by
  unfold impl_Within.f
  refine Ev.bind (far_impl a b ha hb) ?_
  rw [within_far]
  by_cases c : farB a b ≥ 0
  · exact evPos c (evTo (Ev.now _) (by rw [decide_eq_true c, Bool.true_and]))
  · exact evNeg c (evTo (Ev.now _) (by rw [decide_eq_false c, Bool.false_and]))
theorem ba_get (l : List ByteArray) (i : Nat) (h : i < l.length) : rdOf ByteArray.empty l (i : Int) = l[i] := by simp [rdOf, List.getD_eq_getElem?_getD, List.getElem?_eq_getElem h]
theorem ba_at {P : ByteArray → Prop} {l : List ByteArray} (h : ∀ s ∈ l, P s) (i : Nat) (hi : i < l.length) : P (rdOf ByteArray.empty l (i : Int)) := by
  rw [ba_get l i hi]
  exact h _ (List.getElem_mem hi)
theorem cand_size (s x : ByteArray) (hx : x ∈ candsFrom s 0) : x.size ≤ s.size + 2 := by
  unfold candsFrom at hx
  obtain ⟨i, hi, hx⟩ := List.mem_flatMap.1 hx
  have hi2 := (List.mem_range'_1.1 hi).2
  have e1 : ∀ c : Int, (strOfNums [c]).size = 1 := fun _ => rfl
  have ex : ∀ a b : Nat, (s.extract a b).size ≤ b - a ∧ (s.extract a b).size ≤ s.size - a := by
    intro a b
    rw [← bytesOf_length, bytes_extract, List.length_take, List.length_drop, bytesOf_length]
    omega
  unfold candsAt at hx
  rcases List.mem_append.1 hx with hx | hx
  · unfold lettersAt at hx
    obtain ⟨c, _, hx⟩ := List.mem_flatMap.1 hx
    have h1 := (ex 0 i).1
    have h2 := (ex i s.size).2
    have h3 := (ex (i + 1) s.size).2
    unfold letAt at hx
    split at hx
    · rcases List.mem_cons.1 hx with rfl | hx
      · unfold insB
        rw [size_append, size_append, e1]
        omega
      · rw [List.mem_singleton.1 hx]
        unfold subB
        rw [size_append, size_append, e1]
        omega
    · rw [List.mem_singleton.1 hx]
      unfold insB
      rw [size_append, size_append, e1]
      omega
  · rcases List.mem_append.1 hx with hx | hx
    · have h1 := (ex 0 i).1
      have h3 := (ex (i + 1) s.size).2
      unfold delAt at hx
      split at hx
      · rw [List.mem_singleton.1 hx]
        unfold delB
        rw [size_append]
        omega
      · cases hx
    · have h1 := (ex 0 i).1
      have h2 := (ex (i + 1) (i + 2)).1
      have h3 := (ex i (i + 1)).1
      have h4 := (ex (i + 2) s.size).2
      unfold swpAt at hx
      split at hx
      · rw [List.mem_singleton.1 hx]
        unfold swpB
        rw [size_append, size_append, size_append]
        omega
      · cases hx
theorem go_ev (s : ByteArray) (l : List ByteArray) : ∀ xs : List ByteArray, xs.length + l.length ≤ 90000 → (∀ x ∈ l, x.size ≤ 1048576) → Ev (fun k => impl_Near.go k s l xs) (xs ++ l.filter (fun x => decide (x ≠ s) && wordB x)) := by
  induction l with
  | nil =>
    intro xs _ _
    exact evTo (Ev.now _) (by simp)
  | cons x l ih =>
    intro xs hl hz
    rw [List.length_cons] at hl
    have hz' : ∀ y ∈ l, y.size ≤ 1048576 := fun y hy => hz y (List.mem_cons_of_mem _ hy)
    have hx := hz x List.mem_cons_self
    show Ev (fun k => (impl_Near.put k s xs x).bind fun ys => impl_Near.go k s l ys) _
    by_cases c : x = s
    · subst c
      refine Ev.bind (a := xs) (evPos (by omega) (evPos rfl (Ev.now _))) (evTo (ih xs (by omega) hz') ?_)
      simp
    · refine Ev.bind (a := xs ++ (if wordB x = true then [x] else [])) (evPos (by omega) (evNeg (fun h => c ((toList_iff _ _).1 h)) (Ev.bind (word_impl x (by omega)) (evTo (Ev.now _) ?_)))) (evTo (ih _ ?_ hz') ?_)
      · cases wordB x <;> simp
      · rw [List.length_append]
        have : (if wordB x = true then [x] else []).length ≤ 1 := by split <;> simp
        omega
      · cases e : wordB x <;> simp [c, e]
def nearB (s : ByteArray) : List ByteArray := if wordB s = true then nearL s else []
theorem near_impl (s : ByteArray) (h : s.size ≤ 140737488351232) : Ev (fun k => impl_Near.f k s) (nearB s) := by
  unfold impl_Near.f nearB
  refine Ev.bind (word_impl s h) ?_
  cases e : wordB s with
  | false => exact evNeg (by simp) (evTo (Ev.now _) (by simp))
  | true =>
    have hs := wordB_size e
    have hl := candsFrom_length s 0
    have hg := go_ev s (candsFrom s 0) [] (by simp; omega) (fun x hx => by have := cand_size s x hx; omega)
    refine evPos rfl (evPos (by omega) (Ev.bind hg (evTo (evEq (r := nearL s) ?_) (by simp))))
    have hf := List.length_filter_le (fun x => decide (x ≠ s) && wordB x) (candsFrom s 0)
    unfold impl_sorted.f
    rw [if_pos (by simp only [List.nil_append]; omega)]
    congr 1
    refine asc_ext (setL_asc _) (nearL_asc s) (fun x => ?_)
    rw [setL_mem, nearL_mem, List.nil_append, List.mem_filter]
    simp
theorem nearB_length (s : ByteArray) : (nearB s).length ≤ 100000 := by
  unfold nearB
  split
  · rename_i e
    have h1 := nearL_length s
    have h2 := wordB_size e
    omega
  · simp
theorem dk1 {α : Type} (P : List α) (a : α) (R : List α) : (P ++ a :: R).drop (P.length + 1) = R := by
  simp
theorem dk2 {α : Type} (P : List α) (a b : α) (R : List α) : (P ++ a :: b :: R).drop (P.length + 2) = R := by
  simp
theorem mem_at {s x : ByteArray} {i : Nat} (hi : i ≤ s.size) (h : x ∈ candsAt s i) : x ∈ candsFrom s 0 := by
  unfold candsFrom
  exact List.mem_flatMap.2 ⟨i, List.mem_range'_1.2 (by omega), h⟩
theorem mem_let {s x : ByteArray} {i c : Nat} (hi : i ≤ s.size) (h1 : 97 ≤ c) (h2 : c ≤ 122) (h : x ∈ letAt s i c) : x ∈ candsFrom s 0 := by
  refine mem_at hi ?_
  unfold candsAt lettersAt
  exact List.mem_append_left _ (List.mem_flatMap.2 ⟨c, List.mem_range'_1.2 (by omega), h⟩)
theorem mem_ins {s : ByteArray} {i c : Nat} (hi : i ≤ s.size) (h1 : 97 ≤ c) (h2 : c ≤ 122) : insB s i c ∈ candsFrom s 0 := by
  refine mem_let hi h1 h2 ?_
  unfold letAt
  split <;> simp
theorem mem_sub {s : ByteArray} {i c : Nat} (hi : i < s.size) (h1 : 97 ≤ c) (h2 : c ≤ 122) : subB s i c ∈ candsFrom s 0 := by
  refine mem_let (Nat.le_of_lt hi) h1 h2 ?_
  unfold letAt
  rw [if_pos hi]
  simp
theorem mem_del {s : ByteArray} {i : Nat} (hi : i < s.size) : delB s i ∈ candsFrom s 0 := by
  refine mem_at (Nat.le_of_lt hi) ?_
  unfold candsAt delAt
  rw [if_pos hi]
  simp
theorem mem_swp {s : ByteArray} {i : Nat} (hi : i + 1 < s.size) : swpB s i ∈ candsFrom s 0 := by
  refine mem_at (i := i) (by omega) ?_
  unfold candsAt swpAt
  rw [if_pos hi]
  simp
theorem low_nat {s : ByteArray} (hs : wordB s = true) {d : Int} (hd : d ∈ bytesOf s) : ∃ n : Nat, d = (n : Int) ∧ 97 ≤ n ∧ n ≤ 122 := by
  have := ((wordL_iff _).1 hs).2.2 d hd
  exact ⟨d.toNat, by omega, by omega, by omega⟩
theorem split_at (s : ByteArray) (i : Nat) (hi : i ≤ s.size) : ∃ P Q : List Int, bytesOf s = P ++ Q ∧ P.length = i :=
  ⟨(bytesOf s).take i, (bytesOf s).drop i, (List.take_append_drop i (bytesOf s)).symm, by rw [List.length_take, bytesOf_length]; exact Nat.min_eq_left hi⟩
theorem size_of {s : ByteArray} {l : List Int} (h : bytesOf s = l) : s.size = l.length := by rw [← h, bytesOf_length]
theorem cand_symm {s x : ByteArray} (hs : wordB s = true) (hx : x ∈ candsFrom s 0) : s ∈ candsFrom x 0 := by
  unfold candsFrom at hx
  obtain ⟨i, hi, hx⟩ := List.mem_flatMap.1 hx
  have hi2 := (List.mem_range'_1.1 hi).2
  have hle : i ≤ s.size := by omega
  obtain ⟨P, Q, hS, hP⟩ := split_at s i hle
  have insCase : ∀ c : Nat, c ≤ 122 → x = insB s i (c : Int) → s ∈ candsFrom x 0 := by
    intro c hc e
    have hX : bytesOf x = P ++ (c : Int) :: Q := by rw [e, insB_bytes s i c (by omega), hS, ← hP, List.take_left, List.drop_left]
    have hz := size_of hX
    have : s = delB x i := bytes_inj (by rw [delB_bytes, hX, hS, ← hP, List.take_left, dk1])
    rw [this]
    refine mem_del (s := x) (i := i) ?_
    rw [hz, List.length_append, List.length_cons]
    omega
  unfold candsAt at hx
  rcases List.mem_append.1 hx with hx | hx
  · unfold lettersAt at hx
    obtain ⟨c, hc, hx⟩ := List.mem_flatMap.1 hx
    have hc2 := (List.mem_range'_1.1 hc)
    unfold letAt at hx
    split at hx
    · rename_i hlt
      rcases List.mem_cons.1 hx with hx | hx
      · exact insCase c (by omega) hx
      · have e := List.mem_singleton.1 hx
        cases Q with
        | nil =>
          have := size_of hS
          simp at this
          omega
        | cons d Q =>
          obtain ⟨n, hn, n1, n2⟩ := low_nat hs (show d ∈ bytesOf s by rw [hS]; simp)
          have hX : bytesOf x = P ++ (c : Int) :: Q := by rw [e, subB_bytes s i c (by omega), hS, ← hP, List.take_left, dk1]
          have hz := size_of hX
          have : s = subB x i (n : Int) := bytes_inj (by rw [subB_bytes x i n (by omega), hX, hS, ← hP, List.take_left, dk1, hn])
          rw [this]
          refine mem_sub (s := x) (i := i) ?_ n1 n2
          rw [hz, List.length_append, List.length_cons]
          omega
    · exact insCase c (by omega) (List.mem_singleton.1 hx)
  · rcases List.mem_append.1 hx with hx | hx
    · unfold delAt at hx
      split at hx
      · rename_i hlt
        have e := List.mem_singleton.1 hx
        cases Q with
        | nil =>
          have := size_of hS
          simp at this
          omega
        | cons d Q =>
          obtain ⟨n, hn, n1, n2⟩ := low_nat hs (show d ∈ bytesOf s by rw [hS]; simp)
          have hX : bytesOf x = P ++ Q := by rw [e, delB_bytes, hS, ← hP, List.take_left, dk1]
          have hz := size_of hX
          have : s = insB x i (n : Int) := bytes_inj (by rw [insB_bytes x i n (by omega), hX, hS, ← hP, List.take_left, List.drop_left, hn])
          rw [this]
          refine mem_ins (s := x) (i := i) ?_ n1 n2
          rw [hz, List.length_append]
          omega
      · cases hx
    · unfold swpAt at hx
      split at hx
      · rename_i hlt
        have e := List.mem_singleton.1 hx
        have hsz := size_of hS
        rw [List.length_append] at hsz
        match Q, hS, hsz with
        | [], _, hsz => simp at hsz; omega
        | [d], _, hsz => simp at hsz; omega
        | d :: f :: Q, hS, _ =>
          have hX : bytesOf x = P ++ f :: d :: Q := by
            rw [e, swpB_bytes, hS, ← hP, List.take_left, dk1, List.drop_left, dk2]
            simp
          have hz := size_of hX
          have : s = swpB x i := bytes_inj (by
            rw [swpB_bytes, hX, hS, ← hP, List.take_left, dk1, List.drop_left, dk2]
            simp)
          rw [this]
          refine mem_swp (s := x) (i := i) ?_
          rw [hz, List.length_append, List.length_cons, List.length_cons]
          omega
      · cases hx
theorem near_symm {a b : ByteArray} (ha : wordB a = true) (hb : wordB b = true) : b ∈ nearL a ↔ a ∈ nearL b := by
  rw [nearL_mem, nearL_mem]
  exact ⟨fun h => ⟨cand_symm ha h.1, fun e => h.2.1 e.symm, ha⟩, fun h => ⟨cand_symm hb h.1, fun e => h.2.1 e.symm, hb⟩⟩
theorem mdHas_loop (l : List ByteArray) (x : ByteArray) (hl : l.length ≤ 10000000) (d : Nat) : ∀ i : Nat, i + d = l.length → Ev (fun k => laws_mdHas.l0 k l x (i : Int)) ((l.drop i).any (fun y => y.toList == x.toList)) := by
  induction d with
  | zero =>
    intro i hi
    refine Ev.step (fun k => laws_mdHas.l0.eq_2 _ _ _ _) (evNeg (by omega) (evTo (Ev.now _) ?_))
    rw [List.drop_eq_nil_of_le (by omega)]
    rfl
  | succ d ih =>
    intro i hi
    have hlt : i < l.length := by omega
    refine Ev.step (fun k => laws_mdHas.l0.eq_2 _ _ _ _) (evPos (by omega) (evPos (by omega) ?_))
    rw [ba_get l i hlt, w64 (n := (i : Int) + 1) (by omega) (by omega), List.drop_eq_getElem_cons hlt, List.any_cons]
    by_cases c : l[i].toList = x.toList
    · exact evPos c (evTo (Ev.now _) (by simp [c]))
    · have cb : (l[i].toList == x.toList) = false := by simpa using c
      rw [cb, Bool.false_or]
      exact evNeg c (ih (i + 1) (by omega))
theorem mdHas_ev (l : List ByteArray) (x : ByteArray) (hl : l.length ≤ 10000000) : ∃ b : Bool, Ev (fun k => laws_mdHas.f k l x) b ∧ (b = true ↔ x ∈ l) := by
  refine ⟨_, mdHas_loop l x hl l.length 0 (by omega), ?_⟩
  rw [List.drop_zero, List.any_eq_true]
  constructor
  · rintro ⟨y, hy, e⟩
    rw [← (toList_iff y x).1 (by simpa using e)]
    exact hy
  · exact fun h => ⟨x, h, by simp⟩
theorem FnNearBoth : laws_FnNearBoth.Pure := by
  intro l0 hl hm hw
  refine Ev.rounds ?_
  unfold laws_FnNearBoth.f
  by_cases c0 : (l0.length : Int) > 1048576
  · exact evPos c0 (Ev.now _)
  obtain ⟨a, b, hd, z1, z2⟩ := drawFar_ev l0 hw
  have i1 := far_impl a b (by omega) (by omega)
  have s1 := far_spec a b (by omega) (by omega)
  refine evNeg c0 (Ev.bind hd (Ev.bind i1 (Ev.bind s1 (evPos rfl (Ev.step (fun n => laws_FnNearBoth.j0.eq_2 _ _ _ _ _) ?_)))))
  dsimp only
  by_cases cw : wordB a = true ∧ wordB b = true
  · have e : farB a b = farD a b := if_pos cw
    obtain ⟨_, f2, f3, f4, _, f6⟩ := dist_facts a b _ a.size b.size (Nat.le_refl _)
    rw [e]
    refine evNeg (by simp; exact f6) ?_
    obtain ⟨p, hp, p1⟩ := mdHas_ev (nearB a) b (by have := nearB_length a; omega)
    obtain ⟨q, hq, q1⟩ := mdHas_ev (nearB b) a (by have := nearB_length b; omega)
    have hpq : p = q := by
      rw [Bool.eq_iff_iff, p1, q1]
      unfold nearB
      rw [if_pos cw.1, if_pos cw.2]
      exact near_symm cw.1 cw.2
    subst hpq
    refine Ev.bind (near_impl a (by omega)) (Ev.bind hp (Ev.bind (near_impl b (by omega)) (Ev.bind hq (evPos (by simp) ?_))))
    have w1 := withinW_impl a b (farD a b) (by omega) (by omega)
    rw [show withB a b (farD a b) = true from by simp [withB, cw.1, cw.2]] at w1
    have w2 := withinW_impl a b (farD a b - 1) (by omega) (by omega)
    rw [show withB a b (farD a b - 1) = false from by simp [withB]; omega] at w2
    have hf : 0 ≤ farD a b ∧ farD a b ≤ 1000 := ⟨f6, by unfold farD at *; omega⟩
    refine Ev.bind w1 (evPos rfl ?_)
    rw [w64 (n := farD a b - 1) (by omega) (by omega)]
    exact Ev.bind w2 (evTo (Ev.now _) rfl)
  · have e : farB a b = -1 := if_neg cw
    rw [e] at s1 ⊢
    exact evPos rfl (Ev.bind s1 (evTo (Ev.now _) rfl))
end Go.Proofs.Ytedfcehhgbeibaa.Pure

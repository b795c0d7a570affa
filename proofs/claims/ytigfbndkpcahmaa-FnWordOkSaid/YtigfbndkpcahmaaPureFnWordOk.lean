/- A word consists of letters, each of which is a word by itself; of the text that is drawn. No condition. -/
import Derived.Test.YtigfbndkpcahmaaPFnWordOkx2
import Derived.Test.YtigfbndkpcahmaaMBas
import Derived.Test.YtigfbndkpcahmaaMStr
import Derived.Test.YtigfbndkpcahmaaWSized
namespace Go.Proofs.Ytigfbndkpcahmaa
/-- The printed row names it so. -/
theorem PrintWords.sized_ints : type_of% @Go.Proofs.YtigfbndkpcahmaaW.PrintWords.sized_ints := @Go.Proofs.YtigfbndkpcahmaaW.PrintWords.sized_ints
end Go.Proofs.Ytigfbndkpcahmaa
namespace Go.Proofs.Ytigfbndkpcahmaa.Pure
open Go.RowKit Go.Proofs.Ytigfbndkpcahmaa.PFnWordOk Go.Proofs.YtigfbndkpcahmaaW.PrintWords Go.Proofs.YtigfbndkpcahmaaW.PrintLast Go.Proofs.Ytigfbndkpcahmaa.M
theorem letters_loop (s : ByteArray) (m : Int) (h : s.size ≤ 140737488351232) (d : Nat) : ∀ i : Int, 0 ≤ i → i ≤ s.size → (s.size : Int) - i = d →
    Ev (fun k => spec_l1Letters.l0 k s m i) (((bytesOf s).drop i.toNat).all low && decide ((s.size : Int) ≤ m)) := by
  induction d with
  | zero =>
    intro i h0 h1 hd
    refine Ev.step (fun k => spec_l1Letters.l0.eq_2 _ _ _ _) (evNeg (by omega) ?_)
    rw [List.drop_eq_nil_of_le (by rw [bytesOf_length]; omega)]
    exact evTo (Ev.now _) (by simp)
  | succ d ih =>
    intro i h0 h1 hd
    refine Ev.step (fun k => spec_l1Letters.l0.eq_2 _ _ _ _) (evPos (by omega) (evPos h0 ?_))
    rw [bytes_drop s i h0 (by omega), List.all_cons]
    by_cases c : bt s i < 97
    · exact evPos c (evTo (Ev.now _) (by simp [low]; omega))
    refine evNeg c ?_
    by_cases c1 : bt s i > 122
    · exact evPos c1 (evTo (Ev.now _) (by simp [low]; omega))
    refine evNeg c1 ?_
    have e : low (bt s i) = true := (low_iff _).2 (by omega)
    rw [w64 (by omega) (by omega), e, Bool.true_and]
    exact ih (i + 1) (by omega) (by omega) (by omega)
theorem letters_spec (s : ByteArray) (m : Int) (h : s.size ≤ 140737488351232) : Ev (fun k => spec_l1Letters.f k s m) ((bytesOf s).all low && decide ((s.size : Int) ≤ m)) :=
  letters_loop s m h s.size 0 (by omega) (by omega) (by omega)
theorem l1Word_spec (s : ByteArray) (h : s.size ≤ 140737488351232) : Ev (fun k => spec_l1Word.f k s) (wordB s) := by
  unfold spec_l1Word.f
  by_cases c : (s.size : Int) > 0
  · have hp : 0 < s.size := by omega
    refine evPos c (Ev.bind (letters_spec s 12 h) (evTo (Ev.now _) ?_))
    simp only [wordB, wordL, bytesOf_length, decide_eq_true hp, Bool.true_and]
    rw [Bool.and_comm]
    congr 1
    exact decide_eq_decide.2 (by omega)
  · exact evNeg c (evTo (Ev.now _) (wordB_no (by omega)).symm)
theorem lower_loop (s : ByteArray) (h : s.size ≤ 140737488351232) (d : Nat) : ∀ i : Int, 0 ≤ i → i ≤ s.size → (s.size : Int) - i = d →
    Ev (fun k => impl_lower.l0 k s (s.size : Int) i) (((bytesOf s).drop i.toNat).all low) := by
  induction d with
  | zero =>
    intro i h0 h1 hd
    refine Ev.step (fun k => impl_lower.l0.eq_2 _ _ _ _) (evNeg (by omega) ?_)
    rw [List.drop_eq_nil_of_le (by rw [bytesOf_length]; omega)]
    exact evTo (Ev.now _) (by simp)
  | succ d ih =>
    intro i h0 h1 hd
    refine Ev.step (fun k => impl_lower.l0.eq_2 _ _ _ _) (evPos (by omega) (evPos h0 (evPos (by omega) ?_)))
    rw [bytes_drop s i h0 (by omega), List.all_cons]
    by_cases c : bt s i < 97
    · exact evPos c (evTo (Ev.now _) (by simp [low]; omega))
    refine evNeg c ?_
    by_cases c1 : bt s i > 122
    · exact evPos c1 (evTo (Ev.now _) (by simp [low]; omega))
    refine evNeg c1 ?_
    have e : low (bt s i) = true := (low_iff _).2 (by omega)
    rw [w64 (by omega) (by omega), e, Bool.true_and]
    exact ih (i + 1) (by omega) (by omega) (by omega)
theorem lower_impl (s : ByteArray) (h : s.size ≤ 140737488351232) : Ev (fun k => impl_lower.f k s) ((bytesOf s).all low) :=
  lower_loop s h s.size 0 (by omega) (by omega) (by omega)
theorem within_impl (n a b : Int) : impl_within.f n a b = some (decide (a ≤ n) && decide (n ≤ b)) := by
  unfold impl_within.f
  by_cases c : n ≥ a
  · rw [if_pos c]; simp [c]
  · rw [if_neg c]; simp; omega
theorem word_impl (s : ByteArray) (h : s.size ≤ 140737488351232) : Ev (fun k => impl_WordOk.f k s) (wordB s) := by
  unfold impl_WordOk.f
  refine evCall (within_impl _ _ _) ?_
  by_cases c : (1 ≤ (s.size : Int) ∧ (s.size : Int) ≤ 12)
  · have hp : 0 < s.size := by omega
    have hq : s.size ≤ 12 := by omega
    refine evPos (by simp; omega) (Ev.bind (lower_impl s h) (evTo (Ev.now _) ?_))
    simp only [wordB, wordL, bytesOf_length, decide_eq_true hp, decide_eq_true hq, Bool.true_and]
  · exact evNeg (by simp; omega) (evTo (Ev.now _) (wordB_no (by omega)).symm)
theorem word_spec (s : ByteArray) (h : s.size ≤ 140737488351232) : Ev (fun k => spec_WordOk.f k s) (wordB s) := Ev.bind (l1Word_spec s h) (Ev.now _)
/-- What a reader's bytes and place are. -/
def Rdr (s : List Int) (p : Int) : Prop := s.length ≤ 2000 ∧ (∀ x ∈ s, 0 ≤ x ∧ x ≤ 255) ∧ 0 ≤ p ∧ p ≤ 1000000000000
theorem Rdr.at_ {s : List Int} {p : Int} (h : Rdr s p) (q : Int) (h0 : 0 ≤ q) (h1 : q ≤ 1000000000000) : Rdr s q := ⟨h.1, h.2.1, h0, h1⟩
theorem rd_range {s : List Int} (h : ∀ x ∈ s, 0 ≤ x ∧ x ≤ 255) (i : Int) : 0 ≤ rd s i ∧ rd s i ≤ 255 := by
  unfold rd
  rw [List.getD_eq_getElem?_getD]
  by_cases c : i.toNat < s.length
  · rw [List.getElem?_eq_getElem c]
    exact h _ (List.getElem_mem c)
  · rw [List.getElem?_eq_none (by omega)]
    simp
def pickY (a b p q : Int) : Int := wrap64 (wrap64 (wrap64 (wrap64 (wrap64 a * 131) + wrap64 (wrap64 b * 1117)) + wrap64 (p * 29)) + wrap64 (wrap64 q * 53))
def pickX (a b p q : Int) : Int := Go.bits .xor .i64 (pickY a b p q) (wrap64 (Int.tdiv (pickY a b p q) 64))
theorem pickX_pos (a b p q : Int) (ha : 0 ≤ a ∧ a ≤ 255) (hb : 0 ≤ b ∧ b ≤ 255) (h0 : 0 ≤ p) (h1 : p ≤ 1000000000000) (q0 : 0 ≤ q) (q1 : q ≤ p) : 0 ≤ pickX a b p q := by
  have e : pickY a b p q = a * 131 + b * 1117 + p * 29 + q * 53 := by
    unfold pickY
    rw [w64 (n := a) (by omega) (by omega), w64 (n := b) (by omega) (by omega), w64 (n := a * 131) (by omega) (by omega), w64 (n := b * 1117) (by omega) (by omega), w64 (n := p * 29) (by omega) (by omega), w64 (n := q) (by omega) (by omega), w64 (n := q * 53) (by omega) (by omega), w64 (n := a * 131 + b * 1117) (by omega) (by omega), w64 (n := a * 131 + b * 1117 + p * 29) (by omega) (by omega), w64 (n := a * 131 + b * 1117 + p * 29 + q * 53) (by omega) (by omega)]
  unfold pickX
  rw [e]
  have x0 : 0 ≤ a * 131 + b * 1117 + p * 29 + q * 53 := by omega
  have x1 : a * 131 + b * 1117 + p * 29 + q * 53 < 4611686018427387904 := by omega
  generalize a * 131 + b * 1117 + p * 29 + q * 53 = x at *
  have t0 := Int.tdiv_nonneg x0 (show (0 : Int) ≤ 64 from by omega)
  have t1 : Int.tdiv x 64 ≤ x := Int.tdiv_le_self 64 x0
  rw [w64 (n := Int.tdiv x 64) (by omega) (by omega)]
  exact xor_small x (Int.tdiv x 64) x0 x1 t0 (by omega)
theorem pick_ev {s : List Int} {p : Int} (h : Rdr s p) (n : Int) (hn : n ≤ 1000000000000000) : ∃ v, Ev (fun k => spec_l1Rd_pick.f k s p n) (v, p + 1) ∧ 0 ≤ v ∧ (v < n ∨ v = 0) := by
  obtain ⟨hl, hb, hp0, hp1⟩ := h
  have hr := rd_range hb
  unfold spec_l1Rd_pick.f
  rw [w64 (n := p + 1) (by omega) (by omega)]
  by_cases c : n < 1
  · exact ⟨0, evPos c (Ev.step (fun k => spec_l1Rd_pick.j0.eq_2 _ _ _ _ _) (evPos rfl (Ev.now _))), by omega, .inr rfl⟩
  by_cases e : s.length = 0
  · exact ⟨0, evNeg c (Ev.step (fun k => spec_l1Rd_pick.j0.eq_2 _ _ _ _ _) (evPos (by simp [e]) (Ev.now _))), by omega, .inr rfl⟩
  have hlen : 0 < (s.length : Int) := by omega
  have wr (i : Int) : wrap64 (rd s i) = rd s i := w64 (by have := (hr i).1; omega) (by have := (hr i).2; omega)
  by_cases c2 : p < (s.length : Int)
  · have h1 := hr p
    refine ⟨Int.tmod (rd s p) n, evNeg c (Ev.step (fun k => spec_l1Rd_pick.j0.eq_2 _ _ _ _ _) (evNeg (by simpa using e) ?_)), Int.tmod_nonneg _ h1.1, .inl (Int.tmod_lt_of_pos _ (by omega))⟩
    rw [show p + 1 - 1 = p from by omega, w64 (n := p) (by omega) (by omega), wr]
    exact evPos c2 (evPos hp0 (evNeg (by omega) (Ev.now _)))
  have m1 := Int.tmod_nonneg (s.length : Int) hp0
  have m2 := Int.tmod_lt_of_pos p hlen
  have m3 := Int.tmod_nonneg (s.length : Int) (show 0 ≤ p * 7 + 3 from by omega)
  have m4 := Int.tmod_lt_of_pos (p * 7 + 3) hlen
  have d1 := Int.tdiv_nonneg hp0 (show 0 ≤ (s.length : Int) from by omega)
  have d2 : Int.tdiv p (s.length : Int) ≤ p := Int.tdiv_le_self (s.length : Int) hp0
  have hz := pickX_pos (rd s (Int.tmod p (s.length : Int))) (rd s (Int.tmod (p * 7 + 3) (s.length : Int))) p (Int.tdiv p (s.length : Int)) (hr _) (hr _) hp0 hp1 d1 d2
  refine ⟨Int.tmod (pickX (rd s (Int.tmod p (s.length : Int))) (rd s (Int.tmod (p * 7 + 3) (s.length : Int))) p (Int.tdiv p (s.length : Int))) n, evNeg c (Ev.step (fun k => spec_l1Rd_pick.j0.eq_2 _ _ _ _ _) (evNeg (by simpa using e) ?_)), Int.tmod_nonneg _ hz, .inl (Int.tmod_lt_of_pos _ (by omega))⟩
  rw [show p + 1 - 1 = p from by omega, w64 (n := p) (by omega) (by omega), w64 (n := p * 7) (by omega) (by omega), w64 (n := p * 7 + 3) (by omega) (by omega)]
  exact evNeg c2 (evNeg (by omega) (evPos m1 (evPos m2 (evPos m3 (evPos m4 (evNeg (by omega) (Ev.now _)))))))
theorem of_ev {s : List Int} {p : Int} (h : Rdr s p) (l : List ByteArray) (h0 : 0 < l.length) (h1 : l.length ≤ 1000000) : ∃ x ∈ l, Ev (fun k => spec_l1Rd_of.f k s p l) (x, p + 1) := by
  obtain ⟨v, hv, v0, v1⟩ := pick_ev h (l.length : Int) (by omega)
  have v2 : v < (l.length : Int) := by omega
  have hl : v.toNat < l.length := by omega
  refine ⟨l[v.toNat], List.getElem_mem hl, ?_⟩
  unfold spec_l1Rd_of.f
  refine Ev.bind hv (evPos v0 (evPos v2 (evTo (Ev.now _) ?_)))
  simp [rdOf, List.getD_eq_getElem?_getD, List.getElem?_eq_getElem hl]
theorem open_ev (l : List Int) (h : ∀ x ∈ l, (Lit.int .u8 x).wf = true) : ∃ s, spec_l1Open.f l = some (s, 0) ∧ Rdr s 0 := by
  have hb : ∀ x ∈ l, 0 ≤ x ∧ x ≤ 255 := by
    intro x hx
    have := h x hx
    simp [Lit.wf, IntKind.min, IntKind.max, IntKind.signed, IntKind.bits] at this
    omega
  unfold spec_l1Open.f
  by_cases c : (l.length : Int) > 2000
  · refine ⟨l.take 2000, by rw [if_pos c, if_pos (by omega)], ?_, fun x hx => hb x (List.mem_of_mem_take hx), by omega, by omega⟩
    rw [List.length_take]
    omega
  · exact ⟨l, by rw [if_neg c], by omega, hb, by omega, by omega⟩
theorem least_spec (a b : Int) : spec_l1Least.f a b = some (min a b) := by
  unfold spec_l1Least.f
  by_cases c : a < b
  · rw [if_pos c]; congr 1; omega
  · rw [if_neg c]; congr 1; omega
theorem word13_loop {s : List Int} (d : Nat) : ∀ (x : ByteArray) (n p : Int), Rdr s p → p + d ≤ 1000000000000 → n = d → x.size + 2 * d ≤ 1000000 →
    ∃ r p', Ev (fun k => spec_l13Word.l0 k x n s p) (r, p') ∧ r.size ≤ 12 ∧ p ≤ p' ∧ p' ≤ p + d := by
  induction d with
  | zero =>
    intro x n p h hp hn hx
    refine ⟨x.extract 0 (min x.size 12), p, Ev.step (fun k => spec_l13Word.l0.eq_2 _ _ _ _ _) (evNeg (by omega) (evCall (least_spec _ _) ?_)), ?_, by omega, by omega⟩
    · refine evPos (by omega) (evPos (by omega) (evTo (Ev.now _) ?_))
      congr 3
      omega
    · rw [size_extract _ _ _ (by omega) (by omega)]
      omega
  | succ d ih =>
    intro x n p h hp hn hx
    have hls : ∀ y ∈ ([(⟨#[97]⟩ : ByteArray), (⟨#[98]⟩ : ByteArray), (⟨#[99]⟩ : ByteArray), (⟨#[97, 98]⟩ : ByteArray), (⟨#[116]⟩ : ByteArray)] : List ByteArray), y.size ≤ 2 := by
      intro y hy
      simp only [List.mem_cons, List.not_mem_nil, or_false] at hy
      rcases hy with rfl | rfl | rfl | rfl | rfl <;> decide
    obtain ⟨y, hy, he⟩ := of_ev h ([(⟨#[97]⟩ : ByteArray), (⟨#[98]⟩ : ByteArray), (⟨#[99]⟩ : ByteArray), (⟨#[97, 98]⟩ : ByteArray), (⟨#[116]⟩ : ByteArray)] : List ByteArray) (by simp) (by simp)
    have hy2 := hls y hy
    obtain ⟨r, p', hr, h1, h2, h3⟩ := ih (x ++ y) (n - 1) (p + 1) (h.at_ _ (by have := h.2.2.1; omega) (by omega)) (by omega) (by omega) (by rw [size_append]; omega)
    refine ⟨r, p', Ev.step (fun k => spec_l13Word.l0.eq_2 _ _ _ _ _) (evPos (by omega) (Ev.bind he (evPos (by dsimp only; omega) ?_))), h1, by omega, by omega⟩
    rw [w64 (by omega) (by omega)]
    exact hr
theorem word13_ev {s : List Int} {p : Int} (h : Rdr s p) (hp : p ≤ 999999999900) : ∃ r p', Ev (fun k => spec_l13Word.f k s p) (r, p') ∧ r.size ≤ 12 ∧ p ≤ p' ∧ p' ≤ p + 10 := by
  have h0 := h.2.2.1
  obtain ⟨v, hv, v0, v1⟩ := pick_ev h 3 (by omega)
  unfold spec_l13Word.f
  by_cases c : v = 0
  · obtain ⟨u, hu, u0, u1⟩ := pick_ev (h.at_ (p + 1) (by omega) (by omega)) 5 (by omega)
    obtain ⟨d, hd⟩ := Int.eq_ofNat_of_zero_le (show 0 ≤ 1 + u from by omega)
    obtain ⟨r, p', hr, h1, h2, h3⟩ := word13_loop d (⟨#[]⟩ : ByteArray) (1 + u) (p + 1 + 1) (h.at_ _ (by omega) (by omega)) (by omega) hd (by have : (⟨#[]⟩ : ByteArray).size = 0 := rfl; omega)
    refine ⟨r, p', Ev.bind hv (evPos c (Ev.bind hu ?_)), h1, by omega, by omega⟩
    rw [w64 (by dsimp only; omega) (by dsimp only; omega)]
    exact hr
  · obtain ⟨y, hy, he⟩ := of_ev (h.at_ (p + 1) (by omega) (by omega)) ([(⟨#[99, 97, 116]⟩ : ByteArray), (⟨#[99, 97, 116, 115]⟩ : ByteArray), (⟨#[97, 99, 116]⟩ : ByteArray), (⟨#[100, 111]⟩ : ByteArray), (⟨#[100, 111, 105, 110, 103]⟩ : ByteArray), (⟨#[103, 111]⟩ : ByteArray), (⟨#[117, 110, 100, 111]⟩ : ByteArray), (⟨#[116, 114, 121]⟩ : ByteArray), (⟨#[116, 114, 105, 101, 115]⟩ : ByteArray), (⟨#[97]⟩ : ByteArray), (⟨#[98, 97, 107, 101]⟩ : ByteArray), (⟨#[98, 97, 107, 105, 110, 103]⟩ : ByteArray), (⟨#[116, 97, 99, 116]⟩ : ByteArray), (⟨#[99, 97, 114, 116]⟩ : ByteArray), (⟨#[97, 98, 99, 97, 98, 99, 97, 98, 99, 97, 98, 99]⟩ : ByteArray)] : List ByteArray) (by simp) (by simp)
    refine ⟨y, p + 1 + 1, Ev.bind hv (evNeg c (Ev.bind he (Ev.now _))), ?_, by omega, by omega⟩
    simp only [List.mem_cons, List.not_mem_nil, or_false] at hy
    rcases hy with rfl | rfl | rfl | rfl | rfl | rfl | rfl | rfl | rfl | rfl | rfl | rfl | rfl | rfl | rfl <;> decide
theorem any13_ev {s : List Int} {p : Int} (h : Rdr s p) (hp : p ≤ 999999999800) : ∃ r p', Ev (fun k => spec_l13AnyWord.f k s p) (r, p') ∧ r.size ≤ 13 ∧ p ≤ p' ∧ p' ≤ p + 11 := by
  have h0 := h.2.2.1
  obtain ⟨v, hv, v0, v1⟩ := pick_ev h 16 (by omega)
  unfold spec_l13AnyWord.f
  by_cases c : v = 0
  · obtain ⟨y, hy, he⟩ := of_ev (h.at_ (p + 1) (by omega) (by omega)) ([(⟨#[]⟩ : ByteArray), (⟨#[67, 97, 116]⟩ : ByteArray), (⟨#[97, 32, 98]⟩ : ByteArray), (⟨#[97, 98, 99, 97, 98, 99, 97, 98, 99, 97, 98, 99, 97]⟩ : ByteArray), (⟨#[120, 49]⟩ : ByteArray), (⟨#[45]⟩ : ByteArray)] : List ByteArray) (by simp) (by simp)
    refine ⟨y, p + 1 + 1, Ev.bind hv (evPos c (Ev.bind he (Ev.now _))), ?_, by omega, by omega⟩
    simp only [List.mem_cons, List.not_mem_nil, or_false] at hy
    rcases hy with rfl | rfl | rfl | rfl | rfl | rfl <;> decide
  · obtain ⟨r, p', hr, h1, h2, h3⟩ := word13_ev (h.at_ (p + 1) (by omega) (by omega)) (by omega)
    exact ⟨r, p', Ev.bind hv (evNeg c (Ev.bind hr (Ev.now _))), by omega, by omega, by omega⟩
theorem draw_ev (l : List Int) (h : ∀ x ∈ l, (Lit.int .u8 x).wf = true) : ∃ s, Ev (fun k => spec_DrawWordOk.f k l) s ∧ s.size ≤ 13 := by
  obtain ⟨s, hs, hr⟩ := open_ev l h
  obtain ⟨r, p', he, h1, _, _⟩ := any13_ev hr (by omega)
  exact ⟨r, evCall hs (Ev.bind he (Ev.now _)), h1⟩
theorem one_word (s : ByteArray) (h : wordB s = true) (i : Int) (h0 : 0 ≤ i) (h1 : i < s.size) : wordB (s.extract i.toNat (i + 1).toNat) = true := by
  have hw := (wordL_iff _).1 h
  refine (wordL_iff _).2 ?_
  rw [bytes_extract, bytes_drop s i h0 h1, show (i + 1).toNat - i.toNat = 1 from by omega]
  refine ⟨by simp, by simp, fun c hc => hw.2.2 c ?_⟩
  simp only [List.take_succ_cons, List.take_zero, List.mem_cons, List.not_mem_nil, or_false] at hc
  subst hc
  rw [← rd_bytesOf]
  have hl : i.toNat < (bytesOf s).length := by rw [bytesOf_length]; omega
  simp only [rd, List.getD_eq_getElem?_getD, List.getElem?_eq_getElem hl, Option.getD_some]
  exact List.getElem_mem hl
theorem empty_no : wordB (⟨#[]⟩ : ByteArray) = false := by decide
theorem done_ev (s : ByteArray) (b : Bool) (i : Int) (hb : b = true → s.size ≤ 12) : Ev (fun k => laws_FnWordOk.j1 k s b i false) true := by
  refine Ev.step (fun k => laws_FnWordOk.j1.eq_2 _ _ _ _ _) (evNeg (by simp) (Ev.bind (word_impl _ (by decide)) (evNeg (by simp [empty_no]) ?_)))
  by_cases c : b = true
  · exact evPos c (evTo (Ev.now _) (by simp; have := hb c; omega))
  · exact evNeg c (Ev.now _)
theorem law_loop (s : ByteArray) (hs : s.size ≤ 13) (d : Nat) : ∀ i : Int, 0 ≤ i → i ≤ s.size → (s.size : Int) - i = d → Ev (fun k => laws_FnWordOk.l0 k s (wordB s) i) true := by
  have hb : wordB s = true → s.size ≤ 12 := fun h => (wordB_size h).2
  induction d with
  | zero =>
    intro i h0 h1 hd
    exact Ev.step (fun k => laws_FnWordOk.l0.eq_2 _ _ _ _) (evNeg (by omega) (done_ev s _ i hb))
  | succ d ih =>
    intro i h0 h1 hd
    refine Ev.step (fun k => laws_FnWordOk.l0.eq_2 _ _ _ _) (evPos (by omega) ?_)
    by_cases c : wordB s = true
    · have hi := ih (i + 1) (by omega) (by omega) (by omega)
      rw [c] at hi ⊢
      refine Ev.step (fun k => laws_FnWordOk.j1.eq_2 _ _ _ _ _) (evPos rfl ?_)
      rw [w64 (n := i + 1) (by omega) (by omega)]
      refine evPos h0 (evPos (by omega) (evPos (by omega) (Ev.bind (word_impl _ ?_) (evPos (one_word s c i h0 (by omega)) hi))))
      rw [size_extract _ _ _ (by omega) (by omega)]
      omega
    · have c' : wordB s = false := by simpa using c
      have := done_ev s false i (by simp)
      rw [c']
      exact this
theorem FnWordOk : laws_FnWordOk.Pure := by
  intro l0 hl hm hw
  refine Ev.rounds ?_
  unfold laws_FnWordOk.f
  by_cases c0 : (l0.length : Int) > 1048576
  · exact evPos c0 (Ev.now _)
  obtain ⟨s, hs, hz⟩ := draw_ev l0 hw
  refine evNeg c0 (Ev.bind hs (Ev.bind (word_impl s (by omega)) (Ev.bind (word_spec s (by omega)) (evNeg (by simp) ?_))))
  exact law_loop s hz s.size 0 (by omega) (by omega) (by omega)
end Go.Proofs.Ytigfbndkpcahmaa.Pure

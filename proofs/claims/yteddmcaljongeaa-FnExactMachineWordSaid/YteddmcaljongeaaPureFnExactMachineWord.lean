/- MachineWord answers as the reference, of every machine and rank, and leaves it as it was. No condition. -/
import Derived.Test.YteddmcaljongeaaQFnExactMachineWordx9
import Derived.Test.YteddmcaljongeaaVMBas
import Derived.Test.YteddmcaljongeaaVMStr
import Derived.Test.YteddmcaljongeaaVMAry
namespace Go.Proofs.Yteddmcaljongeaa.Pure
open Go.RowKit Go.Proofs.Yteddmcaljongeaa.QFnExactMachineWord Go.Proofs.YteddmcaljongeaaW.PrintWords Go.Proofs.YteddmcaljongeaaW.PrintLast Go.Proofs.YteddmcaljongeaaW.PrintMore Go.Proofs.Yteddmcaljongeaa.M
set_option linter.unusedVariables false
set_option linter.unusedSimpArgs false
theorem fill_step {α β : Type} {f : α → β} {xs : List α} {ys : List β} {i : Nat} (z : α) (hl : ys.length = xs.length) (h : ∀ j : Nat, j < i → ys[j]? = (xs.map f)[j]?) (hi : i < xs.length) :
    (ys.set i (f (xs.getD i z))).length = xs.length ∧ ∀ j : Nat, j < i + 1 → (ys.set i (f (xs.getD i z)))[j]? = (xs.map f)[j]? := by
  refine ⟨by simpa using hl, fun j hj => ?_⟩
  by_cases c : i = j
  · subst c
    simp [hl, hi, List.getD_eq_getElem?_getD]
  · rw [List.getElem?_set_ne c]
    exact h j (by omega)
theorem fill_end {α β : Type} {f : α → β} {xs : List α} {ys : List β} (hl : ys.length = xs.length) (h : ∀ j : Nat, j < xs.length → ys[j]? = (xs.map f)[j]?) : ys = xs.map f := by
  refine List.ext_getElem? fun j => ?_
  by_cases c : j < xs.length
  · exact h j c
  · rw [List.getElem?_eq_none (by omega), List.getElem?_eq_none (by simp; omega)]
abbrev LSt := S63
abbrev LEg := S93
def cvE (e : LEg) : S68 := ⟨e.f0, e.f1⟩
def cvS (s : LSt) : S66 := ⟨s.f0, s.f1.map cvE⟩
theorem toEdges_loop (l : List LEg) (hl : l.length ≤ 10000000) (d : Nat) : ∀ (i : Nat) (y : List S68), i + d = l.length → y.length = l.length → (∀ j : Nat, j < i → y[j]? = (l.map cvE)[j]?) → Ev (fun k => laws_toEdgeS.l0 k l y (i : Int)) (l.map cvE) := by
  induction d with
  | zero =>
    intro i y hi hy h
    exact Ev.step (fun k => laws_toEdgeS.l0.eq_2 _ _ _ _) (evNeg (by omega) (evTo (Ev.now _) (fill_end hy (fun j hj => h j (by omega)))))
  | succ d ih =>
    intro i y hi hy h
    obtain ⟨h1, h2⟩ := fill_step (f := cvE) z93 hy h (by omega)
    refine Ev.step (fun k => laws_toEdgeS.l0.eq_2 _ _ _ _) (evPos (by omega) (evPos (by omega) (evCall rfl (evPos (by omega) ?_))))
    rw [w64 (by omega) (by omega)]
    exact ih (i + 1) _ (by omega) h1 h2
theorem toEdges_ev (l : List LEg) (hl : l.length ≤ 10000000) : Ev (fun k => laws_toEdgeS.f k l) (l.map cvE) := by
  unfold laws_toEdgeS.f
  exact evPos (by omega) (evPos (by omega) (toEdges_loop l hl l.length 0 _ (by omega) (by simp) (fun j hj => absurd hj (by omega))))
theorem toStates_loop (l : List LSt) (hl : l.length ≤ 10000000) (he : ∀ s ∈ l, s.f1.length ≤ 10000000) (d : Nat) : ∀ (i : Nat) (y : List S66), i + d = l.length → y.length = l.length → (∀ j : Nat, j < i → y[j]? = (l.map cvS)[j]?) → Ev (fun k => laws_toStateS.l0 k l y (i : Int)) (l.map cvS) := by
  induction d with
  | zero =>
    intro i y hi hy h
    exact Ev.step (fun k => laws_toStateS.l0.eq_2 _ _ _ _) (evNeg (by omega) (evTo (Ev.now _) (fill_end hy (fun j hj => h j (by omega)))))
  | succ d ih =>
    intro i y hi hy h
    obtain ⟨h1, h2⟩ := fill_step (f := cvS) z63 hy h (by omega)
    have hm : (rd_T63 l (i : Int)).f1.length ≤ 10000000 := by
      have hlt : i < l.length := by omega
      have e : rd_T63 l (i : Int) = l[i] := by simp [rd_T63, List.getD_eq_getElem?_getD, hlt]
      rw [e]
      exact he _ (List.getElem_mem hlt)
    refine Ev.step (fun k => laws_toStateS.l0.eq_2 _ _ _ _) (evPos (by omega) (evPos (by omega) (Ev.bind (Ev.bind (toEdges_ev _ hm) (Ev.now _)) (evPos (by omega) ?_))))
    rw [w64 (by omega) (by omega)]
    exact ih (i + 1) _ (by omega) h1 h2
theorem toStates_ev (l : List LSt) (hl : l.length ≤ 10000000) (he : ∀ s ∈ l, s.f1.length ≤ 10000000) : Ev (fun k => laws_toStateS.f k l) (l.map cvS) := by
  unfold laws_toStateS.f
  exact evPos (by omega) (evPos (by omega) (toStates_loop l hl he l.length 0 _ (by omega) (by simp) (fun j hj => absurd hj (by omega))))
theorem eqEdges_loop (l : List S68) (hl : l.length ≤ 10000000) (d : Nat) : ∀ i : Nat, i + d = l.length → Ev (fun k => laws_eqEdgeS.l0 k l l (i : Int)) true := by
  induction d with
  | zero =>
    intro i hi
    exact Ev.step (fun k => laws_eqEdgeS.l0.eq_2 _ _ _ _) (evNeg (by omega) (Ev.now _))
  | succ d ih =>
    intro i hi
    refine Ev.step (fun k => laws_eqEdgeS.l0.eq_2 _ _ _ _) (evPos (by omega) (evPos (by omega) (evPos (by omega) (evCall (a := true) (by simp [laws_eqEdge.f]) (evPos rfl ?_)))))
    rw [w64 (by omega) (by omega)]
    exact ih (i + 1) (by omega)
theorem eqStates_loop (l : List S66) (hl : l.length ≤ 10000000) (he : ∀ s ∈ l, s.f1.length ≤ 10000000) (d : Nat) : ∀ i : Nat, i + d = l.length → Ev (fun k => laws_eqStateS.l0 k l l (i : Int)) true := by
  induction d with
  | zero =>
    intro i hi
    exact Ev.step (fun k => laws_eqStateS.l0.eq_2 _ _ _ _) (evNeg (by omega) (Ev.now _))
  | succ d ih =>
    intro i hi
    have hm : (rd_T66 l (i : Int)).f1.length ≤ 10000000 := by
      have hlt : i < l.length := by omega
      have e : rd_T66 l (i : Int) = l[i] := by simp [rd_T66, List.getD_eq_getElem?_getD, hlt]
      rw [e]
      exact he _ (List.getElem_mem hlt)
    have hs : Ev (fun k => laws_eqState.f k (rd_T66 l (i : Int)).f0 (rd_T66 l (i : Int)).f1 (rd_T66 l (i : Int)).f0 (rd_T66 l (i : Int)).f1) true := by
      unfold laws_eqState.f laws_eqEdgeS.f
      exact evNeg (by simp) (Ev.bind (evPos rfl (eqEdges_loop _ hm _ 0 (Nat.zero_add _))) (evPos rfl (Ev.now _)))
    refine Ev.step (fun k => laws_eqStateS.l0.eq_2 _ _ _ _) (evPos (by omega) (evPos (by omega) (evPos (by omega) (Ev.bind hs (evPos rfl ?_)))))
    rw [w64 (by omega) (by omega)]
    exact ih (i + 1) (by omega)
theorem eqStates_ev (l : List S66) (hl : l.length ≤ 10000000) (he : ∀ s ∈ l, s.f1.length ≤ 10000000) : Ev (fun k => laws_eqStateS.f k l l) true := by
  unfold laws_eqStateS.f
  exact evPos rfl (eqStates_loop l hl he l.length 0 (by omega))
theorem szState_ev (b : Bool) (l : List LEg) (n : Int) (h0 : 0 ≤ n) (h1 : n ≤ 1048576) (hl : l.length ≤ 9223372036854775807) : ∃ m, laws_szState.f b l n = some m ∧ (m < 0 ∨ (0 ≤ m ∧ m ≤ n ∧ l.length ≤ 1048576)) := by
  unfold laws_szState.f laws_szEdgeS.f
  rw [w64 (n := n - (l.length : Int)) (by omega) (by omega)]
  by_cases c : n - (l.length : Int) < 0
  · refine ⟨-1, ?_, .inl (by omega)⟩
    rw [if_pos c]
    rfl
  · refine ⟨n - l.length, ?_, .inr (by omega)⟩
    rw [if_neg c]
    simp only [Option.bind_some]
    rw [if_neg c]
theorem szStates_loop (l : List LSt) (hl : l.length ≤ 10000000) (he : ∀ s ∈ l, s.f1.length ≤ 9223372036854775807) (d : Nat) : ∀ (i : Nat) (n : Int), i + d = l.length → 0 ≤ n → n ≤ 1048576 → ∃ m, Ev (fun k => laws_szStateS.l0 k l n (i : Int)) m ∧ (m < 0 ∨ ∀ s ∈ l.drop i, s.f1.length ≤ 1048576) := by
  induction d with
  | zero =>
    intro i n hi h0 h1
    exact ⟨n, Ev.step (fun k => laws_szStateS.l0.eq_2 _ _ _ _) (evNeg (by omega) (Ev.now _)), .inr (fun s hs => by rw [List.drop_eq_nil_of_le (by omega)] at hs; cases hs)⟩
  | succ d ih =>
    intro i n hi h0 h1
    have hlt : i < l.length := by omega
    have e : rd_T63 l (i : Int) = l[i] := by simp [rd_T63, List.getD_eq_getElem?_getD, hlt]
    obtain ⟨m, hm, hz⟩ := szState_ev l[i].f0 l[i].f1 n h0 h1 (he _ (List.getElem_mem hlt))
    by_cases c : m < 0
    · refine ⟨-1, Ev.step (fun k => laws_szStateS.l0.eq_2 _ _ _ _) (evPos (by omega) (evPos (by omega) ?_)), .inl (by omega)⟩
      rw [e]
      exact evCall hm (evPos c (Ev.now _))
    · obtain ⟨q, hq, hr⟩ := ih (i + 1) m (by omega) (by omega) (by omega)
      refine ⟨q, Ev.step (fun k => laws_szStateS.l0.eq_2 _ _ _ _) (evPos (by omega) (evPos (by omega) ?_)), hr.elim .inl (fun h => .inr (fun s hs => ?_))⟩
      · rw [e]
        refine evCall hm (evNeg c ?_)
        rw [w64 (by omega) (by omega)]
        exact hq
      · rw [List.drop_eq_getElem_cons hlt] at hs
        rcases List.mem_cons.1 hs with rfl | hs
        · omega
        · exact h s hs
theorem szStates_ev (l : List LSt) (n : Int) (h0 : 0 ≤ n) (h1 : n ≤ 1048576) (hl : l.length ≤ 9223372036854775807) (he : ∀ s ∈ l, s.f1.length ≤ 9223372036854775807) :
    ∃ m, Ev (fun k => laws_szStateS.f k l n) m ∧ (m < 0 ∨ (l.length ≤ 1048576 ∧ ∀ s ∈ l, s.f1.length ≤ 1048576)) := by
  unfold laws_szStateS.f
  rw [w64 (n := n - (l.length : Int)) (by omega) (by omega)]
  by_cases c : n - (l.length : Int) < 0
  · exact ⟨-1, evPos c (Ev.now _), .inl (by omega)⟩
  · obtain ⟨m, hm, hz⟩ := szStates_loop l (by omega) he l.length 0 (n - l.length) (by omega) (by omega) (by omega)
    exact ⟨m, evNeg c hm, hz.elim .inl (fun h => .inr ⟨by omega, by simpa using h⟩)⟩
theorem cvS_small {l : List LSt} (h : ∀ s ∈ l, s.f1.length ≤ 1048576) : ∀ s ∈ l.map cvS, s.f1.length ≤ 1048576 := by
  intro s hs
  obtain ⟨t, ht, rfl⟩ := List.mem_map.1 hs
  simpa [cvS] using h t ht
abbrev St := S66
abbrev Eg := S68
/-- Edges of state i: letters ascend, each leads to a later state. -/
def edgesFrom (n i : Int) : Int → List Eg → Bool
  | _, [] => true
  | p, e :: es => (decide (97 ≤ e.f0) && decide (e.f0 ≤ 122)) && (decide (i + 1 ≤ e.f1) && decide (e.f1 ≤ n - 1)) && decide (p < e.f0) && edgesFrom n i e.f0 es
def prevAt (es : List Eg) (k : Int) : Int := if k = 0 then 0 else (rd_T68 es (k - 1)).f0
def stOk (m : List St) (i : Int) : Bool := edgesFrom m.length i 0 (rd_T66 m i).f1 && (decide (i = 0) || (rd_T66 m i).f0 || !(rd_T66 m i).f1.isEmpty)
def deepFold (dp : List Int) : Int → List Eg → Int
  | v, [] => v
  | v, e :: es => deepFold dp (if rd dp e.f1 + 1 > v then rd dp e.f1 + 1 else v) es
def longFold (dp : List Int) : Int → List Eg → Int
  | v, [] => v
  | v, e :: es => longFold dp (if rd dp e.f1 ≥ 0 then mx v (rd dp e.f1 + 1) else v) es
def deepGo (m : List St) : Nat → List Int → List Int
  | 0, dp => dp
  | i + 1, dp => deepGo m i (dp.set i (deepFold dp (rd dp i) (rd_T66 m i).f1))
def longGo (m : List St) : Nat → List Int → Bool
  | 0, dp => decide (rd dp 0 ≤ 12)
  | i + 1, dp => stOk m i && longGo m i (dp.set i (longFold dp (if (rd_T66 m i).f0 = true then 0 else -1) (rd_T66 m i).f1))
def allOk (m : List St) : Nat → Bool
  | 0 => true
  | i + 1 => stOk m i && allOk m i
def machOk (m : List St) : Bool := decide (1 ≤ m.length) && decide (m.length ≤ 400) && allOk m m.length && decide (rd (deepGo m m.length (List.replicate m.length 0)) 0 ≤ 12)
theorem eg_drop (es : List Eg) (k : Int) (h0 : 0 ≤ k) (h : k < es.length) : es.drop k.toNat = rd_T68 es k :: es.drop (k + 1).toNat := by
  have hl : k.toNat < es.length := by omega
  rw [List.drop_eq_getElem_cons hl, show (k + 1).toNat = k.toNat + 1 from by omega]
  congr 1
  exact (getD_get es _ k h0 hl).symm
theorem edges_mem {n i p : Int} {es : List Eg} (h : edgesFrom n i p es = true) : ∀ e ∈ es, 97 ≤ e.f0 ∧ e.f0 ≤ 122 ∧ i + 1 ≤ e.f1 ∧ e.f1 ≤ n - 1 ∧ p < e.f0 := by
  induction es generalizing p with
  | nil => intro e he; cases he
  | cons x es ih =>
    simp only [edgesFrom, Bool.and_eq_true, decide_eq_true_eq] at h
    obtain ⟨⟨⟨⟨h1, h2⟩, h3, h4⟩, h5⟩, h6⟩ := h
    intro e he
    rcases List.mem_cons.1 he with rfl | he
    · exact ⟨h1, h2, h3, h4, h5⟩
    · obtain ⟨g1, g2, g3, g4, g5⟩ := ih h6 e he
      exact ⟨g1, g2, g3, g4, by omega⟩
theorem allOk_at {m : List St} {n : Nat} (h : allOk m n = true) : ∀ i : Nat, i < n → stOk m i = true := by
  induction n with
  | zero => intro i hi; omega
  | succ n ih =>
    simp only [allOk, Bool.and_eq_true] at h
    intro i hi
    by_cases e : i = n
    · rw [e]; exact h.1
    · exact ih h.2 i (by omega)
theorem allOk_of {m : List St} {n : Nat} (h : ∀ i : Nat, i < n → stOk m i = true) : allOk m n = true := by
  induction n with
  | zero => rfl
  | succ n ih =>
    simp only [allOk, Bool.and_eq_true]
    exact ⟨h n (by omega), ih (fun i hi => h i (by omega))⟩
theorem deepFold_bounds {dp : List Int} {b : Int} : ∀ {es : List Eg} {v : Int}, 0 ≤ v → v ≤ b → (∀ e ∈ es, 0 ≤ rd dp e.f1 ∧ rd dp e.f1 + 1 ≤ b) → 0 ≤ deepFold dp v es ∧ deepFold dp v es ≤ b := by
  intro es
  induction es with
  | nil => intro v h0 h1 _; exact ⟨h0, h1⟩
  | cons e es ih =>
    intro v h0 h1 h
    have he := h e List.mem_cons_self
    simp only [deepFold]
    refine ih ?_ ?_ (fun x hx => h x (List.mem_cons_of_mem _ hx)) <;> split <;> omega
theorem longFold_eq {dp dq : List Int} : ∀ {es : List Eg} {v : Int}, 0 ≤ v → (∀ e ∈ es, 0 ≤ rd dp e.f1 ∧ rd dq e.f1 = rd dp e.f1) → longFold dq v es = deepFold dp v es := by
  intro es
  induction es with
  | nil => intro v _ _; rfl
  | cons e es ih =>
    intro v h0 h
    have he := h e List.mem_cons_self
    simp only [longFold, deepFold]
    rw [he.2, if_pos he.1]
    have : mx v (rd dp e.f1 + 1) = if rd dp e.f1 + 1 > v then rd dp e.f1 + 1 else v := by
      unfold mx
      repeat' split
      all_goals omega
    rw [this]
    refine ih ?_ (fun x hx => h x (List.mem_cons_of_mem _ hx))
    split <;> omega
/-- What the two ways tell of each state, from the last one on. -/
theorem long_deep (m : List St) : ∀ (i : Nat) (dp dq : List Int), i ≤ m.length → dp.length = m.length → dq.length = m.length → (∀ j : Nat, i < m.length → j < i → rd dp j = 0) → (∀ j : Nat, j < i → rd dp j = 0) →
    (∀ j : Nat, 0 < j → i ≤ j → j < m.length → 0 ≤ rd dp j ∧ rd dq j = rd dp j) → (i = 0 → (decide (rd dq 0 ≤ 12)) = decide (rd dp 0 ≤ 12)) →
    longGo m i dq = (allOk m i && decide (rd (deepGo m i dp) 0 ≤ 12)) := by
  intro i
  induction i with
  | zero =>
    intro dp dq _ _ _ _ _ _ h0
    simp only [longGo, allOk, deepGo, Bool.true_and]
    exact h0 rfl
  | succ i ih =>
    intro dp dq hi hp hq _ hz hr _
    simp only [longGo, allOk, deepGo]
    cases e : stOk m i with
    | false => simp
    | true =>
      rw [Bool.true_and, Bool.true_and]
      simp only [stOk, Bool.and_eq_true, Bool.or_eq_true, decide_eq_true_eq] at e
      have hm := edges_mem e.1
      have he : ∀ x ∈ (rd_T66 m i).f1, 0 ≤ rd dp x.f1 ∧ rd dq x.f1 = rd dp x.f1 := by
        intro x hx
        obtain ⟨_, _, g3, g4, _⟩ := hm x hx
        have := hr x.f1.toNat (by omega) (by omega) (by omega)
        rw [show ((x.f1.toNat : Nat) : Int) = x.f1 from by omega] at this
        exact this
      have hz0 : rd dp (i : Int) = 0 := hz i (by omega)
      refine Eq.trans ?_ (congrArg (fun v => allOk m i && decide (rd (deepGo m i (dp.set i (deepFold dp v (rd_T66 m i).f1))) 0 ≤ 12)) hz0.symm)
      have hset (xs : List Int) (v : Int) (hl : xs.length = m.length) (j : Nat) (hj : j < m.length) : rd (xs.set i v) (j : Int) = if j = i then v else rd xs j := by
        by_cases c : j = i
        · rw [if_pos c, c]
          have := rd_set_eq xs (i : Int) v (by omega) (by omega)
          simpa using this
        · rw [if_neg c]
          have := rd_set_ne xs (i : Int) (j : Int) v (by omega) (by omega) (by omega)
          simpa using this
      have hd := deepFold_bounds (dp := dp) (b := 1000000000000 + deepFold dp 0 (rd_T66 m i).f1 + (rd_T66 m i).f1.foldl (fun a x => a + (if 0 ≤ rd dp x.f1 then rd dp x.f1 else 0)) 0) (es := (rd_T66 m i).f1) (v := 0)
      have h0d : 0 ≤ deepFold dp 0 (rd_T66 m i).f1 := by
        have key : ∀ (es : List Eg) (v : Int), 0 ≤ v → 0 ≤ deepFold dp v es := by
          intro es
          induction es with
          | nil => intro v h; exact h
          | cons x es ih2 =>
            intro v h
            simp only [deepFold]
            exact ih2 _ (by split <;> omega)
        exact key _ 0 (by omega)
      clear hd
      have hlong : (if (rd_T66 m i).f0 = true then longFold dq 0 (rd_T66 m i).f1 = deepFold dp 0 (rd_T66 m i).f1 else ((rd_T66 m i).f1 = [] ∧ i = 0) ∨ longFold dq (-1) (rd_T66 m i).f1 = deepFold dp 0 (rd_T66 m i).f1) := by
        split
        · exact longFold_eq (by omega) he
        · rename_i hend
          cases ees : (rd_T66 m i).f1 with
          | nil =>
            left
            refine ⟨rfl, ?_⟩
            rcases e.2 with (h | h) | h
            · omega
            · exact absurd h hend
            · rw [ees] at h
              simp at h
          | cons x es =>
            right
            rw [ees] at he
            have hx := he x List.mem_cons_self
            simp only [longFold, deepFold]
            rw [hx.2, if_pos hx.1]
            rw [show mx (-1) (rd dp x.f1 + 1) = rd dp x.f1 + 1 from by unfold mx; rw [if_pos (by omega)], if_pos (by omega)]
            exact longFold_eq (by omega) (fun y hy => he y (List.mem_cons_of_mem _ hy))
      refine ih _ _ (by omega) (by simpa using hp) (by simpa using hq) ?_ ?_ ?_ ?_
      · intro j _ hj
        rw [hset dp _ hp j (by omega), if_neg (by omega)]
        exact hz j (by omega)
      · intro j hj
        rw [hset dp _ hp j (by omega), if_neg (by omega)]
        exact hz j (by omega)
      · intro j hj0 hij hj
        rw [hset dp _ hp j hj, hset dq _ hq j hj]
        by_cases c : j = i
        · rw [if_pos c, if_pos c]
          refine ⟨h0d, ?_⟩
          by_cases ce : (rd_T66 m i).f0 = true
          · rw [if_pos ce] at hlong ⊢
            exact hlong
          · rw [if_neg ce] at hlong ⊢
            rcases hlong with h | h
            · omega
            · exact h
        · rw [if_neg c, if_neg c]
          exact hr j hj0 (by omega) hj
      · intro hi0
        subst hi0
        have h1 := hset dp (deepFold dp 0 (rd_T66 m 0).f1) hp 0 (by omega)
        have h2 := hset dq (longFold dq (if (rd_T66 m 0).f0 = true then 0 else -1) (rd_T66 m 0).f1) hq 0 (by omega)
        rw [if_pos rfl] at h1 h2
        have h1' : rd (dp.set 0 (deepFold dp 0 (rd_T66 m 0).f1)) 0 = deepFold dp 0 (rd_T66 m 0).f1 := h1
        have h2' : rd (dq.set 0 (longFold dq (if (rd_T66 m 0).f0 = true then 0 else -1) (rd_T66 m 0).f1)) 0 = longFold dq (if (rd_T66 m 0).f0 = true then 0 else -1) (rd_T66 m 0).f1 := h2
        refine (congrArg (fun z => decide (z ≤ 12)) h2').trans (Eq.trans ?_ (congrArg (fun z => decide (z ≤ 12)) h1').symm)
        have hlong' := hlong
        by_cases ce : (rd_T66 m ((0 : Nat) : Int)).f0 = true
        · rw [if_pos ce] at hlong'
          have : longFold dq (if (rd_T66 m 0).f0 = true then 0 else -1) (rd_T66 m 0).f1 = deepFold dp 0 (rd_T66 m 0).f1 := by
            rw [if_pos (show (rd_T66 m 0).f0 = true from ce)]
            exact hlong'
          rw [this]
        · rw [if_neg ce] at hlong'
          have e1 : (if (rd_T66 m 0).f0 = true then (0 : Int) else -1) = -1 := if_neg ce
          rw [e1]
          rcases hlong' with h | h
          · have h' : (rd_T66 m 0).f1 = [] := h.1
            rw [h']
            simp [longFold, deepFold]
          · have h' : longFold dq (-1) (rd_T66 m 0).f1 = deepFold dp 0 (rd_T66 m 0).f1 := h
            rw [h']
theorem longGo_ok (m : List St) (h : 1 ≤ m.length) : longGo m m.length (List.replicate m.length 0) = (allOk m m.length && decide (rd (deepGo m m.length (List.replicate m.length 0)) 0 ≤ 12)) := by
  refine long_deep m m.length _ _ (Nat.le_refl _) (by simp) (by simp) (fun j hj _ => absurd hj (by omega)) (fun j hj => rd_replicate _ _ _ (by omega) (by omega)) (fun j _ h1 h2 => absurd h2 (by omega)) (fun h0 => by omega)
theorem in_spec (n a b : Int) : spec_l1In.f n a b = some (decide (a ≤ n) && decide (n ≤ b)) := by
  unfold spec_l1In.f
  by_cases c : n ≥ a
  · rw [if_pos c]; simp [c]
  · rw [if_neg c]; simp; omega
theorem stAt_small {m : List St} (hs : ∀ s ∈ m, s.f1.length ≤ 1048576) (i : Int) : (rd_T66 m i).f1.length ≤ 1048576 := by
  unfold rd_T66
  rw [List.getD_eq_getElem?_getD]
  by_cases c : i.toNat < m.length
  · rw [List.getElem?_eq_getElem c]
    exact hs _ (List.getElem_mem c)
  · rw [List.getElem?_eq_none (by omega)]
    simp [z66]
theorem edge_last {es : List Eg} (k : Int) (h0 : 0 ≤ k) (h : k = es.length) : es.drop k.toNat = [] := List.drop_eq_nil_of_le (by omega)
theorem prev_next (es : List Eg) (k : Int) (h0 : 0 ≤ k) : prevAt es (k + 1) = (rd_T68 es k).f0 := by
  unfold prevAt
  rw [if_neg (by omega), show k + 1 - 1 = k from by omega]
/-- The check of one state's edges, from place k on (the reference). -/
theorem ok_spec_edges (m : List St) (hm : m.length ≤ 1048576) (hs : ∀ s ∈ m, s.f1.length ≤ 1048576) (i : Nat) (hi : i < m.length) {r : Bool} (d : Nat) : ∀ k : Int, 0 ≤ k → (k + d : Int) = (rd_T66 m i).f1.length →
    (edgesFrom m.length i (prevAt (rd_T66 m i).f1 k) ((rd_T66 m i).f1.drop k.toNat) = false → r = false) →
    (edgesFrom m.length i (prevAt (rd_T66 m i).f1 k) ((rd_T66 m i).f1.drop k.toNat) = true → Ev (fun n => spec_MachineOk.l1 n m (i : Int) ((rd_T66 m i).f1.length : Int)) r) → Ev (fun n => spec_MachineOk.l1 n m (i : Int) k) r := by
  have hz := stAt_small hs (i : Int)
  induction d with
  | zero =>
    intro k h0 hk _ yes
    rw [edge_last k h0 (by omega)] at yes
    obtain rfl : k = ((rd_T66 m i).f1.length : Int) := by omega
    exact yes rfl
  | succ d ih =>
    intro k h0 hk no yes
    have hlt : k < ((rd_T66 m i).f1.length : Int) := by omega
    rw [eg_drop _ k h0 hlt] at no yes
    have ihk := ih (k + 1) (by omega) (by omega)
    rw [prev_next _ k h0] at ihk
    simp only [edgesFrom] at no yes
    refine Ev.step (fun n => spec_MachineOk.l1.eq_2 _ _ _ _) (evPos (by omega) (evPos (by omega) (evPos hlt (evPos h0 (evCall (in_spec _ _ _) ?_)))))
    cases c1 : (decide (97 ≤ (rd_T68 (rd_T66 m i).f1 k).f0) && decide ((rd_T68 (rd_T66 m i).f1 k).f0 ≤ 122)) with
    | false =>
      rw [c1] at no
      exact evNeg (by simp) (evTo (Ev.now _) (no (by simp)).symm)
    | true =>
      rw [c1] at no yes
      refine evPos rfl (evCall (in_spec _ _ _) ?_)
      rw [w64 (n := (i : Int) + 1) (by omega) (by omega), w64 (n := (m.length : Int) - 1) (by omega) (by omega)]
      cases c2 : (decide ((i : Int) + 1 ≤ (rd_T68 (rd_T66 m i).f1 k).f1) && decide ((rd_T68 (rd_T66 m i).f1 k).f1 ≤ (m.length : Int) - 1)) with
      | false =>
        rw [c2] at no
        exact evNeg (by simp) (evTo (Ev.now _) (no (by simp)).symm)
      | true =>
        rw [c2] at no yes
        refine evPos rfl ?_
        rw [w64 (n := k + 1) (by omega) (by omega)]
        by_cases c3 : k > 0
        · rw [w64 (n := k - 1) (by omega) (by omega)]
          have hp : prevAt (rd_T66 m i).f1 k = (rd_T68 (rd_T66 m i).f1 (k - 1)).f0 := by
            unfold prevAt
            rw [if_neg (by omega)]
          rw [hp] at no yes
          refine evPos c3 (evPos (by omega) (evPos (by omega) ?_))
          by_cases c4 : (rd_T68 (rd_T66 m i).f1 (k - 1)).f0 ≥ (rd_T68 (rd_T66 m i).f1 k).f0
          · exact evPos c4 (evTo (Ev.now _) (no (by rw [decide_eq_false (by omega)]; simp)).symm)
          · rw [decide_eq_true (by omega)] at no yes
            simp only [Bool.true_and] at no yes
            exact evNeg c4 (ihk no yes)
        · have hp : prevAt (rd_T66 m i).f1 k = 0 := by
            unfold prevAt
            rw [if_pos (by omega)]
          simp only [Bool.and_eq_true, decide_eq_true_eq] at c1
          rw [hp, decide_eq_true (by omega)] at no yes
          simp only [Bool.true_and] at no yes
          exact evNeg c3 (ihk no yes)
theorem allOk_split (m : List St) (i : Nat) : ∀ n, i < n → allOk m n = true → stOk m i = true := fun n hi h => allOk_at h i hi
theorem ok_spec_loop (m : List St) (hm : m.length ≤ 1048576) (hs : ∀ s ∈ m, s.f1.length ≤ 1048576) {r : Bool} (no : allOk m m.length = false → r = false)
    (yes : allOk m m.length = true → Ev (fun n => (spec_l1In.f (m.length : Int) 1 400).bind fun t163 => (if t163 = true then ((spec_l3Deep.f n m).bind fun t164 => (some (decide (t164 ≤ 12)))) else (some false))) r)
    (d : Nat) : ∀ i : Nat, i + d = m.length → (∀ j : Nat, j < i → stOk m j = true) → Ev (fun n => spec_MachineOk.l0 n m (i : Int)) r := by
  induction d with
  | zero =>
    intro i hi h
    exact Ev.step (fun n => spec_MachineOk.l0.eq_2 _ _ _) (evNeg (by omega) (yes (allOk_of (fun j hj => h j (by omega)))))
  | succ d ih =>
    intro i hi h
    have bad : stOk m i = false → r = false := by
      intro hb
      refine no ?_
      cases e : allOk m m.length with
      | false => rfl
      | true =>
        have := allOk_at e i (by omega)
        rw [hb] at this
        cases this
    have hz := stAt_small hs (i : Int)
    refine Ev.step (fun n => spec_MachineOk.l0.eq_2 _ _ _) (evPos (by omega) (ok_spec_edges m hm hs i (by omega) (rd_T66 m i).f1.length 0 (by omega) (by omega) (fun hf => bad ?_) (fun ht => ?_)))
    · have hf' : edgesFrom m.length i 0 (rd_T66 m i).f1 = false := hf
      simp [stOk, hf']
    · have ht' : edgesFrom m.length i 0 (rd_T66 m i).f1 = true := ht
      have good : stOk m i = true → Ev (fun n => spec_MachineOk.l0 n m (wrap64 ((i : Int) + 1))) r := by
        intro hg
        rw [w64 (by omega) (by omega)]
        refine ih (i + 1) (by omega) (fun j hj => ?_)
        by_cases c : j = i
        · rw [c]; exact hg
        · exact h j (by omega)
      refine Ev.step (fun n => spec_MachineOk.l1.eq_2 _ _ _ _) (evPos (by omega) (evPos (by omega) (evNeg (by omega) ?_)))
      by_cases c : (i : Int) > 0
      · refine evPos c ?_
        by_cases c2 : (rd_T66 m i).f0 = true
        · exact evPos c2 (good (by simp [stOk, ht', c2]))
        · refine evNeg c2 ?_
          by_cases c3 : ((rd_T66 m i).f1.length : Int) = 0
          · refine evPos c3 (evTo (Ev.now _) (bad ?_).symm)
            have hnil : (rd_T66 m i).f1 = [] := List.length_eq_zero_iff.1 (by omega)
            simp [stOk, c2, hnil]
            omega
          · refine evNeg c3 (good ?_)
            have hne : (rd_T66 m i).f1 ≠ [] := fun h => c3 (by rw [h]; rfl)
            simp [stOk, ht', hne]
      · exact evNeg c (good (by simp [stOk, ht']; omega))
/-- The reference's depths. -/
theorem deep_bounds {m : List St} {i : Nat} {dp : List Int} (hi : i < m.length) (hok : stOk m i = true) (hl : dp.length = m.length) (hz : rd dp (i : Int) = 0)
    (hb : ∀ j : Nat, i < j → j < m.length → 0 ≤ rd dp j ∧ rd dp j ≤ (m.length : Int) - j) :
    (∀ e ∈ (rd_T66 m i).f1, 0 ≤ e.f1 ∧ e.f1 < m.length ∧ (i : Int) < e.f1 ∧ 0 ≤ rd dp e.f1 ∧ rd dp e.f1 + 1 ≤ (m.length : Int) - i) := by
  intro e he
  simp only [stOk, Bool.and_eq_true] at hok
  obtain ⟨_, _, g3, g4, _⟩ := edges_mem hok.1 e he
  have := hb e.f1.toNat (by omega) (by omega)
  rw [show ((e.f1.toNat : Nat) : Int) = e.f1 from by omega] at this
  exact ⟨by omega, by omega, by omega, by omega, by omega⟩
theorem deep_edges (m : List St) (hm : m.length ≤ 400) (i : Nat) (hi : i < m.length) {r : Int} (es : List Eg) : ∀ (pre : List Eg) (dp : List Int), (rd_T66 m i).f1 = pre ++ es → (rd_T66 m i).f1.length ≤ 1048576 → dp.length = m.length →
    0 ≤ rd dp (i : Int) → rd dp (i : Int) ≤ 400 → (∀ e ∈ es, 0 ≤ e.f1 ∧ e.f1 < m.length ∧ (i : Int) < e.f1 ∧ 0 ≤ rd dp e.f1 ∧ rd dp e.f1 + 1 ≤ 400) →
    (Ev (fun n => spec_l3Deep.l0 n m (dp.set i (deepFold dp (rd dp (i : Int)) es)) ((i : Int) - 1)) r) → Ev (fun n => spec_l3Deep.l1 n m dp (i : Int) (pre.length : Int)) r := by
  induction es with
  | nil =>
    intro pre dp hp hs hl hv hv2 _ next
    rw [List.append_nil] at hp
    refine Ev.step (fun n => spec_l3Deep.l1.eq_2 _ _ _ _ _) (evPos (by omega) (evPos (by omega) (evNeg (by rw [← hp]; exact Int.lt_irrefl _) ?_)))
    rw [w64 (by omega) (by omega)]
    have e : dp.set i (rd dp (i : Int)) = dp := by
      refine List.ext_getElem (by simp) (fun j h1 h2 => ?_)
      by_cases c : i = j
      · subst c
        simp [rd, List.getD_eq_getElem?_getD, h2]
      · simp [List.getElem_set_ne c]
    simp only [deepFold] at next
    rw [e] at next
    exact next
  | cons x es ih =>
    intro pre dp hp hs hl hv hv2 he next
    have hx := he x List.mem_cons_self
    have hlen : (rd_T66 m i).f1.length = pre.length + (es.length + 1) := by rw [hp]; simp
    have hat : rd_T68 (rd_T66 m i).f1 (pre.length : Int) = x := by
      simp [rd_T68, hp, List.getD_eq_getElem?_getD]
    have hp' : (rd_T66 m i).f1 = (pre ++ [x]) ++ es := by rw [hp]; simp
    have hpl : ((pre ++ [x]).length : Int) = (pre.length : Int) + 1 := by simp
    refine Ev.step (fun n => spec_l3Deep.l1.eq_2 _ _ _ _ _) (evPos (by omega) (evPos (by omega) (evPos (by omega) (evPos (by omega) ?_))))
    have hat' : rd_T68 (rd_T66 m (i : Int)).f1 (pre.length : Int) = x := hat
    rw [hat', w64 (n := rd dp x.f1 + 1) (by omega) (by omega), w64 (n := (pre.length : Int) + 1) (by omega) (by omega), ← hpl]
    refine evPos (by omega) (evPos (by omega) (evPos (by omega) ?_))
    have same (v : Int) (y : Eg) (hy : y ∈ es) : rd (dp.set (i : Int).toNat v) y.f1 = rd dp y.f1 := by
      have := he y (List.mem_cons_of_mem _ hy)
      exact rd_set_ne dp (i : Int) y.f1 v (by omega) (by omega) (by omega)
    have foldsame (v : Int) : ∀ (l : List Eg) (u : Int), (∀ y ∈ l, y ∈ es) → deepFold (dp.set (i : Int).toNat v) u l = deepFold dp u l := by
      intro l
      induction l with
      | nil => intro u _; rfl
      | cons y l ihl =>
        intro u hy
        simp only [deepFold]
        rw [same v y (hy y List.mem_cons_self), ihl _ (fun z hz => hy z (List.mem_cons_of_mem _ hz))]
    simp only [deepFold] at next
    by_cases c : rd dp x.f1 + 1 > rd dp (i : Int)
    · rw [if_pos c] at next
      have hset : rd (dp.set (i : Int).toNat (rd dp x.f1 + 1)) (i : Int) = rd dp x.f1 + 1 := rd_set_eq dp (i : Int) _ (by omega) (by omega)
      refine evPos c (ih (pre ++ [x]) _ hp' hs (by simpa using hl) (by rw [hset]; omega) (by rw [hset]; omega) (fun y hy => ?_) ?_)
      · have := he y (List.mem_cons_of_mem _ hy)
        rw [same _ y hy]
        exact this
      · rw [hset, foldsame _ es _ (fun y hy => hy), Int.toNat_natCast, List.set_set]
        exact next
    · rw [if_neg c] at next
      exact evNeg c (ih (pre ++ [x]) dp hp' hs hl hv hv2 (fun y hy => he y (List.mem_cons_of_mem _ hy)) next)
theorem deep_loop (m : List St) (hm : m.length ≤ 400) (h1 : 1 ≤ m.length) (hs : ∀ s ∈ m, s.f1.length ≤ 1048576) (hok : allOk m m.length = true) (i : Nat) : ∀ dp : List Int, i ≤ m.length → dp.length = m.length → (∀ j : Nat, j < i → rd dp j = 0) →
    (∀ j : Nat, i ≤ j → j < m.length → 0 ≤ rd dp j ∧ rd dp j ≤ (m.length : Int) - j) → Ev (fun n => spec_l3Deep.l0 n m dp ((i : Int) - 1)) (rd (deepGo m i dp) 0) := by
  induction i with
  | zero =>
    intro dp _ hl _ _
    exact Ev.step (fun n => spec_l3Deep.l0.eq_2 _ _ _ _) (evNeg (by omega) (evPos (by omega) (Ev.now _)))
  | succ i ih =>
    intro dp hi hl hz hb
    have hst := allOk_at hok i (by omega)
    have hz0 := hz i (by omega)
    have hbd := deep_bounds (by omega) hst hl hz0 (fun j h1 h2 => hb j (by omega) h2)
    have hfb := deepFold_bounds (dp := dp) (b := (m.length : Int) - i) (es := (rd_T66 m i).f1) (v := 0) (by omega) (by omega) (fun e he => by have := hbd e he; omega)
    refine Ev.step (fun n => spec_l3Deep.l0.eq_2 _ _ _ _) (evPos (by omega) ?_)
    rw [show (((i + 1 : Nat) : Int) - 1) = (i : Int) from by omega]
    refine deep_edges m hm i (by omega) (rd_T66 m i).f1 [] dp rfl (stAt_small hs _) hl (by omega) (by omega) (fun e he => by have := hbd e he; omega) ?_
    rw [hz0]
    simp only [deepGo]
    rw [hz0]
    have hset (j : Nat) (hj : j < m.length) : rd (dp.set i (deepFold dp 0 (rd_T66 m i).f1)) (j : Int) = if j = i then deepFold dp 0 (rd_T66 m i).f1 else rd dp j := by
      by_cases c : j = i
      · rw [if_pos c, c]
        have := rd_set_eq dp (i : Int) (deepFold dp 0 (rd_T66 m i).f1) (by omega) (by omega)
        simpa using this
      · rw [if_neg c]
        have := rd_set_ne dp (i : Int) (j : Int) (deepFold dp 0 (rd_T66 m i).f1) (by omega) (by omega) (by omega)
        simpa using this
    refine ih _ (by omega) (by simpa using hl) (fun j hj => ?_) (fun j h1 h2 => ?_)
    · rw [hset j (by omega), if_neg (by omega)]
      exact hz j (by omega)
    · rw [hset j h2]
      by_cases c : j = i
      · rw [if_pos c]
        subst c
        exact hfb
      · rw [if_neg c]
        exact hb j (by omega) h2
theorem deep_spec (m : List St) (hm : m.length ≤ 400) (h1 : 1 ≤ m.length) (hs : ∀ s ∈ m, s.f1.length ≤ 1048576) (hok : allOk m m.length = true) : Ev (fun n => spec_l3Deep.f n m) (rd (deepGo m m.length (List.replicate m.length 0)) 0) := by
  unfold spec_l3Deep.f
  refine evPos (by omega) (evPos (by omega) ?_)
  rw [w64 (by omega) (by omega)]
  exact deep_loop m hm h1 hs hok m.length _ (Nat.le_refl _) (by simp) (fun j hj => rd_replicate _ _ _ (by omega) (by omega)) (fun j h1 h2 => absurd h2 (by omega))
theorem machOk_spec (m : List St) (hm : m.length ≤ 1048576) (hs : ∀ s ∈ m, s.f1.length ≤ 1048576) : Ev (fun n => spec_MachineOk.f n m) (machOk m) := by
  refine ok_spec_loop m hm hs (fun h => by simp [machOk, h]) (fun h => ?_) m.length 0 (by omega) (fun j hj => absurd hj (by omega))
  refine evCall (in_spec _ _ _) ?_
  by_cases c : (1 ≤ (m.length : Int) ∧ (m.length : Int) ≤ 400)
  · refine evPos (by simp; omega) (Ev.bind (deep_spec m (by omega) (by omega) hs h) (evTo (Ev.now _) ?_))
    simp only [machOk, h]
    rw [decide_eq_true (show 1 ≤ m.length from by omega), decide_eq_true (show m.length ≤ 400 from by omega)]
    simp
  · refine evNeg (by simp; omega) (evTo (Ev.now _) ?_)
    cases e : machOk m with
    | false => rfl
    | true =>
      simp only [machOk, Bool.and_eq_true, decide_eq_true_eq] at e
      omega
theorem within_impl (n a b : Int) : impl_within.f n a b = some (decide (a ≤ n) && decide (n ≤ b)) := by
  unfold impl_within.f
  by_cases c : n ≥ a
  · rw [if_pos c]; simp [c]
  · rw [if_neg c]; simp; omega
theorem longFold_bounds {dp : List Int} {b : Int} : ∀ {es : List Eg} {v : Int}, -1 ≤ v → v ≤ b → (∀ e ∈ es, rd dp e.f1 + 1 ≤ b) → -1 ≤ longFold dp v es ∧ longFold dp v es ≤ b := by
  intro es
  induction es with
  | nil => intro v h0 h1 _; exact ⟨h0, h1⟩
  | cons e es ih =>
    intro v h0 h1 h
    have he := h e List.mem_cons_self
    simp only [longFold]
    refine ih ?_ ?_ (fun x hx => h x (List.mem_cons_of_mem _ hx)) <;> unfold mx <;> repeat' split
    all_goals omega
theorem longFold_same {dp dq : List Int} : ∀ {es : List Eg} {v : Int}, (∀ e ∈ es, rd dq e.f1 = rd dp e.f1) → longFold dq v es = longFold dp v es := by
  intro es
  induction es with
  | nil => intro v _; rfl
  | cons e es ih =>
    intro v h
    simp only [longFold]
    rw [h e List.mem_cons_self]
    exact ih (fun x hx => h x (List.mem_cons_of_mem _ hx))
theorem ok_impl_edges (m : List St) (hm : m.length ≤ 400) (i : Nat) (hi : i < m.length) (hs : (rd_T66 m i).f1.length ≤ 1048576) {r ends : Bool} (es : List Eg) : ∀ (pre : List Eg) (dp : List Int), (rd_T66 m i).f1 = pre ++ es → dp.length = m.length →
    -1 ≤ rd dp (i : Int) → rd dp (i : Int) ≤ 400 → (∀ j : Nat, i < j → j < m.length → -1 ≤ rd dp j ∧ rd dp j + 1 ≤ 400) →
    (edgesFrom m.length i (prevAt (rd_T66 m i).f1 pre.length) es = false → r = false) →
    (edgesFrom m.length i (prevAt (rd_T66 m i).f1 pre.length) es = true → Ev (fun n => impl_MachineOk.l0 n m (dp.set i (longFold dp (rd dp (i : Int)) es)) ((i : Int) - 1)) r) →
    Ev (fun n => impl_MachineOk.l1 n m dp (i : Int) (rd_T66 m i).f1 ((rd_T66 m i).f1.length : Int) (pre.length : Int) ends (rd_T66 m i).f1) r := by
  induction es with
  | nil =>
    intro pre dp hp hl hv hv2 _ _ yes
    rw [List.append_nil] at hp
    refine Ev.step (fun n => impl_MachineOk.l1.eq_2 _ _ _ _ _ _ _ _ _) (evNeg (by rw [← hp]; exact Int.lt_irrefl _) ?_)
    rw [w64 (by omega) (by omega)]
    have e : dp.set i (rd dp (i : Int)) = dp := by
      refine List.ext_getElem (by simp) (fun j h1 h2 => ?_)
      by_cases c : i = j
      · subst c
        simp [rd, List.getD_eq_getElem?_getD, h2]
      · simp [List.getElem_set_ne c]
    have next := yes rfl
    simp only [longFold] at next
    rw [e] at next
    exact next
  | cons x es ih =>
    intro pre dp hp hl hv hv2 hb no yes
    have hlen : (rd_T66 m i).f1.length = pre.length + (es.length + 1) := by rw [hp]; simp
    have hat : rd_T68 (rd_T66 m i).f1 (pre.length : Int) = x := by
      simp [rd_T68, hp, List.getD_eq_getElem?_getD]
    have hat' : rd_T68 (rd_T66 m i).f1 (pre.length : Int) = x := hat
    have hp' : (rd_T66 m i).f1 = (pre ++ [x]) ++ es := by rw [hp]; simp
    have hpl : ((pre ++ [x]).length : Int) = (pre.length : Int) + 1 := by simp
    have hpn : prevAt (rd_T66 m i).f1 ((pre ++ [x]).length : Int) = x.f0 := by
      rw [hpl, prev_next _ _ (by omega), hat]
    have ihx (dq : List Int) := ih (pre ++ [x]) dq hp'
    rw [hpn] at ihx
    simp only [edgesFrom] at no yes
    refine Ev.step (fun n => impl_MachineOk.l1.eq_2 _ _ _ _ _ _ _ _ _) (evPos (by omega) (evPos (by omega) (evPos (by omega) ?_)))
    rw [hat']
    refine evCall (within_impl _ _ _) ?_
    have stop : r = false → Ev (fun n => impl_MachineOk.j4 n m dp (i : Int) (rd_T66 m i).f1 ((rd_T66 m i).f1.length : Int) (pre.length : Int) true ends (rd_T66 m i).f1 x.f0 x.f1) r := fun h => Ev.step (fun n => impl_MachineOk.j4.eq_2 _ _ _ _ _ _ _ _ _ _ _ _) (evPos rfl (evTo (Ev.now _) h.symm))
    cases c1 : (decide (97 ≤ x.f0) && decide (x.f0 ≤ 122)) with
    | false =>
      rw [c1] at no
      exact evNeg (by simp) (stop (no (by simp)))
    | true =>
      rw [c1] at no yes
      refine evPos rfl ?_
      rw [w64 (n := (i : Int) + 1) (by omega) (by omega), w64 (n := (m.length : Int) - 1) (by omega) (by omega)]
      have last : (decide (prevAt (rd_T66 m i).f1 (pre.length : Int) < x.f0)) = true → Ev (fun n => (impl_within.f x.f1 ((i : Int) + 1) ((m.length : Int) - 1)).bind fun t => impl_MachineOk.j4 n m dp (i : Int) (rd_T66 m i).f1 ((rd_T66 m i).f1.length : Int) (pre.length : Int) (!t) ends (rd_T66 m i).f1 x.f0 x.f1) r := by
        intro c3
        rw [c3] at no yes
        refine evCall (within_impl _ _ _) ?_
        cases c2 : (decide ((i : Int) + 1 ≤ x.f1) && decide (x.f1 ≤ (m.length : Int) - 1)) with
        | false =>
          rw [c2] at no
          exact stop (no (by simp))
        | true =>
          rw [c2] at no yes
          simp only [Bool.true_and] at no yes
          simp only [Bool.and_eq_true, decide_eq_true_eq] at c2
          have hx := hb x.f1.toNat (by omega) (by omega)
          rw [show ((x.f1.toNat : Nat) : Int) = x.f1 from by omega] at hx
          refine Ev.step (fun n => impl_MachineOk.j4.eq_2 _ _ _ _ _ _ _ _ _ _ _ _) (evNeg (by simp) (evPos (by omega) (evPos (by omega) ?_)))
          rw [w64 (n := (pre.length : Int) + 1) (by omega) (by omega), ← hpl]
          by_cases c4 : rd dp x.f1 ≥ 0
          · rw [w64 (n := rd dp x.f1 + 1) (by omega) (by omega)]
            have hmx : mx (rd dp (i : Int)) (rd dp x.f1 + 1) ≤ 400 ∧ -1 ≤ mx (rd dp (i : Int)) (rd dp x.f1 + 1) := by unfold mx; split <;> omega
            have hset : rd (dp.set (i : Int).toNat (mx (rd dp (i : Int)) (rd dp x.f1 + 1))) (i : Int) = mx (rd dp (i : Int)) (rd dp x.f1 + 1) := rd_set_eq dp (i : Int) _ (by omega) (by omega)
            refine evPos c4 (evPos (by omega) (evPos (by omega) (ihx _ (by simpa using hl) (by rw [hset]; omega) (by rw [hset]; omega) (fun j h1 h2 => ?_) no (fun ht => ?_))))
            · have := rd_set_ne dp (i : Int) (j : Int) (mx (rd dp (i : Int)) (rd dp x.f1 + 1)) (by omega) (by omega) (by omega)
              rw [this]
              exact hb j h1 h2
            · have next := yes ht
              simp only [longFold] at next
              rw [if_pos c4] at next
              rw [hset, longFold_same (dp := dp) (fun e he => ?_), Int.toNat_natCast, List.set_set]
              · exact next
              · obtain ⟨_, _, g3, g4, _⟩ := edges_mem ht e he
                exact rd_set_ne dp (i : Int) e.f1 _ (by omega) (by omega) (by omega)
          · refine evNeg c4 (ihx dp hl hv hv2 hb no (fun ht => ?_))
            have next := yes ht
            simp only [longFold] at next
            rw [if_neg c4] at next
            exact next
      by_cases c3 : (pre.length : Int) > 0
      · rw [w64 (n := (pre.length : Int) - 1) (by omega) (by omega)]
        have hpv : prevAt (rd_T66 m i).f1 (pre.length : Int) = (rd_T68 (rd_T66 m i).f1 ((pre.length : Int) - 1)).f0 := by
          unfold prevAt
          rw [if_neg (by omega)]
        refine evPos c3 (evPos (by omega) (evPos (by omega) ?_))
        by_cases c4 : (rd_T68 (rd_T66 m i).f1 ((pre.length : Int) - 1)).f0 ≥ x.f0
        · refine evPos c4 (stop (no ?_))
          rw [hpv, decide_eq_false (show ¬ (rd_T68 (rd_T66 m i).f1 ((pre.length : Int) - 1)).f0 < x.f0 from by omega)]
          simp
        · refine evNeg c4 (last ?_)
          rw [hpv]
          exact decide_eq_true (by omega)
      · refine evNeg c3 (last ?_)
        simp only [Bool.and_eq_true, decide_eq_true_eq] at c1
        unfold prevAt
        rw [if_pos (by omega)]
        exact decide_eq_true (by omega)
theorem ok_impl_loop (m : List St) (hm : m.length ≤ 400) (h1 : 1 ≤ m.length) (hs : ∀ s ∈ m, s.f1.length ≤ 1048576) (i : Nat) : ∀ dp : List Int, i ≤ m.length → dp.length = m.length →
    (∀ j : Nat, i ≤ j → j < m.length → -1 ≤ rd dp j ∧ rd dp j ≤ (m.length : Int) - j) → Ev (fun n => impl_MachineOk.l0 n m dp ((i : Int) - 1)) (longGo m i dp) := by
  induction i with
  | zero =>
    intro dp _ hl _
    exact Ev.step (fun n => impl_MachineOk.l0.eq_2 _ _ _ _) (evNeg (by omega) (evPos (by omega) (Ev.now _)))
  | succ i ih =>
    intro dp hi hl hb
    have hz := stAt_small hs (i : Int)
    refine Ev.step (fun n => impl_MachineOk.l0.eq_2 _ _ _ _) ?_
    rw [show (((i + 1 : Nat) : Int) - 1) = (i : Int) from by omega]
    refine evPos (by omega) (evPos (by omega) (evPos (by omega) ?_))
    have main : (decide ((i : Int) = 0) || (rd_T66 m i).f0 || !(rd_T66 m i).f1.isEmpty) = true → Ev (fun n => impl_MachineOk.j1 n m dp (i : Int) false (rd_T66 m i).f0 (rd_T66 m i).f1) (longGo m (i + 1) dp) := by
      intro hc
      have hst : stOk m i = edgesFrom m.length i 0 (rd_T66 m i).f1 := by
        unfold stOk
        rw [hc, Bool.and_true]
      have run (v : Int) (hv0 : -1 ≤ v) (hv1 : v ≤ 0) (hv : v = if (rd_T66 m i).f0 = true then 0 else -1) : Ev (fun n => impl_MachineOk.l1 n m (dp.set i v) (i : Int) (rd_T66 m i).f1 ((rd_T66 m i).f1.length : Int) 0 (rd_T66 m i).f0 (rd_T66 m i).f1) (longGo m (i + 1) dp) := by
        have hset : rd (dp.set i v) (i : Int) = v := by
          have := rd_set_eq dp (i : Int) v (by omega) (by omega)
          simpa using this
        have hne (j : Int) (h0 : 0 ≤ j) (hj : (i : Int) ≠ j) : rd (dp.set i v) j = rd dp j := by
          have := rd_set_ne dp (i : Int) j v (by omega) h0 hj
          simpa using this
        refine ok_impl_edges m hm i (by omega) hz (rd_T66 m i).f1 [] (dp.set i v) rfl (by simpa using hl) (by rw [hset]; omega) (by rw [hset]; omega) (fun j q1 q2 => ?_) (fun hf => ?_) (fun ht => ?_)
        · rw [hne j (by omega) (by omega)]
          have := hb j (by omega) q2
          omega
        · have hf' : edgesFrom m.length i 0 (rd_T66 m i).f1 = false := hf
          simp only [longGo]
          rw [hst, hf', Bool.false_and]
        · have ht' : edgesFrom m.length i 0 (rd_T66 m i).f1 = true := ht
          have hto (e : Eg) (he : e ∈ (rd_T66 m i).f1) : (i : Int) < e.f1 ∧ e.f1 < m.length := by
            obtain ⟨_, _, g3, g4, _⟩ := edges_mem ht' e he
            omega
          simp only [longGo]
          rw [hst, ht', Bool.true_and, hset, List.set_set, longFold_same (dp := dp) (fun e he => hne e.f1 (by have := hto e he; omega) (by have := hto e he; omega)), ← hv]
          have hfb := longFold_bounds (dp := dp) (b := (m.length : Int) - i) (es := (rd_T66 m i).f1) (v := v) (by omega) (by omega) (fun e he => by
            have q := hto e he
            have := hb e.f1.toNat (by omega) (by omega)
            rw [show ((e.f1.toNat : Nat) : Int) = e.f1 from by omega] at this
            omega)
          refine ih _ (by omega) (by simpa using hl) (fun j q1 q2 => ?_)
          by_cases c : j = i
          · subst c
            have := rd_set_eq dp (j : Int) (longFold dp v (rd_T66 m j).f1) (by omega) (by omega)
            rw [show (dp.set j (longFold dp v (rd_T66 m j).f1)) = (dp.set (j : Int).toNat (longFold dp v (rd_T66 m j).f1)) from by simp, this]
            exact hfb
          · have := rd_set_ne dp (i : Int) (j : Int) (longFold dp v (rd_T66 m i).f1) (by omega) (by omega) (by omega)
            rw [show (dp.set i (longFold dp v (rd_T66 m i).f1)) = (dp.set (i : Int).toNat (longFold dp v (rd_T66 m i).f1)) from by simp, this]
            exact hb j (by omega) q2
      refine Ev.step (fun n => impl_MachineOk.j1.eq_2 _ _ _ _ _ _ _) (evNeg (by simp) (evPos (by omega) (evPos (by omega) (evCall rfl ?_))))
      rw [Int.toNat_natCast]
      by_cases ce : (rd_T66 m i).f0 = true
      · refine evPos ce (Ev.step (fun n => impl_MachineOk.j2.eq_2 _ _ _ _ _ _) ?_)
        rw [List.set_set]
        exact run 0 (by omega) (by omega) (by rw [if_pos ce])
      · exact evNeg ce (Ev.step (fun n => impl_MachineOk.j2.eq_2 _ _ _ _ _ _) (run (-1) (by omega) (by omega) (by rw [if_neg ce])))
    by_cases c : (i : Int) > 0
    · refine evPos c ?_
      by_cases ce : (rd_T66 m i).f0 = true
      · exact evPos ce (main (by simp [ce]))
      · refine evNeg ce ?_
        by_cases cn : (rd_T66 m i).f1 = []
        · have e1 : ((((rd_T66 m (i : Int)).f1).length : Int) == 0) = true := by
            have : (rd_T66 m (i : Int)).f1 = [] := cn
            rw [this]
            rfl
          rw [e1]
          refine Ev.step (fun n => impl_MachineOk.j1.eq_2 _ _ _ _ _ _ _) (evPos rfl (evTo (Ev.now _) ?_))
          have hf : stOk m i = false := by
            have c' : ¬ i = 0 := by omega
            simp [stOk, ce, cn, c']
          simp [longGo, hf]
        · have hne : ((rd_T66 m i).f1.length : Int) ≠ 0 := fun h => cn (List.length_eq_zero_iff.1 (by omega))
          have e1 : ((((rd_T66 m (i : Int)).f1).length : Int) == 0) = false := beq_eq_false_iff_ne.2 hne
          rw [e1]
          exact main (by simp [cn])
    · exact evNeg c (main (by simp; omega))
theorem machOk_impl (m : List St) (hm : m.length ≤ 1048576) (hs : ∀ s ∈ m, s.f1.length ≤ 1048576) : Ev (fun n => impl_MachineOk.f n m) (machOk m) := by
  unfold impl_MachineOk.f
  refine evCall (within_impl _ _ _) ?_
  by_cases c : (1 ≤ (m.length : Int) ∧ (m.length : Int) ≤ 400)
  · refine evPos (by simp; omega) (evPos (by omega) (evPos (by omega) ?_))
    rw [w64 (by omega) (by omega)]
    refine evTo (ok_impl_loop m (by omega) (by omega) hs m.length _ (Nat.le_refl _) (by simp) (fun j h1 h2 => absurd h2 (by omega))) ?_
    rw [longGo_ok m (by omega)]
    simp only [machOk]
    rw [decide_eq_true (show 1 ≤ m.length from by omega), decide_eq_true (show m.length ≤ 400 from by omega)]
    simp
  · refine evNeg (by simp; omega) (evTo (Ev.now _) ?_)
    cases e : machOk m with
    | false => rfl
    | true =>
      simp only [machOk, Bool.and_eq_true, decide_eq_true_eq] at e
      omega
theorem ok_to {m : List St} {n : Nat} (hok : allOk m m.length = true) (i : Nat) (hi : i < m.length) : ∀ e ∈ (rd_T66 m i).f1, (i : Int) < e.f1 ∧ e.f1 < m.length := by
  intro e he
  have h := allOk_at hok i hi
  simp only [stOk, Bool.and_eq_true] at h
  obtain ⟨_, _, g3, g4, _⟩ := edges_mem h.1 e he
  omega
theorem machOk_facts {m : List St} (h : machOk m = true) : 1 ≤ m.length ∧ m.length ≤ 400 ∧ allOk m m.length = true := by
  simp only [machOk, Bool.and_eq_true, decide_eq_true_eq] at h
  exact ⟨h.1.1.1, h.1.1.2, h.1.2⟩
theorem least_spec (a b : Int) : spec_l1Least.f a b = some (min a b) := by
  unfold spec_l1Least.f
  by_cases c : a < b
  · rw [if_pos c]; congr 1; omega
  · rw [if_neg c]; congr 1; omega
def cntFold (dp : List Int) : Int → List Eg → Int
  | v, [] => v
  | v, e :: es => cntFold dp (mn (v + rd dp e.f1) 1000000000) es
def cntGo (m : List St) : Nat → List Int → List Int
  | 0, dp => dp
  | i + 1, dp => cntGo m i (dp.set i (cntFold dp (if (rd_T66 m i).f0 = true then 1 else rd dp i) (rd_T66 m i).f1))
def cnts (m : List St) : List Int := cntGo m m.length (List.replicate m.length 0)
abbrev cntB (dp : List Int) : Prop := ∀ j : Int, 0 ≤ rd dp j ∧ rd dp j ≤ 1000000000
theorem mn_min (a b : Int) : mn a b = min a b := by
  unfold mn
  split <;> omega
theorem cntB_set {dp : List Int} (h : cntB dp) (i : Nat) (v : Int) (h0 : 0 ≤ v) (h1 : v ≤ 1000000000) : cntB (dp.set i v) := by
  intro j
  have hj := h j
  unfold rd at hj ⊢
  rw [List.getD_eq_getElem?_getD] at hj ⊢
  by_cases c : i = j.toNat
  · by_cases cl : i < dp.length
    · rw [← c]
      simp [cl]
      omega
    · rw [List.getElem?_eq_none (by simp; omega)]
      simp
  · rw [List.getElem?_set_ne c]
    exact hj
theorem cntFold_same {dp dq : List Int} : ∀ {es : List Eg} {v : Int}, (∀ e ∈ es, rd dq e.f1 = rd dp e.f1) → cntFold dq v es = cntFold dp v es := by
  intro es
  induction es with
  | nil => intro v _; rfl
  | cons e es ih =>
    intro v h
    simp only [cntFold]
    rw [h e List.mem_cons_self]
    exact ih (fun x hx => h x (List.mem_cons_of_mem _ hx))
theorem cntFold_bounds {dp : List Int} (hb : cntB dp) : ∀ {es : List Eg} {v : Int}, 0 ≤ v → v ≤ 1000000000 → 0 ≤ cntFold dp v es ∧ cntFold dp v es ≤ 1000000000 := by
  intro es
  induction es with
  | nil => intro v h0 h1; exact ⟨h0, h1⟩
  | cons e es ih =>
    intro v h0 h1
    have he := hb e.f1
    simp only [cntFold]
    rw [mn_min]
    exact ih (by omega) (by omega)
theorem set_self (dp : List Int) (i : Nat) : dp.set i (rd dp (i : Int)) = dp := by
  refine List.ext_getElem (by simp) (fun j h1 h2 => ?_)
  by_cases c : i = j
  · subst c
    simp [rd, List.getD_eq_getElem?_getD, h2]
  · simp [List.getElem_set_ne c]
theorem cnt_spec_edges (m : List St) (hm : m.length ≤ 400) (i : Nat) (hi : i < m.length) (hs : (rd_T66 m i).f1.length ≤ 1048576) (hto : ∀ e ∈ (rd_T66 m i).f1, (i : Int) < e.f1 ∧ e.f1 < m.length) {r : List Int} (es : List Eg) :
    ∀ (pre : List Eg) (dp : List Int), (rd_T66 m i).f1 = pre ++ es → dp.length = m.length → cntB dp → Ev (fun n => spec_l3Counts.l0 n m (dp.set i (cntFold dp (rd dp (i : Int)) es)) ((i : Int) - 1)) r → Ev (fun n => spec_l3Counts.l1 n m dp (i : Int) (pre.length : Int)) r := by
  induction es with
  | nil =>
    intro pre dp hp hl _ next
    rw [List.append_nil] at hp
    refine Ev.step (fun n => spec_l3Counts.l1.eq_2 _ _ _ _ _) (evPos (by omega) (evPos (by omega) (evNeg (by rw [← hp]; exact Int.lt_irrefl _) ?_)))
    rw [w64 (by omega) (by omega)]
    simp only [cntFold] at next
    rw [set_self] at next
    exact next
  | cons x es ih =>
    intro pre dp hp hl hb next
    have hlen : (rd_T66 m i).f1.length = pre.length + (es.length + 1) := by rw [hp]; simp
    have hat : rd_T68 (rd_T66 m i).f1 (pre.length : Int) = x := by simp [rd_T68, hp, List.getD_eq_getElem?_getD]
    have hp' : (rd_T66 m i).f1 = (pre ++ [x]) ++ es := by rw [hp]; simp
    have hpl : ((pre ++ [x]).length : Int) = (pre.length : Int) + 1 := by simp
    have hx := hto x (by rw [hp]; simp)
    have hv := hb (i : Int)
    have hw := hb x.f1
    refine Ev.step (fun n => spec_l3Counts.l1.eq_2 _ _ _ _ _) (evPos (by omega) (evPos (by omega) (evPos (by omega) (evPos (by omega) (evPos (by omega) ?_)))))
    rw [hat]
    refine evPos (by omega) (evPos (by omega) ?_)
    rw [w64 (n := rd dp (i : Int) + rd dp x.f1) (by omega) (by omega)]
    refine evCall (least_spec _ _) ?_
    rw [w64 (n := (pre.length : Int) + 1) (by omega) (by omega), ← hpl]
    have hset : rd (dp.set i (min (rd dp (i : Int) + rd dp x.f1) 1000000000)) (i : Int) = min (rd dp (i : Int) + rd dp x.f1) 1000000000 := by
      have := rd_set_eq dp (i : Int) (min (rd dp (i : Int) + rd dp x.f1) 1000000000) (by omega) (by omega)
      simpa using this
    refine ih (pre ++ [x]) _ hp' (by simpa using hl) (cntB_set hb _ _ (by omega) (by omega)) ?_
    rw [Int.toNat_natCast, hset, List.set_set, cntFold_same (dp := dp) (fun e he => ?_), ← mn_min]
    · exact next
    · have := hto e (by rw [hp]; simp [he])
      have := rd_set_ne dp (i : Int) e.f1 (min (rd dp (i : Int) + rd dp x.f1) 1000000000) (by omega) (by omega) (by omega)
      simpa using this
theorem cnt_impl_edges (m : List St) (hm : m.length ≤ 400) (i : Nat) (hi : i < m.length) (hs : (rd_T66 m i).f1.length ≤ 1048576) (hto : ∀ e ∈ (rd_T66 m i).f1, (i : Int) < e.f1 ∧ e.f1 < m.length) {r : List Int} (es : List Eg) :
    ∀ (pre : List Eg) (dp : List Int), (rd_T66 m i).f1 = pre ++ es → dp.length = m.length → cntB dp → Ev (fun n => impl_counts.l0 n m (dp.set i (cntFold dp (rd dp (i : Int)) es)) ((i : Int) - 1)) r → Ev (fun n => impl_counts.l1 n m dp (i : Int) (rd_T66 m i).f1 ((rd_T66 m i).f1.length : Int) (pre.length : Int)) r := by
  induction es with
  | nil =>
    intro pre dp hp hl _ next
    rw [List.append_nil] at hp
    refine Ev.step (fun n => impl_counts.l1.eq_2 _ _ _ _ _ _ _) (evNeg (by rw [← hp]; exact Int.lt_irrefl _) ?_)
    rw [w64 (by omega) (by omega)]
    simp only [cntFold] at next
    rw [set_self] at next
    exact next
  | cons x es ih =>
    intro pre dp hp hl hb next
    have hlen : (rd_T66 m i).f1.length = pre.length + (es.length + 1) := by rw [hp]; simp
    have hat : rd_T68 (rd_T66 m i).f1 (pre.length : Int) = x := by simp [rd_T68, hp, List.getD_eq_getElem?_getD]
    have hp' : (rd_T66 m i).f1 = (pre ++ [x]) ++ es := by rw [hp]; simp
    have hpl : ((pre ++ [x]).length : Int) = (pre.length : Int) + 1 := by simp
    have hx := hto x (by rw [hp]; simp)
    have hv := hb (i : Int)
    have hw := hb x.f1
    refine Ev.step (fun n => impl_counts.l1.eq_2 _ _ _ _ _ _ _) (evPos (by omega) (evPos (by omega) (evPos (by omega) (evPos (by omega) (evPos (by omega) ?_)))))
    rw [hat]
    refine evPos (by omega) (evPos (by omega) ?_)
    rw [w64 (n := rd dp (i : Int) + rd dp x.f1) (by omega) (by omega), w64 (n := (pre.length : Int) + 1) (by omega) (by omega), ← hpl]
    have hmn : 0 ≤ mn (rd dp (i : Int) + rd dp x.f1) 1000000000 ∧ mn (rd dp (i : Int) + rd dp x.f1) 1000000000 ≤ 1000000000 := by rw [mn_min]; omega
    have hset : rd (dp.set i (mn (rd dp (i : Int) + rd dp x.f1) 1000000000)) (i : Int) = mn (rd dp (i : Int) + rd dp x.f1) 1000000000 := by
      have := rd_set_eq dp (i : Int) (mn (rd dp (i : Int) + rd dp x.f1) 1000000000) (by omega) (by omega)
      simpa using this
    refine ih (pre ++ [x]) _ hp' (by simpa using hl) (cntB_set hb _ _ (by omega) (by omega)) ?_
    rw [Int.toNat_natCast, hset, List.set_set, cntFold_same (dp := dp) (fun e he => ?_)]
    · exact next
    · have := hto e (by rw [hp]; simp [he])
      have := rd_set_ne dp (i : Int) e.f1 (mn (rd dp (i : Int) + rd dp x.f1) 1000000000) (by omega) (by omega) (by omega)
      simpa using this
theorem cntGo_len (m : List St) : ∀ (i : Nat) (dp : List Int), (cntGo m i dp).length = dp.length := by
  intro i
  induction i with
  | zero => intro dp; rfl
  | succ i ih => intro dp; simp only [cntGo]; rw [ih]; simp
theorem cnt_step {m : List St} {i : Nat} {dp : List Int} (hl : dp.length = m.length) (hi : i < m.length) (hto : ∀ e ∈ (rd_T66 m i).f1, (i : Int) < e.f1 ∧ e.f1 < m.length) : (dp.set i 1).set i (cntFold (dp.set i 1) (rd (dp.set i 1) (i : Int)) (rd_T66 m i).f1) = dp.set i (cntFold dp 1 (rd_T66 m i).f1) := by
  have hset : rd (dp.set i 1) (i : Int) = 1 := by
    have := rd_set_eq dp (i : Int) 1 (by omega) (by omega)
    simpa using this
  rw [hset, List.set_set, cntFold_same (dp := dp) (fun e he => ?_)]
  have := hto e he
  have := rd_set_ne dp (i : Int) e.f1 1 (by omega) (by omega) (by omega)
  simpa using this
theorem cnt_spec_loop (m : List St) (hm : m.length ≤ 400) (hs : ∀ s ∈ m, s.f1.length ≤ 1048576) (hok : allOk m m.length = true) (i : Nat) : ∀ dp : List Int, i ≤ m.length → dp.length = m.length → cntB dp → Ev (fun n => spec_l3Counts.l0 n m dp ((i : Int) - 1)) (cntGo m i dp) := by
  induction i with
  | zero =>
    intro dp _ _ _
    exact Ev.step (fun n => spec_l3Counts.l0.eq_2 _ _ _ _) (evNeg (by omega) (Ev.now _))
  | succ i ih =>
    intro dp hi hl hb
    have hto := ok_to (n := 0) hok i (by omega)
    have hz := stAt_small hs (i : Int)
    refine Ev.step (fun n => spec_l3Counts.l0.eq_2 _ _ _ _) ?_
    rw [show (((i + 1 : Nat) : Int) - 1) = (i : Int) from by omega]
    refine evPos (by omega) (evPos (by omega) (evPos (by omega) ?_))
    simp only [cntGo]
    by_cases c : (rd_T66 m i).f0 = true
    · refine evPos c (evPos (by omega) (Ev.step (fun n => spec_l3Counts.j1.eq_2 _ _ _ _) ?_))
      rw [Int.toNat_natCast, if_pos c]
      refine cnt_spec_edges m hm i (by omega) hz hto (rd_T66 m i).f1 [] (dp.set i 1) rfl (by simpa using hl) (cntB_set hb _ _ (by omega) (by omega)) ?_
      rw [cnt_step hl (by omega) hto]
      have hf := cntFold_bounds hb (es := (rd_T66 m i).f1) (v := 1) (by omega) (by omega)
      exact ih _ (by omega) (by simpa using hl) (cntB_set hb _ _ hf.1 hf.2)
    · refine evNeg c (Ev.step (fun n => spec_l3Counts.j1.eq_2 _ _ _ _) ?_)
      rw [if_neg c]
      have hf := cntFold_bounds hb (es := (rd_T66 m i).f1) (v := rd dp (i : Int)) (hb _).1 (hb _).2
      exact cnt_spec_edges m hm i (by omega) hz hto (rd_T66 m i).f1 [] dp rfl hl hb (ih _ (by omega) (by simpa using hl) (cntB_set hb _ _ hf.1 hf.2))
theorem cnt_impl_loop (m : List St) (hm : m.length ≤ 400) (hs : ∀ s ∈ m, s.f1.length ≤ 1048576) (hok : allOk m m.length = true) (i : Nat) : ∀ dp : List Int, i ≤ m.length → dp.length = m.length → cntB dp → Ev (fun n => impl_counts.l0 n m dp ((i : Int) - 1)) (cntGo m i dp) := by
  induction i with
  | zero =>
    intro dp _ _ _
    exact Ev.step (fun n => impl_counts.l0.eq_2 _ _ _ _) (evNeg (by omega) (Ev.now _))
  | succ i ih =>
    intro dp hi hl hb
    have hto := ok_to (n := 0) hok i (by omega)
    have hz := stAt_small hs (i : Int)
    refine Ev.step (fun n => impl_counts.l0.eq_2 _ _ _ _) ?_
    rw [show (((i + 1 : Nat) : Int) - 1) = (i : Int) from by omega]
    refine evPos (by omega) (evPos (by omega) (evPos (by omega) ?_))
    simp only [cntGo]
    by_cases c : (rd_T66 m i).f0 = true
    · refine evPos c (evPos (by omega) (Ev.step (fun n => impl_counts.j1.eq_2 _ _ _ _) (evPos (by omega) (evPos (by omega) ?_))))
      rw [Int.toNat_natCast, if_pos c]
      refine cnt_impl_edges m hm i (by omega) hz hto (rd_T66 m i).f1 [] (dp.set i 1) rfl (by simpa using hl) (cntB_set hb _ _ (by omega) (by omega)) ?_
      rw [cnt_step hl (by omega) hto]
      have hf := cntFold_bounds hb (es := (rd_T66 m i).f1) (v := 1) (by omega) (by omega)
      exact ih _ (by omega) (by simpa using hl) (cntB_set hb _ _ hf.1 hf.2)
    · refine evNeg c (Ev.step (fun n => impl_counts.j1.eq_2 _ _ _ _) (evPos (by omega) (evPos (by omega) ?_)))
      rw [if_neg c]
      have hf := cntFold_bounds hb (es := (rd_T66 m i).f1) (v := rd dp (i : Int)) (hb _).1 (hb _).2
      exact cnt_impl_edges m hm i (by omega) hz hto (rd_T66 m i).f1 [] dp rfl hl hb (ih _ (by omega) (by simpa using hl) (cntB_set hb _ _ hf.1 hf.2))
theorem cntB_zero (n : Nat) : cntB (List.replicate n 0) := by
  intro j
  unfold rd
  rw [List.getD_eq_getElem?_getD, List.getElem?_replicate]
  split <;> simp
theorem cnts_len (m : List St) : (cnts m).length = m.length := by
  unfold cnts
  rw [cntGo_len]
  simp
theorem counts_spec (m : List St) (hs : ∀ s ∈ m, s.f1.length ≤ 1048576) (hok : machOk m = true) : Ev (fun n => spec_l3Counts.f n m) (cnts m) := by
  obtain ⟨h1, h2, h3⟩ := machOk_facts hok
  unfold spec_l3Counts.f
  refine evPos (by omega) (evPos (by omega) ?_)
  rw [w64 (by omega) (by omega)]
  exact cnt_spec_loop m h2 hs h3 m.length _ (Nat.le_refl _) (by simp) (cntB_zero _)
theorem counts_impl (m : List St) (hs : ∀ s ∈ m, s.f1.length ≤ 1048576) (hok : machOk m = true) : Ev (fun n => impl_counts.f n m) (cnts m) := by
  obtain ⟨h1, h2, h3⟩ := machOk_facts hok
  unfold impl_counts.f
  refine evPos (by omega) (evPos (by omega) ?_)
  rw [w64 (by omega) (by omega)]
  exact cnt_impl_loop m h2 hs h3 m.length _ (Nat.le_refl _) (by simp) (cntB_zero _)
theorem cntGo_bounds (m : List St) : ∀ (i : Nat) (dp : List Int), cntB dp → cntB (cntGo m i dp) := by
  intro i
  induction i with
  | zero => intro dp h; exact h
  | succ i ih =>
    intro dp h
    simp only [cntGo]
    have hv : 0 ≤ (if (rd_T66 m i).f0 = true then 1 else rd dp (i : Int)) ∧ (if (rd_T66 m i).f0 = true then 1 else rd dp (i : Int)) ≤ 1000000000 := by
      have := h (i : Int)
      split <;> omega
    have hf := cntFold_bounds h (es := (rd_T66 m i).f1) hv.1 hv.2
    exact ih _ (cntB_set h _ _ hf.1 hf.2)
theorem cnts_bounds (m : List St) : cntB (cnts m) := cntGo_bounds m m.length _ (cntB_zero _)
theorem cntFold_ge {dp : List Int} (hb : cntB dp) : ∀ {es : List Eg} {v : Int}, v ≤ 1000000000 → v ≤ cntFold dp v es := by
  intro es
  induction es with
  | nil => intro v _; exact Int.le_refl _
  | cons e es ih =>
    intro v h1
    have he := hb e.f1
    simp only [cntFold]
    rw [mn_min]
    have := ih (v := min (v + rd dp e.f1) 1000000000) (by omega)
    omega
theorem cntGo_facts (m : List St) (hok : allOk m m.length = true) : ∀ (i : Nat) (dp : List Int), i ≤ m.length → dp.length = m.length → cntB dp → (∀ j : Nat, j < i → rd dp j = 0) →
    (∀ j : Nat, i ≤ j → j < m.length → rd dp j = cntFold dp (if (rd_T66 m j).f0 = true then 1 else 0) (rd_T66 m j).f1) →
    cntB (cntGo m i dp) ∧ ∀ j : Nat, j < m.length → rd (cntGo m i dp) j = cntFold (cntGo m i dp) (if (rd_T66 m j).f0 = true then 1 else 0) (rd_T66 m j).f1 := by
  intro i
  induction i with
  | zero => intro dp _ _ hb _ h; exact ⟨hb, fun j hj => h j (by omega) hj⟩
  | succ i ih =>
    intro dp hi hl hb hz h
    have hz0 : rd dp (i : Int) = 0 := hz i (by omega)
    have hto := ok_to (n := 0) hok i (by omega)
    have hne (v : Int) (j : Int) (h0 : 0 ≤ j) (hj : (i : Int) ≠ j) : rd (dp.set i v) j = rd dp j := by
      have := rd_set_ne dp (i : Int) j v (by omega) h0 hj
      simpa using this
    have heq (v : Int) : rd (dp.set i v) (i : Int) = v := by
      have := rd_set_eq dp (i : Int) v (by omega) (by omega)
      simpa using this
    simp only [cntGo]
    rw [hz0]
    have hv : 0 ≤ cntFold dp (if (rd_T66 m i).f0 = true then 1 else 0) (rd_T66 m i).f1 ∧ cntFold dp (if (rd_T66 m i).f0 = true then 1 else 0) (rd_T66 m i).f1 ≤ 1000000000 := by
      refine cntFold_bounds hb ?_ ?_ <;> split <;> omega
    refine ih _ (by omega) (by simpa using hl) (cntB_set hb _ _ hv.1 hv.2) (fun j hj => ?_) (fun j h1 h2 => ?_)
    · rw [hne _ j (by omega) (by omega)]
      exact hz j (by omega)
    · by_cases c : j = i
      · subst c
        rw [heq, cntFold_same (dp := dp) (fun e he => hne _ e.f1 (by have := hto e he; omega) (by have := hto e he; omega))]
      · have hto2 := ok_to (n := 0) hok j h2
        rw [hne _ j (by omega) (by omega), h j (by omega) h2, cntFold_same (dp := dp) (fun e he => hne _ e.f1 (by have := hto2 e he; omega) (by have := hto2 e he; omega))]
theorem cnts_facts (m : List St) (hok : allOk m m.length = true) : cntB (cnts m) ∧ ∀ j : Nat, j < m.length → rd (cnts m) j = cntFold (cnts m) (if (rd_T66 m j).f0 = true then 1 else 0) (rd_T66 m j).f1 :=
  cntGo_facts m hok m.length _ (Nat.le_refl _) (by simp) (cntB_zero _) (fun j hj => rd_replicate _ _ _ (by omega) (by omega)) (fun j h1 h2 => absurd h2 (by omega))
theorem word_edges (m : List St) (hm : m.length ≤ 400) (cs : List Int) (hc : cs.length = m.length) (hb : cntB cs) (a : Nat) (ha : a < m.length) (hs : (rd_T66 m a).f1.length ≤ 1048576) (hto : ∀ e ∈ (rd_T66 m a).f1, (a : Int) < e.f1 ∧ e.f1 < m.length) (out : List Int) (hout : out.length ≤ a)
    (next : ∀ e ∈ (rd_T66 m a).f1, ∀ rank : Int, 0 ≤ rank → rank < rd cs e.f1 → rd cs e.f1 < 1000000000 → ∃ v, Ev (fun n => spec_MachineWord.l0 n m rank cs e.f1 (out ++ [e.f0 % 256])) v ∧ Ev (fun n => impl_MachineWord.l0 n m rank cs (out ++ [e.f0 % 256]) e.f1) v)
    (es : List Eg) : ∀ (pre : List Eg) (v rank : Int), (rd_T66 m a).f1 = pre ++ es → 0 ≤ v → 0 ≤ rank → v + rank < cntFold cs v es → cntFold cs v es < 1000000000 →
      ∃ r, Ev (fun n => spec_MachineWord.l1 n m rank cs (a : Int) out (pre.length : Int)) r ∧ Ev (fun n => impl_MachineWord.l1 n m rank cs out (a : Int) (rd_T66 m a).f1 ((rd_T66 m a).f1.length : Int) (pre.length : Int)) r := by
  induction es with
  | nil =>
    intro pre v rank _ h0 h1 h2 _
    simp only [cntFold] at h2
    omega
  | cons e es ih =>
    intro pre v rank hp h0 h1 h2 h3
    have hlen : (rd_T66 m a).f1.length = pre.length + (es.length + 1) := by rw [hp]; simp
    have hat : rd_T68 (rd_T66 m a).f1 (pre.length : Int) = e := by simp [rd_T68, hp, List.getD_eq_getElem?_getD]
    have hpl : ((pre ++ [e]).length : Int) = (pre.length : Int) + 1 := by simp
    have hp' : (rd_T66 m a).f1 = (pre ++ [e]) ++ es := by rw [hp]; simp
    have hmem : e ∈ (rd_T66 m a).f1 := by rw [hp]; simp
    have hx := hto e hmem
    have hw := hb e.f1
    simp only [cntFold] at h2 h3
    rw [mn_min] at h2 h3
    have hge := cntFold_ge hb (es := es) (v := min (v + rd cs e.f1) 1000000000) (by omega)
    have hmin : min (v + rd cs e.f1) 1000000000 = v + rd cs e.f1 := by omega
    rw [hmin] at h2 h3 hge
    by_cases c : rank < rd cs e.f1
    · obtain ⟨r, g1, g2⟩ := next e hmem rank h1 c (by omega)
      refine ⟨r, Ev.step (fun n => spec_MachineWord.l1.eq_2 _ _ _ _ _ _ _) (evPos (by omega) (evPos (by omega) (evPos (by omega) (evPos (by omega) ?_)))), Ev.step (fun n => impl_MachineWord.l1.eq_2 _ _ _ _ _ _ _ _ _) (evPos (by omega) (evPos (by omega) (evPos (by omega) ?_)))⟩
      · rw [hat]
        exact evPos (by omega) (evPos (by omega) (evPos c (evPos (by omega) g1)))
      · rw [hat]
        exact evPos (by omega) (evPos (by omega) (evPos c (evPos (by omega) g2)))
    · obtain ⟨r, g1, g2⟩ := ih (pre ++ [e]) (v + rd cs e.f1) (rank - rd cs e.f1) hp' (by omega) (by omega) (by omega) h3
      rw [hpl] at g1 g2
      refine ⟨r, Ev.step (fun n => spec_MachineWord.l1.eq_2 _ _ _ _ _ _ _) (evPos (by omega) (evPos (by omega) (evPos (by omega) (evPos (by omega) ?_)))), Ev.step (fun n => impl_MachineWord.l1.eq_2 _ _ _ _ _ _ _ _ _) (evPos (by omega) (evPos (by omega) (evPos (by omega) ?_)))⟩
      · rw [hat, w64 (n := (pre.length : Int) + 1) (by omega) (by omega)]
        refine evPos (by omega) (evPos (by omega) (evNeg c ?_))
        rw [w64 (n := rank - rd cs e.f1)]
        · exact g1
        · omega
        · have hrk : v + rank < 1000000000 := by omega
          omega
      · rw [hat, w64 (n := (pre.length : Int) + 1) (by omega) (by omega)]
        refine evPos (by omega) (evPos (by omega) (evNeg c ?_))
        rw [w64 (n := rank - rd cs e.f1)]
        · exact g2
        · omega
        · have hrk : v + rank < 1000000000 := by omega
          omega
theorem word_both (m : List St) (hm : m.length ≤ 400) (hs : ∀ s ∈ m, s.f1.length ≤ 1048576) (hok : allOk m m.length = true) (d : Nat) : ∀ (a : Nat) (rank : Int) (out : List Int), m.length ≤ a + d → a < m.length → out.length ≤ a → 0 ≤ rank → rank < rd (cnts m) a → rd (cnts m) a < 1000000000 →
    ∃ v, Ev (fun n => spec_MachineWord.l0 n m rank (cnts m) (a : Int) out) v ∧ Ev (fun n => impl_MachineWord.l0 n m rank (cnts m) out (a : Int)) v := by
  induction d with
  | zero => intro a _ _ h ha; omega
  | succ d ih =>
    intro a rank out hd ha hout h0 h1 h2
    obtain ⟨hb, hf⟩ := cnts_facts m hok
    have hz := stAt_small hs (a : Int)
    have hto := ok_to (n := 0) hok a ha
    have hfa := hf a ha
    have edges := word_edges m hm (cnts m) (cnts_len m) hb a ha hz hto out hout (fun e he rk g0 g1 g2 => by
      have hx := hto e he
      obtain ⟨v, k1, k2⟩ := ih e.f1.toNat rk (out ++ [e.f0 % 256]) (by omega) (by omega) (by simp; omega) g0 (by rw [show ((e.f1.toNat : Nat) : Int) = e.f1 from by omega]; exact g1) (by rw [show ((e.f1.toNat : Nat) : Int) = e.f1 from by omega]; exact g2)
      rw [show ((e.f1.toNat : Nat) : Int) = e.f1 from by omega] at k1 k2
      exact ⟨v, k1, k2⟩) (rd_T66 m a).f1 []
    by_cases c : (rd_T66 m a).f0 = true
    · rw [if_pos c] at hfa
      by_cases c0 : rank = 0
      · exact ⟨strOfNums out, Ev.step (fun n => spec_MachineWord.l0.eq_2 _ _ _ _ _ _) (evPos (by omega) (evPos (by omega) (evPos c (evPos c0 (Ev.now _))))), Ev.step (fun n => impl_MachineWord.l0.eq_2 _ _ _ _ _ _) (evPos (by omega) (evPos (by omega) (evPos c (evPos c0 (Ev.now _)))))⟩
      · obtain ⟨r, g1, g2⟩ := edges 1 (rank - 1) rfl (by omega) (by omega) (by omega) (by omega)
        refine ⟨r, Ev.step (fun n => spec_MachineWord.l0.eq_2 _ _ _ _ _ _) (evPos (by omega) (evPos (by omega) (evPos c (evNeg c0 (Ev.step (fun n => spec_MachineWord.j2.eq_2 _ _ _ _ _ _) ?_))))), Ev.step (fun n => impl_MachineWord.l0.eq_2 _ _ _ _ _ _) (evPos (by omega) (evPos (by omega) (evPos c (evNeg c0 (Ev.step (fun n => impl_MachineWord.j2.eq_2 _ _ _ _ _ _) (evPos (by omega) (evPos (by omega) ?_)))))))⟩
        · rw [w64 (n := rank - 1) (by omega) (by omega)]
          exact g1
        · rw [w64 (n := rank - 1) (by omega) (by omega)]
          exact g2
    · rw [if_neg c] at hfa
      obtain ⟨r, g1, g2⟩ := edges 0 rank rfl (by omega) (by omega) (by omega) (by omega)
      exact ⟨r, Ev.step (fun n => spec_MachineWord.l0.eq_2 _ _ _ _ _ _) (evPos (by omega) (evPos (by omega) (evNeg c (Ev.step (fun n => spec_MachineWord.j2.eq_2 _ _ _ _ _ _) g1)))), Ev.step (fun n => impl_MachineWord.l0.eq_2 _ _ _ _ _ _) (evPos (by omega) (evPos (by omega) (evNeg c (Ev.step (fun n => impl_MachineWord.j2.eq_2 _ _ _ _ _ _) (evPos (by omega) (evPos (by omega) g2))))))⟩
theorem mword_both (m : List St) (hm : m.length ≤ 1048576) (hs : ∀ s ∈ m, s.f1.length ≤ 1048576) (a : Int) : ∃ v, Ev (fun n => spec_MachineWord.f n m a) v ∧ Ev (fun n => impl_MachineWord.f n m a) v := by
  have s1 := machOk_spec m hm hs
  have i1 := machOk_impl m hm hs
  unfold spec_MachineWord.f impl_MachineWord.f spec_l3Small.f
  cases e : machOk m with
  | false =>
    rw [e] at s1 i1
    exact ⟨⟨#[]⟩, Ev.bind (Ev.bind s1 (evNeg (by simp) (Ev.now _))) (evNeg (by simp) (Ev.step (fun n => spec_MachineWord.j0.eq_2 _ _ _ _) (evPos rfl (Ev.now _)))), Ev.bind i1 (evNeg (by simp) (Ev.now _))⟩
  | true =>
    rw [e] at s1 i1
    obtain ⟨g1, g2, g3⟩ := machOk_facts e
    obtain ⟨hb, hf⟩ := cnts_facts m g3
    have hl := cnts_len m
    have h0 := hb 0
    have cs := counts_spec m hs e
    have ci := counts_impl m hs e
    by_cases c : rd (cnts m) 0 < 1000000000
    · have hin : spec_l1In.f a 0 (wrap64 (rd (cnts m) 0 - 1)) = some (decide (0 ≤ a) && decide (a ≤ rd (cnts m) 0 - 1)) := by rw [in_spec, w64 (by omega) (by omega)]
      have hwi : impl_within.f a 0 (wrap64 (rd (cnts m) 0 - 1)) = some (decide (0 ≤ a) && decide (a ≤ rd (cnts m) 0 - 1)) := by rw [within_impl, w64 (by omega) (by omega)]
      have small : Ev (fun n => (spec_MachineOk.f n m).bind fun t175 => (if t175 = true then ((spec_l3Counts.f n m).bind fun t176 => (if 0 < (t176.length : Int) then (some (decide ((rd t176 0) < 1000000000))) else (none))) else (some false))) true :=
        Ev.bind s1 (evPos rfl (Ev.bind cs (evPos (by omega) (evTo (Ev.now _) (decide_eq_true c)))))
      by_cases ca : 0 ≤ a ∧ a ≤ rd (cnts m) 0 - 1
      · obtain ⟨v, k1, k2⟩ := word_both m g2 hs g3 m.length 0 a [] (by omega) (by omega) (by simp) ca.1 (by have := ca.2; show a < rd (cnts m) 0; omega) c
        have hd : (decide (0 ≤ a) && decide (a ≤ rd (cnts m) 0 - 1)) = true := by simp; omega
        rw [hd] at hin hwi
        exact ⟨v, Ev.bind small (evPos rfl (Ev.bind cs (evPos (by omega) (evCall hin (Ev.step (fun n => spec_MachineWord.j0.eq_2 _ _ _ _) (evNeg (by simp) (Ev.bind cs k1))))))), Ev.bind i1 (evPos rfl (Ev.bind ci (evPos (by omega) (evNeg (by omega) (evCall hwi (Ev.step (fun n => impl_MachineWord.j0.eq_2 _ _ _ _ _) (evNeg (by simp) k2)))))))⟩
      · have hd : (decide (0 ≤ a) && decide (a ≤ rd (cnts m) 0 - 1)) = false := by
          cases hq : (decide (0 ≤ a) && decide (a ≤ rd (cnts m) 0 - 1)) with
          | false => rfl
          | true =>
            simp only [Bool.and_eq_true, decide_eq_true_eq] at hq
            exact absurd hq ca
        rw [hd] at hin hwi
        exact ⟨⟨#[]⟩, Ev.bind small (evPos rfl (Ev.bind cs (evPos (by omega) (evCall hin (Ev.step (fun n => spec_MachineWord.j0.eq_2 _ _ _ _) (evPos rfl (Ev.now _))))))), Ev.bind i1 (evPos rfl (Ev.bind ci (evPos (by omega) (evNeg (by omega) (evCall hwi (Ev.step (fun n => impl_MachineWord.j0.eq_2 _ _ _ _ _) (evPos rfl (Ev.now _))))))))⟩
    · have small : Ev (fun n => (spec_MachineOk.f n m).bind fun t175 => (if t175 = true then ((spec_l3Counts.f n m).bind fun t176 => (if 0 < (t176.length : Int) then (some (decide ((rd t176 0) < 1000000000))) else (none))) else (some false))) false :=
        Ev.bind s1 (evPos rfl (Ev.bind cs (evPos (by omega) (evTo (Ev.now _) (decide_eq_false c)))))
      exact ⟨⟨#[]⟩, Ev.bind small (evNeg (by simp) (Ev.step (fun n => spec_MachineWord.j0.eq_2 _ _ _ _) (evPos rfl (Ev.now _)))), Ev.bind i1 (evPos rfl (Ev.bind ci (evPos (by omega) (evPos (by omega) (Ev.step (fun n => impl_MachineWord.j0.eq_2 _ _ _ _ _) (evPos rfl (Ev.now _)))))))⟩
theorem FnExactMachineWord (l : List LSt) (a : Int) (z : l.length ≤ 9223372036854775807 ∧ ∀ y1 ∈ l, (True ∧ (y1.f1.length ≤ 9223372036854775807 ∧ ∀ y2 ∈ y1.f1, ((Lit.int .i64 y2.f0).wf = true ∧ (Lit.int .i64 y2.f1).wf = true)))) (_hw : (Lit.int .i64 a).wf = true) : ∃ k, laws_FnExactMachineWord.f k l a = some true := by
  refine Ev.rounds ?_
  unfold laws_FnExactMachineWord.f
  obtain ⟨n, hn, hz⟩ := szStates_ev l 1048576 (by omega) (by omega) z.1 (fun s hs => (z.2 s hs).2.1)
  refine Ev.bind hn ?_
  by_cases c : n < 0
  · exact evPos c (Ev.now _)
  have h := hz.resolve_left c
  have ht := toStates_ev l (by omega) (fun s hs => by have := h.2 s hs; omega)
  have hs := cvS_small h.2
  have hl : (l.map cvS).length ≤ 1048576 := by simpa using h.1
  have he := eqStates_ev (l.map cvS) (by omega) (fun s hq => by have := hs s hq; omega)
  obtain ⟨v, s2, i2⟩ := mword_both (l.map cvS) hl hs a
  refine evNeg c ?_
  exact Ev.bind ht (Ev.bind s2 (Ev.bind ht (Ev.bind i2 (evPos rfl (Ev.bind ht (Ev.bind he (evPos rfl (Ev.now _))))))))
end Go.Proofs.Yteddmcaljongeaa.Pure

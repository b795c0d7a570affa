/- MachineGuesses answers as the reference, of every machine and text, leaves the machine as it was, and its answer is its own. No condition. -/
import Derived.Test.YtfpmfaelodfecaaQFnExactMachineGuessesx13
import Derived.Test.YtfpmfaelodfecaaVMBas
import Derived.Test.YtfpmfaelodfecaaVMStr
import Derived.Test.YtfpmfaelodfecaaVMAff
import Derived.Test.YtfpmfaelodfecaaVMSml
import Derived.Test.YtfpmfaelodfecaaVMNer
import Derived.Test.YtfpmfaelodfecaaVMSrt
import Derived.Test.YtfpmfaelodfecaaVMAry
namespace Go.Proofs.Ytfpmfaelodfecaa.Pure
open Go.RowKit Go.Proofs.Ytfpmfaelodfecaa.QFnExactMachineGuesses Go.Proofs.YtfpmfaelodfecaaW.PrintWords Go.Proofs.YtfpmfaelodfecaaW.PrintLast Go.Proofs.YtfpmfaelodfecaaW.PrintMore Go.Proofs.Ytfpmfaelodfecaa.M
set_option linter.unusedVariables false
set_option linter.unusedSimpArgs false
theorem fill_step {α β : Type} {f : α → β} {xs : List α} {ys : List β} {i : Nat} (z : α) (hl : ys.length = xs.length) (h : ∀ j : Nat, j < i → ys[j]? = (xs.map f)[j]?) (hi : i < xs.length) :
  (ys.set i (f (xs.getD i z))).length = xs.length ∧ ∀ j : Nat, j < i + 1 → (ys.set i (f (xs.getD i z)))[j]? = (xs.map f)[j]? := by
 refine ⟨by simpa using hl, fun j hj => ?_⟩
 by_cases c : i = j
 ·subst c
  simp [hl, hi, List.getD_eq_getElem?_getD]
 ·rw [List.getElem?_set_ne c]
  exact h j (by omega)
theorem fill_end {α β : Type} {f : α → β} {xs : List α} {ys : List β} (hl : ys.length = xs.length) (h : ∀ j : Nat, j < xs.length → ys[j]? = (xs.map f)[j]?) : ys = xs.map f := by
 refine List.ext_getElem? fun j => ?_
 by_cases c : j < xs.length
 ·exact h j c
 ·rw [List.getElem?_eq_none (by omega), List.getElem?_eq_none (by simp; omega)]
abbrev LSt := S90
abbrev LEg := S156
def cvE (e : LEg) : S100 := ⟨e.f0, e.f1⟩
def cvS (s : LSt) : S94 := ⟨s.f0, s.f1.map cvE⟩
theorem toEdges_loop (l : List LEg) (hl : l.length ≤ 10000000) (d : Nat) : ∀ (i : Nat) (y : List S100), i + d = l.length → y.length = l.length → (∀ j : Nat, j < i → y[j]? = (l.map cvE)[j]?) → Ev (fun k => laws_toEdgeS.l0 k l y (i : Int)) (l.map cvE) := by
 induction d with
 | zero =>
  intro i y hi hy h
  exact Ev.step (fun k => laws_toEdgeS.l0.eq_2 _ _ _ _) (eN (evTo (Ev.now _) (fill_end hy (fun j hj => h j (by omega)))))
 | succ d ih =>
  intro i y hi hy h
  obtain ⟨h1, h2⟩ := fill_step (f := cvE) z156 hy h (by omega)
  refine Ev.step (fun k => laws_toEdgeS.l0.eq_2 _ _ _ _) (eP (eP (evCall rfl (eP ?_))))
  rw [w6]
  exact ih (i + 1) _ (by omega) h1 h2
theorem toEdges_ev (l : List LEg) (hl : l.length ≤ 10000000) : Ev (fun k => laws_toEdgeS.f k l) (l.map cvE) := by
 unfold laws_toEdgeS.f
 exact eP (eP (toEdges_loop l hl l.length 0 _ (by omega) (by simp) (fun j hj => absurd hj (by omega))))
theorem toStates_loop (l : List LSt) (hl : l.length ≤ 10000000) (he : ∀ s ∈ l, s.f1.length ≤ 10000000) (d : Nat) : ∀ (i : Nat) (y : List S94), i + d = l.length → y.length = l.length → (∀ j : Nat, j < i → y[j]? = (l.map cvS)[j]?) → Ev (fun k => laws_toStateS.l0 k l y (i : Int)) (l.map cvS) := by
 induction d with
 | zero =>
  intro i y hi hy h
  exact Ev.step (fun k => laws_toStateS.l0.eq_2 _ _ _ _) (eN (evTo (Ev.now _) (fill_end hy (fun j hj => h j (by omega)))))
 | succ d ih =>
  intro i y hi hy h
  obtain ⟨h1, h2⟩ := fill_step (f := cvS) z90 hy h (by omega)
  have hm : (rd_T90 l (i : Int)).f1.length ≤ 10000000 := by
   have hlt : i < l.length := by omega
   have e : rd_T90 l (i : Int) = l[i] := by simp [rd_T90, List.getD_eq_getElem?_getD, hlt]
   rw [e]
   exact he _ (List.getElem_mem hlt)
  refine Ev.step (fun k => laws_toStateS.l0.eq_2 _ _ _ _) (eP (eP (Ev.bind (Ev.bind (toEdges_ev _ hm) (Ev.now _)) (eP ?_))))
  rw [w6]
  exact ih (i + 1) _ (by omega) h1 h2
theorem toStates_ev (l : List LSt) (hl : l.length ≤ 10000000) (he : ∀ s ∈ l, s.f1.length ≤ 10000000) : Ev (fun k => laws_toStateS.f k l) (l.map cvS) := by
 unfold laws_toStateS.f
 exact eP (eP (toStates_loop l hl he l.length 0 _ (by omega) (by simp) (fun j hj => absurd hj (by omega))))
theorem eqEdges_loop (l : List S100) (hl : l.length ≤ 10000000) (d : Nat) : ∀ i : Nat, i + d = l.length → Ev (fun k => laws_eqEdgeS.l0 k l l (i : Int)) true := by
 induction d with
 | zero =>
  intro i hi
  exact Ev.step (fun k => laws_eqEdgeS.l0.eq_2 _ _ _ _) (eN (Ev.now _))
 | succ d ih =>
  intro i hi
  refine Ev.step (fun k => laws_eqEdgeS.l0.eq_2 _ _ _ _) (eP (eP (eP (evCall (a := true) (by simp [laws_eqEdge.f]) (evPos rfl ?_)))))
  rw [w6]
  exact ih (i + 1) (by omega)
theorem eqStates_loop (l : List S94) (hl : l.length ≤ 10000000) (he : ∀ s ∈ l, s.f1.length ≤ 10000000) (d : Nat) : ∀ i : Nat, i + d = l.length → Ev (fun k => laws_eqStateS.l0 k l l (i : Int)) true := by
 induction d with
 | zero =>
  intro i hi
  exact Ev.step (fun k => laws_eqStateS.l0.eq_2 _ _ _ _) (eN (Ev.now _))
 | succ d ih =>
  intro i hi
  have hm : (rd_T94 l (i : Int)).f1.length ≤ 10000000 := by
   have hlt : i < l.length := by omega
   have e : rd_T94 l (i : Int) = l[i] := by simp [rd_T94, List.getD_eq_getElem?_getD, hlt]
   rw [e]
   exact he _ (List.getElem_mem hlt)
  have hs : Ev (fun k => laws_eqState.f k (rd_T94 l (i : Int)).f0 (rd_T94 l (i : Int)).f1 (rd_T94 l (i : Int)).f0 (rd_T94 l (i : Int)).f1) true := by
   unfold laws_eqState.f laws_eqEdgeS.f
   exact evNeg (by simp) (Ev.bind (evPos rfl (eqEdges_loop _ hm _ 0 (Nat.zero_add _))) (evPos rfl (Ev.now _)))
  refine Ev.step (fun k => laws_eqStateS.l0.eq_2 _ _ _ _) (eP (eP (eP (Ev.bind hs (evPos rfl ?_)))))
  rw [w6]
  exact ih (i + 1) (by omega)
theorem eqStates_ev (l : List S94) (hl : l.length ≤ 10000000) (he : ∀ s ∈ l, s.f1.length ≤ 10000000) : Ev (fun k => laws_eqStateS.f k l l) true := by
 unfold laws_eqStateS.f
 exact evPos rfl (eqStates_loop l hl he l.length 0 (by omega))
theorem szState_ev (b : Bool) (l : List LEg) (n : Int) (h0 : 0 ≤ n) (h1 : n ≤ 1048576) (hl : l.length ≤ 9223372036854775807) : ∃ m, laws_szState.f b l n = some m ∧ (m < 0 ∨ (0 ≤ m ∧ m ≤ n ∧ l.length ≤ 1048576)) := by
 unfold laws_szState.f laws_szEdgeS.f
 rw [w6 (n := n - (l.length : Int))]
 by_cases c : n - (l.length : Int) < 0
 ·refine ⟨-1, ?_, .inl (by omega)⟩
  rw [if_pos c]
  rfl
 ·refine ⟨n - l.length, ?_, .inr (by omega)⟩
  rw [if_neg c]
  simp only [Option.bind_some]
  rw [if_neg c]
theorem szStates_loop (l : List LSt) (hl : l.length ≤ 10000000) (he : ∀ s ∈ l, s.f1.length ≤ 9223372036854775807) (d : Nat) : ∀ (i : Nat) (n : Int), i + d = l.length → 0 ≤ n → n ≤ 1048576 → ∃ m, Ev (fun k => laws_szStateS.l0 k l n (i : Int)) m ∧ (m < 0 ∨ ∀ s ∈ l.drop i, s.f1.length ≤ 1048576) := by
 induction d with
 | zero =>
  intro i n hi h0 h1
  exact ⟨n, Ev.step (fun k => laws_szStateS.l0.eq_2 _ _ _ _) (eN (Ev.now _)), .inr (fun s hs => by rw [List.drop_eq_nil_of_le (by omega)] at hs; cases hs)⟩
 | succ d ih =>
  intro i n hi h0 h1
  have hlt : i < l.length := by omega
  have e : rd_T90 l (i : Int) = l[i] := by simp [rd_T90, List.getD_eq_getElem?_getD, hlt]
  obtain ⟨m, hm, hz⟩ := szState_ev l[i].f0 l[i].f1 n h0 h1 (he _ (List.getElem_mem hlt))
  by_cases c : m < 0
  ·refine ⟨-1, Ev.step (fun k => laws_szStateS.l0.eq_2 _ _ _ _) (eP (eP ?_)), .inl (by omega)⟩
   rw [e]
   exact evCall hm (evPos c (Ev.now _))
  ·obtain ⟨q, hq, hr⟩ := ih (i + 1) m (by omega) (by omega) (by omega)
   refine ⟨q, Ev.step (fun k => laws_szStateS.l0.eq_2 _ _ _ _) (eP (eP ?_)), hr.elim .inl (fun h => .inr (fun s hs => ?_))⟩
   ·rw [e]
    refine evCall hm (evNeg c ?_)
    rw [w6]
    exact hq
   ·rw [List.drop_eq_getElem_cons hlt] at hs
    rcases List.mem_cons.1 hs with rfl | hs
    ·omega
    ·exact h s hs
theorem szStates_ev (l : List LSt) (n : Int) (h0 : 0 ≤ n) (h1 : n ≤ 1048576) (hl : l.length ≤ 9223372036854775807) (he : ∀ s ∈ l, s.f1.length ≤ 9223372036854775807) :
  ∃ m, Ev (fun k => laws_szStateS.f k l n) m ∧ (m < 0 ∨ (l.length ≤ 1048576 ∧ ∀ s ∈ l, s.f1.length ≤ 1048576)) := by
 unfold laws_szStateS.f
 rw [w6 (n := n - (l.length : Int))]
 by_cases c : n - (l.length : Int) < 0
 ·exact ⟨-1, evPos c (Ev.now _), .inl (by omega)⟩
 ·obtain ⟨m, hm, hz⟩ := szStates_loop l (by omega) he l.length 0 (n - l.length) (by omega) (by omega) (by omega)
  exact ⟨m, evNeg c hm, hz.elim .inl (fun h => .inr ⟨by omega, by simpa using h⟩)⟩
theorem cvS_small {l : List LSt} (h : ∀ s ∈ l, s.f1.length ≤ 1048576) : ∀ s ∈ l.map cvS, s.f1.length ≤ 1048576 := by
 intro s hs
 obtain ⟨t, ht, rfl⟩ := List.mem_map.1 hs
 simpa [cvS] using h t ht
theorem ba_get (l : List ByteArray) (i : Nat) (h : i < l.length) : rdOf ByteArray.empty l (i : Int) = l[i] := by simp [rdOf, List.getD_eq_getElem?_getD, List.getElem?_eq_getElem h]
abbrev St := S94
abbrev Eg := S100
def edgesFrom (n i : Int) : Int → List Eg → Bool
 | _, [] => true
 | p, e :: es => (decide (97 ≤ e.f0) && decide (e.f0 ≤ 122)) && (decide (i + 1 ≤ e.f1) && decide (e.f1 ≤ n - 1)) && decide (p < e.f0) && edgesFrom n i e.f0 es
def prevAt (es : List Eg) (k : Int) : Int := if k = 0 then 0 else (rd_T100 es (k - 1)).f0
def stOk (m : List St) (i : Int) : Bool := edgesFrom m.length i 0 (rd_T94 m i).f1 && (decide (i = 0) || (rd_T94 m i).f0 || !(rd_T94 m i).f1.isEmpty)
def deepFold (dp : List Int) : Int → List Eg → Int
 | v, [] => v
 | v, e :: es => deepFold dp (if rd dp e.f1 + 1 > v then rd dp e.f1 + 1 else v) es
def longFold (dp : List Int) : Int → List Eg → Int
 | v, [] => v
 | v, e :: es => longFold dp (if rd dp e.f1 ≥ 0 then mx v (rd dp e.f1 + 1) else v) es
def deepGo (m : List St) : Nat → List Int → List Int
 | 0, dp => dp
 | i + 1, dp => deepGo m i (dp.set i (deepFold dp (rd dp i) (rd_T94 m i).f1))
def longGo (m : List St) : Nat → List Int → Bool
 | 0, dp => decide (rd dp 0 ≤ 12)
 | i + 1, dp => stOk m i && longGo m i (dp.set i (longFold dp (if (rd_T94 m i).f0 = true then 0 else -1) (rd_T94 m i).f1))
def allOk (m : List St) : Nat → Bool
 | 0 => true
 | i + 1 => stOk m i && allOk m i
def machOk (m : List St) : Bool := decide (1 ≤ m.length) && decide (m.length ≤ 400) && allOk m m.length && decide (rd (deepGo m m.length (List.replicate m.length 0)) 0 ≤ 12)
theorem eg_drop (es : List Eg) (k : Int) (h0 : 0 ≤ k) (h : k < es.length) : es.drop k.toNat = rd_T100 es k :: es.drop (k + 1).toNat := by
 have hl : k.toNat < es.length := by omega
 rw [List.drop_eq_getElem_cons hl, show (k + 1).toNat = k.toNat + 1 from by omega]
 congr 1
 exact (getD_get es _ k h0 hl).symm
theorem edges_mem {n i p : Int} {es : List Eg} (h : edgesFrom n i p es = true) : ∀ e ∈ es, 97 ≤ e.f0 ∧ e.f0 ≤ 122 ∧ i + 1 ≤ e.f1 ∧ e.f1 ≤ n - 1 ∧ p < e.f0 := by
 induction es generalizing p with
 | nil => intro e he; cases he
 | cons x es ih =>
  simp only [edgesFrom, Bool.and_eq_true, decide_eq_true_eq] at h
  obtain ⟨⟨⟨⟨h1, h2⟩, h3, h4⟩, h5⟩, h6⟩ := h
  intro e he
  rcases List.mem_cons.1 he with rfl | he
  ·exact ⟨h1, h2, h3, h4, h5⟩
  ·obtain ⟨g1, g2, g3, g4, g5⟩ := ih h6 e he
   exact ⟨g1, g2, g3, g4, by omega⟩
theorem allOk_at {m : List St} {n : Nat} (h : allOk m n = true) : ∀ i : Nat, i < n → stOk m i = true := by
 induction n with
 | zero => intro i hi; omega
 | succ n ih =>
  simp only [allOk, Bool.and_eq_true] at h
  intro i hi
  by_cases e : i = n
  ·rw [e]; exact h.1
  ·exact ih h.2 i (by omega)
theorem allOk_of {m : List St} {n : Nat} (h : ∀ i : Nat, i < n → stOk m i = true) : allOk m n = true := by
 induction n with
 | zero => rfl
 | succ n ih =>
  simp only [allOk, Bool.and_eq_true]
  exact ⟨h n (by omega), ih (fun i hi => h i (by omega))⟩
theorem deepFold_bounds {dp : List Int} {b : Int} : ∀ {es : List Eg} {v : Int}, 0 ≤ v → v ≤ b → (∀ e ∈ es, 0 ≤ rd dp e.f1 ∧ rd dp e.f1 + 1 ≤ b) → 0 ≤ deepFold dp v es ∧ deepFold dp v es ≤ b := by
 intro es
 induction es with
 | nil => intro v h0 h1 _; exact ⟨h0, h1⟩
 | cons e es ih =>
  intro v h0 h1 h
  have he := h e List.mem_cons_self
  simp only [deepFold]
  refine ih ?_ ?_ (fun x hx => h x (List.mem_cons_of_mem _ hx)) <;> split <;> omega
theorem longFold_eq {dp dq : List Int} : ∀ {es : List Eg} {v : Int}, 0 ≤ v → (∀ e ∈ es, 0 ≤ rd dp e.f1 ∧ rd dq e.f1 = rd dp e.f1) → longFold dq v es = deepFold dp v es := by
 intro es
 induction es with
 | nil => intro v _ _; rfl
 | cons e es ih =>
  intro v h0 h
  have he := h e List.mem_cons_self
  simp only [longFold, deepFold]
  rw [he.2, if_pos he.1]
  have : mx v (rd dp e.f1 + 1) = if rd dp e.f1 + 1 > v then rd dp e.f1 + 1 else v := by
   unfold mx
   repeat' split
   all_goals omega
  rw [this]
  refine ih ?_ (fun x hx => h x (List.mem_cons_of_mem _ hx))
  split <;> omega
theorem long_deep (m : List St) : ∀ (i : Nat) (dp dq : List Int), i ≤ m.length → dp.length = m.length → dq.length = m.length → (∀ j : Nat, i < m.length → j < i → rd dp j = 0) → (∀ j : Nat, j < i → rd dp j = 0) →
  (∀ j : Nat, 0 < j → i ≤ j → j < m.length → 0 ≤ rd dp j ∧ rd dq j = rd dp j) → (i = 0 → (decide (rd dq 0 ≤ 12)) = decide (rd dp 0 ≤ 12)) →
  longGo m i dq = (allOk m i && decide (rd (deepGo m i dp) 0 ≤ 12)) := by
 intro i
 induction i with
 | zero =>
  intro dp dq _ _ _ _ _ _ h0
  simp only [longGo, allOk, deepGo, Bool.true_and]
  exact h0 rfl
 | succ i ih =>
  intro dp dq hi hp hq _ hz hr _
  simp only [longGo, allOk, deepGo]
  cases e : stOk m i with
  | false => simp
  | true =>
   rw [Bool.true_and, Bool.true_and]
   simp only [stOk, Bool.and_eq_true, Bool.or_eq_true, decide_eq_true_eq] at e
   have hm := edges_mem e.1
   have he : ∀ x ∈ (rd_T94 m i).f1, 0 ≤ rd dp x.f1 ∧ rd dq x.f1 = rd dp x.f1 := by
    intro x hx
    obtain ⟨_, _, g3, g4, _⟩ := hm x hx
    have := hr x.f1.toNat (by omega) (by omega) (by omega)
    rw [show ((x.f1.toNat : Nat) : Int) = x.f1 from by omega] at this
    exact this
   have hz0 : rd dp (i : Int) = 0 := hz i (by omega)
   refine Eq.trans ?_ (congrArg (fun v => allOk m i && decide (rd (deepGo m i (dp.set i (deepFold dp v (rd_T94 m i).f1))) 0 ≤ 12)) hz0.symm)
   have hset (xs : List Int) (v : Int) (hl : xs.length = m.length) (j : Nat) (hj : j < m.length) : rd (xs.set i v) (j : Int) = if j = i then v else rd xs j := by
    by_cases c : j = i
    ·rw [if_pos c, c]
     have := rd_set_eq xs (i : Int) v (by omega) (by omega)
     simpa using this
    ·rw [if_neg c]
     have := rd_set_ne xs (i : Int) (j : Int) v (by omega) (by omega) (by omega)
     simpa using this
   have hd := deepFold_bounds (dp := dp) (b := 1000000000000 + deepFold dp 0 (rd_T94 m i).f1 + (rd_T94 m i).f1.foldl (fun a x => a + (if 0 ≤ rd dp x.f1 then rd dp x.f1 else 0)) 0) (es := (rd_T94 m i).f1) (v := 0)
   have h0d : 0 ≤ deepFold dp 0 (rd_T94 m i).f1 := by
    have key : ∀ (es : List Eg) (v : Int), 0 ≤ v → 0 ≤ deepFold dp v es := by
     intro es
     induction es with
     | nil => intro v h; exact h
     | cons x es ih2 =>
      intro v h
      simp only [deepFold]
      exact ih2 _ (by split <;> omega)
    exact key _ 0 (by omega)
   clear hd
   have hlong : (if (rd_T94 m i).f0 = true then longFold dq 0 (rd_T94 m i).f1 = deepFold dp 0 (rd_T94 m i).f1 else ((rd_T94 m i).f1 = [] ∧ i = 0) ∨ longFold dq (-1) (rd_T94 m i).f1 = deepFold dp 0 (rd_T94 m i).f1) := by
    split
    ·exact longFold_eq (by omega) he
    ·rename_i hend
     cases ees : (rd_T94 m i).f1 with
     | nil =>
      left
      refine ⟨rfl, ?_⟩
      rcases e.2 with (h | h) | h
      ·omega
      ·exact absurd h hend
      ·rw [ees] at h
       simp at h
     | cons x es =>
      right
      rw [ees] at he
      have hx := he x List.mem_cons_self
      simp only [longFold, deepFold]
      rw [hx.2, if_pos hx.1]
      rw [show mx (-1) (rd dp x.f1 + 1) = rd dp x.f1 + 1 from by unfold mx; rw [if_pos (by omega)], if_pos (by omega)]
      exact longFold_eq (by omega) (fun y hy => he y (List.mem_cons_of_mem _ hy))
   refine ih _ _ (by omega) (by simpa using hp) (by simpa using hq) ?_ ?_ ?_ ?_
   ·intro j _ hj
    rw [hset dp _ hp j (by omega), if_neg (by omega)]
    exact hz j (by omega)
   ·intro j hj
    rw [hset dp _ hp j (by omega), if_neg (by omega)]
    exact hz j (by omega)
   ·intro j hj0 hij hj
    rw [hset dp _ hp j hj, hset dq _ hq j hj]
    by_cases c : j = i
    ·rw [if_pos c, if_pos c]
     refine ⟨h0d, ?_⟩
     by_cases ce : (rd_T94 m i).f0 = true
     ·rw [if_pos ce] at hlong ⊢
      exact hlong
     ·rw [if_neg ce] at hlong ⊢
      rcases hlong with h | h
      ·omega
      ·exact h
    ·rw [if_neg c, if_neg c]
     exact hr j hj0 (by omega) hj
   ·intro hi0
    subst hi0
    have h1 := hset dp (deepFold dp 0 (rd_T94 m 0).f1) hp 0 (by omega)
    have h2 := hset dq (longFold dq (if (rd_T94 m 0).f0 = true then 0 else -1) (rd_T94 m 0).f1) hq 0 (by omega)
    rw [if_pos rfl] at h1 h2
    have h1' : rd (dp.set 0 (deepFold dp 0 (rd_T94 m 0).f1)) 0 = deepFold dp 0 (rd_T94 m 0).f1 := h1
    have h2' : rd (dq.set 0 (longFold dq (if (rd_T94 m 0).f0 = true then 0 else -1) (rd_T94 m 0).f1)) 0 = longFold dq (if (rd_T94 m 0).f0 = true then 0 else -1) (rd_T94 m 0).f1 := h2
    refine (congrArg (fun z => decide (z ≤ 12)) h2').trans (Eq.trans ?_ (congrArg (fun z => decide (z ≤ 12)) h1').symm)
    have hlong' := hlong
    by_cases ce : (rd_T94 m ((0 : Nat) : Int)).f0 = true
    ·rw [if_pos ce] at hlong'
     have : longFold dq (if (rd_T94 m 0).f0 = true then 0 else -1) (rd_T94 m 0).f1 = deepFold dp 0 (rd_T94 m 0).f1 := by
      rw [if_pos (show (rd_T94 m 0).f0 = true from ce)]
      exact hlong'
     rw [this]
    ·rw [if_neg ce] at hlong'
     have e1 : (if (rd_T94 m 0).f0 = true then (0 : Int) else -1) = -1 := if_neg ce
     rw [e1]
     rcases hlong' with h | h
     ·have h' : (rd_T94 m 0).f1 = [] := h.1
      rw [h']
      simp [longFold, deepFold]
     ·have h' : longFold dq (-1) (rd_T94 m 0).f1 = deepFold dp 0 (rd_T94 m 0).f1 := h
      rw [h']
theorem longGo_ok (m : List St) (h : 1 ≤ m.length) : longGo m m.length (List.replicate m.length 0) = (allOk m m.length && decide (rd (deepGo m m.length (List.replicate m.length 0)) 0 ≤ 12)) := by
 refine long_deep m m.length _ _ (Nat.le_refl _) (by simp) (by simp) (fun j hj _ => absurd hj (by omega)) (fun j hj => rd_replicate _ _ _ (by omega) (by omega)) (fun j _ h1 h2 => absurd h2 (by omega)) (fun h0 => by omega)
theorem in_spec (n a b : Int) : spec_l1In.f n a b = some (decide (a ≤ n) && decide (n ≤ b)) := by
 unfold spec_l1In.f
 by_cases c : n ≥ a
 ·rw [if_pos c]; simp [c]
 ·rw [if_neg c]; simp; omega
theorem stAt_small {m : List St} (hs : ∀ s ∈ m, s.f1.length ≤ 1048576) (i : Int) : (rd_T94 m i).f1.length ≤ 1048576 := by
 unfold rd_T94
 rw [List.getD_eq_getElem?_getD]
 by_cases c : i.toNat < m.length
 ·rw [List.getElem?_eq_getElem c]
  exact hs _ (List.getElem_mem c)
 ·rw [List.getElem?_eq_none (by omega)]
  simp [z94]
theorem edge_last {es : List Eg} (k : Int) (h0 : 0 ≤ k) (h : k = es.length) : es.drop k.toNat = [] := List.drop_eq_nil_of_le (by omega)
theorem prev_next (es : List Eg) (k : Int) (h0 : 0 ≤ k) : prevAt es (k + 1) = (rd_T100 es k).f0 := by
 unfold prevAt
 rw [if_neg (by omega), show k + 1 - 1 = k from by omega]
theorem ok_spec_edges (m : List St) (hm : m.length ≤ 1048576) (hs : ∀ s ∈ m, s.f1.length ≤ 1048576) (i : Nat) (hi : i < m.length) {r : Bool} (d : Nat) : ∀ k : Int, 0 ≤ k → (k + d : Int) = (rd_T94 m i).f1.length →
  (edgesFrom m.length i (prevAt (rd_T94 m i).f1 k) ((rd_T94 m i).f1.drop k.toNat) = false → r = false) →
  (edgesFrom m.length i (prevAt (rd_T94 m i).f1 k) ((rd_T94 m i).f1.drop k.toNat) = true → Ev (fun n => spec_MachineOk.l1 n m (i : Int) ((rd_T94 m i).f1.length : Int)) r) → Ev (fun n => spec_MachineOk.l1 n m (i : Int) k) r := by
 have hz := stAt_small hs (i : Int)
 induction d with
 | zero =>
  intro k h0 hk _ yes
  rw [edge_last k h0 (by omega)] at yes
  obtain rfl : k = ((rd_T94 m i).f1.length : Int) := by omega
  exact yes rfl
 | succ d ih =>
  intro k h0 hk no yes
  have hlt : k < ((rd_T94 m i).f1.length : Int) := by omega
  rw [eg_drop _ k h0 hlt] at no yes
  have ihk := ih (k + 1) (by omega) (by omega)
  rw [prev_next _ k h0] at ihk
  simp only [edgesFrom] at no yes
  refine Ev.step (fun n => spec_MachineOk.l1.eq_2 _ _ _ _) (eP (eP (evPos hlt (evPos h0 (evCall (in_spec _ _ _) ?_)))))
  cases c1 : (decide (97 ≤ (rd_T100 (rd_T94 m i).f1 k).f0) && decide ((rd_T100 (rd_T94 m i).f1 k).f0 ≤ 122)) with
  | false =>
   rw [c1] at no
   exact evNeg (by simp) (evTo (Ev.now _) (no (by simp)).symm)
  | true =>
   rw [c1] at no yes
   refine evPos rfl (evCall (in_spec _ _ _) ?_)
   rw [w6 (n := (i : Int) + 1), w6 (n := (m.length : Int) - 1)]
   cases c2 : (decide ((i : Int) + 1 ≤ (rd_T100 (rd_T94 m i).f1 k).f1) && decide ((rd_T100 (rd_T94 m i).f1 k).f1 ≤ (m.length : Int) - 1)) with
   | false =>
    rw [c2] at no
    exact evNeg (by simp) (evTo (Ev.now _) (no (by simp)).symm)
   | true =>
    rw [c2] at no yes
    refine evPos rfl ?_
    rw [w6 (n := k + 1)]
    by_cases c3 : k > 0
    ·rw [w6 (n := k - 1)]
     have hp : prevAt (rd_T94 m i).f1 k = (rd_T100 (rd_T94 m i).f1 (k - 1)).f0 := by
      unfold prevAt
      rw [if_neg (by omega)]
     rw [hp] at no yes
     refine evPos c3 (eP (eP ?_))
     by_cases c4 : (rd_T100 (rd_T94 m i).f1 (k - 1)).f0 ≥ (rd_T100 (rd_T94 m i).f1 k).f0
     ·exact evPos c4 (evTo (Ev.now _) (no (by rw [decide_eq_false (by omega)]; simp)).symm)
     ·rw [decide_eq_true (by omega)] at no yes
      simp only [Bool.true_and] at no yes
      exact evNeg c4 (ihk no yes)
    ·have hp : prevAt (rd_T94 m i).f1 k = 0 := by
      unfold prevAt
      rw [if_pos (by omega)]
     simp only [Bool.and_eq_true, decide_eq_true_eq] at c1
     rw [hp, decide_eq_true (by omega)] at no yes
     simp only [Bool.true_and] at no yes
     exact evNeg c3 (ihk no yes)
theorem ok_spec_loop (m : List St) (hm : m.length ≤ 1048576) (hs : ∀ s ∈ m, s.f1.length ≤ 1048576) {r : Bool} (no : allOk m m.length = false → r = false)
  (yes : allOk m m.length = true → Ev (fun n => (spec_l1In.f (m.length : Int) 1 400).bind fun t163 => (if t163 = true then ((spec_l3Deep.f n m).bind fun t164 => (some (decide (t164 ≤ 12)))) else (some false))) r)
  (d : Nat) : ∀ i : Nat, i + d = m.length → (∀ j : Nat, j < i → stOk m j = true) → Ev (fun n => spec_MachineOk.l0 n m (i : Int)) r := by
 induction d with
 | zero =>
  intro i hi h
  exact Ev.step (fun n => spec_MachineOk.l0.eq_2 _ _ _) (eN (yes (allOk_of (fun j hj => h j (by omega)))))
 | succ d ih =>
  intro i hi h
  have bad : stOk m i = false → r = false := by
   intro hb
   refine no ?_
   cases e : allOk m m.length with
   | false => rfl
   | true =>
    have := allOk_at e i (by omega)
    rw [hb] at this
    cases this
  have hz := stAt_small hs (i : Int)
  refine Ev.step (fun n => spec_MachineOk.l0.eq_2 _ _ _) (eP (ok_spec_edges m hm hs i (by omega) (rd_T94 m i).f1.length 0 (by omega) (by omega) (fun hf => bad ?_) (fun ht => ?_)))
  ·have hf' : edgesFrom m.length i 0 (rd_T94 m i).f1 = false := hf
   simp [stOk, hf']
  ·have ht' : edgesFrom m.length i 0 (rd_T94 m i).f1 = true := ht
   have good : stOk m i = true → Ev (fun n => spec_MachineOk.l0 n m (wrap64 ((i : Int) + 1))) r := by
    intro hg
    rw [w6]
    refine ih (i + 1) (by omega) (fun j hj => ?_)
    by_cases c : j = i
    ·rw [c]; exact hg
    ·exact h j (by omega)
   refine Ev.step (fun n => spec_MachineOk.l1.eq_2 _ _ _ _) (eP (eP (eN ?_)))
   by_cases c : (i : Int) > 0
   ·refine evPos c ?_
    by_cases c2 : (rd_T94 m i).f0 = true
    ·exact evPos c2 (good (by simp [stOk, ht', c2]))
    ·refine evNeg c2 ?_
     by_cases c3 : ((rd_T94 m i).f1.length : Int) = 0
     ·refine evPos c3 (evTo (Ev.now _) (bad ?_).symm)
      have hnil : (rd_T94 m i).f1 = [] := List.length_eq_zero_iff.1 (by omega)
      simp [stOk, c2, hnil]
      omega
     ·refine evNeg c3 (good ?_)
      have hne : (rd_T94 m i).f1 ≠ [] := fun h => c3 (by rw [h]; rfl)
      simp [stOk, ht', hne]
   ·exact evNeg c (good (by simp [stOk, ht']; omega))
theorem deep_bounds {m : List St} {i : Nat} {dp : List Int} (hi : i < m.length) (hok : stOk m i = true) (hl : dp.length = m.length) (hz : rd dp (i : Int) = 0)
  (hb : ∀ j : Nat, i < j → j < m.length → 0 ≤ rd dp j ∧ rd dp j ≤ (m.length : Int) - j) :
  (∀ e ∈ (rd_T94 m i).f1, 0 ≤ e.f1 ∧ e.f1 < m.length ∧ (i : Int) < e.f1 ∧ 0 ≤ rd dp e.f1 ∧ rd dp e.f1 + 1 ≤ (m.length : Int) - i) := by
 intro e he
 simp only [stOk, Bool.and_eq_true] at hok
 obtain ⟨_, _, g3, g4, _⟩ := edges_mem hok.1 e he
 have := hb e.f1.toNat (by omega) (by omega)
 rw [show ((e.f1.toNat : Nat) : Int) = e.f1 from by omega] at this
 exact ⟨by omega, by omega, by omega, by omega, by omega⟩
theorem deep_edges (m : List St) (hm : m.length ≤ 400) (i : Nat) (hi : i < m.length) {r : Int} (es : List Eg) : ∀ (pre : List Eg) (dp : List Int), (rd_T94 m i).f1 = pre ++ es → (rd_T94 m i).f1.length ≤ 1048576 → dp.length = m.length →
  0 ≤ rd dp (i : Int) → rd dp (i : Int) ≤ 400 → (∀ e ∈ es, 0 ≤ e.f1 ∧ e.f1 < m.length ∧ (i : Int) < e.f1 ∧ 0 ≤ rd dp e.f1 ∧ rd dp e.f1 + 1 ≤ 400) →
  (Ev (fun n => spec_l3Deep.l0 n m (dp.set i (deepFold dp (rd dp (i : Int)) es)) ((i : Int) - 1)) r) → Ev (fun n => spec_l3Deep.l1 n m dp (i : Int) (pre.length : Int)) r := by
 induction es with
 | nil =>
  intro pre dp hp hs hl hv hv2 _ next
  rw [List.append_nil] at hp
  refine Ev.step (fun n => spec_l3Deep.l1.eq_2 _ _ _ _ _) (eP (eP (evNeg (by rw [← hp]; exact Int.lt_irrefl _) ?_)))
  rw [w6]
  have e : dp.set i (rd dp (i : Int)) = dp := by
   refine List.ext_getElem (by simp) (fun j h1 h2 => ?_)
   by_cases c : i = j
   ·subst c
    simp [rd, List.getD_eq_getElem?_getD, h2]
   ·simp [List.getElem_set_ne c]
  simp only [deepFold] at next
  rw [e] at next
  exact next
 | cons x es ih =>
  intro pre dp hp hs hl hv hv2 he next
  have hx := he x List.mem_cons_self
  have hlen : (rd_T94 m i).f1.length = pre.length + (es.length + 1) := by rw [hp]; simp
  have hat : rd_T100 (rd_T94 m i).f1 (pre.length : Int) = x := by
   simp [rd_T100, hp, List.getD_eq_getElem?_getD]
  have hp' : (rd_T94 m i).f1 = (pre ++ [x]) ++ es := by rw [hp]; simp
  have hpl : ((pre ++ [x]).length : Int) = (pre.length : Int) + 1 := by simp
  refine Ev.step (fun n => spec_l3Deep.l1.eq_2 _ _ _ _ _) (eP (eP (eP (eP ?_))))
  have hat' : rd_T100 (rd_T94 m (i : Int)).f1 (pre.length : Int) = x := hat
  rw [hat', w6 (n := rd dp x.f1 + 1), w6 (n := (pre.length : Int) + 1), ← hpl]
  refine eP (eP (eP ?_))
  have same (v : Int) (y : Eg) (hy : y ∈ es) : rd (dp.set (i : Int).toNat v) y.f1 = rd dp y.f1 := by
   have := he y (List.mem_cons_of_mem _ hy)
   exact rd_set_ne dp (i : Int) y.f1 v (by omega) (by omega) (by omega)
  have foldsame (v : Int) : ∀ (l : List Eg) (u : Int), (∀ y ∈ l, y ∈ es) → deepFold (dp.set (i : Int).toNat v) u l = deepFold dp u l := by
   intro l
   induction l with
   | nil => intro u _; rfl
   | cons y l ihl =>
    intro u hy
    simp only [deepFold]
    rw [same v y (hy y List.mem_cons_self), ihl _ (fun z hz => hy z (List.mem_cons_of_mem _ hz))]
  simp only [deepFold] at next
  by_cases c : rd dp x.f1 + 1 > rd dp (i : Int)
  ·rw [if_pos c] at next
   have hset : rd (dp.set (i : Int).toNat (rd dp x.f1 + 1)) (i : Int) = rd dp x.f1 + 1 := rd_set_eq dp (i : Int) _ (by omega) (by omega)
   refine evPos c (ih (pre ++ [x]) _ hp' hs (by simpa using hl) (by rw [hset]; omega) (by rw [hset]; omega) (fun y hy => ?_) ?_)
   ·have := he y (List.mem_cons_of_mem _ hy)
    rw [same _ y hy]
    exact this
   ·rw [hset, foldsame _ es _ (fun y hy => hy), Int.toNat_natCast, List.set_set]
    exact next
  ·rw [if_neg c] at next
   exact evNeg c (ih (pre ++ [x]) dp hp' hs hl hv hv2 (fun y hy => he y (List.mem_cons_of_mem _ hy)) next)
theorem deep_loop (m : List St) (hm : m.length ≤ 400) (h1 : 1 ≤ m.length) (hs : ∀ s ∈ m, s.f1.length ≤ 1048576) (hok : allOk m m.length = true) (i : Nat) : ∀ dp : List Int, i ≤ m.length → dp.length = m.length → (∀ j : Nat, j < i → rd dp j = 0) →
  (∀ j : Nat, i ≤ j → j < m.length → 0 ≤ rd dp j ∧ rd dp j ≤ (m.length : Int) - j) → Ev (fun n => spec_l3Deep.l0 n m dp ((i : Int) - 1)) (rd (deepGo m i dp) 0) := by
 induction i with
 | zero =>
  intro dp _ hl _ _
  exact Ev.step (fun n => spec_l3Deep.l0.eq_2 _ _ _ _) (eN (eP (Ev.now _)))
 | succ i ih =>
  intro dp hi hl hz hb
  have hst := allOk_at hok i (by omega)
  have hz0 := hz i (by omega)
  have hbd := deep_bounds (by omega) hst hl hz0 (fun j h1 h2 => hb j (by omega) h2)
  have hfb := deepFold_bounds (dp := dp) (b := (m.length : Int) - i) (es := (rd_T94 m i).f1) (v := 0) (by omega) (by omega) (fun e he => by have := hbd e he; omega)
  refine Ev.step (fun n => spec_l3Deep.l0.eq_2 _ _ _ _) (eP ?_)
  rw [show (((i + 1 : Nat) : Int) - 1) = (i : Int) from by omega]
  refine deep_edges m hm i (by omega) (rd_T94 m i).f1 [] dp rfl (stAt_small hs _) hl (by omega) (by omega) (fun e he => by have := hbd e he; omega) ?_
  rw [hz0]
  simp only [deepGo]
  rw [hz0]
  have hset (j : Nat) (hj : j < m.length) : rd (dp.set i (deepFold dp 0 (rd_T94 m i).f1)) (j : Int) = if j = i then deepFold dp 0 (rd_T94 m i).f1 else rd dp j := by
   by_cases c : j = i
   ·rw [if_pos c, c]
    have := rd_set_eq dp (i : Int) (deepFold dp 0 (rd_T94 m i).f1) (by omega) (by omega)
    simpa using this
   ·rw [if_neg c]
    have := rd_set_ne dp (i : Int) (j : Int) (deepFold dp 0 (rd_T94 m i).f1) (by omega) (by omega) (by omega)
    simpa using this
  refine ih _ (by omega) (by simpa using hl) (fun j hj => ?_) (fun j h1 h2 => ?_)
  ·rw [hset j (by omega), if_neg (by omega)]
   exact hz j (by omega)
  ·rw [hset j h2]
   by_cases c : j = i
   ·rw [if_pos c]
    subst c
    exact hfb
   ·rw [if_neg c]
    exact hb j (by omega) h2
theorem deep_spec (m : List St) (hm : m.length ≤ 400) (h1 : 1 ≤ m.length) (hs : ∀ s ∈ m, s.f1.length ≤ 1048576) (hok : allOk m m.length = true) : Ev (fun n => spec_l3Deep.f n m) (rd (deepGo m m.length (List.replicate m.length 0)) 0) := by
 unfold spec_l3Deep.f
 refine eP (eP ?_)
 rw [w6]
 exact deep_loop m hm h1 hs hok m.length _ (Nat.le_refl _) (by simp) (fun j hj => rd_replicate _ _ _ (by omega) (by omega)) (fun j h1 h2 => absurd h2 (by omega))
theorem machOk_spec (m : List St) (hm : m.length ≤ 1048576) (hs : ∀ s ∈ m, s.f1.length ≤ 1048576) : Ev (fun n => spec_MachineOk.f n m) (machOk m) := by
 refine ok_spec_loop m hm hs (fun h => by simp [machOk, h]) (fun h => ?_) m.length 0 (by omega) (fun j hj => absurd hj (by omega))
 refine evCall (in_spec _ _ _) ?_
 by_cases c : (1 ≤ (m.length : Int) ∧ (m.length : Int) ≤ 400)
 ·refine evPos (by simp; omega) (Ev.bind (deep_spec m (by omega) (by omega) hs h) (evTo (Ev.now _) ?_))
  simp only [machOk, h]
  rw [decide_eq_true (show 1 ≤ m.length from by omega), decide_eq_true (show m.length ≤ 400 from by omega)]
  simp
 ·refine evNeg (by simp; omega) (evTo (Ev.now _) ?_)
  cases e : machOk m with
  | false => rfl
  | true =>
   simp only [machOk, Bool.and_eq_true, decide_eq_true_eq] at e
   omega
theorem within_impl (n a b : Int) : impl_within.f n a b = some (decide (a ≤ n) && decide (n ≤ b)) := by
 unfold impl_within.f
 by_cases c : n ≥ a
 ·rw [if_pos c]; simp [c]
 ·rw [if_neg c]; simp; omega
theorem longFold_bounds {dp : List Int} {b : Int} : ∀ {es : List Eg} {v : Int}, -1 ≤ v → v ≤ b → (∀ e ∈ es, rd dp e.f1 + 1 ≤ b) → -1 ≤ longFold dp v es ∧ longFold dp v es ≤ b := by
 intro es
 induction es with
 | nil => intro v h0 h1 _; exact ⟨h0, h1⟩
 | cons e es ih =>
  intro v h0 h1 h
  have he := h e List.mem_cons_self
  simp only [longFold]
  refine ih ?_ ?_ (fun x hx => h x (List.mem_cons_of_mem _ hx)) <;> unfold mx <;> repeat' split
  all_goals omega
theorem longFold_same {dp dq : List Int} : ∀ {es : List Eg} {v : Int}, (∀ e ∈ es, rd dq e.f1 = rd dp e.f1) → longFold dq v es = longFold dp v es := by
 intro es
 induction es with
 | nil => intro v _; rfl
 | cons e es ih =>
  intro v h
  simp only [longFold]
  rw [h e List.mem_cons_self]
  exact ih (fun x hx => h x (List.mem_cons_of_mem _ hx))
theorem ok_impl_edges (m : List St) (hm : m.length ≤ 400) (i : Nat) (hi : i < m.length) (hs : (rd_T94 m i).f1.length ≤ 1048576) {r ends : Bool} (es : List Eg) : ∀ (pre : List Eg) (dp : List Int), (rd_T94 m i).f1 = pre ++ es → dp.length = m.length →
  -1 ≤ rd dp (i : Int) → rd dp (i : Int) ≤ 400 → (∀ j : Nat, i < j → j < m.length → -1 ≤ rd dp j ∧ rd dp j + 1 ≤ 400) →
  (edgesFrom m.length i (prevAt (rd_T94 m i).f1 pre.length) es = false → r = false) →
  (edgesFrom m.length i (prevAt (rd_T94 m i).f1 pre.length) es = true → Ev (fun n => impl_MachineOk.l0 n m (dp.set i (longFold dp (rd dp (i : Int)) es)) ((i : Int) - 1)) r) →
  Ev (fun n => impl_MachineOk.l1 n m dp (i : Int) (rd_T94 m i).f1 ((rd_T94 m i).f1.length : Int) (pre.length : Int) ends (rd_T94 m i).f1) r := by
 induction es with
 | nil =>
  intro pre dp hp hl hv hv2 _ _ yes
  rw [List.append_nil] at hp
  refine Ev.step (fun n => impl_MachineOk.l1.eq_2 _ _ _ _ _ _ _ _ _) (evNeg (by rw [← hp]; exact Int.lt_irrefl _) ?_)
  rw [w6]
  have e : dp.set i (rd dp (i : Int)) = dp := by
   refine List.ext_getElem (by simp) (fun j h1 h2 => ?_)
   by_cases c : i = j
   ·subst c
    simp [rd, List.getD_eq_getElem?_getD, h2]
   ·simp [List.getElem_set_ne c]
  have next := yes rfl
  simp only [longFold] at next
  rw [e] at next
  exact next
 | cons x es ih =>
  intro pre dp hp hl hv hv2 hb no yes
  have hlen : (rd_T94 m i).f1.length = pre.length + (es.length + 1) := by rw [hp]; simp
  have hat : rd_T100 (rd_T94 m i).f1 (pre.length : Int) = x := by
   simp [rd_T100, hp, List.getD_eq_getElem?_getD]
  have hat' : rd_T100 (rd_T94 m i).f1 (pre.length : Int) = x := hat
  have hp' : (rd_T94 m i).f1 = (pre ++ [x]) ++ es := by rw [hp]; simp
  have hpl : ((pre ++ [x]).length : Int) = (pre.length : Int) + 1 := by simp
  have hpn : prevAt (rd_T94 m i).f1 ((pre ++ [x]).length : Int) = x.f0 := by
   rw [hpl, prev_next _ _ (by omega), hat]
  have ihx (dq : List Int) := ih (pre ++ [x]) dq hp'
  rw [hpn] at ihx
  simp only [edgesFrom] at no yes
  refine Ev.step (fun n => impl_MachineOk.l1.eq_2 _ _ _ _ _ _ _ _ _) (eP (eP (eP ?_)))
  rw [hat']
  refine evCall (within_impl _ _ _) ?_
  have stop : r = false → Ev (fun n => impl_MachineOk.j4 n m dp (i : Int) (rd_T94 m i).f1 ((rd_T94 m i).f1.length : Int) (pre.length : Int) true ends (rd_T94 m i).f1 x.f0 x.f1) r := fun h => Ev.step (fun n => impl_MachineOk.j4.eq_2 _ _ _ _ _ _ _ _ _ _ _ _) (evPos rfl (evTo (Ev.now _) h.symm))
  cases c1 : (decide (97 ≤ x.f0) && decide (x.f0 ≤ 122)) with
  | false =>
   rw [c1] at no
   exact evNeg (by simp) (stop (no (by simp)))
  | true =>
   rw [c1] at no yes
   refine evPos rfl ?_
   rw [w6 (n := (i : Int) + 1), w6 (n := (m.length : Int) - 1)]
   have last : (decide (prevAt (rd_T94 m i).f1 (pre.length : Int) < x.f0)) = true → Ev (fun n => (impl_within.f x.f1 ((i : Int) + 1) ((m.length : Int) - 1)).bind fun t => impl_MachineOk.j4 n m dp (i : Int) (rd_T94 m i).f1 ((rd_T94 m i).f1.length : Int) (pre.length : Int) (!t) ends (rd_T94 m i).f1 x.f0 x.f1) r := by
    intro c3
    rw [c3] at no yes
    refine evCall (within_impl _ _ _) ?_
    cases c2 : (decide ((i : Int) + 1 ≤ x.f1) && decide (x.f1 ≤ (m.length : Int) - 1)) with
    | false =>
     rw [c2] at no
     exact stop (no (by simp))
    | true =>
     rw [c2] at no yes
     simp only [Bool.true_and] at no yes
     simp only [Bool.and_eq_true, decide_eq_true_eq] at c2
     have hx := hb x.f1.toNat (by omega) (by omega)
     rw [show ((x.f1.toNat : Nat) : Int) = x.f1 from by omega] at hx
     refine Ev.step (fun n => impl_MachineOk.j4.eq_2 _ _ _ _ _ _ _ _ _ _ _ _) (evNeg (by simp) (eP (eP ?_)))
     rw [w6 (n := (pre.length : Int) + 1), ← hpl]
     by_cases c4 : rd dp x.f1 ≥ 0
     ·rw [w6 (n := rd dp x.f1 + 1)]
      have hmx : mx (rd dp (i : Int)) (rd dp x.f1 + 1) ≤ 400 ∧ -1 ≤ mx (rd dp (i : Int)) (rd dp x.f1 + 1) := by unfold mx; split <;> omega
      have hset : rd (dp.set (i : Int).toNat (mx (rd dp (i : Int)) (rd dp x.f1 + 1))) (i : Int) = mx (rd dp (i : Int)) (rd dp x.f1 + 1) := rd_set_eq dp (i : Int) _ (by omega) (by omega)
      refine evPos c4 (eP (eP (ihx _ (by simpa using hl) (by rw [hset]; omega) (by rw [hset]; omega) (fun j h1 h2 => ?_) no (fun ht => ?_))))
      ·have := rd_set_ne dp (i : Int) (j : Int) (mx (rd dp (i : Int)) (rd dp x.f1 + 1)) (by omega) (by omega) (by omega)
       rw [this]
       exact hb j h1 h2
      ·have next := yes ht
       simp only [longFold] at next
       rw [if_pos c4] at next
       rw [hset, longFold_same (dp := dp) (fun e he => ?_), Int.toNat_natCast, List.set_set]
       ·exact next
       ·obtain ⟨_, _, g3, g4, _⟩ := edges_mem ht e he
        exact rd_set_ne dp (i : Int) e.f1 _ (by omega) (by omega) (by omega)
     ·refine evNeg c4 (ihx dp hl hv hv2 hb no (fun ht => ?_))
      have next := yes ht
      simp only [longFold] at next
      rw [if_neg c4] at next
      exact next
   by_cases c3 : (pre.length : Int) > 0
   ·rw [w6 (n := (pre.length : Int) - 1)]
    have hpv : prevAt (rd_T94 m i).f1 (pre.length : Int) = (rd_T100 (rd_T94 m i).f1 ((pre.length : Int) - 1)).f0 := by
     unfold prevAt
     rw [if_neg (by omega)]
    refine evPos c3 (eP (eP ?_))
    by_cases c4 : (rd_T100 (rd_T94 m i).f1 ((pre.length : Int) - 1)).f0 ≥ x.f0
    ·refine evPos c4 (stop (no ?_))
     rw [hpv, decide_eq_false (show ¬ (rd_T100 (rd_T94 m i).f1 ((pre.length : Int) - 1)).f0 < x.f0 from by omega)]
     simp
    ·refine evNeg c4 (last ?_)
     rw [hpv]
     exact decide_eq_true (by omega)
   ·refine evNeg c3 (last ?_)
    simp only [Bool.and_eq_true, decide_eq_true_eq] at c1
    unfold prevAt
    rw [if_pos (by omega)]
    exact decide_eq_true (by omega)
theorem ok_impl_loop (m : List St) (hm : m.length ≤ 400) (h1 : 1 ≤ m.length) (hs : ∀ s ∈ m, s.f1.length ≤ 1048576) (i : Nat) : ∀ dp : List Int, i ≤ m.length → dp.length = m.length →
  (∀ j : Nat, i ≤ j → j < m.length → -1 ≤ rd dp j ∧ rd dp j ≤ (m.length : Int) - j) → Ev (fun n => impl_MachineOk.l0 n m dp ((i : Int) - 1)) (longGo m i dp) := by
 induction i with
 | zero =>
  intro dp _ hl _
  exact Ev.step (fun n => impl_MachineOk.l0.eq_2 _ _ _ _) (eN (eP (Ev.now _)))
 | succ i ih =>
  intro dp hi hl hb
  have hz := stAt_small hs (i : Int)
  refine Ev.step (fun n => impl_MachineOk.l0.eq_2 _ _ _ _) ?_
  rw [show (((i + 1 : Nat) : Int) - 1) = (i : Int) from by omega]
  refine eP (eP (eP ?_))
  have main : (decide ((i : Int) = 0) || (rd_T94 m i).f0 || !(rd_T94 m i).f1.isEmpty) = true → Ev (fun n => impl_MachineOk.j1 n m dp (i : Int) false (rd_T94 m i).f0 (rd_T94 m i).f1) (longGo m (i + 1) dp) := by
   intro hc
   have hst : stOk m i = edgesFrom m.length i 0 (rd_T94 m i).f1 := by
    unfold stOk
    rw [hc, Bool.and_true]
   have run (v : Int) (hv0 : -1 ≤ v) (hv1 : v ≤ 0) (hv : v = if (rd_T94 m i).f0 = true then 0 else -1) : Ev (fun n => impl_MachineOk.l1 n m (dp.set i v) (i : Int) (rd_T94 m i).f1 ((rd_T94 m i).f1.length : Int) 0 (rd_T94 m i).f0 (rd_T94 m i).f1) (longGo m (i + 1) dp) := by
    have hset : rd (dp.set i v) (i : Int) = v := by
     have := rd_set_eq dp (i : Int) v (by omega) (by omega)
     simpa using this
    have hne (j : Int) (h0 : 0 ≤ j) (hj : (i : Int) ≠ j) : rd (dp.set i v) j = rd dp j := by
     have := rd_set_ne dp (i : Int) j v (by omega) h0 hj
     simpa using this
    refine ok_impl_edges m hm i (by omega) hz (rd_T94 m i).f1 [] (dp.set i v) rfl (by simpa using hl) (by rw [hset]; omega) (by rw [hset]; omega) (fun j q1 q2 => ?_) (fun hf => ?_) (fun ht => ?_)
    ·rw [hne j (by omega) (by omega)]
     have := hb j (by omega) q2
     omega
    ·have hf' : edgesFrom m.length i 0 (rd_T94 m i).f1 = false := hf
     simp only [longGo]
     rw [hst, hf', Bool.false_and]
    ·have ht' : edgesFrom m.length i 0 (rd_T94 m i).f1 = true := ht
     have hto (e : Eg) (he : e ∈ (rd_T94 m i).f1) : (i : Int) < e.f1 ∧ e.f1 < m.length := by
      obtain ⟨_, _, g3, g4, _⟩ := edges_mem ht' e he
      omega
     simp only [longGo]
     rw [hst, ht', Bool.true_and, hset, List.set_set, longFold_same (dp := dp) (fun e he => hne e.f1 (by have := hto e he; omega) (by have := hto e he; omega)), ← hv]
     have hfb := longFold_bounds (dp := dp) (b := (m.length : Int) - i) (es := (rd_T94 m i).f1) (v := v) (by omega) (by omega) (fun e he => by
      have q := hto e he
      have := hb e.f1.toNat (by omega) (by omega)
      rw [show ((e.f1.toNat : Nat) : Int) = e.f1 from by omega] at this
      omega)
     refine ih _ (by omega) (by simpa using hl) (fun j q1 q2 => ?_)
     by_cases c : j = i
     ·subst c
      have := rd_set_eq dp (j : Int) (longFold dp v (rd_T94 m j).f1) (by omega) (by omega)
      rw [show (dp.set j (longFold dp v (rd_T94 m j).f1)) = (dp.set (j : Int).toNat (longFold dp v (rd_T94 m j).f1)) from by simp, this]
      exact hfb
     ·have := rd_set_ne dp (i : Int) (j : Int) (longFold dp v (rd_T94 m i).f1) (by omega) (by omega) (by omega)
      rw [show (dp.set i (longFold dp v (rd_T94 m i).f1)) = (dp.set (i : Int).toNat (longFold dp v (rd_T94 m i).f1)) from by simp, this]
      exact hb j (by omega) q2
   refine Ev.step (fun n => impl_MachineOk.j1.eq_2 _ _ _ _ _ _ _) (evNeg (by simp) (eP (eP (evCall rfl ?_))))
   rw [Int.toNat_natCast]
   by_cases ce : (rd_T94 m i).f0 = true
   ·refine evPos ce (Ev.step (fun n => impl_MachineOk.j2.eq_2 _ _ _ _ _ _) ?_)
    rw [List.set_set]
    exact run 0 (by omega) (by omega) (by rw [if_pos ce])
   ·exact evNeg ce (Ev.step (fun n => impl_MachineOk.j2.eq_2 _ _ _ _ _ _) (run (-1) (by omega) (by omega) (by rw [if_neg ce])))
  by_cases c : (i : Int) > 0
  ·refine evPos c ?_
   by_cases ce : (rd_T94 m i).f0 = true
   ·exact evPos ce (main (by simp [ce]))
   ·refine evNeg ce ?_
    by_cases cn : (rd_T94 m i).f1 = []
    ·have e1 : ((((rd_T94 m (i : Int)).f1).length : Int) == 0) = true := by
      have : (rd_T94 m (i : Int)).f1 = [] := cn
      rw [this]
      rfl
     rw [e1]
     refine Ev.step (fun n => impl_MachineOk.j1.eq_2 _ _ _ _ _ _ _) (evPos rfl (evTo (Ev.now _) ?_))
     have hf : stOk m i = false := by
      have c' : ¬ i = 0 := by omega
      simp [stOk, ce, cn, c']
     simp [longGo, hf]
    ·have hne : ((rd_T94 m i).f1.length : Int) ≠ 0 := fun h => cn (List.length_eq_zero_iff.1 (by omega))
     have e1 : ((((rd_T94 m (i : Int)).f1).length : Int) == 0) = false := beq_eq_false_iff_ne.2 hne
     rw [e1]
     exact main (by simp [cn])
  ·exact evNeg c (main (by simp; omega))
theorem machOk_impl (m : List St) (hm : m.length ≤ 1048576) (hs : ∀ s ∈ m, s.f1.length ≤ 1048576) : Ev (fun n => impl_MachineOk.f n m) (machOk m) := by
 unfold impl_MachineOk.f
 refine evCall (within_impl _ _ _) ?_
 by_cases c : (1 ≤ (m.length : Int) ∧ (m.length : Int) ≤ 400)
 ·refine evPos (by simp; omega) (eP (eP ?_))
  rw [w6]
  refine evTo (ok_impl_loop m (by omega) (by omega) hs m.length _ (Nat.le_refl _) (by simp) (fun j h1 h2 => absurd h2 (by omega))) ?_
  rw [longGo_ok m (by omega)]
  simp only [machOk]
  rw [decide_eq_true (show 1 ≤ m.length from by omega), decide_eq_true (show m.length ≤ 400 from by omega)]
  simp
 ·refine evNeg (by simp; omega) (evTo (Ev.now _) ?_)
  cases e : machOk m with
  | false => rfl
  | true =>
   simp only [machOk, Bool.and_eq_true, decide_eq_true_eq] at e
   omega
theorem ok_to {m : List St} {n : Nat} (hok : allOk m m.length = true) (i : Nat) (hi : i < m.length) : ∀ e ∈ (rd_T94 m i).f1, (i : Int) < e.f1 ∧ e.f1 < m.length := by
 intro e he
 have h := allOk_at hok i hi
 simp only [stOk, Bool.and_eq_true] at h
 obtain ⟨_, _, g3, g4, _⟩ := edges_mem h.1 e he
 omega
theorem machOk_facts {m : List St} (h : machOk m = true) : 1 ≤ m.length ∧ m.length ≤ 400 ∧ allOk m m.length = true := by
 simp only [machOk, Bool.and_eq_true, decide_eq_true_eq] at h
 exact ⟨h.1.1.1, h.1.1.2, h.1.2⟩
def hop (c : Int) : List Eg → Int
 | [] => -1
 | e :: es => if e.f0 = c then e.f1 else hop c es
def hopL (c : Int) : Int → List Eg → Int
 | v, [] => v
 | v, e :: es => hopL c (if e.f0 = c then e.f1 else v) es
theorem hopL_past {n i c : Int} : ∀ {es : List Eg} {p v : Int}, edgesFrom n i p es = true → c ≤ p → hopL c v es = v := by
 intro es
 induction es with
 | nil => intro p v _ _; rfl
 | cons e es ih =>
  intro p v h hc
  simp only [edgesFrom, Bool.and_eq_true, decide_eq_true_eq] at h
  obtain ⟨⟨_, h5⟩, h6⟩ := h
  simp only [hopL]
  rw [if_neg (by omega)]
  exact ih h6 (by omega)
theorem hopL_hop {n i c : Int} : ∀ {es : List Eg} {p : Int}, edgesFrom n i p es = true → hopL c (-1) es = hop c es := by
 intro es
 induction es with
 | nil => intro p _; rfl
 | cons e es ih =>
  intro p h
  simp only [edgesFrom, Bool.and_eq_true, decide_eq_true_eq] at h
  obtain ⟨_, h6⟩ := h
  simp only [hopL, hop]
  by_cases g : e.f0 = c
  ·rw [if_pos g, if_pos g]
   exact hopL_past h6 (by omega)
  ·rw [if_neg g, if_neg g]
   exact ih h6
theorem hop_bounds {c a b : Int} : ∀ {es : List Eg}, (∀ e ∈ es, a < e.f1 ∧ e.f1 < b) → hop c es = -1 ∨ (a < hop c es ∧ hop c es < b) := by
 intro es
 induction es with
 | nil => intro _; exact .inl rfl
 | cons e es ih =>
  intro h
  simp only [hop]
  by_cases g : e.f0 = c
  ·rw [if_pos g]; exact .inr (h e List.mem_cons_self)
  ·rw [if_neg g]; exact ih (fun x hx => h x (List.mem_cons_of_mem _ hx))
def trail (m : List St) (w : ByteArray) : Nat → Nat → Int → Int
 | 0, _, a => a
 | d + 1, i, a => if hop (wrap64 (bt w i)) (rd_T94 m a).f1 < 0 then -1 else trail m w d (i + 1) (hop (wrap64 (bt w i)) (rd_T94 m a).f1)
def knows (m : List St) (w : ByteArray) : Bool := machOk m && (decide (0 ≤ trail m w w.size 0 0) && (rd_T94 m (trail m w w.size 0 0)).f0)
theorem go_edges (m : List St) (w : ByteArray) (at_ : Nat) (i : Nat) (ha : at_ < m.length) (hi : i < w.size) (hs : (rd_T94 m at_).f1.length ≤ 1048576) {r : Int} (es : List Eg) : ∀ (pre : List Eg) (v : Int), (rd_T94 m at_).f1 = pre ++ es →
  (hopL (wrap64 (bt w i)) v es < 0 → r = -1) → (¬ hopL (wrap64 (bt w i)) v es < 0 → Ev (fun n => spec_l3Go.l0 n m w (hopL (wrap64 (bt w i)) v es) (wrap64 ((i : Int) + 1))) r) → Ev (fun n => spec_l3Go.l1 n m w (at_ : Int) (i : Int) v (pre.length : Int)) r := by
 induction es with
 | nil =>
  intro pre v hp no yes
  rw [List.append_nil] at hp
  refine Ev.step (fun n => spec_l3Go.l1.eq_2 _ _ _ _ _ _ _) (eP (eP (evNeg (by rw [← hp]; exact Int.lt_irrefl _) ?_)))
  simp only [hopL] at no yes
  by_cases c : v < 0
  ·exact evPos c (evTo (Ev.now _) (no c).symm)
  ·exact evNeg c (yes c)
 | cons e es ih =>
  intro pre v hp no yes
  have hlen : (rd_T94 m at_).f1.length = pre.length + (es.length + 1) := by rw [hp]; simp
  have hat : rd_T100 (rd_T94 m at_).f1 (pre.length : Int) = e := by simp [rd_T100, hp, List.getD_eq_getElem?_getD]
  have hpl : ((pre ++ [e]).length : Int) = (pre.length : Int) + 1 := by simp
  have hp' : (rd_T94 m at_).f1 = (pre ++ [e]) ++ es := by rw [hp]; simp
  refine Ev.step (fun n => spec_l3Go.l1.eq_2 _ _ _ _ _ _ _) (eP (eP (eP (eP (eP (eP ?_))))))
  rw [hat, w6 (n := (pre.length : Int) + 1), ← hpl]
  simp only [hopL] at no yes
  by_cases g : e.f0 = wrap64 (bt w i)
  ·rw [if_pos g] at no yes
   exact evPos g (ih (pre ++ [e]) _ hp' no yes)
  ·rw [if_neg g] at no yes
   exact evNeg g (ih (pre ++ [e]) _ hp' no yes)
theorem go_val (m : List St) (hm : m.length ≤ 400) (hs : ∀ s ∈ m, s.f1.length ≤ 1048576) (hok : allOk m m.length = true) (w : ByteArray) (hw : w.size ≤ 1048576) (d : Nat) : ∀ i at_ : Nat, i + d = w.size → at_ < m.length →
  Ev (fun n => spec_l3Go.l0 n m w (at_ : Int) (i : Int)) (trail m w d i at_) ∧ trail m w d i at_ < m.length := by
 induction d with
 | zero =>
  intro i a hi ha
  exact ⟨Ev.step (fun n => spec_l3Go.l0.eq_2 _ _ _ _ _) (eN (Ev.now _)), by simp only [trail]; omega⟩
 | succ d ih =>
  intro i a hi ha
  have hz := stAt_small hs (a : Int)
  have ho := allOk_at hok a ha
  simp only [stOk, Bool.and_eq_true] at ho
  have hh : hopL (wrap64 (bt w i)) (-1) (rd_T94 m a).f1 = hop (wrap64 (bt w i)) (rd_T94 m a).f1 := hopL_hop ho.1
  have hb := hop_bounds (c := wrap64 (bt w i)) (ok_to (n := 0) hok a ha)
  have hgo {r : Int} := go_edges m w a i ha (by omega) hz (r := r) (rd_T94 m a).f1 [] (-1) rfl
  rw [hh] at hgo
  by_cases c : hop (wrap64 (bt w i)) (rd_T94 m a).f1 < 0
  ·have e : trail m w (d + 1) i a = -1 := by simp only [trail]; rw [if_pos c]
   rw [e]
   exact ⟨Ev.step (fun n => spec_l3Go.l0.eq_2 _ _ _ _ _) (eP (hgo (fun _ => rfl) (fun h => absurd c h))), by omega⟩
  ·have e : trail m w (d + 1) i a = trail m w d (i + 1) (hop (wrap64 (bt w i)) (rd_T94 m a).f1) := by simp only [trail]; rw [if_neg c]
   rw [e]
   obtain ⟨h1, h3⟩ := ih (i + 1) (hop (wrap64 (bt w i)) (rd_T94 m a).f1).toNat (by omega) (by omega)
   rw [show (((hop (wrap64 (bt w i)) (rd_T94 m a).f1).toNat : Nat) : Int) = hop (wrap64 (bt w i)) (rd_T94 m a).f1 from by omega] at h1 h3
   refine ⟨Ev.step (fun n => spec_l3Go.l0.eq_2 _ _ _ _ _) (eP (hgo (fun h => absurd h c) (fun _ => ?_))), h3⟩
   rw [w6 (n := (i : Int) + 1)]
   exact h1
theorem step_impl (b : Bool) (x : Int) (l : List Eg) (hl : l.length ≤ 1048576) (es : List Eg) : ∀ pre : List Eg, l = pre ++ es → Ev (fun n => impl_State_step.l0 n x l (l.length : Int) (pre.length : Int)) (hop (wrap64 x) es) := by
 induction es with
 | nil =>
  intro pre hp
  rw [List.append_nil] at hp
  exact Ev.step (fun n => impl_State_step.l0.eq_2 _ _ _ _ _) (evNeg (by rw [← hp]; exact Int.lt_irrefl _) (Ev.now _))
 | cons e es ih =>
  intro pre hp
  have hlen : l.length = pre.length + (es.length + 1) := by rw [hp]; simp
  have hat : rd_T100 l (pre.length : Int) = e := by simp [rd_T100, hp, List.getD_eq_getElem?_getD]
  have hpl : ((pre ++ [e]).length : Int) = (pre.length : Int) + 1 := by simp
  have hp' : l = (pre ++ [e]) ++ es := by rw [hp]; simp
  refine Ev.step (fun n => impl_State_step.l0.eq_2 _ _ _ _ _) (eP (eP (eP ?_)))
  rw [hat]
  simp only [hop]
  by_cases g : e.f0 = wrap64 x
  ·rw [if_pos g]
   exact evPos g (Ev.now _)
  ·rw [if_neg g, w6 (n := (pre.length : Int) + 1), ← hpl]
   exact evNeg g (ih (pre ++ [e]) hp')
theorem follow_val (m : List St) (hm : m.length ≤ 400) (hs : ∀ s ∈ m, s.f1.length ≤ 1048576) (hok : allOk m m.length = true) (w : ByteArray) (hw : w.size ≤ 1048576) (d : Nat) : ∀ i at_ : Nat, i + d = w.size → at_ < m.length →
  Ev (fun n => impl_follow.l0 n m w (at_ : Int) (w.size : Int) (i : Int)) (trail m w d i at_) ∧ trail m w d i at_ < m.length := by
 induction d with
 | zero =>
  intro i a hi ha
  exact ⟨Ev.step (fun n => impl_follow.l0.eq_2 _ _ _ _ _ _) (eN (Ev.now _)), by simp only [trail]; omega⟩
 | succ d ih =>
  intro i a hi ha
  have hz := stAt_small hs (a : Int)
  have hb := hop_bounds (c := wrap64 (bt w i)) (ok_to (n := 0) hok a ha)
  have hstep : Ev (fun n => impl_State_step.f n (rd_T94 m a).f0 (rd_T94 m a).f1 (bt w i)) (hop (wrap64 (bt w i)) (rd_T94 m a).f1) := step_impl (rd_T94 m a).f0 (bt w i) (rd_T94 m a).f1 hz (rd_T94 m a).f1 [] rfl
  by_cases c : hop (wrap64 (bt w i)) (rd_T94 m a).f1 < 0
  ·have e : trail m w (d + 1) i a = -1 := by simp only [trail]; rw [if_pos c]
   rw [e]
   exact ⟨Ev.step (fun n => impl_follow.l0.eq_2 _ _ _ _ _ _) (eP (eP (eP (eP (eP (Ev.bind hstep (evPos c (Ev.now _)))))))), by omega⟩
  ·have e : trail m w (d + 1) i a = trail m w d (i + 1) (hop (wrap64 (bt w i)) (rd_T94 m a).f1) := by simp only [trail]; rw [if_neg c]
   rw [e]
   obtain ⟨h2, h3⟩ := ih (i + 1) (hop (wrap64 (bt w i)) (rd_T94 m a).f1).toNat (by omega) (by omega)
   rw [show (((hop (wrap64 (bt w i)) (rd_T94 m a).f1).toNat : Nat) : Int) = hop (wrap64 (bt w i)) (rd_T94 m a).f1 from by omega] at h2 h3
   refine ⟨Ev.step (fun n => impl_follow.l0.eq_2 _ _ _ _ _ _) (eP (eP (eP (eP (eP (Ev.bind hstep (evNeg c ?_))))))), h3⟩
   rw [w6 (n := (i : Int) + 1)]
   exact h2
theorem knows_impl (m : List St) (hm : m.length ≤ 1048576) (hs : ∀ s ∈ m, s.f1.length ≤ 1048576) (w : ByteArray) (hw : w.size ≤ 1048576) : Ev (fun n => impl_MachineKnows.f n m w) (knows m w) := by
 have i1 := machOk_impl m hm hs
 unfold impl_MachineKnows.f knows
 cases e : machOk m with
 | false =>
  rw [e] at i1
  exact Ev.bind i1 (evNeg (by simp) (Ev.now _))
 | true =>
  rw [e] at i1
  obtain ⟨g1, g2, g3⟩ := machOk_facts e
  obtain ⟨h2, h3⟩ := follow_val m g2 hs g3 w hw w.size 0 0 (by omega) (by omega)
  have h3' : trail m w w.size 0 0 < m.length := h3
  rw [Bool.true_and]
  by_cases c : trail m w w.size 0 0 ≥ 0
  ·rw [decide_eq_true (show 0 ≤ trail m w w.size 0 0 from c), Bool.true_and]
   exact Ev.bind i1 (evPos rfl (Ev.bind h2 (evPos c (evPos c (evPos h3' (Ev.now _))))))
  ·rw [decide_eq_false (show ¬ 0 ≤ trail m w w.size 0 0 from c), Bool.false_and]
   exact Ev.bind i1 (evPos rfl (Ev.bind h2 (evNeg c (Ev.now _))))
theorem letters_loop (s : ByteArray) (m : Int) (h : s.size ≤ 281474976710656) (d : Nat) : ∀ i : Int, 0 ≤ i → i ≤ s.size → (s.size : Int) - i = d →
  Ev (fun k => spec_l1Letters.l0 k s m i) (((bytesOf s).drop i.toNat).all low && decide ((s.size : Int) ≤ m)) := by
 induction d with
 | zero =>
  intro i h0 h1 hd
  refine Ev.step (fun k => spec_l1Letters.l0.eq_2 _ _ _ _) (eN ?_)
  rw [List.drop_eq_nil_of_le (by rw [bytesOf_length]; omega)]
  exact evTo (Ev.now _) (by simp)
 | succ d ih =>
  intro i h0 h1 hd
  refine Ev.step (fun k => spec_l1Letters.l0.eq_2 _ _ _ _) (eP (evPos h0 ?_))
  rw [bytes_drop s i h0 (by omega), List.all_cons]
  by_cases c : bt s i < 97
  ·exact evPos c (evTo (Ev.now _) (by simp [low]; omega))
  refine evNeg c ?_
  by_cases c1 : bt s i > 122
  ·exact evPos c1 (evTo (Ev.now _) (by simp [low]; omega))
  refine evNeg c1 ?_
  have e : low (bt s i) = true := (low_iff _).2 (by omega)
  rw [w6, e, Bool.true_and]
  exact ih (i + 1) (by omega) (by omega) (by omega)
theorem letters_spec (s : ByteArray) (m : Int) (h : s.size ≤ 140737488351232) : Ev (fun k => spec_l1Letters.f k s m) ((bytesOf s).all low && decide ((s.size : Int) ≤ m)) :=
 letters_loop s m (by omega) s.size 0 (by omega) (by omega) (by omega)
theorem l1Word_spec (s : ByteArray) (h : s.size ≤ 140737488351232) : Ev (fun k => spec_l1Word.f k s) (wordB s) := by
 unfold spec_l1Word.f
 by_cases c : (s.size : Int) > 0
 ·have hp : 0 < s.size := by omega
  refine evPos c (Ev.bind (letters_spec s 12 h) (evTo (Ev.now _) ?_))
  simp only [wordB, wordL, bytesOf_length, decide_eq_true hp, Bool.true_and]
  rw [Bool.and_comm]
  congr 1
  exact decide_eq_decide.2 (by omega)
 ·exact evNeg c (evTo (Ev.now _) (wordB_no (by omega)).symm)
theorem rdOf_get (l : List ByteArray) (i : Int) (_ : 0 ≤ i) (h : i.toNat < l.length) : rdOf ByteArray.empty l i = l[i.toNat] := by
 simp [rdOf, List.getD_eq_getElem?_getD, List.getElem?_eq_getElem h]
theorem put_end (l : List ByteArray) (s : ByteArray) (i : Int) (h0 : 0 ≤ i) (h1 : i ≤ l.length) (hl : l.length ≤ 1000000) : Ev (fun k => spec_l1Put.j2 k l s i false) (l.take i.toNat ++ s :: l.drop i.toNat) := by
 refine Ev.step (fun k => spec_l1Put.j2.eq_2 _ _ _ _ _) (evNeg (by simp) (evCall rfl (evPos h0 (evPos h1 (evCall rfl (evPos ?_ (evCall rfl (evCall rfl (evPos ?_ (evCall rfl (evCall rfl (evPos ?_ (evTo (Ev.now _) ?_)))))))))))))
 ·simp only [List.length_nil, List.length_take]
  omega
 ·simp only [List.nil_append, List.length_take, List.length_cons, List.length_nil]
  omega
 ·simp only [List.nil_append, List.length_append, List.length_take, List.length_cons, List.length_nil, List.length_drop]
  omega
 ·simp
theorem put_loop (l : List ByteArray) (s : ByteArray) (hl : l.length ≤ 1000000) (d : Nat) : ∀ i : Int, 0 ≤ i → i ≤ l.length → (l.length : Int) - i = d →
  Ev (fun k => spec_l1Put.l0 k l s i) (l.take i.toNat ++ putL (l.drop i.toNat) s) := by
 induction d with
 | zero =>
  intro i h0 h1 hd
  have e := put_end l s i h0 h1 hl
  rw [List.drop_eq_nil_of_le (by omega)] at e ⊢
  exact Ev.step (fun k => spec_l1Put.l0.eq_2 _ _ _ _) (eN (Ev.step (fun k => spec_l1Put.j1.eq_2 _ _ _ _ _) (evNeg (by simp) (evNeg (by omega) e))))
 | succ d ih =>
  intro i h0 h1 hd
  have hi : i.toNat < l.length := by omega
  have e := put_end l s i h0 h1 hl
  have ihe := ih (i + 1) (by omega) (by omega) (by omega)
  rw [List.drop_eq_getElem_cons hi] at e ⊢
  rw [show (i + 1).toNat = i.toNat + 1 from by omega, List.take_succ_eq_append_getElem hi] at ihe
  refine Ev.step (fun k => spec_l1Put.l0.eq_2 _ _ _ _) (eP (evPos h0 (Ev.step (fun k => spec_l1Put.j1.eq_2 _ _ _ _ _) ?_)))
  rw [rdOf_get l i h0 hi]
  generalize hx : l[i.toNat] = x at *
  by_cases c : Op.bytesLess x.toList s.toList = true
  ·refine evPos c ?_
   rw [w6]
   refine evTo ihe ?_
   simp [putL, ltS, c]
  ·refine evNeg c (eP (evPos h0 ?_))
   by_cases c2 : x = s
   ·refine Ev.step (fun k => spec_l1Put.j2.eq_2 _ _ _ _ _) (evPos (by simp [c2]) (evTo (Ev.now _) ?_))
    subst c2
    rw [show putL (x :: l.drop (i.toNat + 1)) x = x :: l.drop (i.toNat + 1) from by simp [putL, ltS_irrefl]]
    have : x :: l.drop (i.toNat + 1) = l.drop i.toNat := by rw [List.drop_eq_getElem_cons hi, hx]
    rw [this, List.take_append_drop]
   ·rw [show (x.toList == s.toList) = false from by rw [toList_beq]; simp [c2]]
    refine evTo e ?_
    simp [putL, ltS, c, c2]
theorem put_ev (l : List ByteArray) (s : ByteArray) (hl : l.length ≤ 1000000) : Ev (fun k => spec_l1Put.f k l s) (putL l s) :=
 evTo (put_loop l s hl l.length 0 (by omega) (by omega) (by omega)) (by simp)
theorem step_ev (l : List ByteArray) (s x : ByteArray) (hl : l.length ≤ 1000000) (hx : x.size ≤ 140737488351232) : Ev (fun k => spec_l1Step.f k l s x) (stepL s l x) := by
 unfold spec_l1Step.f
 by_cases c : x = s
 ·exact evPos (by rw [c]) (Ev.step (fun k => spec_l1Step.j0.eq_2 _ _ _ _) (evPos rfl (evTo (Ev.now _) (by simp [stepL, c]))))
 ·refine evNeg (fun h => c ((toList_iff _ _).1 h)) (Ev.bind (l1Word_spec x hx) (Ev.step (fun k => spec_l1Step.j0.eq_2 _ _ _ _) ?_))
  cases e : wordB x with
  | false => exact evPos rfl (evTo (Ev.now _) (by simp [stepL, e]))
  | true => exact evNeg (by simp) (Ev.bind (put_ev l x hl) (evTo (Ev.now _) (by simp [stepL, c, e])))
theorem w32 {n : Int} (h0 : -2147483648 ≤ n) (h1 : n ≤ 2147483647) : wrap32 n = n := by
 unfold wrap32
 omega
theorem near_end {s : ByteArray} {i : Nat} {l r : List ByteArray} (h1 : i ≤ s.size) (hs : s.size ≤ 100) (hl : l.length ≤ 1000 * i + 900)
  (next : ∀ l' : List ByteArray, l' = (swpAt s i).foldl (stepL s) l → Ev (fun k => spec_l1Near.l0 k s l' ((i + 1 : Nat) : Int)) r) : Ev (fun k => spec_l1Near.j2 k s l (i : Int)) r := by
 refine Ev.step (fun k => spec_l1Near.j2.eq_2 _ _ _ _) ?_
 rw [w6 (n := (i : Int) + 1), w6 (n := (i : Int) + 2)]
 by_cases c : (i : Int) + 1 < s.size
 ·have e1 : ((i : Int) + 1).toNat = i + 1 := by omega
  have e2 : ((i : Int) + 2).toNat = i + 2 := by omega
  have z0 : (s.extract 0 i).size = i := by rw [size_extract _ _ _ (by omega) (by omega)]; omega
  have z1 : (s.extract (i + 1) (i + 2)).size = 1 := by rw [size_extract _ _ _ (by omega) (by omega)]; omega
  have z2 : (s.extract i (i + 1)).size = 1 := by rw [size_extract _ _ _ (by omega) (by omega)]; omega
  have z3 : (s.extract (i + 2) s.size).size = s.size - (i + 2) := size_extract _ _ _ (by omega) (Nat.le_refl _)
  rw [Int.toNat_natCast, e1, e2]
  refine evPos c (eP (eP (eP (eP (eP (eP (eP (eP (evPos ?_ (eP (evPos ?_ (Ev.bind (step_ev l s _ (by omega) ?_) ?_))))))))))))
  ·rw [size_append]; omega
  ·rw [size_append, size_append]; omega
  ·rw [size_append, size_append, size_append]; omega
  ·exact next _ (by rw [swpAt, if_pos (by omega)]; rfl)
 ·exact evNeg c (next _ (by rw [swpAt, if_neg (by omega)]; rfl))
theorem near_letters {s : ByteArray} {i : Nat} {r : List ByteArray} (h1 : i ≤ s.size) (hs : s.size ≤ 100)
  (d : Nat) : ∀ (c : Nat) (l : List ByteArray), 97 ≤ c → c + d = 123 → l.length ≤ 1000 * i + (123 - d) * 2 →
  (∀ l' : List ByteArray, l' = (lettersAt s i c ++ delAt s i).foldl (stepL s) l → l'.length ≤ 1000 * i + 900 → Ev (fun k => spec_l1Near.j2 k s l' (i : Int)) r) → Ev (fun k => spec_l1Near.l1 k s l (i : Int) (c : Int)) r := by
 have z0 : (s.extract 0 i).size = i := by rw [size_extract _ _ _ (by omega) (by omega)]; omega
 have z1 : (s.extract i s.size).size = s.size - i := size_extract _ _ _ (by omega) (Nat.le_refl _)
 induction d with
 | zero =>
  intro c l hc hd hl next
  refine Ev.step (fun k => spec_l1Near.l1.eq_2 _ _ _ _ _) (eN ?_)
  rw [lettersAt_end s i c (by omega), List.nil_append] at next
  by_cases q : (i : Int) < s.size
  ·have z2 : (s.extract (i + 1) s.size).size = s.size - (i + 1) := size_extract _ _ _ (by omega) (Nat.le_refl _)
   rw [w6 (n := (i : Int) + 1), Int.toNat_natCast, show ((i : Int) + 1).toNat = i + 1 from by omega]
   refine evPos q (eP (eP (eP (eP (eP (Ev.bind (step_ev l s _ (by omega) (by rw [size_append]; omega)) ?_))))))
   refine next _ (by rw [delAt, if_pos (by omega)]; rfl) ?_
   have := (stepL_length s l (s.extract 0 i ++ s.extract (i + 1) s.size)).2
   omega
  ·exact evNeg q (next _ (by rw [delAt, if_neg (by omega)]; rfl) (by omega))
 | succ d ih =>
  intro c l hc hd hl next
  refine Ev.step (fun k => spec_l1Near.l1.eq_2 _ _ _ _ _) (eP (eP (eP (evCall rfl ?_))))
  have zc : (strOfNums [(c : Int) % 256]).size = 1 := one_size _
  rw [Int.toNat_natCast]
  refine eP (evPos (by rw [size_append]; omega) (Ev.bind (step_ev l s _ (by omega) (by rw [size_append, size_append]; omega)) ?_))
  have hl1 := (stepL_length s l ((s.extract 0 i ++ strOfNums [(c : Int) % 256]) ++ s.extract i s.size)).2
  rw [w32 (by omega) (by omega)]
  rw [lettersAt_step s i c (by omega)] at next
  by_cases q : (i : Int) < s.size
  ·have z2 : (s.extract (i + 1) s.size).size = s.size - (i + 1) := size_extract _ _ _ (by omega) (Nat.le_refl _)
   rw [w6 (n := (i : Int) + 1), show ((i : Int) + 1).toNat = i + 1 from by omega]
   refine evPos q (evCall rfl (eP (eP (eP (evPos (by rw [size_append]; omega) (Ev.bind (step_ev _ s _ (by omega) (by rw [size_append, size_append]; omega)) ?_))))))
   have hl2 := (stepL_length s (stepL s l ((s.extract 0 i ++ strOfNums [(c : Int) % 256]) ++ s.extract i s.size)) ((s.extract 0 i ++ strOfNums [(c : Int) % 256]) ++ s.extract (i + 1) s.size)).2
   refine ih (c + 1) _ (by omega) (by omega) (by omega) (fun l' h' => next l' ?_)
   rw [h', letAt, if_pos (by omega)]
   rfl
  ·refine evNeg q (ih (c + 1) _ (by omega) (by omega) (by omega) (fun l' h' => next l' ?_))
   rw [h', letAt, if_neg (by omega)]
   rfl
theorem near_loop {s : ByteArray} (hs : s.size ≤ 100) (d : Nat) : ∀ (i : Nat) (l : List ByteArray), i + d = s.size + 1 → l.length ≤ 1000 * i → Ev (fun k => spec_l1Near.l0 k s l (i : Int)) ((candsFrom s i).foldl (stepL s) l) := by
 induction d with
 | zero =>
  intro i l hd hl
  rw [candsFrom_end s i (by omega)]
  exact Ev.step (fun k => spec_l1Near.l0.eq_2 _ _ _ _) (eN (Ev.now _))
 | succ d ih =>
  intro i l hd hl
  refine Ev.step (fun k => spec_l1Near.l0.eq_2 _ _ _ _) (eP ?_)
  refine near_letters (c := 97) (d := 26) (by omega) hs _ (by omega) (by omega) (by omega) (fun l1 e1 hl1 => near_end (by omega) hs hl1 (fun l2 e2 => ?_))
  refine evTo (ih (i + 1) l2 (by omega) ?_) ?_
  ·rw [e2]
   have h1 : ((swpAt s i).foldl (stepL s) l1).length ≤ l1.length + (swpAt s i).length := foldStep_length s _ _
   have h2 : (swpAt s i).length ≤ 1 := by unfold swpAt; split <;> simp
   omega
  ·rw [candsFrom_step s i (by omega), List.foldl_append, e2, e1, candsAt, List.foldl_append, List.foldl_append, List.foldl_append]
theorem near_ev (s : ByteArray) (hs : s.size ≤ 100) : Ev (fun k => spec_l1Near.f k s) (nearL s) :=
 near_loop hs (s.size + 1) 0 [] (by omega) (by simp)
theorem lower_loop (s : ByteArray) (h : s.size ≤ 140737488351232) (d : Nat) : ∀ i : Int, 0 ≤ i → i ≤ s.size → (s.size : Int) - i = d →
  Ev (fun k => impl_lower.l0 k s (s.size : Int) i) (((bytesOf s).drop i.toNat).all low) := by
 induction d with
 | zero =>
  intro i h0 h1 hd
  refine Ev.step (fun k => impl_lower.l0.eq_2 _ _ _ _) (eN ?_)
  rw [List.drop_eq_nil_of_le (by rw [bytesOf_length]; omega)]
  exact evTo (Ev.now _) (by simp)
 | succ d ih =>
  intro i h0 h1 hd
  refine Ev.step (fun k => impl_lower.l0.eq_2 _ _ _ _) (eP (evPos h0 (eP ?_)))
  rw [bytes_drop s i h0 (by omega), List.all_cons]
  by_cases c : bt s i < 97
  ·exact evPos c (evTo (Ev.now _) (by simp [low]; omega))
  refine evNeg c ?_
  by_cases c1 : bt s i > 122
  ·exact evPos c1 (evTo (Ev.now _) (by simp [low]; omega))
  refine evNeg c1 ?_
  have e : low (bt s i) = true := (low_iff _).2 (by omega)
  rw [w6, e, Bool.true_and]
  exact ih (i + 1) (by omega) (by omega) (by omega)
theorem lower_impl (s : ByteArray) (h : s.size ≤ 140737488351232) : Ev (fun k => impl_lower.f k s) ((bytesOf s).all low) :=
 lower_loop s h s.size 0 (by omega) (by omega) (by omega)
theorem word_impl (s : ByteArray) (h : s.size ≤ 140737488351232) : Ev (fun k => impl_WordOk.f k s) (wordB s) := by
 unfold impl_WordOk.f
 refine evCall (within_impl _ _ _) ?_
 by_cases c : (1 ≤ (s.size : Int) ∧ (s.size : Int) ≤ 12)
 ·have hp : 0 < s.size := by omega
  have hq : s.size ≤ 12 := by omega
  refine evPos (by simp; omega) (Ev.bind (lower_impl s h) (evTo (Ev.now _) ?_))
  simp only [wordB, wordL, bytesOf_length, decide_eq_true hp, decide_eq_true hq, Bool.true_and]
 ·exact evNeg (by simp; omega) (evTo (Ev.now _) (wordB_no (by omega)).symm)
theorem cand_size (s x : ByteArray) (hx : x ∈ candsFrom s 0) : x.size ≤ s.size + 2 := by
 unfold candsFrom at hx
 obtain ⟨i, hi, hx⟩ := List.mem_flatMap.1 hx
 have hi2 := (List.mem_range'_1.1 hi).2
 have e1 : ∀ c : Int, (strOfNums [c]).size = 1 := fun _ => rfl
 have ex : ∀ a b : Nat, (s.extract a b).size ≤ b - a ∧ (s.extract a b).size ≤ s.size - a := by
  intro a b
  rw [← bytesOf_length, bytes_extract, List.length_take, List.length_drop, bytesOf_length]
  omega
 unfold candsAt at hx
 rcases List.mem_append.1 hx with hx | hx
 ·unfold lettersAt at hx
  obtain ⟨c, _, hx⟩ := List.mem_flatMap.1 hx
  have h1 := (ex 0 i).1
  have h2 := (ex i s.size).2
  have h3 := (ex (i + 1) s.size).2
  unfold letAt at hx
  split at hx
  ·rcases List.mem_cons.1 hx with rfl | hx
   ·unfold insB
    rw [size_append, size_append, e1]
    omega
   ·rw [List.mem_singleton.1 hx]
    unfold subB
    rw [size_append, size_append, e1]
    omega
  ·rw [List.mem_singleton.1 hx]
   unfold insB
   rw [size_append, size_append, e1]
   omega
 ·rcases List.mem_append.1 hx with hx | hx
  ·have h1 := (ex 0 i).1
   have h3 := (ex (i + 1) s.size).2
   unfold delAt at hx
   split at hx
   ·rw [List.mem_singleton.1 hx]
    unfold delB
    rw [size_append]
    omega
   ·cases hx
  ·have h1 := (ex 0 i).1
   have h2 := (ex (i + 1) (i + 2)).1
   have h3 := (ex i (i + 1)).1
   have h4 := (ex (i + 2) s.size).2
   unfold swpAt at hx
   split at hx
   ·rw [List.mem_singleton.1 hx]
    unfold swpB
    rw [size_append, size_append, size_append]
    omega
   ·cases hx
theorem go_ev (s : ByteArray) (l : List ByteArray) : ∀ xs : List ByteArray, xs.length + l.length ≤ 90000 → (∀ x ∈ l, x.size ≤ 1048576) → Ev (fun k => impl_Near.go k s l xs) (xs ++ l.filter (fun x => decide (x ≠ s) && wordB x)) := by
 induction l with
 | nil =>
  intro xs _ _
  exact evTo (Ev.now _) (by simp)
 | cons x l ih =>
  intro xs hl hz
  rw [List.length_cons] at hl
  have hz' : ∀ y ∈ l, y.size ≤ 1048576 := fun y hy => hz y (List.mem_cons_of_mem _ hy)
  have hx := hz x List.mem_cons_self
  show Ev (fun k => (impl_Near.put k s xs x).bind fun ys => impl_Near.go k s l ys) _
  by_cases c : x = s
  ·subst c
   refine Ev.bind (a := xs) (eP (evPos rfl (Ev.now _))) (evTo (ih xs (by omega) hz') ?_)
   simp
  ·refine Ev.bind (a := xs ++ (if wordB x = true then [x] else [])) (eP (evNeg (fun h => c ((toList_iff _ _).1 h)) (Ev.bind (word_impl x (by omega)) (evTo (Ev.now _) ?_)))) (evTo (ih _ ?_ hz') ?_)
   ·cases wordB x <;> simp
   ·rw [List.length_append]
    have : (if wordB x = true then [x] else []).length ≤ 1 := by split <;> simp
    omega
   ·cases e : wordB x <;> simp [c, e]
def nearB (s : ByteArray) : List ByteArray := if wordB s = true then nearL s else []
theorem near_impl (s : ByteArray) (h : s.size ≤ 140737488351232) : Ev (fun k => impl_Near.f k s) (nearB s) := by
 unfold impl_Near.f nearB
 refine Ev.bind (word_impl s h) ?_
 cases e : wordB s with
 | false => exact evNeg (by simp) (evTo (Ev.now _) (by simp))
 | true =>
  have hs := wordB_size e
  have hl := candsFrom_length s 0
  have hg := go_ev s (candsFrom s 0) [] (by simp; omega) (fun x hx => by have := cand_size s x hx; omega)
  refine evPos rfl (eP (Ev.bind hg (evTo (evEq (r := nearL s) ?_) (by simp))))
  have hf := List.length_filter_le (fun x => decide (x ≠ s) && wordB x) (candsFrom s 0)
  unfold impl_sorted.f
  rw [if_pos (by simp only [List.nil_append]; omega)]
  congr 1
  refine asc_ext (setL_asc _) (nearL_asc s) (fun x => ?_)
  rw [setL_mem, nearL_mem, List.nil_append, List.mem_filter]
  simp
theorem nearB_length (s : ByteArray) : (nearB s).length ≤ 100000 := by
 unfold nearB
 split
 ·rename_i e
  have h1 := nearL_length s
  have h2 := wordB_size e
  omega
 ·simp
def mgB (m : List St) (s : ByteArray) : List ByteArray := if machOk m = true ∧ wordB s = true then (nearL s).filter (fun w => knows m w) else []
theorem mg_drop {l : List ByteArray} {i : Nat} (h : i < l.length) : l.drop i = l[i] :: l.drop (i + 1) := (List.getElem_cons_drop ..).symm
theorem mgI_loop (m : List St) (hm : m.length ≤ 1048576) (hs : ∀ s ∈ m, s.f1.length ≤ 1048576) (ws : List ByteArray) (hl : ws.length ≤ 1000000) (hz : ∀ w ∈ ws, w.size ≤ 1048576) (d : Nat) : ∀ (i : Nat) (out : List ByteArray), i + d = ws.length → out.length ≤ i →
  Ev (fun k => impl_MachineGuesses.l0 k m out ws (ws.length : Int) (i : Int)) (out ++ (ws.drop i).filter (fun w => knows m w)) := by
 induction d with
 | zero =>
  intro i out hi ho
  have e : ws.drop i = [] := List.drop_eq_nil_iff.2 (by omega)
  rw [e]
  exact Ev.step (fun k => impl_MachineGuesses.l0.eq_2 ..) (eN (evTo (Ev.now _) (by simp)))
 | succ d ih =>
  intro i out hi ho
  have hi' : i < ws.length := by omega
  rw [mg_drop hi', List.filter_cons]
  refine Ev.step (fun k => impl_MachineGuesses.l0.eq_2 ..) (eP (eP (eP ?_)))
  rw [ba_get ws i hi', w6 (n := (i : Int) + 1)]
  refine Ev.bind (knows_impl m hm hs _ (hz _ (List.getElem_mem hi'))) ?_
  cases e : knows m ws[i] with
  | true => exact evPos rfl (eP (evTo (ih (i + 1) _ (by omega) (by simp; omega)) (by simp)))
  | false => exact evNeg (by simp) (evTo (ih (i + 1) _ (by omega) (by omega)) (by simp))
theorem mgS_loop (m : List St) (hm : m.length ≤ 1048576) (hs : ∀ s ∈ m, s.f1.length ≤ 1048576) (hok : machOk m = true) (ws : List ByteArray) (hl : ws.length ≤ 1000000) (hz : ∀ w ∈ ws, w.size ≤ 1048576) (d : Nat) : ∀ (i : Nat) (out : List ByteArray), i + d = ws.length → out.length ≤ i →
  Ev (fun k => spec_MachineGuesses.l0 k m out ws (i : Int)) (out ++ (ws.drop i).filter (fun w => knows m w)) := by
 obtain ⟨g1, g2, g3⟩ := machOk_facts hok
 induction d with
 | zero =>
  intro i out hi ho
  have e : ws.drop i = [] := List.drop_eq_nil_iff.2 (by omega)
  rw [e]
  exact Ev.step (fun k => spec_MachineGuesses.l0.eq_2 ..) (eN (evTo (Ev.now _) (by simp)))
 | succ d ih =>
  intro i out hi ho
  have hi' : i < ws.length := by omega
  have hw := hz _ (List.getElem_mem hi')
  rw [mg_drop hi', List.filter_cons]
  refine Ev.step (fun k => spec_MachineGuesses.l0.eq_2 ..) (eP (eP ?_))
  rw [ba_get ws i hi', w6 (n := (i : Int) + 1)]
  obtain ⟨h1', h3'⟩ := go_val m g2 hs g3 ws[i] hw ws[i].size 0 0 (by omega) (by omega)
  have h1 : Ev (fun n => spec_l3Go.l0 n m ws[i] 0 0) (trail m ws[i] ws[i].size 0 0) := h1'
  have h3 : trail m ws[i] ws[i].size 0 0 < m.length := h3'
  have ek : knows m ws[i] = (decide (0 ≤ trail m ws[i] ws[i].size 0 0) && (rd_T94 m (trail m ws[i] ws[i].size 0 0)).f0) := by
   unfold knows
   rw [hok, Bool.true_and]
  refine Ev.bind h1 ?_
  by_cases c : trail m ws[i] ws[i].size 0 0 ≥ 0
  ·refine evPos c (evPos c (evPos h3 ?_))
   rw [decide_eq_true (show 0 ≤ trail m ws[i] ws[i].size 0 0 from c), Bool.true_and] at ek
   cases e : knows m ws[i] with
   | true => exact evPos (by rw [← ek, e]) (eP (evTo (ih (i + 1) _ (by omega) (by simp; omega)) (by simp)))
   | false => exact evNeg (by rw [← ek, e]; simp) (evTo (ih (i + 1) _ (by omega) (by omega)) (by simp))
  ·rw [decide_eq_false (show ¬ 0 ≤ trail m ws[i] ws[i].size 0 0 from c), Bool.false_and] at ek
   rw [ek]
   exact evNeg c (evTo (ih (i + 1) _ (by omega) (by omega)) (by simp))
theorem nearL_small {s : ByteArray} : ∀ w ∈ nearL s, w.size ≤ 1048576 := fun w hw => by
 have := wordB_size ((nearL_mem s w).1 hw).2.2
 omega
theorem mg_impl (m : List St) (hm : m.length ≤ 1048576) (hs : ∀ s ∈ m, s.f1.length ≤ 1048576) (s : ByteArray) (h : s.size ≤ 1048576) : Ev (fun k => impl_MachineGuesses.f k m s) (mgB m s) := by
 unfold impl_MachineGuesses.f mgB
 refine evCall rfl (Ev.bind (machOk_impl m hm hs) ?_)
 have hn := nearB_length s
 cases e : machOk m with
 | false => exact evNeg (by simp) (evTo (Ev.now _) (by simp))
 | true =>
  refine evPos rfl (Ev.bind (near_impl s (by omega)) ?_)
  unfold nearB at hn ⊢
  cases c : wordB s with
  | true =>
   rw [c, if_pos rfl] at hn
   rw [if_pos rfl, if_pos ⟨rfl, rfl⟩]
   have := mgI_loop m hm hs (nearL s) (by omega) nearL_small (nearL s).length 0 [] (by omega) (by simp)
   rw [List.drop_zero, List.nil_append] at this
   exact this
  | false =>
   rw [if_neg (by simp), if_neg (by simp)]
   have := mgI_loop m hm hs [] (by simp) (by simp) 0 0 [] (by simp) (by simp)
   simpa using this
theorem mg_spec (m : List St) (hm : m.length ≤ 1048576) (hs : ∀ s ∈ m, s.f1.length ≤ 1048576) (s : ByteArray) (h : s.size ≤ 1048576) : Ev (fun k => spec_MachineGuesses.f k m s) (mgB m s) := by
 unfold spec_MachineGuesses.f mgB
 refine evCall rfl (Ev.bind (machOk_spec m hm hs) ?_)
 have hn := nearB_length s
 have fin : ∀ b : Bool, b = true → Ev (fun k => spec_MachineGuesses.j0 k m s ([] : List ByteArray) b) ([] : List ByteArray) := fun b hb => Ev.step (fun k => spec_MachineGuesses.j0.eq_2 ..) (evPos hb (Ev.now _))
 cases e : machOk m with
 | false => exact evNeg (by simp) (evTo (fin true rfl) (by simp))
 | true =>
  refine evPos rfl (Ev.bind (l1Word_spec s (by omega)) ?_)
  unfold nearB at hn
  cases c : wordB s with
  | true =>
   rw [c, if_pos rfl] at hn
   have hz := wordB_size c
   rw [if_pos ⟨rfl, rfl⟩]
   refine Ev.step (fun k => spec_MachineGuesses.j0.eq_2 ..) (evNeg (by simp) (Ev.bind (near_ev s (by omega)) ?_))
   have := mgS_loop m hm hs e (nearL s) (by omega) nearL_small (nearL s).length 0 [] (by omega) (by simp)
   rw [List.drop_zero, List.nil_append] at this
   exact this
  | false =>
   rw [if_neg (by simp)]
   exact fin _ rfl
theorem mgB_length (m : List St) (s : ByteArray) : (mgB m s).length ≤ 1000000 := by
 have hn := nearB_length s
 unfold mgB
 unfold nearB at hn
 split
 ·rename_i h
  rw [if_pos h.2] at hn
  have := List.length_filter_le (fun w => knows m w) (nearL s)
  omega
 ·simp
theorem markText_loop (d : Nat) : ∀ (n : Int) (s : ByteArray), 0 ≤ n → n < 2 ^ d → n ≤ 4611686018427387904 → s.size + d ≤ 1000000 → ∃ t, Ev (fun k => laws_markText.l0 k n s) t := by
 induction d with
 | zero =>
  intro n s h0 h1 h2 hs
  exact ⟨_, Ev.step (fun k => laws_markText.l0.eq_2 _ _ _) (evNeg (by simp at h1; omega) (eP (Ev.now _)))⟩
 | succ d ih =>
  intro n s h0 h1 h2 hs
  by_cases c : n > 0
  ·have hd : Int.tdiv n 10 = n / 10 := Int.tdiv_eq_ediv_of_nonneg h0
   have hp : (2 : Int) ^ (d + 1) = 2 ^ d * 2 := Int.pow_succ 2 d
   have hz : ∀ x : Int, (strOfNums [x]).size = 1 := fun _ => rfl
   obtain ⟨t, ht⟩ := ih (n / 10) (strOfNums [(wrap64 (48 + (Int.tmod n 10))) % 256] ++ s) (by omega) (by omega) (by omega) (by rw [size_append, hz]; omega)
   refine ⟨t, Ev.step (fun k => laws_markText.l0.eq_2 _ _ _) (evPos c (evCall rfl (evPos (by rw [hz]; omega) ?_)))⟩
   rw [hd, w6 (n := n / 10)]
   exact ht
  ·exact ⟨_, Ev.step (fun k => laws_markText.l0.eq_2 _ _ _) (evNeg c (eP (Ev.now _)))⟩
theorem markText_some (n : Int) (h1 : n ≤ 4611686018427387904) : ∃ t, Ev (fun k => laws_markText.f k n) t := by
 unfold laws_markText.f
 by_cases c : n ≤ 0
 ·exact ⟨_, evPos c (Ev.now _)⟩
 ·obtain ⟨t, ht⟩ := markText_loop 63 n ⟨#[]⟩ (by omega) (by omega) h1 (by decide)
  exact ⟨t, evNeg c ht⟩
noncomputable def mt (n : Int) : ByteArray := Classical.epsilon (fun t => Ev (fun k => laws_markText.f k n) t)
theorem mt_ev (n : Int) (h1 : n ≤ 4611686018427387904) : Ev (fun k => laws_markText.f k n) (mt n) := Classical.epsilon_spec (p := fun t => Ev (fun k => laws_markText.f k n) t) (markText_some n h1)
noncomputable def marks (n : Int) (d : Nat) : List ByteArray := (List.range d).map (fun j : Nat => mt (n + (j : Int)))
theorem marks_length (n : Int) (d : Nat) : (marks n d).length = d := by simp [marks]
theorem marks_get (n : Int) (d i : Nat) (h : i < d) : rdOf ByteArray.empty (marks n d) (i : Int) = mt (n + i) := by
 rw [ba_get _ i (by rw [marks_length]; exact h)]
 simp [marks]
theorem markStr_loop (l0 : Nat) (d : Nat) : ∀ (i : Nat) (y : List ByteArray), y.length = l0 → i + d = l0 → l0 ≤ 2000000 → (∀ j : Nat, j < i → y[j]? = (marks 1 l0)[j]?) → Ev (fun k => laws_markStringS.l0 k y ((1 : Int) + i) (i : Int)) ((1 : Int) + l0, marks 1 l0) := by
 induction d with
 | zero =>
  intro i y hy hi hl h
  refine Ev.step (fun k => laws_markStringS.l0.eq_2 _ _ _ _) (eN (evTo (Ev.now _) ?_))
  have e : y = marks 1 l0 := by
   refine List.ext_getElem? fun j => ?_
   by_cases c : j < i
   ·exact h j c
   ·rw [List.getElem?_eq_none (by omega), List.getElem?_eq_none (by rw [marks_length]; omega)]
  rw [e, show (1 : Int) + (i : Int) = 1 + (l0 : Int) from by omega]
 | succ d ih =>
  intro i y hy hi hl h
  refine Ev.step (fun k => laws_markStringS.l0.eq_2 _ _ _ _) (eP (Ev.bind (mt_ev _ (by omega)) (eP ?_)))
  rw [w6 (n := (1 : Int) + (i : Int) + 1), w6 (n := (i : Int) + 1), show (1 : Int) + (i : Int) + 1 = 1 + ((i + 1 : Nat) : Int) from by omega]
  refine ih (i + 1) _ (by simpa using hy) (by omega) hl (fun j hj => ?_)
  rw [Int.toNat_natCast]
  by_cases c : i = j
  ·subst c
   rw [List.getElem?_set_self (by omega)]
   simp [marks, show i < l0 from by omega]
  ·rw [List.getElem?_set_ne c]
   exact h j (by omega)
theorem markStrs_ev (l : List ByteArray) (hl : l.length ≤ 2000000) : Ev (fun k => laws_markStringS.f k l 1) ((1 : Int) + l.length, marks 1 l.length) := by
 unfold laws_markStringS.f
 have := markStr_loop l.length l.length 0 l rfl (by omega) hl (fun j hj => absurd hj (by omega))
 simpa using this
theorem held_loop (l0 : Nat) (d : Nat) : ∀ i : Nat, i + d = l0 → l0 ≤ 2000000 → Ev (fun k => laws_heldStringS.l0 k (marks 1 l0) ((1 : Int) + i) (i : Int)) ((1 : Int) + l0) := by
 induction d with
 | zero =>
  intro i hi hl
  refine Ev.step (fun k => laws_heldStringS.l0.eq_2 _ _ _ _) (evNeg (by rw [marks_length]; omega) (evTo (Ev.now _) (by omega)))
 | succ d ih =>
  intro i hi hl
  refine Ev.step (fun k => laws_heldStringS.l0.eq_2 _ _ _ _) (evPos (by rw [marks_length]; omega) (eP (Ev.bind (mt_ev _ (by omega)) (evPos (by rw [marks_get 1 l0 i (by omega)]) ?_))))
  rw [w6 (n := (1 : Int) + (i : Int) + 1), w6 (n := (i : Int) + 1), show (1 : Int) + (i : Int) + 1 = 1 + ((i + 1 : Nat) : Int) from by omega]
  exact ih (i + 1) (by omega) hl
theorem held_ev (n : Nat) (hl : n ≤ 2000000) : Ev (fun k => laws_heldStringS.f k (marks 1 n) 1) ((1 : Int) + n) := by
 unfold laws_heldStringS.f
 have := held_loop n n 0 (by omega) hl
 simpa using this
theorem eqStr_loop (l : List ByteArray) (hl : l.length ≤ 10000000) (d : Nat) : ∀ i : Nat, i + d = l.length → Ev (fun k => laws_eqStringS.l0 k l l (i : Int)) true := by
 induction d with
 | zero =>
  intro i hi
  exact Ev.step (fun k => laws_eqStringS.l0.eq_2 _ _ _ _) (eN (Ev.now _))
 | succ d ih =>
  intro i hi
  refine Ev.step (fun k => laws_eqStringS.l0.eq_2 _ _ _ _) (eP (eP (eP (evPos rfl ?_))))
  rw [w6]
  exact ih (i + 1) (by omega)
theorem eqStrs_ev (l : List ByteArray) (hl : l.length ≤ 10000000) : Ev (fun k => laws_eqStringS.f k l l) true := by
 unfold laws_eqStringS.f
 exact evPos rfl (eqStr_loop l hl l.length 0 (by omega))
theorem FnExactMachineGuesses (l : List LSt) (w : ByteArray) (z : l.length ≤ 9223372036854775807 ∧ ∀ y1 ∈ l, (True ∧ (y1.f1.length ≤ 9223372036854775807 ∧ ∀ y2 ∈ y1.f1, ((Lit.int .i64 y2.f0).wf = true ∧ (Lit.int .i64 y2.f1).wf = true)))) (_hw : w.size ≤ 140737488351232) : ∃ k, laws_FnExactMachineGuesses.f k l w = some true := by
 refine Ev.rounds ?_
 unfold laws_FnExactMachineGuesses.f
 by_cases cw : (w.size : Int) > 1048576
 ·exact evPos cw (Ev.now _)
 refine evNeg cw ?_
 obtain ⟨n, hn, hz⟩ := szStates_ev l 1048576 (by omega) (by omega) z.1 (fun s hs => (z.2 s hs).2.1)
 refine Ev.bind hn ?_
 by_cases c : n < 0
 ·exact evPos c (Ev.now _)
 have h := hz.resolve_left c
 have ht := toStates_ev l (by omega) (fun s hs => by have := h.2 s hs; omega)
 have hs := cvS_small h.2
 have hl : (l.map cvS).length ≤ 1048576 := by simpa using h.1
 have he := eqStates_ev (l.map cvS) (by omega) (fun s hq => by have := hs s hq; omega)
 have gs := mg_spec (l.map cvS) hl hs w (by omega)
 have gi := mg_impl (l.map cvS) hl hs w (by omega)
 have hg := mgB_length (l.map cvS) w
 generalize mgB (l.map cvS) w = r at gs gi hg
 have er := eqStrs_ev r (by omega)
 have mr := markStrs_ev r (by omega)
 have hh := held_ev r.length (by omega)
 have hk := laws_markStateS.ks_le (l.map cvS) (fun s hq => by have := hs s hq; omega) 1 (l.map cvS).length (Nat.le_refl _)
 rw [List.take_length] at hk
 have hmk : laws_markStateS.f (l.map cvS) 1 = some (laws_markStateS.ks (l.map cvS) 1) := if_pos ⟨by omega, fun s hq => by have := hs s hq; omega, by omega, by omega⟩
 refine evNeg c (Ev.bind ht (Ev.bind gs (Ev.bind ht (Ev.bind gi (Ev.bind er (evPos rfl (Ev.bind ht (Ev.bind he (evPos rfl (evCall hmk (eN (Ev.bind er ?_))))))))))))
 refine Ev.step (fun k => laws_FnExactMachineGuesses.j0.eq_2 ..) (evNeg (by simp) (Ev.bind mr (Ev.bind hh ?_)))
 exact eN (evPos rfl (Ev.bind ht (Ev.bind gi (Ev.bind er (evPos rfl (Ev.bind hh (eN (evPos rfl (Ev.now _)))))))))
end Go.Proofs.Ytfpmfaelodfecaa.Pure

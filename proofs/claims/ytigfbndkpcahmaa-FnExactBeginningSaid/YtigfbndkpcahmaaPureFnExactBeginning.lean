/- Beginning answers as the reference's Beginning, at every two texts. No condition. -/
import Derived.Test.YtigfbndkpcahmaaPFnExactBeginningx1
import Derived.Test.YtigfbndkpcahmaaMBas
namespace Go.Proofs.Ytigfbndkpcahmaa.Pure
open Go.RowKit Go.Proofs.Ytigfbndkpcahmaa.PFnExactBeginning Go.Proofs.YtigfbndkpcahmaaW.PrintWords Go.Proofs.YtigfbndkpcahmaaW.PrintLast Go.Proofs.Ytigfbndkpcahmaa.M
theorem beginning_same (k : Nat) : ∀ a b i, impl_Beginning.l0 k a b i = spec_Beginning.l0 k a b i := by
  induction k with
  | zero => intros; rfl
  | succ k ih => intros; simp only [impl_Beginning.l0, spec_Beginning.l0, ih]
theorem beginning_loop (a b : ByteArray) (h : a.size ≤ 140737488351232) (d : Nat) : ∀ i : Int, 0 ≤ i → i ≤ a.size → (a.size : Int) - i = d → ∃ r, Ev (fun k => spec_Beginning.l0 k a b i) r := by
  induction d with
  | zero =>
    intro i h0 h1 hd
    exact ⟨_, Ev.step (fun k => spec_Beginning.l0.eq_2 a b i k) (evNeg (by omega) (evPos h0 (evPos (by omega) (Ev.now _))))⟩
  | succ d ih =>
    intro i h0 h1 hd
    by_cases c : i < (b.size : Int)
    · by_cases e : bt a i = bt b i
      · obtain ⟨r, hr⟩ := ih (i + 1) (by omega) (by omega) (by omega)
        refine ⟨r, Ev.step (fun k => spec_Beginning.l0.eq_2 a b i k) (evPos (by omega) (evPos c (evPos h0 (evPos e ?_))))⟩
        rw [w64 (by omega) (by omega)]
        exact hr
      · exact ⟨_, Ev.step (fun k => spec_Beginning.l0.eq_2 a b i k) (evPos (by omega) (evPos c (evPos h0 (evNeg e (evPos (by omega) (Ev.now _))))))⟩
    · exact ⟨_, Ev.step (fun k => spec_Beginning.l0.eq_2 a b i k) (evPos (by omega) (evNeg c (evPos h0 (evPos (by omega) (Ev.now _)))))⟩
theorem beginning_spec (a b : ByteArray) (h : a.size ≤ 140737488351232) (_ : b.size ≤ 140737488351232) : ∃ r, Ev (fun k => spec_Beginning.f k a b) r := beginning_loop a b h a.size 0 (by omega) (by omega) (by omega)
theorem beginning_impl {a b r : ByteArray} (h : Ev (fun k => spec_Beginning.f k a b) r) : Ev (fun k => impl_Beginning.f k a b) r := Ev.congr (fun k => beginning_same k a b 0) h
theorem FnExactBeginning : laws_FnExactBeginning.Pure := by
  intro a0 a1 h0 h1
  refine Ev.rounds ?_
  unfold laws_FnExactBeginning.f
  by_cases c0 : (a0.size : Int) > 1048576
  · exact evPos c0 (Ev.now _)
  refine evNeg c0 ?_
  by_cases c1 : (a1.size : Int) > 1048576
  · exact evPos c1 (Ev.now _)
  refine evNeg c1 ?_
  obtain ⟨r, hr⟩ := beginning_spec a0 a1 h0 h1
  refine Ev.bind hr ?_
  refine Ev.bind (beginning_impl hr) ?_
  exact evPos rfl (Ev.now _)
end Go.Proofs.Ytigfbndkpcahmaa.Pure

/- The row of the law FnExactDeltaOf out of its pure statement and the walk of its code. No condition. -/
import Derived.Test.YtdfnijaacnlfaaaRows
import Derived.Test.YtdfnijaacnlfaaaQFnExactDeltaOfx19
import Derived.Test.YtdfnijaacnlfaaaPureFnExactDeltaOf
import Derived.Test.YtdfnijaacnlfaaaVMOpn
import Derived.WalkKit
import Derived.ProofKit
import Derived.OpenShut
import Derived.ShutString
import Derived.ChangeOld
import Derived.Below
import Derived.SizedLaws
namespace Go.Proofs.Ytdfnijaacnlfaaa.fnExactDeltaOf
open Go.ChangeShapes Go.WideShapes Go.ChangeAt Go.RowKit Go.Proofs.Ytdfnijaacnlfaaa.M Go.Proofs.Ytdfnijaacnlfaaa.QFnExactDeltaOf Go.Proofs.YtdfnijaacnlfaaaW.PrintWords Go.Proofs.YtdfnijaacnlfaaaW.PrintLast
open Go.ChangeMaps (open_string shut_string)
set_option linter.unusedVariables false
theorem own : ownKnob Try.prog.godebug = none := by kernel_rfl
theorem laidOut : laidOutB Try.prog = true := by kernel_rfl
theorem o103 : Opens Try.prog 103 k103 (fun x => (x.f0.size ≤ 9223372036854775807 ∧ (True ∧ (x.f2.size ≤ 9223372036854775807 ∧ (x.f3.size ≤ 9223372036854775807 ∧ x.f4.size ≤ 9223372036854775807))))) := opens_struct (fun x => ⟨x.1, x.2.1, x.2.2.1, x.2.2.2.1, x.2.2.2.2⟩) (fun _ => rfl) Try.underlying103 (by kernel_rfl) (opensF_cons (opens_string Try.underlying9) (by kernel_rfl) (by rfl) (opensF_cons (opens_bool Try.underlying4) (by kernel_rfl) (by rfl) (opensF_cons (opens_string Try.underlying9) (by kernel_rfl) (by rfl) (opensF_cons (opens_string Try.underlying9) (by kernel_rfl) (by rfl) (opensF_one (opens_string Try.underlying9) (by kernel_rfl) (by rfl))))))
theorem o22 : Opens Try.prog 22 (Kd.slice 103 k103) (fun x => (x.length ≤ 9223372036854775807 ∧ ∀ y1 ∈ x, (y1.f0.size ≤ 9223372036854775807 ∧ (True ∧ (y1.f2.size ≤ 9223372036854775807 ∧ (y1.f3.size ≤ 9223372036854775807 ∧ y1.f4.size ≤ 9223372036854775807)))))) := opens_slice Try.underlying22 (by kernel_rfl) o103
theorem o105 : Opens Try.prog 105 k105 (fun x => (x.f0.size ≤ 9223372036854775807 ∧ x.f1.size ≤ 9223372036854775807)) := opens_struct (fun x => ⟨x.1, x.2⟩) (fun _ => rfl) Try.underlying105 (by kernel_rfl) (opensF_cons (opens_string Try.underlying9) (by kernel_rfl) (by rfl) (opensF_one (opens_string Try.underlying9) (by kernel_rfl) (by rfl)))
theorem o23 : Opens Try.prog 23 (Kd.slice 105 k105) (fun x => (x.length ≤ 9223372036854775807 ∧ ∀ y2 ∈ x, (y2.f0.size ≤ 9223372036854775807 ∧ y2.f1.size ≤ 9223372036854775807))) := opens_slice Try.underlying23 (by kernel_rfl) o105
theorem ov25 : Opens Try.prog 25 (Kd.iso (Kd.pair (Kd.slice 103 k103) (Kd.slice 105 k105)) (fun x => x)) (fun x => ((x.1.length ≤ 9223372036854775807 ∧ ∀ y3 ∈ x.1, (y3.f0.size ≤ 9223372036854775807 ∧ (True ∧ (y3.f2.size ≤ 9223372036854775807 ∧ (y3.f3.size ≤ 9223372036854775807 ∧ y3.f4.size ≤ 9223372036854775807))))) ∧ (x.2.length ≤ 9223372036854775807 ∧ ∀ y4 ∈ x.2, (y4.f0.size ≤ 9223372036854775807 ∧ y4.f1.size ≤ 9223372036854775807)))) := by
  have h := opens_struct (d := (Kd.pair (Kd.slice 103 k103) (Kd.slice 105 k105))) (f := fun x => x) (fun x => x) (fun _ => rfl) Try.underlying25 (by kernel_rfl) (opensF_cons o22 (by kernel_rfl) (by rfl) (opensF_one o23 (by kernel_rfl) (by rfl)))
  exact h
set_option maxRecDepth 100000 in
theorem lifted (os : Os) (started : os.Started) (H : Type) (enc : TypeId × Value → H) :
    ReturnsInHanded {} Try.checked os 3 .any (Rows.fnExactDeltaOfSpec.pre6 enc Try.prog Try.f3 Rows.fnExactDeltaOfRow.domain false) (Rows.fnExactDeltaOfSpec.post enc Try.prog Try.f3 false true false false) := by
  refine returnsInHanded_of_change_sized (C := Try.checked) own started (by kernel_rfl) Try.func3
    (ChangeSpec.witness6 (enc := enc) (C := Try.checked) false ⟨#[], #[.agg #[.slice none 0 0, .slice none 0 0], .agg #[.slice none 0 0, .slice none 0 0]], []⟩ 8 (by kernel_rfl) (by kernel_rfl) (by kernel_rfl) (by kernel_rfl)) ?_
  intro W base args ds gs before hval0 hW hcnd hsz0 _
  have hsz : (DataW.weightsEach Try.prog (Try.f3.params.toList ++ Rows.fnExactDeltaOfSpec.plain.varTypes Try.prog) (ds ++ gs)).all (· ≤ reachBytes) = true := hsz0
  have hval : ∀ (j : Nat) t v, Try.f3.params[j]? = some t → args[j]? = some v → Value.okWide Try.prog W .any base t v := hval0
  have hW' := hW
  obtain ⟨p, q, hA0, hV, rfl, hfz, hnd⟩ := hW
  have hA : DataW.TrodAll enc Try.prog W 0 (fun _ => true) true Try.f3.params.toList args.toList ds p := hA0
  rw [Try.params3] at hA hval hsz
  obtain ⟨v0, vs0, d0, ds0, p0, q0, hargs, rfl, rfl, h0, r0⟩ := trodAll_cons hA
  obtain ⟨v1, vs1, d1, ds1, p1, q1, rfl, rfl, rfl, h1, r1⟩ := trodAll_cons r0
  obtain ⟨rfl, rfl, rfl⟩ := trodAll_nil r1
  obtain rfl : args = #[v0, v1] := by cases args; simp_all
  obtain ⟨rfl, rfl⟩ := trodVars_none hV
  obtain ⟨cs0, rfl, _⟩ := okWide_struct Try.underlying25 (hval 0 25 v0 rfl rfl)
  have k0 := h0
  have lt0 : ∀ x ∈ p0, x.block < W.heap.size := by obtain ⟨m, hm⟩ := k0; exact DataW.trod_lt m _ _ _ hm
  obtain ⟨fuel0, hf0⟩ := h0
  obtain ⟨⟨x0_0, x0_1⟩, hK0, hq0⟩ := ov25.go hf0
  obtain ⟨_, _, hcs0, ⟨A0_0, c0_0, rfl, hc0_0, hr0_0⟩, ⟨A0_1, c0_1, rfl, hc0_1, hr0_1⟩⟩ := hK0
  obtain rfl : cs0 = #[.slice A0_0 x0_0.length c0_0, .slice A0_1 x0_1.length c0_1] := by
    apply Array.ext'
    simpa [Value.cells] using hcs0
  obtain ⟨cs1, rfl, _⟩ := okWide_struct Try.underlying25 (hval 1 25 v1 rfl rfl)
  have k1 := h1
  have lt1 : ∀ x ∈ p1, x.block < W.heap.size := by obtain ⟨m, hm⟩ := k1; exact DataW.trod_lt m _ _ _ hm
  obtain ⟨fuel1, hf1⟩ := h1
  obtain ⟨⟨x1_0, x1_1⟩, hK1, hq1⟩ := ov25.go hf1
  obtain ⟨_, _, hcs1, ⟨A1_0, c1_0, rfl, hc1_0, hr1_0⟩, ⟨A1_1, c1_1, rfl, hc1_1, hr1_1⟩⟩ := hK1
  obtain rfl : cs1 = #[.slice A1_0 x1_0.length c1_0, .slice A1_1 x1_1.length c1_1] := by
    apply Array.ext'
    simpa [Value.cells] using hcs1
  clear hA0 hval0 hsz0 hsz
  obtain ⟨k, h⟩ := Pure.FnExactDeltaOf x0_0 x0_1 x1_0 x1_1 hq0 hq1
  refine (laws_FnExactDeltaOf.calls k _ _ x0_0 _ _ x0_1 _ _ x1_0 _ _ x1_1 true W (by exact hr0_0) (by exact hc0_0) (by exact hr0_1) (by exact hc0_1) (by exact hr1_0) (by exact hc1_0) (by exact hr1_1) (by exact hc1_1) h).mono fun e W' ⟨he, bel0⟩ => ?_
  have bel : Below W.heap.size W W' := bel0
  subst he
  exact ⟨_, rfl, _, _, _, [], _, [], hW', trodAll_mk1 (shut_bool Try.underlying4 _), (trodAll_cons_mk (Below.trod laidOut (by kernel_rfl) (of_decide_eq_true (by kernel_rfl)) k0 bel lt0) (trodAll_cons_mk (Below.trod laidOut (by kernel_rfl) (of_decide_eq_true (by kernel_rfl)) k1 bel lt1) trodAll_mk0)), rfl, bel.frame _, fun h => by cases h⟩
theorem over : Rows.fnExactDeltaOfRow.holds Try.pinned (OpenSpec.ofChange Rows.fnExactDeltaOfSpec) :=
  OpenClaim.holds_of_wide 3 Try.f3 rfl rfl rfl rfl rfl rfl rfl ⟨rfl, rfl, rfl, rfl, rfl⟩ rfl rfl rfl rfl rfl (by kernel_rfl) Try.func3 (by kernel_rfl)
    (of_decide_eq_true (by kernel_rfl)) (by unfold Func.isWrapper; first | (rw [if_pos (by decide +kernel)]; kernel_rfl) | (rw [if_neg (by decide +kernel)]; exact ⟨rfl, rfl⟩))
    (fun os started H enc _ => lifted os started H enc)
theorem proved : Rows.FnExactDeltaOfSaid := over
#print axioms proved
end Go.Proofs.Ytdfnijaacnlfaaa.fnExactDeltaOf
namespace Go.Proofs.Ytdfnijaacnlfaaa
/-- The row, under a short name, for the claim. -/
theorem fnExactDeltaOf_holds : Rows.FnExactDeltaOfSaid := fnExactDeltaOf.proved
end Go.Proofs.Ytdfnijaacnlfaaa

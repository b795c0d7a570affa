/- The row of the law FnExactForms out of its pure statement and the walk of its code. No condition. -/
import Derived.Test.YtedfcehhgbeibaaRows
import Derived.Test.YtedfcehhgbeibaaQFnExactFormsx14
import Derived.Test.YtedfcehhgbeibaaPureFnExactForms
import Derived.Test.YtedfcehhgbeibaaVMOpn
import Derived.WalkKit
import Derived.ProofKit
import Derived.OpenShut
import Derived.ShutString
import Derived.ChangeOld
import Derived.Below
import Derived.SizedLaws
namespace Go.Proofs.Ytedfcehhgbeibaa.fnExactForms
open Go.ChangeShapes Go.WideShapes Go.ChangeAt Go.RowKit Go.Proofs.Ytedfcehhgbeibaa.M Go.Proofs.Ytedfcehhgbeibaa.QFnExactForms Go.Proofs.YtedfcehhgbeibaaW.PrintWords Go.Proofs.YtedfcehhgbeibaaW.PrintLast
open Go.ChangeMaps (open_string shut_string)
set_option linter.unusedVariables false
theorem own : ownKnob Try.prog.godebug = none := by kernel_rfl
theorem laidOut : laidOutB Try.prog = true := by kernel_rfl
theorem o74 : Opens Try.prog 74 k74 (fun x => (x.f0.size ≤ 9223372036854775807 ∧ (True ∧ (x.f2.size ≤ 9223372036854775807 ∧ (x.f3.size ≤ 9223372036854775807 ∧ x.f4.size ≤ 9223372036854775807))))) := opens_struct (fun x => ⟨x.1, x.2.1, x.2.2.1, x.2.2.2.1, x.2.2.2.2⟩) (fun _ => rfl) Try.underlying74 (by kernel_rfl) (opensF_cons (opens_string Try.underlying9) (by kernel_rfl) (by rfl) (opensF_cons (opens_bool Try.underlying4) (by kernel_rfl) (by rfl) (opensF_cons (opens_string Try.underlying9) (by kernel_rfl) (by rfl) (opensF_cons (opens_string Try.underlying9) (by kernel_rfl) (by rfl) (opensF_one (opens_string Try.underlying9) (by kernel_rfl) (by rfl))))))
theorem o22 : Opens Try.prog 22 (Kd.slice 74 k74) (fun x => (x.length ≤ 9223372036854775807 ∧ ∀ y1 ∈ x, (y1.f0.size ≤ 9223372036854775807 ∧ (True ∧ (y1.f2.size ≤ 9223372036854775807 ∧ (y1.f3.size ≤ 9223372036854775807 ∧ y1.f4.size ≤ 9223372036854775807)))))) := opens_slice Try.underlying22 (by kernel_rfl) o74
theorem ov24 : Opens Try.prog 24 (Kd.iso (Kd.pair Kd.string Kd.string) (fun x => x)) (fun x => (x.1.size ≤ 9223372036854775807 ∧ x.2.size ≤ 9223372036854775807)) := by
  have h := opens_struct (d := (Kd.pair Kd.string Kd.string)) (f := fun x => x) (fun x => x) (fun _ => rfl) Try.underlying24 (by kernel_rfl) (opensF_cons (opens_string Try.underlying9) (by kernel_rfl) (by rfl) (opensF_one (opens_string Try.underlying9) (by kernel_rfl) (by rfl)))
  exact h
set_option maxRecDepth 100000 in
theorem lifted (os : Os) (started : os.Started) (H : Type) (enc : TypeId × Value → H) :
    ReturnsInHanded {} Try.checked os 3 .any (Rows.fnExactFormsSpec.pre6 enc Try.prog Try.f3 Rows.fnExactFormsRow.domain false) (Rows.fnExactFormsSpec.post enc Try.prog Try.f3 false true false false) := by
  refine returnsInHanded_of_change_sized (C := Try.checked) own started (by kernel_rfl) Try.func3
    (ChangeSpec.witness6 (enc := enc) (C := Try.checked) false ⟨#[], #[.slice none 0 0, .agg #[.string ByteArray.empty, .string ByteArray.empty]], []⟩ 8 (by kernel_rfl) (by kernel_rfl) (by kernel_rfl) (by kernel_rfl)) ?_
  intro W base args ds gs before hval0 hW hcnd hsz0 _
  have hsz : (DataW.weightsEach Try.prog (Try.f3.params.toList ++ Rows.fnExactFormsSpec.plain.varTypes Try.prog) (ds ++ gs)).all (· ≤ reachBytes) = true := hsz0
  have hval : ∀ (j : Nat) t v, Try.f3.params[j]? = some t → args[j]? = some v → Value.okWide Try.prog W .any base t v := hval0
  have hW' := hW
  obtain ⟨p, q, hA0, hV, rfl, hfz, hnd⟩ := hW
  have hA : DataW.TrodAll enc Try.prog W 0 (fun _ => true) true Try.f3.params.toList args.toList ds p := hA0
  rw [Try.params3] at hA hval hsz
  obtain ⟨v0, vs0, d0, ds0, p0, q0, hargs, rfl, rfl, h0, r0⟩ := trodAll_cons hA
  obtain ⟨v1, vs1, d1, ds1, p1, q1, rfl, rfl, rfl, h1, r1⟩ := trodAll_cons r0
  obtain ⟨rfl, rfl, rfl⟩ := trodAll_nil r1
  obtain rfl : args = #[v0, v1] := by cases args; simp_all
  obtain ⟨rfl, rfl⟩ := trodVars_none hV
  obtain ⟨a0, len0, cap0, rfl⟩ := okWide_slice Try.underlying22 (hval 0 22 v0 rfl rfl)
  have k0 := h0
  have lt0 : ∀ x ∈ p0, x.block < W.heap.size := by obtain ⟨m, hm⟩ := k0; exact DataW.trod_lt m _ _ _ hm
  obtain ⟨fuel0, hf0⟩ := h0
  obtain ⟨l0, ⟨A0, c0, hcs0, hc0, hr0⟩, hq0⟩ := o22.go hf0
  simp [Value.cells] at hcs0
  obtain ⟨rfl, rfl, rfl⟩ := hcs0
  obtain ⟨cs1, rfl, _⟩ := okWide_struct Try.underlying24 (hval 1 24 v1 rfl rfl)
  have k1 := h1
  have lt1 : ∀ x ∈ p1, x.block < W.heap.size := by obtain ⟨m, hm⟩ := k1; exact DataW.trod_lt m _ _ _ hm
  obtain ⟨fuel1, hf1⟩ := h1
  obtain ⟨⟨x1_0, x1_1⟩, hK1, hq1⟩ := ov24.go hf1
  obtain ⟨_, _, hcs1, rfl, rfl⟩ := hK1
  obtain rfl : cs1 = #[.string x1_0, .string x1_1] := by
    apply Array.ext'
    simpa [Value.cells] using hcs1
  clear hA0 hval0 hsz0 hsz
  obtain ⟨k, h⟩ := Pure.FnExactForms l0 x1_0 x1_1 hq0 hq1
  refine (laws_FnExactForms.calls k _ _ l0 x1_0 x1_1 true W (by exact hr0) (by exact hc0) h).mono fun e W' ⟨he, bel0⟩ => ?_
  have bel : Below W.heap.size W W' := bel0
  subst he
  exact ⟨_, rfl, _, _, _, [], _, [], hW', trodAll_mk1 (shut_bool Try.underlying4 _), (trodAll_cons_mk (Below.trod laidOut (by kernel_rfl) (of_decide_eq_true (by kernel_rfl)) k0 bel lt0) (trodAll_cons_mk (Below.trod laidOut (by kernel_rfl) (of_decide_eq_true (by kernel_rfl)) k1 bel lt1) trodAll_mk0)), rfl, bel.frame _, fun h => by cases h⟩
theorem over : Rows.fnExactFormsRow.holds Try.pinned (OpenSpec.ofChange Rows.fnExactFormsSpec) :=
  OpenClaim.holds_of_wide 3 Try.f3 rfl rfl rfl rfl rfl rfl rfl ⟨rfl, rfl, rfl, rfl, rfl⟩ rfl rfl rfl rfl rfl (by kernel_rfl) Try.func3 (by kernel_rfl)
    (of_decide_eq_true (by kernel_rfl)) (by unfold Func.isWrapper; first | (rw [if_pos (by decide +kernel)]; kernel_rfl) | (rw [if_neg (by decide +kernel)]; exact ⟨rfl, rfl⟩))
    (fun os started H enc _ => lifted os started H enc)
theorem proved : Rows.FnExactFormsSaid := over
#print axioms proved
end Go.Proofs.Ytedfcehhgbeibaa.fnExactForms
namespace Go.Proofs.Ytedfcehhgbeibaa
/-- The row, under a short name, for the claim. -/
theorem fnExactForms_holds : Rows.FnExactFormsSaid := fnExactForms.proved
end Go.Proofs.Ytedfcehhgbeibaa

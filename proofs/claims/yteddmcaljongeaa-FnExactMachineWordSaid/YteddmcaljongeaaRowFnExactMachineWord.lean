/- The row of the law FnExactMachineWord out of its pure statement and the walk of its code. No condition. -/
import Derived.Test.YteddmcaljongeaaRows
import Derived.Test.YteddmcaljongeaaQFnExactMachineWordx9
import Derived.Test.YteddmcaljongeaaPureFnExactMachineWord
import Derived.Test.YteddmcaljongeaaVMOpn
import Derived.WalkKit
import Derived.ProofKit
import Derived.OpenShut
import Derived.ShutString
import Derived.ChangeOld
import Derived.Below
import Derived.SizedLaws
namespace Go.Proofs.Yteddmcaljongeaa.fnExactMachineWord
open Go.ChangeShapes Go.WideShapes Go.ChangeAt Go.RowKit Go.Proofs.Yteddmcaljongeaa.M Go.Proofs.Yteddmcaljongeaa.QFnExactMachineWord Go.Proofs.YteddmcaljongeaaW.PrintWords Go.Proofs.YteddmcaljongeaaW.PrintLast
open Go.ChangeMaps (open_string shut_string)
set_option linter.unusedVariables false
theorem own : ownKnob Try.prog.godebug = none := by kernel_rfl
theorem laidOut : laidOutB Try.prog = true := by kernel_rfl
theorem o93 : Opens Try.prog 93 k93 (fun x => ((Lit.int .i64 x.f0).wf = true ∧ (Lit.int .i64 x.f1).wf = true)) := opens_struct (fun x => ⟨x.1, x.2⟩) (fun _ => rfl) Try.underlying93 (by kernel_rfl) (opensF_cons (opens_int (k := .i64) Try.underlying3) (by kernel_rfl) (by rfl) (opensF_one (opens_int (k := .i64) Try.underlying3) (by kernel_rfl) (by rfl)))
theorem o61 : Opens Try.prog 61 (Kd.slice 93 k93) (fun x => (x.length ≤ 9223372036854775807 ∧ ∀ y1 ∈ x, ((Lit.int .i64 y1.f0).wf = true ∧ (Lit.int .i64 y1.f1).wf = true))) := opens_slice Try.underlying61 (by kernel_rfl) o93
theorem o63 : Opens Try.prog 63 k63 (fun x => (True ∧ (x.f1.length ≤ 9223372036854775807 ∧ ∀ y2 ∈ x.f1, ((Lit.int .i64 y2.f0).wf = true ∧ (Lit.int .i64 y2.f1).wf = true)))) := opens_struct (fun x => ⟨x.1, x.2⟩) (fun _ => rfl) Try.underlying63 (by kernel_rfl) (opensF_cons (opens_bool Try.underlying4) (by kernel_rfl) (by rfl) (opensF_one o61 (by kernel_rfl) (by rfl)))
theorem o37 : Opens Try.prog 37 (Kd.slice 63 k63) (fun x => (x.length ≤ 9223372036854775807 ∧ ∀ y3 ∈ x, (True ∧ (y3.f1.length ≤ 9223372036854775807 ∧ ∀ y4 ∈ y3.f1, ((Lit.int .i64 y4.f0).wf = true ∧ (Lit.int .i64 y4.f1).wf = true))))) := opens_slice Try.underlying37 (by kernel_rfl) o63
set_option maxRecDepth 100000 in
theorem lifted (os : Os) (started : os.Started) (H : Type) (enc : TypeId × Value → H) :
    ReturnsInHanded {} Try.checked os 13 .any (Rows.fnExactMachineWordSpec.pre6 enc Try.prog Try.f13 Rows.fnExactMachineWordRow.domain false) (Rows.fnExactMachineWordSpec.post enc Try.prog Try.f13 false true false false) := by
  refine returnsInHanded_of_change_sized (C := Try.checked) own started (by kernel_rfl) Try.func13
    (ChangeSpec.witness6 (enc := enc) (C := Try.checked) false ⟨#[], #[.slice none 0 0, .int .i64 0], []⟩ 8 (by kernel_rfl) (by kernel_rfl) (by kernel_rfl) (by kernel_rfl)) ?_
  intro W base args ds gs before hval0 hW hcnd hsz0 _
  have hsz : (DataW.weightsEach Try.prog (Try.f13.params.toList ++ Rows.fnExactMachineWordSpec.plain.varTypes Try.prog) (ds ++ gs)).all (· ≤ reachBytes) = true := hsz0
  have hval : ∀ (j : Nat) t v, Try.f13.params[j]? = some t → args[j]? = some v → Value.okWide Try.prog W .any base t v := hval0
  have hW' := hW
  obtain ⟨p, q, hA0, hV, rfl, hfz, hnd⟩ := hW
  have hA : DataW.TrodAll enc Try.prog W 0 (fun _ => true) true Try.f13.params.toList args.toList ds p := hA0
  rw [Try.params13] at hA hval hsz
  obtain ⟨v0, vs0, d0, ds0, p0, q0, hargs, rfl, rfl, h0, r0⟩ := trodAll_cons hA
  obtain ⟨v1, vs1, d1, ds1, p1, q1, rfl, rfl, rfl, h1, r1⟩ := trodAll_cons r0
  obtain ⟨rfl, rfl, rfl⟩ := trodAll_nil r1
  obtain rfl : args = #[v0, v1] := by cases args; simp_all
  obtain ⟨rfl, rfl⟩ := trodVars_none hV
  obtain ⟨a0, len0, cap0, rfl⟩ := okWide_slice Try.underlying37 (hval 0 37 v0 rfl rfl)
  have k0 := h0
  have lt0 : ∀ x ∈ p0, x.block < W.heap.size := by obtain ⟨m, hm⟩ := k0; exact DataW.trod_lt m _ _ _ hm
  obtain ⟨fuel0, hf0⟩ := h0
  obtain ⟨l0, ⟨A0, c0, hcs0, hc0, hr0⟩, hq0⟩ := o37.go hf0
  simp [Value.cells] at hcs0
  obtain ⟨rfl, rfl, rfl⟩ := hcs0
  obtain ⟨a1, rfl, rfl, rfl, w1⟩ := open_int Try.underlying3 (hval 1 3 v1 rfl rfl) h1
  clear hA0 hval0 hsz0 hsz
  obtain ⟨k, h⟩ := Pure.FnExactMachineWord l0 a1 hq0 w1
  refine (laws_FnExactMachineWord.calls k _ _ l0 a1 true W (by exact hr0) (by exact hc0) h).mono fun e W' ⟨he, bel0⟩ => ?_
  have bel : Below W.heap.size W W' := bel0
  subst he
  exact ⟨_, rfl, _, _, _, [], _, [], hW', trodAll_mk1 (shut_bool Try.underlying4 _), (trodAll_cons_mk (Below.trod laidOut (by kernel_rfl) (of_decide_eq_true (by kernel_rfl)) k0 bel lt0) (trodAll_cons_mk (shut_int Try.underlying3 w1) trodAll_mk0)), rfl, bel.frame _, fun h => by cases h⟩
theorem over : Rows.fnExactMachineWordRow.holds Try.pinned (OpenSpec.ofChange Rows.fnExactMachineWordSpec) :=
  OpenClaim.holds_of_wide 13 Try.f13 rfl rfl rfl rfl rfl rfl rfl ⟨rfl, rfl, rfl, rfl, rfl⟩ rfl rfl rfl rfl rfl (by kernel_rfl) Try.func13 (by kernel_rfl)
    (of_decide_eq_true (by kernel_rfl)) (by unfold Func.isWrapper; first | (rw [if_pos (by decide +kernel)]; kernel_rfl) | (rw [if_neg (by decide +kernel)]; exact ⟨rfl, rfl⟩))
    (fun os started H enc _ => lifted os started H enc)
theorem proved : Rows.FnExactMachineWordSaid := over
#print axioms proved
end Go.Proofs.Yteddmcaljongeaa.fnExactMachineWord
namespace Go.Proofs.Yteddmcaljongeaa
/-- The row, under a short name, for the claim. -/
theorem fnExactMachineWord_holds : Rows.FnExactMachineWordSaid := fnExactMachineWord.proved
end Go.Proofs.Yteddmcaljongeaa

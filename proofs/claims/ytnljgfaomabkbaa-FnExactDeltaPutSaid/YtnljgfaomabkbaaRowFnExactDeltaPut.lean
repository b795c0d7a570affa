/- The row of the law FnExactDeltaPut out of its pure statement and the walk of its code. No condition. -/
import Derived.Test.YtnljgfaomabkbaaRows
import Derived.Test.YtnljgfaomabkbaaQFnExactDeltaPutx14
import Derived.Test.YtnljgfaomabkbaaPureFnExactDeltaPut
import Derived.Test.YtnljgfaomabkbaaVMOpn
import Derived.WalkKit
import Derived.ProofKit
import Derived.OpenShut
import Derived.ShutString
import Derived.ChangeOld
import Derived.Below
import Derived.SizedLaws
namespace Go.Proofs.Ytnljgfaomabkbaa.fnExactDeltaPut
open Go.ChangeShapes Go.WideShapes Go.ChangeAt Go.RowKit Go.Proofs.Ytnljgfaomabkbaa.M Go.Proofs.Ytnljgfaomabkbaa.QFnExactDeltaPut Go.Proofs.YtnljgfaomabkbaaW.PrintWords Go.Proofs.YtnljgfaomabkbaaW.PrintLast
open Go.ChangeMaps (open_string shut_string)
set_option linter.unusedVariables false
theorem own : ownKnob Try.prog.godebug = none := by kernel_rfl
theorem laidOut : laidOutB Try.prog = true := by kernel_rfl
theorem o53 : Opens Try.prog 53 (Kd.slice 9 Kd.string) (fun x => (x.length ≤ 9223372036854775807 ∧ ∀ y1 ∈ x, y1.size ≤ 9223372036854775807)) := opens_slice Try.underlying53 (by kernel_rfl) (opens_string Try.underlying9)
theorem o129 : Opens Try.prog 129 k129 (fun x => (x.f0.size ≤ 9223372036854775807 ∧ x.f1.size ≤ 9223372036854775807)) := opens_struct (fun x => ⟨x.1, x.2⟩) (fun _ => rfl) Try.underlying129 (by kernel_rfl) (opensF_cons (opens_string Try.underlying9) (by kernel_rfl) (by rfl) (opensF_one (opens_string Try.underlying9) (by kernel_rfl) (by rfl)))
theorem o30 : Opens Try.prog 30 (Kd.slice 129 k129) (fun x => (x.length ≤ 9223372036854775807 ∧ ∀ y2 ∈ x, (y2.f0.size ≤ 9223372036854775807 ∧ y2.f1.size ≤ 9223372036854775807))) := opens_slice Try.underlying30 (by kernel_rfl) o129
theorem o127 : Opens Try.prog 127 k127 (fun x => (x.f0.size ≤ 9223372036854775807 ∧ (True ∧ (x.f2.size ≤ 9223372036854775807 ∧ (x.f3.size ≤ 9223372036854775807 ∧ x.f4.size ≤ 9223372036854775807))))) := opens_struct (fun x => ⟨x.1, x.2.1, x.2.2.1, x.2.2.2.1, x.2.2.2.2⟩) (fun _ => rfl) Try.underlying127 (by kernel_rfl) (opensF_cons (opens_string Try.underlying9) (by kernel_rfl) (by rfl) (opensF_cons (opens_bool Try.underlying4) (by kernel_rfl) (by rfl) (opensF_cons (opens_string Try.underlying9) (by kernel_rfl) (by rfl) (opensF_cons (opens_string Try.underlying9) (by kernel_rfl) (by rfl) (opensF_one (opens_string Try.underlying9) (by kernel_rfl) (by rfl))))))
theorem o29 : Opens Try.prog 29 (Kd.slice 127 k127) (fun x => (x.length ≤ 9223372036854775807 ∧ ∀ y3 ∈ x, (y3.f0.size ≤ 9223372036854775807 ∧ (True ∧ (y3.f2.size ≤ 9223372036854775807 ∧ (y3.f3.size ≤ 9223372036854775807 ∧ y3.f4.size ≤ 9223372036854775807)))))) := opens_slice Try.underlying29 (by kernel_rfl) o127
theorem ov55 : Opens Try.prog 55 (Kd.iso (Kd.pair (Kd.slice 9 Kd.string) (Kd.pair (Kd.slice 129 k129) (Kd.pair Kd.bool (Kd.slice 127 k127)))) (fun x => x)) (fun x => ((x.1.length ≤ 9223372036854775807 ∧ ∀ y4 ∈ x.1, y4.size ≤ 9223372036854775807) ∧ ((x.2.1.length ≤ 9223372036854775807 ∧ ∀ y5 ∈ x.2.1, (y5.f0.size ≤ 9223372036854775807 ∧ y5.f1.size ≤ 9223372036854775807)) ∧ (True ∧ (x.2.2.2.length ≤ 9223372036854775807 ∧ ∀ y6 ∈ x.2.2.2, (y6.f0.size ≤ 9223372036854775807 ∧ (True ∧ (y6.f2.size ≤ 9223372036854775807 ∧ (y6.f3.size ≤ 9223372036854775807 ∧ y6.f4.size ≤ 9223372036854775807))))))))) := by
  have h := opens_struct (d := (Kd.pair (Kd.slice 9 Kd.string) (Kd.pair (Kd.slice 129 k129) (Kd.pair Kd.bool (Kd.slice 127 k127))))) (f := fun x => x) (fun x => x) (fun _ => rfl) Try.underlying55 (by kernel_rfl) (opensF_cons o53 (by kernel_rfl) (by rfl) (opensF_cons o30 (by kernel_rfl) (by rfl) (opensF_cons (opens_bool Try.underlying4) (by kernel_rfl) (by rfl) (opensF_one o29 (by kernel_rfl) (by rfl)))))
  exact h
set_option maxRecDepth 100000 in
theorem lifted (os : Os) (started : os.Started) (H : Type) (enc : TypeId × Value → H) :
    ReturnsInHanded {} Try.checked os 10 .any (Rows.fnExactDeltaPutSpec.pre6 enc Try.prog Try.f10 Rows.fnExactDeltaPutRow.domain false) (Rows.fnExactDeltaPutSpec.post enc Try.prog Try.f10 false true false false) := by
  refine returnsInHanded_of_change_sized (C := Try.checked) own started (by kernel_rfl) Try.func10
    (ChangeSpec.witness6 (enc := enc) (C := Try.checked) false ⟨#[], #[.agg #[.slice none 0 0, .slice none 0 0, .bool false, .slice none 0 0]], []⟩ 8 (by kernel_rfl) (by kernel_rfl) (by kernel_rfl) (by kernel_rfl)) ?_
  intro W base args ds gs before hval0 hW hcnd hsz0 _
  have hsz : (DataW.weightsEach Try.prog (Try.f10.params.toList ++ Rows.fnExactDeltaPutSpec.plain.varTypes Try.prog) (ds ++ gs)).all (· ≤ reachBytes) = true := hsz0
  have hval : ∀ (j : Nat) t v, Try.f10.params[j]? = some t → args[j]? = some v → Value.okWide Try.prog W .any base t v := hval0
  have hW' := hW
  obtain ⟨p, q, hA0, hV, rfl, hfz, hnd⟩ := hW
  have hA : DataW.TrodAll enc Try.prog W 0 (fun _ => true) true Try.f10.params.toList args.toList ds p := hA0
  rw [Try.params10] at hA hval hsz
  obtain ⟨v0, vs0, d0, ds0, p0, q0, hargs, rfl, rfl, h0, r0⟩ := trodAll_cons hA
  obtain ⟨rfl, rfl, rfl⟩ := trodAll_nil r0
  obtain rfl : args = #[v0] := by cases args; simp_all
  obtain ⟨rfl, rfl⟩ := trodVars_none hV
  obtain ⟨cs0, rfl, _⟩ := okWide_struct Try.underlying55 (hval 0 55 v0 rfl rfl)
  have k0 := h0
  have lt0 : ∀ x ∈ p0, x.block < W.heap.size := by obtain ⟨m, hm⟩ := k0; exact DataW.trod_lt m _ _ _ hm
  obtain ⟨fuel0, hf0⟩ := h0
  obtain ⟨⟨x0_0, ⟨x0_1, ⟨x0_2, x0_3⟩⟩⟩, hK0, hq0⟩ := ov55.go hf0
  obtain ⟨_, _, hcs0, ⟨A0_0, c0_0, rfl, hc0_0, hr0_0⟩, ⟨_, _, rfl, ⟨A0_1, c0_1, rfl, hc0_1, hr0_1⟩, ⟨_, _, rfl, rfl, ⟨A0_3, c0_3, rfl, hc0_3, hr0_3⟩⟩⟩⟩ := hK0
  obtain rfl : cs0 = #[.slice A0_0 x0_0.length c0_0, .slice A0_1 x0_1.length c0_1, .bool x0_2, .slice A0_3 x0_3.length c0_3] := by
    apply Array.ext'
    simpa [Value.cells] using hcs0
  clear hA0 hval0 hsz0 hsz
  obtain ⟨k, h⟩ := Pure.FnExactDeltaPut x0_0 x0_1 x0_2 x0_3 hq0
  refine (laws_FnExactDeltaPut.calls k _ _ x0_0 _ _ x0_1 x0_2 _ _ x0_3 true W (by exact hr0_0) (by exact hc0_0) (by exact hr0_1) (by exact hc0_1) (by exact hr0_3) (by exact hc0_3) h).mono fun e W' ⟨he, bel0⟩ => ?_
  have bel : Below W.heap.size W W' := bel0
  subst he
  exact ⟨_, rfl, _, _, _, [], _, [], hW', trodAll_mk1 (shut_bool Try.underlying4 _), (trodAll_cons_mk (Below.trod laidOut (by kernel_rfl) (of_decide_eq_true (by kernel_rfl)) k0 bel lt0) trodAll_mk0), rfl, bel.frame _, fun h => by cases h⟩
theorem over : Rows.fnExactDeltaPutRow.holds Try.pinned (OpenSpec.ofChange Rows.fnExactDeltaPutSpec) :=
  OpenClaim.holds_of_wide 10 Try.f10 rfl rfl rfl rfl rfl rfl rfl ⟨rfl, rfl, rfl, rfl, rfl⟩ rfl rfl rfl rfl rfl (by kernel_rfl) Try.func10 (by kernel_rfl)
    (of_decide_eq_true (by kernel_rfl)) (by unfold Func.isWrapper; first | (rw [if_pos (by decide +kernel)]; kernel_rfl) | (rw [if_neg (by decide +kernel)]; exact ⟨rfl, rfl⟩))
    (fun os started H enc _ => lifted os started H enc)
theorem proved : Rows.FnExactDeltaPutSaid := over
#print axioms proved
end Go.Proofs.Ytnljgfaomabkbaa.fnExactDeltaPut
namespace Go.Proofs.Ytnljgfaomabkbaa
/-- The row, under a short name, for the claim. -/
theorem fnExactDeltaPut_holds : Rows.FnExactDeltaPutSaid := fnExactDeltaPut.proved
end Go.Proofs.Ytnljgfaomabkbaa

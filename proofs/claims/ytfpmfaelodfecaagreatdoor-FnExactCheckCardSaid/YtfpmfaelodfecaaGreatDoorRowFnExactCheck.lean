/- The row of the law FnExactCheck out of its pure statement and the walk of its code. No condition. -/
import Derived.Test.YtfpmfaelodfecaaGreatDoorRows
import Derived.Test.YtfpmfaelodfecaaGreatDoorQFnExactCheckx21
import Derived.Test.YtfpmfaelodfecaaGreatDoorPureFnExactCheck
import Derived.Test.YtfpmfaelodfecaaGreatDoorVMOpn
import Derived.Test.YtfpmfaelodfecaaGreatDoorCards
import Derived.Test.YtfpmfaelodfecaaGreatDoorTie
import Derived.WalkKit
import Derived.Lay
import Derived.LaidOnce
import Derived.SevenTiedAt
import Derived.ChangeVars
import Derived.ProofKit
import Derived.OpenShut
import Derived.ShutString
import Derived.ChangeOld
import Derived.Below
import Derived.SizedLaws
namespace Go.Proofs.YtfpmfaelodfecaaGreatDoor.fnExactCheck
open Go.ChangeShapes Go.WideShapes Go.ChangeAt Go.RowKit Go.Proofs.YtfpmfaelodfecaaGreatDoor.M Go.Proofs.YtfpmfaelodfecaaGreatDoor.QFnExactCheck Go.Proofs.YtfpmfaelodfecaaGreatDoorW.PrintWords Go.Proofs.YtfpmfaelodfecaaGreatDoorW.PrintLast
open Go.ChangeMaps (open_string shut_string)
set_option linter.unusedVariables false
theorem own : ownKnob Tryz.prog.godebug = none := by kernel_rfl
theorem laidOut : laidOutB Tryz.prog = true := by kernel_rfl
theorem o73 : Opens Tryz.prog 73 k73 (fun x => (x.f0.size ≤ 9223372036854775807 ∧ (True ∧ (x.f2.size ≤ 9223372036854775807 ∧ (x.f3.size ≤ 9223372036854775807 ∧ x.f4.size ≤ 9223372036854775807))))) := opens_struct (fun x => ⟨x.1, x.2.1, x.2.2.1, x.2.2.2.1, x.2.2.2.2⟩) (fun _ => rfl) Tryz.underlying73 (by kernel_rfl) (opensF_cons (opens_string Tryz.underlying9) (by kernel_rfl) (by rfl) (opensF_cons (opens_bool Tryz.underlying4) (by kernel_rfl) (by rfl) (opensF_cons (opens_string Tryz.underlying9) (by kernel_rfl) (by rfl) (opensF_cons (opens_string Tryz.underlying9) (by kernel_rfl) (by rfl) (opensF_one (opens_string Tryz.underlying9) (by kernel_rfl) (by rfl))))))
theorem o22 : Opens Tryz.prog 22 (Kd.slice 73 k73) (fun x => (x.length ≤ 9223372036854775807 ∧ ∀ y1 ∈ x, (y1.f0.size ≤ 9223372036854775807 ∧ (True ∧ (y1.f2.size ≤ 9223372036854775807 ∧ (y1.f3.size ≤ 9223372036854775807 ∧ y1.f4.size ≤ 9223372036854775807)))))) := opens_slice Tryz.underlying22 (by kernel_rfl) o73
theorem o76 : Opens Tryz.prog 76 k76 (fun x => (x.f0.size ≤ 9223372036854775807 ∧ x.f1.size ≤ 9223372036854775807)) := opens_struct (fun x => ⟨x.1, x.2⟩) (fun _ => rfl) Tryz.underlying76 (by kernel_rfl) (opensF_cons (opens_string Tryz.underlying9) (by kernel_rfl) (by rfl) (opensF_one (opens_string Tryz.underlying9) (by kernel_rfl) (by rfl)))
theorem o23 : Opens Tryz.prog 23 (Kd.slice 76 k76) (fun x => (x.length ≤ 9223372036854775807 ∧ ∀ y2 ∈ x, (y2.f0.size ≤ 9223372036854775807 ∧ y2.f1.size ≤ 9223372036854775807))) := opens_slice Tryz.underlying23 (by kernel_rfl) o76
theorem ov25 : Opens Tryz.prog 25 (Kd.iso (Kd.pair (Kd.slice 73 k73) (Kd.slice 76 k76)) (fun x => x)) (fun x => ((x.1.length ≤ 9223372036854775807 ∧ ∀ y3 ∈ x.1, (y3.f0.size ≤ 9223372036854775807 ∧ (True ∧ (y3.f2.size ≤ 9223372036854775807 ∧ (y3.f3.size ≤ 9223372036854775807 ∧ y3.f4.size ≤ 9223372036854775807))))) ∧ (x.2.length ≤ 9223372036854775807 ∧ ∀ y4 ∈ x.2, (y4.f0.size ≤ 9223372036854775807 ∧ y4.f1.size ≤ 9223372036854775807)))) := by
  have h := opens_struct (d := (Kd.pair (Kd.slice 73 k73) (Kd.slice 76 k76))) (f := fun x => x) (fun x => x) (fun _ => rfl) Tryz.underlying25 (by kernel_rfl) (opensF_cons o22 (by kernel_rfl) (by rfl) (opensF_one o23 (by kernel_rfl) (by rfl)))
  exact h
set_option maxRecDepth 100000 in
theorem lifted (os : Os) (started : os.Started) (H : Type) (enc : TypeId × Value → H) :
    ReturnsInHanded {} Tryz.checked os 3 .any (fun w args => (Rows.fnExactCheckSpec.pre enc Tryz.prog Tryz.f3 [] false w args ∧ laidMetH Tryz.prog Rows.fnExactCheckRow.laid w) ∧ sizedMet enc Tryz.prog Tryz.f3 (OpenSpec.ofChange Rows.fnExactCheckSpec) false w args) (Rows.fnExactCheckSpec.post enc Tryz.prog Tryz.f3 false true false false) := by
  refine returnsInHanded_of_change_and (C := Tryz.checked) (X := fun w _ => laidMetH Tryz.prog Rows.fnExactCheckRow.laid w) (fun _ _ _ hh h => h.of_heap hh) own started (by kernel_rfl) Tryz.func3
    (ChangeSpec.witness_shaped (enc := enc) (C := Tryz.checked) (os := os) (X := fun w _ => laidMetH Tryz.prog Rows.fnExactCheckRow.laid w) false (World.laidAll Tryz.prog os Rows.fnExactCheckRow.laid) #[.agg #[.slice none 0 0, .slice none 0 0], .string ByteArray.empty] 8 (World.laidAll_os _ _ _)
      (World.shaped_of_ZipB (by kernel_rfl) (by kernel_rfl)) (by kernel_rfl) (by kernel_rfl) (by kernel_rfl)
      (by rw [MakeChecks.laidMetH_plain _ _ _ (by kernel_rfl)]; exact laidMet_laidAll _ (by kernel_rfl) (by kernel_rfl))) ?_
  intro W base args ds gs before hval0 hW hcnd hsz0 hL _
  have hsz : (DataW.weightsEach Tryz.prog (Tryz.f3.params.toList ++ Rows.fnExactCheckSpec.plain.varTypes Tryz.prog) (ds ++ gs)).all (· ≤ reachBytes) = true := hsz0
  have hval : ∀ (j : Nat) t v, Tryz.f3.params[j]? = some t → args[j]? = some v → Value.okWide Tryz.prog W .any base t v := hval0
  have hW' := hW
  obtain ⟨p, q, hA0, hV, rfl, hfz, hnd⟩ := hW
  have hA : DataW.TrodAll enc Tryz.prog W 0 (fun _ => true) true Tryz.f3.params.toList args.toList ds p := hA0
  rw [Tryz.params3] at hA hval hsz
  obtain ⟨v0, vs0, d0, ds0, p0, q0, hargs, rfl, rfl, h0, r0⟩ := trodAll_cons hA
  obtain ⟨v1, vs1, d1, ds1, p1, q1, rfl, rfl, rfl, h1, r1⟩ := trodAll_cons r0
  obtain ⟨rfl, rfl, rfl⟩ := trodAll_nil r1
  obtain rfl : args = #[v0, v1] := by cases args; simp_all
  obtain ⟨rfl, rfl⟩ := trodVars_none hV
  obtain ⟨cs0, rfl, _⟩ := okWide_struct Tryz.underlying25 (hval 0 25 v0 rfl rfl)
  have k0 := h0
  have lt0 : ∀ x ∈ p0, x.block < W.heap.size := by obtain ⟨m, hm⟩ := k0; exact DataW.trod_lt m _ _ _ hm
  obtain ⟨fuel0, hf0⟩ := h0
  obtain ⟨⟨x0_0, x0_1⟩, hK0, hq0⟩ := ov25.go hf0
  obtain ⟨_, _, hcs0, ⟨A0_0, c0_0, rfl, hc0_0, hr0_0⟩, ⟨A0_1, c0_1, rfl, hc0_1, hr0_1⟩⟩ := hK0
  obtain rfl : cs0 = #[.slice A0_0 x0_0.length c0_0, .slice A0_1 x0_1.length c0_1] := by
    apply Array.ext'
    simpa [Value.cells] using hcs0
  obtain ⟨a1, rfl, rfl, rfl, y1⟩ := open_string Tryz.underlying9 (hval 1 9 v1 rfl rfl) h1
  have w1 : a1.size ≤ 140737488351232 := by
    have z := sized_string hsz (j := 1) (t := 9) rfl rfl
    rw [Array.length_toList] at z
    exact z
  clear hA0 hval0 hsz0 hsz
  obtain ⟨k, h⟩ := Pure.FnExactCheck x0_0 x0_1 a1 hq0 w1
  refine (laws_FnExactCheck.calls k _ _ x0_0 _ _ x0_1 a1 true W (by exact hr0_0) (by exact hc0_0) (by exact hr0_1) (by exact hc0_1) h).mono fun e W' ⟨he, bel0⟩ => ?_
  have bel : Below W.heap.size W W' := bel0
  subst he
  exact ⟨_, rfl, _, _, _, [], _, [], hW', trodAll_mk1 (shut_bool Tryz.underlying4 _), (trodAll_cons_mk (Below.trod laidOut (by kernel_rfl) (of_decide_eq_true (by kernel_rfl)) k0 bel lt0) (trodAll_cons_mk (shut_string Tryz.underlying9 y1) trodAll_mk0)), rfl, bel.frame _, fun h => by cases h⟩
theorem over : Rows.fnExactCheckRow.holds Tryz.pinned (OpenSpec.ofChange Rows.fnExactCheckSpec) :=
  OpenClaim.holds_of_wide 3 Tryz.f3 rfl rfl rfl rfl rfl rfl rfl ⟨rfl, rfl, rfl, rfl, rfl⟩ rfl rfl rfl rfl rfl (by kernel_rfl) Tryz.func3 (by kernel_rfl)
    (of_decide_eq_true (by kernel_rfl)) (by unfold Func.isWrapper; first | (rw [if_pos (by decide +kernel)]; kernel_rfl) | (rw [if_neg (by decide +kernel)]; exact ⟨rfl, rfl⟩))
    (fun os started H enc _ => lifted os started H enc)
theorem proved : Rows.FnExactCheckCardSaid :=
  Claim7.holds_tied_plain_at .later [] [.data, .pinned, .pinned] true (true, "2b118f5a32ee64feb1e335d900598c1d13bb9edfd7950d080a505dfd94ca2b6c") false over (fun _ h => by cases h) (by kernel_rfl) (fun _ h => by cases h) fnExactCheck_row_tie rfl ⟨rfl, rfl⟩ (by kernel_rfl) rfl
    (fun f fn hf hfn => by
      obtain rfl : f = 3 := Option.some.inj ((show Tryz.prog.funcNamed "loop.example/medlar/laws.FnExactCheck" = some 3 by kernel_rfl).symm.trans hf) |>.symm
      obtain rfl : fn = Tryz.f3 := (Option.some.inj (Tryz.func3.symm.trans hfn)).symm
      exact ⟨by kernel_rfl, fun j t ht => by
        rw [Tryz.params3] at ht
        have hm : t ∈ [25, 9] := by simpa using Array.mem_of_getElem? ht
        have hall : ([25, 9].all fun u => !Tryz.prog.wantsStandIn u) = true := by kernel_rfl
        exact (show Tryz.prog.wantsStandIn t = false by simpa using List.all_eq_true.1 hall t hm)⟩)
    (by kernel_rfl)
#print axioms proved
end Go.Proofs.YtfpmfaelodfecaaGreatDoor.fnExactCheck
namespace Go.Proofs.YtfpmfaelodfecaaGreatDoor
/-- The card, under a short name, for the claim. -/
theorem fnExactCheck_holds : Rows.FnExactCheckCardSaid := fnExactCheck.proved
end Go.Proofs.YtfpmfaelodfecaaGreatDoor

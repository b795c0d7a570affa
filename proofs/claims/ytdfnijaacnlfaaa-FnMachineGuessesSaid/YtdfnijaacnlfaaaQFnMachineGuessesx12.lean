import Derived.Test.YtdfnijaacnlfaaaQFnMachineGuessesx0
import Derived.Test.YtdfnijaacnlfaaaQFnMachineGuessesx7
import Derived.Test.YtdfnijaacnlfaaaQFnMachineGuessesx9
import Derived.Test.YtdfnijaacnlfaaaVMSh2
namespace Go.Proofs.Ytdfnijaacnlfaaa.QFnMachineGuesses
open Go.RowKit Go.Proofs.YtdfnijaacnlfaaaW.PrintWords Go.Proofs.YtdfnijaacnlfaaaW.PrintLast Go.Proofs.YtdfnijaacnlfaaaW.PrintMore Go.Proofs.Ytdfnijaacnlfaaa.Sh
attribute [local go_sem] max2_int min2_int max_two min_two max_three min_three max_four min_four
set_option linter.unusedVariables false
set_option linter.unusedSimpArgs false
set_option maxHeartbeats 8000000
set_option maxRecDepth 100000
-- shrunk

/-! ### spec_l13AnyMachine: function 63 -/
def spec_l13AnyMachine.l0 : Nat → List (S95) → Int → List Int → Int → Option ((List (S95)) × Int)
 | 0, _, _, _, _ => none
 | k + 1, x5, x6, x1000, x1001 => (spec_l1Rd_pick.f k x1000 x1001 11).bind fun bt427 => (if x6 < (wrap64 (3 + bt427.1)) then (if x5.length < 4398046511104 then (spec_l13AnyMachine.l0 k (x5 ++ [(⟨((Int.tmod x6 3) == 0), (([(⟨97, wrap64 (x6 + 1)⟩ : S97), (⟨98, wrap64 (x6 + 1)⟩ : S97)] : List (S97)))⟩ : S95)]) (wrap64 (x6 + 1)) x1000 bt427.2) else (none)) else (if x5.length < 4398046511104 then (some ((x5 ++ [(⟨true, ([] : List (S97))⟩ : S95)]), bt427.2)) else (none)))
def spec_l13AnyMachine.f (k : Nat) (s0_0 : List Int) (s0_1 : Int) : Option ((List (S95)) × Int) := (spec_l13Machine.f k s0_0 s0_1).bind fun bt400 => (if (bt400.1.length : Int) = 0 then (some (bt400.1, bt400.2)) else ((spec_l1Rd_pick.f k s0_0 bt400.2 (bt400.1.length : Int)).bind fun bt404 => ((spec_l1Rd_pick.f k s0_0 bt404.2 10).bind fun bt406 => (if bt406.1 = 0 then (if 0 ≤ bt404.1 then (if bt404.1 < (bt400.1.length : Int) then (some ((bt400.1.set (bt404.1 : Int).toNat (⟨!((rd_T95 bt400.1 bt404.1).f0), (rd_T95 bt400.1 bt404.1).f1⟩ : S95)), bt406.2)) else (none)) else (none)) else (if bt406.1 = 1 then (if 0 ≤ bt404.1 then (if bt404.1 < (bt400.1.length : Int) then ((spec_l1Rd_pick.f k s0_0 bt406.2 26).bind fun bt411 => ((spec_l1Rd_pick.f k s0_0 bt411.2 (wrap64 ((bt400.1.length : Int) + 1))).bind fun bt413 => (if ((rd_T95 bt400.1 bt404.1).f1).length < 8796093022208 then (some ((bt400.1.set (bt404.1 : Int).toNat (⟨(rd_T95 bt400.1 bt404.1).f0, (((rd_T95 bt400.1 bt404.1).f1) ++ [(⟨wrap64 (97 + bt411.1), bt413.1⟩ : S97)])⟩ : S95)), bt413.2)) else (none)))) else (none)) else (none)) else (if bt406.1 = 2 then ((spec_l1Rd_pick.f k s0_0 bt406.2 2).bind fun bt419 => (if bt400.1.length < 4398046511104 then (some ((bt400.1 ++ [(⟨(bt419.1 == 0), ([] : List (S97))⟩ : S95)]), bt419.2)) else (none))) else (if bt406.1 = 3 then (spec_l13AnyMachine.l0 k (([] : List (S95))) 0 s0_0 bt406.2) else (some (bt400.1, bt406.2)))))))))
def spec_l13AnyMachine.T9 : Bool × List (List Nat × List Nat) := (true, [([], []), ([], []), ([], []), ([], []), ([2, 3], [2, 3]), ([4], [4]), ([5], [5]), ([], []), ([7], [7]), ([8], [8]), ([], []), ([], []), ([11], [11]), ([12], [12]), ([10, 13, 8], [10, 13]), ([9, 14], [9, 14]), ([15], [15]), ([6, 16, 14], [6, 16]), ([0, 1, 0, 1, 2, 3, 4, 5, 6, 7, 8, 9, 10, 11, 12, 13, 14, 15, 16, 17], [0, 1]), ([18, 0, 1, 2, 3, 4, 5, 6, 7, 8, 9, 10, 11, 12, 13, 14, 15, 16, 17], [18]), ([19, 17, 17, 0, 1, 2, 3, 4, 5, 6, 7, 8, 9, 10, 11, 12, 13, 14, 15, 16, 17], [17, 19])])
def spec_l13AnyMachine.B9 : List Nat := [0, 0, 0, 0, 12, 28, 60, 0, 128, 384, 0, 0, 2048, 6144, 15744, 32640, 65408, 131068, 262143, 524287, 1048575]
theorem spec_l13AnyMachine.tab9 : rtab .any (opsOf Try.f63 9) = spec_l13AnyMachine.T9 := by kernel_rfl
theorem spec_l13AnyMachine.bits9 : waitsOk spec_l13AnyMachine.T9.2 spec_l13AnyMachine.B9 = true := by kernel_rfl
theorem spec_l13AnyMachine.calls (k : Nat) (g : Nat) (s0_0 : List Int) (s0_1 : Int) (r1 : List (S95)) (r2 : Int) (w0 w : World) (hI : IsS114 w0 w g s0_0 s0_1) (hB : Below w0.heap.size w0 w) (h : spec_l13AnyMachine.f k s0_0 s0_1 = some (r1, r2)) :
  Calls Try.prog 63 #[.pointer (some ⟨g, 0, none⟩)] w fun e w' => ∃ v0_ : Value, e = .returned (v0_) ∧ Kd.S k95 95 w' w.heap.size (fun _ => True) v0_ r1 ∧ IsS114 w0 w' g s0_0 r2 ∧ Below w0.heap.size w0 w' ∧ KeepBut w w' g none := by
 have hu97 := Try.underlying97; have hu95 := Try.underlying95; have HI0 := am hI; have HK := am (KeepBut.refl w g none); have HL := am hB.size; clear hI; have HW0 := am hB.size; have HB := am hB; clear hB
 have H := h; unfold spec_l13AnyMachine.f at H
 clear h; replace H := bs H; obtain ⟨⟨t400, t403⟩, A20, H⟩ := H; dsimp only at H; have A2 := Aside0.mk A20; clear A20
 by_cases c3 : (t400.length : Int) = 0
 ·rw [if_pos c3] at H
  have c3b0 : ((t400.length : Int) == 0) = true := beq_iff_eq.mpr c3
  have c3b1 : ((t400.length : Int) != 0) = false := bne_eq_false_iff_eq.mpr c3
  clear c3; simp only [Option.some.injEq, Prod.mk.injEq] at H
  obtain ⟨rfl, rfl⟩ := H; go_enter Try.func63, Try.ntmps63
  go_wp2_with ((with_reducible refine gate_callee (f := 102) rfl ?_); refine gl 8 Try.func102 #[.pointer (some ⟨g, 0, none⟩)] ?_; (with_reducible refine (spec_l13Machine.calls k g s0_0 s0_1 t400 t403 w0 _ ?side1 ?side2 A2.out).mono ?_); (case side1 => repeat (with_reducible exact HI0.out)); (case side2 => repeat (with_reducible exact HB.out)); rintro e w4 ⟨v401, rfl, ho0, hi, hb, hk⟩; refine ⟨_, rfl, ?_⟩; have HO402 := am (Kd.S_lower ho0 (keep_size (w := w) (g := g) (row := none) b0_)); replace HK := am (KeepBut.trans b0_ hk (.inl rfl)); replace HB := am (hb); replace HI0 := am (hi); clear hb hk hi; clear ho0; obtain ⟨Ao5, co5, eo5⟩ := Kd.S_slice HO402.out; subst eo5)
  go_ret
  exact ⟨_, eq_, b15_, b2_, b1_, b0_⟩
 rw [if_neg c3] at H
 have c3b0 : ((t400.length : Int) == 0) = false := beq_eq_false_iff_ne.mpr c3
 have c3b1 : ((t400.length : Int) != 0) = true := bne_iff_ne.mpr c3
 have c3b2 : ¬ (t400 = []) := fun h_ => c3 (by rw [h_]; rfl)
 replace H := bs H; obtain ⟨⟨t404, t405⟩, A60, H⟩ := H; dsimp only at H; have A6 := Aside0.mk A60; clear A60; replace H := bs H; obtain ⟨⟨t406, t407⟩, A70, H⟩ := H; dsimp only at H; have A7 := Aside0.mk A70; clear A70
 by_cases c8 : t406 = 0
 ·rw [if_pos c8] at H
  have c8b0 : (t406 == 0) = true := beq_iff_eq.mpr c8
  have c8b1 : (t406 != 0) = false := bne_eq_false_iff_eq.mpr c8
  clear c8; replace H := it H; obtain ⟨c9b0, H⟩ := H
  replace H := it H; obtain ⟨c10b0, H⟩ := H; obtain ⟨y409, hy409⟩ : ∃ y_ : List (S95), y_ = (t400.set (t404 : Int).toNat (⟨!((rd_T95 t400 t404).f0), (rd_T95 t400 t404).f1⟩ : S95)) := ⟨_, rfl⟩
  rw [← hy409] at H
  have Ny409 := am hy409; clear hy409; simp only [Option.some.injEq, Prod.mk.injEq] at H
  obtain ⟨rfl, rfl⟩ := H; go_enter Try.func63, Try.ntmps63
  go_wp2_with (first | ((with_reducible refine gate_callee (f := 102) rfl ?_); refine gl 8 Try.func102 #[.pointer (some ⟨g, 0, none⟩)] ?_; (with_reducible refine (spec_l13Machine.calls k g s0_0 s0_1 t400 t403 w0 _ ?side1 ?side2 A2.out).mono ?_); (case side1 => repeat (with_reducible exact HI0.out)); (case side2 => repeat (with_reducible exact HB.out)); rintro e w12 ⟨v401, rfl, ho0, hi, hb, hk⟩; refine ⟨_, rfl, ?_⟩; have HO402 := am (Kd.S_lower ho0 (keep_size (w := w) (g := g) (row := none) b0_)); replace HK := am (KeepBut.trans b0_ hk (.inl rfl)); replace HB := am (hb); replace HI0 := am (hi); clear hb hk hi; clear ho0; obtain ⟨Ao13, co13, eo13⟩ := Kd.S_slice HO402.out; subst eo13) | ((with_reducible refine gate_callee (f := 53) rfl ?_); refine gl 16 Try.func53 #[.pointer (some ⟨g, 0, none⟩), .int .i64 (t400.length : Int)] ?_; (with_reducible refine (spec_l1Rd_pick.calls k g s0_0 t403 (t400.length : Int) t404 t405 w0 _ ?side1 ?side2 A6.out).mono ?_); (case side1 => repeat (with_reducible exact HI0.out)); (case side2 => repeat (with_reducible exact HB.out)); rintro e w14 ⟨rfl, hi, hb, hk⟩; refine ⟨_, rfl, ?_⟩; replace HO402 := am (Kd.S_mono (Kd.S_keep (IsS114.apartS (show IsS114 w0 _ g s0_0 t403 from by repeat (with_reducible exact HI0.out)) b15_ (by decide)) hk (fun _ h => h.2)) (fun _ h => h.1)); replace HK := am (KeepBut.trans b0_ hk (.inl rfl)); replace HB := am (hb); replace HI0 := am (hi); clear hb hk hi) | ((with_reducible refine gate_callee (f := 53) rfl ?_); refine gl 18 Try.func53 #[.pointer (some ⟨g, 0, none⟩), .int .i64 10] ?_; (with_reducible refine (spec_l1Rd_pick.calls k g s0_0 t405 10 t406 t407 w0 _ ?side1 ?side2 A7.out).mono ?_); (case side1 => repeat (with_reducible exact HI0.out)); (case side2 => repeat (with_reducible exact HB.out)); rintro e w15 ⟨rfl, hi, hb, hk⟩; refine ⟨_, rfl, ?_⟩; replace HO402 := am (Kd.S_mono (Kd.S_keep (IsS114.apartS (show IsS114 w0 _ g s0_0 t405 from by repeat (with_reducible exact HI0.out)) b15_ (by decide)) hk (fun _ h => h.2)) (fun _ h => h.1)); replace HK := am (KeepBut.trans b0_ hk (.inl rfl)); replace HB := am (hb); replace HI0 := am (hi); clear hb hk hi; have p408 : 0 ≤ (t404 : Int) := of_decide_eq_true ad; have q408 : t404 < (t400.length : Int) := of_decide_eq_true ad; obtain ⟨ad408, A408_1, c408_1, e408, hx408_0, hx408_1, hl408_1, hi408_1⟩ := at_T95 (Kd.S_reads' HO402.out).2.2 t404 p408 q408; cases e408; obtain ⟨ce408, hce408, hMe408, hcc408⟩ := Kd.S_get HO402.out z95 t404 p408 (by exact q408); obtain ⟨ve408_1, rfl, ge408_1⟩ := k95_openM hMe408; have hv408_1 := hcc408 1 _ rfl; rw [add_field _ _ 1 (by omega)] at hv408_1; replace hv408_1 := Option.some.inj (hv408_1.symm.trans hx408_1); rw [hv408_1] at ge408_1; have HL408_1 := am (show Kd.R k97 97 _ _ _ _ ((rd_T95 t400 t404).f1) from ge408_1); clear hv408_1 ge408_1; have HX408_1 := am hx408_1; clear hcc408 hce408; have HR408_1 := am hi408_1; have HC408_1 := am hl408_1; clear hi408_1 hl408_1; replace p408 := eq_true p408; replace q408 := eq_true q408; have p11 : 0 ≤ (t404 : Int) := of_decide_eq_true ad; have q11 : (t404 : Int) < ((t400.length : Int) : Int) := of_decide_eq_true ad; obtain ⟨go11, co11, eo11, gb11, gl11, cl11, HG11⟩ := Kd.S_form HO402.out (by omega); (cases eo11); have GB11 := Aside0.mk gb11; have GG11 := am HG11; clear gb11 gl11 HG11; (simp only [add_plain] at hx408_0); (simp only [add_plain] at hx408_1); obtain ⟨_, ce11, hcl11, hM11, hcc11, hfr11, _, _⟩ := Kd.S_elem HO402.out z95 (t404 : Int) p11 q11; obtain ⟨ve11_1, rfl, ge11_1⟩ := k95_openM hM11; have hx11_0 : w15.cell? ⟨go11, (t404 : Int).toNat * 2, none⟩ = some (.bool ((rd_T95 t400 t404).f0)) := hcc11 0 _ rfl; have hx11_1 : w15.cell? ⟨go11, (t404 : Int).toNat * 2 + 1, none⟩ = some (ve11_1) := hcc11 1 _ rfl; have hf11_0 : w15.frozen? ⟨go11, (t404 : Int).toNat * 2, none⟩ = false := hfr11 0; have hf11_1 : w15.frozen? ⟨go11, (t404 : Int).toNat * 2 + 1, none⟩ = false := hfr11 1; clear hcl11 hcc11 hfr11; clear hM11; replace p11 := eq_true p11; replace q11 := eq_true q11; have HX16 := am (show Kd.S k95 95 w15 w.heap.size (fun k_ => ((fun _ => True)) k_ ∧ ¬ ((fun _ => False)) k_) (.slice (some ⟨go11, 0, none⟩) t400.length co13) t400 from b89_); obtain ⟨oki16, ce16, hcl16, hM16, hcc16, hfr16, hoki16, hH16⟩ := Kd.S_elem HX16.out z95 (t404 : Int) (of_decide_eq_true ad) b69_; obtain ⟨ve16_1, rfl, ge16_1⟩ := k95_openM hM16; have HP16 := Kd.S_seg hH16 (of_decide_eq_true ad) b69_ (seg := [.bool (!((rd_T95 t400 t404).f0))]) (j := 0) (show 1 ≤ 2 from by decide) (x' := (⟨!((rd_T95 t400 t404).f0), (rd_T95 t400 t404).f1⟩ : S95)) (k95_mkM _ _ _ (⟨!((rd_T95 t400 t404).f0), (rd_T95 t400 t404).f1⟩ : S95) (Kd.R_mono ge16_1 (fun _ h_ => Or.inl h_))) (fun _ hk => hk) (fun k_ hk_ => hk_.elim); have hx16_0 := hcc16 0 _ rfl; simp only [show (k95).sz = 2 from rfl, Nat.mul_one, Nat.add_zero] at hx16_0; have hf16_0 := hfr16 0; simp only [show (k95).sz = 2 from rfl, Nat.mul_one, Nat.add_zero] at hf16_0; clear hcl16 hcc16 hfr16 hoki16 hH16; clear hM16) | ((with_reducible refine gate_store (t := 4) (p := 30) rfl ?_); refine store_event (t := 4) (p := 30) (v := ?vo_w17) (w1 := (w15.setCell ⟨go11, (t404 : Int).toNat * 2, none⟩ (.bool (!((rd_T95 t400 t404).f0))))) ?hg ?ho ?hn ?hr ?_; (case ho => rfl); (case hg => rfl); (case hn => rfl); (case hr => (go_simp; done)); intro w17 hw; have hg : w15.grownBy w17 (some go11) := (by rw [hw]; exact HP16.2); have hp_ : Kd.S k95 95 w17 w.heap.size (fun _ => True) (.slice (some ⟨go11, 0, none⟩) t400.length co13) y409 := (by rw [hw, Ny409.out]; exact HP16.1); clear HP16; replace HI0 := am (IsS114.grown b2_ hg (IsS114.own_neS HI0.out HO402.out (by decide))); replace HL408_1 := am (Kd.R_after (v := (.slice (some ⟨go11, 0, none⟩) t400.length co13)) (v1 := (.slice (some ⟨go11, 0, none⟩) t400.length co13)) (ok := (fun _ => True)) (rq HL408_1.out) hg (.inl rfl)); replace HB := am ((by rw [hw]; exact below_set (HB.out) (Nat.le_trans HL.out GB11.out) : Below w0.heap.size w0 w17)); replace HK := am (KeepBut.trans b0_ (KeepBut.of_grown hg g) (Kd.S_base2 HO402.out)); replace HO402 := am (hp_); clear hg hw hp_))
  go_ret
  exact ⟨_, eq_, b15_, b2_, b1_, b0_⟩
 rw [if_neg c8] at H
 have c8b0 : (t406 == 0) = false := beq_eq_false_iff_ne.mpr c8
 have c8b1 : (t406 != 0) = true := bne_iff_ne.mpr c8
 by_cases c18 : t406 = 1
 ·rw [if_pos c18] at H
  have c18b0 : (t406 == 1) = true := beq_iff_eq.mpr c18
  have c18b1 : (t406 != 1) = false := bne_eq_false_iff_eq.mpr c18
  clear c18; replace H := it H; obtain ⟨c19b0, H⟩ := H; replace H := it H; obtain ⟨c20b0, H⟩ := H; replace H := bs H; obtain ⟨⟨t411, t412⟩, A210, H⟩ := H; dsimp only at H; have A21 := Aside0.mk A210; clear A210; replace H := bs H; obtain ⟨⟨t413, t414⟩, A220, H⟩ := H; dsimp only at H; have A22 := Aside0.mk A220; clear A220
  replace H := ip H; obtain ⟨c23, H⟩ := H; have LMc23 := Aside0.mk c23; clear c23; obtain ⟨y415, hy415⟩ : ∃ y_ : List (S97), y_ = (((rd_T95 t400 t404).f1) ++ [(⟨wrap64 (97 + t411), t413⟩ : S97)]) := ⟨_, rfl⟩
  rw [← hy415] at H
  have Ny415 := am hy415; clear hy415; obtain ⟨y418, hy418⟩ : ∃ y_ : List (S95), y_ = (t400.set (t404 : Int).toNat (⟨(rd_T95 t400 t404).f0, y415⟩ : S95)) := ⟨_, rfl⟩
  rw [← hy418] at H
  have Ny418 := am hy418; clear hy418; simp only [Option.some.injEq, Prod.mk.injEq] at H
  obtain ⟨rfl, rfl⟩ := H; go_enter Try.func63, Try.ntmps63
  try go_wp2_with (first | ((with_reducible refine gate_callee (f := 102) rfl ?_); refine gl 8 Try.func102 #[.pointer (some ⟨g, 0, none⟩)] ?_; (with_reducible refine (spec_l13Machine.calls k g s0_0 s0_1 t400 t403 w0 _ ?side1 ?side2 A2.out).mono ?_); (case side1 => repeat (with_reducible exact HI0.out)); (case side2 => repeat (with_reducible exact HB.out)); rintro e w25 ⟨v401, rfl, ho0, hi, hb, hk⟩; refine ⟨_, rfl, ?_⟩; have HO402 := am (Kd.S_lower ho0 (keep_size (w := w) (g := g) (row := none) b0_)); replace HK := am (KeepBut.trans b0_ hk (.inl rfl)); replace HB := am (hb); replace HI0 := am (hi); clear hb hk hi; clear ho0; obtain ⟨Ao26, co26, eo26⟩ := Kd.S_slice HO402.out; subst eo26) | ((with_reducible refine gate_callee (f := 53) rfl ?_); refine gl 16 Try.func53 #[.pointer (some ⟨g, 0, none⟩), .int .i64 (t400.length : Int)] ?_; (with_reducible refine (spec_l1Rd_pick.calls k g s0_0 t403 (t400.length : Int) t404 t405 w0 _ ?side1 ?side2 A6.out).mono ?_); (case side1 => repeat (with_reducible exact HI0.out)); (case side2 => repeat (with_reducible exact HB.out)); rintro e w27 ⟨rfl, hi, hb, hk⟩; refine ⟨_, rfl, ?_⟩; replace HO402 := am (Kd.S_mono (Kd.S_keep (IsS114.apartS (show IsS114 w0 _ g s0_0 t403 from by repeat (with_reducible exact HI0.out)) b15_ (by decide)) hk (fun _ h => h.2)) (fun _ h => h.1)); replace HK := am (KeepBut.trans b0_ hk (.inl rfl)); replace HB := am (hb); replace HI0 := am (hi); clear hb hk hi) | ((with_reducible refine gate_callee (f := 53) rfl ?_); refine gl 18 Try.func53 #[.pointer (some ⟨g, 0, none⟩), .int .i64 10] ?_; (with_reducible refine (spec_l1Rd_pick.calls k g s0_0 t405 10 t406 t407 w0 _ ?side1 ?side2 A7.out).mono ?_); (case side1 => repeat (with_reducible exact HI0.out)); (case side2 => repeat (with_reducible exact HB.out)); rintro e w28 ⟨rfl, hi, hb, hk⟩; refine ⟨_, rfl, ?_⟩; replace HO402 := am (Kd.S_mono (Kd.S_keep (IsS114.apartS (show IsS114 w0 _ g s0_0 t405 from by repeat (with_reducible exact HI0.out)) b15_ (by decide)) hk (fun _ h => h.2)) (fun _ h => h.1)); replace HK := am (KeepBut.trans b0_ hk (.inl rfl)); replace HB := am (hb); replace HI0 := am (hi); clear hb hk hi))
  replace HO402 := am (Kd.S_drew HO402.out); replace HI0 := am (IsS114.drew HI0.out); replace HK := am (keep_drew HK.out); replace HB := am (below_drew1 HB.out)
  have p410 : 0 ≤ (t404 : Int) := of_decide_eq_true ad
  have q410 : t404 < (t400.length : Int) := of_decide_eq_true ad
  obtain ⟨ad410, A410_1, c410_1, e410, hx410_0, hx410_1, hl410_1, hi410_1⟩ := at_T95 (Kd.S_reads' HO402.out).2.2 t404 p410 q410; cases e410
  obtain ⟨ce410, hce410, hMe410, hcc410⟩ := Kd.S_get HO402.out z95 t404 p410 (by exact q410)
  obtain ⟨ve410_1, rfl, ge410_1⟩ := k95_openM hMe410; have hv410_1 := hcc410 1 _ rfl
  rw [add_field _ _ 1 (by omega)] at hv410_1
  replace hv410_1 := Option.some.inj (hv410_1.symm.trans hx410_1); rw [hv410_1] at ge410_1; have HL410_1 := am (show Kd.R k97 97 _ _ _ _ ((rd_T95 t400 t404).f1) from ge410_1); clear hv410_1 ge410_1; have HX410_1 := am hx410_1; clear hcc410 hce410; have HR410_1 := am hi410_1; have HC410_1 := am hl410_1; clear hi410_1 hl410_1; replace p410 := eq_true p410; replace q410 := eq_true q410
  refine start_ (n := 21) (S := fun w' => w'.cell? (ad410.add ((t404).toNat * 2)) = some (.bool ((rd_T95 t400 t404).f0)) ∧ w'.cell? ⟨(ad410.add ((t404).toNat * 2)).block, (ad410.add ((t404).toNat * 2)).off + 1, none⟩ = some (.slice A410_1 ((rd_T95 t400 t404).f1).length c410_1)) (ds := [20]) #[false, false, false, false, false, false, false, false, false, false, false, false, false, false, false, false, false, false, false, false, false] (by kernel_rfl) rfl rfl ⟨hx410_0, hx410_1⟩ (fun hHeld => ?_); refine with_tabW spec_l13AnyMachine.tab9 spec_l13AnyMachine.bits9 (fun HT_ HW_ => ?_)
  generalize w28.drew = w29 at HO402 HI0 HK HB HL410_1 HR410_1 HX410_1 hx410_0 hx410_1 hHeld ⊢; refine pu 0 33 ?_; refine pu 1 34 ?_; refine pu 2 35 ?_; refine pu 3 36 ?_; refine pu 4 37 ?_; refine pu 5 38 ?_; refine pu 7 40 ?_; refine pu 10 43 ?_; refine pu 11 44 ?_; refine pu 12 45 ?_; refine pu 13 46 ?_; refine tk2 6 39 hHeld ?_; refine on1 8 41 (fun K hK => ?_)
  refine go1 Try.func53 #[.pointer (some ⟨g, 0, none⟩), .int .i64 26] ?_
  with_reducible refine (spec_l1Rd_pick.calls k g s0_0 t407 26 t411 t412 w0 _ ?side1 ?side2 A21.out).mono ?_
  (case side1 => repeat (with_reducible exact HI0.out)); (case side2 => repeat (with_reducible exact HB.out))
  rintro e w30 ⟨rfl, hi, hb, hk⟩; have HS0_ := keep_cell hk (hHeld.1) b29_; have HS1_ := keep_cell hk (hHeld.2) b29_; refine ⟨_, rfl, ?_⟩
  replace HL410_1 := am (Kd.R_mono (Kd.R_keep (IsS114.apart (show IsS114 w0 _ g s0_0 t407 from by repeat (with_reducible exact HI0.out)) (rq HL410_1.out) (by decide)) hk (fun _ h => h.2)) (fun _ h => h.1))
  replace HX410_1 := am (keep_cell hk HX410_1.out b47_)
  replace HO402 := am (Kd.S_mono (Kd.S_keep (IsS114.apartS (show IsS114 w0 _ g s0_0 t407 from by repeat (with_reducible exact HI0.out)) b15_ (by decide)) hk (fun _ h => h.2)) (fun _ h => h.1))
  replace HK := am (KeepBut.trans b0_ hk (.inl rfl)); replace HB := am (hb); replace HI0 := am (hi); clear hb hk hi; refine hK.out _ _ ⟨HS0_, HS1_⟩ (fun hHeld => ?_); clear hK K; refine nm 41 ?_; refine pu 9 42 ?_; refine on1 14 47 (fun K hK => ?_)
  refine go1 Try.func53 #[.pointer (some ⟨g, 0, none⟩), .int .i64 (wrap64 ((t400.length : Int) + 1))] ?_
  with_reducible refine (spec_l1Rd_pick.calls k g s0_0 t412 (wrap64 ((t400.length : Int) + 1)) t413 t414 w0 _ ?side1 ?side2 A22.out).mono ?_
  (case side1 => repeat (with_reducible exact HI0.out)); (case side2 => repeat (with_reducible exact HB.out))
  rintro e w31 ⟨rfl, hi, hb, hk⟩; have HS0_ := keep_cell hk (hHeld.1) b29_; have HS1_ := keep_cell hk (hHeld.2) b29_; refine ⟨_, rfl, ?_⟩
  replace HL410_1 := am (Kd.R_mono (Kd.R_keep (IsS114.apart (show IsS114 w0 _ g s0_0 t412 from by repeat (with_reducible exact HI0.out)) (rq HL410_1.out) (by decide)) hk (fun _ h => h.2)) (fun _ h => h.1))
  replace HX410_1 := am (keep_cell hk HX410_1.out b47_)
  replace HO402 := am (Kd.S_mono (Kd.S_keep (IsS114.apartS (show IsS114 w0 _ g s0_0 t412 from by repeat (with_reducible exact HI0.out)) b15_ (by decide)) hk (fun _ h => h.2)) (fun _ h => h.1))
  replace HK := am (KeepBut.trans b0_ hk (.inl rfl)); replace HB := am (hb); replace HI0 := am (hi); clear hb hk hi
  obtain ⟨go32, co32, eo32, gb32, gl32, cl32, HG32⟩ := Kd.S_form HO402.out (by have h_ : (t404 : Int) < ((t400.length : Int) : Int) := of_decide_eq_true ad; have h2_ : 0 ≤ (t404 : Int) := (of_decide_eq_true ad); omega)
  (cases eo32)
  have GB32 := Aside0.mk gb32; have GG32 := am HG32; clear gb32 gl32 HG32
  (simp only [add_plain] at hx410_0)
  (simp only [add_plain] at hx410_1)
  obtain ⟨oki32, ce32, hcl32, hM32, hcc32, _, _, hH32⟩ := Kd.S_elem HO402.out z95 (t404 : Int) (of_decide_eq_true ad) b69_; obtain ⟨ve32_1, rfl, ge32_1⟩ := k95_openM hM32; have hv32 := hcc32 1 _ rfl; have hX32 := HX410_1.out
  simp only [add_plain] at hX32
  replace hv32 := Option.some.inj (hv32.symm.trans hX32); subst hv32; clear hX32 hcc32 hcl32; have UU32 := am (show Kd.R k97 97 _ w.heap.size oki32 (.slice A410_1 ((rd_T95 t400 t404).f1).length c410_1) ((rd_T95 t400 t404).f1) from ge32_1); have HH32 := am hH32; have HN32 := am (Kd.S_reads' HO402.out).1; clear hH32 ge32_1; refine hK.out _ _ ⟨HS0_, HS1_⟩ (fun hHeld => ?_); clear hK K; refine nm 47 ?_; refine pu 15 48 ?_; refine on1 16 49 (fun K hK => ?_)
  refine value_ (w1 := ?_) (v := ?_) (by rfl) rfl ?_ ?_
  rotate_left 2
  ·go_simp
   constructor
   ·rfl
   ·rfl
  refine hK.out _ _ ⟨(World.cell?_alloc_lt _ _ _ (World.block_lt_of_cell? _ _ (hHeld.1))).trans (hHeld.1), (World.cell?_alloc_lt _ _ _ (World.block_lt_of_cell? _ _ (hHeld.2))).trans (hHeld.2)⟩ (fun hHeld => ?_); clear hK K; refine nm 49 ?_; refine on1 17 50 (fun K hK => ?_)
  refine Kd.R_append_step k97 w.heap.size (by rfl) (.tmp 39) (.tmp 49) 93 97 (.agg #[(.int .i64 0), (.int .i64 0)]) 16 rfl Try.underlying93 info97 rfl (by decide) (by omega) (.slice A410_1 ((rd_T95 t400 t404).f1).length c410_1) ((rd_T95 t400 t404).f1) (⟨wrap64 (97 + t411), t413⟩ : S97) [.int .i64 (wrap64 (97 + t411)), .int .i64 t413] (fun k_ => oki32 k_ ∨ ((fun _ => True)) k_ ∧ w31.heap.size ≤ k_) (fun _ => False) rfl rfl ?aP (fun _ hk => hk.elim) ?aF ?aO (Below.refl _ _) ?aS ?aL ?_
  (case aP => exact k97_mkM _ _ _ (⟨wrap64 (97 + t411), t413⟩ : S97)); (case aF => exact (fun k_ hk => .inr ⟨trivial, hk⟩)); (case aO => exact (rq (Kd.R_mono UU32.out (fun _ hk => .inl hk)))); (case aS => exact (keep_size (w := w) (g := g) (row := none) b0_)); (case aL => have := LMc23.out; omega); intro v416 w33 ho hb hg hat
  (have HS0_ := cell_grown hg (cell_unalloc (hHeld.1) b83_) b33_)
  (have HS1_ := cell_grown hg (cell_unalloc (hHeld.2) b83_) b33_)
  rw [← Ny415.out] at ho
  replace HB := am (below_weaken b1_ HL.out hb); replace HI0 := am (IsS114.grown b2_ hg (IsS114.own_ne HI0.out HL410_1.out (by decide))); replace HK := am (KeepBut.trans b0_ (KeepBut.of_grown hg g) (Kd.R_base2 HL410_1.out))
  replace HH32 := am (Kd.H_grown (Kd.H_widen (by repeat (exact HH32.out))) hg (fun k_ e_ => .inl (UU32.out.1 k_ e_)))
  have HO417 := am (ho); clear HO402 UU32 HL410_1; clear ho hb hg hat
  have p24 : 0 ≤ (t404 : Int) := of_decide_eq_true ad
  have q24 : (t404 : Int) < ((t400.length : Int) : Int) := of_decide_eq_true ad
  replace p24 := eq_true p24; replace q24 := eq_true q24; obtain ⟨Ao36, co36, eo36⟩ := Kd.R_slice HO417.out
  (subst eo36)
  obtain ⟨_, _, hraw34, _, _, hcc34, _⟩ := Kd.H_raw HH32.out (of_decide_eq_true ad) b70_; obtain ⟨_, hfr34⟩ := Kd.H_at HH32.out (of_decide_eq_true ad) b70_; have hx34_0 := hcc34 1 _ rfl; have hf34_0 := hfr34 1
  rw [show (k95).sz = 2 from rfl] at hx34_0
  rw [show (k95).sz = 2 from rfl] at hf34_0
  have HP34 := Kd.S_seg0 HH32.out (of_decide_eq_true ad) b70_ (seg := [.slice Ao36 y415.length co36]) (j := 1) (show 2 ≤ 2 from by decide) (x' := (⟨(rd_T95 t400 t404).f0, y415⟩ : S95)) (k95_mkM _ _ _ (⟨(rd_T95 t400 t404).f0, y415⟩ : S95) HO417.out) (fun _ hk => hk)
  clear hcc34 hfr34
  have HN0_go32 := am (show g ≠ go32 from by have h_ := IsS114.own_ne HI0.out hraw34 (by decide); intro e_; exact h_ (by rw [e_]; rfl))
  have HS34 := HP34.1; rw [← Ny418.out] at HS34; have HQ34 := am HS34; obtain ⟨_, hgg34⟩ := Kd.R_typed hraw34 go32 rfl; have GG34_ := am hgg34; clear HP34 HS34 hgg34
  refine hK.out _ _ ⟨HS0_, HS1_⟩ (fun hHeld => ?_); clear hK K; refine nm 50 ?_; refine pu 18 51 ?_; refine pu 19 52 ?_
  refine last_ (i := 20) (N := none) #[true, true, true, true, true, true, true, true, true, true, true, true, true, true, true, true, true, true, true, true, true] rfl rfl (one_of HT_.out (by kernel_rfl)) (by decide) (fun K hK => ?_)
  refine skip_ (w1 := ?_) (by rfl) rfl ?_ ?_
  rotate_left
  ·go_simp
   rfl
  refine hK.out _ _ ?_; clear hK K
  refine done_ (done_of HT_.out (by kernel_rfl)) ?_
  try go_wp2
  go_ret
  exact ⟨_, eq_, by (with_reducible repeat (fail)); exact HQ34.out, by repeat (with_reducible first | exact HI0.out | refine IsS114.far ?_ HN0_go32.out _), by repeat (with_reducible first | exact HB.out | refine below_set ?_ (Nat.le_trans HL.out GB32.out)), by repeat (with_reducible first | exact HK.out | refine keep_far ?_ GB32.out _)⟩
 rw [if_neg c18] at H
 have c18b0 : (t406 == 1) = false := beq_eq_false_iff_ne.mpr c18
 have c18b1 : (t406 != 1) = true := bne_iff_ne.mpr c18
 by_cases c37 : t406 = 2
 ·rw [if_pos c37] at H
  have c37b0 : (t406 == 2) = true := beq_iff_eq.mpr c37
  have c37b1 : (t406 != 2) = false := bne_eq_false_iff_eq.mpr c37
  clear c37; replace H := bs H; obtain ⟨⟨t419, t420⟩, A380, H⟩ := H; dsimp only at H; have A38 := Aside0.mk A380; clear A380
  replace H := ip H; obtain ⟨c39, H⟩ := H; have LMc39 := Aside0.mk c39; clear c39; obtain ⟨y421, hy421⟩ : ∃ y_ : List (S95), y_ = (t400 ++ [(⟨(t419 == 0), ([] : List (S97))⟩ : S95)]) := ⟨_, rfl⟩
  rw [← hy421] at H
  have Ny421 := am hy421; clear hy421; simp only [Option.some.injEq, Prod.mk.injEq] at H
  obtain ⟨rfl, rfl⟩ := H; go_enter Try.func63, Try.ntmps63
  go_wp2_with (first | ((with_reducible refine gate_callee (f := 102) rfl ?_); refine gl 8 Try.func102 #[.pointer (some ⟨g, 0, none⟩)] ?_; (with_reducible refine (spec_l13Machine.calls k g s0_0 s0_1 t400 t403 w0 _ ?side1 ?side2 A2.out).mono ?_); (case side1 => repeat (with_reducible exact HI0.out)); (case side2 => repeat (with_reducible exact HB.out)); rintro e w40 ⟨v401, rfl, ho0, hi, hb, hk⟩; refine ⟨_, rfl, ?_⟩; have HO402 := am (Kd.S_lower ho0 (keep_size (w := w) (g := g) (row := none) b0_)); replace HK := am (KeepBut.trans b0_ hk (.inl rfl)); replace HB := am (hb); replace HI0 := am (hi); clear hb hk hi; clear ho0; obtain ⟨Ao41, co41, eo41⟩ := Kd.S_slice HO402.out; subst eo41) | ((with_reducible refine gate_callee (f := 53) rfl ?_); refine gl 16 Try.func53 #[.pointer (some ⟨g, 0, none⟩), .int .i64 (t400.length : Int)] ?_; (with_reducible refine (spec_l1Rd_pick.calls k g s0_0 t403 (t400.length : Int) t404 t405 w0 _ ?side1 ?side2 A6.out).mono ?_); (case side1 => repeat (with_reducible exact HI0.out)); (case side2 => repeat (with_reducible exact HB.out)); rintro e w42 ⟨rfl, hi, hb, hk⟩; refine ⟨_, rfl, ?_⟩; replace HO402 := am (Kd.S_mono (Kd.S_keep (IsS114.apartS (show IsS114 w0 _ g s0_0 t403 from by repeat (with_reducible exact HI0.out)) b15_ (by decide)) hk (fun _ h => h.2)) (fun _ h => h.1)); replace HK := am (KeepBut.trans b0_ hk (.inl rfl)); replace HB := am (hb); replace HI0 := am (hi); clear hb hk hi) | ((with_reducible refine gate_callee (f := 53) rfl ?_); refine gl 18 Try.func53 #[.pointer (some ⟨g, 0, none⟩), .int .i64 10] ?_; (with_reducible refine (spec_l1Rd_pick.calls k g s0_0 t405 10 t406 t407 w0 _ ?side1 ?side2 A7.out).mono ?_); (case side1 => repeat (with_reducible exact HI0.out)); (case side2 => repeat (with_reducible exact HB.out)); rintro e w43 ⟨rfl, hi, hb, hk⟩; refine ⟨_, rfl, ?_⟩; replace HO402 := am (Kd.S_mono (Kd.S_keep (IsS114.apartS (show IsS114 w0 _ g s0_0 t405 from by repeat (with_reducible exact HI0.out)) b15_ (by decide)) hk (fun _ h => h.2)) (fun _ h => h.1)); replace HK := am (KeepBut.trans b0_ hk (.inl rfl)); replace HB := am (hb); replace HI0 := am (hi); clear hb hk hi) | ((with_reducible refine gate_callee (f := 53) rfl ?_); refine gl 57 Try.func53 #[.pointer (some ⟨g, 0, none⟩), .int .i64 2] ?_; (with_reducible refine (spec_l1Rd_pick.calls k g s0_0 t407 2 t419 t420 w0 _ ?side1 ?side2 A38.out).mono ?_); (case side1 => repeat (with_reducible exact HI0.out)); (case side2 => repeat (with_reducible exact HB.out)); rintro e w44 ⟨rfl, hi, hb, hk⟩; refine ⟨_, rfl, ?_⟩; replace HO402 := am (Kd.S_mono (Kd.S_keep (IsS114.apartS (show IsS114 w0 _ g s0_0 t407 from by repeat (with_reducible exact HI0.out)) b15_ (by decide)) hk (fun _ h => h.2)) (fun _ h => h.1)); replace HK := am (KeepBut.trans b0_ hk (.inl rfl)); replace HB := am (hb); replace HI0 := am (hi); clear hb hk hi) | ((with_reducible refine gate_builtin (b := .append) (xs := #[.tmp 55, .tmp 60]) rfl ?_); at_builtin; refine Kd.S_append k95 w.heap.size rfl (.tmp 55) (.tmp 60) 49 95 (.agg #[(.bool false), (.slice none 0 0)]) 32 rfl Try.underlying49 info95 rfl (by decide) (by omega) (.slice Ao41 t400.length co41) t400 (⟨(t419 == 0), ([] : List (S97))⟩ : S95) [.bool (t419 == 0), .slice none 0 0] (fun _ => True) (fun _ => False) rfl rfl ?aP (fun k_ hk_ => hk_.elim) ?aF ?aO (Below.refl _ _) ?aS ?aL ?_; (case aP => exact k95_mkM _ _ _ (⟨(t419 == 0), ([] : List (S97))⟩ : S95) (Kd.R_nil _ _ _ _ _)); (case aF => exact (fun _ _ => trivial)); (case aO => exact b89_); (case aS => exact (keep_size (w := w) (g := g) (row := none) b0_)); (case aL => have := LMc39.out; omega); intro v422 w45 ho hb hg hat; rw [← Ny421.out] at ho; replace HB := am (below_weaken b1_ HL.out hb); replace HI0 := am (IsS114.grown b2_ hg (IsS114.own_neS HI0.out HO402.out (by decide))); replace HK := am (KeepBut.trans b0_ (KeepBut.of_grown hg g) (Kd.S_base2 HO402.out)); have HO423 := am (ho); clear HO402; clear ho hb hg hat))
  go_ret
  exact ⟨_, eq_, by (with_reducible repeat (fail)); exact HO423.out, b2_, b1_, b0_⟩
 rw [if_neg c37] at H
 have c37b0 : (t406 == 2) = false := beq_eq_false_iff_ne.mpr c37
 have c37b1 : (t406 != 2) = true := bne_iff_ne.mpr c37
 by_cases c46 : t406 = 3
 ·rw [if_pos c46] at H
  have c46b0 : (t406 == 3) = true := beq_iff_eq.mpr c46
  have c46b1 : (t406 != 3) = false := bne_eq_false_iff_eq.mpr c46
  clear c46; obtain ⟨y424, hy424⟩ : ∃ y_ : List (S95), y_ = (([] : List (S95))) := ⟨_, rfl⟩
  rw [← hy424] at H
  have Ny424 := am hy424; clear hy424
  have H' := am H
  clear H; go_enter Try.func63, Try.ntmps63
  go_wp2_with (first | ((with_reducible refine gate_callee (f := 102) rfl ?_); refine gl 8 Try.func102 #[.pointer (some ⟨g, 0, none⟩)] ?_; (with_reducible refine (spec_l13Machine.calls k g s0_0 s0_1 t400 t403 w0 _ ?side1 ?side2 A2.out).mono ?_); (case side1 => repeat (with_reducible exact HI0.out)); (case side2 => repeat (with_reducible exact HB.out)); rintro e w47 ⟨v401, rfl, ho0, hi, hb, hk⟩; refine ⟨_, rfl, ?_⟩; have HO402 := am (Kd.S_lower ho0 (keep_size (w := w) (g := g) (row := none) b0_)); replace HK := am (KeepBut.trans b0_ hk (.inl rfl)); replace HB := am (hb); replace HI0 := am (hi); clear hb hk hi; clear ho0; obtain ⟨Ao48, co48, eo48⟩ := Kd.S_slice HO402.out; subst eo48) | ((with_reducible refine gate_callee (f := 53) rfl ?_); refine gl 16 Try.func53 #[.pointer (some ⟨g, 0, none⟩), .int .i64 (t400.length : Int)] ?_; (with_reducible refine (spec_l1Rd_pick.calls k g s0_0 t403 (t400.length : Int) t404 t405 w0 _ ?side1 ?side2 A6.out).mono ?_); (case side1 => repeat (with_reducible exact HI0.out)); (case side2 => repeat (with_reducible exact HB.out)); rintro e w49 ⟨rfl, hi, hb, hk⟩; refine ⟨_, rfl, ?_⟩; replace HO402 := am (Kd.S_mono (Kd.S_keep (IsS114.apartS (show IsS114 w0 _ g s0_0 t403 from by repeat (with_reducible exact HI0.out)) b15_ (by decide)) hk (fun _ h => h.2)) (fun _ h => h.1)); replace HK := am (KeepBut.trans b0_ hk (.inl rfl)); replace HB := am (hb); replace HI0 := am (hi); clear hb hk hi) | ((with_reducible refine gate_callee (f := 53) rfl ?_); refine gl 18 Try.func53 #[.pointer (some ⟨g, 0, none⟩), .int .i64 10] ?_; (with_reducible refine (spec_l1Rd_pick.calls k g s0_0 t405 10 t406 t407 w0 _ ?side1 ?side2 A7.out).mono ?_); (case side1 => repeat (with_reducible exact HI0.out)); (case side2 => repeat (with_reducible exact HB.out)); rintro e w50 ⟨rfl, hi, hb, hk⟩; refine ⟨_, rfl, ?_⟩; replace HO402 := am (Kd.S_mono (Kd.S_keep (IsS114.apartS (show IsS114 w0 _ g s0_0 t405 from by repeat (with_reducible exact HI0.out)) b15_ (by decide)) hk (fun _ h => h.2)) (fun _ h => h.1)); replace HK := am (KeepBut.trans b0_ hk (.inl rfl)); replace HB := am (hb); replace HI0 := am (hi); clear hb hk hi) | ((with_reducible refine gate_dst (N := 64) rfl ?_); refine Kd.S_lit k95 _ 95 ?hg (N := 64) ?hd (xs := ([] : List (S95))) (inner := []) (ok := fun _ => True) (okp := fun _ => True) ?hr ?hp (fun _ hk => hk) trivial (Below.refl _ _) (Nat.le_refl _) (by simp) ?_; (case hd => rfl); (case hg => rfl); (case hr => (go_simp; done)); (case hp => exact (Reps.none _ _)); intro v425 w51 ho52 hb hg_ hnew_; clear hg_ hnew_; (rw [← Ny424.out] at ho52); have HO426 := am (Kd.S_lower (Kd.S_new' ho52 (Kd.S_lt b15_)) (keep_size (w := w) (g := g) (row := none) b0_)); replace HO402 := am (Kd.S_elder' b15_ (Kd.S_base ho52) hb); replace HK := am (KeepBut.trans b0_ (KeepBut.of_below hb g none) (.inl rfl)); replace HB := am (below_step b1_ hb); replace HI0 := am (IsS114.below b2_ hb); clear hb ho52))
  go_loopg [5, 6] k (fun kq v5 v6 w' => ∃ (x5_1 : List (S95)) (x6_1 : Int) (x1001_1 : Int), v6 = .int .i64 x6_1 ∧ Aside0 (spec_l13AnyMachine.l0 kq x5_1 x6_1 s0_0 x1001_1 = some (r1, r2)) ∧ Aside0 (kq ≤ k) ∧ Aside0 (Kd.S k95 95 w' w.heap.size (fun _ => True) v5 x5_1) ∧ Aside0 (IsS114 w0 w' g s0_0 x1001_1) ∧ Aside0 (KeepBut w w' g none) ∧ Aside0 (Below w0.heap.size w0 w'))
  case atStart => exact ⟨(y424), (0), (t407), sq, H', ⟨Nat.le_refl _⟩, ⟨by (with_reducible repeat (fail)); exact Kd.S_mono HO426.out (fun _ hk => trivial)⟩, ⟨b2_⟩, ⟨b0_⟩, ⟨b1_⟩⟩
  case round =>
   clear H'; clear c3 c3b0 c3b1 c3b2 c8 c8b0 c8b1 c18 c18b0 c18b1 c37 c37b0 c37b1 c46b0 c46b1; obtain ⟨x5_1, x6_1, x1001_1, rfl, HA, HK1, HO_5, HI0, HK, HB⟩ := hrel
   cases gk with
   | zero => exact absurd HA.out (by simp [spec_l13AnyMachine.l0])
   | succ k1 =>
    have H := HA.out; clear HA; simp only [spec_l13AnyMachine.l0] at H; replace H := bs H; obtain ⟨⟨t427, t428⟩, A530, H⟩ := H; dsimp only at H; have A53 := Aside0.mk A530; clear A530
    by_cases c54 : x6_1 < (wrap64 (3 + t427))
    ·rw [if_pos c54] at H; have c54b0 := decide_eq_true c54; clear c54; obtain ⟨y429, hy429⟩ : ∃ y_ : List (S97), y_ = (([(⟨97, wrap64 (x6_1 + 1)⟩ : S97), (⟨98, wrap64 (x6_1 + 1)⟩ : S97)] : List (S97))) := ⟨_, rfl⟩
     rw [← hy429] at H
     have Ny429 := am hy429; clear hy429
     replace H := ip H; obtain ⟨c55, H⟩ := H; have LMc55 := Aside0.mk c55; clear c55; obtain ⟨y432, hy432⟩ : ∃ y_ : List (S95), y_ = (x5_1 ++ [(⟨((Int.tmod x6_1 3) == 0), y429⟩ : S95)]) := ⟨_, rfl⟩
     rw [← hy432] at H
     have Ny432 := am hy432; clear hy432
     have H' := am H
     clear H
     go_wp2_with (first | ((with_reducible refine gate_callee (f := 53) rfl ?_); refine gl 67 Try.func53 #[.pointer (some ⟨g, 0, none⟩), .int .i64 11] ?_; (with_reducible refine (spec_l1Rd_pick.calls k1 g s0_0 x1001_1 11 t427 t428 w0 _ ?side1 ?side2 A53.out).mono ?_); (case side1 => repeat (with_reducible exact HI0.out)); (case side2 => repeat (with_reducible exact HB.out)); rintro e w56 ⟨rfl, hi, hb, hk⟩; refine ⟨_, rfl, ?_⟩; replace HO_5 := am (Kd.S_mono (Kd.S_keep (IsS114.apartS (show IsS114 w0 _ g s0_0 x1001_1 from by repeat (with_reducible exact HI0.out)) b7_ (by decide)) hk (fun _ h => h.2)) (fun _ h => h.1)); replace HK := am (KeepBut.trans b0_ hk (.inl rfl)); replace HB := am (hb); replace HI0 := am (hi); clear hb hk hi) | ((with_reducible refine gate_dst (N := 82) rfl ?_); refine Kd.R_lit k97 _ 97 ?hg (N := 82) ?hd (xs := ([(⟨97, wrap64 (x6_1 + 1)⟩ : S97), (⟨98, wrap64 (x6_1 + 1)⟩ : S97)] : List (S97))) (inner := [.int .i64 97, .int .i64 (wrap64 (x6_1 + 1)), .int .i64 98, .int .i64 (wrap64 (x6_1 + 1))]) (ok := fun _ => True) (okp := fun _ => True) ?hr ?hp (fun _ hk => hk) trivial (Below.refl _ _) (Nat.le_refl _) (by simp) ?_; (case hd => rfl); (case hg => rfl); (case hr => (go_simp; done)); (case hp => exact (Reps.c2 (show Kd.M k97 _ _ _ (⟨97, wrap64 (x6_1 + 1)⟩ : S97) [.int .i64 97, .int .i64 (wrap64 (x6_1 + 1))] from (k97_mkM _ _ _ (⟨97, wrap64 (x6_1 + 1)⟩ : S97) )) (Reps.c2 (show Kd.M k97 _ _ _ (⟨98, wrap64 (x6_1 + 1)⟩ : S97) [.int .i64 98, .int .i64 (wrap64 (x6_1 + 1))] from (k97_mkM _ _ _ (⟨98, wrap64 (x6_1 + 1)⟩ : S97) )) (Reps.none _ _)))); intro v430 w57 ho58 hb hg_ hnew_; clear hg_ hnew_; (rw [← Ny429.out] at ho58); replace HO_5 := am (Kd.S_elder' b7_ (Kd.R_base ho58) hb); have HO431 := am (Kd.R_lower ho58 (keep_size (w := w) (g := g) (row := none) b0_)); replace HK := am (KeepBut.trans b0_ (KeepBut.of_below hb g none) (.inl rfl)); replace HB := am (below_step b1_ hb); replace HI0 := am (IsS114.below b2_ hb); clear hb ho58; obtain ⟨Ao59, co59, eo59⟩ := Kd.R_slice HO431.out; subst eo59) | ((with_reducible refine gate_builtin (b := .append) (xs := #[.tmp 72, .tmp 84]) rfl ?_); at_builtin; refine Kd.S_append k95 w.heap.size rfl (.tmp 72) (.tmp 84) 49 95 (.agg #[(.bool false), (.slice none 0 0)]) 32 rfl Try.underlying49 info95 rfl (by decide) (by omega) u5 x5_1 (⟨((Int.tmod x6_1 3) == 0), y429⟩ : S95) [.bool ((Int.tmod x6_1 3) == 0), .slice Ao59 y429.length co59] (fun _ => True) (fun k_ => some k_ = (.slice Ao59 y429.length co59 : Value).ownBlock) rfl rfl ?aP (fun k_ hk_ => ((Kd.R_mono (ok' := fun k_ => ((fun _ => True)) k_ ∧ some k_ ≠ (u5 : Value).ownBlock) (Kd.R_apart' (HO431.out) (Kd.S_typed HO_5.out) (by decide)) (fun k_ hk => ⟨trivial, hk.2⟩))).1 k_ hk_.symm) ?aF ?aO (Below.refl _ _) ?aS ?aL ?_; (case aP => exact k95_mkM _ _ _ (⟨((Int.tmod x6_1 3) == 0), y429⟩ : S95) (Kd.R_mono (Kd.R_tight rfl (Kd.R_mono (ok' := fun k_ => ((fun _ => True)) k_ ∧ some k_ ≠ (u5 : Value).ownBlock) (Kd.R_apart' (HO431.out) (Kd.S_typed HO_5.out) (by decide)) (fun k_ hk => ⟨trivial, hk.2⟩))) (fun _ h_ => h_))); (case aF => exact (fun _ _ => trivial)); (case aO => exact (by (with_reducible repeat (fail)); exact Kd.S_mono HO_5.out (fun k_ hk => ⟨trivial, fun e_ => hk.2 e_⟩))); (case aS => exact (keep_size (w := w) (g := g) (row := none) b0_)); (case aL => have := LMc55.out; omega); intro v433 w60 ho hb hg hat; rw [← Ny432.out] at ho; replace HB := am (below_weaken b1_ HL.out hb); replace HI0 := am (IsS114.grown b2_ hg (IsS114.own_neS HI0.out HO_5.out (by decide))); replace HK := am (KeepBut.trans b0_ (KeepBut.of_grown hg g) (Kd.S_base2 HO_5.out)); have HO434 := am (ho); clear HO_5 HO431; clear ho hb hg hat))
     go_roundg k1
     case measure => have := HK1.out; omega
     case rel => exact ⟨(y432), (wrap64 (x6_1 + 1)), (t428), sq, H', ⟨b68_⟩, ⟨by (with_reducible repeat (fail)); exact HO434.out⟩, ⟨b2_⟩, ⟨b0_⟩, ⟨b1_⟩⟩
    rw [if_neg c54] at H; have c54b0 := decide_eq_false c54; clear c54
    replace H := ip H; obtain ⟨c61, H⟩ := H; have LMc61 := Aside0.mk c61; clear c61; obtain ⟨y435, hy435⟩ : ∃ y_ : List (S95), y_ = (x5_1 ++ [(⟨true, ([] : List (S97))⟩ : S95)]) := ⟨_, rfl⟩
    rw [← hy435] at H
    have Ny435 := am hy435; clear hy435; simp only [Option.some.injEq, Prod.mk.injEq] at H; obtain ⟨rfl, rfl⟩ := H
    go_wp2_with (first | ((with_reducible refine gate_callee (f := 53) rfl ?_); refine gl 67 Try.func53 #[.pointer (some ⟨g, 0, none⟩), .int .i64 11] ?_; (with_reducible refine (spec_l1Rd_pick.calls k1 g s0_0 x1001_1 11 t427 t428 w0 _ ?side1 ?side2 A53.out).mono ?_); (case side1 => repeat (with_reducible exact HI0.out)); (case side2 => repeat (with_reducible exact HB.out)); rintro e w62 ⟨rfl, hi, hb, hk⟩; refine ⟨_, rfl, ?_⟩; replace HO_5 := am (Kd.S_mono (Kd.S_keep (IsS114.apartS (show IsS114 w0 _ g s0_0 x1001_1 from by repeat (with_reducible exact HI0.out)) b7_ (by decide)) hk (fun _ h => h.2)) (fun _ h => h.1)); replace HK := am (KeepBut.trans b0_ hk (.inl rfl)); replace HB := am (hb); replace HI0 := am (hi); clear hb hk hi) | ((with_reducible refine gate_builtin (b := .append) (xs := #[.tmp 86, .tmp 88]) rfl ?_); at_builtin; refine Kd.S_append k95 w.heap.size rfl (.tmp 86) (.tmp 88) 49 95 (.agg #[(.bool false), (.slice none 0 0)]) 32 rfl Try.underlying49 info95 rfl (by decide) (by omega) u5 x5_1 (⟨true, ([] : List (S97))⟩ : S95) [.bool true, .slice none 0 0] (fun _ => True) (fun _ => False) rfl rfl ?aP (fun k_ hk_ => hk_.elim) ?aF ?aO (Below.refl _ _) ?aS ?aL ?_; (case aP => exact k95_mkM _ _ _ (⟨true, ([] : List (S97))⟩ : S95) (Kd.R_nil _ _ _ _ _)); (case aF => exact (fun _ _ => trivial)); (case aO => exact (by (with_reducible repeat (fail)); exact Kd.S_mono HO_5.out (fun k_ hk => ⟨trivial, fun e_ => e_⟩))); (case aS => exact (keep_size (w := w) (g := g) (row := none) b0_)); (case aL => have := LMc61.out; omega); intro v436 w63 ho hb hg hat; rw [← Ny435.out] at ho; replace HB := am (below_weaken b1_ HL.out hb); replace HI0 := am (IsS114.grown b2_ hg (IsS114.own_neS HI0.out HO_5.out (by decide))); replace HK := am (KeepBut.trans b0_ (KeepBut.of_grown hg g) (Kd.S_base2 HO_5.out)); have HO437 := am (ho); clear HO_5; clear ho hb hg hat))
    go_ret
    exact ⟨_, eq_, by (with_reducible repeat (fail)); exact HO437.out, b2_, b1_, b0_⟩
 rw [if_neg c46] at H
 have c46b0 : (t406 == 3) = false := beq_eq_false_iff_ne.mpr c46
 have c46b1 : (t406 != 3) = true := bne_iff_ne.mpr c46
 simp only [Option.some.injEq, Prod.mk.injEq] at H
 obtain ⟨rfl, rfl⟩ := H; go_enter Try.func63, Try.ntmps63
 go_wp2_with (first | ((with_reducible refine gate_callee (f := 102) rfl ?_); refine gl 8 Try.func102 #[.pointer (some ⟨g, 0, none⟩)] ?_; (with_reducible refine (spec_l13Machine.calls k g s0_0 s0_1 t400 t403 w0 _ ?side1 ?side2 A2.out).mono ?_); (case side1 => repeat (with_reducible exact HI0.out)); (case side2 => repeat (with_reducible exact HB.out)); rintro e w64 ⟨v401, rfl, ho0, hi, hb, hk⟩; refine ⟨_, rfl, ?_⟩; have HO402 := am (Kd.S_lower ho0 (keep_size (w := w) (g := g) (row := none) b0_)); replace HK := am (KeepBut.trans b0_ hk (.inl rfl)); replace HB := am (hb); replace HI0 := am (hi); clear hb hk hi; clear ho0; obtain ⟨Ao65, co65, eo65⟩ := Kd.S_slice HO402.out; subst eo65) | ((with_reducible refine gate_callee (f := 53) rfl ?_); refine gl 16 Try.func53 #[.pointer (some ⟨g, 0, none⟩), .int .i64 (t400.length : Int)] ?_; (with_reducible refine (spec_l1Rd_pick.calls k g s0_0 t403 (t400.length : Int) t404 t405 w0 _ ?side1 ?side2 A6.out).mono ?_); (case side1 => repeat (with_reducible exact HI0.out)); (case side2 => repeat (with_reducible exact HB.out)); rintro e w66 ⟨rfl, hi, hb, hk⟩; refine ⟨_, rfl, ?_⟩; replace HO402 := am (Kd.S_mono (Kd.S_keep (IsS114.apartS (show IsS114 w0 _ g s0_0 t403 from by repeat (with_reducible exact HI0.out)) b15_ (by decide)) hk (fun _ h => h.2)) (fun _ h => h.1)); replace HK := am (KeepBut.trans b0_ hk (.inl rfl)); replace HB := am (hb); replace HI0 := am (hi); clear hb hk hi) | ((with_reducible refine gate_callee (f := 53) rfl ?_); refine gl 18 Try.func53 #[.pointer (some ⟨g, 0, none⟩), .int .i64 10] ?_; (with_reducible refine (spec_l1Rd_pick.calls k g s0_0 t405 10 t406 t407 w0 _ ?side1 ?side2 A7.out).mono ?_); (case side1 => repeat (with_reducible exact HI0.out)); (case side2 => repeat (with_reducible exact HB.out)); rintro e w67 ⟨rfl, hi, hb, hk⟩; refine ⟨_, rfl, ?_⟩; replace HO402 := am (Kd.S_mono (Kd.S_keep (IsS114.apartS (show IsS114 w0 _ g s0_0 t405 from by repeat (with_reducible exact HI0.out)) b15_ (by decide)) hk (fun _ h => h.2)) (fun _ h => h.1)); replace HK := am (KeepBut.trans b0_ hk (.inl rfl)); replace HB := am (hb); replace HI0 := am (hi); clear hb hk hi))
 go_ret
 exact ⟨_, eq_, b15_, b2_, b1_, b0_⟩

/-! ### spec_l13AnyWord: function 64 -/
def spec_l13AnyWord.f (k : Nat) (s0_0 : List Int) (s0_1 : Int) : Option (ByteArray × Int) := (spec_l1Rd_pick.f k s0_0 s0_1 16).bind fun bt438 => (if bt438.1 = 0 then ((spec_l1Rd_of.f k s0_0 bt438.2 (([(⟨#[]⟩ : ByteArray), (⟨#[67, 97, 116]⟩ : ByteArray), (⟨#[97, 32, 98]⟩ : ByteArray), (⟨#[97, 98, 99, 97, 98, 99, 97, 98, 99, 97, 98, 99, 97]⟩ : ByteArray), (⟨#[120, 49]⟩ : ByteArray), (⟨#[45]⟩ : ByteArray)] : List ByteArray))).bind fun bt443 => (some (bt443.1, bt443.2))) else ((spec_l13Word.f k s0_0 bt438.2).bind fun bt445 => (some (bt445.1, bt445.2))))
theorem spec_l13AnyWord.calls (k : Nat) (g : Nat) (s0_0 : List Int) (s0_1 : Int) (r1 : ByteArray) (r2 : Int) (w0 w : World) (hI : IsS114 w0 w g s0_0 s0_1) (hB : Below w0.heap.size w0 w) (h : spec_l13AnyWord.f k s0_0 s0_1 = some (r1, r2)) :
  Calls Try.prog 64 #[.pointer (some ⟨g, 0, none⟩)] w fun e w' => e = .returned (.string r1) ∧ IsS114 w0 w' g s0_0 r2 ∧ Below w0.heap.size w0 w' ∧ KeepBut w w' g none := by
 have HI0 := am hI; have HK := am (KeepBut.refl w g none); have HL := am hB.size; clear hI; have HW0 := am hB.size; have HB := am hB; clear hB
 have H := h; unfold spec_l13AnyWord.f at H
 clear h; replace H := bs H; obtain ⟨⟨t438, t439⟩, A20, H⟩ := H; dsimp only at H; have A2 := Aside0.mk A20; clear A20
 by_cases c3 : t438 = 0
 ·rw [if_pos c3] at H
  have c3b0 : (t438 == 0) = true := beq_iff_eq.mpr c3
  have c3b1 : (t438 != 0) = false := bne_eq_false_iff_eq.mpr c3
  clear c3; obtain ⟨y440, hy440⟩ : ∃ y_ : List ByteArray, y_ = (([(⟨#[]⟩ : ByteArray), (⟨#[67, 97, 116]⟩ : ByteArray), (⟨#[97, 32, 98]⟩ : ByteArray), (⟨#[97, 98, 99, 97, 98, 99, 97, 98, 99, 97, 98, 99, 97]⟩ : ByteArray), (⟨#[120, 49]⟩ : ByteArray), (⟨#[45]⟩ : ByteArray)] : List ByteArray)) := ⟨_, rfl⟩
  rw [← hy440] at H
  have Ny440 := am hy440; clear hy440; replace H := bs H; obtain ⟨⟨t443, t444⟩, A40, H⟩ := H; dsimp only at H; have A4 := Aside0.mk A40; clear A40; simp only [Option.some.injEq, Prod.mk.injEq] at H
  obtain ⟨rfl, rfl⟩ := H; go_enter Try.func64, Try.ntmps64
  go_wp2_with (first | ((with_reducible refine gate_callee (f := 53) rfl ?_); refine gl 4 Try.func53 #[.pointer (some ⟨g, 0, none⟩), .int .i64 16] ?_; (with_reducible refine (spec_l1Rd_pick.calls k g s0_0 s0_1 16 t438 t439 w0 _ ?side1 ?side2 A2.out).mono ?_); (case side1 => repeat (with_reducible exact HI0.out)); (case side2 => repeat (with_reducible exact HB.out)); rintro e w5 ⟨rfl, hi, hb, hk⟩; refine ⟨_, rfl, ?_⟩; replace HK := am (KeepBut.trans b0_ hk (.inl rfl)); replace HB := am (hb); replace HI0 := am (hi); clear hb hk hi) | ((with_reducible refine gate_dst (N := 7) rfl ?_); refine Kd.R_lit Kd.string _ 9 ?hg (N := 7) ?hd (xs := ([(⟨#[]⟩ : ByteArray), (⟨#[67, 97, 116]⟩ : ByteArray), (⟨#[97, 32, 98]⟩ : ByteArray), (⟨#[97, 98, 99, 97, 98, 99, 97, 98, 99, 97, 98, 99, 97]⟩ : ByteArray), (⟨#[120, 49]⟩ : ByteArray), (⟨#[45]⟩ : ByteArray)] : List ByteArray)) (inner := [.string (⟨#[]⟩ : ByteArray), .string (⟨#[67, 97, 116]⟩ : ByteArray), .string (⟨#[97, 32, 98]⟩ : ByteArray), .string (⟨#[97, 98, 99, 97, 98, 99, 97, 98, 99, 97, 98, 99, 97]⟩ : ByteArray), .string (⟨#[120, 49]⟩ : ByteArray), .string (⟨#[45]⟩ : ByteArray)]) (ok := fun _ => True) (okp := fun _ => True) ?hr ?hp (fun _ hk => hk) trivial (Below.refl _ _) (Nat.le_refl _) (by simp) ?_; (case hd => rfl); (case hg => rfl); (case hr => (go_simp; done)); (case hp => exact (Reps.one (show Kd.M Kd.string _ _ _ (⟨#[]⟩ : ByteArray) [.string (⟨#[]⟩ : ByteArray)] from rfl) (Reps.one (show Kd.M Kd.string _ _ _ (⟨#[67, 97, 116]⟩ : ByteArray) [.string (⟨#[67, 97, 116]⟩ : ByteArray)] from rfl) (Reps.one (show Kd.M Kd.string _ _ _ (⟨#[97, 32, 98]⟩ : ByteArray) [.string (⟨#[97, 32, 98]⟩ : ByteArray)] from rfl) (Reps.one (show Kd.M Kd.string _ _ _ (⟨#[97, 98, 99, 97, 98, 99, 97, 98, 99, 97, 98, 99, 97]⟩ : ByteArray) [.string (⟨#[97, 98, 99, 97, 98, 99, 97, 98, 99, 97, 98, 99, 97]⟩ : ByteArray)] from rfl) (Reps.one (show Kd.M Kd.string _ _ _ (⟨#[120, 49]⟩ : ByteArray) [.string (⟨#[120, 49]⟩ : ByteArray)] from rfl) (Reps.one (show Kd.M Kd.string _ _ _ (⟨#[45]⟩ : ByteArray) [.string (⟨#[45]⟩ : ByteArray)] from rfl) (Reps.none _ _)))))))); intro v441 w6 ho7 hb hg_ hnew_; clear hg_ hnew_; (rw [← Ny440.out] at ho7); have HO442 := am (Kd.R_lower ho7 (keep_size (w := w) (g := g) (row := none) b0_)); replace HK := am (KeepBut.trans b0_ (KeepBut.of_below hb g none) (.inl rfl)); replace HB := am (below_step b1_ hb); replace HI0 := am (IsS114.below b2_ hb); clear hb ho7; obtain ⟨Ao8, co8, eo8⟩ := Kd.R_slice HO442.out; subst eo8) | ((with_reducible refine gate_callee (f := 92) rfl ?_); refine gl 8 Try.func92 #[.pointer (some ⟨g, 0, none⟩), .slice Ao8 y440.length co8] ?_; (with_reducible refine (spec_l1Rd_of.calls k g s0_0 t439 _ _ y440 t443 t444 w0 _ ?side1 ?side2 ?side3 ?side4 ?side5 A4.out).mono ?_); (case side1 => repeat (with_reducible exact HI0.out)); (case side2 => repeat (with_reducible exact HB.out)); (case side3 => exact cq (Kd.R_reads' HO442.out).2.2); (case side4 => exact (Kd.R_reads' HO442.out).2.1); (case side5 => exact far_slice (IsS114.own_ne HI0.out HO442.out (by decide))); rintro e w9 ⟨rfl, hi, hb, hk⟩; refine ⟨_, rfl, ?_⟩; replace HO442 := am (Kd.R_mono (Kd.R_keep (IsS114.apart (show IsS114 w0 _ g s0_0 t439 from by repeat (with_reducible exact HI0.out)) (rq HO442.out) (by decide)) hk (fun _ h => h.2)) (fun _ h => h.1)); replace HK := am (KeepBut.trans b0_ hk (.inl rfl)); replace HB := am (hb); replace HI0 := am (hi); clear hb hk hi))
  go_ret
  exact ⟨eq_, b2_, b1_, b0_⟩
 rw [if_neg c3] at H
 have c3b0 : (t438 == 0) = false := beq_eq_false_iff_ne.mpr c3
 have c3b1 : (t438 != 0) = true := bne_iff_ne.mpr c3
 replace H := bs H; obtain ⟨⟨t445, t446⟩, A100, H⟩ := H; dsimp only at H; have A10 := Aside0.mk A100; clear A100
 simp only [Option.some.injEq, Prod.mk.injEq] at H
 obtain ⟨rfl, rfl⟩ := H; go_enter Try.func64, Try.ntmps64
 go_wp2_with (first | ((with_reducible refine gate_callee (f := 53) rfl ?_); refine gl 4 Try.func53 #[.pointer (some ⟨g, 0, none⟩), .int .i64 16] ?_; (with_reducible refine (spec_l1Rd_pick.calls k g s0_0 s0_1 16 t438 t439 w0 _ ?side1 ?side2 A2.out).mono ?_); (case side1 => repeat (with_reducible exact HI0.out)); (case side2 => repeat (with_reducible exact HB.out)); rintro e w11 ⟨rfl, hi, hb, hk⟩; refine ⟨_, rfl, ?_⟩; replace HK := am (KeepBut.trans b0_ hk (.inl rfl)); replace HB := am (hb); replace HI0 := am (hi); clear hb hk hi) | ((with_reducible refine gate_callee (f := 103) rfl ?_); refine gl 10 Try.func103 #[.pointer (some ⟨g, 0, none⟩)] ?_; (with_reducible refine (spec_l13Word.calls k g s0_0 t439 t445 t446 w0 _ ?side1 ?side2 A10.out).mono ?_); (case side1 => repeat (with_reducible exact HI0.out)); (case side2 => repeat (with_reducible exact HB.out)); rintro e w12 ⟨rfl, hi, hb, hk⟩; refine ⟨_, rfl, ?_⟩; replace HK := am (KeepBut.trans b0_ hk (.inl rfl)); replace HB := am (hb); replace HI0 := am (hi); clear hb hk hi))
 go_ret
 exact ⟨eq_, b2_, b1_, b0_⟩

/-! ### spec_l1In: function 74 -/
def spec_l1In.f (a0 : Int) (a1 : Int) (a2 : Int) : Option (Bool) := if a0 ≥ a1 then (some (decide (a0 ≤ a2))) else (some false)
theorem spec_l1In.calls (a0 : Int) (a1 : Int) (a2 : Int) (r : Bool) (w : World) (h : spec_l1In.f a0 a1 a2 = some r) :
  Calls Try.prog 74 #[.int .i64 a0, .int .i64 a1, .int .i64 a2] w fun e w' => e = .returned (.bool r) ∧ Drawn0 w w' := by
 have H := h; unfold spec_l1In.f at H
 clear h
 by_cases c4 : a0 ≥ a1
 ·rw [if_pos c4] at H; have c4b0 := decide_eq_true c4; clear c4; obtain rfl := Option.some.inj H; go_enter Try.func74, Try.ntmps74; go_wp2; go_ret
  exact ⟨sq, dr⟩
 rw [if_neg c4] at H; have c4b0 := decide_eq_false c4; clear c4; obtain rfl := Option.some.inj H; go_enter Try.func74, Try.ntmps74; go_wp2; go_ret
 exact ⟨sq, dr⟩
-- shrunk

/-! ### spec_l3Deep: function 75 -/
mutual
def spec_l3Deep.l0 : Nat → List (S95) → List Int → Int → Option (Int)
 | 0, _, _, _ => none
 | k + 1, x0, x3, x4 => if x4 ≥ 0 then (spec_l3Deep.l1 k x0 x3 x4 0) else (if 0 < (x3.length : Int) then (some (rd x3 0)) else (none))
def spec_l3Deep.l1 : Nat → List (S95) → List Int → Int → Int → Option (Int)
 | 0, _, _, _, _ => none
 | k + 1, x0, x3, x4, x5 => if 0 ≤ x4 then (if x4 < (x0.length : Int) then (if x5 < (((rd_T95 x0 x4).f1).length : Int) then (if 0 ≤ x5 then (if 0 ≤ ((rd_T97 ((rd_T95 x0 x4).f1) x5).f1) then (if ((rd_T97 ((rd_T95 x0 x4).f1) x5).f1) < (x3.length : Int) then (if x4 < (x3.length : Int) then (if (wrap64 ((rd x3 ((rd_T97 ((rd_T95 x0 x4).f1) x5).f1)) + 1)) > (rd x3 x4) then (spec_l3Deep.l1 k x0 (x3.set (x4 : Int).toNat (wrap64 ((rd x3 ((rd_T97 ((rd_T95 x0 x4).f1) x5).f1)) + 1))) x4 (wrap64 (x5 + 1))) else (spec_l3Deep.l1 k x0 x3 x4 (wrap64 (x5 + 1)))) else (none)) else (none)) else (none)) else (none)) else (spec_l3Deep.l0 k x0 x3 (wrap64 (x4 - 1)))) else (none)) else (none)
end
def spec_l3Deep.f (k : Nat) (l0 : List (S95)) : Option (Int) := if 0 ≤ (l0.length : Int) then (if l0.length ≤ 35184372088832 then (spec_l3Deep.l0 k l0 (List.replicate l0.length 0) (wrap64 ((l0.length : Int) - 1))) else (none)) else (none)
theorem spec_l3Deep.calls (k : Nat) (A0 : Option Addr) (c0 : Nat) (l0 : List (S95)) (r : Int) (w : World) (hr0 : Kd.C k95 w A0 l0.length l0) (hc0 : l0.length ≤ c0) (h : spec_l3Deep.f k l0 = some r) :
  Calls Try.prog 75 #[.slice A0 l0.length c0] w fun e w' => e = .returned (.int .i64 r) ∧ Below w.heap.size w w' := by
 have HR0 := am hr0; have HC0 := am hc0; clear hr0 hc0; have HB := am (Below.refl w.heap.size w)
 have H := h; unfold spec_l3Deep.f at H
 clear h
 replace H := ip H; obtain ⟨c2, H⟩ := H; have c2b0 := eq_true c2
 have c2b1 : decide (0 ≤ (l0.length : Int)) = true := decide_eq_true c2
 clear c2
 replace H := ip H; obtain ⟨c3, H⟩ := H; have c3b0 := eq_true c3
 have c3b1 : decide (l0.length ≤ 35184372088832) = true := decide_eq_true c3
 clear c3; obtain ⟨y447, hy447⟩ : ∃ y_ : List Int, y_ = (List.replicate l0.length 0) := ⟨_, rfl⟩
 rw [← hy447] at H
 have Ny447 := am hy447; clear hy447
 have H' := am H
 clear H; go_enter Try.func75, Try.ntmps75
 go_wp2_with ((with_reducible refine gate_dst (N := 9) rfl ?_); refine Kd.R_make (Kd.int .i64) _ 3 rfl (N := 9) rfl 99 _ _ rfl (l0.length : Int) rfl rfl Try.underlying99 (.int .i64 0) 8 info3 rfl (by decide) (by omega) 0 (ok := fun _ => True) (okp := fun _ => True) rfl (fun _ hk => hk) trivial (of_decide_eq_true ad) (Nat.le_trans (Nat.mul_le_mul_right _ (of_decide_eq_true ad : (l0.length : Int).toNat ≤ 35184372088832)) (by omega)) (Below.refl _ _) (Nat.le_refl _) ?_; intro v448 w4 ho5 hb hg_ hnew_; clear hg_ hnew_; (simp only [Int.toNat_natCast] at ho5; rw [← Ny447.out] at ho5); have HO449 := am (Kd.R_lower ho5 (below_size bel)); replace HB := am (below_step bel hb); clear hb ho5)
 go_loopg [4] k (fun kq v4 w' => ∃ (x3_1 : List Int) (x4_1 : Int), v4 = .int .i64 x4_1 ∧ Aside0 (spec_l3Deep.l0 kq l0 x3_1 x4_1 = some r) ∧ Aside0 (kq ≤ k) ∧ Aside0 (Kd.R (Kd.int .i64) 3 w' w.heap.size (fun _ => True) v448 x3_1) ∧ Aside0 (Below w.heap.size w w'))
 case atStart => exact ⟨(y447), (wrap64 ((l0.length : Int) - 1)), sq, H', ⟨Nat.le_refl _⟩, ⟨rq HO449.out⟩, ⟨bel⟩⟩
 case round =>
  clear H'; clear c2b0 c2b1 c3b0 c3b1; obtain ⟨x3_1, x4_1, rfl, HA, HK1, HO_3, HB⟩ := hrel
  cases gk with
  | zero => exact absurd HA.out (by simp [spec_l3Deep.l0])
  | succ k1 =>
   have H := HA.out; clear HA; simp only [spec_l3Deep.l0] at H
   by_cases c6 : x4_1 ≥ 0
   ·rw [if_pos c6] at H; have c6b0 := decide_eq_true c6; clear c6
    have H' := am H
    clear H; go_wp2
    go_loopg [5] k1 (fun kq v5 w' => ∃ (x3_2 : List Int) (x5_2 : Int), v5 = .int .i64 x5_2 ∧ Aside0 (spec_l3Deep.l1 kq l0 x3_2 x4_1 x5_2 = some r) ∧ Aside0 (kq ≤ k1) ∧ Aside0 (Kd.R (Kd.int .i64) 3 w' w.heap.size (fun _ => True) v448 x3_2) ∧ Aside0 (Below w.heap.size w w'))
    case atStart => exact ⟨(x3_1), (0), sq, H', ⟨Nat.le_refl _⟩, ⟨rq HO_3.out⟩, ⟨bel⟩⟩
    case round =>
     clear H'; clear c6b0; obtain ⟨x3_2, x5_2, rfl, HA, HK2, HO_3, HB⟩ := hrel
     cases gk with
     | zero => exact absurd HA.out (by simp [spec_l3Deep.l1])
     | succ k2 =>
      have H := HA.out; clear HA; simp only [spec_l3Deep.l1] at H; replace H := it H; obtain ⟨c7b0, H⟩ := H; replace H := it H; obtain ⟨c8b0, H⟩ := H
      by_cases c9 : x5_2 < (((rd_T95 l0 x4_1).f1).length : Int)
      ·rw [if_pos c9] at H; have c9b0 := decide_eq_true c9; clear c9
       replace H := it H; obtain ⟨c10b0, H⟩ := H; replace H := it H; obtain ⟨c11b0, H⟩ := H; replace H := it H; obtain ⟨c12b0, H⟩ := H; replace H := it H; obtain ⟨c13b0, H⟩ := H
       by_cases c14 : (wrap64 ((rd x3_2 ((rd_T97 ((rd_T95 l0 x4_1).f1) x5_2).f1)) + 1)) > (rd x3_2 x4_1)
       ·rw [if_pos c14] at H; have c14b0 := decide_eq_true c14; clear c14; obtain ⟨y456, hy456⟩ : ∃ y_ : List Int, y_ = (x3_2.set (x4_1 : Int).toNat (wrap64 ((rd x3_2 ((rd_T97 ((rd_T95 l0 x4_1).f1) x5_2).f1)) + 1))) := ⟨_, rfl⟩
        rw [← hy456] at H
        have Ny456 := am hy456; clear hy456
        have H' := am H
        clear H
        have p451 : 0 ≤ (x4_1 : Int) := of_decide_eq_true ad
        have q451 : x4_1 < (l0.length : Int) := of_decide_eq_true ad
        obtain ⟨ad451, A451_1, c451_1, e451, hx451_0, hx451_1, hl451_1, hi451_1⟩ := at_T95 HR0.out x4_1 p451 q451; cases e451; replace hx451_0 := kp HB.out hx451_0; replace hx451_1 := kp HB.out hx451_1; have HR451_1 := am hi451_1; have HC451_1 := am hl451_1; clear hi451_1 hl451_1; replace p451 := eq_true p451; replace q451 := eq_true q451
        have p452 : 0 ≤ (x4_1 : Int) := of_decide_eq_true ad
        have q452 : x4_1 < (l0.length : Int) := of_decide_eq_true ad
        obtain ⟨ad452, A452_1, c452_1, e452, hx452_0, hx452_1, hl452_1, hi452_1⟩ := at_T95 HR0.out x4_1 p452 q452
        obtain rfl : ad451 = ad452 := (by injection e452)
        replace hx452_0 := kp HB.out hx452_0; replace hx452_1 := kp HB.out hx452_1; have HR452_1 := am hi452_1; have HC452_1 := am hl452_1; clear hi452_1 hl452_1; replace p452 := eq_true p452; replace q452 := eq_true q452; have ea_ := Option.some.inj (hx451_1.symm.trans hx452_1)
        injection ea_ with ea_ en_ ec_
        subst ea_; subst ec_; clear en_
        have p453 : 0 ≤ (x5_2 : Int) := of_decide_eq_true ad
        have q453 : x5_2 < (((rd_T95 l0 x4_1).f1).length : Int) := of_decide_eq_true ad
        obtain ⟨ad453, e453, hx453_0, hx453_1⟩ := at_T97 HR452_1.out x5_2 p453 q453; cases e453; replace hx453_0 := kp HB.out hx453_0; replace hx453_1 := kp HB.out hx453_1; replace p453 := eq_true p453; replace q453 := eq_true q453; obtain ⟨Ao16, co16, eo16⟩ := Kd.R_slice HO_3.out; subst eo16
        have p454 : 0 ≤ (((rd_T97 ((rd_T95 l0 x4_1).f1) x5_2).f1) : Int) := of_decide_eq_true ad
        have q454 : ((rd_T97 ((rd_T95 l0 x4_1).f1) x5_2).f1) < (x3_2.length : Int) := of_decide_eq_true ad
        obtain ⟨ad454, e454, hx454_0⟩ := Kd.at_int (Kd.R_reads' HO_3.out).2.2 ((rd_T97 ((rd_T95 l0 x4_1).f1) x5_2).f1) p454 q454; cases e454; replace p454 := eq_true p454; replace q454 := eq_true q454
        have p455 : 0 ≤ (x4_1 : Int) := of_decide_eq_true ad
        have q455 : x4_1 < (x3_2.length : Int) := of_decide_eq_true ad
        obtain ⟨ad455, e455, hx455_0⟩ := Kd.at_int (Kd.R_reads' HO_3.out).2.2 x4_1 p455 q455
        obtain rfl : ad454 = ad455 := (by injection e455)
        replace p455 := eq_true p455; replace q455 := eq_true q455
        have p15 : 0 ≤ (x4_1 : Int) := of_decide_eq_true ad
        have q15 : (x4_1 : Int) < ((x3_2.length : Int) : Int) := of_decide_eq_true ad
        obtain ⟨go15, co15, eo15, gb15, gl15, cl15, HG15⟩ := Kd.R_form HO_3.out (by omega)
        (cases eo15)
        have GB15 := Aside0.mk gb15; have GG15 := am HG15; clear gb15 gl15 HG15
        (simp only [add_plain] at hx454_0)
        (simp only [add_plain] at hx455_0)
        obtain ⟨hx15_0, hf15_0⟩ := Kd.R_celln 0 HO_3.out (x4_1 : Int) p15 q15; replace p15 := eq_true p15; replace q15 := eq_true q15; have HP17 := Kd.R_putg HO_3.out (x4_1 : Int) (wrap64 ((rd x3_2 ((rd_T97 ((rd_T95 l0 x4_1).f1) x5_2).f1)) + 1))
        go_wp2_with ((with_reducible refine gate_store (t := 3) (p := 49) rfl ?_); refine store_event (t := 3) (p := 49) (v := ?vo_w18) (w1 := (wr.setCell ⟨go15, (x4_1 : Int).toNat, none⟩ (.int .i64 (wrap64 ((rd x3_2 ((rd_T97 ((rd_T95 l0 x4_1).f1) x5_2).f1)) + 1))))) ?hg ?ho ?hn ?hr ?_; (case ho => rfl); (case hg => rfl); (case hn => rfl); (case hr => (go_simp; done)); intro w18 hw; have hg : wr.grownBy w18 (some go15) := (by rw [hw]; exact HP17.2); have hp_ : Kd.R (Kd.int .i64) 3 w18 w.heap.size (fun _ => True) (.slice (some ⟨go15, 0, none⟩) x3_2.length co16) y456 := (by rw [hw, Ny456.out]; exact HP17.1); clear HP17; replace HO_3 := am (hp_); replace HB := am ((by rw [hw]; exact below_set (HB.out) GB15.out : Below w.heap.size w w18)); clear hg hw hp_)
        go_roundg k2
        case measure => have := HK1.out; have := HK2.out; omega
        case rel => exact ⟨(y456), (wrap64 (x5_2 + 1)), sq, H', ⟨b30_⟩, ⟨rq HO_3.out⟩, ⟨bel⟩⟩
       rw [if_neg c14] at H; have c14b0 := decide_eq_false c14; clear c14
       have H' := am H
       clear H
       have p451 : 0 ≤ (x4_1 : Int) := of_decide_eq_true ad
       have q451 : x4_1 < (l0.length : Int) := of_decide_eq_true ad
       obtain ⟨ad451, A451_1, c451_1, e451, hx451_0, hx451_1, hl451_1, hi451_1⟩ := at_T95 HR0.out x4_1 p451 q451; cases e451; replace hx451_0 := kp HB.out hx451_0; replace hx451_1 := kp HB.out hx451_1; have HR451_1 := am hi451_1; have HC451_1 := am hl451_1; clear hi451_1 hl451_1; replace p451 := eq_true p451; replace q451 := eq_true q451
       have p452 : 0 ≤ (x4_1 : Int) := of_decide_eq_true ad
       have q452 : x4_1 < (l0.length : Int) := of_decide_eq_true ad
       obtain ⟨ad452, A452_1, c452_1, e452, hx452_0, hx452_1, hl452_1, hi452_1⟩ := at_T95 HR0.out x4_1 p452 q452
       obtain rfl : ad451 = ad452 := (by injection e452)
       replace hx452_0 := kp HB.out hx452_0; replace hx452_1 := kp HB.out hx452_1; have HR452_1 := am hi452_1; have HC452_1 := am hl452_1; clear hi452_1 hl452_1; replace p452 := eq_true p452; replace q452 := eq_true q452; have ea_ := Option.some.inj (hx451_1.symm.trans hx452_1)
       injection ea_ with ea_ en_ ec_
       subst ea_; subst ec_; clear en_
       have p453 : 0 ≤ (x5_2 : Int) := of_decide_eq_true ad
       have q453 : x5_2 < (((rd_T95 l0 x4_1).f1).length : Int) := of_decide_eq_true ad
       obtain ⟨ad453, e453, hx453_0, hx453_1⟩ := at_T97 HR452_1.out x5_2 p453 q453; cases e453; replace hx453_0 := kp HB.out hx453_0; replace hx453_1 := kp HB.out hx453_1; replace p453 := eq_true p453; replace q453 := eq_true q453; obtain ⟨Ao19, co19, eo19⟩ := Kd.R_slice HO_3.out; subst eo19
       have p454 : 0 ≤ (((rd_T97 ((rd_T95 l0 x4_1).f1) x5_2).f1) : Int) := of_decide_eq_true ad
       have q454 : ((rd_T97 ((rd_T95 l0 x4_1).f1) x5_2).f1) < (x3_2.length : Int) := of_decide_eq_true ad
       obtain ⟨ad454, e454, hx454_0⟩ := Kd.at_int (Kd.R_reads' HO_3.out).2.2 ((rd_T97 ((rd_T95 l0 x4_1).f1) x5_2).f1) p454 q454; cases e454; replace p454 := eq_true p454; replace q454 := eq_true q454
       have p455 : 0 ≤ (x4_1 : Int) := of_decide_eq_true ad
       have q455 : x4_1 < (x3_2.length : Int) := of_decide_eq_true ad
       obtain ⟨ad455, e455, hx455_0⟩ := Kd.at_int (Kd.R_reads' HO_3.out).2.2 x4_1 p455 q455
       obtain rfl : ad454 = ad455 := (by injection e455)
       replace p455 := eq_true p455; replace q455 := eq_true q455; go_wp2
       go_roundg k2
       case measure => have := HK1.out; have := HK2.out; omega
       case rel => exact ⟨(x3_2), (wrap64 (x5_2 + 1)), sq, H', ⟨b30_⟩, ⟨rq HO_3.out⟩, ⟨bel⟩⟩
      rw [if_neg c9] at H; have c9b0 := decide_eq_false c9; clear c9
      have H' := am H
      clear H
      have p451 : 0 ≤ (x4_1 : Int) := of_decide_eq_true ad
      have q451 : x4_1 < (l0.length : Int) := of_decide_eq_true ad
      obtain ⟨ad451, A451_1, c451_1, e451, hx451_0, hx451_1, hl451_1, hi451_1⟩ := at_T95 HR0.out x4_1 p451 q451; cases e451
      replace hx451_0 := kp HB.out hx451_0; replace hx451_1 := kp HB.out hx451_1; have HR451_1 := am hi451_1; have HC451_1 := am hl451_1; clear hi451_1 hl451_1; replace p451 := eq_true p451; replace q451 := eq_true q451; go_wp2
      go_roundg k2
      case measure => have := HK1.out; have := HK2.out; omega
      case rel => exact ⟨(x3_2), (wrap64 (x4_1 - 1)), sq, H', ⟨b30_⟩, ⟨rq HO_3.out⟩, ⟨bel⟩⟩
   rw [if_neg c6] at H; have c6b0 := decide_eq_false c6; clear c6; replace H := ip H; obtain ⟨c20, H⟩ := H; have c20b0 := decide_eq_true c20
   have c20b1 : decide (0 < x3_1.length) = true := decide_eq_true (by omega)
   clear c20; obtain rfl := Option.some.inj H; obtain ⟨Ao21, co21, eo21⟩ := Kd.R_slice HO_3.out; subst eo21
   have p450 : 0 ≤ (0 : Int) := (by omega)
   have q450 : 0 < (x3_1.length : Int) := of_decide_eq_true ad
   obtain ⟨ad450, e450, hx450_0⟩ := Kd.at_int (Kd.R_reads' HO_3.out).2.2 0 p450 q450; cases e450
   have qi450 : (0 < x3_1.length) = True := eq_true (by omega)
   rw [show ((0 : Int)).toNat = 0 from rfl] at hx450_0
   rw [Addr.add_zero'] at hx450_0
   replace p450 := eq_true p450; replace q450 := eq_true q450; go_wp2; go_ret
   exact ⟨eq_, bel⟩
-- shrunk

/-! ### spec_MachineOk: function 25 -/
mutual
def spec_MachineOk.l0 : Nat → List (S95) → Int → Option (Bool)
 | 0, _, _ => none
 | k + 1, x0, x3 => if x3 < (x0.length : Int) then (spec_MachineOk.l1 k x0 x3 0) else ((spec_l1In.f (x0.length : Int) 1 400).bind fun t457 => (if t457 = true then ((spec_l3Deep.f k x0).bind fun t458 => (some (decide (t458 ≤ 12)))) else (some false)))
def spec_MachineOk.l1 : Nat → List (S95) → Int → Int → Option (Bool)
 | 0, _, _, _ => none
 | k + 1, x0, x3, x4 => if 0 ≤ x3 then (if x3 < (x0.length : Int) then (if x4 < (((rd_T95 x0 x3).f1).length : Int) then (if 0 ≤ x4 then ((spec_l1In.f ((rd_T97 ((rd_T95 x0 x3).f1) x4).f0) 97 122).bind fun t465 => (if t465 = true then ((spec_l1In.f ((rd_T97 ((rd_T95 x0 x3).f1) x4).f1) (wrap64 (x3 + 1)) (wrap64 ((x0.length : Int) - 1))).bind fun t466 => (if t466 = true then (if x4 > 0 then (if 0 ≤ (wrap64 (x4 - 1)) then (if (wrap64 (x4 - 1)) < (((rd_T95 x0 x3).f1).length : Int) then (if ((rd_T97 ((rd_T95 x0 x3).f1) (wrap64 (x4 - 1))).f0) ≥ ((rd_T97 ((rd_T95 x0 x3).f1) x4).f0) then (some false) else (spec_MachineOk.l1 k x0 x3 (wrap64 (x4 + 1)))) else (none)) else (none)) else (spec_MachineOk.l1 k x0 x3 (wrap64 (x4 + 1)))) else (some false))) else (some false))) else (none)) else (if x3 > 0 then (if ((rd_T95 x0 x3).f0 = true) then (spec_MachineOk.l0 k x0 (wrap64 (x3 + 1))) else (if (((rd_T95 x0 x3).f1).length : Int) = 0 then (some false) else (spec_MachineOk.l0 k x0 (wrap64 (x3 + 1))))) else (spec_MachineOk.l0 k x0 (wrap64 (x3 + 1))))) else (none)) else (none)
end
def spec_MachineOk.f (k : Nat) (l0 : List (S95)) : Option (Bool) := spec_MachineOk.l0 k l0 0
def spec_MachineOk.T8 : Bool × List (List Nat × List Nat) := (true, [([], []), ([0], [0]), ([1], [1]), ([2], [2]), ([3, 2], [3]), ([4], [4]), ([5, 4], [4, 5]), ([4], [4]), ([7, 4], [4, 7]), ([4], [4]), ([9, 4], [4, 9]), ([10, 4], [4, 10]), ([6, 8, 11, 4, 4], [4, 6, 8, 11]), ([12, 4], [4, 12]), ([4, 13], [4, 13]), ([14, 12], [14]), ([15], [15]), ([16, 15], [15, 16]), ([17, 15, 15], [15, 17]), ([18], [18]), ([18], [18]), ([19, 20, 18], [18, 19, 20]), ([21, 18], [18, 21]), ([22, 18], [18, 22]), ([18], [18]), ([24, 18], [18, 24]), ([23, 25, 18], [18, 23, 25]), ([26, 18], [18, 26]), ([27, 18], [18, 27]), ([18], [18]), ([29, 18], [18, 29]), ([28, 30, 18], [18, 28, 30]), ([18, 31, 15], [15, 18, 31]), ([15, 32], [15, 32])])
def spec_MachineOk.B8 : List Nat := [0, 1, 3, 7, 15, 31, 63, 31, 159, 31, 543, 1567, 4095, 8191, 16383, 32767, 65535, 131071, 262143, 524287, 524287, 2097151, 4194303, 8388607, 524287, 17301503, 67108863, 134217727, 268435455, 524287, 537395199, 2147483647, 4294967295, 8589934591]
theorem spec_MachineOk.tab8 : rtab .any (opsOf Try.f25 8) = spec_MachineOk.T8 := by kernel_rfl
theorem spec_MachineOk.bits8 : waitsOk spec_MachineOk.T8.2 spec_MachineOk.B8 = true := by kernel_rfl
theorem spec_MachineOk.calls (k : Nat) (A0 : Option Addr) (c0 : Nat) (l0 : List (S95)) (r : Bool) (w : World) (hr0 : Kd.C k95 w A0 l0.length l0) (hc0 : l0.length ≤ c0) (h : spec_MachineOk.f k l0 = some r) :
  Calls Try.prog 25 #[.slice A0 l0.length c0] w fun e w' => e = .returned (.bool r) ∧ Below w.heap.size w w' := by
 have hu97 := Try.underlying97; have HR0 := am hr0; have HC0 := am hc0; clear hr0 hc0; have HB := am (Below.refl w.heap.size w)
 have H := h; unfold spec_MachineOk.f at H
 clear h
 have H' := am H
 clear H; go_enter Try.func25, Try.ntmps25; go_wp2
 go_loopg [3] k (fun kq v3 w' => ∃ (x3_1 : Int), v3 = .int .i64 x3_1 ∧ Aside0 (spec_MachineOk.l0 kq l0 x3_1 = some r) ∧ Aside0 (kq ≤ k) ∧ Aside0 (Below w.heap.size w w'))
 case atStart => exact ⟨(0), sq, H', ⟨Nat.le_refl _⟩, ⟨bel⟩⟩
 case round =>
  clear H'; obtain ⟨x3_1, rfl, HA, HK1, HB⟩ := hrel
  cases gk with
  | zero => exact absurd HA.out (by simp [spec_MachineOk.l0])
  | succ k1 =>
   have H := HA.out; clear HA; simp only [spec_MachineOk.l0] at H
   by_cases c2 : x3_1 < (l0.length : Int)
   ·rw [if_pos c2] at H; have c2b0 := decide_eq_true c2; clear c2
    have H' := am H
    clear H; go_wp2
    go_loopg [4] k1 (fun kq v4 w' => ∃ (x4_2 : Int), v4 = .int .i64 x4_2 ∧ Aside0 (spec_MachineOk.l1 kq l0 x3_1 x4_2 = some r) ∧ Aside0 (kq ≤ k1) ∧ Aside0 (Below w.heap.size w w'))
    case atStart => exact ⟨(0), sq, H', ⟨Nat.le_refl _⟩, ⟨bel⟩⟩
    case round =>
     clear H'; clear c2b0; obtain ⟨x4_2, rfl, HA, HK2, HB⟩ := hrel
     cases gk with
     | zero => exact absurd HA.out (by simp [spec_MachineOk.l1])
     | succ k2 =>
      have H := HA.out; clear HA; simp only [spec_MachineOk.l1] at H; replace H := it H; obtain ⟨c3b0, H⟩ := H; replace H := it H; obtain ⟨c4b0, H⟩ := H
      by_cases c5 : x4_2 < (((rd_T95 l0 x3_1).f1).length : Int)
      ·rw [if_pos c5] at H; have c5b0 := decide_eq_true c5; clear c5
       replace H := it H; obtain ⟨c6b0, H⟩ := H; replace H := bs H; obtain ⟨t465, A70, H⟩ := H; have A7 := Aside0.mk A70; clear A70
       by_cases c8 : t465 = true
       ·subst c8
        rw [if_pos rfl] at H
        replace H := bs H; obtain ⟨t466, A90, H⟩ := H; have A9 := Aside0.mk A90; clear A90
        by_cases c10 : t466 = true
        ·subst c10
         rw [if_pos rfl] at H
         by_cases c11 : x4_2 > 0
         ·rw [if_pos c11] at H; have c11b0 := decide_eq_true c11; clear c11; obtain ⟨ji12, hji12⟩ : ∃ j_ : Int, (wrap64 (x4_2 - 1)) = j_ := ⟨_, rfl⟩
          rw [hji12] at H
          have hji12w : (IntKind.i64.wrap (x4_2 - 1)) = ji12 := (i64_w _).trans hji12
          replace H := it H; obtain ⟨c13b0, H⟩ := H; replace H := it H; obtain ⟨c14b0, H⟩ := H
          by_cases c15 : ((rd_T97 ((rd_T95 l0 x3_1).f1) (ji12)).f0) ≥ ((rd_T97 ((rd_T95 l0 x3_1).f1) x4_2).f0)
          ·rw [if_pos c15] at H; have c15b0 := decide_eq_true c15; clear c15; obtain rfl := Option.some.inj H
           have p459 : 0 ≤ (x3_1 : Int) := of_decide_eq_true ad
           have q459 : x3_1 < (l0.length : Int) := of_decide_eq_true ad
           obtain ⟨ad459, A459_1, c459_1, e459, hx459_0, hx459_1, hl459_1, hi459_1⟩ := at_T95 HR0.out x3_1 p459 q459; cases e459; replace hx459_0 := kp HB.out hx459_0; replace hx459_1 := kp HB.out hx459_1; have HR459_1 := am hi459_1; have HC459_1 := am hl459_1; clear hi459_1 hl459_1; replace p459 := eq_true p459; replace q459 := eq_true q459
           have p462 : 0 ≤ (x3_1 : Int) := of_decide_eq_true ad
           have q462 : x3_1 < (l0.length : Int) := of_decide_eq_true ad
           obtain ⟨ad462, A462_1, c462_1, e462, hx462_0, hx462_1, hl462_1, hi462_1⟩ := at_T95 HR0.out x3_1 p462 q462
           obtain rfl : ad459 = ad462 := (by injection e462)
           replace hx462_0 := kp HB.out hx462_0; replace hx462_1 := kp HB.out hx462_1; have HR462_1 := am hi462_1; have HC462_1 := am hl462_1; clear hi462_1 hl462_1; replace p462 := eq_true p462; replace q462 := eq_true q462; have ea_ := Option.some.inj (hx459_1.symm.trans hx462_1)
           injection ea_ with ea_ en_ ec_
           subst ea_; subst ec_; clear en_
           have p463 : 0 ≤ (x4_2 : Int) := of_decide_eq_true ad
           have q463 : x4_2 < (((rd_T95 l0 x3_1).f1).length : Int) := of_decide_eq_true ad
           obtain ⟨ad463, e463, hx463_0, hx463_1⟩ := at_T97 HR462_1.out x4_2 p463 q463; cases e463; replace hx463_0 := kp HB.out hx463_0; replace hx463_1 := kp HB.out hx463_1; replace p463 := eq_true p463; replace q463 := eq_true q463
           try go_wp2_with ((with_reducible refine gate_dst (N := 5) rfl ?_); ((refine gate_guard (by rfl) ?_; dsimp only)); refine bx 5 (cs := #[.int .i64 0, .int .i64 0]) (t := 97) ?_; intro gb464 hg w16 hbox hb; have BK464 := am (hbox); have GW464 := am ((b17_ : w.heap.size ≤ gb464)); have GE464 := am ((b17_ : w.heap.size ≤ gb464)); replace HB := am (below_step bel hb); clear hb hbox hg; have ⟨hcz17_0, hcz17_1, hfz17_0, hfz17_1⟩ := b2c BK464.out)
           have n0_ : Aside0 (((w16.setCell ⟨gb464, 0, none⟩ (.int .i64 ((rd_T97 ((rd_T95 l0 x3_1).f1) x4_2).f0))).setCell ⟨gb464, 1, none⟩ (.int .i64 ((rd_T97 ((rd_T95 l0 x3_1).f1) x4_2).f1))).heap[gb464]? = some (.cells #[.int .i64 ((rd_T97 ((rd_T95 l0 x3_1).f1) x4_2).f0), .int .i64 ((rd_T97 ((rd_T95 l0 x3_1).f1) x4_2).f1)] 97 (0, 0))) := ⟨b10_⟩
           have n1_ : Aside0 (Below w.heap.size w ((w16.setCell ⟨gb464, 0, none⟩ (.int .i64 ((rd_T97 ((rd_T95 l0 x3_1).f1) x4_2).f0))).setCell ⟨gb464, 1, none⟩ (.int .i64 ((rd_T97 ((rd_T95 l0 x3_1).f1) x4_2).f1)))) := ⟨bel1 GE464.out⟩
           clear BK464 HB; generalize ((w16.setCell ⟨gb464, 0, none⟩ (.int .i64 ((rd_T97 ((rd_T95 l0 x3_1).f1) x4_2).f0))).setCell ⟨gb464, 1, none⟩ (.int .i64 ((rd_T97 ((rd_T95 l0 x3_1).f1) x4_2).f1))) = w18 at n0_ n1_ ⊢; have BK464 := n0_; have HB := n1_; clear n0_ n1_; replace BK464 := am (blk_drew BK464.out); replace HB := am (below_drew1 HB.out)
           have p467 : 0 ≤ (x3_1 : Int) := of_decide_eq_true ad
           have q467 : x3_1 < (l0.length : Int) := of_decide_eq_true ad
           obtain ⟨ad467, A467_1, c467_1, e467, hx467_0, hx467_1, hl467_1, hi467_1⟩ := at_T95 HR0.out x3_1 p467 q467; have hw467_1 := hx467_1; have hw467_0 := hx467_0
           obtain rfl : ad459 = ad467 := (by injection e467)
           replace hx467_0 := kp HB.out hx467_0; replace hx467_1 := kp HB.out hx467_1; have HR467_1 := am hi467_1; have HC467_1 := am hl467_1; clear hi467_1 hl467_1; replace p467 := eq_true p467; replace q467 := eq_true q467
           have p468 : 0 ≤ ((ji12) : Int) := of_decide_eq_true ad
           have q468 : (ji12) < (((rd_T95 l0 x3_1).f1).length : Int) := of_decide_eq_true ad
           obtain ⟨ad468, e468, hx468_0, hx468_1⟩ := at_T97 HR467_1.out (ji12) p468 q468; have hw468_1 := hx468_1; have hw468_0 := hx468_0; cases e468; replace hx468_0 := kp HB.out hx468_0; replace hx468_1 := kp HB.out hx468_1; replace p468 := eq_true p468; replace q468 := eq_true q468
           refine st (n := 34) (S := fun w' => w'.cell? ⟨gb464, 0, none⟩ = some (.int .i64 ((rd_T97 ((rd_T95 l0 x3_1).f1) x4_2).f0)) ∧ w'.cell? ⟨gb464, 1, none⟩ = some (.int .i64 ((rd_T97 ((rd_T95 l0 x3_1).f1) x4_2).f1)) ∧ w'.cell? (ad459.add ((x3_1).toNat * 2)) = some (.bool ((rd_T95 l0 x3_1).f0)) ∧ w'.cell? ⟨(ad459.add ((x3_1).toNat * 2)).block, (ad459.add ((x3_1).toNat * 2)).off + 1, none⟩ = some (.slice (some ad468) ((rd_T95 l0 x3_1).f1).length c467_1) ∧ w'.cell? (ad468.add (((ji12)).toNat * 2)) = some (.int .i64 ((rd_T97 ((rd_T95 l0 x3_1).f1) (ji12)).f0)) ∧ w'.cell? ⟨(ad468.add (((ji12)).toNat * 2)).block, (ad468.add (((ji12)).toNat * 2)).off + 1, none⟩ = some (.int .i64 ((rd_T97 ((rd_T95 l0 x3_1).f1) (ji12)).f1))) (ds := []) ⟨bd BK464.out 0, bd BK464.out 1, (kp HB.out hw467_0), (kp HB.out hw467_1), (kp HB.out hw468_0), (kp HB.out hw468_1)⟩ (fun hHeld => ?_); refine with_tabW spec_MachineOk.tab8 spec_MachineOk.bits8 (fun HT_ HW_ => ?_)
           generalize w18.drew = w19 at BK464 HB HR467_1 hx467_0 hx467_1 hx468_0 hx468_1 hHeld ⊢; refine pu 0 30 ?_; refine tk6 1 31 hHeld ?_; refine on1 2 32 (fun K hK => ?_)
           refine go1 Try.func74 #[.int .i64 ((rd_T97 ((rd_T95 l0 x3_1).f1) x4_2).f0), .int .i64 97, .int .i64 122] ?_
           with_reducible refine (spec_l1In.calls ((rd_T97 ((rd_T95 l0 x3_1).f1) x4_2).f0) 97 122 true _ A7.out).mono ?_
           rintro e w' ⟨rfl, ⟨nd, rfl⟩⟩
           refine ⟨_, rfl, ?_⟩; refine hK.out _ _ ⟨bd BK464.out 0, bd BK464.out 1, (kp HB.out hw467_0), (kp HB.out hw467_1), (kp HB.out hw468_0), (kp HB.out hw468_1)⟩ (fun hHeld => ?_); clear hK K; refine nm 32 ?_; refine pu 3 33 ?_; refine pu 4 34 ?_; refine pu 5 35 ?_; refine pu 7 37 ?_; refine pu 8 38 ?_; refine pu 9 39 ?_; refine pu 10 40 ?_; refine pu 11 41 ?_; refine tk6 6 36 hHeld ?_; refine on1 12 42 (fun K hK => ?_)
           refine go1 Try.func74 #[.int .i64 ((rd_T97 ((rd_T95 l0 x3_1).f1) x4_2).f1), .int .i64 (wrap64 (x3_1 + 1)), .int .i64 (wrap64 ((l0.length : Int) - 1))] ?_
           with_reducible refine (spec_l1In.calls ((rd_T97 ((rd_T95 l0 x3_1).f1) x4_2).f1) (wrap64 (x3_1 + 1)) (wrap64 ((l0.length : Int) - 1)) true _ A9.out).mono ?_
           rintro e w' ⟨rfl, ⟨nd, rfl⟩⟩
           refine ⟨_, rfl, ?_⟩; refine hK.out _ _ ⟨bd BK464.out 0, bd BK464.out 1, (kp HB.out hw467_0), (kp HB.out hw467_1), (kp HB.out hw468_0), (kp HB.out hw468_1)⟩ (fun hHeld => ?_); clear hK K; refine nm 42 ?_; refine pu 13 43 ?_; refine pu 14 44 ?_; refine pu 15 45 ?_; refine pu 16 46 ?_; refine pu 17 47 ?_; refine pu 18 48 ?_; refine pu 19 49 ?_; refine pu 20 50 ?_; refine pu 21 51 ?_; refine pu 22 52 ?_; refine pu 24 54 ?_; refine pu 25 55 ?_; refine pu 29 59 ?_; refine tk6 23 53 hHeld ?_; refine pu 26 56 ?_; refine pu 27 57 ?_; refine tk6 28 58 hHeld ?_; refine tk6 30 60 hHeld ?_; refine pu 31 61 ?_; refine pu 32 62 ?_; refine pu 33 63 ?_
           refine done_ (done_of HT_.out (by kernel_rfl)) ?_
           try go_wp2
           go_ret
           exact ⟨by rfl, bel1 GE464.out⟩
          rw [if_neg c15] at H; have c15b0 := decide_eq_false c15; clear c15
          have H' := am H
          clear H
          have p459 : 0 ≤ (x3_1 : Int) := of_decide_eq_true ad
          have q459 : x3_1 < (l0.length : Int) := of_decide_eq_true ad
          obtain ⟨ad459, A459_1, c459_1, e459, hx459_0, hx459_1, hl459_1, hi459_1⟩ := at_T95 HR0.out x3_1 p459 q459; cases e459; replace hx459_0 := kp HB.out hx459_0; replace hx459_1 := kp HB.out hx459_1; have HR459_1 := am hi459_1; have HC459_1 := am hl459_1; clear hi459_1 hl459_1; replace p459 := eq_true p459; replace q459 := eq_true q459
          have p462 : 0 ≤ (x3_1 : Int) := of_decide_eq_true ad
          have q462 : x3_1 < (l0.length : Int) := of_decide_eq_true ad
          obtain ⟨ad462, A462_1, c462_1, e462, hx462_0, hx462_1, hl462_1, hi462_1⟩ := at_T95 HR0.out x3_1 p462 q462
          obtain rfl : ad459 = ad462 := (by injection e462)
          replace hx462_0 := kp HB.out hx462_0; replace hx462_1 := kp HB.out hx462_1; have HR462_1 := am hi462_1; have HC462_1 := am hl462_1; clear hi462_1 hl462_1; replace p462 := eq_true p462; replace q462 := eq_true q462; have ea_ := Option.some.inj (hx459_1.symm.trans hx462_1)
          injection ea_ with ea_ en_ ec_
          subst ea_; subst ec_; clear en_
          have p463 : 0 ≤ (x4_2 : Int) := of_decide_eq_true ad
          have q463 : x4_2 < (((rd_T95 l0 x3_1).f1).length : Int) := of_decide_eq_true ad
          obtain ⟨ad463, e463, hx463_0, hx463_1⟩ := at_T97 HR462_1.out x4_2 p463 q463; cases e463; replace hx463_0 := kp HB.out hx463_0; replace hx463_1 := kp HB.out hx463_1; replace p463 := eq_true p463; replace q463 := eq_true q463
          try go_wp2_with ((with_reducible refine gate_dst (N := 5) rfl ?_); ((refine gate_guard (by rfl) ?_; dsimp only)); refine bx 5 (cs := #[.int .i64 0, .int .i64 0]) (t := 97) ?_; intro gb464 hg w20 hbox hb; have BK464 := am (hbox); have GW464 := am ((b17_ : w.heap.size ≤ gb464)); have GE464 := am ((b17_ : w.heap.size ≤ gb464)); replace HB := am (below_step bel hb); clear hb hbox hg; have ⟨hcz21_0, hcz21_1, hfz21_0, hfz21_1⟩ := b2c BK464.out)
          have n0_ : Aside0 (((w20.setCell ⟨gb464, 0, none⟩ (.int .i64 ((rd_T97 ((rd_T95 l0 x3_1).f1) x4_2).f0))).setCell ⟨gb464, 1, none⟩ (.int .i64 ((rd_T97 ((rd_T95 l0 x3_1).f1) x4_2).f1))).heap[gb464]? = some (.cells #[.int .i64 ((rd_T97 ((rd_T95 l0 x3_1).f1) x4_2).f0), .int .i64 ((rd_T97 ((rd_T95 l0 x3_1).f1) x4_2).f1)] 97 (0, 0))) := ⟨b10_⟩
          have n1_ : Aside0 (Below w.heap.size w ((w20.setCell ⟨gb464, 0, none⟩ (.int .i64 ((rd_T97 ((rd_T95 l0 x3_1).f1) x4_2).f0))).setCell ⟨gb464, 1, none⟩ (.int .i64 ((rd_T97 ((rd_T95 l0 x3_1).f1) x4_2).f1)))) := ⟨bel1 GE464.out⟩
          clear BK464 HB; generalize ((w20.setCell ⟨gb464, 0, none⟩ (.int .i64 ((rd_T97 ((rd_T95 l0 x3_1).f1) x4_2).f0))).setCell ⟨gb464, 1, none⟩ (.int .i64 ((rd_T97 ((rd_T95 l0 x3_1).f1) x4_2).f1))) = w22 at n0_ n1_ ⊢; have BK464 := n0_; have HB := n1_; clear n0_ n1_; replace BK464 := am (blk_drew BK464.out); replace HB := am (below_drew1 HB.out)
          have p467 : 0 ≤ (x3_1 : Int) := of_decide_eq_true ad
          have q467 : x3_1 < (l0.length : Int) := of_decide_eq_true ad
          obtain ⟨ad467, A467_1, c467_1, e467, hx467_0, hx467_1, hl467_1, hi467_1⟩ := at_T95 HR0.out x3_1 p467 q467; have hw467_1 := hx467_1; have hw467_0 := hx467_0
          obtain rfl : ad459 = ad467 := (by injection e467)
          replace hx467_0 := kp HB.out hx467_0; replace hx467_1 := kp HB.out hx467_1; have HR467_1 := am hi467_1; have HC467_1 := am hl467_1; clear hi467_1 hl467_1; replace p467 := eq_true p467; replace q467 := eq_true q467
          have p468 : 0 ≤ ((ji12) : Int) := of_decide_eq_true ad
          have q468 : (ji12) < (((rd_T95 l0 x3_1).f1).length : Int) := of_decide_eq_true ad
          obtain ⟨ad468, e468, hx468_0, hx468_1⟩ := at_T97 HR467_1.out (ji12) p468 q468; have hw468_1 := hx468_1; have hw468_0 := hx468_0; cases e468; replace hx468_0 := kp HB.out hx468_0; replace hx468_1 := kp HB.out hx468_1; replace p468 := eq_true p468; replace q468 := eq_true q468
          refine st (n := 34) (S := fun w' => w'.cell? ⟨gb464, 0, none⟩ = some (.int .i64 ((rd_T97 ((rd_T95 l0 x3_1).f1) x4_2).f0)) ∧ w'.cell? ⟨gb464, 1, none⟩ = some (.int .i64 ((rd_T97 ((rd_T95 l0 x3_1).f1) x4_2).f1)) ∧ w'.cell? (ad459.add ((x3_1).toNat * 2)) = some (.bool ((rd_T95 l0 x3_1).f0)) ∧ w'.cell? ⟨(ad459.add ((x3_1).toNat * 2)).block, (ad459.add ((x3_1).toNat * 2)).off + 1, none⟩ = some (.slice (some ad468) ((rd_T95 l0 x3_1).f1).length c467_1) ∧ w'.cell? (ad468.add (((ji12)).toNat * 2)) = some (.int .i64 ((rd_T97 ((rd_T95 l0 x3_1).f1) (ji12)).f0)) ∧ w'.cell? ⟨(ad468.add (((ji12)).toNat * 2)).block, (ad468.add (((ji12)).toNat * 2)).off + 1, none⟩ = some (.int .i64 ((rd_T97 ((rd_T95 l0 x3_1).f1) (ji12)).f1))) (ds := []) ⟨bd BK464.out 0, bd BK464.out 1, (kp HB.out hw467_0), (kp HB.out hw467_1), (kp HB.out hw468_0), (kp HB.out hw468_1)⟩ (fun hHeld => ?_); refine with_tabW spec_MachineOk.tab8 spec_MachineOk.bits8 (fun HT_ HW_ => ?_)
          generalize w22.drew = w23 at BK464 HB HR467_1 hx467_0 hx467_1 hx468_0 hx468_1 hHeld ⊢; refine pu 0 30 ?_; refine tk6 1 31 hHeld ?_; refine on1 2 32 (fun K hK => ?_)
          refine go1 Try.func74 #[.int .i64 ((rd_T97 ((rd_T95 l0 x3_1).f1) x4_2).f0), .int .i64 97, .int .i64 122] ?_
          with_reducible refine (spec_l1In.calls ((rd_T97 ((rd_T95 l0 x3_1).f1) x4_2).f0) 97 122 true _ A7.out).mono ?_
          rintro e w' ⟨rfl, ⟨nd, rfl⟩⟩
          refine ⟨_, rfl, ?_⟩; refine hK.out _ _ ⟨bd BK464.out 0, bd BK464.out 1, (kp HB.out hw467_0), (kp HB.out hw467_1), (kp HB.out hw468_0), (kp HB.out hw468_1)⟩ (fun hHeld => ?_); clear hK K; refine nm 32 ?_; refine pu 3 33 ?_; refine pu 4 34 ?_; refine pu 5 35 ?_; refine pu 7 37 ?_; refine pu 8 38 ?_; refine pu 9 39 ?_; refine pu 10 40 ?_; refine pu 11 41 ?_; refine tk6 6 36 hHeld ?_; refine on1 12 42 (fun K hK => ?_)
          refine go1 Try.func74 #[.int .i64 ((rd_T97 ((rd_T95 l0 x3_1).f1) x4_2).f1), .int .i64 (wrap64 (x3_1 + 1)), .int .i64 (wrap64 ((l0.length : Int) - 1))] ?_
          with_reducible refine (spec_l1In.calls ((rd_T97 ((rd_T95 l0 x3_1).f1) x4_2).f1) (wrap64 (x3_1 + 1)) (wrap64 ((l0.length : Int) - 1)) true _ A9.out).mono ?_
          rintro e w' ⟨rfl, ⟨nd, rfl⟩⟩
          refine ⟨_, rfl, ?_⟩; refine hK.out _ _ ⟨bd BK464.out 0, bd BK464.out 1, (kp HB.out hw467_0), (kp HB.out hw467_1), (kp HB.out hw468_0), (kp HB.out hw468_1)⟩ (fun hHeld => ?_); clear hK K; refine nm 42 ?_; refine pu 13 43 ?_; refine pu 14 44 ?_; refine pu 15 45 ?_; refine pu 16 46 ?_; refine pu 17 47 ?_; refine pu 18 48 ?_; refine pu 19 49 ?_; refine pu 20 50 ?_; refine pu 21 51 ?_; refine pu 22 52 ?_; refine pu 24 54 ?_; refine pu 25 55 ?_; refine pu 29 59 ?_; refine tk6 23 53 hHeld ?_; refine pu 26 56 ?_; refine pu 27 57 ?_; refine tk6 28 58 hHeld ?_; refine tk6 30 60 hHeld ?_; refine pu 31 61 ?_; refine pu 32 62 ?_; refine pu 33 63 ?_
          refine done_ (done_of HT_.out (by kernel_rfl)) ?_
          try go_wp2
          go_roundg k2
          case measure => have := HK1.out; have := HK2.out; omega
          case rel => exact ⟨(wrap64 (x4_2 + 1)), sq, H', ⟨b30_⟩, ⟨bel1 GE464.out⟩⟩
         rw [if_neg c11] at H; have c11b0 := decide_eq_false c11; clear c11
         have H' := am H
         clear H
         have p459 : 0 ≤ (x3_1 : Int) := of_decide_eq_true ad
         have q459 : x3_1 < (l0.length : Int) := of_decide_eq_true ad
         obtain ⟨ad459, A459_1, c459_1, e459, hx459_0, hx459_1, hl459_1, hi459_1⟩ := at_T95 HR0.out x3_1 p459 q459; cases e459; replace hx459_0 := kp HB.out hx459_0; replace hx459_1 := kp HB.out hx459_1; have HR459_1 := am hi459_1; have HC459_1 := am hl459_1; clear hi459_1 hl459_1; replace p459 := eq_true p459; replace q459 := eq_true q459
         have p462 : 0 ≤ (x3_1 : Int) := of_decide_eq_true ad
         have q462 : x3_1 < (l0.length : Int) := of_decide_eq_true ad
         obtain ⟨ad462, A462_1, c462_1, e462, hx462_0, hx462_1, hl462_1, hi462_1⟩ := at_T95 HR0.out x3_1 p462 q462
         obtain rfl : ad459 = ad462 := (by injection e462)
         replace hx462_0 := kp HB.out hx462_0; replace hx462_1 := kp HB.out hx462_1; have HR462_1 := am hi462_1; have HC462_1 := am hl462_1; clear hi462_1 hl462_1; replace p462 := eq_true p462; replace q462 := eq_true q462; have ea_ := Option.some.inj (hx459_1.symm.trans hx462_1)
         injection ea_ with ea_ en_ ec_
         subst ea_; subst ec_; clear en_
         have p463 : 0 ≤ (x4_2 : Int) := of_decide_eq_true ad
         have q463 : x4_2 < (((rd_T95 l0 x3_1).f1).length : Int) := of_decide_eq_true ad
         obtain ⟨ad463, e463, hx463_0, hx463_1⟩ := at_T97 HR462_1.out x4_2 p463 q463; cases e463; replace hx463_0 := kp HB.out hx463_0; replace hx463_1 := kp HB.out hx463_1; replace p463 := eq_true p463; replace q463 := eq_true q463
         try go_wp2_with ((with_reducible refine gate_dst (N := 5) rfl ?_); ((refine gate_guard (by rfl) ?_; dsimp only)); refine bx 5 (cs := #[.int .i64 0, .int .i64 0]) (t := 97) ?_; intro gb464 hg w24 hbox hb; have BK464 := am (hbox); have GW464 := am ((b17_ : w.heap.size ≤ gb464)); have GE464 := am ((b17_ : w.heap.size ≤ gb464)); replace HB := am (below_step bel hb); clear hb hbox hg; have ⟨hcz25_0, hcz25_1, hfz25_0, hfz25_1⟩ := b2c BK464.out)
         have n0_ : Aside0 (((w24.setCell ⟨gb464, 0, none⟩ (.int .i64 ((rd_T97 ((rd_T95 l0 x3_1).f1) x4_2).f0))).setCell ⟨gb464, 1, none⟩ (.int .i64 ((rd_T97 ((rd_T95 l0 x3_1).f1) x4_2).f1))).heap[gb464]? = some (.cells #[.int .i64 ((rd_T97 ((rd_T95 l0 x3_1).f1) x4_2).f0), .int .i64 ((rd_T97 ((rd_T95 l0 x3_1).f1) x4_2).f1)] 97 (0, 0))) := ⟨b10_⟩
         have n1_ : Aside0 (Below w.heap.size w ((w24.setCell ⟨gb464, 0, none⟩ (.int .i64 ((rd_T97 ((rd_T95 l0 x3_1).f1) x4_2).f0))).setCell ⟨gb464, 1, none⟩ (.int .i64 ((rd_T97 ((rd_T95 l0 x3_1).f1) x4_2).f1)))) := ⟨bel1 GE464.out⟩
         clear BK464 HB; generalize ((w24.setCell ⟨gb464, 0, none⟩ (.int .i64 ((rd_T97 ((rd_T95 l0 x3_1).f1) x4_2).f0))).setCell ⟨gb464, 1, none⟩ (.int .i64 ((rd_T97 ((rd_T95 l0 x3_1).f1) x4_2).f1))) = w26 at n0_ n1_ ⊢; have BK464 := n0_; have HB := n1_; clear n0_ n1_; replace BK464 := am (blk_drew BK464.out); replace HB := am (below_drew1 HB.out)
         refine st (n := 34) (S := fun w' => w'.cell? ⟨gb464, 0, none⟩ = some (.int .i64 ((rd_T97 ((rd_T95 l0 x3_1).f1) x4_2).f0)) ∧ w'.cell? ⟨gb464, 1, none⟩ = some (.int .i64 ((rd_T97 ((rd_T95 l0 x3_1).f1) x4_2).f1))) (ds := []) ⟨bd BK464.out 0, bd BK464.out 1⟩ (fun hHeld => ?_); refine with_tabW spec_MachineOk.tab8 spec_MachineOk.bits8 (fun HT_ HW_ => ?_)
         generalize w26.drew = w27 at BK464 HB hHeld ⊢; refine pu 0 30 ?_; refine tk2 1 31 hHeld ?_; refine on1 2 32 (fun K hK => ?_)
         refine go1 Try.func74 #[.int .i64 ((rd_T97 ((rd_T95 l0 x3_1).f1) x4_2).f0), .int .i64 97, .int .i64 122] ?_
         with_reducible refine (spec_l1In.calls ((rd_T97 ((rd_T95 l0 x3_1).f1) x4_2).f0) 97 122 true _ A7.out).mono ?_
         rintro e w' ⟨rfl, ⟨nd, rfl⟩⟩
         refine ⟨_, rfl, ?_⟩; refine hK.out _ _ ⟨bd BK464.out 0, bd BK464.out 1⟩ (fun hHeld => ?_); clear hK K; refine nm 32 ?_; refine pu 3 33 ?_; refine pu 4 34 ?_; refine pu 5 35 ?_; refine pu 7 37 ?_; refine pu 8 38 ?_; refine pu 9 39 ?_; refine pu 10 40 ?_; refine pu 11 41 ?_; refine tk2 6 36 hHeld ?_; refine on1 12 42 (fun K hK => ?_)
         refine go1 Try.func74 #[.int .i64 ((rd_T97 ((rd_T95 l0 x3_1).f1) x4_2).f1), .int .i64 (wrap64 (x3_1 + 1)), .int .i64 (wrap64 ((l0.length : Int) - 1))] ?_
         with_reducible refine (spec_l1In.calls ((rd_T97 ((rd_T95 l0 x3_1).f1) x4_2).f1) (wrap64 (x3_1 + 1)) (wrap64 ((l0.length : Int) - 1)) true _ A9.out).mono ?_
         rintro e w' ⟨rfl, ⟨nd, rfl⟩⟩
         refine ⟨_, rfl, ?_⟩; refine hK.out _ _ ⟨bd BK464.out 0, bd BK464.out 1⟩ (fun hHeld => ?_); clear hK K; refine nm 42 ?_; refine pu 13 43 ?_; refine pu 14 44 ?_; refine pu 15 45 ?_; refine pu 16 46 ?_; refine pu 17 47 ?_; refine pu 18 48 ?_; refine puu 19 49 ?_; refine puu 20 50 ?_; refine puu 21 51 ?_; refine puu 22 52 ?_; refine puu 23 53 ?_; refine puu 24 54 ?_; refine puu 25 55 ?_; refine puu 26 56 ?_; refine puu 27 57 ?_; refine puu 28 58 ?_; refine puu 29 59 ?_; refine puu 30 60 ?_; refine puu 31 61 ?_; refine pu 32 62 ?_; refine pu 33 63 ?_
         refine done_ (done_of HT_.out (by kernel_rfl)) ?_
         try go_wp2
         go_roundg k2
         case measure => have := HK1.out; have := HK2.out; omega
         case rel => exact ⟨(wrap64 (x4_2 + 1)), sq, H', ⟨b30_⟩, ⟨bel1 GE464.out⟩⟩
        replace c10 := Bool.eq_false_iff.mpr c10; subst c10
        rw [if_neg Bool.false_ne_true] at H
        obtain rfl := Option.some.inj H
        have p459 : 0 ≤ (x3_1 : Int) := of_decide_eq_true ad
        have q459 : x3_1 < (l0.length : Int) := of_decide_eq_true ad
        obtain ⟨ad459, A459_1, c459_1, e459, hx459_0, hx459_1, hl459_1, hi459_1⟩ := at_T95 HR0.out x3_1 p459 q459; cases e459; replace hx459_0 := kp HB.out hx459_0; replace hx459_1 := kp HB.out hx459_1; have HR459_1 := am hi459_1; have HC459_1 := am hl459_1; clear hi459_1 hl459_1; replace p459 := eq_true p459; replace q459 := eq_true q459
        have p462 : 0 ≤ (x3_1 : Int) := of_decide_eq_true ad
        have q462 : x3_1 < (l0.length : Int) := of_decide_eq_true ad
        obtain ⟨ad462, A462_1, c462_1, e462, hx462_0, hx462_1, hl462_1, hi462_1⟩ := at_T95 HR0.out x3_1 p462 q462
        obtain rfl : ad459 = ad462 := (by injection e462)
        replace hx462_0 := kp HB.out hx462_0; replace hx462_1 := kp HB.out hx462_1; have HR462_1 := am hi462_1; have HC462_1 := am hl462_1; clear hi462_1 hl462_1; replace p462 := eq_true p462; replace q462 := eq_true q462; have ea_ := Option.some.inj (hx459_1.symm.trans hx462_1)
        injection ea_ with ea_ en_ ec_
        subst ea_; subst ec_; clear en_
        have p463 : 0 ≤ (x4_2 : Int) := of_decide_eq_true ad
        have q463 : x4_2 < (((rd_T95 l0 x3_1).f1).length : Int) := of_decide_eq_true ad
        obtain ⟨ad463, e463, hx463_0, hx463_1⟩ := at_T97 HR462_1.out x4_2 p463 q463; cases e463; replace hx463_0 := kp HB.out hx463_0; replace hx463_1 := kp HB.out hx463_1; replace p463 := eq_true p463; replace q463 := eq_true q463
        try go_wp2_with ((with_reducible refine gate_dst (N := 5) rfl ?_); ((refine gate_guard (by rfl) ?_; dsimp only)); refine bx 5 (cs := #[.int .i64 0, .int .i64 0]) (t := 97) ?_; intro gb464 hg w28 hbox hb; have BK464 := am (hbox); have GW464 := am ((b17_ : w.heap.size ≤ gb464)); have GE464 := am ((b17_ : w.heap.size ≤ gb464)); replace HB := am (below_step bel hb); clear hb hbox hg; have ⟨hcz29_0, hcz29_1, hfz29_0, hfz29_1⟩ := b2c BK464.out)
        have n0_ : Aside0 (((w28.setCell ⟨gb464, 0, none⟩ (.int .i64 ((rd_T97 ((rd_T95 l0 x3_1).f1) x4_2).f0))).setCell ⟨gb464, 1, none⟩ (.int .i64 ((rd_T97 ((rd_T95 l0 x3_1).f1) x4_2).f1))).heap[gb464]? = some (.cells #[.int .i64 ((rd_T97 ((rd_T95 l0 x3_1).f1) x4_2).f0), .int .i64 ((rd_T97 ((rd_T95 l0 x3_1).f1) x4_2).f1)] 97 (0, 0))) := ⟨b10_⟩
        have n1_ : Aside0 (Below w.heap.size w ((w28.setCell ⟨gb464, 0, none⟩ (.int .i64 ((rd_T97 ((rd_T95 l0 x3_1).f1) x4_2).f0))).setCell ⟨gb464, 1, none⟩ (.int .i64 ((rd_T97 ((rd_T95 l0 x3_1).f1) x4_2).f1)))) := ⟨bel1 GE464.out⟩
        clear BK464 HB; generalize ((w28.setCell ⟨gb464, 0, none⟩ (.int .i64 ((rd_T97 ((rd_T95 l0 x3_1).f1) x4_2).f0))).setCell ⟨gb464, 1, none⟩ (.int .i64 ((rd_T97 ((rd_T95 l0 x3_1).f1) x4_2).f1))) = w30 at n0_ n1_ ⊢; have BK464 := n0_; have HB := n1_; clear n0_ n1_; replace BK464 := am (blk_drew BK464.out); replace HB := am (below_drew1 HB.out)
        refine st (n := 34) (S := fun w' => w'.cell? ⟨gb464, 0, none⟩ = some (.int .i64 ((rd_T97 ((rd_T95 l0 x3_1).f1) x4_2).f0)) ∧ w'.cell? ⟨gb464, 1, none⟩ = some (.int .i64 ((rd_T97 ((rd_T95 l0 x3_1).f1) x4_2).f1))) (ds := []) ⟨bd BK464.out 0, bd BK464.out 1⟩ (fun hHeld => ?_); refine with_tabW spec_MachineOk.tab8 spec_MachineOk.bits8 (fun HT_ HW_ => ?_)
        generalize w30.drew = w31 at BK464 HB hHeld ⊢; refine pu 0 30 ?_; refine tk2 1 31 hHeld ?_; refine on1 2 32 (fun K hK => ?_)
        refine go1 Try.func74 #[.int .i64 ((rd_T97 ((rd_T95 l0 x3_1).f1) x4_2).f0), .int .i64 97, .int .i64 122] ?_
        with_reducible refine (spec_l1In.calls ((rd_T97 ((rd_T95 l0 x3_1).f1) x4_2).f0) 97 122 true _ A7.out).mono ?_
        rintro e w' ⟨rfl, ⟨nd, rfl⟩⟩
        refine ⟨_, rfl, ?_⟩; refine hK.out _ _ ⟨bd BK464.out 0, bd BK464.out 1⟩ (fun hHeld => ?_); clear hK K; refine nm 32 ?_; refine pu 3 33 ?_; refine pu 4 34 ?_; refine pu 5 35 ?_; refine pu 7 37 ?_; refine pu 8 38 ?_; refine pu 9 39 ?_; refine pu 10 40 ?_; refine pu 11 41 ?_; refine tk2 6 36 hHeld ?_; refine on1 12 42 (fun K hK => ?_)
        refine go1 Try.func74 #[.int .i64 ((rd_T97 ((rd_T95 l0 x3_1).f1) x4_2).f1), .int .i64 (wrap64 (x3_1 + 1)), .int .i64 (wrap64 ((l0.length : Int) - 1))] ?_
        with_reducible refine (spec_l1In.calls ((rd_T97 ((rd_T95 l0 x3_1).f1) x4_2).f1) (wrap64 (x3_1 + 1)) (wrap64 ((l0.length : Int) - 1)) false _ A9.out).mono ?_
        rintro e w' ⟨rfl, ⟨nd, rfl⟩⟩
        refine ⟨_, rfl, ?_⟩; refine hK.out _ _ ⟨bd BK464.out 0, bd BK464.out 1⟩ (fun hHeld => ?_); clear hK K; refine nm 42 ?_; refine pu 13 43 ?_; refine pu 14 44 ?_; refine pu 15 45 ?_; refine puu 16 46 ?_; refine puu 17 47 ?_; refine puu 18 48 ?_; refine puu 19 49 ?_; refine puu 20 50 ?_; refine puu 21 51 ?_; refine puu 22 52 ?_; refine puu 23 53 ?_; refine puu 24 54 ?_; refine puu 25 55 ?_; refine puu 26 56 ?_; refine puu 27 57 ?_; refine puu 28 58 ?_; refine puu 29 59 ?_; refine puu 30 60 ?_; refine puu 31 61 ?_; refine puu 32 62 ?_; refine pu 33 63 ?_
        refine done_ (done_of HT_.out (by kernel_rfl)) ?_
        try go_wp2
        go_ret
        exact ⟨eq_, bel1 GE464.out⟩
       replace c8 := Bool.eq_false_iff.mpr c8; subst c8
       rw [if_neg Bool.false_ne_true] at H
       obtain rfl := Option.some.inj H
       have p459 : 0 ≤ (x3_1 : Int) := of_decide_eq_true ad
       have q459 : x3_1 < (l0.length : Int) := of_decide_eq_true ad
       obtain ⟨ad459, A459_1, c459_1, e459, hx459_0, hx459_1, hl459_1, hi459_1⟩ := at_T95 HR0.out x3_1 p459 q459; cases e459; replace hx459_0 := kp HB.out hx459_0; replace hx459_1 := kp HB.out hx459_1; have HR459_1 := am hi459_1; have HC459_1 := am hl459_1; clear hi459_1 hl459_1; replace p459 := eq_true p459; replace q459 := eq_true q459
       have p462 : 0 ≤ (x3_1 : Int) := of_decide_eq_true ad
       have q462 : x3_1 < (l0.length : Int) := of_decide_eq_true ad
       obtain ⟨ad462, A462_1, c462_1, e462, hx462_0, hx462_1, hl462_1, hi462_1⟩ := at_T95 HR0.out x3_1 p462 q462
       obtain rfl : ad459 = ad462 := (by injection e462)
       replace hx462_0 := kp HB.out hx462_0; replace hx462_1 := kp HB.out hx462_1; have HR462_1 := am hi462_1; have HC462_1 := am hl462_1; clear hi462_1 hl462_1; replace p462 := eq_true p462; replace q462 := eq_true q462; have ea_ := Option.some.inj (hx459_1.symm.trans hx462_1)
       injection ea_ with ea_ en_ ec_
       subst ea_; subst ec_; clear en_
       have p463 : 0 ≤ (x4_2 : Int) := of_decide_eq_true ad
       have q463 : x4_2 < (((rd_T95 l0 x3_1).f1).length : Int) := of_decide_eq_true ad
       obtain ⟨ad463, e463, hx463_0, hx463_1⟩ := at_T97 HR462_1.out x4_2 p463 q463; cases e463; replace hx463_0 := kp HB.out hx463_0; replace hx463_1 := kp HB.out hx463_1; replace p463 := eq_true p463; replace q463 := eq_true q463
       try go_wp2_with ((with_reducible refine gate_dst (N := 5) rfl ?_); ((refine gate_guard (by rfl) ?_; dsimp only)); refine bx 5 (cs := #[.int .i64 0, .int .i64 0]) (t := 97) ?_; intro gb464 hg w32 hbox hb; have BK464 := am (hbox); have GW464 := am ((b17_ : w.heap.size ≤ gb464)); have GE464 := am ((b17_ : w.heap.size ≤ gb464)); replace HB := am (below_step bel hb); clear hb hbox hg; have ⟨hcz33_0, hcz33_1, hfz33_0, hfz33_1⟩ := b2c BK464.out)
       have n0_ : Aside0 (((w32.setCell ⟨gb464, 0, none⟩ (.int .i64 ((rd_T97 ((rd_T95 l0 x3_1).f1) x4_2).f0))).setCell ⟨gb464, 1, none⟩ (.int .i64 ((rd_T97 ((rd_T95 l0 x3_1).f1) x4_2).f1))).heap[gb464]? = some (.cells #[.int .i64 ((rd_T97 ((rd_T95 l0 x3_1).f1) x4_2).f0), .int .i64 ((rd_T97 ((rd_T95 l0 x3_1).f1) x4_2).f1)] 97 (0, 0))) := ⟨b10_⟩
       have n1_ : Aside0 (Below w.heap.size w ((w32.setCell ⟨gb464, 0, none⟩ (.int .i64 ((rd_T97 ((rd_T95 l0 x3_1).f1) x4_2).f0))).setCell ⟨gb464, 1, none⟩ (.int .i64 ((rd_T97 ((rd_T95 l0 x3_1).f1) x4_2).f1)))) := ⟨bel1 GE464.out⟩
       clear BK464 HB; generalize ((w32.setCell ⟨gb464, 0, none⟩ (.int .i64 ((rd_T97 ((rd_T95 l0 x3_1).f1) x4_2).f0))).setCell ⟨gb464, 1, none⟩ (.int .i64 ((rd_T97 ((rd_T95 l0 x3_1).f1) x4_2).f1))) = w34 at n0_ n1_ ⊢; have BK464 := n0_; have HB := n1_; clear n0_ n1_; replace BK464 := am (blk_drew BK464.out); replace HB := am (below_drew1 HB.out)
       refine st (n := 34) (S := fun w' => w'.cell? ⟨gb464, 0, none⟩ = some (.int .i64 ((rd_T97 ((rd_T95 l0 x3_1).f1) x4_2).f0)) ∧ w'.cell? ⟨gb464, 1, none⟩ = some (.int .i64 ((rd_T97 ((rd_T95 l0 x3_1).f1) x4_2).f1))) (ds := []) ⟨bd BK464.out 0, bd BK464.out 1⟩ (fun hHeld => ?_); refine with_tabW spec_MachineOk.tab8 spec_MachineOk.bits8 (fun HT_ HW_ => ?_)
       generalize w34.drew = w35 at BK464 HB hHeld ⊢; refine pu 0 30 ?_; refine tk2 1 31 hHeld ?_; refine on1 2 32 (fun K hK => ?_)
       refine go1 Try.func74 #[.int .i64 ((rd_T97 ((rd_T95 l0 x3_1).f1) x4_2).f0), .int .i64 97, .int .i64 122] ?_
       with_reducible refine (spec_l1In.calls ((rd_T97 ((rd_T95 l0 x3_1).f1) x4_2).f0) 97 122 false _ A7.out).mono ?_
       rintro e w' ⟨rfl, ⟨nd, rfl⟩⟩
       refine ⟨_, rfl, ?_⟩; refine hK.out _ _ ⟨bd BK464.out 0, bd BK464.out 1⟩ (fun hHeld => ?_); clear hK K; refine nm 32 ?_; refine pu 3 33 ?_; refine pu 4 34 ?_; refine puu 5 35 ?_; refine puu 6 36 ?_; refine puu 7 37 ?_; refine puu 8 38 ?_; refine puu 9 39 ?_; refine puu 10 40 ?_; refine puu 11 41 ?_; refine puu 12 42 ?_; refine puu 13 43 ?_; refine pu 14 44 ?_; refine pu 15 45 ?_; refine puu 16 46 ?_; refine puu 17 47 ?_; refine puu 18 48 ?_; refine puu 19 49 ?_; refine puu 20 50 ?_; refine puu 21 51 ?_; refine puu 22 52 ?_; refine puu 23 53 ?_; refine puu 24 54 ?_; refine puu 25 55 ?_; refine puu 26 56 ?_; refine puu 27 57 ?_; refine puu 28 58 ?_; refine puu 29 59 ?_; refine puu 30 60 ?_; refine puu 31 61 ?_; refine puu 32 62 ?_; refine pu 33 63 ?_
       refine done_ (done_of HT_.out (by kernel_rfl)) ?_
       try go_wp2
       go_ret
       exact ⟨eq_, bel1 GE464.out⟩
      rw [if_neg c5] at H; have c5b0 := decide_eq_false c5; clear c5
      by_cases c36 : x3_1 > 0
      ·rw [if_pos c36] at H; have c36b0 := decide_eq_true c36; clear c36; obtain ⟨bq37, hbq37⟩ : ∃ b_ : Bool, b_ = ((rd_T95 l0 x3_1).f0) := ⟨_, rfl⟩
       replace H : (if (bq37 = true) then (spec_MachineOk.l0 k2 l0 (wrap64 (x3_1 + 1))) else (if (((rd_T95 l0 x3_1).f1).length : Int) = 0 then (some false) else (spec_MachineOk.l0 k2 l0 (wrap64 (x3_1 + 1))))) = some r := by rw [← hbq37] at H; exact H
       have Nbq37 := am hbq37; clear hbq37
       by_cases c38 : (bq37 = true)
       ·subst c38
        rw [if_pos rfl] at H
        have H' := am H
        clear H
        have p459 : 0 ≤ (x3_1 : Int) := of_decide_eq_true ad
        have q459 : x3_1 < (l0.length : Int) := of_decide_eq_true ad
        obtain ⟨ad459, A459_1, c459_1, e459, hx459_0, hx459_1, hl459_1, hi459_1⟩ := at_T95 HR0.out x3_1 p459 q459
        rw [← Nbq37.out] at hx459_0
        cases e459; replace hx459_0 := kp HB.out hx459_0; replace hx459_1 := kp HB.out hx459_1; have HR459_1 := am hi459_1; have HC459_1 := am hl459_1; clear hi459_1 hl459_1; replace p459 := eq_true p459; replace q459 := eq_true q459
        have p460 : 0 ≤ (x3_1 : Int) := of_decide_eq_true ad
        have q460 : x3_1 < (l0.length : Int) := of_decide_eq_true ad
        obtain ⟨ad460, A460_1, c460_1, e460, hx460_0, hx460_1, hl460_1, hi460_1⟩ := at_T95 HR0.out x3_1 p460 q460
        rw [← Nbq37.out] at hx460_0
        obtain rfl : ad459 = ad460 := (by injection e460)
        replace hx460_0 := kp HB.out hx460_0; replace hx460_1 := kp HB.out hx460_1; have HR460_1 := am hi460_1; have HC460_1 := am hl460_1; clear hi460_1 hl460_1; replace p460 := eq_true p460; replace q460 := eq_true q460; have ea_ := Option.some.inj (hx459_1.symm.trans hx460_1)
        injection ea_ with ea_ en_ ec_
        subst ea_; subst ec_; clear en_; go_wp2
        go_roundg k2
        case measure => have := HK1.out; have := HK2.out; omega
        case rel => exact ⟨(wrap64 (x3_1 + 1)), sq, H', ⟨b30_⟩, ⟨bel⟩⟩
       replace c38 := Bool.eq_false_iff.mpr c38; subst c38
       rw [if_neg Bool.false_ne_true] at H
       by_cases c39 : (((rd_T95 l0 x3_1).f1).length : Int) = 0
       ·rw [if_pos c39] at H
        have c39b0 : ((((rd_T95 l0 x3_1).f1).length : Int) == 0) = true := beq_iff_eq.mpr c39
        have c39b1 : ((((rd_T95 l0 x3_1).f1).length : Int) != 0) = false := bne_eq_false_iff_eq.mpr c39
        clear c39; obtain rfl := Option.some.inj H
        have p459 : 0 ≤ (x3_1 : Int) := of_decide_eq_true ad
        have q459 : x3_1 < (l0.length : Int) := of_decide_eq_true ad
        obtain ⟨ad459, A459_1, c459_1, e459, hx459_0, hx459_1, hl459_1, hi459_1⟩ := at_T95 HR0.out x3_1 p459 q459
        rw [← Nbq37.out] at hx459_0
        cases e459; replace hx459_0 := kp HB.out hx459_0; replace hx459_1 := kp HB.out hx459_1; have HR459_1 := am hi459_1; have HC459_1 := am hl459_1; clear hi459_1 hl459_1; replace p459 := eq_true p459; replace q459 := eq_true q459
        have p460 : 0 ≤ (x3_1 : Int) := of_decide_eq_true ad
        have q460 : x3_1 < (l0.length : Int) := of_decide_eq_true ad
        obtain ⟨ad460, A460_1, c460_1, e460, hx460_0, hx460_1, hl460_1, hi460_1⟩ := at_T95 HR0.out x3_1 p460 q460
        rw [← Nbq37.out] at hx460_0
        obtain rfl : ad459 = ad460 := (by injection e460)
        replace hx460_0 := kp HB.out hx460_0; replace hx460_1 := kp HB.out hx460_1; have HR460_1 := am hi460_1; have HC460_1 := am hl460_1; clear hi460_1 hl460_1; replace p460 := eq_true p460; replace q460 := eq_true q460; have ea_ := Option.some.inj (hx459_1.symm.trans hx460_1)
        injection ea_ with ea_ en_ ec_
        subst ea_; subst ec_; clear en_
        have p461 : 0 ≤ (x3_1 : Int) := of_decide_eq_true ad
        have q461 : x3_1 < (l0.length : Int) := of_decide_eq_true ad
        obtain ⟨ad461, A461_1, c461_1, e461, hx461_0, hx461_1, hl461_1, hi461_1⟩ := at_T95 HR0.out x3_1 p461 q461
        rw [← Nbq37.out] at hx461_0
        obtain rfl : ad459 = ad461 := (by injection e461)
        replace hx461_0 := kp HB.out hx461_0; replace hx461_1 := kp HB.out hx461_1; have HR461_1 := am hi461_1; have HC461_1 := am hl461_1; clear hi461_1 hl461_1; replace p461 := eq_true p461; replace q461 := eq_true q461; have ea_ := Option.some.inj (hx459_1.symm.trans hx461_1)
        injection ea_ with ea_ en_ ec_
        subst ea_; subst ec_; clear en_; go_wp2; go_ret
        exact ⟨eq_, bel⟩
       rw [if_neg c39] at H
       have c39b0 : ((((rd_T95 l0 x3_1).f1).length : Int) == 0) = false := beq_eq_false_iff_ne.mpr c39
       have c39b1 : ((((rd_T95 l0 x3_1).f1).length : Int) != 0) = true := bne_iff_ne.mpr c39
       have c39b2 : ¬ (((rd_T95 l0 x3_1).f1) = []) := fun h_ => c39 (by rw [h_]; rfl)
       have H' := am H
       clear H
       have p459 : 0 ≤ (x3_1 : Int) := of_decide_eq_true ad
       have q459 : x3_1 < (l0.length : Int) := of_decide_eq_true ad
       obtain ⟨ad459, A459_1, c459_1, e459, hx459_0, hx459_1, hl459_1, hi459_1⟩ := at_T95 HR0.out x3_1 p459 q459
       rw [← Nbq37.out] at hx459_0
       cases e459; replace hx459_0 := kp HB.out hx459_0; replace hx459_1 := kp HB.out hx459_1; have HR459_1 := am hi459_1; have HC459_1 := am hl459_1; clear hi459_1 hl459_1; replace p459 := eq_true p459; replace q459 := eq_true q459
       have p460 : 0 ≤ (x3_1 : Int) := of_decide_eq_true ad
       have q460 : x3_1 < (l0.length : Int) := of_decide_eq_true ad
       obtain ⟨ad460, A460_1, c460_1, e460, hx460_0, hx460_1, hl460_1, hi460_1⟩ := at_T95 HR0.out x3_1 p460 q460
       rw [← Nbq37.out] at hx460_0
       obtain rfl : ad459 = ad460 := (by injection e460)
       replace hx460_0 := kp HB.out hx460_0; replace hx460_1 := kp HB.out hx460_1; have HR460_1 := am hi460_1; have HC460_1 := am hl460_1; clear hi460_1 hl460_1; replace p460 := eq_true p460; replace q460 := eq_true q460; have ea_ := Option.some.inj (hx459_1.symm.trans hx460_1)
       injection ea_ with ea_ en_ ec_
       subst ea_; subst ec_; clear en_
       have p461 : 0 ≤ (x3_1 : Int) := of_decide_eq_true ad
       have q461 : x3_1 < (l0.length : Int) := of_decide_eq_true ad
       obtain ⟨ad461, A461_1, c461_1, e461, hx461_0, hx461_1, hl461_1, hi461_1⟩ := at_T95 HR0.out x3_1 p461 q461
       rw [← Nbq37.out] at hx461_0
       obtain rfl : ad459 = ad461 := (by injection e461)
       replace hx461_0 := kp HB.out hx461_0; replace hx461_1 := kp HB.out hx461_1; have HR461_1 := am hi461_1; have HC461_1 := am hl461_1; clear hi461_1 hl461_1; replace p461 := eq_true p461; replace q461 := eq_true q461; have ea_ := Option.some.inj (hx459_1.symm.trans hx461_1)
       injection ea_ with ea_ en_ ec_
       subst ea_; subst ec_; clear en_; go_wp2
       go_roundg k2
       case measure => have := HK1.out; have := HK2.out; omega
       case rel => exact ⟨(wrap64 (x3_1 + 1)), sq, H', ⟨b30_⟩, ⟨bel⟩⟩
      rw [if_neg c36] at H; have c36b0 := decide_eq_false c36; clear c36
      have H' := am H
      clear H
      have p459 : 0 ≤ (x3_1 : Int) := of_decide_eq_true ad
      have q459 : x3_1 < (l0.length : Int) := of_decide_eq_true ad
      obtain ⟨ad459, A459_1, c459_1, e459, hx459_0, hx459_1, hl459_1, hi459_1⟩ := at_T95 HR0.out x3_1 p459 q459; cases e459
      replace hx459_0 := kp HB.out hx459_0; replace hx459_1 := kp HB.out hx459_1; have HR459_1 := am hi459_1; have HC459_1 := am hl459_1; clear hi459_1 hl459_1; replace p459 := eq_true p459; replace q459 := eq_true q459; go_wp2
      go_roundg k2
      case measure => have := HK1.out; have := HK2.out; omega
      case rel => exact ⟨(wrap64 (x3_1 + 1)), sq, H', ⟨b30_⟩, ⟨bel⟩⟩
   rw [if_neg c2] at H; have c2b0 := decide_eq_false c2; clear c2; replace H := bs H; obtain ⟨t457, A400, H⟩ := H; have A40 := Aside0.mk A400; clear A400
   by_cases c41 : t457 = true
   ·subst c41
    rw [if_pos rfl] at H
    replace H := bs H; obtain ⟨t458, A420, H⟩ := H; have A42 := Aside0.mk A420; clear A420; obtain rfl := Option.some.inj H
    go_wp2_with (first | ((with_reducible refine gate_callee (f := 74) rfl ?_); refine gl 85 Try.func74 #[.int .i64 (l0.length : Int), .int .i64 1, .int .i64 400] ?_; (with_reducible refine (spec_l1In.calls (l0.length : Int) 1 400 true _ A40.out).mono ?_); rintro e w' ⟨rfl, ⟨nd, rfl⟩⟩; refine ⟨_, rfl, ?_⟩) | (go_at_call 75; (with_reducible refine (spec_l3Deep.calls k1 _ _ l0 t458 _ ?side1 ?side2 A42.out).mono ?_); (case side1 => exact cq (Kd.C_below HR0.out bel)); (case side2 => exact HC0.out); rintro e w43 ⟨rfl, hb⟩; replace HB := am (below_step bel hb); clear hb))
    go_ret
    exact ⟨eq_, bel⟩
   replace c41 := Bool.eq_false_iff.mpr c41; subst c41
   rw [if_neg Bool.false_ne_true] at H
   obtain rfl := Option.some.inj H
   go_wp2_with ((with_reducible refine gate_callee (f := 74) rfl ?_); refine gl 85 Try.func74 #[.int .i64 (l0.length : Int), .int .i64 1, .int .i64 400] ?_; (with_reducible refine (spec_l1In.calls (l0.length : Int) 1 400 false _ A40.out).mono ?_); rintro e w' ⟨rfl, ⟨nd, rfl⟩⟩; refine ⟨_, rfl, ?_⟩)
   go_ret
   exact ⟨eq_, bel⟩
-- shrunk

/-! ### spec_l3Counts: function 104 -/
mutual
def spec_l3Counts.l0 : Nat → List (S95) → List Int → Int → Option (List Int)
 | 0, _, _, _ => none
 | k + 1, x0, x3, x4 => if x4 ≥ 0 then (if 0 ≤ x4 then (if x4 < (x0.length : Int) then (if (rd_T95 x0 x4).f0 = true then (if x4 < (x3.length : Int) then (spec_l3Counts.j1 k x0 (x3.set (x4 : Int).toNat 1) x4) else (none)) else (spec_l3Counts.j1 k x0 x3 x4)) else (none)) else (none)) else (some x3)
def spec_l3Counts.j1 : Nat → List (S95) → List Int → Int → Option (List Int)
 | 0, _, _, _ => none
 | k + 1, x0, x3, x4 => spec_l3Counts.l1 k x0 x3 x4 0
def spec_l3Counts.l1 : Nat → List (S95) → List Int → Int → Int → Option (List Int)
 | 0, _, _, _, _ => none
 | k + 1, x0, x3, x4, x5 => if 0 ≤ x4 then (if x4 < (x0.length : Int) then (if x5 < (((rd_T95 x0 x4).f1).length : Int) then (if x4 < (x3.length : Int) then (if 0 ≤ x5 then (if 0 ≤ ((rd_T97 ((rd_T95 x0 x4).f1) x5).f1) then (if ((rd_T97 ((rd_T95 x0 x4).f1) x5).f1) < (x3.length : Int) then ((spec_l1Least.f (wrap64 ((rd x3 x4) + (rd x3 ((rd_T97 ((rd_T95 x0 x4).f1) x5).f1)))) 1000000000).bind fun t479 => (spec_l3Counts.l1 k x0 (x3.set (x4 : Int).toNat t479) x4 (wrap64 (x5 + 1)))) else (none)) else (none)) else (none)) else (none)) else (spec_l3Counts.l0 k x0 x3 (wrap64 (x4 - 1)))) else (none)) else (none)
end
def spec_l3Counts.f (k : Nat) (l0 : List (S95)) : Option (List Int) := if 0 ≤ (l0.length : Int) then (if l0.length ≤ 35184372088832 then (spec_l3Counts.l0 k l0 (List.replicate l0.length 0) (wrap64 ((l0.length : Int) - 1))) else (none)) else (none)
def spec_l3Counts.T10 : Bool × List (List Nat × List Nat) := (true, [([], []), ([], []), ([], []), ([], []), ([2, 3], [2, 3]), ([4], [4]), ([], []), ([], []), ([], []), ([7, 8], [7, 8]), ([9], [9]), ([10], [10]), ([], []), ([11, 12], [11, 12]), ([13], [13]), ([14], [14]), ([6, 15], [6, 15]), ([16], [16]), ([5, 17], [5, 17]), ([18], [18]), ([0, 1, 0, 1, 2, 3, 4, 5, 6, 7, 8, 9, 10, 11, 12, 13, 14, 15, 16, 17, 18, 19], [0, 1]), ([20, 19, 19, 0, 1, 2, 3, 4, 5, 6, 7, 8, 9, 10, 11, 12, 13, 14, 15, 16, 17, 18, 19], [19, 20])])
def spec_l3Counts.B10 : List Nat := [0, 0, 0, 0, 12, 28, 0, 0, 0, 384, 896, 1920, 0, 8064, 16256, 32640, 65472, 131008, 262140, 524284, 1048575, 2097151]
theorem spec_l3Counts.tab10 : rtab .any (opsOf Try.f104 10) = spec_l3Counts.T10 := by kernel_rfl
theorem spec_l3Counts.bits10 : waitsOk spec_l3Counts.T10.2 spec_l3Counts.B10 = true := by kernel_rfl
theorem spec_l3Counts.calls (k : Nat) (A0 : Option Addr) (c0 : Nat) (l0 : List (S95)) (r : List Int) (w : World) (hr0 : Kd.C k95 w A0 l0.length l0) (hc0 : l0.length ≤ c0) (h : spec_l3Counts.f k l0 = some r) :
  Calls Try.prog 104 #[.slice A0 l0.length c0] w fun e w' => ∃ v0_ : Value, e = .returned (v0_) ∧ Kd.R (Kd.int .i64) 3 w' w.heap.size (fun _ => True) v0_ r ∧ Below w.heap.size w w' := by
 have HR0 := am hr0; have HC0 := am hc0; clear hr0 hc0; have HB := am (Below.refl w.heap.size w)
 have H := h; unfold spec_l3Counts.f at H
 clear h
 replace H := ip H; obtain ⟨c2, H⟩ := H; have c2b0 := eq_true c2
 have c2b1 : decide (0 ≤ (l0.length : Int)) = true := decide_eq_true c2
 clear c2
 replace H := ip H; obtain ⟨c3, H⟩ := H; have c3b0 := eq_true c3
 have c3b1 : decide (l0.length ≤ 35184372088832) = true := decide_eq_true c3
 clear c3; obtain ⟨y469, hy469⟩ : ∃ y_ : List Int, y_ = (List.replicate l0.length 0) := ⟨_, rfl⟩
 rw [← hy469] at H
 have Ny469 := am hy469; clear hy469
 have H' := am H
 clear H; go_enter Try.func104, Try.ntmps104
 go_wp2_with ((with_reducible refine gate_dst (N := 8) rfl ?_); refine Kd.R_make (Kd.int .i64) _ 3 rfl (N := 8) rfl 99 _ _ rfl (l0.length : Int) rfl rfl Try.underlying99 (.int .i64 0) 8 info3 rfl (by decide) (by omega) 0 (ok := fun _ => True) (okp := fun _ => True) rfl (fun _ hk => hk) trivial (of_decide_eq_true ad) (Nat.le_trans (Nat.mul_le_mul_right _ (of_decide_eq_true ad : (l0.length : Int).toNat ≤ 35184372088832)) (by omega)) (Below.refl _ _) (Nat.le_refl _) ?_; intro v470 w4 ho5 hb hg_ hnew_; clear hg_ hnew_; (simp only [Int.toNat_natCast] at ho5; rw [← Ny469.out] at ho5); have HO471 := am (Kd.R_lower ho5 (below_size bel)); replace HB := am (below_step bel hb); clear hb ho5)
 go_loopg [4] k (fun kq v4 w' => ∃ (x3_1 : List Int) (x4_1 : Int), v4 = .int .i64 x4_1 ∧ Aside0 (spec_l3Counts.l0 kq l0 x3_1 x4_1 = some r) ∧ Aside0 (kq ≤ k) ∧ Aside0 (Kd.R (Kd.int .i64) 3 w' w.heap.size (fun _ => True) v470 x3_1) ∧ Aside0 (Below w.heap.size w w'))
 case atStart => exact ⟨(y469), (wrap64 ((l0.length : Int) - 1)), sq, H', ⟨Nat.le_refl _⟩, ⟨rq HO471.out⟩, ⟨bel⟩⟩
 case round =>
  clear H'; clear c2b0 c2b1 c3b0 c3b1; obtain ⟨x3_1, x4_1, rfl, HA, HK1, HO_3, HB⟩ := hrel
  cases gk with
  | zero => exact absurd HA.out (by simp [spec_l3Counts.l0])
  | succ k1 =>
   have H := HA.out; clear HA; simp only [spec_l3Counts.l0] at H
   by_cases c6 : x4_1 ≥ 0
   ·rw [if_pos c6] at H; have c6b0 := decide_eq_true c6; clear c6
    replace H := it H; obtain ⟨c7b0, H⟩ := H; replace H := it H; obtain ⟨c8b0, H⟩ := H; have HC9 := am H; clear H
    have p472 : 0 ≤ (x4_1 : Int) := of_decide_eq_true ad
    have q472 : x4_1 < (l0.length : Int) := of_decide_eq_true ad
    obtain ⟨ad472, A472_1, c472_1, e472, hx472_0, hx472_1, hl472_1, hi472_1⟩ := at_T95 HR0.out x4_1 p472 q472; cases e472; replace hx472_0 := kp HB.out hx472_0; replace hx472_1 := kp HB.out hx472_1; have HR472_1 := am hi472_1; have HC472_1 := am hl472_1; clear hi472_1 hl472_1; replace p472 := eq_true p472; replace q472 := eq_true q472
    go_upto_if 20 with (fail)
    go_cut [] (fun wc => ∃ (kq : Nat) (x3_8 : List Int), Aside0 (spec_l3Counts.j1 kq l0 x3_8 x4_1 = some r) ∧ Aside0 (kq ≤ k1) ∧ Aside0 (Kd.R (Kd.int .i64) 3 wc w.heap.size (fun _ => True) v470 x3_8) ∧ Aside0 (Below w.heap.size w wc))
    case first =>
     have H := HC9.out; clear HC9; obtain ⟨bq10, hbq10⟩ : ∃ b_ : Bool, b_ = ((rd_T95 l0 x4_1).f0) := ⟨_, rfl⟩
     replace H : (if bq10 = true then (if x4_1 < (x3_1.length : Int) then (spec_l3Counts.j1 k1 l0 (x3_1.set (x4_1 : Int).toNat 1) x4_1) else (none)) else (spec_l3Counts.j1 k1 l0 x3_1 x4_1)) = some r := by rw [← hbq10] at H; exact H
     have Nbq10 := am hbq10; clear hbq10
     rw [← Nbq10.out]
     by_cases c11 : bq10 = true
     ·subst c11
      rw [if_pos rfl] at H
      replace H := it H; obtain ⟨c12b0, H⟩ := H; obtain ⟨y473, hy473⟩ : ∃ y_ : List Int, y_ = (x3_1.set (x4_1 : Int).toNat 1) := ⟨_, rfl⟩
      rw [← hy473] at H
      have Ny473 := am hy473; clear hy473
      have H' := am H
      clear H
      have p13 : 0 ≤ (x4_1 : Int) := of_decide_eq_true ad
      have q13 : (x4_1 : Int) < ((x3_1.length : Int) : Int) := of_decide_eq_true ad
      obtain ⟨go13, co13, eo13, gb13, gl13, cl13, HG13⟩ := Kd.R_form HO_3.out (by omega)
      (cases eo13)
      have GB13 := Aside0.mk gb13; have GG13 := am HG13; clear gb13 gl13 HG13; obtain ⟨hx13_0, hf13_0⟩ := Kd.R_celln 0 HO_3.out (x4_1 : Int) p13 q13; replace p13 := eq_true p13; replace q13 := eq_true q13; have HP14 := Kd.R_putg HO_3.out (x4_1 : Int) 1
      go_wp2_with ((with_reducible refine gate_store (t := 3) (p := 23) rfl ?_); refine store_event (t := 3) (p := 23) (v := ?vo_w15) (w1 := (wr.setCell ⟨go13, (x4_1 : Int).toNat, none⟩ (.int .i64 1))) ?hg ?ho ?hn ?hr ?_; (case ho => rfl); (case hg => rfl); (case hn => rfl); (case hr => (go_simp; done)); intro w15 hw; have hg : wr.grownBy w15 (some go13) := (by rw [hw]; exact HP14.2); have hp_ : Kd.R (Kd.int .i64) 3 w15 w.heap.size (fun _ => True) (.slice (some ⟨go13, 0, none⟩) x3_1.length co13) y473 := (by rw [hw, Ny473.out]; exact HP14.1); clear HP14; replace HO_3 := am (hp_); replace HB := am ((by rw [hw]; exact below_set (HB.out) GB13.out : Below w.heap.size w w15)); clear hg hw hp_)
      go_meet
      case rel => exact ⟨_, (y473), H', ⟨b39_⟩, ⟨rq HO_3.out⟩, ⟨bel⟩⟩
     replace c11 := Bool.eq_false_iff.mpr c11; subst c11
     rw [← Nbq10.out] at hx472_0
     rw [if_neg Bool.false_ne_true] at H
     have H' := am H
     clear H; go_wp2
     go_meet
     case rel => exact ⟨_, (x3_1), H', ⟨b39_⟩, ⟨rq HO_3.out⟩, ⟨bel⟩⟩
    case rest =>
     clear HC9; clear c6b0 c7b0 c8b0 hx472_0 hx472_1 p472 q472; obtain ⟨kq, x3_8, HA, HJ8, HO_3, HB⟩ := hcut
     cases kq with
     | zero => exact absurd HA.out (by simp [spec_l3Counts.j1])
     | succ kj8 =>
      have H := HA.out; clear HA; simp only [spec_l3Counts.j1] at H
      have H' := am H
      clear H; go_wp2
      go_loopg [5] kj8 (fun kq v5 w' => ∃ (x3_3 : List Int) (x5_3 : Int), v5 = .int .i64 x5_3 ∧ Aside0 (spec_l3Counts.l1 kq l0 x3_3 x4_1 x5_3 = some r) ∧ Aside0 (kq ≤ kj8) ∧ Aside0 (Kd.R (Kd.int .i64) 3 w' w.heap.size (fun _ => True) v470 x3_3) ∧ Aside0 (Below w.heap.size w w'))
      case atStart => exact ⟨(x3_8), (0), sq, H', ⟨Nat.le_refl _⟩, ⟨rq HO_3.out⟩, ⟨bel⟩⟩
      case round =>
       clear H'; obtain ⟨x3_3, x5_3, rfl, HA, HK3, HO_3, HB⟩ := hrel
       cases gk with
       | zero => exact absurd HA.out (by simp [spec_l3Counts.l1])
       | succ k3 =>
        have H := HA.out; clear HA; simp only [spec_l3Counts.l1] at H; replace H := it H; obtain ⟨c16b0, H⟩ := H; replace H := it H; obtain ⟨c17b0, H⟩ := H
        by_cases c18 : x5_3 < (((rd_T95 l0 x4_1).f1).length : Int)
        ·rw [if_pos c18] at H; have c18b0 := decide_eq_true c18; clear c18
         replace H := it H; obtain ⟨c19b0, H⟩ := H; replace H := it H; obtain ⟨c20b0, H⟩ := H; replace H := it H; obtain ⟨c21b0, H⟩ := H
         replace H := it H; obtain ⟨c22b0, H⟩ := H; replace H := bs H; obtain ⟨t479, A230, H⟩ := H; have A23 := Aside0.mk A230; clear A230; obtain ⟨y480, hy480⟩ : ∃ y_ : List Int, y_ = (x3_3.set (x4_1 : Int).toNat t479) := ⟨_, rfl⟩
         rw [← hy480] at H
         have Ny480 := am hy480; clear hy480
         have H' := am H
         clear H
         have p474 : 0 ≤ (x4_1 : Int) := of_decide_eq_true ad
         have q474 : x4_1 < (l0.length : Int) := of_decide_eq_true ad
         obtain ⟨ad474, A474_1, c474_1, e474, hx474_0, hx474_1, hl474_1, hi474_1⟩ := at_T95 HR0.out x4_1 p474 q474
         obtain rfl : ad472 = ad474 := (by injection e474)
         replace hx474_0 := kp HB.out hx474_0; replace hx474_1 := kp HB.out hx474_1; have HR474_1 := am hi474_1; have HC474_1 := am hl474_1; clear hi474_1 hl474_1; replace p474 := eq_true p474; replace q474 := eq_true q474
         try go_wp2
         replace HO_3 := am (Kd.R_drew HO_3.out); replace HB := am (below_drew1 HB.out); obtain ⟨Ao26, co26, eo26⟩ := Kd.R_slice HO_3.out
         (subst eo26)
         have p475 : 0 ≤ (x4_1 : Int) := of_decide_eq_true ad
         have q475 : x4_1 < (x3_3.length : Int) := of_decide_eq_true ad
         obtain ⟨ad475, e475, hx475_0⟩ := Kd.at_int (Kd.R_reads' HO_3.out).2.2 x4_1 p475 q475; cases e475; replace p475 := eq_true p475; replace q475 := eq_true q475
         have p476 : 0 ≤ (x4_1 : Int) := of_decide_eq_true ad
         have q476 : x4_1 < (l0.length : Int) := of_decide_eq_true ad
         obtain ⟨ad476, A476_1, c476_1, e476, hx476_0, hx476_1, hl476_1, hi476_1⟩ := at_T95 HR0.out x4_1 p476 q476; have hw476_1 := hx476_1; have hw476_0 := hx476_0
         obtain rfl : ad472 = ad476 := (by injection e476)
         replace hx476_0 := kp HB.out hx476_0; replace hx476_1 := kp HB.out hx476_1; have HR476_1 := am hi476_1; have HC476_1 := am hl476_1; clear hi476_1 hl476_1; replace p476 := eq_true p476; replace q476 := eq_true q476
         have p477 : 0 ≤ (x5_3 : Int) := of_decide_eq_true ad
         have q477 : x5_3 < (((rd_T95 l0 x4_1).f1).length : Int) := of_decide_eq_true ad
         obtain ⟨ad477, e477, hx477_0, hx477_1⟩ := at_T97 HR476_1.out x5_3 p477 q477; have hw477_1 := hx477_1; have hw477_0 := hx477_0; cases e477; replace hx477_0 := kp HB.out hx477_0; replace hx477_1 := kp HB.out hx477_1; replace p477 := eq_true p477; replace q477 := eq_true q477
         have p478 : 0 ≤ (((rd_T97 ((rd_T95 l0 x4_1).f1) x5_3).f1) : Int) := of_decide_eq_true ad
         have q478 : ((rd_T97 ((rd_T95 l0 x4_1).f1) x5_3).f1) < (x3_3.length : Int) := of_decide_eq_true ad
         obtain ⟨ad478, e478, hx478_0⟩ := Kd.at_int (Kd.R_reads' HO_3.out).2.2 ((rd_T97 ((rd_T95 l0 x4_1).f1) x5_3).f1) p478 q478
         obtain rfl : ad475 = ad478 := (by injection e478)
         replace p478 := eq_true p478; replace q478 := eq_true q478
         refine start_ (n := 22) (S := fun w' => w'.cell? (ad475.add (x4_1).toNat) = some (.int .i64 (rd x3_3 x4_1)) ∧ w'.cell? (ad472.add ((x4_1).toNat * 2)) = some (.bool ((rd_T95 l0 x4_1).f0)) ∧ w'.cell? ⟨(ad472.add ((x4_1).toNat * 2)).block, (ad472.add ((x4_1).toNat * 2)).off + 1, none⟩ = some (.slice (some ad477) ((rd_T95 l0 x4_1).f1).length c476_1) ∧ w'.cell? (ad477.add ((x5_3).toNat * 2)) = some (.int .i64 ((rd_T97 ((rd_T95 l0 x4_1).f1) x5_3).f0)) ∧ w'.cell? ⟨(ad477.add ((x5_3).toNat * 2)).block, (ad477.add ((x5_3).toNat * 2)).off + 1, none⟩ = some (.int .i64 ((rd_T97 ((rd_T95 l0 x4_1).f1) x5_3).f1)) ∧ w'.cell? (ad475.add (((rd_T97 ((rd_T95 l0 x4_1).f1) x5_3).f1)).toNat) = some (.int .i64 (rd x3_3 ((rd_T97 ((rd_T95 l0 x4_1).f1) x5_3).f1)))) (ds := [21]) #[false, false, false, false, false, false, false, false, false, false, false, false, false, false, false, false, false, false, false, false, false, false] (by kernel_rfl) rfl rfl ⟨hx475_0, (kp HB.out hw476_0), (kp HB.out hw476_1), (kp HB.out hw477_0), (kp HB.out hw477_1), hx478_0⟩ (fun hHeld => ?_); refine with_tabW spec_l3Counts.tab10 spec_l3Counts.bits10 (fun HT_ HW_ => ?_)
         generalize wr.drew = w25 at HO_3 HB HR476_1 hx475_0 hx476_0 hx476_1 hx477_0 hx477_1 hx478_0 hHeld ⊢; refine pu 0 34 ?_; refine pu 1 35 ?_; refine pu 2 36 ?_; refine pu 3 37 ?_; refine pu 4 38 ?_; refine pu 6 40 ?_; refine pu 7 41 ?_; refine pu 8 42 ?_; refine pu 9 43 ?_; refine pu 10 44 ?_; refine pu 12 46 ?_; refine tk6 5 39 hHeld ?_; refine tk6 11 45 hHeld ?_; refine pu 13 47 ?_; refine pu 14 48 ?_; refine tk6 15 49 hHeld ?_; refine pu 16 50 ?_; refine tk6 17 51 hHeld ?_; refine pu 18 52 ?_; refine on1 19 53 (fun K hK => ?_)
         refine go1 Try.func126 #[.int .i64 (wrap64 ((rd x3_3 x4_1) + (rd x3_3 ((rd_T97 ((rd_T95 l0 x4_1).f1) x5_3).f1)))), .int .i64 1000000000] ?_
         with_reducible refine (spec_l1Least.calls (wrap64 ((rd x3_3 x4_1) + (rd x3_3 ((rd_T97 ((rd_T95 l0 x4_1).f1) x5_3).f1)))) 1000000000 t479 _ A23.out).mono ?_
         rintro e w' ⟨rfl, ⟨nd, rfl⟩⟩
         refine ⟨_, rfl, ?_⟩
         have p24 : 0 ≤ (x4_1 : Int) := of_decide_eq_true ad
         have q24 : (x4_1 : Int) < ((x3_3.length : Int) : Int) := of_decide_eq_true ad
         obtain ⟨go24, co24, eo24, gb24, gl24, cl24, HG24⟩ := Kd.R_form HO_3.out (by omega)
         (cases eo24)
         have GB24 := Aside0.mk gb24; have GG24 := am HG24; clear gb24 gl24 HG24
         (simp only [add_plain] at hx475_0)
         (simp only [add_plain] at hx478_0)
         obtain ⟨hx24_0, hf24_0⟩ := Kd.R_celln 0 HO_3.out (x4_1 : Int) p24 q24; replace p24 := eq_true p24; replace q24 := eq_true q24; have HP27 := Kd.R_putn HO_3.out (x4_1 : Int) t479; rw [← Ny480.out] at HP27; have HQ27 := am HP27; clear HP27
         refine hK.out _ _ ⟨hHeld.1, (kp HB.out hw476_0), (kp HB.out hw476_1), (kp HB.out hw477_0), (kp HB.out hw477_1), hHeld.2.2.2.2.2⟩ (fun hHeld => ?_); clear hK K; refine nm 53 ?_; refine pu 20 54 ?_
         refine last_ (i := 21) (N := none) #[true, true, true, true, true, true, true, true, true, true, true, true, true, true, true, true, true, true, true, true, true, true] rfl rfl (one_of HT_.out (by kernel_rfl)) (by decide) (fun K hK => ?_)
         refine skip_ (w1 := ?_) (by rfl) rfl ?_ ?_
         rotate_left
         ·go_simp
          rfl
         refine hK.out _ _ ?_; clear hK K
         refine done_ (done_of HT_.out (by kernel_rfl)) ?_
         try go_wp2
         go_roundg k3
         case measure => have := HK1.out; have := HJ8.out; have := HK3.out; omega
         case rel => exact ⟨(y480), (wrap64 (x5_3 + 1)), sq, H', ⟨b105_⟩, ⟨rq HQ27.out⟩, ⟨bel1 GB24.out⟩⟩
        rw [if_neg c18] at H; have c18b0 := decide_eq_false c18; clear c18
        have H' := am H
        clear H
        have p474 : 0 ≤ (x4_1 : Int) := of_decide_eq_true ad
        have q474 : x4_1 < (l0.length : Int) := of_decide_eq_true ad
        obtain ⟨ad474, A474_1, c474_1, e474, hx474_0, hx474_1, hl474_1, hi474_1⟩ := at_T95 HR0.out x4_1 p474 q474
        obtain rfl : ad472 = ad474 := (by injection e474)
        replace hx474_0 := kp HB.out hx474_0; replace hx474_1 := kp HB.out hx474_1; have HR474_1 := am hi474_1; have HC474_1 := am hl474_1; clear hi474_1 hl474_1; replace p474 := eq_true p474; replace q474 := eq_true q474; go_wp2
        go_roundg k3
        case measure => have := HK1.out; have := HJ8.out; have := HK3.out; omega
        case rel => exact ⟨(x3_3), (wrap64 (x4_1 - 1)), sq, H', ⟨b105_⟩, ⟨rq HO_3.out⟩, ⟨bel⟩⟩
   rw [if_neg c6] at H; have c6b0 := decide_eq_false c6; clear c6; obtain rfl := Option.some.inj H; go_wp2; go_ret
   exact ⟨_, eq_, b86_, bel⟩

/-! ### spec_l3Small: function 65 -/
def spec_l3Small.f (k : Nat) (l0 : List (S95)) : Option (Bool) := (spec_MachineOk.f k l0).bind fun t481 => (if t481 = true then ((spec_l3Counts.f k l0).bind fun t482 => (if 0 < (t482.length : Int) then (some (decide ((rd t482 0) < 1000000000))) else (none))) else (some false))
theorem spec_l3Small.calls (k : Nat) (A0 : Option Addr) (c0 : Nat) (l0 : List (S95)) (r : Bool) (w : World) (hr0 : Kd.C k95 w A0 l0.length l0) (hc0 : l0.length ≤ c0) (h : spec_l3Small.f k l0 = some r) :
  Calls Try.prog 65 #[.slice A0 l0.length c0] w fun e w' => e = .returned (.bool r) ∧ Below w.heap.size w w' := by
 have HR0 := am hr0; have HC0 := am hc0; clear hr0 hc0; have HB := am (Below.refl w.heap.size w)
 have H := h; unfold spec_l3Small.f at H
 clear h; replace H := bs H; obtain ⟨t481, A20, H⟩ := H; have A2 := Aside0.mk A20; clear A20
 by_cases c3 : t481 = true
 ·subst c3
  rw [if_pos rfl] at H
  replace H := bs H; obtain ⟨t482, A40, H⟩ := H; have A4 := Aside0.mk A40; clear A40
  replace H := ip H; obtain ⟨c5, H⟩ := H; have c5b0 := decide_eq_true c5
  have c5b1 : decide (0 < t482.length) = true := decide_eq_true (by omega)
  clear c5; obtain rfl := Option.some.inj H; go_enter Try.func65, Try.ntmps65
  go_wp2_with (first | ((with_reducible refine gate_callee (f := 25) rfl ?_); refine gl 4 Try.func25 #[.slice A0 l0.length c0] ?_; (with_reducible refine (spec_MachineOk.calls k _ _ l0 true _ ?side1 ?side2 A2.out).mono ?_); (case side1 => repeat (exact HR0.out)); (case side2 => exact HC0.out); rintro e w6 ⟨rfl, hb⟩; refine ⟨_, rfl, ?_⟩; replace HB := am (below_step bel hb); clear hb) | (go_at_call 104; (with_reducible refine (spec_l3Counts.calls k _ _ l0 t482 _ ?side1 ?side2 A4.out).mono ?_); (case side1 => exact cq (Kd.C_below HR0.out HB.out)); (case side2 => exact HC0.out); rintro e w7 ⟨v483, rfl, ho0, hb⟩; have HO484 := am (Kd.R_lower ho0 (below_size bel)); replace HB := am (below_step bel hb); clear hb; clear ho0; obtain ⟨Ao8, co8, eo8⟩ := Kd.R_slice HO484.out; subst eo8; have p485 : 0 ≤ (0 : Int) := (by omega); have q485 : 0 < (t482.length : Int) := of_decide_eq_true ad; obtain ⟨ad485, e485, hx485_0⟩ := Kd.at_int (Kd.R_reads' HO484.out).2.2 0 p485 q485; cases e485; have qi485 : (0 < t482.length) = True := eq_true (by omega); rw [show ((0 : Int)).toNat = 0 from rfl] at hx485_0; rw [Addr.add_zero'] at hx485_0; replace p485 := eq_true p485; replace q485 := eq_true q485))
  go_ret
  exact ⟨eq_, bel⟩
 replace c3 := Bool.eq_false_iff.mpr c3; subst c3
 rw [if_neg Bool.false_ne_true] at H
 obtain rfl := Option.some.inj H; go_enter Try.func65, Try.ntmps65
 go_wp2_with ((with_reducible refine gate_callee (f := 25) rfl ?_); refine gl 4 Try.func25 #[.slice A0 l0.length c0] ?_; (with_reducible refine (spec_MachineOk.calls k _ _ l0 false _ ?side1 ?side2 A2.out).mono ?_); (case side1 => repeat (exact HR0.out)); (case side2 => exact HC0.out); rintro e w9 ⟨rfl, hb⟩; refine ⟨_, rfl, ?_⟩; replace HB := am (below_step bel hb); clear hb)
 go_ret
 exact ⟨eq_, bel⟩

/-! ### spec_MachineCount: function 66 -/
def spec_MachineCount.f (k : Nat) (l0 : List (S95)) : Option (Int) := (spec_MachineOk.f k l0).bind fun t486 => (if t486 = true then ((spec_l3Counts.f k l0).bind fun t487 => (if 0 < (t487.length : Int) then (some (rd t487 0)) else (none))) else (some 0))
theorem spec_MachineCount.calls (k : Nat) (A0 : Option Addr) (c0 : Nat) (l0 : List (S95)) (r : Int) (w : World) (hr0 : Kd.C k95 w A0 l0.length l0) (hc0 : l0.length ≤ c0) (h : spec_MachineCount.f k l0 = some r) :
  Calls Try.prog 66 #[.slice A0 l0.length c0] w fun e w' => e = .returned (.int .i64 r) ∧ Below w.heap.size w w' := by
 have HR0 := am hr0; have HC0 := am hc0; clear hr0 hc0; have HB := am (Below.refl w.heap.size w)
 have H := h; unfold spec_MachineCount.f at H
 clear h; replace H := bs H; obtain ⟨t486, A20, H⟩ := H; have A2 := Aside0.mk A20; clear A20
 by_cases c3 : t486 = true
 ·subst c3
  rw [if_pos rfl] at H
  replace H := bs H; obtain ⟨t487, A40, H⟩ := H; have A4 := Aside0.mk A40; clear A40
  replace H := ip H; obtain ⟨c5, H⟩ := H; have c5b0 := decide_eq_true c5
  have c5b1 : decide (0 < t487.length) = true := decide_eq_true (by omega)
  clear c5; obtain rfl := Option.some.inj H; go_enter Try.func66, Try.ntmps66
  go_wp2_with (first | ((with_reducible refine gate_callee (f := 25) rfl ?_); refine gl 4 Try.func25 #[.slice A0 l0.length c0] ?_; (with_reducible refine (spec_MachineOk.calls k _ _ l0 true _ ?side1 ?side2 A2.out).mono ?_); (case side1 => repeat (exact HR0.out)); (case side2 => exact HC0.out); rintro e w6 ⟨rfl, hb⟩; refine ⟨_, rfl, ?_⟩; replace HB := am (below_step bel hb); clear hb) | ((with_reducible refine gate_callee (f := 104) rfl ?_); refine gl 7 Try.func104 #[.slice A0 l0.length c0] ?_; (with_reducible refine (spec_l3Counts.calls k _ _ l0 t487 _ ?side1 ?side2 A4.out).mono ?_); (case side1 => exact cq (Kd.C_below HR0.out HB.out)); (case side2 => exact HC0.out); rintro e w7 ⟨v488, rfl, ho0, hb⟩; refine ⟨_, rfl, ?_⟩; have HO489 := am (Kd.R_lower ho0 (below_size bel)); replace HB := am (below_step bel hb); clear hb; clear ho0; obtain ⟨Ao8, co8, eo8⟩ := Kd.R_slice HO489.out; subst eo8; have p490 : 0 ≤ (0 : Int) := (by omega); have q490 : 0 < (t487.length : Int) := of_decide_eq_true ad; obtain ⟨ad490, e490, hx490_0⟩ := Kd.at_int (Kd.R_reads' HO489.out).2.2 0 p490 q490; cases e490; have qi490 : (0 < t487.length) = True := eq_true (by omega); rw [show ((0 : Int)).toNat = 0 from rfl] at hx490_0; rw [Addr.add_zero'] at hx490_0; replace p490 := eq_true p490; replace q490 := eq_true q490))
  go_ret
  exact ⟨eq_, bel⟩
 replace c3 := Bool.eq_false_iff.mpr c3; subst c3
 rw [if_neg Bool.false_ne_true] at H
 obtain rfl := Option.some.inj H; go_enter Try.func66, Try.ntmps66
 go_wp2_with ((with_reducible refine gate_callee (f := 25) rfl ?_); refine gl 4 Try.func25 #[.slice A0 l0.length c0] ?_; (with_reducible refine (spec_MachineOk.calls k _ _ l0 false _ ?side1 ?side2 A2.out).mono ?_); (case side1 => repeat (exact HR0.out)); (case side2 => exact HC0.out); rintro e w9 ⟨rfl, hb⟩; refine ⟨_, rfl, ?_⟩; replace HB := am (below_step bel hb); clear hb)
 go_ret
 exact ⟨eq_, bel⟩
end Go.Proofs.Ytdfnijaacnlfaaa.QFnMachineGuesses

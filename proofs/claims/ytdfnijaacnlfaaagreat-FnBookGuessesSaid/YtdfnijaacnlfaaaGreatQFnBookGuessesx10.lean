import Derived.Test.YtdfnijaacnlfaaaGreatQFnBookGuessesx0
import Derived.Test.YtdfnijaacnlfaaaGreatQFnBookGuessesx6
import Derived.Test.YtdfnijaacnlfaaaGreatQFnBookGuessesx7
import Derived.Test.YtdfnijaacnlfaaaGreatVMSh2
namespace Go.Proofs.YtdfnijaacnlfaaaGreat.QFnBookGuesses
open Go.RowKit Go.Proofs.YtdfnijaacnlfaaaGreatW.PrintWords Go.Proofs.YtdfnijaacnlfaaaGreatW.PrintLast Go.Proofs.YtdfnijaacnlfaaaGreatW.PrintMore Go.Proofs.YtdfnijaacnlfaaaGreat.Sh
attribute [local go_sem] max2_int min2_int max_two min_two max_three min_three max_four min_four
set_option linter.unusedVariables false
set_option linter.unusedSimpArgs false
set_option maxHeartbeats 8000000
set_option maxRecDepth 100000
-- shrunk

/-! ### spec_l13Other: function 15 -/
def spec_l13Other.j0 : Nat → ByteArray → Bool → List Int → Int → Option (ByteArray × Int)
 | 0, _, _, _, _ => none
 | k + 1, x1, x12, x1000, x1001 => if x12 = true then ((spec_l1Near.f k x1).bind fun t311 => ((spec_l1Rd_pick.f k x1000 x1001 256).bind fun bt314 => ((spec_l1Rd_pick.f k x1000 bt314.2 256).bind fun bt316 => (if (t311.length : Int) = 0 then (none) else (if 0 ≤ (Int.tmod (wrap64 ((wrap64 (bt314.1 * 256)) + bt316.1)) (t311.length : Int)) then (if (Int.tmod (wrap64 ((wrap64 (bt314.1 * 256)) + bt316.1)) (t311.length : Int)) < (t311.length : Int) then ((spec_l1Rd_pick.f k x1000 bt316.2 3).bind fun bt319 => (if bt319.1 = 0 then ((spec_l1Near.f k (rdOf ByteArray.empty t311 (Int.tmod (wrap64 ((wrap64 (bt314.1 * 256)) + bt316.1)) (t311.length : Int)))).bind fun t321 => ((spec_l1Rd_pick.f k x1000 bt319.2 256).bind fun bt324 => ((spec_l1Rd_pick.f k x1000 bt324.2 256).bind fun bt326 => (if (t321.length : Int) = 0 then (none) else (if 0 ≤ (Int.tmod (wrap64 ((wrap64 (bt324.1 * 256)) + bt326.1)) (t321.length : Int)) then (if (Int.tmod (wrap64 ((wrap64 (bt324.1 * 256)) + bt326.1)) (t321.length : Int)) < (t321.length : Int) then (some (rdOf ByteArray.empty t321 (Int.tmod (wrap64 ((wrap64 (bt324.1 * 256)) + bt326.1)) (t321.length : Int)), bt326.2)) else (none)) else (none)))))) else (some (rdOf ByteArray.empty t311 (Int.tmod (wrap64 ((wrap64 (bt314.1 * 256)) + bt316.1)) (t311.length : Int)), bt319.2)))) else (none)) else (none)))))) else ((spec_l13AnyWord.f k x1000 x1001).bind fun bt329 => (some (bt329.1, bt329.2)))
def spec_l13Other.f (k : Nat) (s0_0 : List Int) (s0_1 : Int) (a1 : ByteArray) : Option (ByteArray × Int) := (spec_l1Word.f k a1).bind fun t308 => (if t308 = true then ((spec_l1Rd_pick.f k s0_0 s0_1 2).bind fun bt309 => (spec_l13Other.j0 k a1 (bt309.1 == 0) s0_0 bt309.2)) else (spec_l13Other.j0 k a1 false s0_0 s0_1))
theorem spec_l13Other.calls (k : Nat) (g : Nat) (s0_0 : List Int) (s0_1 : Int) (a1 : ByteArray) (r1 : ByteArray) (r2 : Int) (w0 w : World) (hI : IsS56 w0 w g s0_0 s0_1) (hB : Below w0.heap.size w0 w) (h : spec_l13Other.f k s0_0 s0_1 a1 = some (r1, r2)) :
  Calls Tryz.prog 15 #[.pointer (some ⟨g, 0, none⟩), .string a1] w fun e w' => e = .returned (.string r1) ∧ IsS56 w0 w' g s0_0 r2 ∧ Below w0.heap.size w0 w' ∧ KeepBut w w' g none := by
 have HI0 := am hI; have HK := am (KeepBut.refl w g none); have HL := am hB.size; clear hI; have HW0 := am hB.size; have HB := am hB; clear hB
 have H := h; unfold spec_l13Other.f at H
 clear h; have HC3 := am H; clear H; go_enter Tryz.func15, Tryz.ntmps15
 go_upto_region 1 with (fail)
 go_cut [12] (fun v12 wc => ∃ (kq : Nat) (x12_2 : Bool) (x1001_2 : Int), v12 = .bool x12_2 ∧ Aside0 (spec_l13Other.j0 kq a1 x12_2 s0_0 x1001_2 = some (r1, r2)) ∧ Aside0 (kq ≤ k) ∧ Aside0 (IsS56 w0 wc g s0_0 x1001_2) ∧ Aside0 (KeepBut w wc g none) ∧ Aside0 (Below w0.heap.size w0 wc))
 case first =>
  have H := HC3.out; clear HC3; replace H := bs H; obtain ⟨t308, A40, H⟩ := H; have A4 := Aside0.mk A40; clear A40
  by_cases c5 : t308 = true
  ·subst c5
   have H1 : ((spec_l1Rd_pick.f k s0_0 s0_1 2).bind fun bt309 => (spec_l13Other.j0 k a1 (bt309.1 == 0) s0_0 bt309.2)) = some (r1, r2) := b26_
   replace H := H1; clear H1; replace H := bs H; obtain ⟨⟨t309, t310⟩, A60, H⟩ := H; dsimp only at H; have A6 := Aside0.mk A60; clear A60
   have H' := am H
   clear H
   go_wp2_with (first | ((with_reducible refine gate_callee (f := 21) rfl ?_); refine gl 7 Tryz.func21 #[.string a1] ?_; (with_reducible refine (spec_l1Word.calls k a1 true _ A4.out).mono ?_); rintro e w' ⟨rfl, ⟨nd, rfl⟩⟩; refine ⟨_, rfl, ?_⟩) | (go_at_call 29; (with_reducible refine (spec_l1Rd_pick.calls k g s0_0 s0_1 2 t309 t310 w0 _ ?side1 ?side2 A6.out).mono ?_); (case side1 => repeat (with_reducible first | exact HI0.out | apply IsS56.drewN)); (case side2 => repeat (with_reducible first | exact HB.out | apply pw_below_drewN)); rintro e w7 ⟨rfl, hi, hb, hk⟩; replace HK := am (KeepBut.trans b0_ hk (.inl rfl)); replace HB := am (hb); replace HI0 := am (hi); clear hb hk hi))
   go_meet
   case rel => exact ⟨_, ((t309 == 0)), (t310), sq, H', ⟨b59_⟩, ⟨b2_⟩, ⟨b0_⟩, ⟨b1_⟩⟩
  replace c5 := Bool.eq_false_iff.mpr c5; subst c5
  have H1 : (spec_l13Other.j0 k a1 false s0_0 s0_1) = some (r1, r2) := b10_
  replace H := H1; clear H1
  have H' := am H
  clear H
  go_wp2_with ((with_reducible refine gate_callee (f := 21) rfl ?_); refine gl 7 Tryz.func21 #[.string a1] ?_; (with_reducible refine (spec_l1Word.calls k a1 false _ A4.out).mono ?_); rintro e w' ⟨rfl, ⟨nd, rfl⟩⟩; refine ⟨_, rfl, ?_⟩)
  go_meet
  case rel => exact ⟨_, (false), (s0_1), sq, H', ⟨b59_⟩, ⟨b2_⟩, ⟨b0_⟩, ⟨b1_⟩⟩
 case rest =>
  clear HC3; obtain ⟨kq, x12_2, x1001_2, rfl, HA, HJ2, HI0, HK, HB⟩ := hcut
  cases kq with
  | zero => exact absurd HA.out (by simp [spec_l13Other.j0])
  | succ kj2 =>
   have H := HA.out; clear HA; simp only [spec_l13Other.j0] at H
   by_cases c8 : x12_2 = true
   ·subst c8
    have H1 : ((spec_l1Near.f kj2 a1).bind fun t311 => ((spec_l1Rd_pick.f kj2 s0_0 x1001_2 256).bind fun bt314 => ((spec_l1Rd_pick.f kj2 s0_0 bt314.2 256).bind fun bt316 => (if (t311.length : Int) = 0 then (none) else (if 0 ≤ (Int.tmod (wrap64 ((wrap64 (bt314.1 * 256)) + bt316.1)) (t311.length : Int)) then (if (Int.tmod (wrap64 ((wrap64 (bt314.1 * 256)) + bt316.1)) (t311.length : Int)) < (t311.length : Int) then ((spec_l1Rd_pick.f kj2 s0_0 bt316.2 3).bind fun bt319 => (if bt319.1 = 0 then ((spec_l1Near.f kj2 (rdOf ByteArray.empty t311 (Int.tmod (wrap64 ((wrap64 (bt314.1 * 256)) + bt316.1)) (t311.length : Int)))).bind fun t321 => ((spec_l1Rd_pick.f kj2 s0_0 bt319.2 256).bind fun bt324 => ((spec_l1Rd_pick.f kj2 s0_0 bt324.2 256).bind fun bt326 => (if (t321.length : Int) = 0 then (none) else (if 0 ≤ (Int.tmod (wrap64 ((wrap64 (bt324.1 * 256)) + bt326.1)) (t321.length : Int)) then (if (Int.tmod (wrap64 ((wrap64 (bt324.1 * 256)) + bt326.1)) (t321.length : Int)) < (t321.length : Int) then (some (rdOf ByteArray.empty t321 (Int.tmod (wrap64 ((wrap64 (bt324.1 * 256)) + bt326.1)) (t321.length : Int)), bt326.2)) else (none)) else (none)))))) else (some (rdOf ByteArray.empty t311 (Int.tmod (wrap64 ((wrap64 (bt314.1 * 256)) + bt316.1)) (t311.length : Int)), bt319.2)))) else (none)) else (none)))))) = some (r1, r2) := b26_
    replace H := H1; clear H1
    replace H := bs H; obtain ⟨t311, A90, H⟩ := H; have A9 := Aside0.mk A90; clear A90; replace H := bs H; obtain ⟨⟨t314, t315⟩, A100, H⟩ := H; dsimp only at H; have A10 := Aside0.mk A100; clear A100; replace H := bs H; obtain ⟨⟨t316, t317⟩, A110, H⟩ := H; dsimp only at H; have A11 := Aside0.mk A110; clear A110
    replace H := iq H; obtain ⟨c12, H⟩ := H
    have c12b0 : ((t311.length : Int) == 0) = false := beq_eq_false_iff_ne.mpr c12
    have c12b1 : ((t311.length : Int) != 0) = true := bne_iff_ne.mpr c12
    have c12b2 : ¬ (t311 = []) := fun h_ => c12 (by rw [h_]; rfl)
    obtain ⟨ji13, hji13⟩ : ∃ j_ : Int, (Int.tmod (wrap64 ((wrap64 (t314 * 256)) + t316)) (t311.length : Int)) = j_ := ⟨_, rfl⟩
    rw [hji13] at H
    replace H := it H; obtain ⟨c14b0, H⟩ := H; replace H := it H; obtain ⟨c15b0, H⟩ := H; replace H := bs H; obtain ⟨⟨t319, t320⟩, A160, H⟩ := H; dsimp only at H; have A16 := Aside0.mk A160; clear A160
    by_cases c17 : t319 = 0
    ·rw [if_pos c17] at H
     have c17b0 : (t319 == 0) = true := beq_iff_eq.mpr c17
     have c17b1 : (t319 != 0) = false := bne_eq_false_iff_eq.mpr c17
     clear c17; replace H := bs H; obtain ⟨t321, A180, H⟩ := H; have A18 := Aside0.mk A180; clear A180; replace H := bs H; obtain ⟨⟨t324, t325⟩, A190, H⟩ := H; dsimp only at H; have A19 := Aside0.mk A190; clear A190; replace H := bs H; obtain ⟨⟨t326, t327⟩, A200, H⟩ := H; dsimp only at H; have A20 := Aside0.mk A200; clear A200
     replace H := iq H; obtain ⟨c21, H⟩ := H
     have c21b0 : ((t321.length : Int) == 0) = false := beq_eq_false_iff_ne.mpr c21
     have c21b1 : ((t321.length : Int) != 0) = true := bne_iff_ne.mpr c21
     have c21b2 : ¬ (t321 = []) := fun h_ => c21 (by rw [h_]; rfl)
     obtain ⟨ji22, hji22⟩ : ∃ j_ : Int, (Int.tmod (wrap64 ((wrap64 (t324 * 256)) + t326)) (t321.length : Int)) = j_ := ⟨_, rfl⟩
     rw [hji22] at H
     replace H := it H; obtain ⟨c23b0, H⟩ := H; replace H := it H; obtain ⟨c24b0, H⟩ := H; simp only [Option.some.injEq, Prod.mk.injEq] at H; obtain ⟨rfl, rfl⟩ := H
     go_wp2_with (first | ((with_reducible refine gate_callee (f := 33) rfl ?_); refine gl 14 Tryz.func33 #[.string a1] ?_; (with_reducible refine (spec_l1Near.calls kj2 a1 t311 _ A9.out).mono ?_); rintro e w25 ⟨v312, rfl, ho0, hb⟩; refine ⟨_, rfl, ?_⟩; have HO313 := am (Kd.V_lower (Kd.V_mono (ok' := fun k_ => k_ ≠ g) ho0 (fun k_ hk_ => (IsS56.fresh b2_ k_ hk_))) (keep_size (w := w) (g := g) (row := none) b0_)); replace HK := am (KeepBut.trans b0_ (KeepBut.of_below hb g none) (.inl rfl)); replace HB := am (below_step b1_ hb); replace HI0 := am (IsS56.below b2_ hb); clear hb; clear ho0) | ((with_reducible refine gate_callee (f := 29) rfl ?_); refine gl 17 Tryz.func29 #[.pointer (some ⟨g, 0, none⟩), .int .i64 256] ?_; (with_reducible refine (spec_l1Rd_pick.calls kj2 g s0_0 x1001_2 256 t314 t315 w0 _ ?side1 ?side2 A10.out).mono ?_); (case side1 => repeat (with_reducible exact HI0.out)); (case side2 => repeat (with_reducible exact HB.out)); rintro e w26 ⟨rfl, hi, hb, hk⟩; refine ⟨_, rfl, ?_⟩; replace HO313 := am (Kd.V_mono (Kd.V_keep (Kd.V_mono (ok := fun k_ => k_ ≠ g) (vq HO313.out) (fun k_ hk_ => (⟨hk_, hk_⟩ : _ ∧ k_ ≠ g))) hk (fun _ h => h.2)) (fun _ h => h.1)); replace HK := am (KeepBut.trans b0_ hk (.inl rfl)); replace HB := am (hb); replace HI0 := am (hi); clear hb hk hi) | ((with_reducible refine gate_callee (f := 29) rfl ?_); refine gl 20 Tryz.func29 #[.pointer (some ⟨g, 0, none⟩), .int .i64 256] ?_; (with_reducible refine (spec_l1Rd_pick.calls kj2 g s0_0 t315 256 t316 t317 w0 _ ?side1 ?side2 A11.out).mono ?_); (case side1 => repeat (with_reducible exact HI0.out)); (case side2 => repeat (with_reducible exact HB.out)); rintro e w27 ⟨rfl, hi, hb, hk⟩; refine ⟨_, rfl, ?_⟩; replace HO313 := am (Kd.V_mono (Kd.V_keep (Kd.V_mono (ok := fun k_ => k_ ≠ g) (vq HO313.out) (fun k_ hk_ => (⟨hk_, hk_⟩ : _ ∧ k_ ≠ g))) hk (fun _ h => h.2)) (fun _ h => h.1)); replace HK := am (KeepBut.trans b0_ hk (.inl rfl)); replace HB := am (hb); replace HI0 := am (hi); clear hb hk hi; obtain ⟨Ao28, co28, eo28⟩ := Kd.V_slice HO313.out; subst eo28; have p318 : 0 ≤ ((ji13) : Int) := of_decide_eq_true ad; have q318 : (ji13) < (t311.length : Int) := of_decide_eq_true ad; obtain ⟨ad318, e318, hx318_0⟩ := Kd.at_string (Kd.V_reads' HO313.out).2.2 (ji13) p318 q318; cases e318; replace p318 := eq_true p318; replace q318 := eq_true q318) | ((with_reducible refine gate_callee (f := 29) rfl ?_); refine gl 28 Tryz.func29 #[.pointer (some ⟨g, 0, none⟩), .int .i64 3] ?_; (with_reducible refine (spec_l1Rd_pick.calls kj2 g s0_0 t317 3 t319 t320 w0 _ ?side1 ?side2 A16.out).mono ?_); (case side1 => repeat (with_reducible exact HI0.out)); (case side2 => repeat (with_reducible exact HB.out)); rintro e w29 ⟨rfl, hi, hb, hk⟩; refine ⟨_, rfl, ?_⟩; replace HO313 := am (Kd.V_mono (Kd.V_keep (Kd.V_mono (ok := fun k_ => k_ ≠ g) (vq HO313.out) (fun k_ hk_ => (⟨hk_, hk_⟩ : _ ∧ k_ ≠ g))) hk (fun _ h => h.2)) (fun _ h => h.1)); replace HK := am (KeepBut.trans b0_ hk (.inl rfl)); replace HB := am (hb); replace HI0 := am (hi); clear hb hk hi) | ((with_reducible refine gate_callee (f := 33) rfl ?_); refine goesL_ (some 31) rfl rfl Tryz.func33 (by kernel_rfl) rfl #[.string (rdOf ByteArray.empty t311 (ji13))] rfl (by simp only [List.map_toArray, List.map_cons, List.map_nil]; rfl) ?_; (with_reducible refine (spec_l1Near.calls kj2 (rdOf ByteArray.empty t311 (ji13)) t321 _ A18.out).mono ?_); rintro e w30 ⟨v322, rfl, ho0, hb⟩; refine ⟨_, rfl, ?_⟩; replace HO313 := am (Kd.V_below (vq HO313.out) hb); have HO323 := am (Kd.V_lower (Kd.V_mono (ok' := fun k_ => k_ ≠ g) ho0 (fun k_ hk_ => (IsS56.fresh b2_ k_ hk_))) (keep_size (w := w) (g := g) (row := none) b0_)); replace HK := am (KeepBut.trans b0_ (KeepBut.of_below hb g none) (.inl rfl)); replace HB := am (below_step b1_ hb); replace HI0 := am (IsS56.below b2_ hb); clear hb; clear ho0) | ((with_reducible refine gate_callee (f := 29) rfl ?_); refine gl 34 Tryz.func29 #[.pointer (some ⟨g, 0, none⟩), .int .i64 256] ?_; (with_reducible refine (spec_l1Rd_pick.calls kj2 g s0_0 t320 256 t324 t325 w0 _ ?side1 ?side2 A19.out).mono ?_); (case side1 => repeat (with_reducible exact HI0.out)); (case side2 => repeat (with_reducible exact HB.out)); rintro e w31 ⟨rfl, hi, hb, hk⟩; refine ⟨_, rfl, ?_⟩; replace HO313 := am (Kd.V_mono (Kd.V_keep (Kd.V_mono (ok := fun k_ => k_ ≠ g) (vq HO313.out) (fun k_ hk_ => (⟨hk_, hk_⟩ : _ ∧ k_ ≠ g))) hk (fun _ h => h.2)) (fun _ h => h.1)); replace HO323 := am (Kd.V_mono (Kd.V_keep (Kd.V_mono (ok := fun k_ => k_ ≠ g) (vq HO323.out) (fun k_ hk_ => (⟨hk_, hk_⟩ : _ ∧ k_ ≠ g))) hk (fun _ h => h.2)) (fun _ h => h.1)); replace HK := am (KeepBut.trans b0_ hk (.inl rfl)); replace HB := am (hb); replace HI0 := am (hi); clear hb hk hi) | ((with_reducible refine gate_callee (f := 29) rfl ?_); refine gl 37 Tryz.func29 #[.pointer (some ⟨g, 0, none⟩), .int .i64 256] ?_; (with_reducible refine (spec_l1Rd_pick.calls kj2 g s0_0 t325 256 t326 t327 w0 _ ?side1 ?side2 A20.out).mono ?_); (case side1 => repeat (with_reducible exact HI0.out)); (case side2 => repeat (with_reducible exact HB.out)); rintro e w32 ⟨rfl, hi, hb, hk⟩; refine ⟨_, rfl, ?_⟩; replace HO313 := am (Kd.V_mono (Kd.V_keep (Kd.V_mono (ok := fun k_ => k_ ≠ g) (vq HO313.out) (fun k_ hk_ => (⟨hk_, hk_⟩ : _ ∧ k_ ≠ g))) hk (fun _ h => h.2)) (fun _ h => h.1)); replace HO323 := am (Kd.V_mono (Kd.V_keep (Kd.V_mono (ok := fun k_ => k_ ≠ g) (vq HO323.out) (fun k_ hk_ => (⟨hk_, hk_⟩ : _ ∧ k_ ≠ g))) hk (fun _ h => h.2)) (fun _ h => h.1)); replace HK := am (KeepBut.trans b0_ hk (.inl rfl)); replace HB := am (hb); replace HI0 := am (hi); clear hb hk hi; obtain ⟨Ao33, co33, eo33⟩ := Kd.V_slice HO323.out; subst eo33; have p328 : 0 ≤ ((ji22) : Int) := of_decide_eq_true ad; have q328 : (ji22) < (t321.length : Int) := of_decide_eq_true ad; obtain ⟨ad328, e328, hx328_0⟩ := Kd.at_string (Kd.V_reads' HO323.out).2.2 (ji22) p328 q328; cases e328; replace p328 := eq_true p328; replace q328 := eq_true q328))
     go_ret
     exact ⟨by rfl, b2_, b1_, b0_⟩
    rw [if_neg c17] at H
    have c17b0 : (t319 == 0) = false := beq_eq_false_iff_ne.mpr c17
    have c17b1 : (t319 != 0) = true := bne_iff_ne.mpr c17
    simp only [Option.some.injEq, Prod.mk.injEq] at H; obtain ⟨rfl, rfl⟩ := H
    go_wp2_with (first | ((with_reducible refine gate_callee (f := 33) rfl ?_); refine gl 14 Tryz.func33 #[.string a1] ?_; (with_reducible refine (spec_l1Near.calls kj2 a1 t311 _ A9.out).mono ?_); rintro e w34 ⟨v312, rfl, ho0, hb⟩; refine ⟨_, rfl, ?_⟩; have HO313 := am (Kd.V_lower (Kd.V_mono (ok' := fun k_ => k_ ≠ g) ho0 (fun k_ hk_ => (IsS56.fresh b2_ k_ hk_))) (keep_size (w := w) (g := g) (row := none) b0_)); replace HK := am (KeepBut.trans b0_ (KeepBut.of_below hb g none) (.inl rfl)); replace HB := am (below_step b1_ hb); replace HI0 := am (IsS56.below b2_ hb); clear hb; clear ho0) | ((with_reducible refine gate_callee (f := 29) rfl ?_); refine gl 17 Tryz.func29 #[.pointer (some ⟨g, 0, none⟩), .int .i64 256] ?_; (with_reducible refine (spec_l1Rd_pick.calls kj2 g s0_0 x1001_2 256 t314 t315 w0 _ ?side1 ?side2 A10.out).mono ?_); (case side1 => repeat (with_reducible exact HI0.out)); (case side2 => repeat (with_reducible exact HB.out)); rintro e w35 ⟨rfl, hi, hb, hk⟩; refine ⟨_, rfl, ?_⟩; replace HO313 := am (Kd.V_mono (Kd.V_keep (Kd.V_mono (ok := fun k_ => k_ ≠ g) (vq HO313.out) (fun k_ hk_ => (⟨hk_, hk_⟩ : _ ∧ k_ ≠ g))) hk (fun _ h => h.2)) (fun _ h => h.1)); replace HK := am (KeepBut.trans b0_ hk (.inl rfl)); replace HB := am (hb); replace HI0 := am (hi); clear hb hk hi) | ((with_reducible refine gate_callee (f := 29) rfl ?_); refine gl 20 Tryz.func29 #[.pointer (some ⟨g, 0, none⟩), .int .i64 256] ?_; (with_reducible refine (spec_l1Rd_pick.calls kj2 g s0_0 t315 256 t316 t317 w0 _ ?side1 ?side2 A11.out).mono ?_); (case side1 => repeat (with_reducible exact HI0.out)); (case side2 => repeat (with_reducible exact HB.out)); rintro e w36 ⟨rfl, hi, hb, hk⟩; refine ⟨_, rfl, ?_⟩; replace HO313 := am (Kd.V_mono (Kd.V_keep (Kd.V_mono (ok := fun k_ => k_ ≠ g) (vq HO313.out) (fun k_ hk_ => (⟨hk_, hk_⟩ : _ ∧ k_ ≠ g))) hk (fun _ h => h.2)) (fun _ h => h.1)); replace HK := am (KeepBut.trans b0_ hk (.inl rfl)); replace HB := am (hb); replace HI0 := am (hi); clear hb hk hi; obtain ⟨Ao37, co37, eo37⟩ := Kd.V_slice HO313.out; subst eo37; have p318 : 0 ≤ ((ji13) : Int) := of_decide_eq_true ad; have q318 : (ji13) < (t311.length : Int) := of_decide_eq_true ad; obtain ⟨ad318, e318, hx318_0⟩ := Kd.at_string (Kd.V_reads' HO313.out).2.2 (ji13) p318 q318; cases e318; replace p318 := eq_true p318; replace q318 := eq_true q318) | ((with_reducible refine gate_callee (f := 29) rfl ?_); refine gl 28 Tryz.func29 #[.pointer (some ⟨g, 0, none⟩), .int .i64 3] ?_; (with_reducible refine (spec_l1Rd_pick.calls kj2 g s0_0 t317 3 t319 t320 w0 _ ?side1 ?side2 A16.out).mono ?_); (case side1 => repeat (with_reducible exact HI0.out)); (case side2 => repeat (with_reducible exact HB.out)); rintro e w38 ⟨rfl, hi, hb, hk⟩; refine ⟨_, rfl, ?_⟩; replace HO313 := am (Kd.V_mono (Kd.V_keep (Kd.V_mono (ok := fun k_ => k_ ≠ g) (vq HO313.out) (fun k_ hk_ => (⟨hk_, hk_⟩ : _ ∧ k_ ≠ g))) hk (fun _ h => h.2)) (fun _ h => h.1)); replace HK := am (KeepBut.trans b0_ hk (.inl rfl)); replace HB := am (hb); replace HI0 := am (hi); clear hb hk hi))
    go_ret
    exact ⟨by rfl, b2_, b1_, b0_⟩
   replace c8 := Bool.eq_false_iff.mpr c8; subst c8
   have H1 : ((spec_l13AnyWord.f kj2 s0_0 x1001_2).bind fun bt329 => (some (bt329.1, bt329.2))) = some (r1, r2) := b10_
   replace H := H1; clear H1; replace H := bs H; obtain ⟨⟨t329, t330⟩, A390, H⟩ := H; dsimp only at H; have A39 := Aside0.mk A390; clear A390; simp only [Option.some.injEq, Prod.mk.injEq] at H; obtain ⟨rfl, rfl⟩ := H
   go_wp2_with ((with_reducible refine gate_callee (f := 31) rfl ?_); refine gl 46 Tryz.func31 #[.pointer (some ⟨g, 0, none⟩)] ?_; (with_reducible refine (spec_l13AnyWord.calls kj2 g s0_0 x1001_2 t329 t330 w0 _ ?side1 ?side2 A39.out).mono ?_); (case side1 => repeat (with_reducible exact HI0.out)); (case side2 => repeat (with_reducible exact HB.out)); rintro e w40 ⟨rfl, hi, hb, hk⟩; refine ⟨_, rfl, ?_⟩; replace HK := am (KeepBut.trans b0_ hk (.inl rfl)); replace HB := am (hb); replace HI0 := am (hi); clear hb hk hi)
   go_ret
   exact ⟨eq_, b2_, b1_, b0_⟩

/-! ### spec_l2Flag: function 48 -/
def spec_l2Flag.f (a0 : ByteArray) : Option (Bool) := if (a0.size : Int) = 1 then (if 0 < (a0.size : Int) then (if (bt a0 0) ≥ 65 then (some (decide ((bt a0 0) ≤ 90))) else (some false)) else (none)) else (some false)
theorem spec_l2Flag.calls (a0 : ByteArray) (r : Bool) (w : World) (h : spec_l2Flag.f a0 = some r) :
  Calls Tryz.prog 48 #[.string a0] w fun e w' => e = .returned (.bool r) ∧ Drawn0 w w' := by
 have H := h; unfold spec_l2Flag.f at H
 clear h
 by_cases c2 : (a0.size : Int) = 1
 ·rw [if_pos c2] at H
  have c2b0 : ((a0.size : Int) == 1) = true := beq_iff_eq.mpr c2
  have c2b1 : ((a0.size : Int) != 1) = false := bne_eq_false_iff_eq.mpr c2
  clear c2; replace H := ip H; obtain ⟨c3, H⟩ := H; have c3b0 := decide_eq_true c3
  have c3b1 : decide (0 < a0.size) = true := decide_eq_true (by omega)
  clear c3
  by_cases c5 : (bt a0 0) ≥ 65
  ·rw [if_pos c5] at H; have c5b0 := decide_eq_true c5; clear c5; obtain rfl := Option.some.inj H
   have p4 : 0 ≤ (0 : Int) := (by omega)
   have q4 : 0 < a0.size := b108_
   have hx4 : ∀ h : 0 < a0.size, ((a0[0]'h).toNat : Int) = bt a0 0 := bt_at a0 0
   clear p4
   have qi4 : (0 < (a0.size : Int)) = True := eq_true (of_decide_eq_true ad)
   replace q4 := eq_true q4
   have p6 : 0 ≤ (0 : Int) := (by omega)
   have q6 : 0 < a0.size := b108_
   have hx6 : ∀ h : 0 < a0.size, ((a0[0]'h).toNat : Int) = bt a0 0 := bt_at a0 0
   clear p6
   have qi6 : (0 < (a0.size : Int)) = True := eq_true (of_decide_eq_true ad)
   replace q6 := eq_true q6; go_enter Tryz.func48, Tryz.ntmps48; go_wp2; go_ret
   exact ⟨sq, dr⟩
  rw [if_neg c5] at H; have c5b0 := decide_eq_false c5; clear c5; obtain rfl := Option.some.inj H
  have p4 : 0 ≤ (0 : Int) := (by omega)
  have q4 : 0 < a0.size := b108_
  have hx4 : ∀ h : 0 < a0.size, ((a0[0]'h).toNat : Int) = bt a0 0 := bt_at a0 0
  clear p4
  have qi4 : (0 < (a0.size : Int)) = True := eq_true (of_decide_eq_true ad)
  replace q4 := eq_true q4; go_enter Tryz.func48, Tryz.ntmps48; go_wp2; go_ret
  exact ⟨sq, dr⟩
 rw [if_neg c2] at H
 have c2b0 : ((a0.size : Int) == 1) = false := beq_eq_false_iff_ne.mpr c2
 have c2b1 : ((a0.size : Int) != 1) = true := bne_iff_ne.mpr c2
 obtain rfl := Option.some.inj H; go_enter Tryz.func48, Tryz.ntmps48; go_wp2; go_ret
 exact ⟨sq, dr⟩

/-! ### spec_l2Entry: function 25 -/
def spec_l2Entry.l0 : Nat → Int → ByteArray → ByteArray → Option (Bool)
 | 0, _, _, _ => none
 | k + 1, x3, x332000, x332001 => if x3 < (x332001.size : Int) then (if 0 ≤ x3 then (if x3 ≤ (wrap64 (x3 + 1)) then (if (wrap64 (x3 + 1)) ≤ (x332001.size : Int) then ((spec_l2Flag.f (x332001.extract (x3 : Int).toNat ((wrap64 (x3 + 1)) : Int).toNat)).bind fun t332 => (if t332 = true then (if x3 > 0 then (if 0 ≤ (wrap64 (x3 - 1)) then (if (wrap64 (x3 - 1)) < (x332001.size : Int) then (if (bt x332001 (wrap64 (x3 - 1))) ≥ (bt x332001 x3) then (some false) else (spec_l2Entry.l0 k (wrap64 (x3 + 1)) x332000 x332001)) else (none)) else (none)) else (spec_l2Entry.l0 k (wrap64 (x3 + 1)) x332000 x332001)) else (some false))) else (none)) else (none)) else (none)) else ((spec_l1Word.f k x332000).bind fun t333 => (if t333 = true then (some (decide ((x332001.size : Int) ≤ 4))) else (some false)))
def spec_l2Entry.f (k : Nat) (a0_0 : ByteArray) (a0_1 : ByteArray) : Option (Bool) := spec_l2Entry.l0 k 0 a0_0 a0_1
theorem spec_l2Entry.calls (k : Nat) (a0_0 : ByteArray) (a0_1 : ByteArray) (r : Bool) (w : World) (h : spec_l2Entry.f k a0_0 a0_1 = some r) :
  Calls Tryz.prog 25 #[.agg #[.string a0_0, .string a0_1]] w fun e w' => e = .returned (.bool r) ∧ Below w.heap.size w w' := by
 have hu51 := Tryz.underlying51; have HB := am (Below.refl w.heap.size w)
 have H := h; unfold spec_l2Entry.f at H
 clear h
 have H' := am H
 clear H; go_enter Tryz.func25, Tryz.ntmps25
 go_wp2_with ((with_reducible refine gate_dst (N := 1) rfl ?_); ((refine gate_guard (by rfl) ?_; dsimp only)); refine bx 1 (cs := #[.string a0_0, .string a0_1]) (t := 51) ?_; intro gb331 hg w2 hbox hb; have BK331 := am (hbox); have GW331 := am ((b15_ : w.heap.size ≤ gb331)); have GE331 := am ((b15_ : w.heap.size ≤ gb331)); replace HB := am (below_step bel hb); clear hb hbox hg)
 go_loopg [3] k (fun kq v3 w' => ∃ (x3_1 : Int), v3 = .int .i64 x3_1 ∧ Aside0 (spec_l2Entry.l0 kq x3_1 a0_0 a0_1 = some r) ∧ Aside0 (kq ≤ k) ∧ Aside0 (w'.heap[gb331]? = some (.cells #[.string a0_0, .string a0_1] 51 (0, 0))) ∧ Aside0 (Below w.heap.size w w'))
 case atStart => exact ⟨(0), sq, H', ⟨Nat.le_refl _⟩, ⟨bq BK331.out⟩, ⟨bel1 GE331.out⟩⟩
 case round =>
  clear H'; obtain ⟨x3_1, rfl, HA, HK1, BK331, HB⟩ := hrel
  cases gk with
  | zero => exact absurd HA.out (by simp [spec_l2Entry.l0])
  | succ k1 =>
   have H := HA.out; clear HA; simp only [spec_l2Entry.l0] at H
   by_cases c3 : x3_1 < (a0_1.size : Int)
   ·rw [if_pos c3] at H; have c3b0 := decide_eq_true c3; clear c3
    replace H := ip H; obtain ⟨c4, H⟩ := H; have c4b0 := eq_true c4
    have c4b1 : decide (0 ≤ x3_1) = true := decide_eq_true c4
    clear c4; replace H := ip H; obtain ⟨c5, H⟩ := H; have c5b0 := eq_true c5
    have c5b1 : decide (x3_1 ≤ (wrap64 (x3_1 + 1))) = true := decide_eq_true c5
    replace H := ip H; obtain ⟨c6, H⟩ := H; have c6b0 := eq_true c6
    have c6b1 : decide ((wrap64 (x3_1 + 1)) ≤ (a0_1.size : Int)) = true := decide_eq_true c6
    replace H := bs H; obtain ⟨t332, A70, H⟩ := H; have A7 := Aside0.mk A70; clear A70
    by_cases c8 : t332 = true
    ·subst c8
     have H1 : (if x3_1 > 0 then (if 0 ≤ (wrap64 (x3_1 - 1)) then (if (wrap64 (x3_1 - 1)) < (a0_1.size : Int) then (if (bt a0_1 (wrap64 (x3_1 - 1))) ≥ (bt a0_1 x3_1) then (some false) else (spec_l2Entry.l0 k1 (wrap64 (x3_1 + 1)) a0_0 a0_1)) else (none)) else (none)) else (spec_l2Entry.l0 k1 (wrap64 (x3_1 + 1)) a0_0 a0_1)) = some r := b26_
     replace H := H1; clear H1
     by_cases c9 : x3_1 > 0
     ·rw [if_pos c9] at H; have c9b0 := decide_eq_true c9; clear c9; obtain ⟨ji10, hji10⟩ : ∃ j_ : Int, (wrap64 (x3_1 - 1)) = j_ := ⟨_, rfl⟩
      rw [hji10] at H
      have hji10w : (IntKind.i64.wrap (x3_1 - 1)) = ji10 := (i64_w _).trans hji10
      replace H := it H; obtain ⟨c11b0, H⟩ := H; replace H := it H; obtain ⟨c12b0, H⟩ := H
      by_cases c15 : (bt a0_1 (ji10)) ≥ (bt a0_1 x3_1)
      ·rw [if_pos c15] at H; have c15b0 := decide_eq_true c15; clear c15; obtain rfl := Option.some.inj H; have ⟨hcz16_0, hcz16_1, hfz16_0, hfz16_1⟩ := b2c BK331.out
       have p13 : 0 ≤ ((ji10) : Int) := of_decide_eq_true ad
       have q13 : (ji10) < (a0_1.size : Int) := of_decide_eq_true ad
       have hx13 := bt_at a0_1 (ji10)
       replace p13 := eq_true p13
       replace q13 := eq_true q13
       have p14 : 0 ≤ (x3_1 : Int) := of_decide_eq_true ad
       have q14 : x3_1 < (a0_1.size : Int) := of_decide_eq_true ad
       have hx14 := bt_at a0_1 x3_1
       replace p14 := eq_true p14
       replace q14 := eq_true q14
       go_wp2
       repeat (go_quiet ((go_at_call 48; (with_reducible refine (spec_l2Flag.calls (a0_1.extract (x3_1 : Int).toNat ((wrap64 (x3_1 + 1)) : Int).toNat) true _ A7.out).mono ?_); rintro e w' ⟨rfl, ⟨nd, rfl⟩⟩; exact ⟨rfl, _, World.drewN_drewN _ _ _⟩)); try go_wp2)
       go_ret
       exact ⟨by rfl, bel1 GE331.out⟩
      rw [if_neg c15] at H; have c15b0 := decide_eq_false c15; clear c15
      have H' := am H
      clear H; have ⟨hcz17_0, hcz17_1, hfz17_0, hfz17_1⟩ := b2c BK331.out
      have p13 : 0 ≤ ((ji10) : Int) := of_decide_eq_true ad
      have q13 : (ji10) < (a0_1.size : Int) := of_decide_eq_true ad
      have hx13 := bt_at a0_1 (ji10)
      replace p13 := eq_true p13
      replace q13 := eq_true q13
      have p14 : 0 ≤ (x3_1 : Int) := of_decide_eq_true ad
      have q14 : x3_1 < (a0_1.size : Int) := of_decide_eq_true ad
      have hx14 := bt_at a0_1 x3_1
      replace p14 := eq_true p14
      replace q14 := eq_true q14
      go_wp2
      repeat (go_quiet ((go_at_call 48; (with_reducible refine (spec_l2Flag.calls (a0_1.extract (x3_1 : Int).toNat ((wrap64 (x3_1 + 1)) : Int).toNat) true _ A7.out).mono ?_); rintro e w' ⟨rfl, ⟨nd, rfl⟩⟩; exact ⟨rfl, _, World.drewN_drewN _ _ _⟩)); try go_wp2)
      go_roundg k1
      case measure => have := HK1.out; omega
      case rel => exact ⟨(wrap64 (x3_1 + 1)), sq, H', ⟨b81_⟩, ⟨bq BK331.out⟩, ⟨bel1 GE331.out⟩⟩
     rw [if_neg c9] at H; have c9b0 := decide_eq_false c9; clear c9
     have H' := am H
     clear H; have ⟨hcz18_0, hcz18_1, hfz18_0, hfz18_1⟩ := b2c BK331.out
     go_wp2
     repeat (go_quiet ((go_at_call 48; (with_reducible refine (spec_l2Flag.calls (a0_1.extract (x3_1 : Int).toNat ((wrap64 (x3_1 + 1)) : Int).toNat) true _ A7.out).mono ?_); rintro e w' ⟨rfl, ⟨nd, rfl⟩⟩; exact ⟨rfl, _, World.drewN_drewN _ _ _⟩)); try go_wp2)
     go_roundg k1
     case measure => have := HK1.out; omega
     case rel => exact ⟨(wrap64 (x3_1 + 1)), sq, H', ⟨b81_⟩, ⟨bq BK331.out⟩, ⟨bel1 GE331.out⟩⟩
    replace c8 := Bool.eq_false_iff.mpr c8; subst c8
    have H1 : (some false) = some r := b10_
    replace H := H1; clear H1
    obtain rfl := Option.some.inj H; have ⟨hcz19_0, hcz19_1, hfz19_0, hfz19_1⟩ := b2c BK331.out
    go_wp2
    repeat (go_quiet ((go_at_call 48; (with_reducible refine (spec_l2Flag.calls (a0_1.extract (x3_1 : Int).toNat ((wrap64 (x3_1 + 1)) : Int).toNat) false _ A7.out).mono ?_); rintro e w' ⟨rfl, ⟨nd, rfl⟩⟩; exact ⟨rfl, _, World.drewN_drewN _ _ _⟩)); try go_wp2)
    go_ret
    exact ⟨eq_, bel1 GE331.out⟩
   rw [if_neg c3] at H; have c3b0 := decide_eq_false c3; clear c3; replace H := bs H; obtain ⟨t333, A200, H⟩ := H; have A20 := Aside0.mk A200; clear A200
   by_cases c21 : t333 = true
   ·subst c21
    have H1 : (some (decide ((a0_1.size : Int) ≤ 4))) = some r := b26_
    replace H := H1; clear H1
    obtain rfl := Option.some.inj H; have ⟨hcz22_0, hcz22_1, hfz22_0, hfz22_1⟩ := b2c BK331.out
    go_wp2_with (go_at_call 21; (with_reducible refine (spec_l1Word.calls k1 a0_0 true _ A20.out).mono ?_); rintro e w' ⟨rfl, ⟨nd, rfl⟩⟩)
    go_ret
    exact ⟨eq_, bel1 GE331.out⟩
   replace c21 := Bool.eq_false_iff.mpr c21; subst c21
   have H1 : (some false) = some r := b10_
   replace H := H1; clear H1
   obtain rfl := Option.some.inj H; have ⟨hcz23_0, hcz23_1, hfz23_0, hfz23_1⟩ := b2c BK331.out
   go_wp2_with (go_at_call 21; (with_reducible refine (spec_l1Word.calls k1 a0_0 false _ A20.out).mono ?_); rintro e w' ⟨rfl, ⟨nd, rfl⟩⟩)
   go_ret
   exact ⟨eq_, bel1 GE331.out⟩

/-! ### spec_l2Begins: function 70 -/
def spec_l2Begins.f (a0 : ByteArray) (a1 : ByteArray) : Option (Bool) := if (a0.size : Int) ≥ (a1.size : Int) then (if 0 ≤ (a1.size : Int) then (if (a1.size : Int) ≤ (a0.size : Int) then (some ((a0.extract 0 a1.size).toList == a1.toList)) else (none)) else (none)) else (some false)
theorem spec_l2Begins.calls (a0 : ByteArray) (a1 : ByteArray) (r : Bool) (w : World) (h : spec_l2Begins.f a0 a1 = some r) :
  Calls Tryz.prog 70 #[.string a0, .string a1] w fun e w' => e = .returned (.bool r) ∧ Drawn0 w w' := by
 have H := h; unfold spec_l2Begins.f at H
 clear h
 by_cases c3 : (a0.size : Int) ≥ (a1.size : Int)
 ·rw [if_pos c3] at H; have c3b0 := decide_eq_true c3
  have c3b1 : decide (a1.size ≤ a0.size) = true := decide_eq_true (Int.ofNat_le.mp c3)
  clear c3; replace H := ip H; obtain ⟨c4, H⟩ := H; have c4b0 := eq_true c4
  have c4b1 : decide (0 ≤ (a1.size : Int)) = true := decide_eq_true c4
  clear c4; replace H := ip H; obtain ⟨c5, H⟩ := H; have c5b0 := eq_true c5
  have c5b9 : (a1.size ≤ a0.size) = True := eq_true (by omega)
  have c5b6 : decide (a1.size ≤ a0.size) = true := decide_eq_true (by omega)
  have c5b1 : decide ((a1.size : Int) ≤ (a0.size : Int)) = true := decide_eq_true c5
  clear c5; obtain rfl := Option.some.inj H; go_enter Tryz.func70, Tryz.ntmps70; go_wp2; go_ret
  exact ⟨sq, dr⟩
 rw [if_neg c3] at H; have c3b0 := decide_eq_false c3
 have c3b1 : decide (a1.size ≤ a0.size) = false := decide_eq_false (fun h => c3 (Int.ofNat_le.mpr h))
 clear c3; obtain rfl := Option.some.inj H; go_enter Tryz.func70, Tryz.ntmps70; go_wp2; go_ret
 exact ⟨sq, dr⟩

/-! ### spec_l2Ends: function 71 -/
def spec_l2Ends.f (a0 : ByteArray) (a1 : ByteArray) : Option (Bool) := if (a0.size : Int) ≥ (a1.size : Int) then (if 0 ≤ (wrap64 ((a0.size : Int) - (a1.size : Int))) then (if (wrap64 ((a0.size : Int) - (a1.size : Int))) ≤ (a0.size : Int) then (some ((a0.extract ((wrap64 ((a0.size : Int) - (a1.size : Int))) : Int).toNat a0.size).toList == a1.toList)) else (none)) else (none)) else (some false)
theorem spec_l2Ends.calls (a0 : ByteArray) (a1 : ByteArray) (r : Bool) (w : World) (h : spec_l2Ends.f a0 a1 = some r) :
  Calls Tryz.prog 71 #[.string a0, .string a1] w fun e w' => e = .returned (.bool r) ∧ Drawn0 w w' := by
 have H := h; unfold spec_l2Ends.f at H
 clear h
 by_cases c3 : (a0.size : Int) ≥ (a1.size : Int)
 ·rw [if_pos c3] at H; have c3b0 := decide_eq_true c3
  have c3b1 : decide (a1.size ≤ a0.size) = true := decide_eq_true (Int.ofNat_le.mp c3)
  clear c3; obtain ⟨ji4, hji4⟩ : ∃ j_ : Int, (wrap64 ((a0.size : Int) - (a1.size : Int))) = j_ := ⟨_, rfl⟩
  rw [hji4] at H
  have hji4w : (IntKind.i64.wrap ((a0.size : Int) - (a1.size : Int))) = ji4 := (i64_w _).trans hji4
  replace H := ip H; obtain ⟨c5, H⟩ := H; have c5b0 := eq_true c5
  have c5b1 : decide (0 ≤ (ji4)) = true := decide_eq_true c5
  clear c5; replace H := ip H; obtain ⟨c6, H⟩ := H; have c6b0 := eq_true c6
  have c6b1 : decide ((ji4) ≤ (a0.size : Int)) = true := decide_eq_true c6
  clear c6; obtain rfl := Option.some.inj H; go_enter Tryz.func71, Tryz.ntmps71; go_wp2; go_ret
  exact ⟨by rfl, dr⟩
 rw [if_neg c3] at H; have c3b0 := decide_eq_false c3
 have c3b1 : decide (a1.size ≤ a0.size) = false := decide_eq_false (fun h => c3 (Int.ofNat_le.mpr h))
 clear c3; obtain rfl := Option.some.inj H; go_enter Tryz.func71, Tryz.ntmps71; go_wp2; go_ret
 exact ⟨sq, dr⟩

/-! ### spec_AffixOk: function 49 -/
def spec_AffixOk.j0 : Nat → Bool → ByteArray → Bool → ByteArray → ByteArray → ByteArray → Option (Bool)
 | 0, _, _, _, _, _, _ => none
 | k + 1, x24, x335000, x335001, x335002, x335003, x335004 => if x24 = true then (some false) else (if x335001 = true then ((spec_l2Begins.f x335004 x335002).bind fun t339 => (some t339)) else ((spec_l2Ends.f x335004 x335002).bind fun t340 => (some t340)))
def spec_AffixOk.f (k : Nat) (a0_0 : ByteArray) (a0_1 : Bool) (a0_2 : ByteArray) (a0_3 : ByteArray) (a0_4 : ByteArray) : Option (Bool) := (spec_l2Flag.f a0_0).bind fun t335 => (if t335 = true then ((spec_l1Letters.f k a0_2 4).bind fun t336 => (if t336 = true then ((spec_l1Letters.f k a0_3 4).bind fun t337 => (if t337 = true then ((spec_l1Letters.f k a0_4 4).bind fun t338 => (spec_AffixOk.j0 k (!t338) a0_0 a0_1 a0_2 a0_3 a0_4)) else (spec_AffixOk.j0 k true a0_0 a0_1 a0_2 a0_3 a0_4))) else (spec_AffixOk.j0 k true a0_0 a0_1 a0_2 a0_3 a0_4))) else (spec_AffixOk.j0 k true a0_0 a0_1 a0_2 a0_3 a0_4))
theorem spec_AffixOk.calls (k : Nat) (a0_0 : ByteArray) (a0_1 : Bool) (a0_2 : ByteArray) (a0_3 : ByteArray) (a0_4 : ByteArray) (r : Bool) (w : World) (h : spec_AffixOk.f k a0_0 a0_1 a0_2 a0_3 a0_4 = some r) :
  Calls Tryz.prog 49 #[.agg #[.string a0_0, .bool a0_1, .string a0_2, .string a0_3, .string a0_4]] w fun e w' => e = .returned (.bool r) ∧ Below w.heap.size w w' := by
 have hu59 := Tryz.underlying59; have HB := am (Below.refl w.heap.size w)
 have H := h; unfold spec_AffixOk.f at H
 clear h; have HC2 := am H; clear H; go_enter Tryz.func49, Tryz.ntmps49
 go_upto_region 1 with ((with_reducible refine gate_dst (N := 1) rfl ?_); refine bx 1 (cs := #[.string a0_0, .bool a0_1, .string a0_2, .string a0_3, .string a0_4]) (t := 59) ?_; intro gb334 hg w3 hbox hb; have BK334 := am (hbox); have GW334 := am ((b15_ : w.heap.size ≤ gb334)); have GE334 := am ((b15_ : w.heap.size ≤ gb334)); replace HB := am (below_step bel hb); clear hb hbox hg)
 go_cut [24] (fun v24 wc => ∃ (kq : Nat) (x24_1 : Bool), v24 = .bool x24_1 ∧ Aside0 (spec_AffixOk.j0 kq x24_1 a0_0 a0_1 a0_2 a0_3 a0_4 = some r) ∧ Aside0 (kq ≤ k) ∧ Aside0 (wc.heap[gb334]? = some (.cells #[.string a0_0, .bool a0_1, .string a0_2, .string a0_3, .string a0_4] 59 (0, 0))) ∧ Aside0 (Below w.heap.size w wc))
 case first =>
  have H := HC2.out; clear HC2; replace H := bs H; obtain ⟨t335, A40, H⟩ := H; have A4 := Aside0.mk A40; clear A40
  by_cases c5 : t335 = true
  ·subst c5
   have H1 : ((spec_l1Letters.f k a0_2 4).bind fun t336 => (if t336 = true then ((spec_l1Letters.f k a0_3 4).bind fun t337 => (if t337 = true then ((spec_l1Letters.f k a0_4 4).bind fun t338 => (spec_AffixOk.j0 k (!t338) a0_0 a0_1 a0_2 a0_3 a0_4)) else (spec_AffixOk.j0 k true a0_0 a0_1 a0_2 a0_3 a0_4))) else (spec_AffixOk.j0 k true a0_0 a0_1 a0_2 a0_3 a0_4))) = some r := b26_
   replace H := H1; clear H1
   replace H := bs H; obtain ⟨t336, A60, H⟩ := H; have A6 := Aside0.mk A60; clear A60
   by_cases c7 : t336 = true
   ·subst c7
    have H1 : ((spec_l1Letters.f k a0_3 4).bind fun t337 => (if t337 = true then ((spec_l1Letters.f k a0_4 4).bind fun t338 => (spec_AffixOk.j0 k (!t338) a0_0 a0_1 a0_2 a0_3 a0_4)) else (spec_AffixOk.j0 k true a0_0 a0_1 a0_2 a0_3 a0_4))) = some r := b26_
    replace H := H1; clear H1
    replace H := bs H; obtain ⟨t337, A80, H⟩ := H; have A8 := Aside0.mk A80; clear A80
    by_cases c9 : t337 = true
    ·subst c9
     have H1 : ((spec_l1Letters.f k a0_4 4).bind fun t338 => (spec_AffixOk.j0 k (!t338) a0_0 a0_1 a0_2 a0_3 a0_4)) = some r := b26_
     replace H := H1; clear H1
     replace H := bs H; obtain ⟨t338, A100, H⟩ := H; have A10 := Aside0.mk A100; clear A100
     have H' := am H
     clear H; have ⟨hcz11_0, hcz11_1, hcz11_2, hcz11_3, hcz11_4, hfz11_0, hfz11_1, hfz11_2, hfz11_3, hfz11_4⟩ := b5c BK334.out
     go_wp2_with (first | ((with_reducible refine gate_callee (f := 48) rfl ?_); refine gl 5 Tryz.func48 #[.string a0_0] ?_; (with_reducible refine (spec_l2Flag.calls a0_0 true _ A4.out).mono ?_); rintro e w' ⟨rfl, ⟨nd, rfl⟩⟩; refine ⟨_, rfl, ?_⟩) | (go_at_call 43; (with_reducible refine (spec_l1Letters.calls k a0_2 4 true _ A6.out).mono ?_); rintro e w' ⟨rfl, ⟨nd, rfl⟩⟩) | (go_at_call 43; (with_reducible refine (spec_l1Letters.calls k a0_3 4 true _ A8.out).mono ?_); rintro e w' ⟨rfl, ⟨nd, rfl⟩⟩) | (go_at_call 43; (with_reducible refine (spec_l1Letters.calls k a0_4 4 t338 _ A10.out).mono ?_); rintro e w' ⟨rfl, ⟨nd, rfl⟩⟩))
     go_meet
     case rel => exact ⟨_, (!t338), sq, H', ⟨b59_⟩, ⟨bq BK334.out⟩, ⟨bel1 GE334.out⟩⟩
    replace c9 := Bool.eq_false_iff.mpr c9; subst c9
    have H1 : (spec_AffixOk.j0 k true a0_0 a0_1 a0_2 a0_3 a0_4) = some r := b10_
    replace H := H1; clear H1
    have H' := am H
    clear H; have ⟨hcz12_0, hcz12_1, hcz12_2, hcz12_3, hcz12_4, hfz12_0, hfz12_1, hfz12_2, hfz12_3, hfz12_4⟩ := b5c BK334.out
    go_wp2_with (first | ((with_reducible refine gate_callee (f := 48) rfl ?_); refine gl 5 Tryz.func48 #[.string a0_0] ?_; (with_reducible refine (spec_l2Flag.calls a0_0 true _ A4.out).mono ?_); rintro e w' ⟨rfl, ⟨nd, rfl⟩⟩; refine ⟨_, rfl, ?_⟩) | (go_at_call 43; (with_reducible refine (spec_l1Letters.calls k a0_2 4 true _ A6.out).mono ?_); rintro e w' ⟨rfl, ⟨nd, rfl⟩⟩) | (go_at_call 43; (with_reducible refine (spec_l1Letters.calls k a0_3 4 false _ A8.out).mono ?_); rintro e w' ⟨rfl, ⟨nd, rfl⟩⟩))
    go_meet
    case rel => exact ⟨_, (true), sq, H', ⟨b59_⟩, ⟨bq BK334.out⟩, ⟨bel1 GE334.out⟩⟩
   replace c7 := Bool.eq_false_iff.mpr c7; subst c7
   have H1 : (spec_AffixOk.j0 k true a0_0 a0_1 a0_2 a0_3 a0_4) = some r := b10_
   replace H := H1; clear H1
   have H' := am H
   clear H; have ⟨hcz13_0, hcz13_1, hcz13_2, hcz13_3, hcz13_4, hfz13_0, hfz13_1, hfz13_2, hfz13_3, hfz13_4⟩ := b5c BK334.out
   go_wp2_with (first | ((with_reducible refine gate_callee (f := 48) rfl ?_); refine gl 5 Tryz.func48 #[.string a0_0] ?_; (with_reducible refine (spec_l2Flag.calls a0_0 true _ A4.out).mono ?_); rintro e w' ⟨rfl, ⟨nd, rfl⟩⟩; refine ⟨_, rfl, ?_⟩) | (go_at_call 43; (with_reducible refine (spec_l1Letters.calls k a0_2 4 false _ A6.out).mono ?_); rintro e w' ⟨rfl, ⟨nd, rfl⟩⟩))
   go_meet
   case rel => exact ⟨_, (true), sq, H', ⟨b59_⟩, ⟨bq BK334.out⟩, ⟨bel1 GE334.out⟩⟩
  replace c5 := Bool.eq_false_iff.mpr c5; subst c5
  have H1 : (spec_AffixOk.j0 k true a0_0 a0_1 a0_2 a0_3 a0_4) = some r := b10_
  replace H := H1; clear H1
  have H' := am H
  clear H; have ⟨hcz14_0, hcz14_1, hcz14_2, hcz14_3, hcz14_4, hfz14_0, hfz14_1, hfz14_2, hfz14_3, hfz14_4⟩ := b5c BK334.out
  go_wp2_with ((with_reducible refine gate_callee (f := 48) rfl ?_); refine gl 5 Tryz.func48 #[.string a0_0] ?_; (with_reducible refine (spec_l2Flag.calls a0_0 false _ A4.out).mono ?_); rintro e w' ⟨rfl, ⟨nd, rfl⟩⟩; refine ⟨_, rfl, ?_⟩)
  go_meet
  case rel => exact ⟨_, (true), sq, H', ⟨b59_⟩, ⟨bq BK334.out⟩, ⟨bel1 GE334.out⟩⟩
 case rest =>
  clear HC2; obtain ⟨kq, x24_1, rfl, HA, HJ1, BK334, HB⟩ := hcut
  cases kq with
  | zero => exact absurd HA.out (by simp [spec_AffixOk.j0])
  | succ kj1 =>
   have H := HA.out; clear HA; simp only [spec_AffixOk.j0] at H
   by_cases c15 : x24_1 = true
   ·subst c15
    have H1 : (some false) = some r := b26_
    replace H := H1; clear H1
    obtain rfl := Option.some.inj H; go_wp2; go_ret
    exact ⟨eq_, bel1 GE334.out⟩
   replace c15 := Bool.eq_false_iff.mpr c15; subst c15
   have H1 : (if a0_1 = true then ((spec_l2Begins.f a0_4 a0_2).bind fun t339 => (some t339)) else ((spec_l2Ends.f a0_4 a0_2).bind fun t340 => (some t340))) = some r := b10_
   replace H := H1; clear H1
   by_cases c16 : a0_1 = true
   ·subst c16
    have H1 : ((spec_l2Begins.f a0_4 a0_2).bind fun t339 => (some t339)) = some r := b26_
    replace H := H1; clear H1
    replace H := bs H; obtain ⟨t339, A170, H⟩ := H; have A17 := Aside0.mk A170; clear A170; obtain rfl := Option.some.inj H; have ⟨hcz18_0, hcz18_1, hcz18_2, hcz18_3, hcz18_4, hfz18_0, hfz18_1, hfz18_2, hfz18_3, hfz18_4⟩ := b5c BK334.out
    go_wp2_with ((with_reducible refine gate_callee (f := 70) rfl ?_); refine gl 31 Tryz.func70 #[.string a0_4, .string a0_2] ?_; (with_reducible refine (spec_l2Begins.calls a0_4 a0_2 t339 _ A17.out).mono ?_); rintro e w' ⟨rfl, ⟨nd, rfl⟩⟩; refine ⟨_, rfl, ?_⟩)
    go_ret
    exact ⟨eq_, bel1 GE334.out⟩
   replace c16 := Bool.eq_false_iff.mpr c16; subst c16
   have H1 : ((spec_l2Ends.f a0_4 a0_2).bind fun t340 => (some t340)) = some r := b10_
   replace H := H1; clear H1
   replace H := bs H; obtain ⟨t340, A190, H⟩ := H; have A19 := Aside0.mk A190; clear A190; obtain rfl := Option.some.inj H; have ⟨hcz20_0, hcz20_1, hcz20_2, hcz20_3, hcz20_4, hfz20_0, hfz20_1, hfz20_2, hfz20_3, hfz20_4⟩ := b5c BK334.out
   go_wp2_with ((with_reducible refine gate_callee (f := 71) rfl ?_); refine gl 36 Tryz.func71 #[.string a0_4, .string a0_2] ?_; (with_reducible refine (spec_l2Ends.calls a0_4 a0_2 t340 _ A19.out).mono ?_); rintro e w' ⟨rfl, ⟨nd, rfl⟩⟩; refine ⟨_, rfl, ?_⟩)
   go_ret
   exact ⟨eq_, bel1 GE334.out⟩
-- shrunk

attribute [local go_sem high] eqA59
/-! ### spec_l2Affixes: function 26 -/
mutual
def spec_l2Affixes.l0 : Nat → List (S59) → Int → Option (Bool)
 | 0, _, _ => none
 | k + 1, x0, x3 => if x3 < (x0.length : Int) then (if 0 ≤ x3 then ((spec_AffixOk.f k ((rd_T59 x0 x3).f0) ((rd_T59 x0 x3).f1) ((rd_T59 x0 x3).f2) ((rd_T59 x0 x3).f3) ((rd_T59 x0 x3).f4)).bind fun t342 => (if t342 = true then (spec_l2Affixes.l1 k x0 x3 0) else (some false))) else (none)) else (some (decide ((x0.length : Int) ≤ 8)))
def spec_l2Affixes.l1 : Nat → List (S59) → Int → Int → Option (Bool)
 | 0, _, _, _ => none
 | k + 1, x0, x3, x4 => if x4 < x3 then (if 0 ≤ x4 then (if x4 < (x0.length : Int) then (if 0 ≤ x3 then (if x3 < (x0.length : Int) then (if ((((rd_T59 x0 x4).f0).toList) == (((rd_T59 x0 x3).f0).toList) && (((rd_T59 x0 x4).f1) == ((rd_T59 x0 x3).f1) && ((((rd_T59 x0 x4).f2).toList) == (((rd_T59 x0 x3).f2).toList) && ((((rd_T59 x0 x4).f3).toList) == (((rd_T59 x0 x3).f3).toList) && ((((rd_T59 x0 x4).f4).toList) == (((rd_T59 x0 x3).f4).toList)))))) = true then (some false) else (spec_l2Affixes.l1 k x0 x3 (wrap64 (x4 + 1)))) else (none)) else (none)) else (none)) else (none)) else (spec_l2Affixes.l0 k x0 (wrap64 (x3 + 1)))
end
def spec_l2Affixes.f (k : Nat) (l0 : List (S59)) : Option (Bool) := spec_l2Affixes.l0 k l0 0
theorem spec_l2Affixes.calls (k : Nat) (A0 : Option Addr) (c0 : Nat) (l0 : List (S59)) (r : Bool) (w : World) (hr0 : Kd.C k59 w A0 l0.length l0) (hc0 : l0.length ≤ c0) (h : spec_l2Affixes.f k l0 = some r) :
  Calls Tryz.prog 26 #[.slice A0 l0.length c0] w fun e w' => e = .returned (.bool r) ∧ Below w.heap.size w w' := by
 have hu59 := Tryz.underlying59; have HR0 := am hr0; have HC0 := am hc0; clear hr0 hc0; have HB := am (Below.refl w.heap.size w)
 have H := h; unfold spec_l2Affixes.f at H
 clear h
 have H' := am H
 clear H; go_enter Tryz.func26, Tryz.ntmps26; go_wp2
 go_loopg [3] k (fun kq v3 w' => ∃ (x3_1 : Int), v3 = .int .i64 x3_1 ∧ Aside0 (spec_l2Affixes.l0 kq l0 x3_1 = some r) ∧ Aside0 (kq ≤ k) ∧ Aside0 (Below w.heap.size w w'))
 case atStart => exact ⟨(0), sq, H', ⟨Nat.le_refl _⟩, ⟨bel⟩⟩
 case round =>
  clear H'; obtain ⟨x3_1, rfl, HA, HK1, HB⟩ := hrel
  cases gk with
  | zero => exact absurd HA.out (by simp [spec_l2Affixes.l0])
  | succ k1 =>
   have H := HA.out; clear HA; simp only [spec_l2Affixes.l0] at H
   by_cases c2 : x3_1 < (l0.length : Int)
   ·rw [if_pos c2] at H; have c2b0 := decide_eq_true c2; clear c2
    replace H := it H; obtain ⟨c3b0, H⟩ := H; replace H := bs H; obtain ⟨t342, A40, H⟩ := H; have A4 := Aside0.mk A40; clear A40
    by_cases c5 : t342 = true
    ·subst c5
     have H1 : (spec_l2Affixes.l1 k1 l0 x3_1 0) = some r := b26_
     replace H := H1; clear H1
     have H' := am H
     clear H
     have p341 : 0 ≤ (x3_1 : Int) := of_decide_eq_true ad
     have q341 : x3_1 < (l0.length : Int) := of_decide_eq_true ad
     obtain ⟨ad341, e341, hx341_0, hx341_1, hx341_2, hx341_3, hx341_4⟩ := at_T59 HR0.out x3_1 p341 q341; cases e341; replace hx341_0 := kp HB.out hx341_0; replace hx341_1 := kp HB.out hx341_1; replace hx341_2 := kp HB.out hx341_2; replace hx341_3 := kp HB.out hx341_3; replace hx341_4 := kp HB.out hx341_4; replace p341 := eq_true p341; replace q341 := eq_true q341
     go_wp2_with (go_at_call 49; (with_reducible refine (spec_AffixOk.calls k1 ((rd_T59 l0 x3_1).f0) ((rd_T59 l0 x3_1).f1) ((rd_T59 l0 x3_1).f2) ((rd_T59 l0 x3_1).f3) ((rd_T59 l0 x3_1).f4) true _ A4.out).mono ?_); rintro e w6 ⟨rfl, hb⟩; replace HB := am (below_step bel hb); clear hb)
     go_loopg [4] k1 (fun kq v4 w' => ∃ (x4_2 : Int), v4 = .int .i64 x4_2 ∧ Aside0 (spec_l2Affixes.l1 kq l0 x3_1 x4_2 = some r) ∧ Aside0 (kq ≤ k1) ∧ Aside0 (Below w.heap.size w w'))
     case atStart => exact ⟨(0), sq, H', ⟨Nat.le_refl _⟩, ⟨bel⟩⟩
     case round =>
      clear H'; clear c2b0 c3b0 hx341_0 hx341_1 hx341_2 hx341_3 hx341_4 p341 q341; obtain ⟨x4_2, rfl, HA, HK2, HB⟩ := hrel
      cases gk with
      | zero => exact absurd HA.out (by simp [spec_l2Affixes.l1])
      | succ k2 =>
       have H := HA.out; clear HA; simp only [spec_l2Affixes.l1] at H
       by_cases c7 : x4_2 < x3_1
       ·rw [if_pos c7] at H; have c7b0 := decide_eq_true c7; clear c7
        replace H := it H; obtain ⟨c8b0, H⟩ := H; replace H := it H; obtain ⟨c9b0, H⟩ := H; replace H := it H; obtain ⟨c10b0, H⟩ := H; replace H := it H; obtain ⟨c11b0, H⟩ := H
        by_cases c12 : ((((rd_T59 l0 x4_2).f0).toList) == (((rd_T59 l0 x3_1).f0).toList) && (((rd_T59 l0 x4_2).f1) == ((rd_T59 l0 x3_1).f1) && ((((rd_T59 l0 x4_2).f2).toList) == (((rd_T59 l0 x3_1).f2).toList) && ((((rd_T59 l0 x4_2).f3).toList) == (((rd_T59 l0 x3_1).f3).toList) && ((((rd_T59 l0 x4_2).f4).toList) == (((rd_T59 l0 x3_1).f4).toList)))))) = true
        ·rw [if_pos c12] at H
         have c12b0 : ((((rd_T59 l0 x4_2).f0).toList) == (((rd_T59 l0 x3_1).f0).toList) && (((rd_T59 l0 x4_2).f1) == ((rd_T59 l0 x3_1).f1) && ((((rd_T59 l0 x4_2).f2).toList) == (((rd_T59 l0 x3_1).f2).toList) && ((((rd_T59 l0 x4_2).f3).toList) == (((rd_T59 l0 x3_1).f3).toList) && ((((rd_T59 l0 x4_2).f4).toList) == (((rd_T59 l0 x3_1).f4).toList)))))) = true := c12
         (have c12b1 : decide ((((rd_T59 l0 x4_2).f0).toList) = (((rd_T59 l0 x3_1).f0).toList) && (((rd_T59 l0 x4_2).f1) == ((rd_T59 l0 x3_1).f1) && ((((rd_T59 l0 x4_2).f2).toList) == (((rd_T59 l0 x3_1).f2).toList) && ((((rd_T59 l0 x4_2).f3).toList) == (((rd_T59 l0 x3_1).f3).toList) && ((((rd_T59 l0 x4_2).f4).toList) == (((rd_T59 l0 x3_1).f4).toList)))))) = true := by simpa using c12)
         (have c12b2 : ((((rd_T59 l0 x4_2).f0).toList) == (((rd_T59 l0 x3_1).f0).toList) && (((rd_T59 l0 x4_2).f1) == ((rd_T59 l0 x3_1).f1) && ((((rd_T59 l0 x4_2).f2).toList) == (((rd_T59 l0 x3_1).f2).toList) && ((((rd_T59 l0 x4_2).f3).toList) == (((rd_T59 l0 x3_1).f3).toList) && ((((rd_T59 l0 x4_2).f4).toList) == (((rd_T59 l0 x3_1).f4).toList)))))) = true := by simpa using c12)
         clear c12; obtain rfl := Option.some.inj H
         have p343 : 0 ≤ (x4_2 : Int) := of_decide_eq_true ad
         have q343 : x4_2 < (l0.length : Int) := of_decide_eq_true ad
         obtain ⟨ad343, e343, hx343_0, hx343_1, hx343_2, hx343_3, hx343_4⟩ := at_T59 HR0.out x4_2 p343 q343
         obtain rfl : ad341 = ad343 := (by injection e343)
         replace hx343_0 := kp HB.out hx343_0; replace hx343_1 := kp HB.out hx343_1; replace hx343_2 := kp HB.out hx343_2; replace hx343_3 := kp HB.out hx343_3; replace hx343_4 := kp HB.out hx343_4; replace p343 := eq_true p343; replace q343 := eq_true q343
         have p344 : 0 ≤ (x3_1 : Int) := of_decide_eq_true ad
         have q344 : x3_1 < (l0.length : Int) := of_decide_eq_true ad
         obtain ⟨ad344, e344, hx344_0, hx344_1, hx344_2, hx344_3, hx344_4⟩ := at_T59 HR0.out x3_1 p344 q344
         obtain rfl : ad341 = ad344 := (by injection e344)
         replace hx344_0 := kp HB.out hx344_0; replace hx344_1 := kp HB.out hx344_1; replace hx344_2 := kp HB.out hx344_2; replace hx344_3 := kp HB.out hx344_3; replace hx344_4 := kp HB.out hx344_4; replace p344 := eq_true p344; replace q344 := eq_true q344; go_wp2
         repeat (go_quiet (fail); try go_wp2)
         go_ret
         exact ⟨eq_, bel⟩
        rw [if_neg c12] at H
        have c12b0 : ((((rd_T59 l0 x4_2).f0).toList) == (((rd_T59 l0 x3_1).f0).toList) && (((rd_T59 l0 x4_2).f1) == ((rd_T59 l0 x3_1).f1) && ((((rd_T59 l0 x4_2).f2).toList) == (((rd_T59 l0 x3_1).f2).toList) && ((((rd_T59 l0 x4_2).f3).toList) == (((rd_T59 l0 x3_1).f3).toList) && ((((rd_T59 l0 x4_2).f4).toList) == (((rd_T59 l0 x3_1).f4).toList)))))) = false := by simpa using c12
        (have c12b1 : decide ((((rd_T59 l0 x4_2).f0).toList) = (((rd_T59 l0 x3_1).f0).toList) && (((rd_T59 l0 x4_2).f1) == ((rd_T59 l0 x3_1).f1) && ((((rd_T59 l0 x4_2).f2).toList) == (((rd_T59 l0 x3_1).f2).toList) && ((((rd_T59 l0 x4_2).f3).toList) == (((rd_T59 l0 x3_1).f3).toList) && ((((rd_T59 l0 x4_2).f4).toList) == (((rd_T59 l0 x3_1).f4).toList)))))) = false := by simpa using c12)
        (have c12b2 : ((((rd_T59 l0 x4_2).f0).toList) == (((rd_T59 l0 x3_1).f0).toList) && (((rd_T59 l0 x4_2).f1) == ((rd_T59 l0 x3_1).f1) && ((((rd_T59 l0 x4_2).f2).toList) == (((rd_T59 l0 x3_1).f2).toList) && ((((rd_T59 l0 x4_2).f3).toList) == (((rd_T59 l0 x3_1).f3).toList) && ((((rd_T59 l0 x4_2).f4).toList) == (((rd_T59 l0 x3_1).f4).toList)))))) = false := by simpa using c12)
        (have c12b3 : ¬ ((((rd_T59 l0 x4_2).f0).toList) = (((rd_T59 l0 x3_1).f0).toList) && (((rd_T59 l0 x4_2).f1) == ((rd_T59 l0 x3_1).f1) && ((((rd_T59 l0 x4_2).f2).toList) == (((rd_T59 l0 x3_1).f2).toList) && ((((rd_T59 l0 x4_2).f3).toList) == (((rd_T59 l0 x3_1).f3).toList) && ((((rd_T59 l0 x4_2).f4).toList) == (((rd_T59 l0 x3_1).f4).toList)))))) := by simpa using c12)
        clear c12
        have H' := am H
        clear H
        have p343 : 0 ≤ (x4_2 : Int) := of_decide_eq_true ad
        have q343 : x4_2 < (l0.length : Int) := of_decide_eq_true ad
        obtain ⟨ad343, e343, hx343_0, hx343_1, hx343_2, hx343_3, hx343_4⟩ := at_T59 HR0.out x4_2 p343 q343
        obtain rfl : ad341 = ad343 := (by injection e343)
        replace hx343_0 := kp HB.out hx343_0; replace hx343_1 := kp HB.out hx343_1; replace hx343_2 := kp HB.out hx343_2; replace hx343_3 := kp HB.out hx343_3; replace hx343_4 := kp HB.out hx343_4; replace p343 := eq_true p343; replace q343 := eq_true q343
        have p344 : 0 ≤ (x3_1 : Int) := of_decide_eq_true ad
        have q344 : x3_1 < (l0.length : Int) := of_decide_eq_true ad
        obtain ⟨ad344, e344, hx344_0, hx344_1, hx344_2, hx344_3, hx344_4⟩ := at_T59 HR0.out x3_1 p344 q344
        obtain rfl : ad341 = ad344 := (by injection e344)
        replace hx344_0 := kp HB.out hx344_0; replace hx344_1 := kp HB.out hx344_1; replace hx344_2 := kp HB.out hx344_2; replace hx344_3 := kp HB.out hx344_3; replace hx344_4 := kp HB.out hx344_4; replace p344 := eq_true p344; replace q344 := eq_true q344; go_wp2
        repeat (go_quiet (fail); try go_wp2)
        go_roundg k2
        case measure => have := HK1.out; have := HK2.out; omega
        case rel => exact ⟨(wrap64 (x4_2 + 1)), sq, H', ⟨b78_⟩, ⟨bel⟩⟩
       rw [if_neg c7] at H; have c7b0 := decide_eq_false c7; clear c7
       have H' := am H
       clear H; go_wp2
       go_roundg k2
       case measure => have := HK1.out; have := HK2.out; omega
       case rel => exact ⟨(wrap64 (x3_1 + 1)), sq, H', ⟨b78_⟩, ⟨bel⟩⟩
    replace c5 := Bool.eq_false_iff.mpr c5; subst c5
    have H1 : (some false) = some r := b10_
    replace H := H1; clear H1
    obtain rfl := Option.some.inj H
    have p341 : 0 ≤ (x3_1 : Int) := of_decide_eq_true ad
    have q341 : x3_1 < (l0.length : Int) := of_decide_eq_true ad
    obtain ⟨ad341, e341, hx341_0, hx341_1, hx341_2, hx341_3, hx341_4⟩ := at_T59 HR0.out x3_1 p341 q341; cases e341; replace hx341_0 := kp HB.out hx341_0; replace hx341_1 := kp HB.out hx341_1; replace hx341_2 := kp HB.out hx341_2; replace hx341_3 := kp HB.out hx341_3; replace hx341_4 := kp HB.out hx341_4; replace p341 := eq_true p341; replace q341 := eq_true q341
    go_wp2_with (go_at_call 49; (with_reducible refine (spec_AffixOk.calls k1 ((rd_T59 l0 x3_1).f0) ((rd_T59 l0 x3_1).f1) ((rd_T59 l0 x3_1).f2) ((rd_T59 l0 x3_1).f3) ((rd_T59 l0 x3_1).f4) false _ A4.out).mono ?_); rintro e w13 ⟨rfl, hb⟩; replace HB := am (below_step bel hb); clear hb)
    go_ret
    exact ⟨eq_, bel⟩
   rw [if_neg c2] at H; have c2b0 := decide_eq_false c2; clear c2; obtain rfl := Option.some.inj H; go_wp2
   go_ret
   exact ⟨eq_, bel⟩
-- shrunk

/-! ### spec_BookOk: function 8 -/
def spec_BookOk.l0 : Nat → Int → List (S59) → List (S51) → Option (Bool)
 | 0, _, _, _ => none
 | k + 1, x3, x346000, x346001 => if x3 < (x346001.length : Int) then (if 0 ≤ x3 then ((spec_l2Entry.f k ((rd_T51 x346001 x3).f0) ((rd_T51 x346001 x3).f1)).bind fun t347 => (if t347 = true then (if x3 > 0 then (if 0 ≤ (wrap64 (x3 - 1)) then (if (wrap64 (x3 - 1)) < (x346001.length : Int) then (if ((Op.bytesLess (((rd_T51 x346001 (wrap64 (x3 - 1))).f0).toList) (((rd_T51 x346001 x3).f0).toList)) = true) then (spec_BookOk.l0 k (wrap64 (x3 + 1)) x346000 x346001) else (some false)) else (none)) else (none)) else (spec_BookOk.l0 k (wrap64 (x3 + 1)) x346000 x346001)) else (some false))) else (none)) else ((spec_l2Affixes.f k x346000).bind fun t350 => (if t350 = true then (some (decide ((x346001.length : Int) ≤ 24))) else (some false)))
def spec_BookOk.f (k : Nat) (l0_0 : List (S59)) (l0_1 : List (S51)) : Option (Bool) := spec_BookOk.l0 k 0 l0_0 l0_1
def spec_BookOk.T4 : Bool × List (List Nat × List Nat) := (true, [([], []), ([0], [0]), ([], []), ([1, 2], [1, 2]), ([3], [3]), ([4], [4]), ([5], [5]), ([6, 5], [6]), ([7], [7]), ([8, 7], [7, 8]), ([9, 7, 7], [7, 9]), ([10], [10]), ([11, 10], [10, 11]), ([10], [10]), ([13, 10], [10, 13]), ([12, 14, 10], [10, 12, 14]), ([15, 10], [10, 15]), ([16, 10], [10, 16]), ([10], [10]), ([18, 10], [10, 18]), ([10], [10]), ([19, 20, 10], [10, 19, 20]), ([21, 10], [10, 21]), ([22, 10], [10, 22]), ([17, 23, 10], [10, 17, 23]), ([10, 24, 7], [7, 10, 24]), ([7, 25], [7, 25])])
def spec_BookOk.B4 : List Nat := [0, 1, 0, 7, 15, 31, 63, 127, 255, 511, 1023, 2047, 4095, 2047, 10239, 32767, 65535, 131071, 2047, 264191, 2047, 1837055, 3934207, 8128511, 16777215, 33554431, 67108863]
theorem spec_BookOk.tab4 : rtab .any (opsOf Tryz.f8 4) = spec_BookOk.T4 := by kernel_rfl
theorem spec_BookOk.bits4 : waitsOk spec_BookOk.T4.2 spec_BookOk.B4 = true := by kernel_rfl
theorem spec_BookOk.calls (k : Nat) (A0_0 : Option Addr) (c0_0 : Nat) (l0_0 : List (S59)) (A0_1 : Option Addr) (c0_1 : Nat) (l0_1 : List (S51)) (r : Bool) (w : World) (hr0_0 : Kd.C k59 w A0_0 l0_0.length l0_0) (hc0_0 : l0_0.length ≤ c0_0) (hr0_1 : Kd.C k51 w A0_1 l0_1.length l0_1) (hc0_1 : l0_1.length ≤ c0_1) (h : spec_BookOk.f k l0_0 l0_1 = some r) :
  Calls Tryz.prog 8 #[.agg #[.slice A0_0 l0_0.length c0_0, .slice A0_1 l0_1.length c0_1]] w fun e w' => e = .returned (.bool r) ∧ Below w.heap.size w w' := by
 have hu26 := Tryz.underlying26; have hu51 := Tryz.underlying51; have HR0_0 := am hr0_0; have HC0_0 := am hc0_0; clear hr0_0 hc0_0; have HR0_1 := am hr0_1; have HC0_1 := am hc0_1; clear hr0_1 hc0_1; have HB := am (Below.refl w.heap.size w)
 have H := h; unfold spec_BookOk.f at H
 clear h
 have H' := am H
 clear H; go_enter Tryz.func8, Tryz.ntmps8
 go_wp2_with ((with_reducible refine gate_dst (N := 1) rfl ?_); ((refine gate_guard (by rfl) ?_; dsimp only)); refine bx 1 (cs := #[.slice A0_0 l0_0.length c0_0, .slice A0_1 l0_1.length c0_1]) (t := 26) ?_; intro gb345 hg w2 hbox hb; have BK345 := am (hbox); have GW345 := am ((b15_ : w.heap.size ≤ gb345)); have GE345 := am ((b15_ : w.heap.size ≤ gb345)); replace HB := am (below_step bel hb); clear hb hbox hg)
 go_loopg [3] k (fun kq v3 w' => ∃ (x3_1 : Int), v3 = .int .i64 x3_1 ∧ Aside0 (spec_BookOk.l0 kq x3_1 l0_0 l0_1 = some r) ∧ Aside0 (kq ≤ k) ∧ Aside0 (w'.heap[gb345]? = some (.cells #[(.slice A0_0 l0_0.length c0_0), (.slice A0_1 l0_1.length c0_1)] 26 (0, 0))) ∧ Aside0 (Below w.heap.size w w'))
 case atStart => exact ⟨(0), sq, H', ⟨Nat.le_refl _⟩, ⟨bq BK345.out⟩, ⟨bel1 GE345.out⟩⟩
 case round =>
  clear H'; obtain ⟨x3_1, rfl, HA, HK1, BK345, HB⟩ := hrel
  cases gk with
  | zero => exact absurd HA.out (by simp [spec_BookOk.l0])
  | succ k1 =>
   have H := HA.out; clear HA; simp only [spec_BookOk.l0] at H
   by_cases c3 : x3_1 < (l0_1.length : Int)
   ·rw [if_pos c3] at H; have c3b0 := decide_eq_true c3; clear c3
    replace H := it H; obtain ⟨c4b0, H⟩ := H; replace H := bs H; obtain ⟨t347, A50, H⟩ := H; have A5 := Aside0.mk A50; clear A50
    by_cases c6 : t347 = true
    ·subst c6
     have H1 : (if x3_1 > 0 then (if 0 ≤ (wrap64 (x3_1 - 1)) then (if (wrap64 (x3_1 - 1)) < (l0_1.length : Int) then (if ((Op.bytesLess (((rd_T51 l0_1 (wrap64 (x3_1 - 1))).f0).toList) (((rd_T51 l0_1 x3_1).f0).toList)) = true) then (spec_BookOk.l0 k1 (wrap64 (x3_1 + 1)) l0_0 l0_1) else (some false)) else (none)) else (none)) else (spec_BookOk.l0 k1 (wrap64 (x3_1 + 1)) l0_0 l0_1)) = some r := b26_
     replace H := H1; clear H1
     by_cases c7 : x3_1 > 0
     ·rw [if_pos c7] at H; have c7b0 := decide_eq_true c7; clear c7; obtain ⟨ji8, hji8⟩ : ∃ j_ : Int, (wrap64 (x3_1 - 1)) = j_ := ⟨_, rfl⟩
      replace H : (if 0 ≤ (ji8) then (if (ji8) < (l0_1.length : Int) then (if ((Op.bytesLess (((rd_T51 l0_1 (ji8)).f0).toList) (((rd_T51 l0_1 x3_1).f0).toList)) = true) then (spec_BookOk.l0 k1 (wrap64 (x3_1 + 1)) l0_0 l0_1) else (some false)) else (none)) else (none)) = some r := b107_
      have hji8w : (IntKind.i64.wrap (x3_1 - 1)) = ji8 := (i64_w _).trans hji8
      replace H := it H; obtain ⟨c9b0, H⟩ := H; replace H := it H; obtain ⟨c10b0, H⟩ := H
      by_cases c11 : ((Op.bytesLess (((rd_T51 l0_1 (ji8)).f0).toList) (((rd_T51 l0_1 x3_1).f0).toList)) = true)
      ·rw [if_pos c11] at H
       have c11b0 : (Op.bytesLess (((rd_T51 l0_1 (ji8)).f0).toList) (((rd_T51 l0_1 x3_1).f0).toList)) = true := c11
       clear c11
       have H' := am H
       clear H; have ⟨hcz12_0, hcz12_1, hfz12_0, hfz12_1⟩ := b2c BK345.out
       try go_wp2
       replace BK345 := am (blk_drew BK345.out); replace HB := am (below_drew1 HB.out)
       have p346 : 0 ≤ (x3_1 : Int) := of_decide_eq_true ad
       have q346 : x3_1 < (l0_1.length : Int) := of_decide_eq_true ad
       obtain ⟨ad346, e346, hx346_0, hx346_1⟩ := at_T51 HR0_1.out x3_1 p346 q346; have hw346_1 := hx346_1; have hw346_0 := hx346_0; cases e346; replace hx346_0 := kp HB.out hx346_0; replace hx346_1 := kp HB.out hx346_1; replace p346 := eq_true p346; replace q346 := eq_true q346
       have p348 : 0 ≤ ((ji8) : Int) := of_decide_eq_true ad
       have q348 : (ji8) < (l0_1.length : Int) := of_decide_eq_true ad
       obtain ⟨ad348, e348, hx348_0, hx348_1⟩ := at_T51 HR0_1.out (ji8) p348 q348; have hw348_1 := hx348_1; have hw348_0 := hx348_0
       obtain rfl : ad346 = ad348 := (by injection e348)
       replace hx348_0 := kp HB.out hx348_0; replace hx348_1 := kp HB.out hx348_1; replace p348 := eq_true p348; replace q348 := eq_true q348
       have p349 : 0 ≤ (x3_1 : Int) := of_decide_eq_true ad
       have q349 : x3_1 < (l0_1.length : Int) := of_decide_eq_true ad
       obtain ⟨ad349, e349, hx349_0, hx349_1⟩ := at_T51 HR0_1.out x3_1 p349 q349; have hw349_1 := hx349_1; have hw349_0 := hx349_0
       obtain rfl : ad346 = ad349 := (by injection e349)
       replace hx349_0 := kp HB.out hx349_0; replace hx349_1 := kp HB.out hx349_1; replace p349 := eq_true p349; replace q349 := eq_true q349
       refine st (n := 27) (S := fun w' => w'.cell? ⟨gb345, 0, none⟩ = some (.slice A0_0 l0_0.length c0_0) ∧ w'.cell? ⟨gb345, 1, none⟩ = some (.slice (some ad346) l0_1.length c0_1) ∧ w'.cell? (ad346.add ((x3_1).toNat * 2)) = some (.string ((rd_T51 l0_1 x3_1).f0)) ∧ w'.cell? ⟨(ad346.add ((x3_1).toNat * 2)).block, (ad346.add ((x3_1).toNat * 2)).off + 1, none⟩ = some (.string ((rd_T51 l0_1 x3_1).f1)) ∧ w'.cell? (ad346.add (((ji8)).toNat * 2)) = some (.string ((rd_T51 l0_1 (ji8)).f0)) ∧ w'.cell? ⟨(ad346.add (((ji8)).toNat * 2)).block, (ad346.add (((ji8)).toNat * 2)).off + 1, none⟩ = some (.string ((rd_T51 l0_1 (ji8)).f1)) ∧ w'.cell? (ad346.add ((x3_1).toNat * 2)) = some (.string ((rd_T51 l0_1 x3_1).f0)) ∧ w'.cell? ⟨(ad346.add ((x3_1).toNat * 2)).block, (ad346.add ((x3_1).toNat * 2)).off + 1, none⟩ = some (.string ((rd_T51 l0_1 x3_1).f1))) (ds := []) ⟨bd BK345.out 0, bd BK345.out 1, (kp HB.out hw346_0), (kp HB.out hw346_1), (kp HB.out hw348_0), (kp HB.out hw348_1), (kp HB.out hw349_0), (kp HB.out hw349_1)⟩ (fun hHeld => ?_); refine with_tabW spec_BookOk.tab4 spec_BookOk.bits4 (fun HT_ HW_ => ?_)
       generalize wr.drew = w13 at BK345 HB hx346_0 hx346_1 hx348_0 hx348_1 hx349_0 hx349_1 hHeld ⊢; refine pu 0 11 ?_; refine pu 2 13 ?_
       refine take_ (i := 1) (N := some 12) (v := ?_) (a' := ?_) #[true, true, true, false, false, false, false, false, false, false, false, false, false, false, false, false, false, false, false, false, false, false, false, false, false, false, false] rfl rfl (take_ofW HT_.out HW_.out (by kernel_rfl)) (fun _ _ _ h => h) (Or.inl ⟨by rfl, ?_⟩) hHeld ?_ ?_
       rotate_left
       ·rintro w' ⟨s0, s1, s2, s3, s4, s5, s6, s7⟩
        go_simp
        with_reducible rfl
       rotate_left
       ·simp only [Act.put, List.setIfInBounds_toArray, List.set_cons_zero, List.set_cons_succ, i64_w, i32_w]
        rfl
       refine pu 3 14 ?_
       refine take_ (i := 4) (N := some 15) (v := ?_) (a' := ?_) #[true, true, true, true, true, false, false, false, false, false, false, false, false, false, false, false, false, false, false, false, false, false, false, false, false, false, false] rfl rfl (take_ofW HT_.out HW_.out (by kernel_rfl)) (fun _ _ _ h => h) (Or.inl ⟨by rfl, ?_⟩) hHeld ?_ ?_
       rotate_left
       ·rintro w' ⟨s0, s1, s2, s3, s4, s5, s6, s7⟩
        go_simp
        with_reducible rfl
       rotate_left
       ·simp only [Act.put, List.setIfInBounds_toArray, List.set_cons_zero, List.set_cons_succ, i64_w, i32_w]
        rfl
       refine on1 5 16 (fun K hK => ?_)
       refine go1 Tryz.func25 #[.agg #[.string ((rd_T51 l0_1 x3_1).f0), .string ((rd_T51 l0_1 x3_1).f1)]] ?_
       with_reducible refine (spec_l2Entry.calls k1 ((rd_T51 l0_1 x3_1).f0) ((rd_T51 l0_1 x3_1).f1) true _ A5.out).mono ?_
       rintro e w14 ⟨rfl, hb⟩; refine ⟨_, rfl, ?_⟩; replace BK345 := am (blk_below (bq BK345.out) hb); replace HB := am (below_step (bel1 GE345.out) hb); clear hb; refine hK.out _ _ ⟨bd BK345.out 0, bd BK345.out 1, (kp HB.out hw346_0), (kp HB.out hw346_1), (kp HB.out hw348_0), (kp HB.out hw348_1), (kp HB.out hw349_0), (kp HB.out hw349_1)⟩ (fun hHeld => ?_); clear hK K; refine nm 16 ?_; refine pu 6 17 ?_; refine pu 7 18 ?_; refine pu 8 19 ?_; refine pu 9 20 ?_; refine pu 10 21 ?_; refine pu 11 22 ?_; refine pu 13 24 ?_; refine pu 14 25 ?_; refine pu 18 29 ?_; refine pu 20 31 ?_
       refine take_ (i := 12) (N := some 23) (v := ?_) (a' := ?_) #[true, true, true, true, true, true, true, true, true, true, true, true, true, true, true, false, false, false, true, false, true, false, false, false, false, false, false] rfl rfl (take_ofW HT_.out HW_.out (by kernel_rfl)) (fun _ _ _ h => h) (Or.inl ⟨by rfl, ?_⟩) hHeld ?_ ?_
       rotate_left
       ·rintro w' ⟨s0, s1, s2, s3, s4, s5, s6, s7⟩
        go_simp
        with_reducible rfl
       rotate_left
       ·simp only [Act.put, List.setIfInBounds_toArray, List.set_cons_zero, List.set_cons_succ, i64_w, i32_w]
        rfl
       refine pu 15 26 ?_; refine pu 16 27 ?_
       refine take_ (i := 17) (N := some 28) (v := ?_) (a' := ?_) #[true, true, true, true, true, true, true, true, true, true, true, true, true, true, true, true, true, true, true, false, true, false, false, false, false, false, false] rfl rfl (take_ofW HT_.out HW_.out (by kernel_rfl)) (fun _ _ _ h => h) (Or.inl ⟨by rfl, ?_⟩) hHeld ?_ ?_
       rotate_left
       ·rintro w' ⟨s0, s1, s2, s3, s4, s5, s6, s7⟩
        go_simp
        with_reducible rfl
       rotate_left
       ·simp only [Act.put, List.setIfInBounds_toArray, List.set_cons_zero, List.set_cons_succ, i64_w, i32_w]
        rfl
       refine take_ (i := 19) (N := some 30) (v := ?_) (a' := ?_) #[true, true, true, true, true, true, true, true, true, true, true, true, true, true, true, true, true, true, true, true, true, false, false, false, false, false, false] rfl rfl (take_ofW HT_.out HW_.out (by kernel_rfl)) (fun _ _ _ h => h) (Or.inl ⟨by rfl, ?_⟩) hHeld ?_ ?_
       rotate_left
       ·rintro w' ⟨s0, s1, s2, s3, s4, s5, s6, s7⟩
        go_simp
        with_reducible rfl
       rotate_left
       ·simp only [Act.put, List.setIfInBounds_toArray, List.set_cons_zero, List.set_cons_succ, i64_w, i32_w]
        rfl
       refine pu 21 32 ?_; refine pu 22 33 ?_
       refine take_ (i := 23) (N := some 34) (v := ?_) (a' := ?_) #[true, true, true, true, true, true, true, true, true, true, true, true, true, true, true, true, true, true, true, true, true, true, true, true, false, false, false] rfl rfl (take_ofW HT_.out HW_.out (by kernel_rfl)) (fun _ _ _ h => h) (Or.inl ⟨by rfl, ?_⟩) hHeld ?_ ?_
       rotate_left
       ·rintro w' ⟨s0, s1, s2, s3, s4, s5, s6, s7⟩
        go_simp
        with_reducible rfl
       rotate_left
       ·simp only [Act.put, List.setIfInBounds_toArray, List.set_cons_zero, List.set_cons_succ, i64_w, i32_w]
        rfl
       refine pu 24 35 ?_; refine pu 25 36 ?_; refine pu 26 37 ?_
       refine done_ (done_of HT_.out (by kernel_rfl)) ?_
       try go_wp2
       go_roundg k1
       case measure => have := HK1.out; omega
       case rel => exact ⟨(wrap64 (x3_1 + 1)), sq, H', ⟨b81_⟩, ⟨bq BK345.out⟩, ⟨bel1 GE345.out⟩⟩
      rw [if_neg c11] at H
      have c11b0 : (Op.bytesLess (((rd_T51 l0_1 (ji8)).f0).toList) (((rd_T51 l0_1 x3_1).f0).toList)) = false := by simpa using c11
      clear c11; obtain rfl := Option.some.inj H; have ⟨hcz15_0, hcz15_1, hfz15_0, hfz15_1⟩ := b2c BK345.out
      try go_wp2
      replace BK345 := am (blk_drew BK345.out); replace HB := am (below_drew1 HB.out)
      have p346 : 0 ≤ (x3_1 : Int) := of_decide_eq_true ad
      have q346 : x3_1 < (l0_1.length : Int) := of_decide_eq_true ad
      obtain ⟨ad346, e346, hx346_0, hx346_1⟩ := at_T51 HR0_1.out x3_1 p346 q346; have hw346_1 := hx346_1; have hw346_0 := hx346_0; cases e346; replace hx346_0 := kp HB.out hx346_0; replace hx346_1 := kp HB.out hx346_1; replace p346 := eq_true p346; replace q346 := eq_true q346
      have p348 : 0 ≤ ((ji8) : Int) := of_decide_eq_true ad
      have q348 : (ji8) < (l0_1.length : Int) := of_decide_eq_true ad
      obtain ⟨ad348, e348, hx348_0, hx348_1⟩ := at_T51 HR0_1.out (ji8) p348 q348; have hw348_1 := hx348_1; have hw348_0 := hx348_0
      obtain rfl : ad346 = ad348 := (by injection e348)
      replace hx348_0 := kp HB.out hx348_0; replace hx348_1 := kp HB.out hx348_1; replace p348 := eq_true p348; replace q348 := eq_true q348
      have p349 : 0 ≤ (x3_1 : Int) := of_decide_eq_true ad
      have q349 : x3_1 < (l0_1.length : Int) := of_decide_eq_true ad
      obtain ⟨ad349, e349, hx349_0, hx349_1⟩ := at_T51 HR0_1.out x3_1 p349 q349; have hw349_1 := hx349_1; have hw349_0 := hx349_0
      obtain rfl : ad346 = ad349 := (by injection e349)
      replace hx349_0 := kp HB.out hx349_0; replace hx349_1 := kp HB.out hx349_1; replace p349 := eq_true p349; replace q349 := eq_true q349
      refine st (n := 27) (S := fun w' => w'.cell? ⟨gb345, 0, none⟩ = some (.slice A0_0 l0_0.length c0_0) ∧ w'.cell? ⟨gb345, 1, none⟩ = some (.slice (some ad346) l0_1.length c0_1) ∧ w'.cell? (ad346.add ((x3_1).toNat * 2)) = some (.string ((rd_T51 l0_1 x3_1).f0)) ∧ w'.cell? ⟨(ad346.add ((x3_1).toNat * 2)).block, (ad346.add ((x3_1).toNat * 2)).off + 1, none⟩ = some (.string ((rd_T51 l0_1 x3_1).f1)) ∧ w'.cell? (ad346.add (((ji8)).toNat * 2)) = some (.string ((rd_T51 l0_1 (ji8)).f0)) ∧ w'.cell? ⟨(ad346.add (((ji8)).toNat * 2)).block, (ad346.add (((ji8)).toNat * 2)).off + 1, none⟩ = some (.string ((rd_T51 l0_1 (ji8)).f1)) ∧ w'.cell? (ad346.add ((x3_1).toNat * 2)) = some (.string ((rd_T51 l0_1 x3_1).f0)) ∧ w'.cell? ⟨(ad346.add ((x3_1).toNat * 2)).block, (ad346.add ((x3_1).toNat * 2)).off + 1, none⟩ = some (.string ((rd_T51 l0_1 x3_1).f1))) (ds := []) ⟨bd BK345.out 0, bd BK345.out 1, (kp HB.out hw346_0), (kp HB.out hw346_1), (kp HB.out hw348_0), (kp HB.out hw348_1), (kp HB.out hw349_0), (kp HB.out hw349_1)⟩ (fun hHeld => ?_); refine with_tabW spec_BookOk.tab4 spec_BookOk.bits4 (fun HT_ HW_ => ?_)
      generalize wr.drew = w16 at BK345 HB hx346_0 hx346_1 hx348_0 hx348_1 hx349_0 hx349_1 hHeld ⊢; refine pu 0 11 ?_; refine pu 2 13 ?_
      refine take_ (i := 1) (N := some 12) (v := ?_) (a' := ?_) #[true, true, true, false, false, false, false, false, false, false, false, false, false, false, false, false, false, false, false, false, false, false, false, false, false, false, false] rfl rfl (take_ofW HT_.out HW_.out (by kernel_rfl)) (fun _ _ _ h => h) (Or.inl ⟨by rfl, ?_⟩) hHeld ?_ ?_
      rotate_left
      ·rintro w' ⟨s0, s1, s2, s3, s4, s5, s6, s7⟩
       go_simp
       with_reducible rfl
      rotate_left
      ·simp only [Act.put, List.setIfInBounds_toArray, List.set_cons_zero, List.set_cons_succ, i64_w, i32_w]
       rfl
      refine pu 3 14 ?_
      refine take_ (i := 4) (N := some 15) (v := ?_) (a' := ?_) #[true, true, true, true, true, false, false, false, false, false, false, false, false, false, false, false, false, false, false, false, false, false, false, false, false, false, false] rfl rfl (take_ofW HT_.out HW_.out (by kernel_rfl)) (fun _ _ _ h => h) (Or.inl ⟨by rfl, ?_⟩) hHeld ?_ ?_
      rotate_left
      ·rintro w' ⟨s0, s1, s2, s3, s4, s5, s6, s7⟩
       go_simp
       with_reducible rfl
      rotate_left
      ·simp only [Act.put, List.setIfInBounds_toArray, List.set_cons_zero, List.set_cons_succ, i64_w, i32_w]
       rfl
      refine on1 5 16 (fun K hK => ?_)
      refine go1 Tryz.func25 #[.agg #[.string ((rd_T51 l0_1 x3_1).f0), .string ((rd_T51 l0_1 x3_1).f1)]] ?_
      with_reducible refine (spec_l2Entry.calls k1 ((rd_T51 l0_1 x3_1).f0) ((rd_T51 l0_1 x3_1).f1) true _ A5.out).mono ?_
      rintro e w17 ⟨rfl, hb⟩; refine ⟨_, rfl, ?_⟩; replace BK345 := am (blk_below (bq BK345.out) hb); replace HB := am (below_step (bel1 GE345.out) hb); clear hb; refine hK.out _ _ ⟨bd BK345.out 0, bd BK345.out 1, (kp HB.out hw346_0), (kp HB.out hw346_1), (kp HB.out hw348_0), (kp HB.out hw348_1), (kp HB.out hw349_0), (kp HB.out hw349_1)⟩ (fun hHeld => ?_); clear hK K; refine nm 16 ?_; refine pu 6 17 ?_; refine pu 7 18 ?_; refine pu 8 19 ?_; refine pu 9 20 ?_; refine pu 10 21 ?_; refine pu 11 22 ?_; refine pu 13 24 ?_; refine pu 14 25 ?_; refine pu 18 29 ?_; refine pu 20 31 ?_
      refine take_ (i := 12) (N := some 23) (v := ?_) (a' := ?_) #[true, true, true, true, true, true, true, true, true, true, true, true, true, true, true, false, false, false, true, false, true, false, false, false, false, false, false] rfl rfl (take_ofW HT_.out HW_.out (by kernel_rfl)) (fun _ _ _ h => h) (Or.inl ⟨by rfl, ?_⟩) hHeld ?_ ?_
      rotate_left
      ·rintro w' ⟨s0, s1, s2, s3, s4, s5, s6, s7⟩
       go_simp
       with_reducible rfl
      rotate_left
      ·simp only [Act.put, List.setIfInBounds_toArray, List.set_cons_zero, List.set_cons_succ, i64_w, i32_w]
       rfl
      refine pu 15 26 ?_; refine pu 16 27 ?_
      refine take_ (i := 17) (N := some 28) (v := ?_) (a' := ?_) #[true, true, true, true, true, true, true, true, true, true, true, true, true, true, true, true, true, true, true, false, true, false, false, false, false, false, false] rfl rfl (take_ofW HT_.out HW_.out (by kernel_rfl)) (fun _ _ _ h => h) (Or.inl ⟨by rfl, ?_⟩) hHeld ?_ ?_
      rotate_left
      ·rintro w' ⟨s0, s1, s2, s3, s4, s5, s6, s7⟩
       go_simp
       with_reducible rfl
      rotate_left
      ·simp only [Act.put, List.setIfInBounds_toArray, List.set_cons_zero, List.set_cons_succ, i64_w, i32_w]
       rfl
      refine take_ (i := 19) (N := some 30) (v := ?_) (a' := ?_) #[true, true, true, true, true, true, true, true, true, true, true, true, true, true, true, true, true, true, true, true, true, false, false, false, false, false, false] rfl rfl (take_ofW HT_.out HW_.out (by kernel_rfl)) (fun _ _ _ h => h) (Or.inl ⟨by rfl, ?_⟩) hHeld ?_ ?_
      rotate_left
      ·rintro w' ⟨s0, s1, s2, s3, s4, s5, s6, s7⟩
       go_simp
       with_reducible rfl
      rotate_left
      ·simp only [Act.put, List.setIfInBounds_toArray, List.set_cons_zero, List.set_cons_succ, i64_w, i32_w]
       rfl
      refine pu 21 32 ?_; refine pu 22 33 ?_
      refine take_ (i := 23) (N := some 34) (v := ?_) (a' := ?_) #[true, true, true, true, true, true, true, true, true, true, true, true, true, true, true, true, true, true, true, true, true, true, true, true, false, false, false] rfl rfl (take_ofW HT_.out HW_.out (by kernel_rfl)) (fun _ _ _ h => h) (Or.inl ⟨by rfl, ?_⟩) hHeld ?_ ?_
      rotate_left
      ·rintro w' ⟨s0, s1, s2, s3, s4, s5, s6, s7⟩
       go_simp
       with_reducible rfl
      rotate_left
      ·simp only [Act.put, List.setIfInBounds_toArray, List.set_cons_zero, List.set_cons_succ, i64_w, i32_w]
       rfl
      refine pu 24 35 ?_; refine pu 25 36 ?_; refine pu 26 37 ?_
      refine done_ (done_of HT_.out (by kernel_rfl)) ?_
      try go_wp2
      go_ret
      exact ⟨b82_, bel1 GE345.out⟩
     rw [if_neg c7] at H; have c7b0 := decide_eq_false c7; clear c7
     have H' := am H
     clear H; have ⟨hcz18_0, hcz18_1, hfz18_0, hfz18_1⟩ := b2c BK345.out
     try go_wp2
     replace BK345 := am (blk_drew BK345.out); replace HB := am (below_drew1 HB.out)
     have p346 : 0 ≤ (x3_1 : Int) := of_decide_eq_true ad
     have q346 : x3_1 < (l0_1.length : Int) := of_decide_eq_true ad
     obtain ⟨ad346, e346, hx346_0, hx346_1⟩ := at_T51 HR0_1.out x3_1 p346 q346; have hw346_1 := hx346_1; have hw346_0 := hx346_0; cases e346; replace hx346_0 := kp HB.out hx346_0; replace hx346_1 := kp HB.out hx346_1; replace p346 := eq_true p346; replace q346 := eq_true q346
     refine st (n := 27) (S := fun w' => w'.cell? ⟨gb345, 0, none⟩ = some (.slice A0_0 l0_0.length c0_0) ∧ w'.cell? ⟨gb345, 1, none⟩ = some (.slice (some ad346) l0_1.length c0_1) ∧ w'.cell? (ad346.add ((x3_1).toNat * 2)) = some (.string ((rd_T51 l0_1 x3_1).f0)) ∧ w'.cell? ⟨(ad346.add ((x3_1).toNat * 2)).block, (ad346.add ((x3_1).toNat * 2)).off + 1, none⟩ = some (.string ((rd_T51 l0_1 x3_1).f1))) (ds := []) ⟨bd BK345.out 0, bd BK345.out 1, (kp HB.out hw346_0), (kp HB.out hw346_1)⟩ (fun hHeld => ?_); refine with_tabW spec_BookOk.tab4 spec_BookOk.bits4 (fun HT_ HW_ => ?_)
     generalize wr.drew = w19 at BK345 HB hx346_0 hx346_1 hHeld ⊢; refine pu 0 11 ?_; refine pu 2 13 ?_; refine tk4 1 12 hHeld ?_; refine pu 3 14 ?_; refine tk4 4 15 hHeld ?_; refine on1 5 16 (fun K hK => ?_)
     refine go1 Tryz.func25 #[.agg #[.string ((rd_T51 l0_1 x3_1).f0), .string ((rd_T51 l0_1 x3_1).f1)]] ?_
     with_reducible refine (spec_l2Entry.calls k1 ((rd_T51 l0_1 x3_1).f0) ((rd_T51 l0_1 x3_1).f1) true _ A5.out).mono ?_
     rintro e w20 ⟨rfl, hb⟩; refine ⟨_, rfl, ?_⟩; replace BK345 := am (blk_below (bq BK345.out) hb); replace HB := am (below_step (bel1 GE345.out) hb); clear hb; refine hK.out _ _ ⟨bd BK345.out 0, bd BK345.out 1, (kp HB.out hw346_0), (kp HB.out hw346_1)⟩ (fun hHeld => ?_); clear hK K; refine nm 16 ?_; refine pu 6 17 ?_; refine pu 7 18 ?_; refine pu 8 19 ?_; refine pu 9 20 ?_; refine pu 10 21 ?_; refine puu 11 22 ?_; refine puu 12 23 ?_; refine puu 13 24 ?_; refine puu 14 25 ?_; refine puu 15 26 ?_; refine puu 16 27 ?_; refine puu 17 28 ?_; refine puu 18 29 ?_; refine puu 19 30 ?_; refine puu 20 31 ?_; refine puu 21 32 ?_; refine puu 22 33 ?_; refine puu 23 34 ?_; refine puu 24 35 ?_; refine pu 25 36 ?_; refine pu 26 37 ?_
     refine done_ (done_of HT_.out (by kernel_rfl)) ?_
     try go_wp2
     go_roundg k1
     case measure => have := HK1.out; omega
     case rel => exact ⟨(wrap64 (x3_1 + 1)), sq, H', ⟨b81_⟩, ⟨bq BK345.out⟩, ⟨bel1 GE345.out⟩⟩
    replace c6 := Bool.eq_false_iff.mpr c6; subst c6
    have H1 : (some false) = some r := b10_
    replace H := H1; clear H1
    obtain rfl := Option.some.inj H; have ⟨hcz21_0, hcz21_1, hfz21_0, hfz21_1⟩ := b2c BK345.out
    try go_wp2
    replace BK345 := am (blk_drew BK345.out); replace HB := am (below_drew1 HB.out)
    have p346 : 0 ≤ (x3_1 : Int) := of_decide_eq_true ad
    have q346 : x3_1 < (l0_1.length : Int) := of_decide_eq_true ad
    obtain ⟨ad346, e346, hx346_0, hx346_1⟩ := at_T51 HR0_1.out x3_1 p346 q346; have hw346_1 := hx346_1; have hw346_0 := hx346_0; cases e346; replace hx346_0 := kp HB.out hx346_0; replace hx346_1 := kp HB.out hx346_1; replace p346 := eq_true p346; replace q346 := eq_true q346
    refine st (n := 27) (S := fun w' => w'.cell? ⟨gb345, 0, none⟩ = some (.slice A0_0 l0_0.length c0_0) ∧ w'.cell? ⟨gb345, 1, none⟩ = some (.slice (some ad346) l0_1.length c0_1) ∧ w'.cell? (ad346.add ((x3_1).toNat * 2)) = some (.string ((rd_T51 l0_1 x3_1).f0)) ∧ w'.cell? ⟨(ad346.add ((x3_1).toNat * 2)).block, (ad346.add ((x3_1).toNat * 2)).off + 1, none⟩ = some (.string ((rd_T51 l0_1 x3_1).f1))) (ds := []) ⟨bd BK345.out 0, bd BK345.out 1, (kp HB.out hw346_0), (kp HB.out hw346_1)⟩ (fun hHeld => ?_); refine with_tabW spec_BookOk.tab4 spec_BookOk.bits4 (fun HT_ HW_ => ?_)
    generalize wr.drew = w22 at BK345 HB hx346_0 hx346_1 hHeld ⊢; refine pu 0 11 ?_; refine pu 2 13 ?_; refine tk4 1 12 hHeld ?_; refine pu 3 14 ?_; refine tk4 4 15 hHeld ?_; refine on1 5 16 (fun K hK => ?_)
    refine go1 Tryz.func25 #[.agg #[.string ((rd_T51 l0_1 x3_1).f0), .string ((rd_T51 l0_1 x3_1).f1)]] ?_
    with_reducible refine (spec_l2Entry.calls k1 ((rd_T51 l0_1 x3_1).f0) ((rd_T51 l0_1 x3_1).f1) false _ A5.out).mono ?_
    rintro e w23 ⟨rfl, hb⟩; refine ⟨_, rfl, ?_⟩; replace BK345 := am (blk_below (bq BK345.out) hb); replace HB := am (below_step (bel1 GE345.out) hb); clear hb; refine hK.out _ _ ⟨bd BK345.out 0, bd BK345.out 1, (kp HB.out hw346_0), (kp HB.out hw346_1)⟩ (fun hHeld => ?_); clear hK K; refine nm 16 ?_; refine pu 6 17 ?_; refine pu 7 18 ?_; refine puu 8 19 ?_; refine puu 9 20 ?_; refine puu 10 21 ?_; refine puu 11 22 ?_; refine puu 12 23 ?_; refine puu 13 24 ?_; refine puu 14 25 ?_; refine puu 15 26 ?_; refine puu 16 27 ?_; refine puu 17 28 ?_; refine puu 18 29 ?_; refine puu 19 30 ?_; refine puu 20 31 ?_; refine puu 21 32 ?_; refine puu 22 33 ?_; refine puu 23 34 ?_; refine puu 24 35 ?_; refine puu 25 36 ?_; refine pu 26 37 ?_
    refine done_ (done_of HT_.out (by kernel_rfl)) ?_
    try go_wp2
    go_ret
    exact ⟨eq_, bel1 GE345.out⟩
   rw [if_neg c3] at H; have c3b0 := decide_eq_false c3; clear c3; replace H := bs H; obtain ⟨t350, A240, H⟩ := H; have A24 := Aside0.mk A240; clear A240
   by_cases c25 : t350 = true
   ·subst c25
    have H1 : (some (decide ((l0_1.length : Int) ≤ 24))) = some r := b26_
    replace H := H1; clear H1
    obtain rfl := Option.some.inj H; have ⟨hcz26_0, hcz26_1, hfz26_0, hfz26_1⟩ := b2c BK345.out
    go_wp2_with ((with_reducible refine gate_callee (f := 26) rfl ?_); refine gl 40 Tryz.func26 #[.slice A0_0 l0_0.length c0_0] ?_; (with_reducible refine (spec_l2Affixes.calls k1 _ _ l0_0 true _ ?side1 ?side2 A24.out).mono ?_); (case side1 => exact cq (Kd.C_below HR0_0.out HB.out)); (case side2 => exact HC0_0.out); rintro e w27 ⟨rfl, hb⟩; refine ⟨_, rfl, ?_⟩; replace BK345 := am (blk_below (bq BK345.out) hb); replace HB := am (below_step (bel1 GE345.out) hb); clear hb; have ⟨hcz28_0, hcz28_1, hfz28_0, hfz28_1⟩ := b2c BK345.out)
    go_ret
    exact ⟨eq_, bel1 GE345.out⟩
   replace c25 := Bool.eq_false_iff.mpr c25; subst c25
   have H1 : (some false) = some r := b10_
   replace H := H1; clear H1
   obtain rfl := Option.some.inj H; have ⟨hcz29_0, hcz29_1, hfz29_0, hfz29_1⟩ := b2c BK345.out
   go_wp2_with ((with_reducible refine gate_callee (f := 26) rfl ?_); refine gl 40 Tryz.func26 #[.slice A0_0 l0_0.length c0_0] ?_; (with_reducible refine (spec_l2Affixes.calls k1 _ _ l0_0 false _ ?side1 ?side2 A24.out).mono ?_); (case side1 => exact cq (Kd.C_below HR0_0.out HB.out)); (case side2 => exact HC0_0.out); rintro e w30 ⟨rfl, hb⟩; refine ⟨_, rfl, ?_⟩; replace BK345 := am (blk_below (bq BK345.out) hb); replace HB := am (below_step (bel1 GE345.out) hb); clear hb)
   go_ret
   exact ⟨eq_, bel1 GE345.out⟩
-- shrunk

/-! ### spec_l2Has: function 90 -/
def spec_l2Has.l0 : Nat → ByteArray → ByteArray → Int → Option (Bool)
 | 0, _, _, _ => none
 | k + 1, x0, x1, x5 => if x5 < (x0.size : Int) then (if 0 ≤ x5 then (if x5 ≤ (wrap64 (x5 + 1)) then (if (wrap64 (x5 + 1)) ≤ (x0.size : Int) then (if (x0.extract (x5 : Int).toNat ((wrap64 (x5 + 1)) : Int).toNat).toList = x1.toList then (some true) else (spec_l2Has.l0 k x0 x1 (wrap64 (x5 + 1)))) else (none)) else (none)) else (none)) else (some false)
def spec_l2Has.f (k : Nat) (a0 : ByteArray) (a1 : ByteArray) : Option (Bool) := spec_l2Has.l0 k a0 a1 0
theorem spec_l2Has.calls (k : Nat) (a0 : ByteArray) (a1 : ByteArray) (r : Bool) (w : World) (h : spec_l2Has.f k a0 a1 = some r) :
  Calls Tryz.prog 90 #[.string a0, .string a1] w fun e w' => e = .returned (.bool r) ∧ Drawn0 w w' := by
 have H := h; unfold spec_l2Has.f at H
 clear h
 have H' := am H
 clear H; go_enter Tryz.func90, Tryz.ntmps90; go_wp2
 go_loopg [5] k (fun kq v5 w' => ∃ (x5_1 : Int), v5 = .int .i64 x5_1 ∧ Aside0 (spec_l2Has.l0 kq a0 a1 x5_1 = some r) ∧ Aside0 (kq ≤ k) ∧ Drawn0 w w')
 case atStart => exact ⟨(0), sq, H', ⟨Nat.le_refl _⟩, dr⟩
 case round =>
  clear H'; obtain ⟨x5_1, rfl, HA, HK1, ⟨m1, rfl⟩⟩ := hrel
  cases gk with
  | zero => exact absurd HA.out (by simp [spec_l2Has.l0])
  | succ k1 =>
   have H := HA.out; clear HA; simp only [spec_l2Has.l0] at H
   by_cases c3 : x5_1 < (a0.size : Int)
   ·rw [if_pos c3] at H; have c3b0 := decide_eq_true c3; clear c3
    replace H := ip H; obtain ⟨c4, H⟩ := H; have c4b0 := eq_true c4
    have c4b1 : decide (0 ≤ x5_1) = true := decide_eq_true c4
    clear c4; replace H := ip H; obtain ⟨c5, H⟩ := H; have c5b0 := eq_true c5
    have c5b1 : decide (x5_1 ≤ (wrap64 (x5_1 + 1))) = true := decide_eq_true c5
    replace H := ip H; obtain ⟨c6, H⟩ := H; have c6b0 := eq_true c6
    have c6b1 : decide ((wrap64 (x5_1 + 1)) ≤ (a0.size : Int)) = true := decide_eq_true c6
    by_cases c7 : (a0.extract (x5_1 : Int).toNat ((wrap64 (x5_1 + 1)) : Int).toNat).toList = a1.toList
    ·rw [if_pos c7] at H
     have c7b0 : ((a0.extract (x5_1 : Int).toNat ((wrap64 (x5_1 + 1)) : Int).toNat).toList == a1.toList) = true := beq_iff_eq.mpr c7
     have c7b1 : ((a0.extract (x5_1 : Int).toNat ((wrap64 (x5_1 + 1)) : Int).toNat).toList != a1.toList) = false := bne_eq_false_iff_eq.mpr c7
     clear c7; obtain rfl := Option.some.inj H; go_wp2; go_ret
     exact ⟨sq, dr⟩
    rw [if_neg c7] at H
    have c7b0 : ((a0.extract (x5_1 : Int).toNat ((wrap64 (x5_1 + 1)) : Int).toNat).toList == a1.toList) = false := beq_eq_false_iff_ne.mpr c7
    have c7b1 : ((a0.extract (x5_1 : Int).toNat ((wrap64 (x5_1 + 1)) : Int).toNat).toList != a1.toList) = true := bne_iff_ne.mpr c7
    have H' := am H
    clear H; go_wp2
    go_roundg k1
    case measure => have := HK1.out; omega
    case rel => exact ⟨(wrap64 (x5_1 + 1)), sq, H', ⟨b81_⟩, dr⟩
   rw [if_neg c3] at H; have c3b0 := decide_eq_false c3; clear c3; obtain rfl := Option.some.inj H; go_wp2; go_ret
   exact ⟨sq, dr⟩

/-! ### spec_l2Do: function 91 -/
def spec_l2Do.f (k : Nat) (a0_0 : ByteArray) (a0_1 : Bool) (a0_2 : ByteArray) (a0_3 : ByteArray) (a0_4 : ByteArray) (a1 : ByteArray) : Option (ByteArray × Bool) := if a0_1 = true then ((spec_l2Begins.f a1 a0_4).bind fun t352 => (if t352 = true then (if 0 ≤ (a0_2.size : Int) then (if (a0_2.size : Int) ≤ (a1.size : Int) then (if a0_3.size + (a1.extract a0_2.size a1.size).size ≤ 9223372036854775807 then ((spec_l1Word.f k (a0_3 ++ (a1.extract a0_2.size a1.size))).bind fun t353 => (some (a0_3 ++ (a1.extract a0_2.size a1.size), t353))) else (none)) else (none)) else (none)) else (some ((⟨#[]⟩ : ByteArray), false)))) else ((spec_l2Ends.f a1 a0_4).bind fun t354 => (if t354 = true then (if 0 ≤ (wrap64 ((a1.size : Int) - (a0_2.size : Int))) then (if (wrap64 ((a1.size : Int) - (a0_2.size : Int))) ≤ (a1.size : Int) then (if (a1.extract 0 ((wrap64 ((a1.size : Int) - (a0_2.size : Int))) : Int).toNat).size + a0_3.size ≤ 9223372036854775807 then ((spec_l1Word.f k ((a1.extract 0 ((wrap64 ((a1.size : Int) - (a0_2.size : Int))) : Int).toNat) ++ a0_3)).bind fun t355 => (some ((a1.extract 0 ((wrap64 ((a1.size : Int) - (a0_2.size : Int))) : Int).toNat) ++ a0_3, t355))) else (none)) else (none)) else (none)) else (some ((⟨#[]⟩ : ByteArray), false))))
theorem spec_l2Do.calls (k : Nat) (a0_0 : ByteArray) (a0_1 : Bool) (a0_2 : ByteArray) (a0_3 : ByteArray) (a0_4 : ByteArray) (a1 : ByteArray) (r1 : ByteArray) (r2 : Bool) (w : World) (h : spec_l2Do.f k a0_0 a0_1 a0_2 a0_3 a0_4 a1 = some (r1, r2)) :
  Calls Tryz.prog 91 #[.agg #[.string a0_0, .bool a0_1, .string a0_2, .string a0_3, .string a0_4], .string a1] w fun e w' => e = .returned (.tuple #[.string r1, .bool r2]) ∧ Below w.heap.size w w' := by
 have hu59 := Tryz.underlying59; have HB := am (Below.refl w.heap.size w)
 have H := h; unfold spec_l2Do.f at H
 clear h
 by_cases c3 : a0_1 = true
 ·subst c3
  have H1 : ((spec_l2Begins.f a1 a0_4).bind fun t352 => (if t352 = true then (if 0 ≤ (a0_2.size : Int) then (if (a0_2.size : Int) ≤ (a1.size : Int) then (if a0_3.size + (a1.extract a0_2.size a1.size).size ≤ 9223372036854775807 then ((spec_l1Word.f k (a0_3 ++ (a1.extract a0_2.size a1.size))).bind fun t353 => (some (a0_3 ++ (a1.extract a0_2.size a1.size), t353))) else (none)) else (none)) else (none)) else (some ((⟨#[]⟩ : ByteArray), false)))) = some (r1, r2) := b26_
  replace H := H1; clear H1
  replace H := bs H; obtain ⟨t352, A40, H⟩ := H; have A4 := Aside0.mk A40; clear A40
  by_cases c5 : t352 = true
  ·subst c5
   have H1 : (if 0 ≤ (a0_2.size : Int) then (if (a0_2.size : Int) ≤ (a1.size : Int) then (if a0_3.size + (a1.extract a0_2.size a1.size).size ≤ 9223372036854775807 then ((spec_l1Word.f k (a0_3 ++ (a1.extract a0_2.size a1.size))).bind fun t353 => (some (a0_3 ++ (a1.extract a0_2.size a1.size), t353))) else (none)) else (none)) else (none)) = some (r1, r2) := b26_
   replace H := H1; clear H1; replace H := ip H; obtain ⟨c6, H⟩ := H; have c6b0 := eq_true c6
   have c6b1 : decide (0 ≤ (a0_2.size : Int)) = true := decide_eq_true c6
   clear c6; replace H := ip H; obtain ⟨c7, H⟩ := H; have c7b0 := eq_true c7
   have c7b9 : (a0_2.size ≤ a1.size) = True := eq_true (by omega)
   have c7b6 : decide (a0_2.size ≤ a1.size) = true := decide_eq_true (by omega)
   have c7b1 : decide ((a0_2.size : Int) ≤ (a1.size : Int)) = true := decide_eq_true c7
   clear c7; replace H := ip H; obtain ⟨c8, H⟩ := H; have c8b0 := eq_true c8; have c8b5 := c8
   simp at c8b5
   have c8b4 := eq_false (Nat.not_lt.2 c8b5)
   try have c8b3 : (9223372036854775807 < a0_3.size + (a1.size - a0_2.size)) = False := by
         have h_ := c8
         simp only [ByteArray.size_append, ByteArray.size_extract] at h_
         exact eq_false (by omega)
   have c8b1 : decide (a0_3.size + (a1.extract a0_2.size a1.size).size ≤ 9223372036854775807) = true := decide_eq_true c8
   have c8b2 : (9223372036854775807 < a0_3.size + (a1.extract a0_2.size a1.size).size) = False := eq_false (Nat.not_lt.2 c8)
   replace H := bs H; obtain ⟨t353, A90, H⟩ := H; have A9 := Aside0.mk A90; clear A90
   simp only [Option.some.injEq, Prod.mk.injEq] at H
   obtain ⟨rfl, rfl⟩ := H; go_enter Tryz.func91, Tryz.ntmps91
   go_wp2_with (first | ((with_reducible refine gate_dst (N := 2) rfl ?_); refine bx 2 (cs := #[.string a0_0, .bool true, .string a0_2, .string a0_3, .string a0_4]) (t := 59) ?_; intro gb351 hg w10 hbox hb; have BK351 := am (hbox); have GW351 := am ((b15_ : w.heap.size ≤ gb351)); have GE351 := am ((b15_ : w.heap.size ≤ gb351)); replace HB := am (below_step bel hb); clear hb hbox hg; have ⟨hcz11_0, hcz11_1, hcz11_2, hcz11_3, hcz11_4, hfz11_0, hfz11_1, hfz11_2, hfz11_3, hfz11_4⟩ := b5c BK351.out) | (go_at_call 70; (with_reducible refine (spec_l2Begins.calls a1 a0_4 true _ A4.out).mono ?_); rintro e w' ⟨rfl, ⟨nd, rfl⟩⟩))
   repeat (go_quiet (fail); try go_wp2_with (go_at_call 21; (with_reducible refine (spec_l1Word.calls k (a0_3 ++ (a1.extract a0_2.size a1.size)) t353 _ A9.out).mono ?_); rintro e w' ⟨rfl, ⟨nd, rfl⟩⟩))
   go_ret2
   exact ⟨eq_, bel1 GE351.out⟩
  replace c5 := Bool.eq_false_iff.mpr c5; subst c5
  have H1 : (some ((⟨#[]⟩ : ByteArray), false)) = some (r1, r2) := b10_
  replace H := H1; clear H1; simp only [Option.some.injEq, Prod.mk.injEq] at H
  obtain ⟨rfl, rfl⟩ := H; go_enter Tryz.func91, Tryz.ntmps91
  go_wp2_with (first | ((with_reducible refine gate_dst (N := 2) rfl ?_); refine bx 2 (cs := #[.string a0_0, .bool true, .string a0_2, .string a0_3, .string a0_4]) (t := 59) ?_; intro gb351 hg w12 hbox hb; have BK351 := am (hbox); have GW351 := am ((b15_ : w.heap.size ≤ gb351)); have GE351 := am ((b15_ : w.heap.size ≤ gb351)); replace HB := am (below_step bel hb); clear hb hbox hg; have ⟨hcz13_0, hcz13_1, hcz13_2, hcz13_3, hcz13_4, hfz13_0, hfz13_1, hfz13_2, hfz13_3, hfz13_4⟩ := b5c BK351.out) | (go_at_call 70; (with_reducible refine (spec_l2Begins.calls a1 a0_4 false _ A4.out).mono ?_); rintro e w' ⟨rfl, ⟨nd, rfl⟩⟩))
  go_ret2
  exact ⟨eq_, bel1 GE351.out⟩
 replace c3 := Bool.eq_false_iff.mpr c3; subst c3
 have H1 : ((spec_l2Ends.f a1 a0_4).bind fun t354 => (if t354 = true then (if 0 ≤ (wrap64 ((a1.size : Int) - (a0_2.size : Int))) then (if (wrap64 ((a1.size : Int) - (a0_2.size : Int))) ≤ (a1.size : Int) then (if (a1.extract 0 ((wrap64 ((a1.size : Int) - (a0_2.size : Int))) : Int).toNat).size + a0_3.size ≤ 9223372036854775807 then ((spec_l1Word.f k ((a1.extract 0 ((wrap64 ((a1.size : Int) - (a0_2.size : Int))) : Int).toNat) ++ a0_3)).bind fun t355 => (some ((a1.extract 0 ((wrap64 ((a1.size : Int) - (a0_2.size : Int))) : Int).toNat) ++ a0_3, t355))) else (none)) else (none)) else (none)) else (some ((⟨#[]⟩ : ByteArray), false)))) = some (r1, r2) := b10_
 replace H := H1; clear H1
 replace H := bs H; obtain ⟨t354, A140, H⟩ := H; have A14 := Aside0.mk A140; clear A140
 by_cases c15 : t354 = true
 ·subst c15
  have H1 : (if 0 ≤ (wrap64 ((a1.size : Int) - (a0_2.size : Int))) then (if (wrap64 ((a1.size : Int) - (a0_2.size : Int))) ≤ (a1.size : Int) then (if (a1.extract 0 ((wrap64 ((a1.size : Int) - (a0_2.size : Int))) : Int).toNat).size + a0_3.size ≤ 9223372036854775807 then ((spec_l1Word.f k ((a1.extract 0 ((wrap64 ((a1.size : Int) - (a0_2.size : Int))) : Int).toNat) ++ a0_3)).bind fun t355 => (some ((a1.extract 0 ((wrap64 ((a1.size : Int) - (a0_2.size : Int))) : Int).toNat) ++ a0_3, t355))) else (none)) else (none)) else (none)) = some (r1, r2) := b26_
  replace H := H1; clear H1
  obtain ⟨ji16, hji16⟩ : ∃ j_ : Int, (wrap64 ((a1.size : Int) - (a0_2.size : Int))) = j_ := ⟨_, rfl⟩
  rw [hji16] at H
  have hji16w : (IntKind.i64.wrap ((a1.size : Int) - (a0_2.size : Int))) = ji16 := (i64_w _).trans hji16
  replace H := ip H; obtain ⟨c17, H⟩ := H; have c17b0 := eq_true c17
  have c17b1 : decide (0 ≤ (ji16)) = true := decide_eq_true c17
  clear c17; replace H := ip H; obtain ⟨c18, H⟩ := H; have c18b0 := eq_true c18
  have c18b1 : decide ((ji16) ≤ (a1.size : Int)) = true := decide_eq_true c18
  clear c18; replace H := ip H; obtain ⟨c19, H⟩ := H; have c19b0 := eq_true c19; have c19b5 := c19
  simp at c19b5
  have c19b4 := eq_false (Nat.not_lt.2 c19b5)
  try have c19b3 : (9223372036854775807 < ((ji16) : Int).toNat + a0_3.size) = False := by
        have h_ := c19
        simp only [ByteArray.size_append, ByteArray.size_extract] at h_
        have g0_ : ((ji16)) ≤ (a1.size : Int) := of_decide_eq_true ad
        exact eq_false (by omega)
  have c19b1 : decide ((a1.extract 0 ((ji16) : Int).toNat).size + a0_3.size ≤ 9223372036854775807) = true := decide_eq_true c19
  have c19b2 : (9223372036854775807 < (a1.extract 0 ((ji16) : Int).toNat).size + a0_3.size) = False := eq_false (Nat.not_lt.2 c19)
  replace H := bs H; obtain ⟨t355, A200, H⟩ := H; have A20 := Aside0.mk A200; clear A200
  simp only [Option.some.injEq, Prod.mk.injEq] at H
  obtain ⟨rfl, rfl⟩ := H; go_enter Tryz.func91, Tryz.ntmps91
  go_wp2_with (first | ((with_reducible refine gate_dst (N := 2) rfl ?_); refine bx 2 (cs := #[.string a0_0, .bool false, .string a0_2, .string a0_3, .string a0_4]) (t := 59) ?_; intro gb351 hg w21 hbox hb; have BK351 := am (hbox); have GW351 := am ((b15_ : w.heap.size ≤ gb351)); have GE351 := am ((b15_ : w.heap.size ≤ gb351)); replace HB := am (below_step bel hb); clear hb hbox hg; have ⟨hcz22_0, hcz22_1, hcz22_2, hcz22_3, hcz22_4, hfz22_0, hfz22_1, hfz22_2, hfz22_3, hfz22_4⟩ := b5c BK351.out) | (go_at_call 71; (with_reducible refine (spec_l2Ends.calls a1 a0_4 true _ A14.out).mono ?_); rintro e w' ⟨rfl, ⟨nd, rfl⟩⟩))
  repeat (go_quiet (fail); try go_wp2_with (go_at_call 21; (with_reducible refine (spec_l1Word.calls k ((a1.extract 0 ((ji16) : Int).toNat) ++ a0_3) t355 _ A20.out).mono ?_); rintro e w' ⟨rfl, ⟨nd, rfl⟩⟩))
  go_ret2
  exact ⟨by rfl, bel1 GE351.out⟩
 replace c15 := Bool.eq_false_iff.mpr c15; subst c15
 have H1 : (some ((⟨#[]⟩ : ByteArray), false)) = some (r1, r2) := b10_
 replace H := H1; clear H1
 simp only [Option.some.injEq, Prod.mk.injEq] at H
 obtain ⟨rfl, rfl⟩ := H; go_enter Tryz.func91, Tryz.ntmps91
 go_wp2_with (first | ((with_reducible refine gate_dst (N := 2) rfl ?_); refine bx 2 (cs := #[.string a0_0, .bool false, .string a0_2, .string a0_3, .string a0_4]) (t := 59) ?_; intro gb351 hg w23 hbox hb; have BK351 := am (hbox); have GW351 := am ((b15_ : w.heap.size ≤ gb351)); have GE351 := am ((b15_ : w.heap.size ≤ gb351)); replace HB := am (below_step bel hb); clear hb hbox hg; have ⟨hcz24_0, hcz24_1, hcz24_2, hcz24_3, hcz24_4, hfz24_0, hfz24_1, hfz24_2, hfz24_3, hfz24_4⟩ := b5c BK351.out) | (go_at_call 71; (with_reducible refine (spec_l2Ends.calls a1 a0_4 false _ A14.out).mono ?_); rintro e w' ⟨rfl, ⟨nd, rfl⟩⟩))
 go_ret2
 exact ⟨eq_, bel1 GE351.out⟩
-- shrunk

/-! ### spec_l2One: function 68 -/
mutual
def spec_l2One.l0 : Nat → List (S59) → ByteArray → Bool → List ByteArray → List ByteArray → Int → Option (List ByteArray)
 | 0, _, _, _, _, _, _ => none
 | k + 1, x0, x1, x2, x3, x9, x10 => if x10 < (x0.length : Int) then (if 0 ≤ x10 then (if (((rd_T59 x0 x10).f1) != x2) = true then (spec_l2One.j1 k x0 x1 x2 x3 x9 x10 true) else ((spec_l2Has.f k x1 ((rd_T59 x0 x10).f0)).bind fun t364 => (spec_l2One.j1 k x0 x1 x2 x3 x9 x10 (!t364)))) else (none)) else (some x9)
def spec_l2One.j1 : Nat → List (S59) → ByteArray → Bool → List ByteArray → List ByteArray → Int → Bool → Option (List ByteArray)
 | 0, _, _, _, _, _, _, _ => none
 | k + 1, x0, x1, x2, x3, x9, x10, x39 => if x39 = true then (spec_l2One.l0 k x0 x1 x2 x3 x9 (wrap64 (x10 + 1))) else (spec_l2One.l1 k x0 x1 x2 x3 x9 x10 0)
def spec_l2One.l1 : Nat → List (S59) → ByteArray → Bool → List ByteArray → List ByteArray → Int → Int → Option (List ByteArray)
 | 0, _, _, _, _, _, _, _ => none
 | k + 1, x0, x1, x2, x3, x9, x10, x11 => if x11 < (x3.length : Int) then (if 0 ≤ x10 then (if x10 < (x0.length : Int) then (if 0 ≤ x11 then ((spec_l2Do.f k ((rd_T59 x0 x10).f0) ((rd_T59 x0 x10).f1) ((rd_T59 x0 x10).f2) ((rd_T59 x0 x10).f3) ((rd_T59 x0 x10).f4) (rdOf ByteArray.empty x3 x11)).bind fun bt367 => (if bt367.2 = true then ((spec_l1Put.f k x9 bt367.1).bind fun t369 => (spec_l2One.l1 k x0 x1 x2 x3 t369 x10 (wrap64 (x11 + 1)))) else (spec_l2One.l1 k x0 x1 x2 x3 x9 x10 (wrap64 (x11 + 1))))) else (none)) else (none)) else (none)) else (spec_l2One.l0 k x0 x1 x2 x3 x9 (wrap64 (x10 + 1)))
end
def spec_l2One.f (k : Nat) (l0 : List (S59)) (a1 : ByteArray) (a2 : Bool) (l3 : List ByteArray) : Option (List ByteArray) := (some (([] : List ByteArray) : List ByteArray)).bind fun y356 => (if y356.length + l3.length < 8796093022208 then (spec_l2One.l0 k l0 a1 a2 l3 (y356 ++ l3) 0) else (none))
def spec_l2One.T9 : Bool × List (List Nat × List Nat) := (true, [([], []), ([], []), ([0, 1], [0, 1]), ([2], [2]), ([], []), ([], []), ([4, 5], [4, 5]), ([6], [6]), ([3, 7], [3, 7]), ([8], [8]), ([9], [9]), ([9], [9]), ([10, 8, 0, 1, 2, 3, 4, 5, 6, 7, 8, 9, 10], [10]), ([11, 12, 0, 1, 2, 3, 4, 5, 6, 7, 8, 9, 10, 11, 12], [11])])
def spec_l2One.B9 : List Nat := [0, 0, 3, 7, 0, 0, 48, 112, 255, 511, 1023, 1023, 2047, 8191]
theorem spec_l2One.tab9 : rtab .any (opsOf Tryz.f68 9) = spec_l2One.T9 := by kernel_rfl
theorem spec_l2One.bits9 : waitsOk spec_l2One.T9.2 spec_l2One.B9 = true := by kernel_rfl
theorem spec_l2One.calls (k : Nat) (A0 : Option Addr) (c0 : Nat) (l0 : List (S59)) (a1 : ByteArray) (a2 : Bool) (A3 : Option Addr) (c3 : Nat) (l3 : List ByteArray) (r : List ByteArray) (w : World) (hr0 : Kd.C k59 w A0 l0.length l0) (hc0 : l0.length ≤ c0) (hr3 : Kd.C Kd.string w A3 l3.length l3) (hc3 : l3.length ≤ c3) (h : spec_l2One.f k l0 a1 a2 l3 = some r) :
  Calls Tryz.prog 68 #[.slice A0 l0.length c0, .string a1, .bool a2, .slice A3 l3.length c3] w fun e w' => ∃ v0_ : Value, e = .returned (v0_) ∧ Kd.V Kd.string 9 w' w.heap.size (fun k_ => (w.heap.size ≤ k_)) v0_ r ∧ Below w.heap.size w w' := by
 have hu59 := Tryz.underlying59; have HR0 := am hr0; have HC0 := am hc0; clear hr0 hc0; have HR3 := am hr3; have HC3 := am hc3; clear hr3 hc3; have HB := am (Below.refl w.heap.size w)
 have H := h; unfold spec_l2One.f at H
 clear h; obtain ⟨y356, hy356⟩ : ∃ y_ : List ByteArray, y_ = (([] : List ByteArray)) := ⟨_, rfl⟩
 replace H := bm H; rw [← hy356] at H
 have Ny356 := am hy356; clear hy356
 replace H := ip H; obtain ⟨c5, H⟩ := H; have LMc5 := Aside0.mk c5; clear c5; obtain ⟨y359, hy359⟩ : ∃ y_ : List ByteArray, y_ = (y356 ++ l3) := ⟨_, rfl⟩
 rw [← hy359] at H
 have Ny359 := am hy359; clear hy359
 have H' := am H
 clear H; go_enter Tryz.func68, Tryz.ntmps68
 go_wp2_with (first | ((with_reducible refine gate_dst (N := 14) rfl ?_); refine Kd.R_lit Kd.string _ 9 ?hg (N := 14) ?hd (xs := ([] : List ByteArray)) (inner := []) (ok := fun _ => True) (okp := fun _ => True) ?hr ?hp (fun _ hk => hk) trivial (Below.refl _ _) (Nat.le_refl _) (by simp) ?_; (case hd => rfl); (case hg => rfl); (case hr => (go_simp; done)); (case hp => exact (Reps.none _ _)); intro v357 w6 ho7 hb hg_ hnew_; clear hg_ hnew_; (rw [← Ny356.out] at ho7); have HO358 := am (Kd.R_lower (Kd.R_newM (M := fun k_ => (w.heap.size ≤ k_)) ho7 (below_size bel) (fun k_ h_ => h_)) (below_size bel)); replace HB := am (below_step bel hb); clear hb ho7) | ((with_reducible refine gate_builtin (b := .append) (xs := #[.tmp 14, .tmp 15]) rfl ?_); at_builtin; refine Kd.R_append_rows Kd.string (w0 := w) w.heap.size rfl (.tmp 14) (.tmp 15) 34 9 (.string ⟨#[]⟩) 16 rfl Tryz.underlying34 info9 rfl (by decide) (by omega) v357 y356 l3 _ _ _ (fun k_ => (w.heap.size ≤ k_)) (fun _ => False) rfl rfl ?aO ?aR (fun _ _ h => h) (fun _ h => h.elim) ?aF ?aB ?aS ?aL ?_; (case aR => exact cq (Kd.C_below HR3.out HB.out)); (case aB => exact bel); (case aF => exact (fun k_ hk => (Nat.le_trans (below_size bel) hk))); (case aO => exact (rq (Kd.R_mono HO358.out (fun _ hk => hk.1)))); (case aS => exact (below_size bel)); (case aL => have := LMc5.out; omega); intro v360 w8 ho hb hg hat; rw [← Ny359.out] at ho; replace HB := am (hb); have HO361 := am (ho); clear HO358; clear ho hb hg hat))
 go_loopg [9, 10] k (fun kq v9 v10 w' => ∃ (x9_1 : List ByteArray) (x10_1 : Int), v10 = .int .i64 x10_1 ∧ Aside0 (spec_l2One.l0 kq l0 a1 a2 l3 x9_1 x10_1 = some r) ∧ Aside0 (kq ≤ k) ∧ Aside0 (Kd.V Kd.string 9 w' w.heap.size (fun k_ => (w.heap.size ≤ k_)) v9 x9_1) ∧ Aside0 (Below w.heap.size w w'))
 case atStart => exact ⟨(y359), (0), sq, H', ⟨Nat.le_refl _⟩, ⟨Kd.R_V (rq HO361.out)⟩, ⟨bel⟩⟩
 case round =>
  clear H'; obtain ⟨x9_1, x10_1, rfl, HA, HK1, HO_9, HB⟩ := hrel
  cases gk with
  | zero => exact absurd HA.out (by simp [spec_l2One.l0])
  | succ k1 =>
   have H := HA.out; clear HA; simp only [spec_l2One.l0] at H
   by_cases c9 : x10_1 < (l0.length : Int)
   ·rw [if_pos c9] at H; have c9b0 := decide_eq_true c9; clear c9; have HC10 := am H; clear H
    go_upto_region 5 with (fail)
    go_cut [39] (fun v39 wc => ∃ (kq : Nat) (x39_9 : Bool), v39 = .bool x39_9 ∧ Aside0 (spec_l2One.j1 kq l0 a1 a2 l3 x9_1 x10_1 x39_9 = some r) ∧ Aside0 (kq ≤ k1) ∧ Aside0 (Kd.V Kd.string 9 wc w.heap.size (fun k_ => (w.heap.size ≤ k_)) u9 x9_1) ∧ Aside0 (Below w.heap.size w wc))
    case first =>
     have H := HC10.out; clear HC10; replace H := it H; obtain ⟨c11b0, H⟩ := H
     (skip)
     by_cases c12 : (((rd_T59 l0 x10_1).f1) != a2) = true
     ·rw [if_pos c12] at H
      have c12b0 : (((rd_T59 l0 x10_1).f1) != a2) = true := c12
      (have c12b1 : decide (((rd_T59 l0 x10_1).f1) = a2) = false := by simpa using c12)
      (have c12b2 : (((rd_T59 l0 x10_1).f1) == a2) = false := by simpa using c12)
      (have c12b3 : ¬ (((rd_T59 l0 x10_1).f1) = a2) := by simpa using c12)
      clear c12
      have H' := am H
      clear H
      have p362 : 0 ≤ (x10_1 : Int) := of_decide_eq_true ad
      have q362 : x10_1 < (l0.length : Int) := of_decide_eq_true ad
      obtain ⟨ad362, e362, hx362_0, hx362_1, hx362_2, hx362_3, hx362_4⟩ := at_T59 HR0.out x10_1 p362 q362; cases e362
      replace hx362_0 := kp HB.out hx362_0; replace hx362_1 := kp HB.out hx362_1; replace hx362_2 := kp HB.out hx362_2; replace hx362_3 := kp HB.out hx362_3; replace hx362_4 := kp HB.out hx362_4; replace p362 := eq_true p362; replace q362 := eq_true q362; go_wp2
      go_meet
      case rel => exact ⟨_, (true), sq, H', ⟨b86_⟩, ⟨vq HO_9.out⟩, ⟨bel⟩⟩
     rw [if_neg c12] at H
     have c12b0 : (((rd_T59 l0 x10_1).f1) != a2) = false := by simpa using c12
     (have c12b1 : decide (((rd_T59 l0 x10_1).f1) = a2) = true := by simpa using c12)
     (have c12b2 : (((rd_T59 l0 x10_1).f1) == a2) = true := by simpa using c12)
     clear c12; replace H := bs H; obtain ⟨t364, A130, H⟩ := H; have A13 := Aside0.mk A130; clear A130
     have H' := am H
     clear H
     have p362 : 0 ≤ (x10_1 : Int) := of_decide_eq_true ad
     have q362 : x10_1 < (l0.length : Int) := of_decide_eq_true ad
     obtain ⟨ad362, e362, hx362_0, hx362_1, hx362_2, hx362_3, hx362_4⟩ := at_T59 HR0.out x10_1 p362 q362; cases e362; replace hx362_0 := kp HB.out hx362_0; replace hx362_1 := kp HB.out hx362_1; replace hx362_2 := kp HB.out hx362_2; replace hx362_3 := kp HB.out hx362_3; replace hx362_4 := kp HB.out hx362_4; replace p362 := eq_true p362; replace q362 := eq_true q362
     have p363 : 0 ≤ (x10_1 : Int) := of_decide_eq_true ad
     have q363 : x10_1 < (l0.length : Int) := of_decide_eq_true ad
     obtain ⟨ad363, e363, hx363_0, hx363_1, hx363_2, hx363_3, hx363_4⟩ := at_T59 HR0.out x10_1 p363 q363
     obtain rfl : ad362 = ad363 := (by injection e363)
     replace hx363_0 := kp HB.out hx363_0; replace hx363_1 := kp HB.out hx363_1; replace hx363_2 := kp HB.out hx363_2; replace hx363_3 := kp HB.out hx363_3; replace hx363_4 := kp HB.out hx363_4; replace p363 := eq_true p363; replace q363 := eq_true q363
     go_wp2_with (go_at_call 90; (with_reducible refine (spec_l2Has.calls k1 a1 ((rd_T59 l0 x10_1).f0) t364 _ A13.out).mono ?_); rintro e w' ⟨rfl, ⟨nd, rfl⟩⟩)
     go_meet
     case rel => exact ⟨_, (!t364), sq, H', ⟨b86_⟩, ⟨vq HO_9.out⟩, ⟨bel⟩⟩
    case rest =>
     clear HC10; clear c9b0; obtain ⟨kq, x39_9, rfl, HA, HJ9, HO_9, HB⟩ := hcut
     cases kq with
     | zero => exact absurd HA.out (by simp [spec_l2One.j1])
     | succ kj9 =>
      have H := HA.out; clear HA; simp only [spec_l2One.j1] at H
      by_cases c14 : x39_9 = true
      ·subst c14
       have H1 : (spec_l2One.l0 kj9 l0 a1 a2 l3 x9_1 (wrap64 (x10_1 + 1))) = some r := b26_
       replace H := H1; clear H1
       have H' := am H
       clear H; go_wp2
       go_roundg kj9
       case measure => have := HK1.out; have := HJ9.out; omega
       case rel => exact ⟨(x9_1), (wrap64 (x10_1 + 1)), sq, H', ⟨by have := HK1.out; have := HJ9.out; omega⟩, ⟨vq HO_9.out⟩, ⟨bel⟩⟩
      replace c14 := Bool.eq_false_iff.mpr c14; subst c14
      have H1 : (spec_l2One.l1 kj9 l0 a1 a2 l3 x9_1 x10_1 0) = some r := b10_
      replace H := H1; clear H1
      have H' := am H
      clear H; go_wp2
      go_loopg [9, 11] kj9 (fun kq v9 v11 w' => ∃ (x9_3 : List ByteArray) (x11_3 : Int), v11 = .int .i64 x11_3 ∧ Aside0 (spec_l2One.l1 kq l0 a1 a2 l3 x9_3 x10_1 x11_3 = some r) ∧ Aside0 (kq ≤ kj9) ∧ Aside0 (Kd.V Kd.string 9 w' w.heap.size (fun k_ => (w.heap.size ≤ k_)) v9 x9_3) ∧ Aside0 (Below w.heap.size w w'))
      case atStart => exact ⟨(x9_1), (0), sq, H', ⟨Nat.le_refl _⟩, ⟨vq HO_9.out⟩, ⟨bel⟩⟩
      case round =>
       clear H'; obtain ⟨x9_3, x11_3, rfl, HA, HK3, HO_9, HB⟩ := hrel
       cases gk with
       | zero => exact absurd HA.out (by simp [spec_l2One.l1])
       | succ k3 =>
        have H := HA.out; clear HA; simp only [spec_l2One.l1] at H
        by_cases c15 : x11_3 < (l3.length : Int)
        ·rw [if_pos c15] at H; have c15b0 := decide_eq_true c15; clear c15
         replace H := it H; obtain ⟨c16b0, H⟩ := H; replace H := it H; obtain ⟨c17b0, H⟩ := H; replace H := it H; obtain ⟨c18b0, H⟩ := H; replace H := bs H; obtain ⟨⟨t367, t368⟩, A190, H⟩ := H; dsimp only at H; have A19 := Aside0.mk A190; clear A190
         by_cases c20 : t368 = true
         ·subst c20
          have H1 : ((spec_l1Put.f k3 x9_3 t367).bind fun t369 => (spec_l2One.l1 k3 l0 a1 a2 l3 t369 x10_1 (wrap64 (x11_3 + 1)))) = some r := b26_
          replace H := H1; clear H1
          replace H := bs H; obtain ⟨t369, A210, H⟩ := H; have A21 := Aside0.mk A210; clear A210
          have H' := am H
          clear H
          try go_wp2
          replace HO_9 := am (Kd.V_drew HO_9.out); replace HB := am (below_drew1 HB.out)
          have p365 : 0 ≤ (x10_1 : Int) := of_decide_eq_true ad
          have q365 : x10_1 < (l0.length : Int) := of_decide_eq_true ad
          obtain ⟨ad365, e365, hx365_0, hx365_1, hx365_2, hx365_3, hx365_4⟩ := at_T59 HR0.out x10_1 p365 q365; have hw365_4 := hx365_4; have hw365_3 := hx365_3; have hw365_2 := hx365_2; have hw365_1 := hx365_1; have hw365_0 := hx365_0; cases e365; replace hx365_0 := kp HB.out hx365_0; replace hx365_1 := kp HB.out hx365_1; replace hx365_2 := kp HB.out hx365_2; replace hx365_3 := kp HB.out hx365_3; replace hx365_4 := kp HB.out hx365_4; replace p365 := eq_true p365; replace q365 := eq_true q365
          have p366 : 0 ≤ (x11_3 : Int) := of_decide_eq_true ad
          have q366 : x11_3 < (l3.length : Int) := of_decide_eq_true ad
          obtain ⟨ad366, e366, hx366_0⟩ := Kd.at_string HR3.out x11_3 p366 q366; have hw366_0 := hx366_0; cases e366; replace hx366_0 := kp HB.out hx366_0; replace p366 := eq_true p366; replace q366 := eq_true q366
          refine st (n := 14) (S := fun w' => w'.cell? (ad365.add ((x10_1).toNat * 5)) = some (.string ((rd_T59 l0 x10_1).f0)) ∧ w'.cell? ⟨(ad365.add ((x10_1).toNat * 5)).block, (ad365.add ((x10_1).toNat * 5)).off + 1, none⟩ = some (.bool ((rd_T59 l0 x10_1).f1)) ∧ w'.cell? ⟨(ad365.add ((x10_1).toNat * 5)).block, (ad365.add ((x10_1).toNat * 5)).off + 2, none⟩ = some (.string ((rd_T59 l0 x10_1).f2)) ∧ w'.cell? ⟨(ad365.add ((x10_1).toNat * 5)).block, (ad365.add ((x10_1).toNat * 5)).off + 3, none⟩ = some (.string ((rd_T59 l0 x10_1).f3)) ∧ w'.cell? ⟨(ad365.add ((x10_1).toNat * 5)).block, (ad365.add ((x10_1).toNat * 5)).off + 4, none⟩ = some (.string ((rd_T59 l0 x10_1).f4)) ∧ w'.cell? (ad366.add (x11_3).toNat) = some (.string (rdOf ByteArray.empty l3 x11_3))) (ds := []) ⟨(kp HB.out hw365_0), (kp HB.out hw365_1), (kp HB.out hw365_2), (kp HB.out hw365_3), (kp HB.out hw365_4), (kp HB.out hw366_0)⟩ (fun hHeld => ?_); refine with_tabW spec_l2One.tab9 spec_l2One.bits9 (fun HT_ HW_ => ?_)
          generalize wr.drew = w22 at HO_9 HB hx365_0 hx365_1 hx365_2 hx365_3 hx365_4 hx366_0 hHeld ⊢; refine pu 0 47 ?_; refine pu 1 48 ?_; refine pu 2 49 ?_; refine pu 4 51 ?_; refine pu 5 52 ?_; refine pu 6 53 ?_; refine tk6 3 50 hHeld ?_; refine tk6 7 54 hHeld ?_; refine on1 8 55 (fun K hK => ?_)
          refine go1 Tryz.func91 #[.agg #[.string ((rd_T59 l0 x10_1).f0), .bool ((rd_T59 l0 x10_1).f1), .string ((rd_T59 l0 x10_1).f2), .string ((rd_T59 l0 x10_1).f3), .string ((rd_T59 l0 x10_1).f4)], .string (rdOf ByteArray.empty l3 x11_3)] ?_
          with_reducible refine (spec_l2Do.calls k3 ((rd_T59 l0 x10_1).f0) ((rd_T59 l0 x10_1).f1) ((rd_T59 l0 x10_1).f2) ((rd_T59 l0 x10_1).f3) ((rd_T59 l0 x10_1).f4) (rdOf ByteArray.empty l3 x11_3) t367 true _ A19.out).mono ?_
          rintro e w23 ⟨rfl, hb⟩; refine ⟨_, rfl, ?_⟩; replace HO_9 := am (Kd.V_below (vq HO_9.out) hb); replace HB := am (below_step bel hb); clear hb; refine hK.out _ _ ⟨(kp HB.out hw365_0), (kp HB.out hw365_1), (kp HB.out hw365_2), (kp HB.out hw365_3), (kp HB.out hw365_4), (kp HB.out hw366_0)⟩ (fun hHeld => ?_); clear hK K; refine nm 55 ?_; refine pu 9 46 ?_; refine pu 10 56 ?_; refine pu 11 57 ?_; refine pu 12 12 ?_; refine pu 13 13 ?_
          refine done_ (done_of HT_.out (by kernel_rfl)) ?_
          obtain ⟨Ao24, co24, eo24⟩ := Kd.V_slice HO_9.out; subst eo24
          try go_wp2_with ((with_reducible refine gate_callee (f := 45) rfl ?_); refine gl 61 Tryz.func45 #[.slice Ao24 x9_3.length co24, .string t367] ?_; (with_reducible refine (spec_l1Put.calls k3 (fun k_ => (w.heap.size ≤ k_)) _ _ x9_3 t367 t369 _ ?side1 A21.out).mono ?_); (case side1 => exact HO_9.out); rintro e w25 ⟨v370, rfl, ho0, hb⟩; refine ⟨_, rfl, ?_⟩; replace HO_9 := am (Kd.V_below (vq HO_9.out) hb); have HO371 := am (Kd.V_lower (Kd.V_mono (ok' := fun k_ => (w.heap.size ≤ k_)) ho0 (fun k_ hk_ => Or.elim hk_ (fun hs_ => hs_) (fun hn_ => (Nat.le_trans (below_size bel) hn_)))) (below_size bel)); replace HB := am (below_step bel hb); clear hb; clear ho0)
          go_roundg k3
          case measure => have := HK1.out; have := HJ9.out; have := HK3.out; omega
          case rel => exact ⟨(t369), (wrap64 (x11_3 + 1)), sq, H', ⟨by have := HK1.out; have := HJ9.out; have := HK3.out; omega⟩, ⟨vq HO371.out⟩, ⟨bel⟩⟩
         replace c20 := Bool.eq_false_iff.mpr c20; subst c20
         have H1 : (spec_l2One.l1 k3 l0 a1 a2 l3 x9_3 x10_1 (wrap64 (x11_3 + 1))) = some r := b10_
         replace H := H1; clear H1
         have H' := am H
         clear H
         try go_wp2
         replace HO_9 := am (Kd.V_drew HO_9.out); replace HB := am (below_drew1 HB.out)
         have p365 : 0 ≤ (x10_1 : Int) := of_decide_eq_true ad
         have q365 : x10_1 < (l0.length : Int) := of_decide_eq_true ad
         obtain ⟨ad365, e365, hx365_0, hx365_1, hx365_2, hx365_3, hx365_4⟩ := at_T59 HR0.out x10_1 p365 q365; have hw365_4 := hx365_4; have hw365_3 := hx365_3; have hw365_2 := hx365_2; have hw365_1 := hx365_1; have hw365_0 := hx365_0; cases e365; replace hx365_0 := kp HB.out hx365_0; replace hx365_1 := kp HB.out hx365_1; replace hx365_2 := kp HB.out hx365_2; replace hx365_3 := kp HB.out hx365_3; replace hx365_4 := kp HB.out hx365_4; replace p365 := eq_true p365; replace q365 := eq_true q365
         have p366 : 0 ≤ (x11_3 : Int) := of_decide_eq_true ad
         have q366 : x11_3 < (l3.length : Int) := of_decide_eq_true ad
         obtain ⟨ad366, e366, hx366_0⟩ := Kd.at_string HR3.out x11_3 p366 q366; have hw366_0 := hx366_0; cases e366; replace hx366_0 := kp HB.out hx366_0; replace p366 := eq_true p366; replace q366 := eq_true q366
         refine st (n := 14) (S := fun w' => w'.cell? (ad365.add ((x10_1).toNat * 5)) = some (.string ((rd_T59 l0 x10_1).f0)) ∧ w'.cell? ⟨(ad365.add ((x10_1).toNat * 5)).block, (ad365.add ((x10_1).toNat * 5)).off + 1, none⟩ = some (.bool ((rd_T59 l0 x10_1).f1)) ∧ w'.cell? ⟨(ad365.add ((x10_1).toNat * 5)).block, (ad365.add ((x10_1).toNat * 5)).off + 2, none⟩ = some (.string ((rd_T59 l0 x10_1).f2)) ∧ w'.cell? ⟨(ad365.add ((x10_1).toNat * 5)).block, (ad365.add ((x10_1).toNat * 5)).off + 3, none⟩ = some (.string ((rd_T59 l0 x10_1).f3)) ∧ w'.cell? ⟨(ad365.add ((x10_1).toNat * 5)).block, (ad365.add ((x10_1).toNat * 5)).off + 4, none⟩ = some (.string ((rd_T59 l0 x10_1).f4)) ∧ w'.cell? (ad366.add (x11_3).toNat) = some (.string (rdOf ByteArray.empty l3 x11_3))) (ds := []) ⟨(kp HB.out hw365_0), (kp HB.out hw365_1), (kp HB.out hw365_2), (kp HB.out hw365_3), (kp HB.out hw365_4), (kp HB.out hw366_0)⟩ (fun hHeld => ?_); refine with_tabW spec_l2One.tab9 spec_l2One.bits9 (fun HT_ HW_ => ?_)
         generalize wr.drew = w26 at HO_9 HB hx365_0 hx365_1 hx365_2 hx365_3 hx365_4 hx366_0 hHeld ⊢; refine pu 0 47 ?_; refine pu 1 48 ?_; refine pu 2 49 ?_; refine pu 4 51 ?_; refine pu 5 52 ?_; refine pu 6 53 ?_; refine tk6 3 50 hHeld ?_; refine tk6 7 54 hHeld ?_; refine on1 8 55 (fun K hK => ?_)
         refine go1 Tryz.func91 #[.agg #[.string ((rd_T59 l0 x10_1).f0), .bool ((rd_T59 l0 x10_1).f1), .string ((rd_T59 l0 x10_1).f2), .string ((rd_T59 l0 x10_1).f3), .string ((rd_T59 l0 x10_1).f4)], .string (rdOf ByteArray.empty l3 x11_3)] ?_
         with_reducible refine (spec_l2Do.calls k3 ((rd_T59 l0 x10_1).f0) ((rd_T59 l0 x10_1).f1) ((rd_T59 l0 x10_1).f2) ((rd_T59 l0 x10_1).f3) ((rd_T59 l0 x10_1).f4) (rdOf ByteArray.empty l3 x11_3) t367 false _ A19.out).mono ?_
         rintro e w27 ⟨rfl, hb⟩; refine ⟨_, rfl, ?_⟩; replace HO_9 := am (Kd.V_below (vq HO_9.out) hb); replace HB := am (below_step bel hb); clear hb; refine hK.out _ _ ⟨(kp HB.out hw365_0), (kp HB.out hw365_1), (kp HB.out hw365_2), (kp HB.out hw365_3), (kp HB.out hw365_4), (kp HB.out hw366_0)⟩ (fun hHeld => ?_); clear hK K; refine nm 55 ?_; refine pu 9 46 ?_; refine pu 10 56 ?_; refine pu 11 57 ?_; refine pu 12 12 ?_; refine pu 13 13 ?_
         refine done_ (done_of HT_.out (by kernel_rfl)) ?_
         try go_wp2
         go_roundg k3
         case measure => have := HK1.out; have := HJ9.out; have := HK3.out; omega
         case rel => exact ⟨(x9_3), (wrap64 (x11_3 + 1)), sq, H', ⟨by have := HK1.out; have := HJ9.out; have := HK3.out; omega⟩, ⟨vq HO_9.out⟩, ⟨bel⟩⟩
        rw [if_neg c15] at H; have c15b0 := decide_eq_false c15; clear c15
        have H' := am H
        clear H; go_wp2
        go_roundg k3
        case measure => have := HK1.out; have := HJ9.out; have := HK3.out; omega
        case rel => exact ⟨(x9_3), (wrap64 (x10_1 + 1)), sq, H', ⟨by have := HK1.out; have := HJ9.out; have := HK3.out; omega⟩, ⟨vq HO_9.out⟩, ⟨bel⟩⟩
   rw [if_neg c9] at H; have c9b0 := decide_eq_false c9; clear c9; obtain rfl := Option.some.inj H; go_wp2; go_ret
   exact ⟨_, eq_, by (with_reducible repeat (fail)); exact HO_9.out, bel⟩
end Go.Proofs.YtdfnijaacnlfaaaGreat.QFnBookGuesses

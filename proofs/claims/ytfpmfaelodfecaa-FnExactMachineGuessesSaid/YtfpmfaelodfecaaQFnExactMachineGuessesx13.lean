import Derived.Test.YtfpmfaelodfecaaQFnExactMachineGuessesx0
import Derived.Test.YtfpmfaelodfecaaQFnExactMachineGuessesx10
import Derived.Test.YtfpmfaelodfecaaVMSh2
import Derived.Test.YtfpmfaelodfecaaQFnExactMachineGuessesx6
namespace Go.Proofs.Ytfpmfaelodfecaa.QFnExactMachineGuesses
open Go.RowKit Go.Proofs.YtfpmfaelodfecaaW.PrintWords Go.Proofs.YtfpmfaelodfecaaW.PrintLast Go.Proofs.YtfpmfaelodfecaaW.PrintMore Go.Proofs.Ytfpmfaelodfecaa.Sh
attribute [local go_sem] max2_int min2_int max_two min_two max_three min_three max_four min_four
set_option linter.unusedVariables false
set_option linter.unusedSimpArgs false
set_option maxHeartbeats 8000000
set_option maxRecDepth 100000
-- shrunk

/-! ### impl_MachineGuesses: function 28 -/
def impl_MachineGuesses.l0 : Nat → List (S94) → List ByteArray → List ByteArray → Int → Int → Option (List ByteArray)
 | 0, _, _, _, _, _ => none
 | k + 1, x0, x5, x14, x15, x16 => if x16 < x15 then (if 0 ≤ x16 then (if x16 < (x14.length : Int) then ((impl_MachineKnows.f k x0 (rdOf ByteArray.empty x14 x16)).bind fun t269 => (if t269 = true then (if x5.length < 8796093022208 then (impl_MachineGuesses.l0 k x0 (x5 ++ [rdOf ByteArray.empty x14 x16]) x14 x15 (wrap64 (x16 + 1))) else (none)) else (impl_MachineGuesses.l0 k x0 x5 x14 x15 (wrap64 (x16 + 1))))) else (none)) else (none)) else (some x5)
def impl_MachineGuesses.f (k : Nat) (l0 : List (S94)) (a1 : ByteArray) : Option (List ByteArray) := (some (([] : List ByteArray) : List ByteArray)).bind fun y261 => ((impl_MachineOk.f k l0).bind fun t264 => (if t264 = true then ((impl_Near.f k a1).bind fun t265 => (impl_MachineGuesses.l0 k l0 y261 t265 (t265.length : Int) 0)) else (some y261)))
theorem impl_MachineGuesses.calls (k : Nat) (A0 : Option Addr) (c0 : Nat) (l0 : List (S94)) (a1 : ByteArray) (r : List ByteArray) (w : World) (hr0 : Kd.C k94 w A0 l0.length l0) (hc0 : l0.length ≤ c0) (h : impl_MachineGuesses.f k l0 a1 = some r) :
  Calls Try.prog 28 #[.slice A0 l0.length c0, .string a1] w fun e w' => ∃ v0_ : Value, e = .returned (v0_) ∧ Kd.R Kd.string 9 w' w.heap.size (fun _ => True) v0_ r ∧ Below w.heap.size w w' := by
 have HR0 := am hr0; have HC0 := am hc0; clear hr0 hc0; have HB := am (Below.refl w.heap.size w)
 have H : ((some (([] : List ByteArray) : List ByteArray)).bind fun y261 => ((impl_MachineOk.f k l0).bind fun t264 => (if t264 = true then ((impl_Near.f k a1).bind fun t265 => (impl_MachineGuesses.l0 k l0 y261 t265 (t265.length : Int) 0)) else (some y261)))) = some r := h
 clear h; obtain ⟨y261, hy261⟩ : ∃ y_ : List ByteArray, y_ = (([] : List ByteArray)) := ⟨_, rfl⟩
 replace H : ((impl_MachineOk.f k l0).bind fun t264 => (if t264 = true then ((impl_Near.f k a1).bind fun t265 => (impl_MachineGuesses.l0 k l0 y261 t265 (t265.length : Int) 0)) else (some y261))) = some r := by first | (rw [hy261]; with_reducible exact H) | (have H2_ := bm H; rw [hy261]; with_reducible exact H2_) | (with_reducible exact bm H) | with_reducible exact H | (rw [hy261]; exact H) | exact H
 have Ny261 := am hy261; clear hy261; replace H := bs H; obtain ⟨t264, A30, H⟩ := H; replace H : (if t264 = true then ((impl_Near.f k a1).bind fun t265 => (impl_MachineGuesses.l0 k l0 y261 t265 (t265.length : Int) 0)) else (some y261)) = some r := H; have A3 := Aside0.mk A30; clear A30
 by_cases c4 : t264 = true
 ·subst c4
  have H1 : ((impl_Near.f k a1).bind fun t265 => (impl_MachineGuesses.l0 k l0 y261 t265 (t265.length : Int) 0)) = some r := b11_
  replace H := H1; clear H1
  replace H := bs H; obtain ⟨t265, A50, H⟩ := H; replace H : (impl_MachineGuesses.l0 k l0 y261 t265 (t265.length : Int) 0) = some r := H; have A5 := Aside0.mk A50; clear A50
  have H' := am H
  clear H; go_enter Try.func28, Try.ntmps28
  go_wp2_with (first | ((with_reducible refine gate_dst (N := 8) rfl ?_); refine Kd.R_lit Kd.string _ 9 ?hg (N := 8) ?hd (xs := ([] : List ByteArray)) (inner := []) (ok := fun _ => True) (okp := fun _ => True) ?hr ?hp (fun _ hk => hk) trivial (Below.refl _ _) (Nat.le_refl _) (by simp) ?_; (case hd => rfl); (case hg => rfl); (case hr => first | (go_simp; done) | (go_simp; rfl)); (case hp => exact (Reps.none _ _)); intro v262 w6 ho7 hb hg_ hnew_; clear hg_ hnew_; (first | rw [← Ny261.out] at ho7 | (simp only [Int.reduceToNat] at ho7; rw [← Ny261.out] at ho7) | (simp only [Int.toNat_natCast] at ho7; rw [← Ny261.out] at ho7)); have HO263 := am (Kd.R_lower ho7 (below_size bel)); replace HB := am (below_step bel hb); clear hb ho7) | ((with_reducible refine gate_callee (f := 44) rfl ?_); refine goesL_ (some 10) rfl rfl Try.func44 (by kernel_rfl) rfl #[.slice A0 l0.length c0] rfl mq ?_; (with_reducible refine (impl_MachineOk.calls k _ _ l0 true _ ?side1 ?side2 A3.out).mono ?_); (case side1 => exact cq (Kd.C_below HR0.out HB.out)); (case side2 => exact HC0.out); rintro e w8 ⟨rfl, hb⟩; refine ⟨_, rfl, ?_⟩; replace HO263 := am (Kd.R_below (rq HO263.out) hb); replace HB := am (below_step bel hb); (try clear hb); (try clear hb2); (try clear hk); (try clear hi)) | ((with_reducible refine gate_callee (f := 73) rfl ?_); refine goesL_ (some 14) rfl rfl Try.func73 (by kernel_rfl) rfl #[.string a1] rfl mq ?_; (with_reducible refine (impl_Near.calls k a1 t265 _ A5.out).mono ?_); rintro e w9 ⟨v266, rfl, ho0, hb⟩; refine ⟨_, rfl, ?_⟩; have HO267 := am (Kd.R_lower (Kd.R_new' ho0 (Kd.R_lt (rq HO263.out))) (below_size bel)); replace HO263 := am (Kd.R_elder' (rq HO263.out) (Kd.R_base ho0) hb); replace HB := am (below_step bel hb); (try clear hb); (try clear hb2); (try clear hk); (try clear hi); (try clear ho0); obtain ⟨Ao10, co10, eo10⟩ := Kd.R_slice HO267.out; subst eo10))
  go_loopg [5, 16] k (fun kq v5 v16 w' => ∃ (x5_1 : List ByteArray) (x16_1 : Int), v16 = .int .i64 x16_1 ∧ Aside0 (impl_MachineGuesses.l0 kq l0 x5_1 t265 (t265.length : Int) x16_1 = some r) ∧ Aside0 (kq ≤ k) ∧ Aside0 (Kd.R Kd.string 9 w' w.heap.size (fun k_ => some k_ ≠ ((.slice Ao10 t265.length co10) : Value).ownBlock) v5 x5_1) ∧ Aside0 (Kd.R Kd.string 9 w' w.heap.size (fun k_ => some k_ ≠ (v5 : Value).ownBlock) (.slice Ao10 t265.length co10) t265) ∧ Aside0 (Below w.heap.size w w'))
  case atStart => exact ⟨(y261), (0), sq, H', ⟨Nat.le_refl _⟩, ⟨rq (Kd.R_mono HO263.out (fun _ hk => hk.2))⟩, ⟨rq (Kd.R_mono HO267.out (fun _ hk => hk.2))⟩, ⟨bel⟩⟩
  case round =>
   clear H'; (try clear c2); (try clear p2); (try clear c4); (try clear c7); obtain ⟨x5_1, x16_1, rfl, HA, HK1, HO_5, HO_14, HB⟩ := hrel
   cases gk with
   | zero => exact absurd HA.out (by simp [impl_MachineGuesses.l0])
   | succ k1 =>
    have H := HA.out; clear HA
    simp only [impl_MachineGuesses.l0] at H
    by_cases c11 : x16_1 < (t265.length : Int)
    ·rw [if_pos c11] at H; have c11b0 := decide_eq_true c11; clear c11
     replace H := it H; obtain ⟨c12b0, H⟩ := H
     replace H := it H; obtain ⟨c13b0, H⟩ := H; replace H := bs H; obtain ⟨t269, A140, H⟩ := H; replace H : (if t269 = true then (if x5_1.length < 8796093022208 then (impl_MachineGuesses.l0 k1 l0 (x5_1 ++ [rdOf ByteArray.empty t265 x16_1]) t265 (t265.length : Int) (wrap64 (x16_1 + 1))) else (none)) else (impl_MachineGuesses.l0 k1 l0 x5_1 t265 (t265.length : Int) (wrap64 (x16_1 + 1)))) = some r := H; have A14 := Aside0.mk A140; clear A140
     by_cases c15 : t269 = true
     ·subst c15
      have H1 : (if x5_1.length < 8796093022208 then (impl_MachineGuesses.l0 k1 l0 (x5_1 ++ [rdOf ByteArray.empty t265 x16_1]) t265 (t265.length : Int) (wrap64 (x16_1 + 1))) else (none)) = some r := b11_
      replace H := H1; clear H1
      replace H := ip H; obtain ⟨c16, H⟩ := H; have LMc16 := Aside0.mk c16; clear c16; obtain ⟨y270, hy270⟩ : ∃ y_ : List ByteArray, y_ = (x5_1 ++ [rdOf ByteArray.empty t265 x16_1]) := ⟨_, rfl⟩
      replace H : (impl_MachineGuesses.l0 k1 l0 y270 t265 (t265.length : Int) (wrap64 (x16_1 + 1))) = some r := by first | (rw [hy270]; with_reducible exact H) | (have H2_ := bm H; rw [hy270]; with_reducible exact H2_) | (with_reducible exact bm H) | with_reducible exact H | (rw [hy270]; exact H) | exact H
      have Ny270 := am hy270; clear hy270
      have H' := am H
      clear H
      have p268 : 0 ≤ (x16_1 : Int) := of_decide_eq_true ad
      have q268 : x16_1 < (t265.length : Int) := of_decide_eq_true ad
      obtain ⟨ad268, e268, hx268_0⟩ := Kd.at_string (Kd.R_reads' HO_14.out).2.2 x16_1 p268 q268
      cases e268
      replace p268 := eq_true p268; replace q268 := eq_true q268
      go_wp2_with (first | ((with_reducible refine gate_callee (f := 37) rfl ?_); refine goesL_ (some 22) rfl rfl Try.func37 (by kernel_rfl) rfl #[.slice A0 l0.length c0, .string (rdOf ByteArray.empty t265 x16_1)] rfl mq ?_; (with_reducible refine (impl_MachineKnows.calls k1 _ _ l0 (rdOf ByteArray.empty t265 x16_1) true _ ?side1 ?side2 A14.out).mono ?_); (case side1 => exact cq (Kd.C_below HR0.out HB.out)); (case side2 => exact HC0.out); rintro e w17 ⟨rfl, hb⟩; refine ⟨_, rfl, ?_⟩; replace HO_5 := am (Kd.R_below (rq HO_5.out) hb); replace HO_14 := am (Kd.R_below (rq HO_14.out) hb); replace HB := am (below_step bel hb); (try clear hb); (try clear hb2); (try clear hk); (try clear hi)) | ((with_reducible refine gate_builtin (b := .append) (xs := #[.tmp 23, .tmp 25]) rfl ?_); at_builtin; refine Kd.R_append Kd.string (w0 := w) w.heap.size rfl (.tmp 23) (.tmp 25) 22 9 (.string ⟨#[]⟩) 16 rfl Try.underlying22 info9 rfl (by decide) (by omega) u5 x5_1 (rdOf ByteArray.empty t265 x16_1) [.string (rdOf ByteArray.empty t265 x16_1)] (fun k_ => some k_ ≠ (.slice (some ad268) t265.length co10 : Value).ownBlock) (fun _ => False) rfl rfl ?aP (fun _ hk => hk.elim) ?aF ?aO ?aB ?aS ?aL ?_; (case aP => exact rfl); (case aB => exact bel); (case aF => exact (fun k_ hk => Kd.fresh' (Kd.R_lt (rq HO_14.out)) k_ hk)); (case aO => exact (rq HO_5.out)); (case aS => exact (below_size bel)); (case aL => have := LMc16.out; omega); intro v271 w18 ho hb hg hat; rw [← Ny270.out] at ho; replace HO_14 := am (Kd.R_after (ok := (fun _ => True)) (rq (Kd.R_mono HO_14.out (fun _ hk => ⟨trivial, hk⟩))) hg hat); replace HB := am (hb); have HO272 := am (ho); clear HO_5; clear ho hb hg hat))
      go_roundg k1
      case measure => have := HK1.out; omega
      case rel => exact ⟨(y270), (wrap64 (x16_1 + 1)), sq, H', ⟨b21_⟩, ⟨rq HO272.out⟩, ⟨rq (Kd.R_mono HO_14.out (fun _ hk => hk.2))⟩, ⟨bel⟩⟩
     replace c15 := Bool.eq_false_iff.mpr c15; subst c15
     have H1 : (impl_MachineGuesses.l0 k1 l0 x5_1 t265 (t265.length : Int) (wrap64 (x16_1 + 1))) = some r := b5_
     replace H := H1; clear H1
     have H' := am H
     clear H
     have p268 : 0 ≤ (x16_1 : Int) := of_decide_eq_true ad
     have q268 : x16_1 < (t265.length : Int) := of_decide_eq_true ad
     obtain ⟨ad268, e268, hx268_0⟩ := Kd.at_string (Kd.R_reads' HO_14.out).2.2 x16_1 p268 q268
     cases e268
     replace p268 := eq_true p268; replace q268 := eq_true q268
     go_wp2_with (first | ((with_reducible refine gate_callee (f := 37) rfl ?_); refine goesL_ (some 22) rfl rfl Try.func37 (by kernel_rfl) rfl #[.slice A0 l0.length c0, .string (rdOf ByteArray.empty t265 x16_1)] rfl mq ?_; (with_reducible refine (impl_MachineKnows.calls k1 _ _ l0 (rdOf ByteArray.empty t265 x16_1) false _ ?side1 ?side2 A14.out).mono ?_); (case side1 => exact cq (Kd.C_below HR0.out HB.out)); (case side2 => exact HC0.out); rintro e w19 ⟨rfl, hb⟩; refine ⟨_, rfl, ?_⟩; replace HO_5 := am (Kd.R_below (rq HO_5.out) hb); replace HO_14 := am (Kd.R_below (rq HO_14.out) hb); replace HB := am (below_step bel hb); (try clear hb); (try clear hb2); (try clear hk); (try clear hi)))
     go_roundg k1
     case measure => have := HK1.out; omega
     case rel => exact ⟨(x5_1), (wrap64 (x16_1 + 1)), sq, H', ⟨b21_⟩, ⟨rq HO_5.out⟩, ⟨rq HO_14.out⟩, ⟨bel⟩⟩
    rw [if_neg c11] at H; have c11b0 := decide_eq_false c11; clear c11; obtain rfl := Option.some.inj H; go_wp2; go_ret
    exact ⟨_, eq_, by (with_reducible repeat (first | apply Kd.R_alloc | apply Kd.R_drewN | apply Kd.R_drew)); exact Kd.R_mono HO_5.out (fun _ hk => trivial), bel⟩
 replace c4 := Bool.eq_false_iff.mpr c4; subst c4
 have H1 : (some y261) = some r := b5_
 replace H := H1; clear H1
 obtain rfl := Option.some.inj H; go_enter Try.func28, Try.ntmps28
 go_wp2_with (first | ((with_reducible refine gate_dst (N := 8) rfl ?_); refine Kd.R_lit Kd.string _ 9 ?hg (N := 8) ?hd (xs := ([] : List ByteArray)) (inner := []) (ok := fun _ => True) (okp := fun _ => True) ?hr ?hp (fun _ hk => hk) trivial (Below.refl _ _) (Nat.le_refl _) (by simp) ?_; (case hd => rfl); (case hg => rfl); (case hr => first | (go_simp; done) | (go_simp; rfl)); (case hp => exact (Reps.none _ _)); intro v262 w20 ho21 hb hg_ hnew_; clear hg_ hnew_; (first | rw [← Ny261.out] at ho21 | (simp only [Int.reduceToNat] at ho21; rw [← Ny261.out] at ho21) | (simp only [Int.toNat_natCast] at ho21; rw [← Ny261.out] at ho21)); have HO263 := am (Kd.R_lower ho21 (below_size bel)); replace HB := am (below_step bel hb); clear hb ho21) | ((with_reducible refine gate_callee (f := 44) rfl ?_); refine goesL_ (some 10) rfl rfl Try.func44 (by kernel_rfl) rfl #[.slice A0 l0.length c0] rfl mq ?_; (with_reducible refine (impl_MachineOk.calls k _ _ l0 false _ ?side1 ?side2 A3.out).mono ?_); (case side1 => exact cq (Kd.C_below HR0.out HB.out)); (case side2 => exact HC0.out); rintro e w22 ⟨rfl, hb⟩; refine ⟨_, rfl, ?_⟩; replace HO263 := am (Kd.R_below (rq HO263.out) hb); replace HB := am (below_step bel hb); (try clear hb); (try clear hb2); (try clear hk); (try clear hi)))
 go_ret
 exact ⟨_, eq_, by (with_reducible repeat (first | apply Kd.R_alloc | apply Kd.R_drewN | apply Kd.R_drew)); exact HO263.out, bel⟩

/-! ### laws_eqEdge: function 144 -/
def laws_eqEdge.f (a0_0 : Int) (a0_1 : Int) (a1_0 : Int) (a1_1 : Int) : Option (Bool) := if a0_0 = a1_0 then (if a0_1 = a1_1 then (some true) else (some false)) else (some false)
theorem laws_eqEdge.calls (a0_0 : Int) (a0_1 : Int) (a1_0 : Int) (a1_1 : Int) (r : Bool) (w : World) (h : laws_eqEdge.f a0_0 a0_1 a1_0 a1_1 = some r) :
  Calls Try.prog 144 #[.agg #[.int .i64 a0_0, .int .i64 a0_1], .agg #[.int .i64 a1_0, .int .i64 a1_1]] w fun e w' => e = .returned (.bool r) ∧ Below w.heap.size w w' := by
 have hu100 := Try.underlying100; have HB := am (Below.refl w.heap.size w)
 have H : (if a0_0 = a1_0 then (if a0_1 = a1_1 then (some true) else (some false)) else (some false)) = some r := h
 clear h
 by_cases c3 : a0_0 = a1_0
 ·rw [if_pos c3] at H
  have c3b0 : (a0_0 == a1_0) = true := beq_iff_eq.mpr c3
  have c3b1 : (a0_0 != a1_0) = false := bne_eq_false_iff_eq.mpr c3
  clear c3
  by_cases c4 : a0_1 = a1_1
  ·rw [if_pos c4] at H
   have c4b0 : (a0_1 == a1_1) = true := beq_iff_eq.mpr c4
   have c4b1 : (a0_1 != a1_1) = false := bne_eq_false_iff_eq.mpr c4
   clear c4; obtain rfl := Option.some.inj H; go_enter Try.func144, Try.ntmps144
   go_wp2_with (first | ((with_reducible refine gate_dst (N := 2) rfl ?_); refine bx 2 (cs := #[.int .i64 a0_0, .int .i64 a0_1]) (t := 100) ?_; intro gb273 hg w5 hbox hb; have BK273 := am (hbox); have GW273 := am ((b7_ : w.heap.size ≤ gb273)); have GE273 := am ((b7_ : w.heap.size ≤ gb273)); replace HB := am (below_step bel hb); clear hb hbox hg) | ((with_reducible refine gate_dst (N := 3) rfl ?_); refine bx 3 (cs := #[.int .i64 a1_0, .int .i64 a1_1]) (t := 100) ?_; intro gb274 hg w6 hbox hb; have BK274 := am (hbox); have GW274 := am ((b29_ : w.heap.size ≤ gb274)); have GE274 := am ((b29_ : w.heap.size ≤ gb274)); replace HB := am (below_step (bel1 GE273.out) hb); have NB273_274 := am ((b19_ : gb273 ≠ gb274)); have NB274_273 := am ((b20_ : gb274 ≠ gb273)); replace BK273 := am (blk_below (g := gb273) (o := .cells #[.int .i64 a0_0, .int .i64 a0_1] 100 (0, 0)) (bq BK273.out) hb); clear hb hbox hg; have hnb7 := NB273_274.out; have hnc7 := NB274_273.out; have hcz8_0 := bc BK273.out 0; have hcz8_1 := bc BK273.out 1; have hfz8_0 := bf BK273.out 0; have hfz8_1 := bf BK273.out 1; have hcz9_0 := bc BK274.out 0; have hcz9_1 := bc BK274.out 1; have hfz9_0 := bf BK274.out 0; have hfz9_1 := bf BK274.out 1))
   go_ret
   exact ⟨eq_, bel2 GE273.out GE274.out⟩
  rw [if_neg c4] at H
  have c4b0 : (a0_1 == a1_1) = false := beq_eq_false_iff_ne.mpr c4
  have c4b1 : (a0_1 != a1_1) = true := bne_iff_ne.mpr c4
  obtain rfl := Option.some.inj H; go_enter Try.func144, Try.ntmps144
  go_wp2_with (first | ((with_reducible refine gate_dst (N := 2) rfl ?_); refine bx 2 (cs := #[.int .i64 a0_0, .int .i64 a0_1]) (t := 100) ?_; intro gb273 hg w10 hbox hb; have BK273 := am (hbox); have GW273 := am ((b7_ : w.heap.size ≤ gb273)); have GE273 := am ((b7_ : w.heap.size ≤ gb273)); replace HB := am (below_step bel hb); clear hb hbox hg) | ((with_reducible refine gate_dst (N := 3) rfl ?_); refine bx 3 (cs := #[.int .i64 a1_0, .int .i64 a1_1]) (t := 100) ?_; intro gb274 hg w11 hbox hb; have BK274 := am (hbox); have GW274 := am ((b29_ : w.heap.size ≤ gb274)); have GE274 := am ((b29_ : w.heap.size ≤ gb274)); replace HB := am (below_step (bel1 GE273.out) hb); have NB273_274 := am ((b19_ : gb273 ≠ gb274)); have NB274_273 := am ((b20_ : gb274 ≠ gb273)); replace BK273 := am (blk_below (g := gb273) (o := .cells #[.int .i64 a0_0, .int .i64 a0_1] 100 (0, 0)) (bq BK273.out) hb); clear hb hbox hg; have hnb12 := NB273_274.out; have hnc12 := NB274_273.out; have hcz13_0 := bc BK273.out 0; have hcz13_1 := bc BK273.out 1; have hfz13_0 := bf BK273.out 0; have hfz13_1 := bf BK273.out 1; have hcz14_0 := bc BK274.out 0; have hcz14_1 := bc BK274.out 1; have hfz14_0 := bf BK274.out 0; have hfz14_1 := bf BK274.out 1))
  go_ret
  exact ⟨eq_, bel2 GE273.out GE274.out⟩
 rw [if_neg c3] at H
 have c3b0 : (a0_0 == a1_0) = false := beq_eq_false_iff_ne.mpr c3
 have c3b1 : (a0_0 != a1_0) = true := bne_iff_ne.mpr c3
 obtain rfl := Option.some.inj H; go_enter Try.func144, Try.ntmps144
 go_wp2_with (first | ((with_reducible refine gate_dst (N := 2) rfl ?_); refine bx 2 (cs := #[.int .i64 a0_0, .int .i64 a0_1]) (t := 100) ?_; intro gb273 hg w15 hbox hb; have BK273 := am (hbox); have GW273 := am ((b7_ : w.heap.size ≤ gb273)); have GE273 := am ((b7_ : w.heap.size ≤ gb273)); replace HB := am (below_step bel hb); clear hb hbox hg) | ((with_reducible refine gate_dst (N := 3) rfl ?_); refine bx 3 (cs := #[.int .i64 a1_0, .int .i64 a1_1]) (t := 100) ?_; intro gb274 hg w16 hbox hb; have BK274 := am (hbox); have GW274 := am ((b29_ : w.heap.size ≤ gb274)); have GE274 := am ((b29_ : w.heap.size ≤ gb274)); replace HB := am (below_step (bel1 GE273.out) hb); have NB273_274 := am ((b19_ : gb273 ≠ gb274)); have NB274_273 := am ((b20_ : gb274 ≠ gb273)); replace BK273 := am (blk_below (g := gb273) (o := .cells #[.int .i64 a0_0, .int .i64 a0_1] 100 (0, 0)) (bq BK273.out) hb); clear hb hbox hg; have hnb17 := NB273_274.out; have hnc17 := NB274_273.out; have hcz18_0 := bc BK273.out 0; have hcz18_1 := bc BK273.out 1; have hfz18_0 := bf BK273.out 0; have hfz18_1 := bf BK273.out 1; have hcz19_0 := bc BK274.out 0; have hcz19_1 := bc BK274.out 1; have hfz19_0 := bf BK274.out 0; have hfz19_1 := bf BK274.out 1))
 go_ret
 exact ⟨eq_, bel2 GE273.out GE274.out⟩

/-! ### laws_eqEdgeS: function 117 -/
def laws_eqEdgeS.l0 : Nat → List (S100) → List (S100) → Int → Option (Bool)
 | 0, _, _, _ => none
 | k + 1, x0, x1, x5 => if x5 < (x0.length : Int) then (if 0 ≤ x5 then (if x5 < (x1.length : Int) then ((laws_eqEdge.f ((rd_T100 x0 x5).f0) ((rd_T100 x0 x5).f1) ((rd_T100 x1 x5).f0) ((rd_T100 x1 x5).f1)).bind fun t277 => (if t277 = true then (laws_eqEdgeS.l0 k x0 x1 (wrap64 (x5 + 1))) else (some false))) else (none)) else (none)) else (some true)
def laws_eqEdgeS.f (k : Nat) (l0 : List (S100)) (l1 : List (S100)) : Option (Bool) := if (l0.length : Int) = (l1.length : Int) then (laws_eqEdgeS.l0 k l0 l1 0) else (some false)
def laws_eqEdgeS.T6 : Bool × List (List Nat × List Nat) := (true, [([], []), ([], []), ([0, 1], [0, 1]), ([2], [2]), ([], []), ([], []), ([4, 5], [4, 5]), ([6], [6]), ([3, 7], [3, 7]), ([8], [8])])
def laws_eqEdgeS.B6 : List Nat := [0, 0, 3, 7, 0, 0, 48, 112, 255, 511]
theorem laws_eqEdgeS.tab6 : rtab .any (opsOf Try.f117 6) = laws_eqEdgeS.T6 := by kernel_rfl
theorem laws_eqEdgeS.bits6 : waitsOk laws_eqEdgeS.T6.2 laws_eqEdgeS.B6 = true := by kernel_rfl
theorem laws_eqEdgeS.calls (k : Nat) (A0 : Option Addr) (c0 : Nat) (l0 : List (S100)) (A1 : Option Addr) (c1 : Nat) (l1 : List (S100)) (r : Bool) (w : World) (hr0 : Kd.C k100 w A0 l0.length l0) (hc0 : l0.length ≤ c0) (hr1 : Kd.C k100 w A1 l1.length l1) (hc1 : l1.length ≤ c1) (h : laws_eqEdgeS.f k l0 l1 = some r) :
  Calls Try.prog 117 #[.slice A0 l0.length c0, .slice A1 l1.length c1] w fun e w' => e = .returned (.bool r) ∧ Below w.heap.size w w' := by
 have hu100 := Try.underlying100; have HR0 := am hr0; have HC0 := am hc0; clear hr0 hc0; have HR1 := am hr1; have HC1 := am hc1; clear hr1 hc1; have HB := am (Below.refl w.heap.size w)
 have H : (if (l0.length : Int) = (l1.length : Int) then (laws_eqEdgeS.l0 k l0 l1 0) else (some false)) = some r := h
 clear h
 by_cases c3 : (l0.length : Int) = (l1.length : Int)
 ·rw [if_pos c3] at H
  have c3b0 : ((l0.length : Int) == (l1.length : Int)) = true := beq_iff_eq.mpr c3
  have c3b1 : ((l0.length : Int) != (l1.length : Int)) = false := bne_eq_false_iff_eq.mpr c3
  have c3b2 : (l0.length == l1.length) = true := b28_
  clear c3
  have H' := am H
  clear H; go_enter Try.func117, Try.ntmps117; go_wp2
  go_loopg [5] k (fun kq v5 w' => ∃ (x5_1 : Int), v5 = .int .i64 x5_1 ∧ Aside0 (laws_eqEdgeS.l0 kq l0 l1 x5_1 = some r) ∧ Aside0 (kq ≤ k) ∧ Aside0 (Below w.heap.size w w'))
  case atStart => exact ⟨(0), sq, H', ⟨Nat.le_refl _⟩, ⟨bel⟩⟩
  case round =>
   clear H'; (try clear c1); (try clear p2); (try clear c3); (try clear c3b0); (try clear c3b1); (try clear c3b2); obtain ⟨x5_1, rfl, HA, HK1, HB⟩ := hrel
   cases gk with
   | zero => exact absurd HA.out (by simp [laws_eqEdgeS.l0])
   | succ k1 =>
    have H := HA.out; clear HA
    simp only [laws_eqEdgeS.l0] at H
    by_cases c4 : x5_1 < (l0.length : Int)
    ·rw [if_pos c4] at H; have c4b0 := decide_eq_true c4; clear c4
     replace H := it H; obtain ⟨c5b0, H⟩ := H
     replace H := it H; obtain ⟨c6b0, H⟩ := H; replace H := bs H; obtain ⟨t277, A70, H⟩ := H; replace H : (if t277 = true then (laws_eqEdgeS.l0 k1 l0 l1 (wrap64 (x5_1 + 1))) else (some false)) = some r := H; have A7 := Aside0.mk A70; clear A70
     by_cases c8 : t277 = true
     ·subst c8
      have H1 : (laws_eqEdgeS.l0 k1 l0 l1 (wrap64 (x5_1 + 1))) = some r := b11_
      replace H := H1; clear H1
      have H' := am H
      clear H
      try go_wp2
      replace HB := am (below_drew1 HB.out)
      have p275 : 0 ≤ (x5_1 : Int) := of_decide_eq_true ad
      have q275 : x5_1 < (l0.length : Int) := of_decide_eq_true ad
      obtain ⟨ad275, e275, hx275_0, hx275_1⟩ := at_T100 HR0.out x5_1 p275 q275; have hw275_1 := hx275_1; have hw275_0 := hx275_0
      cases e275
      replace hx275_0 := kp HB.out hx275_0; replace hx275_1 := kp HB.out hx275_1; replace p275 := eq_true p275; replace q275 := eq_true q275
      have p276 : 0 ≤ (x5_1 : Int) := of_decide_eq_true ad
      have q276 : x5_1 < (l1.length : Int) := of_decide_eq_true ad
      obtain ⟨ad276, e276, hx276_0, hx276_1⟩ := at_T100 HR1.out x5_1 p276 q276; have hw276_1 := hx276_1; have hw276_0 := hx276_0
      cases e276
      replace hx276_0 := kp HB.out hx276_0; replace hx276_1 := kp HB.out hx276_1; replace p276 := eq_true p276; replace q276 := eq_true q276
      refine st (n := 10) (S := fun w' => w'.cell? (ad275.add ((x5_1).toNat * 2)) = some (.int .i64 ((rd_T100 l0 x5_1).f0)) ∧ w'.cell? ⟨(ad275.add ((x5_1).toNat * 2)).block, (ad275.add ((x5_1).toNat * 2)).off + 1, none⟩ = some (.int .i64 ((rd_T100 l0 x5_1).f1)) ∧ w'.cell? (ad276.add ((x5_1).toNat * 2)) = some (.int .i64 ((rd_T100 l1 x5_1).f0)) ∧ w'.cell? ⟨(ad276.add ((x5_1).toNat * 2)).block, (ad276.add ((x5_1).toNat * 2)).off + 1, none⟩ = some (.int .i64 ((rd_T100 l1 x5_1).f1))) (ds := []) ⟨(kp HB.out hw275_0), (kp HB.out hw275_1), (kp HB.out hw276_0), (kp HB.out hw276_1)⟩ (fun hHeld => ?_); refine with_tabW laws_eqEdgeS.tab6 laws_eqEdgeS.bits6 (fun HT_ HW_ => ?_)
      generalize wr.drew = w9 at HB hx275_0 hx275_1 hx276_0 hx276_1 hHeld ⊢
      refine pu 0 17 ?_
      refine pu 1 18 ?_
      refine pu 2 19 ?_
      refine pu 4 21 ?_
      refine pu 5 22 ?_
      refine pu 6 23 ?_
      refine tk4 3 20 hHeld ?_
      refine tk4 7 24 hHeld ?_
      refine on1 8 25 (fun K hK => ?_)
      refine goes_ Try.func144 (by kernel_rfl) rfl #[.agg #[.int .i64 ((rd_T100 l0 x5_1).f0), .int .i64 ((rd_T100 l0 x5_1).f1)], .agg #[.int .i64 ((rd_T100 l1 x5_1).f0), .int .i64 ((rd_T100 l1 x5_1).f1)]] (by rfl) rfl rfl mq ?_
      with_reducible refine (laws_eqEdge.calls ((rd_T100 l0 x5_1).f0) ((rd_T100 l0 x5_1).f1) ((rd_T100 l1 x5_1).f0) ((rd_T100 l1 x5_1).f1) true _ A7.out).mono ?_
      rintro e w10 ⟨rfl, hb⟩
      refine ⟨_, rfl, ?_⟩
      replace HB := am (below_step bel hb)
      (try clear hb)
      (try clear hb2)
      (try clear hk)
      (try clear hi)
      refine hK.out _ _ ⟨(kp HB.out hw275_0), (kp HB.out hw275_1), (kp HB.out hw276_0), (kp HB.out hw276_1)⟩ (fun hHeld => ?_)
      clear hK K
      refine norm_ (a' := ?_) ?_ ?_
      rotate_left
      ·show Act.put _ (some 25) _ = _
       simp only [Act.put, List.setIfInBounds_toArray, List.set_cons_zero, List.set_cons_succ, i64_w, i32_w]
       rfl
      refine pu 9 26 ?_
      refine done_ (done_of HT_.out (by kernel_rfl)) ?_
      try go_wp2
      go_roundg k1
      case measure => have := HK1.out; omega
      case rel => exact ⟨(wrap64 (x5_1 + 1)), sq, H', ⟨b21_⟩, ⟨bel⟩⟩
     replace c8 := Bool.eq_false_iff.mpr c8; subst c8
     have H1 : (some false) = some r := b5_
     replace H := H1; clear H1
     obtain rfl := Option.some.inj H
     try go_wp2
     replace HB := am (below_drew1 HB.out)
     have p275 : 0 ≤ (x5_1 : Int) := of_decide_eq_true ad
     have q275 : x5_1 < (l0.length : Int) := of_decide_eq_true ad
     obtain ⟨ad275, e275, hx275_0, hx275_1⟩ := at_T100 HR0.out x5_1 p275 q275; have hw275_1 := hx275_1; have hw275_0 := hx275_0
     cases e275
     replace hx275_0 := kp HB.out hx275_0; replace hx275_1 := kp HB.out hx275_1; replace p275 := eq_true p275; replace q275 := eq_true q275
     have p276 : 0 ≤ (x5_1 : Int) := of_decide_eq_true ad
     have q276 : x5_1 < (l1.length : Int) := of_decide_eq_true ad
     obtain ⟨ad276, e276, hx276_0, hx276_1⟩ := at_T100 HR1.out x5_1 p276 q276; have hw276_1 := hx276_1; have hw276_0 := hx276_0
     cases e276
     replace hx276_0 := kp HB.out hx276_0; replace hx276_1 := kp HB.out hx276_1; replace p276 := eq_true p276; replace q276 := eq_true q276
     refine st (n := 10) (S := fun w' => w'.cell? (ad275.add ((x5_1).toNat * 2)) = some (.int .i64 ((rd_T100 l0 x5_1).f0)) ∧ w'.cell? ⟨(ad275.add ((x5_1).toNat * 2)).block, (ad275.add ((x5_1).toNat * 2)).off + 1, none⟩ = some (.int .i64 ((rd_T100 l0 x5_1).f1)) ∧ w'.cell? (ad276.add ((x5_1).toNat * 2)) = some (.int .i64 ((rd_T100 l1 x5_1).f0)) ∧ w'.cell? ⟨(ad276.add ((x5_1).toNat * 2)).block, (ad276.add ((x5_1).toNat * 2)).off + 1, none⟩ = some (.int .i64 ((rd_T100 l1 x5_1).f1))) (ds := []) ⟨(kp HB.out hw275_0), (kp HB.out hw275_1), (kp HB.out hw276_0), (kp HB.out hw276_1)⟩ (fun hHeld => ?_); refine with_tabW laws_eqEdgeS.tab6 laws_eqEdgeS.bits6 (fun HT_ HW_ => ?_)
     generalize wr.drew = w11 at HB hx275_0 hx275_1 hx276_0 hx276_1 hHeld ⊢
     refine pu 0 17 ?_
     refine pu 1 18 ?_
     refine pu 2 19 ?_
     refine pu 4 21 ?_
     refine pu 5 22 ?_
     refine pu 6 23 ?_
     refine tk4 3 20 hHeld ?_
     refine tk4 7 24 hHeld ?_
     refine on1 8 25 (fun K hK => ?_)
     refine goes_ Try.func144 (by kernel_rfl) rfl #[.agg #[.int .i64 ((rd_T100 l0 x5_1).f0), .int .i64 ((rd_T100 l0 x5_1).f1)], .agg #[.int .i64 ((rd_T100 l1 x5_1).f0), .int .i64 ((rd_T100 l1 x5_1).f1)]] (by rfl) rfl rfl mq ?_
     with_reducible refine (laws_eqEdge.calls ((rd_T100 l0 x5_1).f0) ((rd_T100 l0 x5_1).f1) ((rd_T100 l1 x5_1).f0) ((rd_T100 l1 x5_1).f1) false _ A7.out).mono ?_
     rintro e w12 ⟨rfl, hb⟩
     refine ⟨_, rfl, ?_⟩
     replace HB := am (below_step bel hb)
     (try clear hb)
     (try clear hb2)
     (try clear hk)
     (try clear hi)
     refine hK.out _ _ ⟨(kp HB.out hw275_0), (kp HB.out hw275_1), (kp HB.out hw276_0), (kp HB.out hw276_1)⟩ (fun hHeld => ?_)
     clear hK K
     refine norm_ (a' := ?_) ?_ ?_
     rotate_left
     ·show Act.put _ (some 25) _ = _
      simp only [Act.put, List.setIfInBounds_toArray, List.set_cons_zero, List.set_cons_succ, i64_w, i32_w]
      rfl
     refine pu 9 26 ?_
     refine done_ (done_of HT_.out (by kernel_rfl)) ?_
     try go_wp2
     go_ret
     exact ⟨eq_, bel⟩
    rw [if_neg c4] at H; have c4b0 := decide_eq_false c4; clear c4; obtain rfl := Option.some.inj H; go_wp2; go_ret
    exact ⟨eq_, bel⟩
 rw [if_neg c3] at H
 have c3b0 : ((l0.length : Int) == (l1.length : Int)) = false := beq_eq_false_iff_ne.mpr c3
 have c3b1 : ((l0.length : Int) != (l1.length : Int)) = true := bne_iff_ne.mpr c3
 have c3b2 : (l0.length == l1.length) = false := b28_
 obtain rfl := Option.some.inj H; go_enter Try.func117, Try.ntmps117; go_wp2; go_ret
 exact ⟨eq_, bel⟩

/-! ### laws_eqState: function 74 -/
def laws_eqState.f (k : Nat) (a0_0 : Bool) (l0_1 : List (S100)) (a1_0 : Bool) (l1_1 : List (S100)) : Option (Bool) := if (a0_0 != a1_0) = true then (some false) else ((laws_eqEdgeS.f k l0_1 l1_1).bind fun t280 => (if t280 = true then (some true) else (some false)))
theorem laws_eqState.calls (k : Nat) (a0_0 : Bool) (A0_1 : Option Addr) (c0_1 : Nat) (l0_1 : List (S100)) (a1_0 : Bool) (A1_1 : Option Addr) (c1_1 : Nat) (l1_1 : List (S100)) (r : Bool) (w : World) (hr0_1 : Kd.C k100 w A0_1 l0_1.length l0_1) (hc0_1 : l0_1.length ≤ c0_1) (hr1_1 : Kd.C k100 w A1_1 l1_1.length l1_1) (hc1_1 : l1_1.length ≤ c1_1) (h : laws_eqState.f k a0_0 l0_1 a1_0 l1_1 = some r) :
  Calls Try.prog 74 #[.agg #[.bool a0_0, .slice A0_1 l0_1.length c0_1], .agg #[.bool a1_0, .slice A1_1 l1_1.length c1_1]] w fun e w' => e = .returned (.bool r) ∧ Below w.heap.size w w' := by
 have hu94 := Try.underlying94; have HR0_1 := am hr0_1; have HC0_1 := am hc0_1; clear hr0_1 hc0_1; have HR1_1 := am hr1_1; have HC1_1 := am hc1_1; clear hr1_1 hc1_1; have HB := am (Below.refl w.heap.size w)
 have H : (if (a0_0 != a1_0) = true then (some false) else ((laws_eqEdgeS.f k l0_1 l1_1).bind fun t280 => (if t280 = true then (some true) else (some false)))) = some r := h
 clear h
 by_cases c3 : (a0_0 != a1_0) = true
 ·rw [if_pos c3] at H
  have c3b0 : (a0_0 != a1_0) = true := c3
  (try (have c3b1 : decide (a0_0 = a1_0) = false := by simpa using c3))
  (try (have c3b2 : (a0_0 == a1_0) = false := by simpa using c3))
  (try (have c3b3 : ¬ (a0_0 = a1_0) := by simpa using c3))
  clear c3; obtain rfl := Option.some.inj H; go_enter Try.func74, Try.ntmps74
  go_wp2_with (first | ((with_reducible refine gate_dst (N := 2) rfl ?_); refine bx 2 (cs := #[.bool a0_0, .slice A0_1 l0_1.length c0_1]) (t := 94) ?_; intro gb278 hg w4 hbox hb; have BK278 := am (hbox); have GW278 := am ((b7_ : w.heap.size ≤ gb278)); have GE278 := am ((b7_ : w.heap.size ≤ gb278)); replace HB := am (below_step bel hb); clear hb hbox hg) | ((with_reducible refine gate_dst (N := 3) rfl ?_); refine bx 3 (cs := #[.bool a1_0, .slice A1_1 l1_1.length c1_1]) (t := 94) ?_; intro gb279 hg w5 hbox hb; have BK279 := am (hbox); have GW279 := am ((b30_ : w.heap.size ≤ gb279)); have GE279 := am ((b30_ : w.heap.size ≤ gb279)); replace HB := am (below_step (bel1 GE278.out) hb); have NB278_279 := am ((b17_ : gb278 ≠ gb279)); have NB279_278 := am ((b18_ : gb279 ≠ gb278)); replace BK278 := am (blk_below (g := gb278) (o := .cells #[.bool a0_0, .slice A0_1 l0_1.length c0_1] 94 (0, 0)) (bq BK278.out) hb); clear hb hbox hg; have hnb6 := NB278_279.out; have hnc6 := NB279_278.out; have hcz7_0 := bc BK278.out 0; have hcz7_1 := bc BK278.out 1; have hfz7_0 := bf BK278.out 0; have hfz7_1 := bf BK278.out 1; have hcz8_0 := bc BK279.out 0; have hcz8_1 := bc BK279.out 1; have hfz8_0 := bf BK279.out 0; have hfz8_1 := bf BK279.out 1))
  go_ret
  exact ⟨eq_, bel2 GE278.out GE279.out⟩
 rw [if_neg c3] at H
 have c3b0 : (a0_0 != a1_0) = false := by simpa using c3
 (try (have c3b1 : decide (a0_0 = a1_0) = true := by simpa using c3))
 (try (have c3b2 : (a0_0 == a1_0) = true := by simpa using c3))
 clear c3; replace H := bs H; obtain ⟨t280, A90, H⟩ := H; replace H : (if t280 = true then (some true) else (some false)) = some r := H; have A9 := Aside0.mk A90; clear A90
 by_cases c10 : t280 = true
 ·subst c10
  have H1 : (some true) = some r := b11_
  replace H := H1; clear H1
  obtain rfl := Option.some.inj H; go_enter Try.func74, Try.ntmps74
  go_wp2_with (first | ((with_reducible refine gate_dst (N := 2) rfl ?_); refine bx 2 (cs := #[.bool a0_0, .slice A0_1 l0_1.length c0_1]) (t := 94) ?_; intro gb278 hg w11 hbox hb; have BK278 := am (hbox); have GW278 := am ((b7_ : w.heap.size ≤ gb278)); have GE278 := am ((b7_ : w.heap.size ≤ gb278)); replace HB := am (below_step bel hb); clear hb hbox hg) | ((with_reducible refine gate_dst (N := 3) rfl ?_); refine bx 3 (cs := #[.bool a1_0, .slice A1_1 l1_1.length c1_1]) (t := 94) ?_; intro gb279 hg w12 hbox hb; have BK279 := am (hbox); have GW279 := am ((b30_ : w.heap.size ≤ gb279)); have GE279 := am ((b30_ : w.heap.size ≤ gb279)); replace HB := am (below_step (bel1 GE278.out) hb); have NB278_279 := am ((b17_ : gb278 ≠ gb279)); have NB279_278 := am ((b18_ : gb279 ≠ gb278)); replace BK278 := am (blk_below (g := gb278) (o := .cells #[.bool a0_0, .slice A0_1 l0_1.length c0_1] 94 (0, 0)) (bq BK278.out) hb); clear hb hbox hg; have hnb13 := NB278_279.out; have hnc13 := NB279_278.out; have hcz14_0 := bc BK278.out 0; have hcz14_1 := bc BK278.out 1; have hfz14_0 := bf BK278.out 0; have hfz14_1 := bf BK278.out 1; have hcz15_0 := bc BK279.out 0; have hcz15_1 := bc BK279.out 1; have hfz15_0 := bf BK279.out 0; have hfz15_1 := bf BK279.out 1) | ((with_reducible refine gate_callee (f := 117) rfl ?_); refine goesL_ (some 14) rfl rfl Try.func117 (by kernel_rfl) rfl #[.slice A0_1 l0_1.length c0_1, .slice A1_1 l1_1.length c1_1] rfl mq ?_; (with_reducible refine (laws_eqEdgeS.calls k _ _ l0_1 _ _ l1_1 true _ ?side1 ?side2 ?side3 ?side4 A9.out).mono ?_); (case side1 => exact cq (Kd.C_below HR0_1.out HB.out)); (case side2 => exact HC0_1.out); (case side3 => exact cq (Kd.C_below HR1_1.out HB.out)); (case side4 => exact HC1_1.out); rintro e w16 ⟨rfl, hb⟩; refine ⟨_, rfl, ?_⟩; replace BK278 := am (blk_below (g := gb278) (o := .cells #[.bool a0_0, .slice A0_1 l0_1.length c0_1] 94 (0, 0)) (bq BK278.out) hb); replace BK279 := am (blk_below (g := gb279) (o := .cells #[.bool a1_0, .slice A1_1 l1_1.length c1_1] 94 (0, 0)) (bq BK279.out) hb); replace HB := am (below_step (bel2 GE278.out GE279.out) hb); (try clear hb); (try clear hb2); (try clear hk); (try clear hi)))
  go_ret
  exact ⟨eq_, bel2 GE278.out GE279.out⟩
 replace c10 := Bool.eq_false_iff.mpr c10; subst c10
 have H1 : (some false) = some r := b5_
 replace H := H1; clear H1
 obtain rfl := Option.some.inj H; go_enter Try.func74, Try.ntmps74
 go_wp2_with (first | ((with_reducible refine gate_dst (N := 2) rfl ?_); refine bx 2 (cs := #[.bool a0_0, .slice A0_1 l0_1.length c0_1]) (t := 94) ?_; intro gb278 hg w17 hbox hb; have BK278 := am (hbox); have GW278 := am ((b7_ : w.heap.size ≤ gb278)); have GE278 := am ((b7_ : w.heap.size ≤ gb278)); replace HB := am (below_step bel hb); clear hb hbox hg) | ((with_reducible refine gate_dst (N := 3) rfl ?_); refine bx 3 (cs := #[.bool a1_0, .slice A1_1 l1_1.length c1_1]) (t := 94) ?_; intro gb279 hg w18 hbox hb; have BK279 := am (hbox); have GW279 := am ((b30_ : w.heap.size ≤ gb279)); have GE279 := am ((b30_ : w.heap.size ≤ gb279)); replace HB := am (below_step (bel1 GE278.out) hb); have NB278_279 := am ((b17_ : gb278 ≠ gb279)); have NB279_278 := am ((b18_ : gb279 ≠ gb278)); replace BK278 := am (blk_below (g := gb278) (o := .cells #[.bool a0_0, .slice A0_1 l0_1.length c0_1] 94 (0, 0)) (bq BK278.out) hb); clear hb hbox hg; have hnb19 := NB278_279.out; have hnc19 := NB279_278.out; have hcz20_0 := bc BK278.out 0; have hcz20_1 := bc BK278.out 1; have hfz20_0 := bf BK278.out 0; have hfz20_1 := bf BK278.out 1; have hcz21_0 := bc BK279.out 0; have hcz21_1 := bc BK279.out 1; have hfz21_0 := bf BK279.out 0; have hfz21_1 := bf BK279.out 1) | ((with_reducible refine gate_callee (f := 117) rfl ?_); refine goesL_ (some 14) rfl rfl Try.func117 (by kernel_rfl) rfl #[.slice A0_1 l0_1.length c0_1, .slice A1_1 l1_1.length c1_1] rfl mq ?_; (with_reducible refine (laws_eqEdgeS.calls k _ _ l0_1 _ _ l1_1 false _ ?side1 ?side2 ?side3 ?side4 A9.out).mono ?_); (case side1 => exact cq (Kd.C_below HR0_1.out HB.out)); (case side2 => exact HC0_1.out); (case side3 => exact cq (Kd.C_below HR1_1.out HB.out)); (case side4 => exact HC1_1.out); rintro e w22 ⟨rfl, hb⟩; refine ⟨_, rfl, ?_⟩; replace BK278 := am (blk_below (g := gb278) (o := .cells #[.bool a0_0, .slice A0_1 l0_1.length c0_1] 94 (0, 0)) (bq BK278.out) hb); replace BK279 := am (blk_below (g := gb279) (o := .cells #[.bool a1_0, .slice A1_1 l1_1.length c1_1] 94 (0, 0)) (bq BK279.out) hb); replace HB := am (below_step (bel2 GE278.out GE279.out) hb); (try clear hb); (try clear hb2); (try clear hk); (try clear hi)))
 go_ret
 exact ⟨eq_, bel2 GE278.out GE279.out⟩
-- shrunk

/-! ### laws_eqStateS: function 29 -/
def laws_eqStateS.l0 : Nat → List (S94) → List (S94) → Int → Option (Bool)
 | 0, _, _, _ => none
 | k + 1, x0, x1, x5 => if x5 < (x0.length : Int) then (if 0 ≤ x5 then (if x5 < (x1.length : Int) then ((laws_eqState.f k ((rd_T94 x0 x5).f0) ((rd_T94 x0 x5).f1) ((rd_T94 x1 x5).f0) ((rd_T94 x1 x5).f1)).bind fun t283 => (if t283 = true then (laws_eqStateS.l0 k x0 x1 (wrap64 (x5 + 1))) else (some false))) else (none)) else (none)) else (some true)
def laws_eqStateS.f (k : Nat) (l0 : List (S94)) (l1 : List (S94)) : Option (Bool) := if (l0.length : Int) = (l1.length : Int) then (laws_eqStateS.l0 k l0 l1 0) else (some false)
def laws_eqStateS.T6 : Bool × List (List Nat × List Nat) := (true, [([], []), ([], []), ([0, 1], [0, 1]), ([2], [2]), ([], []), ([], []), ([4, 5], [4, 5]), ([6], [6]), ([3, 7], [3, 7]), ([8], [8])])
def laws_eqStateS.B6 : List Nat := [0, 0, 3, 7, 0, 0, 48, 112, 255, 511]
theorem laws_eqStateS.tab6 : rtab .any (opsOf Try.f29 6) = laws_eqStateS.T6 := by kernel_rfl
theorem laws_eqStateS.bits6 : waitsOk laws_eqStateS.T6.2 laws_eqStateS.B6 = true := by kernel_rfl
theorem laws_eqStateS.calls (k : Nat) (A0 : Option Addr) (c0 : Nat) (l0 : List (S94)) (A1 : Option Addr) (c1 : Nat) (l1 : List (S94)) (r : Bool) (w : World) (hr0 : Kd.C k94 w A0 l0.length l0) (hc0 : l0.length ≤ c0) (hr1 : Kd.C k94 w A1 l1.length l1) (hc1 : l1.length ≤ c1) (h : laws_eqStateS.f k l0 l1 = some r) :
  Calls Try.prog 29 #[.slice A0 l0.length c0, .slice A1 l1.length c1] w fun e w' => e = .returned (.bool r) ∧ Below w.heap.size w w' := by
 have hu94 := Try.underlying94; have HR0 := am hr0; have HC0 := am hc0; clear hr0 hc0; have HR1 := am hr1; have HC1 := am hc1; clear hr1 hc1; have HB := am (Below.refl w.heap.size w)
 have H : (if (l0.length : Int) = (l1.length : Int) then (laws_eqStateS.l0 k l0 l1 0) else (some false)) = some r := h
 clear h
 by_cases c3 : (l0.length : Int) = (l1.length : Int)
 ·rw [if_pos c3] at H
  have c3b0 : ((l0.length : Int) == (l1.length : Int)) = true := beq_iff_eq.mpr c3
  have c3b1 : ((l0.length : Int) != (l1.length : Int)) = false := bne_eq_false_iff_eq.mpr c3
  have c3b2 : (l0.length == l1.length) = true := b28_
  clear c3
  have H' := am H
  clear H; go_enter Try.func29, Try.ntmps29; go_wp2
  go_loopg [5] k (fun kq v5 w' => ∃ (x5_1 : Int), v5 = .int .i64 x5_1 ∧ Aside0 (laws_eqStateS.l0 kq l0 l1 x5_1 = some r) ∧ Aside0 (kq ≤ k) ∧ Aside0 (Below w.heap.size w w'))
  case atStart => exact ⟨(0), sq, H', ⟨Nat.le_refl _⟩, ⟨bel⟩⟩
  case round =>
   clear H'; (try clear c1); (try clear c2); (try clear p2); (try clear c3); (try clear c3b0); (try clear c3b1); (try clear c3b2); obtain ⟨x5_1, rfl, HA, HK1, HB⟩ := hrel
   cases gk with
   | zero => exact absurd HA.out (by simp [laws_eqStateS.l0])
   | succ k1 =>
    have H := HA.out; clear HA
    simp only [laws_eqStateS.l0] at H
    by_cases c4 : x5_1 < (l0.length : Int)
    ·rw [if_pos c4] at H; have c4b0 := decide_eq_true c4; clear c4
     replace H := it H; obtain ⟨c5b0, H⟩ := H
     replace H := it H; obtain ⟨c6b0, H⟩ := H; replace H := bs H; obtain ⟨t283, A70, H⟩ := H; replace H : (if t283 = true then (laws_eqStateS.l0 k1 l0 l1 (wrap64 (x5_1 + 1))) else (some false)) = some r := H; have A7 := Aside0.mk A70; clear A70
     by_cases c8 : t283 = true
     ·subst c8
      have H1 : (laws_eqStateS.l0 k1 l0 l1 (wrap64 (x5_1 + 1))) = some r := b11_
      replace H := H1; clear H1
      have H' := am H
      clear H
      try go_wp2
      replace HB := am (below_drew1 HB.out)
      have p281 : 0 ≤ (x5_1 : Int) := of_decide_eq_true ad
      have q281 : x5_1 < (l0.length : Int) := of_decide_eq_true ad
      obtain ⟨ad281, A281_1, c281_1, e281, hx281_0, hx281_1, hl281_1, hi281_1⟩ := at_T94 HR0.out x5_1 p281 q281; have hw281_1 := hx281_1; have hw281_0 := hx281_0
      cases e281
      replace hx281_0 := kp HB.out hx281_0; replace hx281_1 := kp HB.out hx281_1; have HR281_1 := am hi281_1; have HC281_1 := am hl281_1; clear hi281_1 hl281_1; replace p281 := eq_true p281; replace q281 := eq_true q281
      have p282 : 0 ≤ (x5_1 : Int) := of_decide_eq_true ad
      have q282 : x5_1 < (l1.length : Int) := of_decide_eq_true ad
      obtain ⟨ad282, A282_1, c282_1, e282, hx282_0, hx282_1, hl282_1, hi282_1⟩ := at_T94 HR1.out x5_1 p282 q282; have hw282_1 := hx282_1; have hw282_0 := hx282_0
      cases e282
      replace hx282_0 := kp HB.out hx282_0; replace hx282_1 := kp HB.out hx282_1; have HR282_1 := am hi282_1; have HC282_1 := am hl282_1; clear hi282_1 hl282_1; replace p282 := eq_true p282; replace q282 := eq_true q282
      refine st (n := 10) (S := fun w' => w'.cell? (ad281.add ((x5_1).toNat * 2)) = some (.bool ((rd_T94 l0 x5_1).f0)) ∧ w'.cell? ⟨(ad281.add ((x5_1).toNat * 2)).block, (ad281.add ((x5_1).toNat * 2)).off + 1, none⟩ = some (.slice A281_1 ((rd_T94 l0 x5_1).f1).length c281_1) ∧ w'.cell? (ad282.add ((x5_1).toNat * 2)) = some (.bool ((rd_T94 l1 x5_1).f0)) ∧ w'.cell? ⟨(ad282.add ((x5_1).toNat * 2)).block, (ad282.add ((x5_1).toNat * 2)).off + 1, none⟩ = some (.slice A282_1 ((rd_T94 l1 x5_1).f1).length c282_1)) (ds := []) ⟨(kp HB.out hw281_0), (kp HB.out hw281_1), (kp HB.out hw282_0), (kp HB.out hw282_1)⟩ (fun hHeld => ?_); refine with_tabW laws_eqStateS.tab6 laws_eqStateS.bits6 (fun HT_ HW_ => ?_)
      generalize wr.drew = w9 at HB HR281_1 HR282_1 hx281_0 hx281_1 hx282_0 hx282_1 hHeld ⊢
      refine pu 0 17 ?_
      refine pu 1 18 ?_
      refine pu 2 19 ?_
      refine pu 4 21 ?_
      refine pu 5 22 ?_
      refine pu 6 23 ?_
      refine tk4 3 20 hHeld ?_
      refine tk4 7 24 hHeld ?_
      refine on1 8 25 (fun K hK => ?_)
      refine goes_ Try.func74 (by kernel_rfl) rfl #[.agg #[.bool ((rd_T94 l0 x5_1).f0), .slice A281_1 ((rd_T94 l0 x5_1).f1).length c281_1], .agg #[.bool ((rd_T94 l1 x5_1).f0), .slice A282_1 ((rd_T94 l1 x5_1).f1).length c282_1]] (by rfl) rfl rfl mq ?_
      with_reducible refine (laws_eqState.calls k1 ((rd_T94 l0 x5_1).f0) _ _ ((rd_T94 l0 x5_1).f1) ((rd_T94 l1 x5_1).f0) _ _ ((rd_T94 l1 x5_1).f1) true _ ?side1 ?side2 ?side3 ?side4 A7.out).mono ?_
      (case side1 => exact cq (Kd.C_below HR281_1.out HB.out)); (case side2 => exact HC281_1.out); (case side3 => exact cq (Kd.C_below HR282_1.out HB.out)); (case side4 => exact HC282_1.out)
      rintro e w10 ⟨rfl, hb⟩
      refine ⟨_, rfl, ?_⟩
      replace HB := am (below_step bel hb)
      (try clear hb)
      (try clear hb2)
      (try clear hk)
      (try clear hi)
      refine hK.out _ _ ⟨(kp HB.out hw281_0), (kp HB.out hw281_1), (kp HB.out hw282_0), (kp HB.out hw282_1)⟩ (fun hHeld => ?_)
      clear hK K
      refine norm_ (a' := ?_) ?_ ?_
      rotate_left
      ·show Act.put _ (some 25) _ = _
       simp only [Act.put, List.setIfInBounds_toArray, List.set_cons_zero, List.set_cons_succ, i64_w, i32_w]
       rfl
      refine pu 9 26 ?_
      refine done_ (done_of HT_.out (by kernel_rfl)) ?_
      try go_wp2
      go_roundg k1
      case measure => have := HK1.out; omega
      case rel => exact ⟨(wrap64 (x5_1 + 1)), sq, H', ⟨b21_⟩, ⟨bel⟩⟩
     replace c8 := Bool.eq_false_iff.mpr c8; subst c8
     have H1 : (some false) = some r := b5_
     replace H := H1; clear H1
     obtain rfl := Option.some.inj H
     try go_wp2
     replace HB := am (below_drew1 HB.out)
     have p281 : 0 ≤ (x5_1 : Int) := of_decide_eq_true ad
     have q281 : x5_1 < (l0.length : Int) := of_decide_eq_true ad
     obtain ⟨ad281, A281_1, c281_1, e281, hx281_0, hx281_1, hl281_1, hi281_1⟩ := at_T94 HR0.out x5_1 p281 q281; have hw281_1 := hx281_1; have hw281_0 := hx281_0
     cases e281
     replace hx281_0 := kp HB.out hx281_0; replace hx281_1 := kp HB.out hx281_1; have HR281_1 := am hi281_1; have HC281_1 := am hl281_1; clear hi281_1 hl281_1; replace p281 := eq_true p281; replace q281 := eq_true q281
     have p282 : 0 ≤ (x5_1 : Int) := of_decide_eq_true ad
     have q282 : x5_1 < (l1.length : Int) := of_decide_eq_true ad
     obtain ⟨ad282, A282_1, c282_1, e282, hx282_0, hx282_1, hl282_1, hi282_1⟩ := at_T94 HR1.out x5_1 p282 q282; have hw282_1 := hx282_1; have hw282_0 := hx282_0
     cases e282
     replace hx282_0 := kp HB.out hx282_0; replace hx282_1 := kp HB.out hx282_1; have HR282_1 := am hi282_1; have HC282_1 := am hl282_1; clear hi282_1 hl282_1; replace p282 := eq_true p282; replace q282 := eq_true q282
     refine st (n := 10) (S := fun w' => w'.cell? (ad281.add ((x5_1).toNat * 2)) = some (.bool ((rd_T94 l0 x5_1).f0)) ∧ w'.cell? ⟨(ad281.add ((x5_1).toNat * 2)).block, (ad281.add ((x5_1).toNat * 2)).off + 1, none⟩ = some (.slice A281_1 ((rd_T94 l0 x5_1).f1).length c281_1) ∧ w'.cell? (ad282.add ((x5_1).toNat * 2)) = some (.bool ((rd_T94 l1 x5_1).f0)) ∧ w'.cell? ⟨(ad282.add ((x5_1).toNat * 2)).block, (ad282.add ((x5_1).toNat * 2)).off + 1, none⟩ = some (.slice A282_1 ((rd_T94 l1 x5_1).f1).length c282_1)) (ds := []) ⟨(kp HB.out hw281_0), (kp HB.out hw281_1), (kp HB.out hw282_0), (kp HB.out hw282_1)⟩ (fun hHeld => ?_); refine with_tabW laws_eqStateS.tab6 laws_eqStateS.bits6 (fun HT_ HW_ => ?_)
     generalize wr.drew = w11 at HB HR281_1 HR282_1 hx281_0 hx281_1 hx282_0 hx282_1 hHeld ⊢
     refine pu 0 17 ?_
     refine pu 1 18 ?_
     refine pu 2 19 ?_
     refine pu 4 21 ?_
     refine pu 5 22 ?_
     refine pu 6 23 ?_
     refine tk4 3 20 hHeld ?_
     refine tk4 7 24 hHeld ?_
     refine on1 8 25 (fun K hK => ?_)
     refine goes_ Try.func74 (by kernel_rfl) rfl #[.agg #[.bool ((rd_T94 l0 x5_1).f0), .slice A281_1 ((rd_T94 l0 x5_1).f1).length c281_1], .agg #[.bool ((rd_T94 l1 x5_1).f0), .slice A282_1 ((rd_T94 l1 x5_1).f1).length c282_1]] (by rfl) rfl rfl mq ?_
     with_reducible refine (laws_eqState.calls k1 ((rd_T94 l0 x5_1).f0) _ _ ((rd_T94 l0 x5_1).f1) ((rd_T94 l1 x5_1).f0) _ _ ((rd_T94 l1 x5_1).f1) false _ ?side1 ?side2 ?side3 ?side4 A7.out).mono ?_
     (case side1 => exact cq (Kd.C_below HR281_1.out HB.out)); (case side2 => exact HC281_1.out); (case side3 => exact cq (Kd.C_below HR282_1.out HB.out)); (case side4 => exact HC282_1.out)
     rintro e w12 ⟨rfl, hb⟩
     refine ⟨_, rfl, ?_⟩
     replace HB := am (below_step bel hb)
     (try clear hb)
     (try clear hb2)
     (try clear hk)
     (try clear hi)
     refine hK.out _ _ ⟨(kp HB.out hw281_0), (kp HB.out hw281_1), (kp HB.out hw282_0), (kp HB.out hw282_1)⟩ (fun hHeld => ?_)
     clear hK K
     refine norm_ (a' := ?_) ?_ ?_
     rotate_left
     ·show Act.put _ (some 25) _ = _
      simp only [Act.put, List.setIfInBounds_toArray, List.set_cons_zero, List.set_cons_succ, i64_w, i32_w]
      rfl
     refine pu 9 26 ?_
     refine done_ (done_of HT_.out (by kernel_rfl)) ?_
     try go_wp2
     go_ret
     exact ⟨eq_, bel⟩
    rw [if_neg c4] at H; have c4b0 := decide_eq_false c4; clear c4; obtain rfl := Option.some.inj H; go_wp2; go_ret
    exact ⟨eq_, bel⟩
 rw [if_neg c3] at H
 have c3b0 : ((l0.length : Int) == (l1.length : Int)) = false := beq_eq_false_iff_ne.mpr c3
 have c3b1 : ((l0.length : Int) != (l1.length : Int)) = true := bne_iff_ne.mpr c3
 have c3b2 : (l0.length == l1.length) = false := b28_
 obtain rfl := Option.some.inj H; go_enter Try.func29, Try.ntmps29; go_wp2; go_ret
 exact ⟨eq_, bel⟩

/-! ### laws_markEdgeS: function 75 -/
def laws_markEdgeS.l0 : Nat → List (S100) → Int → Int → Option (Int × (List (S100)))
 | 0, _, _, _ => none
 | k + 1, x0, x1, x5 => if x5 < (x0.length : Int) then (if 0 ≤ x5 then ((some (x0.set (x5 : Int).toNat (⟨x1, (rd_T100 x0 x5).f1⟩ : S100) : List (S100))).bind fun y284 => (laws_markEdgeS.l0 k (y284.set (x5 : Int).toNat (⟨(rd_T100 y284 x5).f0, wrap64 (x1 + 1)⟩ : S100)) (wrap64 ((wrap64 (x1 + 1)) + 1)) (wrap64 (x5 + 1)))) else (none)) else (some (x1, x0))
def laws_markEdgeS.f (k : Nat) (l0 : List (S100)) (a1 : Int) : Option (Int × (List (S100))) := laws_markEdgeS.l0 k l0 a1 0
theorem laws_markEdgeS.calls (k : Nat) (P0_ : Nat → Prop) (u9000_ : Value) (l0 : List (S100)) (a1 : Int) (r1 : Int) (r2 : List (S100)) (w0 w : World) (hB : Below w0.heap.size w0 w) (ho0 : Kd.R k100 100 w w0.heap.size P0_ u9000_ l0) (h : laws_markEdgeS.f k l0 a1 = some (r1, r2)) :
  Calls Try.prog 75 #[u9000_, .int .i64 a1] w fun e w' => e = .returned (.int .i64 r1) ∧ Kd.R k100 100 w' w0.heap.size (fun k_ => (P0_ k_ ∨ w.heap.size ≤ k_)) u9000_ r2 ∧ Below w0.heap.size w0 w' ∧ Kept w w' (fun k_ => P0_ k_) := by
 have HO0 := am (show Kd.R k100 100 w w0.heap.size (fun k_ => (P0_ k_ ∨ w.heap.size ≤ k_)) u9000_ l0 from Kd.R_mono ho0 (fun k_ hk => (.inl hk))); have HK := am (Kept.refl w (fun k_ => P0_ k_)); have HW0 := am hB.size; have HB := am hB; clear hB
 have H : (laws_markEdgeS.l0 k l0 a1 0) = some (r1, r2) := h
 clear h
 have H' := am H
 clear H; go_enter Try.func75, Try.ntmps75; go_wp2
 go_loopg [1, 5] k (fun kq v1 v5 w' => ∃ (x0_1 : List (S100)) (x1_1 : Int) (x5_1 : Int), v1 = .int .i64 x1_1 ∧ v5 = .int .i64 x5_1 ∧ Aside0 (laws_markEdgeS.l0 kq x0_1 x1_1 x5_1 = some (r1, r2)) ∧ Aside0 (kq ≤ k) ∧ Aside0 (Kd.R k100 100 w' w0.heap.size (fun k_ => (P0_ k_ ∨ w.heap.size ≤ k_)) u9000_ x0_1) ∧ Aside0 (Kept w w' (fun k_ => P0_ k_)) ∧ Aside0 (Below w0.heap.size w0 w'))
 case atStart => exact ⟨(l0), (a1), (0), sq, sq, H', ⟨Nat.le_refl _⟩, ⟨rq HO0.out⟩, ⟨b6_⟩, ⟨bel⟩⟩
 case round =>
  clear H'; (try clear p2); obtain ⟨x0_1, x1_1, x5_1, rfl, rfl, HA, HK1, HO_0, HK, HB⟩ := hrel
  cases gk with
  | zero => exact absurd HA.out (by simp [laws_markEdgeS.l0])
  | succ k1 =>
   have H := HA.out; clear HA
   simp only [laws_markEdgeS.l0] at H
   by_cases c3 : x5_1 < (x0_1.length : Int)
   ·rw [if_pos c3] at H; have c3b0 := decide_eq_true c3; clear c3
    replace H := it H; obtain ⟨c4b0, H⟩ := H; obtain ⟨y284, hy284⟩ : ∃ y_ : List (S100), y_ = (x0_1.set (x5_1 : Int).toNat (⟨x1_1, (rd_T100 x0_1 x5_1).f1⟩ : S100)) := ⟨_, rfl⟩
    replace H : (laws_markEdgeS.l0 k1 (y284.set (x5_1 : Int).toNat (⟨(rd_T100 y284 x5_1).f0, wrap64 (x1_1 + 1)⟩ : S100)) (wrap64 ((wrap64 (x1_1 + 1)) + 1)) (wrap64 (x5_1 + 1))) = some (r1, r2) := by first | (rw [hy284]; with_reducible exact H) | (have H2_ := bm H; rw [hy284]; with_reducible exact H2_) | (with_reducible exact bm H) | with_reducible exact H | (rw [hy284]; exact H) | exact H
    have Ny284 := am hy284; clear hy284; obtain ⟨y285, hy285⟩ : ∃ y_ : List (S100), y_ = (y284.set (x5_1 : Int).toNat (⟨(rd_T100 y284 x5_1).f0, wrap64 (x1_1 + 1)⟩ : S100)) := ⟨_, rfl⟩
    replace H : (laws_markEdgeS.l0 k1 y285 (wrap64 ((wrap64 (x1_1 + 1)) + 1)) (wrap64 (x5_1 + 1))) = some (r1, r2) := by first | (rw [hy285]; with_reducible exact H) | (have H2_ := bm H; rw [hy285]; with_reducible exact H2_) | (with_reducible exact bm H) | with_reducible exact H | (rw [hy285]; exact H) | exact H
    have Ny285 := am hy285; clear hy285
    have H' := am H
    clear H; obtain ⟨Ao7, co7, eo7⟩ := Kd.R_slice HO_0.out; subst eo7
    have p5 : 0 ≤ (x5_1 : Int) := of_decide_eq_true ad
    have q5 : (x5_1 : Int) < ((x0_1.length : Int) : Int) := of_decide_eq_true ad
    obtain ⟨go5, co5, eo5, gb5, gl5, cl5, HG5⟩ := Kd.R_form HO_0.out (by omega)
    (first | cases eo5 | (injection eo5 with ea_ en_ ec_; (first | subst ea_ | (injection ea_ with ea_; subst ea_)); subst ec_; clear en_))
    have GB5 := Aside0.mk gb5; have GG5 := am HG5; clear gb5 gl5 HG5; have HMgo5 := am (show (P0_ go5 ∨ w.heap.size ≤ go5) from (HO_0.out.1 _ rfl)); obtain ⟨ce5, hcl5, hM5, hcc5, hfr5⟩ := Kd.R_elem HO_0.out z100 (x5_1 : Int) p5 q5; obtain rfl := k100_openM hM5
    have hx5_0 : wr.cell? ⟨go5, (x5_1 : Int).toNat * 2, none⟩ = some (.int .i64 ((rd_T100 x0_1 x5_1).f0)) := hcc5 0 _ rfl
    have hx5_1 : wr.cell? ⟨go5, (x5_1 : Int).toNat * 2 + 1, none⟩ = some (.int .i64 ((rd_T100 x0_1 x5_1).f1)) := hcc5 1 _ rfl
    have hf5_0 : wr.frozen? ⟨go5, (x5_1 : Int).toNat * 2, none⟩ = false := hfr5 0
    have hf5_1 : wr.frozen? ⟨go5, (x5_1 : Int).toNat * 2 + 1, none⟩ = false := hfr5 1
    clear hcl5 hcc5 hfr5; (try clear hM5)
    replace p5 := eq_true p5; replace q5 := eq_true q5; have HX8 := am (show Kd.R k100 100 wr w0.heap.size (fun k_ => (P0_ k_ ∨ w.heap.size ≤ k_)) (.slice (some ⟨go5, 0, none⟩) x0_1.length co7) x0_1 from (rq HO_0.out))
    obtain ⟨ce8, hcl8, hM8, hcc8, hfr8⟩ := Kd.R_elem HX8.out z100 (x5_1 : Int) (of_decide_eq_true ad) b14_
    obtain rfl := k100_openM hM8
    have HP8 := Kd.R_seg HX8.out (x5_1 : Int) (of_decide_eq_true ad) b14_ (seg := [.int .i64 x1_1]) (j := 0) hcl8 hcc8 (show 1 ≤ 2 from by decide) (x' := (⟨x1_1, (rd_T100 x0_1 x5_1).f1⟩ : S100)) (k100_mkM _ _ _ (⟨x1_1, (rd_T100 x0_1 x5_1).f1⟩ : S100) ) (fun _ hk => hk)
    have hx8_0 := hcc8 0 _ rfl
    (try simp only [show (k100).sz = 2 from rfl, Nat.mul_one, Nat.add_zero] at hx8_0)
    have hf8_0 := hfr8 0
    (try simp only [show (k100).sz = 2 from rfl, Nat.mul_one, Nat.add_zero] at hf8_0)
    clear hcl8 hcc8 hfr8; (try clear hM8)
    go_wp2_with (first | ((with_reducible refine gate_store (t := 3) (p := 16) rfl ?_); refine store_event (t := 3) (p := 16) (v := ?vo_w9) (w1 := (wr.setCell ⟨go5, (x5_1 : Int).toNat * 2, none⟩ (.int .i64 x1_1))) ?hg ?ho ?hn ?hr ?_; (case ho => rfl); (case hg => rfl); (case hn => rfl); (case hr => first | (go_simp; done) | (go_simp; rfl)); intro w9 hw; have hg : wr.grownBy w9 (some go5) := (by rw [hw]; exact HP8.2); have hp_ : Kd.R k100 100 w9 w0.heap.size (fun k_ => (P0_ k_ ∨ w.heap.size ≤ k_)) (.slice (some ⟨go5, 0, none⟩) x0_1.length co7) y284 := (by rw [hw, Ny284.out]; exact HP8.1); clear HP8; replace HB := am ((by rw [hw]; exact below_set (HB.out) GB5.out : Below w0.heap.size w0 w9)); replace HK := am (Kept.of_grown (S := (fun k_ => P0_ k_)) hg b6_ (fun k_ e_ => (HO_0.out.1 k_ e_))); replace HO_0 := am (hp_); clear hg hw hp_; have p6 : 0 ≤ (x5_1 : Int) := of_decide_eq_true ad; have q6 : (x5_1 : Int) < ((x0_1.length : Int) : Int) := of_decide_eq_true ad; obtain ⟨ce6, hcl6, hM6, hcc6, hfr6⟩ := Kd.R_elem HO_0.out z100 (x5_1 : Int) p6 q6; obtain rfl := k100_openM hM6; have hx6_0 : w9.cell? ⟨go5, (x5_1 : Int).toNat * 2, none⟩ = some (.int .i64 ((rd_T100 y284 x5_1).f0)) := hcc6 0 _ rfl; have hx6_1 : w9.cell? ⟨go5, (x5_1 : Int).toNat * 2 + 1, none⟩ = some (.int .i64 ((rd_T100 y284 x5_1).f1)) := hcc6 1 _ rfl; have hf6_0 : w9.frozen? ⟨go5, (x5_1 : Int).toNat * 2, none⟩ = false := hfr6 0; have hf6_1 : w9.frozen? ⟨go5, (x5_1 : Int).toNat * 2 + 1, none⟩ = false := hfr6 1; clear hcl6 hcc6 hfr6; (try clear hM6); replace p6 := eq_true p6; replace q6 := eq_true q6; have HX10 := am (show Kd.R k100 100 w9 w0.heap.size (fun k_ => (P0_ k_ ∨ w.heap.size ≤ k_)) (.slice (some ⟨go5, 0, none⟩) x0_1.length co7) y284 from (rq HO_0.out)); obtain ⟨ce10, hcl10, hM10, hcc10, hfr10⟩ := Kd.R_elem HX10.out z100 (x5_1 : Int) (of_decide_eq_true ad) b14_; obtain rfl := k100_openM hM10; have HP10 := Kd.R_seg HX10.out (x5_1 : Int) (of_decide_eq_true ad) b14_ (seg := [.int .i64 (wrap64 (x1_1 + 1))]) (j := 1) hcl10 hcc10 (show 2 ≤ 2 from by decide) (x' := (⟨(rd_T100 y284 x5_1).f0, wrap64 (x1_1 + 1)⟩ : S100)) (k100_mkM _ _ _ (⟨(rd_T100 y284 x5_1).f0, wrap64 (x1_1 + 1)⟩ : S100) ) (fun _ hk => hk); have hx10_1 := hcc10 1 _ rfl; (try simp only [show (k100).sz = 2 from rfl, Nat.mul_one, Nat.add_zero] at hx10_1); have hf10_1 := hfr10 1; (try simp only [show (k100).sz = 2 from rfl, Nat.mul_one, Nat.add_zero] at hf10_1); clear hcl10 hcc10 hfr10; (try clear hM10)) | ((with_reducible refine gate_store (t := 3) (p := 23) rfl ?_); refine store_event (t := 3) (p := 23) (v := ?vo_w11) (w1 := (w9.setCell ⟨go5, (x5_1 : Int).toNat * 2 + 1, none⟩ (.int .i64 (wrap64 (x1_1 + 1))))) ?hg ?ho ?hn ?hr ?_; (case ho => rfl); (case hg => rfl); (case hn => rfl); (case hr => first | (go_simp; done) | (go_simp; rfl)); intro w11 hw; have hg : w9.grownBy w11 (some go5) := (by rw [hw]; exact HP10.2); have hp_ : Kd.R k100 100 w11 w0.heap.size (fun k_ => (P0_ k_ ∨ w.heap.size ≤ k_)) (.slice (some ⟨go5, 0, none⟩) x0_1.length co7) y285 := (by rw [hw, Ny285.out]; exact HP10.1); clear HP10; replace HB := am ((by rw [hw]; exact below_set (HB.out) GB5.out : Below w0.heap.size w0 w11)); replace HK := am (Kept.of_grown (S := (fun k_ => P0_ k_)) hg b6_ (fun k_ e_ => (HO_0.out.1 k_ e_))); replace HO_0 := am (hp_); clear hg hw hp_))
    go_roundg k1
    case measure => have := HK1.out; omega
    case rel => exact ⟨(y285), (wrap64 ((wrap64 (x1_1 + 1)) + 1)), (wrap64 (x5_1 + 1)), sq, sq, H', ⟨b21_⟩, ⟨rq HO_0.out⟩, ⟨b6_⟩, ⟨bel⟩⟩
   rw [if_neg c3] at H; have c3b0 := decide_eq_false c3; clear c3
   simp only [Option.some.injEq, Prod.mk.injEq] at H
   obtain ⟨rfl, rfl⟩ := H; obtain ⟨Ao12, co12, eo12⟩ := Kd.R_slice HO_0.out; subst eo12; go_wp2; go_ret
   exact ⟨eq_, by (with_reducible repeat (first | apply Kd.R_alloc | apply Kd.R_drewN | apply Kd.R_drew)); exact HO_0.out, bel, b6_⟩

/-! ### laws_markStateS: function 30 -/
/-- How far the marks have come. -/
def laws_markStateS.ks (l : List S94) (a : Int) : Int := l.foldl (fun k s => k + 1 + 2 * (s.f1.length : Int)) a
def laws_markStateS.f (l0 : List S94) (a1 : Int) : Option Int := if l0.length ≤ 2000000 ∧ (∀ s ∈ l0, s.f1.length ≤ 2000000) ∧ 0 ≤ a1 ∧ a1 ≤ 2000000 then some (laws_markStateS.ks l0 a1) else none
theorem laws_markStateS.ks_snoc (l : List S94) (i : Nat) (h : i < l.length) (a : Int) : laws_markStateS.ks (l.take (i + 1)) a = laws_markStateS.ks (l.take i) a + 1 + 2 * (l[i].f1.length : Int) := by
 unfold laws_markStateS.ks
 rw [List.take_succ_eq_append_getElem h, List.foldl_append]
 rfl
theorem laws_markStateS.ks_le (l : List S94) (hz : ∀ s ∈ l, s.f1.length ≤ 2000000) (a : Int) : ∀ i : Nat, i ≤ l.length → a ≤ laws_markStateS.ks (l.take i) a ∧ laws_markStateS.ks (l.take i) a ≤ a + 4000001 * i := by
 intro i
 induction i with
 | zero => intro _; simp [laws_markStateS.ks]
 | succ i ih =>
  intro h
  have h1 := ih (by omega)
  rw [laws_markStateS.ks_snoc l i (by omega)]
  have h2 := hz _ (List.getElem_mem (show i < l.length by omega))
  omega
theorem laws_markStateS.edge (d : Nat) : ∀ (i : Nat) (l : List S100) (a : Int), i + d = l.length → l.length ≤ 2000000 → 0 ≤ a → a + 2 * d ≤ 9000000000000000 → ∃ l', l'.length = l.length ∧ laws_markEdgeS.l0 (d + 1) l a (i : Int) = some (a + 2 * d, l') := by
 have hw : ∀ n : Int, 0 ≤ n → n ≤ 9000000000000100 → wrap64 n = n := fun n h1 h2 => by unfold wrap64; omega
 induction d with
 | zero =>
  intro i l a hi hl h0 h1
  exact ⟨l, rfl, by simp only [laws_markEdgeS.l0]; rw [if_neg (by omega)]; simp⟩
 | succ d ih =>
  intro i l a hi hl h0 h1
  have e1 : wrap64 (a + 1) = a + 1 := hw _ (by omega) (by omega)
  have e2 : wrap64 (a + 1 + 1) = a + 1 + 1 := hw _ (by omega) (by omega)
  have e3 : wrap64 ((i : Int) + 1) = ((i + 1 : Nat) : Int) := hw _ (by omega) (by omega)
  rw [laws_markEdgeS.l0, if_pos (by omega), if_pos (by omega), Option.bind_some, e1, e2, e3]
  obtain ⟨l', h2, h3⟩ := ih (i + 1) ((l.set (i : Int).toNat ⟨a, (rd_T100 l (i : Int)).f1⟩).set (i : Int).toNat ⟨(rd_T100 (l.set (i : Int).toNat ⟨a, (rd_T100 l (i : Int)).f1⟩) (i : Int)).f0, a + 1⟩) (a + 1 + 1) (by simp; omega) (by simpa using hl) (by omega) (by omega)
  refine ⟨l', by simpa using h2, ?_⟩
  rw [h3]
  congr 2
  omega
theorem laws_markStateS.edgeF (l : List S100) (a : Int) (hl : l.length ≤ 2000000) (h0 : 0 ≤ a) (h1 : a ≤ 8999999990000000) : ∃ l', l'.length = l.length ∧ laws_markEdgeS.f (l.length + 1) l a = some (a + 2 * l.length, l') :=
 laws_markStateS.edge l.length 0 l a (by omega) hl h0 (by omega)
def laws_markStateS.Ty (w : World) (k : Nat) : Prop := ∃ q, (q = 94 ∨ q = 100) ∧ ∃ cells, w.heap[k]? = some (.cells cells q (0, 0))
/-- Another row stays. -/
theorem laws_markStateS.keep {α : Type} {d : Kd α} {e base : Nat} {ok : Nat → Prop} {v : Value} {xs : List α} {w w' : World} (h : Kd.R d e w base ok v xs) (hk : Kept w w' (laws_markStateS.Ty w)) (ht : ∀ q, q ∈ e :: d.E → q ≠ 94 ∧ q ≠ 100) : Kd.R d e w' base ok v xs := by
 refine Kd.R_mono (Kd.R_step (Kd.R_bound h) (fun k ho hlt => hk.2 k hlt ?_)) (fun k hk => hk.1)
 rintro ⟨q, hq, c, hc⟩
 obtain ⟨_, _, _, q2, hq2, c2, hc2⟩ := ho; rw [hc] at hc2
 injection hc2 with hc2
 injection hc2 with _ e1 _
 subst e1
 rcases hq with rfl | rfl
 ·exact absurd rfl (ht _ hq2).1
 ·exact absurd rfl (ht _ hq2).2
/-- The rows as they lie. -/
def laws_markStateS.Sh (W : World) (base g cap n : Nat) (V : Nat → Value) (l : List S94) : Prop :=
 ∃ cur : Array Value, W.heap[g]? = some (.cells cur 94 (0, 0)) ∧ base ≤ g ∧ cur.size = cap * 2 ∧ n ≤ cap ∧ n = l.length ∧
  (∀ i, i < n → (∃ b, cur[i * 2]? = some (.bool b)) ∧ cur[i * 2 + 1]? = some (V i) ∧ ∃ e : List S100, e.length = (l.getD i z94).f1.length ∧ Kd.R k100 100 W base (fun k => some k = (V i).ownBlock) (V i) e) ∧
  (∀ i j k, i < n → j < n → (V i).ownBlock = some k → (V j).ownBlock = some k → i = j)
theorem laws_markStateS.sh {w : World} {base : Nat} {ok : Nat → Prop} {u : Value} {l : List S94} (h : Kd.S k94 94 w base ok u l) (hp : 0 < l.length) :
  ∃ g cap V, u = .slice (some ⟨g, 0, none⟩) l.length cap ∧ laws_markStateS.Sh w base g cap l.length V l := by
 obtain ⟨f, h0, inner, ho, hr⟩ := h; rw [List.length_zipIdx] at ho
 rcases ho.2 with ⟨_, hn⟩ | ⟨g, cap, cur, e0, hb, hg, h1, h2, h3, h4⟩
 ·omega
 have hsz : (Kd.tag f k94).sz = 2 := rfl
 rw [hsz] at h3 h4
 have hx : ∀ i, (hi : i < l.length) → ∃ v1, (inner.drop (i * 2)).take 2 = [.bool l[i].f0, v1] ∧ Kd.R k100 100 w base (fun k => (ok k ∧ some k ≠ u.ownBlock) ∧ f k = i) v1 l[i].f1 := fun i hi => by
  have := hr.2 i (l[i], i) (Kd.zip_at (List.getElem?_eq_getElem hi))
  exact k94_openM this
 let V : Nat → Value := fun i => if hi : i < l.length then Classical.choose (hx i hi) else .slice none 0 0
 have hV : ∀ i, (hi : i < l.length) → (inner.drop (i * 2)).take 2 = [.bool l[i].f0, V i] ∧ Kd.R k100 100 w base (fun k => (ok k ∧ some k ≠ u.ownBlock) ∧ f k = i) (V i) l[i].f1 := fun i hi => by
  have e : V i = Classical.choose (hx i hi) := dif_pos hi
  rw [e]
  exact Classical.choose_spec (hx i hi)
 refine ⟨g, cap, V, e0, cur, hg, hb, h3, h1, rfl, fun i hi => ?_, fun i j k hi hj hi2 hj2 => ?_⟩
 ·obtain ⟨e1, e2⟩ := hV i hi
  have hc : ∀ t, t < 2 → cur[i * 2 + t]? = ([.bool l[i].f0, V i] : List Value)[t]? := fun t ht => by
   rw [← e1, List.getElem?_take, if_pos ht, List.getElem?_drop, ← h4, List.getElem?_take, if_pos (by omega), Array.getElem?_toList]
  exact ⟨⟨l[i].f0, hc 0 (by omega)⟩, hc 1 (by omega), l[i].f1, by simp [List.getD_eq_getElem?_getD, hi], Kd.R_tight rfl e2⟩
 ·have a := ((hV i hi).2.1 k hi2).2; have b := ((hV j hj).2.1 k hj2).2
  omega
/-- Behind a store of a bool. -/
theorem laws_markStateS.sh_bool {W : World} {base g cap n : Nat} {V : Nat → Value} {l : List S94} (h : laws_markStateS.Sh W base g cap n V l) (i : Nat) (hi : i < n) (b : Bool) : laws_markStateS.Sh (W.setCell ⟨g, i * 2, none⟩ (.bool b)) base g cap n V l := by
 obtain ⟨cur, hg, hb, hs, hc, hn, hx, hd⟩ := h
 refine ⟨cur.setIfInBounds (i * 2) (.bool b), ?_, hb, by simpa using hs, hc, hn, fun j hj => ?_, hd⟩
 ·simp [World.setCell, Array.getElem?_modify, hg]
 ·obtain ⟨⟨b2, x1⟩, x2, e, x3, x4⟩ := hx j hj
  refine ⟨?_, ?_, e, x3, Kd.R_far x4 (fun k hk e1 => ?_) _⟩
  ·by_cases c : i = j
   ·subst c
    exact ⟨b, by rw [Array.getElem?_setIfInBounds_self_of_lt (by omega)]⟩
   ·exact ⟨b2, by rw [Array.getElem?_setIfInBounds_ne (by omega)]; exact x1⟩
  ·rw [Array.getElem?_setIfInBounds_ne (by omega)]; exact x2
  ·have e2 : k = g := e1
   subst e2; obtain ⟨cells, hcl⟩ := Kd.R_typed x4 k hk.symm; rw [hg] at hcl
   injection hcl with hcl
   injection hcl with _ hcl _
   cases hcl
/-- Behind the marks of one element's row. -/
theorem laws_markStateS.sh_row {W W1 : World} {base g cap n : Nat} {V : Nat → Value} {l : List S94} (h : laws_markStateS.Sh W base g cap n V l) (i : Nat) (hi : i < n) (hk : Kept W W1 (fun k => some k = (V i).ownBlock)) {e : List S100} (he : e.length = (l.getD i z94).f1.length)
  (hR : Kd.R k100 100 W1 base (fun k => some k = (V i).ownBlock ∨ W.heap.size ≤ k) (V i) e) : laws_markStateS.Sh W1 base g cap n V l := by
 obtain ⟨cur, hg, hb, hs, hc, hn, hx, hd⟩ := h; have hgl := (Array.getElem?_eq_some_iff.1 hg).1
 have hgi : ¬ some g = (V i).ownBlock := fun e1 => by
  obtain ⟨_, _, e2, _, x4⟩ := hx i hi; obtain ⟨cells, hcl⟩ := Kd.R_typed x4 g e1.symm; rw [hg] at hcl
  injection hcl with hcl
  injection hcl with _ hcl _
  cases hcl
 refine ⟨cur, by rw [hk.2 g hgl hgi]; exact hg, hb, hs, hc, hn, fun j hj => ?_, hd⟩
 obtain ⟨x1, x2, e2, x3, x4⟩ := hx j hj
 refine ⟨x1, x2, ?_⟩
 by_cases c : i = j
 ·subst c
  exact ⟨e, he, Kd.R_tight rfl hR⟩
 ·exact ⟨e2, x3, Kd.R_step x4 (fun k ho hlt => hk.2 k hlt (fun e3 => c (hd i j k hi hj e3.symm ho.symm)))⟩
theorem laws_markStateS.cells {W : World} {base g cap n : Nat} {V : Nat → Value} {l : List S94} (h : laws_markStateS.Sh W base g cap n V l) (i : Nat) (hi : i < n) :
  (∃ b, W.cell? ⟨g, i * 2, none⟩ = some (.bool b)) ∧ W.frozen? ⟨g, i * 2, none⟩ = false ∧ W.cell? ⟨g, i * 2 + 1, none⟩ = some (V i) ∧ W.frozen? ⟨g, i * 2 + 1, none⟩ = false ∧
  (∃ e : List S100, e.length = (l.getD i z94).f1.length ∧ Kd.R k100 100 W base (fun k => some k = (V i).ownBlock) (V i) e) ∧ (∀ k, some k = (V i).ownBlock → laws_markStateS.Ty W k) ∧ laws_markStateS.Ty W g ∧ base ≤ g := by
 obtain ⟨cur, hg, hb, hs, hc, hn, hx, hd⟩ := h; obtain ⟨⟨b, x1⟩, x2, e, x3, x4⟩ := hx i hi
 refine ⟨⟨b, ?_⟩, ?_, ?_, ?_, ⟨e, x3, x4⟩, fun k hk => ?_, ⟨94, .inl rfl, cur, hg⟩, hb⟩
 ·simp [World.cell?, hg, x1]
 ·simp [World.frozen?, hg]
 ·simp [World.cell?, hg, x2]
 ·simp [World.frozen?, hg]
 ·obtain ⟨cells, hcl⟩ := Kd.R_typed x4 k hk.symm
  exact ⟨100, .inr rfl, cells, hcl⟩
theorem laws_markStateS.ty_bool {w W : World} {g p : Nat} {u : Value} (hg : laws_markStateS.Ty W g) (h : ∀ k, k < w.heap.size → laws_markStateS.Ty W k → laws_markStateS.Ty w k) : ∀ k, k < w.heap.size → laws_markStateS.Ty (W.setCell ⟨g, p, none⟩ u) k → laws_markStateS.Ty w k := fun k hk hT => by
 by_cases c : k = g
 ·subst c; exact h k hk hg
 ·obtain ⟨q, hq, cells, hc⟩ := hT; rw [Below.heap_setCell W ⟨g, p, none⟩ u k c] at hc
  exact h k hk ⟨q, hq, cells, hc⟩
theorem laws_markStateS.kept_bool {w W : World} {g p : Nat} {u : Value} (h : Kept w W (laws_markStateS.Ty w)) (hg : laws_markStateS.Ty W g) (ht : ∀ k, k < w.heap.size → laws_markStateS.Ty W k → laws_markStateS.Ty w k) : Kept w (W.setCell ⟨g, p, none⟩ u) (laws_markStateS.Ty w) :=
 ⟨by simpa [World.setCell] using h.1, fun i hi hn => by
  rw [Below.heap_setCell W ⟨g, p, none⟩ u i (fun e => hn (by have e2 : i = g := e; subst e2; exact ht i hi hg))]
  exact h.2 i hi hn⟩
theorem laws_markStateS.kept_row {w W W1 : World} {P : Nat → Prop} (h : Kept w W (laws_markStateS.Ty w)) (hP : ∀ k, P k → laws_markStateS.Ty W k) (ht : ∀ k, k < w.heap.size → laws_markStateS.Ty W k → laws_markStateS.Ty w k) (hk : Kept W W1 P) : Kept w W1 (laws_markStateS.Ty w) :=
 ⟨Nat.le_trans h.1 hk.1, fun i hi hn => by
  rw [← h.2 i hi hn]
  exact hk.2 i (Nat.lt_of_lt_of_le hi h.1) (fun hp => hn (ht i hi (hP i hp)))⟩
theorem laws_markStateS.ty_row {w W W1 : World} {P : Nat → Prop} (hP : ∀ k, P k → laws_markStateS.Ty W k) (hs : w.heap.size ≤ W.heap.size) (hk : Kept W W1 P) (h : ∀ k, k < w.heap.size → laws_markStateS.Ty W k → laws_markStateS.Ty w k) : ∀ k, k < w.heap.size → laws_markStateS.Ty W1 k → laws_markStateS.Ty w k := fun k hlt hT => by
 by_cases c : P k
 ·exact h k hlt (hP k c)
 ·obtain ⟨q, hq, cells, hc⟩ := hT
  rw [hk.2 k (by omega) c] at hc
  exact h k hlt ⟨q, hq, cells, hc⟩
theorem laws_markStateS.calls (P0_ : Nat → Prop) (u9000_ : Value) (l0 : List S94) (a1 : Int) (r : Int) (w0 w : World) (hB : Below w0.heap.size w0 w) (ho0 : ∃ ok, Kd.S k94 94 w w0.heap.size ok u9000_ l0) (h : laws_markStateS.f l0 a1 = some r) :
  Calls Try.prog 30 #[u9000_, .int .i64 a1] w fun e w' => e = .returned (.int .i64 r) ∧ Below w0.heap.size w0 w' ∧ Kept w w' (laws_markStateS.Ty w) := by
 obtain ⟨ok, ho⟩ := ho0
 unfold laws_markStateS.f at h
 split at h
 case isFalse => cases h
 rename_i hz; obtain ⟨z1, z2, z3, z4⟩ := hz; obtain rfl := Option.some.inj h; clear h; have HW0 := am hB.size; have HB := am hB; clear hB
 by_cases hp : 0 < l0.length
 ·obtain ⟨g, cap, V, rfl, hsh⟩ := laws_markStateS.sh ho hp; have HS := am hsh; have HK := am (Kept.refl w (laws_markStateS.Ty w)); have Z1 := Aside0.mk z1; have Z2 := Aside0.mk z2; have Z3 := Aside0.mk z3; have Z4 := Aside0.mk z4; clear hsh z1 z2 z3 z4 ho ok; go_enter Try.func30, Try.ntmps30; go_wp2
  go_loopg [1, 5] l0.length (fun kq v1 v5 w' => ∃ (i : Nat), v1 = .int .i64 (laws_markStateS.ks (l0.take i) a1) ∧ v5 = .int .i64 (i : Int) ∧ Aside0 (i + kq = l0.length) ∧ Aside0 (laws_markStateS.Sh w' w0.heap.size g cap l0.length V l0) ∧ Aside0 (Kept w w' (laws_markStateS.Ty w)) ∧ Aside0 (Below w0.heap.size w0 w') ∧ Aside0 (∀ k, k < w.heap.size → laws_markStateS.Ty w' k → laws_markStateS.Ty w k))
  case atStart => exact ⟨0, by simp [laws_markStateS.ks], rfl, ⟨by omega⟩, HS, HK, HB, ⟨fun _ _ h => h⟩⟩
  case round =>
   obtain ⟨i, rfl, rfl, HI, HS, HK, HB, HT⟩ := hrel
   cases gk with
   | zero =>
    have hi := HI.out
    have c3b0 : decide ((i : Int) < (l0.length : Int)) = false := decide_eq_false (by omega)
    obtain rfl : i = l0.length := by omega
    clear hi
    rw [List.take_length] at *
    go_wp2; go_ret
    exact ⟨rfl, HB.out, HK.out⟩
   | succ k1 =>
    have hi := HI.out
    have hil : i < l0.length := by omega
    have c3b0 : decide ((i : Int) < (l0.length : Int)) = true := decide_eq_true (by omega)
    obtain ⟨⟨b, hx0⟩, hf0, hx1, hf1, _, _, hty, hbg⟩ := laws_markStateS.cells HS.out i hil; have TY := am hty; have GB := am hbg; have HIL := am hil
    have p5 := eq_true (show 0 ≤ ((i : Nat) : Int) by omega)
    have q5 := eq_true (show ((i : Nat) : Int) < (l0.length : Int) by omega)
    have hks := laws_markStateS.ks_le l0 Z2.out a1 i (by omega)
    have e1 : wrap64 (laws_markStateS.ks (l0.take i) a1 + 1) = laws_markStateS.ks (l0.take i) a1 + 1 := by have := Z1.out; have := Z3.out; have := Z4.out; unfold wrap64; omega
    have e3 : wrap64 ((i : Int) + 1) = ((i + 1 : Nat) : Int) := by have := Z1.out; unfold wrap64; omega
    have KS := am hks; clear hty hbg hi hil hks
    go_wp2_with (first | ((with_reducible refine gate_store (t := 4) (p := 18) rfl ?_); refine store_event (t := 4) (p := 18) (v := ?vo_w9) (w1 := (wr.setCell ⟨g, i * 2, none⟩ (.bool (Int.tmod (laws_markStateS.ks (l0.take i) a1) 3 == 0)))) ?hg ?ho ?hn ?hr ?_; (case ho => rfl); (case hg => rfl); (case hn => rfl); (case hr => first | (go_simp; done) | (go_simp; rfl)); intro w9 hw; have n0_ := am (show laws_markStateS.Sh w9 w0.heap.size g cap l0.length V l0 from by rw [hw]; exact laws_markStateS.sh_bool HS.out i HIL.out _); have n1_ := am (show Below w0.heap.size w0 w9 from by rw [hw]; exact below_set HB.out GB.out); have n2_ := am (show Kept w w9 (laws_markStateS.Ty w) from by rw [hw]; exact laws_markStateS.kept_bool HK.out TY.out HT.out); have n3_ := am (show ∀ k, k < w.heap.size → laws_markStateS.Ty w9 k → laws_markStateS.Ty w k from by rw [hw]; exact laws_markStateS.ty_bool TY.out HT.out); clear HS HB HK HT hx0 hf0 hx1 hf1 TY hw; have HS := n0_; have HB := n1_; have HK := n2_; have HT := n3_; clear n0_ n1_ n2_ n3_; obtain ⟨_, _, hx1, hf1, ⟨ed, hed, hrd⟩, hty, _, _⟩ := laws_markStateS.cells HS.out i HIL.out; have RD := am hrd; have ED := am hed; have TY := am hty; clear hrd hed hty) | ((with_reducible refine gate_callee (f := 75) rfl ?_); refine goesL_ (some 27) rfl rfl Try.func75 (by kernel_rfl) rfl #[V i, .int .i64 (laws_markStateS.ks (l0.take i) a1 + 1)] rfl (by (try simp only [List.map_toArray, List.map_cons, List.map_nil]); first | done | rfl) ?_))
    obtain ⟨ln, hln, hle⟩ := laws_markStateS.edgeF ed (laws_markStateS.ks (l0.take i) a1 + 1) (by have := ED.out; have := Z2.out _ (List.getElem_mem HIL.out); simp only [List.getD_eq_getElem?_getD, List.getElem?_eq_getElem HIL.out, Option.getD_some] at *; omega) (by have := KS.out; have := Z3.out; omega) (by have := KS.out; have := Z1.out; have := Z4.out; have := HIL.out; omega)
    (with_reducible refine (laws_markEdgeS.calls (ed.length + 1) (fun k_ => some k_ = (V i).ownBlock) (V i) ed (laws_markStateS.ks (l0.take i) a1 + 1) (laws_markStateS.ks (l0.take i) a1 + 1 + 2 * (ed.length : Int)) ln w0 _ HB.out RD.out hle).mono ?_)
    rintro e_ w10 ⟨rfl, hR, hb, hkp⟩
    have n0_ := am (laws_markStateS.sh_row HS.out i HIL.out hkp (hln.trans ED.out) hR); have n1_ := am hb; have n2_ := am (laws_markStateS.kept_row HK.out TY.out HT.out hkp); have n3_ := am (laws_markStateS.ty_row TY.out HK.out.1 hkp HT.out); clear HS HB HK HT hx1 hf1 TY RD hR hb hkp hle hln; have HS := n0_; have HB := n1_; have HK := n2_; have HT := n3_; clear n0_ n1_ n2_ n3_; go_wp2
    have e4 : laws_markStateS.ks (l0.take i) a1 + 1 + 2 * (ed.length : Int) = laws_markStateS.ks (l0.take (i + 1)) a1 := by
     rw [laws_markStateS.ks_snoc l0 i HIL.out, ED.out]
     simp only [List.getD_eq_getElem?_getD, List.getElem?_eq_getElem HIL.out, Option.getD_some]
    go_roundg k1
    case measure => omega
    case rel => exact ⟨i + 1, by first | (rw [e4]; done) | (simp [*]; done), by first | (rw [e3]; done) | (simp [*]; done), ⟨by have := HI.out; omega⟩, HS, HK, HB, HT⟩
 ·have h0 : l0 = [] := List.length_eq_zero_iff.1 (by omega)
  subst h0; obtain ⟨Ao, co, rfl⟩ := Kd.S_slice ho; go_enter Try.func30, Try.ntmps30; go_wp2
  go_loopg [1, 5] 0 (fun kq v1 v5 w' => v1 = .int .i64 a1 ∧ v5 = .int .i64 0 ∧ w' = w)
  case atStart => exact ⟨rfl, rfl, rfl⟩
  case round =>
   obtain ⟨rfl, rfl, rfl⟩ := hrel; go_wp2; go_ret
   exact ⟨rfl, HB.out, Kept.refl _ _⟩
-- shrunk

/-! ### laws_heldStringS: function 31 -/
def laws_heldStringS.l0 : Nat → List ByteArray → Int → Int → Option (Int)
 | 0, _, _, _ => none
 | k + 1, x0, x1, x5 => if x5 < (x0.length : Int) then (if 0 ≤ x5 then ((laws_markText.f k x1).bind fun t287 => (if (rdOf ByteArray.empty x0 x5).toList = t287.toList then (laws_heldStringS.l0 k x0 (wrap64 (x1 + 1)) (wrap64 (x5 + 1))) else (some (-1)))) else (none)) else (some x1)
def laws_heldStringS.f (k : Nat) (l0 : List ByteArray) (a1 : Int) : Option (Int) := laws_heldStringS.l0 k l0 a1 0
theorem laws_heldStringS.calls (k : Nat) (A0 : Option Addr) (c0 : Nat) (l0 : List ByteArray) (a1 : Int) (r : Int) (w : World) (hr0 : Kd.C Kd.string w A0 l0.length l0) (hc0 : l0.length ≤ c0) (h : laws_heldStringS.f k l0 a1 = some r) :
  Calls Try.prog 31 #[.slice A0 l0.length c0, .int .i64 a1] w fun e w' => e = .returned (.int .i64 r) ∧ Below w.heap.size w w' := by
 have HR0 := am hr0; have HC0 := am hc0; clear hr0 hc0; have HB := am (Below.refl w.heap.size w)
 have H : (laws_heldStringS.l0 k l0 a1 0) = some r := h
 clear h
 have H' := am H
 clear H; go_enter Try.func31, Try.ntmps31; go_wp2
 go_loopg [1, 5] k (fun kq v1 v5 w' => ∃ (x1_1 : Int) (x5_1 : Int), v1 = .int .i64 x1_1 ∧ v5 = .int .i64 x5_1 ∧ Aside0 (laws_heldStringS.l0 kq l0 x1_1 x5_1 = some r) ∧ Aside0 (kq ≤ k) ∧ Aside0 (Below w.heap.size w w'))
 case atStart => exact ⟨(a1), (0), sq, sq, H', ⟨Nat.le_refl _⟩, ⟨bel⟩⟩
 case round =>
  clear H'; (try clear p2); obtain ⟨x1_1, x5_1, rfl, rfl, HA, HK1, HB⟩ := hrel
  cases gk with
  | zero => exact absurd HA.out (by simp [laws_heldStringS.l0])
  | succ k1 =>
   have H := HA.out; clear HA
   simp only [laws_heldStringS.l0] at H
   by_cases c3 : x5_1 < (l0.length : Int)
   ·rw [if_pos c3] at H; have c3b0 := decide_eq_true c3; clear c3
    replace H := it H; obtain ⟨c4b0, H⟩ := H; replace H := bs H; obtain ⟨t287, A50, H⟩ := H; replace H : (if (rdOf ByteArray.empty l0 x5_1).toList = t287.toList then (laws_heldStringS.l0 k1 l0 (wrap64 (x1_1 + 1)) (wrap64 (x5_1 + 1))) else (some (-1))) = some r := H; have A5 := Aside0.mk A50; clear A50
    by_cases c6 : (rdOf ByteArray.empty l0 x5_1).toList = t287.toList
    ·rw [if_pos c6] at H
     have c6b0 : ((rdOf ByteArray.empty l0 x5_1).toList == t287.toList) = true := beq_iff_eq.mpr c6
     have c6b1 : ((rdOf ByteArray.empty l0 x5_1).toList != t287.toList) = false := bne_eq_false_iff_eq.mpr c6
     clear c6
     have H' := am H
     clear H
     try go_wp2
     replace HB := am (below_drew1 HB.out)
     have p286 : 0 ≤ (x5_1 : Int) := of_decide_eq_true ad
     have q286 : x5_1 < (l0.length : Int) := of_decide_eq_true ad
     obtain ⟨ad286, e286, hx286_0⟩ := Kd.at_string HR0.out x5_1 p286 q286; have hw286_0 := hx286_0
     cases e286
     replace hx286_0 := kp HB.out hx286_0; replace p286 := eq_true p286; replace q286 := eq_true q286
     refine st (n := 7) (S := fun w' => w'.cell? (ad286.add (x5_1).toNat) = some (.string (rdOf ByteArray.empty l0 x5_1))) (ds := []) ((kp HB.out hw286_0)) (fun hHeld => ?_)
     generalize wr.drew = w7 at HB hx286_0 hHeld ⊢
     refine pk 0 12 ?_
     refine pk 1 13 ?_
     refine pk 2 14 ?_
     refine pk 4 16 ?_
     refine kk1 3 15 hHeld ?_
     refine ok1 5 17 (fun K hK => ?_)
     refine goes_ Try.func63 (by kernel_rfl) rfl #[.int .i64 x1_1] (by rfl) rfl rfl mq ?_
     with_reducible refine (laws_markText.calls k1 x1_1 t287 _ A5.out).mono ?_
     rintro e w8 ⟨rfl, hb⟩
     refine ⟨_, rfl, ?_⟩
     replace HB := am (below_step bel hb)
     (try clear hb)
     (try clear hb2)
     (try clear hk)
     (try clear hi)
     refine hK.out _ _ ((kp HB.out hw286_0)) (fun hHeld => ?_)
     clear hK K
     refine norm_ (a' := ?_) ?_ ?_
     rotate_left
     ·show Act.put _ (some 17) _ = _
      simp only [Act.put, List.setIfInBounds_toArray, List.set_cons_zero, List.set_cons_succ, i64_w, i32_w]
      rfl
     refine pk 6 18 ?_
     refine done_ (by kernel_rfl) ?_
     try go_wp2
     go_roundg k1
     case measure => have := HK1.out; omega
     case rel => exact ⟨(wrap64 (x1_1 + 1)), (wrap64 (x5_1 + 1)), sq, sq, H', ⟨b21_⟩, ⟨bel⟩⟩
    rw [if_neg c6] at H
    have c6b0 : ((rdOf ByteArray.empty l0 x5_1).toList == t287.toList) = false := beq_eq_false_iff_ne.mpr c6
    have c6b1 : ((rdOf ByteArray.empty l0 x5_1).toList != t287.toList) = true := bne_iff_ne.mpr c6
    obtain rfl := Option.some.inj H
    try go_wp2
    replace HB := am (below_drew1 HB.out)
    have p286 : 0 ≤ (x5_1 : Int) := of_decide_eq_true ad
    have q286 : x5_1 < (l0.length : Int) := of_decide_eq_true ad
    obtain ⟨ad286, e286, hx286_0⟩ := Kd.at_string HR0.out x5_1 p286 q286; have hw286_0 := hx286_0
    cases e286
    replace hx286_0 := kp HB.out hx286_0; replace p286 := eq_true p286; replace q286 := eq_true q286
    refine st (n := 7) (S := fun w' => w'.cell? (ad286.add (x5_1).toNat) = some (.string (rdOf ByteArray.empty l0 x5_1))) (ds := []) ((kp HB.out hw286_0)) (fun hHeld => ?_)
    generalize wr.drew = w9 at HB hx286_0 hHeld ⊢
    refine pk 0 12 ?_
    refine pk 1 13 ?_
    refine pk 2 14 ?_
    refine pk 4 16 ?_
    refine kk1 3 15 hHeld ?_
    refine ok1 5 17 (fun K hK => ?_)
    refine goes_ Try.func63 (by kernel_rfl) rfl #[.int .i64 x1_1] (by rfl) rfl rfl mq ?_
    with_reducible refine (laws_markText.calls k1 x1_1 t287 _ A5.out).mono ?_
    rintro e w10 ⟨rfl, hb⟩
    refine ⟨_, rfl, ?_⟩
    replace HB := am (below_step bel hb)
    (try clear hb)
    (try clear hb2)
    (try clear hk)
    (try clear hi)
    refine hK.out _ _ ((kp HB.out hw286_0)) (fun hHeld => ?_)
    clear hK K
    refine norm_ (a' := ?_) ?_ ?_
    rotate_left
    ·show Act.put _ (some 17) _ = _
     simp only [Act.put, List.setIfInBounds_toArray, List.set_cons_zero, List.set_cons_succ, i64_w, i32_w]
     rfl
    refine pk 6 18 ?_
    refine done_ (by kernel_rfl) ?_
    try go_wp2
    go_ret
    exact ⟨eq_, bel⟩
   rw [if_neg c3] at H; have c3b0 := decide_eq_false c3; clear c3; obtain rfl := Option.some.inj H; go_wp2; go_ret
   exact ⟨eq_, bel⟩

/-! ### laws_FnExactMachineGuesses: function 5 -/
def laws_FnExactMachineGuesses.j0 : Nat → List (S90) → ByteArray → List ByteArray → List ByteArray → Bool → Option (Bool)
 | 0, _, _, _, _, _ => none
 | k + 1, x0, x1, x6, x8, x49 => if x49 = true then (some false) else ((laws_markStringS.f k x8 1).bind fun bt308 => ((laws_heldStringS.f k bt308.2 1).bind fun t310 => (if t310 < 0 then (some false) else (if t310 = bt308.1 then ((laws_toStateS.f k x0).bind fun t311 => ((impl_MachineGuesses.f k t311 x1).bind fun t314 => ((laws_eqStringS.f k t314 x6).bind fun t317 => (if t317 = true then ((laws_heldStringS.f k bt308.2 1).bind fun t318 => (if t318 < 0 then (some false) else (if t318 = bt308.1 then (some true) else (some false)))) else (some false))))) else (some false)))))
def laws_FnExactMachineGuesses.f (k : Nat) (l0 : List (S90)) (a1 : ByteArray) : Option (Bool) := if (a1.size : Int) > 1048576 then (some true) else ((laws_szStateS.f k l0 1048576).bind fun t288 => (if t288 < 0 then (some true) else ((laws_toStateS.f k l0).bind fun t289 => ((spec_MachineGuesses.f k t289 a1).bind fun t292 => ((laws_toStateS.f k l0).bind fun t295 => ((impl_MachineGuesses.f k t295 a1).bind fun t298 => ((laws_eqStringS.f k t298 t292).bind fun t301 => (if t301 = true then ((laws_toStateS.f k l0).bind fun t302 => ((laws_eqStateS.f k t295 t302).bind fun t305 => (if t305 = true then ((laws_markStateS.f t295 1).bind fun t306 => (if t306 < 0 then (laws_FnExactMachineGuesses.j0 k l0 a1 t292 t298 true) else ((laws_eqStringS.f k t298 t292).bind fun t307 => (laws_FnExactMachineGuesses.j0 k l0 a1 t292 t298 (!t307))))) else (some false)))) else (some false)))))))))
theorem laws_FnExactMachineGuesses.calls (k : Nat) (A0 : Option Addr) (c0 : Nat) (l0 : List (S90)) (a1 : ByteArray) (r : Bool) (w : World) (hr0 : Kd.C k90 w A0 l0.length l0) (hc0 : l0.length ≤ c0) (h : laws_FnExactMachineGuesses.f k l0 a1 = some r) :
  Calls Try.prog 5 #[.slice A0 l0.length c0, .string a1] w fun e w' => e = .returned (.bool r) ∧ Below w.heap.size w w' := by
 have HR0 := am hr0; have HC0 := am hc0; clear hr0 hc0; have HB := am (Below.refl w.heap.size w)
 have H : (if (a1.size : Int) > 1048576 then (some true) else ((laws_szStateS.f k l0 1048576).bind fun t288 => (if t288 < 0 then (some true) else ((laws_toStateS.f k l0).bind fun t289 => ((spec_MachineGuesses.f k t289 a1).bind fun t292 => ((laws_toStateS.f k l0).bind fun t295 => ((impl_MachineGuesses.f k t295 a1).bind fun t298 => ((laws_eqStringS.f k t298 t292).bind fun t301 => (if t301 = true then ((laws_toStateS.f k l0).bind fun t302 => ((laws_eqStateS.f k t295 t302).bind fun t305 => (if t305 = true then ((laws_markStateS.f t295 1).bind fun t306 => (if t306 < 0 then (laws_FnExactMachineGuesses.j0 k l0 a1 t292 t298 true) else ((laws_eqStringS.f k t298 t292).bind fun t307 => (laws_FnExactMachineGuesses.j0 k l0 a1 t292 t298 (!t307))))) else (some false)))) else (some false)))))))))) = some r := h
 clear h
 by_cases c3 : (a1.size : Int) > 1048576
 ·rw [if_pos c3] at H; have c3b0 := decide_eq_true c3
  have c3b1 : decide (1048576 < a1.size) = true := decide_eq_true (by omega)
  clear c3; obtain rfl := Option.some.inj H; go_enter Try.func5, Try.ntmps5; go_wp2; go_ret
  exact ⟨eq_, bel⟩
 rw [if_neg c3] at H; have c3b0 := decide_eq_false c3
 have c3b1 : decide (1048576 < a1.size) = false := decide_eq_false (by omega)
 clear c3; replace H := bs H; obtain ⟨t288, A40, H⟩ := H; replace H : (if t288 < 0 then (some true) else ((laws_toStateS.f k l0).bind fun t289 => ((spec_MachineGuesses.f k t289 a1).bind fun t292 => ((laws_toStateS.f k l0).bind fun t295 => ((impl_MachineGuesses.f k t295 a1).bind fun t298 => ((laws_eqStringS.f k t298 t292).bind fun t301 => (if t301 = true then ((laws_toStateS.f k l0).bind fun t302 => ((laws_eqStateS.f k t295 t302).bind fun t305 => (if t305 = true then ((laws_markStateS.f t295 1).bind fun t306 => (if t306 < 0 then (laws_FnExactMachineGuesses.j0 k l0 a1 t292 t298 true) else ((laws_eqStringS.f k t298 t292).bind fun t307 => (laws_FnExactMachineGuesses.j0 k l0 a1 t292 t298 (!t307))))) else (some false)))) else (some false)))))))) = some r := H; have A4 := Aside0.mk A40; clear A40
 by_cases c5 : t288 < 0
 ·rw [if_pos c5] at H; have c5b0 := decide_eq_true c5; clear c5; obtain rfl := Option.some.inj H; go_enter Try.func5, Try.ntmps5
  go_wp2_with (first | ((with_reducible refine gate_callee (f := 25) rfl ?_); refine goesL_ (some 18) rfl rfl Try.func25 (by kernel_rfl) rfl #[.slice A0 l0.length c0, .int .i64 1048576] rfl mq ?_; (with_reducible refine (laws_szStateS.calls k _ _ l0 1048576 t288 _ ?side1 ?side2 A4.out).mono ?_); (case side1 => repeat (first | exact HR0.out | (with_reducible refine Kd.C_alloc ?_ _) | (with_reducible refine Kd.C_drewN ?_ _) | (with_reducible refine Kd.C_drew ?_))); (case side2 => exact HC0.out); rintro e w6 ⟨rfl, hb⟩; refine ⟨_, rfl, ?_⟩; replace HB := am (below_step bel hb); (try clear hb); (try clear hb2); (try clear hk); (try clear hi)))
  go_ret
  exact ⟨eq_, bel⟩
 rw [if_neg c5] at H; have c5b0 := decide_eq_false c5; clear c5; replace H := bs H; obtain ⟨t289, A70, H⟩ := H; replace H : ((spec_MachineGuesses.f k t289 a1).bind fun t292 => ((laws_toStateS.f k l0).bind fun t295 => ((impl_MachineGuesses.f k t295 a1).bind fun t298 => ((laws_eqStringS.f k t298 t292).bind fun t301 => (if t301 = true then ((laws_toStateS.f k l0).bind fun t302 => ((laws_eqStateS.f k t295 t302).bind fun t305 => (if t305 = true then ((laws_markStateS.f t295 1).bind fun t306 => (if t306 < 0 then (laws_FnExactMachineGuesses.j0 k l0 a1 t292 t298 true) else ((laws_eqStringS.f k t298 t292).bind fun t307 => (laws_FnExactMachineGuesses.j0 k l0 a1 t292 t298 (!t307))))) else (some false)))) else (some false)))))) = some r := H; have A7 := Aside0.mk A70; clear A70; replace H := bs H; obtain ⟨t292, A80, H⟩ := H; replace H : ((laws_toStateS.f k l0).bind fun t295 => ((impl_MachineGuesses.f k t295 a1).bind fun t298 => ((laws_eqStringS.f k t298 t292).bind fun t301 => (if t301 = true then ((laws_toStateS.f k l0).bind fun t302 => ((laws_eqStateS.f k t295 t302).bind fun t305 => (if t305 = true then ((laws_markStateS.f t295 1).bind fun t306 => (if t306 < 0 then (laws_FnExactMachineGuesses.j0 k l0 a1 t292 t298 true) else ((laws_eqStringS.f k t298 t292).bind fun t307 => (laws_FnExactMachineGuesses.j0 k l0 a1 t292 t298 (!t307))))) else (some false)))) else (some false))))) = some r := H; have A8 := Aside0.mk A80; clear A80; replace H := bs H; obtain ⟨t295, A90, H⟩ := H; replace H : ((impl_MachineGuesses.f k t295 a1).bind fun t298 => ((laws_eqStringS.f k t298 t292).bind fun t301 => (if t301 = true then ((laws_toStateS.f k l0).bind fun t302 => ((laws_eqStateS.f k t295 t302).bind fun t305 => (if t305 = true then ((laws_markStateS.f t295 1).bind fun t306 => (if t306 < 0 then (laws_FnExactMachineGuesses.j0 k l0 a1 t292 t298 true) else ((laws_eqStringS.f k t298 t292).bind fun t307 => (laws_FnExactMachineGuesses.j0 k l0 a1 t292 t298 (!t307))))) else (some false)))) else (some false)))) = some r := H; have A9 := Aside0.mk A90; clear A90; replace H := bs H; obtain ⟨t298, A100, H⟩ := H; replace H : ((laws_eqStringS.f k t298 t292).bind fun t301 => (if t301 = true then ((laws_toStateS.f k l0).bind fun t302 => ((laws_eqStateS.f k t295 t302).bind fun t305 => (if t305 = true then ((laws_markStateS.f t295 1).bind fun t306 => (if t306 < 0 then (laws_FnExactMachineGuesses.j0 k l0 a1 t292 t298 true) else ((laws_eqStringS.f k t298 t292).bind fun t307 => (laws_FnExactMachineGuesses.j0 k l0 a1 t292 t298 (!t307))))) else (some false)))) else (some false))) = some r := H; have A10 := Aside0.mk A100; clear A100; replace H := bs H; obtain ⟨t301, A110, H⟩ := H; replace H : (if t301 = true then ((laws_toStateS.f k l0).bind fun t302 => ((laws_eqStateS.f k t295 t302).bind fun t305 => (if t305 = true then ((laws_markStateS.f t295 1).bind fun t306 => (if t306 < 0 then (laws_FnExactMachineGuesses.j0 k l0 a1 t292 t298 true) else ((laws_eqStringS.f k t298 t292).bind fun t307 => (laws_FnExactMachineGuesses.j0 k l0 a1 t292 t298 (!t307))))) else (some false)))) else (some false)) = some r := H; have A11 := Aside0.mk A110; clear A110
 by_cases c12 : t301 = true
 ·subst c12
  have H1 : ((laws_toStateS.f k l0).bind fun t302 => ((laws_eqStateS.f k t295 t302).bind fun t305 => (if t305 = true then ((laws_markStateS.f t295 1).bind fun t306 => (if t306 < 0 then (laws_FnExactMachineGuesses.j0 k l0 a1 t292 t298 true) else ((laws_eqStringS.f k t298 t292).bind fun t307 => (laws_FnExactMachineGuesses.j0 k l0 a1 t292 t298 (!t307))))) else (some false)))) = some r := b11_
  replace H := H1; clear H1
  replace H := bs H; obtain ⟨t302, A130, H⟩ := H; replace H : ((laws_eqStateS.f k t295 t302).bind fun t305 => (if t305 = true then ((laws_markStateS.f t295 1).bind fun t306 => (if t306 < 0 then (laws_FnExactMachineGuesses.j0 k l0 a1 t292 t298 true) else ((laws_eqStringS.f k t298 t292).bind fun t307 => (laws_FnExactMachineGuesses.j0 k l0 a1 t292 t298 (!t307))))) else (some false))) = some r := H; have A13 := Aside0.mk A130; clear A130; replace H := bs H; obtain ⟨t305, A140, H⟩ := H; replace H : (if t305 = true then ((laws_markStateS.f t295 1).bind fun t306 => (if t306 < 0 then (laws_FnExactMachineGuesses.j0 k l0 a1 t292 t298 true) else ((laws_eqStringS.f k t298 t292).bind fun t307 => (laws_FnExactMachineGuesses.j0 k l0 a1 t292 t298 (!t307))))) else (some false)) = some r := H; have A14 := Aside0.mk A140; clear A140
  by_cases c15 : t305 = true
  ·subst c15
   have H1 : ((laws_markStateS.f t295 1).bind fun t306 => (if t306 < 0 then (laws_FnExactMachineGuesses.j0 k l0 a1 t292 t298 true) else ((laws_eqStringS.f k t298 t292).bind fun t307 => (laws_FnExactMachineGuesses.j0 k l0 a1 t292 t298 (!t307))))) = some r := b11_
   replace H := H1; clear H1
   replace H := bs H; obtain ⟨t306, A160, H⟩ := H; replace H : (if t306 < 0 then (laws_FnExactMachineGuesses.j0 k l0 a1 t292 t298 true) else ((laws_eqStringS.f k t298 t292).bind fun t307 => (laws_FnExactMachineGuesses.j0 k l0 a1 t292 t298 (!t307)))) = some r := H; have A16 := Aside0.mk A160; clear A160; have HC17 := am H; clear H; go_enter Try.func5, Try.ntmps5
   go_upto_region 16 with (first | ((with_reducible refine gate_callee (f := 25) rfl ?_); refine goesL_ (some 18) rfl rfl Try.func25 (by kernel_rfl) rfl #[.slice A0 l0.length c0, .int .i64 1048576] rfl mq ?_; (with_reducible refine (laws_szStateS.calls k _ _ l0 1048576 t288 _ ?side1 ?side2 A4.out).mono ?_); (case side1 => repeat (first | exact HR0.out | (with_reducible refine Kd.C_alloc ?_ _) | (with_reducible refine Kd.C_drewN ?_ _) | (with_reducible refine Kd.C_drew ?_))); (case side2 => exact HC0.out); rintro e w18 ⟨rfl, hb⟩; refine ⟨_, rfl, ?_⟩; replace HB := am (below_step bel hb); (try clear hb); (try clear hb2); (try clear hk); (try clear hi)) | ((with_reducible refine gate_callee (f := 27) rfl ?_); refine goesL_ (some 22) rfl rfl Try.func27 (by kernel_rfl) rfl #[.slice A0 l0.length c0] rfl mq ?_; (with_reducible refine (laws_toStateS.calls k _ _ l0 t289 _ ?side1 ?side2 A7.out).mono ?_); (case side1 => exact cq (Kd.C_below HR0.out HB.out)); (case side2 => exact HC0.out); rintro e w19 ⟨v290, rfl, ho0, hb⟩; refine ⟨_, rfl, ?_⟩; have HO291 := am (Kd.S_lower ho0 (below_size bel)); replace HB := am (below_step bel hb); (try clear hb); (try clear hb2); (try clear hk); (try clear hi); (try clear ho0); obtain ⟨Ao20, co20, eo20⟩ := Kd.S_slice HO291.out; subst eo20) | ((with_reducible refine gate_callee (f := 26) rfl ?_); refine goesL_ (some 24) rfl rfl Try.func26 (by kernel_rfl) rfl #[.slice Ao20 t289.length co20, .string a1] rfl mq ?_; (with_reducible refine (spec_MachineGuesses.calls k _ _ t289 a1 t292 _ ?side1 ?side2 A8.out).mono ?_); (case side1 => exact cq (Kd.S_reads' HO291.out).2.2); (case side2 => exact (Kd.S_reads' HO291.out).2.1); rintro e w21 ⟨v293, rfl, ho0, hb⟩; refine ⟨_, rfl, ?_⟩; replace HO291 := am (Kd.S_below b3_ hb); have HO294 := am (Kd.R_lower ho0 (below_size bel)); replace HB := am (below_step bel hb); (try clear hb); (try clear hb2); (try clear hk); (try clear hi); (try clear ho0)) | ((with_reducible refine gate_callee (f := 27) rfl ?_); refine goesL_ (some 26) rfl rfl Try.func27 (by kernel_rfl) rfl #[.slice A0 l0.length c0] rfl mq ?_; (with_reducible refine (laws_toStateS.calls k _ _ l0 t295 _ ?side1 ?side2 A9.out).mono ?_); (case side1 => exact cq (Kd.C_below HR0.out HB.out)); (case side2 => exact HC0.out); rintro e w22 ⟨v296, rfl, ho0, hb⟩; refine ⟨_, rfl, ?_⟩; replace HO294 := am (Kd.R_below (rq HO294.out) hb); have HO297 := am (Kd.S_lower (Kd.S_new' ho0 (Kd.S_lt b3_)) (below_size bel)); replace HO291 := am (Kd.S_elder' b3_ (Kd.S_base ho0) hb); replace HB := am (below_step bel hb); (try clear hb); (try clear hb2); (try clear hk); (try clear hi); (try clear ho0); obtain ⟨Ao23, co23, eo23⟩ := Kd.S_slice HO297.out; subst eo23) | ((with_reducible refine gate_callee (f := 28) rfl ?_); refine goesL_ (some 29) rfl rfl Try.func28 (by kernel_rfl) rfl #[.slice Ao23 t295.length co23, .string a1] rfl mq ?_; (with_reducible refine (impl_MachineGuesses.calls k _ _ t295 a1 t298 _ ?side1 ?side2 A10.out).mono ?_); (case side1 => exact cq (Kd.S_reads' HO297.out).2.2); (case side2 => exact (Kd.S_reads' HO297.out).2.1); rintro e w24 ⟨v299, rfl, ho0, hb⟩; refine ⟨_, rfl, ?_⟩; replace HO291 := am (Kd.S_below b3_ hb); replace HO297 := am (Kd.S_below b8_ hb); have HO300 := am (Kd.R_lower (Kd.R_new' ho0 (Kd.R_lt (rq HO294.out))) (below_size bel)); replace HO294 := am (Kd.R_elder' (rq HO294.out) (Kd.R_base ho0) hb); replace HB := am (below_step bel hb); (try clear hb); (try clear hb2); (try clear hk); (try clear hi); (try clear ho0); obtain ⟨Ao25, co25, eo25⟩ := Kd.R_slice HO300.out; subst eo25; obtain ⟨Ao26, co26, eo26⟩ := Kd.R_slice HO294.out; subst eo26) | ((with_reducible refine gate_callee (f := 16) rfl ?_); refine goesL_ (some 32) rfl rfl Try.func16 (by kernel_rfl) rfl #[.slice Ao25 t298.length co25, .slice Ao26 t292.length co26] rfl mq ?_; (with_reducible refine (laws_eqStringS.calls k _ _ t298 _ _ t292 true _ ?side1 ?side2 ?side3 ?side4 A11.out).mono ?_); (case side1 => exact cq (Kd.R_reads' HO300.out).2.2); (case side2 => exact (Kd.R_reads' HO300.out).2.1); (case side3 => exact cq (Kd.R_reads' HO294.out).2.2); (case side4 => exact (Kd.R_reads' HO294.out).2.1); rintro e w' ⟨rfl, ⟨nd, rfl⟩⟩; refine ⟨_, rfl, ?_⟩) | ((with_reducible refine gate_callee (f := 27) rfl ?_); refine goesL_ (some 36) rfl rfl Try.func27 (by kernel_rfl) rfl #[.slice A0 l0.length c0] rfl mq ?_; (with_reducible refine (laws_toStateS.calls k _ _ l0 t302 _ ?side1 ?side2 A13.out).mono ?_); (case side1 => exact cq (Kd.C_below HR0.out bel)); (case side2 => exact HC0.out); rintro e w27 ⟨v303, rfl, ho0, hb⟩; refine ⟨_, rfl, ?_⟩; replace HO294 := am (Kd.R_below (rq HO294.out) hb); replace HO300 := am (Kd.R_below (rq HO300.out) hb); have HO304 := am (Kd.S_lower (Kd.S_new' (Kd.S_new' ho0 (Kd.S_lt b3_)) (Kd.S_lt b8_)) (below_size bel)); replace HO291 := am (Kd.S_elder' b3_ (Kd.S_base ho0) hb); replace HO297 := am (Kd.S_elder' b8_ (Kd.S_base ho0) hb); replace HB := am (below_step bel hb); (try clear hb); (try clear hb2); (try clear hk); (try clear hi); (try clear ho0); obtain ⟨Ao28, co28, eo28⟩ := Kd.S_slice HO304.out; subst eo28) | ((with_reducible refine gate_callee (f := 29) rfl ?_); refine goesL_ (some 37) rfl rfl Try.func29 (by kernel_rfl) rfl #[.slice Ao23 t295.length co23, .slice Ao28 t302.length co28] rfl mq ?_; (with_reducible refine (laws_eqStateS.calls k _ _ t295 _ _ t302 true _ ?side1 ?side2 ?side3 ?side4 A14.out).mono ?_); (case side1 => exact cq (Kd.S_reads' HO297.out).2.2); (case side2 => exact (Kd.S_reads' HO297.out).2.1); (case side3 => exact cq (Kd.S_reads' HO304.out).2.2); (case side4 => exact (Kd.S_reads' HO304.out).2.1); rintro e w29 ⟨rfl, hb⟩; refine ⟨_, rfl, ?_⟩; replace HO291 := am (Kd.S_below b3_ hb); replace HO294 := am (Kd.R_below (rq HO294.out) hb); replace HO297 := am (Kd.S_below b8_ hb); replace HO300 := am (Kd.R_below (rq HO300.out) hb); replace HO304 := am (Kd.S_below (by (with_reducible repeat (first | apply Kd.S_alloc | apply Kd.S_drewN | apply Kd.S_drew)); exact HO304.out) hb); replace HB := am (below_step bel hb); (try clear hb); (try clear hb2); (try clear hk); (try clear hi)) | ((with_reducible refine gate_callee (f := 30) rfl ?_); refine goesL_ (some 41) rfl rfl Try.func30 (by kernel_rfl) rfl #[.slice Ao23 t295.length co23, .int .i64 1] rfl mq ?_; (with_reducible refine (laws_markStateS.calls (fun k_ => some k_ = (.slice Ao23 t295.length co23 : Value).ownBlock) (.slice Ao23 t295.length co23) t295 1 t306 w _ ?side1 ?side2 A16.out).mono ?_); (case side1 => repeat (first | (with_reducible first | exact HB.out | apply below_alloc | apply pw_below_drewN | apply below_drew1) | exact HB.out)); (case side2 => exact ⟨_, HO297.out⟩); rintro e w30 ⟨rfl, hb, hkp⟩; refine ⟨_, rfl, ?_⟩; have n1_ := am (Kd.R_mono (ok' := fun k_ => some k_ ≠ (.slice Ao25 t298.length co25 : Value).ownBlock) (laws_markStateS.keep HO294.out hkp (by decide)) (fun k_ hk_ => by first | exact hk_ | exact hk_.2 | exact hk_.1 | grind)); have n2_ := am (Kd.R_mono (ok' := fun k_ => some k_ ≠ (.slice Ao26 t292.length co26 : Value).ownBlock) (laws_markStateS.keep HO300.out hkp (by decide)) (fun k_ hk_ => by first | exact hk_ | exact hk_.2 | exact hk_.1 | grind)); have n4_ := am (hb); clear HO291; clear HO294; clear HO300; clear HO304; clear HB; clear HO297; have HO294 := n1_; have HO300 := n2_; have HB := n4_; clear n1_ n2_ n4_; (try clear hb); (try clear hkp)))
   (try simp only [Act.put, List.setIfInBounds_toArray, List.set_cons_zero, List.set_cons_succ])
   go_cut [49] (fun v49 wc => ∃ (kq : Nat) (x49_16 : Bool), v49 = .bool x49_16 ∧ Aside0 (laws_FnExactMachineGuesses.j0 kq l0 a1 t292 t298 x49_16 = some r) ∧ Aside0 (kq ≤ k) ∧ Aside0 (Kd.R Kd.string 9 wc w.heap.size (fun k_ => some k_ ≠ ((.slice Ao25 t298.length co25) : Value).ownBlock) (.slice Ao26 t292.length co26) t292) ∧ Aside0 (Kd.R Kd.string 9 wc w.heap.size (fun k_ => some k_ ≠ ((.slice Ao26 t292.length co26) : Value).ownBlock) (.slice Ao25 t298.length co25) t298) ∧ Aside0 (Below w.heap.size w wc))
   case first =>
    have H := HC17.out; clear HC17
    by_cases c31 : t306 < 0
    ·rw [if_pos c31] at H; have c31b0 := decide_eq_true c31; clear c31
     (first | rw [c31b0] | (simp only [i64_w, i32_w]; rw [c31b0]) | skip)
     have H' := am H
     clear H; go_wp2
     go_meet
     case rel => exact ⟨_, (true), sq, H', ⟨b36_⟩, ⟨rq HO294.out⟩, ⟨rq HO300.out⟩, ⟨bel⟩⟩
    rw [if_neg c31] at H; have c31b0 := decide_eq_false c31; clear c31
    (first | rw [c31b0] | (simp only [i64_w, i32_w]; rw [c31b0]) | skip)
    replace H := bs H; obtain ⟨t307, A320, H⟩ := H; replace H : (laws_FnExactMachineGuesses.j0 k l0 a1 t292 t298 (!t307)) = some r := H; have A32 := Aside0.mk A320; clear A320
    have H' := am H
    clear H
    go_wp2_with (first | (go_at_call 16; (with_reducible refine (laws_eqStringS.calls k _ _ t298 _ _ t292 t307 _ ?side1 ?side2 ?side3 ?side4 A32.out).mono ?_); (case side1 => exact cq (Kd.R_reads' HO300.out).2.2); (case side2 => exact (Kd.R_reads' HO300.out).2.1); (case side3 => exact cq (Kd.R_reads' HO294.out).2.2); (case side4 => exact (Kd.R_reads' HO294.out).2.1); rintro e w' ⟨rfl, ⟨nd, rfl⟩⟩))
    go_meet
    case rel => exact ⟨_, (!t307), sq, H', ⟨b36_⟩, ⟨rq HO294.out⟩, ⟨rq HO300.out⟩, ⟨bel⟩⟩
   case rest =>
    clear HC17; (try clear c1); (try clear c2); (try clear p2); (try clear c3); (try clear c3b0); (try clear c3b1); (try clear c5); (try clear c5b0); (try clear c12); (try clear c15); (try clear c16); (try clear c25); (try clear c26); (try clear c27); (try clear c28); (try clear c29); (try clear c30); (try clear c31); (try clear c31b0); obtain ⟨kq, x49_16, rfl, HA, HJ16, HO_6, HO_8, HB⟩ := hcut
    cases kq with
    | zero => exact absurd HA.out (by simp [laws_FnExactMachineGuesses.j0])
    | succ kj16 =>
     have H := HA.out; clear HA
     simp only [laws_FnExactMachineGuesses.j0] at H
     by_cases c33 : x49_16 = true
     ·subst c33
      have H1 : (some false) = some r := b11_
      replace H := H1; clear H1
      obtain rfl := Option.some.inj H; go_wp2; go_ret
      exact ⟨eq_, bel⟩
     replace c33 := Bool.eq_false_iff.mpr c33; subst c33
     have H1 : ((laws_markStringS.f kj16 t298 1).bind fun bt308 => ((laws_heldStringS.f kj16 bt308.2 1).bind fun t310 => (if t310 < 0 then (some false) else (if t310 = bt308.1 then ((laws_toStateS.f kj16 l0).bind fun t311 => ((impl_MachineGuesses.f kj16 t311 a1).bind fun t314 => ((laws_eqStringS.f kj16 t314 t292).bind fun t317 => (if t317 = true then ((laws_heldStringS.f kj16 bt308.2 1).bind fun t318 => (if t318 < 0 then (some false) else (if t318 = bt308.1 then (some true) else (some false)))) else (some false))))) else (some false))))) = some r := b5_
     replace H := H1; clear H1
     replace H := bs H; obtain ⟨⟨t308, t309⟩, A340, H⟩ := H; replace H : ((laws_heldStringS.f kj16 t309 1).bind fun t310 => (if t310 < 0 then (some false) else (if t310 = t308 then ((laws_toStateS.f kj16 l0).bind fun t311 => ((impl_MachineGuesses.f kj16 t311 a1).bind fun t314 => ((laws_eqStringS.f kj16 t314 t292).bind fun t317 => (if t317 = true then ((laws_heldStringS.f kj16 t309 1).bind fun t318 => (if t318 < 0 then (some false) else (if t318 = t308 then (some true) else (some false)))) else (some false))))) else (some false)))) = some r := H; have A34 := Aside0.mk A340; clear A340; replace H := bs H; obtain ⟨t310, A350, H⟩ := H; replace H : (if t310 < 0 then (some false) else (if t310 = t308 then ((laws_toStateS.f kj16 l0).bind fun t311 => ((impl_MachineGuesses.f kj16 t311 a1).bind fun t314 => ((laws_eqStringS.f kj16 t314 t292).bind fun t317 => (if t317 = true then ((laws_heldStringS.f kj16 t309 1).bind fun t318 => (if t318 < 0 then (some false) else (if t318 = t308 then (some true) else (some false)))) else (some false))))) else (some false))) = some r := H; have A35 := Aside0.mk A350; clear A350
     by_cases c36 : t310 < 0
     ·rw [if_pos c36] at H; have c36b0 := decide_eq_true c36; clear c36; obtain rfl := Option.some.inj H
      go_wp2_with (first | ((with_reducible refine gate_callee (f := 17) rfl ?_); refine goesL_ (some 52) rfl rfl Try.func17 (by kernel_rfl) rfl #[.slice Ao25 t298.length co25, .int .i64 1] rfl mq ?_; (with_reducible refine (laws_markStringS.calls kj16 (fun k_ => some k_ = (.slice Ao25 t298.length co25 : Value).ownBlock) (.slice Ao25 t298.length co25) t298 1 t308 t309 w _ ?side1 ?side2 A34.out).mono ?_); (case side1 => repeat (first | (with_reducible first | exact HB.out | apply below_alloc | apply pw_below_drewN | apply below_drew1) | exact HB.out)); (case side2 => exact Kd.R_tight rfl HO_8.out); rintro e w37 ⟨rfl, hy0, hb, hkp⟩; refine ⟨_, rfl, ?_⟩; replace HO_6 := am (Kd.R_mono (ok' := fun k_ => some k_ ≠ (.slice Ao25 t298.length co25 : Value).ownBlock) (Kd.R_keptB (HO_6.out) hkp (fun k_ hk_ hs_ => (hk_) hs_)) (fun k_ hk_ => by first | exact hk_.1 | grind)); replace HO_8 := am (Kd.R_reok rfl hy0 (fun k_ e_ => HO_8.out.1 k_ e_)); replace HB := am (hb); (try clear hb); (try clear hkp); (try clear hy0)) | ((with_reducible refine gate_callee (f := 31) rfl ?_); refine goesL_ (some 55) rfl rfl Try.func31 (by kernel_rfl) rfl #[.slice Ao25 t309.length co25, .int .i64 1] rfl b1_ ?_; (with_reducible refine (laws_heldStringS.calls kj16 _ _ t309 1 t310 _ ?side1 ?side2 A35.out).mono ?_); (case side1 => exact cq (Kd.R_reads' HO_8.out).2.2); (case side2 => rw [show t309.length = t298.length from (Kd.R_reads' HO_8.out).1.symm]; exact (Kd.R_reads' HO_8.out).2.1); rintro e w38 ⟨rfl, hb⟩; refine ⟨_, rfl, ?_⟩; replace HO_6 := am (Kd.R_below (rq HO_6.out) hb); replace HO_8 := am (Kd.R_below (rq HO_8.out) hb); replace HB := am (below_step bel hb); (try clear hb); (try clear hb2); (try clear hk); (try clear hi)))
      go_ret
      exact ⟨eq_, bel⟩
     rw [if_neg c36] at H; have c36b0 := decide_eq_false c36; clear c36
     by_cases c39 : t310 = t308
     ·rw [if_pos c39] at H
      have c39b0 : (t310 == t308) = true := beq_iff_eq.mpr c39
      have c39b1 : (t310 != t308) = false := bne_eq_false_iff_eq.mpr c39
      clear c39; replace H := bs H; obtain ⟨t311, A400, H⟩ := H; replace H : ((impl_MachineGuesses.f kj16 t311 a1).bind fun t314 => ((laws_eqStringS.f kj16 t314 t292).bind fun t317 => (if t317 = true then ((laws_heldStringS.f kj16 t309 1).bind fun t318 => (if t318 < 0 then (some false) else (if t318 = t308 then (some true) else (some false)))) else (some false)))) = some r := H; have A40 := Aside0.mk A400; clear A400; replace H := bs H; obtain ⟨t314, A410, H⟩ := H; replace H : ((laws_eqStringS.f kj16 t314 t292).bind fun t317 => (if t317 = true then ((laws_heldStringS.f kj16 t309 1).bind fun t318 => (if t318 < 0 then (some false) else (if t318 = t308 then (some true) else (some false)))) else (some false))) = some r := H; have A41 := Aside0.mk A410; clear A410; replace H := bs H; obtain ⟨t317, A420, H⟩ := H; replace H : (if t317 = true then ((laws_heldStringS.f kj16 t309 1).bind fun t318 => (if t318 < 0 then (some false) else (if t318 = t308 then (some true) else (some false)))) else (some false)) = some r := H; have A42 := Aside0.mk A420; clear A420
      by_cases c43 : t317 = true
      ·subst c43
       have H1 : ((laws_heldStringS.f kj16 t309 1).bind fun t318 => (if t318 < 0 then (some false) else (if t318 = t308 then (some true) else (some false)))) = some r := b11_
       replace H := H1; clear H1
       replace H := bs H; obtain ⟨t318, A440, H⟩ := H; replace H : (if t318 < 0 then (some false) else (if t318 = t308 then (some true) else (some false))) = some r := H; have A44 := Aside0.mk A440; clear A440
       by_cases c45 : t318 < 0
       ·rw [if_pos c45] at H; have c45b0 := decide_eq_true c45; clear c45; obtain rfl := Option.some.inj H
        go_wp2_with (first | ((with_reducible refine gate_callee (f := 17) rfl ?_); refine goesL_ (some 52) rfl rfl Try.func17 (by kernel_rfl) rfl #[.slice Ao25 t298.length co25, .int .i64 1] rfl mq ?_; (with_reducible refine (laws_markStringS.calls kj16 (fun k_ => some k_ = (.slice Ao25 t298.length co25 : Value).ownBlock) (.slice Ao25 t298.length co25) t298 1 t308 t309 w _ ?side1 ?side2 A34.out).mono ?_); (case side1 => repeat (first | (with_reducible first | exact HB.out | apply below_alloc | apply pw_below_drewN | apply below_drew1) | exact HB.out)); (case side2 => exact Kd.R_tight rfl HO_8.out); rintro e w46 ⟨rfl, hy0, hb, hkp⟩; refine ⟨_, rfl, ?_⟩; replace HO_6 := am (Kd.R_mono (ok' := fun k_ => some k_ ≠ (.slice Ao25 t298.length co25 : Value).ownBlock) (Kd.R_keptB (HO_6.out) hkp (fun k_ hk_ hs_ => (hk_) hs_)) (fun k_ hk_ => by first | exact hk_.1 | grind)); replace HO_8 := am (Kd.R_reok rfl hy0 (fun k_ e_ => HO_8.out.1 k_ e_)); replace HB := am (hb); (try clear hb); (try clear hkp); (try clear hy0)) | ((with_reducible refine gate_callee (f := 31) rfl ?_); refine goesL_ (some 55) rfl rfl Try.func31 (by kernel_rfl) rfl #[.slice Ao25 t309.length co25, .int .i64 1] rfl b1_ ?_; (with_reducible refine (laws_heldStringS.calls kj16 _ _ t309 1 t310 _ ?side1 ?side2 A35.out).mono ?_); (case side1 => exact cq (Kd.R_reads' HO_8.out).2.2); (case side2 => rw [show t309.length = t298.length from (Kd.R_reads' HO_8.out).1.symm]; exact (Kd.R_reads' HO_8.out).2.1); rintro e w47 ⟨rfl, hb⟩; refine ⟨_, rfl, ?_⟩; replace HO_6 := am (Kd.R_below (rq HO_6.out) hb); replace HO_8 := am (Kd.R_below (rq HO_8.out) hb); replace HB := am (below_step bel hb); (try clear hb); (try clear hb2); (try clear hk); (try clear hi)) | ((with_reducible refine gate_callee (f := 27) rfl ?_); refine goesL_ (some 62) rfl rfl Try.func27 (by kernel_rfl) rfl #[.slice A0 l0.length c0] rfl mq ?_; (with_reducible refine (laws_toStateS.calls kj16 _ _ l0 t311 _ ?side1 ?side2 A40.out).mono ?_); (case side1 => exact cq (Kd.C_below HR0.out HB.out)); (case side2 => exact HC0.out); rintro e w48 ⟨v312, rfl, ho0, hb⟩; refine ⟨_, rfl, ?_⟩; replace HO_6 := am (Kd.R_below (rq HO_6.out) hb); replace HO_8 := am (Kd.R_below (rq HO_8.out) hb); have HO313 := am (Kd.S_lower ho0 (below_size bel)); replace HB := am (below_step bel hb); (try clear hb); (try clear hb2); (try clear hk); (try clear hi); (try clear ho0); obtain ⟨Ao49, co49, eo49⟩ := Kd.S_slice HO313.out; subst eo49) | ((with_reducible refine gate_callee (f := 28) rfl ?_); refine goesL_ (some 64) rfl rfl Try.func28 (by kernel_rfl) rfl #[.slice Ao49 t311.length co49, .string a1] rfl mq ?_; (with_reducible refine (impl_MachineGuesses.calls kj16 _ _ t311 a1 t314 _ ?side1 ?side2 A41.out).mono ?_); (case side1 => exact cq (Kd.S_reads' HO313.out).2.2); (case side2 => exact (Kd.S_reads' HO313.out).2.1); rintro e w50 ⟨v315, rfl, ho0, hb⟩; refine ⟨_, rfl, ?_⟩; replace HO313 := am (Kd.S_below b12_ hb); have HO316 := am (Kd.R_lower (Kd.R_new' (Kd.R_new' ho0 (Kd.R_lt (rq HO_6.out))) (Kd.R_lt (rq HO_8.out))) (below_size bel)); replace HO_6 := am (Kd.R_elder' (rq HO_6.out) (Kd.R_base ho0) hb); replace HO_8 := am (Kd.R_elder' (rq HO_8.out) (Kd.R_base ho0) hb); replace HB := am (below_step bel hb); (try clear hb); (try clear hb2); (try clear hk); (try clear hi); (try clear ho0); obtain ⟨Ao51, co51, eo51⟩ := Kd.R_slice HO316.out; subst eo51) | ((with_reducible refine gate_callee (f := 16) rfl ?_); refine goesL_ (some 67) rfl rfl Try.func16 (by kernel_rfl) rfl #[.slice Ao51 t314.length co51, .slice Ao26 t292.length co26] rfl mq ?_; (with_reducible refine (laws_eqStringS.calls kj16 _ _ t314 _ _ t292 true _ ?side1 ?side2 ?side3 ?side4 A42.out).mono ?_); (case side1 => exact cq (Kd.R_reads' HO316.out).2.2); (case side2 => exact (Kd.R_reads' HO316.out).2.1); (case side3 => exact cq (Kd.R_reads' HO_6.out).2.2); (case side4 => exact (Kd.R_reads' HO_6.out).2.1); rintro e w' ⟨rfl, ⟨nd, rfl⟩⟩; refine ⟨_, rfl, ?_⟩) | ((with_reducible refine gate_callee (f := 31) rfl ?_); refine goesL_ (some 71) rfl rfl Try.func31 (by kernel_rfl) rfl #[.slice Ao25 t309.length co25, .int .i64 1] rfl b1_ ?_; (with_reducible refine (laws_heldStringS.calls kj16 _ _ t309 1 t318 _ ?side1 ?side2 A44.out).mono ?_); (case side1 => exact cq (Kd.R_reads' HO_8.out).2.2); (case side2 => rw [show t309.length = t298.length from (Kd.R_reads' HO_8.out).1.symm]; exact (Kd.R_reads' HO_8.out).2.1); rintro e w52 ⟨rfl, hb⟩; refine ⟨_, rfl, ?_⟩; replace HO_6 := am (Kd.R_below (rq HO_6.out) hb); replace HO_8 := am (Kd.R_below (rq HO_8.out) hb); replace HO313 := am (Kd.S_below b12_ hb); replace HO316 := am (Kd.R_below (rq HO316.out) hb); replace HB := am (below_step bel hb); (try clear hb); (try clear hb2); (try clear hk); (try clear hi)))
        go_ret
        exact ⟨eq_, bel⟩
       rw [if_neg c45] at H; have c45b0 := decide_eq_false c45; clear c45
       by_cases c53 : t318 = t308
       ·rw [if_pos c53] at H
        have c53b0 : (t318 == t308) = true := beq_iff_eq.mpr c53
        have c53b1 : (t318 != t308) = false := bne_eq_false_iff_eq.mpr c53
        clear c53; obtain rfl := Option.some.inj H
        go_wp2_with (first | ((with_reducible refine gate_callee (f := 17) rfl ?_); refine goesL_ (some 52) rfl rfl Try.func17 (by kernel_rfl) rfl #[.slice Ao25 t298.length co25, .int .i64 1] rfl mq ?_; (with_reducible refine (laws_markStringS.calls kj16 (fun k_ => some k_ = (.slice Ao25 t298.length co25 : Value).ownBlock) (.slice Ao25 t298.length co25) t298 1 t308 t309 w _ ?side1 ?side2 A34.out).mono ?_); (case side1 => repeat (first | (with_reducible first | exact HB.out | apply below_alloc | apply pw_below_drewN | apply below_drew1) | exact HB.out)); (case side2 => exact Kd.R_tight rfl HO_8.out); rintro e w54 ⟨rfl, hy0, hb, hkp⟩; refine ⟨_, rfl, ?_⟩; replace HO_6 := am (Kd.R_mono (ok' := fun k_ => some k_ ≠ (.slice Ao25 t298.length co25 : Value).ownBlock) (Kd.R_keptB (HO_6.out) hkp (fun k_ hk_ hs_ => (hk_) hs_)) (fun k_ hk_ => by first | exact hk_.1 | grind)); replace HO_8 := am (Kd.R_reok rfl hy0 (fun k_ e_ => HO_8.out.1 k_ e_)); replace HB := am (hb); (try clear hb); (try clear hkp); (try clear hy0)) | ((with_reducible refine gate_callee (f := 31) rfl ?_); refine goesL_ (some 55) rfl rfl Try.func31 (by kernel_rfl) rfl #[.slice Ao25 t309.length co25, .int .i64 1] rfl b1_ ?_; (with_reducible refine (laws_heldStringS.calls kj16 _ _ t309 1 t310 _ ?side1 ?side2 A35.out).mono ?_); (case side1 => exact cq (Kd.R_reads' HO_8.out).2.2); (case side2 => rw [show t309.length = t298.length from (Kd.R_reads' HO_8.out).1.symm]; exact (Kd.R_reads' HO_8.out).2.1); rintro e w55 ⟨rfl, hb⟩; refine ⟨_, rfl, ?_⟩; replace HO_6 := am (Kd.R_below (rq HO_6.out) hb); replace HO_8 := am (Kd.R_below (rq HO_8.out) hb); replace HB := am (below_step bel hb); (try clear hb); (try clear hb2); (try clear hk); (try clear hi)) | ((with_reducible refine gate_callee (f := 27) rfl ?_); refine goesL_ (some 62) rfl rfl Try.func27 (by kernel_rfl) rfl #[.slice A0 l0.length c0] rfl mq ?_; (with_reducible refine (laws_toStateS.calls kj16 _ _ l0 t311 _ ?side1 ?side2 A40.out).mono ?_); (case side1 => exact cq (Kd.C_below HR0.out HB.out)); (case side2 => exact HC0.out); rintro e w56 ⟨v312, rfl, ho0, hb⟩; refine ⟨_, rfl, ?_⟩; replace HO_6 := am (Kd.R_below (rq HO_6.out) hb); replace HO_8 := am (Kd.R_below (rq HO_8.out) hb); have HO313 := am (Kd.S_lower ho0 (below_size bel)); replace HB := am (below_step bel hb); (try clear hb); (try clear hb2); (try clear hk); (try clear hi); (try clear ho0); obtain ⟨Ao57, co57, eo57⟩ := Kd.S_slice HO313.out; subst eo57) | ((with_reducible refine gate_callee (f := 28) rfl ?_); refine goesL_ (some 64) rfl rfl Try.func28 (by kernel_rfl) rfl #[.slice Ao57 t311.length co57, .string a1] rfl mq ?_; (with_reducible refine (impl_MachineGuesses.calls kj16 _ _ t311 a1 t314 _ ?side1 ?side2 A41.out).mono ?_); (case side1 => exact cq (Kd.S_reads' HO313.out).2.2); (case side2 => exact (Kd.S_reads' HO313.out).2.1); rintro e w58 ⟨v315, rfl, ho0, hb⟩; refine ⟨_, rfl, ?_⟩; replace HO313 := am (Kd.S_below b12_ hb); have HO316 := am (Kd.R_lower (Kd.R_new' (Kd.R_new' ho0 (Kd.R_lt (rq HO_6.out))) (Kd.R_lt (rq HO_8.out))) (below_size bel)); replace HO_6 := am (Kd.R_elder' (rq HO_6.out) (Kd.R_base ho0) hb); replace HO_8 := am (Kd.R_elder' (rq HO_8.out) (Kd.R_base ho0) hb); replace HB := am (below_step bel hb); (try clear hb); (try clear hb2); (try clear hk); (try clear hi); (try clear ho0); obtain ⟨Ao59, co59, eo59⟩ := Kd.R_slice HO316.out; subst eo59) | ((with_reducible refine gate_callee (f := 16) rfl ?_); refine goesL_ (some 67) rfl rfl Try.func16 (by kernel_rfl) rfl #[.slice Ao59 t314.length co59, .slice Ao26 t292.length co26] rfl mq ?_; (with_reducible refine (laws_eqStringS.calls kj16 _ _ t314 _ _ t292 true _ ?side1 ?side2 ?side3 ?side4 A42.out).mono ?_); (case side1 => exact cq (Kd.R_reads' HO316.out).2.2); (case side2 => exact (Kd.R_reads' HO316.out).2.1); (case side3 => exact cq (Kd.R_reads' HO_6.out).2.2); (case side4 => exact (Kd.R_reads' HO_6.out).2.1); rintro e w' ⟨rfl, ⟨nd, rfl⟩⟩; refine ⟨_, rfl, ?_⟩) | ((with_reducible refine gate_callee (f := 31) rfl ?_); refine goesL_ (some 71) rfl rfl Try.func31 (by kernel_rfl) rfl #[.slice Ao25 t309.length co25, .int .i64 1] rfl b1_ ?_; (with_reducible refine (laws_heldStringS.calls kj16 _ _ t309 1 t318 _ ?side1 ?side2 A44.out).mono ?_); (case side1 => exact cq (Kd.R_reads' HO_8.out).2.2); (case side2 => rw [show t309.length = t298.length from (Kd.R_reads' HO_8.out).1.symm]; exact (Kd.R_reads' HO_8.out).2.1); rintro e w60 ⟨rfl, hb⟩; refine ⟨_, rfl, ?_⟩; replace HO_6 := am (Kd.R_below (rq HO_6.out) hb); replace HO_8 := am (Kd.R_below (rq HO_8.out) hb); replace HO313 := am (Kd.S_below b12_ hb); replace HO316 := am (Kd.R_below (rq HO316.out) hb); replace HB := am (below_step bel hb); (try clear hb); (try clear hb2); (try clear hk); (try clear hi)))
        go_ret
        exact ⟨eq_, bel⟩
       rw [if_neg c53] at H
       have c53b0 : (t318 == t308) = false := beq_eq_false_iff_ne.mpr c53
       have c53b1 : (t318 != t308) = true := bne_iff_ne.mpr c53
       obtain rfl := Option.some.inj H
       go_wp2_with (first | ((with_reducible refine gate_callee (f := 17) rfl ?_); refine goesL_ (some 52) rfl rfl Try.func17 (by kernel_rfl) rfl #[.slice Ao25 t298.length co25, .int .i64 1] rfl mq ?_; (with_reducible refine (laws_markStringS.calls kj16 (fun k_ => some k_ = (.slice Ao25 t298.length co25 : Value).ownBlock) (.slice Ao25 t298.length co25) t298 1 t308 t309 w _ ?side1 ?side2 A34.out).mono ?_); (case side1 => repeat (first | (with_reducible first | exact HB.out | apply below_alloc | apply pw_below_drewN | apply below_drew1) | exact HB.out)); (case side2 => exact Kd.R_tight rfl HO_8.out); rintro e w61 ⟨rfl, hy0, hb, hkp⟩; refine ⟨_, rfl, ?_⟩; replace HO_6 := am (Kd.R_mono (ok' := fun k_ => some k_ ≠ (.slice Ao25 t298.length co25 : Value).ownBlock) (Kd.R_keptB (HO_6.out) hkp (fun k_ hk_ hs_ => (hk_) hs_)) (fun k_ hk_ => by first | exact hk_.1 | grind)); replace HO_8 := am (Kd.R_reok rfl hy0 (fun k_ e_ => HO_8.out.1 k_ e_)); replace HB := am (hb); (try clear hb); (try clear hkp); (try clear hy0)) | ((with_reducible refine gate_callee (f := 31) rfl ?_); refine goesL_ (some 55) rfl rfl Try.func31 (by kernel_rfl) rfl #[.slice Ao25 t309.length co25, .int .i64 1] rfl b1_ ?_; (with_reducible refine (laws_heldStringS.calls kj16 _ _ t309 1 t310 _ ?side1 ?side2 A35.out).mono ?_); (case side1 => exact cq (Kd.R_reads' HO_8.out).2.2); (case side2 => rw [show t309.length = t298.length from (Kd.R_reads' HO_8.out).1.symm]; exact (Kd.R_reads' HO_8.out).2.1); rintro e w62 ⟨rfl, hb⟩; refine ⟨_, rfl, ?_⟩; replace HO_6 := am (Kd.R_below (rq HO_6.out) hb); replace HO_8 := am (Kd.R_below (rq HO_8.out) hb); replace HB := am (below_step bel hb); (try clear hb); (try clear hb2); (try clear hk); (try clear hi)) | ((with_reducible refine gate_callee (f := 27) rfl ?_); refine goesL_ (some 62) rfl rfl Try.func27 (by kernel_rfl) rfl #[.slice A0 l0.length c0] rfl mq ?_; (with_reducible refine (laws_toStateS.calls kj16 _ _ l0 t311 _ ?side1 ?side2 A40.out).mono ?_); (case side1 => exact cq (Kd.C_below HR0.out HB.out)); (case side2 => exact HC0.out); rintro e w63 ⟨v312, rfl, ho0, hb⟩; refine ⟨_, rfl, ?_⟩; replace HO_6 := am (Kd.R_below (rq HO_6.out) hb); replace HO_8 := am (Kd.R_below (rq HO_8.out) hb); have HO313 := am (Kd.S_lower ho0 (below_size bel)); replace HB := am (below_step bel hb); (try clear hb); (try clear hb2); (try clear hk); (try clear hi); (try clear ho0); obtain ⟨Ao64, co64, eo64⟩ := Kd.S_slice HO313.out; subst eo64) | ((with_reducible refine gate_callee (f := 28) rfl ?_); refine goesL_ (some 64) rfl rfl Try.func28 (by kernel_rfl) rfl #[.slice Ao64 t311.length co64, .string a1] rfl mq ?_; (with_reducible refine (impl_MachineGuesses.calls kj16 _ _ t311 a1 t314 _ ?side1 ?side2 A41.out).mono ?_); (case side1 => exact cq (Kd.S_reads' HO313.out).2.2); (case side2 => exact (Kd.S_reads' HO313.out).2.1); rintro e w65 ⟨v315, rfl, ho0, hb⟩; refine ⟨_, rfl, ?_⟩; replace HO313 := am (Kd.S_below b12_ hb); have HO316 := am (Kd.R_lower (Kd.R_new' (Kd.R_new' ho0 (Kd.R_lt (rq HO_6.out))) (Kd.R_lt (rq HO_8.out))) (below_size bel)); replace HO_6 := am (Kd.R_elder' (rq HO_6.out) (Kd.R_base ho0) hb); replace HO_8 := am (Kd.R_elder' (rq HO_8.out) (Kd.R_base ho0) hb); replace HB := am (below_step bel hb); (try clear hb); (try clear hb2); (try clear hk); (try clear hi); (try clear ho0); obtain ⟨Ao66, co66, eo66⟩ := Kd.R_slice HO316.out; subst eo66) | ((with_reducible refine gate_callee (f := 16) rfl ?_); refine goesL_ (some 67) rfl rfl Try.func16 (by kernel_rfl) rfl #[.slice Ao66 t314.length co66, .slice Ao26 t292.length co26] rfl mq ?_; (with_reducible refine (laws_eqStringS.calls kj16 _ _ t314 _ _ t292 true _ ?side1 ?side2 ?side3 ?side4 A42.out).mono ?_); (case side1 => exact cq (Kd.R_reads' HO316.out).2.2); (case side2 => exact (Kd.R_reads' HO316.out).2.1); (case side3 => exact cq (Kd.R_reads' HO_6.out).2.2); (case side4 => exact (Kd.R_reads' HO_6.out).2.1); rintro e w' ⟨rfl, ⟨nd, rfl⟩⟩; refine ⟨_, rfl, ?_⟩) | ((with_reducible refine gate_callee (f := 31) rfl ?_); refine goesL_ (some 71) rfl rfl Try.func31 (by kernel_rfl) rfl #[.slice Ao25 t309.length co25, .int .i64 1] rfl b1_ ?_; (with_reducible refine (laws_heldStringS.calls kj16 _ _ t309 1 t318 _ ?side1 ?side2 A44.out).mono ?_); (case side1 => exact cq (Kd.R_reads' HO_8.out).2.2); (case side2 => rw [show t309.length = t298.length from (Kd.R_reads' HO_8.out).1.symm]; exact (Kd.R_reads' HO_8.out).2.1); rintro e w67 ⟨rfl, hb⟩; refine ⟨_, rfl, ?_⟩; replace HO_6 := am (Kd.R_below (rq HO_6.out) hb); replace HO_8 := am (Kd.R_below (rq HO_8.out) hb); replace HO313 := am (Kd.S_below b12_ hb); replace HO316 := am (Kd.R_below (rq HO316.out) hb); replace HB := am (below_step bel hb); (try clear hb); (try clear hb2); (try clear hk); (try clear hi)))
       go_ret
       exact ⟨eq_, bel⟩
      replace c43 := Bool.eq_false_iff.mpr c43; subst c43
      have H1 : (some false) = some r := b5_
      replace H := H1; clear H1
      obtain rfl := Option.some.inj H
      go_wp2_with (first | ((with_reducible refine gate_callee (f := 17) rfl ?_); refine goesL_ (some 52) rfl rfl Try.func17 (by kernel_rfl) rfl #[.slice Ao25 t298.length co25, .int .i64 1] rfl mq ?_; (with_reducible refine (laws_markStringS.calls kj16 (fun k_ => some k_ = (.slice Ao25 t298.length co25 : Value).ownBlock) (.slice Ao25 t298.length co25) t298 1 t308 t309 w _ ?side1 ?side2 A34.out).mono ?_); (case side1 => repeat (first | (with_reducible first | exact HB.out | apply below_alloc | apply pw_below_drewN | apply below_drew1) | exact HB.out)); (case side2 => exact Kd.R_tight rfl HO_8.out); rintro e w68 ⟨rfl, hy0, hb, hkp⟩; refine ⟨_, rfl, ?_⟩; replace HO_6 := am (Kd.R_mono (ok' := fun k_ => some k_ ≠ (.slice Ao25 t298.length co25 : Value).ownBlock) (Kd.R_keptB (HO_6.out) hkp (fun k_ hk_ hs_ => (hk_) hs_)) (fun k_ hk_ => by first | exact hk_.1 | grind)); replace HO_8 := am (Kd.R_reok rfl hy0 (fun k_ e_ => HO_8.out.1 k_ e_)); replace HB := am (hb); (try clear hb); (try clear hkp); (try clear hy0)) | ((with_reducible refine gate_callee (f := 31) rfl ?_); refine goesL_ (some 55) rfl rfl Try.func31 (by kernel_rfl) rfl #[.slice Ao25 t309.length co25, .int .i64 1] rfl b1_ ?_; (with_reducible refine (laws_heldStringS.calls kj16 _ _ t309 1 t310 _ ?side1 ?side2 A35.out).mono ?_); (case side1 => exact cq (Kd.R_reads' HO_8.out).2.2); (case side2 => rw [show t309.length = t298.length from (Kd.R_reads' HO_8.out).1.symm]; exact (Kd.R_reads' HO_8.out).2.1); rintro e w69 ⟨rfl, hb⟩; refine ⟨_, rfl, ?_⟩; replace HO_6 := am (Kd.R_below (rq HO_6.out) hb); replace HO_8 := am (Kd.R_below (rq HO_8.out) hb); replace HB := am (below_step bel hb); (try clear hb); (try clear hb2); (try clear hk); (try clear hi)) | ((with_reducible refine gate_callee (f := 27) rfl ?_); refine goesL_ (some 62) rfl rfl Try.func27 (by kernel_rfl) rfl #[.slice A0 l0.length c0] rfl mq ?_; (with_reducible refine (laws_toStateS.calls kj16 _ _ l0 t311 _ ?side1 ?side2 A40.out).mono ?_); (case side1 => exact cq (Kd.C_below HR0.out HB.out)); (case side2 => exact HC0.out); rintro e w70 ⟨v312, rfl, ho0, hb⟩; refine ⟨_, rfl, ?_⟩; replace HO_6 := am (Kd.R_below (rq HO_6.out) hb); replace HO_8 := am (Kd.R_below (rq HO_8.out) hb); have HO313 := am (Kd.S_lower ho0 (below_size bel)); replace HB := am (below_step bel hb); (try clear hb); (try clear hb2); (try clear hk); (try clear hi); (try clear ho0); obtain ⟨Ao71, co71, eo71⟩ := Kd.S_slice HO313.out; subst eo71) | ((with_reducible refine gate_callee (f := 28) rfl ?_); refine goesL_ (some 64) rfl rfl Try.func28 (by kernel_rfl) rfl #[.slice Ao71 t311.length co71, .string a1] rfl mq ?_; (with_reducible refine (impl_MachineGuesses.calls kj16 _ _ t311 a1 t314 _ ?side1 ?side2 A41.out).mono ?_); (case side1 => exact cq (Kd.S_reads' HO313.out).2.2); (case side2 => exact (Kd.S_reads' HO313.out).2.1); rintro e w72 ⟨v315, rfl, ho0, hb⟩; refine ⟨_, rfl, ?_⟩; replace HO313 := am (Kd.S_below b12_ hb); have HO316 := am (Kd.R_lower (Kd.R_new' (Kd.R_new' ho0 (Kd.R_lt (rq HO_6.out))) (Kd.R_lt (rq HO_8.out))) (below_size bel)); replace HO_6 := am (Kd.R_elder' (rq HO_6.out) (Kd.R_base ho0) hb); replace HO_8 := am (Kd.R_elder' (rq HO_8.out) (Kd.R_base ho0) hb); replace HB := am (below_step bel hb); (try clear hb); (try clear hb2); (try clear hk); (try clear hi); (try clear ho0); obtain ⟨Ao73, co73, eo73⟩ := Kd.R_slice HO316.out; subst eo73) | ((with_reducible refine gate_callee (f := 16) rfl ?_); refine goesL_ (some 67) rfl rfl Try.func16 (by kernel_rfl) rfl #[.slice Ao73 t314.length co73, .slice Ao26 t292.length co26] rfl mq ?_; (with_reducible refine (laws_eqStringS.calls kj16 _ _ t314 _ _ t292 false _ ?side1 ?side2 ?side3 ?side4 A42.out).mono ?_); (case side1 => exact cq (Kd.R_reads' HO316.out).2.2); (case side2 => exact (Kd.R_reads' HO316.out).2.1); (case side3 => exact cq (Kd.R_reads' HO_6.out).2.2); (case side4 => exact (Kd.R_reads' HO_6.out).2.1); rintro e w' ⟨rfl, ⟨nd, rfl⟩⟩; refine ⟨_, rfl, ?_⟩))
      go_ret
      exact ⟨eq_, bel⟩
     rw [if_neg c39] at H
     have c39b0 : (t310 == t308) = false := beq_eq_false_iff_ne.mpr c39
     have c39b1 : (t310 != t308) = true := bne_iff_ne.mpr c39
     obtain rfl := Option.some.inj H
     go_wp2_with (first | ((with_reducible refine gate_callee (f := 17) rfl ?_); refine goesL_ (some 52) rfl rfl Try.func17 (by kernel_rfl) rfl #[.slice Ao25 t298.length co25, .int .i64 1] rfl mq ?_; (with_reducible refine (laws_markStringS.calls kj16 (fun k_ => some k_ = (.slice Ao25 t298.length co25 : Value).ownBlock) (.slice Ao25 t298.length co25) t298 1 t308 t309 w _ ?side1 ?side2 A34.out).mono ?_); (case side1 => repeat (first | (with_reducible first | exact HB.out | apply below_alloc | apply pw_below_drewN | apply below_drew1) | exact HB.out)); (case side2 => exact Kd.R_tight rfl HO_8.out); rintro e w74 ⟨rfl, hy0, hb, hkp⟩; refine ⟨_, rfl, ?_⟩; replace HO_6 := am (Kd.R_mono (ok' := fun k_ => some k_ ≠ (.slice Ao25 t298.length co25 : Value).ownBlock) (Kd.R_keptB (HO_6.out) hkp (fun k_ hk_ hs_ => (hk_) hs_)) (fun k_ hk_ => by first | exact hk_.1 | grind)); replace HO_8 := am (Kd.R_reok rfl hy0 (fun k_ e_ => HO_8.out.1 k_ e_)); replace HB := am (hb); (try clear hb); (try clear hkp); (try clear hy0)) | ((with_reducible refine gate_callee (f := 31) rfl ?_); refine goesL_ (some 55) rfl rfl Try.func31 (by kernel_rfl) rfl #[.slice Ao25 t309.length co25, .int .i64 1] rfl b1_ ?_; (with_reducible refine (laws_heldStringS.calls kj16 _ _ t309 1 t310 _ ?side1 ?side2 A35.out).mono ?_); (case side1 => exact cq (Kd.R_reads' HO_8.out).2.2); (case side2 => rw [show t309.length = t298.length from (Kd.R_reads' HO_8.out).1.symm]; exact (Kd.R_reads' HO_8.out).2.1); rintro e w75 ⟨rfl, hb⟩; refine ⟨_, rfl, ?_⟩; replace HO_6 := am (Kd.R_below (rq HO_6.out) hb); replace HO_8 := am (Kd.R_below (rq HO_8.out) hb); replace HB := am (below_step bel hb); (try clear hb); (try clear hb2); (try clear hk); (try clear hi)))
     go_ret
     exact ⟨eq_, bel⟩
  replace c15 := Bool.eq_false_iff.mpr c15; subst c15
  have H1 : (some false) = some r := b5_
  replace H := H1; clear H1
  obtain rfl := Option.some.inj H; go_enter Try.func5, Try.ntmps5
  go_wp2_with (first | ((with_reducible refine gate_callee (f := 25) rfl ?_); refine goesL_ (some 18) rfl rfl Try.func25 (by kernel_rfl) rfl #[.slice A0 l0.length c0, .int .i64 1048576] rfl mq ?_; (with_reducible refine (laws_szStateS.calls k _ _ l0 1048576 t288 _ ?side1 ?side2 A4.out).mono ?_); (case side1 => repeat (first | exact HR0.out | (with_reducible refine Kd.C_alloc ?_ _) | (with_reducible refine Kd.C_drewN ?_ _) | (with_reducible refine Kd.C_drew ?_))); (case side2 => exact HC0.out); rintro e w76 ⟨rfl, hb⟩; refine ⟨_, rfl, ?_⟩; replace HB := am (below_step bel hb); (try clear hb); (try clear hb2); (try clear hk); (try clear hi)) | ((with_reducible refine gate_callee (f := 27) rfl ?_); refine goesL_ (some 22) rfl rfl Try.func27 (by kernel_rfl) rfl #[.slice A0 l0.length c0] rfl mq ?_; (with_reducible refine (laws_toStateS.calls k _ _ l0 t289 _ ?side1 ?side2 A7.out).mono ?_); (case side1 => exact cq (Kd.C_below HR0.out HB.out)); (case side2 => exact HC0.out); rintro e w77 ⟨v290, rfl, ho0, hb⟩; refine ⟨_, rfl, ?_⟩; have HO291 := am (Kd.S_lower ho0 (below_size bel)); replace HB := am (below_step bel hb); (try clear hb); (try clear hb2); (try clear hk); (try clear hi); (try clear ho0); obtain ⟨Ao78, co78, eo78⟩ := Kd.S_slice HO291.out; subst eo78) | ((with_reducible refine gate_callee (f := 26) rfl ?_); refine goesL_ (some 24) rfl rfl Try.func26 (by kernel_rfl) rfl #[.slice Ao78 t289.length co78, .string a1] rfl mq ?_; (with_reducible refine (spec_MachineGuesses.calls k _ _ t289 a1 t292 _ ?side1 ?side2 A8.out).mono ?_); (case side1 => exact cq (Kd.S_reads' HO291.out).2.2); (case side2 => exact (Kd.S_reads' HO291.out).2.1); rintro e w79 ⟨v293, rfl, ho0, hb⟩; refine ⟨_, rfl, ?_⟩; replace HO291 := am (Kd.S_below b3_ hb); have HO294 := am (Kd.R_lower ho0 (below_size bel)); replace HB := am (below_step bel hb); (try clear hb); (try clear hb2); (try clear hk); (try clear hi); (try clear ho0)) | ((with_reducible refine gate_callee (f := 27) rfl ?_); refine goesL_ (some 26) rfl rfl Try.func27 (by kernel_rfl) rfl #[.slice A0 l0.length c0] rfl mq ?_; (with_reducible refine (laws_toStateS.calls k _ _ l0 t295 _ ?side1 ?side2 A9.out).mono ?_); (case side1 => exact cq (Kd.C_below HR0.out HB.out)); (case side2 => exact HC0.out); rintro e w80 ⟨v296, rfl, ho0, hb⟩; refine ⟨_, rfl, ?_⟩; replace HO294 := am (Kd.R_below (rq HO294.out) hb); have HO297 := am (Kd.S_lower (Kd.S_new' ho0 (Kd.S_lt b3_)) (below_size bel)); replace HO291 := am (Kd.S_elder' b3_ (Kd.S_base ho0) hb); replace HB := am (below_step bel hb); (try clear hb); (try clear hb2); (try clear hk); (try clear hi); (try clear ho0); obtain ⟨Ao81, co81, eo81⟩ := Kd.S_slice HO297.out; subst eo81) | ((with_reducible refine gate_callee (f := 28) rfl ?_); refine goesL_ (some 29) rfl rfl Try.func28 (by kernel_rfl) rfl #[.slice Ao81 t295.length co81, .string a1] rfl mq ?_; (with_reducible refine (impl_MachineGuesses.calls k _ _ t295 a1 t298 _ ?side1 ?side2 A10.out).mono ?_); (case side1 => exact cq (Kd.S_reads' HO297.out).2.2); (case side2 => exact (Kd.S_reads' HO297.out).2.1); rintro e w82 ⟨v299, rfl, ho0, hb⟩; refine ⟨_, rfl, ?_⟩; replace HO291 := am (Kd.S_below b3_ hb); replace HO297 := am (Kd.S_below b8_ hb); have HO300 := am (Kd.R_lower (Kd.R_new' ho0 (Kd.R_lt (rq HO294.out))) (below_size bel)); replace HO294 := am (Kd.R_elder' (rq HO294.out) (Kd.R_base ho0) hb); replace HB := am (below_step bel hb); (try clear hb); (try clear hb2); (try clear hk); (try clear hi); (try clear ho0); obtain ⟨Ao83, co83, eo83⟩ := Kd.R_slice HO300.out; subst eo83; obtain ⟨Ao84, co84, eo84⟩ := Kd.R_slice HO294.out; subst eo84) | ((with_reducible refine gate_callee (f := 16) rfl ?_); refine goesL_ (some 32) rfl rfl Try.func16 (by kernel_rfl) rfl #[.slice Ao83 t298.length co83, .slice Ao84 t292.length co84] rfl mq ?_; (with_reducible refine (laws_eqStringS.calls k _ _ t298 _ _ t292 true _ ?side1 ?side2 ?side3 ?side4 A11.out).mono ?_); (case side1 => exact cq (Kd.R_reads' HO300.out).2.2); (case side2 => exact (Kd.R_reads' HO300.out).2.1); (case side3 => exact cq (Kd.R_reads' HO294.out).2.2); (case side4 => exact (Kd.R_reads' HO294.out).2.1); rintro e w' ⟨rfl, ⟨nd, rfl⟩⟩; refine ⟨_, rfl, ?_⟩) | ((with_reducible refine gate_callee (f := 27) rfl ?_); refine goesL_ (some 36) rfl rfl Try.func27 (by kernel_rfl) rfl #[.slice A0 l0.length c0] rfl mq ?_; (with_reducible refine (laws_toStateS.calls k _ _ l0 t302 _ ?side1 ?side2 A13.out).mono ?_); (case side1 => exact cq (Kd.C_below HR0.out bel)); (case side2 => exact HC0.out); rintro e w85 ⟨v303, rfl, ho0, hb⟩; refine ⟨_, rfl, ?_⟩; replace HO294 := am (Kd.R_below (rq HO294.out) hb); replace HO300 := am (Kd.R_below (rq HO300.out) hb); have HO304 := am (Kd.S_lower (Kd.S_new' (Kd.S_new' ho0 (Kd.S_lt b3_)) (Kd.S_lt b8_)) (below_size bel)); replace HO291 := am (Kd.S_elder' b3_ (Kd.S_base ho0) hb); replace HO297 := am (Kd.S_elder' b8_ (Kd.S_base ho0) hb); replace HB := am (below_step bel hb); (try clear hb); (try clear hb2); (try clear hk); (try clear hi); (try clear ho0); obtain ⟨Ao86, co86, eo86⟩ := Kd.S_slice HO304.out; subst eo86) | ((with_reducible refine gate_callee (f := 29) rfl ?_); refine goesL_ (some 37) rfl rfl Try.func29 (by kernel_rfl) rfl #[.slice Ao81 t295.length co81, .slice Ao86 t302.length co86] rfl mq ?_; (with_reducible refine (laws_eqStateS.calls k _ _ t295 _ _ t302 false _ ?side1 ?side2 ?side3 ?side4 A14.out).mono ?_); (case side1 => exact cq (Kd.S_reads' HO297.out).2.2); (case side2 => exact (Kd.S_reads' HO297.out).2.1); (case side3 => exact cq (Kd.S_reads' HO304.out).2.2); (case side4 => exact (Kd.S_reads' HO304.out).2.1); rintro e w87 ⟨rfl, hb⟩; refine ⟨_, rfl, ?_⟩; replace HO291 := am (Kd.S_below b3_ hb); replace HO294 := am (Kd.R_below (rq HO294.out) hb); replace HO297 := am (Kd.S_below b8_ hb); replace HO300 := am (Kd.R_below (rq HO300.out) hb); replace HO304 := am (Kd.S_below (by (with_reducible repeat (first | apply Kd.S_alloc | apply Kd.S_drewN | apply Kd.S_drew)); exact HO304.out) hb); replace HB := am (below_step bel hb); (try clear hb); (try clear hb2); (try clear hk); (try clear hi)))
  go_ret
  exact ⟨eq_, bel⟩
 replace c12 := Bool.eq_false_iff.mpr c12; subst c12
 have H1 : (some false) = some r := b5_
 replace H := H1; clear H1
 obtain rfl := Option.some.inj H; go_enter Try.func5, Try.ntmps5
 go_wp2_with (first | ((with_reducible refine gate_callee (f := 25) rfl ?_); refine goesL_ (some 18) rfl rfl Try.func25 (by kernel_rfl) rfl #[.slice A0 l0.length c0, .int .i64 1048576] rfl mq ?_; (with_reducible refine (laws_szStateS.calls k _ _ l0 1048576 t288 _ ?side1 ?side2 A4.out).mono ?_); (case side1 => repeat (first | exact HR0.out | (with_reducible refine Kd.C_alloc ?_ _) | (with_reducible refine Kd.C_drewN ?_ _) | (with_reducible refine Kd.C_drew ?_))); (case side2 => exact HC0.out); rintro e w88 ⟨rfl, hb⟩; refine ⟨_, rfl, ?_⟩; replace HB := am (below_step bel hb); (try clear hb); (try clear hb2); (try clear hk); (try clear hi)) | ((with_reducible refine gate_callee (f := 27) rfl ?_); refine goesL_ (some 22) rfl rfl Try.func27 (by kernel_rfl) rfl #[.slice A0 l0.length c0] rfl mq ?_; (with_reducible refine (laws_toStateS.calls k _ _ l0 t289 _ ?side1 ?side2 A7.out).mono ?_); (case side1 => exact cq (Kd.C_below HR0.out HB.out)); (case side2 => exact HC0.out); rintro e w89 ⟨v290, rfl, ho0, hb⟩; refine ⟨_, rfl, ?_⟩; have HO291 := am (Kd.S_lower ho0 (below_size bel)); replace HB := am (below_step bel hb); (try clear hb); (try clear hb2); (try clear hk); (try clear hi); (try clear ho0); obtain ⟨Ao90, co90, eo90⟩ := Kd.S_slice HO291.out; subst eo90) | ((with_reducible refine gate_callee (f := 26) rfl ?_); refine goesL_ (some 24) rfl rfl Try.func26 (by kernel_rfl) rfl #[.slice Ao90 t289.length co90, .string a1] rfl mq ?_; (with_reducible refine (spec_MachineGuesses.calls k _ _ t289 a1 t292 _ ?side1 ?side2 A8.out).mono ?_); (case side1 => exact cq (Kd.S_reads' HO291.out).2.2); (case side2 => exact (Kd.S_reads' HO291.out).2.1); rintro e w91 ⟨v293, rfl, ho0, hb⟩; refine ⟨_, rfl, ?_⟩; replace HO291 := am (Kd.S_below b3_ hb); have HO294 := am (Kd.R_lower ho0 (below_size bel)); replace HB := am (below_step bel hb); (try clear hb); (try clear hb2); (try clear hk); (try clear hi); (try clear ho0)) | ((with_reducible refine gate_callee (f := 27) rfl ?_); refine goesL_ (some 26) rfl rfl Try.func27 (by kernel_rfl) rfl #[.slice A0 l0.length c0] rfl mq ?_; (with_reducible refine (laws_toStateS.calls k _ _ l0 t295 _ ?side1 ?side2 A9.out).mono ?_); (case side1 => exact cq (Kd.C_below HR0.out HB.out)); (case side2 => exact HC0.out); rintro e w92 ⟨v296, rfl, ho0, hb⟩; refine ⟨_, rfl, ?_⟩; replace HO294 := am (Kd.R_below (rq HO294.out) hb); have HO297 := am (Kd.S_lower (Kd.S_new' ho0 (Kd.S_lt b3_)) (below_size bel)); replace HO291 := am (Kd.S_elder' b3_ (Kd.S_base ho0) hb); replace HB := am (below_step bel hb); (try clear hb); (try clear hb2); (try clear hk); (try clear hi); (try clear ho0); obtain ⟨Ao93, co93, eo93⟩ := Kd.S_slice HO297.out; subst eo93) | ((with_reducible refine gate_callee (f := 28) rfl ?_); refine goesL_ (some 29) rfl rfl Try.func28 (by kernel_rfl) rfl #[.slice Ao93 t295.length co93, .string a1] rfl mq ?_; (with_reducible refine (impl_MachineGuesses.calls k _ _ t295 a1 t298 _ ?side1 ?side2 A10.out).mono ?_); (case side1 => exact cq (Kd.S_reads' HO297.out).2.2); (case side2 => exact (Kd.S_reads' HO297.out).2.1); rintro e w94 ⟨v299, rfl, ho0, hb⟩; refine ⟨_, rfl, ?_⟩; replace HO291 := am (Kd.S_below b3_ hb); replace HO297 := am (Kd.S_below b8_ hb); have HO300 := am (Kd.R_lower (Kd.R_new' ho0 (Kd.R_lt (rq HO294.out))) (below_size bel)); replace HO294 := am (Kd.R_elder' (rq HO294.out) (Kd.R_base ho0) hb); replace HB := am (below_step bel hb); (try clear hb); (try clear hb2); (try clear hk); (try clear hi); (try clear ho0); obtain ⟨Ao95, co95, eo95⟩ := Kd.R_slice HO300.out; subst eo95; obtain ⟨Ao96, co96, eo96⟩ := Kd.R_slice HO294.out; subst eo96) | ((with_reducible refine gate_callee (f := 16) rfl ?_); refine goesL_ (some 32) rfl rfl Try.func16 (by kernel_rfl) rfl #[.slice Ao95 t298.length co95, .slice Ao96 t292.length co96] rfl mq ?_; (with_reducible refine (laws_eqStringS.calls k _ _ t298 _ _ t292 false _ ?side1 ?side2 ?side3 ?side4 A11.out).mono ?_); (case side1 => exact cq (Kd.R_reads' HO300.out).2.2); (case side2 => exact (Kd.R_reads' HO300.out).2.1); (case side3 => exact cq (Kd.R_reads' HO294.out).2.2); (case side4 => exact (Kd.R_reads' HO294.out).2.1); rintro e w' ⟨rfl, ⟨nd, rfl⟩⟩; refine ⟨_, rfl, ?_⟩))
 go_ret
 exact ⟨eq_, bel⟩
end Go.Proofs.Ytfpmfaelodfecaa.QFnExactMachineGuesses

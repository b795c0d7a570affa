import Derived.Test.YtfpmfaelodfecaaQFnGuessesx0
import Derived.Test.YtfpmfaelodfecaaVMSh2
namespace Go.Proofs.Ytfpmfaelodfecaa.QFnGuesses
open Go.RowKit Go.Proofs.YtfpmfaelodfecaaW.PrintWords Go.Proofs.YtfpmfaelodfecaaW.PrintLast Go.Proofs.YtfpmfaelodfecaaW.PrintMore Go.Proofs.Ytfpmfaelodfecaa.Sh
attribute [local go_sem] max2_int min2_int max_two min_two max_three min_three max_four min_four
set_option linter.unusedVariables false
set_option linter.unusedSimpArgs false
set_option maxHeartbeats 8000000
set_option maxRecDepth 100000
-- shrunk

/-! ### spec_l4Guesses: function 58 -/
def spec_l4Guesses.l0 : Nat → List ByteArray → ByteArray → Int → List (S36) → Int → Option ((List (S36)))
 | 0, _, _, _, _, _ => none
 | k + 1, x0, x1, x2, x7, x8 => if x8 < (x0.length : Int) then (if 0 ≤ x8 then ((spec_l1Far.f k (rdOf ByteArray.empty x0 x8) x1).bind fun t173 => (if t173 ≤ x2 then ((spec_l4Put.f k x7 (rdOf ByteArray.empty x0 x8) t173).bind fun t175 => (spec_l4Guesses.l0 k x0 x1 x2 t175 (wrap64 (x8 + 1)))) else (spec_l4Guesses.l0 k x0 x1 x2 x7 (wrap64 (x8 + 1))))) else (none)) else (if (x7.length : Int) > 10 then (if 10 ≤ (x7.length : Int) then (some (x7.take (10 : Int).toNat)) else (none)) else (some x7))
def spec_l4Guesses.f (k : Nat) (l0 : List ByteArray) (a1 : ByteArray) (a2 : Int) : Option ((List (S36))) := spec_l4Guesses.l0 k l0 a1 a2 (([] : List (S36))) 0
theorem spec_l4Guesses.calls (k : Nat) (A0 : Option Addr) (c0 : Nat) (l0 : List ByteArray) (a1 : ByteArray) (a2 : Int) (r : List (S36)) (w : World) (hr0 : Kd.C Kd.string w A0 l0.length l0) (hc0 : l0.length ≤ c0) (h : spec_l4Guesses.f k l0 a1 a2 = some r) :
  Calls Try.prog 58 #[.slice A0 l0.length c0, .string a1, .int .i64 a2] w fun e w' => ∃ v0_ : Value, e = .returned (v0_) ∧ Kd.R k36 36 w' w.heap.size (fun _ => True) v0_ r ∧ Below w.heap.size w w' := by
 have hu36 := Try.underlying36; have HR0 := am hr0; have HC0 := am hc0; clear hr0 hc0; have HB := am (Below.refl w.heap.size w)
 have H : (spec_l4Guesses.l0 k l0 a1 a2 (([] : List (S36))) 0) = some r := h
 clear h; obtain ⟨y166, hy166⟩ : ∃ y_ : List (S36), y_ = (([] : List (S36))) := ⟨_, rfl⟩
 replace H : (spec_l4Guesses.l0 k l0 a1 a2 y166 0) = some r := by first | (rw [hy166]; with_reducible exact H) | (have H2_ := bm H; rw [hy166]; with_reducible exact H2_) | (with_reducible exact bm H) | with_reducible exact H | (rw [hy166]; exact H) | exact H
 have Ny166 := am hy166; clear hy166
 have H' := am H
 clear H; go_enter Try.func58, Try.ntmps58
 go_wp2_with (first | ((with_reducible refine gate_dst (N := 10) rfl ?_); refine Kd.R_lit k36 _ 36 ?hg (N := 10) ?hd (xs := ([] : List (S36))) (inner := []) (ok := fun _ => True) (okp := fun _ => True) ?hr ?hp (fun _ hk => hk) trivial (Below.refl _ _) (Nat.le_refl _) (by simp) ?_; (case hd => rfl); (case hg => rfl); (case hr => first | (go_simp; done) | (go_simp; rfl)); (case hp => exact (Reps.none _ _)); intro v167 w4 ho5 hb hg_ hnew_; clear hg_ hnew_; (first | rw [← Ny166.out] at ho5 | (simp only [Int.reduceToNat] at ho5; rw [← Ny166.out] at ho5) | (simp only [Int.toNat_natCast] at ho5; rw [← Ny166.out] at ho5)); have HO168 := am (Kd.R_lower ho5 (below_size bel)); replace HB := am (below_step bel hb); clear hb ho5))
 go_loopg [7, 8] k (fun kq v7 v8 w' => ∃ (x7_1 : List (S36)) (x8_1 : Int), v8 = .int .i64 x8_1 ∧ Aside0 (spec_l4Guesses.l0 kq l0 a1 a2 x7_1 x8_1 = some r) ∧ Aside0 (kq ≤ k) ∧ Aside0 (Kd.R k36 36 w' w.heap.size (fun _ => True) v7 x7_1) ∧ Aside0 (Below w.heap.size w w'))
 case atStart => exact ⟨(y166), (0), sq, H', ⟨Nat.le_refl _⟩, ⟨rq HO168.out⟩, ⟨bel⟩⟩
 case round =>
  clear H'; (try clear p2); (try clear c5); obtain ⟨x7_1, x8_1, rfl, HA, HK1, HO_7, HB⟩ := hrel
  cases gk with
  | zero => exact absurd HA.out (by simp [spec_l4Guesses.l0])
  | succ k1 =>
   have H := HA.out; clear HA
   simp only [spec_l4Guesses.l0] at H
   by_cases c6 : x8_1 < (l0.length : Int)
   ·rw [if_pos c6] at H; have c6b0 := decide_eq_true c6; clear c6
    replace H := it H; obtain ⟨c7b0, H⟩ := H; replace H := bs H; obtain ⟨t173, A80, H⟩ := H; replace H : (if t173 ≤ a2 then ((spec_l4Put.f k1 x7_1 (rdOf ByteArray.empty l0 x8_1) t173).bind fun t175 => (spec_l4Guesses.l0 k1 l0 a1 a2 t175 (wrap64 (x8_1 + 1)))) else (spec_l4Guesses.l0 k1 l0 a1 a2 x7_1 (wrap64 (x8_1 + 1)))) = some r := H; have A8 := Aside0.mk A80; clear A80
    by_cases c9 : t173 ≤ a2
    ·rw [if_pos c9] at H; have c9b0 := decide_eq_true c9; clear c9; replace H := bs H; obtain ⟨t175, A100, H⟩ := H; replace H : (spec_l4Guesses.l0 k1 l0 a1 a2 t175 (wrap64 (x8_1 + 1))) = some r := H; have A10 := Aside0.mk A100; clear A100
     have H' := am H
     clear H
     have p172 : 0 ≤ (x8_1 : Int) := of_decide_eq_true ad
     have q172 : x8_1 < (l0.length : Int) := of_decide_eq_true ad
     obtain ⟨ad172, e172, hx172_0⟩ := Kd.at_string HR0.out x8_1 p172 q172
     cases e172
     replace hx172_0 := kp HB.out hx172_0; replace p172 := eq_true p172; replace q172 := eq_true q172
     go_wp2_with (first | ((with_reducible refine gate_callee (f := 103) rfl ?_); refine goesL_ (some 22) rfl rfl Try.func103 (by kernel_rfl) rfl #[.string (rdOf ByteArray.empty l0 x8_1), .string a1] rfl mq ?_; (with_reducible refine (spec_l1Far.calls k1 (rdOf ByteArray.empty l0 x8_1) a1 t173 _ A8.out).mono ?_); rintro e w11 ⟨rfl, hb⟩; refine ⟨_, rfl, ?_⟩; replace HO_7 := am (Kd.R_below (rq HO_7.out) hb); replace HB := am (below_step bel hb); (try clear hb); (try clear hb2); (try clear hk); (try clear hi); have p174 : 0 ≤ (x8_1 : Int) := of_decide_eq_true ad; have q174 : x8_1 < (l0.length : Int) := of_decide_eq_true ad; obtain ⟨ad174, e174, hx174_0⟩ := Kd.at_string HR0.out x8_1 p174 q174; obtain rfl : ad172 = ad174 := (by injection e174); replace hx174_0 := kp HB.out hx174_0; replace p174 := eq_true p174; replace q174 := eq_true q174; obtain ⟨Ao12, co12, eo12⟩ := Kd.R_slice HO_7.out; subst eo12) | ((with_reducible refine gate_callee (f := 104) rfl ?_); refine goesL_ (some 33) rfl rfl Try.func104 (by kernel_rfl) rfl #[.slice Ao12 x7_1.length co12, .agg #[.string (rdOf ByteArray.empty l0 x8_1), .int .i64 t173]] rfl mq ?_; (with_reducible refine (spec_l4Put.calls k1 _ _ x7_1 (rdOf ByteArray.empty l0 x8_1) t173 t175 _ ?side1 ?side2 A10.out).mono ?_); (case side1 => exact cq (Kd.R_reads' HO_7.out).2.2); (case side2 => exact (Kd.R_reads' HO_7.out).2.1); rintro e w13 ⟨v176, rfl, ho0, hb⟩; refine ⟨_, rfl, ?_⟩; have HO177 := am (Kd.R_lower (Kd.R_new' ho0 (Kd.R_lt (rq HO_7.out))) (below_size bel)); replace HO_7 := am (Kd.R_elder' (rq HO_7.out) (Kd.R_base ho0) hb); replace HB := am (below_step bel hb); (try clear hb); (try clear hb2); (try clear hk); (try clear hi); (try clear ho0)))
     go_roundg k1
     case measure => have := HK1.out; omega
     case rel => exact ⟨(t175), (wrap64 (x8_1 + 1)), sq, H', ⟨b53_⟩, ⟨rq (Kd.R_mono HO177.out (fun _ hk => trivial))⟩, ⟨bel⟩⟩
    rw [if_neg c9] at H; have c9b0 := decide_eq_false c9; clear c9
    have H' := am H
    clear H
    have p172 : 0 ≤ (x8_1 : Int) := of_decide_eq_true ad
    have q172 : x8_1 < (l0.length : Int) := of_decide_eq_true ad
    obtain ⟨ad172, e172, hx172_0⟩ := Kd.at_string HR0.out x8_1 p172 q172
    cases e172
    replace hx172_0 := kp HB.out hx172_0; replace p172 := eq_true p172; replace q172 := eq_true q172
    go_wp2_with (first | ((with_reducible refine gate_callee (f := 103) rfl ?_); refine goesL_ (some 22) rfl rfl Try.func103 (by kernel_rfl) rfl #[.string (rdOf ByteArray.empty l0 x8_1), .string a1] rfl mq ?_; (with_reducible refine (spec_l1Far.calls k1 (rdOf ByteArray.empty l0 x8_1) a1 t173 _ A8.out).mono ?_); rintro e w14 ⟨rfl, hb⟩; refine ⟨_, rfl, ?_⟩; replace HO_7 := am (Kd.R_below (rq HO_7.out) hb); replace HB := am (below_step bel hb); (try clear hb); (try clear hb2); (try clear hk); (try clear hi)))
    go_roundg k1
    case measure => have := HK1.out; omega
    case rel => exact ⟨(x7_1), (wrap64 (x8_1 + 1)), sq, H', ⟨b53_⟩, ⟨rq HO_7.out⟩, ⟨bel⟩⟩
   rw [if_neg c6] at H; have c6b0 := decide_eq_false c6; clear c6
   by_cases c15 : (x7_1.length : Int) > 10
   ·rw [if_pos c15] at H; have c15b0 := decide_eq_true c15
    have c15b1 : decide (10 < x7_1.length) = true := decide_eq_true (by omega)
    clear c15
    replace H := ip H; obtain ⟨c16, H⟩ := H; have c16b0 := eq_true c16
    have c16b1 : decide (10 ≤ (x7_1.length : Int)) = true := decide_eq_true c16
    clear c16; obtain ⟨y169, hy169⟩ : ∃ y_ : List (S36), y_ = (x7_1.take (10 : Int).toNat) := ⟨_, rfl⟩
    replace H : (some y169) = some r := by first | (rw [hy169]; with_reducible exact H) | (have H2_ := bm H; rw [hy169]; with_reducible exact H2_) | (with_reducible exact bm H) | with_reducible exact H | (rw [hy169]; exact H) | exact H
    have Ny169 := am hy169; clear hy169; obtain rfl := Option.some.inj H; obtain ⟨Ao17, co17, eo17⟩ := Kd.R_slice HO_7.out; subst eo17
    have q18 : (10 : Int) ≤ ((x7_1.length : Int) : Int) := of_decide_eq_true ad
    obtain ⟨i018, hi018, _, hsz18, _⟩ := info_parts info36
    have hcut18 := cut_to (P := Try.prog) 24 36 .i64 Try.underlying24 hi018 Ao17 x7_1.length co17 10 (by omega) q18 (Kd.R_reads' HO_7.out).2.1
    have hr18 := Kd.R_take (m := (10 : Int).toNat) HO_7.out (by omega)
    have hy18 : y169.length = (10 : Int).toNat := (by rw [Ny169.out, List.length_take]; omega)
    rw [← Ny169.out] at hr18
    rw [← hy18] at hr18 hcut18
    clear hy18 hi018 hsz18 HO_7; have HO171 := am hr18; clear hr18; replace q18 := eq_true q18; go_wp2; go_ret
    exact ⟨_, eq_, by (with_reducible repeat (first | apply Kd.R_alloc | apply Kd.R_drewN | apply Kd.R_drew)); exact HO171.out, bel⟩
   rw [if_neg c15] at H; have c15b0 := decide_eq_false c15
   have c15b1 : decide (10 < x7_1.length) = false := decide_eq_false (by omega)
   clear c15; obtain rfl := Option.some.inj H; obtain ⟨Ao19, co19, eo19⟩ := Kd.R_slice HO_7.out; subst eo19; go_wp2; go_ret
   exact ⟨_, eq_, by (with_reducible repeat (first | apply Kd.R_alloc | apply Kd.R_drewN | apply Kd.R_drew)); exact HO_7.out, bel⟩

/-! ### spec_Guesses: function 12 -/
def spec_Guesses.f (k : Nat) (l0 : List ByteArray) (a1 : ByteArray) (a2 : Int) : Option ((List (S36))) := (spec_l3Words.f k l0).bind fun t178 => (if t178 = true then ((spec_l1Word.f k a1).bind fun t179 => (if t179 = true then ((spec_l4Guesses.f k l0 a1 a2).bind fun t180 => (some t180)) else (some (([] : List (S36)))))) else (some (([] : List (S36)))))
theorem spec_Guesses.calls (k : Nat) (A0 : Option Addr) (c0 : Nat) (l0 : List ByteArray) (a1 : ByteArray) (a2 : Int) (r : List (S36)) (w : World) (hr0 : Kd.C Kd.string w A0 l0.length l0) (hc0 : l0.length ≤ c0) (h : spec_Guesses.f k l0 a1 a2 = some r) :
  Calls Try.prog 12 #[.slice A0 l0.length c0, .string a1, .int .i64 a2] w fun e w' => ∃ v0_ : Value, e = .returned (v0_) ∧ Kd.R k36 36 w' w.heap.size (fun _ => True) v0_ r ∧ Below w.heap.size w w' := by
 have HR0 := am hr0; have HC0 := am hc0; clear hr0 hc0; have HB := am (Below.refl w.heap.size w)
 have H : ((spec_l3Words.f k l0).bind fun t178 => (if t178 = true then ((spec_l1Word.f k a1).bind fun t179 => (if t179 = true then ((spec_l4Guesses.f k l0 a1 a2).bind fun t180 => (some t180)) else (some (([] : List (S36)))))) else (some (([] : List (S36)))))) = some r := h
 clear h; replace H := bs H; obtain ⟨t178, A40, H⟩ := H; replace H : (if t178 = true then ((spec_l1Word.f k a1).bind fun t179 => (if t179 = true then ((spec_l4Guesses.f k l0 a1 a2).bind fun t180 => (some t180)) else (some (([] : List (S36)))))) else (some (([] : List (S36))))) = some r := H; have A4 := Aside0.mk A40; clear A40
 by_cases c5 : t178 = true
 ·subst c5
  have H1 : ((spec_l1Word.f k a1).bind fun t179 => (if t179 = true then ((spec_l4Guesses.f k l0 a1 a2).bind fun t180 => (some t180)) else (some (([] : List (S36)))))) = some r := b19_
  replace H := H1; clear H1
  replace H := bs H; obtain ⟨t179, A60, H⟩ := H; replace H : (if t179 = true then ((spec_l4Guesses.f k l0 a1 a2).bind fun t180 => (some t180)) else (some (([] : List (S36))))) = some r := H; have A6 := Aside0.mk A60; clear A60
  by_cases c7 : t179 = true
  ·subst c7
   have H1 : ((spec_l4Guesses.f k l0 a1 a2).bind fun t180 => (some t180)) = some r := b19_
   replace H := H1; clear H1
   replace H := bs H; obtain ⟨t180, A80, H⟩ := H; replace H : (some t180) = some r := H; have A8 := Aside0.mk A80; clear A80; obtain rfl := Option.some.inj H; go_enter Try.func12, Try.ntmps12
   go_wp2_with (first | ((with_reducible refine gate_callee (f := 56) rfl ?_); refine goesL_ (some 8) rfl rfl Try.func56 (by kernel_rfl) rfl #[.slice A0 l0.length c0] rfl mq ?_; (with_reducible refine (spec_l3Words.calls k _ _ l0 true _ ?side1 ?side2 A4.out).mono ?_); (case side1 => repeat (first | exact HR0.out | (with_reducible refine Kd.C_alloc ?_ _) | (with_reducible refine Kd.C_drewN ?_ _) | (with_reducible refine Kd.C_drew ?_))); (case side2 => exact HC0.out); rintro e w' ⟨rfl, ⟨nd, rfl⟩⟩; refine ⟨_, rfl, ?_⟩) | (go_at_call 57; (with_reducible refine (spec_l1Word.calls k a1 true _ A6.out).mono ?_); rintro e w' ⟨rfl, ⟨nd, rfl⟩⟩) | ((with_reducible refine gate_callee (f := 58) rfl ?_); refine goesL_ (some 19) rfl rfl Try.func58 (by kernel_rfl) rfl #[.slice A0 l0.length c0, .string a1, .int .i64 a2] rfl mq ?_; (with_reducible refine (spec_l4Guesses.calls k _ _ l0 a1 a2 t180 _ ?side1 ?side2 A8.out).mono ?_); (case side1 => repeat (first | exact HR0.out | (with_reducible refine Kd.C_alloc ?_ _) | (with_reducible refine Kd.C_drewN ?_ _) | (with_reducible refine Kd.C_drew ?_))); (case side2 => exact HC0.out); rintro e w9 ⟨v181, rfl, ho0, hb⟩; refine ⟨_, rfl, ?_⟩; have HO182 := am (Kd.R_lower ho0 (below_size bel)); replace HB := am (below_step bel hb); (try clear hb); (try clear hb2); (try clear hk); (try clear hi); (try clear ho0)))
   go_ret
   exact ⟨_, eq_, by (with_reducible repeat (first | apply Kd.R_alloc | apply Kd.R_drewN | apply Kd.R_drew)); exact HO182.out, bel⟩
  replace c7 := Bool.eq_false_iff.mpr c7; subst c7
  have H1 : (some (([] : List (S36)))) = some r := b7_
  replace H := H1; clear H1
  obtain ⟨y183, hy183⟩ : ∃ y_ : List (S36), y_ = (([] : List (S36))) := ⟨_, rfl⟩
  replace H : (some y183) = some r := by first | (rw [hy183]; with_reducible exact H) | (have H2_ := bm H; rw [hy183]; with_reducible exact H2_) | (with_reducible exact bm H) | with_reducible exact H | (rw [hy183]; exact H) | exact H
  have Ny183 := am hy183; clear hy183; obtain rfl := Option.some.inj H; go_enter Try.func12, Try.ntmps12
  go_wp2_with (first | ((with_reducible refine gate_callee (f := 56) rfl ?_); refine goesL_ (some 8) rfl rfl Try.func56 (by kernel_rfl) rfl #[.slice A0 l0.length c0] rfl mq ?_; (with_reducible refine (spec_l3Words.calls k _ _ l0 true _ ?side1 ?side2 A4.out).mono ?_); (case side1 => repeat (first | exact HR0.out | (with_reducible refine Kd.C_alloc ?_ _) | (with_reducible refine Kd.C_drewN ?_ _) | (with_reducible refine Kd.C_drew ?_))); (case side2 => exact HC0.out); rintro e w' ⟨rfl, ⟨nd, rfl⟩⟩; refine ⟨_, rfl, ?_⟩) | (go_at_call 57; (with_reducible refine (spec_l1Word.calls k a1 false _ A6.out).mono ?_); rintro e w' ⟨rfl, ⟨nd, rfl⟩⟩) | ((with_reducible refine gate_dst (N := 15) rfl ?_); refine Kd.R_lit k36 _ 36 ?hg (N := 15) ?hd (xs := ([] : List (S36))) (inner := []) (ok := fun _ => True) (okp := fun _ => True) ?hr ?hp (fun _ hk => hk) trivial (Below.refl _ _) (Nat.le_refl _) (by simp) ?_; (case hd => rfl); (case hg => rfl); (case hr => first | (go_simp; done) | (go_simp; rfl)); (case hp => exact (Reps.none _ _)); intro v184 w10 ho11 hb hg_ hnew_; clear hg_ hnew_; (first | rw [← Ny183.out] at ho11 | (simp only [Int.reduceToNat] at ho11; rw [← Ny183.out] at ho11) | (simp only [Int.toNat_natCast] at ho11; rw [← Ny183.out] at ho11)); have HO185 := am (Kd.R_lower ho11 (below_size bel)); replace HB := am (below_step bel hb); clear hb ho11))
  go_ret
  exact ⟨_, eq_, by (with_reducible repeat (first | apply Kd.R_alloc | apply Kd.R_drewN | apply Kd.R_drew)); exact HO185.out, bel⟩
 replace c5 := Bool.eq_false_iff.mpr c5; subst c5
 have H1 : (some (([] : List (S36)))) = some r := b7_
 replace H := H1; clear H1
 obtain ⟨y186, hy186⟩ : ∃ y_ : List (S36), y_ = (([] : List (S36))) := ⟨_, rfl⟩
 replace H : (some y186) = some r := by first | (rw [hy186]; with_reducible exact H) | (have H2_ := bm H; rw [hy186]; with_reducible exact H2_) | (with_reducible exact bm H) | with_reducible exact H | (rw [hy186]; exact H) | exact H
 have Ny186 := am hy186; clear hy186; obtain rfl := Option.some.inj H; go_enter Try.func12, Try.ntmps12
 go_wp2_with (first | ((with_reducible refine gate_callee (f := 56) rfl ?_); refine goesL_ (some 8) rfl rfl Try.func56 (by kernel_rfl) rfl #[.slice A0 l0.length c0] rfl mq ?_; (with_reducible refine (spec_l3Words.calls k _ _ l0 false _ ?side1 ?side2 A4.out).mono ?_); (case side1 => repeat (first | exact HR0.out | (with_reducible refine Kd.C_alloc ?_ _) | (with_reducible refine Kd.C_drewN ?_ _) | (with_reducible refine Kd.C_drew ?_))); (case side2 => exact HC0.out); rintro e w' ⟨rfl, ⟨nd, rfl⟩⟩; refine ⟨_, rfl, ?_⟩) | ((with_reducible refine gate_dst (N := 15) rfl ?_); refine Kd.R_lit k36 _ 36 ?hg (N := 15) ?hd (xs := ([] : List (S36))) (inner := []) (ok := fun _ => True) (okp := fun _ => True) ?hr ?hp (fun _ hk => hk) trivial (Below.refl _ _) (Nat.le_refl _) (by simp) ?_; (case hd => rfl); (case hg => rfl); (case hr => first | (go_simp; done) | (go_simp; rfl)); (case hp => exact (Reps.none _ _)); intro v187 w12 ho13 hb hg_ hnew_; clear hg_ hnew_; (first | rw [← Ny186.out] at ho13 | (simp only [Int.reduceToNat] at ho13; rw [← Ny186.out] at ho13) | (simp only [Int.toNat_natCast] at ho13; rw [← Ny186.out] at ho13)); have HO188 := am (Kd.R_lower ho13 (below_size bel)); replace HB := am (below_step bel hb); clear hb ho13))
 go_ret
 exact ⟨_, eq_, by (with_reducible repeat (first | apply Kd.R_alloc | apply Kd.R_drewN | apply Kd.R_drew)); exact HO188.out, bel⟩

/-! ### impl_within: function 81 -/
def impl_within.f (a0 : Int) (a1 : Int) (a2 : Int) : Option (Bool) := if a0 ≥ a1 then (some (decide (a0 ≤ a2))) else (some false)
theorem impl_within.calls (a0 : Int) (a1 : Int) (a2 : Int) (r : Bool) (w : World) (h : impl_within.f a0 a1 a2 = some r) :
  Calls Try.prog 81 #[.int .i64 a0, .int .i64 a1, .int .i64 a2] w fun e w' => e = .returned (.bool r) ∧ Drawn0 w w' := by
 have H : (if a0 ≥ a1 then (some (decide (a0 ≤ a2))) else (some false)) = some r := h
 clear h
 by_cases c4 : a0 ≥ a1
 ·rw [if_pos c4] at H; have c4b0 := decide_eq_true c4; clear c4; obtain rfl := Option.some.inj H; go_enter Try.func81, Try.ntmps81; go_wp2; go_ret
  exact ⟨sq, dr⟩
 rw [if_neg c4] at H; have c4b0 := decide_eq_false c4; clear c4; obtain rfl := Option.some.inj H; go_enter Try.func81, Try.ntmps81; go_wp2; go_ret
 exact ⟨sq, dr⟩

/-! ### impl_lower: function 105 -/
def impl_lower.l0 : Nat → ByteArray → Int → Int → Option (Bool)
 | 0, _, _, _ => none
 | k + 1, x0, x5, x6 => if x6 < x5 then (if 0 ≤ x6 then (if x6 < (x0.size : Int) then (if (bt x0 x6) < 97 then (some false) else (if (bt x0 x6) > 122 then (some false) else (impl_lower.l0 k x0 x5 (wrap64 (x6 + 1))))) else (none)) else (none)) else (some true)
def impl_lower.f (k : Nat) (a0 : ByteArray) : Option (Bool) := impl_lower.l0 k a0 (a0.size : Int) 0
theorem impl_lower.calls (k : Nat) (a0 : ByteArray) (r : Bool) (w : World) (h : impl_lower.f k a0 = some r) :
  Calls Try.prog 105 #[.string a0] w fun e w' => e = .returned (.bool r) ∧ Drawn0 w w' := by
 have H : (impl_lower.l0 k a0 (a0.size : Int) 0) = some r := h
 clear h
 have H' := am H
 clear H; go_enter Try.func105, Try.ntmps105; go_wp2
 go_loopg [6] k (fun kq v6 w' => ∃ (x6_1 : Int), v6 = .int .i64 x6_1 ∧ Aside0 (impl_lower.l0 kq a0 (a0.size : Int) x6_1 = some r) ∧ Aside0 (kq ≤ k) ∧ Drawn0 w w')
 case atStart => exact ⟨(0), sq, H', ⟨Nat.le_refl _⟩, dr⟩
 case round =>
  clear H'; (try clear c1); obtain ⟨x6_1, rfl, HA, HK1, ⟨m1, rfl⟩⟩ := hrel
  cases gk with
  | zero => exact absurd HA.out (by simp [impl_lower.l0])
  | succ k1 =>
   have H := HA.out; clear HA
   simp only [impl_lower.l0] at H
   by_cases c2 : x6_1 < (a0.size : Int)
   ·rw [if_pos c2] at H; have c2b0 := decide_eq_true c2; clear c2
    replace H := it H; obtain ⟨c3b0, H⟩ := H
    replace H := it H; obtain ⟨c4b0, H⟩ := H
    by_cases c6 : (bt a0 x6_1) < 97
    ·rw [if_pos c6] at H; have c6b0 := decide_eq_true c6; clear c6; obtain rfl := Option.some.inj H
     have p5 : 0 ≤ (x6_1 : Int) := of_decide_eq_true ad
     have q5 : x6_1 < (a0.size : Int) := of_decide_eq_true ad
     have hx5 := bt_at a0 x6_1; replace p5 := eq_true p5; replace q5 := eq_true q5; go_wp2; go_ret
     exact ⟨sq, dr⟩
    rw [if_neg c6] at H; have c6b0 := decide_eq_false c6; clear c6
    by_cases c8 : (bt a0 x6_1) > 122
    ·rw [if_pos c8] at H; have c8b0 := decide_eq_true c8; clear c8; obtain rfl := Option.some.inj H
     have p5 : 0 ≤ (x6_1 : Int) := of_decide_eq_true ad
     have q5 : x6_1 < (a0.size : Int) := of_decide_eq_true ad
     have hx5 := bt_at a0 x6_1; replace p5 := eq_true p5; replace q5 := eq_true q5
     have p7 : 0 ≤ (x6_1 : Int) := of_decide_eq_true ad
     have q7 : x6_1 < (a0.size : Int) := of_decide_eq_true ad
     have hx7 := bt_at a0 x6_1; replace p7 := eq_true p7; replace q7 := eq_true q7; go_wp2; go_ret
     exact ⟨sq, dr⟩
    rw [if_neg c8] at H; have c8b0 := decide_eq_false c8; clear c8
    have H' := am H
    clear H
    have p5 : 0 ≤ (x6_1 : Int) := of_decide_eq_true ad
    have q5 : x6_1 < (a0.size : Int) := of_decide_eq_true ad
    have hx5 := bt_at a0 x6_1; replace p5 := eq_true p5; replace q5 := eq_true q5
    have p7 : 0 ≤ (x6_1 : Int) := of_decide_eq_true ad
    have q7 : x6_1 < (a0.size : Int) := of_decide_eq_true ad
    have hx7 := bt_at a0 x6_1; replace p7 := eq_true p7; replace q7 := eq_true q7; go_wp2
    go_roundg k1
    case measure => have := HK1.out; omega
    case rel => exact ⟨(wrap64 (x6_1 + 1)), sq, H', ⟨b53_⟩, dr⟩
   rw [if_neg c2] at H; have c2b0 := decide_eq_false c2; clear c2; obtain rfl := Option.some.inj H; go_wp2; go_ret
   exact ⟨sq, dr⟩

/-! ### impl_WordOk: function 60 -/
def impl_WordOk.f (k : Nat) (a0 : ByteArray) : Option (Bool) := (impl_within.f (a0.size : Int) 1 12).bind fun t189 => (if t189 = true then ((impl_lower.f k a0).bind fun t190 => (some t190)) else (some false))
theorem impl_WordOk.calls (k : Nat) (a0 : ByteArray) (r : Bool) (w : World) (h : impl_WordOk.f k a0 = some r) :
  Calls Try.prog 60 #[.string a0] w fun e w' => e = .returned (.bool r) ∧ Drawn0 w w' := by
 have H : ((impl_within.f (a0.size : Int) 1 12).bind fun t189 => (if t189 = true then ((impl_lower.f k a0).bind fun t190 => (some t190)) else (some false))) = some r := h
 clear h; replace H := bs H; obtain ⟨t189, A20, H⟩ := H; replace H : (if t189 = true then ((impl_lower.f k a0).bind fun t190 => (some t190)) else (some false)) = some r := H; have A2 := Aside0.mk A20; clear A20
 by_cases c3 : t189 = true
 ·subst c3
  have H1 : ((impl_lower.f k a0).bind fun t190 => (some t190)) = some r := b19_
  replace H := H1; clear H1
  replace H := bs H; obtain ⟨t190, A40, H⟩ := H; replace H : (some t190) = some r := H; have A4 := Aside0.mk A40; clear A40; obtain rfl := Option.some.inj H; go_enter Try.func60, Try.ntmps60
  go_wp2_with (first | ((with_reducible refine gate_callee (f := 81) rfl ?_); refine goesL_ (some 5) rfl rfl Try.func81 (by kernel_rfl) rfl #[.int .i64 (a0.size : Int), .int .i64 1, .int .i64 12] rfl mq ?_; (with_reducible refine (impl_within.calls (a0.size : Int) 1 12 true _ A2.out).mono ?_); rintro e w' ⟨rfl, ⟨nd, rfl⟩⟩; refine ⟨_, rfl, ?_⟩) | (go_at_call 105; (with_reducible refine (impl_lower.calls k a0 t190 _ A4.out).mono ?_); rintro e w' ⟨rfl, ⟨nd, rfl⟩⟩))
  go_ret
  exact ⟨sq, dr⟩
 replace c3 := Bool.eq_false_iff.mpr c3; subst c3
 have H1 : (some false) = some r := b7_
 replace H := H1; clear H1
 obtain rfl := Option.some.inj H; go_enter Try.func60, Try.ntmps60
 go_wp2_with (first | ((with_reducible refine gate_callee (f := 81) rfl ?_); refine goesL_ (some 5) rfl rfl Try.func81 (by kernel_rfl) rfl #[.int .i64 (a0.size : Int), .int .i64 1, .int .i64 12] rfl mq ?_; (with_reducible refine (impl_within.calls (a0.size : Int) 1 12 false _ A2.out).mono ?_); rintro e w' ⟨rfl, ⟨nd, rfl⟩⟩; refine ⟨_, rfl, ?_⟩))
 go_ret
 exact ⟨sq, dr⟩

/-! ### impl_wordsOk: function 59 -/
def impl_wordsOk.l0 : Nat → List ByteArray → Int → List ByteArray → Int → Int → Option (Bool)
 | 0, _, _, _, _, _ => none
 | k + 1, x0, x1, x7, x8, x9 => if x9 < x8 then (if 0 ≤ x9 then (if x9 < (x7.length : Int) then ((impl_WordOk.f k (rdOf ByteArray.empty x7 x9)).bind fun t192 => (if t192 = true then (if x9 > 0 then (if 0 ≤ (wrap64 (x9 - 1)) then (if (wrap64 (x9 - 1)) < (x0.length : Int) then (if ((Op.bytesLess ((rdOf ByteArray.empty x0 (wrap64 (x9 - 1))).toList) ((rdOf ByteArray.empty x7 x9).toList)) = true) then (impl_wordsOk.l0 k x0 x1 x7 x8 (wrap64 (x9 + 1))) else (some false)) else (none)) else (none)) else (impl_wordsOk.l0 k x0 x1 x7 x8 (wrap64 (x9 + 1)))) else (some false))) else (none)) else (none)) else (some (decide ((x0.length : Int) ≤ x1)))
def impl_wordsOk.f (k : Nat) (l0 : List ByteArray) (a1 : Int) : Option (Bool) := impl_wordsOk.l0 k l0 a1 l0 (l0.length : Int) 0
theorem impl_wordsOk.calls (k : Nat) (A0 : Option Addr) (c0 : Nat) (l0 : List ByteArray) (a1 : Int) (r : Bool) (w : World) (hr0 : Kd.C Kd.string w A0 l0.length l0) (hc0 : l0.length ≤ c0) (h : impl_wordsOk.f k l0 a1 = some r) :
  Calls Try.prog 59 #[.slice A0 l0.length c0, .int .i64 a1] w fun e w' => e = .returned (.bool r) ∧ Drawn0 w w' := by
 have HR0 := am hr0; have HC0 := am hc0; clear hr0 hc0
 have H : (impl_wordsOk.l0 k l0 a1 l0 (l0.length : Int) 0) = some r := h
 clear h
 have H' := am H
 clear H; go_enter Try.func59, Try.ntmps59; go_wp2
 go_loopg [9] k (fun kq v9 w' => ∃ (x9_1 : Int), v9 = .int .i64 x9_1 ∧ Aside0 (impl_wordsOk.l0 kq l0 a1 l0 (l0.length : Int) x9_1 = some r) ∧ Aside0 (kq ≤ k) ∧ Drawn0 w w')
 case atStart => exact ⟨(0), sq, H', ⟨Nat.le_refl _⟩, dr⟩
 case round =>
  clear H'; (try clear p2); obtain ⟨x9_1, rfl, HA, HK1, ⟨m1, rfl⟩⟩ := hrel
  cases gk with
  | zero => exact absurd HA.out (by simp [impl_wordsOk.l0])
  | succ k1 =>
   have H := HA.out; clear HA
   simp only [impl_wordsOk.l0] at H
   by_cases c3 : x9_1 < (l0.length : Int)
   ·rw [if_pos c3] at H; have c3b0 := decide_eq_true c3; clear c3
    replace H := it H; obtain ⟨c4b0, H⟩ := H
    replace H := it H; obtain ⟨c5b0, H⟩ := H; replace H := bs H; obtain ⟨t192, A60, H⟩ := H; replace H : (if t192 = true then (if x9_1 > 0 then (if 0 ≤ (wrap64 (x9_1 - 1)) then (if (wrap64 (x9_1 - 1)) < (l0.length : Int) then (if ((Op.bytesLess ((rdOf ByteArray.empty l0 (wrap64 (x9_1 - 1))).toList) ((rdOf ByteArray.empty l0 x9_1).toList)) = true) then (impl_wordsOk.l0 k1 l0 a1 l0 (l0.length : Int) (wrap64 (x9_1 + 1))) else (some false)) else (none)) else (none)) else (impl_wordsOk.l0 k1 l0 a1 l0 (l0.length : Int) (wrap64 (x9_1 + 1)))) else (some false)) = some r := H; have A6 := Aside0.mk A60; clear A60
    by_cases c7 : t192 = true
    ·subst c7
     have H1 : (if x9_1 > 0 then (if 0 ≤ (wrap64 (x9_1 - 1)) then (if (wrap64 (x9_1 - 1)) < (l0.length : Int) then (if ((Op.bytesLess ((rdOf ByteArray.empty l0 (wrap64 (x9_1 - 1))).toList) ((rdOf ByteArray.empty l0 x9_1).toList)) = true) then (impl_wordsOk.l0 k1 l0 a1 l0 (l0.length : Int) (wrap64 (x9_1 + 1))) else (some false)) else (none)) else (none)) else (impl_wordsOk.l0 k1 l0 a1 l0 (l0.length : Int) (wrap64 (x9_1 + 1)))) = some r := b19_
     replace H := H1; clear H1
     by_cases c8 : x9_1 > 0
     ·rw [if_pos c8] at H; have c8b0 := decide_eq_true c8; clear c8; obtain ⟨ji9, hji9⟩ : ∃ j_ : Int, (wrap64 (x9_1 - 1)) = j_ := ⟨_, rfl⟩
      replace H : (if 0 ≤ (ji9) then (if (ji9) < (l0.length : Int) then (if ((Op.bytesLess ((rdOf ByteArray.empty l0 (ji9)).toList) ((rdOf ByteArray.empty l0 x9_1).toList)) = true) then (impl_wordsOk.l0 k1 l0 a1 l0 (l0.length : Int) (wrap64 (x9_1 + 1))) else (some false)) else (none)) else (none)) = some r := by first | (rw [hji9] at H; exact H) | (simp only [hji9] at H ⊢; exact H)
      (try rw [hji9] at A6)
      have hji9w : (IntKind.i64.wrap (x9_1 - 1)) = ji9 := (i64_w _).trans hji9
      replace H := it H; obtain ⟨c10b0, H⟩ := H
      replace H := it H; obtain ⟨c11b0, H⟩ := H
      by_cases c12 : ((Op.bytesLess ((rdOf ByteArray.empty l0 (ji9)).toList) ((rdOf ByteArray.empty l0 x9_1).toList)) = true)
      ·rw [if_pos c12] at H
       have c12b0 : (Op.bytesLess ((rdOf ByteArray.empty l0 (ji9)).toList) ((rdOf ByteArray.empty l0 x9_1).toList)) = true := c12
       clear c12
       have H' := am H
       clear H
       have p191 : 0 ≤ (x9_1 : Int) := of_decide_eq_true ad
       have q191 : x9_1 < (l0.length : Int) := of_decide_eq_true ad
       obtain ⟨ad191, e191, hx191_0⟩ := Kd.at_string HR0.out x9_1 p191 q191
       cases e191
       replace p191 := eq_true p191; replace q191 := eq_true q191
       go_wp2_with (first | ((with_reducible refine gate_callee (f := 60) rfl ?_); refine goesL_ (some 15) rfl rfl Try.func60 (by kernel_rfl) rfl #[.string (rdOf ByteArray.empty l0 x9_1)] rfl mq ?_; (with_reducible refine (impl_WordOk.calls k1 (rdOf ByteArray.empty l0 x9_1) true _ A6.out).mono ?_); rintro e w' ⟨rfl, ⟨nd, rfl⟩⟩; refine ⟨_, rfl, ?_⟩; have p193 : 0 ≤ ((ji9) : Int) := of_decide_eq_true ad; have q193 : (ji9) < (l0.length : Int) := of_decide_eq_true ad; obtain ⟨ad193, e193, hx193_0⟩ := Kd.at_string HR0.out (ji9) p193 q193; obtain rfl : ad191 = ad193 := (by injection e193); replace p193 := eq_true p193; replace q193 := eq_true q193))
       go_roundg k1
       case measure => have := HK1.out; omega
       case rel => exact ⟨(wrap64 (x9_1 + 1)), sq, H', ⟨b53_⟩, dr⟩
      rw [if_neg c12] at H
      have c12b0 : (Op.bytesLess ((rdOf ByteArray.empty l0 (ji9)).toList) ((rdOf ByteArray.empty l0 x9_1).toList)) = false := by simpa using c12
      clear c12; obtain rfl := Option.some.inj H
      have p191 : 0 ≤ (x9_1 : Int) := of_decide_eq_true ad
      have q191 : x9_1 < (l0.length : Int) := of_decide_eq_true ad
      obtain ⟨ad191, e191, hx191_0⟩ := Kd.at_string HR0.out x9_1 p191 q191
      cases e191
      replace p191 := eq_true p191; replace q191 := eq_true q191
      go_wp2_with (first | ((with_reducible refine gate_callee (f := 60) rfl ?_); refine goesL_ (some 15) rfl rfl Try.func60 (by kernel_rfl) rfl #[.string (rdOf ByteArray.empty l0 x9_1)] rfl mq ?_; (with_reducible refine (impl_WordOk.calls k1 (rdOf ByteArray.empty l0 x9_1) true _ A6.out).mono ?_); rintro e w' ⟨rfl, ⟨nd, rfl⟩⟩; refine ⟨_, rfl, ?_⟩; have p193 : 0 ≤ ((ji9) : Int) := of_decide_eq_true ad; have q193 : (ji9) < (l0.length : Int) := of_decide_eq_true ad; obtain ⟨ad193, e193, hx193_0⟩ := Kd.at_string HR0.out (ji9) p193 q193; obtain rfl : ad191 = ad193 := (by injection e193); replace p193 := eq_true p193; replace q193 := eq_true q193))
      go_ret
      exact ⟨by first | rfl | (simp; done) | (simp only [← hji9] <;> (first | rfl | simp)) | (simp [*]; done), dr⟩
     rw [if_neg c8] at H; have c8b0 := decide_eq_false c8; clear c8
     have H' := am H
     clear H
     have p191 : 0 ≤ (x9_1 : Int) := of_decide_eq_true ad
     have q191 : x9_1 < (l0.length : Int) := of_decide_eq_true ad
     obtain ⟨ad191, e191, hx191_0⟩ := Kd.at_string HR0.out x9_1 p191 q191
     cases e191
     replace p191 := eq_true p191; replace q191 := eq_true q191
     go_wp2_with (first | ((with_reducible refine gate_callee (f := 60) rfl ?_); refine goesL_ (some 15) rfl rfl Try.func60 (by kernel_rfl) rfl #[.string (rdOf ByteArray.empty l0 x9_1)] rfl mq ?_; (with_reducible refine (impl_WordOk.calls k1 (rdOf ByteArray.empty l0 x9_1) true _ A6.out).mono ?_); rintro e w' ⟨rfl, ⟨nd, rfl⟩⟩; refine ⟨_, rfl, ?_⟩))
     go_roundg k1
     case measure => have := HK1.out; omega
     case rel => exact ⟨(wrap64 (x9_1 + 1)), sq, H', ⟨b53_⟩, dr⟩
    replace c7 := Bool.eq_false_iff.mpr c7; subst c7
    have H1 : (some false) = some r := b7_
    replace H := H1; clear H1
    obtain rfl := Option.some.inj H
    have p191 : 0 ≤ (x9_1 : Int) := of_decide_eq_true ad
    have q191 : x9_1 < (l0.length : Int) := of_decide_eq_true ad
    obtain ⟨ad191, e191, hx191_0⟩ := Kd.at_string HR0.out x9_1 p191 q191
    cases e191
    replace p191 := eq_true p191; replace q191 := eq_true q191
    go_wp2_with (first | ((with_reducible refine gate_callee (f := 60) rfl ?_); refine goesL_ (some 15) rfl rfl Try.func60 (by kernel_rfl) rfl #[.string (rdOf ByteArray.empty l0 x9_1)] rfl mq ?_; (with_reducible refine (impl_WordOk.calls k1 (rdOf ByteArray.empty l0 x9_1) false _ A6.out).mono ?_); rintro e w' ⟨rfl, ⟨nd, rfl⟩⟩; refine ⟨_, rfl, ?_⟩))
    go_ret
    exact ⟨sq, dr⟩
   rw [if_neg c3] at H; have c3b0 := decide_eq_false c3; clear c3; obtain rfl := Option.some.inj H; go_wp2; go_ret
   exact ⟨sq, dr⟩
end Go.Proofs.Ytfpmfaelodfecaa.QFnGuesses

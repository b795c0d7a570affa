import Derived.Test.YtfpmfaelodfecaaQFnExactGuessesx0
import Derived.Test.YtfpmfaelodfecaaVMSh2
namespace Go.Proofs.Ytfpmfaelodfecaa.QFnExactGuesses
open Go.RowKit Go.Proofs.YtfpmfaelodfecaaW.PrintWords Go.Proofs.YtfpmfaelodfecaaW.PrintLast Go.Proofs.YtfpmfaelodfecaaW.PrintMore Go.Proofs.Ytfpmfaelodfecaa.Sh
attribute [local go_sem] max2_int min2_int max_two min_two max_three min_three max_four min_four
set_option linter.unusedVariables false
set_option linter.unusedSimpArgs false
set_option maxHeartbeats 8000000
set_option maxRecDepth 100000
-- shrunk

/-! ### spec_l4Guesses: function 58 -/
def spec_l4Guesses.l0 : Nat → List ByteArray → ByteArray → Int → List (S36) → Int → Option ((List (S36)))
 | 0, _, _, _, _, _ => none
 | k + 1, x0, x1, x2, x7, x8 => if x8 < (x0.length : Int) then (if 0 ≤ x8 then ((spec_l1Far.f k (rdOf ByteArray.empty x0 x8) x1).bind fun t174 => (if t174 ≤ x2 then ((spec_l4Put.f k x7 (rdOf ByteArray.empty x0 x8) t174).bind fun t176 => (spec_l4Guesses.l0 k x0 x1 x2 t176 (wrap64 (x8 + 1)))) else (spec_l4Guesses.l0 k x0 x1 x2 x7 (wrap64 (x8 + 1))))) else (none)) else (if (x7.length : Int) > 10 then (if 10 ≤ (x7.length : Int) then (some (x7.take (10 : Int).toNat)) else (none)) else (some x7))
def spec_l4Guesses.f (k : Nat) (l0 : List ByteArray) (a1 : ByteArray) (a2 : Int) : Option ((List (S36))) := spec_l4Guesses.l0 k l0 a1 a2 (([] : List (S36))) 0
theorem spec_l4Guesses.calls (k : Nat) (A0 : Option Addr) (c0 : Nat) (l0 : List ByteArray) (a1 : ByteArray) (a2 : Int) (r : List (S36)) (w : World) (hr0 : Kd.C Kd.string w A0 l0.length l0) (hc0 : l0.length ≤ c0) (h : spec_l4Guesses.f k l0 a1 a2 = some r) :
  Calls Try.prog 58 #[.slice A0 l0.length c0, .string a1, .int .i64 a2] w fun e w' => ∃ v0_ : Value, e = .returned (v0_) ∧ Kd.R k36 36 w' w.heap.size (fun _ => True) v0_ r ∧ Below w.heap.size w w' := by
 have hu36 := Try.underlying36; have HR0 := am hr0; have HC0 := am hc0; clear hr0 hc0; have HB := am (Below.refl w.heap.size w)
 have H : (spec_l4Guesses.l0 k l0 a1 a2 (([] : List (S36))) 0) = some r := h
 clear h; obtain ⟨y167, hy167⟩ : ∃ y_ : List (S36), y_ = (([] : List (S36))) := ⟨_, rfl⟩
 replace H : (spec_l4Guesses.l0 k l0 a1 a2 y167 0) = some r := by first | (rw [hy167]; with_reducible exact H) | (have H2_ := bm H; rw [hy167]; with_reducible exact H2_) | (with_reducible exact bm H) | with_reducible exact H | (rw [hy167]; exact H) | exact H
 have Ny167 := am hy167; clear hy167
 have H' := am H
 clear H; go_enter Try.func58, Try.ntmps58
 go_wp2_with (first | ((with_reducible refine gate_dst (N := 10) rfl ?_); refine Kd.R_lit k36 _ 36 ?hg (N := 10) ?hd (xs := ([] : List (S36))) (inner := []) (ok := fun _ => True) (okp := fun _ => True) ?hr ?hp (fun _ hk => hk) trivial (Below.refl _ _) (Nat.le_refl _) (by simp) ?_; (case hd => rfl); (case hg => rfl); (case hr => first | (go_simp; done) | (go_simp; rfl)); (case hp => exact (Reps.none _ _)); intro v168 w4 ho5 hb hg_ hnew_; clear hg_ hnew_; (first | rw [← Ny167.out] at ho5 | (simp only [Int.reduceToNat] at ho5; rw [← Ny167.out] at ho5) | (simp only [Int.toNat_natCast] at ho5; rw [← Ny167.out] at ho5)); have HO169 := am (Kd.R_lower ho5 (below_size bel)); replace HB := am (below_step bel hb); clear hb ho5))
 go_loopg [7, 8] k (fun kq v7 v8 w' => ∃ (x7_1 : List (S36)) (x8_1 : Int), v8 = .int .i64 x8_1 ∧ Aside0 (spec_l4Guesses.l0 kq l0 a1 a2 x7_1 x8_1 = some r) ∧ Aside0 (kq ≤ k) ∧ Aside0 (Kd.R k36 36 w' w.heap.size (fun _ => True) v7 x7_1) ∧ Aside0 (Below w.heap.size w w'))
 case atStart => exact ⟨(y167), (0), sq, H', ⟨Nat.le_refl _⟩, ⟨rq HO169.out⟩, ⟨bel⟩⟩
 case round =>
  clear H'; (try clear p2); (try clear c5); obtain ⟨x7_1, x8_1, rfl, HA, HK1, HO_7, HB⟩ := hrel
  cases gk with
  | zero => exact absurd HA.out (by simp [spec_l4Guesses.l0])
  | succ k1 =>
   have H := HA.out; clear HA
   simp only [spec_l4Guesses.l0] at H
   by_cases c6 : x8_1 < (l0.length : Int)
   ·rw [if_pos c6] at H; have c6b0 := decide_eq_true c6; clear c6
    replace H := it H; obtain ⟨c7b0, H⟩ := H; replace H := bs H; obtain ⟨t174, A80, H⟩ := H; replace H : (if t174 ≤ a2 then ((spec_l4Put.f k1 x7_1 (rdOf ByteArray.empty l0 x8_1) t174).bind fun t176 => (spec_l4Guesses.l0 k1 l0 a1 a2 t176 (wrap64 (x8_1 + 1)))) else (spec_l4Guesses.l0 k1 l0 a1 a2 x7_1 (wrap64 (x8_1 + 1)))) = some r := H; have A8 := Aside0.mk A80; clear A80
    by_cases c9 : t174 ≤ a2
    ·rw [if_pos c9] at H; have c9b0 := decide_eq_true c9; clear c9; replace H := bs H; obtain ⟨t176, A100, H⟩ := H; replace H : (spec_l4Guesses.l0 k1 l0 a1 a2 t176 (wrap64 (x8_1 + 1))) = some r := H; have A10 := Aside0.mk A100; clear A100
     have H' := am H
     clear H
     have p173 : 0 ≤ (x8_1 : Int) := of_decide_eq_true ad
     have q173 : x8_1 < (l0.length : Int) := of_decide_eq_true ad
     obtain ⟨ad173, e173, hx173_0⟩ := Kd.at_string HR0.out x8_1 p173 q173
     cases e173
     replace hx173_0 := kp HB.out hx173_0; replace p173 := eq_true p173; replace q173 := eq_true q173
     go_wp2_with (first | ((with_reducible refine gate_callee (f := 103) rfl ?_); refine goesL_ (some 22) rfl rfl Try.func103 (by kernel_rfl) rfl #[.string (rdOf ByteArray.empty l0 x8_1), .string a1] rfl mq ?_; (with_reducible refine (spec_l1Far.calls k1 (rdOf ByteArray.empty l0 x8_1) a1 t174 _ A8.out).mono ?_); rintro e w11 ⟨rfl, hb⟩; refine ⟨_, rfl, ?_⟩; replace HO_7 := am (Kd.R_below (rq HO_7.out) hb); replace HB := am (below_step bel hb); (try clear hb); (try clear hb2); (try clear hk); (try clear hi); have p175 : 0 ≤ (x8_1 : Int) := of_decide_eq_true ad; have q175 : x8_1 < (l0.length : Int) := of_decide_eq_true ad; obtain ⟨ad175, e175, hx175_0⟩ := Kd.at_string HR0.out x8_1 p175 q175; obtain rfl : ad173 = ad175 := (by injection e175); replace hx175_0 := kp HB.out hx175_0; replace p175 := eq_true p175; replace q175 := eq_true q175; obtain ⟨Ao12, co12, eo12⟩ := Kd.R_slice HO_7.out; subst eo12) | ((with_reducible refine gate_callee (f := 104) rfl ?_); refine goesL_ (some 33) rfl rfl Try.func104 (by kernel_rfl) rfl #[.slice Ao12 x7_1.length co12, .agg #[.string (rdOf ByteArray.empty l0 x8_1), .int .i64 t174]] rfl mq ?_; (with_reducible refine (spec_l4Put.calls k1 _ _ x7_1 (rdOf ByteArray.empty l0 x8_1) t174 t176 _ ?side1 ?side2 A10.out).mono ?_); (case side1 => exact cq (Kd.R_reads' HO_7.out).2.2); (case side2 => exact (Kd.R_reads' HO_7.out).2.1); rintro e w13 ⟨v177, rfl, ho0, hb⟩; refine ⟨_, rfl, ?_⟩; have HO178 := am (Kd.R_lower (Kd.R_new' ho0 (Kd.R_lt (rq HO_7.out))) (below_size bel)); replace HO_7 := am (Kd.R_elder' (rq HO_7.out) (Kd.R_base ho0) hb); replace HB := am (below_step bel hb); (try clear hb); (try clear hb2); (try clear hk); (try clear hi); (try clear ho0)))
     go_roundg k1
     case measure => have := HK1.out; omega
     case rel => exact ⟨(t176), (wrap64 (x8_1 + 1)), sq, H', ⟨b22_⟩, ⟨rq (Kd.R_mono HO178.out (fun _ hk => trivial))⟩, ⟨bel⟩⟩
    rw [if_neg c9] at H; have c9b0 := decide_eq_false c9; clear c9
    have H' := am H
    clear H
    have p173 : 0 ≤ (x8_1 : Int) := of_decide_eq_true ad
    have q173 : x8_1 < (l0.length : Int) := of_decide_eq_true ad
    obtain ⟨ad173, e173, hx173_0⟩ := Kd.at_string HR0.out x8_1 p173 q173
    cases e173
    replace hx173_0 := kp HB.out hx173_0; replace p173 := eq_true p173; replace q173 := eq_true q173
    go_wp2_with (first | ((with_reducible refine gate_callee (f := 103) rfl ?_); refine goesL_ (some 22) rfl rfl Try.func103 (by kernel_rfl) rfl #[.string (rdOf ByteArray.empty l0 x8_1), .string a1] rfl mq ?_; (with_reducible refine (spec_l1Far.calls k1 (rdOf ByteArray.empty l0 x8_1) a1 t174 _ A8.out).mono ?_); rintro e w14 ⟨rfl, hb⟩; refine ⟨_, rfl, ?_⟩; replace HO_7 := am (Kd.R_below (rq HO_7.out) hb); replace HB := am (below_step bel hb); (try clear hb); (try clear hb2); (try clear hk); (try clear hi)))
    go_roundg k1
    case measure => have := HK1.out; omega
    case rel => exact ⟨(x7_1), (wrap64 (x8_1 + 1)), sq, H', ⟨b22_⟩, ⟨rq HO_7.out⟩, ⟨bel⟩⟩
   rw [if_neg c6] at H; have c6b0 := decide_eq_false c6; clear c6
   by_cases c15 : (x7_1.length : Int) > 10
   ·rw [if_pos c15] at H; have c15b0 := decide_eq_true c15
    have c15b1 : decide (10 < x7_1.length) = true := decide_eq_true (by omega)
    clear c15
    replace H := ip H; obtain ⟨c16, H⟩ := H; have c16b0 := eq_true c16
    have c16b1 : decide (10 ≤ (x7_1.length : Int)) = true := decide_eq_true c16
    clear c16; obtain ⟨y170, hy170⟩ : ∃ y_ : List (S36), y_ = (x7_1.take (10 : Int).toNat) := ⟨_, rfl⟩
    replace H : (some y170) = some r := by first | (rw [hy170]; with_reducible exact H) | (have H2_ := bm H; rw [hy170]; with_reducible exact H2_) | (with_reducible exact bm H) | with_reducible exact H | (rw [hy170]; exact H) | exact H
    have Ny170 := am hy170; clear hy170; obtain rfl := Option.some.inj H; obtain ⟨Ao17, co17, eo17⟩ := Kd.R_slice HO_7.out; subst eo17
    have q18 : (10 : Int) ≤ ((x7_1.length : Int) : Int) := of_decide_eq_true ad
    obtain ⟨i018, hi018, _, hsz18, _⟩ := info_parts info36
    have hcut18 := cut_to (P := Try.prog) 24 36 .i64 Try.underlying24 hi018 Ao17 x7_1.length co17 10 (by omega) q18 (Kd.R_reads' HO_7.out).2.1
    have hr18 := Kd.R_take (m := (10 : Int).toNat) HO_7.out (by omega)
    have hy18 : y170.length = (10 : Int).toNat := (by rw [Ny170.out, List.length_take]; omega)
    rw [← Ny170.out] at hr18
    rw [← hy18] at hr18 hcut18
    clear hy18 hi018 hsz18 HO_7; have HO172 := am hr18; clear hr18; replace q18 := eq_true q18; go_wp2; go_ret
    exact ⟨_, eq_, by (with_reducible repeat (first | apply Kd.R_alloc | apply Kd.R_drewN | apply Kd.R_drew)); exact HO172.out, bel⟩
   rw [if_neg c15] at H; have c15b0 := decide_eq_false c15
   have c15b1 : decide (10 < x7_1.length) = false := decide_eq_false (by omega)
   clear c15; obtain rfl := Option.some.inj H; obtain ⟨Ao19, co19, eo19⟩ := Kd.R_slice HO_7.out; subst eo19; go_wp2; go_ret
   exact ⟨_, eq_, by (with_reducible repeat (first | apply Kd.R_alloc | apply Kd.R_drewN | apply Kd.R_drew)); exact HO_7.out, bel⟩

/-! ### spec_Guesses: function 12 -/
def spec_Guesses.f (k : Nat) (l0 : List ByteArray) (a1 : ByteArray) (a2 : Int) : Option ((List (S36))) := (spec_l3Words.f k l0).bind fun t179 => (if t179 = true then ((spec_l1Word.f k a1).bind fun t180 => (if t180 = true then ((spec_l4Guesses.f k l0 a1 a2).bind fun t181 => (some t181)) else (some (([] : List (S36)))))) else (some (([] : List (S36)))))
theorem spec_Guesses.calls (k : Nat) (A0 : Option Addr) (c0 : Nat) (l0 : List ByteArray) (a1 : ByteArray) (a2 : Int) (r : List (S36)) (w : World) (hr0 : Kd.C Kd.string w A0 l0.length l0) (hc0 : l0.length ≤ c0) (h : spec_Guesses.f k l0 a1 a2 = some r) :
  Calls Try.prog 12 #[.slice A0 l0.length c0, .string a1, .int .i64 a2] w fun e w' => ∃ v0_ : Value, e = .returned (v0_) ∧ Kd.R k36 36 w' w.heap.size (fun _ => True) v0_ r ∧ Below w.heap.size w w' := by
 have HR0 := am hr0; have HC0 := am hc0; clear hr0 hc0; have HB := am (Below.refl w.heap.size w)
 have H : ((spec_l3Words.f k l0).bind fun t179 => (if t179 = true then ((spec_l1Word.f k a1).bind fun t180 => (if t180 = true then ((spec_l4Guesses.f k l0 a1 a2).bind fun t181 => (some t181)) else (some (([] : List (S36)))))) else (some (([] : List (S36)))))) = some r := h
 clear h; replace H := bs H; obtain ⟨t179, A40, H⟩ := H; replace H : (if t179 = true then ((spec_l1Word.f k a1).bind fun t180 => (if t180 = true then ((spec_l4Guesses.f k l0 a1 a2).bind fun t181 => (some t181)) else (some (([] : List (S36)))))) else (some (([] : List (S36))))) = some r := H; have A4 := Aside0.mk A40; clear A40
 by_cases c5 : t179 = true
 ·subst c5
  have H1 : ((spec_l1Word.f k a1).bind fun t180 => (if t180 = true then ((spec_l4Guesses.f k l0 a1 a2).bind fun t181 => (some t181)) else (some (([] : List (S36)))))) = some r := b16_
  replace H := H1; clear H1
  replace H := bs H; obtain ⟨t180, A60, H⟩ := H; replace H : (if t180 = true then ((spec_l4Guesses.f k l0 a1 a2).bind fun t181 => (some t181)) else (some (([] : List (S36))))) = some r := H; have A6 := Aside0.mk A60; clear A60
  by_cases c7 : t180 = true
  ·subst c7
   have H1 : ((spec_l4Guesses.f k l0 a1 a2).bind fun t181 => (some t181)) = some r := b16_
   replace H := H1; clear H1
   replace H := bs H; obtain ⟨t181, A80, H⟩ := H; replace H : (some t181) = some r := H; have A8 := Aside0.mk A80; clear A80; obtain rfl := Option.some.inj H; go_enter Try.func12, Try.ntmps12
   go_wp2_with (first | ((with_reducible refine gate_callee (f := 56) rfl ?_); refine goesL_ (some 8) rfl rfl Try.func56 (by kernel_rfl) rfl #[.slice A0 l0.length c0] rfl mq ?_; (with_reducible refine (spec_l3Words.calls k _ _ l0 true _ ?side1 ?side2 A4.out).mono ?_); (case side1 => repeat (first | exact HR0.out | (with_reducible refine Kd.C_alloc ?_ _) | (with_reducible refine Kd.C_drewN ?_ _) | (with_reducible refine Kd.C_drew ?_))); (case side2 => exact HC0.out); rintro e w' ⟨rfl, ⟨nd, rfl⟩⟩; refine ⟨_, rfl, ?_⟩) | (go_at_call 57; (with_reducible refine (spec_l1Word.calls k a1 true _ A6.out).mono ?_); rintro e w' ⟨rfl, ⟨nd, rfl⟩⟩) | ((with_reducible refine gate_callee (f := 58) rfl ?_); refine goesL_ (some 19) rfl rfl Try.func58 (by kernel_rfl) rfl #[.slice A0 l0.length c0, .string a1, .int .i64 a2] rfl mq ?_; (with_reducible refine (spec_l4Guesses.calls k _ _ l0 a1 a2 t181 _ ?side1 ?side2 A8.out).mono ?_); (case side1 => repeat (first | exact HR0.out | (with_reducible refine Kd.C_alloc ?_ _) | (with_reducible refine Kd.C_drewN ?_ _) | (with_reducible refine Kd.C_drew ?_))); (case side2 => exact HC0.out); rintro e w9 ⟨v182, rfl, ho0, hb⟩; refine ⟨_, rfl, ?_⟩; have HO183 := am (Kd.R_lower ho0 (below_size bel)); replace HB := am (below_step bel hb); (try clear hb); (try clear hb2); (try clear hk); (try clear hi); (try clear ho0)))
   go_ret
   exact ⟨_, eq_, by (with_reducible repeat (first | apply Kd.R_alloc | apply Kd.R_drewN | apply Kd.R_drew)); exact HO183.out, bel⟩
  replace c7 := Bool.eq_false_iff.mpr c7; subst c7
  have H1 : (some (([] : List (S36)))) = some r := b5_
  replace H := H1; clear H1
  obtain ⟨y184, hy184⟩ : ∃ y_ : List (S36), y_ = (([] : List (S36))) := ⟨_, rfl⟩
  replace H : (some y184) = some r := by first | (rw [hy184]; with_reducible exact H) | (have H2_ := bm H; rw [hy184]; with_reducible exact H2_) | (with_reducible exact bm H) | with_reducible exact H | (rw [hy184]; exact H) | exact H
  have Ny184 := am hy184; clear hy184; obtain rfl := Option.some.inj H; go_enter Try.func12, Try.ntmps12
  go_wp2_with (first | ((with_reducible refine gate_callee (f := 56) rfl ?_); refine goesL_ (some 8) rfl rfl Try.func56 (by kernel_rfl) rfl #[.slice A0 l0.length c0] rfl mq ?_; (with_reducible refine (spec_l3Words.calls k _ _ l0 true _ ?side1 ?side2 A4.out).mono ?_); (case side1 => repeat (first | exact HR0.out | (with_reducible refine Kd.C_alloc ?_ _) | (with_reducible refine Kd.C_drewN ?_ _) | (with_reducible refine Kd.C_drew ?_))); (case side2 => exact HC0.out); rintro e w' ⟨rfl, ⟨nd, rfl⟩⟩; refine ⟨_, rfl, ?_⟩) | (go_at_call 57; (with_reducible refine (spec_l1Word.calls k a1 false _ A6.out).mono ?_); rintro e w' ⟨rfl, ⟨nd, rfl⟩⟩) | ((with_reducible refine gate_dst (N := 15) rfl ?_); refine Kd.R_lit k36 _ 36 ?hg (N := 15) ?hd (xs := ([] : List (S36))) (inner := []) (ok := fun _ => True) (okp := fun _ => True) ?hr ?hp (fun _ hk => hk) trivial (Below.refl _ _) (Nat.le_refl _) (by simp) ?_; (case hd => rfl); (case hg => rfl); (case hr => first | (go_simp; done) | (go_simp; rfl)); (case hp => exact (Reps.none _ _)); intro v185 w10 ho11 hb hg_ hnew_; clear hg_ hnew_; (first | rw [← Ny184.out] at ho11 | (simp only [Int.reduceToNat] at ho11; rw [← Ny184.out] at ho11) | (simp only [Int.toNat_natCast] at ho11; rw [← Ny184.out] at ho11)); have HO186 := am (Kd.R_lower ho11 (below_size bel)); replace HB := am (below_step bel hb); clear hb ho11))
  go_ret
  exact ⟨_, eq_, by (with_reducible repeat (first | apply Kd.R_alloc | apply Kd.R_drewN | apply Kd.R_drew)); exact HO186.out, bel⟩
 replace c5 := Bool.eq_false_iff.mpr c5; subst c5
 have H1 : (some (([] : List (S36)))) = some r := b5_
 replace H := H1; clear H1
 obtain ⟨y187, hy187⟩ : ∃ y_ : List (S36), y_ = (([] : List (S36))) := ⟨_, rfl⟩
 replace H : (some y187) = some r := by first | (rw [hy187]; with_reducible exact H) | (have H2_ := bm H; rw [hy187]; with_reducible exact H2_) | (with_reducible exact bm H) | with_reducible exact H | (rw [hy187]; exact H) | exact H
 have Ny187 := am hy187; clear hy187; obtain rfl := Option.some.inj H; go_enter Try.func12, Try.ntmps12
 go_wp2_with (first | ((with_reducible refine gate_callee (f := 56) rfl ?_); refine goesL_ (some 8) rfl rfl Try.func56 (by kernel_rfl) rfl #[.slice A0 l0.length c0] rfl mq ?_; (with_reducible refine (spec_l3Words.calls k _ _ l0 false _ ?side1 ?side2 A4.out).mono ?_); (case side1 => repeat (first | exact HR0.out | (with_reducible refine Kd.C_alloc ?_ _) | (with_reducible refine Kd.C_drewN ?_ _) | (with_reducible refine Kd.C_drew ?_))); (case side2 => exact HC0.out); rintro e w' ⟨rfl, ⟨nd, rfl⟩⟩; refine ⟨_, rfl, ?_⟩) | ((with_reducible refine gate_dst (N := 15) rfl ?_); refine Kd.R_lit k36 _ 36 ?hg (N := 15) ?hd (xs := ([] : List (S36))) (inner := []) (ok := fun _ => True) (okp := fun _ => True) ?hr ?hp (fun _ hk => hk) trivial (Below.refl _ _) (Nat.le_refl _) (by simp) ?_; (case hd => rfl); (case hg => rfl); (case hr => first | (go_simp; done) | (go_simp; rfl)); (case hp => exact (Reps.none _ _)); intro v188 w12 ho13 hb hg_ hnew_; clear hg_ hnew_; (first | rw [← Ny187.out] at ho13 | (simp only [Int.reduceToNat] at ho13; rw [← Ny187.out] at ho13) | (simp only [Int.toNat_natCast] at ho13; rw [← Ny187.out] at ho13)); have HO189 := am (Kd.R_lower ho13 (below_size bel)); replace HB := am (below_step bel hb); clear hb ho13))
 go_ret
 exact ⟨_, eq_, by (with_reducible repeat (first | apply Kd.R_alloc | apply Kd.R_drewN | apply Kd.R_drew)); exact HO189.out, bel⟩

/-! ### laws_toStringS: function 13 -/
def laws_toStringS.l0 : Nat → List ByteArray → List ByteArray → Int → Option (List ByteArray)
 | 0, _, _, _ => none
 | k + 1, x0, x3, x4 => if x4 < (x0.length : Int) then (if 0 ≤ x4 then (if x4 < (x3.length : Int) then (laws_toStringS.l0 k x0 (x3.set (x4 : Int).toNat (rdOf ByteArray.empty x0 x4)) (wrap64 (x4 + 1))) else (none)) else (none)) else (some x3)
def laws_toStringS.f (k : Nat) (l0 : List ByteArray) : Option (List ByteArray) := if 0 ≤ (l0.length : Int) then (if l0.length ≤ 17592186044416 then (laws_toStringS.l0 k l0 (List.replicate l0.length (⟨#[]⟩ : ByteArray)) 0) else (none)) else (none)
theorem laws_toStringS.calls (k : Nat) (A0 : Option Addr) (c0 : Nat) (l0 : List ByteArray) (r : List ByteArray) (w : World) (hr0 : Kd.C Kd.string w A0 l0.length l0) (hc0 : l0.length ≤ c0) (h : laws_toStringS.f k l0 = some r) :
  Calls Try.prog 13 #[.slice A0 l0.length c0] w fun e w' => ∃ v0_ : Value, e = .returned (v0_) ∧ Kd.R Kd.string 9 w' w.heap.size (fun _ => True) v0_ r ∧ Below w.heap.size w w' := by
 have HR0 := am hr0; have HC0 := am hc0; clear hr0 hc0; have HB := am (Below.refl w.heap.size w)
 have H : (if 0 ≤ (l0.length : Int) then (if l0.length ≤ 17592186044416 then (laws_toStringS.l0 k l0 (List.replicate l0.length (⟨#[]⟩ : ByteArray)) 0) else (none)) else (none)) = some r := h
 clear h
 replace H := ip H; obtain ⟨c2, H⟩ := H; have c2b0 := eq_true c2
 have c2b1 : decide (0 ≤ (l0.length : Int)) = true := decide_eq_true c2
 clear c2
 replace H := ip H; obtain ⟨c3, H⟩ := H; have c3b0 := eq_true c3
 have c3b1 : decide (l0.length ≤ 17592186044416) = true := decide_eq_true c3
 clear c3; obtain ⟨y190, hy190⟩ : ∃ y_ : List ByteArray, y_ = (List.replicate l0.length (⟨#[]⟩ : ByteArray)) := ⟨_, rfl⟩
 replace H : (laws_toStringS.l0 k l0 y190 0) = some r := by first | (rw [hy190]; with_reducible exact H) | (have H2_ := bm H; rw [hy190]; with_reducible exact H2_) | (with_reducible exact bm H) | with_reducible exact H | (rw [hy190]; exact H) | exact H
 have Ny190 := am hy190; clear hy190
 have H' := am H
 clear H; go_enter Try.func13, Try.ntmps13
 go_wp2_with (first | ((with_reducible refine gate_dst (N := 7) rfl ?_); refine Kd.R_make Kd.string _ 9 rfl (N := 7) rfl 22 _ _ rfl (l0.length : Int) rfl rfl Try.underlying22 (.string ⟨#[]⟩) 16 info9 rfl (by decide) (by omega) (⟨#[]⟩ : ByteArray) (ok := fun _ => True) (okp := fun _ => True) rfl (fun _ hk => hk) trivial (of_decide_eq_true ad) (Nat.le_trans (Nat.mul_le_mul_right _ (of_decide_eq_true ad : (l0.length : Int).toNat ≤ 17592186044416)) (by omega)) (Below.refl _ _) (Nat.le_refl _) ?_; intro v191 w4 ho5 hb hg_ hnew_; clear hg_ hnew_; (first | rw [← Ny190.out] at ho5 | (simp only [Int.reduceToNat] at ho5; rw [← Ny190.out] at ho5) | (simp only [Int.toNat_natCast] at ho5; rw [← Ny190.out] at ho5)); have HO192 := am (Kd.R_lower ho5 (below_size bel)); replace HB := am (below_step bel hb); clear hb ho5))
 go_loopg [4] k (fun kq v4 w' => ∃ (x3_1 : List ByteArray) (x4_1 : Int), v4 = .int .i64 x4_1 ∧ Aside0 (laws_toStringS.l0 kq l0 x3_1 x4_1 = some r) ∧ Aside0 (kq ≤ k) ∧ Aside0 (Kd.R Kd.string 9 w' w.heap.size (fun _ => True) v191 x3_1) ∧ Aside0 (Below w.heap.size w w'))
 case atStart => exact ⟨(y190), (0), sq, H', ⟨Nat.le_refl _⟩, ⟨rq HO192.out⟩, ⟨bel⟩⟩
 case round =>
  clear H'; (try clear c1); (try clear c2); (try clear c2b0); (try clear c2b1); (try clear p2); (try clear c3); (try clear c3b0); (try clear c3b1); obtain ⟨x3_1, x4_1, rfl, HA, HK1, HO_3, HB⟩ := hrel
  cases gk with
  | zero => exact absurd HA.out (by simp [laws_toStringS.l0])
  | succ k1 =>
   have H := HA.out; clear HA
   simp only [laws_toStringS.l0] at H
   by_cases c6 : x4_1 < (l0.length : Int)
   ·rw [if_pos c6] at H; have c6b0 := decide_eq_true c6; clear c6
    replace H := it H; obtain ⟨c7b0, H⟩ := H
    replace H := it H; obtain ⟨c8b0, H⟩ := H; obtain ⟨y194, hy194⟩ : ∃ y_ : List ByteArray, y_ = (x3_1.set (x4_1 : Int).toNat (rdOf ByteArray.empty l0 x4_1)) := ⟨_, rfl⟩
    replace H : (laws_toStringS.l0 k1 l0 y194 (wrap64 (x4_1 + 1))) = some r := by first | (rw [hy194]; with_reducible exact H) | (have H2_ := bm H; rw [hy194]; with_reducible exact H2_) | (with_reducible exact bm H) | with_reducible exact H | (rw [hy194]; exact H) | exact H
    have Ny194 := am hy194; clear hy194
    have H' := am H
    clear H
    have p193 : 0 ≤ (x4_1 : Int) := of_decide_eq_true ad
    have q193 : x4_1 < (l0.length : Int) := of_decide_eq_true ad
    obtain ⟨ad193, e193, hx193_0⟩ := Kd.at_string HR0.out x4_1 p193 q193
    cases e193
    replace hx193_0 := kp HB.out hx193_0; replace p193 := eq_true p193; replace q193 := eq_true q193
    have p9 : 0 ≤ (x4_1 : Int) := of_decide_eq_true ad
    have q9 : (x4_1 : Int) < ((x3_1.length : Int) : Int) := of_decide_eq_true ad
    obtain ⟨go9, co9, eo9, gb9, gl9, cl9, HG9⟩ := Kd.R_form HO_3.out (by omega)
    (first | cases eo9 | (injection eo9 with ea_ en_ ec_; (first | subst ea_ | (injection ea_ with ea_; subst ea_)); subst ec_; clear en_))
    have GB9 := Aside0.mk gb9; have GG9 := am HG9; clear gb9 gl9 HG9; obtain ⟨hx9_0, hf9_0⟩ := Kd.R_celln (⟨#[]⟩ : ByteArray) HO_3.out (x4_1 : Int) p9 q9; replace p9 := eq_true p9; replace q9 := eq_true q9; have HP10 := Kd.R_putg HO_3.out (x4_1 : Int) (rdOf ByteArray.empty l0 x4_1)
    go_wp2_with (first | ((with_reducible refine gate_store (t := 9) (p := 20) rfl ?_); refine store_event (t := 9) (p := 20) (v := ?vo_w11) (w1 := (wr.setCell ⟨go9, (x4_1 : Int).toNat, none⟩ (.string (rdOf ByteArray.empty l0 x4_1)))) ?hg ?ho ?hn ?hr ?_; (case ho => rfl); (case hg => rfl); (case hn => rfl); (case hr => first | (go_simp; done) | (go_simp; rfl)); intro w11 hw; have hg : wr.grownBy w11 (some go9) := (by rw [hw]; exact HP10.2); have hp_ : Kd.R Kd.string 9 w11 w.heap.size (fun _ => True) (.slice (some ⟨go9, 0, none⟩) x3_1.length co9) y194 := (by rw [hw, Ny194.out]; exact HP10.1); clear HP10; replace HO_3 := am (hp_); replace HB := am ((by rw [hw]; exact below_set (HB.out) GB9.out : Below w.heap.size w w11)); clear hg hw hp_))
    go_roundg k1
    case measure => have := HK1.out; omega
    case rel => exact ⟨(y194), (wrap64 (x4_1 + 1)), sq, H', ⟨b22_⟩, ⟨rq HO_3.out⟩, ⟨bel⟩⟩
   rw [if_neg c6] at H; have c6b0 := decide_eq_false c6; clear c6; obtain rfl := Option.some.inj H; go_wp2; go_ret
   exact ⟨_, eq_, by (with_reducible repeat (first | apply Kd.R_alloc | apply Kd.R_drewN | apply Kd.R_drew)); exact HO_3.out, bel⟩

/-! ### impl_within: function 81 -/
def impl_within.f (a0 : Int) (a1 : Int) (a2 : Int) : Option (Bool) := if a0 ≥ a1 then (some (decide (a0 ≤ a2))) else (some false)
theorem impl_within.calls (a0 : Int) (a1 : Int) (a2 : Int) (r : Bool) (w : World) (h : impl_within.f a0 a1 a2 = some r) :
  Calls Try.prog 81 #[.int .i64 a0, .int .i64 a1, .int .i64 a2] w fun e w' => e = .returned (.bool r) ∧ Drawn0 w w' := by
 have H : (if a0 ≥ a1 then (some (decide (a0 ≤ a2))) else (some false)) = some r := h
 clear h
 by_cases c4 : a0 ≥ a1
 ·rw [if_pos c4] at H; have c4b0 := decide_eq_true c4; clear c4; obtain rfl := Option.some.inj H; go_enter Try.func81, Try.ntmps81; go_wp2; go_ret
  exact ⟨sq, dr⟩
 rw [if_neg c4] at H; have c4b0 := decide_eq_false c4; clear c4; obtain rfl := Option.some.inj H; go_enter Try.func81, Try.ntmps81; go_wp2; go_ret
 exact ⟨sq, dr⟩

/-! ### impl_lower: function 105 -/
def impl_lower.l0 : Nat → ByteArray → Int → Int → Option (Bool)
 | 0, _, _, _ => none
 | k + 1, x0, x5, x6 => if x6 < x5 then (if 0 ≤ x6 then (if x6 < (x0.size : Int) then (if (bt x0 x6) < 97 then (some false) else (if (bt x0 x6) > 122 then (some false) else (impl_lower.l0 k x0 x5 (wrap64 (x6 + 1))))) else (none)) else (none)) else (some true)
def impl_lower.f (k : Nat) (a0 : ByteArray) : Option (Bool) := impl_lower.l0 k a0 (a0.size : Int) 0
theorem impl_lower.calls (k : Nat) (a0 : ByteArray) (r : Bool) (w : World) (h : impl_lower.f k a0 = some r) :
  Calls Try.prog 105 #[.string a0] w fun e w' => e = .returned (.bool r) ∧ Drawn0 w w' := by
 have H : (impl_lower.l0 k a0 (a0.size : Int) 0) = some r := h
 clear h
 have H' := am H
 clear H; go_enter Try.func105, Try.ntmps105; go_wp2
 go_loopg [6] k (fun kq v6 w' => ∃ (x6_1 : Int), v6 = .int .i64 x6_1 ∧ Aside0 (impl_lower.l0 kq a0 (a0.size : Int) x6_1 = some r) ∧ Aside0 (kq ≤ k) ∧ Drawn0 w w')
 case atStart => exact ⟨(0), sq, H', ⟨Nat.le_refl _⟩, dr⟩
 case round =>
  clear H'; (try clear c1); obtain ⟨x6_1, rfl, HA, HK1, ⟨m1, rfl⟩⟩ := hrel
  cases gk with
  | zero => exact absurd HA.out (by simp [impl_lower.l0])
  | succ k1 =>
   have H := HA.out; clear HA
   simp only [impl_lower.l0] at H
   by_cases c2 : x6_1 < (a0.size : Int)
   ·rw [if_pos c2] at H; have c2b0 := decide_eq_true c2; clear c2
    replace H := it H; obtain ⟨c3b0, H⟩ := H
    replace H := it H; obtain ⟨c4b0, H⟩ := H
    by_cases c6 : (bt a0 x6_1) < 97
    ·rw [if_pos c6] at H; have c6b0 := decide_eq_true c6; clear c6; obtain rfl := Option.some.inj H
     have p5 : 0 ≤ (x6_1 : Int) := of_decide_eq_true ad
     have q5 : x6_1 < (a0.size : Int) := of_decide_eq_true ad
     have hx5 := bt_at a0 x6_1; replace p5 := eq_true p5; replace q5 := eq_true q5; go_wp2; go_ret
     exact ⟨sq, dr⟩
    rw [if_neg c6] at H; have c6b0 := decide_eq_false c6; clear c6
    by_cases c8 : (bt a0 x6_1) > 122
    ·rw [if_pos c8] at H; have c8b0 := decide_eq_true c8; clear c8; obtain rfl := Option.some.inj H
     have p5 : 0 ≤ (x6_1 : Int) := of_decide_eq_true ad
     have q5 : x6_1 < (a0.size : Int) := of_decide_eq_true ad
     have hx5 := bt_at a0 x6_1; replace p5 := eq_true p5; replace q5 := eq_true q5
     have p7 : 0 ≤ (x6_1 : Int) := of_decide_eq_true ad
     have q7 : x6_1 < (a0.size : Int) := of_decide_eq_true ad
     have hx7 := bt_at a0 x6_1; replace p7 := eq_true p7; replace q7 := eq_true q7; go_wp2; go_ret
     exact ⟨sq, dr⟩
    rw [if_neg c8] at H; have c8b0 := decide_eq_false c8; clear c8
    have H' := am H
    clear H
    have p5 : 0 ≤ (x6_1 : Int) := of_decide_eq_true ad
    have q5 : x6_1 < (a0.size : Int) := of_decide_eq_true ad
    have hx5 := bt_at a0 x6_1; replace p5 := eq_true p5; replace q5 := eq_true q5
    have p7 : 0 ≤ (x6_1 : Int) := of_decide_eq_true ad
    have q7 : x6_1 < (a0.size : Int) := of_decide_eq_true ad
    have hx7 := bt_at a0 x6_1; replace p7 := eq_true p7; replace q7 := eq_true q7; go_wp2
    go_roundg k1
    case measure => have := HK1.out; omega
    case rel => exact ⟨(wrap64 (x6_1 + 1)), sq, H', ⟨b22_⟩, dr⟩
   rw [if_neg c2] at H; have c2b0 := decide_eq_false c2; clear c2; obtain rfl := Option.some.inj H; go_wp2; go_ret
   exact ⟨sq, dr⟩

/-! ### impl_WordOk: function 60 -/
def impl_WordOk.f (k : Nat) (a0 : ByteArray) : Option (Bool) := (impl_within.f (a0.size : Int) 1 12).bind fun t195 => (if t195 = true then ((impl_lower.f k a0).bind fun t196 => (some t196)) else (some false))
theorem impl_WordOk.calls (k : Nat) (a0 : ByteArray) (r : Bool) (w : World) (h : impl_WordOk.f k a0 = some r) :
  Calls Try.prog 60 #[.string a0] w fun e w' => e = .returned (.bool r) ∧ Drawn0 w w' := by
 have H : ((impl_within.f (a0.size : Int) 1 12).bind fun t195 => (if t195 = true then ((impl_lower.f k a0).bind fun t196 => (some t196)) else (some false))) = some r := h
 clear h; replace H := bs H; obtain ⟨t195, A20, H⟩ := H; replace H : (if t195 = true then ((impl_lower.f k a0).bind fun t196 => (some t196)) else (some false)) = some r := H; have A2 := Aside0.mk A20; clear A20
 by_cases c3 : t195 = true
 ·subst c3
  have H1 : ((impl_lower.f k a0).bind fun t196 => (some t196)) = some r := b16_
  replace H := H1; clear H1
  replace H := bs H; obtain ⟨t196, A40, H⟩ := H; replace H : (some t196) = some r := H; have A4 := Aside0.mk A40; clear A40; obtain rfl := Option.some.inj H; go_enter Try.func60, Try.ntmps60
  go_wp2_with (first | ((with_reducible refine gate_callee (f := 81) rfl ?_); refine goesL_ (some 5) rfl rfl Try.func81 (by kernel_rfl) rfl #[.int .i64 (a0.size : Int), .int .i64 1, .int .i64 12] rfl mq ?_; (with_reducible refine (impl_within.calls (a0.size : Int) 1 12 true _ A2.out).mono ?_); rintro e w' ⟨rfl, ⟨nd, rfl⟩⟩; refine ⟨_, rfl, ?_⟩) | (go_at_call 105; (with_reducible refine (impl_lower.calls k a0 t196 _ A4.out).mono ?_); rintro e w' ⟨rfl, ⟨nd, rfl⟩⟩))
  go_ret
  exact ⟨sq, dr⟩
 replace c3 := Bool.eq_false_iff.mpr c3; subst c3
 have H1 : (some false) = some r := b5_
 replace H := H1; clear H1
 obtain rfl := Option.some.inj H; go_enter Try.func60, Try.ntmps60
 go_wp2_with (first | ((with_reducible refine gate_callee (f := 81) rfl ?_); refine goesL_ (some 5) rfl rfl Try.func81 (by kernel_rfl) rfl #[.int .i64 (a0.size : Int), .int .i64 1, .int .i64 12] rfl mq ?_; (with_reducible refine (impl_within.calls (a0.size : Int) 1 12 false _ A2.out).mono ?_); rintro e w' ⟨rfl, ⟨nd, rfl⟩⟩; refine ⟨_, rfl, ?_⟩))
 go_ret
 exact ⟨sq, dr⟩

/-! ### impl_wordsOk: function 59 -/
def impl_wordsOk.l0 : Nat → List ByteArray → Int → List ByteArray → Int → Int → Option (Bool)
 | 0, _, _, _, _, _ => none
 | k + 1, x0, x1, x7, x8, x9 => if x9 < x8 then (if 0 ≤ x9 then (if x9 < (x7.length : Int) then ((impl_WordOk.f k (rdOf ByteArray.empty x7 x9)).bind fun t198 => (if t198 = true then (if x9 > 0 then (if 0 ≤ (wrap64 (x9 - 1)) then (if (wrap64 (x9 - 1)) < (x0.length : Int) then (if ((Op.bytesLess ((rdOf ByteArray.empty x0 (wrap64 (x9 - 1))).toList) ((rdOf ByteArray.empty x7 x9).toList)) = true) then (impl_wordsOk.l0 k x0 x1 x7 x8 (wrap64 (x9 + 1))) else (some false)) else (none)) else (none)) else (impl_wordsOk.l0 k x0 x1 x7 x8 (wrap64 (x9 + 1)))) else (some false))) else (none)) else (none)) else (some (decide ((x0.length : Int) ≤ x1)))
def impl_wordsOk.f (k : Nat) (l0 : List ByteArray) (a1 : Int) : Option (Bool) := impl_wordsOk.l0 k l0 a1 l0 (l0.length : Int) 0
theorem impl_wordsOk.calls (k : Nat) (A0 : Option Addr) (c0 : Nat) (l0 : List ByteArray) (a1 : Int) (r : Bool) (w : World) (hr0 : Kd.C Kd.string w A0 l0.length l0) (hc0 : l0.length ≤ c0) (h : impl_wordsOk.f k l0 a1 = some r) :
  Calls Try.prog 59 #[.slice A0 l0.length c0, .int .i64 a1] w fun e w' => e = .returned (.bool r) ∧ Drawn0 w w' := by
 have HR0 := am hr0; have HC0 := am hc0; clear hr0 hc0
 have H : (impl_wordsOk.l0 k l0 a1 l0 (l0.length : Int) 0) = some r := h
 clear h
 have H' := am H
 clear H; go_enter Try.func59, Try.ntmps59; go_wp2
 go_loopg [9] k (fun kq v9 w' => ∃ (x9_1 : Int), v9 = .int .i64 x9_1 ∧ Aside0 (impl_wordsOk.l0 kq l0 a1 l0 (l0.length : Int) x9_1 = some r) ∧ Aside0 (kq ≤ k) ∧ Drawn0 w w')
 case atStart => exact ⟨(0), sq, H', ⟨Nat.le_refl _⟩, dr⟩
 case round =>
  clear H'; (try clear p2); obtain ⟨x9_1, rfl, HA, HK1, ⟨m1, rfl⟩⟩ := hrel
  cases gk with
  | zero => exact absurd HA.out (by simp [impl_wordsOk.l0])
  | succ k1 =>
   have H := HA.out; clear HA
   simp only [impl_wordsOk.l0] at H
   by_cases c3 : x9_1 < (l0.length : Int)
   ·rw [if_pos c3] at H; have c3b0 := decide_eq_true c3; clear c3
    replace H := it H; obtain ⟨c4b0, H⟩ := H
    replace H := it H; obtain ⟨c5b0, H⟩ := H; replace H := bs H; obtain ⟨t198, A60, H⟩ := H; replace H : (if t198 = true then (if x9_1 > 0 then (if 0 ≤ (wrap64 (x9_1 - 1)) then (if (wrap64 (x9_1 - 1)) < (l0.length : Int) then (if ((Op.bytesLess ((rdOf ByteArray.empty l0 (wrap64 (x9_1 - 1))).toList) ((rdOf ByteArray.empty l0 x9_1).toList)) = true) then (impl_wordsOk.l0 k1 l0 a1 l0 (l0.length : Int) (wrap64 (x9_1 + 1))) else (some false)) else (none)) else (none)) else (impl_wordsOk.l0 k1 l0 a1 l0 (l0.length : Int) (wrap64 (x9_1 + 1)))) else (some false)) = some r := H; have A6 := Aside0.mk A60; clear A60
    by_cases c7 : t198 = true
    ·subst c7
     have H1 : (if x9_1 > 0 then (if 0 ≤ (wrap64 (x9_1 - 1)) then (if (wrap64 (x9_1 - 1)) < (l0.length : Int) then (if ((Op.bytesLess ((rdOf ByteArray.empty l0 (wrap64 (x9_1 - 1))).toList) ((rdOf ByteArray.empty l0 x9_1).toList)) = true) then (impl_wordsOk.l0 k1 l0 a1 l0 (l0.length : Int) (wrap64 (x9_1 + 1))) else (some false)) else (none)) else (none)) else (impl_wordsOk.l0 k1 l0 a1 l0 (l0.length : Int) (wrap64 (x9_1 + 1)))) = some r := b16_
     replace H := H1; clear H1
     by_cases c8 : x9_1 > 0
     ·rw [if_pos c8] at H; have c8b0 := decide_eq_true c8; clear c8; obtain ⟨ji9, hji9⟩ : ∃ j_ : Int, (wrap64 (x9_1 - 1)) = j_ := ⟨_, rfl⟩
      replace H : (if 0 ≤ (ji9) then (if (ji9) < (l0.length : Int) then (if ((Op.bytesLess ((rdOf ByteArray.empty l0 (ji9)).toList) ((rdOf ByteArray.empty l0 x9_1).toList)) = true) then (impl_wordsOk.l0 k1 l0 a1 l0 (l0.length : Int) (wrap64 (x9_1 + 1))) else (some false)) else (none)) else (none)) = some r := by first | (rw [hji9] at H; exact H) | (simp only [hji9] at H ⊢; exact H)
      (try rw [hji9] at A6)
      have hji9w : (IntKind.i64.wrap (x9_1 - 1)) = ji9 := (i64_w _).trans hji9
      replace H := it H; obtain ⟨c10b0, H⟩ := H
      replace H := it H; obtain ⟨c11b0, H⟩ := H
      by_cases c12 : ((Op.bytesLess ((rdOf ByteArray.empty l0 (ji9)).toList) ((rdOf ByteArray.empty l0 x9_1).toList)) = true)
      ·rw [if_pos c12] at H
       have c12b0 : (Op.bytesLess ((rdOf ByteArray.empty l0 (ji9)).toList) ((rdOf ByteArray.empty l0 x9_1).toList)) = true := c12
       clear c12
       have H' := am H
       clear H
       have p197 : 0 ≤ (x9_1 : Int) := of_decide_eq_true ad
       have q197 : x9_1 < (l0.length : Int) := of_decide_eq_true ad
       obtain ⟨ad197, e197, hx197_0⟩ := Kd.at_string HR0.out x9_1 p197 q197
       cases e197
       replace p197 := eq_true p197; replace q197 := eq_true q197
       go_wp2_with (first | ((with_reducible refine gate_callee (f := 60) rfl ?_); refine goesL_ (some 15) rfl rfl Try.func60 (by kernel_rfl) rfl #[.string (rdOf ByteArray.empty l0 x9_1)] rfl mq ?_; (with_reducible refine (impl_WordOk.calls k1 (rdOf ByteArray.empty l0 x9_1) true _ A6.out).mono ?_); rintro e w' ⟨rfl, ⟨nd, rfl⟩⟩; refine ⟨_, rfl, ?_⟩; have p199 : 0 ≤ ((ji9) : Int) := of_decide_eq_true ad; have q199 : (ji9) < (l0.length : Int) := of_decide_eq_true ad; obtain ⟨ad199, e199, hx199_0⟩ := Kd.at_string HR0.out (ji9) p199 q199; obtain rfl : ad197 = ad199 := (by injection e199); replace p199 := eq_true p199; replace q199 := eq_true q199))
       go_roundg k1
       case measure => have := HK1.out; omega
       case rel => exact ⟨(wrap64 (x9_1 + 1)), sq, H', ⟨b22_⟩, dr⟩
      rw [if_neg c12] at H
      have c12b0 : (Op.bytesLess ((rdOf ByteArray.empty l0 (ji9)).toList) ((rdOf ByteArray.empty l0 x9_1).toList)) = false := by simpa using c12
      clear c12; obtain rfl := Option.some.inj H
      have p197 : 0 ≤ (x9_1 : Int) := of_decide_eq_true ad
      have q197 : x9_1 < (l0.length : Int) := of_decide_eq_true ad
      obtain ⟨ad197, e197, hx197_0⟩ := Kd.at_string HR0.out x9_1 p197 q197
      cases e197
      replace p197 := eq_true p197; replace q197 := eq_true q197
      go_wp2_with (first | ((with_reducible refine gate_callee (f := 60) rfl ?_); refine goesL_ (some 15) rfl rfl Try.func60 (by kernel_rfl) rfl #[.string (rdOf ByteArray.empty l0 x9_1)] rfl mq ?_; (with_reducible refine (impl_WordOk.calls k1 (rdOf ByteArray.empty l0 x9_1) true _ A6.out).mono ?_); rintro e w' ⟨rfl, ⟨nd, rfl⟩⟩; refine ⟨_, rfl, ?_⟩; have p199 : 0 ≤ ((ji9) : Int) := of_decide_eq_true ad; have q199 : (ji9) < (l0.length : Int) := of_decide_eq_true ad; obtain ⟨ad199, e199, hx199_0⟩ := Kd.at_string HR0.out (ji9) p199 q199; obtain rfl : ad197 = ad199 := (by injection e199); replace p199 := eq_true p199; replace q199 := eq_true q199))
      go_ret
      exact ⟨by first | rfl | (simp; done) | (simp only [← hji9] <;> (first | rfl | simp)) | (simp [*]; done), dr⟩
     rw [if_neg c8] at H; have c8b0 := decide_eq_false c8; clear c8
     have H' := am H
     clear H
     have p197 : 0 ≤ (x9_1 : Int) := of_decide_eq_true ad
     have q197 : x9_1 < (l0.length : Int) := of_decide_eq_true ad
     obtain ⟨ad197, e197, hx197_0⟩ := Kd.at_string HR0.out x9_1 p197 q197
     cases e197
     replace p197 := eq_true p197; replace q197 := eq_true q197
     go_wp2_with (first | ((with_reducible refine gate_callee (f := 60) rfl ?_); refine goesL_ (some 15) rfl rfl Try.func60 (by kernel_rfl) rfl #[.string (rdOf ByteArray.empty l0 x9_1)] rfl mq ?_; (with_reducible refine (impl_WordOk.calls k1 (rdOf ByteArray.empty l0 x9_1) true _ A6.out).mono ?_); rintro e w' ⟨rfl, ⟨nd, rfl⟩⟩; refine ⟨_, rfl, ?_⟩))
     go_roundg k1
     case measure => have := HK1.out; omega
     case rel => exact ⟨(wrap64 (x9_1 + 1)), sq, H', ⟨b22_⟩, dr⟩
    replace c7 := Bool.eq_false_iff.mpr c7; subst c7
    have H1 : (some false) = some r := b5_
    replace H := H1; clear H1
    obtain rfl := Option.some.inj H
    have p197 : 0 ≤ (x9_1 : Int) := of_decide_eq_true ad
    have q197 : x9_1 < (l0.length : Int) := of_decide_eq_true ad
    obtain ⟨ad197, e197, hx197_0⟩ := Kd.at_string HR0.out x9_1 p197 q197
    cases e197
    replace p197 := eq_true p197; replace q197 := eq_true q197
    go_wp2_with (first | ((with_reducible refine gate_callee (f := 60) rfl ?_); refine goesL_ (some 15) rfl rfl Try.func60 (by kernel_rfl) rfl #[.string (rdOf ByteArray.empty l0 x9_1)] rfl mq ?_; (with_reducible refine (impl_WordOk.calls k1 (rdOf ByteArray.empty l0 x9_1) false _ A6.out).mono ?_); rintro e w' ⟨rfl, ⟨nd, rfl⟩⟩; refine ⟨_, rfl, ?_⟩))
    go_ret
    exact ⟨sq, dr⟩
   rw [if_neg c3] at H; have c3b0 := decide_eq_false c3; clear c3; obtain rfl := Option.some.inj H; go_wp2; go_ret
   exact ⟨sq, dr⟩
end Go.Proofs.Ytfpmfaelodfecaa.QFnExactGuesses

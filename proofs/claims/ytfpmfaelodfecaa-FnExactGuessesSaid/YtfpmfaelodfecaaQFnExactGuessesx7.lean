import Derived.Test.YtfpmfaelodfecaaQFnExactGuessesx0
import Derived.Test.YtfpmfaelodfecaaQFnExactGuessesx4
import Derived.Test.YtfpmfaelodfecaaQFnExactGuessesx5
import Derived.Test.YtfpmfaelodfecaaQFnExactGuessesx6
import Derived.Test.YtfpmfaelodfecaaVMSh2
namespace Go.Proofs.Ytfpmfaelodfecaa.QFnExactGuesses
open Go.RowKit Go.Proofs.YtfpmfaelodfecaaW.PrintWords Go.Proofs.YtfpmfaelodfecaaW.PrintLast Go.Proofs.YtfpmfaelodfecaaW.PrintMore Go.Proofs.Ytfpmfaelodfecaa.Sh
attribute [local go_sem] max2_int min2_int max_two min_two max_three min_three max_four min_four   -- for this text's walks alone
set_option linter.unusedVariables false
set_option linter.unusedSimpArgs false
-- shrunk

/-! ### impl_guesses: function 61 -/
def impl_guesses.l0 : Nat → ByteArray → Int → List (S36) → List ByteArray → Int → Int → Option ((List (S36)))
 | 0, _, _, _, _, _, _ => none
 | k + 1, x1, x2, x7, x11, x12, x13 => if x13 < x12 then (if 0 ≤ x13 then (if x13 < (x11.length : Int) then ((impl_Within.f k (rdOf ByteArray.empty x11 x13) x1 x2).bind fun t261 => (if t261 = true then ((impl_Far.f k (rdOf ByteArray.empty x11 x13) x1).bind fun t262 => (if x7.length < 5864062014805 then (impl_guesses.l0 k x1 x2 (x7 ++ [(⟨rdOf ByteArray.empty x11 x13, t262⟩ : S36)]) x11 x12 (wrap64 (x13 + 1))) else (none))) else (impl_guesses.l0 k x1 x2 x7 x11 x12 (wrap64 (x13 + 1))))) else (none)) else (none)) else ((impl_Guess.f x7).bind fun t249 => ((some (([] : List (S36)) : List (S36))).bind fun y250 => (if 0 ≤ (mn (x7.length : Int) 10) then (if (mn (x7.length : Int) 10) ≤ (x7.length : Int) then ((some (t249.take ((mn (x7.length : Int) 10) : Int).toNat : List (S36))).bind fun y253 => (if y250.length + y253.length < 5864062014805 then (some (y250 ++ y253)) else (none))) else (none)) else (none))))
def impl_guesses.f (k : Nat) (l0 : List ByteArray) (a1 : ByteArray) (a2 : Int) : Option ((List (S36))) := impl_guesses.l0 k a1 a2 (([] : List (S36))) l0 (l0.length : Int) 0
set_option maxHeartbeats 8000000 in
set_option maxRecDepth 100000 in
theorem impl_guesses.calls (k : Nat) (A0 : Option Addr) (c0 : Nat) (l0 : List ByteArray) (a1 : ByteArray) (a2 : Int) (r : List (S36)) (w : World) (hr0 : Kd.C Kd.string w A0 l0.length l0) (hc0 : l0.length ≤ c0) (h : impl_guesses.f k l0 a1 a2 = some r) :
  Calls Try.prog 61 #[.slice A0 l0.length c0, .string a1, .int .i64 a2] w fun e w' => ∃ v0_ : Value, e = .returned (v0_) ∧ Kd.R k36 36 w' w.heap.size (fun _ => True) v0_ r ∧ Below w.heap.size w w' := by
 have hu36 := Try.underlying36; have HR0 := am hr0; have HC0 := am hc0; clear hr0 hc0; have HB := am (Below.refl w.heap.size w)
 have H : (impl_guesses.l0 k a1 a2 (([] : List (S36))) l0 (l0.length : Int) 0) = some r := h
 clear h; obtain ⟨y246, hy246⟩ : ∃ y_ : List (S36), y_ = (([] : List (S36))) := ⟨_, rfl⟩
 replace H : (impl_guesses.l0 k a1 a2 y246 l0 (l0.length : Int) 0) = some r := by first | (rw [hy246]; with_reducible exact H) | (have H2_ := (Option.bind_some _ _).symm.trans H; rw [hy246]; with_reducible exact H2_) | (have H2_ := (Option.bind_some _ _).symm.trans H; with_reducible exact H2_) | with_reducible exact H | (rw [hy246]; exact H) | exact H
 have Ny246 := am hy246; clear hy246
 have H' := am H
 clear H; go_enter Try.func61, Try.ntmps61
 go_wp2_with (first | ((with_reducible refine gate_dst (N := 10) rfl ?_); refine Kd.R_lit k36 _ 36 ?hg (N := 10) ?hd (xs := ([] : List (S36))) (inner := []) (ok := fun _ => True) (okp := fun _ => True) ?hr ?hp (fun _ hk => hk) trivial (Below.refl _ _) (Nat.le_refl _) (by simp) ?_; (case hd => rfl); (case hg => rfl); (case hr => first | (go_simp; done) | (go_simp; rfl)); (case hp => exact (Reps.none _ _)); intro v247 w4 ho5 hb hg_ hnew_; clear hg_ hnew_; (first | rw [← Ny246.out] at ho5 | (simp only [Int.reduceToNat] at ho5; rw [← Ny246.out] at ho5) | (simp only [Int.toNat_natCast] at ho5; rw [← Ny246.out] at ho5)); have HO248 := am (Kd.R_lower ho5 (below_size bel)); replace HB := am (below_step bel hb); clear hb ho5))
 go_loopg [7, 13] k (fun kq v7 v13 w' => ∃ (x7_1 : List (S36)) (x13_1 : Int), v13 = .int .i64 x13_1 ∧ Aside0 (impl_guesses.l0 kq a1 a2 x7_1 l0 (l0.length : Int) x13_1 = some r) ∧ Aside0 (kq ≤ k) ∧ Aside0 (Kd.R k36 36 w' w.heap.size (fun _ => True) v7 x7_1) ∧ Aside0 (Below w.heap.size w w'))
 case atStart => exact ⟨(y246), (0), sq, H', ⟨Nat.le_refl _⟩, ⟨rq HO248.out⟩, ⟨bel⟩⟩
 case round =>
  clear H'; (try clear p2); obtain ⟨x7_1, x13_1, rfl, HA, HK1, HO_7, HB⟩ := hrel
  cases gk with
  | zero => exact absurd HA.out (by simp [impl_guesses.l0])
  | succ k1 =>
   have H := HA.out; clear HA
   simp only [impl_guesses.l0] at H
   by_cases c6 : x13_1 < (l0.length : Int)
   ·rw [if_pos c6] at H; have c6b0 := decide_eq_true c6; clear c6
    by_cases c7 : 0 ≤ x13_1
    ·rw [if_pos c7] at H; have c7b0 := decide_eq_true c7; clear c7
     by_cases c8 : x13_1 < (l0.length : Int)
     ·rw [if_pos c8] at H; have c8b0 := decide_eq_true c8; clear c8; replace H := Option.bind_eq_some_iff.mp H; obtain ⟨t261, A90, H⟩ := H; replace H : (if t261 = true then ((impl_Far.f k1 (rdOf ByteArray.empty l0 x13_1) a1).bind fun t262 => (if x7_1.length < 5864062014805 then (impl_guesses.l0 k1 a1 a2 (x7_1 ++ [(⟨rdOf ByteArray.empty l0 x13_1, t262⟩ : S36)]) l0 (l0.length : Int) (wrap64 (x13_1 + 1))) else (none))) else (impl_guesses.l0 k1 a1 a2 x7_1 l0 (l0.length : Int) (wrap64 (x13_1 + 1)))) = some r := H; have A9 := Aside0.mk A90; clear A90
      by_cases c10 : t261 = true
      ·subst c10
       have H1 : ((impl_Far.f k1 (rdOf ByteArray.empty l0 x13_1) a1).bind fun t262 => (if x7_1.length < 5864062014805 then (impl_guesses.l0 k1 a1 a2 (x7_1 ++ [(⟨rdOf ByteArray.empty l0 x13_1, t262⟩ : S36)]) l0 (l0.length : Int) (wrap64 (x13_1 + 1))) else (none))) = some r := b16_
       replace H := H1; clear H1
       replace H := Option.bind_eq_some_iff.mp H; obtain ⟨t262, A110, H⟩ := H; replace H : (if x7_1.length < 5864062014805 then (impl_guesses.l0 k1 a1 a2 (x7_1 ++ [(⟨rdOf ByteArray.empty l0 x13_1, t262⟩ : S36)]) l0 (l0.length : Int) (wrap64 (x13_1 + 1))) else (none)) = some r := H; have A11 := Aside0.mk A110; clear A110
       by_cases c12 : x7_1.length < 5864062014805
       ·rw [if_pos c12] at H; have LMc12 := Aside0.mk c12; clear c12; obtain ⟨y263, hy263⟩ : ∃ y_ : List (S36), y_ = (x7_1 ++ [(⟨rdOf ByteArray.empty l0 x13_1, t262⟩ : S36)]) := ⟨_, rfl⟩
        replace H : (impl_guesses.l0 k1 a1 a2 y263 l0 (l0.length : Int) (wrap64 (x13_1 + 1))) = some r := by first | (rw [hy263]; with_reducible exact H) | (have H2_ := (Option.bind_some _ _).symm.trans H; rw [hy263]; with_reducible exact H2_) | (have H2_ := (Option.bind_some _ _).symm.trans H; with_reducible exact H2_) | with_reducible exact H | (rw [hy263]; exact H) | exact H
        have Ny263 := am hy263; clear hy263
        have H' := am H
        clear H
        have p260 : 0 ≤ (x13_1 : Int) := of_decide_eq_true ad
        have q260 : x13_1 < (l0.length : Int) := of_decide_eq_true ad
        obtain ⟨ad260, e260, hx260_0⟩ := Kd.at_string HR0.out x13_1 p260 q260
        cases e260
        replace hx260_0 := kp HB.out hx260_0; replace p260 := eq_true p260; replace q260 := eq_true q260
        go_wp2_with (first | ((with_reducible refine gate_callee (f := 106) rfl ?_); refine goesL_ (some 20) rfl rfl Try.func106 (by kernel_rfl) rfl #[.string (rdOf ByteArray.empty l0 x13_1), .string a1, .int .i64 a2] rfl mq ?_; (with_reducible refine (impl_Within.calls k1 (rdOf ByteArray.empty l0 x13_1) a1 a2 true _ A9.out).mono ?_); rintro e w13 ⟨rfl, hb⟩; refine ⟨_, rfl, ?_⟩; replace HO_7 := am (Kd.R_below (rq HO_7.out) hb); replace HB := am (below_step bel hb); (try clear hb); (try clear hb2); (try clear hk); (try clear hi)) | ((with_reducible refine gate_callee (f := 23) rfl ?_); refine goesL_ (some 25) rfl rfl Try.func23 (by kernel_rfl) rfl #[.string (rdOf ByteArray.empty l0 x13_1), .string a1] rfl mq ?_; (with_reducible refine (impl_Far.calls k1 (rdOf ByteArray.empty l0 x13_1) a1 t262 _ A11.out).mono ?_); rintro e w14 ⟨rfl, hb⟩; refine ⟨_, rfl, ?_⟩; replace HO_7 := am (Kd.R_below (rq HO_7.out) hb); replace HB := am (below_step bel hb); (try clear hb); (try clear hb2); (try clear hk); (try clear hi)) | ((with_reducible refine gate_builtin (b := .append) (xs := #[.tmp 21, .tmp 27]) rfl ?_); at_builtin; refine Kd.R_append k36 (w0 := w) w.heap.size rfl (.tmp 21) (.tmp 27) 24 36 (.agg #[(.string ⟨#[]⟩), (.int .i64 0)]) 24 rfl Try.underlying24 info36 rfl (by decide) (by omega) u7 x7_1 (⟨rdOf ByteArray.empty l0 x13_1, t262⟩ : S36) [.string (rdOf ByteArray.empty l0 x13_1), .int .i64 t262] (fun _ => True) (fun _ => False) rfl rfl ?aP (fun _ hk => hk.elim) ?aF ?aO ?aB ?aS ?aL ?_; (case aP => exact k36_mkM _ _ _ (⟨rdOf ByteArray.empty l0 x13_1, t262⟩ : S36)); (case aB => exact bel); (case aF => exact (fun _ _ => trivial)); (case aO => exact (rq HO_7.out)); (case aS => exact (below_size bel)); (case aL => have := LMc12.out; omega); intro v264 w15 ho hb hg hat; rw [← Ny263.out] at ho; replace HB := am (hb); have HO265 := am (ho); clear HO_7; clear ho hb hg hat))
        go_roundg k1
        case measure => have := HK1.out; omega
        case rel => exact ⟨(y263), (wrap64 (x13_1 + 1)), sq, H', ⟨b22_⟩, ⟨rq HO265.out⟩, ⟨bel⟩⟩
       ·rw [if_neg c12] at H
        exact absurd H (by simp)
      ·replace c10 := Bool.eq_false_iff.mpr c10; subst c10
       have H1 : (impl_guesses.l0 k1 a1 a2 x7_1 l0 (l0.length : Int) (wrap64 (x13_1 + 1))) = some r := b5_
       replace H := H1; clear H1
       have H' := am H
       clear H
       have p260 : 0 ≤ (x13_1 : Int) := of_decide_eq_true ad
       have q260 : x13_1 < (l0.length : Int) := of_decide_eq_true ad
       obtain ⟨ad260, e260, hx260_0⟩ := Kd.at_string HR0.out x13_1 p260 q260
       cases e260
       replace hx260_0 := kp HB.out hx260_0; replace p260 := eq_true p260; replace q260 := eq_true q260
       go_wp2_with (first | ((with_reducible refine gate_callee (f := 106) rfl ?_); refine goesL_ (some 20) rfl rfl Try.func106 (by kernel_rfl) rfl #[.string (rdOf ByteArray.empty l0 x13_1), .string a1, .int .i64 a2] rfl mq ?_; (with_reducible refine (impl_Within.calls k1 (rdOf ByteArray.empty l0 x13_1) a1 a2 false _ A9.out).mono ?_); rintro e w16 ⟨rfl, hb⟩; refine ⟨_, rfl, ?_⟩; replace HO_7 := am (Kd.R_below (rq HO_7.out) hb); replace HB := am (below_step bel hb); (try clear hb); (try clear hb2); (try clear hk); (try clear hi)))
       go_roundg k1
       case measure => have := HK1.out; omega
       case rel => exact ⟨(x7_1), (wrap64 (x13_1 + 1)), sq, H', ⟨b22_⟩, ⟨rq HO_7.out⟩, ⟨bel⟩⟩
     ·rw [if_neg c8] at H
      exact absurd H (by simp)
    ·rw [if_neg c7] at H
     exact absurd H (by simp)
   ·rw [if_neg c6] at H; have c6b0 := decide_eq_false c6; clear c6; replace H := Option.bind_eq_some_iff.mp H; obtain ⟨t249, A170, H⟩ := H; replace H : ((some (([] : List (S36)) : List (S36))).bind fun y250 => (if 0 ≤ (mn (x7_1.length : Int) 10) then (if (mn (x7_1.length : Int) 10) ≤ (x7_1.length : Int) then ((some (t249.take ((mn (x7_1.length : Int) 10) : Int).toNat : List (S36))).bind fun y253 => (if y250.length + y253.length < 5864062014805 then (some (y250 ++ y253)) else (none))) else (none)) else (none))) = some r := H; have A17 := Aside0.mk A170; clear A170; obtain ⟨y250, hy250⟩ : ∃ y_ : List (S36), y_ = (([] : List (S36))) := ⟨_, rfl⟩
    replace H : (if 0 ≤ (mn (x7_1.length : Int) 10) then (if (mn (x7_1.length : Int) 10) ≤ (x7_1.length : Int) then ((some (t249.take ((mn (x7_1.length : Int) 10) : Int).toNat : List (S36))).bind fun y253 => (if y250.length + y253.length < 5864062014805 then (some (y250 ++ y253)) else (none))) else (none)) else (none)) = some r := b21_
    have Ny250 := am hy250; clear hy250; obtain ⟨ji18, hji18⟩ : ∃ j_ : Int, (mn (x7_1.length : Int) 10) = j_ := ⟨_, rfl⟩
    replace H : (if 0 ≤ (ji18) then (if (ji18) ≤ (x7_1.length : Int) then ((some (t249.take ((ji18) : Int).toNat : List (S36))).bind fun y253 => (if y250.length + y253.length < 5864062014805 then (some (y250 ++ y253)) else (none))) else (none)) else (none)) = some r := by first | (rw [hji18] at H; exact H) | (simp only [hji18] at H ⊢; exact H)
    (try rw [hji18] at A17)
    have hji18_ : (if 10 < (x7_1.length : Int) then 10 else (x7_1.length : Int)) = ji18 := hji18
    by_cases c19 : 0 ≤ (ji18)
    ·rw [if_pos c19] at H; have c19b0 := eq_true c19
     have c19b1 : decide (0 ≤ (ji18)) = true := decide_eq_true c19
     clear c19
     by_cases c20 : (ji18) ≤ (x7_1.length : Int)
     ·rw [if_pos c20] at H; have c20b0 := eq_true c20
      have c20b1 : decide ((ji18) ≤ (x7_1.length : Int)) = true := decide_eq_true c20
      clear c20; obtain ⟨y253, hy253⟩ : ∃ y_ : List (S36), y_ = (t249.take ((ji18) : Int).toNat) := ⟨_, rfl⟩
      replace H : (if y250.length + y253.length < 5864062014805 then (some (y250 ++ y253)) else (none)) = some r := by first | (rw [hy253]; with_reducible exact H) | (have H2_ := (Option.bind_some _ _).symm.trans H; rw [hy253]; with_reducible exact H2_) | (have H2_ := (Option.bind_some _ _).symm.trans H; with_reducible exact H2_) | with_reducible exact H | (rw [hy253]; exact H) | exact H
      have Ny253 := am hy253; clear hy253
      by_cases c21 : y250.length + y253.length < 5864062014805
      ·rw [if_pos c21] at H; have LMc21 := Aside0.mk c21; clear c21; obtain ⟨y257, hy257⟩ : ∃ y_ : List (S36), y_ = (y250 ++ y253) := ⟨_, rfl⟩
       replace H : (some y257) = some r := by first | (rw [hy257]; with_reducible exact H) | (have H2_ := (Option.bind_some _ _).symm.trans H; rw [hy257]; with_reducible exact H2_) | (have H2_ := (Option.bind_some _ _).symm.trans H; with_reducible exact H2_) | with_reducible exact H | (rw [hy257]; exact H) | exact H
       have Ny257 := am hy257; clear hy257; obtain rfl := Option.some.inj H; obtain ⟨Ao22, co22, eo22⟩ := Kd.R_slice HO_7.out; subst eo22
       go_wp2_with (first | ((with_reducible refine gate_callee (f := 107) rfl ?_); refine goesL_ (some 31) rfl rfl Try.func107 (by kernel_rfl) rfl #[.slice Ao22 x7_1.length co22, .func (.func 108) #[] #[]] rfl mq ?_; (with_reducible refine (impl_Guess.calls (fun k_ => some k_ = (.slice Ao22 x7_1.length co22 : Value).ownBlock) (.slice Ao22 x7_1.length co22) x7_1 t249 w _ ?side1 ?side2 A17.out).mono ?_); (case side1 => repeat (first | (with_reducible first | exact HB.out | apply below_alloc | apply pw_below_drewN | apply below_drew1) | exact HB.out)); (case side2 => exact Kd.R_tight rfl HO_7.out); rintro e w23 ⟨rfl, hy0, hb, hkp⟩; refine ⟨_, rfl, ?_⟩; replace HO_7 := am (Kd.R_reok rfl hy0 (fun k_ e_ => HO_7.out.1 k_ e_)); replace HB := am (hb); (try clear hb); (try clear hkp); (try clear hy0)) | ((with_reducible refine gate_dst (N := 32) rfl ?_); refine Kd.R_lit k36 _ 36 ?hg (N := 32) ?hd (xs := ([] : List (S36))) (inner := []) (ok := fun _ => True) (okp := fun _ => True) ?hr ?hp (fun _ hk => hk) trivial (Below.refl _ _) (Nat.le_refl _) (by simp) ?_; (case hd => rfl); (case hg => rfl); (case hr => first | (go_simp; done) | (go_simp; rfl)); (case hp => exact (Reps.none _ _)); intro v251 w24 ho25 hb hg_ hnew_; clear hg_ hnew_; (first | rw [← Ny250.out] at ho25 | (simp only [Int.reduceToNat] at ho25; rw [← Ny250.out] at ho25) | (simp only [Int.toNat_natCast] at ho25; rw [← Ny250.out] at ho25)); have HO252 := am (Kd.R_lower (Kd.R_new' ho25 (Kd.R_lt (rq HO_7.out))) (below_size bel)); replace HO_7 := am (Kd.R_elder' (rq HO_7.out) (Kd.R_base ho25) hb); replace HB := am (below_step bel hb); clear hb ho25; have hlx26 := (Kd.R_reads' HO_7.out).1; have q26 : ((ji18) : Int) ≤ ((x7_1.length : Int) : Int) := of_decide_eq_true ad; obtain ⟨i026, hi026, _, hsz26, _⟩ := info_parts info36; have hroom26 : x7_1.length ≤ co22 := (Kd.R_reads' HO_7.out).2.1; have hroomc26 : t249.length ≤ co22 := (by rw [← hlx26]; exact hroom26); have hC26 : Kd.C k36 _ Ao22 t249.length t249 := (Kd.R_reads' HO_7.out).2.2; have hcut26 := cut_to (P := Try.prog) 24 36 .i64 Try.underlying24 hi026 Ao22 x7_1.length co22 (ji18) (of_decide_eq_true ad) q26 hroom26; have hr26 := Kd.C_take (m := ((ji18) : Int).toNat) hC26 (by omega); have hy26 : y253.length = ((ji18) : Int).toNat := (by rw [Ny253.out, List.length_take]; omega); rw [← Ny253.out] at hr26; rw [← hy26] at hcut26; have HR256 := am hr26; have HC256 := am (show y253.length ≤ co22 from by omega); clear hr26 hC26 hroom26 hi026 hsz26 hroomc26; have KY26 := am hy26; clear hy26; have KE26 := am hlx26; have KL26 := am (show ((ji18) : Int).toNat ≤ t249.length from by omega); clear hlx26; replace q26 := eq_true q26) | ((with_reducible refine gate_builtin (b := .append) (xs := #[.tmp 32, .tmp 37]) rfl ?_); at_builtin; refine Kd.R_append_rows k36 (w0 := w) w.heap.size rfl (.tmp 32) (.tmp 37) 24 36 (.agg #[(.string ⟨#[]⟩), (.int .i64 0)]) 24 rfl Try.underlying24 info36 rfl (by decide) (by omega) v251 y250 y253 _ _ _ (fun k_ => some k_ ≠ (.slice Ao22 x7_1.length co22 : Value).ownBlock) (fun _ => False) rfl rfl ?aO ?aR (fun _ _ h => h) (fun _ h => h.elim) ?aF ?aB ?aS ?aL ?_; (case aR => repeat (first | exact (by repeat (first | (with_reducible exact HR256.out) | (with_reducible refine Kd.C_alloc ?_ _) | (with_reducible refine Kd.C_drewN ?_ _) | (with_reducible refine Kd.C_drew ?_) | exact HR256.out)) | (with_reducible refine Kd.C_alloc ?_ _) | (with_reducible refine Kd.C_drewN ?_ _) | (with_reducible refine Kd.C_drew ?_))); (case aB => exact bel); (case aF => exact (fun k_ hk => Kd.fresh' (Kd.R_lt (rq HO_7.out)) k_ hk)); (case aO => exact (rq (Kd.R_mono HO252.out (fun _ hk => hk.2)))); (case aS => exact (below_size bel)); (case aL => have := LMc21.out; omega); intro v258 w27 ho hb hg hat; rw [← Ny257.out] at ho; replace HB := am (hb); replace HR256 := am ((show Kd.C k36 w27 Ao22 y253.length y253 from by rw [Ny253.out]; exact Kd.C_take (m := ((ji18) : Int).toNat) ((Kd.R_reads' (Kd.R_after (ok := (fun _ => True)) (rq HO_7.out) hg hat)).2.2) KL26.out)); replace HO_7 := am (Kd.R_after (ok := (fun _ => True)) (rq HO_7.out) hg hat); have HO259 := am (ho); clear HO252; clear ho hb hg hat))
       go_ret
       exact ⟨_, by first | rfl | (simp [errW_none, errW_some] <;> rfl) | (simp only [← hji18]; first | rfl | (simp [errW_none, errW_some] <;> rfl)) | (simp [*, errW_none, errW_some] <;> rfl), by (with_reducible repeat (first | apply Kd.R_alloc | apply Kd.R_drewN | apply Kd.R_drew)); exact Kd.R_mono HO259.out (fun _ hk => trivial), bel⟩
      ·rw [if_neg c21] at H
       exact absurd H (by simp)
     ·rw [if_neg c20] at H
      exact absurd H (by simp)
    ·rw [if_neg c19] at H
     exact absurd H (by simp)

/-! ### impl_Guesses: function 14 -/
def impl_Guesses.f (k : Nat) (l0 : List ByteArray) (a1 : ByteArray) (a2 : Int) : Option ((List (S36))) := (impl_wordsOk.f k l0 300).bind fun t266 => (if t266 = true then ((impl_WordOk.f k a1).bind fun t267 => (if t267 = true then ((impl_guesses.f k l0 a1 a2).bind fun t268 => (some t268)) else (some (([] : List (S36)))))) else (some (([] : List (S36)))))
set_option maxHeartbeats 8000000 in
set_option maxRecDepth 100000 in
theorem impl_Guesses.calls (k : Nat) (A0 : Option Addr) (c0 : Nat) (l0 : List ByteArray) (a1 : ByteArray) (a2 : Int) (r : List (S36)) (w : World) (hr0 : Kd.C Kd.string w A0 l0.length l0) (hc0 : l0.length ≤ c0) (h : impl_Guesses.f k l0 a1 a2 = some r) :
  Calls Try.prog 14 #[.slice A0 l0.length c0, .string a1, .int .i64 a2] w fun e w' => ∃ v0_ : Value, e = .returned (v0_) ∧ Kd.R k36 36 w' w.heap.size (fun _ => True) v0_ r ∧ Below w.heap.size w w' := by
 have HR0 := am hr0; have HC0 := am hc0; clear hr0 hc0; have HB := am (Below.refl w.heap.size w)
 have H : ((impl_wordsOk.f k l0 300).bind fun t266 => (if t266 = true then ((impl_WordOk.f k a1).bind fun t267 => (if t267 = true then ((impl_guesses.f k l0 a1 a2).bind fun t268 => (some t268)) else (some (([] : List (S36)))))) else (some (([] : List (S36)))))) = some r := h
 clear h; replace H := Option.bind_eq_some_iff.mp H; obtain ⟨t266, A40, H⟩ := H; replace H : (if t266 = true then ((impl_WordOk.f k a1).bind fun t267 => (if t267 = true then ((impl_guesses.f k l0 a1 a2).bind fun t268 => (some t268)) else (some (([] : List (S36)))))) else (some (([] : List (S36))))) = some r := H; have A4 := Aside0.mk A40; clear A40
 by_cases c5 : t266 = true
 ·subst c5
  have H1 : ((impl_WordOk.f k a1).bind fun t267 => (if t267 = true then ((impl_guesses.f k l0 a1 a2).bind fun t268 => (some t268)) else (some (([] : List (S36)))))) = some r := b16_
  replace H := H1; clear H1
  replace H := Option.bind_eq_some_iff.mp H; obtain ⟨t267, A60, H⟩ := H; replace H : (if t267 = true then ((impl_guesses.f k l0 a1 a2).bind fun t268 => (some t268)) else (some (([] : List (S36))))) = some r := H; have A6 := Aside0.mk A60; clear A60
  by_cases c7 : t267 = true
  ·subst c7
   have H1 : ((impl_guesses.f k l0 a1 a2).bind fun t268 => (some t268)) = some r := b16_
   replace H := H1; clear H1
   replace H := Option.bind_eq_some_iff.mp H; obtain ⟨t268, A80, H⟩ := H; replace H : (some t268) = some r := H; have A8 := Aside0.mk A80; clear A80; obtain rfl := Option.some.inj H; go_enter Try.func14, Try.ntmps14
   go_wp2_with (first | ((with_reducible refine gate_callee (f := 59) rfl ?_); refine goesL_ (some 8) rfl rfl Try.func59 (by kernel_rfl) rfl #[.slice A0 l0.length c0, .int .i64 300] rfl mq ?_; (with_reducible refine (impl_wordsOk.calls k _ _ l0 300 true _ ?side1 ?side2 A4.out).mono ?_); (case side1 => repeat (first | exact HR0.out | (with_reducible refine Kd.C_alloc ?_ _) | (with_reducible refine Kd.C_drewN ?_ _) | (with_reducible refine Kd.C_drew ?_))); (case side2 => exact HC0.out); rintro e w' ⟨rfl, ⟨nd, rfl⟩⟩; refine ⟨_, rfl, ?_⟩) | (go_at_call 60; (with_reducible refine (impl_WordOk.calls k a1 true _ A6.out).mono ?_); rintro e w' ⟨rfl, ⟨nd, rfl⟩⟩) | ((with_reducible refine gate_callee (f := 61) rfl ?_); refine goesL_ (some 19) rfl rfl Try.func61 (by kernel_rfl) rfl #[.slice A0 l0.length c0, .string a1, .int .i64 a2] rfl mq ?_; (with_reducible refine (impl_guesses.calls k _ _ l0 a1 a2 t268 _ ?side1 ?side2 A8.out).mono ?_); (case side1 => repeat (first | exact HR0.out | (with_reducible refine Kd.C_alloc ?_ _) | (with_reducible refine Kd.C_drewN ?_ _) | (with_reducible refine Kd.C_drew ?_))); (case side2 => exact HC0.out); rintro e w9 ⟨v269, rfl, ho0, hb⟩; refine ⟨_, rfl, ?_⟩; have HO270 := am (Kd.R_lower ho0 (below_size bel)); replace HB := am (below_step bel hb); (try clear hb); (try clear hb2); (try clear hk); (try clear hi); (try clear ho0)))
   go_ret
   exact ⟨_, eq_, by (with_reducible repeat (first | apply Kd.R_alloc | apply Kd.R_drewN | apply Kd.R_drew)); exact HO270.out, bel⟩
  ·replace c7 := Bool.eq_false_iff.mpr c7; subst c7
   have H1 : (some (([] : List (S36)))) = some r := b5_
   replace H := H1; clear H1
   obtain ⟨y271, hy271⟩ : ∃ y_ : List (S36), y_ = (([] : List (S36))) := ⟨_, rfl⟩
   replace H : (some y271) = some r := by first | (rw [hy271]; with_reducible exact H) | (have H2_ := (Option.bind_some _ _).symm.trans H; rw [hy271]; with_reducible exact H2_) | (have H2_ := (Option.bind_some _ _).symm.trans H; with_reducible exact H2_) | with_reducible exact H | (rw [hy271]; exact H) | exact H
   have Ny271 := am hy271; clear hy271; obtain rfl := Option.some.inj H; go_enter Try.func14, Try.ntmps14
   go_wp2_with (first | ((with_reducible refine gate_callee (f := 59) rfl ?_); refine goesL_ (some 8) rfl rfl Try.func59 (by kernel_rfl) rfl #[.slice A0 l0.length c0, .int .i64 300] rfl mq ?_; (with_reducible refine (impl_wordsOk.calls k _ _ l0 300 true _ ?side1 ?side2 A4.out).mono ?_); (case side1 => repeat (first | exact HR0.out | (with_reducible refine Kd.C_alloc ?_ _) | (with_reducible refine Kd.C_drewN ?_ _) | (with_reducible refine Kd.C_drew ?_))); (case side2 => exact HC0.out); rintro e w' ⟨rfl, ⟨nd, rfl⟩⟩; refine ⟨_, rfl, ?_⟩) | (go_at_call 60; (with_reducible refine (impl_WordOk.calls k a1 false _ A6.out).mono ?_); rintro e w' ⟨rfl, ⟨nd, rfl⟩⟩) | ((with_reducible refine gate_dst (N := 15) rfl ?_); refine Kd.R_lit k36 _ 36 ?hg (N := 15) ?hd (xs := ([] : List (S36))) (inner := []) (ok := fun _ => True) (okp := fun _ => True) ?hr ?hp (fun _ hk => hk) trivial (Below.refl _ _) (Nat.le_refl _) (by simp) ?_; (case hd => rfl); (case hg => rfl); (case hr => first | (go_simp; done) | (go_simp; rfl)); (case hp => exact (Reps.none _ _)); intro v272 w10 ho11 hb hg_ hnew_; clear hg_ hnew_; (first | rw [← Ny271.out] at ho11 | (simp only [Int.reduceToNat] at ho11; rw [← Ny271.out] at ho11) | (simp only [Int.toNat_natCast] at ho11; rw [← Ny271.out] at ho11)); have HO273 := am (Kd.R_lower ho11 (below_size bel)); replace HB := am (below_step bel hb); clear hb ho11))
   go_ret
   exact ⟨_, eq_, by (with_reducible repeat (first | apply Kd.R_alloc | apply Kd.R_drewN | apply Kd.R_drew)); exact HO273.out, bel⟩
 ·replace c5 := Bool.eq_false_iff.mpr c5; subst c5
  have H1 : (some (([] : List (S36)))) = some r := b5_
  replace H := H1; clear H1
  obtain ⟨y274, hy274⟩ : ∃ y_ : List (S36), y_ = (([] : List (S36))) := ⟨_, rfl⟩
  replace H : (some y274) = some r := by first | (rw [hy274]; with_reducible exact H) | (have H2_ := (Option.bind_some _ _).symm.trans H; rw [hy274]; with_reducible exact H2_) | (have H2_ := (Option.bind_some _ _).symm.trans H; with_reducible exact H2_) | with_reducible exact H | (rw [hy274]; exact H) | exact H
  have Ny274 := am hy274; clear hy274; obtain rfl := Option.some.inj H; go_enter Try.func14, Try.ntmps14
  go_wp2_with (first | ((with_reducible refine gate_callee (f := 59) rfl ?_); refine goesL_ (some 8) rfl rfl Try.func59 (by kernel_rfl) rfl #[.slice A0 l0.length c0, .int .i64 300] rfl mq ?_; (with_reducible refine (impl_wordsOk.calls k _ _ l0 300 false _ ?side1 ?side2 A4.out).mono ?_); (case side1 => repeat (first | exact HR0.out | (with_reducible refine Kd.C_alloc ?_ _) | (with_reducible refine Kd.C_drewN ?_ _) | (with_reducible refine Kd.C_drew ?_))); (case side2 => exact HC0.out); rintro e w' ⟨rfl, ⟨nd, rfl⟩⟩; refine ⟨_, rfl, ?_⟩) | ((with_reducible refine gate_dst (N := 15) rfl ?_); refine Kd.R_lit k36 _ 36 ?hg (N := 15) ?hd (xs := ([] : List (S36))) (inner := []) (ok := fun _ => True) (okp := fun _ => True) ?hr ?hp (fun _ hk => hk) trivial (Below.refl _ _) (Nat.le_refl _) (by simp) ?_; (case hd => rfl); (case hg => rfl); (case hr => first | (go_simp; done) | (go_simp; rfl)); (case hp => exact (Reps.none _ _)); intro v275 w12 ho13 hb hg_ hnew_; clear hg_ hnew_; (first | rw [← Ny274.out] at ho13 | (simp only [Int.reduceToNat] at ho13; rw [← Ny274.out] at ho13) | (simp only [Int.toNat_natCast] at ho13; rw [← Ny274.out] at ho13)); have HO276 := am (Kd.R_lower ho13 (below_size bel)); replace HB := am (below_step bel hb); clear hb ho13))
  go_ret
  exact ⟨_, eq_, by (with_reducible repeat (first | apply Kd.R_alloc | apply Kd.R_drewN | apply Kd.R_drew)); exact HO276.out, bel⟩

/-! ### laws_eqGuess: function 62 -/
def laws_eqGuess.f (a0_0 : ByteArray) (a0_1 : Int) (a1_0 : ByteArray) (a1_1 : Int) : Option (Bool) := if a0_0.toList = a1_0.toList then (if a0_1 = a1_1 then (some true) else (some false)) else (some false)
set_option maxHeartbeats 8000000 in
set_option maxRecDepth 100000 in
theorem laws_eqGuess.calls (a0_0 : ByteArray) (a0_1 : Int) (a1_0 : ByteArray) (a1_1 : Int) (r : Bool) (w : World) (h : laws_eqGuess.f a0_0 a0_1 a1_0 a1_1 = some r) :
  Calls Try.prog 62 #[.agg #[.string a0_0, .int .i64 a0_1], .agg #[.string a1_0, .int .i64 a1_1]] w fun e w' => e = .returned (.bool r) ∧ Below w.heap.size w w' := by
 have hu36 := Try.underlying36; have HB := am (Below.refl w.heap.size w)
 have H : (if a0_0.toList = a1_0.toList then (if a0_1 = a1_1 then (some true) else (some false)) else (some false)) = some r := h
 clear h
 by_cases c3 : a0_0.toList = a1_0.toList
 ·rw [if_pos c3] at H
  have c3b0 : (a0_0.toList == a1_0.toList) = true := beq_iff_eq.mpr c3
  have c3b1 : (a0_0.toList != a1_0.toList) = false := bne_eq_false_iff_eq.mpr c3
  clear c3
  by_cases c4 : a0_1 = a1_1
  ·rw [if_pos c4] at H
   have c4b0 : (a0_1 == a1_1) = true := beq_iff_eq.mpr c4
   have c4b1 : (a0_1 != a1_1) = false := bne_eq_false_iff_eq.mpr c4
   clear c4; obtain rfl := Option.some.inj H; go_enter Try.func62, Try.ntmps62
   go_wp2_with (first | ((with_reducible refine gate_dst (N := 2) rfl ?_); refine bx 2 (cs := #[.string a0_0, .int .i64 a0_1]) (t := 36) ?_; intro gb277 hg w5 hbox hb; have BK277 := am (hbox); have GW277 := am ((b30_ : w.heap.size ≤ gb277)); have GE277 := am ((b30_ : w.heap.size ≤ gb277)); replace HB := am (below_step bel hb); clear hb hbox hg) | ((with_reducible refine gate_dst (N := 3) rfl ?_); refine bx 3 (cs := #[.string a1_0, .int .i64 a1_1]) (t := 36) ?_; intro gb278 hg w6 hbox hb; have BK278 := am (hbox); have GW278 := am ((b35_ : w.heap.size ≤ gb278)); have GE278 := am ((b35_ : w.heap.size ≤ gb278)); replace HB := am (below_step (bel1 GE277.out) hb); have NB277_278 := am ((b23_ : gb277 ≠ gb278)); have NB278_277 := am ((b24_ : gb278 ≠ gb277)); replace BK277 := am (blk_below (g := gb277) (o := .cells #[.string a0_0, .int .i64 a0_1] 36 (0, 0)) (bq BK277.out) hb); clear hb hbox hg; have hnb7 := NB277_278.out; have hnc7 := NB278_277.out; have hcz8_0 := bc BK277.out 0; have hcz8_1 := bc BK277.out 1; have hfz8_0 := bf BK277.out 0; have hfz8_1 := bf BK277.out 1; have hcz9_0 := bc BK278.out 0; have hcz9_1 := bc BK278.out 1; have hfz9_0 := bf BK278.out 0; have hfz9_1 := bf BK278.out 1))
   go_ret
   exact ⟨eq_, bel2 GE277.out GE278.out⟩
  ·rw [if_neg c4] at H
   have c4b0 : (a0_1 == a1_1) = false := beq_eq_false_iff_ne.mpr c4
   have c4b1 : (a0_1 != a1_1) = true := bne_iff_ne.mpr c4
   obtain rfl := Option.some.inj H; go_enter Try.func62, Try.ntmps62
   go_wp2_with (first | ((with_reducible refine gate_dst (N := 2) rfl ?_); refine bx 2 (cs := #[.string a0_0, .int .i64 a0_1]) (t := 36) ?_; intro gb277 hg w10 hbox hb; have BK277 := am (hbox); have GW277 := am ((b30_ : w.heap.size ≤ gb277)); have GE277 := am ((b30_ : w.heap.size ≤ gb277)); replace HB := am (below_step bel hb); clear hb hbox hg) | ((with_reducible refine gate_dst (N := 3) rfl ?_); refine bx 3 (cs := #[.string a1_0, .int .i64 a1_1]) (t := 36) ?_; intro gb278 hg w11 hbox hb; have BK278 := am (hbox); have GW278 := am ((b35_ : w.heap.size ≤ gb278)); have GE278 := am ((b35_ : w.heap.size ≤ gb278)); replace HB := am (below_step (bel1 GE277.out) hb); have NB277_278 := am ((b23_ : gb277 ≠ gb278)); have NB278_277 := am ((b24_ : gb278 ≠ gb277)); replace BK277 := am (blk_below (g := gb277) (o := .cells #[.string a0_0, .int .i64 a0_1] 36 (0, 0)) (bq BK277.out) hb); clear hb hbox hg; have hnb12 := NB277_278.out; have hnc12 := NB278_277.out; have hcz13_0 := bc BK277.out 0; have hcz13_1 := bc BK277.out 1; have hfz13_0 := bf BK277.out 0; have hfz13_1 := bf BK277.out 1; have hcz14_0 := bc BK278.out 0; have hcz14_1 := bc BK278.out 1; have hfz14_0 := bf BK278.out 0; have hfz14_1 := bf BK278.out 1))
   go_ret
   exact ⟨eq_, bel2 GE277.out GE278.out⟩
 ·rw [if_neg c3] at H
  have c3b0 : (a0_0.toList == a1_0.toList) = false := beq_eq_false_iff_ne.mpr c3
  have c3b1 : (a0_0.toList != a1_0.toList) = true := bne_iff_ne.mpr c3
  obtain rfl := Option.some.inj H; go_enter Try.func62, Try.ntmps62
  go_wp2_with (first | ((with_reducible refine gate_dst (N := 2) rfl ?_); refine bx 2 (cs := #[.string a0_0, .int .i64 a0_1]) (t := 36) ?_; intro gb277 hg w15 hbox hb; have BK277 := am (hbox); have GW277 := am ((b30_ : w.heap.size ≤ gb277)); have GE277 := am ((b30_ : w.heap.size ≤ gb277)); replace HB := am (below_step bel hb); clear hb hbox hg) | ((with_reducible refine gate_dst (N := 3) rfl ?_); refine bx 3 (cs := #[.string a1_0, .int .i64 a1_1]) (t := 36) ?_; intro gb278 hg w16 hbox hb; have BK278 := am (hbox); have GW278 := am ((b35_ : w.heap.size ≤ gb278)); have GE278 := am ((b35_ : w.heap.size ≤ gb278)); replace HB := am (below_step (bel1 GE277.out) hb); have NB277_278 := am ((b23_ : gb277 ≠ gb278)); have NB278_277 := am ((b24_ : gb278 ≠ gb277)); replace BK277 := am (blk_below (g := gb277) (o := .cells #[.string a0_0, .int .i64 a0_1] 36 (0, 0)) (bq BK277.out) hb); clear hb hbox hg; have hnb17 := NB277_278.out; have hnc17 := NB278_277.out; have hcz18_0 := bc BK277.out 0; have hcz18_1 := bc BK277.out 1; have hfz18_0 := bf BK277.out 0; have hfz18_1 := bf BK277.out 1; have hcz19_0 := bc BK278.out 0; have hcz19_1 := bc BK278.out 1; have hfz19_0 := bf BK278.out 0; have hfz19_1 := bf BK278.out 1))
  go_ret
  exact ⟨eq_, bel2 GE277.out GE278.out⟩

/-! ### laws_eqGuessS: function 15 -/
def laws_eqGuessS.l0 : Nat → List (S36) → List (S36) → Int → Option (Bool)
 | 0, _, _, _ => none
 | k + 1, x0, x1, x5 => if x5 < (x0.length : Int) then (if 0 ≤ x5 then (if x5 < (x1.length : Int) then ((laws_eqGuess.f ((rd_T36 x0 x5).f0) ((rd_T36 x0 x5).f1) ((rd_T36 x1 x5).f0) ((rd_T36 x1 x5).f1)).bind fun t281 => (if t281 = true then (laws_eqGuessS.l0 k x0 x1 (wrap64 (x5 + 1))) else (some false))) else (none)) else (none)) else (some true)
def laws_eqGuessS.f (k : Nat) (l0 : List (S36)) (l1 : List (S36)) : Option (Bool) := if (l0.length : Int) = (l1.length : Int) then (laws_eqGuessS.l0 k l0 l1 0) else (some false)
def laws_eqGuessS.T6 : Bool × List (List Nat × List Nat) := (true, [([], []), ([], []), ([0, 1], [0, 1]), ([2], [2]), ([], []), ([], []), ([4, 5], [4, 5]), ([6], [6]), ([3, 7], [3, 7]), ([8], [8])])
def laws_eqGuessS.B6 : List Nat := [0, 0, 3, 7, 0, 0, 48, 112, 255, 511]
theorem laws_eqGuessS.tab6 : rtab .any (opsOf Try.f15 6) = laws_eqGuessS.T6 := by kernel_rfl
theorem laws_eqGuessS.bits6 : waitsOk laws_eqGuessS.T6.2 laws_eqGuessS.B6 = true := by kernel_rfl
set_option maxHeartbeats 8000000 in
set_option maxRecDepth 100000 in
theorem laws_eqGuessS.calls (k : Nat) (A0 : Option Addr) (c0 : Nat) (l0 : List (S36)) (A1 : Option Addr) (c1 : Nat) (l1 : List (S36)) (r : Bool) (w : World) (hr0 : Kd.C k36 w A0 l0.length l0) (hc0 : l0.length ≤ c0) (hr1 : Kd.C k36 w A1 l1.length l1) (hc1 : l1.length ≤ c1) (h : laws_eqGuessS.f k l0 l1 = some r) :
  Calls Try.prog 15 #[.slice A0 l0.length c0, .slice A1 l1.length c1] w fun e w' => e = .returned (.bool r) ∧ Below w.heap.size w w' := by
 have hu36 := Try.underlying36; have HR0 := am hr0; have HC0 := am hc0; clear hr0 hc0; have HR1 := am hr1; have HC1 := am hc1; clear hr1 hc1; have HB := am (Below.refl w.heap.size w)
 have H : (if (l0.length : Int) = (l1.length : Int) then (laws_eqGuessS.l0 k l0 l1 0) else (some false)) = some r := h
 clear h
 by_cases c3 : (l0.length : Int) = (l1.length : Int)
 ·rw [if_pos c3] at H
  have c3b0 : ((l0.length : Int) == (l1.length : Int)) = true := beq_iff_eq.mpr c3
  have c3b1 : ((l0.length : Int) != (l1.length : Int)) = false := bne_eq_false_iff_eq.mpr c3
  have c3b2 : (l0.length == l1.length) = true := b39_
  clear c3
  have H' := am H
  clear H; go_enter Try.func15, Try.ntmps15; go_wp2
  go_loopg [5] k (fun kq v5 w' => ∃ (x5_1 : Int), v5 = .int .i64 x5_1 ∧ Aside0 (laws_eqGuessS.l0 kq l0 l1 x5_1 = some r) ∧ Aside0 (kq ≤ k) ∧ Aside0 (Below w.heap.size w w'))
  case atStart => exact ⟨(0), sq, H', ⟨Nat.le_refl _⟩, ⟨bel⟩⟩
  case round =>
   clear H'; (try clear c1); (try clear p2); (try clear c3); (try clear c3b0); (try clear c3b1); (try clear c3b2); obtain ⟨x5_1, rfl, HA, HK1, HB⟩ := hrel
   cases gk with
   | zero => exact absurd HA.out (by simp [laws_eqGuessS.l0])
   | succ k1 =>
    have H := HA.out; clear HA
    simp only [laws_eqGuessS.l0] at H
    by_cases c4 : x5_1 < (l0.length : Int)
    ·rw [if_pos c4] at H; have c4b0 := decide_eq_true c4; clear c4
     by_cases c5 : 0 ≤ x5_1
     ·rw [if_pos c5] at H; have c5b0 := decide_eq_true c5; clear c5
      by_cases c6 : x5_1 < (l1.length : Int)
      ·rw [if_pos c6] at H; have c6b0 := decide_eq_true c6; clear c6; replace H := Option.bind_eq_some_iff.mp H; obtain ⟨t281, A70, H⟩ := H; replace H : (if t281 = true then (laws_eqGuessS.l0 k1 l0 l1 (wrap64 (x5_1 + 1))) else (some false)) = some r := H; have A7 := Aside0.mk A70; clear A70
       by_cases c8 : t281 = true
       ·subst c8
        have H1 : (laws_eqGuessS.l0 k1 l0 l1 (wrap64 (x5_1 + 1))) = some r := b16_
        replace H := H1; clear H1
        have H' := am H
        clear H
        try go_wp2
        replace HB := am (below_drew1 HB.out)
        have p279 : 0 ≤ (x5_1 : Int) := of_decide_eq_true ad
        have q279 : x5_1 < (l0.length : Int) := of_decide_eq_true ad
        obtain ⟨ad279, e279, hx279_0, hx279_1⟩ := at_T36 HR0.out x5_1 p279 q279; have hw279_1 := hx279_1; have hw279_0 := hx279_0
        cases e279
        replace hx279_0 := kp HB.out hx279_0; replace hx279_1 := kp HB.out hx279_1; replace p279 := eq_true p279; replace q279 := eq_true q279
        have p280 : 0 ≤ (x5_1 : Int) := of_decide_eq_true ad
        have q280 : x5_1 < (l1.length : Int) := of_decide_eq_true ad
        obtain ⟨ad280, e280, hx280_0, hx280_1⟩ := at_T36 HR1.out x5_1 p280 q280; have hw280_1 := hx280_1; have hw280_0 := hx280_0
        cases e280
        replace hx280_0 := kp HB.out hx280_0; replace hx280_1 := kp HB.out hx280_1; replace p280 := eq_true p280; replace q280 := eq_true q280
        refine st (n := 10) (S := fun w' => w'.cell? (ad279.add ((x5_1).toNat * 2)) = some (.string ((rd_T36 l0 x5_1).f0)) ∧ w'.cell? ⟨(ad279.add ((x5_1).toNat * 2)).block, (ad279.add ((x5_1).toNat * 2)).off + 1, none⟩ = some (.int .i64 ((rd_T36 l0 x5_1).f1)) ∧ w'.cell? (ad280.add ((x5_1).toNat * 2)) = some (.string ((rd_T36 l1 x5_1).f0)) ∧ w'.cell? ⟨(ad280.add ((x5_1).toNat * 2)).block, (ad280.add ((x5_1).toNat * 2)).off + 1, none⟩ = some (.int .i64 ((rd_T36 l1 x5_1).f1))) (ds := []) ⟨(kp HB.out hw279_0), (kp HB.out hw279_1), (kp HB.out hw280_0), (kp HB.out hw280_1)⟩ (fun hHeld => ?_); refine with_tabW laws_eqGuessS.tab6 laws_eqGuessS.bits6 (fun HT_ HW_ => ?_)
        generalize wr.drew = w9 at HB hx279_0 hx279_1 hx280_0 hx280_1 hHeld ⊢
        refine pu 0 17 ?_
        refine pu 1 18 ?_
        refine pu 2 19 ?_
        refine pu 4 21 ?_
        refine pu 5 22 ?_
        refine pu 6 23 ?_
        refine tk4 3 20 hHeld ?_
        refine tk4 7 24 hHeld ?_
        refine on1 8 25 (fun K hK => ?_)
        refine goes_ Try.func62 (by kernel_rfl) rfl #[.agg #[.string ((rd_T36 l0 x5_1).f0), .int .i64 ((rd_T36 l0 x5_1).f1)], .agg #[.string ((rd_T36 l1 x5_1).f0), .int .i64 ((rd_T36 l1 x5_1).f1)]] (by rfl) rfl rfl mq ?_
        with_reducible refine (laws_eqGuess.calls ((rd_T36 l0 x5_1).f0) ((rd_T36 l0 x5_1).f1) ((rd_T36 l1 x5_1).f0) ((rd_T36 l1 x5_1).f1) true _ A7.out).mono ?_
        rintro e w10 ⟨rfl, hb⟩
        refine ⟨_, rfl, ?_⟩
        replace HB := am (below_step bel hb)
        (try clear hb)
        (try clear hb2)
        (try clear hk)
        (try clear hi)
        refine hK.out _ _ ⟨(kp HB.out hw279_0), (kp HB.out hw279_1), (kp HB.out hw280_0), (kp HB.out hw280_1)⟩ (fun hHeld => ?_)
        clear hK K
        refine norm_ (a' := ?_) ?_ ?_
        rotate_left
        ·show Act.put _ (some 25) _ = _
         simp only [Act.put, List.setIfInBounds_toArray, List.set_cons_zero, List.set_cons_succ, i64_w, i32_w]
         rfl
        refine pu 9 26 ?_
        refine done_ (done_of HT_.out (by kernel_rfl)) ?_
        try go_wp2
        go_roundg k1
        case measure => have := HK1.out; omega
        case rel => exact ⟨(wrap64 (x5_1 + 1)), sq, H', ⟨b22_⟩, ⟨bel⟩⟩
       ·replace c8 := Bool.eq_false_iff.mpr c8; subst c8
        have H1 : (some false) = some r := b5_
        replace H := H1; clear H1
        obtain rfl := Option.some.inj H
        try go_wp2
        replace HB := am (below_drew1 HB.out)
        have p279 : 0 ≤ (x5_1 : Int) := of_decide_eq_true ad
        have q279 : x5_1 < (l0.length : Int) := of_decide_eq_true ad
        obtain ⟨ad279, e279, hx279_0, hx279_1⟩ := at_T36 HR0.out x5_1 p279 q279; have hw279_1 := hx279_1; have hw279_0 := hx279_0
        cases e279
        replace hx279_0 := kp HB.out hx279_0; replace hx279_1 := kp HB.out hx279_1; replace p279 := eq_true p279; replace q279 := eq_true q279
        have p280 : 0 ≤ (x5_1 : Int) := of_decide_eq_true ad
        have q280 : x5_1 < (l1.length : Int) := of_decide_eq_true ad
        obtain ⟨ad280, e280, hx280_0, hx280_1⟩ := at_T36 HR1.out x5_1 p280 q280; have hw280_1 := hx280_1; have hw280_0 := hx280_0
        cases e280
        replace hx280_0 := kp HB.out hx280_0; replace hx280_1 := kp HB.out hx280_1; replace p280 := eq_true p280; replace q280 := eq_true q280
        refine st (n := 10) (S := fun w' => w'.cell? (ad279.add ((x5_1).toNat * 2)) = some (.string ((rd_T36 l0 x5_1).f0)) ∧ w'.cell? ⟨(ad279.add ((x5_1).toNat * 2)).block, (ad279.add ((x5_1).toNat * 2)).off + 1, none⟩ = some (.int .i64 ((rd_T36 l0 x5_1).f1)) ∧ w'.cell? (ad280.add ((x5_1).toNat * 2)) = some (.string ((rd_T36 l1 x5_1).f0)) ∧ w'.cell? ⟨(ad280.add ((x5_1).toNat * 2)).block, (ad280.add ((x5_1).toNat * 2)).off + 1, none⟩ = some (.int .i64 ((rd_T36 l1 x5_1).f1))) (ds := []) ⟨(kp HB.out hw279_0), (kp HB.out hw279_1), (kp HB.out hw280_0), (kp HB.out hw280_1)⟩ (fun hHeld => ?_); refine with_tabW laws_eqGuessS.tab6 laws_eqGuessS.bits6 (fun HT_ HW_ => ?_)
        generalize wr.drew = w11 at HB hx279_0 hx279_1 hx280_0 hx280_1 hHeld ⊢
        refine pu 0 17 ?_
        refine pu 1 18 ?_
        refine pu 2 19 ?_
        refine pu 4 21 ?_
        refine pu 5 22 ?_
        refine pu 6 23 ?_
        refine tk4 3 20 hHeld ?_
        refine tk4 7 24 hHeld ?_
        refine on1 8 25 (fun K hK => ?_)
        refine goes_ Try.func62 (by kernel_rfl) rfl #[.agg #[.string ((rd_T36 l0 x5_1).f0), .int .i64 ((rd_T36 l0 x5_1).f1)], .agg #[.string ((rd_T36 l1 x5_1).f0), .int .i64 ((rd_T36 l1 x5_1).f1)]] (by rfl) rfl rfl mq ?_
        with_reducible refine (laws_eqGuess.calls ((rd_T36 l0 x5_1).f0) ((rd_T36 l0 x5_1).f1) ((rd_T36 l1 x5_1).f0) ((rd_T36 l1 x5_1).f1) false _ A7.out).mono ?_
        rintro e w12 ⟨rfl, hb⟩
        refine ⟨_, rfl, ?_⟩
        replace HB := am (below_step bel hb)
        (try clear hb)
        (try clear hb2)
        (try clear hk)
        (try clear hi)
        refine hK.out _ _ ⟨(kp HB.out hw279_0), (kp HB.out hw279_1), (kp HB.out hw280_0), (kp HB.out hw280_1)⟩ (fun hHeld => ?_)
        clear hK K
        refine norm_ (a' := ?_) ?_ ?_
        rotate_left
        ·show Act.put _ (some 25) _ = _
         simp only [Act.put, List.setIfInBounds_toArray, List.set_cons_zero, List.set_cons_succ, i64_w, i32_w]
         rfl
        refine pu 9 26 ?_
        refine done_ (done_of HT_.out (by kernel_rfl)) ?_
        try go_wp2
        go_ret
        exact ⟨eq_, bel⟩
      ·rw [if_neg c6] at H
       exact absurd H (by simp)
     ·rw [if_neg c5] at H
      exact absurd H (by simp)
    ·rw [if_neg c4] at H; have c4b0 := decide_eq_false c4; clear c4; obtain rfl := Option.some.inj H; go_wp2; go_ret
     exact ⟨eq_, bel⟩
 ·rw [if_neg c3] at H
  have c3b0 : ((l0.length : Int) == (l1.length : Int)) = false := beq_eq_false_iff_ne.mpr c3
  have c3b1 : ((l0.length : Int) != (l1.length : Int)) = true := bne_iff_ne.mpr c3
  have c3b2 : (l0.length == l1.length) = false := b39_
  obtain rfl := Option.some.inj H; go_enter Try.func15, Try.ntmps15; go_wp2; go_ret
  exact ⟨eq_, bel⟩

/-! ### laws_eqStringS: function 16 -/
def laws_eqStringS.l0 : Nat → List ByteArray → List ByteArray → Int → Option (Bool)
 | 0, _, _, _ => none
 | k + 1, x0, x1, x5 => if x5 < (x0.length : Int) then (if 0 ≤ x5 then (if x5 < (x1.length : Int) then (if (rdOf ByteArray.empty x0 x5).toList = (rdOf ByteArray.empty x1 x5).toList then (laws_eqStringS.l0 k x0 x1 (wrap64 (x5 + 1))) else (some false)) else (none)) else (none)) else (some true)
def laws_eqStringS.f (k : Nat) (l0 : List ByteArray) (l1 : List ByteArray) : Option (Bool) := if (l0.length : Int) = (l1.length : Int) then (laws_eqStringS.l0 k l0 l1 0) else (some false)
set_option maxHeartbeats 8000000 in
set_option maxRecDepth 100000 in
theorem laws_eqStringS.calls (k : Nat) (A0 : Option Addr) (c0 : Nat) (l0 : List ByteArray) (A1 : Option Addr) (c1 : Nat) (l1 : List ByteArray) (r : Bool) (w : World) (hr0 : Kd.C Kd.string w A0 l0.length l0) (hc0 : l0.length ≤ c0) (hr1 : Kd.C Kd.string w A1 l1.length l1) (hc1 : l1.length ≤ c1) (h : laws_eqStringS.f k l0 l1 = some r) :
  Calls Try.prog 16 #[.slice A0 l0.length c0, .slice A1 l1.length c1] w fun e w' => e = .returned (.bool r) ∧ Drawn0 w w' := by
 have HR0 := am hr0; have HC0 := am hc0; clear hr0 hc0; have HR1 := am hr1; have HC1 := am hc1; clear hr1 hc1
 have H : (if (l0.length : Int) = (l1.length : Int) then (laws_eqStringS.l0 k l0 l1 0) else (some false)) = some r := h
 clear h
 by_cases c3 : (l0.length : Int) = (l1.length : Int)
 ·rw [if_pos c3] at H
  have c3b0 : ((l0.length : Int) == (l1.length : Int)) = true := beq_iff_eq.mpr c3
  have c3b1 : ((l0.length : Int) != (l1.length : Int)) = false := bne_eq_false_iff_eq.mpr c3
  have c3b2 : (l0.length == l1.length) = true := b39_
  clear c3
  have H' := am H
  clear H; go_enter Try.func16, Try.ntmps16; go_wp2
  repeat (go_quiet (fail); try go_wp2)
  go_loopg [5] k (fun kq v5 w' => ∃ (x5_1 : Int), v5 = .int .i64 x5_1 ∧ Aside0 (laws_eqStringS.l0 kq l0 l1 x5_1 = some r) ∧ Aside0 (kq ≤ k) ∧ Drawn0 w w')
  case atStart => exact ⟨(0), sq, H', ⟨Nat.le_refl _⟩, dr⟩
  case round =>
   clear H'; (try clear c1); (try clear p2); (try clear c3); (try clear c3b0); (try clear c3b1); (try clear c3b2); obtain ⟨x5_1, rfl, HA, HK1, ⟨m1, rfl⟩⟩ := hrel
   cases gk with
   | zero => exact absurd HA.out (by simp [laws_eqStringS.l0])
   | succ k1 =>
    have H := HA.out; clear HA
    simp only [laws_eqStringS.l0] at H
    by_cases c4 : x5_1 < (l0.length : Int)
    ·rw [if_pos c4] at H; have c4b0 := decide_eq_true c4; clear c4
     by_cases c5 : 0 ≤ x5_1
     ·rw [if_pos c5] at H; have c5b0 := decide_eq_true c5; clear c5
      by_cases c6 : x5_1 < (l1.length : Int)
      ·rw [if_pos c6] at H; have c6b0 := decide_eq_true c6; clear c6
       by_cases c7 : (rdOf ByteArray.empty l0 x5_1).toList = (rdOf ByteArray.empty l1 x5_1).toList
       ·rw [if_pos c7] at H
        have c7b0 : ((rdOf ByteArray.empty l0 x5_1).toList == (rdOf ByteArray.empty l1 x5_1).toList) = true := beq_iff_eq.mpr c7
        have c7b1 : ((rdOf ByteArray.empty l0 x5_1).toList != (rdOf ByteArray.empty l1 x5_1).toList) = false := bne_eq_false_iff_eq.mpr c7
        clear c7
        have H' := am H
        clear H
        have p282 : 0 ≤ (x5_1 : Int) := of_decide_eq_true ad
        have q282 : x5_1 < (l0.length : Int) := of_decide_eq_true ad
        obtain ⟨ad282, e282, hx282_0⟩ := Kd.at_string HR0.out x5_1 p282 q282
        cases e282
        replace p282 := eq_true p282; replace q282 := eq_true q282
        have p283 : 0 ≤ (x5_1 : Int) := of_decide_eq_true ad
        have q283 : x5_1 < (l1.length : Int) := of_decide_eq_true ad
        obtain ⟨ad283, e283, hx283_0⟩ := Kd.at_string HR1.out x5_1 p283 q283
        cases e283
        replace p283 := eq_true p283; replace q283 := eq_true q283; go_wp2
        repeat (go_quiet (fail); try go_wp2)
        go_roundg k1
        case measure => have := HK1.out; omega
        case rel => exact ⟨(wrap64 (x5_1 + 1)), sq, H', ⟨b22_⟩, dr⟩
       ·rw [if_neg c7] at H
        have c7b0 : ((rdOf ByteArray.empty l0 x5_1).toList == (rdOf ByteArray.empty l1 x5_1).toList) = false := beq_eq_false_iff_ne.mpr c7
        have c7b1 : ((rdOf ByteArray.empty l0 x5_1).toList != (rdOf ByteArray.empty l1 x5_1).toList) = true := bne_iff_ne.mpr c7
        obtain rfl := Option.some.inj H
        have p282 : 0 ≤ (x5_1 : Int) := of_decide_eq_true ad
        have q282 : x5_1 < (l0.length : Int) := of_decide_eq_true ad
        obtain ⟨ad282, e282, hx282_0⟩ := Kd.at_string HR0.out x5_1 p282 q282
        cases e282
        replace p282 := eq_true p282; replace q282 := eq_true q282
        have p283 : 0 ≤ (x5_1 : Int) := of_decide_eq_true ad
        have q283 : x5_1 < (l1.length : Int) := of_decide_eq_true ad
        obtain ⟨ad283, e283, hx283_0⟩ := Kd.at_string HR1.out x5_1 p283 q283
        cases e283
        replace p283 := eq_true p283; replace q283 := eq_true q283; go_wp2
        repeat (go_quiet (fail); try go_wp2)
        go_ret
        exact ⟨sq, dr⟩
      ·rw [if_neg c6] at H
       exact absurd H (by simp)
     ·rw [if_neg c5] at H
      exact absurd H (by simp)
    ·rw [if_neg c4] at H; have c4b0 := decide_eq_false c4; clear c4; obtain rfl := Option.some.inj H; go_wp2
     repeat (go_quiet (fail); try go_wp2)
     go_ret
     exact ⟨sq, dr⟩
 ·rw [if_neg c3] at H
  have c3b0 : ((l0.length : Int) == (l1.length : Int)) = false := beq_eq_false_iff_ne.mpr c3
  have c3b1 : ((l0.length : Int) != (l1.length : Int)) = true := bne_iff_ne.mpr c3
  have c3b2 : (l0.length == l1.length) = false := b39_
  obtain rfl := Option.some.inj H; go_enter Try.func16, Try.ntmps16; go_wp2
  repeat (go_quiet (fail); try go_wp2)
  go_ret
  exact ⟨sq, dr⟩

end Go.Proofs.Ytfpmfaelodfecaa.QFnExactGuesses

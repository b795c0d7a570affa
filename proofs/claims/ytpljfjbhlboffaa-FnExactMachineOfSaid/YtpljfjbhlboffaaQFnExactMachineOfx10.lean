import Derived.Test.YtpljfjbhlboffaaQFnExactMachineOfx0
import Derived.Test.YtpljfjbhlboffaaVMSh2
import Derived.Test.YtpljfjbhlboffaaQFnExactMachineOfx5
import Derived.Test.YtpljfjbhlboffaaQFnExactMachineOfx8
namespace Go.Proofs.Ytpljfjbhlboffaa.QFnExactMachineOf
open Go.RowKit Go.Proofs.YtpljfjbhlboffaaW.PrintWords Go.Proofs.YtpljfjbhlboffaaW.PrintLast Go.Proofs.YtpljfjbhlboffaaW.PrintMore Go.Proofs.Ytpljfjbhlboffaa.Sh
attribute [local go_sem] max2_int min2_int max_two min_two max_three min_three max_four min_four
set_option linter.unusedVariables false
set_option linter.unusedSimpArgs false
set_option maxHeartbeats 8000000
set_option maxRecDepth 100000
-- shrunk

/-! ### laws_eqStringS: function 11 -/
def laws_eqStringS.l0 : Nat → List ByteArray → List ByteArray → Int → Option (Bool)
 | 0, _, _, _ => none
 | k + 1, x0, x1, x5 => if x5 < (x0.length : Int) then (if 0 ≤ x5 then (if x5 < (x1.length : Int) then (if (rdOf ByteArray.empty x0 x5).toList = (rdOf ByteArray.empty x1 x5).toList then (laws_eqStringS.l0 k x0 x1 (wrap64 (x5 + 1))) else (some false)) else (none)) else (none)) else (some true)
def laws_eqStringS.f (k : Nat) (l0 : List ByteArray) (l1 : List ByteArray) : Option (Bool) := if (l0.length : Int) = (l1.length : Int) then (laws_eqStringS.l0 k l0 l1 0) else (some false)
theorem laws_eqStringS.calls (k : Nat) (A0 : Option Addr) (c0 : Nat) (l0 : List ByteArray) (A1 : Option Addr) (c1 : Nat) (l1 : List ByteArray) (r : Bool) (w : World) (hr0 : Kd.C Kd.string w A0 l0.length l0) (hc0 : l0.length ≤ c0) (hr1 : Kd.C Kd.string w A1 l1.length l1) (hc1 : l1.length ≤ c1) (h : laws_eqStringS.f k l0 l1 = some r) :
  Calls Try.prog 11 #[.slice A0 l0.length c0, .slice A1 l1.length c1] w fun e w' => e = .returned (.bool r) ∧ Drawn0 w w' := by
 have HR0 := am hr0; have HC0 := am hc0; clear hr0 hc0; have HR1 := am hr1; have HC1 := am hc1; clear hr1 hc1
 have H : (if (l0.length : Int) = (l1.length : Int) then (laws_eqStringS.l0 k l0 l1 0) else (some false)) = some r := h
 clear h
 by_cases c3 : (l0.length : Int) = (l1.length : Int)
 ·rw [if_pos c3] at H
  have c3b0 : ((l0.length : Int) == (l1.length : Int)) = true := beq_iff_eq.mpr c3
  have c3b1 : ((l0.length : Int) != (l1.length : Int)) = false := bne_eq_false_iff_eq.mpr c3
  have c3b2 : (l0.length == l1.length) = true := b25_
  clear c3
  have H' := am H
  clear H; go_enter Try.func11, Try.ntmps11; go_wp2
  repeat (go_quiet (fail); try go_wp2)
  go_loopg [5] k (fun kq v5 w' => ∃ (x5_1 : Int), v5 = .int .i64 x5_1 ∧ Aside0 (laws_eqStringS.l0 kq l0 l1 x5_1 = some r) ∧ Aside0 (kq ≤ k) ∧ Drawn0 w w')
  case atStart => exact ⟨(0), sq, H', ⟨Nat.le_refl _⟩, dr⟩
  case round =>
   clear H'; (try clear c1); (try clear p2); (try clear c3); (try clear c3b0); (try clear c3b1); (try clear c3b2); obtain ⟨x5_1, rfl, HA, HK1, ⟨m1, rfl⟩⟩ := hrel
   cases gk with
   | zero => exact absurd HA.out (by simp [laws_eqStringS.l0])
   | succ k1 =>
    have H := HA.out; clear HA; simp only [laws_eqStringS.l0] at H
    by_cases c4 : x5_1 < (l0.length : Int)
    ·rw [if_pos c4] at H; have c4b0 := decide_eq_true c4; clear c4
     replace H := it H; obtain ⟨c5b0, H⟩ := H; replace H := it H; obtain ⟨c6b0, H⟩ := H
     by_cases c7 : (rdOf ByteArray.empty l0 x5_1).toList = (rdOf ByteArray.empty l1 x5_1).toList
     ·rw [if_pos c7] at H
      have c7b0 : ((rdOf ByteArray.empty l0 x5_1).toList == (rdOf ByteArray.empty l1 x5_1).toList) = true := beq_iff_eq.mpr c7
      have c7b1 : ((rdOf ByteArray.empty l0 x5_1).toList != (rdOf ByteArray.empty l1 x5_1).toList) = false := bne_eq_false_iff_eq.mpr c7
      clear c7
      have H' := am H
      clear H
      have p260 : 0 ≤ (x5_1 : Int) := of_decide_eq_true ad
      have q260 : x5_1 < (l0.length : Int) := of_decide_eq_true ad
      obtain ⟨ad260, e260, hx260_0⟩ := Kd.at_string HR0.out x5_1 p260 q260; cases e260; replace p260 := eq_true p260; replace q260 := eq_true q260
      have p261 : 0 ≤ (x5_1 : Int) := of_decide_eq_true ad
      have q261 : x5_1 < (l1.length : Int) := of_decide_eq_true ad
      obtain ⟨ad261, e261, hx261_0⟩ := Kd.at_string HR1.out x5_1 p261 q261; cases e261
      replace p261 := eq_true p261; replace q261 := eq_true q261; go_wp2
      repeat (go_quiet (fail); try go_wp2)
      go_roundg k1
      case measure => have := HK1.out; omega
      case rel => exact ⟨(wrap64 (x5_1 + 1)), sq, H', ⟨b11_⟩, dr⟩
     rw [if_neg c7] at H
     have c7b0 : ((rdOf ByteArray.empty l0 x5_1).toList == (rdOf ByteArray.empty l1 x5_1).toList) = false := beq_eq_false_iff_ne.mpr c7
     have c7b1 : ((rdOf ByteArray.empty l0 x5_1).toList != (rdOf ByteArray.empty l1 x5_1).toList) = true := bne_iff_ne.mpr c7
     obtain rfl := Option.some.inj H
     have p260 : 0 ≤ (x5_1 : Int) := of_decide_eq_true ad
     have q260 : x5_1 < (l0.length : Int) := of_decide_eq_true ad
     obtain ⟨ad260, e260, hx260_0⟩ := Kd.at_string HR0.out x5_1 p260 q260; cases e260; replace p260 := eq_true p260; replace q260 := eq_true q260
     have p261 : 0 ≤ (x5_1 : Int) := of_decide_eq_true ad
     have q261 : x5_1 < (l1.length : Int) := of_decide_eq_true ad
     obtain ⟨ad261, e261, hx261_0⟩ := Kd.at_string HR1.out x5_1 p261 q261; cases e261
     replace p261 := eq_true p261; replace q261 := eq_true q261; go_wp2
     repeat (go_quiet (fail); try go_wp2)
     go_ret
     exact ⟨sq, dr⟩
    rw [if_neg c4] at H; have c4b0 := decide_eq_false c4; clear c4; obtain rfl := Option.some.inj H; go_wp2
    repeat (go_quiet (fail); try go_wp2)
    go_ret
    exact ⟨sq, dr⟩
 rw [if_neg c3] at H
 have c3b0 : ((l0.length : Int) == (l1.length : Int)) = false := beq_eq_false_iff_ne.mpr c3
 have c3b1 : ((l0.length : Int) != (l1.length : Int)) = true := bne_iff_ne.mpr c3
 have c3b2 : (l0.length == l1.length) = false := b25_
 obtain rfl := Option.some.inj H; go_enter Try.func11, Try.ntmps11; go_wp2
 repeat (go_quiet (fail); try go_wp2)
 go_ret
 exact ⟨sq, dr⟩

/-! ### laws_markText: function 39 -/
def laws_markText.l0 : Nat → Int → ByteArray → Option (ByteArray)
 | 0, _, _ => none
 | k + 1, x0, x3 => if x0 > 0 then ((some (([(wrap64 (48 + (Int.tmod x0 10))) % 256] : List Int) : List Int)).bind fun y262 => (if (strOfNums y262).size + x3.size ≤ 9223372036854775807 then (laws_markText.l0 k (wrap64 (Int.tdiv x0 10)) ((strOfNums y262) ++ x3)) else (none))) else (if 1 + x3.size ≤ 9223372036854775807 then (some ((⟨#[109]⟩ : ByteArray) ++ x3)) else (none))
def laws_markText.f (k : Nat) (a0 : Int) : Option (ByteArray) := if a0 ≤ 0 then (some (⟨#[109, 48]⟩ : ByteArray)) else (laws_markText.l0 k a0 (⟨#[]⟩ : ByteArray))
theorem laws_markText.calls (k : Nat) (a0 : Int) (r : ByteArray) (w : World) (h : laws_markText.f k a0 = some r) :
  Calls Try.prog 39 #[.int .i64 a0] w fun e w' => e = .returned (.string r) ∧ Below w.heap.size w w' := by
 have HB := am (Below.refl w.heap.size w)
 have H : (if a0 ≤ 0 then (some (⟨#[109, 48]⟩ : ByteArray)) else (laws_markText.l0 k a0 (⟨#[]⟩ : ByteArray))) = some r := h
 clear h
 by_cases c2 : a0 ≤ 0
 ·rw [if_pos c2] at H; have c2b0 := decide_eq_true c2; clear c2; obtain rfl := Option.some.inj H; go_enter Try.func39, Try.ntmps39; go_wp2; go_ret
  exact ⟨eq_, bel⟩
 rw [if_neg c2] at H; have c2b0 := decide_eq_false c2; clear c2
 have H' := am H
 clear H; go_enter Try.func39, Try.ntmps39; go_wp2
 go_loopg [0, 3] k (fun kq v0 v3 w' => ∃ (x0_1 : Int) (x3_1 : ByteArray), v0 = .int .i64 x0_1 ∧ v3 = .string x3_1 ∧ Aside0 (laws_markText.l0 kq x0_1 x3_1 = some r) ∧ Aside0 (kq ≤ k) ∧ Aside0 (Below w.heap.size w w'))
 case atStart => exact ⟨(a0), ((⟨#[]⟩ : ByteArray)), sq, sq, H', ⟨Nat.le_refl _⟩, ⟨bel⟩⟩
 case round =>
  clear H'; (try clear c2); (try clear c2b0); (try clear p2); obtain ⟨x0_1, x3_1, rfl, rfl, HA, HK1, HB⟩ := hrel
  cases gk with
  | zero => exact absurd HA.out (by simp [laws_markText.l0])
  | succ k1 =>
   have H := HA.out; clear HA; simp only [laws_markText.l0] at H
   by_cases c3 : x0_1 > 0
   ·rw [if_pos c3] at H; have c3b0 := decide_eq_true c3; clear c3; obtain ⟨y262, hy262⟩ : ∃ y_ : List Int, y_ = (([(wrap64 (48 + (Int.tmod x0_1 10))) % 256] : List Int)) := ⟨_, rfl⟩
    replace H : (if (strOfNums y262).size + x3_1.size ≤ 9223372036854775807 then (laws_markText.l0 k1 (wrap64 (Int.tdiv x0_1 10)) ((strOfNums y262) ++ x3_1)) else (none)) = some r := by first | (rw [hy262]; with_reducible exact H) | (have H2_ := bm H; rw [hy262]; with_reducible exact H2_) | (with_reducible exact bm H) | with_reducible exact H | (rw [hy262]; exact H) | exact H
    have Ny262 := am hy262; clear hy262; replace H := ip H; obtain ⟨c4, H⟩ := H; have c4b0 := eq_true c4
    have c4b1 : decide ((strOfNums y262).size + x3_1.size ≤ 9223372036854775807) = true := decide_eq_true c4
    try have c4b2 : (9223372036854775807 < (strOfNums y262).size + x3_1.size) = False := eq_false (Nat.not_lt.2 c4)
    have H' := am H
    clear H
    go_wp2_with (first | ((with_reducible refine gate_dst (N := 12) rfl ?_); refine Kd.R_lit (Kd.int .u8) _ 5 ?hg (N := 12) ?hd (xs := ([(wrap64 (48 + (Int.tmod x0_1 10))) % 256] : List Int)) (inner := [.int .u8 ((wrap64 (48 + (Int.tmod x0_1 10))) % 256)]) (ok := fun _ => True) (okp := fun _ => True) ?hr ?hp (fun _ hk => hk) trivial (Below.refl _ _) (Nat.le_refl _) (by simp) ?_; (case hd => rfl); (case hg => rfl); (case hr => first | (go_simp; done) | (go_simp; rfl)); (case hp => exact (Reps.one (show Kd.M (Kd.int .u8) _ _ _ ((wrap64 (48 + (Int.tmod x0_1 10))) % 256) [.int .u8 ((wrap64 (48 + (Int.tmod x0_1 10))) % 256)] from rfl) (Reps.none _ _))); intro v263 w5 ho6 hb hg_ hnew_; clear hg_ hnew_; (first | rw [← Ny262.out] at ho6 | (simp only [Int.reduceToNat] at ho6; rw [← Ny262.out] at ho6) | (simp only [Int.toNat_natCast] at ho6; rw [← Ny262.out] at ho6)); have HO264 := am (Kd.R_lower ho6 (below_size bel)); replace HB := am (below_step bel hb); clear hb ho6; have hcv7 := own_string (P := Try.prog) Try.underlying32 Try.underlying5 Try.underlying9 (Kd.own_of_R HO264.out)))
    go_roundg k1
    case measure => have := HK1.out; omega
    case rel => exact ⟨(wrap64 (Int.tdiv x0_1 10)), ((strOfNums y262) ++ x3_1), sq, sq, H', ⟨b11_⟩, ⟨bel⟩⟩
   rw [if_neg c3] at H; have c3b0 := decide_eq_false c3; clear c3; replace H := ip H; obtain ⟨c8, H⟩ := H; have c8b0 := eq_true c8
   have c8b1 : decide (1 + x3_1.size ≤ 9223372036854775807) = true := decide_eq_true c8
   try have c8b2 : (9223372036854775807 < 1 + x3_1.size) = False := eq_false (Nat.not_lt.2 c8)
   obtain rfl := Option.some.inj H; go_wp2; go_ret
   exact ⟨eq_, bel⟩

/-! ### laws_markStringS: function 12 -/
def laws_markStringS.l0 : Nat → List ByteArray → Int → Int → Option (Int × List ByteArray)
 | 0, _, _, _ => none
 | k + 1, x0, x1, x5 => if x5 < (x0.length : Int) then ((laws_markText.f k x1).bind fun t265 => (if 0 ≤ x5 then (laws_markStringS.l0 k (x0.set (x5 : Int).toNat t265) (wrap64 (x1 + 1)) (wrap64 (x5 + 1))) else (none))) else (some (x1, x0))
def laws_markStringS.f (k : Nat) (l0 : List ByteArray) (a1 : Int) : Option (Int × List ByteArray) := laws_markStringS.l0 k l0 a1 0
theorem laws_markStringS.calls (k : Nat) (P0_ : Nat → Prop) (u9000_ : Value) (l0 : List ByteArray) (a1 : Int) (r1 : Int) (r2 : List ByteArray) (w0 w : World) (hB : Below w0.heap.size w0 w) (ho0 : Kd.R Kd.string 9 w w0.heap.size P0_ u9000_ l0) (h : laws_markStringS.f k l0 a1 = some (r1, r2)) :
  Calls Try.prog 12 #[u9000_, .int .i64 a1] w fun e w' => e = .returned (.int .i64 r1) ∧ Kd.R Kd.string 9 w' w0.heap.size (fun k_ => (P0_ k_ ∨ w.heap.size ≤ k_)) u9000_ r2 ∧ Below w0.heap.size w0 w' ∧ Kept w w' (fun k_ => P0_ k_) := by
 have HO0 := am (show Kd.R Kd.string 9 w w0.heap.size (fun k_ => (P0_ k_ ∨ w.heap.size ≤ k_)) u9000_ l0 from Kd.R_mono ho0 (fun k_ hk => (.inl hk))); have HK := am (Kept.refl w (fun k_ => P0_ k_)); have HW0 := am hB.size; have HB := am hB; clear hB
 have H : (laws_markStringS.l0 k l0 a1 0) = some (r1, r2) := h
 clear h
 have H' := am H
 clear H; go_enter Try.func12, Try.ntmps12; go_wp2
 go_loopg [1, 5] k (fun kq v1 v5 w' => ∃ (x0_1 : List ByteArray) (x1_1 : Int) (x5_1 : Int), v1 = .int .i64 x1_1 ∧ v5 = .int .i64 x5_1 ∧ Aside0 (laws_markStringS.l0 kq x0_1 x1_1 x5_1 = some (r1, r2)) ∧ Aside0 (kq ≤ k) ∧ Aside0 (Kd.R Kd.string 9 w' w0.heap.size (fun k_ => (P0_ k_ ∨ w.heap.size ≤ k_)) u9000_ x0_1) ∧ Aside0 (Kept w w' (fun k_ => P0_ k_)) ∧ Aside0 (Below w0.heap.size w0 w'))
 case atStart => exact ⟨(l0), (a1), (0), sq, sq, H', ⟨Nat.le_refl _⟩, ⟨rq HO0.out⟩, ⟨b4_⟩, ⟨bel⟩⟩
 case round =>
  clear H'; (try clear c1); (try clear p2); obtain ⟨x0_1, x1_1, x5_1, rfl, rfl, HA, HK1, HO_0, HK, HB⟩ := hrel
  cases gk with
  | zero => exact absurd HA.out (by simp [laws_markStringS.l0])
  | succ k1 =>
   have H := HA.out; clear HA; simp only [laws_markStringS.l0] at H
   by_cases c3 : x5_1 < (x0_1.length : Int)
   ·rw [if_pos c3] at H; have c3b0 := decide_eq_true c3; clear c3; replace H := bs H; obtain ⟨t265, A40, H⟩ := H; (try dsimp only at H); have A4 := Aside0.mk A40; clear A40
    replace H := it H; obtain ⟨c5b0, H⟩ := H; obtain ⟨y266, hy266⟩ : ∃ y_ : List ByteArray, y_ = (x0_1.set (x5_1 : Int).toNat t265) := ⟨_, rfl⟩
    replace H : (laws_markStringS.l0 k1 y266 (wrap64 (x1_1 + 1)) (wrap64 (x5_1 + 1))) = some (r1, r2) := by first | (rw [hy266]; with_reducible exact H) | (have H2_ := bm H; rw [hy266]; with_reducible exact H2_) | (with_reducible exact bm H) | with_reducible exact H | (rw [hy266]; exact H) | exact H
    have Ny266 := am hy266; clear hy266
    have H' := am H
    clear H; obtain ⟨Ao7, co7, eo7⟩ := Kd.R_slice HO_0.out; subst eo7
    go_wp2_with (first | ((with_reducible refine gate_callee (f := 39) rfl ?_); refine gl 15 Try.func39 #[.int .i64 x1_1] ?_; (with_reducible refine (laws_markText.calls k1 x1_1 t265 _ A4.out).mono ?_); rintro e w8 ⟨rfl, hb⟩; refine ⟨_, rfl, ?_⟩; replace HO_0 := am (Kd.R_below (rq HO_0.out) hb); replace HK := am (Kept.below (S := (fun k_ => P0_ k_)) b4_ hb); replace HB := am (below_step bel hb); clear hb; have p6 : 0 ≤ (x5_1 : Int) := of_decide_eq_true ad; have q6 : (x5_1 : Int) < ((x0_1.length : Int) : Int) := of_decide_eq_true ad; obtain ⟨go6, co6, eo6, gb6, gl6, cl6, HG6⟩ := Kd.R_form HO_0.out (by omega); (first | cases eo6 | (injection eo6 with ea_ en_ ec_; (first | subst ea_ | (injection ea_ with ea_; subst ea_)); subst ec_; clear en_)); have GB6 := Aside0.mk gb6; have GG6 := am HG6; clear gb6 gl6 HG6; have HMgo6 := am (show (P0_ go6 ∨ w.heap.size ≤ go6) from (HO_0.out.1 _ rfl)); obtain ⟨hx6_0, hf6_0⟩ := Kd.R_celln (⟨#[]⟩ : ByteArray) HO_0.out (x5_1 : Int) p6 q6; replace p6 := eq_true p6; replace q6 := eq_true q6; obtain ⟨hy9_, hz9_⟩ := Kd.R_celln (⟨#[]⟩ : ByteArray) HO_0.out (x5_1 : Int) (of_decide_eq_true ad) (of_decide_eq_true ad); have HP9 := Kd.R_putg HO_0.out (x5_1 : Int) t265) | ((with_reducible refine gate_store (t := 9) (p := 16) rfl ?_); refine store_event (t := 9) (p := 16) (v := ?vo_w10) (w1 := (w8.setCell ⟨go6, (x5_1 : Int).toNat, none⟩ (.string t265))) ?hg ?ho ?hn ?hr ?_; (case ho => rfl); (case hg => rfl); (case hn => rfl); (case hr => first | (go_simp; done) | (go_simp; rfl)); intro w10 hw; have hg : w8.grownBy w10 (some go6) := (by rw [hw]; exact HP9.2); have hp_ : Kd.R Kd.string 9 w10 w0.heap.size (fun k_ => (P0_ k_ ∨ w.heap.size ≤ k_)) (.slice (some ⟨go6, 0, none⟩) x0_1.length co7) y266 := (by rw [hw, Ny266.out]; exact HP9.1); clear HP9; replace HB := am ((by rw [hw]; exact below_set (HB.out) GB6.out : Below w0.heap.size w0 w10)); replace HK := am (Kept.of_grown (S := (fun k_ => P0_ k_)) hg b4_ (fun k_ e_ => (HO_0.out.1 k_ e_))); replace HO_0 := am (hp_); clear hg hw hp_))
    go_roundg k1
    case measure => have := HK1.out; omega
    case rel => exact ⟨(y266), (wrap64 (x1_1 + 1)), (wrap64 (x5_1 + 1)), sq, sq, H', ⟨b11_⟩, ⟨rq HO_0.out⟩, ⟨b4_⟩, ⟨bel⟩⟩
   rw [if_neg c3] at H; have c3b0 := decide_eq_false c3; clear c3; simp only [Option.some.injEq, Prod.mk.injEq] at H
   obtain ⟨rfl, rfl⟩ := H; obtain ⟨Ao11, co11, eo11⟩ := Kd.R_slice HO_0.out; subst eo11; go_wp2; go_ret
   exact ⟨eq_, by (with_reducible repeat (first | apply Kd.R_alloc | apply Kd.R_drewN | apply Kd.R_drew)); exact HO_0.out, bel, b4_⟩

/-! ### laws_markEdgeS: function 40 -/
def laws_markEdgeS.l0 : Nat → List (S49) → Int → Int → Option (Int × (List (S49)))
 | 0, _, _, _ => none
 | k + 1, x0, x1, x5 => if x5 < (x0.length : Int) then (if 0 ≤ x5 then ((some (x0.set (x5 : Int).toNat (⟨x1, (rd_T49 x0 x5).f1⟩ : S49) : List (S49))).bind fun y267 => (laws_markEdgeS.l0 k (y267.set (x5 : Int).toNat (⟨(rd_T49 y267 x5).f0, wrap64 (x1 + 1)⟩ : S49)) (wrap64 ((wrap64 (x1 + 1)) + 1)) (wrap64 (x5 + 1)))) else (none)) else (some (x1, x0))
def laws_markEdgeS.f (k : Nat) (l0 : List (S49)) (a1 : Int) : Option (Int × (List (S49))) := laws_markEdgeS.l0 k l0 a1 0
theorem laws_markEdgeS.calls (k : Nat) (P0_ : Nat → Prop) (u9000_ : Value) (l0 : List (S49)) (a1 : Int) (r1 : Int) (r2 : List (S49)) (w0 w : World) (hB : Below w0.heap.size w0 w) (ho0 : Kd.R k49 49 w w0.heap.size P0_ u9000_ l0) (h : laws_markEdgeS.f k l0 a1 = some (r1, r2)) :
  Calls Try.prog 40 #[u9000_, .int .i64 a1] w fun e w' => e = .returned (.int .i64 r1) ∧ Kd.R k49 49 w' w0.heap.size (fun k_ => (P0_ k_ ∨ w.heap.size ≤ k_)) u9000_ r2 ∧ Below w0.heap.size w0 w' ∧ Kept w w' (fun k_ => P0_ k_) := by
 have HO0 := am (show Kd.R k49 49 w w0.heap.size (fun k_ => (P0_ k_ ∨ w.heap.size ≤ k_)) u9000_ l0 from Kd.R_mono ho0 (fun k_ hk => (.inl hk))); have HK := am (Kept.refl w (fun k_ => P0_ k_)); have HW0 := am hB.size; have HB := am hB; clear hB
 have H : (laws_markEdgeS.l0 k l0 a1 0) = some (r1, r2) := h
 clear h
 have H' := am H
 clear H; go_enter Try.func40, Try.ntmps40; go_wp2
 go_loopg [1, 5] k (fun kq v1 v5 w' => ∃ (x0_1 : List (S49)) (x1_1 : Int) (x5_1 : Int), v1 = .int .i64 x1_1 ∧ v5 = .int .i64 x5_1 ∧ Aside0 (laws_markEdgeS.l0 kq x0_1 x1_1 x5_1 = some (r1, r2)) ∧ Aside0 (kq ≤ k) ∧ Aside0 (Kd.R k49 49 w' w0.heap.size (fun k_ => (P0_ k_ ∨ w.heap.size ≤ k_)) u9000_ x0_1) ∧ Aside0 (Kept w w' (fun k_ => P0_ k_)) ∧ Aside0 (Below w0.heap.size w0 w'))
 case atStart => exact ⟨(l0), (a1), (0), sq, sq, H', ⟨Nat.le_refl _⟩, ⟨rq HO0.out⟩, ⟨b4_⟩, ⟨bel⟩⟩
 case round =>
  clear H'; (try clear p2); obtain ⟨x0_1, x1_1, x5_1, rfl, rfl, HA, HK1, HO_0, HK, HB⟩ := hrel
  cases gk with
  | zero => exact absurd HA.out (by simp [laws_markEdgeS.l0])
  | succ k1 =>
   have H := HA.out; clear HA; simp only [laws_markEdgeS.l0] at H
   by_cases c3 : x5_1 < (x0_1.length : Int)
   ·rw [if_pos c3] at H; have c3b0 := decide_eq_true c3; clear c3
    replace H := it H; obtain ⟨c4b0, H⟩ := H; obtain ⟨y267, hy267⟩ : ∃ y_ : List (S49), y_ = (x0_1.set (x5_1 : Int).toNat (⟨x1_1, (rd_T49 x0_1 x5_1).f1⟩ : S49)) := ⟨_, rfl⟩
    replace H : (laws_markEdgeS.l0 k1 (y267.set (x5_1 : Int).toNat (⟨(rd_T49 y267 x5_1).f0, wrap64 (x1_1 + 1)⟩ : S49)) (wrap64 ((wrap64 (x1_1 + 1)) + 1)) (wrap64 (x5_1 + 1))) = some (r1, r2) := by first | (rw [hy267]; with_reducible exact H) | (have H2_ := bm H; rw [hy267]; with_reducible exact H2_) | (with_reducible exact bm H) | with_reducible exact H | (rw [hy267]; exact H) | exact H
    have Ny267 := am hy267; clear hy267; obtain ⟨y268, hy268⟩ : ∃ y_ : List (S49), y_ = (y267.set (x5_1 : Int).toNat (⟨(rd_T49 y267 x5_1).f0, wrap64 (x1_1 + 1)⟩ : S49)) := ⟨_, rfl⟩
    replace H : (laws_markEdgeS.l0 k1 y268 (wrap64 ((wrap64 (x1_1 + 1)) + 1)) (wrap64 (x5_1 + 1))) = some (r1, r2) := by first | (rw [hy268]; with_reducible exact H) | (have H2_ := bm H; rw [hy268]; with_reducible exact H2_) | (with_reducible exact bm H) | with_reducible exact H | (rw [hy268]; exact H) | exact H
    have Ny268 := am hy268; clear hy268
    have H' := am H
    clear H; obtain ⟨Ao7, co7, eo7⟩ := Kd.R_slice HO_0.out; subst eo7
    have p5 : 0 ≤ (x5_1 : Int) := of_decide_eq_true ad
    have q5 : (x5_1 : Int) < ((x0_1.length : Int) : Int) := of_decide_eq_true ad
    obtain ⟨go5, co5, eo5, gb5, gl5, cl5, HG5⟩ := Kd.R_form HO_0.out (by omega)
    (first | cases eo5 | (injection eo5 with ea_ en_ ec_; (first | subst ea_ | (injection ea_ with ea_; subst ea_)); subst ec_; clear en_))
    have GB5 := Aside0.mk gb5; have GG5 := am HG5; clear gb5 gl5 HG5; have HMgo5 := am (show (P0_ go5 ∨ w.heap.size ≤ go5) from (HO_0.out.1 _ rfl)); obtain ⟨ce5, hcl5, hM5, hcc5, hfr5⟩ := Kd.R_elem HO_0.out z49 (x5_1 : Int) p5 q5; obtain rfl := k49_openM hM5
    have hx5_0 : wr.cell? ⟨go5, (x5_1 : Int).toNat * 2, none⟩ = some (.int .i64 ((rd_T49 x0_1 x5_1).f0)) := hcc5 0 _ rfl
    have hx5_1 : wr.cell? ⟨go5, (x5_1 : Int).toNat * 2 + 1, none⟩ = some (.int .i64 ((rd_T49 x0_1 x5_1).f1)) := hcc5 1 _ rfl
    have hf5_0 : wr.frozen? ⟨go5, (x5_1 : Int).toNat * 2, none⟩ = false := hfr5 0
    have hf5_1 : wr.frozen? ⟨go5, (x5_1 : Int).toNat * 2 + 1, none⟩ = false := hfr5 1
    clear hcl5 hcc5 hfr5; (try clear hM5)
    replace p5 := eq_true p5; replace q5 := eq_true q5; have HX8 := am (show Kd.R k49 49 wr w0.heap.size (fun k_ => (P0_ k_ ∨ w.heap.size ≤ k_)) (.slice (some ⟨go5, 0, none⟩) x0_1.length co7) x0_1 from (rq HO_0.out))
    obtain ⟨ce8, hcl8, hM8, hcc8, hfr8⟩ := Kd.R_elem HX8.out z49 (x5_1 : Int) (of_decide_eq_true ad) b12_
    obtain rfl := k49_openM hM8
    have HP8 := Kd.R_seg HX8.out (x5_1 : Int) (of_decide_eq_true ad) b12_ (seg := [.int .i64 x1_1]) (j := 0) hcl8 hcc8 (show 1 ≤ 2 from by decide) (x' := (⟨x1_1, (rd_T49 x0_1 x5_1).f1⟩ : S49)) (k49_mkM _ _ _ (⟨x1_1, (rd_T49 x0_1 x5_1).f1⟩ : S49) ) (fun _ hk => hk)
    have hx8_0 := hcc8 0 _ rfl
    (try simp only [show (k49).sz = 2 from rfl, Nat.mul_one, Nat.add_zero] at hx8_0)
    have hf8_0 := hfr8 0
    (try simp only [show (k49).sz = 2 from rfl, Nat.mul_one, Nat.add_zero] at hf8_0)
    clear hcl8 hcc8 hfr8; (try clear hM8)
    go_wp2_with (first | ((with_reducible refine gate_store (t := 3) (p := 16) rfl ?_); refine store_event (t := 3) (p := 16) (v := ?vo_w9) (w1 := (wr.setCell ⟨go5, (x5_1 : Int).toNat * 2, none⟩ (.int .i64 x1_1))) ?hg ?ho ?hn ?hr ?_; (case ho => rfl); (case hg => rfl); (case hn => rfl); (case hr => first | (go_simp; done) | (go_simp; rfl)); intro w9 hw; have hg : wr.grownBy w9 (some go5) := (by rw [hw]; exact HP8.2); have hp_ : Kd.R k49 49 w9 w0.heap.size (fun k_ => (P0_ k_ ∨ w.heap.size ≤ k_)) (.slice (some ⟨go5, 0, none⟩) x0_1.length co7) y267 := (by rw [hw, Ny267.out]; exact HP8.1); clear HP8; replace HB := am ((by rw [hw]; exact below_set (HB.out) GB5.out : Below w0.heap.size w0 w9)); replace HK := am (Kept.of_grown (S := (fun k_ => P0_ k_)) hg b4_ (fun k_ e_ => (HO_0.out.1 k_ e_))); replace HO_0 := am (hp_); clear hg hw hp_; have p6 : 0 ≤ (x5_1 : Int) := of_decide_eq_true ad; have q6 : (x5_1 : Int) < ((x0_1.length : Int) : Int) := of_decide_eq_true ad; obtain ⟨ce6, hcl6, hM6, hcc6, hfr6⟩ := Kd.R_elem HO_0.out z49 (x5_1 : Int) p6 q6; obtain rfl := k49_openM hM6; have hx6_0 : w9.cell? ⟨go5, (x5_1 : Int).toNat * 2, none⟩ = some (.int .i64 ((rd_T49 y267 x5_1).f0)) := hcc6 0 _ rfl; have hx6_1 : w9.cell? ⟨go5, (x5_1 : Int).toNat * 2 + 1, none⟩ = some (.int .i64 ((rd_T49 y267 x5_1).f1)) := hcc6 1 _ rfl; have hf6_0 : w9.frozen? ⟨go5, (x5_1 : Int).toNat * 2, none⟩ = false := hfr6 0; have hf6_1 : w9.frozen? ⟨go5, (x5_1 : Int).toNat * 2 + 1, none⟩ = false := hfr6 1; clear hcl6 hcc6 hfr6; (try clear hM6); replace p6 := eq_true p6; replace q6 := eq_true q6; have HX10 := am (show Kd.R k49 49 w9 w0.heap.size (fun k_ => (P0_ k_ ∨ w.heap.size ≤ k_)) (.slice (some ⟨go5, 0, none⟩) x0_1.length co7) y267 from (rq HO_0.out)); obtain ⟨ce10, hcl10, hM10, hcc10, hfr10⟩ := Kd.R_elem HX10.out z49 (x5_1 : Int) (of_decide_eq_true ad) b12_; obtain rfl := k49_openM hM10; have HP10 := Kd.R_seg HX10.out (x5_1 : Int) (of_decide_eq_true ad) b12_ (seg := [.int .i64 (wrap64 (x1_1 + 1))]) (j := 1) hcl10 hcc10 (show 2 ≤ 2 from by decide) (x' := (⟨(rd_T49 y267 x5_1).f0, wrap64 (x1_1 + 1)⟩ : S49)) (k49_mkM _ _ _ (⟨(rd_T49 y267 x5_1).f0, wrap64 (x1_1 + 1)⟩ : S49) ) (fun _ hk => hk); have hx10_1 := hcc10 1 _ rfl; (try simp only [show (k49).sz = 2 from rfl, Nat.mul_one, Nat.add_zero] at hx10_1); have hf10_1 := hfr10 1; (try simp only [show (k49).sz = 2 from rfl, Nat.mul_one, Nat.add_zero] at hf10_1); clear hcl10 hcc10 hfr10; (try clear hM10)) | ((with_reducible refine gate_store (t := 3) (p := 23) rfl ?_); refine store_event (t := 3) (p := 23) (v := ?vo_w11) (w1 := (w9.setCell ⟨go5, (x5_1 : Int).toNat * 2 + 1, none⟩ (.int .i64 (wrap64 (x1_1 + 1))))) ?hg ?ho ?hn ?hr ?_; (case ho => rfl); (case hg => rfl); (case hn => rfl); (case hr => first | (go_simp; done) | (go_simp; rfl)); intro w11 hw; have hg : w9.grownBy w11 (some go5) := (by rw [hw]; exact HP10.2); have hp_ : Kd.R k49 49 w11 w0.heap.size (fun k_ => (P0_ k_ ∨ w.heap.size ≤ k_)) (.slice (some ⟨go5, 0, none⟩) x0_1.length co7) y268 := (by rw [hw, Ny268.out]; exact HP10.1); clear HP10; replace HB := am ((by rw [hw]; exact below_set (HB.out) GB5.out : Below w0.heap.size w0 w11)); replace HK := am (Kept.of_grown (S := (fun k_ => P0_ k_)) hg b4_ (fun k_ e_ => (HO_0.out.1 k_ e_))); replace HO_0 := am (hp_); clear hg hw hp_))
    go_roundg k1
    case measure => have := HK1.out; omega
    case rel => exact ⟨(y268), (wrap64 ((wrap64 (x1_1 + 1)) + 1)), (wrap64 (x5_1 + 1)), sq, sq, H', ⟨b11_⟩, ⟨rq HO_0.out⟩, ⟨b4_⟩, ⟨bel⟩⟩
   rw [if_neg c3] at H; have c3b0 := decide_eq_false c3; clear c3; simp only [Option.some.injEq, Prod.mk.injEq] at H
   obtain ⟨rfl, rfl⟩ := H; obtain ⟨Ao12, co12, eo12⟩ := Kd.R_slice HO_0.out; subst eo12; go_wp2; go_ret
   exact ⟨eq_, by (with_reducible repeat (first | apply Kd.R_alloc | apply Kd.R_drewN | apply Kd.R_drew)); exact HO_0.out, bel, b4_⟩

/-! ### laws_markStateS: function 13 -/
/-- How far the marks have come. -/
def laws_markStateS.ks (l : List S45) (a : Int) : Int := l.foldl (fun k s => k + 1 + 2 * (s.f1.length : Int)) a
/-- The marked edges; the marked states. -/
def laws_markStateS.mkE : List S49 → Int → List S49
 | [], _ => []
 | _ :: l, a => (⟨a, a + 1⟩ : S49) :: laws_markStateS.mkE l (a + 2)
def laws_markStateS.mkS : List S45 → Int → List S45
 | [], _ => []
 | s :: l, a => (⟨Int.tmod a 3 == 0, laws_markStateS.mkE s.f1 (a + 1)⟩ : S45) :: laws_markStateS.mkS l (a + 1 + 2 * (s.f1.length : Int))
def laws_markStateS.f (l0 : List S45) (a1 : Int) : Option (Int × List S45) := if l0.length ≤ 2000000 ∧ (∀ s ∈ l0, s.f1.length ≤ 2000000) ∧ 0 ≤ a1 ∧ a1 ≤ 2000000 then some (laws_markStateS.ks l0 a1, laws_markStateS.mkS l0 a1) else none
theorem laws_markStateS.ks_snoc (l : List S45) (i : Nat) (h : i < l.length) (a : Int) : laws_markStateS.ks (l.take (i + 1)) a = laws_markStateS.ks (l.take i) a + 1 + 2 * (l[i].f1.length : Int) := by
 unfold laws_markStateS.ks
 rw [List.take_succ_eq_append_getElem h, List.foldl_append]
 rfl
theorem laws_markStateS.ks_le (l : List S45) (hz : ∀ s ∈ l, s.f1.length ≤ 2000000) (a : Int) : ∀ i : Nat, i ≤ l.length → a ≤ laws_markStateS.ks (l.take i) a ∧ laws_markStateS.ks (l.take i) a ≤ a + 4000001 * i := by
 intro i
 induction i with
 | zero => intro _; simp [laws_markStateS.ks]
 | succ i ih =>
  intro h; have h1 := ih (by omega)
  rw [laws_markStateS.ks_snoc l i (by omega)]
  have h2 := hz _ (List.getElem_mem (show i < l.length by omega))
  omega
theorem laws_markStateS.mkE_length : ∀ (l : List S49) (a : Int), (laws_markStateS.mkE l a).length = l.length
 | [], _ => rfl
 | _ :: l, a => by rw [laws_markStateS.mkE, List.length_cons, List.length_cons, laws_markStateS.mkE_length l]
theorem laws_markStateS.mkS_length : ∀ (l : List S45) (a : Int), (laws_markStateS.mkS l a).length = l.length
 | [], _ => rfl
 | _ :: l, a => by rw [laws_markStateS.mkS, List.length_cons, List.length_cons, laws_markStateS.mkS_length l]
theorem laws_markStateS.mkS_snoc (s : S45) : ∀ (l : List S45) (a : Int), laws_markStateS.mkS (l ++ [s]) a = laws_markStateS.mkS l a ++ [(⟨Int.tmod (laws_markStateS.ks l a) 3 == 0, laws_markStateS.mkE s.f1 (laws_markStateS.ks l a + 1)⟩ : S45)]
 | [], a => rfl
 | t :: l, a => by
  rw [List.cons_append, laws_markStateS.mkS, laws_markStateS.mkS, laws_markStateS.mkS_snoc s l, List.cons_append]
  rfl
theorem laws_markStateS.edge (d : Nat) : ∀ (i : Nat) (l : List S49) (a : Int), i + d = l.length → l.length ≤ 2000000 → 0 ≤ a → a + 2 * d ≤ 9000000000000000 → laws_markEdgeS.l0 (d + 1) l a (i : Int) = some (a + 2 * d, l.take i ++ laws_markStateS.mkE (l.drop i) a) := by
 have hw : ∀ n : Int, 0 ≤ n → n ≤ 9000000000000100 → wrap64 n = n := fun n h1 h2 => by unfold wrap64; omega
 induction d with
 | zero =>
  intro i l a hi hl h0 h1
  simp only [laws_markEdgeS.l0]
  rw [if_neg (by omega), List.take_of_length_le (by omega), List.drop_eq_nil_of_le (by omega)]
  simp [laws_markStateS.mkE]
 | succ d ih =>
  intro i l a hi hl h0 h1
  have hlt : i < l.length := by omega
  have e1 : wrap64 (a + 1) = a + 1 := hw _ (by omega) (by omega)
  have e2 : wrap64 (a + 1 + 1) = a + 2 := (hw _ (by omega) (by omega)).trans (by omega)
  have e3 : wrap64 ((i : Int) + 1) = ((i + 1 : Nat) : Int) := hw _ (by omega) (by omega)
  rw [laws_markEdgeS.l0, if_pos (by omega), if_pos (by omega), Option.bind_some, e1, e2, e3, Int.toNat_natCast]
  have es : (l.set i (⟨a, (rd_T49 l (i : Int)).f1⟩ : S49)).set i (⟨(rd_T49 (l.set i (⟨a, (rd_T49 l (i : Int)).f1⟩ : S49)) (i : Int)).f0, a + 1⟩ : S49) = l.set i (⟨a, a + 1⟩ : S49) := by
   rw [List.set_set]
   congr 2
   simp [rd_T49, List.getD_eq_getElem?_getD, hlt]
  rw [es, ih (i + 1) (l.set i (⟨a, a + 1⟩ : S49)) (a + 2) (by rw [List.length_set]; omega) (by rw [List.length_set]; omega) (by omega) (by omega)]
  have h2 : (l.set i (⟨a, a + 1⟩ : S49)).take (i + 1) = l.take i ++ [(⟨a, a + 1⟩ : S49)] := by
   rw [List.take_succ_eq_append_getElem (by rw [List.length_set]; exact hlt), List.take_set_of_le (Nat.le_refl i), List.getElem_set_self]
  have h3 : (l.set i (⟨a, a + 1⟩ : S49)).drop (i + 1) = l.drop (i + 1) := List.drop_set_of_lt (by omega)
  rw [h2, h3, List.drop_eq_getElem_cons hlt, laws_markStateS.mkE, List.append_assoc, List.singleton_append]
  congr 2
  omega
theorem laws_markStateS.edgeF (l : List S49) (a : Int) (hl : l.length ≤ 2000000) (h0 : 0 ≤ a) (h1 : a ≤ 8999999990000000) : laws_markEdgeS.f (l.length + 1) l a = some (a + 2 * l.length, laws_markStateS.mkE l a) :=
 laws_markStateS.edge l.length 0 l a (by omega) hl h0 (by omega)
def laws_markStateS.Ty (w : World) (k : Nat) : Prop := ∃ q, (q = 45 ∨ q = 49) ∧ ∃ cells, w.heap[k]? = some (.cells cells q (0, 0))
/-- The rows as they lie. -/
def laws_markStateS.Sh (W : World) (base g cap n : Nat) (V : Nat → Value) (l : List S45) : Prop :=
 ∃ cur : Array Value, W.heap[g]? = some (.cells cur 45 (0, 0)) ∧ base ≤ g ∧ cur.size = cap * 2 ∧ n ≤ cap ∧ n = l.length ∧
  (∀ i, i < n → cur[i * 2]? = some (.bool (l.getD i z45).f0) ∧ cur[i * 2 + 1]? = some (V i) ∧ Kd.R k49 49 W base (fun k => some k = (V i).ownBlock) (V i) (l.getD i z45).f1) ∧
  (∀ i j k, i < n → j < n → (V i).ownBlock = some k → (V j).ownBlock = some k → i = j)
theorem laws_markStateS.sh {w : World} {base : Nat} {ok : Nat → Prop} {u : Value} {l : List S45} (h : Kd.S k45 45 w base ok u l) (hp : 0 < l.length) :
  ∃ g cap V, u = .slice (some ⟨g, 0, none⟩) l.length cap ∧ laws_markStateS.Sh w base g cap l.length V l := by
 obtain ⟨f, h0, inner, ho, hr⟩ := h; rw [List.length_zipIdx] at ho
 rcases ho.2 with ⟨_, hn⟩ | ⟨g, cap, cur, e0, hb, hg, h1, h2, h3, h4⟩
 ·omega
 have hsz : (Kd.tag f k45).sz = 2 := rfl
 rw [hsz] at h3 h4
 have hx : ∀ i, (hi : i < l.length) → ∃ v1, (inner.drop (i * 2)).take 2 = [.bool l[i].f0, v1] ∧ Kd.R k49 49 w base (fun k => (ok k ∧ some k ≠ u.ownBlock) ∧ f k = i) v1 l[i].f1 := fun i hi => by
  have := hr.2 i (l[i], i) (Kd.zip_at (List.getElem?_eq_getElem hi))
  exact k45_openM this
 let V : Nat → Value := fun i => if hi : i < l.length then Classical.choose (hx i hi) else .slice none 0 0
 have hV : ∀ i, (hi : i < l.length) → (inner.drop (i * 2)).take 2 = [.bool l[i].f0, V i] ∧ Kd.R k49 49 w base (fun k => (ok k ∧ some k ≠ u.ownBlock) ∧ f k = i) (V i) l[i].f1 := fun i hi => by
  have e : V i = Classical.choose (hx i hi) := dif_pos hi
  rw [e]
  exact Classical.choose_spec (hx i hi)
 refine ⟨g, cap, V, e0, cur, hg, hb, h3, h1, rfl, fun i hi => ?_, fun i j k hi hj hi2 hj2 => ?_⟩
 ·obtain ⟨e1, e2⟩ := hV i hi
  have hc : ∀ t, t < 2 → cur[i * 2 + t]? = ([.bool l[i].f0, V i] : List Value)[t]? := fun t ht => by
   rw [← e1, List.getElem?_take, if_pos ht, List.getElem?_drop, ← h4, List.getElem?_take, if_pos (by omega), Array.getElem?_toList]
  have eg : l.getD i z45 = l[i] := by simp [List.getD_eq_getElem?_getD, hi]
  rw [eg]
  exact ⟨hc 0 (by omega), hc 1 (by omega), Kd.R_tight rfl e2⟩
 ·have a := ((hV i hi).2.1 k hi2).2; have b := ((hV j hj).2.1 k hj2).2
  omega
theorem laws_markStateS.getD_set (l : List S45) (i j : Nat) (s : S45) (hi : i < l.length) : (l.set i s).getD j z45 = if i = j then s else l.getD j z45 := by
 by_cases e : i = j
 ·subst e
  simp [List.getD_eq_getElem?_getD, hi]
 ·simp [List.getD_eq_getElem?_getD, e]
theorem laws_markStateS.set_mid : ∀ (m : List S45) (t s : S45) (r : List S45), (m ++ t :: r).set m.length s = m ++ s :: r
 | [], _, _, _ => rfl
 | a :: m, t, s, r => by rw [List.cons_append, List.length_cons, List.set_cons_succ, laws_markStateS.set_mid m t s r, List.cons_append]
/-- Behind a store of a bool. -/
theorem laws_markStateS.sh_bool {W : World} {base g cap n : Nat} {V : Nat → Value} {l : List S45} (h : laws_markStateS.Sh W base g cap n V l) (i : Nat) (hi : i < n) (b : Bool) : laws_markStateS.Sh (W.setCell ⟨g, i * 2, none⟩ (.bool b)) base g cap n V (l.set i (⟨b, (l.getD i z45).f1⟩ : S45)) := by
 obtain ⟨cur, hg, hb, hs, hc, hn, hx, hd⟩ := h
 refine ⟨cur.setIfInBounds (i * 2) (.bool b), ?_, hb, by simpa using hs, hc, by rw [List.length_set]; exact hn, fun j hj => ?_, hd⟩
 ·simp [World.setCell, Array.getElem?_modify, hg]
 ·obtain ⟨x1, x2, x4⟩ := hx j hj
  rw [laws_markStateS.getD_set l i j _ (by omega)]
  have x5 : Kd.R k49 49 (W.setCell ⟨g, i * 2, none⟩ (.bool b)) base (fun k => some k = (V j).ownBlock) (V j) (l.getD j z45).f1 := Kd.R_far x4 (fun k hk e1 => by
   have e2 : k = g := e1
   subst e2; obtain ⟨cells, hcl⟩ := Kd.R_typed x4 k hk.symm; rw [hg] at hcl
   injection hcl with hcl
   injection hcl with _ hcl _
   cases hcl) _
  by_cases c : i = j
  ·subst c
   rw [if_pos rfl]
   exact ⟨by rw [Array.getElem?_setIfInBounds_self_of_lt (by omega)], by rw [Array.getElem?_setIfInBounds_ne (by omega)]; exact x2, x5⟩
  ·rw [if_neg c]
   exact ⟨by rw [Array.getElem?_setIfInBounds_ne (by omega)]; exact x1, by rw [Array.getElem?_setIfInBounds_ne (by omega)]; exact x2, x5⟩
/-- Behind the marks of one element's row. -/
theorem laws_markStateS.sh_row {W W1 : World} {base g cap n : Nat} {V : Nat → Value} {l : List S45} (h : laws_markStateS.Sh W base g cap n V l) (i : Nat) (hi : i < n) (hk : Kept W W1 (fun k => some k = (V i).ownBlock)) {e : List S49}
  (hR : Kd.R k49 49 W1 base (fun k => some k = (V i).ownBlock ∨ W.heap.size ≤ k) (V i) e) : laws_markStateS.Sh W1 base g cap n V (l.set i (⟨(l.getD i z45).f0, e⟩ : S45)) := by
 obtain ⟨cur, hg, hb, hs, hc, hn, hx, hd⟩ := h; have hgl := (Array.getElem?_eq_some_iff.1 hg).1
 have hgi : ¬ some g = (V i).ownBlock := fun e1 => by
  obtain ⟨_, _, x4⟩ := hx i hi; obtain ⟨cells, hcl⟩ := Kd.R_typed x4 g e1.symm; rw [hg] at hcl
  injection hcl with hcl
  injection hcl with _ hcl _
  cases hcl
 refine ⟨cur, by rw [hk.2 g hgl hgi]; exact hg, hb, hs, hc, by rw [List.length_set]; exact hn, fun j hj => ?_, hd⟩
 obtain ⟨x1, x2, x4⟩ := hx j hj
 rw [laws_markStateS.getD_set l i j _ (by omega)]
 by_cases c : i = j
 ·subst c
  rw [if_pos rfl]
  exact ⟨x1, x2, Kd.R_tight rfl hR⟩
 ·rw [if_neg c]
  exact ⟨x1, x2, Kd.R_step x4 (fun k ho hlt => hk.2 k hlt (fun e3 => c (hd i j k hi hj e3.symm ho.symm)))⟩
theorem laws_markStateS.cells {W : World} {base g cap n : Nat} {V : Nat → Value} {l : List S45} (h : laws_markStateS.Sh W base g cap n V l) (i : Nat) (hi : i < n) :
  W.cell? ⟨g, i * 2, none⟩ = some (.bool (l.getD i z45).f0) ∧ W.frozen? ⟨g, i * 2, none⟩ = false ∧ W.cell? ⟨g, i * 2 + 1, none⟩ = some (V i) ∧ W.frozen? ⟨g, i * 2 + 1, none⟩ = false ∧
  Kd.R k49 49 W base (fun k => some k = (V i).ownBlock) (V i) (l.getD i z45).f1 ∧ base ≤ g := by
 obtain ⟨cur, hg, hb, hs, hc, hn, hx, hd⟩ := h; obtain ⟨x1, x2, x4⟩ := hx i hi
 refine ⟨?_, ?_, ?_, ?_, x4, hb⟩
 ·simp [World.cell?, hg, x1]
 ·simp [World.frozen?, hg]
 ·simp [World.cell?, hg, x2]
 ·simp [World.frozen?, hg]
theorem laws_markStateS.reads {W : World} {base g cap n : Nat} {V : Nat → Value} {l : List S45} (h : laws_markStateS.Sh W base g cap n V l) (hm : n ≤ 9223372036854775807) : Kd.C k45 W (some ⟨g, 0, none⟩) n l := by
 obtain ⟨cur, hg, hb, hs, hc, hn, hx, hd⟩ := h
 refine ⟨hn.symm, hm, fun _ => ⟨_, rfl, fun j p hj => ?_⟩⟩
 obtain ⟨hjl, rfl⟩ := List.getElem?_eq_some_iff.1 hj
 obtain ⟨x1, x2, x4⟩ := hx j (by omega)
 have eg : l.getD j z45 = l[j] := by simp [List.getD_eq_getElem?_getD, hjl]
 rw [eg] at x1 x4
 obtain ⟨A1, c1, e1, hl1, hC1⟩ := Kd.R_reads x4; rw [e1] at x2
 refine ⟨[.bool l[j].f0, .slice A1 l[j].f1.length c1], rfl, k45_mk W l[j] hl1 hC1, fun i u hu => ?_⟩
 rw [show k45.sz = 2 from rfl]
 have ha : (⟨g, 0, none⟩ : Addr).add (j * 2 + i) = ⟨g, j * 2 + i, none⟩ := by unfold Addr.add; split <;> simp_all
 rw [ha]
 rcases i with _ | _ | i
 ·have : Value.bool l[j].f0 = u := by simpa using hu
  subst this
  simp [World.cell?, hg, x1]
 ·have : Value.slice A1 l[j].f1.length c1 = u := by simpa using hu
  subst this
  simp [World.cell?, hg, x2]
 ·simp at hu
theorem laws_markStateS.calls (u9000_ : Value) (l0 : List S45) (a1 : Int) (r1 : Int) (r2 : List S45) (w0 w : World) (hB : Below w0.heap.size w0 w) (ho0 : ∃ ok, Kd.S k45 45 w w0.heap.size ok u9000_ l0) (h : laws_markStateS.f l0 a1 = some (r1, r2)) :
  Calls Try.prog 13 #[u9000_, .int .i64 a1] w fun e w' => e = .returned (.int .i64 r1) ∧ Below w0.heap.size w0 w' ∧ w.heap.size ≤ w'.heap.size ∧ ∃ A c, u9000_ = .slice A r2.length c ∧ r2.length ≤ c ∧ Kd.C k45 w' A r2.length r2 := by
 obtain ⟨ok, ho⟩ := ho0
 unfold laws_markStateS.f at h
 split at h
 case isFalse => cases h
 rename_i hz; obtain ⟨z1, z2, z3, z4⟩ := hz
 simp only [Option.some.injEq, Prod.mk.injEq] at h
 obtain ⟨rfl, rfl⟩ := h; have HW0 := am hB.size; have HB := am hB; clear hB
 by_cases hp : 0 < l0.length
 ·obtain ⟨g, cap, V, rfl, hsh⟩ := laws_markStateS.sh ho hp
  have HCAP := am (show l0.length ≤ cap by obtain ⟨_, _, _, _, h, _⟩ := hsh; exact h)
  have HS := am hsh; have Z1 := Aside0.mk z1; have Z2 := Aside0.mk z2; have Z3 := Aside0.mk z3; have Z4 := Aside0.mk z4; clear hsh z1 z2 z3 z4 ho ok; go_enter Try.func13, Try.ntmps13; go_wp2
  go_loopg [1, 5] l0.length (fun kq v1 v5 w' => ∃ (i : Nat), v1 = .int .i64 (laws_markStateS.ks (l0.take i) a1) ∧ v5 = .int .i64 (i : Int) ∧ Aside0 (i + kq = l0.length) ∧ Aside0 (laws_markStateS.Sh w' w0.heap.size g cap l0.length V (laws_markStateS.mkS (l0.take i) a1 ++ l0.drop i)) ∧ Aside0 (Below w0.heap.size w0 w') ∧ Aside0 (w.heap.size ≤ w'.heap.size))
  case atStart => exact ⟨0, by simp [laws_markStateS.ks], rfl, ⟨by omega⟩, HS, HB, ⟨Nat.le_refl _⟩⟩
  case round =>
   obtain ⟨i, rfl, rfl, HI, HS, HB, HZ⟩ := hrel
   cases gk with
   | zero =>
    have hi := HI.out
    have c3b0 : decide ((i : Int) < (l0.length : Int)) = false := decide_eq_false (by omega)
    obtain rfl : i = l0.length := by omega
    have HR := am (laws_markStateS.reads HS.out (by have := Z1.out; omega))
    clear hi HS
    rw [List.take_length, List.drop_length, List.append_nil] at *
    go_wp2; go_ret
    exact ⟨rfl, HB.out, HZ.out, _, cap, by rw [laws_markStateS.mkS_length], by rw [laws_markStateS.mkS_length]; exact HCAP.out, by rw [laws_markStateS.mkS_length]; exact HR.out⟩
   | succ k1 =>
    have hi := HI.out
    have hil : i < l0.length := by omega
    have c3b0 : decide ((i : Int) < (l0.length : Int)) = true := decide_eq_true (by omega)
    have hml := laws_markStateS.mkS_length (l0.take i) a1
    rw [List.length_take, Nat.min_eq_left (by omega)] at hml
    have hgd : (laws_markStateS.mkS (l0.take i) a1 ++ l0.drop i).getD i z45 = l0[i] := by
     rw [List.getD_eq_getElem?_getD, List.getElem?_append_right (by omega), hml, Nat.sub_self, List.getElem?_drop, Nat.add_zero, List.getElem?_eq_getElem hil]
     rfl
    have HML := am hml; obtain ⟨s, hs⟩ : ∃ s, l0[i] = s := ⟨_, rfl⟩; rw [hs] at hgd; have HGD := am hgd; have HSI := am (show ∃ h : i < l0.length, l0[i] = s from ⟨hil, hs⟩); obtain ⟨hx0, hf0, hx1, hf1, _, hbg⟩ := laws_markStateS.cells HS.out i hil; have GB := am hbg; have HIL := am hil
    have p5 := eq_true (show 0 ≤ ((i : Nat) : Int) by omega)
    have q5 := eq_true (show ((i : Nat) : Int) < (l0.length : Int) by omega)
    have hks := laws_markStateS.ks_le l0 Z2.out a1 i (by omega)
    have e1 : wrap64 (laws_markStateS.ks (l0.take i) a1 + 1) = laws_markStateS.ks (l0.take i) a1 + 1 := by have := Z1.out; have := Z3.out; have := Z4.out; unfold wrap64; omega
    have e3 : wrap64 ((i : Int) + 1) = ((i + 1 : Nat) : Int) := by have := Z1.out; unfold wrap64; omega
    have KS := am hks; clear hbg hi hs hil hks hml hgd
    go_wp2_with (first
     | (
       (with_reducible refine gate_store (t := 4) (p := 18) rfl ?_)
       refine store_event (t := 4) (p := 18) (v := ?vo_w9) (w1 := (wr.setCell ⟨g, i * 2, none⟩ (.bool (Int.tmod (laws_markStateS.ks (l0.take i) a1) 3 == 0)))) ?hg ?ho ?hn ?hr ?_
       (case ho => rfl); (case hg => rfl); (case hn => rfl); (case hr => first | (go_simp; done) | (go_simp; rfl)); intro w9 hw; have n0_ := am (laws_markStateS.sh_bool HS.out i HIL.out (Int.tmod (laws_markStateS.ks (l0.take i) a1) 3 == 0)); rw [← hw, HGD.out] at n0_
       have n1_ := am (show Below w0.heap.size w0 w9 from by rw [hw]; exact below_set HB.out GB.out)
       replace HZ := am (show w.heap.size ≤ w9.heap.size by rw [hw]; simpa [World.setCell] using HZ.out)
       clear HS HB hx0 hf0 hx1 hf1 hw; have HS := n0_; have HB := n1_; clear n0_ n1_; obtain ⟨_, _, hx1, hf1, hrd, _⟩ := laws_markStateS.cells HS.out i HIL.out; have RD := am hrd
       clear hrd)
     | ((with_reducible refine gate_callee (f := 40) rfl ?_); refine goesL_ (some 27) rfl rfl Try.func40 (by kernel_rfl) rfl #[V i, .int .i64 (laws_markStateS.ks (l0.take i) a1 + 1)] rfl b2_ ?_))
    obtain ⟨_, rfl⟩ := HSI.out
    have hset : ∀ s : S45, (laws_markStateS.mkS (l0.take i) a1 ++ l0.drop i).set i s = laws_markStateS.mkS (l0.take i) a1 ++ s :: l0.drop (i + 1) := fun s => by
     rw [List.drop_eq_getElem_cons HIL.out]
     have h := laws_markStateS.set_mid (laws_markStateS.mkS (l0.take i) a1) l0[i] s (l0.drop (i + 1))
     rwa [HML.out] at h
    have hgs : ∀ s : S45, ((laws_markStateS.mkS (l0.take i) a1 ++ l0.drop i).set i s).getD i z45 = s := fun s => by
     rw [laws_markStateS.getD_set _ i i _ (by rw [List.length_append, HML.out, List.length_drop]; have := HIL.out; omega), if_pos rfl]
    have hle := laws_markStateS.edgeF l0[i].f1 (laws_markStateS.ks (l0.take i) a1 + 1) (by have := Z2.out _ (List.getElem_mem HIL.out); omega) (by have := KS.out; have := Z3.out; omega) (by have := KS.out; have := Z1.out; have := Z4.out; have := HIL.out; omega)
    have hrd := RD.out; rw [hgs] at hrd
    (with_reducible refine (laws_markEdgeS.calls (l0[i].f1.length + 1) (fun k_ => some k_ = (V i).ownBlock) (V i) l0[i].f1 (laws_markStateS.ks (l0.take i) a1 + 1) (laws_markStateS.ks (l0.take i) a1 + 1 + 2 * (l0[i].f1.length : Int)) _ w0 _ HB.out hrd hle).mono ?_)
    rintro e_ w10 ⟨rfl, hR, hb, hkp⟩
    have n0_ := am (laws_markStateS.sh_row HS.out i HIL.out hkp hR); rw [hgs, List.set_set, hset] at n0_; have HB2 := am hb; replace HZ := am (Nat.le_trans HZ.out hkp.1); have hMS := laws_markStateS.mkS_snoc l0[i] (l0.take i) a1; rw [← List.take_succ_eq_append_getElem HIL.out] at hMS
    have HS2 := am (show laws_markStateS.Sh w10 w0.heap.size g cap l0.length V (laws_markStateS.mkS (l0.take (i + 1)) a1 ++ l0.drop (i + 1)) by rw [hMS, List.append_assoc, List.singleton_append]; exact n0_.out)
    clear HS HB hx1 hf1 RD hR hb hkp hle n0_ hrd hMS hset hgs; go_wp2
    have e4 : laws_markStateS.ks (l0.take i) a1 + 1 + 2 * (l0[i].f1.length : Int) = laws_markStateS.ks (l0.take (i + 1)) a1 := (laws_markStateS.ks_snoc l0 i HIL.out a1).symm
    go_roundg k1
    case measure => omega
    case rel => exact ⟨i + 1, by first | (rw [e4]; done) | (simp [*]; done), by first | (rw [e3]; done) | (simp [*]; done), ⟨by have := HI.out; omega⟩, HS2, HB2, HZ⟩
 ·have h0 : l0 = [] := List.length_eq_zero_iff.1 (by omega)
  subst h0; obtain ⟨Ao, co, rfl⟩ := Kd.S_slice ho; go_enter Try.func13, Try.ntmps13; go_wp2
  go_loopg [1, 5] 0 (fun kq v1 v5 w' => v1 = .int .i64 a1 ∧ v5 = .int .i64 0 ∧ w' = w)
  case atStart => exact ⟨rfl, rfl, rfl⟩
  case round =>
   obtain ⟨rfl, rfl, rfl⟩ := hrel; go_wp2; go_ret
   exact ⟨rfl, HB.out, Nat.le_refl _, _, _, rfl, Nat.zero_le _, ⟨rfl, by rw [laws_markStateS.mkS_length]; decide, fun h => absurd h (by rw [laws_markStateS.mkS_length]; decide)⟩⟩
-- shrunk

/-! ### laws_heldEdgeS: function 41 -/
def laws_heldEdgeS.l0 : Nat → List (S49) → Int → Int → Option (Int)
 | 0, _, _, _ => none
 | k + 1, x0, x1, x5 => if x5 < (x0.length : Int) then (if 0 ≤ x5 then (if ((rd_T49 x0 x5).f0) = x1 then (if ((rd_T49 x0 x5).f1) = (wrap64 (x1 + 1)) then (laws_heldEdgeS.l0 k x0 (wrap64 ((wrap64 (x1 + 1)) + 1)) (wrap64 (x5 + 1))) else (some (-1))) else (some (-1))) else (none)) else (some x1)
def laws_heldEdgeS.f (k : Nat) (l0 : List (S49)) (a1 : Int) : Option (Int) := laws_heldEdgeS.l0 k l0 a1 0
theorem laws_heldEdgeS.calls (k : Nat) (A0 : Option Addr) (c0 : Nat) (l0 : List (S49)) (a1 : Int) (r : Int) (w : World) (hr0 : Kd.C k49 w A0 l0.length l0) (hc0 : l0.length ≤ c0) (h : laws_heldEdgeS.f k l0 a1 = some r) :
  Calls Try.prog 41 #[.slice A0 l0.length c0, .int .i64 a1] w fun e w' => e = .returned (.int .i64 r) ∧ Drawn0 w w' := by
 have HR0 := am hr0; have HC0 := am hc0; clear hr0 hc0
 have H : (laws_heldEdgeS.l0 k l0 a1 0) = some r := h
 clear h
 have H' := am H
 clear H; go_enter Try.func41, Try.ntmps41; go_wp2
 go_loopg [1, 5] k (fun kq v1 v5 w' => ∃ (x1_1 : Int) (x5_1 : Int), v1 = .int .i64 x1_1 ∧ v5 = .int .i64 x5_1 ∧ Aside0 (laws_heldEdgeS.l0 kq l0 x1_1 x5_1 = some r) ∧ Aside0 (kq ≤ k) ∧ Drawn0 w w')
 case atStart => exact ⟨(a1), (0), sq, sq, H', ⟨Nat.le_refl _⟩, dr⟩
 case round =>
  clear H'; (try clear p2); obtain ⟨x1_1, x5_1, rfl, rfl, HA, HK1, ⟨m1, rfl⟩⟩ := hrel
  cases gk with
  | zero => exact absurd HA.out (by simp [laws_heldEdgeS.l0])
  | succ k1 =>
   have H := HA.out; clear HA; simp only [laws_heldEdgeS.l0] at H
   by_cases c3 : x5_1 < (l0.length : Int)
   ·rw [if_pos c3] at H; have c3b0 := decide_eq_true c3; clear c3
    replace H := it H; obtain ⟨c4b0, H⟩ := H
    by_cases c5 : ((rd_T49 l0 x5_1).f0) = x1_1
    ·rw [if_pos c5] at H
     have c5b0 : (((rd_T49 l0 x5_1).f0) == x1_1) = true := beq_iff_eq.mpr c5
     have c5b1 : (((rd_T49 l0 x5_1).f0) != x1_1) = false := bne_eq_false_iff_eq.mpr c5
     clear c5
     by_cases c6 : ((rd_T49 l0 x5_1).f1) = (wrap64 (x1_1 + 1))
     ·rw [if_pos c6] at H
      have c6b0 : (((rd_T49 l0 x5_1).f1) == (wrap64 (x1_1 + 1))) = true := beq_iff_eq.mpr c6
      have c6b1 : (((rd_T49 l0 x5_1).f1) != (wrap64 (x1_1 + 1))) = false := bne_eq_false_iff_eq.mpr c6
      clear c6
      have H' := am H
      clear H
      have p269 : 0 ≤ (x5_1 : Int) := of_decide_eq_true ad
      have q269 : x5_1 < (l0.length : Int) := of_decide_eq_true ad
      obtain ⟨ad269, e269, hx269_0, hx269_1⟩ := at_T49 HR0.out x5_1 p269 q269; cases e269; replace p269 := eq_true p269; replace q269 := eq_true q269
      have p270 : 0 ≤ (x5_1 : Int) := of_decide_eq_true ad
      have q270 : x5_1 < (l0.length : Int) := of_decide_eq_true ad
      obtain ⟨ad270, e270, hx270_0, hx270_1⟩ := at_T49 HR0.out x5_1 p270 q270
      obtain rfl : ad269 = ad270 := (by injection e270)
      replace p270 := eq_true p270; replace q270 := eq_true q270; go_wp2
      go_roundg k1
      case measure => have := HK1.out; omega
      case rel => exact ⟨(wrap64 ((wrap64 (x1_1 + 1)) + 1)), (wrap64 (x5_1 + 1)), sq, sq, H', ⟨b11_⟩, dr⟩
     rw [if_neg c6] at H
     have c6b0 : (((rd_T49 l0 x5_1).f1) == (wrap64 (x1_1 + 1))) = false := beq_eq_false_iff_ne.mpr c6
     have c6b1 : (((rd_T49 l0 x5_1).f1) != (wrap64 (x1_1 + 1))) = true := bne_iff_ne.mpr c6
     obtain rfl := Option.some.inj H
     have p269 : 0 ≤ (x5_1 : Int) := of_decide_eq_true ad
     have q269 : x5_1 < (l0.length : Int) := of_decide_eq_true ad
     obtain ⟨ad269, e269, hx269_0, hx269_1⟩ := at_T49 HR0.out x5_1 p269 q269; cases e269; replace p269 := eq_true p269; replace q269 := eq_true q269
     have p270 : 0 ≤ (x5_1 : Int) := of_decide_eq_true ad
     have q270 : x5_1 < (l0.length : Int) := of_decide_eq_true ad
     obtain ⟨ad270, e270, hx270_0, hx270_1⟩ := at_T49 HR0.out x5_1 p270 q270
     obtain rfl : ad269 = ad270 := (by injection e270)
     replace p270 := eq_true p270; replace q270 := eq_true q270; go_wp2; go_ret
     exact ⟨sq, dr⟩
    rw [if_neg c5] at H
    have c5b0 : (((rd_T49 l0 x5_1).f0) == x1_1) = false := beq_eq_false_iff_ne.mpr c5
    have c5b1 : (((rd_T49 l0 x5_1).f0) != x1_1) = true := bne_iff_ne.mpr c5
    obtain rfl := Option.some.inj H
    have p269 : 0 ≤ (x5_1 : Int) := of_decide_eq_true ad
    have q269 : x5_1 < (l0.length : Int) := of_decide_eq_true ad
    obtain ⟨ad269, e269, hx269_0, hx269_1⟩ := at_T49 HR0.out x5_1 p269 q269; cases e269
    replace p269 := eq_true p269; replace q269 := eq_true q269; go_wp2; go_ret
    exact ⟨sq, dr⟩
   rw [if_neg c3] at H; have c3b0 := decide_eq_false c3; clear c3; obtain rfl := Option.some.inj H; go_wp2; go_ret
   exact ⟨sq, dr⟩

/-! ### laws_heldStateS: function 14 -/
def laws_heldStateS.l0 : Nat → List (S45) → Int → Int → Option (Int)
 | 0, _, _, _ => none
 | k + 1, x0, x1, x5 => if x5 < (x0.length : Int) then (if 0 ≤ x5 then (if (((rd_T45 x0 x5).f0) != ((Int.tmod x1 3) == 0)) = true then (some (-1)) else ((laws_heldEdgeS.f k ((rd_T45 x0 x5).f1) (wrap64 (x1 + 1))).bind fun t273 => (if t273 < 0 then (some (-1)) else (laws_heldStateS.l0 k x0 t273 (wrap64 (x5 + 1)))))) else (none)) else (some x1)
def laws_heldStateS.f (k : Nat) (l0 : List (S45)) (a1 : Int) : Option (Int) := laws_heldStateS.l0 k l0 a1 0
theorem laws_heldStateS.calls (k : Nat) (A0 : Option Addr) (c0 : Nat) (l0 : List (S45)) (a1 : Int) (r : Int) (w : World) (hr0 : Kd.C k45 w A0 l0.length l0) (hc0 : l0.length ≤ c0) (h : laws_heldStateS.f k l0 a1 = some r) :
  Calls Try.prog 14 #[.slice A0 l0.length c0, .int .i64 a1] w fun e w' => e = .returned (.int .i64 r) ∧ Drawn0 w w' := by
 have HR0 := am hr0; have HC0 := am hc0; clear hr0 hc0
 have H : (laws_heldStateS.l0 k l0 a1 0) = some r := h
 clear h
 have H' := am H
 clear H; go_enter Try.func14, Try.ntmps14; go_wp2
 go_loopg [1, 5] k (fun kq v1 v5 w' => ∃ (x1_1 : Int) (x5_1 : Int), v1 = .int .i64 x1_1 ∧ v5 = .int .i64 x5_1 ∧ Aside0 (laws_heldStateS.l0 kq l0 x1_1 x5_1 = some r) ∧ Aside0 (kq ≤ k) ∧ Drawn0 w w')
 case atStart => exact ⟨(a1), (0), sq, sq, H', ⟨Nat.le_refl _⟩, dr⟩
 case round =>
  clear H'; (try clear c1); (try clear p2); obtain ⟨x1_1, x5_1, rfl, rfl, HA, HK1, ⟨m1, rfl⟩⟩ := hrel
  cases gk with
  | zero => exact absurd HA.out (by simp [laws_heldStateS.l0])
  | succ k1 =>
   have H := HA.out; clear HA; simp only [laws_heldStateS.l0] at H
   by_cases c3 : x5_1 < (l0.length : Int)
   ·rw [if_pos c3] at H; have c3b0 := decide_eq_true c3; clear c3
    replace H := it H; obtain ⟨c4b0, H⟩ := H
    by_cases c5 : (((rd_T45 l0 x5_1).f0) != ((Int.tmod x1_1 3) == 0)) = true
    ·rw [if_pos c5] at H
     have c5b0 : (((rd_T45 l0 x5_1).f0) != ((Int.tmod x1_1 3) == 0)) = true := c5
     (try (have c5b1 : decide (((rd_T45 l0 x5_1).f0) = ((Int.tmod x1_1 3) == 0)) = false := by simpa using c5))
     (try (have c5b2 : (((rd_T45 l0 x5_1).f0) == ((Int.tmod x1_1 3) == 0)) = false := by simpa using c5))
     (try (have c5b3 : ¬ (((rd_T45 l0 x5_1).f0) = ((Int.tmod x1_1 3) == 0)) := by simpa using c5))
     clear c5; obtain rfl := Option.some.inj H
     have p271 : 0 ≤ (x5_1 : Int) := of_decide_eq_true ad
     have q271 : x5_1 < (l0.length : Int) := of_decide_eq_true ad
     obtain ⟨ad271, A271_1, c271_1, e271, hx271_0, hx271_1, hl271_1, hi271_1⟩ := at_T45 HR0.out x5_1 p271 q271; cases e271
     have HR271_1 := am hi271_1; have HC271_1 := am hl271_1; clear hi271_1 hl271_1; replace p271 := eq_true p271; replace q271 := eq_true q271; go_wp2; go_ret
     exact ⟨sq, dr⟩
    rw [if_neg c5] at H
    have c5b0 : (((rd_T45 l0 x5_1).f0) != ((Int.tmod x1_1 3) == 0)) = false := by simpa using c5
    (try (have c5b1 : decide (((rd_T45 l0 x5_1).f0) = ((Int.tmod x1_1 3) == 0)) = true := by simpa using c5))
    (try (have c5b2 : (((rd_T45 l0 x5_1).f0) == ((Int.tmod x1_1 3) == 0)) = true := by simpa using c5))
    clear c5; replace H := bs H; obtain ⟨t273, A60, H⟩ := H; (try dsimp only at H); have A6 := Aside0.mk A60; clear A60
    by_cases c7 : t273 < 0
    ·rw [if_pos c7] at H; have c7b0 := decide_eq_true c7; clear c7; obtain rfl := Option.some.inj H
     have p271 : 0 ≤ (x5_1 : Int) := of_decide_eq_true ad
     have q271 : x5_1 < (l0.length : Int) := of_decide_eq_true ad
     obtain ⟨ad271, A271_1, c271_1, e271, hx271_0, hx271_1, hl271_1, hi271_1⟩ := at_T45 HR0.out x5_1 p271 q271; cases e271; have HR271_1 := am hi271_1; have HC271_1 := am hl271_1; clear hi271_1 hl271_1; replace p271 := eq_true p271; replace q271 := eq_true q271
     have p272 : 0 ≤ (x5_1 : Int) := of_decide_eq_true ad
     have q272 : x5_1 < (l0.length : Int) := of_decide_eq_true ad
     obtain ⟨ad272, A272_1, c272_1, e272, hx272_0, hx272_1, hl272_1, hi272_1⟩ := at_T45 HR0.out x5_1 p272 q272
     obtain rfl : ad271 = ad272 := (by injection e272)
     have HR272_1 := am hi272_1; have HC272_1 := am hl272_1; clear hi272_1 hl272_1; replace p272 := eq_true p272; replace q272 := eq_true q272; have ea_ := Option.some.inj (hx271_1.symm.trans hx272_1)
     injection ea_ with ea_ en_ ec_
     subst ea_; subst ec_; clear en_
     go_wp2_with (first | ((with_reducible refine gate_callee (f := 41) rfl ?_); refine gl 29 Try.func41 #[.slice A271_1 ((rd_T45 l0 x5_1).f1).length c271_1, .int .i64 (wrap64 (x1_1 + 1))] ?_; (with_reducible refine (laws_heldEdgeS.calls k1 _ _ ((rd_T45 l0 x5_1).f1) (wrap64 (x1_1 + 1)) t273 _ ?side1 ?side2 A6.out).mono ?_); (case side1 => repeat (first | exact HR272_1.out | (with_reducible refine Kd.C_alloc ?_ _) | (with_reducible refine Kd.C_drewN ?_ _) | (with_reducible refine Kd.C_drew ?_))); (case side2 => exact HC272_1.out); rintro e w' ⟨rfl, ⟨nd, rfl⟩⟩; refine ⟨_, rfl, ?_⟩))
     go_ret
     exact ⟨sq, dr⟩
    rw [if_neg c7] at H; have c7b0 := decide_eq_false c7; clear c7
    have H' := am H
    clear H
    have p271 : 0 ≤ (x5_1 : Int) := of_decide_eq_true ad
    have q271 : x5_1 < (l0.length : Int) := of_decide_eq_true ad
    obtain ⟨ad271, A271_1, c271_1, e271, hx271_0, hx271_1, hl271_1, hi271_1⟩ := at_T45 HR0.out x5_1 p271 q271; cases e271; have HR271_1 := am hi271_1; have HC271_1 := am hl271_1; clear hi271_1 hl271_1; replace p271 := eq_true p271; replace q271 := eq_true q271
    have p272 : 0 ≤ (x5_1 : Int) := of_decide_eq_true ad
    have q272 : x5_1 < (l0.length : Int) := of_decide_eq_true ad
    obtain ⟨ad272, A272_1, c272_1, e272, hx272_0, hx272_1, hl272_1, hi272_1⟩ := at_T45 HR0.out x5_1 p272 q272
    obtain rfl : ad271 = ad272 := (by injection e272)
    have HR272_1 := am hi272_1; have HC272_1 := am hl272_1; clear hi272_1 hl272_1; replace p272 := eq_true p272; replace q272 := eq_true q272; have ea_ := Option.some.inj (hx271_1.symm.trans hx272_1)
    injection ea_ with ea_ en_ ec_
    subst ea_; subst ec_; clear en_
    go_wp2_with (first | ((with_reducible refine gate_callee (f := 41) rfl ?_); refine gl 29 Try.func41 #[.slice A271_1 ((rd_T45 l0 x5_1).f1).length c271_1, .int .i64 (wrap64 (x1_1 + 1))] ?_; (with_reducible refine (laws_heldEdgeS.calls k1 _ _ ((rd_T45 l0 x5_1).f1) (wrap64 (x1_1 + 1)) t273 _ ?side1 ?side2 A6.out).mono ?_); (case side1 => repeat (first | exact HR272_1.out | (with_reducible refine Kd.C_alloc ?_ _) | (with_reducible refine Kd.C_drewN ?_ _) | (with_reducible refine Kd.C_drew ?_))); (case side2 => exact HC272_1.out); rintro e w' ⟨rfl, ⟨nd, rfl⟩⟩; refine ⟨_, rfl, ?_⟩))
    go_roundg k1
    case measure => have := HK1.out; omega
    case rel => exact ⟨(t273), (wrap64 (x5_1 + 1)), sq, sq, H', ⟨b11_⟩, dr⟩
   rw [if_neg c3] at H; have c3b0 := decide_eq_false c3; clear c3; obtain rfl := Option.some.inj H; go_wp2; go_ret
   exact ⟨sq, dr⟩

/-! ### laws_FnExactMachineOf: function 3 -/
def laws_FnExactMachineOf.f (k : Nat) (l0 : List ByteArray) : Option Bool :=
 (laws_szStringS.f k l0 1048576).bind fun left => if left < 0 then some true else (laws_toStringS.f k l0).bind fun x => (spec_MachineOf.f k x).bind fun w => (impl_MachineOf.f k x).bind fun g => (laws_eqStateS.f k g.1 w.1).bind fun e1 => (laws_eqStringS.f k x x).bind fun e2 => (laws_markStringS.f k x 1).bind fun mk => (laws_markStateS.f g.1 1).bind fun ms => (laws_heldStateS.f k ms.2 1).bind fun q => if e1 = true ∧ g.2 = w.2 ∧ e2 = true ∧ 0 ≤ mk.1 ∧ 0 ≤ q ∧ q = ms.1 then some true else none
def laws_FnExactMachineOf.upto (w : World) (n : Nat) : World := { w with heap := w.heap.extract 0 n }
theorem laws_FnExactMachineOf.upto_size {w : World} {n : Nat} (h : n ≤ w.heap.size) : (laws_FnExactMachineOf.upto w n).heap.size = n := by
 simp [laws_FnExactMachineOf.upto, h]
theorem laws_FnExactMachineOf.upto_below {w : World} {n : Nat} (h : n ≤ w.heap.size) : Below (laws_FnExactMachineOf.upto w n).heap.size (laws_FnExactMachineOf.upto w n) w := by
 rw [laws_FnExactMachineOf.upto_size h]
 refine ⟨rfl, rfl, rfl, by rw [laws_FnExactMachineOf.upto_size h]; exact h, fun i hi => ?_⟩
 simp [laws_FnExactMachineOf.upto, Array.getElem?_extract]
 omega
theorem laws_FnExactMachineOf.upto_from {w w' : World} {n : Nat} (h : n ≤ w.heap.size) (hb : Below (laws_FnExactMachineOf.upto w n).heap.size (laws_FnExactMachineOf.upto w n) w') (hs : w.heap.size ≤ w'.heap.size) : Below n w w' := by
 rw [laws_FnExactMachineOf.upto_size h] at hb
 refine ⟨hb.os, hb.tape, hb.output, hs, fun i hi => ?_⟩
 rw [hb.block i hi]
 simp [laws_FnExactMachineOf.upto, Array.getElem?_extract]
 omega
theorem laws_FnExactMachineOf.below2 {a b c : World} (h : Below a.heap.size a b) {n : Nat} (hn : a.heap.size ≤ n) (k : Below n b c) : Below a.heap.size a c := h.trans (k.mono hn)
theorem laws_FnExactMachineOf.calls (k : Nat) (A0 : Option Addr) (c0 : Nat) (l0 : List ByteArray) (r : Bool) (w : World) (hr0 : Kd.C Kd.string w A0 l0.length l0) (hc0 : l0.length ≤ c0) (h : laws_FnExactMachineOf.f k l0 = some r) :
  Calls Try.prog 3 #[.slice A0 l0.length c0] w fun e w' => e = .returned (.bool r) ∧ Below w.heap.size w w' := by
 unfold laws_FnExactMachineOf.f at h
 obtain ⟨left, h6, h⟩ := Option.bind_eq_some_iff.1 h; have HR0 := am hr0; have HC0 := am hc0; have A6 := am h6; clear hr0 hc0 h6
 by_cases cl : left < 0
 ·rw [if_pos cl] at h; obtain rfl := Option.some.inj h; have c1b0 := decide_eq_true cl; clear cl h; go_enter Try.func3, Try.ntmps3
  go_wp2_with (go_at_call 6; refine (laws_szStringS.calls k A0 c0 l0 1048576 left _ HR0.out HC0.out A6.out).mono ?_; rintro e w' ⟨rfl, ⟨nd, rfl⟩⟩)
  go_ret
  exact ⟨rfl, pw_below_drewN (Below.refl _ _) nd⟩
 rw [if_neg cl] at h; obtain ⟨x, hx, h⟩ := Option.bind_eq_some_iff.1 h; obtain ⟨⟨wl, wb⟩, hw, h⟩ := Option.bind_eq_some_iff.1 h; obtain ⟨⟨gl, gb⟩, hg, h⟩ := Option.bind_eq_some_iff.1 h; obtain ⟨e1, he1, h⟩ := Option.bind_eq_some_iff.1 h; obtain ⟨e2, he2, h⟩ := Option.bind_eq_some_iff.1 h; obtain ⟨⟨mk, mx_⟩, hmk, h⟩ := Option.bind_eq_some_iff.1 h; obtain ⟨⟨ms, ml⟩, hms, h⟩ := Option.bind_eq_some_iff.1 h; obtain ⟨q, hq, h⟩ := Option.bind_eq_some_iff.1 h
 dsimp only at hw hg he1 he2 hmk hms hq h
 by_cases hc : e1 = true ∧ gb = wb ∧ e2 = true ∧ 0 ≤ mk ∧ 0 ≤ q ∧ q = ms
 case neg =>
  rw [if_neg hc] at h
  cases h
 rw [if_pos hc] at h; obtain rfl := Option.some.inj h; clear h; obtain ⟨rfl, rfl, rfl, hk0, hq0, rfl⟩ := hc; have c1b0 := decide_eq_false cl
 have c2b0 : decide (mk < 0) = false := decide_eq_false (by omega)
 have c3b0 : decide (q < 0) = false := decide_eq_false (by omega)
 have AX := am hx; have AW := am hw; have AG := am hg; have AE1 := am he1; have AE2 := am he2; have AMK := am hmk; have AMS := am hms; have AQ := am hq; clear hx hw hg he1 he2 hmk hms hq hk0 hq0 cl; go_enter Try.func3, Try.ntmps3
 go_wp2_with (first
  | (
    (with_reducible refine gate_dst (N := 16) rfl ?_)
    refine goesL_ (some 16) rfl rfl Try.func6 (by kernel_rfl) rfl #[.slice A0 l0.length c0, .int .i64 1048576] rfl b2_ ?_
    refine (laws_szStringS.calls k A0 c0 l0 1048576 left _ HR0.out HC0.out A6.out).mono ?_
    rintro e w' ⟨rfl, ⟨nd, rfl⟩⟩
    refine ⟨_, rfl, ?_⟩
    have HB := am (pw_below_drewN (Below.refl w.heap.size w) nd))
  | (
    (with_reducible refine gate_dst (N := 21) rfl ?_)
    refine goesL_ (some 21) rfl rfl Try.func8 (by kernel_rfl) rfl #[.slice A0 l0.length c0] rfl b2_ ?_
    refine (laws_toStringS.calls k A0 c0 l0 x _ (Kd.C_below HR0.out HB.out) HC0.out AX.out).mono ?_
    rintro e w1 ⟨v21, rfl, ho, hb⟩; refine ⟨_, rfl, ?_⟩; obtain ⟨A21, c21, e21, hc21, hC21⟩ := Kd.R_reads ho; subst e21; have HC21 := am hC21; have HL21 := am hc21; replace HB := am (below_step HB.out hb)
    clear ho hb hC21 hc21)
  | (
    (with_reducible refine gate_dst (N := 22) rfl ?_)
    refine goesL_ (some 22) rfl rfl Try.func7 (by kernel_rfl) rfl #[.slice A21 x.length c21] rfl b2_ ?_
    refine (spec_MachineOf.calls k A21 c21 x wl _ _ HC21.out HL21.out AW.out).mono ?_
    rintro e wB ⟨v22, rfl, ho, hb⟩
    refine ⟨_, rfl, ?_⟩; obtain ⟨Aw, cw, ew, hcw, hCw⟩ := Kd.S_reads ho; subst ew; have HCW := am hCw; have HLW := am hcw; have HBW := am (below_step HB.out hb); have HBB := am (Below.refl wB.heap.size wB)
    clear ho hb hCw hcw HB HC21 HL21)
  | (
    (with_reducible refine gate_dst (N := 26) rfl ?_)
    refine goesL_ (some 26) rfl rfl Try.func8 (by kernel_rfl) rfl #[.slice A0 l0.length c0] rfl b2_ ?_
    refine (laws_toStringS.calls k A0 c0 l0 x _ (Kd.C_below HR0.out (below_step HBW.out HBB.out)) HC0.out AX.out).mono ?_
    rintro e w4 ⟨v26, rfl, ho, hb⟩; refine ⟨_, rfl, ?_⟩; have HX0 := am (Kd.R_lower ho (below_size HBB.out)); obtain ⟨Ax, cx, ex⟩ := Kd.R_slice HX0.out; subst ex; replace HBB := am (below_step HBB.out hb); have HWC := am (below_size HBB.out); have HXL := am (Kd.R_lt HX0.out); have HSZ := am (Nat.le_refl w4.heap.size)
    clear ho hb)
  | (
    (with_reducible refine gate_dst (N := 29) rfl ?_)
    refine goesL_ (some 29) rfl rfl Try.func9 (by kernel_rfl) rfl #[.slice Ax x.length cx] rfl b2_ ?_
    refine (impl_MachineOf.calls k Ax cx x gl _ _ (Kd.R_reads' HX0.out).2.2 (Kd.R_reads' HX0.out).2.1 AG.out).mono ?_
    rintro e w5 ⟨v29, rfl, ho, hb⟩; refine ⟨_, rfl, ?_⟩; have HG := am ho; obtain ⟨Ag, cg, eg⟩ := Kd.S_slice HG.out; subst eg; replace HX0 := am (Kd.R_below HX0.out hb); replace HSZ := am (Nat.le_trans HSZ.out (below_size hb)); replace HBB := am (below_step HBB.out hb)
    clear ho hb)
  | (
    (with_reducible refine gate_dst (N := 34) rfl ?_)
    refine goesL_ (some 34) rfl rfl Try.func10 (by kernel_rfl) rfl #[.slice Ag gl.length cg, .slice Aw wl.length cw] rfl b2_ ?_
    refine (laws_eqStateS.calls k Ag cg gl Aw cw wl true _ (Kd.S_reads' HG.out).2.2 (Kd.S_reads' HG.out).2.1 (Kd.C_below HCW.out HBB.out) HLW.out AE1.out).mono ?_
    rintro e w6 ⟨rfl, hb⟩; refine ⟨_, rfl, ?_⟩; replace HG := am (Kd.S_below HG.out hb); replace HX0 := am (Kd.R_below HX0.out hb); replace HSZ := am (Nat.le_trans HSZ.out (below_size hb)); replace HBB := am (below_step HBB.out hb)
    clear hb)
  | (
    (with_reducible refine gate_dst (N := 43) rfl ?_)
    refine goesL_ (some 43) rfl rfl Try.func8 (by kernel_rfl) rfl #[.slice A0 l0.length c0] rfl b2_ ?_
    refine (laws_toStringS.calls k A0 c0 l0 x _ (Kd.C_below HR0.out (below_step HBW.out HBB.out)) HC0.out AX.out).mono ?_
    rintro e w7 ⟨v43, rfl, ho, hb⟩; refine ⟨_, rfl, ?_⟩; obtain ⟨A43, c43, e43, hc43, hC43⟩ := Kd.R_reads ho; subst e43; have HC43 := am hC43; have HL43 := am hc43; replace HG := am (Kd.S_below HG.out hb); replace HX0 := am (Kd.R_below HX0.out hb); replace HSZ := am (Nat.le_trans HSZ.out (below_size hb)); replace HBB := am (below_step HBB.out hb)
    clear ho hb hC43 hc43)
  | (
    (with_reducible refine gate_dst (N := 44) rfl ?_)
    refine goesL_ (some 44) rfl rfl Try.func11 (by kernel_rfl) rfl #[.slice Ax x.length cx, .slice A43 x.length c43] rfl b2_ ?_
    refine (laws_eqStringS.calls k Ax cx x A43 c43 x true _ (Kd.R_reads' HX0.out).2.2 (Kd.R_reads' HX0.out).2.1 HC43.out HL43.out AE2.out).mono ?_
    rintro e w8 ⟨rfl, ⟨nd2, rfl⟩⟩; refine ⟨_, rfl, ?_⟩; replace HG := am (Kd.S_drewN HG.out nd2); replace HX0 := am (Kd.R_drewN HX0.out nd2); replace HBB := am (pw_below_drewN HBB.out nd2)
    clear HC43 HL43)
  | (
    (with_reducible refine gate_dst (N := 48) rfl ?_)
    refine goesL_ (some 48) rfl rfl Try.func12 (by kernel_rfl) rfl #[.slice Ax x.length cx, .int .i64 1] rfl b2_ ?_
    refine (laws_markStringS.calls k (fun k_ => some k_ = (.slice Ax x.length cx : Value).ownBlock) (.slice Ax x.length cx) x 1 mk mx_ wB _ HBB.out (Kd.R_tight rfl HX0.out) AMK.out).mono ?_
    rintro e w9 ⟨rfl, ho, hb, hkp⟩; refine ⟨_, rfl, ?_⟩
    replace HG := am (Kd.S_mono (ok' := fun _ => True) (Kd.S_step (Kd.S_bound HG.out) (fun k_ ho_ hlt => hkp.2 k_ hlt (fun e_ => by have h1 := HXL.out k_ e_.symm; have h2 := ho_.2.1; omega))) (fun _ _ => trivial))
    replace HSZ := am (Nat.le_trans HSZ.out hkp.1); replace HBB := am hb
    clear ho hb hkp HX0 HXL)
  | (
    go_at_call 10
    refine (laws_eqStateS.calls k Ag cg gl Aw cw wl true _ (Kd.S_reads' HG.out).2.2 (Kd.S_reads' HG.out).2.1 (Kd.C_below HCW.out HBB.out) HLW.out AE1.out).mono ?_
    rintro e w10 ⟨rfl, hb⟩; replace HG := am (Kd.S_below HG.out hb); replace HSZ := am (Nat.le_trans HSZ.out (below_size hb)); replace HBB := am (below_step HBB.out hb)
    clear hb)
  | (
    (with_reducible refine gate_dst (N := 64) rfl ?_)
    refine goesL_ (some 64) rfl rfl Try.func13 (by kernel_rfl) rfl #[.slice Ag gl.length cg, .int .i64 1] rfl b2_ ?_
    refine (laws_markStateS.calls (.slice Ag gl.length cg) gl 1 _ ml _ _ (laws_FnExactMachineOf.upto_below HSZ.out) ⟨_, by rw [laws_FnExactMachineOf.upto_size HSZ.out]; exact HG.out⟩ AMS.out).mono ?_
    rintro e w11 ⟨rfl, hb, hsz, Am, cm, em, hcm, hCm⟩; refine ⟨_, rfl, ?_⟩
    injection em with em1 em2 em3
    subst em1; subst em3; have HCM := am hCm; have HCG := am hcm; replace HBB := am (laws_FnExactMachineOf.below2 HBB.out HWC.out (laws_FnExactMachineOf.upto_from HSZ.out hb hsz))
    rw [em2]
    clear hb hsz hCm hcm em2 HG HSZ)
  | (
    (with_reducible refine gate_dst (N := 67) rfl ?_)
    refine goesL_ (some 67) rfl rfl Try.func14 (by kernel_rfl) rfl #[.slice Ag ml.length cg, .int .i64 1] rfl b2_ ?_
    refine (laws_heldStateS.calls k Ag cg ml 1 _ _ HCM.out HCG.out AQ.out).mono ?_
    rintro e w12 ⟨rfl, ⟨nd3, rfl⟩⟩; refine ⟨_, rfl, ?_⟩
    replace HCM := am (Kd.C_drewN HCM.out nd3); replace HBB := am (pw_below_drewN HBB.out nd3))
  | (
    (with_reducible refine gate_dst (N := 75) rfl ?_)
    refine goesL_ (some 75) rfl rfl Try.func8 (by kernel_rfl) rfl #[.slice A0 l0.length c0] rfl b2_ ?_
    refine (laws_toStringS.calls k A0 c0 l0 x _ (Kd.C_below HR0.out (below_step HBW.out HBB.out)) HC0.out AX.out).mono ?_
    rintro e w13 ⟨v75, rfl, ho, hb⟩; refine ⟨_, rfl, ?_⟩; obtain ⟨A75, c75, e75, hc75, hC75⟩ := Kd.R_reads ho; subst e75; have HC75 := am hC75; have HL75 := am hc75; replace HCM := am (Kd.C_below HCM.out hb); replace HBB := am (below_step HBB.out hb)
    clear ho hb hC75 hc75)
  | (
    (with_reducible refine gate_dst (N := 76) rfl ?_)
    refine goesL_ (some 76) rfl rfl Try.func9 (by kernel_rfl) rfl #[.slice A75 x.length c75] rfl b2_ ?_
    refine (impl_MachineOf.calls k A75 c75 x gl _ _ HC75.out HL75.out AG.out).mono ?_
    rintro e w14 ⟨v76, rfl, ho, hb⟩; refine ⟨_, rfl, ?_⟩; obtain ⟨Ah, ch, eh, hch, hCh⟩ := Kd.S_reads ho; subst eh; have HCH := am hCh; have HLH := am hch; replace HCM := am (Kd.C_below HCM.out hb); replace HBB := am (below_step HBB.out hb)
    clear ho hb hCh hch HC75 HL75)
  | (
    (with_reducible refine gate_dst (N := 81) rfl ?_)
    refine goesL_ (some 81) rfl rfl Try.func10 (by kernel_rfl) rfl #[.slice Ah gl.length ch, .slice Aw wl.length cw] rfl b2_ ?_
    refine (laws_eqStateS.calls k Ah ch gl Aw cw wl true _ HCH.out HLH.out (Kd.C_below HCW.out HBB.out) HLW.out AE1.out).mono ?_
    rintro e w15 ⟨rfl, hb⟩; refine ⟨_, rfl, ?_⟩; replace HCM := am (Kd.C_below HCM.out hb); replace HBB := am (below_step HBB.out hb)
    clear hb)
  | (
    (with_reducible refine gate_dst (N := 90) rfl ?_)
    refine goesL_ (some 90) rfl rfl Try.func14 (by kernel_rfl) rfl #[.slice Ag ml.length cg, .int .i64 1] rfl b2_ ?_
    refine (laws_heldStateS.calls k Ag cg ml 1 _ _ HCM.out HCG.out AQ.out).mono ?_
    rintro e w16 ⟨rfl, ⟨nd4, rfl⟩⟩; refine ⟨_, rfl, ?_⟩
    replace HBB := am (pw_below_drewN HBB.out nd4)))
 go_ret
 exact ⟨rfl, below_step HBW.out HBB.out⟩
end Go.Proofs.Ytpljfjbhlboffaa.QFnExactMachineOf

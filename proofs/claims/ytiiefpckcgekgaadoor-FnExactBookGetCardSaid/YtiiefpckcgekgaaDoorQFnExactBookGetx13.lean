import Derived.Test.YtiiefpckcgekgaaDoorQFnExactBookGetx0
import Derived.Test.YtiiefpckcgekgaaDoorQFnExactBookGetx10
import Derived.Test.YtiiefpckcgekgaaDoorVMSh2
namespace Go.Proofs.YtiiefpckcgekgaaDoor.QFnExactBookGet
open Go.RowKit Go.Proofs.YtiiefpckcgekgaaDoorW.PrintWords Go.Proofs.YtiiefpckcgekgaaDoorW.PrintLast Go.Proofs.YtiiefpckcgekgaaDoorW.PrintMore Go.Proofs.YtiiefpckcgekgaaDoor.Sh
attribute [local go_sem] max2_int min2_int max_two min_two max_three min_three max_four min_four
set_option linter.unusedVariables false
set_option linter.unusedSimpArgs false
set_option maxHeartbeats 8000000
set_option maxRecDepth 100000
-- shrunk

/-! ### laws_eqBook: function 7 -/
def laws_eqBook.f (k : Nat) (l0_0 : List (S40)) (l0_1 : List (S43)) (l1_0 : List (S40)) (l1_1 : List (S43)) : Option (Bool) := (laws_eqAffixS.f k l0_0 l1_0).bind fun t288 => (if t288 = true then ((laws_eqEntryS.f k l0_1 l1_1).bind fun t289 => (if t289 = true then (some true) else (some false))) else (some false))
theorem laws_eqBook.calls (k : Nat) (A0_0 : Option Addr) (c0_0 : Nat) (l0_0 : List (S40)) (A0_1 : Option Addr) (c0_1 : Nat) (l0_1 : List (S43)) (A1_0 : Option Addr) (c1_0 : Nat) (l1_0 : List (S40)) (A1_1 : Option Addr) (c1_1 : Nat) (l1_1 : List (S43)) (r : Bool) (w : World) (hr0_0 : Kd.C k40 w A0_0 l0_0.length l0_0) (hc0_0 : l0_0.length ≤ c0_0) (hr0_1 : Kd.C k43 w A0_1 l0_1.length l0_1) (hc0_1 : l0_1.length ≤ c0_1) (hr1_0 : Kd.C k40 w A1_0 l1_0.length l1_0) (hc1_0 : l1_0.length ≤ c1_0) (hr1_1 : Kd.C k43 w A1_1 l1_1.length l1_1) (hc1_1 : l1_1.length ≤ c1_1) (h : laws_eqBook.f k l0_0 l0_1 l1_0 l1_1 = some r) :
  Calls Tryd.prog 7 #[.agg #[.slice A0_0 l0_0.length c0_0, .slice A0_1 l0_1.length c0_1], .agg #[.slice A1_0 l1_0.length c1_0, .slice A1_1 l1_1.length c1_1]] w fun e w' => e = .returned (.bool r) ∧ Below w.heap.size w w' := by
 have hu25 := Tryd.underlying25; have HR0_0 := am hr0_0; have HC0_0 := am hc0_0; clear hr0_0 hc0_0; have HR0_1 := am hr0_1; have HC0_1 := am hc0_1; clear hr0_1 hc0_1; have HR1_0 := am hr1_0; have HC1_0 := am hc1_0; clear hr1_0 hc1_0; have HR1_1 := am hr1_1; have HC1_1 := am hc1_1; clear hr1_1 hc1_1; have HB := am (Below.refl w.heap.size w)
 have H : ((laws_eqAffixS.f k l0_0 l1_0).bind fun t288 => (if t288 = true then ((laws_eqEntryS.f k l0_1 l1_1).bind fun t289 => (if t289 = true then (some true) else (some false))) else (some false))) = some r := h
 clear h; replace H := bs H; obtain ⟨t288, A30, H⟩ := H; replace H : (if t288 = true then ((laws_eqEntryS.f k l0_1 l1_1).bind fun t289 => (if t289 = true then (some true) else (some false))) else (some false)) = some r := H; have A3 := Aside0.mk A30; clear A30
 by_cases c4 : t288 = true
 ·subst c4
  have H1 : ((laws_eqEntryS.f k l0_1 l1_1).bind fun t289 => (if t289 = true then (some true) else (some false))) = some r := b10_
  replace H := H1; clear H1
  replace H := bs H; obtain ⟨t289, A50, H⟩ := H; replace H : (if t289 = true then (some true) else (some false)) = some r := H; have A5 := Aside0.mk A50; clear A50
  by_cases c6 : t289 = true
  ·subst c6
   have H1 : (some true) = some r := b10_
   replace H := H1; clear H1
   obtain rfl := Option.some.inj H; go_enter Tryd.func7, Tryd.ntmps7
   go_wp2_with (first | ((with_reducible refine gate_dst (N := 2) rfl ?_); refine bx 2 (cs := #[.slice A0_0 l0_0.length c0_0, .slice A0_1 l0_1.length c0_1]) (t := 25) ?_; intro gb286 hg w7 hbox hb; have BK286 := am (hbox); have GW286 := am ((b2_ : w.heap.size ≤ gb286)); have GE286 := am ((b2_ : w.heap.size ≤ gb286)); replace HB := am (below_step bel hb); clear hb hbox hg) | ((with_reducible refine gate_dst (N := 3) rfl ?_); refine bx 3 (cs := #[.slice A1_0 l1_0.length c1_0, .slice A1_1 l1_1.length c1_1]) (t := 25) ?_; intro gb287 hg w8 hbox hb; have BK287 := am (hbox); have GW287 := am ((b40_ : w.heap.size ≤ gb287)); have GE287 := am ((b40_ : w.heap.size ≤ gb287)); replace HB := am (below_step (bel1 GE286.out) hb); have NB286_287 := am ((b26_ : gb286 ≠ gb287)); have NB287_286 := am ((b27_ : gb287 ≠ gb286)); replace BK286 := am (blk_below (g := gb286) (o := .cells #[.slice A0_0 l0_0.length c0_0, .slice A0_1 l0_1.length c0_1] 25 (0, 0)) (bq BK286.out) hb); clear hb hbox hg; have hnb9 := NB286_287.out; have hnc9 := NB287_286.out; have hcz10_0 := bc BK286.out 0; have hcz10_1 := bc BK286.out 1; have hfz10_0 := bf BK286.out 0; have hfz10_1 := bf BK286.out 1; have hcz11_0 := bc BK287.out 0; have hcz11_1 := bc BK287.out 1; have hfz11_0 := bf BK287.out 0; have hfz11_1 := bf BK287.out 1) | ((with_reducible refine gate_callee (f := 25) rfl ?_); refine goesL_ (some 9) rfl rfl Tryd.func25 (by kernel_rfl) rfl #[.slice A0_0 l0_0.length c0_0, .slice A1_0 l1_0.length c1_0] rfl mq ?_; (with_reducible refine (laws_eqAffixS.calls k _ _ l0_0 _ _ l1_0 true _ ?side1 ?side2 ?side3 ?side4 A3.out).mono ?_); (case side1 => exact cq (Kd.C_below HR0_0.out HB.out)); (case side2 => exact HC0_0.out); (case side3 => exact cq (Kd.C_below HR1_0.out HB.out)); (case side4 => exact HC1_0.out); rintro e w12 ⟨rfl, hb⟩; refine ⟨_, rfl, ?_⟩; replace BK286 := am (blk_below (g := gb286) (o := .cells #[.slice A0_0 l0_0.length c0_0, .slice A0_1 l0_1.length c0_1] 25 (0, 0)) (bq BK286.out) hb); replace BK287 := am (blk_below (g := gb287) (o := .cells #[.slice A1_0 l1_0.length c1_0, .slice A1_1 l1_1.length c1_1] 25 (0, 0)) (bq BK287.out) hb); replace HB := am (below_step (bel2 GE286.out GE287.out) hb); (try clear hb); (try clear hb2); (try clear hk); (try clear hi); have hcz13_0 := bc BK286.out 0; have hcz13_1 := bc BK286.out 1; have hfz13_0 := bf BK286.out 0; have hfz13_1 := bf BK286.out 1; have hcz14_0 := bc BK287.out 0; have hcz14_1 := bc BK287.out 1; have hfz14_0 := bf BK287.out 0; have hfz14_1 := bf BK287.out 1) | ((with_reducible refine gate_callee (f := 26) rfl ?_); refine goesL_ (some 15) rfl rfl Tryd.func26 (by kernel_rfl) rfl #[.slice A0_1 l0_1.length c0_1, .slice A1_1 l1_1.length c1_1] rfl mq ?_; (with_reducible refine (laws_eqEntryS.calls k _ _ l0_1 _ _ l1_1 true _ ?side1 ?side2 ?side3 ?side4 A5.out).mono ?_); (case side1 => exact cq (Kd.C_below HR0_1.out HB.out)); (case side2 => exact HC0_1.out); (case side3 => exact cq (Kd.C_below HR1_1.out HB.out)); (case side4 => exact HC1_1.out); rintro e w15 ⟨rfl, hb⟩; refine ⟨_, rfl, ?_⟩; replace BK286 := am (blk_below (g := gb286) (o := .cells #[.slice A0_0 l0_0.length c0_0, .slice A0_1 l0_1.length c0_1] 25 (0, 0)) (bq BK286.out) hb); replace BK287 := am (blk_below (g := gb287) (o := .cells #[.slice A1_0 l1_0.length c1_0, .slice A1_1 l1_1.length c1_1] 25 (0, 0)) (bq BK287.out) hb); replace HB := am (below_step (bel2 GE286.out GE287.out) hb); (try clear hb); (try clear hb2); (try clear hk); (try clear hi)))
   go_ret
   exact ⟨eq_, bel2 GE286.out GE287.out⟩
  replace c6 := Bool.eq_false_iff.mpr c6; subst c6
  have H1 : (some false) = some r := b6_
  replace H := H1; clear H1
  obtain rfl := Option.some.inj H; go_enter Tryd.func7, Tryd.ntmps7
  go_wp2_with (first | ((with_reducible refine gate_dst (N := 2) rfl ?_); refine bx 2 (cs := #[.slice A0_0 l0_0.length c0_0, .slice A0_1 l0_1.length c0_1]) (t := 25) ?_; intro gb286 hg w16 hbox hb; have BK286 := am (hbox); have GW286 := am ((b2_ : w.heap.size ≤ gb286)); have GE286 := am ((b2_ : w.heap.size ≤ gb286)); replace HB := am (below_step bel hb); clear hb hbox hg) | ((with_reducible refine gate_dst (N := 3) rfl ?_); refine bx 3 (cs := #[.slice A1_0 l1_0.length c1_0, .slice A1_1 l1_1.length c1_1]) (t := 25) ?_; intro gb287 hg w17 hbox hb; have BK287 := am (hbox); have GW287 := am ((b40_ : w.heap.size ≤ gb287)); have GE287 := am ((b40_ : w.heap.size ≤ gb287)); replace HB := am (below_step (bel1 GE286.out) hb); have NB286_287 := am ((b26_ : gb286 ≠ gb287)); have NB287_286 := am ((b27_ : gb287 ≠ gb286)); replace BK286 := am (blk_below (g := gb286) (o := .cells #[.slice A0_0 l0_0.length c0_0, .slice A0_1 l0_1.length c0_1] 25 (0, 0)) (bq BK286.out) hb); clear hb hbox hg; have hnb18 := NB286_287.out; have hnc18 := NB287_286.out; have hcz19_0 := bc BK286.out 0; have hcz19_1 := bc BK286.out 1; have hfz19_0 := bf BK286.out 0; have hfz19_1 := bf BK286.out 1; have hcz20_0 := bc BK287.out 0; have hcz20_1 := bc BK287.out 1; have hfz20_0 := bf BK287.out 0; have hfz20_1 := bf BK287.out 1) | ((with_reducible refine gate_callee (f := 25) rfl ?_); refine goesL_ (some 9) rfl rfl Tryd.func25 (by kernel_rfl) rfl #[.slice A0_0 l0_0.length c0_0, .slice A1_0 l1_0.length c1_0] rfl mq ?_; (with_reducible refine (laws_eqAffixS.calls k _ _ l0_0 _ _ l1_0 true _ ?side1 ?side2 ?side3 ?side4 A3.out).mono ?_); (case side1 => exact cq (Kd.C_below HR0_0.out HB.out)); (case side2 => exact HC0_0.out); (case side3 => exact cq (Kd.C_below HR1_0.out HB.out)); (case side4 => exact HC1_0.out); rintro e w21 ⟨rfl, hb⟩; refine ⟨_, rfl, ?_⟩; replace BK286 := am (blk_below (g := gb286) (o := .cells #[.slice A0_0 l0_0.length c0_0, .slice A0_1 l0_1.length c0_1] 25 (0, 0)) (bq BK286.out) hb); replace BK287 := am (blk_below (g := gb287) (o := .cells #[.slice A1_0 l1_0.length c1_0, .slice A1_1 l1_1.length c1_1] 25 (0, 0)) (bq BK287.out) hb); replace HB := am (below_step (bel2 GE286.out GE287.out) hb); (try clear hb); (try clear hb2); (try clear hk); (try clear hi); have hcz22_0 := bc BK286.out 0; have hcz22_1 := bc BK286.out 1; have hfz22_0 := bf BK286.out 0; have hfz22_1 := bf BK286.out 1; have hcz23_0 := bc BK287.out 0; have hcz23_1 := bc BK287.out 1; have hfz23_0 := bf BK287.out 0; have hfz23_1 := bf BK287.out 1) | ((with_reducible refine gate_callee (f := 26) rfl ?_); refine goesL_ (some 15) rfl rfl Tryd.func26 (by kernel_rfl) rfl #[.slice A0_1 l0_1.length c0_1, .slice A1_1 l1_1.length c1_1] rfl mq ?_; (with_reducible refine (laws_eqEntryS.calls k _ _ l0_1 _ _ l1_1 false _ ?side1 ?side2 ?side3 ?side4 A5.out).mono ?_); (case side1 => exact cq (Kd.C_below HR0_1.out HB.out)); (case side2 => exact HC0_1.out); (case side3 => exact cq (Kd.C_below HR1_1.out HB.out)); (case side4 => exact HC1_1.out); rintro e w24 ⟨rfl, hb⟩; refine ⟨_, rfl, ?_⟩; replace BK286 := am (blk_below (g := gb286) (o := .cells #[.slice A0_0 l0_0.length c0_0, .slice A0_1 l0_1.length c0_1] 25 (0, 0)) (bq BK286.out) hb); replace BK287 := am (blk_below (g := gb287) (o := .cells #[.slice A1_0 l1_0.length c1_0, .slice A1_1 l1_1.length c1_1] 25 (0, 0)) (bq BK287.out) hb); replace HB := am (below_step (bel2 GE286.out GE287.out) hb); (try clear hb); (try clear hb2); (try clear hk); (try clear hi)))
  go_ret
  exact ⟨eq_, bel2 GE286.out GE287.out⟩
 replace c4 := Bool.eq_false_iff.mpr c4; subst c4
 have H1 : (some false) = some r := b6_
 replace H := H1; clear H1
 obtain rfl := Option.some.inj H; go_enter Tryd.func7, Tryd.ntmps7
 go_wp2_with (first | ((with_reducible refine gate_dst (N := 2) rfl ?_); refine bx 2 (cs := #[.slice A0_0 l0_0.length c0_0, .slice A0_1 l0_1.length c0_1]) (t := 25) ?_; intro gb286 hg w25 hbox hb; have BK286 := am (hbox); have GW286 := am ((b2_ : w.heap.size ≤ gb286)); have GE286 := am ((b2_ : w.heap.size ≤ gb286)); replace HB := am (below_step bel hb); clear hb hbox hg) | ((with_reducible refine gate_dst (N := 3) rfl ?_); refine bx 3 (cs := #[.slice A1_0 l1_0.length c1_0, .slice A1_1 l1_1.length c1_1]) (t := 25) ?_; intro gb287 hg w26 hbox hb; have BK287 := am (hbox); have GW287 := am ((b40_ : w.heap.size ≤ gb287)); have GE287 := am ((b40_ : w.heap.size ≤ gb287)); replace HB := am (below_step (bel1 GE286.out) hb); have NB286_287 := am ((b26_ : gb286 ≠ gb287)); have NB287_286 := am ((b27_ : gb287 ≠ gb286)); replace BK286 := am (blk_below (g := gb286) (o := .cells #[.slice A0_0 l0_0.length c0_0, .slice A0_1 l0_1.length c0_1] 25 (0, 0)) (bq BK286.out) hb); clear hb hbox hg; have hnb27 := NB286_287.out; have hnc27 := NB287_286.out; have hcz28_0 := bc BK286.out 0; have hcz28_1 := bc BK286.out 1; have hfz28_0 := bf BK286.out 0; have hfz28_1 := bf BK286.out 1; have hcz29_0 := bc BK287.out 0; have hcz29_1 := bc BK287.out 1; have hfz29_0 := bf BK287.out 0; have hfz29_1 := bf BK287.out 1) | ((with_reducible refine gate_callee (f := 25) rfl ?_); refine goesL_ (some 9) rfl rfl Tryd.func25 (by kernel_rfl) rfl #[.slice A0_0 l0_0.length c0_0, .slice A1_0 l1_0.length c1_0] rfl mq ?_; (with_reducible refine (laws_eqAffixS.calls k _ _ l0_0 _ _ l1_0 false _ ?side1 ?side2 ?side3 ?side4 A3.out).mono ?_); (case side1 => exact cq (Kd.C_below HR0_0.out HB.out)); (case side2 => exact HC0_0.out); (case side3 => exact cq (Kd.C_below HR1_0.out HB.out)); (case side4 => exact HC1_0.out); rintro e w30 ⟨rfl, hb⟩; refine ⟨_, rfl, ?_⟩; replace BK286 := am (blk_below (g := gb286) (o := .cells #[.slice A0_0 l0_0.length c0_0, .slice A0_1 l0_1.length c0_1] 25 (0, 0)) (bq BK286.out) hb); replace BK287 := am (blk_below (g := gb287) (o := .cells #[.slice A1_0 l1_0.length c1_0, .slice A1_1 l1_1.length c1_1] 25 (0, 0)) (bq BK287.out) hb); replace HB := am (below_step (bel2 GE286.out GE287.out) hb); (try clear hb); (try clear hb2); (try clear hk); (try clear hi)))
 go_ret
 exact ⟨eq_, bel2 GE286.out GE287.out⟩

/-! ### laws_markText: function 48 -/
def laws_markText.l0 : Nat → Int → ByteArray → Option (ByteArray)
 | 0, _, _ => none
 | k + 1, x0, x3 => if x0 > 0 then ((some (([(wrap64 (48 + (Int.tmod x0 10))) % 256] : List Int) : List Int)).bind fun y290 => (if (strOfNums y290).size + x3.size ≤ 9223372036854775807 then (laws_markText.l0 k (wrap64 (Int.tdiv x0 10)) ((strOfNums y290) ++ x3)) else (none))) else (if 1 + x3.size ≤ 9223372036854775807 then (some ((⟨#[109]⟩ : ByteArray) ++ x3)) else (none))
def laws_markText.f (k : Nat) (a0 : Int) : Option (ByteArray) := if a0 ≤ 0 then (some (⟨#[109, 48]⟩ : ByteArray)) else (laws_markText.l0 k a0 (⟨#[]⟩ : ByteArray))
theorem laws_markText.calls (k : Nat) (a0 : Int) (r : ByteArray) (w : World) (h : laws_markText.f k a0 = some r) :
  Calls Tryd.prog 48 #[.int .i64 a0] w fun e w' => e = .returned (.string r) ∧ Below w.heap.size w w' := by
 have HB := am (Below.refl w.heap.size w)
 have H : (if a0 ≤ 0 then (some (⟨#[109, 48]⟩ : ByteArray)) else (laws_markText.l0 k a0 (⟨#[]⟩ : ByteArray))) = some r := h
 clear h
 by_cases c2 : a0 ≤ 0
 ·rw [if_pos c2] at H; have c2b0 := decide_eq_true c2; clear c2; obtain rfl := Option.some.inj H; go_enter Tryd.func48, Tryd.ntmps48; go_wp2; go_ret
  exact ⟨eq_, bel⟩
 rw [if_neg c2] at H; have c2b0 := decide_eq_false c2; clear c2
 have H' := am H
 clear H; go_enter Tryd.func48, Tryd.ntmps48; go_wp2
 go_loopg [0, 3] k (fun kq v0 v3 w' => ∃ (x0_1 : Int) (x3_1 : ByteArray), v0 = .int .i64 x0_1 ∧ v3 = .string x3_1 ∧ Aside0 (laws_markText.l0 kq x0_1 x3_1 = some r) ∧ Aside0 (kq ≤ k) ∧ Aside0 (Below w.heap.size w w'))
 case atStart => exact ⟨(a0), ((⟨#[]⟩ : ByteArray)), sq, sq, H', ⟨Nat.le_refl _⟩, ⟨bel⟩⟩
 case round =>
  clear H'; (try clear c2); (try clear c2b0); (try clear p2); obtain ⟨x0_1, x3_1, rfl, rfl, HA, HK1, HB⟩ := hrel
  cases gk with
  | zero => exact absurd HA.out (by simp [laws_markText.l0])
  | succ k1 =>
   have H := HA.out; clear HA
   simp only [laws_markText.l0] at H
   by_cases c3 : x0_1 > 0
   ·rw [if_pos c3] at H; have c3b0 := decide_eq_true c3; clear c3; obtain ⟨y290, hy290⟩ : ∃ y_ : List Int, y_ = (([(wrap64 (48 + (Int.tmod x0_1 10))) % 256] : List Int)) := ⟨_, rfl⟩
    replace H : (if (strOfNums y290).size + x3_1.size ≤ 9223372036854775807 then (laws_markText.l0 k1 (wrap64 (Int.tdiv x0_1 10)) ((strOfNums y290) ++ x3_1)) else (none)) = some r := by first | (rw [hy290]; with_reducible exact H) | (have H2_ := bm H; rw [hy290]; with_reducible exact H2_) | (with_reducible exact bm H) | with_reducible exact H | (rw [hy290]; exact H) | exact H
    have Ny290 := am hy290; clear hy290
    replace H := ip H; obtain ⟨c4, H⟩ := H; have c4b0 := eq_true c4
    have c4b1 : decide ((strOfNums y290).size + x3_1.size ≤ 9223372036854775807) = true := decide_eq_true c4
    try have c4b2 : (9223372036854775807 < (strOfNums y290).size + x3_1.size) = False := eq_false (Nat.not_lt.2 c4)
    have H' := am H
    clear H
    go_wp2_with (first | ((with_reducible refine gate_dst (N := 12) rfl ?_); refine Kd.R_lit (Kd.int .u8) _ 5 ?hg (N := 12) ?hd (xs := ([(wrap64 (48 + (Int.tmod x0_1 10))) % 256] : List Int)) (inner := [.int .u8 ((wrap64 (48 + (Int.tmod x0_1 10))) % 256)]) (ok := fun _ => True) (okp := fun _ => True) ?hr ?hp (fun _ hk => hk) trivial (Below.refl _ _) (Nat.le_refl _) (by simp) ?_; (case hd => rfl); (case hg => rfl); (case hr => first | (go_simp; done) | (go_simp; rfl)); (case hp => exact (Reps.one (show Kd.M (Kd.int .u8) _ _ _ ((wrap64 (48 + (Int.tmod x0_1 10))) % 256) [.int .u8 ((wrap64 (48 + (Int.tmod x0_1 10))) % 256)] from rfl) (Reps.none _ _))); intro v291 w5 ho6 hb hg_ hnew_; clear hg_ hnew_; (first | rw [← Ny290.out] at ho6 | (simp only [Int.reduceToNat] at ho6; rw [← Ny290.out] at ho6) | (simp only [Int.toNat_natCast] at ho6; rw [← Ny290.out] at ho6)); have HO292 := am (Kd.R_lower ho6 (below_size bel)); replace HB := am (below_step bel hb); clear hb ho6; have hcv7 := own_string (P := Tryd.prog) Tryd.underlying31 Tryd.underlying5 Tryd.underlying9 (Kd.own_of_R HO292.out)))
    go_roundg k1
    case measure => have := HK1.out; omega
    case rel => exact ⟨(wrap64 (Int.tdiv x0_1 10)), ((strOfNums y290) ++ x3_1), sq, sq, H', ⟨b21_⟩, ⟨bel⟩⟩
   rw [if_neg c3] at H; have c3b0 := decide_eq_false c3; clear c3
   replace H := ip H; obtain ⟨c8, H⟩ := H; have c8b0 := eq_true c8
   have c8b1 : decide (1 + x3_1.size ≤ 9223372036854775807) = true := decide_eq_true c8
   try have c8b2 : (9223372036854775807 < 1 + x3_1.size) = False := eq_false (Nat.not_lt.2 c8)
   obtain rfl := Option.some.inj H; go_wp2; go_ret
   exact ⟨eq_, bel⟩

/-! ### laws_markAffixS: function 27 -/
def laws_markAffixS.l0 : Nat → List (S40) → Int → Int → Option (Int × (List (S40)))
 | 0, _, _, _ => none
 | k + 1, x0, x1, x5 => if x5 < (x0.length : Int) then ((laws_markText.f k x1).bind fun t293 => (if 0 ≤ x5 then ((some (x0.set (x5 : Int).toNat (⟨t293, (rd_T40 x0 x5).f1, (rd_T40 x0 x5).f2, (rd_T40 x0 x5).f3, (rd_T40 x0 x5).f4⟩ : S40) : List (S40))).bind fun y294 => ((some (y294.set (x5 : Int).toNat (⟨(rd_T40 y294 x5).f0, ((Int.tmod (wrap64 (x1 + 1)) 3) == 0), (rd_T40 y294 x5).f2, (rd_T40 y294 x5).f3, (rd_T40 y294 x5).f4⟩ : S40) : List (S40))).bind fun y295 => ((laws_markText.f k (wrap64 ((wrap64 (x1 + 1)) + 1))).bind fun t296 => ((some (y295.set (x5 : Int).toNat (⟨(rd_T40 y295 x5).f0, (rd_T40 y295 x5).f1, t296, (rd_T40 y295 x5).f3, (rd_T40 y295 x5).f4⟩ : S40) : List (S40))).bind fun y297 => ((laws_markText.f k (wrap64 ((wrap64 ((wrap64 (x1 + 1)) + 1)) + 1))).bind fun t298 => ((some (y297.set (x5 : Int).toNat (⟨(rd_T40 y297 x5).f0, (rd_T40 y297 x5).f1, (rd_T40 y297 x5).f2, t298, (rd_T40 y297 x5).f4⟩ : S40) : List (S40))).bind fun y299 => ((laws_markText.f k (wrap64 ((wrap64 ((wrap64 ((wrap64 (x1 + 1)) + 1)) + 1)) + 1))).bind fun t300 => (laws_markAffixS.l0 k (y299.set (x5 : Int).toNat (⟨(rd_T40 y299 x5).f0, (rd_T40 y299 x5).f1, (rd_T40 y299 x5).f2, (rd_T40 y299 x5).f3, t300⟩ : S40)) (wrap64 ((wrap64 ((wrap64 ((wrap64 ((wrap64 (x1 + 1)) + 1)) + 1)) + 1)) + 1)) (wrap64 (x5 + 1)))))))))) else (none))) else (some (x1, x0))
def laws_markAffixS.f (k : Nat) (l0 : List (S40)) (a1 : Int) : Option (Int × (List (S40))) := laws_markAffixS.l0 k l0 a1 0
theorem laws_markAffixS.calls (k : Nat) (P0_ : Nat → Prop) (u9000_ : Value) (l0 : List (S40)) (a1 : Int) (r1 : Int) (r2 : List (S40)) (w0 w : World) (hB : Below w0.heap.size w0 w) (ho0 : Kd.R k40 40 w w0.heap.size P0_ u9000_ l0) (h : laws_markAffixS.f k l0 a1 = some (r1, r2)) :
  Calls Tryd.prog 27 #[u9000_, .int .i64 a1] w fun e w' => e = .returned (.int .i64 r1) ∧ Kd.R k40 40 w' w0.heap.size (fun k_ => (P0_ k_ ∨ w.heap.size ≤ k_)) u9000_ r2 ∧ Below w0.heap.size w0 w' ∧ Kept w w' (fun k_ => P0_ k_) := by
 have HO0 := am (show Kd.R k40 40 w w0.heap.size (fun k_ => (P0_ k_ ∨ w.heap.size ≤ k_)) u9000_ l0 from Kd.R_mono ho0 (fun k_ hk => (.inl hk))); have HK := am (Kept.refl w (fun k_ => P0_ k_)); have HW0 := am hB.size; have HB := am hB; clear hB
 have H : (laws_markAffixS.l0 k l0 a1 0) = some (r1, r2) := h
 clear h
 have H' := am H
 clear H; go_enter Tryd.func27, Tryd.ntmps27; go_wp2
 go_loopg [1, 5] k (fun kq v1 v5 w' => ∃ (x0_1 : List (S40)) (x1_1 : Int) (x5_1 : Int), v1 = .int .i64 x1_1 ∧ v5 = .int .i64 x5_1 ∧ Aside0 (laws_markAffixS.l0 kq x0_1 x1_1 x5_1 = some (r1, r2)) ∧ Aside0 (kq ≤ k) ∧ Aside0 (Kd.R k40 40 w' w0.heap.size (fun k_ => (P0_ k_ ∨ w.heap.size ≤ k_)) u9000_ x0_1) ∧ Aside0 (Kept w w' (fun k_ => P0_ k_)) ∧ Aside0 (Below w0.heap.size w0 w'))
 case atStart => exact ⟨(l0), (a1), (0), sq, sq, H', ⟨Nat.le_refl _⟩, ⟨rq HO0.out⟩, ⟨b3_⟩, ⟨bel⟩⟩
 case round =>
  clear H'; (try clear c2); (try clear p2); obtain ⟨x0_1, x1_1, x5_1, rfl, rfl, HA, HK1, HO_0, HK, HB⟩ := hrel
  cases gk with
  | zero => exact absurd HA.out (by simp [laws_markAffixS.l0])
  | succ k1 =>
   have H := HA.out; clear HA
   simp only [laws_markAffixS.l0] at H
   by_cases c3 : x5_1 < (x0_1.length : Int)
   ·rw [if_pos c3] at H; have c3b0 := decide_eq_true c3; clear c3; replace H := bs H; obtain ⟨t293, A40, H⟩ := H; replace H : (if 0 ≤ x5_1 then ((some (x0_1.set (x5_1 : Int).toNat (⟨t293, (rd_T40 x0_1 x5_1).f1, (rd_T40 x0_1 x5_1).f2, (rd_T40 x0_1 x5_1).f3, (rd_T40 x0_1 x5_1).f4⟩ : S40) : List (S40))).bind fun y294 => ((some (y294.set (x5_1 : Int).toNat (⟨(rd_T40 y294 x5_1).f0, ((Int.tmod (wrap64 (x1_1 + 1)) 3) == 0), (rd_T40 y294 x5_1).f2, (rd_T40 y294 x5_1).f3, (rd_T40 y294 x5_1).f4⟩ : S40) : List (S40))).bind fun y295 => ((laws_markText.f k1 (wrap64 ((wrap64 (x1_1 + 1)) + 1))).bind fun t296 => ((some (y295.set (x5_1 : Int).toNat (⟨(rd_T40 y295 x5_1).f0, (rd_T40 y295 x5_1).f1, t296, (rd_T40 y295 x5_1).f3, (rd_T40 y295 x5_1).f4⟩ : S40) : List (S40))).bind fun y297 => ((laws_markText.f k1 (wrap64 ((wrap64 ((wrap64 (x1_1 + 1)) + 1)) + 1))).bind fun t298 => ((some (y297.set (x5_1 : Int).toNat (⟨(rd_T40 y297 x5_1).f0, (rd_T40 y297 x5_1).f1, (rd_T40 y297 x5_1).f2, t298, (rd_T40 y297 x5_1).f4⟩ : S40) : List (S40))).bind fun y299 => ((laws_markText.f k1 (wrap64 ((wrap64 ((wrap64 ((wrap64 (x1_1 + 1)) + 1)) + 1)) + 1))).bind fun t300 => (laws_markAffixS.l0 k1 (y299.set (x5_1 : Int).toNat (⟨(rd_T40 y299 x5_1).f0, (rd_T40 y299 x5_1).f1, (rd_T40 y299 x5_1).f2, (rd_T40 y299 x5_1).f3, t300⟩ : S40)) (wrap64 ((wrap64 ((wrap64 ((wrap64 ((wrap64 (x1_1 + 1)) + 1)) + 1)) + 1)) + 1)) (wrap64 (x5_1 + 1)))))))))) else (none)) = some (r1, r2) := H; have A4 := Aside0.mk A40; clear A40
    replace H := it H; obtain ⟨c5b0, H⟩ := H; obtain ⟨y294, hy294⟩ : ∃ y_ : List (S40), y_ = (x0_1.set (x5_1 : Int).toNat (⟨t293, (rd_T40 x0_1 x5_1).f1, (rd_T40 x0_1 x5_1).f2, (rd_T40 x0_1 x5_1).f3, (rd_T40 x0_1 x5_1).f4⟩ : S40)) := ⟨_, rfl⟩
    replace H : ((some (y294.set (x5_1 : Int).toNat (⟨(rd_T40 y294 x5_1).f0, ((Int.tmod (wrap64 (x1_1 + 1)) 3) == 0), (rd_T40 y294 x5_1).f2, (rd_T40 y294 x5_1).f3, (rd_T40 y294 x5_1).f4⟩ : S40) : List (S40))).bind fun y295 => ((laws_markText.f k1 (wrap64 ((wrap64 (x1_1 + 1)) + 1))).bind fun t296 => ((some (y295.set (x5_1 : Int).toNat (⟨(rd_T40 y295 x5_1).f0, (rd_T40 y295 x5_1).f1, t296, (rd_T40 y295 x5_1).f3, (rd_T40 y295 x5_1).f4⟩ : S40) : List (S40))).bind fun y297 => ((laws_markText.f k1 (wrap64 ((wrap64 ((wrap64 (x1_1 + 1)) + 1)) + 1))).bind fun t298 => ((some (y297.set (x5_1 : Int).toNat (⟨(rd_T40 y297 x5_1).f0, (rd_T40 y297 x5_1).f1, (rd_T40 y297 x5_1).f2, t298, (rd_T40 y297 x5_1).f4⟩ : S40) : List (S40))).bind fun y299 => ((laws_markText.f k1 (wrap64 ((wrap64 ((wrap64 ((wrap64 (x1_1 + 1)) + 1)) + 1)) + 1))).bind fun t300 => (laws_markAffixS.l0 k1 (y299.set (x5_1 : Int).toNat (⟨(rd_T40 y299 x5_1).f0, (rd_T40 y299 x5_1).f1, (rd_T40 y299 x5_1).f2, (rd_T40 y299 x5_1).f3, t300⟩ : S40)) (wrap64 ((wrap64 ((wrap64 ((wrap64 ((wrap64 (x1_1 + 1)) + 1)) + 1)) + 1)) + 1)) (wrap64 (x5_1 + 1))))))))) = some (r1, r2) := by first | (rw [hy294]; with_reducible exact H) | (have H2_ := bm H; rw [hy294]; with_reducible exact H2_) | (with_reducible exact bm H) | with_reducible exact H | (rw [hy294]; exact H) | exact H
    have Ny294 := am hy294; clear hy294; obtain ⟨y295, hy295⟩ : ∃ y_ : List (S40), y_ = (y294.set (x5_1 : Int).toNat (⟨(rd_T40 y294 x5_1).f0, ((Int.tmod (wrap64 (x1_1 + 1)) 3) == 0), (rd_T40 y294 x5_1).f2, (rd_T40 y294 x5_1).f3, (rd_T40 y294 x5_1).f4⟩ : S40)) := ⟨_, rfl⟩
    replace H : ((laws_markText.f k1 (wrap64 ((wrap64 (x1_1 + 1)) + 1))).bind fun t296 => ((some (y295.set (x5_1 : Int).toNat (⟨(rd_T40 y295 x5_1).f0, (rd_T40 y295 x5_1).f1, t296, (rd_T40 y295 x5_1).f3, (rd_T40 y295 x5_1).f4⟩ : S40) : List (S40))).bind fun y297 => ((laws_markText.f k1 (wrap64 ((wrap64 ((wrap64 (x1_1 + 1)) + 1)) + 1))).bind fun t298 => ((some (y297.set (x5_1 : Int).toNat (⟨(rd_T40 y297 x5_1).f0, (rd_T40 y297 x5_1).f1, (rd_T40 y297 x5_1).f2, t298, (rd_T40 y297 x5_1).f4⟩ : S40) : List (S40))).bind fun y299 => ((laws_markText.f k1 (wrap64 ((wrap64 ((wrap64 ((wrap64 (x1_1 + 1)) + 1)) + 1)) + 1))).bind fun t300 => (laws_markAffixS.l0 k1 (y299.set (x5_1 : Int).toNat (⟨(rd_T40 y299 x5_1).f0, (rd_T40 y299 x5_1).f1, (rd_T40 y299 x5_1).f2, (rd_T40 y299 x5_1).f3, t300⟩ : S40)) (wrap64 ((wrap64 ((wrap64 ((wrap64 ((wrap64 (x1_1 + 1)) + 1)) + 1)) + 1)) + 1)) (wrap64 (x5_1 + 1)))))))) = some (r1, r2) := by first | (rw [hy295]; with_reducible exact H) | (have H2_ := bm H; rw [hy295]; with_reducible exact H2_) | (with_reducible exact bm H) | with_reducible exact H | (rw [hy295]; exact H) | exact H
    have Ny295 := am hy295; clear hy295; replace H := bs H; obtain ⟨t296, A80, H⟩ := H; replace H : ((some (y295.set (x5_1 : Int).toNat (⟨(rd_T40 y295 x5_1).f0, (rd_T40 y295 x5_1).f1, t296, (rd_T40 y295 x5_1).f3, (rd_T40 y295 x5_1).f4⟩ : S40) : List (S40))).bind fun y297 => ((laws_markText.f k1 (wrap64 ((wrap64 ((wrap64 (x1_1 + 1)) + 1)) + 1))).bind fun t298 => ((some (y297.set (x5_1 : Int).toNat (⟨(rd_T40 y297 x5_1).f0, (rd_T40 y297 x5_1).f1, (rd_T40 y297 x5_1).f2, t298, (rd_T40 y297 x5_1).f4⟩ : S40) : List (S40))).bind fun y299 => ((laws_markText.f k1 (wrap64 ((wrap64 ((wrap64 ((wrap64 (x1_1 + 1)) + 1)) + 1)) + 1))).bind fun t300 => (laws_markAffixS.l0 k1 (y299.set (x5_1 : Int).toNat (⟨(rd_T40 y299 x5_1).f0, (rd_T40 y299 x5_1).f1, (rd_T40 y299 x5_1).f2, (rd_T40 y299 x5_1).f3, t300⟩ : S40)) (wrap64 ((wrap64 ((wrap64 ((wrap64 ((wrap64 (x1_1 + 1)) + 1)) + 1)) + 1)) + 1)) (wrap64 (x5_1 + 1))))))) = some (r1, r2) := H; have A8 := Aside0.mk A80; clear A80; obtain ⟨y297, hy297⟩ : ∃ y_ : List (S40), y_ = (y295.set (x5_1 : Int).toNat (⟨(rd_T40 y295 x5_1).f0, (rd_T40 y295 x5_1).f1, t296, (rd_T40 y295 x5_1).f3, (rd_T40 y295 x5_1).f4⟩ : S40)) := ⟨_, rfl⟩
    replace H : ((laws_markText.f k1 (wrap64 ((wrap64 ((wrap64 (x1_1 + 1)) + 1)) + 1))).bind fun t298 => ((some (y297.set (x5_1 : Int).toNat (⟨(rd_T40 y297 x5_1).f0, (rd_T40 y297 x5_1).f1, (rd_T40 y297 x5_1).f2, t298, (rd_T40 y297 x5_1).f4⟩ : S40) : List (S40))).bind fun y299 => ((laws_markText.f k1 (wrap64 ((wrap64 ((wrap64 ((wrap64 (x1_1 + 1)) + 1)) + 1)) + 1))).bind fun t300 => (laws_markAffixS.l0 k1 (y299.set (x5_1 : Int).toNat (⟨(rd_T40 y299 x5_1).f0, (rd_T40 y299 x5_1).f1, (rd_T40 y299 x5_1).f2, (rd_T40 y299 x5_1).f3, t300⟩ : S40)) (wrap64 ((wrap64 ((wrap64 ((wrap64 ((wrap64 (x1_1 + 1)) + 1)) + 1)) + 1)) + 1)) (wrap64 (x5_1 + 1)))))) = some (r1, r2) := by first | (rw [hy297]; with_reducible exact H) | (have H2_ := bm H; rw [hy297]; with_reducible exact H2_) | (with_reducible exact bm H) | with_reducible exact H | (rw [hy297]; exact H) | exact H
    have Ny297 := am hy297; clear hy297; replace H := bs H; obtain ⟨t298, A100, H⟩ := H; replace H : ((some (y297.set (x5_1 : Int).toNat (⟨(rd_T40 y297 x5_1).f0, (rd_T40 y297 x5_1).f1, (rd_T40 y297 x5_1).f2, t298, (rd_T40 y297 x5_1).f4⟩ : S40) : List (S40))).bind fun y299 => ((laws_markText.f k1 (wrap64 ((wrap64 ((wrap64 ((wrap64 (x1_1 + 1)) + 1)) + 1)) + 1))).bind fun t300 => (laws_markAffixS.l0 k1 (y299.set (x5_1 : Int).toNat (⟨(rd_T40 y299 x5_1).f0, (rd_T40 y299 x5_1).f1, (rd_T40 y299 x5_1).f2, (rd_T40 y299 x5_1).f3, t300⟩ : S40)) (wrap64 ((wrap64 ((wrap64 ((wrap64 ((wrap64 (x1_1 + 1)) + 1)) + 1)) + 1)) + 1)) (wrap64 (x5_1 + 1))))) = some (r1, r2) := H; have A10 := Aside0.mk A100; clear A100; obtain ⟨y299, hy299⟩ : ∃ y_ : List (S40), y_ = (y297.set (x5_1 : Int).toNat (⟨(rd_T40 y297 x5_1).f0, (rd_T40 y297 x5_1).f1, (rd_T40 y297 x5_1).f2, t298, (rd_T40 y297 x5_1).f4⟩ : S40)) := ⟨_, rfl⟩
    replace H : ((laws_markText.f k1 (wrap64 ((wrap64 ((wrap64 ((wrap64 (x1_1 + 1)) + 1)) + 1)) + 1))).bind fun t300 => (laws_markAffixS.l0 k1 (y299.set (x5_1 : Int).toNat (⟨(rd_T40 y299 x5_1).f0, (rd_T40 y299 x5_1).f1, (rd_T40 y299 x5_1).f2, (rd_T40 y299 x5_1).f3, t300⟩ : S40)) (wrap64 ((wrap64 ((wrap64 ((wrap64 ((wrap64 (x1_1 + 1)) + 1)) + 1)) + 1)) + 1)) (wrap64 (x5_1 + 1)))) = some (r1, r2) := by first | (rw [hy299]; with_reducible exact H) | (have H2_ := bm H; rw [hy299]; with_reducible exact H2_) | (with_reducible exact bm H) | with_reducible exact H | (rw [hy299]; exact H) | exact H
    have Ny299 := am hy299; clear hy299; replace H := bs H; obtain ⟨t300, A120, H⟩ := H; replace H : (laws_markAffixS.l0 k1 (y299.set (x5_1 : Int).toNat (⟨(rd_T40 y299 x5_1).f0, (rd_T40 y299 x5_1).f1, (rd_T40 y299 x5_1).f2, (rd_T40 y299 x5_1).f3, t300⟩ : S40)) (wrap64 ((wrap64 ((wrap64 ((wrap64 ((wrap64 (x1_1 + 1)) + 1)) + 1)) + 1)) + 1)) (wrap64 (x5_1 + 1))) = some (r1, r2) := H; have A12 := Aside0.mk A120; clear A120; obtain ⟨y301, hy301⟩ : ∃ y_ : List (S40), y_ = (y299.set (x5_1 : Int).toNat (⟨(rd_T40 y299 x5_1).f0, (rd_T40 y299 x5_1).f1, (rd_T40 y299 x5_1).f2, (rd_T40 y299 x5_1).f3, t300⟩ : S40)) := ⟨_, rfl⟩
    replace H : (laws_markAffixS.l0 k1 y301 (wrap64 ((wrap64 ((wrap64 ((wrap64 ((wrap64 (x1_1 + 1)) + 1)) + 1)) + 1)) + 1)) (wrap64 (x5_1 + 1))) = some (r1, r2) := by first | (rw [hy301]; with_reducible exact H) | (have H2_ := bm H; rw [hy301]; with_reducible exact H2_) | (with_reducible exact bm H) | with_reducible exact H | (rw [hy301]; exact H) | exact H
    have Ny301 := am hy301; clear hy301
    have H' := am H
    clear H; obtain ⟨Ao14, co14, eo14⟩ := Kd.R_slice HO_0.out; subst eo14
    go_wp2_with (first | ((with_reducible refine gate_callee (f := 48) rfl ?_); refine goesL_ (some 15) rfl rfl Tryd.func48 (by kernel_rfl) rfl #[.int .i64 x1_1] rfl mq ?_; (with_reducible refine (laws_markText.calls k1 x1_1 t293 _ A4.out).mono ?_); rintro e w15 ⟨rfl, hb⟩; refine ⟨_, rfl, ?_⟩; replace HO_0 := am (Kd.R_below (rq HO_0.out) hb); replace HK := am (Kept.below (S := (fun k_ => P0_ k_)) b3_ hb); replace HB := am (below_step bel hb); (try clear hb); (try clear hb2); (try clear hk); (try clear hi); have p6 : 0 ≤ (x5_1 : Int) := of_decide_eq_true ad; have q6 : (x5_1 : Int) < ((x0_1.length : Int) : Int) := of_decide_eq_true ad; obtain ⟨go6, co6, eo6, gb6, gl6, cl6, HG6⟩ := Kd.R_form HO_0.out (by omega); (first | cases eo6 | (injection eo6 with ea_ en_ ec_; (first | subst ea_ | (injection ea_ with ea_; subst ea_)); subst ec_; clear en_)); have GB6 := Aside0.mk gb6; have GG6 := am HG6; clear gb6 gl6 HG6; have HMgo6 := am (show (P0_ go6 ∨ w.heap.size ≤ go6) from (HO_0.out.1 _ rfl)); obtain ⟨ce6, hcl6, hM6, hcc6, hfr6⟩ := Kd.R_elem HO_0.out z40 (x5_1 : Int) p6 q6; obtain rfl := k40_openM hM6; have hx6_0 : w15.cell? ⟨go6, (x5_1 : Int).toNat * 5, none⟩ = some (.string ((rd_T40 x0_1 x5_1).f0)) := hcc6 0 _ rfl; have hx6_1 : w15.cell? ⟨go6, (x5_1 : Int).toNat * 5 + 1, none⟩ = some (.bool ((rd_T40 x0_1 x5_1).f1)) := hcc6 1 _ rfl; have hx6_2 : w15.cell? ⟨go6, (x5_1 : Int).toNat * 5 + 2, none⟩ = some (.string ((rd_T40 x0_1 x5_1).f2)) := hcc6 2 _ rfl; have hx6_3 : w15.cell? ⟨go6, (x5_1 : Int).toNat * 5 + 3, none⟩ = some (.string ((rd_T40 x0_1 x5_1).f3)) := hcc6 3 _ rfl; have hx6_4 : w15.cell? ⟨go6, (x5_1 : Int).toNat * 5 + 4, none⟩ = some (.string ((rd_T40 x0_1 x5_1).f4)) := hcc6 4 _ rfl; have hf6_0 : w15.frozen? ⟨go6, (x5_1 : Int).toNat * 5, none⟩ = false := hfr6 0; have hf6_1 : w15.frozen? ⟨go6, (x5_1 : Int).toNat * 5 + 1, none⟩ = false := hfr6 1; have hf6_2 : w15.frozen? ⟨go6, (x5_1 : Int).toNat * 5 + 2, none⟩ = false := hfr6 2; have hf6_3 : w15.frozen? ⟨go6, (x5_1 : Int).toNat * 5 + 3, none⟩ = false := hfr6 3; have hf6_4 : w15.frozen? ⟨go6, (x5_1 : Int).toNat * 5 + 4, none⟩ = false := hfr6 4; clear hcl6 hcc6 hfr6; (try clear hM6); replace p6 := eq_true p6; replace q6 := eq_true q6; have HX16 := am (show Kd.R k40 40 w15 w0.heap.size (fun k_ => (P0_ k_ ∨ w.heap.size ≤ k_)) (.slice (some ⟨go6, 0, none⟩) x0_1.length co14) x0_1 from (rq HO_0.out)); obtain ⟨ce16, hcl16, hM16, hcc16, hfr16⟩ := Kd.R_elem HX16.out z40 (x5_1 : Int) (of_decide_eq_true ad) b4_; obtain rfl := k40_openM hM16; have HP16 := Kd.R_seg HX16.out (x5_1 : Int) (of_decide_eq_true ad) b4_ (seg := [.string t293]) (j := 0) hcl16 hcc16 (show 1 ≤ 5 from by decide) (x' := (⟨t293, (rd_T40 x0_1 x5_1).f1, (rd_T40 x0_1 x5_1).f2, (rd_T40 x0_1 x5_1).f3, (rd_T40 x0_1 x5_1).f4⟩ : S40)) (k40_mkM _ _ _ (⟨t293, (rd_T40 x0_1 x5_1).f1, (rd_T40 x0_1 x5_1).f2, (rd_T40 x0_1 x5_1).f3, (rd_T40 x0_1 x5_1).f4⟩ : S40) ) (fun _ hk => hk); have hx16_0 := hcc16 0 _ rfl; (try simp only [show (k40).sz = 5 from rfl, Nat.mul_one, Nat.add_zero] at hx16_0); have hf16_0 := hfr16 0; (try simp only [show (k40).sz = 5 from rfl, Nat.mul_one, Nat.add_zero] at hf16_0); clear hcl16 hcc16 hfr16; (try clear hM16)) | ((with_reducible refine gate_store (t := 9) (p := 17) rfl ?_); refine store_event (t := 9) (p := 17) (v := ?vo_w17) (w1 := (w15.setCell ⟨go6, (x5_1 : Int).toNat * 5, none⟩ (.string t293))) ?hg ?ho ?hn ?hr ?_; (case ho => rfl); (case hg => rfl); (case hn => rfl); (case hr => first | (go_simp; done) | (go_simp; rfl)); intro w17 hw; have hg : w15.grownBy w17 (some go6) := (by rw [hw]; exact HP16.2); have hp_ : Kd.R k40 40 w17 w0.heap.size (fun k_ => (P0_ k_ ∨ w.heap.size ≤ k_)) (.slice (some ⟨go6, 0, none⟩) x0_1.length co14) y294 := (by rw [hw, Ny294.out]; exact HP16.1); clear HP16; replace HB := am ((b38_ : Below w0.heap.size w0 w17)); replace HK := am (Kept.of_grown (S := (fun k_ => P0_ k_)) hg b3_ (fun k_ e_ => (HO_0.out.1 k_ e_))); replace HO_0 := am (hp_); clear hg hw hp_; have p7 : 0 ≤ (x5_1 : Int) := of_decide_eq_true ad; have q7 : (x5_1 : Int) < ((x0_1.length : Int) : Int) := of_decide_eq_true ad; obtain ⟨ce7, hcl7, hM7, hcc7, hfr7⟩ := Kd.R_elem HO_0.out z40 (x5_1 : Int) p7 q7; obtain rfl := k40_openM hM7; have hx7_0 : w17.cell? ⟨go6, (x5_1 : Int).toNat * 5, none⟩ = some (.string ((rd_T40 y294 x5_1).f0)) := hcc7 0 _ rfl; have hx7_1 : w17.cell? ⟨go6, (x5_1 : Int).toNat * 5 + 1, none⟩ = some (.bool ((rd_T40 y294 x5_1).f1)) := hcc7 1 _ rfl; have hx7_2 : w17.cell? ⟨go6, (x5_1 : Int).toNat * 5 + 2, none⟩ = some (.string ((rd_T40 y294 x5_1).f2)) := hcc7 2 _ rfl; have hx7_3 : w17.cell? ⟨go6, (x5_1 : Int).toNat * 5 + 3, none⟩ = some (.string ((rd_T40 y294 x5_1).f3)) := hcc7 3 _ rfl; have hx7_4 : w17.cell? ⟨go6, (x5_1 : Int).toNat * 5 + 4, none⟩ = some (.string ((rd_T40 y294 x5_1).f4)) := hcc7 4 _ rfl; have hf7_0 : w17.frozen? ⟨go6, (x5_1 : Int).toNat * 5, none⟩ = false := hfr7 0; have hf7_1 : w17.frozen? ⟨go6, (x5_1 : Int).toNat * 5 + 1, none⟩ = false := hfr7 1; have hf7_2 : w17.frozen? ⟨go6, (x5_1 : Int).toNat * 5 + 2, none⟩ = false := hfr7 2; have hf7_3 : w17.frozen? ⟨go6, (x5_1 : Int).toNat * 5 + 3, none⟩ = false := hfr7 3; have hf7_4 : w17.frozen? ⟨go6, (x5_1 : Int).toNat * 5 + 4, none⟩ = false := hfr7 4; clear hcl7 hcc7 hfr7; (try clear hM7); replace p7 := eq_true p7; replace q7 := eq_true q7; have HX18 := am (show Kd.R k40 40 w17 w0.heap.size (fun k_ => (P0_ k_ ∨ w.heap.size ≤ k_)) (.slice (some ⟨go6, 0, none⟩) x0_1.length co14) y294 from (rq HO_0.out)); obtain ⟨ce18, hcl18, hM18, hcc18, hfr18⟩ := Kd.R_elem HX18.out z40 (x5_1 : Int) (of_decide_eq_true ad) b4_; obtain rfl := k40_openM hM18; have HP18 := Kd.R_seg HX18.out (x5_1 : Int) (of_decide_eq_true ad) b4_ (seg := [.bool ((Int.tmod (wrap64 (x1_1 + 1)) 3) == 0)]) (j := 1) hcl18 hcc18 (show 2 ≤ 5 from by decide) (x' := (⟨(rd_T40 y294 x5_1).f0, ((Int.tmod (wrap64 (x1_1 + 1)) 3) == 0), (rd_T40 y294 x5_1).f2, (rd_T40 y294 x5_1).f3, (rd_T40 y294 x5_1).f4⟩ : S40)) (k40_mkM _ _ _ (⟨(rd_T40 y294 x5_1).f0, ((Int.tmod (wrap64 (x1_1 + 1)) 3) == 0), (rd_T40 y294 x5_1).f2, (rd_T40 y294 x5_1).f3, (rd_T40 y294 x5_1).f4⟩ : S40) ) (fun _ hk => hk); have hx18_1 := hcc18 1 _ rfl; (try simp only [show (k40).sz = 5 from rfl, Nat.mul_one, Nat.add_zero] at hx18_1); have hf18_1 := hfr18 1; (try simp only [show (k40).sz = 5 from rfl, Nat.mul_one, Nat.add_zero] at hf18_1); clear hcl18 hcc18 hfr18; (try clear hM18)) | ((with_reducible refine gate_store (t := 4) (p := 26) rfl ?_); refine store_event (t := 4) (p := 26) (v := ?vo_w19) (w1 := (w17.setCell ⟨go6, (x5_1 : Int).toNat * 5 + 1, none⟩ (.bool ((Int.tmod (wrap64 (x1_1 + 1)) 3) == 0)))) ?hg ?ho ?hn ?hr ?_; (case ho => rfl); (case hg => rfl); (case hn => rfl); (case hr => first | (go_simp; done) | (go_simp; rfl)); intro w19 hw; have hg : w17.grownBy w19 (some go6) := (by rw [hw]; exact HP18.2); have hp_ : Kd.R k40 40 w19 w0.heap.size (fun k_ => (P0_ k_ ∨ w.heap.size ≤ k_)) (.slice (some ⟨go6, 0, none⟩) x0_1.length co14) y295 := (by rw [hw, Ny295.out]; exact HP18.1); clear HP18; replace HB := am ((b38_ : Below w0.heap.size w0 w19)); replace HK := am (Kept.of_grown (S := (fun k_ => P0_ k_)) hg b3_ (fun k_ e_ => (HO_0.out.1 k_ e_))); replace HO_0 := am (hp_); clear hg hw hp_) | ((with_reducible refine gate_callee (f := 48) rfl ?_); refine goesL_ (some 32) rfl rfl Tryd.func48 (by kernel_rfl) rfl #[.int .i64 (wrap64 ((wrap64 (x1_1 + 1)) + 1))] rfl mq ?_; (with_reducible refine (laws_markText.calls k1 (wrap64 ((wrap64 (x1_1 + 1)) + 1)) t296 _ A8.out).mono ?_); rintro e w20 ⟨rfl, hb⟩; refine ⟨_, rfl, ?_⟩; replace HO_0 := am (Kd.R_below (rq HO_0.out) hb); replace HK := am (Kept.below (S := (fun k_ => P0_ k_)) b3_ hb); replace HB := am (below_step bel hb); (try clear hb); (try clear hb2); (try clear hk); (try clear hi); have p9 : 0 ≤ (x5_1 : Int) := of_decide_eq_true ad; have q9 : (x5_1 : Int) < ((x0_1.length : Int) : Int) := of_decide_eq_true ad; obtain ⟨ce9, hcl9, hM9, hcc9, hfr9⟩ := Kd.R_elem HO_0.out z40 (x5_1 : Int) p9 q9; obtain rfl := k40_openM hM9; have hx9_0 : w20.cell? ⟨go6, (x5_1 : Int).toNat * 5, none⟩ = some (.string ((rd_T40 y295 x5_1).f0)) := hcc9 0 _ rfl; have hx9_1 : w20.cell? ⟨go6, (x5_1 : Int).toNat * 5 + 1, none⟩ = some (.bool ((rd_T40 y295 x5_1).f1)) := hcc9 1 _ rfl; have hx9_2 : w20.cell? ⟨go6, (x5_1 : Int).toNat * 5 + 2, none⟩ = some (.string ((rd_T40 y295 x5_1).f2)) := hcc9 2 _ rfl; have hx9_3 : w20.cell? ⟨go6, (x5_1 : Int).toNat * 5 + 3, none⟩ = some (.string ((rd_T40 y295 x5_1).f3)) := hcc9 3 _ rfl; have hx9_4 : w20.cell? ⟨go6, (x5_1 : Int).toNat * 5 + 4, none⟩ = some (.string ((rd_T40 y295 x5_1).f4)) := hcc9 4 _ rfl; have hf9_0 : w20.frozen? ⟨go6, (x5_1 : Int).toNat * 5, none⟩ = false := hfr9 0; have hf9_1 : w20.frozen? ⟨go6, (x5_1 : Int).toNat * 5 + 1, none⟩ = false := hfr9 1; have hf9_2 : w20.frozen? ⟨go6, (x5_1 : Int).toNat * 5 + 2, none⟩ = false := hfr9 2; have hf9_3 : w20.frozen? ⟨go6, (x5_1 : Int).toNat * 5 + 3, none⟩ = false := hfr9 3; have hf9_4 : w20.frozen? ⟨go6, (x5_1 : Int).toNat * 5 + 4, none⟩ = false := hfr9 4; clear hcl9 hcc9 hfr9; (try clear hM9); replace p9 := eq_true p9; replace q9 := eq_true q9; have HX21 := am (show Kd.R k40 40 w20 w0.heap.size (fun k_ => (P0_ k_ ∨ w.heap.size ≤ k_)) (.slice (some ⟨go6, 0, none⟩) x0_1.length co14) y295 from (rq HO_0.out)); obtain ⟨ce21, hcl21, hM21, hcc21, hfr21⟩ := Kd.R_elem HX21.out z40 (x5_1 : Int) (of_decide_eq_true ad) b4_; obtain rfl := k40_openM hM21; have HP21 := Kd.R_seg HX21.out (x5_1 : Int) (of_decide_eq_true ad) b4_ (seg := [.string t296]) (j := 2) hcl21 hcc21 (show 3 ≤ 5 from by decide) (x' := (⟨(rd_T40 y295 x5_1).f0, (rd_T40 y295 x5_1).f1, t296, (rd_T40 y295 x5_1).f3, (rd_T40 y295 x5_1).f4⟩ : S40)) (k40_mkM _ _ _ (⟨(rd_T40 y295 x5_1).f0, (rd_T40 y295 x5_1).f1, t296, (rd_T40 y295 x5_1).f3, (rd_T40 y295 x5_1).f4⟩ : S40) ) (fun _ hk => hk); have hx21_2 := hcc21 2 _ rfl; (try simp only [show (k40).sz = 5 from rfl, Nat.mul_one, Nat.add_zero] at hx21_2); have hf21_2 := hfr21 2; (try simp only [show (k40).sz = 5 from rfl, Nat.mul_one, Nat.add_zero] at hf21_2); clear hcl21 hcc21 hfr21; (try clear hM21)) | ((with_reducible refine gate_store (t := 9) (p := 34) rfl ?_); refine store_event (t := 9) (p := 34) (v := ?vo_w22) (w1 := (w20.setCell ⟨go6, (x5_1 : Int).toNat * 5 + 2, none⟩ (.string t296))) ?hg ?ho ?hn ?hr ?_; (case ho => rfl); (case hg => rfl); (case hn => rfl); (case hr => first | (go_simp; done) | (go_simp; rfl)); intro w22 hw; have hg : w20.grownBy w22 (some go6) := (by rw [hw]; exact HP21.2); have hp_ : Kd.R k40 40 w22 w0.heap.size (fun k_ => (P0_ k_ ∨ w.heap.size ≤ k_)) (.slice (some ⟨go6, 0, none⟩) x0_1.length co14) y297 := (by rw [hw, Ny297.out]; exact HP21.1); clear HP21; replace HB := am ((b38_ : Below w0.heap.size w0 w22)); replace HK := am (Kept.of_grown (S := (fun k_ => P0_ k_)) hg b3_ (fun k_ e_ => (HO_0.out.1 k_ e_))); replace HO_0 := am (hp_); clear hg hw hp_) | ((with_reducible refine gate_callee (f := 48) rfl ?_); refine goesL_ (some 40) rfl rfl Tryd.func48 (by kernel_rfl) rfl #[.int .i64 (wrap64 ((wrap64 ((wrap64 (x1_1 + 1)) + 1)) + 1))] rfl mq ?_; (with_reducible refine (laws_markText.calls k1 (wrap64 ((wrap64 ((wrap64 (x1_1 + 1)) + 1)) + 1)) t298 _ A10.out).mono ?_); rintro e w23 ⟨rfl, hb⟩; refine ⟨_, rfl, ?_⟩; replace HO_0 := am (Kd.R_below (rq HO_0.out) hb); replace HK := am (Kept.below (S := (fun k_ => P0_ k_)) b3_ hb); replace HB := am (below_step bel hb); (try clear hb); (try clear hb2); (try clear hk); (try clear hi); have p11 : 0 ≤ (x5_1 : Int) := of_decide_eq_true ad; have q11 : (x5_1 : Int) < ((x0_1.length : Int) : Int) := of_decide_eq_true ad; obtain ⟨ce11, hcl11, hM11, hcc11, hfr11⟩ := Kd.R_elem HO_0.out z40 (x5_1 : Int) p11 q11; obtain rfl := k40_openM hM11; have hx11_0 : w23.cell? ⟨go6, (x5_1 : Int).toNat * 5, none⟩ = some (.string ((rd_T40 y297 x5_1).f0)) := hcc11 0 _ rfl; have hx11_1 : w23.cell? ⟨go6, (x5_1 : Int).toNat * 5 + 1, none⟩ = some (.bool ((rd_T40 y297 x5_1).f1)) := hcc11 1 _ rfl; have hx11_2 : w23.cell? ⟨go6, (x5_1 : Int).toNat * 5 + 2, none⟩ = some (.string ((rd_T40 y297 x5_1).f2)) := hcc11 2 _ rfl; have hx11_3 : w23.cell? ⟨go6, (x5_1 : Int).toNat * 5 + 3, none⟩ = some (.string ((rd_T40 y297 x5_1).f3)) := hcc11 3 _ rfl; have hx11_4 : w23.cell? ⟨go6, (x5_1 : Int).toNat * 5 + 4, none⟩ = some (.string ((rd_T40 y297 x5_1).f4)) := hcc11 4 _ rfl; have hf11_0 : w23.frozen? ⟨go6, (x5_1 : Int).toNat * 5, none⟩ = false := hfr11 0; have hf11_1 : w23.frozen? ⟨go6, (x5_1 : Int).toNat * 5 + 1, none⟩ = false := hfr11 1; have hf11_2 : w23.frozen? ⟨go6, (x5_1 : Int).toNat * 5 + 2, none⟩ = false := hfr11 2; have hf11_3 : w23.frozen? ⟨go6, (x5_1 : Int).toNat * 5 + 3, none⟩ = false := hfr11 3; have hf11_4 : w23.frozen? ⟨go6, (x5_1 : Int).toNat * 5 + 4, none⟩ = false := hfr11 4; clear hcl11 hcc11 hfr11; (try clear hM11); replace p11 := eq_true p11; replace q11 := eq_true q11; have HX24 := am (show Kd.R k40 40 w23 w0.heap.size (fun k_ => (P0_ k_ ∨ w.heap.size ≤ k_)) (.slice (some ⟨go6, 0, none⟩) x0_1.length co14) y297 from (rq HO_0.out)); obtain ⟨ce24, hcl24, hM24, hcc24, hfr24⟩ := Kd.R_elem HX24.out z40 (x5_1 : Int) (of_decide_eq_true ad) b4_; obtain rfl := k40_openM hM24; have HP24 := Kd.R_seg HX24.out (x5_1 : Int) (of_decide_eq_true ad) b4_ (seg := [.string t298]) (j := 3) hcl24 hcc24 (show 4 ≤ 5 from by decide) (x' := (⟨(rd_T40 y297 x5_1).f0, (rd_T40 y297 x5_1).f1, (rd_T40 y297 x5_1).f2, t298, (rd_T40 y297 x5_1).f4⟩ : S40)) (k40_mkM _ _ _ (⟨(rd_T40 y297 x5_1).f0, (rd_T40 y297 x5_1).f1, (rd_T40 y297 x5_1).f2, t298, (rd_T40 y297 x5_1).f4⟩ : S40) ) (fun _ hk => hk); have hx24_3 := hcc24 3 _ rfl; (try simp only [show (k40).sz = 5 from rfl, Nat.mul_one, Nat.add_zero] at hx24_3); have hf24_3 := hfr24 3; (try simp only [show (k40).sz = 5 from rfl, Nat.mul_one, Nat.add_zero] at hf24_3); clear hcl24 hcc24 hfr24; (try clear hM24)) | ((with_reducible refine gate_store (t := 9) (p := 42) rfl ?_); refine store_event (t := 9) (p := 42) (v := ?vo_w25) (w1 := (w23.setCell ⟨go6, (x5_1 : Int).toNat * 5 + 3, none⟩ (.string t298))) ?hg ?ho ?hn ?hr ?_; (case ho => rfl); (case hg => rfl); (case hn => rfl); (case hr => first | (go_simp; done) | (go_simp; rfl)); intro w25 hw; have hg : w23.grownBy w25 (some go6) := (by rw [hw]; exact HP24.2); have hp_ : Kd.R k40 40 w25 w0.heap.size (fun k_ => (P0_ k_ ∨ w.heap.size ≤ k_)) (.slice (some ⟨go6, 0, none⟩) x0_1.length co14) y299 := (by rw [hw, Ny299.out]; exact HP24.1); clear HP24; replace HB := am ((b38_ : Below w0.heap.size w0 w25)); replace HK := am (Kept.of_grown (S := (fun k_ => P0_ k_)) hg b3_ (fun k_ e_ => (HO_0.out.1 k_ e_))); replace HO_0 := am (hp_); clear hg hw hp_) | ((with_reducible refine gate_callee (f := 48) rfl ?_); refine goesL_ (some 48) rfl rfl Tryd.func48 (by kernel_rfl) rfl #[.int .i64 (wrap64 ((wrap64 ((wrap64 ((wrap64 (x1_1 + 1)) + 1)) + 1)) + 1))] rfl mq ?_; (with_reducible refine (laws_markText.calls k1 (wrap64 ((wrap64 ((wrap64 ((wrap64 (x1_1 + 1)) + 1)) + 1)) + 1)) t300 _ A12.out).mono ?_); rintro e w26 ⟨rfl, hb⟩; refine ⟨_, rfl, ?_⟩; replace HO_0 := am (Kd.R_below (rq HO_0.out) hb); replace HK := am (Kept.below (S := (fun k_ => P0_ k_)) b3_ hb); replace HB := am (below_step bel hb); (try clear hb); (try clear hb2); (try clear hk); (try clear hi); have p13 : 0 ≤ (x5_1 : Int) := of_decide_eq_true ad; have q13 : (x5_1 : Int) < ((x0_1.length : Int) : Int) := of_decide_eq_true ad; obtain ⟨ce13, hcl13, hM13, hcc13, hfr13⟩ := Kd.R_elem HO_0.out z40 (x5_1 : Int) p13 q13; obtain rfl := k40_openM hM13; have hx13_0 : w26.cell? ⟨go6, (x5_1 : Int).toNat * 5, none⟩ = some (.string ((rd_T40 y299 x5_1).f0)) := hcc13 0 _ rfl; have hx13_1 : w26.cell? ⟨go6, (x5_1 : Int).toNat * 5 + 1, none⟩ = some (.bool ((rd_T40 y299 x5_1).f1)) := hcc13 1 _ rfl; have hx13_2 : w26.cell? ⟨go6, (x5_1 : Int).toNat * 5 + 2, none⟩ = some (.string ((rd_T40 y299 x5_1).f2)) := hcc13 2 _ rfl; have hx13_3 : w26.cell? ⟨go6, (x5_1 : Int).toNat * 5 + 3, none⟩ = some (.string ((rd_T40 y299 x5_1).f3)) := hcc13 3 _ rfl; have hx13_4 : w26.cell? ⟨go6, (x5_1 : Int).toNat * 5 + 4, none⟩ = some (.string ((rd_T40 y299 x5_1).f4)) := hcc13 4 _ rfl; have hf13_0 : w26.frozen? ⟨go6, (x5_1 : Int).toNat * 5, none⟩ = false := hfr13 0; have hf13_1 : w26.frozen? ⟨go6, (x5_1 : Int).toNat * 5 + 1, none⟩ = false := hfr13 1; have hf13_2 : w26.frozen? ⟨go6, (x5_1 : Int).toNat * 5 + 2, none⟩ = false := hfr13 2; have hf13_3 : w26.frozen? ⟨go6, (x5_1 : Int).toNat * 5 + 3, none⟩ = false := hfr13 3; have hf13_4 : w26.frozen? ⟨go6, (x5_1 : Int).toNat * 5 + 4, none⟩ = false := hfr13 4; clear hcl13 hcc13 hfr13; (try clear hM13); replace p13 := eq_true p13; replace q13 := eq_true q13; have HX27 := am (show Kd.R k40 40 w26 w0.heap.size (fun k_ => (P0_ k_ ∨ w.heap.size ≤ k_)) (.slice (some ⟨go6, 0, none⟩) x0_1.length co14) y299 from (rq HO_0.out)); obtain ⟨ce27, hcl27, hM27, hcc27, hfr27⟩ := Kd.R_elem HX27.out z40 (x5_1 : Int) (of_decide_eq_true ad) b4_; obtain rfl := k40_openM hM27; have HP27 := Kd.R_seg HX27.out (x5_1 : Int) (of_decide_eq_true ad) b4_ (seg := [.string t300]) (j := 4) hcl27 hcc27 (show 5 ≤ 5 from by decide) (x' := (⟨(rd_T40 y299 x5_1).f0, (rd_T40 y299 x5_1).f1, (rd_T40 y299 x5_1).f2, (rd_T40 y299 x5_1).f3, t300⟩ : S40)) (k40_mkM _ _ _ (⟨(rd_T40 y299 x5_1).f0, (rd_T40 y299 x5_1).f1, (rd_T40 y299 x5_1).f2, (rd_T40 y299 x5_1).f3, t300⟩ : S40) ) (fun _ hk => hk); have hx27_4 := hcc27 4 _ rfl; (try simp only [show (k40).sz = 5 from rfl, Nat.mul_one, Nat.add_zero] at hx27_4); have hf27_4 := hfr27 4; (try simp only [show (k40).sz = 5 from rfl, Nat.mul_one, Nat.add_zero] at hf27_4); clear hcl27 hcc27 hfr27; (try clear hM27)) | ((with_reducible refine gate_store (t := 9) (p := 50) rfl ?_); refine store_event (t := 9) (p := 50) (v := ?vo_w28) (w1 := (w26.setCell ⟨go6, (x5_1 : Int).toNat * 5 + 4, none⟩ (.string t300))) ?hg ?ho ?hn ?hr ?_; (case ho => rfl); (case hg => rfl); (case hn => rfl); (case hr => first | (go_simp; done) | (go_simp; rfl)); intro w28 hw; have hg : w26.grownBy w28 (some go6) := (by rw [hw]; exact HP27.2); have hp_ : Kd.R k40 40 w28 w0.heap.size (fun k_ => (P0_ k_ ∨ w.heap.size ≤ k_)) (.slice (some ⟨go6, 0, none⟩) x0_1.length co14) y301 := (by rw [hw, Ny301.out]; exact HP27.1); clear HP27; replace HB := am ((b38_ : Below w0.heap.size w0 w28)); replace HK := am (Kept.of_grown (S := (fun k_ => P0_ k_)) hg b3_ (fun k_ e_ => (HO_0.out.1 k_ e_))); replace HO_0 := am (hp_); clear hg hw hp_))
    go_roundg k1
    case measure => have := HK1.out; omega
    case rel => exact ⟨(y301), (wrap64 ((wrap64 ((wrap64 ((wrap64 ((wrap64 (x1_1 + 1)) + 1)) + 1)) + 1)) + 1)), (wrap64 (x5_1 + 1)), sq, sq, H', ⟨b21_⟩, ⟨rq HO_0.out⟩, ⟨b3_⟩, ⟨bel⟩⟩
   rw [if_neg c3] at H; have c3b0 := decide_eq_false c3; clear c3
   simp only [Option.some.injEq, Prod.mk.injEq] at H
   obtain ⟨rfl, rfl⟩ := H; obtain ⟨Ao29, co29, eo29⟩ := Kd.R_slice HO_0.out; subst eo29; go_wp2; go_ret
   exact ⟨eq_, by (with_reducible repeat (first | apply Kd.R_alloc | apply Kd.R_drewN | apply Kd.R_drew)); exact HO_0.out, bel, b3_⟩

/-! ### laws_markEntryS: function 28 -/
def laws_markEntryS.l0 : Nat → List (S43) → Int → Int → Option (Int × (List (S43)))
 | 0, _, _, _ => none
 | k + 1, x0, x1, x5 => if x5 < (x0.length : Int) then ((laws_markText.f k x1).bind fun t302 => (if 0 ≤ x5 then ((some (x0.set (x5 : Int).toNat (⟨t302, (rd_T43 x0 x5).f1⟩ : S43) : List (S43))).bind fun y303 => ((laws_markText.f k (wrap64 (x1 + 1))).bind fun t304 => (laws_markEntryS.l0 k (y303.set (x5 : Int).toNat (⟨(rd_T43 y303 x5).f0, t304⟩ : S43)) (wrap64 ((wrap64 (x1 + 1)) + 1)) (wrap64 (x5 + 1))))) else (none))) else (some (x1, x0))
def laws_markEntryS.f (k : Nat) (l0 : List (S43)) (a1 : Int) : Option (Int × (List (S43))) := laws_markEntryS.l0 k l0 a1 0
theorem laws_markEntryS.calls (k : Nat) (P0_ : Nat → Prop) (u9000_ : Value) (l0 : List (S43)) (a1 : Int) (r1 : Int) (r2 : List (S43)) (w0 w : World) (hB : Below w0.heap.size w0 w) (ho0 : Kd.R k43 43 w w0.heap.size P0_ u9000_ l0) (h : laws_markEntryS.f k l0 a1 = some (r1, r2)) :
  Calls Tryd.prog 28 #[u9000_, .int .i64 a1] w fun e w' => e = .returned (.int .i64 r1) ∧ Kd.R k43 43 w' w0.heap.size (fun k_ => (P0_ k_ ∨ w.heap.size ≤ k_)) u9000_ r2 ∧ Below w0.heap.size w0 w' ∧ Kept w w' (fun k_ => P0_ k_) := by
 have HO0 := am (show Kd.R k43 43 w w0.heap.size (fun k_ => (P0_ k_ ∨ w.heap.size ≤ k_)) u9000_ l0 from Kd.R_mono ho0 (fun k_ hk => (.inl hk))); have HK := am (Kept.refl w (fun k_ => P0_ k_)); have HW0 := am hB.size; have HB := am hB; clear hB
 have H : (laws_markEntryS.l0 k l0 a1 0) = some (r1, r2) := h
 clear h
 have H' := am H
 clear H; go_enter Tryd.func28, Tryd.ntmps28; go_wp2
 go_loopg [1, 5] k (fun kq v1 v5 w' => ∃ (x0_1 : List (S43)) (x1_1 : Int) (x5_1 : Int), v1 = .int .i64 x1_1 ∧ v5 = .int .i64 x5_1 ∧ Aside0 (laws_markEntryS.l0 kq x0_1 x1_1 x5_1 = some (r1, r2)) ∧ Aside0 (kq ≤ k) ∧ Aside0 (Kd.R k43 43 w' w0.heap.size (fun k_ => (P0_ k_ ∨ w.heap.size ≤ k_)) u9000_ x0_1) ∧ Aside0 (Kept w w' (fun k_ => P0_ k_)) ∧ Aside0 (Below w0.heap.size w0 w'))
 case atStart => exact ⟨(l0), (a1), (0), sq, sq, H', ⟨Nat.le_refl _⟩, ⟨rq HO0.out⟩, ⟨b3_⟩, ⟨bel⟩⟩
 case round =>
  clear H'; (try clear c2); (try clear p2); obtain ⟨x0_1, x1_1, x5_1, rfl, rfl, HA, HK1, HO_0, HK, HB⟩ := hrel
  cases gk with
  | zero => exact absurd HA.out (by simp [laws_markEntryS.l0])
  | succ k1 =>
   have H := HA.out; clear HA
   simp only [laws_markEntryS.l0] at H
   by_cases c3 : x5_1 < (x0_1.length : Int)
   ·rw [if_pos c3] at H; have c3b0 := decide_eq_true c3; clear c3; replace H := bs H; obtain ⟨t302, A40, H⟩ := H; replace H : (if 0 ≤ x5_1 then ((some (x0_1.set (x5_1 : Int).toNat (⟨t302, (rd_T43 x0_1 x5_1).f1⟩ : S43) : List (S43))).bind fun y303 => ((laws_markText.f k1 (wrap64 (x1_1 + 1))).bind fun t304 => (laws_markEntryS.l0 k1 (y303.set (x5_1 : Int).toNat (⟨(rd_T43 y303 x5_1).f0, t304⟩ : S43)) (wrap64 ((wrap64 (x1_1 + 1)) + 1)) (wrap64 (x5_1 + 1))))) else (none)) = some (r1, r2) := H; have A4 := Aside0.mk A40; clear A40
    replace H := it H; obtain ⟨c5b0, H⟩ := H; obtain ⟨y303, hy303⟩ : ∃ y_ : List (S43), y_ = (x0_1.set (x5_1 : Int).toNat (⟨t302, (rd_T43 x0_1 x5_1).f1⟩ : S43)) := ⟨_, rfl⟩
    replace H : ((laws_markText.f k1 (wrap64 (x1_1 + 1))).bind fun t304 => (laws_markEntryS.l0 k1 (y303.set (x5_1 : Int).toNat (⟨(rd_T43 y303 x5_1).f0, t304⟩ : S43)) (wrap64 ((wrap64 (x1_1 + 1)) + 1)) (wrap64 (x5_1 + 1)))) = some (r1, r2) := by first | (rw [hy303]; with_reducible exact H) | (have H2_ := bm H; rw [hy303]; with_reducible exact H2_) | (with_reducible exact bm H) | with_reducible exact H | (rw [hy303]; exact H) | exact H
    have Ny303 := am hy303; clear hy303; replace H := bs H; obtain ⟨t304, A70, H⟩ := H; replace H : (laws_markEntryS.l0 k1 (y303.set (x5_1 : Int).toNat (⟨(rd_T43 y303 x5_1).f0, t304⟩ : S43)) (wrap64 ((wrap64 (x1_1 + 1)) + 1)) (wrap64 (x5_1 + 1))) = some (r1, r2) := H; have A7 := Aside0.mk A70; clear A70; obtain ⟨y305, hy305⟩ : ∃ y_ : List (S43), y_ = (y303.set (x5_1 : Int).toNat (⟨(rd_T43 y303 x5_1).f0, t304⟩ : S43)) := ⟨_, rfl⟩
    replace H : (laws_markEntryS.l0 k1 y305 (wrap64 ((wrap64 (x1_1 + 1)) + 1)) (wrap64 (x5_1 + 1))) = some (r1, r2) := by first | (rw [hy305]; with_reducible exact H) | (have H2_ := bm H; rw [hy305]; with_reducible exact H2_) | (with_reducible exact bm H) | with_reducible exact H | (rw [hy305]; exact H) | exact H
    have Ny305 := am hy305; clear hy305
    have H' := am H
    clear H; obtain ⟨Ao9, co9, eo9⟩ := Kd.R_slice HO_0.out; subst eo9
    go_wp2_with (first | ((with_reducible refine gate_callee (f := 48) rfl ?_); refine goesL_ (some 15) rfl rfl Tryd.func48 (by kernel_rfl) rfl #[.int .i64 x1_1] rfl mq ?_; (with_reducible refine (laws_markText.calls k1 x1_1 t302 _ A4.out).mono ?_); rintro e w10 ⟨rfl, hb⟩; refine ⟨_, rfl, ?_⟩; replace HO_0 := am (Kd.R_below (rq HO_0.out) hb); replace HK := am (Kept.below (S := (fun k_ => P0_ k_)) b3_ hb); replace HB := am (below_step bel hb); (try clear hb); (try clear hb2); (try clear hk); (try clear hi); have p6 : 0 ≤ (x5_1 : Int) := of_decide_eq_true ad; have q6 : (x5_1 : Int) < ((x0_1.length : Int) : Int) := of_decide_eq_true ad; obtain ⟨go6, co6, eo6, gb6, gl6, cl6, HG6⟩ := Kd.R_form HO_0.out (by omega); (first | cases eo6 | (injection eo6 with ea_ en_ ec_; (first | subst ea_ | (injection ea_ with ea_; subst ea_)); subst ec_; clear en_)); have GB6 := Aside0.mk gb6; have GG6 := am HG6; clear gb6 gl6 HG6; have HMgo6 := am (show (P0_ go6 ∨ w.heap.size ≤ go6) from (HO_0.out.1 _ rfl)); obtain ⟨ce6, hcl6, hM6, hcc6, hfr6⟩ := Kd.R_elem HO_0.out z43 (x5_1 : Int) p6 q6; obtain rfl := k43_openM hM6; have hx6_0 : w10.cell? ⟨go6, (x5_1 : Int).toNat * 2, none⟩ = some (.string ((rd_T43 x0_1 x5_1).f0)) := hcc6 0 _ rfl; have hx6_1 : w10.cell? ⟨go6, (x5_1 : Int).toNat * 2 + 1, none⟩ = some (.string ((rd_T43 x0_1 x5_1).f1)) := hcc6 1 _ rfl; have hf6_0 : w10.frozen? ⟨go6, (x5_1 : Int).toNat * 2, none⟩ = false := hfr6 0; have hf6_1 : w10.frozen? ⟨go6, (x5_1 : Int).toNat * 2 + 1, none⟩ = false := hfr6 1; clear hcl6 hcc6 hfr6; (try clear hM6); replace p6 := eq_true p6; replace q6 := eq_true q6; have HX11 := am (show Kd.R k43 43 w10 w0.heap.size (fun k_ => (P0_ k_ ∨ w.heap.size ≤ k_)) (.slice (some ⟨go6, 0, none⟩) x0_1.length co9) x0_1 from (rq HO_0.out)); obtain ⟨ce11, hcl11, hM11, hcc11, hfr11⟩ := Kd.R_elem HX11.out z43 (x5_1 : Int) (of_decide_eq_true ad) b4_; obtain rfl := k43_openM hM11; have HP11 := Kd.R_seg HX11.out (x5_1 : Int) (of_decide_eq_true ad) b4_ (seg := [.string t302]) (j := 0) hcl11 hcc11 (show 1 ≤ 2 from by decide) (x' := (⟨t302, (rd_T43 x0_1 x5_1).f1⟩ : S43)) (k43_mkM _ _ _ (⟨t302, (rd_T43 x0_1 x5_1).f1⟩ : S43) ) (fun _ hk => hk); have hx11_0 := hcc11 0 _ rfl; (try simp only [show (k43).sz = 2 from rfl, Nat.mul_one, Nat.add_zero] at hx11_0); have hf11_0 := hfr11 0; (try simp only [show (k43).sz = 2 from rfl, Nat.mul_one, Nat.add_zero] at hf11_0); clear hcl11 hcc11 hfr11; (try clear hM11)) | ((with_reducible refine gate_store (t := 9) (p := 17) rfl ?_); refine store_event (t := 9) (p := 17) (v := ?vo_w12) (w1 := (w10.setCell ⟨go6, (x5_1 : Int).toNat * 2, none⟩ (.string t302))) ?hg ?ho ?hn ?hr ?_; (case ho => rfl); (case hg => rfl); (case hn => rfl); (case hr => first | (go_simp; done) | (go_simp; rfl)); intro w12 hw; have hg : w10.grownBy w12 (some go6) := (by rw [hw]; exact HP11.2); have hp_ : Kd.R k43 43 w12 w0.heap.size (fun k_ => (P0_ k_ ∨ w.heap.size ≤ k_)) (.slice (some ⟨go6, 0, none⟩) x0_1.length co9) y303 := (by rw [hw, Ny303.out]; exact HP11.1); clear HP11; replace HB := am ((b38_ : Below w0.heap.size w0 w12)); replace HK := am (Kept.of_grown (S := (fun k_ => P0_ k_)) hg b3_ (fun k_ e_ => (HO_0.out.1 k_ e_))); replace HO_0 := am (hp_); clear hg hw hp_) | ((with_reducible refine gate_callee (f := 48) rfl ?_); refine goesL_ (some 23) rfl rfl Tryd.func48 (by kernel_rfl) rfl #[.int .i64 (wrap64 (x1_1 + 1))] rfl mq ?_; (with_reducible refine (laws_markText.calls k1 (wrap64 (x1_1 + 1)) t304 _ A7.out).mono ?_); rintro e w13 ⟨rfl, hb⟩; refine ⟨_, rfl, ?_⟩; replace HO_0 := am (Kd.R_below (rq HO_0.out) hb); replace HK := am (Kept.below (S := (fun k_ => P0_ k_)) b3_ hb); replace HB := am (below_step bel hb); (try clear hb); (try clear hb2); (try clear hk); (try clear hi); have p8 : 0 ≤ (x5_1 : Int) := of_decide_eq_true ad; have q8 : (x5_1 : Int) < ((x0_1.length : Int) : Int) := of_decide_eq_true ad; obtain ⟨ce8, hcl8, hM8, hcc8, hfr8⟩ := Kd.R_elem HO_0.out z43 (x5_1 : Int) p8 q8; obtain rfl := k43_openM hM8; have hx8_0 : w13.cell? ⟨go6, (x5_1 : Int).toNat * 2, none⟩ = some (.string ((rd_T43 y303 x5_1).f0)) := hcc8 0 _ rfl; have hx8_1 : w13.cell? ⟨go6, (x5_1 : Int).toNat * 2 + 1, none⟩ = some (.string ((rd_T43 y303 x5_1).f1)) := hcc8 1 _ rfl; have hf8_0 : w13.frozen? ⟨go6, (x5_1 : Int).toNat * 2, none⟩ = false := hfr8 0; have hf8_1 : w13.frozen? ⟨go6, (x5_1 : Int).toNat * 2 + 1, none⟩ = false := hfr8 1; clear hcl8 hcc8 hfr8; (try clear hM8); replace p8 := eq_true p8; replace q8 := eq_true q8; have HX14 := am (show Kd.R k43 43 w13 w0.heap.size (fun k_ => (P0_ k_ ∨ w.heap.size ≤ k_)) (.slice (some ⟨go6, 0, none⟩) x0_1.length co9) y303 from (rq HO_0.out)); obtain ⟨ce14, hcl14, hM14, hcc14, hfr14⟩ := Kd.R_elem HX14.out z43 (x5_1 : Int) (of_decide_eq_true ad) b4_; obtain rfl := k43_openM hM14; have HP14 := Kd.R_seg HX14.out (x5_1 : Int) (of_decide_eq_true ad) b4_ (seg := [.string t304]) (j := 1) hcl14 hcc14 (show 2 ≤ 2 from by decide) (x' := (⟨(rd_T43 y303 x5_1).f0, t304⟩ : S43)) (k43_mkM _ _ _ (⟨(rd_T43 y303 x5_1).f0, t304⟩ : S43) ) (fun _ hk => hk); have hx14_1 := hcc14 1 _ rfl; (try simp only [show (k43).sz = 2 from rfl, Nat.mul_one, Nat.add_zero] at hx14_1); have hf14_1 := hfr14 1; (try simp only [show (k43).sz = 2 from rfl, Nat.mul_one, Nat.add_zero] at hf14_1); clear hcl14 hcc14 hfr14; (try clear hM14)) | ((with_reducible refine gate_store (t := 9) (p := 25) rfl ?_); refine store_event (t := 9) (p := 25) (v := ?vo_w15) (w1 := (w13.setCell ⟨go6, (x5_1 : Int).toNat * 2 + 1, none⟩ (.string t304))) ?hg ?ho ?hn ?hr ?_; (case ho => rfl); (case hg => rfl); (case hn => rfl); (case hr => first | (go_simp; done) | (go_simp; rfl)); intro w15 hw; have hg : w13.grownBy w15 (some go6) := (by rw [hw]; exact HP14.2); have hp_ : Kd.R k43 43 w15 w0.heap.size (fun k_ => (P0_ k_ ∨ w.heap.size ≤ k_)) (.slice (some ⟨go6, 0, none⟩) x0_1.length co9) y305 := (by rw [hw, Ny305.out]; exact HP14.1); clear HP14; replace HB := am ((b38_ : Below w0.heap.size w0 w15)); replace HK := am (Kept.of_grown (S := (fun k_ => P0_ k_)) hg b3_ (fun k_ e_ => (HO_0.out.1 k_ e_))); replace HO_0 := am (hp_); clear hg hw hp_))
    go_roundg k1
    case measure => have := HK1.out; omega
    case rel => exact ⟨(y305), (wrap64 ((wrap64 (x1_1 + 1)) + 1)), (wrap64 (x5_1 + 1)), sq, sq, H', ⟨b21_⟩, ⟨rq HO_0.out⟩, ⟨b3_⟩, ⟨bel⟩⟩
   rw [if_neg c3] at H; have c3b0 := decide_eq_false c3; clear c3
   simp only [Option.some.injEq, Prod.mk.injEq] at H
   obtain ⟨rfl, rfl⟩ := H; obtain ⟨Ao16, co16, eo16⟩ := Kd.R_slice HO_0.out; subst eo16; go_wp2; go_ret
   exact ⟨eq_, by (with_reducible repeat (first | apply Kd.R_alloc | apply Kd.R_drewN | apply Kd.R_drew)); exact HO_0.out, bel, b3_⟩

/-! ### laws_markBook: function 8 -/
def laws_markBook.f (k : Nat) (l0_0 : List (S40)) (l0_1 : List (S43)) (a1 : Int) : Option (Int × (List (S40)) × (List (S43))) := (laws_markAffixS.f k l0_0 a1).bind fun bt307 => ((laws_markEntryS.f k l0_1 bt307.1).bind fun bt309 => (some (bt309.1, bt307.2, bt309.2)))
theorem laws_markBook.calls (k : Nat) (P0_0_ : Nat → Prop) (u9000_ : Value) (l0_0 : List (S40)) (P0_1_ : Nat → Prop) (u9001_ : Value) (l0_1 : List (S43)) (a1 : Int) (r1 : Int) (r2 : List (S40)) (r3 : List (S43)) (w0 w : World) (hB : Below w0.heap.size w0 w) (ho0_0 : Kd.R k40 40 w w0.heap.size P0_0_ u9000_ l0_0) (ho0_1 : Kd.R k43 43 w w0.heap.size P0_1_ u9001_ l0_1) (h : laws_markBook.f k l0_0 l0_1 a1 = some (r1, r2, r3)) :
  Calls Tryd.prog 8 #[.agg #[u9000_, u9001_], .int .i64 a1] w fun e w' => e = .returned (.int .i64 r1) ∧ Kd.R k40 40 w' w0.heap.size (fun k_ => ((P0_0_ k_ ∨ P0_1_ k_) ∨ w.heap.size ≤ k_)) u9000_ r2 ∧ Kd.R k43 43 w' w0.heap.size (fun k_ => ((P0_0_ k_ ∨ P0_1_ k_) ∨ w.heap.size ≤ k_)) u9001_ r3 ∧ Below w0.heap.size w0 w' ∧ Kept w w' (fun k_ => P0_0_ k_ ∨ P0_1_ k_) := by
 have hu25 := Tryd.underlying25; have HO0_0 := am (show Kd.R k40 40 w w0.heap.size (fun k_ => ((P0_0_ k_ ∨ P0_1_ k_) ∨ w.heap.size ≤ k_)) u9000_ l0_0 from Kd.R_mono ho0_0 (fun k_ hk => (.inl (.inl hk)))); have HO0_1 := am (show Kd.R k43 43 w w0.heap.size (fun k_ => ((P0_0_ k_ ∨ P0_1_ k_) ∨ w.heap.size ≤ k_)) u9001_ l0_1 from Kd.R_mono ho0_1 (fun k_ hk => (.inl (.inr hk)))); have HK := am (Kept.refl w (fun k_ => P0_0_ k_ ∨ P0_1_ k_)); have HW0 := am hB.size; have HB := am hB; clear hB
 have H : ((laws_markAffixS.f k l0_0 a1).bind fun bt307 => ((laws_markEntryS.f k l0_1 bt307.1).bind fun bt309 => (some (bt309.1, bt307.2, bt309.2)))) = some (r1, r2, r3) := h
 clear h; replace H := bs H; obtain ⟨⟨t307, t308⟩, A30, H⟩ := H; replace H : ((laws_markEntryS.f k l0_1 t307).bind fun bt309 => (some (bt309.1, t308, bt309.2))) = some (r1, r2, r3) := H; have A3 := Aside0.mk A30; clear A30; replace H := bs H; obtain ⟨⟨t309, t310⟩, A40, H⟩ := H; replace H : (some (t309, t308, t310)) = some (r1, r2, r3) := H; have A4 := Aside0.mk A40; clear A40
 simp only [Option.some.injEq, Prod.mk.injEq] at H
 obtain ⟨rfl, rfl, rfl⟩ := H; obtain ⟨Ao5, co5, eo5⟩ := Kd.R_slice HO0_0.out; subst eo5; obtain ⟨Ao6, co6, eo6⟩ := Kd.R_slice HO0_1.out; subst eo6; go_enter Tryd.func8, Tryd.ntmps8
 go_wp2_with (first | ((with_reducible refine gate_dst (N := 2) rfl ?_); refine bx 2 (cs := #[.slice Ao5 l0_0.length co5, .slice Ao6 l0_1.length co6]) (t := 25) ?_; intro gb306 hg w7 hbox hb; replace HO0_0 := am (Kd.R_below (rq HO0_0.out) hb); replace HO0_1 := am (Kd.R_below (rq HO0_1.out) hb); have BK306 := am (hbox); have GW306 := am ((by rw [hg]; exact (by first | exact HK.out.1 | exact (show Kept w _ (fun k_ => P0_0_ k_ ∨ P0_1_ k_) from by repeat (first | (with_reducible first | exact HK.out | apply Kept.alloc | apply Kept.drewN | apply Kept.drew) | exact HK.out)).1) : w.heap.size ≤ gb306)); replace HK := am (Kept.below (S := (fun k_ => P0_0_ k_ ∨ P0_1_ k_)) b3_ hb); have GE306 := am ((b2_ : w0.heap.size ≤ gb306)); replace HB := am (below_step bel hb); clear hb hbox hg; have hcz8_0 := bc BK306.out 0; have hcz8_1 := bc BK306.out 1; have hfz8_0 := bf BK306.out 0; have hfz8_1 := bf BK306.out 1) | ((with_reducible refine gate_callee (f := 27) rfl ?_); refine goesL_ (some 8) rfl rfl Tryd.func27 (by kernel_rfl) rfl #[.slice Ao5 l0_0.length co5, .int .i64 a1] rfl mq ?_; (with_reducible refine (laws_markAffixS.calls k (fun k_ => some k_ = (.slice Ao5 l0_0.length co5 : Value).ownBlock) (.slice Ao5 l0_0.length co5) l0_0 a1 t307 t308 w0 _ ?side1 ?side2 A3.out).mono ?_); (case side1 => repeat (first | (with_reducible first | exact HB.out | apply below_alloc | apply pw_below_drewN | apply below_drew1 | refine below_set ?_ GE306.out) | exact HB.out)); (case side2 => exact Kd.R_tight rfl HO0_0.out); rintro e w9 ⟨rfl, hy0, hb, hkp⟩; refine ⟨_, rfl, ?_⟩; replace HO0_1 := am (Kd.R_mono (ok' := fun k_ => ((P0_0_ k_ ∨ P0_1_ k_) ∨ w.heap.size ≤ k_)) (Kd.R_keptB ((Kd.R_apart' HO0_1.out (Kd.R_typed HO0_0.out) (by decide))) hkp (fun k_ hk_ hs_ => (hk_.2) hs_)) (fun k_ hk_ => by first | exact hk_.1.1 | grind)); replace BK306 := am (blk_kept (bq BK306.out) hkp (fun hs_ => (fun e_ => (Kd.R_ne HO0_0.out BK306.out (by decide)) e_) hs_)); replace HK := am (Kept.then_ (S := (fun k_ => P0_0_ k_ ∨ P0_1_ k_)) b25_ hkp (fun k_ hs_ => (fun e_ => (HO0_0.out.1 k_ e_.symm)) hs_)); replace HO0_0 := am (Kd.R_reok rfl hy0 (fun k_ e_ => HO0_0.out.1 k_ e_)); replace HB := am (hb); (try clear hb); (try clear hkp); (try clear hy0); have hcz10_0 := bc BK306.out 0; have hcz10_1 := bc BK306.out 1; have hfz10_0 := bf BK306.out 0; have hfz10_1 := bf BK306.out 1) | ((with_reducible refine gate_callee (f := 28) rfl ?_); refine goesL_ (some 12) rfl rfl Tryd.func28 (by kernel_rfl) rfl #[.slice Ao6 l0_1.length co6, .int .i64 t307] rfl mq ?_; (with_reducible refine (laws_markEntryS.calls k (fun k_ => some k_ = (.slice Ao6 l0_1.length co6 : Value).ownBlock) (.slice Ao6 l0_1.length co6) l0_1 t307 t309 t310 w0 _ ?side1 ?side2 A4.out).mono ?_); (case side1 => repeat (first | (with_reducible first | exact HB.out | apply below_alloc | apply pw_below_drewN | apply below_drew1 | refine below_set ?_ GE306.out) | exact HB.out)); (case side2 => exact Kd.R_tight rfl HO0_1.out); rintro e w11 ⟨rfl, hy0, hb, hkp⟩; refine ⟨_, rfl, ?_⟩; replace HO0_0 := am (Kd.R_mono (ok' := fun k_ => ((P0_0_ k_ ∨ P0_1_ k_) ∨ w.heap.size ≤ k_)) (Kd.R_keptB ((Kd.R_apart' HO0_0.out (Kd.R_typed HO0_1.out) (by decide))) hkp (fun k_ hk_ hs_ => (hk_.2) hs_)) (fun k_ hk_ => by first | exact hk_.1.1 | grind)); replace BK306 := am (blk_kept (bq BK306.out) hkp (fun hs_ => (fun e_ => (Kd.R_ne HO0_1.out BK306.out (by decide)) e_) hs_)); replace HK := am (Kept.then_ (S := (fun k_ => P0_0_ k_ ∨ P0_1_ k_)) b25_ hkp (fun k_ hs_ => (fun e_ => (HO0_1.out.1 k_ e_.symm)) hs_)); replace HO0_1 := am (Kd.R_reok rfl hy0 (fun k_ e_ => HO0_1.out.1 k_ e_)); replace HB := am (hb); (try clear hb); (try clear hkp); (try clear hy0)))
 go_ret
 exact ⟨eq_, by (with_reducible repeat (first | apply Kd.R_alloc | apply Kd.R_drewN | apply Kd.R_drew)); exact HO0_0.out, by (with_reducible repeat (first | apply Kd.R_alloc | apply Kd.R_drewN | apply Kd.R_drew)); exact HO0_1.out, bel1 GE306.out, b25_⟩
-- shrunk

/-! ### laws_heldAffixS: function 29 -/
def laws_heldAffixS.l0 : Nat → List (S40) → Int → Int → Option (Int)
 | 0, _, _, _ => none
 | k + 1, x0, x1, x5 => if x5 < (x0.length : Int) then (if 0 ≤ x5 then ((laws_markText.f k x1).bind fun t312 => (if ((rd_T40 x0 x5).f0).toList = t312.toList then (if (((rd_T40 x0 x5).f1) != ((Int.tmod (wrap64 (x1 + 1)) 3) == 0)) = true then (some (-1)) else ((laws_markText.f k (wrap64 ((wrap64 (x1 + 1)) + 1))).bind fun t315 => (if ((rd_T40 x0 x5).f2).toList = t315.toList then ((laws_markText.f k (wrap64 ((wrap64 ((wrap64 (x1 + 1)) + 1)) + 1))).bind fun t317 => (if ((rd_T40 x0 x5).f3).toList = t317.toList then ((laws_markText.f k (wrap64 ((wrap64 ((wrap64 ((wrap64 (x1 + 1)) + 1)) + 1)) + 1))).bind fun t319 => (if ((rd_T40 x0 x5).f4).toList = t319.toList then (laws_heldAffixS.l0 k x0 (wrap64 ((wrap64 ((wrap64 ((wrap64 ((wrap64 (x1 + 1)) + 1)) + 1)) + 1)) + 1)) (wrap64 (x5 + 1))) else (some (-1)))) else (some (-1)))) else (some (-1))))) else (some (-1)))) else (none)) else (some x1)
def laws_heldAffixS.f (k : Nat) (l0 : List (S40)) (a1 : Int) : Option (Int) := laws_heldAffixS.l0 k l0 a1 0
def laws_heldAffixS.T4 : Bool × List (List Nat × List Nat) := (true, [([], []), ([], []), ([0, 1], [0, 1]), ([2], [2]), ([3], [3]), ([], []), ([5], [5]), ([4, 6], [4, 6])])
def laws_heldAffixS.B4 : List Nat := [0, 0, 3, 7, 15, 0, 32, 127]
theorem laws_heldAffixS.tab4 : rtab .any (opsOf Tryd.f29 4) = laws_heldAffixS.T4 := by kernel_rfl
theorem laws_heldAffixS.bits4 : waitsOk laws_heldAffixS.T4.2 laws_heldAffixS.B4 = true := by kernel_rfl
def laws_heldAffixS.T10 : Bool × List (List Nat × List Nat) := (true, [([], []), ([], []), ([0, 1], [0, 1]), ([2], [2]), ([3], [3]), ([], []), ([5], [5]), ([4, 6], [4, 6])])
def laws_heldAffixS.B10 : List Nat := [0, 0, 3, 7, 15, 0, 32, 127]
theorem laws_heldAffixS.tab10 : rtab .any (opsOf Tryd.f29 10) = laws_heldAffixS.T10 := by kernel_rfl
theorem laws_heldAffixS.bits10 : waitsOk laws_heldAffixS.T10.2 laws_heldAffixS.B10 = true := by kernel_rfl
def laws_heldAffixS.T13 : Bool × List (List Nat × List Nat) := (true, [([], []), ([], []), ([0, 1], [0, 1]), ([2], [2]), ([3], [3]), ([], []), ([5], [5]), ([4, 6], [4, 6])])
def laws_heldAffixS.B13 : List Nat := [0, 0, 3, 7, 15, 0, 32, 127]
theorem laws_heldAffixS.tab13 : rtab .any (opsOf Tryd.f29 13) = laws_heldAffixS.T13 := by kernel_rfl
theorem laws_heldAffixS.bits13 : waitsOk laws_heldAffixS.T13.2 laws_heldAffixS.B13 = true := by kernel_rfl
def laws_heldAffixS.T16 : Bool × List (List Nat × List Nat) := (true, [([], []), ([], []), ([0, 1], [0, 1]), ([2], [2]), ([3], [3]), ([], []), ([5], [5]), ([4, 6], [4, 6])])
def laws_heldAffixS.B16 : List Nat := [0, 0, 3, 7, 15, 0, 32, 127]
theorem laws_heldAffixS.tab16 : rtab .any (opsOf Tryd.f29 16) = laws_heldAffixS.T16 := by kernel_rfl
theorem laws_heldAffixS.bits16 : waitsOk laws_heldAffixS.T16.2 laws_heldAffixS.B16 = true := by kernel_rfl
theorem laws_heldAffixS.calls (k : Nat) (A0 : Option Addr) (c0 : Nat) (l0 : List (S40)) (a1 : Int) (r : Int) (w : World) (hr0 : Kd.C k40 w A0 l0.length l0) (hc0 : l0.length ≤ c0) (h : laws_heldAffixS.f k l0 a1 = some r) :
  Calls Tryd.prog 29 #[.slice A0 l0.length c0, .int .i64 a1] w fun e w' => e = .returned (.int .i64 r) ∧ Below w.heap.size w w' := by
 have HR0 := am hr0; have HC0 := am hc0; clear hr0 hc0; have HB := am (Below.refl w.heap.size w)
 have H : (laws_heldAffixS.l0 k l0 a1 0) = some r := h
 clear h
 have H' := am H
 clear H; go_enter Tryd.func29, Tryd.ntmps29; go_wp2
 go_loopg [1, 5] k (fun kq v1 v5 w' => ∃ (x1_1 : Int) (x5_1 : Int), v1 = .int .i64 x1_1 ∧ v5 = .int .i64 x5_1 ∧ Aside0 (laws_heldAffixS.l0 kq l0 x1_1 x5_1 = some r) ∧ Aside0 (kq ≤ k) ∧ Aside0 (Below w.heap.size w w'))
 case atStart => exact ⟨(a1), (0), sq, sq, H', ⟨Nat.le_refl _⟩, ⟨bel⟩⟩
 case round =>
  clear H'; (try clear c2); (try clear p2); obtain ⟨x1_1, x5_1, rfl, rfl, HA, HK1, HB⟩ := hrel
  cases gk with
  | zero => exact absurd HA.out (by simp [laws_heldAffixS.l0])
  | succ k1 =>
   have H := HA.out; clear HA
   simp only [laws_heldAffixS.l0] at H
   by_cases c3 : x5_1 < (l0.length : Int)
   ·rw [if_pos c3] at H; have c3b0 := decide_eq_true c3; clear c3
    replace H := it H; obtain ⟨c4b0, H⟩ := H; replace H := bs H; obtain ⟨t312, A50, H⟩ := H; replace H : (if ((rd_T40 l0 x5_1).f0).toList = t312.toList then (if (((rd_T40 l0 x5_1).f1) != ((Int.tmod (wrap64 (x1_1 + 1)) 3) == 0)) = true then (some (-1)) else ((laws_markText.f k1 (wrap64 ((wrap64 (x1_1 + 1)) + 1))).bind fun t315 => (if ((rd_T40 l0 x5_1).f2).toList = t315.toList then ((laws_markText.f k1 (wrap64 ((wrap64 ((wrap64 (x1_1 + 1)) + 1)) + 1))).bind fun t317 => (if ((rd_T40 l0 x5_1).f3).toList = t317.toList then ((laws_markText.f k1 (wrap64 ((wrap64 ((wrap64 ((wrap64 (x1_1 + 1)) + 1)) + 1)) + 1))).bind fun t319 => (if ((rd_T40 l0 x5_1).f4).toList = t319.toList then (laws_heldAffixS.l0 k1 l0 (wrap64 ((wrap64 ((wrap64 ((wrap64 ((wrap64 (x1_1 + 1)) + 1)) + 1)) + 1)) + 1)) (wrap64 (x5_1 + 1))) else (some (-1)))) else (some (-1)))) else (some (-1))))) else (some (-1))) = some r := H; have A5 := Aside0.mk A50; clear A50
    by_cases c6 : ((rd_T40 l0 x5_1).f0).toList = t312.toList
    ·rw [if_pos c6] at H
     have c6b0 : (((rd_T40 l0 x5_1).f0).toList == t312.toList) = true := beq_iff_eq.mpr c6
     have c6b1 : (((rd_T40 l0 x5_1).f0).toList != t312.toList) = false := bne_eq_false_iff_eq.mpr c6
     clear c6
     by_cases c7 : (((rd_T40 l0 x5_1).f1) != ((Int.tmod (wrap64 (x1_1 + 1)) 3) == 0)) = true
     ·rw [if_pos c7] at H
      have c7b0 : (((rd_T40 l0 x5_1).f1) != ((Int.tmod (wrap64 (x1_1 + 1)) 3) == 0)) = true := c7
      (try (have c7b1 : decide (((rd_T40 l0 x5_1).f1) = ((Int.tmod (wrap64 (x1_1 + 1)) 3) == 0)) = false := by simpa using c7))
      (try (have c7b2 : (((rd_T40 l0 x5_1).f1) == ((Int.tmod (wrap64 (x1_1 + 1)) 3) == 0)) = false := by simpa using c7))
      (try (have c7b3 : ¬ (((rd_T40 l0 x5_1).f1) = ((Int.tmod (wrap64 (x1_1 + 1)) 3) == 0)) := by simpa using c7))
      clear c7; obtain rfl := Option.some.inj H
      try go_wp2
      replace HB := am (below_drew1 HB.out)
      have p311 : 0 ≤ (x5_1 : Int) := of_decide_eq_true ad
      have q311 : x5_1 < (l0.length : Int) := of_decide_eq_true ad
      obtain ⟨ad311, e311, hx311_0, hx311_1, hx311_2, hx311_3, hx311_4⟩ := at_T40 HR0.out x5_1 p311 q311; have hw311_4 := hx311_4; have hw311_3 := hx311_3; have hw311_2 := hx311_2; have hw311_1 := hx311_1; have hw311_0 := hx311_0
      cases e311
      replace hx311_0 := kp HB.out hx311_0; replace hx311_1 := kp HB.out hx311_1; replace hx311_2 := kp HB.out hx311_2; replace hx311_3 := kp HB.out hx311_3; replace hx311_4 := kp HB.out hx311_4; replace p311 := eq_true p311; replace q311 := eq_true q311
      refine st (n := 8) (S := fun w' => w'.cell? (ad311.add ((x5_1).toNat * 5)) = some (.string ((rd_T40 l0 x5_1).f0)) ∧ w'.cell? ⟨(ad311.add ((x5_1).toNat * 5)).block, (ad311.add ((x5_1).toNat * 5)).off + 1, none⟩ = some (.bool ((rd_T40 l0 x5_1).f1)) ∧ w'.cell? ⟨(ad311.add ((x5_1).toNat * 5)).block, (ad311.add ((x5_1).toNat * 5)).off + 2, none⟩ = some (.string ((rd_T40 l0 x5_1).f2)) ∧ w'.cell? ⟨(ad311.add ((x5_1).toNat * 5)).block, (ad311.add ((x5_1).toNat * 5)).off + 3, none⟩ = some (.string ((rd_T40 l0 x5_1).f3)) ∧ w'.cell? ⟨(ad311.add ((x5_1).toNat * 5)).block, (ad311.add ((x5_1).toNat * 5)).off + 4, none⟩ = some (.string ((rd_T40 l0 x5_1).f4))) (ds := []) ⟨(kp HB.out hw311_0), (kp HB.out hw311_1), (kp HB.out hw311_2), (kp HB.out hw311_3), (kp HB.out hw311_4)⟩ (fun hHeld => ?_); refine with_tabW laws_heldAffixS.tab4 laws_heldAffixS.bits4 (fun HT_ HW_ => ?_)
      generalize wr.drew = w8 at HB hx311_0 hx311_1 hx311_2 hx311_3 hx311_4 hHeld ⊢
      refine pu 0 12 ?_
      refine pu 1 13 ?_
      refine pu 2 14 ?_
      refine pu 3 15 ?_
      refine pu 5 17 ?_
      refine tk5 4 16 hHeld ?_
      refine on1 6 18 (fun K hK => ?_)
      refine goes_ Tryd.func48 (by kernel_rfl) rfl #[.int .i64 x1_1] (by rfl) rfl rfl mq ?_
      with_reducible refine (laws_markText.calls k1 x1_1 t312 _ A5.out).mono ?_
      rintro e w9 ⟨rfl, hb⟩
      refine ⟨_, rfl, ?_⟩
      replace HB := am (below_step bel hb)
      (try clear hb)
      (try clear hb2)
      (try clear hk)
      (try clear hi)
      refine hK.out _ _ ⟨(kp HB.out hw311_0), (kp HB.out hw311_1), (kp HB.out hw311_2), (kp HB.out hw311_3), (kp HB.out hw311_4)⟩ (fun hHeld => ?_)
      clear hK K
      refine norm_ (a' := ?_) ?_ ?_
      rotate_left
      ·show Act.put _ (some 18) _ = _
       simp only [Act.put, List.setIfInBounds_toArray, List.set_cons_zero, List.set_cons_succ, i64_w, i32_w]
       rfl
      refine pu 7 19 ?_
      refine done_ (done_of HT_.out (by kernel_rfl)) ?_
      have p313 : 0 ≤ (x5_1 : Int) := of_decide_eq_true ad
      have q313 : x5_1 < (l0.length : Int) := of_decide_eq_true ad
      obtain ⟨ad313, e313, hx313_0, hx313_1, hx313_2, hx313_3, hx313_4⟩ := at_T40 HR0.out x5_1 p313 q313
      obtain rfl : ad311 = ad313 := (by injection e313)
      replace hx313_0 := kp HB.out hx313_0; replace hx313_1 := kp HB.out hx313_1; replace hx313_2 := kp HB.out hx313_2; replace hx313_3 := kp HB.out hx313_3; replace hx313_4 := kp HB.out hx313_4; replace p313 := eq_true p313; replace q313 := eq_true q313
      try go_wp2
      go_ret
      exact ⟨eq_, bel⟩
     rw [if_neg c7] at H
     have c7b0 : (((rd_T40 l0 x5_1).f1) != ((Int.tmod (wrap64 (x1_1 + 1)) 3) == 0)) = false := by simpa using c7
     (try (have c7b1 : decide (((rd_T40 l0 x5_1).f1) = ((Int.tmod (wrap64 (x1_1 + 1)) 3) == 0)) = true := by simpa using c7))
     (try (have c7b2 : (((rd_T40 l0 x5_1).f1) == ((Int.tmod (wrap64 (x1_1 + 1)) 3) == 0)) = true := by simpa using c7))
     clear c7; replace H := bs H; obtain ⟨t315, A100, H⟩ := H; replace H : (if ((rd_T40 l0 x5_1).f2).toList = t315.toList then ((laws_markText.f k1 (wrap64 ((wrap64 ((wrap64 (x1_1 + 1)) + 1)) + 1))).bind fun t317 => (if ((rd_T40 l0 x5_1).f3).toList = t317.toList then ((laws_markText.f k1 (wrap64 ((wrap64 ((wrap64 ((wrap64 (x1_1 + 1)) + 1)) + 1)) + 1))).bind fun t319 => (if ((rd_T40 l0 x5_1).f4).toList = t319.toList then (laws_heldAffixS.l0 k1 l0 (wrap64 ((wrap64 ((wrap64 ((wrap64 ((wrap64 (x1_1 + 1)) + 1)) + 1)) + 1)) + 1)) (wrap64 (x5_1 + 1))) else (some (-1)))) else (some (-1)))) else (some (-1))) = some r := H; have A10 := Aside0.mk A100; clear A100
     by_cases c11 : ((rd_T40 l0 x5_1).f2).toList = t315.toList
     ·rw [if_pos c11] at H
      have c11b0 : (((rd_T40 l0 x5_1).f2).toList == t315.toList) = true := beq_iff_eq.mpr c11
      have c11b1 : (((rd_T40 l0 x5_1).f2).toList != t315.toList) = false := bne_eq_false_iff_eq.mpr c11
      clear c11; replace H := bs H; obtain ⟨t317, A120, H⟩ := H; replace H : (if ((rd_T40 l0 x5_1).f3).toList = t317.toList then ((laws_markText.f k1 (wrap64 ((wrap64 ((wrap64 ((wrap64 (x1_1 + 1)) + 1)) + 1)) + 1))).bind fun t319 => (if ((rd_T40 l0 x5_1).f4).toList = t319.toList then (laws_heldAffixS.l0 k1 l0 (wrap64 ((wrap64 ((wrap64 ((wrap64 ((wrap64 (x1_1 + 1)) + 1)) + 1)) + 1)) + 1)) (wrap64 (x5_1 + 1))) else (some (-1)))) else (some (-1))) = some r := H; have A12 := Aside0.mk A120; clear A120
      by_cases c13 : ((rd_T40 l0 x5_1).f3).toList = t317.toList
      ·rw [if_pos c13] at H
       have c13b0 : (((rd_T40 l0 x5_1).f3).toList == t317.toList) = true := beq_iff_eq.mpr c13
       have c13b1 : (((rd_T40 l0 x5_1).f3).toList != t317.toList) = false := bne_eq_false_iff_eq.mpr c13
       clear c13; replace H := bs H; obtain ⟨t319, A140, H⟩ := H; replace H : (if ((rd_T40 l0 x5_1).f4).toList = t319.toList then (laws_heldAffixS.l0 k1 l0 (wrap64 ((wrap64 ((wrap64 ((wrap64 ((wrap64 (x1_1 + 1)) + 1)) + 1)) + 1)) + 1)) (wrap64 (x5_1 + 1))) else (some (-1))) = some r := H; have A14 := Aside0.mk A140; clear A140
       by_cases c15 : ((rd_T40 l0 x5_1).f4).toList = t319.toList
       ·rw [if_pos c15] at H
        have c15b0 : (((rd_T40 l0 x5_1).f4).toList == t319.toList) = true := beq_iff_eq.mpr c15
        have c15b1 : (((rd_T40 l0 x5_1).f4).toList != t319.toList) = false := bne_eq_false_iff_eq.mpr c15
        clear c15
        have H' := am H
        clear H
        try go_wp2
        replace HB := am (below_drew1 HB.out)
        have p311 : 0 ≤ (x5_1 : Int) := of_decide_eq_true ad
        have q311 : x5_1 < (l0.length : Int) := of_decide_eq_true ad
        obtain ⟨ad311, e311, hx311_0, hx311_1, hx311_2, hx311_3, hx311_4⟩ := at_T40 HR0.out x5_1 p311 q311; have hw311_4 := hx311_4; have hw311_3 := hx311_3; have hw311_2 := hx311_2; have hw311_1 := hx311_1; have hw311_0 := hx311_0
        cases e311
        replace hx311_0 := kp HB.out hx311_0; replace hx311_1 := kp HB.out hx311_1; replace hx311_2 := kp HB.out hx311_2; replace hx311_3 := kp HB.out hx311_3; replace hx311_4 := kp HB.out hx311_4; replace p311 := eq_true p311; replace q311 := eq_true q311
        refine st (n := 8) (S := fun w' => w'.cell? (ad311.add ((x5_1).toNat * 5)) = some (.string ((rd_T40 l0 x5_1).f0)) ∧ w'.cell? ⟨(ad311.add ((x5_1).toNat * 5)).block, (ad311.add ((x5_1).toNat * 5)).off + 1, none⟩ = some (.bool ((rd_T40 l0 x5_1).f1)) ∧ w'.cell? ⟨(ad311.add ((x5_1).toNat * 5)).block, (ad311.add ((x5_1).toNat * 5)).off + 2, none⟩ = some (.string ((rd_T40 l0 x5_1).f2)) ∧ w'.cell? ⟨(ad311.add ((x5_1).toNat * 5)).block, (ad311.add ((x5_1).toNat * 5)).off + 3, none⟩ = some (.string ((rd_T40 l0 x5_1).f3)) ∧ w'.cell? ⟨(ad311.add ((x5_1).toNat * 5)).block, (ad311.add ((x5_1).toNat * 5)).off + 4, none⟩ = some (.string ((rd_T40 l0 x5_1).f4))) (ds := []) ⟨(kp HB.out hw311_0), (kp HB.out hw311_1), (kp HB.out hw311_2), (kp HB.out hw311_3), (kp HB.out hw311_4)⟩ (fun hHeld => ?_); refine with_tabW laws_heldAffixS.tab4 laws_heldAffixS.bits4 (fun HT_ HW_ => ?_)
        generalize wr.drew = w16 at HB hx311_0 hx311_1 hx311_2 hx311_3 hx311_4 hHeld ⊢
        refine pu 0 12 ?_
        refine pu 1 13 ?_
        refine pu 2 14 ?_
        refine pu 3 15 ?_
        refine pu 5 17 ?_
        refine tk5 4 16 hHeld ?_
        refine on1 6 18 (fun K hK => ?_)
        refine goes_ Tryd.func48 (by kernel_rfl) rfl #[.int .i64 x1_1] (by rfl) rfl rfl mq ?_
        with_reducible refine (laws_markText.calls k1 x1_1 t312 _ A5.out).mono ?_
        rintro e w17 ⟨rfl, hb⟩
        refine ⟨_, rfl, ?_⟩
        replace HB := am (below_step bel hb)
        (try clear hb)
        (try clear hb2)
        (try clear hk)
        (try clear hi)
        refine hK.out _ _ ⟨(kp HB.out hw311_0), (kp HB.out hw311_1), (kp HB.out hw311_2), (kp HB.out hw311_3), (kp HB.out hw311_4)⟩ (fun hHeld => ?_)
        clear hK K
        refine norm_ (a' := ?_) ?_ ?_
        rotate_left
        ·show Act.put _ (some 18) _ = _
         simp only [Act.put, List.setIfInBounds_toArray, List.set_cons_zero, List.set_cons_succ, i64_w, i32_w]
         rfl
        refine pu 7 19 ?_
        refine done_ (done_of HT_.out (by kernel_rfl)) ?_
        have p313 : 0 ≤ (x5_1 : Int) := of_decide_eq_true ad
        have q313 : x5_1 < (l0.length : Int) := of_decide_eq_true ad
        obtain ⟨ad313, e313, hx313_0, hx313_1, hx313_2, hx313_3, hx313_4⟩ := at_T40 HR0.out x5_1 p313 q313
        obtain rfl : ad311 = ad313 := (by injection e313)
        replace hx313_0 := kp HB.out hx313_0; replace hx313_1 := kp HB.out hx313_1; replace hx313_2 := kp HB.out hx313_2; replace hx313_3 := kp HB.out hx313_3; replace hx313_4 := kp HB.out hx313_4; replace p313 := eq_true p313; replace q313 := eq_true q313
        try go_wp2
        replace HB := am (below_drew1 HB.out)
        have p314 : 0 ≤ (x5_1 : Int) := of_decide_eq_true ad
        have q314 : x5_1 < (l0.length : Int) := of_decide_eq_true ad
        obtain ⟨ad314, e314, hx314_0, hx314_1, hx314_2, hx314_3, hx314_4⟩ := at_T40 HR0.out x5_1 p314 q314; have hw314_4 := hx314_4; have hw314_3 := hx314_3; have hw314_2 := hx314_2; have hw314_1 := hx314_1; have hw314_0 := hx314_0
        obtain rfl : ad311 = ad314 := (by injection e314)
        replace hx314_0 := kp HB.out hx314_0; replace hx314_1 := kp HB.out hx314_1; replace hx314_2 := kp HB.out hx314_2; replace hx314_3 := kp HB.out hx314_3; replace hx314_4 := kp HB.out hx314_4; replace p314 := eq_true p314; replace q314 := eq_true q314
        refine st (n := 8) (S := fun w' => w'.cell? (ad311.add ((x5_1).toNat * 5)) = some (.string ((rd_T40 l0 x5_1).f0)) ∧ w'.cell? ⟨(ad311.add ((x5_1).toNat * 5)).block, (ad311.add ((x5_1).toNat * 5)).off + 1, none⟩ = some (.bool ((rd_T40 l0 x5_1).f1)) ∧ w'.cell? ⟨(ad311.add ((x5_1).toNat * 5)).block, (ad311.add ((x5_1).toNat * 5)).off + 2, none⟩ = some (.string ((rd_T40 l0 x5_1).f2)) ∧ w'.cell? ⟨(ad311.add ((x5_1).toNat * 5)).block, (ad311.add ((x5_1).toNat * 5)).off + 3, none⟩ = some (.string ((rd_T40 l0 x5_1).f3)) ∧ w'.cell? ⟨(ad311.add ((x5_1).toNat * 5)).block, (ad311.add ((x5_1).toNat * 5)).off + 4, none⟩ = some (.string ((rd_T40 l0 x5_1).f4))) (ds := []) ⟨(kp HB.out hw314_0), (kp HB.out hw314_1), (kp HB.out hw314_2), (kp HB.out hw314_3), (kp HB.out hw314_4)⟩ (fun hHeld => ?_); refine with_tabW laws_heldAffixS.tab10 laws_heldAffixS.bits10 (fun HT_ HW_ => ?_)
        generalize w17.drew = w18 at HB hx314_0 hx314_1 hx314_2 hx314_3 hx314_4 hHeld ⊢
        refine pu 0 33 ?_
        refine pu 1 34 ?_
        refine pu 2 35 ?_
        refine pu 3 36 ?_
        refine pu 5 38 ?_
        refine tk5 4 37 hHeld ?_
        refine on1 6 39 (fun K hK => ?_)
        refine goes_ Tryd.func48 (by kernel_rfl) rfl #[.int .i64 (wrap64 ((wrap64 (x1_1 + 1)) + 1))] (by rfl) rfl rfl mq ?_
        with_reducible refine (laws_markText.calls k1 (wrap64 ((wrap64 (x1_1 + 1)) + 1)) t315 _ A10.out).mono ?_
        rintro e w19 ⟨rfl, hb⟩
        refine ⟨_, rfl, ?_⟩
        replace HB := am (below_step bel hb)
        (try clear hb)
        (try clear hb2)
        (try clear hk)
        (try clear hi)
        refine hK.out _ _ ⟨(kp HB.out hw314_0), (kp HB.out hw314_1), (kp HB.out hw314_2), (kp HB.out hw314_3), (kp HB.out hw314_4)⟩ (fun hHeld => ?_)
        clear hK K
        refine norm_ (a' := ?_) ?_ ?_
        rotate_left
        ·show Act.put _ (some 39) _ = _
         simp only [Act.put, List.setIfInBounds_toArray, List.set_cons_zero, List.set_cons_succ, i64_w, i32_w]
         rfl
        refine pu 7 40 ?_
        refine done_ (done_of HT_.out (by kernel_rfl)) ?_
        try go_wp2
        replace HB := am (below_drew1 HB.out)
        have p316 : 0 ≤ (x5_1 : Int) := of_decide_eq_true ad
        have q316 : x5_1 < (l0.length : Int) := of_decide_eq_true ad
        obtain ⟨ad316, e316, hx316_0, hx316_1, hx316_2, hx316_3, hx316_4⟩ := at_T40 HR0.out x5_1 p316 q316; have hw316_4 := hx316_4; have hw316_3 := hx316_3; have hw316_2 := hx316_2; have hw316_1 := hx316_1; have hw316_0 := hx316_0
        obtain rfl : ad311 = ad316 := (by injection e316)
        replace hx316_0 := kp HB.out hx316_0; replace hx316_1 := kp HB.out hx316_1; replace hx316_2 := kp HB.out hx316_2; replace hx316_3 := kp HB.out hx316_3; replace hx316_4 := kp HB.out hx316_4; replace p316 := eq_true p316; replace q316 := eq_true q316
        refine st (n := 8) (S := fun w' => w'.cell? (ad311.add ((x5_1).toNat * 5)) = some (.string ((rd_T40 l0 x5_1).f0)) ∧ w'.cell? ⟨(ad311.add ((x5_1).toNat * 5)).block, (ad311.add ((x5_1).toNat * 5)).off + 1, none⟩ = some (.bool ((rd_T40 l0 x5_1).f1)) ∧ w'.cell? ⟨(ad311.add ((x5_1).toNat * 5)).block, (ad311.add ((x5_1).toNat * 5)).off + 2, none⟩ = some (.string ((rd_T40 l0 x5_1).f2)) ∧ w'.cell? ⟨(ad311.add ((x5_1).toNat * 5)).block, (ad311.add ((x5_1).toNat * 5)).off + 3, none⟩ = some (.string ((rd_T40 l0 x5_1).f3)) ∧ w'.cell? ⟨(ad311.add ((x5_1).toNat * 5)).block, (ad311.add ((x5_1).toNat * 5)).off + 4, none⟩ = some (.string ((rd_T40 l0 x5_1).f4))) (ds := []) ⟨(kp HB.out hw316_0), (kp HB.out hw316_1), (kp HB.out hw316_2), (kp HB.out hw316_3), (kp HB.out hw316_4)⟩ (fun hHeld => ?_); refine with_tabW laws_heldAffixS.tab13 laws_heldAffixS.bits13 (fun HT_ HW_ => ?_)
        generalize w19.drew = w20 at HB hx316_0 hx316_1 hx316_2 hx316_3 hx316_4 hHeld ⊢
        refine pu 0 43 ?_
        refine pu 1 44 ?_
        refine pu 2 45 ?_
        refine pu 3 46 ?_
        refine pu 5 48 ?_
        refine tk5 4 47 hHeld ?_
        refine on1 6 49 (fun K hK => ?_)
        refine goes_ Tryd.func48 (by kernel_rfl) rfl #[.int .i64 (wrap64 ((wrap64 ((wrap64 (x1_1 + 1)) + 1)) + 1))] (by rfl) rfl rfl mq ?_
        with_reducible refine (laws_markText.calls k1 (wrap64 ((wrap64 ((wrap64 (x1_1 + 1)) + 1)) + 1)) t317 _ A12.out).mono ?_
        rintro e w21 ⟨rfl, hb⟩
        refine ⟨_, rfl, ?_⟩
        replace HB := am (below_step bel hb)
        (try clear hb)
        (try clear hb2)
        (try clear hk)
        (try clear hi)
        refine hK.out _ _ ⟨(kp HB.out hw316_0), (kp HB.out hw316_1), (kp HB.out hw316_2), (kp HB.out hw316_3), (kp HB.out hw316_4)⟩ (fun hHeld => ?_)
        clear hK K
        refine norm_ (a' := ?_) ?_ ?_
        rotate_left
        ·show Act.put _ (some 49) _ = _
         simp only [Act.put, List.setIfInBounds_toArray, List.set_cons_zero, List.set_cons_succ, i64_w, i32_w]
         rfl
        refine pu 7 50 ?_
        refine done_ (done_of HT_.out (by kernel_rfl)) ?_
        try go_wp2
        replace HB := am (below_drew1 HB.out)
        have p318 : 0 ≤ (x5_1 : Int) := of_decide_eq_true ad
        have q318 : x5_1 < (l0.length : Int) := of_decide_eq_true ad
        obtain ⟨ad318, e318, hx318_0, hx318_1, hx318_2, hx318_3, hx318_4⟩ := at_T40 HR0.out x5_1 p318 q318; have hw318_4 := hx318_4; have hw318_3 := hx318_3; have hw318_2 := hx318_2; have hw318_1 := hx318_1; have hw318_0 := hx318_0
        obtain rfl : ad311 = ad318 := (by injection e318)
        replace hx318_0 := kp HB.out hx318_0; replace hx318_1 := kp HB.out hx318_1; replace hx318_2 := kp HB.out hx318_2; replace hx318_3 := kp HB.out hx318_3; replace hx318_4 := kp HB.out hx318_4; replace p318 := eq_true p318; replace q318 := eq_true q318
        refine st (n := 8) (S := fun w' => w'.cell? (ad311.add ((x5_1).toNat * 5)) = some (.string ((rd_T40 l0 x5_1).f0)) ∧ w'.cell? ⟨(ad311.add ((x5_1).toNat * 5)).block, (ad311.add ((x5_1).toNat * 5)).off + 1, none⟩ = some (.bool ((rd_T40 l0 x5_1).f1)) ∧ w'.cell? ⟨(ad311.add ((x5_1).toNat * 5)).block, (ad311.add ((x5_1).toNat * 5)).off + 2, none⟩ = some (.string ((rd_T40 l0 x5_1).f2)) ∧ w'.cell? ⟨(ad311.add ((x5_1).toNat * 5)).block, (ad311.add ((x5_1).toNat * 5)).off + 3, none⟩ = some (.string ((rd_T40 l0 x5_1).f3)) ∧ w'.cell? ⟨(ad311.add ((x5_1).toNat * 5)).block, (ad311.add ((x5_1).toNat * 5)).off + 4, none⟩ = some (.string ((rd_T40 l0 x5_1).f4))) (ds := []) ⟨(kp HB.out hw318_0), (kp HB.out hw318_1), (kp HB.out hw318_2), (kp HB.out hw318_3), (kp HB.out hw318_4)⟩ (fun hHeld => ?_); refine with_tabW laws_heldAffixS.tab16 laws_heldAffixS.bits16 (fun HT_ HW_ => ?_)
        generalize w21.drew = w22 at HB hx318_0 hx318_1 hx318_2 hx318_3 hx318_4 hHeld ⊢
        refine pu 0 53 ?_
        refine pu 1 54 ?_
        refine pu 2 55 ?_
        refine pu 3 56 ?_
        refine pu 5 58 ?_
        refine tk5 4 57 hHeld ?_
        refine on1 6 59 (fun K hK => ?_)
        refine goes_ Tryd.func48 (by kernel_rfl) rfl #[.int .i64 (wrap64 ((wrap64 ((wrap64 ((wrap64 (x1_1 + 1)) + 1)) + 1)) + 1))] (by rfl) rfl rfl mq ?_
        with_reducible refine (laws_markText.calls k1 (wrap64 ((wrap64 ((wrap64 ((wrap64 (x1_1 + 1)) + 1)) + 1)) + 1)) t319 _ A14.out).mono ?_
        rintro e w23 ⟨rfl, hb⟩
        refine ⟨_, rfl, ?_⟩
        replace HB := am (below_step bel hb)
        (try clear hb)
        (try clear hb2)
        (try clear hk)
        (try clear hi)
        refine hK.out _ _ ⟨(kp HB.out hw318_0), (kp HB.out hw318_1), (kp HB.out hw318_2), (kp HB.out hw318_3), (kp HB.out hw318_4)⟩ (fun hHeld => ?_)
        clear hK K
        refine norm_ (a' := ?_) ?_ ?_
        rotate_left
        ·show Act.put _ (some 59) _ = _
         simp only [Act.put, List.setIfInBounds_toArray, List.set_cons_zero, List.set_cons_succ, i64_w, i32_w]
         rfl
        refine pu 7 60 ?_
        refine done_ (done_of HT_.out (by kernel_rfl)) ?_
        try go_wp2
        go_roundg k1
        case measure => have := HK1.out; omega
        case rel => exact ⟨(wrap64 ((wrap64 ((wrap64 ((wrap64 ((wrap64 (x1_1 + 1)) + 1)) + 1)) + 1)) + 1)), (wrap64 (x5_1 + 1)), sq, sq, H', ⟨b21_⟩, ⟨bel⟩⟩
       rw [if_neg c15] at H
       have c15b0 : (((rd_T40 l0 x5_1).f4).toList == t319.toList) = false := beq_eq_false_iff_ne.mpr c15
       have c15b1 : (((rd_T40 l0 x5_1).f4).toList != t319.toList) = true := bne_iff_ne.mpr c15
       obtain rfl := Option.some.inj H
       try go_wp2
       replace HB := am (below_drew1 HB.out)
       have p311 : 0 ≤ (x5_1 : Int) := of_decide_eq_true ad
       have q311 : x5_1 < (l0.length : Int) := of_decide_eq_true ad
       obtain ⟨ad311, e311, hx311_0, hx311_1, hx311_2, hx311_3, hx311_4⟩ := at_T40 HR0.out x5_1 p311 q311; have hw311_4 := hx311_4; have hw311_3 := hx311_3; have hw311_2 := hx311_2; have hw311_1 := hx311_1; have hw311_0 := hx311_0
       cases e311
       replace hx311_0 := kp HB.out hx311_0; replace hx311_1 := kp HB.out hx311_1; replace hx311_2 := kp HB.out hx311_2; replace hx311_3 := kp HB.out hx311_3; replace hx311_4 := kp HB.out hx311_4; replace p311 := eq_true p311; replace q311 := eq_true q311
       refine st (n := 8) (S := fun w' => w'.cell? (ad311.add ((x5_1).toNat * 5)) = some (.string ((rd_T40 l0 x5_1).f0)) ∧ w'.cell? ⟨(ad311.add ((x5_1).toNat * 5)).block, (ad311.add ((x5_1).toNat * 5)).off + 1, none⟩ = some (.bool ((rd_T40 l0 x5_1).f1)) ∧ w'.cell? ⟨(ad311.add ((x5_1).toNat * 5)).block, (ad311.add ((x5_1).toNat * 5)).off + 2, none⟩ = some (.string ((rd_T40 l0 x5_1).f2)) ∧ w'.cell? ⟨(ad311.add ((x5_1).toNat * 5)).block, (ad311.add ((x5_1).toNat * 5)).off + 3, none⟩ = some (.string ((rd_T40 l0 x5_1).f3)) ∧ w'.cell? ⟨(ad311.add ((x5_1).toNat * 5)).block, (ad311.add ((x5_1).toNat * 5)).off + 4, none⟩ = some (.string ((rd_T40 l0 x5_1).f4))) (ds := []) ⟨(kp HB.out hw311_0), (kp HB.out hw311_1), (kp HB.out hw311_2), (kp HB.out hw311_3), (kp HB.out hw311_4)⟩ (fun hHeld => ?_); refine with_tabW laws_heldAffixS.tab4 laws_heldAffixS.bits4 (fun HT_ HW_ => ?_)
       generalize wr.drew = w24 at HB hx311_0 hx311_1 hx311_2 hx311_3 hx311_4 hHeld ⊢
       refine pu 0 12 ?_
       refine pu 1 13 ?_
       refine pu 2 14 ?_
       refine pu 3 15 ?_
       refine pu 5 17 ?_
       refine tk5 4 16 hHeld ?_
       refine on1 6 18 (fun K hK => ?_)
       refine goes_ Tryd.func48 (by kernel_rfl) rfl #[.int .i64 x1_1] (by rfl) rfl rfl mq ?_
       with_reducible refine (laws_markText.calls k1 x1_1 t312 _ A5.out).mono ?_
       rintro e w25 ⟨rfl, hb⟩
       refine ⟨_, rfl, ?_⟩
       replace HB := am (below_step bel hb)
       (try clear hb)
       (try clear hb2)
       (try clear hk)
       (try clear hi)
       refine hK.out _ _ ⟨(kp HB.out hw311_0), (kp HB.out hw311_1), (kp HB.out hw311_2), (kp HB.out hw311_3), (kp HB.out hw311_4)⟩ (fun hHeld => ?_)
       clear hK K
       refine norm_ (a' := ?_) ?_ ?_
       rotate_left
       ·show Act.put _ (some 18) _ = _
        simp only [Act.put, List.setIfInBounds_toArray, List.set_cons_zero, List.set_cons_succ, i64_w, i32_w]
        rfl
       refine pu 7 19 ?_
       refine done_ (done_of HT_.out (by kernel_rfl)) ?_
       have p313 : 0 ≤ (x5_1 : Int) := of_decide_eq_true ad
       have q313 : x5_1 < (l0.length : Int) := of_decide_eq_true ad
       obtain ⟨ad313, e313, hx313_0, hx313_1, hx313_2, hx313_3, hx313_4⟩ := at_T40 HR0.out x5_1 p313 q313
       obtain rfl : ad311 = ad313 := (by injection e313)
       replace hx313_0 := kp HB.out hx313_0; replace hx313_1 := kp HB.out hx313_1; replace hx313_2 := kp HB.out hx313_2; replace hx313_3 := kp HB.out hx313_3; replace hx313_4 := kp HB.out hx313_4; replace p313 := eq_true p313; replace q313 := eq_true q313
       try go_wp2
       replace HB := am (below_drew1 HB.out)
       have p314 : 0 ≤ (x5_1 : Int) := of_decide_eq_true ad
       have q314 : x5_1 < (l0.length : Int) := of_decide_eq_true ad
       obtain ⟨ad314, e314, hx314_0, hx314_1, hx314_2, hx314_3, hx314_4⟩ := at_T40 HR0.out x5_1 p314 q314; have hw314_4 := hx314_4; have hw314_3 := hx314_3; have hw314_2 := hx314_2; have hw314_1 := hx314_1; have hw314_0 := hx314_0
       obtain rfl : ad311 = ad314 := (by injection e314)
       replace hx314_0 := kp HB.out hx314_0; replace hx314_1 := kp HB.out hx314_1; replace hx314_2 := kp HB.out hx314_2; replace hx314_3 := kp HB.out hx314_3; replace hx314_4 := kp HB.out hx314_4; replace p314 := eq_true p314; replace q314 := eq_true q314
       refine st (n := 8) (S := fun w' => w'.cell? (ad311.add ((x5_1).toNat * 5)) = some (.string ((rd_T40 l0 x5_1).f0)) ∧ w'.cell? ⟨(ad311.add ((x5_1).toNat * 5)).block, (ad311.add ((x5_1).toNat * 5)).off + 1, none⟩ = some (.bool ((rd_T40 l0 x5_1).f1)) ∧ w'.cell? ⟨(ad311.add ((x5_1).toNat * 5)).block, (ad311.add ((x5_1).toNat * 5)).off + 2, none⟩ = some (.string ((rd_T40 l0 x5_1).f2)) ∧ w'.cell? ⟨(ad311.add ((x5_1).toNat * 5)).block, (ad311.add ((x5_1).toNat * 5)).off + 3, none⟩ = some (.string ((rd_T40 l0 x5_1).f3)) ∧ w'.cell? ⟨(ad311.add ((x5_1).toNat * 5)).block, (ad311.add ((x5_1).toNat * 5)).off + 4, none⟩ = some (.string ((rd_T40 l0 x5_1).f4))) (ds := []) ⟨(kp HB.out hw314_0), (kp HB.out hw314_1), (kp HB.out hw314_2), (kp HB.out hw314_3), (kp HB.out hw314_4)⟩ (fun hHeld => ?_); refine with_tabW laws_heldAffixS.tab10 laws_heldAffixS.bits10 (fun HT_ HW_ => ?_)
       generalize w25.drew = w26 at HB hx314_0 hx314_1 hx314_2 hx314_3 hx314_4 hHeld ⊢
       refine pu 0 33 ?_
       refine pu 1 34 ?_
       refine pu 2 35 ?_
       refine pu 3 36 ?_
       refine pu 5 38 ?_
       refine tk5 4 37 hHeld ?_
       refine on1 6 39 (fun K hK => ?_)
       refine goes_ Tryd.func48 (by kernel_rfl) rfl #[.int .i64 (wrap64 ((wrap64 (x1_1 + 1)) + 1))] (by rfl) rfl rfl mq ?_
       with_reducible refine (laws_markText.calls k1 (wrap64 ((wrap64 (x1_1 + 1)) + 1)) t315 _ A10.out).mono ?_
       rintro e w27 ⟨rfl, hb⟩
       refine ⟨_, rfl, ?_⟩
       replace HB := am (below_step bel hb)
       (try clear hb)
       (try clear hb2)
       (try clear hk)
       (try clear hi)
       refine hK.out _ _ ⟨(kp HB.out hw314_0), (kp HB.out hw314_1), (kp HB.out hw314_2), (kp HB.out hw314_3), (kp HB.out hw314_4)⟩ (fun hHeld => ?_)
       clear hK K
       refine norm_ (a' := ?_) ?_ ?_
       rotate_left
       ·show Act.put _ (some 39) _ = _
        simp only [Act.put, List.setIfInBounds_toArray, List.set_cons_zero, List.set_cons_succ, i64_w, i32_w]
        rfl
       refine pu 7 40 ?_
       refine done_ (done_of HT_.out (by kernel_rfl)) ?_
       try go_wp2
       replace HB := am (below_drew1 HB.out)
       have p316 : 0 ≤ (x5_1 : Int) := of_decide_eq_true ad
       have q316 : x5_1 < (l0.length : Int) := of_decide_eq_true ad
       obtain ⟨ad316, e316, hx316_0, hx316_1, hx316_2, hx316_3, hx316_4⟩ := at_T40 HR0.out x5_1 p316 q316; have hw316_4 := hx316_4; have hw316_3 := hx316_3; have hw316_2 := hx316_2; have hw316_1 := hx316_1; have hw316_0 := hx316_0
       obtain rfl : ad311 = ad316 := (by injection e316)
       replace hx316_0 := kp HB.out hx316_0; replace hx316_1 := kp HB.out hx316_1; replace hx316_2 := kp HB.out hx316_2; replace hx316_3 := kp HB.out hx316_3; replace hx316_4 := kp HB.out hx316_4; replace p316 := eq_true p316; replace q316 := eq_true q316
       refine st (n := 8) (S := fun w' => w'.cell? (ad311.add ((x5_1).toNat * 5)) = some (.string ((rd_T40 l0 x5_1).f0)) ∧ w'.cell? ⟨(ad311.add ((x5_1).toNat * 5)).block, (ad311.add ((x5_1).toNat * 5)).off + 1, none⟩ = some (.bool ((rd_T40 l0 x5_1).f1)) ∧ w'.cell? ⟨(ad311.add ((x5_1).toNat * 5)).block, (ad311.add ((x5_1).toNat * 5)).off + 2, none⟩ = some (.string ((rd_T40 l0 x5_1).f2)) ∧ w'.cell? ⟨(ad311.add ((x5_1).toNat * 5)).block, (ad311.add ((x5_1).toNat * 5)).off + 3, none⟩ = some (.string ((rd_T40 l0 x5_1).f3)) ∧ w'.cell? ⟨(ad311.add ((x5_1).toNat * 5)).block, (ad311.add ((x5_1).toNat * 5)).off + 4, none⟩ = some (.string ((rd_T40 l0 x5_1).f4))) (ds := []) ⟨(kp HB.out hw316_0), (kp HB.out hw316_1), (kp HB.out hw316_2), (kp HB.out hw316_3), (kp HB.out hw316_4)⟩ (fun hHeld => ?_); refine with_tabW laws_heldAffixS.tab13 laws_heldAffixS.bits13 (fun HT_ HW_ => ?_)
       generalize w27.drew = w28 at HB hx316_0 hx316_1 hx316_2 hx316_3 hx316_4 hHeld ⊢
       refine pu 0 43 ?_
       refine pu 1 44 ?_
       refine pu 2 45 ?_
       refine pu 3 46 ?_
       refine pu 5 48 ?_
       refine tk5 4 47 hHeld ?_
       refine on1 6 49 (fun K hK => ?_)
       refine goes_ Tryd.func48 (by kernel_rfl) rfl #[.int .i64 (wrap64 ((wrap64 ((wrap64 (x1_1 + 1)) + 1)) + 1))] (by rfl) rfl rfl mq ?_
       with_reducible refine (laws_markText.calls k1 (wrap64 ((wrap64 ((wrap64 (x1_1 + 1)) + 1)) + 1)) t317 _ A12.out).mono ?_
       rintro e w29 ⟨rfl, hb⟩
       refine ⟨_, rfl, ?_⟩
       replace HB := am (below_step bel hb)
       (try clear hb)
       (try clear hb2)
       (try clear hk)
       (try clear hi)
       refine hK.out _ _ ⟨(kp HB.out hw316_0), (kp HB.out hw316_1), (kp HB.out hw316_2), (kp HB.out hw316_3), (kp HB.out hw316_4)⟩ (fun hHeld => ?_)
       clear hK K
       refine norm_ (a' := ?_) ?_ ?_
       rotate_left
       ·show Act.put _ (some 49) _ = _
        simp only [Act.put, List.setIfInBounds_toArray, List.set_cons_zero, List.set_cons_succ, i64_w, i32_w]
        rfl
       refine pu 7 50 ?_
       refine done_ (done_of HT_.out (by kernel_rfl)) ?_
       try go_wp2
       replace HB := am (below_drew1 HB.out)
       have p318 : 0 ≤ (x5_1 : Int) := of_decide_eq_true ad
       have q318 : x5_1 < (l0.length : Int) := of_decide_eq_true ad
       obtain ⟨ad318, e318, hx318_0, hx318_1, hx318_2, hx318_3, hx318_4⟩ := at_T40 HR0.out x5_1 p318 q318; have hw318_4 := hx318_4; have hw318_3 := hx318_3; have hw318_2 := hx318_2; have hw318_1 := hx318_1; have hw318_0 := hx318_0
       obtain rfl : ad311 = ad318 := (by injection e318)
       replace hx318_0 := kp HB.out hx318_0; replace hx318_1 := kp HB.out hx318_1; replace hx318_2 := kp HB.out hx318_2; replace hx318_3 := kp HB.out hx318_3; replace hx318_4 := kp HB.out hx318_4; replace p318 := eq_true p318; replace q318 := eq_true q318
       refine st (n := 8) (S := fun w' => w'.cell? (ad311.add ((x5_1).toNat * 5)) = some (.string ((rd_T40 l0 x5_1).f0)) ∧ w'.cell? ⟨(ad311.add ((x5_1).toNat * 5)).block, (ad311.add ((x5_1).toNat * 5)).off + 1, none⟩ = some (.bool ((rd_T40 l0 x5_1).f1)) ∧ w'.cell? ⟨(ad311.add ((x5_1).toNat * 5)).block, (ad311.add ((x5_1).toNat * 5)).off + 2, none⟩ = some (.string ((rd_T40 l0 x5_1).f2)) ∧ w'.cell? ⟨(ad311.add ((x5_1).toNat * 5)).block, (ad311.add ((x5_1).toNat * 5)).off + 3, none⟩ = some (.string ((rd_T40 l0 x5_1).f3)) ∧ w'.cell? ⟨(ad311.add ((x5_1).toNat * 5)).block, (ad311.add ((x5_1).toNat * 5)).off + 4, none⟩ = some (.string ((rd_T40 l0 x5_1).f4))) (ds := []) ⟨(kp HB.out hw318_0), (kp HB.out hw318_1), (kp HB.out hw318_2), (kp HB.out hw318_3), (kp HB.out hw318_4)⟩ (fun hHeld => ?_); refine with_tabW laws_heldAffixS.tab16 laws_heldAffixS.bits16 (fun HT_ HW_ => ?_)
       generalize w29.drew = w30 at HB hx318_0 hx318_1 hx318_2 hx318_3 hx318_4 hHeld ⊢
       refine pu 0 53 ?_
       refine pu 1 54 ?_
       refine pu 2 55 ?_
       refine pu 3 56 ?_
       refine pu 5 58 ?_
       refine tk5 4 57 hHeld ?_
       refine on1 6 59 (fun K hK => ?_)
       refine goes_ Tryd.func48 (by kernel_rfl) rfl #[.int .i64 (wrap64 ((wrap64 ((wrap64 ((wrap64 (x1_1 + 1)) + 1)) + 1)) + 1))] (by rfl) rfl rfl mq ?_
       with_reducible refine (laws_markText.calls k1 (wrap64 ((wrap64 ((wrap64 ((wrap64 (x1_1 + 1)) + 1)) + 1)) + 1)) t319 _ A14.out).mono ?_
       rintro e w31 ⟨rfl, hb⟩
       refine ⟨_, rfl, ?_⟩
       replace HB := am (below_step bel hb)
       (try clear hb)
       (try clear hb2)
       (try clear hk)
       (try clear hi)
       refine hK.out _ _ ⟨(kp HB.out hw318_0), (kp HB.out hw318_1), (kp HB.out hw318_2), (kp HB.out hw318_3), (kp HB.out hw318_4)⟩ (fun hHeld => ?_)
       clear hK K
       refine norm_ (a' := ?_) ?_ ?_
       rotate_left
       ·show Act.put _ (some 59) _ = _
        simp only [Act.put, List.setIfInBounds_toArray, List.set_cons_zero, List.set_cons_succ, i64_w, i32_w]
        rfl
       refine pu 7 60 ?_
       refine done_ (done_of HT_.out (by kernel_rfl)) ?_
       try go_wp2
       go_ret
       exact ⟨eq_, bel⟩
      rw [if_neg c13] at H
      have c13b0 : (((rd_T40 l0 x5_1).f3).toList == t317.toList) = false := beq_eq_false_iff_ne.mpr c13
      have c13b1 : (((rd_T40 l0 x5_1).f3).toList != t317.toList) = true := bne_iff_ne.mpr c13
      obtain rfl := Option.some.inj H
      try go_wp2
      replace HB := am (below_drew1 HB.out)
      have p311 : 0 ≤ (x5_1 : Int) := of_decide_eq_true ad
      have q311 : x5_1 < (l0.length : Int) := of_decide_eq_true ad
      obtain ⟨ad311, e311, hx311_0, hx311_1, hx311_2, hx311_3, hx311_4⟩ := at_T40 HR0.out x5_1 p311 q311; have hw311_4 := hx311_4; have hw311_3 := hx311_3; have hw311_2 := hx311_2; have hw311_1 := hx311_1; have hw311_0 := hx311_0
      cases e311
      replace hx311_0 := kp HB.out hx311_0; replace hx311_1 := kp HB.out hx311_1; replace hx311_2 := kp HB.out hx311_2; replace hx311_3 := kp HB.out hx311_3; replace hx311_4 := kp HB.out hx311_4; replace p311 := eq_true p311; replace q311 := eq_true q311
      refine st (n := 8) (S := fun w' => w'.cell? (ad311.add ((x5_1).toNat * 5)) = some (.string ((rd_T40 l0 x5_1).f0)) ∧ w'.cell? ⟨(ad311.add ((x5_1).toNat * 5)).block, (ad311.add ((x5_1).toNat * 5)).off + 1, none⟩ = some (.bool ((rd_T40 l0 x5_1).f1)) ∧ w'.cell? ⟨(ad311.add ((x5_1).toNat * 5)).block, (ad311.add ((x5_1).toNat * 5)).off + 2, none⟩ = some (.string ((rd_T40 l0 x5_1).f2)) ∧ w'.cell? ⟨(ad311.add ((x5_1).toNat * 5)).block, (ad311.add ((x5_1).toNat * 5)).off + 3, none⟩ = some (.string ((rd_T40 l0 x5_1).f3)) ∧ w'.cell? ⟨(ad311.add ((x5_1).toNat * 5)).block, (ad311.add ((x5_1).toNat * 5)).off + 4, none⟩ = some (.string ((rd_T40 l0 x5_1).f4))) (ds := []) ⟨(kp HB.out hw311_0), (kp HB.out hw311_1), (kp HB.out hw311_2), (kp HB.out hw311_3), (kp HB.out hw311_4)⟩ (fun hHeld => ?_); refine with_tabW laws_heldAffixS.tab4 laws_heldAffixS.bits4 (fun HT_ HW_ => ?_)
      generalize wr.drew = w32 at HB hx311_0 hx311_1 hx311_2 hx311_3 hx311_4 hHeld ⊢
      refine pu 0 12 ?_
      refine pu 1 13 ?_
      refine pu 2 14 ?_
      refine pu 3 15 ?_
      refine pu 5 17 ?_
      refine tk5 4 16 hHeld ?_
      refine on1 6 18 (fun K hK => ?_)
      refine goes_ Tryd.func48 (by kernel_rfl) rfl #[.int .i64 x1_1] (by rfl) rfl rfl mq ?_
      with_reducible refine (laws_markText.calls k1 x1_1 t312 _ A5.out).mono ?_
      rintro e w33 ⟨rfl, hb⟩
      refine ⟨_, rfl, ?_⟩
      replace HB := am (below_step bel hb)
      (try clear hb)
      (try clear hb2)
      (try clear hk)
      (try clear hi)
      refine hK.out _ _ ⟨(kp HB.out hw311_0), (kp HB.out hw311_1), (kp HB.out hw311_2), (kp HB.out hw311_3), (kp HB.out hw311_4)⟩ (fun hHeld => ?_)
      clear hK K
      refine norm_ (a' := ?_) ?_ ?_
      rotate_left
      ·show Act.put _ (some 18) _ = _
       simp only [Act.put, List.setIfInBounds_toArray, List.set_cons_zero, List.set_cons_succ, i64_w, i32_w]
       rfl
      refine pu 7 19 ?_
      refine done_ (done_of HT_.out (by kernel_rfl)) ?_
      have p313 : 0 ≤ (x5_1 : Int) := of_decide_eq_true ad
      have q313 : x5_1 < (l0.length : Int) := of_decide_eq_true ad
      obtain ⟨ad313, e313, hx313_0, hx313_1, hx313_2, hx313_3, hx313_4⟩ := at_T40 HR0.out x5_1 p313 q313
      obtain rfl : ad311 = ad313 := (by injection e313)
      replace hx313_0 := kp HB.out hx313_0; replace hx313_1 := kp HB.out hx313_1; replace hx313_2 := kp HB.out hx313_2; replace hx313_3 := kp HB.out hx313_3; replace hx313_4 := kp HB.out hx313_4; replace p313 := eq_true p313; replace q313 := eq_true q313
      try go_wp2
      replace HB := am (below_drew1 HB.out)
      have p314 : 0 ≤ (x5_1 : Int) := of_decide_eq_true ad
      have q314 : x5_1 < (l0.length : Int) := of_decide_eq_true ad
      obtain ⟨ad314, e314, hx314_0, hx314_1, hx314_2, hx314_3, hx314_4⟩ := at_T40 HR0.out x5_1 p314 q314; have hw314_4 := hx314_4; have hw314_3 := hx314_3; have hw314_2 := hx314_2; have hw314_1 := hx314_1; have hw314_0 := hx314_0
      obtain rfl : ad311 = ad314 := (by injection e314)
      replace hx314_0 := kp HB.out hx314_0; replace hx314_1 := kp HB.out hx314_1; replace hx314_2 := kp HB.out hx314_2; replace hx314_3 := kp HB.out hx314_3; replace hx314_4 := kp HB.out hx314_4; replace p314 := eq_true p314; replace q314 := eq_true q314
      refine st (n := 8) (S := fun w' => w'.cell? (ad311.add ((x5_1).toNat * 5)) = some (.string ((rd_T40 l0 x5_1).f0)) ∧ w'.cell? ⟨(ad311.add ((x5_1).toNat * 5)).block, (ad311.add ((x5_1).toNat * 5)).off + 1, none⟩ = some (.bool ((rd_T40 l0 x5_1).f1)) ∧ w'.cell? ⟨(ad311.add ((x5_1).toNat * 5)).block, (ad311.add ((x5_1).toNat * 5)).off + 2, none⟩ = some (.string ((rd_T40 l0 x5_1).f2)) ∧ w'.cell? ⟨(ad311.add ((x5_1).toNat * 5)).block, (ad311.add ((x5_1).toNat * 5)).off + 3, none⟩ = some (.string ((rd_T40 l0 x5_1).f3)) ∧ w'.cell? ⟨(ad311.add ((x5_1).toNat * 5)).block, (ad311.add ((x5_1).toNat * 5)).off + 4, none⟩ = some (.string ((rd_T40 l0 x5_1).f4))) (ds := []) ⟨(kp HB.out hw314_0), (kp HB.out hw314_1), (kp HB.out hw314_2), (kp HB.out hw314_3), (kp HB.out hw314_4)⟩ (fun hHeld => ?_); refine with_tabW laws_heldAffixS.tab10 laws_heldAffixS.bits10 (fun HT_ HW_ => ?_)
      generalize w33.drew = w34 at HB hx314_0 hx314_1 hx314_2 hx314_3 hx314_4 hHeld ⊢
      refine pu 0 33 ?_
      refine pu 1 34 ?_
      refine pu 2 35 ?_
      refine pu 3 36 ?_
      refine pu 5 38 ?_
      refine tk5 4 37 hHeld ?_
      refine on1 6 39 (fun K hK => ?_)
      refine goes_ Tryd.func48 (by kernel_rfl) rfl #[.int .i64 (wrap64 ((wrap64 (x1_1 + 1)) + 1))] (by rfl) rfl rfl mq ?_
      with_reducible refine (laws_markText.calls k1 (wrap64 ((wrap64 (x1_1 + 1)) + 1)) t315 _ A10.out).mono ?_
      rintro e w35 ⟨rfl, hb⟩
      refine ⟨_, rfl, ?_⟩
      replace HB := am (below_step bel hb)
      (try clear hb)
      (try clear hb2)
      (try clear hk)
      (try clear hi)
      refine hK.out _ _ ⟨(kp HB.out hw314_0), (kp HB.out hw314_1), (kp HB.out hw314_2), (kp HB.out hw314_3), (kp HB.out hw314_4)⟩ (fun hHeld => ?_)
      clear hK K
      refine norm_ (a' := ?_) ?_ ?_
      rotate_left
      ·show Act.put _ (some 39) _ = _
       simp only [Act.put, List.setIfInBounds_toArray, List.set_cons_zero, List.set_cons_succ, i64_w, i32_w]
       rfl
      refine pu 7 40 ?_
      refine done_ (done_of HT_.out (by kernel_rfl)) ?_
      try go_wp2
      replace HB := am (below_drew1 HB.out)
      have p316 : 0 ≤ (x5_1 : Int) := of_decide_eq_true ad
      have q316 : x5_1 < (l0.length : Int) := of_decide_eq_true ad
      obtain ⟨ad316, e316, hx316_0, hx316_1, hx316_2, hx316_3, hx316_4⟩ := at_T40 HR0.out x5_1 p316 q316; have hw316_4 := hx316_4; have hw316_3 := hx316_3; have hw316_2 := hx316_2; have hw316_1 := hx316_1; have hw316_0 := hx316_0
      obtain rfl : ad311 = ad316 := (by injection e316)
      replace hx316_0 := kp HB.out hx316_0; replace hx316_1 := kp HB.out hx316_1; replace hx316_2 := kp HB.out hx316_2; replace hx316_3 := kp HB.out hx316_3; replace hx316_4 := kp HB.out hx316_4; replace p316 := eq_true p316; replace q316 := eq_true q316
      refine st (n := 8) (S := fun w' => w'.cell? (ad311.add ((x5_1).toNat * 5)) = some (.string ((rd_T40 l0 x5_1).f0)) ∧ w'.cell? ⟨(ad311.add ((x5_1).toNat * 5)).block, (ad311.add ((x5_1).toNat * 5)).off + 1, none⟩ = some (.bool ((rd_T40 l0 x5_1).f1)) ∧ w'.cell? ⟨(ad311.add ((x5_1).toNat * 5)).block, (ad311.add ((x5_1).toNat * 5)).off + 2, none⟩ = some (.string ((rd_T40 l0 x5_1).f2)) ∧ w'.cell? ⟨(ad311.add ((x5_1).toNat * 5)).block, (ad311.add ((x5_1).toNat * 5)).off + 3, none⟩ = some (.string ((rd_T40 l0 x5_1).f3)) ∧ w'.cell? ⟨(ad311.add ((x5_1).toNat * 5)).block, (ad311.add ((x5_1).toNat * 5)).off + 4, none⟩ = some (.string ((rd_T40 l0 x5_1).f4))) (ds := []) ⟨(kp HB.out hw316_0), (kp HB.out hw316_1), (kp HB.out hw316_2), (kp HB.out hw316_3), (kp HB.out hw316_4)⟩ (fun hHeld => ?_); refine with_tabW laws_heldAffixS.tab13 laws_heldAffixS.bits13 (fun HT_ HW_ => ?_)
      generalize w35.drew = w36 at HB hx316_0 hx316_1 hx316_2 hx316_3 hx316_4 hHeld ⊢
      refine pu 0 43 ?_
      refine pu 1 44 ?_
      refine pu 2 45 ?_
      refine pu 3 46 ?_
      refine pu 5 48 ?_
      refine tk5 4 47 hHeld ?_
      refine on1 6 49 (fun K hK => ?_)
      refine goes_ Tryd.func48 (by kernel_rfl) rfl #[.int .i64 (wrap64 ((wrap64 ((wrap64 (x1_1 + 1)) + 1)) + 1))] (by rfl) rfl rfl mq ?_
      with_reducible refine (laws_markText.calls k1 (wrap64 ((wrap64 ((wrap64 (x1_1 + 1)) + 1)) + 1)) t317 _ A12.out).mono ?_
      rintro e w37 ⟨rfl, hb⟩
      refine ⟨_, rfl, ?_⟩
      replace HB := am (below_step bel hb)
      (try clear hb)
      (try clear hb2)
      (try clear hk)
      (try clear hi)
      refine hK.out _ _ ⟨(kp HB.out hw316_0), (kp HB.out hw316_1), (kp HB.out hw316_2), (kp HB.out hw316_3), (kp HB.out hw316_4)⟩ (fun hHeld => ?_)
      clear hK K
      refine norm_ (a' := ?_) ?_ ?_
      rotate_left
      ·show Act.put _ (some 49) _ = _
       simp only [Act.put, List.setIfInBounds_toArray, List.set_cons_zero, List.set_cons_succ, i64_w, i32_w]
       rfl
      refine pu 7 50 ?_
      refine done_ (done_of HT_.out (by kernel_rfl)) ?_
      try go_wp2
      go_ret
      exact ⟨eq_, bel⟩
     rw [if_neg c11] at H
     have c11b0 : (((rd_T40 l0 x5_1).f2).toList == t315.toList) = false := beq_eq_false_iff_ne.mpr c11
     have c11b1 : (((rd_T40 l0 x5_1).f2).toList != t315.toList) = true := bne_iff_ne.mpr c11
     obtain rfl := Option.some.inj H
     try go_wp2
     replace HB := am (below_drew1 HB.out)
     have p311 : 0 ≤ (x5_1 : Int) := of_decide_eq_true ad
     have q311 : x5_1 < (l0.length : Int) := of_decide_eq_true ad
     obtain ⟨ad311, e311, hx311_0, hx311_1, hx311_2, hx311_3, hx311_4⟩ := at_T40 HR0.out x5_1 p311 q311; have hw311_4 := hx311_4; have hw311_3 := hx311_3; have hw311_2 := hx311_2; have hw311_1 := hx311_1; have hw311_0 := hx311_0
     cases e311
     replace hx311_0 := kp HB.out hx311_0; replace hx311_1 := kp HB.out hx311_1; replace hx311_2 := kp HB.out hx311_2; replace hx311_3 := kp HB.out hx311_3; replace hx311_4 := kp HB.out hx311_4; replace p311 := eq_true p311; replace q311 := eq_true q311
     refine st (n := 8) (S := fun w' => w'.cell? (ad311.add ((x5_1).toNat * 5)) = some (.string ((rd_T40 l0 x5_1).f0)) ∧ w'.cell? ⟨(ad311.add ((x5_1).toNat * 5)).block, (ad311.add ((x5_1).toNat * 5)).off + 1, none⟩ = some (.bool ((rd_T40 l0 x5_1).f1)) ∧ w'.cell? ⟨(ad311.add ((x5_1).toNat * 5)).block, (ad311.add ((x5_1).toNat * 5)).off + 2, none⟩ = some (.string ((rd_T40 l0 x5_1).f2)) ∧ w'.cell? ⟨(ad311.add ((x5_1).toNat * 5)).block, (ad311.add ((x5_1).toNat * 5)).off + 3, none⟩ = some (.string ((rd_T40 l0 x5_1).f3)) ∧ w'.cell? ⟨(ad311.add ((x5_1).toNat * 5)).block, (ad311.add ((x5_1).toNat * 5)).off + 4, none⟩ = some (.string ((rd_T40 l0 x5_1).f4))) (ds := []) ⟨(kp HB.out hw311_0), (kp HB.out hw311_1), (kp HB.out hw311_2), (kp HB.out hw311_3), (kp HB.out hw311_4)⟩ (fun hHeld => ?_); refine with_tabW laws_heldAffixS.tab4 laws_heldAffixS.bits4 (fun HT_ HW_ => ?_)
     generalize wr.drew = w38 at HB hx311_0 hx311_1 hx311_2 hx311_3 hx311_4 hHeld ⊢
     refine pu 0 12 ?_
     refine pu 1 13 ?_
     refine pu 2 14 ?_
     refine pu 3 15 ?_
     refine pu 5 17 ?_
     refine tk5 4 16 hHeld ?_
     refine on1 6 18 (fun K hK => ?_)
     refine goes_ Tryd.func48 (by kernel_rfl) rfl #[.int .i64 x1_1] (by rfl) rfl rfl mq ?_
     with_reducible refine (laws_markText.calls k1 x1_1 t312 _ A5.out).mono ?_
     rintro e w39 ⟨rfl, hb⟩
     refine ⟨_, rfl, ?_⟩
     replace HB := am (below_step bel hb)
     (try clear hb)
     (try clear hb2)
     (try clear hk)
     (try clear hi)
     refine hK.out _ _ ⟨(kp HB.out hw311_0), (kp HB.out hw311_1), (kp HB.out hw311_2), (kp HB.out hw311_3), (kp HB.out hw311_4)⟩ (fun hHeld => ?_)
     clear hK K
     refine norm_ (a' := ?_) ?_ ?_
     rotate_left
     ·show Act.put _ (some 18) _ = _
      simp only [Act.put, List.setIfInBounds_toArray, List.set_cons_zero, List.set_cons_succ, i64_w, i32_w]
      rfl
     refine pu 7 19 ?_
     refine done_ (done_of HT_.out (by kernel_rfl)) ?_
     have p313 : 0 ≤ (x5_1 : Int) := of_decide_eq_true ad
     have q313 : x5_1 < (l0.length : Int) := of_decide_eq_true ad
     obtain ⟨ad313, e313, hx313_0, hx313_1, hx313_2, hx313_3, hx313_4⟩ := at_T40 HR0.out x5_1 p313 q313
     obtain rfl : ad311 = ad313 := (by injection e313)
     replace hx313_0 := kp HB.out hx313_0; replace hx313_1 := kp HB.out hx313_1; replace hx313_2 := kp HB.out hx313_2; replace hx313_3 := kp HB.out hx313_3; replace hx313_4 := kp HB.out hx313_4; replace p313 := eq_true p313; replace q313 := eq_true q313
     try go_wp2
     replace HB := am (below_drew1 HB.out)
     have p314 : 0 ≤ (x5_1 : Int) := of_decide_eq_true ad
     have q314 : x5_1 < (l0.length : Int) := of_decide_eq_true ad
     obtain ⟨ad314, e314, hx314_0, hx314_1, hx314_2, hx314_3, hx314_4⟩ := at_T40 HR0.out x5_1 p314 q314; have hw314_4 := hx314_4; have hw314_3 := hx314_3; have hw314_2 := hx314_2; have hw314_1 := hx314_1; have hw314_0 := hx314_0
     obtain rfl : ad311 = ad314 := (by injection e314)
     replace hx314_0 := kp HB.out hx314_0; replace hx314_1 := kp HB.out hx314_1; replace hx314_2 := kp HB.out hx314_2; replace hx314_3 := kp HB.out hx314_3; replace hx314_4 := kp HB.out hx314_4; replace p314 := eq_true p314; replace q314 := eq_true q314
     refine st (n := 8) (S := fun w' => w'.cell? (ad311.add ((x5_1).toNat * 5)) = some (.string ((rd_T40 l0 x5_1).f0)) ∧ w'.cell? ⟨(ad311.add ((x5_1).toNat * 5)).block, (ad311.add ((x5_1).toNat * 5)).off + 1, none⟩ = some (.bool ((rd_T40 l0 x5_1).f1)) ∧ w'.cell? ⟨(ad311.add ((x5_1).toNat * 5)).block, (ad311.add ((x5_1).toNat * 5)).off + 2, none⟩ = some (.string ((rd_T40 l0 x5_1).f2)) ∧ w'.cell? ⟨(ad311.add ((x5_1).toNat * 5)).block, (ad311.add ((x5_1).toNat * 5)).off + 3, none⟩ = some (.string ((rd_T40 l0 x5_1).f3)) ∧ w'.cell? ⟨(ad311.add ((x5_1).toNat * 5)).block, (ad311.add ((x5_1).toNat * 5)).off + 4, none⟩ = some (.string ((rd_T40 l0 x5_1).f4))) (ds := []) ⟨(kp HB.out hw314_0), (kp HB.out hw314_1), (kp HB.out hw314_2), (kp HB.out hw314_3), (kp HB.out hw314_4)⟩ (fun hHeld => ?_); refine with_tabW laws_heldAffixS.tab10 laws_heldAffixS.bits10 (fun HT_ HW_ => ?_)
     generalize w39.drew = w40 at HB hx314_0 hx314_1 hx314_2 hx314_3 hx314_4 hHeld ⊢
     refine pu 0 33 ?_
     refine pu 1 34 ?_
     refine pu 2 35 ?_
     refine pu 3 36 ?_
     refine pu 5 38 ?_
     refine tk5 4 37 hHeld ?_
     refine on1 6 39 (fun K hK => ?_)
     refine goes_ Tryd.func48 (by kernel_rfl) rfl #[.int .i64 (wrap64 ((wrap64 (x1_1 + 1)) + 1))] (by rfl) rfl rfl mq ?_
     with_reducible refine (laws_markText.calls k1 (wrap64 ((wrap64 (x1_1 + 1)) + 1)) t315 _ A10.out).mono ?_
     rintro e w41 ⟨rfl, hb⟩
     refine ⟨_, rfl, ?_⟩
     replace HB := am (below_step bel hb)
     (try clear hb)
     (try clear hb2)
     (try clear hk)
     (try clear hi)
     refine hK.out _ _ ⟨(kp HB.out hw314_0), (kp HB.out hw314_1), (kp HB.out hw314_2), (kp HB.out hw314_3), (kp HB.out hw314_4)⟩ (fun hHeld => ?_)
     clear hK K
     refine norm_ (a' := ?_) ?_ ?_
     rotate_left
     ·show Act.put _ (some 39) _ = _
      simp only [Act.put, List.setIfInBounds_toArray, List.set_cons_zero, List.set_cons_succ, i64_w, i32_w]
      rfl
     refine pu 7 40 ?_
     refine done_ (done_of HT_.out (by kernel_rfl)) ?_
     try go_wp2
     go_ret
     exact ⟨eq_, bel⟩
    rw [if_neg c6] at H
    have c6b0 : (((rd_T40 l0 x5_1).f0).toList == t312.toList) = false := beq_eq_false_iff_ne.mpr c6
    have c6b1 : (((rd_T40 l0 x5_1).f0).toList != t312.toList) = true := bne_iff_ne.mpr c6
    obtain rfl := Option.some.inj H
    try go_wp2
    replace HB := am (below_drew1 HB.out)
    have p311 : 0 ≤ (x5_1 : Int) := of_decide_eq_true ad
    have q311 : x5_1 < (l0.length : Int) := of_decide_eq_true ad
    obtain ⟨ad311, e311, hx311_0, hx311_1, hx311_2, hx311_3, hx311_4⟩ := at_T40 HR0.out x5_1 p311 q311; have hw311_4 := hx311_4; have hw311_3 := hx311_3; have hw311_2 := hx311_2; have hw311_1 := hx311_1; have hw311_0 := hx311_0
    cases e311
    replace hx311_0 := kp HB.out hx311_0; replace hx311_1 := kp HB.out hx311_1; replace hx311_2 := kp HB.out hx311_2; replace hx311_3 := kp HB.out hx311_3; replace hx311_4 := kp HB.out hx311_4; replace p311 := eq_true p311; replace q311 := eq_true q311
    refine st (n := 8) (S := fun w' => w'.cell? (ad311.add ((x5_1).toNat * 5)) = some (.string ((rd_T40 l0 x5_1).f0)) ∧ w'.cell? ⟨(ad311.add ((x5_1).toNat * 5)).block, (ad311.add ((x5_1).toNat * 5)).off + 1, none⟩ = some (.bool ((rd_T40 l0 x5_1).f1)) ∧ w'.cell? ⟨(ad311.add ((x5_1).toNat * 5)).block, (ad311.add ((x5_1).toNat * 5)).off + 2, none⟩ = some (.string ((rd_T40 l0 x5_1).f2)) ∧ w'.cell? ⟨(ad311.add ((x5_1).toNat * 5)).block, (ad311.add ((x5_1).toNat * 5)).off + 3, none⟩ = some (.string ((rd_T40 l0 x5_1).f3)) ∧ w'.cell? ⟨(ad311.add ((x5_1).toNat * 5)).block, (ad311.add ((x5_1).toNat * 5)).off + 4, none⟩ = some (.string ((rd_T40 l0 x5_1).f4))) (ds := []) ⟨(kp HB.out hw311_0), (kp HB.out hw311_1), (kp HB.out hw311_2), (kp HB.out hw311_3), (kp HB.out hw311_4)⟩ (fun hHeld => ?_); refine with_tabW laws_heldAffixS.tab4 laws_heldAffixS.bits4 (fun HT_ HW_ => ?_)
    generalize wr.drew = w42 at HB hx311_0 hx311_1 hx311_2 hx311_3 hx311_4 hHeld ⊢
    refine pu 0 12 ?_
    refine pu 1 13 ?_
    refine pu 2 14 ?_
    refine pu 3 15 ?_
    refine pu 5 17 ?_
    refine tk5 4 16 hHeld ?_
    refine on1 6 18 (fun K hK => ?_)
    refine goes_ Tryd.func48 (by kernel_rfl) rfl #[.int .i64 x1_1] (by rfl) rfl rfl mq ?_
    with_reducible refine (laws_markText.calls k1 x1_1 t312 _ A5.out).mono ?_
    rintro e w43 ⟨rfl, hb⟩
    refine ⟨_, rfl, ?_⟩
    replace HB := am (below_step bel hb)
    (try clear hb)
    (try clear hb2)
    (try clear hk)
    (try clear hi)
    refine hK.out _ _ ⟨(kp HB.out hw311_0), (kp HB.out hw311_1), (kp HB.out hw311_2), (kp HB.out hw311_3), (kp HB.out hw311_4)⟩ (fun hHeld => ?_)
    clear hK K
    refine norm_ (a' := ?_) ?_ ?_
    rotate_left
    ·show Act.put _ (some 18) _ = _
     simp only [Act.put, List.setIfInBounds_toArray, List.set_cons_zero, List.set_cons_succ, i64_w, i32_w]
     rfl
    refine pu 7 19 ?_
    refine done_ (done_of HT_.out (by kernel_rfl)) ?_
    try go_wp2
    go_ret
    exact ⟨eq_, bel⟩
   rw [if_neg c3] at H; have c3b0 := decide_eq_false c3; clear c3; obtain rfl := Option.some.inj H; go_wp2; go_ret
   exact ⟨eq_, bel⟩
-- shrunk

/-! ### laws_heldEntryS: function 30 -/
def laws_heldEntryS.l0 : Nat → List (S43) → Int → Int → Option (Int)
 | 0, _, _, _ => none
 | k + 1, x0, x1, x5 => if x5 < (x0.length : Int) then (if 0 ≤ x5 then ((laws_markText.f k x1).bind fun t321 => (if ((rd_T43 x0 x5).f0).toList = t321.toList then ((laws_markText.f k (wrap64 (x1 + 1))).bind fun t323 => (if ((rd_T43 x0 x5).f1).toList = t323.toList then (laws_heldEntryS.l0 k x0 (wrap64 ((wrap64 (x1 + 1)) + 1)) (wrap64 (x5 + 1))) else (some (-1)))) else (some (-1)))) else (none)) else (some x1)
def laws_heldEntryS.f (k : Nat) (l0 : List (S43)) (a1 : Int) : Option (Int) := laws_heldEntryS.l0 k l0 a1 0
def laws_heldEntryS.T4 : Bool × List (List Nat × List Nat) := (true, [([], []), ([], []), ([0, 1], [0, 1]), ([2], [2]), ([3], [3]), ([], []), ([5], [5]), ([4, 6], [4, 6])])
def laws_heldEntryS.B4 : List Nat := [0, 0, 3, 7, 15, 0, 32, 127]
theorem laws_heldEntryS.tab4 : rtab .any (opsOf Tryd.f30 4) = laws_heldEntryS.T4 := by kernel_rfl
theorem laws_heldEntryS.bits4 : waitsOk laws_heldEntryS.T4.2 laws_heldEntryS.B4 = true := by kernel_rfl
def laws_heldEntryS.T7 : Bool × List (List Nat × List Nat) := (true, [([], []), ([], []), ([0, 1], [0, 1]), ([2], [2]), ([3], [3]), ([], []), ([5], [5]), ([4, 6], [4, 6])])
def laws_heldEntryS.B7 : List Nat := [0, 0, 3, 7, 15, 0, 32, 127]
theorem laws_heldEntryS.tab7 : rtab .any (opsOf Tryd.f30 7) = laws_heldEntryS.T7 := by kernel_rfl
theorem laws_heldEntryS.bits7 : waitsOk laws_heldEntryS.T7.2 laws_heldEntryS.B7 = true := by kernel_rfl
theorem laws_heldEntryS.calls (k : Nat) (A0 : Option Addr) (c0 : Nat) (l0 : List (S43)) (a1 : Int) (r : Int) (w : World) (hr0 : Kd.C k43 w A0 l0.length l0) (hc0 : l0.length ≤ c0) (h : laws_heldEntryS.f k l0 a1 = some r) :
  Calls Tryd.prog 30 #[.slice A0 l0.length c0, .int .i64 a1] w fun e w' => e = .returned (.int .i64 r) ∧ Below w.heap.size w w' := by
 have HR0 := am hr0; have HC0 := am hc0; clear hr0 hc0; have HB := am (Below.refl w.heap.size w)
 have H : (laws_heldEntryS.l0 k l0 a1 0) = some r := h
 clear h
 have H' := am H
 clear H; go_enter Tryd.func30, Tryd.ntmps30; go_wp2
 go_loopg [1, 5] k (fun kq v1 v5 w' => ∃ (x1_1 : Int) (x5_1 : Int), v1 = .int .i64 x1_1 ∧ v5 = .int .i64 x5_1 ∧ Aside0 (laws_heldEntryS.l0 kq l0 x1_1 x5_1 = some r) ∧ Aside0 (kq ≤ k) ∧ Aside0 (Below w.heap.size w w'))
 case atStart => exact ⟨(a1), (0), sq, sq, H', ⟨Nat.le_refl _⟩, ⟨bel⟩⟩
 case round =>
  clear H'; (try clear p2); obtain ⟨x1_1, x5_1, rfl, rfl, HA, HK1, HB⟩ := hrel
  cases gk with
  | zero => exact absurd HA.out (by simp [laws_heldEntryS.l0])
  | succ k1 =>
   have H := HA.out; clear HA
   simp only [laws_heldEntryS.l0] at H
   by_cases c3 : x5_1 < (l0.length : Int)
   ·rw [if_pos c3] at H; have c3b0 := decide_eq_true c3; clear c3
    replace H := it H; obtain ⟨c4b0, H⟩ := H; replace H := bs H; obtain ⟨t321, A50, H⟩ := H; replace H : (if ((rd_T43 l0 x5_1).f0).toList = t321.toList then ((laws_markText.f k1 (wrap64 (x1_1 + 1))).bind fun t323 => (if ((rd_T43 l0 x5_1).f1).toList = t323.toList then (laws_heldEntryS.l0 k1 l0 (wrap64 ((wrap64 (x1_1 + 1)) + 1)) (wrap64 (x5_1 + 1))) else (some (-1)))) else (some (-1))) = some r := H; have A5 := Aside0.mk A50; clear A50
    by_cases c6 : ((rd_T43 l0 x5_1).f0).toList = t321.toList
    ·rw [if_pos c6] at H
     have c6b0 : (((rd_T43 l0 x5_1).f0).toList == t321.toList) = true := beq_iff_eq.mpr c6
     have c6b1 : (((rd_T43 l0 x5_1).f0).toList != t321.toList) = false := bne_eq_false_iff_eq.mpr c6
     clear c6; replace H := bs H; obtain ⟨t323, A70, H⟩ := H; replace H : (if ((rd_T43 l0 x5_1).f1).toList = t323.toList then (laws_heldEntryS.l0 k1 l0 (wrap64 ((wrap64 (x1_1 + 1)) + 1)) (wrap64 (x5_1 + 1))) else (some (-1))) = some r := H; have A7 := Aside0.mk A70; clear A70
     by_cases c8 : ((rd_T43 l0 x5_1).f1).toList = t323.toList
     ·rw [if_pos c8] at H
      have c8b0 : (((rd_T43 l0 x5_1).f1).toList == t323.toList) = true := beq_iff_eq.mpr c8
      have c8b1 : (((rd_T43 l0 x5_1).f1).toList != t323.toList) = false := bne_eq_false_iff_eq.mpr c8
      clear c8
      have H' := am H
      clear H
      try go_wp2
      replace HB := am (below_drew1 HB.out)
      have p320 : 0 ≤ (x5_1 : Int) := of_decide_eq_true ad
      have q320 : x5_1 < (l0.length : Int) := of_decide_eq_true ad
      obtain ⟨ad320, e320, hx320_0, hx320_1⟩ := at_T43 HR0.out x5_1 p320 q320; have hw320_1 := hx320_1; have hw320_0 := hx320_0
      cases e320
      replace hx320_0 := kp HB.out hx320_0; replace hx320_1 := kp HB.out hx320_1; replace p320 := eq_true p320; replace q320 := eq_true q320
      refine st (n := 8) (S := fun w' => w'.cell? (ad320.add ((x5_1).toNat * 2)) = some (.string ((rd_T43 l0 x5_1).f0)) ∧ w'.cell? ⟨(ad320.add ((x5_1).toNat * 2)).block, (ad320.add ((x5_1).toNat * 2)).off + 1, none⟩ = some (.string ((rd_T43 l0 x5_1).f1))) (ds := []) ⟨(kp HB.out hw320_0), (kp HB.out hw320_1)⟩ (fun hHeld => ?_); refine with_tabW laws_heldEntryS.tab4 laws_heldEntryS.bits4 (fun HT_ HW_ => ?_)
      generalize wr.drew = w9 at HB hx320_0 hx320_1 hHeld ⊢
      refine pu 0 12 ?_
      refine pu 1 13 ?_
      refine pu 2 14 ?_
      refine pu 3 15 ?_
      refine pu 5 17 ?_
      refine tk2 4 16 hHeld ?_
      refine on1 6 18 (fun K hK => ?_)
      refine goes_ Tryd.func48 (by kernel_rfl) rfl #[.int .i64 x1_1] (by rfl) rfl rfl mq ?_
      with_reducible refine (laws_markText.calls k1 x1_1 t321 _ A5.out).mono ?_
      rintro e w10 ⟨rfl, hb⟩
      refine ⟨_, rfl, ?_⟩
      replace HB := am (below_step bel hb)
      (try clear hb)
      (try clear hb2)
      (try clear hk)
      (try clear hi)
      refine hK.out _ _ ⟨(kp HB.out hw320_0), (kp HB.out hw320_1)⟩ (fun hHeld => ?_)
      clear hK K
      refine norm_ (a' := ?_) ?_ ?_
      rotate_left
      ·show Act.put _ (some 18) _ = _
       simp only [Act.put, List.setIfInBounds_toArray, List.set_cons_zero, List.set_cons_succ, i64_w, i32_w]
       rfl
      refine pu 7 19 ?_
      refine done_ (done_of HT_.out (by kernel_rfl)) ?_
      try go_wp2
      replace HB := am (below_drew1 HB.out)
      have p322 : 0 ≤ (x5_1 : Int) := of_decide_eq_true ad
      have q322 : x5_1 < (l0.length : Int) := of_decide_eq_true ad
      obtain ⟨ad322, e322, hx322_0, hx322_1⟩ := at_T43 HR0.out x5_1 p322 q322; have hw322_1 := hx322_1; have hw322_0 := hx322_0
      obtain rfl : ad320 = ad322 := (by injection e322)
      replace hx322_0 := kp HB.out hx322_0; replace hx322_1 := kp HB.out hx322_1; replace p322 := eq_true p322; replace q322 := eq_true q322
      refine st (n := 8) (S := fun w' => w'.cell? (ad320.add ((x5_1).toNat * 2)) = some (.string ((rd_T43 l0 x5_1).f0)) ∧ w'.cell? ⟨(ad320.add ((x5_1).toNat * 2)).block, (ad320.add ((x5_1).toNat * 2)).off + 1, none⟩ = some (.string ((rd_T43 l0 x5_1).f1))) (ds := []) ⟨(kp HB.out hw322_0), (kp HB.out hw322_1)⟩ (fun hHeld => ?_); refine with_tabW laws_heldEntryS.tab7 laws_heldEntryS.bits7 (fun HT_ HW_ => ?_)
      generalize w10.drew = w11 at HB hx322_0 hx322_1 hHeld ⊢
      refine pu 0 22 ?_
      refine pu 1 23 ?_
      refine pu 2 24 ?_
      refine pu 3 25 ?_
      refine pu 5 27 ?_
      refine tk2 4 26 hHeld ?_
      refine on1 6 28 (fun K hK => ?_)
      refine goes_ Tryd.func48 (by kernel_rfl) rfl #[.int .i64 (wrap64 (x1_1 + 1))] (by rfl) rfl rfl mq ?_
      with_reducible refine (laws_markText.calls k1 (wrap64 (x1_1 + 1)) t323 _ A7.out).mono ?_
      rintro e w12 ⟨rfl, hb⟩
      refine ⟨_, rfl, ?_⟩
      replace HB := am (below_step bel hb)
      (try clear hb)
      (try clear hb2)
      (try clear hk)
      (try clear hi)
      refine hK.out _ _ ⟨(kp HB.out hw322_0), (kp HB.out hw322_1)⟩ (fun hHeld => ?_)
      clear hK K
      refine norm_ (a' := ?_) ?_ ?_
      rotate_left
      ·show Act.put _ (some 28) _ = _
       simp only [Act.put, List.setIfInBounds_toArray, List.set_cons_zero, List.set_cons_succ, i64_w, i32_w]
       rfl
      refine pu 7 29 ?_
      refine done_ (done_of HT_.out (by kernel_rfl)) ?_
      try go_wp2
      go_roundg k1
      case measure => have := HK1.out; omega
      case rel => exact ⟨(wrap64 ((wrap64 (x1_1 + 1)) + 1)), (wrap64 (x5_1 + 1)), sq, sq, H', ⟨b21_⟩, ⟨bel⟩⟩
     rw [if_neg c8] at H
     have c8b0 : (((rd_T43 l0 x5_1).f1).toList == t323.toList) = false := beq_eq_false_iff_ne.mpr c8
     have c8b1 : (((rd_T43 l0 x5_1).f1).toList != t323.toList) = true := bne_iff_ne.mpr c8
     obtain rfl := Option.some.inj H
     try go_wp2
     replace HB := am (below_drew1 HB.out)
     have p320 : 0 ≤ (x5_1 : Int) := of_decide_eq_true ad
     have q320 : x5_1 < (l0.length : Int) := of_decide_eq_true ad
     obtain ⟨ad320, e320, hx320_0, hx320_1⟩ := at_T43 HR0.out x5_1 p320 q320; have hw320_1 := hx320_1; have hw320_0 := hx320_0
     cases e320
     replace hx320_0 := kp HB.out hx320_0; replace hx320_1 := kp HB.out hx320_1; replace p320 := eq_true p320; replace q320 := eq_true q320
     refine st (n := 8) (S := fun w' => w'.cell? (ad320.add ((x5_1).toNat * 2)) = some (.string ((rd_T43 l0 x5_1).f0)) ∧ w'.cell? ⟨(ad320.add ((x5_1).toNat * 2)).block, (ad320.add ((x5_1).toNat * 2)).off + 1, none⟩ = some (.string ((rd_T43 l0 x5_1).f1))) (ds := []) ⟨(kp HB.out hw320_0), (kp HB.out hw320_1)⟩ (fun hHeld => ?_); refine with_tabW laws_heldEntryS.tab4 laws_heldEntryS.bits4 (fun HT_ HW_ => ?_)
     generalize wr.drew = w13 at HB hx320_0 hx320_1 hHeld ⊢
     refine pu 0 12 ?_
     refine pu 1 13 ?_
     refine pu 2 14 ?_
     refine pu 3 15 ?_
     refine pu 5 17 ?_
     refine tk2 4 16 hHeld ?_
     refine on1 6 18 (fun K hK => ?_)
     refine goes_ Tryd.func48 (by kernel_rfl) rfl #[.int .i64 x1_1] (by rfl) rfl rfl mq ?_
     with_reducible refine (laws_markText.calls k1 x1_1 t321 _ A5.out).mono ?_
     rintro e w14 ⟨rfl, hb⟩
     refine ⟨_, rfl, ?_⟩
     replace HB := am (below_step bel hb)
     (try clear hb)
     (try clear hb2)
     (try clear hk)
     (try clear hi)
     refine hK.out _ _ ⟨(kp HB.out hw320_0), (kp HB.out hw320_1)⟩ (fun hHeld => ?_)
     clear hK K
     refine norm_ (a' := ?_) ?_ ?_
     rotate_left
     ·show Act.put _ (some 18) _ = _
      simp only [Act.put, List.setIfInBounds_toArray, List.set_cons_zero, List.set_cons_succ, i64_w, i32_w]
      rfl
     refine pu 7 19 ?_
     refine done_ (done_of HT_.out (by kernel_rfl)) ?_
     try go_wp2
     replace HB := am (below_drew1 HB.out)
     have p322 : 0 ≤ (x5_1 : Int) := of_decide_eq_true ad
     have q322 : x5_1 < (l0.length : Int) := of_decide_eq_true ad
     obtain ⟨ad322, e322, hx322_0, hx322_1⟩ := at_T43 HR0.out x5_1 p322 q322; have hw322_1 := hx322_1; have hw322_0 := hx322_0
     obtain rfl : ad320 = ad322 := (by injection e322)
     replace hx322_0 := kp HB.out hx322_0; replace hx322_1 := kp HB.out hx322_1; replace p322 := eq_true p322; replace q322 := eq_true q322
     refine st (n := 8) (S := fun w' => w'.cell? (ad320.add ((x5_1).toNat * 2)) = some (.string ((rd_T43 l0 x5_1).f0)) ∧ w'.cell? ⟨(ad320.add ((x5_1).toNat * 2)).block, (ad320.add ((x5_1).toNat * 2)).off + 1, none⟩ = some (.string ((rd_T43 l0 x5_1).f1))) (ds := []) ⟨(kp HB.out hw322_0), (kp HB.out hw322_1)⟩ (fun hHeld => ?_); refine with_tabW laws_heldEntryS.tab7 laws_heldEntryS.bits7 (fun HT_ HW_ => ?_)
     generalize w14.drew = w15 at HB hx322_0 hx322_1 hHeld ⊢
     refine pu 0 22 ?_
     refine pu 1 23 ?_
     refine pu 2 24 ?_
     refine pu 3 25 ?_
     refine pu 5 27 ?_
     refine tk2 4 26 hHeld ?_
     refine on1 6 28 (fun K hK => ?_)
     refine goes_ Tryd.func48 (by kernel_rfl) rfl #[.int .i64 (wrap64 (x1_1 + 1))] (by rfl) rfl rfl mq ?_
     with_reducible refine (laws_markText.calls k1 (wrap64 (x1_1 + 1)) t323 _ A7.out).mono ?_
     rintro e w16 ⟨rfl, hb⟩
     refine ⟨_, rfl, ?_⟩
     replace HB := am (below_step bel hb)
     (try clear hb)
     (try clear hb2)
     (try clear hk)
     (try clear hi)
     refine hK.out _ _ ⟨(kp HB.out hw322_0), (kp HB.out hw322_1)⟩ (fun hHeld => ?_)
     clear hK K
     refine norm_ (a' := ?_) ?_ ?_
     rotate_left
     ·show Act.put _ (some 28) _ = _
      simp only [Act.put, List.setIfInBounds_toArray, List.set_cons_zero, List.set_cons_succ, i64_w, i32_w]
      rfl
     refine pu 7 29 ?_
     refine done_ (done_of HT_.out (by kernel_rfl)) ?_
     try go_wp2
     go_ret
     exact ⟨eq_, bel⟩
    rw [if_neg c6] at H
    have c6b0 : (((rd_T43 l0 x5_1).f0).toList == t321.toList) = false := beq_eq_false_iff_ne.mpr c6
    have c6b1 : (((rd_T43 l0 x5_1).f0).toList != t321.toList) = true := bne_iff_ne.mpr c6
    obtain rfl := Option.some.inj H
    try go_wp2
    replace HB := am (below_drew1 HB.out)
    have p320 : 0 ≤ (x5_1 : Int) := of_decide_eq_true ad
    have q320 : x5_1 < (l0.length : Int) := of_decide_eq_true ad
    obtain ⟨ad320, e320, hx320_0, hx320_1⟩ := at_T43 HR0.out x5_1 p320 q320; have hw320_1 := hx320_1; have hw320_0 := hx320_0
    cases e320
    replace hx320_0 := kp HB.out hx320_0; replace hx320_1 := kp HB.out hx320_1; replace p320 := eq_true p320; replace q320 := eq_true q320
    refine st (n := 8) (S := fun w' => w'.cell? (ad320.add ((x5_1).toNat * 2)) = some (.string ((rd_T43 l0 x5_1).f0)) ∧ w'.cell? ⟨(ad320.add ((x5_1).toNat * 2)).block, (ad320.add ((x5_1).toNat * 2)).off + 1, none⟩ = some (.string ((rd_T43 l0 x5_1).f1))) (ds := []) ⟨(kp HB.out hw320_0), (kp HB.out hw320_1)⟩ (fun hHeld => ?_); refine with_tabW laws_heldEntryS.tab4 laws_heldEntryS.bits4 (fun HT_ HW_ => ?_)
    generalize wr.drew = w17 at HB hx320_0 hx320_1 hHeld ⊢
    refine pu 0 12 ?_
    refine pu 1 13 ?_
    refine pu 2 14 ?_
    refine pu 3 15 ?_
    refine pu 5 17 ?_
    refine tk2 4 16 hHeld ?_
    refine on1 6 18 (fun K hK => ?_)
    refine goes_ Tryd.func48 (by kernel_rfl) rfl #[.int .i64 x1_1] (by rfl) rfl rfl mq ?_
    with_reducible refine (laws_markText.calls k1 x1_1 t321 _ A5.out).mono ?_
    rintro e w18 ⟨rfl, hb⟩
    refine ⟨_, rfl, ?_⟩
    replace HB := am (below_step bel hb)
    (try clear hb)
    (try clear hb2)
    (try clear hk)
    (try clear hi)
    refine hK.out _ _ ⟨(kp HB.out hw320_0), (kp HB.out hw320_1)⟩ (fun hHeld => ?_)
    clear hK K
    refine norm_ (a' := ?_) ?_ ?_
    rotate_left
    ·show Act.put _ (some 18) _ = _
     simp only [Act.put, List.setIfInBounds_toArray, List.set_cons_zero, List.set_cons_succ, i64_w, i32_w]
     rfl
    refine pu 7 19 ?_
    refine done_ (done_of HT_.out (by kernel_rfl)) ?_
    try go_wp2
    go_ret
    exact ⟨eq_, bel⟩
   rw [if_neg c3] at H; have c3b0 := decide_eq_false c3; clear c3; obtain rfl := Option.some.inj H; go_wp2; go_ret
   exact ⟨eq_, bel⟩

/-! ### laws_heldBook: function 9 -/
def laws_heldBook.f (k : Nat) (l0_0 : List (S40)) (l0_1 : List (S43)) (a1 : Int) : Option (Int) := (laws_heldAffixS.f k l0_0 a1).bind fun t325 => (if t325 < 0 then (some (-1)) else ((laws_heldEntryS.f k l0_1 t325).bind fun t326 => (if t326 < 0 then (some (-1)) else (some t326))))
theorem laws_heldBook.calls (k : Nat) (A0_0 : Option Addr) (c0_0 : Nat) (l0_0 : List (S40)) (A0_1 : Option Addr) (c0_1 : Nat) (l0_1 : List (S43)) (a1 : Int) (r : Int) (w : World) (hr0_0 : Kd.C k40 w A0_0 l0_0.length l0_0) (hc0_0 : l0_0.length ≤ c0_0) (hr0_1 : Kd.C k43 w A0_1 l0_1.length l0_1) (hc0_1 : l0_1.length ≤ c0_1) (h : laws_heldBook.f k l0_0 l0_1 a1 = some r) :
  Calls Tryd.prog 9 #[.agg #[.slice A0_0 l0_0.length c0_0, .slice A0_1 l0_1.length c0_1], .int .i64 a1] w fun e w' => e = .returned (.int .i64 r) ∧ Below w.heap.size w w' := by
 have hu25 := Tryd.underlying25; have HR0_0 := am hr0_0; have HC0_0 := am hc0_0; clear hr0_0 hc0_0; have HR0_1 := am hr0_1; have HC0_1 := am hc0_1; clear hr0_1 hc0_1; have HB := am (Below.refl w.heap.size w)
 have H : ((laws_heldAffixS.f k l0_0 a1).bind fun t325 => (if t325 < 0 then (some (-1)) else ((laws_heldEntryS.f k l0_1 t325).bind fun t326 => (if t326 < 0 then (some (-1)) else (some t326))))) = some r := h
 clear h; replace H := bs H; obtain ⟨t325, A30, H⟩ := H; replace H : (if t325 < 0 then (some (-1)) else ((laws_heldEntryS.f k l0_1 t325).bind fun t326 => (if t326 < 0 then (some (-1)) else (some t326)))) = some r := H; have A3 := Aside0.mk A30; clear A30
 by_cases c4 : t325 < 0
 ·rw [if_pos c4] at H; have c4b0 := decide_eq_true c4; clear c4; obtain rfl := Option.some.inj H; go_enter Tryd.func9, Tryd.ntmps9
  go_wp2_with (first | ((with_reducible refine gate_dst (N := 2) rfl ?_); refine bx 2 (cs := #[.slice A0_0 l0_0.length c0_0, .slice A0_1 l0_1.length c0_1]) (t := 25) ?_; intro gb324 hg w5 hbox hb; have BK324 := am (hbox); have GW324 := am ((b2_ : w.heap.size ≤ gb324)); have GE324 := am ((b2_ : w.heap.size ≤ gb324)); replace HB := am (below_step bel hb); clear hb hbox hg; have hcz6_0 := bc BK324.out 0; have hcz6_1 := bc BK324.out 1; have hfz6_0 := bf BK324.out 0; have hfz6_1 := bf BK324.out 1) | ((with_reducible refine gate_callee (f := 29) rfl ?_); refine goesL_ (some 8) rfl rfl Tryd.func29 (by kernel_rfl) rfl #[.slice A0_0 l0_0.length c0_0, .int .i64 a1] rfl mq ?_; (with_reducible refine (laws_heldAffixS.calls k _ _ l0_0 a1 t325 _ ?side1 ?side2 A3.out).mono ?_); (case side1 => exact cq (Kd.C_below HR0_0.out HB.out)); (case side2 => exact HC0_0.out); rintro e w7 ⟨rfl, hb⟩; refine ⟨_, rfl, ?_⟩; replace BK324 := am (blk_below (g := gb324) (o := .cells #[.slice A0_0 l0_0.length c0_0, .slice A0_1 l0_1.length c0_1] 25 (0, 0)) (bq BK324.out) hb); replace HB := am (below_step (bel1 GE324.out) hb); (try clear hb); (try clear hb2); (try clear hk); (try clear hi)))
  go_ret
  exact ⟨eq_, bel1 GE324.out⟩
 rw [if_neg c4] at H; have c4b0 := decide_eq_false c4; clear c4; replace H := bs H; obtain ⟨t326, A80, H⟩ := H; replace H : (if t326 < 0 then (some (-1)) else (some t326)) = some r := H; have A8 := Aside0.mk A80; clear A80
 by_cases c9 : t326 < 0
 ·rw [if_pos c9] at H; have c9b0 := decide_eq_true c9; clear c9; obtain rfl := Option.some.inj H; go_enter Tryd.func9, Tryd.ntmps9
  go_wp2_with (first | ((with_reducible refine gate_dst (N := 2) rfl ?_); refine bx 2 (cs := #[.slice A0_0 l0_0.length c0_0, .slice A0_1 l0_1.length c0_1]) (t := 25) ?_; intro gb324 hg w10 hbox hb; have BK324 := am (hbox); have GW324 := am ((b2_ : w.heap.size ≤ gb324)); have GE324 := am ((b2_ : w.heap.size ≤ gb324)); replace HB := am (below_step bel hb); clear hb hbox hg; have hcz11_0 := bc BK324.out 0; have hcz11_1 := bc BK324.out 1; have hfz11_0 := bf BK324.out 0; have hfz11_1 := bf BK324.out 1) | ((with_reducible refine gate_callee (f := 29) rfl ?_); refine goesL_ (some 8) rfl rfl Tryd.func29 (by kernel_rfl) rfl #[.slice A0_0 l0_0.length c0_0, .int .i64 a1] rfl mq ?_; (with_reducible refine (laws_heldAffixS.calls k _ _ l0_0 a1 t325 _ ?side1 ?side2 A3.out).mono ?_); (case side1 => exact cq (Kd.C_below HR0_0.out HB.out)); (case side2 => exact HC0_0.out); rintro e w12 ⟨rfl, hb⟩; refine ⟨_, rfl, ?_⟩; replace BK324 := am (blk_below (g := gb324) (o := .cells #[.slice A0_0 l0_0.length c0_0, .slice A0_1 l0_1.length c0_1] 25 (0, 0)) (bq BK324.out) hb); replace HB := am (below_step (bel1 GE324.out) hb); (try clear hb); (try clear hb2); (try clear hk); (try clear hi); have hcz13_0 := bc BK324.out 0; have hcz13_1 := bc BK324.out 1; have hfz13_0 := bf BK324.out 0; have hfz13_1 := bf BK324.out 1) | ((with_reducible refine gate_callee (f := 30) rfl ?_); refine goesL_ (some 14) rfl rfl Tryd.func30 (by kernel_rfl) rfl #[.slice A0_1 l0_1.length c0_1, .int .i64 t325] rfl mq ?_; (with_reducible refine (laws_heldEntryS.calls k _ _ l0_1 t325 t326 _ ?side1 ?side2 A8.out).mono ?_); (case side1 => exact cq (Kd.C_below HR0_1.out HB.out)); (case side2 => exact HC0_1.out); rintro e w14 ⟨rfl, hb⟩; refine ⟨_, rfl, ?_⟩; replace BK324 := am (blk_below (g := gb324) (o := .cells #[.slice A0_0 l0_0.length c0_0, .slice A0_1 l0_1.length c0_1] 25 (0, 0)) (bq BK324.out) hb); replace HB := am (below_step (bel1 GE324.out) hb); (try clear hb); (try clear hb2); (try clear hk); (try clear hi)))
  go_ret
  exact ⟨eq_, bel1 GE324.out⟩
 rw [if_neg c9] at H; have c9b0 := decide_eq_false c9; clear c9; obtain rfl := Option.some.inj H; go_enter Tryd.func9, Tryd.ntmps9
 go_wp2_with (first | ((with_reducible refine gate_dst (N := 2) rfl ?_); refine bx 2 (cs := #[.slice A0_0 l0_0.length c0_0, .slice A0_1 l0_1.length c0_1]) (t := 25) ?_; intro gb324 hg w15 hbox hb; have BK324 := am (hbox); have GW324 := am ((b2_ : w.heap.size ≤ gb324)); have GE324 := am ((b2_ : w.heap.size ≤ gb324)); replace HB := am (below_step bel hb); clear hb hbox hg; have hcz16_0 := bc BK324.out 0; have hcz16_1 := bc BK324.out 1; have hfz16_0 := bf BK324.out 0; have hfz16_1 := bf BK324.out 1) | ((with_reducible refine gate_callee (f := 29) rfl ?_); refine goesL_ (some 8) rfl rfl Tryd.func29 (by kernel_rfl) rfl #[.slice A0_0 l0_0.length c0_0, .int .i64 a1] rfl mq ?_; (with_reducible refine (laws_heldAffixS.calls k _ _ l0_0 a1 t325 _ ?side1 ?side2 A3.out).mono ?_); (case side1 => exact cq (Kd.C_below HR0_0.out HB.out)); (case side2 => exact HC0_0.out); rintro e w17 ⟨rfl, hb⟩; refine ⟨_, rfl, ?_⟩; replace BK324 := am (blk_below (g := gb324) (o := .cells #[.slice A0_0 l0_0.length c0_0, .slice A0_1 l0_1.length c0_1] 25 (0, 0)) (bq BK324.out) hb); replace HB := am (below_step (bel1 GE324.out) hb); (try clear hb); (try clear hb2); (try clear hk); (try clear hi); have hcz18_0 := bc BK324.out 0; have hcz18_1 := bc BK324.out 1; have hfz18_0 := bf BK324.out 0; have hfz18_1 := bf BK324.out 1) | ((with_reducible refine gate_callee (f := 30) rfl ?_); refine goesL_ (some 14) rfl rfl Tryd.func30 (by kernel_rfl) rfl #[.slice A0_1 l0_1.length c0_1, .int .i64 t325] rfl mq ?_; (with_reducible refine (laws_heldEntryS.calls k _ _ l0_1 t325 t326 _ ?side1 ?side2 A8.out).mono ?_); (case side1 => exact cq (Kd.C_below HR0_1.out HB.out)); (case side2 => exact HC0_1.out); rintro e w19 ⟨rfl, hb⟩; refine ⟨_, rfl, ?_⟩; replace BK324 := am (blk_below (g := gb324) (o := .cells #[.slice A0_0 l0_0.length c0_0, .slice A0_1 l0_1.length c0_1] 25 (0, 0)) (bq BK324.out) hb); replace HB := am (below_step (bel1 GE324.out) hb); (try clear hb); (try clear hb2); (try clear hk); (try clear hi)))
 go_ret
 exact ⟨eq_, bel1 GE324.out⟩
end Go.Proofs.YtiiefpckcgekgaaDoor.QFnExactBookGet

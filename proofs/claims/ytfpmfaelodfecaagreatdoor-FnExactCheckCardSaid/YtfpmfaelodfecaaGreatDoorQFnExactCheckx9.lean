import Derived.Test.YtfpmfaelodfecaaGreatDoorQFnExactCheckx0
import Derived.Test.YtfpmfaelodfecaaGreatDoorQFnExactCheckx5
import Derived.Test.YtfpmfaelodfecaaGreatDoorVMSh2
namespace Go.Proofs.YtfpmfaelodfecaaGreatDoor.QFnExactCheck
open Go.RowKit Go.Proofs.YtfpmfaelodfecaaGreatDoorW.PrintWords Go.Proofs.YtfpmfaelodfecaaGreatDoorW.PrintLast Go.Proofs.YtfpmfaelodfecaaGreatDoorW.PrintMore Go.Proofs.YtfpmfaelodfecaaGreatDoor.Sh
attribute [local go_sem] max2_int min2_int max_two min_two max_three min_three max_four min_four
set_option linter.unusedVariables false
set_option linter.unusedSimpArgs false
set_option maxHeartbeats 8000000
set_option maxRecDepth 100000
-- shrunk

/-! ### spec_Check: function 6 -/
mutual
def spec_Check.j0 : Nat → ByteArray → List (S43) → Bool → List (S82) → List (S78) → Option ((List (S43)))
 | 0, _, _, _, _, _ => none
 | k + 1, x1, x5, x18, x203000, x203001 => if x18 = true then (some x5) else ((spec_l2Words.f k x203000 x203001).bind fun t207 => (spec_Check.l0 k x1 x5 t207 0))
def spec_Check.l0 : Nat → ByteArray → List (S43) → List ByteArray → Int → Option ((List (S43)))
 | 0, _, _, _, _ => none
 | k + 1, x1, x5, x6, x7 => if x7 < (x1.size : Int) then (if 0 ≤ x7 then ((spec_l4Letter.f (bt x1 x7)).bind fun t210 => (if t210 = true then (if x7 > 0 then (if 0 ≤ (wrap64 (x7 - 1)) then (if (wrap64 (x7 - 1)) < (x1.size : Int) then ((spec_l4Letter.f (bt x1 (wrap64 (x7 - 1)))).bind fun t211 => (spec_Check.j2 k x1 x5 x6 x7 t211)) else (none)) else (none)) else (spec_Check.j2 k x1 x5 x6 x7 false)) else (spec_Check.j2 k x1 x5 x6 x7 true))) else (none)) else (some x5)
def spec_Check.j2 : Nat → ByteArray → List (S43) → List ByteArray → Int → Bool → Option ((List (S43)))
 | 0, _, _, _, _, _ => none
 | k + 1, x1, x5, x6, x7, x43 => if x43 = true then (spec_Check.l0 k x1 x5 x6 (wrap64 (x7 + 1))) else (spec_Check.l1 k x1 x5 x6 x7 x7)
def spec_Check.j4 : Nat → ByteArray → List (S43) → List ByteArray → Int → Int → Option ((List (S43)))
 | 0, _, _, _, _, _ => none
 | k + 1, x1, x5, x6, x7, x8 => if 0 ≤ x7 then (if x7 ≤ x8 then (if x8 ≤ (x1.size : Int) then ((spec_l4Small.f (x1.extract (x7 : Int).toNat (x8 : Int).toNat)).bind fun t213 => ((spec_l2In.f k x6 t213).bind fun t214 => (if t214 = true then (spec_Check.l0 k x1 x5 x6 (wrap64 (x7 + 1))) else (if x5.length < 5864062014805 then (spec_Check.l0 k x1 (x5 ++ [(⟨t213, x7⟩ : S43)]) x6 (wrap64 (x7 + 1))) else (none))))) else (none)) else (none)) else (none)
def spec_Check.l1 : Nat → ByteArray → List (S43) → List ByteArray → Int → Int → Option ((List (S43)))
 | 0, _, _, _, _, _ => none
 | k + 1, x1, x5, x6, x7, x8 => if x8 < (x1.size : Int) then (if 0 ≤ x8 then ((spec_l4Letter.f (bt x1 x8)).bind fun t212 => (if t212 = true then (spec_Check.l1 k x1 x5 x6 x7 (wrap64 (x8 + 1))) else (spec_Check.j4 k x1 x5 x6 x7 x8))) else (none)) else (spec_Check.j4 k x1 x5 x6 x7 x8)
end
def spec_Check.f (k : Nat) (l0_0 : List (S82)) (l0_1 : List (S78)) (a1 : ByteArray) : Option ((List (S43))) := (some (([] : List (S43)) : List (S43))).bind fun y203 => ((spec_BookOk.f k l0_0 l0_1).bind fun t206 => (if t206 = true then (spec_Check.j0 k a1 y203 (decide ((a1.size : Int) > 300)) l0_0 l0_1) else (spec_Check.j0 k a1 y203 true l0_0 l0_1)))
theorem spec_Check.calls (k : Nat) (A0_0 : Option Addr) (c0_0 : Nat) (l0_0 : List (S82)) (A0_1 : Option Addr) (c0_1 : Nat) (l0_1 : List (S78)) (a1 : ByteArray) (r : List (S43)) (w : World) (hr0_0 : Kd.C k82 w A0_0 l0_0.length l0_0) (hc0_0 : l0_0.length ≤ c0_0) (hr0_1 : Kd.C k78 w A0_1 l0_1.length l0_1) (hc0_1 : l0_1.length ≤ c0_1) (h : spec_Check.f k l0_0 l0_1 a1 = some r) :
  Calls Tryz.prog 6 #[.agg #[.slice A0_0 l0_0.length c0_0, .slice A0_1 l0_1.length c0_1], .string a1] w fun e w' => ∃ v0_ : Value, e = .returned (v0_) ∧ Kd.R k43 43 w' w.heap.size (fun _ => True) v0_ r ∧ Below w.heap.size w w' := by
 have hu32 := Tryz.underlying32; have hu43 := Tryz.underlying43; have HR0_0 := am hr0_0; have HC0_0 := am hc0_0; clear hr0_0 hc0_0; have HR0_1 := am hr0_1; have HC0_1 := am hc0_1; clear hr0_1 hc0_1; have HB := am (Below.refl w.heap.size w)
 have H : ((some (([] : List (S43)) : List (S43))).bind fun y203 => ((spec_BookOk.f k l0_0 l0_1).bind fun t206 => (if t206 = true then (spec_Check.j0 k a1 y203 (decide ((a1.size : Int) > 300)) l0_0 l0_1) else (spec_Check.j0 k a1 y203 true l0_0 l0_1)))) = some r := h
 clear h; obtain ⟨y203, hy203⟩ : ∃ y_ : List (S43), y_ = (([] : List (S43))) := ⟨_, rfl⟩
 replace H : ((spec_BookOk.f k l0_0 l0_1).bind fun t206 => (if t206 = true then (spec_Check.j0 k a1 y203 (decide ((a1.size : Int) > 300)) l0_0 l0_1) else (spec_Check.j0 k a1 y203 true l0_0 l0_1))) = some r := by first | (rw [hy203]; with_reducible exact H) | (have H2_ := bm H; rw [hy203]; with_reducible exact H2_) | (with_reducible exact bm H) | with_reducible exact H | (rw [hy203]; exact H) | exact H
 have Ny203 := am hy203; clear hy203; have HC3 := am H; clear H; go_enter Tryz.func6, Tryz.ntmps6
 go_upto_region 2 with (first | ((with_reducible refine gate_dst (N := 2) rfl ?_); (try (refine gate_guard (by rfl) ?_; dsimp only)); refine bx 2 (cs := #[.slice A0_0 l0_0.length c0_0, .slice A0_1 l0_1.length c0_1]) (t := 32) ?_; intro gb202 hg w4 hbox hb; have BK202 := am (hbox); have GW202 := am ((b0_ : w.heap.size ≤ gb202)); have GE202 := am ((b0_ : w.heap.size ≤ gb202)); replace HB := am (below_step bel hb); clear hb hbox hg) | ((with_reducible refine gate_dst (N := 10) rfl ?_); (try (refine gate_guard (by rfl) ?_; dsimp only)); refine Kd.R_lit k43 _ 43 ?hg (N := 10) ?hd (xs := ([] : List (S43))) (inner := []) (ok := fun _ => True) (okp := fun _ => True) ?hr ?hp (fun _ hk => hk) trivial (Below.refl _ _) (Nat.le_refl _) (by simp) ?_; (case hd => rfl); (case hg => rfl); (case hr => first | (go_simp; done) | (go_simp; rfl)); (case hp => exact (Reps.none _ _)); intro v204 w5 ho6 hb hg_ hnew_; clear hg_ hnew_; (first | rw [← Ny203.out] at ho6 | (simp only [Int.reduceToNat] at ho6; rw [← Ny203.out] at ho6) | (simp only [Int.toNat_natCast] at ho6; rw [← Ny203.out] at ho6)); have HO205 := am (Kd.R_lower ho6 (below_size (bel1 GE202.out))); replace BK202 := am (blk_below (g := gb202) (o := .cells #[.slice A0_0 l0_0.length c0_0, .slice A0_1 l0_1.length c0_1] 32 (0, 0)) (bq BK202.out) hb); replace HB := am (below_step (bel1 GE202.out) hb); clear hb ho6))
 (try simp only [Act.put, List.setIfInBounds_toArray, List.set_cons_zero, List.set_cons_succ])
 go_cut [18] (fun v18 wc => ∃ (kq : Nat) (x18_2 : Bool), v18 = .bool x18_2 ∧ Aside0 (spec_Check.j0 kq a1 y203 x18_2 l0_0 l0_1 = some r) ∧ Aside0 (kq ≤ k) ∧ Aside0 (Kd.R k43 43 wc w.heap.size (fun _ => True) v204 y203) ∧ Aside0 (wc.heap[gb202]? = some (.cells #[(.slice A0_0 l0_0.length c0_0), (.slice A0_1 l0_1.length c0_1)] 32 (0, 0))) ∧ Aside0 (Below w.heap.size w wc))
 case first =>
  have H := HC3.out; clear HC3; replace H := bs H; obtain ⟨t206, A70, H⟩ := H; replace H : (if t206 = true then (spec_Check.j0 k a1 y203 (decide ((a1.size : Int) > 300)) l0_0 l0_1) else (spec_Check.j0 k a1 y203 true l0_0 l0_1)) = some r := H; have A7 := Aside0.mk A70; clear A70
  by_cases c8 : t206 = true
  ·subst c8
   have H1 : (spec_Check.j0 k a1 y203 (decide ((a1.size : Int) > 300)) l0_0 l0_1) = some r := b8_
   replace H := H1; clear H1
   have H' := am H
   clear H; have hcz9_0 := bc BK202.out 0; have hcz9_1 := bc BK202.out 1; have hfz9_0 := bf BK202.out 0; have hfz9_1 := bf BK202.out 1
   go_wp2_with (first | ((with_reducible refine gate_callee (f := 19) rfl ?_); refine goesL_ (some 12) rfl rfl Tryz.func19 (by kernel_rfl) rfl #[.agg #[.slice A0_0 l0_0.length c0_0, .slice A0_1 l0_1.length c0_1]] rfl mq ?_; (with_reducible refine (spec_BookOk.calls k _ _ l0_0 _ _ l0_1 true _ ?side1 ?side2 ?side3 ?side4 A7.out).mono ?_); (case side1 => exact cq (Kd.C_below HR0_0.out HB.out)); (case side2 => exact HC0_0.out); (case side3 => exact cq (Kd.C_below HR0_1.out HB.out)); (case side4 => exact HC0_1.out); rintro e w10 ⟨rfl, hb⟩; refine ⟨_, rfl, ?_⟩; replace HO205 := am (Kd.R_below (rq HO205.out) hb); replace BK202 := am (blk_below (g := gb202) (o := .cells #[.slice A0_0 l0_0.length c0_0, .slice A0_1 l0_1.length c0_1] 32 (0, 0)) (bq BK202.out) hb); replace HB := am (below_step (bel1 GE202.out) hb); (try clear hb); (try clear hb2); (try clear hk); (try clear hi)))
   go_meet
   case rel => exact ⟨_, (decide ((a1.size : Int) > 300)), sq, H', ⟨b15_⟩, ⟨rq HO205.out⟩, ⟨bq BK202.out⟩, ⟨bel1 GE202.out⟩⟩
  replace c8 := Bool.eq_false_iff.mpr c8; subst c8
  have H1 : (spec_Check.j0 k a1 y203 true l0_0 l0_1) = some r := b2_
  replace H := H1; clear H1
  have H' := am H
  clear H; have hcz11_0 := bc BK202.out 0; have hcz11_1 := bc BK202.out 1; have hfz11_0 := bf BK202.out 0; have hfz11_1 := bf BK202.out 1
  go_wp2_with (first | ((with_reducible refine gate_callee (f := 19) rfl ?_); refine goesL_ (some 12) rfl rfl Tryz.func19 (by kernel_rfl) rfl #[.agg #[.slice A0_0 l0_0.length c0_0, .slice A0_1 l0_1.length c0_1]] rfl mq ?_; (with_reducible refine (spec_BookOk.calls k _ _ l0_0 _ _ l0_1 false _ ?side1 ?side2 ?side3 ?side4 A7.out).mono ?_); (case side1 => exact cq (Kd.C_below HR0_0.out HB.out)); (case side2 => exact HC0_0.out); (case side3 => exact cq (Kd.C_below HR0_1.out HB.out)); (case side4 => exact HC0_1.out); rintro e w12 ⟨rfl, hb⟩; refine ⟨_, rfl, ?_⟩; replace HO205 := am (Kd.R_below (rq HO205.out) hb); replace BK202 := am (blk_below (g := gb202) (o := .cells #[.slice A0_0 l0_0.length c0_0, .slice A0_1 l0_1.length c0_1] 32 (0, 0)) (bq BK202.out) hb); replace HB := am (below_step (bel1 GE202.out) hb); (try clear hb); (try clear hb2); (try clear hk); (try clear hi)))
  go_meet
  case rel => exact ⟨_, (true), sq, H', ⟨b15_⟩, ⟨rq HO205.out⟩, ⟨bq BK202.out⟩, ⟨bel1 GE202.out⟩⟩
 case rest =>
  clear HC3; (try clear c1); (try clear p2); (try clear c6); (try clear c8); (try clear hcz11_0); (try clear hcz11_1); (try clear hcz9_0); (try clear hcz9_1); (try clear hfz11_0); (try clear hfz11_1); (try clear hfz9_0); (try clear hfz9_1); obtain ⟨kq, x18_2, rfl, HA, HJ2, HO_5, BK202, HB⟩ := hcut
  cases kq with
  | zero => exact absurd HA.out (by simp [spec_Check.j0])
  | succ kj2 =>
   have H := HA.out; clear HA
   simp only [spec_Check.j0] at H
   by_cases c13 : x18_2 = true
   ·subst c13
    have H1 : (some y203) = some r := b8_
    replace H := H1; clear H1
    obtain rfl := Option.some.inj H; go_wp2; go_ret
    exact ⟨_, eq_, b22_, bel1 GE202.out⟩
   replace c13 := Bool.eq_false_iff.mpr c13; subst c13
   have H1 : ((spec_l2Words.f kj2 l0_0 l0_1).bind fun t207 => (spec_Check.l0 kj2 a1 y203 t207 0)) = some r := b2_
   replace H := H1; clear H1
   replace H := bs H; obtain ⟨t207, A140, H⟩ := H; replace H : (spec_Check.l0 kj2 a1 y203 t207 0) = some r := H; have A14 := Aside0.mk A140; clear A140
   have H' := am H
   clear H; have hcz15_0 := bc BK202.out 0; have hcz15_1 := bc BK202.out 1; have hfz15_0 := bf BK202.out 0; have hfz15_1 := bf BK202.out 1
   go_wp2_with (first | ((with_reducible refine gate_callee (f := 20) rfl ?_); refine goesL_ (some 21) rfl rfl Tryz.func20 (by kernel_rfl) rfl #[.agg #[.slice A0_0 l0_0.length c0_0, .slice A0_1 l0_1.length c0_1]] rfl mq ?_; (with_reducible refine (spec_l2Words.calls kj2 _ _ l0_0 _ _ l0_1 t207 _ ?side1 ?side2 ?side3 ?side4 A14.out).mono ?_); (case side1 => exact cq (Kd.C_below HR0_0.out HB.out)); (case side2 => exact HC0_0.out); (case side3 => exact cq (Kd.C_below HR0_1.out HB.out)); (case side4 => exact HC0_1.out); rintro e w16 ⟨v208, rfl, ho0, hb⟩; refine ⟨_, rfl, ?_⟩; have HO209 := am (Kd.V_lower (Kd.V_mono (ok' := fun k_ => some k_ ≠ (v204 : Value).ownBlock ∧ k_ ≠ gb202) ho0 (fun k_ hk_ => ⟨(Kd.fresh' (Kd.R_lt (rq HO_5.out)) k_ hk_), (Kd.freshB (g := gb202) (o := .cells #[.slice A0_0 l0_0.length c0_0, .slice A0_1 l0_1.length c0_1] 32 (0, 0)) (bq BK202.out) k_ hk_)⟩)) (below_size (bel1 GE202.out))); replace HO_5 := am (Kd.R_below (rq HO_5.out) hb); replace BK202 := am (blk_below (g := gb202) (o := .cells #[.slice A0_0 l0_0.length c0_0, .slice A0_1 l0_1.length c0_1] 32 (0, 0)) (bq BK202.out) hb); replace HB := am (below_step (bel1 GE202.out) hb); (try clear hb); (try clear hb2); (try clear hk); (try clear hi); (try clear ho0)))
   go_loopg [5, 7] kj2 (fun kq v5 v7 w' => ∃ (x5_2 : List (S43)) (x7_2 : Int), v7 = .int .i64 x7_2 ∧ Aside0 (spec_Check.l0 kq a1 x5_2 t207 x7_2 = some r) ∧ Aside0 (kq ≤ kj2) ∧ Aside0 (Kd.R k43 43 w' w.heap.size (fun _ => True) v5 x5_2) ∧ Aside0 (Kd.V Kd.string 9 w' w.heap.size (fun k_ => some k_ ≠ (v5 : Value).ownBlock ∧ k_ ≠ gb202) v208 t207) ∧ Aside0 (w'.heap[gb202]? = some (.cells #[(.slice A0_0 l0_0.length c0_0), (.slice A0_1 l0_1.length c0_1)] 32 (0, 0))) ∧ Aside0 (Below w.heap.size w w'))
   case atStart => exact ⟨(y203), (0), sq, H', ⟨Nat.le_refl _⟩, ⟨rq HO_5.out⟩, ⟨vq HO209.out⟩, ⟨bq BK202.out⟩, ⟨bel1 GE202.out⟩⟩
   case round =>
    clear H'; (try clear c1); (try clear c2); (try clear p2); (try clear c6); (try clear c8); (try clear c13); (try clear hcz11_0); (try clear hcz11_1); (try clear hcz15_0); (try clear hcz15_1); (try clear hcz9_0); (try clear hcz9_1); (try clear hfz11_0); (try clear hfz11_1); (try clear hfz15_0); (try clear hfz15_1); (try clear hfz9_0); (try clear hfz9_1); (try clear p2); obtain ⟨x5_2, x7_2, rfl, HA, HK2, HO_5, HO_6, BK202, HB⟩ := hrel
    cases gk with
    | zero => exact absurd HA.out (by simp [spec_Check.l0])
    | succ k2 =>
     have H := HA.out; clear HA
     simp only [spec_Check.l0] at H
     by_cases c17 : x7_2 < (a1.size : Int)
     ·rw [if_pos c17] at H; have c17b0 := decide_eq_true c17; clear c17; have HC18 := am H; clear H
      go_upto_region 8 with (fail)
      go_cut [43] (fun v43 wc => ∃ (kq : Nat) (x43_17 : Bool), v43 = .bool x43_17 ∧ Aside0 (spec_Check.j2 kq a1 x5_2 t207 x7_2 x43_17 = some r) ∧ Aside0 (kq ≤ k2) ∧ Aside0 (Kd.R k43 43 wc w.heap.size (fun _ => True) u5 x5_2) ∧ Aside0 (Kd.V Kd.string 9 wc w.heap.size (fun k_ => some k_ ≠ (u5 : Value).ownBlock ∧ k_ ≠ gb202) v208 t207) ∧ Aside0 (wc.heap[gb202]? = some (.cells #[(.slice A0_0 l0_0.length c0_0), (.slice A0_1 l0_1.length c0_1)] 32 (0, 0))) ∧ Aside0 (Below w.heap.size w wc))
      case first =>
       have H := HC18.out; clear HC18
       replace H := it H; obtain ⟨c19b0, H⟩ := H
       (first | rw [c19b0] | (simp only [i64_w, i32_w]; rw [c19b0]) | skip)
       replace H := bs H; obtain ⟨t210, A210, H⟩ := H; replace H : (if t210 = true then (if x7_2 > 0 then (if 0 ≤ (wrap64 (x7_2 - 1)) then (if (wrap64 (x7_2 - 1)) < (a1.size : Int) then ((spec_l4Letter.f (bt a1 (wrap64 (x7_2 - 1)))).bind fun t211 => (spec_Check.j2 k2 a1 x5_2 t207 x7_2 t211)) else (none)) else (none)) else (spec_Check.j2 k2 a1 x5_2 t207 x7_2 false)) else (spec_Check.j2 k2 a1 x5_2 t207 x7_2 true)) = some r := H; have A21 := Aside0.mk A210; clear A210
       by_cases c22 : t210 = true
       ·subst c22
        have H1 : (if x7_2 > 0 then (if 0 ≤ (wrap64 (x7_2 - 1)) then (if (wrap64 (x7_2 - 1)) < (a1.size : Int) then ((spec_l4Letter.f (bt a1 (wrap64 (x7_2 - 1)))).bind fun t211 => (spec_Check.j2 k2 a1 x5_2 t207 x7_2 t211)) else (none)) else (none)) else (spec_Check.j2 k2 a1 x5_2 t207 x7_2 false)) = some r := b8_
        replace H := H1; clear H1
        by_cases c23 : x7_2 > 0
        ·rw [if_pos c23] at H; have c23b0 := decide_eq_true c23; clear c23; obtain ⟨ji24, hji24⟩ : ∃ j_ : Int, (wrap64 (x7_2 - 1)) = j_ := ⟨_, rfl⟩
         replace H : (if 0 ≤ (ji24) then (if (ji24) < (a1.size : Int) then ((spec_l4Letter.f (bt a1 (ji24))).bind fun t211 => (spec_Check.j2 k2 a1 x5_2 t207 x7_2 t211)) else (none)) else (none)) = some r := by first | (rw [hji24] at H; exact H) | (simp only [hji24] at H ⊢; exact H)
         (try rw [hji24] at A21)
         have hji24w : (IntKind.i64.wrap (x7_2 - 1)) = ji24 := (i64_w _).trans hji24
         replace H := it H; obtain ⟨c25b0, H⟩ := H
         replace H := it H; obtain ⟨c26b0, H⟩ := H; replace H := bs H; obtain ⟨t211, A280, H⟩ := H; replace H : (spec_Check.j2 k2 a1 x5_2 t207 x7_2 t211) = some r := H; have A28 := Aside0.mk A280; clear A280
         have H' := am H
         clear H
         have p20 : 0 ≤ (x7_2 : Int) := of_decide_eq_true ad
         have q20 : x7_2 < (a1.size : Int) := of_decide_eq_true ad
         have hx20 := bt_at a1 x7_2; replace p20 := eq_true p20; replace q20 := eq_true q20
         go_wp2_with (first | ((with_reducible refine gate_callee (f := 21) rfl ?_); refine goesL_ (some 31) rfl rfl Tryz.func21 (by kernel_rfl) rfl #[.int .u8 (bt a1 x7_2)] rfl mq ?_; (with_reducible refine (spec_l4Letter.calls (bt a1 x7_2) true _ A21.out).mono ?_); rintro e w' ⟨rfl, ⟨nd, rfl⟩⟩; refine ⟨_, rfl, ?_⟩; have p27 : 0 ≤ ((ji24) : Int) := of_decide_eq_true ad; have q27 : (ji24) < (a1.size : Int) := of_decide_eq_true ad; have hx27 := bt_at a1 (ji24); replace p27 := eq_true p27; replace q27 := eq_true q27) | (go_at_call 21; (with_reducible refine (spec_l4Letter.calls (bt a1 (ji24)) t211 _ A28.out).mono ?_); rintro e w' ⟨rfl, ⟨nd, rfl⟩⟩))
         go_meet
         case rel => exact ⟨_, (t211), sq, H', ⟨b43_⟩, ⟨rq HO_5.out⟩, ⟨vq HO_6.out⟩, ⟨bq BK202.out⟩, ⟨bel1 GE202.out⟩⟩
        rw [if_neg c23] at H; have c23b0 := decide_eq_false c23; clear c23
        have H' := am H
        clear H
        have p20 : 0 ≤ (x7_2 : Int) := of_decide_eq_true ad
        have q20 : x7_2 < (a1.size : Int) := of_decide_eq_true ad
        have hx20 := bt_at a1 x7_2; replace p20 := eq_true p20; replace q20 := eq_true q20
        go_wp2_with (first | ((with_reducible refine gate_callee (f := 21) rfl ?_); refine goesL_ (some 31) rfl rfl Tryz.func21 (by kernel_rfl) rfl #[.int .u8 (bt a1 x7_2)] rfl mq ?_; (with_reducible refine (spec_l4Letter.calls (bt a1 x7_2) true _ A21.out).mono ?_); rintro e w' ⟨rfl, ⟨nd, rfl⟩⟩; refine ⟨_, rfl, ?_⟩))
        go_meet
        case rel => exact ⟨_, (false), sq, H', ⟨b43_⟩, ⟨rq HO_5.out⟩, ⟨vq HO_6.out⟩, ⟨bq BK202.out⟩, ⟨bel1 GE202.out⟩⟩
       replace c22 := Bool.eq_false_iff.mpr c22; subst c22
       have H1 : (spec_Check.j2 k2 a1 x5_2 t207 x7_2 true) = some r := b2_
       replace H := H1; clear H1
       have H' := am H
       clear H
       have p20 : 0 ≤ (x7_2 : Int) := of_decide_eq_true ad
       have q20 : x7_2 < (a1.size : Int) := of_decide_eq_true ad
       have hx20 := bt_at a1 x7_2; replace p20 := eq_true p20; replace q20 := eq_true q20
       go_wp2_with (first | ((with_reducible refine gate_callee (f := 21) rfl ?_); refine goesL_ (some 31) rfl rfl Tryz.func21 (by kernel_rfl) rfl #[.int .u8 (bt a1 x7_2)] rfl mq ?_; (with_reducible refine (spec_l4Letter.calls (bt a1 x7_2) false _ A21.out).mono ?_); rintro e w' ⟨rfl, ⟨nd, rfl⟩⟩; refine ⟨_, rfl, ?_⟩))
       go_meet
       case rel => exact ⟨_, (true), sq, H', ⟨b43_⟩, ⟨rq HO_5.out⟩, ⟨vq HO_6.out⟩, ⟨bq BK202.out⟩, ⟨bel1 GE202.out⟩⟩
      case rest =>
       clear HC18; (try clear c1); (try clear c2); (try clear p2); (try clear q2); (try clear hx2); (try clear c6); (try clear p6); (try clear c8); (try clear c13); (try clear c17); (try clear c17b0); (try clear c19); (try clear c19b0); (try clear c20); (try clear p20); (try clear q20); (try clear hx20); (try clear c21); (try clear c22); (try clear c23); (try clear c23b0); (try clear c25); (try clear c25b0); (try clear c26); (try clear c26b0); (try clear p27); (try clear q27); (try clear hx27); (try clear hcz11_0); (try clear hcz11_1); (try clear hcz15_0); (try clear hcz15_1); (try clear hcz9_0); (try clear hcz9_1); (try clear hfz11_0); (try clear hfz11_1); (try clear hfz15_0); (try clear hfz15_1); (try clear hfz9_0); (try clear hfz9_1); (try clear p2); (try clear p20); (try clear p27); (try clear q20); (try clear q27); obtain ⟨kq, x43_17, rfl, HA, HJ17, HO_5, HO_6, BK202, HB⟩ := hcut
       cases kq with
       | zero => exact absurd HA.out (by simp [spec_Check.j2])
       | succ kj17 =>
        have H := HA.out; clear HA
        simp only [spec_Check.j2] at H
        by_cases c29 : x43_17 = true
        ·subst c29
         have H1 : (spec_Check.l0 kj17 a1 x5_2 t207 (wrap64 (x7_2 + 1))) = some r := b8_
         replace H := H1; clear H1
         have H' := am H
         clear H; go_wp2
         go_roundg kj17
         case measure => have := HJ2.out; have := HK2.out; have := HJ17.out; omega
         case rel => exact ⟨(x5_2), (wrap64 (x7_2 + 1)), sq, H', ⟨by have := HJ2.out; have := HK2.out; have := HJ17.out; omega⟩, ⟨rq HO_5.out⟩, ⟨vq HO_6.out⟩, ⟨bq BK202.out⟩, ⟨bel1 GE202.out⟩⟩
        replace c29 := Bool.eq_false_iff.mpr c29; subst c29
        have H1 : (spec_Check.l1 kj17 a1 x5_2 t207 x7_2 x7_2) = some r := b2_
        replace H := H1; clear H1
        have HC30 := am H; clear H
        go_upto_block 2 with (fail)
        go_cut [8] (fun v8 wc => ∃ (kq : Nat) (x8_29 : Int), v8 = .int .i64 x8_29 ∧ Aside0 (spec_Check.j4 kq a1 x5_2 t207 x7_2 x8_29 = some r) ∧ Aside0 (kq ≤ kj17) ∧ Aside0 (Kd.R k43 43 wc w.heap.size (fun _ => True) u5 x5_2) ∧ Aside0 (Kd.V Kd.string 9 wc w.heap.size (fun k_ => some k_ ≠ (u5 : Value).ownBlock ∧ k_ ≠ gb202) v208 t207) ∧ Aside0 (wc.heap[gb202]? = some (.cells #[(.slice A0_0 l0_0.length c0_0), (.slice A0_1 l0_1.length c0_1)] 32 (0, 0))) ∧ Aside0 (Below w.heap.size w wc))
        case first =>
         have H := HC30.out; clear HC30
         have H' := am H
         clear H; go_wp2
         go_loopg [8] kj17 (fun kq v8 w' => ∃ (x8_4 : Int), v8 = .int .i64 x8_4 ∧ Aside0 (spec_Check.l1 kq a1 x5_2 t207 x7_2 x8_4 = some r) ∧ Aside0 (kq ≤ kj17) ∧ Aside0 (Kd.R k43 43 w' w.heap.size (fun _ => True) u5 x5_2) ∧ Aside0 (Kd.V Kd.string 9 w' w.heap.size (fun k_ => some k_ ≠ (u5 : Value).ownBlock ∧ k_ ≠ gb202) v208 t207) ∧ Aside0 (w'.heap[gb202]? = some (.cells #[(.slice A0_0 l0_0.length c0_0), (.slice A0_1 l0_1.length c0_1)] 32 (0, 0))) ∧ Aside0 (Below w.heap.size w w'))
         case atStart => exact ⟨(x7_2), sq, H', ⟨Nat.le_refl _⟩, ⟨rq HO_5.out⟩, ⟨vq HO_6.out⟩, ⟨bq BK202.out⟩, ⟨bel1 GE202.out⟩⟩
         case round =>
          clear H'; (try clear c1); (try clear c2); (try clear p2); (try clear q2); (try clear hx2); (try clear c6); (try clear p6); (try clear c8); (try clear c13); (try clear c17); (try clear c17b0); (try clear c19); (try clear c19b0); (try clear c20); (try clear p20); (try clear q20); (try clear hx20); (try clear c21); (try clear c22); (try clear c23); (try clear c23b0); (try clear c25); (try clear c25b0); (try clear c26); (try clear c26b0); (try clear p27); (try clear q27); (try clear hx27); (try clear c29); (try clear hcz11_0); (try clear hcz11_1); (try clear hcz15_0); (try clear hcz15_1); (try clear hcz9_0); (try clear hcz9_1); (try clear hfz11_0); (try clear hfz11_1); (try clear hfz15_0); (try clear hfz15_1); (try clear hfz9_0); (try clear hfz9_1); (try clear p2); (try clear p20); (try clear p27); (try clear p6); (try clear q2); (try clear q20); (try clear q27); obtain ⟨x8_4, rfl, HA, HK4, HO_5, HO_6, BK202, HB⟩ := hrel
          cases gk with
          | zero => exact absurd HA.out (by simp [spec_Check.l1])
          | succ k4 =>
           have H := HA.out; clear HA
           simp only [spec_Check.l1] at H
           by_cases c31 : x8_4 < (a1.size : Int)
           ·rw [if_pos c31] at H; have c31b0 := decide_eq_true c31; clear c31
            (first | rw [c31b0] | (simp only [i64_w, i32_w]; rw [c31b0]) | skip)
            replace H := it H; obtain ⟨c32b0, H⟩ := H; replace H := bs H; obtain ⟨t212, A340, H⟩ := H; replace H : (if t212 = true then (spec_Check.l1 k4 a1 x5_2 t207 x7_2 (wrap64 (x8_4 + 1))) else (spec_Check.j4 k4 a1 x5_2 t207 x7_2 x8_4)) = some r := H; have A34 := Aside0.mk A340; clear A340
            by_cases c35 : t212 = true
            ·subst c35
             have H1 : (spec_Check.l1 k4 a1 x5_2 t207 x7_2 (wrap64 (x8_4 + 1))) = some r := b8_
             replace H := H1; clear H1
             have H' := am H
             clear H
             have p33 : 0 ≤ (x8_4 : Int) := of_decide_eq_true ad
             have q33 : x8_4 < (a1.size : Int) := of_decide_eq_true ad
             have hx33 := bt_at a1 x8_4; replace p33 := eq_true p33; replace q33 := eq_true q33
             go_wp2_with (first | (go_at_call 21; (with_reducible refine (spec_l4Letter.calls (bt a1 x8_4) true _ A34.out).mono ?_); rintro e w' ⟨rfl, ⟨nd, rfl⟩⟩))
             go_roundg k4
             case measure => have := HJ2.out; have := HK2.out; have := HJ17.out; have := HK4.out; omega
             case rel => exact ⟨(wrap64 (x8_4 + 1)), sq, H', ⟨by have := HJ2.out; have := HK2.out; have := HJ17.out; have := HK4.out; omega⟩, ⟨rq HO_5.out⟩, ⟨vq HO_6.out⟩, ⟨bq BK202.out⟩, ⟨bel1 GE202.out⟩⟩
            replace c35 := Bool.eq_false_iff.mpr c35; subst c35
            have H1 : (spec_Check.j4 k4 a1 x5_2 t207 x7_2 x8_4) = some r := b2_
            replace H := H1; clear H1
            have H' := am H
            clear H
            have p33 : 0 ≤ (x8_4 : Int) := of_decide_eq_true ad
            have q33 : x8_4 < (a1.size : Int) := of_decide_eq_true ad
            have hx33 := bt_at a1 x8_4; replace p33 := eq_true p33; replace q33 := eq_true q33
            go_wp2_with (first | (go_at_call 21; (with_reducible refine (spec_l4Letter.calls (bt a1 x8_4) false _ A34.out).mono ?_); rintro e w' ⟨rfl, ⟨nd, rfl⟩⟩))
            go_meet
            case rel => exact ⟨_, (x8_4), sq, H', ⟨by have := HJ2.out; have := HK2.out; have := HJ17.out; have := HK4.out; first | omega | exact Nat.le_refl _⟩, ⟨rq HO_5.out⟩, ⟨vq HO_6.out⟩, ⟨bq BK202.out⟩, ⟨bel1 GE202.out⟩⟩
           rw [if_neg c31] at H; have c31b0 := decide_eq_false c31; clear c31
           (first | rw [c31b0] | (simp only [i64_w, i32_w]; rw [c31b0]) | skip)
           have H' := am H
           clear H; go_wp2
           go_meet
           case rel => exact ⟨_, (x8_4), sq, H', ⟨by have := HJ2.out; have := HK2.out; have := HJ17.out; have := HK4.out; first | omega | exact Nat.le_refl _⟩, ⟨rq HO_5.out⟩, ⟨vq HO_6.out⟩, ⟨bq BK202.out⟩, ⟨bel1 GE202.out⟩⟩
        case rest =>
         clear HC30; (try clear c1); (try clear c2); (try clear p2); (try clear q2); (try clear hx2); (try clear c3); (try clear p3); (try clear q3); (try clear hx3); (try clear c6); (try clear p6); (try clear c8); (try clear c13); (try clear c17); (try clear c17b0); (try clear c19); (try clear c19b0); (try clear c20); (try clear p20); (try clear q20); (try clear hx20); (try clear c21); (try clear c22); (try clear c23); (try clear c23b0); (try clear c25); (try clear c25b0); (try clear c26); (try clear c26b0); (try clear p27); (try clear q27); (try clear hx27); (try clear c29); (try clear c31); (try clear c31b0); (try clear c32); (try clear c32b0); (try clear p33); (try clear q33); (try clear hx33); (try clear c35); (try clear hcz11_0); (try clear hcz11_1); (try clear hcz15_0); (try clear hcz15_1); (try clear hcz9_0); (try clear hcz9_1); (try clear hfz11_0); (try clear hfz11_1); (try clear hfz15_0); (try clear hfz15_1); (try clear hfz9_0); (try clear hfz9_1); (try clear p2); (try clear p20); (try clear p27); (try clear p33); (try clear p6); (try clear q2); (try clear q20); (try clear q27); (try clear q33); obtain ⟨kq, x8_29, rfl, HA, HJ29, HO_5, HO_6, BK202, HB⟩ := hcut
         cases kq with
         | zero => exact absurd HA.out (by simp [spec_Check.j4])
         | succ kj29 =>
          have H := HA.out; clear HA
          simp only [spec_Check.j4] at H
          replace H := ip H; obtain ⟨c36, H⟩ := H; have c36b0 := eq_true c36
          have c36b1 : decide (0 ≤ x7_2) = true := decide_eq_true c36
          clear c36
          replace H := ip H; obtain ⟨c37, H⟩ := H; have c37b0 := eq_true c37
          have c37b1 : decide (x7_2 ≤ x8_29) = true := decide_eq_true c37
          clear c37
          replace H := ip H; obtain ⟨c38, H⟩ := H; have c38b0 := eq_true c38
          have c38b1 : decide (x8_29 ≤ (a1.size : Int)) = true := decide_eq_true c38
          clear c38; replace H := bs H; obtain ⟨t213, A390, H⟩ := H; replace H : ((spec_l2In.f kj29 t207 t213).bind fun t214 => (if t214 = true then (spec_Check.l0 kj29 a1 x5_2 t207 (wrap64 (x7_2 + 1))) else (if x5_2.length < 5864062014805 then (spec_Check.l0 kj29 a1 (x5_2 ++ [(⟨t213, x7_2⟩ : S43)]) t207 (wrap64 (x7_2 + 1))) else (none)))) = some r := H; have A39 := Aside0.mk A390; clear A390; replace H := bs H; obtain ⟨t214, A400, H⟩ := H; replace H : (if t214 = true then (spec_Check.l0 kj29 a1 x5_2 t207 (wrap64 (x7_2 + 1))) else (if x5_2.length < 5864062014805 then (spec_Check.l0 kj29 a1 (x5_2 ++ [(⟨t213, x7_2⟩ : S43)]) t207 (wrap64 (x7_2 + 1))) else (none))) = some r := H; have A40 := Aside0.mk A400; clear A400
          by_cases c41 : t214 = true
          ·subst c41
           have H1 : (spec_Check.l0 kj29 a1 x5_2 t207 (wrap64 (x7_2 + 1))) = some r := b8_
           replace H := H1; clear H1
           have H' := am H
           clear H
           go_wp2_with (first | ((with_reducible refine gate_callee (f := 22) rfl ?_); refine goesL_ (some 61) rfl rfl Tryz.func22 (by kernel_rfl) rfl #[.string (a1.extract (x7_2 : Int).toNat (x8_29 : Int).toNat)] rfl mq ?_; (with_reducible refine (spec_l4Small.calls (a1.extract (x7_2 : Int).toNat (x8_29 : Int).toNat) t213 _ A39.out).mono ?_); rintro e w42 ⟨rfl, hb⟩; refine ⟨_, rfl, ?_⟩; replace HO_5 := am (Kd.R_below (rq HO_5.out) hb); replace HO_6 := am (Kd.V_below (vq HO_6.out) hb); replace BK202 := am (blk_below (g := gb202) (o := .cells #[.slice A0_0 l0_0.length c0_0, .slice A0_1 l0_1.length c0_1] 32 (0, 0)) (bq BK202.out) hb); replace HB := am (below_step (bel1 GE202.out) hb); (try clear hb); (try clear hb2); (try clear hk); (try clear hi); obtain ⟨Ao43, co43, eo43⟩ := Kd.V_slice HO_6.out; subst eo43) | ((with_reducible refine gate_callee (f := 23) rfl ?_); refine goesL_ (some 64) rfl rfl Tryz.func23 (by kernel_rfl) rfl #[.slice Ao43 t207.length co43, .string t213] rfl mq ?_; (with_reducible refine (spec_l2In.calls kj29 _ _ t207 t213 true _ ?side1 ?side2 A40.out).mono ?_); (case side1 => exact cq (Kd.V_reads' HO_6.out).2.2); (case side2 => exact (Kd.V_reads' HO_6.out).2.1); rintro e w' ⟨rfl, ⟨nd, rfl⟩⟩; refine ⟨_, rfl, ?_⟩))
           go_roundg kj29
           case measure => have := HJ2.out; have := HK2.out; have := HJ17.out; have := HJ29.out; omega
           case rel => exact ⟨(x5_2), (wrap64 (x7_2 + 1)), sq, H', ⟨by have := HJ2.out; have := HK2.out; have := HJ17.out; have := HJ29.out; omega⟩, ⟨rq HO_5.out⟩, ⟨vq HO_6.out⟩, ⟨bq BK202.out⟩, ⟨bel1 GE202.out⟩⟩
          replace c41 := Bool.eq_false_iff.mpr c41; subst c41
          have H1 : (if x5_2.length < 5864062014805 then (spec_Check.l0 kj29 a1 (x5_2 ++ [(⟨t213, x7_2⟩ : S43)]) t207 (wrap64 (x7_2 + 1))) else (none)) = some r := b2_
          replace H := H1; clear H1
          replace H := ip H; obtain ⟨c44, H⟩ := H; have LMc44 := Aside0.mk c44; clear c44; obtain ⟨y215, hy215⟩ : ∃ y_ : List (S43), y_ = (x5_2 ++ [(⟨t213, x7_2⟩ : S43)]) := ⟨_, rfl⟩
          replace H : (spec_Check.l0 kj29 a1 y215 t207 (wrap64 (x7_2 + 1))) = some r := by first | (rw [hy215]; with_reducible exact H) | (have H2_ := bm H; rw [hy215]; with_reducible exact H2_) | (with_reducible exact bm H) | with_reducible exact H | (rw [hy215]; exact H) | exact H
          have Ny215 := am hy215; clear hy215
          have H' := am H
          clear H
          go_wp2_with (first | ((with_reducible refine gate_callee (f := 22) rfl ?_); refine goesL_ (some 61) rfl rfl Tryz.func22 (by kernel_rfl) rfl #[.string (a1.extract (x7_2 : Int).toNat (x8_29 : Int).toNat)] rfl mq ?_; (with_reducible refine (spec_l4Small.calls (a1.extract (x7_2 : Int).toNat (x8_29 : Int).toNat) t213 _ A39.out).mono ?_); rintro e w45 ⟨rfl, hb⟩; refine ⟨_, rfl, ?_⟩; replace HO_5 := am (Kd.R_below (rq HO_5.out) hb); replace HO_6 := am (Kd.V_below (vq HO_6.out) hb); replace BK202 := am (blk_below (g := gb202) (o := .cells #[.slice A0_0 l0_0.length c0_0, .slice A0_1 l0_1.length c0_1] 32 (0, 0)) (bq BK202.out) hb); replace HB := am (below_step (bel1 GE202.out) hb); (try clear hb); (try clear hb2); (try clear hk); (try clear hi); obtain ⟨Ao46, co46, eo46⟩ := Kd.V_slice HO_6.out; subst eo46) | ((with_reducible refine gate_callee (f := 23) rfl ?_); refine goesL_ (some 64) rfl rfl Tryz.func23 (by kernel_rfl) rfl #[.slice Ao46 t207.length co46, .string t213] rfl mq ?_; (with_reducible refine (spec_l2In.calls kj29 _ _ t207 t213 false _ ?side1 ?side2 A40.out).mono ?_); (case side1 => exact cq (Kd.V_reads' HO_6.out).2.2); (case side2 => exact (Kd.V_reads' HO_6.out).2.1); rintro e w' ⟨rfl, ⟨nd, rfl⟩⟩; refine ⟨_, rfl, ?_⟩) | ((with_reducible refine gate_builtin (b := .append) (xs := #[.tmp 66, .tmp 70]) rfl ?_); (try (refine gate_guard (by rfl) ?_; dsimp only)); at_builtin; refine Kd.R_append k43 (w0 := w) w.heap.size rfl (.tmp 66) (.tmp 70) 27 43 (.agg #[(.string ⟨#[]⟩), (.int .i64 0)]) 24 rfl Tryz.underlying27 info43 rfl (by decide) (by omega) u5 x5_2 (⟨t213, x7_2⟩ : S43) [.string t213, .int .i64 x7_2] (fun _ => True) (fun _ => False) rfl rfl ?aP (fun _ hk => hk.elim) ?aF ?aO ?aB ?aS ?aL ?_; (case aP => exact k43_mkM _ _ _ (⟨t213, x7_2⟩ : S43)); (case aB => exact (bel1 GE202.out)); (case aF => exact (fun _ _ => trivial)); (case aO => exact (rq HO_5.out)); (case aS => exact (below_size (bel1 GE202.out))); (case aL => have := LMc44.out; omega); intro v216 w47 ho hb hg hat; rw [← Ny215.out] at ho; replace HO_6 := am (Kd.V_afterv (ok := (fun k_ => k_ ≠ gb202)) (vq (Kd.V_mono HO_6.out (fun _ hk => ⟨hk.2, hk.1⟩))) hg hat); replace BK202 := am (blk_grown (g := gb202) (o := .cells #[.slice A0_0 l0_0.length c0_0, .slice A0_1 l0_1.length c0_1] 32 (0, 0)) (bq BK202.out) hg (Kd.R_ne HO_5.out BK202.out (by decide))); replace HB := am (hb); have HO217 := am (ho); clear HO_5; clear ho hb hg hat))
          go_roundg kj29
          case measure => have := HJ2.out; have := HK2.out; have := HJ17.out; have := HJ29.out; omega
          case rel => exact ⟨(y215), (wrap64 (x7_2 + 1)), sq, H', ⟨by have := HJ2.out; have := HK2.out; have := HJ17.out; have := HJ29.out; omega⟩, ⟨rq HO217.out⟩, ⟨vq (Kd.V_mono HO_6.out (fun _ hk => ⟨hk.2, hk.1⟩))⟩, ⟨bq BK202.out⟩, ⟨bel1 GE202.out⟩⟩
     rw [if_neg c17] at H; have c17b0 := decide_eq_false c17; clear c17; obtain rfl := Option.some.inj H; go_wp2; go_ret
     exact ⟨_, eq_, b22_, bel1 GE202.out⟩

/-! ### laws_toAffix: function 50 -/
def laws_toAffix.f (a0_0 : ByteArray) (a0_1 : Bool) (a0_2 : ByteArray) (a0_3 : ByteArray) (a0_4 : ByteArray) : Option (ByteArray × Bool × ByteArray × ByteArray × ByteArray) := some (a0_0, a0_1, a0_2, a0_3, a0_4)
theorem laws_toAffix.calls (a0_0 : ByteArray) (a0_1 : Bool) (a0_2 : ByteArray) (a0_3 : ByteArray) (a0_4 : ByteArray) (r1 : ByteArray) (r2 : Bool) (r3 : ByteArray) (r4 : ByteArray) (r5 : ByteArray) (w : World) (h : laws_toAffix.f a0_0 a0_1 a0_2 a0_3 a0_4 = some (r1, r2, r3, r4, r5)) :
  Calls Tryz.prog 50 #[.agg #[.string a0_0, .bool a0_1, .string a0_2, .string a0_3, .string a0_4]] w fun e w' => e = .returned (.agg #[.string r1, .bool r2, .string r3, .string r4, .string r5]) ∧ Below w.heap.size w w' := by
 have hu73 := Tryz.underlying73; have hu82 := Tryz.underlying82; have HB := am (Below.refl w.heap.size w)
 have H : (some (a0_0, a0_1, a0_2, a0_3, a0_4)) = some (r1, r2, r3, r4, r5) := h
 clear h
 simp only [Option.some.injEq, Prod.mk.injEq] at H
 obtain ⟨rfl, rfl, rfl, rfl, rfl⟩ := H; go_enter Tryz.func50, Tryz.ntmps50
 go_wp2_with (first | ((with_reducible refine gate_dst (N := 1) rfl ?_); refine bx 1 (cs := #[.string a0_0, .bool a0_1, .string a0_2, .string a0_3, .string a0_4]) (t := 73) ?_; intro gb218 hg w2 hbox hb; have BK218 := am (hbox); have GW218 := am ((b0_ : w.heap.size ≤ gb218)); have GE218 := am ((b0_ : w.heap.size ≤ gb218)); replace HB := am (below_step bel hb); clear hb hbox hg) | ((with_reducible refine gate_dst (N := 2) rfl ?_); refine bx 2 (cs := #[.string (⟨#[]⟩ : ByteArray), .bool false, .string (⟨#[]⟩ : ByteArray), .string (⟨#[]⟩ : ByteArray), .string (⟨#[]⟩ : ByteArray)]) (t := 82) ?_; intro gb219 hg w3 hbox hb; have BK219 := am (hbox); have GW219 := am ((by rw [hg]; exact (below_size (bel1 GE218.out)) : w.heap.size ≤ gb219)); have GE219 := am ((by rw [hg]; exact (below_size (bel1 GE218.out)) : w.heap.size ≤ gb219)); replace HB := am (below_step (bel1 GE218.out) hb); have NB218_219 := am ((b31_ : gb218 ≠ gb219)); have NB219_218 := am ((b32_ : gb219 ≠ gb218)); replace BK218 := am (blk_below (g := gb218) (o := .cells #[.string a0_0, .bool a0_1, .string a0_2, .string a0_3, .string a0_4] 73 (0, 0)) (bq BK218.out) hb); clear hb hbox hg) | ((with_reducible refine gate_dst (N := 3) rfl ?_); refine bx 3 (cs := #[.string (⟨#[]⟩ : ByteArray), .bool false, .string (⟨#[]⟩ : ByteArray), .string (⟨#[]⟩ : ByteArray), .string (⟨#[]⟩ : ByteArray)]) (t := 82) ?_; intro gb220 hg w4 hbox hb; have BK220 := am (hbox); have GW220 := am ((by rw [hg]; exact (below_size (bel2 GE218.out GE219.out)) : w.heap.size ≤ gb220)); have GE220 := am ((by rw [hg]; exact (below_size (bel2 GE218.out GE219.out)) : w.heap.size ≤ gb220)); replace HB := am (below_step (bel2 GE218.out GE219.out) hb); have NB218_220 := am ((b31_ : gb218 ≠ gb220)); have NB220_218 := am ((b32_ : gb220 ≠ gb218)); replace BK218 := am (blk_below (g := gb218) (o := .cells #[.string a0_0, .bool a0_1, .string a0_2, .string a0_3, .string a0_4] 73 (0, 0)) (bq BK218.out) hb); have NB219_220 := am ((by rw [hg]; exact Nat.ne_of_lt (blk_lt (g := gb219) (o := .cells #[.string (⟨#[]⟩ : ByteArray), .bool false, .string (⟨#[]⟩ : ByteArray), .string (⟨#[]⟩ : ByteArray), .string (⟨#[]⟩ : ByteArray)] 82 (0, 0)) (bq BK219.out)) : gb219 ≠ gb220)); have NB220_219 := am ((by rw [hg]; exact Nat.ne_of_gt (blk_lt (g := gb219) (o := .cells #[.string (⟨#[]⟩ : ByteArray), .bool false, .string (⟨#[]⟩ : ByteArray), .string (⟨#[]⟩ : ByteArray), .string (⟨#[]⟩ : ByteArray)] 82 (0, 0)) (bq BK219.out)) : gb220 ≠ gb219)); replace BK219 := am (blk_below (g := gb219) (o := .cells #[.string (⟨#[]⟩ : ByteArray), .bool false, .string (⟨#[]⟩ : ByteArray), .string (⟨#[]⟩ : ByteArray), .string (⟨#[]⟩ : ByteArray)] 82 (0, 0)) (bq BK219.out) hb); clear hb hbox hg; have hnb5 := NB218_219.out; have hnc5 := NB219_218.out; have hnb6 := NB218_220.out; have hnc6 := NB220_218.out; have hcz7_0 := bc BK218.out 0; have hcz7_1 := bc BK218.out 1; have hcz7_2 := bc BK218.out 2; have hcz7_3 := bc BK218.out 3; have hcz7_4 := bc BK218.out 4; have hfz7_0 := bf BK218.out 0; have hfz7_1 := bf BK218.out 1; have hfz7_2 := bf BK218.out 2; have hfz7_3 := bf BK218.out 3; have hfz7_4 := bf BK218.out 4; have hnb8 := NB220_219.out; have hnc8 := NB219_220.out; have hcz9_0 := bc BK220.out 0; have hcz9_1 := bc BK220.out 1; have hcz9_2 := bc BK220.out 2; have hcz9_3 := bc BK220.out 3; have hcz9_4 := bc BK220.out 4; have hfz9_0 := bf BK220.out 0; have hfz9_1 := bf BK220.out 1; have hfz9_2 := bf BK220.out 2; have hfz9_3 := bf BK220.out 3; have hfz9_4 := bf BK220.out 4; have hcz10_0 := bc BK219.out 0; have hcz10_1 := bc BK219.out 1; have hcz10_2 := bc BK219.out 2; have hcz10_3 := bc BK219.out 3; have hcz10_4 := bc BK219.out 4; have hfz10_0 := bf BK219.out 0; have hfz10_1 := bf BK219.out 1; have hfz10_2 := bf BK219.out 2; have hfz10_3 := bf BK219.out 3; have hfz10_4 := bf BK219.out 4))
 refine bodyPost_ret (results_cell_row rfl _ _ gb219 82 #[.string a0_0, .bool a0_1, .string a0_2, .string a0_3, .string a0_4] (0, 0) _ rfl (by (with_reducible repeat (first | refine blk_drewN ?_ _ | refine blk_drew ?_ | refine blk_alloc ?_ _)); refine blk_put (cs := #[.string a0_0, .bool a0_1, .string a0_2, .string a0_3, .string (⟨#[]⟩ : ByteArray)]) ?_ 4 _ rfl; (with_reducible repeat (first | refine blk_drewN ?_ _ | refine blk_drew ?_ | refine blk_alloc ?_ _)); refine blk_put (cs := #[.string a0_0, .bool a0_1, .string a0_2, .string (⟨#[]⟩ : ByteArray), .string (⟨#[]⟩ : ByteArray)]) ?_ 3 _ rfl; (with_reducible repeat (first | refine blk_drewN ?_ _ | refine blk_drew ?_ | refine blk_alloc ?_ _)); refine blk_put (cs := #[.string a0_0, .bool a0_1, .string (⟨#[]⟩ : ByteArray), .string (⟨#[]⟩ : ByteArray), .string (⟨#[]⟩ : ByteArray)]) ?_ 2 _ rfl; (with_reducible repeat (first | refine blk_drewN ?_ _ | refine blk_drew ?_ | refine blk_alloc ?_ _)); refine blk_put (cs := #[.string a0_0, .bool false, .string (⟨#[]⟩ : ByteArray), .string (⟨#[]⟩ : ByteArray), .string (⟨#[]⟩ : ByteArray)]) ?_ 1 _ rfl; (with_reducible repeat (first | refine blk_drewN ?_ _ | refine blk_drew ?_ | refine blk_alloc ?_ _)); refine blk_put (cs := #[.string (⟨#[]⟩ : ByteArray), .bool false, .string (⟨#[]⟩ : ByteArray), .string (⟨#[]⟩ : ByteArray), .string (⟨#[]⟩ : ByteArray)]) ?_ 0 _ rfl; (with_reducible repeat (first | refine blk_drewN ?_ _ | refine blk_drew ?_ | refine blk_alloc ?_ _)); refine blk_far ?_ NB219_220.out _; (with_reducible repeat (first | refine blk_drewN ?_ _ | refine blk_drew ?_ | refine blk_alloc ?_ _)); refine blk_far ?_ NB219_220.out _; (with_reducible repeat (first | refine blk_drewN ?_ _ | refine blk_drew ?_ | refine blk_alloc ?_ _)); refine blk_far ?_ NB219_220.out _; (with_reducible repeat (first | refine blk_drewN ?_ _ | refine blk_drew ?_ | refine blk_alloc ?_ _)); refine blk_far ?_ NB219_220.out _; (with_reducible repeat (first | refine blk_drewN ?_ _ | refine blk_drew ?_ | refine blk_alloc ?_ _)); refine blk_far ?_ NB219_220.out _; (with_reducible repeat (first | refine blk_drewN ?_ _ | refine blk_drew ?_ | refine blk_alloc ?_ _)); exact BK219.out) Tryz.underlying82 rfl (by kernel_rfl)) rfl ?_
 exact ⟨eq_, bel3 GE218.out GE219.out GE220.out⟩
-- shrunk

/-! ### laws_toAffixS: function 24 -/
def laws_toAffixS.l0 : Nat → List (S73) → List (S82) → Int → Option ((List (S82)))
 | 0, _, _, _ => none
 | k + 1, x0, x3, x4 => if x4 < (x0.length : Int) then (if 0 ≤ x4 then ((laws_toAffix.f ((rd_T73 x0 x4).f0) ((rd_T73 x0 x4).f1) ((rd_T73 x0 x4).f2) ((rd_T73 x0 x4).f3) ((rd_T73 x0 x4).f4)).bind fun bt225 => (if x4 < (x3.length : Int) then (laws_toAffixS.l0 k x0 (x3.set (x4 : Int).toNat (⟨bt225.1, bt225.2.1, bt225.2.2.1, bt225.2.2.2.1, bt225.2.2.2.2⟩ : S82)) (wrap64 (x4 + 1))) else (none))) else (none)) else (some x3)
def laws_toAffixS.f (k : Nat) (l0 : List (S73)) : Option ((List (S82))) := if 0 ≤ (l0.length : Int) then (if l0.length ≤ 3909374676536 then (laws_toAffixS.l0 k l0 (List.replicate l0.length z82) 0) else (none)) else (none)
theorem laws_toAffixS.calls (k : Nat) (A0 : Option Addr) (c0 : Nat) (l0 : List (S73)) (r : List (S82)) (w : World) (hr0 : Kd.C k73 w A0 l0.length l0) (hc0 : l0.length ≤ c0) (h : laws_toAffixS.f k l0 = some r) :
  Calls Tryz.prog 24 #[.slice A0 l0.length c0] w fun e w' => ∃ v0_ : Value, e = .returned (v0_) ∧ Kd.R k82 82 w' w.heap.size (fun _ => True) v0_ r ∧ Below w.heap.size w w' := by
 have hu73 := Tryz.underlying73; have hu82 := Tryz.underlying82; have HR0 := am hr0; have HC0 := am hc0; clear hr0 hc0; have HB := am (Below.refl w.heap.size w)
 have H : (if 0 ≤ (l0.length : Int) then (if l0.length ≤ 3909374676536 then (laws_toAffixS.l0 k l0 (List.replicate l0.length z82) 0) else (none)) else (none)) = some r := h
 clear h
 replace H := ip H; obtain ⟨c2, H⟩ := H; have c2b0 := eq_true c2
 have c2b1 : decide (0 ≤ (l0.length : Int)) = true := decide_eq_true c2
 clear c2
 replace H := ip H; obtain ⟨c3, H⟩ := H; have c3b0 := eq_true c3
 have c3b1 : decide (l0.length ≤ 3909374676536) = true := decide_eq_true c3
 clear c3; obtain ⟨y221, hy221⟩ : ∃ y_ : List (S82), y_ = (List.replicate l0.length z82) := ⟨_, rfl⟩
 replace H : (laws_toAffixS.l0 k l0 y221 0) = some r := by first | (rw [hy221]; with_reducible exact H) | (have H2_ := bm H; rw [hy221]; with_reducible exact H2_) | (with_reducible exact bm H) | with_reducible exact H | (rw [hy221]; exact H) | exact H
 have Ny221 := am hy221; clear hy221
 have H' := am H
 clear H; go_enter Tryz.func24, Tryz.ntmps24
 go_wp2_with (first | ((with_reducible refine gate_dst (N := 7) rfl ?_); refine Kd.R_make k82 _ 82 rfl (N := 7) rfl 29 _ _ rfl (l0.length : Int) rfl rfl Tryz.underlying29 (.agg #[(.string ⟨#[]⟩), (.bool false), (.string ⟨#[]⟩), (.string ⟨#[]⟩), (.string ⟨#[]⟩)]) 72 info82 rfl (by decide) (by omega) z82 (ok := fun _ => True) (okp := fun _ => True) (k82_mkM _ _ _ z82 ) (fun _ hk => hk) trivial (of_decide_eq_true ad) (Nat.le_trans (Nat.mul_le_mul_right _ (of_decide_eq_true ad : (l0.length : Int).toNat ≤ 3909374676536)) (by omega)) (Below.refl _ _) (Nat.le_refl _) ?_; intro v222 w4 ho5 hb hg_ hnew_; clear hg_ hnew_; (first | rw [← Ny221.out] at ho5 | (simp only [Int.reduceToNat] at ho5; rw [← Ny221.out] at ho5) | (simp only [Int.toNat_natCast] at ho5; rw [← Ny221.out] at ho5)); have HO223 := am (Kd.R_lower ho5 (below_size bel)); replace HB := am (below_step bel hb); clear hb ho5))
 go_loopg [4] k (fun kq v4 w' => ∃ (x3_1 : List (S82)) (x4_1 : Int), v4 = .int .i64 x4_1 ∧ Aside0 (laws_toAffixS.l0 kq l0 x3_1 x4_1 = some r) ∧ Aside0 (kq ≤ k) ∧ Aside0 (Kd.R k82 82 w' w.heap.size (fun _ => True) v222 x3_1) ∧ Aside0 (Below w.heap.size w w'))
 case atStart => exact ⟨(y221), (0), sq, H', ⟨Nat.le_refl _⟩, ⟨rq HO223.out⟩, ⟨bel⟩⟩
 case round =>
  clear H'; (try clear c2); (try clear c2b0); (try clear c2b1); (try clear p2); (try clear c3); (try clear c3b0); (try clear c3b1); obtain ⟨x3_1, x4_1, rfl, HA, HK1, HO_3, HB⟩ := hrel
  cases gk with
  | zero => exact absurd HA.out (by simp [laws_toAffixS.l0])
  | succ k1 =>
   have H := HA.out; clear HA
   simp only [laws_toAffixS.l0] at H
   by_cases c6 : x4_1 < (l0.length : Int)
   ·rw [if_pos c6] at H; have c6b0 := decide_eq_true c6; clear c6
    replace H := it H; obtain ⟨c7b0, H⟩ := H; replace H := bs H; obtain ⟨⟨t225, t226, t227, t228, t229⟩, A80, H⟩ := H; replace H : (if x4_1 < (x3_1.length : Int) then (laws_toAffixS.l0 k1 l0 (x3_1.set (x4_1 : Int).toNat (⟨t225, t226, t227, t228, t229⟩ : S82)) (wrap64 (x4_1 + 1))) else (none)) = some r := H; have A8 := Aside0.mk A80; clear A80
    replace H := it H; obtain ⟨c9b0, H⟩ := H; obtain ⟨y230, hy230⟩ : ∃ y_ : List (S82), y_ = (x3_1.set (x4_1 : Int).toNat (⟨t225, t226, t227, t228, t229⟩ : S82)) := ⟨_, rfl⟩
    replace H : (laws_toAffixS.l0 k1 l0 y230 (wrap64 (x4_1 + 1))) = some r := by first | (rw [hy230]; with_reducible exact H) | (have H2_ := bm H; rw [hy230]; with_reducible exact H2_) | (with_reducible exact bm H) | with_reducible exact H | (rw [hy230]; exact H) | exact H
    have Ny230 := am hy230; clear hy230
    have H' := am H
    clear H
    have p224 : 0 ≤ (x4_1 : Int) := of_decide_eq_true ad
    have q224 : x4_1 < (l0.length : Int) := of_decide_eq_true ad
    obtain ⟨ad224, e224, hx224_0, hx224_1, hx224_2, hx224_3, hx224_4⟩ := at_T73 HR0.out x4_1 p224 q224
    cases e224
    replace hx224_0 := kp HB.out hx224_0; replace hx224_1 := kp HB.out hx224_1; replace hx224_2 := kp HB.out hx224_2; replace hx224_3 := kp HB.out hx224_3; replace hx224_4 := kp HB.out hx224_4; replace p224 := eq_true p224; replace q224 := eq_true q224
    go_wp2_with (first | ((with_reducible refine gate_callee (f := 50) rfl ?_); refine goesL_ (some 20) rfl rfl Tryz.func50 (by kernel_rfl) rfl #[.agg #[.string ((rd_T73 l0 x4_1).f0), .bool ((rd_T73 l0 x4_1).f1), .string ((rd_T73 l0 x4_1).f2), .string ((rd_T73 l0 x4_1).f3), .string ((rd_T73 l0 x4_1).f4)]] rfl mq ?_; (with_reducible refine (laws_toAffix.calls ((rd_T73 l0 x4_1).f0) ((rd_T73 l0 x4_1).f1) ((rd_T73 l0 x4_1).f2) ((rd_T73 l0 x4_1).f3) ((rd_T73 l0 x4_1).f4) t225 t226 t227 t228 t229 _ A8.out).mono ?_); rintro e w11 ⟨rfl, hb⟩; refine ⟨_, rfl, ?_⟩; replace HO_3 := am (Kd.R_below (rq HO_3.out) hb); replace HB := am (below_step bel hb); (try clear hb); (try clear hb2); (try clear hk); (try clear hi); have p10 : 0 ≤ (x4_1 : Int) := of_decide_eq_true ad; have q10 : (x4_1 : Int) < ((x3_1.length : Int) : Int) := of_decide_eq_true ad; obtain ⟨go10, co10, eo10, gb10, gl10, cl10, HG10⟩ := Kd.R_form HO_3.out (by omega); (first | cases eo10 | (injection eo10 with ea_ en_ ec_; (first | subst ea_ | (injection ea_ with ea_; subst ea_)); subst ec_; clear en_)); have GB10 := Aside0.mk gb10; have GG10 := am HG10; clear gb10 gl10 HG10; obtain ⟨ce10, hcl10, hM10, hcc10, hfr10⟩ := Kd.R_elem HO_3.out z82 (x4_1 : Int) p10 q10; obtain rfl := k82_openM hM10; have hx10_0 : w11.cell? ⟨go10, (x4_1 : Int).toNat * 5, none⟩ = some (.string ((rd_T82 x3_1 x4_1).f0)) := hcc10 0 _ rfl; have hx10_1 : w11.cell? ⟨go10, (x4_1 : Int).toNat * 5 + 1, none⟩ = some (.bool ((rd_T82 x3_1 x4_1).f1)) := hcc10 1 _ rfl; have hx10_2 : w11.cell? ⟨go10, (x4_1 : Int).toNat * 5 + 2, none⟩ = some (.string ((rd_T82 x3_1 x4_1).f2)) := hcc10 2 _ rfl; have hx10_3 : w11.cell? ⟨go10, (x4_1 : Int).toNat * 5 + 3, none⟩ = some (.string ((rd_T82 x3_1 x4_1).f3)) := hcc10 3 _ rfl; have hx10_4 : w11.cell? ⟨go10, (x4_1 : Int).toNat * 5 + 4, none⟩ = some (.string ((rd_T82 x3_1 x4_1).f4)) := hcc10 4 _ rfl; have hf10_0 : w11.frozen? ⟨go10, (x4_1 : Int).toNat * 5, none⟩ = false := hfr10 0; have hf10_1 : w11.frozen? ⟨go10, (x4_1 : Int).toNat * 5 + 1, none⟩ = false := hfr10 1; have hf10_2 : w11.frozen? ⟨go10, (x4_1 : Int).toNat * 5 + 2, none⟩ = false := hfr10 2; have hf10_3 : w11.frozen? ⟨go10, (x4_1 : Int).toNat * 5 + 3, none⟩ = false := hfr10 3; have hf10_4 : w11.frozen? ⟨go10, (x4_1 : Int).toNat * 5 + 4, none⟩ = false := hfr10 4; clear hcl10 hcc10 hfr10; (try clear hM10); replace p10 := eq_true p10; replace q10 := eq_true q10; have HX12 := am (show Kd.R k82 82 w11 w.heap.size (fun _ => True) (.slice (some ⟨go10, 0, none⟩) x3_1.length co10) x3_1 from (rq HO_3.out)); obtain ⟨ce12, hcl12, hM12, hcc12, hfr12⟩ := Kd.R_elem HX12.out z82 (x4_1 : Int) (of_decide_eq_true ad) b13_; obtain rfl := k82_openM hM12; have HP12 := Kd.R_seg HX12.out (x4_1 : Int) (of_decide_eq_true ad) b13_ (seg := [.string t225, .bool t226, .string t227, .string t228, .string t229]) (j := 0) hcl12 hcc12 (show 5 ≤ 5 from by decide) (x' := (⟨t225, t226, t227, t228, t229⟩ : S82)) (k82_mkM _ _ _ (⟨t225, t226, t227, t228, t229⟩ : S82) ) (fun _ hk => hk); have hx12_0 := hcc12 0 _ rfl; (try simp only [show (k82).sz = 5 from rfl, Nat.mul_one, Nat.add_zero] at hx12_0); have hf12_0 := hfr12 0; (try simp only [show (k82).sz = 5 from rfl, Nat.mul_one, Nat.add_zero] at hf12_0); have hx12_1 := hcc12 1 _ rfl; (try simp only [show (k82).sz = 5 from rfl, Nat.mul_one, Nat.add_zero] at hx12_1); have hf12_1 := hfr12 1; (try simp only [show (k82).sz = 5 from rfl, Nat.mul_one, Nat.add_zero] at hf12_1); have hx12_2 := hcc12 2 _ rfl; (try simp only [show (k82).sz = 5 from rfl, Nat.mul_one, Nat.add_zero] at hx12_2); have hf12_2 := hfr12 2; (try simp only [show (k82).sz = 5 from rfl, Nat.mul_one, Nat.add_zero] at hf12_2); have hx12_3 := hcc12 3 _ rfl; (try simp only [show (k82).sz = 5 from rfl, Nat.mul_one, Nat.add_zero] at hx12_3); have hf12_3 := hfr12 3; (try simp only [show (k82).sz = 5 from rfl, Nat.mul_one, Nat.add_zero] at hf12_3); have hx12_4 := hcc12 4 _ rfl; (try simp only [show (k82).sz = 5 from rfl, Nat.mul_one, Nat.add_zero] at hx12_4); have hf12_4 := hfr12 4; (try simp only [show (k82).sz = 5 from rfl, Nat.mul_one, Nat.add_zero] at hf12_4); clear hcl12 hcc12 hfr12; (try clear hM12)) | ((with_reducible refine gate_store (t := 82) (p := 21) rfl ?_); refine store_event (t := 82) (p := 21) (v := ?vo_w13) (w1 := (((((w11.setCell ⟨go10, (x4_1 : Int).toNat * 5, none⟩ (.string t225)).setCell ⟨go10, (x4_1 : Int).toNat * 5 + 1, none⟩ (.bool t226)).setCell ⟨go10, (x4_1 : Int).toNat * 5 + 2, none⟩ (.string t227)).setCell ⟨go10, (x4_1 : Int).toNat * 5 + 3, none⟩ (.string t228)).setCell ⟨go10, (x4_1 : Int).toNat * 5 + 4, none⟩ (.string t229))) ?hg ?ho ?hn ?hr ?_; (case ho => rfl); (case hg => rfl); (case hn => rfl); (case hr => first | (go_simp; done) | (go_simp; rfl)); intro w13 hw; have hg : w11.grownBy w13 (some go10) := (by rw [hw]; exact HP12.2); have hp_ : Kd.R k82 82 w13 w.heap.size (fun _ => True) (.slice (some ⟨go10, 0, none⟩) x3_1.length co10) y230 := (by rw [hw, Ny230.out]; exact HP12.1); clear HP12; replace HO_3 := am (hp_); replace HB := am ((by rw [hw]; exact below_set (below_set (below_set (below_set (below_set (HB.out) GB10.out) GB10.out) GB10.out) GB10.out) GB10.out : Below w.heap.size w w13)); clear hg hw hp_))
    go_roundg k1
    case measure => have := HK1.out; omega
    case rel => exact ⟨(y230), (wrap64 (x4_1 + 1)), sq, H', ⟨b14_⟩, ⟨rq HO_3.out⟩, ⟨bel⟩⟩
   rw [if_neg c6] at H; have c6b0 := decide_eq_false c6; clear c6; obtain rfl := Option.some.inj H; go_wp2; go_ret
   exact ⟨_, eq_, by (with_reducible repeat (first | apply Kd.R_alloc | apply Kd.R_drewN | apply Kd.R_drew)); exact HO_3.out, bel⟩

/-! ### laws_toEntry: function 51 -/
def laws_toEntry.f (a0_0 : ByteArray) (a0_1 : ByteArray) : Option (ByteArray × ByteArray) := some (a0_0, a0_1)
theorem laws_toEntry.calls (a0_0 : ByteArray) (a0_1 : ByteArray) (r1 : ByteArray) (r2 : ByteArray) (w : World) (h : laws_toEntry.f a0_0 a0_1 = some (r1, r2)) :
  Calls Tryz.prog 51 #[.agg #[.string a0_0, .string a0_1]] w fun e w' => e = .returned (.agg #[.string r1, .string r2]) ∧ Below w.heap.size w w' := by
 have hu76 := Tryz.underlying76; have hu78 := Tryz.underlying78; have HB := am (Below.refl w.heap.size w)
 have H : (some (a0_0, a0_1)) = some (r1, r2) := h
 clear h
 simp only [Option.some.injEq, Prod.mk.injEq] at H
 obtain ⟨rfl, rfl⟩ := H; go_enter Tryz.func51, Tryz.ntmps51
 go_wp2_with (first | ((with_reducible refine gate_dst (N := 1) rfl ?_); refine bx 1 (cs := #[.string a0_0, .string a0_1]) (t := 76) ?_; intro gb231 hg w2 hbox hb; have BK231 := am (hbox); have GW231 := am ((b0_ : w.heap.size ≤ gb231)); have GE231 := am ((b0_ : w.heap.size ≤ gb231)); replace HB := am (below_step bel hb); clear hb hbox hg) | ((with_reducible refine gate_dst (N := 2) rfl ?_); refine bx 2 (cs := #[.string (⟨#[]⟩ : ByteArray), .string (⟨#[]⟩ : ByteArray)]) (t := 78) ?_; intro gb232 hg w3 hbox hb; have BK232 := am (hbox); have GW232 := am ((by rw [hg]; exact (below_size (bel1 GE231.out)) : w.heap.size ≤ gb232)); have GE232 := am ((by rw [hg]; exact (below_size (bel1 GE231.out)) : w.heap.size ≤ gb232)); replace HB := am (below_step (bel1 GE231.out) hb); have NB231_232 := am ((by rw [hg]; exact Nat.ne_of_lt (blk_lt (g := gb231) (o := .cells #[.string a0_0, .string a0_1] 76 (0, 0)) (bq BK231.out)) : gb231 ≠ gb232)); have NB232_231 := am ((by rw [hg]; exact Nat.ne_of_gt (blk_lt (g := gb231) (o := .cells #[.string a0_0, .string a0_1] 76 (0, 0)) (bq BK231.out)) : gb232 ≠ gb231)); replace BK231 := am (blk_below (g := gb231) (o := .cells #[.string a0_0, .string a0_1] 76 (0, 0)) (bq BK231.out) hb); clear hb hbox hg) | ((with_reducible refine gate_dst (N := 3) rfl ?_); refine bx 3 (cs := #[.string (⟨#[]⟩ : ByteArray), .string (⟨#[]⟩ : ByteArray)]) (t := 78) ?_; intro gb233 hg w4 hbox hb; have BK233 := am (hbox); have GW233 := am ((by rw [hg]; exact (below_size (bel2 GE231.out GE232.out)) : w.heap.size ≤ gb233)); have GE233 := am ((by rw [hg]; exact (below_size (bel2 GE231.out GE232.out)) : w.heap.size ≤ gb233)); replace HB := am (below_step (bel2 GE231.out GE232.out) hb); have NB231_233 := am ((by rw [hg]; exact Nat.ne_of_lt (blk_lt (g := gb231) (o := .cells #[.string a0_0, .string a0_1] 76 (0, 0)) (bq BK231.out)) : gb231 ≠ gb233)); have NB233_231 := am ((by rw [hg]; exact Nat.ne_of_gt (blk_lt (g := gb231) (o := .cells #[.string a0_0, .string a0_1] 76 (0, 0)) (bq BK231.out)) : gb233 ≠ gb231)); replace BK231 := am (blk_below (g := gb231) (o := .cells #[.string a0_0, .string a0_1] 76 (0, 0)) (bq BK231.out) hb); have NB232_233 := am ((by rw [hg]; exact Nat.ne_of_lt (blk_lt (g := gb232) (o := .cells #[.string (⟨#[]⟩ : ByteArray), .string (⟨#[]⟩ : ByteArray)] 78 (0, 0)) (bq BK232.out)) : gb232 ≠ gb233)); have NB233_232 := am ((by rw [hg]; exact Nat.ne_of_gt (blk_lt (g := gb232) (o := .cells #[.string (⟨#[]⟩ : ByteArray), .string (⟨#[]⟩ : ByteArray)] 78 (0, 0)) (bq BK232.out)) : gb233 ≠ gb232)); replace BK232 := am (blk_below (g := gb232) (o := .cells #[.string (⟨#[]⟩ : ByteArray), .string (⟨#[]⟩ : ByteArray)] 78 (0, 0)) (bq BK232.out) hb); clear hb hbox hg; have hnb5 := NB231_232.out; have hnc5 := NB232_231.out; have hnb6 := NB231_233.out; have hnc6 := NB233_231.out; have hcz7_0 := bc BK231.out 0; have hcz7_1 := bc BK231.out 1; have hfz7_0 := bf BK231.out 0; have hfz7_1 := bf BK231.out 1; have hnb8 := NB233_232.out; have hnc8 := NB232_233.out; have hcz9_0 := bc BK233.out 0; have hcz9_1 := bc BK233.out 1; have hfz9_0 := bf BK233.out 0; have hfz9_1 := bf BK233.out 1; have hcz10_0 := bc BK232.out 0; have hcz10_1 := bc BK232.out 1; have hfz10_0 := bf BK232.out 0; have hfz10_1 := bf BK232.out 1))
 refine bodyPost_ret (results_cell_row rfl _ _ gb232 78 #[.string a0_0, .string a0_1] (0, 0) _ rfl (by (with_reducible repeat (first | refine blk_drewN ?_ _ | refine blk_drew ?_ | refine blk_alloc ?_ _)); refine blk_put (cs := #[.string a0_0, .string (⟨#[]⟩ : ByteArray)]) ?_ 1 _ rfl; (with_reducible repeat (first | refine blk_drewN ?_ _ | refine blk_drew ?_ | refine blk_alloc ?_ _)); refine blk_put (cs := #[.string (⟨#[]⟩ : ByteArray), .string (⟨#[]⟩ : ByteArray)]) ?_ 0 _ rfl; (with_reducible repeat (first | refine blk_drewN ?_ _ | refine blk_drew ?_ | refine blk_alloc ?_ _)); refine blk_far ?_ NB232_233.out _; (with_reducible repeat (first | refine blk_drewN ?_ _ | refine blk_drew ?_ | refine blk_alloc ?_ _)); refine blk_far ?_ NB232_233.out _; (with_reducible repeat (first | refine blk_drewN ?_ _ | refine blk_drew ?_ | refine blk_alloc ?_ _)); exact BK232.out) Tryz.underlying78 rfl (by kernel_rfl)) rfl ?_
 exact ⟨eq_, bel3 GE231.out GE232.out GE233.out⟩

/-! ### laws_toEntryS: function 25 -/
def laws_toEntryS.l0 : Nat → List (S76) → List (S78) → Int → Option ((List (S78)))
 | 0, _, _, _ => none
 | k + 1, x0, x3, x4 => if x4 < (x0.length : Int) then (if 0 ≤ x4 then ((laws_toEntry.f ((rd_T76 x0 x4).f0) ((rd_T76 x0 x4).f1)).bind fun bt238 => (if x4 < (x3.length : Int) then (laws_toEntryS.l0 k x0 (x3.set (x4 : Int).toNat (⟨bt238.1, bt238.2⟩ : S78)) (wrap64 (x4 + 1))) else (none))) else (none)) else (some x3)
def laws_toEntryS.f (k : Nat) (l0 : List (S76)) : Option ((List (S78))) := if 0 ≤ (l0.length : Int) then (if l0.length ≤ 8796093022208 then (laws_toEntryS.l0 k l0 (List.replicate l0.length z78) 0) else (none)) else (none)
theorem laws_toEntryS.calls (k : Nat) (A0 : Option Addr) (c0 : Nat) (l0 : List (S76)) (r : List (S78)) (w : World) (hr0 : Kd.C k76 w A0 l0.length l0) (hc0 : l0.length ≤ c0) (h : laws_toEntryS.f k l0 = some r) :
  Calls Tryz.prog 25 #[.slice A0 l0.length c0] w fun e w' => ∃ v0_ : Value, e = .returned (v0_) ∧ Kd.R k78 78 w' w.heap.size (fun _ => True) v0_ r ∧ Below w.heap.size w w' := by
 have hu76 := Tryz.underlying76; have hu78 := Tryz.underlying78; have HR0 := am hr0; have HC0 := am hc0; clear hr0 hc0; have HB := am (Below.refl w.heap.size w)
 have H : (if 0 ≤ (l0.length : Int) then (if l0.length ≤ 8796093022208 then (laws_toEntryS.l0 k l0 (List.replicate l0.length z78) 0) else (none)) else (none)) = some r := h
 clear h
 replace H := ip H; obtain ⟨c2, H⟩ := H; have c2b0 := eq_true c2
 have c2b1 : decide (0 ≤ (l0.length : Int)) = true := decide_eq_true c2
 clear c2
 replace H := ip H; obtain ⟨c3, H⟩ := H; have c3b0 := eq_true c3
 have c3b1 : decide (l0.length ≤ 8796093022208) = true := decide_eq_true c3
 clear c3; obtain ⟨y234, hy234⟩ : ∃ y_ : List (S78), y_ = (List.replicate l0.length z78) := ⟨_, rfl⟩
 replace H : (laws_toEntryS.l0 k l0 y234 0) = some r := by first | (rw [hy234]; with_reducible exact H) | (have H2_ := bm H; rw [hy234]; with_reducible exact H2_) | (with_reducible exact bm H) | with_reducible exact H | (rw [hy234]; exact H) | exact H
 have Ny234 := am hy234; clear hy234
 have H' := am H
 clear H; go_enter Tryz.func25, Tryz.ntmps25
 go_wp2_with (first | ((with_reducible refine gate_dst (N := 7) rfl ?_); refine Kd.R_make k78 _ 78 rfl (N := 7) rfl 30 _ _ rfl (l0.length : Int) rfl rfl Tryz.underlying30 (.agg #[(.string ⟨#[]⟩), (.string ⟨#[]⟩)]) 32 info78 rfl (by decide) (by omega) z78 (ok := fun _ => True) (okp := fun _ => True) (k78_mkM _ _ _ z78 ) (fun _ hk => hk) trivial (of_decide_eq_true ad) (Nat.le_trans (Nat.mul_le_mul_right _ (of_decide_eq_true ad : (l0.length : Int).toNat ≤ 8796093022208)) (by omega)) (Below.refl _ _) (Nat.le_refl _) ?_; intro v235 w4 ho5 hb hg_ hnew_; clear hg_ hnew_; (first | rw [← Ny234.out] at ho5 | (simp only [Int.reduceToNat] at ho5; rw [← Ny234.out] at ho5) | (simp only [Int.toNat_natCast] at ho5; rw [← Ny234.out] at ho5)); have HO236 := am (Kd.R_lower ho5 (below_size bel)); replace HB := am (below_step bel hb); clear hb ho5))
 go_loopg [4] k (fun kq v4 w' => ∃ (x3_1 : List (S78)) (x4_1 : Int), v4 = .int .i64 x4_1 ∧ Aside0 (laws_toEntryS.l0 kq l0 x3_1 x4_1 = some r) ∧ Aside0 (kq ≤ k) ∧ Aside0 (Kd.R k78 78 w' w.heap.size (fun _ => True) v235 x3_1) ∧ Aside0 (Below w.heap.size w w'))
 case atStart => exact ⟨(y234), (0), sq, H', ⟨Nat.le_refl _⟩, ⟨rq HO236.out⟩, ⟨bel⟩⟩
 case round =>
  clear H'; (try clear c2); (try clear c2b0); (try clear c2b1); (try clear p2); (try clear c3); (try clear c3b0); (try clear c3b1); obtain ⟨x3_1, x4_1, rfl, HA, HK1, HO_3, HB⟩ := hrel
  cases gk with
  | zero => exact absurd HA.out (by simp [laws_toEntryS.l0])
  | succ k1 =>
   have H := HA.out; clear HA
   simp only [laws_toEntryS.l0] at H
   by_cases c6 : x4_1 < (l0.length : Int)
   ·rw [if_pos c6] at H; have c6b0 := decide_eq_true c6; clear c6
    replace H := it H; obtain ⟨c7b0, H⟩ := H; replace H := bs H; obtain ⟨⟨t238, t239⟩, A80, H⟩ := H; replace H : (if x4_1 < (x3_1.length : Int) then (laws_toEntryS.l0 k1 l0 (x3_1.set (x4_1 : Int).toNat (⟨t238, t239⟩ : S78)) (wrap64 (x4_1 + 1))) else (none)) = some r := H; have A8 := Aside0.mk A80; clear A80
    replace H := it H; obtain ⟨c9b0, H⟩ := H; obtain ⟨y240, hy240⟩ : ∃ y_ : List (S78), y_ = (x3_1.set (x4_1 : Int).toNat (⟨t238, t239⟩ : S78)) := ⟨_, rfl⟩
    replace H : (laws_toEntryS.l0 k1 l0 y240 (wrap64 (x4_1 + 1))) = some r := by first | (rw [hy240]; with_reducible exact H) | (have H2_ := bm H; rw [hy240]; with_reducible exact H2_) | (with_reducible exact bm H) | with_reducible exact H | (rw [hy240]; exact H) | exact H
    have Ny240 := am hy240; clear hy240
    have H' := am H
    clear H
    have p237 : 0 ≤ (x4_1 : Int) := of_decide_eq_true ad
    have q237 : x4_1 < (l0.length : Int) := of_decide_eq_true ad
    obtain ⟨ad237, e237, hx237_0, hx237_1⟩ := at_T76 HR0.out x4_1 p237 q237
    cases e237
    replace hx237_0 := kp HB.out hx237_0; replace hx237_1 := kp HB.out hx237_1; replace p237 := eq_true p237; replace q237 := eq_true q237
    go_wp2_with (first | ((with_reducible refine gate_callee (f := 51) rfl ?_); refine goesL_ (some 20) rfl rfl Tryz.func51 (by kernel_rfl) rfl #[.agg #[.string ((rd_T76 l0 x4_1).f0), .string ((rd_T76 l0 x4_1).f1)]] rfl mq ?_; (with_reducible refine (laws_toEntry.calls ((rd_T76 l0 x4_1).f0) ((rd_T76 l0 x4_1).f1) t238 t239 _ A8.out).mono ?_); rintro e w11 ⟨rfl, hb⟩; refine ⟨_, rfl, ?_⟩; replace HO_3 := am (Kd.R_below (rq HO_3.out) hb); replace HB := am (below_step bel hb); (try clear hb); (try clear hb2); (try clear hk); (try clear hi); have p10 : 0 ≤ (x4_1 : Int) := of_decide_eq_true ad; have q10 : (x4_1 : Int) < ((x3_1.length : Int) : Int) := of_decide_eq_true ad; obtain ⟨go10, co10, eo10, gb10, gl10, cl10, HG10⟩ := Kd.R_form HO_3.out (by omega); (first | cases eo10 | (injection eo10 with ea_ en_ ec_; (first | subst ea_ | (injection ea_ with ea_; subst ea_)); subst ec_; clear en_)); have GB10 := Aside0.mk gb10; have GG10 := am HG10; clear gb10 gl10 HG10; obtain ⟨ce10, hcl10, hM10, hcc10, hfr10⟩ := Kd.R_elem HO_3.out z78 (x4_1 : Int) p10 q10; obtain rfl := k78_openM hM10; have hx10_0 : w11.cell? ⟨go10, (x4_1 : Int).toNat * 2, none⟩ = some (.string ((rd_T78 x3_1 x4_1).f0)) := hcc10 0 _ rfl; have hx10_1 : w11.cell? ⟨go10, (x4_1 : Int).toNat * 2 + 1, none⟩ = some (.string ((rd_T78 x3_1 x4_1).f1)) := hcc10 1 _ rfl; have hf10_0 : w11.frozen? ⟨go10, (x4_1 : Int).toNat * 2, none⟩ = false := hfr10 0; have hf10_1 : w11.frozen? ⟨go10, (x4_1 : Int).toNat * 2 + 1, none⟩ = false := hfr10 1; clear hcl10 hcc10 hfr10; (try clear hM10); replace p10 := eq_true p10; replace q10 := eq_true q10; have HX12 := am (show Kd.R k78 78 w11 w.heap.size (fun _ => True) (.slice (some ⟨go10, 0, none⟩) x3_1.length co10) x3_1 from (rq HO_3.out)); obtain ⟨ce12, hcl12, hM12, hcc12, hfr12⟩ := Kd.R_elem HX12.out z78 (x4_1 : Int) (of_decide_eq_true ad) b13_; obtain rfl := k78_openM hM12; have HP12 := Kd.R_seg HX12.out (x4_1 : Int) (of_decide_eq_true ad) b13_ (seg := [.string t238, .string t239]) (j := 0) hcl12 hcc12 (show 2 ≤ 2 from by decide) (x' := (⟨t238, t239⟩ : S78)) (k78_mkM _ _ _ (⟨t238, t239⟩ : S78) ) (fun _ hk => hk); have hx12_0 := hcc12 0 _ rfl; (try simp only [show (k78).sz = 2 from rfl, Nat.mul_one, Nat.add_zero] at hx12_0); have hf12_0 := hfr12 0; (try simp only [show (k78).sz = 2 from rfl, Nat.mul_one, Nat.add_zero] at hf12_0); have hx12_1 := hcc12 1 _ rfl; (try simp only [show (k78).sz = 2 from rfl, Nat.mul_one, Nat.add_zero] at hx12_1); have hf12_1 := hfr12 1; (try simp only [show (k78).sz = 2 from rfl, Nat.mul_one, Nat.add_zero] at hf12_1); clear hcl12 hcc12 hfr12; (try clear hM12)) | ((with_reducible refine gate_store (t := 78) (p := 21) rfl ?_); refine store_event (t := 78) (p := 21) (v := ?vo_w13) (w1 := ((w11.setCell ⟨go10, (x4_1 : Int).toNat * 2, none⟩ (.string t238)).setCell ⟨go10, (x4_1 : Int).toNat * 2 + 1, none⟩ (.string t239))) ?hg ?ho ?hn ?hr ?_; (case ho => rfl); (case hg => rfl); (case hn => rfl); (case hr => first | (go_simp; done) | (go_simp; rfl)); intro w13 hw; have hg : w11.grownBy w13 (some go10) := (by rw [hw]; exact HP12.2); have hp_ : Kd.R k78 78 w13 w.heap.size (fun _ => True) (.slice (some ⟨go10, 0, none⟩) x3_1.length co10) y240 := (by rw [hw, Ny240.out]; exact HP12.1); clear HP12; replace HO_3 := am (hp_); replace HB := am ((by rw [hw]; exact below_set (below_set (HB.out) GB10.out) GB10.out : Below w.heap.size w w13)); clear hg hw hp_))
    go_roundg k1
    case measure => have := HK1.out; omega
    case rel => exact ⟨(y240), (wrap64 (x4_1 + 1)), sq, H', ⟨b14_⟩, ⟨rq HO_3.out⟩, ⟨bel⟩⟩
   rw [if_neg c6] at H; have c6b0 := decide_eq_false c6; clear c6; obtain rfl := Option.some.inj H; go_wp2; go_ret
   exact ⟨_, eq_, by (with_reducible repeat (first | apply Kd.R_alloc | apply Kd.R_drewN | apply Kd.R_drew)); exact HO_3.out, bel⟩

/-! ### laws_toBook: function 7 -/
def laws_toBook.f (k : Nat) (l0_0 : List (S73)) (l0_1 : List (S76)) : Option ((List (S82)) × (List (S78))) := (laws_toAffixS.f k l0_0).bind fun t244 => ((laws_toEntryS.f k l0_1).bind fun t247 => (some (t244, t247)))
theorem laws_toBook.calls (k : Nat) (A0_0 : Option Addr) (c0_0 : Nat) (l0_0 : List (S73)) (A0_1 : Option Addr) (c0_1 : Nat) (l0_1 : List (S76)) (r1 : List (S82)) (r2 : List (S78)) (w : World) (hr0_0 : Kd.C k73 w A0_0 l0_0.length l0_0) (hc0_0 : l0_0.length ≤ c0_0) (hr0_1 : Kd.C k76 w A0_1 l0_1.length l0_1) (hc0_1 : l0_1.length ≤ c0_1) (h : laws_toBook.f k l0_0 l0_1 = some (r1, r2)) :
  Calls Tryz.prog 7 #[.agg #[.slice A0_0 l0_0.length c0_0, .slice A0_1 l0_1.length c0_1]] w fun e w' => ∃ v0_ v1_ : Value, e = .returned (.agg #[v0_, v1_]) ∧ Kd.R k82 82 w' w.heap.size (fun _ => True) v0_ r1 ∧ Kd.R k78 78 w' w.heap.size (fun _ => True) v1_ r2 ∧ Below w.heap.size w w' := by
 have hu25 := Tryz.underlying25; have hu32 := Tryz.underlying32; have HR0_0 := am hr0_0; have HC0_0 := am hc0_0; clear hr0_0 hc0_0; have HR0_1 := am hr0_1; have HC0_1 := am hc0_1; clear hr0_1 hc0_1; have HB := am (Below.refl w.heap.size w)
 have H : ((laws_toAffixS.f k l0_0).bind fun t244 => ((laws_toEntryS.f k l0_1).bind fun t247 => (some (t244, t247)))) = some (r1, r2) := h
 clear h; replace H := bs H; obtain ⟨t244, A20, H⟩ := H; replace H : ((laws_toEntryS.f k l0_1).bind fun t247 => (some (t244, t247))) = some (r1, r2) := H; have A2 := Aside0.mk A20; clear A20; replace H := bs H; obtain ⟨t247, A30, H⟩ := H; replace H : (some (t244, t247)) = some (r1, r2) := H; have A3 := Aside0.mk A30; clear A30
 simp only [Option.some.injEq, Prod.mk.injEq] at H
 obtain ⟨rfl, rfl⟩ := H; go_enter Tryz.func7, Tryz.ntmps7
 go_wp2_with (first | ((with_reducible refine gate_dst (N := 1) rfl ?_); refine bx 1 (cs := #[.slice A0_0 l0_0.length c0_0, .slice A0_1 l0_1.length c0_1]) (t := 25) ?_; intro gb241 hg w4 hbox hb; have BK241 := am (hbox); have GW241 := am ((b0_ : w.heap.size ≤ gb241)); have GE241 := am ((b0_ : w.heap.size ≤ gb241)); replace HB := am (below_step bel hb); clear hb hbox hg) | ((with_reducible refine gate_dst (N := 2) rfl ?_); refine bx 2 (cs := #[.slice none 0 0, .slice none 0 0]) (t := 32) ?_; intro gb242 hg w5 hbox hb; have BK242 := am (hbox); have GW242 := am ((by rw [hg]; exact (below_size (bel1 GE241.out)) : w.heap.size ≤ gb242)); have GE242 := am ((by rw [hg]; exact (below_size (bel1 GE241.out)) : w.heap.size ≤ gb242)); replace HB := am (below_step (bel1 GE241.out) hb); have NB241_242 := am ((b34_ : gb241 ≠ gb242)); have NB242_241 := am ((b35_ : gb242 ≠ gb241)); replace BK241 := am (blk_below (g := gb241) (o := .cells #[.slice A0_0 l0_0.length c0_0, .slice A0_1 l0_1.length c0_1] 25 (0, 0)) (bq BK241.out) hb); clear hb hbox hg) | ((with_reducible refine gate_dst (N := 3) rfl ?_); refine bx 3 (cs := #[.slice none 0 0, .slice none 0 0]) (t := 32) ?_; intro gb243 hg w6 hbox hb; have BK243 := am (hbox); have GW243 := am ((by rw [hg]; exact (below_size (bel2 GE241.out GE242.out)) : w.heap.size ≤ gb243)); have GE243 := am ((by rw [hg]; exact (below_size (bel2 GE241.out GE242.out)) : w.heap.size ≤ gb243)); replace HB := am (below_step (bel2 GE241.out GE242.out) hb); have NB241_243 := am ((b34_ : gb241 ≠ gb243)); have NB243_241 := am ((b35_ : gb243 ≠ gb241)); replace BK241 := am (blk_below (g := gb241) (o := .cells #[.slice A0_0 l0_0.length c0_0, .slice A0_1 l0_1.length c0_1] 25 (0, 0)) (bq BK241.out) hb); have NB242_243 := am ((by rw [hg]; exact Nat.ne_of_lt (blk_lt (g := gb242) (o := .cells #[.slice none 0 0, .slice none 0 0] 32 (0, 0)) (bq BK242.out)) : gb242 ≠ gb243)); have NB243_242 := am ((by rw [hg]; exact Nat.ne_of_gt (blk_lt (g := gb242) (o := .cells #[.slice none 0 0, .slice none 0 0] 32 (0, 0)) (bq BK242.out)) : gb243 ≠ gb242)); replace BK242 := am (blk_below (g := gb242) (o := .cells #[.slice none 0 0, .slice none 0 0] 32 (0, 0)) (bq BK242.out) hb); clear hb hbox hg; have hnb7 := NB241_242.out; have hnc7 := NB242_241.out; have hnb8 := NB241_243.out; have hnc8 := NB243_241.out; have hcz9_0 := bc BK241.out 0; have hcz9_1 := bc BK241.out 1; have hfz9_0 := bf BK241.out 0; have hfz9_1 := bf BK241.out 1) | ((with_reducible refine gate_callee (f := 24) rfl ?_); refine goesL_ (some 6) rfl rfl Tryz.func24 (by kernel_rfl) rfl #[.slice A0_0 l0_0.length c0_0] rfl mq ?_; (with_reducible refine (laws_toAffixS.calls k _ _ l0_0 t244 _ ?side1 ?side2 A2.out).mono ?_); (case side1 => exact cq (Kd.C_below HR0_0.out HB.out)); (case side2 => exact HC0_0.out); rintro e w10 ⟨v245, rfl, ho0, hb⟩; refine ⟨_, rfl, ?_⟩; have HO246 := am (Kd.R_lower ho0 (below_size (bel3 GE241.out GE242.out GE243.out))); replace BK241 := am (blk_below (g := gb241) (o := .cells #[.slice A0_0 l0_0.length c0_0, .slice A0_1 l0_1.length c0_1] 25 (0, 0)) (bq BK241.out) hb); replace BK242 := am (blk_below (g := gb242) (o := .cells #[.slice none 0 0, .slice none 0 0] 32 (0, 0)) (bq BK242.out) hb); replace BK243 := am (blk_below (g := gb243) (o := .cells #[.slice none 0 0, .slice none 0 0] 32 (0, 0)) (bq BK243.out) hb); replace HB := am (below_step (bel3 GE241.out GE242.out GE243.out) hb); (try clear hb); (try clear hb2); (try clear hk); (try clear hi); (try clear ho0); obtain ⟨Ao11, co11, eo11⟩ := Kd.R_slice HO246.out; subst eo11; have hnb12 := NB243_242.out; have hnc12 := NB242_243.out; have hcz13_0 := bc BK243.out 0; have hcz13_1 := bc BK243.out 1; have hfz13_0 := bf BK243.out 0; have hfz13_1 := bf BK243.out 1; have hcz14_0 := bc BK241.out 0; have hcz14_1 := bc BK241.out 1; have hfz14_0 := bf BK241.out 0; have hfz14_1 := bf BK241.out 1) | ((with_reducible refine gate_callee (f := 25) rfl ?_); refine goesL_ (some 10) rfl rfl Tryz.func25 (by kernel_rfl) rfl #[.slice A0_1 l0_1.length c0_1] rfl mq ?_; (with_reducible refine (laws_toEntryS.calls k _ _ l0_1 t247 _ ?side1 ?side2 A3.out).mono ?_); (case side1 => exact Kd.C_below HR0_1.out (bel3 GE241.out GE242.out GE243.out)); (case side2 => exact HC0_1.out); rintro e w15 ⟨v248, rfl, ho0, hb⟩; refine ⟨_, rfl, ?_⟩; replace HO246 := am (Kd.R_below (rq ((Kd.R_mono (Kd.R_far (p := ⟨gb243, 0, none⟩) (Kd.R_types HO246.out BK243.out (by decide)) (fun _ hk => hk.2) (.slice Ao11 t244.length co11)) (fun _ h_ => h_.1)))) hb); have HO249 := am (Kd.R_lower ho0 (below_size (bel3 GE241.out GE242.out GE243.out))); replace BK241 := am (blk_below (g := gb241) (o := .cells #[.slice A0_0 l0_0.length c0_0, .slice A0_1 l0_1.length c0_1] 25 (0, 0)) (by (with_reducible repeat (first | refine blk_drewN ?_ _ | refine blk_drew ?_ | refine blk_alloc ?_ _)); refine blk_far ?_ NB241_243.out _; (with_reducible repeat (first | refine blk_drewN ?_ _ | refine blk_drew ?_ | refine blk_alloc ?_ _)); exact BK241.out) hb); replace BK242 := am (blk_below (g := gb242) (o := .cells #[.slice none 0 0, .slice none 0 0] 32 (0, 0)) (by (with_reducible repeat (first | refine blk_drewN ?_ _ | refine blk_drew ?_ | refine blk_alloc ?_ _)); refine blk_far ?_ NB242_243.out _; (with_reducible repeat (first | refine blk_drewN ?_ _ | refine blk_drew ?_ | refine blk_alloc ?_ _)); exact BK242.out) hb); replace BK243 := am (blk_below (g := gb243) (o := .cells #[.slice Ao11 t244.length co11, .slice none 0 0] 32 (0, 0)) (by (with_reducible repeat (first | refine blk_drewN ?_ _ | refine blk_drew ?_ | refine blk_alloc ?_ _)); refine blk_put (cs := #[.slice none 0 0, .slice none 0 0]) ?_ 0 _ rfl; (with_reducible repeat (first | refine blk_drewN ?_ _ | refine blk_drew ?_ | refine blk_alloc ?_ _)); exact BK243.out) hb); replace HB := am (below_step (bel3 GE241.out GE242.out GE243.out) hb); (try clear hb); (try clear hb2); (try clear hk); (try clear hi); (try clear ho0); obtain ⟨Ao16, co16, eo16⟩ := Kd.R_slice HO249.out; subst eo16; have hcz17_0 := bc BK243.out 0; have hcz17_1 := bc BK243.out 1; have hfz17_0 := bf BK243.out 0; have hfz17_1 := bf BK243.out 1; have hcz18_0 := bc BK242.out 0; have hcz18_1 := bc BK242.out 1; have hfz18_0 := bf BK242.out 0; have hfz18_1 := bf BK242.out 1))
 refine bodyPost_ret (results_cell_row rfl _ _ gb242 32 #[.slice Ao11 t244.length co11, .slice Ao16 t247.length co16] (0, 0) _ rfl (by (with_reducible repeat (first | refine blk_drewN ?_ _ | refine blk_drew ?_ | refine blk_alloc ?_ _)); refine blk_put (cs := #[.slice Ao11 t244.length co11, .slice none 0 0]) ?_ 1 _ rfl; (with_reducible repeat (first | refine blk_drewN ?_ _ | refine blk_drew ?_ | refine blk_alloc ?_ _)); refine blk_put (cs := #[.slice none 0 0, .slice none 0 0]) ?_ 0 _ rfl; (with_reducible repeat (first | refine blk_drewN ?_ _ | refine blk_drew ?_ | refine blk_alloc ?_ _)); refine blk_far ?_ NB242_243.out _; (with_reducible repeat (first | refine blk_drewN ?_ _ | refine blk_drew ?_ | refine blk_alloc ?_ _)); exact BK242.out) Tryz.underlying32 rfl (by kernel_rfl)) rfl ?_
 exact ⟨_, _, eq_, by (with_reducible repeat (first | apply Kd.R_alloc | apply Kd.R_drewN | apply Kd.R_drew)); exact Kd.R_mono (Kd.R_far (p := ⟨gb242, 1, none⟩) (Kd.R_far (p := ⟨gb242, 0, none⟩) (Kd.R_far (p := ⟨gb243, 1, none⟩) (Kd.R_types (Kd.R_types HO246.out BK243.out (by decide)) BK242.out (by decide)) (fun _ hk => hk.1.2) (.slice Ao16 t247.length co16)) (fun _ hk => hk.2) (.slice Ao11 t244.length co11)) (fun _ hk => hk.2) (.slice Ao16 t247.length co16)) (fun _ hk => trivial), by (with_reducible repeat (first | apply Kd.R_alloc | apply Kd.R_drewN | apply Kd.R_drew)); exact Kd.R_mono (Kd.R_far (p := ⟨gb242, 1, none⟩) (Kd.R_far (p := ⟨gb242, 0, none⟩) (Kd.R_far (p := ⟨gb243, 1, none⟩) (Kd.R_types (Kd.R_types HO249.out BK243.out (by decide)) BK242.out (by decide)) (fun _ hk => hk.1.2) (.slice Ao16 t247.length co16)) (fun _ hk => hk.2) (.slice Ao11 t244.length co11)) (fun _ hk => hk.2) (.slice Ao16 t247.length co16)) (fun _ hk => trivial), bel3 GE241.out GE242.out GE243.out⟩

/-! ### impl_upper: function 56 -/
def impl_upper.f (a0 : Int) : Option (Bool) := if a0 ≥ 65 then (some (decide (a0 ≤ 90))) else (some false)
theorem impl_upper.calls (a0 : Int) (r : Bool) (w : World) (h : impl_upper.f a0 = some r) :
  Calls Tryz.prog 56 #[.int .u8 a0] w fun e w' => e = .returned (.bool r) ∧ Drawn0 w w' := by
 have H : (if a0 ≥ 65 then (some (decide (a0 ≤ 90))) else (some false)) = some r := h
 clear h
 by_cases c2 : a0 ≥ 65
 ·rw [if_pos c2] at H; have c2b0 := decide_eq_true c2; clear c2; obtain rfl := Option.some.inj H; go_enter Tryz.func56, Tryz.ntmps56; go_wp2; go_ret
  exact ⟨sq, dr⟩
 rw [if_neg c2] at H; have c2b0 := decide_eq_false c2; clear c2; obtain rfl := Option.some.inj H; go_enter Tryz.func56, Tryz.ntmps56; go_wp2; go_ret
 exact ⟨sq, dr⟩

/-! ### impl_lower: function 96 -/
def impl_lower.l0 : Nat → ByteArray → Int → Int → Option (Bool)
 | 0, _, _, _ => none
 | k + 1, x0, x5, x6 => if x6 < x5 then (if 0 ≤ x6 then (if x6 < (x0.size : Int) then (if (bt x0 x6) < 97 then (some false) else (if (bt x0 x6) > 122 then (some false) else (impl_lower.l0 k x0 x5 (wrap64 (x6 + 1))))) else (none)) else (none)) else (some true)
def impl_lower.f (k : Nat) (a0 : ByteArray) : Option (Bool) := impl_lower.l0 k a0 (a0.size : Int) 0
theorem impl_lower.calls (k : Nat) (a0 : ByteArray) (r : Bool) (w : World) (h : impl_lower.f k a0 = some r) :
  Calls Tryz.prog 96 #[.string a0] w fun e w' => e = .returned (.bool r) ∧ Drawn0 w w' := by
 have H : (impl_lower.l0 k a0 (a0.size : Int) 0) = some r := h
 clear h
 have H' := am H
 clear H; go_enter Tryz.func96, Tryz.ntmps96; go_wp2
 go_loopg [6] k (fun kq v6 w' => ∃ (x6_1 : Int), v6 = .int .i64 x6_1 ∧ Aside0 (impl_lower.l0 kq a0 (a0.size : Int) x6_1 = some r) ∧ Aside0 (kq ≤ k) ∧ Drawn0 w w')
 case atStart => exact ⟨(0), sq, H', ⟨Nat.le_refl _⟩, dr⟩
 case round =>
  clear H'; obtain ⟨x6_1, rfl, HA, HK1, ⟨m1, rfl⟩⟩ := hrel
  cases gk with
  | zero => exact absurd HA.out (by simp [impl_lower.l0])
  | succ k1 =>
   have H := HA.out; clear HA
   simp only [impl_lower.l0] at H
   by_cases c2 : x6_1 < (a0.size : Int)
   ·rw [if_pos c2] at H; have c2b0 := decide_eq_true c2; clear c2
    replace H := it H; obtain ⟨c3b0, H⟩ := H
    replace H := it H; obtain ⟨c4b0, H⟩ := H
    by_cases c6 : (bt a0 x6_1) < 97
    ·rw [if_pos c6] at H; have c6b0 := decide_eq_true c6; clear c6; obtain rfl := Option.some.inj H
     have p5 : 0 ≤ (x6_1 : Int) := of_decide_eq_true ad
     have q5 : x6_1 < (a0.size : Int) := of_decide_eq_true ad
     have hx5 := bt_at a0 x6_1; replace p5 := eq_true p5; replace q5 := eq_true q5; go_wp2; go_ret
     exact ⟨sq, dr⟩
    rw [if_neg c6] at H; have c6b0 := decide_eq_false c6; clear c6
    by_cases c8 : (bt a0 x6_1) > 122
    ·rw [if_pos c8] at H; have c8b0 := decide_eq_true c8; clear c8; obtain rfl := Option.some.inj H
     have p5 : 0 ≤ (x6_1 : Int) := of_decide_eq_true ad
     have q5 : x6_1 < (a0.size : Int) := of_decide_eq_true ad
     have hx5 := bt_at a0 x6_1; replace p5 := eq_true p5; replace q5 := eq_true q5
     have p7 : 0 ≤ (x6_1 : Int) := of_decide_eq_true ad
     have q7 : x6_1 < (a0.size : Int) := of_decide_eq_true ad
     have hx7 := bt_at a0 x6_1; replace p7 := eq_true p7; replace q7 := eq_true q7; go_wp2; go_ret
     exact ⟨sq, dr⟩
    rw [if_neg c8] at H; have c8b0 := decide_eq_false c8; clear c8
    have H' := am H
    clear H
    have p5 : 0 ≤ (x6_1 : Int) := of_decide_eq_true ad
    have q5 : x6_1 < (a0.size : Int) := of_decide_eq_true ad
    have hx5 := bt_at a0 x6_1; replace p5 := eq_true p5; replace q5 := eq_true q5
    have p7 : 0 ≤ (x6_1 : Int) := of_decide_eq_true ad
    have q7 : x6_1 < (a0.size : Int) := of_decide_eq_true ad
    have hx7 := bt_at a0 x6_1; replace p7 := eq_true p7; replace q7 := eq_true q7; go_wp2
    go_roundg k1
    case measure => have := HK1.out; omega
    case rel => exact ⟨(wrap64 (x6_1 + 1)), sq, H', ⟨b14_⟩, dr⟩
   rw [if_neg c2] at H; have c2b0 := decide_eq_false c2; clear c2; obtain rfl := Option.some.inj H; go_wp2; go_ret
   exact ⟨sq, dr⟩

/-! ### stringslite_HasPrefix: function 109 -/
def stringslite_HasPrefix.f (a0 : ByteArray) (a1 : ByteArray) : Option (Bool) := if (a0.size : Int) ≥ (a1.size : Int) then (if 0 ≤ (a1.size : Int) then (if (a1.size : Int) ≤ (a0.size : Int) then (some ((a0.extract 0 a1.size).toList == a1.toList)) else (none)) else (none)) else (some false)
theorem stringslite_HasPrefix.calls (a0 : ByteArray) (a1 : ByteArray) (r : Bool) (w : World) (h : stringslite_HasPrefix.f a0 a1 = some r) :
  Calls Tryz.prog 109 #[.string a0, .string a1] w fun e w' => e = .returned (.bool r) ∧ Drawn0 w w' := by
 have H : (if (a0.size : Int) ≥ (a1.size : Int) then (if 0 ≤ (a1.size : Int) then (if (a1.size : Int) ≤ (a0.size : Int) then (some ((a0.extract 0 a1.size).toList == a1.toList)) else (none)) else (none)) else (some false)) = some r := h
 clear h
 by_cases c3 : (a0.size : Int) ≥ (a1.size : Int)
 ·rw [if_pos c3] at H; have c3b0 := decide_eq_true c3
  have c3b1 : decide (a1.size ≤ a0.size) = true := decide_eq_true (Int.ofNat_le.mp c3)
  clear c3
  replace H := ip H; obtain ⟨c4, H⟩ := H; have c4b0 := eq_true c4
  have c4b1 : decide (0 ≤ (a1.size : Int)) = true := decide_eq_true c4
  clear c4
  replace H := ip H; obtain ⟨c5, H⟩ := H; have c5b0 := eq_true c5
  have c5b9 : (a1.size ≤ a0.size) = True := eq_true (by omega)
  have c5b6 : decide (a1.size ≤ a0.size) = true := decide_eq_true (by omega)
  have c5b1 : decide ((a1.size : Int) ≤ (a0.size : Int)) = true := decide_eq_true c5
  clear c5; obtain rfl := Option.some.inj H; go_enter Tryz.func109, Tryz.ntmps109; go_wp2; go_ret
  exact ⟨sq, dr⟩
 rw [if_neg c3] at H; have c3b0 := decide_eq_false c3
 have c3b1 : decide (a1.size ≤ a0.size) = false := decide_eq_false (fun h => c3 (Int.ofNat_le.mpr h))
 clear c3; obtain rfl := Option.some.inj H; go_enter Tryz.func109, Tryz.ntmps109; go_wp2; go_ret
 exact ⟨sq, dr⟩

/-! ### strings_HasPrefix: function 97 -/
def strings_HasPrefix.f (a0 : ByteArray) (a1 : ByteArray) : Option (Bool) := (stringslite_HasPrefix.f a0 a1).bind fun t250 => (some t250)
theorem strings_HasPrefix.calls (a0 : ByteArray) (a1 : ByteArray) (r : Bool) (w : World) (h : strings_HasPrefix.f a0 a1 = some r) :
  Calls Tryz.prog 97 #[.string a0, .string a1] w fun e w' => e = .returned (.bool r) ∧ Drawn0 w w' := by
 have H : ((stringslite_HasPrefix.f a0 a1).bind fun t250 => (some t250)) = some r := h
 clear h; replace H := bs H; obtain ⟨t250, A30, H⟩ := H; replace H : (some t250) = some r := H; have A3 := Aside0.mk A30; clear A30; obtain rfl := Option.some.inj H; go_enter Tryz.func97, Tryz.ntmps97
 go_wp2_with (first | ((with_reducible refine gate_callee (f := 109) rfl ?_); refine goesL_ (some 7) rfl rfl Tryz.func109 (by kernel_rfl) rfl #[.string a0, .string a1] rfl mq ?_; (with_reducible refine (stringslite_HasPrefix.calls a0 a1 t250 _ A3.out).mono ?_); rintro e w' ⟨rfl, ⟨nd, rfl⟩⟩; refine ⟨_, rfl, ?_⟩))
 go_ret
 exact ⟨sq, dr⟩

/-! ### stringslite_HasSuffix: function 110 -/
def stringslite_HasSuffix.f (a0 : ByteArray) (a1 : ByteArray) : Option (Bool) := if (a0.size : Int) ≥ (a1.size : Int) then (if 0 ≤ (wrap64 ((a0.size : Int) - (a1.size : Int))) then (if (wrap64 ((a0.size : Int) - (a1.size : Int))) ≤ (a0.size : Int) then (some ((a0.extract ((wrap64 ((a0.size : Int) - (a1.size : Int))) : Int).toNat a0.size).toList == a1.toList)) else (none)) else (none)) else (some false)
theorem stringslite_HasSuffix.calls (a0 : ByteArray) (a1 : ByteArray) (r : Bool) (w : World) (h : stringslite_HasSuffix.f a0 a1 = some r) :
  Calls Tryz.prog 110 #[.string a0, .string a1] w fun e w' => e = .returned (.bool r) ∧ Drawn0 w w' := by
 have H : (if (a0.size : Int) ≥ (a1.size : Int) then (if 0 ≤ (wrap64 ((a0.size : Int) - (a1.size : Int))) then (if (wrap64 ((a0.size : Int) - (a1.size : Int))) ≤ (a0.size : Int) then (some ((a0.extract ((wrap64 ((a0.size : Int) - (a1.size : Int))) : Int).toNat a0.size).toList == a1.toList)) else (none)) else (none)) else (some false)) = some r := h
 clear h
 by_cases c3 : (a0.size : Int) ≥ (a1.size : Int)
 ·rw [if_pos c3] at H; have c3b0 := decide_eq_true c3
  have c3b1 : decide (a1.size ≤ a0.size) = true := decide_eq_true (Int.ofNat_le.mp c3)
  clear c3; obtain ⟨ji4, hji4⟩ : ∃ j_ : Int, (wrap64 ((a0.size : Int) - (a1.size : Int))) = j_ := ⟨_, rfl⟩
  replace H : (if 0 ≤ (ji4) then (if (ji4) ≤ (a0.size : Int) then (some ((a0.extract ((ji4) : Int).toNat a0.size).toList == a1.toList)) else (none)) else (none)) = some r := by first | (rw [hji4] at H; exact H) | (simp only [hji4] at H ⊢; exact H)
  have hji4w : (IntKind.i64.wrap ((a0.size : Int) - (a1.size : Int))) = ji4 := (i64_w _).trans hji4
  replace H := ip H; obtain ⟨c5, H⟩ := H; have c5b0 := eq_true c5
  have c5b1 : decide (0 ≤ (ji4)) = true := decide_eq_true c5
  clear c5
  replace H := ip H; obtain ⟨c6, H⟩ := H; have c6b0 := eq_true c6
  have c6b1 : decide ((ji4) ≤ (a0.size : Int)) = true := decide_eq_true c6
  clear c6; obtain rfl := Option.some.inj H; go_enter Tryz.func110, Tryz.ntmps110; go_wp2; go_ret
  exact ⟨by first | rfl | (simp; done) | (simp only [← hji4] <;> (first | rfl | simp)) | (simp [*]; done), dr⟩
 rw [if_neg c3] at H; have c3b0 := decide_eq_false c3
 have c3b1 : decide (a1.size ≤ a0.size) = false := decide_eq_false (fun h => c3 (Int.ofNat_le.mpr h))
 clear c3; obtain rfl := Option.some.inj H; go_enter Tryz.func110, Tryz.ntmps110; go_wp2; go_ret
 exact ⟨sq, dr⟩

/-! ### strings_HasSuffix: function 98 -/
def strings_HasSuffix.f (a0 : ByteArray) (a1 : ByteArray) : Option (Bool) := (stringslite_HasSuffix.f a0 a1).bind fun t251 => (some t251)
theorem strings_HasSuffix.calls (a0 : ByteArray) (a1 : ByteArray) (r : Bool) (w : World) (h : strings_HasSuffix.f a0 a1 = some r) :
  Calls Tryz.prog 98 #[.string a0, .string a1] w fun e w' => e = .returned (.bool r) ∧ Drawn0 w w' := by
 have H : ((stringslite_HasSuffix.f a0 a1).bind fun t251 => (some t251)) = some r := h
 clear h; replace H := bs H; obtain ⟨t251, A30, H⟩ := H; replace H : (some t251) = some r := H; have A3 := Aside0.mk A30; clear A30; obtain rfl := Option.some.inj H; go_enter Tryz.func98, Tryz.ntmps98
 go_wp2_with (first | ((with_reducible refine gate_callee (f := 110) rfl ?_); refine goesL_ (some 7) rfl rfl Tryz.func110 (by kernel_rfl) rfl #[.string a0, .string a1] rfl mq ?_; (with_reducible refine (stringslite_HasSuffix.calls a0 a1 t251 _ A3.out).mono ?_); rintro e w' ⟨rfl, ⟨nd, rfl⟩⟩; refine ⟨_, rfl, ?_⟩))
 go_ret
 exact ⟨sq, dr⟩
-- shrunk

attribute [local go_sem high] eqA82
/-! ### impl_AffixOk: function 74 -/
mutual
def impl_AffixOk.j0 : Nat → Bool → ByteArray → Bool → ByteArray → ByteArray → ByteArray → Option (Bool)
 | 0, _, _, _, _, _, _ => none
 | k + 1, x15, x253000, x253001, x253002, x253003, x253004 => if x15 = true then (some false) else ((some (([x253002, x253003, x253004] : List ByteArray) : List ByteArray)).bind fun y254 => (impl_AffixOk.l0 k y254 (y254.length : Int) 0 x253000 x253001 x253002 x253003 x253004))
def impl_AffixOk.l0 : Nat → List ByteArray → Int → Int → ByteArray → Bool → ByteArray → ByteArray → ByteArray → Option (Bool)
 | 0, _, _, _, _, _, _, _, _ => none
 | k + 1, x22, x23, x24, x253000, x253001, x253002, x253003, x253004 => if x24 < x23 then (if 0 ≤ x24 then (if x24 < (x22.length : Int) then (if ((rdOf ByteArray.empty x22 x24).size : Int) > 4 then (some false) else ((impl_lower.f k (rdOf ByteArray.empty x22 x24)).bind fun t258 => (if t258 = true then (impl_AffixOk.l0 k x22 x23 (wrap64 (x24 + 1)) x253000 x253001 x253002 x253003 x253004) else (some false)))) else (none)) else (none)) else (if x253001 = true then ((strings_HasPrefix.f x253004 x253002).bind fun t259 => (some t259)) else ((strings_HasSuffix.f x253004 x253002).bind fun t260 => (some t260)))
end
def impl_AffixOk.f (k : Nat) (a0_0 : ByteArray) (a0_1 : Bool) (a0_2 : ByteArray) (a0_3 : ByteArray) (a0_4 : ByteArray) : Option (Bool) := if (a0_0.size : Int) = 1 then (if 0 < (a0_0.size : Int) then ((impl_upper.f (bt a0_0 0)).bind fun t253 => (impl_AffixOk.j0 k (!t253) a0_0 a0_1 a0_2 a0_3 a0_4)) else (none)) else (impl_AffixOk.j0 k true a0_0 a0_1 a0_2 a0_3 a0_4)
theorem impl_AffixOk.calls (k : Nat) (a0_0 : ByteArray) (a0_1 : Bool) (a0_2 : ByteArray) (a0_3 : ByteArray) (a0_4 : ByteArray) (r : Bool) (w : World) (h : impl_AffixOk.f k a0_0 a0_1 a0_2 a0_3 a0_4 = some r) :
  Calls Tryz.prog 74 #[.agg #[.string a0_0, .bool a0_1, .string a0_2, .string a0_3, .string a0_4]] w fun e w' => e = .returned (.bool r) ∧ Below w.heap.size w w' := by
 have hu82 := Tryz.underlying82; have HB := am (Below.refl w.heap.size w)
 have H : (if (a0_0.size : Int) = 1 then (if 0 < (a0_0.size : Int) then ((impl_upper.f (bt a0_0 0)).bind fun t253 => (impl_AffixOk.j0 k (!t253) a0_0 a0_1 a0_2 a0_3 a0_4)) else (none)) else (impl_AffixOk.j0 k true a0_0 a0_1 a0_2 a0_3 a0_4)) = some r := h
 clear h; have HC2 := am H; clear H; go_enter Tryz.func74, Tryz.ntmps74
 go_upto_region 1 with (first | ((with_reducible refine gate_dst (N := 1) rfl ?_); refine bx 1 (cs := #[.string a0_0, .bool a0_1, .string a0_2, .string a0_3, .string a0_4]) (t := 82) ?_; intro gb252 hg w3 hbox hb; have BK252 := am (hbox); have GW252 := am ((b0_ : w.heap.size ≤ gb252)); have GE252 := am ((b0_ : w.heap.size ≤ gb252)); replace HB := am (below_step bel hb); clear hb hbox hg))
 (try simp only [Act.put, List.setIfInBounds_toArray, List.set_cons_zero, List.set_cons_succ])
 go_cut [15] (fun v15 wc => ∃ (kq : Nat) (x15_1 : Bool), v15 = .bool x15_1 ∧ Aside0 (impl_AffixOk.j0 kq x15_1 a0_0 a0_1 a0_2 a0_3 a0_4 = some r) ∧ Aside0 (kq ≤ k) ∧ Aside0 (wc.heap[gb252]? = some (.cells #[.string a0_0, .bool a0_1, .string a0_2, .string a0_3, .string a0_4] 82 (0, 0))) ∧ Aside0 (Below w.heap.size w wc))
 case first =>
  have H := HC2.out; clear HC2
  by_cases c4 : (a0_0.size : Int) = 1
  ·rw [if_pos c4] at H
   have c4b0 : ((a0_0.size : Int) == 1) = true := beq_iff_eq.mpr c4
   have c4b1 : ((a0_0.size : Int) != 1) = false := bne_eq_false_iff_eq.mpr c4
   clear c4
   (first | rw [c4b0] | (simp only [i64_w, i32_w]; rw [c4b0]) | skip)
   replace H := ip H; obtain ⟨c5, H⟩ := H; have c5b0 := decide_eq_true c5
   have c5b1 : decide (0 < a0_0.size) = true := decide_eq_true (by omega)
   clear c5; replace H := bs H; obtain ⟨t253, A70, H⟩ := H; replace H : (impl_AffixOk.j0 k (!t253) a0_0 a0_1 a0_2 a0_3 a0_4) = some r := H; have A7 := Aside0.mk A70; clear A70
   have H' := am H
   clear H; have hcz8_0 := bc BK252.out 0; have hcz8_1 := bc BK252.out 1; have hcz8_2 := bc BK252.out 2; have hcz8_3 := bc BK252.out 3; have hcz8_4 := bc BK252.out 4; have hfz8_0 := bf BK252.out 0; have hfz8_1 := bf BK252.out 1; have hfz8_2 := bf BK252.out 2; have hfz8_3 := bf BK252.out 3; have hfz8_4 := bf BK252.out 4
   have p6 : 0 ≤ (0 : Int) := (by omega)
   have q6 : 0 < a0_0.size := (by have : (0 : Int) < (a0_0.size : Int) := of_decide_eq_true ad; omega)
   have hx6 : ∀ h : 0 < a0_0.size, ((a0_0[0]'h).toNat : Int) = bt a0_0 0 := bt_at a0_0 0
   clear p6
   have qi6 : (0 < (a0_0.size : Int)) = True := eq_true (of_decide_eq_true ad)
   replace q6 := eq_true q6
   go_wp2_with (first | (go_at_call 56; (with_reducible refine (impl_upper.calls (bt a0_0 0) t253 _ A7.out).mono ?_); rintro e w' ⟨rfl, ⟨nd, rfl⟩⟩))
   go_meet
   case rel => exact ⟨_, (!t253), sq, H', ⟨b15_⟩, ⟨bq BK252.out⟩, ⟨bel1 GE252.out⟩⟩
  rw [if_neg c4] at H
  have c4b0 : ((a0_0.size : Int) == 1) = false := beq_eq_false_iff_ne.mpr c4
  have c4b1 : ((a0_0.size : Int) != 1) = true := bne_iff_ne.mpr c4
  (first | rw [c4b0] | (simp only [i64_w, i32_w]; rw [c4b0]) | skip)
  have H' := am H
  clear H; have hcz9_0 := bc BK252.out 0; have hcz9_1 := bc BK252.out 1; have hcz9_2 := bc BK252.out 2; have hcz9_3 := bc BK252.out 3; have hcz9_4 := bc BK252.out 4; have hfz9_0 := bf BK252.out 0; have hfz9_1 := bf BK252.out 1; have hfz9_2 := bf BK252.out 2; have hfz9_3 := bf BK252.out 3; have hfz9_4 := bf BK252.out 4; go_wp2
  go_meet
  case rel => exact ⟨_, (true), sq, H', ⟨b15_⟩, ⟨bq BK252.out⟩, ⟨bel1 GE252.out⟩⟩
 case rest =>
  clear HC2; (try clear p2); (try clear c4); (try clear c4b0); (try clear c4b1); (try clear c5); (try clear c5b0); (try clear c5b1); (try clear p6); (try clear q6); (try clear hx6); (try clear qi6); (try clear c7); (try clear hcz8_0); (try clear hcz8_1); (try clear hcz8_2); (try clear hcz8_3); (try clear hcz8_4); (try clear hcz9_0); (try clear hcz9_1); (try clear hcz9_2); (try clear hcz9_3); (try clear hcz9_4); (try clear hfz8_0); (try clear hfz8_1); (try clear hfz8_2); (try clear hfz8_3); (try clear hfz8_4); (try clear hfz9_0); (try clear hfz9_1); (try clear hfz9_2); (try clear hfz9_3); (try clear hfz9_4); (try clear p6); (try clear q6); obtain ⟨kq, x15_1, rfl, HA, HJ1, BK252, HB⟩ := hcut
  cases kq with
  | zero => exact absurd HA.out (by simp [impl_AffixOk.j0])
  | succ kj1 =>
   have H := HA.out; clear HA
   simp only [impl_AffixOk.j0] at H
   by_cases c10 : x15_1 = true
   ·subst c10
    have H1 : (some false) = some r := b8_
    replace H := H1; clear H1
    obtain rfl := Option.some.inj H; go_wp2; go_ret
    exact ⟨eq_, bel1 GE252.out⟩
   replace c10 := Bool.eq_false_iff.mpr c10; subst c10
   have H1 : ((some (([a0_2, a0_3, a0_4] : List ByteArray) : List ByteArray)).bind fun y254 => (impl_AffixOk.l0 kj1 y254 (y254.length : Int) 0 a0_0 a0_1 a0_2 a0_3 a0_4)) = some r := b2_
   replace H := H1; clear H1
   obtain ⟨y254, hy254⟩ : ∃ y_ : List ByteArray, y_ = (([a0_2, a0_3, a0_4] : List ByteArray)) := ⟨_, rfl⟩
   replace H : (impl_AffixOk.l0 kj1 y254 (y254.length : Int) 0 a0_0 a0_1 a0_2 a0_3 a0_4) = some r := by first | (rw [hy254]; with_reducible exact H) | (have H2_ := bm H; rw [hy254]; with_reducible exact H2_) | (with_reducible exact bm H) | with_reducible exact H | (rw [hy254]; exact H) | exact H
   have Ny254 := am hy254; clear hy254
   have H' := am H
   clear H; have hcz11_0 := bc BK252.out 0; have hcz11_1 := bc BK252.out 1; have hcz11_2 := bc BK252.out 2; have hcz11_3 := bc BK252.out 3; have hcz11_4 := bc BK252.out 4; have hfz11_0 := bf BK252.out 0; have hfz11_1 := bf BK252.out 1; have hfz11_2 := bf BK252.out 2; have hfz11_3 := bf BK252.out 3; have hfz11_4 := bf BK252.out 4
   go_wp2_with (first | ((with_reducible refine gate_dst (N := 22) rfl ?_); refine Kd.R_lit Kd.string _ 9 ?hg (N := 22) ?hd (xs := ([a0_2, a0_3, a0_4] : List ByteArray)) (inner := [.string a0_2, .string a0_3, .string a0_4]) (ok := fun _ => True) (okp := fun _ => True) ?hr ?hp (fun _ hk => hk) trivial (Below.refl _ _) (Nat.le_refl _) (by simp) ?_; (case hd => rfl); (case hg => rfl); (case hr => first | (go_simp; done) | (go_simp; rfl)); (case hp => exact (Reps.one (show Kd.M Kd.string _ _ _ a0_2 [.string a0_2] from rfl) (Reps.one (show Kd.M Kd.string _ _ _ a0_3 [.string a0_3] from rfl) (Reps.one (show Kd.M Kd.string _ _ _ a0_4 [.string a0_4] from rfl) (Reps.none _ _))))); intro v255 w12 ho13 hb hg_ hnew_; clear hg_ hnew_; (first | rw [← Ny254.out] at ho13 | (simp only [Int.reduceToNat] at ho13; rw [← Ny254.out] at ho13) | (simp only [Int.toNat_natCast] at ho13; rw [← Ny254.out] at ho13)); have HO256 := am (Kd.R_lower ho13 (below_size (bel1 GE252.out))); replace BK252 := am (blk_below (g := gb252) (o := .cells #[.string a0_0, .bool a0_1, .string a0_2, .string a0_3, .string a0_4] 82 (0, 0)) (bq BK252.out) hb); replace HB := am (below_step (bel1 GE252.out) hb); clear hb ho13; obtain ⟨Ao14, co14, eo14⟩ := Kd.R_slice HO256.out; subst eo14))
   go_loopg [24] kj1 (fun kq v24 w' => ∃ (x24_2 : Int), v24 = .int .i64 x24_2 ∧ Aside0 (impl_AffixOk.l0 kq y254 (y254.length : Int) x24_2 a0_0 a0_1 a0_2 a0_3 a0_4 = some r) ∧ Aside0 (kq ≤ kj1) ∧ Aside0 (Kd.R Kd.string 9 w' w.heap.size (fun _ => True) (.slice Ao14 y254.length co14) y254) ∧ Aside0 (w'.heap[gb252]? = some (.cells #[.string a0_0, .bool a0_1, .string a0_2, .string a0_3, .string a0_4] 82 (0, 0))) ∧ Aside0 (Below w.heap.size w w'))
   case atStart => exact ⟨(0), sq, H', ⟨Nat.le_refl _⟩, ⟨rq HO256.out⟩, ⟨bq BK252.out⟩, ⟨bel1 GE252.out⟩⟩
   case round =>
    clear H'; (try clear c1); (try clear p2); (try clear c4); (try clear c4b0); (try clear c4b1); (try clear c5); (try clear c5b0); (try clear c5b1); (try clear p6); (try clear q6); (try clear hx6); (try clear qi6); (try clear c7); (try clear c10); (try clear hcz11_0); (try clear hcz11_1); (try clear hcz11_2); (try clear hcz11_3); (try clear hcz11_4); (try clear hcz8_0); (try clear hcz8_1); (try clear hcz8_2); (try clear hcz8_3); (try clear hcz8_4); (try clear hcz9_0); (try clear hcz9_1); (try clear hcz9_2); (try clear hcz9_3); (try clear hcz9_4); (try clear hfz11_0); (try clear hfz11_1); (try clear hfz11_2); (try clear hfz11_3); (try clear hfz11_4); (try clear hfz8_0); (try clear hfz8_1); (try clear hfz8_2); (try clear hfz8_3); (try clear hfz8_4); (try clear hfz9_0); (try clear hfz9_1); (try clear hfz9_2); (try clear hfz9_3); (try clear hfz9_4); (try clear p2); (try clear p6); (try clear q6); obtain ⟨x24_2, rfl, HA, HK2, HO_22, BK252, HB⟩ := hrel
    cases gk with
    | zero => exact absurd HA.out (by simp [impl_AffixOk.l0])
    | succ k2 =>
     have H := HA.out; clear HA
     simp only [impl_AffixOk.l0] at H
     by_cases c15 : x24_2 < (y254.length : Int)
     ·rw [if_pos c15] at H; have c15b0 := decide_eq_true c15; clear c15
      replace H := it H; obtain ⟨c16b0, H⟩ := H
      replace H := it H; obtain ⟨c17b0, H⟩ := H
      by_cases c18 : ((rdOf ByteArray.empty y254 x24_2).size : Int) > 4
      ·rw [if_pos c18] at H; have c18b0 := decide_eq_true c18
       have c18b1 : decide (4 < (rdOf ByteArray.empty y254 x24_2).size) = true := decide_eq_true (by omega)
       clear c18; obtain rfl := Option.some.inj H
       have p257 : 0 ≤ (x24_2 : Int) := of_decide_eq_true ad
       have q257 : x24_2 < (y254.length : Int) := of_decide_eq_true ad
       obtain ⟨ad257, e257, hx257_0⟩ := Kd.at_string (Kd.R_reads' HO_22.out).2.2 x24_2 p257 q257
       cases e257
       replace p257 := eq_true p257; replace q257 := eq_true q257; go_wp2; go_ret
       exact ⟨eq_, bel1 GE252.out⟩
      rw [if_neg c18] at H; have c18b0 := decide_eq_false c18
      have c18b1 : decide (4 < (rdOf ByteArray.empty y254 x24_2).size) = false := decide_eq_false (by omega)
      clear c18; replace H := bs H; obtain ⟨t258, A190, H⟩ := H; replace H : (if t258 = true then (impl_AffixOk.l0 k2 y254 (y254.length : Int) (wrap64 (x24_2 + 1)) a0_0 a0_1 a0_2 a0_3 a0_4) else (some false)) = some r := H; have A19 := Aside0.mk A190; clear A190
      by_cases c20 : t258 = true
      ·subst c20
       have H1 : (impl_AffixOk.l0 k2 y254 (y254.length : Int) (wrap64 (x24_2 + 1)) a0_0 a0_1 a0_2 a0_3 a0_4) = some r := b8_
       replace H := H1; clear H1
       have H' := am H
       clear H
       have p257 : 0 ≤ (x24_2 : Int) := of_decide_eq_true ad
       have q257 : x24_2 < (y254.length : Int) := of_decide_eq_true ad
       obtain ⟨ad257, e257, hx257_0⟩ := Kd.at_string (Kd.R_reads' HO_22.out).2.2 x24_2 p257 q257
       cases e257
       replace p257 := eq_true p257; replace q257 := eq_true q257
       go_wp2_with (first | (go_at_call 96; (with_reducible refine (impl_lower.calls k2 (rdOf ByteArray.empty y254 x24_2) true _ A19.out).mono ?_); rintro e w' ⟨rfl, ⟨nd, rfl⟩⟩))
       go_roundg k2
       case measure => have := HJ1.out; have := HK2.out; omega
       case rel => exact ⟨(wrap64 (x24_2 + 1)), sq, H', ⟨by have := HJ1.out; have := HK2.out; omega⟩, ⟨rq HO_22.out⟩, ⟨bq BK252.out⟩, ⟨bel1 GE252.out⟩⟩
      replace c20 := Bool.eq_false_iff.mpr c20; subst c20
      have H1 : (some false) = some r := b2_
      replace H := H1; clear H1
      obtain rfl := Option.some.inj H
      have p257 : 0 ≤ (x24_2 : Int) := of_decide_eq_true ad
      have q257 : x24_2 < (y254.length : Int) := of_decide_eq_true ad
      obtain ⟨ad257, e257, hx257_0⟩ := Kd.at_string (Kd.R_reads' HO_22.out).2.2 x24_2 p257 q257
      cases e257
      replace p257 := eq_true p257; replace q257 := eq_true q257
      go_wp2_with (first | (go_at_call 96; (with_reducible refine (impl_lower.calls k2 (rdOf ByteArray.empty y254 x24_2) false _ A19.out).mono ?_); rintro e w' ⟨rfl, ⟨nd, rfl⟩⟩))
      go_ret
      exact ⟨eq_, bel1 GE252.out⟩
     rw [if_neg c15] at H; have c15b0 := decide_eq_false c15; clear c15
     by_cases c21 : a0_1 = true
     ·subst c21
      have H1 : ((strings_HasPrefix.f a0_4 a0_2).bind fun t259 => (some t259)) = some r := b8_
      replace H := H1; clear H1
      replace H := bs H; obtain ⟨t259, A220, H⟩ := H; replace H : (some t259) = some r := H; have A22 := Aside0.mk A220; clear A220; obtain rfl := Option.some.inj H; have hcz23_0 := bc BK252.out 0; have hcz23_1 := bc BK252.out 1; have hcz23_2 := bc BK252.out 2; have hcz23_3 := bc BK252.out 3; have hcz23_4 := bc BK252.out 4; have hfz23_0 := bf BK252.out 0; have hfz23_1 := bf BK252.out 1; have hfz23_2 := bf BK252.out 2; have hfz23_3 := bf BK252.out 3; have hfz23_4 := bf BK252.out 4
      go_wp2_with (first | ((with_reducible refine gate_callee (f := 97) rfl ?_); refine goesL_ (some 43) rfl rfl Tryz.func97 (by kernel_rfl) rfl #[.string a0_4, .string a0_2] rfl mq ?_; (with_reducible refine (strings_HasPrefix.calls a0_4 a0_2 t259 _ A22.out).mono ?_); rintro e w' ⟨rfl, ⟨nd, rfl⟩⟩; refine ⟨_, rfl, ?_⟩))
      go_ret
      exact ⟨eq_, bel1 GE252.out⟩
     replace c21 := Bool.eq_false_iff.mpr c21; subst c21
     have H1 : ((strings_HasSuffix.f a0_4 a0_2).bind fun t260 => (some t260)) = some r := b2_
     replace H := H1; clear H1
     replace H := bs H; obtain ⟨t260, A240, H⟩ := H; replace H : (some t260) = some r := H; have A24 := Aside0.mk A240; clear A240; obtain rfl := Option.some.inj H; have hcz25_0 := bc BK252.out 0; have hcz25_1 := bc BK252.out 1; have hcz25_2 := bc BK252.out 2; have hcz25_3 := bc BK252.out 3; have hcz25_4 := bc BK252.out 4; have hfz25_0 := bf BK252.out 0; have hfz25_1 := bf BK252.out 1; have hfz25_2 := bf BK252.out 2; have hfz25_3 := bf BK252.out 3; have hfz25_4 := bf BK252.out 4
     go_wp2_with (first | ((with_reducible refine gate_callee (f := 98) rfl ?_); refine goesL_ (some 48) rfl rfl Tryz.func98 (by kernel_rfl) rfl #[.string a0_4, .string a0_2] rfl mq ?_; (with_reducible refine (strings_HasSuffix.calls a0_4 a0_2 t260 _ A24.out).mono ?_); rintro e w' ⟨rfl, ⟨nd, rfl⟩⟩; refine ⟨_, rfl, ?_⟩))
     go_ret
     exact ⟨eq_, bel1 GE252.out⟩

/-! ### impl_Affix_99: function 99 -/
def impl_Affix_99.l0 : Nat → List (S82) → Int → Int → ByteArray → Bool → ByteArray → ByteArray → ByteArray → Option (Int)
 | 0, _, _, _, _, _, _, _, _ => none
 | k + 1, x0, x7, x8, x262000, x262001, x262002, x262003, x262004 => if x8 < x7 then (if 0 ≤ x8 then (if x8 < (x0.length : Int) then (if (x262000.toList == (((rd_T82 x0 x8).f0).toList) && (x262001 == ((rd_T82 x0 x8).f1) && (x262002.toList == (((rd_T82 x0 x8).f2).toList) && (x262003.toList == (((rd_T82 x0 x8).f3).toList) && (x262004.toList == (((rd_T82 x0 x8).f4).toList)))))) = true then (some x8) else (impl_Affix_99.l0 k x0 x7 (wrap64 (x8 + 1)) x262000 x262001 x262002 x262003 x262004)) else (none)) else (none)) else (some (-1))
def impl_Affix_99.f (k : Nat) (l0 : List (S82)) (a1_0 : ByteArray) (a1_1 : Bool) (a1_2 : ByteArray) (a1_3 : ByteArray) (a1_4 : ByteArray) : Option (Int) := impl_Affix_99.l0 k l0 (l0.length : Int) 0 a1_0 a1_1 a1_2 a1_3 a1_4
theorem impl_Affix_99.calls (k : Nat) (A0 : Option Addr) (c0 : Nat) (l0 : List (S82)) (a1_0 : ByteArray) (a1_1 : Bool) (a1_2 : ByteArray) (a1_3 : ByteArray) (a1_4 : ByteArray) (r : Int) (w : World) (hr0 : Kd.C k82 w A0 l0.length l0) (hc0 : l0.length ≤ c0) (h : impl_Affix_99.f k l0 a1_0 a1_1 a1_2 a1_3 a1_4 = some r) :
  Calls Tryz.prog 99 #[.slice A0 l0.length c0, .agg #[.string a1_0, .bool a1_1, .string a1_2, .string a1_3, .string a1_4]] w fun e w' => e = .returned (.int .i64 r) ∧ Below w.heap.size w w' := by
 have hu82 := Tryz.underlying82; have HR0 := am hr0; have HC0 := am hc0; clear hr0 hc0; have HB := am (Below.refl w.heap.size w)
 have H : (impl_Affix_99.l0 k l0 (l0.length : Int) 0 a1_0 a1_1 a1_2 a1_3 a1_4) = some r := h
 clear h
 have H' := am H
 clear H; go_enter Tryz.func99, Tryz.ntmps99
 go_wp2_with (first | ((with_reducible refine gate_dst (N := 3) rfl ?_); refine bx 3 (cs := #[.string a1_0, .bool a1_1, .string a1_2, .string a1_3, .string a1_4]) (t := 82) ?_; intro gb261 hg w3 hbox hb; have BK261 := am (hbox); have GW261 := am ((b0_ : w.heap.size ≤ gb261)); have GE261 := am ((b0_ : w.heap.size ≤ gb261)); replace HB := am (below_step bel hb); clear hb hbox hg))
 repeat (go_quiet (first | ((with_reducible refine gate_dst (N := 3) rfl ?_); refine bx 3 (cs := #[.string a1_0, .bool a1_1, .string a1_2, .string a1_3, .string a1_4]) (t := 82) ?_; intro gb261 hg w3 hbox hb; have BK261 := am (hbox); have GW261 := am ((b0_ : w.heap.size ≤ gb261)); have GE261 := am ((b0_ : w.heap.size ≤ gb261)); replace HB := am (below_step bel hb); clear hb hbox hg)); try go_wp2_with (first | ((with_reducible refine gate_dst (N := 3) rfl ?_); refine bx 3 (cs := #[.string a1_0, .bool a1_1, .string a1_2, .string a1_3, .string a1_4]) (t := 82) ?_; intro gb261 hg w3 hbox hb; have BK261 := am (hbox); have GW261 := am ((b0_ : w.heap.size ≤ gb261)); have GE261 := am ((b0_ : w.heap.size ≤ gb261)); replace HB := am (below_step bel hb); clear hb hbox hg)))
 go_loopg [8] k (fun kq v8 w' => ∃ (x8_1 : Int), v8 = .int .i64 x8_1 ∧ Aside0 (impl_Affix_99.l0 kq l0 (l0.length : Int) x8_1 a1_0 a1_1 a1_2 a1_3 a1_4 = some r) ∧ Aside0 (kq ≤ k) ∧ Aside0 (w'.heap[gb261]? = some (.cells #[.string a1_0, .bool a1_1, .string a1_2, .string a1_3, .string a1_4] 82 (0, 0))) ∧ Aside0 (Below w.heap.size w w'))
 case atStart => exact ⟨(0), sq, H', ⟨Nat.le_refl _⟩, ⟨bq BK261.out⟩, ⟨bel1 GE261.out⟩⟩
 case round =>
  clear H'; (try clear p2); obtain ⟨x8_1, rfl, HA, HK1, BK261, HB⟩ := hrel
  cases gk with
  | zero => exact absurd HA.out (by simp [impl_Affix_99.l0])
  | succ k1 =>
   have H := HA.out; clear HA
   simp only [impl_Affix_99.l0] at H
   by_cases c4 : x8_1 < (l0.length : Int)
   ·rw [if_pos c4] at H; have c4b0 := decide_eq_true c4; clear c4
    replace H := it H; obtain ⟨c5b0, H⟩ := H
    replace H := it H; obtain ⟨c6b0, H⟩ := H
    by_cases c7 : (a1_0.toList == (((rd_T82 l0 x8_1).f0).toList) && (a1_1 == ((rd_T82 l0 x8_1).f1) && (a1_2.toList == (((rd_T82 l0 x8_1).f2).toList) && (a1_3.toList == (((rd_T82 l0 x8_1).f3).toList) && (a1_4.toList == (((rd_T82 l0 x8_1).f4).toList)))))) = true
    ·rw [if_pos c7] at H
     have c7b0 : (a1_0.toList == (((rd_T82 l0 x8_1).f0).toList) && (a1_1 == ((rd_T82 l0 x8_1).f1) && (a1_2.toList == (((rd_T82 l0 x8_1).f2).toList) && (a1_3.toList == (((rd_T82 l0 x8_1).f3).toList) && (a1_4.toList == (((rd_T82 l0 x8_1).f4).toList)))))) = true := c7
     (try (have c7b1 : decide (a1_0.toList = (((rd_T82 l0 x8_1).f0).toList) && (a1_1 == ((rd_T82 l0 x8_1).f1) && (a1_2.toList == (((rd_T82 l0 x8_1).f2).toList) && (a1_3.toList == (((rd_T82 l0 x8_1).f3).toList) && (a1_4.toList == (((rd_T82 l0 x8_1).f4).toList)))))) = true := by simpa using c7))
     (try (have c7b2 : (a1_0.toList == (((rd_T82 l0 x8_1).f0).toList) && (a1_1 == ((rd_T82 l0 x8_1).f1) && (a1_2.toList == (((rd_T82 l0 x8_1).f2).toList) && (a1_3.toList == (((rd_T82 l0 x8_1).f3).toList) && (a1_4.toList == (((rd_T82 l0 x8_1).f4).toList)))))) = true := by simpa using c7))
     clear c7; obtain rfl := Option.some.inj H; have hcz8_0 := bc BK261.out 0; have hcz8_1 := bc BK261.out 1; have hcz8_2 := bc BK261.out 2; have hcz8_3 := bc BK261.out 3; have hcz8_4 := bc BK261.out 4; have hfz8_0 := bf BK261.out 0; have hfz8_1 := bf BK261.out 1; have hfz8_2 := bf BK261.out 2; have hfz8_3 := bf BK261.out 3; have hfz8_4 := bf BK261.out 4
     have p262 : 0 ≤ (x8_1 : Int) := of_decide_eq_true ad
     have q262 : x8_1 < (l0.length : Int) := of_decide_eq_true ad
     obtain ⟨ad262, e262, hx262_0, hx262_1, hx262_2, hx262_3, hx262_4⟩ := at_T82 HR0.out x8_1 p262 q262
     cases e262
     replace hx262_0 := kp HB.out hx262_0; replace hx262_1 := kp HB.out hx262_1; replace hx262_2 := kp HB.out hx262_2; replace hx262_3 := kp HB.out hx262_3; replace hx262_4 := kp HB.out hx262_4; replace p262 := eq_true p262; replace q262 := eq_true q262; go_wp2
     repeat (go_quiet (fail); try go_wp2)
     go_ret
     exact ⟨eq_, bel1 GE261.out⟩
    rw [if_neg c7] at H
    have c7b0 : (a1_0.toList == (((rd_T82 l0 x8_1).f0).toList) && (a1_1 == ((rd_T82 l0 x8_1).f1) && (a1_2.toList == (((rd_T82 l0 x8_1).f2).toList) && (a1_3.toList == (((rd_T82 l0 x8_1).f3).toList) && (a1_4.toList == (((rd_T82 l0 x8_1).f4).toList)))))) = false := by simpa using c7
    (try (have c7b1 : decide (a1_0.toList = (((rd_T82 l0 x8_1).f0).toList) && (a1_1 == ((rd_T82 l0 x8_1).f1) && (a1_2.toList == (((rd_T82 l0 x8_1).f2).toList) && (a1_3.toList == (((rd_T82 l0 x8_1).f3).toList) && (a1_4.toList == (((rd_T82 l0 x8_1).f4).toList)))))) = false := by simpa using c7))
    (try (have c7b2 : (a1_0.toList == (((rd_T82 l0 x8_1).f0).toList) && (a1_1 == ((rd_T82 l0 x8_1).f1) && (a1_2.toList == (((rd_T82 l0 x8_1).f2).toList) && (a1_3.toList == (((rd_T82 l0 x8_1).f3).toList) && (a1_4.toList == (((rd_T82 l0 x8_1).f4).toList)))))) = false := by simpa using c7))
    (try (have c7b3 : ¬ (a1_0.toList = (((rd_T82 l0 x8_1).f0).toList) && (a1_1 == ((rd_T82 l0 x8_1).f1) && (a1_2.toList == (((rd_T82 l0 x8_1).f2).toList) && (a1_3.toList == (((rd_T82 l0 x8_1).f3).toList) && (a1_4.toList == (((rd_T82 l0 x8_1).f4).toList)))))) := by simpa using c7))
    clear c7
    have H' := am H
    clear H; have hcz9_0 := bc BK261.out 0; have hcz9_1 := bc BK261.out 1; have hcz9_2 := bc BK261.out 2; have hcz9_3 := bc BK261.out 3; have hcz9_4 := bc BK261.out 4; have hfz9_0 := bf BK261.out 0; have hfz9_1 := bf BK261.out 1; have hfz9_2 := bf BK261.out 2; have hfz9_3 := bf BK261.out 3; have hfz9_4 := bf BK261.out 4
    have p262 : 0 ≤ (x8_1 : Int) := of_decide_eq_true ad
    have q262 : x8_1 < (l0.length : Int) := of_decide_eq_true ad
    obtain ⟨ad262, e262, hx262_0, hx262_1, hx262_2, hx262_3, hx262_4⟩ := at_T82 HR0.out x8_1 p262 q262
    cases e262
    replace hx262_0 := kp HB.out hx262_0; replace hx262_1 := kp HB.out hx262_1; replace hx262_2 := kp HB.out hx262_2; replace hx262_3 := kp HB.out hx262_3; replace hx262_4 := kp HB.out hx262_4; replace p262 := eq_true p262; replace q262 := eq_true q262; go_wp2
    repeat (go_quiet (fail); try go_wp2)
    go_roundg k1
    case measure => have := HK1.out; omega
    case rel => exact ⟨(wrap64 (x8_1 + 1)), sq, H', ⟨b14_⟩, ⟨bq BK261.out⟩, ⟨bel1 GE261.out⟩⟩
   rw [if_neg c4] at H; have c4b0 := decide_eq_false c4; clear c4; obtain rfl := Option.some.inj H; go_wp2
   repeat (go_quiet (fail); try go_wp2)
   go_ret
   exact ⟨eq_, bel1 GE261.out⟩

/-! ### impl_Affix_75: function 75 -/
def impl_Affix_75.f (k : Nat) (l0 : List (S82)) (a1_0 : ByteArray) (a1_1 : Bool) (a1_2 : ByteArray) (a1_3 : ByteArray) (a1_4 : ByteArray) : Option (Bool) := (impl_Affix_99.f k l0 a1_0 a1_1 a1_2 a1_3 a1_4).bind fun t264 => (some (decide (t264 ≥ 0)))
theorem impl_Affix_75.calls (k : Nat) (A0 : Option Addr) (c0 : Nat) (l0 : List (S82)) (a1_0 : ByteArray) (a1_1 : Bool) (a1_2 : ByteArray) (a1_3 : ByteArray) (a1_4 : ByteArray) (r : Bool) (w : World) (hr0 : Kd.C k82 w A0 l0.length l0) (hc0 : l0.length ≤ c0) (h : impl_Affix_75.f k l0 a1_0 a1_1 a1_2 a1_3 a1_4 = some r) :
  Calls Tryz.prog 75 #[.slice A0 l0.length c0, .agg #[.string a1_0, .bool a1_1, .string a1_2, .string a1_3, .string a1_4]] w fun e w' => e = .returned (.bool r) ∧ Below w.heap.size w w' := by
 have hu82 := Tryz.underlying82; have HR0 := am hr0; have HC0 := am hc0; clear hr0 hc0; have HB := am (Below.refl w.heap.size w)
 have H : ((impl_Affix_99.f k l0 a1_0 a1_1 a1_2 a1_3 a1_4).bind fun t264 => (some (decide (t264 ≥ 0)))) = some r := h
 clear h; replace H := bs H; obtain ⟨t264, A30, H⟩ := H; replace H : (some (decide (t264 ≥ 0))) = some r := H; have A3 := Aside0.mk A30; clear A30; obtain rfl := Option.some.inj H; go_enter Tryz.func75, Tryz.ntmps75
 go_wp2_with (first | ((with_reducible refine gate_dst (N := 3) rfl ?_); refine bx 3 (cs := #[.string a1_0, .bool a1_1, .string a1_2, .string a1_3, .string a1_4]) (t := 82) ?_; intro gb263 hg w4 hbox hb; have BK263 := am (hbox); have GW263 := am ((b0_ : w.heap.size ≤ gb263)); have GE263 := am ((b0_ : w.heap.size ≤ gb263)); replace HB := am (below_step bel hb); clear hb hbox hg; have hcz5_0 := bc BK263.out 0; have hcz5_1 := bc BK263.out 1; have hcz5_2 := bc BK263.out 2; have hcz5_3 := bc BK263.out 3; have hcz5_4 := bc BK263.out 4; have hfz5_0 := bf BK263.out 0; have hfz5_1 := bf BK263.out 1; have hfz5_2 := bf BK263.out 2; have hfz5_3 := bf BK263.out 3; have hfz5_4 := bf BK263.out 4) | ((with_reducible refine gate_callee (f := 99) rfl ?_); refine goesL_ (some 7) rfl rfl Tryz.func99 (by kernel_rfl) rfl #[.slice A0 l0.length c0, .agg #[.string a1_0, .bool a1_1, .string a1_2, .string a1_3, .string a1_4]] rfl mq ?_; (with_reducible refine (impl_Affix_99.calls k _ _ l0 a1_0 a1_1 a1_2 a1_3 a1_4 t264 _ ?side1 ?side2 A3.out).mono ?_); (case side1 => exact cq (Kd.C_below HR0.out HB.out)); (case side2 => exact HC0.out); rintro e w6 ⟨rfl, hb⟩; refine ⟨_, rfl, ?_⟩; replace BK263 := am (blk_below (g := gb263) (o := .cells #[.string a1_0, .bool a1_1, .string a1_2, .string a1_3, .string a1_4] 82 (0, 0)) (bq BK263.out) hb); replace HB := am (below_step (bel1 GE263.out) hb); (try clear hb); (try clear hb2); (try clear hk); (try clear hi)))
 go_ret
 exact ⟨eq_, bel1 GE263.out⟩
end Go.Proofs.YtfpmfaelodfecaaGreatDoor.QFnExactCheck

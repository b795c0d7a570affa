import Derived.Test.YtdfnijaacnlfaaaQFnDeltaOfx0
import Derived.Test.YtdfnijaacnlfaaaVMSh2
namespace Go.Proofs.Ytdfnijaacnlfaaa.QFnDeltaOf
open Go.RowKit Go.Proofs.YtdfnijaacnlfaaaW.PrintWords Go.Proofs.YtdfnijaacnlfaaaW.PrintLast Go.Proofs.YtdfnijaacnlfaaaW.PrintMore Go.Proofs.Ytdfnijaacnlfaaa.Sh
attribute [local go_sem] max2_int min2_int max_two min_two max_three min_three max_four min_four
set_option linter.unusedVariables false
set_option linter.unusedSimpArgs false
set_option maxHeartbeats 8000000
set_option maxRecDepth 100000
-- shrunk

/-- A state of type 114 at block g of W; what its slices lead to came in by w0. -/
def IsS114 (w0 W : World) (g : Nat) (f0 : List Int) (f1 : Int) : Prop := ∃ A0 c0, W.heap[g]? = some (.cells #[.slice A0 f0.length c0, .int .i64 f1] 114 (0, 0)) ∧ w0.heap.size ≤ g ∧ Kd.C (Kd.int .u8) w0 A0 f0.length f0
theorem IsS114.grown {w0 W : World} {g : Nat} {f0 : List Int} {f1 : Int} {W1 : World} {row : Option Nat} (h : IsS114 w0 W g f0 f1) (hw : W.grownBy W1 row) (hne : some g ≠ row) : IsS114 w0 W1 g f0 f1 := by
 obtain ⟨A0, c0, hb, hg, hr0⟩ := h
 exact ⟨A0, c0, blk_grown hb hw hne, hg, hr0⟩
theorem IsS114.own_neN {w0 W : World} {g : Nat} {f0 : List Int} {f1 : Int} {α : Type} {d : Kd α} {e : Nat} {base : Nat} {ok : Nat → Prop} {v : Value} {xs : List α} (h : IsS114 w0 W g f0 f1) (ho : Kd.N d e W base ok v xs) (ht : e ≠ 114) : some g ≠ v.ownBlock := by
 obtain ⟨A0, c0, hb, hg, hr0⟩ := h
 exact Kd.N_ne ho hb ht
theorem IsS114.fresh {w0 W : World} {g : Nat} {f0 : List Int} {f1 : Int} (h : IsS114 w0 W g f0 f1) : ∀ k, W.heap.size ≤ k → k ≠ g := by
 obtain ⟨A0, c0, hb, hg, hr0⟩ := h
 exact Kd.freshB hb
theorem IsS114.kept {w0 W : World} {g : Nat} {f0 : List Int} {f1 : Int} {W1 : World} {S : Nat → Prop} (h : IsS114 w0 W g f0 f1) (hk : Kept W W1 S) (hne : ¬ S g) : IsS114 w0 W1 g f0 f1 := by
 obtain ⟨A0, c0, hb, hg, hr0⟩ := h
 exact ⟨A0, c0, blk_kept hb hk hne, hg, hr0⟩
theorem IsS114.below {w0 W : World} {g : Nat} {f0 : List Int} {f1 : Int} {W1 : World} (h : IsS114 w0 W g f0 f1) (hw : Below W.heap.size W W1) : IsS114 w0 W1 g f0 f1 := h.grown (grown_of_below hw none) (by simp)
theorem IsS114.alloc {w0 W : World} {g : Nat} {f0 : List Int} {f1 : Int} (h : IsS114 w0 W g f0 f1) (o : Obj) : IsS114 w0 (W.alloc o) g f0 f1 := h.below (below_alloc (Below.refl _ _) o)
theorem IsS114.drewN {w0 W : World} {g : Nat} {f0 : List Int} {f1 : Int} (h : IsS114 w0 W g f0 f1) (m : Nat) : IsS114 w0 (W.drewN m) g f0 f1 := h
theorem IsS114.drew {w0 W : World} {g : Nat} {f0 : List Int} {f1 : Int} (h : IsS114 w0 W g f0 f1) : IsS114 w0 W.drew g f0 f1 := h
theorem IsS114.at_ {w0 W : World} {g : Nat} {f0 : List Int} {f1 : Int} {w' : World} {m : Nat} (hq : W.drewN m = w') (h : IsS114 w0 W g f0 f1) : IsS114 w0 w' g f0 f1 := by subst hq; exact IsS114.drewN h m
theorem IsS114.apart {w0 W : World} {g : Nat} {f0 : List Int} {f1 : Int} {α : Type} {d : Kd α} {e : Nat} {base : Nat} {ok : Nat → Prop} {v : Value} {xs : List α} (h : IsS114 w0 W g f0 f1) (ho : d.R e W base ok v xs) (ht : ∀ q, q ∈ e :: d.E → q ≠ 114) : d.R e W base (fun k => ok k ∧ k ≠ g) v xs := by
 obtain ⟨A0, c0, hb, hg, hr0⟩ := h
 exact Kd.R_types ho hb ht
theorem IsS114.own_ne {w0 W : World} {g : Nat} {f0 : List Int} {f1 : Int} {α : Type} {d : Kd α} {e : Nat} {base : Nat} {ok : Nat → Prop} {v : Value} {xs : List α} (h : IsS114 w0 W g f0 f1) (ho : d.R e W base ok v xs) (ht : e ≠ 114) : some g ≠ v.ownBlock := by
 obtain ⟨A0, c0, hb, hg, hr0⟩ := h
 exact Kd.R_ne ho hb ht
theorem IsS114.apartQ {w0 W : World} {g : Nat} {f0 : List Int} {f1 : Int} {α : Type} {d : Kd α} {e : Nat} {base : Nat} {ok : Nat → Prop} {v : Value} {xs : List α} (h : IsS114 w0 W g f0 f1) (ho : d.Q e W base ok v xs) (ht : ∀ q, q ∈ e :: d.E → q ≠ 114) : d.Q e W base (fun k => ok k ∧ k ≠ g) v xs := by
 obtain ⟨A0, c0, hb, hg, hr0⟩ := h
 exact Kd.Q_types ho hb ht
theorem IsS114.own_neQ {w0 W : World} {g : Nat} {f0 : List Int} {f1 : Int} {α : Type} {d : Kd α} {e : Nat} {base : Nat} {ok : Nat → Prop} {v : Value} {xs : List α} (h : IsS114 w0 W g f0 f1) (ho : d.Q e W base ok v xs) (ht : e ≠ 114) : some g ≠ v.ownBlock := by
 obtain ⟨A0, c0, hb, hg, hr0⟩ := h
 exact Kd.Q_ne ho hb ht
theorem IsS114.apartS {w0 W : World} {g : Nat} {f0 : List Int} {f1 : Int} {α : Type} {d : Kd α} {e : Nat} {base : Nat} {ok : Nat → Prop} {v : Value} {xs : List α} (h : IsS114 w0 W g f0 f1) (ho : d.S e W base ok v xs) (ht : ∀ q, q ∈ e :: d.E → q ≠ 114) : d.S e W base (fun k => ok k ∧ k ≠ g) v xs := by
 obtain ⟨A0, c0, hb, hg, hr0⟩ := h
 exact Kd.S_types ho hb ht
theorem IsS114.own_neS {w0 W : World} {g : Nat} {f0 : List Int} {f1 : Int} {α : Type} {d : Kd α} {e : Nat} {base : Nat} {ok : Nat → Prop} {v : Value} {xs : List α} (h : IsS114 w0 W g f0 f1) (ho : d.S e W base ok v xs) (ht : e ≠ 114) : some g ≠ v.ownBlock := by
 obtain ⟨A0, c0, hb, hg, hr0⟩ := h
 exact Kd.S_ne ho hb ht
theorem IsS114.lt {w0 W : World} {g : Nat} {f0 : List Int} {f1 : Int} (h : IsS114 w0 W g f0 f1) : g < W.heap.size := by
 obtain ⟨A0, c0, hb, hg, hr0⟩ := h
 exact blk_lt hb
theorem IsS114.ge {w0 W : World} {g : Nat} {f0 : List Int} {f1 : Int} (h : IsS114 w0 W g f0 f1) : w0.heap.size ≤ g := by
 obtain ⟨A0, c0, hb, hg, hr0⟩ := h
 exact hg
theorem IsS114.ne_blk {w0 W : World} {g : Nat} {f0 : List Int} {f1 : Int} {a : Nat} {cs : Array Value} {t : TypeId} {fr : Nat × Nat} (h : IsS114 w0 W g f0 f1) (hb2 : W.heap[a]? = some (.cells cs t fr)) (ht : t ≠ 114) : g ≠ a := by
 obtain ⟨A0, c0, hb, hg, hr0⟩ := h
 rintro rfl
 rw [hb] at hb2
 injection hb2 with hb2
 injection hb2 with _ ht2
 exact ht ht2.symm
theorem IsS114.far {w0 W : World} {g : Nat} {f0 : List Int} {f1 : Int} {p : Addr} (h : IsS114 w0 W g f0 f1) (hne : g ≠ p.block) (u : Value) : IsS114 w0 (W.setCell p u) g f0 f1 := by
 obtain ⟨A0, c0, hb, hg, hr0⟩ := h
 exact ⟨A0, c0, blk_far hb hne u, hg, hr0⟩
theorem cellS114_0 {W : World} {g : Nat} {A0 : Option Addr} {c0 : Nat} {f0 : List Int} {f1 : Int} (h : W.heap[g]? = some (.cells #[.slice A0 f0.length c0, .int .i64 f1] 114 (0, 0))) : W.cell? ⟨g, 0, none⟩ = some (.slice A0 f0.length c0) := (blk_cell h 0).trans rfl
theorem cellS114_1 {W : World} {g : Nat} {A0 : Option Addr} {c0 : Nat} {f0 : List Int} {f1 : Int} (h : W.heap[g]? = some (.cells #[.slice A0 f0.length c0, .int .i64 f1] 114 (0, 0))) : W.cell? ⟨g, 1, none⟩ = some (.int .i64 f1) := (blk_cell h 1).trans rfl
theorem IsS114.set_1 {w0 W : World} {g : Nat} {f0 : List Int} {f1 : Int} (h : IsS114 w0 W g f0 f1) (x : Int) : IsS114 w0 (W.setCell ⟨g, 1, none⟩ (.int .i64 x)) g f0 x := by
 obtain ⟨A0, c0, hb, hg, hr0⟩ := h
 exact ⟨A0, c0, by simpa using blk_set hb 1 (.int .i64 x), hg, hr0⟩
theorem IsS114.new (w0 W : World) (A0 : Option Addr) (c0 : Nat) (f0 : List Int) (f1 : Int) (hB : Below w0.heap.size w0 W) (hr0 : Kd.C (Kd.int .u8) w0 A0 f0.length f0) : IsS114 w0 (W.alloc (.cells #[.slice A0 f0.length c0, .int .i64 f1] 114)) W.heap.size f0 f1 := ⟨A0, c0, by simpa using heap_alloc_new W _, hB.size, hr0⟩

/-! ### spec_l1Open: function 51 -/
def spec_l1Open.f (l0 : List Int) : Option (List Int × Int) := if (l0.length : Int) > 2000 then (if 2000 ≤ (l0.length : Int) then (some (l0.take 2000, 0)) else (none)) else (some (l0, 0))
theorem spec_l1Open.calls (A0 : Option Addr) (c0 : Nat) (l0 : List Int) (r1 : List Int) (r2 : Int) (w0 w : World) (hB : Below w0.heap.size w0 w) (hr0 : Kd.C (Kd.int .u8) w0 A0 l0.length l0) (hc0 : l0.length ≤ c0) (h : spec_l1Open.f l0 = some (r1, r2)) :
  Calls Try.prog 51 #[.slice A0 l0.length c0] w fun e w' => ∃ g_ : Nat, e = .returned (.pointer (some ⟨g_, 0, none⟩)) ∧ IsS114 w0 w' g_ r1 r2 ∧ Below w0.heap.size w0 w' ∧ Below w.heap.size w w' := by
 have hu114 := Try.underlying114; have HR0 := am hr0; have HC0 := am hc0; clear hr0 hc0; have HBW := am (Below.refl w.heap.size w); have HW0 := am hB.size; have HB := am hB; clear hB
 have H := h; unfold spec_l1Open.f at H
 clear h
 by_cases c2 : (l0.length : Int) > 2000
 ·rw [if_pos c2] at H; have c2b0 := decide_eq_true c2
  have c2b1 : decide (2000 < l0.length) = true := decide_eq_true (by omega)
  clear c2; replace H := ip H; obtain ⟨c3, H⟩ := H; have c3b0 := eq_true c3
  have c3b1 : decide (2000 ≤ (l0.length : Int)) = true := decide_eq_true c3
  clear c3; simp only [Option.some.injEq, Prod.mk.injEq] at H; obtain ⟨rfl, rfl⟩ := H; obtain ⟨i04, hi04, _, hsz4, _⟩ := info_parts info5; obtain ⟨hcut4, hA4, hC4⟩ := print_take_of (P := Try.prog) (Value.int .u8) 0 41 5 .i64 Try.underlying41 hi04 hsz4 A0 c0 l0 2000 (by omega) (of_decide_eq_true ad) HC0.out
  have HR227 := am (Kd.C_of_reads (h1 := fun _ => rfl) (hA4 _ (Kd.reads_of_C HR0.out))); have HC227 := am hC4; clear hA4 hC4 hi04 hsz4; go_enter Try.func51, Try.ntmps51
  go_wp2_with ((with_reducible refine gate_dst (N := 10) rfl ?_); refine bx 10 (cs := #[.slice A0 (l0.take 2000).length c0, .int .i64 0]) (t := 114) ?_; intro gb228 hg w5 hbox hb; replace HB := am (below_step bel hb); have BK228 := am (hbox); have GW228 := am ((b109_ : w.heap.size ≤ gb228)); have GE228 := am ((Nat.le_trans HW0.out (b109_ : w.heap.size ≤ gb228) : w0.heap.size ≤ gb228)); replace HBW := am (below_step HBW.out hb); clear hb hbox hg)
  go_ret
  exact ⟨_, rfl, (show IsS114 w0 _ gb228 (l0.take 2000) 0 from ⟨_, _, by (with_reducible repeat (fail)); exact BK228.out, GE228.out, HR227.out⟩), bel1 GE228.out, by repeat (with_reducible exact HBW.out)⟩
 rw [if_neg c2] at H; have c2b0 := decide_eq_false c2
 have c2b1 : decide (2000 < l0.length) = false := decide_eq_false (by omega)
 clear c2
 simp only [Option.some.injEq, Prod.mk.injEq] at H
 obtain ⟨rfl, rfl⟩ := H; go_enter Try.func51, Try.ntmps51
 go_wp2_with ((with_reducible refine gate_dst (N := 10) rfl ?_); refine bx 10 (cs := #[.slice A0 l0.length c0, .int .i64 0]) (t := 114) ?_; intro gb229 hg w6 hbox hb; replace HB := am (below_step bel hb); have BK229 := am (hbox); have GW229 := am ((b109_ : w.heap.size ≤ gb229)); have GE229 := am ((Nat.le_trans HW0.out (b109_ : w.heap.size ≤ gb229) : w0.heap.size ≤ gb229)); replace HBW := am (below_step HBW.out hb); clear hb hbox hg)
 go_ret
 exact ⟨_, rfl, (show IsS114 w0 _ gb229 l0 0 from ⟨_, _, by (with_reducible repeat (fail)); exact BK229.out, GE229.out, HR0.out⟩), bel1 GE229.out, by repeat (with_reducible exact HBW.out)⟩

/-! ### spec_l1Rd_pick: function 53 -/
def spec_l1Rd_pick.j0 : Nat → Int → Bool → List Int → Int → Option (Int × Int)
 | 0, _, _, _, _ => none
 | k + 1, x1, x24, x1000, x1001 => if x24 = true then (some (0, x1001)) else (if (wrap64 (x1001 - 1)) < (x1000.length : Int) then (if 0 ≤ (wrap64 (x1001 - 1)) then (if x1 = 0 then (none) else (some (Int.tmod (wrap64 (rd x1000 (wrap64 (x1001 - 1)))) x1, x1001))) else (none)) else (if (x1000.length : Int) = 0 then (none) else (if 0 ≤ (Int.tmod (wrap64 (x1001 - 1)) (x1000.length : Int)) then (if (Int.tmod (wrap64 (x1001 - 1)) (x1000.length : Int)) < (x1000.length : Int) then (if 0 ≤ (Int.tmod (wrap64 ((wrap64 ((wrap64 (x1001 - 1)) * 7)) + 3)) (x1000.length : Int)) then (if (Int.tmod (wrap64 ((wrap64 ((wrap64 (x1001 - 1)) * 7)) + 3)) (x1000.length : Int)) < (x1000.length : Int) then (if x1 = 0 then (none) else (some (Int.tmod (Go.bits .xor .i64 (wrap64 ((wrap64 ((wrap64 ((wrap64 ((wrap64 (rd x1000 (Int.tmod (wrap64 (x1001 - 1)) (x1000.length : Int)))) * 131)) + (wrap64 ((wrap64 (rd x1000 (Int.tmod (wrap64 ((wrap64 ((wrap64 (x1001 - 1)) * 7)) + 3)) (x1000.length : Int)))) * 1117)))) + (wrap64 ((wrap64 (x1001 - 1)) * 29)))) + (wrap64 ((wrap64 (Int.tdiv (wrap64 (x1001 - 1)) (x1000.length : Int))) * 53)))) (wrap64 (Int.tdiv (wrap64 ((wrap64 ((wrap64 ((wrap64 ((wrap64 (rd x1000 (Int.tmod (wrap64 (x1001 - 1)) (x1000.length : Int)))) * 131)) + (wrap64 ((wrap64 (rd x1000 (Int.tmod (wrap64 ((wrap64 ((wrap64 (x1001 - 1)) * 7)) + 3)) (x1000.length : Int)))) * 1117)))) + (wrap64 ((wrap64 (x1001 - 1)) * 29)))) + (wrap64 ((wrap64 (Int.tdiv (wrap64 (x1001 - 1)) (x1000.length : Int))) * 53)))) 64))) x1, x1001))) else (none)) else (none)) else (none)) else (none))))
def spec_l1Rd_pick.f (k : Nat) (s0_0 : List Int) (s0_1 : Int) (a1 : Int) : Option (Int × Int) := if a1 < 1 then (spec_l1Rd_pick.j0 k a1 true s0_0 (wrap64 (s0_1 + 1))) else (spec_l1Rd_pick.j0 k a1 ((s0_0.length : Int) == 0) s0_0 (wrap64 (s0_1 + 1)))
theorem spec_l1Rd_pick.calls (k : Nat) (g : Nat) (s0_0 : List Int) (s0_1 : Int) (a1 : Int) (r1 : Int) (r2 : Int) (w0 w : World) (hI : IsS114 w0 w g s0_0 s0_1) (hB : Below w0.heap.size w0 w) (h : spec_l1Rd_pick.f k s0_0 s0_1 a1 = some (r1, r2)) :
  Calls Try.prog 53 #[.pointer (some ⟨g, 0, none⟩), .int .i64 a1] w fun e w' => e = .returned (.int .i64 r1) ∧ IsS114 w0 w' g s0_0 r2 ∧ Below w0.heap.size w0 w' ∧ KeepBut w w' g none := by
 have HI0 := am hI; have HK := am (KeepBut.refl w g none); have HL := am hB.size; clear hI; have HW0 := am hB.size; have HB := am hB; clear hB
 have H := h; unfold spec_l1Rd_pick.f at H
 clear h; have HC3 := am H; clear H; obtain ⟨ASz4_0, cSz4_0, HGz4, hgz4, HSz4_0⟩ := HI0.out; have hcz4_0 := cellS114_0 HGz4; have hcz4_1 := cellS114_1 HGz4; have hfz4_1 := bf HGz4 1; clear HGz4 hgz4; go_enter Try.func53, Try.ntmps53
 go_upto_region 2 with (fail)
 go_cut [24] (fun v24 wc => ∃ (kq : Nat) (x24_2 : Bool), v24 = .bool x24_2 ∧ Aside0 (spec_l1Rd_pick.j0 kq a1 x24_2 s0_0 (wrap64 (s0_1 + 1)) = some (r1, r2)) ∧ Aside0 (kq ≤ k) ∧ Aside0 (IsS114 w0 wc g s0_0 (wrap64 (s0_1 + 1))) ∧ Aside0 (KeepBut w wc g none) ∧ Aside0 (Below w0.heap.size w0 wc))
 case first =>
  have H := HC3.out; clear HC3
  by_cases c5 : a1 < 1
  ·rw [if_pos c5] at H; have c5b0 := decide_eq_true c5; clear c5
   (skip)
   have H' := am H
   clear H; go_wp2
   go_meet
   case rel => exact ⟨_, (true), sq, H', ⟨b81_⟩, ⟨b8_⟩, ⟨b0_⟩, ⟨b5_⟩⟩
  rw [if_neg c5] at H; have c5b0 := decide_eq_false c5; clear c5
  (skip)
  have H' := am H
  clear H; obtain ⟨ASz6_0, cSz6_0, HGz6, hgz6, HSz6_0⟩ := HI0.out; have hcz6_0 := cellS114_0 HGz6; have hcz6_1 := cellS114_1 HGz6; have hfz6_1 := bf HGz6 1; clear HGz6 hgz6; go_wp2
  go_meet
  case rel => exact ⟨_, (((s0_0.length : Int) == 0)), sq, H', ⟨b81_⟩, ⟨b8_⟩, ⟨b0_⟩, ⟨b5_⟩⟩
 case rest =>
  clear HC3; clear hcz4_0 hcz4_1 hfz4_1; obtain ⟨kq, x24_2, rfl, HA, HJ2, HI0, HK, HB⟩ := hcut
  cases kq with
  | zero => exact absurd HA.out (by simp [spec_l1Rd_pick.j0])
  | succ kj2 =>
   have H := HA.out; clear HA; simp only [spec_l1Rd_pick.j0] at H
   by_cases c7 : x24_2 = true
   ·subst c7
    rw [if_pos rfl] at H; simp only [Option.some.injEq, Prod.mk.injEq] at H
    obtain ⟨rfl, rfl⟩ := H; go_wp2
    go_ret
    exact ⟨eq_, b8_, b5_, b0_⟩
   replace c7 := Bool.eq_false_iff.mpr c7; subst c7
   rw [if_neg Bool.false_ne_true] at H
   by_cases c8 : (wrap64 ((wrap64 (s0_1 + 1)) - 1)) < (s0_0.length : Int)
   ·rw [if_pos c8] at H; have c8b0 := decide_eq_true c8; clear c8; obtain ⟨ji9, hji9⟩ : ∃ j_ : Int, (wrap64 ((wrap64 (s0_1 + 1)) - 1)) = j_ := ⟨_, rfl⟩
    rw [hji9] at H
    rw [hji9] at c8b0
    have hji9w : (IntKind.i64.wrap ((wrap64 (s0_1 + 1)) - 1)) = ji9 := (i64_w _).trans hji9
    replace H := it H; obtain ⟨c10b0, H⟩ := H; replace H := iq H; obtain ⟨c11, H⟩ := H
    have c11b0 : (a1 == 0) = false := beq_eq_false_iff_ne.mpr c11
    have c11b1 : (a1 != 0) = true := bne_iff_ne.mpr c11
    simp only [Option.some.injEq, Prod.mk.injEq] at H; obtain ⟨rfl, rfl⟩ := H; obtain ⟨ASz12_0, cSz12_0, HGz12, hgz12, HSz12_0⟩ := HI0.out; have hcz12_0 := cellS114_0 HGz12; have hcz12_1 := cellS114_1 HGz12; have hfz12_1 := bf HGz12 1; clear HGz12 hgz12
    have p230 : 0 ≤ ((ji9) : Int) := of_decide_eq_true ad
    have q230 : (ji9) < (s0_0.length : Int) := of_decide_eq_true ad
    obtain ⟨ad230, e230, hx230_0⟩ := Kd.at_int HSz12_0 (ji9) p230 q230; cases e230
    replace hx230_0 := pw_cell_below HB.out hx230_0; replace p230 := eq_true p230; replace q230 := eq_true q230; go_wp2
    go_ret
    exact ⟨by rfl, b8_, b5_, b0_⟩
   rw [if_neg c8] at H; have c8b0 := decide_eq_false c8; clear c8; replace H := iq H; obtain ⟨c13, H⟩ := H
   have c13b0 : ((s0_0.length : Int) == 0) = false := beq_eq_false_iff_ne.mpr c13
   have c13b1 : ((s0_0.length : Int) != 0) = true := bne_iff_ne.mpr c13
   have c13b2 : ¬ (s0_0 = []) := fun h_ => c13 (by rw [h_]; rfl)
   obtain ⟨ji14, hji14⟩ : ∃ j_ : Int, (Int.tmod (wrap64 ((wrap64 (s0_1 + 1)) - 1)) (s0_0.length : Int)) = j_ := ⟨_, rfl⟩
   rw [hji14] at H
   replace H := it H; obtain ⟨c15b0, H⟩ := H
   replace H := it H; obtain ⟨c16b0, H⟩ := H; obtain ⟨ji17, hji17⟩ : ∃ j_ : Int, (Int.tmod (wrap64 ((wrap64 ((wrap64 ((wrap64 (s0_1 + 1)) - 1)) * 7)) + 3)) (s0_0.length : Int)) = j_ := ⟨_, rfl⟩
   rw [hji17] at H
   replace H := it H; obtain ⟨c18b0, H⟩ := H; replace H := it H; obtain ⟨c19b0, H⟩ := H; replace H := iq H; obtain ⟨c20, H⟩ := H
   have c20b0 : (a1 == 0) = false := beq_eq_false_iff_ne.mpr c20
   have c20b1 : (a1 != 0) = true := bne_iff_ne.mpr c20
   simp only [Option.some.injEq, Prod.mk.injEq] at H; obtain ⟨rfl, rfl⟩ := H; obtain ⟨ASz21_0, cSz21_0, HGz21, hgz21, HSz21_0⟩ := HI0.out; have hcz21_0 := cellS114_0 HGz21; have hcz21_1 := cellS114_1 HGz21; have hfz21_1 := bf HGz21 1; clear HGz21 hgz21
   have p231 : 0 ≤ ((ji14) : Int) := of_decide_eq_true ad
   have q231 : (ji14) < (s0_0.length : Int) := of_decide_eq_true ad
   obtain ⟨ad231, e231, hx231_0⟩ := Kd.at_int HSz21_0 (ji14) p231 q231; cases e231; replace hx231_0 := pw_cell_below HB.out hx231_0; replace p231 := eq_true p231; replace q231 := eq_true q231
   have p232 : 0 ≤ ((ji17) : Int) := of_decide_eq_true ad
   have q232 : (ji17) < (s0_0.length : Int) := of_decide_eq_true ad
   obtain ⟨ad232, e232, hx232_0⟩ := Kd.at_int HSz21_0 (ji17) p232 q232
   obtain rfl : ad231 = ad232 := (by injection e232)
   replace hx232_0 := pw_cell_below HB.out hx232_0; replace p232 := eq_true p232; replace q232 := eq_true q232; go_wp2
   repeat (go_quiet (fail); try go_wp2)
   go_ret
   exact ⟨by rfl, b8_, b5_, b0_⟩

/-! ### spec_l1Rd_of: function 92 -/
def spec_l1Rd_of.f (k : Nat) (s0_0 : List Int) (s0_1 : Int) (l1 : List ByteArray) : Option (ByteArray × Int) := (spec_l1Rd_pick.f k s0_0 s0_1 (l1.length : Int)).bind fun bt233 => (if 0 ≤ bt233.1 then (if bt233.1 < (l1.length : Int) then (some (rdOf ByteArray.empty l1 bt233.1, bt233.2)) else (none)) else (none))
theorem spec_l1Rd_of.calls (k : Nat) (g : Nat) (s0_0 : List Int) (s0_1 : Int) (A1 : Option Addr) (c1 : Nat) (l1 : List ByteArray) (r1 : ByteArray) (r2 : Int) (w0 w : World) (hI : IsS114 w0 w g s0_0 s0_1) (hB : Below w0.heap.size w0 w) (hr1 : Kd.C Kd.string w A1 l1.length l1) (hc1 : l1.length ≤ c1) (hf1 : ∀ ad, A1 = some ad → 0 < l1.length → ad.block ≠ g) (h : spec_l1Rd_of.f k s0_0 s0_1 l1 = some (r1, r2)) :
  Calls Try.prog 92 #[.pointer (some ⟨g, 0, none⟩), .slice A1 l1.length c1] w fun e w' => e = .returned (.string r1) ∧ IsS114 w0 w' g s0_0 r2 ∧ Below w0.heap.size w0 w' ∧ KeepBut w w' g none := by
 have HR1 := am hr1; have HC1 := am hc1; clear hr1 hc1; have HI0 := am hI; have HK := am (KeepBut.refl w g none); have HL := am hB.size; clear hI; have HW0 := am hB.size; have HB := am hB; clear hB
 have H := h; unfold spec_l1Rd_of.f at H
 clear h; replace H := bs H; obtain ⟨⟨t233, t234⟩, A30, H⟩ := H; dsimp only at H; have A3 := Aside0.mk A30; clear A30
 replace H := it H; obtain ⟨c4b0, H⟩ := H
 replace H := it H; obtain ⟨c5b0, H⟩ := H
 simp only [Option.some.injEq, Prod.mk.injEq] at H
 obtain ⟨rfl, rfl⟩ := H; go_enter Try.func92, Try.ntmps92
 go_wp2_with ((with_reducible refine gate_callee (f := 53) rfl ?_); refine gl 9 Try.func53 #[.pointer (some ⟨g, 0, none⟩), .int .i64 (l1.length : Int)] ?_; (with_reducible refine (spec_l1Rd_pick.calls k g s0_0 s0_1 (l1.length : Int) t233 t234 w0 _ ?side1 ?side2 A3.out).mono ?_); (case side1 => repeat (with_reducible exact HI0.out)); (case side2 => repeat (with_reducible exact HB.out)); rintro e w6 ⟨rfl, hi, hb, hk⟩; refine ⟨_, rfl, ?_⟩; replace HK := am (KeepBut.trans b0_ hk (.inl rfl)); replace HB := am (hb); replace HI0 := am (hi); clear hb hk hi; have p235 : 0 ≤ (t233 : Int) := of_decide_eq_true ad; have q235 : t233 < (l1.length : Int) := of_decide_eq_true ad; obtain ⟨ad235, e235, hx235_0⟩ := Kd.at_string HR1.out t233 p235 q235; cases e235; replace hx235_0 := keep_cell HK.out hx235_0 (by (rw [add_block]; exact hf1 _ rfl (by omega))); replace p235 := eq_true p235; replace q235 := eq_true q235)
 go_ret
 exact ⟨eq_, b8_, b5_, b0_⟩

/-! ### spec_l1Least: function 126 -/
def spec_l1Least.f (a0 : Int) (a1 : Int) : Option (Int) := if a0 < a1 then (some a0) else (some a1)
theorem spec_l1Least.calls (a0 : Int) (a1 : Int) (r : Int) (w : World) (h : spec_l1Least.f a0 a1 = some r) :
  Calls Try.prog 126 #[.int .i64 a0, .int .i64 a1] w fun e w' => e = .returned (.int .i64 r) ∧ Drawn0 w w' := by
 have H := h; unfold spec_l1Least.f at H
 clear h
 by_cases c3 : a0 < a1
 ·rw [if_pos c3] at H; have c3b0 := decide_eq_true c3; clear c3; obtain rfl := Option.some.inj H; go_enter Try.func126, Try.ntmps126; go_wp2; go_ret
  exact ⟨sq, dr⟩
 rw [if_neg c3] at H; have c3b0 := decide_eq_false c3; clear c3; obtain rfl := Option.some.inj H; go_enter Try.func126, Try.ntmps126; go_wp2; go_ret
 exact ⟨sq, dr⟩

/-! ### spec_l13Word: function 103 -/
def spec_l13Word.l0 : Nat → ByteArray → Int → List Int → Int → Option (ByteArray × Int)
 | 0, _, _, _, _ => none
 | k + 1, x3, x4, x1000, x1001 => if x4 > 0 then ((spec_l1Rd_of.f k x1000 x1001 (([(⟨#[97]⟩ : ByteArray), (⟨#[98]⟩ : ByteArray), (⟨#[99]⟩ : ByteArray), (⟨#[97, 98]⟩ : ByteArray), (⟨#[116]⟩ : ByteArray)] : List ByteArray))).bind fun bt243 => (if x3.size + bt243.1.size ≤ 9223372036854775807 then (spec_l13Word.l0 k (x3 ++ bt243.1) (wrap64 (x4 - 1)) x1000 bt243.2) else (none))) else ((spec_l1Least.f (x3.size : Int) 12).bind fun t245 => (if 0 ≤ t245 then (if t245 ≤ (x3.size : Int) then (some (x3.extract 0 (t245 : Int).toNat, x1001)) else (none)) else (none)))
def spec_l13Word.f (k : Nat) (s0_0 : List Int) (s0_1 : Int) : Option (ByteArray × Int) := (spec_l1Rd_pick.f k s0_0 s0_1 3).bind fun bt236 => (if bt236.1 = 0 then ((spec_l1Rd_pick.f k s0_0 bt236.2 5).bind fun bt238 => (spec_l13Word.l0 k (⟨#[]⟩ : ByteArray) (wrap64 (1 + bt238.1)) s0_0 bt238.2)) else ((spec_l1Rd_of.f k s0_0 bt236.2 (([(⟨#[99, 97, 116]⟩ : ByteArray), (⟨#[99, 97, 116, 115]⟩ : ByteArray), (⟨#[97, 99, 116]⟩ : ByteArray), (⟨#[100, 111]⟩ : ByteArray), (⟨#[100, 111, 105, 110, 103]⟩ : ByteArray), (⟨#[103, 111]⟩ : ByteArray), (⟨#[117, 110, 100, 111]⟩ : ByteArray), (⟨#[116, 114, 121]⟩ : ByteArray), (⟨#[116, 114, 105, 101, 115]⟩ : ByteArray), (⟨#[97]⟩ : ByteArray), (⟨#[98, 97, 107, 101]⟩ : ByteArray), (⟨#[98, 97, 107, 105, 110, 103]⟩ : ByteArray), (⟨#[116, 97, 99, 116]⟩ : ByteArray), (⟨#[99, 97, 114, 116]⟩ : ByteArray), (⟨#[97, 98, 99, 97, 98, 99, 97, 98, 99, 97, 98, 99]⟩ : ByteArray)] : List ByteArray))).bind fun bt249 => (some (bt249.1, bt249.2))))
theorem spec_l13Word.calls (k : Nat) (g : Nat) (s0_0 : List Int) (s0_1 : Int) (r1 : ByteArray) (r2 : Int) (w0 w : World) (hI : IsS114 w0 w g s0_0 s0_1) (hB : Below w0.heap.size w0 w) (h : spec_l13Word.f k s0_0 s0_1 = some (r1, r2)) :
  Calls Try.prog 103 #[.pointer (some ⟨g, 0, none⟩)] w fun e w' => e = .returned (.string r1) ∧ IsS114 w0 w' g s0_0 r2 ∧ Below w0.heap.size w0 w' ∧ KeepBut w w' g none := by
 have HI0 := am hI; have HK := am (KeepBut.refl w g none); have HL := am hB.size; clear hI; have HW0 := am hB.size; have HB := am hB; clear hB
 have H := h; unfold spec_l13Word.f at H
 clear h; replace H := bs H; obtain ⟨⟨t236, t237⟩, A20, H⟩ := H; dsimp only at H; have A2 := Aside0.mk A20; clear A20
 by_cases c3 : t236 = 0
 ·rw [if_pos c3] at H
  have c3b0 : (t236 == 0) = true := beq_iff_eq.mpr c3
  have c3b1 : (t236 != 0) = false := bne_eq_false_iff_eq.mpr c3
  clear c3; replace H := bs H; obtain ⟨⟨t238, t239⟩, A40, H⟩ := H; dsimp only at H; have A4 := Aside0.mk A40; clear A40
  have H' := am H
  clear H; go_enter Try.func103, Try.ntmps103
  go_wp2_with (first | ((with_reducible refine gate_callee (f := 53) rfl ?_); refine gl 6 Try.func53 #[.pointer (some ⟨g, 0, none⟩), .int .i64 3] ?_; (with_reducible refine (spec_l1Rd_pick.calls k g s0_0 s0_1 3 t236 t237 w0 _ ?side1 ?side2 A2.out).mono ?_); (case side1 => repeat (with_reducible exact HI0.out)); (case side2 => repeat (with_reducible exact HB.out)); rintro e w5 ⟨rfl, hi, hb, hk⟩; refine ⟨_, rfl, ?_⟩; replace HK := am (KeepBut.trans b0_ hk (.inl rfl)); replace HB := am (hb); replace HI0 := am (hi); clear hb hk hi) | ((with_reducible refine gate_callee (f := 53) rfl ?_); refine gl 9 Try.func53 #[.pointer (some ⟨g, 0, none⟩), .int .i64 5] ?_; (with_reducible refine (spec_l1Rd_pick.calls k g s0_0 t237 5 t238 t239 w0 _ ?side1 ?side2 A4.out).mono ?_); (case side1 => repeat (with_reducible exact HI0.out)); (case side2 => repeat (with_reducible exact HB.out)); rintro e w6 ⟨rfl, hi, hb, hk⟩; refine ⟨_, rfl, ?_⟩; replace HK := am (KeepBut.trans b0_ hk (.inl rfl)); replace HB := am (hb); replace HI0 := am (hi); clear hb hk hi))
  go_loopg [3, 4] k (fun kq v3 v4 w' => ∃ (x3_1 : ByteArray) (x4_1 : Int) (x1001_1 : Int), v3 = .string x3_1 ∧ v4 = .int .i64 x4_1 ∧ Aside0 (spec_l13Word.l0 kq x3_1 x4_1 s0_0 x1001_1 = some (r1, r2)) ∧ Aside0 (kq ≤ k) ∧ Aside0 (IsS114 w0 w' g s0_0 x1001_1) ∧ Aside0 (KeepBut w w' g none) ∧ Aside0 (Below w0.heap.size w0 w'))
  case atStart => exact ⟨((⟨#[]⟩ : ByteArray)), (wrap64 (1 + t238)), (t239), sq, sq, H', ⟨Nat.le_refl _⟩, ⟨b8_⟩, ⟨b0_⟩, ⟨b5_⟩⟩
  case round =>
   clear H'; clear c3b0 c3b1; obtain ⟨x3_1, x4_1, x1001_1, rfl, rfl, HA, HK1, HI0, HK, HB⟩ := hrel
   cases gk with
   | zero => exact absurd HA.out (by simp [spec_l13Word.l0])
   | succ k1 =>
    have H := HA.out; clear HA; simp only [spec_l13Word.l0] at H
    by_cases c7 : x4_1 > 0
    ·rw [if_pos c7] at H; have c7b0 := decide_eq_true c7; clear c7; obtain ⟨y240, hy240⟩ : ∃ y_ : List ByteArray, y_ = (([(⟨#[97]⟩ : ByteArray), (⟨#[98]⟩ : ByteArray), (⟨#[99]⟩ : ByteArray), (⟨#[97, 98]⟩ : ByteArray), (⟨#[116]⟩ : ByteArray)] : List ByteArray)) := ⟨_, rfl⟩
     rw [← hy240] at H
     have Ny240 := am hy240; clear hy240; replace H := bs H; obtain ⟨⟨t243, t244⟩, A80, H⟩ := H; dsimp only at H; have A8 := Aside0.mk A80; clear A80; replace H := ip H; obtain ⟨c9, H⟩ := H; have c9b0 := eq_true c9
     have c9b1 : decide (x3_1.size + t243.size ≤ 9223372036854775807) = true := decide_eq_true c9
     have c9b2 : (9223372036854775807 < x3_1.size + t243.size) = False := eq_false (Nat.not_lt.2 c9)
     have H' := am H
     clear H
     go_wp2_with (first | ((with_reducible refine gate_dst (N := 17) rfl ?_); refine Kd.R_lit Kd.string _ 9 ?hg (N := 17) ?hd (xs := ([(⟨#[97]⟩ : ByteArray), (⟨#[98]⟩ : ByteArray), (⟨#[99]⟩ : ByteArray), (⟨#[97, 98]⟩ : ByteArray), (⟨#[116]⟩ : ByteArray)] : List ByteArray)) (inner := [.string (⟨#[97]⟩ : ByteArray), .string (⟨#[98]⟩ : ByteArray), .string (⟨#[99]⟩ : ByteArray), .string (⟨#[97, 98]⟩ : ByteArray), .string (⟨#[116]⟩ : ByteArray)]) (ok := fun _ => True) (okp := fun _ => True) ?hr ?hp (fun _ hk => hk) trivial (Below.refl _ _) (Nat.le_refl _) (by simp) ?_; (case hd => rfl); (case hg => rfl); (case hr => (go_simp; done)); (case hp => exact (Reps.one (show Kd.M Kd.string _ _ _ (⟨#[97]⟩ : ByteArray) [.string (⟨#[97]⟩ : ByteArray)] from rfl) (Reps.one (show Kd.M Kd.string _ _ _ (⟨#[98]⟩ : ByteArray) [.string (⟨#[98]⟩ : ByteArray)] from rfl) (Reps.one (show Kd.M Kd.string _ _ _ (⟨#[99]⟩ : ByteArray) [.string (⟨#[99]⟩ : ByteArray)] from rfl) (Reps.one (show Kd.M Kd.string _ _ _ (⟨#[97, 98]⟩ : ByteArray) [.string (⟨#[97, 98]⟩ : ByteArray)] from rfl) (Reps.one (show Kd.M Kd.string _ _ _ (⟨#[116]⟩ : ByteArray) [.string (⟨#[116]⟩ : ByteArray)] from rfl) (Reps.none _ _))))))); intro v241 w10 ho11 hb hg_ hnew_; clear hg_ hnew_; (rw [← Ny240.out] at ho11); have HO242 := am (Kd.R_lower ho11 (keep_size (w := w) (g := g) (row := none) b0_)); replace HK := am (KeepBut.trans b0_ (KeepBut.of_below hb g none) (.inl rfl)); replace HB := am (below_step b5_ hb); replace HI0 := am (IsS114.below b8_ hb); clear hb ho11; obtain ⟨Ao12, co12, eo12⟩ := Kd.R_slice HO242.out; subst eo12) | ((with_reducible refine gate_callee (f := 92) rfl ?_); refine gl 18 Try.func92 #[.pointer (some ⟨g, 0, none⟩), .slice Ao12 y240.length co12] ?_; (with_reducible refine (spec_l1Rd_of.calls k1 g s0_0 x1001_1 _ _ y240 t243 t244 w0 _ ?side1 ?side2 ?side3 ?side4 ?side5 A8.out).mono ?_); (case side1 => repeat (with_reducible exact HI0.out)); (case side2 => repeat (with_reducible exact HB.out)); (case side3 => exact cq (Kd.R_reads' HO242.out).2.2); (case side4 => exact (Kd.R_reads' HO242.out).2.1); (case side5 => exact far_slice (IsS114.own_ne HI0.out HO242.out (by decide))); rintro e w13 ⟨rfl, hi, hb, hk⟩; refine ⟨_, rfl, ?_⟩; replace HO242 := am (Kd.R_mono (Kd.R_keep (IsS114.apart (show IsS114 w0 _ g s0_0 x1001_1 from by repeat (with_reducible exact HI0.out)) (rq HO242.out) (by decide)) hk (fun _ h => h.2)) (fun _ h => h.1)); replace HK := am (KeepBut.trans b0_ hk (.inl rfl)); replace HB := am (hb); replace HI0 := am (hi); clear hb hk hi))
     go_roundg k1
     case measure => have := HK1.out; omega
     case rel => exact ⟨(x3_1 ++ t243), (wrap64 (x4_1 - 1)), (t244), sq, sq, H', ⟨b129_⟩, ⟨b8_⟩, ⟨b0_⟩, ⟨b5_⟩⟩
    rw [if_neg c7] at H; have c7b0 := decide_eq_false c7; clear c7; replace H := bs H; obtain ⟨t245, A140, H⟩ := H; have A14 := Aside0.mk A140; clear A140
    replace H := ip H; obtain ⟨c15, H⟩ := H; have c15b0 := eq_true c15
    have c15b1 : decide (0 ≤ t245) = true := decide_eq_true c15
    clear c15; replace H := ip H; obtain ⟨c16, H⟩ := H; have c16b0 := eq_true c16
    have c16b1 : decide (t245 ≤ (x3_1.size : Int)) = true := decide_eq_true c16
    clear c16; simp only [Option.some.injEq, Prod.mk.injEq] at H; obtain ⟨rfl, rfl⟩ := H
    go_wp2_with ((with_reducible refine gate_callee (f := 126) rfl ?_); refine gl 23 Try.func126 #[.int .i64 (x3_1.size : Int), .int .i64 12] ?_; (with_reducible refine (spec_l1Least.calls (x3_1.size : Int) 12 t245 _ A14.out).mono ?_); rintro e w' ⟨rfl, ⟨nd, rfl⟩⟩; refine ⟨_, rfl, ?_⟩)
    go_ret
    exact ⟨eq_, b8_, b5_, b0_⟩
 rw [if_neg c3] at H
 have c3b0 : (t236 == 0) = false := beq_eq_false_iff_ne.mpr c3
 have c3b1 : (t236 != 0) = true := bne_iff_ne.mpr c3
 obtain ⟨y246, hy246⟩ : ∃ y_ : List ByteArray, y_ = (([(⟨#[99, 97, 116]⟩ : ByteArray), (⟨#[99, 97, 116, 115]⟩ : ByteArray), (⟨#[97, 99, 116]⟩ : ByteArray), (⟨#[100, 111]⟩ : ByteArray), (⟨#[100, 111, 105, 110, 103]⟩ : ByteArray), (⟨#[103, 111]⟩ : ByteArray), (⟨#[117, 110, 100, 111]⟩ : ByteArray), (⟨#[116, 114, 121]⟩ : ByteArray), (⟨#[116, 114, 105, 101, 115]⟩ : ByteArray), (⟨#[97]⟩ : ByteArray), (⟨#[98, 97, 107, 101]⟩ : ByteArray), (⟨#[98, 97, 107, 105, 110, 103]⟩ : ByteArray), (⟨#[116, 97, 99, 116]⟩ : ByteArray), (⟨#[99, 97, 114, 116]⟩ : ByteArray), (⟨#[97, 98, 99, 97, 98, 99, 97, 98, 99, 97, 98, 99]⟩ : ByteArray)] : List ByteArray)) := ⟨_, rfl⟩
 rw [← hy246] at H
 have Ny246 := am hy246; clear hy246; replace H := bs H; obtain ⟨⟨t249, t250⟩, A170, H⟩ := H; dsimp only at H; have A17 := Aside0.mk A170; clear A170
 simp only [Option.some.injEq, Prod.mk.injEq] at H
 obtain ⟨rfl, rfl⟩ := H; go_enter Try.func103, Try.ntmps103
 go_wp2_with (first | ((with_reducible refine gate_callee (f := 53) rfl ?_); refine gl 6 Try.func53 #[.pointer (some ⟨g, 0, none⟩), .int .i64 3] ?_; (with_reducible refine (spec_l1Rd_pick.calls k g s0_0 s0_1 3 t236 t237 w0 _ ?side1 ?side2 A2.out).mono ?_); (case side1 => repeat (with_reducible exact HI0.out)); (case side2 => repeat (with_reducible exact HB.out)); rintro e w18 ⟨rfl, hi, hb, hk⟩; refine ⟨_, rfl, ?_⟩; replace HK := am (KeepBut.trans b0_ hk (.inl rfl)); replace HB := am (hb); replace HI0 := am (hi); clear hb hk hi) | ((with_reducible refine gate_dst (N := 26) rfl ?_); refine Kd.R_lit Kd.string _ 9 ?hg (N := 26) ?hd (xs := ([(⟨#[99, 97, 116]⟩ : ByteArray), (⟨#[99, 97, 116, 115]⟩ : ByteArray), (⟨#[97, 99, 116]⟩ : ByteArray), (⟨#[100, 111]⟩ : ByteArray), (⟨#[100, 111, 105, 110, 103]⟩ : ByteArray), (⟨#[103, 111]⟩ : ByteArray), (⟨#[117, 110, 100, 111]⟩ : ByteArray), (⟨#[116, 114, 121]⟩ : ByteArray), (⟨#[116, 114, 105, 101, 115]⟩ : ByteArray), (⟨#[97]⟩ : ByteArray), (⟨#[98, 97, 107, 101]⟩ : ByteArray), (⟨#[98, 97, 107, 105, 110, 103]⟩ : ByteArray), (⟨#[116, 97, 99, 116]⟩ : ByteArray), (⟨#[99, 97, 114, 116]⟩ : ByteArray), (⟨#[97, 98, 99, 97, 98, 99, 97, 98, 99, 97, 98, 99]⟩ : ByteArray)] : List ByteArray)) (inner := [.string (⟨#[99, 97, 116]⟩ : ByteArray), .string (⟨#[99, 97, 116, 115]⟩ : ByteArray), .string (⟨#[97, 99, 116]⟩ : ByteArray), .string (⟨#[100, 111]⟩ : ByteArray), .string (⟨#[100, 111, 105, 110, 103]⟩ : ByteArray), .string (⟨#[103, 111]⟩ : ByteArray), .string (⟨#[117, 110, 100, 111]⟩ : ByteArray), .string (⟨#[116, 114, 121]⟩ : ByteArray), .string (⟨#[116, 114, 105, 101, 115]⟩ : ByteArray), .string (⟨#[97]⟩ : ByteArray), .string (⟨#[98, 97, 107, 101]⟩ : ByteArray), .string (⟨#[98, 97, 107, 105, 110, 103]⟩ : ByteArray), .string (⟨#[116, 97, 99, 116]⟩ : ByteArray), .string (⟨#[99, 97, 114, 116]⟩ : ByteArray), .string (⟨#[97, 98, 99, 97, 98, 99, 97, 98, 99, 97, 98, 99]⟩ : ByteArray)]) (ok := fun _ => True) (okp := fun _ => True) ?hr ?hp (fun _ hk => hk) trivial (Below.refl _ _) (Nat.le_refl _) (by simp) ?_; (case hd => rfl); (case hg => rfl); (case hr => (go_simp; done)); (case hp => exact (Reps.one (show Kd.M Kd.string _ _ _ (⟨#[99, 97, 116]⟩ : ByteArray) [.string (⟨#[99, 97, 116]⟩ : ByteArray)] from rfl) (Reps.one (show Kd.M Kd.string _ _ _ (⟨#[99, 97, 116, 115]⟩ : ByteArray) [.string (⟨#[99, 97, 116, 115]⟩ : ByteArray)] from rfl) (Reps.one (show Kd.M Kd.string _ _ _ (⟨#[97, 99, 116]⟩ : ByteArray) [.string (⟨#[97, 99, 116]⟩ : ByteArray)] from rfl) (Reps.one (show Kd.M Kd.string _ _ _ (⟨#[100, 111]⟩ : ByteArray) [.string (⟨#[100, 111]⟩ : ByteArray)] from rfl) (Reps.one (show Kd.M Kd.string _ _ _ (⟨#[100, 111, 105, 110, 103]⟩ : ByteArray) [.string (⟨#[100, 111, 105, 110, 103]⟩ : ByteArray)] from rfl) (Reps.one (show Kd.M Kd.string _ _ _ (⟨#[103, 111]⟩ : ByteArray) [.string (⟨#[103, 111]⟩ : ByteArray)] from rfl) (Reps.one (show Kd.M Kd.string _ _ _ (⟨#[117, 110, 100, 111]⟩ : ByteArray) [.string (⟨#[117, 110, 100, 111]⟩ : ByteArray)] from rfl) (Reps.one (show Kd.M Kd.string _ _ _ (⟨#[116, 114, 121]⟩ : ByteArray) [.string (⟨#[116, 114, 121]⟩ : ByteArray)] from rfl) (Reps.one (show Kd.M Kd.string _ _ _ (⟨#[116, 114, 105, 101, 115]⟩ : ByteArray) [.string (⟨#[116, 114, 105, 101, 115]⟩ : ByteArray)] from rfl) (Reps.one (show Kd.M Kd.string _ _ _ (⟨#[97]⟩ : ByteArray) [.string (⟨#[97]⟩ : ByteArray)] from rfl) (Reps.one (show Kd.M Kd.string _ _ _ (⟨#[98, 97, 107, 101]⟩ : ByteArray) [.string (⟨#[98, 97, 107, 101]⟩ : ByteArray)] from rfl) (Reps.one (show Kd.M Kd.string _ _ _ (⟨#[98, 97, 107, 105, 110, 103]⟩ : ByteArray) [.string (⟨#[98, 97, 107, 105, 110, 103]⟩ : ByteArray)] from rfl) (Reps.one (show Kd.M Kd.string _ _ _ (⟨#[116, 97, 99, 116]⟩ : ByteArray) [.string (⟨#[116, 97, 99, 116]⟩ : ByteArray)] from rfl) (Reps.one (show Kd.M Kd.string _ _ _ (⟨#[99, 97, 114, 116]⟩ : ByteArray) [.string (⟨#[99, 97, 114, 116]⟩ : ByteArray)] from rfl) (Reps.one (show Kd.M Kd.string _ _ _ (⟨#[97, 98, 99, 97, 98, 99, 97, 98, 99, 97, 98, 99]⟩ : ByteArray) [.string (⟨#[97, 98, 99, 97, 98, 99, 97, 98, 99, 97, 98, 99]⟩ : ByteArray)] from rfl) (Reps.none _ _))))))))))))))))); intro v247 w19 ho20 hb hg_ hnew_; clear hg_ hnew_; (rw [← Ny246.out] at ho20); have HO248 := am (Kd.R_lower ho20 (keep_size (w := w) (g := g) (row := none) b0_)); replace HK := am (KeepBut.trans b0_ (KeepBut.of_below hb g none) (.inl rfl)); replace HB := am (below_step b5_ hb); replace HI0 := am (IsS114.below b8_ hb); clear hb ho20; obtain ⟨Ao21, co21, eo21⟩ := Kd.R_slice HO248.out; subst eo21) | ((with_reducible refine gate_callee (f := 92) rfl ?_); refine gl 27 Try.func92 #[.pointer (some ⟨g, 0, none⟩), .slice Ao21 y246.length co21] ?_; (with_reducible refine (spec_l1Rd_of.calls k g s0_0 t237 _ _ y246 t249 t250 w0 _ ?side1 ?side2 ?side3 ?side4 ?side5 A17.out).mono ?_); (case side1 => repeat (with_reducible exact HI0.out)); (case side2 => repeat (with_reducible exact HB.out)); (case side3 => exact cq (Kd.R_reads' HO248.out).2.2); (case side4 => exact (Kd.R_reads' HO248.out).2.1); (case side5 => exact far_slice (IsS114.own_ne HI0.out HO248.out (by decide))); rintro e w22 ⟨rfl, hi, hb, hk⟩; refine ⟨_, rfl, ?_⟩; replace HO248 := am (Kd.R_mono (Kd.R_keep (IsS114.apart (show IsS114 w0 _ g s0_0 t237 from by repeat (with_reducible exact HI0.out)) (rq HO248.out) (by decide)) hk (fun _ h => h.2)) (fun _ h => h.1)); replace HK := am (KeepBut.trans b0_ hk (.inl rfl)); replace HB := am (hb); replace HI0 := am (hi); clear hb hk hi))
 go_ret
 exact ⟨eq_, b8_, b5_, b0_⟩

/-! ### spec_l13AnyWord: function 64 -/
def spec_l13AnyWord.f (k : Nat) (s0_0 : List Int) (s0_1 : Int) : Option (ByteArray × Int) := (spec_l1Rd_pick.f k s0_0 s0_1 16).bind fun bt251 => (if bt251.1 = 0 then ((spec_l1Rd_of.f k s0_0 bt251.2 (([(⟨#[]⟩ : ByteArray), (⟨#[67, 97, 116]⟩ : ByteArray), (⟨#[97, 32, 98]⟩ : ByteArray), (⟨#[97, 98, 99, 97, 98, 99, 97, 98, 99, 97, 98, 99, 97]⟩ : ByteArray), (⟨#[120, 49]⟩ : ByteArray), (⟨#[45]⟩ : ByteArray)] : List ByteArray))).bind fun bt256 => (some (bt256.1, bt256.2))) else ((spec_l13Word.f k s0_0 bt251.2).bind fun bt258 => (some (bt258.1, bt258.2))))
theorem spec_l13AnyWord.calls (k : Nat) (g : Nat) (s0_0 : List Int) (s0_1 : Int) (r1 : ByteArray) (r2 : Int) (w0 w : World) (hI : IsS114 w0 w g s0_0 s0_1) (hB : Below w0.heap.size w0 w) (h : spec_l13AnyWord.f k s0_0 s0_1 = some (r1, r2)) :
  Calls Try.prog 64 #[.pointer (some ⟨g, 0, none⟩)] w fun e w' => e = .returned (.string r1) ∧ IsS114 w0 w' g s0_0 r2 ∧ Below w0.heap.size w0 w' ∧ KeepBut w w' g none := by
 have HI0 := am hI; have HK := am (KeepBut.refl w g none); have HL := am hB.size; clear hI; have HW0 := am hB.size; have HB := am hB; clear hB
 have H := h; unfold spec_l13AnyWord.f at H
 clear h; replace H := bs H; obtain ⟨⟨t251, t252⟩, A20, H⟩ := H; dsimp only at H; have A2 := Aside0.mk A20; clear A20
 by_cases c3 : t251 = 0
 ·rw [if_pos c3] at H
  have c3b0 : (t251 == 0) = true := beq_iff_eq.mpr c3
  have c3b1 : (t251 != 0) = false := bne_eq_false_iff_eq.mpr c3
  clear c3; obtain ⟨y253, hy253⟩ : ∃ y_ : List ByteArray, y_ = (([(⟨#[]⟩ : ByteArray), (⟨#[67, 97, 116]⟩ : ByteArray), (⟨#[97, 32, 98]⟩ : ByteArray), (⟨#[97, 98, 99, 97, 98, 99, 97, 98, 99, 97, 98, 99, 97]⟩ : ByteArray), (⟨#[120, 49]⟩ : ByteArray), (⟨#[45]⟩ : ByteArray)] : List ByteArray)) := ⟨_, rfl⟩
  rw [← hy253] at H
  have Ny253 := am hy253; clear hy253; replace H := bs H; obtain ⟨⟨t256, t257⟩, A40, H⟩ := H; dsimp only at H; have A4 := Aside0.mk A40; clear A40; simp only [Option.some.injEq, Prod.mk.injEq] at H
  obtain ⟨rfl, rfl⟩ := H; go_enter Try.func64, Try.ntmps64
  go_wp2_with (first | ((with_reducible refine gate_callee (f := 53) rfl ?_); refine gl 4 Try.func53 #[.pointer (some ⟨g, 0, none⟩), .int .i64 16] ?_; (with_reducible refine (spec_l1Rd_pick.calls k g s0_0 s0_1 16 t251 t252 w0 _ ?side1 ?side2 A2.out).mono ?_); (case side1 => repeat (with_reducible exact HI0.out)); (case side2 => repeat (with_reducible exact HB.out)); rintro e w5 ⟨rfl, hi, hb, hk⟩; refine ⟨_, rfl, ?_⟩; replace HK := am (KeepBut.trans b0_ hk (.inl rfl)); replace HB := am (hb); replace HI0 := am (hi); clear hb hk hi) | ((with_reducible refine gate_dst (N := 7) rfl ?_); refine Kd.R_lit Kd.string _ 9 ?hg (N := 7) ?hd (xs := ([(⟨#[]⟩ : ByteArray), (⟨#[67, 97, 116]⟩ : ByteArray), (⟨#[97, 32, 98]⟩ : ByteArray), (⟨#[97, 98, 99, 97, 98, 99, 97, 98, 99, 97, 98, 99, 97]⟩ : ByteArray), (⟨#[120, 49]⟩ : ByteArray), (⟨#[45]⟩ : ByteArray)] : List ByteArray)) (inner := [.string (⟨#[]⟩ : ByteArray), .string (⟨#[67, 97, 116]⟩ : ByteArray), .string (⟨#[97, 32, 98]⟩ : ByteArray), .string (⟨#[97, 98, 99, 97, 98, 99, 97, 98, 99, 97, 98, 99, 97]⟩ : ByteArray), .string (⟨#[120, 49]⟩ : ByteArray), .string (⟨#[45]⟩ : ByteArray)]) (ok := fun _ => True) (okp := fun _ => True) ?hr ?hp (fun _ hk => hk) trivial (Below.refl _ _) (Nat.le_refl _) (by simp) ?_; (case hd => rfl); (case hg => rfl); (case hr => (go_simp; done)); (case hp => exact (Reps.one (show Kd.M Kd.string _ _ _ (⟨#[]⟩ : ByteArray) [.string (⟨#[]⟩ : ByteArray)] from rfl) (Reps.one (show Kd.M Kd.string _ _ _ (⟨#[67, 97, 116]⟩ : ByteArray) [.string (⟨#[67, 97, 116]⟩ : ByteArray)] from rfl) (Reps.one (show Kd.M Kd.string _ _ _ (⟨#[97, 32, 98]⟩ : ByteArray) [.string (⟨#[97, 32, 98]⟩ : ByteArray)] from rfl) (Reps.one (show Kd.M Kd.string _ _ _ (⟨#[97, 98, 99, 97, 98, 99, 97, 98, 99, 97, 98, 99, 97]⟩ : ByteArray) [.string (⟨#[97, 98, 99, 97, 98, 99, 97, 98, 99, 97, 98, 99, 97]⟩ : ByteArray)] from rfl) (Reps.one (show Kd.M Kd.string _ _ _ (⟨#[120, 49]⟩ : ByteArray) [.string (⟨#[120, 49]⟩ : ByteArray)] from rfl) (Reps.one (show Kd.M Kd.string _ _ _ (⟨#[45]⟩ : ByteArray) [.string (⟨#[45]⟩ : ByteArray)] from rfl) (Reps.none _ _)))))))); intro v254 w6 ho7 hb hg_ hnew_; clear hg_ hnew_; (rw [← Ny253.out] at ho7); have HO255 := am (Kd.R_lower ho7 (keep_size (w := w) (g := g) (row := none) b0_)); replace HK := am (KeepBut.trans b0_ (KeepBut.of_below hb g none) (.inl rfl)); replace HB := am (below_step b5_ hb); replace HI0 := am (IsS114.below b8_ hb); clear hb ho7; obtain ⟨Ao8, co8, eo8⟩ := Kd.R_slice HO255.out; subst eo8) | ((with_reducible refine gate_callee (f := 92) rfl ?_); refine gl 8 Try.func92 #[.pointer (some ⟨g, 0, none⟩), .slice Ao8 y253.length co8] ?_; (with_reducible refine (spec_l1Rd_of.calls k g s0_0 t252 _ _ y253 t256 t257 w0 _ ?side1 ?side2 ?side3 ?side4 ?side5 A4.out).mono ?_); (case side1 => repeat (with_reducible exact HI0.out)); (case side2 => repeat (with_reducible exact HB.out)); (case side3 => exact cq (Kd.R_reads' HO255.out).2.2); (case side4 => exact (Kd.R_reads' HO255.out).2.1); (case side5 => exact far_slice (IsS114.own_ne HI0.out HO255.out (by decide))); rintro e w9 ⟨rfl, hi, hb, hk⟩; refine ⟨_, rfl, ?_⟩; replace HO255 := am (Kd.R_mono (Kd.R_keep (IsS114.apart (show IsS114 w0 _ g s0_0 t252 from by repeat (with_reducible exact HI0.out)) (rq HO255.out) (by decide)) hk (fun _ h => h.2)) (fun _ h => h.1)); replace HK := am (KeepBut.trans b0_ hk (.inl rfl)); replace HB := am (hb); replace HI0 := am (hi); clear hb hk hi))
  go_ret
  exact ⟨eq_, b8_, b5_, b0_⟩
 rw [if_neg c3] at H
 have c3b0 : (t251 == 0) = false := beq_eq_false_iff_ne.mpr c3
 have c3b1 : (t251 != 0) = true := bne_iff_ne.mpr c3
 replace H := bs H; obtain ⟨⟨t258, t259⟩, A100, H⟩ := H; dsimp only at H; have A10 := Aside0.mk A100; clear A100
 simp only [Option.some.injEq, Prod.mk.injEq] at H
 obtain ⟨rfl, rfl⟩ := H; go_enter Try.func64, Try.ntmps64
 go_wp2_with (first | ((with_reducible refine gate_callee (f := 53) rfl ?_); refine gl 4 Try.func53 #[.pointer (some ⟨g, 0, none⟩), .int .i64 16] ?_; (with_reducible refine (spec_l1Rd_pick.calls k g s0_0 s0_1 16 t251 t252 w0 _ ?side1 ?side2 A2.out).mono ?_); (case side1 => repeat (with_reducible exact HI0.out)); (case side2 => repeat (with_reducible exact HB.out)); rintro e w11 ⟨rfl, hi, hb, hk⟩; refine ⟨_, rfl, ?_⟩; replace HK := am (KeepBut.trans b0_ hk (.inl rfl)); replace HB := am (hb); replace HI0 := am (hi); clear hb hk hi) | ((with_reducible refine gate_callee (f := 103) rfl ?_); refine gl 10 Try.func103 #[.pointer (some ⟨g, 0, none⟩)] ?_; (with_reducible refine (spec_l13Word.calls k g s0_0 t252 t258 t259 w0 _ ?side1 ?side2 A10.out).mono ?_); (case side1 => repeat (with_reducible exact HI0.out)); (case side2 => repeat (with_reducible exact HB.out)); rintro e w12 ⟨rfl, hi, hb, hk⟩; refine ⟨_, rfl, ?_⟩; replace HK := am (KeepBut.trans b0_ hk (.inl rfl)); replace HB := am (hb); replace HI0 := am (hi); clear hb hk hi))
 go_ret
 exact ⟨eq_, b8_, b5_, b0_⟩

/-! ### spec_l13Affix: function 114 -/
def spec_l13Affix.f (k : Nat) (s0_0 : List Int) (s0_1 : Int) : Option (ByteArray × Bool × ByteArray × ByteArray × ByteArray × Int) := (some (([(⟨(⟨#[83]⟩ : ByteArray), false, (⟨#[]⟩ : ByteArray), (⟨#[115]⟩ : ByteArray), (⟨#[]⟩ : ByteArray)⟩ : S73), (⟨(⟨#[83]⟩ : ByteArray), false, (⟨#[121]⟩ : ByteArray), (⟨#[105, 101, 115]⟩ : ByteArray), (⟨#[121]⟩ : ByteArray)⟩ : S73), (⟨(⟨#[71]⟩ : ByteArray), false, (⟨#[]⟩ : ByteArray), (⟨#[105, 110, 103]⟩ : ByteArray), (⟨#[]⟩ : ByteArray)⟩ : S73), (⟨(⟨#[71]⟩ : ByteArray), false, (⟨#[101]⟩ : ByteArray), (⟨#[105, 110, 103]⟩ : ByteArray), (⟨#[101]⟩ : ByteArray)⟩ : S73), (⟨(⟨#[85]⟩ : ByteArray), true, (⟨#[]⟩ : ByteArray), (⟨#[117, 110]⟩ : ByteArray), (⟨#[]⟩ : ByteArray)⟩ : S73), (⟨(⟨#[82]⟩ : ByteArray), true, (⟨#[97]⟩ : ByteArray), (⟨#[98]⟩ : ByteArray), (⟨#[97]⟩ : ByteArray)⟩ : S73), (⟨(⟨#[84]⟩ : ByteArray), false, (⟨#[]⟩ : ByteArray), (⟨#[116]⟩ : ByteArray), (⟨#[97, 99]⟩ : ByteArray)⟩ : S73), (⟨(⟨#[67]⟩ : ByteArray), false, (⟨#[]⟩ : ByteArray), (⟨#[97, 98, 99]⟩ : ByteArray), (⟨#[]⟩ : ByteArray)⟩ : S73)] : List (S73)) : List (S73))).bind fun y261 => ((spec_l1Rd_pick.f k s0_0 s0_1 (y261.length : Int)).bind fun bt264 => (if 0 ≤ bt264.1 then (if bt264.1 < (y261.length : Int) then (some ((rd_T73 y261 bt264.1).f0, (rd_T73 y261 bt264.1).f1, (rd_T73 y261 bt264.1).f2, (rd_T73 y261 bt264.1).f3, (rd_T73 y261 bt264.1).f4, bt264.2)) else (none)) else (none)))
theorem spec_l13Affix.calls (k : Nat) (g : Nat) (s0_0 : List Int) (s0_1 : Int) (r1 : ByteArray) (r2 : Bool) (r3 : ByteArray) (r4 : ByteArray) (r5 : ByteArray) (r6 : Int) (w0 w : World) (hI : IsS114 w0 w g s0_0 s0_1) (hB : Below w0.heap.size w0 w) (h : spec_l13Affix.f k s0_0 s0_1 = some (r1, r2, r3, r4, r5, r6)) :
  Calls Try.prog 114 #[.pointer (some ⟨g, 0, none⟩)] w fun e w' => e = .returned (.agg #[.string r1, .bool r2, .string r3, .string r4, .string r5]) ∧ IsS114 w0 w' g s0_0 r6 ∧ Below w0.heap.size w0 w' ∧ KeepBut w w' g none := by
 have hu73 := Try.underlying73; have HI0 := am hI; have HK := am (KeepBut.refl w g none); have HL := am hB.size; clear hI; have HW0 := am hB.size; have HB := am hB; clear hB
 have H := h; unfold spec_l13Affix.f at H
 clear h; obtain ⟨y261, hy261⟩ : ∃ y_ : List (S73), y_ = (([(⟨(⟨#[83]⟩ : ByteArray), false, (⟨#[]⟩ : ByteArray), (⟨#[115]⟩ : ByteArray), (⟨#[]⟩ : ByteArray)⟩ : S73), (⟨(⟨#[83]⟩ : ByteArray), false, (⟨#[121]⟩ : ByteArray), (⟨#[105, 101, 115]⟩ : ByteArray), (⟨#[121]⟩ : ByteArray)⟩ : S73), (⟨(⟨#[71]⟩ : ByteArray), false, (⟨#[]⟩ : ByteArray), (⟨#[105, 110, 103]⟩ : ByteArray), (⟨#[]⟩ : ByteArray)⟩ : S73), (⟨(⟨#[71]⟩ : ByteArray), false, (⟨#[101]⟩ : ByteArray), (⟨#[105, 110, 103]⟩ : ByteArray), (⟨#[101]⟩ : ByteArray)⟩ : S73), (⟨(⟨#[85]⟩ : ByteArray), true, (⟨#[]⟩ : ByteArray), (⟨#[117, 110]⟩ : ByteArray), (⟨#[]⟩ : ByteArray)⟩ : S73), (⟨(⟨#[82]⟩ : ByteArray), true, (⟨#[97]⟩ : ByteArray), (⟨#[98]⟩ : ByteArray), (⟨#[97]⟩ : ByteArray)⟩ : S73), (⟨(⟨#[84]⟩ : ByteArray), false, (⟨#[]⟩ : ByteArray), (⟨#[116]⟩ : ByteArray), (⟨#[97, 99]⟩ : ByteArray)⟩ : S73), (⟨(⟨#[67]⟩ : ByteArray), false, (⟨#[]⟩ : ByteArray), (⟨#[97, 98, 99]⟩ : ByteArray), (⟨#[]⟩ : ByteArray)⟩ : S73)] : List (S73))) := ⟨_, rfl⟩
 replace H := bm H; rw [← hy261] at H
 have Ny261 := am hy261; clear hy261; replace H := bs H; obtain ⟨⟨t264, t265⟩, A20, H⟩ := H; dsimp only at H; have A2 := Aside0.mk A20; clear A20
 replace H := it H; obtain ⟨c3b0, H⟩ := H
 replace H := it H; obtain ⟨c4b0, H⟩ := H
 simp only [Option.some.injEq, Prod.mk.injEq] at H
 obtain ⟨rfl, rfl, rfl, rfl, rfl, rfl⟩ := H; go_enter Try.func114, Try.ntmps114
 go_wp2_with (first | ((with_reducible refine gate_dst (N := 2) rfl ?_); refine bx 2 (cs := #[.string (⟨#[]⟩ : ByteArray), .bool false, .string (⟨#[]⟩ : ByteArray), .string (⟨#[]⟩ : ByteArray), .string (⟨#[]⟩ : ByteArray)]) (t := 73) ?_; intro gb260 hg w5 hbox hb; replace HB := am (below_step b5_ hb); have BK260 := am (hbox); have GW260 := am ((b4_ : w.heap.size ≤ gb260)); have GE260 := am ((Nat.le_trans HW0.out (b4_ : w.heap.size ≤ gb260) : w0.heap.size ≤ gb260)); replace HK := am (KeepBut.trans b0_ (KeepBut.of_below hb g none) (.inl rfl)); have NB0_260 := am ((b21_ : g ≠ gb260)); have NB260_0 := am ((b22_ : gb260 ≠ g)); replace HI0 := am (IsS114.below b8_ hb); clear hb hbox hg) | ((with_reducible refine gate_dst (N := 12) rfl ?_); refine Kd.R_lit k73 _ 73 ?hg (N := 12) ?hd (xs := ([(⟨(⟨#[83]⟩ : ByteArray), false, (⟨#[]⟩ : ByteArray), (⟨#[115]⟩ : ByteArray), (⟨#[]⟩ : ByteArray)⟩ : S73), (⟨(⟨#[83]⟩ : ByteArray), false, (⟨#[121]⟩ : ByteArray), (⟨#[105, 101, 115]⟩ : ByteArray), (⟨#[121]⟩ : ByteArray)⟩ : S73), (⟨(⟨#[71]⟩ : ByteArray), false, (⟨#[]⟩ : ByteArray), (⟨#[105, 110, 103]⟩ : ByteArray), (⟨#[]⟩ : ByteArray)⟩ : S73), (⟨(⟨#[71]⟩ : ByteArray), false, (⟨#[101]⟩ : ByteArray), (⟨#[105, 110, 103]⟩ : ByteArray), (⟨#[101]⟩ : ByteArray)⟩ : S73), (⟨(⟨#[85]⟩ : ByteArray), true, (⟨#[]⟩ : ByteArray), (⟨#[117, 110]⟩ : ByteArray), (⟨#[]⟩ : ByteArray)⟩ : S73), (⟨(⟨#[82]⟩ : ByteArray), true, (⟨#[97]⟩ : ByteArray), (⟨#[98]⟩ : ByteArray), (⟨#[97]⟩ : ByteArray)⟩ : S73), (⟨(⟨#[84]⟩ : ByteArray), false, (⟨#[]⟩ : ByteArray), (⟨#[116]⟩ : ByteArray), (⟨#[97, 99]⟩ : ByteArray)⟩ : S73), (⟨(⟨#[67]⟩ : ByteArray), false, (⟨#[]⟩ : ByteArray), (⟨#[97, 98, 99]⟩ : ByteArray), (⟨#[]⟩ : ByteArray)⟩ : S73)] : List (S73))) (inner := [.string (⟨#[83]⟩ : ByteArray), .bool false, .string (⟨#[]⟩ : ByteArray), .string (⟨#[115]⟩ : ByteArray), .string (⟨#[]⟩ : ByteArray), .string (⟨#[83]⟩ : ByteArray), .bool false, .string (⟨#[121]⟩ : ByteArray), .string (⟨#[105, 101, 115]⟩ : ByteArray), .string (⟨#[121]⟩ : ByteArray), .string (⟨#[71]⟩ : ByteArray), .bool false, .string (⟨#[]⟩ : ByteArray), .string (⟨#[105, 110, 103]⟩ : ByteArray), .string (⟨#[]⟩ : ByteArray), .string (⟨#[71]⟩ : ByteArray), .bool false, .string (⟨#[101]⟩ : ByteArray), .string (⟨#[105, 110, 103]⟩ : ByteArray), .string (⟨#[101]⟩ : ByteArray), .string (⟨#[85]⟩ : ByteArray), .bool true, .string (⟨#[]⟩ : ByteArray), .string (⟨#[117, 110]⟩ : ByteArray), .string (⟨#[]⟩ : ByteArray), .string (⟨#[82]⟩ : ByteArray), .bool true, .string (⟨#[97]⟩ : ByteArray), .string (⟨#[98]⟩ : ByteArray), .string (⟨#[97]⟩ : ByteArray), .string (⟨#[84]⟩ : ByteArray), .bool false, .string (⟨#[]⟩ : ByteArray), .string (⟨#[116]⟩ : ByteArray), .string (⟨#[97, 99]⟩ : ByteArray), .string (⟨#[67]⟩ : ByteArray), .bool false, .string (⟨#[]⟩ : ByteArray), .string (⟨#[97, 98, 99]⟩ : ByteArray), .string (⟨#[]⟩ : ByteArray)]) (ok := fun _ => True) (okp := fun _ => True) ?hr ?hp (fun _ hk => hk) trivial (Below.refl _ _) (Nat.le_refl _) (by simp) ?_; (case hd => rfl); (case hg => rfl); (case hr => (go_simp; done)); (case hp => exact (Reps.c5 (show Kd.M k73 _ _ _ (⟨(⟨#[83]⟩ : ByteArray), false, (⟨#[]⟩ : ByteArray), (⟨#[115]⟩ : ByteArray), (⟨#[]⟩ : ByteArray)⟩ : S73) [.string (⟨#[83]⟩ : ByteArray), .bool false, .string (⟨#[]⟩ : ByteArray), .string (⟨#[115]⟩ : ByteArray), .string (⟨#[]⟩ : ByteArray)] from (k73_mkM _ _ _ (⟨(⟨#[83]⟩ : ByteArray), false, (⟨#[]⟩ : ByteArray), (⟨#[115]⟩ : ByteArray), (⟨#[]⟩ : ByteArray)⟩ : S73) )) (Reps.c5 (show Kd.M k73 _ _ _ (⟨(⟨#[83]⟩ : ByteArray), false, (⟨#[121]⟩ : ByteArray), (⟨#[105, 101, 115]⟩ : ByteArray), (⟨#[121]⟩ : ByteArray)⟩ : S73) [.string (⟨#[83]⟩ : ByteArray), .bool false, .string (⟨#[121]⟩ : ByteArray), .string (⟨#[105, 101, 115]⟩ : ByteArray), .string (⟨#[121]⟩ : ByteArray)] from (k73_mkM _ _ _ (⟨(⟨#[83]⟩ : ByteArray), false, (⟨#[121]⟩ : ByteArray), (⟨#[105, 101, 115]⟩ : ByteArray), (⟨#[121]⟩ : ByteArray)⟩ : S73) )) (Reps.c5 (show Kd.M k73 _ _ _ (⟨(⟨#[71]⟩ : ByteArray), false, (⟨#[]⟩ : ByteArray), (⟨#[105, 110, 103]⟩ : ByteArray), (⟨#[]⟩ : ByteArray)⟩ : S73) [.string (⟨#[71]⟩ : ByteArray), .bool false, .string (⟨#[]⟩ : ByteArray), .string (⟨#[105, 110, 103]⟩ : ByteArray), .string (⟨#[]⟩ : ByteArray)] from (k73_mkM _ _ _ (⟨(⟨#[71]⟩ : ByteArray), false, (⟨#[]⟩ : ByteArray), (⟨#[105, 110, 103]⟩ : ByteArray), (⟨#[]⟩ : ByteArray)⟩ : S73) )) (Reps.c5 (show Kd.M k73 _ _ _ (⟨(⟨#[71]⟩ : ByteArray), false, (⟨#[101]⟩ : ByteArray), (⟨#[105, 110, 103]⟩ : ByteArray), (⟨#[101]⟩ : ByteArray)⟩ : S73) [.string (⟨#[71]⟩ : ByteArray), .bool false, .string (⟨#[101]⟩ : ByteArray), .string (⟨#[105, 110, 103]⟩ : ByteArray), .string (⟨#[101]⟩ : ByteArray)] from (k73_mkM _ _ _ (⟨(⟨#[71]⟩ : ByteArray), false, (⟨#[101]⟩ : ByteArray), (⟨#[105, 110, 103]⟩ : ByteArray), (⟨#[101]⟩ : ByteArray)⟩ : S73) )) (Reps.c5 (show Kd.M k73 _ _ _ (⟨(⟨#[85]⟩ : ByteArray), true, (⟨#[]⟩ : ByteArray), (⟨#[117, 110]⟩ : ByteArray), (⟨#[]⟩ : ByteArray)⟩ : S73) [.string (⟨#[85]⟩ : ByteArray), .bool true, .string (⟨#[]⟩ : ByteArray), .string (⟨#[117, 110]⟩ : ByteArray), .string (⟨#[]⟩ : ByteArray)] from (k73_mkM _ _ _ (⟨(⟨#[85]⟩ : ByteArray), true, (⟨#[]⟩ : ByteArray), (⟨#[117, 110]⟩ : ByteArray), (⟨#[]⟩ : ByteArray)⟩ : S73) )) (Reps.c5 (show Kd.M k73 _ _ _ (⟨(⟨#[82]⟩ : ByteArray), true, (⟨#[97]⟩ : ByteArray), (⟨#[98]⟩ : ByteArray), (⟨#[97]⟩ : ByteArray)⟩ : S73) [.string (⟨#[82]⟩ : ByteArray), .bool true, .string (⟨#[97]⟩ : ByteArray), .string (⟨#[98]⟩ : ByteArray), .string (⟨#[97]⟩ : ByteArray)] from (k73_mkM _ _ _ (⟨(⟨#[82]⟩ : ByteArray), true, (⟨#[97]⟩ : ByteArray), (⟨#[98]⟩ : ByteArray), (⟨#[97]⟩ : ByteArray)⟩ : S73) )) (Reps.c5 (show Kd.M k73 _ _ _ (⟨(⟨#[84]⟩ : ByteArray), false, (⟨#[]⟩ : ByteArray), (⟨#[116]⟩ : ByteArray), (⟨#[97, 99]⟩ : ByteArray)⟩ : S73) [.string (⟨#[84]⟩ : ByteArray), .bool false, .string (⟨#[]⟩ : ByteArray), .string (⟨#[116]⟩ : ByteArray), .string (⟨#[97, 99]⟩ : ByteArray)] from (k73_mkM _ _ _ (⟨(⟨#[84]⟩ : ByteArray), false, (⟨#[]⟩ : ByteArray), (⟨#[116]⟩ : ByteArray), (⟨#[97, 99]⟩ : ByteArray)⟩ : S73) )) (Reps.c5 (show Kd.M k73 _ _ _ (⟨(⟨#[67]⟩ : ByteArray), false, (⟨#[]⟩ : ByteArray), (⟨#[97, 98, 99]⟩ : ByteArray), (⟨#[]⟩ : ByteArray)⟩ : S73) [.string (⟨#[67]⟩ : ByteArray), .bool false, .string (⟨#[]⟩ : ByteArray), .string (⟨#[97, 98, 99]⟩ : ByteArray), .string (⟨#[]⟩ : ByteArray)] from (k73_mkM _ _ _ (⟨(⟨#[67]⟩ : ByteArray), false, (⟨#[]⟩ : ByteArray), (⟨#[97, 98, 99]⟩ : ByteArray), (⟨#[]⟩ : ByteArray)⟩ : S73) )) (Reps.none _ _)))))))))); intro v262 w6 ho7 hb hg_ hnew_; clear hg_ hnew_; (rw [← Ny261.out] at ho7); have HO263 := am (Kd.R_lower (Kd.R_newB ho7 (g := gb260) (o := .cells #[.string (⟨#[]⟩ : ByteArray), .bool false, .string (⟨#[]⟩ : ByteArray), .string (⟨#[]⟩ : ByteArray), .string (⟨#[]⟩ : ByteArray)] 73 (0, 0)) (bq BK260.out)) (keep_size (w := w) (g := g) (row := none) b105_)); replace BK260 := am (blk_below (bq BK260.out) hb); replace HK := am (KeepBut.trans b105_ (KeepBut.of_below hb g none) (.inl rfl)); replace HB := am (below_step b139_ hb); replace HI0 := am (IsS114.below b143_ hb); clear hb ho7; obtain ⟨Ao8, co8, eo8⟩ := Kd.R_slice HO263.out; subst eo8) | ((with_reducible refine gate_callee (f := 53) rfl ?_); refine gl 17 Try.func53 #[.pointer (some ⟨g, 0, none⟩), .int .i64 (y261.length : Int)] ?_; (with_reducible refine (spec_l1Rd_pick.calls k g s0_0 s0_1 (y261.length : Int) t264 t265 w0 _ ?side1 ?side2 A2.out).mono ?_); (case side1 => repeat (with_reducible exact HI0.out)); (case side2 => repeat (with_reducible exact HB.out)); rintro e w9 ⟨rfl, hi, hb, hk⟩; refine ⟨_, rfl, ?_⟩; replace BK260 := am (KeepBut.blk hk (g' := gb260) (o := .cells #[.string (⟨#[]⟩ : ByteArray), .bool false, .string (⟨#[]⟩ : ByteArray), .string (⟨#[]⟩ : ByteArray), .string (⟨#[]⟩ : ByteArray)] 73 (0, 0)) (bq BK260.out) NB260_0.out (by simp)); replace HO263 := am (Kd.R_mono (Kd.R_keep (IsS114.apart (show IsS114 w0 _ g s0_0 s0_1 from by repeat (with_reducible exact HI0.out)) (rq HO263.out) (by decide)) hk (fun _ h => h.2)) (fun _ h => h.1)); replace HK := am (KeepBut.trans b105_ hk (.inl rfl)); replace HB := am (hb); replace HI0 := am (hi); clear hb hk hi; have p266 : 0 ≤ (t264 : Int) := of_decide_eq_true ad; have q266 : t264 < (y261.length : Int) := of_decide_eq_true ad; obtain ⟨ad266, e266, hx266_0, hx266_1, hx266_2, hx266_3, hx266_4⟩ := at_T73 (Kd.R_reads' HO263.out).2.2 t264 p266 q266; cases e266; replace p266 := eq_true p266; replace q266 := eq_true q266; have hnb10 := NB260_0.out; have hnc10 := NB0_260.out; have ⟨hcz11_0, hcz11_1, hcz11_2, hcz11_3, hcz11_4, hfz11_0, hfz11_1, hfz11_2, hfz11_3, hfz11_4⟩ := b5c BK260.out))
 refine bodyPost_ret (results_cell_row rfl _ _ gb260 73 #[.string ((rd_T73 y261 t264).f0), .bool ((rd_T73 y261 t264).f1), .string ((rd_T73 y261 t264).f2), .string ((rd_T73 y261 t264).f3), .string ((rd_T73 y261 t264).f4)] (0, 0) _ rfl (by (with_reducible repeat (fail)); refine blk_put (cs := #[.string ((rd_T73 y261 t264).f0), .bool ((rd_T73 y261 t264).f1), .string ((rd_T73 y261 t264).f2), .string ((rd_T73 y261 t264).f3), .string (⟨#[]⟩ : ByteArray)]) ?_ 4 _ rfl; (with_reducible repeat (fail)); refine blk_put (cs := #[.string ((rd_T73 y261 t264).f0), .bool ((rd_T73 y261 t264).f1), .string ((rd_T73 y261 t264).f2), .string (⟨#[]⟩ : ByteArray), .string (⟨#[]⟩ : ByteArray)]) ?_ 3 _ rfl; (with_reducible repeat (fail)); refine blk_put (cs := #[.string ((rd_T73 y261 t264).f0), .bool ((rd_T73 y261 t264).f1), .string (⟨#[]⟩ : ByteArray), .string (⟨#[]⟩ : ByteArray), .string (⟨#[]⟩ : ByteArray)]) ?_ 2 _ rfl; (with_reducible repeat (fail)); refine blk_put (cs := #[.string ((rd_T73 y261 t264).f0), .bool false, .string (⟨#[]⟩ : ByteArray), .string (⟨#[]⟩ : ByteArray), .string (⟨#[]⟩ : ByteArray)]) ?_ 1 _ rfl; (with_reducible repeat (fail)); refine blk_put (cs := #[.string (⟨#[]⟩ : ByteArray), .bool false, .string (⟨#[]⟩ : ByteArray), .string (⟨#[]⟩ : ByteArray), .string (⟨#[]⟩ : ByteArray)]) ?_ 0 _ rfl; (with_reducible repeat (fail)); exact BK260.out) Try.underlying73 rfl (by kernel_rfl)) rfl ?_
 exact ⟨eq_, b143_, b139_, b105_⟩
-- shrunk

attribute [local go_sem high] eqA73
/-! ### spec_l13Affixes: function 111 -/
mutual
def spec_l13Affixes.l0 : Nat → List (S73) → Int → List Int → Int → Option ((List (S73)) × Int)
 | 0, _, _, _, _ => none
 | k + 1, x3, x4, x1000, x1001 => if x4 > 0 then ((spec_l13Affix.f k x1000 x1001).bind fun bt272 => (spec_l13Affixes.l1 k x3 x4 false 0 x1000 bt272.2.2.2.2.2 bt272.1 bt272.2.1 bt272.2.2.1 bt272.2.2.2.1 bt272.2.2.2.2.1)) else (some (x3, x1001))
def spec_l13Affixes.l1 : Nat → List (S73) → Int → Bool → Int → List Int → Int → ByteArray → Bool → ByteArray → ByteArray → ByteArray → Option ((List (S73)) × Int)
 | 0, _, _, _, _, _, _, _, _, _, _, _ => none
 | k + 1, x3, x4, x6, x7, x1000, x1001, x279000, x279001, x279002, x279003, x279004 => if x7 < (x3.length : Int) then (if x6 = true then (spec_l13Affixes.l1 k x3 x4 true (wrap64 (x7 + 1)) x1000 x1001 x279000 x279001 x279002 x279003 x279004) else (if 0 ≤ x7 then (spec_l13Affixes.l1 k x3 x4 ((((rd_T73 x3 x7).f0).toList) == x279000.toList && (((rd_T73 x3 x7).f1) == x279001 && ((((rd_T73 x3 x7).f2).toList) == x279002.toList && ((((rd_T73 x3 x7).f3).toList) == x279003.toList && ((((rd_T73 x3 x7).f4).toList) == x279004.toList))))) (wrap64 (x7 + 1)) x1000 x1001 x279000 x279001 x279002 x279003 x279004) else (none))) else (if x6 = true then (spec_l13Affixes.l0 k x3 (wrap64 (x4 - 1)) x1000 x1001) else (if x3.length < 1954687338268 then (spec_l13Affixes.l0 k (x3 ++ [(⟨x279000, x279001, x279002, x279003, x279004⟩ : S73)]) (wrap64 (x4 - 1)) x1000 x1001) else (none)))
end
def spec_l13Affixes.f (k : Nat) (s0_0 : List Int) (s0_1 : Int) : Option ((List (S73)) × Int) := (spec_l1Rd_pick.f k s0_0 s0_1 5).bind fun bt270 => (spec_l13Affixes.l0 k (([] : List (S73))) bt270.1 s0_0 bt270.2)
theorem spec_l13Affixes.calls (k : Nat) (g : Nat) (s0_0 : List Int) (s0_1 : Int) (r1 : List (S73)) (r2 : Int) (w0 w : World) (hI : IsS114 w0 w g s0_0 s0_1) (hB : Below w0.heap.size w0 w) (h : spec_l13Affixes.f k s0_0 s0_1 = some (r1, r2)) :
  Calls Try.prog 111 #[.pointer (some ⟨g, 0, none⟩)] w fun e w' => ∃ v0_ : Value, e = .returned (v0_) ∧ Kd.R k73 73 w' w.heap.size (fun _ => True) v0_ r1 ∧ IsS114 w0 w' g s0_0 r2 ∧ Below w0.heap.size w0 w' ∧ KeepBut w w' g none := by
 have hu73 := Try.underlying73; have HI0 := am hI; have HK := am (KeepBut.refl w g none); have HL := am hB.size; clear hI; have HW0 := am hB.size; have HB := am hB; clear hB
 have H := h; unfold spec_l13Affixes.f at H
 clear h; obtain ⟨y267, hy267⟩ : ∃ y_ : List (S73), y_ = (([] : List (S73))) := ⟨_, rfl⟩
 rw [← hy267] at H
 have Ny267 := am hy267; clear hy267; replace H := bs H; obtain ⟨⟨t270, t271⟩, A20, H⟩ := H; dsimp only at H; have A2 := Aside0.mk A20; clear A20
 have H' := am H
 clear H; go_enter Try.func111, Try.ntmps111
 go_wp2_with (first | ((with_reducible refine gate_dst (N := 8) rfl ?_); refine Kd.R_lit k73 _ 73 ?hg (N := 8) ?hd (xs := ([] : List (S73))) (inner := []) (ok := fun _ => True) (okp := fun _ => True) ?hr ?hp (fun _ hk => hk) trivial (Below.refl _ _) (Nat.le_refl _) (by simp) ?_; (case hd => rfl); (case hg => rfl); (case hr => (go_simp; done)); (case hp => exact (Reps.none _ _)); intro v268 w3 ho4 hb hg_ hnew_; clear hg_ hnew_; (rw [← Ny267.out] at ho4); have HO269 := am (Kd.R_lower ho4 (keep_size (w := w) (g := g) (row := none) b0_)); replace HK := am (KeepBut.trans b0_ (KeepBut.of_below hb g none) (.inl rfl)); replace HB := am (below_step b5_ hb); replace HI0 := am (IsS114.below b8_ hb); clear hb ho4) | (go_at_call 53; (with_reducible refine (spec_l1Rd_pick.calls k g s0_0 s0_1 5 t270 t271 w0 _ ?side1 ?side2 A2.out).mono ?_); (case side1 => repeat (with_reducible exact HI0.out)); (case side2 => repeat (with_reducible exact HB.out)); rintro e w5 ⟨rfl, hi, hb, hk⟩; replace HO269 := am (Kd.R_mono (Kd.R_keep (IsS114.apart (show IsS114 w0 _ g s0_0 s0_1 from by repeat (with_reducible exact HI0.out)) (rq HO269.out) (by decide)) hk (fun _ h => h.2)) (fun _ h => h.1)); replace HK := am (KeepBut.trans b0_ hk (.inl rfl)); replace HB := am (hb); replace HI0 := am (hi); clear hb hk hi))
 go_loopg [3, 4] k (fun kq v3 v4 w' => ∃ (x3_1 : List (S73)) (x4_1 : Int) (x1001_1 : Int), v4 = .int .i64 x4_1 ∧ Aside0 (spec_l13Affixes.l0 kq x3_1 x4_1 s0_0 x1001_1 = some (r1, r2)) ∧ Aside0 (kq ≤ k) ∧ Aside0 (Kd.R k73 73 w' w.heap.size (fun _ => True) v3 x3_1) ∧ Aside0 (IsS114 w0 w' g s0_0 x1001_1) ∧ Aside0 (KeepBut w w' g none) ∧ Aside0 (Below w0.heap.size w0 w'))
 case atStart => exact ⟨(y267), (t270), (t271), sq, H', ⟨Nat.le_refl _⟩, ⟨rq HO269.out⟩, ⟨b8_⟩, ⟨b0_⟩, ⟨b5_⟩⟩
 case round =>
  clear H'; obtain ⟨x3_1, x4_1, x1001_1, rfl, HA, HK1, HO_3, HI0, HK, HB⟩ := hrel
  cases gk with
  | zero => exact absurd HA.out (by simp [spec_l13Affixes.l0])
  | succ k1 =>
   have H := HA.out; clear HA; simp only [spec_l13Affixes.l0] at H
   by_cases c6 : x4_1 > 0
   ·rw [if_pos c6] at H; have c6b0 := decide_eq_true c6; clear c6; replace H := bs H; obtain ⟨⟨t272, t273, t274, t275, t276, t277⟩, A70, H⟩ := H; dsimp only at H; have A7 := Aside0.mk A70; clear A70
    have H' := am H
    clear H
    go_wp2_with (first | (go_at_call 114; (with_reducible refine (spec_l13Affix.calls k1 g s0_0 x1001_1 t272 t273 t274 t275 t276 t277 w0 _ ?side1 ?side2 A7.out).mono ?_); (case side1 => repeat (with_reducible exact HI0.out)); (case side2 => repeat (with_reducible exact HB.out)); rintro e w8 ⟨rfl, hi, hb, hk⟩; replace HO_3 := am (Kd.R_mono (Kd.R_keep (IsS114.apart (show IsS114 w0 _ g s0_0 x1001_1 from by repeat (with_reducible exact HI0.out)) (rq HO_3.out) (by decide)) hk (fun _ h => h.2)) (fun _ h => h.1)); replace HK := am (KeepBut.trans b0_ hk (.inl rfl)); replace HB := am (hb); replace HI0 := am (hi); clear hb hk hi) | ((with_reducible refine gate_dst (N := 5) rfl ?_); refine bx 5 (cs := #[.string (⟨#[]⟩ : ByteArray), .bool false, .string (⟨#[]⟩ : ByteArray), .string (⟨#[]⟩ : ByteArray), .string (⟨#[]⟩ : ByteArray)]) (t := 73) ?_; intro gb278 hg w9 hbox hb; replace HO_3 := am (Kd.R_below (Kd.R_elderB (rq HO_3.out) gb278 (Nat.le_of_eq hg.symm)) hb); replace HB := am (below_step b5_ hb); have BK278 := am (hbox); have GW278 := am ((b4_ : w.heap.size ≤ gb278)); have GE278 := am ((Nat.le_trans HW0.out (b4_ : w.heap.size ≤ gb278) : w0.heap.size ≤ gb278)); replace HK := am (KeepBut.trans b0_ (KeepBut.of_below hb g none) (.inl rfl)); have NB0_278 := am ((b107_ : g ≠ gb278)); have NB278_0 := am ((b108_ : gb278 ≠ g)); replace HI0 := am (IsS114.below b8_ hb); clear hb hbox hg; have hnb10 := NB278_0.out; have hnc10 := NB0_278.out; have ⟨hcz11_0, hcz11_1, hcz11_2, hcz11_3, hcz11_4, hfz11_0, hfz11_1, hfz11_2, hfz11_3, hfz11_4⟩ := b5c BK278.out))
    go_loopg [6, 7] k1 (fun kq v6 v7 w' => ∃ (x6_2 : Bool) (x7_2 : Int), v6 = .bool x6_2 ∧ v7 = .int .i64 x7_2 ∧ Aside0 (spec_l13Affixes.l1 kq x3_1 x4_1 x6_2 x7_2 s0_0 t277 t272 t273 t274 t275 t276 = some (r1, r2)) ∧ Aside0 (kq ≤ k1) ∧ Aside0 (Kd.R k73 73 w' w.heap.size (fun k_ => k_ ≠ gb278) u3 x3_1) ∧ Aside0 (w'.heap[gb278]? = some (.cells #[.string t272, .bool t273, .string t274, .string t275, .string t276] 73 (0, 0))) ∧ Aside0 (IsS114 w0 w' g s0_0 t277) ∧ Aside0 (KeepBut w w' g none) ∧ Aside0 (Below w0.heap.size w0 w'))
    case atStart => exact ⟨(false), (0), sq, sq, H', ⟨Nat.le_refl _⟩, ⟨rq (Kd.R_mono (Kd.R_far (p := ⟨gb278, 4, none⟩) (Kd.R_far (p := ⟨gb278, 3, none⟩) (Kd.R_far (p := ⟨gb278, 2, none⟩) (Kd.R_far (p := ⟨gb278, 1, none⟩) (Kd.R_far (p := ⟨gb278, 0, none⟩) (Kd.R_mono HO_3.out (fun k_ hk => (⟨hk, hk.2⟩ : _ ∧ k_ ≠ gb278))) (fun _ hk => hk.2) (.string t272)) (fun _ hk => hk.2) (.bool t273)) (fun _ hk => hk.2) (.string t274)) (fun _ hk => hk.2) (.string t275)) (fun _ hk => hk.2) (.string t276)) (fun _ hk => hk.1.2))⟩, ⟨by (with_reducible repeat (fail)); refine blk_put (cs := #[.string t272, .bool t273, .string t274, .string t275, .string (⟨#[]⟩ : ByteArray)]) ?_ 4 _ rfl; (with_reducible repeat (fail)); refine blk_put (cs := #[.string t272, .bool t273, .string t274, .string (⟨#[]⟩ : ByteArray), .string (⟨#[]⟩ : ByteArray)]) ?_ 3 _ rfl; (with_reducible repeat (fail)); refine blk_put (cs := #[.string t272, .bool t273, .string (⟨#[]⟩ : ByteArray), .string (⟨#[]⟩ : ByteArray), .string (⟨#[]⟩ : ByteArray)]) ?_ 2 _ rfl; (with_reducible repeat (fail)); refine blk_put (cs := #[.string t272, .bool false, .string (⟨#[]⟩ : ByteArray), .string (⟨#[]⟩ : ByteArray), .string (⟨#[]⟩ : ByteArray)]) ?_ 1 _ rfl; (with_reducible repeat (fail)); refine blk_put (cs := #[.string (⟨#[]⟩ : ByteArray), .bool false, .string (⟨#[]⟩ : ByteArray), .string (⟨#[]⟩ : ByteArray), .string (⟨#[]⟩ : ByteArray)]) ?_ 0 _ rfl; (with_reducible repeat (fail)); exact BK278.out⟩, ⟨b48_⟩, ⟨b36_⟩, ⟨b46_⟩⟩
    case round =>
     clear H'; clear c6b0 hcz11_0 hcz11_1 hcz11_2 hcz11_3 hcz11_4 hfz11_0 hfz11_1 hfz11_2 hfz11_3 hfz11_4; obtain ⟨x6_2, x7_2, rfl, rfl, HA, HK2, HO_3, BK278, HI0, HK, HB⟩ := hrel
     cases gk with
     | zero => exact absurd HA.out (by simp [spec_l13Affixes.l1])
     | succ k2 =>
      have H := HA.out; clear HA; simp only [spec_l13Affixes.l1] at H
      by_cases c12 : x7_2 < (x3_1.length : Int)
      ·rw [if_pos c12] at H; have c12b0 := decide_eq_true c12; clear c12
       by_cases c13 : x6_2 = true
       ·subst c13
        rw [if_pos rfl] at H
        have H' := am H
        clear H; obtain ⟨Ao14, co14, eo14⟩ := Kd.R_slice HO_3.out; subst eo14; go_wp2
        repeat (go_quiet (fail); try go_wp2)
        go_roundg k2
        case measure => have := HK1.out; have := HK2.out; omega
        case rel => exact ⟨(true), (wrap64 (x7_2 + 1)), sq, sq, H', ⟨b160_⟩, ⟨rq HO_3.out⟩, ⟨bq BK278.out⟩, ⟨b48_⟩, ⟨b36_⟩, ⟨b46_⟩⟩
       replace c13 := Bool.eq_false_iff.mpr c13; subst c13
       rw [if_neg Bool.false_ne_true] at H; replace H := it H; obtain ⟨c15b0, H⟩ := H
       have H' := am H
       clear H; obtain ⟨Ao16, co16, eo16⟩ := Kd.R_slice HO_3.out; subst eo16
       have p279 : 0 ≤ (x7_2 : Int) := of_decide_eq_true ad
       have q279 : x7_2 < (x3_1.length : Int) := of_decide_eq_true ad
       obtain ⟨ad279, e279, hx279_0, hx279_1, hx279_2, hx279_3, hx279_4⟩ := at_T73 (Kd.R_reads' HO_3.out).2.2 x7_2 p279 q279; cases e279
       replace p279 := eq_true p279; replace q279 := eq_true q279; have hnb17 := NB278_0.out; have hnc17 := NB0_278.out; have ⟨hcz18_0, hcz18_1, hcz18_2, hcz18_3, hcz18_4, hfz18_0, hfz18_1, hfz18_2, hfz18_3, hfz18_4⟩ := b5c BK278.out; go_wp2
       repeat (go_quiet (fail); try go_wp2)
       go_roundg k2
       case measure => have := HK1.out; have := HK2.out; omega
       case rel => exact ⟨(((((rd_T73 x3_1 x7_2).f0).toList) == t272.toList && (((rd_T73 x3_1 x7_2).f1) == t273 && ((((rd_T73 x3_1 x7_2).f2).toList) == t274.toList && ((((rd_T73 x3_1 x7_2).f3).toList) == t275.toList && ((((rd_T73 x3_1 x7_2).f4).toList) == t276.toList)))))), (wrap64 (x7_2 + 1)), sq, sq, H', ⟨b160_⟩, ⟨rq HO_3.out⟩, ⟨bq BK278.out⟩, ⟨b48_⟩, ⟨b36_⟩, ⟨b46_⟩⟩
      rw [if_neg c12] at H; have c12b0 := decide_eq_false c12; clear c12
      by_cases c19 : x6_2 = true
      ·subst c19
       rw [if_pos rfl] at H
       have H' := am H
       clear H; obtain ⟨Ao20, co20, eo20⟩ := Kd.R_slice HO_3.out; subst eo20; go_wp2
       go_roundg k2
       case measure => have := HK1.out; have := HK2.out; omega
       case rel => exact ⟨(x3_1), (wrap64 (x4_1 - 1)), (t277), sq, H', ⟨b160_⟩, ⟨rq (Kd.R_mono HO_3.out (fun _ hk => trivial))⟩, ⟨b48_⟩, ⟨b36_⟩, ⟨b46_⟩⟩
      replace c19 := Bool.eq_false_iff.mpr c19; subst c19
      rw [if_neg Bool.false_ne_true] at H
      replace H := ip H; obtain ⟨c21, H⟩ := H; have LMc21 := Aside0.mk c21; clear c21; obtain ⟨y280, hy280⟩ : ∃ y_ : List (S73), y_ = (x3_1 ++ [(⟨t272, t273, t274, t275, t276⟩ : S73)]) := ⟨_, rfl⟩
      rw [← hy280] at H
      have Ny280 := am hy280; clear hy280
      have H' := am H
      clear H; obtain ⟨Ao22, co22, eo22⟩ := Kd.R_slice HO_3.out; subst eo22; have hnb23 := NB278_0.out; have hnc23 := NB0_278.out; have ⟨hcz24_0, hcz24_1, hcz24_2, hcz24_3, hcz24_4, hfz24_0, hfz24_1, hfz24_2, hfz24_3, hfz24_4⟩ := b5c BK278.out
      go_wp2_with ((with_reducible refine gate_builtin (b := .append) (xs := #[.tmp 34, .tmp 36]) rfl ?_); at_builtin; refine Kd.R_append k73 w.heap.size rfl (.tmp 34) (.tmp 36) 29 73 (.agg #[(.string ⟨#[]⟩), (.bool false), (.string ⟨#[]⟩), (.string ⟨#[]⟩), (.string ⟨#[]⟩)]) 72 rfl Try.underlying29 info73 rfl (by decide) (by omega) (.slice Ao22 x3_1.length co22) x3_1 (⟨t272, t273, t274, t275, t276⟩ : S73) [.string t272, .bool t273, .string t274, .string t275, .string t276] (fun k_ => k_ ≠ gb278) (fun _ => False) rfl rfl ?aP (fun _ hk => hk.elim) ?aF ?aO (Below.refl _ _) ?aS ?aL ?_; (case aP => exact k73_mkM _ _ _ (⟨t272, t273, t274, t275, t276⟩ : S73)); (case aF => exact (fun k_ hk => Kd.freshB (g := gb278) (o := .cells #[.string t272, .bool t273, .string t274, .string t275, .string t276] 73 (0, 0)) (bq BK278.out) k_ hk)); (case aO => exact (rq HO_3.out)); (case aS => exact (keep_size (w := w) (g := g) (row := none) b36_)); (case aL => have := LMc21.out; omega); intro v281 w25 ho hb hg hat; rw [← Ny280.out] at ho; replace BK278 := am (blk_grown (g := gb278) (o := .cells #[.string t272, .bool t273, .string t274, .string t275, .string t276] 73 (0, 0)) (bq BK278.out) hg (Kd.R_away HO_3.out (fun _ hk => hk))); replace HB := am (below_weaken b46_ HL.out hb); replace HI0 := am (IsS114.grown b48_ hg (IsS114.own_ne HI0.out HO_3.out (by decide))); replace HK := am (KeepBut.trans b36_ (KeepBut.of_grown hg g) (Kd.R_base2 HO_3.out)); have HO282 := am (ho); clear HO_3; clear ho hb hg hat)
      go_roundg k2
      case measure => have := HK1.out; have := HK2.out; omega
      case rel => exact ⟨(y280), (wrap64 (x4_1 - 1)), (t277), sq, H', ⟨b160_⟩, ⟨rq (Kd.R_mono HO282.out (fun _ hk => trivial))⟩, ⟨b48_⟩, ⟨b36_⟩, ⟨b46_⟩⟩
   rw [if_neg c6] at H; have c6b0 := decide_eq_false c6; clear c6; simp only [Option.some.injEq, Prod.mk.injEq] at H
   obtain ⟨rfl, rfl⟩ := H; go_wp2
   go_ret
   exact ⟨_, eq_, by (with_reducible repeat (fail)); exact HO_3.out, b8_, b5_, b0_⟩
-- shrunk

/-! ### spec_l1Put: function 112 -/
mutual
def spec_l1Put.l0 : Nat → List ByteArray → ByteArray → Int → Option (List ByteArray)
 | 0, _, _, _ => none
 | k + 1, x0, x1, x5 => if x5 < (x0.length : Int) then (if 0 ≤ x5 then (spec_l1Put.j1 k x0 x1 x5 (Op.bytesLess ((rdOf ByteArray.empty x0 x5).toList) x1.toList)) else (none)) else (spec_l1Put.j1 k x0 x1 x5 false)
def spec_l1Put.j1 : Nat → List ByteArray → ByteArray → Int → Bool → Option (List ByteArray)
 | 0, _, _, _, _ => none
 | k + 1, x0, x1, x5, x17 => if x17 = true then (spec_l1Put.l0 k x0 x1 (wrap64 (x5 + 1))) else (if x5 < (x0.length : Int) then (if 0 ≤ x5 then (spec_l1Put.j2 k x0 x1 x5 ((rdOf ByteArray.empty x0 x5).toList == x1.toList)) else (none)) else (spec_l1Put.j2 k x0 x1 x5 false))
def spec_l1Put.j2 : Nat → List ByteArray → ByteArray → Int → Bool → Option (List ByteArray)
 | 0, _, _, _, _ => none
 | k + 1, x0, x1, x5, x31 => if x31 = true then (some x0) else ((some (([] : List ByteArray) : List ByteArray)).bind fun y285 => (if 0 ≤ x5 then (if x5 ≤ (x0.length : Int) then ((some (x0.take (x5 : Int).toNat : List ByteArray)).bind fun y288 => (if y285.length + y288.length < 8796093022208 then ((some (y285 ++ y288 : List ByteArray)).bind fun y293 => ((some (([x1] : List ByteArray) : List ByteArray)).bind fun y296 => (if y293.length + y296.length < 8796093022208 then ((some (y293 ++ y296 : List ByteArray)).bind fun y299 => ((some (x0.drop (x5 : Int).toNat : List ByteArray)).bind fun y302 => (if y299.length + y302.length < 8796093022208 then (some (y299 ++ y302)) else (none)))) else (none)))) else (none))) else (none)) else (none)))
end
def spec_l1Put.f (k : Nat) (l0 : List ByteArray) (a1 : ByteArray) : Option (List ByteArray) := spec_l1Put.l0 k l0 a1 0
def spec_l1Put.T6 : Bool × List (List Nat × List Nat) := (true, [([], []), ([], []), ([], []), ([1, 2], [1, 2]), ([0, 3], [0, 3]), ([], []), ([5], [5]), ([4, 6, 4], [4, 6]), ([], []), ([], []), ([8, 9], [8, 9]), ([7, 10, 7], [7, 10]), ([11, 11, 0, 1, 2, 3, 4, 5, 6, 7, 8, 9, 10, 11], [11])])
def spec_l1Put.B6 : List Nat := [0, 0, 0, 6, 15, 0, 32, 127, 0, 0, 768, 2047, 4095]
theorem spec_l1Put.tab6 : rtab .any (opsOf Try.f112 6) = spec_l1Put.T6 := by kernel_rfl
theorem spec_l1Put.bits6 : waitsOk spec_l1Put.T6.2 spec_l1Put.B6 = true := by kernel_rfl
theorem spec_l1Put.calls (k : Nat) (P0_ : Nat → Prop) (A0 : Option Addr) (c0 : Nat) (l0 : List ByteArray) (a1 : ByteArray) (r : List ByteArray) (w : World) (hs0 : Kd.V Kd.string 9 w w.heap.size (fun k_ => P0_ k_) (.slice A0 l0.length c0) l0) (h : spec_l1Put.f k l0 a1 = some r) :
  Calls Try.prog 112 #[.slice A0 l0.length c0, .string a1] w fun e w' => ∃ v0_ : Value, e = .returned (v0_) ∧ Kd.V Kd.string 9 w' w.heap.size (fun k_ => (P0_ k_ ∨ w.heap.size ≤ k_)) v0_ r ∧ Below w.heap.size w w' := by
 have HO0 := am (show Kd.V Kd.string 9 w w.heap.size (fun k_ => (P0_ k_ ∨ w.heap.size ≤ k_)) (.slice A0 l0.length c0) l0 from Kd.V_mono hs0 (fun k_ hk => .inl hk)); have HB := am (Below.refl w.heap.size w)
 have H := h; unfold spec_l1Put.f at H
 clear h
 have H' := am H
 clear H; go_enter Try.func112, Try.ntmps112; go_wp2
 go_loopg [5] k (fun kq v5 w' => ∃ (x5_1 : Int), v5 = .int .i64 x5_1 ∧ Aside0 (spec_l1Put.l0 kq l0 a1 x5_1 = some r) ∧ Aside0 (kq ≤ k) ∧ Aside0 (Kd.V Kd.string 9 w' w.heap.size (fun k_ => (P0_ k_ ∨ w.heap.size ≤ k_)) (.slice A0 l0.length c0) l0) ∧ Aside0 (Below w.heap.size w w'))
 case atStart => exact ⟨(0), sq, H', ⟨Nat.le_refl _⟩, ⟨vq HO0.out⟩, ⟨bel⟩⟩
 case round =>
  clear H'; obtain ⟨x5_1, rfl, HA, HK1, HO_0, HB⟩ := hrel
  cases gk with
  | zero => exact absurd HA.out (by simp [spec_l1Put.l0])
  | succ k1 =>
   have H := HA.out; clear HA; simp only [spec_l1Put.l0] at H; have HC3 := am H; clear H
   go_upto_region 2 with (fail)
   go_cut [17] (fun v17 wc => ∃ (kq : Nat) (x17_2 : Bool), v17 = .bool x17_2 ∧ Aside0 (spec_l1Put.j1 kq l0 a1 x5_1 x17_2 = some r) ∧ Aside0 (kq ≤ k1) ∧ Aside0 (Kd.V Kd.string 9 wc w.heap.size (fun k_ => (P0_ k_ ∨ w.heap.size ≤ k_)) (.slice A0 l0.length c0) l0) ∧ Aside0 (Below w.heap.size w wc))
   case first =>
    have H := HC3.out; clear HC3
    by_cases c4 : x5_1 < (l0.length : Int)
    ·rw [if_pos c4] at H; have c4b0 := decide_eq_true c4; clear c4
     (skip)
     replace H := it H; obtain ⟨c5b0, H⟩ := H
     have H' := am H
     clear H
     have p283 : 0 ≤ (x5_1 : Int) := of_decide_eq_true ad
     have q283 : x5_1 < (l0.length : Int) := of_decide_eq_true ad
     obtain ⟨ad283, e283, hx283_0⟩ := Kd.at_string (Kd.V_reads' HO_0.out).2.2 x5_1 p283 q283; cases e283
     replace p283 := eq_true p283; replace q283 := eq_true q283; go_wp2
     go_meet
     case rel => exact ⟨_, ((Op.bytesLess ((rdOf ByteArray.empty l0 x5_1).toList) a1.toList)), sq, H', ⟨by have := HK1.out; omega⟩, ⟨vq HO_0.out⟩, ⟨bel⟩⟩
    rw [if_neg c4] at H; have c4b0 := decide_eq_false c4; clear c4
    (skip)
    have H' := am H
    clear H; go_wp2
    go_meet
    case rel => exact ⟨_, (false), sq, H', ⟨by have := HK1.out; omega⟩, ⟨vq HO_0.out⟩, ⟨bel⟩⟩
   case rest =>
    clear HC3; obtain ⟨kq, x17_2, rfl, HA, HJ2, HO_0, HB⟩ := hcut
    cases kq with
    | zero => exact absurd HA.out (by simp [spec_l1Put.j1])
    | succ kj2 =>
     have H := HA.out; clear HA; simp only [spec_l1Put.j1] at H
     by_cases c6 : x17_2 = true
     ·subst c6
      rw [if_pos rfl] at H
      have H' := am H
      clear H; go_wp2
      go_roundg kj2
      case measure => have := HK1.out; have := HJ2.out; omega
      case rel => exact ⟨(wrap64 (x5_1 + 1)), sq, H', ⟨by have := HK1.out; have := HJ2.out; omega⟩, ⟨vq HO_0.out⟩, ⟨bel⟩⟩
     replace c6 := Bool.eq_false_iff.mpr c6; subst c6
     rw [if_neg Bool.false_ne_true] at H; have HC7 := am H; clear H
     go_upto_region 4 with (fail)
     go_cut [31] (fun v31 wc => ∃ (kq : Nat) (x31_6 : Bool), v31 = .bool x31_6 ∧ Aside0 (spec_l1Put.j2 kq l0 a1 x5_1 x31_6 = some r) ∧ Aside0 (kq ≤ kj2) ∧ Aside0 (Kd.V Kd.string 9 wc w.heap.size (fun k_ => (P0_ k_ ∨ w.heap.size ≤ k_)) (.slice A0 l0.length c0) l0) ∧ Aside0 (Below w.heap.size w wc))
     case first =>
      have H := HC7.out; clear HC7
      by_cases c8 : x5_1 < (l0.length : Int)
      ·rw [if_pos c8] at H; have c8b0 := decide_eq_true c8; clear c8
       (skip)
       replace H := it H; obtain ⟨c9b0, H⟩ := H
       have H' := am H
       clear H
       have p284 : 0 ≤ (x5_1 : Int) := of_decide_eq_true ad
       have q284 : x5_1 < (l0.length : Int) := of_decide_eq_true ad
       obtain ⟨ad284, e284, hx284_0⟩ := Kd.at_string (Kd.V_reads' HO_0.out).2.2 x5_1 p284 q284; cases e284
       replace p284 := eq_true p284; replace q284 := eq_true q284; go_wp2
       go_meet
       case rel => exact ⟨_, (((rdOf ByteArray.empty l0 x5_1).toList == a1.toList)), sq, H', ⟨by have := HK1.out; have := HJ2.out; omega⟩, ⟨vq HO_0.out⟩, ⟨bel⟩⟩
      rw [if_neg c8] at H; have c8b0 := decide_eq_false c8; clear c8
      (skip)
      have H' := am H
      clear H; go_wp2
      go_meet
      case rel => exact ⟨_, (false), sq, H', ⟨by have := HK1.out; have := HJ2.out; omega⟩, ⟨vq HO_0.out⟩, ⟨bel⟩⟩
     case rest =>
      clear HC7; obtain ⟨kq, x31_6, rfl, HA, HJ6, HO_0, HB⟩ := hcut
      cases kq with
      | zero => exact absurd HA.out (by simp [spec_l1Put.j2])
      | succ kj6 =>
       have H := HA.out; clear HA; simp only [spec_l1Put.j2] at H
       by_cases c10 : x31_6 = true
       ·subst c10
        rw [if_pos rfl] at H
        obtain rfl := Option.some.inj H; go_wp2; go_ret
        exact ⟨_, eq_, by (with_reducible repeat (fail)); exact HO_0.out, bel⟩
       replace c10 := Bool.eq_false_iff.mpr c10; subst c10
       rw [if_neg Bool.false_ne_true] at H
       obtain ⟨y285, hy285⟩ : ∃ y_ : List ByteArray, y_ = (([] : List ByteArray)) := ⟨_, rfl⟩
       replace H : (if 0 ≤ x5_1 then (if x5_1 ≤ (l0.length : Int) then ((some (l0.take (x5_1 : Int).toNat : List ByteArray)).bind fun y288 => (if y285.length + y288.length < 8796093022208 then ((some (y285 ++ y288 : List ByteArray)).bind fun y293 => ((some (([a1] : List ByteArray) : List ByteArray)).bind fun y296 => (if y293.length + y296.length < 8796093022208 then ((some (y293 ++ y296 : List ByteArray)).bind fun y299 => ((some (l0.drop (x5_1 : Int).toNat : List ByteArray)).bind fun y302 => (if y299.length + y302.length < 8796093022208 then (some (y299 ++ y302)) else (none)))) else (none)))) else (none))) else (none)) else (none)) = some r := by (have H2_ := bm H; rw [hy285]; with_reducible exact H2_)
       have Ny285 := am hy285; clear hy285; replace H := ip H; obtain ⟨c11, H⟩ := H; have c11b0 := eq_true c11
       have c11b1 : decide (0 ≤ x5_1) = true := decide_eq_true c11
       clear c11; replace H := ip H; obtain ⟨c12, H⟩ := H; have c12b0 := eq_true c12
       have c12b1 : decide (x5_1 ≤ (l0.length : Int)) = true := decide_eq_true c12
       clear c12; obtain ⟨y288, hy288⟩ : ∃ y_ : List ByteArray, y_ = (l0.take (x5_1 : Int).toNat) := ⟨_, rfl⟩
       replace H := bm H; rw [← hy288] at H
       have Ny288 := am hy288; clear hy288
       replace H := ip H; obtain ⟨c13, H⟩ := H; have LMc13 := Aside0.mk c13; clear c13; obtain ⟨y293, hy293⟩ : ∃ y_ : List ByteArray, y_ = (y285 ++ y288) := ⟨_, rfl⟩
       replace H := bm H; rw [← hy293] at H
       have Ny293 := am hy293; clear hy293; obtain ⟨y296, hy296⟩ : ∃ y_ : List ByteArray, y_ = (([a1] : List ByteArray)) := ⟨_, rfl⟩
       replace H := bm H; rw [← hy296] at H
       have Ny296 := am hy296; clear hy296
       replace H := ip H; obtain ⟨c14, H⟩ := H; have LMc14 := Aside0.mk c14; clear c14; obtain ⟨y299, hy299⟩ : ∃ y_ : List ByteArray, y_ = (y293 ++ y296) := ⟨_, rfl⟩
       replace H := bm H; rw [← hy299] at H
       have Ny299 := am hy299; clear hy299; have c15b0 := eq_true (of_decide_eq_true ad : 0 ≤ x5_1); have c16b0 := eq_true (of_decide_eq_true ad : x5_1 ≤ (l0.length : Int)); obtain ⟨y302, hy302⟩ : ∃ y_ : List ByteArray, y_ = (l0.drop (x5_1 : Int).toNat) := ⟨_, rfl⟩
       replace H := bm H; rw [← hy302] at H
       have Ny302 := am hy302; clear hy302
       replace H := ip H; obtain ⟨c17, H⟩ := H; have LMc17 := Aside0.mk c17; clear c17; obtain ⟨y307, hy307⟩ : ∃ y_ : List ByteArray, y_ = (y299 ++ y302) := ⟨_, rfl⟩
       rw [← hy307] at H
       have Ny307 := am hy307; clear hy307; obtain rfl := Option.some.inj H
       try go_wp2
       replace HO_0 := am (Kd.V_drew HO_0.out); replace HB := am (below_drew1 HB.out)
       have q19 : (x5_1 : Int) ≤ ((l0.length : Int) : Int) := of_decide_eq_true ad
       obtain ⟨i019, hi019, _, hsz19, _⟩ := info_parts info9
       have hroom19 : l0.length ≤ c0 := (Kd.V_reads' HO_0.out).2.1
       have hC19 : Kd.F Kd.string _ _ A0 l0.length l0 := (Kd.V_at (base := w.heap.size) HO_0.out).2.2
       have hcut19 := cut_to (P := Try.prog) 27 9 .i64 Try.underlying27 hi019 A0 l0.length c0 x5_1 (of_decide_eq_true ad) q19 hroom19; have hr19 := Kd.F_take (m := (x5_1 : Int).toNat) hC19 (by omega)
       have hy19 : y288.length = (x5_1 : Int).toNat := (by rw [Ny288.out, List.length_take]; omega)
       rw [← Ny288.out] at hr19; rw [← hy19] at hcut19
       have HO292 := am (show Kd.V Kd.string 9 _ w.heap.size _ (.slice A0 y288.length c0) y288 from Kd.V_mk (by omega) hr19)
       have HC292 := am (show y288.length ≤ c0 from by omega)
       clear hr19 hC19 hroom19 hi019 hsz19; have KY19 := am hy19; clear hy19; replace q19 := eq_true q19
       have q20 : (x5_1 : Int) ≤ ((l0.length : Int) : Int) := of_decide_eq_true ad
       obtain ⟨i020, hi020, _, hsz20, _⟩ := info_parts info9
       have hroom20 : l0.length ≤ c0 := (Kd.V_reads' HO_0.out).2.1
       have hC20 : Kd.F Kd.string _ _ A0 l0.length l0 := (Kd.V_at (base := w.heap.size) HO_0.out).2.2
       have q020 : (0 : Int) ≤ (x5_1 : Int) := of_decide_eq_true ad
       have hcut20 := cut_from (P := Try.prog) 27 9 .i64 Try.underlying27 hi020 1 hsz20 A0 l0.length c0 x5_1 q020 q20; have hr20 := Kd.F_cut (m := (x5_1 : Int).toNat) (c := c0) hC20 (by omega) hroom20
       obtain ⟨A20, hA20⟩ : ∃ A1, A1 = (if c0 = (x5_1 : Int).toNat then A0 else (A0 : Option Addr).map (·.add ((x5_1 : Int).toNat * 1))) := ⟨_, rfl⟩; obtain ⟨c20, hc20⟩ : ∃ c1, c1 = c0 - (x5_1 : Int).toNat := ⟨_, rfl⟩
       have hy20 : y302.length = l0.length - (x5_1 : Int).toNat := (by rw [Ny302.out, List.length_drop] <;> omega)
       rw [show (l0).drop (x5_1 : Int).toNat = y302 from Ny302.out.symm] at hr20
       replace hr20 : Kd.F Kd.string _ _ A20 y302.length y302 := (by rw [hA20]; exact hr20)
       rw [← hy20, ← hA20, ← hc20] at hcut20
       have HO306 := am (show Kd.V Kd.string 9 _ w.heap.size _ (.slice A20 y302.length c20) y302 from Kd.V_mk (by rw [hy20, hc20]; exact Nat.sub_le_sub_right hroom20 _) hr20)
       have HC306 := am (show y302.length ≤ c20 from by rw [hy20, hc20]; exact Nat.sub_le_sub_right hroom20 _)
       clear hr20 hC20 hroom20 hi020 hsz20 hc20; have KY20 := am hy20; have KA20 := am hA20; clear hy20 hA20; replace q20 := eq_true q20
       refine st (n := 13) (S := fun w' => True) (ds := []) trivial (fun hHeld => ?_); refine with_tabW spec_l1Put.tab6 spec_l1Put.bits6 (fun HT_ HW_ => ?_)
       generalize wc.drew = w18 at HO_0 HB HO292 HO306 hHeld ⊢; refine pu 1 34 ?_; refine pu 2 35 ?_; refine pu 3 36 ?_; refine pu 5 38 ?_; refine pu 8 41 ?_; refine pu 9 42 ?_; refine pu 10 43 ?_
       refine join_ (σ := Value × Value × Value) 3 #[true, true, true, true, true, true, true, false, true, true, true, false, false] (fun s_ => [(33, s_.1), (37, s_.2.1), (39, s_.2.2)]) (fun s_ w' => (Kd.V Kd.string 9 w' w.heap.size (fun k_ => (P0_ k_ ∨ w.heap.size ≤ k_) ∧ some k_ ≠ (s_.2.1 : Value).ownBlock ∧ some k_ ≠ (s_.2.2 : Value).ownBlock) (.slice A0 y288.length c0) y288) ∧ (Kd.R Kd.string 9 w' w.heap.size (fun k_ => (w.heap.size ≤ k_) ∧ some k_ ≠ (s_.2.2 : Value).ownBlock) s_.2.1 y293) ∧ (Kd.R Kd.string 9 w' w.heap.size (fun k_ => (w.heap.size ≤ k_) ∧ some k_ ≠ (s_.2.1 : Value).ownBlock) s_.2.2 y296) ∧ (Kd.V Kd.string 9 w' w.heap.size (fun k_ => (P0_ k_ ∨ w.heap.size ≤ k_) ∧ some k_ ≠ (s_.2.1 : Value).ownBlock ∧ some k_ ≠ (s_.2.2 : Value).ownBlock) (.slice A20 y302.length c20) y302) ∧ (Kd.V Kd.string 9 w' w.heap.size (fun k_ => (P0_ k_ ∨ w.heap.size ≤ k_) ∧ some k_ ≠ (s_.2.1 : Value).ownBlock ∧ some k_ ≠ (s_.2.2 : Value).ownBlock) (.slice A0 l0.length c0) l0) ∧ (Below w.heap.size w w')) ?_ ?_
       rotate_left
       ·intro hCont
        refine two_ (i := 0) (j := 6) (Ni := some 33) (Nj := some 39) #[true, true, true, true, false, true, false, false, true, true, true, false, false] #[false, true, true, true, false, true, true, false, true, true, true, false, false] rfl rfl rfl rfl (two_of HT_.out (by kernel_rfl)) (by decide) (by decide) (fun K hK => ?_) (fun K hK => ?_)
        ·skip
         refine Kd.R_lit_step Kd.string _ 9 ?hg (N := 33) ?hd (xs := ([] : List ByteArray)) (inner := []) (ok := fun _ => True) (okp := fun _ => True) ?hr ?hp (fun _ hk => hk) trivial (Below.refl _ _) (Nat.le_refl _) (by simp) ?_; (case hd => rfl); (case hg => rfl); (case hr => (go_simp; done)); (case hp => exact (Reps.none _ _))
         intro v286 w21 ho22 hb hg_ hnew_; clear hg_ hnew_
         (rw [← Ny285.out] at ho22)
         replace HO_0 := am (Kd.V_elder' (vq HO_0.out) (Kd.R_base ho22) hb); replace HO292 := am (Kd.V_elder' (vq HO292.out) (Kd.R_base ho22) hb); replace HO306 := am (Kd.V_elder' (vq HO306.out) (Kd.R_base ho22) hb); have HO287 := am (Kd.R_lower (Kd.R_newM (M := fun k_ => (w.heap.size ≤ k_)) ho22 (below_size bel) (fun k_ h_ => h_)) (below_size bel)); replace HB := am (below_step bel hb); clear hb ho22
         refine hK.out _ _ trivial (fun hHeld => ?_); clear hK K; refine nm 33 ?_
         refine two_ (i := 4) (j := 6) (Ni := some 37) (Nj := some 39) #[true, true, true, true, true, true, false, false, true, true, true, false, false] #[true, true, true, true, false, true, true, false, true, true, true, false, false] rfl rfl rfl rfl (two_of HT_.out (by kernel_rfl)) (by decide) (by decide) (fun K hK => ?_) (fun K hK => ?_)
         ·skip
          refine Kd.R_append_rows_step Kd.string (w0 := w) w.heap.size (by rfl) (.tmp 33) (.tmp 36) 27 9 (.string ⟨#[]⟩) 16 rfl Try.underlying27 info9 rfl (by decide) (by omega) v286 y285 y288 _ _ _ (fun k_ => (w.heap.size ≤ k_)) (fun _ => False) rfl rfl ?aO ?aR (fun _ _ h => h) (fun _ h => h.elim) ?aF ?aB ?aS ?aL ?_
          (case aR => exact cq (Kd.V_reads' HO292.out).2.2); (case aB => exact bel); (case aF => exact (fun k_ hk => (Nat.le_trans (below_size bel) hk))); (case aO => exact (rq (Kd.R_mono HO287.out (fun _ hk => hk.1)))); (case aS => exact (below_size bel)); (case aL => have := LMc13.out; omega); intro v294 w23 ho hb hg hat; rw [← Ny293.out] at ho; replace HO_0 := am (Kd.V_afterv (ok := (fun k_ => (P0_ k_ ∨ w.heap.size ≤ k_))) (vq HO_0.out) hg hat); replace HO292 := am (Kd.V_afterv (ok := (fun k_ => (P0_ k_ ∨ w.heap.size ≤ k_))) (vq HO292.out) hg hat); replace HO306 := am (Kd.V_afterv (ok := (fun k_ => (P0_ k_ ∨ w.heap.size ≤ k_))) (vq HO306.out) hg hat); replace HB := am (hb); have HO295 := am (ho); clear HO287; clear ho hb hg hat
          refine hK.out _ _ trivial (fun hHeld => ?_); clear hK K; refine nm 37 ?_; refine on1 6 39 (fun K hK => ?_)
          refine Kd.R_lit_step Kd.string _ 9 ?hg (N := 39) ?hd (xs := ([a1] : List ByteArray)) (inner := [.string a1]) (ok := fun _ => True) (okp := fun _ => True) ?hr ?hp (fun _ hk => hk) trivial (Below.refl _ _) (Nat.le_refl _) (by simp) ?_; (case hd => rfl); (case hg => rfl); (case hr => (go_simp; done)); (case hp => exact (Reps.one (show Kd.M Kd.string _ _ _ a1 [.string a1] from rfl) (Reps.none _ _)))
          intro v297 w24 ho25 hb hg_ hnew_; clear hg_ hnew_
          (rw [← Ny296.out] at ho25)
          replace HO_0 := am (Kd.V_elder' (vq HO_0.out) (Kd.R_base ho25) hb); replace HO292 := am (Kd.V_elder' (vq HO292.out) (Kd.R_base ho25) hb); replace HO306 := am (Kd.V_elder' (vq HO306.out) (Kd.R_base ho25) hb); have HO298 := am (Kd.R_lower (Kd.R_new' (Kd.R_newM (M := fun k_ => (w.heap.size ≤ k_)) ho25 (below_size bel) (fun k_ h_ => h_)) (Kd.R_lt (rq HO295.out))) (below_size bel)); replace HO295 := am (Kd.R_elder' (rq HO295.out) (Kd.R_base ho25) hb); replace HB := am (below_step bel hb); clear hb ho25
          refine hK.out _ _ trivial (fun hHeld => ?_); clear hK K; refine nm 39 ?_
          exact norm_ b53_ (hCont (v286, v294, v297) _ ⟨(vq (Kd.V_mono HO292.out (fun _ hk => ⟨hk.1.1, ⟨hk.1.2, hk.2⟩⟩))), (rq HO295.out), (rq (Kd.R_mono HO298.out (fun _ hk => ⟨hk.1.1, hk.2⟩))), (vq (Kd.V_mono HO306.out (fun _ hk => ⟨hk.1.1, ⟨hk.1.2, hk.2⟩⟩))), (vq (Kd.V_mono HO_0.out (fun _ hk => ⟨hk.1.1, ⟨hk.1.2, hk.2⟩⟩))), bel⟩)
         ·skip
          refine Kd.R_lit_step Kd.string _ 9 ?hg (N := 39) ?hd (xs := ([a1] : List ByteArray)) (inner := [.string a1]) (ok := fun _ => True) (okp := fun _ => True) ?hr ?hp (fun _ hk => hk) trivial (Below.refl _ _) (Nat.le_refl _) (by simp) ?_; (case hd => rfl); (case hg => rfl); (case hr => (go_simp; done)); (case hp => exact (Reps.one (show Kd.M Kd.string _ _ _ a1 [.string a1] from rfl) (Reps.none _ _)))
          intro v297 w23 ho24 hb hg_ hnew_; clear hg_ hnew_
          (rw [← Ny296.out] at ho24)
          replace HO_0 := am (Kd.V_elder' (vq HO_0.out) (Kd.R_base ho24) hb); replace HO292 := am (Kd.V_elder' (vq HO292.out) (Kd.R_base ho24) hb); replace HO306 := am (Kd.V_elder' (vq HO306.out) (Kd.R_base ho24) hb); have HO298 := am (Kd.R_lower (Kd.R_new' (Kd.R_newM (M := fun k_ => (w.heap.size ≤ k_)) ho24 (below_size bel) (fun k_ h_ => h_)) (Kd.R_lt (rq HO287.out))) (below_size bel)); replace HO287 := am (Kd.R_elder' (rq HO287.out) (Kd.R_base ho24) hb); replace HB := am (below_step bel hb); clear hb ho24
          refine hK.out _ _ trivial (fun hHeld => ?_); clear hK K; refine nm 39 ?_; refine on1 4 37 (fun K hK => ?_)
          refine Kd.R_append_rows_step Kd.string (w0 := w) w.heap.size (by rfl) (.tmp 33) (.tmp 36) 27 9 (.string ⟨#[]⟩) 16 rfl Try.underlying27 info9 rfl (by decide) (by omega) v286 y285 y288 _ _ _ (fun k_ => (w.heap.size ≤ k_) ∧ some k_ ≠ (v297 : Value).ownBlock) (fun _ => False) rfl rfl ?aO ?aR (fun _ _ h => h) (fun _ h => h.elim) ?aF ?aB ?aS ?aL ?_
          (case aR => exact cq (Kd.V_reads' HO292.out).2.2); (case aB => exact bel); (case aF => exact (fun k_ hk => ⟨(Nat.le_trans (below_size bel) hk), Kd.fresh' (Kd.R_lt (rq HO298.out)) k_ hk⟩)); (case aO => exact (rq (Kd.R_mono HO287.out (fun _ hk => ⟨hk.1.1, hk.2⟩)))); (case aS => exact (below_size bel)); (case aL => have := LMc13.out; omega); intro v294 w25 ho hb hg hat; rw [← Ny293.out] at ho; replace HO_0 := am (Kd.V_afterv (ok := (fun k_ => (P0_ k_ ∨ w.heap.size ≤ k_) ∧ some k_ ≠ (v297 : Value).ownBlock)) (vq (Kd.V_mono HO_0.out (fun _ hk => ⟨⟨hk.1.1, hk.2⟩, hk.1.2⟩))) hg hat); replace HO292 := am (Kd.V_afterv (ok := (fun k_ => (P0_ k_ ∨ w.heap.size ≤ k_) ∧ some k_ ≠ (v297 : Value).ownBlock)) (vq (Kd.V_mono HO292.out (fun _ hk => ⟨⟨hk.1.1, hk.2⟩, hk.1.2⟩))) hg hat); replace HO306 := am (Kd.V_afterv (ok := (fun k_ => (P0_ k_ ∨ w.heap.size ≤ k_) ∧ some k_ ≠ (v297 : Value).ownBlock)) (vq (Kd.V_mono HO306.out (fun _ hk => ⟨⟨hk.1.1, hk.2⟩, hk.1.2⟩))) hg hat); replace HO298 := am (Kd.R_after (ok := (fun k_ => (w.heap.size ≤ k_))) (rq (Kd.R_mono HO298.out (fun _ hk => ⟨hk.1.1, hk.2⟩))) hg hat); replace HB := am (hb); have HO295 := am (ho); clear HO287; clear ho hb hg hat
          refine hK.out _ _ trivial (fun hHeld => ?_); clear hK K; refine nm 37 ?_
          exact norm_ b53_ (hCont (v286, v294, v297) _ ⟨(vq (Kd.V_mono HO292.out (fun _ hk => ⟨hk.1.1, ⟨hk.2, hk.1.2⟩⟩))), (rq HO295.out), (rq HO298.out), (vq (Kd.V_mono HO306.out (fun _ hk => ⟨hk.1.1, ⟨hk.2, hk.1.2⟩⟩))), (vq (Kd.V_mono HO_0.out (fun _ hk => ⟨hk.1.1, ⟨hk.2, hk.1.2⟩⟩))), bel⟩)
        ·skip
         refine Kd.R_lit_step Kd.string _ 9 ?hg (N := 39) ?hd (xs := ([a1] : List ByteArray)) (inner := [.string a1]) (ok := fun _ => True) (okp := fun _ => True) ?hr ?hp (fun _ hk => hk) trivial (Below.refl _ _) (Nat.le_refl _) (by simp) ?_; (case hd => rfl); (case hg => rfl); (case hr => (go_simp; done)); (case hp => exact (Reps.one (show Kd.M Kd.string _ _ _ a1 [.string a1] from rfl) (Reps.none _ _)))
         intro v297 w21 ho22 hb hg_ hnew_; clear hg_ hnew_
         (rw [← Ny296.out] at ho22)
         replace HO_0 := am (Kd.V_elder' (vq HO_0.out) (Kd.R_base ho22) hb); replace HO292 := am (Kd.V_elder' (vq HO292.out) (Kd.R_base ho22) hb); replace HO306 := am (Kd.V_elder' (vq HO306.out) (Kd.R_base ho22) hb); have HO298 := am (Kd.R_lower (Kd.R_newM (M := fun k_ => (w.heap.size ≤ k_)) ho22 (below_size bel) (fun k_ h_ => h_)) (below_size bel)); replace HB := am (below_step bel hb); clear hb ho22
         refine hK.out _ _ trivial (fun hHeld => ?_); clear hK K; refine nm 39 ?_; refine on1 0 33 (fun K hK => ?_)
         refine Kd.R_lit_step Kd.string _ 9 ?hg (N := 33) ?hd (xs := ([] : List ByteArray)) (inner := []) (ok := fun _ => True) (okp := fun _ => True) ?hr ?hp (fun _ hk => hk) trivial (Below.refl _ _) (Nat.le_refl _) (by simp) ?_; (case hd => rfl); (case hg => rfl); (case hr => (go_simp; done)); (case hp => exact (Reps.none _ _))
         intro v286 w23 ho24 hb hg_ hnew_; clear hg_ hnew_
         (rw [← Ny285.out] at ho24)
         replace HO_0 := am (Kd.V_elder' (vq HO_0.out) (Kd.R_base ho24) hb); replace HO292 := am (Kd.V_elder' (vq HO292.out) (Kd.R_base ho24) hb); replace HO306 := am (Kd.V_elder' (vq HO306.out) (Kd.R_base ho24) hb); have HO287 := am (Kd.R_lower (Kd.R_new' (Kd.R_newM (M := fun k_ => (w.heap.size ≤ k_)) ho24 (below_size bel) (fun k_ h_ => h_)) (Kd.R_lt (rq HO298.out))) (below_size bel)); replace HO298 := am (Kd.R_elder' (rq HO298.out) (Kd.R_base ho24) hb); replace HB := am (below_step bel hb); clear hb ho24
         refine hK.out _ _ trivial (fun hHeld => ?_); clear hK K; refine nm 33 ?_; refine on1 4 37 (fun K hK => ?_)
         refine Kd.R_append_rows_step Kd.string (w0 := w) w.heap.size (by rfl) (.tmp 33) (.tmp 36) 27 9 (.string ⟨#[]⟩) 16 rfl Try.underlying27 info9 rfl (by decide) (by omega) v286 y285 y288 _ _ _ (fun k_ => (w.heap.size ≤ k_) ∧ some k_ ≠ (v297 : Value).ownBlock) (fun _ => False) rfl rfl ?aO ?aR (fun _ _ h => h) (fun _ h => h.elim) ?aF ?aB ?aS ?aL ?_
         (case aR => exact cq (Kd.V_reads' HO292.out).2.2); (case aB => exact bel); (case aF => exact (fun k_ hk => ⟨(Nat.le_trans (below_size bel) hk), Kd.fresh' (Kd.R_lt (rq HO298.out)) k_ hk⟩)); (case aO => exact (rq (Kd.R_mono HO287.out (fun _ hk => ⟨hk.1.1, hk.2⟩)))); (case aS => exact (below_size bel)); (case aL => have := LMc13.out; omega); intro v294 w25 ho hb hg hat; rw [← Ny293.out] at ho; replace HO_0 := am (Kd.V_afterv (ok := (fun k_ => (P0_ k_ ∨ w.heap.size ≤ k_) ∧ some k_ ≠ (v297 : Value).ownBlock)) (vq HO_0.out) hg hat); replace HO292 := am (Kd.V_afterv (ok := (fun k_ => (P0_ k_ ∨ w.heap.size ≤ k_) ∧ some k_ ≠ (v297 : Value).ownBlock)) (vq HO292.out) hg hat); replace HO306 := am (Kd.V_afterv (ok := (fun k_ => (P0_ k_ ∨ w.heap.size ≤ k_) ∧ some k_ ≠ (v297 : Value).ownBlock)) (vq HO306.out) hg hat); replace HO298 := am (Kd.R_after (ok := (fun k_ => (w.heap.size ≤ k_))) (rq (Kd.R_mono HO298.out (fun _ hk => ⟨hk.1.1, hk.2⟩))) hg hat); replace HB := am (hb); have HO295 := am (ho); clear HO287; clear ho hb hg hat
         refine hK.out _ _ trivial (fun hHeld => ?_); clear hK K; refine nm 37 ?_
         exact norm_ b53_ (hCont (v286, v294, v297) _ ⟨(vq (Kd.V_mono HO292.out (fun _ hk => ⟨hk.1.1, ⟨hk.2, hk.1.2⟩⟩))), (rq HO295.out), (rq HO298.out), (vq (Kd.V_mono HO306.out (fun _ hk => ⟨hk.1.1, ⟨hk.2, hk.1.2⟩⟩))), (vq (Kd.V_mono HO_0.out (fun _ hk => ⟨hk.1.1, ⟨hk.2, hk.1.2⟩⟩))), bel⟩)
       rintro ⟨v286, v294, v297⟩ w26 ⟨h0_, h1_, h2_, h3_, h4_, h5_⟩
       have n0_ : Aside0 (Kd.V Kd.string 9 w26 w.heap.size (fun k_ => (P0_ k_ ∨ w.heap.size ≤ k_) ∧ some k_ ≠ (v294 : Value).ownBlock ∧ some k_ ≠ (v297 : Value).ownBlock) (.slice A0 y288.length c0) y288) := ⟨h0_⟩
       have n1_ : Aside0 (Kd.R Kd.string 9 w26 w.heap.size (fun k_ => (w.heap.size ≤ k_) ∧ some k_ ≠ (v297 : Value).ownBlock) v294 y293) := ⟨h1_⟩
       have n2_ : Aside0 (Kd.R Kd.string 9 w26 w.heap.size (fun k_ => (w.heap.size ≤ k_) ∧ some k_ ≠ (v294 : Value).ownBlock) v297 y296) := ⟨h2_⟩
       have n3_ : Aside0 (Kd.V Kd.string 9 w26 w.heap.size (fun k_ => (P0_ k_ ∨ w.heap.size ≤ k_) ∧ some k_ ≠ (v294 : Value).ownBlock ∧ some k_ ≠ (v297 : Value).ownBlock) (.slice A20 y302.length c20) y302) := ⟨h3_⟩
       have n4_ : Aside0 (Kd.V Kd.string 9 w26 w.heap.size (fun k_ => (P0_ k_ ∨ w.heap.size ≤ k_) ∧ some k_ ≠ (v294 : Value).ownBlock ∧ some k_ ≠ (v297 : Value).ownBlock) (.slice A0 l0.length c0) l0) := ⟨h4_⟩
       have n5_ : Aside0 (Below w.heap.size w w26) := ⟨h5_⟩
       clear HO_0; clear HB; clear h0_ h1_ h2_ h3_ h4_ h5_; have HO292 := n0_; have HO295 := n1_; have HO298 := n2_; have HO306 := n3_; have HO_0 := n4_; have HB := n5_; clear n0_ n1_ n2_ n3_ n4_ n5_; have hHeld := trivial; obtain ⟨Ao28, co28, eo28⟩ := Kd.R_slice HO298.out
       (subst eo28)
       refine norm_ (a' := ?_) ?_ ?_
       rotate_left
       ·simp only [putAll, Act.put, List.setIfInBounds_toArray, List.set_cons_zero, List.set_cons_succ]
        rfl
       refine on1 7 40 (fun K hK => ?_)
       refine Kd.R_append_rows_step Kd.string (w0 := w) w.heap.size (by rfl) (.tmp 37) (.tmp 39) 27 9 (.string ⟨#[]⟩) 16 rfl Try.underlying27 info9 rfl (by decide) (by omega) v294 y293 y296 _ _ _ (fun k_ => (w.heap.size ≤ k_) ∧ some k_ ≠ (.slice Ao28 y296.length co28 : Value).ownBlock) (fun _ => False) rfl rfl ?aO ?aR (fun _ _ h => h) (fun _ h => h.elim) ?aF ?aB ?aS ?aL ?_
       (case aR => exact cq (Kd.R_reads' HO298.out).2.2); (case aB => exact bel); (case aF => exact (fun k_ hk => ⟨(Nat.le_trans (below_size bel) hk), Kd.fresh' (Kd.R_lt (rq HO298.out)) k_ hk⟩)); (case aO => exact (rq HO295.out)); (case aS => exact (below_size bel)); (case aL => have := LMc14.out; omega); intro v300 w27 ho hb hg hat; rw [← Ny299.out] at ho; replace HO_0 := am (Kd.V_afterv (ok := (fun k_ => (P0_ k_ ∨ w.heap.size ≤ k_) ∧ some k_ ≠ (.slice Ao28 y296.length co28 : Value).ownBlock)) (vq (Kd.V_mono HO_0.out (fun _ hk => ⟨⟨hk.1, hk.2.2⟩, hk.2.1⟩))) hg hat); replace HO292 := am (Kd.V_afterv (ok := (fun k_ => (P0_ k_ ∨ w.heap.size ≤ k_) ∧ some k_ ≠ (.slice Ao28 y296.length co28 : Value).ownBlock)) (vq (Kd.V_mono HO292.out (fun _ hk => ⟨⟨hk.1, hk.2.2⟩, hk.2.1⟩))) hg hat); replace HO306 := am (Kd.V_afterv (ok := (fun k_ => (P0_ k_ ∨ w.heap.size ≤ k_) ∧ some k_ ≠ (.slice Ao28 y296.length co28 : Value).ownBlock)) (vq (Kd.V_mono HO306.out (fun _ hk => ⟨⟨hk.1, hk.2.2⟩, hk.2.1⟩))) hg hat); replace HO298 := am (Kd.R_after (ok := (fun k_ => (w.heap.size ≤ k_))) (rq HO298.out) hg hat); replace HB := am (hb); have HO301 := am (ho); clear HO295; clear ho hb hg hat
       refine hK.out _ _ trivial (fun hHeld => ?_); clear hK K; refine nm 40 ?_; refine on1 11 44 (fun K hK => ?_)
       refine Kd.R_append_rows_step Kd.string (w0 := w) w.heap.size (by rfl) (.tmp 40) (.tmp 43) 27 9 (.string ⟨#[]⟩) 16 rfl Try.underlying27 info9 rfl (by decide) (by omega) v300 y299 y302 _ _ _ (fun k_ => (w.heap.size ≤ k_) ∧ some k_ ≠ (.slice Ao28 y296.length co28 : Value).ownBlock) (fun _ => False) rfl rfl ?aO ?aR (fun _ _ h => h) (fun _ h => h.elim) ?aF ?aB ?aS ?aL ?_
       (case aR => exact cq (Kd.V_reads' HO306.out).2.2); (case aB => exact bel); (case aF => exact (fun k_ hk => ⟨(Nat.le_trans (below_size bel) hk), Kd.fresh' (Kd.R_lt (rq HO298.out)) k_ hk⟩)); (case aO => exact (rq HO301.out)); (case aS => exact (below_size bel)); (case aL => have := LMc17.out; omega); intro v308 w29 ho hb hg hat; rw [← Ny307.out] at ho; replace HO_0 := am (Kd.V_afterv (ok := (fun k_ => (P0_ k_ ∨ w.heap.size ≤ k_) ∧ some k_ ≠ (.slice Ao28 y296.length co28 : Value).ownBlock)) (vq HO_0.out) hg hat); replace HO292 := am (Kd.V_afterv (ok := (fun k_ => (P0_ k_ ∨ w.heap.size ≤ k_) ∧ some k_ ≠ (.slice Ao28 y296.length co28 : Value).ownBlock)) (vq HO292.out) hg hat); replace HO306 := am (Kd.V_afterv (ok := (fun k_ => (P0_ k_ ∨ w.heap.size ≤ k_) ∧ some k_ ≠ (.slice Ao28 y296.length co28 : Value).ownBlock)) (vq HO306.out) hg hat); replace HO298 := am (Kd.R_after (ok := (fun k_ => (w.heap.size ≤ k_))) (rq HO298.out) hg hat); replace HB := am (hb); have HO309 := am (ho); clear HO301; clear ho hb hg hat
       refine hK.out _ _ trivial (fun hHeld => ?_); clear hK K; refine nm 44 ?_; refine pu 12 4 ?_
       refine done_ (done_of HT_.out (by kernel_rfl)) ?_
       try go_wp2
       go_ret
       exact ⟨_, eq_, Kd.V_mono (Kd.R_V (rq (Kd.R_mono HO309.out (fun _ hk => hk.1)))) (fun k_ hk => by exact (.inr (hk))), bel⟩

/-! ### spec_l13Entry: function 113 -/
def spec_l13Entry.f (k : Nat) (s0_0 : List Int) (s0_1 : Int) (a1 : ByteArray) : Option (ByteArray × ByteArray × Int) := (spec_l1Rd_of.f k s0_0 s0_1 (([(⟨#[]⟩ : ByteArray), (⟨#[]⟩ : ByteArray), (⟨#[83]⟩ : ByteArray), (⟨#[71, 83]⟩ : ByteArray), (⟨#[85]⟩ : ByteArray), (⟨#[71, 85]⟩ : ByteArray), (⟨#[82]⟩ : ByteArray), (⟨#[84]⟩ : ByteArray), (⟨#[67, 82, 83, 85]⟩ : ByteArray)] : List ByteArray))).bind fun bt314 => (some (a1, bt314.1, bt314.2))
theorem spec_l13Entry.calls (k : Nat) (g : Nat) (s0_0 : List Int) (s0_1 : Int) (a1 : ByteArray) (r1 : ByteArray) (r2 : ByteArray) (r3 : Int) (w0 w : World) (hI : IsS114 w0 w g s0_0 s0_1) (hB : Below w0.heap.size w0 w) (h : spec_l13Entry.f k s0_0 s0_1 a1 = some (r1, r2, r3)) :
  Calls Try.prog 113 #[.pointer (some ⟨g, 0, none⟩), .string a1] w fun e w' => e = .returned (.agg #[.string r1, .string r2]) ∧ IsS114 w0 w' g s0_0 r3 ∧ Below w0.heap.size w0 w' ∧ KeepBut w w' g none := by
 have hu66 := Try.underlying66; have HI0 := am hI; have HK := am (KeepBut.refl w g none); have HL := am hB.size; clear hI; have HW0 := am hB.size; have HB := am hB; clear hB
 have H := h; unfold spec_l13Entry.f at H
 clear h; obtain ⟨y311, hy311⟩ : ∃ y_ : List ByteArray, y_ = (([(⟨#[]⟩ : ByteArray), (⟨#[]⟩ : ByteArray), (⟨#[83]⟩ : ByteArray), (⟨#[71, 83]⟩ : ByteArray), (⟨#[85]⟩ : ByteArray), (⟨#[71, 85]⟩ : ByteArray), (⟨#[82]⟩ : ByteArray), (⟨#[84]⟩ : ByteArray), (⟨#[67, 82, 83, 85]⟩ : ByteArray)] : List ByteArray)) := ⟨_, rfl⟩
 rw [← hy311] at H
 have Ny311 := am hy311; clear hy311; replace H := bs H; obtain ⟨⟨t314, t315⟩, A30, H⟩ := H; dsimp only at H; have A3 := Aside0.mk A30; clear A30
 simp only [Option.some.injEq, Prod.mk.injEq] at H
 obtain ⟨rfl, rfl, rfl⟩ := H; go_enter Try.func113, Try.ntmps113
 go_wp2_with (first | ((with_reducible refine gate_dst (N := 4) rfl ?_); refine bx 4 (cs := #[.string (⟨#[]⟩ : ByteArray), .string (⟨#[]⟩ : ByteArray)]) (t := 66) ?_; intro gb310 hg w4 hbox hb; replace HB := am (below_step b5_ hb); have BK310 := am (hbox); have GW310 := am ((b4_ : w.heap.size ≤ gb310)); have GE310 := am ((Nat.le_trans HW0.out (b4_ : w.heap.size ≤ gb310) : w0.heap.size ≤ gb310)); replace HK := am (KeepBut.trans b0_ (KeepBut.of_below hb g none) (.inl rfl)); have NB0_310 := am ((b21_ : g ≠ gb310)); have NB310_0 := am ((b22_ : gb310 ≠ g)); replace HI0 := am (IsS114.below b8_ hb); clear hb hbox hg) | ((with_reducible refine gate_dst (N := 7) rfl ?_); refine Kd.R_lit Kd.string _ 9 ?hg (N := 7) ?hd (xs := ([(⟨#[]⟩ : ByteArray), (⟨#[]⟩ : ByteArray), (⟨#[83]⟩ : ByteArray), (⟨#[71, 83]⟩ : ByteArray), (⟨#[85]⟩ : ByteArray), (⟨#[71, 85]⟩ : ByteArray), (⟨#[82]⟩ : ByteArray), (⟨#[84]⟩ : ByteArray), (⟨#[67, 82, 83, 85]⟩ : ByteArray)] : List ByteArray)) (inner := [.string (⟨#[]⟩ : ByteArray), .string (⟨#[]⟩ : ByteArray), .string (⟨#[83]⟩ : ByteArray), .string (⟨#[71, 83]⟩ : ByteArray), .string (⟨#[85]⟩ : ByteArray), .string (⟨#[71, 85]⟩ : ByteArray), .string (⟨#[82]⟩ : ByteArray), .string (⟨#[84]⟩ : ByteArray), .string (⟨#[67, 82, 83, 85]⟩ : ByteArray)]) (ok := fun _ => True) (okp := fun _ => True) ?hr ?hp (fun _ hk => hk) trivial (Below.refl _ _) (Nat.le_refl _) (by simp) ?_; (case hd => rfl); (case hg => rfl); (case hr => (go_simp; done)); (case hp => exact (Reps.one (show Kd.M Kd.string _ _ _ (⟨#[]⟩ : ByteArray) [.string (⟨#[]⟩ : ByteArray)] from rfl) (Reps.one (show Kd.M Kd.string _ _ _ (⟨#[]⟩ : ByteArray) [.string (⟨#[]⟩ : ByteArray)] from rfl) (Reps.one (show Kd.M Kd.string _ _ _ (⟨#[83]⟩ : ByteArray) [.string (⟨#[83]⟩ : ByteArray)] from rfl) (Reps.one (show Kd.M Kd.string _ _ _ (⟨#[71, 83]⟩ : ByteArray) [.string (⟨#[71, 83]⟩ : ByteArray)] from rfl) (Reps.one (show Kd.M Kd.string _ _ _ (⟨#[85]⟩ : ByteArray) [.string (⟨#[85]⟩ : ByteArray)] from rfl) (Reps.one (show Kd.M Kd.string _ _ _ (⟨#[71, 85]⟩ : ByteArray) [.string (⟨#[71, 85]⟩ : ByteArray)] from rfl) (Reps.one (show Kd.M Kd.string _ _ _ (⟨#[82]⟩ : ByteArray) [.string (⟨#[82]⟩ : ByteArray)] from rfl) (Reps.one (show Kd.M Kd.string _ _ _ (⟨#[84]⟩ : ByteArray) [.string (⟨#[84]⟩ : ByteArray)] from rfl) (Reps.one (show Kd.M Kd.string _ _ _ (⟨#[67, 82, 83, 85]⟩ : ByteArray) [.string (⟨#[67, 82, 83, 85]⟩ : ByteArray)] from rfl) (Reps.none _ _))))))))))); intro v312 w5 ho6 hb hg_ hnew_; clear hg_ hnew_; (rw [← Ny311.out] at ho6); have HO313 := am (Kd.R_lower ho6 (keep_size (w := w) (g := g) (row := none) b106_)); replace BK310 := am (blk_below (bq BK310.out) hb); replace HK := am (KeepBut.trans b106_ (KeepBut.of_below hb g none) (.inl rfl)); replace HB := am (below_step b140_ hb); replace HI0 := am (IsS114.below b144_ hb); clear hb ho6; obtain ⟨Ao7, co7, eo7⟩ := Kd.R_slice HO313.out; subst eo7) | ((with_reducible refine gate_callee (f := 92) rfl ?_); refine gl 8 Try.func92 #[.pointer (some ⟨g, 0, none⟩), .slice Ao7 y311.length co7] ?_; (with_reducible refine (spec_l1Rd_of.calls k g s0_0 s0_1 _ _ y311 t314 t315 w0 _ ?side1 ?side2 ?side3 ?side4 ?side5 A3.out).mono ?_); (case side1 => repeat (with_reducible exact HI0.out)); (case side2 => repeat (with_reducible exact HB.out)); (case side3 => exact cq (Kd.R_reads' HO313.out).2.2); (case side4 => exact (Kd.R_reads' HO313.out).2.1); (case side5 => exact far_slice (IsS114.own_ne HI0.out HO313.out (by decide))); rintro e w8 ⟨rfl, hi, hb, hk⟩; refine ⟨_, rfl, ?_⟩; replace BK310 := am (KeepBut.blk hk (g' := gb310) (o := .cells #[.string (⟨#[]⟩ : ByteArray), .string (⟨#[]⟩ : ByteArray)] 66 (0, 0)) (bq BK310.out) NB310_0.out (by simp)); replace HO313 := am (Kd.R_mono (Kd.R_keep (IsS114.apart (show IsS114 w0 _ g s0_0 s0_1 from by repeat (with_reducible exact HI0.out)) (rq HO313.out) (by decide)) hk (fun _ h => h.2)) (fun _ h => h.1)); replace HK := am (KeepBut.trans b106_ hk (.inl rfl)); replace HB := am (hb); replace HI0 := am (hi); clear hb hk hi; have hnb9 := NB310_0.out; have hnc9 := NB0_310.out; have ⟨hcz10_0, hcz10_1, hfz10_0, hfz10_1⟩ := b2c BK310.out))
 refine bodyPost_ret (results_cell_row rfl _ _ gb310 66 #[.string a1, .string t314] (0, 0) _ rfl (by (with_reducible repeat (fail)); refine blk_put (cs := #[.string a1, .string (⟨#[]⟩ : ByteArray)]) ?_ 1 _ rfl; (with_reducible repeat (fail)); refine blk_put (cs := #[.string (⟨#[]⟩ : ByteArray), .string (⟨#[]⟩ : ByteArray)]) ?_ 0 _ rfl; (with_reducible repeat (fail)); exact BK310.out) Try.underlying66 rfl (by kernel_rfl)) rfl ?_
 exact ⟨eq_, b144_, b140_, b106_⟩
end Go.Proofs.Ytdfnijaacnlfaaa.QFnDeltaOf

import Derived.Test.YtdfnijaacnlfaaaGreatQFnBookGuessesx0
import Derived.Test.YtdfnijaacnlfaaaGreatQFnBookGuessesx6
import Derived.Test.YtdfnijaacnlfaaaGreatQFnBookGuessesx10
import Derived.Test.YtdfnijaacnlfaaaGreatVMSh2
import Derived.Test.YtdfnijaacnlfaaaGreatQFnBookGuessesx7
namespace Go.Proofs.YtdfnijaacnlfaaaGreat.QFnBookGuesses
open Go.RowKit Go.Proofs.YtdfnijaacnlfaaaGreatW.PrintWords Go.Proofs.YtdfnijaacnlfaaaGreatW.PrintLast Go.Proofs.YtdfnijaacnlfaaaGreatW.PrintMore Go.Proofs.YtdfnijaacnlfaaaGreat.Sh
attribute [local go_sem] max2_int min2_int max_two min_two max_three min_three max_four min_four
set_option linter.unusedVariables false
set_option linter.unusedSimpArgs false
set_option maxHeartbeats 8000000
set_option maxRecDepth 100000
-- shrunk

/-! ### spec_l2Forms: function 44 -/
def spec_l2Forms.f (k : Nat) (l0 : List (S59)) (a1_0 : ByteArray) (a1_1 : ByteArray) : Option (List ByteArray) := (spec_l2One.f k l0 a1_1 false (([a1_0] : List ByteArray))).bind fun t376 => ((spec_l2One.f k l0 a1_1 true t376).bind fun t379 => (some t379))
def spec_l2Forms.T1 : Bool × List (List Nat × List Nat) := (true, [([], []), ([], []), ([1], [1]), ([], []), ([], []), ([4], [4]), ([], []), ([6], [6]), ([7], [7]), ([3, 5, 8], [3, 5, 8]), ([0, 2, 9, 9], [0, 2, 9]), ([10, 10, 0, 1, 2, 3, 4, 5, 6, 7, 8, 9, 10], [10])])
def spec_l2Forms.B1 : List Nat := [0, 0, 2, 0, 0, 16, 0, 64, 192, 504, 1023, 2047]
theorem spec_l2Forms.tab1 : rtab .any (opsOf Tryz.f44 1) = spec_l2Forms.T1 := by kernel_rfl
theorem spec_l2Forms.bits1 : waitsOk spec_l2Forms.T1.2 spec_l2Forms.B1 = true := by kernel_rfl
theorem spec_l2Forms.calls (k : Nat) (A0 : Option Addr) (c0 : Nat) (l0 : List (S59)) (a1_0 : ByteArray) (a1_1 : ByteArray) (r : List ByteArray) (w : World) (hr0 : Kd.C k59 w A0 l0.length l0) (hc0 : l0.length ≤ c0) (h : spec_l2Forms.f k l0 a1_0 a1_1 = some r) :
  Calls Tryz.prog 44 #[.slice A0 l0.length c0, .agg #[.string a1_0, .string a1_1]] w fun e w' => ∃ v0_ : Value, e = .returned (v0_) ∧ Kd.V Kd.string 9 w' w.heap.size (fun k_ => (w.heap.size ≤ k_)) v0_ r ∧ Below w.heap.size w w' := by
 have hu51 := Tryz.underlying51; have HR0 := am hr0; have HC0 := am hc0; clear hr0 hc0; have HB := am (Below.refl w.heap.size w)
 have H := h; unfold spec_l2Forms.f at H
 clear h; obtain ⟨y373, hy373⟩ : ∃ y_ : List ByteArray, y_ = (([a1_0] : List ByteArray)) := ⟨_, rfl⟩
 rw [← hy373] at H
 have Ny373 := am hy373; clear hy373; replace H := bs H; obtain ⟨t376, A30, H⟩ := H; have A3 := Aside0.mk A30; clear A30; replace H := bs H; obtain ⟨t379, A40, H⟩ := H; have A4 := Aside0.mk A40; clear A40; obtain rfl := Option.some.inj H; go_enter Tryz.func44, Tryz.ntmps44
 try go_wp2_with ((with_reducible refine gate_dst (N := 3) rfl ?_); refine bx 3 (cs := #[.string a1_0, .string a1_1]) (t := 51) ?_; intro gb372 hg w5 hbox hb; have BK372 := am (hbox); have GW372 := am ((b15_ : w.heap.size ≤ gb372)); have GE372 := am ((b15_ : w.heap.size ≤ gb372)); replace HB := am (below_step bel hb); clear hb hbox hg)
 replace BK372 := am (blk_drew BK372.out); replace HB := am (below_drew1 HB.out)
 refine st (n := 12) (S := fun w' => w'.cell? ⟨gb372, 0, none⟩ = some (.string a1_0) ∧ w'.cell? ⟨gb372, 1, none⟩ = some (.string a1_1)) (ds := []) ⟨bd BK372.out 0, bd BK372.out 1⟩ (fun hHeld => ?_); refine with_tabW spec_l2Forms.tab1 spec_l2Forms.bits1 (fun HT_ HW_ => ?_)
 generalize w5.drew = w6 at BK372 HB hHeld ⊢
 refine pu 0 5 ?_
 refine pu 1 6 ?_
 refine pu 3 8 ?_
 refine pu 4 9 ?_
 refine pu 6 11 ?_
 refine tk2 2 7 hHeld ?_
 refine tk2 5 10 hHeld ?_
 refine tk2 7 12 hHeld ?_
 refine on1 8 13 (fun K hK => ?_)
 refine Kd.R_lit_step Kd.string _ 9 ?hg (N := 13) ?hd (xs := ([a1_0] : List ByteArray)) (inner := [.string a1_0]) (ok := fun _ => True) (okp := fun _ => True) ?hr ?hp (fun _ hk => hk) trivial (Below.refl _ _) (Nat.le_refl _) (by simp) ?_; (case hd => rfl); (case hg => rfl); (case hr => (go_simp; done)); (case hp => exact (Reps.one (show Kd.M Kd.string _ _ _ a1_0 [.string a1_0] from rfl) (Reps.none _ _)))
 intro v374 w7 ho8 hb hg_ hnew_; clear hg_ hnew_
 (rw [← Ny373.out] at ho8)
 have HO375 := am (Kd.R_lower (Kd.R_newM (M := fun k_ => (w.heap.size ≤ k_)) ho8 (below_size (bel1 GE372.out)) (fun k_ h_ => h_)) (below_size (bel1 GE372.out))); replace BK372 := am (blk_below (bq BK372.out) hb); replace HB := am (below_step (bel1 GE372.out) hb); clear hb ho8; obtain ⟨Ao9, co9, eo9⟩ := Kd.R_slice HO375.out
 (subst eo9)
 refine hK.out _ _ ⟨bd BK372.out 0, bd BK372.out 1⟩ (fun hHeld => ?_)
 clear hK K
 refine nm 13 ?_
 refine on1 9 14 (fun K hK => ?_)
 refine go1 Tryz.func68 #[.slice A0 l0.length c0, .string a1_1, .bool false, .slice Ao9 y373.length co9] ?_
 with_reducible refine (spec_l2One.calls k _ _ l0 a1_1 false _ _ y373 t376 _ ?side1 ?side2 ?side3 ?side4 A3.out).mono ?_
 (case side1 => exact cq (Kd.C_below HR0.out HB.out)); (case side2 => exact HC0.out); (case side3 => exact cq (Kd.R_reads' HO375.out).2.2); (case side4 => exact (Kd.R_reads' HO375.out).2.1)
 rintro e w10 ⟨v377, rfl, ho0, hb⟩
 refine ⟨_, rfl, ?_⟩
 have HO378 := am (Kd.V_lower (Kd.V_mono (ok' := fun k_ => (w.heap.size ≤ k_) ∧ some k_ ≠ (.slice Ao9 y373.length co9 : Value).ownBlock ∧ k_ ≠ gb372) ho0 (fun k_ hk_ => ⟨(Nat.le_trans (below_size (bel1 GE372.out)) hk_), (Kd.fresh' (Kd.R_lt (rq HO375.out)) k_ hk_), (Kd.freshB (g := gb372) (o := .cells #[.string a1_0, .string a1_1] 51 (0, 0)) (bq BK372.out) k_ hk_)⟩)) (below_size (bel1 GE372.out))); replace HO375 := am (Kd.R_below (rq HO375.out) hb); replace BK372 := am (blk_below (bq BK372.out) hb); replace HB := am (below_step (bel1 GE372.out) hb)
 clear hb
 clear ho0
 obtain ⟨Ao11, co11, eo11⟩ := Kd.V_slice HO378.out
 (subst eo11)
 refine hK.out _ _ ⟨bd BK372.out 0, bd BK372.out 1⟩ (fun hHeld => ?_)
 clear hK K
 refine nm 14 ?_
 refine on1 10 15 (fun K hK => ?_)
 refine go1 Tryz.func68 #[.slice A0 l0.length c0, .string a1_1, .bool true, .slice Ao11 t376.length co11] ?_
 with_reducible refine (spec_l2One.calls k _ _ l0 a1_1 true _ _ t376 t379 _ ?side1 ?side2 ?side3 ?side4 A4.out).mono ?_
 (case side1 => exact cq (Kd.C_below HR0.out HB.out)); (case side2 => exact HC0.out); (case side3 => exact cq (Kd.V_reads' HO378.out).2.2); (case side4 => exact (Kd.V_reads' HO378.out).2.1)
 rintro e w12 ⟨v380, rfl, ho0, hb⟩
 refine ⟨_, rfl, ?_⟩
 replace HO378 := am (Kd.V_below (vq HO378.out) hb); have HO381 := am (Kd.V_lower (Kd.V_mono (ok' := fun k_ => (w.heap.size ≤ k_) ∧ some k_ ≠ (.slice Ao9 y373.length co9 : Value).ownBlock ∧ k_ ≠ gb372) ho0 (fun k_ hk_ => ⟨(Nat.le_trans (below_size (bel1 GE372.out)) hk_), (Kd.fresh' (Kd.R_lt (rq HO375.out)) k_ hk_), (Kd.freshB (g := gb372) (o := .cells #[.string a1_0, .string a1_1] 51 (0, 0)) (bq BK372.out) k_ hk_)⟩)) (below_size (bel1 GE372.out))); replace HO375 := am (Kd.R_below (rq HO375.out) hb); replace BK372 := am (blk_below (bq BK372.out) hb); replace HB := am (below_step (bel1 GE372.out) hb)
 clear hb
 clear ho0
 refine hK.out _ _ ⟨bd BK372.out 0, bd BK372.out 1⟩ (fun hHeld => ?_)
 clear hK K
 refine nm 15 ?_
 refine pu 11 4 ?_
 refine done_ (done_of HT_.out (by kernel_rfl)) ?_
 try go_wp2
 go_ret
 exact ⟨_, eq_, by (with_reducible repeat (fail)); exact Kd.V_mono HO381.out (fun _ hk => hk.1), bel1 GE372.out⟩

/-! ### spec_l2Words: function 23 -/
mutual
def spec_l2Words.l0 : Nat → List ByteArray → Int → List (S59) → List (S51) → Option (List ByteArray)
 | 0, _, _, _, _ => none
 | k + 1, x3, x4, x383000, x383001 => if x4 < (x383001.length : Int) then (if 0 ≤ x4 then ((spec_l2Forms.f k x383000 ((rd_T51 x383001 x4).f0) ((rd_T51 x383001 x4).f1)).bind fun t387 => (spec_l2Words.l1 k x3 x4 t387 0 x383000 x383001)) else (none)) else (some x3)
def spec_l2Words.l1 : Nat → List ByteArray → Int → List ByteArray → Int → List (S59) → List (S51) → Option (List ByteArray)
 | 0, _, _, _, _, _, _ => none
 | k + 1, x3, x4, x5, x6, x383000, x383001 => if x6 < (x5.length : Int) then (if 0 ≤ x6 then ((spec_l1Put.f k x3 (rdOf ByteArray.empty x5 x6)).bind fun t391 => (spec_l2Words.l1 k t391 x4 x5 (wrap64 (x6 + 1)) x383000 x383001)) else (none)) else (spec_l2Words.l0 k x3 (wrap64 (x4 + 1)) x383000 x383001)
end
def spec_l2Words.f (k : Nat) (l0_0 : List (S59)) (l0_1 : List (S51)) : Option (List ByteArray) := spec_l2Words.l0 k (([] : List ByteArray)) 0 l0_0 l0_1
def spec_l2Words.T5 : Bool × List (List Nat × List Nat) := (true, [([], []), ([0], [0]), ([], []), ([2], [2]), ([], []), ([3, 4], [3, 4]), ([5], [5]), ([1, 6], [1, 6]), ([7, 7, 0, 1, 2, 3, 4, 5, 6, 7], [7])])
def spec_l2Words.B5 : List Nat := [0, 1, 0, 4, 0, 28, 60, 127, 255]
theorem spec_l2Words.tab5 : rtab .any (opsOf Tryz.f23 5) = spec_l2Words.T5 := by kernel_rfl
theorem spec_l2Words.bits5 : waitsOk spec_l2Words.T5.2 spec_l2Words.B5 = true := by kernel_rfl
theorem spec_l2Words.calls (k : Nat) (A0_0 : Option Addr) (c0_0 : Nat) (l0_0 : List (S59)) (A0_1 : Option Addr) (c0_1 : Nat) (l0_1 : List (S51)) (r : List ByteArray) (w : World) (hr0_0 : Kd.C k59 w A0_0 l0_0.length l0_0) (hc0_0 : l0_0.length ≤ c0_0) (hr0_1 : Kd.C k51 w A0_1 l0_1.length l0_1) (hc0_1 : l0_1.length ≤ c0_1) (h : spec_l2Words.f k l0_0 l0_1 = some r) :
  Calls Tryz.prog 23 #[.agg #[.slice A0_0 l0_0.length c0_0, .slice A0_1 l0_1.length c0_1]] w fun e w' => ∃ v0_ : Value, e = .returned (v0_) ∧ Kd.V Kd.string 9 w' w.heap.size (fun k_ => (w.heap.size ≤ k_)) v0_ r ∧ Below w.heap.size w w' := by
 have hu26 := Tryz.underlying26; have hu51 := Tryz.underlying51; have HR0_0 := am hr0_0; have HC0_0 := am hc0_0; clear hr0_0 hc0_0; have HR0_1 := am hr0_1; have HC0_1 := am hc0_1; clear hr0_1 hc0_1; have HB := am (Below.refl w.heap.size w)
 have H := h; unfold spec_l2Words.f at H
 clear h; obtain ⟨y383, hy383⟩ : ∃ y_ : List ByteArray, y_ = (([] : List ByteArray)) := ⟨_, rfl⟩
 rw [← hy383] at H
 have Ny383 := am hy383; clear hy383
 have H' := am H
 clear H; go_enter Tryz.func23, Tryz.ntmps23
 go_wp2_with (first | ((with_reducible refine gate_dst (N := 1) rfl ?_); refine bx 1 (cs := #[.slice A0_0 l0_0.length c0_0, .slice A0_1 l0_1.length c0_1]) (t := 26) ?_; intro gb382 hg w2 hbox hb; have BK382 := am (hbox); have GW382 := am ((b15_ : w.heap.size ≤ gb382)); have GE382 := am ((b15_ : w.heap.size ≤ gb382)); replace HB := am (below_step bel hb); clear hb hbox hg) | ((with_reducible refine gate_dst (N := 7) rfl ?_); refine Kd.R_lit Kd.string _ 9 ?hg (N := 7) ?hd (xs := ([] : List ByteArray)) (inner := []) (ok := fun _ => True) (okp := fun _ => True) ?hr ?hp (fun _ hk => hk) trivial (Below.refl _ _) (Nat.le_refl _) (by simp) ?_; (case hd => rfl); (case hg => rfl); (case hr => (go_simp; done)); (case hp => exact (Reps.none _ _)); intro v384 w3 ho4 hb hg_ hnew_; clear hg_ hnew_; (rw [← Ny383.out] at ho4); have HO385 := am (Kd.R_lower (Kd.R_newM (M := fun k_ => (w.heap.size ≤ k_)) ho4 (below_size (bel1 GE382.out)) (fun k_ h_ => h_)) (below_size (bel1 GE382.out))); replace BK382 := am (blk_below (bq BK382.out) hb); replace HB := am (below_step (bel1 GE382.out) hb); clear hb ho4))
 go_loopg [3, 4] k (fun kq v3 v4 w' => ∃ (x3_1 : List ByteArray) (x4_1 : Int), v4 = .int .i64 x4_1 ∧ Aside0 (spec_l2Words.l0 kq x3_1 x4_1 l0_0 l0_1 = some r) ∧ Aside0 (kq ≤ k) ∧ Aside0 (Kd.V Kd.string 9 w' w.heap.size (fun k_ => (w.heap.size ≤ k_) ∧ k_ ≠ gb382) v3 x3_1) ∧ Aside0 (w'.heap[gb382]? = some (.cells #[(.slice A0_0 l0_0.length c0_0), (.slice A0_1 l0_1.length c0_1)] 26 (0, 0))) ∧ Aside0 (Below w.heap.size w w'))
 case atStart => exact ⟨(y383), (0), sq, H', ⟨Nat.le_refl _⟩, ⟨Kd.R_V (rq (Kd.R_mono (Kd.R_types HO385.out BK382.out (by decide)) (fun _ hk => ⟨hk.1.1, hk.2⟩)))⟩, ⟨bq BK382.out⟩, ⟨bel1 GE382.out⟩⟩
 case round =>
  clear H'; obtain ⟨x3_1, x4_1, rfl, HA, HK1, HO_3, BK382, HB⟩ := hrel
  cases gk with
  | zero => exact absurd HA.out (by simp [spec_l2Words.l0])
  | succ k1 =>
   have H := HA.out; clear HA; simp only [spec_l2Words.l0] at H
   by_cases c5 : x4_1 < (l0_1.length : Int)
   ·rw [if_pos c5] at H; have c5b0 := decide_eq_true c5; clear c5
    replace H := it H; obtain ⟨c6b0, H⟩ := H; replace H := bs H; obtain ⟨t387, A70, H⟩ := H; have A7 := Aside0.mk A70; clear A70
    have H' := am H
    clear H; have ⟨hcz8_0, hcz8_1, hfz8_0, hfz8_1⟩ := b2c BK382.out
    try go_wp2
    replace HO_3 := am (Kd.V_drew HO_3.out); replace BK382 := am (blk_drew BK382.out); replace HB := am (below_drew1 HB.out)
    have p386 : 0 ≤ (x4_1 : Int) := of_decide_eq_true ad
    have q386 : x4_1 < (l0_1.length : Int) := of_decide_eq_true ad
    obtain ⟨ad386, e386, hx386_0, hx386_1⟩ := at_T51 HR0_1.out x4_1 p386 q386; have hw386_1 := hx386_1; have hw386_0 := hx386_0; cases e386; replace hx386_0 := kp HB.out hx386_0; replace hx386_1 := kp HB.out hx386_1; replace p386 := eq_true p386; replace q386 := eq_true q386
    refine st (n := 9) (S := fun w' => w'.cell? ⟨gb382, 0, none⟩ = some (.slice A0_0 l0_0.length c0_0) ∧ w'.cell? ⟨gb382, 1, none⟩ = some (.slice (some ad386) l0_1.length c0_1) ∧ w'.cell? (ad386.add ((x4_1).toNat * 2)) = some (.string ((rd_T51 l0_1 x4_1).f0)) ∧ w'.cell? ⟨(ad386.add ((x4_1).toNat * 2)).block, (ad386.add ((x4_1).toNat * 2)).off + 1, none⟩ = some (.string ((rd_T51 l0_1 x4_1).f1))) (ds := []) ⟨bd BK382.out 0, bd BK382.out 1, (kp HB.out hw386_0), (kp HB.out hw386_1)⟩ (fun hHeld => ?_); refine with_tabW spec_l2Words.tab5 spec_l2Words.bits5 (fun HT_ HW_ => ?_)
    generalize wr.drew = w9 at HO_3 BK382 HB hx386_0 hx386_1 hHeld ⊢; refine pu 0 15 ?_; refine pu 2 17 ?_; refine pu 4 19 ?_; refine tk4 1 16 hHeld ?_; refine tk4 3 18 hHeld ?_; refine pu 5 20 ?_; refine tk4 6 21 hHeld ?_; refine on1 7 22 (fun K hK => ?_)
    refine go1 Tryz.func44 #[.slice A0_0 l0_0.length c0_0, .agg #[.string ((rd_T51 l0_1 x4_1).f0), .string ((rd_T51 l0_1 x4_1).f1)]] ?_
    with_reducible refine (spec_l2Forms.calls k1 _ _ l0_0 ((rd_T51 l0_1 x4_1).f0) ((rd_T51 l0_1 x4_1).f1) t387 _ ?side1 ?side2 A7.out).mono ?_
    (case side1 => exact cq (Kd.C_below HR0_0.out HB.out)); (case side2 => exact HC0_0.out)
    rintro e w10 ⟨v388, rfl, ho0, hb⟩; refine ⟨_, rfl, ?_⟩
    replace HO_3 := am (Kd.V_below (vq HO_3.out) hb); have HO389 := am (Kd.V_lower (Kd.V_mono (ok' := fun k_ => (w.heap.size ≤ k_) ∧ k_ ≠ gb382) ho0 (fun k_ hk_ => ⟨(Nat.le_trans (below_size (bel1 GE382.out)) hk_), (Kd.freshB (g := gb382) (o := .cells #[.slice A0_0 l0_0.length c0_0, .slice (some ad386) l0_1.length c0_1] 26 (0, 0)) (bq BK382.out) k_ hk_)⟩)) (below_size (bel1 GE382.out))); replace BK382 := am (blk_below (bq BK382.out) hb); replace HB := am (below_step (bel1 GE382.out) hb)
    clear hb ho0; refine hK.out _ _ ⟨bd BK382.out 0, bd BK382.out 1, (kp HB.out hw386_0), (kp HB.out hw386_1)⟩ (fun hHeld => ?_); clear hK K; refine nm 22 ?_; refine pu 8 5 ?_
    refine done_ (done_of HT_.out (by kernel_rfl)) ?_
    try go_wp2
    go_loopg [3, 6] k1 (fun kq v3 v6 w' => ∃ (x3_2 : List ByteArray) (x6_2 : Int), v6 = .int .i64 x6_2 ∧ Aside0 (spec_l2Words.l1 kq x3_2 x4_1 t387 x6_2 l0_0 l0_1 = some r) ∧ Aside0 (kq ≤ k1) ∧ Aside0 (Kd.V Kd.string 9 w' w.heap.size (fun k_ => (w.heap.size ≤ k_) ∧ k_ ≠ gb382) v3 x3_2) ∧ Aside0 (Kd.V Kd.string 9 w' w.heap.size (fun k_ => (w.heap.size ≤ k_) ∧ k_ ≠ gb382) v388 t387) ∧ Aside0 (w'.heap[gb382]? = some (.cells #[(.slice A0_0 l0_0.length c0_0), (.slice (some ad386) l0_1.length c0_1)] 26 (0, 0))) ∧ Aside0 (Below w.heap.size w w'))
    case atStart => exact ⟨(x3_1), (0), sq, H', ⟨Nat.le_refl _⟩, ⟨vq HO_3.out⟩, ⟨vq HO389.out⟩, ⟨bq BK382.out⟩, ⟨bel1 GE382.out⟩⟩
    case round =>
     clear H'; clear c5b0 c6b0 hcz8_0 hcz8_1 hfz8_0 hfz8_1 hx386_0 hx386_1 p386 q386; obtain ⟨x3_2, x6_2, rfl, HA, HK2, HO_3, HO_5, BK382, HB⟩ := hrel
     cases gk with
     | zero => exact absurd HA.out (by simp [spec_l2Words.l1])
     | succ k2 =>
      have H := HA.out; clear HA; simp only [spec_l2Words.l1] at H
      by_cases c11 : x6_2 < (t387.length : Int)
      ·rw [if_pos c11] at H; have c11b0 := decide_eq_true c11; clear c11
       replace H := it H; obtain ⟨c12b0, H⟩ := H; replace H := bs H; obtain ⟨t391, A130, H⟩ := H; have A13 := Aside0.mk A130; clear A130
       have H' := am H
       clear H; obtain ⟨Ao14, co14, eo14⟩ := Kd.V_slice HO_5.out; subst eo14
       have p390 : 0 ≤ (x6_2 : Int) := of_decide_eq_true ad
       have q390 : x6_2 < (t387.length : Int) := of_decide_eq_true ad
       obtain ⟨ad390, e390, hx390_0⟩ := Kd.at_string (Kd.V_reads' HO_5.out).2.2 x6_2 p390 q390; cases e390; replace p390 := eq_true p390; replace q390 := eq_true q390; obtain ⟨Ao15, co15, eo15⟩ := Kd.V_slice HO_3.out; subst eo15
       go_wp2_with ((with_reducible refine gate_callee (f := 45) rfl ?_); refine gl 34 Tryz.func45 #[.slice Ao15 x3_2.length co15, .string (rdOf ByteArray.empty t387 x6_2)] ?_; (with_reducible refine (spec_l1Put.calls k2 (fun k_ => ((w.heap.size ≤ k_) ∧ k_ ≠ gb382)) _ _ x3_2 (rdOf ByteArray.empty t387 x6_2) t391 _ ?side1 A13.out).mono ?_); (case side1 => exact HO_3.out); rintro e w16 ⟨v392, rfl, ho0, hb⟩; refine ⟨_, rfl, ?_⟩; replace HO_3 := am (Kd.V_below (vq HO_3.out) hb); replace HO_5 := am (Kd.V_below (vq HO_5.out) hb); have HO393 := am (Kd.V_lower (Kd.V_mono (ok' := fun k_ => (w.heap.size ≤ k_) ∧ k_ ≠ gb382) ho0 (fun k_ hk_ => ⟨Or.elim hk_ (fun hs_ => hs_.1) (fun hn_ => (Nat.le_trans (below_size (bel1 GE382.out)) hn_)), Or.elim hk_ (fun hs_ => hs_.2) (fun hn_ => (Kd.freshB (g := gb382) (o := .cells #[.slice A0_0 l0_0.length c0_0, .slice (some ad386) l0_1.length c0_1] 26 (0, 0)) (bq BK382.out) k_ hn_))⟩)) (below_size (bel1 GE382.out))); replace BK382 := am (blk_below (bq BK382.out) hb); replace HB := am (below_step (bel1 GE382.out) hb); clear hb; clear ho0)
       go_roundg k2
       case measure => have := HK1.out; have := HK2.out; omega
       case rel => exact ⟨(t391), (wrap64 (x6_2 + 1)), sq, H', ⟨b78_⟩, ⟨vq HO393.out⟩, ⟨vq HO_5.out⟩, ⟨bq BK382.out⟩, ⟨bel1 GE382.out⟩⟩
      rw [if_neg c11] at H; have c11b0 := decide_eq_false c11; clear c11
      have H' := am H
      clear H; obtain ⟨Ao17, co17, eo17⟩ := Kd.V_slice HO_5.out; subst eo17; go_wp2
      go_roundg k2
      case measure => have := HK1.out; have := HK2.out; omega
      case rel => exact ⟨(x3_2), (wrap64 (x4_1 + 1)), sq, H', ⟨b78_⟩, ⟨vq HO_3.out⟩, ⟨bq BK382.out⟩, ⟨bel1 GE382.out⟩⟩
   rw [if_neg c5] at H; have c5b0 := decide_eq_false c5; clear c5; obtain rfl := Option.some.inj H; have ⟨hcz18_0, hcz18_1, hfz18_0, hfz18_1⟩ := b2c BK382.out; go_wp2; go_ret
   exact ⟨_, eq_, by (with_reducible repeat (fail)); exact Kd.V_mono HO_3.out (fun _ hk => hk.1), bel1 GE382.out⟩

/-! ### spec_l13Of: function 16 -/
def spec_l13Of.j0 : Nat → Bool → List Int → Int → List (S59) → List (S51) → Option (ByteArray × Int)
 | 0, _, _, _, _, _ => none
 | k + 1, x12, x1000, x1001, x395000, x395001 => if x12 = true then ((spec_l2Words.f k x395000 x395001).bind fun t398 => (if (t398.length : Int) > 0 then ((spec_l1Rd_pick.f k x1000 x1001 (t398.length : Int)).bind fun bt401 => (if 0 ≤ bt401.1 then (if bt401.1 < (t398.length : Int) then (some (rdOf ByteArray.empty t398 bt401.1, bt401.2)) else (none)) else (none))) else ((spec_l13AnyWord.f k x1000 x1001).bind fun bt404 => (some (bt404.1, bt404.2))))) else ((spec_l13AnyWord.f k x1000 x1001).bind fun bt406 => (some (bt406.1, bt406.2)))
def spec_l13Of.f (k : Nat) (s0_0 : List Int) (s0_1 : Int) (l1_0 : List (S59)) (l1_1 : List (S51)) : Option (ByteArray × Int) := (spec_BookOk.f k l1_0 l1_1).bind fun t395 => (if t395 = true then ((spec_l1Rd_pick.f k s0_0 s0_1 2).bind fun bt396 => (spec_l13Of.j0 k (bt396.1 == 0) s0_0 bt396.2 l1_0 l1_1)) else (spec_l13Of.j0 k false s0_0 s0_1 l1_0 l1_1))
theorem spec_l13Of.calls (k : Nat) (g : Nat) (s0_0 : List Int) (s0_1 : Int) (A1_0 : Option Addr) (c1_0 : Nat) (l1_0 : List (S59)) (A1_1 : Option Addr) (c1_1 : Nat) (l1_1 : List (S51)) (r1 : ByteArray) (r2 : Int) (w0 w : World) (hI : IsS56 w0 w g s0_0 s0_1) (hB : Below w0.heap.size w0 w) (hr1_0 : ∀ W_, KeepBut w W_ g none → Kd.C k59 W_ A1_0 l1_0.length l1_0) (hc1_0 : l1_0.length ≤ c1_0) (hr1_1 : ∀ W_, KeepBut w W_ g none → Kd.C k51 W_ A1_1 l1_1.length l1_1) (hc1_1 : l1_1.length ≤ c1_1) (h : spec_l13Of.f k s0_0 s0_1 l1_0 l1_1 = some (r1, r2)) :
  Calls Tryz.prog 16 #[.pointer (some ⟨g, 0, none⟩), .agg #[.slice A1_0 l1_0.length c1_0, .slice A1_1 l1_1.length c1_1]] w fun e w' => e = .returned (.string r1) ∧ IsS56 w0 w' g s0_0 r2 ∧ Below w0.heap.size w0 w' ∧ KeepBut w w' g none := by
 have hu26 := Tryz.underlying26; have HR1_0 := am hr1_0; have HC1_0 := am hc1_0; clear hr1_0 hc1_0; have HR1_1 := am hr1_1; have HC1_1 := am hc1_1; clear hr1_1 hc1_1; have HI0 := am hI; have HK := am (KeepBut.refl w g none); have HL := am hB.size; clear hI; have HW0 := am hB.size; have HB := am hB; clear hB
 have H := h; unfold spec_l13Of.f at H
 clear h; have HC3 := am H; clear H; go_enter Tryz.func16, Tryz.ntmps16
 go_upto_region 1 with ((with_reducible refine gate_dst (N := 3) rfl ?_); refine bx 3 (cs := #[.slice A1_0 l1_0.length c1_0, .slice A1_1 l1_1.length c1_1]) (t := 26) ?_; intro gb394 hg w4 hbox hb; replace HB := am (below_step b1_ hb); have BK394 := am (hbox); have GW394 := am ((b3_ : w.heap.size ≤ gb394)); have GE394 := am ((Nat.le_trans HW0.out (b3_ : w.heap.size ≤ gb394) : w0.heap.size ≤ gb394)); replace HK := am (KeepBut.trans b0_ (KeepBut.of_below hb g none) (.inl rfl)); have NB0_394 := am ((b18_ : g ≠ gb394)); have NB394_0 := am ((b19_ : gb394 ≠ g)); replace HI0 := am (IsS56.below b2_ hb); clear hb hbox hg)
 go_cut [12] (fun v12 wc => ∃ (kq : Nat) (x12_2 : Bool) (x1001_2 : Int), v12 = .bool x12_2 ∧ Aside0 (spec_l13Of.j0 kq x12_2 s0_0 x1001_2 l1_0 l1_1 = some (r1, r2)) ∧ Aside0 (kq ≤ k) ∧ Aside0 (wc.heap[gb394]? = some (.cells #[(.slice A1_0 l1_0.length c1_0), (.slice A1_1 l1_1.length c1_1)] 26 (0, 0))) ∧ Aside0 (IsS56 w0 wc g s0_0 x1001_2) ∧ Aside0 (KeepBut w wc g none) ∧ Aside0 (Below w0.heap.size w0 wc))
 case first =>
  have H := HC3.out; clear HC3; replace H := bs H; obtain ⟨t395, A50, H⟩ := H; have A5 := Aside0.mk A50; clear A50
  by_cases c6 : t395 = true
  ·subst c6
   have H1 : ((spec_l1Rd_pick.f k s0_0 s0_1 2).bind fun bt396 => (spec_l13Of.j0 k (bt396.1 == 0) s0_0 bt396.2 l1_0 l1_1)) = some (r1, r2) := b26_
   replace H := H1; clear H1; replace H := bs H; obtain ⟨⟨t396, t397⟩, A70, H⟩ := H; dsimp only at H; have A7 := Aside0.mk A70; clear A70
   have H' := am H
   clear H; have hnb8 := NB394_0.out; have hnc8 := NB0_394.out; have ⟨hcz9_0, hcz9_1, hfz9_0, hfz9_1⟩ := b2c BK394.out
   go_wp2_with (first | ((with_reducible refine gate_callee (f := 8) rfl ?_); refine gl 7 Tryz.func8 #[.agg #[.slice A1_0 l1_0.length c1_0, .slice A1_1 l1_1.length c1_1]] ?_; (with_reducible refine (spec_BookOk.calls k _ _ l1_0 _ _ l1_1 true _ ?side1 ?side2 ?side3 ?side4 A5.out).mono ?_); (case side1 => exact Kd.C_foot_now HR1_0.out b11_); (case side2 => exact HC1_0.out); (case side3 => exact Kd.C_foot_now HR1_1.out b11_); (case side4 => exact HC1_1.out); rintro e w10 ⟨rfl, hb⟩; refine ⟨_, rfl, ?_⟩; replace BK394 := am (blk_below (bq BK394.out) hb); replace HK := am (KeepBut.trans b11_ (KeepBut.of_below hb g none) (.inl rfl)); replace HB := am (below_step b33_ hb); replace HI0 := am (IsS56.below b28_ hb); clear hb) | (go_at_call 29; (with_reducible refine (spec_l1Rd_pick.calls k g s0_0 s0_1 2 t396 t397 w0 _ ?side1 ?side2 A7.out).mono ?_); (case side1 => repeat (with_reducible exact HI0.out)); (case side2 => repeat (with_reducible exact HB.out)); rintro e w11 ⟨rfl, hi, hb, hk⟩; replace BK394 := am (KeepBut.blk hk (g' := gb394) (o := .cells #[.slice A1_0 l1_0.length c1_0, .slice A1_1 l1_1.length c1_1] 26 (0, 0)) (bq BK394.out) NB394_0.out (by simp)); replace HK := am (KeepBut.trans b11_ hk (.inl rfl)); replace HB := am (hb); replace HI0 := am (hi); clear hb hk hi))
   go_meet
   case rel => exact ⟨_, ((t396 == 0)), (t397), sq, H', ⟨b59_⟩, ⟨bq BK394.out⟩, ⟨b28_⟩, ⟨b11_⟩, ⟨b33_⟩⟩
  replace c6 := Bool.eq_false_iff.mpr c6; subst c6
  have H1 : (spec_l13Of.j0 k false s0_0 s0_1 l1_0 l1_1) = some (r1, r2) := b10_
  replace H := H1; clear H1
  have H' := am H
  clear H; have hnb12 := NB394_0.out; have hnc12 := NB0_394.out; have ⟨hcz13_0, hcz13_1, hfz13_0, hfz13_1⟩ := b2c BK394.out
  go_wp2_with ((with_reducible refine gate_callee (f := 8) rfl ?_); refine gl 7 Tryz.func8 #[.agg #[.slice A1_0 l1_0.length c1_0, .slice A1_1 l1_1.length c1_1]] ?_; (with_reducible refine (spec_BookOk.calls k _ _ l1_0 _ _ l1_1 false _ ?side1 ?side2 ?side3 ?side4 A5.out).mono ?_); (case side1 => exact Kd.C_foot_now HR1_0.out b11_); (case side2 => exact HC1_0.out); (case side3 => exact Kd.C_foot_now HR1_1.out b11_); (case side4 => exact HC1_1.out); rintro e w14 ⟨rfl, hb⟩; refine ⟨_, rfl, ?_⟩; replace BK394 := am (blk_below (bq BK394.out) hb); replace HK := am (KeepBut.trans b11_ (KeepBut.of_below hb g none) (.inl rfl)); replace HB := am (below_step b33_ hb); replace HI0 := am (IsS56.below b28_ hb); clear hb)
  go_meet
  case rel => exact ⟨_, (false), (s0_1), sq, H', ⟨b59_⟩, ⟨bq BK394.out⟩, ⟨b28_⟩, ⟨b11_⟩, ⟨b33_⟩⟩
 case rest =>
  clear HC3; obtain ⟨kq, x12_2, x1001_2, rfl, HA, HJ2, BK394, HI0, HK, HB⟩ := hcut
  cases kq with
  | zero => exact absurd HA.out (by simp [spec_l13Of.j0])
  | succ kj2 =>
   have H := HA.out; clear HA; simp only [spec_l13Of.j0] at H
   by_cases c15 : x12_2 = true
   ·subst c15
    have H1 : ((spec_l2Words.f kj2 l1_0 l1_1).bind fun t398 => (if (t398.length : Int) > 0 then ((spec_l1Rd_pick.f kj2 s0_0 x1001_2 (t398.length : Int)).bind fun bt401 => (if 0 ≤ bt401.1 then (if bt401.1 < (t398.length : Int) then (some (rdOf ByteArray.empty t398 bt401.1, bt401.2)) else (none)) else (none))) else ((spec_l13AnyWord.f kj2 s0_0 x1001_2).bind fun bt404 => (some (bt404.1, bt404.2))))) = some (r1, r2) := b26_
    replace H := H1; clear H1
    replace H := bs H; obtain ⟨t398, A160, H⟩ := H; have A16 := Aside0.mk A160; clear A160
    by_cases c17 : (t398.length : Int) > 0
    ·rw [if_pos c17] at H; have c17b0 := decide_eq_true c17
     have c17b1 : decide (0 < t398.length) = true := decide_eq_true (by omega)
     clear c17; replace H := bs H; obtain ⟨⟨t401, t402⟩, A180, H⟩ := H; dsimp only at H; have A18 := Aside0.mk A180; clear A180; replace H := it H; obtain ⟨c19b0, H⟩ := H; replace H := it H; obtain ⟨c20b0, H⟩ := H; simp only [Option.some.injEq, Prod.mk.injEq] at H
     obtain ⟨rfl, rfl⟩ := H; have hnb21 := NB394_0.out; have hnc21 := NB0_394.out; have ⟨hcz22_0, hcz22_1, hfz22_0, hfz22_1⟩ := b2c BK394.out
     go_wp2_with (first | ((with_reducible refine gate_callee (f := 23) rfl ?_); refine gl 14 Tryz.func23 #[.agg #[.slice A1_0 l1_0.length c1_0, .slice A1_1 l1_1.length c1_1]] ?_; (with_reducible refine (spec_l2Words.calls kj2 _ _ l1_0 _ _ l1_1 t398 _ ?side1 ?side2 ?side3 ?side4 A16.out).mono ?_); (case side1 => exact Kd.C_foot_now HR1_0.out b11_); (case side2 => exact HC1_0.out); (case side3 => exact Kd.C_foot_now HR1_1.out b11_); (case side4 => exact HC1_1.out); rintro e w23 ⟨v399, rfl, ho0, hb⟩; refine ⟨_, rfl, ?_⟩; have HO400 := am (Kd.V_lower (Kd.V_mono (ok' := fun k_ => k_ ≠ gb394 ∧ k_ ≠ g) ho0 (fun k_ hk_ => ⟨(Kd.freshB (g := gb394) (o := .cells #[.slice A1_0 l1_0.length c1_0, .slice A1_1 l1_1.length c1_1] 26 (0, 0)) (bq BK394.out) k_ hk_), (IsS56.fresh b28_ k_ hk_)⟩)) (keep_size (w := w) (g := g) (row := none) b11_)); replace BK394 := am (blk_below (bq BK394.out) hb); replace HK := am (KeepBut.trans b11_ (KeepBut.of_below hb g none) (.inl rfl)); replace HB := am (below_step b33_ hb); replace HI0 := am (IsS56.below b28_ hb); clear hb; clear ho0; obtain ⟨Ao24, co24, eo24⟩ := Kd.V_slice HO400.out; subst eo24) | ((with_reducible refine gate_callee (f := 29) rfl ?_); refine gl 22 Tryz.func29 #[.pointer (some ⟨g, 0, none⟩), .int .i64 (t398.length : Int)] ?_; (with_reducible refine (spec_l1Rd_pick.calls kj2 g s0_0 x1001_2 (t398.length : Int) t401 t402 w0 _ ?side1 ?side2 A18.out).mono ?_); (case side1 => repeat (with_reducible exact HI0.out)); (case side2 => repeat (with_reducible exact HB.out)); rintro e w25 ⟨rfl, hi, hb, hk⟩; refine ⟨_, rfl, ?_⟩; replace BK394 := am (KeepBut.blk hk (g' := gb394) (o := .cells #[.slice A1_0 l1_0.length c1_0, .slice A1_1 l1_1.length c1_1] 26 (0, 0)) (bq BK394.out) NB394_0.out (by simp)); replace HO400 := am (Kd.V_mono (Kd.V_keep (Kd.V_mono (ok := fun k_ => (k_ ≠ gb394 ∧ k_ ≠ g)) (vq HO400.out) (fun k_ hk_ => (⟨hk_, hk_.2⟩ : _ ∧ k_ ≠ g))) hk (fun _ h => h.2)) (fun _ h => h.1)); replace HK := am (KeepBut.trans b11_ hk (.inl rfl)); replace HB := am (hb); replace HI0 := am (hi); clear hb hk hi; have p403 : 0 ≤ (t401 : Int) := of_decide_eq_true ad; have q403 : t401 < (t398.length : Int) := of_decide_eq_true ad; obtain ⟨ad403, e403, hx403_0⟩ := Kd.at_string (Kd.V_reads' HO400.out).2.2 t401 p403 q403; cases e403; replace p403 := eq_true p403; replace q403 := eq_true q403))
     go_ret
     exact ⟨eq_, b28_, b33_, b11_⟩
    rw [if_neg c17] at H; have c17b0 := decide_eq_false c17
    have c17b1 : decide (0 < t398.length) = false := decide_eq_false (by omega)
    clear c17; replace H := bs H; obtain ⟨⟨t404, t405⟩, A260, H⟩ := H; dsimp only at H; have A26 := Aside0.mk A260; clear A260; simp only [Option.some.injEq, Prod.mk.injEq] at H
    obtain ⟨rfl, rfl⟩ := H; have hnb27 := NB394_0.out; have hnc27 := NB0_394.out; have ⟨hcz28_0, hcz28_1, hfz28_0, hfz28_1⟩ := b2c BK394.out
    go_wp2_with (first | ((with_reducible refine gate_callee (f := 23) rfl ?_); refine gl 14 Tryz.func23 #[.agg #[.slice A1_0 l1_0.length c1_0, .slice A1_1 l1_1.length c1_1]] ?_; (with_reducible refine (spec_l2Words.calls kj2 _ _ l1_0 _ _ l1_1 t398 _ ?side1 ?side2 ?side3 ?side4 A16.out).mono ?_); (case side1 => exact Kd.C_foot_now HR1_0.out b11_); (case side2 => exact HC1_0.out); (case side3 => exact Kd.C_foot_now HR1_1.out b11_); (case side4 => exact HC1_1.out); rintro e w29 ⟨v399, rfl, ho0, hb⟩; refine ⟨_, rfl, ?_⟩; have HO400 := am (Kd.V_lower (Kd.V_mono (ok' := fun k_ => k_ ≠ gb394 ∧ k_ ≠ g) ho0 (fun k_ hk_ => ⟨(Kd.freshB (g := gb394) (o := .cells #[.slice A1_0 l1_0.length c1_0, .slice A1_1 l1_1.length c1_1] 26 (0, 0)) (bq BK394.out) k_ hk_), (IsS56.fresh b28_ k_ hk_)⟩)) (keep_size (w := w) (g := g) (row := none) b11_)); replace BK394 := am (blk_below (bq BK394.out) hb); replace HK := am (KeepBut.trans b11_ (KeepBut.of_below hb g none) (.inl rfl)); replace HB := am (below_step b33_ hb); replace HI0 := am (IsS56.below b28_ hb); clear hb; clear ho0; obtain ⟨Ao30, co30, eo30⟩ := Kd.V_slice HO400.out; subst eo30) | ((with_reducible refine gate_callee (f := 31) rfl ?_); refine gl 26 Tryz.func31 #[.pointer (some ⟨g, 0, none⟩)] ?_; (with_reducible refine (spec_l13AnyWord.calls kj2 g s0_0 x1001_2 t404 t405 w0 _ ?side1 ?side2 A26.out).mono ?_); (case side1 => repeat (with_reducible exact HI0.out)); (case side2 => repeat (with_reducible exact HB.out)); rintro e w31 ⟨rfl, hi, hb, hk⟩; refine ⟨_, rfl, ?_⟩; replace BK394 := am (KeepBut.blk hk (g' := gb394) (o := .cells #[.slice A1_0 l1_0.length c1_0, .slice A1_1 l1_1.length c1_1] 26 (0, 0)) (bq BK394.out) NB394_0.out (by simp)); replace HO400 := am (Kd.V_mono (Kd.V_keep (Kd.V_mono (ok := fun k_ => (k_ ≠ gb394 ∧ k_ ≠ g)) (vq HO400.out) (fun k_ hk_ => (⟨hk_, hk_.2⟩ : _ ∧ k_ ≠ g))) hk (fun _ h => h.2)) (fun _ h => h.1)); replace HK := am (KeepBut.trans b11_ hk (.inl rfl)); replace HB := am (hb); replace HI0 := am (hi); clear hb hk hi))
    go_ret
    exact ⟨eq_, b28_, b33_, b11_⟩
   replace c15 := Bool.eq_false_iff.mpr c15; subst c15
   have H1 : ((spec_l13AnyWord.f kj2 s0_0 x1001_2).bind fun bt406 => (some (bt406.1, bt406.2))) = some (r1, r2) := b10_
   replace H := H1; clear H1; replace H := bs H; obtain ⟨⟨t406, t407⟩, A320, H⟩ := H; dsimp only at H; have A32 := Aside0.mk A320; clear A320; simp only [Option.some.injEq, Prod.mk.injEq] at H; obtain ⟨rfl, rfl⟩ := H
   go_wp2_with ((with_reducible refine gate_callee (f := 31) rfl ?_); refine gl 26 Tryz.func31 #[.pointer (some ⟨g, 0, none⟩)] ?_; (with_reducible refine (spec_l13AnyWord.calls kj2 g s0_0 x1001_2 t406 t407 w0 _ ?side1 ?side2 A32.out).mono ?_); (case side1 => repeat (with_reducible exact HI0.out)); (case side2 => repeat (with_reducible exact HB.out)); rintro e w33 ⟨rfl, hi, hb, hk⟩; refine ⟨_, rfl, ?_⟩; replace BK394 := am (KeepBut.blk hk (g' := gb394) (o := .cells #[.slice A1_0 l1_0.length c1_0, .slice A1_1 l1_1.length c1_1] 26 (0, 0)) (bq BK394.out) NB394_0.out (by simp)); replace HK := am (KeepBut.trans b11_ hk (.inl rfl)); replace HB := am (hb); replace HI0 := am (hi); clear hb hk hi)
   go_ret
   exact ⟨eq_, b28_, b33_, b11_⟩
-- shrunk

/-! ### spec_DrawBookGuesses: function 4 -/
def spec_DrawBookGuesses.f (k : Nat) (l0 : List Int) : Option ((List (S59)) × (List (S51)) × ByteArray) := (spec_l1Open.f l0).bind fun bt409 => ((spec_l13AnyBook.f k bt409.1 bt409.2).bind fun bt412 => ((spec_l13Of.f k bt409.1 bt412.2.2 bt412.1 bt412.2.1).bind fun bt420 => ((spec_l13Other.f k bt409.1 bt420.2 bt420.1).bind fun bt422 => (some (bt412.1, bt412.2.1, bt422.1)))))
def spec_DrawBookGuesses.T3 : Bool × List (List Nat × List Nat) := (true, [([], []), ([], []), ([], []), ([], []), ([2, 3], [2, 3]), ([1, 4, 4], [1, 4]), ([0, 5, 0], [0]), ([5, 6, 0, 1, 2, 3, 4, 5, 6], [5])])
def spec_DrawBookGuesses.B3 : List Nat := [0, 0, 0, 0, 12, 30, 63, 127]
theorem spec_DrawBookGuesses.tab3 : rtab .any (opsOf Tryz.f4 3) = spec_DrawBookGuesses.T3 := by kernel_rfl
theorem spec_DrawBookGuesses.bits3 : waitsOk spec_DrawBookGuesses.T3.2 spec_DrawBookGuesses.B3 = true := by kernel_rfl
theorem spec_DrawBookGuesses.calls (k : Nat) (A0 : Option Addr) (c0 : Nat) (l0 : List Int) (r1 : List (S59)) (r2 : List (S51)) (r3 : ByteArray) (w : World) (hr0 : Kd.C (Kd.int .u8) w A0 l0.length l0) (hc0 : l0.length ≤ c0) (h : spec_DrawBookGuesses.f k l0 = some (r1, r2, r3)) :
  Calls Tryz.prog 4 #[.slice A0 l0.length c0] w fun e w' => ∃ v0_ v1_ : Value, e = .returned (.tuple #[.agg #[v0_, v1_], .string r3]) ∧ Kd.R k59 59 w' w.heap.size (fun _ => True) v0_ r1 ∧ Kd.R k51 51 w' w.heap.size (fun _ => True) v1_ r2 ∧ Below w.heap.size w w' := by
 have hu26 := Tryz.underlying26; have HR0 := am hr0; have HC0 := am hc0; clear hr0 hc0; have HB := am (Below.refl w.heap.size w)
 have H := h; unfold spec_DrawBookGuesses.f at H
 clear h; replace H := bs H; obtain ⟨⟨t409, t410⟩, A20, H⟩ := H; dsimp only at H; have A2 := Aside0.mk A20; clear A20; replace H := bs H; obtain ⟨⟨t412, t415, t418⟩, A30, H⟩ := H; dsimp only at H; have A3 := Aside0.mk A30; clear A30; replace H := bs H; obtain ⟨⟨t420, t421⟩, A40, H⟩ := H; dsimp only at H; have A4 := Aside0.mk A40; clear A40; replace H := bs H; obtain ⟨⟨t422, t423⟩, A50, H⟩ := H; dsimp only at H; have A5 := Aside0.mk A50; clear A50
 simp only [Option.some.injEq, Prod.mk.injEq] at H
 obtain ⟨rfl, rfl, rfl⟩ := H; go_enter Tryz.func4, Tryz.ntmps4
 try go_wp2_with (first | ((with_reducible refine gate_dst (N := 2) rfl ?_); refine bx 2 (cs := #[.slice none 0 0, .slice none 0 0]) (t := 26) ?_; intro gb408 hg w6 hbox hb; have BK408 := am (hbox); have GW408 := am ((b15_ : w.heap.size ≤ gb408)); have GE408 := am ((b15_ : w.heap.size ≤ gb408)); replace HB := am (below_step bel hb); clear hb hbox hg) | ((with_reducible refine gate_callee (f := 13) rfl ?_); refine gl 7 Tryz.func13 #[.slice A0 l0.length c0] ?_; (with_reducible refine (spec_l1Open.calls _ _ l0 t409 t410 w _ ?side1 ?side2 ?side3 A2.out).mono ?_); (case side1 => repeat (with_reducible exact HB.out)); (case side2 => exact HR0.out); (case side3 => exact HC0.out); rintro e w7 ⟨g411, rfl, hi, hb, hb2⟩; refine ⟨_, rfl, ?_⟩; replace HB := am (hb); have HI411 := am (hi); have NB411_408 := am (IsS56.ne_blk hi (blk_below (bq BK408.out) hb2) (by decide)); have NB408_411 := am (Ne.symm (IsS56.ne_blk hi (blk_below (bq BK408.out) hb2) (by decide))); replace BK408 := am (blk_below (bq BK408.out) hb2); clear hb hb2 hi) | ((with_reducible refine gate_callee (f := 14) rfl ?_); refine gl 9 Tryz.func14 #[.pointer (some ⟨g411, 0, none⟩)] ?_; (with_reducible refine (spec_l13AnyBook.calls k g411 t409 t410 t412 t415 t418 w _ ?side1 ?side2 A3.out).mono ?_); (case side1 => repeat (with_reducible exact HI411.out)); (case side2 => repeat (with_reducible exact HB.out)); rintro e w8 ⟨v413, v416, rfl, ho0, ho1, hi, hb, hk⟩; refine ⟨_, rfl, ?_⟩; replace BK408 := am (KeepBut.blk hk (g' := gb408) (o := .cells #[.slice none 0 0, .slice none 0 0] 26 (0, 0)) (bq BK408.out) NB408_411.out (by simp)); have HO414 := am (Kd.R_lower ho0 (below_size b56_)); have HO417 := am (Kd.R_lower ho1 (below_size b56_)); replace HB := am (hb); replace HI411 := am (hi); clear hb hk hi; clear ho0 ho1) | ((with_reducible refine gate_dst (N := 5) rfl ?_); refine bx 5 (cs := #[.slice none 0 0, .slice none 0 0]) (t := 26) ?_; intro gb419 hg w9 hbox hb; replace HO414 := am (Kd.R_below (rq HO414.out) hb); replace HO417 := am (Kd.R_below (rq HO417.out) hb); have BK419 := am (hbox); have GW419 := am ((b84_ : w.heap.size ≤ gb419)); have GE419 := am ((b84_ : w.heap.size ≤ gb419)); replace HB := am (below_step b56_ hb); have NB408_419 := am ((by rw [hg]; exact Nat.ne_of_lt (blk_lt (g := gb408) (o := .cells #[.slice none 0 0, .slice none 0 0] 26 (0, 0)) (bq BK408.out)) : gb408 ≠ gb419)); have NB419_408 := am ((by rw [hg]; exact Nat.ne_of_gt (blk_lt (g := gb408) (o := .cells #[.slice none 0 0, .slice none 0 0] 26 (0, 0)) (bq BK408.out)) : gb419 ≠ gb408)); replace BK408 := am (blk_below (bq BK408.out) hb); have NB411_419 := am ((by rw [hg]; exact Nat.ne_of_lt (IsS56.lt (show IsS56 w _ g411 t409 t418 from by repeat (with_reducible exact HI411.out))) : g411 ≠ gb419)); have NB419_411 := am ((by rw [hg]; exact Nat.ne_of_gt (IsS56.lt (show IsS56 w _ g411 t409 t418 from by repeat (with_reducible exact HI411.out))) : gb419 ≠ g411)); replace HI411 := am (IsS56.below (by repeat (with_reducible exact HI411.out)) hb); clear hb hbox hg; obtain ⟨Ao10, co10, eo10⟩ := Kd.R_slice HO414.out; subst eo10; have hnb11 := NB419_408.out; have hnc11 := NB408_419.out; have hnb12 := NB419_411.out; have hnc12 := NB411_419.out; have ⟨hcz13_0, hcz13_1, hfz13_0, hfz13_1⟩ := b2c BK419.out; obtain ⟨Ao14, co14, eo14⟩ := Kd.R_slice HO417.out; subst eo14))
 have n0_ : Aside0 (Kd.R k59 59 ((w9.setCell ⟨gb419, 0, none⟩ (.slice Ao10 t412.length co10)).setCell ⟨gb419, 1, none⟩ (.slice Ao14 t415.length co14)) w.heap.size (fun _ => True) (.slice Ao10 t412.length co10) t412) := ⟨rq (Kd.R_mono (Kd.R_far (p := ⟨gb419, 1, none⟩) (Kd.R_far (p := ⟨gb419, 0, none⟩) (Kd.R_types HO414.out BK419.out (by decide)) (fun _ hk => hk.2) (.slice Ao10 t412.length co10)) (fun _ hk => hk.2) (.slice Ao14 t415.length co14)) (fun _ hk => trivial))⟩
 have n1_ : Aside0 (Kd.R k51 51 ((w9.setCell ⟨gb419, 0, none⟩ (.slice Ao10 t412.length co10)).setCell ⟨gb419, 1, none⟩ (.slice Ao14 t415.length co14)) w.heap.size (fun _ => True) (.slice Ao14 t415.length co14) t415) := ⟨rq (Kd.R_mono (Kd.R_far (p := ⟨gb419, 1, none⟩) (Kd.R_far (p := ⟨gb419, 0, none⟩) (Kd.R_types HO417.out BK419.out (by decide)) (fun _ hk => hk.2) (.slice Ao10 t412.length co10)) (fun _ hk => hk.2) (.slice Ao14 t415.length co14)) (fun _ hk => trivial))⟩
 have n2_ : Aside0 (((w9.setCell ⟨gb419, 0, none⟩ (.slice Ao10 t412.length co10)).setCell ⟨gb419, 1, none⟩ (.slice Ao14 t415.length co14)).heap[gb408]? = some (.cells #[.slice none 0 0, .slice none 0 0] 26 (0, 0))) := ⟨by (with_reducible repeat (fail)); refine blk_far ?_ NB408_419.out _; (with_reducible repeat (fail)); refine blk_far ?_ NB408_419.out _; (with_reducible repeat (fail)); exact BK408.out⟩
 have n3_ : Aside0 (((w9.setCell ⟨gb419, 0, none⟩ (.slice Ao10 t412.length co10)).setCell ⟨gb419, 1, none⟩ (.slice Ao14 t415.length co14)).heap[gb419]? = some (.cells #[.slice Ao10 t412.length co10, .slice Ao14 t415.length co14] 26 (0, 0))) := ⟨by (with_reducible repeat (fail)); refine blk_put (cs := #[.slice Ao10 t412.length co10, .slice none 0 0]) ?_ 1 _ rfl; (with_reducible repeat (fail)); refine blk_put (cs := #[.slice none 0 0, .slice none 0 0]) ?_ 0 _ rfl; (with_reducible repeat (fail)); exact BK419.out⟩
 have n4_ : Aside0 (IsS56 w ((w9.setCell ⟨gb419, 0, none⟩ (.slice Ao10 t412.length co10)).setCell ⟨gb419, 1, none⟩ (.slice Ao14 t415.length co14)) g411 t409 t418) := ⟨by repeat (with_reducible first | exact HI411.out | refine IsS56.far ?_ NB411_419.out _)⟩
 have n5_ : Aside0 (Below w.heap.size w ((w9.setCell ⟨gb419, 0, none⟩ (.slice Ao10 t412.length co10)).setCell ⟨gb419, 1, none⟩ (.slice Ao14 t415.length co14))) := ⟨b85_⟩
 clear HO414
 clear HO417
 clear BK408
 clear BK419
 clear HI411
 clear HB
 generalize ((w9.setCell ⟨gb419, 0, none⟩ (.slice Ao10 t412.length co10)).setCell ⟨gb419, 1, none⟩ (.slice Ao14 t415.length co14)) = w15 at n0_ n1_ n2_ n3_ n4_ n5_ ⊢
 have HO414 := n0_; have HO417 := n1_; have BK408 := n2_; have BK419 := n3_; have HI411 := n4_; have HB := n5_; clear n0_ n1_ n2_ n3_ n4_ n5_; replace HO414 := am (Kd.R_drew HO414.out); replace HO417 := am (Kd.R_drew HO417.out); replace BK408 := am (blk_drew BK408.out); replace BK419 := am (blk_drew BK419.out); replace HI411 := am (IsS56.drew HI411.out); replace HB := am (below_drew1 HB.out)
 refine st (n := 8) (S := fun w' => w'.cell? ⟨gb419, 0, none⟩ = some (.slice Ao10 t412.length co10) ∧ w'.cell? ⟨gb419, 1, none⟩ = some (.slice Ao14 t415.length co14)) (ds := []) ⟨bd BK419.out 0, bd BK419.out 1⟩ (fun hHeld => ?_); refine with_tabW spec_DrawBookGuesses.tab3 spec_DrawBookGuesses.bits3 (fun HT_ HW_ => ?_)
 generalize w15.drew = w16 at HO414 HO417 BK408 BK419 HI411 HB hHeld ⊢
 refine pu 1 11 ?_
 refine pu 2 12 ?_
 refine tk2 0 10 hHeld ?_
 refine tk2 3 13 hHeld ?_
 refine on1 4 14 (fun K hK => ?_)
 refine go1 Tryz.func16 #[.pointer (some ⟨g411, 0, none⟩), .agg #[.slice Ao10 t412.length co10, .slice Ao14 t415.length co14]] ?_
 with_reducible refine (spec_l13Of.calls k g411 t409 t418 _ _ t412 _ _ t415 t420 t421 w _ ?side1 ?side2 ?side3 ?side4 ?side5 ?side6 A4.out).mono ?_
 (case side1 => repeat (with_reducible exact HI411.out)); (case side2 => repeat (with_reducible exact HB.out)); (case side3 => exact Kd.C_foot_own (IsS56.apart (show IsS56 w _ g411 t409 t418 from by repeat (with_reducible exact HI411.out)) (rq HO414.out) (by decide)) (fun _ h_ => h_.2)); (case side4 => exact (Kd.R_reads' HO414.out).2.1); (case side5 => exact Kd.C_foot_own (IsS56.apart (show IsS56 w _ g411 t409 t418 from by repeat (with_reducible exact HI411.out)) (rq HO417.out) (by decide)) (fun _ h_ => h_.2)); (case side6 => exact (Kd.R_reads' HO417.out).2.1)
 rintro e w17 ⟨rfl, hi, hb, hk⟩
 refine ⟨_, rfl, ?_⟩
 replace BK408 := am (KeepBut.blk hk (g' := gb408) (o := .cells #[.slice none 0 0, .slice none 0 0] 26 (0, 0)) (bq BK408.out) NB408_411.out (by simp))
 replace HO414 := am (Kd.R_mono (Kd.R_keep (IsS56.apart (show IsS56 w _ g411 t409 t418 from by repeat (with_reducible exact HI411.out)) (rq HO414.out) (by decide)) hk (fun _ h => h.2)) (fun _ h => h.1))
 replace HO417 := am (Kd.R_mono (Kd.R_keep (IsS56.apart (show IsS56 w _ g411 t409 t418 from by repeat (with_reducible exact HI411.out)) (rq HO417.out) (by decide)) hk (fun _ h => h.2)) (fun _ h => h.1))
 replace BK419 := am (KeepBut.blk hk (g' := gb419) (o := .cells #[.slice Ao10 t412.length co10, .slice Ao14 t415.length co14] 26 (0, 0)) (bq BK419.out) NB419_411.out (by simp))
 replace HB := am (hb); replace HI411 := am (hi)
 clear hb
 clear hk
 clear hi
 refine hK.out _ _ ⟨bd BK419.out 0, bd BK419.out 1⟩ (fun hHeld => ?_)
 clear hK K
 refine nm 14 ?_
 refine on1 5 15 (fun K hK => ?_)
 refine go1 Tryz.func15 #[.pointer (some ⟨g411, 0, none⟩), .string t420] ?_
 with_reducible refine (spec_l13Other.calls k g411 t409 t421 t420 t422 t423 w _ ?side1 ?side2 A5.out).mono ?_
 (case side1 => repeat (with_reducible exact HI411.out)); (case side2 => repeat (with_reducible exact HB.out))
 rintro e w18 ⟨rfl, hi, hb, hk⟩
 refine ⟨_, rfl, ?_⟩
 replace BK408 := am (KeepBut.blk hk (g' := gb408) (o := .cells #[.slice none 0 0, .slice none 0 0] 26 (0, 0)) (bq BK408.out) NB408_411.out (by simp))
 replace HO414 := am (Kd.R_mono (Kd.R_keep (IsS56.apart (show IsS56 w _ g411 t409 t421 from by repeat (with_reducible exact HI411.out)) (rq HO414.out) (by decide)) hk (fun _ h => h.2)) (fun _ h => h.1))
 replace HO417 := am (Kd.R_mono (Kd.R_keep (IsS56.apart (show IsS56 w _ g411 t409 t421 from by repeat (with_reducible exact HI411.out)) (rq HO417.out) (by decide)) hk (fun _ h => h.2)) (fun _ h => h.1))
 replace BK419 := am (KeepBut.blk hk (g' := gb419) (o := .cells #[.slice Ao10 t412.length co10, .slice Ao14 t415.length co14] 26 (0, 0)) (bq BK419.out) NB419_411.out (by simp))
 replace HB := am (hb); replace HI411 := am (hi)
 clear hb
 clear hk
 clear hi
 refine hK.out _ _ ⟨bd BK419.out 0, bd BK419.out 1⟩ (fun hHeld => ?_)
 clear hK K
 refine nm 15 ?_
 refine one_ (i := 6) (N := none) #[true, true, true, true, true, true, true, false] rfl rfl (one_of HT_.out (by kernel_rfl)) (by decide) (fun K hK => ?_)
 have hs19 : w18.cell? ⟨gb408, 0, none⟩ = some (.slice none 0 0) := bd BK408.out 0
 have hfs19 := bf BK408.out 0; have hns19_1 := NB419_408.out; have hms19_1 := NB408_419.out
 have hs20 : w18.cell? ⟨gb408, 1, none⟩ = some (.slice none 0 0) := bd BK408.out 1
 have hfs20 := bf BK408.out 1; have hns20_1 := NB419_408.out; have hms20_1 := NB408_419.out
 refine skip_ (w1 := ?_) (by rfl) rfl ?_ ?_
 rotate_left
 ·go_simp
  rfl
 refine hK.out _ _ ⟨((cell_far (p := ⟨gb408, _, none⟩) NB419_408.out _).trans (((cell_far (p := ⟨gb408, _, none⟩) NB419_408.out _).trans (hHeld.1)))), ((cell_far (p := ⟨gb408, _, none⟩) NB419_408.out _).trans (((cell_far (p := ⟨gb408, _, none⟩) NB419_408.out _).trans (hHeld.2))))⟩ (fun hHeld => ?_)
 clear hK K
 refine pu 7 3 ?_
 refine done_ (done_of HT_.out (by kernel_rfl)) ?_
 try go_wp2
 refine bodyPost_ret (results_ct rfl _ _ gb408 26 #[.slice Ao10 t412.length co10, .slice Ao14 t415.length co14] (0, 0) _ rfl (by (with_reducible repeat (fail)); refine blk_put (cs := #[.slice Ao10 t412.length co10, .slice none 0 0]) ?_ 1 _ rfl; (with_reducible repeat (fail)); refine blk_put (cs := #[.slice none 0 0, .slice none 0 0]) ?_ 0 _ rfl; (with_reducible repeat (fail)); exact BK408.out) Tryz.underlying26 rfl (by kernel_rfl)) rfl ?_
 exact ⟨_, _, eq_, by (with_reducible repeat (fail)); exact Kd.R_mono (Kd.R_far (p := ⟨gb408, 1, none⟩) (Kd.R_far (p := ⟨gb408, 0, none⟩) (Kd.R_types HO414.out BK408.out (by decide)) (fun _ hk => hk.2) (.slice Ao10 t412.length co10)) (fun _ hk => hk.2) (.slice Ao14 t415.length co14)) (fun _ hk => trivial), by (with_reducible repeat (fail)); exact Kd.R_mono (Kd.R_far (p := ⟨gb408, 1, none⟩) (Kd.R_far (p := ⟨gb408, 0, none⟩) (Kd.R_types HO417.out BK408.out (by decide)) (fun _ hk => hk.2) (.slice Ao10 t412.length co10)) (fun _ hk => hk.2) (.slice Ao14 t415.length co14)) (fun _ hk => trivial), b85_⟩

/-! ### impl_lower: function 37 -/
def impl_lower.l0 : Nat → ByteArray → Int → Int → Option (Bool)
 | 0, _, _, _ => none
 | k + 1, x0, x5, x6 => if x6 < x5 then (if 0 ≤ x6 then (if x6 < (x0.size : Int) then (if (bt x0 x6) < 97 then (some false) else (if (bt x0 x6) > 122 then (some false) else (impl_lower.l0 k x0 x5 (wrap64 (x6 + 1))))) else (none)) else (none)) else (some true)
def impl_lower.f (k : Nat) (a0 : ByteArray) : Option (Bool) := impl_lower.l0 k a0 (a0.size : Int) 0
theorem impl_lower.calls (k : Nat) (a0 : ByteArray) (r : Bool) (w : World) (h : impl_lower.f k a0 = some r) :
  Calls Tryz.prog 37 #[.string a0] w fun e w' => e = .returned (.bool r) ∧ Drawn0 w w' := by
 have H := h; unfold impl_lower.f at H
 clear h
 have H' := am H
 clear H; go_enter Tryz.func37, Tryz.ntmps37; go_wp2
 go_loopg [6] k (fun kq v6 w' => ∃ (x6_1 : Int), v6 = .int .i64 x6_1 ∧ Aside0 (impl_lower.l0 kq a0 (a0.size : Int) x6_1 = some r) ∧ Aside0 (kq ≤ k) ∧ Drawn0 w w')
 case atStart => exact ⟨(0), sq, H', ⟨Nat.le_refl _⟩, dr⟩
 case round =>
  clear H'; obtain ⟨x6_1, rfl, HA, HK1, ⟨m1, rfl⟩⟩ := hrel
  cases gk with
  | zero => exact absurd HA.out (by simp [impl_lower.l0])
  | succ k1 =>
   have H := HA.out; clear HA; simp only [impl_lower.l0] at H
   by_cases c2 : x6_1 < (a0.size : Int)
   ·rw [if_pos c2] at H; have c2b0 := decide_eq_true c2; clear c2
    replace H := it H; obtain ⟨c3b0, H⟩ := H; replace H := it H; obtain ⟨c4b0, H⟩ := H
    by_cases c6 : (bt a0 x6_1) < 97
    ·rw [if_pos c6] at H; have c6b0 := decide_eq_true c6; clear c6; obtain rfl := Option.some.inj H
     have p5 : 0 ≤ (x6_1 : Int) := of_decide_eq_true ad
     have q5 : x6_1 < (a0.size : Int) := of_decide_eq_true ad
     have hx5 := bt_at a0 x6_1; replace p5 := eq_true p5; replace q5 := eq_true q5; go_wp2; go_ret
     exact ⟨sq, dr⟩
    rw [if_neg c6] at H; have c6b0 := decide_eq_false c6; clear c6
    by_cases c8 : (bt a0 x6_1) > 122
    ·rw [if_pos c8] at H; have c8b0 := decide_eq_true c8; clear c8; obtain rfl := Option.some.inj H
     have p5 : 0 ≤ (x6_1 : Int) := of_decide_eq_true ad
     have q5 : x6_1 < (a0.size : Int) := of_decide_eq_true ad
     have hx5 := bt_at a0 x6_1; replace p5 := eq_true p5; replace q5 := eq_true q5
     have p7 : 0 ≤ (x6_1 : Int) := of_decide_eq_true ad
     have q7 : x6_1 < (a0.size : Int) := of_decide_eq_true ad
     have hx7 := bt_at a0 x6_1; replace p7 := eq_true p7; replace q7 := eq_true q7; go_wp2; go_ret
     exact ⟨sq, dr⟩
    rw [if_neg c8] at H; have c8b0 := decide_eq_false c8; clear c8
    have H' := am H
    clear H
    have p5 : 0 ≤ (x6_1 : Int) := of_decide_eq_true ad
    have q5 : x6_1 < (a0.size : Int) := of_decide_eq_true ad
    have hx5 := bt_at a0 x6_1; replace p5 := eq_true p5; replace q5 := eq_true q5
    have p7 : 0 ≤ (x6_1 : Int) := of_decide_eq_true ad
    have q7 : x6_1 < (a0.size : Int) := of_decide_eq_true ad
    have hx7 := bt_at a0 x6_1; replace p7 := eq_true p7; replace q7 := eq_true q7; go_wp2
    go_roundg k1
    case measure => have := HK1.out; omega
    case rel => exact ⟨(wrap64 (x6_1 + 1)), sq, H', ⟨b81_⟩, dr⟩
   rw [if_neg c2] at H; have c2b0 := decide_eq_false c2; clear c2; obtain rfl := Option.some.inj H; go_wp2; go_ret
   exact ⟨sq, dr⟩

/-! ### impl_upper: function 72 -/
def impl_upper.f (a0 : Int) : Option (Bool) := if a0 ≥ 65 then (some (decide (a0 ≤ 90))) else (some false)
theorem impl_upper.calls (a0 : Int) (r : Bool) (w : World) (h : impl_upper.f a0 = some r) :
  Calls Tryz.prog 72 #[.int .u8 a0] w fun e w' => e = .returned (.bool r) ∧ Drawn0 w w' := by
 have H := h; unfold impl_upper.f at H
 clear h
 by_cases c2 : a0 ≥ 65
 ·rw [if_pos c2] at H; have c2b0 := decide_eq_true c2; clear c2; obtain rfl := Option.some.inj H; go_enter Tryz.func72, Tryz.ntmps72; go_wp2; go_ret
  exact ⟨sq, dr⟩
 rw [if_neg c2] at H; have c2b0 := decide_eq_false c2; clear c2; obtain rfl := Option.some.inj H; go_enter Tryz.func72, Tryz.ntmps72; go_wp2; go_ret
 exact ⟨sq, dr⟩

/-! ### stringslite_HasPrefix: function 92 -/
def stringslite_HasPrefix.f (a0 : ByteArray) (a1 : ByteArray) : Option (Bool) := if (a0.size : Int) ≥ (a1.size : Int) then (if 0 ≤ (a1.size : Int) then (if (a1.size : Int) ≤ (a0.size : Int) then (some ((a0.extract 0 a1.size).toList == a1.toList)) else (none)) else (none)) else (some false)
theorem stringslite_HasPrefix.calls (a0 : ByteArray) (a1 : ByteArray) (r : Bool) (w : World) (h : stringslite_HasPrefix.f a0 a1 = some r) :
  Calls Tryz.prog 92 #[.string a0, .string a1] w fun e w' => e = .returned (.bool r) ∧ Drawn0 w w' := by
 have H := h; unfold stringslite_HasPrefix.f at H
 clear h
 by_cases c3 : (a0.size : Int) ≥ (a1.size : Int)
 ·rw [if_pos c3] at H; have c3b0 := decide_eq_true c3
  have c3b1 : decide (a1.size ≤ a0.size) = true := decide_eq_true (Int.ofNat_le.mp c3)
  clear c3; replace H := ip H; obtain ⟨c4, H⟩ := H; have c4b0 := eq_true c4
  have c4b1 : decide (0 ≤ (a1.size : Int)) = true := decide_eq_true c4
  clear c4; replace H := ip H; obtain ⟨c5, H⟩ := H; have c5b0 := eq_true c5
  have c5b9 : (a1.size ≤ a0.size) = True := eq_true (by omega)
  have c5b6 : decide (a1.size ≤ a0.size) = true := decide_eq_true (by omega)
  have c5b1 : decide ((a1.size : Int) ≤ (a0.size : Int)) = true := decide_eq_true c5
  clear c5; obtain rfl := Option.some.inj H; go_enter Tryz.func92, Tryz.ntmps92; go_wp2; go_ret
  exact ⟨sq, dr⟩
 rw [if_neg c3] at H; have c3b0 := decide_eq_false c3
 have c3b1 : decide (a1.size ≤ a0.size) = false := decide_eq_false (fun h => c3 (Int.ofNat_le.mpr h))
 clear c3; obtain rfl := Option.some.inj H; go_enter Tryz.func92, Tryz.ntmps92; go_wp2; go_ret
 exact ⟨sq, dr⟩

/-! ### strings_HasPrefix: function 73 -/
def strings_HasPrefix.f (a0 : ByteArray) (a1 : ByteArray) : Option (Bool) := (stringslite_HasPrefix.f a0 a1).bind fun t424 => (some t424)
theorem strings_HasPrefix.calls (a0 : ByteArray) (a1 : ByteArray) (r : Bool) (w : World) (h : strings_HasPrefix.f a0 a1 = some r) :
  Calls Tryz.prog 73 #[.string a0, .string a1] w fun e w' => e = .returned (.bool r) ∧ Drawn0 w w' := by
 have H := h; unfold strings_HasPrefix.f at H
 clear h; replace H := bs H; obtain ⟨t424, A30, H⟩ := H; have A3 := Aside0.mk A30; clear A30; obtain rfl := Option.some.inj H; go_enter Tryz.func73, Tryz.ntmps73
 go_wp2_with ((with_reducible refine gate_callee (f := 92) rfl ?_); refine gl 7 Tryz.func92 #[.string a0, .string a1] ?_; (with_reducible refine (stringslite_HasPrefix.calls a0 a1 t424 _ A3.out).mono ?_); rintro e w' ⟨rfl, ⟨nd, rfl⟩⟩; refine ⟨_, rfl, ?_⟩)
 go_ret
 exact ⟨sq, dr⟩

/-! ### stringslite_HasSuffix: function 93 -/
def stringslite_HasSuffix.f (a0 : ByteArray) (a1 : ByteArray) : Option (Bool) := if (a0.size : Int) ≥ (a1.size : Int) then (if 0 ≤ (wrap64 ((a0.size : Int) - (a1.size : Int))) then (if (wrap64 ((a0.size : Int) - (a1.size : Int))) ≤ (a0.size : Int) then (some ((a0.extract ((wrap64 ((a0.size : Int) - (a1.size : Int))) : Int).toNat a0.size).toList == a1.toList)) else (none)) else (none)) else (some false)
theorem stringslite_HasSuffix.calls (a0 : ByteArray) (a1 : ByteArray) (r : Bool) (w : World) (h : stringslite_HasSuffix.f a0 a1 = some r) :
  Calls Tryz.prog 93 #[.string a0, .string a1] w fun e w' => e = .returned (.bool r) ∧ Drawn0 w w' := by
 have H := h; unfold stringslite_HasSuffix.f at H
 clear h
 by_cases c3 : (a0.size : Int) ≥ (a1.size : Int)
 ·rw [if_pos c3] at H; have c3b0 := decide_eq_true c3
  have c3b1 : decide (a1.size ≤ a0.size) = true := decide_eq_true (Int.ofNat_le.mp c3)
  clear c3; obtain ⟨ji4, hji4⟩ : ∃ j_ : Int, (wrap64 ((a0.size : Int) - (a1.size : Int))) = j_ := ⟨_, rfl⟩
  rw [hji4] at H
  have hji4w : (IntKind.i64.wrap ((a0.size : Int) - (a1.size : Int))) = ji4 := (i64_w _).trans hji4
  replace H := ip H; obtain ⟨c5, H⟩ := H; have c5b0 := eq_true c5
  have c5b1 : decide (0 ≤ (ji4)) = true := decide_eq_true c5
  clear c5; replace H := ip H; obtain ⟨c6, H⟩ := H; have c6b0 := eq_true c6
  have c6b1 : decide ((ji4) ≤ (a0.size : Int)) = true := decide_eq_true c6
  clear c6; obtain rfl := Option.some.inj H; go_enter Tryz.func93, Tryz.ntmps93; go_wp2; go_ret
  exact ⟨by rfl, dr⟩
 rw [if_neg c3] at H; have c3b0 := decide_eq_false c3
 have c3b1 : decide (a1.size ≤ a0.size) = false := decide_eq_false (fun h => c3 (Int.ofNat_le.mpr h))
 clear c3; obtain rfl := Option.some.inj H; go_enter Tryz.func93, Tryz.ntmps93; go_wp2; go_ret
 exact ⟨sq, dr⟩

/-! ### strings_HasSuffix: function 74 -/
def strings_HasSuffix.f (a0 : ByteArray) (a1 : ByteArray) : Option (Bool) := (stringslite_HasSuffix.f a0 a1).bind fun t425 => (some t425)
theorem strings_HasSuffix.calls (a0 : ByteArray) (a1 : ByteArray) (r : Bool) (w : World) (h : strings_HasSuffix.f a0 a1 = some r) :
  Calls Tryz.prog 74 #[.string a0, .string a1] w fun e w' => e = .returned (.bool r) ∧ Drawn0 w w' := by
 have H := h; unfold strings_HasSuffix.f at H
 clear h; replace H := bs H; obtain ⟨t425, A30, H⟩ := H; have A3 := Aside0.mk A30; clear A30; obtain rfl := Option.some.inj H; go_enter Tryz.func74, Tryz.ntmps74
 go_wp2_with ((with_reducible refine gate_callee (f := 93) rfl ?_); refine gl 7 Tryz.func93 #[.string a0, .string a1] ?_; (with_reducible refine (stringslite_HasSuffix.calls a0 a1 t425 _ A3.out).mono ?_); rintro e w' ⟨rfl, ⟨nd, rfl⟩⟩; refine ⟨_, rfl, ?_⟩)
 go_ret
 exact ⟨sq, dr⟩
-- shrunk

attribute [local go_sem high] eqA59
/-! ### impl_AffixOk: function 56 -/
mutual
def impl_AffixOk.j0 : Nat → Bool → ByteArray → Bool → ByteArray → ByteArray → ByteArray → Option (Bool)
 | 0, _, _, _, _, _, _ => none
 | k + 1, x15, x427000, x427001, x427002, x427003, x427004 => if x15 = true then (some false) else ((some (([x427002, x427003, x427004] : List ByteArray) : List ByteArray)).bind fun y428 => (impl_AffixOk.l0 k y428 (y428.length : Int) 0 x427000 x427001 x427002 x427003 x427004))
def impl_AffixOk.l0 : Nat → List ByteArray → Int → Int → ByteArray → Bool → ByteArray → ByteArray → ByteArray → Option (Bool)
 | 0, _, _, _, _, _, _, _, _ => none
 | k + 1, x22, x23, x24, x427000, x427001, x427002, x427003, x427004 => if x24 < x23 then (if 0 ≤ x24 then (if x24 < (x22.length : Int) then (if ((rdOf ByteArray.empty x22 x24).size : Int) > 4 then (some false) else ((impl_lower.f k (rdOf ByteArray.empty x22 x24)).bind fun t432 => (if t432 = true then (impl_AffixOk.l0 k x22 x23 (wrap64 (x24 + 1)) x427000 x427001 x427002 x427003 x427004) else (some false)))) else (none)) else (none)) else (if x427001 = true then ((strings_HasPrefix.f x427004 x427002).bind fun t433 => (some t433)) else ((strings_HasSuffix.f x427004 x427002).bind fun t434 => (some t434)))
end
def impl_AffixOk.f (k : Nat) (a0_0 : ByteArray) (a0_1 : Bool) (a0_2 : ByteArray) (a0_3 : ByteArray) (a0_4 : ByteArray) : Option (Bool) := if (a0_0.size : Int) = 1 then (if 0 < (a0_0.size : Int) then ((impl_upper.f (bt a0_0 0)).bind fun t427 => (impl_AffixOk.j0 k (!t427) a0_0 a0_1 a0_2 a0_3 a0_4)) else (none)) else (impl_AffixOk.j0 k true a0_0 a0_1 a0_2 a0_3 a0_4)
theorem impl_AffixOk.calls (k : Nat) (a0_0 : ByteArray) (a0_1 : Bool) (a0_2 : ByteArray) (a0_3 : ByteArray) (a0_4 : ByteArray) (r : Bool) (w : World) (h : impl_AffixOk.f k a0_0 a0_1 a0_2 a0_3 a0_4 = some r) :
  Calls Tryz.prog 56 #[.agg #[.string a0_0, .bool a0_1, .string a0_2, .string a0_3, .string a0_4]] w fun e w' => e = .returned (.bool r) ∧ Below w.heap.size w w' := by
 have hu59 := Tryz.underlying59; have HB := am (Below.refl w.heap.size w)
 have H := h; unfold impl_AffixOk.f at H
 clear h; have HC2 := am H; clear H; go_enter Tryz.func56, Tryz.ntmps56
 go_upto_region 1 with ((with_reducible refine gate_dst (N := 1) rfl ?_); refine bx 1 (cs := #[.string a0_0, .bool a0_1, .string a0_2, .string a0_3, .string a0_4]) (t := 59) ?_; intro gb426 hg w3 hbox hb; have BK426 := am (hbox); have GW426 := am ((b15_ : w.heap.size ≤ gb426)); have GE426 := am ((b15_ : w.heap.size ≤ gb426)); replace HB := am (below_step bel hb); clear hb hbox hg)
 go_cut [15] (fun v15 wc => ∃ (kq : Nat) (x15_1 : Bool), v15 = .bool x15_1 ∧ Aside0 (impl_AffixOk.j0 kq x15_1 a0_0 a0_1 a0_2 a0_3 a0_4 = some r) ∧ Aside0 (kq ≤ k) ∧ Aside0 (wc.heap[gb426]? = some (.cells #[.string a0_0, .bool a0_1, .string a0_2, .string a0_3, .string a0_4] 59 (0, 0))) ∧ Aside0 (Below w.heap.size w wc))
 case first =>
  have H := HC2.out; clear HC2
  by_cases c4 : (a0_0.size : Int) = 1
  ·rw [if_pos c4] at H
   have c4b0 : ((a0_0.size : Int) == 1) = true := beq_iff_eq.mpr c4
   have c4b1 : ((a0_0.size : Int) != 1) = false := bne_eq_false_iff_eq.mpr c4
   clear c4
   (skip)
   replace H := ip H; obtain ⟨c5, H⟩ := H; have c5b0 := decide_eq_true c5
   have c5b1 : decide (0 < a0_0.size) = true := decide_eq_true (by omega)
   clear c5; replace H := bs H; obtain ⟨t427, A70, H⟩ := H; have A7 := Aside0.mk A70; clear A70
   have H' := am H
   clear H; have ⟨hcz8_0, hcz8_1, hcz8_2, hcz8_3, hcz8_4, hfz8_0, hfz8_1, hfz8_2, hfz8_3, hfz8_4⟩ := b5c BK426.out
   have p6 : 0 ≤ (0 : Int) := (by omega)
   have q6 : 0 < a0_0.size := (by have : (0 : Int) < (a0_0.size : Int) := of_decide_eq_true ad; omega)
   have hx6 : ∀ h : 0 < a0_0.size, ((a0_0[0]'h).toNat : Int) = bt a0_0 0 := bt_at a0_0 0
   clear p6
   have qi6 : (0 < (a0_0.size : Int)) = True := eq_true (of_decide_eq_true ad)
   replace q6 := eq_true q6
   go_wp2_with (go_at_call 72; (with_reducible refine (impl_upper.calls (bt a0_0 0) t427 _ A7.out).mono ?_); rintro e w' ⟨rfl, ⟨nd, rfl⟩⟩)
   go_meet
   case rel => exact ⟨_, (!t427), sq, H', ⟨b59_⟩, ⟨bq BK426.out⟩, ⟨bel1 GE426.out⟩⟩
  rw [if_neg c4] at H
  have c4b0 : ((a0_0.size : Int) == 1) = false := beq_eq_false_iff_ne.mpr c4
  have c4b1 : ((a0_0.size : Int) != 1) = true := bne_iff_ne.mpr c4
  (skip)
  have H' := am H
  clear H; have ⟨hcz9_0, hcz9_1, hcz9_2, hcz9_3, hcz9_4, hfz9_0, hfz9_1, hfz9_2, hfz9_3, hfz9_4⟩ := b5c BK426.out; go_wp2
  go_meet
  case rel => exact ⟨_, (true), sq, H', ⟨b59_⟩, ⟨bq BK426.out⟩, ⟨bel1 GE426.out⟩⟩
 case rest =>
  clear HC2; obtain ⟨kq, x15_1, rfl, HA, HJ1, BK426, HB⟩ := hcut
  cases kq with
  | zero => exact absurd HA.out (by simp [impl_AffixOk.j0])
  | succ kj1 =>
   have H := HA.out; clear HA; simp only [impl_AffixOk.j0] at H
   by_cases c10 : x15_1 = true
   ·subst c10
    have H1 : (some false) = some r := b26_
    replace H := H1; clear H1
    obtain rfl := Option.some.inj H; go_wp2; go_ret
    exact ⟨eq_, bel1 GE426.out⟩
   replace c10 := Bool.eq_false_iff.mpr c10; subst c10
   have H1 : ((some (([a0_2, a0_3, a0_4] : List ByteArray) : List ByteArray)).bind fun y428 => (impl_AffixOk.l0 kj1 y428 (y428.length : Int) 0 a0_0 a0_1 a0_2 a0_3 a0_4)) = some r := b10_
   replace H := H1; clear H1
   obtain ⟨y428, hy428⟩ : ∃ y_ : List ByteArray, y_ = (([a0_2, a0_3, a0_4] : List ByteArray)) := ⟨_, rfl⟩
   replace H := bm H; rw [← hy428] at H
   have Ny428 := am hy428; clear hy428
   have H' := am H
   clear H; have ⟨hcz11_0, hcz11_1, hcz11_2, hcz11_3, hcz11_4, hfz11_0, hfz11_1, hfz11_2, hfz11_3, hfz11_4⟩ := b5c BK426.out
   go_wp2_with ((with_reducible refine gate_dst (N := 22) rfl ?_); refine Kd.R_lit Kd.string _ 9 ?hg (N := 22) ?hd (xs := ([a0_2, a0_3, a0_4] : List ByteArray)) (inner := [.string a0_2, .string a0_3, .string a0_4]) (ok := fun _ => True) (okp := fun _ => True) ?hr ?hp (fun _ hk => hk) trivial (Below.refl _ _) (Nat.le_refl _) (by simp) ?_; (case hd => rfl); (case hg => rfl); (case hr => (go_simp; done)); (case hp => exact (Reps.one (show Kd.M Kd.string _ _ _ a0_2 [.string a0_2] from rfl) (Reps.one (show Kd.M Kd.string _ _ _ a0_3 [.string a0_3] from rfl) (Reps.one (show Kd.M Kd.string _ _ _ a0_4 [.string a0_4] from rfl) (Reps.none _ _))))); intro v429 w12 ho13 hb hg_ hnew_; clear hg_ hnew_; (rw [← Ny428.out] at ho13); have HO430 := am (Kd.R_lower ho13 (below_size (bel1 GE426.out))); replace BK426 := am (blk_below (bq BK426.out) hb); replace HB := am (below_step (bel1 GE426.out) hb); clear hb ho13; obtain ⟨Ao14, co14, eo14⟩ := Kd.R_slice HO430.out; subst eo14)
   go_loopg [24] kj1 (fun kq v24 w' => ∃ (x24_2 : Int), v24 = .int .i64 x24_2 ∧ Aside0 (impl_AffixOk.l0 kq y428 (y428.length : Int) x24_2 a0_0 a0_1 a0_2 a0_3 a0_4 = some r) ∧ Aside0 (kq ≤ kj1) ∧ Aside0 (Kd.R Kd.string 9 w' w.heap.size (fun _ => True) (.slice Ao14 y428.length co14) y428) ∧ Aside0 (w'.heap[gb426]? = some (.cells #[.string a0_0, .bool a0_1, .string a0_2, .string a0_3, .string a0_4] 59 (0, 0))) ∧ Aside0 (Below w.heap.size w w'))
   case atStart => exact ⟨(0), sq, H', ⟨Nat.le_refl _⟩, ⟨rq HO430.out⟩, ⟨bq BK426.out⟩, ⟨bel1 GE426.out⟩⟩
   case round =>
    clear H'; clear hcz11_0 hcz11_1 hcz11_2 hcz11_3 hcz11_4 hfz11_0 hfz11_1 hfz11_2 hfz11_3 hfz11_4; obtain ⟨x24_2, rfl, HA, HK2, HO_22, BK426, HB⟩ := hrel
    cases gk with
    | zero => exact absurd HA.out (by simp [impl_AffixOk.l0])
    | succ k2 =>
     have H := HA.out; clear HA; simp only [impl_AffixOk.l0] at H
     by_cases c15 : x24_2 < (y428.length : Int)
     ·rw [if_pos c15] at H; have c15b0 := decide_eq_true c15; clear c15
      replace H := it H; obtain ⟨c16b0, H⟩ := H; replace H := it H; obtain ⟨c17b0, H⟩ := H
      by_cases c18 : ((rdOf ByteArray.empty y428 x24_2).size : Int) > 4
      ·rw [if_pos c18] at H; have c18b0 := decide_eq_true c18
       have c18b1 : decide (4 < (rdOf ByteArray.empty y428 x24_2).size) = true := decide_eq_true (by omega)
       clear c18; obtain rfl := Option.some.inj H
       have p431 : 0 ≤ (x24_2 : Int) := of_decide_eq_true ad
       have q431 : x24_2 < (y428.length : Int) := of_decide_eq_true ad
       obtain ⟨ad431, e431, hx431_0⟩ := Kd.at_string (Kd.R_reads' HO_22.out).2.2 x24_2 p431 q431; cases e431
       replace p431 := eq_true p431; replace q431 := eq_true q431; go_wp2; go_ret
       exact ⟨eq_, bel1 GE426.out⟩
      rw [if_neg c18] at H; have c18b0 := decide_eq_false c18
      have c18b1 : decide (4 < (rdOf ByteArray.empty y428 x24_2).size) = false := decide_eq_false (by omega)
      clear c18; replace H := bs H; obtain ⟨t432, A190, H⟩ := H; have A19 := Aside0.mk A190; clear A190
      by_cases c20 : t432 = true
      ·subst c20
       have H1 : (impl_AffixOk.l0 k2 y428 (y428.length : Int) (wrap64 (x24_2 + 1)) a0_0 a0_1 a0_2 a0_3 a0_4) = some r := b26_
       replace H := H1; clear H1
       have H' := am H
       clear H
       have p431 : 0 ≤ (x24_2 : Int) := of_decide_eq_true ad
       have q431 : x24_2 < (y428.length : Int) := of_decide_eq_true ad
       obtain ⟨ad431, e431, hx431_0⟩ := Kd.at_string (Kd.R_reads' HO_22.out).2.2 x24_2 p431 q431; cases e431; replace p431 := eq_true p431; replace q431 := eq_true q431
       go_wp2_with (go_at_call 37; (with_reducible refine (impl_lower.calls k2 (rdOf ByteArray.empty y428 x24_2) true _ A19.out).mono ?_); rintro e w' ⟨rfl, ⟨nd, rfl⟩⟩)
       go_roundg k2
       case measure => have := HJ1.out; have := HK2.out; omega
       case rel => exact ⟨(wrap64 (x24_2 + 1)), sq, H', ⟨by have := HJ1.out; have := HK2.out; omega⟩, ⟨rq HO_22.out⟩, ⟨bq BK426.out⟩, ⟨bel1 GE426.out⟩⟩
      replace c20 := Bool.eq_false_iff.mpr c20; subst c20
      have H1 : (some false) = some r := b10_
      replace H := H1; clear H1
      obtain rfl := Option.some.inj H
      have p431 : 0 ≤ (x24_2 : Int) := of_decide_eq_true ad
      have q431 : x24_2 < (y428.length : Int) := of_decide_eq_true ad
      obtain ⟨ad431, e431, hx431_0⟩ := Kd.at_string (Kd.R_reads' HO_22.out).2.2 x24_2 p431 q431; cases e431; replace p431 := eq_true p431; replace q431 := eq_true q431
      go_wp2_with (go_at_call 37; (with_reducible refine (impl_lower.calls k2 (rdOf ByteArray.empty y428 x24_2) false _ A19.out).mono ?_); rintro e w' ⟨rfl, ⟨nd, rfl⟩⟩)
      go_ret
      exact ⟨eq_, bel1 GE426.out⟩
     rw [if_neg c15] at H; have c15b0 := decide_eq_false c15; clear c15
     by_cases c21 : a0_1 = true
     ·subst c21
      have H1 : ((strings_HasPrefix.f a0_4 a0_2).bind fun t433 => (some t433)) = some r := b26_
      replace H := H1; clear H1
      replace H := bs H; obtain ⟨t433, A220, H⟩ := H; have A22 := Aside0.mk A220; clear A220; obtain rfl := Option.some.inj H; have ⟨hcz23_0, hcz23_1, hcz23_2, hcz23_3, hcz23_4, hfz23_0, hfz23_1, hfz23_2, hfz23_3, hfz23_4⟩ := b5c BK426.out
      go_wp2_with ((with_reducible refine gate_callee (f := 73) rfl ?_); refine gl 43 Tryz.func73 #[.string a0_4, .string a0_2] ?_; (with_reducible refine (strings_HasPrefix.calls a0_4 a0_2 t433 _ A22.out).mono ?_); rintro e w' ⟨rfl, ⟨nd, rfl⟩⟩; refine ⟨_, rfl, ?_⟩)
      go_ret
      exact ⟨eq_, bel1 GE426.out⟩
     replace c21 := Bool.eq_false_iff.mpr c21; subst c21
     have H1 : ((strings_HasSuffix.f a0_4 a0_2).bind fun t434 => (some t434)) = some r := b10_
     replace H := H1; clear H1
     replace H := bs H; obtain ⟨t434, A240, H⟩ := H; have A24 := Aside0.mk A240; clear A240; obtain rfl := Option.some.inj H; have ⟨hcz25_0, hcz25_1, hcz25_2, hcz25_3, hcz25_4, hfz25_0, hfz25_1, hfz25_2, hfz25_3, hfz25_4⟩ := b5c BK426.out
     go_wp2_with ((with_reducible refine gate_callee (f := 74) rfl ?_); refine gl 48 Tryz.func74 #[.string a0_4, .string a0_2] ?_; (with_reducible refine (strings_HasSuffix.calls a0_4 a0_2 t434 _ A24.out).mono ?_); rintro e w' ⟨rfl, ⟨nd, rfl⟩⟩; refine ⟨_, rfl, ?_⟩)
     go_ret
     exact ⟨eq_, bel1 GE426.out⟩

/-! ### impl_Affix_75: function 75 -/
def impl_Affix_75.l0 : Nat → List (S59) → Int → Int → ByteArray → Bool → ByteArray → ByteArray → ByteArray → Option (Int)
 | 0, _, _, _, _, _, _, _, _ => none
 | k + 1, x0, x7, x8, x436000, x436001, x436002, x436003, x436004 => if x8 < x7 then (if 0 ≤ x8 then (if x8 < (x0.length : Int) then (if (x436000.toList == (((rd_T59 x0 x8).f0).toList) && (x436001 == ((rd_T59 x0 x8).f1) && (x436002.toList == (((rd_T59 x0 x8).f2).toList) && (x436003.toList == (((rd_T59 x0 x8).f3).toList) && (x436004.toList == (((rd_T59 x0 x8).f4).toList)))))) = true then (some x8) else (impl_Affix_75.l0 k x0 x7 (wrap64 (x8 + 1)) x436000 x436001 x436002 x436003 x436004)) else (none)) else (none)) else (some (-1))
def impl_Affix_75.f (k : Nat) (l0 : List (S59)) (a1_0 : ByteArray) (a1_1 : Bool) (a1_2 : ByteArray) (a1_3 : ByteArray) (a1_4 : ByteArray) : Option (Int) := impl_Affix_75.l0 k l0 (l0.length : Int) 0 a1_0 a1_1 a1_2 a1_3 a1_4
theorem impl_Affix_75.calls (k : Nat) (A0 : Option Addr) (c0 : Nat) (l0 : List (S59)) (a1_0 : ByteArray) (a1_1 : Bool) (a1_2 : ByteArray) (a1_3 : ByteArray) (a1_4 : ByteArray) (r : Int) (w : World) (hr0 : Kd.C k59 w A0 l0.length l0) (hc0 : l0.length ≤ c0) (h : impl_Affix_75.f k l0 a1_0 a1_1 a1_2 a1_3 a1_4 = some r) :
  Calls Tryz.prog 75 #[.slice A0 l0.length c0, .agg #[.string a1_0, .bool a1_1, .string a1_2, .string a1_3, .string a1_4]] w fun e w' => e = .returned (.int .i64 r) ∧ Below w.heap.size w w' := by
 have hu59 := Tryz.underlying59; have HR0 := am hr0; have HC0 := am hc0; clear hr0 hc0; have HB := am (Below.refl w.heap.size w)
 have H := h; unfold impl_Affix_75.f at H
 clear h
 have H' := am H
 clear H; go_enter Tryz.func75, Tryz.ntmps75
 go_wp2_with ((with_reducible refine gate_dst (N := 3) rfl ?_); refine bx 3 (cs := #[.string a1_0, .bool a1_1, .string a1_2, .string a1_3, .string a1_4]) (t := 59) ?_; intro gb435 hg w3 hbox hb; have BK435 := am (hbox); have GW435 := am ((b15_ : w.heap.size ≤ gb435)); have GE435 := am ((b15_ : w.heap.size ≤ gb435)); replace HB := am (below_step bel hb); clear hb hbox hg)
 repeat (go_quiet (fail); try go_wp2)
 go_loopg [8] k (fun kq v8 w' => ∃ (x8_1 : Int), v8 = .int .i64 x8_1 ∧ Aside0 (impl_Affix_75.l0 kq l0 (l0.length : Int) x8_1 a1_0 a1_1 a1_2 a1_3 a1_4 = some r) ∧ Aside0 (kq ≤ k) ∧ Aside0 (w'.heap[gb435]? = some (.cells #[.string a1_0, .bool a1_1, .string a1_2, .string a1_3, .string a1_4] 59 (0, 0))) ∧ Aside0 (Below w.heap.size w w'))
 case atStart => exact ⟨(0), sq, H', ⟨Nat.le_refl _⟩, ⟨bq BK435.out⟩, ⟨bel1 GE435.out⟩⟩
 case round =>
  clear H'; obtain ⟨x8_1, rfl, HA, HK1, BK435, HB⟩ := hrel
  cases gk with
  | zero => exact absurd HA.out (by simp [impl_Affix_75.l0])
  | succ k1 =>
   have H := HA.out; clear HA; simp only [impl_Affix_75.l0] at H
   by_cases c4 : x8_1 < (l0.length : Int)
   ·rw [if_pos c4] at H; have c4b0 := decide_eq_true c4; clear c4
    replace H := it H; obtain ⟨c5b0, H⟩ := H; replace H := it H; obtain ⟨c6b0, H⟩ := H
    by_cases c7 : (a1_0.toList == (((rd_T59 l0 x8_1).f0).toList) && (a1_1 == ((rd_T59 l0 x8_1).f1) && (a1_2.toList == (((rd_T59 l0 x8_1).f2).toList) && (a1_3.toList == (((rd_T59 l0 x8_1).f3).toList) && (a1_4.toList == (((rd_T59 l0 x8_1).f4).toList)))))) = true
    ·rw [if_pos c7] at H
     have c7b0 : (a1_0.toList == (((rd_T59 l0 x8_1).f0).toList) && (a1_1 == ((rd_T59 l0 x8_1).f1) && (a1_2.toList == (((rd_T59 l0 x8_1).f2).toList) && (a1_3.toList == (((rd_T59 l0 x8_1).f3).toList) && (a1_4.toList == (((rd_T59 l0 x8_1).f4).toList)))))) = true := c7
     (have c7b1 : decide (a1_0.toList = (((rd_T59 l0 x8_1).f0).toList) && (a1_1 == ((rd_T59 l0 x8_1).f1) && (a1_2.toList == (((rd_T59 l0 x8_1).f2).toList) && (a1_3.toList == (((rd_T59 l0 x8_1).f3).toList) && (a1_4.toList == (((rd_T59 l0 x8_1).f4).toList)))))) = true := by simpa using c7)
     (have c7b2 : (a1_0.toList == (((rd_T59 l0 x8_1).f0).toList) && (a1_1 == ((rd_T59 l0 x8_1).f1) && (a1_2.toList == (((rd_T59 l0 x8_1).f2).toList) && (a1_3.toList == (((rd_T59 l0 x8_1).f3).toList) && (a1_4.toList == (((rd_T59 l0 x8_1).f4).toList)))))) = true := by simpa using c7)
     clear c7; obtain rfl := Option.some.inj H; have ⟨hcz8_0, hcz8_1, hcz8_2, hcz8_3, hcz8_4, hfz8_0, hfz8_1, hfz8_2, hfz8_3, hfz8_4⟩ := b5c BK435.out
     have p436 : 0 ≤ (x8_1 : Int) := of_decide_eq_true ad
     have q436 : x8_1 < (l0.length : Int) := of_decide_eq_true ad
     obtain ⟨ad436, e436, hx436_0, hx436_1, hx436_2, hx436_3, hx436_4⟩ := at_T59 HR0.out x8_1 p436 q436; cases e436
     replace hx436_0 := kp HB.out hx436_0; replace hx436_1 := kp HB.out hx436_1; replace hx436_2 := kp HB.out hx436_2; replace hx436_3 := kp HB.out hx436_3; replace hx436_4 := kp HB.out hx436_4; replace p436 := eq_true p436; replace q436 := eq_true q436; go_wp2
     repeat (go_quiet (fail); try go_wp2)
     go_ret
     exact ⟨eq_, bel1 GE435.out⟩
    rw [if_neg c7] at H
    have c7b0 : (a1_0.toList == (((rd_T59 l0 x8_1).f0).toList) && (a1_1 == ((rd_T59 l0 x8_1).f1) && (a1_2.toList == (((rd_T59 l0 x8_1).f2).toList) && (a1_3.toList == (((rd_T59 l0 x8_1).f3).toList) && (a1_4.toList == (((rd_T59 l0 x8_1).f4).toList)))))) = false := by simpa using c7
    (have c7b1 : decide (a1_0.toList = (((rd_T59 l0 x8_1).f0).toList) && (a1_1 == ((rd_T59 l0 x8_1).f1) && (a1_2.toList == (((rd_T59 l0 x8_1).f2).toList) && (a1_3.toList == (((rd_T59 l0 x8_1).f3).toList) && (a1_4.toList == (((rd_T59 l0 x8_1).f4).toList)))))) = false := by simpa using c7)
    (have c7b2 : (a1_0.toList == (((rd_T59 l0 x8_1).f0).toList) && (a1_1 == ((rd_T59 l0 x8_1).f1) && (a1_2.toList == (((rd_T59 l0 x8_1).f2).toList) && (a1_3.toList == (((rd_T59 l0 x8_1).f3).toList) && (a1_4.toList == (((rd_T59 l0 x8_1).f4).toList)))))) = false := by simpa using c7)
    (have c7b3 : ¬ (a1_0.toList = (((rd_T59 l0 x8_1).f0).toList) && (a1_1 == ((rd_T59 l0 x8_1).f1) && (a1_2.toList == (((rd_T59 l0 x8_1).f2).toList) && (a1_3.toList == (((rd_T59 l0 x8_1).f3).toList) && (a1_4.toList == (((rd_T59 l0 x8_1).f4).toList)))))) := by simpa using c7)
    clear c7
    have H' := am H
    clear H; have ⟨hcz9_0, hcz9_1, hcz9_2, hcz9_3, hcz9_4, hfz9_0, hfz9_1, hfz9_2, hfz9_3, hfz9_4⟩ := b5c BK435.out
    have p436 : 0 ≤ (x8_1 : Int) := of_decide_eq_true ad
    have q436 : x8_1 < (l0.length : Int) := of_decide_eq_true ad
    obtain ⟨ad436, e436, hx436_0, hx436_1, hx436_2, hx436_3, hx436_4⟩ := at_T59 HR0.out x8_1 p436 q436; cases e436
    replace hx436_0 := kp HB.out hx436_0; replace hx436_1 := kp HB.out hx436_1; replace hx436_2 := kp HB.out hx436_2; replace hx436_3 := kp HB.out hx436_3; replace hx436_4 := kp HB.out hx436_4; replace p436 := eq_true p436; replace q436 := eq_true q436; go_wp2
    repeat (go_quiet (fail); try go_wp2)
    go_roundg k1
    case measure => have := HK1.out; omega
    case rel => exact ⟨(wrap64 (x8_1 + 1)), sq, H', ⟨b81_⟩, ⟨bq BK435.out⟩, ⟨bel1 GE435.out⟩⟩
   rw [if_neg c4] at H; have c4b0 := decide_eq_false c4; clear c4; obtain rfl := Option.some.inj H; go_wp2
   repeat (go_quiet (fail); try go_wp2)
   go_ret
   exact ⟨eq_, bel1 GE435.out⟩

/-! ### impl_Affix_57: function 57 -/
def impl_Affix_57.f (k : Nat) (l0 : List (S59)) (a1_0 : ByteArray) (a1_1 : Bool) (a1_2 : ByteArray) (a1_3 : ByteArray) (a1_4 : ByteArray) : Option (Bool) := (impl_Affix_75.f k l0 a1_0 a1_1 a1_2 a1_3 a1_4).bind fun t438 => (some (decide (t438 ≥ 0)))
theorem impl_Affix_57.calls (k : Nat) (A0 : Option Addr) (c0 : Nat) (l0 : List (S59)) (a1_0 : ByteArray) (a1_1 : Bool) (a1_2 : ByteArray) (a1_3 : ByteArray) (a1_4 : ByteArray) (r : Bool) (w : World) (hr0 : Kd.C k59 w A0 l0.length l0) (hc0 : l0.length ≤ c0) (h : impl_Affix_57.f k l0 a1_0 a1_1 a1_2 a1_3 a1_4 = some r) :
  Calls Tryz.prog 57 #[.slice A0 l0.length c0, .agg #[.string a1_0, .bool a1_1, .string a1_2, .string a1_3, .string a1_4]] w fun e w' => e = .returned (.bool r) ∧ Below w.heap.size w w' := by
 have hu59 := Tryz.underlying59; have HR0 := am hr0; have HC0 := am hc0; clear hr0 hc0; have HB := am (Below.refl w.heap.size w)
 have H := h; unfold impl_Affix_57.f at H
 clear h; replace H := bs H; obtain ⟨t438, A30, H⟩ := H; have A3 := Aside0.mk A30; clear A30; obtain rfl := Option.some.inj H; go_enter Tryz.func57, Tryz.ntmps57
 go_wp2_with (first | ((with_reducible refine gate_dst (N := 3) rfl ?_); refine bx 3 (cs := #[.string a1_0, .bool a1_1, .string a1_2, .string a1_3, .string a1_4]) (t := 59) ?_; intro gb437 hg w4 hbox hb; have BK437 := am (hbox); have GW437 := am ((b15_ : w.heap.size ≤ gb437)); have GE437 := am ((b15_ : w.heap.size ≤ gb437)); replace HB := am (below_step bel hb); clear hb hbox hg; have ⟨hcz5_0, hcz5_1, hcz5_2, hcz5_3, hcz5_4, hfz5_0, hfz5_1, hfz5_2, hfz5_3, hfz5_4⟩ := b5c BK437.out) | ((with_reducible refine gate_callee (f := 75) rfl ?_); refine gl 7 Tryz.func75 #[.slice A0 l0.length c0, .agg #[.string a1_0, .bool a1_1, .string a1_2, .string a1_3, .string a1_4]] ?_; (with_reducible refine (impl_Affix_75.calls k _ _ l0 a1_0 a1_1 a1_2 a1_3 a1_4 t438 _ ?side1 ?side2 A3.out).mono ?_); (case side1 => exact cq (Kd.C_below HR0.out HB.out)); (case side2 => exact HC0.out); rintro e w6 ⟨rfl, hb⟩; refine ⟨_, rfl, ?_⟩; replace BK437 := am (blk_below (bq BK437.out) hb); replace HB := am (below_step (bel1 GE437.out) hb); clear hb))
 go_ret
 exact ⟨eq_, bel1 GE437.out⟩
-- shrunk

/-! ### impl_affixesOk: function 34 -/
def impl_affixesOk.l0 : Nat → List (S59) → List (S59) → Int → Int → Option (Bool)
 | 0, _, _, _, _ => none
 | k + 1, x0, x5, x6, x7 => if x7 < x6 then (if 0 ≤ x7 then (if x7 < (x5.length : Int) then ((impl_AffixOk.f k ((rd_T59 x5 x7).f0) ((rd_T59 x5 x7).f1) ((rd_T59 x5 x7).f2) ((rd_T59 x5 x7).f3) ((rd_T59 x5 x7).f4)).bind fun t441 => (if t441 = true then (if x7 ≤ (x0.length : Int) then ((impl_Affix_57.f k (x0.take (x7 : Int).toNat) ((rd_T59 x5 x7).f0) ((rd_T59 x5 x7).f1) ((rd_T59 x5 x7).f2) ((rd_T59 x5 x7).f3) ((rd_T59 x5 x7).f4)).bind fun t446 => (if t446 = true then (some false) else (impl_affixesOk.l0 k x0 x5 x6 (wrap64 (x7 + 1))))) else (none)) else (some false))) else (none)) else (none)) else (some (decide ((x0.length : Int) ≤ 8)))
def impl_affixesOk.f (k : Nat) (l0 : List (S59)) : Option (Bool) := impl_affixesOk.l0 k l0 l0 (l0.length : Int) 0
def impl_affixesOk.T4 : Bool × List (List Nat × List Nat) := (true, [([], []), ([0], [0]), ([1], [1]), ([2, 1], [2]), ([3], [3]), ([3], [3]), ([4, 5, 3], [3, 4, 5]), ([3], [3]), ([6, 7, 3, 3], [3, 6, 7]), ([3, 8], [3, 8])])
def impl_affixesOk.B4 : List Nat := [0, 1, 3, 7, 15, 15, 63, 15, 255, 511]
theorem impl_affixesOk.tab4 : rtab .any (opsOf Tryz.f34 4) = impl_affixesOk.T4 := by kernel_rfl
theorem impl_affixesOk.bits4 : waitsOk impl_affixesOk.T4.2 impl_affixesOk.B4 = true := by kernel_rfl
theorem impl_affixesOk.calls (k : Nat) (A0 : Option Addr) (c0 : Nat) (l0 : List (S59)) (r : Bool) (w : World) (hr0 : Kd.C k59 w A0 l0.length l0) (hc0 : l0.length ≤ c0) (h : impl_affixesOk.f k l0 = some r) :
  Calls Tryz.prog 34 #[.slice A0 l0.length c0] w fun e w' => e = .returned (.bool r) ∧ Below w.heap.size w w' := by
 have hu59 := Tryz.underlying59; have HR0 := am hr0; have HC0 := am hc0; clear hr0 hc0; have HB := am (Below.refl w.heap.size w)
 have H := h; unfold impl_affixesOk.f at H
 clear h
 have H' := am H
 clear H; go_enter Tryz.func34, Tryz.ntmps34; go_wp2
 go_loopg [7] k (fun kq v7 w' => ∃ (x7_1 : Int), v7 = .int .i64 x7_1 ∧ Aside0 (impl_affixesOk.l0 kq l0 l0 (l0.length : Int) x7_1 = some r) ∧ Aside0 (kq ≤ k) ∧ Aside0 (Below w.heap.size w w'))
 case atStart => exact ⟨(0), sq, H', ⟨Nat.le_refl _⟩, ⟨bel⟩⟩
 case round =>
  clear H'; obtain ⟨x7_1, rfl, HA, HK1, HB⟩ := hrel
  cases gk with
  | zero => exact absurd HA.out (by simp [impl_affixesOk.l0])
  | succ k1 =>
   have H := HA.out; clear HA; simp only [impl_affixesOk.l0] at H
   by_cases c2 : x7_1 < (l0.length : Int)
   ·rw [if_pos c2] at H; have c2b0 := decide_eq_true c2; clear c2
    replace H := it H; obtain ⟨c3b0, H⟩ := H
    replace H := it H; obtain ⟨c4b0, H⟩ := H; replace H := bs H; obtain ⟨t441, A50, H⟩ := H; have A5 := Aside0.mk A50; clear A50
    by_cases c6 : t441 = true
    ·subst c6
     have H1 : (if x7_1 ≤ (l0.length : Int) then ((impl_Affix_57.f k1 (l0.take (x7_1 : Int).toNat) ((rd_T59 l0 x7_1).f0) ((rd_T59 l0 x7_1).f1) ((rd_T59 l0 x7_1).f2) ((rd_T59 l0 x7_1).f3) ((rd_T59 l0 x7_1).f4)).bind fun t446 => (if t446 = true then (some false) else (impl_affixesOk.l0 k1 l0 l0 (l0.length : Int) (wrap64 (x7_1 + 1))))) else (none)) = some r := b26_
     replace H := H1; clear H1; have c7b0 := eq_true (of_decide_eq_true ad : 0 ≤ x7_1); replace H := ip H; obtain ⟨c8, H⟩ := H; have c8b0 := eq_true c8
     have c8b1 : decide (x7_1 ≤ (l0.length : Int)) = true := decide_eq_true c8
     clear c8; obtain ⟨y442, hy442⟩ : ∃ y_ : List (S59), y_ = (l0.take (x7_1 : Int).toNat) := ⟨_, rfl⟩
     rw [← hy442] at H
     have Ny442 := am hy442; clear hy442; replace H := bs H; obtain ⟨t446, A90, H⟩ := H; have A9 := Aside0.mk A90; clear A90
     by_cases c10 : t446 = true
     ·subst c10
      have H1 : (some false) = some r := b26_
      replace H := H1; clear H1
      obtain rfl := Option.some.inj H
      have p439 : 0 ≤ (x7_1 : Int) := of_decide_eq_true ad
      have q439 : x7_1 < (l0.length : Int) := of_decide_eq_true ad
      obtain ⟨ad439, e439, hx439_0, hx439_1, hx439_2, hx439_3, hx439_4⟩ := at_T59 HR0.out x7_1 p439 q439; cases e439; replace hx439_0 := kp HB.out hx439_0; replace hx439_1 := kp HB.out hx439_1; replace hx439_2 := kp HB.out hx439_2; replace hx439_3 := kp HB.out hx439_3; replace hx439_4 := kp HB.out hx439_4; replace p439 := eq_true p439; replace q439 := eq_true q439
      try go_wp2_with ((with_reducible refine gate_dst (N := 4) rfl ?_); refine bx 4 (cs := #[.string (⟨#[]⟩ : ByteArray), .bool false, .string (⟨#[]⟩ : ByteArray), .string (⟨#[]⟩ : ByteArray), .string (⟨#[]⟩ : ByteArray)]) (t := 59) ?_; intro gb440 hg w11 hbox hb; have BK440 := am (hbox); have GW440 := am ((b15_ : w.heap.size ≤ gb440)); have GE440 := am ((b15_ : w.heap.size ≤ gb440)); replace HB := am (below_step bel hb); clear hb hbox hg; have ⟨hcz12_0, hcz12_1, hcz12_2, hcz12_3, hcz12_4, hfz12_0, hfz12_1, hfz12_2, hfz12_3, hfz12_4⟩ := b5c BK440.out)
      have n0_ : Aside0 ((((((w11.setCell ⟨gb440, 0, none⟩ (.string ((rd_T59 l0 x7_1).f0))).setCell ⟨gb440, 1, none⟩ (.bool ((rd_T59 l0 x7_1).f1))).setCell ⟨gb440, 2, none⟩ (.string ((rd_T59 l0 x7_1).f2))).setCell ⟨gb440, 3, none⟩ (.string ((rd_T59 l0 x7_1).f3))).setCell ⟨gb440, 4, none⟩ (.string ((rd_T59 l0 x7_1).f4))).heap[gb440]? = some (.cells #[.string ((rd_T59 l0 x7_1).f0), .bool ((rd_T59 l0 x7_1).f1), .string ((rd_T59 l0 x7_1).f2), .string ((rd_T59 l0 x7_1).f3), .string ((rd_T59 l0 x7_1).f4)] 59 (0, 0))) := ⟨b9_⟩
      have n1_ : Aside0 (Below w.heap.size w (((((w11.setCell ⟨gb440, 0, none⟩ (.string ((rd_T59 l0 x7_1).f0))).setCell ⟨gb440, 1, none⟩ (.bool ((rd_T59 l0 x7_1).f1))).setCell ⟨gb440, 2, none⟩ (.string ((rd_T59 l0 x7_1).f2))).setCell ⟨gb440, 3, none⟩ (.string ((rd_T59 l0 x7_1).f3))).setCell ⟨gb440, 4, none⟩ (.string ((rd_T59 l0 x7_1).f4)))) := ⟨bel1 GE440.out⟩
      clear BK440 HB; generalize (((((w11.setCell ⟨gb440, 0, none⟩ (.string ((rd_T59 l0 x7_1).f0))).setCell ⟨gb440, 1, none⟩ (.bool ((rd_T59 l0 x7_1).f1))).setCell ⟨gb440, 2, none⟩ (.string ((rd_T59 l0 x7_1).f2))).setCell ⟨gb440, 3, none⟩ (.string ((rd_T59 l0 x7_1).f3))).setCell ⟨gb440, 4, none⟩ (.string ((rd_T59 l0 x7_1).f4))) = w13 at n0_ n1_ ⊢; have BK440 := n0_; have HB := n1_; clear n0_ n1_; replace BK440 := am (blk_drew BK440.out); replace HB := am (below_drew1 HB.out)
      refine st (n := 10) (S := fun w' => w'.cell? ⟨gb440, 0, none⟩ = some (.string ((rd_T59 l0 x7_1).f0)) ∧ w'.cell? ⟨gb440, 1, none⟩ = some (.bool ((rd_T59 l0 x7_1).f1)) ∧ w'.cell? ⟨gb440, 2, none⟩ = some (.string ((rd_T59 l0 x7_1).f2)) ∧ w'.cell? ⟨gb440, 3, none⟩ = some (.string ((rd_T59 l0 x7_1).f3)) ∧ w'.cell? ⟨gb440, 4, none⟩ = some (.string ((rd_T59 l0 x7_1).f4))) (ds := []) ⟨bd BK440.out 0, bd BK440.out 1, bd BK440.out 2, bd BK440.out 3, bd BK440.out 4⟩ (fun hHeld => ?_); refine with_tabW impl_affixesOk.tab4 impl_affixesOk.bits4 (fun HT_ HW_ => ?_)
      generalize w13.drew = w14 at BK440 HB hHeld ⊢; refine tk5 0 12 hHeld ?_; refine on1 1 13 (fun K hK => ?_)
      refine go1 Tryz.func56 #[.agg #[.string ((rd_T59 l0 x7_1).f0), .bool ((rd_T59 l0 x7_1).f1), .string ((rd_T59 l0 x7_1).f2), .string ((rd_T59 l0 x7_1).f3), .string ((rd_T59 l0 x7_1).f4)]] ?_
      with_reducible refine (impl_AffixOk.calls k1 ((rd_T59 l0 x7_1).f0) ((rd_T59 l0 x7_1).f1) ((rd_T59 l0 x7_1).f2) ((rd_T59 l0 x7_1).f3) ((rd_T59 l0 x7_1).f4) true _ A5.out).mono ?_
      rintro e w15 ⟨rfl, hb⟩; refine ⟨_, rfl, ?_⟩; replace BK440 := am (blk_below (bq BK440.out) hb); replace HB := am (below_step (bel1 GE440.out) hb); clear hb
      have q16 : (x7_1 : Int) ≤ ((l0.length : Int) : Int) := of_decide_eq_true ad
      obtain ⟨i016, hi016, _, hsz16, _⟩ := info_parts info59
      have hroom16 : l0.length ≤ c0 := HC0.out
      have hC16 : Kd.C k59 _ (some ad439) l0.length l0 := HR0.out
      have hcut16 := cut_to (P := Tryz.prog) 23 59 .i64 Tryz.underlying23 hi016 (some ad439) l0.length c0 x7_1 (of_decide_eq_true ad) q16 hroom16; have hr16 := Kd.C_take (m := (x7_1 : Int).toNat) hC16 (by omega)
      have hy16 : y442.length = (x7_1 : Int).toNat := (by rw [Ny442.out, List.length_take]; omega)
      rw [← Ny442.out] at hr16; rw [← hy16] at hcut16; have HR445 := am hr16
      have HC445 := am (show y442.length ≤ c0 from by omega)
      clear hr16 hC16 hroom16 hi016 hsz16; have KY16 := am hy16; clear hy16; replace q16 := eq_true q16; refine hK.out _ _ ⟨bd BK440.out 0, bd BK440.out 1, bd BK440.out 2, bd BK440.out 3, bd BK440.out 4⟩ (fun hHeld => ?_); clear hK K; refine nm 13 ?_; refine pu 2 14 ?_; refine pu 3 15 ?_; refine pu 4 16 ?_; refine pu 5 17 ?_; refine pu 6 18 ?_; refine tk5 7 19 hHeld ?_; refine on1 8 20 (fun K hK => ?_)
      refine go1 Tryz.func57 #[.slice (some ad439) y442.length c0, .agg #[.string ((rd_T59 l0 x7_1).f0), .bool ((rd_T59 l0 x7_1).f1), .string ((rd_T59 l0 x7_1).f2), .string ((rd_T59 l0 x7_1).f3), .string ((rd_T59 l0 x7_1).f4)]] ?_
      with_reducible refine (impl_Affix_57.calls k1 _ _ y442 ((rd_T59 l0 x7_1).f0) ((rd_T59 l0 x7_1).f1) ((rd_T59 l0 x7_1).f2) ((rd_T59 l0 x7_1).f3) ((rd_T59 l0 x7_1).f4) true _ ?side1 ?side2 A9.out).mono ?_
      (case side1 => exact cq (Kd.C_below HR445.out HB.out)); (case side2 => exact HC445.out)
      rintro e w17 ⟨rfl, hb⟩; refine ⟨_, rfl, ?_⟩; replace BK440 := am (blk_below (bq BK440.out) hb); replace HB := am (below_step (bel1 GE440.out) hb); clear hb; refine hK.out _ _ ⟨bd BK440.out 0, bd BK440.out 1, bd BK440.out 2, bd BK440.out 3, bd BK440.out 4⟩ (fun hHeld => ?_); clear hK K; refine nm 20 ?_; refine pu 9 21 ?_
      refine done_ (done_of HT_.out (by kernel_rfl)) ?_
      try go_wp2
      go_ret
      exact ⟨eq_, bel1 GE440.out⟩
     replace c10 := Bool.eq_false_iff.mpr c10; subst c10
     have H1 : (impl_affixesOk.l0 k1 l0 l0 (l0.length : Int) (wrap64 (x7_1 + 1))) = some r := b10_
     replace H := H1; clear H1
     have H' := am H
     clear H
     have p439 : 0 ≤ (x7_1 : Int) := of_decide_eq_true ad
     have q439 : x7_1 < (l0.length : Int) := of_decide_eq_true ad
     obtain ⟨ad439, e439, hx439_0, hx439_1, hx439_2, hx439_3, hx439_4⟩ := at_T59 HR0.out x7_1 p439 q439; cases e439; replace hx439_0 := kp HB.out hx439_0; replace hx439_1 := kp HB.out hx439_1; replace hx439_2 := kp HB.out hx439_2; replace hx439_3 := kp HB.out hx439_3; replace hx439_4 := kp HB.out hx439_4; replace p439 := eq_true p439; replace q439 := eq_true q439
     try go_wp2_with ((with_reducible refine gate_dst (N := 4) rfl ?_); refine bx 4 (cs := #[.string (⟨#[]⟩ : ByteArray), .bool false, .string (⟨#[]⟩ : ByteArray), .string (⟨#[]⟩ : ByteArray), .string (⟨#[]⟩ : ByteArray)]) (t := 59) ?_; intro gb440 hg w18 hbox hb; have BK440 := am (hbox); have GW440 := am ((b15_ : w.heap.size ≤ gb440)); have GE440 := am ((b15_ : w.heap.size ≤ gb440)); replace HB := am (below_step bel hb); clear hb hbox hg; have ⟨hcz19_0, hcz19_1, hcz19_2, hcz19_3, hcz19_4, hfz19_0, hfz19_1, hfz19_2, hfz19_3, hfz19_4⟩ := b5c BK440.out)
     have n0_ : Aside0 ((((((w18.setCell ⟨gb440, 0, none⟩ (.string ((rd_T59 l0 x7_1).f0))).setCell ⟨gb440, 1, none⟩ (.bool ((rd_T59 l0 x7_1).f1))).setCell ⟨gb440, 2, none⟩ (.string ((rd_T59 l0 x7_1).f2))).setCell ⟨gb440, 3, none⟩ (.string ((rd_T59 l0 x7_1).f3))).setCell ⟨gb440, 4, none⟩ (.string ((rd_T59 l0 x7_1).f4))).heap[gb440]? = some (.cells #[.string ((rd_T59 l0 x7_1).f0), .bool ((rd_T59 l0 x7_1).f1), .string ((rd_T59 l0 x7_1).f2), .string ((rd_T59 l0 x7_1).f3), .string ((rd_T59 l0 x7_1).f4)] 59 (0, 0))) := ⟨b9_⟩
     have n1_ : Aside0 (Below w.heap.size w (((((w18.setCell ⟨gb440, 0, none⟩ (.string ((rd_T59 l0 x7_1).f0))).setCell ⟨gb440, 1, none⟩ (.bool ((rd_T59 l0 x7_1).f1))).setCell ⟨gb440, 2, none⟩ (.string ((rd_T59 l0 x7_1).f2))).setCell ⟨gb440, 3, none⟩ (.string ((rd_T59 l0 x7_1).f3))).setCell ⟨gb440, 4, none⟩ (.string ((rd_T59 l0 x7_1).f4)))) := ⟨bel1 GE440.out⟩
     clear BK440 HB; generalize (((((w18.setCell ⟨gb440, 0, none⟩ (.string ((rd_T59 l0 x7_1).f0))).setCell ⟨gb440, 1, none⟩ (.bool ((rd_T59 l0 x7_1).f1))).setCell ⟨gb440, 2, none⟩ (.string ((rd_T59 l0 x7_1).f2))).setCell ⟨gb440, 3, none⟩ (.string ((rd_T59 l0 x7_1).f3))).setCell ⟨gb440, 4, none⟩ (.string ((rd_T59 l0 x7_1).f4))) = w20 at n0_ n1_ ⊢; have BK440 := n0_; have HB := n1_; clear n0_ n1_; replace BK440 := am (blk_drew BK440.out); replace HB := am (below_drew1 HB.out)
     refine st (n := 10) (S := fun w' => w'.cell? ⟨gb440, 0, none⟩ = some (.string ((rd_T59 l0 x7_1).f0)) ∧ w'.cell? ⟨gb440, 1, none⟩ = some (.bool ((rd_T59 l0 x7_1).f1)) ∧ w'.cell? ⟨gb440, 2, none⟩ = some (.string ((rd_T59 l0 x7_1).f2)) ∧ w'.cell? ⟨gb440, 3, none⟩ = some (.string ((rd_T59 l0 x7_1).f3)) ∧ w'.cell? ⟨gb440, 4, none⟩ = some (.string ((rd_T59 l0 x7_1).f4))) (ds := []) ⟨bd BK440.out 0, bd BK440.out 1, bd BK440.out 2, bd BK440.out 3, bd BK440.out 4⟩ (fun hHeld => ?_); refine with_tabW impl_affixesOk.tab4 impl_affixesOk.bits4 (fun HT_ HW_ => ?_)
     generalize w20.drew = w21 at BK440 HB hHeld ⊢; refine tk5 0 12 hHeld ?_; refine on1 1 13 (fun K hK => ?_)
     refine go1 Tryz.func56 #[.agg #[.string ((rd_T59 l0 x7_1).f0), .bool ((rd_T59 l0 x7_1).f1), .string ((rd_T59 l0 x7_1).f2), .string ((rd_T59 l0 x7_1).f3), .string ((rd_T59 l0 x7_1).f4)]] ?_
     with_reducible refine (impl_AffixOk.calls k1 ((rd_T59 l0 x7_1).f0) ((rd_T59 l0 x7_1).f1) ((rd_T59 l0 x7_1).f2) ((rd_T59 l0 x7_1).f3) ((rd_T59 l0 x7_1).f4) true _ A5.out).mono ?_
     rintro e w22 ⟨rfl, hb⟩; refine ⟨_, rfl, ?_⟩; replace BK440 := am (blk_below (bq BK440.out) hb); replace HB := am (below_step (bel1 GE440.out) hb); clear hb
     have q23 : (x7_1 : Int) ≤ ((l0.length : Int) : Int) := of_decide_eq_true ad
     obtain ⟨i023, hi023, _, hsz23, _⟩ := info_parts info59
     have hroom23 : l0.length ≤ c0 := HC0.out
     have hC23 : Kd.C k59 _ (some ad439) l0.length l0 := HR0.out
     have hcut23 := cut_to (P := Tryz.prog) 23 59 .i64 Tryz.underlying23 hi023 (some ad439) l0.length c0 x7_1 (of_decide_eq_true ad) q23 hroom23; have hr23 := Kd.C_take (m := (x7_1 : Int).toNat) hC23 (by omega)
     have hy23 : y442.length = (x7_1 : Int).toNat := (by rw [Ny442.out, List.length_take]; omega)
     rw [← Ny442.out] at hr23; rw [← hy23] at hcut23; have HR445 := am hr23
     have HC445 := am (show y442.length ≤ c0 from by omega)
     clear hr23 hC23 hroom23 hi023 hsz23; have KY23 := am hy23; clear hy23; replace q23 := eq_true q23; refine hK.out _ _ ⟨bd BK440.out 0, bd BK440.out 1, bd BK440.out 2, bd BK440.out 3, bd BK440.out 4⟩ (fun hHeld => ?_); clear hK K; refine nm 13 ?_; refine pu 2 14 ?_; refine pu 3 15 ?_; refine pu 4 16 ?_; refine pu 5 17 ?_; refine pu 6 18 ?_; refine tk5 7 19 hHeld ?_; refine on1 8 20 (fun K hK => ?_)
     refine go1 Tryz.func57 #[.slice (some ad439) y442.length c0, .agg #[.string ((rd_T59 l0 x7_1).f0), .bool ((rd_T59 l0 x7_1).f1), .string ((rd_T59 l0 x7_1).f2), .string ((rd_T59 l0 x7_1).f3), .string ((rd_T59 l0 x7_1).f4)]] ?_
     with_reducible refine (impl_Affix_57.calls k1 _ _ y442 ((rd_T59 l0 x7_1).f0) ((rd_T59 l0 x7_1).f1) ((rd_T59 l0 x7_1).f2) ((rd_T59 l0 x7_1).f3) ((rd_T59 l0 x7_1).f4) false _ ?side1 ?side2 A9.out).mono ?_
     (case side1 => exact cq (Kd.C_below HR445.out HB.out)); (case side2 => exact HC445.out)
     rintro e w24 ⟨rfl, hb⟩; refine ⟨_, rfl, ?_⟩; replace BK440 := am (blk_below (bq BK440.out) hb); replace HB := am (below_step (bel1 GE440.out) hb); clear hb; refine hK.out _ _ ⟨bd BK440.out 0, bd BK440.out 1, bd BK440.out 2, bd BK440.out 3, bd BK440.out 4⟩ (fun hHeld => ?_); clear hK K; refine nm 20 ?_; refine pu 9 21 ?_
     refine done_ (done_of HT_.out (by kernel_rfl)) ?_
     try go_wp2
     go_roundg k1
     case measure => have := HK1.out; omega
     case rel => exact ⟨(wrap64 (x7_1 + 1)), sq, H', ⟨b81_⟩, ⟨bel1 GE440.out⟩⟩
    replace c6 := Bool.eq_false_iff.mpr c6; subst c6
    have H1 : (some false) = some r := b10_
    replace H := H1; clear H1
    obtain rfl := Option.some.inj H
    have p439 : 0 ≤ (x7_1 : Int) := of_decide_eq_true ad
    have q439 : x7_1 < (l0.length : Int) := of_decide_eq_true ad
    obtain ⟨ad439, e439, hx439_0, hx439_1, hx439_2, hx439_3, hx439_4⟩ := at_T59 HR0.out x7_1 p439 q439; cases e439; replace hx439_0 := kp HB.out hx439_0; replace hx439_1 := kp HB.out hx439_1; replace hx439_2 := kp HB.out hx439_2; replace hx439_3 := kp HB.out hx439_3; replace hx439_4 := kp HB.out hx439_4; replace p439 := eq_true p439; replace q439 := eq_true q439
    try go_wp2_with ((with_reducible refine gate_dst (N := 4) rfl ?_); refine bx 4 (cs := #[.string (⟨#[]⟩ : ByteArray), .bool false, .string (⟨#[]⟩ : ByteArray), .string (⟨#[]⟩ : ByteArray), .string (⟨#[]⟩ : ByteArray)]) (t := 59) ?_; intro gb440 hg w25 hbox hb; have BK440 := am (hbox); have GW440 := am ((b15_ : w.heap.size ≤ gb440)); have GE440 := am ((b15_ : w.heap.size ≤ gb440)); replace HB := am (below_step bel hb); clear hb hbox hg; have ⟨hcz26_0, hcz26_1, hcz26_2, hcz26_3, hcz26_4, hfz26_0, hfz26_1, hfz26_2, hfz26_3, hfz26_4⟩ := b5c BK440.out)
    have n0_ : Aside0 ((((((w25.setCell ⟨gb440, 0, none⟩ (.string ((rd_T59 l0 x7_1).f0))).setCell ⟨gb440, 1, none⟩ (.bool ((rd_T59 l0 x7_1).f1))).setCell ⟨gb440, 2, none⟩ (.string ((rd_T59 l0 x7_1).f2))).setCell ⟨gb440, 3, none⟩ (.string ((rd_T59 l0 x7_1).f3))).setCell ⟨gb440, 4, none⟩ (.string ((rd_T59 l0 x7_1).f4))).heap[gb440]? = some (.cells #[.string ((rd_T59 l0 x7_1).f0), .bool ((rd_T59 l0 x7_1).f1), .string ((rd_T59 l0 x7_1).f2), .string ((rd_T59 l0 x7_1).f3), .string ((rd_T59 l0 x7_1).f4)] 59 (0, 0))) := ⟨b9_⟩
    have n1_ : Aside0 (Below w.heap.size w (((((w25.setCell ⟨gb440, 0, none⟩ (.string ((rd_T59 l0 x7_1).f0))).setCell ⟨gb440, 1, none⟩ (.bool ((rd_T59 l0 x7_1).f1))).setCell ⟨gb440, 2, none⟩ (.string ((rd_T59 l0 x7_1).f2))).setCell ⟨gb440, 3, none⟩ (.string ((rd_T59 l0 x7_1).f3))).setCell ⟨gb440, 4, none⟩ (.string ((rd_T59 l0 x7_1).f4)))) := ⟨bel1 GE440.out⟩
    clear BK440 HB; generalize (((((w25.setCell ⟨gb440, 0, none⟩ (.string ((rd_T59 l0 x7_1).f0))).setCell ⟨gb440, 1, none⟩ (.bool ((rd_T59 l0 x7_1).f1))).setCell ⟨gb440, 2, none⟩ (.string ((rd_T59 l0 x7_1).f2))).setCell ⟨gb440, 3, none⟩ (.string ((rd_T59 l0 x7_1).f3))).setCell ⟨gb440, 4, none⟩ (.string ((rd_T59 l0 x7_1).f4))) = w27 at n0_ n1_ ⊢; have BK440 := n0_; have HB := n1_; clear n0_ n1_; replace BK440 := am (blk_drew BK440.out); replace HB := am (below_drew1 HB.out)
    refine st (n := 10) (S := fun w' => w'.cell? ⟨gb440, 0, none⟩ = some (.string ((rd_T59 l0 x7_1).f0)) ∧ w'.cell? ⟨gb440, 1, none⟩ = some (.bool ((rd_T59 l0 x7_1).f1)) ∧ w'.cell? ⟨gb440, 2, none⟩ = some (.string ((rd_T59 l0 x7_1).f2)) ∧ w'.cell? ⟨gb440, 3, none⟩ = some (.string ((rd_T59 l0 x7_1).f3)) ∧ w'.cell? ⟨gb440, 4, none⟩ = some (.string ((rd_T59 l0 x7_1).f4))) (ds := []) ⟨bd BK440.out 0, bd BK440.out 1, bd BK440.out 2, bd BK440.out 3, bd BK440.out 4⟩ (fun hHeld => ?_); refine with_tabW impl_affixesOk.tab4 impl_affixesOk.bits4 (fun HT_ HW_ => ?_)
    generalize w27.drew = w28 at BK440 HB hHeld ⊢; refine tk5 0 12 hHeld ?_; refine on1 1 13 (fun K hK => ?_)
    refine go1 Tryz.func56 #[.agg #[.string ((rd_T59 l0 x7_1).f0), .bool ((rd_T59 l0 x7_1).f1), .string ((rd_T59 l0 x7_1).f2), .string ((rd_T59 l0 x7_1).f3), .string ((rd_T59 l0 x7_1).f4)]] ?_
    with_reducible refine (impl_AffixOk.calls k1 ((rd_T59 l0 x7_1).f0) ((rd_T59 l0 x7_1).f1) ((rd_T59 l0 x7_1).f2) ((rd_T59 l0 x7_1).f3) ((rd_T59 l0 x7_1).f4) false _ A5.out).mono ?_
    rintro e w29 ⟨rfl, hb⟩; refine ⟨_, rfl, ?_⟩; replace BK440 := am (blk_below (bq BK440.out) hb); replace HB := am (below_step (bel1 GE440.out) hb); clear hb; refine hK.out _ _ ⟨bd BK440.out 0, bd BK440.out 1, bd BK440.out 2, bd BK440.out 3, bd BK440.out 4⟩ (fun hHeld => ?_); clear hK K; refine nm 13 ?_; refine pu 2 14 ?_; refine pu 3 15 ?_; refine puu 4 16 ?_; refine puu 5 17 ?_; refine puu 6 18 ?_; refine puu 7 19 ?_; refine puu 8 20 ?_; refine pu 9 21 ?_
    refine done_ (done_of HT_.out (by kernel_rfl)) ?_
    try go_wp2
    go_ret
    exact ⟨eq_, bel1 GE440.out⟩
   rw [if_neg c2] at H; have c2b0 := decide_eq_false c2; clear c2; obtain rfl := Option.some.inj H; go_wp2; go_ret
   exact ⟨eq_, bel⟩

/-! ### impl_within: function 36 -/
def impl_within.f (a0 : Int) (a1 : Int) (a2 : Int) : Option (Bool) := if a0 ≥ a1 then (some (decide (a0 ≤ a2))) else (some false)
theorem impl_within.calls (a0 : Int) (a1 : Int) (a2 : Int) (r : Bool) (w : World) (h : impl_within.f a0 a1 a2 = some r) :
  Calls Tryz.prog 36 #[.int .i64 a0, .int .i64 a1, .int .i64 a2] w fun e w' => e = .returned (.bool r) ∧ Drawn0 w w' := by
 have H := h; unfold impl_within.f at H
 clear h
 by_cases c4 : a0 ≥ a1
 ·rw [if_pos c4] at H; have c4b0 := decide_eq_true c4; clear c4; obtain rfl := Option.some.inj H; go_enter Tryz.func36, Tryz.ntmps36; go_wp2; go_ret
  exact ⟨sq, dr⟩
 rw [if_neg c4] at H; have c4b0 := decide_eq_false c4; clear c4; obtain rfl := Option.some.inj H; go_enter Tryz.func36, Tryz.ntmps36; go_wp2; go_ret
 exact ⟨sq, dr⟩

/-! ### impl_WordOk: function 18 -/
def impl_WordOk.f (k : Nat) (a0 : ByteArray) : Option (Bool) := (impl_within.f (a0.size : Int) 1 12).bind fun t447 => (if t447 = true then ((impl_lower.f k a0).bind fun t448 => (some t448)) else (some false))
theorem impl_WordOk.calls (k : Nat) (a0 : ByteArray) (r : Bool) (w : World) (h : impl_WordOk.f k a0 = some r) :
  Calls Tryz.prog 18 #[.string a0] w fun e w' => e = .returned (.bool r) ∧ Drawn0 w w' := by
 have H := h; unfold impl_WordOk.f at H
 clear h; replace H := bs H; obtain ⟨t447, A20, H⟩ := H; have A2 := Aside0.mk A20; clear A20
 by_cases c3 : t447 = true
 ·subst c3
  have H1 : ((impl_lower.f k a0).bind fun t448 => (some t448)) = some r := b26_
  replace H := H1; clear H1
  replace H := bs H; obtain ⟨t448, A40, H⟩ := H; have A4 := Aside0.mk A40; clear A40; obtain rfl := Option.some.inj H; go_enter Tryz.func18, Tryz.ntmps18
  go_wp2_with (first | ((with_reducible refine gate_callee (f := 36) rfl ?_); refine gl 5 Tryz.func36 #[.int .i64 (a0.size : Int), .int .i64 1, .int .i64 12] ?_; (with_reducible refine (impl_within.calls (a0.size : Int) 1 12 true _ A2.out).mono ?_); rintro e w' ⟨rfl, ⟨nd, rfl⟩⟩; refine ⟨_, rfl, ?_⟩) | (go_at_call 37; (with_reducible refine (impl_lower.calls k a0 t448 _ A4.out).mono ?_); rintro e w' ⟨rfl, ⟨nd, rfl⟩⟩))
  go_ret
  exact ⟨sq, dr⟩
 replace c3 := Bool.eq_false_iff.mpr c3; subst c3
 have H1 : (some false) = some r := b10_
 replace H := H1; clear H1
 obtain rfl := Option.some.inj H; go_enter Tryz.func18, Tryz.ntmps18
 go_wp2_with ((with_reducible refine gate_callee (f := 36) rfl ?_); refine gl 5 Tryz.func36 #[.int .i64 (a0.size : Int), .int .i64 1, .int .i64 12] ?_; (with_reducible refine (impl_within.calls (a0.size : Int) 1 12 false _ A2.out).mono ?_); rintro e w' ⟨rfl, ⟨nd, rfl⟩⟩; refine ⟨_, rfl, ?_⟩)
 go_ret
 exact ⟨sq, dr⟩

/-! ### impl_entryOk: function 58 -/
def impl_entryOk.l0 : Nat → Int → Int → ByteArray → ByteArray → Option (Bool)
 | 0, _, _, _, _ => none
 | k + 1, x6, x7, x450000, x450001 => if x7 < x6 then (if 0 ≤ x7 then (if x7 < (x450001.size : Int) then ((impl_upper.f (bt x450001 x7)).bind fun t450 => (if t450 = true then (if x7 > 0 then (if 0 ≤ (wrap64 (x7 - 1)) then (if (wrap64 (x7 - 1)) < (x450001.size : Int) then (if (bt x450001 (wrap64 (x7 - 1))) ≥ (bt x450001 x7) then (some false) else (impl_entryOk.l0 k x6 (wrap64 (x7 + 1)) x450000 x450001)) else (none)) else (none)) else (impl_entryOk.l0 k x6 (wrap64 (x7 + 1)) x450000 x450001)) else (some false))) else (none)) else (none)) else ((impl_WordOk.f k x450000).bind fun t451 => (if t451 = true then (some (decide ((x450001.size : Int) ≤ 4))) else (some false)))
def impl_entryOk.f (k : Nat) (a0_0 : ByteArray) (a0_1 : ByteArray) : Option (Bool) := impl_entryOk.l0 k (a0_1.size : Int) 0 a0_0 a0_1
theorem impl_entryOk.calls (k : Nat) (a0_0 : ByteArray) (a0_1 : ByteArray) (r : Bool) (w : World) (h : impl_entryOk.f k a0_0 a0_1 = some r) :
  Calls Tryz.prog 58 #[.agg #[.string a0_0, .string a0_1]] w fun e w' => e = .returned (.bool r) ∧ Below w.heap.size w w' := by
 have hu51 := Tryz.underlying51; have HB := am (Below.refl w.heap.size w)
 have H := h; unfold impl_entryOk.f at H
 clear h
 have H' := am H
 clear H; go_enter Tryz.func58, Tryz.ntmps58
 go_wp2_with ((with_reducible refine gate_dst (N := 1) rfl ?_); ((refine gate_guard (by rfl) ?_; dsimp only)); refine bx 1 (cs := #[.string a0_0, .string a0_1]) (t := 51) ?_; intro gb449 hg w2 hbox hb; have BK449 := am (hbox); have GW449 := am ((b15_ : w.heap.size ≤ gb449)); have GE449 := am ((b15_ : w.heap.size ≤ gb449)); replace HB := am (below_step bel hb); clear hb hbox hg; have ⟨hcz3_0, hcz3_1, hfz3_0, hfz3_1⟩ := b2c BK449.out)
 repeat (go_quiet (fail); try go_wp2)
 go_loopg [7] k (fun kq v7 w' => ∃ (x7_1 : Int), v7 = .int .i64 x7_1 ∧ Aside0 (impl_entryOk.l0 kq (a0_1.size : Int) x7_1 a0_0 a0_1 = some r) ∧ Aside0 (kq ≤ k) ∧ Aside0 (w'.heap[gb449]? = some (.cells #[.string a0_0, .string a0_1] 51 (0, 0))) ∧ Aside0 (Below w.heap.size w w'))
 case atStart => exact ⟨(0), sq, H', ⟨Nat.le_refl _⟩, ⟨bq BK449.out⟩, ⟨bel1 GE449.out⟩⟩
 case round =>
  clear H'; clear hcz3_0 hcz3_1 hfz3_0 hfz3_1; obtain ⟨x7_1, rfl, HA, HK1, BK449, HB⟩ := hrel
  cases gk with
  | zero => exact absurd HA.out (by simp [impl_entryOk.l0])
  | succ k1 =>
   have H := HA.out; clear HA; simp only [impl_entryOk.l0] at H
   by_cases c4 : x7_1 < (a0_1.size : Int)
   ·rw [if_pos c4] at H; have c4b0 := decide_eq_true c4; clear c4
    replace H := it H; obtain ⟨c5b0, H⟩ := H
    replace H := it H; obtain ⟨c6b0, H⟩ := H; replace H := bs H; obtain ⟨t450, A80, H⟩ := H; have A8 := Aside0.mk A80; clear A80
    by_cases c9 : t450 = true
    ·subst c9
     have H1 : (if x7_1 > 0 then (if 0 ≤ (wrap64 (x7_1 - 1)) then (if (wrap64 (x7_1 - 1)) < (a0_1.size : Int) then (if (bt a0_1 (wrap64 (x7_1 - 1))) ≥ (bt a0_1 x7_1) then (some false) else (impl_entryOk.l0 k1 (a0_1.size : Int) (wrap64 (x7_1 + 1)) a0_0 a0_1)) else (none)) else (none)) else (impl_entryOk.l0 k1 (a0_1.size : Int) (wrap64 (x7_1 + 1)) a0_0 a0_1)) = some r := b26_
     replace H := H1; clear H1
     by_cases c10 : x7_1 > 0
     ·rw [if_pos c10] at H; have c10b0 := decide_eq_true c10; clear c10; obtain ⟨ji11, hji11⟩ : ∃ j_ : Int, (wrap64 (x7_1 - 1)) = j_ := ⟨_, rfl⟩
      rw [hji11] at H
      have hji11w : (IntKind.i64.wrap (x7_1 - 1)) = ji11 := (i64_w _).trans hji11
      replace H := it H; obtain ⟨c12b0, H⟩ := H; replace H := it H; obtain ⟨c13b0, H⟩ := H
      by_cases c16 : (bt a0_1 (ji11)) ≥ (bt a0_1 x7_1)
      ·rw [if_pos c16] at H; have c16b0 := decide_eq_true c16; clear c16; obtain rfl := Option.some.inj H; have ⟨hcz17_0, hcz17_1, hfz17_0, hfz17_1⟩ := b2c BK449.out
       have p7 : 0 ≤ (x7_1 : Int) := of_decide_eq_true ad
       have q7 : x7_1 < (a0_1.size : Int) := of_decide_eq_true ad
       have hx7 := bt_at a0_1 x7_1; replace p7 := eq_true p7; replace q7 := eq_true q7
       have p14 : 0 ≤ ((ji11) : Int) := of_decide_eq_true ad
       have q14 : (ji11) < (a0_1.size : Int) := of_decide_eq_true ad
       have hx14 := bt_at a0_1 (ji11)
       replace p14 := eq_true p14
       replace q14 := eq_true q14
       have p15 : 0 ≤ (x7_1 : Int) := of_decide_eq_true ad
       have q15 : x7_1 < (a0_1.size : Int) := of_decide_eq_true ad
       have hx15 := bt_at a0_1 x7_1
       replace p15 := eq_true p15
       replace q15 := eq_true q15
       go_wp2
       repeat (go_quiet ((go_at_call 72; (with_reducible refine (impl_upper.calls (bt a0_1 x7_1) true _ A8.out).mono ?_); rintro e w' ⟨rfl, ⟨nd, rfl⟩⟩; exact ⟨rfl, _, World.drewN_drewN _ _ _⟩)); try go_wp2)
       go_ret
       exact ⟨by rfl, bel1 GE449.out⟩
      rw [if_neg c16] at H; have c16b0 := decide_eq_false c16; clear c16
      have H' := am H
      clear H; have ⟨hcz18_0, hcz18_1, hfz18_0, hfz18_1⟩ := b2c BK449.out
      have p7 : 0 ≤ (x7_1 : Int) := of_decide_eq_true ad
      have q7 : x7_1 < (a0_1.size : Int) := of_decide_eq_true ad
      have hx7 := bt_at a0_1 x7_1; replace p7 := eq_true p7; replace q7 := eq_true q7
      have p14 : 0 ≤ ((ji11) : Int) := of_decide_eq_true ad
      have q14 : (ji11) < (a0_1.size : Int) := of_decide_eq_true ad
      have hx14 := bt_at a0_1 (ji11)
      replace p14 := eq_true p14
      replace q14 := eq_true q14
      have p15 : 0 ≤ (x7_1 : Int) := of_decide_eq_true ad
      have q15 : x7_1 < (a0_1.size : Int) := of_decide_eq_true ad
      have hx15 := bt_at a0_1 x7_1
      replace p15 := eq_true p15
      replace q15 := eq_true q15
      go_wp2
      repeat (go_quiet ((go_at_call 72; (with_reducible refine (impl_upper.calls (bt a0_1 x7_1) true _ A8.out).mono ?_); rintro e w' ⟨rfl, ⟨nd, rfl⟩⟩; exact ⟨rfl, _, World.drewN_drewN _ _ _⟩)); try go_wp2)
      go_roundg k1
      case measure => have := HK1.out; omega
      case rel => exact ⟨(wrap64 (x7_1 + 1)), sq, H', ⟨b81_⟩, ⟨bq BK449.out⟩, ⟨bel1 GE449.out⟩⟩
     rw [if_neg c10] at H; have c10b0 := decide_eq_false c10; clear c10
     have H' := am H
     clear H; have ⟨hcz19_0, hcz19_1, hfz19_0, hfz19_1⟩ := b2c BK449.out
     have p7 : 0 ≤ (x7_1 : Int) := of_decide_eq_true ad
     have q7 : x7_1 < (a0_1.size : Int) := of_decide_eq_true ad
     have hx7 := bt_at a0_1 x7_1; replace p7 := eq_true p7; replace q7 := eq_true q7
     go_wp2
     repeat (go_quiet ((go_at_call 72; (with_reducible refine (impl_upper.calls (bt a0_1 x7_1) true _ A8.out).mono ?_); rintro e w' ⟨rfl, ⟨nd, rfl⟩⟩; exact ⟨rfl, _, World.drewN_drewN _ _ _⟩)); try go_wp2)
     go_roundg k1
     case measure => have := HK1.out; omega
     case rel => exact ⟨(wrap64 (x7_1 + 1)), sq, H', ⟨b81_⟩, ⟨bq BK449.out⟩, ⟨bel1 GE449.out⟩⟩
    replace c9 := Bool.eq_false_iff.mpr c9; subst c9
    have H1 : (some false) = some r := b10_
    replace H := H1; clear H1
    obtain rfl := Option.some.inj H; have ⟨hcz20_0, hcz20_1, hfz20_0, hfz20_1⟩ := b2c BK449.out
    have p7 : 0 ≤ (x7_1 : Int) := of_decide_eq_true ad
    have q7 : x7_1 < (a0_1.size : Int) := of_decide_eq_true ad
    have hx7 := bt_at a0_1 x7_1; replace p7 := eq_true p7; replace q7 := eq_true q7
    go_wp2
    repeat (go_quiet ((go_at_call 72; (with_reducible refine (impl_upper.calls (bt a0_1 x7_1) false _ A8.out).mono ?_); rintro e w' ⟨rfl, ⟨nd, rfl⟩⟩; exact ⟨rfl, _, World.drewN_drewN _ _ _⟩)); try go_wp2)
    go_ret
    exact ⟨eq_, bel1 GE449.out⟩
   rw [if_neg c4] at H; have c4b0 := decide_eq_false c4; clear c4; replace H := bs H; obtain ⟨t451, A210, H⟩ := H; have A21 := Aside0.mk A210; clear A210
   by_cases c22 : t451 = true
   ·subst c22
    have H1 : (some (decide ((a0_1.size : Int) ≤ 4))) = some r := b26_
    replace H := H1; clear H1
    obtain rfl := Option.some.inj H; have ⟨hcz23_0, hcz23_1, hfz23_0, hfz23_1⟩ := b2c BK449.out
    go_wp2_with (go_at_call 18; (with_reducible refine (impl_WordOk.calls k1 a0_0 true _ A21.out).mono ?_); rintro e w' ⟨rfl, ⟨nd, rfl⟩⟩)
    repeat (go_quiet (fail); try go_wp2)
    go_ret
    exact ⟨eq_, bel1 GE449.out⟩
   replace c22 := Bool.eq_false_iff.mpr c22; subst c22
   have H1 : (some false) = some r := b10_
   replace H := H1; clear H1
   obtain rfl := Option.some.inj H; have ⟨hcz24_0, hcz24_1, hfz24_0, hfz24_1⟩ := b2c BK449.out
   go_wp2_with (go_at_call 18; (with_reducible refine (impl_WordOk.calls k1 a0_0 false _ A21.out).mono ?_); rintro e w' ⟨rfl, ⟨nd, rfl⟩⟩)
   repeat (go_quiet (fail); try go_wp2)
   go_ret
   exact ⟨eq_, bel1 GE449.out⟩
-- shrunk

/-! ### impl_entriesOk: function 35 -/
def impl_entriesOk.l0 : Nat → List (S51) → List (S51) → Int → Int → Option (Bool)
 | 0, _, _, _, _ => none
 | k + 1, x0, x5, x6, x7 => if x7 < x6 then (if 0 ≤ x7 then (if x7 < (x5.length : Int) then ((impl_entryOk.f k ((rd_T51 x5 x7).f0) ((rd_T51 x5 x7).f1)).bind fun t454 => (if t454 = true then (if x7 > 0 then (if 0 ≤ (wrap64 (x7 - 1)) then (if (wrap64 (x7 - 1)) < (x0.length : Int) then (if ((Op.bytesLess (((rd_T51 x0 (wrap64 (x7 - 1))).f0).toList) (((rd_T51 x5 x7).f0).toList)) = true) then (impl_entriesOk.l0 k x0 x5 x6 (wrap64 (x7 + 1))) else (some false)) else (none)) else (none)) else (impl_entriesOk.l0 k x0 x5 x6 (wrap64 (x7 + 1)))) else (some false))) else (none)) else (none)) else (some (decide ((x0.length : Int) ≤ 24)))
def impl_entriesOk.f (k : Nat) (l0 : List (S51)) : Option (Bool) := impl_entriesOk.l0 k l0 l0 (l0.length : Int) 0
def impl_entriesOk.T4 : Bool × List (List Nat × List Nat) := (true, [([], []), ([0], [0]), ([1], [1]), ([2, 1], [2]), ([3], [3]), ([4, 3], [3, 4]), ([5, 3, 3], [3, 5]), ([6], [6]), ([6], [6]), ([8, 6], [6, 8]), ([7, 9, 6], [6, 7, 9]), ([10, 6], [6, 10]), ([11, 6], [6, 11]), ([6], [6]), ([13, 6], [6, 13]), ([12, 14, 6], [6, 12, 14]), ([6, 15, 3], [3, 6, 15]), ([3, 16], [3, 16])])
def impl_entriesOk.B4 : List Nat := [0, 1, 3, 7, 15, 31, 63, 127, 127, 383, 1023, 2047, 4095, 127, 8319, 32767, 65535, 131071]
theorem impl_entriesOk.tab4 : rtab .any (opsOf Tryz.f35 4) = impl_entriesOk.T4 := by kernel_rfl
theorem impl_entriesOk.bits4 : waitsOk impl_entriesOk.T4.2 impl_entriesOk.B4 = true := by kernel_rfl
theorem impl_entriesOk.calls (k : Nat) (A0 : Option Addr) (c0 : Nat) (l0 : List (S51)) (r : Bool) (w : World) (hr0 : Kd.C k51 w A0 l0.length l0) (hc0 : l0.length ≤ c0) (h : impl_entriesOk.f k l0 = some r) :
  Calls Tryz.prog 35 #[.slice A0 l0.length c0] w fun e w' => e = .returned (.bool r) ∧ Below w.heap.size w w' := by
 have hu51 := Tryz.underlying51; have HR0 := am hr0; have HC0 := am hc0; clear hr0 hc0; have HB := am (Below.refl w.heap.size w)
 have H := h; unfold impl_entriesOk.f at H
 clear h
 have H' := am H
 clear H; go_enter Tryz.func35, Tryz.ntmps35; go_wp2
 go_loopg [7] k (fun kq v7 w' => ∃ (x7_1 : Int), v7 = .int .i64 x7_1 ∧ Aside0 (impl_entriesOk.l0 kq l0 l0 (l0.length : Int) x7_1 = some r) ∧ Aside0 (kq ≤ k) ∧ Aside0 (Below w.heap.size w w'))
 case atStart => exact ⟨(0), sq, H', ⟨Nat.le_refl _⟩, ⟨bel⟩⟩
 case round =>
  clear H'; obtain ⟨x7_1, rfl, HA, HK1, HB⟩ := hrel
  cases gk with
  | zero => exact absurd HA.out (by simp [impl_entriesOk.l0])
  | succ k1 =>
   have H := HA.out; clear HA; simp only [impl_entriesOk.l0] at H
   by_cases c2 : x7_1 < (l0.length : Int)
   ·rw [if_pos c2] at H; have c2b0 := decide_eq_true c2; clear c2
    replace H := it H; obtain ⟨c3b0, H⟩ := H
    replace H := it H; obtain ⟨c4b0, H⟩ := H; replace H := bs H; obtain ⟨t454, A50, H⟩ := H; have A5 := Aside0.mk A50; clear A50
    by_cases c6 : t454 = true
    ·subst c6
     have H1 : (if x7_1 > 0 then (if 0 ≤ (wrap64 (x7_1 - 1)) then (if (wrap64 (x7_1 - 1)) < (l0.length : Int) then (if ((Op.bytesLess (((rd_T51 l0 (wrap64 (x7_1 - 1))).f0).toList) (((rd_T51 l0 x7_1).f0).toList)) = true) then (impl_entriesOk.l0 k1 l0 l0 (l0.length : Int) (wrap64 (x7_1 + 1))) else (some false)) else (none)) else (none)) else (impl_entriesOk.l0 k1 l0 l0 (l0.length : Int) (wrap64 (x7_1 + 1)))) = some r := b26_
     replace H := H1; clear H1
     by_cases c7 : x7_1 > 0
     ·rw [if_pos c7] at H; have c7b0 := decide_eq_true c7; clear c7; obtain ⟨ji8, hji8⟩ : ∃ j_ : Int, (wrap64 (x7_1 - 1)) = j_ := ⟨_, rfl⟩
      replace H : (if 0 ≤ (ji8) then (if (ji8) < (l0.length : Int) then (if ((Op.bytesLess (((rd_T51 l0 (ji8)).f0).toList) (((rd_T51 l0 x7_1).f0).toList)) = true) then (impl_entriesOk.l0 k1 l0 l0 (l0.length : Int) (wrap64 (x7_1 + 1))) else (some false)) else (none)) else (none)) = some r := b107_
      have hji8w : (IntKind.i64.wrap (x7_1 - 1)) = ji8 := (i64_w _).trans hji8
      replace H := it H; obtain ⟨c9b0, H⟩ := H; replace H := it H; obtain ⟨c10b0, H⟩ := H
      by_cases c11 : ((Op.bytesLess (((rd_T51 l0 (ji8)).f0).toList) (((rd_T51 l0 x7_1).f0).toList)) = true)
      ·rw [if_pos c11] at H
       have c11b0 : (Op.bytesLess (((rd_T51 l0 (ji8)).f0).toList) (((rd_T51 l0 x7_1).f0).toList)) = true := c11
       clear c11
       have H' := am H
       clear H
       have p452 : 0 ≤ (x7_1 : Int) := of_decide_eq_true ad
       have q452 : x7_1 < (l0.length : Int) := of_decide_eq_true ad
       obtain ⟨ad452, e452, hx452_0, hx452_1⟩ := at_T51 HR0.out x7_1 p452 q452; cases e452; replace hx452_0 := kp HB.out hx452_0; replace hx452_1 := kp HB.out hx452_1; replace p452 := eq_true p452; replace q452 := eq_true q452
       try go_wp2_with ((with_reducible refine gate_dst (N := 4) rfl ?_); refine bx 4 (cs := #[.string (⟨#[]⟩ : ByteArray), .string (⟨#[]⟩ : ByteArray)]) (t := 51) ?_; intro gb453 hg w12 hbox hb; have BK453 := am (hbox); have GW453 := am ((b15_ : w.heap.size ≤ gb453)); have GE453 := am ((b15_ : w.heap.size ≤ gb453)); replace HB := am (below_step bel hb); clear hb hbox hg; have ⟨hcz13_0, hcz13_1, hfz13_0, hfz13_1⟩ := b2c BK453.out)
       have n0_ : Aside0 (((w12.setCell ⟨gb453, 0, none⟩ (.string ((rd_T51 l0 x7_1).f0))).setCell ⟨gb453, 1, none⟩ (.string ((rd_T51 l0 x7_1).f1))).heap[gb453]? = some (.cells #[.string ((rd_T51 l0 x7_1).f0), .string ((rd_T51 l0 x7_1).f1)] 51 (0, 0))) := ⟨b27_⟩
       have n1_ : Aside0 (Below w.heap.size w ((w12.setCell ⟨gb453, 0, none⟩ (.string ((rd_T51 l0 x7_1).f0))).setCell ⟨gb453, 1, none⟩ (.string ((rd_T51 l0 x7_1).f1)))) := ⟨bel1 GE453.out⟩
       clear BK453 HB; generalize ((w12.setCell ⟨gb453, 0, none⟩ (.string ((rd_T51 l0 x7_1).f0))).setCell ⟨gb453, 1, none⟩ (.string ((rd_T51 l0 x7_1).f1))) = w14 at n0_ n1_ ⊢; have BK453 := n0_; have HB := n1_; clear n0_ n1_; replace BK453 := am (blk_drew BK453.out); replace HB := am (below_drew1 HB.out)
       have p455 : 0 ≤ ((ji8) : Int) := of_decide_eq_true ad
       have q455 : (ji8) < (l0.length : Int) := of_decide_eq_true ad
       obtain ⟨ad455, e455, hx455_0, hx455_1⟩ := at_T51 HR0.out (ji8) p455 q455; have hw455_1 := hx455_1; have hw455_0 := hx455_0
       obtain rfl : ad452 = ad455 := (by injection e455)
       replace hx455_0 := kp HB.out hx455_0; replace hx455_1 := kp HB.out hx455_1; replace p455 := eq_true p455; replace q455 := eq_true q455
       refine st (n := 18) (S := fun w' => w'.cell? ⟨gb453, 0, none⟩ = some (.string ((rd_T51 l0 x7_1).f0)) ∧ w'.cell? ⟨gb453, 1, none⟩ = some (.string ((rd_T51 l0 x7_1).f1)) ∧ w'.cell? (ad452.add (((ji8)).toNat * 2)) = some (.string ((rd_T51 l0 (ji8)).f0)) ∧ w'.cell? ⟨(ad452.add (((ji8)).toNat * 2)).block, (ad452.add (((ji8)).toNat * 2)).off + 1, none⟩ = some (.string ((rd_T51 l0 (ji8)).f1))) (ds := []) ⟨bd BK453.out 0, bd BK453.out 1, (kp HB.out hw455_0), (kp HB.out hw455_1)⟩ (fun hHeld => ?_); refine with_tabW impl_entriesOk.tab4 impl_entriesOk.bits4 (fun HT_ HW_ => ?_)
       generalize w14.drew = w15 at BK453 HB hx455_0 hx455_1 hHeld ⊢; refine tk4 0 12 hHeld ?_; refine on1 1 13 (fun K hK => ?_)
       refine go1 Tryz.func58 #[.agg #[.string ((rd_T51 l0 x7_1).f0), .string ((rd_T51 l0 x7_1).f1)]] ?_
       with_reducible refine (impl_entryOk.calls k1 ((rd_T51 l0 x7_1).f0) ((rd_T51 l0 x7_1).f1) true _ A5.out).mono ?_
       rintro e w16 ⟨rfl, hb⟩; refine ⟨_, rfl, ?_⟩; replace BK453 := am (blk_below (bq BK453.out) hb); replace HB := am (below_step (bel1 GE453.out) hb); clear hb; refine hK.out _ _ ⟨bd BK453.out 0, bd BK453.out 1, (kp HB.out hw455_0), (kp HB.out hw455_1)⟩ (fun hHeld => ?_); clear hK K; refine nm 13 ?_; refine pu 2 14 ?_; refine pu 3 15 ?_; refine pu 4 16 ?_; refine pu 5 17 ?_; refine pu 6 18 ?_; refine pu 7 19 ?_; refine pu 8 20 ?_; refine pu 9 21 ?_; refine pu 10 22 ?_; refine pu 11 23 ?_; refine pu 13 25 ?_; refine tk4 12 24 hHeld ?_; refine tk4 14 26 hHeld ?_; refine pu 15 27 ?_; refine pu 16 28 ?_; refine pu 17 29 ?_
       refine done_ (done_of HT_.out (by kernel_rfl)) ?_
       try go_wp2
       go_roundg k1
       case measure => have := HK1.out; omega
       case rel => exact ⟨(wrap64 (x7_1 + 1)), sq, H', ⟨b81_⟩, ⟨bel1 GE453.out⟩⟩
      rw [if_neg c11] at H
      have c11b0 : (Op.bytesLess (((rd_T51 l0 (ji8)).f0).toList) (((rd_T51 l0 x7_1).f0).toList)) = false := by simpa using c11
      clear c11; obtain rfl := Option.some.inj H
      have p452 : 0 ≤ (x7_1 : Int) := of_decide_eq_true ad
      have q452 : x7_1 < (l0.length : Int) := of_decide_eq_true ad
      obtain ⟨ad452, e452, hx452_0, hx452_1⟩ := at_T51 HR0.out x7_1 p452 q452; cases e452; replace hx452_0 := kp HB.out hx452_0; replace hx452_1 := kp HB.out hx452_1; replace p452 := eq_true p452; replace q452 := eq_true q452
      try go_wp2_with ((with_reducible refine gate_dst (N := 4) rfl ?_); refine bx 4 (cs := #[.string (⟨#[]⟩ : ByteArray), .string (⟨#[]⟩ : ByteArray)]) (t := 51) ?_; intro gb453 hg w17 hbox hb; have BK453 := am (hbox); have GW453 := am ((b15_ : w.heap.size ≤ gb453)); have GE453 := am ((b15_ : w.heap.size ≤ gb453)); replace HB := am (below_step bel hb); clear hb hbox hg; have ⟨hcz18_0, hcz18_1, hfz18_0, hfz18_1⟩ := b2c BK453.out)
      have n0_ : Aside0 (((w17.setCell ⟨gb453, 0, none⟩ (.string ((rd_T51 l0 x7_1).f0))).setCell ⟨gb453, 1, none⟩ (.string ((rd_T51 l0 x7_1).f1))).heap[gb453]? = some (.cells #[.string ((rd_T51 l0 x7_1).f0), .string ((rd_T51 l0 x7_1).f1)] 51 (0, 0))) := ⟨b27_⟩
      have n1_ : Aside0 (Below w.heap.size w ((w17.setCell ⟨gb453, 0, none⟩ (.string ((rd_T51 l0 x7_1).f0))).setCell ⟨gb453, 1, none⟩ (.string ((rd_T51 l0 x7_1).f1)))) := ⟨bel1 GE453.out⟩
      clear BK453 HB; generalize ((w17.setCell ⟨gb453, 0, none⟩ (.string ((rd_T51 l0 x7_1).f0))).setCell ⟨gb453, 1, none⟩ (.string ((rd_T51 l0 x7_1).f1))) = w19 at n0_ n1_ ⊢; have BK453 := n0_; have HB := n1_; clear n0_ n1_; replace BK453 := am (blk_drew BK453.out); replace HB := am (below_drew1 HB.out)
      have p455 : 0 ≤ ((ji8) : Int) := of_decide_eq_true ad
      have q455 : (ji8) < (l0.length : Int) := of_decide_eq_true ad
      obtain ⟨ad455, e455, hx455_0, hx455_1⟩ := at_T51 HR0.out (ji8) p455 q455; have hw455_1 := hx455_1; have hw455_0 := hx455_0
      obtain rfl : ad452 = ad455 := (by injection e455)
      replace hx455_0 := kp HB.out hx455_0; replace hx455_1 := kp HB.out hx455_1; replace p455 := eq_true p455; replace q455 := eq_true q455
      refine st (n := 18) (S := fun w' => w'.cell? ⟨gb453, 0, none⟩ = some (.string ((rd_T51 l0 x7_1).f0)) ∧ w'.cell? ⟨gb453, 1, none⟩ = some (.string ((rd_T51 l0 x7_1).f1)) ∧ w'.cell? (ad452.add (((ji8)).toNat * 2)) = some (.string ((rd_T51 l0 (ji8)).f0)) ∧ w'.cell? ⟨(ad452.add (((ji8)).toNat * 2)).block, (ad452.add (((ji8)).toNat * 2)).off + 1, none⟩ = some (.string ((rd_T51 l0 (ji8)).f1))) (ds := []) ⟨bd BK453.out 0, bd BK453.out 1, (kp HB.out hw455_0), (kp HB.out hw455_1)⟩ (fun hHeld => ?_); refine with_tabW impl_entriesOk.tab4 impl_entriesOk.bits4 (fun HT_ HW_ => ?_)
      generalize w19.drew = w20 at BK453 HB hx455_0 hx455_1 hHeld ⊢; refine tk4 0 12 hHeld ?_; refine on1 1 13 (fun K hK => ?_)
      refine go1 Tryz.func58 #[.agg #[.string ((rd_T51 l0 x7_1).f0), .string ((rd_T51 l0 x7_1).f1)]] ?_
      with_reducible refine (impl_entryOk.calls k1 ((rd_T51 l0 x7_1).f0) ((rd_T51 l0 x7_1).f1) true _ A5.out).mono ?_
      rintro e w21 ⟨rfl, hb⟩; refine ⟨_, rfl, ?_⟩; replace BK453 := am (blk_below (bq BK453.out) hb); replace HB := am (below_step (bel1 GE453.out) hb); clear hb; refine hK.out _ _ ⟨bd BK453.out 0, bd BK453.out 1, (kp HB.out hw455_0), (kp HB.out hw455_1)⟩ (fun hHeld => ?_); clear hK K; refine nm 13 ?_; refine pu 2 14 ?_; refine pu 3 15 ?_; refine pu 4 16 ?_; refine pu 5 17 ?_; refine pu 6 18 ?_; refine pu 7 19 ?_; refine pu 8 20 ?_; refine pu 9 21 ?_; refine pu 10 22 ?_; refine pu 11 23 ?_; refine pu 13 25 ?_; refine tk4 12 24 hHeld ?_; refine tk4 14 26 hHeld ?_; refine pu 15 27 ?_; refine pu 16 28 ?_; refine pu 17 29 ?_
      refine done_ (done_of HT_.out (by kernel_rfl)) ?_
      try go_wp2
      go_ret
      exact ⟨b82_, bel1 GE453.out⟩
     rw [if_neg c7] at H; have c7b0 := decide_eq_false c7; clear c7
     have H' := am H
     clear H
     have p452 : 0 ≤ (x7_1 : Int) := of_decide_eq_true ad
     have q452 : x7_1 < (l0.length : Int) := of_decide_eq_true ad
     obtain ⟨ad452, e452, hx452_0, hx452_1⟩ := at_T51 HR0.out x7_1 p452 q452; cases e452; replace hx452_0 := kp HB.out hx452_0; replace hx452_1 := kp HB.out hx452_1; replace p452 := eq_true p452; replace q452 := eq_true q452
     try go_wp2_with ((with_reducible refine gate_dst (N := 4) rfl ?_); refine bx 4 (cs := #[.string (⟨#[]⟩ : ByteArray), .string (⟨#[]⟩ : ByteArray)]) (t := 51) ?_; intro gb453 hg w22 hbox hb; have BK453 := am (hbox); have GW453 := am ((b15_ : w.heap.size ≤ gb453)); have GE453 := am ((b15_ : w.heap.size ≤ gb453)); replace HB := am (below_step bel hb); clear hb hbox hg; have ⟨hcz23_0, hcz23_1, hfz23_0, hfz23_1⟩ := b2c BK453.out)
     have n0_ : Aside0 (((w22.setCell ⟨gb453, 0, none⟩ (.string ((rd_T51 l0 x7_1).f0))).setCell ⟨gb453, 1, none⟩ (.string ((rd_T51 l0 x7_1).f1))).heap[gb453]? = some (.cells #[.string ((rd_T51 l0 x7_1).f0), .string ((rd_T51 l0 x7_1).f1)] 51 (0, 0))) := ⟨b27_⟩
     have n1_ : Aside0 (Below w.heap.size w ((w22.setCell ⟨gb453, 0, none⟩ (.string ((rd_T51 l0 x7_1).f0))).setCell ⟨gb453, 1, none⟩ (.string ((rd_T51 l0 x7_1).f1)))) := ⟨bel1 GE453.out⟩
     clear BK453 HB; generalize ((w22.setCell ⟨gb453, 0, none⟩ (.string ((rd_T51 l0 x7_1).f0))).setCell ⟨gb453, 1, none⟩ (.string ((rd_T51 l0 x7_1).f1))) = w24 at n0_ n1_ ⊢; have BK453 := n0_; have HB := n1_; clear n0_ n1_; replace BK453 := am (blk_drew BK453.out); replace HB := am (below_drew1 HB.out)
     refine st (n := 18) (S := fun w' => w'.cell? ⟨gb453, 0, none⟩ = some (.string ((rd_T51 l0 x7_1).f0)) ∧ w'.cell? ⟨gb453, 1, none⟩ = some (.string ((rd_T51 l0 x7_1).f1))) (ds := []) ⟨bd BK453.out 0, bd BK453.out 1⟩ (fun hHeld => ?_); refine with_tabW impl_entriesOk.tab4 impl_entriesOk.bits4 (fun HT_ HW_ => ?_)
     generalize w24.drew = w25 at BK453 HB hHeld ⊢; refine tk2 0 12 hHeld ?_; refine on1 1 13 (fun K hK => ?_)
     refine go1 Tryz.func58 #[.agg #[.string ((rd_T51 l0 x7_1).f0), .string ((rd_T51 l0 x7_1).f1)]] ?_
     with_reducible refine (impl_entryOk.calls k1 ((rd_T51 l0 x7_1).f0) ((rd_T51 l0 x7_1).f1) true _ A5.out).mono ?_
     rintro e w26 ⟨rfl, hb⟩; refine ⟨_, rfl, ?_⟩; replace BK453 := am (blk_below (bq BK453.out) hb); replace HB := am (below_step (bel1 GE453.out) hb); clear hb; refine hK.out _ _ ⟨bd BK453.out 0, bd BK453.out 1⟩ (fun hHeld => ?_); clear hK K; refine nm 13 ?_; refine pu 2 14 ?_; refine pu 3 15 ?_; refine pu 4 16 ?_; refine pu 5 17 ?_; refine pu 6 18 ?_; refine puu 7 19 ?_; refine puu 8 20 ?_; refine puu 9 21 ?_; refine puu 10 22 ?_; refine puu 11 23 ?_; refine puu 12 24 ?_; refine puu 13 25 ?_; refine puu 14 26 ?_; refine puu 15 27 ?_; refine pu 16 28 ?_; refine pu 17 29 ?_
     refine done_ (done_of HT_.out (by kernel_rfl)) ?_
     try go_wp2
     go_roundg k1
     case measure => have := HK1.out; omega
     case rel => exact ⟨(wrap64 (x7_1 + 1)), sq, H', ⟨b81_⟩, ⟨bel1 GE453.out⟩⟩
    replace c6 := Bool.eq_false_iff.mpr c6; subst c6
    have H1 : (some false) = some r := b10_
    replace H := H1; clear H1
    obtain rfl := Option.some.inj H
    have p452 : 0 ≤ (x7_1 : Int) := of_decide_eq_true ad
    have q452 : x7_1 < (l0.length : Int) := of_decide_eq_true ad
    obtain ⟨ad452, e452, hx452_0, hx452_1⟩ := at_T51 HR0.out x7_1 p452 q452; cases e452; replace hx452_0 := kp HB.out hx452_0; replace hx452_1 := kp HB.out hx452_1; replace p452 := eq_true p452; replace q452 := eq_true q452
    try go_wp2_with ((with_reducible refine gate_dst (N := 4) rfl ?_); refine bx 4 (cs := #[.string (⟨#[]⟩ : ByteArray), .string (⟨#[]⟩ : ByteArray)]) (t := 51) ?_; intro gb453 hg w27 hbox hb; have BK453 := am (hbox); have GW453 := am ((b15_ : w.heap.size ≤ gb453)); have GE453 := am ((b15_ : w.heap.size ≤ gb453)); replace HB := am (below_step bel hb); clear hb hbox hg; have ⟨hcz28_0, hcz28_1, hfz28_0, hfz28_1⟩ := b2c BK453.out)
    have n0_ : Aside0 (((w27.setCell ⟨gb453, 0, none⟩ (.string ((rd_T51 l0 x7_1).f0))).setCell ⟨gb453, 1, none⟩ (.string ((rd_T51 l0 x7_1).f1))).heap[gb453]? = some (.cells #[.string ((rd_T51 l0 x7_1).f0), .string ((rd_T51 l0 x7_1).f1)] 51 (0, 0))) := ⟨b27_⟩
    have n1_ : Aside0 (Below w.heap.size w ((w27.setCell ⟨gb453, 0, none⟩ (.string ((rd_T51 l0 x7_1).f0))).setCell ⟨gb453, 1, none⟩ (.string ((rd_T51 l0 x7_1).f1)))) := ⟨bel1 GE453.out⟩
    clear BK453 HB; generalize ((w27.setCell ⟨gb453, 0, none⟩ (.string ((rd_T51 l0 x7_1).f0))).setCell ⟨gb453, 1, none⟩ (.string ((rd_T51 l0 x7_1).f1))) = w29 at n0_ n1_ ⊢; have BK453 := n0_; have HB := n1_; clear n0_ n1_; replace BK453 := am (blk_drew BK453.out); replace HB := am (below_drew1 HB.out)
    refine st (n := 18) (S := fun w' => w'.cell? ⟨gb453, 0, none⟩ = some (.string ((rd_T51 l0 x7_1).f0)) ∧ w'.cell? ⟨gb453, 1, none⟩ = some (.string ((rd_T51 l0 x7_1).f1))) (ds := []) ⟨bd BK453.out 0, bd BK453.out 1⟩ (fun hHeld => ?_); refine with_tabW impl_entriesOk.tab4 impl_entriesOk.bits4 (fun HT_ HW_ => ?_)
    generalize w29.drew = w30 at BK453 HB hHeld ⊢; refine tk2 0 12 hHeld ?_; refine on1 1 13 (fun K hK => ?_)
    refine go1 Tryz.func58 #[.agg #[.string ((rd_T51 l0 x7_1).f0), .string ((rd_T51 l0 x7_1).f1)]] ?_
    with_reducible refine (impl_entryOk.calls k1 ((rd_T51 l0 x7_1).f0) ((rd_T51 l0 x7_1).f1) false _ A5.out).mono ?_
    rintro e w31 ⟨rfl, hb⟩; refine ⟨_, rfl, ?_⟩; replace BK453 := am (blk_below (bq BK453.out) hb); replace HB := am (below_step (bel1 GE453.out) hb); clear hb; refine hK.out _ _ ⟨bd BK453.out 0, bd BK453.out 1⟩ (fun hHeld => ?_); clear hK K; refine nm 13 ?_; refine pu 2 14 ?_; refine pu 3 15 ?_; refine puu 4 16 ?_; refine puu 5 17 ?_; refine puu 6 18 ?_; refine puu 7 19 ?_; refine puu 8 20 ?_; refine puu 9 21 ?_; refine puu 10 22 ?_; refine puu 11 23 ?_; refine puu 12 24 ?_; refine puu 13 25 ?_; refine puu 14 26 ?_; refine puu 15 27 ?_; refine puu 16 28 ?_; refine pu 17 29 ?_
    refine done_ (done_of HT_.out (by kernel_rfl)) ?_
    try go_wp2
    go_ret
    exact ⟨eq_, bel1 GE453.out⟩
   rw [if_neg c2] at H; have c2b0 := decide_eq_false c2; clear c2; obtain rfl := Option.some.inj H; go_wp2; go_ret
   exact ⟨eq_, bel⟩

/-! ### impl_BookOk: function 17 -/
def impl_BookOk.f (k : Nat) (l0_0 : List (S59)) (l0_1 : List (S51)) : Option (Bool) := (impl_affixesOk.f k l0_0).bind fun t457 => (if t457 = true then ((impl_entriesOk.f k l0_1).bind fun t458 => (some t458)) else (some false))
theorem impl_BookOk.calls (k : Nat) (A0_0 : Option Addr) (c0_0 : Nat) (l0_0 : List (S59)) (A0_1 : Option Addr) (c0_1 : Nat) (l0_1 : List (S51)) (r : Bool) (w : World) (hr0_0 : Kd.C k59 w A0_0 l0_0.length l0_0) (hc0_0 : l0_0.length ≤ c0_0) (hr0_1 : Kd.C k51 w A0_1 l0_1.length l0_1) (hc0_1 : l0_1.length ≤ c0_1) (h : impl_BookOk.f k l0_0 l0_1 = some r) :
  Calls Tryz.prog 17 #[.agg #[.slice A0_0 l0_0.length c0_0, .slice A0_1 l0_1.length c0_1]] w fun e w' => e = .returned (.bool r) ∧ Below w.heap.size w w' := by
 have hu26 := Tryz.underlying26; have HR0_0 := am hr0_0; have HC0_0 := am hc0_0; clear hr0_0 hc0_0; have HR0_1 := am hr0_1; have HC0_1 := am hc0_1; clear hr0_1 hc0_1; have HB := am (Below.refl w.heap.size w)
 have H := h; unfold impl_BookOk.f at H
 clear h; replace H := bs H; obtain ⟨t457, A20, H⟩ := H; have A2 := Aside0.mk A20; clear A20
 by_cases c3 : t457 = true
 ·subst c3
  have H1 : ((impl_entriesOk.f k l0_1).bind fun t458 => (some t458)) = some r := b26_
  replace H := H1; clear H1
  replace H := bs H; obtain ⟨t458, A40, H⟩ := H; have A4 := Aside0.mk A40; clear A40; obtain rfl := Option.some.inj H; go_enter Tryz.func17, Tryz.ntmps17
  go_wp2_with (first | ((with_reducible refine gate_dst (N := 1) rfl ?_); refine bx 1 (cs := #[.slice A0_0 l0_0.length c0_0, .slice A0_1 l0_1.length c0_1]) (t := 26) ?_; intro gb456 hg w5 hbox hb; have BK456 := am (hbox); have GW456 := am ((b15_ : w.heap.size ≤ gb456)); have GE456 := am ((b15_ : w.heap.size ≤ gb456)); replace HB := am (below_step bel hb); clear hb hbox hg; have ⟨hcz6_0, hcz6_1, hfz6_0, hfz6_1⟩ := b2c BK456.out) | ((with_reducible refine gate_callee (f := 34) rfl ?_); refine gl 5 Tryz.func34 #[.slice A0_0 l0_0.length c0_0] ?_; (with_reducible refine (impl_affixesOk.calls k _ _ l0_0 true _ ?side1 ?side2 A2.out).mono ?_); (case side1 => exact cq (Kd.C_below HR0_0.out HB.out)); (case side2 => exact HC0_0.out); rintro e w7 ⟨rfl, hb⟩; refine ⟨_, rfl, ?_⟩; replace BK456 := am (blk_below (bq BK456.out) hb); replace HB := am (below_step (bel1 GE456.out) hb); clear hb; have ⟨hcz8_0, hcz8_1, hfz8_0, hfz8_1⟩ := b2c BK456.out) | (go_at_call 35; (with_reducible refine (impl_entriesOk.calls k _ _ l0_1 t458 _ ?side1 ?side2 A4.out).mono ?_); (case side1 => exact cq (Kd.C_below HR0_1.out HB.out)); (case side2 => exact HC0_1.out); rintro e w9 ⟨rfl, hb⟩; replace BK456 := am (blk_below (bq BK456.out) hb); replace HB := am (below_step (bel1 GE456.out) hb); clear hb))
  go_ret
  exact ⟨eq_, bel1 GE456.out⟩
 replace c3 := Bool.eq_false_iff.mpr c3; subst c3
 have H1 : (some false) = some r := b10_
 replace H := H1; clear H1
 obtain rfl := Option.some.inj H; go_enter Tryz.func17, Tryz.ntmps17
 go_wp2_with (first | ((with_reducible refine gate_dst (N := 1) rfl ?_); refine bx 1 (cs := #[.slice A0_0 l0_0.length c0_0, .slice A0_1 l0_1.length c0_1]) (t := 26) ?_; intro gb456 hg w10 hbox hb; have BK456 := am (hbox); have GW456 := am ((b15_ : w.heap.size ≤ gb456)); have GE456 := am ((b15_ : w.heap.size ≤ gb456)); replace HB := am (below_step bel hb); clear hb hbox hg; have ⟨hcz11_0, hcz11_1, hfz11_0, hfz11_1⟩ := b2c BK456.out) | ((with_reducible refine gate_callee (f := 34) rfl ?_); refine gl 5 Tryz.func34 #[.slice A0_0 l0_0.length c0_0] ?_; (with_reducible refine (impl_affixesOk.calls k _ _ l0_0 false _ ?side1 ?side2 A2.out).mono ?_); (case side1 => exact cq (Kd.C_below HR0_0.out HB.out)); (case side2 => exact HC0_0.out); rintro e w12 ⟨rfl, hb⟩; refine ⟨_, rfl, ?_⟩; replace BK456 := am (blk_below (bq BK456.out) hb); replace HB := am (below_step (bel1 GE456.out) hb); clear hb))
 go_ret
 exact ⟨eq_, bel1 GE456.out⟩
end Go.Proofs.YtdfnijaacnlfaaaGreat.QFnBookGuesses

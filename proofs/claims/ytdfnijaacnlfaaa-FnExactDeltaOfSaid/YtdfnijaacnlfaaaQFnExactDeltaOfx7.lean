import Derived.Test.YtdfnijaacnlfaaaQFnExactDeltaOfx0
import Derived.Test.YtdfnijaacnlfaaaVMSh2
namespace Go.Proofs.Ytdfnijaacnlfaaa.QFnExactDeltaOf
open Go.RowKit Go.Proofs.YtdfnijaacnlfaaaW.PrintWords Go.Proofs.YtdfnijaacnlfaaaW.PrintLast Go.Proofs.YtdfnijaacnlfaaaW.PrintMore Go.Proofs.Ytdfnijaacnlfaaa.Sh
attribute [local go_sem] max2_int min2_int max_two min_two max_three min_three max_four min_four
set_option linter.unusedVariables false
set_option linter.unusedSimpArgs false
set_option maxHeartbeats 8000000
set_option maxRecDepth 100000
-- shrunk

attribute [local go_sem high] eqA66
/-! ### spec_DeltaOf: function 7 -/
mutual
def spec_DeltaOf.j0 : Nat → Bool → List (S73) → List (S66) → List (S73) → List (S66) → Bool → Option (List ByteArray × (List (S66)) × Bool × (List (S73)))
 | 0, _, _, _, _, _, _ => none
 | k + 1, x20, x136000, x136001, x137000, x137001, x139002 => if x20 = true then (some (([] : List ByteArray), ([] : List (S66)), x139002, ([] : List (S73)))) else (spec_DeltaOf.l0 k 0 x136000 x136001 x137000 x137001 ([] : List ByteArray) x139002)
def spec_DeltaOf.l0 : Nat → Int → List (S73) → List (S66) → List (S73) → List (S66) → List ByteArray → Bool → Option (List ByteArray × (List (S66)) × Bool × (List (S73)))
 | 0, _, _, _, _, _, _, _ => none
 | k + 1, x6, x136000, x136001, x137000, x137001, x139000, x139002 => if x6 < (x136001.length : Int) then (if 0 ≤ x6 then ((spec_l5At.f k x137001 ((rd_T66 x136001 x6).f0)).bind fun bt142 => (if bt142.2 = true then (spec_DeltaOf.l0 k (wrap64 (x6 + 1)) x136000 x136001 x137000 x137001 x139000 x139002) else (if x139000.length < 8796093022208 then (spec_DeltaOf.l0 k (wrap64 (x6 + 1)) x136000 x136001 x137000 x137001 (x139000 ++ [(rd_T66 x136001 x6).f0]) x139002) else (none)))) else (none)) else (spec_DeltaOf.l1 k 0 x136000 x136001 x137000 x137001 x139000 ([] : List (S66)) x139002)
def spec_DeltaOf.l1 : Nat → Int → List (S73) → List (S66) → List (S73) → List (S66) → List ByteArray → List (S66) → Bool → Option (List ByteArray × (List (S66)) × Bool × (List (S73)))
 | 0, _, _, _, _, _, _, _, _ => none
 | k + 1, x9, x136000, x136001, x137000, x137001, x139000, x139001, x139002 => if x9 < (x137001.length : Int) then (if 0 ≤ x9 then ((spec_l5At.f k x136001 ((rd_T66 x137001 x9).f0)).bind fun bt149 => (if bt149.2 = true then (if 0 ≤ bt149.1 then (if bt149.1 < (x136001.length : Int) then (spec_DeltaOf.j3 k x9 (!((((rd_T66 x136001 bt149.1).f0).toList) == (((rd_T66 x137001 x9).f0).toList)) || (!((((rd_T66 x136001 bt149.1).f1).toList) == (((rd_T66 x137001 x9).f1).toList)))) x136000 x136001 x137000 x137001 x139000 x139001 x139002) else (none)) else (none)) else (spec_DeltaOf.j3 k x9 true x136000 x136001 x137000 x137001 x139000 x139001 x139002))) else (none)) else ((spec_l5Affixes.f k x136000 x137000).bind fun t157 => (if t157 = true then (some (x139000, x139001, x139002, ([] : List (S73)))) else ((some (([] : List (S73)) : List (S73))).bind fun y158 => (if y158.length + x137000.length < 1954687338268 then (some (x139000, x139001, true, (y158 ++ x137000))) else (none)))))
def spec_DeltaOf.j3 : Nat → Int → Bool → List (S73) → List (S66) → List (S73) → List (S66) → List ByteArray → List (S66) → Bool → Option (List ByteArray × (List (S66)) × Bool × (List (S73)))
 | 0, _, _, _, _, _, _, _, _, _ => none
 | k + 1, x9, x87, x136000, x136001, x137000, x137001, x139000, x139001, x139002 => if x87 = true then (if 0 ≤ x9 then (if x9 < (x137001.length : Int) then (if x139001.length < 4398046511104 then (spec_DeltaOf.l1 k (wrap64 (x9 + 1)) x136000 x136001 x137000 x137001 x139000 (x139001 ++ [(⟨(rd_T66 x137001 x9).f0, (rd_T66 x137001 x9).f1⟩ : S66)]) x139002) else (none)) else (none)) else (none)) else (spec_DeltaOf.l1 k (wrap64 (x9 + 1)) x136000 x136001 x137000 x137001 x139000 x139001 x139002)
end
def spec_DeltaOf.f (k : Nat) (l0_0 : List (S73)) (l0_1 : List (S66)) (l1_0 : List (S73)) (l1_1 : List (S66)) : Option (List ByteArray × (List (S66)) × Bool × (List (S73))) := (spec_BookOk.f k l0_0 l0_1).bind fun t139 => (if t139 = true then ((spec_BookOk.f k l1_0 l1_1).bind fun t140 => (spec_DeltaOf.j0 k (!t140) l0_0 l0_1 l1_0 l1_1 false)) else (spec_DeltaOf.j0 k true l0_0 l0_1 l1_0 l1_1 false))
def spec_DeltaOf.T7 : Bool × List (List Nat × List Nat) := (true, [([], []), ([0], [0]), ([], []), ([2], [2]), ([], []), ([3, 4], [3, 4]), ([5], [5]), ([6], [6]), ([1, 7], [1, 7]), ([8], [8]), ([9], [9]), ([9], [9]), ([10, 8, 0, 1, 2, 3, 4, 5, 6, 7, 8, 9, 10], [10]), ([11, 12, 0, 1, 2, 3, 4, 5, 6, 7, 8, 9, 10, 11, 12], [11])])
def spec_DeltaOf.B7 : List Nat := [0, 1, 0, 4, 0, 28, 60, 124, 255, 511, 1023, 1023, 2047, 8191]
theorem spec_DeltaOf.tab7 : rtab .any (opsOf Try.f7 7) = spec_DeltaOf.T7 := by kernel_rfl
theorem spec_DeltaOf.bits7 : waitsOk spec_DeltaOf.T7.2 spec_DeltaOf.B7 = true := by kernel_rfl
def spec_DeltaOf.T9 : Bool × List (List Nat × List Nat) := (true, [([], []), ([0], [0]), ([], []), ([2], [2]), ([], []), ([3, 4], [3, 4]), ([5], [5]), ([6], [6]), ([7], [7]), ([1, 8], [1, 8]), ([0, 1, 2, 3, 4, 5, 6, 7, 8, 9], []), ([10, 9, 9, 0, 1, 2, 3, 4, 5, 6, 7, 8, 9], [9, 10])])
def spec_DeltaOf.B9 : List Nat := [0, 1, 0, 4, 0, 28, 60, 124, 252, 511, 1023, 2047]
theorem spec_DeltaOf.tab9 : rtab .any (opsOf Try.f7 9) = spec_DeltaOf.T9 := by kernel_rfl
theorem spec_DeltaOf.bits9 : waitsOk spec_DeltaOf.T9.2 spec_DeltaOf.B9 = true := by kernel_rfl
def spec_DeltaOf.T13 : Bool × List (List Nat × List Nat) := (true, [([], []), ([0], [0]), ([], []), ([2], [2]), ([], []), ([3, 4], [3, 4]), ([5], [5]), ([6], [6]), ([1, 7], [1, 7]), ([8], [8]), ([9], [9]), ([9], [9]), ([10, 8, 0, 1, 2, 3, 4, 5, 6, 7, 8, 9, 10], [10]), ([11, 12, 0, 1, 2, 3, 4, 5, 6, 7, 8, 9, 10, 11, 12], [11])])
def spec_DeltaOf.B13 : List Nat := [0, 1, 0, 4, 0, 28, 60, 124, 255, 511, 1023, 1023, 2047, 8191]
theorem spec_DeltaOf.tab13 : rtab .any (opsOf Try.f7 13) = spec_DeltaOf.T13 := by kernel_rfl
theorem spec_DeltaOf.bits13 : waitsOk spec_DeltaOf.T13.2 spec_DeltaOf.B13 = true := by kernel_rfl
def spec_DeltaOf.T14 : Bool × List (List Nat × List Nat) := (true, [([], []), ([0], [0]), ([1], [1]), ([2], [2]), ([3, 2], [2, 3]), ([2], [2]), ([4, 5, 2], [2, 4, 5]), ([6, 2], [2, 6]), ([2], [2]), ([8, 2], [2, 8]), ([2], [2]), ([9, 10, 2], [2, 9, 10]), ([11, 2], [2, 11]), ([7, 12, 2], [2, 7, 12]), ([2, 13], [2, 13])])
def spec_DeltaOf.B14 : List Nat := [0, 1, 3, 7, 15, 7, 63, 127, 7, 263, 7, 1799, 3847, 8191, 16383]
theorem spec_DeltaOf.tab14 : rtab .any (opsOf Try.f7 14) = spec_DeltaOf.T14 := by kernel_rfl
theorem spec_DeltaOf.bits14 : waitsOk spec_DeltaOf.T14.2 spec_DeltaOf.B14 = true := by kernel_rfl
def spec_DeltaOf.T15 : Bool × List (List Nat × List Nat) := (true, [([], []), ([0], [0]), ([], []), ([2], [2]), ([], []), ([3, 4], [3, 4]), ([5], [5]), ([6], [6]), ([1, 7], [1, 7]), ([0, 1, 2, 3, 4, 5, 6, 7, 8], []), ([9, 8, 8, 0, 1, 2, 3, 4, 5, 6, 7, 8], [8, 9])])
def spec_DeltaOf.B15 : List Nat := [0, 1, 0, 4, 0, 28, 60, 124, 255, 511, 1023]
theorem spec_DeltaOf.tab15 : rtab .any (opsOf Try.f7 15) = spec_DeltaOf.T15 := by kernel_rfl
theorem spec_DeltaOf.bits15 : waitsOk spec_DeltaOf.T15.2 spec_DeltaOf.B15 = true := by kernel_rfl
theorem spec_DeltaOf.calls (k : Nat) (A0_0 : Option Addr) (c0_0 : Nat) (l0_0 : List (S73)) (A0_1 : Option Addr) (c0_1 : Nat) (l0_1 : List (S66)) (A1_0 : Option Addr) (c1_0 : Nat) (l1_0 : List (S73)) (A1_1 : Option Addr) (c1_1 : Nat) (l1_1 : List (S66)) (r1 : List ByteArray) (r2 : List (S66)) (r3 : Bool) (r4 : List (S73)) (w : World) (hr0_0 : Kd.C k73 w A0_0 l0_0.length l0_0) (hc0_0 : l0_0.length ≤ c0_0) (hr0_1 : Kd.C k66 w A0_1 l0_1.length l0_1) (hc0_1 : l0_1.length ≤ c0_1) (hr1_0 : Kd.C k73 w A1_0 l1_0.length l1_0) (hc1_0 : l1_0.length ≤ c1_0) (hr1_1 : Kd.C k66 w A1_1 l1_1.length l1_1) (hc1_1 : l1_1.length ≤ c1_1) (h : spec_DeltaOf.f k l0_0 l0_1 l1_0 l1_1 = some (r1, r2, r3, r4)) :
  Calls Try.prog 7 #[.agg #[.slice A0_0 l0_0.length c0_0, .slice A0_1 l0_1.length c0_1], .agg #[.slice A1_0 l1_0.length c1_0, .slice A1_1 l1_1.length c1_1]] w fun e w' => ∃ v0_ v1_ v3_ : Value, e = .returned (.agg #[v0_, v1_, .bool r3, v3_]) ∧ Kd.R Kd.string 9 w' w.heap.size (fun _ => True) v0_ r1 ∧ Kd.R k66 66 w' w.heap.size (fun _ => True) v1_ r2 ∧ Kd.R k73 73 w' w.heap.size (fun _ => True) v3_ r4 ∧ Below w.heap.size w w' := by
 have hu34 := Try.underlying34; have hu31 := Try.underlying31; have hu66 := Try.underlying66; have HR0_0 := am hr0_0; have HC0_0 := am hc0_0; clear hr0_0 hc0_0; have HR0_1 := am hr0_1; have HC0_1 := am hc0_1; clear hr0_1 hc0_1; have HR1_0 := am hr1_0; have HC1_0 := am hc1_0; clear hr1_0 hc1_0; have HR1_1 := am hr1_1; have HC1_1 := am hc1_1; clear hr1_1 hc1_1; have HB := am (Below.refl w.heap.size w)
 have H : ((spec_BookOk.f k l0_0 l0_1).bind fun t139 => (if t139 = true then ((spec_BookOk.f k l1_0 l1_1).bind fun t140 => (spec_DeltaOf.j0 k (!t140) l0_0 l0_1 l1_0 l1_1 false)) else (spec_DeltaOf.j0 k true l0_0 l0_1 l1_0 l1_1 false))) = some (r1, r2, r3, r4) := h
 clear h; have HC3 := am H; clear H; go_enter Try.func7, Try.ntmps7
 go_upto_region 2 with (first | ((with_reducible refine gate_dst (N := 2) rfl ?_); refine bx 2 (cs := #[.slice A0_0 l0_0.length c0_0, .slice A0_1 l0_1.length c0_1]) (t := 34) ?_; intro gb135 hg w4 hbox hb; have BK135 := am (hbox); have GW135 := am ((b5_ : w.heap.size ≤ gb135)); have GE135 := am ((b5_ : w.heap.size ≤ gb135)); replace HB := am (below_step bel hb); clear hb hbox hg) | ((with_reducible refine gate_dst (N := 3) rfl ?_); refine bx 3 (cs := #[.slice A1_0 l1_0.length c1_0, .slice A1_1 l1_1.length c1_1]) (t := 34) ?_; intro gb136 hg w5 hbox hb; have BK136 := am (hbox); have GW136 := am ((by rw [hg]; exact (below_size (bel1 GE135.out)) : w.heap.size ≤ gb136)); have GE136 := am ((by rw [hg]; exact (below_size (bel1 GE135.out)) : w.heap.size ≤ gb136)); replace HB := am (below_step (bel1 GE135.out) hb); have NB135_136 := am ((b74_ : gb135 ≠ gb136)); have NB136_135 := am ((b75_ : gb136 ≠ gb135)); replace BK135 := am (blk_below (bq BK135.out) hb); clear hb hbox hg) | ((with_reducible refine gate_dst (N := 4) rfl ?_); refine bx 4 (cs := #[.slice none 0 0, .slice none 0 0, .bool false, .slice none 0 0]) (t := 31) ?_; intro gb137 hg w6 hbox hb; have BK137 := am (hbox); have GW137 := am ((by rw [hg]; exact (below_size (bel2 GE135.out GE136.out)) : w.heap.size ≤ gb137)); have GE137 := am ((by rw [hg]; exact (below_size (bel2 GE135.out GE136.out)) : w.heap.size ≤ gb137)); replace HB := am (below_step (bel2 GE135.out GE136.out) hb); have NB135_137 := am ((b74_ : gb135 ≠ gb137)); have NB137_135 := am ((b75_ : gb137 ≠ gb135)); replace BK135 := am (blk_below (bq BK135.out) hb); have NB136_137 := am ((b96_ : gb136 ≠ gb137)); have NB137_136 := am ((b97_ : gb137 ≠ gb136)); replace BK136 := am (blk_below (bq BK136.out) hb); clear hb hbox hg) | ((with_reducible refine gate_dst (N := 5) rfl ?_); refine bx 5 (cs := #[.slice none 0 0, .slice none 0 0, .bool false, .slice none 0 0]) (t := 31) ?_; intro gb138 hg w7 hbox hb; have BK138 := am (hbox); have GW138 := am ((by rw [hg]; exact (below_size (bel3 GE135.out GE136.out GE137.out)) : w.heap.size ≤ gb138)); have GE138 := am ((by rw [hg]; exact (below_size (bel3 GE135.out GE136.out GE137.out)) : w.heap.size ≤ gb138)); replace HB := am (below_step (bel3 GE135.out GE136.out GE137.out) hb); have NB135_138 := am ((b74_ : gb135 ≠ gb138)); have NB138_135 := am ((b75_ : gb138 ≠ gb135)); replace BK135 := am (blk_below (bq BK135.out) hb); have NB136_138 := am ((b96_ : gb136 ≠ gb138)); have NB138_136 := am ((b97_ : gb138 ≠ gb136)); replace BK136 := am (blk_below (bq BK136.out) hb); have NB137_138 := am ((by rw [hg]; exact Nat.ne_of_lt (blk_lt (g := gb137) (o := .cells #[.slice none 0 0, .slice none 0 0, .bool false, .slice none 0 0] 31 (0, 0)) (bq BK137.out)) : gb137 ≠ gb138)); have NB138_137 := am ((by rw [hg]; exact Nat.ne_of_gt (blk_lt (g := gb137) (o := .cells #[.slice none 0 0, .slice none 0 0, .bool false, .slice none 0 0] 31 (0, 0)) (bq BK137.out)) : gb138 ≠ gb137)); replace BK137 := am (blk_below (bq BK137.out) hb); clear hb hbox hg; have hnb8 := NB138_135.out; have hnc8 := NB135_138.out; have hnb9 := NB138_136.out; have hnc9 := NB136_138.out; have hnb10 := NB138_137.out; have hnc10 := NB137_138.out; have ⟨hcz11_0, hcz11_1, hcz11_2, hcz11_3, hfz11_0, hfz11_1, hfz11_2, hfz11_3⟩ := b4c BK138.out))
 (try simp only [Act.put, List.setIfInBounds_toArray, List.set_cons_zero, List.set_cons_succ])
 go_cut [20] (fun v20 wc => ∃ (kq : Nat) (x20_2 : Bool), v20 = .bool x20_2 ∧ Aside0 (spec_DeltaOf.j0 kq x20_2 l0_0 l0_1 l1_0 l1_1 false = some (r1, r2, r3, r4)) ∧ Aside0 (kq ≤ k) ∧ Aside0 (wc.heap[gb135]? = some (.cells #[(.slice A0_0 l0_0.length c0_0), (.slice A0_1 l0_1.length c0_1)] 34 (0, 0))) ∧ Aside0 (wc.heap[gb136]? = some (.cells #[(.slice A1_0 l1_0.length c1_0), (.slice A1_1 l1_1.length c1_1)] 34 (0, 0))) ∧ Aside0 (wc.heap[gb137]? = some (.cells #[(.slice none 0 0), (.slice none 0 0), .bool false, (.slice none 0 0)] 31 (0, 0))) ∧ Aside0 (wc.heap[gb138]? = some (.cells #[(.slice none 0 0), (.slice none 0 0), .bool false, (.slice none 0 0)] 31 (0, 0))) ∧ Aside0 (Below w.heap.size w wc))
 case first =>
  have H := HC3.out; clear HC3; replace H := bs H; obtain ⟨t139, A120, H⟩ := H; (try dsimp only at H); have A12 := Aside0.mk A120; clear A120
  by_cases c13 : t139 = true
  ·subst c13
   rw [if_pos rfl] at H
   replace H := bs H; obtain ⟨t140, A140, H⟩ := H; (try dsimp only at H); have A14 := Aside0.mk A140; clear A140
   have H' := am H
   clear H; have hnb15 := NB135_136.out; have hnc15 := NB136_135.out; have hnb16 := NB135_137.out; have hnc16 := NB137_135.out; have hnb17 := NB135_138.out; have hnc17 := NB138_135.out; have ⟨hcz18_0, hcz18_1, hfz18_0, hfz18_1⟩ := b2c BK135.out
   go_wp2_with (first | ((with_reducible refine gate_callee (f := 17) rfl ?_); refine gl 14 Try.func17 #[.agg #[.slice A0_0 l0_0.length c0_0, .slice A0_1 l0_1.length c0_1]] ?_; (with_reducible refine (spec_BookOk.calls k _ _ l0_0 _ _ l0_1 true _ ?side1 ?side2 ?side3 ?side4 A12.out).mono ?_); (case side1 => exact Kd.C_below HR0_0.out b2_); (case side2 => exact HC0_0.out); (case side3 => exact Kd.C_below HR0_1.out b2_); (case side4 => exact HC0_1.out); rintro e w19 ⟨rfl, hb⟩; refine ⟨_, rfl, ?_⟩; replace BK135 := am (blk_below (g := gb135) (o := .cells #[.slice A0_0 l0_0.length c0_0, .slice A0_1 l0_1.length c0_1] 34 (0, 0)) b23_ hb); replace BK136 := am (blk_below (g := gb136) (o := .cells #[.slice A1_0 l1_0.length c1_0, .slice A1_1 l1_1.length c1_1] 34 (0, 0)) b24_ hb); replace BK137 := am (blk_below (g := gb137) (o := .cells #[.slice none 0 0, .slice none 0 0, .bool false, .slice none 0 0] 31 (0, 0)) b25_ hb); replace BK138 := am (blk_below (g := gb138) (o := .cells #[.slice none 0 0, .slice none 0 0, .bool false, .slice none 0 0] 31 (0, 0)) b18_ hb); replace HB := am (below_step b2_ hb); clear hb; have hnb20 := NB136_137.out; have hnc20 := NB137_136.out; have hnb21 := NB136_138.out; have hnc21 := NB138_136.out; have ⟨hcz22_0, hcz22_1, hfz22_0, hfz22_1⟩ := b2c BK136.out) | (go_at_call 17; (with_reducible refine (spec_BookOk.calls k _ _ l1_0 _ _ l1_1 t140 _ ?side1 ?side2 ?side3 ?side4 A14.out).mono ?_); (case side1 => exact cq (Kd.C_below HR1_0.out HB.out)); (case side2 => exact HC1_0.out); (case side3 => exact cq (Kd.C_below HR1_1.out HB.out)); (case side4 => exact HC1_1.out); rintro e w23 ⟨rfl, hb⟩; replace BK135 := am (blk_below (bq BK135.out) hb); replace BK136 := am (blk_below (bq BK136.out) hb); replace BK137 := am (blk_below (bq BK137.out) hb); replace BK138 := am (blk_below (bq BK138.out) hb); replace HB := am (below_step b2_ hb); clear hb))
   go_meet
   case rel => exact ⟨_, (!t140), sq, H', ⟨b78_⟩, ⟨bq BK135.out⟩, ⟨bq BK136.out⟩, ⟨bq BK137.out⟩, ⟨bq BK138.out⟩, ⟨b2_⟩⟩
  replace c13 := Bool.eq_false_iff.mpr c13; subst c13
  rw [if_neg Bool.false_ne_true] at H
  have H' := am H
  clear H; have hnb24 := NB135_136.out; have hnc24 := NB136_135.out; have hnb25 := NB135_137.out; have hnc25 := NB137_135.out; have hnb26 := NB135_138.out; have hnc26 := NB138_135.out; have ⟨hcz27_0, hcz27_1, hfz27_0, hfz27_1⟩ := b2c BK135.out
  go_wp2_with (first | ((with_reducible refine gate_callee (f := 17) rfl ?_); refine gl 14 Try.func17 #[.agg #[.slice A0_0 l0_0.length c0_0, .slice A0_1 l0_1.length c0_1]] ?_; (with_reducible refine (spec_BookOk.calls k _ _ l0_0 _ _ l0_1 false _ ?side1 ?side2 ?side3 ?side4 A12.out).mono ?_); (case side1 => exact Kd.C_below HR0_0.out b2_); (case side2 => exact HC0_0.out); (case side3 => exact Kd.C_below HR0_1.out b2_); (case side4 => exact HC0_1.out); rintro e w28 ⟨rfl, hb⟩; refine ⟨_, rfl, ?_⟩; replace BK135 := am (blk_below (g := gb135) (o := .cells #[.slice A0_0 l0_0.length c0_0, .slice A0_1 l0_1.length c0_1] 34 (0, 0)) b23_ hb); replace BK136 := am (blk_below (g := gb136) (o := .cells #[.slice A1_0 l1_0.length c1_0, .slice A1_1 l1_1.length c1_1] 34 (0, 0)) b24_ hb); replace BK137 := am (blk_below (g := gb137) (o := .cells #[.slice none 0 0, .slice none 0 0, .bool false, .slice none 0 0] 31 (0, 0)) b25_ hb); replace BK138 := am (blk_below (g := gb138) (o := .cells #[.slice none 0 0, .slice none 0 0, .bool false, .slice none 0 0] 31 (0, 0)) b18_ hb); replace HB := am (below_step b2_ hb); clear hb))
  go_meet
  case rel => exact ⟨_, (true), sq, H', ⟨b78_⟩, ⟨bq BK135.out⟩, ⟨bq BK136.out⟩, ⟨bq BK137.out⟩, ⟨bq BK138.out⟩, ⟨b2_⟩⟩
 case rest =>
  clear HC3; (try clear c1); (try clear c2); (try clear p2); (try clear c7); (try clear c8); (try clear c9); (try clear c10); (try clear c13); (try clear c15); (try clear c16); (try clear c17); (try clear c20); (try clear c21); (try clear c24); (try clear c25); (try clear c26); (try clear hcz11_0); (try clear hcz11_1); (try clear hcz11_2); (try clear hcz11_3); (try clear hcz18_0); (try clear hcz18_1); (try clear hcz22_0); (try clear hcz22_1); (try clear hcz27_0); (try clear hcz27_1); (try clear hfz11_0); (try clear hfz11_1); (try clear hfz11_2); (try clear hfz11_3); (try clear hfz18_0); (try clear hfz18_1); (try clear hfz22_0); (try clear hfz22_1); (try clear hfz27_0); (try clear hfz27_1); obtain ⟨kq, x20_2, rfl, HA, HJ2, BK135, BK136, BK137, BK138, HB⟩ := hcut
  cases kq with
  | zero => exact absurd HA.out (by simp [spec_DeltaOf.j0])
  | succ kj2 =>
   have H := HA.out; clear HA; simp only [spec_DeltaOf.j0] at H
   by_cases c29 : x20_2 = true
   ·subst c29
    rw [if_pos rfl] at H; simp only [Option.some.injEq, Prod.mk.injEq] at H
    obtain ⟨rfl, rfl, rfl, rfl⟩ := H; have hnb30 := NB138_135.out; have hnc30 := NB135_138.out; have hnb31 := NB138_136.out; have hnc31 := NB136_138.out; have hnb32 := NB138_137.out; have hnc32 := NB137_138.out; have ⟨hcz33_0, hcz33_1, hcz33_2, hcz33_3, hfz33_0, hfz33_1, hfz33_2, hfz33_3⟩ := b4c BK138.out; have hnb34 := NB137_135.out; have hnc34 := NB135_137.out; have hnb35 := NB137_136.out; have hnc35 := NB136_137.out; have ⟨hcz36_0, hcz36_1, hcz36_2, hcz36_3, hfz36_0, hfz36_1, hfz36_2, hfz36_3⟩ := b4c BK137.out; go_wp2
    refine bodyPost_ret (results_cell_row rfl _ _ gb137 31 #[.slice none 0 0, .slice none 0 0, .bool false, .slice none 0 0] (0, 0) _ rfl (by (with_reducible repeat (first | refine blk_drewN ?_ _ | refine blk_drew ?_ | refine blk_alloc ?_ _)); refine blk_put (cs := #[.slice none 0 0, .slice none 0 0, .bool false, .slice none 0 0]) ?_ 3 _ rfl; (with_reducible repeat (first | refine blk_drewN ?_ _ | refine blk_drew ?_ | refine blk_alloc ?_ _)); refine blk_put (cs := #[.slice none 0 0, .slice none 0 0, .bool false, .slice none 0 0]) ?_ 2 _ rfl; (with_reducible repeat (first | refine blk_drewN ?_ _ | refine blk_drew ?_ | refine blk_alloc ?_ _)); refine blk_put (cs := #[.slice none 0 0, .slice none 0 0, .bool false, .slice none 0 0]) ?_ 1 _ rfl; (with_reducible repeat (first | refine blk_drewN ?_ _ | refine blk_drew ?_ | refine blk_alloc ?_ _)); refine blk_put (cs := #[.slice none 0 0, .slice none 0 0, .bool false, .slice none 0 0]) ?_ 0 _ rfl; (with_reducible repeat (first | refine blk_drewN ?_ _ | refine blk_drew ?_ | refine blk_alloc ?_ _)); exact BK137.out) Try.underlying31 rfl (by kernel_rfl)) rfl ?_
    exact ⟨_, _, _, eq_, b26_, b26_, b26_, b2_⟩
   replace c29 := Bool.eq_false_iff.mpr c29; subst c29
   rw [if_neg Bool.false_ne_true] at H
   have H' := am H
   clear H; go_wp2
   go_loopg [6] kj2 (fun kq v6 w' => ∃ (x6_2 : Int) (x139000_2 : List ByteArray) (u139000 : Value), v6 = .int .i64 x6_2 ∧ Aside0 (spec_DeltaOf.l0 kq x6_2 l0_0 l0_1 l1_0 l1_1 x139000_2 false = some (r1, r2, r3, r4)) ∧ Aside0 (kq ≤ kj2) ∧ Aside0 (Kd.R Kd.string 9 w' w.heap.size (fun _ => True) u139000 x139000_2) ∧ Aside0 (w'.heap[gb135]? = some (.cells #[(.slice A0_0 l0_0.length c0_0), (.slice A0_1 l0_1.length c0_1)] 34 (0, 0))) ∧ Aside0 (w'.heap[gb136]? = some (.cells #[(.slice A1_0 l1_0.length c1_0), (.slice A1_1 l1_1.length c1_1)] 34 (0, 0))) ∧ Aside0 (w'.heap[gb137]? = some (.cells #[(.slice none 0 0), (.slice none 0 0), .bool false, (.slice none 0 0)] 31 (0, 0))) ∧ Aside0 (w'.heap[gb138]? = some (.cells #[u139000, (.slice none 0 0), .bool false, (.slice none 0 0)] 31 (0, 0))) ∧ Aside0 (Below w.heap.size w w'))
   case atStart => exact ⟨(0), (([] : List ByteArray)), (.slice none 0 0), sq, H', ⟨Nat.le_refl _⟩, ⟨b26_⟩, ⟨bq BK135.out⟩, ⟨bq BK136.out⟩, ⟨bq BK137.out⟩, ⟨bq BK138.out⟩, ⟨b2_⟩⟩
   case round =>
    clear H'; (try clear c1); (try clear c2); (try clear p2); (try clear c3); (try clear c7); (try clear c8); (try clear c9); (try clear c10); (try clear c13); (try clear c15); (try clear c16); (try clear c17); (try clear c20); (try clear c21); (try clear c24); (try clear c25); (try clear c26); (try clear c29); (try clear c30); (try clear c31); (try clear c32); (try clear c34); (try clear c35); (try clear hcz11_0); (try clear hcz11_1); (try clear hcz11_2); (try clear hcz11_3); (try clear hcz18_0); (try clear hcz18_1); (try clear hcz22_0); (try clear hcz22_1); (try clear hcz27_0); (try clear hcz27_1); (try clear hcz33_0); (try clear hcz33_1); (try clear hcz33_2); (try clear hcz33_3); (try clear hcz36_0); (try clear hcz36_1); (try clear hcz36_2); (try clear hcz36_3); (try clear hfz11_0); (try clear hfz11_1); (try clear hfz11_2); (try clear hfz11_3); (try clear hfz18_0); (try clear hfz18_1); (try clear hfz22_0); (try clear hfz22_1); (try clear hfz27_0); (try clear hfz27_1); (try clear hfz33_0); (try clear hfz33_1); (try clear hfz33_2); (try clear hfz33_3); (try clear hfz36_0); (try clear hfz36_1); (try clear hfz36_2); (try clear hfz36_3); (try clear p2); obtain ⟨x6_2, x139000_2, u139000, rfl, HA, HK2, HO_139000, BK135, BK136, BK137, BK138, HB⟩ := hrel
    cases gk with
    | zero => exact absurd HA.out (by simp [spec_DeltaOf.l0])
    | succ k2 =>
     have H := HA.out; clear HA; simp only [spec_DeltaOf.l0] at H
     by_cases c37 : x6_2 < (l0_1.length : Int)
     ·rw [if_pos c37] at H; have c37b0 := decide_eq_true c37; clear c37
      replace H := it H; obtain ⟨c38b0, H⟩ := H; replace H := bs H; obtain ⟨⟨t142, t143⟩, A390, H⟩ := H; dsimp only at H; have A39 := Aside0.mk A390; clear A390
      by_cases c40 : t143 = true
      ·subst c40
       rw [if_pos rfl] at H
       have H' := am H
       clear H; have hnb41 := NB135_136.out; have hnc41 := NB136_135.out; have hnb42 := NB135_137.out; have hnc42 := NB137_135.out; have hnb43 := NB135_138.out; have hnc43 := NB138_135.out; have ⟨hcz44_0, hcz44_1, hfz44_0, hfz44_1⟩ := b2c BK135.out
       try go_wp2
       replace HO_139000 := am (Kd.R_drew HO_139000.out); replace BK135 := am (blk_drew BK135.out); replace BK136 := am (blk_drew BK136.out); replace BK137 := am (blk_drew BK137.out); replace BK138 := am (blk_drew BK138.out); replace HB := am (below_drew1 HB.out)
       have p141 : 0 ≤ (x6_2 : Int) := of_decide_eq_true ad
       have q141 : x6_2 < (l0_1.length : Int) := of_decide_eq_true ad
       obtain ⟨ad141, e141, hx141_0, hx141_1⟩ := at_T66 HR0_1.out x6_2 p141 q141; have hw141_1 := hx141_1; have hw141_0 := hx141_0; cases e141; replace hx141_0 := kp HB.out hx141_0; replace hx141_1 := kp HB.out hx141_1; replace p141 := eq_true p141; replace q141 := eq_true q141
       refine st (n := 14) (S := fun w' => w'.cell? ⟨gb136, 0, none⟩ = some (.slice A1_0 l1_0.length c1_0) ∧ w'.cell? ⟨gb136, 1, none⟩ = some (.slice A1_1 l1_1.length c1_1) ∧ w'.cell? ⟨gb135, 0, none⟩ = some (.slice A0_0 l0_0.length c0_0) ∧ w'.cell? ⟨gb135, 1, none⟩ = some (.slice (some ad141) l0_1.length c0_1) ∧ w'.cell? (ad141.add ((x6_2).toNat * 2)) = some (.string ((rd_T66 l0_1 x6_2).f0)) ∧ w'.cell? ⟨(ad141.add ((x6_2).toNat * 2)).block, (ad141.add ((x6_2).toNat * 2)).off + 1, none⟩ = some (.string ((rd_T66 l0_1 x6_2).f1))) (ds := []) ⟨bd BK136.out 0, bd BK136.out 1, bd BK135.out 0, bd BK135.out 1, (kp HB.out hw141_0), (kp HB.out hw141_1)⟩ (fun hHeld => ?_); refine with_tabW spec_DeltaOf.tab7 spec_DeltaOf.bits7 (fun HT_ HW_ => ?_)
       generalize wr.drew = w45 at HO_139000 BK135 BK136 BK137 BK138 HB hx141_0 hx141_1 hHeld ⊢; refine pu 0 30 ?_; refine pu 2 32 ?_; refine pu 4 34 ?_; refine tk6 1 31 hHeld ?_; refine tk6 3 33 hHeld ?_; refine pu 5 35 ?_; refine pu 6 36 ?_; refine tk6 7 37 hHeld ?_; refine on1 8 38 (fun K hK => ?_)
       refine go1 Try.func34 #[.slice A1_1 l1_1.length c1_1, .string ((rd_T66 l0_1 x6_2).f0)] ?_
       with_reducible refine (spec_l5At.calls k2 _ _ l1_1 ((rd_T66 l0_1 x6_2).f0) t142 true _ ?side1 ?side2 A39.out).mono ?_
       (case side1 => exact cq (Kd.C_below HR1_1.out HB.out)); (case side2 => exact HC1_1.out)
       rintro e w' ⟨rfl, ⟨nd, rfl⟩⟩
       refine ⟨_, rfl, ?_⟩; refine hK.out _ _ ⟨bd BK136.out 0, bd BK136.out 1, bd BK135.out 0, bd BK135.out 1, (kp HB.out hw141_0), (kp HB.out hw141_1)⟩ (fun hHeld => ?_); clear hK K; refine nm 38 ?_; refine pu 9 29 ?_; refine pu 10 39 ?_; refine pu 11 40 ?_; refine pu 12 7 ?_; refine pu 13 8 ?_
       refine done_ (done_of HT_.out (by kernel_rfl)) ?_
       try go_wp2
       go_roundg k2
       case measure => have := HJ2.out; have := HK2.out; omega
       case rel => exact ⟨(wrap64 (x6_2 + 1)), (x139000_2), (u139000), sq, H', ⟨by have := HJ2.out; have := HK2.out; omega⟩, ⟨rq HO_139000.out⟩, ⟨bq BK135.out⟩, ⟨bq BK136.out⟩, ⟨bq BK137.out⟩, ⟨bq BK138.out⟩, ⟨b2_⟩⟩
      replace c40 := Bool.eq_false_iff.mpr c40; subst c40
      rw [if_neg Bool.false_ne_true] at H
      replace H := ip H; obtain ⟨c46, H⟩ := H; have LMc46 := Aside0.mk c46; clear c46; obtain ⟨y145, hy145⟩ : ∃ y_ : List ByteArray, y_ = (x139000_2 ++ [(rd_T66 l0_1 x6_2).f0]) := ⟨_, rfl⟩
      replace H : (spec_DeltaOf.l0 k2 (wrap64 (x6_2 + 1)) l0_0 l0_1 l1_0 l1_1 y145 false) = some (r1, r2, r3, r4) := by first | (rw [hy145]; with_reducible exact H) | (have H2_ := bm H; rw [hy145]; with_reducible exact H2_) | (with_reducible exact bm H) | with_reducible exact H | (rw [hy145]; exact H) | exact H
      have Ny145 := am hy145; clear hy145
      have H' := am H
      clear H; have hnb47 := NB135_136.out; have hnc47 := NB136_135.out; have hnb48 := NB135_137.out; have hnc48 := NB137_135.out; have hnb49 := NB135_138.out; have hnc49 := NB138_135.out; have ⟨hcz50_0, hcz50_1, hfz50_0, hfz50_1⟩ := b2c BK135.out
      try go_wp2
      replace HO_139000 := am (Kd.R_drew HO_139000.out); replace BK135 := am (blk_drew BK135.out); replace BK136 := am (blk_drew BK136.out); replace BK137 := am (blk_drew BK137.out); replace BK138 := am (blk_drew BK138.out); replace HB := am (below_drew1 HB.out)
      have p141 : 0 ≤ (x6_2 : Int) := of_decide_eq_true ad
      have q141 : x6_2 < (l0_1.length : Int) := of_decide_eq_true ad
      obtain ⟨ad141, e141, hx141_0, hx141_1⟩ := at_T66 HR0_1.out x6_2 p141 q141; have hw141_1 := hx141_1; have hw141_0 := hx141_0; cases e141; replace hx141_0 := kp HB.out hx141_0; replace hx141_1 := kp HB.out hx141_1; replace p141 := eq_true p141; replace q141 := eq_true q141
      refine st (n := 14) (S := fun w' => w'.cell? ⟨gb136, 0, none⟩ = some (.slice A1_0 l1_0.length c1_0) ∧ w'.cell? ⟨gb136, 1, none⟩ = some (.slice A1_1 l1_1.length c1_1) ∧ w'.cell? ⟨gb135, 0, none⟩ = some (.slice A0_0 l0_0.length c0_0) ∧ w'.cell? ⟨gb135, 1, none⟩ = some (.slice (some ad141) l0_1.length c0_1) ∧ w'.cell? (ad141.add ((x6_2).toNat * 2)) = some (.string ((rd_T66 l0_1 x6_2).f0)) ∧ w'.cell? ⟨(ad141.add ((x6_2).toNat * 2)).block, (ad141.add ((x6_2).toNat * 2)).off + 1, none⟩ = some (.string ((rd_T66 l0_1 x6_2).f1))) (ds := []) ⟨bd BK136.out 0, bd BK136.out 1, bd BK135.out 0, bd BK135.out 1, (kp HB.out hw141_0), (kp HB.out hw141_1)⟩ (fun hHeld => ?_); refine with_tabW spec_DeltaOf.tab7 spec_DeltaOf.bits7 (fun HT_ HW_ => ?_)
      generalize wr.drew = w51 at HO_139000 BK135 BK136 BK137 BK138 HB hx141_0 hx141_1 hHeld ⊢; refine pu 0 30 ?_; refine pu 2 32 ?_; refine pu 4 34 ?_; refine tk6 1 31 hHeld ?_; refine tk6 3 33 hHeld ?_; refine pu 5 35 ?_; refine pu 6 36 ?_; refine tk6 7 37 hHeld ?_; refine on1 8 38 (fun K hK => ?_)
      refine go1 Try.func34 #[.slice A1_1 l1_1.length c1_1, .string ((rd_T66 l0_1 x6_2).f0)] ?_
      with_reducible refine (spec_l5At.calls k2 _ _ l1_1 ((rd_T66 l0_1 x6_2).f0) t142 false _ ?side1 ?side2 A39.out).mono ?_
      (case side1 => exact cq (Kd.C_below HR1_1.out HB.out)); (case side2 => exact HC1_1.out)
      rintro e w' ⟨rfl, ⟨nd, rfl⟩⟩
      refine ⟨_, rfl, ?_⟩; refine hK.out _ _ ⟨bd BK136.out 0, bd BK136.out 1, bd BK135.out 0, bd BK135.out 1, (kp HB.out hw141_0), (kp HB.out hw141_1)⟩ (fun hHeld => ?_); clear hK K; refine nm 38 ?_; refine pu 9 29 ?_; refine pu 10 39 ?_; refine pu 11 40 ?_; refine pu 12 7 ?_; refine pu 13 8 ?_
      refine done_ (done_of HT_.out (by kernel_rfl)) ?_
      try go_wp2
      (try (rw [drewN_self w51]; generalize hq_ : World.drewN w51 _ = w51; have n0_ : Aside0 (Kd.R Kd.string 9 w51 w.heap.size (fun _ => True) u139000 x139000_2) := ⟨by rw [← hq_]; exact (rq HO_139000.out)⟩; have n1_ : Aside0 (w51.heap[gb135]? = some (.cells #[.slice A0_0 l0_0.length c0_0, .slice (some ad141) l0_1.length c0_1] 34 (0, 0))) := ⟨by rw [← hq_]; exact (bq BK135.out)⟩; have n2_ : Aside0 (w51.heap[gb136]? = some (.cells #[.slice A1_0 l1_0.length c1_0, .slice A1_1 l1_1.length c1_1] 34 (0, 0))) := ⟨by rw [← hq_]; exact (bq BK136.out)⟩; have n3_ : Aside0 (w51.heap[gb137]? = some (.cells #[.slice none 0 0, .slice none 0 0, .bool false, .slice none 0 0] 31 (0, 0))) := ⟨by rw [← hq_]; exact (bq BK137.out)⟩; have n4_ : Aside0 (w51.heap[gb138]? = some (.cells #[u139000, .slice none 0 0, .bool false, .slice none 0 0] 31 (0, 0))) := ⟨by rw [← hq_]; exact (bq BK138.out)⟩; have n5_ : Aside0 (Below w.heap.size w w51) := ⟨b34_⟩; clear HO_139000 BK135 BK136 BK137 BK138 HB hq_; have HO_139000 := n0_; have BK135 := n1_; have BK136 := n2_; have BK137 := n3_; have BK138 := n4_; have HB := n5_; clear n0_ n1_ n2_ n3_ n4_ n5_))
      replace HO_139000 := am (Kd.R_drew HO_139000.out); replace BK135 := am (blk_drew BK135.out); replace BK136 := am (blk_drew BK136.out); replace BK137 := am (blk_drew BK137.out); replace BK138 := am (blk_drew BK138.out); replace HB := am (below_drew1 HB.out)
      have p144 : 0 ≤ (x6_2 : Int) := of_decide_eq_true ad
      have q144 : x6_2 < (l0_1.length : Int) := of_decide_eq_true ad
      obtain ⟨ad144, e144, hx144_0, hx144_1⟩ := at_T66 HR0_1.out x6_2 p144 q144; have hw144_1 := hx144_1; have hw144_0 := hx144_0
      obtain rfl : ad141 = ad144 := (by injection e144)
      replace hx144_0 := kp HB.out hx144_0; replace hx144_1 := kp HB.out hx144_1; replace p144 := eq_true p144; replace q144 := eq_true q144
      refine start_ (n := 12) (S := fun w' => w'.cell? ⟨gb138, 0, none⟩ = some (u139000) ∧ w'.cell? ⟨gb138, 1, none⟩ = some (.slice none 0 0) ∧ w'.cell? ⟨gb138, 2, none⟩ = some (.bool false) ∧ w'.cell? ⟨gb138, 3, none⟩ = some (.slice none 0 0) ∧ w'.cell? ⟨gb135, 0, none⟩ = some (.slice A0_0 l0_0.length c0_0) ∧ w'.cell? ⟨gb135, 1, none⟩ = some (.slice (some ad141) l0_1.length c0_1) ∧ w'.cell? (ad141.add ((x6_2).toNat * 2)) = some (.string ((rd_T66 l0_1 x6_2).f0)) ∧ w'.cell? ⟨(ad141.add ((x6_2).toNat * 2)).block, (ad141.add ((x6_2).toNat * 2)).off + 1, none⟩ = some (.string ((rd_T66 l0_1 x6_2).f1))) (ds := [11]) #[false, false, false, false, false, false, false, false, false, false, false, false] (by kernel_rfl) rfl rfl ⟨bd BK138.out 0, bd BK138.out 1, bd BK138.out 2, bd BK138.out 3, bd BK135.out 0, bd BK135.out 1, (kp HB.out hw144_0), (kp HB.out hw144_1)⟩ (fun hHeld => ?_); refine with_tabW spec_DeltaOf.tab9 spec_DeltaOf.bits9 (fun HT_ HW_ => ?_)
      generalize w51.drew = w52 at HO_139000 BK135 BK136 BK137 BK138 HB hx144_0 hx144_1 hHeld ⊢; refine pu 0 43 ?_; refine pu 2 45 ?_; refine pu 4 47 ?_
      refine take_ (i := 1) (N := some 44) (v := ?_) (a' := ?_) #[true, true, true, false, true, false, false, false, false, false, false, false] rfl rfl (take_ofW HT_.out HW_.out (by kernel_rfl)) (fun _ _ _ h => h) (Or.inl ⟨by rfl, ?_⟩) hHeld ?_ ?_
      rotate_left
      ·rintro w' ⟨s0, s1, s2, s3, s4, s5, s6, s7⟩
       go_simp
       with_reducible rfl
      rotate_left
      ·simp only [Act.put, List.setIfInBounds_toArray, List.set_cons_zero, List.set_cons_succ, i64_w, i32_w]
       rfl
      refine take_ (i := 3) (N := some 46) (v := ?_) (a' := ?_) #[true, true, true, true, true, false, false, false, false, false, false, false] rfl rfl (take_ofW HT_.out HW_.out (by kernel_rfl)) (fun _ _ _ h => h) (Or.inl ⟨by rfl, ?_⟩) hHeld ?_ ?_
      rotate_left
      ·rintro w' ⟨s0, s1, s2, s3, s4, s5, s6, s7⟩
       go_simp
       with_reducible rfl
      rotate_left
      ·simp only [Act.put, List.setIfInBounds_toArray, List.set_cons_zero, List.set_cons_succ, i64_w, i32_w]
       rfl
      refine pu 5 48 ?_; refine pu 6 49 ?_
      refine take_ (i := 7) (N := some 50) (v := ?_) (a' := ?_) #[true, true, true, true, true, true, true, true, false, false, false, false] rfl rfl (take_ofW HT_.out HW_.out (by kernel_rfl)) (fun _ _ _ h => h) (Or.inl ⟨by rfl, ?_⟩) hHeld ?_ ?_
      rotate_left
      ·rintro w' ⟨s0, s1, s2, s3, s4, s5, s6, s7⟩
       go_simp
       with_reducible rfl
      rotate_left
      ·simp only [Act.put, List.setIfInBounds_toArray, List.set_cons_zero, List.set_cons_succ, i64_w, i32_w]
       rfl
      refine on1 8 51 (fun K hK => ?_)
      refine value_ (w1 := ?_) (v := ?_) (by rfl) rfl ?_ ?_
      rotate_left 2
      ·go_simp
       constructor
       ·rfl
       ·rfl
      refine hK.out _ _ ⟨bd (blk_alloc BK138.out _) 0, bd (blk_alloc BK138.out _) 1, bd (blk_alloc BK138.out _) 2, bd (blk_alloc BK138.out _) 3, bd (blk_alloc BK135.out _) 0, bd (blk_alloc BK135.out _) 1, (World.cell?_alloc_lt _ _ _ (World.block_lt_of_cell? _ _ ((kp HB.out hw144_0)))).trans ((kp HB.out hw144_0)), (World.cell?_alloc_lt _ _ _ (World.block_lt_of_cell? _ _ ((kp HB.out hw144_1)))).trans ((kp HB.out hw144_1))⟩ (fun hHeld => ?_); clear hK K; refine nm 51 ?_; refine on1 9 52 (fun K hK => ?_)
      refine Kd.R_append_step Kd.string (w0 := w) w.heap.size (by rfl) (.tmp 44) (.tmp 51) 27 9 (.string ⟨#[]⟩) 16 rfl Try.underlying27 info9 rfl (by decide) (by omega) u139000 x139000_2 ((rd_T66 l0_1 x6_2).f0) [.string ((rd_T66 l0_1 x6_2).f0)] (fun _ => True) (fun _ => False) rfl rfl ?aP (fun _ hk => hk.elim) ?aF ?aO ?aB ?aS ?aL ?_
      (case aP => exact rfl); (case aB => exact b2_); (case aF => exact (fun _ _ => trivial)); (case aO => exact (rq HO_139000.out)); (case aS => exact (below_size b2_)); (case aL => have := LMc46.out; omega); intro v146 w53 ho hb hg hat; rw [← Ny145.out] at ho
      replace BK135 := am (blk_grown (g := gb135) (o := .cells #[.slice A0_0 l0_0.length c0_0, .slice (some ad141) l0_1.length c0_1] 34 (0, 0)) (bq BK135.out) hg (Kd.R_ne HO_139000.out BK135.out (by decide))); replace BK136 := am (blk_grown (g := gb136) (o := .cells #[.slice A1_0 l1_0.length c1_0, .slice A1_1 l1_1.length c1_1] 34 (0, 0)) (bq BK136.out) hg (Kd.R_ne HO_139000.out BK136.out (by decide))); replace BK137 := am (blk_grown (g := gb137) (o := .cells #[.slice none 0 0, .slice none 0 0, .bool false, .slice none 0 0] 31 (0, 0)) (bq BK137.out) hg (Kd.R_ne HO_139000.out BK137.out (by decide))); replace BK138 := am (blk_grown (g := gb138) (o := .cells #[u139000, .slice none 0 0, .bool false, .slice none 0 0] 31 (0, 0)) (bq BK138.out) hg (Kd.R_ne HO_139000.out BK138.out (by decide))); replace HB := am (hb); have HO147 := am (ho); clear HO_139000; clear ho hb hg hat; obtain ⟨Ao54, co54, eo54⟩ := Kd.R_slice HO147.out
      (first | subst eo54 | (injection eo54 with f1_ f2_ f3_; have f4_ := f1_.symm; have f5_ := f3_.symm; clear f1_ f2_ f3_; subst f4_; subst f5_))
      refine hK.out _ _ ⟨bd BK138.out 0, bd BK138.out 1, bd BK138.out 2, bd BK138.out 3, bd BK135.out 0, bd BK135.out 1, (kp HB.out hw144_0), (kp HB.out hw144_1)⟩ (fun hHeld => ?_); clear hK K; refine nm 52 ?_; refine pu 10 53 ?_
      refine last_ (i := 11) (N := none) #[true, true, true, true, true, true, true, true, true, true, true, true] rfl rfl (one_of HT_.out (by kernel_rfl)) (by decide) (fun K hK => ?_)
      have hs55 : w53.cell? ⟨gb138, 0, none⟩ = some (u139000) := bd BK138.out 0
      have hfs55 := bf BK138.out 0; have hns55_0 := NB135_138.out; have hns55_1 := NB136_138.out; have hns55_2 := NB137_138.out; have hms55_0 := NB138_135.out; have hms55_1 := NB138_136.out; have hms55_2 := NB138_137.out
      refine skip_ (w1 := ?_) (by rfl) rfl ?_ ?_
      rotate_left
      ·go_simp
       rfl
      refine hK.out _ _ ?_; clear hK K
      refine done_ (done_of HT_.out (by kernel_rfl)) ?_
      try go_wp2
      go_roundg k2
      case measure => have := HJ2.out; have := HK2.out; omega
      case rel => exact ⟨(wrap64 (x6_2 + 1)), (y145), (.slice Ao54 y145.length co54), sq, H', ⟨by have := HJ2.out; have := HK2.out; omega⟩, ⟨rq (Kd.R_mono (Kd.R_far (p := ⟨gb138, 0, none⟩) (Kd.R_types HO147.out BK138.out (by decide)) (fun _ hk => hk.2) (.slice Ao54 y145.length co54)) (fun _ hk => trivial))⟩, ⟨b50_⟩, ⟨b51_⟩, ⟨b52_⟩, ⟨by (with_reducible repeat (first | refine blk_drewN ?_ _ | refine blk_drew ?_ | refine blk_alloc ?_ _)); refine blk_put (cs := #[u139000, .slice none 0 0, .bool false, .slice none 0 0]) ?_ 0 _ rfl; (with_reducible repeat (first | refine blk_drewN ?_ _ | refine blk_drew ?_ | refine blk_alloc ?_ _)); exact BK138.out⟩, ⟨b2_⟩⟩
     rw [if_neg c37] at H; have c37b0 := decide_eq_false c37; clear c37
     have H' := am H
     clear H; have hnb56 := NB135_136.out; have hnc56 := NB136_135.out; have hnb57 := NB135_137.out; have hnc57 := NB137_135.out; have hnb58 := NB135_138.out; have hnc58 := NB138_135.out; have ⟨hcz59_0, hcz59_1, hfz59_0, hfz59_1⟩ := b2c BK135.out; go_wp2
     go_loopg [9] k2 (fun kq v9 w' => ∃ (x9_3 : Int) (x139001_3 : List (S66)) (u139001 : Value), v9 = .int .i64 x9_3 ∧ Aside0 (spec_DeltaOf.l1 kq x9_3 l0_0 l0_1 l1_0 l1_1 x139000_2 x139001_3 false = some (r1, r2, r3, r4)) ∧ Aside0 (kq ≤ k2) ∧ Aside0 (Kd.R Kd.string 9 w' w.heap.size (fun _ => True) u139000 x139000_2) ∧ Aside0 (Kd.R k66 66 w' w.heap.size (fun _ => True) u139001 x139001_3) ∧ Aside0 (w'.heap[gb135]? = some (.cells #[(.slice A0_0 l0_0.length c0_0), (.slice A0_1 l0_1.length c0_1)] 34 (0, 0))) ∧ Aside0 (w'.heap[gb136]? = some (.cells #[(.slice A1_0 l1_0.length c1_0), (.slice A1_1 l1_1.length c1_1)] 34 (0, 0))) ∧ Aside0 (w'.heap[gb137]? = some (.cells #[(.slice none 0 0), (.slice none 0 0), .bool false, (.slice none 0 0)] 31 (0, 0))) ∧ Aside0 (w'.heap[gb138]? = some (.cells #[u139000, u139001, .bool false, (.slice none 0 0)] 31 (0, 0))) ∧ Aside0 (Below w.heap.size w w'))
     case atStart => exact ⟨(0), (([] : List (S66))), (.slice none 0 0), sq, H', ⟨Nat.le_refl _⟩, ⟨rq HO_139000.out⟩, ⟨b26_⟩, ⟨bq BK135.out⟩, ⟨bq BK136.out⟩, ⟨bq BK137.out⟩, ⟨bq BK138.out⟩, ⟨b2_⟩⟩
     case round =>
      clear H'; (try clear c1); (try clear p1); (try clear q1); (try clear hx1); (try clear p2); (try clear c3); (try clear c4); (try clear c5); (try clear p6); (try clear p14); (try clear q14); (try clear hx14); (try clear c34); (try clear c37); (try clear c37b0); (try clear c38); (try clear c38b0); (try clear c40); (try clear c41); (try clear c42); (try clear c43); (try clear c46); (try clear c47); (try clear c48); (try clear c49); (try clear c56); (try clear c57); (try clear c58); (try clear hcz27_1); (try clear hcz33_0); (try clear hcz33_1); (try clear hcz33_2); (try clear hcz33_3); (try clear hcz36_0); (try clear hcz36_1); (try clear hcz36_2); (try clear hcz36_3); (try clear hcz44_0); (try clear hcz44_1); (try clear hcz50_0); (try clear hcz50_1); (try clear hcz59_0); (try clear hcz59_1); (try clear hfz11_0); (try clear hfz11_1); (try clear hfz11_2); (try clear hfz11_3); (try clear hfz18_0); (try clear hfz18_1); (try clear hfz22_0); (try clear hfz22_1); (try clear hfz27_0); (try clear hfz27_1); (try clear hfz33_0); (try clear hfz33_1); (try clear hfz33_2); (try clear hfz33_3); (try clear hfz36_0); (try clear hfz36_1); (try clear hfz36_2); (try clear hfz36_3); (try clear hfz44_0); (try clear hfz44_1); (try clear hfz50_0); (try clear hfz50_1); (try clear hfz59_0); (try clear hfz59_1); (try clear hx141_0); (try clear hx141_1); (try clear hx144_0); (try clear hx144_1); (try clear p141); (try clear p144); (try clear p2); (try clear q141); (try clear q144); obtain ⟨x9_3, x139001_3, u139001, rfl, HA, HK3, HO_139000, HO_139001, BK135, BK136, BK137, BK138, HB⟩ := hrel
      cases gk with
      | zero => exact absurd HA.out (by simp [spec_DeltaOf.l1])
      | succ k3 =>
       have H := HA.out; clear HA; simp only [spec_DeltaOf.l1] at H
       by_cases c60 : x9_3 < (l1_1.length : Int)
       ·rw [if_pos c60] at H; have c60b0 := decide_eq_true c60; clear c60
        replace H := it H; obtain ⟨c61b0, H⟩ := H; replace H := bs H; obtain ⟨⟨t149, t150⟩, A620, H⟩ := H; dsimp only at H; have A62 := Aside0.mk A620; clear A620; have HC63 := am H; clear H; have hnb64 := NB136_135.out; have hnc64 := NB135_136.out; have hnb65 := NB136_137.out; have hnc65 := NB137_136.out; have hnb66 := NB136_138.out; have hnc66 := NB138_136.out; have ⟨hcz67_0, hcz67_1, hfz67_0, hfz67_1⟩ := b2c BK136.out
        try go_wp2
        replace HO_139000 := am (Kd.R_drew HO_139000.out); replace HO_139001 := am (Kd.R_drew HO_139001.out); replace BK135 := am (blk_drew BK135.out); replace BK136 := am (blk_drew BK136.out); replace BK137 := am (blk_drew BK137.out); replace BK138 := am (blk_drew BK138.out); replace HB := am (below_drew1 HB.out)
        have p148 : 0 ≤ (x9_3 : Int) := of_decide_eq_true ad
        have q148 : x9_3 < (l1_1.length : Int) := of_decide_eq_true ad
        obtain ⟨ad148, e148, hx148_0, hx148_1⟩ := at_T66 HR1_1.out x9_3 p148 q148; have hw148_1 := hx148_1; have hw148_0 := hx148_0; cases e148; replace hx148_0 := kp HB.out hx148_0; replace hx148_1 := kp HB.out hx148_1; replace p148 := eq_true p148; replace q148 := eq_true q148
        refine st (n := 14) (S := fun w' => w'.cell? ⟨gb135, 0, none⟩ = some (.slice A0_0 l0_0.length c0_0) ∧ w'.cell? ⟨gb135, 1, none⟩ = some (.slice A0_1 l0_1.length c0_1) ∧ w'.cell? ⟨gb136, 0, none⟩ = some (.slice A1_0 l1_0.length c1_0) ∧ w'.cell? ⟨gb136, 1, none⟩ = some (.slice (some ad148) l1_1.length c1_1) ∧ w'.cell? (ad148.add ((x9_3).toNat * 2)) = some (.string ((rd_T66 l1_1 x9_3).f0)) ∧ w'.cell? ⟨(ad148.add ((x9_3).toNat * 2)).block, (ad148.add ((x9_3).toNat * 2)).off + 1, none⟩ = some (.string ((rd_T66 l1_1 x9_3).f1))) (ds := []) ⟨bd BK135.out 0, bd BK135.out 1, bd BK136.out 0, bd BK136.out 1, (kp HB.out hw148_0), (kp HB.out hw148_1)⟩ (fun hHeld => ?_); refine with_tabW spec_DeltaOf.tab13 spec_DeltaOf.bits13 (fun HT_ HW_ => ?_)
        generalize wr.drew = w68 at HO_139000 HO_139001 BK135 BK136 BK137 BK138 HB hx148_0 hx148_1 hHeld ⊢; refine pu 0 62 ?_; refine pu 2 64 ?_; refine pu 4 66 ?_; refine tk6 1 63 hHeld ?_; refine tk6 3 65 hHeld ?_; refine pu 5 67 ?_; refine pu 6 68 ?_; refine tk6 7 69 hHeld ?_; refine on1 8 70 (fun K hK => ?_)
        refine go1 Try.func34 #[.slice A0_1 l0_1.length c0_1, .string ((rd_T66 l1_1 x9_3).f0)] ?_
        with_reducible refine (spec_l5At.calls k3 _ _ l0_1 ((rd_T66 l1_1 x9_3).f0) t149 t150 _ ?side1 ?side2 A62.out).mono ?_
        (case side1 => exact cq (Kd.C_below HR0_1.out HB.out)); (case side2 => exact HC0_1.out)
        rintro e w' ⟨rfl, ⟨nd, rfl⟩⟩
        refine ⟨_, rfl, ?_⟩; refine hK.out _ _ ⟨bd BK135.out 0, bd BK135.out 1, bd BK136.out 0, bd BK136.out 1, (kp HB.out hw148_0), (kp HB.out hw148_1)⟩ (fun hHeld => ?_); clear hK K; refine nm 70 ?_; refine pu 9 61 ?_; refine pu 10 71 ?_; refine pu 11 72 ?_; refine pu 12 10 ?_; refine pu 13 11 ?_
        refine done_ (done_of HT_.out (by kernel_rfl)) ?_
        go_upto_region 14 with (fail)
        go_cut [87] (fun v87 wc => ∃ (kq : Nat) (x87_62 : Bool), v87 = .bool x87_62 ∧ Aside0 (spec_DeltaOf.j3 kq x9_3 x87_62 l0_0 l0_1 l1_0 l1_1 x139000_2 x139001_3 false = some (r1, r2, r3, r4)) ∧ Aside0 (kq ≤ k3) ∧ Aside0 (Kd.R Kd.string 9 wc w.heap.size (fun _ => True) u139000 x139000_2) ∧ Aside0 (Kd.R k66 66 wc w.heap.size (fun _ => True) u139001 x139001_3) ∧ Aside0 (wc.heap[gb135]? = some (.cells #[(.slice A0_0 l0_0.length c0_0), (.slice A0_1 l0_1.length c0_1)] 34 (0, 0))) ∧ Aside0 (wc.heap[gb136]? = some (.cells #[(.slice A1_0 l1_0.length c1_0), (.slice (some ad148) l1_1.length c1_1)] 34 (0, 0))) ∧ Aside0 (wc.heap[gb137]? = some (.cells #[(.slice none 0 0), (.slice none 0 0), .bool false, (.slice none 0 0)] 31 (0, 0))) ∧ Aside0 (wc.heap[gb138]? = some (.cells #[u139000, u139001, .bool false, (.slice none 0 0)] 31 (0, 0))) ∧ Aside0 (Below w.heap.size w wc))
        case first =>
         have H := HC63.out; clear HC63
         by_cases c69 : t150 = true
         ·subst c69
          rw [if_pos rfl] at H; replace H := it H; obtain ⟨c70b0, H⟩ := H
          (first | rw [c70b0] | (simp only [i64_w, i32_w]; rw [c70b0]) | skip)
          replace H := it H; obtain ⟨c71b0, H⟩ := H
          have H' := am H
          clear H
          try go_wp2
          replace HO_139000 := am (Kd.R_drewN HO_139000.out nd); replace HO_139001 := am (Kd.R_drewN HO_139001.out nd); replace BK135 := am (blk_drewN BK135.out nd); replace BK136 := am (blk_drewN BK136.out nd); replace BK137 := am (blk_drewN BK137.out nd); replace BK138 := am (blk_drewN BK138.out nd); replace HB := am (pw_below_drewN HB.out nd); generalize w68.drewN nd = w68 at HO_139000 HO_139001 BK135 BK136 BK137 BK138 HB ⊢
          replace HO_139000 := am (Kd.R_drew HO_139000.out); replace HO_139001 := am (Kd.R_drew HO_139001.out); replace BK135 := am (blk_drew BK135.out); replace BK136 := am (blk_drew BK136.out); replace BK137 := am (blk_drew BK137.out); replace BK138 := am (blk_drew BK138.out); replace HB := am (below_drew1 HB.out)
          have p151 : 0 ≤ (t149 : Int) := of_decide_eq_true ad
          have q151 : t149 < (l0_1.length : Int) := of_decide_eq_true ad
          obtain ⟨ad151, e151, hx151_0, hx151_1⟩ := at_T66 HR0_1.out t149 p151 q151; have hw151_1 := hx151_1; have hw151_0 := hx151_0; cases e151; replace hx151_0 := kp HB.out hx151_0; replace hx151_1 := kp HB.out hx151_1; replace p151 := eq_true p151; replace q151 := eq_true q151
          have p152 : 0 ≤ (x9_3 : Int) := of_decide_eq_true ad
          have q152 : x9_3 < (l1_1.length : Int) := of_decide_eq_true ad
          obtain ⟨ad152, e152, hx152_0, hx152_1⟩ := at_T66 HR1_1.out x9_3 p152 q152; have hw152_1 := hx152_1; have hw152_0 := hx152_0
          obtain rfl : ad148 = ad152 := (by injection e152)
          replace hx152_0 := kp HB.out hx152_0; replace hx152_1 := kp HB.out hx152_1; replace p152 := eq_true p152; replace q152 := eq_true q152
          refine st (n := 15) (S := fun w' => w'.cell? ⟨gb135, 0, none⟩ = some (.slice A0_0 l0_0.length c0_0) ∧ w'.cell? ⟨gb135, 1, none⟩ = some (.slice (some ad151) l0_1.length c0_1) ∧ w'.cell? ⟨gb136, 0, none⟩ = some (.slice A1_0 l1_0.length c1_0) ∧ w'.cell? ⟨gb136, 1, none⟩ = some (.slice (some ad148) l1_1.length c1_1) ∧ w'.cell? (ad151.add ((t149).toNat * 2)) = some (.string ((rd_T66 l0_1 t149).f0)) ∧ w'.cell? ⟨(ad151.add ((t149).toNat * 2)).block, (ad151.add ((t149).toNat * 2)).off + 1, none⟩ = some (.string ((rd_T66 l0_1 t149).f1)) ∧ w'.cell? (ad148.add ((x9_3).toNat * 2)) = some (.string ((rd_T66 l1_1 x9_3).f0)) ∧ w'.cell? ⟨(ad148.add ((x9_3).toNat * 2)).block, (ad148.add ((x9_3).toNat * 2)).off + 1, none⟩ = some (.string ((rd_T66 l1_1 x9_3).f1))) (ds := []) ⟨bd BK135.out 0, bd BK135.out 1, bd BK136.out 0, bd BK136.out 1, (kp HB.out hw151_0), (kp HB.out hw151_1), (kp HB.out hw152_0), (kp HB.out hw152_1)⟩ (fun hHeld => ?_); refine with_tabW spec_DeltaOf.tab14 spec_DeltaOf.bits14 (fun HT_ HW_ => ?_)
          generalize w68.drew = w72 at HO_139000 HO_139001 BK135 BK136 BK137 BK138 HB hx151_0 hx151_1 hx152_0 hx152_1 hHeld ⊢; refine pu 0 73 ?_; refine pu 1 74 ?_; refine pu 2 75 ?_; refine pu 3 76 ?_; refine pu 5 78 ?_; refine pu 8 81 ?_; refine pu 10 83 ?_
          refine take_ (i := 4) (N := some 77) (v := ?_) (a' := ?_) #[true, true, true, true, true, true, false, false, true, false, true, false, false, false, false] rfl rfl (take_ofW HT_.out HW_.out (by kernel_rfl)) (fun _ _ _ h => h) (Or.inl ⟨by rfl, ?_⟩) hHeld ?_ ?_
          rotate_left
          ·rintro w' ⟨s0, s1, s2, s3, s4, s5, s6, s7⟩
           go_simp
           with_reducible rfl
          rotate_left
          ·simp only [Act.put, List.setIfInBounds_toArray, List.set_cons_zero, List.set_cons_succ, i64_w, i32_w]
           rfl
          refine pu 6 79 ?_
          refine take_ (i := 7) (N := some 80) (v := ?_) (a' := ?_) #[true, true, true, true, true, true, true, true, true, false, true, false, false, false, false] rfl rfl (take_ofW HT_.out HW_.out (by kernel_rfl)) (fun _ _ _ h => h) (Or.inl ⟨by rfl, ?_⟩) hHeld ?_ ?_
          rotate_left
          ·rintro w' ⟨s0, s1, s2, s3, s4, s5, s6, s7⟩
           go_simp
           with_reducible rfl
          rotate_left
          ·simp only [Act.put, List.setIfInBounds_toArray, List.set_cons_zero, List.set_cons_succ, i64_w, i32_w]
           rfl
          refine take_ (i := 9) (N := some 82) (v := ?_) (a' := ?_) #[true, true, true, true, true, true, true, true, true, true, true, false, false, false, false] rfl rfl (take_ofW HT_.out HW_.out (by kernel_rfl)) (fun _ _ _ h => h) (Or.inl ⟨by rfl, ?_⟩) hHeld ?_ ?_
          rotate_left
          ·rintro w' ⟨s0, s1, s2, s3, s4, s5, s6, s7⟩
           go_simp
           with_reducible rfl
          rotate_left
          ·simp only [Act.put, List.setIfInBounds_toArray, List.set_cons_zero, List.set_cons_succ, i64_w, i32_w]
           rfl
          refine pu 11 84 ?_
          refine take_ (i := 12) (N := some 85) (v := ?_) (a' := ?_) #[true, true, true, true, true, true, true, true, true, true, true, true, true, false, false] rfl rfl (take_ofW HT_.out HW_.out (by kernel_rfl)) (fun _ _ _ h => h) (Or.inl ⟨by rfl, ?_⟩) hHeld ?_ ?_
          rotate_left
          ·rintro w' ⟨s0, s1, s2, s3, s4, s5, s6, s7⟩
           go_simp
           with_reducible rfl
          rotate_left
          ·simp only [Act.put, List.setIfInBounds_toArray, List.set_cons_zero, List.set_cons_succ, i64_w, i32_w]
           rfl
          refine pu 13 86 ?_; refine pu 14 87 ?_
          refine done_ (done_of HT_.out (by kernel_rfl)) ?_
          try go_wp2
          go_meet
          case rel => exact ⟨_, ((!((((rd_T66 l0_1 t149).f0).toList) == (((rd_T66 l1_1 x9_3).f0).toList)) || (!((((rd_T66 l0_1 t149).f1).toList) == (((rd_T66 l1_1 x9_3).f1).toList))))), sq, H', ⟨by have := HJ2.out; have := HK2.out; have := HK3.out; first | omega | exact Nat.le_refl _⟩, ⟨rq HO_139000.out⟩, ⟨rq HO_139001.out⟩, ⟨bq BK135.out⟩, ⟨bq BK136.out⟩, ⟨bq BK137.out⟩, ⟨bq BK138.out⟩, ⟨b2_⟩⟩
         replace c69 := Bool.eq_false_iff.mpr c69; subst c69
         rw [if_neg Bool.false_ne_true] at H
         have H' := am H
         clear H
         try go_wp2
         replace HO_139000 := am (Kd.R_drewN HO_139000.out nd); replace HO_139001 := am (Kd.R_drewN HO_139001.out nd); replace BK135 := am (blk_drewN BK135.out nd); replace BK136 := am (blk_drewN BK136.out nd); replace BK137 := am (blk_drewN BK137.out nd); replace BK138 := am (blk_drewN BK138.out nd); replace HB := am (pw_below_drewN HB.out nd); generalize w68.drewN nd = w68 at HO_139000 HO_139001 BK135 BK136 BK137 BK138 HB ⊢
         replace HO_139000 := am (Kd.R_drew HO_139000.out); replace HO_139001 := am (Kd.R_drew HO_139001.out); replace BK135 := am (blk_drew BK135.out); replace BK136 := am (blk_drew BK136.out); replace BK137 := am (blk_drew BK137.out); replace BK138 := am (blk_drew BK138.out); replace HB := am (below_drew1 HB.out)
         refine st (n := 15) (S := fun w' => True) (ds := []) trivial (fun hHeld => ?_); refine with_tabW spec_DeltaOf.tab14 spec_DeltaOf.bits14 (fun HT_ HW_ => ?_)
         generalize w68.drew = w73 at HO_139000 HO_139001 BK135 BK136 BK137 BK138 HB hHeld ⊢; refine pu 0 73 ?_; refine pu 1 74 ?_; refine pu 2 75 ?_; refine puu 3 76 ?_; refine puu 4 77 ?_; refine puu 5 78 ?_; refine puu 6 79 ?_; refine puu 7 80 ?_; refine puu 8 81 ?_; refine puu 9 82 ?_; refine puu 10 83 ?_; refine puu 11 84 ?_; refine puu 12 85 ?_; refine puu 13 86 ?_; refine pu 14 87 ?_
         refine done_ (done_of HT_.out (by kernel_rfl)) ?_
         try go_wp2
         go_meet
         case rel => exact ⟨_, (true), sq, H', ⟨by have := HJ2.out; have := HK2.out; have := HK3.out; first | omega | exact Nat.le_refl _⟩, ⟨rq HO_139000.out⟩, ⟨rq HO_139001.out⟩, ⟨bq BK135.out⟩, ⟨bq BK136.out⟩, ⟨bq BK137.out⟩, ⟨bq BK138.out⟩, ⟨b2_⟩⟩
        case rest =>
         clear HC63; (try clear c1); (try clear p1); (try clear q1); (try clear hx1); (try clear p2); (try clear c3); (try clear c4); (try clear c5); (try clear c6); (try clear p6); (try clear c7); (try clear p14); (try clear q14); (try clear hx14); (try clear p15); (try clear q15); (try clear hx15); (try clear c34); (try clear c37); (try clear c37b0); (try clear c38); (try clear c38b0); (try clear c40); (try clear c41); (try clear c42); (try clear c43); (try clear c46); (try clear c47); (try clear c48); (try clear c49); (try clear c56); (try clear c57); (try clear c58); (try clear c60); (try clear c60b0); (try clear c61); (try clear c61b0); (try clear c64); (try clear p64); (try clear c65); (try clear c66); (try clear c69); (try clear c70); (try clear c70b0); (try clear c71); (try clear c71b0); (try clear hcz27_1); (try clear hcz33_0); (try clear hcz33_1); (try clear hcz33_2); (try clear hcz33_3); (try clear hcz36_0); (try clear hcz36_1); (try clear hcz36_2); (try clear hcz36_3); (try clear hcz44_0); (try clear hcz44_1); (try clear hcz50_0); (try clear hcz50_1); (try clear hcz59_0); (try clear hcz59_1); (try clear hcz67_0); (try clear hcz67_1); (try clear hfz11_0); (try clear hfz11_1); (try clear hfz11_2); (try clear hfz11_3); (try clear hfz18_0); (try clear hfz18_1); (try clear hfz22_0); (try clear hfz22_1); (try clear hfz27_0); (try clear hfz27_1); (try clear hfz33_0); (try clear hfz33_1); (try clear hfz33_2); (try clear hfz33_3); (try clear hfz36_0); (try clear hfz36_1); (try clear hfz36_2); (try clear hfz36_3); (try clear hfz44_0); (try clear hfz44_1); (try clear hfz50_0); (try clear hfz50_1); (try clear hfz59_0); (try clear hfz59_1); (try clear hfz67_0); (try clear hfz67_1); (try clear hx141_0); (try clear hx141_1); (try clear hx144_0); (try clear hx144_1); (try clear hx148_0); (try clear hx148_1); (try clear hx151_0); (try clear hx151_1); (try clear hx152_0); (try clear hx152_1); (try clear p1); (try clear p14); (try clear p141); (try clear p144); (try clear p148); (try clear p151); (try clear p152); (try clear p2); (try clear p6); (try clear q1); (try clear q14); (try clear q141); (try clear q144); (try clear q148); (try clear q151); (try clear q152); obtain ⟨kq, x87_62, rfl, HA, HJ62, HO_139000, HO_139001, BK135, BK136, BK137, BK138, HB⟩ := hcut
         cases kq with
         | zero => exact absurd HA.out (by simp [spec_DeltaOf.j3])
         | succ kj62 =>
          have H := HA.out; clear HA; simp only [spec_DeltaOf.j3] at H
          by_cases c74 : x87_62 = true
          ·subst c74
           rw [if_pos rfl] at H; replace H := it H; obtain ⟨c75b0, H⟩ := H; replace H := it H; obtain ⟨c76b0, H⟩ := H
           replace H := ip H; obtain ⟨c77, H⟩ := H; have LMc77 := Aside0.mk c77; clear c77; obtain ⟨y154, hy154⟩ : ∃ y_ : List (S66), y_ = (x139001_3 ++ [(⟨(rd_T66 l1_1 x9_3).f0, (rd_T66 l1_1 x9_3).f1⟩ : S66)]) := ⟨_, rfl⟩
           replace H : (spec_DeltaOf.l1 kj62 (wrap64 (x9_3 + 1)) l0_0 l0_1 l1_0 l1_1 x139000_2 y154 false) = some (r1, r2, r3, r4) := by first | (rw [hy154]; with_reducible exact H) | (have H2_ := bm H; rw [hy154]; with_reducible exact H2_) | (with_reducible exact bm H) | with_reducible exact H | (rw [hy154]; exact H) | exact H
           have Ny154 := am hy154; clear hy154
           have H' := am H
           clear H
           try go_wp2
           replace HO_139000 := am (Kd.R_drew HO_139000.out); replace HO_139001 := am (Kd.R_drew HO_139001.out); replace BK135 := am (blk_drew BK135.out); replace BK136 := am (blk_drew BK136.out); replace BK137 := am (blk_drew BK137.out); replace BK138 := am (blk_drew BK138.out); replace HB := am (below_drew1 HB.out)
           have p153 : 0 ≤ (x9_3 : Int) := of_decide_eq_true ad
           have q153 : x9_3 < (l1_1.length : Int) := of_decide_eq_true ad
           obtain ⟨ad153, e153, hx153_0, hx153_1⟩ := at_T66 HR1_1.out x9_3 p153 q153; have hw153_1 := hx153_1; have hw153_0 := hx153_0
           obtain rfl : ad148 = ad153 := (by injection e153)
           replace hx153_0 := kp HB.out hx153_0; replace hx153_1 := kp HB.out hx153_1; replace p153 := eq_true p153; replace q153 := eq_true q153
           refine start_ (n := 11) (S := fun w' => w'.cell? ⟨gb138, 0, none⟩ = some (u139000) ∧ w'.cell? ⟨gb138, 1, none⟩ = some (u139001) ∧ w'.cell? ⟨gb138, 2, none⟩ = some (.bool false) ∧ w'.cell? ⟨gb138, 3, none⟩ = some (.slice none 0 0) ∧ w'.cell? ⟨gb136, 0, none⟩ = some (.slice A1_0 l1_0.length c1_0) ∧ w'.cell? ⟨gb136, 1, none⟩ = some (.slice (some ad148) l1_1.length c1_1) ∧ w'.cell? (ad148.add ((x9_3).toNat * 2)) = some (.string ((rd_T66 l1_1 x9_3).f0)) ∧ w'.cell? ⟨(ad148.add ((x9_3).toNat * 2)).block, (ad148.add ((x9_3).toNat * 2)).off + 1, none⟩ = some (.string ((rd_T66 l1_1 x9_3).f1))) (ds := [10]) #[false, false, false, false, false, false, false, false, false, false, false] (by kernel_rfl) rfl rfl ⟨bd BK138.out 0, bd BK138.out 1, bd BK138.out 2, bd BK138.out 3, bd BK136.out 0, bd BK136.out 1, (kp HB.out hw153_0), (kp HB.out hw153_1)⟩ (fun hHeld => ?_); refine with_tabW spec_DeltaOf.tab15 spec_DeltaOf.bits15 (fun HT_ HW_ => ?_)
           generalize wc.drew = w78 at HO_139000 HO_139001 BK135 BK136 BK137 BK138 HB hx153_0 hx153_1 hHeld ⊢; refine pu 0 88 ?_; refine pu 2 90 ?_; refine pu 4 92 ?_
           refine take_ (i := 1) (N := some 89) (v := ?_) (a' := ?_) #[true, true, true, false, true, false, false, false, false, false, false] rfl rfl (take_ofW HT_.out HW_.out (by kernel_rfl)) (fun _ _ _ h => h) (Or.inl ⟨by rfl, ?_⟩) hHeld ?_ ?_
           rotate_left
           ·rintro w' ⟨s0, s1, s2, s3, s4, s5, s6, s7⟩
            go_simp
            with_reducible rfl
           rotate_left
           ·simp only [Act.put, List.setIfInBounds_toArray, List.set_cons_zero, List.set_cons_succ, i64_w, i32_w]
            rfl
           refine take_ (i := 3) (N := some 91) (v := ?_) (a' := ?_) #[true, true, true, true, true, false, false, false, false, false, false] rfl rfl (take_ofW HT_.out HW_.out (by kernel_rfl)) (fun _ _ _ h => h) (Or.inl ⟨by rfl, ?_⟩) hHeld ?_ ?_
           rotate_left
           ·rintro w' ⟨s0, s1, s2, s3, s4, s5, s6, s7⟩
            go_simp
            with_reducible rfl
           rotate_left
           ·simp only [Act.put, List.setIfInBounds_toArray, List.set_cons_zero, List.set_cons_succ, i64_w, i32_w]
            rfl
           refine pu 5 93 ?_
           refine take_ (i := 6) (N := some 94) (v := ?_) (a' := ?_) #[true, true, true, true, true, true, true, false, false, false, false] rfl rfl (take_ofW HT_.out HW_.out (by kernel_rfl)) (fun _ _ _ h => h) (Or.inl ⟨by rfl, ?_⟩) hHeld ?_ ?_
           rotate_left
           ·rintro w' ⟨s0, s1, s2, s3, s4, s5, s6, s7⟩
            go_simp
            with_reducible rfl
           rotate_left
           ·simp only [Act.put, List.setIfInBounds_toArray, List.set_cons_zero, List.set_cons_succ, i64_w, i32_w]
            rfl
           refine on1 7 95 (fun K hK => ?_)
           refine value_ (w1 := ?_) (v := ?_) (by rfl) rfl ?_ ?_
           rotate_left 2
           ·go_simp
            constructor
            ·rfl
            ·rfl
           refine hK.out _ _ ⟨bd (blk_alloc BK138.out _) 0, bd (blk_alloc BK138.out _) 1, bd (blk_alloc BK138.out _) 2, bd (blk_alloc BK138.out _) 3, bd (blk_alloc BK136.out _) 0, bd (blk_alloc BK136.out _) 1, (World.cell?_alloc_lt _ _ _ (World.block_lt_of_cell? _ _ ((kp HB.out hw153_0)))).trans ((kp HB.out hw153_0)), (World.cell?_alloc_lt _ _ _ (World.block_lt_of_cell? _ _ ((kp HB.out hw153_1)))).trans ((kp HB.out hw153_1))⟩ (fun hHeld => ?_); clear hK K; refine nm 95 ?_; refine on1 8 96 (fun K hK => ?_)
           refine Kd.R_append_step k66 (w0 := w) w.heap.size (by rfl) (.tmp 89) (.tmp 95) 28 66 (.agg #[(.string ⟨#[]⟩), (.string ⟨#[]⟩)]) 32 rfl Try.underlying28 info66 rfl (by decide) (by omega) u139001 x139001_3 (⟨(rd_T66 l1_1 x9_3).f0, (rd_T66 l1_1 x9_3).f1⟩ : S66) [.string ((rd_T66 l1_1 x9_3).f0), .string ((rd_T66 l1_1 x9_3).f1)] (fun _ => True) (fun _ => False) rfl rfl ?aP (fun _ hk => hk.elim) ?aF ?aO ?aB ?aS ?aL ?_
           (case aP => exact k66_mkM _ _ _ (⟨(rd_T66 l1_1 x9_3).f0, (rd_T66 l1_1 x9_3).f1⟩ : S66)); (case aB => exact b2_); (case aF => exact (fun _ _ => trivial)); (case aO => exact (rq HO_139001.out)); (case aS => exact (below_size b2_)); (case aL => have := LMc77.out; omega); intro v155 w79 ho hb hg hat; rw [← Ny154.out] at ho
           replace HO_139000 := am (Kd.R_over' (rq HO_139000.out) (Kd.R_typed (rq HO_139001.out)) (by decide) hg); replace BK135 := am (blk_grown (g := gb135) (o := .cells #[.slice A0_0 l0_0.length c0_0, .slice A0_1 l0_1.length c0_1] 34 (0, 0)) (bq BK135.out) hg (Kd.R_ne HO_139001.out BK135.out (by decide))); replace BK136 := am (blk_grown (g := gb136) (o := .cells #[.slice A1_0 l1_0.length c1_0, .slice (some ad148) l1_1.length c1_1] 34 (0, 0)) (bq BK136.out) hg (Kd.R_ne HO_139001.out BK136.out (by decide))); replace BK137 := am (blk_grown (g := gb137) (o := .cells #[.slice none 0 0, .slice none 0 0, .bool false, .slice none 0 0] 31 (0, 0)) (bq BK137.out) hg (Kd.R_ne HO_139001.out BK137.out (by decide))); replace BK138 := am (blk_grown (g := gb138) (o := .cells #[u139000, u139001, .bool false, .slice none 0 0] 31 (0, 0)) (bq BK138.out) hg (Kd.R_ne HO_139001.out BK138.out (by decide))); replace HB := am (hb); have HO156 := am (ho); clear HO_139001; clear ho hb hg hat; obtain ⟨Ao80, co80, eo80⟩ := Kd.R_slice HO156.out
           (first | subst eo80 | (injection eo80 with f1_ f2_ f3_; have f4_ := f1_.symm; have f5_ := f3_.symm; clear f1_ f2_ f3_; subst f4_; subst f5_))
           refine hK.out _ _ ⟨bd BK138.out 0, bd BK138.out 1, bd BK138.out 2, bd BK138.out 3, bd BK136.out 0, bd BK136.out 1, (kp HB.out hw153_0), (kp HB.out hw153_1)⟩ (fun hHeld => ?_); clear hK K; refine nm 96 ?_; refine pu 9 97 ?_
           refine last_ (i := 10) (N := none) #[true, true, true, true, true, true, true, true, true, true, true] rfl rfl (one_of HT_.out (by kernel_rfl)) (by decide) (fun K hK => ?_)
           have hs81 : w79.cell? ⟨gb138, 1, none⟩ = some (u139001) := bd BK138.out 1
           have hfs81 := bf BK138.out 1; have hns81_0 := NB135_138.out; have hns81_1 := NB136_138.out; have hns81_2 := NB137_138.out; have hms81_0 := NB138_135.out; have hms81_1 := NB138_136.out; have hms81_2 := NB138_137.out
           refine skip_ (w1 := ?_) (by rfl) rfl ?_ ?_
           rotate_left
           ·go_simp
            rfl
           refine hK.out _ _ ?_; clear hK K
           refine done_ (done_of HT_.out (by kernel_rfl)) ?_
           try go_wp2
           go_roundg kj62
           case measure => have := HJ2.out; have := HK2.out; have := HK3.out; have := HJ62.out; omega
           case rel => exact ⟨(wrap64 (x9_3 + 1)), (y154), (.slice Ao80 y154.length co80), sq, H', ⟨by have := HJ2.out; have := HK2.out; have := HK3.out; have := HJ62.out; omega⟩, ⟨rq (Kd.R_mono (Kd.R_far (p := ⟨gb138, 1, none⟩) (Kd.R_types HO_139000.out BK138.out (by decide)) (fun _ hk => hk.2) (.slice Ao80 y154.length co80)) (fun _ hk => trivial))⟩, ⟨rq (Kd.R_mono (Kd.R_far (p := ⟨gb138, 1, none⟩) (Kd.R_types HO156.out BK138.out (by decide)) (fun _ hk => hk.2) (.slice Ao80 y154.length co80)) (fun _ hk => trivial))⟩, ⟨b50_⟩, ⟨b51_⟩, ⟨b52_⟩, ⟨by (with_reducible repeat (first | refine blk_drewN ?_ _ | refine blk_drew ?_ | refine blk_alloc ?_ _)); refine blk_put (cs := #[u139000, u139001, .bool false, .slice none 0 0]) ?_ 1 _ rfl; (with_reducible repeat (first | refine blk_drewN ?_ _ | refine blk_drew ?_ | refine blk_alloc ?_ _)); exact BK138.out⟩, ⟨b2_⟩⟩
          replace c74 := Bool.eq_false_iff.mpr c74; subst c74
          rw [if_neg Bool.false_ne_true] at H
          have H' := am H
          clear H; go_wp2
          go_roundg kj62
          case measure => have := HJ2.out; have := HK2.out; have := HK3.out; have := HJ62.out; omega
          case rel => exact ⟨(wrap64 (x9_3 + 1)), (x139001_3), (u139001), sq, H', ⟨by have := HJ2.out; have := HK2.out; have := HK3.out; have := HJ62.out; omega⟩, ⟨rq HO_139000.out⟩, ⟨rq HO_139001.out⟩, ⟨bq BK135.out⟩, ⟨bq BK136.out⟩, ⟨bq BK137.out⟩, ⟨bq BK138.out⟩, ⟨b2_⟩⟩
       rw [if_neg c60] at H; have c60b0 := decide_eq_false c60; clear c60; replace H := bs H; obtain ⟨t157, A820, H⟩ := H; (try dsimp only at H); have A82 := Aside0.mk A820; clear A820
       by_cases c83 : t157 = true
       ·subst c83
        rw [if_pos rfl] at H; simp only [Option.some.injEq, Prod.mk.injEq] at H
        obtain ⟨rfl, rfl, rfl, rfl⟩ := H; have hnb84 := NB136_135.out; have hnc84 := NB135_136.out; have hnb85 := NB136_137.out; have hnc85 := NB137_136.out; have hnb86 := NB136_138.out; have hnc86 := NB138_136.out; have ⟨hcz87_0, hcz87_1, hfz87_0, hfz87_1⟩ := b2c BK136.out; have hnb88 := NB135_137.out; have hnc88 := NB137_135.out; have hnb89 := NB135_138.out; have hnc89 := NB138_135.out; have ⟨hcz90_0, hcz90_1, hfz90_0, hfz90_1⟩ := b2c BK135.out
        go_wp2_with (first | ((with_reducible refine gate_callee (f := 35) rfl ?_); refine gl 102 Try.func35 #[.slice A0_0 l0_0.length c0_0, .slice A1_0 l1_0.length c1_0] ?_; (with_reducible refine (spec_l5Affixes.calls k3 _ _ l0_0 _ _ l1_0 true _ ?side1 ?side2 ?side3 ?side4 A82.out).mono ?_); (case side1 => exact cq (Kd.C_below HR0_0.out HB.out)); (case side2 => exact HC0_0.out); (case side3 => exact cq (Kd.C_below HR1_0.out HB.out)); (case side4 => exact HC1_0.out); rintro e w' ⟨rfl, ⟨nd, rfl⟩⟩; refine ⟨_, rfl, ?_⟩; (try (rw [drewN_self wr]; generalize hq_ : World.drewN wr _ = wr; have n0_ : Aside0 (Kd.R Kd.string 9 wr w.heap.size (fun _ => True) u139000 x139000_2) := ⟨by rw [← hq_]; exact (rq HO_139000.out)⟩; have n1_ : Aside0 (Kd.R k66 66 wr w.heap.size (fun _ => True) u139001 x139001_3) := ⟨by rw [← hq_]; exact (rq HO_139001.out)⟩; have n2_ : Aside0 (wr.heap[gb135]? = some (.cells #[.slice A0_0 l0_0.length c0_0, .slice A0_1 l0_1.length c0_1] 34 (0, 0))) := ⟨by rw [← hq_]; exact (bq BK135.out)⟩; have n3_ : Aside0 (wr.heap[gb136]? = some (.cells #[.slice A1_0 l1_0.length c1_0, .slice A1_1 l1_1.length c1_1] 34 (0, 0))) := ⟨by rw [← hq_]; exact (bq BK136.out)⟩; have n4_ : Aside0 (wr.heap[gb137]? = some (.cells #[.slice none 0 0, .slice none 0 0, .bool false, .slice none 0 0] 31 (0, 0))) := ⟨by rw [← hq_]; exact (bq BK137.out)⟩; have n5_ : Aside0 (wr.heap[gb138]? = some (.cells #[u139000, u139001, .bool false, .slice none 0 0] 31 (0, 0))) := ⟨by rw [← hq_]; exact (bq BK138.out)⟩; have n6_ : Aside0 (Below w.heap.size w wr) := ⟨b34_⟩; clear HO_139000 HO_139001 BK135 BK136 BK137 BK138 HB hq_; have HO_139000 := n0_; have HO_139001 := n1_; have BK135 := n2_; have BK136 := n3_; have BK137 := n4_; have BK138 := n5_; have HB := n6_; clear n0_ n1_ n2_ n3_ n4_ n5_ n6_)); have hnb91 := NB138_137.out; have hnc91 := NB137_138.out; have ⟨hcz92_0, hcz92_1, hcz92_2, hcz92_3, hfz92_0, hfz92_1, hfz92_2, hfz92_3⟩ := b4c BK138.out; obtain ⟨Ao93, co93, eo93⟩ := Kd.R_slice HO_139000.out; subst eo93; have ⟨hcz94_0, hcz94_1, hcz94_2, hcz94_3, hfz94_0, hfz94_1, hfz94_2, hfz94_3⟩ := b4c BK137.out; obtain ⟨Ao95, co95, eo95⟩ := Kd.R_slice HO_139001.out; subst eo95))
        refine bodyPost_ret (results_cell_row rfl _ _ gb137 31 #[.slice Ao93 x139000_2.length co93, .slice Ao95 x139001_3.length co95, .bool false, .slice none 0 0] (0, 0) _ rfl (by (with_reducible repeat (first | refine blk_drewN ?_ _ | refine blk_drew ?_ | refine blk_alloc ?_ _)); refine blk_put (cs := #[.slice Ao93 x139000_2.length co93, .slice Ao95 x139001_3.length co95, .bool false, .slice none 0 0]) ?_ 3 _ rfl; (with_reducible repeat (first | refine blk_drewN ?_ _ | refine blk_drew ?_ | refine blk_alloc ?_ _)); refine blk_put (cs := #[.slice Ao93 x139000_2.length co93, .slice Ao95 x139001_3.length co95, .bool false, .slice none 0 0]) ?_ 2 _ rfl; (with_reducible repeat (first | refine blk_drewN ?_ _ | refine blk_drew ?_ | refine blk_alloc ?_ _)); refine blk_put (cs := #[.slice Ao93 x139000_2.length co93, .slice none 0 0, .bool false, .slice none 0 0]) ?_ 1 _ rfl; (with_reducible repeat (first | refine blk_drewN ?_ _ | refine blk_drew ?_ | refine blk_alloc ?_ _)); refine blk_put (cs := #[.slice none 0 0, .slice none 0 0, .bool false, .slice none 0 0]) ?_ 0 _ rfl; (with_reducible repeat (first | refine blk_drewN ?_ _ | refine blk_drew ?_ | refine blk_alloc ?_ _)); exact BK137.out) Try.underlying31 rfl (by kernel_rfl)) rfl ?_
        exact ⟨_, _, _, eq_, by (with_reducible repeat (first | apply Kd.R_alloc | apply Kd.R_drewN | apply Kd.R_drew)); exact Kd.R_mono (Kd.R_far (p := ⟨gb137, 3, none⟩) (Kd.R_far (p := ⟨gb137, 2, none⟩) (Kd.R_far (p := ⟨gb137, 1, none⟩) (Kd.R_far (p := ⟨gb137, 0, none⟩) (Kd.R_types HO_139000.out BK137.out (by decide)) (fun _ hk => hk.2) (.slice Ao93 x139000_2.length co93)) (fun _ hk => hk.2) (.slice Ao95 x139001_3.length co95)) (fun _ hk => hk.2) (.bool false)) (fun _ hk => hk.2) (.slice none 0 0)) (fun _ hk => trivial), by (with_reducible repeat (first | apply Kd.R_alloc | apply Kd.R_drewN | apply Kd.R_drew)); exact Kd.R_mono (Kd.R_far (p := ⟨gb137, 3, none⟩) (Kd.R_far (p := ⟨gb137, 2, none⟩) (Kd.R_far (p := ⟨gb137, 1, none⟩) (Kd.R_far (p := ⟨gb137, 0, none⟩) (Kd.R_types HO_139001.out BK137.out (by decide)) (fun _ hk => hk.2) (.slice Ao93 x139000_2.length co93)) (fun _ hk => hk.2) (.slice Ao95 x139001_3.length co95)) (fun _ hk => hk.2) (.bool false)) (fun _ hk => hk.2) (.slice none 0 0)) (fun _ hk => trivial), b26_, b2_⟩
       replace c83 := Bool.eq_false_iff.mpr c83; subst c83
       rw [if_neg Bool.false_ne_true] at H
       obtain ⟨y158, hy158⟩ : ∃ y_ : List (S73), y_ = (([] : List (S73))) := ⟨_, rfl⟩
       replace H : (if y158.length + l1_0.length < 1954687338268 then (some (x139000_2, x139001_3, true, (y158 ++ l1_0))) else (none)) = some (r1, r2, r3, r4) := by first | (rw [hy158]; with_reducible exact H) | (have H2_ := bm H; rw [hy158]; with_reducible exact H2_) | (with_reducible exact bm H) | with_reducible exact H | (rw [hy158]; exact H) | exact H
       have Ny158 := am hy158; clear hy158
       replace H := ip H; obtain ⟨c96, H⟩ := H; have LMc96 := Aside0.mk c96; clear c96; obtain ⟨y161, hy161⟩ : ∃ y_ : List (S73), y_ = (y158 ++ l1_0) := ⟨_, rfl⟩
       replace H : (some (x139000_2, x139001_3, true, y161)) = some (r1, r2, r3, r4) := by first | (rw [hy161]; with_reducible exact H) | (have H2_ := bm H; rw [hy161]; with_reducible exact H2_) | (with_reducible exact bm H) | with_reducible exact H | (rw [hy161]; exact H) | exact H
       have Ny161 := am hy161; clear hy161; simp only [Option.some.injEq, Prod.mk.injEq] at H
       obtain ⟨rfl, rfl, rfl, rfl⟩ := H; have hnb97 := NB136_135.out; have hnc97 := NB135_136.out; have hnb98 := NB136_137.out; have hnc98 := NB137_136.out; have hnb99 := NB136_138.out; have hnc99 := NB138_136.out; have ⟨hcz100_0, hcz100_1, hfz100_0, hfz100_1⟩ := b2c BK136.out; have hnb101 := NB135_137.out; have hnc101 := NB137_135.out; have hnb102 := NB135_138.out; have hnc102 := NB138_135.out; have ⟨hcz103_0, hcz103_1, hfz103_0, hfz103_1⟩ := b2c BK135.out
       go_wp2_with (first | ((with_reducible refine gate_callee (f := 35) rfl ?_); refine gl 102 Try.func35 #[.slice A0_0 l0_0.length c0_0, .slice A1_0 l1_0.length c1_0] ?_; (with_reducible refine (spec_l5Affixes.calls k3 _ _ l0_0 _ _ l1_0 false _ ?side1 ?side2 ?side3 ?side4 A82.out).mono ?_); (case side1 => exact cq (Kd.C_below HR0_0.out HB.out)); (case side2 => exact HC0_0.out); (case side3 => exact cq (Kd.C_below HR1_0.out HB.out)); (case side4 => exact HC1_0.out); rintro e w' ⟨rfl, ⟨nd, rfl⟩⟩; refine ⟨_, rfl, ?_⟩; (try (rw [drewN_self wr]; generalize hq_ : World.drewN wr _ = wr; have n0_ : Aside0 (Kd.R Kd.string 9 wr w.heap.size (fun _ => True) u139000 x139000_2) := ⟨by rw [← hq_]; exact (rq HO_139000.out)⟩; have n1_ : Aside0 (Kd.R k66 66 wr w.heap.size (fun _ => True) u139001 x139001_3) := ⟨by rw [← hq_]; exact (rq HO_139001.out)⟩; have n2_ : Aside0 (wr.heap[gb135]? = some (.cells #[.slice A0_0 l0_0.length c0_0, .slice A0_1 l0_1.length c0_1] 34 (0, 0))) := ⟨by rw [← hq_]; exact (bq BK135.out)⟩; have n3_ : Aside0 (wr.heap[gb136]? = some (.cells #[.slice A1_0 l1_0.length c1_0, .slice A1_1 l1_1.length c1_1] 34 (0, 0))) := ⟨by rw [← hq_]; exact (bq BK136.out)⟩; have n4_ : Aside0 (wr.heap[gb137]? = some (.cells #[.slice none 0 0, .slice none 0 0, .bool false, .slice none 0 0] 31 (0, 0))) := ⟨by rw [← hq_]; exact (bq BK137.out)⟩; have n5_ : Aside0 (wr.heap[gb138]? = some (.cells #[u139000, u139001, .bool false, .slice none 0 0] 31 (0, 0))) := ⟨by rw [← hq_]; exact (bq BK138.out)⟩; have n6_ : Aside0 (Below w.heap.size w wr) := ⟨b34_⟩; clear HO_139000 HO_139001 BK135 BK136 BK137 BK138 HB hq_; have HO_139000 := n0_; have HO_139001 := n1_; have BK135 := n2_; have BK136 := n3_; have BK137 := n4_; have BK138 := n5_; have HB := n6_; clear n0_ n1_ n2_ n3_ n4_ n5_ n6_)); have hnb104 := NB138_137.out; have hnc104 := NB137_138.out; have ⟨hcz105_0, hcz105_1, hcz105_2, hcz105_3, hfz105_0, hfz105_1, hfz105_2, hfz105_3⟩ := b4c BK138.out) | ((with_reducible refine gate_dst (N := 105) rfl ?_); refine Kd.R_lit k73 _ 73 ?hg (N := 105) ?hd (xs := ([] : List (S73))) (inner := []) (ok := fun _ => True) (okp := fun _ => True) ?hr ?hp (fun _ hk => hk) trivial (Below.refl _ _) (Nat.le_refl _) (by simp) ?_; (case hd => rfl); (case hg => rfl); (case hr => first | (go_simp; done) | (go_simp; rfl)); (case hp => exact (Reps.none _ _)); intro v159 w106 ho107 hb hg_ hnew_; clear hg_ hnew_; (first | rw [← Ny158.out] at ho107 | (simp only [Int.reduceToNat] at ho107; rw [← Ny158.out] at ho107) | (simp only [Int.toNat_natCast] at ho107; rw [← Ny158.out] at ho107)); replace HO_139000 := am (Kd.R_below (rq ((Kd.R_mono (Kd.R_far (p := ⟨gb138, 2, none⟩) (Kd.R_types HO_139000.out BK138.out (by decide)) (fun _ hk => hk.2) (.bool true)) (fun _ h_ => h_.1)))) hb); replace HO_139001 := am (Kd.R_below (rq ((Kd.R_mono (Kd.R_far (p := ⟨gb138, 2, none⟩) (Kd.R_types HO_139001.out BK138.out (by decide)) (fun _ hk => hk.2) (.bool true)) (fun _ h_ => h_.1)))) hb); have HO160 := am (Kd.R_lower ho107 (below_size b2_)); replace BK135 := am (blk_below (g := gb135) (o := .cells #[.slice A0_0 l0_0.length c0_0, .slice A0_1 l0_1.length c0_1] 34 (0, 0)) b50_ hb); replace BK136 := am (blk_below (g := gb136) (o := .cells #[.slice A1_0 l1_0.length c1_0, .slice A1_1 l1_1.length c1_1] 34 (0, 0)) b51_ hb); replace BK137 := am (blk_below (g := gb137) (o := .cells #[.slice none 0 0, .slice none 0 0, .bool false, .slice none 0 0] 31 (0, 0)) b52_ hb); replace BK138 := am (blk_below (g := gb138) (o := .cells #[u139000, u139001, .bool true, .slice none 0 0] 31 (0, 0)) (by (with_reducible repeat (first | refine blk_drewN ?_ _ | refine blk_drew ?_ | refine blk_alloc ?_ _)); refine blk_put (cs := #[u139000, u139001, .bool false, .slice none 0 0]) ?_ 2 _ rfl; (with_reducible repeat (first | refine blk_drewN ?_ _ | refine blk_drew ?_ | refine blk_alloc ?_ _)); exact BK138.out) hb); replace HB := am (below_step b2_ hb); clear hb ho107; have ⟨hcz108_0, hcz108_1, hfz108_0, hfz108_1⟩ := b2c BK136.out) | ((with_reducible refine gate_builtin (b := .append) (xs := #[.tmp 105, .tmp 107]) rfl ?_); at_builtin; refine Kd.R_append_rows k73 (w0 := w) w.heap.size rfl (.tmp 105) (.tmp 107) 29 73 (.agg #[(.string ⟨#[]⟩), (.bool false), (.string ⟨#[]⟩), (.string ⟨#[]⟩), (.string ⟨#[]⟩)]) 72 rfl Try.underlying29 info73 rfl (by decide) (by omega) v159 y158 l1_0 _ _ _ (fun _ => True) (fun _ => False) rfl rfl ?aO ?aR (fun _ _ h => h) (fun _ h => h.elim) ?aF ?aB ?aS ?aL ?_; (case aR => exact cq (Kd.C_below HR1_0.out HB.out)); (case aB => exact b2_); (case aF => exact (fun _ _ => trivial)); (case aO => exact (rq HO160.out)); (case aS => exact (below_size b2_)); (case aL => have := LMc96.out; omega); intro v162 w109 ho hb hg hat; rw [← Ny161.out] at ho; replace HO_139000 := am (Kd.R_over' (rq HO_139000.out) (Kd.R_typed (rq HO160.out)) (by decide) hg); replace HO_139001 := am (Kd.R_over' (rq HO_139001.out) (Kd.R_typed (rq HO160.out)) (by decide) hg); replace BK135 := am (blk_grown (g := gb135) (o := .cells #[.slice A0_0 l0_0.length c0_0, .slice A0_1 l0_1.length c0_1] 34 (0, 0)) (bq BK135.out) hg (Kd.R_ne HO160.out BK135.out (by decide))); replace BK136 := am (blk_grown (g := gb136) (o := .cells #[.slice A1_0 l1_0.length c1_0, .slice A1_1 l1_1.length c1_1] 34 (0, 0)) (bq BK136.out) hg (Kd.R_ne HO160.out BK136.out (by decide))); replace BK137 := am (blk_grown (g := gb137) (o := .cells #[.slice none 0 0, .slice none 0 0, .bool false, .slice none 0 0] 31 (0, 0)) (bq BK137.out) hg (Kd.R_ne HO160.out BK137.out (by decide))); replace BK138 := am (blk_grown (g := gb138) (o := .cells #[u139000, u139001, .bool true, .slice none 0 0] 31 (0, 0)) (bq BK138.out) hg (Kd.R_ne HO160.out BK138.out (by decide))); replace HB := am (hb); have HO163 := am (ho); clear HO160; clear ho hb hg hat; obtain ⟨Ao110, co110, eo110⟩ := Kd.R_slice HO163.out; subst eo110; have ⟨hcz111_0, hcz111_1, hcz111_2, hcz111_3, hfz111_0, hfz111_1, hfz111_2, hfz111_3⟩ := b4c BK138.out; obtain ⟨Ao112, co112, eo112⟩ := Kd.R_slice HO_139000.out; subst eo112; have ⟨hcz113_0, hcz113_1, hcz113_2, hcz113_3, hfz113_0, hfz113_1, hfz113_2, hfz113_3⟩ := b4c BK137.out; obtain ⟨Ao114, co114, eo114⟩ := Kd.R_slice HO_139001.out; subst eo114))
       refine bodyPost_ret (results_cell_row rfl _ _ gb137 31 #[.slice Ao112 x139000_2.length co112, .slice Ao114 x139001_3.length co114, .bool true, .slice Ao110 y161.length co110] (0, 0) _ rfl (by (with_reducible repeat (first | refine blk_drewN ?_ _ | refine blk_drew ?_ | refine blk_alloc ?_ _)); refine blk_put (cs := #[.slice Ao112 x139000_2.length co112, .slice Ao114 x139001_3.length co114, .bool true, .slice none 0 0]) ?_ 3 _ rfl; (with_reducible repeat (first | refine blk_drewN ?_ _ | refine blk_drew ?_ | refine blk_alloc ?_ _)); refine blk_put (cs := #[.slice Ao112 x139000_2.length co112, .slice Ao114 x139001_3.length co114, .bool false, .slice none 0 0]) ?_ 2 _ rfl; (with_reducible repeat (first | refine blk_drewN ?_ _ | refine blk_drew ?_ | refine blk_alloc ?_ _)); refine blk_put (cs := #[.slice Ao112 x139000_2.length co112, .slice none 0 0, .bool false, .slice none 0 0]) ?_ 1 _ rfl; (with_reducible repeat (first | refine blk_drewN ?_ _ | refine blk_drew ?_ | refine blk_alloc ?_ _)); refine blk_put (cs := #[.slice none 0 0, .slice none 0 0, .bool false, .slice none 0 0]) ?_ 0 _ rfl; (with_reducible repeat (first | refine blk_drewN ?_ _ | refine blk_drew ?_ | refine blk_alloc ?_ _)); refine blk_far ?_ NB137_138.out _; (with_reducible repeat (first | refine blk_drewN ?_ _ | refine blk_drew ?_ | refine blk_alloc ?_ _)); exact BK137.out) Try.underlying31 rfl (by kernel_rfl)) rfl ?_
       exact ⟨_, _, _, eq_, by (with_reducible repeat (first | apply Kd.R_alloc | apply Kd.R_drewN | apply Kd.R_drew)); exact Kd.R_mono (Kd.R_far (p := ⟨gb137, 3, none⟩) (Kd.R_far (p := ⟨gb137, 2, none⟩) (Kd.R_far (p := ⟨gb137, 1, none⟩) (Kd.R_far (p := ⟨gb137, 0, none⟩) (Kd.R_far (p := ⟨gb138, 3, none⟩) (Kd.R_types (Kd.R_types HO_139000.out BK138.out (by decide)) BK137.out (by decide)) (fun _ hk => hk.1.2) (.slice Ao110 y161.length co110)) (fun _ hk => hk.2) (.slice Ao112 x139000_2.length co112)) (fun _ hk => hk.2) (.slice Ao114 x139001_3.length co114)) (fun _ hk => hk.2) (.bool true)) (fun _ hk => hk.2) (.slice Ao110 y161.length co110)) (fun _ hk => trivial), by (with_reducible repeat (first | apply Kd.R_alloc | apply Kd.R_drewN | apply Kd.R_drew)); exact Kd.R_mono (Kd.R_far (p := ⟨gb137, 3, none⟩) (Kd.R_far (p := ⟨gb137, 2, none⟩) (Kd.R_far (p := ⟨gb137, 1, none⟩) (Kd.R_far (p := ⟨gb137, 0, none⟩) (Kd.R_far (p := ⟨gb138, 3, none⟩) (Kd.R_types (Kd.R_types HO_139001.out BK138.out (by decide)) BK137.out (by decide)) (fun _ hk => hk.1.2) (.slice Ao110 y161.length co110)) (fun _ hk => hk.2) (.slice Ao112 x139000_2.length co112)) (fun _ hk => hk.2) (.slice Ao114 x139001_3.length co114)) (fun _ hk => hk.2) (.bool true)) (fun _ hk => hk.2) (.slice Ao110 y161.length co110)) (fun _ hk => trivial), by (with_reducible repeat (first | apply Kd.R_alloc | apply Kd.R_drewN | apply Kd.R_drew)); exact Kd.R_mono (Kd.R_far (p := ⟨gb137, 3, none⟩) (Kd.R_far (p := ⟨gb137, 2, none⟩) (Kd.R_far (p := ⟨gb137, 1, none⟩) (Kd.R_far (p := ⟨gb137, 0, none⟩) (Kd.R_far (p := ⟨gb138, 3, none⟩) (Kd.R_types (Kd.R_types HO163.out BK138.out (by decide)) BK137.out (by decide)) (fun _ hk => hk.1.2) (.slice Ao110 y161.length co110)) (fun _ hk => hk.2) (.slice Ao112 x139000_2.length co112)) (fun _ hk => hk.2) (.slice Ao114 x139001_3.length co114)) (fun _ hk => hk.2) (.bool true)) (fun _ hk => hk.2) (.slice Ao110 y161.length co110)) (fun _ hk => trivial), b2_⟩
-- shrunk

/-! ### laws_toAffix: function 82 -/
def laws_toAffix.f (a0_0 : ByteArray) (a0_1 : Bool) (a0_2 : ByteArray) (a0_3 : ByteArray) (a0_4 : ByteArray) : Option (ByteArray × Bool × ByteArray × ByteArray × ByteArray) := some (a0_0, a0_1, a0_2, a0_3, a0_4)
theorem laws_toAffix.calls (a0_0 : ByteArray) (a0_1 : Bool) (a0_2 : ByteArray) (a0_3 : ByteArray) (a0_4 : ByteArray) (r1 : ByteArray) (r2 : Bool) (r3 : ByteArray) (r4 : ByteArray) (r5 : ByteArray) (w : World) (h : laws_toAffix.f a0_0 a0_1 a0_2 a0_3 a0_4 = some (r1, r2, r3, r4, r5)) :
  Calls Try.prog 82 #[.agg #[.string a0_0, .bool a0_1, .string a0_2, .string a0_3, .string a0_4]] w fun e w' => e = .returned (.agg #[.string r1, .bool r2, .string r3, .string r4, .string r5]) ∧ Below w.heap.size w w' := by
 have hu103 := Try.underlying103; have hu73 := Try.underlying73; have HB := am (Below.refl w.heap.size w)
 have H : (some (a0_0, a0_1, a0_2, a0_3, a0_4)) = some (r1, r2, r3, r4, r5) := h
 clear h
 simp only [Option.some.injEq, Prod.mk.injEq] at H
 obtain ⟨rfl, rfl, rfl, rfl, rfl⟩ := H; go_enter Try.func82, Try.ntmps82
 go_wp2_with (first | ((with_reducible refine gate_dst (N := 1) rfl ?_); refine bx 1 (cs := #[.string a0_0, .bool a0_1, .string a0_2, .string a0_3, .string a0_4]) (t := 103) ?_; intro gb164 hg w2 hbox hb; have BK164 := am (hbox); have GW164 := am ((b5_ : w.heap.size ≤ gb164)); have GE164 := am ((b5_ : w.heap.size ≤ gb164)); replace HB := am (below_step bel hb); clear hb hbox hg) | ((with_reducible refine gate_dst (N := 2) rfl ?_); refine bx 2 (cs := #[.string (⟨#[]⟩ : ByteArray), .bool false, .string (⟨#[]⟩ : ByteArray), .string (⟨#[]⟩ : ByteArray), .string (⟨#[]⟩ : ByteArray)]) (t := 73) ?_; intro gb165 hg w3 hbox hb; have BK165 := am (hbox); have GW165 := am ((by rw [hg]; exact (below_size (bel1 GE164.out)) : w.heap.size ≤ gb165)); have GE165 := am ((by rw [hg]; exact (below_size (bel1 GE164.out)) : w.heap.size ≤ gb165)); replace HB := am (below_step (bel1 GE164.out) hb); have NB164_165 := am ((b85_ : gb164 ≠ gb165)); have NB165_164 := am ((b86_ : gb165 ≠ gb164)); replace BK164 := am (blk_below (bq BK164.out) hb); clear hb hbox hg) | ((with_reducible refine gate_dst (N := 3) rfl ?_); refine bx 3 (cs := #[.string (⟨#[]⟩ : ByteArray), .bool false, .string (⟨#[]⟩ : ByteArray), .string (⟨#[]⟩ : ByteArray), .string (⟨#[]⟩ : ByteArray)]) (t := 73) ?_; intro gb166 hg w4 hbox hb; have BK166 := am (hbox); have GW166 := am ((by rw [hg]; exact (below_size (bel2 GE164.out GE165.out)) : w.heap.size ≤ gb166)); have GE166 := am ((by rw [hg]; exact (below_size (bel2 GE164.out GE165.out)) : w.heap.size ≤ gb166)); replace HB := am (below_step (bel2 GE164.out GE165.out) hb); have NB164_166 := am ((b85_ : gb164 ≠ gb166)); have NB166_164 := am ((b86_ : gb166 ≠ gb164)); replace BK164 := am (blk_below (bq BK164.out) hb); have NB165_166 := am ((by rw [hg]; exact Nat.ne_of_lt (blk_lt (g := gb165) (o := .cells #[.string (⟨#[]⟩ : ByteArray), .bool false, .string (⟨#[]⟩ : ByteArray), .string (⟨#[]⟩ : ByteArray), .string (⟨#[]⟩ : ByteArray)] 73 (0, 0)) (bq BK165.out)) : gb165 ≠ gb166)); have NB166_165 := am ((by rw [hg]; exact Nat.ne_of_gt (blk_lt (g := gb165) (o := .cells #[.string (⟨#[]⟩ : ByteArray), .bool false, .string (⟨#[]⟩ : ByteArray), .string (⟨#[]⟩ : ByteArray), .string (⟨#[]⟩ : ByteArray)] 73 (0, 0)) (bq BK165.out)) : gb166 ≠ gb165)); replace BK165 := am (blk_below (bq BK165.out) hb); clear hb hbox hg; have hnb5 := NB164_165.out; have hnc5 := NB165_164.out; have hnb6 := NB164_166.out; have hnc6 := NB166_164.out; have ⟨hcz7_0, hcz7_1, hcz7_2, hcz7_3, hcz7_4, hfz7_0, hfz7_1, hfz7_2, hfz7_3, hfz7_4⟩ := b5c BK164.out; have hnb8 := NB166_165.out; have hnc8 := NB165_166.out; have ⟨hcz9_0, hcz9_1, hcz9_2, hcz9_3, hcz9_4, hfz9_0, hfz9_1, hfz9_2, hfz9_3, hfz9_4⟩ := b5c BK166.out; have ⟨hcz10_0, hcz10_1, hcz10_2, hcz10_3, hcz10_4, hfz10_0, hfz10_1, hfz10_2, hfz10_3, hfz10_4⟩ := b5c BK165.out))
 refine bodyPost_ret (results_cell_row rfl _ _ gb165 73 #[.string a0_0, .bool a0_1, .string a0_2, .string a0_3, .string a0_4] (0, 0) _ rfl (by (with_reducible repeat (first | refine blk_drewN ?_ _ | refine blk_drew ?_ | refine blk_alloc ?_ _)); refine blk_put (cs := #[.string a0_0, .bool a0_1, .string a0_2, .string a0_3, .string (⟨#[]⟩ : ByteArray)]) ?_ 4 _ rfl; (with_reducible repeat (first | refine blk_drewN ?_ _ | refine blk_drew ?_ | refine blk_alloc ?_ _)); refine blk_put (cs := #[.string a0_0, .bool a0_1, .string a0_2, .string (⟨#[]⟩ : ByteArray), .string (⟨#[]⟩ : ByteArray)]) ?_ 3 _ rfl; (with_reducible repeat (first | refine blk_drewN ?_ _ | refine blk_drew ?_ | refine blk_alloc ?_ _)); refine blk_put (cs := #[.string a0_0, .bool a0_1, .string (⟨#[]⟩ : ByteArray), .string (⟨#[]⟩ : ByteArray), .string (⟨#[]⟩ : ByteArray)]) ?_ 2 _ rfl; (with_reducible repeat (first | refine blk_drewN ?_ _ | refine blk_drew ?_ | refine blk_alloc ?_ _)); refine blk_put (cs := #[.string a0_0, .bool false, .string (⟨#[]⟩ : ByteArray), .string (⟨#[]⟩ : ByteArray), .string (⟨#[]⟩ : ByteArray)]) ?_ 1 _ rfl; (with_reducible repeat (first | refine blk_drewN ?_ _ | refine blk_drew ?_ | refine blk_alloc ?_ _)); refine blk_put (cs := #[.string (⟨#[]⟩ : ByteArray), .bool false, .string (⟨#[]⟩ : ByteArray), .string (⟨#[]⟩ : ByteArray), .string (⟨#[]⟩ : ByteArray)]) ?_ 0 _ rfl; (with_reducible repeat (first | refine blk_drewN ?_ _ | refine blk_drew ?_ | refine blk_alloc ?_ _)); refine blk_far ?_ NB165_166.out _; (with_reducible repeat (first | refine blk_drewN ?_ _ | refine blk_drew ?_ | refine blk_alloc ?_ _)); refine blk_far ?_ NB165_166.out _; (with_reducible repeat (first | refine blk_drewN ?_ _ | refine blk_drew ?_ | refine blk_alloc ?_ _)); refine blk_far ?_ NB165_166.out _; (with_reducible repeat (first | refine blk_drewN ?_ _ | refine blk_drew ?_ | refine blk_alloc ?_ _)); refine blk_far ?_ NB165_166.out _; (with_reducible repeat (first | refine blk_drewN ?_ _ | refine blk_drew ?_ | refine blk_alloc ?_ _)); refine blk_far ?_ NB165_166.out _; (with_reducible repeat (first | refine blk_drewN ?_ _ | refine blk_drew ?_ | refine blk_alloc ?_ _)); exact BK165.out) Try.underlying73 rfl (by kernel_rfl)) rfl ?_
 exact ⟨eq_, bel3 GE164.out GE165.out GE166.out⟩

/-! ### laws_toAffixS: function 36 -/
def laws_toAffixS.l0 : Nat → List (S103) → List (S73) → Int → Option ((List (S73)))
 | 0, _, _, _ => none
 | k + 1, x0, x3, x4 => if x4 < (x0.length : Int) then (if 0 ≤ x4 then ((laws_toAffix.f ((rd_T103 x0 x4).f0) ((rd_T103 x0 x4).f1) ((rd_T103 x0 x4).f2) ((rd_T103 x0 x4).f3) ((rd_T103 x0 x4).f4)).bind fun bt171 => (if x4 < (x3.length : Int) then (laws_toAffixS.l0 k x0 (x3.set (x4 : Int).toNat (⟨bt171.1, bt171.2.1, bt171.2.2.1, bt171.2.2.2.1, bt171.2.2.2.2⟩ : S73)) (wrap64 (x4 + 1))) else (none))) else (none)) else (some x3)
def laws_toAffixS.f (k : Nat) (l0 : List (S103)) : Option ((List (S73))) := if 0 ≤ (l0.length : Int) then (if l0.length ≤ 3909374676536 then (laws_toAffixS.l0 k l0 (List.replicate l0.length z73) 0) else (none)) else (none)
theorem laws_toAffixS.calls (k : Nat) (A0 : Option Addr) (c0 : Nat) (l0 : List (S103)) (r : List (S73)) (w : World) (hr0 : Kd.C k103 w A0 l0.length l0) (hc0 : l0.length ≤ c0) (h : laws_toAffixS.f k l0 = some r) :
  Calls Try.prog 36 #[.slice A0 l0.length c0] w fun e w' => ∃ v0_ : Value, e = .returned (v0_) ∧ Kd.R k73 73 w' w.heap.size (fun _ => True) v0_ r ∧ Below w.heap.size w w' := by
 have hu103 := Try.underlying103; have hu73 := Try.underlying73; have HR0 := am hr0; have HC0 := am hc0; clear hr0 hc0; have HB := am (Below.refl w.heap.size w)
 have H : (if 0 ≤ (l0.length : Int) then (if l0.length ≤ 3909374676536 then (laws_toAffixS.l0 k l0 (List.replicate l0.length z73) 0) else (none)) else (none)) = some r := h
 clear h
 replace H := ip H; obtain ⟨c2, H⟩ := H; have c2b0 := eq_true c2
 have c2b1 : decide (0 ≤ (l0.length : Int)) = true := decide_eq_true c2
 clear c2
 replace H := ip H; obtain ⟨c3, H⟩ := H; have c3b0 := eq_true c3
 have c3b1 : decide (l0.length ≤ 3909374676536) = true := decide_eq_true c3
 clear c3; obtain ⟨y167, hy167⟩ : ∃ y_ : List (S73), y_ = (List.replicate l0.length z73) := ⟨_, rfl⟩
 replace H : (laws_toAffixS.l0 k l0 y167 0) = some r := by first | (rw [hy167]; with_reducible exact H) | (have H2_ := bm H; rw [hy167]; with_reducible exact H2_) | (with_reducible exact bm H) | with_reducible exact H | (rw [hy167]; exact H) | exact H
 have Ny167 := am hy167; clear hy167
 have H' := am H
 clear H; go_enter Try.func36, Try.ntmps36
 go_wp2_with (first | ((with_reducible refine gate_dst (N := 7) rfl ?_); refine Kd.R_make k73 _ 73 rfl (N := 7) rfl 29 _ _ rfl (l0.length : Int) rfl rfl Try.underlying29 (.agg #[(.string ⟨#[]⟩), (.bool false), (.string ⟨#[]⟩), (.string ⟨#[]⟩), (.string ⟨#[]⟩)]) 72 info73 rfl (by decide) (by omega) z73 (ok := fun _ => True) (okp := fun _ => True) (k73_mkM _ _ _ z73 ) (fun _ hk => hk) trivial (of_decide_eq_true ad) (Nat.le_trans (Nat.mul_le_mul_right _ (of_decide_eq_true ad : (l0.length : Int).toNat ≤ 3909374676536)) (by omega)) (Below.refl _ _) (Nat.le_refl _) ?_; intro v168 w4 ho5 hb hg_ hnew_; clear hg_ hnew_; (first | rw [← Ny167.out] at ho5 | (simp only [Int.reduceToNat] at ho5; rw [← Ny167.out] at ho5) | (simp only [Int.toNat_natCast] at ho5; rw [← Ny167.out] at ho5)); have HO169 := am (Kd.R_lower ho5 (below_size bel)); replace HB := am (below_step bel hb); clear hb ho5))
 go_loopg [4] k (fun kq v4 w' => ∃ (x3_1 : List (S73)) (x4_1 : Int), v4 = .int .i64 x4_1 ∧ Aside0 (laws_toAffixS.l0 kq l0 x3_1 x4_1 = some r) ∧ Aside0 (kq ≤ k) ∧ Aside0 (Kd.R k73 73 w' w.heap.size (fun _ => True) v168 x3_1) ∧ Aside0 (Below w.heap.size w w'))
 case atStart => exact ⟨(y167), (0), sq, H', ⟨Nat.le_refl _⟩, ⟨rq HO169.out⟩, ⟨bel⟩⟩
 case round =>
  clear H'; (try clear c2); (try clear c2b0); (try clear c2b1); (try clear p2); (try clear c3); (try clear c3b0); (try clear c3b1); obtain ⟨x3_1, x4_1, rfl, HA, HK1, HO_3, HB⟩ := hrel
  cases gk with
  | zero => exact absurd HA.out (by simp [laws_toAffixS.l0])
  | succ k1 =>
   have H := HA.out; clear HA; simp only [laws_toAffixS.l0] at H
   by_cases c6 : x4_1 < (l0.length : Int)
   ·rw [if_pos c6] at H; have c6b0 := decide_eq_true c6; clear c6
    replace H := it H; obtain ⟨c7b0, H⟩ := H; replace H := bs H; obtain ⟨⟨t171, t172, t173, t174, t175⟩, A80, H⟩ := H; dsimp only at H; have A8 := Aside0.mk A80; clear A80
    replace H := it H; obtain ⟨c9b0, H⟩ := H; obtain ⟨y176, hy176⟩ : ∃ y_ : List (S73), y_ = (x3_1.set (x4_1 : Int).toNat (⟨t171, t172, t173, t174, t175⟩ : S73)) := ⟨_, rfl⟩
    replace H : (laws_toAffixS.l0 k1 l0 y176 (wrap64 (x4_1 + 1))) = some r := by first | (rw [hy176]; with_reducible exact H) | (have H2_ := bm H; rw [hy176]; with_reducible exact H2_) | (with_reducible exact bm H) | with_reducible exact H | (rw [hy176]; exact H) | exact H
    have Ny176 := am hy176; clear hy176
    have H' := am H
    clear H
    have p170 : 0 ≤ (x4_1 : Int) := of_decide_eq_true ad
    have q170 : x4_1 < (l0.length : Int) := of_decide_eq_true ad
    obtain ⟨ad170, e170, hx170_0, hx170_1, hx170_2, hx170_3, hx170_4⟩ := at_T103 HR0.out x4_1 p170 q170; cases e170; replace hx170_0 := kp HB.out hx170_0; replace hx170_1 := kp HB.out hx170_1; replace hx170_2 := kp HB.out hx170_2; replace hx170_3 := kp HB.out hx170_3; replace hx170_4 := kp HB.out hx170_4; replace p170 := eq_true p170; replace q170 := eq_true q170
    go_wp2_with (first | ((with_reducible refine gate_callee (f := 82) rfl ?_); refine gl 20 Try.func82 #[.agg #[.string ((rd_T103 l0 x4_1).f0), .bool ((rd_T103 l0 x4_1).f1), .string ((rd_T103 l0 x4_1).f2), .string ((rd_T103 l0 x4_1).f3), .string ((rd_T103 l0 x4_1).f4)]] ?_; (with_reducible refine (laws_toAffix.calls ((rd_T103 l0 x4_1).f0) ((rd_T103 l0 x4_1).f1) ((rd_T103 l0 x4_1).f2) ((rd_T103 l0 x4_1).f3) ((rd_T103 l0 x4_1).f4) t171 t172 t173 t174 t175 _ A8.out).mono ?_); rintro e w11 ⟨rfl, hb⟩; refine ⟨_, rfl, ?_⟩; replace HO_3 := am (Kd.R_below (rq HO_3.out) hb); replace HB := am (below_step bel hb); clear hb; have p10 : 0 ≤ (x4_1 : Int) := of_decide_eq_true ad; have q10 : (x4_1 : Int) < ((x3_1.length : Int) : Int) := of_decide_eq_true ad; obtain ⟨go10, co10, eo10, gb10, gl10, cl10, HG10⟩ := Kd.R_form HO_3.out (by omega); (first | cases eo10 | (injection eo10 with ea_ en_ ec_; (first | subst ea_ | (injection ea_ with ea_; subst ea_)); subst ec_; clear en_)); have GB10 := Aside0.mk gb10; have GG10 := am HG10; clear gb10 gl10 HG10; obtain ⟨ce10, hcl10, hM10, hcc10, hfr10⟩ := Kd.R_elem HO_3.out z73 (x4_1 : Int) p10 q10; obtain rfl := k73_openM hM10; have hx10_0 : w11.cell? ⟨go10, (x4_1 : Int).toNat * 5, none⟩ = some (.string ((rd_T73 x3_1 x4_1).f0)) := hcc10 0 _ rfl; have hx10_1 : w11.cell? ⟨go10, (x4_1 : Int).toNat * 5 + 1, none⟩ = some (.bool ((rd_T73 x3_1 x4_1).f1)) := hcc10 1 _ rfl; have hx10_2 : w11.cell? ⟨go10, (x4_1 : Int).toNat * 5 + 2, none⟩ = some (.string ((rd_T73 x3_1 x4_1).f2)) := hcc10 2 _ rfl; have hx10_3 : w11.cell? ⟨go10, (x4_1 : Int).toNat * 5 + 3, none⟩ = some (.string ((rd_T73 x3_1 x4_1).f3)) := hcc10 3 _ rfl; have hx10_4 : w11.cell? ⟨go10, (x4_1 : Int).toNat * 5 + 4, none⟩ = some (.string ((rd_T73 x3_1 x4_1).f4)) := hcc10 4 _ rfl; have hf10_0 : w11.frozen? ⟨go10, (x4_1 : Int).toNat * 5, none⟩ = false := hfr10 0; have hf10_1 : w11.frozen? ⟨go10, (x4_1 : Int).toNat * 5 + 1, none⟩ = false := hfr10 1; have hf10_2 : w11.frozen? ⟨go10, (x4_1 : Int).toNat * 5 + 2, none⟩ = false := hfr10 2; have hf10_3 : w11.frozen? ⟨go10, (x4_1 : Int).toNat * 5 + 3, none⟩ = false := hfr10 3; have hf10_4 : w11.frozen? ⟨go10, (x4_1 : Int).toNat * 5 + 4, none⟩ = false := hfr10 4; clear hcl10 hcc10 hfr10; (try clear hM10); replace p10 := eq_true p10; replace q10 := eq_true q10; have HX12 := am (show Kd.R k73 73 w11 w.heap.size (fun _ => True) (.slice (some ⟨go10, 0, none⟩) x3_1.length co10) x3_1 from (rq HO_3.out)); obtain ⟨ce12, hcl12, hM12, hcc12, hfr12⟩ := Kd.R_elem HX12.out z73 (x4_1 : Int) (of_decide_eq_true ad) b60_; obtain rfl := k73_openM hM12; have HP12 := Kd.R_seg HX12.out (x4_1 : Int) (of_decide_eq_true ad) b60_ (seg := [.string t171, .bool t172, .string t173, .string t174, .string t175]) (j := 0) hcl12 hcc12 (show 5 ≤ 5 from by decide) (x' := (⟨t171, t172, t173, t174, t175⟩ : S73)) (k73_mkM _ _ _ (⟨t171, t172, t173, t174, t175⟩ : S73) ) (fun _ hk => hk); have hx12_0 := hcc12 0 _ rfl; (try simp only [show (k73).sz = 5 from rfl, Nat.mul_one, Nat.add_zero] at hx12_0); have hf12_0 := hfr12 0; (try simp only [show (k73).sz = 5 from rfl, Nat.mul_one, Nat.add_zero] at hf12_0); have hx12_1 := hcc12 1 _ rfl; (try simp only [show (k73).sz = 5 from rfl, Nat.mul_one, Nat.add_zero] at hx12_1); have hf12_1 := hfr12 1; (try simp only [show (k73).sz = 5 from rfl, Nat.mul_one, Nat.add_zero] at hf12_1); have hx12_2 := hcc12 2 _ rfl; (try simp only [show (k73).sz = 5 from rfl, Nat.mul_one, Nat.add_zero] at hx12_2); have hf12_2 := hfr12 2; (try simp only [show (k73).sz = 5 from rfl, Nat.mul_one, Nat.add_zero] at hf12_2); have hx12_3 := hcc12 3 _ rfl; (try simp only [show (k73).sz = 5 from rfl, Nat.mul_one, Nat.add_zero] at hx12_3); have hf12_3 := hfr12 3; (try simp only [show (k73).sz = 5 from rfl, Nat.mul_one, Nat.add_zero] at hf12_3); have hx12_4 := hcc12 4 _ rfl; (try simp only [show (k73).sz = 5 from rfl, Nat.mul_one, Nat.add_zero] at hx12_4); have hf12_4 := hfr12 4; (try simp only [show (k73).sz = 5 from rfl, Nat.mul_one, Nat.add_zero] at hf12_4); clear hcl12 hcc12 hfr12; (try clear hM12)) | ((with_reducible refine gate_store (t := 73) (p := 21) rfl ?_); refine store_event (t := 73) (p := 21) (v := ?vo_w13) (w1 := (((((w11.setCell ⟨go10, (x4_1 : Int).toNat * 5, none⟩ (.string t171)).setCell ⟨go10, (x4_1 : Int).toNat * 5 + 1, none⟩ (.bool t172)).setCell ⟨go10, (x4_1 : Int).toNat * 5 + 2, none⟩ (.string t173)).setCell ⟨go10, (x4_1 : Int).toNat * 5 + 3, none⟩ (.string t174)).setCell ⟨go10, (x4_1 : Int).toNat * 5 + 4, none⟩ (.string t175))) ?hg ?ho ?hn ?hr ?_; (case ho => rfl); (case hg => rfl); (case hn => rfl); (case hr => first | (go_simp; done) | (go_simp; rfl)); intro w13 hw; have hg : w11.grownBy w13 (some go10) := (by rw [hw]; exact HP12.2); have hp_ : Kd.R k73 73 w13 w.heap.size (fun _ => True) (.slice (some ⟨go10, 0, none⟩) x3_1.length co10) y176 := (by rw [hw, Ny176.out]; exact HP12.1); clear HP12; replace HO_3 := am (hp_); replace HB := am ((by rw [hw]; exact below_set (below_set (below_set (below_set (below_set (HB.out) GB10.out) GB10.out) GB10.out) GB10.out) GB10.out : Below w.heap.size w w13)); clear hg hw hp_))
    go_roundg k1
    case measure => have := HK1.out; omega
    case rel => exact ⟨(y176), (wrap64 (x4_1 + 1)), sq, H', ⟨b58_⟩, ⟨rq HO_3.out⟩, ⟨bel⟩⟩
   rw [if_neg c6] at H; have c6b0 := decide_eq_false c6; clear c6; obtain rfl := Option.some.inj H; go_wp2; go_ret
   exact ⟨_, eq_, by (with_reducible repeat (first | apply Kd.R_alloc | apply Kd.R_drewN | apply Kd.R_drew)); exact HO_3.out, bel⟩

/-! ### laws_toEntry: function 83 -/
def laws_toEntry.f (a0_0 : ByteArray) (a0_1 : ByteArray) : Option (ByteArray × ByteArray) := some (a0_0, a0_1)
theorem laws_toEntry.calls (a0_0 : ByteArray) (a0_1 : ByteArray) (r1 : ByteArray) (r2 : ByteArray) (w : World) (h : laws_toEntry.f a0_0 a0_1 = some (r1, r2)) :
  Calls Try.prog 83 #[.agg #[.string a0_0, .string a0_1]] w fun e w' => e = .returned (.agg #[.string r1, .string r2]) ∧ Below w.heap.size w w' := by
 have hu105 := Try.underlying105; have hu66 := Try.underlying66; have HB := am (Below.refl w.heap.size w)
 have H : (some (a0_0, a0_1)) = some (r1, r2) := h
 clear h
 simp only [Option.some.injEq, Prod.mk.injEq] at H
 obtain ⟨rfl, rfl⟩ := H; go_enter Try.func83, Try.ntmps83
 go_wp2_with (first | ((with_reducible refine gate_dst (N := 1) rfl ?_); refine bx 1 (cs := #[.string a0_0, .string a0_1]) (t := 105) ?_; intro gb177 hg w2 hbox hb; have BK177 := am (hbox); have GW177 := am ((b5_ : w.heap.size ≤ gb177)); have GE177 := am ((b5_ : w.heap.size ≤ gb177)); replace HB := am (below_step bel hb); clear hb hbox hg) | ((with_reducible refine gate_dst (N := 2) rfl ?_); refine bx 2 (cs := #[.string (⟨#[]⟩ : ByteArray), .string (⟨#[]⟩ : ByteArray)]) (t := 66) ?_; intro gb178 hg w3 hbox hb; have BK178 := am (hbox); have GW178 := am ((by rw [hg]; exact (below_size (bel1 GE177.out)) : w.heap.size ≤ gb178)); have GE178 := am ((by rw [hg]; exact (below_size (bel1 GE177.out)) : w.heap.size ≤ gb178)); replace HB := am (below_step (bel1 GE177.out) hb); have NB177_178 := am ((by rw [hg]; exact Nat.ne_of_lt (blk_lt (g := gb177) (o := .cells #[.string a0_0, .string a0_1] 105 (0, 0)) (bq BK177.out)) : gb177 ≠ gb178)); have NB178_177 := am ((by rw [hg]; exact Nat.ne_of_gt (blk_lt (g := gb177) (o := .cells #[.string a0_0, .string a0_1] 105 (0, 0)) (bq BK177.out)) : gb178 ≠ gb177)); replace BK177 := am (blk_below (bq BK177.out) hb); clear hb hbox hg) | ((with_reducible refine gate_dst (N := 3) rfl ?_); refine bx 3 (cs := #[.string (⟨#[]⟩ : ByteArray), .string (⟨#[]⟩ : ByteArray)]) (t := 66) ?_; intro gb179 hg w4 hbox hb; have BK179 := am (hbox); have GW179 := am ((by rw [hg]; exact (below_size (bel2 GE177.out GE178.out)) : w.heap.size ≤ gb179)); have GE179 := am ((by rw [hg]; exact (below_size (bel2 GE177.out GE178.out)) : w.heap.size ≤ gb179)); replace HB := am (below_step (bel2 GE177.out GE178.out) hb); have NB177_179 := am ((by rw [hg]; exact Nat.ne_of_lt (blk_lt (g := gb177) (o := .cells #[.string a0_0, .string a0_1] 105 (0, 0)) (bq BK177.out)) : gb177 ≠ gb179)); have NB179_177 := am ((by rw [hg]; exact Nat.ne_of_gt (blk_lt (g := gb177) (o := .cells #[.string a0_0, .string a0_1] 105 (0, 0)) (bq BK177.out)) : gb179 ≠ gb177)); replace BK177 := am (blk_below (bq BK177.out) hb); have NB178_179 := am ((by rw [hg]; exact Nat.ne_of_lt (blk_lt (g := gb178) (o := .cells #[.string (⟨#[]⟩ : ByteArray), .string (⟨#[]⟩ : ByteArray)] 66 (0, 0)) (bq BK178.out)) : gb178 ≠ gb179)); have NB179_178 := am ((by rw [hg]; exact Nat.ne_of_gt (blk_lt (g := gb178) (o := .cells #[.string (⟨#[]⟩ : ByteArray), .string (⟨#[]⟩ : ByteArray)] 66 (0, 0)) (bq BK178.out)) : gb179 ≠ gb178)); replace BK178 := am (blk_below (bq BK178.out) hb); clear hb hbox hg; have hnb5 := NB177_178.out; have hnc5 := NB178_177.out; have hnb6 := NB177_179.out; have hnc6 := NB179_177.out; have ⟨hcz7_0, hcz7_1, hfz7_0, hfz7_1⟩ := b2c BK177.out; have hnb8 := NB179_178.out; have hnc8 := NB178_179.out; have ⟨hcz9_0, hcz9_1, hfz9_0, hfz9_1⟩ := b2c BK179.out; have ⟨hcz10_0, hcz10_1, hfz10_0, hfz10_1⟩ := b2c BK178.out))
 refine bodyPost_ret (results_cell_row rfl _ _ gb178 66 #[.string a0_0, .string a0_1] (0, 0) _ rfl (by (with_reducible repeat (first | refine blk_drewN ?_ _ | refine blk_drew ?_ | refine blk_alloc ?_ _)); refine blk_put (cs := #[.string a0_0, .string (⟨#[]⟩ : ByteArray)]) ?_ 1 _ rfl; (with_reducible repeat (first | refine blk_drewN ?_ _ | refine blk_drew ?_ | refine blk_alloc ?_ _)); refine blk_put (cs := #[.string (⟨#[]⟩ : ByteArray), .string (⟨#[]⟩ : ByteArray)]) ?_ 0 _ rfl; (with_reducible repeat (first | refine blk_drewN ?_ _ | refine blk_drew ?_ | refine blk_alloc ?_ _)); refine blk_far ?_ NB178_179.out _; (with_reducible repeat (first | refine blk_drewN ?_ _ | refine blk_drew ?_ | refine blk_alloc ?_ _)); refine blk_far ?_ NB178_179.out _; (with_reducible repeat (first | refine blk_drewN ?_ _ | refine blk_drew ?_ | refine blk_alloc ?_ _)); exact BK178.out) Try.underlying66 rfl (by kernel_rfl)) rfl ?_
 exact ⟨eq_, bel3 GE177.out GE178.out GE179.out⟩

/-! ### laws_toEntryS: function 37 -/
def laws_toEntryS.l0 : Nat → List (S105) → List (S66) → Int → Option ((List (S66)))
 | 0, _, _, _ => none
 | k + 1, x0, x3, x4 => if x4 < (x0.length : Int) then (if 0 ≤ x4 then ((laws_toEntry.f ((rd_T105 x0 x4).f0) ((rd_T105 x0 x4).f1)).bind fun bt184 => (if x4 < (x3.length : Int) then (laws_toEntryS.l0 k x0 (x3.set (x4 : Int).toNat (⟨bt184.1, bt184.2⟩ : S66)) (wrap64 (x4 + 1))) else (none))) else (none)) else (some x3)
def laws_toEntryS.f (k : Nat) (l0 : List (S105)) : Option ((List (S66))) := if 0 ≤ (l0.length : Int) then (if l0.length ≤ 8796093022208 then (laws_toEntryS.l0 k l0 (List.replicate l0.length z66) 0) else (none)) else (none)
theorem laws_toEntryS.calls (k : Nat) (A0 : Option Addr) (c0 : Nat) (l0 : List (S105)) (r : List (S66)) (w : World) (hr0 : Kd.C k105 w A0 l0.length l0) (hc0 : l0.length ≤ c0) (h : laws_toEntryS.f k l0 = some r) :
  Calls Try.prog 37 #[.slice A0 l0.length c0] w fun e w' => ∃ v0_ : Value, e = .returned (v0_) ∧ Kd.R k66 66 w' w.heap.size (fun _ => True) v0_ r ∧ Below w.heap.size w w' := by
 have hu105 := Try.underlying105; have hu66 := Try.underlying66; have HR0 := am hr0; have HC0 := am hc0; clear hr0 hc0; have HB := am (Below.refl w.heap.size w)
 have H : (if 0 ≤ (l0.length : Int) then (if l0.length ≤ 8796093022208 then (laws_toEntryS.l0 k l0 (List.replicate l0.length z66) 0) else (none)) else (none)) = some r := h
 clear h
 replace H := ip H; obtain ⟨c2, H⟩ := H; have c2b0 := eq_true c2
 have c2b1 : decide (0 ≤ (l0.length : Int)) = true := decide_eq_true c2
 clear c2
 replace H := ip H; obtain ⟨c3, H⟩ := H; have c3b0 := eq_true c3
 have c3b1 : decide (l0.length ≤ 8796093022208) = true := decide_eq_true c3
 clear c3; obtain ⟨y180, hy180⟩ : ∃ y_ : List (S66), y_ = (List.replicate l0.length z66) := ⟨_, rfl⟩
 replace H : (laws_toEntryS.l0 k l0 y180 0) = some r := by first | (rw [hy180]; with_reducible exact H) | (have H2_ := bm H; rw [hy180]; with_reducible exact H2_) | (with_reducible exact bm H) | with_reducible exact H | (rw [hy180]; exact H) | exact H
 have Ny180 := am hy180; clear hy180
 have H' := am H
 clear H; go_enter Try.func37, Try.ntmps37
 go_wp2_with (first | ((with_reducible refine gate_dst (N := 7) rfl ?_); refine Kd.R_make k66 _ 66 rfl (N := 7) rfl 28 _ _ rfl (l0.length : Int) rfl rfl Try.underlying28 (.agg #[(.string ⟨#[]⟩), (.string ⟨#[]⟩)]) 32 info66 rfl (by decide) (by omega) z66 (ok := fun _ => True) (okp := fun _ => True) (k66_mkM _ _ _ z66 ) (fun _ hk => hk) trivial (of_decide_eq_true ad) (Nat.le_trans (Nat.mul_le_mul_right _ (of_decide_eq_true ad : (l0.length : Int).toNat ≤ 8796093022208)) (by omega)) (Below.refl _ _) (Nat.le_refl _) ?_; intro v181 w4 ho5 hb hg_ hnew_; clear hg_ hnew_; (first | rw [← Ny180.out] at ho5 | (simp only [Int.reduceToNat] at ho5; rw [← Ny180.out] at ho5) | (simp only [Int.toNat_natCast] at ho5; rw [← Ny180.out] at ho5)); have HO182 := am (Kd.R_lower ho5 (below_size bel)); replace HB := am (below_step bel hb); clear hb ho5))
 go_loopg [4] k (fun kq v4 w' => ∃ (x3_1 : List (S66)) (x4_1 : Int), v4 = .int .i64 x4_1 ∧ Aside0 (laws_toEntryS.l0 kq l0 x3_1 x4_1 = some r) ∧ Aside0 (kq ≤ k) ∧ Aside0 (Kd.R k66 66 w' w.heap.size (fun _ => True) v181 x3_1) ∧ Aside0 (Below w.heap.size w w'))
 case atStart => exact ⟨(y180), (0), sq, H', ⟨Nat.le_refl _⟩, ⟨rq HO182.out⟩, ⟨bel⟩⟩
 case round =>
  clear H'; (try clear c2); (try clear c2b0); (try clear c2b1); (try clear p2); (try clear c3); (try clear c3b0); (try clear c3b1); obtain ⟨x3_1, x4_1, rfl, HA, HK1, HO_3, HB⟩ := hrel
  cases gk with
  | zero => exact absurd HA.out (by simp [laws_toEntryS.l0])
  | succ k1 =>
   have H := HA.out; clear HA; simp only [laws_toEntryS.l0] at H
   by_cases c6 : x4_1 < (l0.length : Int)
   ·rw [if_pos c6] at H; have c6b0 := decide_eq_true c6; clear c6
    replace H := it H; obtain ⟨c7b0, H⟩ := H; replace H := bs H; obtain ⟨⟨t184, t185⟩, A80, H⟩ := H; dsimp only at H; have A8 := Aside0.mk A80; clear A80
    replace H := it H; obtain ⟨c9b0, H⟩ := H; obtain ⟨y186, hy186⟩ : ∃ y_ : List (S66), y_ = (x3_1.set (x4_1 : Int).toNat (⟨t184, t185⟩ : S66)) := ⟨_, rfl⟩
    replace H : (laws_toEntryS.l0 k1 l0 y186 (wrap64 (x4_1 + 1))) = some r := by first | (rw [hy186]; with_reducible exact H) | (have H2_ := bm H; rw [hy186]; with_reducible exact H2_) | (with_reducible exact bm H) | with_reducible exact H | (rw [hy186]; exact H) | exact H
    have Ny186 := am hy186; clear hy186
    have H' := am H
    clear H
    have p183 : 0 ≤ (x4_1 : Int) := of_decide_eq_true ad
    have q183 : x4_1 < (l0.length : Int) := of_decide_eq_true ad
    obtain ⟨ad183, e183, hx183_0, hx183_1⟩ := at_T105 HR0.out x4_1 p183 q183; cases e183; replace hx183_0 := kp HB.out hx183_0; replace hx183_1 := kp HB.out hx183_1; replace p183 := eq_true p183; replace q183 := eq_true q183
    go_wp2_with (first | ((with_reducible refine gate_callee (f := 83) rfl ?_); refine gl 20 Try.func83 #[.agg #[.string ((rd_T105 l0 x4_1).f0), .string ((rd_T105 l0 x4_1).f1)]] ?_; (with_reducible refine (laws_toEntry.calls ((rd_T105 l0 x4_1).f0) ((rd_T105 l0 x4_1).f1) t184 t185 _ A8.out).mono ?_); rintro e w11 ⟨rfl, hb⟩; refine ⟨_, rfl, ?_⟩; replace HO_3 := am (Kd.R_below (rq HO_3.out) hb); replace HB := am (below_step bel hb); clear hb; have p10 : 0 ≤ (x4_1 : Int) := of_decide_eq_true ad; have q10 : (x4_1 : Int) < ((x3_1.length : Int) : Int) := of_decide_eq_true ad; obtain ⟨go10, co10, eo10, gb10, gl10, cl10, HG10⟩ := Kd.R_form HO_3.out (by omega); (first | cases eo10 | (injection eo10 with ea_ en_ ec_; (first | subst ea_ | (injection ea_ with ea_; subst ea_)); subst ec_; clear en_)); have GB10 := Aside0.mk gb10; have GG10 := am HG10; clear gb10 gl10 HG10; obtain ⟨ce10, hcl10, hM10, hcc10, hfr10⟩ := Kd.R_elem HO_3.out z66 (x4_1 : Int) p10 q10; obtain rfl := k66_openM hM10; have hx10_0 : w11.cell? ⟨go10, (x4_1 : Int).toNat * 2, none⟩ = some (.string ((rd_T66 x3_1 x4_1).f0)) := hcc10 0 _ rfl; have hx10_1 : w11.cell? ⟨go10, (x4_1 : Int).toNat * 2 + 1, none⟩ = some (.string ((rd_T66 x3_1 x4_1).f1)) := hcc10 1 _ rfl; have hf10_0 : w11.frozen? ⟨go10, (x4_1 : Int).toNat * 2, none⟩ = false := hfr10 0; have hf10_1 : w11.frozen? ⟨go10, (x4_1 : Int).toNat * 2 + 1, none⟩ = false := hfr10 1; clear hcl10 hcc10 hfr10; (try clear hM10); replace p10 := eq_true p10; replace q10 := eq_true q10; have HX12 := am (show Kd.R k66 66 w11 w.heap.size (fun _ => True) (.slice (some ⟨go10, 0, none⟩) x3_1.length co10) x3_1 from (rq HO_3.out)); obtain ⟨ce12, hcl12, hM12, hcc12, hfr12⟩ := Kd.R_elem HX12.out z66 (x4_1 : Int) (of_decide_eq_true ad) b60_; obtain rfl := k66_openM hM12; have HP12 := Kd.R_seg HX12.out (x4_1 : Int) (of_decide_eq_true ad) b60_ (seg := [.string t184, .string t185]) (j := 0) hcl12 hcc12 (show 2 ≤ 2 from by decide) (x' := (⟨t184, t185⟩ : S66)) (k66_mkM _ _ _ (⟨t184, t185⟩ : S66) ) (fun _ hk => hk); have hx12_0 := hcc12 0 _ rfl; (try simp only [show (k66).sz = 2 from rfl, Nat.mul_one, Nat.add_zero] at hx12_0); have hf12_0 := hfr12 0; (try simp only [show (k66).sz = 2 from rfl, Nat.mul_one, Nat.add_zero] at hf12_0); have hx12_1 := hcc12 1 _ rfl; (try simp only [show (k66).sz = 2 from rfl, Nat.mul_one, Nat.add_zero] at hx12_1); have hf12_1 := hfr12 1; (try simp only [show (k66).sz = 2 from rfl, Nat.mul_one, Nat.add_zero] at hf12_1); clear hcl12 hcc12 hfr12; (try clear hM12)) | ((with_reducible refine gate_store (t := 66) (p := 21) rfl ?_); refine store_event (t := 66) (p := 21) (v := ?vo_w13) (w1 := ((w11.setCell ⟨go10, (x4_1 : Int).toNat * 2, none⟩ (.string t184)).setCell ⟨go10, (x4_1 : Int).toNat * 2 + 1, none⟩ (.string t185))) ?hg ?ho ?hn ?hr ?_; (case ho => rfl); (case hg => rfl); (case hn => rfl); (case hr => first | (go_simp; done) | (go_simp; rfl)); intro w13 hw; have hg : w11.grownBy w13 (some go10) := (by rw [hw]; exact HP12.2); have hp_ : Kd.R k66 66 w13 w.heap.size (fun _ => True) (.slice (some ⟨go10, 0, none⟩) x3_1.length co10) y186 := (by rw [hw, Ny186.out]; exact HP12.1); clear HP12; replace HO_3 := am (hp_); replace HB := am ((by rw [hw]; exact below_set (below_set (HB.out) GB10.out) GB10.out : Below w.heap.size w w13)); clear hg hw hp_))
    go_roundg k1
    case measure => have := HK1.out; omega
    case rel => exact ⟨(y186), (wrap64 (x4_1 + 1)), sq, H', ⟨b58_⟩, ⟨rq HO_3.out⟩, ⟨bel⟩⟩
   rw [if_neg c6] at H; have c6b0 := decide_eq_false c6; clear c6; obtain rfl := Option.some.inj H; go_wp2; go_ret
   exact ⟨_, eq_, by (with_reducible repeat (first | apply Kd.R_alloc | apply Kd.R_drewN | apply Kd.R_drew)); exact HO_3.out, bel⟩

/-! ### laws_toBook: function 8 -/
def laws_toBook.f (k : Nat) (l0_0 : List (S103)) (l0_1 : List (S105)) : Option ((List (S73)) × (List (S66))) := (laws_toAffixS.f k l0_0).bind fun t190 => ((laws_toEntryS.f k l0_1).bind fun t193 => (some (t190, t193)))
theorem laws_toBook.calls (k : Nat) (A0_0 : Option Addr) (c0_0 : Nat) (l0_0 : List (S103)) (A0_1 : Option Addr) (c0_1 : Nat) (l0_1 : List (S105)) (r1 : List (S73)) (r2 : List (S66)) (w : World) (hr0_0 : Kd.C k103 w A0_0 l0_0.length l0_0) (hc0_0 : l0_0.length ≤ c0_0) (hr0_1 : Kd.C k105 w A0_1 l0_1.length l0_1) (hc0_1 : l0_1.length ≤ c0_1) (h : laws_toBook.f k l0_0 l0_1 = some (r1, r2)) :
  Calls Try.prog 8 #[.agg #[.slice A0_0 l0_0.length c0_0, .slice A0_1 l0_1.length c0_1]] w fun e w' => ∃ v0_ v1_ : Value, e = .returned (.agg #[v0_, v1_]) ∧ Kd.R k73 73 w' w.heap.size (fun _ => True) v0_ r1 ∧ Kd.R k66 66 w' w.heap.size (fun _ => True) v1_ r2 ∧ Below w.heap.size w w' := by
 have hu25 := Try.underlying25; have hu34 := Try.underlying34; have HR0_0 := am hr0_0; have HC0_0 := am hc0_0; clear hr0_0 hc0_0; have HR0_1 := am hr0_1; have HC0_1 := am hc0_1; clear hr0_1 hc0_1; have HB := am (Below.refl w.heap.size w)
 have H : ((laws_toAffixS.f k l0_0).bind fun t190 => ((laws_toEntryS.f k l0_1).bind fun t193 => (some (t190, t193)))) = some (r1, r2) := h
 clear h; replace H := bs H; obtain ⟨t190, A20, H⟩ := H; (try dsimp only at H); have A2 := Aside0.mk A20; clear A20; replace H := bs H; obtain ⟨t193, A30, H⟩ := H; (try dsimp only at H); have A3 := Aside0.mk A30; clear A30
 simp only [Option.some.injEq, Prod.mk.injEq] at H
 obtain ⟨rfl, rfl⟩ := H; go_enter Try.func8, Try.ntmps8
 go_wp2_with (first | ((with_reducible refine gate_dst (N := 1) rfl ?_); refine bx 1 (cs := #[.slice A0_0 l0_0.length c0_0, .slice A0_1 l0_1.length c0_1]) (t := 25) ?_; intro gb187 hg w4 hbox hb; have BK187 := am (hbox); have GW187 := am ((b5_ : w.heap.size ≤ gb187)); have GE187 := am ((b5_ : w.heap.size ≤ gb187)); replace HB := am (below_step bel hb); clear hb hbox hg) | ((with_reducible refine gate_dst (N := 2) rfl ?_); refine bx 2 (cs := #[.slice none 0 0, .slice none 0 0]) (t := 34) ?_; intro gb188 hg w5 hbox hb; have BK188 := am (hbox); have GW188 := am ((by rw [hg]; exact (below_size (bel1 GE187.out)) : w.heap.size ≤ gb188)); have GE188 := am ((by rw [hg]; exact (below_size (bel1 GE187.out)) : w.heap.size ≤ gb188)); replace HB := am (below_step (bel1 GE187.out) hb); have NB187_188 := am ((b98_ : gb187 ≠ gb188)); have NB188_187 := am ((b99_ : gb188 ≠ gb187)); replace BK187 := am (blk_below (bq BK187.out) hb); clear hb hbox hg) | ((with_reducible refine gate_dst (N := 3) rfl ?_); refine bx 3 (cs := #[.slice none 0 0, .slice none 0 0]) (t := 34) ?_; intro gb189 hg w6 hbox hb; have BK189 := am (hbox); have GW189 := am ((by rw [hg]; exact (below_size (bel2 GE187.out GE188.out)) : w.heap.size ≤ gb189)); have GE189 := am ((by rw [hg]; exact (below_size (bel2 GE187.out GE188.out)) : w.heap.size ≤ gb189)); replace HB := am (below_step (bel2 GE187.out GE188.out) hb); have NB187_189 := am ((b98_ : gb187 ≠ gb189)); have NB189_187 := am ((b99_ : gb189 ≠ gb187)); replace BK187 := am (blk_below (bq BK187.out) hb); have NB188_189 := am ((by rw [hg]; exact Nat.ne_of_lt (blk_lt (g := gb188) (o := .cells #[.slice none 0 0, .slice none 0 0] 34 (0, 0)) (bq BK188.out)) : gb188 ≠ gb189)); have NB189_188 := am ((by rw [hg]; exact Nat.ne_of_gt (blk_lt (g := gb188) (o := .cells #[.slice none 0 0, .slice none 0 0] 34 (0, 0)) (bq BK188.out)) : gb189 ≠ gb188)); replace BK188 := am (blk_below (bq BK188.out) hb); clear hb hbox hg; have hnb7 := NB187_188.out; have hnc7 := NB188_187.out; have hnb8 := NB187_189.out; have hnc8 := NB189_187.out; have ⟨hcz9_0, hcz9_1, hfz9_0, hfz9_1⟩ := b2c BK187.out) | ((with_reducible refine gate_callee (f := 36) rfl ?_); refine gl 6 Try.func36 #[.slice A0_0 l0_0.length c0_0] ?_; (with_reducible refine (laws_toAffixS.calls k _ _ l0_0 t190 _ ?side1 ?side2 A2.out).mono ?_); (case side1 => exact cq (Kd.C_below HR0_0.out HB.out)); (case side2 => exact HC0_0.out); rintro e w10 ⟨v191, rfl, ho0, hb⟩; refine ⟨_, rfl, ?_⟩; have HO192 := am (Kd.R_lower ho0 (below_size (bel3 GE187.out GE188.out GE189.out))); replace BK187 := am (blk_below (bq BK187.out) hb); replace BK188 := am (blk_below (bq BK188.out) hb); replace BK189 := am (blk_below (bq BK189.out) hb); replace HB := am (below_step (bel3 GE187.out GE188.out GE189.out) hb); clear hb; (try clear ho0); obtain ⟨Ao11, co11, eo11⟩ := Kd.R_slice HO192.out; subst eo11; have hnb12 := NB189_188.out; have hnc12 := NB188_189.out; have ⟨hcz13_0, hcz13_1, hfz13_0, hfz13_1⟩ := b2c BK189.out; have ⟨hcz14_0, hcz14_1, hfz14_0, hfz14_1⟩ := b2c BK187.out) | ((with_reducible refine gate_callee (f := 37) rfl ?_); refine gl 10 Try.func37 #[.slice A0_1 l0_1.length c0_1] ?_; (with_reducible refine (laws_toEntryS.calls k _ _ l0_1 t193 _ ?side1 ?side2 A3.out).mono ?_); (case side1 => exact Kd.C_below HR0_1.out (bel3 GE187.out GE188.out GE189.out)); (case side2 => exact HC0_1.out); rintro e w15 ⟨v194, rfl, ho0, hb⟩; refine ⟨_, rfl, ?_⟩; replace HO192 := am (Kd.R_below (rq ((Kd.R_mono (Kd.R_far (p := ⟨gb189, 0, none⟩) (Kd.R_types HO192.out BK189.out (by decide)) (fun _ hk => hk.2) (.slice Ao11 t190.length co11)) (fun _ h_ => h_.1)))) hb); have HO195 := am (Kd.R_lower ho0 (below_size (bel3 GE187.out GE188.out GE189.out))); replace BK187 := am (blk_below (g := gb187) (o := .cells #[.slice A0_0 l0_0.length c0_0, .slice A0_1 l0_1.length c0_1] 25 (0, 0)) (by (with_reducible repeat (first | refine blk_drewN ?_ _ | refine blk_drew ?_ | refine blk_alloc ?_ _)); refine blk_far ?_ NB187_189.out _; (with_reducible repeat (first | refine blk_drewN ?_ _ | refine blk_drew ?_ | refine blk_alloc ?_ _)); exact BK187.out) hb); replace BK188 := am (blk_below (g := gb188) (o := .cells #[.slice none 0 0, .slice none 0 0] 34 (0, 0)) (by (with_reducible repeat (first | refine blk_drewN ?_ _ | refine blk_drew ?_ | refine blk_alloc ?_ _)); refine blk_far ?_ NB188_189.out _; (with_reducible repeat (first | refine blk_drewN ?_ _ | refine blk_drew ?_ | refine blk_alloc ?_ _)); exact BK188.out) hb); replace BK189 := am (blk_below (g := gb189) (o := .cells #[.slice Ao11 t190.length co11, .slice none 0 0] 34 (0, 0)) (by (with_reducible repeat (first | refine blk_drewN ?_ _ | refine blk_drew ?_ | refine blk_alloc ?_ _)); refine blk_put (cs := #[.slice none 0 0, .slice none 0 0]) ?_ 0 _ rfl; (with_reducible repeat (first | refine blk_drewN ?_ _ | refine blk_drew ?_ | refine blk_alloc ?_ _)); exact BK189.out) hb); replace HB := am (below_step (bel3 GE187.out GE188.out GE189.out) hb); clear hb; (try clear ho0); obtain ⟨Ao16, co16, eo16⟩ := Kd.R_slice HO195.out; subst eo16; have ⟨hcz17_0, hcz17_1, hfz17_0, hfz17_1⟩ := b2c BK189.out; have ⟨hcz18_0, hcz18_1, hfz18_0, hfz18_1⟩ := b2c BK188.out))
 refine bodyPost_ret (results_cell_row rfl _ _ gb188 34 #[.slice Ao11 t190.length co11, .slice Ao16 t193.length co16] (0, 0) _ rfl (by (with_reducible repeat (first | refine blk_drewN ?_ _ | refine blk_drew ?_ | refine blk_alloc ?_ _)); refine blk_put (cs := #[.slice Ao11 t190.length co11, .slice none 0 0]) ?_ 1 _ rfl; (with_reducible repeat (first | refine blk_drewN ?_ _ | refine blk_drew ?_ | refine blk_alloc ?_ _)); refine blk_put (cs := #[.slice none 0 0, .slice none 0 0]) ?_ 0 _ rfl; (with_reducible repeat (first | refine blk_drewN ?_ _ | refine blk_drew ?_ | refine blk_alloc ?_ _)); refine blk_far ?_ NB188_189.out _; (with_reducible repeat (first | refine blk_drewN ?_ _ | refine blk_drew ?_ | refine blk_alloc ?_ _)); exact BK188.out) Try.underlying34 rfl (by kernel_rfl)) rfl ?_
 exact ⟨_, _, eq_, by (with_reducible repeat (first | apply Kd.R_alloc | apply Kd.R_drewN | apply Kd.R_drew)); exact Kd.R_mono (Kd.R_far (p := ⟨gb188, 1, none⟩) (Kd.R_far (p := ⟨gb188, 0, none⟩) (Kd.R_far (p := ⟨gb189, 1, none⟩) (Kd.R_types (Kd.R_types HO192.out BK189.out (by decide)) BK188.out (by decide)) (fun _ hk => hk.1.2) (.slice Ao16 t193.length co16)) (fun _ hk => hk.2) (.slice Ao11 t190.length co11)) (fun _ hk => hk.2) (.slice Ao16 t193.length co16)) (fun _ hk => trivial), by (with_reducible repeat (first | apply Kd.R_alloc | apply Kd.R_drewN | apply Kd.R_drew)); exact Kd.R_mono (Kd.R_far (p := ⟨gb188, 1, none⟩) (Kd.R_far (p := ⟨gb188, 0, none⟩) (Kd.R_far (p := ⟨gb189, 1, none⟩) (Kd.R_types (Kd.R_types HO195.out BK189.out (by decide)) BK188.out (by decide)) (fun _ hk => hk.1.2) (.slice Ao16 t193.length co16)) (fun _ hk => hk.2) (.slice Ao11 t190.length co11)) (fun _ hk => hk.2) (.slice Ao16 t193.length co16)) (fun _ hk => trivial), bel3 GE187.out GE188.out GE189.out⟩

/-! ### impl_within: function 77 -/
def impl_within.f (a0 : Int) (a1 : Int) (a2 : Int) : Option (Bool) := if a0 ≥ a1 then (some (decide (a0 ≤ a2))) else (some false)
theorem impl_within.calls (a0 : Int) (a1 : Int) (a2 : Int) (r : Bool) (w : World) (h : impl_within.f a0 a1 a2 = some r) :
  Calls Try.prog 77 #[.int .i64 a0, .int .i64 a1, .int .i64 a2] w fun e w' => e = .returned (.bool r) ∧ Drawn0 w w' := by
 have H : (if a0 ≥ a1 then (some (decide (a0 ≤ a2))) else (some false)) = some r := h
 clear h
 by_cases c4 : a0 ≥ a1
 ·rw [if_pos c4] at H; have c4b0 := decide_eq_true c4; clear c4; obtain rfl := Option.some.inj H; go_enter Try.func77, Try.ntmps77; go_wp2; go_ret
  exact ⟨sq, dr⟩
 rw [if_neg c4] at H; have c4b0 := decide_eq_false c4; clear c4; obtain rfl := Option.some.inj H; go_enter Try.func77, Try.ntmps77; go_wp2; go_ret
 exact ⟨sq, dr⟩

/-! ### impl_lower: function 109 -/
def impl_lower.l0 : Nat → ByteArray → Int → Int → Option (Bool)
 | 0, _, _, _ => none
 | k + 1, x0, x5, x6 => if x6 < x5 then (if 0 ≤ x6 then (if x6 < (x0.size : Int) then (if (bt x0 x6) < 97 then (some false) else (if (bt x0 x6) > 122 then (some false) else (impl_lower.l0 k x0 x5 (wrap64 (x6 + 1))))) else (none)) else (none)) else (some true)
def impl_lower.f (k : Nat) (a0 : ByteArray) : Option (Bool) := impl_lower.l0 k a0 (a0.size : Int) 0
theorem impl_lower.calls (k : Nat) (a0 : ByteArray) (r : Bool) (w : World) (h : impl_lower.f k a0 = some r) :
  Calls Try.prog 109 #[.string a0] w fun e w' => e = .returned (.bool r) ∧ Drawn0 w w' := by
 have H : (impl_lower.l0 k a0 (a0.size : Int) 0) = some r := h
 clear h
 have H' := am H
 clear H; go_enter Try.func109, Try.ntmps109; go_wp2
 go_loopg [6] k (fun kq v6 w' => ∃ (x6_1 : Int), v6 = .int .i64 x6_1 ∧ Aside0 (impl_lower.l0 kq a0 (a0.size : Int) x6_1 = some r) ∧ Aside0 (kq ≤ k) ∧ Drawn0 w w')
 case atStart => exact ⟨(0), sq, H', ⟨Nat.le_refl _⟩, dr⟩
 case round =>
  clear H'; (try clear c1); obtain ⟨x6_1, rfl, HA, HK1, ⟨m1, rfl⟩⟩ := hrel
  cases gk with
  | zero => exact absurd HA.out (by simp [impl_lower.l0])
  | succ k1 =>
   have H := HA.out; clear HA; simp only [impl_lower.l0] at H
   by_cases c2 : x6_1 < (a0.size : Int)
   ·rw [if_pos c2] at H; have c2b0 := decide_eq_true c2; clear c2
    replace H := it H; obtain ⟨c3b0, H⟩ := H; replace H := it H; obtain ⟨c4b0, H⟩ := H
    by_cases c6 : (bt a0 x6_1) < 97
    ·rw [if_pos c6] at H; have c6b0 := decide_eq_true c6; clear c6; obtain rfl := Option.some.inj H
     have p5 : 0 ≤ (x6_1 : Int) := of_decide_eq_true ad
     have q5 : x6_1 < (a0.size : Int) := of_decide_eq_true ad
     have hx5 := bt_at a0 x6_1; replace p5 := eq_true p5; replace q5 := eq_true q5; go_wp2; go_ret
     exact ⟨sq, dr⟩
    rw [if_neg c6] at H; have c6b0 := decide_eq_false c6; clear c6
    by_cases c8 : (bt a0 x6_1) > 122
    ·rw [if_pos c8] at H; have c8b0 := decide_eq_true c8; clear c8; obtain rfl := Option.some.inj H
     have p5 : 0 ≤ (x6_1 : Int) := of_decide_eq_true ad
     have q5 : x6_1 < (a0.size : Int) := of_decide_eq_true ad
     have hx5 := bt_at a0 x6_1; replace p5 := eq_true p5; replace q5 := eq_true q5
     have p7 : 0 ≤ (x6_1 : Int) := of_decide_eq_true ad
     have q7 : x6_1 < (a0.size : Int) := of_decide_eq_true ad
     have hx7 := bt_at a0 x6_1; replace p7 := eq_true p7; replace q7 := eq_true q7; go_wp2; go_ret
     exact ⟨sq, dr⟩
    rw [if_neg c8] at H; have c8b0 := decide_eq_false c8; clear c8
    have H' := am H
    clear H
    have p5 : 0 ≤ (x6_1 : Int) := of_decide_eq_true ad
    have q5 : x6_1 < (a0.size : Int) := of_decide_eq_true ad
    have hx5 := bt_at a0 x6_1; replace p5 := eq_true p5; replace q5 := eq_true q5
    have p7 : 0 ≤ (x6_1 : Int) := of_decide_eq_true ad
    have q7 : x6_1 < (a0.size : Int) := of_decide_eq_true ad
    have hx7 := bt_at a0 x6_1; replace p7 := eq_true p7; replace q7 := eq_true q7; go_wp2
    go_roundg k1
    case measure => have := HK1.out; omega
    case rel => exact ⟨(wrap64 (x6_1 + 1)), sq, H', ⟨b58_⟩, dr⟩
   rw [if_neg c2] at H; have c2b0 := decide_eq_false c2; clear c2; obtain rfl := Option.some.inj H; go_wp2; go_ret
   exact ⟨sq, dr⟩

/-! ### impl_WordOk: function 78 -/
def impl_WordOk.f (k : Nat) (a0 : ByteArray) : Option (Bool) := (impl_within.f (a0.size : Int) 1 12).bind fun t196 => (if t196 = true then ((impl_lower.f k a0).bind fun t197 => (some t197)) else (some false))
theorem impl_WordOk.calls (k : Nat) (a0 : ByteArray) (r : Bool) (w : World) (h : impl_WordOk.f k a0 = some r) :
  Calls Try.prog 78 #[.string a0] w fun e w' => e = .returned (.bool r) ∧ Drawn0 w w' := by
 have H : ((impl_within.f (a0.size : Int) 1 12).bind fun t196 => (if t196 = true then ((impl_lower.f k a0).bind fun t197 => (some t197)) else (some false))) = some r := h
 clear h; replace H := bs H; obtain ⟨t196, A20, H⟩ := H; (try dsimp only at H); have A2 := Aside0.mk A20; clear A20
 by_cases c3 : t196 = true
 ·subst c3
  rw [if_pos rfl] at H
  replace H := bs H; obtain ⟨t197, A40, H⟩ := H; (try dsimp only at H); have A4 := Aside0.mk A40; clear A40; obtain rfl := Option.some.inj H; go_enter Try.func78, Try.ntmps78
  go_wp2_with (first | ((with_reducible refine gate_callee (f := 77) rfl ?_); refine gl 5 Try.func77 #[.int .i64 (a0.size : Int), .int .i64 1, .int .i64 12] ?_; (with_reducible refine (impl_within.calls (a0.size : Int) 1 12 true _ A2.out).mono ?_); rintro e w' ⟨rfl, ⟨nd, rfl⟩⟩; refine ⟨_, rfl, ?_⟩) | (go_at_call 109; (with_reducible refine (impl_lower.calls k a0 t197 _ A4.out).mono ?_); rintro e w' ⟨rfl, ⟨nd, rfl⟩⟩))
  go_ret
  exact ⟨sq, dr⟩
 replace c3 := Bool.eq_false_iff.mpr c3; subst c3
 rw [if_neg Bool.false_ne_true] at H
 obtain rfl := Option.some.inj H; go_enter Try.func78, Try.ntmps78
 go_wp2_with (first | ((with_reducible refine gate_callee (f := 77) rfl ?_); refine gl 5 Try.func77 #[.int .i64 (a0.size : Int), .int .i64 1, .int .i64 12] ?_; (with_reducible refine (impl_within.calls (a0.size : Int) 1 12 false _ A2.out).mono ?_); rintro e w' ⟨rfl, ⟨nd, rfl⟩⟩; refine ⟨_, rfl, ?_⟩))
 go_ret
 exact ⟨sq, dr⟩

/-! ### impl_upper: function 120 -/
def impl_upper.f (a0 : Int) : Option (Bool) := if a0 ≥ 65 then (some (decide (a0 ≤ 90))) else (some false)
theorem impl_upper.calls (a0 : Int) (r : Bool) (w : World) (h : impl_upper.f a0 = some r) :
  Calls Try.prog 120 #[.int .u8 a0] w fun e w' => e = .returned (.bool r) ∧ Drawn0 w w' := by
 have H : (if a0 ≥ 65 then (some (decide (a0 ≤ 90))) else (some false)) = some r := h
 clear h
 by_cases c2 : a0 ≥ 65
 ·rw [if_pos c2] at H; have c2b0 := decide_eq_true c2; clear c2; obtain rfl := Option.some.inj H; go_enter Try.func120, Try.ntmps120; go_wp2; go_ret
  exact ⟨sq, dr⟩
 rw [if_neg c2] at H; have c2b0 := decide_eq_false c2; clear c2; obtain rfl := Option.some.inj H; go_enter Try.func120, Try.ntmps120; go_wp2; go_ret
 exact ⟨sq, dr⟩

/-! ### impl_entryOk: function 99 -/
def impl_entryOk.l0 : Nat → Int → Int → ByteArray → ByteArray → Option (Bool)
 | 0, _, _, _, _ => none
 | k + 1, x6, x7, x199000, x199001 => if x7 < x6 then (if 0 ≤ x7 then (if x7 < (x199001.size : Int) then ((impl_upper.f (bt x199001 x7)).bind fun t199 => (if t199 = true then (if x7 > 0 then (if 0 ≤ (wrap64 (x7 - 1)) then (if (wrap64 (x7 - 1)) < (x199001.size : Int) then (if (bt x199001 (wrap64 (x7 - 1))) ≥ (bt x199001 x7) then (some false) else (impl_entryOk.l0 k x6 (wrap64 (x7 + 1)) x199000 x199001)) else (none)) else (none)) else (impl_entryOk.l0 k x6 (wrap64 (x7 + 1)) x199000 x199001)) else (some false))) else (none)) else (none)) else ((impl_WordOk.f k x199000).bind fun t200 => (if t200 = true then (some (decide ((x199001.size : Int) ≤ 4))) else (some false)))
def impl_entryOk.f (k : Nat) (a0_0 : ByteArray) (a0_1 : ByteArray) : Option (Bool) := impl_entryOk.l0 k (a0_1.size : Int) 0 a0_0 a0_1
theorem impl_entryOk.calls (k : Nat) (a0_0 : ByteArray) (a0_1 : ByteArray) (r : Bool) (w : World) (h : impl_entryOk.f k a0_0 a0_1 = some r) :
  Calls Try.prog 99 #[.agg #[.string a0_0, .string a0_1]] w fun e w' => e = .returned (.bool r) ∧ Below w.heap.size w w' := by
 have hu66 := Try.underlying66; have HB := am (Below.refl w.heap.size w)
 have H : (impl_entryOk.l0 k (a0_1.size : Int) 0 a0_0 a0_1) = some r := h
 clear h
 have H' := am H
 clear H; go_enter Try.func99, Try.ntmps99
 go_wp2_with (first | ((with_reducible refine gate_dst (N := 1) rfl ?_); (try (refine gate_guard (by rfl) ?_; dsimp only)); refine bx 1 (cs := #[.string a0_0, .string a0_1]) (t := 66) ?_; intro gb198 hg w2 hbox hb; have BK198 := am (hbox); have GW198 := am ((b5_ : w.heap.size ≤ gb198)); have GE198 := am ((b5_ : w.heap.size ≤ gb198)); replace HB := am (below_step bel hb); clear hb hbox hg; have ⟨hcz3_0, hcz3_1, hfz3_0, hfz3_1⟩ := b2c BK198.out))
 repeat (go_quiet (first | ((with_reducible refine gate_dst (N := 1) rfl ?_); (try (refine gate_guard (by rfl) ?_; dsimp only)); refine bx 1 (cs := #[.string a0_0, .string a0_1]) (t := 66) ?_; intro gb198 hg w2 hbox hb; have BK198 := am (hbox); have GW198 := am ((b5_ : w.heap.size ≤ gb198)); have GE198 := am ((b5_ : w.heap.size ≤ gb198)); replace HB := am (below_step bel hb); clear hb hbox hg; have ⟨hcz3_0, hcz3_1, hfz3_0, hfz3_1⟩ := b2c BK198.out)); try go_wp2_with (first | ((with_reducible refine gate_dst (N := 1) rfl ?_); (try (refine gate_guard (by rfl) ?_; dsimp only)); refine bx 1 (cs := #[.string a0_0, .string a0_1]) (t := 66) ?_; intro gb198 hg w2 hbox hb; have BK198 := am (hbox); have GW198 := am ((b5_ : w.heap.size ≤ gb198)); have GE198 := am ((b5_ : w.heap.size ≤ gb198)); replace HB := am (below_step bel hb); clear hb hbox hg; have ⟨hcz3_0, hcz3_1, hfz3_0, hfz3_1⟩ := b2c BK198.out)))
 go_loopg [7] k (fun kq v7 w' => ∃ (x7_1 : Int), v7 = .int .i64 x7_1 ∧ Aside0 (impl_entryOk.l0 kq (a0_1.size : Int) x7_1 a0_0 a0_1 = some r) ∧ Aside0 (kq ≤ k) ∧ Aside0 (w'.heap[gb198]? = some (.cells #[.string a0_0, .string a0_1] 66 (0, 0))) ∧ Aside0 (Below w.heap.size w w'))
 case atStart => exact ⟨(0), sq, H', ⟨Nat.le_refl _⟩, ⟨bq BK198.out⟩, ⟨bel1 GE198.out⟩⟩
 case round =>
  clear H'; (try clear p2); (try clear hcz3_0); (try clear hcz3_1); (try clear hfz3_0); (try clear hfz3_1); obtain ⟨x7_1, rfl, HA, HK1, BK198, HB⟩ := hrel
  cases gk with
  | zero => exact absurd HA.out (by simp [impl_entryOk.l0])
  | succ k1 =>
   have H := HA.out; clear HA; simp only [impl_entryOk.l0] at H
   by_cases c4 : x7_1 < (a0_1.size : Int)
   ·rw [if_pos c4] at H; have c4b0 := decide_eq_true c4; clear c4
    replace H := it H; obtain ⟨c5b0, H⟩ := H
    replace H := it H; obtain ⟨c6b0, H⟩ := H; replace H := bs H; obtain ⟨t199, A80, H⟩ := H; (try dsimp only at H); have A8 := Aside0.mk A80; clear A80
    by_cases c9 : t199 = true
    ·subst c9
     rw [if_pos rfl] at H
     by_cases c10 : x7_1 > 0
     ·rw [if_pos c10] at H; have c10b0 := decide_eq_true c10; clear c10; obtain ⟨ji11, hji11⟩ : ∃ j_ : Int, (wrap64 (x7_1 - 1)) = j_ := ⟨_, rfl⟩
      replace H : (if 0 ≤ (ji11) then (if (ji11) < (a0_1.size : Int) then (if (bt a0_1 (ji11)) ≥ (bt a0_1 x7_1) then (some false) else (impl_entryOk.l0 k1 (a0_1.size : Int) (wrap64 (x7_1 + 1)) a0_0 a0_1)) else (none)) else (none)) = some r := by first | (rw [hji11] at H; exact H) | (simp only [hji11] at H ⊢; exact H)
      (try rw [hji11] at A8)
      have hji11w : (IntKind.i64.wrap (x7_1 - 1)) = ji11 := (i64_w _).trans hji11
      replace H := it H; obtain ⟨c12b0, H⟩ := H; replace H := it H; obtain ⟨c13b0, H⟩ := H
      by_cases c16 : (bt a0_1 (ji11)) ≥ (bt a0_1 x7_1)
      ·rw [if_pos c16] at H; have c16b0 := decide_eq_true c16; clear c16; obtain rfl := Option.some.inj H; have ⟨hcz17_0, hcz17_1, hfz17_0, hfz17_1⟩ := b2c BK198.out
       have p7 : 0 ≤ (x7_1 : Int) := of_decide_eq_true ad
       have q7 : x7_1 < (a0_1.size : Int) := of_decide_eq_true ad
       have hx7 := bt_at a0_1 x7_1; replace p7 := eq_true p7; replace q7 := eq_true q7
       try have p14 : 0 ≤ ((ji11) : Int) := of_decide_eq_true ad
       try have q14 : (ji11) < (a0_1.size : Int) := of_decide_eq_true ad
       try have hx14 := bt_at a0_1 (ji11)
       try replace p14 := eq_true p14
       try replace q14 := eq_true q14
       try have p15 : 0 ≤ (x7_1 : Int) := of_decide_eq_true ad
       try have q15 : x7_1 < (a0_1.size : Int) := of_decide_eq_true ad
       try have hx15 := bt_at a0_1 x7_1
       try replace p15 := eq_true p15
       try replace q15 := eq_true q15
       go_wp2_with (first | (go_at_call 120; (with_reducible refine (impl_upper.calls (bt a0_1 x7_1) true _ A8.out).mono ?_); rintro e w' ⟨rfl, ⟨nd, rfl⟩⟩; first | exact ⟨rfl, _, World.drewN_drewN _ _ _⟩ | exact ⟨rfl, _, Eq.trans (World.drewN_drewN _ _ _) (congrArg (World.drewN _) (Nat.add_assoc _ _ _))⟩ | (have p14 : 0 ≤ ((ji11) : Int) := of_decide_eq_true ad; have q14 : (ji11) < (a0_1.size : Int) := of_decide_eq_true ad; have hx14 := bt_at a0_1 (ji11); replace p14 := eq_true p14; replace q14 := eq_true q14; have p15 : 0 ≤ (x7_1 : Int) := of_decide_eq_true ad; have q15 : x7_1 < (a0_1.size : Int) := of_decide_eq_true ad; have hx15 := bt_at a0_1 x7_1; replace p15 := eq_true p15; replace q15 := eq_true q15)))
       repeat (go_quiet (first | (go_at_call 120; (with_reducible refine (impl_upper.calls (bt a0_1 x7_1) true _ A8.out).mono ?_); rintro e w' ⟨rfl, ⟨nd, rfl⟩⟩; first | exact ⟨rfl, _, World.drewN_drewN _ _ _⟩ | exact ⟨rfl, _, Eq.trans (World.drewN_drewN _ _ _) (congrArg (World.drewN _) (Nat.add_assoc _ _ _))⟩ | (have p14 : 0 ≤ ((ji11) : Int) := of_decide_eq_true ad; have q14 : (ji11) < (a0_1.size : Int) := of_decide_eq_true ad; have hx14 := bt_at a0_1 (ji11); replace p14 := eq_true p14; replace q14 := eq_true q14; have p15 : 0 ≤ (x7_1 : Int) := of_decide_eq_true ad; have q15 : x7_1 < (a0_1.size : Int) := of_decide_eq_true ad; have hx15 := bt_at a0_1 x7_1; replace p15 := eq_true p15; replace q15 := eq_true q15))); try go_wp2_with (first | (go_at_call 120; (with_reducible refine (impl_upper.calls (bt a0_1 x7_1) true _ A8.out).mono ?_); rintro e w' ⟨rfl, ⟨nd, rfl⟩⟩; first | exact ⟨rfl, _, World.drewN_drewN _ _ _⟩ | exact ⟨rfl, _, Eq.trans (World.drewN_drewN _ _ _) (congrArg (World.drewN _) (Nat.add_assoc _ _ _))⟩ | (have p14 : 0 ≤ ((ji11) : Int) := of_decide_eq_true ad; have q14 : (ji11) < (a0_1.size : Int) := of_decide_eq_true ad; have hx14 := bt_at a0_1 (ji11); replace p14 := eq_true p14; replace q14 := eq_true q14; have p15 : 0 ≤ (x7_1 : Int) := of_decide_eq_true ad; have q15 : x7_1 < (a0_1.size : Int) := of_decide_eq_true ad; have hx15 := bt_at a0_1 x7_1; replace p15 := eq_true p15; replace q15 := eq_true q15))))
       go_ret
       exact ⟨by first | rfl | (simp [errW_none, errW_some] <;> rfl) | (simp only [← hji11]; first | rfl | (simp [errW_none, errW_some] <;> rfl)) | (simp [*, errW_none, errW_some] <;> rfl), bel1 GE198.out⟩
      rw [if_neg c16] at H; have c16b0 := decide_eq_false c16; clear c16
      have H' := am H
      clear H; have ⟨hcz18_0, hcz18_1, hfz18_0, hfz18_1⟩ := b2c BK198.out
      have p7 : 0 ≤ (x7_1 : Int) := of_decide_eq_true ad
      have q7 : x7_1 < (a0_1.size : Int) := of_decide_eq_true ad
      have hx7 := bt_at a0_1 x7_1; replace p7 := eq_true p7; replace q7 := eq_true q7
      try have p14 : 0 ≤ ((ji11) : Int) := of_decide_eq_true ad
      try have q14 : (ji11) < (a0_1.size : Int) := of_decide_eq_true ad
      try have hx14 := bt_at a0_1 (ji11)
      try replace p14 := eq_true p14
      try replace q14 := eq_true q14
      try have p15 : 0 ≤ (x7_1 : Int) := of_decide_eq_true ad
      try have q15 : x7_1 < (a0_1.size : Int) := of_decide_eq_true ad
      try have hx15 := bt_at a0_1 x7_1
      try replace p15 := eq_true p15
      try replace q15 := eq_true q15
      go_wp2_with (first | (go_at_call 120; (with_reducible refine (impl_upper.calls (bt a0_1 x7_1) true _ A8.out).mono ?_); rintro e w' ⟨rfl, ⟨nd, rfl⟩⟩; first | exact ⟨rfl, _, World.drewN_drewN _ _ _⟩ | exact ⟨rfl, _, Eq.trans (World.drewN_drewN _ _ _) (congrArg (World.drewN _) (Nat.add_assoc _ _ _))⟩ | (have p14 : 0 ≤ ((ji11) : Int) := of_decide_eq_true ad; have q14 : (ji11) < (a0_1.size : Int) := of_decide_eq_true ad; have hx14 := bt_at a0_1 (ji11); replace p14 := eq_true p14; replace q14 := eq_true q14; have p15 : 0 ≤ (x7_1 : Int) := of_decide_eq_true ad; have q15 : x7_1 < (a0_1.size : Int) := of_decide_eq_true ad; have hx15 := bt_at a0_1 x7_1; replace p15 := eq_true p15; replace q15 := eq_true q15)))
      repeat (go_quiet (first | (go_at_call 120; (with_reducible refine (impl_upper.calls (bt a0_1 x7_1) true _ A8.out).mono ?_); rintro e w' ⟨rfl, ⟨nd, rfl⟩⟩; first | exact ⟨rfl, _, World.drewN_drewN _ _ _⟩ | exact ⟨rfl, _, Eq.trans (World.drewN_drewN _ _ _) (congrArg (World.drewN _) (Nat.add_assoc _ _ _))⟩ | (have p14 : 0 ≤ ((ji11) : Int) := of_decide_eq_true ad; have q14 : (ji11) < (a0_1.size : Int) := of_decide_eq_true ad; have hx14 := bt_at a0_1 (ji11); replace p14 := eq_true p14; replace q14 := eq_true q14; have p15 : 0 ≤ (x7_1 : Int) := of_decide_eq_true ad; have q15 : x7_1 < (a0_1.size : Int) := of_decide_eq_true ad; have hx15 := bt_at a0_1 x7_1; replace p15 := eq_true p15; replace q15 := eq_true q15))); try go_wp2_with (first | (go_at_call 120; (with_reducible refine (impl_upper.calls (bt a0_1 x7_1) true _ A8.out).mono ?_); rintro e w' ⟨rfl, ⟨nd, rfl⟩⟩; first | exact ⟨rfl, _, World.drewN_drewN _ _ _⟩ | exact ⟨rfl, _, Eq.trans (World.drewN_drewN _ _ _) (congrArg (World.drewN _) (Nat.add_assoc _ _ _))⟩ | (have p14 : 0 ≤ ((ji11) : Int) := of_decide_eq_true ad; have q14 : (ji11) < (a0_1.size : Int) := of_decide_eq_true ad; have hx14 := bt_at a0_1 (ji11); replace p14 := eq_true p14; replace q14 := eq_true q14; have p15 : 0 ≤ (x7_1 : Int) := of_decide_eq_true ad; have q15 : x7_1 < (a0_1.size : Int) := of_decide_eq_true ad; have hx15 := bt_at a0_1 x7_1; replace p15 := eq_true p15; replace q15 := eq_true q15))))
      go_roundg k1
      case measure => have := HK1.out; omega
      case rel => exact ⟨(wrap64 (x7_1 + 1)), sq, H', ⟨b58_⟩, ⟨bq BK198.out⟩, ⟨bel1 GE198.out⟩⟩
     rw [if_neg c10] at H; have c10b0 := decide_eq_false c10; clear c10
     have H' := am H
     clear H; have ⟨hcz19_0, hcz19_1, hfz19_0, hfz19_1⟩ := b2c BK198.out
     have p7 : 0 ≤ (x7_1 : Int) := of_decide_eq_true ad
     have q7 : x7_1 < (a0_1.size : Int) := of_decide_eq_true ad
     have hx7 := bt_at a0_1 x7_1; replace p7 := eq_true p7; replace q7 := eq_true q7
     go_wp2_with (first | (go_at_call 120; (with_reducible refine (impl_upper.calls (bt a0_1 x7_1) true _ A8.out).mono ?_); rintro e w' ⟨rfl, ⟨nd, rfl⟩⟩; (try first | exact ⟨rfl, _, World.drewN_drewN _ _ _⟩ | exact ⟨rfl, _, Eq.trans (World.drewN_drewN _ _ _) (congrArg (World.drewN _) (Nat.add_assoc _ _ _))⟩)))
     repeat (go_quiet (first | (go_at_call 120; (with_reducible refine (impl_upper.calls (bt a0_1 x7_1) true _ A8.out).mono ?_); rintro e w' ⟨rfl, ⟨nd, rfl⟩⟩; (try first | exact ⟨rfl, _, World.drewN_drewN _ _ _⟩ | exact ⟨rfl, _, Eq.trans (World.drewN_drewN _ _ _) (congrArg (World.drewN _) (Nat.add_assoc _ _ _))⟩))); try go_wp2_with (first | (go_at_call 120; (with_reducible refine (impl_upper.calls (bt a0_1 x7_1) true _ A8.out).mono ?_); rintro e w' ⟨rfl, ⟨nd, rfl⟩⟩; (try first | exact ⟨rfl, _, World.drewN_drewN _ _ _⟩ | exact ⟨rfl, _, Eq.trans (World.drewN_drewN _ _ _) (congrArg (World.drewN _) (Nat.add_assoc _ _ _))⟩))))
     go_roundg k1
     case measure => have := HK1.out; omega
     case rel => exact ⟨(wrap64 (x7_1 + 1)), sq, H', ⟨b58_⟩, ⟨bq BK198.out⟩, ⟨bel1 GE198.out⟩⟩
    replace c9 := Bool.eq_false_iff.mpr c9; subst c9
    rw [if_neg Bool.false_ne_true] at H
    obtain rfl := Option.some.inj H; have ⟨hcz20_0, hcz20_1, hfz20_0, hfz20_1⟩ := b2c BK198.out
    have p7 : 0 ≤ (x7_1 : Int) := of_decide_eq_true ad
    have q7 : x7_1 < (a0_1.size : Int) := of_decide_eq_true ad
    have hx7 := bt_at a0_1 x7_1; replace p7 := eq_true p7; replace q7 := eq_true q7
    go_wp2_with (first | (go_at_call 120; (with_reducible refine (impl_upper.calls (bt a0_1 x7_1) false _ A8.out).mono ?_); rintro e w' ⟨rfl, ⟨nd, rfl⟩⟩; (try first | exact ⟨rfl, _, World.drewN_drewN _ _ _⟩ | exact ⟨rfl, _, Eq.trans (World.drewN_drewN _ _ _) (congrArg (World.drewN _) (Nat.add_assoc _ _ _))⟩)))
    repeat (go_quiet (first | (go_at_call 120; (with_reducible refine (impl_upper.calls (bt a0_1 x7_1) false _ A8.out).mono ?_); rintro e w' ⟨rfl, ⟨nd, rfl⟩⟩; (try first | exact ⟨rfl, _, World.drewN_drewN _ _ _⟩ | exact ⟨rfl, _, Eq.trans (World.drewN_drewN _ _ _) (congrArg (World.drewN _) (Nat.add_assoc _ _ _))⟩))); try go_wp2_with (first | (go_at_call 120; (with_reducible refine (impl_upper.calls (bt a0_1 x7_1) false _ A8.out).mono ?_); rintro e w' ⟨rfl, ⟨nd, rfl⟩⟩; (try first | exact ⟨rfl, _, World.drewN_drewN _ _ _⟩ | exact ⟨rfl, _, Eq.trans (World.drewN_drewN _ _ _) (congrArg (World.drewN _) (Nat.add_assoc _ _ _))⟩))))
    go_ret
    exact ⟨eq_, bel1 GE198.out⟩
   rw [if_neg c4] at H; have c4b0 := decide_eq_false c4; clear c4; replace H := bs H; obtain ⟨t200, A210, H⟩ := H; (try dsimp only at H); have A21 := Aside0.mk A210; clear A210
   by_cases c22 : t200 = true
   ·subst c22
    rw [if_pos rfl] at H
    obtain rfl := Option.some.inj H; have ⟨hcz23_0, hcz23_1, hfz23_0, hfz23_1⟩ := b2c BK198.out
    go_wp2_with (first | (go_at_call 78; (with_reducible refine (impl_WordOk.calls k1 a0_0 true _ A21.out).mono ?_); rintro e w' ⟨rfl, ⟨nd, rfl⟩⟩; (try first | exact ⟨rfl, _, World.drewN_drewN _ _ _⟩ | exact ⟨rfl, _, Eq.trans (World.drewN_drewN _ _ _) (congrArg (World.drewN _) (Nat.add_assoc _ _ _))⟩)))
    repeat (go_quiet (first | (go_at_call 78; (with_reducible refine (impl_WordOk.calls k1 a0_0 true _ A21.out).mono ?_); rintro e w' ⟨rfl, ⟨nd, rfl⟩⟩; (try first | exact ⟨rfl, _, World.drewN_drewN _ _ _⟩ | exact ⟨rfl, _, Eq.trans (World.drewN_drewN _ _ _) (congrArg (World.drewN _) (Nat.add_assoc _ _ _))⟩))); try go_wp2_with (first | (go_at_call 78; (with_reducible refine (impl_WordOk.calls k1 a0_0 true _ A21.out).mono ?_); rintro e w' ⟨rfl, ⟨nd, rfl⟩⟩; (try first | exact ⟨rfl, _, World.drewN_drewN _ _ _⟩ | exact ⟨rfl, _, Eq.trans (World.drewN_drewN _ _ _) (congrArg (World.drewN _) (Nat.add_assoc _ _ _))⟩))))
    go_ret
    exact ⟨eq_, bel1 GE198.out⟩
   replace c22 := Bool.eq_false_iff.mpr c22; subst c22
   rw [if_neg Bool.false_ne_true] at H
   obtain rfl := Option.some.inj H; have ⟨hcz24_0, hcz24_1, hfz24_0, hfz24_1⟩ := b2c BK198.out
   go_wp2_with (first | (go_at_call 78; (with_reducible refine (impl_WordOk.calls k1 a0_0 false _ A21.out).mono ?_); rintro e w' ⟨rfl, ⟨nd, rfl⟩⟩; (try first | exact ⟨rfl, _, World.drewN_drewN _ _ _⟩ | exact ⟨rfl, _, Eq.trans (World.drewN_drewN _ _ _) (congrArg (World.drewN _) (Nat.add_assoc _ _ _))⟩)))
   repeat (go_quiet (first | (go_at_call 78; (with_reducible refine (impl_WordOk.calls k1 a0_0 false _ A21.out).mono ?_); rintro e w' ⟨rfl, ⟨nd, rfl⟩⟩; (try first | exact ⟨rfl, _, World.drewN_drewN _ _ _⟩ | exact ⟨rfl, _, Eq.trans (World.drewN_drewN _ _ _) (congrArg (World.drewN _) (Nat.add_assoc _ _ _))⟩))); try go_wp2_with (first | (go_at_call 78; (with_reducible refine (impl_WordOk.calls k1 a0_0 false _ A21.out).mono ?_); rintro e w' ⟨rfl, ⟨nd, rfl⟩⟩; (try first | exact ⟨rfl, _, World.drewN_drewN _ _ _⟩ | exact ⟨rfl, _, Eq.trans (World.drewN_drewN _ _ _) (congrArg (World.drewN _) (Nat.add_assoc _ _ _))⟩))))
   go_ret
   exact ⟨eq_, bel1 GE198.out⟩
end Go.Proofs.Ytdfnijaacnlfaaa.QFnExactDeltaOf

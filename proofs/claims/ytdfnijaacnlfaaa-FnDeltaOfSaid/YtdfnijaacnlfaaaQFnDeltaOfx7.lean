import Derived.Test.YtdfnijaacnlfaaaQFnDeltaOfx0
import Derived.Test.YtdfnijaacnlfaaaVMSh2
namespace Go.Proofs.Ytdfnijaacnlfaaa.QFnDeltaOf
open Go.RowKit Go.Proofs.YtdfnijaacnlfaaaW.PrintWords Go.Proofs.YtdfnijaacnlfaaaW.PrintLast Go.Proofs.YtdfnijaacnlfaaaW.PrintMore Go.Proofs.Ytdfnijaacnlfaaa.Sh
attribute [local go_sem] max2_int min2_int max_two min_two max_three min_three max_four min_four
set_option linter.unusedVariables false
set_option linter.unusedSimpArgs false
set_option maxHeartbeats 8000000
set_option maxRecDepth 100000
-- shrunk

attribute [local go_sem high] eqA66
/-! ### spec_DeltaOf: function 7 -/
mutual
def spec_DeltaOf.j0 : Nat → Bool → List (S73) → List (S66) → List (S73) → List (S66) → Bool → Option (List ByteArray × (List (S66)) × Bool × (List (S73)))
 | 0, _, _, _, _, _, _ => none
 | k + 1, x20, x127000, x127001, x128000, x128001, x130002 => if x20 = true then (some (([] : List ByteArray), ([] : List (S66)), x130002, ([] : List (S73)))) else (spec_DeltaOf.l0 k 0 x127000 x127001 x128000 x128001 ([] : List ByteArray) x130002)
def spec_DeltaOf.l0 : Nat → Int → List (S73) → List (S66) → List (S73) → List (S66) → List ByteArray → Bool → Option (List ByteArray × (List (S66)) × Bool × (List (S73)))
 | 0, _, _, _, _, _, _, _ => none
 | k + 1, x6, x127000, x127001, x128000, x128001, x130000, x130002 => if x6 < (x127001.length : Int) then (if 0 ≤ x6 then ((spec_l5At.f k x128001 ((rd_T66 x127001 x6).f0)).bind fun bt133 => (if bt133.2 = true then (spec_DeltaOf.l0 k (wrap64 (x6 + 1)) x127000 x127001 x128000 x128001 x130000 x130002) else (if x130000.length < 8796093022208 then (spec_DeltaOf.l0 k (wrap64 (x6 + 1)) x127000 x127001 x128000 x128001 (x130000 ++ [(rd_T66 x127001 x6).f0]) x130002) else (none)))) else (none)) else (spec_DeltaOf.l1 k 0 x127000 x127001 x128000 x128001 x130000 ([] : List (S66)) x130002)
def spec_DeltaOf.l1 : Nat → Int → List (S73) → List (S66) → List (S73) → List (S66) → List ByteArray → List (S66) → Bool → Option (List ByteArray × (List (S66)) × Bool × (List (S73)))
 | 0, _, _, _, _, _, _, _, _ => none
 | k + 1, x9, x127000, x127001, x128000, x128001, x130000, x130001, x130002 => if x9 < (x128001.length : Int) then (if 0 ≤ x9 then ((spec_l5At.f k x127001 ((rd_T66 x128001 x9).f0)).bind fun bt140 => (if bt140.2 = true then (if 0 ≤ bt140.1 then (if bt140.1 < (x127001.length : Int) then (spec_DeltaOf.j3 k x9 (!((((rd_T66 x127001 bt140.1).f0).toList) == (((rd_T66 x128001 x9).f0).toList)) || (!((((rd_T66 x127001 bt140.1).f1).toList) == (((rd_T66 x128001 x9).f1).toList)))) x127000 x127001 x128000 x128001 x130000 x130001 x130002) else (none)) else (none)) else (spec_DeltaOf.j3 k x9 true x127000 x127001 x128000 x128001 x130000 x130001 x130002))) else (none)) else ((spec_l5Affixes.f k x127000 x128000).bind fun t148 => (if t148 = true then (some (x130000, x130001, x130002, ([] : List (S73)))) else ((some (([] : List (S73)) : List (S73))).bind fun y149 => (if y149.length + x128000.length < 1954687338268 then (some (x130000, x130001, true, (y149 ++ x128000))) else (none)))))
def spec_DeltaOf.j3 : Nat → Int → Bool → List (S73) → List (S66) → List (S73) → List (S66) → List ByteArray → List (S66) → Bool → Option (List ByteArray × (List (S66)) × Bool × (List (S73)))
 | 0, _, _, _, _, _, _, _, _, _ => none
 | k + 1, x9, x87, x127000, x127001, x128000, x128001, x130000, x130001, x130002 => if x87 = true then (if 0 ≤ x9 then (if x9 < (x128001.length : Int) then (if x130001.length < 4398046511104 then (spec_DeltaOf.l1 k (wrap64 (x9 + 1)) x127000 x127001 x128000 x128001 x130000 (x130001 ++ [(⟨(rd_T66 x128001 x9).f0, (rd_T66 x128001 x9).f1⟩ : S66)]) x130002) else (none)) else (none)) else (none)) else (spec_DeltaOf.l1 k (wrap64 (x9 + 1)) x127000 x127001 x128000 x128001 x130000 x130001 x130002)
end
def spec_DeltaOf.f (k : Nat) (l0_0 : List (S73)) (l0_1 : List (S66)) (l1_0 : List (S73)) (l1_1 : List (S66)) : Option (List ByteArray × (List (S66)) × Bool × (List (S73))) := (spec_BookOk.f k l0_0 l0_1).bind fun t130 => (if t130 = true then ((spec_BookOk.f k l1_0 l1_1).bind fun t131 => (spec_DeltaOf.j0 k (!t131) l0_0 l0_1 l1_0 l1_1 false)) else (spec_DeltaOf.j0 k true l0_0 l0_1 l1_0 l1_1 false))
def spec_DeltaOf.T7 : Bool × List (List Nat × List Nat) := (true, [([], []), ([0], [0]), ([], []), ([2], [2]), ([], []), ([3, 4], [3, 4]), ([5], [5]), ([6], [6]), ([1, 7], [1, 7]), ([8], [8]), ([9], [9]), ([9], [9]), ([10, 8, 0, 1, 2, 3, 4, 5, 6, 7, 8, 9, 10], [10]), ([11, 12, 0, 1, 2, 3, 4, 5, 6, 7, 8, 9, 10, 11, 12], [11])])
def spec_DeltaOf.B7 : List Nat := [0, 1, 0, 4, 0, 28, 60, 124, 255, 511, 1023, 1023, 2047, 8191]
theorem spec_DeltaOf.tab7 : rtab .any (opsOf Try.f7 7) = spec_DeltaOf.T7 := by kernel_rfl
theorem spec_DeltaOf.bits7 : waitsOk spec_DeltaOf.T7.2 spec_DeltaOf.B7 = true := by kernel_rfl
def spec_DeltaOf.T9 : Bool × List (List Nat × List Nat) := (true, [([], []), ([0], [0]), ([], []), ([2], [2]), ([], []), ([3, 4], [3, 4]), ([5], [5]), ([6], [6]), ([7], [7]), ([1, 8], [1, 8]), ([0, 1, 2, 3, 4, 5, 6, 7, 8, 9], []), ([10, 9, 9, 0, 1, 2, 3, 4, 5, 6, 7, 8, 9], [9, 10])])
def spec_DeltaOf.B9 : List Nat := [0, 1, 0, 4, 0, 28, 60, 124, 252, 511, 1023, 2047]
theorem spec_DeltaOf.tab9 : rtab .any (opsOf Try.f7 9) = spec_DeltaOf.T9 := by kernel_rfl
theorem spec_DeltaOf.bits9 : waitsOk spec_DeltaOf.T9.2 spec_DeltaOf.B9 = true := by kernel_rfl
def spec_DeltaOf.T13 : Bool × List (List Nat × List Nat) := (true, [([], []), ([0], [0]), ([], []), ([2], [2]), ([], []), ([3, 4], [3, 4]), ([5], [5]), ([6], [6]), ([1, 7], [1, 7]), ([8], [8]), ([9], [9]), ([9], [9]), ([10, 8, 0, 1, 2, 3, 4, 5, 6, 7, 8, 9, 10], [10]), ([11, 12, 0, 1, 2, 3, 4, 5, 6, 7, 8, 9, 10, 11, 12], [11])])
def spec_DeltaOf.B13 : List Nat := [0, 1, 0, 4, 0, 28, 60, 124, 255, 511, 1023, 1023, 2047, 8191]
theorem spec_DeltaOf.tab13 : rtab .any (opsOf Try.f7 13) = spec_DeltaOf.T13 := by kernel_rfl
theorem spec_DeltaOf.bits13 : waitsOk spec_DeltaOf.T13.2 spec_DeltaOf.B13 = true := by kernel_rfl
def spec_DeltaOf.T14 : Bool × List (List Nat × List Nat) := (true, [([], []), ([0], [0]), ([1], [1]), ([2], [2]), ([3, 2], [2, 3]), ([2], [2]), ([4, 5, 2], [2, 4, 5]), ([6, 2], [2, 6]), ([2], [2]), ([8, 2], [2, 8]), ([2], [2]), ([9, 10, 2], [2, 9, 10]), ([11, 2], [2, 11]), ([7, 12, 2], [2, 7, 12]), ([2, 13], [2, 13])])
def spec_DeltaOf.B14 : List Nat := [0, 1, 3, 7, 15, 7, 63, 127, 7, 263, 7, 1799, 3847, 8191, 16383]
theorem spec_DeltaOf.tab14 : rtab .any (opsOf Try.f7 14) = spec_DeltaOf.T14 := by kernel_rfl
theorem spec_DeltaOf.bits14 : waitsOk spec_DeltaOf.T14.2 spec_DeltaOf.B14 = true := by kernel_rfl
def spec_DeltaOf.T15 : Bool × List (List Nat × List Nat) := (true, [([], []), ([0], [0]), ([], []), ([2], [2]), ([], []), ([3, 4], [3, 4]), ([5], [5]), ([6], [6]), ([1, 7], [1, 7]), ([0, 1, 2, 3, 4, 5, 6, 7, 8], []), ([9, 8, 8, 0, 1, 2, 3, 4, 5, 6, 7, 8], [8, 9])])
def spec_DeltaOf.B15 : List Nat := [0, 1, 0, 4, 0, 28, 60, 124, 255, 511, 1023]
theorem spec_DeltaOf.tab15 : rtab .any (opsOf Try.f7 15) = spec_DeltaOf.T15 := by kernel_rfl
theorem spec_DeltaOf.bits15 : waitsOk spec_DeltaOf.T15.2 spec_DeltaOf.B15 = true := by kernel_rfl
theorem spec_DeltaOf.calls (k : Nat) (A0_0 : Option Addr) (c0_0 : Nat) (l0_0 : List (S73)) (A0_1 : Option Addr) (c0_1 : Nat) (l0_1 : List (S66)) (A1_0 : Option Addr) (c1_0 : Nat) (l1_0 : List (S73)) (A1_1 : Option Addr) (c1_1 : Nat) (l1_1 : List (S66)) (r1 : List ByteArray) (r2 : List (S66)) (r3 : Bool) (r4 : List (S73)) (w : World) (hr0_0 : Kd.C k73 w A0_0 l0_0.length l0_0) (hc0_0 : l0_0.length ≤ c0_0) (hr0_1 : Kd.C k66 w A0_1 l0_1.length l0_1) (hc0_1 : l0_1.length ≤ c0_1) (hr1_0 : Kd.C k73 w A1_0 l1_0.length l1_0) (hc1_0 : l1_0.length ≤ c1_0) (hr1_1 : Kd.C k66 w A1_1 l1_1.length l1_1) (hc1_1 : l1_1.length ≤ c1_1) (h : spec_DeltaOf.f k l0_0 l0_1 l1_0 l1_1 = some (r1, r2, r3, r4)) :
  Calls Try.prog 7 #[.agg #[.slice A0_0 l0_0.length c0_0, .slice A0_1 l0_1.length c0_1], .agg #[.slice A1_0 l1_0.length c1_0, .slice A1_1 l1_1.length c1_1]] w fun e w' => ∃ v0_ v1_ v3_ : Value, e = .returned (.agg #[v0_, v1_, .bool r3, v3_]) ∧ Kd.R Kd.string 9 w' w.heap.size (fun _ => True) v0_ r1 ∧ Kd.R k66 66 w' w.heap.size (fun _ => True) v1_ r2 ∧ Kd.R k73 73 w' w.heap.size (fun _ => True) v3_ r4 ∧ Below w.heap.size w w' := by
 have hu34 := Try.underlying34; have hu31 := Try.underlying31; have hu66 := Try.underlying66; have HR0_0 := am hr0_0; have HC0_0 := am hc0_0; clear hr0_0 hc0_0; have HR0_1 := am hr0_1; have HC0_1 := am hc0_1; clear hr0_1 hc0_1; have HR1_0 := am hr1_0; have HC1_0 := am hc1_0; clear hr1_0 hc1_0; have HR1_1 := am hr1_1; have HC1_1 := am hc1_1; clear hr1_1 hc1_1; have HB := am (Below.refl w.heap.size w)
 have H := h; unfold spec_DeltaOf.f at H
 clear h; have HC3 := am H; clear H; go_enter Try.func7, Try.ntmps7
 go_upto_region 2 with (first | ((with_reducible refine gate_dst (N := 2) rfl ?_); refine bx 2 (cs := #[.slice A0_0 l0_0.length c0_0, .slice A0_1 l0_1.length c0_1]) (t := 34) ?_; intro gb126 hg w4 hbox hb; have BK126 := am (hbox); have GW126 := am ((b26_ : w.heap.size ≤ gb126)); have GE126 := am ((b26_ : w.heap.size ≤ gb126)); replace HB := am (below_step bel hb); clear hb hbox hg) | ((with_reducible refine gate_dst (N := 3) rfl ?_); refine bx 3 (cs := #[.slice A1_0 l1_0.length c1_0, .slice A1_1 l1_1.length c1_1]) (t := 34) ?_; intro gb127 hg w5 hbox hb; have BK127 := am (hbox); have GW127 := am ((by rw [hg]; exact (below_size (bel1 GE126.out)) : w.heap.size ≤ gb127)); have GE127 := am ((by rw [hg]; exact (below_size (bel1 GE126.out)) : w.heap.size ≤ gb127)); replace HB := am (below_step (bel1 GE126.out) hb); have NB126_127 := am ((b137_ : gb126 ≠ gb127)); have NB127_126 := am ((b138_ : gb127 ≠ gb126)); replace BK126 := am (blk_below (bq BK126.out) hb); clear hb hbox hg) | ((with_reducible refine gate_dst (N := 4) rfl ?_); refine bx 4 (cs := #[.slice none 0 0, .slice none 0 0, .bool false, .slice none 0 0]) (t := 31) ?_; intro gb128 hg w6 hbox hb; have BK128 := am (hbox); have GW128 := am ((by rw [hg]; exact (below_size (bel2 GE126.out GE127.out)) : w.heap.size ≤ gb128)); have GE128 := am ((by rw [hg]; exact (below_size (bel2 GE126.out GE127.out)) : w.heap.size ≤ gb128)); replace HB := am (below_step (bel2 GE126.out GE127.out) hb); have NB126_128 := am ((b137_ : gb126 ≠ gb128)); have NB128_126 := am ((b138_ : gb128 ≠ gb126)); replace BK126 := am (blk_below (bq BK126.out) hb); have NB127_128 := am ((b157_ : gb127 ≠ gb128)); have NB128_127 := am ((b158_ : gb128 ≠ gb127)); replace BK127 := am (blk_below (bq BK127.out) hb); clear hb hbox hg) | ((with_reducible refine gate_dst (N := 5) rfl ?_); refine bx 5 (cs := #[.slice none 0 0, .slice none 0 0, .bool false, .slice none 0 0]) (t := 31) ?_; intro gb129 hg w7 hbox hb; have BK129 := am (hbox); have GW129 := am ((by rw [hg]; exact (below_size (bel3 GE126.out GE127.out GE128.out)) : w.heap.size ≤ gb129)); have GE129 := am ((by rw [hg]; exact (below_size (bel3 GE126.out GE127.out GE128.out)) : w.heap.size ≤ gb129)); replace HB := am (below_step (bel3 GE126.out GE127.out GE128.out) hb); have NB126_129 := am ((b137_ : gb126 ≠ gb129)); have NB129_126 := am ((b138_ : gb129 ≠ gb126)); replace BK126 := am (blk_below (bq BK126.out) hb); have NB127_129 := am ((b157_ : gb127 ≠ gb129)); have NB129_127 := am ((b158_ : gb129 ≠ gb127)); replace BK127 := am (blk_below (bq BK127.out) hb); have NB128_129 := am ((by rw [hg]; exact Nat.ne_of_lt (blk_lt (g := gb128) (o := .cells #[.slice none 0 0, .slice none 0 0, .bool false, .slice none 0 0] 31 (0, 0)) (bq BK128.out)) : gb128 ≠ gb129)); have NB129_128 := am ((by rw [hg]; exact Nat.ne_of_gt (blk_lt (g := gb128) (o := .cells #[.slice none 0 0, .slice none 0 0, .bool false, .slice none 0 0] 31 (0, 0)) (bq BK128.out)) : gb129 ≠ gb128)); replace BK128 := am (blk_below (bq BK128.out) hb); clear hb hbox hg; have hnb8 := NB129_126.out; have hnc8 := NB126_129.out; have hnb9 := NB129_127.out; have hnc9 := NB127_129.out; have hnb10 := NB129_128.out; have hnc10 := NB128_129.out; have ⟨hcz11_0, hcz11_1, hcz11_2, hcz11_3, hfz11_0, hfz11_1, hfz11_2, hfz11_3⟩ := b4c BK129.out))
 go_cut [20] (fun v20 wc => ∃ (kq : Nat) (x20_2 : Bool), v20 = .bool x20_2 ∧ Aside0 (spec_DeltaOf.j0 kq x20_2 l0_0 l0_1 l1_0 l1_1 false = some (r1, r2, r3, r4)) ∧ Aside0 (kq ≤ k) ∧ Aside0 (wc.heap[gb126]? = some (.cells #[(.slice A0_0 l0_0.length c0_0), (.slice A0_1 l0_1.length c0_1)] 34 (0, 0))) ∧ Aside0 (wc.heap[gb127]? = some (.cells #[(.slice A1_0 l1_0.length c1_0), (.slice A1_1 l1_1.length c1_1)] 34 (0, 0))) ∧ Aside0 (wc.heap[gb128]? = some (.cells #[(.slice none 0 0), (.slice none 0 0), .bool false, (.slice none 0 0)] 31 (0, 0))) ∧ Aside0 (wc.heap[gb129]? = some (.cells #[(.slice none 0 0), (.slice none 0 0), .bool false, (.slice none 0 0)] 31 (0, 0))) ∧ Aside0 (Below w.heap.size w wc))
 case first =>
  have H := HC3.out; clear HC3; replace H := bs H; obtain ⟨t130, A120, H⟩ := H; have A12 := Aside0.mk A120; clear A120
  by_cases c13 : t130 = true
  ·subst c13
   rw [if_pos rfl] at H
   replace H := bs H; obtain ⟨t131, A140, H⟩ := H; have A14 := Aside0.mk A140; clear A140
   have H' := am H
   clear H; have hnb15 := NB126_127.out; have hnc15 := NB127_126.out; have hnb16 := NB126_128.out; have hnc16 := NB128_126.out; have hnb17 := NB126_129.out; have hnc17 := NB129_126.out; have ⟨hcz18_0, hcz18_1, hfz18_0, hfz18_1⟩ := b2c BK126.out
   go_wp2_with (first | ((with_reducible refine gate_callee (f := 17) rfl ?_); refine gl 14 Try.func17 #[.agg #[.slice A0_0 l0_0.length c0_0, .slice A0_1 l0_1.length c0_1]] ?_; (with_reducible refine (spec_BookOk.calls k _ _ l0_0 _ _ l0_1 true _ ?side1 ?side2 ?side3 ?side4 A12.out).mono ?_); (case side1 => exact Kd.C_below HR0_0.out b2_); (case side2 => exact HC0_0.out); (case side3 => exact Kd.C_below HR0_1.out b2_); (case side4 => exact HC0_1.out); rintro e w19 ⟨rfl, hb⟩; refine ⟨_, rfl, ?_⟩; replace BK126 := am (blk_below (g := gb126) (o := .cells #[.slice A0_0 l0_0.length c0_0, .slice A0_1 l0_1.length c0_1] 34 (0, 0)) b54_ hb); replace BK127 := am (blk_below (g := gb127) (o := .cells #[.slice A1_0 l1_0.length c1_0, .slice A1_1 l1_1.length c1_1] 34 (0, 0)) b55_ hb); replace BK128 := am (blk_below (g := gb128) (o := .cells #[.slice none 0 0, .slice none 0 0, .bool false, .slice none 0 0] 31 (0, 0)) b56_ hb); replace BK129 := am (blk_below (g := gb129) (o := .cells #[.slice none 0 0, .slice none 0 0, .bool false, .slice none 0 0] 31 (0, 0)) b40_ hb); replace HB := am (below_step b2_ hb); clear hb; have hnb20 := NB127_128.out; have hnc20 := NB128_127.out; have hnb21 := NB127_129.out; have hnc21 := NB129_127.out; have ⟨hcz22_0, hcz22_1, hfz22_0, hfz22_1⟩ := b2c BK127.out) | (go_at_call 17; (with_reducible refine (spec_BookOk.calls k _ _ l1_0 _ _ l1_1 t131 _ ?side1 ?side2 ?side3 ?side4 A14.out).mono ?_); (case side1 => exact cq (Kd.C_below HR1_0.out HB.out)); (case side2 => exact HC1_0.out); (case side3 => exact cq (Kd.C_below HR1_1.out HB.out)); (case side4 => exact HC1_1.out); rintro e w23 ⟨rfl, hb⟩; replace BK126 := am (blk_below (bq BK126.out) hb); replace BK127 := am (blk_below (bq BK127.out) hb); replace BK128 := am (blk_below (bq BK128.out) hb); replace BK129 := am (blk_below (bq BK129.out) hb); replace HB := am (below_step b2_ hb); clear hb))
   go_meet
   case rel => exact ⟨_, (!t131), sq, H', ⟨b81_⟩, ⟨bq BK126.out⟩, ⟨bq BK127.out⟩, ⟨bq BK128.out⟩, ⟨bq BK129.out⟩, ⟨b2_⟩⟩
  replace c13 := Bool.eq_false_iff.mpr c13; subst c13
  rw [if_neg Bool.false_ne_true] at H
  have H' := am H
  clear H; have hnb24 := NB126_127.out; have hnc24 := NB127_126.out; have hnb25 := NB126_128.out; have hnc25 := NB128_126.out; have hnb26 := NB126_129.out; have hnc26 := NB129_126.out; have ⟨hcz27_0, hcz27_1, hfz27_0, hfz27_1⟩ := b2c BK126.out
  go_wp2_with ((with_reducible refine gate_callee (f := 17) rfl ?_); refine gl 14 Try.func17 #[.agg #[.slice A0_0 l0_0.length c0_0, .slice A0_1 l0_1.length c0_1]] ?_; (with_reducible refine (spec_BookOk.calls k _ _ l0_0 _ _ l0_1 false _ ?side1 ?side2 ?side3 ?side4 A12.out).mono ?_); (case side1 => exact Kd.C_below HR0_0.out b2_); (case side2 => exact HC0_0.out); (case side3 => exact Kd.C_below HR0_1.out b2_); (case side4 => exact HC0_1.out); rintro e w28 ⟨rfl, hb⟩; refine ⟨_, rfl, ?_⟩; replace BK126 := am (blk_below (g := gb126) (o := .cells #[.slice A0_0 l0_0.length c0_0, .slice A0_1 l0_1.length c0_1] 34 (0, 0)) b54_ hb); replace BK127 := am (blk_below (g := gb127) (o := .cells #[.slice A1_0 l1_0.length c1_0, .slice A1_1 l1_1.length c1_1] 34 (0, 0)) b55_ hb); replace BK128 := am (blk_below (g := gb128) (o := .cells #[.slice none 0 0, .slice none 0 0, .bool false, .slice none 0 0] 31 (0, 0)) b56_ hb); replace BK129 := am (blk_below (g := gb129) (o := .cells #[.slice none 0 0, .slice none 0 0, .bool false, .slice none 0 0] 31 (0, 0)) b40_ hb); replace HB := am (below_step b2_ hb); clear hb)
  go_meet
  case rel => exact ⟨_, (true), sq, H', ⟨b81_⟩, ⟨bq BK126.out⟩, ⟨bq BK127.out⟩, ⟨bq BK128.out⟩, ⟨bq BK129.out⟩, ⟨b2_⟩⟩
 case rest =>
  clear HC3; clear hcz11_0 hcz11_1 hcz11_2 hcz11_3 hfz11_0 hfz11_1 hfz11_2 hfz11_3; obtain ⟨kq, x20_2, rfl, HA, HJ2, BK126, BK127, BK128, BK129, HB⟩ := hcut
  cases kq with
  | zero => exact absurd HA.out (by simp [spec_DeltaOf.j0])
  | succ kj2 =>
   have H := HA.out; clear HA; simp only [spec_DeltaOf.j0] at H
   by_cases c29 : x20_2 = true
   ·subst c29
    rw [if_pos rfl] at H; simp only [Option.some.injEq, Prod.mk.injEq] at H
    obtain ⟨rfl, rfl, rfl, rfl⟩ := H; have hnb30 := NB129_126.out; have hnc30 := NB126_129.out; have hnb31 := NB129_127.out; have hnc31 := NB127_129.out; have hnb32 := NB129_128.out; have hnc32 := NB128_129.out; have ⟨hcz33_0, hcz33_1, hcz33_2, hcz33_3, hfz33_0, hfz33_1, hfz33_2, hfz33_3⟩ := b4c BK129.out; have hnb34 := NB128_126.out; have hnc34 := NB126_128.out; have hnb35 := NB128_127.out; have hnc35 := NB127_128.out; have ⟨hcz36_0, hcz36_1, hcz36_2, hcz36_3, hfz36_0, hfz36_1, hfz36_2, hfz36_3⟩ := b4c BK128.out; go_wp2
    refine bodyPost_ret (results_cell_row rfl _ _ gb128 31 #[.slice none 0 0, .slice none 0 0, .bool false, .slice none 0 0] (0, 0) _ rfl (by (with_reducible repeat (fail)); refine blk_put (cs := #[.slice none 0 0, .slice none 0 0, .bool false, .slice none 0 0]) ?_ 3 _ rfl; (with_reducible repeat (fail)); refine blk_put (cs := #[.slice none 0 0, .slice none 0 0, .bool false, .slice none 0 0]) ?_ 2 _ rfl; (with_reducible repeat (fail)); refine blk_put (cs := #[.slice none 0 0, .slice none 0 0, .bool false, .slice none 0 0]) ?_ 1 _ rfl; (with_reducible repeat (fail)); refine blk_put (cs := #[.slice none 0 0, .slice none 0 0, .bool false, .slice none 0 0]) ?_ 0 _ rfl; (with_reducible repeat (fail)); exact BK128.out) Try.underlying31 rfl (by kernel_rfl)) rfl ?_
    exact ⟨_, _, _, eq_, b45_, b45_, b45_, b2_⟩
   replace c29 := Bool.eq_false_iff.mpr c29; subst c29
   rw [if_neg Bool.false_ne_true] at H
   have H' := am H
   clear H; go_wp2
   go_loopg [6] kj2 (fun kq v6 w' => ∃ (x6_2 : Int) (x130000_2 : List ByteArray) (u130000 : Value), v6 = .int .i64 x6_2 ∧ Aside0 (spec_DeltaOf.l0 kq x6_2 l0_0 l0_1 l1_0 l1_1 x130000_2 false = some (r1, r2, r3, r4)) ∧ Aside0 (kq ≤ kj2) ∧ Aside0 (Kd.R Kd.string 9 w' w.heap.size (fun _ => True) u130000 x130000_2) ∧ Aside0 (w'.heap[gb126]? = some (.cells #[(.slice A0_0 l0_0.length c0_0), (.slice A0_1 l0_1.length c0_1)] 34 (0, 0))) ∧ Aside0 (w'.heap[gb127]? = some (.cells #[(.slice A1_0 l1_0.length c1_0), (.slice A1_1 l1_1.length c1_1)] 34 (0, 0))) ∧ Aside0 (w'.heap[gb128]? = some (.cells #[(.slice none 0 0), (.slice none 0 0), .bool false, (.slice none 0 0)] 31 (0, 0))) ∧ Aside0 (w'.heap[gb129]? = some (.cells #[u130000, (.slice none 0 0), .bool false, (.slice none 0 0)] 31 (0, 0))) ∧ Aside0 (Below w.heap.size w w'))
   case atStart => exact ⟨(0), (([] : List ByteArray)), (.slice none 0 0), sq, H', ⟨Nat.le_refl _⟩, ⟨b45_⟩, ⟨bq BK126.out⟩, ⟨bq BK127.out⟩, ⟨bq BK128.out⟩, ⟨bq BK129.out⟩, ⟨b2_⟩⟩
   case round =>
    clear H'; obtain ⟨x6_2, x130000_2, u130000, rfl, HA, HK2, HO_130000, BK126, BK127, BK128, BK129, HB⟩ := hrel
    cases gk with
    | zero => exact absurd HA.out (by simp [spec_DeltaOf.l0])
    | succ k2 =>
     have H := HA.out; clear HA; simp only [spec_DeltaOf.l0] at H
     by_cases c37 : x6_2 < (l0_1.length : Int)
     ·rw [if_pos c37] at H; have c37b0 := decide_eq_true c37; clear c37
      replace H := it H; obtain ⟨c38b0, H⟩ := H; replace H := bs H; obtain ⟨⟨t133, t134⟩, A390, H⟩ := H; dsimp only at H; have A39 := Aside0.mk A390; clear A390
      by_cases c40 : t134 = true
      ·subst c40
       rw [if_pos rfl] at H
       have H' := am H
       clear H; have hnb41 := NB126_127.out; have hnc41 := NB127_126.out; have hnb42 := NB126_128.out; have hnc42 := NB128_126.out; have hnb43 := NB126_129.out; have hnc43 := NB129_126.out; have ⟨hcz44_0, hcz44_1, hfz44_0, hfz44_1⟩ := b2c BK126.out
       try go_wp2
       replace HO_130000 := am (Kd.R_drew HO_130000.out); replace BK126 := am (blk_drew BK126.out); replace BK127 := am (blk_drew BK127.out); replace BK128 := am (blk_drew BK128.out); replace BK129 := am (blk_drew BK129.out); replace HB := am (below_drew1 HB.out)
       have p132 : 0 ≤ (x6_2 : Int) := of_decide_eq_true ad
       have q132 : x6_2 < (l0_1.length : Int) := of_decide_eq_true ad
       obtain ⟨ad132, e132, hx132_0, hx132_1⟩ := at_T66 HR0_1.out x6_2 p132 q132; have hw132_1 := hx132_1; have hw132_0 := hx132_0; cases e132; replace hx132_0 := kp HB.out hx132_0; replace hx132_1 := kp HB.out hx132_1; replace p132 := eq_true p132; replace q132 := eq_true q132
       refine st (n := 14) (S := fun w' => w'.cell? ⟨gb127, 0, none⟩ = some (.slice A1_0 l1_0.length c1_0) ∧ w'.cell? ⟨gb127, 1, none⟩ = some (.slice A1_1 l1_1.length c1_1) ∧ w'.cell? ⟨gb126, 0, none⟩ = some (.slice A0_0 l0_0.length c0_0) ∧ w'.cell? ⟨gb126, 1, none⟩ = some (.slice (some ad132) l0_1.length c0_1) ∧ w'.cell? (ad132.add ((x6_2).toNat * 2)) = some (.string ((rd_T66 l0_1 x6_2).f0)) ∧ w'.cell? ⟨(ad132.add ((x6_2).toNat * 2)).block, (ad132.add ((x6_2).toNat * 2)).off + 1, none⟩ = some (.string ((rd_T66 l0_1 x6_2).f1))) (ds := []) ⟨bd BK127.out 0, bd BK127.out 1, bd BK126.out 0, bd BK126.out 1, (kp HB.out hw132_0), (kp HB.out hw132_1)⟩ (fun hHeld => ?_); refine with_tabW spec_DeltaOf.tab7 spec_DeltaOf.bits7 (fun HT_ HW_ => ?_)
       generalize wr.drew = w45 at HO_130000 BK126 BK127 BK128 BK129 HB hx132_0 hx132_1 hHeld ⊢; refine pu 0 30 ?_; refine pu 2 32 ?_; refine pu 4 34 ?_; refine tk6 1 31 hHeld ?_; refine tk6 3 33 hHeld ?_; refine pu 5 35 ?_; refine pu 6 36 ?_; refine tk6 7 37 hHeld ?_; refine on1 8 38 (fun K hK => ?_)
       refine go1 Try.func34 #[.slice A1_1 l1_1.length c1_1, .string ((rd_T66 l0_1 x6_2).f0)] ?_
       with_reducible refine (spec_l5At.calls k2 _ _ l1_1 ((rd_T66 l0_1 x6_2).f0) t133 true _ ?side1 ?side2 A39.out).mono ?_
       (case side1 => exact cq (Kd.C_below HR1_1.out HB.out)); (case side2 => exact HC1_1.out)
       rintro e w' ⟨rfl, ⟨nd, rfl⟩⟩
       refine ⟨_, rfl, ?_⟩; refine hK.out _ _ ⟨bd BK127.out 0, bd BK127.out 1, bd BK126.out 0, bd BK126.out 1, (kp HB.out hw132_0), (kp HB.out hw132_1)⟩ (fun hHeld => ?_); clear hK K; refine nm 38 ?_; refine pu 9 29 ?_; refine pu 10 39 ?_; refine pu 11 40 ?_; refine pu 12 7 ?_; refine pu 13 8 ?_
       refine done_ (done_of HT_.out (by kernel_rfl)) ?_
       try go_wp2
       go_roundg k2
       case measure => have := HJ2.out; have := HK2.out; omega
       case rel => exact ⟨(wrap64 (x6_2 + 1)), (x130000_2), (u130000), sq, H', ⟨b166_⟩, ⟨rq HO_130000.out⟩, ⟨bq BK126.out⟩, ⟨bq BK127.out⟩, ⟨bq BK128.out⟩, ⟨bq BK129.out⟩, ⟨b2_⟩⟩
      replace c40 := Bool.eq_false_iff.mpr c40; subst c40
      rw [if_neg Bool.false_ne_true] at H
      replace H := ip H; obtain ⟨c46, H⟩ := H; have LMc46 := Aside0.mk c46; clear c46; obtain ⟨y136, hy136⟩ : ∃ y_ : List ByteArray, y_ = (x130000_2 ++ [(rd_T66 l0_1 x6_2).f0]) := ⟨_, rfl⟩
      rw [← hy136] at H
      have Ny136 := am hy136; clear hy136
      have H' := am H
      clear H; have hnb47 := NB126_127.out; have hnc47 := NB127_126.out; have hnb48 := NB126_128.out; have hnc48 := NB128_126.out; have hnb49 := NB126_129.out; have hnc49 := NB129_126.out; have ⟨hcz50_0, hcz50_1, hfz50_0, hfz50_1⟩ := b2c BK126.out
      try go_wp2
      replace HO_130000 := am (Kd.R_drew HO_130000.out); replace BK126 := am (blk_drew BK126.out); replace BK127 := am (blk_drew BK127.out); replace BK128 := am (blk_drew BK128.out); replace BK129 := am (blk_drew BK129.out); replace HB := am (below_drew1 HB.out)
      have p132 : 0 ≤ (x6_2 : Int) := of_decide_eq_true ad
      have q132 : x6_2 < (l0_1.length : Int) := of_decide_eq_true ad
      obtain ⟨ad132, e132, hx132_0, hx132_1⟩ := at_T66 HR0_1.out x6_2 p132 q132; have hw132_1 := hx132_1; have hw132_0 := hx132_0; cases e132; replace hx132_0 := kp HB.out hx132_0; replace hx132_1 := kp HB.out hx132_1; replace p132 := eq_true p132; replace q132 := eq_true q132
      refine st (n := 14) (S := fun w' => w'.cell? ⟨gb127, 0, none⟩ = some (.slice A1_0 l1_0.length c1_0) ∧ w'.cell? ⟨gb127, 1, none⟩ = some (.slice A1_1 l1_1.length c1_1) ∧ w'.cell? ⟨gb126, 0, none⟩ = some (.slice A0_0 l0_0.length c0_0) ∧ w'.cell? ⟨gb126, 1, none⟩ = some (.slice (some ad132) l0_1.length c0_1) ∧ w'.cell? (ad132.add ((x6_2).toNat * 2)) = some (.string ((rd_T66 l0_1 x6_2).f0)) ∧ w'.cell? ⟨(ad132.add ((x6_2).toNat * 2)).block, (ad132.add ((x6_2).toNat * 2)).off + 1, none⟩ = some (.string ((rd_T66 l0_1 x6_2).f1))) (ds := []) ⟨bd BK127.out 0, bd BK127.out 1, bd BK126.out 0, bd BK126.out 1, (kp HB.out hw132_0), (kp HB.out hw132_1)⟩ (fun hHeld => ?_); refine with_tabW spec_DeltaOf.tab7 spec_DeltaOf.bits7 (fun HT_ HW_ => ?_)
      generalize wr.drew = w51 at HO_130000 BK126 BK127 BK128 BK129 HB hx132_0 hx132_1 hHeld ⊢; refine pu 0 30 ?_; refine pu 2 32 ?_; refine pu 4 34 ?_; refine tk6 1 31 hHeld ?_; refine tk6 3 33 hHeld ?_; refine pu 5 35 ?_; refine pu 6 36 ?_; refine tk6 7 37 hHeld ?_; refine on1 8 38 (fun K hK => ?_)
      refine go1 Try.func34 #[.slice A1_1 l1_1.length c1_1, .string ((rd_T66 l0_1 x6_2).f0)] ?_
      with_reducible refine (spec_l5At.calls k2 _ _ l1_1 ((rd_T66 l0_1 x6_2).f0) t133 false _ ?side1 ?side2 A39.out).mono ?_
      (case side1 => exact cq (Kd.C_below HR1_1.out HB.out)); (case side2 => exact HC1_1.out)
      rintro e w' ⟨rfl, ⟨nd, rfl⟩⟩
      refine ⟨_, rfl, ?_⟩; refine hK.out _ _ ⟨bd BK127.out 0, bd BK127.out 1, bd BK126.out 0, bd BK126.out 1, (kp HB.out hw132_0), (kp HB.out hw132_1)⟩ (fun hHeld => ?_); clear hK K; refine nm 38 ?_; refine pu 9 29 ?_; refine pu 10 39 ?_; refine pu 11 40 ?_; refine pu 12 7 ?_; refine pu 13 8 ?_
      refine done_ (done_of HT_.out (by kernel_rfl)) ?_
      try go_wp2
      ((rw [drewN_self w51]; generalize hq_ : World.drewN w51 _ = w51; have n0_ : Aside0 (Kd.R Kd.string 9 w51 w.heap.size (fun _ => True) u130000 x130000_2) := ⟨by rw [← hq_]; exact (rq HO_130000.out)⟩; have n1_ : Aside0 (w51.heap[gb126]? = some (.cells #[.slice A0_0 l0_0.length c0_0, .slice (some ad132) l0_1.length c0_1] 34 (0, 0))) := ⟨by rw [← hq_]; exact (bq BK126.out)⟩; have n2_ : Aside0 (w51.heap[gb127]? = some (.cells #[.slice A1_0 l1_0.length c1_0, .slice A1_1 l1_1.length c1_1] 34 (0, 0))) := ⟨by rw [← hq_]; exact (bq BK127.out)⟩; have n3_ : Aside0 (w51.heap[gb128]? = some (.cells #[.slice none 0 0, .slice none 0 0, .bool false, .slice none 0 0] 31 (0, 0))) := ⟨by rw [← hq_]; exact (bq BK128.out)⟩; have n4_ : Aside0 (w51.heap[gb129]? = some (.cells #[u130000, .slice none 0 0, .bool false, .slice none 0 0] 31 (0, 0))) := ⟨by rw [← hq_]; exact (bq BK129.out)⟩; have n5_ : Aside0 (Below w.heap.size w w51) := ⟨b80_⟩; clear HO_130000 BK126 BK127 BK128 BK129 HB hq_; have HO_130000 := n0_; have BK126 := n1_; have BK127 := n2_; have BK128 := n3_; have BK129 := n4_; have HB := n5_; clear n0_ n1_ n2_ n3_ n4_ n5_))
      replace HO_130000 := am (Kd.R_drew HO_130000.out); replace BK126 := am (blk_drew BK126.out); replace BK127 := am (blk_drew BK127.out); replace BK128 := am (blk_drew BK128.out); replace BK129 := am (blk_drew BK129.out); replace HB := am (below_drew1 HB.out)
      have p135 : 0 ≤ (x6_2 : Int) := of_decide_eq_true ad
      have q135 : x6_2 < (l0_1.length : Int) := of_decide_eq_true ad
      obtain ⟨ad135, e135, hx135_0, hx135_1⟩ := at_T66 HR0_1.out x6_2 p135 q135; have hw135_1 := hx135_1; have hw135_0 := hx135_0
      obtain rfl : ad132 = ad135 := (by injection e135)
      replace hx135_0 := kp HB.out hx135_0; replace hx135_1 := kp HB.out hx135_1; replace p135 := eq_true p135; replace q135 := eq_true q135
      refine start_ (n := 12) (S := fun w' => w'.cell? ⟨gb129, 0, none⟩ = some (u130000) ∧ w'.cell? ⟨gb129, 1, none⟩ = some (.slice none 0 0) ∧ w'.cell? ⟨gb129, 2, none⟩ = some (.bool false) ∧ w'.cell? ⟨gb129, 3, none⟩ = some (.slice none 0 0) ∧ w'.cell? ⟨gb126, 0, none⟩ = some (.slice A0_0 l0_0.length c0_0) ∧ w'.cell? ⟨gb126, 1, none⟩ = some (.slice (some ad132) l0_1.length c0_1) ∧ w'.cell? (ad132.add ((x6_2).toNat * 2)) = some (.string ((rd_T66 l0_1 x6_2).f0)) ∧ w'.cell? ⟨(ad132.add ((x6_2).toNat * 2)).block, (ad132.add ((x6_2).toNat * 2)).off + 1, none⟩ = some (.string ((rd_T66 l0_1 x6_2).f1))) (ds := [11]) #[false, false, false, false, false, false, false, false, false, false, false, false] (by kernel_rfl) rfl rfl ⟨bd BK129.out 0, bd BK129.out 1, bd BK129.out 2, bd BK129.out 3, bd BK126.out 0, bd BK126.out 1, (kp HB.out hw135_0), (kp HB.out hw135_1)⟩ (fun hHeld => ?_); refine with_tabW spec_DeltaOf.tab9 spec_DeltaOf.bits9 (fun HT_ HW_ => ?_)
      generalize w51.drew = w52 at HO_130000 BK126 BK127 BK128 BK129 HB hx135_0 hx135_1 hHeld ⊢; refine pu 0 43 ?_; refine pu 2 45 ?_; refine pu 4 47 ?_
      refine take_ (i := 1) (N := some 44) (v := ?_) (a' := ?_) #[true, true, true, false, true, false, false, false, false, false, false, false] rfl rfl (take_ofW HT_.out HW_.out (by kernel_rfl)) (fun _ _ _ h => h) (Or.inl ⟨by rfl, ?_⟩) hHeld ?_ ?_
      rotate_left
      ·rintro w' ⟨s0, s1, s2, s3, s4, s5, s6, s7⟩
       go_simp
       with_reducible rfl
      rotate_left
      ·simp only [Act.put, List.setIfInBounds_toArray, List.set_cons_zero, List.set_cons_succ, i64_w, i32_w]
       rfl
      refine take_ (i := 3) (N := some 46) (v := ?_) (a' := ?_) #[true, true, true, true, true, false, false, false, false, false, false, false] rfl rfl (take_ofW HT_.out HW_.out (by kernel_rfl)) (fun _ _ _ h => h) (Or.inl ⟨by rfl, ?_⟩) hHeld ?_ ?_
      rotate_left
      ·rintro w' ⟨s0, s1, s2, s3, s4, s5, s6, s7⟩
       go_simp
       with_reducible rfl
      rotate_left
      ·simp only [Act.put, List.setIfInBounds_toArray, List.set_cons_zero, List.set_cons_succ, i64_w, i32_w]
       rfl
      refine pu 5 48 ?_; refine pu 6 49 ?_
      refine take_ (i := 7) (N := some 50) (v := ?_) (a' := ?_) #[true, true, true, true, true, true, true, true, false, false, false, false] rfl rfl (take_ofW HT_.out HW_.out (by kernel_rfl)) (fun _ _ _ h => h) (Or.inl ⟨by rfl, ?_⟩) hHeld ?_ ?_
      rotate_left
      ·rintro w' ⟨s0, s1, s2, s3, s4, s5, s6, s7⟩
       go_simp
       with_reducible rfl
      rotate_left
      ·simp only [Act.put, List.setIfInBounds_toArray, List.set_cons_zero, List.set_cons_succ, i64_w, i32_w]
       rfl
      refine on1 8 51 (fun K hK => ?_)
      refine value_ (w1 := ?_) (v := ?_) (by rfl) rfl ?_ ?_
      rotate_left 2
      ·go_simp
       constructor
       ·rfl
       ·rfl
      refine hK.out _ _ ⟨bd (blk_alloc BK129.out _) 0, bd (blk_alloc BK129.out _) 1, bd (blk_alloc BK129.out _) 2, bd (blk_alloc BK129.out _) 3, bd (blk_alloc BK126.out _) 0, bd (blk_alloc BK126.out _) 1, (World.cell?_alloc_lt _ _ _ (World.block_lt_of_cell? _ _ ((kp HB.out hw135_0)))).trans ((kp HB.out hw135_0)), (World.cell?_alloc_lt _ _ _ (World.block_lt_of_cell? _ _ ((kp HB.out hw135_1)))).trans ((kp HB.out hw135_1))⟩ (fun hHeld => ?_); clear hK K; refine nm 51 ?_; refine on1 9 52 (fun K hK => ?_)
      refine Kd.R_append_step Kd.string (w0 := w) w.heap.size (by rfl) (.tmp 44) (.tmp 51) 27 9 (.string ⟨#[]⟩) 16 rfl Try.underlying27 info9 rfl (by decide) (by omega) u130000 x130000_2 ((rd_T66 l0_1 x6_2).f0) [.string ((rd_T66 l0_1 x6_2).f0)] (fun _ => True) (fun _ => False) rfl rfl ?aP (fun _ hk => hk.elim) ?aF ?aO ?aB ?aS ?aL ?_
      (case aP => exact rfl); (case aB => exact b2_); (case aF => exact (fun _ _ => trivial)); (case aO => exact (rq HO_130000.out)); (case aS => exact (below_size b2_)); (case aL => have := LMc46.out; omega); intro v137 w53 ho hb hg hat; rw [← Ny136.out] at ho
      replace BK126 := am (blk_grown (g := gb126) (o := .cells #[.slice A0_0 l0_0.length c0_0, .slice (some ad132) l0_1.length c0_1] 34 (0, 0)) (bq BK126.out) hg (Kd.R_ne HO_130000.out BK126.out (by decide))); replace BK127 := am (blk_grown (g := gb127) (o := .cells #[.slice A1_0 l1_0.length c1_0, .slice A1_1 l1_1.length c1_1] 34 (0, 0)) (bq BK127.out) hg (Kd.R_ne HO_130000.out BK127.out (by decide))); replace BK128 := am (blk_grown (g := gb128) (o := .cells #[.slice none 0 0, .slice none 0 0, .bool false, .slice none 0 0] 31 (0, 0)) (bq BK128.out) hg (Kd.R_ne HO_130000.out BK128.out (by decide))); replace BK129 := am (blk_grown (g := gb129) (o := .cells #[u130000, .slice none 0 0, .bool false, .slice none 0 0] 31 (0, 0)) (bq BK129.out) hg (Kd.R_ne HO_130000.out BK129.out (by decide))); replace HB := am (hb); have HO138 := am (ho); clear HO_130000; clear ho hb hg hat; obtain ⟨Ao54, co54, eo54⟩ := Kd.R_slice HO138.out
      (subst eo54)
      refine hK.out _ _ ⟨bd BK129.out 0, bd BK129.out 1, bd BK129.out 2, bd BK129.out 3, bd BK126.out 0, bd BK126.out 1, (kp HB.out hw135_0), (kp HB.out hw135_1)⟩ (fun hHeld => ?_); clear hK K; refine nm 52 ?_; refine pu 10 53 ?_
      refine last_ (i := 11) (N := none) #[true, true, true, true, true, true, true, true, true, true, true, true] rfl rfl (one_of HT_.out (by kernel_rfl)) (by decide) (fun K hK => ?_)
      have hs55 : w53.cell? ⟨gb129, 0, none⟩ = some (u130000) := bd BK129.out 0
      have hfs55 := bf BK129.out 0; have hns55_0 := NB126_129.out; have hns55_1 := NB127_129.out; have hns55_2 := NB128_129.out; have hms55_0 := NB129_126.out; have hms55_1 := NB129_127.out; have hms55_2 := NB129_128.out
      refine skip_ (w1 := ?_) (by rfl) rfl ?_ ?_
      rotate_left
      ·go_simp
       rfl
      refine hK.out _ _ ?_; clear hK K
      refine done_ (done_of HT_.out (by kernel_rfl)) ?_
      try go_wp2
      go_roundg k2
      case measure => have := HJ2.out; have := HK2.out; omega
      case rel => exact ⟨(wrap64 (x6_2 + 1)), (y136), (.slice Ao54 y136.length co54), sq, H', ⟨b166_⟩, ⟨rq (Kd.R_mono (Kd.R_far (p := ⟨gb129, 0, none⟩) (Kd.R_types HO138.out BK129.out (by decide)) (fun _ hk => hk.2) (.slice Ao54 y136.length co54)) (fun _ hk => trivial))⟩, ⟨b100_⟩, ⟨b101_⟩, ⟨b102_⟩, ⟨by (with_reducible repeat (fail)); refine blk_put (cs := #[u130000, .slice none 0 0, .bool false, .slice none 0 0]) ?_ 0 _ rfl; (with_reducible repeat (fail)); exact BK129.out⟩, ⟨b2_⟩⟩
     rw [if_neg c37] at H; have c37b0 := decide_eq_false c37; clear c37
     have H' := am H
     clear H; have hnb56 := NB126_127.out; have hnc56 := NB127_126.out; have hnb57 := NB126_128.out; have hnc57 := NB128_126.out; have hnb58 := NB126_129.out; have hnc58 := NB129_126.out; have ⟨hcz59_0, hcz59_1, hfz59_0, hfz59_1⟩ := b2c BK126.out; go_wp2
     go_loopg [9] k2 (fun kq v9 w' => ∃ (x9_3 : Int) (x130001_3 : List (S66)) (u130001 : Value), v9 = .int .i64 x9_3 ∧ Aside0 (spec_DeltaOf.l1 kq x9_3 l0_0 l0_1 l1_0 l1_1 x130000_2 x130001_3 false = some (r1, r2, r3, r4)) ∧ Aside0 (kq ≤ k2) ∧ Aside0 (Kd.R Kd.string 9 w' w.heap.size (fun _ => True) u130000 x130000_2) ∧ Aside0 (Kd.R k66 66 w' w.heap.size (fun _ => True) u130001 x130001_3) ∧ Aside0 (w'.heap[gb126]? = some (.cells #[(.slice A0_0 l0_0.length c0_0), (.slice A0_1 l0_1.length c0_1)] 34 (0, 0))) ∧ Aside0 (w'.heap[gb127]? = some (.cells #[(.slice A1_0 l1_0.length c1_0), (.slice A1_1 l1_1.length c1_1)] 34 (0, 0))) ∧ Aside0 (w'.heap[gb128]? = some (.cells #[(.slice none 0 0), (.slice none 0 0), .bool false, (.slice none 0 0)] 31 (0, 0))) ∧ Aside0 (w'.heap[gb129]? = some (.cells #[u130000, u130001, .bool false, (.slice none 0 0)] 31 (0, 0))) ∧ Aside0 (Below w.heap.size w w'))
     case atStart => exact ⟨(0), (([] : List (S66))), (.slice none 0 0), sq, H', ⟨Nat.le_refl _⟩, ⟨rq HO_130000.out⟩, ⟨b45_⟩, ⟨bq BK126.out⟩, ⟨bq BK127.out⟩, ⟨bq BK128.out⟩, ⟨bq BK129.out⟩, ⟨b2_⟩⟩
     case round =>
      clear H'; clear c37b0 hcz59_0 hcz59_1 hfz59_0 hfz59_1; obtain ⟨x9_3, x130001_3, u130001, rfl, HA, HK3, HO_130000, HO_130001, BK126, BK127, BK128, BK129, HB⟩ := hrel
      cases gk with
      | zero => exact absurd HA.out (by simp [spec_DeltaOf.l1])
      | succ k3 =>
       have H := HA.out; clear HA; simp only [spec_DeltaOf.l1] at H
       by_cases c60 : x9_3 < (l1_1.length : Int)
       ·rw [if_pos c60] at H; have c60b0 := decide_eq_true c60; clear c60
        replace H := it H; obtain ⟨c61b0, H⟩ := H; replace H := bs H; obtain ⟨⟨t140, t141⟩, A620, H⟩ := H; dsimp only at H; have A62 := Aside0.mk A620; clear A620; have HC63 := am H; clear H; have hnb64 := NB127_126.out; have hnc64 := NB126_127.out; have hnb65 := NB127_128.out; have hnc65 := NB128_127.out; have hnb66 := NB127_129.out; have hnc66 := NB129_127.out; have ⟨hcz67_0, hcz67_1, hfz67_0, hfz67_1⟩ := b2c BK127.out
        try go_wp2
        replace HO_130000 := am (Kd.R_drew HO_130000.out); replace HO_130001 := am (Kd.R_drew HO_130001.out); replace BK126 := am (blk_drew BK126.out); replace BK127 := am (blk_drew BK127.out); replace BK128 := am (blk_drew BK128.out); replace BK129 := am (blk_drew BK129.out); replace HB := am (below_drew1 HB.out)
        have p139 : 0 ≤ (x9_3 : Int) := of_decide_eq_true ad
        have q139 : x9_3 < (l1_1.length : Int) := of_decide_eq_true ad
        obtain ⟨ad139, e139, hx139_0, hx139_1⟩ := at_T66 HR1_1.out x9_3 p139 q139; have hw139_1 := hx139_1; have hw139_0 := hx139_0; cases e139; replace hx139_0 := kp HB.out hx139_0; replace hx139_1 := kp HB.out hx139_1; replace p139 := eq_true p139; replace q139 := eq_true q139
        refine st (n := 14) (S := fun w' => w'.cell? ⟨gb126, 0, none⟩ = some (.slice A0_0 l0_0.length c0_0) ∧ w'.cell? ⟨gb126, 1, none⟩ = some (.slice A0_1 l0_1.length c0_1) ∧ w'.cell? ⟨gb127, 0, none⟩ = some (.slice A1_0 l1_0.length c1_0) ∧ w'.cell? ⟨gb127, 1, none⟩ = some (.slice (some ad139) l1_1.length c1_1) ∧ w'.cell? (ad139.add ((x9_3).toNat * 2)) = some (.string ((rd_T66 l1_1 x9_3).f0)) ∧ w'.cell? ⟨(ad139.add ((x9_3).toNat * 2)).block, (ad139.add ((x9_3).toNat * 2)).off + 1, none⟩ = some (.string ((rd_T66 l1_1 x9_3).f1))) (ds := []) ⟨bd BK126.out 0, bd BK126.out 1, bd BK127.out 0, bd BK127.out 1, (kp HB.out hw139_0), (kp HB.out hw139_1)⟩ (fun hHeld => ?_); refine with_tabW spec_DeltaOf.tab13 spec_DeltaOf.bits13 (fun HT_ HW_ => ?_)
        generalize wr.drew = w68 at HO_130000 HO_130001 BK126 BK127 BK128 BK129 HB hx139_0 hx139_1 hHeld ⊢; refine pu 0 62 ?_; refine pu 2 64 ?_; refine pu 4 66 ?_; refine tk6 1 63 hHeld ?_; refine tk6 3 65 hHeld ?_; refine pu 5 67 ?_; refine pu 6 68 ?_; refine tk6 7 69 hHeld ?_; refine on1 8 70 (fun K hK => ?_)
        refine go1 Try.func34 #[.slice A0_1 l0_1.length c0_1, .string ((rd_T66 l1_1 x9_3).f0)] ?_
        with_reducible refine (spec_l5At.calls k3 _ _ l0_1 ((rd_T66 l1_1 x9_3).f0) t140 t141 _ ?side1 ?side2 A62.out).mono ?_
        (case side1 => exact cq (Kd.C_below HR0_1.out HB.out)); (case side2 => exact HC0_1.out)
        rintro e w' ⟨rfl, ⟨nd, rfl⟩⟩
        refine ⟨_, rfl, ?_⟩; refine hK.out _ _ ⟨bd BK126.out 0, bd BK126.out 1, bd BK127.out 0, bd BK127.out 1, (kp HB.out hw139_0), (kp HB.out hw139_1)⟩ (fun hHeld => ?_); clear hK K; refine nm 70 ?_; refine pu 9 61 ?_; refine pu 10 71 ?_; refine pu 11 72 ?_; refine pu 12 10 ?_; refine pu 13 11 ?_
        refine done_ (done_of HT_.out (by kernel_rfl)) ?_
        go_upto_region 14 with (fail)
        go_cut [87] (fun v87 wc => ∃ (kq : Nat) (x87_62 : Bool), v87 = .bool x87_62 ∧ Aside0 (spec_DeltaOf.j3 kq x9_3 x87_62 l0_0 l0_1 l1_0 l1_1 x130000_2 x130001_3 false = some (r1, r2, r3, r4)) ∧ Aside0 (kq ≤ k3) ∧ Aside0 (Kd.R Kd.string 9 wc w.heap.size (fun _ => True) u130000 x130000_2) ∧ Aside0 (Kd.R k66 66 wc w.heap.size (fun _ => True) u130001 x130001_3) ∧ Aside0 (wc.heap[gb126]? = some (.cells #[(.slice A0_0 l0_0.length c0_0), (.slice A0_1 l0_1.length c0_1)] 34 (0, 0))) ∧ Aside0 (wc.heap[gb127]? = some (.cells #[(.slice A1_0 l1_0.length c1_0), (.slice (some ad139) l1_1.length c1_1)] 34 (0, 0))) ∧ Aside0 (wc.heap[gb128]? = some (.cells #[(.slice none 0 0), (.slice none 0 0), .bool false, (.slice none 0 0)] 31 (0, 0))) ∧ Aside0 (wc.heap[gb129]? = some (.cells #[u130000, u130001, .bool false, (.slice none 0 0)] 31 (0, 0))) ∧ Aside0 (Below w.heap.size w wc))
        case first =>
         have H := HC63.out; clear HC63
         by_cases c69 : t141 = true
         ·subst c69
          rw [if_pos rfl] at H; replace H := it H; obtain ⟨c70b0, H⟩ := H
          (skip)
          replace H := it H; obtain ⟨c71b0, H⟩ := H
          have H' := am H
          clear H
          try go_wp2
          replace HO_130000 := am (Kd.R_drewN HO_130000.out nd); replace HO_130001 := am (Kd.R_drewN HO_130001.out nd); replace BK126 := am (blk_drewN BK126.out nd); replace BK127 := am (blk_drewN BK127.out nd); replace BK128 := am (blk_drewN BK128.out nd); replace BK129 := am (blk_drewN BK129.out nd); replace HB := am (pw_below_drewN HB.out nd); generalize w68.drewN nd = w68 at HO_130000 HO_130001 BK126 BK127 BK128 BK129 HB ⊢
          replace HO_130000 := am (Kd.R_drew HO_130000.out); replace HO_130001 := am (Kd.R_drew HO_130001.out); replace BK126 := am (blk_drew BK126.out); replace BK127 := am (blk_drew BK127.out); replace BK128 := am (blk_drew BK128.out); replace BK129 := am (blk_drew BK129.out); replace HB := am (below_drew1 HB.out)
          have p142 : 0 ≤ (t140 : Int) := of_decide_eq_true ad
          have q142 : t140 < (l0_1.length : Int) := of_decide_eq_true ad
          obtain ⟨ad142, e142, hx142_0, hx142_1⟩ := at_T66 HR0_1.out t140 p142 q142; have hw142_1 := hx142_1; have hw142_0 := hx142_0; cases e142; replace hx142_0 := kp HB.out hx142_0; replace hx142_1 := kp HB.out hx142_1; replace p142 := eq_true p142; replace q142 := eq_true q142
          have p143 : 0 ≤ (x9_3 : Int) := of_decide_eq_true ad
          have q143 : x9_3 < (l1_1.length : Int) := of_decide_eq_true ad
          obtain ⟨ad143, e143, hx143_0, hx143_1⟩ := at_T66 HR1_1.out x9_3 p143 q143; have hw143_1 := hx143_1; have hw143_0 := hx143_0
          obtain rfl : ad139 = ad143 := (by injection e143)
          replace hx143_0 := kp HB.out hx143_0; replace hx143_1 := kp HB.out hx143_1; replace p143 := eq_true p143; replace q143 := eq_true q143
          refine st (n := 15) (S := fun w' => w'.cell? ⟨gb126, 0, none⟩ = some (.slice A0_0 l0_0.length c0_0) ∧ w'.cell? ⟨gb126, 1, none⟩ = some (.slice (some ad142) l0_1.length c0_1) ∧ w'.cell? ⟨gb127, 0, none⟩ = some (.slice A1_0 l1_0.length c1_0) ∧ w'.cell? ⟨gb127, 1, none⟩ = some (.slice (some ad139) l1_1.length c1_1) ∧ w'.cell? (ad142.add ((t140).toNat * 2)) = some (.string ((rd_T66 l0_1 t140).f0)) ∧ w'.cell? ⟨(ad142.add ((t140).toNat * 2)).block, (ad142.add ((t140).toNat * 2)).off + 1, none⟩ = some (.string ((rd_T66 l0_1 t140).f1)) ∧ w'.cell? (ad139.add ((x9_3).toNat * 2)) = some (.string ((rd_T66 l1_1 x9_3).f0)) ∧ w'.cell? ⟨(ad139.add ((x9_3).toNat * 2)).block, (ad139.add ((x9_3).toNat * 2)).off + 1, none⟩ = some (.string ((rd_T66 l1_1 x9_3).f1))) (ds := []) ⟨bd BK126.out 0, bd BK126.out 1, bd BK127.out 0, bd BK127.out 1, (kp HB.out hw142_0), (kp HB.out hw142_1), (kp HB.out hw143_0), (kp HB.out hw143_1)⟩ (fun hHeld => ?_); refine with_tabW spec_DeltaOf.tab14 spec_DeltaOf.bits14 (fun HT_ HW_ => ?_)
          generalize w68.drew = w72 at HO_130000 HO_130001 BK126 BK127 BK128 BK129 HB hx142_0 hx142_1 hx143_0 hx143_1 hHeld ⊢; refine pu 0 73 ?_; refine pu 1 74 ?_; refine pu 2 75 ?_; refine pu 3 76 ?_; refine pu 5 78 ?_; refine pu 8 81 ?_; refine pu 10 83 ?_
          refine take_ (i := 4) (N := some 77) (v := ?_) (a' := ?_) #[true, true, true, true, true, true, false, false, true, false, true, false, false, false, false] rfl rfl (take_ofW HT_.out HW_.out (by kernel_rfl)) (fun _ _ _ h => h) (Or.inl ⟨by rfl, ?_⟩) hHeld ?_ ?_
          rotate_left
          ·rintro w' ⟨s0, s1, s2, s3, s4, s5, s6, s7⟩
           go_simp
           with_reducible rfl
          rotate_left
          ·simp only [Act.put, List.setIfInBounds_toArray, List.set_cons_zero, List.set_cons_succ, i64_w, i32_w]
           rfl
          refine pu 6 79 ?_
          refine take_ (i := 7) (N := some 80) (v := ?_) (a' := ?_) #[true, true, true, true, true, true, true, true, true, false, true, false, false, false, false] rfl rfl (take_ofW HT_.out HW_.out (by kernel_rfl)) (fun _ _ _ h => h) (Or.inl ⟨by rfl, ?_⟩) hHeld ?_ ?_
          rotate_left
          ·rintro w' ⟨s0, s1, s2, s3, s4, s5, s6, s7⟩
           go_simp
           with_reducible rfl
          rotate_left
          ·simp only [Act.put, List.setIfInBounds_toArray, List.set_cons_zero, List.set_cons_succ, i64_w, i32_w]
           rfl
          refine take_ (i := 9) (N := some 82) (v := ?_) (a' := ?_) #[true, true, true, true, true, true, true, true, true, true, true, false, false, false, false] rfl rfl (take_ofW HT_.out HW_.out (by kernel_rfl)) (fun _ _ _ h => h) (Or.inl ⟨by rfl, ?_⟩) hHeld ?_ ?_
          rotate_left
          ·rintro w' ⟨s0, s1, s2, s3, s4, s5, s6, s7⟩
           go_simp
           with_reducible rfl
          rotate_left
          ·simp only [Act.put, List.setIfInBounds_toArray, List.set_cons_zero, List.set_cons_succ, i64_w, i32_w]
           rfl
          refine pu 11 84 ?_
          refine take_ (i := 12) (N := some 85) (v := ?_) (a' := ?_) #[true, true, true, true, true, true, true, true, true, true, true, true, true, false, false] rfl rfl (take_ofW HT_.out HW_.out (by kernel_rfl)) (fun _ _ _ h => h) (Or.inl ⟨by rfl, ?_⟩) hHeld ?_ ?_
          rotate_left
          ·rintro w' ⟨s0, s1, s2, s3, s4, s5, s6, s7⟩
           go_simp
           with_reducible rfl
          rotate_left
          ·simp only [Act.put, List.setIfInBounds_toArray, List.set_cons_zero, List.set_cons_succ, i64_w, i32_w]
           rfl
          refine pu 13 86 ?_; refine pu 14 87 ?_
          refine done_ (done_of HT_.out (by kernel_rfl)) ?_
          try go_wp2
          go_meet
          case rel => exact ⟨_, ((!((((rd_T66 l0_1 t140).f0).toList) == (((rd_T66 l1_1 x9_3).f0).toList)) || (!((((rd_T66 l0_1 t140).f1).toList) == (((rd_T66 l1_1 x9_3).f1).toList))))), sq, H', ⟨b147_⟩, ⟨rq HO_130000.out⟩, ⟨rq HO_130001.out⟩, ⟨bq BK126.out⟩, ⟨bq BK127.out⟩, ⟨bq BK128.out⟩, ⟨bq BK129.out⟩, ⟨b2_⟩⟩
         replace c69 := Bool.eq_false_iff.mpr c69; subst c69
         rw [if_neg Bool.false_ne_true] at H
         have H' := am H
         clear H
         try go_wp2
         replace HO_130000 := am (Kd.R_drewN HO_130000.out nd); replace HO_130001 := am (Kd.R_drewN HO_130001.out nd); replace BK126 := am (blk_drewN BK126.out nd); replace BK127 := am (blk_drewN BK127.out nd); replace BK128 := am (blk_drewN BK128.out nd); replace BK129 := am (blk_drewN BK129.out nd); replace HB := am (pw_below_drewN HB.out nd); generalize w68.drewN nd = w68 at HO_130000 HO_130001 BK126 BK127 BK128 BK129 HB ⊢
         replace HO_130000 := am (Kd.R_drew HO_130000.out); replace HO_130001 := am (Kd.R_drew HO_130001.out); replace BK126 := am (blk_drew BK126.out); replace BK127 := am (blk_drew BK127.out); replace BK128 := am (blk_drew BK128.out); replace BK129 := am (blk_drew BK129.out); replace HB := am (below_drew1 HB.out)
         refine st (n := 15) (S := fun w' => True) (ds := []) trivial (fun hHeld => ?_); refine with_tabW spec_DeltaOf.tab14 spec_DeltaOf.bits14 (fun HT_ HW_ => ?_)
         generalize w68.drew = w73 at HO_130000 HO_130001 BK126 BK127 BK128 BK129 HB hHeld ⊢; refine pu 0 73 ?_; refine pu 1 74 ?_; refine pu 2 75 ?_; refine puu 3 76 ?_; refine puu 4 77 ?_; refine puu 5 78 ?_; refine puu 6 79 ?_; refine puu 7 80 ?_; refine puu 8 81 ?_; refine puu 9 82 ?_; refine puu 10 83 ?_; refine puu 11 84 ?_; refine puu 12 85 ?_; refine puu 13 86 ?_; refine pu 14 87 ?_
         refine done_ (done_of HT_.out (by kernel_rfl)) ?_
         try go_wp2
         go_meet
         case rel => exact ⟨_, (true), sq, H', ⟨b147_⟩, ⟨rq HO_130000.out⟩, ⟨rq HO_130001.out⟩, ⟨bq BK126.out⟩, ⟨bq BK127.out⟩, ⟨bq BK128.out⟩, ⟨bq BK129.out⟩, ⟨b2_⟩⟩
        case rest =>
         clear HC63; clear c60b0 c61b0 hcz67_0 hcz67_1 hfz67_0 hfz67_1 hx139_0 hx139_1 p139 q139; obtain ⟨kq, x87_62, rfl, HA, HJ62, HO_130000, HO_130001, BK126, BK127, BK128, BK129, HB⟩ := hcut
         cases kq with
         | zero => exact absurd HA.out (by simp [spec_DeltaOf.j3])
         | succ kj62 =>
          have H := HA.out; clear HA; simp only [spec_DeltaOf.j3] at H
          by_cases c74 : x87_62 = true
          ·subst c74
           rw [if_pos rfl] at H; replace H := it H; obtain ⟨c75b0, H⟩ := H; replace H := it H; obtain ⟨c76b0, H⟩ := H
           replace H := ip H; obtain ⟨c77, H⟩ := H; have LMc77 := Aside0.mk c77; clear c77; obtain ⟨y145, hy145⟩ : ∃ y_ : List (S66), y_ = (x130001_3 ++ [(⟨(rd_T66 l1_1 x9_3).f0, (rd_T66 l1_1 x9_3).f1⟩ : S66)]) := ⟨_, rfl⟩
           rw [← hy145] at H
           have Ny145 := am hy145; clear hy145
           have H' := am H
           clear H
           try go_wp2
           replace HO_130000 := am (Kd.R_drew HO_130000.out); replace HO_130001 := am (Kd.R_drew HO_130001.out); replace BK126 := am (blk_drew BK126.out); replace BK127 := am (blk_drew BK127.out); replace BK128 := am (blk_drew BK128.out); replace BK129 := am (blk_drew BK129.out); replace HB := am (below_drew1 HB.out)
           have p144 : 0 ≤ (x9_3 : Int) := of_decide_eq_true ad
           have q144 : x9_3 < (l1_1.length : Int) := of_decide_eq_true ad
           obtain ⟨ad144, e144, hx144_0, hx144_1⟩ := at_T66 HR1_1.out x9_3 p144 q144; have hw144_1 := hx144_1; have hw144_0 := hx144_0
           obtain rfl : ad139 = ad144 := (by injection e144)
           replace hx144_0 := kp HB.out hx144_0; replace hx144_1 := kp HB.out hx144_1; replace p144 := eq_true p144; replace q144 := eq_true q144
           refine start_ (n := 11) (S := fun w' => w'.cell? ⟨gb129, 0, none⟩ = some (u130000) ∧ w'.cell? ⟨gb129, 1, none⟩ = some (u130001) ∧ w'.cell? ⟨gb129, 2, none⟩ = some (.bool false) ∧ w'.cell? ⟨gb129, 3, none⟩ = some (.slice none 0 0) ∧ w'.cell? ⟨gb127, 0, none⟩ = some (.slice A1_0 l1_0.length c1_0) ∧ w'.cell? ⟨gb127, 1, none⟩ = some (.slice (some ad139) l1_1.length c1_1) ∧ w'.cell? (ad139.add ((x9_3).toNat * 2)) = some (.string ((rd_T66 l1_1 x9_3).f0)) ∧ w'.cell? ⟨(ad139.add ((x9_3).toNat * 2)).block, (ad139.add ((x9_3).toNat * 2)).off + 1, none⟩ = some (.string ((rd_T66 l1_1 x9_3).f1))) (ds := [10]) #[false, false, false, false, false, false, false, false, false, false, false] (by kernel_rfl) rfl rfl ⟨bd BK129.out 0, bd BK129.out 1, bd BK129.out 2, bd BK129.out 3, bd BK127.out 0, bd BK127.out 1, (kp HB.out hw144_0), (kp HB.out hw144_1)⟩ (fun hHeld => ?_); refine with_tabW spec_DeltaOf.tab15 spec_DeltaOf.bits15 (fun HT_ HW_ => ?_)
           generalize wc.drew = w78 at HO_130000 HO_130001 BK126 BK127 BK128 BK129 HB hx144_0 hx144_1 hHeld ⊢; refine pu 0 88 ?_; refine pu 2 90 ?_; refine pu 4 92 ?_
           refine take_ (i := 1) (N := some 89) (v := ?_) (a' := ?_) #[true, true, true, false, true, false, false, false, false, false, false] rfl rfl (take_ofW HT_.out HW_.out (by kernel_rfl)) (fun _ _ _ h => h) (Or.inl ⟨by rfl, ?_⟩) hHeld ?_ ?_
           rotate_left
           ·rintro w' ⟨s0, s1, s2, s3, s4, s5, s6, s7⟩
            go_simp
            with_reducible rfl
           rotate_left
           ·simp only [Act.put, List.setIfInBounds_toArray, List.set_cons_zero, List.set_cons_succ, i64_w, i32_w]
            rfl
           refine take_ (i := 3) (N := some 91) (v := ?_) (a' := ?_) #[true, true, true, true, true, false, false, false, false, false, false] rfl rfl (take_ofW HT_.out HW_.out (by kernel_rfl)) (fun _ _ _ h => h) (Or.inl ⟨by rfl, ?_⟩) hHeld ?_ ?_
           rotate_left
           ·rintro w' ⟨s0, s1, s2, s3, s4, s5, s6, s7⟩
            go_simp
            with_reducible rfl
           rotate_left
           ·simp only [Act.put, List.setIfInBounds_toArray, List.set_cons_zero, List.set_cons_succ, i64_w, i32_w]
            rfl
           refine pu 5 93 ?_
           refine take_ (i := 6) (N := some 94) (v := ?_) (a' := ?_) #[true, true, true, true, true, true, true, false, false, false, false] rfl rfl (take_ofW HT_.out HW_.out (by kernel_rfl)) (fun _ _ _ h => h) (Or.inl ⟨by rfl, ?_⟩) hHeld ?_ ?_
           rotate_left
           ·rintro w' ⟨s0, s1, s2, s3, s4, s5, s6, s7⟩
            go_simp
            with_reducible rfl
           rotate_left
           ·simp only [Act.put, List.setIfInBounds_toArray, List.set_cons_zero, List.set_cons_succ, i64_w, i32_w]
            rfl
           refine on1 7 95 (fun K hK => ?_)
           refine value_ (w1 := ?_) (v := ?_) (by rfl) rfl ?_ ?_
           rotate_left 2
           ·go_simp
            constructor
            ·rfl
            ·rfl
           refine hK.out _ _ ⟨bd (blk_alloc BK129.out _) 0, bd (blk_alloc BK129.out _) 1, bd (blk_alloc BK129.out _) 2, bd (blk_alloc BK129.out _) 3, bd (blk_alloc BK127.out _) 0, bd (blk_alloc BK127.out _) 1, (World.cell?_alloc_lt _ _ _ (World.block_lt_of_cell? _ _ ((kp HB.out hw144_0)))).trans ((kp HB.out hw144_0)), (World.cell?_alloc_lt _ _ _ (World.block_lt_of_cell? _ _ ((kp HB.out hw144_1)))).trans ((kp HB.out hw144_1))⟩ (fun hHeld => ?_); clear hK K; refine nm 95 ?_; refine on1 8 96 (fun K hK => ?_)
           refine Kd.R_append_step k66 (w0 := w) w.heap.size (by rfl) (.tmp 89) (.tmp 95) 28 66 (.agg #[(.string ⟨#[]⟩), (.string ⟨#[]⟩)]) 32 rfl Try.underlying28 info66 rfl (by decide) (by omega) u130001 x130001_3 (⟨(rd_T66 l1_1 x9_3).f0, (rd_T66 l1_1 x9_3).f1⟩ : S66) [.string ((rd_T66 l1_1 x9_3).f0), .string ((rd_T66 l1_1 x9_3).f1)] (fun _ => True) (fun _ => False) rfl rfl ?aP (fun _ hk => hk.elim) ?aF ?aO ?aB ?aS ?aL ?_
           (case aP => exact k66_mkM _ _ _ (⟨(rd_T66 l1_1 x9_3).f0, (rd_T66 l1_1 x9_3).f1⟩ : S66)); (case aB => exact b2_); (case aF => exact (fun _ _ => trivial)); (case aO => exact (rq HO_130001.out)); (case aS => exact (below_size b2_)); (case aL => have := LMc77.out; omega); intro v146 w79 ho hb hg hat; rw [← Ny145.out] at ho
           replace HO_130000 := am (Kd.R_over' (rq HO_130000.out) (Kd.R_typed (rq HO_130001.out)) (by decide) hg); replace BK126 := am (blk_grown (g := gb126) (o := .cells #[.slice A0_0 l0_0.length c0_0, .slice A0_1 l0_1.length c0_1] 34 (0, 0)) (bq BK126.out) hg (Kd.R_ne HO_130001.out BK126.out (by decide))); replace BK127 := am (blk_grown (g := gb127) (o := .cells #[.slice A1_0 l1_0.length c1_0, .slice (some ad139) l1_1.length c1_1] 34 (0, 0)) (bq BK127.out) hg (Kd.R_ne HO_130001.out BK127.out (by decide))); replace BK128 := am (blk_grown (g := gb128) (o := .cells #[.slice none 0 0, .slice none 0 0, .bool false, .slice none 0 0] 31 (0, 0)) (bq BK128.out) hg (Kd.R_ne HO_130001.out BK128.out (by decide))); replace BK129 := am (blk_grown (g := gb129) (o := .cells #[u130000, u130001, .bool false, .slice none 0 0] 31 (0, 0)) (bq BK129.out) hg (Kd.R_ne HO_130001.out BK129.out (by decide))); replace HB := am (hb); have HO147 := am (ho); clear HO_130001; clear ho hb hg hat; obtain ⟨Ao80, co80, eo80⟩ := Kd.R_slice HO147.out
           (subst eo80)
           refine hK.out _ _ ⟨bd BK129.out 0, bd BK129.out 1, bd BK129.out 2, bd BK129.out 3, bd BK127.out 0, bd BK127.out 1, (kp HB.out hw144_0), (kp HB.out hw144_1)⟩ (fun hHeld => ?_); clear hK K; refine nm 96 ?_; refine pu 9 97 ?_
           refine last_ (i := 10) (N := none) #[true, true, true, true, true, true, true, true, true, true, true] rfl rfl (one_of HT_.out (by kernel_rfl)) (by decide) (fun K hK => ?_)
           have hs81 : w79.cell? ⟨gb129, 1, none⟩ = some (u130001) := bd BK129.out 1
           have hfs81 := bf BK129.out 1; have hns81_0 := NB126_129.out; have hns81_1 := NB127_129.out; have hns81_2 := NB128_129.out; have hms81_0 := NB129_126.out; have hms81_1 := NB129_127.out; have hms81_2 := NB129_128.out
           refine skip_ (w1 := ?_) (by rfl) rfl ?_ ?_
           rotate_left
           ·go_simp
            rfl
           refine hK.out _ _ ?_; clear hK K
           refine done_ (done_of HT_.out (by kernel_rfl)) ?_
           try go_wp2
           go_roundg kj62
           case measure => have := HJ2.out; have := HK2.out; have := HK3.out; have := HJ62.out; omega
           case rel => exact ⟨(wrap64 (x9_3 + 1)), (y145), (.slice Ao80 y145.length co80), sq, H', ⟨by have := HJ2.out; have := HK2.out; have := HK3.out; have := HJ62.out; omega⟩, ⟨rq (Kd.R_mono (Kd.R_far (p := ⟨gb129, 1, none⟩) (Kd.R_types HO_130000.out BK129.out (by decide)) (fun _ hk => hk.2) (.slice Ao80 y145.length co80)) (fun _ hk => trivial))⟩, ⟨rq (Kd.R_mono (Kd.R_far (p := ⟨gb129, 1, none⟩) (Kd.R_types HO147.out BK129.out (by decide)) (fun _ hk => hk.2) (.slice Ao80 y145.length co80)) (fun _ hk => trivial))⟩, ⟨b100_⟩, ⟨b101_⟩, ⟨b102_⟩, ⟨by (with_reducible repeat (fail)); refine blk_put (cs := #[u130000, u130001, .bool false, .slice none 0 0]) ?_ 1 _ rfl; (with_reducible repeat (fail)); exact BK129.out⟩, ⟨b2_⟩⟩
          replace c74 := Bool.eq_false_iff.mpr c74; subst c74
          rw [if_neg Bool.false_ne_true] at H
          have H' := am H
          clear H; go_wp2
          go_roundg kj62
          case measure => have := HJ2.out; have := HK2.out; have := HK3.out; have := HJ62.out; omega
          case rel => exact ⟨(wrap64 (x9_3 + 1)), (x130001_3), (u130001), sq, H', ⟨by have := HJ2.out; have := HK2.out; have := HK3.out; have := HJ62.out; omega⟩, ⟨rq HO_130000.out⟩, ⟨rq HO_130001.out⟩, ⟨bq BK126.out⟩, ⟨bq BK127.out⟩, ⟨bq BK128.out⟩, ⟨bq BK129.out⟩, ⟨b2_⟩⟩
       rw [if_neg c60] at H; have c60b0 := decide_eq_false c60; clear c60; replace H := bs H; obtain ⟨t148, A820, H⟩ := H; have A82 := Aside0.mk A820; clear A820
       by_cases c83 : t148 = true
       ·subst c83
        rw [if_pos rfl] at H; simp only [Option.some.injEq, Prod.mk.injEq] at H
        obtain ⟨rfl, rfl, rfl, rfl⟩ := H; have hnb84 := NB127_126.out; have hnc84 := NB126_127.out; have hnb85 := NB127_128.out; have hnc85 := NB128_127.out; have hnb86 := NB127_129.out; have hnc86 := NB129_127.out; have ⟨hcz87_0, hcz87_1, hfz87_0, hfz87_1⟩ := b2c BK127.out; have hnb88 := NB126_128.out; have hnc88 := NB128_126.out; have hnb89 := NB126_129.out; have hnc89 := NB129_126.out; have ⟨hcz90_0, hcz90_1, hfz90_0, hfz90_1⟩ := b2c BK126.out
        go_wp2_with ((with_reducible refine gate_callee (f := 35) rfl ?_); refine gl 102 Try.func35 #[.slice A0_0 l0_0.length c0_0, .slice A1_0 l1_0.length c1_0] ?_; (with_reducible refine (spec_l5Affixes.calls k3 _ _ l0_0 _ _ l1_0 true _ ?side1 ?side2 ?side3 ?side4 A82.out).mono ?_); (case side1 => exact cq (Kd.C_below HR0_0.out HB.out)); (case side2 => exact HC0_0.out); (case side3 => exact cq (Kd.C_below HR1_0.out HB.out)); (case side4 => exact HC1_0.out); rintro e w' ⟨rfl, ⟨nd, rfl⟩⟩; refine ⟨_, rfl, ?_⟩; ((rw [drewN_self wr]; generalize hq_ : World.drewN wr _ = wr; have n0_ : Aside0 (Kd.R Kd.string 9 wr w.heap.size (fun _ => True) u130000 x130000_2) := ⟨by rw [← hq_]; exact (rq HO_130000.out)⟩; have n1_ : Aside0 (Kd.R k66 66 wr w.heap.size (fun _ => True) u130001 x130001_3) := ⟨by rw [← hq_]; exact (rq HO_130001.out)⟩; have n2_ : Aside0 (wr.heap[gb126]? = some (.cells #[.slice A0_0 l0_0.length c0_0, .slice A0_1 l0_1.length c0_1] 34 (0, 0))) := ⟨by rw [← hq_]; exact (bq BK126.out)⟩; have n3_ : Aside0 (wr.heap[gb127]? = some (.cells #[.slice A1_0 l1_0.length c1_0, .slice A1_1 l1_1.length c1_1] 34 (0, 0))) := ⟨by rw [← hq_]; exact (bq BK127.out)⟩; have n4_ : Aside0 (wr.heap[gb128]? = some (.cells #[.slice none 0 0, .slice none 0 0, .bool false, .slice none 0 0] 31 (0, 0))) := ⟨by rw [← hq_]; exact (bq BK128.out)⟩; have n5_ : Aside0 (wr.heap[gb129]? = some (.cells #[u130000, u130001, .bool false, .slice none 0 0] 31 (0, 0))) := ⟨by rw [← hq_]; exact (bq BK129.out)⟩; have n6_ : Aside0 (Below w.heap.size w wr) := ⟨b80_⟩; clear HO_130000 HO_130001 BK126 BK127 BK128 BK129 HB hq_; have HO_130000 := n0_; have HO_130001 := n1_; have BK126 := n2_; have BK127 := n3_; have BK128 := n4_; have BK129 := n5_; have HB := n6_; clear n0_ n1_ n2_ n3_ n4_ n5_ n6_)); have hnb91 := NB129_128.out; have hnc91 := NB128_129.out; have ⟨hcz92_0, hcz92_1, hcz92_2, hcz92_3, hfz92_0, hfz92_1, hfz92_2, hfz92_3⟩ := b4c BK129.out; obtain ⟨Ao93, co93, eo93⟩ := Kd.R_slice HO_130000.out; subst eo93; have ⟨hcz94_0, hcz94_1, hcz94_2, hcz94_3, hfz94_0, hfz94_1, hfz94_2, hfz94_3⟩ := b4c BK128.out; obtain ⟨Ao95, co95, eo95⟩ := Kd.R_slice HO_130001.out; subst eo95)
        refine bodyPost_ret (results_cell_row rfl _ _ gb128 31 #[.slice Ao93 x130000_2.length co93, .slice Ao95 x130001_3.length co95, .bool false, .slice none 0 0] (0, 0) _ rfl (by (with_reducible repeat (fail)); refine blk_put (cs := #[.slice Ao93 x130000_2.length co93, .slice Ao95 x130001_3.length co95, .bool false, .slice none 0 0]) ?_ 3 _ rfl; (with_reducible repeat (fail)); refine blk_put (cs := #[.slice Ao93 x130000_2.length co93, .slice Ao95 x130001_3.length co95, .bool false, .slice none 0 0]) ?_ 2 _ rfl; (with_reducible repeat (fail)); refine blk_put (cs := #[.slice Ao93 x130000_2.length co93, .slice none 0 0, .bool false, .slice none 0 0]) ?_ 1 _ rfl; (with_reducible repeat (fail)); refine blk_put (cs := #[.slice none 0 0, .slice none 0 0, .bool false, .slice none 0 0]) ?_ 0 _ rfl; (with_reducible repeat (fail)); exact BK128.out) Try.underlying31 rfl (by kernel_rfl)) rfl ?_
        exact ⟨_, _, _, eq_, by (with_reducible repeat (fail)); exact Kd.R_mono (Kd.R_far (p := ⟨gb128, 3, none⟩) (Kd.R_far (p := ⟨gb128, 2, none⟩) (Kd.R_far (p := ⟨gb128, 1, none⟩) (Kd.R_far (p := ⟨gb128, 0, none⟩) (Kd.R_types HO_130000.out BK128.out (by decide)) (fun _ hk => hk.2) (.slice Ao93 x130000_2.length co93)) (fun _ hk => hk.2) (.slice Ao95 x130001_3.length co95)) (fun _ hk => hk.2) (.bool false)) (fun _ hk => hk.2) (.slice none 0 0)) (fun _ hk => trivial), by (with_reducible repeat (fail)); exact Kd.R_mono (Kd.R_far (p := ⟨gb128, 3, none⟩) (Kd.R_far (p := ⟨gb128, 2, none⟩) (Kd.R_far (p := ⟨gb128, 1, none⟩) (Kd.R_far (p := ⟨gb128, 0, none⟩) (Kd.R_types HO_130001.out BK128.out (by decide)) (fun _ hk => hk.2) (.slice Ao93 x130000_2.length co93)) (fun _ hk => hk.2) (.slice Ao95 x130001_3.length co95)) (fun _ hk => hk.2) (.bool false)) (fun _ hk => hk.2) (.slice none 0 0)) (fun _ hk => trivial), b45_, b2_⟩
       replace c83 := Bool.eq_false_iff.mpr c83; subst c83
       rw [if_neg Bool.false_ne_true] at H
       obtain ⟨y149, hy149⟩ : ∃ y_ : List (S73), y_ = (([] : List (S73))) := ⟨_, rfl⟩
       replace H := bm H; rw [← hy149] at H
       have Ny149 := am hy149; clear hy149
       replace H := ip H; obtain ⟨c96, H⟩ := H; have LMc96 := Aside0.mk c96; clear c96; obtain ⟨y152, hy152⟩ : ∃ y_ : List (S73), y_ = (y149 ++ l1_0) := ⟨_, rfl⟩
       rw [← hy152] at H
       have Ny152 := am hy152; clear hy152; simp only [Option.some.injEq, Prod.mk.injEq] at H
       obtain ⟨rfl, rfl, rfl, rfl⟩ := H; have hnb97 := NB127_126.out; have hnc97 := NB126_127.out; have hnb98 := NB127_128.out; have hnc98 := NB128_127.out; have hnb99 := NB127_129.out; have hnc99 := NB129_127.out; have ⟨hcz100_0, hcz100_1, hfz100_0, hfz100_1⟩ := b2c BK127.out; have hnb101 := NB126_128.out; have hnc101 := NB128_126.out; have hnb102 := NB126_129.out; have hnc102 := NB129_126.out; have ⟨hcz103_0, hcz103_1, hfz103_0, hfz103_1⟩ := b2c BK126.out
       go_wp2_with (first | ((with_reducible refine gate_callee (f := 35) rfl ?_); refine gl 102 Try.func35 #[.slice A0_0 l0_0.length c0_0, .slice A1_0 l1_0.length c1_0] ?_; (with_reducible refine (spec_l5Affixes.calls k3 _ _ l0_0 _ _ l1_0 false _ ?side1 ?side2 ?side3 ?side4 A82.out).mono ?_); (case side1 => exact cq (Kd.C_below HR0_0.out HB.out)); (case side2 => exact HC0_0.out); (case side3 => exact cq (Kd.C_below HR1_0.out HB.out)); (case side4 => exact HC1_0.out); rintro e w' ⟨rfl, ⟨nd, rfl⟩⟩; refine ⟨_, rfl, ?_⟩; ((rw [drewN_self wr]; generalize hq_ : World.drewN wr _ = wr; have n0_ : Aside0 (Kd.R Kd.string 9 wr w.heap.size (fun _ => True) u130000 x130000_2) := ⟨by rw [← hq_]; exact (rq HO_130000.out)⟩; have n1_ : Aside0 (Kd.R k66 66 wr w.heap.size (fun _ => True) u130001 x130001_3) := ⟨by rw [← hq_]; exact (rq HO_130001.out)⟩; have n2_ : Aside0 (wr.heap[gb126]? = some (.cells #[.slice A0_0 l0_0.length c0_0, .slice A0_1 l0_1.length c0_1] 34 (0, 0))) := ⟨by rw [← hq_]; exact (bq BK126.out)⟩; have n3_ : Aside0 (wr.heap[gb127]? = some (.cells #[.slice A1_0 l1_0.length c1_0, .slice A1_1 l1_1.length c1_1] 34 (0, 0))) := ⟨by rw [← hq_]; exact (bq BK127.out)⟩; have n4_ : Aside0 (wr.heap[gb128]? = some (.cells #[.slice none 0 0, .slice none 0 0, .bool false, .slice none 0 0] 31 (0, 0))) := ⟨by rw [← hq_]; exact (bq BK128.out)⟩; have n5_ : Aside0 (wr.heap[gb129]? = some (.cells #[u130000, u130001, .bool false, .slice none 0 0] 31 (0, 0))) := ⟨by rw [← hq_]; exact (bq BK129.out)⟩; have n6_ : Aside0 (Below w.heap.size w wr) := ⟨b80_⟩; clear HO_130000 HO_130001 BK126 BK127 BK128 BK129 HB hq_; have HO_130000 := n0_; have HO_130001 := n1_; have BK126 := n2_; have BK127 := n3_; have BK128 := n4_; have BK129 := n5_; have HB := n6_; clear n0_ n1_ n2_ n3_ n4_ n5_ n6_)); have hnb104 := NB129_128.out; have hnc104 := NB128_129.out; have ⟨hcz105_0, hcz105_1, hcz105_2, hcz105_3, hfz105_0, hfz105_1, hfz105_2, hfz105_3⟩ := b4c BK129.out) | ((with_reducible refine gate_dst (N := 105) rfl ?_); refine Kd.R_lit k73 _ 73 ?hg (N := 105) ?hd (xs := ([] : List (S73))) (inner := []) (ok := fun _ => True) (okp := fun _ => True) ?hr ?hp (fun _ hk => hk) trivial (Below.refl _ _) (Nat.le_refl _) (by simp) ?_; (case hd => rfl); (case hg => rfl); (case hr => (go_simp; done)); (case hp => exact (Reps.none _ _)); intro v150 w106 ho107 hb hg_ hnew_; clear hg_ hnew_; (rw [← Ny149.out] at ho107); replace HO_130000 := am (Kd.R_below (rq ((Kd.R_mono (Kd.R_far (p := ⟨gb129, 2, none⟩) (Kd.R_types HO_130000.out BK129.out (by decide)) (fun _ hk => hk.2) (.bool true)) (fun _ h_ => h_.1)))) hb); replace HO_130001 := am (Kd.R_below (rq ((Kd.R_mono (Kd.R_far (p := ⟨gb129, 2, none⟩) (Kd.R_types HO_130001.out BK129.out (by decide)) (fun _ hk => hk.2) (.bool true)) (fun _ h_ => h_.1)))) hb); have HO151 := am (Kd.R_lower ho107 (below_size b2_)); replace BK126 := am (blk_below (g := gb126) (o := .cells #[.slice A0_0 l0_0.length c0_0, .slice A0_1 l0_1.length c0_1] 34 (0, 0)) b100_ hb); replace BK127 := am (blk_below (g := gb127) (o := .cells #[.slice A1_0 l1_0.length c1_0, .slice A1_1 l1_1.length c1_1] 34 (0, 0)) b101_ hb); replace BK128 := am (blk_below (g := gb128) (o := .cells #[.slice none 0 0, .slice none 0 0, .bool false, .slice none 0 0] 31 (0, 0)) b102_ hb); replace BK129 := am (blk_below (g := gb129) (o := .cells #[u130000, u130001, .bool true, .slice none 0 0] 31 (0, 0)) (by (with_reducible repeat (fail)); refine blk_put (cs := #[u130000, u130001, .bool false, .slice none 0 0]) ?_ 2 _ rfl; (with_reducible repeat (fail)); exact BK129.out) hb); replace HB := am (below_step b2_ hb); clear hb ho107; have ⟨hcz108_0, hcz108_1, hfz108_0, hfz108_1⟩ := b2c BK127.out) | ((with_reducible refine gate_builtin (b := .append) (xs := #[.tmp 105, .tmp 107]) rfl ?_); at_builtin; refine Kd.R_append_rows k73 (w0 := w) w.heap.size rfl (.tmp 105) (.tmp 107) 29 73 (.agg #[(.string ⟨#[]⟩), (.bool false), (.string ⟨#[]⟩), (.string ⟨#[]⟩), (.string ⟨#[]⟩)]) 72 rfl Try.underlying29 info73 rfl (by decide) (by omega) v150 y149 l1_0 _ _ _ (fun _ => True) (fun _ => False) rfl rfl ?aO ?aR (fun _ _ h => h) (fun _ h => h.elim) ?aF ?aB ?aS ?aL ?_; (case aR => exact cq (Kd.C_below HR1_0.out HB.out)); (case aB => exact b2_); (case aF => exact (fun _ _ => trivial)); (case aO => exact (rq HO151.out)); (case aS => exact (below_size b2_)); (case aL => have := LMc96.out; omega); intro v153 w109 ho hb hg hat; rw [← Ny152.out] at ho; replace HO_130000 := am (Kd.R_over' (rq HO_130000.out) (Kd.R_typed (rq HO151.out)) (by decide) hg); replace HO_130001 := am (Kd.R_over' (rq HO_130001.out) (Kd.R_typed (rq HO151.out)) (by decide) hg); replace BK126 := am (blk_grown (g := gb126) (o := .cells #[.slice A0_0 l0_0.length c0_0, .slice A0_1 l0_1.length c0_1] 34 (0, 0)) (bq BK126.out) hg (Kd.R_ne HO151.out BK126.out (by decide))); replace BK127 := am (blk_grown (g := gb127) (o := .cells #[.slice A1_0 l1_0.length c1_0, .slice A1_1 l1_1.length c1_1] 34 (0, 0)) (bq BK127.out) hg (Kd.R_ne HO151.out BK127.out (by decide))); replace BK128 := am (blk_grown (g := gb128) (o := .cells #[.slice none 0 0, .slice none 0 0, .bool false, .slice none 0 0] 31 (0, 0)) (bq BK128.out) hg (Kd.R_ne HO151.out BK128.out (by decide))); replace BK129 := am (blk_grown (g := gb129) (o := .cells #[u130000, u130001, .bool true, .slice none 0 0] 31 (0, 0)) (bq BK129.out) hg (Kd.R_ne HO151.out BK129.out (by decide))); replace HB := am (hb); have HO154 := am (ho); clear HO151; clear ho hb hg hat; obtain ⟨Ao110, co110, eo110⟩ := Kd.R_slice HO154.out; subst eo110; have ⟨hcz111_0, hcz111_1, hcz111_2, hcz111_3, hfz111_0, hfz111_1, hfz111_2, hfz111_3⟩ := b4c BK129.out; obtain ⟨Ao112, co112, eo112⟩ := Kd.R_slice HO_130000.out; subst eo112; have ⟨hcz113_0, hcz113_1, hcz113_2, hcz113_3, hfz113_0, hfz113_1, hfz113_2, hfz113_3⟩ := b4c BK128.out; obtain ⟨Ao114, co114, eo114⟩ := Kd.R_slice HO_130001.out; subst eo114))
       refine bodyPost_ret (results_cell_row rfl _ _ gb128 31 #[.slice Ao112 x130000_2.length co112, .slice Ao114 x130001_3.length co114, .bool true, .slice Ao110 y152.length co110] (0, 0) _ rfl (by (with_reducible repeat (fail)); refine blk_put (cs := #[.slice Ao112 x130000_2.length co112, .slice Ao114 x130001_3.length co114, .bool true, .slice none 0 0]) ?_ 3 _ rfl; (with_reducible repeat (fail)); refine blk_put (cs := #[.slice Ao112 x130000_2.length co112, .slice Ao114 x130001_3.length co114, .bool false, .slice none 0 0]) ?_ 2 _ rfl; (with_reducible repeat (fail)); refine blk_put (cs := #[.slice Ao112 x130000_2.length co112, .slice none 0 0, .bool false, .slice none 0 0]) ?_ 1 _ rfl; (with_reducible repeat (fail)); refine blk_put (cs := #[.slice none 0 0, .slice none 0 0, .bool false, .slice none 0 0]) ?_ 0 _ rfl; (with_reducible repeat (fail)); refine blk_far ?_ NB128_129.out _; (with_reducible repeat (fail)); exact BK128.out) Try.underlying31 rfl (by kernel_rfl)) rfl ?_
       exact ⟨_, _, _, eq_, by (with_reducible repeat (fail)); exact Kd.R_mono (Kd.R_far (p := ⟨gb128, 3, none⟩) (Kd.R_far (p := ⟨gb128, 2, none⟩) (Kd.R_far (p := ⟨gb128, 1, none⟩) (Kd.R_far (p := ⟨gb128, 0, none⟩) (Kd.R_far (p := ⟨gb129, 3, none⟩) (Kd.R_types (Kd.R_types HO_130000.out BK129.out (by decide)) BK128.out (by decide)) (fun _ hk => hk.1.2) (.slice Ao110 y152.length co110)) (fun _ hk => hk.2) (.slice Ao112 x130000_2.length co112)) (fun _ hk => hk.2) (.slice Ao114 x130001_3.length co114)) (fun _ hk => hk.2) (.bool true)) (fun _ hk => hk.2) (.slice Ao110 y152.length co110)) (fun _ hk => trivial), by (with_reducible repeat (fail)); exact Kd.R_mono (Kd.R_far (p := ⟨gb128, 3, none⟩) (Kd.R_far (p := ⟨gb128, 2, none⟩) (Kd.R_far (p := ⟨gb128, 1, none⟩) (Kd.R_far (p := ⟨gb128, 0, none⟩) (Kd.R_far (p := ⟨gb129, 3, none⟩) (Kd.R_types (Kd.R_types HO_130001.out BK129.out (by decide)) BK128.out (by decide)) (fun _ hk => hk.1.2) (.slice Ao110 y152.length co110)) (fun _ hk => hk.2) (.slice Ao112 x130000_2.length co112)) (fun _ hk => hk.2) (.slice Ao114 x130001_3.length co114)) (fun _ hk => hk.2) (.bool true)) (fun _ hk => hk.2) (.slice Ao110 y152.length co110)) (fun _ hk => trivial), by (with_reducible repeat (fail)); exact Kd.R_mono (Kd.R_far (p := ⟨gb128, 3, none⟩) (Kd.R_far (p := ⟨gb128, 2, none⟩) (Kd.R_far (p := ⟨gb128, 1, none⟩) (Kd.R_far (p := ⟨gb128, 0, none⟩) (Kd.R_far (p := ⟨gb129, 3, none⟩) (Kd.R_types (Kd.R_types HO154.out BK129.out (by decide)) BK128.out (by decide)) (fun _ hk => hk.1.2) (.slice Ao110 y152.length co110)) (fun _ hk => hk.2) (.slice Ao112 x130000_2.length co112)) (fun _ hk => hk.2) (.slice Ao114 x130001_3.length co114)) (fun _ hk => hk.2) (.bool true)) (fun _ hk => hk.2) (.slice Ao110 y152.length co110)) (fun _ hk => trivial), b2_⟩
-- shrunk

/-! ### impl_within: function 77 -/
def impl_within.f (a0 : Int) (a1 : Int) (a2 : Int) : Option (Bool) := if a0 ≥ a1 then (some (decide (a0 ≤ a2))) else (some false)
theorem impl_within.calls (a0 : Int) (a1 : Int) (a2 : Int) (r : Bool) (w : World) (h : impl_within.f a0 a1 a2 = some r) :
  Calls Try.prog 77 #[.int .i64 a0, .int .i64 a1, .int .i64 a2] w fun e w' => e = .returned (.bool r) ∧ Drawn0 w w' := by
 have H := h; unfold impl_within.f at H
 clear h
 by_cases c4 : a0 ≥ a1
 ·rw [if_pos c4] at H; have c4b0 := decide_eq_true c4; clear c4; obtain rfl := Option.some.inj H; go_enter Try.func77, Try.ntmps77; go_wp2; go_ret
  exact ⟨sq, dr⟩
 rw [if_neg c4] at H; have c4b0 := decide_eq_false c4; clear c4; obtain rfl := Option.some.inj H; go_enter Try.func77, Try.ntmps77; go_wp2; go_ret
 exact ⟨sq, dr⟩

/-! ### impl_lower: function 109 -/
def impl_lower.l0 : Nat → ByteArray → Int → Int → Option (Bool)
 | 0, _, _, _ => none
 | k + 1, x0, x5, x6 => if x6 < x5 then (if 0 ≤ x6 then (if x6 < (x0.size : Int) then (if (bt x0 x6) < 97 then (some false) else (if (bt x0 x6) > 122 then (some false) else (impl_lower.l0 k x0 x5 (wrap64 (x6 + 1))))) else (none)) else (none)) else (some true)
def impl_lower.f (k : Nat) (a0 : ByteArray) : Option (Bool) := impl_lower.l0 k a0 (a0.size : Int) 0
theorem impl_lower.calls (k : Nat) (a0 : ByteArray) (r : Bool) (w : World) (h : impl_lower.f k a0 = some r) :
  Calls Try.prog 109 #[.string a0] w fun e w' => e = .returned (.bool r) ∧ Drawn0 w w' := by
 have H := h; unfold impl_lower.f at H
 clear h
 have H' := am H
 clear H; go_enter Try.func109, Try.ntmps109; go_wp2
 go_loopg [6] k (fun kq v6 w' => ∃ (x6_1 : Int), v6 = .int .i64 x6_1 ∧ Aside0 (impl_lower.l0 kq a0 (a0.size : Int) x6_1 = some r) ∧ Aside0 (kq ≤ k) ∧ Drawn0 w w')
 case atStart => exact ⟨(0), sq, H', ⟨Nat.le_refl _⟩, dr⟩
 case round =>
  clear H'; obtain ⟨x6_1, rfl, HA, HK1, ⟨m1, rfl⟩⟩ := hrel
  cases gk with
  | zero => exact absurd HA.out (by simp [impl_lower.l0])
  | succ k1 =>
   have H := HA.out; clear HA; simp only [impl_lower.l0] at H
   by_cases c2 : x6_1 < (a0.size : Int)
   ·rw [if_pos c2] at H; have c2b0 := decide_eq_true c2; clear c2
    replace H := it H; obtain ⟨c3b0, H⟩ := H; replace H := it H; obtain ⟨c4b0, H⟩ := H
    by_cases c6 : (bt a0 x6_1) < 97
    ·rw [if_pos c6] at H; have c6b0 := decide_eq_true c6; clear c6; obtain rfl := Option.some.inj H
     have p5 : 0 ≤ (x6_1 : Int) := of_decide_eq_true ad
     have q5 : x6_1 < (a0.size : Int) := of_decide_eq_true ad
     have hx5 := bt_at a0 x6_1; replace p5 := eq_true p5; replace q5 := eq_true q5; go_wp2; go_ret
     exact ⟨sq, dr⟩
    rw [if_neg c6] at H; have c6b0 := decide_eq_false c6; clear c6
    by_cases c8 : (bt a0 x6_1) > 122
    ·rw [if_pos c8] at H; have c8b0 := decide_eq_true c8; clear c8; obtain rfl := Option.some.inj H
     have p5 : 0 ≤ (x6_1 : Int) := of_decide_eq_true ad
     have q5 : x6_1 < (a0.size : Int) := of_decide_eq_true ad
     have hx5 := bt_at a0 x6_1; replace p5 := eq_true p5; replace q5 := eq_true q5
     have p7 : 0 ≤ (x6_1 : Int) := of_decide_eq_true ad
     have q7 : x6_1 < (a0.size : Int) := of_decide_eq_true ad
     have hx7 := bt_at a0 x6_1; replace p7 := eq_true p7; replace q7 := eq_true q7; go_wp2; go_ret
     exact ⟨sq, dr⟩
    rw [if_neg c8] at H; have c8b0 := decide_eq_false c8; clear c8
    have H' := am H
    clear H
    have p5 : 0 ≤ (x6_1 : Int) := of_decide_eq_true ad
    have q5 : x6_1 < (a0.size : Int) := of_decide_eq_true ad
    have hx5 := bt_at a0 x6_1; replace p5 := eq_true p5; replace q5 := eq_true q5
    have p7 : 0 ≤ (x6_1 : Int) := of_decide_eq_true ad
    have q7 : x6_1 < (a0.size : Int) := of_decide_eq_true ad
    have hx7 := bt_at a0 x6_1; replace p7 := eq_true p7; replace q7 := eq_true q7; go_wp2
    go_roundg k1
    case measure => have := HK1.out; omega
    case rel => exact ⟨(wrap64 (x6_1 + 1)), sq, H', ⟨b129_⟩, dr⟩
   rw [if_neg c2] at H; have c2b0 := decide_eq_false c2; clear c2; obtain rfl := Option.some.inj H; go_wp2; go_ret
   exact ⟨sq, dr⟩

/-! ### impl_WordOk: function 78 -/
def impl_WordOk.f (k : Nat) (a0 : ByteArray) : Option (Bool) := (impl_within.f (a0.size : Int) 1 12).bind fun t155 => (if t155 = true then ((impl_lower.f k a0).bind fun t156 => (some t156)) else (some false))
theorem impl_WordOk.calls (k : Nat) (a0 : ByteArray) (r : Bool) (w : World) (h : impl_WordOk.f k a0 = some r) :
  Calls Try.prog 78 #[.string a0] w fun e w' => e = .returned (.bool r) ∧ Drawn0 w w' := by
 have H := h; unfold impl_WordOk.f at H
 clear h; replace H := bs H; obtain ⟨t155, A20, H⟩ := H; have A2 := Aside0.mk A20; clear A20
 by_cases c3 : t155 = true
 ·subst c3
  rw [if_pos rfl] at H
  replace H := bs H; obtain ⟨t156, A40, H⟩ := H; have A4 := Aside0.mk A40; clear A40; obtain rfl := Option.some.inj H; go_enter Try.func78, Try.ntmps78
  go_wp2_with (first | ((with_reducible refine gate_callee (f := 77) rfl ?_); refine gl 5 Try.func77 #[.int .i64 (a0.size : Int), .int .i64 1, .int .i64 12] ?_; (with_reducible refine (impl_within.calls (a0.size : Int) 1 12 true _ A2.out).mono ?_); rintro e w' ⟨rfl, ⟨nd, rfl⟩⟩; refine ⟨_, rfl, ?_⟩) | (go_at_call 109; (with_reducible refine (impl_lower.calls k a0 t156 _ A4.out).mono ?_); rintro e w' ⟨rfl, ⟨nd, rfl⟩⟩))
  go_ret
  exact ⟨sq, dr⟩
 replace c3 := Bool.eq_false_iff.mpr c3; subst c3
 rw [if_neg Bool.false_ne_true] at H
 obtain rfl := Option.some.inj H; go_enter Try.func78, Try.ntmps78
 go_wp2_with ((with_reducible refine gate_callee (f := 77) rfl ?_); refine gl 5 Try.func77 #[.int .i64 (a0.size : Int), .int .i64 1, .int .i64 12] ?_; (with_reducible refine (impl_within.calls (a0.size : Int) 1 12 false _ A2.out).mono ?_); rintro e w' ⟨rfl, ⟨nd, rfl⟩⟩; refine ⟨_, rfl, ?_⟩)
 go_ret
 exact ⟨sq, dr⟩

/-! ### impl_upper: function 120 -/
def impl_upper.f (a0 : Int) : Option (Bool) := if a0 ≥ 65 then (some (decide (a0 ≤ 90))) else (some false)
theorem impl_upper.calls (a0 : Int) (r : Bool) (w : World) (h : impl_upper.f a0 = some r) :
  Calls Try.prog 120 #[.int .u8 a0] w fun e w' => e = .returned (.bool r) ∧ Drawn0 w w' := by
 have H := h; unfold impl_upper.f at H
 clear h
 by_cases c2 : a0 ≥ 65
 ·rw [if_pos c2] at H; have c2b0 := decide_eq_true c2; clear c2; obtain rfl := Option.some.inj H; go_enter Try.func120, Try.ntmps120; go_wp2; go_ret
  exact ⟨sq, dr⟩
 rw [if_neg c2] at H; have c2b0 := decide_eq_false c2; clear c2; obtain rfl := Option.some.inj H; go_enter Try.func120, Try.ntmps120; go_wp2; go_ret
 exact ⟨sq, dr⟩

/-! ### impl_entryOk: function 99 -/
def impl_entryOk.l0 : Nat → Int → Int → ByteArray → ByteArray → Option (Bool)
 | 0, _, _, _, _ => none
 | k + 1, x6, x7, x158000, x158001 => if x7 < x6 then (if 0 ≤ x7 then (if x7 < (x158001.size : Int) then ((impl_upper.f (bt x158001 x7)).bind fun t158 => (if t158 = true then (if x7 > 0 then (if 0 ≤ (wrap64 (x7 - 1)) then (if (wrap64 (x7 - 1)) < (x158001.size : Int) then (if (bt x158001 (wrap64 (x7 - 1))) ≥ (bt x158001 x7) then (some false) else (impl_entryOk.l0 k x6 (wrap64 (x7 + 1)) x158000 x158001)) else (none)) else (none)) else (impl_entryOk.l0 k x6 (wrap64 (x7 + 1)) x158000 x158001)) else (some false))) else (none)) else (none)) else ((impl_WordOk.f k x158000).bind fun t159 => (if t159 = true then (some (decide ((x158001.size : Int) ≤ 4))) else (some false)))
def impl_entryOk.f (k : Nat) (a0_0 : ByteArray) (a0_1 : ByteArray) : Option (Bool) := impl_entryOk.l0 k (a0_1.size : Int) 0 a0_0 a0_1
theorem impl_entryOk.calls (k : Nat) (a0_0 : ByteArray) (a0_1 : ByteArray) (r : Bool) (w : World) (h : impl_entryOk.f k a0_0 a0_1 = some r) :
  Calls Try.prog 99 #[.agg #[.string a0_0, .string a0_1]] w fun e w' => e = .returned (.bool r) ∧ Below w.heap.size w w' := by
 have hu66 := Try.underlying66; have HB := am (Below.refl w.heap.size w)
 have H := h; unfold impl_entryOk.f at H
 clear h
 have H' := am H
 clear H; go_enter Try.func99, Try.ntmps99
 go_wp2_with ((with_reducible refine gate_dst (N := 1) rfl ?_); ((refine gate_guard (by rfl) ?_; dsimp only)); refine bx 1 (cs := #[.string a0_0, .string a0_1]) (t := 66) ?_; intro gb157 hg w2 hbox hb; have BK157 := am (hbox); have GW157 := am ((b26_ : w.heap.size ≤ gb157)); have GE157 := am ((b26_ : w.heap.size ≤ gb157)); replace HB := am (below_step bel hb); clear hb hbox hg; have ⟨hcz3_0, hcz3_1, hfz3_0, hfz3_1⟩ := b2c BK157.out)
 go_loopg [7] k (fun kq v7 w' => ∃ (x7_1 : Int), v7 = .int .i64 x7_1 ∧ Aside0 (impl_entryOk.l0 kq (a0_1.size : Int) x7_1 a0_0 a0_1 = some r) ∧ Aside0 (kq ≤ k) ∧ Aside0 (w'.heap[gb157]? = some (.cells #[.string a0_0, .string a0_1] 66 (0, 0))) ∧ Aside0 (Below w.heap.size w w'))
 case atStart => exact ⟨(0), sq, H', ⟨Nat.le_refl _⟩, ⟨bq BK157.out⟩, ⟨bel1 GE157.out⟩⟩
 case round =>
  clear H'; clear hcz3_0 hcz3_1 hfz3_0 hfz3_1; obtain ⟨x7_1, rfl, HA, HK1, BK157, HB⟩ := hrel
  cases gk with
  | zero => exact absurd HA.out (by simp [impl_entryOk.l0])
  | succ k1 =>
   have H := HA.out; clear HA; simp only [impl_entryOk.l0] at H
   by_cases c4 : x7_1 < (a0_1.size : Int)
   ·rw [if_pos c4] at H; have c4b0 := decide_eq_true c4; clear c4
    replace H := it H; obtain ⟨c5b0, H⟩ := H
    replace H := it H; obtain ⟨c6b0, H⟩ := H; replace H := bs H; obtain ⟨t158, A80, H⟩ := H; have A8 := Aside0.mk A80; clear A80
    by_cases c9 : t158 = true
    ·subst c9
     rw [if_pos rfl] at H
     by_cases c10 : x7_1 > 0
     ·rw [if_pos c10] at H; have c10b0 := decide_eq_true c10; clear c10; obtain ⟨ji11, hji11⟩ : ∃ j_ : Int, (wrap64 (x7_1 - 1)) = j_ := ⟨_, rfl⟩
      rw [hji11] at H
      have hji11w : (IntKind.i64.wrap (x7_1 - 1)) = ji11 := (i64_w _).trans hji11
      replace H := it H; obtain ⟨c12b0, H⟩ := H; replace H := it H; obtain ⟨c13b0, H⟩ := H
      by_cases c16 : (bt a0_1 (ji11)) ≥ (bt a0_1 x7_1)
      ·rw [if_pos c16] at H; have c16b0 := decide_eq_true c16; clear c16; obtain rfl := Option.some.inj H; have ⟨hcz17_0, hcz17_1, hfz17_0, hfz17_1⟩ := b2c BK157.out
       have p7 : 0 ≤ (x7_1 : Int) := of_decide_eq_true ad
       have q7 : x7_1 < (a0_1.size : Int) := of_decide_eq_true ad
       have hx7 := bt_at a0_1 x7_1; replace p7 := eq_true p7; replace q7 := eq_true q7
       have p14 : 0 ≤ ((ji11) : Int) := of_decide_eq_true ad
       have q14 : (ji11) < (a0_1.size : Int) := of_decide_eq_true ad
       have hx14 := bt_at a0_1 (ji11)
       replace p14 := eq_true p14
       replace q14 := eq_true q14
       have p15 : 0 ≤ (x7_1 : Int) := of_decide_eq_true ad
       have q15 : x7_1 < (a0_1.size : Int) := of_decide_eq_true ad
       have hx15 := bt_at a0_1 x7_1
       replace p15 := eq_true p15
       replace q15 := eq_true q15
       go_wp2
       repeat (go_quiet ((go_at_call 120; (with_reducible refine (impl_upper.calls (bt a0_1 x7_1) true _ A8.out).mono ?_); rintro e w' ⟨rfl, ⟨nd, rfl⟩⟩; exact ⟨rfl, _, World.drewN_drewN _ _ _⟩)); try go_wp2)
       go_ret
       exact ⟨by rfl, bel1 GE157.out⟩
      rw [if_neg c16] at H; have c16b0 := decide_eq_false c16; clear c16
      have H' := am H
      clear H; have ⟨hcz18_0, hcz18_1, hfz18_0, hfz18_1⟩ := b2c BK157.out
      have p7 : 0 ≤ (x7_1 : Int) := of_decide_eq_true ad
      have q7 : x7_1 < (a0_1.size : Int) := of_decide_eq_true ad
      have hx7 := bt_at a0_1 x7_1; replace p7 := eq_true p7; replace q7 := eq_true q7
      have p14 : 0 ≤ ((ji11) : Int) := of_decide_eq_true ad
      have q14 : (ji11) < (a0_1.size : Int) := of_decide_eq_true ad
      have hx14 := bt_at a0_1 (ji11)
      replace p14 := eq_true p14
      replace q14 := eq_true q14
      have p15 : 0 ≤ (x7_1 : Int) := of_decide_eq_true ad
      have q15 : x7_1 < (a0_1.size : Int) := of_decide_eq_true ad
      have hx15 := bt_at a0_1 x7_1
      replace p15 := eq_true p15
      replace q15 := eq_true q15
      go_wp2
      repeat (go_quiet ((go_at_call 120; (with_reducible refine (impl_upper.calls (bt a0_1 x7_1) true _ A8.out).mono ?_); rintro e w' ⟨rfl, ⟨nd, rfl⟩⟩; exact ⟨rfl, _, World.drewN_drewN _ _ _⟩)); try go_wp2)
      go_roundg k1
      case measure => have := HK1.out; omega
      case rel => exact ⟨(wrap64 (x7_1 + 1)), sq, H', ⟨b129_⟩, ⟨bq BK157.out⟩, ⟨bel1 GE157.out⟩⟩
     rw [if_neg c10] at H; have c10b0 := decide_eq_false c10; clear c10
     have H' := am H
     clear H; have ⟨hcz19_0, hcz19_1, hfz19_0, hfz19_1⟩ := b2c BK157.out
     have p7 : 0 ≤ (x7_1 : Int) := of_decide_eq_true ad
     have q7 : x7_1 < (a0_1.size : Int) := of_decide_eq_true ad
     have hx7 := bt_at a0_1 x7_1; replace p7 := eq_true p7; replace q7 := eq_true q7
     go_wp2
     repeat (go_quiet ((go_at_call 120; (with_reducible refine (impl_upper.calls (bt a0_1 x7_1) true _ A8.out).mono ?_); rintro e w' ⟨rfl, ⟨nd, rfl⟩⟩; exact ⟨rfl, _, World.drewN_drewN _ _ _⟩)); try go_wp2)
     go_roundg k1
     case measure => have := HK1.out; omega
     case rel => exact ⟨(wrap64 (x7_1 + 1)), sq, H', ⟨b129_⟩, ⟨bq BK157.out⟩, ⟨bel1 GE157.out⟩⟩
    replace c9 := Bool.eq_false_iff.mpr c9; subst c9
    rw [if_neg Bool.false_ne_true] at H
    obtain rfl := Option.some.inj H; have ⟨hcz20_0, hcz20_1, hfz20_0, hfz20_1⟩ := b2c BK157.out
    have p7 : 0 ≤ (x7_1 : Int) := of_decide_eq_true ad
    have q7 : x7_1 < (a0_1.size : Int) := of_decide_eq_true ad
    have hx7 := bt_at a0_1 x7_1; replace p7 := eq_true p7; replace q7 := eq_true q7
    go_wp2
    repeat (go_quiet ((go_at_call 120; (with_reducible refine (impl_upper.calls (bt a0_1 x7_1) false _ A8.out).mono ?_); rintro e w' ⟨rfl, ⟨nd, rfl⟩⟩; exact ⟨rfl, _, World.drewN_drewN _ _ _⟩)); try go_wp2)
    go_ret
    exact ⟨eq_, bel1 GE157.out⟩
   rw [if_neg c4] at H; have c4b0 := decide_eq_false c4; clear c4; replace H := bs H; obtain ⟨t159, A210, H⟩ := H; have A21 := Aside0.mk A210; clear A210
   by_cases c22 : t159 = true
   ·subst c22
    rw [if_pos rfl] at H
    obtain rfl := Option.some.inj H; have ⟨hcz23_0, hcz23_1, hfz23_0, hfz23_1⟩ := b2c BK157.out
    go_wp2_with (go_at_call 78; (with_reducible refine (impl_WordOk.calls k1 a0_0 true _ A21.out).mono ?_); rintro e w' ⟨rfl, ⟨nd, rfl⟩⟩)
    go_ret
    exact ⟨eq_, bel1 GE157.out⟩
   replace c22 := Bool.eq_false_iff.mpr c22; subst c22
   rw [if_neg Bool.false_ne_true] at H
   obtain rfl := Option.some.inj H; have ⟨hcz24_0, hcz24_1, hfz24_0, hfz24_1⟩ := b2c BK157.out
   go_wp2_with (go_at_call 78; (with_reducible refine (impl_WordOk.calls k1 a0_0 false _ A21.out).mono ?_); rintro e w' ⟨rfl, ⟨nd, rfl⟩⟩)
   go_ret
   exact ⟨eq_, bel1 GE157.out⟩
-- shrunk

/-! ### impl_entriesOk: function 61 -/
def impl_entriesOk.l0 : Nat → List (S66) → List (S66) → Int → Int → Option (Bool)
 | 0, _, _, _, _ => none
 | k + 1, x0, x5, x6, x7 => if x7 < x6 then (if 0 ≤ x7 then (if x7 < (x5.length : Int) then ((impl_entryOk.f k ((rd_T66 x5 x7).f0) ((rd_T66 x5 x7).f1)).bind fun t162 => (if t162 = true then (if x7 > 0 then (if 0 ≤ (wrap64 (x7 - 1)) then (if (wrap64 (x7 - 1)) < (x0.length : Int) then (if ((Op.bytesLess (((rd_T66 x0 (wrap64 (x7 - 1))).f0).toList) (((rd_T66 x5 x7).f0).toList)) = true) then (impl_entriesOk.l0 k x0 x5 x6 (wrap64 (x7 + 1))) else (some false)) else (none)) else (none)) else (impl_entriesOk.l0 k x0 x5 x6 (wrap64 (x7 + 1)))) else (some false))) else (none)) else (none)) else (some (decide ((x0.length : Int) ≤ 24)))
def impl_entriesOk.f (k : Nat) (l0 : List (S66)) : Option (Bool) := impl_entriesOk.l0 k l0 l0 (l0.length : Int) 0
def impl_entriesOk.T4 : Bool × List (List Nat × List Nat) := (true, [([], []), ([0], [0]), ([1], [1]), ([2, 1], [2]), ([3], [3]), ([4, 3], [3, 4]), ([5, 3, 3], [3, 5]), ([6], [6]), ([6], [6]), ([8, 6], [6, 8]), ([7, 9, 6], [6, 7, 9]), ([10, 6], [6, 10]), ([11, 6], [6, 11]), ([6], [6]), ([13, 6], [6, 13]), ([12, 14, 6], [6, 12, 14]), ([6, 15, 3], [3, 6, 15]), ([3, 16], [3, 16])])
def impl_entriesOk.B4 : List Nat := [0, 1, 3, 7, 15, 31, 63, 127, 127, 383, 1023, 2047, 4095, 127, 8319, 32767, 65535, 131071]
theorem impl_entriesOk.tab4 : rtab .any (opsOf Try.f61 4) = impl_entriesOk.T4 := by kernel_rfl
theorem impl_entriesOk.bits4 : waitsOk impl_entriesOk.T4.2 impl_entriesOk.B4 = true := by kernel_rfl
theorem impl_entriesOk.calls (k : Nat) (A0 : Option Addr) (c0 : Nat) (l0 : List (S66)) (r : Bool) (w : World) (hr0 : Kd.C k66 w A0 l0.length l0) (hc0 : l0.length ≤ c0) (h : impl_entriesOk.f k l0 = some r) :
  Calls Try.prog 61 #[.slice A0 l0.length c0] w fun e w' => e = .returned (.bool r) ∧ Below w.heap.size w w' := by
 have hu66 := Try.underlying66; have HR0 := am hr0; have HC0 := am hc0; clear hr0 hc0; have HB := am (Below.refl w.heap.size w)
 have H := h; unfold impl_entriesOk.f at H
 clear h
 have H' := am H
 clear H; go_enter Try.func61, Try.ntmps61; go_wp2
 go_loopg [7] k (fun kq v7 w' => ∃ (x7_1 : Int), v7 = .int .i64 x7_1 ∧ Aside0 (impl_entriesOk.l0 kq l0 l0 (l0.length : Int) x7_1 = some r) ∧ Aside0 (kq ≤ k) ∧ Aside0 (Below w.heap.size w w'))
 case atStart => exact ⟨(0), sq, H', ⟨Nat.le_refl _⟩, ⟨bel⟩⟩
 case round =>
  clear H'; obtain ⟨x7_1, rfl, HA, HK1, HB⟩ := hrel
  cases gk with
  | zero => exact absurd HA.out (by simp [impl_entriesOk.l0])
  | succ k1 =>
   have H := HA.out; clear HA; simp only [impl_entriesOk.l0] at H
   by_cases c2 : x7_1 < (l0.length : Int)
   ·rw [if_pos c2] at H; have c2b0 := decide_eq_true c2; clear c2
    replace H := it H; obtain ⟨c3b0, H⟩ := H
    replace H := it H; obtain ⟨c4b0, H⟩ := H; replace H := bs H; obtain ⟨t162, A50, H⟩ := H; have A5 := Aside0.mk A50; clear A50
    by_cases c6 : t162 = true
    ·subst c6
     rw [if_pos rfl] at H
     by_cases c7 : x7_1 > 0
     ·rw [if_pos c7] at H; have c7b0 := decide_eq_true c7; clear c7; obtain ⟨ji8, hji8⟩ : ∃ j_ : Int, (wrap64 (x7_1 - 1)) = j_ := ⟨_, rfl⟩
      rw [hji8] at H
      have hji8w : (IntKind.i64.wrap (x7_1 - 1)) = ji8 := (i64_w _).trans hji8
      replace H := it H; obtain ⟨c9b0, H⟩ := H; replace H := it H; obtain ⟨c10b0, H⟩ := H
      by_cases c11 : ((Op.bytesLess (((rd_T66 l0 (ji8)).f0).toList) (((rd_T66 l0 x7_1).f0).toList)) = true)
      ·rw [if_pos c11] at H
       have c11b0 : (Op.bytesLess (((rd_T66 l0 (ji8)).f0).toList) (((rd_T66 l0 x7_1).f0).toList)) = true := c11
       clear c11
       have H' := am H
       clear H
       have p160 : 0 ≤ (x7_1 : Int) := of_decide_eq_true ad
       have q160 : x7_1 < (l0.length : Int) := of_decide_eq_true ad
       obtain ⟨ad160, e160, hx160_0, hx160_1⟩ := at_T66 HR0.out x7_1 p160 q160; cases e160; replace hx160_0 := kp HB.out hx160_0; replace hx160_1 := kp HB.out hx160_1; replace p160 := eq_true p160; replace q160 := eq_true q160
       try go_wp2_with ((with_reducible refine gate_dst (N := 4) rfl ?_); refine bx 4 (cs := #[.string (⟨#[]⟩ : ByteArray), .string (⟨#[]⟩ : ByteArray)]) (t := 66) ?_; intro gb161 hg w12 hbox hb; have BK161 := am (hbox); have GW161 := am ((b26_ : w.heap.size ≤ gb161)); have GE161 := am ((b26_ : w.heap.size ≤ gb161)); replace HB := am (below_step bel hb); clear hb hbox hg; have ⟨hcz13_0, hcz13_1, hfz13_0, hfz13_1⟩ := b2c BK161.out)
       have n0_ : Aside0 (((w12.setCell ⟨gb161, 0, none⟩ (.string ((rd_T66 l0 x7_1).f0))).setCell ⟨gb161, 1, none⟩ (.string ((rd_T66 l0 x7_1).f1))).heap[gb161]? = some (.cells #[.string ((rd_T66 l0 x7_1).f0), .string ((rd_T66 l0 x7_1).f1)] 66 (0, 0))) := ⟨b33_⟩
       have n1_ : Aside0 (Below w.heap.size w ((w12.setCell ⟨gb161, 0, none⟩ (.string ((rd_T66 l0 x7_1).f0))).setCell ⟨gb161, 1, none⟩ (.string ((rd_T66 l0 x7_1).f1)))) := ⟨bel1 GE161.out⟩
       clear BK161 HB; generalize ((w12.setCell ⟨gb161, 0, none⟩ (.string ((rd_T66 l0 x7_1).f0))).setCell ⟨gb161, 1, none⟩ (.string ((rd_T66 l0 x7_1).f1))) = w14 at n0_ n1_ ⊢; have BK161 := n0_; have HB := n1_; clear n0_ n1_; replace BK161 := am (blk_drew BK161.out); replace HB := am (below_drew1 HB.out)
       have p163 : 0 ≤ ((ji8) : Int) := of_decide_eq_true ad
       have q163 : (ji8) < (l0.length : Int) := of_decide_eq_true ad
       obtain ⟨ad163, e163, hx163_0, hx163_1⟩ := at_T66 HR0.out (ji8) p163 q163; have hw163_1 := hx163_1; have hw163_0 := hx163_0
       obtain rfl : ad160 = ad163 := (by injection e163)
       replace hx163_0 := kp HB.out hx163_0; replace hx163_1 := kp HB.out hx163_1; replace p163 := eq_true p163; replace q163 := eq_true q163
       refine st (n := 18) (S := fun w' => w'.cell? ⟨gb161, 0, none⟩ = some (.string ((rd_T66 l0 x7_1).f0)) ∧ w'.cell? ⟨gb161, 1, none⟩ = some (.string ((rd_T66 l0 x7_1).f1)) ∧ w'.cell? (ad160.add (((ji8)).toNat * 2)) = some (.string ((rd_T66 l0 (ji8)).f0)) ∧ w'.cell? ⟨(ad160.add (((ji8)).toNat * 2)).block, (ad160.add (((ji8)).toNat * 2)).off + 1, none⟩ = some (.string ((rd_T66 l0 (ji8)).f1))) (ds := []) ⟨bd BK161.out 0, bd BK161.out 1, (kp HB.out hw163_0), (kp HB.out hw163_1)⟩ (fun hHeld => ?_); refine with_tabW impl_entriesOk.tab4 impl_entriesOk.bits4 (fun HT_ HW_ => ?_)
       generalize w14.drew = w15 at BK161 HB hx163_0 hx163_1 hHeld ⊢; refine tk4 0 12 hHeld ?_; refine on1 1 13 (fun K hK => ?_)
       refine go1 Try.func99 #[.agg #[.string ((rd_T66 l0 x7_1).f0), .string ((rd_T66 l0 x7_1).f1)]] ?_
       with_reducible refine (impl_entryOk.calls k1 ((rd_T66 l0 x7_1).f0) ((rd_T66 l0 x7_1).f1) true _ A5.out).mono ?_
       rintro e w16 ⟨rfl, hb⟩; refine ⟨_, rfl, ?_⟩; replace BK161 := am (blk_below (bq BK161.out) hb); replace HB := am (below_step (bel1 GE161.out) hb); clear hb; refine hK.out _ _ ⟨bd BK161.out 0, bd BK161.out 1, (kp HB.out hw163_0), (kp HB.out hw163_1)⟩ (fun hHeld => ?_); clear hK K; refine nm 13 ?_; refine pu 2 14 ?_; refine pu 3 15 ?_; refine pu 4 16 ?_; refine pu 5 17 ?_; refine pu 6 18 ?_; refine pu 7 19 ?_; refine pu 8 20 ?_; refine pu 9 21 ?_; refine pu 10 22 ?_; refine pu 11 23 ?_; refine pu 13 25 ?_; refine tk4 12 24 hHeld ?_; refine tk4 14 26 hHeld ?_; refine pu 15 27 ?_; refine pu 16 28 ?_; refine pu 17 29 ?_
       refine done_ (done_of HT_.out (by kernel_rfl)) ?_
       try go_wp2
       go_roundg k1
       case measure => have := HK1.out; omega
       case rel => exact ⟨(wrap64 (x7_1 + 1)), sq, H', ⟨b129_⟩, ⟨bel1 GE161.out⟩⟩
      rw [if_neg c11] at H
      have c11b0 : (Op.bytesLess (((rd_T66 l0 (ji8)).f0).toList) (((rd_T66 l0 x7_1).f0).toList)) = false := by simpa using c11
      clear c11; obtain rfl := Option.some.inj H
      have p160 : 0 ≤ (x7_1 : Int) := of_decide_eq_true ad
      have q160 : x7_1 < (l0.length : Int) := of_decide_eq_true ad
      obtain ⟨ad160, e160, hx160_0, hx160_1⟩ := at_T66 HR0.out x7_1 p160 q160; cases e160; replace hx160_0 := kp HB.out hx160_0; replace hx160_1 := kp HB.out hx160_1; replace p160 := eq_true p160; replace q160 := eq_true q160
      try go_wp2_with ((with_reducible refine gate_dst (N := 4) rfl ?_); refine bx 4 (cs := #[.string (⟨#[]⟩ : ByteArray), .string (⟨#[]⟩ : ByteArray)]) (t := 66) ?_; intro gb161 hg w17 hbox hb; have BK161 := am (hbox); have GW161 := am ((b26_ : w.heap.size ≤ gb161)); have GE161 := am ((b26_ : w.heap.size ≤ gb161)); replace HB := am (below_step bel hb); clear hb hbox hg; have ⟨hcz18_0, hcz18_1, hfz18_0, hfz18_1⟩ := b2c BK161.out)
      have n0_ : Aside0 (((w17.setCell ⟨gb161, 0, none⟩ (.string ((rd_T66 l0 x7_1).f0))).setCell ⟨gb161, 1, none⟩ (.string ((rd_T66 l0 x7_1).f1))).heap[gb161]? = some (.cells #[.string ((rd_T66 l0 x7_1).f0), .string ((rd_T66 l0 x7_1).f1)] 66 (0, 0))) := ⟨b33_⟩
      have n1_ : Aside0 (Below w.heap.size w ((w17.setCell ⟨gb161, 0, none⟩ (.string ((rd_T66 l0 x7_1).f0))).setCell ⟨gb161, 1, none⟩ (.string ((rd_T66 l0 x7_1).f1)))) := ⟨bel1 GE161.out⟩
      clear BK161 HB; generalize ((w17.setCell ⟨gb161, 0, none⟩ (.string ((rd_T66 l0 x7_1).f0))).setCell ⟨gb161, 1, none⟩ (.string ((rd_T66 l0 x7_1).f1))) = w19 at n0_ n1_ ⊢; have BK161 := n0_; have HB := n1_; clear n0_ n1_; replace BK161 := am (blk_drew BK161.out); replace HB := am (below_drew1 HB.out)
      have p163 : 0 ≤ ((ji8) : Int) := of_decide_eq_true ad
      have q163 : (ji8) < (l0.length : Int) := of_decide_eq_true ad
      obtain ⟨ad163, e163, hx163_0, hx163_1⟩ := at_T66 HR0.out (ji8) p163 q163; have hw163_1 := hx163_1; have hw163_0 := hx163_0
      obtain rfl : ad160 = ad163 := (by injection e163)
      replace hx163_0 := kp HB.out hx163_0; replace hx163_1 := kp HB.out hx163_1; replace p163 := eq_true p163; replace q163 := eq_true q163
      refine st (n := 18) (S := fun w' => w'.cell? ⟨gb161, 0, none⟩ = some (.string ((rd_T66 l0 x7_1).f0)) ∧ w'.cell? ⟨gb161, 1, none⟩ = some (.string ((rd_T66 l0 x7_1).f1)) ∧ w'.cell? (ad160.add (((ji8)).toNat * 2)) = some (.string ((rd_T66 l0 (ji8)).f0)) ∧ w'.cell? ⟨(ad160.add (((ji8)).toNat * 2)).block, (ad160.add (((ji8)).toNat * 2)).off + 1, none⟩ = some (.string ((rd_T66 l0 (ji8)).f1))) (ds := []) ⟨bd BK161.out 0, bd BK161.out 1, (kp HB.out hw163_0), (kp HB.out hw163_1)⟩ (fun hHeld => ?_); refine with_tabW impl_entriesOk.tab4 impl_entriesOk.bits4 (fun HT_ HW_ => ?_)
      generalize w19.drew = w20 at BK161 HB hx163_0 hx163_1 hHeld ⊢; refine tk4 0 12 hHeld ?_; refine on1 1 13 (fun K hK => ?_)
      refine go1 Try.func99 #[.agg #[.string ((rd_T66 l0 x7_1).f0), .string ((rd_T66 l0 x7_1).f1)]] ?_
      with_reducible refine (impl_entryOk.calls k1 ((rd_T66 l0 x7_1).f0) ((rd_T66 l0 x7_1).f1) true _ A5.out).mono ?_
      rintro e w21 ⟨rfl, hb⟩; refine ⟨_, rfl, ?_⟩; replace BK161 := am (blk_below (bq BK161.out) hb); replace HB := am (below_step (bel1 GE161.out) hb); clear hb; refine hK.out _ _ ⟨bd BK161.out 0, bd BK161.out 1, (kp HB.out hw163_0), (kp HB.out hw163_1)⟩ (fun hHeld => ?_); clear hK K; refine nm 13 ?_; refine pu 2 14 ?_; refine pu 3 15 ?_; refine pu 4 16 ?_; refine pu 5 17 ?_; refine pu 6 18 ?_; refine pu 7 19 ?_; refine pu 8 20 ?_; refine pu 9 21 ?_; refine pu 10 22 ?_; refine pu 11 23 ?_; refine pu 13 25 ?_; refine tk4 12 24 hHeld ?_; refine tk4 14 26 hHeld ?_; refine pu 15 27 ?_; refine pu 16 28 ?_; refine pu 17 29 ?_
      refine done_ (done_of HT_.out (by kernel_rfl)) ?_
      try go_wp2
      go_ret
      exact ⟨b148_, bel1 GE161.out⟩
     rw [if_neg c7] at H; have c7b0 := decide_eq_false c7; clear c7
     have H' := am H
     clear H
     have p160 : 0 ≤ (x7_1 : Int) := of_decide_eq_true ad
     have q160 : x7_1 < (l0.length : Int) := of_decide_eq_true ad
     obtain ⟨ad160, e160, hx160_0, hx160_1⟩ := at_T66 HR0.out x7_1 p160 q160; cases e160; replace hx160_0 := kp HB.out hx160_0; replace hx160_1 := kp HB.out hx160_1; replace p160 := eq_true p160; replace q160 := eq_true q160
     try go_wp2_with ((with_reducible refine gate_dst (N := 4) rfl ?_); refine bx 4 (cs := #[.string (⟨#[]⟩ : ByteArray), .string (⟨#[]⟩ : ByteArray)]) (t := 66) ?_; intro gb161 hg w22 hbox hb; have BK161 := am (hbox); have GW161 := am ((b26_ : w.heap.size ≤ gb161)); have GE161 := am ((b26_ : w.heap.size ≤ gb161)); replace HB := am (below_step bel hb); clear hb hbox hg; have ⟨hcz23_0, hcz23_1, hfz23_0, hfz23_1⟩ := b2c BK161.out)
     have n0_ : Aside0 (((w22.setCell ⟨gb161, 0, none⟩ (.string ((rd_T66 l0 x7_1).f0))).setCell ⟨gb161, 1, none⟩ (.string ((rd_T66 l0 x7_1).f1))).heap[gb161]? = some (.cells #[.string ((rd_T66 l0 x7_1).f0), .string ((rd_T66 l0 x7_1).f1)] 66 (0, 0))) := ⟨b33_⟩
     have n1_ : Aside0 (Below w.heap.size w ((w22.setCell ⟨gb161, 0, none⟩ (.string ((rd_T66 l0 x7_1).f0))).setCell ⟨gb161, 1, none⟩ (.string ((rd_T66 l0 x7_1).f1)))) := ⟨bel1 GE161.out⟩
     clear BK161 HB; generalize ((w22.setCell ⟨gb161, 0, none⟩ (.string ((rd_T66 l0 x7_1).f0))).setCell ⟨gb161, 1, none⟩ (.string ((rd_T66 l0 x7_1).f1))) = w24 at n0_ n1_ ⊢; have BK161 := n0_; have HB := n1_; clear n0_ n1_; replace BK161 := am (blk_drew BK161.out); replace HB := am (below_drew1 HB.out)
     refine st (n := 18) (S := fun w' => w'.cell? ⟨gb161, 0, none⟩ = some (.string ((rd_T66 l0 x7_1).f0)) ∧ w'.cell? ⟨gb161, 1, none⟩ = some (.string ((rd_T66 l0 x7_1).f1))) (ds := []) ⟨bd BK161.out 0, bd BK161.out 1⟩ (fun hHeld => ?_); refine with_tabW impl_entriesOk.tab4 impl_entriesOk.bits4 (fun HT_ HW_ => ?_)
     generalize w24.drew = w25 at BK161 HB hHeld ⊢; refine tk2 0 12 hHeld ?_; refine on1 1 13 (fun K hK => ?_)
     refine go1 Try.func99 #[.agg #[.string ((rd_T66 l0 x7_1).f0), .string ((rd_T66 l0 x7_1).f1)]] ?_
     with_reducible refine (impl_entryOk.calls k1 ((rd_T66 l0 x7_1).f0) ((rd_T66 l0 x7_1).f1) true _ A5.out).mono ?_
     rintro e w26 ⟨rfl, hb⟩; refine ⟨_, rfl, ?_⟩; replace BK161 := am (blk_below (bq BK161.out) hb); replace HB := am (below_step (bel1 GE161.out) hb); clear hb; refine hK.out _ _ ⟨bd BK161.out 0, bd BK161.out 1⟩ (fun hHeld => ?_); clear hK K; refine nm 13 ?_; refine pu 2 14 ?_; refine pu 3 15 ?_; refine pu 4 16 ?_; refine pu 5 17 ?_; refine pu 6 18 ?_; refine puu 7 19 ?_; refine puu 8 20 ?_; refine puu 9 21 ?_; refine puu 10 22 ?_; refine puu 11 23 ?_; refine puu 12 24 ?_; refine puu 13 25 ?_; refine puu 14 26 ?_; refine puu 15 27 ?_; refine pu 16 28 ?_; refine pu 17 29 ?_
     refine done_ (done_of HT_.out (by kernel_rfl)) ?_
     try go_wp2
     go_roundg k1
     case measure => have := HK1.out; omega
     case rel => exact ⟨(wrap64 (x7_1 + 1)), sq, H', ⟨b129_⟩, ⟨bel1 GE161.out⟩⟩
    replace c6 := Bool.eq_false_iff.mpr c6; subst c6
    rw [if_neg Bool.false_ne_true] at H
    obtain rfl := Option.some.inj H
    have p160 : 0 ≤ (x7_1 : Int) := of_decide_eq_true ad
    have q160 : x7_1 < (l0.length : Int) := of_decide_eq_true ad
    obtain ⟨ad160, e160, hx160_0, hx160_1⟩ := at_T66 HR0.out x7_1 p160 q160; cases e160; replace hx160_0 := kp HB.out hx160_0; replace hx160_1 := kp HB.out hx160_1; replace p160 := eq_true p160; replace q160 := eq_true q160
    try go_wp2_with ((with_reducible refine gate_dst (N := 4) rfl ?_); refine bx 4 (cs := #[.string (⟨#[]⟩ : ByteArray), .string (⟨#[]⟩ : ByteArray)]) (t := 66) ?_; intro gb161 hg w27 hbox hb; have BK161 := am (hbox); have GW161 := am ((b26_ : w.heap.size ≤ gb161)); have GE161 := am ((b26_ : w.heap.size ≤ gb161)); replace HB := am (below_step bel hb); clear hb hbox hg; have ⟨hcz28_0, hcz28_1, hfz28_0, hfz28_1⟩ := b2c BK161.out)
    have n0_ : Aside0 (((w27.setCell ⟨gb161, 0, none⟩ (.string ((rd_T66 l0 x7_1).f0))).setCell ⟨gb161, 1, none⟩ (.string ((rd_T66 l0 x7_1).f1))).heap[gb161]? = some (.cells #[.string ((rd_T66 l0 x7_1).f0), .string ((rd_T66 l0 x7_1).f1)] 66 (0, 0))) := ⟨b33_⟩
    have n1_ : Aside0 (Below w.heap.size w ((w27.setCell ⟨gb161, 0, none⟩ (.string ((rd_T66 l0 x7_1).f0))).setCell ⟨gb161, 1, none⟩ (.string ((rd_T66 l0 x7_1).f1)))) := ⟨bel1 GE161.out⟩
    clear BK161 HB; generalize ((w27.setCell ⟨gb161, 0, none⟩ (.string ((rd_T66 l0 x7_1).f0))).setCell ⟨gb161, 1, none⟩ (.string ((rd_T66 l0 x7_1).f1))) = w29 at n0_ n1_ ⊢; have BK161 := n0_; have HB := n1_; clear n0_ n1_; replace BK161 := am (blk_drew BK161.out); replace HB := am (below_drew1 HB.out)
    refine st (n := 18) (S := fun w' => w'.cell? ⟨gb161, 0, none⟩ = some (.string ((rd_T66 l0 x7_1).f0)) ∧ w'.cell? ⟨gb161, 1, none⟩ = some (.string ((rd_T66 l0 x7_1).f1))) (ds := []) ⟨bd BK161.out 0, bd BK161.out 1⟩ (fun hHeld => ?_); refine with_tabW impl_entriesOk.tab4 impl_entriesOk.bits4 (fun HT_ HW_ => ?_)
    generalize w29.drew = w30 at BK161 HB hHeld ⊢; refine tk2 0 12 hHeld ?_; refine on1 1 13 (fun K hK => ?_)
    refine go1 Try.func99 #[.agg #[.string ((rd_T66 l0 x7_1).f0), .string ((rd_T66 l0 x7_1).f1)]] ?_
    with_reducible refine (impl_entryOk.calls k1 ((rd_T66 l0 x7_1).f0) ((rd_T66 l0 x7_1).f1) false _ A5.out).mono ?_
    rintro e w31 ⟨rfl, hb⟩; refine ⟨_, rfl, ?_⟩; replace BK161 := am (blk_below (bq BK161.out) hb); replace HB := am (below_step (bel1 GE161.out) hb); clear hb; refine hK.out _ _ ⟨bd BK161.out 0, bd BK161.out 1⟩ (fun hHeld => ?_); clear hK K; refine nm 13 ?_; refine pu 2 14 ?_; refine pu 3 15 ?_; refine puu 4 16 ?_; refine puu 5 17 ?_; refine puu 6 18 ?_; refine puu 7 19 ?_; refine puu 8 20 ?_; refine puu 9 21 ?_; refine puu 10 22 ?_; refine puu 11 23 ?_; refine puu 12 24 ?_; refine puu 13 25 ?_; refine puu 14 26 ?_; refine puu 15 27 ?_; refine puu 16 28 ?_; refine pu 17 29 ?_
    refine done_ (done_of HT_.out (by kernel_rfl)) ?_
    try go_wp2
    go_ret
    exact ⟨eq_, bel1 GE161.out⟩
   rw [if_neg c2] at H; have c2b0 := decide_eq_false c2; clear c2; obtain rfl := Option.some.inj H; go_wp2; go_ret
   exact ⟨eq_, bel⟩

/-! ### stringslite_HasPrefix: function 139 -/
def stringslite_HasPrefix.f (a0 : ByteArray) (a1 : ByteArray) : Option (Bool) := if (a0.size : Int) ≥ (a1.size : Int) then (if 0 ≤ (a1.size : Int) then (if (a1.size : Int) ≤ (a0.size : Int) then (some ((a0.extract 0 a1.size).toList == a1.toList)) else (none)) else (none)) else (some false)
theorem stringslite_HasPrefix.calls (a0 : ByteArray) (a1 : ByteArray) (r : Bool) (w : World) (h : stringslite_HasPrefix.f a0 a1 = some r) :
  Calls Try.prog 139 #[.string a0, .string a1] w fun e w' => e = .returned (.bool r) ∧ Drawn0 w w' := by
 have H := h; unfold stringslite_HasPrefix.f at H
 clear h
 by_cases c3 : (a0.size : Int) ≥ (a1.size : Int)
 ·rw [if_pos c3] at H; have c3b0 := decide_eq_true c3
  have c3b1 : decide (a1.size ≤ a0.size) = true := decide_eq_true (Int.ofNat_le.mp c3)
  clear c3; replace H := ip H; obtain ⟨c4, H⟩ := H; have c4b0 := eq_true c4
  have c4b1 : decide (0 ≤ (a1.size : Int)) = true := decide_eq_true c4
  clear c4; replace H := ip H; obtain ⟨c5, H⟩ := H; have c5b0 := eq_true c5
  have c5b9 : (a1.size ≤ a0.size) = True := eq_true (by omega)
  have c5b6 : decide (a1.size ≤ a0.size) = true := decide_eq_true (by omega)
  have c5b1 : decide ((a1.size : Int) ≤ (a0.size : Int)) = true := decide_eq_true c5
  clear c5; obtain rfl := Option.some.inj H; go_enter Try.func139, Try.ntmps139; go_wp2; go_ret
  exact ⟨sq, dr⟩
 rw [if_neg c3] at H; have c3b0 := decide_eq_false c3
 have c3b1 : decide (a1.size ≤ a0.size) = false := decide_eq_false (fun h => c3 (Int.ofNat_le.mpr h))
 clear c3; obtain rfl := Option.some.inj H; go_enter Try.func139, Try.ntmps139; go_wp2; go_ret
 exact ⟨sq, dr⟩

/-! ### strings_HasPrefix: function 121 -/
def strings_HasPrefix.f (a0 : ByteArray) (a1 : ByteArray) : Option (Bool) := (stringslite_HasPrefix.f a0 a1).bind fun t164 => (some t164)
theorem strings_HasPrefix.calls (a0 : ByteArray) (a1 : ByteArray) (r : Bool) (w : World) (h : strings_HasPrefix.f a0 a1 = some r) :
  Calls Try.prog 121 #[.string a0, .string a1] w fun e w' => e = .returned (.bool r) ∧ Drawn0 w w' := by
 have H := h; unfold strings_HasPrefix.f at H
 clear h; replace H := bs H; obtain ⟨t164, A30, H⟩ := H; have A3 := Aside0.mk A30; clear A30; obtain rfl := Option.some.inj H; go_enter Try.func121, Try.ntmps121
 go_wp2_with ((with_reducible refine gate_callee (f := 139) rfl ?_); refine gl 7 Try.func139 #[.string a0, .string a1] ?_; (with_reducible refine (stringslite_HasPrefix.calls a0 a1 t164 _ A3.out).mono ?_); rintro e w' ⟨rfl, ⟨nd, rfl⟩⟩; refine ⟨_, rfl, ?_⟩)
 go_ret
 exact ⟨sq, dr⟩
-- shrunk

attribute [local go_sem high] eqA73
/-! ### stringslite_HasSuffix: function 140 -/
def stringslite_HasSuffix.f (a0 : ByteArray) (a1 : ByteArray) : Option (Bool) := if (a0.size : Int) ≥ (a1.size : Int) then (if 0 ≤ (wrap64 ((a0.size : Int) - (a1.size : Int))) then (if (wrap64 ((a0.size : Int) - (a1.size : Int))) ≤ (a0.size : Int) then (some ((a0.extract ((wrap64 ((a0.size : Int) - (a1.size : Int))) : Int).toNat a0.size).toList == a1.toList)) else (none)) else (none)) else (some false)
theorem stringslite_HasSuffix.calls (a0 : ByteArray) (a1 : ByteArray) (r : Bool) (w : World) (h : stringslite_HasSuffix.f a0 a1 = some r) :
  Calls Try.prog 140 #[.string a0, .string a1] w fun e w' => e = .returned (.bool r) ∧ Drawn0 w w' := by
 have H := h; unfold stringslite_HasSuffix.f at H
 clear h
 by_cases c3 : (a0.size : Int) ≥ (a1.size : Int)
 ·rw [if_pos c3] at H; have c3b0 := decide_eq_true c3
  have c3b1 : decide (a1.size ≤ a0.size) = true := decide_eq_true (Int.ofNat_le.mp c3)
  clear c3; obtain ⟨ji4, hji4⟩ : ∃ j_ : Int, (wrap64 ((a0.size : Int) - (a1.size : Int))) = j_ := ⟨_, rfl⟩
  rw [hji4] at H
  have hji4w : (IntKind.i64.wrap ((a0.size : Int) - (a1.size : Int))) = ji4 := (i64_w _).trans hji4
  replace H := ip H; obtain ⟨c5, H⟩ := H; have c5b0 := eq_true c5
  have c5b1 : decide (0 ≤ (ji4)) = true := decide_eq_true c5
  clear c5; replace H := ip H; obtain ⟨c6, H⟩ := H; have c6b0 := eq_true c6
  have c6b1 : decide ((ji4) ≤ (a0.size : Int)) = true := decide_eq_true c6
  clear c6; obtain rfl := Option.some.inj H; go_enter Try.func140, Try.ntmps140; go_wp2; go_ret
  exact ⟨by rfl, dr⟩
 rw [if_neg c3] at H; have c3b0 := decide_eq_false c3
 have c3b1 : decide (a1.size ≤ a0.size) = false := decide_eq_false (fun h => c3 (Int.ofNat_le.mpr h))
 clear c3; obtain rfl := Option.some.inj H; go_enter Try.func140, Try.ntmps140; go_wp2; go_ret
 exact ⟨sq, dr⟩

/-! ### strings_HasSuffix: function 122 -/
def strings_HasSuffix.f (a0 : ByteArray) (a1 : ByteArray) : Option (Bool) := (stringslite_HasSuffix.f a0 a1).bind fun t165 => (some t165)
theorem strings_HasSuffix.calls (a0 : ByteArray) (a1 : ByteArray) (r : Bool) (w : World) (h : strings_HasSuffix.f a0 a1 = some r) :
  Calls Try.prog 122 #[.string a0, .string a1] w fun e w' => e = .returned (.bool r) ∧ Drawn0 w w' := by
 have H := h; unfold strings_HasSuffix.f at H
 clear h; replace H := bs H; obtain ⟨t165, A30, H⟩ := H; have A3 := Aside0.mk A30; clear A30; obtain rfl := Option.some.inj H; go_enter Try.func122, Try.ntmps122
 go_wp2_with ((with_reducible refine gate_callee (f := 140) rfl ?_); refine gl 7 Try.func140 #[.string a0, .string a1] ?_; (with_reducible refine (stringslite_HasSuffix.calls a0 a1 t165 _ A3.out).mono ?_); rintro e w' ⟨rfl, ⟨nd, rfl⟩⟩; refine ⟨_, rfl, ?_⟩)
 go_ret
 exact ⟨sq, dr⟩

/-! ### impl_AffixOk: function 100 -/
mutual
def impl_AffixOk.j0 : Nat → Bool → ByteArray → Bool → ByteArray → ByteArray → ByteArray → Option (Bool)
 | 0, _, _, _, _, _, _ => none
 | k + 1, x15, x167000, x167001, x167002, x167003, x167004 => if x15 = true then (some false) else ((some (([x167002, x167003, x167004] : List ByteArray) : List ByteArray)).bind fun y168 => (impl_AffixOk.l0 k y168 (y168.length : Int) 0 x167000 x167001 x167002 x167003 x167004))
def impl_AffixOk.l0 : Nat → List ByteArray → Int → Int → ByteArray → Bool → ByteArray → ByteArray → ByteArray → Option (Bool)
 | 0, _, _, _, _, _, _, _, _ => none
 | k + 1, x22, x23, x24, x167000, x167001, x167002, x167003, x167004 => if x24 < x23 then (if 0 ≤ x24 then (if x24 < (x22.length : Int) then (if ((rdOf ByteArray.empty x22 x24).size : Int) > 4 then (some false) else ((impl_lower.f k (rdOf ByteArray.empty x22 x24)).bind fun t172 => (if t172 = true then (impl_AffixOk.l0 k x22 x23 (wrap64 (x24 + 1)) x167000 x167001 x167002 x167003 x167004) else (some false)))) else (none)) else (none)) else (if x167001 = true then ((strings_HasPrefix.f x167004 x167002).bind fun t173 => (some t173)) else ((strings_HasSuffix.f x167004 x167002).bind fun t174 => (some t174)))
end
def impl_AffixOk.f (k : Nat) (a0_0 : ByteArray) (a0_1 : Bool) (a0_2 : ByteArray) (a0_3 : ByteArray) (a0_4 : ByteArray) : Option (Bool) := if (a0_0.size : Int) = 1 then (if 0 < (a0_0.size : Int) then ((impl_upper.f (bt a0_0 0)).bind fun t167 => (impl_AffixOk.j0 k (!t167) a0_0 a0_1 a0_2 a0_3 a0_4)) else (none)) else (impl_AffixOk.j0 k true a0_0 a0_1 a0_2 a0_3 a0_4)
theorem impl_AffixOk.calls (k : Nat) (a0_0 : ByteArray) (a0_1 : Bool) (a0_2 : ByteArray) (a0_3 : ByteArray) (a0_4 : ByteArray) (r : Bool) (w : World) (h : impl_AffixOk.f k a0_0 a0_1 a0_2 a0_3 a0_4 = some r) :
  Calls Try.prog 100 #[.agg #[.string a0_0, .bool a0_1, .string a0_2, .string a0_3, .string a0_4]] w fun e w' => e = .returned (.bool r) ∧ Below w.heap.size w w' := by
 have hu73 := Try.underlying73; have HB := am (Below.refl w.heap.size w)
 have H := h; unfold impl_AffixOk.f at H
 clear h; have HC2 := am H; clear H; go_enter Try.func100, Try.ntmps100
 go_upto_region 1 with ((with_reducible refine gate_dst (N := 1) rfl ?_); refine bx 1 (cs := #[.string a0_0, .bool a0_1, .string a0_2, .string a0_3, .string a0_4]) (t := 73) ?_; intro gb166 hg w3 hbox hb; have BK166 := am (hbox); have GW166 := am ((b26_ : w.heap.size ≤ gb166)); have GE166 := am ((b26_ : w.heap.size ≤ gb166)); replace HB := am (below_step bel hb); clear hb hbox hg)
 go_cut [15] (fun v15 wc => ∃ (kq : Nat) (x15_1 : Bool), v15 = .bool x15_1 ∧ Aside0 (impl_AffixOk.j0 kq x15_1 a0_0 a0_1 a0_2 a0_3 a0_4 = some r) ∧ Aside0 (kq ≤ k) ∧ Aside0 (wc.heap[gb166]? = some (.cells #[.string a0_0, .bool a0_1, .string a0_2, .string a0_3, .string a0_4] 73 (0, 0))) ∧ Aside0 (Below w.heap.size w wc))
 case first =>
  have H := HC2.out; clear HC2
  by_cases c4 : (a0_0.size : Int) = 1
  ·rw [if_pos c4] at H
   have c4b0 : ((a0_0.size : Int) == 1) = true := beq_iff_eq.mpr c4
   have c4b1 : ((a0_0.size : Int) != 1) = false := bne_eq_false_iff_eq.mpr c4
   clear c4
   (skip)
   replace H := ip H; obtain ⟨c5, H⟩ := H; have c5b0 := decide_eq_true c5
   have c5b1 : decide (0 < a0_0.size) = true := decide_eq_true (by omega)
   clear c5; replace H := bs H; obtain ⟨t167, A70, H⟩ := H; have A7 := Aside0.mk A70; clear A70
   have H' := am H
   clear H; have ⟨hcz8_0, hcz8_1, hcz8_2, hcz8_3, hcz8_4, hfz8_0, hfz8_1, hfz8_2, hfz8_3, hfz8_4⟩ := b5c BK166.out
   have p6 : 0 ≤ (0 : Int) := (by omega)
   have q6 : 0 < a0_0.size := (by have : (0 : Int) < (a0_0.size : Int) := of_decide_eq_true ad; omega)
   have hx6 : ∀ h : 0 < a0_0.size, ((a0_0[0]'h).toNat : Int) = bt a0_0 0 := bt_at a0_0 0
   clear p6
   have qi6 : (0 < (a0_0.size : Int)) = True := eq_true (of_decide_eq_true ad)
   replace q6 := eq_true q6
   go_wp2_with (go_at_call 120; (with_reducible refine (impl_upper.calls (bt a0_0 0) t167 _ A7.out).mono ?_); rintro e w' ⟨rfl, ⟨nd, rfl⟩⟩)
   go_meet
   case rel => exact ⟨_, (!t167), sq, H', ⟨b81_⟩, ⟨bq BK166.out⟩, ⟨bel1 GE166.out⟩⟩
  rw [if_neg c4] at H
  have c4b0 : ((a0_0.size : Int) == 1) = false := beq_eq_false_iff_ne.mpr c4
  have c4b1 : ((a0_0.size : Int) != 1) = true := bne_iff_ne.mpr c4
  (skip)
  have H' := am H
  clear H; have ⟨hcz9_0, hcz9_1, hcz9_2, hcz9_3, hcz9_4, hfz9_0, hfz9_1, hfz9_2, hfz9_3, hfz9_4⟩ := b5c BK166.out; go_wp2
  go_meet
  case rel => exact ⟨_, (true), sq, H', ⟨b81_⟩, ⟨bq BK166.out⟩, ⟨bel1 GE166.out⟩⟩
 case rest =>
  clear HC2; obtain ⟨kq, x15_1, rfl, HA, HJ1, BK166, HB⟩ := hcut
  cases kq with
  | zero => exact absurd HA.out (by simp [impl_AffixOk.j0])
  | succ kj1 =>
   have H := HA.out; clear HA; simp only [impl_AffixOk.j0] at H
   by_cases c10 : x15_1 = true
   ·subst c10
    rw [if_pos rfl] at H
    obtain rfl := Option.some.inj H; go_wp2; go_ret
    exact ⟨eq_, bel1 GE166.out⟩
   replace c10 := Bool.eq_false_iff.mpr c10; subst c10
   rw [if_neg Bool.false_ne_true] at H
   obtain ⟨y168, hy168⟩ : ∃ y_ : List ByteArray, y_ = (([a0_2, a0_3, a0_4] : List ByteArray)) := ⟨_, rfl⟩
   replace H := bm H; rw [← hy168] at H
   have Ny168 := am hy168; clear hy168
   have H' := am H
   clear H; have ⟨hcz11_0, hcz11_1, hcz11_2, hcz11_3, hcz11_4, hfz11_0, hfz11_1, hfz11_2, hfz11_3, hfz11_4⟩ := b5c BK166.out
   go_wp2_with ((with_reducible refine gate_dst (N := 22) rfl ?_); refine Kd.R_lit Kd.string _ 9 ?hg (N := 22) ?hd (xs := ([a0_2, a0_3, a0_4] : List ByteArray)) (inner := [.string a0_2, .string a0_3, .string a0_4]) (ok := fun _ => True) (okp := fun _ => True) ?hr ?hp (fun _ hk => hk) trivial (Below.refl _ _) (Nat.le_refl _) (by simp) ?_; (case hd => rfl); (case hg => rfl); (case hr => (go_simp; done)); (case hp => exact (Reps.one (show Kd.M Kd.string _ _ _ a0_2 [.string a0_2] from rfl) (Reps.one (show Kd.M Kd.string _ _ _ a0_3 [.string a0_3] from rfl) (Reps.one (show Kd.M Kd.string _ _ _ a0_4 [.string a0_4] from rfl) (Reps.none _ _))))); intro v169 w12 ho13 hb hg_ hnew_; clear hg_ hnew_; (rw [← Ny168.out] at ho13); have HO170 := am (Kd.R_lower ho13 (below_size (bel1 GE166.out))); replace BK166 := am (blk_below (bq BK166.out) hb); replace HB := am (below_step (bel1 GE166.out) hb); clear hb ho13; obtain ⟨Ao14, co14, eo14⟩ := Kd.R_slice HO170.out; subst eo14)
   go_loopg [24] kj1 (fun kq v24 w' => ∃ (x24_2 : Int), v24 = .int .i64 x24_2 ∧ Aside0 (impl_AffixOk.l0 kq y168 (y168.length : Int) x24_2 a0_0 a0_1 a0_2 a0_3 a0_4 = some r) ∧ Aside0 (kq ≤ kj1) ∧ Aside0 (Kd.R Kd.string 9 w' w.heap.size (fun _ => True) (.slice Ao14 y168.length co14) y168) ∧ Aside0 (w'.heap[gb166]? = some (.cells #[.string a0_0, .bool a0_1, .string a0_2, .string a0_3, .string a0_4] 73 (0, 0))) ∧ Aside0 (Below w.heap.size w w'))
   case atStart => exact ⟨(0), sq, H', ⟨Nat.le_refl _⟩, ⟨rq HO170.out⟩, ⟨bq BK166.out⟩, ⟨bel1 GE166.out⟩⟩
   case round =>
    clear H'; clear hcz11_0 hcz11_1 hcz11_2 hcz11_3 hcz11_4 hfz11_0 hfz11_1 hfz11_2 hfz11_3 hfz11_4; obtain ⟨x24_2, rfl, HA, HK2, HO_22, BK166, HB⟩ := hrel
    cases gk with
    | zero => exact absurd HA.out (by simp [impl_AffixOk.l0])
    | succ k2 =>
     have H := HA.out; clear HA; simp only [impl_AffixOk.l0] at H
     by_cases c15 : x24_2 < (y168.length : Int)
     ·rw [if_pos c15] at H; have c15b0 := decide_eq_true c15; clear c15
      replace H := it H; obtain ⟨c16b0, H⟩ := H; replace H := it H; obtain ⟨c17b0, H⟩ := H
      by_cases c18 : ((rdOf ByteArray.empty y168 x24_2).size : Int) > 4
      ·rw [if_pos c18] at H; have c18b0 := decide_eq_true c18
       have c18b1 : decide (4 < (rdOf ByteArray.empty y168 x24_2).size) = true := decide_eq_true (by omega)
       clear c18; obtain rfl := Option.some.inj H
       have p171 : 0 ≤ (x24_2 : Int) := of_decide_eq_true ad
       have q171 : x24_2 < (y168.length : Int) := of_decide_eq_true ad
       obtain ⟨ad171, e171, hx171_0⟩ := Kd.at_string (Kd.R_reads' HO_22.out).2.2 x24_2 p171 q171; cases e171
       replace p171 := eq_true p171; replace q171 := eq_true q171; go_wp2; go_ret
       exact ⟨eq_, bel1 GE166.out⟩
      rw [if_neg c18] at H; have c18b0 := decide_eq_false c18
      have c18b1 : decide (4 < (rdOf ByteArray.empty y168 x24_2).size) = false := decide_eq_false (by omega)
      clear c18; replace H := bs H; obtain ⟨t172, A190, H⟩ := H; have A19 := Aside0.mk A190; clear A190
      by_cases c20 : t172 = true
      ·subst c20
       rw [if_pos rfl] at H
       have H' := am H
       clear H
       have p171 : 0 ≤ (x24_2 : Int) := of_decide_eq_true ad
       have q171 : x24_2 < (y168.length : Int) := of_decide_eq_true ad
       obtain ⟨ad171, e171, hx171_0⟩ := Kd.at_string (Kd.R_reads' HO_22.out).2.2 x24_2 p171 q171; cases e171; replace p171 := eq_true p171; replace q171 := eq_true q171
       go_wp2_with (go_at_call 109; (with_reducible refine (impl_lower.calls k2 (rdOf ByteArray.empty y168 x24_2) true _ A19.out).mono ?_); rintro e w' ⟨rfl, ⟨nd, rfl⟩⟩)
       go_roundg k2
       case measure => have := HJ1.out; have := HK2.out; omega
       case rel => exact ⟨(wrap64 (x24_2 + 1)), sq, H', ⟨by have := HJ1.out; have := HK2.out; omega⟩, ⟨rq HO_22.out⟩, ⟨bq BK166.out⟩, ⟨bel1 GE166.out⟩⟩
      replace c20 := Bool.eq_false_iff.mpr c20; subst c20
      rw [if_neg Bool.false_ne_true] at H
      obtain rfl := Option.some.inj H
      have p171 : 0 ≤ (x24_2 : Int) := of_decide_eq_true ad
      have q171 : x24_2 < (y168.length : Int) := of_decide_eq_true ad
      obtain ⟨ad171, e171, hx171_0⟩ := Kd.at_string (Kd.R_reads' HO_22.out).2.2 x24_2 p171 q171; cases e171; replace p171 := eq_true p171; replace q171 := eq_true q171
      go_wp2_with (go_at_call 109; (with_reducible refine (impl_lower.calls k2 (rdOf ByteArray.empty y168 x24_2) false _ A19.out).mono ?_); rintro e w' ⟨rfl, ⟨nd, rfl⟩⟩)
      go_ret
      exact ⟨eq_, bel1 GE166.out⟩
     rw [if_neg c15] at H; have c15b0 := decide_eq_false c15; clear c15
     by_cases c21 : a0_1 = true
     ·subst c21
      rw [if_pos rfl] at H
      replace H := bs H; obtain ⟨t173, A220, H⟩ := H; have A22 := Aside0.mk A220; clear A220; obtain rfl := Option.some.inj H; have ⟨hcz23_0, hcz23_1, hcz23_2, hcz23_3, hcz23_4, hfz23_0, hfz23_1, hfz23_2, hfz23_3, hfz23_4⟩ := b5c BK166.out
      go_wp2_with ((with_reducible refine gate_callee (f := 121) rfl ?_); refine gl 43 Try.func121 #[.string a0_4, .string a0_2] ?_; (with_reducible refine (strings_HasPrefix.calls a0_4 a0_2 t173 _ A22.out).mono ?_); rintro e w' ⟨rfl, ⟨nd, rfl⟩⟩; refine ⟨_, rfl, ?_⟩)
      go_ret
      exact ⟨eq_, bel1 GE166.out⟩
     replace c21 := Bool.eq_false_iff.mpr c21; subst c21
     rw [if_neg Bool.false_ne_true] at H
     replace H := bs H; obtain ⟨t174, A240, H⟩ := H; have A24 := Aside0.mk A240; clear A240; obtain rfl := Option.some.inj H; have ⟨hcz25_0, hcz25_1, hcz25_2, hcz25_3, hcz25_4, hfz25_0, hfz25_1, hfz25_2, hfz25_3, hfz25_4⟩ := b5c BK166.out
     go_wp2_with ((with_reducible refine gate_callee (f := 122) rfl ?_); refine gl 48 Try.func122 #[.string a0_4, .string a0_2] ?_; (with_reducible refine (strings_HasSuffix.calls a0_4 a0_2 t174 _ A24.out).mono ?_); rintro e w' ⟨rfl, ⟨nd, rfl⟩⟩; refine ⟨_, rfl, ?_⟩)
     go_ret
     exact ⟨eq_, bel1 GE166.out⟩

/-! ### impl_Affix_123: function 123 -/
def impl_Affix_123.l0 : Nat → List (S73) → Int → Int → ByteArray → Bool → ByteArray → ByteArray → ByteArray → Option (Int)
 | 0, _, _, _, _, _, _, _, _ => none
 | k + 1, x0, x7, x8, x176000, x176001, x176002, x176003, x176004 => if x8 < x7 then (if 0 ≤ x8 then (if x8 < (x0.length : Int) then (if (x176000.toList == (((rd_T73 x0 x8).f0).toList) && (x176001 == ((rd_T73 x0 x8).f1) && (x176002.toList == (((rd_T73 x0 x8).f2).toList) && (x176003.toList == (((rd_T73 x0 x8).f3).toList) && (x176004.toList == (((rd_T73 x0 x8).f4).toList)))))) = true then (some x8) else (impl_Affix_123.l0 k x0 x7 (wrap64 (x8 + 1)) x176000 x176001 x176002 x176003 x176004)) else (none)) else (none)) else (some (-1))
def impl_Affix_123.f (k : Nat) (l0 : List (S73)) (a1_0 : ByteArray) (a1_1 : Bool) (a1_2 : ByteArray) (a1_3 : ByteArray) (a1_4 : ByteArray) : Option (Int) := impl_Affix_123.l0 k l0 (l0.length : Int) 0 a1_0 a1_1 a1_2 a1_3 a1_4
theorem impl_Affix_123.calls (k : Nat) (A0 : Option Addr) (c0 : Nat) (l0 : List (S73)) (a1_0 : ByteArray) (a1_1 : Bool) (a1_2 : ByteArray) (a1_3 : ByteArray) (a1_4 : ByteArray) (r : Int) (w : World) (hr0 : Kd.C k73 w A0 l0.length l0) (hc0 : l0.length ≤ c0) (h : impl_Affix_123.f k l0 a1_0 a1_1 a1_2 a1_3 a1_4 = some r) :
  Calls Try.prog 123 #[.slice A0 l0.length c0, .agg #[.string a1_0, .bool a1_1, .string a1_2, .string a1_3, .string a1_4]] w fun e w' => e = .returned (.int .i64 r) ∧ Below w.heap.size w w' := by
 have hu73 := Try.underlying73; have HR0 := am hr0; have HC0 := am hc0; clear hr0 hc0; have HB := am (Below.refl w.heap.size w)
 have H := h; unfold impl_Affix_123.f at H
 clear h
 have H' := am H
 clear H; go_enter Try.func123, Try.ntmps123
 go_wp2_with ((with_reducible refine gate_dst (N := 3) rfl ?_); refine bx 3 (cs := #[.string a1_0, .bool a1_1, .string a1_2, .string a1_3, .string a1_4]) (t := 73) ?_; intro gb175 hg w3 hbox hb; have BK175 := am (hbox); have GW175 := am ((b26_ : w.heap.size ≤ gb175)); have GE175 := am ((b26_ : w.heap.size ≤ gb175)); replace HB := am (below_step bel hb); clear hb hbox hg)
 go_loopg [8] k (fun kq v8 w' => ∃ (x8_1 : Int), v8 = .int .i64 x8_1 ∧ Aside0 (impl_Affix_123.l0 kq l0 (l0.length : Int) x8_1 a1_0 a1_1 a1_2 a1_3 a1_4 = some r) ∧ Aside0 (kq ≤ k) ∧ Aside0 (w'.heap[gb175]? = some (.cells #[.string a1_0, .bool a1_1, .string a1_2, .string a1_3, .string a1_4] 73 (0, 0))) ∧ Aside0 (Below w.heap.size w w'))
 case atStart => exact ⟨(0), sq, H', ⟨Nat.le_refl _⟩, ⟨bq BK175.out⟩, ⟨bel1 GE175.out⟩⟩
 case round =>
  clear H'; obtain ⟨x8_1, rfl, HA, HK1, BK175, HB⟩ := hrel
  cases gk with
  | zero => exact absurd HA.out (by simp [impl_Affix_123.l0])
  | succ k1 =>
   have H := HA.out; clear HA; simp only [impl_Affix_123.l0] at H
   by_cases c4 : x8_1 < (l0.length : Int)
   ·rw [if_pos c4] at H; have c4b0 := decide_eq_true c4; clear c4
    replace H := it H; obtain ⟨c5b0, H⟩ := H; replace H := it H; obtain ⟨c6b0, H⟩ := H
    by_cases c7 : (a1_0.toList == (((rd_T73 l0 x8_1).f0).toList) && (a1_1 == ((rd_T73 l0 x8_1).f1) && (a1_2.toList == (((rd_T73 l0 x8_1).f2).toList) && (a1_3.toList == (((rd_T73 l0 x8_1).f3).toList) && (a1_4.toList == (((rd_T73 l0 x8_1).f4).toList)))))) = true
    ·rw [if_pos c7] at H
     have c7b0 : (a1_0.toList == (((rd_T73 l0 x8_1).f0).toList) && (a1_1 == ((rd_T73 l0 x8_1).f1) && (a1_2.toList == (((rd_T73 l0 x8_1).f2).toList) && (a1_3.toList == (((rd_T73 l0 x8_1).f3).toList) && (a1_4.toList == (((rd_T73 l0 x8_1).f4).toList)))))) = true := c7
     (have c7b1 : decide (a1_0.toList = (((rd_T73 l0 x8_1).f0).toList) && (a1_1 == ((rd_T73 l0 x8_1).f1) && (a1_2.toList == (((rd_T73 l0 x8_1).f2).toList) && (a1_3.toList == (((rd_T73 l0 x8_1).f3).toList) && (a1_4.toList == (((rd_T73 l0 x8_1).f4).toList)))))) = true := by simpa using c7)
     (have c7b2 : (a1_0.toList == (((rd_T73 l0 x8_1).f0).toList) && (a1_1 == ((rd_T73 l0 x8_1).f1) && (a1_2.toList == (((rd_T73 l0 x8_1).f2).toList) && (a1_3.toList == (((rd_T73 l0 x8_1).f3).toList) && (a1_4.toList == (((rd_T73 l0 x8_1).f4).toList)))))) = true := by simpa using c7)
     clear c7; obtain rfl := Option.some.inj H; have ⟨hcz8_0, hcz8_1, hcz8_2, hcz8_3, hcz8_4, hfz8_0, hfz8_1, hfz8_2, hfz8_3, hfz8_4⟩ := b5c BK175.out
     have p176 : 0 ≤ (x8_1 : Int) := of_decide_eq_true ad
     have q176 : x8_1 < (l0.length : Int) := of_decide_eq_true ad
     obtain ⟨ad176, e176, hx176_0, hx176_1, hx176_2, hx176_3, hx176_4⟩ := at_T73 HR0.out x8_1 p176 q176; cases e176
     replace hx176_0 := kp HB.out hx176_0; replace hx176_1 := kp HB.out hx176_1; replace hx176_2 := kp HB.out hx176_2; replace hx176_3 := kp HB.out hx176_3; replace hx176_4 := kp HB.out hx176_4; replace p176 := eq_true p176; replace q176 := eq_true q176; go_wp2
     repeat (go_quiet (fail); try go_wp2)
     go_ret
     exact ⟨eq_, bel1 GE175.out⟩
    rw [if_neg c7] at H
    have c7b0 : (a1_0.toList == (((rd_T73 l0 x8_1).f0).toList) && (a1_1 == ((rd_T73 l0 x8_1).f1) && (a1_2.toList == (((rd_T73 l0 x8_1).f2).toList) && (a1_3.toList == (((rd_T73 l0 x8_1).f3).toList) && (a1_4.toList == (((rd_T73 l0 x8_1).f4).toList)))))) = false := by simpa using c7
    (have c7b1 : decide (a1_0.toList = (((rd_T73 l0 x8_1).f0).toList) && (a1_1 == ((rd_T73 l0 x8_1).f1) && (a1_2.toList == (((rd_T73 l0 x8_1).f2).toList) && (a1_3.toList == (((rd_T73 l0 x8_1).f3).toList) && (a1_4.toList == (((rd_T73 l0 x8_1).f4).toList)))))) = false := by simpa using c7)
    (have c7b2 : (a1_0.toList == (((rd_T73 l0 x8_1).f0).toList) && (a1_1 == ((rd_T73 l0 x8_1).f1) && (a1_2.toList == (((rd_T73 l0 x8_1).f2).toList) && (a1_3.toList == (((rd_T73 l0 x8_1).f3).toList) && (a1_4.toList == (((rd_T73 l0 x8_1).f4).toList)))))) = false := by simpa using c7)
    (have c7b3 : ¬ (a1_0.toList = (((rd_T73 l0 x8_1).f0).toList) && (a1_1 == ((rd_T73 l0 x8_1).f1) && (a1_2.toList == (((rd_T73 l0 x8_1).f2).toList) && (a1_3.toList == (((rd_T73 l0 x8_1).f3).toList) && (a1_4.toList == (((rd_T73 l0 x8_1).f4).toList)))))) := by simpa using c7)
    clear c7
    have H' := am H
    clear H; have ⟨hcz9_0, hcz9_1, hcz9_2, hcz9_3, hcz9_4, hfz9_0, hfz9_1, hfz9_2, hfz9_3, hfz9_4⟩ := b5c BK175.out
    have p176 : 0 ≤ (x8_1 : Int) := of_decide_eq_true ad
    have q176 : x8_1 < (l0.length : Int) := of_decide_eq_true ad
    obtain ⟨ad176, e176, hx176_0, hx176_1, hx176_2, hx176_3, hx176_4⟩ := at_T73 HR0.out x8_1 p176 q176; cases e176
    replace hx176_0 := kp HB.out hx176_0; replace hx176_1 := kp HB.out hx176_1; replace hx176_2 := kp HB.out hx176_2; replace hx176_3 := kp HB.out hx176_3; replace hx176_4 := kp HB.out hx176_4; replace p176 := eq_true p176; replace q176 := eq_true q176; go_wp2
    repeat (go_quiet (fail); try go_wp2)
    go_roundg k1
    case measure => have := HK1.out; omega
    case rel => exact ⟨(wrap64 (x8_1 + 1)), sq, H', ⟨b129_⟩, ⟨bq BK175.out⟩, ⟨bel1 GE175.out⟩⟩
   rw [if_neg c4] at H; have c4b0 := decide_eq_false c4; clear c4; obtain rfl := Option.some.inj H; go_wp2
   go_ret
   exact ⟨eq_, bel1 GE175.out⟩

/-! ### impl_Affix_101: function 101 -/
def impl_Affix_101.f (k : Nat) (l0 : List (S73)) (a1_0 : ByteArray) (a1_1 : Bool) (a1_2 : ByteArray) (a1_3 : ByteArray) (a1_4 : ByteArray) : Option (Bool) := (impl_Affix_123.f k l0 a1_0 a1_1 a1_2 a1_3 a1_4).bind fun t178 => (some (decide (t178 ≥ 0)))
theorem impl_Affix_101.calls (k : Nat) (A0 : Option Addr) (c0 : Nat) (l0 : List (S73)) (a1_0 : ByteArray) (a1_1 : Bool) (a1_2 : ByteArray) (a1_3 : ByteArray) (a1_4 : ByteArray) (r : Bool) (w : World) (hr0 : Kd.C k73 w A0 l0.length l0) (hc0 : l0.length ≤ c0) (h : impl_Affix_101.f k l0 a1_0 a1_1 a1_2 a1_3 a1_4 = some r) :
  Calls Try.prog 101 #[.slice A0 l0.length c0, .agg #[.string a1_0, .bool a1_1, .string a1_2, .string a1_3, .string a1_4]] w fun e w' => e = .returned (.bool r) ∧ Below w.heap.size w w' := by
 have hu73 := Try.underlying73; have HR0 := am hr0; have HC0 := am hc0; clear hr0 hc0; have HB := am (Below.refl w.heap.size w)
 have H := h; unfold impl_Affix_101.f at H
 clear h; replace H := bs H; obtain ⟨t178, A30, H⟩ := H; have A3 := Aside0.mk A30; clear A30; obtain rfl := Option.some.inj H; go_enter Try.func101, Try.ntmps101
 go_wp2_with (first | ((with_reducible refine gate_dst (N := 3) rfl ?_); refine bx 3 (cs := #[.string a1_0, .bool a1_1, .string a1_2, .string a1_3, .string a1_4]) (t := 73) ?_; intro gb177 hg w4 hbox hb; have BK177 := am (hbox); have GW177 := am ((b26_ : w.heap.size ≤ gb177)); have GE177 := am ((b26_ : w.heap.size ≤ gb177)); replace HB := am (below_step bel hb); clear hb hbox hg; have ⟨hcz5_0, hcz5_1, hcz5_2, hcz5_3, hcz5_4, hfz5_0, hfz5_1, hfz5_2, hfz5_3, hfz5_4⟩ := b5c BK177.out) | ((with_reducible refine gate_callee (f := 123) rfl ?_); refine gl 7 Try.func123 #[.slice A0 l0.length c0, .agg #[.string a1_0, .bool a1_1, .string a1_2, .string a1_3, .string a1_4]] ?_; (with_reducible refine (impl_Affix_123.calls k _ _ l0 a1_0 a1_1 a1_2 a1_3 a1_4 t178 _ ?side1 ?side2 A3.out).mono ?_); (case side1 => exact cq (Kd.C_below HR0.out HB.out)); (case side2 => exact HC0.out); rintro e w6 ⟨rfl, hb⟩; refine ⟨_, rfl, ?_⟩; replace BK177 := am (blk_below (bq BK177.out) hb); replace HB := am (below_step (bel1 GE177.out) hb); clear hb))
 go_ret
 exact ⟨eq_, bel1 GE177.out⟩
end Go.Proofs.Ytdfnijaacnlfaaa.QFnDeltaOf

import Derived.Test.YtiiefpckcgekgaaDoorQFnBookTextx0
import Derived.Test.YtiiefpckcgekgaaDoorVMSh2
namespace Go.Proofs.YtiiefpckcgekgaaDoor.QFnBookText
open Go.RowKit Go.Proofs.YtiiefpckcgekgaaDoorW.PrintWords Go.Proofs.YtiiefpckcgekgaaDoorW.PrintLast Go.Proofs.YtiiefpckcgekgaaDoorW.PrintMore Go.Proofs.YtiiefpckcgekgaaDoor.Sh
attribute [local go_sem] max2_int min2_int max_two min_two max_three min_three max_four min_four
set_option linter.unusedVariables false
set_option linter.unusedSimpArgs false
set_option maxHeartbeats 8000000
set_option maxRecDepth 100000
-- shrunk

/-! ### spec_l1Cut: function 16 -/
def spec_l1Cut.l0 : Nat → ByteArray → Int → List ByteArray → Int → Int → Option (List ByteArray)
 | 0, _, _, _, _, _ => none
 | k + 1, x0, x1, x5, x6, x7 => if x7 < (x0.size : Int) then (if 0 ≤ x7 then (if (bt x0 x7) = x1 then (if 0 ≤ x6 then (if x6 ≤ x7 then (if x7 ≤ (x0.size : Int) then (if x5.length < 8796093022208 then (spec_l1Cut.l0 k x0 x1 (x5 ++ [x0.extract (x6 : Int).toNat (x7 : Int).toNat]) (wrap64 (x7 + 1)) (wrap64 (x7 + 1))) else (none)) else (none)) else (none)) else (none)) else (spec_l1Cut.l0 k x0 x1 x5 x6 (wrap64 (x7 + 1)))) else (none)) else (if 0 ≤ x6 then (if x6 ≤ (x0.size : Int) then (if x5.length < 8796093022208 then (some (x5 ++ [x0.extract (x6 : Int).toNat x0.size])) else (none)) else (none)) else (none))
def spec_l1Cut.f (k : Nat) (a0 : ByteArray) (a1 : Int) : Option (List ByteArray) := spec_l1Cut.l0 k a0 a1 (([] : List ByteArray)) 0 0
theorem spec_l1Cut.calls (k : Nat) (a0 : ByteArray) (a1 : Int) (r : List ByteArray) (w : World) (h : spec_l1Cut.f k a0 a1 = some r) :
  Calls Tryd.prog 16 #[.string a0, .int .u8 a1] w fun e w' => ∃ v0_ : Value, e = .returned (v0_) ∧ Kd.R Kd.string 9 w' w.heap.size (fun _ => True) v0_ r ∧ Below w.heap.size w w' := by
 have HB := am (Below.refl w.heap.size w)
 have H : (spec_l1Cut.l0 k a0 a1 (([] : List ByteArray)) 0 0) = some r := h
 clear h; obtain ⟨y122, hy122⟩ : ∃ y_ : List ByteArray, y_ = (([] : List ByteArray)) := ⟨_, rfl⟩
 replace H : (spec_l1Cut.l0 k a0 a1 y122 0 0) = some r := by first | (rw [hy122]; with_reducible exact H) | (have H2_ := bm H; rw [hy122]; with_reducible exact H2_) | (with_reducible exact bm H) | with_reducible exact H | (rw [hy122]; exact H) | exact H
 have Ny122 := am hy122; clear hy122
 have H' := am H
 clear H; go_enter Tryd.func16, Tryd.ntmps16
 go_wp2_with (first | ((with_reducible refine gate_dst (N := 8) rfl ?_); refine Kd.R_lit Kd.string _ 9 ?hg (N := 8) ?hd (xs := ([] : List ByteArray)) (inner := []) (ok := fun _ => True) (okp := fun _ => True) ?hr ?hp (fun _ hk => hk) trivial (Below.refl _ _) (Nat.le_refl _) (by simp) ?_; (case hd => rfl); (case hg => rfl); (case hr => first | (go_simp; done) | (go_simp; rfl)); (case hp => exact (Reps.none _ _)); intro v123 w3 ho4 hb hg_ hnew_; clear hg_ hnew_; (first | rw [← Ny122.out] at ho4 | (simp only [Int.reduceToNat] at ho4; rw [← Ny122.out] at ho4) | (simp only [Int.toNat_natCast] at ho4; rw [← Ny122.out] at ho4)); have HO124 := am (Kd.R_lower ho4 (below_size bel)); replace HB := am (below_step bel hb); clear hb ho4))
 go_loopg [5, 6, 7] k (fun kq v5 v6 v7 w' => ∃ (x5_1 : List ByteArray) (x6_1 : Int) (x7_1 : Int), v6 = .int .i64 x6_1 ∧ v7 = .int .i64 x7_1 ∧ Aside0 (spec_l1Cut.l0 kq a0 a1 x5_1 x6_1 x7_1 = some r) ∧ Aside0 (kq ≤ k) ∧ Aside0 (Kd.R Kd.string 9 w' w.heap.size (fun _ => True) v5 x5_1) ∧ Aside0 (Below w.heap.size w w'))
 case atStart => exact ⟨(y122), (0), (0), sq, sq, H', ⟨Nat.le_refl _⟩, ⟨rq HO124.out⟩, ⟨bel⟩⟩
 case round =>
  clear H'; (try clear c1); (try clear p2); obtain ⟨x5_1, x6_1, x7_1, rfl, rfl, HA, HK1, HO_5, HB⟩ := hrel
  cases gk with
  | zero => exact absurd HA.out (by simp [spec_l1Cut.l0])
  | succ k1 =>
   have H := HA.out; clear HA
   simp only [spec_l1Cut.l0] at H
   by_cases c5 : x7_1 < (a0.size : Int)
   ·rw [if_pos c5] at H; have c5b0 := decide_eq_true c5; clear c5
    replace H := it H; obtain ⟨c6b0, H⟩ := H
    by_cases c8 : (bt a0 x7_1) = a1
    ·rw [if_pos c8] at H
     have c8b0 : ((bt a0 x7_1) == a1) = true := beq_iff_eq.mpr c8
     have c8b1 : ((bt a0 x7_1) != a1) = false := bne_eq_false_iff_eq.mpr c8
     clear c8
     replace H := ip H; obtain ⟨c9, H⟩ := H; have c9b0 := eq_true c9
     have c9b1 : decide (0 ≤ x6_1) = true := decide_eq_true c9
     clear c9
     replace H := ip H; obtain ⟨c10, H⟩ := H; have c10b0 := eq_true c10
     have c10b1 : decide (x6_1 ≤ x7_1) = true := decide_eq_true c10
     clear c10
     replace H := ip H; obtain ⟨c11, H⟩ := H; have c11b0 := eq_true c11
     have c11b1 : decide (x7_1 ≤ (a0.size : Int)) = true := decide_eq_true c11
     clear c11
     replace H := ip H; obtain ⟨c12, H⟩ := H; have LMc12 := Aside0.mk c12; clear c12; obtain ⟨y125, hy125⟩ : ∃ y_ : List ByteArray, y_ = (x5_1 ++ [a0.extract (x6_1 : Int).toNat (x7_1 : Int).toNat]) := ⟨_, rfl⟩
     replace H : (spec_l1Cut.l0 k1 a0 a1 y125 (wrap64 (x7_1 + 1)) (wrap64 (x7_1 + 1))) = some r := by first | (rw [hy125]; with_reducible exact H) | (have H2_ := bm H; rw [hy125]; with_reducible exact H2_) | (with_reducible exact bm H) | with_reducible exact H | (rw [hy125]; exact H) | exact H
     have Ny125 := am hy125; clear hy125
     have H' := am H
     clear H
     have p7 : 0 ≤ (x7_1 : Int) := of_decide_eq_true ad
     have q7 : x7_1 < (a0.size : Int) := of_decide_eq_true ad
     have hx7 := bt_at a0 x7_1; replace p7 := eq_true p7; replace q7 := eq_true q7
     go_wp2_with (first | ((with_reducible refine gate_builtin (b := .append) (xs := #[.tmp 20, .tmp 25]) rfl ?_); at_builtin; refine Kd.R_append Kd.string (w0 := w) w.heap.size rfl (.tmp 20) (.tmp 25) 37 9 (.string ⟨#[]⟩) 16 rfl Tryd.underlying37 info9 rfl (by decide) (by omega) u5 x5_1 (a0.extract (x6_1 : Int).toNat (x7_1 : Int).toNat) [.string (a0.extract (x6_1 : Int).toNat (x7_1 : Int).toNat)] (fun _ => True) (fun _ => False) rfl rfl ?aP (fun _ hk => hk.elim) ?aF ?aO ?aB ?aS ?aL ?_; (case aP => exact rfl); (case aB => exact bel); (case aF => exact (fun _ _ => trivial)); (case aO => exact (rq HO_5.out)); (case aS => exact (below_size bel)); (case aL => have := LMc12.out; omega); intro v126 w13 ho hb hg hat; rw [← Ny125.out] at ho; replace HB := am (hb); have HO127 := am (ho); clear HO_5; clear ho hb hg hat))
     go_roundg k1
     case measure => have := HK1.out; omega
     case rel => exact ⟨(y125), (wrap64 (x7_1 + 1)), (wrap64 (x7_1 + 1)), sq, sq, H', ⟨b74_⟩, ⟨rq HO127.out⟩, ⟨bel⟩⟩
    rw [if_neg c8] at H
    have c8b0 : ((bt a0 x7_1) == a1) = false := beq_eq_false_iff_ne.mpr c8
    have c8b1 : ((bt a0 x7_1) != a1) = true := bne_iff_ne.mpr c8
    have H' := am H
    clear H
    have p7 : 0 ≤ (x7_1 : Int) := of_decide_eq_true ad
    have q7 : x7_1 < (a0.size : Int) := of_decide_eq_true ad
    have hx7 := bt_at a0 x7_1; replace p7 := eq_true p7; replace q7 := eq_true q7; go_wp2
    go_roundg k1
    case measure => have := HK1.out; omega
    case rel => exact ⟨(x5_1), (x6_1), (wrap64 (x7_1 + 1)), sq, sq, H', ⟨b74_⟩, ⟨rq HO_5.out⟩, ⟨bel⟩⟩
   rw [if_neg c5] at H; have c5b0 := decide_eq_false c5; clear c5
   replace H := ip H; obtain ⟨c14, H⟩ := H; have c14b0 := eq_true c14
   have c14b1 : decide (0 ≤ x6_1) = true := decide_eq_true c14
   clear c14
   replace H := ip H; obtain ⟨c15, H⟩ := H; have c15b0 := eq_true c15
   have c15b1 : decide (x6_1 ≤ (a0.size : Int)) = true := decide_eq_true c15
   clear c15
   replace H := ip H; obtain ⟨c16, H⟩ := H; have LMc16 := Aside0.mk c16; clear c16; obtain ⟨y128, hy128⟩ : ∃ y_ : List ByteArray, y_ = (x5_1 ++ [a0.extract (x6_1 : Int).toNat a0.size]) := ⟨_, rfl⟩
   replace H : (some y128) = some r := by first | (rw [hy128]; with_reducible exact H) | (have H2_ := bm H; rw [hy128]; with_reducible exact H2_) | (with_reducible exact bm H) | with_reducible exact H | (rw [hy128]; exact H) | exact H
   have Ny128 := am hy128; clear hy128; obtain rfl := Option.some.inj H
   go_wp2_with (first | ((with_reducible refine gate_builtin (b := .append) (xs := #[.tmp 29, .tmp 33]) rfl ?_); at_builtin; refine Kd.R_append Kd.string (w0 := w) w.heap.size rfl (.tmp 29) (.tmp 33) 37 9 (.string ⟨#[]⟩) 16 rfl Tryd.underlying37 info9 rfl (by decide) (by omega) u5 x5_1 (a0.extract (x6_1 : Int).toNat a0.size) [.string (a0.extract (x6_1 : Int).toNat a0.size)] (fun _ => True) (fun _ => False) rfl rfl ?aP (fun _ hk => hk.elim) ?aF ?aO ?aB ?aS ?aL ?_; (case aP => exact rfl); (case aB => exact bel); (case aF => exact (fun _ _ => trivial)); (case aO => exact (rq HO_5.out)); (case aS => exact (below_size bel)); (case aL => have := LMc16.out; omega); intro v129 w17 ho hb hg hat; rw [← Ny128.out] at ho; replace HB := am (hb); have HO130 := am (ho); clear HO_5; clear ho hb hg hat))
   go_ret
   exact ⟨_, eq_, by (with_reducible repeat (first | apply Kd.R_alloc | apply Kd.R_drewN | apply Kd.R_drew)); exact HO130.out, bel⟩

/-! ### spec_l2AffixGet: function 17 -/
def spec_l2AffixGet.f (l0 : List ByteArray) : Option (ByteArray × Bool × ByteArray × ByteArray × ByteArray) := if 0 < (l0.length : Int) then (if 1 < (l0.length : Int) then (if 2 < (l0.length : Int) then (if 3 < (l0.length : Int) then (if 4 < (l0.length : Int) then (some (rdOf ByteArray.empty l0 1, ((rdOf ByteArray.empty l0 0).toList == ([102, 114, 111, 110, 116] : List UInt8)), rdOf ByteArray.empty l0 2, rdOf ByteArray.empty l0 3, rdOf ByteArray.empty l0 4)) else (none)) else (none)) else (none)) else (none)) else (none)
def spec_l2AffixGet.T1 : Bool × List (List Nat × List Nat) := (true, [([], []), ([0], [0]), ([1], [1]), ([2], [2]), ([], []), ([4], [4]), ([5], [5]), ([], []), ([7], [7]), ([8], [8]), ([], []), ([10], [10]), ([11], [11]), ([], []), ([13], [13]), ([14], [14]), ([3, 6, 9, 12, 15], [3, 6, 9, 12, 15]), ([16, 0, 1, 2, 3, 4, 5, 6, 7, 8, 9, 10, 11, 12, 13, 14, 15, 16], [16])])
def spec_l2AffixGet.B1 : List Nat := [0, 1, 3, 7, 0, 16, 48, 0, 128, 384, 0, 1024, 3072, 0, 8192, 24576, 65535, 131071]
theorem spec_l2AffixGet.tab1 : rtab .any (opsOf Tryd.f17 1) = spec_l2AffixGet.T1 := by kernel_rfl
theorem spec_l2AffixGet.bits1 : waitsOk spec_l2AffixGet.T1.2 spec_l2AffixGet.B1 = true := by kernel_rfl
theorem spec_l2AffixGet.calls (A0 : Option Addr) (c0 : Nat) (l0 : List ByteArray) (r1 : ByteArray) (r2 : Bool) (r3 : ByteArray) (r4 : ByteArray) (r5 : ByteArray) (w : World) (hr0 : Kd.C Kd.string w A0 l0.length l0) (hc0 : l0.length ≤ c0) (h : spec_l2AffixGet.f l0 = some (r1, r2, r3, r4, r5)) :
  Calls Tryd.prog 17 #[.slice A0 l0.length c0] w fun e w' => e = .returned (.agg #[.string r1, .bool r2, .string r3, .string r4, .string r5]) ∧ Below w.heap.size w w' := by
 have hu40 := Tryd.underlying40; have HR0 := am hr0; have HC0 := am hc0; clear hr0 hc0; have HB := am (Below.refl w.heap.size w)
 have H : (if 0 < (l0.length : Int) then (if 1 < (l0.length : Int) then (if 2 < (l0.length : Int) then (if 3 < (l0.length : Int) then (if 4 < (l0.length : Int) then (some (rdOf ByteArray.empty l0 1, ((rdOf ByteArray.empty l0 0).toList == ([102, 114, 111, 110, 116] : List UInt8)), rdOf ByteArray.empty l0 2, rdOf ByteArray.empty l0 3, rdOf ByteArray.empty l0 4)) else (none)) else (none)) else (none)) else (none)) else (none)) = some (r1, r2, r3, r4, r5) := h
 clear h
 replace H := ip H; obtain ⟨c2, H⟩ := H; have c2b0 := decide_eq_true c2
 have c2b1 : decide (0 < l0.length) = true := decide_eq_true (by omega)
 clear c2
 replace H := ip H; obtain ⟨c3, H⟩ := H; have c3b0 := decide_eq_true c3
 have c3b1 : decide (1 < l0.length) = true := decide_eq_true (by omega)
 clear c3
 replace H := ip H; obtain ⟨c4, H⟩ := H; have c4b0 := decide_eq_true c4
 have c4b1 : decide (2 < l0.length) = true := decide_eq_true (by omega)
 clear c4
 replace H := ip H; obtain ⟨c5, H⟩ := H; have c5b0 := decide_eq_true c5
 have c5b1 : decide (3 < l0.length) = true := decide_eq_true (by omega)
 clear c5
 replace H := ip H; obtain ⟨c6, H⟩ := H; have c6b0 := decide_eq_true c6
 have c6b1 : decide (4 < l0.length) = true := decide_eq_true (by omega)
 clear c6
 simp only [Option.some.injEq, Prod.mk.injEq] at H
 obtain ⟨rfl, rfl, rfl, rfl, rfl⟩ := H; go_enter Tryd.func17, Tryd.ntmps17
 try go_wp2_with (first | ((with_reducible refine gate_dst (N := 2) rfl ?_); refine bx 2 (cs := #[.string (⟨#[]⟩ : ByteArray), .bool false, .string (⟨#[]⟩ : ByteArray), .string (⟨#[]⟩ : ByteArray), .string (⟨#[]⟩ : ByteArray)]) (t := 40) ?_; intro gb131 hg w7 hbox hb; have BK131 := am (hbox); have GW131 := am ((b19_ : w.heap.size ≤ gb131)); have GE131 := am ((b19_ : w.heap.size ≤ gb131)); replace HB := am (below_step bel hb); clear hb hbox hg))
 replace BK131 := am (blk_drew BK131.out); replace HB := am (below_drew1 HB.out)
 have p132 : 0 ≤ (0 : Int) := (by omega)
 have q132 : 0 < (l0.length : Int) := of_decide_eq_true ad
 obtain ⟨ad132, e132, hx132_0⟩ := Kd.at_string HR0.out 0 p132 q132; have hw132_0 := hx132_0
 (try rw [show ((0 : Int)).toNat = 0 from rfl] at hw132_0)
 (try rw [show 0 * 1 = 0 from rfl] at hw132_0)
 (try rw [Addr.add_zero'] at hw132_0)
 cases e132
 have qi132 : (0 < l0.length) = True := eq_true (by omega)
 (try rw [show ((0 : Int)).toNat = 0 from rfl] at hx132_0)
 (try rw [Addr.add_zero'] at hx132_0)
 replace hx132_0 := kp HB.out hx132_0; replace p132 := eq_true p132; replace q132 := eq_true q132
 have p133 : 0 ≤ (1 : Int) := (by omega)
 have q133 : 1 < (l0.length : Int) := of_decide_eq_true ad
 obtain ⟨ad133, e133, hx133_0⟩ := Kd.at_string HR0.out 1 p133 q133; have hw133_0 := hx133_0
 (try rw [show ((1 : Int)).toNat = 1 from rfl] at hw133_0)
 (try rw [show 1 * 1 = 1 from rfl] at hw133_0)
 (try simp only [Nat.reduceMul, Nat.reduceEqDiff, Go.Addr.add, ↓reduceIte] at hw133_0)
 obtain rfl : ad132 = ad133 := (by injection e133)
 (try simp only [show (1 : Int).toNat = 1 from rfl, Nat.reduceMul, Nat.reduceEqDiff, Go.Addr.add, ↓reduceIte] at hx133_0)
 have qi133 : (1 < l0.length) = True := eq_true (by omega)
 (try rw [show ((1 : Int)).toNat = 1 from rfl] at hx133_0)
 replace hx133_0 := kp HB.out hx133_0; replace p133 := eq_true p133; replace q133 := eq_true q133
 have p134 : 0 ≤ (2 : Int) := (by omega)
 have q134 : 2 < (l0.length : Int) := of_decide_eq_true ad
 obtain ⟨ad134, e134, hx134_0⟩ := Kd.at_string HR0.out 2 p134 q134; have hw134_0 := hx134_0
 (try rw [show ((2 : Int)).toNat = 2 from rfl] at hw134_0)
 (try rw [show 2 * 1 = 2 from rfl] at hw134_0)
 (try simp only [Nat.reduceMul, Nat.reduceEqDiff, Go.Addr.add, ↓reduceIte] at hw134_0)
 obtain rfl : ad132 = ad134 := (by injection e134)
 (try simp only [show (2 : Int).toNat = 2 from rfl, Nat.reduceMul, Nat.reduceEqDiff, Go.Addr.add, ↓reduceIte] at hx134_0)
 have qi134 : (2 < l0.length) = True := eq_true (by omega)
 (try rw [show ((2 : Int)).toNat = 2 from rfl] at hx134_0)
 replace hx134_0 := kp HB.out hx134_0; replace p134 := eq_true p134; replace q134 := eq_true q134
 have p135 : 0 ≤ (3 : Int) := (by omega)
 have q135 : 3 < (l0.length : Int) := of_decide_eq_true ad
 obtain ⟨ad135, e135, hx135_0⟩ := Kd.at_string HR0.out 3 p135 q135; have hw135_0 := hx135_0
 (try rw [show ((3 : Int)).toNat = 3 from rfl] at hw135_0)
 (try rw [show 3 * 1 = 3 from rfl] at hw135_0)
 (try simp only [Nat.reduceMul, Nat.reduceEqDiff, Go.Addr.add, ↓reduceIte] at hw135_0)
 obtain rfl : ad132 = ad135 := (by injection e135)
 (try simp only [show (3 : Int).toNat = 3 from rfl, Nat.reduceMul, Nat.reduceEqDiff, Go.Addr.add, ↓reduceIte] at hx135_0)
 have qi135 : (3 < l0.length) = True := eq_true (by omega)
 (try rw [show ((3 : Int)).toNat = 3 from rfl] at hx135_0)
 replace hx135_0 := kp HB.out hx135_0; replace p135 := eq_true p135; replace q135 := eq_true q135
 have p136 : 0 ≤ (4 : Int) := (by omega)
 have q136 : 4 < (l0.length : Int) := of_decide_eq_true ad
 obtain ⟨ad136, e136, hx136_0⟩ := Kd.at_string HR0.out 4 p136 q136; have hw136_0 := hx136_0
 (try rw [show ((4 : Int)).toNat = 4 from rfl] at hw136_0)
 (try rw [show 4 * 1 = 4 from rfl] at hw136_0)
 (try simp only [Nat.reduceMul, Nat.reduceEqDiff, Go.Addr.add, ↓reduceIte] at hw136_0)
 obtain rfl : ad132 = ad136 := (by injection e136)
 (try simp only [show (4 : Int).toNat = 4 from rfl, Nat.reduceMul, Nat.reduceEqDiff, Go.Addr.add, ↓reduceIte] at hx136_0)
 have qi136 : (4 < l0.length) = True := eq_true (by omega)
 (try rw [show ((4 : Int)).toNat = 4 from rfl] at hx136_0)
 replace hx136_0 := kp HB.out hx136_0; replace p136 := eq_true p136; replace q136 := eq_true q136
 refine st (n := 18) (S := fun w' => w'.cell? ad132 = some (.string (rdOf ByteArray.empty l0 0)) ∧ w'.cell? ⟨ad132.block, ad132.off + 1, none⟩ = some (.string (rdOf ByteArray.empty l0 1)) ∧ w'.cell? ⟨ad132.block, ad132.off + 2, none⟩ = some (.string (rdOf ByteArray.empty l0 2)) ∧ w'.cell? ⟨ad132.block, ad132.off + 3, none⟩ = some (.string (rdOf ByteArray.empty l0 3)) ∧ w'.cell? ⟨ad132.block, ad132.off + 4, none⟩ = some (.string (rdOf ByteArray.empty l0 4))) (ds := []) ⟨(kp HB.out hw132_0), (kp HB.out hw133_0), (kp HB.out hw134_0), (kp HB.out hw135_0), (kp HB.out hw136_0)⟩ (fun hHeld => ?_); refine with_tabW spec_l2AffixGet.tab1 spec_l2AffixGet.bits1 (fun HT_ HW_ => ?_)
 generalize w7.drew = w8 at BK131 HB hx132_0 hx133_0 hx134_0 hx135_0 hx136_0 hHeld ⊢
 refine pu 0 3 ?_
 refine pu 1 4 ?_
 refine pu 4 7 ?_
 refine pu 5 8 ?_
 refine pu 7 10 ?_
 refine pu 8 11 ?_
 refine pu 10 13 ?_
 refine pu 11 14 ?_
 refine pu 13 16 ?_
 refine pu 14 17 ?_
 refine tk5 2 5 hHeld ?_
 refine pu 3 6 ?_
 refine tk5 6 9 hHeld ?_
 refine tk5 9 12 hHeld ?_
 refine tk5 12 15 hHeld ?_
 refine tk5 15 18 hHeld ?_
 refine pu 16 19 ?_
 refine one_ (i := 17) (N := none) #[true, true, true, true, true, true, true, true, true, true, true, true, true, true, true, true, true, true] rfl rfl (one_of HT_.out (by kernel_rfl)) (by decide) (fun K hK => ?_)
 have hs9 : w8.cell? ⟨gb131, 0, none⟩ = some (.string (⟨#[]⟩ : ByteArray)) := (blk_cell BK131.out 0).trans rfl
 have hfs9 := bf BK131.out 0
 have hs10 : w8.cell? ⟨gb131, 1, none⟩ = some (.bool false) := (blk_cell BK131.out 1).trans rfl
 have hfs10 := bf BK131.out 1
 have hs11 : w8.cell? ⟨gb131, 2, none⟩ = some (.string (⟨#[]⟩ : ByteArray)) := (blk_cell BK131.out 2).trans rfl
 have hfs11 := bf BK131.out 2
 have hs12 : w8.cell? ⟨gb131, 3, none⟩ = some (.string (⟨#[]⟩ : ByteArray)) := (blk_cell BK131.out 3).trans rfl
 have hfs12 := bf BK131.out 3
 have hs13 : w8.cell? ⟨gb131, 4, none⟩ = some (.string (⟨#[]⟩ : ByteArray)) := (blk_cell BK131.out 4).trans rfl
 have hfs13 := bf BK131.out 4
 refine skip_ (w1 := ?_) (by rfl) rfl ?_ ?_
 rotate_left
 ·go_simp
  rfl
 refine hK.out _ _ ⟨((cell_far (p := ⟨gb131, _, none⟩) (by first | exact Nat.ne_of_lt (Nat.lt_of_lt_of_le (by have := World.block_lt_of_cell? _ _ hw132_0; first | rwa [add_block] at this | exact this) GW131.out) | (rw [add_block]; exact Nat.ne_of_lt (Nat.lt_of_lt_of_le (by have := World.block_lt_of_cell? _ _ hw132_0; first | rwa [add_block] at this | exact this) GW131.out)) | (show (Addr.add _ _).block ≠ _; rw [add_block]; exact Nat.ne_of_lt (Nat.lt_of_lt_of_le (by have := World.block_lt_of_cell? _ _ hw132_0; first | rwa [add_block] at this | exact this) GW131.out)) | (dsimp only; exact Nat.ne_of_lt (Nat.lt_of_lt_of_le (by have := World.block_lt_of_cell? _ _ hw132_0; first | rwa [add_block] at this | exact this) GW131.out))) _).trans (((cell_far (p := ⟨gb131, _, none⟩) (by first | exact Nat.ne_of_lt (Nat.lt_of_lt_of_le (by have := World.block_lt_of_cell? _ _ hw132_0; first | rwa [add_block] at this | exact this) GW131.out) | (rw [add_block]; exact Nat.ne_of_lt (Nat.lt_of_lt_of_le (by have := World.block_lt_of_cell? _ _ hw132_0; first | rwa [add_block] at this | exact this) GW131.out)) | (show (Addr.add _ _).block ≠ _; rw [add_block]; exact Nat.ne_of_lt (Nat.lt_of_lt_of_le (by have := World.block_lt_of_cell? _ _ hw132_0; first | rwa [add_block] at this | exact this) GW131.out)) | (dsimp only; exact Nat.ne_of_lt (Nat.lt_of_lt_of_le (by have := World.block_lt_of_cell? _ _ hw132_0; first | rwa [add_block] at this | exact this) GW131.out))) _).trans (((cell_far (p := ⟨gb131, _, none⟩) (by first | exact Nat.ne_of_lt (Nat.lt_of_lt_of_le (by have := World.block_lt_of_cell? _ _ hw132_0; first | rwa [add_block] at this | exact this) GW131.out) | (rw [add_block]; exact Nat.ne_of_lt (Nat.lt_of_lt_of_le (by have := World.block_lt_of_cell? _ _ hw132_0; first | rwa [add_block] at this | exact this) GW131.out)) | (show (Addr.add _ _).block ≠ _; rw [add_block]; exact Nat.ne_of_lt (Nat.lt_of_lt_of_le (by have := World.block_lt_of_cell? _ _ hw132_0; first | rwa [add_block] at this | exact this) GW131.out)) | (dsimp only; exact Nat.ne_of_lt (Nat.lt_of_lt_of_le (by have := World.block_lt_of_cell? _ _ hw132_0; first | rwa [add_block] at this | exact this) GW131.out))) _).trans (((cell_far (p := ⟨gb131, _, none⟩) (by first | exact Nat.ne_of_lt (Nat.lt_of_lt_of_le (by have := World.block_lt_of_cell? _ _ hw132_0; first | rwa [add_block] at this | exact this) GW131.out) | (rw [add_block]; exact Nat.ne_of_lt (Nat.lt_of_lt_of_le (by have := World.block_lt_of_cell? _ _ hw132_0; first | rwa [add_block] at this | exact this) GW131.out)) | (show (Addr.add _ _).block ≠ _; rw [add_block]; exact Nat.ne_of_lt (Nat.lt_of_lt_of_le (by have := World.block_lt_of_cell? _ _ hw132_0; first | rwa [add_block] at this | exact this) GW131.out)) | (dsimp only; exact Nat.ne_of_lt (Nat.lt_of_lt_of_le (by have := World.block_lt_of_cell? _ _ hw132_0; first | rwa [add_block] at this | exact this) GW131.out))) _).trans (((cell_far (p := ⟨gb131, _, none⟩) (by first | exact Nat.ne_of_lt (Nat.lt_of_lt_of_le (by have := World.block_lt_of_cell? _ _ hw132_0; first | rwa [add_block] at this | exact this) GW131.out) | (rw [add_block]; exact Nat.ne_of_lt (Nat.lt_of_lt_of_le (by have := World.block_lt_of_cell? _ _ hw132_0; first | rwa [add_block] at this | exact this) GW131.out)) | (show (Addr.add _ _).block ≠ _; rw [add_block]; exact Nat.ne_of_lt (Nat.lt_of_lt_of_le (by have := World.block_lt_of_cell? _ _ hw132_0; first | rwa [add_block] at this | exact this) GW131.out)) | (dsimp only; exact Nat.ne_of_lt (Nat.lt_of_lt_of_le (by have := World.block_lt_of_cell? _ _ hw132_0; first | rwa [add_block] at this | exact this) GW131.out))) _).trans (hHeld.1)))))))))), ((cell_far (p := ⟨gb131, _, none⟩) (by first | exact Nat.ne_of_lt (Nat.lt_of_lt_of_le (by have := World.block_lt_of_cell? _ _ hw133_0; first | rwa [add_block] at this | exact this) GW131.out) | (rw [add_block]; exact Nat.ne_of_lt (Nat.lt_of_lt_of_le (by have := World.block_lt_of_cell? _ _ hw133_0; first | rwa [add_block] at this | exact this) GW131.out)) | (show (Addr.add _ _).block ≠ _; rw [add_block]; exact Nat.ne_of_lt (Nat.lt_of_lt_of_le (by have := World.block_lt_of_cell? _ _ hw133_0; first | rwa [add_block] at this | exact this) GW131.out)) | (dsimp only; exact Nat.ne_of_lt (Nat.lt_of_lt_of_le (by have := World.block_lt_of_cell? _ _ hw133_0; first | rwa [add_block] at this | exact this) GW131.out))) _).trans (((cell_far (p := ⟨gb131, _, none⟩) (by first | exact Nat.ne_of_lt (Nat.lt_of_lt_of_le (by have := World.block_lt_of_cell? _ _ hw133_0; first | rwa [add_block] at this | exact this) GW131.out) | (rw [add_block]; exact Nat.ne_of_lt (Nat.lt_of_lt_of_le (by have := World.block_lt_of_cell? _ _ hw133_0; first | rwa [add_block] at this | exact this) GW131.out)) | (show (Addr.add _ _).block ≠ _; rw [add_block]; exact Nat.ne_of_lt (Nat.lt_of_lt_of_le (by have := World.block_lt_of_cell? _ _ hw133_0; first | rwa [add_block] at this | exact this) GW131.out)) | (dsimp only; exact Nat.ne_of_lt (Nat.lt_of_lt_of_le (by have := World.block_lt_of_cell? _ _ hw133_0; first | rwa [add_block] at this | exact this) GW131.out))) _).trans (((cell_far (p := ⟨gb131, _, none⟩) (by first | exact Nat.ne_of_lt (Nat.lt_of_lt_of_le (by have := World.block_lt_of_cell? _ _ hw133_0; first | rwa [add_block] at this | exact this) GW131.out) | (rw [add_block]; exact Nat.ne_of_lt (Nat.lt_of_lt_of_le (by have := World.block_lt_of_cell? _ _ hw133_0; first | rwa [add_block] at this | exact this) GW131.out)) | (show (Addr.add _ _).block ≠ _; rw [add_block]; exact Nat.ne_of_lt (Nat.lt_of_lt_of_le (by have := World.block_lt_of_cell? _ _ hw133_0; first | rwa [add_block] at this | exact this) GW131.out)) | (dsimp only; exact Nat.ne_of_lt (Nat.lt_of_lt_of_le (by have := World.block_lt_of_cell? _ _ hw133_0; first | rwa [add_block] at this | exact this) GW131.out))) _).trans (((cell_far (p := ⟨gb131, _, none⟩) (by first | exact Nat.ne_of_lt (Nat.lt_of_lt_of_le (by have := World.block_lt_of_cell? _ _ hw133_0; first | rwa [add_block] at this | exact this) GW131.out) | (rw [add_block]; exact Nat.ne_of_lt (Nat.lt_of_lt_of_le (by have := World.block_lt_of_cell? _ _ hw133_0; first | rwa [add_block] at this | exact this) GW131.out)) | (show (Addr.add _ _).block ≠ _; rw [add_block]; exact Nat.ne_of_lt (Nat.lt_of_lt_of_le (by have := World.block_lt_of_cell? _ _ hw133_0; first | rwa [add_block] at this | exact this) GW131.out)) | (dsimp only; exact Nat.ne_of_lt (Nat.lt_of_lt_of_le (by have := World.block_lt_of_cell? _ _ hw133_0; first | rwa [add_block] at this | exact this) GW131.out))) _).trans (((cell_far (p := ⟨gb131, _, none⟩) (by first | exact Nat.ne_of_lt (Nat.lt_of_lt_of_le (by have := World.block_lt_of_cell? _ _ hw133_0; first | rwa [add_block] at this | exact this) GW131.out) | (rw [add_block]; exact Nat.ne_of_lt (Nat.lt_of_lt_of_le (by have := World.block_lt_of_cell? _ _ hw133_0; first | rwa [add_block] at this | exact this) GW131.out)) | (show (Addr.add _ _).block ≠ _; rw [add_block]; exact Nat.ne_of_lt (Nat.lt_of_lt_of_le (by have := World.block_lt_of_cell? _ _ hw133_0; first | rwa [add_block] at this | exact this) GW131.out)) | (dsimp only; exact Nat.ne_of_lt (Nat.lt_of_lt_of_le (by have := World.block_lt_of_cell? _ _ hw133_0; first | rwa [add_block] at this | exact this) GW131.out))) _).trans (hHeld.2.1)))))))))), ((cell_far (p := ⟨gb131, _, none⟩) (by first | exact Nat.ne_of_lt (Nat.lt_of_lt_of_le (by have := World.block_lt_of_cell? _ _ hw134_0; first | rwa [add_block] at this | exact this) GW131.out) | (rw [add_block]; exact Nat.ne_of_lt (Nat.lt_of_lt_of_le (by have := World.block_lt_of_cell? _ _ hw134_0; first | rwa [add_block] at this | exact this) GW131.out)) | (show (Addr.add _ _).block ≠ _; rw [add_block]; exact Nat.ne_of_lt (Nat.lt_of_lt_of_le (by have := World.block_lt_of_cell? _ _ hw134_0; first | rwa [add_block] at this | exact this) GW131.out)) | (dsimp only; exact Nat.ne_of_lt (Nat.lt_of_lt_of_le (by have := World.block_lt_of_cell? _ _ hw134_0; first | rwa [add_block] at this | exact this) GW131.out))) _).trans (((cell_far (p := ⟨gb131, _, none⟩) (by first | exact Nat.ne_of_lt (Nat.lt_of_lt_of_le (by have := World.block_lt_of_cell? _ _ hw134_0; first | rwa [add_block] at this | exact this) GW131.out) | (rw [add_block]; exact Nat.ne_of_lt (Nat.lt_of_lt_of_le (by have := World.block_lt_of_cell? _ _ hw134_0; first | rwa [add_block] at this | exact this) GW131.out)) | (show (Addr.add _ _).block ≠ _; rw [add_block]; exact Nat.ne_of_lt (Nat.lt_of_lt_of_le (by have := World.block_lt_of_cell? _ _ hw134_0; first | rwa [add_block] at this | exact this) GW131.out)) | (dsimp only; exact Nat.ne_of_lt (Nat.lt_of_lt_of_le (by have := World.block_lt_of_cell? _ _ hw134_0; first | rwa [add_block] at this | exact this) GW131.out))) _).trans (((cell_far (p := ⟨gb131, _, none⟩) (by first | exact Nat.ne_of_lt (Nat.lt_of_lt_of_le (by have := World.block_lt_of_cell? _ _ hw134_0; first | rwa [add_block] at this | exact this) GW131.out) | (rw [add_block]; exact Nat.ne_of_lt (Nat.lt_of_lt_of_le (by have := World.block_lt_of_cell? _ _ hw134_0; first | rwa [add_block] at this | exact this) GW131.out)) | (show (Addr.add _ _).block ≠ _; rw [add_block]; exact Nat.ne_of_lt (Nat.lt_of_lt_of_le (by have := World.block_lt_of_cell? _ _ hw134_0; first | rwa [add_block] at this | exact this) GW131.out)) | (dsimp only; exact Nat.ne_of_lt (Nat.lt_of_lt_of_le (by have := World.block_lt_of_cell? _ _ hw134_0; first | rwa [add_block] at this | exact this) GW131.out))) _).trans (((cell_far (p := ⟨gb131, _, none⟩) (by first | exact Nat.ne_of_lt (Nat.lt_of_lt_of_le (by have := World.block_lt_of_cell? _ _ hw134_0; first | rwa [add_block] at this | exact this) GW131.out) | (rw [add_block]; exact Nat.ne_of_lt (Nat.lt_of_lt_of_le (by have := World.block_lt_of_cell? _ _ hw134_0; first | rwa [add_block] at this | exact this) GW131.out)) | (show (Addr.add _ _).block ≠ _; rw [add_block]; exact Nat.ne_of_lt (Nat.lt_of_lt_of_le (by have := World.block_lt_of_cell? _ _ hw134_0; first | rwa [add_block] at this | exact this) GW131.out)) | (dsimp only; exact Nat.ne_of_lt (Nat.lt_of_lt_of_le (by have := World.block_lt_of_cell? _ _ hw134_0; first | rwa [add_block] at this | exact this) GW131.out))) _).trans (((cell_far (p := ⟨gb131, _, none⟩) (by first | exact Nat.ne_of_lt (Nat.lt_of_lt_of_le (by have := World.block_lt_of_cell? _ _ hw134_0; first | rwa [add_block] at this | exact this) GW131.out) | (rw [add_block]; exact Nat.ne_of_lt (Nat.lt_of_lt_of_le (by have := World.block_lt_of_cell? _ _ hw134_0; first | rwa [add_block] at this | exact this) GW131.out)) | (show (Addr.add _ _).block ≠ _; rw [add_block]; exact Nat.ne_of_lt (Nat.lt_of_lt_of_le (by have := World.block_lt_of_cell? _ _ hw134_0; first | rwa [add_block] at this | exact this) GW131.out)) | (dsimp only; exact Nat.ne_of_lt (Nat.lt_of_lt_of_le (by have := World.block_lt_of_cell? _ _ hw134_0; first | rwa [add_block] at this | exact this) GW131.out))) _).trans (hHeld.2.2.1)))))))))), ((cell_far (p := ⟨gb131, _, none⟩) (by first | exact Nat.ne_of_lt (Nat.lt_of_lt_of_le (by have := World.block_lt_of_cell? _ _ hw135_0; first | rwa [add_block] at this | exact this) GW131.out) | (rw [add_block]; exact Nat.ne_of_lt (Nat.lt_of_lt_of_le (by have := World.block_lt_of_cell? _ _ hw135_0; first | rwa [add_block] at this | exact this) GW131.out)) | (show (Addr.add _ _).block ≠ _; rw [add_block]; exact Nat.ne_of_lt (Nat.lt_of_lt_of_le (by have := World.block_lt_of_cell? _ _ hw135_0; first | rwa [add_block] at this | exact this) GW131.out)) | (dsimp only; exact Nat.ne_of_lt (Nat.lt_of_lt_of_le (by have := World.block_lt_of_cell? _ _ hw135_0; first | rwa [add_block] at this | exact this) GW131.out))) _).trans (((cell_far (p := ⟨gb131, _, none⟩) (by first | exact Nat.ne_of_lt (Nat.lt_of_lt_of_le (by have := World.block_lt_of_cell? _ _ hw135_0; first | rwa [add_block] at this | exact this) GW131.out) | (rw [add_block]; exact Nat.ne_of_lt (Nat.lt_of_lt_of_le (by have := World.block_lt_of_cell? _ _ hw135_0; first | rwa [add_block] at this | exact this) GW131.out)) | (show (Addr.add _ _).block ≠ _; rw [add_block]; exact Nat.ne_of_lt (Nat.lt_of_lt_of_le (by have := World.block_lt_of_cell? _ _ hw135_0; first | rwa [add_block] at this | exact this) GW131.out)) | (dsimp only; exact Nat.ne_of_lt (Nat.lt_of_lt_of_le (by have := World.block_lt_of_cell? _ _ hw135_0; first | rwa [add_block] at this | exact this) GW131.out))) _).trans (((cell_far (p := ⟨gb131, _, none⟩) (by first | exact Nat.ne_of_lt (Nat.lt_of_lt_of_le (by have := World.block_lt_of_cell? _ _ hw135_0; first | rwa [add_block] at this | exact this) GW131.out) | (rw [add_block]; exact Nat.ne_of_lt (Nat.lt_of_lt_of_le (by have := World.block_lt_of_cell? _ _ hw135_0; first | rwa [add_block] at this | exact this) GW131.out)) | (show (Addr.add _ _).block ≠ _; rw [add_block]; exact Nat.ne_of_lt (Nat.lt_of_lt_of_le (by have := World.block_lt_of_cell? _ _ hw135_0; first | rwa [add_block] at this | exact this) GW131.out)) | (dsimp only; exact Nat.ne_of_lt (Nat.lt_of_lt_of_le (by have := World.block_lt_of_cell? _ _ hw135_0; first | rwa [add_block] at this | exact this) GW131.out))) _).trans (((cell_far (p := ⟨gb131, _, none⟩) (by first | exact Nat.ne_of_lt (Nat.lt_of_lt_of_le (by have := World.block_lt_of_cell? _ _ hw135_0; first | rwa [add_block] at this | exact this) GW131.out) | (rw [add_block]; exact Nat.ne_of_lt (Nat.lt_of_lt_of_le (by have := World.block_lt_of_cell? _ _ hw135_0; first | rwa [add_block] at this | exact this) GW131.out)) | (show (Addr.add _ _).block ≠ _; rw [add_block]; exact Nat.ne_of_lt (Nat.lt_of_lt_of_le (by have := World.block_lt_of_cell? _ _ hw135_0; first | rwa [add_block] at this | exact this) GW131.out)) | (dsimp only; exact Nat.ne_of_lt (Nat.lt_of_lt_of_le (by have := World.block_lt_of_cell? _ _ hw135_0; first | rwa [add_block] at this | exact this) GW131.out))) _).trans (((cell_far (p := ⟨gb131, _, none⟩) (by first | exact Nat.ne_of_lt (Nat.lt_of_lt_of_le (by have := World.block_lt_of_cell? _ _ hw135_0; first | rwa [add_block] at this | exact this) GW131.out) | (rw [add_block]; exact Nat.ne_of_lt (Nat.lt_of_lt_of_le (by have := World.block_lt_of_cell? _ _ hw135_0; first | rwa [add_block] at this | exact this) GW131.out)) | (show (Addr.add _ _).block ≠ _; rw [add_block]; exact Nat.ne_of_lt (Nat.lt_of_lt_of_le (by have := World.block_lt_of_cell? _ _ hw135_0; first | rwa [add_block] at this | exact this) GW131.out)) | (dsimp only; exact Nat.ne_of_lt (Nat.lt_of_lt_of_le (by have := World.block_lt_of_cell? _ _ hw135_0; first | rwa [add_block] at this | exact this) GW131.out))) _).trans (hHeld.2.2.2.1)))))))))), ((cell_far (p := ⟨gb131, _, none⟩) (by first | exact Nat.ne_of_lt (Nat.lt_of_lt_of_le (by have := World.block_lt_of_cell? _ _ hw136_0; first | rwa [add_block] at this | exact this) GW131.out) | (rw [add_block]; exact Nat.ne_of_lt (Nat.lt_of_lt_of_le (by have := World.block_lt_of_cell? _ _ hw136_0; first | rwa [add_block] at this | exact this) GW131.out)) | (show (Addr.add _ _).block ≠ _; rw [add_block]; exact Nat.ne_of_lt (Nat.lt_of_lt_of_le (by have := World.block_lt_of_cell? _ _ hw136_0; first | rwa [add_block] at this | exact this) GW131.out)) | (dsimp only; exact Nat.ne_of_lt (Nat.lt_of_lt_of_le (by have := World.block_lt_of_cell? _ _ hw136_0; first | rwa [add_block] at this | exact this) GW131.out))) _).trans (((cell_far (p := ⟨gb131, _, none⟩) (by first | exact Nat.ne_of_lt (Nat.lt_of_lt_of_le (by have := World.block_lt_of_cell? _ _ hw136_0; first | rwa [add_block] at this | exact this) GW131.out) | (rw [add_block]; exact Nat.ne_of_lt (Nat.lt_of_lt_of_le (by have := World.block_lt_of_cell? _ _ hw136_0; first | rwa [add_block] at this | exact this) GW131.out)) | (show (Addr.add _ _).block ≠ _; rw [add_block]; exact Nat.ne_of_lt (Nat.lt_of_lt_of_le (by have := World.block_lt_of_cell? _ _ hw136_0; first | rwa [add_block] at this | exact this) GW131.out)) | (dsimp only; exact Nat.ne_of_lt (Nat.lt_of_lt_of_le (by have := World.block_lt_of_cell? _ _ hw136_0; first | rwa [add_block] at this | exact this) GW131.out))) _).trans (((cell_far (p := ⟨gb131, _, none⟩) (by first | exact Nat.ne_of_lt (Nat.lt_of_lt_of_le (by have := World.block_lt_of_cell? _ _ hw136_0; first | rwa [add_block] at this | exact this) GW131.out) | (rw [add_block]; exact Nat.ne_of_lt (Nat.lt_of_lt_of_le (by have := World.block_lt_of_cell? _ _ hw136_0; first | rwa [add_block] at this | exact this) GW131.out)) | (show (Addr.add _ _).block ≠ _; rw [add_block]; exact Nat.ne_of_lt (Nat.lt_of_lt_of_le (by have := World.block_lt_of_cell? _ _ hw136_0; first | rwa [add_block] at this | exact this) GW131.out)) | (dsimp only; exact Nat.ne_of_lt (Nat.lt_of_lt_of_le (by have := World.block_lt_of_cell? _ _ hw136_0; first | rwa [add_block] at this | exact this) GW131.out))) _).trans (((cell_far (p := ⟨gb131, _, none⟩) (by first | exact Nat.ne_of_lt (Nat.lt_of_lt_of_le (by have := World.block_lt_of_cell? _ _ hw136_0; first | rwa [add_block] at this | exact this) GW131.out) | (rw [add_block]; exact Nat.ne_of_lt (Nat.lt_of_lt_of_le (by have := World.block_lt_of_cell? _ _ hw136_0; first | rwa [add_block] at this | exact this) GW131.out)) | (show (Addr.add _ _).block ≠ _; rw [add_block]; exact Nat.ne_of_lt (Nat.lt_of_lt_of_le (by have := World.block_lt_of_cell? _ _ hw136_0; first | rwa [add_block] at this | exact this) GW131.out)) | (dsimp only; exact Nat.ne_of_lt (Nat.lt_of_lt_of_le (by have := World.block_lt_of_cell? _ _ hw136_0; first | rwa [add_block] at this | exact this) GW131.out))) _).trans (((cell_far (p := ⟨gb131, _, none⟩) (by first | exact Nat.ne_of_lt (Nat.lt_of_lt_of_le (by have := World.block_lt_of_cell? _ _ hw136_0; first | rwa [add_block] at this | exact this) GW131.out) | (rw [add_block]; exact Nat.ne_of_lt (Nat.lt_of_lt_of_le (by have := World.block_lt_of_cell? _ _ hw136_0; first | rwa [add_block] at this | exact this) GW131.out)) | (show (Addr.add _ _).block ≠ _; rw [add_block]; exact Nat.ne_of_lt (Nat.lt_of_lt_of_le (by have := World.block_lt_of_cell? _ _ hw136_0; first | rwa [add_block] at this | exact this) GW131.out)) | (dsimp only; exact Nat.ne_of_lt (Nat.lt_of_lt_of_le (by have := World.block_lt_of_cell? _ _ hw136_0; first | rwa [add_block] at this | exact this) GW131.out))) _).trans (hHeld.2.2.2.2))))))))))⟩ (fun hHeld => ?_)
 clear hK K
 refine done_ (done_of HT_.out (by kernel_rfl)) ?_
 try go_wp2
 refine bodyPost_ret (results_cell_row rfl _ _ gb131 40 #[.string (rdOf ByteArray.empty l0 1), .bool ((rdOf ByteArray.empty l0 0).toList == ([102, 114, 111, 110, 116] : List UInt8)), .string (rdOf ByteArray.empty l0 2), .string (rdOf ByteArray.empty l0 3), .string (rdOf ByteArray.empty l0 4)] (0, 0) _ rfl (by (with_reducible repeat (first | refine blk_drewN ?_ _ | refine blk_drew ?_ | refine blk_alloc ?_ _)); refine blk_put (cs := #[.string (rdOf ByteArray.empty l0 1), .bool ((rdOf ByteArray.empty l0 0).toList == ([102, 114, 111, 110, 116] : List UInt8)), .string (rdOf ByteArray.empty l0 2), .string (rdOf ByteArray.empty l0 3), .string (⟨#[]⟩ : ByteArray)]) ?_ 4 _ rfl; (with_reducible repeat (first | refine blk_drewN ?_ _ | refine blk_drew ?_ | refine blk_alloc ?_ _)); refine blk_put (cs := #[.string (rdOf ByteArray.empty l0 1), .bool ((rdOf ByteArray.empty l0 0).toList == ([102, 114, 111, 110, 116] : List UInt8)), .string (rdOf ByteArray.empty l0 2), .string (⟨#[]⟩ : ByteArray), .string (⟨#[]⟩ : ByteArray)]) ?_ 3 _ rfl; (with_reducible repeat (first | refine blk_drewN ?_ _ | refine blk_drew ?_ | refine blk_alloc ?_ _)); refine blk_put (cs := #[.string (rdOf ByteArray.empty l0 1), .bool ((rdOf ByteArray.empty l0 0).toList == ([102, 114, 111, 110, 116] : List UInt8)), .string (⟨#[]⟩ : ByteArray), .string (⟨#[]⟩ : ByteArray), .string (⟨#[]⟩ : ByteArray)]) ?_ 2 _ rfl; (with_reducible repeat (first | refine blk_drewN ?_ _ | refine blk_drew ?_ | refine blk_alloc ?_ _)); refine blk_put (cs := #[.string (rdOf ByteArray.empty l0 1), .bool false, .string (⟨#[]⟩ : ByteArray), .string (⟨#[]⟩ : ByteArray), .string (⟨#[]⟩ : ByteArray)]) ?_ 1 _ rfl; (with_reducible repeat (first | refine blk_drewN ?_ _ | refine blk_drew ?_ | refine blk_alloc ?_ _)); refine blk_put (cs := #[.string (⟨#[]⟩ : ByteArray), .bool false, .string (⟨#[]⟩ : ByteArray), .string (⟨#[]⟩ : ByteArray), .string (⟨#[]⟩ : ByteArray)]) ?_ 0 _ rfl; (with_reducible repeat (first | refine blk_drewN ?_ _ | refine blk_drew ?_ | refine blk_alloc ?_ _)); exact BK131.out) Tryd.underlying40 rfl (by kernel_rfl)) rfl ?_
 exact ⟨eq_, bel1 GE131.out⟩

/-! ### spec_l2EntryGet: function 18 -/
def spec_l2EntryGet.j0 : Nat → List ByteArray → Bool → Option (ByteArray × ByteArray × Bool)
 | 0, _, _ => none
 | k + 1, x4, x21 => if x21 = true then (some ((⟨#[]⟩ : ByteArray), (⟨#[]⟩ : ByteArray), false)) else (if 0 < (x4.length : Int) then (if (x4.length : Int) = 2 then (if 1 < (x4.length : Int) then ((spec_l2Entry.f k (rdOf ByteArray.empty x4 0) (rdOf ByteArray.empty x4 1)).bind fun t145 => (some (rdOf ByteArray.empty x4 0, rdOf ByteArray.empty x4 1, t145))) else (none)) else ((spec_l2Entry.f k (rdOf ByteArray.empty x4 0) (⟨#[]⟩ : ByteArray)).bind fun t146 => (some (rdOf ByteArray.empty x4 0, (⟨#[]⟩ : ByteArray), t146)))) else (none))
def spec_l2EntryGet.f (k : Nat) (a0 : ByteArray) : Option (ByteArray × ByteArray × Bool) := (spec_l1Cut.f k a0 47).bind fun t138 => (if (t138.length : Int) > 2 then (spec_l2EntryGet.j0 k t138 true) else (if (t138.length : Int) = 2 then (if 1 < (t138.length : Int) then (spec_l2EntryGet.j0 k t138 ((rdOf ByteArray.empty t138 1).toList == ([] : List UInt8))) else (none)) else (spec_l2EntryGet.j0 k t138 false)))
theorem spec_l2EntryGet.calls (k : Nat) (a0 : ByteArray) (r1 : ByteArray) (r2 : ByteArray) (r3 : Bool) (w : World) (h : spec_l2EntryGet.f k a0 = some (r1, r2, r3)) :
  Calls Tryd.prog 18 #[.string a0] w fun e w' => e = .returned (.tuple #[.agg #[.string r1, .string r2], .bool r3]) ∧ Below w.heap.size w w' := by
 have hu43 := Tryd.underlying43; have HB := am (Below.refl w.heap.size w)
 have H : ((spec_l1Cut.f k a0 47).bind fun t138 => (if (t138.length : Int) > 2 then (spec_l2EntryGet.j0 k t138 true) else (if (t138.length : Int) = 2 then (if 1 < (t138.length : Int) then (spec_l2EntryGet.j0 k t138 ((rdOf ByteArray.empty t138 1).toList == ([] : List UInt8))) else (none)) else (spec_l2EntryGet.j0 k t138 false)))) = some (r1, r2, r3) := h
 clear h; replace H := bs H; obtain ⟨t138, A20, H⟩ := H; replace H : (if (t138.length : Int) > 2 then (spec_l2EntryGet.j0 k t138 true) else (if (t138.length : Int) = 2 then (if 1 < (t138.length : Int) then (spec_l2EntryGet.j0 k t138 ((rdOf ByteArray.empty t138 1).toList == ([] : List UInt8))) else (none)) else (spec_l2EntryGet.j0 k t138 false))) = some (r1, r2, r3) := H; have A2 := Aside0.mk A20; clear A20; have HC3 := am H; clear H; go_enter Tryd.func18, Tryd.ntmps18
 go_upto_region 2 with (first | ((with_reducible refine gate_dst (N := 2) rfl ?_); (try (refine gate_guard (by rfl) ?_; dsimp only)); refine bx 2 (cs := #[.string (⟨#[]⟩ : ByteArray), .string (⟨#[]⟩ : ByteArray)]) (t := 43) ?_; intro gb137 hg w4 hbox hb; have BK137 := am (hbox); have GW137 := am ((b19_ : w.heap.size ≤ gb137)); have GE137 := am ((b19_ : w.heap.size ≤ gb137)); replace HB := am (below_step bel hb); clear hb hbox hg) | ((with_reducible refine gate_callee (f := 16) rfl ?_); refine goesL_ (some 7) rfl rfl Tryd.func16 (by kernel_rfl) rfl #[.string a0, .int .u8 47] rfl mq ?_; (with_reducible refine (spec_l1Cut.calls k a0 47 t138 _ A2.out).mono ?_); rintro e w5 ⟨v139, rfl, ho0, hb⟩; refine ⟨_, rfl, ?_⟩; have HO140 := am (Kd.R_lower ho0 (below_size (bel1 GE137.out))); replace BK137 := am (blk_below (g := gb137) (o := .cells #[.string (⟨#[]⟩ : ByteArray), .string (⟨#[]⟩ : ByteArray)] 43 (0, 0)) (bq BK137.out) hb); replace HB := am (below_step (bel1 GE137.out) hb); (try clear hb); (try clear hb2); (try clear hk); (try clear hi); (try clear ho0)))
 (try simp only [Act.put, List.setIfInBounds_toArray, List.set_cons_zero, List.set_cons_succ])
 go_cut [21] (fun v21 wc => ∃ (kq : Nat) (x21_2 : Bool), v21 = .bool x21_2 ∧ Aside0 (spec_l2EntryGet.j0 kq t138 x21_2 = some (r1, r2, r3)) ∧ Aside0 (kq ≤ k) ∧ Aside0 (Kd.R Kd.string 9 wc w.heap.size (fun _ => True) v139 t138) ∧ Aside0 (wc.heap[gb137]? = some (.cells #[.string (⟨#[]⟩ : ByteArray), .string (⟨#[]⟩ : ByteArray)] 43 (0, 0))) ∧ Aside0 (Below w.heap.size w wc))
 case first =>
  have H := HC3.out; clear HC3
  by_cases c6 : (t138.length : Int) > 2
  ·rw [if_pos c6] at H; have c6b0 := decide_eq_true c6
   have c6b1 : decide (2 < t138.length) = true := decide_eq_true (by omega)
   clear c6
   (first | rw [c6b0] | (simp only [i64_w, i32_w]; rw [c6b0]) | skip)
   have H' := am H
   clear H; obtain ⟨Ao7, co7, eo7⟩ := Kd.R_slice HO140.out; subst eo7; go_wp2
   go_meet
   case rel => exact ⟨_, (true), sq, H', ⟨b69_⟩, ⟨rq HO140.out⟩, ⟨bq BK137.out⟩, ⟨bel1 GE137.out⟩⟩
  rw [if_neg c6] at H; have c6b0 := decide_eq_false c6
  have c6b1 : decide (2 < t138.length) = false := decide_eq_false (by omega)
  clear c6
  (first | rw [c6b0] | (simp only [i64_w, i32_w]; rw [c6b0]) | skip)
  by_cases c8 : (t138.length : Int) = 2
  ·rw [if_pos c8] at H
   have c8b0 : ((t138.length : Int) == 2) = true := beq_iff_eq.mpr c8
   have c8b1 : ((t138.length : Int) != 2) = false := bne_eq_false_iff_eq.mpr c8
   clear c8
   replace H := ip H; obtain ⟨c9, H⟩ := H; have c9b0 := decide_eq_true c9
   have c9b1 : decide (1 < t138.length) = true := decide_eq_true (by omega)
   clear c9
   have H' := am H
   clear H; obtain ⟨Ao10, co10, eo10⟩ := Kd.R_slice HO140.out; subst eo10
   have p141 : 0 ≤ (1 : Int) := (by omega)
   have q141 : 1 < (t138.length : Int) := of_decide_eq_true ad
   obtain ⟨ad141, e141, hx141_0⟩ := Kd.at_string (Kd.R_reads' HO140.out).2.2 1 p141 q141
   cases e141
   (try simp only [show (1 : Int).toNat = 1 from rfl, Nat.reduceMul, Nat.reduceEqDiff, Go.Addr.add, ↓reduceIte] at hx141_0)
   have qi141 : (1 < t138.length) = True := eq_true (by omega)
   (try rw [show ((1 : Int)).toNat = 1 from rfl] at hx141_0)
   replace p141 := eq_true p141; replace q141 := eq_true q141; go_wp2
   go_meet
   case rel => exact ⟨_, (((rdOf ByteArray.empty t138 1).toList == ([] : List UInt8))), sq, H', ⟨b69_⟩, ⟨rq HO140.out⟩, ⟨bq BK137.out⟩, ⟨bel1 GE137.out⟩⟩
  rw [if_neg c8] at H
  have c8b0 : ((t138.length : Int) == 2) = false := beq_eq_false_iff_ne.mpr c8
  have c8b1 : ((t138.length : Int) != 2) = true := bne_iff_ne.mpr c8
  have H' := am H
  clear H; obtain ⟨Ao11, co11, eo11⟩ := Kd.R_slice HO140.out; subst eo11; go_wp2
  go_meet
  case rel => exact ⟨_, (false), sq, H', ⟨b69_⟩, ⟨rq HO140.out⟩, ⟨bq BK137.out⟩, ⟨bel1 GE137.out⟩⟩
 case rest =>
  clear HC3; (try clear c1); (try clear p1); (try clear q1); (try clear hx1); (try clear qi1); (try clear p2); (try clear c6); (try clear c6b0); (try clear c6b1); (try clear c8); (try clear c8b0); (try clear c8b1); (try clear c9); (try clear c9b0); (try clear c9b1); (try clear hx141_0); (try clear p141); (try clear q141); obtain ⟨kq, x21_2, rfl, HA, HJ2, HO_4, BK137, HB⟩ := hcut
  cases kq with
  | zero => exact absurd HA.out (by simp [spec_l2EntryGet.j0])
  | succ kj2 =>
   have H := HA.out; clear HA
   simp only [spec_l2EntryGet.j0] at H
   by_cases c12 : x21_2 = true
   ·subst c12
    have H1 : (some ((⟨#[]⟩ : ByteArray), (⟨#[]⟩ : ByteArray), false)) = some (r1, r2, r3) := b47_
    replace H := H1; clear H1
    simp only [Option.some.injEq, Prod.mk.injEq] at H
    obtain ⟨rfl, rfl, rfl⟩ := H; have hcz13_0 := bc BK137.out 0; have hcz13_1 := bc BK137.out 1; have hfz13_0 := bf BK137.out 0; have hfz13_1 := bf BK137.out 1; go_wp2
    refine bodyPost_ret (results_ct rfl _ _ gb137 43 #[.string (⟨#[]⟩ : ByteArray), .string (⟨#[]⟩ : ByteArray)] (0, 0) _ rfl (by (with_reducible repeat (first | refine blk_drewN ?_ _ | refine blk_drew ?_ | refine blk_alloc ?_ _)); refine blk_put (cs := #[.string (⟨#[]⟩ : ByteArray), .string (⟨#[]⟩ : ByteArray)]) ?_ 1 _ rfl; (with_reducible repeat (first | refine blk_drewN ?_ _ | refine blk_drew ?_ | refine blk_alloc ?_ _)); refine blk_put (cs := #[.string (⟨#[]⟩ : ByteArray), .string (⟨#[]⟩ : ByteArray)]) ?_ 0 _ rfl; (with_reducible repeat (first | refine blk_drewN ?_ _ | refine blk_drew ?_ | refine blk_alloc ?_ _)); exact BK137.out) Tryd.underlying43 rfl (by kernel_rfl)) rfl ?_
    exact ⟨eq_, bel1 GE137.out⟩
   replace c12 := Bool.eq_false_iff.mpr c12; subst c12
   have H1 : (if 0 < (t138.length : Int) then (if (t138.length : Int) = 2 then (if 1 < (t138.length : Int) then ((spec_l2Entry.f kj2 (rdOf ByteArray.empty t138 0) (rdOf ByteArray.empty t138 1)).bind fun t145 => (some (rdOf ByteArray.empty t138 0, rdOf ByteArray.empty t138 1, t145))) else (none)) else ((spec_l2Entry.f kj2 (rdOf ByteArray.empty t138 0) (⟨#[]⟩ : ByteArray)).bind fun t146 => (some (rdOf ByteArray.empty t138 0, (⟨#[]⟩ : ByteArray), t146)))) else (none)) = some (r1, r2, r3) := b22_
   replace H := H1; clear H1
   replace H := ip H; obtain ⟨c14, H⟩ := H; have c14b0 := decide_eq_true c14
   have c14b1 : decide (0 < t138.length) = true := decide_eq_true (by omega)
   clear c14
   by_cases c15 : (t138.length : Int) = 2
   ·rw [if_pos c15] at H
    have c15b0 : ((t138.length : Int) == 2) = true := beq_iff_eq.mpr c15
    have c15b1 : ((t138.length : Int) != 2) = false := bne_eq_false_iff_eq.mpr c15
    clear c15
    replace H := ip H; obtain ⟨c16, H⟩ := H; have c16b0 := decide_eq_true c16
    have c16b1 : decide (1 < t138.length) = true := decide_eq_true (by omega)
    clear c16; replace H := bs H; obtain ⟨t145, A170, H⟩ := H; replace H : (some (rdOf ByteArray.empty t138 0, rdOf ByteArray.empty t138 1, t145)) = some (r1, r2, r3) := H; have A17 := Aside0.mk A170; clear A170
    simp only [Option.some.injEq, Prod.mk.injEq] at H
    obtain ⟨rfl, rfl, rfl⟩ := H; obtain ⟨Ao18, co18, eo18⟩ := Kd.R_slice HO_4.out; subst eo18
    have p142 : 0 ≤ (0 : Int) := (by omega)
    have q142 : 0 < (t138.length : Int) := of_decide_eq_true ad
    obtain ⟨ad142, e142, hx142_0⟩ := Kd.at_string (Kd.R_reads' HO_4.out).2.2 0 p142 q142
    cases e142
    have qi142 : (0 < t138.length) = True := eq_true (by omega)
    (try rw [show ((0 : Int)).toNat = 0 from rfl] at hx142_0)
    (try rw [Addr.add_zero'] at hx142_0)
    replace p142 := eq_true p142; replace q142 := eq_true q142
    try go_wp2_with (first | ((with_reducible refine gate_dst (N := 5) rfl ?_); (try (refine gate_guard (by rfl) ?_; dsimp only)); refine bx 5 (cs := #[.string (⟨#[]⟩ : ByteArray), .string (⟨#[]⟩ : ByteArray)]) (t := 43) ?_; intro gb143 hg w19 hbox hb; replace HO_4 := am (Kd.R_below (rq HO_4.out) hb); have BK143 := am (hbox); have GW143 := am ((b95_ : w.heap.size ≤ gb143)); have GE143 := am ((b95_ : w.heap.size ≤ gb143)); replace HB := am (below_step (bel1 GE137.out) hb); have NB137_143 := am ((b88_ : gb137 ≠ gb143)); have NB143_137 := am ((b89_ : gb143 ≠ gb137)); replace BK137 := am (blk_below (g := gb137) (o := .cells #[.string (⟨#[]⟩ : ByteArray), .string (⟨#[]⟩ : ByteArray)] 43 (0, 0)) (bq BK137.out) hb); clear hb hbox hg; have hnb20 := NB143_137.out; have hnc20 := NB137_143.out; have hcz21_0 := bc BK143.out 0; have hcz21_1 := bc BK143.out 1; have hfz21_0 := bf BK143.out 0; have hfz21_1 := bf BK143.out 1; have p144 : 0 ≤ (1 : Int) := (by omega); have q144 : 1 < (t138.length : Int) := of_decide_eq_true ad; obtain ⟨ad144, e144, hx144_0⟩ := Kd.at_string (Kd.R_reads' HO_4.out).2.2 1 p144 q144; obtain rfl : ad142 = ad144 := (by injection e144); (try simp only [show (1 : Int).toNat = 1 from rfl, Nat.reduceMul, Nat.reduceEqDiff, Go.Addr.add, ↓reduceIte] at hx144_0); have qi144 : (1 < t138.length) = True := eq_true (by omega); (try rw [show ((1 : Int)).toNat = 1 from rfl] at hx144_0); have hn144_0 : ad142.block ≠ gb143 := Kd.own_blk (Kd.R_ne HO_4.out BK143.out (by decide)); have hn144_1 : ad142.block ≠ gb143 := Kd.own_blk (Kd.R_ne HO_4.out BK143.out (by decide)); replace hx144_0 := (cell_far (p := ⟨gb143, 0, none⟩) (by first | (rw [add_block]; exact hn144_0) | (show (Addr.add _ _).block ≠ _; rw [add_block]; exact hn144_0) | exact hn144_0) (.string (rdOf ByteArray.empty t138 0))).trans hx144_0; replace hx144_0 := (cell_far (p := ⟨gb143, 1, none⟩) (by first | (rw [add_block]; exact hn144_1) | (show (Addr.add _ _).block ≠ _; rw [add_block]; exact hn144_1) | exact hn144_1) (.string (⟨#[]⟩ : ByteArray))).trans hx144_0; clear hn144_0; clear hn144_1; replace p144 := eq_true p144; replace q144 := eq_true q144))
    have n0_ : Aside0 (Kd.R Kd.string 9 (((w19.setCell ⟨gb143, 0, none⟩ (.string (rdOf ByteArray.empty t138 0))).setCell ⟨gb143, 1, none⟩ (.string (⟨#[]⟩ : ByteArray))).setCell ⟨gb143, 1, none⟩ (.string (rdOf ByteArray.empty t138 1))) w.heap.size (fun _ => True) (.slice (some ad142) t138.length co18) t138) := ⟨rq (Kd.R_mono (Kd.R_far (p := ⟨gb143, 1, none⟩) (Kd.R_far (p := ⟨gb143, 1, none⟩) (Kd.R_far (p := ⟨gb143, 0, none⟩) (Kd.R_types HO_4.out BK143.out (by decide)) (fun _ hk => hk.2) (.string (rdOf ByteArray.empty t138 0))) (fun _ hk => hk.2) (.string (⟨#[]⟩ : ByteArray))) (fun _ hk => hk.2) (.string (rdOf ByteArray.empty t138 1))) (fun _ hk => trivial))⟩
    have n1_ : Aside0 ((((w19.setCell ⟨gb143, 0, none⟩ (.string (rdOf ByteArray.empty t138 0))).setCell ⟨gb143, 1, none⟩ (.string (⟨#[]⟩ : ByteArray))).setCell ⟨gb143, 1, none⟩ (.string (rdOf ByteArray.empty t138 1))).heap[gb137]? = some (.cells #[.string (⟨#[]⟩ : ByteArray), .string (⟨#[]⟩ : ByteArray)] 43 (0, 0))) := ⟨by (with_reducible repeat (first | refine blk_drewN ?_ _ | refine blk_drew ?_ | refine blk_alloc ?_ _)); refine blk_far ?_ NB137_143.out _; (with_reducible repeat (first | refine blk_drewN ?_ _ | refine blk_drew ?_ | refine blk_alloc ?_ _)); refine blk_far ?_ NB137_143.out _; (with_reducible repeat (first | refine blk_drewN ?_ _ | refine blk_drew ?_ | refine blk_alloc ?_ _)); refine blk_far ?_ NB137_143.out _; (with_reducible repeat (first | refine blk_drewN ?_ _ | refine blk_drew ?_ | refine blk_alloc ?_ _)); exact BK137.out⟩
    have n2_ : Aside0 ((((w19.setCell ⟨gb143, 0, none⟩ (.string (rdOf ByteArray.empty t138 0))).setCell ⟨gb143, 1, none⟩ (.string (⟨#[]⟩ : ByteArray))).setCell ⟨gb143, 1, none⟩ (.string (rdOf ByteArray.empty t138 1))).heap[gb143]? = some (.cells #[.string (rdOf ByteArray.empty t138 0), .string (rdOf ByteArray.empty t138 1)] 43 (0, 0))) := ⟨by (with_reducible repeat (first | refine blk_drewN ?_ _ | refine blk_drew ?_ | refine blk_alloc ?_ _)); refine blk_put (cs := #[.string (rdOf ByteArray.empty t138 0), .string (⟨#[]⟩ : ByteArray)]) ?_ 1 _ rfl; (with_reducible repeat (first | refine blk_drewN ?_ _ | refine blk_drew ?_ | refine blk_alloc ?_ _)); refine blk_put (cs := #[.string (rdOf ByteArray.empty t138 0), .string (⟨#[]⟩ : ByteArray)]) ?_ 1 _ rfl; (with_reducible repeat (first | refine blk_drewN ?_ _ | refine blk_drew ?_ | refine blk_alloc ?_ _)); refine blk_put (cs := #[.string (⟨#[]⟩ : ByteArray), .string (⟨#[]⟩ : ByteArray)]) ?_ 0 _ rfl; (with_reducible repeat (first | refine blk_drewN ?_ _ | refine blk_drew ?_ | refine blk_alloc ?_ _)); exact BK143.out⟩
    have n3_ : Aside0 (Below w.heap.size w (((w19.setCell ⟨gb143, 0, none⟩ (.string (rdOf ByteArray.empty t138 0))).setCell ⟨gb143, 1, none⟩ (.string (⟨#[]⟩ : ByteArray))).setCell ⟨gb143, 1, none⟩ (.string (rdOf ByteArray.empty t138 1)))) := ⟨bel2 GE137.out GE143.out⟩
    (try clear HO_4)
    (try clear BK137)
    (try clear BK143)
    (try clear HB)
    generalize (((w19.setCell ⟨gb143, 0, none⟩ (.string (rdOf ByteArray.empty t138 0))).setCell ⟨gb143, 1, none⟩ (.string (⟨#[]⟩ : ByteArray))).setCell ⟨gb143, 1, none⟩ (.string (rdOf ByteArray.empty t138 1))) = w22 at n0_ n1_ n2_ n3_ ⊢
    have HO_4 := n0_; have BK137 := n1_; have BK143 := n2_; have HB := n3_; clear n0_ n1_ n2_ n3_; replace HO_4 := am (Kd.R_drew HO_4.out); replace BK137 := am (blk_drew BK137.out); replace BK143 := am (blk_drew BK143.out); replace HB := am (below_drew1 HB.out)
    refine st (n := 5) (S := fun w' => w'.cell? ⟨gb143, 0, none⟩ = some (.string (rdOf ByteArray.empty t138 0)) ∧ w'.cell? ⟨gb143, 1, none⟩ = some (.string (rdOf ByteArray.empty t138 1))) (ds := []) ⟨(blk_cell BK143.out 0).trans rfl, (blk_cell BK143.out 1).trans rfl⟩ (fun hHeld => ?_)
    generalize w22.drew = w23 at HO_4 BK137 BK143 HB hHeld ⊢
    refine kk2 0 34 hHeld ?_
    refine kk2 1 35 hHeld ?_
    refine ok1 2 36 (fun K hK => ?_)
    refine goes_ Tryd.func35 (by kernel_rfl) rfl #[.agg #[.string (rdOf ByteArray.empty t138 0), .string (rdOf ByteArray.empty t138 1)]] (by rfl) rfl rfl mq ?_
    with_reducible refine (spec_l2Entry.calls kj2 (rdOf ByteArray.empty t138 0) (rdOf ByteArray.empty t138 1) t145 _ A17.out).mono ?_
    rintro e w24 ⟨rfl, hb⟩
    refine ⟨_, rfl, ?_⟩
    replace HO_4 := am (Kd.R_below (rq HO_4.out) hb); replace BK137 := am (blk_below (g := gb137) (o := .cells #[.string (⟨#[]⟩ : ByteArray), .string (⟨#[]⟩ : ByteArray)] 43 (0, 0)) (bq BK137.out) hb); replace BK143 := am (blk_below (g := gb143) (o := .cells #[.string (rdOf ByteArray.empty t138 0), .string (rdOf ByteArray.empty t138 1)] 43 (0, 0)) (bq BK143.out) hb); replace HB := am (below_step (bel2 GE137.out GE143.out) hb)
    (try clear hb)
    (try clear hb2)
    (try clear hk)
    (try clear hi)
    refine hK.out _ _ ⟨(blk_cell BK143.out 0).trans rfl, (blk_cell BK143.out 1).trans rfl⟩ (fun hHeld => ?_)
    clear hK K
    refine norm_ (a' := ?_) ?_ ?_
    rotate_left
    ·show Act.put _ (some 36) _ = _
     simp only [Act.put, List.setIfInBounds_toArray, List.set_cons_zero, List.set_cons_succ, i64_w, i32_w]
     rfl
    refine one_ (i := 3) (N := none) #[true, true, true, true, false] rfl rfl (by kernel_rfl) (by decide) (fun K hK => ?_)
    have hs25 : w24.cell? ⟨gb137, 0, none⟩ = some (.string (⟨#[]⟩ : ByteArray)) := (blk_cell BK137.out 0).trans rfl
    have hfs25 := bf BK137.out 0; have hns25_1 := NB143_137.out; have hms25_1 := NB137_143.out
    have hs26 : w24.cell? ⟨gb137, 1, none⟩ = some (.string (⟨#[]⟩ : ByteArray)) := (blk_cell BK137.out 1).trans rfl
    have hfs26 := bf BK137.out 1; have hns26_1 := NB143_137.out; have hms26_1 := NB137_143.out
    refine skip_ (w1 := ?_) (by rfl) rfl ?_ ?_
    rotate_left
    ·go_simp
     rfl
    refine hK.out _ _ ⟨((cell_far (p := ⟨gb137, _, none⟩) NB143_137.out _).trans (((cell_far (p := ⟨gb137, _, none⟩) NB143_137.out _).trans (hHeld.1)))), ((cell_far (p := ⟨gb137, _, none⟩) NB143_137.out _).trans (((cell_far (p := ⟨gb137, _, none⟩) NB143_137.out _).trans (hHeld.2))))⟩ (fun hHeld => ?_)
    clear hK K
    refine pk 4 3 ?_
    refine done_ (by kernel_rfl) ?_
    try go_wp2
    refine bodyPost_ret (results_ct rfl _ _ gb137 43 #[.string (rdOf ByteArray.empty t138 0), .string (rdOf ByteArray.empty t138 1)] (0, 0) _ rfl b50_ Tryd.underlying43 rfl (by kernel_rfl)) rfl ?_
    exact ⟨eq_, bel2 GE137.out GE143.out⟩
   rw [if_neg c15] at H
   have c15b0 : ((t138.length : Int) == 2) = false := beq_eq_false_iff_ne.mpr c15
   have c15b1 : ((t138.length : Int) != 2) = true := bne_iff_ne.mpr c15
   replace H := bs H; obtain ⟨t146, A270, H⟩ := H; replace H : (some (rdOf ByteArray.empty t138 0, (⟨#[]⟩ : ByteArray), t146)) = some (r1, r2, r3) := H; have A27 := Aside0.mk A270; clear A270
   simp only [Option.some.injEq, Prod.mk.injEq] at H
   obtain ⟨rfl, rfl, rfl⟩ := H; obtain ⟨Ao28, co28, eo28⟩ := Kd.R_slice HO_4.out; subst eo28
   have p142 : 0 ≤ (0 : Int) := (by omega)
   have q142 : 0 < (t138.length : Int) := of_decide_eq_true ad
   obtain ⟨ad142, e142, hx142_0⟩ := Kd.at_string (Kd.R_reads' HO_4.out).2.2 0 p142 q142
   cases e142
   have qi142 : (0 < t138.length) = True := eq_true (by omega)
   (try rw [show ((0 : Int)).toNat = 0 from rfl] at hx142_0)
   (try rw [Addr.add_zero'] at hx142_0)
   replace p142 := eq_true p142; replace q142 := eq_true q142
   try go_wp2_with (first | ((with_reducible refine gate_dst (N := 5) rfl ?_); (try (refine gate_guard (by rfl) ?_; dsimp only)); refine bx 5 (cs := #[.string (⟨#[]⟩ : ByteArray), .string (⟨#[]⟩ : ByteArray)]) (t := 43) ?_; intro gb143 hg w29 hbox hb; replace HO_4 := am (Kd.R_below (rq HO_4.out) hb); have BK143 := am (hbox); have GW143 := am ((b95_ : w.heap.size ≤ gb143)); have GE143 := am ((b95_ : w.heap.size ≤ gb143)); replace HB := am (below_step (bel1 GE137.out) hb); have NB137_143 := am ((b88_ : gb137 ≠ gb143)); have NB143_137 := am ((b89_ : gb143 ≠ gb137)); replace BK137 := am (blk_below (g := gb137) (o := .cells #[.string (⟨#[]⟩ : ByteArray), .string (⟨#[]⟩ : ByteArray)] 43 (0, 0)) (bq BK137.out) hb); clear hb hbox hg; have hnb30 := NB143_137.out; have hnc30 := NB137_143.out; have hcz31_0 := bc BK143.out 0; have hcz31_1 := bc BK143.out 1; have hfz31_0 := bf BK143.out 0; have hfz31_1 := bf BK143.out 1))
   have n0_ : Aside0 (Kd.R Kd.string 9 ((w29.setCell ⟨gb143, 0, none⟩ (.string (rdOf ByteArray.empty t138 0))).setCell ⟨gb143, 1, none⟩ (.string (⟨#[]⟩ : ByteArray))) w.heap.size (fun _ => True) (.slice (some ad142) t138.length co28) t138) := ⟨rq (Kd.R_mono (Kd.R_far (p := ⟨gb143, 1, none⟩) (Kd.R_far (p := ⟨gb143, 0, none⟩) (Kd.R_types HO_4.out BK143.out (by decide)) (fun _ hk => hk.2) (.string (rdOf ByteArray.empty t138 0))) (fun _ hk => hk.2) (.string (⟨#[]⟩ : ByteArray))) (fun _ hk => trivial))⟩
   have n1_ : Aside0 (((w29.setCell ⟨gb143, 0, none⟩ (.string (rdOf ByteArray.empty t138 0))).setCell ⟨gb143, 1, none⟩ (.string (⟨#[]⟩ : ByteArray))).heap[gb137]? = some (.cells #[.string (⟨#[]⟩ : ByteArray), .string (⟨#[]⟩ : ByteArray)] 43 (0, 0))) := ⟨by (with_reducible repeat (first | refine blk_drewN ?_ _ | refine blk_drew ?_ | refine blk_alloc ?_ _)); refine blk_far ?_ NB137_143.out _; (with_reducible repeat (first | refine blk_drewN ?_ _ | refine blk_drew ?_ | refine blk_alloc ?_ _)); refine blk_far ?_ NB137_143.out _; (with_reducible repeat (first | refine blk_drewN ?_ _ | refine blk_drew ?_ | refine blk_alloc ?_ _)); exact BK137.out⟩
   have n2_ : Aside0 (((w29.setCell ⟨gb143, 0, none⟩ (.string (rdOf ByteArray.empty t138 0))).setCell ⟨gb143, 1, none⟩ (.string (⟨#[]⟩ : ByteArray))).heap[gb143]? = some (.cells #[.string (rdOf ByteArray.empty t138 0), .string (⟨#[]⟩ : ByteArray)] 43 (0, 0))) := ⟨by (with_reducible repeat (first | refine blk_drewN ?_ _ | refine blk_drew ?_ | refine blk_alloc ?_ _)); refine blk_put (cs := #[.string (rdOf ByteArray.empty t138 0), .string (⟨#[]⟩ : ByteArray)]) ?_ 1 _ rfl; (with_reducible repeat (first | refine blk_drewN ?_ _ | refine blk_drew ?_ | refine blk_alloc ?_ _)); refine blk_put (cs := #[.string (⟨#[]⟩ : ByteArray), .string (⟨#[]⟩ : ByteArray)]) ?_ 0 _ rfl; (with_reducible repeat (first | refine blk_drewN ?_ _ | refine blk_drew ?_ | refine blk_alloc ?_ _)); exact BK143.out⟩
   have n3_ : Aside0 (Below w.heap.size w ((w29.setCell ⟨gb143, 0, none⟩ (.string (rdOf ByteArray.empty t138 0))).setCell ⟨gb143, 1, none⟩ (.string (⟨#[]⟩ : ByteArray)))) := ⟨bel2 GE137.out GE143.out⟩
   (try clear HO_4)
   (try clear BK137)
   (try clear BK143)
   (try clear HB)
   generalize ((w29.setCell ⟨gb143, 0, none⟩ (.string (rdOf ByteArray.empty t138 0))).setCell ⟨gb143, 1, none⟩ (.string (⟨#[]⟩ : ByteArray))) = w32 at n0_ n1_ n2_ n3_ ⊢
   have HO_4 := n0_; have BK137 := n1_; have BK143 := n2_; have HB := n3_; clear n0_ n1_ n2_ n3_; replace HO_4 := am (Kd.R_drew HO_4.out); replace BK137 := am (blk_drew BK137.out); replace BK143 := am (blk_drew BK143.out); replace HB := am (below_drew1 HB.out)
   refine st (n := 5) (S := fun w' => w'.cell? ⟨gb143, 0, none⟩ = some (.string (rdOf ByteArray.empty t138 0)) ∧ w'.cell? ⟨gb143, 1, none⟩ = some (.string (⟨#[]⟩ : ByteArray))) (ds := []) ⟨(blk_cell BK143.out 0).trans rfl, (blk_cell BK143.out 1).trans rfl⟩ (fun hHeld => ?_)
   generalize w32.drew = w33 at HO_4 BK137 BK143 HB hHeld ⊢
   refine kk2 0 34 hHeld ?_
   refine kk2 1 35 hHeld ?_
   refine ok1 2 36 (fun K hK => ?_)
   refine goes_ Tryd.func35 (by kernel_rfl) rfl #[.agg #[.string (rdOf ByteArray.empty t138 0), .string (⟨#[]⟩ : ByteArray)]] (by rfl) rfl rfl mq ?_
   with_reducible refine (spec_l2Entry.calls kj2 (rdOf ByteArray.empty t138 0) (⟨#[]⟩ : ByteArray) t146 _ A27.out).mono ?_
   rintro e w34 ⟨rfl, hb⟩
   refine ⟨_, rfl, ?_⟩
   replace HO_4 := am (Kd.R_below (rq HO_4.out) hb); replace BK137 := am (blk_below (g := gb137) (o := .cells #[.string (⟨#[]⟩ : ByteArray), .string (⟨#[]⟩ : ByteArray)] 43 (0, 0)) (bq BK137.out) hb); replace BK143 := am (blk_below (g := gb143) (o := .cells #[.string (rdOf ByteArray.empty t138 0), .string (⟨#[]⟩ : ByteArray)] 43 (0, 0)) (bq BK143.out) hb); replace HB := am (below_step (bel2 GE137.out GE143.out) hb)
   (try clear hb)
   (try clear hb2)
   (try clear hk)
   (try clear hi)
   refine hK.out _ _ ⟨(blk_cell BK143.out 0).trans rfl, (blk_cell BK143.out 1).trans rfl⟩ (fun hHeld => ?_)
   clear hK K
   refine norm_ (a' := ?_) ?_ ?_
   rotate_left
   ·show Act.put _ (some 36) _ = _
    simp only [Act.put, List.setIfInBounds_toArray, List.set_cons_zero, List.set_cons_succ, i64_w, i32_w]
    rfl
   refine one_ (i := 3) (N := none) #[true, true, true, true, false] rfl rfl (by kernel_rfl) (by decide) (fun K hK => ?_)
   have hs35 : w34.cell? ⟨gb137, 0, none⟩ = some (.string (⟨#[]⟩ : ByteArray)) := (blk_cell BK137.out 0).trans rfl
   have hfs35 := bf BK137.out 0; have hns35_1 := NB143_137.out; have hms35_1 := NB137_143.out
   have hs36 : w34.cell? ⟨gb137, 1, none⟩ = some (.string (⟨#[]⟩ : ByteArray)) := (blk_cell BK137.out 1).trans rfl
   have hfs36 := bf BK137.out 1; have hns36_1 := NB143_137.out; have hms36_1 := NB137_143.out
   refine skip_ (w1 := ?_) (by rfl) rfl ?_ ?_
   rotate_left
   ·go_simp
    rfl
   refine hK.out _ _ ⟨((cell_far (p := ⟨gb137, _, none⟩) NB143_137.out _).trans (((cell_far (p := ⟨gb137, _, none⟩) NB143_137.out _).trans (hHeld.1)))), ((cell_far (p := ⟨gb137, _, none⟩) NB143_137.out _).trans (((cell_far (p := ⟨gb137, _, none⟩) NB143_137.out _).trans (hHeld.2))))⟩ (fun hHeld => ?_)
   clear hK K
   refine pk 4 3 ?_
   refine done_ (by kernel_rfl) ?_
   try go_wp2
   refine bodyPost_ret (results_ct rfl _ _ gb137 43 #[.string (rdOf ByteArray.empty t138 0), .string (⟨#[]⟩ : ByteArray)] (0, 0) _ rfl b50_ Tryd.underlying43 rfl (by kernel_rfl)) rfl ?_
   exact ⟨eq_, bel2 GE137.out GE143.out⟩
-- shrunk

/-! ### spec_l2AffixPut: function 39 -/
/-- The words of an affix. -/
def spec_l2AffixPut.f (a0_0 : ByteArray) (a0_1 : Bool) (a0_2 : ByteArray) (a0_3 : ByteArray) (a0_4 : ByteArray) : Option ByteArray :=
 if a0_0.size + a0_2.size + a0_3.size + a0_4.size ≤ 1000000000 then some ((((((((((if a0_1 = true then (⟨#[102, 114, 111, 110, 116]⟩ : ByteArray) else ⟨#[101, 110, 100]⟩) ++ ⟨#[32]⟩) ++ a0_0) ++ ⟨#[32]⟩) ++ a0_2) ++ ⟨#[32]⟩) ++ a0_3) ++ ⟨#[32]⟩) ++ a0_4)) else none
set_option maxHeartbeats 1000000 in
set_option maxRecDepth 100000 in
theorem spec_l2AffixPut.calls (a0_0 : ByteArray) (a0_1 : Bool) (a0_2 : ByteArray) (a0_3 : ByteArray) (a0_4 : ByteArray) (r : ByteArray) (w : World) (h : spec_l2AffixPut.f a0_0 a0_1 a0_2 a0_3 a0_4 = some r) :
  Calls Tryd.prog 39 #[.agg #[.string a0_0, .bool a0_1, .string a0_2, .string a0_3, .string a0_4]] w fun e w' => e = .returned (.string r) ∧ Below w.heap.size w w' := by
 unfold spec_l2AffixPut.f at h
 split at h
 case isFalse => cases h
 rename_i hsz; obtain rfl := Option.some.inj h; clear h
 have e1 : (⟨#[32]⟩ : ByteArray).size = 1 := rfl
 have e5 : (⟨#[102, 114, 111, 110, 116]⟩ : ByteArray).size = 5 := rfl
 have e3 : (⟨#[101, 110, 100]⟩ : ByteArray).size = 3 := rfl
 cases a0_1 with
 | true =>
  go_enter Tryd.func39, Tryd.ntmps39; go_wp2
  all_goals first
   | (go_ret; exact ⟨rfl, (Below.refl _ w).alloc (Nat.le_refl _) _⟩)
   | (exfalso; simp only [ByteArray.size_append, e1, e5, e3] at *; omega)
   | (exfalso; simp at *; omega)
 | false =>
  go_enter Tryd.func39, Tryd.ntmps39; go_wp2
  all_goals first
   | (go_ret; exact ⟨rfl, (Below.refl _ w).alloc (Nat.le_refl _) _⟩)
   | (exfalso; simp only [ByteArray.size_append, e1, e5, e3] at *; omega)
   | (exfalso; simp at *; omega)

/-! ### spec_l2EntryPut: function 40 -/
def spec_l2EntryPut.f (a0_0 : ByteArray) (a0_1 : ByteArray) : Option (ByteArray) := if a0_1.toList = ([] : List UInt8) then (some a0_0) else (if a0_0.size + 1 ≤ 9223372036854775807 then (if (a0_0 ++ (⟨#[47]⟩ : ByteArray)).size + a0_1.size ≤ 9223372036854775807 then (some ((a0_0 ++ (⟨#[47]⟩ : ByteArray)) ++ a0_1)) else (none)) else (none))
theorem spec_l2EntryPut.calls (a0_0 : ByteArray) (a0_1 : ByteArray) (r : ByteArray) (w : World) (h : spec_l2EntryPut.f a0_0 a0_1 = some r) :
  Calls Tryd.prog 40 #[.agg #[.string a0_0, .string a0_1]] w fun e w' => e = .returned (.string r) ∧ Below w.heap.size w w' := by
 have hu43 := Tryd.underlying43; have HB := am (Below.refl w.heap.size w)
 have H : (if a0_1.toList = ([] : List UInt8) then (some a0_0) else (if a0_0.size + 1 ≤ 9223372036854775807 then (if (a0_0 ++ (⟨#[47]⟩ : ByteArray)).size + a0_1.size ≤ 9223372036854775807 then (some ((a0_0 ++ (⟨#[47]⟩ : ByteArray)) ++ a0_1)) else (none)) else (none))) = some r := h
 clear h
 by_cases c2 : a0_1.toList = ([] : List UInt8)
 ·rw [if_pos c2] at H
  have c2b0 : (a0_1.toList == ([] : List UInt8)) = true := beq_iff_eq.mpr c2
  have c2b1 : (a0_1.toList != ([] : List UInt8)) = false := bne_eq_false_iff_eq.mpr c2
  clear c2; obtain rfl := Option.some.inj H; go_enter Tryd.func40, Tryd.ntmps40
  go_wp2_with (first | ((with_reducible refine gate_dst (N := 1) rfl ?_); refine bx 1 (cs := #[.string a0_0, .string a0_1]) (t := 43) ?_; intro gb147 hg w3 hbox hb; have BK147 := am (hbox); have GW147 := am ((b19_ : w.heap.size ≤ gb147)); have GE147 := am ((b19_ : w.heap.size ≤ gb147)); replace HB := am (below_step bel hb); clear hb hbox hg; have hcz4_0 := bc BK147.out 0; have hcz4_1 := bc BK147.out 1; have hfz4_0 := bf BK147.out 0; have hfz4_1 := bf BK147.out 1))
  go_ret
  exact ⟨eq_, bel1 GE147.out⟩
 rw [if_neg c2] at H
 have c2b0 : (a0_1.toList == ([] : List UInt8)) = false := beq_eq_false_iff_ne.mpr c2
 have c2b1 : (a0_1.toList != ([] : List UInt8)) = true := bne_iff_ne.mpr c2
 replace H := ip H; obtain ⟨c5, H⟩ := H; have c5b0 := eq_true c5
 have c5b1 : decide (a0_0.size + 1 ≤ 9223372036854775807) = true := decide_eq_true c5
 try have c5b2 : (9223372036854775807 < a0_0.size + 1) = False := eq_false (Nat.not_lt.2 c5)
 replace H := ip H; obtain ⟨c6, H⟩ := H; have c6b0 := eq_true c6; have c6b5 := c6
 try simp at c6b5
 try have c6b4 := eq_false (Nat.not_lt.2 c6b5)
 have c6b7 := c6
 try simp only [ByteArray.size_append] at c6b7
 try have c6b8 := eq_false (Nat.not_lt.2 c6b7)
 try have c6b3 : (9223372036854775807 < a0_0.size + 1 + a0_1.size) = False := by
       have h_ := c6
       simp only [ByteArray.size_append] at h_
       have g0_ : (⟨#[47]⟩ : ByteArray).size = 1 := rfl
       exact eq_false (by omega)
 have c6b1 : decide ((a0_0 ++ (⟨#[47]⟩ : ByteArray)).size + a0_1.size ≤ 9223372036854775807) = true := decide_eq_true c6
 try have c6b2 : (9223372036854775807 < (a0_0 ++ (⟨#[47]⟩ : ByteArray)).size + a0_1.size) = False := eq_false (Nat.not_lt.2 c6)
 obtain rfl := Option.some.inj H; go_enter Tryd.func40, Tryd.ntmps40
 go_wp2_with (first | ((with_reducible refine gate_dst (N := 1) rfl ?_); refine bx 1 (cs := #[.string a0_0, .string a0_1]) (t := 43) ?_; intro gb147 hg w7 hbox hb; have BK147 := am (hbox); have GW147 := am ((b19_ : w.heap.size ≤ gb147)); have GE147 := am ((b19_ : w.heap.size ≤ gb147)); replace HB := am (below_step bel hb); clear hb hbox hg; have hcz8_0 := bc BK147.out 0; have hcz8_1 := bc BK147.out 1; have hfz8_0 := bf BK147.out 0; have hfz8_1 := bf BK147.out 1))
 go_ret
 exact ⟨eq_, bel1 GE147.out⟩

/-! ### spec_l2Put: function 19 -/
mutual
def spec_l2Put.l0 : Nat → ByteArray → Int → List (S40) → List (S43) → Option (ByteArray)
 | 0, _, _, _, _ => none
 | k + 1, x3, x4, x149000, x149001 => if x4 < (x149000.length : Int) then (if 0 ≤ x4 then ((spec_l2AffixPut.f ((rd_T40 x149000 x4).f0) ((rd_T40 x149000 x4).f1) ((rd_T40 x149000 x4).f2) ((rd_T40 x149000 x4).f3) ((rd_T40 x149000 x4).f4)).bind fun t150 => (if x3.size + t150.size ≤ 9223372036854775807 then (if (x3 ++ t150).size + 1 ≤ 9223372036854775807 then (spec_l2Put.l0 k ((x3 ++ t150) ++ (⟨#[10]⟩ : ByteArray)) (wrap64 (x4 + 1)) x149000 x149001) else (none)) else (none))) else (none)) else (spec_l2Put.l1 k x3 0 x149000 x149001)
def spec_l2Put.l1 : Nat → ByteArray → Int → List (S40) → List (S43) → Option (ByteArray)
 | 0, _, _, _, _ => none
 | k + 1, x3, x5, x149000, x149001 => if x5 < (x149001.length : Int) then (if 0 ≤ x5 then ((spec_l2EntryPut.f ((rd_T43 x149001 x5).f0) ((rd_T43 x149001 x5).f1)).bind fun t152 => (if x3.size + t152.size ≤ 9223372036854775807 then (if (x3 ++ t152).size + 1 ≤ 9223372036854775807 then (spec_l2Put.l1 k ((x3 ++ t152) ++ (⟨#[10]⟩ : ByteArray)) (wrap64 (x5 + 1)) x149000 x149001) else (none)) else (none))) else (none)) else (some x3)
end
def spec_l2Put.f (k : Nat) (l0_0 : List (S40)) (l0_1 : List (S43)) : Option (ByteArray) := spec_l2Put.l0 k (⟨#[]⟩ : ByteArray) 0 l0_0 l0_1
theorem spec_l2Put.calls (k : Nat) (A0_0 : Option Addr) (c0_0 : Nat) (l0_0 : List (S40)) (A0_1 : Option Addr) (c0_1 : Nat) (l0_1 : List (S43)) (r : ByteArray) (w : World) (hr0_0 : Kd.C k40 w A0_0 l0_0.length l0_0) (hc0_0 : l0_0.length ≤ c0_0) (hr0_1 : Kd.C k43 w A0_1 l0_1.length l0_1) (hc0_1 : l0_1.length ≤ c0_1) (h : spec_l2Put.f k l0_0 l0_1 = some r) :
  Calls Tryd.prog 19 #[.agg #[.slice A0_0 l0_0.length c0_0, .slice A0_1 l0_1.length c0_1]] w fun e w' => e = .returned (.string r) ∧ Below w.heap.size w w' := by
 have hu25 := Tryd.underlying25; have hu40 := Tryd.underlying40; have hu43 := Tryd.underlying43; have HR0_0 := am hr0_0; have HC0_0 := am hc0_0; clear hr0_0 hc0_0; have HR0_1 := am hr0_1; have HC0_1 := am hc0_1; clear hr0_1 hc0_1; have HB := am (Below.refl w.heap.size w)
 have H : (spec_l2Put.l0 k (⟨#[]⟩ : ByteArray) 0 l0_0 l0_1) = some r := h
 clear h
 have H' := am H
 clear H; go_enter Tryd.func19, Tryd.ntmps19
 go_wp2_with (first | ((with_reducible refine gate_dst (N := 1) rfl ?_); refine bx 1 (cs := #[.slice A0_0 l0_0.length c0_0, .slice A0_1 l0_1.length c0_1]) (t := 25) ?_; intro gb148 hg w2 hbox hb; have BK148 := am (hbox); have GW148 := am ((b19_ : w.heap.size ≤ gb148)); have GE148 := am ((b19_ : w.heap.size ≤ gb148)); replace HB := am (below_step bel hb); clear hb hbox hg))
 go_loopg [3, 4] k (fun kq v3 v4 w' => ∃ (x3_1 : ByteArray) (x4_1 : Int), v3 = .string x3_1 ∧ v4 = .int .i64 x4_1 ∧ Aside0 (spec_l2Put.l0 kq x3_1 x4_1 l0_0 l0_1 = some r) ∧ Aside0 (kq ≤ k) ∧ Aside0 (w'.heap[gb148]? = some (.cells #[(.slice A0_0 l0_0.length c0_0), (.slice A0_1 l0_1.length c0_1)] 25 (0, 0))) ∧ Aside0 (Below w.heap.size w w'))
 case atStart => exact ⟨((⟨#[]⟩ : ByteArray)), (0), sq, sq, H', ⟨Nat.le_refl _⟩, ⟨bq BK148.out⟩, ⟨bel1 GE148.out⟩⟩
 case round =>
  clear H'; (try clear c1); (try clear p2); obtain ⟨x3_1, x4_1, rfl, rfl, HA, HK1, BK148, HB⟩ := hrel
  cases gk with
  | zero => exact absurd HA.out (by simp [spec_l2Put.l0])
  | succ k1 =>
   have H := HA.out; clear HA
   simp only [spec_l2Put.l0] at H
   by_cases c3 : x4_1 < (l0_0.length : Int)
   ·rw [if_pos c3] at H; have c3b0 := decide_eq_true c3; clear c3
    replace H := it H; obtain ⟨c4b0, H⟩ := H; replace H := bs H; obtain ⟨t150, A50, H⟩ := H; replace H : (if x3_1.size + t150.size ≤ 9223372036854775807 then (if (x3_1 ++ t150).size + 1 ≤ 9223372036854775807 then (spec_l2Put.l0 k1 ((x3_1 ++ t150) ++ (⟨#[10]⟩ : ByteArray)) (wrap64 (x4_1 + 1)) l0_0 l0_1) else (none)) else (none)) = some r := H; have A5 := Aside0.mk A50; clear A50
    replace H := ip H; obtain ⟨c6, H⟩ := H; have c6b0 := eq_true c6
    have c6b1 : decide (x3_1.size + t150.size ≤ 9223372036854775807) = true := decide_eq_true c6
    try have c6b2 : (9223372036854775807 < x3_1.size + t150.size) = False := eq_false (Nat.not_lt.2 c6)
    replace H := ip H; obtain ⟨c7, H⟩ := H; have c7b0 := eq_true c7; have c7b5 := c7
    try simp at c7b5
    try have c7b4 := eq_false (Nat.not_lt.2 c7b5)
    have c7b7 := c7
    try simp only [ByteArray.size_append] at c7b7
    try have c7b8 := eq_false (Nat.not_lt.2 c7b7)
    try have c7b3 : (9223372036854775807 < x3_1.size + t150.size + 1) = False := by
          have h_ := c7
          simp only [ByteArray.size_append] at h_
          exact eq_false (by omega)
    have c7b1 : decide ((x3_1 ++ t150).size + 1 ≤ 9223372036854775807) = true := decide_eq_true c7
    try have c7b2 : (9223372036854775807 < (x3_1 ++ t150).size + 1) = False := eq_false (Nat.not_lt.2 c7)
    have H' := am H
    clear H; have hcz8_0 := bc BK148.out 0; have hcz8_1 := bc BK148.out 1; have hfz8_0 := bf BK148.out 0; have hfz8_1 := bf BK148.out 1
    have p149 : 0 ≤ (x4_1 : Int) := of_decide_eq_true ad
    have q149 : x4_1 < (l0_0.length : Int) := of_decide_eq_true ad
    obtain ⟨ad149, e149, hx149_0, hx149_1, hx149_2, hx149_3, hx149_4⟩ := at_T40 HR0_0.out x4_1 p149 q149
    cases e149
    replace hx149_0 := kp HB.out hx149_0; replace hx149_1 := kp HB.out hx149_1; replace hx149_2 := kp HB.out hx149_2; replace hx149_3 := kp HB.out hx149_3; replace hx149_4 := kp HB.out hx149_4; replace p149 := eq_true p149; replace q149 := eq_true q149
    go_wp2_with (first | ((with_reducible refine gate_callee (f := 39) rfl ?_); refine goesL_ (some 19) rfl rfl Tryd.func39 (by kernel_rfl) rfl #[.agg #[.string ((rd_T40 l0_0 x4_1).f0), .bool ((rd_T40 l0_0 x4_1).f1), .string ((rd_T40 l0_0 x4_1).f2), .string ((rd_T40 l0_0 x4_1).f3), .string ((rd_T40 l0_0 x4_1).f4)]] rfl mq ?_; (with_reducible refine (spec_l2AffixPut.calls ((rd_T40 l0_0 x4_1).f0) ((rd_T40 l0_0 x4_1).f1) ((rd_T40 l0_0 x4_1).f2) ((rd_T40 l0_0 x4_1).f3) ((rd_T40 l0_0 x4_1).f4) t150 _ A5.out).mono ?_); rintro e w9 ⟨rfl, hb⟩; refine ⟨_, rfl, ?_⟩; replace BK148 := am (blk_below (g := gb148) (o := .cells #[.slice (some ad149) l0_0.length c0_0, .slice A0_1 l0_1.length c0_1] 25 (0, 0)) (bq BK148.out) hb); replace HB := am (below_step (bel1 GE148.out) hb); (try clear hb); (try clear hb2); (try clear hk); (try clear hi)))
    go_roundg k1
    case measure => have := HK1.out; omega
    case rel => exact ⟨((x3_1 ++ t150) ++ (⟨#[10]⟩ : ByteArray)), (wrap64 (x4_1 + 1)), sq, sq, H', ⟨b74_⟩, ⟨bq BK148.out⟩, ⟨bel1 GE148.out⟩⟩
   rw [if_neg c3] at H; have c3b0 := decide_eq_false c3; clear c3
   have H' := am H
   clear H; have hcz10_0 := bc BK148.out 0; have hcz10_1 := bc BK148.out 1; have hfz10_0 := bf BK148.out 0; have hfz10_1 := bf BK148.out 1; go_wp2
   go_loopg [3, 5] k1 (fun kq v3 v5 w' => ∃ (x3_2 : ByteArray) (x5_2 : Int), v3 = .string x3_2 ∧ v5 = .int .i64 x5_2 ∧ Aside0 (spec_l2Put.l1 kq x3_2 x5_2 l0_0 l0_1 = some r) ∧ Aside0 (kq ≤ k1) ∧ Aside0 (w'.heap[gb148]? = some (.cells #[(.slice A0_0 l0_0.length c0_0), (.slice A0_1 l0_1.length c0_1)] 25 (0, 0))) ∧ Aside0 (Below w.heap.size w w'))
   case atStart => exact ⟨(x3_1), (0), sq, sq, H', ⟨Nat.le_refl _⟩, ⟨bq BK148.out⟩, ⟨bel1 GE148.out⟩⟩
   case round =>
    clear H'; (try clear c1); (try clear p1); (try clear q1); (try clear hx1); (try clear p2); (try clear c3); (try clear c3b0); (try clear c4); (try clear c4b0); (try clear c6); (try clear c6b0); (try clear c6b1); (try clear c6b2); (try clear p6); (try clear c7); (try clear c7b0); (try clear c7b1); (try clear c7b2); (try clear hcz10_0); (try clear hcz10_1); (try clear hcz8_0); (try clear hcz8_1); (try clear hfz10_0); (try clear hfz10_1); (try clear hfz8_0); (try clear hfz8_1); (try clear hx149_0); (try clear hx149_1); (try clear hx149_2); (try clear hx149_3); (try clear hx149_4); (try clear p149); (try clear p2); (try clear q149); obtain ⟨x3_2, x5_2, rfl, rfl, HA, HK2, BK148, HB⟩ := hrel
    cases gk with
    | zero => exact absurd HA.out (by simp [spec_l2Put.l1])
    | succ k2 =>
     have H := HA.out; clear HA
     simp only [spec_l2Put.l1] at H
     by_cases c11 : x5_2 < (l0_1.length : Int)
     ·rw [if_pos c11] at H; have c11b0 := decide_eq_true c11; clear c11
      replace H := it H; obtain ⟨c12b0, H⟩ := H; replace H := bs H; obtain ⟨t152, A130, H⟩ := H; replace H : (if x3_2.size + t152.size ≤ 9223372036854775807 then (if (x3_2 ++ t152).size + 1 ≤ 9223372036854775807 then (spec_l2Put.l1 k2 ((x3_2 ++ t152) ++ (⟨#[10]⟩ : ByteArray)) (wrap64 (x5_2 + 1)) l0_0 l0_1) else (none)) else (none)) = some r := H; have A13 := Aside0.mk A130; clear A130
      replace H := ip H; obtain ⟨c14, H⟩ := H; have c14b0 := eq_true c14
      have c14b1 : decide (x3_2.size + t152.size ≤ 9223372036854775807) = true := decide_eq_true c14
      try have c14b2 : (9223372036854775807 < x3_2.size + t152.size) = False := eq_false (Nat.not_lt.2 c14)
      replace H := ip H; obtain ⟨c15, H⟩ := H; have c15b0 := eq_true c15; have c15b5 := c15
      try simp at c15b5
      try have c15b4 := eq_false (Nat.not_lt.2 c15b5)
      have c15b7 := c15
      try simp only [ByteArray.size_append] at c15b7
      try have c15b8 := eq_false (Nat.not_lt.2 c15b7)
      try have c15b3 : (9223372036854775807 < x3_2.size + t152.size + 1) = False := by
            have h_ := c15
            simp only [ByteArray.size_append] at h_
            exact eq_false (by omega)
      have c15b1 : decide ((x3_2 ++ t152).size + 1 ≤ 9223372036854775807) = true := decide_eq_true c15
      try have c15b2 : (9223372036854775807 < (x3_2 ++ t152).size + 1) = False := eq_false (Nat.not_lt.2 c15)
      have H' := am H
      clear H; have hcz16_0 := bc BK148.out 0; have hcz16_1 := bc BK148.out 1; have hfz16_0 := bf BK148.out 0; have hfz16_1 := bf BK148.out 1
      have p151 : 0 ≤ (x5_2 : Int) := of_decide_eq_true ad
      have q151 : x5_2 < (l0_1.length : Int) := of_decide_eq_true ad
      obtain ⟨ad151, e151, hx151_0, hx151_1⟩ := at_T43 HR0_1.out x5_2 p151 q151
      cases e151
      replace hx151_0 := kp HB.out hx151_0; replace hx151_1 := kp HB.out hx151_1; replace p151 := eq_true p151; replace q151 := eq_true q151
      go_wp2_with (first | ((with_reducible refine gate_callee (f := 40) rfl ?_); refine goesL_ (some 35) rfl rfl Tryd.func40 (by kernel_rfl) rfl #[.agg #[.string ((rd_T43 l0_1 x5_2).f0), .string ((rd_T43 l0_1 x5_2).f1)]] rfl mq ?_; (with_reducible refine (spec_l2EntryPut.calls ((rd_T43 l0_1 x5_2).f0) ((rd_T43 l0_1 x5_2).f1) t152 _ A13.out).mono ?_); rintro e w17 ⟨rfl, hb⟩; refine ⟨_, rfl, ?_⟩; replace BK148 := am (blk_below (g := gb148) (o := .cells #[.slice A0_0 l0_0.length c0_0, .slice (some ad151) l0_1.length c0_1] 25 (0, 0)) (bq BK148.out) hb); replace HB := am (below_step (bel1 GE148.out) hb); (try clear hb); (try clear hb2); (try clear hk); (try clear hi)))
      go_roundg k2
      case measure => have := HK1.out; have := HK2.out; omega
      case rel => exact ⟨((x3_2 ++ t152) ++ (⟨#[10]⟩ : ByteArray)), (wrap64 (x5_2 + 1)), sq, sq, H', ⟨b85_⟩, ⟨bq BK148.out⟩, ⟨bel1 GE148.out⟩⟩
     rw [if_neg c11] at H; have c11b0 := decide_eq_false c11; clear c11; obtain rfl := Option.some.inj H; have hcz18_0 := bc BK148.out 0; have hcz18_1 := bc BK148.out 1; have hfz18_0 := bf BK148.out 0; have hfz18_1 := bf BK148.out 1; go_wp2; go_ret
     exact ⟨eq_, bel1 GE148.out⟩

/-! ### spec_BookGet: function 5 -/
def spec_BookGet.l0 : Nat → ByteArray → List ByteArray → Int → List (S40) → List (S43) → Option ((List (S40)) × (List (S43)) × Bool)
 | 0, _, _, _, _, _ => none
 | k + 1, x0, x4, x6, x158000, x158001 => if (wrap64 (x6 + 1)) < (x4.length : Int) then (if 0 ≤ x6 then (if x6 < (x4.length : Int) then ((spec_l1Cut.f k (rdOf ByteArray.empty x4 x6) 32).bind fun t159 => (if (t159.length : Int) = 5 then ((spec_l2AffixGet.f t159).bind fun bt162 => (if x158000.length < 1954687338268 then (spec_BookGet.l0 k x0 x4 (wrap64 (x6 + 1)) (x158000 ++ [(⟨bt162.1, bt162.2.1, bt162.2.2.1, bt162.2.2.2.1, bt162.2.2.2.2⟩ : S40)]) x158001) else (none))) else ((spec_l2EntryGet.f k (rdOf ByteArray.empty x4 x6)).bind fun bt171 => (if bt171.2.2 = true then (if x158001.length < 4398046511104 then (spec_BookGet.l0 k x0 x4 (wrap64 (x6 + 1)) x158000 (x158001 ++ [(⟨bt171.1, bt171.2.1⟩ : S43)])) else (none)) else (some (([] : List (S40)), ([] : List (S43)), false)))))) else (none)) else (none)) else ((spec_BookOk.f k x158000 x158001).bind fun t178 => (if t178 = true then ((spec_l2Put.f k x158000 x158001).bind fun t179 => (if t179.toList = x0.toList then (some (x158000, x158001, true)) else (some (([] : List (S40)), ([] : List (S43)), false)))) else (some (([] : List (S40)), ([] : List (S43)), false))))
def spec_BookGet.f (k : Nat) (a0 : ByteArray) : Option ((List (S40)) × (List (S43)) × Bool) := (spec_l1Cut.f k a0 10).bind fun t154 => (spec_BookGet.l0 k a0 t154 0 ([] : List (S40)) ([] : List (S43)))
def spec_BookGet.T8 : Bool × List (List Nat × List Nat) := (true, [([], []), ([0], [0]), ([], []), ([2], [2]), ([3], [3]), ([1, 4, 3], [1, 4]), ([0, 1, 2, 3, 4, 5], []), ([6, 5, 5, 0, 1, 2, 3, 4, 5], [5, 6])])
def spec_BookGet.B8 : List Nat := [0, 1, 0, 4, 12, 31, 63, 127]
theorem spec_BookGet.tab8 : rtab .any (opsOf Tryd.f5 8) = spec_BookGet.T8 := by kernel_rfl
theorem spec_BookGet.bits8 : waitsOk spec_BookGet.T8.2 spec_BookGet.B8 = true := by kernel_rfl
theorem spec_BookGet.calls (k : Nat) (a0 : ByteArray) (r1 : List (S40)) (r2 : List (S43)) (r3 : Bool) (w : World) (h : spec_BookGet.f k a0 = some (r1, r2, r3)) :
  Calls Tryd.prog 5 #[.string a0] w fun e w' => ∃ v0_ v1_ : Value, e = .returned (.tuple #[.agg #[v0_, v1_], .bool r3]) ∧ Kd.R k40 40 w' w.heap.size (fun _ => True) v0_ r1 ∧ Kd.R k43 43 w' w.heap.size (fun _ => True) v1_ r2 ∧ Below w.heap.size w w' := by
 have hu25 := Tryd.underlying25; have hu43 := Tryd.underlying43; have HB := am (Below.refl w.heap.size w)
 have H : ((spec_l1Cut.f k a0 10).bind fun t154 => (spec_BookGet.l0 k a0 t154 0 ([] : List (S40)) ([] : List (S43)))) = some (r1, r2, r3) := h
 clear h; replace H := bs H; obtain ⟨t154, A20, H⟩ := H; replace H : (spec_BookGet.l0 k a0 t154 0 ([] : List (S40)) ([] : List (S43))) = some (r1, r2, r3) := H; have A2 := Aside0.mk A20; clear A20
 have H' := am H
 clear H; go_enter Tryd.func5, Tryd.ntmps5
 go_wp2_with (first | ((with_reducible refine gate_dst (N := 2) rfl ?_); refine bx 2 (cs := #[.slice none 0 0, .slice none 0 0]) (t := 25) ?_; intro gb153 hg w3 hbox hb; have BK153 := am (hbox); have GW153 := am ((b19_ : w.heap.size ≤ gb153)); have GE153 := am ((b19_ : w.heap.size ≤ gb153)); replace HB := am (below_step bel hb); clear hb hbox hg) | ((with_reducible refine gate_callee (f := 16) rfl ?_); refine goesL_ (some 11) rfl rfl Tryd.func16 (by kernel_rfl) rfl #[.string a0, .int .u8 10] rfl mq ?_; (with_reducible refine (spec_l1Cut.calls k a0 10 t154 _ A2.out).mono ?_); rintro e w4 ⟨v155, rfl, ho0, hb⟩; refine ⟨_, rfl, ?_⟩; have HO156 := am (Kd.R_lower ho0 (below_size (bel1 GE153.out))); replace BK153 := am (blk_below (g := gb153) (o := .cells #[.slice none 0 0, .slice none 0 0] 25 (0, 0)) (bq BK153.out) hb); replace HB := am (below_step (bel1 GE153.out) hb); (try clear hb); (try clear hb2); (try clear hk); (try clear hi); (try clear ho0)) | ((with_reducible refine gate_dst (N := 5) rfl ?_); refine bx 5 (cs := #[.slice none 0 0, .slice none 0 0]) (t := 25) ?_; intro gb157 hg w5 hbox hb; replace HO156 := am (Kd.R_below (rq HO156.out) hb); have BK157 := am (hbox); have GW157 := am ((by rw [hg]; exact (below_size (bel1 GE153.out)) : w.heap.size ≤ gb157)); have GE157 := am ((by rw [hg]; exact (below_size (bel1 GE153.out)) : w.heap.size ≤ gb157)); replace HB := am (below_step (bel1 GE153.out) hb); have NB153_157 := am ((b83_ : gb153 ≠ gb157)); have NB157_153 := am ((b84_ : gb157 ≠ gb153)); replace BK153 := am (blk_below (g := gb153) (o := .cells #[.slice none 0 0, .slice none 0 0] 25 (0, 0)) (bq BK153.out) hb); clear hb hbox hg; have hnb6 := NB157_153.out; have hnc6 := NB153_157.out; have hcz7_0 := bc BK157.out 0; have hcz7_1 := bc BK157.out 1; have hfz7_0 := bf BK157.out 0; have hfz7_1 := bf BK157.out 1))
 go_loopg [6] k (fun kq v6 w' => ∃ (x6_1 : Int) (x158000_1 : List (S40)) (x158001_1 : List (S43)) (u158000 : Value) (u158001 : Value), v6 = .int .i64 x6_1 ∧ Aside0 (spec_BookGet.l0 kq a0 t154 x6_1 x158000_1 x158001_1 = some (r1, r2, r3)) ∧ Aside0 (kq ≤ k) ∧ Aside0 (Kd.R Kd.string 9 w' w.heap.size (fun _ => True) v155 t154) ∧ Aside0 (Kd.R k40 40 w' w.heap.size (fun _ => True) u158000 x158000_1) ∧ Aside0 (Kd.R k43 43 w' w.heap.size (fun _ => True) u158001 x158001_1) ∧ Aside0 (w'.heap[gb153]? = some (.cells #[(.slice none 0 0), (.slice none 0 0)] 25 (0, 0))) ∧ Aside0 (w'.heap[gb157]? = some (.cells #[u158000, u158001] 25 (0, 0))) ∧ Aside0 (Below w.heap.size w w'))
 case atStart => exact ⟨(0), (([] : List (S40))), (([] : List (S43))), (.slice none 0 0), (.slice none 0 0), sq, H', ⟨Nat.le_refl _⟩, ⟨rq (Kd.R_mono (Kd.R_far (p := ⟨gb157, 1, none⟩) (Kd.R_far (p := ⟨gb157, 0, none⟩) (Kd.R_types HO156.out BK157.out (by decide)) (fun _ hk => hk.2) (.slice none 0 0)) (fun _ hk => hk.2) (.slice none 0 0)) (fun _ hk => trivial))⟩, ⟨b29_⟩, ⟨b29_⟩, ⟨by (with_reducible repeat (first | refine blk_drewN ?_ _ | refine blk_drew ?_ | refine blk_alloc ?_ _)); refine blk_far ?_ NB153_157.out _; (with_reducible repeat (first | refine blk_drewN ?_ _ | refine blk_drew ?_ | refine blk_alloc ?_ _)); refine blk_far ?_ NB153_157.out _; (with_reducible repeat (first | refine blk_drewN ?_ _ | refine blk_drew ?_ | refine blk_alloc ?_ _)); exact BK153.out⟩, ⟨by (with_reducible repeat (first | refine blk_drewN ?_ _ | refine blk_drew ?_ | refine blk_alloc ?_ _)); refine blk_put (cs := #[.slice none 0 0, .slice none 0 0]) ?_ 1 _ rfl; (with_reducible repeat (first | refine blk_drewN ?_ _ | refine blk_drew ?_ | refine blk_alloc ?_ _)); refine blk_put (cs := #[.slice none 0 0, .slice none 0 0]) ?_ 0 _ rfl; (with_reducible repeat (first | refine blk_drewN ?_ _ | refine blk_drew ?_ | refine blk_alloc ?_ _)); exact BK157.out⟩, ⟨bel2 GE153.out GE157.out⟩⟩
 case round =>
  clear H'; (try clear c1); (try clear p2); (try clear c5); (try clear c6); (try clear hcz7_0); (try clear hcz7_1); (try clear hfz7_0); (try clear hfz7_1); obtain ⟨x6_1, x158000_1, x158001_1, u158000, u158001, rfl, HA, HK1, HO_4, HO_158000, HO_158001, BK153, BK157, HB⟩ := hrel
  cases gk with
  | zero => exact absurd HA.out (by simp [spec_BookGet.l0])
  | succ k1 =>
   have H := HA.out; clear HA
   simp only [spec_BookGet.l0] at H
   by_cases c8 : (wrap64 (x6_1 + 1)) < (t154.length : Int)
   ·rw [if_pos c8] at H; have c8b0 := decide_eq_true c8; clear c8
    replace H := it H; obtain ⟨c9b0, H⟩ := H
    replace H := it H; obtain ⟨c10b0, H⟩ := H; replace H := bs H; obtain ⟨t159, A110, H⟩ := H; replace H : (if (t159.length : Int) = 5 then ((spec_l2AffixGet.f t159).bind fun bt162 => (if x158000_1.length < 1954687338268 then (spec_BookGet.l0 k1 a0 t154 (wrap64 (x6_1 + 1)) (x158000_1 ++ [(⟨bt162.1, bt162.2.1, bt162.2.2.1, bt162.2.2.2.1, bt162.2.2.2.2⟩ : S40)]) x158001_1) else (none))) else ((spec_l2EntryGet.f k1 (rdOf ByteArray.empty t154 x6_1)).bind fun bt171 => (if bt171.2.2 = true then (if x158001_1.length < 4398046511104 then (spec_BookGet.l0 k1 a0 t154 (wrap64 (x6_1 + 1)) x158000_1 (x158001_1 ++ [(⟨bt171.1, bt171.2.1⟩ : S43)])) else (none)) else (some (([] : List (S40)), ([] : List (S43)), false))))) = some (r1, r2, r3) := H; have A11 := Aside0.mk A110; clear A110
    by_cases c12 : (t159.length : Int) = 5
    ·rw [if_pos c12] at H
     have c12b0 : ((t159.length : Int) == 5) = true := beq_iff_eq.mpr c12
     have c12b1 : ((t159.length : Int) != 5) = false := bne_eq_false_iff_eq.mpr c12
     clear c12; replace H := bs H; obtain ⟨⟨t162, t163, t164, t165, t166⟩, A130, H⟩ := H; replace H : (if x158000_1.length < 1954687338268 then (spec_BookGet.l0 k1 a0 t154 (wrap64 (x6_1 + 1)) (x158000_1 ++ [(⟨t162, t163, t164, t165, t166⟩ : S40)]) x158001_1) else (none)) = some (r1, r2, r3) := H; have A13 := Aside0.mk A130; clear A130
     replace H := ip H; obtain ⟨c14, H⟩ := H; have LMc14 := Aside0.mk c14; clear c14; obtain ⟨y167, hy167⟩ : ∃ y_ : List (S40), y_ = (x158000_1 ++ [(⟨t162, t163, t164, t165, t166⟩ : S40)]) := ⟨_, rfl⟩
     replace H : (spec_BookGet.l0 k1 a0 t154 (wrap64 (x6_1 + 1)) y167 x158001_1) = some (r1, r2, r3) := by first | (rw [hy167]; with_reducible exact H) | (have H2_ := bm H; rw [hy167]; with_reducible exact H2_) | (with_reducible exact bm H) | with_reducible exact H | (rw [hy167]; exact H) | exact H
     have Ny167 := am hy167; clear hy167
     have H' := am H
     clear H; obtain ⟨Ao15, co15, eo15⟩ := Kd.R_slice HO_4.out; subst eo15
     have p158 : 0 ≤ (x6_1 : Int) := of_decide_eq_true ad
     have q158 : x6_1 < (t154.length : Int) := of_decide_eq_true ad
     obtain ⟨ad158, e158, hx158_0⟩ := Kd.at_string (Kd.R_reads' HO_4.out).2.2 x6_1 p158 q158
     cases e158
     replace p158 := eq_true p158; replace q158 := eq_true q158
     try go_wp2_with (first | ((with_reducible refine gate_callee (f := 16) rfl ?_); refine goesL_ (some 24) rfl rfl Tryd.func16 (by kernel_rfl) rfl #[.string (rdOf ByteArray.empty t154 x6_1), .int .u8 32] rfl mq ?_; (with_reducible refine (spec_l1Cut.calls k1 (rdOf ByteArray.empty t154 x6_1) 32 t159 _ A11.out).mono ?_); rintro e w16 ⟨v160, rfl, ho0, hb⟩; refine ⟨_, rfl, ?_⟩; replace HO_158000 := am (Kd.R_below (rq HO_158000.out) hb); replace HO_158001 := am (Kd.R_below (rq HO_158001.out) hb); have HO161 := am (Kd.R_lower (Kd.R_new' ho0 (Kd.R_lt (rq HO_4.out))) (below_size (bel2 GE153.out GE157.out))); replace HO_4 := am (Kd.R_elder' (rq HO_4.out) (Kd.R_base ho0) hb); replace BK153 := am (blk_below (g := gb153) (o := .cells #[.slice none 0 0, .slice none 0 0] 25 (0, 0)) (bq BK153.out) hb); replace BK157 := am (blk_below (g := gb157) (o := .cells #[u158000, u158001] 25 (0, 0)) (bq BK157.out) hb); replace HB := am (below_step (bel2 GE153.out GE157.out) hb); (try clear hb); (try clear hb2); (try clear hk); (try clear hi); (try clear ho0); obtain ⟨Ao17, co17, eo17⟩ := Kd.R_slice HO161.out; subst eo17))
     replace HO_4 := am (Kd.R_drew HO_4.out); replace HO_158000 := am (Kd.R_drew HO_158000.out); replace HO_158001 := am (Kd.R_drew HO_158001.out); replace HO161 := am (Kd.R_drew HO161.out); replace BK153 := am (blk_drew BK153.out); replace BK157 := am (blk_drew BK157.out); replace HB := am (below_drew1 HB.out)
     refine start_ (n := 8) (S := fun w' => w'.cell? ⟨gb157, 0, none⟩ = some (u158000) ∧ w'.cell? ⟨gb157, 1, none⟩ = some (u158001)) (ds := [7]) #[false, false, false, false, false, false, false, false] (by kernel_rfl) rfl rfl ⟨(blk_cell BK157.out 0).trans rfl, (blk_cell BK157.out 1).trans rfl⟩ (fun hHeld => ?_); refine with_tabW spec_BookGet.tab8 spec_BookGet.bits8 (fun HT_ HW_ => ?_)
     generalize w16.drew = w18 at HO_4 HO_158000 HO_158001 HO161 BK153 BK157 HB hHeld ⊢
     refine pu 0 28 ?_
     refine pu 2 30 ?_
     refine tk2 1 29 hHeld ?_
     refine on1 3 31 (fun K hK => ?_)
     refine goes_ Tryd.func17 (by kernel_rfl) rfl #[.slice Ao17 t159.length co17] (by rfl) rfl rfl mq ?_
     with_reducible refine (spec_l2AffixGet.calls _ _ t159 t162 t163 t164 t165 t166 _ ?side1 ?side2 A13.out).mono ?_
     (case side1 => exact cq (Kd.R_reads' HO161.out).2.2); (case side2 => exact (Kd.R_reads' HO161.out).2.1)
     rintro e w19 ⟨rfl, hb⟩
     refine ⟨_, rfl, ?_⟩
     replace HO_4 := am (Kd.R_below (rq HO_4.out) hb); replace HO_158000 := am (Kd.R_below (rq HO_158000.out) hb); replace HO_158001 := am (Kd.R_below (rq HO_158001.out) hb); replace HO161 := am (Kd.R_below (rq HO161.out) hb); replace BK153 := am (blk_below (g := gb153) (o := .cells #[.slice none 0 0, .slice none 0 0] 25 (0, 0)) (bq BK153.out) hb); replace BK157 := am (blk_below (g := gb157) (o := .cells #[u158000, u158001] 25 (0, 0)) (bq BK157.out) hb); replace HB := am (below_step (bel2 GE153.out GE157.out) hb)
     (try clear hb)
     (try clear hb2)
     (try clear hk)
     (try clear hi)
     refine hK.out _ _ ⟨(blk_cell BK157.out 0).trans rfl, (blk_cell BK157.out 1).trans rfl⟩ (fun hHeld => ?_)
     clear hK K
     refine norm_ (a' := ?_) ?_ ?_
     rotate_left
     ·show Act.put _ (some 31) _ = _
      simp only [Act.put, List.setIfInBounds_toArray, List.set_cons_zero, List.set_cons_succ, i64_w, i32_w]
      rfl
     refine on1 4 32 (fun K hK => ?_)
     refine value_ (w1 := ?_) (v := ?_) (by rfl) rfl ?_ ?_
     rotate_left 2
     ·go_simp
      constructor
      ·rfl
      ·rfl
     refine hK.out _ _ ⟨(blk_cell (blk_alloc BK157.out _) 0).trans rfl, (blk_cell (blk_alloc BK157.out _) 1).trans rfl⟩ (fun hHeld => ?_)
     clear hK K
     refine norm_ (a' := ?_) ?_ ?_
     rotate_left
     ·show Act.put _ (some 32) _ = _
      simp only [Act.put, List.setIfInBounds_toArray, List.set_cons_zero, List.set_cons_succ, i64_w, i32_w]
      rfl
     refine on1 5 33 (fun K hK => ?_)
     refine Kd.R_append_step k40 (w0 := w) w.heap.size (by rfl) (.tmp 29) (.tmp 32) 22 40 (.agg #[(.string ⟨#[]⟩), (.bool false), (.string ⟨#[]⟩), (.string ⟨#[]⟩), (.string ⟨#[]⟩)]) 72 rfl Tryd.underlying22 info40 rfl (by decide) (by omega) u158000 x158000_1 (⟨t162, t163, t164, t165, t166⟩ : S40) [.string t162, .bool t163, .string t164, .string t165, .string t166] (fun _ => True) (fun _ => False) rfl rfl ?aP (fun _ hk => hk.elim) ?aF ?aO ?aB ?aS ?aL ?_
     (case aP => exact k40_mkM _ _ _ (⟨t162, t163, t164, t165, t166⟩ : S40)); (case aB => exact (bel2 GE153.out GE157.out)); (case aF => exact (fun _ _ => trivial)); (case aO => exact (rq HO_158000.out)); (case aS => exact (below_size (bel2 GE153.out GE157.out))); (case aL => have := LMc14.out; omega); intro v168 w20 ho hb hg hat; rw [← Ny167.out] at ho
     replace HO_4 := am (Kd.R_over' (rq HO_4.out) (Kd.R_typed (rq HO_158000.out)) (by decide) hg)
     replace HO_158001 := am (Kd.R_over' (rq HO_158001.out) (Kd.R_typed (rq HO_158000.out)) (by decide) hg)
     replace BK153 := am (blk_grown (g := gb153) (o := .cells #[.slice none 0 0, .slice none 0 0] 25 (0, 0)) (bq BK153.out) hg (Kd.R_ne HO_158000.out BK153.out (by decide)))
     replace BK157 := am (blk_grown (g := gb157) (o := .cells #[u158000, u158001] 25 (0, 0)) (bq BK157.out) hg (Kd.R_ne HO_158000.out BK157.out (by decide)))
     replace HO161 := am (Kd.R_over' (rq HO161.out) (Kd.R_typed (rq HO_158000.out)) (by decide) hg)
     replace HB := am (hb); have HO169 := am (ho); clear HO_158000; clear ho hb hg hat; obtain ⟨Ao21, co21, eo21⟩ := Kd.R_slice HO169.out
     (first | subst eo21 | (injection eo21 with f1_ f2_ f3_; have f4_ := f1_.symm; have f5_ := f3_.symm; clear f1_ f2_ f3_; subst f4_; subst f5_))
     refine hK.out _ _ ⟨(blk_cell BK157.out 0).trans rfl, (blk_cell BK157.out 1).trans rfl⟩ (fun hHeld => ?_)
     clear hK K
     refine norm_ (a' := ?_) ?_ ?_
     rotate_left
     ·show Act.put _ (some 33) _ = _
      simp only [Act.put, List.setIfInBounds_toArray, List.set_cons_zero, List.set_cons_succ, i64_w, i32_w]
      rfl
     refine pu 6 34 ?_
     refine last_ (i := 7) (N := none) #[true, true, true, true, true, true, true, true] rfl rfl (one_of HT_.out (by kernel_rfl)) (by decide) (fun K hK => ?_)
     have hs22 : w20.cell? ⟨gb157, 0, none⟩ = some (u158000) := (blk_cell BK157.out 0).trans rfl
     have hfs22 := bf BK157.out 0; have hns22_0 := NB153_157.out; have hms22_0 := NB157_153.out
     refine skip_ (w1 := ?_) (by rfl) rfl ?_ ?_
     rotate_left
     ·go_simp
      rfl
     refine hK.out _ _ ?_
     clear hK K
     refine done_ (done_of HT_.out (by kernel_rfl)) ?_
     try go_wp2
     go_roundg k1
     case measure => have := HK1.out; omega
     case rel => exact ⟨(wrap64 (x6_1 + 1)), (y167), (x158001_1), (.slice Ao21 y167.length co21), (u158001), sq, H', ⟨b74_⟩, ⟨rq (Kd.R_mono (Kd.R_far (p := ⟨gb157, 0, none⟩) (Kd.R_types HO_4.out BK157.out (by decide)) (fun _ hk => hk.2) (.slice Ao21 y167.length co21)) (fun _ hk => trivial))⟩, ⟨rq (Kd.R_mono (Kd.R_far (p := ⟨gb157, 0, none⟩) (Kd.R_types HO169.out BK157.out (by decide)) (fun _ hk => hk.2) (.slice Ao21 y167.length co21)) (fun _ hk => trivial))⟩, ⟨rq (Kd.R_mono (Kd.R_far (p := ⟨gb157, 0, none⟩) (Kd.R_types HO_158001.out BK157.out (by decide)) (fun _ hk => hk.2) (.slice Ao21 y167.length co21)) (fun _ hk => trivial))⟩, ⟨b72_⟩, ⟨by (with_reducible repeat (first | refine blk_drewN ?_ _ | refine blk_drew ?_ | refine blk_alloc ?_ _)); refine blk_put (cs := #[u158000, u158001]) ?_ 0 _ rfl; (with_reducible repeat (first | refine blk_drewN ?_ _ | refine blk_drew ?_ | refine blk_alloc ?_ _)); exact BK157.out⟩, ⟨bel2 GE153.out GE157.out⟩⟩
    rw [if_neg c12] at H
    have c12b0 : ((t159.length : Int) == 5) = false := beq_eq_false_iff_ne.mpr c12
    have c12b1 : ((t159.length : Int) != 5) = true := bne_iff_ne.mpr c12
    replace H := bs H; obtain ⟨⟨t171, t172, t173⟩, A230, H⟩ := H; replace H : (if t173 = true then (if x158001_1.length < 4398046511104 then (spec_BookGet.l0 k1 a0 t154 (wrap64 (x6_1 + 1)) x158000_1 (x158001_1 ++ [(⟨t171, t172⟩ : S43)])) else (none)) else (some (([] : List (S40)), ([] : List (S43)), false))) = some (r1, r2, r3) := H; have A23 := Aside0.mk A230; clear A230
    by_cases c24 : t173 = true
    ·subst c24
     have H1 : (if x158001_1.length < 4398046511104 then (spec_BookGet.l0 k1 a0 t154 (wrap64 (x6_1 + 1)) x158000_1 (x158001_1 ++ [(⟨t171, t172⟩ : S43)])) else (none)) = some (r1, r2, r3) := b47_
     replace H := H1; clear H1
     replace H := ip H; obtain ⟨c25, H⟩ := H; have LMc25 := Aside0.mk c25; clear c25; obtain ⟨y175, hy175⟩ : ∃ y_ : List (S43), y_ = (x158001_1 ++ [(⟨t171, t172⟩ : S43)]) := ⟨_, rfl⟩
     replace H : (spec_BookGet.l0 k1 a0 t154 (wrap64 (x6_1 + 1)) x158000_1 y175) = some (r1, r2, r3) := by first | (rw [hy175]; with_reducible exact H) | (have H2_ := bm H; rw [hy175]; with_reducible exact H2_) | (with_reducible exact bm H) | with_reducible exact H | (rw [hy175]; exact H) | exact H
     have Ny175 := am hy175; clear hy175
     have H' := am H
     clear H; obtain ⟨Ao26, co26, eo26⟩ := Kd.R_slice HO_4.out; subst eo26
     have p158 : 0 ≤ (x6_1 : Int) := of_decide_eq_true ad
     have q158 : x6_1 < (t154.length : Int) := of_decide_eq_true ad
     obtain ⟨ad158, e158, hx158_0⟩ := Kd.at_string (Kd.R_reads' HO_4.out).2.2 x6_1 p158 q158
     cases e158
     replace p158 := eq_true p158; replace q158 := eq_true q158
     go_wp2_with (first | ((with_reducible refine gate_callee (f := 16) rfl ?_); refine goesL_ (some 24) rfl rfl Tryd.func16 (by kernel_rfl) rfl #[.string (rdOf ByteArray.empty t154 x6_1), .int .u8 32] rfl mq ?_; (with_reducible refine (spec_l1Cut.calls k1 (rdOf ByteArray.empty t154 x6_1) 32 t159 _ A11.out).mono ?_); rintro e w27 ⟨v160, rfl, ho0, hb⟩; refine ⟨_, rfl, ?_⟩; replace HO_158000 := am (Kd.R_below (rq HO_158000.out) hb); replace HO_158001 := am (Kd.R_below (rq HO_158001.out) hb); have HO161 := am (Kd.R_lower (Kd.R_new' ho0 (Kd.R_lt (rq HO_4.out))) (below_size (bel2 GE153.out GE157.out))); replace HO_4 := am (Kd.R_elder' (rq HO_4.out) (Kd.R_base ho0) hb); replace BK153 := am (blk_below (g := gb153) (o := .cells #[.slice none 0 0, .slice none 0 0] 25 (0, 0)) (bq BK153.out) hb); replace BK157 := am (blk_below (g := gb157) (o := .cells #[u158000, u158001] 25 (0, 0)) (bq BK157.out) hb); replace HB := am (below_step (bel2 GE153.out GE157.out) hb); (try clear hb); (try clear hb2); (try clear hk); (try clear hi); (try clear ho0); obtain ⟨Ao28, co28, eo28⟩ := Kd.R_slice HO161.out; subst eo28; have p170 : 0 ≤ (x6_1 : Int) := of_decide_eq_true ad; have q170 : x6_1 < (t154.length : Int) := of_decide_eq_true ad; obtain ⟨ad170, e170, hx170_0⟩ := Kd.at_string (Kd.R_reads' HO_4.out).2.2 x6_1 p170 q170; obtain rfl : ad158 = ad170 := (by injection e170); replace p170 := eq_true p170; replace q170 := eq_true q170) | ((with_reducible refine gate_callee (f := 18) rfl ?_); refine goesL_ (some 40) rfl rfl Tryd.func18 (by kernel_rfl) rfl #[.string (rdOf ByteArray.empty t154 x6_1)] rfl mq ?_; (with_reducible refine (spec_l2EntryGet.calls k1 (rdOf ByteArray.empty t154 x6_1) t171 t172 true _ A23.out).mono ?_); rintro e w29 ⟨rfl, hb⟩; refine ⟨_, rfl, ?_⟩; replace HO_4 := am (Kd.R_below (rq HO_4.out) hb); replace HO_158000 := am (Kd.R_below (rq HO_158000.out) hb); replace HO_158001 := am (Kd.R_below (rq HO_158001.out) hb); replace HO161 := am (Kd.R_below (rq HO161.out) hb); replace BK153 := am (blk_below (g := gb153) (o := .cells #[.slice none 0 0, .slice none 0 0] 25 (0, 0)) (bq BK153.out) hb); replace BK157 := am (blk_below (g := gb157) (o := .cells #[u158000, u158001] 25 (0, 0)) (bq BK157.out) hb); replace HB := am (below_step (bel2 GE153.out GE157.out) hb); (try clear hb); (try clear hb2); (try clear hk); (try clear hi)) | ((with_reducible refine gate_dst (N := 8) rfl ?_); refine bx 8 (cs := #[.string (⟨#[]⟩ : ByteArray), .string (⟨#[]⟩ : ByteArray)]) (t := 43) ?_; intro gb174 hg w30 hbox hb; replace HO_4 := am (Kd.R_below (rq HO_4.out) hb); replace HO_158000 := am (Kd.R_below (rq HO_158000.out) hb); replace HO_158001 := am (Kd.R_below (Kd.R_elderB (rq HO_158001.out) gb174 (Nat.le_of_eq hg.symm)) hb); replace HO161 := am (Kd.R_below (rq HO161.out) hb); have BK174 := am (hbox); have GW174 := am ((b91_ : w.heap.size ≤ gb174)); have GE174 := am ((b91_ : w.heap.size ≤ gb174)); replace HB := am (below_step (bel2 GE153.out GE157.out) hb); have NB153_174 := am ((b83_ : gb153 ≠ gb174)); have NB174_153 := am ((b84_ : gb174 ≠ gb153)); replace BK153 := am (blk_below (g := gb153) (o := .cells #[.slice none 0 0, .slice none 0 0] 25 (0, 0)) (bq BK153.out) hb); have NB157_174 := am ((by rw [hg]; exact Nat.ne_of_lt (blk_lt (g := gb157) (o := .cells #[u158000, u158001] 25 (0, 0)) (bq BK157.out)) : gb157 ≠ gb174)); have NB174_157 := am ((by rw [hg]; exact Nat.ne_of_gt (blk_lt (g := gb157) (o := .cells #[u158000, u158001] 25 (0, 0)) (bq BK157.out)) : gb174 ≠ gb157)); replace BK157 := am (blk_below (g := gb157) (o := .cells #[u158000, u158001] 25 (0, 0)) (bq BK157.out) hb); clear hb hbox hg; have hnb31 := NB174_153.out; have hnc31 := NB153_174.out; have hnb32 := NB174_157.out; have hnc32 := NB157_174.out; have hcz33_0 := bc BK174.out 0; have hcz33_1 := bc BK174.out 1; have hfz33_0 := bf BK174.out 0; have hfz33_1 := bf BK174.out 1; have hnb34 := NB157_153.out; have hnc34 := NB153_157.out; have hcz35_0 := bc BK157.out 0; have hcz35_1 := bc BK157.out 1; have hfz35_0 := bf BK157.out 0; have hfz35_1 := bf BK157.out 1) | ((with_reducible refine gate_builtin (b := .append) (xs := #[.tmp 47, .tmp 49]) rfl ?_); at_builtin; refine Kd.R_append k43 (w0 := w) w.heap.size rfl (.tmp 47) (.tmp 49) 23 43 (.agg #[(.string ⟨#[]⟩), (.string ⟨#[]⟩)]) 32 rfl Tryd.underlying23 info43 rfl (by decide) (by omega) u158001 x158001_1 (⟨t171, t172⟩ : S43) [.string t171, .string t172] (fun k_ => k_ ≠ gb174) (fun _ => False) rfl (by first | (go_simp; done) | (go_simp; rfl)) ?aP (fun _ hk => hk.elim) ?aF ?aO ?aB ?aS ?aL ?_; (case aP => exact k43_mkM _ _ _ (⟨t171, t172⟩ : S43)); (case aB => exact (bel3 GE153.out GE157.out GE174.out)); (case aF => exact (fun k_ hk => Kd.freshB (g := gb174) (o := .cells #[.string t171, .string t172] 43 (0, 0)) b53_ k_ hk)); (case aO => exact (rq (Kd.R_mono (Kd.R_far (p := ⟨gb174, 1, none⟩) (Kd.R_far (p := ⟨gb174, 0, none⟩) (Kd.R_mono HO_158001.out (fun k_ hk => (⟨hk, hk.2⟩ : _ ∧ k_ ≠ gb174))) (fun _ hk => hk.2) (.string t171)) (fun _ hk => hk.2) (.string t172)) (fun _ hk => hk.1.2)))); (case aS => exact (below_size (bel3 GE153.out GE157.out GE174.out))); (case aL => have := LMc25.out; omega); intro v176 w36 ho hb hg hat; rw [← Ny175.out] at ho; replace HO_4 := am (Kd.R_over' (rq ((Kd.R_mono (Kd.R_far (p := ⟨gb174, 1, none⟩) (Kd.R_far (p := ⟨gb174, 0, none⟩) (Kd.R_types HO_4.out BK174.out (by decide)) (fun _ hk => hk.2) (.string t171)) (fun _ hk => hk.2) (.string t172)) (fun _ h_ => h_.1)))) (Kd.R_typed (rq ((Kd.R_mono (Kd.R_far (p := ⟨gb174, 1, none⟩) (Kd.R_far (p := ⟨gb174, 0, none⟩) (Kd.R_mono HO_158001.out (fun k_ hk => (⟨hk, hk.2⟩ : _ ∧ k_ ≠ gb174))) (fun _ hk => hk.2) (.string t171)) (fun _ hk => hk.2) (.string t172)) (fun _ h_ => h_.1))))) (by decide) hg); replace HO_158000 := am (Kd.R_over' (rq ((Kd.R_mono (Kd.R_far (p := ⟨gb174, 1, none⟩) (Kd.R_far (p := ⟨gb174, 0, none⟩) (Kd.R_types HO_158000.out BK174.out (by decide)) (fun _ hk => hk.2) (.string t171)) (fun _ hk => hk.2) (.string t172)) (fun _ h_ => h_.1)))) (Kd.R_typed (rq ((Kd.R_mono (Kd.R_far (p := ⟨gb174, 1, none⟩) (Kd.R_far (p := ⟨gb174, 0, none⟩) (Kd.R_mono HO_158001.out (fun k_ hk => (⟨hk, hk.2⟩ : _ ∧ k_ ≠ gb174))) (fun _ hk => hk.2) (.string t171)) (fun _ hk => hk.2) (.string t172)) (fun _ h_ => h_.1))))) (by decide) hg); replace BK153 := am (blk_grown (g := gb153) (o := .cells #[.slice none 0 0, .slice none 0 0] 25 (0, 0)) (by (with_reducible repeat (first | refine blk_drewN ?_ _ | refine blk_drew ?_ | refine blk_alloc ?_ _)); refine blk_far ?_ NB153_174.out _; (with_reducible repeat (first | refine blk_drewN ?_ _ | refine blk_drew ?_ | refine blk_alloc ?_ _)); refine blk_far ?_ NB153_174.out _; (with_reducible repeat (first | refine blk_drewN ?_ _ | refine blk_drew ?_ | refine blk_alloc ?_ _)); exact BK153.out) hg (Kd.R_ne HO_158001.out BK153.out (by decide))); replace BK157 := am (blk_grown (g := gb157) (o := .cells #[u158000, u158001] 25 (0, 0)) (by (with_reducible repeat (first | refine blk_drewN ?_ _ | refine blk_drew ?_ | refine blk_alloc ?_ _)); refine blk_far ?_ NB157_174.out _; (with_reducible repeat (first | refine blk_drewN ?_ _ | refine blk_drew ?_ | refine blk_alloc ?_ _)); refine blk_far ?_ NB157_174.out _; (with_reducible repeat (first | refine blk_drewN ?_ _ | refine blk_drew ?_ | refine blk_alloc ?_ _)); exact BK157.out) hg (Kd.R_ne HO_158001.out BK157.out (by decide))); replace HO161 := am (Kd.R_over' (rq ((Kd.R_mono (Kd.R_far (p := ⟨gb174, 1, none⟩) (Kd.R_far (p := ⟨gb174, 0, none⟩) (Kd.R_types HO161.out BK174.out (by decide)) (fun _ hk => hk.2) (.string t171)) (fun _ hk => hk.2) (.string t172)) (fun _ h_ => h_.1)))) (Kd.R_typed (rq ((Kd.R_mono (Kd.R_far (p := ⟨gb174, 1, none⟩) (Kd.R_far (p := ⟨gb174, 0, none⟩) (Kd.R_mono HO_158001.out (fun k_ hk => (⟨hk, hk.2⟩ : _ ∧ k_ ≠ gb174))) (fun _ hk => hk.2) (.string t171)) (fun _ hk => hk.2) (.string t172)) (fun _ h_ => h_.1))))) (by decide) hg); replace BK174 := am (blk_grown (g := gb174) (o := .cells #[.string t171, .string t172] 43 (0, 0)) b53_ hg (Kd.R_away HO_158001.out (fun _ hk => hk.2))); replace HB := am (hb); have HO177 := am (ho); clear HO_158001; clear ho hb hg hat; obtain ⟨Ao37, co37, eo37⟩ := Kd.R_slice HO177.out; subst eo37; have hcz38_0 := bc BK157.out 0; have hcz38_1 := bc BK157.out 1; have hfz38_0 := bf BK157.out 0; have hfz38_1 := bf BK157.out 1))
     go_roundg k1
     case measure => have := HK1.out; omega
     case rel => exact ⟨(wrap64 (x6_1 + 1)), (x158000_1), (y175), (u158000), (.slice Ao37 y175.length co37), sq, H', ⟨b74_⟩, ⟨rq (Kd.R_mono (Kd.R_far (p := ⟨gb157, 1, none⟩) (Kd.R_types HO_4.out BK157.out (by decide)) (fun _ hk => hk.2) (.slice Ao37 y175.length co37)) (fun _ hk => trivial))⟩, ⟨rq (Kd.R_mono (Kd.R_far (p := ⟨gb157, 1, none⟩) (Kd.R_types HO_158000.out BK157.out (by decide)) (fun _ hk => hk.2) (.slice Ao37 y175.length co37)) (fun _ hk => trivial))⟩, ⟨rq (Kd.R_mono (Kd.R_far (p := ⟨gb157, 1, none⟩) (Kd.R_types HO177.out BK157.out (by decide)) (fun _ hk => hk.2) (.slice Ao37 y175.length co37)) (fun _ hk => trivial))⟩, ⟨b72_⟩, ⟨by (with_reducible repeat (first | refine blk_drewN ?_ _ | refine blk_drew ?_ | refine blk_alloc ?_ _)); refine blk_put (cs := #[u158000, u158001]) ?_ 1 _ rfl; (with_reducible repeat (first | refine blk_drewN ?_ _ | refine blk_drew ?_ | refine blk_alloc ?_ _)); exact BK157.out⟩, ⟨bel3 GE153.out GE157.out GE174.out⟩⟩
    replace c24 := Bool.eq_false_iff.mpr c24; subst c24
    have H1 : (some (([] : List (S40)), ([] : List (S43)), false)) = some (r1, r2, r3) := b22_
    replace H := H1; clear H1
    simp only [Option.some.injEq, Prod.mk.injEq] at H
    obtain ⟨rfl, rfl, rfl⟩ := H; obtain ⟨Ao39, co39, eo39⟩ := Kd.R_slice HO_4.out; subst eo39
    have p158 : 0 ≤ (x6_1 : Int) := of_decide_eq_true ad
    have q158 : x6_1 < (t154.length : Int) := of_decide_eq_true ad
    obtain ⟨ad158, e158, hx158_0⟩ := Kd.at_string (Kd.R_reads' HO_4.out).2.2 x6_1 p158 q158
    cases e158
    replace p158 := eq_true p158; replace q158 := eq_true q158
    go_wp2_with (first | ((with_reducible refine gate_callee (f := 16) rfl ?_); refine goesL_ (some 24) rfl rfl Tryd.func16 (by kernel_rfl) rfl #[.string (rdOf ByteArray.empty t154 x6_1), .int .u8 32] rfl mq ?_; (with_reducible refine (spec_l1Cut.calls k1 (rdOf ByteArray.empty t154 x6_1) 32 t159 _ A11.out).mono ?_); rintro e w40 ⟨v160, rfl, ho0, hb⟩; refine ⟨_, rfl, ?_⟩; replace HO_158000 := am (Kd.R_below (rq HO_158000.out) hb); replace HO_158001 := am (Kd.R_below (rq HO_158001.out) hb); have HO161 := am (Kd.R_lower (Kd.R_new' ho0 (Kd.R_lt (rq HO_4.out))) (below_size (bel2 GE153.out GE157.out))); replace HO_4 := am (Kd.R_elder' (rq HO_4.out) (Kd.R_base ho0) hb); replace BK153 := am (blk_below (g := gb153) (o := .cells #[.slice none 0 0, .slice none 0 0] 25 (0, 0)) (bq BK153.out) hb); replace BK157 := am (blk_below (g := gb157) (o := .cells #[u158000, u158001] 25 (0, 0)) (bq BK157.out) hb); replace HB := am (below_step (bel2 GE153.out GE157.out) hb); (try clear hb); (try clear hb2); (try clear hk); (try clear hi); (try clear ho0); obtain ⟨Ao41, co41, eo41⟩ := Kd.R_slice HO161.out; subst eo41; have p170 : 0 ≤ (x6_1 : Int) := of_decide_eq_true ad; have q170 : x6_1 < (t154.length : Int) := of_decide_eq_true ad; obtain ⟨ad170, e170, hx170_0⟩ := Kd.at_string (Kd.R_reads' HO_4.out).2.2 x6_1 p170 q170; obtain rfl : ad158 = ad170 := (by injection e170); replace p170 := eq_true p170; replace q170 := eq_true q170) | ((with_reducible refine gate_callee (f := 18) rfl ?_); refine goesL_ (some 40) rfl rfl Tryd.func18 (by kernel_rfl) rfl #[.string (rdOf ByteArray.empty t154 x6_1)] rfl mq ?_; (with_reducible refine (spec_l2EntryGet.calls k1 (rdOf ByteArray.empty t154 x6_1) t171 t172 false _ A23.out).mono ?_); rintro e w42 ⟨rfl, hb⟩; refine ⟨_, rfl, ?_⟩; replace HO_4 := am (Kd.R_below (rq HO_4.out) hb); replace HO_158000 := am (Kd.R_below (rq HO_158000.out) hb); replace HO_158001 := am (Kd.R_below (rq HO_158001.out) hb); replace HO161 := am (Kd.R_below (rq HO161.out) hb); replace BK153 := am (blk_below (g := gb153) (o := .cells #[.slice none 0 0, .slice none 0 0] 25 (0, 0)) (bq BK153.out) hb); replace BK157 := am (blk_below (g := gb157) (o := .cells #[u158000, u158001] 25 (0, 0)) (bq BK157.out) hb); replace HB := am (below_step (bel2 GE153.out GE157.out) hb); (try clear hb); (try clear hb2); (try clear hk); (try clear hi)) | ((with_reducible refine gate_dst (N := 8) rfl ?_); refine bx 8 (cs := #[.string (⟨#[]⟩ : ByteArray), .string (⟨#[]⟩ : ByteArray)]) (t := 43) ?_; intro gb174 hg w43 hbox hb; replace HO_4 := am (Kd.R_below (rq HO_4.out) hb); replace HO_158000 := am (Kd.R_below (rq HO_158000.out) hb); replace HO_158001 := am (Kd.R_below (Kd.R_elderB (rq HO_158001.out) gb174 (Nat.le_of_eq hg.symm)) hb); replace HO161 := am (Kd.R_below (rq HO161.out) hb); have BK174 := am (hbox); have GW174 := am ((b91_ : w.heap.size ≤ gb174)); have GE174 := am ((b91_ : w.heap.size ≤ gb174)); replace HB := am (below_step (bel2 GE153.out GE157.out) hb); have NB153_174 := am ((b83_ : gb153 ≠ gb174)); have NB174_153 := am ((b84_ : gb174 ≠ gb153)); replace BK153 := am (blk_below (g := gb153) (o := .cells #[.slice none 0 0, .slice none 0 0] 25 (0, 0)) (bq BK153.out) hb); have NB157_174 := am ((by rw [hg]; exact Nat.ne_of_lt (blk_lt (g := gb157) (o := .cells #[u158000, u158001] 25 (0, 0)) (bq BK157.out)) : gb157 ≠ gb174)); have NB174_157 := am ((by rw [hg]; exact Nat.ne_of_gt (blk_lt (g := gb157) (o := .cells #[u158000, u158001] 25 (0, 0)) (bq BK157.out)) : gb174 ≠ gb157)); replace BK157 := am (blk_below (g := gb157) (o := .cells #[u158000, u158001] 25 (0, 0)) (bq BK157.out) hb); clear hb hbox hg; have hnb44 := NB174_153.out; have hnc44 := NB153_174.out; have hnb45 := NB174_157.out; have hnc45 := NB157_174.out; have hcz46_0 := bc BK174.out 0; have hcz46_1 := bc BK174.out 1; have hfz46_0 := bf BK174.out 0; have hfz46_1 := bf BK174.out 1; have hnb47 := NB153_157.out; have hnc47 := NB157_153.out; have hcz48_0 := bc BK153.out 0; have hcz48_1 := bc BK153.out 1; have hfz48_0 := bf BK153.out 0; have hfz48_1 := bf BK153.out 1))
    refine bodyPost_ret (results_ct rfl _ _ gb153 25 #[.slice none 0 0, .slice none 0 0] (0, 0) _ rfl (by (with_reducible repeat (first | refine blk_drewN ?_ _ | refine blk_drew ?_ | refine blk_alloc ?_ _)); refine blk_put (cs := #[.slice none 0 0, .slice none 0 0]) ?_ 1 _ rfl; (with_reducible repeat (first | refine blk_drewN ?_ _ | refine blk_drew ?_ | refine blk_alloc ?_ _)); refine blk_put (cs := #[.slice none 0 0, .slice none 0 0]) ?_ 0 _ rfl; (with_reducible repeat (first | refine blk_drewN ?_ _ | refine blk_drew ?_ | refine blk_alloc ?_ _)); refine blk_far ?_ NB153_174.out _; (with_reducible repeat (first | refine blk_drewN ?_ _ | refine blk_drew ?_ | refine blk_alloc ?_ _)); refine blk_far ?_ NB153_174.out _; (with_reducible repeat (first | refine blk_drewN ?_ _ | refine blk_drew ?_ | refine blk_alloc ?_ _)); exact BK153.out) Tryd.underlying25 rfl (by kernel_rfl)) rfl ?_
    exact ⟨_, _, eq_, b29_, b29_, bel3 GE153.out GE157.out GE174.out⟩
   rw [if_neg c8] at H; have c8b0 := decide_eq_false c8; clear c8; replace H := bs H; obtain ⟨t178, A490, H⟩ := H; replace H : (if t178 = true then ((spec_l2Put.f k1 x158000_1 x158001_1).bind fun t179 => (if t179.toList = a0.toList then (some (x158000_1, x158001_1, true)) else (some (([] : List (S40)), ([] : List (S43)), false)))) else (some (([] : List (S40)), ([] : List (S43)), false))) = some (r1, r2, r3) := H; have A49 := Aside0.mk A490; clear A490
   by_cases c50 : t178 = true
   ·subst c50
    have H1 : ((spec_l2Put.f k1 x158000_1 x158001_1).bind fun t179 => (if t179.toList = a0.toList then (some (x158000_1, x158001_1, true)) else (some (([] : List (S40)), ([] : List (S43)), false)))) = some (r1, r2, r3) := b47_
    replace H := H1; clear H1
    replace H := bs H; obtain ⟨t179, A510, H⟩ := H; replace H : (if t179.toList = a0.toList then (some (x158000_1, x158001_1, true)) else (some (([] : List (S40)), ([] : List (S43)), false))) = some (r1, r2, r3) := H; have A51 := Aside0.mk A510; clear A510
    by_cases c52 : t179.toList = a0.toList
    ·rw [if_pos c52] at H
     have c52b0 : (t179.toList == a0.toList) = true := beq_iff_eq.mpr c52
     have c52b1 : (t179.toList != a0.toList) = false := bne_eq_false_iff_eq.mpr c52
     clear c52
     simp only [Option.some.injEq, Prod.mk.injEq] at H
     obtain ⟨rfl, rfl, rfl⟩ := H; obtain ⟨Ao53, co53, eo53⟩ := Kd.R_slice HO_4.out; subst eo53; have hnb54 := NB157_153.out; have hnc54 := NB153_157.out; have hcz55_0 := bc BK157.out 0; have hcz55_1 := bc BK157.out 1; have hfz55_0 := bf BK157.out 0; have hfz55_1 := bf BK157.out 1; obtain ⟨Ao56, co56, eo56⟩ := Kd.R_slice HO_158000.out; subst eo56; obtain ⟨Ao57, co57, eo57⟩ := Kd.R_slice HO_158001.out; subst eo57
     go_wp2_with (first | ((with_reducible refine gate_callee (f := 13) rfl ?_); refine goesL_ (some 53) rfl rfl Tryd.func13 (by kernel_rfl) rfl #[.agg #[.slice Ao56 x158000_1.length co56, .slice Ao57 x158001_1.length co57]] rfl mq ?_; (with_reducible refine (spec_BookOk.calls k1 _ _ x158000_1 _ _ x158001_1 true _ ?side1 ?side2 ?side3 ?side4 A49.out).mono ?_); (case side1 => exact cq (Kd.R_reads' HO_158000.out).2.2); (case side2 => exact (Kd.R_reads' HO_158000.out).2.1); (case side3 => exact cq (Kd.R_reads' HO_158001.out).2.2); (case side4 => exact (Kd.R_reads' HO_158001.out).2.1); rintro e w58 ⟨rfl, hb⟩; refine ⟨_, rfl, ?_⟩; replace HO_4 := am (Kd.R_below (rq HO_4.out) hb); replace HO_158000 := am (Kd.R_below (rq HO_158000.out) hb); replace HO_158001 := am (Kd.R_below (rq HO_158001.out) hb); replace BK153 := am (blk_below (g := gb153) (o := .cells #[.slice none 0 0, .slice none 0 0] 25 (0, 0)) (bq BK153.out) hb); replace BK157 := am (blk_below (g := gb157) (o := .cells #[.slice Ao56 x158000_1.length co56, .slice Ao57 x158001_1.length co57] 25 (0, 0)) (bq BK157.out) hb); replace HB := am (below_step (bel2 GE153.out GE157.out) hb); (try clear hb); (try clear hb2); (try clear hk); (try clear hi); have hcz59_0 := bc BK157.out 0; have hcz59_1 := bc BK157.out 1; have hfz59_0 := bf BK157.out 0; have hfz59_1 := bf BK157.out 1) | (go_at_call 19; (with_reducible refine (spec_l2Put.calls k1 _ _ x158000_1 _ _ x158001_1 t179 _ ?side1 ?side2 ?side3 ?side4 A51.out).mono ?_); (case side1 => exact cq (Kd.R_reads' HO_158000.out).2.2); (case side2 => exact (Kd.R_reads' HO_158000.out).2.1); (case side3 => exact cq (Kd.R_reads' HO_158001.out).2.2); (case side4 => exact (Kd.R_reads' HO_158001.out).2.1); rintro e w60 ⟨rfl, hb⟩; replace HO_4 := am (Kd.R_below (rq HO_4.out) hb); replace HO_158000 := am (Kd.R_below (rq HO_158000.out) hb); replace HO_158001 := am (Kd.R_below (rq HO_158001.out) hb); replace BK153 := am (blk_below (g := gb153) (o := .cells #[.slice none 0 0, .slice none 0 0] 25 (0, 0)) (bq BK153.out) hb); replace BK157 := am (blk_below (g := gb157) (o := .cells #[.slice Ao56 x158000_1.length co56, .slice Ao57 x158001_1.length co57] 25 (0, 0)) (bq BK157.out) hb); replace HB := am (below_step (bel2 GE153.out GE157.out) hb); (try clear hb); (try clear hb2); (try clear hk); (try clear hi); have hcz61_0 := bc BK157.out 0; have hcz61_1 := bc BK157.out 1; have hfz61_0 := bf BK157.out 0; have hfz61_1 := bf BK157.out 1; have hcz62_0 := bc BK153.out 0; have hcz62_1 := bc BK153.out 1; have hfz62_0 := bf BK153.out 0; have hfz62_1 := bf BK153.out 1))
     refine bodyPost_ret (results_ct rfl _ _ gb153 25 #[.slice Ao56 x158000_1.length co56, .slice Ao57 x158001_1.length co57] (0, 0) _ rfl (by (with_reducible repeat (first | refine blk_drewN ?_ _ | refine blk_drew ?_ | refine blk_alloc ?_ _)); refine blk_put (cs := #[.slice Ao56 x158000_1.length co56, .slice none 0 0]) ?_ 1 _ rfl; (with_reducible repeat (first | refine blk_drewN ?_ _ | refine blk_drew ?_ | refine blk_alloc ?_ _)); refine blk_put (cs := #[.slice none 0 0, .slice none 0 0]) ?_ 0 _ rfl; (with_reducible repeat (first | refine blk_drewN ?_ _ | refine blk_drew ?_ | refine blk_alloc ?_ _)); exact BK153.out) Tryd.underlying25 rfl (by kernel_rfl)) rfl ?_
     exact ⟨_, _, eq_, by (with_reducible repeat (first | apply Kd.R_alloc | apply Kd.R_drewN | apply Kd.R_drew)); exact Kd.R_mono (Kd.R_far (p := ⟨gb153, 1, none⟩) (Kd.R_far (p := ⟨gb153, 0, none⟩) (Kd.R_types HO_158000.out BK153.out (by decide)) (fun _ hk => hk.2) (.slice Ao56 x158000_1.length co56)) (fun _ hk => hk.2) (.slice Ao57 x158001_1.length co57)) (fun _ hk => trivial), by (with_reducible repeat (first | apply Kd.R_alloc | apply Kd.R_drewN | apply Kd.R_drew)); exact Kd.R_mono (Kd.R_far (p := ⟨gb153, 1, none⟩) (Kd.R_far (p := ⟨gb153, 0, none⟩) (Kd.R_types HO_158001.out BK153.out (by decide)) (fun _ hk => hk.2) (.slice Ao56 x158000_1.length co56)) (fun _ hk => hk.2) (.slice Ao57 x158001_1.length co57)) (fun _ hk => trivial), bel2 GE153.out GE157.out⟩
    rw [if_neg c52] at H
    have c52b0 : (t179.toList == a0.toList) = false := beq_eq_false_iff_ne.mpr c52
    have c52b1 : (t179.toList != a0.toList) = true := bne_iff_ne.mpr c52
    simp only [Option.some.injEq, Prod.mk.injEq] at H
    obtain ⟨rfl, rfl, rfl⟩ := H; obtain ⟨Ao63, co63, eo63⟩ := Kd.R_slice HO_4.out; subst eo63; have hnb64 := NB157_153.out; have hnc64 := NB153_157.out; have hcz65_0 := bc BK157.out 0; have hcz65_1 := bc BK157.out 1; have hfz65_0 := bf BK157.out 0; have hfz65_1 := bf BK157.out 1; obtain ⟨Ao66, co66, eo66⟩ := Kd.R_slice HO_158000.out; subst eo66; obtain ⟨Ao67, co67, eo67⟩ := Kd.R_slice HO_158001.out; subst eo67
    go_wp2_with (first | ((with_reducible refine gate_callee (f := 13) rfl ?_); refine goesL_ (some 53) rfl rfl Tryd.func13 (by kernel_rfl) rfl #[.agg #[.slice Ao66 x158000_1.length co66, .slice Ao67 x158001_1.length co67]] rfl mq ?_; (with_reducible refine (spec_BookOk.calls k1 _ _ x158000_1 _ _ x158001_1 true _ ?side1 ?side2 ?side3 ?side4 A49.out).mono ?_); (case side1 => exact cq (Kd.R_reads' HO_158000.out).2.2); (case side2 => exact (Kd.R_reads' HO_158000.out).2.1); (case side3 => exact cq (Kd.R_reads' HO_158001.out).2.2); (case side4 => exact (Kd.R_reads' HO_158001.out).2.1); rintro e w68 ⟨rfl, hb⟩; refine ⟨_, rfl, ?_⟩; replace HO_4 := am (Kd.R_below (rq HO_4.out) hb); replace HO_158000 := am (Kd.R_below (rq HO_158000.out) hb); replace HO_158001 := am (Kd.R_below (rq HO_158001.out) hb); replace BK153 := am (blk_below (g := gb153) (o := .cells #[.slice none 0 0, .slice none 0 0] 25 (0, 0)) (bq BK153.out) hb); replace BK157 := am (blk_below (g := gb157) (o := .cells #[.slice Ao66 x158000_1.length co66, .slice Ao67 x158001_1.length co67] 25 (0, 0)) (bq BK157.out) hb); replace HB := am (below_step (bel2 GE153.out GE157.out) hb); (try clear hb); (try clear hb2); (try clear hk); (try clear hi); have hcz69_0 := bc BK157.out 0; have hcz69_1 := bc BK157.out 1; have hfz69_0 := bf BK157.out 0; have hfz69_1 := bf BK157.out 1) | (go_at_call 19; (with_reducible refine (spec_l2Put.calls k1 _ _ x158000_1 _ _ x158001_1 t179 _ ?side1 ?side2 ?side3 ?side4 A51.out).mono ?_); (case side1 => exact cq (Kd.R_reads' HO_158000.out).2.2); (case side2 => exact (Kd.R_reads' HO_158000.out).2.1); (case side3 => exact cq (Kd.R_reads' HO_158001.out).2.2); (case side4 => exact (Kd.R_reads' HO_158001.out).2.1); rintro e w70 ⟨rfl, hb⟩; replace HO_4 := am (Kd.R_below (rq HO_4.out) hb); replace HO_158000 := am (Kd.R_below (rq HO_158000.out) hb); replace HO_158001 := am (Kd.R_below (rq HO_158001.out) hb); replace BK153 := am (blk_below (g := gb153) (o := .cells #[.slice none 0 0, .slice none 0 0] 25 (0, 0)) (bq BK153.out) hb); replace BK157 := am (blk_below (g := gb157) (o := .cells #[.slice Ao66 x158000_1.length co66, .slice Ao67 x158001_1.length co67] 25 (0, 0)) (bq BK157.out) hb); replace HB := am (below_step (bel2 GE153.out GE157.out) hb); (try clear hb); (try clear hb2); (try clear hk); (try clear hi); have hcz71_0 := bc BK153.out 0; have hcz71_1 := bc BK153.out 1; have hfz71_0 := bf BK153.out 0; have hfz71_1 := bf BK153.out 1))
    refine bodyPost_ret (results_ct rfl _ _ gb153 25 #[.slice none 0 0, .slice none 0 0] (0, 0) _ rfl b57_ Tryd.underlying25 rfl (by kernel_rfl)) rfl ?_
    exact ⟨_, _, eq_, b29_, b29_, bel2 GE153.out GE157.out⟩
   replace c50 := Bool.eq_false_iff.mpr c50; subst c50
   have H1 : (some (([] : List (S40)), ([] : List (S43)), false)) = some (r1, r2, r3) := b22_
   replace H := H1; clear H1
   simp only [Option.some.injEq, Prod.mk.injEq] at H
   obtain ⟨rfl, rfl, rfl⟩ := H; obtain ⟨Ao72, co72, eo72⟩ := Kd.R_slice HO_4.out; subst eo72; have hnb73 := NB157_153.out; have hnc73 := NB153_157.out; have hcz74_0 := bc BK157.out 0; have hcz74_1 := bc BK157.out 1; have hfz74_0 := bf BK157.out 0; have hfz74_1 := bf BK157.out 1; obtain ⟨Ao75, co75, eo75⟩ := Kd.R_slice HO_158000.out; subst eo75; obtain ⟨Ao76, co76, eo76⟩ := Kd.R_slice HO_158001.out; subst eo76
   go_wp2_with (first | ((with_reducible refine gate_callee (f := 13) rfl ?_); refine goesL_ (some 53) rfl rfl Tryd.func13 (by kernel_rfl) rfl #[.agg #[.slice Ao75 x158000_1.length co75, .slice Ao76 x158001_1.length co76]] rfl mq ?_; (with_reducible refine (spec_BookOk.calls k1 _ _ x158000_1 _ _ x158001_1 false _ ?side1 ?side2 ?side3 ?side4 A49.out).mono ?_); (case side1 => exact cq (Kd.R_reads' HO_158000.out).2.2); (case side2 => exact (Kd.R_reads' HO_158000.out).2.1); (case side3 => exact cq (Kd.R_reads' HO_158001.out).2.2); (case side4 => exact (Kd.R_reads' HO_158001.out).2.1); rintro e w77 ⟨rfl, hb⟩; refine ⟨_, rfl, ?_⟩; replace HO_4 := am (Kd.R_below (rq HO_4.out) hb); replace HO_158000 := am (Kd.R_below (rq HO_158000.out) hb); replace HO_158001 := am (Kd.R_below (rq HO_158001.out) hb); replace BK153 := am (blk_below (g := gb153) (o := .cells #[.slice none 0 0, .slice none 0 0] 25 (0, 0)) (bq BK153.out) hb); replace BK157 := am (blk_below (g := gb157) (o := .cells #[.slice Ao75 x158000_1.length co75, .slice Ao76 x158001_1.length co76] 25 (0, 0)) (bq BK157.out) hb); replace HB := am (below_step (bel2 GE153.out GE157.out) hb); (try clear hb); (try clear hb2); (try clear hk); (try clear hi); have hcz78_0 := bc BK153.out 0; have hcz78_1 := bc BK153.out 1; have hfz78_0 := bf BK153.out 0; have hfz78_1 := bf BK153.out 1))
   refine bodyPost_ret (results_ct rfl _ _ gb153 25 #[.slice none 0 0, .slice none 0 0] (0, 0) _ rfl b57_ Tryd.underlying25 rfl (by kernel_rfl)) rfl ?_
   exact ⟨_, _, eq_, b29_, b29_, bel2 GE153.out GE157.out⟩

/-! ### impl_upper: function 81 -/
def impl_upper.f (a0 : Int) : Option (Bool) := if a0 ≥ 65 then (some (decide (a0 ≤ 90))) else (some false)
theorem impl_upper.calls (a0 : Int) (r : Bool) (w : World) (h : impl_upper.f a0 = some r) :
  Calls Tryd.prog 81 #[.int .u8 a0] w fun e w' => e = .returned (.bool r) ∧ Drawn0 w w' := by
 have H : (if a0 ≥ 65 then (some (decide (a0 ≤ 90))) else (some false)) = some r := h
 clear h
 by_cases c2 : a0 ≥ 65
 ·rw [if_pos c2] at H; have c2b0 := decide_eq_true c2; clear c2; obtain rfl := Option.some.inj H; go_enter Tryd.func81, Tryd.ntmps81; go_wp2; go_ret
  exact ⟨sq, dr⟩
 rw [if_neg c2] at H; have c2b0 := decide_eq_false c2; clear c2; obtain rfl := Option.some.inj H; go_enter Tryd.func81, Tryd.ntmps81; go_wp2; go_ret
 exact ⟨sq, dr⟩
end Go.Proofs.YtiiefpckcgekgaaDoor.QFnBookText

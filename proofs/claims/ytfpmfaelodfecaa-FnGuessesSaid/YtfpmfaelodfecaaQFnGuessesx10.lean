import Derived.Test.YtfpmfaelodfecaaQFnGuessesx0
import Derived.Test.YtfpmfaelodfecaaQFnGuessesx8
import Derived.Test.YtfpmfaelodfecaaVMSh2
namespace Go.Proofs.Ytfpmfaelodfecaa.QFnGuesses
open Go.RowKit Go.Proofs.YtfpmfaelodfecaaW.PrintWords Go.Proofs.YtfpmfaelodfecaaW.PrintLast Go.Proofs.YtfpmfaelodfecaaW.PrintMore Go.Proofs.Ytfpmfaelodfecaa.Sh
attribute [local go_sem] max2_int min2_int max_two min_two max_three min_three max_four min_four
set_option linter.unusedVariables false
set_option linter.unusedSimpArgs false
set_option maxHeartbeats 8000000
set_option maxRecDepth 100000
-- shrunk

/-! ### spec_l13AnyWord: function 66 -/
def spec_l13AnyWord.f (k : Nat) (s0_0 : List Int) (s0_1 : Int) : Option (ByteArray × Int) := (spec_l1Rd_pick.f k s0_0 s0_1 16).bind fun bt295 => (if bt295.1 = 0 then ((spec_l1Rd_of.f k s0_0 bt295.2 (([(⟨#[]⟩ : ByteArray), (⟨#[67, 97, 116]⟩ : ByteArray), (⟨#[97, 32, 98]⟩ : ByteArray), (⟨#[97, 98, 99, 97, 98, 99, 97, 98, 99, 97, 98, 99, 97]⟩ : ByteArray), (⟨#[120, 49]⟩ : ByteArray), (⟨#[45]⟩ : ByteArray)] : List ByteArray))).bind fun bt300 => (some (bt300.1, bt300.2))) else ((spec_l13Word.f k s0_0 bt295.2).bind fun bt302 => (some (bt302.1, bt302.2))))
theorem spec_l13AnyWord.calls (k : Nat) (g : Nat) (s0_0 : List Int) (s0_1 : Int) (r1 : ByteArray) (r2 : Int) (w0 w : World) (hI : IsS127 w0 w g s0_0 s0_1) (hB : Below w0.heap.size w0 w) (h : spec_l13AnyWord.f k s0_0 s0_1 = some (r1, r2)) :
  Calls Try.prog 66 #[.pointer (some ⟨g, 0, none⟩)] w fun e w' => e = .returned (.string r1) ∧ IsS127 w0 w' g s0_0 r2 ∧ Below w0.heap.size w0 w' ∧ KeepBut w w' g none := by
 have HI0 := am hI; have HK := am (KeepBut.refl w g none); have HL := am hB.size; clear hI; have HW0 := am hB.size; have HB := am hB; clear hB
 have H : ((spec_l1Rd_pick.f k s0_0 s0_1 16).bind fun bt295 => (if bt295.1 = 0 then ((spec_l1Rd_of.f k s0_0 bt295.2 (([(⟨#[]⟩ : ByteArray), (⟨#[67, 97, 116]⟩ : ByteArray), (⟨#[97, 32, 98]⟩ : ByteArray), (⟨#[97, 98, 99, 97, 98, 99, 97, 98, 99, 97, 98, 99, 97]⟩ : ByteArray), (⟨#[120, 49]⟩ : ByteArray), (⟨#[45]⟩ : ByteArray)] : List ByteArray))).bind fun bt300 => (some (bt300.1, bt300.2))) else ((spec_l13Word.f k s0_0 bt295.2).bind fun bt302 => (some (bt302.1, bt302.2))))) = some (r1, r2) := h
 clear h; replace H := bs H; obtain ⟨⟨t295, t296⟩, A20, H⟩ := H; replace H : (if t295 = 0 then ((spec_l1Rd_of.f k s0_0 t296 (([(⟨#[]⟩ : ByteArray), (⟨#[67, 97, 116]⟩ : ByteArray), (⟨#[97, 32, 98]⟩ : ByteArray), (⟨#[97, 98, 99, 97, 98, 99, 97, 98, 99, 97, 98, 99, 97]⟩ : ByteArray), (⟨#[120, 49]⟩ : ByteArray), (⟨#[45]⟩ : ByteArray)] : List ByteArray))).bind fun bt300 => (some (bt300.1, bt300.2))) else ((spec_l13Word.f k s0_0 t296).bind fun bt302 => (some (bt302.1, bt302.2)))) = some (r1, r2) := H; have A2 := Aside0.mk A20; clear A20
 by_cases c3 : t295 = 0
 ·rw [if_pos c3] at H
  have c3b0 : (t295 == 0) = true := beq_iff_eq.mpr c3
  have c3b1 : (t295 != 0) = false := bne_eq_false_iff_eq.mpr c3
  clear c3; obtain ⟨y297, hy297⟩ : ∃ y_ : List ByteArray, y_ = (([(⟨#[]⟩ : ByteArray), (⟨#[67, 97, 116]⟩ : ByteArray), (⟨#[97, 32, 98]⟩ : ByteArray), (⟨#[97, 98, 99, 97, 98, 99, 97, 98, 99, 97, 98, 99, 97]⟩ : ByteArray), (⟨#[120, 49]⟩ : ByteArray), (⟨#[45]⟩ : ByteArray)] : List ByteArray)) := ⟨_, rfl⟩
  replace H : ((spec_l1Rd_of.f k s0_0 t296 y297).bind fun bt300 => (some (bt300.1, bt300.2))) = some (r1, r2) := by first | (rw [hy297]; with_reducible exact H) | (have H2_ := bm H; rw [hy297]; with_reducible exact H2_) | (with_reducible exact bm H) | with_reducible exact H | (rw [hy297]; exact H) | exact H
  have Ny297 := am hy297; clear hy297; replace H := bs H; obtain ⟨⟨t300, t301⟩, A40, H⟩ := H; replace H : (some (t300, t301)) = some (r1, r2) := H; have A4 := Aside0.mk A40; clear A40
  simp only [Option.some.injEq, Prod.mk.injEq] at H
  obtain ⟨rfl, rfl⟩ := H; go_enter Try.func66, Try.ntmps66
  go_wp2_with (first | ((with_reducible refine gate_callee (f := 67) rfl ?_); refine goesL_ (some 4) rfl rfl Try.func67 (by kernel_rfl) rfl #[.pointer (some ⟨g, 0, none⟩), .int .i64 16] rfl mq ?_; (with_reducible refine (spec_l1Rd_pick.calls k g s0_0 s0_1 16 t295 t296 w0 _ ?side1 ?side2 A2.out).mono ?_); (case side1 => repeat (first | (with_reducible first | exact HI0.out | apply IsS127.alloc | apply IsS127.drewN | apply IsS127.drew | apply IsS127.set_1) | exact HI0.out)); (case side2 => repeat (first | (with_reducible first | exact HB.out | apply below_alloc | apply pw_below_drewN | apply below_drew1 | refine below_set ?_ (IsS127.ge HI0.out)) | exact HB.out)); rintro e w5 ⟨rfl, hi, hb, hk⟩; refine ⟨_, rfl, ?_⟩; replace HK := am (KeepBut.trans b0_ hk (.inl rfl)); replace HB := am (hb); replace HI0 := am (hi); (try clear hb); (try clear hb2); (try clear hk); (try clear hi)) | ((with_reducible refine gate_dst (N := 7) rfl ?_); refine Kd.R_lit Kd.string _ 9 ?hg (N := 7) ?hd (xs := ([(⟨#[]⟩ : ByteArray), (⟨#[67, 97, 116]⟩ : ByteArray), (⟨#[97, 32, 98]⟩ : ByteArray), (⟨#[97, 98, 99, 97, 98, 99, 97, 98, 99, 97, 98, 99, 97]⟩ : ByteArray), (⟨#[120, 49]⟩ : ByteArray), (⟨#[45]⟩ : ByteArray)] : List ByteArray)) (inner := [.string (⟨#[]⟩ : ByteArray), .string (⟨#[67, 97, 116]⟩ : ByteArray), .string (⟨#[97, 32, 98]⟩ : ByteArray), .string (⟨#[97, 98, 99, 97, 98, 99, 97, 98, 99, 97, 98, 99, 97]⟩ : ByteArray), .string (⟨#[120, 49]⟩ : ByteArray), .string (⟨#[45]⟩ : ByteArray)]) (ok := fun _ => True) (okp := fun _ => True) ?hr ?hp (fun _ hk => hk) trivial (Below.refl _ _) (Nat.le_refl _) (by simp) ?_; (case hd => rfl); (case hg => rfl); (case hr => first | (go_simp; done) | (go_simp; rfl)); (case hp => exact (Reps.one (show Kd.M Kd.string _ _ _ (⟨#[]⟩ : ByteArray) [.string (⟨#[]⟩ : ByteArray)] from rfl) (Reps.one (show Kd.M Kd.string _ _ _ (⟨#[67, 97, 116]⟩ : ByteArray) [.string (⟨#[67, 97, 116]⟩ : ByteArray)] from rfl) (Reps.one (show Kd.M Kd.string _ _ _ (⟨#[97, 32, 98]⟩ : ByteArray) [.string (⟨#[97, 32, 98]⟩ : ByteArray)] from rfl) (Reps.one (show Kd.M Kd.string _ _ _ (⟨#[97, 98, 99, 97, 98, 99, 97, 98, 99, 97, 98, 99, 97]⟩ : ByteArray) [.string (⟨#[97, 98, 99, 97, 98, 99, 97, 98, 99, 97, 98, 99, 97]⟩ : ByteArray)] from rfl) (Reps.one (show Kd.M Kd.string _ _ _ (⟨#[120, 49]⟩ : ByteArray) [.string (⟨#[120, 49]⟩ : ByteArray)] from rfl) (Reps.one (show Kd.M Kd.string _ _ _ (⟨#[45]⟩ : ByteArray) [.string (⟨#[45]⟩ : ByteArray)] from rfl) (Reps.none _ _)))))))); intro v298 w6 ho7 hb hg_ hnew_; clear hg_ hnew_; (first | rw [← Ny297.out] at ho7 | (simp only [Int.reduceToNat] at ho7; rw [← Ny297.out] at ho7) | (simp only [Int.toNat_natCast] at ho7; rw [← Ny297.out] at ho7)); have HO299 := am (Kd.R_lower ho7 (keep_size (w := w) (g := g) (row := none) b0_)); replace HK := am (KeepBut.trans b0_ (KeepBut.of_below hb g none) (.inl rfl)); replace HB := am (below_step b1_ hb); replace HI0 := am (IsS127.below b2_ hb); clear hb ho7; obtain ⟨Ao8, co8, eo8⟩ := Kd.R_slice HO299.out; subst eo8) | ((with_reducible refine gate_callee (f := 110) rfl ?_); refine goesL_ (some 8) rfl rfl Try.func110 (by kernel_rfl) rfl #[.pointer (some ⟨g, 0, none⟩), .slice Ao8 y297.length co8] rfl mq ?_; (with_reducible refine (spec_l1Rd_of.calls k g s0_0 t296 _ _ y297 t300 t301 w0 _ ?side1 ?side2 ?side3 ?side4 ?side5 A4.out).mono ?_); (case side1 => repeat (first | (with_reducible first | exact HI0.out | apply IsS127.alloc | apply IsS127.drewN | apply IsS127.drew | apply IsS127.set_1) | exact HI0.out)); (case side2 => repeat (first | (with_reducible first | exact HB.out | apply below_alloc | apply pw_below_drewN | apply below_drew1 | refine below_set ?_ (IsS127.ge HI0.out)) | exact HB.out)); (case side3 => exact cq (Kd.R_reads' HO299.out).2.2); (case side4 => exact (Kd.R_reads' HO299.out).2.1); (case side5 => exact far_slice (IsS127.own_ne HI0.out HO299.out (by decide))); rintro e w9 ⟨rfl, hi, hb, hk⟩; refine ⟨_, rfl, ?_⟩; replace HO299 := am (Kd.R_mono (Kd.R_keep (IsS127.apart (show IsS127 w0 _ g s0_0 t296 from by repeat (first | (with_reducible first | exact HI0.out | apply IsS127.alloc | apply IsS127.drewN | apply IsS127.drew | apply IsS127.set_1) | exact HI0.out)) (rq HO299.out) (by decide)) hk (fun _ h => h.2)) (fun _ h => h.1)); replace HK := am (KeepBut.trans b0_ hk (.inl rfl)); replace HB := am (hb); replace HI0 := am (hi); (try clear hb); (try clear hb2); (try clear hk); (try clear hi)))
  go_ret
  exact ⟨eq_, b2_, b1_, b0_⟩
 rw [if_neg c3] at H
 have c3b0 : (t295 == 0) = false := beq_eq_false_iff_ne.mpr c3
 have c3b1 : (t295 != 0) = true := bne_iff_ne.mpr c3
 replace H := bs H; obtain ⟨⟨t302, t303⟩, A100, H⟩ := H; replace H : (some (t302, t303)) = some (r1, r2) := H; have A10 := Aside0.mk A100; clear A100
 simp only [Option.some.injEq, Prod.mk.injEq] at H
 obtain ⟨rfl, rfl⟩ := H; go_enter Try.func66, Try.ntmps66
 go_wp2_with (first | ((with_reducible refine gate_callee (f := 67) rfl ?_); refine goesL_ (some 4) rfl rfl Try.func67 (by kernel_rfl) rfl #[.pointer (some ⟨g, 0, none⟩), .int .i64 16] rfl mq ?_; (with_reducible refine (spec_l1Rd_pick.calls k g s0_0 s0_1 16 t295 t296 w0 _ ?side1 ?side2 A2.out).mono ?_); (case side1 => repeat (first | (with_reducible first | exact HI0.out | apply IsS127.alloc | apply IsS127.drewN | apply IsS127.drew | apply IsS127.set_1) | exact HI0.out)); (case side2 => repeat (first | (with_reducible first | exact HB.out | apply below_alloc | apply pw_below_drewN | apply below_drew1 | refine below_set ?_ (IsS127.ge HI0.out)) | exact HB.out)); rintro e w11 ⟨rfl, hi, hb, hk⟩; refine ⟨_, rfl, ?_⟩; replace HK := am (KeepBut.trans b0_ hk (.inl rfl)); replace HB := am (hb); replace HI0 := am (hi); (try clear hb); (try clear hb2); (try clear hk); (try clear hi)) | ((with_reducible refine gate_callee (f := 111) rfl ?_); refine goesL_ (some 10) rfl rfl Try.func111 (by kernel_rfl) rfl #[.pointer (some ⟨g, 0, none⟩)] rfl mq ?_; (with_reducible refine (spec_l13Word.calls k g s0_0 t296 t302 t303 w0 _ ?side1 ?side2 A10.out).mono ?_); (case side1 => repeat (first | (with_reducible first | exact HI0.out | apply IsS127.alloc | apply IsS127.drewN | apply IsS127.drew | apply IsS127.set_1) | exact HI0.out)); (case side2 => repeat (first | (with_reducible first | exact HB.out | apply below_alloc | apply pw_below_drewN | apply below_drew1 | refine below_set ?_ (IsS127.ge HI0.out)) | exact HB.out)); rintro e w12 ⟨rfl, hi, hb, hk⟩; refine ⟨_, rfl, ?_⟩; replace HK := am (KeepBut.trans b0_ hk (.inl rfl)); replace HB := am (hb); replace HI0 := am (hi); (try clear hb); (try clear hb2); (try clear hk); (try clear hi)))
 go_ret
 exact ⟨eq_, b2_, b1_, b0_⟩

/-! ### spec_l1Put: function 138 -/
mutual
def spec_l1Put.l0 : Nat → List ByteArray → ByteArray → Int → Option (List ByteArray)
 | 0, _, _, _ => none
 | k + 1, x0, x1, x5 => if x5 < (x0.length : Int) then (if 0 ≤ x5 then (spec_l1Put.j1 k x0 x1 x5 (Op.bytesLess ((rdOf ByteArray.empty x0 x5).toList) x1.toList)) else (none)) else (spec_l1Put.j1 k x0 x1 x5 false)
def spec_l1Put.j1 : Nat → List ByteArray → ByteArray → Int → Bool → Option (List ByteArray)
 | 0, _, _, _, _ => none
 | k + 1, x0, x1, x5, x17 => if x17 = true then (spec_l1Put.l0 k x0 x1 (wrap64 (x5 + 1))) else (if x5 < (x0.length : Int) then (if 0 ≤ x5 then (spec_l1Put.j2 k x0 x1 x5 ((rdOf ByteArray.empty x0 x5).toList == x1.toList)) else (none)) else (spec_l1Put.j2 k x0 x1 x5 false))
def spec_l1Put.j2 : Nat → List ByteArray → ByteArray → Int → Bool → Option (List ByteArray)
 | 0, _, _, _, _ => none
 | k + 1, x0, x1, x5, x31 => if x31 = true then (some x0) else ((some (([] : List ByteArray) : List ByteArray)).bind fun y137 => (if 0 ≤ x5 then (if x5 ≤ (x0.length : Int) then ((some (x0.take (x5 : Int).toNat : List ByteArray)).bind fun y140 => (if y137.length + y140.length < 8796093022208 then ((some (y137 ++ y140 : List ByteArray)).bind fun y145 => ((some (([x1] : List ByteArray) : List ByteArray)).bind fun y148 => (if y145.length + y148.length < 8796093022208 then ((some (y145 ++ y148 : List ByteArray)).bind fun y151 => ((some (x0.drop (x5 : Int).toNat : List ByteArray)).bind fun y154 => (if y151.length + y154.length < 8796093022208 then (some (y151 ++ y154)) else (none)))) else (none)))) else (none))) else (none)) else (none)))
end
def spec_l1Put.f (k : Nat) (l0 : List ByteArray) (a1 : ByteArray) : Option (List ByteArray) := spec_l1Put.l0 k l0 a1 0
def spec_l1Put.T6 : Bool × List (List Nat × List Nat) := (true, [([], []), ([], []), ([], []), ([1, 2], [1, 2]), ([0, 3], [0, 3]), ([], []), ([5], [5]), ([4, 6, 4], [4, 6]), ([], []), ([], []), ([8, 9], [8, 9]), ([7, 10, 7], [7, 10]), ([11, 11, 0, 1, 2, 3, 4, 5, 6, 7, 8, 9, 10, 11], [11])])
def spec_l1Put.B6 : List Nat := [0, 0, 0, 6, 15, 0, 32, 127, 0, 0, 768, 2047, 4095]
theorem spec_l1Put.tab6 : rtab .any (opsOf Try.f138 6) = spec_l1Put.T6 := by kernel_rfl
theorem spec_l1Put.bits6 : waitsOk spec_l1Put.T6.2 spec_l1Put.B6 = true := by kernel_rfl
theorem spec_l1Put.walk (k : Nat) (P0_ : Nat → Prop) (A0 : Option Addr) (c0 : Nat) (l0 : List ByteArray) (a1 : ByteArray) (r : List ByteArray) (w : World) (hs0 : Kd.V Kd.string 9 w w.heap.size (fun k_ => P0_ k_) (.slice A0 l0.length c0) l0) (h : spec_l1Put.f k l0 a1 = some r) :
  Calls Try.prog 138 #[.slice A0 l0.length c0, .string a1] w fun e w' => ∃ v0_ : Value, e = .returned (v0_) ∧ ((v0_ = .slice A0 l0.length c0 ∧ r = l0) ∨ Kd.R Kd.string 9 w' w.heap.size (fun _ => True) v0_ r) ∧ Below w.heap.size w w' := by
 have HO0 := am (show Kd.V Kd.string 9 w w.heap.size (fun k_ => (P0_ k_ ∨ w.heap.size ≤ k_)) (.slice A0 l0.length c0) l0 from Kd.V_mono hs0 (fun k_ hk => .inl hk)); have HB := am (Below.refl w.heap.size w)
 have H : (spec_l1Put.l0 k l0 a1 0) = some r := h
 clear h
 have H' := am H
 clear H; go_enter Try.func138, Try.ntmps138; go_wp2
 go_loopg [5] k (fun kq v5 w' => ∃ (x5_1 : Int), v5 = .int .i64 x5_1 ∧ Aside0 (spec_l1Put.l0 kq l0 a1 x5_1 = some r) ∧ Aside0 (kq ≤ k) ∧ Aside0 (Kd.V Kd.string 9 w' w.heap.size (fun k_ => (P0_ k_ ∨ w.heap.size ≤ k_)) (.slice A0 l0.length c0) l0) ∧ Aside0 (Below w.heap.size w w'))
 case atStart => exact ⟨(0), sq, H', ⟨Nat.le_refl _⟩, ⟨vq HO0.out⟩, ⟨bel⟩⟩
 case round =>
  clear H'; (try clear c1); (try clear p2); obtain ⟨x5_1, rfl, HA, HK1, HO_0, HB⟩ := hrel
  cases gk with
  | zero => exact absurd HA.out (by simp [spec_l1Put.l0])
  | succ k1 =>
   have H := HA.out; clear HA
   simp only [spec_l1Put.l0] at H
   have HC3 := am H; clear H
   go_upto_region 2 with (fail)
   go_cut [17] (fun v17 wc => ∃ (kq : Nat) (x17_2 : Bool), v17 = .bool x17_2 ∧ Aside0 (spec_l1Put.j1 kq l0 a1 x5_1 x17_2 = some r) ∧ Aside0 (kq ≤ k1) ∧ Aside0 (Kd.V Kd.string 9 wc w.heap.size (fun k_ => (P0_ k_ ∨ w.heap.size ≤ k_)) (.slice A0 l0.length c0) l0) ∧ Aside0 (Below w.heap.size w wc))
   case first =>
    have H := HC3.out; clear HC3
    by_cases c4 : x5_1 < (l0.length : Int)
    ·rw [if_pos c4] at H; have c4b0 := decide_eq_true c4; clear c4
     (first | rw [c4b0] | (simp only [i64_w, i32_w]; rw [c4b0]) | skip)
     replace H := it H; obtain ⟨c5b0, H⟩ := H
     have H' := am H
     clear H
     have p135 : 0 ≤ (x5_1 : Int) := of_decide_eq_true ad
     have q135 : x5_1 < (l0.length : Int) := of_decide_eq_true ad
     obtain ⟨ad135, e135, hx135_0⟩ := Kd.at_string (Kd.V_reads' HO_0.out).2.2 x5_1 p135 q135
     cases e135
     replace p135 := eq_true p135; replace q135 := eq_true q135; go_wp2
     go_meet
     case rel => exact ⟨_, ((Op.bytesLess ((rdOf ByteArray.empty l0 x5_1).toList) a1.toList)), sq, H', ⟨b38_⟩, ⟨vq HO_0.out⟩, ⟨bel⟩⟩
    rw [if_neg c4] at H; have c4b0 := decide_eq_false c4; clear c4
    (first | rw [c4b0] | (simp only [i64_w, i32_w]; rw [c4b0]) | skip)
    have H' := am H
    clear H; go_wp2
    go_meet
    case rel => exact ⟨_, (false), sq, H', ⟨b38_⟩, ⟨vq HO_0.out⟩, ⟨bel⟩⟩
   case rest =>
    clear HC3; (try clear c1); (try clear p1); (try clear q1); (try clear hx1); (try clear p2); (try clear c4); (try clear c4b0); (try clear c5); (try clear c5b0); (try clear hx135_0); (try clear p135); (try clear p2); (try clear q135); obtain ⟨kq, x17_2, rfl, HA, HJ2, HO_0, HB⟩ := hcut
    cases kq with
    | zero => exact absurd HA.out (by simp [spec_l1Put.j1])
    | succ kj2 =>
     have H := HA.out; clear HA
     simp only [spec_l1Put.j1] at H
     by_cases c6 : x17_2 = true
     ·subst c6
      have H1 : (spec_l1Put.l0 kj2 l0 a1 (wrap64 (x5_1 + 1))) = some r := b19_
      replace H := H1; clear H1
      have H' := am H
      clear H; go_wp2
      go_roundg kj2
      case measure => have := HK1.out; have := HJ2.out; omega
      case rel => exact ⟨(wrap64 (x5_1 + 1)), sq, H', ⟨by have := HK1.out; have := HJ2.out; omega⟩, ⟨vq HO_0.out⟩, ⟨bel⟩⟩
     replace c6 := Bool.eq_false_iff.mpr c6; subst c6
     have H1 : (if x5_1 < (l0.length : Int) then (if 0 ≤ x5_1 then (spec_l1Put.j2 kj2 l0 a1 x5_1 ((rdOf ByteArray.empty l0 x5_1).toList == a1.toList)) else (none)) else (spec_l1Put.j2 kj2 l0 a1 x5_1 false)) = some r := b7_
     replace H := H1; clear H1
     have HC7 := am H; clear H
     go_upto_region 4 with (fail)
     go_cut [31] (fun v31 wc => ∃ (kq : Nat) (x31_6 : Bool), v31 = .bool x31_6 ∧ Aside0 (spec_l1Put.j2 kq l0 a1 x5_1 x31_6 = some r) ∧ Aside0 (kq ≤ kj2) ∧ Aside0 (Kd.V Kd.string 9 wc w.heap.size (fun k_ => (P0_ k_ ∨ w.heap.size ≤ k_)) (.slice A0 l0.length c0) l0) ∧ Aside0 (Below w.heap.size w wc))
     case first =>
      have H := HC7.out; clear HC7
      by_cases c8 : x5_1 < (l0.length : Int)
      ·rw [if_pos c8] at H; have c8b0 := decide_eq_true c8; clear c8
       (first | rw [c8b0] | (simp only [i64_w, i32_w]; rw [c8b0]) | skip)
       replace H := it H; obtain ⟨c9b0, H⟩ := H
       have H' := am H
       clear H
       have p136 : 0 ≤ (x5_1 : Int) := of_decide_eq_true ad
       have q136 : x5_1 < (l0.length : Int) := of_decide_eq_true ad
       obtain ⟨ad136, e136, hx136_0⟩ := Kd.at_string (Kd.V_reads' HO_0.out).2.2 x5_1 p136 q136
       cases e136
       replace p136 := eq_true p136; replace q136 := eq_true q136; go_wp2
       go_meet
       case rel => exact ⟨_, (((rdOf ByteArray.empty l0 x5_1).toList == a1.toList)), sq, H', ⟨by have := HK1.out; have := HJ2.out; first | omega | exact Nat.le_refl _⟩, ⟨vq HO_0.out⟩, ⟨bel⟩⟩
      rw [if_neg c8] at H; have c8b0 := decide_eq_false c8; clear c8
      (first | rw [c8b0] | (simp only [i64_w, i32_w]; rw [c8b0]) | skip)
      have H' := am H
      clear H; go_wp2
      go_meet
      case rel => exact ⟨_, (false), sq, H', ⟨by have := HK1.out; have := HJ2.out; first | omega | exact Nat.le_refl _⟩, ⟨vq HO_0.out⟩, ⟨bel⟩⟩
     case rest =>
      clear HC7; (try clear c1); (try clear p1); (try clear q1); (try clear hx1); (try clear p2); (try clear c4); (try clear c4b0); (try clear c5); (try clear c5b0); (try clear c6); (try clear p6); (try clear c8); (try clear c8b0); (try clear c9); (try clear c9b0); (try clear hx135_0); (try clear hx136_0); (try clear p1); (try clear p135); (try clear p136); (try clear p2); (try clear q1); (try clear q135); (try clear q136); obtain ⟨kq, x31_6, rfl, HA, HJ6, HO_0, HB⟩ := hcut
      cases kq with
      | zero => exact absurd HA.out (by simp [spec_l1Put.j2])
      | succ kj6 =>
       have H := HA.out; clear HA
       simp only [spec_l1Put.j2] at H
       by_cases c10 : x31_6 = true
       ·subst c10
        have H1 : (some l0) = some r := b19_
        replace H := H1; clear H1
        obtain rfl := Option.some.inj H; go_wp2; go_ret
        exact ⟨_, eq_, .inl (by first | exact rfl | exact ⟨rfl, rfl⟩), bel⟩
       replace c10 := Bool.eq_false_iff.mpr c10; subst c10
       have H1 : ((some (([] : List ByteArray) : List ByteArray)).bind fun y137 => (if 0 ≤ x5_1 then (if x5_1 ≤ (l0.length : Int) then ((some (l0.take (x5_1 : Int).toNat : List ByteArray)).bind fun y140 => (if y137.length + y140.length < 8796093022208 then ((some (y137 ++ y140 : List ByteArray)).bind fun y145 => ((some (([a1] : List ByteArray) : List ByteArray)).bind fun y148 => (if y145.length + y148.length < 8796093022208 then ((some (y145 ++ y148 : List ByteArray)).bind fun y151 => ((some (l0.drop (x5_1 : Int).toNat : List ByteArray)).bind fun y154 => (if y151.length + y154.length < 8796093022208 then (some (y151 ++ y154)) else (none)))) else (none)))) else (none))) else (none)) else (none))) = some r := b7_
       replace H := H1; clear H1
       obtain ⟨y137, hy137⟩ : ∃ y_ : List ByteArray, y_ = (([] : List ByteArray)) := ⟨_, rfl⟩
       replace H : (if 0 ≤ x5_1 then (if x5_1 ≤ (l0.length : Int) then ((some (l0.take (x5_1 : Int).toNat : List ByteArray)).bind fun y140 => (if y137.length + y140.length < 8796093022208 then ((some (y137 ++ y140 : List ByteArray)).bind fun y145 => ((some (([a1] : List ByteArray) : List ByteArray)).bind fun y148 => (if y145.length + y148.length < 8796093022208 then ((some (y145 ++ y148 : List ByteArray)).bind fun y151 => ((some (l0.drop (x5_1 : Int).toNat : List ByteArray)).bind fun y154 => (if y151.length + y154.length < 8796093022208 then (some (y151 ++ y154)) else (none)))) else (none)))) else (none))) else (none)) else (none)) = some r := by first | (rw [hy137]; with_reducible exact H) | (have H2_ := bm H; rw [hy137]; with_reducible exact H2_) | (with_reducible exact bm H) | with_reducible exact H | (rw [hy137]; exact H) | exact H
       have Ny137 := am hy137; clear hy137
       replace H := ip H; obtain ⟨c11, H⟩ := H; have c11b0 := eq_true c11
       have c11b1 : decide (0 ≤ x5_1) = true := decide_eq_true c11
       clear c11
       replace H := ip H; obtain ⟨c12, H⟩ := H; have c12b0 := eq_true c12
       have c12b1 : decide (x5_1 ≤ (l0.length : Int)) = true := decide_eq_true c12
       clear c12; obtain ⟨y140, hy140⟩ : ∃ y_ : List ByteArray, y_ = (l0.take (x5_1 : Int).toNat) := ⟨_, rfl⟩
       replace H : (if y137.length + y140.length < 8796093022208 then ((some (y137 ++ y140 : List ByteArray)).bind fun y145 => ((some (([a1] : List ByteArray) : List ByteArray)).bind fun y148 => (if y145.length + y148.length < 8796093022208 then ((some (y145 ++ y148 : List ByteArray)).bind fun y151 => ((some (l0.drop (x5_1 : Int).toNat : List ByteArray)).bind fun y154 => (if y151.length + y154.length < 8796093022208 then (some (y151 ++ y154)) else (none)))) else (none)))) else (none)) = some r := by first | (rw [hy140]; with_reducible exact H) | (have H2_ := bm H; rw [hy140]; with_reducible exact H2_) | (with_reducible exact bm H) | with_reducible exact H | (rw [hy140]; exact H) | exact H
       have Ny140 := am hy140; clear hy140
       replace H := ip H; obtain ⟨c13, H⟩ := H; have LMc13 := Aside0.mk c13; clear c13; obtain ⟨y145, hy145⟩ : ∃ y_ : List ByteArray, y_ = (y137 ++ y140) := ⟨_, rfl⟩
       replace H : ((some (([a1] : List ByteArray) : List ByteArray)).bind fun y148 => (if y145.length + y148.length < 8796093022208 then ((some (y145 ++ y148 : List ByteArray)).bind fun y151 => ((some (l0.drop (x5_1 : Int).toNat : List ByteArray)).bind fun y154 => (if y151.length + y154.length < 8796093022208 then (some (y151 ++ y154)) else (none)))) else (none))) = some r := by first | (rw [hy145]; with_reducible exact H) | (have H2_ := bm H; rw [hy145]; with_reducible exact H2_) | (with_reducible exact bm H) | with_reducible exact H | (rw [hy145]; exact H) | exact H
       have Ny145 := am hy145; clear hy145; obtain ⟨y148, hy148⟩ : ∃ y_ : List ByteArray, y_ = (([a1] : List ByteArray)) := ⟨_, rfl⟩
       replace H : (if y145.length + y148.length < 8796093022208 then ((some (y145 ++ y148 : List ByteArray)).bind fun y151 => ((some (l0.drop (x5_1 : Int).toNat : List ByteArray)).bind fun y154 => (if y151.length + y154.length < 8796093022208 then (some (y151 ++ y154)) else (none)))) else (none)) = some r := by first | (rw [hy148]; with_reducible exact H) | (have H2_ := bm H; rw [hy148]; with_reducible exact H2_) | (with_reducible exact bm H) | with_reducible exact H | (rw [hy148]; exact H) | exact H
       have Ny148 := am hy148; clear hy148
       replace H := ip H; obtain ⟨c14, H⟩ := H; have LMc14 := Aside0.mk c14; clear c14; obtain ⟨y151, hy151⟩ : ∃ y_ : List ByteArray, y_ = (y145 ++ y148) := ⟨_, rfl⟩
       replace H : ((some (l0.drop (x5_1 : Int).toNat : List ByteArray)).bind fun y154 => (if y151.length + y154.length < 8796093022208 then (some (y151 ++ y154)) else (none))) = some r := by first | (rw [hy151]; with_reducible exact H) | (have H2_ := bm H; rw [hy151]; with_reducible exact H2_) | (with_reducible exact bm H) | with_reducible exact H | (rw [hy151]; exact H) | exact H
       have Ny151 := am hy151; clear hy151; have c15b0 := eq_true (of_decide_eq_true ad : 0 ≤ x5_1); have c16b0 := eq_true (of_decide_eq_true ad : x5_1 ≤ (l0.length : Int)); obtain ⟨y154, hy154⟩ : ∃ y_ : List ByteArray, y_ = (l0.drop (x5_1 : Int).toNat) := ⟨_, rfl⟩
       replace H : (if y151.length + y154.length < 8796093022208 then (some (y151 ++ y154)) else (none)) = some r := by first | (rw [hy154]; with_reducible exact H) | (have H2_ := bm H; rw [hy154]; with_reducible exact H2_) | (with_reducible exact bm H) | with_reducible exact H | (rw [hy154]; exact H) | exact H
       have Ny154 := am hy154; clear hy154
       replace H := ip H; obtain ⟨c17, H⟩ := H; have LMc17 := Aside0.mk c17; clear c17; obtain ⟨y159, hy159⟩ : ∃ y_ : List ByteArray, y_ = (y151 ++ y154) := ⟨_, rfl⟩
       replace H : (some y159) = some r := b42_
       have Ny159 := am hy159; clear hy159; obtain rfl := Option.some.inj H
       try go_wp2
       replace HO_0 := am (Kd.V_drew HO_0.out); replace HB := am (below_drew1 HB.out)
       have q19 : (x5_1 : Int) ≤ ((l0.length : Int) : Int) := of_decide_eq_true ad
       obtain ⟨i019, hi019, _, hsz19, _⟩ := info_parts info9
       have hroom19 : l0.length ≤ c0 := (Kd.V_reads' HO_0.out).2.1
       have hC19 : Kd.F Kd.string _ _ A0 l0.length l0 := (Kd.V_at (base := w.heap.size) HO_0.out).2.2
       have hcut19 := cut_to (P := Try.prog) 22 9 .i64 Try.underlying22 hi019 A0 l0.length c0 x5_1 (of_decide_eq_true ad) q19 hroom19
       have hr19 := Kd.F_take (m := (x5_1 : Int).toNat) hC19 (by omega)
       have hy19 : y140.length = (x5_1 : Int).toNat := (by rw [Ny140.out, List.length_take]; omega)
       rw [← Ny140.out] at hr19; rw [← hy19] at hcut19
       have HO144 := am (show Kd.V Kd.string 9 _ w.heap.size _ (.slice A0 y140.length c0) y140 from Kd.V_mk (by omega) hr19)
       have HC144 := am (show y140.length ≤ c0 from by omega)
       clear hr19 hC19 hroom19 hi019 hsz19; have KY19 := am hy19; clear hy19; replace q19 := eq_true q19
       have q20 : (x5_1 : Int) ≤ ((l0.length : Int) : Int) := of_decide_eq_true ad
       obtain ⟨i020, hi020, _, hsz20, _⟩ := info_parts info9
       have hroom20 : l0.length ≤ c0 := (Kd.V_reads' HO_0.out).2.1
       have hC20 : Kd.F Kd.string _ _ A0 l0.length l0 := (Kd.V_at (base := w.heap.size) HO_0.out).2.2
       have q020 : (0 : Int) ≤ (x5_1 : Int) := of_decide_eq_true ad
       have hcut20 := cut_from (P := Try.prog) 22 9 .i64 Try.underlying22 hi020 1 hsz20 A0 l0.length c0 x5_1 q020 q20
       have hr20 := Kd.F_cut (m := (x5_1 : Int).toNat) (c := c0) hC20 (by omega) hroom20
       obtain ⟨A20, hA20⟩ : ∃ A1, A1 = (if c0 = (x5_1 : Int).toNat then A0 else (A0 : Option Addr).map (·.add ((x5_1 : Int).toNat * 1))) := ⟨_, rfl⟩; obtain ⟨c20, hc20⟩ : ∃ c1, c1 = c0 - (x5_1 : Int).toNat := ⟨_, rfl⟩
       have hy20 : y154.length = l0.length - (x5_1 : Int).toNat := (by rw [Ny154.out, List.length_drop] <;> omega)
       rw [show (l0).drop (x5_1 : Int).toNat = y154 from Ny154.out.symm] at hr20
       replace hr20 : Kd.F Kd.string _ _ A20 y154.length y154 := (by rw [hA20]; exact hr20)
       rw [← hy20, ← hA20, ← hc20] at hcut20
       have HO158 := am (show Kd.V Kd.string 9 _ w.heap.size _ (.slice A20 y154.length c20) y154 from Kd.V_mk (by rw [hy20, hc20]; exact Nat.sub_le_sub_right hroom20 _) hr20)
       have HC158 := am (show y154.length ≤ c20 from by rw [hy20, hc20]; exact Nat.sub_le_sub_right hroom20 _)
       clear hr20 hC20 hroom20 hi020 hsz20 hc20; have KY20 := am hy20; have KA20 := am hA20; clear hy20 hA20; replace q20 := eq_true q20
       refine st (n := 13) (S := fun w' => True) (ds := []) trivial (fun hHeld => ?_); refine with_tabW spec_l1Put.tab6 spec_l1Put.bits6 (fun HT_ HW_ => ?_)
       generalize wc.drew = w18 at HO_0 HB HO144 HO158 hHeld ⊢
       refine pu 1 34 ?_
       refine pu 2 35 ?_
       refine pu 3 36 ?_
       refine pu 5 38 ?_
       refine pu 8 41 ?_
       refine pu 9 42 ?_
       refine pu 10 43 ?_
       refine join_ (σ := Value × Value × Value) 3 #[true, true, true, true, true, true, true, false, true, true, true, false, false] (fun s_ => [(33, s_.1), (37, s_.2.1), (39, s_.2.2)]) (fun s_ w' => (Kd.V Kd.string 9 w' w.heap.size (fun k_ => (P0_ k_ ∨ w.heap.size ≤ k_) ∧ some k_ ≠ (s_.2.1 : Value).ownBlock ∧ some k_ ≠ (s_.2.2 : Value).ownBlock) (.slice A0 y140.length c0) y140) ∧ (Kd.R Kd.string 9 w' w.heap.size (fun k_ => (w.heap.size ≤ k_) ∧ some k_ ≠ (s_.2.2 : Value).ownBlock) s_.2.1 y145) ∧ (Kd.R Kd.string 9 w' w.heap.size (fun k_ => (w.heap.size ≤ k_) ∧ some k_ ≠ (s_.2.1 : Value).ownBlock) s_.2.2 y148) ∧ (Kd.V Kd.string 9 w' w.heap.size (fun k_ => (P0_ k_ ∨ w.heap.size ≤ k_) ∧ some k_ ≠ (s_.2.1 : Value).ownBlock ∧ some k_ ≠ (s_.2.2 : Value).ownBlock) (.slice A20 y154.length c20) y154) ∧ (Kd.V Kd.string 9 w' w.heap.size (fun k_ => (P0_ k_ ∨ w.heap.size ≤ k_) ∧ some k_ ≠ (s_.2.1 : Value).ownBlock ∧ some k_ ≠ (s_.2.2 : Value).ownBlock) (.slice A0 l0.length c0) l0) ∧ (Below w.heap.size w w')) ?_ ?_
       rotate_left
       ·intro hCont
        refine two_ (i := 0) (j := 6) (Ni := some 33) (Nj := some 39) #[true, true, true, true, false, true, false, false, true, true, true, false, false] #[false, true, true, true, false, true, true, false, true, true, true, false, false] rfl rfl rfl rfl (two_of HT_.out (by kernel_rfl)) (by decide) (by decide) (fun K hK => ?_) (fun K hK => ?_)
        ·skip
         refine Kd.R_lit_step Kd.string _ 9 ?hg (N := 33) ?hd (xs := ([] : List ByteArray)) (inner := []) (ok := fun _ => True) (okp := fun _ => True) ?hr ?hp (fun _ hk => hk) trivial (Below.refl _ _) (Nat.le_refl _) (by simp) ?_; (case hd => rfl); (case hg => rfl); (case hr => first | (go_simp; done) | (go_simp; rfl)); (case hp => exact (Reps.none _ _))
         intro v138 w21 ho22 hb hg_ hnew_; clear hg_ hnew_
         (first | rw [← Ny137.out] at ho22 | (simp only [Int.reduceToNat] at ho22; rw [← Ny137.out] at ho22) | (simp only [Int.toNat_natCast] at ho22; rw [← Ny137.out] at ho22))
         replace HO_0 := am (Kd.V_elder' (vq HO_0.out) (Kd.R_base ho22) hb); replace HO144 := am (Kd.V_elder' (vq HO144.out) (Kd.R_base ho22) hb); replace HO158 := am (Kd.V_elder' (vq HO158.out) (Kd.R_base ho22) hb); have HO139 := am (Kd.R_lower (Kd.R_newM (M := fun k_ => (w.heap.size ≤ k_)) ho22 (below_size bel) (fun k_ h_ => h_)) (below_size bel)); replace HB := am (below_step bel hb); clear hb ho22
         refine hK.out _ _ trivial (fun hHeld => ?_)
         clear hK K
         refine norm_ (a' := ?_) ?_ ?_
         rotate_left
         ·show Act.put _ (some 33) _ = _
          simp only [Act.put, List.setIfInBounds_toArray, List.set_cons_zero, List.set_cons_succ, i64_w, i32_w]
          rfl
         refine two_ (i := 4) (j := 6) (Ni := some 37) (Nj := some 39) #[true, true, true, true, true, true, false, false, true, true, true, false, false] #[true, true, true, true, false, true, true, false, true, true, true, false, false] rfl rfl rfl rfl (two_of HT_.out (by kernel_rfl)) (by decide) (by decide) (fun K hK => ?_) (fun K hK => ?_)
         ·skip
          refine Kd.R_append_rows_step Kd.string (w0 := w) w.heap.size (by rfl) (.tmp 33) (.tmp 36) 22 9 (.string ⟨#[]⟩) 16 rfl Try.underlying22 info9 rfl (by decide) (by omega) v138 y137 y140 _ _ _ (fun k_ => (w.heap.size ≤ k_)) (fun _ => False) rfl rfl ?aO ?aR (fun _ _ h => h) (fun _ h => h.elim) ?aF ?aB ?aS ?aL ?_
          (case aR => exact cq (Kd.V_reads' HO144.out).2.2); (case aB => exact bel); (case aF => exact (fun k_ hk => (Nat.le_trans (below_size bel) hk))); (case aO => exact (rq (Kd.R_mono HO139.out (fun _ hk => hk.1)))); (case aS => exact (below_size bel)); (case aL => have := LMc13.out; omega); intro v146 w23 ho hb hg hat; rw [← Ny145.out] at ho; replace HO_0 := am (Kd.V_afterv (ok := (fun k_ => (P0_ k_ ∨ w.heap.size ≤ k_))) (vq HO_0.out) hg hat); replace HO144 := am (Kd.V_afterv (ok := (fun k_ => (P0_ k_ ∨ w.heap.size ≤ k_))) (vq HO144.out) hg hat); replace HO158 := am (Kd.V_afterv (ok := (fun k_ => (P0_ k_ ∨ w.heap.size ≤ k_))) (vq HO158.out) hg hat); replace HB := am (hb); have HO147 := am (ho); clear HO139; clear ho hb hg hat
          refine hK.out _ _ trivial (fun hHeld => ?_)
          clear hK K
          refine norm_ (a' := ?_) ?_ ?_
          rotate_left
          ·show Act.put _ (some 37) _ = _
           simp only [Act.put, List.setIfInBounds_toArray, List.set_cons_zero, List.set_cons_succ, i64_w, i32_w]
           rfl
          refine on1 6 39 (fun K hK => ?_)
          refine Kd.R_lit_step Kd.string _ 9 ?hg (N := 39) ?hd (xs := ([a1] : List ByteArray)) (inner := [.string a1]) (ok := fun _ => True) (okp := fun _ => True) ?hr ?hp (fun _ hk => hk) trivial (Below.refl _ _) (Nat.le_refl _) (by simp) ?_; (case hd => rfl); (case hg => rfl); (case hr => first | (go_simp; done) | (go_simp; rfl)); (case hp => exact (Reps.one (show Kd.M Kd.string _ _ _ a1 [.string a1] from rfl) (Reps.none _ _)))
          intro v149 w24 ho25 hb hg_ hnew_; clear hg_ hnew_
          (first | rw [← Ny148.out] at ho25 | (simp only [Int.reduceToNat] at ho25; rw [← Ny148.out] at ho25) | (simp only [Int.toNat_natCast] at ho25; rw [← Ny148.out] at ho25))
          replace HO_0 := am (Kd.V_elder' (vq HO_0.out) (Kd.R_base ho25) hb); replace HO144 := am (Kd.V_elder' (vq HO144.out) (Kd.R_base ho25) hb); replace HO158 := am (Kd.V_elder' (vq HO158.out) (Kd.R_base ho25) hb); have HO150 := am (Kd.R_lower (Kd.R_new' (Kd.R_newM (M := fun k_ => (w.heap.size ≤ k_)) ho25 (below_size bel) (fun k_ h_ => h_)) (Kd.R_lt (rq HO147.out))) (below_size bel)); replace HO147 := am (Kd.R_elder' (rq HO147.out) (Kd.R_base ho25) hb); replace HB := am (below_step bel hb); clear hb ho25
          refine hK.out _ _ trivial (fun hHeld => ?_)
          clear hK K
          refine norm_ (a' := ?_) ?_ ?_
          rotate_left
          ·show Act.put _ (some 39) _ = _
           simp only [Act.put, List.setIfInBounds_toArray, List.set_cons_zero, List.set_cons_succ, i64_w, i32_w]
           rfl
          exact norm_ b39_ (hCont (v138, v146, v149) _ ⟨(vq (Kd.V_mono HO144.out (fun _ hk => ⟨hk.1.1, ⟨hk.1.2, hk.2⟩⟩))), (rq HO147.out), (rq (Kd.R_mono HO150.out (fun _ hk => ⟨hk.1.1, hk.2⟩))), (vq (Kd.V_mono HO158.out (fun _ hk => ⟨hk.1.1, ⟨hk.1.2, hk.2⟩⟩))), (vq (Kd.V_mono HO_0.out (fun _ hk => ⟨hk.1.1, ⟨hk.1.2, hk.2⟩⟩))), bel⟩)
         ·skip
          refine Kd.R_lit_step Kd.string _ 9 ?hg (N := 39) ?hd (xs := ([a1] : List ByteArray)) (inner := [.string a1]) (ok := fun _ => True) (okp := fun _ => True) ?hr ?hp (fun _ hk => hk) trivial (Below.refl _ _) (Nat.le_refl _) (by simp) ?_; (case hd => rfl); (case hg => rfl); (case hr => first | (go_simp; done) | (go_simp; rfl)); (case hp => exact (Reps.one (show Kd.M Kd.string _ _ _ a1 [.string a1] from rfl) (Reps.none _ _)))
          intro v149 w23 ho24 hb hg_ hnew_; clear hg_ hnew_
          (first | rw [← Ny148.out] at ho24 | (simp only [Int.reduceToNat] at ho24; rw [← Ny148.out] at ho24) | (simp only [Int.toNat_natCast] at ho24; rw [← Ny148.out] at ho24))
          replace HO_0 := am (Kd.V_elder' (vq HO_0.out) (Kd.R_base ho24) hb); replace HO144 := am (Kd.V_elder' (vq HO144.out) (Kd.R_base ho24) hb); replace HO158 := am (Kd.V_elder' (vq HO158.out) (Kd.R_base ho24) hb); have HO150 := am (Kd.R_lower (Kd.R_new' (Kd.R_newM (M := fun k_ => (w.heap.size ≤ k_)) ho24 (below_size bel) (fun k_ h_ => h_)) (Kd.R_lt (rq HO139.out))) (below_size bel)); replace HO139 := am (Kd.R_elder' (rq HO139.out) (Kd.R_base ho24) hb); replace HB := am (below_step bel hb); clear hb ho24
          refine hK.out _ _ trivial (fun hHeld => ?_)
          clear hK K
          refine norm_ (a' := ?_) ?_ ?_
          rotate_left
          ·show Act.put _ (some 39) _ = _
           simp only [Act.put, List.setIfInBounds_toArray, List.set_cons_zero, List.set_cons_succ, i64_w, i32_w]
           rfl
          refine on1 4 37 (fun K hK => ?_)
          refine Kd.R_append_rows_step Kd.string (w0 := w) w.heap.size (by rfl) (.tmp 33) (.tmp 36) 22 9 (.string ⟨#[]⟩) 16 rfl Try.underlying22 info9 rfl (by decide) (by omega) v138 y137 y140 _ _ _ (fun k_ => (w.heap.size ≤ k_) ∧ some k_ ≠ (v149 : Value).ownBlock) (fun _ => False) rfl rfl ?aO ?aR (fun _ _ h => h) (fun _ h => h.elim) ?aF ?aB ?aS ?aL ?_
          (case aR => exact cq (Kd.V_reads' HO144.out).2.2); (case aB => exact bel); (case aF => exact (fun k_ hk => ⟨(Nat.le_trans (below_size bel) hk), Kd.fresh' (Kd.R_lt (rq HO150.out)) k_ hk⟩)); (case aO => exact (rq (Kd.R_mono HO139.out (fun _ hk => ⟨hk.1.1, hk.2⟩)))); (case aS => exact (below_size bel)); (case aL => have := LMc13.out; omega); intro v146 w25 ho hb hg hat; rw [← Ny145.out] at ho; replace HO_0 := am (Kd.V_afterv (ok := (fun k_ => (P0_ k_ ∨ w.heap.size ≤ k_) ∧ some k_ ≠ (v149 : Value).ownBlock)) (vq (Kd.V_mono HO_0.out (fun _ hk => ⟨⟨hk.1.1, hk.2⟩, hk.1.2⟩))) hg hat); replace HO144 := am (Kd.V_afterv (ok := (fun k_ => (P0_ k_ ∨ w.heap.size ≤ k_) ∧ some k_ ≠ (v149 : Value).ownBlock)) (vq (Kd.V_mono HO144.out (fun _ hk => ⟨⟨hk.1.1, hk.2⟩, hk.1.2⟩))) hg hat); replace HO158 := am (Kd.V_afterv (ok := (fun k_ => (P0_ k_ ∨ w.heap.size ≤ k_) ∧ some k_ ≠ (v149 : Value).ownBlock)) (vq (Kd.V_mono HO158.out (fun _ hk => ⟨⟨hk.1.1, hk.2⟩, hk.1.2⟩))) hg hat); replace HO150 := am (Kd.R_after (ok := (fun k_ => (w.heap.size ≤ k_))) (rq (Kd.R_mono HO150.out (fun _ hk => ⟨hk.1.1, hk.2⟩))) hg hat); replace HB := am (hb); have HO147 := am (ho); clear HO139; clear ho hb hg hat
          refine hK.out _ _ trivial (fun hHeld => ?_)
          clear hK K
          refine norm_ (a' := ?_) ?_ ?_
          rotate_left
          ·show Act.put _ (some 37) _ = _
           simp only [Act.put, List.setIfInBounds_toArray, List.set_cons_zero, List.set_cons_succ, i64_w, i32_w]
           rfl
          exact norm_ b39_ (hCont (v138, v146, v149) _ ⟨(vq (Kd.V_mono HO144.out (fun _ hk => ⟨hk.1.1, ⟨hk.2, hk.1.2⟩⟩))), (rq HO147.out), (rq HO150.out), (vq (Kd.V_mono HO158.out (fun _ hk => ⟨hk.1.1, ⟨hk.2, hk.1.2⟩⟩))), (vq (Kd.V_mono HO_0.out (fun _ hk => ⟨hk.1.1, ⟨hk.2, hk.1.2⟩⟩))), bel⟩)
        ·skip
         refine Kd.R_lit_step Kd.string _ 9 ?hg (N := 39) ?hd (xs := ([a1] : List ByteArray)) (inner := [.string a1]) (ok := fun _ => True) (okp := fun _ => True) ?hr ?hp (fun _ hk => hk) trivial (Below.refl _ _) (Nat.le_refl _) (by simp) ?_; (case hd => rfl); (case hg => rfl); (case hr => first | (go_simp; done) | (go_simp; rfl)); (case hp => exact (Reps.one (show Kd.M Kd.string _ _ _ a1 [.string a1] from rfl) (Reps.none _ _)))
         intro v149 w21 ho22 hb hg_ hnew_; clear hg_ hnew_
         (first | rw [← Ny148.out] at ho22 | (simp only [Int.reduceToNat] at ho22; rw [← Ny148.out] at ho22) | (simp only [Int.toNat_natCast] at ho22; rw [← Ny148.out] at ho22))
         replace HO_0 := am (Kd.V_elder' (vq HO_0.out) (Kd.R_base ho22) hb); replace HO144 := am (Kd.V_elder' (vq HO144.out) (Kd.R_base ho22) hb); replace HO158 := am (Kd.V_elder' (vq HO158.out) (Kd.R_base ho22) hb); have HO150 := am (Kd.R_lower (Kd.R_newM (M := fun k_ => (w.heap.size ≤ k_)) ho22 (below_size bel) (fun k_ h_ => h_)) (below_size bel)); replace HB := am (below_step bel hb); clear hb ho22
         refine hK.out _ _ trivial (fun hHeld => ?_)
         clear hK K
         refine norm_ (a' := ?_) ?_ ?_
         rotate_left
         ·show Act.put _ (some 39) _ = _
          simp only [Act.put, List.setIfInBounds_toArray, List.set_cons_zero, List.set_cons_succ, i64_w, i32_w]
          rfl
         refine on1 0 33 (fun K hK => ?_)
         refine Kd.R_lit_step Kd.string _ 9 ?hg (N := 33) ?hd (xs := ([] : List ByteArray)) (inner := []) (ok := fun _ => True) (okp := fun _ => True) ?hr ?hp (fun _ hk => hk) trivial (Below.refl _ _) (Nat.le_refl _) (by simp) ?_; (case hd => rfl); (case hg => rfl); (case hr => first | (go_simp; done) | (go_simp; rfl)); (case hp => exact (Reps.none _ _))
         intro v138 w23 ho24 hb hg_ hnew_; clear hg_ hnew_
         (first | rw [← Ny137.out] at ho24 | (simp only [Int.reduceToNat] at ho24; rw [← Ny137.out] at ho24) | (simp only [Int.toNat_natCast] at ho24; rw [← Ny137.out] at ho24))
         replace HO_0 := am (Kd.V_elder' (vq HO_0.out) (Kd.R_base ho24) hb); replace HO144 := am (Kd.V_elder' (vq HO144.out) (Kd.R_base ho24) hb); replace HO158 := am (Kd.V_elder' (vq HO158.out) (Kd.R_base ho24) hb); have HO139 := am (Kd.R_lower (Kd.R_new' (Kd.R_newM (M := fun k_ => (w.heap.size ≤ k_)) ho24 (below_size bel) (fun k_ h_ => h_)) (Kd.R_lt (rq HO150.out))) (below_size bel)); replace HO150 := am (Kd.R_elder' (rq HO150.out) (Kd.R_base ho24) hb); replace HB := am (below_step bel hb); clear hb ho24
         refine hK.out _ _ trivial (fun hHeld => ?_)
         clear hK K
         refine norm_ (a' := ?_) ?_ ?_
         rotate_left
         ·show Act.put _ (some 33) _ = _
          simp only [Act.put, List.setIfInBounds_toArray, List.set_cons_zero, List.set_cons_succ, i64_w, i32_w]
          rfl
         refine on1 4 37 (fun K hK => ?_)
         refine Kd.R_append_rows_step Kd.string (w0 := w) w.heap.size (by rfl) (.tmp 33) (.tmp 36) 22 9 (.string ⟨#[]⟩) 16 rfl Try.underlying22 info9 rfl (by decide) (by omega) v138 y137 y140 _ _ _ (fun k_ => (w.heap.size ≤ k_) ∧ some k_ ≠ (v149 : Value).ownBlock) (fun _ => False) rfl rfl ?aO ?aR (fun _ _ h => h) (fun _ h => h.elim) ?aF ?aB ?aS ?aL ?_
         (case aR => exact cq (Kd.V_reads' HO144.out).2.2); (case aB => exact bel); (case aF => exact (fun k_ hk => ⟨(Nat.le_trans (below_size bel) hk), Kd.fresh' (Kd.R_lt (rq HO150.out)) k_ hk⟩)); (case aO => exact (rq (Kd.R_mono HO139.out (fun _ hk => ⟨hk.1.1, hk.2⟩)))); (case aS => exact (below_size bel)); (case aL => have := LMc13.out; omega); intro v146 w25 ho hb hg hat; rw [← Ny145.out] at ho; replace HO_0 := am (Kd.V_afterv (ok := (fun k_ => (P0_ k_ ∨ w.heap.size ≤ k_) ∧ some k_ ≠ (v149 : Value).ownBlock)) (vq HO_0.out) hg hat); replace HO144 := am (Kd.V_afterv (ok := (fun k_ => (P0_ k_ ∨ w.heap.size ≤ k_) ∧ some k_ ≠ (v149 : Value).ownBlock)) (vq HO144.out) hg hat); replace HO158 := am (Kd.V_afterv (ok := (fun k_ => (P0_ k_ ∨ w.heap.size ≤ k_) ∧ some k_ ≠ (v149 : Value).ownBlock)) (vq HO158.out) hg hat); replace HO150 := am (Kd.R_after (ok := (fun k_ => (w.heap.size ≤ k_))) (rq (Kd.R_mono HO150.out (fun _ hk => ⟨hk.1.1, hk.2⟩))) hg hat); replace HB := am (hb); have HO147 := am (ho); clear HO139; clear ho hb hg hat
         refine hK.out _ _ trivial (fun hHeld => ?_)
         clear hK K
         refine norm_ (a' := ?_) ?_ ?_
         rotate_left
         ·show Act.put _ (some 37) _ = _
          simp only [Act.put, List.setIfInBounds_toArray, List.set_cons_zero, List.set_cons_succ, i64_w, i32_w]
          rfl
         exact norm_ b39_ (hCont (v138, v146, v149) _ ⟨(vq (Kd.V_mono HO144.out (fun _ hk => ⟨hk.1.1, ⟨hk.2, hk.1.2⟩⟩))), (rq HO147.out), (rq HO150.out), (vq (Kd.V_mono HO158.out (fun _ hk => ⟨hk.1.1, ⟨hk.2, hk.1.2⟩⟩))), (vq (Kd.V_mono HO_0.out (fun _ hk => ⟨hk.1.1, ⟨hk.2, hk.1.2⟩⟩))), bel⟩)
       rintro ⟨v138, v146, v149⟩ w26 ⟨h0_, h1_, h2_, h3_, h4_, h5_⟩
       have n0_ : Aside0 (Kd.V Kd.string 9 w26 w.heap.size (fun k_ => (P0_ k_ ∨ w.heap.size ≤ k_) ∧ some k_ ≠ (v146 : Value).ownBlock ∧ some k_ ≠ (v149 : Value).ownBlock) (.slice A0 y140.length c0) y140) := ⟨h0_⟩
       have n1_ : Aside0 (Kd.R Kd.string 9 w26 w.heap.size (fun k_ => (w.heap.size ≤ k_) ∧ some k_ ≠ (v149 : Value).ownBlock) v146 y145) := ⟨h1_⟩
       have n2_ : Aside0 (Kd.R Kd.string 9 w26 w.heap.size (fun k_ => (w.heap.size ≤ k_) ∧ some k_ ≠ (v146 : Value).ownBlock) v149 y148) := ⟨h2_⟩
       have n3_ : Aside0 (Kd.V Kd.string 9 w26 w.heap.size (fun k_ => (P0_ k_ ∨ w.heap.size ≤ k_) ∧ some k_ ≠ (v146 : Value).ownBlock ∧ some k_ ≠ (v149 : Value).ownBlock) (.slice A20 y154.length c20) y154) := ⟨h3_⟩
       have n4_ : Aside0 (Kd.V Kd.string 9 w26 w.heap.size (fun k_ => (P0_ k_ ∨ w.heap.size ≤ k_) ∧ some k_ ≠ (v146 : Value).ownBlock ∧ some k_ ≠ (v149 : Value).ownBlock) (.slice A0 l0.length c0) l0) := ⟨h4_⟩
       have n5_ : Aside0 (Below w.heap.size w w26) := ⟨h5_⟩
       clear HO_0; clear HB; clear h0_ h1_ h2_ h3_ h4_ h5_; have HO144 := n0_; have HO147 := n1_; have HO150 := n2_; have HO158 := n3_; have HO_0 := n4_; have HB := n5_; clear n0_ n1_ n2_ n3_ n4_ n5_; have hHeld := trivial; obtain ⟨Ao28, co28, eo28⟩ := Kd.R_slice HO150.out
       (first | subst eo28 | (injection eo28 with f1_ f2_ f3_; have f4_ := f1_.symm; have f5_ := f3_.symm; clear f1_ f2_ f3_; subst f4_; subst f5_))
       refine norm_ (a' := ?_) ?_ ?_
       rotate_left
       ·simp only [putAll, Act.put, List.setIfInBounds_toArray, List.set_cons_zero, List.set_cons_succ]
        rfl
       refine on1 7 40 (fun K hK => ?_)
       refine Kd.R_append_rows_step Kd.string (w0 := w) w.heap.size (by rfl) (.tmp 37) (.tmp 39) 22 9 (.string ⟨#[]⟩) 16 rfl Try.underlying22 info9 rfl (by decide) (by omega) v146 y145 y148 _ _ _ (fun k_ => (w.heap.size ≤ k_) ∧ some k_ ≠ (.slice Ao28 y148.length co28 : Value).ownBlock) (fun _ => False) rfl rfl ?aO ?aR (fun _ _ h => h) (fun _ h => h.elim) ?aF ?aB ?aS ?aL ?_
       (case aR => exact cq (Kd.R_reads' HO150.out).2.2); (case aB => exact bel); (case aF => exact (fun k_ hk => ⟨(Nat.le_trans (below_size bel) hk), Kd.fresh' (Kd.R_lt (rq HO150.out)) k_ hk⟩)); (case aO => exact (rq HO147.out)); (case aS => exact (below_size bel)); (case aL => have := LMc14.out; omega); intro v152 w27 ho hb hg hat; rw [← Ny151.out] at ho; replace HO_0 := am (Kd.V_afterv (ok := (fun k_ => (P0_ k_ ∨ w.heap.size ≤ k_) ∧ some k_ ≠ (.slice Ao28 y148.length co28 : Value).ownBlock)) (vq (Kd.V_mono HO_0.out (fun _ hk => ⟨⟨hk.1, hk.2.2⟩, hk.2.1⟩))) hg hat); replace HO144 := am (Kd.V_afterv (ok := (fun k_ => (P0_ k_ ∨ w.heap.size ≤ k_) ∧ some k_ ≠ (.slice Ao28 y148.length co28 : Value).ownBlock)) (vq (Kd.V_mono HO144.out (fun _ hk => ⟨⟨hk.1, hk.2.2⟩, hk.2.1⟩))) hg hat); replace HO158 := am (Kd.V_afterv (ok := (fun k_ => (P0_ k_ ∨ w.heap.size ≤ k_) ∧ some k_ ≠ (.slice Ao28 y148.length co28 : Value).ownBlock)) (vq (Kd.V_mono HO158.out (fun _ hk => ⟨⟨hk.1, hk.2.2⟩, hk.2.1⟩))) hg hat); replace HO150 := am (Kd.R_after (ok := (fun k_ => (w.heap.size ≤ k_))) (rq HO150.out) hg hat); replace HB := am (hb); have HO153 := am (ho); clear HO147; clear ho hb hg hat
       refine hK.out _ _ trivial (fun hHeld => ?_)
       clear hK K
       refine norm_ (a' := ?_) ?_ ?_
       rotate_left
       ·show Act.put _ (some 40) _ = _
        simp only [Act.put, List.setIfInBounds_toArray, List.set_cons_zero, List.set_cons_succ, i64_w, i32_w]
        rfl
       refine on1 11 44 (fun K hK => ?_)
       refine Kd.R_append_rows_step Kd.string (w0 := w) w.heap.size (by rfl) (.tmp 40) (.tmp 43) 22 9 (.string ⟨#[]⟩) 16 rfl Try.underlying22 info9 rfl (by decide) (by omega) v152 y151 y154 _ _ _ (fun k_ => (w.heap.size ≤ k_) ∧ some k_ ≠ (.slice Ao28 y148.length co28 : Value).ownBlock) (fun _ => False) rfl rfl ?aO ?aR (fun _ _ h => h) (fun _ h => h.elim) ?aF ?aB ?aS ?aL ?_
       (case aR => exact cq (Kd.V_reads' HO158.out).2.2); (case aB => exact bel); (case aF => exact (fun k_ hk => ⟨(Nat.le_trans (below_size bel) hk), Kd.fresh' (Kd.R_lt (rq HO150.out)) k_ hk⟩)); (case aO => exact (rq HO153.out)); (case aS => exact (below_size bel)); (case aL => have := LMc17.out; omega); intro v160 w29 ho hb hg hat; rw [← Ny159.out] at ho; replace HO_0 := am (Kd.V_afterv (ok := (fun k_ => (P0_ k_ ∨ w.heap.size ≤ k_) ∧ some k_ ≠ (.slice Ao28 y148.length co28 : Value).ownBlock)) (vq HO_0.out) hg hat); replace HO144 := am (Kd.V_afterv (ok := (fun k_ => (P0_ k_ ∨ w.heap.size ≤ k_) ∧ some k_ ≠ (.slice Ao28 y148.length co28 : Value).ownBlock)) (vq HO144.out) hg hat); replace HO158 := am (Kd.V_afterv (ok := (fun k_ => (P0_ k_ ∨ w.heap.size ≤ k_) ∧ some k_ ≠ (.slice Ao28 y148.length co28 : Value).ownBlock)) (vq HO158.out) hg hat); replace HO150 := am (Kd.R_after (ok := (fun k_ => (w.heap.size ≤ k_))) (rq HO150.out) hg hat); replace HB := am (hb); have HO161 := am (ho); clear HO153; clear ho hb hg hat
       refine hK.out _ _ trivial (fun hHeld => ?_)
       clear hK K
       refine norm_ (a' := ?_) ?_ ?_
       rotate_left
       ·show Act.put _ (some 44) _ = _
        simp only [Act.put, List.setIfInBounds_toArray, List.set_cons_zero, List.set_cons_succ, i64_w, i32_w]
        rfl
       refine pu 12 4 ?_
       refine done_ (done_of HT_.out (by kernel_rfl)) ?_
       try go_wp2
       go_ret
       exact ⟨_, eq_, .inr (Kd.R_mono (rq (Kd.R_mono HO161.out (fun _ hk => hk.1))) (fun _ _ => trivial)), bel⟩
theorem spec_l1Put.calls (k : Nat) (P0_ : Nat → Prop) (u9000_ : Value) (l0 : List ByteArray) (a1 : ByteArray) (r : List ByteArray) (w0 w : World) (hB : Below w0.heap.size w0 w) (ho0 : Kd.R Kd.string 9 w w0.heap.size P0_ u9000_ l0) (h : spec_l1Put.f k l0 a1 = some r) :
  Calls Try.prog 138 #[u9000_, .string a1] w fun e w' => ∃ v0_ : Value, e = .returned (v0_) ∧ Kd.R Kd.string 9 w' w0.heap.size (fun k_ => (P0_ k_ ∨ w.heap.size ≤ k_)) v0_ r ∧ Below w0.heap.size w0 w' ∧ Kept w w' (fun k_ => P0_ k_) := by
 obtain ⟨A0, c0, rfl⟩ := Kd.R_slice ho0
 have hs0 : Kd.V Kd.string 9 w w.heap.size (fun k_ => P0_ k_) (.slice A0 l0.length c0) l0 := Kd.R_V ho0
 refine (spec_l1Put.walk k P0_ A0 c0 l0 a1 r w hs0 h).mono ?_
 rintro e w' ⟨v0, rfl, hv, hb⟩
 have hb0 : Below w0.heap.size w0 w' := hB.trans (hb.mono hB.size)
 refine ⟨v0, rfl, ?_, hb0, Kept.of_below hb _⟩
 rcases hv with ⟨rfl, rfl⟩ | hR
 ·exact Kd.R_mono (Kd.R_below ho0 hb) (fun _ h => .inl h)
 ·exact Kd.R_lower (Kd.R_mono (Kd.R_bound hR) (fun k hk => .inr hk.2.1)) hB.size
-- shrunk

/-! ### spec_l2Has: function 197 -/
def spec_l2Has.l0 : Nat → ByteArray → ByteArray → Int → Option (Bool)
 | 0, _, _, _ => none
 | k + 1, x0, x1, x5 => if x5 < (x0.size : Int) then (if 0 ≤ x5 then (if x5 ≤ (wrap64 (x5 + 1)) then (if (wrap64 (x5 + 1)) ≤ (x0.size : Int) then (if (x0.extract (x5 : Int).toNat ((wrap64 (x5 + 1)) : Int).toNat).toList = x1.toList then (some true) else (spec_l2Has.l0 k x0 x1 (wrap64 (x5 + 1)))) else (none)) else (none)) else (none)) else (some false)
def spec_l2Has.f (k : Nat) (a0 : ByteArray) (a1 : ByteArray) : Option (Bool) := spec_l2Has.l0 k a0 a1 0
theorem spec_l2Has.calls (k : Nat) (a0 : ByteArray) (a1 : ByteArray) (r : Bool) (w : World) (h : spec_l2Has.f k a0 a1 = some r) :
  Calls Try.prog 197 #[.string a0, .string a1] w fun e w' => e = .returned (.bool r) ∧ Drawn0 w w' := by
 have H : (spec_l2Has.l0 k a0 a1 0) = some r := h
 clear h
 have H' := am H
 clear H; go_enter Try.func197, Try.ntmps197; go_wp2
 go_loopg [5] k (fun kq v5 w' => ∃ (x5_1 : Int), v5 = .int .i64 x5_1 ∧ Aside0 (spec_l2Has.l0 kq a0 a1 x5_1 = some r) ∧ Aside0 (kq ≤ k) ∧ Drawn0 w w')
 case atStart => exact ⟨(0), sq, H', ⟨Nat.le_refl _⟩, dr⟩
 case round =>
  clear H'; (try clear c1); (try clear p2); obtain ⟨x5_1, rfl, HA, HK1, ⟨m1, rfl⟩⟩ := hrel
  cases gk with
  | zero => exact absurd HA.out (by simp [spec_l2Has.l0])
  | succ k1 =>
   have H := HA.out; clear HA
   simp only [spec_l2Has.l0] at H
   by_cases c3 : x5_1 < (a0.size : Int)
   ·rw [if_pos c3] at H; have c3b0 := decide_eq_true c3; clear c3
    replace H := ip H; obtain ⟨c4, H⟩ := H; have c4b0 := eq_true c4
    have c4b1 : decide (0 ≤ x5_1) = true := decide_eq_true c4
    clear c4
    replace H := ip H; obtain ⟨c5, H⟩ := H; have c5b0 := eq_true c5
    have c5b1 : decide (x5_1 ≤ (wrap64 (x5_1 + 1))) = true := decide_eq_true c5
    replace H := ip H; obtain ⟨c6, H⟩ := H; have c6b0 := eq_true c6
    have c6b1 : decide ((wrap64 (x5_1 + 1)) ≤ (a0.size : Int)) = true := decide_eq_true c6
    by_cases c7 : (a0.extract (x5_1 : Int).toNat ((wrap64 (x5_1 + 1)) : Int).toNat).toList = a1.toList
    ·rw [if_pos c7] at H
     have c7b0 : ((a0.extract (x5_1 : Int).toNat ((wrap64 (x5_1 + 1)) : Int).toNat).toList == a1.toList) = true := beq_iff_eq.mpr c7
     have c7b1 : ((a0.extract (x5_1 : Int).toNat ((wrap64 (x5_1 + 1)) : Int).toNat).toList != a1.toList) = false := bne_eq_false_iff_eq.mpr c7
     clear c7; obtain rfl := Option.some.inj H; go_wp2; go_ret
     exact ⟨sq, dr⟩
    rw [if_neg c7] at H
    have c7b0 : ((a0.extract (x5_1 : Int).toNat ((wrap64 (x5_1 + 1)) : Int).toNat).toList == a1.toList) = false := beq_eq_false_iff_ne.mpr c7
    have c7b1 : ((a0.extract (x5_1 : Int).toNat ((wrap64 (x5_1 + 1)) : Int).toNat).toList != a1.toList) = true := bne_iff_ne.mpr c7
    have H' := am H
    clear H; go_wp2
    go_roundg k1
    case measure => have := HK1.out; omega
    case rel => exact ⟨(wrap64 (x5_1 + 1)), sq, H', ⟨b53_⟩, dr⟩
   rw [if_neg c3] at H; have c3b0 := decide_eq_false c3; clear c3; obtain rfl := Option.some.inj H; go_wp2; go_ret
   exact ⟨sq, dr⟩

/-! ### spec_l2Begins: function 170 -/
def spec_l2Begins.f (a0 : ByteArray) (a1 : ByteArray) : Option (Bool) := if (a0.size : Int) ≥ (a1.size : Int) then (if 0 ≤ (a1.size : Int) then (if (a1.size : Int) ≤ (a0.size : Int) then (some ((a0.extract 0 a1.size).toList == a1.toList)) else (none)) else (none)) else (some false)
theorem spec_l2Begins.calls (a0 : ByteArray) (a1 : ByteArray) (r : Bool) (w : World) (h : spec_l2Begins.f a0 a1 = some r) :
  Calls Try.prog 170 #[.string a0, .string a1] w fun e w' => e = .returned (.bool r) ∧ Drawn0 w w' := by
 have H : (if (a0.size : Int) ≥ (a1.size : Int) then (if 0 ≤ (a1.size : Int) then (if (a1.size : Int) ≤ (a0.size : Int) then (some ((a0.extract 0 a1.size).toList == a1.toList)) else (none)) else (none)) else (some false)) = some r := h
 clear h
 by_cases c3 : (a0.size : Int) ≥ (a1.size : Int)
 ·rw [if_pos c3] at H; have c3b0 := decide_eq_true c3
  have c3b1 : decide (a1.size ≤ a0.size) = true := decide_eq_true (Int.ofNat_le.mp c3)
  clear c3
  replace H := ip H; obtain ⟨c4, H⟩ := H; have c4b0 := eq_true c4
  have c4b1 : decide (0 ≤ (a1.size : Int)) = true := decide_eq_true c4
  clear c4
  replace H := ip H; obtain ⟨c5, H⟩ := H; have c5b0 := eq_true c5
  have c5b9 : (a1.size ≤ a0.size) = True := eq_true (by omega)
  have c5b6 : decide (a1.size ≤ a0.size) = true := decide_eq_true (by omega)
  have c5b1 : decide ((a1.size : Int) ≤ (a0.size : Int)) = true := decide_eq_true c5
  clear c5; obtain rfl := Option.some.inj H; go_enter Try.func170, Try.ntmps170; go_wp2; go_ret
  exact ⟨sq, dr⟩
 rw [if_neg c3] at H; have c3b0 := decide_eq_false c3
 have c3b1 : decide (a1.size ≤ a0.size) = false := decide_eq_false (fun h => c3 (Int.ofNat_le.mpr h))
 clear c3; obtain rfl := Option.some.inj H; go_enter Try.func170, Try.ntmps170; go_wp2; go_ret
 exact ⟨sq, dr⟩

/-! ### spec_l2Ends: function 171 -/
def spec_l2Ends.f (a0 : ByteArray) (a1 : ByteArray) : Option (Bool) := if (a0.size : Int) ≥ (a1.size : Int) then (if 0 ≤ (wrap64 ((a0.size : Int) - (a1.size : Int))) then (if (wrap64 ((a0.size : Int) - (a1.size : Int))) ≤ (a0.size : Int) then (some ((a0.extract ((wrap64 ((a0.size : Int) - (a1.size : Int))) : Int).toNat a0.size).toList == a1.toList)) else (none)) else (none)) else (some false)
theorem spec_l2Ends.calls (a0 : ByteArray) (a1 : ByteArray) (r : Bool) (w : World) (h : spec_l2Ends.f a0 a1 = some r) :
  Calls Try.prog 171 #[.string a0, .string a1] w fun e w' => e = .returned (.bool r) ∧ Drawn0 w w' := by
 have H : (if (a0.size : Int) ≥ (a1.size : Int) then (if 0 ≤ (wrap64 ((a0.size : Int) - (a1.size : Int))) then (if (wrap64 ((a0.size : Int) - (a1.size : Int))) ≤ (a0.size : Int) then (some ((a0.extract ((wrap64 ((a0.size : Int) - (a1.size : Int))) : Int).toNat a0.size).toList == a1.toList)) else (none)) else (none)) else (some false)) = some r := h
 clear h
 by_cases c3 : (a0.size : Int) ≥ (a1.size : Int)
 ·rw [if_pos c3] at H; have c3b0 := decide_eq_true c3
  have c3b1 : decide (a1.size ≤ a0.size) = true := decide_eq_true (Int.ofNat_le.mp c3)
  clear c3; obtain ⟨ji4, hji4⟩ : ∃ j_ : Int, (wrap64 ((a0.size : Int) - (a1.size : Int))) = j_ := ⟨_, rfl⟩
  replace H : (if 0 ≤ (ji4) then (if (ji4) ≤ (a0.size : Int) then (some ((a0.extract ((ji4) : Int).toNat a0.size).toList == a1.toList)) else (none)) else (none)) = some r := by first | (rw [hji4] at H; exact H) | (simp only [hji4] at H ⊢; exact H)
  have hji4w : (IntKind.i64.wrap ((a0.size : Int) - (a1.size : Int))) = ji4 := (i64_w _).trans hji4
  replace H := ip H; obtain ⟨c5, H⟩ := H; have c5b0 := eq_true c5
  have c5b1 : decide (0 ≤ (ji4)) = true := decide_eq_true c5
  clear c5
  replace H := ip H; obtain ⟨c6, H⟩ := H; have c6b0 := eq_true c6
  have c6b1 : decide ((ji4) ≤ (a0.size : Int)) = true := decide_eq_true c6
  clear c6; obtain rfl := Option.some.inj H; go_enter Try.func171, Try.ntmps171; go_wp2; go_ret
  exact ⟨by first | rfl | (simp; done) | (simp only [← hji4] <;> (first | rfl | simp)) | (simp [*]; done), dr⟩
 rw [if_neg c3] at H; have c3b0 := decide_eq_false c3
 have c3b1 : decide (a1.size ≤ a0.size) = false := decide_eq_false (fun h => c3 (Int.ofNat_le.mpr h))
 clear c3; obtain rfl := Option.some.inj H; go_enter Try.func171, Try.ntmps171; go_wp2; go_ret
 exact ⟨sq, dr⟩

/-! ### spec_l2Do: function 198 -/
def spec_l2Do.f (k : Nat) (a0_0 : ByteArray) (a0_1 : Bool) (a0_2 : ByteArray) (a0_3 : ByteArray) (a0_4 : ByteArray) (a1 : ByteArray) : Option (ByteArray × Bool) := if a0_1 = true then ((spec_l2Begins.f a1 a0_4).bind fun t305 => (if t305 = true then (if 0 ≤ (a0_2.size : Int) then (if (a0_2.size : Int) ≤ (a1.size : Int) then (if a0_3.size + (a1.extract a0_2.size a1.size).size ≤ 9223372036854775807 then ((spec_l1Word.f k (a0_3 ++ (a1.extract a0_2.size a1.size))).bind fun t306 => (some (a0_3 ++ (a1.extract a0_2.size a1.size), t306))) else (none)) else (none)) else (none)) else (some ((⟨#[]⟩ : ByteArray), false)))) else ((spec_l2Ends.f a1 a0_4).bind fun t307 => (if t307 = true then (if 0 ≤ (wrap64 ((a1.size : Int) - (a0_2.size : Int))) then (if (wrap64 ((a1.size : Int) - (a0_2.size : Int))) ≤ (a1.size : Int) then (if (a1.extract 0 ((wrap64 ((a1.size : Int) - (a0_2.size : Int))) : Int).toNat).size + a0_3.size ≤ 9223372036854775807 then ((spec_l1Word.f k ((a1.extract 0 ((wrap64 ((a1.size : Int) - (a0_2.size : Int))) : Int).toNat) ++ a0_3)).bind fun t308 => (some ((a1.extract 0 ((wrap64 ((a1.size : Int) - (a0_2.size : Int))) : Int).toNat) ++ a0_3, t308))) else (none)) else (none)) else (none)) else (some ((⟨#[]⟩ : ByteArray), false))))
theorem spec_l2Do.calls (k : Nat) (a0_0 : ByteArray) (a0_1 : Bool) (a0_2 : ByteArray) (a0_3 : ByteArray) (a0_4 : ByteArray) (a1 : ByteArray) (r1 : ByteArray) (r2 : Bool) (w : World) (h : spec_l2Do.f k a0_0 a0_1 a0_2 a0_3 a0_4 a1 = some (r1, r2)) :
  Calls Try.prog 198 #[.agg #[.string a0_0, .bool a0_1, .string a0_2, .string a0_3, .string a0_4], .string a1] w fun e w' => e = .returned (.tuple #[.string r1, .bool r2]) ∧ Below w.heap.size w w' := by
 have hu117 := Try.underlying117; have HB := am (Below.refl w.heap.size w)
 have H : (if a0_1 = true then ((spec_l2Begins.f a1 a0_4).bind fun t305 => (if t305 = true then (if 0 ≤ (a0_2.size : Int) then (if (a0_2.size : Int) ≤ (a1.size : Int) then (if a0_3.size + (a1.extract a0_2.size a1.size).size ≤ 9223372036854775807 then ((spec_l1Word.f k (a0_3 ++ (a1.extract a0_2.size a1.size))).bind fun t306 => (some (a0_3 ++ (a1.extract a0_2.size a1.size), t306))) else (none)) else (none)) else (none)) else (some ((⟨#[]⟩ : ByteArray), false)))) else ((spec_l2Ends.f a1 a0_4).bind fun t307 => (if t307 = true then (if 0 ≤ (wrap64 ((a1.size : Int) - (a0_2.size : Int))) then (if (wrap64 ((a1.size : Int) - (a0_2.size : Int))) ≤ (a1.size : Int) then (if (a1.extract 0 ((wrap64 ((a1.size : Int) - (a0_2.size : Int))) : Int).toNat).size + a0_3.size ≤ 9223372036854775807 then ((spec_l1Word.f k ((a1.extract 0 ((wrap64 ((a1.size : Int) - (a0_2.size : Int))) : Int).toNat) ++ a0_3)).bind fun t308 => (some ((a1.extract 0 ((wrap64 ((a1.size : Int) - (a0_2.size : Int))) : Int).toNat) ++ a0_3, t308))) else (none)) else (none)) else (none)) else (some ((⟨#[]⟩ : ByteArray), false))))) = some (r1, r2) := h
 clear h
 by_cases c3 : a0_1 = true
 ·subst c3
  have H1 : ((spec_l2Begins.f a1 a0_4).bind fun t305 => (if t305 = true then (if 0 ≤ (a0_2.size : Int) then (if (a0_2.size : Int) ≤ (a1.size : Int) then (if a0_3.size + (a1.extract a0_2.size a1.size).size ≤ 9223372036854775807 then ((spec_l1Word.f k (a0_3 ++ (a1.extract a0_2.size a1.size))).bind fun t306 => (some (a0_3 ++ (a1.extract a0_2.size a1.size), t306))) else (none)) else (none)) else (none)) else (some ((⟨#[]⟩ : ByteArray), false)))) = some (r1, r2) := b19_
  replace H := H1; clear H1
  replace H := bs H; obtain ⟨t305, A40, H⟩ := H; replace H : (if t305 = true then (if 0 ≤ (a0_2.size : Int) then (if (a0_2.size : Int) ≤ (a1.size : Int) then (if a0_3.size + (a1.extract a0_2.size a1.size).size ≤ 9223372036854775807 then ((spec_l1Word.f k (a0_3 ++ (a1.extract a0_2.size a1.size))).bind fun t306 => (some (a0_3 ++ (a1.extract a0_2.size a1.size), t306))) else (none)) else (none)) else (none)) else (some ((⟨#[]⟩ : ByteArray), false))) = some (r1, r2) := H; have A4 := Aside0.mk A40; clear A40
  by_cases c5 : t305 = true
  ·subst c5
   have H1 : (if 0 ≤ (a0_2.size : Int) then (if (a0_2.size : Int) ≤ (a1.size : Int) then (if a0_3.size + (a1.extract a0_2.size a1.size).size ≤ 9223372036854775807 then ((spec_l1Word.f k (a0_3 ++ (a1.extract a0_2.size a1.size))).bind fun t306 => (some (a0_3 ++ (a1.extract a0_2.size a1.size), t306))) else (none)) else (none)) else (none)) = some (r1, r2) := b19_
   replace H := H1; clear H1
   replace H := ip H; obtain ⟨c6, H⟩ := H; have c6b0 := eq_true c6
   have c6b1 : decide (0 ≤ (a0_2.size : Int)) = true := decide_eq_true c6
   clear c6
   replace H := ip H; obtain ⟨c7, H⟩ := H; have c7b0 := eq_true c7
   have c7b9 : (a0_2.size ≤ a1.size) = True := eq_true (by omega)
   have c7b6 : decide (a0_2.size ≤ a1.size) = true := decide_eq_true (by omega)
   have c7b1 : decide ((a0_2.size : Int) ≤ (a1.size : Int)) = true := decide_eq_true c7
   clear c7
   replace H := ip H; obtain ⟨c8, H⟩ := H; have c8b0 := eq_true c8; have c8b5 := c8
   try simp at c8b5
   try have c8b4 := eq_false (Nat.not_lt.2 c8b5)
   try have c8b3 : (9223372036854775807 < a0_3.size + (a1.size - a0_2.size)) = False := by
         have h_ := c8
         simp only [ByteArray.size_append, ByteArray.size_extract] at h_
         exact eq_false (by omega)
   have c8b1 : decide (a0_3.size + (a1.extract a0_2.size a1.size).size ≤ 9223372036854775807) = true := decide_eq_true c8
   try have c8b2 : (9223372036854775807 < a0_3.size + (a1.extract a0_2.size a1.size).size) = False := eq_false (Nat.not_lt.2 c8)
   replace H := bs H; obtain ⟨t306, A90, H⟩ := H; replace H : (some (a0_3 ++ (a1.extract a0_2.size a1.size), t306)) = some (r1, r2) := H; have A9 := Aside0.mk A90; clear A90
   simp only [Option.some.injEq, Prod.mk.injEq] at H
   obtain ⟨rfl, rfl⟩ := H; go_enter Try.func198, Try.ntmps198
   go_wp2_with (first | ((with_reducible refine gate_dst (N := 2) rfl ?_); refine bx 2 (cs := #[.string a0_0, .bool true, .string a0_2, .string a0_3, .string a0_4]) (t := 117) ?_; intro gb304 hg w10 hbox hb; have BK304 := am (hbox); have GW304 := am ((b21_ : w.heap.size ≤ gb304)); have GE304 := am ((b21_ : w.heap.size ≤ gb304)); replace HB := am (below_step bel hb); clear hb hbox hg; have hcz11_0 := bc BK304.out 0; have hcz11_1 := bc BK304.out 1; have hcz11_2 := bc BK304.out 2; have hcz11_3 := bc BK304.out 3; have hcz11_4 := bc BK304.out 4; have hfz11_0 := bf BK304.out 0; have hfz11_1 := bf BK304.out 1; have hfz11_2 := bf BK304.out 2; have hfz11_3 := bf BK304.out 3; have hfz11_4 := bf BK304.out 4) | (go_at_call 170; (with_reducible refine (spec_l2Begins.calls a1 a0_4 true _ A4.out).mono ?_); rintro e w' ⟨rfl, ⟨nd, rfl⟩⟩; (try first | exact ⟨rfl, _, World.drewN_drewN _ _ _⟩ | exact ⟨rfl, _, Eq.trans (World.drewN_drewN _ _ _) (congrArg (World.drewN _) (Nat.add_assoc _ _ _))⟩)) | (go_at_call 57; (with_reducible refine (spec_l1Word.calls k (a0_3 ++ (a1.extract a0_2.size a1.size)) t306 _ A9.out).mono ?_); rintro e w' ⟨rfl, ⟨nd, rfl⟩⟩; (try first | exact ⟨rfl, _, World.drewN_drewN _ _ _⟩ | exact ⟨rfl, _, Eq.trans (World.drewN_drewN _ _ _) (congrArg (World.drewN _) (Nat.add_assoc _ _ _))⟩)))
   repeat (go_quiet (first | ((with_reducible refine gate_dst (N := 2) rfl ?_); refine bx 2 (cs := #[.string a0_0, .bool true, .string a0_2, .string a0_3, .string a0_4]) (t := 117) ?_; intro gb304 hg w10 hbox hb; have BK304 := am (hbox); have GW304 := am ((b21_ : w.heap.size ≤ gb304)); have GE304 := am ((b21_ : w.heap.size ≤ gb304)); replace HB := am (below_step bel hb); clear hb hbox hg; have hcz11_0 := bc BK304.out 0; have hcz11_1 := bc BK304.out 1; have hcz11_2 := bc BK304.out 2; have hcz11_3 := bc BK304.out 3; have hcz11_4 := bc BK304.out 4; have hfz11_0 := bf BK304.out 0; have hfz11_1 := bf BK304.out 1; have hfz11_2 := bf BK304.out 2; have hfz11_3 := bf BK304.out 3; have hfz11_4 := bf BK304.out 4) | (go_at_call 170; (with_reducible refine (spec_l2Begins.calls a1 a0_4 true _ A4.out).mono ?_); rintro e w' ⟨rfl, ⟨nd, rfl⟩⟩; (try first | exact ⟨rfl, _, World.drewN_drewN _ _ _⟩ | exact ⟨rfl, _, Eq.trans (World.drewN_drewN _ _ _) (congrArg (World.drewN _) (Nat.add_assoc _ _ _))⟩)) | (go_at_call 57; (with_reducible refine (spec_l1Word.calls k (a0_3 ++ (a1.extract a0_2.size a1.size)) t306 _ A9.out).mono ?_); rintro e w' ⟨rfl, ⟨nd, rfl⟩⟩; (try first | exact ⟨rfl, _, World.drewN_drewN _ _ _⟩ | exact ⟨rfl, _, Eq.trans (World.drewN_drewN _ _ _) (congrArg (World.drewN _) (Nat.add_assoc _ _ _))⟩))); try go_wp2_with (first | ((with_reducible refine gate_dst (N := 2) rfl ?_); refine bx 2 (cs := #[.string a0_0, .bool true, .string a0_2, .string a0_3, .string a0_4]) (t := 117) ?_; intro gb304 hg w10 hbox hb; have BK304 := am (hbox); have GW304 := am ((b21_ : w.heap.size ≤ gb304)); have GE304 := am ((b21_ : w.heap.size ≤ gb304)); replace HB := am (below_step bel hb); clear hb hbox hg; have hcz11_0 := bc BK304.out 0; have hcz11_1 := bc BK304.out 1; have hcz11_2 := bc BK304.out 2; have hcz11_3 := bc BK304.out 3; have hcz11_4 := bc BK304.out 4; have hfz11_0 := bf BK304.out 0; have hfz11_1 := bf BK304.out 1; have hfz11_2 := bf BK304.out 2; have hfz11_3 := bf BK304.out 3; have hfz11_4 := bf BK304.out 4) | (go_at_call 170; (with_reducible refine (spec_l2Begins.calls a1 a0_4 true _ A4.out).mono ?_); rintro e w' ⟨rfl, ⟨nd, rfl⟩⟩; (try first | exact ⟨rfl, _, World.drewN_drewN _ _ _⟩ | exact ⟨rfl, _, Eq.trans (World.drewN_drewN _ _ _) (congrArg (World.drewN _) (Nat.add_assoc _ _ _))⟩)) | (go_at_call 57; (with_reducible refine (spec_l1Word.calls k (a0_3 ++ (a1.extract a0_2.size a1.size)) t306 _ A9.out).mono ?_); rintro e w' ⟨rfl, ⟨nd, rfl⟩⟩; (try first | exact ⟨rfl, _, World.drewN_drewN _ _ _⟩ | exact ⟨rfl, _, Eq.trans (World.drewN_drewN _ _ _) (congrArg (World.drewN _) (Nat.add_assoc _ _ _))⟩))))
   go_ret2
   exact ⟨eq_, bel1 GE304.out⟩
  replace c5 := Bool.eq_false_iff.mpr c5; subst c5
  have H1 : (some ((⟨#[]⟩ : ByteArray), false)) = some (r1, r2) := b7_
  replace H := H1; clear H1
  simp only [Option.some.injEq, Prod.mk.injEq] at H
  obtain ⟨rfl, rfl⟩ := H; go_enter Try.func198, Try.ntmps198
  go_wp2_with (first | ((with_reducible refine gate_dst (N := 2) rfl ?_); refine bx 2 (cs := #[.string a0_0, .bool true, .string a0_2, .string a0_3, .string a0_4]) (t := 117) ?_; intro gb304 hg w12 hbox hb; have BK304 := am (hbox); have GW304 := am ((b21_ : w.heap.size ≤ gb304)); have GE304 := am ((b21_ : w.heap.size ≤ gb304)); replace HB := am (below_step bel hb); clear hb hbox hg; have hcz13_0 := bc BK304.out 0; have hcz13_1 := bc BK304.out 1; have hcz13_2 := bc BK304.out 2; have hcz13_3 := bc BK304.out 3; have hcz13_4 := bc BK304.out 4; have hfz13_0 := bf BK304.out 0; have hfz13_1 := bf BK304.out 1; have hfz13_2 := bf BK304.out 2; have hfz13_3 := bf BK304.out 3; have hfz13_4 := bf BK304.out 4) | (go_at_call 170; (with_reducible refine (spec_l2Begins.calls a1 a0_4 false _ A4.out).mono ?_); rintro e w' ⟨rfl, ⟨nd, rfl⟩⟩; (try first | exact ⟨rfl, _, World.drewN_drewN _ _ _⟩ | exact ⟨rfl, _, Eq.trans (World.drewN_drewN _ _ _) (congrArg (World.drewN _) (Nat.add_assoc _ _ _))⟩)))
  repeat (go_quiet (first | ((with_reducible refine gate_dst (N := 2) rfl ?_); refine bx 2 (cs := #[.string a0_0, .bool true, .string a0_2, .string a0_3, .string a0_4]) (t := 117) ?_; intro gb304 hg w12 hbox hb; have BK304 := am (hbox); have GW304 := am ((b21_ : w.heap.size ≤ gb304)); have GE304 := am ((b21_ : w.heap.size ≤ gb304)); replace HB := am (below_step bel hb); clear hb hbox hg; have hcz13_0 := bc BK304.out 0; have hcz13_1 := bc BK304.out 1; have hcz13_2 := bc BK304.out 2; have hcz13_3 := bc BK304.out 3; have hcz13_4 := bc BK304.out 4; have hfz13_0 := bf BK304.out 0; have hfz13_1 := bf BK304.out 1; have hfz13_2 := bf BK304.out 2; have hfz13_3 := bf BK304.out 3; have hfz13_4 := bf BK304.out 4) | (go_at_call 170; (with_reducible refine (spec_l2Begins.calls a1 a0_4 false _ A4.out).mono ?_); rintro e w' ⟨rfl, ⟨nd, rfl⟩⟩; (try first | exact ⟨rfl, _, World.drewN_drewN _ _ _⟩ | exact ⟨rfl, _, Eq.trans (World.drewN_drewN _ _ _) (congrArg (World.drewN _) (Nat.add_assoc _ _ _))⟩))); try go_wp2_with (first | ((with_reducible refine gate_dst (N := 2) rfl ?_); refine bx 2 (cs := #[.string a0_0, .bool true, .string a0_2, .string a0_3, .string a0_4]) (t := 117) ?_; intro gb304 hg w12 hbox hb; have BK304 := am (hbox); have GW304 := am ((b21_ : w.heap.size ≤ gb304)); have GE304 := am ((b21_ : w.heap.size ≤ gb304)); replace HB := am (below_step bel hb); clear hb hbox hg; have hcz13_0 := bc BK304.out 0; have hcz13_1 := bc BK304.out 1; have hcz13_2 := bc BK304.out 2; have hcz13_3 := bc BK304.out 3; have hcz13_4 := bc BK304.out 4; have hfz13_0 := bf BK304.out 0; have hfz13_1 := bf BK304.out 1; have hfz13_2 := bf BK304.out 2; have hfz13_3 := bf BK304.out 3; have hfz13_4 := bf BK304.out 4) | (go_at_call 170; (with_reducible refine (spec_l2Begins.calls a1 a0_4 false _ A4.out).mono ?_); rintro e w' ⟨rfl, ⟨nd, rfl⟩⟩; (try first | exact ⟨rfl, _, World.drewN_drewN _ _ _⟩ | exact ⟨rfl, _, Eq.trans (World.drewN_drewN _ _ _) (congrArg (World.drewN _) (Nat.add_assoc _ _ _))⟩))))
  go_ret2
  exact ⟨eq_, bel1 GE304.out⟩
 replace c3 := Bool.eq_false_iff.mpr c3; subst c3
 have H1 : ((spec_l2Ends.f a1 a0_4).bind fun t307 => (if t307 = true then (if 0 ≤ (wrap64 ((a1.size : Int) - (a0_2.size : Int))) then (if (wrap64 ((a1.size : Int) - (a0_2.size : Int))) ≤ (a1.size : Int) then (if (a1.extract 0 ((wrap64 ((a1.size : Int) - (a0_2.size : Int))) : Int).toNat).size + a0_3.size ≤ 9223372036854775807 then ((spec_l1Word.f k ((a1.extract 0 ((wrap64 ((a1.size : Int) - (a0_2.size : Int))) : Int).toNat) ++ a0_3)).bind fun t308 => (some ((a1.extract 0 ((wrap64 ((a1.size : Int) - (a0_2.size : Int))) : Int).toNat) ++ a0_3, t308))) else (none)) else (none)) else (none)) else (some ((⟨#[]⟩ : ByteArray), false)))) = some (r1, r2) := b7_
 replace H := H1; clear H1
 replace H := bs H; obtain ⟨t307, A140, H⟩ := H; replace H : (if t307 = true then (if 0 ≤ (wrap64 ((a1.size : Int) - (a0_2.size : Int))) then (if (wrap64 ((a1.size : Int) - (a0_2.size : Int))) ≤ (a1.size : Int) then (if (a1.extract 0 ((wrap64 ((a1.size : Int) - (a0_2.size : Int))) : Int).toNat).size + a0_3.size ≤ 9223372036854775807 then ((spec_l1Word.f k ((a1.extract 0 ((wrap64 ((a1.size : Int) - (a0_2.size : Int))) : Int).toNat) ++ a0_3)).bind fun t308 => (some ((a1.extract 0 ((wrap64 ((a1.size : Int) - (a0_2.size : Int))) : Int).toNat) ++ a0_3, t308))) else (none)) else (none)) else (none)) else (some ((⟨#[]⟩ : ByteArray), false))) = some (r1, r2) := H; have A14 := Aside0.mk A140; clear A140
 by_cases c15 : t307 = true
 ·subst c15
  have H1 : (if 0 ≤ (wrap64 ((a1.size : Int) - (a0_2.size : Int))) then (if (wrap64 ((a1.size : Int) - (a0_2.size : Int))) ≤ (a1.size : Int) then (if (a1.extract 0 ((wrap64 ((a1.size : Int) - (a0_2.size : Int))) : Int).toNat).size + a0_3.size ≤ 9223372036854775807 then ((spec_l1Word.f k ((a1.extract 0 ((wrap64 ((a1.size : Int) - (a0_2.size : Int))) : Int).toNat) ++ a0_3)).bind fun t308 => (some ((a1.extract 0 ((wrap64 ((a1.size : Int) - (a0_2.size : Int))) : Int).toNat) ++ a0_3, t308))) else (none)) else (none)) else (none)) = some (r1, r2) := b19_
  replace H := H1; clear H1
  obtain ⟨ji16, hji16⟩ : ∃ j_ : Int, (wrap64 ((a1.size : Int) - (a0_2.size : Int))) = j_ := ⟨_, rfl⟩
  replace H : (if 0 ≤ (ji16) then (if (ji16) ≤ (a1.size : Int) then (if (a1.extract 0 ((ji16) : Int).toNat).size + a0_3.size ≤ 9223372036854775807 then ((spec_l1Word.f k ((a1.extract 0 ((ji16) : Int).toNat) ++ a0_3)).bind fun t308 => (some ((a1.extract 0 ((ji16) : Int).toNat) ++ a0_3, t308))) else (none)) else (none)) else (none)) = some (r1, r2) := by first | (rw [hji16] at H; exact H) | (simp only [hji16] at H ⊢; exact H)
  (try rw [hji16] at A14)
  have hji16w : (IntKind.i64.wrap ((a1.size : Int) - (a0_2.size : Int))) = ji16 := (i64_w _).trans hji16
  replace H := ip H; obtain ⟨c17, H⟩ := H; have c17b0 := eq_true c17
  have c17b1 : decide (0 ≤ (ji16)) = true := decide_eq_true c17
  clear c17
  replace H := ip H; obtain ⟨c18, H⟩ := H; have c18b0 := eq_true c18
  have c18b1 : decide ((ji16) ≤ (a1.size : Int)) = true := decide_eq_true c18
  clear c18
  replace H := ip H; obtain ⟨c19, H⟩ := H; have c19b0 := eq_true c19; have c19b5 := c19
  try simp at c19b5
  try have c19b4 := eq_false (Nat.not_lt.2 c19b5)
  try have c19b3 : (9223372036854775807 < ((ji16) : Int).toNat + a0_3.size) = False := by
        have h_ := c19
        simp only [ByteArray.size_append, ByteArray.size_extract] at h_
        have g0_ : ((ji16)) ≤ (a1.size : Int) := of_decide_eq_true ad
        exact eq_false (by omega)
  have c19b1 : decide ((a1.extract 0 ((ji16) : Int).toNat).size + a0_3.size ≤ 9223372036854775807) = true := decide_eq_true c19
  try have c19b2 : (9223372036854775807 < (a1.extract 0 ((ji16) : Int).toNat).size + a0_3.size) = False := eq_false (Nat.not_lt.2 c19)
  replace H := bs H; obtain ⟨t308, A200, H⟩ := H; replace H : (some ((a1.extract 0 ((ji16) : Int).toNat) ++ a0_3, t308)) = some (r1, r2) := H; have A20 := Aside0.mk A200; clear A200
  simp only [Option.some.injEq, Prod.mk.injEq] at H
  obtain ⟨rfl, rfl⟩ := H; go_enter Try.func198, Try.ntmps198
  go_wp2_with (first | ((with_reducible refine gate_dst (N := 2) rfl ?_); refine bx 2 (cs := #[.string a0_0, .bool false, .string a0_2, .string a0_3, .string a0_4]) (t := 117) ?_; intro gb304 hg w21 hbox hb; have BK304 := am (hbox); have GW304 := am ((b21_ : w.heap.size ≤ gb304)); have GE304 := am ((b21_ : w.heap.size ≤ gb304)); replace HB := am (below_step bel hb); clear hb hbox hg; have hcz22_0 := bc BK304.out 0; have hcz22_1 := bc BK304.out 1; have hcz22_2 := bc BK304.out 2; have hcz22_3 := bc BK304.out 3; have hcz22_4 := bc BK304.out 4; have hfz22_0 := bf BK304.out 0; have hfz22_1 := bf BK304.out 1; have hfz22_2 := bf BK304.out 2; have hfz22_3 := bf BK304.out 3; have hfz22_4 := bf BK304.out 4) | (go_at_call 171; (with_reducible refine (spec_l2Ends.calls a1 a0_4 true _ A14.out).mono ?_); rintro e w' ⟨rfl, ⟨nd, rfl⟩⟩; (try first | exact ⟨rfl, _, World.drewN_drewN _ _ _⟩ | exact ⟨rfl, _, Eq.trans (World.drewN_drewN _ _ _) (congrArg (World.drewN _) (Nat.add_assoc _ _ _))⟩)) | (go_at_call 57; (with_reducible refine (spec_l1Word.calls k ((a1.extract 0 ((ji16) : Int).toNat) ++ a0_3) t308 _ A20.out).mono ?_); rintro e w' ⟨rfl, ⟨nd, rfl⟩⟩; (try first | exact ⟨rfl, _, World.drewN_drewN _ _ _⟩ | exact ⟨rfl, _, Eq.trans (World.drewN_drewN _ _ _) (congrArg (World.drewN _) (Nat.add_assoc _ _ _))⟩)))
  repeat (go_quiet (first | ((with_reducible refine gate_dst (N := 2) rfl ?_); refine bx 2 (cs := #[.string a0_0, .bool false, .string a0_2, .string a0_3, .string a0_4]) (t := 117) ?_; intro gb304 hg w21 hbox hb; have BK304 := am (hbox); have GW304 := am ((b21_ : w.heap.size ≤ gb304)); have GE304 := am ((b21_ : w.heap.size ≤ gb304)); replace HB := am (below_step bel hb); clear hb hbox hg; have hcz22_0 := bc BK304.out 0; have hcz22_1 := bc BK304.out 1; have hcz22_2 := bc BK304.out 2; have hcz22_3 := bc BK304.out 3; have hcz22_4 := bc BK304.out 4; have hfz22_0 := bf BK304.out 0; have hfz22_1 := bf BK304.out 1; have hfz22_2 := bf BK304.out 2; have hfz22_3 := bf BK304.out 3; have hfz22_4 := bf BK304.out 4) | (go_at_call 171; (with_reducible refine (spec_l2Ends.calls a1 a0_4 true _ A14.out).mono ?_); rintro e w' ⟨rfl, ⟨nd, rfl⟩⟩; (try first | exact ⟨rfl, _, World.drewN_drewN _ _ _⟩ | exact ⟨rfl, _, Eq.trans (World.drewN_drewN _ _ _) (congrArg (World.drewN _) (Nat.add_assoc _ _ _))⟩)) | (go_at_call 57; (with_reducible refine (spec_l1Word.calls k ((a1.extract 0 ((ji16) : Int).toNat) ++ a0_3) t308 _ A20.out).mono ?_); rintro e w' ⟨rfl, ⟨nd, rfl⟩⟩; (try first | exact ⟨rfl, _, World.drewN_drewN _ _ _⟩ | exact ⟨rfl, _, Eq.trans (World.drewN_drewN _ _ _) (congrArg (World.drewN _) (Nat.add_assoc _ _ _))⟩))); try go_wp2_with (first | ((with_reducible refine gate_dst (N := 2) rfl ?_); refine bx 2 (cs := #[.string a0_0, .bool false, .string a0_2, .string a0_3, .string a0_4]) (t := 117) ?_; intro gb304 hg w21 hbox hb; have BK304 := am (hbox); have GW304 := am ((b21_ : w.heap.size ≤ gb304)); have GE304 := am ((b21_ : w.heap.size ≤ gb304)); replace HB := am (below_step bel hb); clear hb hbox hg; have hcz22_0 := bc BK304.out 0; have hcz22_1 := bc BK304.out 1; have hcz22_2 := bc BK304.out 2; have hcz22_3 := bc BK304.out 3; have hcz22_4 := bc BK304.out 4; have hfz22_0 := bf BK304.out 0; have hfz22_1 := bf BK304.out 1; have hfz22_2 := bf BK304.out 2; have hfz22_3 := bf BK304.out 3; have hfz22_4 := bf BK304.out 4) | (go_at_call 171; (with_reducible refine (spec_l2Ends.calls a1 a0_4 true _ A14.out).mono ?_); rintro e w' ⟨rfl, ⟨nd, rfl⟩⟩; (try first | exact ⟨rfl, _, World.drewN_drewN _ _ _⟩ | exact ⟨rfl, _, Eq.trans (World.drewN_drewN _ _ _) (congrArg (World.drewN _) (Nat.add_assoc _ _ _))⟩)) | (go_at_call 57; (with_reducible refine (spec_l1Word.calls k ((a1.extract 0 ((ji16) : Int).toNat) ++ a0_3) t308 _ A20.out).mono ?_); rintro e w' ⟨rfl, ⟨nd, rfl⟩⟩; (try first | exact ⟨rfl, _, World.drewN_drewN _ _ _⟩ | exact ⟨rfl, _, Eq.trans (World.drewN_drewN _ _ _) (congrArg (World.drewN _) (Nat.add_assoc _ _ _))⟩))))
  go_ret2
  exact ⟨by first | rfl | (simp [errW_none, errW_some] <;> rfl) | (simp only [← hji16]; first | rfl | (simp [errW_none, errW_some] <;> rfl)) | (simp [*, errW_none, errW_some] <;> rfl), bel1 GE304.out⟩
 replace c15 := Bool.eq_false_iff.mpr c15; subst c15
 have H1 : (some ((⟨#[]⟩ : ByteArray), false)) = some (r1, r2) := b7_
 replace H := H1; clear H1
 simp only [Option.some.injEq, Prod.mk.injEq] at H
 obtain ⟨rfl, rfl⟩ := H; go_enter Try.func198, Try.ntmps198
 go_wp2_with (first | ((with_reducible refine gate_dst (N := 2) rfl ?_); refine bx 2 (cs := #[.string a0_0, .bool false, .string a0_2, .string a0_3, .string a0_4]) (t := 117) ?_; intro gb304 hg w23 hbox hb; have BK304 := am (hbox); have GW304 := am ((b21_ : w.heap.size ≤ gb304)); have GE304 := am ((b21_ : w.heap.size ≤ gb304)); replace HB := am (below_step bel hb); clear hb hbox hg; have hcz24_0 := bc BK304.out 0; have hcz24_1 := bc BK304.out 1; have hcz24_2 := bc BK304.out 2; have hcz24_3 := bc BK304.out 3; have hcz24_4 := bc BK304.out 4; have hfz24_0 := bf BK304.out 0; have hfz24_1 := bf BK304.out 1; have hfz24_2 := bf BK304.out 2; have hfz24_3 := bf BK304.out 3; have hfz24_4 := bf BK304.out 4) | (go_at_call 171; (with_reducible refine (spec_l2Ends.calls a1 a0_4 false _ A14.out).mono ?_); rintro e w' ⟨rfl, ⟨nd, rfl⟩⟩; (try first | exact ⟨rfl, _, World.drewN_drewN _ _ _⟩ | exact ⟨rfl, _, Eq.trans (World.drewN_drewN _ _ _) (congrArg (World.drewN _) (Nat.add_assoc _ _ _))⟩)))
 repeat (go_quiet (first | ((with_reducible refine gate_dst (N := 2) rfl ?_); refine bx 2 (cs := #[.string a0_0, .bool false, .string a0_2, .string a0_3, .string a0_4]) (t := 117) ?_; intro gb304 hg w23 hbox hb; have BK304 := am (hbox); have GW304 := am ((b21_ : w.heap.size ≤ gb304)); have GE304 := am ((b21_ : w.heap.size ≤ gb304)); replace HB := am (below_step bel hb); clear hb hbox hg; have hcz24_0 := bc BK304.out 0; have hcz24_1 := bc BK304.out 1; have hcz24_2 := bc BK304.out 2; have hcz24_3 := bc BK304.out 3; have hcz24_4 := bc BK304.out 4; have hfz24_0 := bf BK304.out 0; have hfz24_1 := bf BK304.out 1; have hfz24_2 := bf BK304.out 2; have hfz24_3 := bf BK304.out 3; have hfz24_4 := bf BK304.out 4) | (go_at_call 171; (with_reducible refine (spec_l2Ends.calls a1 a0_4 false _ A14.out).mono ?_); rintro e w' ⟨rfl, ⟨nd, rfl⟩⟩; (try first | exact ⟨rfl, _, World.drewN_drewN _ _ _⟩ | exact ⟨rfl, _, Eq.trans (World.drewN_drewN _ _ _) (congrArg (World.drewN _) (Nat.add_assoc _ _ _))⟩))); try go_wp2_with (first | ((with_reducible refine gate_dst (N := 2) rfl ?_); refine bx 2 (cs := #[.string a0_0, .bool false, .string a0_2, .string a0_3, .string a0_4]) (t := 117) ?_; intro gb304 hg w23 hbox hb; have BK304 := am (hbox); have GW304 := am ((b21_ : w.heap.size ≤ gb304)); have GE304 := am ((b21_ : w.heap.size ≤ gb304)); replace HB := am (below_step bel hb); clear hb hbox hg; have hcz24_0 := bc BK304.out 0; have hcz24_1 := bc BK304.out 1; have hcz24_2 := bc BK304.out 2; have hcz24_3 := bc BK304.out 3; have hcz24_4 := bc BK304.out 4; have hfz24_0 := bf BK304.out 0; have hfz24_1 := bf BK304.out 1; have hfz24_2 := bf BK304.out 2; have hfz24_3 := bf BK304.out 3; have hfz24_4 := bf BK304.out 4) | (go_at_call 171; (with_reducible refine (spec_l2Ends.calls a1 a0_4 false _ A14.out).mono ?_); rintro e w' ⟨rfl, ⟨nd, rfl⟩⟩; (try first | exact ⟨rfl, _, World.drewN_drewN _ _ _⟩ | exact ⟨rfl, _, Eq.trans (World.drewN_drewN _ _ _) (congrArg (World.drewN _) (Nat.add_assoc _ _ _))⟩))))
 go_ret2
 exact ⟨eq_, bel1 GE304.out⟩
-- shrunk

/-! ### spec_l2One: function 181 -/
mutual
def spec_l2One.l0 : Nat → List (S117) → ByteArray → Bool → List ByteArray → List ByteArray → Int → Option (List ByteArray)
 | 0, _, _, _, _, _, _ => none
 | k + 1, x0, x1, x2, x3, x9, x10 => if x10 < (x0.length : Int) then (if 0 ≤ x10 then (if (((rd_T117 x0 x10).f1) != x2) = true then (spec_l2One.j1 k x0 x1 x2 x3 x9 x10 true) else ((spec_l2Has.f k x1 ((rd_T117 x0 x10).f0)).bind fun t317 => (spec_l2One.j1 k x0 x1 x2 x3 x9 x10 (!t317)))) else (none)) else (some x9)
def spec_l2One.j1 : Nat → List (S117) → ByteArray → Bool → List ByteArray → List ByteArray → Int → Bool → Option (List ByteArray)
 | 0, _, _, _, _, _, _, _ => none
 | k + 1, x0, x1, x2, x3, x9, x10, x39 => if x39 = true then (spec_l2One.l0 k x0 x1 x2 x3 x9 (wrap64 (x10 + 1))) else (spec_l2One.l1 k x0 x1 x2 x3 x9 x10 0)
def spec_l2One.l1 : Nat → List (S117) → ByteArray → Bool → List ByteArray → List ByteArray → Int → Int → Option (List ByteArray)
 | 0, _, _, _, _, _, _, _ => none
 | k + 1, x0, x1, x2, x3, x9, x10, x11 => if x11 < (x3.length : Int) then (if 0 ≤ x10 then (if x10 < (x0.length : Int) then (if 0 ≤ x11 then ((spec_l2Do.f k ((rd_T117 x0 x10).f0) ((rd_T117 x0 x10).f1) ((rd_T117 x0 x10).f2) ((rd_T117 x0 x10).f3) ((rd_T117 x0 x10).f4) (rdOf ByteArray.empty x3 x11)).bind fun bt320 => (if bt320.2 = true then ((spec_l1Put.f k x9 bt320.1).bind fun t322 => (spec_l2One.l1 k x0 x1 x2 x3 t322 x10 (wrap64 (x11 + 1)))) else (spec_l2One.l1 k x0 x1 x2 x3 x9 x10 (wrap64 (x11 + 1))))) else (none)) else (none)) else (none)) else (spec_l2One.l0 k x0 x1 x2 x3 x9 (wrap64 (x10 + 1)))
end
def spec_l2One.f (k : Nat) (l0 : List (S117)) (a1 : ByteArray) (a2 : Bool) (l3 : List ByteArray) : Option (List ByteArray) := (some (([] : List ByteArray) : List ByteArray)).bind fun y309 => (if y309.length + l3.length < 8796093022208 then (spec_l2One.l0 k l0 a1 a2 l3 (y309 ++ l3) 0) else (none))
def spec_l2One.T9 : Bool × List (List Nat × List Nat) := (true, [([], []), ([], []), ([0, 1], [0, 1]), ([2], [2]), ([], []), ([], []), ([4, 5], [4, 5]), ([6], [6]), ([3, 7], [3, 7]), ([8], [8]), ([9], [9]), ([9], [9]), ([10, 8, 0, 1, 2, 3, 4, 5, 6, 7, 8, 9, 10], [10]), ([11, 12, 0, 1, 2, 3, 4, 5, 6, 7, 8, 9, 10, 11, 12], [11])])
def spec_l2One.B9 : List Nat := [0, 0, 3, 7, 0, 0, 48, 112, 255, 511, 1023, 1023, 2047, 8191]
theorem spec_l2One.tab9 : rtab .any (opsOf Try.f181 9) = spec_l2One.T9 := by kernel_rfl
theorem spec_l2One.bits9 : waitsOk spec_l2One.T9.2 spec_l2One.B9 = true := by kernel_rfl
theorem spec_l2One.calls (k : Nat) (A0 : Option Addr) (c0 : Nat) (l0 : List (S117)) (a1 : ByteArray) (a2 : Bool) (A3 : Option Addr) (c3 : Nat) (l3 : List ByteArray) (r : List ByteArray) (w : World) (hr0 : Kd.C k117 w A0 l0.length l0) (hc0 : l0.length ≤ c0) (hr3 : Kd.C Kd.string w A3 l3.length l3) (hc3 : l3.length ≤ c3) (h : spec_l2One.f k l0 a1 a2 l3 = some r) :
  Calls Try.prog 181 #[.slice A0 l0.length c0, .string a1, .bool a2, .slice A3 l3.length c3] w fun e w' => ∃ v0_ : Value, e = .returned (v0_) ∧ Kd.R Kd.string 9 w' w.heap.size (fun _ => True) v0_ r ∧ Below w.heap.size w w' := by
 have hu117 := Try.underlying117; have HR0 := am hr0; have HC0 := am hc0; clear hr0 hc0; have HR3 := am hr3; have HC3 := am hc3; clear hr3 hc3; have HB := am (Below.refl w.heap.size w)
 have H : ((some (([] : List ByteArray) : List ByteArray)).bind fun y309 => (if y309.length + l3.length < 8796093022208 then (spec_l2One.l0 k l0 a1 a2 l3 (y309 ++ l3) 0) else (none))) = some r := h
 clear h; obtain ⟨y309, hy309⟩ : ∃ y_ : List ByteArray, y_ = (([] : List ByteArray)) := ⟨_, rfl⟩
 replace H : (if y309.length + l3.length < 8796093022208 then (spec_l2One.l0 k l0 a1 a2 l3 (y309 ++ l3) 0) else (none)) = some r := by first | (rw [hy309]; with_reducible exact H) | (have H2_ := bm H; rw [hy309]; with_reducible exact H2_) | (with_reducible exact bm H) | with_reducible exact H | (rw [hy309]; exact H) | exact H
 have Ny309 := am hy309; clear hy309
 replace H := ip H; obtain ⟨c5, H⟩ := H; have LMc5 := Aside0.mk c5; clear c5; obtain ⟨y312, hy312⟩ : ∃ y_ : List ByteArray, y_ = (y309 ++ l3) := ⟨_, rfl⟩
 replace H : (spec_l2One.l0 k l0 a1 a2 l3 y312 0) = some r := by first | (rw [hy312]; with_reducible exact H) | (have H2_ := bm H; rw [hy312]; with_reducible exact H2_) | (with_reducible exact bm H) | with_reducible exact H | (rw [hy312]; exact H) | exact H
 have Ny312 := am hy312; clear hy312
 have H' := am H
 clear H; go_enter Try.func181, Try.ntmps181
 go_wp2_with (first | ((with_reducible refine gate_dst (N := 14) rfl ?_); refine Kd.R_lit Kd.string _ 9 ?hg (N := 14) ?hd (xs := ([] : List ByteArray)) (inner := []) (ok := fun _ => True) (okp := fun _ => True) ?hr ?hp (fun _ hk => hk) trivial (Below.refl _ _) (Nat.le_refl _) (by simp) ?_; (case hd => rfl); (case hg => rfl); (case hr => first | (go_simp; done) | (go_simp; rfl)); (case hp => exact (Reps.none _ _)); intro v310 w6 ho7 hb hg_ hnew_; clear hg_ hnew_; (first | rw [← Ny309.out] at ho7 | (simp only [Int.reduceToNat] at ho7; rw [← Ny309.out] at ho7) | (simp only [Int.toNat_natCast] at ho7; rw [← Ny309.out] at ho7)); have HO311 := am (Kd.R_lower ho7 (below_size bel)); replace HB := am (below_step bel hb); clear hb ho7) | ((with_reducible refine gate_builtin (b := .append) (xs := #[.tmp 14, .tmp 15]) rfl ?_); at_builtin; refine Kd.R_append_rows Kd.string (w0 := w) w.heap.size rfl (.tmp 14) (.tmp 15) 22 9 (.string ⟨#[]⟩) 16 rfl Try.underlying22 info9 rfl (by decide) (by omega) v310 y309 l3 _ _ _ (fun _ => True) (fun _ => False) rfl rfl ?aO ?aR (fun _ _ h => h) (fun _ h => h.elim) ?aF ?aB ?aS ?aL ?_; (case aR => exact cq (Kd.C_below HR3.out HB.out)); (case aB => exact bel); (case aF => exact (fun _ _ => trivial)); (case aO => exact (rq HO311.out)); (case aS => exact (below_size bel)); (case aL => have := LMc5.out; omega); intro v313 w8 ho hb hg hat; rw [← Ny312.out] at ho; replace HB := am (hb); have HO314 := am (ho); clear HO311; clear ho hb hg hat))
 go_loopg [9, 10] k (fun kq v9 v10 w' => ∃ (x9_1 : List ByteArray) (x10_1 : Int), v10 = .int .i64 x10_1 ∧ Aside0 (spec_l2One.l0 kq l0 a1 a2 l3 x9_1 x10_1 = some r) ∧ Aside0 (kq ≤ k) ∧ Aside0 (Kd.R Kd.string 9 w' w.heap.size (fun _ => True) v9 x9_1) ∧ Aside0 (Below w.heap.size w w'))
 case atStart => exact ⟨(y312), (0), sq, H', ⟨Nat.le_refl _⟩, ⟨rq HO314.out⟩, ⟨bel⟩⟩
 case round =>
  clear H'; (try clear c1); (try clear p2); (try clear c3); (try clear c5); obtain ⟨x9_1, x10_1, rfl, HA, HK1, HO_9, HB⟩ := hrel
  cases gk with
  | zero => exact absurd HA.out (by simp [spec_l2One.l0])
  | succ k1 =>
   have H := HA.out; clear HA
   simp only [spec_l2One.l0] at H
   by_cases c9 : x10_1 < (l0.length : Int)
   ·rw [if_pos c9] at H; have c9b0 := decide_eq_true c9; clear c9; have HC10 := am H; clear H
    go_upto_region 5 with (fail)
    go_cut [39] (fun v39 wc => ∃ (kq : Nat) (x39_9 : Bool), v39 = .bool x39_9 ∧ Aside0 (spec_l2One.j1 kq l0 a1 a2 l3 x9_1 x10_1 x39_9 = some r) ∧ Aside0 (kq ≤ k1) ∧ Aside0 (Kd.R Kd.string 9 wc w.heap.size (fun _ => True) u9 x9_1) ∧ Aside0 (Below w.heap.size w wc))
    case first =>
     have H := HC10.out; clear HC10
     replace H := it H; obtain ⟨c11b0, H⟩ := H
     (first | rw [c11b0] | (simp only [i64_w, i32_w]; rw [c11b0]) | skip)
     by_cases c12 : (((rd_T117 l0 x10_1).f1) != a2) = true
     ·rw [if_pos c12] at H
      have c12b0 : (((rd_T117 l0 x10_1).f1) != a2) = true := c12
      (try (have c12b1 : decide (((rd_T117 l0 x10_1).f1) = a2) = false := by simpa using c12))
      (try (have c12b2 : (((rd_T117 l0 x10_1).f1) == a2) = false := by simpa using c12))
      (try (have c12b3 : ¬ (((rd_T117 l0 x10_1).f1) = a2) := by simpa using c12))
      clear c12
      have H' := am H
      clear H
      have p315 : 0 ≤ (x10_1 : Int) := of_decide_eq_true ad
      have q315 : x10_1 < (l0.length : Int) := of_decide_eq_true ad
      obtain ⟨ad315, e315, hx315_0, hx315_1, hx315_2, hx315_3, hx315_4⟩ := at_T117 HR0.out x10_1 p315 q315
      cases e315
      replace hx315_0 := kp HB.out hx315_0; replace hx315_1 := kp HB.out hx315_1; replace hx315_2 := kp HB.out hx315_2; replace hx315_3 := kp HB.out hx315_3; replace hx315_4 := kp HB.out hx315_4; replace p315 := eq_true p315; replace q315 := eq_true q315; go_wp2
      go_meet
      case rel => exact ⟨_, (true), sq, H', ⟨b38_⟩, ⟨rq HO_9.out⟩, ⟨bel⟩⟩
     rw [if_neg c12] at H
     have c12b0 : (((rd_T117 l0 x10_1).f1) != a2) = false := by simpa using c12
     (try (have c12b1 : decide (((rd_T117 l0 x10_1).f1) = a2) = true := by simpa using c12))
     (try (have c12b2 : (((rd_T117 l0 x10_1).f1) == a2) = true := by simpa using c12))
     clear c12; replace H := bs H; obtain ⟨t317, A130, H⟩ := H; replace H : (spec_l2One.j1 k1 l0 a1 a2 l3 x9_1 x10_1 (!t317)) = some r := H; have A13 := Aside0.mk A130; clear A130
     have H' := am H
     clear H
     have p315 : 0 ≤ (x10_1 : Int) := of_decide_eq_true ad
     have q315 : x10_1 < (l0.length : Int) := of_decide_eq_true ad
     obtain ⟨ad315, e315, hx315_0, hx315_1, hx315_2, hx315_3, hx315_4⟩ := at_T117 HR0.out x10_1 p315 q315
     cases e315
     replace hx315_0 := kp HB.out hx315_0; replace hx315_1 := kp HB.out hx315_1; replace hx315_2 := kp HB.out hx315_2; replace hx315_3 := kp HB.out hx315_3; replace hx315_4 := kp HB.out hx315_4; replace p315 := eq_true p315; replace q315 := eq_true q315
     have p316 : 0 ≤ (x10_1 : Int) := of_decide_eq_true ad
     have q316 : x10_1 < (l0.length : Int) := of_decide_eq_true ad
     obtain ⟨ad316, e316, hx316_0, hx316_1, hx316_2, hx316_3, hx316_4⟩ := at_T117 HR0.out x10_1 p316 q316
     obtain rfl : ad315 = ad316 := (by injection e316)
     replace hx316_0 := kp HB.out hx316_0; replace hx316_1 := kp HB.out hx316_1; replace hx316_2 := kp HB.out hx316_2; replace hx316_3 := kp HB.out hx316_3; replace hx316_4 := kp HB.out hx316_4; replace p316 := eq_true p316; replace q316 := eq_true q316
     go_wp2_with (first | (go_at_call 197; (with_reducible refine (spec_l2Has.calls k1 a1 ((rd_T117 l0 x10_1).f0) t317 _ A13.out).mono ?_); rintro e w' ⟨rfl, ⟨nd, rfl⟩⟩))
     go_meet
     case rel => exact ⟨_, (!t317), sq, H', ⟨b38_⟩, ⟨rq HO_9.out⟩, ⟨bel⟩⟩
    case rest =>
     clear HC10; (try clear c1); (try clear p2); (try clear c3); (try clear p3); (try clear q3); (try clear hx3); (try clear c5); (try clear c9); (try clear c9b0); (try clear c11); (try clear c11b0); (try clear c12); (try clear c12b0); (try clear c12b1); (try clear c12b2); (try clear hx315_0); (try clear hx315_1); (try clear hx315_2); (try clear hx315_3); (try clear hx315_4); (try clear hx316_0); (try clear hx316_1); (try clear hx316_2); (try clear hx316_3); (try clear hx316_4); (try clear p2); (try clear p315); (try clear p316); (try clear q315); (try clear q316); obtain ⟨kq, x39_9, rfl, HA, HJ9, HO_9, HB⟩ := hcut
     cases kq with
     | zero => exact absurd HA.out (by simp [spec_l2One.j1])
     | succ kj9 =>
      have H := HA.out; clear HA
      simp only [spec_l2One.j1] at H
      by_cases c14 : x39_9 = true
      ·subst c14
       have H1 : (spec_l2One.l0 kj9 l0 a1 a2 l3 x9_1 (wrap64 (x10_1 + 1))) = some r := b19_
       replace H := H1; clear H1
       have H' := am H
       clear H; go_wp2
       go_roundg kj9
       case measure => have := HK1.out; have := HJ9.out; omega
       case rel => exact ⟨(x9_1), (wrap64 (x10_1 + 1)), sq, H', ⟨by have := HK1.out; have := HJ9.out; omega⟩, ⟨rq HO_9.out⟩, ⟨bel⟩⟩
      replace c14 := Bool.eq_false_iff.mpr c14; subst c14
      have H1 : (spec_l2One.l1 kj9 l0 a1 a2 l3 x9_1 x10_1 0) = some r := b7_
      replace H := H1; clear H1
      have H' := am H
      clear H; go_wp2
      go_loopg [9, 11] kj9 (fun kq v9 v11 w' => ∃ (x9_3 : List ByteArray) (x11_3 : Int), v11 = .int .i64 x11_3 ∧ Aside0 (spec_l2One.l1 kq l0 a1 a2 l3 x9_3 x10_1 x11_3 = some r) ∧ Aside0 (kq ≤ kj9) ∧ Aside0 (Kd.R Kd.string 9 w' w.heap.size (fun _ => True) v9 x9_3) ∧ Aside0 (Below w.heap.size w w'))
      case atStart => exact ⟨(x9_1), (0), sq, H', ⟨Nat.le_refl _⟩, ⟨rq HO_9.out⟩, ⟨bel⟩⟩
      case round =>
       clear H'; (try clear c1); (try clear p2); (try clear c3); (try clear p3); (try clear q3); (try clear hx3); (try clear c5); (try clear p6); (try clear c9); (try clear c9b0); (try clear c11); (try clear c11b0); (try clear c12); (try clear c12b0); (try clear c12b1); (try clear c12b2); (try clear c14); (try clear hx315_0); (try clear hx315_1); (try clear hx315_2); (try clear hx315_3); (try clear hx315_4); (try clear hx316_0); (try clear hx316_1); (try clear hx316_2); (try clear hx316_3); (try clear hx316_4); (try clear p2); (try clear p3); (try clear p315); (try clear p316); (try clear q3); (try clear q315); (try clear q316); obtain ⟨x9_3, x11_3, rfl, HA, HK3, HO_9, HB⟩ := hrel
       cases gk with
       | zero => exact absurd HA.out (by simp [spec_l2One.l1])
       | succ k3 =>
        have H := HA.out; clear HA
        simp only [spec_l2One.l1] at H
        by_cases c15 : x11_3 < (l3.length : Int)
        ·rw [if_pos c15] at H; have c15b0 := decide_eq_true c15; clear c15
         replace H := it H; obtain ⟨c16b0, H⟩ := H
         replace H := it H; obtain ⟨c17b0, H⟩ := H
         replace H := it H; obtain ⟨c18b0, H⟩ := H; replace H := bs H; obtain ⟨⟨t320, t321⟩, A190, H⟩ := H; replace H : (if t321 = true then ((spec_l1Put.f k3 x9_3 t320).bind fun t322 => (spec_l2One.l1 k3 l0 a1 a2 l3 t322 x10_1 (wrap64 (x11_3 + 1)))) else (spec_l2One.l1 k3 l0 a1 a2 l3 x9_3 x10_1 (wrap64 (x11_3 + 1)))) = some r := H; have A19 := Aside0.mk A190; clear A190
         by_cases c20 : t321 = true
         ·subst c20
          have H1 : ((spec_l1Put.f k3 x9_3 t320).bind fun t322 => (spec_l2One.l1 k3 l0 a1 a2 l3 t322 x10_1 (wrap64 (x11_3 + 1)))) = some r := b19_
          replace H := H1; clear H1
          replace H := bs H; obtain ⟨t322, A210, H⟩ := H; replace H : (spec_l2One.l1 k3 l0 a1 a2 l3 t322 x10_1 (wrap64 (x11_3 + 1))) = some r := H; have A21 := Aside0.mk A210; clear A210
          have H' := am H
          clear H
          try go_wp2
          replace HO_9 := am (Kd.R_drew HO_9.out); replace HB := am (below_drew1 HB.out)
          have p318 : 0 ≤ (x10_1 : Int) := of_decide_eq_true ad
          have q318 : x10_1 < (l0.length : Int) := of_decide_eq_true ad
          obtain ⟨ad318, e318, hx318_0, hx318_1, hx318_2, hx318_3, hx318_4⟩ := at_T117 HR0.out x10_1 p318 q318; have hw318_4 := hx318_4; have hw318_3 := hx318_3; have hw318_2 := hx318_2; have hw318_1 := hx318_1; have hw318_0 := hx318_0
          cases e318
          replace hx318_0 := kp HB.out hx318_0; replace hx318_1 := kp HB.out hx318_1; replace hx318_2 := kp HB.out hx318_2; replace hx318_3 := kp HB.out hx318_3; replace hx318_4 := kp HB.out hx318_4; replace p318 := eq_true p318; replace q318 := eq_true q318
          have p319 : 0 ≤ (x11_3 : Int) := of_decide_eq_true ad
          have q319 : x11_3 < (l3.length : Int) := of_decide_eq_true ad
          obtain ⟨ad319, e319, hx319_0⟩ := Kd.at_string HR3.out x11_3 p319 q319; have hw319_0 := hx319_0
          cases e319
          replace hx319_0 := kp HB.out hx319_0; replace p319 := eq_true p319; replace q319 := eq_true q319
          refine st (n := 14) (S := fun w' => w'.cell? (ad318.add ((x10_1).toNat * 5)) = some (.string ((rd_T117 l0 x10_1).f0)) ∧ w'.cell? ⟨(ad318.add ((x10_1).toNat * 5)).block, (ad318.add ((x10_1).toNat * 5)).off + 1, none⟩ = some (.bool ((rd_T117 l0 x10_1).f1)) ∧ w'.cell? ⟨(ad318.add ((x10_1).toNat * 5)).block, (ad318.add ((x10_1).toNat * 5)).off + 2, none⟩ = some (.string ((rd_T117 l0 x10_1).f2)) ∧ w'.cell? ⟨(ad318.add ((x10_1).toNat * 5)).block, (ad318.add ((x10_1).toNat * 5)).off + 3, none⟩ = some (.string ((rd_T117 l0 x10_1).f3)) ∧ w'.cell? ⟨(ad318.add ((x10_1).toNat * 5)).block, (ad318.add ((x10_1).toNat * 5)).off + 4, none⟩ = some (.string ((rd_T117 l0 x10_1).f4)) ∧ w'.cell? (ad319.add (x11_3).toNat) = some (.string (rdOf ByteArray.empty l3 x11_3))) (ds := []) ⟨(kp HB.out hw318_0), (kp HB.out hw318_1), (kp HB.out hw318_2), (kp HB.out hw318_3), (kp HB.out hw318_4), (kp HB.out hw319_0)⟩ (fun hHeld => ?_); refine with_tabW spec_l2One.tab9 spec_l2One.bits9 (fun HT_ HW_ => ?_)
          generalize wr.drew = w22 at HO_9 HB hx318_0 hx318_1 hx318_2 hx318_3 hx318_4 hx319_0 hHeld ⊢
          refine pu 0 47 ?_
          refine pu 1 48 ?_
          refine pu 2 49 ?_
          refine pu 4 51 ?_
          refine pu 5 52 ?_
          refine pu 6 53 ?_
          refine tk6 3 50 hHeld ?_
          refine tk6 7 54 hHeld ?_
          refine on1 8 55 (fun K hK => ?_)
          refine goes_ Try.func198 (by kernel_rfl) rfl #[.agg #[.string ((rd_T117 l0 x10_1).f0), .bool ((rd_T117 l0 x10_1).f1), .string ((rd_T117 l0 x10_1).f2), .string ((rd_T117 l0 x10_1).f3), .string ((rd_T117 l0 x10_1).f4)], .string (rdOf ByteArray.empty l3 x11_3)] (by rfl) rfl rfl mq ?_
          with_reducible refine (spec_l2Do.calls k3 ((rd_T117 l0 x10_1).f0) ((rd_T117 l0 x10_1).f1) ((rd_T117 l0 x10_1).f2) ((rd_T117 l0 x10_1).f3) ((rd_T117 l0 x10_1).f4) (rdOf ByteArray.empty l3 x11_3) t320 true _ A19.out).mono ?_
          rintro e w23 ⟨rfl, hb⟩
          refine ⟨_, rfl, ?_⟩
          replace HO_9 := am (Kd.R_below (rq HO_9.out) hb); replace HB := am (below_step bel hb)
          (try clear hb)
          (try clear hb2)
          (try clear hk)
          (try clear hi)
          refine hK.out _ _ ⟨(kp HB.out hw318_0), (kp HB.out hw318_1), (kp HB.out hw318_2), (kp HB.out hw318_3), (kp HB.out hw318_4), (kp HB.out hw319_0)⟩ (fun hHeld => ?_)
          clear hK K
          refine norm_ (a' := ?_) ?_ ?_
          rotate_left
          ·show Act.put _ (some 55) _ = _
           simp only [Act.put, List.setIfInBounds_toArray, List.set_cons_zero, List.set_cons_succ, i64_w, i32_w]
           rfl
          refine pu 9 46 ?_
          refine pu 10 56 ?_
          refine pu 11 57 ?_
          refine pu 12 12 ?_
          refine pu 13 13 ?_
          refine done_ (done_of HT_.out (by kernel_rfl)) ?_
          obtain ⟨Ao24, co24, eo24⟩ := Kd.R_slice HO_9.out; subst eo24
          try go_wp2_with (first | ((with_reducible refine gate_callee (f := 138) rfl ?_); refine goesL_ (some 61) rfl rfl Try.func138 (by kernel_rfl) rfl #[.slice Ao24 x9_3.length co24, .string t320] rfl mq ?_; (with_reducible refine (spec_l1Put.calls k3 (fun k_ => some k_ = (.slice Ao24 x9_3.length co24 : Value).ownBlock) (.slice Ao24 x9_3.length co24) x9_3 t320 t322 w _ ?side1 ?side2 A21.out).mono ?_); (case side1 => repeat (first | (with_reducible first | exact HB.out | apply below_alloc | apply pw_below_drewN | apply below_drew1) | exact HB.out)); (case side2 => exact Kd.R_tight rfl HO_9.out); rintro e w25 ⟨v323, rfl, ho0, hb, hkp⟩; refine ⟨_, rfl, ?_⟩; have HO324 := am (Kd.R_mono (ok' := fun k_ => True) ho0 (fun k_ hk_ => trivial)); replace HB := am (hb); clear HO_9; (try clear hb); (try clear hkp); (try clear ho0)))
          go_roundg k3
          case measure => have := HK1.out; have := HJ9.out; have := HK3.out; omega
          case rel => exact ⟨(t322), (wrap64 (x11_3 + 1)), sq, H', ⟨by have := HK1.out; have := HJ9.out; have := HK3.out; omega⟩, ⟨rq HO324.out⟩, ⟨bel⟩⟩
         replace c20 := Bool.eq_false_iff.mpr c20; subst c20
         have H1 : (spec_l2One.l1 k3 l0 a1 a2 l3 x9_3 x10_1 (wrap64 (x11_3 + 1))) = some r := b7_
         replace H := H1; clear H1
         have H' := am H
         clear H
         try go_wp2
         replace HO_9 := am (Kd.R_drew HO_9.out); replace HB := am (below_drew1 HB.out)
         have p318 : 0 ≤ (x10_1 : Int) := of_decide_eq_true ad
         have q318 : x10_1 < (l0.length : Int) := of_decide_eq_true ad
         obtain ⟨ad318, e318, hx318_0, hx318_1, hx318_2, hx318_3, hx318_4⟩ := at_T117 HR0.out x10_1 p318 q318; have hw318_4 := hx318_4; have hw318_3 := hx318_3; have hw318_2 := hx318_2; have hw318_1 := hx318_1; have hw318_0 := hx318_0
         cases e318
         replace hx318_0 := kp HB.out hx318_0; replace hx318_1 := kp HB.out hx318_1; replace hx318_2 := kp HB.out hx318_2; replace hx318_3 := kp HB.out hx318_3; replace hx318_4 := kp HB.out hx318_4; replace p318 := eq_true p318; replace q318 := eq_true q318
         have p319 : 0 ≤ (x11_3 : Int) := of_decide_eq_true ad
         have q319 : x11_3 < (l3.length : Int) := of_decide_eq_true ad
         obtain ⟨ad319, e319, hx319_0⟩ := Kd.at_string HR3.out x11_3 p319 q319; have hw319_0 := hx319_0
         cases e319
         replace hx319_0 := kp HB.out hx319_0; replace p319 := eq_true p319; replace q319 := eq_true q319
         refine st (n := 14) (S := fun w' => w'.cell? (ad318.add ((x10_1).toNat * 5)) = some (.string ((rd_T117 l0 x10_1).f0)) ∧ w'.cell? ⟨(ad318.add ((x10_1).toNat * 5)).block, (ad318.add ((x10_1).toNat * 5)).off + 1, none⟩ = some (.bool ((rd_T117 l0 x10_1).f1)) ∧ w'.cell? ⟨(ad318.add ((x10_1).toNat * 5)).block, (ad318.add ((x10_1).toNat * 5)).off + 2, none⟩ = some (.string ((rd_T117 l0 x10_1).f2)) ∧ w'.cell? ⟨(ad318.add ((x10_1).toNat * 5)).block, (ad318.add ((x10_1).toNat * 5)).off + 3, none⟩ = some (.string ((rd_T117 l0 x10_1).f3)) ∧ w'.cell? ⟨(ad318.add ((x10_1).toNat * 5)).block, (ad318.add ((x10_1).toNat * 5)).off + 4, none⟩ = some (.string ((rd_T117 l0 x10_1).f4)) ∧ w'.cell? (ad319.add (x11_3).toNat) = some (.string (rdOf ByteArray.empty l3 x11_3))) (ds := []) ⟨(kp HB.out hw318_0), (kp HB.out hw318_1), (kp HB.out hw318_2), (kp HB.out hw318_3), (kp HB.out hw318_4), (kp HB.out hw319_0)⟩ (fun hHeld => ?_); refine with_tabW spec_l2One.tab9 spec_l2One.bits9 (fun HT_ HW_ => ?_)
         generalize wr.drew = w26 at HO_9 HB hx318_0 hx318_1 hx318_2 hx318_3 hx318_4 hx319_0 hHeld ⊢
         refine pu 0 47 ?_
         refine pu 1 48 ?_
         refine pu 2 49 ?_
         refine pu 4 51 ?_
         refine pu 5 52 ?_
         refine pu 6 53 ?_
         refine tk6 3 50 hHeld ?_
         refine tk6 7 54 hHeld ?_
         refine on1 8 55 (fun K hK => ?_)
         refine goes_ Try.func198 (by kernel_rfl) rfl #[.agg #[.string ((rd_T117 l0 x10_1).f0), .bool ((rd_T117 l0 x10_1).f1), .string ((rd_T117 l0 x10_1).f2), .string ((rd_T117 l0 x10_1).f3), .string ((rd_T117 l0 x10_1).f4)], .string (rdOf ByteArray.empty l3 x11_3)] (by rfl) rfl rfl mq ?_
         with_reducible refine (spec_l2Do.calls k3 ((rd_T117 l0 x10_1).f0) ((rd_T117 l0 x10_1).f1) ((rd_T117 l0 x10_1).f2) ((rd_T117 l0 x10_1).f3) ((rd_T117 l0 x10_1).f4) (rdOf ByteArray.empty l3 x11_3) t320 false _ A19.out).mono ?_
         rintro e w27 ⟨rfl, hb⟩
         refine ⟨_, rfl, ?_⟩
         replace HO_9 := am (Kd.R_below (rq HO_9.out) hb); replace HB := am (below_step bel hb)
         (try clear hb)
         (try clear hb2)
         (try clear hk)
         (try clear hi)
         refine hK.out _ _ ⟨(kp HB.out hw318_0), (kp HB.out hw318_1), (kp HB.out hw318_2), (kp HB.out hw318_3), (kp HB.out hw318_4), (kp HB.out hw319_0)⟩ (fun hHeld => ?_)
         clear hK K
         refine norm_ (a' := ?_) ?_ ?_
         rotate_left
         ·show Act.put _ (some 55) _ = _
          simp only [Act.put, List.setIfInBounds_toArray, List.set_cons_zero, List.set_cons_succ, i64_w, i32_w]
          rfl
         refine pu 9 46 ?_
         refine pu 10 56 ?_
         refine pu 11 57 ?_
         refine pu 12 12 ?_
         refine pu 13 13 ?_
         refine done_ (done_of HT_.out (by kernel_rfl)) ?_
         try go_wp2
         go_roundg k3
         case measure => have := HK1.out; have := HJ9.out; have := HK3.out; omega
         case rel => exact ⟨(x9_3), (wrap64 (x11_3 + 1)), sq, H', ⟨by have := HK1.out; have := HJ9.out; have := HK3.out; omega⟩, ⟨rq HO_9.out⟩, ⟨bel⟩⟩
        rw [if_neg c15] at H; have c15b0 := decide_eq_false c15; clear c15
        have H' := am H
        clear H; go_wp2
        go_roundg k3
        case measure => have := HK1.out; have := HJ9.out; have := HK3.out; omega
        case rel => exact ⟨(x9_3), (wrap64 (x10_1 + 1)), sq, H', ⟨by have := HK1.out; have := HJ9.out; have := HK3.out; omega⟩, ⟨rq HO_9.out⟩, ⟨bel⟩⟩
   rw [if_neg c9] at H; have c9b0 := decide_eq_false c9; clear c9; obtain rfl := Option.some.inj H; go_wp2; go_ret
   exact ⟨_, eq_, by (with_reducible repeat (first | apply Kd.R_alloc | apply Kd.R_drewN | apply Kd.R_drew)); exact HO_9.out, bel⟩
end Go.Proofs.Ytfpmfaelodfecaa.QFnGuesses

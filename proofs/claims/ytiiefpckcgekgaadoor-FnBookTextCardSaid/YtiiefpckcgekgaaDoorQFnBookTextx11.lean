import Derived.Test.YtiiefpckcgekgaaDoorQFnBookTextx0
import Derived.Test.YtiiefpckcgekgaaDoorQFnBookTextx8
import Derived.Test.YtiiefpckcgekgaaDoorVMSh2
namespace Go.Proofs.YtiiefpckcgekgaaDoor.QFnBookText
open Go.RowKit Go.Proofs.YtiiefpckcgekgaaDoorW.PrintWords Go.Proofs.YtiiefpckcgekgaaDoorW.PrintLast Go.Proofs.YtiiefpckcgekgaaDoorW.PrintMore Go.Proofs.YtiiefpckcgekgaaDoor.Sh
attribute [local go_sem] max2_int min2_int max_two min_two max_three min_three max_four min_four
set_option linter.unusedVariables false
set_option linter.unusedSimpArgs false
set_option maxHeartbeats 8000000
set_option maxRecDepth 100000
-- shrunk

/-! ### impl_affixLine: function 33 -/
/-- The line of an affix. -/
def impl_affixLine.f (a0_0 : ByteArray) (a0_1 : Bool) (a0_2 : ByteArray) (a0_3 : ByteArray) (a0_4 : ByteArray) : Option ByteArray :=
 if a0_0.size + a0_2.size + a0_3.size + a0_4.size ≤ 1000000000 then some (((((((((((if a0_1 = true then (⟨#[102, 114, 111, 110, 116]⟩ : ByteArray) else ⟨#[101, 110, 100]⟩) ++ ⟨#[32]⟩) ++ a0_0) ++ ⟨#[32]⟩) ++ a0_2) ++ ⟨#[32]⟩) ++ a0_3) ++ ⟨#[32]⟩) ++ a0_4) ++ ⟨#[10]⟩)) else none
theorem impl_affixLine.extra : Builder.Extra Tryd.prog Try.layJoin_ren := {
 sizeBuilder := by kernel_rfl,
 liesBuilder := by kernel_rfl,
 t5 := Tryd.underlying5,
 a5 := Tryd.isAgg5,
 z5 := Tryd.sizeOf5,
 v5 := Tryd.zeroValue5,
 infoByte := by kernel_rfl,
 cellsByte := by kernel_rfl,
 sizeByte := by kernel_rfl,
 neB5 := by decide }
theorem impl_affixLine.join (kd f s a t : ByteArray) : (⟨(Go.Lib.join ([kd, f, s, a, t].map (·.data.toList)) (⟨#[32]⟩ : ByteArray).data.toList).toArray⟩ : ByteArray) = (((((((kd ++ ⟨#[32]⟩) ++ f) ++ ⟨#[32]⟩) ++ s) ++ ⟨#[32]⟩) ++ a) ++ ⟨#[32]⟩) ++ t := by
 apply ByteArray.ext
 apply Array.toList_inj.1
 simp [Go.Lib.join, List.intercalate, ByteArray.data_append]
set_option maxHeartbeats 1000000 in
set_option maxRecDepth 100000 in
theorem impl_affixLine.calls (a0_0 : ByteArray) (a0_1 : Bool) (a0_2 : ByteArray) (a0_3 : ByteArray) (a0_4 : ByteArray) (r : ByteArray) (w : World) (h : impl_affixLine.f a0_0 a0_1 a0_2 a0_3 a0_4 = some r) :
  Calls Tryd.prog 33 #[.agg #[.string a0_0, .bool a0_1, .string a0_2, .string a0_3, .string a0_4]] w fun e w' => e = .returned (.string r) ∧ Below w.heap.size w w' := by
 unfold impl_affixLine.f at h
 split at h
 case isFalse => cases h
 rename_i hsz; obtain rfl := Option.some.inj h; clear h
 have hcon : ∀ (kd : ByteArray) (b c : Nat) (W : World), kd.size ≤ 10 → b < W.heap.size → 5 ≤ c → (∀ (j : Nat) x, [kd, a0_0, a0_2, a0_3, a0_4][j]? = some x → W.cell? ⟨b, 0 + j, none⟩ = some (.string x)) →
   Calls Tryd.prog 53 #[.slice (some ⟨b, 0, none⟩) 5 c, .string ⟨#[32]⟩] W fun e w' => e = .returned (.string ((((((((kd ++ ⟨#[32]⟩) ++ a0_0) ++ ⟨#[32]⟩) ++ a0_2) ++ ⟨#[32]⟩) ++ a0_3) ++ ⟨#[32]⟩) ++ a0_4)) ∧ Below W.heap.size W w' := by
  intro kd b c W hk hb hc hcells
  have := Any.strings_Join Try.layJoin impl_affixLine.extra b 0 c [kd, a0_0, a0_2, a0_3, a0_4] ⟨#[32]⟩ W hcells hb (by simp) (by simpa using hc) (by
   have hs : ∀ x : ByteArray, x.data.size = x.size := fun x => rfl
   simp [Go.Lib.join, List.intercalate]
   have e0 := hs kd; have e1 := hs a0_0; have e2 := hs a0_2; have e3 := hs a0_3; have e4 := hs a0_4
   omega)
  rw [impl_affixLine.join] at this
  change Calls Tryd.prog 53 _ _ _ at this
  exact this
 have hadd : ∀ (kd : ByteArray), kd.size ≤ 10 → ((((((((kd ++ ⟨#[32]⟩) ++ a0_0) ++ ⟨#[32]⟩) ++ a0_2) ++ ⟨#[32]⟩) ++ a0_3) ++ ⟨#[32]⟩) ++ a0_4).size ≤ 2000000000 := by
  intro kd hk
  have e : (⟨#[32]⟩ : ByteArray).size = 1 := rfl
  simp only [ByteArray.size_append, e]
  omega
 have h1 := hadd ⟨#[102, 114, 111, 110, 116]⟩ (by decide)
 have h2 := hadd ⟨#[101, 110, 100]⟩ (by decide)
 have c1 := hcon ⟨#[102, 114, 111, 110, 116]⟩; have c2 := hcon ⟨#[101, 110, 100]⟩; clear hcon hadd
 generalize hX1 : ((((((((⟨#[102, 114, 111, 110, 116]⟩ : ByteArray) ++ ⟨#[32]⟩) ++ a0_0) ++ ⟨#[32]⟩) ++ a0_2) ++ ⟨#[32]⟩) ++ a0_3) ++ ⟨#[32]⟩) ++ a0_4 = X1 at h1 c1
 generalize hX2 : ((((((((⟨#[101, 110, 100]⟩ : ByteArray) ++ ⟨#[32]⟩) ++ a0_0) ++ ⟨#[32]⟩) ++ a0_2) ++ ⟨#[32]⟩) ++ a0_3) ++ ⟨#[32]⟩) ++ a0_4 = X2 at h2 c2
 cases a0_1 with
 | true =>
  go_enter Tryd.func33, Tryd.ntmps33
  go_wp2_with (go_at_call 53; refine (c1 _ _ _ (by decide) (by simp) (by omega) ?_).mono ?_; rotate_left; rintro e w' ⟨rfl, hb'⟩)
  ·go_ret
   exact ⟨by rw [← hX1]; rfl, (((Below.refl _ w).alloc (Nat.le_refl _) _).alloc (by simp) _).trans (hb'.mono (by simp; omega))⟩
  ·intro j x hj
   rcases j with _ | _ | _ | _ | _ | j <;> simp at hj <;> (try subst hj) <;> simp
 | false =>
  go_enter Tryd.func33, Tryd.ntmps33
  go_wp2_with (go_at_call 53; refine (c2 _ _ _ (by decide) (by simp) (by omega) ?_).mono ?_; rotate_left; rintro e w' ⟨rfl, hb'⟩)
  ·go_ret
   exact ⟨by rw [← hX2]; rfl, (((Below.refl _ w).alloc (Nat.le_refl _) _).alloc (by simp) _).trans (hb'.mono (by simp; omega))⟩
  ·intro j x hj
   rcases j with _ | _ | _ | _ | _ | j <;> simp at hj <;> (try subst hj) <;> simp

/-! ### impl_entryLine: function 34 -/
/-- The line of an entry. -/
def impl_entryLine.f (a0_0 : ByteArray) (a0_1 : ByteArray) : Option ByteArray :=
 if a0_0.size + a0_1.size ≤ 1000000000 then some (if a0_1.toList = ([] : List UInt8) then a0_0 ++ (⟨#[10]⟩ : ByteArray) else ((a0_0 ++ (⟨#[47]⟩ : ByteArray)) ++ a0_1) ++ (⟨#[10]⟩ : ByteArray)) else none
set_option maxHeartbeats 1000000 in
set_option maxRecDepth 100000 in
theorem impl_entryLine.calls (a0_0 : ByteArray) (a0_1 : ByteArray) (r : ByteArray) (w : World) (h : impl_entryLine.f a0_0 a0_1 = some r) :
  Calls Tryd.prog 34 #[.agg #[.string a0_0, .string a0_1]] w fun e w' => e = .returned (.string r) ∧ Below w.heap.size w w' := by
 unfold impl_entryLine.f at h
 split at h
 case isFalse => cases h
 rename_i hsz; obtain rfl := Option.some.inj h; clear h
 have e1 : (⟨#[47]⟩ : ByteArray).size = 1 := rfl
 have e2 : (⟨#[10]⟩ : ByteArray).size = 1 := rfl
 by_cases c : a0_1.toList = ([] : List UInt8)
 ·rw [if_pos c]
  have c1 : (a0_1.toList == ([] : List UInt8)) = true := by simpa using c
  go_enter Tryd.func34, Tryd.ntmps34; go_wp2
  all_goals first
   | (go_ret; exact ⟨rfl, (Below.refl _ w).alloc (Nat.le_refl _) _⟩)
   | (exfalso; simp only [ByteArray.size_append, e1, e2] at *; omega)
   | (exfalso; simp_all; done)
 ·rw [if_neg c]
  have c1 : (a0_1.toList == ([] : List UInt8)) = false := by simpa using c
  go_enter Tryd.func34, Tryd.ntmps34; go_wp2
  all_goals first
   | (go_ret; exact ⟨rfl, (Below.refl _ w).alloc (Nat.le_refl _) _⟩)
   | (exfalso; simp only [ByteArray.size_append, e1, e2] at *; omega)
   | (exfalso; simp_all; done)

/-! ### impl_BookPut: function 11 -/
mutual
def impl_BookPut.l0 : Nat → ByteArray → List (S40) → Int → Int → List (S40) → List (S43) → Option (ByteArray)
 | 0, _, _, _, _, _, _ => none
 | k + 1, x3, x12, x13, x14, x216000, x216001 => if x14 < x13 then (if 0 ≤ x14 then (if x14 < (x12.length : Int) then ((impl_affixLine.f ((rd_T40 x12 x14).f0) ((rd_T40 x12 x14).f1) ((rd_T40 x12 x14).f2) ((rd_T40 x12 x14).f3) ((rd_T40 x12 x14).f4)).bind fun t219 => (if x3.size + t219.size ≤ 9223372036854775807 then (impl_BookPut.l0 k (x3 ++ t219) x12 x13 (wrap64 (x14 + 1)) x216000 x216001) else (none))) else (none)) else (none)) else (impl_BookPut.l1 k x3 x216001 (x216001.length : Int) 0)
def impl_BookPut.l1 : Nat → ByteArray → List (S43) → Int → Int → Option (ByteArray)
 | 0, _, _, _, _ => none
 | k + 1, x3, x24, x25, x26 => if x26 < x25 then (if 0 ≤ x26 then (if x26 < (x24.length : Int) then ((impl_entryLine.f ((rd_T43 x24 x26).f0) ((rd_T43 x24 x26).f1)).bind fun t222 => (if x3.size + t222.size ≤ 9223372036854775807 then (impl_BookPut.l1 k (x3 ++ t222) x24 x25 (wrap64 (x26 + 1))) else (none))) else (none)) else (none)) else (some x3)
end
def impl_BookPut.f (k : Nat) (l0_0 : List (S40)) (l0_1 : List (S43)) : Option (ByteArray) := (impl_BookOk.f k l0_0 l0_1).bind fun t216 => (if t216 = true then (impl_BookPut.l0 k (⟨#[]⟩ : ByteArray) l0_0 (l0_0.length : Int) 0 l0_0 l0_1) else (some (⟨#[]⟩ : ByteArray)))
theorem impl_BookPut.calls (k : Nat) (A0_0 : Option Addr) (c0_0 : Nat) (l0_0 : List (S40)) (A0_1 : Option Addr) (c0_1 : Nat) (l0_1 : List (S43)) (r : ByteArray) (w : World) (hr0_0 : Kd.C k40 w A0_0 l0_0.length l0_0) (hc0_0 : l0_0.length ≤ c0_0) (hr0_1 : Kd.C k43 w A0_1 l0_1.length l0_1) (hc0_1 : l0_1.length ≤ c0_1) (h : impl_BookPut.f k l0_0 l0_1 = some r) :
  Calls Tryd.prog 11 #[.agg #[.slice A0_0 l0_0.length c0_0, .slice A0_1 l0_1.length c0_1]] w fun e w' => e = .returned (.string r) ∧ Below w.heap.size w w' := by
 have hu25 := Tryd.underlying25; have hu40 := Tryd.underlying40; have hu43 := Tryd.underlying43; have HR0_0 := am hr0_0; have HC0_0 := am hc0_0; clear hr0_0 hc0_0; have HR0_1 := am hr0_1; have HC0_1 := am hc0_1; clear hr0_1 hc0_1; have HB := am (Below.refl w.heap.size w)
 have H : ((impl_BookOk.f k l0_0 l0_1).bind fun t216 => (if t216 = true then (impl_BookPut.l0 k (⟨#[]⟩ : ByteArray) l0_0 (l0_0.length : Int) 0 l0_0 l0_1) else (some (⟨#[]⟩ : ByteArray)))) = some r := h
 clear h; replace H := bs H; obtain ⟨t216, A20, H⟩ := H; replace H : (if t216 = true then (impl_BookPut.l0 k (⟨#[]⟩ : ByteArray) l0_0 (l0_0.length : Int) 0 l0_0 l0_1) else (some (⟨#[]⟩ : ByteArray))) = some r := H; have A2 := Aside0.mk A20; clear A20
 by_cases c3 : t216 = true
 ·subst c3
  have H1 : (impl_BookPut.l0 k (⟨#[]⟩ : ByteArray) l0_0 (l0_0.length : Int) 0 l0_0 l0_1) = some r := b47_
  replace H := H1; clear H1
  have H' := am H
  clear H; go_enter Tryd.func11, Tryd.ntmps11
  go_wp2_with (first | ((with_reducible refine gate_dst (N := 1) rfl ?_); refine bx 1 (cs := #[.slice A0_0 l0_0.length c0_0, .slice A0_1 l0_1.length c0_1]) (t := 25) ?_; intro gb215 hg w4 hbox hb; have BK215 := am (hbox); have GW215 := am ((b19_ : w.heap.size ≤ gb215)); have GE215 := am ((b19_ : w.heap.size ≤ gb215)); replace HB := am (below_step bel hb); clear hb hbox hg; have hcz5_0 := bc BK215.out 0; have hcz5_1 := bc BK215.out 1; have hfz5_0 := bf BK215.out 0; have hfz5_1 := bf BK215.out 1) | ((with_reducible refine gate_callee (f := 24) rfl ?_); refine goesL_ (some 9) rfl rfl Tryd.func24 (by kernel_rfl) rfl #[.agg #[.slice A0_0 l0_0.length c0_0, .slice A0_1 l0_1.length c0_1]] rfl mq ?_; (with_reducible refine (impl_BookOk.calls k _ _ l0_0 _ _ l0_1 true _ ?side1 ?side2 ?side3 ?side4 A2.out).mono ?_); (case side1 => exact cq (Kd.C_below HR0_0.out HB.out)); (case side2 => exact HC0_0.out); (case side3 => exact cq (Kd.C_below HR0_1.out HB.out)); (case side4 => exact HC0_1.out); rintro e w6 ⟨rfl, hb⟩; refine ⟨_, rfl, ?_⟩; replace BK215 := am (blk_below (g := gb215) (o := .cells #[.slice A0_0 l0_0.length c0_0, .slice A0_1 l0_1.length c0_1] 25 (0, 0)) (bq BK215.out) hb); replace HB := am (below_step (bel1 GE215.out) hb); (try clear hb); (try clear hb2); (try clear hk); (try clear hi); have hcz7_0 := bc BK215.out 0; have hcz7_1 := bc BK215.out 1; have hfz7_0 := bf BK215.out 0; have hfz7_1 := bf BK215.out 1))
  go_loopg [3, 14] k (fun kq v3 v14 w' => ∃ (x3_1 : ByteArray) (x14_1 : Int), v3 = .string x3_1 ∧ v14 = .int .i64 x14_1 ∧ Aside0 (impl_BookPut.l0 kq x3_1 l0_0 (l0_0.length : Int) x14_1 l0_0 l0_1 = some r) ∧ Aside0 (kq ≤ k) ∧ Aside0 (w'.heap[gb215]? = some (.cells #[(.slice A0_0 l0_0.length c0_0), (.slice A0_1 l0_1.length c0_1)] 25 (0, 0))) ∧ Aside0 (Below w.heap.size w w'))
  case atStart => exact ⟨((⟨#[]⟩ : ByteArray)), (0), sq, sq, H', ⟨Nat.le_refl _⟩, ⟨bq BK215.out⟩, ⟨bel1 GE215.out⟩⟩
  case round =>
   clear H'; (try clear c1); (try clear c2); (try clear p2); (try clear c3); (try clear hcz5_0); (try clear hcz5_1); (try clear hcz7_0); (try clear hcz7_1); (try clear hfz5_0); (try clear hfz5_1); (try clear hfz7_0); (try clear hfz7_1); obtain ⟨x3_1, x14_1, rfl, rfl, HA, HK1, BK215, HB⟩ := hrel
   cases gk with
   | zero => exact absurd HA.out (by simp [impl_BookPut.l0])
   | succ k1 =>
    have H := HA.out; clear HA
    simp only [impl_BookPut.l0] at H
    by_cases c8 : x14_1 < (l0_0.length : Int)
    ·rw [if_pos c8] at H; have c8b0 := decide_eq_true c8; clear c8
     replace H := it H; obtain ⟨c9b0, H⟩ := H
     replace H := it H; obtain ⟨c10b0, H⟩ := H; replace H := bs H; obtain ⟨t219, A110, H⟩ := H; replace H : (if x3_1.size + t219.size ≤ 9223372036854775807 then (impl_BookPut.l0 k1 (x3_1 ++ t219) l0_0 (l0_0.length : Int) (wrap64 (x14_1 + 1)) l0_0 l0_1) else (none)) = some r := H; have A11 := Aside0.mk A110; clear A110
     replace H := ip H; obtain ⟨c12, H⟩ := H; have c12b0 := eq_true c12
     have c12b1 : decide (x3_1.size + t219.size ≤ 9223372036854775807) = true := decide_eq_true c12
     try have c12b2 : (9223372036854775807 < x3_1.size + t219.size) = False := eq_false (Nat.not_lt.2 c12)
     have H' := am H
     clear H
     have p217 : 0 ≤ (x14_1 : Int) := of_decide_eq_true ad
     have q217 : x14_1 < (l0_0.length : Int) := of_decide_eq_true ad
     obtain ⟨ad217, e217, hx217_0, hx217_1, hx217_2, hx217_3, hx217_4⟩ := at_T40 HR0_0.out x14_1 p217 q217
     cases e217
     replace hx217_0 := kp HB.out hx217_0; replace hx217_1 := kp HB.out hx217_1; replace hx217_2 := kp HB.out hx217_2; replace hx217_3 := kp HB.out hx217_3; replace hx217_4 := kp HB.out hx217_4; replace p217 := eq_true p217; replace q217 := eq_true q217
     go_wp2_with (first | ((with_reducible refine gate_dst (N := 5) rfl ?_); refine bx 5 (cs := #[.string (⟨#[]⟩ : ByteArray), .bool false, .string (⟨#[]⟩ : ByteArray), .string (⟨#[]⟩ : ByteArray), .string (⟨#[]⟩ : ByteArray)]) (t := 40) ?_; intro gb218 hg w13 hbox hb; have BK218 := am (hbox); have GW218 := am ((b94_ : w.heap.size ≤ gb218)); have GE218 := am ((b94_ : w.heap.size ≤ gb218)); replace HB := am (below_step (bel1 GE215.out) hb); have NB215_218 := am ((by rw [hg]; exact Nat.ne_of_lt (blk_lt (g := gb215) (o := .cells #[.slice (some ad217) l0_0.length c0_0, .slice A0_1 l0_1.length c0_1] 25 (0, 0)) (bq BK215.out)) : gb215 ≠ gb218)); have NB218_215 := am ((by rw [hg]; exact Nat.ne_of_gt (blk_lt (g := gb215) (o := .cells #[.slice (some ad217) l0_0.length c0_0, .slice A0_1 l0_1.length c0_1] 25 (0, 0)) (bq BK215.out)) : gb218 ≠ gb215)); replace BK215 := am (blk_below (g := gb215) (o := .cells #[.slice (some ad217) l0_0.length c0_0, .slice A0_1 l0_1.length c0_1] 25 (0, 0)) (bq BK215.out) hb); clear hb hbox hg; have hnb14 := NB218_215.out; have hnc14 := NB215_218.out; have hcz15_0 := bc BK218.out 0; have hcz15_1 := bc BK218.out 1; have hcz15_2 := bc BK218.out 2; have hcz15_3 := bc BK218.out 3; have hcz15_4 := bc BK218.out 4; have hfz15_0 := bf BK218.out 0; have hfz15_1 := bf BK218.out 1; have hfz15_2 := bf BK218.out 2; have hfz15_3 := bf BK218.out 3; have hfz15_4 := bf BK218.out 4) | ((with_reducible refine gate_callee (f := 33) rfl ?_); refine goesL_ (some 20) rfl rfl Tryd.func33 (by kernel_rfl) rfl #[.agg #[.string ((rd_T40 l0_0 x14_1).f0), .bool ((rd_T40 l0_0 x14_1).f1), .string ((rd_T40 l0_0 x14_1).f2), .string ((rd_T40 l0_0 x14_1).f3), .string ((rd_T40 l0_0 x14_1).f4)]] rfl mq ?_; (with_reducible refine (impl_affixLine.calls ((rd_T40 l0_0 x14_1).f0) ((rd_T40 l0_0 x14_1).f1) ((rd_T40 l0_0 x14_1).f2) ((rd_T40 l0_0 x14_1).f3) ((rd_T40 l0_0 x14_1).f4) t219 _ A11.out).mono ?_); rintro e w16 ⟨rfl, hb⟩; refine ⟨_, rfl, ?_⟩; replace BK215 := am (blk_below (g := gb215) (o := .cells #[.slice (some ad217) l0_0.length c0_0, .slice A0_1 l0_1.length c0_1] 25 (0, 0)) (by (with_reducible repeat (first | refine blk_drewN ?_ _ | refine blk_drew ?_ | refine blk_alloc ?_ _)); refine blk_far ?_ NB215_218.out _; (with_reducible repeat (first | refine blk_drewN ?_ _ | refine blk_drew ?_ | refine blk_alloc ?_ _)); refine blk_far ?_ NB215_218.out _; (with_reducible repeat (first | refine blk_drewN ?_ _ | refine blk_drew ?_ | refine blk_alloc ?_ _)); refine blk_far ?_ NB215_218.out _; (with_reducible repeat (first | refine blk_drewN ?_ _ | refine blk_drew ?_ | refine blk_alloc ?_ _)); refine blk_far ?_ NB215_218.out _; (with_reducible repeat (first | refine blk_drewN ?_ _ | refine blk_drew ?_ | refine blk_alloc ?_ _)); refine blk_far ?_ NB215_218.out _; (with_reducible repeat (first | refine blk_drewN ?_ _ | refine blk_drew ?_ | refine blk_alloc ?_ _)); exact BK215.out) hb); replace BK218 := am (blk_below (g := gb218) (o := .cells #[.string ((rd_T40 l0_0 x14_1).f0), .bool ((rd_T40 l0_0 x14_1).f1), .string ((rd_T40 l0_0 x14_1).f2), .string ((rd_T40 l0_0 x14_1).f3), .string ((rd_T40 l0_0 x14_1).f4)] 40 (0, 0)) (by (with_reducible repeat (first | refine blk_drewN ?_ _ | refine blk_drew ?_ | refine blk_alloc ?_ _)); refine blk_put (cs := #[.string ((rd_T40 l0_0 x14_1).f0), .bool ((rd_T40 l0_0 x14_1).f1), .string ((rd_T40 l0_0 x14_1).f2), .string ((rd_T40 l0_0 x14_1).f3), .string (⟨#[]⟩ : ByteArray)]) ?_ 4 _ rfl; (with_reducible repeat (first | refine blk_drewN ?_ _ | refine blk_drew ?_ | refine blk_alloc ?_ _)); refine blk_put (cs := #[.string ((rd_T40 l0_0 x14_1).f0), .bool ((rd_T40 l0_0 x14_1).f1), .string ((rd_T40 l0_0 x14_1).f2), .string (⟨#[]⟩ : ByteArray), .string (⟨#[]⟩ : ByteArray)]) ?_ 3 _ rfl; (with_reducible repeat (first | refine blk_drewN ?_ _ | refine blk_drew ?_ | refine blk_alloc ?_ _)); refine blk_put (cs := #[.string ((rd_T40 l0_0 x14_1).f0), .bool ((rd_T40 l0_0 x14_1).f1), .string (⟨#[]⟩ : ByteArray), .string (⟨#[]⟩ : ByteArray), .string (⟨#[]⟩ : ByteArray)]) ?_ 2 _ rfl; (with_reducible repeat (first | refine blk_drewN ?_ _ | refine blk_drew ?_ | refine blk_alloc ?_ _)); refine blk_put (cs := #[.string ((rd_T40 l0_0 x14_1).f0), .bool false, .string (⟨#[]⟩ : ByteArray), .string (⟨#[]⟩ : ByteArray), .string (⟨#[]⟩ : ByteArray)]) ?_ 1 _ rfl; (with_reducible repeat (first | refine blk_drewN ?_ _ | refine blk_drew ?_ | refine blk_alloc ?_ _)); refine blk_put (cs := #[.string (⟨#[]⟩ : ByteArray), .bool false, .string (⟨#[]⟩ : ByteArray), .string (⟨#[]⟩ : ByteArray), .string (⟨#[]⟩ : ByteArray)]) ?_ 0 _ rfl; (with_reducible repeat (first | refine blk_drewN ?_ _ | refine blk_drew ?_ | refine blk_alloc ?_ _)); exact BK218.out) hb); replace HB := am (below_step (bel2 GE215.out GE218.out) hb); (try clear hb); (try clear hb2); (try clear hk); (try clear hi)))
     go_roundg k1
     case measure => have := HK1.out; omega
     case rel => exact ⟨(x3_1 ++ t219), (wrap64 (x14_1 + 1)), sq, sq, H', ⟨b74_⟩, ⟨bq BK215.out⟩, ⟨bel2 GE215.out GE218.out⟩⟩
    rw [if_neg c8] at H; have c8b0 := decide_eq_false c8; clear c8
    have H' := am H
    clear H; have hcz17_0 := bc BK215.out 0; have hcz17_1 := bc BK215.out 1; have hfz17_0 := bf BK215.out 0; have hfz17_1 := bf BK215.out 1; go_wp2
    go_loopg [3, 26] k1 (fun kq v3 v26 w' => ∃ (x3_2 : ByteArray) (x26_2 : Int), v3 = .string x3_2 ∧ v26 = .int .i64 x26_2 ∧ Aside0 (impl_BookPut.l1 kq x3_2 l0_1 (l0_1.length : Int) x26_2 = some r) ∧ Aside0 (kq ≤ k1) ∧ Aside0 (w'.heap[gb215]? = some (.cells #[(.slice A0_0 l0_0.length c0_0), (.slice A0_1 l0_1.length c0_1)] 25 (0, 0))) ∧ Aside0 (Below w.heap.size w w'))
    case atStart => exact ⟨(x3_1), (0), sq, sq, H', ⟨Nat.le_refl _⟩, ⟨bq BK215.out⟩, ⟨bel1 GE215.out⟩⟩
    case round =>
     clear H'; (try clear c1); (try clear c2); (try clear p2); (try clear q2); (try clear hx2); (try clear c3); (try clear p6); (try clear c8); (try clear c8b0); (try clear c9); (try clear c9b0); (try clear c10); (try clear c10b0); (try clear c11); (try clear c12); (try clear c12b0); (try clear c12b1); (try clear c12b2); (try clear c14); (try clear hcz15_0); (try clear hcz15_1); (try clear hcz15_2); (try clear hcz15_3); (try clear hcz15_4); (try clear hcz17_0); (try clear hcz17_1); (try clear hcz5_0); (try clear hcz5_1); (try clear hcz7_0); (try clear hcz7_1); (try clear hfz15_0); (try clear hfz15_1); (try clear hfz15_2); (try clear hfz15_3); (try clear hfz15_4); (try clear hfz17_0); (try clear hfz17_1); (try clear hfz5_0); (try clear hfz5_1); (try clear hfz7_0); (try clear hfz7_1); (try clear hx217_0); (try clear hx217_1); (try clear hx217_2); (try clear hx217_3); (try clear hx217_4); (try clear p2); (try clear p217); (try clear q217); obtain ⟨x3_2, x26_2, rfl, rfl, HA, HK2, BK215, HB⟩ := hrel
     cases gk with
     | zero => exact absurd HA.out (by simp [impl_BookPut.l1])
     | succ k2 =>
      have H := HA.out; clear HA
      simp only [impl_BookPut.l1] at H
      by_cases c18 : x26_2 < (l0_1.length : Int)
      ·rw [if_pos c18] at H; have c18b0 := decide_eq_true c18; clear c18
       replace H := it H; obtain ⟨c19b0, H⟩ := H
       replace H := it H; obtain ⟨c20b0, H⟩ := H; replace H := bs H; obtain ⟨t222, A210, H⟩ := H; replace H : (if x3_2.size + t222.size ≤ 9223372036854775807 then (impl_BookPut.l1 k2 (x3_2 ++ t222) l0_1 (l0_1.length : Int) (wrap64 (x26_2 + 1))) else (none)) = some r := H; have A21 := Aside0.mk A210; clear A210
       replace H := ip H; obtain ⟨c22, H⟩ := H; have c22b0 := eq_true c22
       have c22b1 : decide (x3_2.size + t222.size ≤ 9223372036854775807) = true := decide_eq_true c22
       try have c22b2 : (9223372036854775807 < x3_2.size + t222.size) = False := eq_false (Nat.not_lt.2 c22)
       have H' := am H
       clear H
       have p220 : 0 ≤ (x26_2 : Int) := of_decide_eq_true ad
       have q220 : x26_2 < (l0_1.length : Int) := of_decide_eq_true ad
       obtain ⟨ad220, e220, hx220_0, hx220_1⟩ := at_T43 HR0_1.out x26_2 p220 q220
       cases e220
       replace hx220_0 := kp HB.out hx220_0; replace hx220_1 := kp HB.out hx220_1; replace p220 := eq_true p220; replace q220 := eq_true q220
       go_wp2_with (first | ((with_reducible refine gate_dst (N := 7) rfl ?_); refine bx 7 (cs := #[.string (⟨#[]⟩ : ByteArray), .string (⟨#[]⟩ : ByteArray)]) (t := 43) ?_; intro gb221 hg w23 hbox hb; have BK221 := am (hbox); have GW221 := am ((b94_ : w.heap.size ≤ gb221)); have GE221 := am ((b94_ : w.heap.size ≤ gb221)); replace HB := am (below_step (bel1 GE215.out) hb); have NB215_221 := am ((by rw [hg]; exact Nat.ne_of_lt (blk_lt (g := gb215) (o := .cells #[.slice A0_0 l0_0.length c0_0, .slice (some ad220) l0_1.length c0_1] 25 (0, 0)) (bq BK215.out)) : gb215 ≠ gb221)); have NB221_215 := am ((by rw [hg]; exact Nat.ne_of_gt (blk_lt (g := gb215) (o := .cells #[.slice A0_0 l0_0.length c0_0, .slice (some ad220) l0_1.length c0_1] 25 (0, 0)) (bq BK215.out)) : gb221 ≠ gb215)); replace BK215 := am (blk_below (g := gb215) (o := .cells #[.slice A0_0 l0_0.length c0_0, .slice (some ad220) l0_1.length c0_1] 25 (0, 0)) (bq BK215.out) hb); clear hb hbox hg; have hnb24 := NB221_215.out; have hnc24 := NB215_221.out; have hcz25_0 := bc BK221.out 0; have hcz25_1 := bc BK221.out 1; have hfz25_0 := bf BK221.out 0; have hfz25_1 := bf BK221.out 1) | ((with_reducible refine gate_callee (f := 34) rfl ?_); refine goesL_ (some 32) rfl rfl Tryd.func34 (by kernel_rfl) rfl #[.agg #[.string ((rd_T43 l0_1 x26_2).f0), .string ((rd_T43 l0_1 x26_2).f1)]] rfl mq ?_; (with_reducible refine (impl_entryLine.calls ((rd_T43 l0_1 x26_2).f0) ((rd_T43 l0_1 x26_2).f1) t222 _ A21.out).mono ?_); rintro e w26 ⟨rfl, hb⟩; refine ⟨_, rfl, ?_⟩; replace BK215 := am (blk_below (g := gb215) (o := .cells #[.slice A0_0 l0_0.length c0_0, .slice (some ad220) l0_1.length c0_1] 25 (0, 0)) (by (with_reducible repeat (first | refine blk_drewN ?_ _ | refine blk_drew ?_ | refine blk_alloc ?_ _)); refine blk_far ?_ NB215_221.out _; (with_reducible repeat (first | refine blk_drewN ?_ _ | refine blk_drew ?_ | refine blk_alloc ?_ _)); refine blk_far ?_ NB215_221.out _; (with_reducible repeat (first | refine blk_drewN ?_ _ | refine blk_drew ?_ | refine blk_alloc ?_ _)); exact BK215.out) hb); replace BK221 := am (blk_below (g := gb221) (o := .cells #[.string ((rd_T43 l0_1 x26_2).f0), .string ((rd_T43 l0_1 x26_2).f1)] 43 (0, 0)) (by (with_reducible repeat (first | refine blk_drewN ?_ _ | refine blk_drew ?_ | refine blk_alloc ?_ _)); refine blk_put (cs := #[.string ((rd_T43 l0_1 x26_2).f0), .string (⟨#[]⟩ : ByteArray)]) ?_ 1 _ rfl; (with_reducible repeat (first | refine blk_drewN ?_ _ | refine blk_drew ?_ | refine blk_alloc ?_ _)); refine blk_put (cs := #[.string (⟨#[]⟩ : ByteArray), .string (⟨#[]⟩ : ByteArray)]) ?_ 0 _ rfl; (with_reducible repeat (first | refine blk_drewN ?_ _ | refine blk_drew ?_ | refine blk_alloc ?_ _)); exact BK221.out) hb); replace HB := am (below_step (bel2 GE215.out GE221.out) hb); (try clear hb); (try clear hb2); (try clear hk); (try clear hi)))
       go_roundg k2
       case measure => have := HK1.out; have := HK2.out; omega
       case rel => exact ⟨(x3_2 ++ t222), (wrap64 (x26_2 + 1)), sq, sq, H', ⟨b85_⟩, ⟨bq BK215.out⟩, ⟨bel2 GE215.out GE221.out⟩⟩
      rw [if_neg c18] at H; have c18b0 := decide_eq_false c18; clear c18; obtain rfl := Option.some.inj H; go_wp2; go_ret
      exact ⟨eq_, bel1 GE215.out⟩
 replace c3 := Bool.eq_false_iff.mpr c3; subst c3
 have H1 : (some (⟨#[]⟩ : ByteArray)) = some r := b22_
 replace H := H1; clear H1
 obtain rfl := Option.some.inj H; go_enter Tryd.func11, Tryd.ntmps11
 go_wp2_with (first | ((with_reducible refine gate_dst (N := 1) rfl ?_); refine bx 1 (cs := #[.slice A0_0 l0_0.length c0_0, .slice A0_1 l0_1.length c0_1]) (t := 25) ?_; intro gb215 hg w27 hbox hb; have BK215 := am (hbox); have GW215 := am ((b19_ : w.heap.size ≤ gb215)); have GE215 := am ((b19_ : w.heap.size ≤ gb215)); replace HB := am (below_step bel hb); clear hb hbox hg; have hcz28_0 := bc BK215.out 0; have hcz28_1 := bc BK215.out 1; have hfz28_0 := bf BK215.out 0; have hfz28_1 := bf BK215.out 1) | ((with_reducible refine gate_callee (f := 24) rfl ?_); refine goesL_ (some 9) rfl rfl Tryd.func24 (by kernel_rfl) rfl #[.agg #[.slice A0_0 l0_0.length c0_0, .slice A0_1 l0_1.length c0_1]] rfl mq ?_; (with_reducible refine (impl_BookOk.calls k _ _ l0_0 _ _ l0_1 false _ ?side1 ?side2 ?side3 ?side4 A2.out).mono ?_); (case side1 => exact cq (Kd.C_below HR0_0.out HB.out)); (case side2 => exact HC0_0.out); (case side3 => exact cq (Kd.C_below HR0_1.out HB.out)); (case side4 => exact HC0_1.out); rintro e w29 ⟨rfl, hb⟩; refine ⟨_, rfl, ?_⟩; replace BK215 := am (blk_below (g := gb215) (o := .cells #[.slice A0_0 l0_0.length c0_0, .slice A0_1 l0_1.length c0_1] 25 (0, 0)) (bq BK215.out) hb); replace HB := am (below_step (bel1 GE215.out) hb); (try clear hb); (try clear hb2); (try clear hk); (try clear hi)))
 go_ret
 exact ⟨eq_, bel1 GE215.out⟩

/-! ### strings_Split: function 41 -/
/-- Split, at a text of one byte. -/
def strings_Split.f (a0 : ByteArray) (a1 : ByteArray) : Option (List ByteArray) := if a1.size = 1 ∧ a0.size ≤ 1000000000 then some (M.spl (a1.data.toList.headD 0) a0) else none
theorem strings_Split.calls (a0 : ByteArray) (a1 : ByteArray) (r : List ByteArray) (w : World) (h : strings_Split.f a0 a1 = some r) :
  Calls Tryd.prog 41 #[.string a0, .string a1] w fun e w' => ∃ v0_ : Value, e = .returned (v0_) ∧ Kd.R Kd.string 9 w' w.heap.size (fun _ => True) v0_ r ∧ Below w.heap.size w w' := by
 unfold strings_Split.f at h
 split at h
 case isFalse => cases h
 rename_i hs; obtain rfl := Option.some.inj h; obtain ⟨hs1, hs2⟩ := hs; obtain ⟨⟨l⟩⟩ := a1
 match l, hs1 with
 | [c], _ =>
  have := M.split_one Try.laySplit (by kernel_rfl) a0 c w (by omega)
  change Calls Tryd.prog 41 _ _ _ at this
  refine this.mono ?_
  rintro e w' ⟨rfl, rfl⟩
  have hl : (M.spl c a0).length ≤ maxLen := by
   have := List.count_le_length (a := c) (l := a0.data.toList)
   rw [Go.Lib.size_eq] at hs2
   rw [M.spl_length]
   simp only [maxLen]
   omega
  refine ⟨_, rfl, Kd.R_of_own (xs := M.spl c a0) ?_ (fun _ _ => trivial), below_alloc (Below.refl _ _) _⟩
  exact ⟨by simp [encs], .inr ⟨_, _, _, rfl, Nat.le_refl _, heap_alloc_new w _, Nat.le_refl _, hl, by simp, by simp only [encs, Nat.mul_one]; exact List.take_of_length_le (by simp)⟩⟩

/-! ### impl_linesOf: function 20 -/
def impl_linesOf.f (a0 : ByteArray) : Option (List ByteArray) := (strings_Split.f a0 (⟨#[10]⟩ : ByteArray)).bind fun t223 => (if 0 ≤ (wrap64 ((t223.length : Int) - 1)) then (if (wrap64 ((t223.length : Int) - 1)) ≤ (t223.length : Int) then (some (t223.take ((wrap64 ((t223.length : Int) - 1)) : Int).toNat)) else (none)) else (none))
theorem impl_linesOf.calls (a0 : ByteArray) (r : List ByteArray) (w : World) (h : impl_linesOf.f a0 = some r) :
  Calls Tryd.prog 20 #[.string a0] w fun e w' => ∃ v0_ : Value, e = .returned (v0_) ∧ Kd.R Kd.string 9 w' w.heap.size (fun _ => True) v0_ r ∧ Below w.heap.size w w' := by
 have HB := am (Below.refl w.heap.size w)
 have H : ((strings_Split.f a0 (⟨#[10]⟩ : ByteArray)).bind fun t223 => (if 0 ≤ (wrap64 ((t223.length : Int) - 1)) then (if (wrap64 ((t223.length : Int) - 1)) ≤ (t223.length : Int) then (some (t223.take ((wrap64 ((t223.length : Int) - 1)) : Int).toNat)) else (none)) else (none))) = some r := h
 clear h; replace H := bs H; obtain ⟨t223, A20, H⟩ := H; replace H : (if 0 ≤ (wrap64 ((t223.length : Int) - 1)) then (if (wrap64 ((t223.length : Int) - 1)) ≤ (t223.length : Int) then (some (t223.take ((wrap64 ((t223.length : Int) - 1)) : Int).toNat)) else (none)) else (none)) = some r := H; have A2 := Aside0.mk A20; clear A20; obtain ⟨ji3, hji3⟩ : ∃ j_ : Int, (wrap64 ((t223.length : Int) - 1)) = j_ := ⟨_, rfl⟩
 replace H : (if 0 ≤ (ji3) then (if (ji3) ≤ (t223.length : Int) then (some (t223.take ((ji3) : Int).toNat)) else (none)) else (none)) = some r := by first | (rw [hji3] at H; exact H) | (simp only [hji3] at H ⊢; exact H)
 (try rw [hji3] at A2)
 have hji3w : (IntKind.i64.wrap ((t223.length : Int) - 1)) = ji3 := (i64_w _).trans hji3
 replace H := ip H; obtain ⟨c4, H⟩ := H; have c4b0 := eq_true c4
 have c4b1 : decide (0 ≤ (ji3)) = true := decide_eq_true c4
 clear c4
 replace H := ip H; obtain ⟨c5, H⟩ := H; have c5b0 := eq_true c5
 have c5b1 : decide ((ji3) ≤ (t223.length : Int)) = true := decide_eq_true c5
 clear c5; obtain ⟨y226, hy226⟩ : ∃ y_ : List ByteArray, y_ = (t223.take ((ji3) : Int).toNat) := ⟨_, rfl⟩
 replace H : (some y226) = some r := by first | (rw [hy226]; with_reducible exact H) | (have H2_ := bm H; rw [hy226]; with_reducible exact H2_) | (with_reducible exact bm H) | with_reducible exact H | (rw [hy226]; exact H) | exact H
 have Ny226 := am hy226; clear hy226; obtain rfl := Option.some.inj H; go_enter Tryd.func20, Tryd.ntmps20
 go_wp2_with (first | ((with_reducible refine gate_callee (f := 41) rfl ?_); refine goesL_ (some 5) rfl rfl Tryd.func41 (by kernel_rfl) rfl #[.string a0, .string (⟨#[10]⟩ : ByteArray)] rfl mq ?_; (with_reducible refine (strings_Split.calls a0 (⟨#[10]⟩ : ByteArray) t223 _ A2.out).mono ?_); rintro e w6 ⟨v224, rfl, ho0, hb⟩; refine ⟨_, rfl, ?_⟩; have HO225 := am (Kd.R_lower ho0 (below_size bel)); replace HB := am (below_step bel hb); (try clear hb); (try clear hb2); (try clear hk); (try clear hi); (try clear ho0); obtain ⟨Ao7, co7, eo7⟩ := Kd.R_slice HO225.out; subst eo7; have q8 : ((ji3) : Int) ≤ ((t223.length : Int) : Int) := of_decide_eq_true ad; obtain ⟨i08, hi08, _, hsz8, _⟩ := info_parts info9; have hcut8 := cut_to (P := Tryd.prog) 37 9 .i64 Tryd.underlying37 hi08 Ao7 t223.length co7 (ji3) (of_decide_eq_true ad) q8 (Kd.R_reads' HO225.out).2.1; have hr8 := Kd.R_take (m := ((ji3) : Int).toNat) HO225.out (by omega); have hy8 : y226.length = ((ji3) : Int).toNat := (by rw [Ny226.out, List.length_take]; omega); rw [← Ny226.out] at hr8; rw [← hy8] at hr8 hcut8; clear hy8 hi08 hsz8 HO225; have HO228 := am hr8; clear hr8; replace q8 := eq_true q8))
 go_ret
 exact ⟨_, by first | rfl | (simp [errW_none, errW_some] <;> rfl) | (simp only [← hji3]; first | rfl | (simp [errW_none, errW_some] <;> rfl)) | (simp [*, errW_none, errW_some] <;> rfl), by (with_reducible repeat (first | apply Kd.R_alloc | apply Kd.R_drewN | apply Kd.R_drew)); exact HO228.out, bel⟩

/-! ### strings_Contains: function 21 -/
/-- Contains, of a text of one byte. -/
def strings_Contains.f (a0 : ByteArray) (a1 : ByteArray) : Option Bool := if a1.size = 1 then some (a0.data.toList.contains (a1.data.toList.headD 0)) else none
theorem strings_Contains.index (s : List UInt8) (c : UInt8) : decide (0 ≤ Go.Lib.indexByte s c) = s.contains c := by
 have h1 : ∀ s : List UInt8, -1 ≤ Go.Lib.indexByte s c := by
  intro s
  induction s with
  | nil => simp [Go.Lib.indexByte]
  | cons b l ih =>
   unfold Go.Lib.indexByte
   split
   ·omega
   ·split <;> omega
 induction s with
 | nil => simp [Go.Lib.indexByte]
 | cons b l ih =>
  unfold Go.Lib.indexByte
  rw [List.contains_cons]
  by_cases e : b = c
  ·subst e
   simp
  ·have e2 : (b == c) = false := by simpa using e
   have e3 : (c == b) = false := by simpa using fun h => e h.symm
   rw [e2, e3, Bool.false_or, ← ih]
   have := h1 l
   simp only [Bool.false_eq_true, if_false, beq_iff_eq]
   rw [decide_eq_decide]
   split <;> omega
theorem strings_Contains.calls (a0 : ByteArray) (a1 : ByteArray) (r : Bool) (w : World) (h : strings_Contains.f a0 a1 = some r) :
  Calls Tryd.prog 21 #[.string a0, .string a1] w fun e w' => e = .returned (.bool r) ∧ Drawn0 w w' := by
 unfold strings_Contains.f at h
 split at h
 case isFalse => cases h
 rename_i hs; obtain rfl := Option.some.inj h; obtain ⟨⟨l⟩⟩ := a1
 match l, hs with
 | [c], _ =>
  have := Any.strings_Contains_one Try.layHas a0 c w
  change Calls Tryd.prog 21 _ _ _ at this
  refine this.mono ?_
  rintro e w' ⟨he, rfl⟩
  refine ⟨?_, 0, rfl⟩
  rw [he, strings_Contains.index]
  rfl

/-! ### impl_readAffix: function 22 -/
def impl_readAffix.f (a0 : ByteArray) : Option (ByteArray × Bool × ByteArray × ByteArray × ByteArray) := (strings_Split.f a0 (⟨#[32]⟩ : ByteArray)).bind fun t230 => ((some (([(⟨#[]⟩ : ByteArray), (⟨#[]⟩ : ByteArray), (⟨#[]⟩ : ByteArray), (⟨#[]⟩ : ByteArray)] : List ByteArray) : List ByteArray)).bind fun y233 => (if t230.length + y233.length < 8796093022208 then ((some (t230 ++ y233 : List ByteArray)).bind fun y236 => (if 1 < (y236.length : Int) then (if 0 < (y236.length : Int) then (if 2 < (y236.length : Int) then (if 3 < (y236.length : Int) then (if 4 < (y236.length : Int) then (some (rdOf ByteArray.empty y236 1, ((rdOf ByteArray.empty y236 0).toList == ([102, 114, 111, 110, 116] : List UInt8)), rdOf ByteArray.empty y236 2, rdOf ByteArray.empty y236 3, rdOf ByteArray.empty y236 4)) else (none)) else (none)) else (none)) else (none)) else (none))) else (none)))
def impl_readAffix.T2 : Bool × List (List Nat × List Nat) := (true, [([], []), ([0], [0]), ([1], [1]), ([], []), ([3], [3]), ([4], [4]), ([5], [5]), ([], []), ([7], [7]), ([8], [8]), ([], []), ([10], [10]), ([11], [11]), ([], []), ([13], [13]), ([14], [14]), ([2, 6, 9, 12, 15], [2, 6, 9, 12, 15]), ([16, 0, 1, 2, 3, 4, 5, 6, 7, 8, 9, 10, 11, 12, 13, 14, 15, 16], [16])])
def impl_readAffix.B2 : List Nat := [0, 1, 3, 0, 8, 24, 56, 0, 128, 384, 0, 1024, 3072, 0, 8192, 24576, 65535, 131071]
theorem impl_readAffix.tab2 : rtab .any (opsOf Tryd.f22 2) = impl_readAffix.T2 := by kernel_rfl
theorem impl_readAffix.bits2 : waitsOk impl_readAffix.T2.2 impl_readAffix.B2 = true := by kernel_rfl
theorem impl_readAffix.calls (a0 : ByteArray) (r1 : ByteArray) (r2 : Bool) (r3 : ByteArray) (r4 : ByteArray) (r5 : ByteArray) (w : World) (h : impl_readAffix.f a0 = some (r1, r2, r3, r4, r5)) :
  Calls Tryd.prog 22 #[.string a0] w fun e w' => e = .returned (.agg #[.string r1, .bool r2, .string r3, .string r4, .string r5]) ∧ Below w.heap.size w w' := by
 have hu40 := Tryd.underlying40; have HB := am (Below.refl w.heap.size w)
 have H : ((strings_Split.f a0 (⟨#[32]⟩ : ByteArray)).bind fun t230 => ((some (([(⟨#[]⟩ : ByteArray), (⟨#[]⟩ : ByteArray), (⟨#[]⟩ : ByteArray), (⟨#[]⟩ : ByteArray)] : List ByteArray) : List ByteArray)).bind fun y233 => (if t230.length + y233.length < 8796093022208 then ((some (t230 ++ y233 : List ByteArray)).bind fun y236 => (if 1 < (y236.length : Int) then (if 0 < (y236.length : Int) then (if 2 < (y236.length : Int) then (if 3 < (y236.length : Int) then (if 4 < (y236.length : Int) then (some (rdOf ByteArray.empty y236 1, ((rdOf ByteArray.empty y236 0).toList == ([102, 114, 111, 110, 116] : List UInt8)), rdOf ByteArray.empty y236 2, rdOf ByteArray.empty y236 3, rdOf ByteArray.empty y236 4)) else (none)) else (none)) else (none)) else (none)) else (none))) else (none)))) = some (r1, r2, r3, r4, r5) := h
 clear h; replace H := bs H; obtain ⟨t230, A20, H⟩ := H; replace H : ((some (([(⟨#[]⟩ : ByteArray), (⟨#[]⟩ : ByteArray), (⟨#[]⟩ : ByteArray), (⟨#[]⟩ : ByteArray)] : List ByteArray) : List ByteArray)).bind fun y233 => (if t230.length + y233.length < 8796093022208 then ((some (t230 ++ y233 : List ByteArray)).bind fun y236 => (if 1 < (y236.length : Int) then (if 0 < (y236.length : Int) then (if 2 < (y236.length : Int) then (if 3 < (y236.length : Int) then (if 4 < (y236.length : Int) then (some (rdOf ByteArray.empty y236 1, ((rdOf ByteArray.empty y236 0).toList == ([102, 114, 111, 110, 116] : List UInt8)), rdOf ByteArray.empty y236 2, rdOf ByteArray.empty y236 3, rdOf ByteArray.empty y236 4)) else (none)) else (none)) else (none)) else (none)) else (none))) else (none))) = some (r1, r2, r3, r4, r5) := H; have A2 := Aside0.mk A20; clear A20; obtain ⟨y233, hy233⟩ : ∃ y_ : List ByteArray, y_ = (([(⟨#[]⟩ : ByteArray), (⟨#[]⟩ : ByteArray), (⟨#[]⟩ : ByteArray), (⟨#[]⟩ : ByteArray)] : List ByteArray)) := ⟨_, rfl⟩
 replace H : (if t230.length + y233.length < 8796093022208 then ((some (t230 ++ y233 : List ByteArray)).bind fun y236 => (if 1 < (y236.length : Int) then (if 0 < (y236.length : Int) then (if 2 < (y236.length : Int) then (if 3 < (y236.length : Int) then (if 4 < (y236.length : Int) then (some (rdOf ByteArray.empty y236 1, ((rdOf ByteArray.empty y236 0).toList == ([102, 114, 111, 110, 116] : List UInt8)), rdOf ByteArray.empty y236 2, rdOf ByteArray.empty y236 3, rdOf ByteArray.empty y236 4)) else (none)) else (none)) else (none)) else (none)) else (none))) else (none)) = some (r1, r2, r3, r4, r5) := by first | (rw [hy233]; with_reducible exact H) | (have H2_ := bm H; rw [hy233]; with_reducible exact H2_) | (with_reducible exact bm H) | with_reducible exact H | (rw [hy233]; exact H) | exact H
 have Ny233 := am hy233; clear hy233
 replace H := ip H; obtain ⟨c3, H⟩ := H; have LMc3 := Aside0.mk c3; clear c3; obtain ⟨y236, hy236⟩ : ∃ y_ : List ByteArray, y_ = (t230 ++ y233) := ⟨_, rfl⟩
 replace H : (if 1 < (y236.length : Int) then (if 0 < (y236.length : Int) then (if 2 < (y236.length : Int) then (if 3 < (y236.length : Int) then (if 4 < (y236.length : Int) then (some (rdOf ByteArray.empty y236 1, ((rdOf ByteArray.empty y236 0).toList == ([102, 114, 111, 110, 116] : List UInt8)), rdOf ByteArray.empty y236 2, rdOf ByteArray.empty y236 3, rdOf ByteArray.empty y236 4)) else (none)) else (none)) else (none)) else (none)) else (none)) = some (r1, r2, r3, r4, r5) := by first | (rw [hy236]; with_reducible exact H) | (have H2_ := bm H; rw [hy236]; with_reducible exact H2_) | (with_reducible exact bm H) | with_reducible exact H | (rw [hy236]; exact H) | exact H
 have Ny236 := am hy236; clear hy236
 replace H := ip H; obtain ⟨c4, H⟩ := H; have c4b0 := decide_eq_true c4
 have c4b1 : decide (1 < y236.length) = true := decide_eq_true (by omega)
 clear c4
 replace H := ip H; obtain ⟨c5, H⟩ := H; have c5b0 := decide_eq_true c5
 have c5b1 : decide (0 < y236.length) = true := decide_eq_true (by omega)
 clear c5
 replace H := ip H; obtain ⟨c6, H⟩ := H; have c6b0 := decide_eq_true c6
 have c6b1 : decide (2 < y236.length) = true := decide_eq_true (by omega)
 clear c6
 replace H := ip H; obtain ⟨c7, H⟩ := H; have c7b0 := decide_eq_true c7
 have c7b1 : decide (3 < y236.length) = true := decide_eq_true (by omega)
 clear c7
 replace H := ip H; obtain ⟨c8, H⟩ := H; have c8b0 := decide_eq_true c8
 have c8b1 : decide (4 < y236.length) = true := decide_eq_true (by omega)
 clear c8
 simp only [Option.some.injEq, Prod.mk.injEq] at H
 obtain ⟨rfl, rfl, rfl, rfl, rfl⟩ := H; go_enter Tryd.func22, Tryd.ntmps22
 try go_wp2_with (first | ((with_reducible refine gate_dst (N := 2) rfl ?_); refine bx 2 (cs := #[.string (⟨#[]⟩ : ByteArray), .bool false, .string (⟨#[]⟩ : ByteArray), .string (⟨#[]⟩ : ByteArray), .string (⟨#[]⟩ : ByteArray)]) (t := 40) ?_; intro gb229 hg w9 hbox hb; have BK229 := am (hbox); have GW229 := am ((b19_ : w.heap.size ≤ gb229)); have GE229 := am ((b19_ : w.heap.size ≤ gb229)); replace HB := am (below_step bel hb); clear hb hbox hg) | ((with_reducible refine gate_callee (f := 41) rfl ?_); refine goesL_ (some 5) rfl rfl Tryd.func41 (by kernel_rfl) rfl #[.string a0, .string (⟨#[32]⟩ : ByteArray)] rfl mq ?_; (with_reducible refine (strings_Split.calls a0 (⟨#[32]⟩ : ByteArray) t230 _ A2.out).mono ?_); rintro e w10 ⟨v231, rfl, ho0, hb⟩; refine ⟨_, rfl, ?_⟩; have HO232 := am (Kd.R_lower ho0 (below_size (bel1 GE229.out))); replace BK229 := am (blk_below (g := gb229) (o := .cells #[.string (⟨#[]⟩ : ByteArray), .bool false, .string (⟨#[]⟩ : ByteArray), .string (⟨#[]⟩ : ByteArray), .string (⟨#[]⟩ : ByteArray)] 40 (0, 0)) (bq BK229.out) hb); replace HB := am (below_step (bel1 GE229.out) hb); (try clear hb); (try clear hb2); (try clear hk); (try clear hi); (try clear ho0)) | ((with_reducible refine gate_dst (N := 6) rfl ?_); refine Kd.R_lit Kd.string _ 9 ?hg (N := 6) ?hd (xs := ([(⟨#[]⟩ : ByteArray), (⟨#[]⟩ : ByteArray), (⟨#[]⟩ : ByteArray), (⟨#[]⟩ : ByteArray)] : List ByteArray)) (inner := [.string (⟨#[]⟩ : ByteArray), .string (⟨#[]⟩ : ByteArray), .string (⟨#[]⟩ : ByteArray), .string (⟨#[]⟩ : ByteArray)]) (ok := fun _ => True) (okp := fun _ => True) ?hr ?hp (fun _ hk => hk) trivial (Below.refl _ _) (Nat.le_refl _) (by simp) ?_; (case hd => rfl); (case hg => rfl); (case hr => first | (go_simp; done) | (go_simp; rfl)); (case hp => exact (Reps.one (show Kd.M Kd.string _ _ _ (⟨#[]⟩ : ByteArray) [.string (⟨#[]⟩ : ByteArray)] from rfl) (Reps.one (show Kd.M Kd.string _ _ _ (⟨#[]⟩ : ByteArray) [.string (⟨#[]⟩ : ByteArray)] from rfl) (Reps.one (show Kd.M Kd.string _ _ _ (⟨#[]⟩ : ByteArray) [.string (⟨#[]⟩ : ByteArray)] from rfl) (Reps.one (show Kd.M Kd.string _ _ _ (⟨#[]⟩ : ByteArray) [.string (⟨#[]⟩ : ByteArray)] from rfl) (Reps.none _ _)))))); intro v234 w11 ho12 hb hg_ hnew_; clear hg_ hnew_; (first | rw [← Ny233.out] at ho12 | (simp only [Int.reduceToNat] at ho12; rw [← Ny233.out] at ho12) | (simp only [Int.toNat_natCast] at ho12; rw [← Ny233.out] at ho12)); have HO235 := am (Kd.R_lower (Kd.R_new' ho12 (Kd.R_lt (rq HO232.out))) (below_size (bel1 GE229.out))); replace HO232 := am (Kd.R_elder' (rq HO232.out) (Kd.R_base ho12) hb); replace BK229 := am (blk_below (g := gb229) (o := .cells #[.string (⟨#[]⟩ : ByteArray), .bool false, .string (⟨#[]⟩ : ByteArray), .string (⟨#[]⟩ : ByteArray), .string (⟨#[]⟩ : ByteArray)] 40 (0, 0)) (bq BK229.out) hb); replace HB := am (below_step (bel1 GE229.out) hb); clear hb ho12; obtain ⟨Ao14, co14, eo14⟩ := Kd.R_slice HO235.out; subst eo14) | ((with_reducible refine gate_builtin (b := .append) (xs := #[.tmp 5, .tmp 6]) rfl ?_); at_builtin; refine Kd.R_append_rows Kd.string (w0 := w) w.heap.size rfl (.tmp 5) (.tmp 6) 37 9 (.string ⟨#[]⟩) 16 rfl Tryd.underlying37 info9 rfl (by decide) (by omega) v231 t230 y233 _ _ _ (fun k_ => some k_ ≠ (.slice Ao14 y233.length co14 : Value).ownBlock) (fun _ => False) rfl rfl ?aO ?aR (fun _ _ h => h) (fun _ h => h.elim) ?aF ?aB ?aS ?aL ?_; (case aR => exact cq (Kd.R_reads' HO235.out).2.2); (case aB => exact (bel1 GE229.out)); (case aF => exact (fun k_ hk => Kd.fresh' (Kd.R_lt (rq HO235.out)) k_ hk)); (case aO => exact (rq (Kd.R_mono HO232.out (fun _ hk => hk.2)))); (case aS => exact (below_size (bel1 GE229.out))); (case aL => have := LMc3.out; omega); intro v237 w13 ho hb hg hat; rw [← Ny236.out] at ho; replace BK229 := am (blk_grown (g := gb229) (o := .cells #[.string (⟨#[]⟩ : ByteArray), .bool false, .string (⟨#[]⟩ : ByteArray), .string (⟨#[]⟩ : ByteArray), .string (⟨#[]⟩ : ByteArray)] 40 (0, 0)) (bq BK229.out) hg (Kd.R_ne HO232.out BK229.out (by decide))); replace HO235 := am (Kd.R_after (ok := (fun _ => True)) (rq HO235.out) hg hat); replace HB := am (hb); have HO238 := am (ho); clear HO232; clear ho hb hg hat))
 replace HO235 := am (Kd.R_drew HO235.out); replace HO238 := am (Kd.R_drew HO238.out); replace BK229 := am (blk_drew BK229.out); replace HB := am (below_drew1 HB.out); obtain ⟨Ao16, co16, eo16⟩ := Kd.R_slice HO238.out
 (first | subst eo16 | (injection eo16 with f1_ f2_ f3_; have f4_ := f1_.symm; have f5_ := f3_.symm; clear f1_ f2_ f3_; subst f4_; subst f5_))
 have p239 : 0 ≤ (1 : Int) := (by omega)
 have q239 : 1 < (y236.length : Int) := of_decide_eq_true ad
 obtain ⟨ad239, e239, hx239_0⟩ := Kd.at_string (Kd.R_reads' HO238.out).2.2 1 p239 q239
 cases e239
 (try simp only [show (1 : Int).toNat = 1 from rfl, Nat.reduceMul, Nat.reduceEqDiff, Go.Addr.add, ↓reduceIte] at hx239_0)
 have qi239 : (1 < y236.length) = True := eq_true (by omega)
 (try rw [show ((1 : Int)).toNat = 1 from rfl] at hx239_0)
 replace p239 := eq_true p239; replace q239 := eq_true q239
 have p240 : 0 ≤ (0 : Int) := (by omega)
 have q240 : 0 < (y236.length : Int) := of_decide_eq_true ad
 obtain ⟨ad240, e240, hx240_0⟩ := Kd.at_string (Kd.R_reads' HO238.out).2.2 0 p240 q240
 obtain rfl : ad239 = ad240 := (by injection e240)
 have qi240 : (0 < y236.length) = True := eq_true (by omega)
 (try rw [show ((0 : Int)).toNat = 0 from rfl] at hx240_0)
 (try rw [Addr.add_zero'] at hx240_0)
 replace p240 := eq_true p240; replace q240 := eq_true q240
 have p241 : 0 ≤ (2 : Int) := (by omega)
 have q241 : 2 < (y236.length : Int) := of_decide_eq_true ad
 obtain ⟨ad241, e241, hx241_0⟩ := Kd.at_string (Kd.R_reads' HO238.out).2.2 2 p241 q241
 obtain rfl : ad239 = ad241 := (by injection e241)
 (try simp only [show (2 : Int).toNat = 2 from rfl, Nat.reduceMul, Nat.reduceEqDiff, Go.Addr.add, ↓reduceIte] at hx241_0)
 have qi241 : (2 < y236.length) = True := eq_true (by omega)
 (try rw [show ((2 : Int)).toNat = 2 from rfl] at hx241_0)
 replace p241 := eq_true p241; replace q241 := eq_true q241
 have p242 : 0 ≤ (3 : Int) := (by omega)
 have q242 : 3 < (y236.length : Int) := of_decide_eq_true ad
 obtain ⟨ad242, e242, hx242_0⟩ := Kd.at_string (Kd.R_reads' HO238.out).2.2 3 p242 q242
 obtain rfl : ad239 = ad242 := (by injection e242)
 (try simp only [show (3 : Int).toNat = 3 from rfl, Nat.reduceMul, Nat.reduceEqDiff, Go.Addr.add, ↓reduceIte] at hx242_0)
 have qi242 : (3 < y236.length) = True := eq_true (by omega)
 (try rw [show ((3 : Int)).toNat = 3 from rfl] at hx242_0)
 replace p242 := eq_true p242; replace q242 := eq_true q242
 have p243 : 0 ≤ (4 : Int) := (by omega)
 have q243 : 4 < (y236.length : Int) := of_decide_eq_true ad
 obtain ⟨ad243, e243, hx243_0⟩ := Kd.at_string (Kd.R_reads' HO238.out).2.2 4 p243 q243
 obtain rfl : ad239 = ad243 := (by injection e243)
 (try simp only [show (4 : Int).toNat = 4 from rfl, Nat.reduceMul, Nat.reduceEqDiff, Go.Addr.add, ↓reduceIte] at hx243_0)
 have qi243 : (4 < y236.length) = True := eq_true (by omega)
 (try rw [show ((4 : Int)).toNat = 4 from rfl] at hx243_0)
 replace p243 := eq_true p243; replace q243 := eq_true q243
 refine st (n := 18) (S := fun w' => w'.cell? ⟨ad239.block, ad239.off + 1, none⟩ = some (.string (rdOf ByteArray.empty y236 1)) ∧ w'.cell? ad239 = some (.string (rdOf ByteArray.empty y236 0)) ∧ w'.cell? ⟨ad239.block, ad239.off + 2, none⟩ = some (.string (rdOf ByteArray.empty y236 2)) ∧ w'.cell? ⟨ad239.block, ad239.off + 3, none⟩ = some (.string (rdOf ByteArray.empty y236 3)) ∧ w'.cell? ⟨ad239.block, ad239.off + 4, none⟩ = some (.string (rdOf ByteArray.empty y236 4))) (ds := []) ⟨hx239_0, hx240_0, hx241_0, hx242_0, hx243_0⟩ (fun hHeld => ?_); refine with_tabW impl_readAffix.tab2 impl_readAffix.bits2 (fun HT_ HW_ => ?_)
 generalize w13.drew = w15 at HO235 HO238 BK229 HB hx239_0 hx240_0 hx241_0 hx242_0 hx243_0 hHeld ⊢
 refine pu 0 8 ?_
 refine pu 1 9 ?_
 refine pu 3 11 ?_
 refine pu 4 12 ?_
 refine pu 7 15 ?_
 refine pu 8 16 ?_
 refine pu 10 18 ?_
 refine pu 11 19 ?_
 refine pu 13 21 ?_
 refine pu 14 22 ?_
 refine tk5 2 10 hHeld ?_
 refine tk5 5 13 hHeld ?_
 refine pu 6 14 ?_
 refine tk5 9 17 hHeld ?_
 refine tk5 12 20 hHeld ?_
 refine tk5 15 23 hHeld ?_
 refine pu 16 24 ?_
 refine one_ (i := 17) (N := none) #[true, true, true, true, true, true, true, true, true, true, true, true, true, true, true, true, true, true] rfl rfl (one_of HT_.out (by kernel_rfl)) (by decide) (fun K hK => ?_)
 have hs17 : w15.cell? ⟨gb229, 0, none⟩ = some (.string (⟨#[]⟩ : ByteArray)) := (blk_cell BK229.out 0).trans rfl
 have hfs17 := bf BK229.out 0
 have hs18 : w15.cell? ⟨gb229, 1, none⟩ = some (.bool false) := (blk_cell BK229.out 1).trans rfl
 have hfs18 := bf BK229.out 1
 have hs19 : w15.cell? ⟨gb229, 2, none⟩ = some (.string (⟨#[]⟩ : ByteArray)) := (blk_cell BK229.out 2).trans rfl
 have hfs19 := bf BK229.out 2
 have hs20 : w15.cell? ⟨gb229, 3, none⟩ = some (.string (⟨#[]⟩ : ByteArray)) := (blk_cell BK229.out 3).trans rfl
 have hfs20 := bf BK229.out 3
 have hs21 : w15.cell? ⟨gb229, 4, none⟩ = some (.string (⟨#[]⟩ : ByteArray)) := (blk_cell BK229.out 4).trans rfl
 have hfs21 := bf BK229.out 4
 refine skip_ (w1 := ?_) (by rfl) rfl ?_ ?_
 rotate_left
 ·go_simp
  rfl
 refine hK.out _ _ ⟨((cell_far (p := ⟨gb229, _, none⟩) b1_ _).trans (((cell_far (p := ⟨gb229, _, none⟩) b1_ _).trans (((cell_far (p := ⟨gb229, _, none⟩) b1_ _).trans (((cell_far (p := ⟨gb229, _, none⟩) b1_ _).trans (((cell_far (p := ⟨gb229, _, none⟩) b1_ _).trans (hHeld.1)))))))))), ((cell_far (p := ⟨gb229, _, none⟩) b1_ _).trans (((cell_far (p := ⟨gb229, _, none⟩) b1_ _).trans (((cell_far (p := ⟨gb229, _, none⟩) b1_ _).trans (((cell_far (p := ⟨gb229, _, none⟩) b1_ _).trans (((cell_far (p := ⟨gb229, _, none⟩) b1_ _).trans (hHeld.2.1)))))))))), ((cell_far (p := ⟨gb229, _, none⟩) b1_ _).trans (((cell_far (p := ⟨gb229, _, none⟩) b1_ _).trans (((cell_far (p := ⟨gb229, _, none⟩) b1_ _).trans (((cell_far (p := ⟨gb229, _, none⟩) b1_ _).trans (((cell_far (p := ⟨gb229, _, none⟩) b1_ _).trans (hHeld.2.2.1)))))))))), ((cell_far (p := ⟨gb229, _, none⟩) b1_ _).trans (((cell_far (p := ⟨gb229, _, none⟩) b1_ _).trans (((cell_far (p := ⟨gb229, _, none⟩) b1_ _).trans (((cell_far (p := ⟨gb229, _, none⟩) b1_ _).trans (((cell_far (p := ⟨gb229, _, none⟩) b1_ _).trans (hHeld.2.2.2.1)))))))))), ((cell_far (p := ⟨gb229, _, none⟩) b1_ _).trans (((cell_far (p := ⟨gb229, _, none⟩) b1_ _).trans (((cell_far (p := ⟨gb229, _, none⟩) b1_ _).trans (((cell_far (p := ⟨gb229, _, none⟩) b1_ _).trans (((cell_far (p := ⟨gb229, _, none⟩) b1_ _).trans (hHeld.2.2.2.2))))))))))⟩ (fun hHeld => ?_)
 clear hK K
 refine done_ (done_of HT_.out (by kernel_rfl)) ?_
 try go_wp2
 refine bodyPost_ret (results_cell_row rfl _ _ gb229 40 #[.string (rdOf ByteArray.empty y236 1), .bool ((rdOf ByteArray.empty y236 0).toList == ([102, 114, 111, 110, 116] : List UInt8)), .string (rdOf ByteArray.empty y236 2), .string (rdOf ByteArray.empty y236 3), .string (rdOf ByteArray.empty y236 4)] (0, 0) _ rfl (by (with_reducible repeat (first | refine blk_drewN ?_ _ | refine blk_drew ?_ | refine blk_alloc ?_ _)); refine blk_put (cs := #[.string (rdOf ByteArray.empty y236 1), .bool ((rdOf ByteArray.empty y236 0).toList == ([102, 114, 111, 110, 116] : List UInt8)), .string (rdOf ByteArray.empty y236 2), .string (rdOf ByteArray.empty y236 3), .string (⟨#[]⟩ : ByteArray)]) ?_ 4 _ rfl; (with_reducible repeat (first | refine blk_drewN ?_ _ | refine blk_drew ?_ | refine blk_alloc ?_ _)); refine blk_put (cs := #[.string (rdOf ByteArray.empty y236 1), .bool ((rdOf ByteArray.empty y236 0).toList == ([102, 114, 111, 110, 116] : List UInt8)), .string (rdOf ByteArray.empty y236 2), .string (⟨#[]⟩ : ByteArray), .string (⟨#[]⟩ : ByteArray)]) ?_ 3 _ rfl; (with_reducible repeat (first | refine blk_drewN ?_ _ | refine blk_drew ?_ | refine blk_alloc ?_ _)); refine blk_put (cs := #[.string (rdOf ByteArray.empty y236 1), .bool ((rdOf ByteArray.empty y236 0).toList == ([102, 114, 111, 110, 116] : List UInt8)), .string (⟨#[]⟩ : ByteArray), .string (⟨#[]⟩ : ByteArray), .string (⟨#[]⟩ : ByteArray)]) ?_ 2 _ rfl; (with_reducible repeat (first | refine blk_drewN ?_ _ | refine blk_drew ?_ | refine blk_alloc ?_ _)); refine blk_put (cs := #[.string (rdOf ByteArray.empty y236 1), .bool false, .string (⟨#[]⟩ : ByteArray), .string (⟨#[]⟩ : ByteArray), .string (⟨#[]⟩ : ByteArray)]) ?_ 1 _ rfl; (with_reducible repeat (first | refine blk_drewN ?_ _ | refine blk_drew ?_ | refine blk_alloc ?_ _)); refine blk_put (cs := #[.string (⟨#[]⟩ : ByteArray), .bool false, .string (⟨#[]⟩ : ByteArray), .string (⟨#[]⟩ : ByteArray), .string (⟨#[]⟩ : ByteArray)]) ?_ 0 _ rfl; (with_reducible repeat (first | refine blk_drewN ?_ _ | refine blk_drew ?_ | refine blk_alloc ?_ _)); exact BK229.out) Tryd.underlying40 rfl (by kernel_rfl)) rfl ?_
 exact ⟨eq_, bel1 GE229.out⟩

/-! ### strings_Cut: function 43 -/
/-- Cut, at a text of one byte. -/
def strings_Cut.f (a0 : ByteArray) (a1 : ByteArray) : Option (ByteArray × ByteArray × Bool) := if a1.size = 1 ∧ a0.size ≤ 1000000000 then some (M.cutP (a1.data.toList.headD 0) a0) else none
theorem strings_Cut.calls (a0 : ByteArray) (a1 : ByteArray) (r1 : ByteArray) (r2 : ByteArray) (r3 : Bool) (w : World) (h : strings_Cut.f a0 a1 = some (r1, r2, r3)) :
  Calls Tryd.prog 43 #[.string a0, .string a1] w fun e w' => e = .returned (.tuple #[.string r1, .string r2, .bool r3]) ∧ Drawn0 w w' := by
 unfold strings_Cut.f at h
 split at h
 case isFalse => cases h
 rename_i hs; have h := Option.some.inj h; obtain ⟨hs1, hs2⟩ := hs; obtain ⟨⟨l⟩⟩ := a1
 match l, hs1 with
 | [c], _ =>
  have := M.cut_one Try.layCut a0 c w (by omega)
  change Calls Tryd.prog 43 _ _ _ at this
  refine this.mono ?_
  rintro e w' ⟨rfl, n, rfl⟩
  have h' : M.cutP c a0 = (r1, r2, r3) := h
  rw [h']
  exact ⟨rfl, n, rfl⟩

/-! ### impl_readEntry: function 23 -/
def impl_readEntry.f (a0 : ByteArray) : Option (ByteArray × ByteArray) := (strings_Cut.f a0 (⟨#[47]⟩ : ByteArray)).bind fun bt245 => (some (bt245.1, bt245.2.1))
theorem impl_readEntry.calls (a0 : ByteArray) (r1 : ByteArray) (r2 : ByteArray) (w : World) (h : impl_readEntry.f a0 = some (r1, r2)) :
  Calls Tryd.prog 23 #[.string a0] w fun e w' => e = .returned (.agg #[.string r1, .string r2]) ∧ Below w.heap.size w w' := by
 have hu43 := Tryd.underlying43; have HB := am (Below.refl w.heap.size w)
 have H : ((strings_Cut.f a0 (⟨#[47]⟩ : ByteArray)).bind fun bt245 => (some (bt245.1, bt245.2.1))) = some (r1, r2) := h
 clear h; replace H := bs H; obtain ⟨⟨t245, t246, t247⟩, A20, H⟩ := H; replace H : (some (t245, t246)) = some (r1, r2) := H; have A2 := Aside0.mk A20; clear A20
 simp only [Option.some.injEq, Prod.mk.injEq] at H
 obtain ⟨rfl, rfl⟩ := H; go_enter Tryd.func23, Tryd.ntmps23
 go_wp2_with (first | ((with_reducible refine gate_dst (N := 2) rfl ?_); refine bx 2 (cs := #[.string (⟨#[]⟩ : ByteArray), .string (⟨#[]⟩ : ByteArray)]) (t := 43) ?_; intro gb244 hg w3 hbox hb; have BK244 := am (hbox); have GW244 := am ((b19_ : w.heap.size ≤ gb244)); have GE244 := am ((b19_ : w.heap.size ≤ gb244)); replace HB := am (below_step bel hb); clear hb hbox hg) | ((with_reducible refine gate_callee (f := 43) rfl ?_); refine goesL_ (some 8) rfl rfl Tryd.func43 (by kernel_rfl) rfl #[.string a0, .string (⟨#[47]⟩ : ByteArray)] rfl mq ?_; (with_reducible refine (strings_Cut.calls a0 (⟨#[47]⟩ : ByteArray) t245 t246 t247 _ A2.out).mono ?_); rintro e w' ⟨rfl, ⟨nd, rfl⟩⟩; refine ⟨_, rfl, ?_⟩; (try (rw [drewN_self w3]; generalize hq_ : World.drewN w3 _ = w3; have n0_ : Aside0 (w3.heap[gb244]? = some (.cells #[.string (⟨#[]⟩ : ByteArray), .string (⟨#[]⟩ : ByteArray)] 43 (0, 0))) := ⟨by rw [← hq_]; exact (bq BK244.out)⟩; have n1_ : Aside0 (Below w.heap.size w w3) := ⟨by rw [← hq_]; exact (bel1 GE244.out)⟩; clear BK244 HB hq_; have BK244 := n0_; have HB := n1_; clear n0_ n1_)); have hcz4_0 := bc BK244.out 0; have hcz4_1 := bc BK244.out 1; have hfz4_0 := bf BK244.out 0; have hfz4_1 := bf BK244.out 1))
 refine bodyPost_ret (results_cell_row rfl _ _ gb244 43 #[.string t245, .string t246] (0, 0) _ rfl (by (with_reducible repeat (first | refine blk_drewN ?_ _ | refine blk_drew ?_ | refine blk_alloc ?_ _)); refine blk_put (cs := #[.string t245, .string (⟨#[]⟩ : ByteArray)]) ?_ 1 _ rfl; (with_reducible repeat (first | refine blk_drewN ?_ _ | refine blk_drew ?_ | refine blk_alloc ?_ _)); refine blk_put (cs := #[.string (⟨#[]⟩ : ByteArray), .string (⟨#[]⟩ : ByteArray)]) ?_ 0 _ rfl; (with_reducible repeat (first | refine blk_drewN ?_ _ | refine blk_drew ?_ | refine blk_alloc ?_ _)); exact BK244.out) Tryd.underlying43 rfl (by kernel_rfl)) rfl ?_
 exact ⟨eq_, bel1 GE244.out⟩
-- shrunk

/-! ### impl_BookGet: function 6 -/
def impl_BookGet.l0 : Nat → ByteArray → List ByteArray → Int → Int → List (S40) → List (S43) → Option ((List (S40)) × (List (S43)) × Bool)
 | 0, _, _, _, _, _, _ => none
 | k + 1, x0, x11, x12, x13, x256000, x256001 => if x13 < x12 then (if 0 ≤ x13 then (if x13 < (x11.length : Int) then ((strings_Contains.f (rdOf ByteArray.empty x11 x13) (⟨#[32]⟩ : ByteArray)).bind fun t260 => (if t260 = true then ((impl_readAffix.f (rdOf ByteArray.empty x11 x13)).bind fun bt261 => (if x256000.length < 1954687338268 then (impl_BookGet.l0 k x0 x11 x12 (wrap64 (x13 + 1)) (x256000 ++ [(⟨bt261.1, bt261.2.1, bt261.2.2.1, bt261.2.2.2.1, bt261.2.2.2.2⟩ : S40)]) x256001) else (none))) else ((impl_readEntry.f (rdOf ByteArray.empty x11 x13)).bind fun bt269 => (if x256001.length < 4398046511104 then (impl_BookGet.l0 k x0 x11 x12 (wrap64 (x13 + 1)) x256000 (x256001 ++ [(⟨bt269.1, bt269.2⟩ : S43)])) else (none))))) else (none)) else (none)) else ((impl_BookOk.f k x256000 x256001).bind fun t274 => (if t274 = true then ((impl_BookPut.f k x256000 x256001).bind fun t275 => (if t275.toList = x0.toList then (some (x256000, x256001, true)) else (some (([] : List (S40)), ([] : List (S43)), false)))) else (some (([] : List (S40)), ([] : List (S43)), false))))
def impl_BookGet.f (k : Nat) (a0 : ByteArray) : Option ((List (S40)) × (List (S43)) × Bool) := (impl_linesOf.f a0).bind fun t256 => (impl_BookGet.l0 k a0 t256 (t256.length : Int) 0 (([] : List (S40))) (([] : List (S43))))
def impl_BookGet.T6 : Bool × List (List Nat × List Nat) := (true, [([], []), ([0], [0]), ([], []), ([2], [2]), ([3], [3]), ([1, 4, 3], [1, 4]), ([0, 1, 2, 3, 4, 5], []), ([6, 5, 5, 0, 1, 2, 3, 4, 5], [5, 6])])
def impl_BookGet.B6 : List Nat := [0, 1, 0, 4, 12, 31, 63, 127]
theorem impl_BookGet.tab6 : rtab .any (opsOf Tryd.f6 6) = impl_BookGet.T6 := by kernel_rfl
theorem impl_BookGet.bits6 : waitsOk impl_BookGet.T6.2 impl_BookGet.B6 = true := by kernel_rfl
def impl_BookGet.T7 : Bool × List (List Nat × List Nat) := (true, [([], []), ([0], [0]), ([], []), ([2], [2]), ([3], [3]), ([1, 4, 3], [1, 4]), ([0, 1, 2, 3, 4, 5], []), ([6, 5, 5, 0, 1, 2, 3, 4, 5], [5, 6])])
def impl_BookGet.B7 : List Nat := [0, 1, 0, 4, 12, 31, 63, 127]
theorem impl_BookGet.tab7 : rtab .any (opsOf Tryd.f6 7) = impl_BookGet.T7 := by kernel_rfl
theorem impl_BookGet.bits7 : waitsOk impl_BookGet.T7.2 impl_BookGet.B7 = true := by kernel_rfl
theorem impl_BookGet.calls (k : Nat) (a0 : ByteArray) (r1 : List (S40)) (r2 : List (S43)) (r3 : Bool) (w : World) (h : impl_BookGet.f k a0 = some (r1, r2, r3)) :
  Calls Tryd.prog 6 #[.string a0] w fun e w' => ∃ v0_ v1_ : Value, e = .returned (.tuple #[.agg #[v0_, v1_], .bool r3]) ∧ Kd.R k40 40 w' w.heap.size (fun _ => True) v0_ r1 ∧ Kd.R k43 43 w' w.heap.size (fun _ => True) v1_ r2 ∧ Below w.heap.size w w' := by
 have hu25 := Tryd.underlying25; have HB := am (Below.refl w.heap.size w)
 have H : ((impl_linesOf.f a0).bind fun t256 => (impl_BookGet.l0 k a0 t256 (t256.length : Int) 0 (([] : List (S40))) (([] : List (S43))))) = some (r1, r2, r3) := h
 clear h; obtain ⟨y249, hy249⟩ : ∃ y_ : List (S40), y_ = (([] : List (S40))) := ⟨_, rfl⟩
 replace H : ((impl_linesOf.f a0).bind fun t256 => (impl_BookGet.l0 k a0 t256 (t256.length : Int) 0 y249 (([] : List (S43))))) = some (r1, r2, r3) := by first | (rw [hy249]; with_reducible exact H) | (have H2_ := bm H; rw [hy249]; with_reducible exact H2_) | (with_reducible exact bm H) | with_reducible exact H | (rw [hy249]; exact H) | exact H
 have Ny249 := am hy249; clear hy249; obtain ⟨y252, hy252⟩ : ∃ y_ : List (S43), y_ = (([] : List (S43))) := ⟨_, rfl⟩
 replace H : ((impl_linesOf.f a0).bind fun t256 => (impl_BookGet.l0 k a0 t256 (t256.length : Int) 0 y249 y252)) = some (r1, r2, r3) := by first | (rw [hy252]; with_reducible exact H) | (have H2_ := bm H; rw [hy252]; with_reducible exact H2_) | (with_reducible exact bm H) | with_reducible exact H | (rw [hy252]; exact H) | exact H
 have Ny252 := am hy252; clear hy252; replace H := bs H; obtain ⟨t256, A20, H⟩ := H; replace H : (impl_BookGet.l0 k a0 t256 (t256.length : Int) 0 y249 y252) = some (r1, r2, r3) := H; have A2 := Aside0.mk A20; clear A20
 have H' := am H
 clear H; go_enter Tryd.func6, Tryd.ntmps6
 go_wp2_with (first | ((with_reducible refine gate_dst (N := 2) rfl ?_); refine bx 2 (cs := #[.slice none 0 0, .slice none 0 0]) (t := 25) ?_; intro gb248 hg w3 hbox hb; have BK248 := am (hbox); have GW248 := am ((b19_ : w.heap.size ≤ gb248)); have GE248 := am ((b19_ : w.heap.size ≤ gb248)); replace HB := am (below_step bel hb); clear hb hbox hg) | ((with_reducible refine gate_dst (N := 7) rfl ?_); refine Kd.R_lit k40 _ 40 ?hg (N := 7) ?hd (xs := ([] : List (S40))) (inner := []) (ok := fun _ => True) (okp := fun _ => True) ?hr ?hp (fun _ hk => hk) trivial (Below.refl _ _) (Nat.le_refl _) (by simp) ?_; (case hd => rfl); (case hg => rfl); (case hr => first | (go_simp; done) | (go_simp; rfl)); (case hp => exact (Reps.none _ _)); intro v250 w4 ho5 hb hg_ hnew_; clear hg_ hnew_; (first | rw [← Ny249.out] at ho5 | (simp only [Int.reduceToNat] at ho5; rw [← Ny249.out] at ho5) | (simp only [Int.toNat_natCast] at ho5; rw [← Ny249.out] at ho5)); have HO251 := am (Kd.R_lower ho5 (below_size (bel1 GE248.out))); replace BK248 := am (blk_below (g := gb248) (o := .cells #[.slice none 0 0, .slice none 0 0] 25 (0, 0)) (bq BK248.out) hb); replace HB := am (below_step (bel1 GE248.out) hb); clear hb ho5) | ((with_reducible refine gate_dst (N := 8) rfl ?_); refine Kd.R_lit k43 _ 43 ?hg (N := 8) ?hd (xs := ([] : List (S43))) (inner := []) (ok := fun _ => True) (okp := fun _ => True) ?hr ?hp (fun _ hk => hk) trivial (Below.refl _ _) (Nat.le_refl _) (by simp) ?_; (case hd => rfl); (case hg => rfl); (case hr => first | (go_simp; done) | (go_simp; rfl)); (case hp => exact (Reps.none _ _)); intro v253 w6 ho7 hb hg_ hnew_; clear hg_ hnew_; (first | rw [← Ny252.out] at ho7 | (simp only [Int.reduceToNat] at ho7; rw [← Ny252.out] at ho7) | (simp only [Int.toNat_natCast] at ho7; rw [← Ny252.out] at ho7)); replace HO251 := am (Kd.R_below (rq HO251.out) hb); have HO254 := am (Kd.R_lower ho7 (below_size (bel1 GE248.out))); replace BK248 := am (blk_below (g := gb248) (o := .cells #[.slice none 0 0, .slice none 0 0] 25 (0, 0)) (bq BK248.out) hb); replace HB := am (below_step (bel1 GE248.out) hb); clear hb ho7; obtain ⟨Ao8, co8, eo8⟩ := Kd.R_slice HO254.out; subst eo8; obtain ⟨Ao9, co9, eo9⟩ := Kd.R_slice HO251.out; subst eo9) | ((with_reducible refine gate_dst (N := 4) rfl ?_); refine bx 4 (cs := #[.slice none 0 0, .slice none 0 0]) (t := 25) ?_; intro gb255 hg w10 hbox hb; replace HO251 := am (Kd.R_below (rq HO251.out) hb); replace HO254 := am (Kd.R_below (rq HO254.out) hb); have BK255 := am (hbox); have GW255 := am ((by rw [hg]; exact (below_size (bel1 GE248.out)) : w.heap.size ≤ gb255)); have GE255 := am ((by rw [hg]; exact (below_size (bel1 GE248.out)) : w.heap.size ≤ gb255)); replace HB := am (below_step (bel1 GE248.out) hb); have NB248_255 := am ((by rw [hg]; exact Nat.ne_of_lt (blk_lt (g := gb248) (o := .cells #[.slice none 0 0, .slice none 0 0] 25 (0, 0)) (bq BK248.out)) : gb248 ≠ gb255)); have NB255_248 := am ((by rw [hg]; exact Nat.ne_of_gt (blk_lt (g := gb248) (o := .cells #[.slice none 0 0, .slice none 0 0] 25 (0, 0)) (bq BK248.out)) : gb255 ≠ gb248)); replace BK248 := am (blk_below (g := gb248) (o := .cells #[.slice none 0 0, .slice none 0 0] 25 (0, 0)) (bq BK248.out) hb); clear hb hbox hg; have hnb11 := NB255_248.out; have hnc11 := NB248_255.out; have hcz12_0 := bc BK255.out 0; have hcz12_1 := bc BK255.out 1; have hfz12_0 := bf BK255.out 0; have hfz12_1 := bf BK255.out 1) | ((with_reducible refine gate_callee (f := 20) rfl ?_); refine goesL_ (some 11) rfl rfl Tryd.func20 (by kernel_rfl) rfl #[.string a0] rfl mq ?_; (with_reducible refine (impl_linesOf.calls a0 t256 _ A2.out).mono ?_); rintro e w13 ⟨v257, rfl, ho0, hb⟩; refine ⟨_, rfl, ?_⟩; replace HO251 := am (Kd.R_below (rq ((Kd.R_mono (Kd.R_far (p := ⟨gb255, 1, none⟩) (Kd.R_far (p := ⟨gb255, 0, none⟩) (Kd.R_types HO251.out BK255.out (by decide)) (fun _ hk => hk.2) (.slice Ao9 y249.length co9)) (fun _ hk => hk.2) (.slice Ao8 y252.length co8)) (fun _ h_ => h_.1)))) hb); replace HO254 := am (Kd.R_below (rq ((Kd.R_mono (Kd.R_far (p := ⟨gb255, 1, none⟩) (Kd.R_far (p := ⟨gb255, 0, none⟩) (Kd.R_types HO254.out BK255.out (by decide)) (fun _ hk => hk.2) (.slice Ao9 y249.length co9)) (fun _ hk => hk.2) (.slice Ao8 y252.length co8)) (fun _ h_ => h_.1)))) hb); have HO258 := am (Kd.R_lower ho0 (below_size (bel2 GE248.out GE255.out))); replace BK248 := am (blk_below (g := gb248) (o := .cells #[.slice none 0 0, .slice none 0 0] 25 (0, 0)) (by (with_reducible repeat (first | refine blk_drewN ?_ _ | refine blk_drew ?_ | refine blk_alloc ?_ _)); refine blk_far ?_ NB248_255.out _; (with_reducible repeat (first | refine blk_drewN ?_ _ | refine blk_drew ?_ | refine blk_alloc ?_ _)); refine blk_far ?_ NB248_255.out _; (with_reducible repeat (first | refine blk_drewN ?_ _ | refine blk_drew ?_ | refine blk_alloc ?_ _)); exact BK248.out) hb); replace BK255 := am (blk_below (g := gb255) (o := .cells #[.slice Ao9 y249.length co9, .slice Ao8 y252.length co8] 25 (0, 0)) (by (with_reducible repeat (first | refine blk_drewN ?_ _ | refine blk_drew ?_ | refine blk_alloc ?_ _)); refine blk_put (cs := #[.slice Ao9 y249.length co9, .slice none 0 0]) ?_ 1 _ rfl; (with_reducible repeat (first | refine blk_drewN ?_ _ | refine blk_drew ?_ | refine blk_alloc ?_ _)); refine blk_put (cs := #[.slice none 0 0, .slice none 0 0]) ?_ 0 _ rfl; (with_reducible repeat (first | refine blk_drewN ?_ _ | refine blk_drew ?_ | refine blk_alloc ?_ _)); exact BK255.out) hb); replace HB := am (below_step (bel2 GE248.out GE255.out) hb); (try clear hb); (try clear hb2); (try clear hk); (try clear hi); (try clear ho0); obtain ⟨Ao14, co14, eo14⟩ := Kd.R_slice HO258.out; subst eo14))
 go_loopg [13] k (fun kq v13 w' => ∃ (x13_1 : Int) (x256000_1 : List (S40)) (x256001_1 : List (S43)) (u256000 : Value) (u256001 : Value), v13 = .int .i64 x13_1 ∧ Aside0 (impl_BookGet.l0 kq a0 t256 (t256.length : Int) x13_1 x256000_1 x256001_1 = some (r1, r2, r3)) ∧ Aside0 (kq ≤ k) ∧ Aside0 (Kd.R Kd.string 9 w' w.heap.size (fun _ => True) (.slice Ao14 t256.length co14) t256) ∧ Aside0 (Kd.R k40 40 w' w.heap.size (fun _ => True) u256000 x256000_1) ∧ Aside0 (Kd.R k43 43 w' w.heap.size (fun _ => True) u256001 x256001_1) ∧ Aside0 (w'.heap[gb248]? = some (.cells #[(.slice none 0 0), (.slice none 0 0)] 25 (0, 0))) ∧ Aside0 (w'.heap[gb255]? = some (.cells #[u256000, u256001] 25 (0, 0))) ∧ Aside0 (Below w.heap.size w w'))
 case atStart => exact ⟨(0), (y249), (y252), (.slice Ao9 y249.length co9), (.slice Ao8 y252.length co8), sq, H', ⟨Nat.le_refl _⟩, ⟨rq HO258.out⟩, ⟨rq HO251.out⟩, ⟨rq HO254.out⟩, ⟨bq BK248.out⟩, ⟨bq BK255.out⟩, ⟨bel2 GE248.out GE255.out⟩⟩
 case round =>
  clear H'; (try clear c1); (try clear c2); (try clear p2); (try clear c6); (try clear c11); (try clear hcz12_0); (try clear hcz12_1); (try clear hfz12_0); (try clear hfz12_1); obtain ⟨x13_1, x256000_1, x256001_1, u256000, u256001, rfl, HA, HK1, HO_11, HO_256000, HO_256001, BK248, BK255, HB⟩ := hrel
  cases gk with
  | zero => exact absurd HA.out (by simp [impl_BookGet.l0])
  | succ k1 =>
   have H := HA.out; clear HA
   simp only [impl_BookGet.l0] at H
   by_cases c15 : x13_1 < (t256.length : Int)
   ·rw [if_pos c15] at H; have c15b0 := decide_eq_true c15; clear c15
    replace H := it H; obtain ⟨c16b0, H⟩ := H
    replace H := it H; obtain ⟨c17b0, H⟩ := H; replace H := bs H; obtain ⟨t260, A180, H⟩ := H; replace H : (if t260 = true then ((impl_readAffix.f (rdOf ByteArray.empty t256 x13_1)).bind fun bt261 => (if x256000_1.length < 1954687338268 then (impl_BookGet.l0 k1 a0 t256 (t256.length : Int) (wrap64 (x13_1 + 1)) (x256000_1 ++ [(⟨bt261.1, bt261.2.1, bt261.2.2.1, bt261.2.2.2.1, bt261.2.2.2.2⟩ : S40)]) x256001_1) else (none))) else ((impl_readEntry.f (rdOf ByteArray.empty t256 x13_1)).bind fun bt269 => (if x256001_1.length < 4398046511104 then (impl_BookGet.l0 k1 a0 t256 (t256.length : Int) (wrap64 (x13_1 + 1)) x256000_1 (x256001_1 ++ [(⟨bt269.1, bt269.2⟩ : S43)])) else (none)))) = some (r1, r2, r3) := H; have A18 := Aside0.mk A180; clear A180
    by_cases c19 : t260 = true
    ·subst c19
     have H1 : ((impl_readAffix.f (rdOf ByteArray.empty t256 x13_1)).bind fun bt261 => (if x256000_1.length < 1954687338268 then (impl_BookGet.l0 k1 a0 t256 (t256.length : Int) (wrap64 (x13_1 + 1)) (x256000_1 ++ [(⟨bt261.1, bt261.2.1, bt261.2.2.1, bt261.2.2.2.1, bt261.2.2.2.2⟩ : S40)]) x256001_1) else (none))) = some (r1, r2, r3) := b47_
     replace H := H1; clear H1
     replace H := bs H; obtain ⟨⟨t261, t262, t263, t264, t265⟩, A200, H⟩ := H; replace H : (if x256000_1.length < 1954687338268 then (impl_BookGet.l0 k1 a0 t256 (t256.length : Int) (wrap64 (x13_1 + 1)) (x256000_1 ++ [(⟨t261, t262, t263, t264, t265⟩ : S40)]) x256001_1) else (none)) = some (r1, r2, r3) := H; have A20 := Aside0.mk A200; clear A200
     replace H := ip H; obtain ⟨c21, H⟩ := H; have LMc21 := Aside0.mk c21; clear c21; obtain ⟨y266, hy266⟩ : ∃ y_ : List (S40), y_ = (x256000_1 ++ [(⟨t261, t262, t263, t264, t265⟩ : S40)]) := ⟨_, rfl⟩
     replace H : (impl_BookGet.l0 k1 a0 t256 (t256.length : Int) (wrap64 (x13_1 + 1)) y266 x256001_1) = some (r1, r2, r3) := by first | (rw [hy266]; with_reducible exact H) | (have H2_ := bm H; rw [hy266]; with_reducible exact H2_) | (with_reducible exact bm H) | with_reducible exact H | (rw [hy266]; exact H) | exact H
     have Ny266 := am hy266; clear hy266
     have H' := am H
     clear H
     have p259 : 0 ≤ (x13_1 : Int) := of_decide_eq_true ad
     have q259 : x13_1 < (t256.length : Int) := of_decide_eq_true ad
     obtain ⟨ad259, e259, hx259_0⟩ := Kd.at_string (Kd.R_reads' HO_11.out).2.2 x13_1 p259 q259
     cases e259
     replace p259 := eq_true p259; replace q259 := eq_true q259
     try go_wp2_with (first | ((with_reducible refine gate_callee (f := 21) rfl ?_); refine goesL_ (some 18) rfl rfl Tryd.func21 (by kernel_rfl) rfl #[.string (rdOf ByteArray.empty t256 x13_1), .string (⟨#[32]⟩ : ByteArray)] rfl mq ?_; (with_reducible refine (strings_Contains.calls (rdOf ByteArray.empty t256 x13_1) (⟨#[32]⟩ : ByteArray) true _ A18.out).mono ?_); rintro e w' ⟨rfl, ⟨nd, rfl⟩⟩; refine ⟨_, rfl, ?_⟩; (try (rw [drewN_self wr]; generalize hq_ : World.drewN wr _ = wr; have n0_ : Aside0 (Kd.R Kd.string 9 wr w.heap.size (fun _ => True) (.slice (some ad259) t256.length co14) t256) := ⟨by rw [← hq_]; exact (rq HO_11.out)⟩; have n1_ : Aside0 (Kd.R k40 40 wr w.heap.size (fun _ => True) u256000 x256000_1) := ⟨by rw [← hq_]; exact (rq HO_256000.out)⟩; have n2_ : Aside0 (Kd.R k43 43 wr w.heap.size (fun _ => True) u256001 x256001_1) := ⟨by rw [← hq_]; exact (rq HO_256001.out)⟩; have n3_ : Aside0 (wr.heap[gb248]? = some (.cells #[.slice none 0 0, .slice none 0 0] 25 (0, 0))) := ⟨by rw [← hq_]; exact (bq BK248.out)⟩; have n4_ : Aside0 (wr.heap[gb255]? = some (.cells #[u256000, u256001] 25 (0, 0))) := ⟨by rw [← hq_]; exact (bq BK255.out)⟩; have n5_ : Aside0 (Below w.heap.size w wr) := ⟨by rw [← hq_]; exact (bel2 GE248.out GE255.out)⟩; clear HO_11 HO_256000 HO_256001 BK248 BK255 HB hq_; have HO_11 := n0_; have HO_256000 := n1_; have HO_256001 := n2_; have BK248 := n3_; have BK255 := n4_; have HB := n5_; clear n0_ n1_ n2_ n3_ n4_ n5_))))
     replace HO_11 := am (Kd.R_drew HO_11.out); replace HO_256000 := am (Kd.R_drew HO_256000.out); replace HO_256001 := am (Kd.R_drew HO_256001.out); replace BK248 := am (blk_drew BK248.out); replace BK255 := am (blk_drew BK255.out); replace HB := am (below_drew1 HB.out)
     refine start_ (n := 8) (S := fun w' => w'.cell? ⟨gb255, 0, none⟩ = some (u256000) ∧ w'.cell? ⟨gb255, 1, none⟩ = some (u256001)) (ds := [7]) #[false, false, false, false, false, false, false, false] (by kernel_rfl) rfl rfl ⟨(blk_cell BK255.out 0).trans rfl, (blk_cell BK255.out 1).trans rfl⟩ (fun hHeld => ?_); refine with_tabW impl_BookGet.tab6 impl_BookGet.bits6 (fun HT_ HW_ => ?_)
     generalize wr.drew = w22 at HO_11 HO_256000 HO_256001 BK248 BK255 HB hHeld ⊢
     refine pu 0 19 ?_
     refine pu 2 21 ?_
     refine tk2 1 20 hHeld ?_
     refine on1 3 22 (fun K hK => ?_)
     refine goes_ Tryd.func22 (by kernel_rfl) rfl #[.string (rdOf ByteArray.empty t256 x13_1)] (by rfl) rfl rfl mq ?_
     with_reducible refine (impl_readAffix.calls (rdOf ByteArray.empty t256 x13_1) t261 t262 t263 t264 t265 _ A20.out).mono ?_
     rintro e w23 ⟨rfl, hb⟩
     refine ⟨_, rfl, ?_⟩
     replace HO_11 := am (Kd.R_below (rq HO_11.out) hb); replace HO_256000 := am (Kd.R_below (rq HO_256000.out) hb); replace HO_256001 := am (Kd.R_below (rq HO_256001.out) hb); replace BK248 := am (blk_below (g := gb248) (o := .cells #[.slice none 0 0, .slice none 0 0] 25 (0, 0)) (bq BK248.out) hb); replace BK255 := am (blk_below (g := gb255) (o := .cells #[u256000, u256001] 25 (0, 0)) (bq BK255.out) hb); replace HB := am (below_step (bel2 GE248.out GE255.out) hb)
     (try clear hb)
     (try clear hb2)
     (try clear hk)
     (try clear hi)
     refine hK.out _ _ ⟨(blk_cell BK255.out 0).trans rfl, (blk_cell BK255.out 1).trans rfl⟩ (fun hHeld => ?_)
     clear hK K
     refine norm_ (a' := ?_) ?_ ?_
     rotate_left
     ·show Act.put _ (some 22) _ = _
      simp only [Act.put, List.setIfInBounds_toArray, List.set_cons_zero, List.set_cons_succ, i64_w, i32_w]
      rfl
     refine on1 4 23 (fun K hK => ?_)
     refine value_ (w1 := ?_) (v := ?_) (by rfl) rfl ?_ ?_
     rotate_left 2
     ·go_simp
      constructor
      ·rfl
      ·rfl
     refine hK.out _ _ ⟨(blk_cell (blk_alloc BK255.out _) 0).trans rfl, (blk_cell (blk_alloc BK255.out _) 1).trans rfl⟩ (fun hHeld => ?_)
     clear hK K
     refine norm_ (a' := ?_) ?_ ?_
     rotate_left
     ·show Act.put _ (some 23) _ = _
      simp only [Act.put, List.setIfInBounds_toArray, List.set_cons_zero, List.set_cons_succ, i64_w, i32_w]
      rfl
     refine on1 5 24 (fun K hK => ?_)
     refine Kd.R_append_step k40 (w0 := w) w.heap.size (by rfl) (.tmp 20) (.tmp 23) 22 40 (.agg #[(.string ⟨#[]⟩), (.bool false), (.string ⟨#[]⟩), (.string ⟨#[]⟩), (.string ⟨#[]⟩)]) 72 rfl Tryd.underlying22 info40 rfl (by decide) (by omega) u256000 x256000_1 (⟨t261, t262, t263, t264, t265⟩ : S40) [.string t261, .bool t262, .string t263, .string t264, .string t265] (fun _ => True) (fun _ => False) rfl rfl ?aP (fun _ hk => hk.elim) ?aF ?aO ?aB ?aS ?aL ?_
     (case aP => exact k40_mkM _ _ _ (⟨t261, t262, t263, t264, t265⟩ : S40)); (case aB => exact (bel2 GE248.out GE255.out)); (case aF => exact (fun _ _ => trivial)); (case aO => exact (rq HO_256000.out)); (case aS => exact (below_size (bel2 GE248.out GE255.out))); (case aL => have := LMc21.out; omega); intro v267 w24 ho hb hg hat; rw [← Ny266.out] at ho
     replace HO_11 := am (Kd.R_over' (rq HO_11.out) (Kd.R_typed (rq HO_256000.out)) (by decide) hg)
     replace HO_256001 := am (Kd.R_over' (rq HO_256001.out) (Kd.R_typed (rq HO_256000.out)) (by decide) hg)
     replace BK248 := am (blk_grown (g := gb248) (o := .cells #[.slice none 0 0, .slice none 0 0] 25 (0, 0)) (bq BK248.out) hg (Kd.R_ne HO_256000.out BK248.out (by decide)))
     replace BK255 := am (blk_grown (g := gb255) (o := .cells #[u256000, u256001] 25 (0, 0)) (bq BK255.out) hg (Kd.R_ne HO_256000.out BK255.out (by decide)))
     replace HB := am (hb); have HO268 := am (ho); clear HO_256000; clear ho hb hg hat; obtain ⟨Ao25, co25, eo25⟩ := Kd.R_slice HO268.out
     (first | subst eo25 | (injection eo25 with f1_ f2_ f3_; have f4_ := f1_.symm; have f5_ := f3_.symm; clear f1_ f2_ f3_; subst f4_; subst f5_))
     refine hK.out _ _ ⟨(blk_cell BK255.out 0).trans rfl, (blk_cell BK255.out 1).trans rfl⟩ (fun hHeld => ?_)
     clear hK K
     refine norm_ (a' := ?_) ?_ ?_
     rotate_left
     ·show Act.put _ (some 24) _ = _
      simp only [Act.put, List.setIfInBounds_toArray, List.set_cons_zero, List.set_cons_succ, i64_w, i32_w]
      rfl
     refine pu 6 25 ?_
     refine last_ (i := 7) (N := none) #[true, true, true, true, true, true, true, true] rfl rfl (one_of HT_.out (by kernel_rfl)) (by decide) (fun K hK => ?_)
     have hs26 : w24.cell? ⟨gb255, 0, none⟩ = some (u256000) := (blk_cell BK255.out 0).trans rfl
     have hfs26 := bf BK255.out 0; have hns26_0 := NB248_255.out; have hms26_0 := NB255_248.out
     refine skip_ (w1 := ?_) (by rfl) rfl ?_ ?_
     rotate_left
     ·go_simp
      rfl
     refine hK.out _ _ ?_
     clear hK K
     refine done_ (done_of HT_.out (by kernel_rfl)) ?_
     try go_wp2
     go_roundg k1
     case measure => have := HK1.out; omega
     case rel => exact ⟨(wrap64 (x13_1 + 1)), (y266), (x256001_1), (.slice Ao25 y266.length co25), (u256001), sq, H', ⟨b74_⟩, ⟨rq (Kd.R_mono (Kd.R_far (p := ⟨gb255, 0, none⟩) (Kd.R_types HO_11.out BK255.out (by decide)) (fun _ hk => hk.2) (.slice Ao25 y266.length co25)) (fun _ hk => trivial))⟩, ⟨rq (Kd.R_mono (Kd.R_far (p := ⟨gb255, 0, none⟩) (Kd.R_types HO268.out BK255.out (by decide)) (fun _ hk => hk.2) (.slice Ao25 y266.length co25)) (fun _ hk => trivial))⟩, ⟨rq (Kd.R_mono (Kd.R_far (p := ⟨gb255, 0, none⟩) (Kd.R_types HO_256001.out BK255.out (by decide)) (fun _ hk => hk.2) (.slice Ao25 y266.length co25)) (fun _ hk => trivial))⟩, ⟨b71_⟩, ⟨by (with_reducible repeat (first | refine blk_drewN ?_ _ | refine blk_drew ?_ | refine blk_alloc ?_ _)); refine blk_put (cs := #[u256000, u256001]) ?_ 0 _ rfl; (with_reducible repeat (first | refine blk_drewN ?_ _ | refine blk_drew ?_ | refine blk_alloc ?_ _)); exact BK255.out⟩, ⟨bel2 GE248.out GE255.out⟩⟩
    replace c19 := Bool.eq_false_iff.mpr c19; subst c19
    have H1 : ((impl_readEntry.f (rdOf ByteArray.empty t256 x13_1)).bind fun bt269 => (if x256001_1.length < 4398046511104 then (impl_BookGet.l0 k1 a0 t256 (t256.length : Int) (wrap64 (x13_1 + 1)) x256000_1 (x256001_1 ++ [(⟨bt269.1, bt269.2⟩ : S43)])) else (none))) = some (r1, r2, r3) := b22_
    replace H := H1; clear H1
    replace H := bs H; obtain ⟨⟨t269, t270⟩, A270, H⟩ := H; replace H : (if x256001_1.length < 4398046511104 then (impl_BookGet.l0 k1 a0 t256 (t256.length : Int) (wrap64 (x13_1 + 1)) x256000_1 (x256001_1 ++ [(⟨t269, t270⟩ : S43)])) else (none)) = some (r1, r2, r3) := H; have A27 := Aside0.mk A270; clear A270
    replace H := ip H; obtain ⟨c28, H⟩ := H; have LMc28 := Aside0.mk c28; clear c28; obtain ⟨y271, hy271⟩ : ∃ y_ : List (S43), y_ = (x256001_1 ++ [(⟨t269, t270⟩ : S43)]) := ⟨_, rfl⟩
    replace H : (impl_BookGet.l0 k1 a0 t256 (t256.length : Int) (wrap64 (x13_1 + 1)) x256000_1 y271) = some (r1, r2, r3) := by first | (rw [hy271]; with_reducible exact H) | (have H2_ := bm H; rw [hy271]; with_reducible exact H2_) | (with_reducible exact bm H) | with_reducible exact H | (rw [hy271]; exact H) | exact H
    have Ny271 := am hy271; clear hy271
    have H' := am H
    clear H
    have p259 : 0 ≤ (x13_1 : Int) := of_decide_eq_true ad
    have q259 : x13_1 < (t256.length : Int) := of_decide_eq_true ad
    obtain ⟨ad259, e259, hx259_0⟩ := Kd.at_string (Kd.R_reads' HO_11.out).2.2 x13_1 p259 q259
    cases e259
    replace p259 := eq_true p259; replace q259 := eq_true q259
    try go_wp2_with (first | ((with_reducible refine gate_callee (f := 21) rfl ?_); refine goesL_ (some 18) rfl rfl Tryd.func21 (by kernel_rfl) rfl #[.string (rdOf ByteArray.empty t256 x13_1), .string (⟨#[32]⟩ : ByteArray)] rfl mq ?_; (with_reducible refine (strings_Contains.calls (rdOf ByteArray.empty t256 x13_1) (⟨#[32]⟩ : ByteArray) false _ A18.out).mono ?_); rintro e w' ⟨rfl, ⟨nd, rfl⟩⟩; refine ⟨_, rfl, ?_⟩; (try (rw [drewN_self wr]; generalize hq_ : World.drewN wr _ = wr; have n0_ : Aside0 (Kd.R Kd.string 9 wr w.heap.size (fun _ => True) (.slice (some ad259) t256.length co14) t256) := ⟨by rw [← hq_]; exact (rq HO_11.out)⟩; have n1_ : Aside0 (Kd.R k40 40 wr w.heap.size (fun _ => True) u256000 x256000_1) := ⟨by rw [← hq_]; exact (rq HO_256000.out)⟩; have n2_ : Aside0 (Kd.R k43 43 wr w.heap.size (fun _ => True) u256001 x256001_1) := ⟨by rw [← hq_]; exact (rq HO_256001.out)⟩; have n3_ : Aside0 (wr.heap[gb248]? = some (.cells #[.slice none 0 0, .slice none 0 0] 25 (0, 0))) := ⟨by rw [← hq_]; exact (bq BK248.out)⟩; have n4_ : Aside0 (wr.heap[gb255]? = some (.cells #[u256000, u256001] 25 (0, 0))) := ⟨by rw [← hq_]; exact (bq BK255.out)⟩; have n5_ : Aside0 (Below w.heap.size w wr) := ⟨by rw [← hq_]; exact (bel2 GE248.out GE255.out)⟩; clear HO_11 HO_256000 HO_256001 BK248 BK255 HB hq_; have HO_11 := n0_; have HO_256000 := n1_; have HO_256001 := n2_; have BK248 := n3_; have BK255 := n4_; have HB := n5_; clear n0_ n1_ n2_ n3_ n4_ n5_))))
    replace HO_11 := am (Kd.R_drew HO_11.out); replace HO_256000 := am (Kd.R_drew HO_256000.out); replace HO_256001 := am (Kd.R_drew HO_256001.out); replace BK248 := am (blk_drew BK248.out); replace BK255 := am (blk_drew BK255.out); replace HB := am (below_drew1 HB.out)
    refine start_ (n := 8) (S := fun w' => w'.cell? ⟨gb255, 0, none⟩ = some (u256000) ∧ w'.cell? ⟨gb255, 1, none⟩ = some (u256001)) (ds := [7]) #[false, false, false, false, false, false, false, false] (by kernel_rfl) rfl rfl ⟨(blk_cell BK255.out 0).trans rfl, (blk_cell BK255.out 1).trans rfl⟩ (fun hHeld => ?_); refine with_tabW impl_BookGet.tab7 impl_BookGet.bits7 (fun HT_ HW_ => ?_)
    generalize wr.drew = w29 at HO_11 HO_256000 HO_256001 BK248 BK255 HB hHeld ⊢
    refine pu 0 26 ?_
    refine pu 2 28 ?_
    refine tk2 1 27 hHeld ?_
    refine on1 3 29 (fun K hK => ?_)
    refine goes_ Tryd.func23 (by kernel_rfl) rfl #[.string (rdOf ByteArray.empty t256 x13_1)] (by rfl) rfl rfl mq ?_
    with_reducible refine (impl_readEntry.calls (rdOf ByteArray.empty t256 x13_1) t269 t270 _ A27.out).mono ?_
    rintro e w30 ⟨rfl, hb⟩
    refine ⟨_, rfl, ?_⟩
    replace HO_11 := am (Kd.R_below (rq HO_11.out) hb); replace HO_256000 := am (Kd.R_below (rq HO_256000.out) hb); replace HO_256001 := am (Kd.R_below (rq HO_256001.out) hb); replace BK248 := am (blk_below (g := gb248) (o := .cells #[.slice none 0 0, .slice none 0 0] 25 (0, 0)) (bq BK248.out) hb); replace BK255 := am (blk_below (g := gb255) (o := .cells #[u256000, u256001] 25 (0, 0)) (bq BK255.out) hb); replace HB := am (below_step (bel2 GE248.out GE255.out) hb)
    (try clear hb)
    (try clear hb2)
    (try clear hk)
    (try clear hi)
    refine hK.out _ _ ⟨(blk_cell BK255.out 0).trans rfl, (blk_cell BK255.out 1).trans rfl⟩ (fun hHeld => ?_)
    clear hK K
    refine norm_ (a' := ?_) ?_ ?_
    rotate_left
    ·show Act.put _ (some 29) _ = _
     simp only [Act.put, List.setIfInBounds_toArray, List.set_cons_zero, List.set_cons_succ, i64_w, i32_w]
     rfl
    refine on1 4 30 (fun K hK => ?_)
    refine value_ (w1 := ?_) (v := ?_) (by rfl) rfl ?_ ?_
    rotate_left 2
    ·go_simp
     constructor
     ·rfl
     ·rfl
    refine hK.out _ _ ⟨(blk_cell (blk_alloc BK255.out _) 0).trans rfl, (blk_cell (blk_alloc BK255.out _) 1).trans rfl⟩ (fun hHeld => ?_)
    clear hK K
    refine norm_ (a' := ?_) ?_ ?_
    rotate_left
    ·show Act.put _ (some 30) _ = _
     simp only [Act.put, List.setIfInBounds_toArray, List.set_cons_zero, List.set_cons_succ, i64_w, i32_w]
     rfl
    refine on1 5 31 (fun K hK => ?_)
    refine Kd.R_append_step k43 (w0 := w) w.heap.size (by rfl) (.tmp 27) (.tmp 30) 23 43 (.agg #[(.string ⟨#[]⟩), (.string ⟨#[]⟩)]) 32 rfl Tryd.underlying23 info43 rfl (by decide) (by omega) u256001 x256001_1 (⟨t269, t270⟩ : S43) [.string t269, .string t270] (fun _ => True) (fun _ => False) rfl rfl ?aP (fun _ hk => hk.elim) ?aF ?aO ?aB ?aS ?aL ?_
    (case aP => exact k43_mkM _ _ _ (⟨t269, t270⟩ : S43)); (case aB => exact (bel2 GE248.out GE255.out)); (case aF => exact (fun _ _ => trivial)); (case aO => exact (rq HO_256001.out)); (case aS => exact (below_size (bel2 GE248.out GE255.out))); (case aL => have := LMc28.out; omega); intro v272 w31 ho hb hg hat; rw [← Ny271.out] at ho
    replace HO_11 := am (Kd.R_over' (rq HO_11.out) (Kd.R_typed (rq HO_256001.out)) (by decide) hg)
    replace HO_256000 := am (Kd.R_over' (rq HO_256000.out) (Kd.R_typed (rq HO_256001.out)) (by decide) hg)
    replace BK248 := am (blk_grown (g := gb248) (o := .cells #[.slice none 0 0, .slice none 0 0] 25 (0, 0)) (bq BK248.out) hg (Kd.R_ne HO_256001.out BK248.out (by decide)))
    replace BK255 := am (blk_grown (g := gb255) (o := .cells #[u256000, u256001] 25 (0, 0)) (bq BK255.out) hg (Kd.R_ne HO_256001.out BK255.out (by decide)))
    replace HB := am (hb); have HO273 := am (ho); clear HO_256001; clear ho hb hg hat; obtain ⟨Ao32, co32, eo32⟩ := Kd.R_slice HO273.out
    (first | subst eo32 | (injection eo32 with f1_ f2_ f3_; have f4_ := f1_.symm; have f5_ := f3_.symm; clear f1_ f2_ f3_; subst f4_; subst f5_))
    refine hK.out _ _ ⟨(blk_cell BK255.out 0).trans rfl, (blk_cell BK255.out 1).trans rfl⟩ (fun hHeld => ?_)
    clear hK K
    refine norm_ (a' := ?_) ?_ ?_
    rotate_left
    ·show Act.put _ (some 31) _ = _
     simp only [Act.put, List.setIfInBounds_toArray, List.set_cons_zero, List.set_cons_succ, i64_w, i32_w]
     rfl
    refine pu 6 32 ?_
    refine last_ (i := 7) (N := none) #[true, true, true, true, true, true, true, true] rfl rfl (one_of HT_.out (by kernel_rfl)) (by decide) (fun K hK => ?_)
    have hs33 : w31.cell? ⟨gb255, 1, none⟩ = some (u256001) := (blk_cell BK255.out 1).trans rfl
    have hfs33 := bf BK255.out 1; have hns33_0 := NB248_255.out; have hms33_0 := NB255_248.out
    refine skip_ (w1 := ?_) (by rfl) rfl ?_ ?_
    rotate_left
    ·go_simp
     rfl
    refine hK.out _ _ ?_
    clear hK K
    refine done_ (done_of HT_.out (by kernel_rfl)) ?_
    try go_wp2
    go_roundg k1
    case measure => have := HK1.out; omega
    case rel => exact ⟨(wrap64 (x13_1 + 1)), (x256000_1), (y271), (u256000), (.slice Ao32 y271.length co32), sq, H', ⟨b74_⟩, ⟨rq (Kd.R_mono (Kd.R_far (p := ⟨gb255, 1, none⟩) (Kd.R_types HO_11.out BK255.out (by decide)) (fun _ hk => hk.2) (.slice Ao32 y271.length co32)) (fun _ hk => trivial))⟩, ⟨rq (Kd.R_mono (Kd.R_far (p := ⟨gb255, 1, none⟩) (Kd.R_types HO_256000.out BK255.out (by decide)) (fun _ hk => hk.2) (.slice Ao32 y271.length co32)) (fun _ hk => trivial))⟩, ⟨rq (Kd.R_mono (Kd.R_far (p := ⟨gb255, 1, none⟩) (Kd.R_types HO273.out BK255.out (by decide)) (fun _ hk => hk.2) (.slice Ao32 y271.length co32)) (fun _ hk => trivial))⟩, ⟨b71_⟩, ⟨by (with_reducible repeat (first | refine blk_drewN ?_ _ | refine blk_drew ?_ | refine blk_alloc ?_ _)); refine blk_put (cs := #[u256000, u256001]) ?_ 1 _ rfl; (with_reducible repeat (first | refine blk_drewN ?_ _ | refine blk_drew ?_ | refine blk_alloc ?_ _)); exact BK255.out⟩, ⟨bel2 GE248.out GE255.out⟩⟩
   rw [if_neg c15] at H; have c15b0 := decide_eq_false c15; clear c15; replace H := bs H; obtain ⟨t274, A340, H⟩ := H; replace H : (if t274 = true then ((impl_BookPut.f k1 x256000_1 x256001_1).bind fun t275 => (if t275.toList = a0.toList then (some (x256000_1, x256001_1, true)) else (some (([] : List (S40)), ([] : List (S43)), false)))) else (some (([] : List (S40)), ([] : List (S43)), false))) = some (r1, r2, r3) := H; have A34 := Aside0.mk A340; clear A340
   by_cases c35 : t274 = true
   ·subst c35
    have H1 : ((impl_BookPut.f k1 x256000_1 x256001_1).bind fun t275 => (if t275.toList = a0.toList then (some (x256000_1, x256001_1, true)) else (some (([] : List (S40)), ([] : List (S43)), false)))) = some (r1, r2, r3) := b47_
    replace H := H1; clear H1
    replace H := bs H; obtain ⟨t275, A360, H⟩ := H; replace H : (if t275.toList = a0.toList then (some (x256000_1, x256001_1, true)) else (some (([] : List (S40)), ([] : List (S43)), false))) = some (r1, r2, r3) := H; have A36 := Aside0.mk A360; clear A360
    by_cases c37 : t275.toList = a0.toList
    ·rw [if_pos c37] at H
     have c37b0 : (t275.toList == a0.toList) = true := beq_iff_eq.mpr c37
     have c37b1 : (t275.toList != a0.toList) = false := bne_eq_false_iff_eq.mpr c37
     clear c37
     simp only [Option.some.injEq, Prod.mk.injEq] at H
     obtain ⟨rfl, rfl, rfl⟩ := H; have hnb38 := NB255_248.out; have hnc38 := NB248_255.out; have hcz39_0 := bc BK255.out 0; have hcz39_1 := bc BK255.out 1; have hfz39_0 := bf BK255.out 0; have hfz39_1 := bf BK255.out 1; obtain ⟨Ao40, co40, eo40⟩ := Kd.R_slice HO_256000.out; subst eo40; obtain ⟨Ao41, co41, eo41⟩ := Kd.R_slice HO_256001.out; subst eo41
     go_wp2_with (first | ((with_reducible refine gate_callee (f := 24) rfl ?_); refine goesL_ (some 35) rfl rfl Tryd.func24 (by kernel_rfl) rfl #[.agg #[.slice Ao40 x256000_1.length co40, .slice Ao41 x256001_1.length co41]] rfl mq ?_; (with_reducible refine (impl_BookOk.calls k1 _ _ x256000_1 _ _ x256001_1 true _ ?side1 ?side2 ?side3 ?side4 A34.out).mono ?_); (case side1 => exact cq (Kd.R_reads' HO_256000.out).2.2); (case side2 => exact (Kd.R_reads' HO_256000.out).2.1); (case side3 => exact cq (Kd.R_reads' HO_256001.out).2.2); (case side4 => exact (Kd.R_reads' HO_256001.out).2.1); rintro e w42 ⟨rfl, hb⟩; refine ⟨_, rfl, ?_⟩; replace HO_11 := am (Kd.R_below (rq HO_11.out) hb); replace HO_256000 := am (Kd.R_below (rq HO_256000.out) hb); replace HO_256001 := am (Kd.R_below (rq HO_256001.out) hb); replace BK248 := am (blk_below (g := gb248) (o := .cells #[.slice none 0 0, .slice none 0 0] 25 (0, 0)) (bq BK248.out) hb); replace BK255 := am (blk_below (g := gb255) (o := .cells #[.slice Ao40 x256000_1.length co40, .slice Ao41 x256001_1.length co41] 25 (0, 0)) (bq BK255.out) hb); replace HB := am (below_step (bel2 GE248.out GE255.out) hb); (try clear hb); (try clear hb2); (try clear hk); (try clear hi); have hcz43_0 := bc BK255.out 0; have hcz43_1 := bc BK255.out 1; have hfz43_0 := bf BK255.out 0; have hfz43_1 := bf BK255.out 1) | (go_at_call 11; (with_reducible refine (impl_BookPut.calls k1 _ _ x256000_1 _ _ x256001_1 t275 _ ?side1 ?side2 ?side3 ?side4 A36.out).mono ?_); (case side1 => exact cq (Kd.R_reads' HO_256000.out).2.2); (case side2 => exact (Kd.R_reads' HO_256000.out).2.1); (case side3 => exact cq (Kd.R_reads' HO_256001.out).2.2); (case side4 => exact (Kd.R_reads' HO_256001.out).2.1); rintro e w44 ⟨rfl, hb⟩; replace HO_11 := am (Kd.R_below (rq HO_11.out) hb); replace HO_256000 := am (Kd.R_below (rq HO_256000.out) hb); replace HO_256001 := am (Kd.R_below (rq HO_256001.out) hb); replace BK248 := am (blk_below (g := gb248) (o := .cells #[.slice none 0 0, .slice none 0 0] 25 (0, 0)) (bq BK248.out) hb); replace BK255 := am (blk_below (g := gb255) (o := .cells #[.slice Ao40 x256000_1.length co40, .slice Ao41 x256001_1.length co41] 25 (0, 0)) (bq BK255.out) hb); replace HB := am (below_step (bel2 GE248.out GE255.out) hb); (try clear hb); (try clear hb2); (try clear hk); (try clear hi); have hcz45_0 := bc BK255.out 0; have hcz45_1 := bc BK255.out 1; have hfz45_0 := bf BK255.out 0; have hfz45_1 := bf BK255.out 1; have hcz46_0 := bc BK248.out 0; have hcz46_1 := bc BK248.out 1; have hfz46_0 := bf BK248.out 0; have hfz46_1 := bf BK248.out 1))
     refine bodyPost_ret (results_ct rfl _ _ gb248 25 #[.slice Ao40 x256000_1.length co40, .slice Ao41 x256001_1.length co41] (0, 0) _ rfl (by (with_reducible repeat (first | refine blk_drewN ?_ _ | refine blk_drew ?_ | refine blk_alloc ?_ _)); refine blk_put (cs := #[.slice Ao40 x256000_1.length co40, .slice none 0 0]) ?_ 1 _ rfl; (with_reducible repeat (first | refine blk_drewN ?_ _ | refine blk_drew ?_ | refine blk_alloc ?_ _)); refine blk_put (cs := #[.slice none 0 0, .slice none 0 0]) ?_ 0 _ rfl; (with_reducible repeat (first | refine blk_drewN ?_ _ | refine blk_drew ?_ | refine blk_alloc ?_ _)); exact BK248.out) Tryd.underlying25 rfl (by kernel_rfl)) rfl ?_
     exact ⟨_, _, eq_, by (with_reducible repeat (first | apply Kd.R_alloc | apply Kd.R_drewN | apply Kd.R_drew)); exact Kd.R_mono (Kd.R_far (p := ⟨gb248, 1, none⟩) (Kd.R_far (p := ⟨gb248, 0, none⟩) (Kd.R_types HO_256000.out BK248.out (by decide)) (fun _ hk => hk.2) (.slice Ao40 x256000_1.length co40)) (fun _ hk => hk.2) (.slice Ao41 x256001_1.length co41)) (fun _ hk => trivial), by (with_reducible repeat (first | apply Kd.R_alloc | apply Kd.R_drewN | apply Kd.R_drew)); exact Kd.R_mono (Kd.R_far (p := ⟨gb248, 1, none⟩) (Kd.R_far (p := ⟨gb248, 0, none⟩) (Kd.R_types HO_256001.out BK248.out (by decide)) (fun _ hk => hk.2) (.slice Ao40 x256000_1.length co40)) (fun _ hk => hk.2) (.slice Ao41 x256001_1.length co41)) (fun _ hk => trivial), bel2 GE248.out GE255.out⟩
    rw [if_neg c37] at H
    have c37b0 : (t275.toList == a0.toList) = false := beq_eq_false_iff_ne.mpr c37
    have c37b1 : (t275.toList != a0.toList) = true := bne_iff_ne.mpr c37
    simp only [Option.some.injEq, Prod.mk.injEq] at H
    obtain ⟨rfl, rfl, rfl⟩ := H; have hnb47 := NB255_248.out; have hnc47 := NB248_255.out; have hcz48_0 := bc BK255.out 0; have hcz48_1 := bc BK255.out 1; have hfz48_0 := bf BK255.out 0; have hfz48_1 := bf BK255.out 1; obtain ⟨Ao49, co49, eo49⟩ := Kd.R_slice HO_256000.out; subst eo49; obtain ⟨Ao50, co50, eo50⟩ := Kd.R_slice HO_256001.out; subst eo50
    go_wp2_with (first | ((with_reducible refine gate_callee (f := 24) rfl ?_); refine goesL_ (some 35) rfl rfl Tryd.func24 (by kernel_rfl) rfl #[.agg #[.slice Ao49 x256000_1.length co49, .slice Ao50 x256001_1.length co50]] rfl mq ?_; (with_reducible refine (impl_BookOk.calls k1 _ _ x256000_1 _ _ x256001_1 true _ ?side1 ?side2 ?side3 ?side4 A34.out).mono ?_); (case side1 => exact cq (Kd.R_reads' HO_256000.out).2.2); (case side2 => exact (Kd.R_reads' HO_256000.out).2.1); (case side3 => exact cq (Kd.R_reads' HO_256001.out).2.2); (case side4 => exact (Kd.R_reads' HO_256001.out).2.1); rintro e w51 ⟨rfl, hb⟩; refine ⟨_, rfl, ?_⟩; replace HO_11 := am (Kd.R_below (rq HO_11.out) hb); replace HO_256000 := am (Kd.R_below (rq HO_256000.out) hb); replace HO_256001 := am (Kd.R_below (rq HO_256001.out) hb); replace BK248 := am (blk_below (g := gb248) (o := .cells #[.slice none 0 0, .slice none 0 0] 25 (0, 0)) (bq BK248.out) hb); replace BK255 := am (blk_below (g := gb255) (o := .cells #[.slice Ao49 x256000_1.length co49, .slice Ao50 x256001_1.length co50] 25 (0, 0)) (bq BK255.out) hb); replace HB := am (below_step (bel2 GE248.out GE255.out) hb); (try clear hb); (try clear hb2); (try clear hk); (try clear hi); have hcz52_0 := bc BK255.out 0; have hcz52_1 := bc BK255.out 1; have hfz52_0 := bf BK255.out 0; have hfz52_1 := bf BK255.out 1) | (go_at_call 11; (with_reducible refine (impl_BookPut.calls k1 _ _ x256000_1 _ _ x256001_1 t275 _ ?side1 ?side2 ?side3 ?side4 A36.out).mono ?_); (case side1 => exact cq (Kd.R_reads' HO_256000.out).2.2); (case side2 => exact (Kd.R_reads' HO_256000.out).2.1); (case side3 => exact cq (Kd.R_reads' HO_256001.out).2.2); (case side4 => exact (Kd.R_reads' HO_256001.out).2.1); rintro e w53 ⟨rfl, hb⟩; replace HO_11 := am (Kd.R_below (rq HO_11.out) hb); replace HO_256000 := am (Kd.R_below (rq HO_256000.out) hb); replace HO_256001 := am (Kd.R_below (rq HO_256001.out) hb); replace BK248 := am (blk_below (g := gb248) (o := .cells #[.slice none 0 0, .slice none 0 0] 25 (0, 0)) (bq BK248.out) hb); replace BK255 := am (blk_below (g := gb255) (o := .cells #[.slice Ao49 x256000_1.length co49, .slice Ao50 x256001_1.length co50] 25 (0, 0)) (bq BK255.out) hb); replace HB := am (below_step (bel2 GE248.out GE255.out) hb); (try clear hb); (try clear hb2); (try clear hk); (try clear hi); have hcz54_0 := bc BK248.out 0; have hcz54_1 := bc BK248.out 1; have hfz54_0 := bf BK248.out 0; have hfz54_1 := bf BK248.out 1))
    refine bodyPost_ret (results_ct rfl _ _ gb248 25 #[.slice none 0 0, .slice none 0 0] (0, 0) _ rfl b56_ Tryd.underlying25 rfl (by kernel_rfl)) rfl ?_
    exact ⟨_, _, eq_, b29_, b29_, bel2 GE248.out GE255.out⟩
   replace c35 := Bool.eq_false_iff.mpr c35; subst c35
   have H1 : (some (([] : List (S40)), ([] : List (S43)), false)) = some (r1, r2, r3) := b22_
   replace H := H1; clear H1
   simp only [Option.some.injEq, Prod.mk.injEq] at H
   obtain ⟨rfl, rfl, rfl⟩ := H; have hnb55 := NB255_248.out; have hnc55 := NB248_255.out; have hcz56_0 := bc BK255.out 0; have hcz56_1 := bc BK255.out 1; have hfz56_0 := bf BK255.out 0; have hfz56_1 := bf BK255.out 1; obtain ⟨Ao57, co57, eo57⟩ := Kd.R_slice HO_256000.out; subst eo57; obtain ⟨Ao58, co58, eo58⟩ := Kd.R_slice HO_256001.out; subst eo58
   go_wp2_with (first | ((with_reducible refine gate_callee (f := 24) rfl ?_); refine goesL_ (some 35) rfl rfl Tryd.func24 (by kernel_rfl) rfl #[.agg #[.slice Ao57 x256000_1.length co57, .slice Ao58 x256001_1.length co58]] rfl mq ?_; (with_reducible refine (impl_BookOk.calls k1 _ _ x256000_1 _ _ x256001_1 false _ ?side1 ?side2 ?side3 ?side4 A34.out).mono ?_); (case side1 => exact cq (Kd.R_reads' HO_256000.out).2.2); (case side2 => exact (Kd.R_reads' HO_256000.out).2.1); (case side3 => exact cq (Kd.R_reads' HO_256001.out).2.2); (case side4 => exact (Kd.R_reads' HO_256001.out).2.1); rintro e w59 ⟨rfl, hb⟩; refine ⟨_, rfl, ?_⟩; replace HO_11 := am (Kd.R_below (rq HO_11.out) hb); replace HO_256000 := am (Kd.R_below (rq HO_256000.out) hb); replace HO_256001 := am (Kd.R_below (rq HO_256001.out) hb); replace BK248 := am (blk_below (g := gb248) (o := .cells #[.slice none 0 0, .slice none 0 0] 25 (0, 0)) (bq BK248.out) hb); replace BK255 := am (blk_below (g := gb255) (o := .cells #[.slice Ao57 x256000_1.length co57, .slice Ao58 x256001_1.length co58] 25 (0, 0)) (bq BK255.out) hb); replace HB := am (below_step (bel2 GE248.out GE255.out) hb); (try clear hb); (try clear hb2); (try clear hk); (try clear hi); have hcz60_0 := bc BK248.out 0; have hcz60_1 := bc BK248.out 1; have hfz60_0 := bf BK248.out 0; have hfz60_1 := bf BK248.out 1))
   refine bodyPost_ret (results_ct rfl _ _ gb248 25 #[.slice none 0 0, .slice none 0 0] (0, 0) _ rfl b56_ Tryd.underlying25 rfl (by kernel_rfl)) rfl ?_
   exact ⟨_, _, eq_, b29_, b29_, bel2 GE248.out GE255.out⟩

/-- A state of type 75 at block g of W; what its slices lead to came in by w0. -/
def IsS75 (w0 W : World) (g : Nat) (f0 : List Int) (f1 : Int) : Prop := ∃ A0 c0, W.heap[g]? = some (.cells #[.slice A0 f0.length c0, .int .i64 f1] 75 (0, 0)) ∧ w0.heap.size ≤ g ∧ Kd.C (Kd.int .u8) w0 A0 f0.length f0
theorem IsS75.grown {w0 W : World} {g : Nat} {f0 : List Int} {f1 : Int} {W1 : World} {row : Option Nat} (h : IsS75 w0 W g f0 f1) (hw : W.grownBy W1 row) (hne : some g ≠ row) : IsS75 w0 W1 g f0 f1 := by
 obtain ⟨A0, c0, hb, hg, hr0⟩ := h
 exact ⟨A0, c0, blk_grown hb hw hne, hg, hr0⟩
theorem IsS75.own_neN {w0 W : World} {g : Nat} {f0 : List Int} {f1 : Int} {α : Type} {d : Kd α} {e : Nat} {base : Nat} {ok : Nat → Prop} {v : Value} {xs : List α} (h : IsS75 w0 W g f0 f1) (ho : Kd.N d e W base ok v xs) (ht : e ≠ 75) : some g ≠ v.ownBlock := by
 obtain ⟨A0, c0, hb, hg, hr0⟩ := h
 exact Kd.N_ne ho hb ht
theorem IsS75.fresh {w0 W : World} {g : Nat} {f0 : List Int} {f1 : Int} (h : IsS75 w0 W g f0 f1) : ∀ k, W.heap.size ≤ k → k ≠ g := by
 obtain ⟨A0, c0, hb, hg, hr0⟩ := h
 exact Kd.freshB hb
theorem IsS75.kept {w0 W : World} {g : Nat} {f0 : List Int} {f1 : Int} {W1 : World} {S : Nat → Prop} (h : IsS75 w0 W g f0 f1) (hk : Kept W W1 S) (hne : ¬ S g) : IsS75 w0 W1 g f0 f1 := by
 obtain ⟨A0, c0, hb, hg, hr0⟩ := h
 exact ⟨A0, c0, blk_kept hb hk hne, hg, hr0⟩
theorem IsS75.below {w0 W : World} {g : Nat} {f0 : List Int} {f1 : Int} {W1 : World} (h : IsS75 w0 W g f0 f1) (hw : Below W.heap.size W W1) : IsS75 w0 W1 g f0 f1 := h.grown (grown_of_below hw none) (by simp)
theorem IsS75.alloc {w0 W : World} {g : Nat} {f0 : List Int} {f1 : Int} (h : IsS75 w0 W g f0 f1) (o : Obj) : IsS75 w0 (W.alloc o) g f0 f1 := h.below (below_alloc (Below.refl _ _) o)
theorem IsS75.drewN {w0 W : World} {g : Nat} {f0 : List Int} {f1 : Int} (h : IsS75 w0 W g f0 f1) (m : Nat) : IsS75 w0 (W.drewN m) g f0 f1 := h
theorem IsS75.drew {w0 W : World} {g : Nat} {f0 : List Int} {f1 : Int} (h : IsS75 w0 W g f0 f1) : IsS75 w0 W.drew g f0 f1 := h
theorem IsS75.at_ {w0 W : World} {g : Nat} {f0 : List Int} {f1 : Int} {w' : World} {m : Nat} (hq : W.drewN m = w') (h : IsS75 w0 W g f0 f1) : IsS75 w0 w' g f0 f1 := by subst hq; exact IsS75.drewN h m
theorem IsS75.apart {w0 W : World} {g : Nat} {f0 : List Int} {f1 : Int} {α : Type} {d : Kd α} {e : Nat} {base : Nat} {ok : Nat → Prop} {v : Value} {xs : List α} (h : IsS75 w0 W g f0 f1) (ho : d.R e W base ok v xs) (ht : ∀ q, q ∈ e :: d.E → q ≠ 75) : d.R e W base (fun k => ok k ∧ k ≠ g) v xs := by
 obtain ⟨A0, c0, hb, hg, hr0⟩ := h
 exact Kd.R_types ho hb ht
theorem IsS75.own_ne {w0 W : World} {g : Nat} {f0 : List Int} {f1 : Int} {α : Type} {d : Kd α} {e : Nat} {base : Nat} {ok : Nat → Prop} {v : Value} {xs : List α} (h : IsS75 w0 W g f0 f1) (ho : d.R e W base ok v xs) (ht : e ≠ 75) : some g ≠ v.ownBlock := by
 obtain ⟨A0, c0, hb, hg, hr0⟩ := h
 exact Kd.R_ne ho hb ht
theorem IsS75.apartQ {w0 W : World} {g : Nat} {f0 : List Int} {f1 : Int} {α : Type} {d : Kd α} {e : Nat} {base : Nat} {ok : Nat → Prop} {v : Value} {xs : List α} (h : IsS75 w0 W g f0 f1) (ho : d.Q e W base ok v xs) (ht : ∀ q, q ∈ e :: d.E → q ≠ 75) : d.Q e W base (fun k => ok k ∧ k ≠ g) v xs := by
 obtain ⟨A0, c0, hb, hg, hr0⟩ := h
 exact Kd.Q_types ho hb ht
theorem IsS75.own_neQ {w0 W : World} {g : Nat} {f0 : List Int} {f1 : Int} {α : Type} {d : Kd α} {e : Nat} {base : Nat} {ok : Nat → Prop} {v : Value} {xs : List α} (h : IsS75 w0 W g f0 f1) (ho : d.Q e W base ok v xs) (ht : e ≠ 75) : some g ≠ v.ownBlock := by
 obtain ⟨A0, c0, hb, hg, hr0⟩ := h
 exact Kd.Q_ne ho hb ht
theorem IsS75.apartS {w0 W : World} {g : Nat} {f0 : List Int} {f1 : Int} {α : Type} {d : Kd α} {e : Nat} {base : Nat} {ok : Nat → Prop} {v : Value} {xs : List α} (h : IsS75 w0 W g f0 f1) (ho : d.S e W base ok v xs) (ht : ∀ q, q ∈ e :: d.E → q ≠ 75) : d.S e W base (fun k => ok k ∧ k ≠ g) v xs := by
 obtain ⟨A0, c0, hb, hg, hr0⟩ := h
 exact Kd.S_types ho hb ht
theorem IsS75.own_neS {w0 W : World} {g : Nat} {f0 : List Int} {f1 : Int} {α : Type} {d : Kd α} {e : Nat} {base : Nat} {ok : Nat → Prop} {v : Value} {xs : List α} (h : IsS75 w0 W g f0 f1) (ho : d.S e W base ok v xs) (ht : e ≠ 75) : some g ≠ v.ownBlock := by
 obtain ⟨A0, c0, hb, hg, hr0⟩ := h
 exact Kd.S_ne ho hb ht
theorem IsS75.lt {w0 W : World} {g : Nat} {f0 : List Int} {f1 : Int} (h : IsS75 w0 W g f0 f1) : g < W.heap.size := by
 obtain ⟨A0, c0, hb, hg, hr0⟩ := h
 exact blk_lt hb
theorem IsS75.ge {w0 W : World} {g : Nat} {f0 : List Int} {f1 : Int} (h : IsS75 w0 W g f0 f1) : w0.heap.size ≤ g := by
 obtain ⟨A0, c0, hb, hg, hr0⟩ := h
 exact hg
theorem IsS75.ne_blk {w0 W : World} {g : Nat} {f0 : List Int} {f1 : Int} {a : Nat} {cs : Array Value} {t : TypeId} {fr : Nat × Nat} (h : IsS75 w0 W g f0 f1) (hb2 : W.heap[a]? = some (.cells cs t fr)) (ht : t ≠ 75) : g ≠ a := by
 obtain ⟨A0, c0, hb, hg, hr0⟩ := h
 rintro rfl
 rw [hb] at hb2
 injection hb2 with hb2
 injection hb2 with _ ht2
 exact ht ht2.symm
theorem IsS75.far {w0 W : World} {g : Nat} {f0 : List Int} {f1 : Int} {p : Addr} (h : IsS75 w0 W g f0 f1) (hne : g ≠ p.block) (u : Value) : IsS75 w0 (W.setCell p u) g f0 f1 := by
 obtain ⟨A0, c0, hb, hg, hr0⟩ := h
 exact ⟨A0, c0, blk_far hb hne u, hg, hr0⟩
theorem cellS75_0 {W : World} {g : Nat} {A0 : Option Addr} {c0 : Nat} {f0 : List Int} {f1 : Int} (h : W.heap[g]? = some (.cells #[.slice A0 f0.length c0, .int .i64 f1] 75 (0, 0))) : W.cell? ⟨g, 0, none⟩ = some (.slice A0 f0.length c0) := (blk_cell h 0).trans rfl
theorem cellS75_1 {W : World} {g : Nat} {A0 : Option Addr} {c0 : Nat} {f0 : List Int} {f1 : Int} (h : W.heap[g]? = some (.cells #[.slice A0 f0.length c0, .int .i64 f1] 75 (0, 0))) : W.cell? ⟨g, 1, none⟩ = some (.int .i64 f1) := (blk_cell h 1).trans rfl
theorem IsS75.set_1 {w0 W : World} {g : Nat} {f0 : List Int} {f1 : Int} (h : IsS75 w0 W g f0 f1) (x : Int) : IsS75 w0 (W.setCell ⟨g, 1, none⟩ (.int .i64 x)) g f0 x := by
 obtain ⟨A0, c0, hb, hg, hr0⟩ := h
 exact ⟨A0, c0, by simpa using blk_set hb 1 (.int .i64 x), hg, hr0⟩
theorem IsS75.new (w0 W : World) (A0 : Option Addr) (c0 : Nat) (f0 : List Int) (f1 : Int) (hB : Below w0.heap.size w0 W) (hr0 : Kd.C (Kd.int .u8) w0 A0 f0.length f0) : IsS75 w0 (W.alloc (.cells #[.slice A0 f0.length c0, .int .i64 f1] 75)) W.heap.size f0 f1 := ⟨A0, c0, by simpa using heap_alloc_new W _, hB.size, hr0⟩

/-! ### spec_l1Rd_pick: function 49 -/
def spec_l1Rd_pick.j0 : Nat → Int → Bool → List Int → Int → Option (Int × Int)
 | 0, _, _, _, _ => none
 | k + 1, x1, x24, x1000, x1001 => if x24 = true then (some (0, x1001)) else (if (wrap64 (x1001 - 1)) < (x1000.length : Int) then (if 0 ≤ (wrap64 (x1001 - 1)) then (if x1 = 0 then (none) else (some (Int.tmod (wrap64 (rd x1000 (wrap64 (x1001 - 1)))) x1, x1001))) else (none)) else (if (x1000.length : Int) = 0 then (none) else (if 0 ≤ (Int.tmod (wrap64 (x1001 - 1)) (x1000.length : Int)) then (if (Int.tmod (wrap64 (x1001 - 1)) (x1000.length : Int)) < (x1000.length : Int) then (if 0 ≤ (Int.tmod (wrap64 ((wrap64 ((wrap64 (x1001 - 1)) * 7)) + 3)) (x1000.length : Int)) then (if (Int.tmod (wrap64 ((wrap64 ((wrap64 (x1001 - 1)) * 7)) + 3)) (x1000.length : Int)) < (x1000.length : Int) then (if x1 = 0 then (none) else (some (Int.tmod (Go.bits .xor .i64 (wrap64 ((wrap64 ((wrap64 ((wrap64 ((wrap64 (rd x1000 (Int.tmod (wrap64 (x1001 - 1)) (x1000.length : Int)))) * 131)) + (wrap64 ((wrap64 (rd x1000 (Int.tmod (wrap64 ((wrap64 ((wrap64 (x1001 - 1)) * 7)) + 3)) (x1000.length : Int)))) * 1117)))) + (wrap64 ((wrap64 (x1001 - 1)) * 29)))) + (wrap64 ((wrap64 (Int.tdiv (wrap64 (x1001 - 1)) (x1000.length : Int))) * 53)))) (wrap64 (Int.tdiv (wrap64 ((wrap64 ((wrap64 ((wrap64 ((wrap64 (rd x1000 (Int.tmod (wrap64 (x1001 - 1)) (x1000.length : Int)))) * 131)) + (wrap64 ((wrap64 (rd x1000 (Int.tmod (wrap64 ((wrap64 ((wrap64 (x1001 - 1)) * 7)) + 3)) (x1000.length : Int)))) * 1117)))) + (wrap64 ((wrap64 (x1001 - 1)) * 29)))) + (wrap64 ((wrap64 (Int.tdiv (wrap64 (x1001 - 1)) (x1000.length : Int))) * 53)))) 64))) x1, x1001))) else (none)) else (none)) else (none)) else (none))))
def spec_l1Rd_pick.f (k : Nat) (s0_0 : List Int) (s0_1 : Int) (a1 : Int) : Option (Int × Int) := if a1 < 1 then (spec_l1Rd_pick.j0 k a1 true s0_0 (wrap64 (s0_1 + 1))) else (spec_l1Rd_pick.j0 k a1 ((s0_0.length : Int) == 0) s0_0 (wrap64 (s0_1 + 1)))
theorem spec_l1Rd_pick.calls (k : Nat) (g : Nat) (s0_0 : List Int) (s0_1 : Int) (a1 : Int) (r1 : Int) (r2 : Int) (w0 w : World) (hI : IsS75 w0 w g s0_0 s0_1) (hB : Below w0.heap.size w0 w) (h : spec_l1Rd_pick.f k s0_0 s0_1 a1 = some (r1, r2)) :
  Calls Tryd.prog 49 #[.pointer (some ⟨g, 0, none⟩), .int .i64 a1] w fun e w' => e = .returned (.int .i64 r1) ∧ IsS75 w0 w' g s0_0 r2 ∧ Below w0.heap.size w0 w' ∧ KeepBut w w' g none := by
 have HI0 := am hI; have HK := am (KeepBut.refl w g none); have HL := am hB.size; clear hI; have HW0 := am hB.size; have HB := am hB; clear hB
 have H : (if a1 < 1 then (spec_l1Rd_pick.j0 k a1 true s0_0 (wrap64 (s0_1 + 1))) else (spec_l1Rd_pick.j0 k a1 ((s0_0.length : Int) == 0) s0_0 (wrap64 (s0_1 + 1)))) = some (r1, r2) := h
 clear h; have HC3 := am H; clear H; obtain ⟨ASz4_0, cSz4_0, HGz4, hgz4, HSz4_0⟩ := HI0.out; have hcz4_0 := cellS75_0 HGz4; have hcz4_1 := cellS75_1 HGz4; have hfz4_1 := bf HGz4 1; clear HGz4 hgz4; go_enter Tryd.func49, Tryd.ntmps49
 go_upto_region 2 with (fail)
 repeat (go_quiet (fail); go_upto_region 2 with (fail))
 go_cut [24] (fun v24 wc => ∃ (kq : Nat) (x24_2 : Bool), v24 = .bool x24_2 ∧ Aside0 (spec_l1Rd_pick.j0 kq a1 x24_2 s0_0 (wrap64 (s0_1 + 1)) = some (r1, r2)) ∧ Aside0 (kq ≤ k) ∧ Aside0 (IsS75 w0 wc g s0_0 (wrap64 (s0_1 + 1))) ∧ Aside0 (KeepBut w wc g none) ∧ Aside0 (Below w0.heap.size w0 wc))
 case first =>
  have H := HC3.out; clear HC3
  by_cases c5 : a1 < 1
  ·rw [if_pos c5] at H; have c5b0 := decide_eq_true c5; clear c5
   (first | rw [c5b0] | (simp only [i64_w, i32_w]; rw [c5b0]) | skip)
   have H' := am H
   clear H; go_wp2
   repeat (go_quiet (fail); try go_wp2)
   go_meet
   case rel => exact ⟨_, (true), sq, H', ⟨b69_⟩, ⟨b5_⟩, ⟨b0_⟩, ⟨b2_⟩⟩
  rw [if_neg c5] at H; have c5b0 := decide_eq_false c5; clear c5
  (first | rw [c5b0] | (simp only [i64_w, i32_w]; rw [c5b0]) | skip)
  have H' := am H
  clear H; obtain ⟨ASz6_0, cSz6_0, HGz6, hgz6, HSz6_0⟩ := HI0.out; have hcz6_0 := cellS75_0 HGz6; have hcz6_1 := cellS75_1 HGz6; have hfz6_1 := bf HGz6 1; clear HGz6 hgz6; go_wp2
  repeat (go_quiet (fail); try go_wp2)
  go_meet
  case rel => exact ⟨_, (((s0_0.length : Int) == 0)), sq, H', ⟨b69_⟩, ⟨b5_⟩, ⟨b0_⟩, ⟨b2_⟩⟩
 case rest =>
  clear HC3; (try clear p2); (try clear c4); (try clear c5); (try clear c5b0); (try clear p6); (try clear hcz4_0); (try clear hcz4_1); (try clear hcz6_0); (try clear hcz6_1); (try clear hfz4_1); (try clear hfz6_1); obtain ⟨kq, x24_2, rfl, HA, HJ2, HI0, HK, HB⟩ := hcut
  cases kq with
  | zero => exact absurd HA.out (by simp [spec_l1Rd_pick.j0])
  | succ kj2 =>
   have H := HA.out; clear HA
   simp only [spec_l1Rd_pick.j0] at H
   by_cases c7 : x24_2 = true
   ·subst c7
    have H1 : (some (0, (wrap64 (s0_1 + 1)))) = some (r1, r2) := b47_
    replace H := H1; clear H1
    simp only [Option.some.injEq, Prod.mk.injEq] at H
    obtain ⟨rfl, rfl⟩ := H; go_wp2
    repeat (go_quiet (fail); try go_wp2)
    go_ret
    exact ⟨eq_, b5_, b2_, b0_⟩
   replace c7 := Bool.eq_false_iff.mpr c7; subst c7
   have H1 : (if (wrap64 ((wrap64 (s0_1 + 1)) - 1)) < (s0_0.length : Int) then (if 0 ≤ (wrap64 ((wrap64 (s0_1 + 1)) - 1)) then (if a1 = 0 then (none) else (some (Int.tmod (wrap64 (rd s0_0 (wrap64 ((wrap64 (s0_1 + 1)) - 1)))) a1, (wrap64 (s0_1 + 1))))) else (none)) else (if (s0_0.length : Int) = 0 then (none) else (if 0 ≤ (Int.tmod (wrap64 ((wrap64 (s0_1 + 1)) - 1)) (s0_0.length : Int)) then (if (Int.tmod (wrap64 ((wrap64 (s0_1 + 1)) - 1)) (s0_0.length : Int)) < (s0_0.length : Int) then (if 0 ≤ (Int.tmod (wrap64 ((wrap64 ((wrap64 ((wrap64 (s0_1 + 1)) - 1)) * 7)) + 3)) (s0_0.length : Int)) then (if (Int.tmod (wrap64 ((wrap64 ((wrap64 ((wrap64 (s0_1 + 1)) - 1)) * 7)) + 3)) (s0_0.length : Int)) < (s0_0.length : Int) then (if a1 = 0 then (none) else (some (Int.tmod (Go.bits .xor .i64 (wrap64 ((wrap64 ((wrap64 ((wrap64 ((wrap64 (rd s0_0 (Int.tmod (wrap64 ((wrap64 (s0_1 + 1)) - 1)) (s0_0.length : Int)))) * 131)) + (wrap64 ((wrap64 (rd s0_0 (Int.tmod (wrap64 ((wrap64 ((wrap64 ((wrap64 (s0_1 + 1)) - 1)) * 7)) + 3)) (s0_0.length : Int)))) * 1117)))) + (wrap64 ((wrap64 ((wrap64 (s0_1 + 1)) - 1)) * 29)))) + (wrap64 ((wrap64 (Int.tdiv (wrap64 ((wrap64 (s0_1 + 1)) - 1)) (s0_0.length : Int))) * 53)))) (wrap64 (Int.tdiv (wrap64 ((wrap64 ((wrap64 ((wrap64 ((wrap64 (rd s0_0 (Int.tmod (wrap64 ((wrap64 (s0_1 + 1)) - 1)) (s0_0.length : Int)))) * 131)) + (wrap64 ((wrap64 (rd s0_0 (Int.tmod (wrap64 ((wrap64 ((wrap64 ((wrap64 (s0_1 + 1)) - 1)) * 7)) + 3)) (s0_0.length : Int)))) * 1117)))) + (wrap64 ((wrap64 ((wrap64 (s0_1 + 1)) - 1)) * 29)))) + (wrap64 ((wrap64 (Int.tdiv (wrap64 ((wrap64 (s0_1 + 1)) - 1)) (s0_0.length : Int))) * 53)))) 64))) a1, (wrap64 (s0_1 + 1))))) else (none)) else (none)) else (none)) else (none)))) = some (r1, r2) := b22_
   replace H := H1; clear H1
   by_cases c8 : (wrap64 ((wrap64 (s0_1 + 1)) - 1)) < (s0_0.length : Int)
   ·rw [if_pos c8] at H; have c8b0 := decide_eq_true c8; clear c8; obtain ⟨ji9, hji9⟩ : ∃ j_ : Int, (wrap64 ((wrap64 (s0_1 + 1)) - 1)) = j_ := ⟨_, rfl⟩
    replace H : (if 0 ≤ (ji9) then (if a1 = 0 then (none) else (some (Int.tmod (wrap64 (rd s0_0 (ji9))) a1, (wrap64 (s0_1 + 1))))) else (none)) = some (r1, r2) := by first | (rw [hji9] at H; exact H) | (simp only [hji9] at H ⊢; exact H)
    (try rw [hji9] at c8b0)
    have hji9w : (IntKind.i64.wrap ((wrap64 (s0_1 + 1)) - 1)) = ji9 := (i64_w _).trans hji9
    replace H := it H; obtain ⟨c10b0, H⟩ := H
    replace H := iq H; obtain ⟨c11, H⟩ := H
    have c11b0 : (a1 == 0) = false := beq_eq_false_iff_ne.mpr c11
    have c11b1 : (a1 != 0) = true := bne_iff_ne.mpr c11
    simp only [Option.some.injEq, Prod.mk.injEq] at H
    obtain ⟨rfl, rfl⟩ := H; obtain ⟨ASz12_0, cSz12_0, HGz12, hgz12, HSz12_0⟩ := HI0.out; have hcz12_0 := cellS75_0 HGz12; have hcz12_1 := cellS75_1 HGz12; have hfz12_1 := bf HGz12 1; clear HGz12 hgz12
    have p276 : 0 ≤ ((ji9) : Int) := of_decide_eq_true ad
    have q276 : (ji9) < (s0_0.length : Int) := of_decide_eq_true ad
    obtain ⟨ad276, e276, hx276_0⟩ := Kd.at_int HSz12_0 (ji9) p276 q276
    cases e276
    replace hx276_0 := pw_cell_below HB.out hx276_0; replace p276 := eq_true p276; replace q276 := eq_true q276; go_wp2
    repeat (go_quiet (fail); try go_wp2)
    go_ret
    exact ⟨by first | rfl | (simp [errW_none, errW_some] <;> rfl) | (simp only [← hji9]; first | rfl | (simp [errW_none, errW_some] <;> rfl)) | (simp [*, errW_none, errW_some] <;> rfl), b5_, b2_, b0_⟩
   rw [if_neg c8] at H; have c8b0 := decide_eq_false c8; clear c8
   replace H := iq H; obtain ⟨c13, H⟩ := H
   have c13b0 : ((s0_0.length : Int) == 0) = false := beq_eq_false_iff_ne.mpr c13
   have c13b1 : ((s0_0.length : Int) != 0) = true := bne_iff_ne.mpr c13
   have c13b2 : ¬ (s0_0 = []) := fun h_ => c13 (by rw [h_]; rfl)
   obtain ⟨ji14, hji14⟩ : ∃ j_ : Int, (Int.tmod (wrap64 ((wrap64 (s0_1 + 1)) - 1)) (s0_0.length : Int)) = j_ := ⟨_, rfl⟩
   replace H : (if 0 ≤ (ji14) then (if (ji14) < (s0_0.length : Int) then (if 0 ≤ (Int.tmod (wrap64 ((wrap64 ((wrap64 ((wrap64 (s0_1 + 1)) - 1)) * 7)) + 3)) (s0_0.length : Int)) then (if (Int.tmod (wrap64 ((wrap64 ((wrap64 ((wrap64 (s0_1 + 1)) - 1)) * 7)) + 3)) (s0_0.length : Int)) < (s0_0.length : Int) then (if a1 = 0 then (none) else (some (Int.tmod (Go.bits .xor .i64 (wrap64 ((wrap64 ((wrap64 ((wrap64 ((wrap64 (rd s0_0 (ji14))) * 131)) + (wrap64 ((wrap64 (rd s0_0 (Int.tmod (wrap64 ((wrap64 ((wrap64 ((wrap64 (s0_1 + 1)) - 1)) * 7)) + 3)) (s0_0.length : Int)))) * 1117)))) + (wrap64 ((wrap64 ((wrap64 (s0_1 + 1)) - 1)) * 29)))) + (wrap64 ((wrap64 (Int.tdiv (wrap64 ((wrap64 (s0_1 + 1)) - 1)) (s0_0.length : Int))) * 53)))) (wrap64 (Int.tdiv (wrap64 ((wrap64 ((wrap64 ((wrap64 ((wrap64 (rd s0_0 (ji14))) * 131)) + (wrap64 ((wrap64 (rd s0_0 (Int.tmod (wrap64 ((wrap64 ((wrap64 ((wrap64 (s0_1 + 1)) - 1)) * 7)) + 3)) (s0_0.length : Int)))) * 1117)))) + (wrap64 ((wrap64 ((wrap64 (s0_1 + 1)) - 1)) * 29)))) + (wrap64 ((wrap64 (Int.tdiv (wrap64 ((wrap64 (s0_1 + 1)) - 1)) (s0_0.length : Int))) * 53)))) 64))) a1, (wrap64 (s0_1 + 1))))) else (none)) else (none)) else (none)) else (none)) = some (r1, r2) := by first | (rw [hji14] at H; exact H) | (simp only [hji14] at H ⊢; exact H)
   replace H := it H; obtain ⟨c15b0, H⟩ := H
   replace H := it H; obtain ⟨c16b0, H⟩ := H; obtain ⟨ji17, hji17⟩ : ∃ j_ : Int, (Int.tmod (wrap64 ((wrap64 ((wrap64 ((wrap64 (s0_1 + 1)) - 1)) * 7)) + 3)) (s0_0.length : Int)) = j_ := ⟨_, rfl⟩
   replace H : (if 0 ≤ (ji17) then (if (ji17) < (s0_0.length : Int) then (if a1 = 0 then (none) else (some (Int.tmod (Go.bits .xor .i64 (wrap64 ((wrap64 ((wrap64 ((wrap64 ((wrap64 (rd s0_0 (ji14))) * 131)) + (wrap64 ((wrap64 (rd s0_0 (ji17))) * 1117)))) + (wrap64 ((wrap64 ((wrap64 (s0_1 + 1)) - 1)) * 29)))) + (wrap64 ((wrap64 (Int.tdiv (wrap64 ((wrap64 (s0_1 + 1)) - 1)) (s0_0.length : Int))) * 53)))) (wrap64 (Int.tdiv (wrap64 ((wrap64 ((wrap64 ((wrap64 ((wrap64 (rd s0_0 (ji14))) * 131)) + (wrap64 ((wrap64 (rd s0_0 (ji17))) * 1117)))) + (wrap64 ((wrap64 ((wrap64 (s0_1 + 1)) - 1)) * 29)))) + (wrap64 ((wrap64 (Int.tdiv (wrap64 ((wrap64 (s0_1 + 1)) - 1)) (s0_0.length : Int))) * 53)))) 64))) a1, (wrap64 (s0_1 + 1))))) else (none)) else (none)) = some (r1, r2) := by first | (rw [hji17] at H; exact H) | (simp only [hji17] at H ⊢; exact H)
   replace H := it H; obtain ⟨c18b0, H⟩ := H
   replace H := it H; obtain ⟨c19b0, H⟩ := H
   replace H := iq H; obtain ⟨c20, H⟩ := H
   have c20b0 : (a1 == 0) = false := beq_eq_false_iff_ne.mpr c20
   have c20b1 : (a1 != 0) = true := bne_iff_ne.mpr c20
   simp only [Option.some.injEq, Prod.mk.injEq] at H
   obtain ⟨rfl, rfl⟩ := H; obtain ⟨ASz21_0, cSz21_0, HGz21, hgz21, HSz21_0⟩ := HI0.out; have hcz21_0 := cellS75_0 HGz21; have hcz21_1 := cellS75_1 HGz21; have hfz21_1 := bf HGz21 1; clear HGz21 hgz21
   have p277 : 0 ≤ ((ji14) : Int) := of_decide_eq_true ad
   have q277 : (ji14) < (s0_0.length : Int) := of_decide_eq_true ad
   obtain ⟨ad277, e277, hx277_0⟩ := Kd.at_int HSz21_0 (ji14) p277 q277
   cases e277
   replace hx277_0 := pw_cell_below HB.out hx277_0; replace p277 := eq_true p277; replace q277 := eq_true q277
   have p278 : 0 ≤ ((ji17) : Int) := of_decide_eq_true ad
   have q278 : (ji17) < (s0_0.length : Int) := of_decide_eq_true ad
   obtain ⟨ad278, e278, hx278_0⟩ := Kd.at_int HSz21_0 (ji17) p278 q278
   obtain rfl : ad277 = ad278 := (by injection e278)
   replace hx278_0 := pw_cell_below HB.out hx278_0; replace p278 := eq_true p278; replace q278 := eq_true q278; go_wp2
   repeat (go_quiet (fail); try go_wp2)
   go_ret
   exact ⟨by first | rfl | (simp [errW_none, errW_some] <;> rfl) | (simp only [← hji14, ← hji17]; first | rfl | (simp [errW_none, errW_some] <;> rfl)) | (simp [*, errW_none, errW_some] <;> rfl), b5_, b2_, b0_⟩
end Go.Proofs.YtiiefpckcgekgaaDoor.QFnBookText

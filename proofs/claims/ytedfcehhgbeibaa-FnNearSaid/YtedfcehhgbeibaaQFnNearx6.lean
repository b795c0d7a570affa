import Derived.Test.YtedfcehhgbeibaaQFnNearx0
import Derived.Test.YtedfcehhgbeibaaQFnNearx5
import Derived.Test.YtedfcehhgbeibaaVMSh2
namespace Go.Proofs.Ytedfcehhgbeibaa.QFnNear
open Go.RowKit Go.Proofs.YtedfcehhgbeibaaW.PrintWords Go.Proofs.YtedfcehhgbeibaaW.PrintLast Go.Proofs.YtedfcehhgbeibaaW.PrintMore Go.Proofs.Ytedfcehhgbeibaa.Sh
attribute [local go_sem] max2_int min2_int max_two min_two max_three min_three max_four min_four   -- for this text's walks alone
set_option linter.unusedVariables false
set_option linter.unusedSimpArgs false
-- shrunk

/-! ### impl_Near: function 47 -/
/-- A text that is one step away is told, if it is a word, and another one. -/
def impl_Near.put (k : Nat) (s : ByteArray) (xs : List ByteArray) (x : ByteArray) : Option (List ByteArray) :=
 if xs.length < 100000 then (if x.toList = s.toList then some xs else (impl_WordOk.f k x).bind fun b => some (if b = true then xs ++ [x] else xs)) else none
def impl_Near.go (k : Nat) (s : ByteArray) : List ByteArray → List ByteArray → Option (List ByteArray)
 | [], xs => some xs
 | x :: l, xs => (impl_Near.put k s xs x).bind fun ys => impl_Near.go k s l ys
def impl_Near.f (k : Nat) (a0 : ByteArray) : Option (List ByteArray) := (impl_WordOk.f k a0).bind fun b => if b = true then (if a0.size ≤ 1000 then ((impl_Near.go k a0 (M.candsFrom a0 0) []).bind fun xs => impl_sorted.f xs) else none) else some []
theorem impl_Near.put_mono (s : ByteArray) (xs : List ByteArray) (x : ByteArray) (k : Nat) : LeO (impl_Near.put k s xs x) (impl_Near.put (k + 1) s xs x) := by
 unfold impl_Near.put
 refine LeO.ite (LeO.ite (LeO.refl _) (LeO.bind (impl_WordOk.mono _ _) (fun _ => LeO.refl _))) (LeO.refl _)
theorem impl_Near.go_mono (s : ByteArray) (k : Nat) (l : List ByteArray) : ∀ xs, LeO (impl_Near.go k s l xs) (impl_Near.go (k + 1) s l xs) := by
 induction l with
 | nil => exact fun xs => LeO.refl _
 | cons x l ih => exact fun xs => LeO.bind (impl_Near.put_mono s xs x k) (fun ys => ih ys)
theorem impl_Near.mono : ∀ a0 k, LeO (impl_Near.f k a0) (impl_Near.f (k + 1) a0) := by
 intro a0 k
 unfold impl_Near.f
 exact LeO.bind (impl_WordOk.mono _ _) (fun _ => LeO.ite (LeO.ite (LeO.bind (impl_Near.go_mono _ _ _ _) (fun _ => LeO.refl _)) (LeO.refl _)) (LeO.refl _))
theorem impl_Near.big {n : Nat} (h : n ≤ 5000) : (9223372036854775807 < n) = False := eq_false (by omega)
theorem impl_Near.w64n {i n : Nat} (h : i ≤ n) (hn : n ≤ 1000) : wrap64 ((i : Int) + 1) = ((i + 1 : Nat) : Int) := M.w64 (by omega) (by omega)
structure impl_Near.St (w W : World) (B1 B3 : Nat) (s : ByteArray) (xs : List ByteArray) : Prop where
 ge1 : w.heap.size ≤ B1
 ge3 : w.heap.size ≤ B3
 ne : B1 ≠ B3
 b1 : W.heap[B1]? = some (.cells #[.string s] 9 (0, 0))
 row : ∃ v, W.heap[B3]? = some (.cells #[v] 27 (0, 0)) ∧ Kd.R Kd.string 9 W w.heap.size (fun k => k ≠ B1 ∧ k ≠ B3) v xs
 below : Below w.heap.size w W
theorem impl_Near.St.drewN {w W : World} {B1 B3 : Nat} {s : ByteArray} {xs : List ByteArray} (h : impl_Near.St w W B1 B3 s xs) (m : Nat) : impl_Near.St w (W.drewN m) B1 B3 s xs :=
 ⟨h.ge1, h.ge3, h.ne, h.b1, by obtain ⟨v, hb, hr⟩ := h.row; exact ⟨v, hb, Kd.R_drewN hr m⟩, pw_below_drewN h.below m⟩
theorem impl_Near.St.drew {w W : World} {B1 B3 : Nat} {s : ByteArray} {xs : List ByteArray} (h : impl_Near.St w W B1 B3 s xs) : impl_Near.St w W.drew B1 B3 s xs :=
 ⟨h.ge1, h.ge3, h.ne, h.b1, by obtain ⟨v, hb, hr⟩ := h.row; exact ⟨v, hb, Kd.R_drew hr⟩, below_drew1 h.below⟩
theorem impl_Near.St.alloc {w W : World} {B1 B3 : Nat} {s : ByteArray} {xs : List ByteArray} (h : impl_Near.St w W B1 B3 s xs) (o : Obj) : impl_Near.St w (W.alloc o) B1 B3 s xs :=
 ⟨h.ge1, h.ge3, h.ne, blk_alloc h.b1 o, by obtain ⟨v, hb, hr⟩ := h.row; exact ⟨v, blk_alloc hb o, Kd.R_alloc hr o⟩, below_alloc h.below o⟩

def impl_Near.T12 : Bool × List (List Nat × List Nat) := (true, [([], []), ([], []), ([], []), ([1, 2], [1, 2]), ([], []), ([3, 4], [3, 4]), ([], []), ([], []), ([6, 7], [6, 7]), ([5, 8], [5, 8]), ([0, 9], [0, 9])])
def impl_Near.B12 : List Nat := [0, 0, 0, 6, 0, 30, 0, 0, 192, 510, 1023]
theorem impl_Near.tab12 : rtab .any (opsOf Try.f47 12) = impl_Near.T12 := by kernel_rfl
theorem impl_Near.bits12 : waitsOk impl_Near.T12.2 impl_Near.B12 = true := by kernel_rfl
def impl_Near.T14 : Bool × List (List Nat × List Nat) := (true, [([], []), ([], []), ([], []), ([1, 2], [1, 2]), ([], []), ([3, 4], [3, 4]), ([], []), ([], []), ([7], [7]), ([6, 8], [6, 8]), ([5, 9], [5, 9]), ([0, 10], [0, 10])])
def impl_Near.B14 : List Nat := [0, 0, 0, 6, 0, 30, 0, 0, 128, 448, 1022, 2047]
theorem impl_Near.tab14 : rtab .any (opsOf Try.f47 14) = impl_Near.T14 := by kernel_rfl
theorem impl_Near.bits14 : waitsOk impl_Near.T14.2 impl_Near.B14 = true := by kernel_rfl
def impl_Near.T16 : Bool × List (List Nat × List Nat) := (true, [([], []), ([], []), ([], []), ([1, 2], [1, 2]), ([], []), ([], []), ([5], [5]), ([4, 6], [4, 6]), ([3, 7], [3, 7]), ([0, 8], [0, 8])])
def impl_Near.B16 : List Nat := [0, 0, 0, 6, 0, 0, 32, 112, 254, 511]
theorem impl_Near.tab16 : rtab .any (opsOf Try.f47 16) = impl_Near.T16 := by kernel_rfl
theorem impl_Near.bits16 : waitsOk impl_Near.T16.2 impl_Near.B16 = true := by kernel_rfl
def impl_Near.T18 : Bool × List (List Nat × List Nat) := (true, [([], []), ([], []), ([], []), ([1, 2], [1, 2]), ([], []), ([], []), ([5], [5]), ([], []), ([7], [7]), ([4, 6, 8], [4, 6, 8]), ([3, 9], [3, 9]), ([], []), ([], []), ([], []), ([13], [13]), ([11, 12, 14], [11, 12, 14]), ([10, 15], [10, 15]), ([], []), ([], []), ([18], [18]), ([17, 19], [17, 19]), ([16, 20], [16, 20]), ([0, 21], [0, 21])])
def impl_Near.B18 : List Nat := [0, 0, 0, 6, 0, 0, 32, 0, 128, 496, 1022, 0, 0, 0, 8192, 30720, 65534, 0, 0, 262144, 917504, 2097150, 4194303]
theorem impl_Near.tab18 : rtab .any (opsOf Try.f47 18) = impl_Near.T18 := by kernel_rfl
theorem impl_Near.bits18 : waitsOk impl_Near.T18.2 impl_Near.B18 = true := by kernel_rfl
set_option maxHeartbeats 1000000 in
set_option maxRecDepth 100000 in
theorem impl_Near.putc (k : Nat) (s x : ByteArray) (xs ys : List ByteArray) (w W : World) (B1 B3 : Nat) (hS : impl_Near.St w W B1 B3 s xs) (h : impl_Near.put k s xs x = some ys) :
  Calls Try.prog 86 #[.string x, .pointer (some ⟨B1, 0, none⟩), .pointer (some ⟨B3, 0, none⟩)] W fun e w' => e = .returned (.tuple #[]) ∧ impl_Near.St w w' B1 B3 s ys := by
 unfold impl_Near.put at h
 split at h
 case isFalse => cases h
 rename_i hlen
 have hcell : W.cell? ⟨B1, 0, none⟩ = some (.string s) := (blk_cell hS.b1 0).trans rfl
 have HS := am hS; clear hS
 by_cases c : x.toList = s.toList
 ·rw [if_pos c] at h; obtain rfl := Option.some.inj h
  have cb : (x.toList == s.toList) = true := by simpa using c
  clear h; go_enter Try.func86, Try.ntmps86; go_wp2
  refine bodyPost_end (results_none rfl _ _ _) rfl ?_
  exact ⟨rfl, HS.out⟩
 ·rw [if_neg c] at h; obtain ⟨b, hb, h⟩ := Option.bind_eq_some_iff.1 h; have h := Option.some.inj h
  have cb : (x.toList == s.toList) = false := by simpa using c
  cases b with
  | false =>
   simp only [Bool.false_eq_true, if_false] at h
   subst h; go_enter Try.func86, Try.ntmps86
   go_wp2_with (go_at_call 30; refine (impl_WordOk.calls k x false _ hb).mono ?_; rintro e w' ⟨rfl, ⟨nd, rfl⟩⟩)
   refine bodyPost_end (results_none rfl _ _ _) rfl ?_
   exact ⟨rfl, HS.out.drewN nd⟩
  | true =>
   simp only [if_true] at h
   subst h; obtain ⟨v, hb3, hr⟩ := HS.out.row; obtain ⟨A3, c3, rfl⟩ := Kd.R_slice hr
   have hfresh : ∀ k, W.heap.size ≤ k → k ≠ B1 ∧ k ≠ B3 := fun k hk => ⟨by have := blk_lt HS.out.b1; omega, by have := blk_lt hb3; omega⟩
   have hapart : ∀ k, (Value.slice A3 xs.length c3).ownBlock = some k → k ≠ B1 ∧ k ≠ B3 := fun k hk => hr.1 k hk
   have HR := am hr; have HB3 := am hb3; clear hr hb3; go_enter Try.func86, Try.ntmps86
   go_wp2_with (first
    | (go_at_call 30; refine (impl_WordOk.calls k x true _ hb).mono ?_; rintro e w' ⟨rfl, ⟨nd, rfl⟩⟩; have hcell3 : (W.drewN nd).cell? ⟨B3, 0, none⟩ = some (.slice A3 xs.length c3) := (blk_cell (blk_drewN HB3.out nd) 0).trans rfl)
    | ((with_reducible refine gate_builtin (b := .append) (xs := #[.tmp 11, .tmp 13]) rfl ?_); at_builtin; go_loud (refine Kd.R_append Kd.string (w0 := w) w.heap.size rfl (.tmp 11) (.tmp 13) 27 9 (.string ⟨#[]⟩) 16 rfl Try.underlying27 info9 rfl (by decide) (by decide) (.slice A3 xs.length c3) xs x [.string x] (fun k => k ≠ B1 ∧ k ≠ B3) (fun _ => False) rfl rfl rfl (fun _ h => h.elim) hfresh (Kd.R_drewN HR.out nd) (pw_below_drewN HS.out.below nd) (below_size (pw_below_drewN HS.out.below nd)) (by omega) ?_; intro v1 w1 ho hbw hg hat; obtain ⟨A4, c4, rfl⟩ := Kd.R_slice ho; have hb3' := blk_grown (blk_drewN HB3.out nd) hg (fun e => (hapart B3 e.symm).2 rfl); have hb1' := blk_grown (blk_drewN HS.out.b1 nd) hg (fun e => (hapart B1 e.symm).1 rfl); have hcell4 : w1.cell? ⟨B3, 0, none⟩ = some (.slice A3 xs.length c3) := (blk_cell hb3' 0).trans rfl; have hfz4 := bf hb3' 0; have HO := am ho; have HL := am (show (xs ++ [x]).length = xs.length + 1 from by simp); have HBW := am hbw; have HB3' := am hb3'; have HB1' := am hb1'; clear ho hbw hg hat hb3' hb1')))
   refine bodyPost_end (results_none rfl _ _ _) rfl ?_
   refine ⟨rfl, HS.out.ge1, HS.out.ge3, HS.out.ne, blk_far HB1'.out HS.out.ne _, ⟨_, blk_put HB3'.out 0 _ rfl, Kd.R_step (HL.out ▸ HO.out) (fun k hk _ => Below.heap_setCell _ _ _ k (fun e => hk.2 e))⟩, below_set HBW.out HS.out.ge3⟩
set_option maxHeartbeats 4000000 in
set_option maxRecDepth 100000 in
theorem impl_Near.calls (k : Nat) (a0 : ByteArray) (r : List ByteArray) (w : World) (h : impl_Near.f k a0 = some r) :
  Calls Try.prog 47 #[.string a0] w fun e w' => ∃ v0_ : Value, e = .returned (v0_) ∧ Kd.R Kd.string 9 w' w.heap.size (fun _ => True) v0_ r ∧ Below w.heap.size w w' := by
 unfold impl_Near.f at h
 obtain ⟨b, hb, h⟩ := Option.bind_eq_some_iff.1 h; have HW := am hb; clear hb
 cases b with
 | false =>
  simp only [Bool.false_eq_true, if_false] at h
  obtain rfl := Option.some.inj h; clear h; go_enter Try.func47, Try.ntmps47
  go_wp2_with (first
   | (go_at_call 30; refine (impl_WordOk.calls k a0 false _ HW.out).mono ?_; rintro e w' ⟨rfl, ⟨nd, rfl⟩⟩)
   | ((with_reducible refine gate_dst (N := 11) rfl ?_); refine Kd.R_lit Kd.string w.heap.size 9 ?hg (N := 11) ?hd (xs := ([] : List ByteArray)) (inner := []) (ok := fun _ => True) (okp := fun _ => True) ?hr ?hp (fun _ hk => hk) trivial (pw_below_drewN (below_alloc (Below.refl _ w) _) nd) (below_size (pw_below_drewN (below_alloc (Below.refl _ w) _) nd)) (by simp) ?_; (case hd => rfl); (case hg => rfl); (case hr => first | (go_simp; done) | (go_simp; rfl)); (case hp => exact (Reps.none _ _)); intro v11 w1 ho hbw hg_ hnew_; have HO := am ho; have HB := am hbw; clear ho hbw hg_ hnew_))
  go_ret
  exact ⟨v11, rfl, HO.out, HB.out⟩
 | true =>
  simp only [if_true] at h
  split at h
  case isFalse => cases h
  rename_i hsz; obtain ⟨r0, hgo, h⟩ := Option.bind_eq_some_iff.1 h; have HG := am hgo; have HF := am h; clear hgo h; go_enter Try.func47, Try.ntmps47
  go_wp2_with (first
   | ((with_reducible refine gate_dst (N := 1) rfl ?_); refine bx 1 (cs := #[.string a0]) (t := 9) ?_; intro B1 hg1 w1 hbox hbw; have GE1 : w.heap.size ≤ B1 := Nat.le_of_eq hg1.symm; have BK1 := am hbox; have HB1 := am hbw; have hcell1 : w1.cell? ⟨B1, 0, none⟩ = some (.string a0) := (blk_cell hbox 0).trans rfl; clear hbox hbw hg1)
   | (go_at_call 30; refine (impl_WordOk.calls k a0 true _ HW.out).mono ?_; rintro e w' ⟨rfl, ⟨nd, rfl⟩⟩)
   | ((with_reducible refine gate_dst (N := 12) rfl ?_); refine Kd.R_lit Kd.string w.heap.size 9 ?hg (N := 12) ?hd (xs := ([] : List ByteArray)) (inner := []) (ok := fun k => k ≠ B1) (okp := fun k => k ≠ B1) ?hr ?hp (fun _ hk => hk) (Nat.ne_of_gt (blk_lt (blk_drewN BK1.out nd))) (pw_below_drewN HB1.out nd) (below_size (pw_below_drewN HB1.out nd)) (by simp) ?_; (case hd => rfl); (case hg => rfl); (case hr => first | (go_simp; done) | (go_simp; rfl)); (case hp => exact (Reps.none _ _)); intro v12 w2 ho hbw hg_ hnew_; have HO := am ho; have HB2 := am hbw; have BK2 := am (blk_grown (blk_drewN BK1.out nd) hg_ (by simp)); clear ho hbw hg_ hnew_ hcell1)
   | ((with_reducible refine gate_dst (N := 3) rfl ?_); refine bx 3 (cs := #[.slice none 0 0]) (t := 27) ?_; intro B3 hg3 w3 hbox3 hbw3; have GE3 : w.heap.size ≤ B3 := (by rw [hg3]; exact below_size HB2.out); have NE13 : B1 ≠ B3 := (by rw [hg3]; exact Nat.ne_of_lt (blk_lt BK2.out)); have HO3 := am (Kd.R_below (Kd.R_mono (Kd.R_bound HO.out) (fun k hk => (⟨hk.1, by rw [hg3]; exact Nat.ne_of_lt hk.2.2.1⟩ : k ≠ B1 ∧ k ≠ B3))) hbw3); have BK13 := am (blk_below BK2.out hbw3); have BK3 := am hbox3; have HB3 := am (below_step HB2.out hbw3); have HG3 := am hg3; obtain ⟨A12, c12, rfl⟩ := Kd.R_slice HO.out; have hcell3 : w3.cell? ⟨B3, 0, none⟩ = some (.slice none 0 0) := (blk_cell hbox3 0).trans rfl; have hfz3 := bf hbox3 0; clear hbox3 hbw3 hg3))
  have S0 : impl_Near.St w (w3.setCell ⟨B3, 0, none⟩ (.slice A12 0 c12)) B1 B3 a0 [] := ⟨GE1, GE3, NE13, blk_far BK13.out NE13 _, ⟨_, blk_put BK3.out 0 _ rfl, Kd.R_step HO3.out (fun k hk _ => Below.heap_setCell _ _ _ k (fun e => hk.2 e))⟩, below_set HB3.out GE3⟩
  have HS0 := Aside0.mk S0; clear S0 hcell3 hfz3 BK1 HB1 BK2 HB2 BK13 BK3 HB3 HG3 HO HO3
  generalize w3.setCell ⟨B3, 0, none⟩ (.slice A12 0 c12) = W0 at HS0 ⊢
  go_loopg [5] (a0.size + 1) (fun kq v5 W => ∃ (i : Nat) (xs : List ByteArray), v5 = .int .i64 (i : Int) ∧ Aside0 (i ≤ a0.size + 1) ∧ Aside0 (a0.size + 1 - i ≤ kq) ∧ Aside0 (impl_Near.St w W B1 B3 a0 xs) ∧ Aside0 (impl_Near.go k a0 (M.candsFrom a0 i) xs = some r0))
  case atStart => exact ⟨0, [], rfl, ⟨by omega⟩, ⟨by omega⟩, HS0, HG⟩
  case round =>
   obtain ⟨i, xs, rfl, HI, HK, HS, HC⟩ := hrel; clear HS0 HG
   have hcell1 : wr.cell? ⟨B1, 0, none⟩ = some (.string a0) := (blk_cell HS.out.b1 0).trans rfl
   by_cases c : (i : Int) ≤ (a0.size : Int)
   ·have cb : decide ((i : Int) ≤ (a0.size : Int)) = true := decide_eq_true c
    have cb2 : (i ≤ a0.size) = True := eq_true (by omega)
    have cb3 : decide (i ≤ a0.size) = true := decide_eq_true (by omega)
    have HLE := am (show i ≤ a0.size by omega)
    cases gk with
    | zero => exact absurd HK.out (by omega)
    | succ k0 =>
    have HC2 := am (show impl_Near.go k a0 (M.lettersAt a0 i 97 ++ (M.delAt a0 i ++ (M.swpAt a0 i ++ M.candsFrom a0 (i + 1)))) xs = some r0 by
     have e := HC.out
     rw [M.candsFrom_step a0 i (by omega)] at e
     unfold M.candsAt at e
     rw [List.append_assoc, List.append_assoc] at e
     exact e)
    clear c; go_wp2
    go_loopg [6] 26 (fun kq v6 W => ∃ (c : Nat) (ys : List ByteArray), v6 = .int .u8 (c : Int) ∧ Aside0 (97 ≤ c ∧ c ≤ 123) ∧ Aside0 (123 - c ≤ kq) ∧ Aside0 (impl_Near.St w W B1 B3 a0 ys) ∧ Aside0 (impl_Near.go k a0 (M.lettersAt a0 i c ++ (M.delAt a0 i ++ (M.swpAt a0 i ++ M.candsFrom a0 (i + 1)))) ys = some r0))
    case atStart => exact ⟨97, xs, rfl, ⟨by omega⟩, ⟨by omega⟩, HS, HC2⟩
    case round =>
     obtain ⟨c, ys, rfl, HCC, HKC, HSC, HCC2⟩ := hrel
     have hcell2 : wr.cell? ⟨B1, 0, none⟩ = some (.string a0) := (blk_cell HSC.out.b1 0).trans rfl
     by_cases d : (c : Int) ≤ 122
     ·have db : decide ((c : Int) ≤ 122) = true := decide_eq_true d
      have db2 : (c ≤ 122) = True := eq_true (by omega)
      have db3 : decide (c ≤ 122) = true := decide_eq_true (by omega)
      have HD := Aside0.mk d; clear d
      cases gk with
      | zero => exact absurd HKC.out (by have := HD.out; omega)
      | succ k1 =>
      have hconv := own_string (P := Try.prog) (src := 38) (dst := 9) (e := 5) Try.underlying38 Try.underlying5 Try.underlying9 (w := wr.alloc (.cells #[.int .u8 (c : Int)] 5)) (base := 0) (e' := 5) (n := 1) (v := .slice (some ⟨wr.heap.size, 0, none⟩) 1 1) (xs := [(c : Int)]) (by have h2 := World.ownsRow_lit (base := 0) (e := 5) (size := 1) wr #[.int .u8 (c : Int)] 1 (Nat.zero_le _) (by decide) (by simp); simpa [nums] using h2)
      go_wp2; clear hconv hcell2 hcell1; have HSA := am ((HSC.out.alloc (.cells #[.int .u8 (c : Int)] 5)).drew); have hle := HLE.out
      have hL : (strOfNums [(c : Int)]).size = 1 := rfl
      have hm : (c : Int) % 256 = (c : Int) := by have := HCC.out; omega
      have z1 : (a0.extract 0 i).size = i := by rw [M.size_extract _ _ _ (by omega) HLE.out]; omega
      have z2 : (a0.extract i a0.size).size = a0.size - i := M.size_extract _ _ _ HLE.out (Nat.le_refl _)
      have hu : IntKind.u8.wrap ((c : Int) + 1) = ((c + 1 : Nat) : Int) := by have := HD.out; have := HCC.out; show ((c : Int) + 1) % 256 = _; omega
      have w1 : (9223372036854775807 < (a0.extract 0 i).size + (strOfNums [(c : Int)]).size) = False := impl_Near.big (by omega)
      have w3 : (9223372036854775807 < ((a0.extract 0 i) ++ (strOfNums [(c : Int)])).size + (a0.extract i a0.size).size) = False := impl_Near.big (by rw [M.size_append]; omega)
      have w5 : (9223372036854775807 < i + 1) = False := impl_Near.big (by omega)
      have w6 : (9223372036854775807 < i + 1 + (a0.size - i)) = False := impl_Near.big (by omega)
      by_cases e1 : i < a0.size
      ·obtain ⟨ys1, hp1, hg1⟩ : ∃ ys1, impl_Near.put k a0 ys ((a0.extract 0 i ++ strOfNums [(c : Int)]) ++ a0.extract i a0.size) = some ys1 ∧ impl_Near.go k a0 (M.subB a0 i c :: (M.lettersAt a0 i (c + 1) ++ (M.delAt a0 i ++ (M.swpAt a0 i ++ M.candsFrom a0 (i + 1))))) ys1 = some r0 := by
        have e := HCC2.out
        rw [M.lettersAt_step a0 i c (by have := HD.out; omega), M.letAt, if_pos e1] at e
        obtain ⟨y, h1, h2⟩ := Option.bind_eq_some_iff.1 e
        refine ⟨y, ?_, h2⟩
        unfold M.insB at h1
        rw [hm] at h1
        exact h1
       obtain ⟨ys2, hp2, hg2⟩ : ∃ ys2, impl_Near.put k a0 ys1 ((a0.extract 0 i ++ strOfNums [(c : Int)]) ++ a0.extract (i + 1) a0.size) = some ys2 ∧ impl_Near.go k a0 (M.lettersAt a0 i (c + 1) ++ (M.delAt a0 i ++ (M.swpAt a0 i ++ M.candsFrom a0 (i + 1)))) ys2 = some r0 := by
        obtain ⟨y, h1, h2⟩ := Option.bind_eq_some_iff.1 hg1
        refine ⟨y, ?_, h2⟩
        unfold M.subB at h1
        rw [hm] at h1
        exact h1
       have HP1 := am hp1; have HP2 := am hp2; have HG2 := am hg2; clear hp1 hg1 hp2 hg2
       have e1b : (i < a0.size) = True := eq_true e1
       have e1c : decide (i < a0.size) = true := decide_eq_true e1
       have e1d : (i + 1 ≤ a0.size) = True := eq_true e1
       have b1 : ((i : Int) + 1 ≤ (a0.size : Int)) = True := eq_true (Int.ofNat_le.2 e1)
       have b0 : (0 ≤ (i : Int) + 1) = True := eq_true (Int.natCast_nonneg (i + 1))
       have z3 : (a0.extract (i + 1) a0.size).size = a0.size - (i + 1) := M.size_extract _ _ _ e1 (Nat.le_refl _)
       have w7 : (9223372036854775807 < i + 1 + (a0.size - (i + 1))) = False := impl_Near.big (by rw [Nat.add_sub_of_le e1]; exact Nat.le_trans hsz (by decide))
       have hw : wrap64 ((i : Int) + 1) = ((i + 1 : Nat) : Int) := impl_Near.w64n hle hsz
       have w14 : (9223372036854775807 < a0.size) = False := impl_Near.big (by omega)
       refine st (n := 11) (S := fun w' => w'.cell? ⟨B1, 0, none⟩ = some (.string a0)) (ds := []) ((blk_cell HSA.out.b1 0).trans rfl) (fun hHeld => ?_); refine with_tabW impl_Near.tab12 impl_Near.bits12 (fun HT_ HW_ => ?_)
       refine pu 0 27 ?_
       refine tk1 1 28 hHeld ?_
       refine pu 2 29 ?_
       refine pu 3 30 ?_
       refine pu 4 31 ?_
       refine pu 5 32 ?_
       refine tk1 6 33 hHeld ?_
       refine pu 7 34 ?_
       refine pu 8 35 ?_
       refine pu 9 36 ?_
       refine on1 10 37 (fun K hK => ?_)
       refine call_ 86 #[.string ((a0.extract 0 i ++ strOfNums [(c : Int)]) ++ a0.extract i a0.size), .pointer (some ⟨B1, 0, none⟩), .pointer (some ⟨B3, 0, none⟩)] (by rfl) rfl b31_ ?_
       refine (impl_Near.putc k a0 _ _ _ w _ B1 B3 HSA.out HP1.out).mono ?_
       rintro e wn ⟨rfl, hSn⟩
       refine ⟨_, rfl, ?_⟩
       have HSN := am hSn; clear hSn
       refine hK.out _ _ ((blk_cell HSN.out.b1 0).trans rfl) (fun hHeld => ?_)
       clear hK K
       refine norm_ (a' := ?_) ?_ ?_
       rotate_left
       ·show Act.put _ (some 37) _ = _
        simp only [Act.put, List.setIfInBounds_toArray, List.set_cons_zero, List.set_cons_succ, i64_w, i32_w]
        rfl
       refine done_ (done_of HT_.out (by kernel_rfl)) ?_
       clear HT_ HW_; go_wp2; clear hHeld; have HSB := am HSN.out.drew
       refine st (n := 12) (S := fun w' => w'.cell? ⟨B1, 0, none⟩ = some (.string a0)) (ds := []) ((blk_cell HSB.out.b1 0).trans rfl) (fun hHeld => ?_); refine with_tabW impl_Near.tab14 impl_Near.bits14 (fun HT_ HW_ => ?_)
       refine pu 0 42 ?_
       refine tk1 1 43 hHeld ?_
       refine pu 2 44 ?_
       refine pu 3 45 ?_
       refine pu 4 46 ?_
       refine pu 5 47 ?_
       refine tk1 6 48 hHeld ?_
       refine pu 7 49 ?_
       refine pu 8 50 ?_
       refine pu 9 51 ?_
       refine pu 10 52 ?_
       refine on1 11 53 (fun K hK => ?_)
       refine call_ 86 #[.string ((a0.extract 0 i ++ strOfNums [(c : Int)]) ++ a0.extract (i + 1) a0.size), .pointer (some ⟨B1, 0, none⟩), .pointer (some ⟨B3, 0, none⟩)] (by rfl) rfl b31_ ?_
       refine (impl_Near.putc k a0 _ _ _ w _ B1 B3 HSB.out HP2.out).mono ?_
       rintro e wn ⟨rfl, hSn⟩
       refine ⟨_, rfl, ?_⟩
       have HSM := am hSn; clear hSn
       refine hK.out _ _ ((blk_cell HSM.out.b1 0).trans rfl) (fun hHeld => ?_)
       clear hK K
       refine norm_ (a' := ?_) ?_ ?_
       rotate_left
       ·show Act.put _ (some 53) _ = _
        simp only [Act.put, List.setIfInBounds_toArray, List.set_cons_zero, List.set_cons_succ, i64_w, i32_w]
        rfl
       refine done_ (done_of HT_.out (by kernel_rfl)) ?_
       clear HT_ HW_; go_wp2
       go_roundg k1
       case measure => have := HKC.out; have := HD.out; omega
       case rel => exact ⟨c + 1, ys2, (by first | rfl | rw [hu]), ⟨by have := HD.out; have := HCC.out; omega⟩, ⟨by have := HKC.out; omega⟩, HSM, HG2⟩
      ·obtain ⟨ys1, hp1, hg1⟩ : ∃ ys1, impl_Near.put k a0 ys ((a0.extract 0 i ++ strOfNums [(c : Int)]) ++ a0.extract i a0.size) = some ys1 ∧ impl_Near.go k a0 (M.lettersAt a0 i (c + 1) ++ (M.delAt a0 i ++ (M.swpAt a0 i ++ M.candsFrom a0 (i + 1)))) ys1 = some r0 := by
        have e := HCC2.out
        rw [M.lettersAt_step a0 i c (by have := HD.out; omega), M.letAt, if_neg e1] at e
        obtain ⟨y, h1, h2⟩ := Option.bind_eq_some_iff.1 e
        refine ⟨y, ?_, h2⟩
        unfold M.insB at h1
        rw [hm] at h1
        exact h1
       have HP1 := am hp1; have HG2 := am hg1; clear hp1 hg1
       have e1b : (i < a0.size) = False := eq_false e1
       have e1c : decide (i < a0.size) = false := decide_eq_false e1
       have w14 : (9223372036854775807 < a0.size) = False := impl_Near.big (by omega)
       refine st (n := 11) (S := fun w' => w'.cell? ⟨B1, 0, none⟩ = some (.string a0)) (ds := []) ((blk_cell HSA.out.b1 0).trans rfl) (fun hHeld => ?_); refine with_tabW impl_Near.tab12 impl_Near.bits12 (fun HT_ HW_ => ?_)
       refine pu 0 27 ?_
       refine tk1 1 28 hHeld ?_
       refine pu 2 29 ?_
       refine pu 3 30 ?_
       refine pu 4 31 ?_
       refine pu 5 32 ?_
       refine tk1 6 33 hHeld ?_
       refine pu 7 34 ?_
       refine pu 8 35 ?_
       refine pu 9 36 ?_
       refine on1 10 37 (fun K hK => ?_)
       refine call_ 86 #[.string ((a0.extract 0 i ++ strOfNums [(c : Int)]) ++ a0.extract i a0.size), .pointer (some ⟨B1, 0, none⟩), .pointer (some ⟨B3, 0, none⟩)] (by rfl) rfl b31_ ?_
       refine (impl_Near.putc k a0 _ _ _ w _ B1 B3 HSA.out HP1.out).mono ?_
       rintro e wn ⟨rfl, hSn⟩
       refine ⟨_, rfl, ?_⟩
       have HSN := am hSn; clear hSn
       refine hK.out _ _ ((blk_cell HSN.out.b1 0).trans rfl) (fun hHeld => ?_)
       clear hK K
       refine norm_ (a' := ?_) ?_ ?_
       rotate_left
       ·show Act.put _ (some 37) _ = _
        simp only [Act.put, List.setIfInBounds_toArray, List.set_cons_zero, List.set_cons_succ, i64_w, i32_w]
        rfl
       refine done_ (done_of HT_.out (by kernel_rfl)) ?_
       clear HT_ HW_; go_wp2
       go_roundg k1
       case measure => have := HKC.out; have := HD.out; omega
       case rel => exact ⟨c + 1, ys1, (by first | rfl | rw [hu]), ⟨by have := HD.out; have := HCC.out; omega⟩, ⟨by have := HKC.out; omega⟩, HSN, HG2⟩
     ·have db : decide ((c : Int) ≤ 122) = false := decide_eq_false d
      have db2 : (c ≤ 122) = False := eq_false (by omega)
      have db3 : decide (c ≤ 122) = false := decide_eq_false (by omega)
      have HC3 := am (show impl_Near.go k a0 (M.delAt a0 i ++ (M.swpAt a0 i ++ M.candsFrom a0 (i + 1))) ys = some r0 by
       have e := HCC2.out
       rw [M.lettersAt_end a0 i c (by omega), List.nil_append] at e
       exact e)
      clear d; have hle := HLE.out
      have hw : wrap64 ((i : Int) + 1) = ((i + 1 : Nat) : Int) := impl_Near.w64n hle hsz
      have hw2 : wrap64 ((i : Int) + 2) = ((i + 2 : Nat) : Int) := M.w64 (by omega) (by omega)
      have z1 : (a0.extract 0 i).size = i := by rw [M.size_extract _ _ _ (by omega) HLE.out]; omega
      by_cases e1 : i < a0.size
      ·have e1b : (i < a0.size) = True := eq_true e1
       have e1c : decide (i < a0.size) = true := decide_eq_true e1
       have e1d : (i + 1 ≤ a0.size) = True := eq_true e1
       have b1 : ((i : Int) + 1 ≤ (a0.size : Int)) = True := eq_true (Int.ofNat_le.2 e1)
       have b0 : (0 ≤ (i : Int) + 1) = True := eq_true (Int.natCast_nonneg (i + 1))
       have z3 : (a0.extract (i + 1) a0.size).size = a0.size - (i + 1) := M.size_extract _ _ _ e1 (Nat.le_refl _)
       have w7 : (9223372036854775807 < i + (a0.size - (i + 1))) = False := impl_Near.big (by omega)
       obtain ⟨ys1, hp1, hg1⟩ : ∃ ys1, impl_Near.put k a0 ys (a0.extract 0 i ++ a0.extract (i + 1) a0.size) = some ys1 ∧ impl_Near.go k a0 (M.swpAt a0 i ++ M.candsFrom a0 (i + 1)) ys1 = some r0 := by
        have e := HC3.out; rw [M.delAt, if_pos e1] at e
        exact Option.bind_eq_some_iff.1 e
       have HP1 := am hp1; have HG1 := am hg1; clear hp1 hg1
       have w14 : (9223372036854775807 < a0.size) = False := impl_Near.big (by omega)
       have w15 : (9223372036854775807 < i + (a0.size - (i + 1))) = False := impl_Near.big (by omega)
       by_cases e2 : i + 1 < a0.size
       ·have e2b : (i + 1 < a0.size) = True := eq_true e2
        have e2c : decide (i + 1 < a0.size) = true := decide_eq_true e2
        have e2d : (i + 2 ≤ a0.size) = True := eq_true e2
        have b2 : ((i : Int) + 2 ≤ (a0.size : Int)) = True := eq_true (by omega)
        have b3 : (0 ≤ (i : Int) + 2) = True := eq_true (by omega)
        have b4 : ((i : Int) + 1 ≤ (i : Int) + 2) = True := eq_true (by omega)
        have b5 : ((i : Int) ≤ (i : Int) + 1) = True := eq_true (by omega)
        have b6 : (i + 1 ≤ i + 2) = True := eq_true (by omega)
        have b7 : (i ≤ i + 1) = True := eq_true (by omega)
        have z4 : (a0.extract (i + 1) (i + 2)).size = 1 := by rw [M.size_extract _ _ _ (by omega) (by omega)]; omega
        have z5 : (a0.extract i (i + 1)).size = 1 := by rw [M.size_extract _ _ _ (by omega) (by omega)]; omega
        have z6 : (a0.extract (i + 2) a0.size).size = a0.size - (i + 2) := M.size_extract _ _ _ (by omega) (Nat.le_refl _)
        have w8 : (9223372036854775807 < i + 1) = False := impl_Near.big (by omega)
        have w9 : (9223372036854775807 < i + 1 + 1) = False := impl_Near.big (by omega)
        have w10 : (9223372036854775807 < i + 1 + 1 + (a0.size - (i + 2))) = False := impl_Near.big (by omega)
        have w11 : (9223372036854775807 < i + (i + 2 - (i + 1))) = False := impl_Near.big (by omega)
        have w12 : (9223372036854775807 < i + 2) = False := impl_Near.big (by omega)
        have w13 : (9223372036854775807 < i + 2 + (a0.size - (i + 2))) = False := impl_Near.big (by omega)
        obtain ⟨ys2, hp2, hg2⟩ : ∃ ys2, impl_Near.put k a0 ys1 (((a0.extract 0 i ++ a0.extract (i + 1) (i + 2)) ++ a0.extract i (i + 1)) ++ a0.extract (i + 2) a0.size) = some ys2 ∧ impl_Near.go k a0 (M.candsFrom a0 (i + 1)) ys2 = some r0 := by
         have e := HG1.out; rw [M.swpAt, if_pos e2] at e
         exact Option.bind_eq_some_iff.1 e
        have HP2 := am hp2; have HG2 := am hg2; clear hp2 hg2
        have t2 : ((i : Int) + 2).toNat = i + 2 := by omega
        have t1 : ((i : Int) + 1).toNat = i + 1 := by omega
        go_wp2; have HSA := am HSC.out.drew
        refine st (n := 10) (S := fun w' => w'.cell? ⟨B1, 0, none⟩ = some (.string a0)) (ds := []) ((blk_cell HSA.out.b1 0).trans rfl) (fun hHeld => ?_); refine with_tabW impl_Near.tab16 impl_Near.bits16 (fun HT_ HW_ => ?_)
        refine pu 0 58 ?_
        refine tk1 1 59 hHeld ?_
        refine pu 2 60 ?_
        refine pu 3 61 ?_
        refine tk1 4 62 hHeld ?_
        refine pu 5 63 ?_
        refine pu 6 64 ?_
        refine pu 7 65 ?_
        refine pu 8 66 ?_
        refine on1 9 67 (fun K hK => ?_)
        refine call_ 86 #[.string (a0.extract 0 i ++ a0.extract (i + 1) a0.size), .pointer (some ⟨B1, 0, none⟩), .pointer (some ⟨B3, 0, none⟩)] (by rfl) rfl b31_ ?_
        refine (impl_Near.putc k a0 _ _ _ w _ B1 B3 HSA.out HP1.out).mono ?_
        rintro e wn ⟨rfl, hSn⟩
        refine ⟨_, rfl, ?_⟩
        have HSN := am hSn; clear hSn
        refine hK.out _ _ ((blk_cell HSN.out.b1 0).trans rfl) (fun hHeld => ?_)
        clear hK K
        refine norm_ (a' := ?_) ?_ ?_
        rotate_left
        ·show Act.put _ (some 67) _ = _
         simp only [Act.put, List.setIfInBounds_toArray, List.set_cons_zero, List.set_cons_succ, i64_w, i32_w]
         rfl
        refine done_ (done_of HT_.out (by kernel_rfl)) ?_
        clear HT_ HW_; go_wp2; clear hHeld; have HSB := am HSN.out.drew
        refine st (n := 23) (S := fun w' => w'.cell? ⟨B1, 0, none⟩ = some (.string a0)) (ds := []) ((blk_cell HSB.out.b1 0).trans rfl) (fun hHeld => ?_); refine with_tabW impl_Near.tab18 impl_Near.bits18 (fun HT_ HW_ => ?_)
        refine pu 0 73 ?_
        refine tk1 1 74 hHeld ?_
        refine pu 2 75 ?_
        refine pu 3 76 ?_
        refine tk1 4 77 hHeld ?_
        refine pu 5 78 ?_
        refine pu 6 79 ?_
        refine pu 7 80 ?_
        refine pu 8 81 ?_
        refine pu 9 82 ?_
        refine pu 10 83 ?_
        refine tk1 11 84 hHeld ?_
        refine pu 12 85 ?_
        refine pu 13 86 ?_
        refine pu 14 87 ?_
        refine pu 15 88 ?_
        refine pu 16 89 ?_
        refine tk1 17 90 hHeld ?_
        refine pu 18 91 ?_
        refine pu 19 92 ?_
        refine pu 20 93 ?_
        refine pu 21 94 ?_
        refine on1 22 95 (fun K hK => ?_)
        refine call_ 86 #[.string (((a0.extract 0 i ++ a0.extract (i + 1) (i + 2)) ++ a0.extract i (i + 1)) ++ a0.extract (i + 2) a0.size), .pointer (some ⟨B1, 0, none⟩), .pointer (some ⟨B3, 0, none⟩)] (by rfl) rfl b31_ ?_
        refine (impl_Near.putc k a0 _ _ _ w _ B1 B3 HSB.out HP2.out).mono ?_
        rintro e wn ⟨rfl, hSn⟩
        refine ⟨_, rfl, ?_⟩
        have HSM := am hSn; clear hSn
        refine hK.out _ _ ((blk_cell HSM.out.b1 0).trans rfl) (fun hHeld => ?_)
        clear hK K
        refine norm_ (a' := ?_) ?_ ?_
        rotate_left
        ·show Act.put _ (some 95) _ = _
         simp only [Act.put, List.setIfInBounds_toArray, List.set_cons_zero, List.set_cons_succ, i64_w, i32_w]
         rfl
        refine done_ (done_of HT_.out (by kernel_rfl)) ?_
        clear HT_ HW_; go_wp2
        go_roundg k0
        case measure => have := HK.out; have := HLE.out; omega
        case rel => exact ⟨i + 1, ys2, (by first | rfl | rw [hw] | simp [hw]), ⟨by have := HLE.out; omega⟩, ⟨by have := HK.out; omega⟩, HSM, HG2⟩
       ·have e2b : (i + 1 < a0.size) = False := eq_false e2
        have e2c : decide (i + 1 < a0.size) = false := decide_eq_false e2
        have HG2 := am (show impl_Near.go k a0 (M.candsFrom a0 (i + 1)) ys1 = some r0 by
         have e := HG1.out; rw [M.swpAt, if_neg e2] at e
         exact e)
        go_wp2; have HSA := am HSC.out.drew
        refine st (n := 10) (S := fun w' => w'.cell? ⟨B1, 0, none⟩ = some (.string a0)) (ds := []) ((blk_cell HSA.out.b1 0).trans rfl) (fun hHeld => ?_); refine with_tabW impl_Near.tab16 impl_Near.bits16 (fun HT_ HW_ => ?_)
        refine pu 0 58 ?_
        refine tk1 1 59 hHeld ?_
        refine pu 2 60 ?_
        refine pu 3 61 ?_
        refine tk1 4 62 hHeld ?_
        refine pu 5 63 ?_
        refine pu 6 64 ?_
        refine pu 7 65 ?_
        refine pu 8 66 ?_
        refine on1 9 67 (fun K hK => ?_)
        refine call_ 86 #[.string (a0.extract 0 i ++ a0.extract (i + 1) a0.size), .pointer (some ⟨B1, 0, none⟩), .pointer (some ⟨B3, 0, none⟩)] (by rfl) rfl b31_ ?_
        refine (impl_Near.putc k a0 _ _ _ w _ B1 B3 HSA.out HP1.out).mono ?_
        rintro e wn ⟨rfl, hSn⟩
        refine ⟨_, rfl, ?_⟩
        have HSN := am hSn; clear hSn
        refine hK.out _ _ ((blk_cell HSN.out.b1 0).trans rfl) (fun hHeld => ?_)
        clear hK K
        refine norm_ (a' := ?_) ?_ ?_
        rotate_left
        ·show Act.put _ (some 67) _ = _
         simp only [Act.put, List.setIfInBounds_toArray, List.set_cons_zero, List.set_cons_succ, i64_w, i32_w]
         rfl
        refine done_ (done_of HT_.out (by kernel_rfl)) ?_
        clear HT_ HW_; go_wp2
        go_roundg k0
        case measure => have := HK.out; have := HLE.out; omega
        case rel => exact ⟨i + 1, ys1, (by first | rfl | rw [hw] | simp [hw]), ⟨by have := HLE.out; omega⟩, ⟨by have := HK.out; omega⟩, HSN, HG2⟩
      ·have e1b : (i < a0.size) = False := eq_false e1
       have e1c : decide (i < a0.size) = false := decide_eq_false e1
       have e2b : (i + 1 < a0.size) = False := eq_false (by omega)
       have e2c : decide (i + 1 < a0.size) = false := decide_eq_false (by omega)
       have HG2 := am (show impl_Near.go k a0 (M.candsFrom a0 (i + 1)) ys = some r0 by
        have e := HC3.out
        rw [M.delAt, if_neg e1, M.swpAt, if_neg (by omega)] at e
        exact e)
       go_wp2
       go_roundg k0
       case measure => have := HK.out; have := HLE.out; omega
       case rel => exact ⟨i + 1, ys, (by first | rfl | rw [hw] | simp [hw]), ⟨by have := HLE.out; omega⟩, ⟨by have := HK.out; omega⟩, HSC, HG2⟩
   ·have cb : decide ((i : Int) ≤ (a0.size : Int)) = false := decide_eq_false c
    have cb2 : (i ≤ a0.size) = False := eq_false (by omega)
    have cb3 : decide (i ≤ a0.size) = false := decide_eq_false (by omega)
    have HE := am (show xs = r0 by
     have e := HC.out
     rw [M.candsFrom_end a0 i (by omega)] at e
     exact Option.some.inj e)
    obtain ⟨v3, hb3, hr3⟩ := HS.out.row; obtain ⟨A3, c3, rfl⟩ := Kd.R_slice hr3
    have hcell3 : wr.cell? ⟨B3, 0, none⟩ = some (.slice A3 xs.length c3) := (blk_cell hb3 0).trans rfl
    have HR3 := am hr3; clear hb3 hr3 c
    go_wp2_with (go_at_call 60; refine (impl_sorted.calls A3 c3 xs r _ (Kd.R_reads' HR3.out).2.2 (Kd.R_reads' HR3.out).2.1 (by rw [HE.out]; exact HF.out)).mono ?_; rintro e w' ⟨v0, rfl, hR, hB⟩; have HRR := am hR; have HBB := am hB; clear hR hB)
    go_ret
    exact ⟨v0, rfl, Kd.R_lower HRR.out (below_size HS.out.below), below_step HS.out.below HBB.out⟩

end Go.Proofs.Ytedfcehhgbeibaa.QFnNear

import Derived.Test.YtpljfjbhlboffaaProg
import Derived.Laws.Cover1
import Derived.Below
import Derived.Deep.Draws
import Derived.Deep.AppendLies
import Derived.Maps.AppendAt
import Derived.OwnWalk
import Derived.Laws.BytesArg
import Derived.Laws.MakeOwn
import Derived.Laws.OwnMore
import Derived.Deep.OwnRows
import Derived.Tactics
import Derived.Lib.ConvBytes
import Derived.Laws.Slices
import Derived.WalkKit
import Derived.KernelRfl
import Derived.RowKit3
import Derived.Deep.LoopGhost
import Derived.Deep.QuietTactic
import Derived.BigQuiet
import Derived.WideLaws
import Derived.Deep.DeepCutAuto
import Derived.Deep.CutBlock
import Derived.Deep.RegionHeld3
import Derived.Laws.Rows
import Derived.Lib.AppendStr
import Derived.ArgAppend
import Derived.Laws.IdiomCopy
import Derived.OrdersHeld
import Derived.Laws.BitsLemmas
import Derived.RowKit
import Derived.Test.YtpljfjbhlboffaaVMLayJoin
import Derived.Test.YtpljfjbhlboffaaVMLaySortM
import Derived.Maps.OwnSet
import Derived.Maps.RangeWalk
import Derived.Lib.OwnBridge
import Derived.Sort.OwnSorted
import Derived.Carry
import Derived.Test.YtpljfjbhlboffaaVWords
import Derived.Test.YtpljfjbhlboffaaVLast
import Derived.Test.YtpljfjbhlboffaaVTab
import Derived.Test.YtpljfjbhlboffaaVApart
import Derived.Test.YtpljfjbhlboffaaVFoot
import Derived.Test.YtpljfjbhlboffaaVKept
import Derived.Test.YtpljfjbhlboffaaVShare
import Derived.Test.YtpljfjbhlboffaaVN
import Derived.Test.YtpljfjbhlboffaaVFootNe
import Derived.Laws.StructEq
import Derived.Test.YtpljfjbhlboffaaVRepsOne
import Derived.Test.YtpljfjbhlboffaaVGuard
import Derived.Test.YtpljfjbhlboffaaVNEv
import Derived.Test.YtpljfjbhlboffaaVMore
import Derived.Test.YtpljfjbhlboffaaVMSh2
namespace Go.Proofs.Ytpljfjbhlboffaa.QFnExactMachineOf
open Go.RowKit Go.Proofs.YtpljfjbhlboffaaW.PrintWords Go.Proofs.YtpljfjbhlboffaaW.PrintLast Go.Proofs.YtpljfjbhlboffaaW.PrintMore Go.Proofs.Ytpljfjbhlboffaa.Sh
attribute [local go_sem] max2_int min2_int max_two min_two max_three min_three max_four min_four
set_option linter.unusedVariables false
set_option linter.unusedSimpArgs false
set_option maxHeartbeats 8000000
set_option maxRecDepth 100000
-- shrunk



def errW : Option Int → Value
 | none => .nilIface
 | some c => .iface 0 (.int .i64 c)
theorem errW_none : errW none = .nilIface := rfl
theorem errW_some (c : Int) : errW (some c) = .iface 0 (.int .i64 c) := rfl

theorem info5 : (Try.prog.info? 5).map (fun i => (i.zero, i.size, i.bytes)) = some (some (.int .u8 0), 1, 1) := by kernel_rfl
theorem info9 : (Try.prog.info? 9).map (fun i => (i.zero, i.size, i.bytes)) = some (some (.string ⟨#[]⟩), 1, 16) := by kernel_rfl
theorem info22 : (Try.prog.info? 22).map (fun i => (i.zero, i.size, i.bytes)) = some (some (.slice none 0 0), 1, 24) := by kernel_rfl
theorem info45 : (Try.prog.info? 45).map (fun i => (i.zero, i.size, i.bytes)) = some (some (.agg #[(.bool false), (.slice none 0 0)]), 2, 32) := by kernel_rfl
theorem info49 : (Try.prog.info? 49).map (fun i => (i.zero, i.size, i.bytes)) = some (some (.agg #[(.int .i64 0), (.int .i64 0)]), 2, 16) := by kernel_rfl
-- the values' own types
def rd_L1 (xs : List (List ByteArray)) (i : Int) : (List ByteArray) := xs.getD i.toNat ([] : List ByteArray)
theorem at_L1 {w : World} {A : Option Addr} {n : Nat} {xs : List (List ByteArray)} (h : Kd.C (Kd.slice 9 Kd.string) w A n xs) (i : Int) (h0 : 0 ≤ i) (h1 : i < n) : ∃ ad A0 c0, A = some ad ∧ w.cell? (ad.add i.toNat) = some (.slice A0 (rd_L1 xs i).length c0) ∧ (rd_L1 xs i).length ≤ c0 ∧ Kd.string.C w A0 (rd_L1 xs i).length (rd_L1 xs i) := by
 obtain ⟨ad, c, e, _, hK, hc0⟩ := Kd.C_get h ([] : List ByteArray) i h0 h1
 have hc : ∀ j u, c[j]? = some u → w.cell? (ad.add (i.toNat * 1 + j)) = some u := hc0
 obtain ⟨A0, c0, rfl, l0, g0⟩ := hK
 exact ⟨ad, A0, c0, e, by have hq := hc 0 _ rfl; rwa [Nat.mul_one, Nat.add_zero] at hq, l0, g0⟩

/-! #### struct type 49 -/
structure S49 where
 f0 : Int
 f1 : Int
def z49 : S49 := ⟨(0 : Int), (0 : Int)⟩
def k49 : Kd S49 := Kd.iso (Kd.pair (Kd.int .i64) (Kd.int .i64)) (fun x : S49 => (x.f0, x.f1))
theorem k49_heap : Kd.Heap k49 := Kd.heap_iso _ (Kd.heap_pair (Kd.heap_int .i64) (Kd.heap_int .i64))
theorem k49_open {w : World} {x : S49} {cs : List Value} (h : k49.K w x cs) : cs = [.int .i64 x.f0, .int .i64 x.f1] := by
 obtain ⟨_, _, rfl, rfl, rfl⟩ := h
 exact rfl
theorem k49_openM {w : World} {base : Nat} {ok : Nat → Prop} {x : S49} {cs : List Value} (h : k49.M w base ok x cs) : cs = [.int .i64 x.f0, .int .i64 x.f1] := by
 obtain ⟨_, _, rfl, rfl, rfl⟩ := h
 exact rfl
theorem k49_mk (w : World) (x : S49)  : k49.K w x [.int .i64 x.f0, .int .i64 x.f1] := ⟨[.int .i64 x.f0], [.int .i64 x.f1], rfl, rfl, rfl⟩
theorem k49_mkM (w : World) (base : Nat) (ok : Nat → Prop) (x : S49)  : k49.M w base ok x [.int .i64 x.f0, .int .i64 x.f1] := ⟨[.int .i64 x.f0], [.int .i64 x.f1], rfl, rfl, rfl⟩
theorem k49_mkF (W : World) (ok : Nat → Prop) (x : S49) : Kd.FK k49 W ok x [.int .i64 x.f0, .int .i64 x.f1] := fun W2 _ => k49_mk W2 x
def rd_T49 (xs : List S49) (i : Int) : S49 := xs.getD i.toNat z49
theorem at_T49 {w : World} {A : Option Addr} {n : Nat} {xs : List S49} (h : Kd.C k49 w A n xs) (i : Int) (h0 : 0 ≤ i) (h1 : i < n) : ∃ ad , A = some ad ∧ w.cell? (ad.add (i.toNat * 2)) = some (.int .i64 (rd_T49 xs i).f0) ∧ w.cell? ⟨(ad.add (i.toNat * 2)).block, (ad.add (i.toNat * 2)).off + 1, none⟩ = some (.int .i64 (rd_T49 xs i).f1) := by
 obtain ⟨ad, c, e, _, hK, hc0⟩ := Kd.C_get h z49 i h0 h1
 have hc : ∀ j u, c[j]? = some u → w.cell? (ad.add (i.toNat * 2 + j)) = some u := hc0
 obtain rfl := k49_open hK
 exact ⟨ad, e, hc 0 _ rfl, by rw [← add_field _ _ 1 (by omega)]; exact hc 1 _ rfl⟩

def rd_L5 (xs : List (List S49)) (i : Int) : (List S49) := xs.getD i.toNat ([] : List S49)
theorem at_L5 {w : World} {A : Option Addr} {n : Nat} {xs : List (List S49)} (h : Kd.C (Kd.slice 49 k49) w A n xs) (i : Int) (h0 : 0 ≤ i) (h1 : i < n) : ∃ ad A0 c0, A = some ad ∧ w.cell? (ad.add i.toNat) = some (.slice A0 (rd_L5 xs i).length c0) ∧ (rd_L5 xs i).length ≤ c0 ∧ k49.C w A0 (rd_L5 xs i).length (rd_L5 xs i) := by
 obtain ⟨ad, c, e, _, hK, hc0⟩ := Kd.C_get h ([] : List S49) i h0 h1
 have hc : ∀ j u, c[j]? = some u → w.cell? (ad.add (i.toNat * 1 + j)) = some u := hc0
 obtain ⟨A0, c0, rfl, l0, g0⟩ := hK
 exact ⟨ad, A0, c0, e, by have hq := hc 0 _ rfl; rwa [Nat.mul_one, Nat.add_zero] at hq, l0, g0⟩

/-! #### struct type 45 -/
structure S45 where
 f0 : Bool
 f1 : (List S49)
def z45 : S45 := ⟨false, ([] : List S49)⟩
def k45 : Kd S45 := Kd.iso (Kd.pair Kd.bool (Kd.slice 49 k49)) (fun x : S45 => (x.f0, x.f1))
theorem k45_heap : Kd.Heap k45 := Kd.heap_iso _ (Kd.heap_pair Kd.heap_bool (Kd.heap_slice 49 k49_heap))
theorem k45_open {w : World} {x : S45} {cs : List Value} (h : k45.K w x cs) : ∃ A1 c1, cs = [.bool x.f0, .slice A1 x.f1.length c1] ∧ x.f1.length ≤ c1 ∧ k49.C w A1 x.f1.length x.f1 := by
 obtain ⟨_, _, rfl, rfl, ⟨A1, c1, rfl, l1, g1⟩⟩ := h
 exact ⟨A1, c1, rfl, l1, g1⟩
theorem k45_openM {w : World} {base : Nat} {ok : Nat → Prop} {x : S45} {cs : List Value} (h : k45.M w base ok x cs) : ∃ v1, cs = [.bool x.f0, v1] ∧ k49.R 49 w base ok v1 x.f1 := by
 obtain ⟨_, _, rfl, rfl, ⟨v1, rfl, g1⟩⟩ := h
 exact ⟨v1, rfl, g1⟩
theorem k45_mk (w : World) (x : S45) {A1 : Option Addr} {c1 : Nat} (l1 : x.f1.length ≤ c1) (g1 : k49.C w A1 x.f1.length x.f1) : k45.K w x [.bool x.f0, .slice A1 x.f1.length c1] := ⟨[.bool x.f0], [.slice A1 x.f1.length c1], rfl, rfl, ⟨A1, c1, rfl, l1, g1⟩⟩
theorem k45_mkM (w : World) (base : Nat) (ok : Nat → Prop) (x : S45) {v1 : Value} (g1 : k49.R 49 w base ok v1 x.f1) : k45.M w base ok x [.bool x.f0, v1] := ⟨[.bool x.f0], [v1], rfl, rfl, ⟨v1, rfl, g1⟩⟩
theorem k45_openF {W : World} {ok : Nat → Prop} {x : S45} {cs : List Value} (h : Kd.FK k45 W ok x cs) : ∃ A1 c1, cs = [.bool x.f0, .slice A1 x.f1.length c1] ∧ x.f1.length ≤ c1 ∧ Kd.F k49 W ok A1 x.f1.length x.f1 := by
 obtain ⟨A1, c1, rfl, l1, _⟩ := k45_open (Kd.FK_now h)
 exact ⟨A1, c1, rfl, l1, (fun W' hW => by obtain ⟨A1_, c1_, he, l1_, g1_⟩ := k45_open (h W' hW); injection (Option.some.inj (show some (Value.slice A1 x.f1.length c1) = some (Value.slice A1_ x.f1.length c1_) from congrArg (fun l => l[1]?) he)) with ha_ _ _; rw [ha_]; exact g1_)⟩
theorem k45_mkF (W : World) (ok : Nat → Prop) (x : S45) {A1 : Option Addr} {c1 : Nat} (l1 : x.f1.length ≤ c1) (g1 : Kd.F k49 W ok A1 x.f1.length x.f1) : Kd.FK k45 W ok x [.bool x.f0, .slice A1 x.f1.length c1] := fun W2 hW => k45_mk W2 x l1 (g1 W2 hW)
def rd_T45 (xs : List S45) (i : Int) : S45 := xs.getD i.toNat z45
theorem at_T45 {w : World} {A : Option Addr} {n : Nat} {xs : List S45} (h : Kd.C k45 w A n xs) (i : Int) (h0 : 0 ≤ i) (h1 : i < n) : ∃ ad A1 c1, A = some ad ∧ w.cell? (ad.add (i.toNat * 2)) = some (.bool (rd_T45 xs i).f0) ∧ w.cell? ⟨(ad.add (i.toNat * 2)).block, (ad.add (i.toNat * 2)).off + 1, none⟩ = some (.slice A1 (rd_T45 xs i).f1.length c1) ∧ (rd_T45 xs i).f1.length ≤ c1 ∧ k49.C w A1 (rd_T45 xs i).f1.length (rd_T45 xs i).f1 := by
 obtain ⟨ad, c, e, _, hK, hc0⟩ := Kd.C_get h z45 i h0 h1
 have hc : ∀ j u, c[j]? = some u → w.cell? (ad.add (i.toNat * 2 + j)) = some u := hc0
 obtain ⟨A1, c1, rfl, l1, g1⟩ := k45_open hK
 exact ⟨ad, A1, c1, e, hc 0 _ rfl, by rw [← add_field _ _ 1 (by omega)]; exact hc 1 _ rfl, l1, g1⟩

theorem b0_ {p : Prop} (h : p := by (with_reducible repeat (first | apply Kd.N_alloc | apply Kd.N_drewN | apply Kd.N_drew)); exact HO_3.out) : p := h
theorem b1_ {p : Prop} (h : p := by repeat (first | (with_reducible exact HR194_0.out) | (with_reducible refine Kd.C_alloc ?_ _) | (with_reducible refine Kd.C_drewN ?_ _) | (with_reducible refine Kd.C_drew ?_) | exact HR194_0.out)) : p := h
theorem b2_ {p : Prop} (h : p := by (try simp only [List.map_toArray, List.map_cons, List.map_nil]); first | done | rfl) : p := h
theorem b3_ {p : Prop} (h : p := by have hq_ := Kd.F_in (Kd.V_at HO_0.out).2.2 rfl (by have a_ := of_eq_true p145; have b_ := of_eq_true q145; omega) (by decide); simp only [add_block]; first | exact hq_.2 | exact hq_.2.1 | exact hq_.2.2 | exact hq_.2.2.1 | exact hq_.2.2.2 | exact hq_.1.2 | exact hq_.1.2.1 | exact hq_.1.2.2 | grind) : p := h
theorem b4_ {p : Prop} (h : p := by repeat (first | (with_reducible first | exact HK.out | apply Kept.alloc | apply Kept.drewN | apply Kept.drew) | exact HK.out)) : p := h
theorem b5_ {p : Prop} (h : p := by (with_reducible repeat (first | apply Kd.S_alloc | apply Kd.S_drewN | apply Kd.S_drew)); exact HO_5.out) : p := h
theorem b6_ {p : Prop} (h : p := by rw [if_neg (show ¬ (false = true) by decide)] at H; exact H) : p := h
theorem b7_ {p : Prop} (h : p := by (with_reducible repeat (first | apply Kd.N_alloc | apply Kd.N_drewN | apply Kd.N_drew)); exact HO_4.out) : p := h
theorem b8_ {p : Prop} (h : p := by repeat (first | (with_reducible exact HR145_0.out) | (with_reducible refine Kd.C_alloc ?_ _) | (with_reducible refine Kd.C_drewN ?_ _) | (with_reducible refine Kd.C_drew ?_) | exact HR145_0.out)) : p := h
theorem b9_ {p : Prop} (h : p := by repeat (first | (with_reducible exact HR166_0.out) | (with_reducible refine Kd.C_alloc ?_ _) | (with_reducible refine Kd.C_drewN ?_ _) | (with_reducible refine Kd.C_drew ?_) | exact HR166_0.out)) : p := h
theorem b10_ {p : Prop} (h : p := by repeat (first | (with_reducible exact HR187_0.out) | (with_reducible refine Kd.C_alloc ?_ _) | (with_reducible refine Kd.C_drewN ?_ _) | (with_reducible refine Kd.C_drew ?_) | exact HR187_0.out)) : p := h
theorem b11_ {p : Prop} (h : p := by have := HK1.out; omega) : p := h
theorem b12_ {p : Prop} (h : p := by have h_ : (x5_1 : Int) < ((x0_1.length : Int) : Int) := of_decide_eq_true ad; first | exact h_ | (have e_ := (Kd.R_reads' HO_0.out).1; omega) | simpa using h_) : p := h
theorem b13_ {p : Prop} (h : p := by (with_reducible repeat (first | apply Kd.N_alloc | apply Kd.N_drewN | apply Kd.N_drew)); exact HO148.out) : p := h
theorem b14_ {p : Prop} (h : p := by repeat (first | (with_reducible exact HR188_0.out) | (with_reducible refine Kd.C_alloc ?_ _) | (with_reducible refine Kd.C_drewN ?_ _) | (with_reducible refine Kd.C_drew ?_) | exact HR188_0.out)) : p := h
theorem b15_ {p : Prop} (h : p := by first | (rw [hy199]; with_reducible exact H) | (have H2_ := bm H; rw [hy199]; with_reducible exact H2_) | (with_reducible exact bm H) | with_reducible exact H | (rw [hy199]; exact H) | exact H) : p := h
theorem b16_ {p : Prop} (h : p := by first | (rw [hy202]; with_reducible exact H) | (have H2_ := bm H; rw [hy202]; with_reducible exact H2_) | (with_reducible exact bm H) | with_reducible exact H | (rw [hy202]; exact H) | exact H) : p := h
theorem b17_ {p : Prop} (h : p := by rw [if_pos rfl] at H; exact H) : p := h
theorem b18_ {p : Prop} (h : p := by (with_reducible repeat (first | apply Kd.N_alloc | apply Kd.N_drewN | apply Kd.N_drew)); exact HO144.out) : p := h
theorem b19_ {p : Prop} (h : p := by rw [hg]; exact (below_size bel)) : p := h
theorem b20_ {p : Prop} (h : p := by (with_reducible repeat (first | apply Kd.N_alloc | apply Kd.N_drewN | apply Kd.N_drew)); exact Kd.N_mono HO_3.out (fun _ hk => hk.1)) : p := h
theorem b21_ {p : Prop} (h : p := by rw [hg]; exact Nat.ne_of_lt (blk_lt (g := gb254) (o := .cells #[.bool a0_0, .slice A0_1 l0_1.length c0_1] 45 (0, 0)) (bq BK254.out))) : p := h
theorem b22_ {p : Prop} (h : p := by rw [hg]; exact Nat.ne_of_gt (blk_lt (g := gb254) (o := .cells #[.bool a0_0, .slice A0_1 l0_1.length c0_1] 45 (0, 0)) (bq BK254.out))) : p := h
theorem b23_ {p : Prop} (h : p := by first | exact q194 | exact of_decide_eq_true ad | (have e_ := (Kd.N_reads' HO_4.out).1; omega)) : p := h
theorem b24_ {p : Prop} (h : p := by have : (0 : Int) < ((rdOf ByteArray.empty l0 x9_1).size : Int) := of_decide_eq_true ad; omega) : p := h
theorem b25_ {p : Prop} (h : p := by first | simpa using c3 | (simp at c3 ⊢; omega)) : p := h
theorem b26_ {p : Prop} (h : p := by rw [hg]; exact Nat.ne_of_lt (blk_lt (g := gb249) (o := .cells #[.int .i64 a0_0, .int .i64 a0_1] 49 (0, 0)) (bq BK249.out))) : p := h
theorem b27_ {p : Prop} (h : p := by rw [hg]; exact Nat.ne_of_gt (blk_lt (g := gb249) (o := .cells #[.int .i64 a0_0, .int .i64 a0_1] 49 (0, 0)) (bq BK249.out))) : p := h
theorem b28_ {p : Prop} (h : p := by (with_reducible repeat (first | apply Kd.N_alloc | apply Kd.N_drewN | apply Kd.N_drew)); exact Kd.N_mono HO_4.out (fun _ hk => ⟨⟨hk.1.1, ⟨hk.2, hk.1.2.2⟩⟩, hk.1.2.1⟩)) : p := h
theorem b29_ {p : Prop} (h : p := by (with_reducible repeat (first | apply Kd.N_alloc | apply Kd.N_drewN | apply Kd.N_drew)); exact Kd.N_mono HO_4.out (fun _ hk => ⟨hk.1.1, ⟨hk.1.2.1, hk.1.2.2⟩⟩)) : p := h
theorem b30_ {p : Prop} (h : p := by (with_reducible repeat (first | apply Kd.S_alloc | apply Kd.S_drewN | apply Kd.S_drew)); exact Kd.S_mono HO_5.out (fun k_ hk => ⟨hk.2, fun e_ => hk.1 e_⟩)) : p := h
theorem b31_ {p : Prop} (h : p := by (with_reducible repeat (first | apply Kd.N_alloc | apply Kd.N_drewN | apply Kd.N_drew)); exact Kd.N_mono HO148.out (fun _ hk => ⟨hk.1.1, ⟨hk.2, hk.1.2⟩⟩)) : p := h
theorem b32_ {p : Prop} (h : p := by have a_ := of_eq_true p145; have b_ := of_eq_true q145; omega) : p := h
theorem b33_ {p : Prop} (h : p := by (with_reducible repeat (first | apply Kd.N_alloc | apply Kd.N_drewN | apply Kd.N_drew)); exact Kd.N_mono HO_3.out (fun _ hk => ⟨hk.1.1, ⟨hk.2, hk.1.2⟩⟩)) : p := h
theorem b34_ {p : Prop} (h : p := by (with_reducible repeat (first | apply Kd.N_alloc | apply Kd.N_drewN | apply Kd.N_drew)); exact Kd.N_mono HO_4.out (fun _ hk => ⟨⟨hk.2.1, hk.2.2⟩, hk.1⟩)) : p := h
theorem b35_ {p : Prop} (h : p := by simp only [putAll, Act.put, List.setIfInBounds_toArray, List.set_cons_zero, List.set_cons_succ]) : p := h
theorem b36_ {p : Prop} (h : p := by (with_reducible repeat (first | apply Kd.S_alloc | apply Kd.S_drewN | apply Kd.S_drew)); exact Kd.S_mono HO_5.out (fun _ hk => ⟨hk.2, hk.1⟩)) : p := h
theorem b37_ {p : Prop} (h : p := by have := HK1.out; have := HK2.out; omega) : p := h
theorem b38_ {p : Prop} (h : p := by (with_reducible repeat (first | apply Kd.S_alloc | apply Kd.S_drewN | apply Kd.S_drew)); exact Kd.S_mono HO204.out (fun _ hk => trivial)) : p := h
theorem b39_ {p : Prop} (h : p := by (with_reducible repeat (first | apply Kd.N_alloc | apply Kd.N_drewN | apply Kd.N_drew)); exact Kd.N_mono HO_4.out (fun _ hk => hk.2)) : p := h
theorem b40_ {p : Prop} (h : p := by rw [hg]; exact (below_size (bel1 GE249.out))) : p := h
theorem b41_ {p : Prop} (h : p := by rw [hg]; exact (below_size (bel1 GE254.out))) : p := h
theorem b42_ {p : Prop} (h : p := by simp [execOp, resolve, Deferred.ofValue, invoke, Act.eval]) : p := h
theorem b43_ {p : Prop} (h : p := by have := HK1.out; have := HK2.out; have := HK3.out; omega) : p := h
-- shrunk

/-! ### laws_szStringS: function 6 -/
def laws_szStringS.l0 : Nat → List ByteArray → Int → Int → Option (Int)
 | 0, _, _, _ => none
 | k + 1, x0, x1, x5 => if x5 < (x0.length : Int) then (if 0 ≤ x5 then (if (wrap64 (x1 - ((rdOf ByteArray.empty x0 x5).size : Int))) < 0 then (some (-1)) else (laws_szStringS.l0 k x0 (wrap64 (x1 - ((rdOf ByteArray.empty x0 x5).size : Int))) (wrap64 (x5 + 1)))) else (none)) else (some x1)
def laws_szStringS.f (k : Nat) (l0 : List ByteArray) (a1 : Int) : Option (Int) := if (wrap64 (a1 - (l0.length : Int))) < 0 then (some (-1)) else (laws_szStringS.l0 k l0 (wrap64 (a1 - (l0.length : Int))) 0)
theorem laws_szStringS.calls (k : Nat) (A0 : Option Addr) (c0 : Nat) (l0 : List ByteArray) (a1 : Int) (r : Int) (w : World) (hr0 : Kd.C Kd.string w A0 l0.length l0) (hc0 : l0.length ≤ c0) (h : laws_szStringS.f k l0 a1 = some r) :
  Calls Try.prog 6 #[.slice A0 l0.length c0, .int .i64 a1] w fun e w' => e = .returned (.int .i64 r) ∧ Drawn0 w w' := by
 have HR0 := am hr0; have HC0 := am hc0; clear hr0 hc0
 have H : (if (wrap64 (a1 - (l0.length : Int))) < 0 then (some (-1)) else (laws_szStringS.l0 k l0 (wrap64 (a1 - (l0.length : Int))) 0)) = some r := h
 clear h
 by_cases c3 : (wrap64 (a1 - (l0.length : Int))) < 0
 ·rw [if_pos c3] at H; have c3b0 := decide_eq_true c3; clear c3; obtain rfl := Option.some.inj H; go_enter Try.func6, Try.ntmps6; go_wp2; go_ret
  exact ⟨sq, dr⟩
 rw [if_neg c3] at H; have c3b0 := decide_eq_false c3; clear c3
 have H' := am H
 clear H; go_enter Try.func6, Try.ntmps6; go_wp2
 go_loopg [1, 5] k (fun kq v1 v5 w' => ∃ (x1_1 : Int) (x5_1 : Int), v1 = .int .i64 x1_1 ∧ v5 = .int .i64 x5_1 ∧ Aside0 (laws_szStringS.l0 kq l0 x1_1 x5_1 = some r) ∧ Aside0 (kq ≤ k) ∧ Drawn0 w w')
 case atStart => exact ⟨(wrap64 (a1 - (l0.length : Int))), (0), sq, sq, H', ⟨Nat.le_refl _⟩, dr⟩
 case round =>
  clear H'; (try clear p2); (try clear c3); (try clear c3b0); obtain ⟨x1_1, x5_1, rfl, rfl, HA, HK1, ⟨m1, rfl⟩⟩ := hrel
  cases gk with
  | zero => exact absurd HA.out (by simp [laws_szStringS.l0])
  | succ k1 =>
   have H := HA.out; clear HA; simp only [laws_szStringS.l0] at H
   by_cases c4 : x5_1 < (l0.length : Int)
   ·rw [if_pos c4] at H; have c4b0 := decide_eq_true c4; clear c4
    replace H := it H; obtain ⟨c5b0, H⟩ := H
    by_cases c6 : (wrap64 (x1_1 - ((rdOf ByteArray.empty l0 x5_1).size : Int))) < 0
    ·rw [if_pos c6] at H; have c6b0 := decide_eq_true c6; clear c6; obtain rfl := Option.some.inj H
     have p101 : 0 ≤ (x5_1 : Int) := of_decide_eq_true ad
     have q101 : x5_1 < (l0.length : Int) := of_decide_eq_true ad
     obtain ⟨ad101, e101, hx101_0⟩ := Kd.at_string HR0.out x5_1 p101 q101; cases e101
     replace p101 := eq_true p101; replace q101 := eq_true q101; go_wp2; go_ret
     exact ⟨sq, dr⟩
    rw [if_neg c6] at H; have c6b0 := decide_eq_false c6; clear c6
    have H' := am H
    clear H
    have p101 : 0 ≤ (x5_1 : Int) := of_decide_eq_true ad
    have q101 : x5_1 < (l0.length : Int) := of_decide_eq_true ad
    obtain ⟨ad101, e101, hx101_0⟩ := Kd.at_string HR0.out x5_1 p101 q101; cases e101
    replace p101 := eq_true p101; replace q101 := eq_true q101; go_wp2
    go_roundg k1
    case measure => have := HK1.out; omega
    case rel => exact ⟨(wrap64 (x1_1 - ((rdOf ByteArray.empty l0 x5_1).size : Int))), (wrap64 (x5_1 + 1)), sq, sq, H', ⟨b11_⟩, dr⟩
   rw [if_neg c4] at H; have c4b0 := decide_eq_false c4; clear c4; obtain rfl := Option.some.inj H; go_wp2; go_ret
   exact ⟨sq, dr⟩

/-! ### spec_l1Letters: function 63 -/
def spec_l1Letters.l0 : Nat → ByteArray → Int → Int → Option (Bool)
 | 0, _, _, _ => none
 | k + 1, x0, x1, x5 => if x5 < (x0.size : Int) then (if 0 ≤ x5 then (if (bt x0 x5) < 97 then (some false) else (if (bt x0 x5) > 122 then (some false) else (spec_l1Letters.l0 k x0 x1 (wrap64 (x5 + 1))))) else (none)) else (some (decide ((x0.size : Int) ≤ x1)))
def spec_l1Letters.f (k : Nat) (a0 : ByteArray) (a1 : Int) : Option (Bool) := spec_l1Letters.l0 k a0 a1 0
theorem spec_l1Letters.calls (k : Nat) (a0 : ByteArray) (a1 : Int) (r : Bool) (w : World) (h : spec_l1Letters.f k a0 a1 = some r) :
  Calls Try.prog 63 #[.string a0, .int .i64 a1] w fun e w' => e = .returned (.bool r) ∧ Drawn0 w w' := by
 have H : (spec_l1Letters.l0 k a0 a1 0) = some r := h
 clear h
 have H' := am H
 clear H; go_enter Try.func63, Try.ntmps63; go_wp2
 go_loopg [5] k (fun kq v5 w' => ∃ (x5_1 : Int), v5 = .int .i64 x5_1 ∧ Aside0 (spec_l1Letters.l0 kq a0 a1 x5_1 = some r) ∧ Aside0 (kq ≤ k) ∧ Drawn0 w w')
 case atStart => exact ⟨(0), sq, H', ⟨Nat.le_refl _⟩, dr⟩
 case round =>
  clear H'; (try clear p2); obtain ⟨x5_1, rfl, HA, HK1, ⟨m1, rfl⟩⟩ := hrel
  cases gk with
  | zero => exact absurd HA.out (by simp [spec_l1Letters.l0])
  | succ k1 =>
   have H := HA.out; clear HA; simp only [spec_l1Letters.l0] at H
   by_cases c3 : x5_1 < (a0.size : Int)
   ·rw [if_pos c3] at H; have c3b0 := decide_eq_true c3; clear c3
    replace H := it H; obtain ⟨c4b0, H⟩ := H
    by_cases c6 : (bt a0 x5_1) < 97
    ·rw [if_pos c6] at H; have c6b0 := decide_eq_true c6; clear c6; obtain rfl := Option.some.inj H
     have p5 : 0 ≤ (x5_1 : Int) := of_decide_eq_true ad
     have q5 : x5_1 < (a0.size : Int) := of_decide_eq_true ad
     have hx5 := bt_at a0 x5_1; replace p5 := eq_true p5; replace q5 := eq_true q5; go_wp2; go_ret
     exact ⟨sq, dr⟩
    rw [if_neg c6] at H; have c6b0 := decide_eq_false c6; clear c6
    by_cases c8 : (bt a0 x5_1) > 122
    ·rw [if_pos c8] at H; have c8b0 := decide_eq_true c8; clear c8; obtain rfl := Option.some.inj H
     have p5 : 0 ≤ (x5_1 : Int) := of_decide_eq_true ad
     have q5 : x5_1 < (a0.size : Int) := of_decide_eq_true ad
     have hx5 := bt_at a0 x5_1; replace p5 := eq_true p5; replace q5 := eq_true q5
     have p7 : 0 ≤ (x5_1 : Int) := of_decide_eq_true ad
     have q7 : x5_1 < (a0.size : Int) := of_decide_eq_true ad
     have hx7 := bt_at a0 x5_1; replace p7 := eq_true p7; replace q7 := eq_true q7; go_wp2; go_ret
     exact ⟨sq, dr⟩
    rw [if_neg c8] at H; have c8b0 := decide_eq_false c8; clear c8
    have H' := am H
    clear H
    have p5 : 0 ≤ (x5_1 : Int) := of_decide_eq_true ad
    have q5 : x5_1 < (a0.size : Int) := of_decide_eq_true ad
    have hx5 := bt_at a0 x5_1; replace p5 := eq_true p5; replace q5 := eq_true q5
    have p7 : 0 ≤ (x5_1 : Int) := of_decide_eq_true ad
    have q7 : x5_1 < (a0.size : Int) := of_decide_eq_true ad
    have hx7 := bt_at a0 x5_1; replace p7 := eq_true p7; replace q7 := eq_true q7; go_wp2
    go_roundg k1
    case measure => have := HK1.out; omega
    case rel => exact ⟨(wrap64 (x5_1 + 1)), sq, H', ⟨b11_⟩, dr⟩
   rw [if_neg c3] at H; have c3b0 := decide_eq_false c3; clear c3; obtain rfl := Option.some.inj H; go_wp2; go_ret
   exact ⟨sq, dr⟩

/-! ### spec_l1Word: function 48 -/
def spec_l1Word.f (k : Nat) (a0 : ByteArray) : Option (Bool) := if (a0.size : Int) > 0 then ((spec_l1Letters.f k a0 12).bind fun t102 => (some t102)) else (some false)
theorem spec_l1Word.calls (k : Nat) (a0 : ByteArray) (r : Bool) (w : World) (h : spec_l1Word.f k a0 = some r) :
  Calls Try.prog 48 #[.string a0] w fun e w' => e = .returned (.bool r) ∧ Drawn0 w w' := by
 have H : (if (a0.size : Int) > 0 then ((spec_l1Letters.f k a0 12).bind fun t102 => (some t102)) else (some false)) = some r := h
 clear h
 by_cases c2 : (a0.size : Int) > 0
 ·rw [if_pos c2] at H; have c2b0 := decide_eq_true c2
  have c2b1 : decide (0 < a0.size) = true := decide_eq_true (by omega)
  clear c2; replace H := bs H; obtain ⟨t102, A30, H⟩ := H; (try dsimp only at H); have A3 := Aside0.mk A30; clear A30; obtain rfl := Option.some.inj H; go_enter Try.func48, Try.ntmps48
  go_wp2_with (first | (go_at_call 63; (with_reducible refine (spec_l1Letters.calls k a0 12 t102 _ A3.out).mono ?_); rintro e w' ⟨rfl, ⟨nd, rfl⟩⟩))
  go_ret
  exact ⟨sq, dr⟩
 rw [if_neg c2] at H; have c2b0 := decide_eq_false c2
 have c2b1 : decide (0 < a0.size) = false := decide_eq_false (by omega)
 clear c2; obtain rfl := Option.some.inj H; go_enter Try.func48, Try.ntmps48; go_wp2; go_ret
 exact ⟨sq, dr⟩

/-! ### spec_l3Words: function 22 -/
def spec_l3Words.l0 : Nat → List ByteArray → Int → Option (Bool)
 | 0, _, _ => none
 | k + 1, x0, x3 => if x3 < (x0.length : Int) then (if 0 ≤ x3 then ((spec_l1Word.f k (rdOf ByteArray.empty x0 x3)).bind fun t104 => (if t104 = true then (if x3 > 0 then (if 0 ≤ (wrap64 (x3 - 1)) then (if (wrap64 (x3 - 1)) < (x0.length : Int) then (if ((Op.bytesLess ((rdOf ByteArray.empty x0 (wrap64 (x3 - 1))).toList) ((rdOf ByteArray.empty x0 x3).toList)) = true) then (spec_l3Words.l0 k x0 (wrap64 (x3 + 1))) else (some false)) else (none)) else (none)) else (spec_l3Words.l0 k x0 (wrap64 (x3 + 1)))) else (some false))) else (none)) else (some (decide ((x0.length : Int) ≤ 300)))
def spec_l3Words.f (k : Nat) (l0 : List ByteArray) : Option (Bool) := spec_l3Words.l0 k l0 0
theorem spec_l3Words.calls (k : Nat) (A0 : Option Addr) (c0 : Nat) (l0 : List ByteArray) (r : Bool) (w : World) (hr0 : Kd.C Kd.string w A0 l0.length l0) (hc0 : l0.length ≤ c0) (h : spec_l3Words.f k l0 = some r) :
  Calls Try.prog 22 #[.slice A0 l0.length c0] w fun e w' => e = .returned (.bool r) ∧ Drawn0 w w' := by
 have HR0 := am hr0; have HC0 := am hc0; clear hr0 hc0
 have H : (spec_l3Words.l0 k l0 0) = some r := h
 clear h
 have H' := am H
 clear H; go_enter Try.func22, Try.ntmps22; go_wp2
 repeat (go_quiet (fail); try go_wp2)
 go_loopg [3] k (fun kq v3 w' => ∃ (x3_1 : Int), v3 = .int .i64 x3_1 ∧ Aside0 (spec_l3Words.l0 kq l0 x3_1 = some r) ∧ Aside0 (kq ≤ k) ∧ Drawn0 w w')
 case atStart => exact ⟨(0), sq, H', ⟨Nat.le_refl _⟩, dr⟩
 case round =>
  clear H'; obtain ⟨x3_1, rfl, HA, HK1, ⟨m1, rfl⟩⟩ := hrel
  cases gk with
  | zero => exact absurd HA.out (by simp [spec_l3Words.l0])
  | succ k1 =>
   have H := HA.out; clear HA; simp only [spec_l3Words.l0] at H
   by_cases c2 : x3_1 < (l0.length : Int)
   ·rw [if_pos c2] at H; have c2b0 := decide_eq_true c2; clear c2
    replace H := it H; obtain ⟨c3b0, H⟩ := H; replace H := bs H; obtain ⟨t104, A40, H⟩ := H; (try dsimp only at H); have A4 := Aside0.mk A40; clear A40
    by_cases c5 : t104 = true
    ·subst c5
     rw [if_pos rfl] at H
     by_cases c6 : x3_1 > 0
     ·rw [if_pos c6] at H; have c6b0 := decide_eq_true c6; clear c6; obtain ⟨ji7, hji7⟩ : ∃ j_ : Int, (wrap64 (x3_1 - 1)) = j_ := ⟨_, rfl⟩
      replace H : (if 0 ≤ (ji7) then (if (ji7) < (l0.length : Int) then (if ((Op.bytesLess ((rdOf ByteArray.empty l0 (ji7)).toList) ((rdOf ByteArray.empty l0 x3_1).toList)) = true) then (spec_l3Words.l0 k1 l0 (wrap64 (x3_1 + 1))) else (some false)) else (none)) else (none)) = some r := by first | (rw [hji7] at H; exact H) | (simp only [hji7] at H ⊢; exact H)
      (try rw [hji7] at A4)
      have hji7w : (IntKind.i64.wrap (x3_1 - 1)) = ji7 := (i64_w _).trans hji7
      replace H := it H; obtain ⟨c8b0, H⟩ := H; replace H := it H; obtain ⟨c9b0, H⟩ := H
      by_cases c10 : ((Op.bytesLess ((rdOf ByteArray.empty l0 (ji7)).toList) ((rdOf ByteArray.empty l0 x3_1).toList)) = true)
      ·rw [if_pos c10] at H
       have c10b0 : (Op.bytesLess ((rdOf ByteArray.empty l0 (ji7)).toList) ((rdOf ByteArray.empty l0 x3_1).toList)) = true := c10
       clear c10
       have H' := am H
       clear H
       have p103 : 0 ≤ (x3_1 : Int) := of_decide_eq_true ad
       have q103 : x3_1 < (l0.length : Int) := of_decide_eq_true ad
       obtain ⟨ad103, e103, hx103_0⟩ := Kd.at_string HR0.out x3_1 p103 q103; cases e103; replace p103 := eq_true p103; replace q103 := eq_true q103
       try have p105 : 0 ≤ ((ji7) : Int) := of_decide_eq_true ad
       try have q105 : (ji7) < (l0.length : Int) := of_decide_eq_true ad
       try obtain ⟨ad105, e105, hx105_0⟩ := Kd.at_string HR0.out (ji7) p105 q105
       try obtain rfl : ad103 = ad105 := (by injection e105)
       try replace p105 := eq_true p105
       try replace q105 := eq_true q105
       try have p106 : 0 ≤ (x3_1 : Int) := of_decide_eq_true ad
       try have q106 : x3_1 < (l0.length : Int) := of_decide_eq_true ad
       try obtain ⟨ad106, e106, hx106_0⟩ := Kd.at_string HR0.out x3_1 p106 q106
       try obtain rfl : ad103 = ad106 := (by injection e106)
       try replace p106 := eq_true p106
       try replace q106 := eq_true q106
       go_wp2_with (first | (go_at_call 48; (with_reducible refine (spec_l1Word.calls k1 (rdOf ByteArray.empty l0 x3_1) true _ A4.out).mono ?_); rintro e w' ⟨rfl, ⟨nd, rfl⟩⟩; first | exact ⟨rfl, _, World.drewN_drewN _ _ _⟩ | exact ⟨rfl, _, Eq.trans (World.drewN_drewN _ _ _) (congrArg (World.drewN _) (Nat.add_assoc _ _ _))⟩ | (have p105 : 0 ≤ ((ji7) : Int) := of_decide_eq_true ad; have q105 : (ji7) < (l0.length : Int) := of_decide_eq_true ad; obtain ⟨ad105, e105, hx105_0⟩ := Kd.at_string HR0.out (ji7) p105 q105; obtain rfl : ad103 = ad105 := (by injection e105); replace p105 := eq_true p105; replace q105 := eq_true q105; have p106 : 0 ≤ (x3_1 : Int) := of_decide_eq_true ad; have q106 : x3_1 < (l0.length : Int) := of_decide_eq_true ad; obtain ⟨ad106, e106, hx106_0⟩ := Kd.at_string HR0.out x3_1 p106 q106; obtain rfl : ad103 = ad106 := (by injection e106); replace p106 := eq_true p106; replace q106 := eq_true q106)))
       repeat (go_quiet (first | (go_at_call 48; (with_reducible refine (spec_l1Word.calls k1 (rdOf ByteArray.empty l0 x3_1) true _ A4.out).mono ?_); rintro e w' ⟨rfl, ⟨nd, rfl⟩⟩; first | exact ⟨rfl, _, World.drewN_drewN _ _ _⟩ | exact ⟨rfl, _, Eq.trans (World.drewN_drewN _ _ _) (congrArg (World.drewN _) (Nat.add_assoc _ _ _))⟩ | (have p105 : 0 ≤ ((ji7) : Int) := of_decide_eq_true ad; have q105 : (ji7) < (l0.length : Int) := of_decide_eq_true ad; obtain ⟨ad105, e105, hx105_0⟩ := Kd.at_string HR0.out (ji7) p105 q105; obtain rfl : ad103 = ad105 := (by injection e105); replace p105 := eq_true p105; replace q105 := eq_true q105; have p106 : 0 ≤ (x3_1 : Int) := of_decide_eq_true ad; have q106 : x3_1 < (l0.length : Int) := of_decide_eq_true ad; obtain ⟨ad106, e106, hx106_0⟩ := Kd.at_string HR0.out x3_1 p106 q106; obtain rfl : ad103 = ad106 := (by injection e106); replace p106 := eq_true p106; replace q106 := eq_true q106))); try go_wp2_with (first | (go_at_call 48; (with_reducible refine (spec_l1Word.calls k1 (rdOf ByteArray.empty l0 x3_1) true _ A4.out).mono ?_); rintro e w' ⟨rfl, ⟨nd, rfl⟩⟩; first | exact ⟨rfl, _, World.drewN_drewN _ _ _⟩ | exact ⟨rfl, _, Eq.trans (World.drewN_drewN _ _ _) (congrArg (World.drewN _) (Nat.add_assoc _ _ _))⟩ | (have p105 : 0 ≤ ((ji7) : Int) := of_decide_eq_true ad; have q105 : (ji7) < (l0.length : Int) := of_decide_eq_true ad; obtain ⟨ad105, e105, hx105_0⟩ := Kd.at_string HR0.out (ji7) p105 q105; obtain rfl : ad103 = ad105 := (by injection e105); replace p105 := eq_true p105; replace q105 := eq_true q105; have p106 : 0 ≤ (x3_1 : Int) := of_decide_eq_true ad; have q106 : x3_1 < (l0.length : Int) := of_decide_eq_true ad; obtain ⟨ad106, e106, hx106_0⟩ := Kd.at_string HR0.out x3_1 p106 q106; obtain rfl : ad103 = ad106 := (by injection e106); replace p106 := eq_true p106; replace q106 := eq_true q106))))
       go_roundg k1
       case measure => have := HK1.out; omega
       case rel => exact ⟨(wrap64 (x3_1 + 1)), sq, H', ⟨b11_⟩, dr⟩
      rw [if_neg c10] at H
      have c10b0 : (Op.bytesLess ((rdOf ByteArray.empty l0 (ji7)).toList) ((rdOf ByteArray.empty l0 x3_1).toList)) = false := by simpa using c10
      clear c10; obtain rfl := Option.some.inj H
      have p103 : 0 ≤ (x3_1 : Int) := of_decide_eq_true ad
      have q103 : x3_1 < (l0.length : Int) := of_decide_eq_true ad
      obtain ⟨ad103, e103, hx103_0⟩ := Kd.at_string HR0.out x3_1 p103 q103; cases e103; replace p103 := eq_true p103; replace q103 := eq_true q103
      try have p105 : 0 ≤ ((ji7) : Int) := of_decide_eq_true ad
      try have q105 : (ji7) < (l0.length : Int) := of_decide_eq_true ad
      try obtain ⟨ad105, e105, hx105_0⟩ := Kd.at_string HR0.out (ji7) p105 q105
      try obtain rfl : ad103 = ad105 := (by injection e105)
      try replace p105 := eq_true p105
      try replace q105 := eq_true q105
      try have p106 : 0 ≤ (x3_1 : Int) := of_decide_eq_true ad
      try have q106 : x3_1 < (l0.length : Int) := of_decide_eq_true ad
      try obtain ⟨ad106, e106, hx106_0⟩ := Kd.at_string HR0.out x3_1 p106 q106
      try obtain rfl : ad103 = ad106 := (by injection e106)
      try replace p106 := eq_true p106
      try replace q106 := eq_true q106
      go_wp2_with (first | (go_at_call 48; (with_reducible refine (spec_l1Word.calls k1 (rdOf ByteArray.empty l0 x3_1) true _ A4.out).mono ?_); rintro e w' ⟨rfl, ⟨nd, rfl⟩⟩; first | exact ⟨rfl, _, World.drewN_drewN _ _ _⟩ | exact ⟨rfl, _, Eq.trans (World.drewN_drewN _ _ _) (congrArg (World.drewN _) (Nat.add_assoc _ _ _))⟩ | (have p105 : 0 ≤ ((ji7) : Int) := of_decide_eq_true ad; have q105 : (ji7) < (l0.length : Int) := of_decide_eq_true ad; obtain ⟨ad105, e105, hx105_0⟩ := Kd.at_string HR0.out (ji7) p105 q105; obtain rfl : ad103 = ad105 := (by injection e105); replace p105 := eq_true p105; replace q105 := eq_true q105; have p106 : 0 ≤ (x3_1 : Int) := of_decide_eq_true ad; have q106 : x3_1 < (l0.length : Int) := of_decide_eq_true ad; obtain ⟨ad106, e106, hx106_0⟩ := Kd.at_string HR0.out x3_1 p106 q106; obtain rfl : ad103 = ad106 := (by injection e106); replace p106 := eq_true p106; replace q106 := eq_true q106)))
      repeat (go_quiet (first | (go_at_call 48; (with_reducible refine (spec_l1Word.calls k1 (rdOf ByteArray.empty l0 x3_1) true _ A4.out).mono ?_); rintro e w' ⟨rfl, ⟨nd, rfl⟩⟩; first | exact ⟨rfl, _, World.drewN_drewN _ _ _⟩ | exact ⟨rfl, _, Eq.trans (World.drewN_drewN _ _ _) (congrArg (World.drewN _) (Nat.add_assoc _ _ _))⟩ | (have p105 : 0 ≤ ((ji7) : Int) := of_decide_eq_true ad; have q105 : (ji7) < (l0.length : Int) := of_decide_eq_true ad; obtain ⟨ad105, e105, hx105_0⟩ := Kd.at_string HR0.out (ji7) p105 q105; obtain rfl : ad103 = ad105 := (by injection e105); replace p105 := eq_true p105; replace q105 := eq_true q105; have p106 : 0 ≤ (x3_1 : Int) := of_decide_eq_true ad; have q106 : x3_1 < (l0.length : Int) := of_decide_eq_true ad; obtain ⟨ad106, e106, hx106_0⟩ := Kd.at_string HR0.out x3_1 p106 q106; obtain rfl : ad103 = ad106 := (by injection e106); replace p106 := eq_true p106; replace q106 := eq_true q106))); try go_wp2_with (first | (go_at_call 48; (with_reducible refine (spec_l1Word.calls k1 (rdOf ByteArray.empty l0 x3_1) true _ A4.out).mono ?_); rintro e w' ⟨rfl, ⟨nd, rfl⟩⟩; first | exact ⟨rfl, _, World.drewN_drewN _ _ _⟩ | exact ⟨rfl, _, Eq.trans (World.drewN_drewN _ _ _) (congrArg (World.drewN _) (Nat.add_assoc _ _ _))⟩ | (have p105 : 0 ≤ ((ji7) : Int) := of_decide_eq_true ad; have q105 : (ji7) < (l0.length : Int) := of_decide_eq_true ad; obtain ⟨ad105, e105, hx105_0⟩ := Kd.at_string HR0.out (ji7) p105 q105; obtain rfl : ad103 = ad105 := (by injection e105); replace p105 := eq_true p105; replace q105 := eq_true q105; have p106 : 0 ≤ (x3_1 : Int) := of_decide_eq_true ad; have q106 : x3_1 < (l0.length : Int) := of_decide_eq_true ad; obtain ⟨ad106, e106, hx106_0⟩ := Kd.at_string HR0.out x3_1 p106 q106; obtain rfl : ad103 = ad106 := (by injection e106); replace p106 := eq_true p106; replace q106 := eq_true q106))))
      go_ret
      exact ⟨by first | rfl | (simp; done) | (simp only [← hji7] <;> (first | rfl | simp)) | (simp [*]; done), dr⟩
     rw [if_neg c6] at H; have c6b0 := decide_eq_false c6; clear c6
     have H' := am H
     clear H
     have p103 : 0 ≤ (x3_1 : Int) := of_decide_eq_true ad
     have q103 : x3_1 < (l0.length : Int) := of_decide_eq_true ad
     obtain ⟨ad103, e103, hx103_0⟩ := Kd.at_string HR0.out x3_1 p103 q103; cases e103; replace p103 := eq_true p103; replace q103 := eq_true q103
     go_wp2_with (first | (go_at_call 48; (with_reducible refine (spec_l1Word.calls k1 (rdOf ByteArray.empty l0 x3_1) true _ A4.out).mono ?_); rintro e w' ⟨rfl, ⟨nd, rfl⟩⟩; (try first | exact ⟨rfl, _, World.drewN_drewN _ _ _⟩ | exact ⟨rfl, _, Eq.trans (World.drewN_drewN _ _ _) (congrArg (World.drewN _) (Nat.add_assoc _ _ _))⟩)))
     repeat (go_quiet (first | (go_at_call 48; (with_reducible refine (spec_l1Word.calls k1 (rdOf ByteArray.empty l0 x3_1) true _ A4.out).mono ?_); rintro e w' ⟨rfl, ⟨nd, rfl⟩⟩; (try first | exact ⟨rfl, _, World.drewN_drewN _ _ _⟩ | exact ⟨rfl, _, Eq.trans (World.drewN_drewN _ _ _) (congrArg (World.drewN _) (Nat.add_assoc _ _ _))⟩))); try go_wp2_with (first | (go_at_call 48; (with_reducible refine (spec_l1Word.calls k1 (rdOf ByteArray.empty l0 x3_1) true _ A4.out).mono ?_); rintro e w' ⟨rfl, ⟨nd, rfl⟩⟩; (try first | exact ⟨rfl, _, World.drewN_drewN _ _ _⟩ | exact ⟨rfl, _, Eq.trans (World.drewN_drewN _ _ _) (congrArg (World.drewN _) (Nat.add_assoc _ _ _))⟩))))
     go_roundg k1
     case measure => have := HK1.out; omega
     case rel => exact ⟨(wrap64 (x3_1 + 1)), sq, H', ⟨b11_⟩, dr⟩
    replace c5 := Bool.eq_false_iff.mpr c5; subst c5
    rw [if_neg Bool.false_ne_true] at H
    obtain rfl := Option.some.inj H
    have p103 : 0 ≤ (x3_1 : Int) := of_decide_eq_true ad
    have q103 : x3_1 < (l0.length : Int) := of_decide_eq_true ad
    obtain ⟨ad103, e103, hx103_0⟩ := Kd.at_string HR0.out x3_1 p103 q103; cases e103; replace p103 := eq_true p103; replace q103 := eq_true q103
    go_wp2_with (first | (go_at_call 48; (with_reducible refine (spec_l1Word.calls k1 (rdOf ByteArray.empty l0 x3_1) false _ A4.out).mono ?_); rintro e w' ⟨rfl, ⟨nd, rfl⟩⟩; (try first | exact ⟨rfl, _, World.drewN_drewN _ _ _⟩ | exact ⟨rfl, _, Eq.trans (World.drewN_drewN _ _ _) (congrArg (World.drewN _) (Nat.add_assoc _ _ _))⟩)))
    repeat (go_quiet (first | (go_at_call 48; (with_reducible refine (spec_l1Word.calls k1 (rdOf ByteArray.empty l0 x3_1) false _ A4.out).mono ?_); rintro e w' ⟨rfl, ⟨nd, rfl⟩⟩; (try first | exact ⟨rfl, _, World.drewN_drewN _ _ _⟩ | exact ⟨rfl, _, Eq.trans (World.drewN_drewN _ _ _) (congrArg (World.drewN _) (Nat.add_assoc _ _ _))⟩))); try go_wp2_with (first | (go_at_call 48; (with_reducible refine (spec_l1Word.calls k1 (rdOf ByteArray.empty l0 x3_1) false _ A4.out).mono ?_); rintro e w' ⟨rfl, ⟨nd, rfl⟩⟩; (try first | exact ⟨rfl, _, World.drewN_drewN _ _ _⟩ | exact ⟨rfl, _, Eq.trans (World.drewN_drewN _ _ _) (congrArg (World.drewN _) (Nat.add_assoc _ _ _))⟩))))
    go_ret
    exact ⟨sq, dr⟩
   rw [if_neg c2] at H; have c2b0 := decide_eq_false c2; clear c2; obtain rfl := Option.some.inj H; go_wp2
   repeat (go_quiet (fail); try go_wp2)
   go_ret
   exact ⟨sq, dr⟩

/-! ### spec_l3Ends: function 24 -/
def spec_l3Ends.l0 : Nat → List ByteArray → Int → List ByteArray → Int → Option (List ByteArray)
 | 0, _, _, _, _ => none
 | k + 1, x0, x1, x5, x6 => if x6 < (x0.length : Int) then (if 0 ≤ x6 then (if ((rdOf ByteArray.empty x0 x6).size : Int) > 0 then (if 0 < ((rdOf ByteArray.empty x0 x6).size : Int) then (if (bt (rdOf ByteArray.empty x0 x6) 0) = x1 then (if 1 ≤ ((rdOf ByteArray.empty x0 x6).size : Int) then (if x5.length < 8796093022208 then (spec_l3Ends.l0 k x0 x1 (x5 ++ [(rdOf ByteArray.empty x0 x6).extract 1 (rdOf ByteArray.empty x0 x6).size]) (wrap64 (x6 + 1))) else (none)) else (none)) else (spec_l3Ends.l0 k x0 x1 x5 (wrap64 (x6 + 1)))) else (none)) else (spec_l3Ends.l0 k x0 x1 x5 (wrap64 (x6 + 1)))) else (none)) else (some x5)
def spec_l3Ends.f (k : Nat) (l0 : List ByteArray) (a1 : Int) : Option (List ByteArray) := spec_l3Ends.l0 k l0 a1 (([] : List ByteArray)) 0
theorem spec_l3Ends.calls (k : Nat) (A0 : Option Addr) (c0 : Nat) (l0 : List ByteArray) (a1 : Int) (r : List ByteArray) (w : World) (hr0 : Kd.C Kd.string w A0 l0.length l0) (hc0 : l0.length ≤ c0) (h : spec_l3Ends.f k l0 a1 = some r) :
  Calls Try.prog 24 #[.slice A0 l0.length c0, .int .u8 a1] w fun e w' => ∃ v0_ : Value, e = .returned (v0_) ∧ Kd.R Kd.string 9 w' w.heap.size (fun _ => True) v0_ r ∧ Below w.heap.size w w' := by
 have HR0 := am hr0; have HC0 := am hc0; clear hr0 hc0; have HB := am (Below.refl w.heap.size w)
 have H : (spec_l3Ends.l0 k l0 a1 (([] : List ByteArray)) 0) = some r := h
 clear h; obtain ⟨y107, hy107⟩ : ∃ y_ : List ByteArray, y_ = (([] : List ByteArray)) := ⟨_, rfl⟩
 replace H : (spec_l3Ends.l0 k l0 a1 y107 0) = some r := by first | (rw [hy107]; with_reducible exact H) | (have H2_ := bm H; rw [hy107]; with_reducible exact H2_) | (with_reducible exact bm H) | with_reducible exact H | (rw [hy107]; exact H) | exact H
 have Ny107 := am hy107; clear hy107
 have H' := am H
 clear H; go_enter Try.func24, Try.ntmps24
 go_wp2_with (first | ((with_reducible refine gate_dst (N := 7) rfl ?_); refine Kd.R_lit Kd.string _ 9 ?hg (N := 7) ?hd (xs := ([] : List ByteArray)) (inner := []) (ok := fun _ => True) (okp := fun _ => True) ?hr ?hp (fun _ hk => hk) trivial (Below.refl _ _) (Nat.le_refl _) (by simp) ?_; (case hd => rfl); (case hg => rfl); (case hr => first | (go_simp; done) | (go_simp; rfl)); (case hp => exact (Reps.none _ _)); intro v108 w3 ho4 hb hg_ hnew_; clear hg_ hnew_; (first | rw [← Ny107.out] at ho4 | (simp only [Int.reduceToNat] at ho4; rw [← Ny107.out] at ho4) | (simp only [Int.toNat_natCast] at ho4; rw [← Ny107.out] at ho4)); have HO109 := am (Kd.R_lower ho4 (below_size bel)); replace HB := am (below_step bel hb); clear hb ho4))
 go_loopg [5, 6] k (fun kq v5 v6 w' => ∃ (x5_1 : List ByteArray) (x6_1 : Int), v6 = .int .i64 x6_1 ∧ Aside0 (spec_l3Ends.l0 kq l0 a1 x5_1 x6_1 = some r) ∧ Aside0 (kq ≤ k) ∧ Aside0 (Kd.R Kd.string 9 w' w.heap.size (fun _ => True) v5 x5_1) ∧ Aside0 (Below w.heap.size w w'))
 case atStart => exact ⟨(y107), (0), sq, H', ⟨Nat.le_refl _⟩, ⟨rq HO109.out⟩, ⟨bel⟩⟩
 case round =>
  clear H'; (try clear c2); (try clear p2); obtain ⟨x5_1, x6_1, rfl, HA, HK1, HO_5, HB⟩ := hrel
  cases gk with
  | zero => exact absurd HA.out (by simp [spec_l3Ends.l0])
  | succ k1 =>
   have H := HA.out; clear HA; simp only [spec_l3Ends.l0] at H
   by_cases c5 : x6_1 < (l0.length : Int)
   ·rw [if_pos c5] at H; have c5b0 := decide_eq_true c5; clear c5
    replace H := it H; obtain ⟨c6b0, H⟩ := H
    by_cases c7 : ((rdOf ByteArray.empty l0 x6_1).size : Int) > 0
    ·rw [if_pos c7] at H; have c7b0 := decide_eq_true c7
     have c7b1 : decide (0 < (rdOf ByteArray.empty l0 x6_1).size) = true := decide_eq_true (by omega)
     clear c7; replace H := ip H; obtain ⟨c8, H⟩ := H; have c8b0 := decide_eq_true c8
     have c8b1 : decide (0 < (rdOf ByteArray.empty l0 x6_1).size) = true := decide_eq_true (by omega)
     clear c8
     by_cases c10 : (bt (rdOf ByteArray.empty l0 x6_1) 0) = a1
     ·rw [if_pos c10] at H
      have c10b0 : ((bt (rdOf ByteArray.empty l0 x6_1) 0) == a1) = true := beq_iff_eq.mpr c10
      have c10b1 : ((bt (rdOf ByteArray.empty l0 x6_1) 0) != a1) = false := bne_eq_false_iff_eq.mpr c10
      clear c10; replace H := ip H; obtain ⟨c11, H⟩ := H; have c11b0 := eq_true c11
      have c11b1 : decide (1 ≤ ((rdOf ByteArray.empty l0 x6_1).size : Int)) = true := decide_eq_true c11
      clear c11
      replace H := ip H; obtain ⟨c12, H⟩ := H; have LMc12 := Aside0.mk c12; clear c12; obtain ⟨y113, hy113⟩ : ∃ y_ : List ByteArray, y_ = (x5_1 ++ [(rdOf ByteArray.empty l0 x6_1).extract 1 (rdOf ByteArray.empty l0 x6_1).size]) := ⟨_, rfl⟩
      replace H : (spec_l3Ends.l0 k1 l0 a1 y113 (wrap64 (x6_1 + 1))) = some r := by first | (rw [hy113]; with_reducible exact H) | (have H2_ := bm H; rw [hy113]; with_reducible exact H2_) | (with_reducible exact bm H) | with_reducible exact H | (rw [hy113]; exact H) | exact H
      have Ny113 := am hy113; clear hy113
      have H' := am H
      clear H
      have p110 : 0 ≤ (x6_1 : Int) := of_decide_eq_true ad
      have q110 : x6_1 < (l0.length : Int) := of_decide_eq_true ad
      obtain ⟨ad110, e110, hx110_0⟩ := Kd.at_string HR0.out x6_1 p110 q110; cases e110; replace hx110_0 := kp HB.out hx110_0; replace p110 := eq_true p110; replace q110 := eq_true q110
      have p111 : 0 ≤ (x6_1 : Int) := of_decide_eq_true ad
      have q111 : x6_1 < (l0.length : Int) := of_decide_eq_true ad
      obtain ⟨ad111, e111, hx111_0⟩ := Kd.at_string HR0.out x6_1 p111 q111
      obtain rfl : ad110 = ad111 := (by injection e111)
      replace hx111_0 := kp HB.out hx111_0; replace p111 := eq_true p111; replace q111 := eq_true q111
      have p9 : 0 ≤ (0 : Int) := (by omega)
      have q9 : 0 < (rdOf ByteArray.empty l0 x6_1).size := (by have : (0 : Int) < ((rdOf ByteArray.empty l0 x6_1).size : Int) := of_decide_eq_true ad; omega)
      have hx9 : ∀ h : 0 < (rdOf ByteArray.empty l0 x6_1).size, (((rdOf ByteArray.empty l0 x6_1)[0]'h).toNat : Int) = bt (rdOf ByteArray.empty l0 x6_1) 0 := bt_at (rdOf ByteArray.empty l0 x6_1) 0
      clear p9
      have qi9 : (0 < ((rdOf ByteArray.empty l0 x6_1).size : Int)) = True := eq_true (of_decide_eq_true ad)
      replace q9 := eq_true q9
      have p112 : 0 ≤ (x6_1 : Int) := of_decide_eq_true ad
      have q112 : x6_1 < (l0.length : Int) := of_decide_eq_true ad
      obtain ⟨ad112, e112, hx112_0⟩ := Kd.at_string HR0.out x6_1 p112 q112
      obtain rfl : ad110 = ad112 := (by injection e112)
      replace hx112_0 := kp HB.out hx112_0; replace p112 := eq_true p112; replace q112 := eq_true q112
      go_wp2_with (first | ((with_reducible refine gate_builtin (b := .append) (xs := #[.tmp 29, .tmp 35]) rfl ?_); at_builtin; refine Kd.R_append Kd.string (w0 := w) w.heap.size rfl (.tmp 29) (.tmp 35) 22 9 (.string ⟨#[]⟩) 16 rfl Try.underlying22 info9 rfl (by decide) (by omega) u5 x5_1 ((rdOf ByteArray.empty l0 x6_1).extract 1 (rdOf ByteArray.empty l0 x6_1).size) [.string ((rdOf ByteArray.empty l0 x6_1).extract 1 (rdOf ByteArray.empty l0 x6_1).size)] (fun _ => True) (fun _ => False) rfl rfl ?aP (fun _ hk => hk.elim) ?aF ?aO ?aB ?aS ?aL ?_; (case aP => exact rfl); (case aB => exact bel); (case aF => exact (fun _ _ => trivial)); (case aO => exact (rq HO_5.out)); (case aS => exact (below_size bel)); (case aL => have := LMc12.out; omega); intro v114 w13 ho hb hg hat; rw [← Ny113.out] at ho; replace HB := am (hb); have HO115 := am (ho); clear HO_5; clear ho hb hg hat))
      go_roundg k1
      case measure => have := HK1.out; omega
      case rel => exact ⟨(y113), (wrap64 (x6_1 + 1)), sq, H', ⟨b11_⟩, ⟨rq HO115.out⟩, ⟨bel⟩⟩
     rw [if_neg c10] at H
     have c10b0 : ((bt (rdOf ByteArray.empty l0 x6_1) 0) == a1) = false := beq_eq_false_iff_ne.mpr c10
     have c10b1 : ((bt (rdOf ByteArray.empty l0 x6_1) 0) != a1) = true := bne_iff_ne.mpr c10
     have H' := am H
     clear H
     have p110 : 0 ≤ (x6_1 : Int) := of_decide_eq_true ad
     have q110 : x6_1 < (l0.length : Int) := of_decide_eq_true ad
     obtain ⟨ad110, e110, hx110_0⟩ := Kd.at_string HR0.out x6_1 p110 q110; cases e110; replace hx110_0 := kp HB.out hx110_0; replace p110 := eq_true p110; replace q110 := eq_true q110
     have p111 : 0 ≤ (x6_1 : Int) := of_decide_eq_true ad
     have q111 : x6_1 < (l0.length : Int) := of_decide_eq_true ad
     obtain ⟨ad111, e111, hx111_0⟩ := Kd.at_string HR0.out x6_1 p111 q111
     obtain rfl : ad110 = ad111 := (by injection e111)
     replace hx111_0 := kp HB.out hx111_0; replace p111 := eq_true p111; replace q111 := eq_true q111
     have p9 : 0 ≤ (0 : Int) := (by omega)
     have q9 : 0 < (rdOf ByteArray.empty l0 x6_1).size := (by have : (0 : Int) < ((rdOf ByteArray.empty l0 x6_1).size : Int) := of_decide_eq_true ad; omega)
     have hx9 : ∀ h : 0 < (rdOf ByteArray.empty l0 x6_1).size, (((rdOf ByteArray.empty l0 x6_1)[0]'h).toNat : Int) = bt (rdOf ByteArray.empty l0 x6_1) 0 := bt_at (rdOf ByteArray.empty l0 x6_1) 0
     clear p9
     have qi9 : (0 < ((rdOf ByteArray.empty l0 x6_1).size : Int)) = True := eq_true (of_decide_eq_true ad)
     replace q9 := eq_true q9; go_wp2
     go_roundg k1
     case measure => have := HK1.out; omega
     case rel => exact ⟨(x5_1), (wrap64 (x6_1 + 1)), sq, H', ⟨b11_⟩, ⟨rq HO_5.out⟩, ⟨bel⟩⟩
    rw [if_neg c7] at H; have c7b0 := decide_eq_false c7
    have c7b1 : decide (0 < (rdOf ByteArray.empty l0 x6_1).size) = false := decide_eq_false (by omega)
    clear c7
    have H' := am H
    clear H
    have p110 : 0 ≤ (x6_1 : Int) := of_decide_eq_true ad
    have q110 : x6_1 < (l0.length : Int) := of_decide_eq_true ad
    obtain ⟨ad110, e110, hx110_0⟩ := Kd.at_string HR0.out x6_1 p110 q110; cases e110
    replace hx110_0 := kp HB.out hx110_0; replace p110 := eq_true p110; replace q110 := eq_true q110; go_wp2
    go_roundg k1
    case measure => have := HK1.out; omega
    case rel => exact ⟨(x5_1), (wrap64 (x6_1 + 1)), sq, H', ⟨b11_⟩, ⟨rq HO_5.out⟩, ⟨bel⟩⟩
   rw [if_neg c5] at H; have c5b0 := decide_eq_false c5; clear c5; obtain rfl := Option.some.inj H; go_wp2; go_ret
   exact ⟨_, eq_, by (with_reducible repeat (first | apply Kd.R_alloc | apply Kd.R_drewN | apply Kd.R_drew)); exact HO_5.out, bel⟩

/-! ### spec_l3Same: function 49 -/
def spec_l3Same.l0 : Nat → List ByteArray → List ByteArray → Int → Option (Bool)
 | 0, _, _, _ => none
 | k + 1, x0, x1, x5 => if x5 < (x0.length : Int) then (if 0 ≤ x5 then (if x5 < (x1.length : Int) then (if (rdOf ByteArray.empty x0 x5).toList = (rdOf ByteArray.empty x1 x5).toList then (spec_l3Same.l0 k x0 x1 (wrap64 (x5 + 1))) else (some false)) else (none)) else (none)) else (some true)
def spec_l3Same.f (k : Nat) (l0 : List ByteArray) (l1 : List ByteArray) : Option (Bool) := if (l0.length : Int) = (l1.length : Int) then (spec_l3Same.l0 k l0 l1 0) else (some false)
theorem spec_l3Same.calls (k : Nat) (A0 : Option Addr) (c0 : Nat) (l0 : List ByteArray) (A1 : Option Addr) (c1 : Nat) (l1 : List ByteArray) (r : Bool) (w : World) (hr0 : Kd.C Kd.string w A0 l0.length l0) (hc0 : l0.length ≤ c0) (hr1 : Kd.C Kd.string w A1 l1.length l1) (hc1 : l1.length ≤ c1) (h : spec_l3Same.f k l0 l1 = some r) :
  Calls Try.prog 49 #[.slice A0 l0.length c0, .slice A1 l1.length c1] w fun e w' => e = .returned (.bool r) ∧ Drawn0 w w' := by
 have HR0 := am hr0; have HC0 := am hc0; clear hr0 hc0; have HR1 := am hr1; have HC1 := am hc1; clear hr1 hc1
 have H : (if (l0.length : Int) = (l1.length : Int) then (spec_l3Same.l0 k l0 l1 0) else (some false)) = some r := h
 clear h
 by_cases c3 : (l0.length : Int) = (l1.length : Int)
 ·rw [if_pos c3] at H
  have c3b0 : ((l0.length : Int) == (l1.length : Int)) = true := beq_iff_eq.mpr c3
  have c3b1 : ((l0.length : Int) != (l1.length : Int)) = false := bne_eq_false_iff_eq.mpr c3
  have c3b2 : (l0.length == l1.length) = true := b25_
  clear c3
  have H' := am H
  clear H; go_enter Try.func49, Try.ntmps49; go_wp2
  repeat (go_quiet (fail); try go_wp2)
  go_loopg [5] k (fun kq v5 w' => ∃ (x5_1 : Int), v5 = .int .i64 x5_1 ∧ Aside0 (spec_l3Same.l0 kq l0 l1 x5_1 = some r) ∧ Aside0 (kq ≤ k) ∧ Drawn0 w w')
  case atStart => exact ⟨(0), sq, H', ⟨Nat.le_refl _⟩, dr⟩
  case round =>
   clear H'; (try clear c1); (try clear p2); (try clear c3); (try clear c3b0); (try clear c3b1); (try clear c3b2); obtain ⟨x5_1, rfl, HA, HK1, ⟨m1, rfl⟩⟩ := hrel
   cases gk with
   | zero => exact absurd HA.out (by simp [spec_l3Same.l0])
   | succ k1 =>
    have H := HA.out; clear HA; simp only [spec_l3Same.l0] at H
    by_cases c4 : x5_1 < (l0.length : Int)
    ·rw [if_pos c4] at H; have c4b0 := decide_eq_true c4; clear c4
     replace H := it H; obtain ⟨c5b0, H⟩ := H; replace H := it H; obtain ⟨c6b0, H⟩ := H
     by_cases c7 : (rdOf ByteArray.empty l0 x5_1).toList = (rdOf ByteArray.empty l1 x5_1).toList
     ·rw [if_pos c7] at H
      have c7b0 : ((rdOf ByteArray.empty l0 x5_1).toList == (rdOf ByteArray.empty l1 x5_1).toList) = true := beq_iff_eq.mpr c7
      have c7b1 : ((rdOf ByteArray.empty l0 x5_1).toList != (rdOf ByteArray.empty l1 x5_1).toList) = false := bne_eq_false_iff_eq.mpr c7
      clear c7
      have H' := am H
      clear H
      have p116 : 0 ≤ (x5_1 : Int) := of_decide_eq_true ad
      have q116 : x5_1 < (l0.length : Int) := of_decide_eq_true ad
      obtain ⟨ad116, e116, hx116_0⟩ := Kd.at_string HR0.out x5_1 p116 q116; cases e116; replace p116 := eq_true p116; replace q116 := eq_true q116
      have p117 : 0 ≤ (x5_1 : Int) := of_decide_eq_true ad
      have q117 : x5_1 < (l1.length : Int) := of_decide_eq_true ad
      obtain ⟨ad117, e117, hx117_0⟩ := Kd.at_string HR1.out x5_1 p117 q117; cases e117
      replace p117 := eq_true p117; replace q117 := eq_true q117; go_wp2
      repeat (go_quiet (fail); try go_wp2)
      go_roundg k1
      case measure => have := HK1.out; omega
      case rel => exact ⟨(wrap64 (x5_1 + 1)), sq, H', ⟨b11_⟩, dr⟩
     rw [if_neg c7] at H
     have c7b0 : ((rdOf ByteArray.empty l0 x5_1).toList == (rdOf ByteArray.empty l1 x5_1).toList) = false := beq_eq_false_iff_ne.mpr c7
     have c7b1 : ((rdOf ByteArray.empty l0 x5_1).toList != (rdOf ByteArray.empty l1 x5_1).toList) = true := bne_iff_ne.mpr c7
     obtain rfl := Option.some.inj H
     have p116 : 0 ≤ (x5_1 : Int) := of_decide_eq_true ad
     have q116 : x5_1 < (l0.length : Int) := of_decide_eq_true ad
     obtain ⟨ad116, e116, hx116_0⟩ := Kd.at_string HR0.out x5_1 p116 q116; cases e116; replace p116 := eq_true p116; replace q116 := eq_true q116
     have p117 : 0 ≤ (x5_1 : Int) := of_decide_eq_true ad
     have q117 : x5_1 < (l1.length : Int) := of_decide_eq_true ad
     obtain ⟨ad117, e117, hx117_0⟩ := Kd.at_string HR1.out x5_1 p117 q117; cases e117
     replace p117 := eq_true p117; replace q117 := eq_true q117; go_wp2
     repeat (go_quiet (fail); try go_wp2)
     go_ret
     exact ⟨sq, dr⟩
    rw [if_neg c4] at H; have c4b0 := decide_eq_false c4; clear c4; obtain rfl := Option.some.inj H; go_wp2
    repeat (go_quiet (fail); try go_wp2)
    go_ret
    exact ⟨sq, dr⟩
 rw [if_neg c3] at H
 have c3b0 : ((l0.length : Int) == (l1.length : Int)) = false := beq_eq_false_iff_ne.mpr c3
 have c3b1 : ((l0.length : Int) != (l1.length : Int)) = true := bne_iff_ne.mpr c3
 have c3b2 : (l0.length == l1.length) = false := b25_
 obtain rfl := Option.some.inj H; go_enter Try.func49, Try.ntmps49; go_wp2
 repeat (go_quiet (fail); try go_wp2)
 go_ret
 exact ⟨sq, dr⟩
-- shrunk

/-! ### spec_l3Long: function 85 -/
def spec_l3Long.l0 : Nat → List ByteArray → Int → Int → Option (Int)
 | 0, _, _, _ => none
 | k + 1, x0, x3, x4 => if x4 < (x0.length : Int) then (if 0 ≤ x4 then (if ((rdOf ByteArray.empty x0 x4).size : Int) > x3 then (spec_l3Long.l0 k x0 ((rdOf ByteArray.empty x0 x4).size : Int) (wrap64 (x4 + 1))) else (spec_l3Long.l0 k x0 x3 (wrap64 (x4 + 1)))) else (none)) else (some x3)
def spec_l3Long.f (k : Nat) (l0 : List ByteArray) : Option (Int) := spec_l3Long.l0 k l0 0 0
theorem spec_l3Long.calls (k : Nat) (A0 : Option Addr) (c0 : Nat) (l0 : List ByteArray) (r : Int) (w : World) (hr0 : Kd.C Kd.string w A0 l0.length l0) (hc0 : l0.length ≤ c0) (h : spec_l3Long.f k l0 = some r) :
  Calls Try.prog 85 #[.slice A0 l0.length c0] w fun e w' => e = .returned (.int .i64 r) ∧ Drawn0 w w' := by
 have HR0 := am hr0; have HC0 := am hc0; clear hr0 hc0
 have H : (spec_l3Long.l0 k l0 0 0) = some r := h
 clear h
 have H' := am H
 clear H; go_enter Try.func85, Try.ntmps85; go_wp2
 go_loopg [3, 4] k (fun kq v3 v4 w' => ∃ (x3_1 : Int) (x4_1 : Int), v3 = .int .i64 x3_1 ∧ v4 = .int .i64 x4_1 ∧ Aside0 (spec_l3Long.l0 kq l0 x3_1 x4_1 = some r) ∧ Aside0 (kq ≤ k) ∧ Drawn0 w w')
 case atStart => exact ⟨(0), (0), sq, sq, H', ⟨Nat.le_refl _⟩, dr⟩
 case round =>
  clear H'; obtain ⟨x3_1, x4_1, rfl, rfl, HA, HK1, ⟨m1, rfl⟩⟩ := hrel
  cases gk with
  | zero => exact absurd HA.out (by simp [spec_l3Long.l0])
  | succ k1 =>
   have H := HA.out; clear HA; simp only [spec_l3Long.l0] at H
   by_cases c2 : x4_1 < (l0.length : Int)
   ·rw [if_pos c2] at H; have c2b0 := decide_eq_true c2; clear c2
    replace H := it H; obtain ⟨c3b0, H⟩ := H
    by_cases c4 : ((rdOf ByteArray.empty l0 x4_1).size : Int) > x3_1
    ·rw [if_pos c4] at H; have c4b0 := decide_eq_true c4; clear c4
     have H' := am H
     clear H
     have p118 : 0 ≤ (x4_1 : Int) := of_decide_eq_true ad
     have q118 : x4_1 < (l0.length : Int) := of_decide_eq_true ad
     obtain ⟨ad118, e118, hx118_0⟩ := Kd.at_string HR0.out x4_1 p118 q118; cases e118; replace p118 := eq_true p118; replace q118 := eq_true q118
     have p119 : 0 ≤ (x4_1 : Int) := of_decide_eq_true ad
     have q119 : x4_1 < (l0.length : Int) := of_decide_eq_true ad
     obtain ⟨ad119, e119, hx119_0⟩ := Kd.at_string HR0.out x4_1 p119 q119
     obtain rfl : ad118 = ad119 := (by injection e119)
     replace p119 := eq_true p119; replace q119 := eq_true q119; go_wp2
     go_roundg k1
     case measure => have := HK1.out; omega
     case rel => exact ⟨(((rdOf ByteArray.empty l0 x4_1).size : Int)), (wrap64 (x4_1 + 1)), sq, sq, H', ⟨b11_⟩, dr⟩
    rw [if_neg c4] at H; have c4b0 := decide_eq_false c4; clear c4
    have H' := am H
    clear H
    have p118 : 0 ≤ (x4_1 : Int) := of_decide_eq_true ad
    have q118 : x4_1 < (l0.length : Int) := of_decide_eq_true ad
    obtain ⟨ad118, e118, hx118_0⟩ := Kd.at_string HR0.out x4_1 p118 q118; cases e118
    replace p118 := eq_true p118; replace q118 := eq_true q118; go_wp2
    go_roundg k1
    case measure => have := HK1.out; omega
    case rel => exact ⟨(x3_1), (wrap64 (x4_1 + 1)), sq, sq, H', ⟨b11_⟩, dr⟩
   rw [if_neg c2] at H; have c2b0 := decide_eq_false c2; clear c2; obtain rfl := Option.some.inj H; go_wp2; go_ret
   exact ⟨sq, dr⟩

/-! ### spec_l3Less: function 64 -/
mutual
def spec_l3Less.l0 : Nat → List ByteArray → List ByteArray → Int → Option (Bool)
 | 0, _, _, _ => none
 | k + 1, x0, x1, x5 => if x5 < (x0.length : Int) then (spec_l3Less.j1 k x0 x1 x5 (decide (x5 < (x1.length : Int)))) else (spec_l3Less.j1 k x0 x1 x5 false)
def spec_l3Less.j1 : Nat → List ByteArray → List ByteArray → Int → Bool → Option (Bool)
 | 0, _, _, _, _ => none
 | k + 1, x0, x1, x5, x25 => if x25 = true then (if 0 ≤ x5 then (if x5 < (x0.length : Int) then (if x5 < (x1.length : Int) then (if (rdOf ByteArray.empty x0 x5).toList = (rdOf ByteArray.empty x1 x5).toList then (spec_l3Less.l0 k x0 x1 (wrap64 (x5 + 1))) else (some (Op.bytesLess ((rdOf ByteArray.empty x0 x5).toList) ((rdOf ByteArray.empty x1 x5).toList)))) else (none)) else (none)) else (none)) else (some (decide ((x0.length : Int) < (x1.length : Int))))
end
def spec_l3Less.f (k : Nat) (l0 : List ByteArray) (l1 : List ByteArray) : Option (Bool) := (spec_l3Long.f k l0).bind fun t120 => ((spec_l3Long.f k l1).bind fun t121 => (if t120 = t121 then (spec_l3Less.l0 k l0 l1 0) else ((spec_l3Long.f k l0).bind fun t122 => ((spec_l3Long.f k l1).bind fun t123 => (some (decide (t122 > t123)))))))
theorem spec_l3Less.calls (k : Nat) (A0 : Option Addr) (c0 : Nat) (l0 : List ByteArray) (A1 : Option Addr) (c1 : Nat) (l1 : List ByteArray) (r : Bool) (w : World) (hr0 : Kd.C Kd.string w A0 l0.length l0) (hc0 : l0.length ≤ c0) (hr1 : Kd.C Kd.string w A1 l1.length l1) (hc1 : l1.length ≤ c1) (h : spec_l3Less.f k l0 l1 = some r) :
  Calls Try.prog 64 #[.slice A0 l0.length c0, .slice A1 l1.length c1] w fun e w' => e = .returned (.bool r) ∧ Drawn0 w w' := by
 have HR0 := am hr0; have HC0 := am hc0; clear hr0 hc0; have HR1 := am hr1; have HC1 := am hc1; clear hr1 hc1
 have H : ((spec_l3Long.f k l0).bind fun t120 => ((spec_l3Long.f k l1).bind fun t121 => (if t120 = t121 then (spec_l3Less.l0 k l0 l1 0) else ((spec_l3Long.f k l0).bind fun t122 => ((spec_l3Long.f k l1).bind fun t123 => (some (decide (t122 > t123)))))))) = some r := h
 clear h; replace H := bs H; obtain ⟨t120, A30, H⟩ := H; (try dsimp only at H); have A3 := Aside0.mk A30; clear A30; replace H := bs H; obtain ⟨t121, A40, H⟩ := H; (try dsimp only at H); have A4 := Aside0.mk A40; clear A40
 by_cases c5 : t120 = t121
 ·rw [if_pos c5] at H
  have c5b0 : (t120 == t121) = true := beq_iff_eq.mpr c5
  have c5b1 : (t120 != t121) = false := bne_eq_false_iff_eq.mpr c5
  clear c5
  have H' := am H
  clear H; go_enter Try.func64, Try.ntmps64
  go_wp2_with (first | (go_at_call 85; (with_reducible refine (spec_l3Long.calls k _ _ l0 t120 _ ?side1 ?side2 A3.out).mono ?_); (case side1 => repeat (first | exact HR0.out | (with_reducible refine Kd.C_alloc ?_ _) | (with_reducible refine Kd.C_drewN ?_ _) | (with_reducible refine Kd.C_drew ?_))); (case side2 => exact HC0.out); rintro e w' ⟨rfl, ⟨nd, rfl⟩⟩; (try first | exact ⟨rfl, _, World.drewN_drewN _ _ _⟩ | exact ⟨rfl, _, Eq.trans (World.drewN_drewN _ _ _) (congrArg (World.drewN _) (Nat.add_assoc _ _ _))⟩)) | (go_at_call 85; (with_reducible refine (spec_l3Long.calls k _ _ l1 t121 _ ?side1 ?side2 A4.out).mono ?_); (case side1 => repeat (first | exact HR1.out | (with_reducible refine Kd.C_alloc ?_ _) | (with_reducible refine Kd.C_drewN ?_ _) | (with_reducible refine Kd.C_drew ?_))); (case side2 => exact HC1.out); rintro e w' ⟨rfl, ⟨nd, rfl⟩⟩; (try first | exact ⟨rfl, _, World.drewN_drewN _ _ _⟩ | exact ⟨rfl, _, Eq.trans (World.drewN_drewN _ _ _) (congrArg (World.drewN _) (Nat.add_assoc _ _ _))⟩)))
  repeat (go_quiet (first | (go_at_call 85; (with_reducible refine (spec_l3Long.calls k _ _ l0 t120 _ ?side1 ?side2 A3.out).mono ?_); (case side1 => repeat (first | exact HR0.out | (with_reducible refine Kd.C_alloc ?_ _) | (with_reducible refine Kd.C_drewN ?_ _) | (with_reducible refine Kd.C_drew ?_))); (case side2 => exact HC0.out); rintro e w' ⟨rfl, ⟨nd, rfl⟩⟩; (try first | exact ⟨rfl, _, World.drewN_drewN _ _ _⟩ | exact ⟨rfl, _, Eq.trans (World.drewN_drewN _ _ _) (congrArg (World.drewN _) (Nat.add_assoc _ _ _))⟩)) | (go_at_call 85; (with_reducible refine (spec_l3Long.calls k _ _ l1 t121 _ ?side1 ?side2 A4.out).mono ?_); (case side1 => repeat (first | exact HR1.out | (with_reducible refine Kd.C_alloc ?_ _) | (with_reducible refine Kd.C_drewN ?_ _) | (with_reducible refine Kd.C_drew ?_))); (case side2 => exact HC1.out); rintro e w' ⟨rfl, ⟨nd, rfl⟩⟩; (try first | exact ⟨rfl, _, World.drewN_drewN _ _ _⟩ | exact ⟨rfl, _, Eq.trans (World.drewN_drewN _ _ _) (congrArg (World.drewN _) (Nat.add_assoc _ _ _))⟩))); try go_wp2_with (first | (go_at_call 85; (with_reducible refine (spec_l3Long.calls k _ _ l0 t120 _ ?side1 ?side2 A3.out).mono ?_); (case side1 => repeat (first | exact HR0.out | (with_reducible refine Kd.C_alloc ?_ _) | (with_reducible refine Kd.C_drewN ?_ _) | (with_reducible refine Kd.C_drew ?_))); (case side2 => exact HC0.out); rintro e w' ⟨rfl, ⟨nd, rfl⟩⟩; (try first | exact ⟨rfl, _, World.drewN_drewN _ _ _⟩ | exact ⟨rfl, _, Eq.trans (World.drewN_drewN _ _ _) (congrArg (World.drewN _) (Nat.add_assoc _ _ _))⟩)) | (go_at_call 85; (with_reducible refine (spec_l3Long.calls k _ _ l1 t121 _ ?side1 ?side2 A4.out).mono ?_); (case side1 => repeat (first | exact HR1.out | (with_reducible refine Kd.C_alloc ?_ _) | (with_reducible refine Kd.C_drewN ?_ _) | (with_reducible refine Kd.C_drew ?_))); (case side2 => exact HC1.out); rintro e w' ⟨rfl, ⟨nd, rfl⟩⟩; (try first | exact ⟨rfl, _, World.drewN_drewN _ _ _⟩ | exact ⟨rfl, _, Eq.trans (World.drewN_drewN _ _ _) (congrArg (World.drewN _) (Nat.add_assoc _ _ _))⟩))))
  go_loopg [5] k (fun kq v5 w' => ∃ (x5_1 : Int), v5 = .int .i64 x5_1 ∧ Aside0 (spec_l3Less.l0 kq l0 l1 x5_1 = some r) ∧ Aside0 (kq ≤ k) ∧ Drawn0 w w')
  case atStart => exact ⟨(0), sq, H', ⟨Nat.le_refl _⟩, dr⟩
  case round =>
   clear H'; (try clear c1); (try clear p2); (try clear c5); (try clear c5b0); (try clear c5b1); obtain ⟨x5_1, rfl, HA, HK1, ⟨m1, rfl⟩⟩ := hrel
   cases gk with
   | zero => exact absurd HA.out (by simp [spec_l3Less.l0])
   | succ k1 =>
    have H := HA.out; clear HA; simp only [spec_l3Less.l0] at H; have HC6 := am H; clear H
    go_upto_region 4 with (fail)
    repeat (go_quiet (fail); go_upto_region 4 with (fail))
    go_cut [25] (fun v25 wc => ∃ (kq : Nat) (x25_5 : Bool), v25 = .bool x25_5 ∧ Aside0 (spec_l3Less.j1 kq l0 l1 x5_1 x25_5 = some r) ∧ Aside0 (kq ≤ k1) ∧ Drawn0 w wc)
    case first =>
     have H := HC6.out; clear HC6
     by_cases c7 : x5_1 < (l0.length : Int)
     ·rw [if_pos c7] at H; have c7b0 := decide_eq_true c7; clear c7
      (first | rw [c7b0] | (simp only [i64_w, i32_w]; rw [c7b0]) | skip)
      have H' := am H
      clear H; go_wp2
      repeat (go_quiet (fail); try go_wp2)
      go_meet
      case rel => exact ⟨_, (decide (x5_1 < (l1.length : Int))), sq, H', ⟨by have := HK1.out; first | omega | exact Nat.le_refl _⟩, dr⟩
     rw [if_neg c7] at H; have c7b0 := decide_eq_false c7; clear c7
     (first | rw [c7b0] | (simp only [i64_w, i32_w]; rw [c7b0]) | skip)
     have H' := am H
     clear H; go_wp2
     repeat (go_quiet (fail); try go_wp2)
     go_meet
     case rel => exact ⟨_, (false), sq, H', ⟨by have := HK1.out; first | omega | exact Nat.le_refl _⟩, dr⟩
    case rest =>
     clear HC6; (try clear c1); (try clear p2); (try clear c5); (try clear c5b0); (try clear c5b1); (try clear c6); (try clear c7); (try clear c7b0); (try clear p2); obtain ⟨kq, x25_5, rfl, HA, HJ5, ⟨mc5, rfl⟩⟩ := hcut
     cases kq with
     | zero => exact absurd HA.out (by simp [spec_l3Less.j1])
     | succ kj5 =>
      have H := HA.out; clear HA; simp only [spec_l3Less.j1] at H
      by_cases c8 : x25_5 = true
      ·subst c8
       rw [if_pos rfl] at H; replace H := it H; obtain ⟨c9b0, H⟩ := H; replace H := it H; obtain ⟨c10b0, H⟩ := H; replace H := it H; obtain ⟨c11b0, H⟩ := H
       by_cases c12 : (rdOf ByteArray.empty l0 x5_1).toList = (rdOf ByteArray.empty l1 x5_1).toList
       ·rw [if_pos c12] at H
        have c12b0 : ((rdOf ByteArray.empty l0 x5_1).toList == (rdOf ByteArray.empty l1 x5_1).toList) = true := beq_iff_eq.mpr c12
        have c12b1 : ((rdOf ByteArray.empty l0 x5_1).toList != (rdOf ByteArray.empty l1 x5_1).toList) = false := bne_eq_false_iff_eq.mpr c12
        clear c12
        have H' := am H
        clear H
        have p124 : 0 ≤ (x5_1 : Int) := of_decide_eq_true ad
        have q124 : x5_1 < (l0.length : Int) := of_decide_eq_true ad
        obtain ⟨ad124, e124, hx124_0⟩ := Kd.at_string HR0.out x5_1 p124 q124; cases e124; replace p124 := eq_true p124; replace q124 := eq_true q124
        have p125 : 0 ≤ (x5_1 : Int) := of_decide_eq_true ad
        have q125 : x5_1 < (l1.length : Int) := of_decide_eq_true ad
        obtain ⟨ad125, e125, hx125_0⟩ := Kd.at_string HR1.out x5_1 p125 q125; cases e125
        replace p125 := eq_true p125; replace q125 := eq_true q125; go_wp2
        repeat (go_quiet (fail); try go_wp2)
        go_roundg kj5
        case measure => have := HK1.out; have := HJ5.out; omega
        case rel => exact ⟨(wrap64 (x5_1 + 1)), sq, H', ⟨by have := HK1.out; have := HJ5.out; omega⟩, dr⟩
       rw [if_neg c12] at H
       have c12b0 : ((rdOf ByteArray.empty l0 x5_1).toList == (rdOf ByteArray.empty l1 x5_1).toList) = false := beq_eq_false_iff_ne.mpr c12
       have c12b1 : ((rdOf ByteArray.empty l0 x5_1).toList != (rdOf ByteArray.empty l1 x5_1).toList) = true := bne_iff_ne.mpr c12
       obtain rfl := Option.some.inj H
       have p124 : 0 ≤ (x5_1 : Int) := of_decide_eq_true ad
       have q124 : x5_1 < (l0.length : Int) := of_decide_eq_true ad
       obtain ⟨ad124, e124, hx124_0⟩ := Kd.at_string HR0.out x5_1 p124 q124; cases e124; replace p124 := eq_true p124; replace q124 := eq_true q124
       have p125 : 0 ≤ (x5_1 : Int) := of_decide_eq_true ad
       have q125 : x5_1 < (l1.length : Int) := of_decide_eq_true ad
       obtain ⟨ad125, e125, hx125_0⟩ := Kd.at_string HR1.out x5_1 p125 q125; cases e125; replace p125 := eq_true p125; replace q125 := eq_true q125
       have p126 : 0 ≤ (x5_1 : Int) := of_decide_eq_true ad
       have q126 : x5_1 < (l0.length : Int) := of_decide_eq_true ad
       obtain ⟨ad126, e126, hx126_0⟩ := Kd.at_string HR0.out x5_1 p126 q126
       obtain rfl : ad124 = ad126 := (by injection e126)
       replace p126 := eq_true p126; replace q126 := eq_true q126
       have p127 : 0 ≤ (x5_1 : Int) := of_decide_eq_true ad
       have q127 : x5_1 < (l1.length : Int) := of_decide_eq_true ad
       obtain ⟨ad127, e127, hx127_0⟩ := Kd.at_string HR1.out x5_1 p127 q127
       obtain rfl : ad125 = ad127 := (by injection e127)
       replace p127 := eq_true p127; replace q127 := eq_true q127; go_wp2
       repeat (go_quiet (fail); try go_wp2)
       go_ret
       exact ⟨sq, dr⟩
      replace c8 := Bool.eq_false_iff.mpr c8; subst c8
      rw [if_neg Bool.false_ne_true] at H
      obtain rfl := Option.some.inj H; go_wp2
      repeat (go_quiet (fail); try go_wp2)
      go_ret
      exact ⟨sq, dr⟩
 rw [if_neg c5] at H
 have c5b0 : (t120 == t121) = false := beq_eq_false_iff_ne.mpr c5
 have c5b1 : (t120 != t121) = true := bne_iff_ne.mpr c5
 replace H := bs H; obtain ⟨t122, A130, H⟩ := H; (try dsimp only at H); have A13 := Aside0.mk A130; clear A130
 have same_t122 : t122 = t120 := Option.some.inj (A13.out.symm.trans A3.out)
 replace H := bs H; obtain ⟨t123, A140, H⟩ := H; (try dsimp only at H); have A14 := Aside0.mk A140; clear A140
 have same_t123 : t123 = t121 := Option.some.inj (A14.out.symm.trans A4.out)
 obtain rfl := Option.some.inj H; go_enter Try.func64, Try.ntmps64
 go_wp2_with (first | (go_at_call 85; (with_reducible refine (spec_l3Long.calls k _ _ l0 t120 _ ?side1 ?side2 A3.out).mono ?_); (case side1 => repeat (first | exact HR0.out | (with_reducible refine Kd.C_alloc ?_ _) | (with_reducible refine Kd.C_drewN ?_ _) | (with_reducible refine Kd.C_drew ?_))); (case side2 => exact HC0.out); rintro e w' ⟨rfl, ⟨nd, rfl⟩⟩; (try first | exact ⟨rfl, _, World.drewN_drewN _ _ _⟩ | exact ⟨rfl, _, Eq.trans (World.drewN_drewN _ _ _) (congrArg (World.drewN _) (Nat.add_assoc _ _ _))⟩)) | (go_at_call 85; (with_reducible refine (spec_l3Long.calls k _ _ l1 t121 _ ?side1 ?side2 A4.out).mono ?_); (case side1 => repeat (first | exact HR1.out | (with_reducible refine Kd.C_alloc ?_ _) | (with_reducible refine Kd.C_drewN ?_ _) | (with_reducible refine Kd.C_drew ?_))); (case side2 => exact HC1.out); rintro e w' ⟨rfl, ⟨nd, rfl⟩⟩; (try first | exact ⟨rfl, _, World.drewN_drewN _ _ _⟩ | exact ⟨rfl, _, Eq.trans (World.drewN_drewN _ _ _) (congrArg (World.drewN _) (Nat.add_assoc _ _ _))⟩)) | (go_at_call 85; (with_reducible refine (spec_l3Long.calls k _ _ l0 t122 _ ?side1 ?side2 A13.out).mono ?_); (case side1 => repeat (first | exact HR0.out | (with_reducible refine Kd.C_alloc ?_ _) | (with_reducible refine Kd.C_drewN ?_ _) | (with_reducible refine Kd.C_drew ?_))); (case side2 => exact HC0.out); rintro e w' ⟨rfl, ⟨nd, rfl⟩⟩; (try first | exact ⟨rfl, _, World.drewN_drewN _ _ _⟩ | exact ⟨rfl, _, Eq.trans (World.drewN_drewN _ _ _) (congrArg (World.drewN _) (Nat.add_assoc _ _ _))⟩)) | (go_at_call 85; (with_reducible refine (spec_l3Long.calls k _ _ l1 t123 _ ?side1 ?side2 A14.out).mono ?_); (case side1 => repeat (first | exact HR1.out | (with_reducible refine Kd.C_alloc ?_ _) | (with_reducible refine Kd.C_drewN ?_ _) | (with_reducible refine Kd.C_drew ?_))); (case side2 => exact HC1.out); rintro e w' ⟨rfl, ⟨nd, rfl⟩⟩; (try first | exact ⟨rfl, _, World.drewN_drewN _ _ _⟩ | exact ⟨rfl, _, Eq.trans (World.drewN_drewN _ _ _) (congrArg (World.drewN _) (Nat.add_assoc _ _ _))⟩)))
 repeat (go_quiet (first | (go_at_call 85; (with_reducible refine (spec_l3Long.calls k _ _ l0 t120 _ ?side1 ?side2 A3.out).mono ?_); (case side1 => repeat (first | exact HR0.out | (with_reducible refine Kd.C_alloc ?_ _) | (with_reducible refine Kd.C_drewN ?_ _) | (with_reducible refine Kd.C_drew ?_))); (case side2 => exact HC0.out); rintro e w' ⟨rfl, ⟨nd, rfl⟩⟩; (try first | exact ⟨rfl, _, World.drewN_drewN _ _ _⟩ | exact ⟨rfl, _, Eq.trans (World.drewN_drewN _ _ _) (congrArg (World.drewN _) (Nat.add_assoc _ _ _))⟩)) | (go_at_call 85; (with_reducible refine (spec_l3Long.calls k _ _ l1 t121 _ ?side1 ?side2 A4.out).mono ?_); (case side1 => repeat (first | exact HR1.out | (with_reducible refine Kd.C_alloc ?_ _) | (with_reducible refine Kd.C_drewN ?_ _) | (with_reducible refine Kd.C_drew ?_))); (case side2 => exact HC1.out); rintro e w' ⟨rfl, ⟨nd, rfl⟩⟩; (try first | exact ⟨rfl, _, World.drewN_drewN _ _ _⟩ | exact ⟨rfl, _, Eq.trans (World.drewN_drewN _ _ _) (congrArg (World.drewN _) (Nat.add_assoc _ _ _))⟩)) | (go_at_call 85; (with_reducible refine (spec_l3Long.calls k _ _ l0 t122 _ ?side1 ?side2 A13.out).mono ?_); (case side1 => repeat (first | exact HR0.out | (with_reducible refine Kd.C_alloc ?_ _) | (with_reducible refine Kd.C_drewN ?_ _) | (with_reducible refine Kd.C_drew ?_))); (case side2 => exact HC0.out); rintro e w' ⟨rfl, ⟨nd, rfl⟩⟩; (try first | exact ⟨rfl, _, World.drewN_drewN _ _ _⟩ | exact ⟨rfl, _, Eq.trans (World.drewN_drewN _ _ _) (congrArg (World.drewN _) (Nat.add_assoc _ _ _))⟩)) | (go_at_call 85; (with_reducible refine (spec_l3Long.calls k _ _ l1 t123 _ ?side1 ?side2 A14.out).mono ?_); (case side1 => repeat (first | exact HR1.out | (with_reducible refine Kd.C_alloc ?_ _) | (with_reducible refine Kd.C_drewN ?_ _) | (with_reducible refine Kd.C_drew ?_))); (case side2 => exact HC1.out); rintro e w' ⟨rfl, ⟨nd, rfl⟩⟩; (try first | exact ⟨rfl, _, World.drewN_drewN _ _ _⟩ | exact ⟨rfl, _, Eq.trans (World.drewN_drewN _ _ _) (congrArg (World.drewN _) (Nat.add_assoc _ _ _))⟩))); try go_wp2_with (first | (go_at_call 85; (with_reducible refine (spec_l3Long.calls k _ _ l0 t120 _ ?side1 ?side2 A3.out).mono ?_); (case side1 => repeat (first | exact HR0.out | (with_reducible refine Kd.C_alloc ?_ _) | (with_reducible refine Kd.C_drewN ?_ _) | (with_reducible refine Kd.C_drew ?_))); (case side2 => exact HC0.out); rintro e w' ⟨rfl, ⟨nd, rfl⟩⟩; (try first | exact ⟨rfl, _, World.drewN_drewN _ _ _⟩ | exact ⟨rfl, _, Eq.trans (World.drewN_drewN _ _ _) (congrArg (World.drewN _) (Nat.add_assoc _ _ _))⟩)) | (go_at_call 85; (with_reducible refine (spec_l3Long.calls k _ _ l1 t121 _ ?side1 ?side2 A4.out).mono ?_); (case side1 => repeat (first | exact HR1.out | (with_reducible refine Kd.C_alloc ?_ _) | (with_reducible refine Kd.C_drewN ?_ _) | (with_reducible refine Kd.C_drew ?_))); (case side2 => exact HC1.out); rintro e w' ⟨rfl, ⟨nd, rfl⟩⟩; (try first | exact ⟨rfl, _, World.drewN_drewN _ _ _⟩ | exact ⟨rfl, _, Eq.trans (World.drewN_drewN _ _ _) (congrArg (World.drewN _) (Nat.add_assoc _ _ _))⟩)) | (go_at_call 85; (with_reducible refine (spec_l3Long.calls k _ _ l0 t122 _ ?side1 ?side2 A13.out).mono ?_); (case side1 => repeat (first | exact HR0.out | (with_reducible refine Kd.C_alloc ?_ _) | (with_reducible refine Kd.C_drewN ?_ _) | (with_reducible refine Kd.C_drew ?_))); (case side2 => exact HC0.out); rintro e w' ⟨rfl, ⟨nd, rfl⟩⟩; (try first | exact ⟨rfl, _, World.drewN_drewN _ _ _⟩ | exact ⟨rfl, _, Eq.trans (World.drewN_drewN _ _ _) (congrArg (World.drewN _) (Nat.add_assoc _ _ _))⟩)) | (go_at_call 85; (with_reducible refine (spec_l3Long.calls k _ _ l1 t123 _ ?side1 ?side2 A14.out).mono ?_); (case side1 => repeat (first | exact HR1.out | (with_reducible refine Kd.C_alloc ?_ _) | (with_reducible refine Kd.C_drewN ?_ _) | (with_reducible refine Kd.C_drew ?_))); (case side2 => exact HC1.out); rintro e w' ⟨rfl, ⟨nd, rfl⟩⟩; (try first | exact ⟨rfl, _, World.drewN_drewN _ _ _⟩ | exact ⟨rfl, _, Eq.trans (World.drewN_drewN _ _ _) (congrArg (World.drewN _) (Nat.add_assoc _ _ _))⟩))))
 go_ret
 exact ⟨sq, dr⟩
-- shrunk

/-! ### spec_l3Sort: function 50 -/
mutual
def spec_l3Sort.l0 : Nat → List (List ByteArray) → List (List ByteArray) → Int → Option ((List (List ByteArray)))
 | 0, _, _, _ => none
 | k + 1, x0, x3, x4 => if x4 < (x0.length : Int) then (spec_l3Sort.l1 k x0 x3 x4 (x3.length : Int)) else (some x3)
def spec_l3Sort.l1 : Nat → List (List ByteArray) → List (List ByteArray) → Int → Int → Option ((List (List ByteArray)))
 | 0, _, _, _, _ => none
 | k + 1, x0, x3, x4, x5 => if x5 > 0 then (if 0 ≤ x4 then (if x4 < (x0.length : Int) then (if 0 ≤ (wrap64 (x5 - 1)) then (if (wrap64 (x5 - 1)) < (x3.length : Int) then ((spec_l3Less.f k (rd_L1 x0 x4) (rd_L1 x3 (wrap64 (x5 - 1)))).bind fun t133 => (spec_l3Sort.j2 k x0 x3 x4 x5 t133)) else (none)) else (none)) else (none)) else (none)) else (spec_l3Sort.j2 k x0 x3 x4 x5 false)
def spec_l3Sort.j2 : Nat → List (List ByteArray) → List (List ByteArray) → Int → Int → Bool → Option ((List (List ByteArray)))
 | 0, _, _, _, _, _ => none
 | k + 1, x0, x3, x4, x5, x28 => if x28 = true then (spec_l3Sort.l1 k x0 x3 x4 (wrap64 (x5 - 1))) else ((some (([] : List (List ByteArray)) : List (List ByteArray))).bind fun y134 => (if 0 ≤ x5 then (if x5 ≤ (x3.length : Int) then ((some (x3.take (x5 : Int).toNat : List (List ByteArray))).bind fun y137 => (if y134.length + y137.length < 5864062014805 then ((some (y134 ++ y137 : List (List ByteArray))).bind fun y142 => (if 0 ≤ x4 then (if x4 < (x0.length : Int) then ((some (([rd_L1 x0 x4] : List (List ByteArray)) : List (List ByteArray))).bind fun y146 => (if y142.length + y146.length < 5864062014805 then ((some (y142 ++ y146 : List (List ByteArray))).bind fun y149 => ((some (x3.drop (x5 : Int).toNat : List (List ByteArray))).bind fun y152 => (if y149.length + y152.length < 5864062014805 then (spec_l3Sort.l0 k x0 (y149 ++ y152) (wrap64 (x4 + 1))) else (none)))) else (none))) else (none)) else (none))) else (none))) else (none)) else (none)))
end
def spec_l3Sort.f (k : Nat) (l0 : List (List ByteArray)) : Option ((List (List ByteArray))) := spec_l3Sort.l0 k l0 (([] : List (List ByteArray))) 0
def spec_l3Sort.T6 : Bool × List (List Nat × List Nat) := (true, [([], []), ([0], [0]), ([1], [1]), ([2], [2]), ([2], [2]), ([3, 4, 2], [2, 3, 4]), ([5, 2], [2, 5]), ([2], [2]), ([2], [2]), ([8, 2], [2, 8]), ([7, 9, 2], [2, 7, 9]), ([10, 2], [2, 10]), ([6, 11, 2, 2], [2, 6, 11]), ([2, 12], [2, 12])])
def spec_l3Sort.B6 : List Nat := [0, 1, 3, 7, 7, 31, 63, 7, 7, 263, 903, 1927, 4095, 8191]
theorem spec_l3Sort.tab6 : rtab .any (opsOf Try.f50 6) = spec_l3Sort.T6 := by kernel_rfl
theorem spec_l3Sort.bits6 : waitsOk spec_l3Sort.T6.2 spec_l3Sort.B6 = true := by kernel_rfl
def spec_l3Sort.T8 : Bool × List (List Nat × List Nat) := (true, [([], []), ([], []), ([], []), ([1, 2], [1, 2]), ([0, 3], [0, 3]), ([], []), ([], []), ([5, 6], [5, 6]), ([7], [7]), ([8], [8]), ([4, 9, 4], [4, 9]), ([], []), ([], []), ([11, 12], [11, 12]), ([10, 13, 10], [10, 13]), ([14, 14, 0, 1, 2, 3, 4, 5, 6, 7, 8, 9, 10, 11, 12, 13, 14], [1, 11, 14])])
def spec_l3Sort.B8 : List Nat := [0, 0, 0, 6, 15, 0, 0, 96, 224, 480, 1023, 0, 0, 6144, 16383, 32767]
theorem spec_l3Sort.tab8 : rtab .any (opsOf Try.f50 8) = spec_l3Sort.T8 := by kernel_rfl
theorem spec_l3Sort.bits8 : waitsOk spec_l3Sort.T8.2 spec_l3Sort.B8 = true := by kernel_rfl
theorem spec_l3Sort.calls (k : Nat) (P0_ : Nat → Prop) (A0 : Option Addr) (c0 : Nat) (l0 : List (List ByteArray)) (r : List (List ByteArray)) (w : World) (hs0 : Kd.V (Kd.slice 9 Kd.string) 22 w w.heap.size (fun k_ => P0_ k_) (.slice A0 l0.length c0) l0) (h : spec_l3Sort.f k l0 = some r) :
  Calls Try.prog 50 #[.slice A0 l0.length c0] w fun e w' => ∃ v0_ : Value, e = .returned (v0_) ∧ Kd.N (Kd.slice 9 Kd.string) 22 w' w.heap.size (fun k_ => (P0_ k_ ∨ w.heap.size ≤ k_)) v0_ r ∧ Below w.heap.size w w' := by
 have HO0 := am (show Kd.V (Kd.slice 9 Kd.string) 22 w w.heap.size (fun k_ => (P0_ k_ ∨ w.heap.size ≤ k_)) (.slice A0 l0.length c0) l0 from Kd.V_mono hs0 (fun k_ hk => .inl hk)); have HB := am (Below.refl w.heap.size w)
 have H : (spec_l3Sort.l0 k l0 (([] : List (List ByteArray))) 0) = some r := h
 clear h; obtain ⟨y128, hy128⟩ : ∃ y_ : List (List ByteArray), y_ = (([] : List (List ByteArray))) := ⟨_, rfl⟩
 replace H : (spec_l3Sort.l0 k l0 y128 0) = some r := by first | (rw [hy128]; with_reducible exact H) | (have H2_ := bm H; rw [hy128]; with_reducible exact H2_) | (with_reducible exact bm H) | with_reducible exact H | (rw [hy128]; exact H) | exact H
 have Ny128 := am hy128; clear hy128
 have H' := am H
 clear H; go_enter Try.func50, Try.ntmps50
 go_wp2_with (first | ((with_reducible refine gate_dst (N := 6) rfl ?_); refine Kd.N_lit (Kd.slice 9 Kd.string) _ 22 ?hg (N' := 6) ?hd (xs := ([] : List (List ByteArray))) (inner := []) (ok := (fun k_ => (P0_ k_ ∨ w.heap.size ≤ k_))) (okp := (fun k_ => (P0_ k_ ∨ w.heap.size ≤ k_))) ?hr ?hp (fun _ hk => hk) ((show ∀ k_, w.heap.size ≤ k_ → (fun k_ => (P0_ k_ ∨ w.heap.size ≤ k_)) k_ from fun k_ hk => (.inr (Nat.le_trans (below_size bel) hk))) _ (Nat.le_refl _)) (Below.refl _ _) (Nat.le_refl _) (by simp) ?_; (case hd => rfl); (case hg => rfl); (case hr => first | (go_simp; done) | (go_simp; rfl)); (case hp => exact (Reps.none _ _)); intro v129 w2 ho3 hb hg_ hnew_; clear hg_ hnew_; (first | rw [← Ny128.out] at ho3 | (simp only [Int.reduceToNat] at ho3; rw [← Ny128.out] at ho3) | (simp only [Int.toNat_natCast] at ho3; rw [← Ny128.out] at ho3)); replace HO0 := am (Kd.V_elder' (vq HO0.out) (Kd.N_base ho3) hb); have HO130 := am (Kd.N_lower ho3 (below_size bel)); replace HB := am (below_step bel hb); clear hb ho3))
 go_loopg [3, 4] k (fun kq v3 v4 w' => ∃ (x3_1 : List (List ByteArray)) (x4_1 : Int), v4 = .int .i64 x4_1 ∧ Aside0 (spec_l3Sort.l0 kq l0 x3_1 x4_1 = some r) ∧ Aside0 (kq ≤ k) ∧ Aside0 (Kd.V (Kd.slice 9 Kd.string) 22 w' w.heap.size (fun k_ => (P0_ k_ ∨ w.heap.size ≤ k_) ∧ some k_ ≠ (v3 : Value).ownBlock) (.slice A0 l0.length c0) l0) ∧ Aside0 (Kd.N (Kd.slice 9 Kd.string) 22 w' w.heap.size (fun k_ => (P0_ k_ ∨ w.heap.size ≤ k_)) v3 x3_1) ∧ Aside0 (Below w.heap.size w w'))
 case atStart => exact ⟨(y128), (0), sq, H', ⟨Nat.le_refl _⟩, ⟨vq HO0.out⟩, ⟨by (with_reducible repeat (first | apply Kd.N_alloc | apply Kd.N_drewN | apply Kd.N_drew)); exact HO130.out⟩, ⟨bel⟩⟩
 case round =>
  clear H'; (try clear p2); obtain ⟨x3_1, x4_1, rfl, HA, HK1, HO_0, HO_3, HB⟩ := hrel
  cases gk with
  | zero => exact absurd HA.out (by simp [spec_l3Sort.l0])
  | succ k1 =>
   have H := HA.out; clear HA; simp only [spec_l3Sort.l0] at H
   by_cases c4 : x4_1 < (l0.length : Int)
   ·rw [if_pos c4] at H; have c4b0 := decide_eq_true c4; clear c4
    have H' := am H
    clear H; obtain ⟨Ao5, co5, eo5⟩ := Kd.N_slice HO_3.out; subst eo5; go_wp2
    go_loopg [5] k1 (fun kq v5 w' => ∃ (x5_2 : Int), v5 = .int .i64 x5_2 ∧ Aside0 (spec_l3Sort.l1 kq l0 x3_1 x4_1 x5_2 = some r) ∧ Aside0 (kq ≤ k1) ∧ Aside0 (Kd.V (Kd.slice 9 Kd.string) 22 w' w.heap.size (fun k_ => (P0_ k_ ∨ w.heap.size ≤ k_) ∧ some k_ ≠ ((.slice Ao5 x3_1.length co5) : Value).ownBlock) (.slice A0 l0.length c0) l0) ∧ Aside0 (Kd.N (Kd.slice 9 Kd.string) 22 w' w.heap.size (fun k_ => (P0_ k_ ∨ w.heap.size ≤ k_)) (.slice Ao5 x3_1.length co5) x3_1) ∧ Aside0 (Below w.heap.size w w'))
    case atStart => exact ⟨((x3_1.length : Int)), sq, H', ⟨Nat.le_refl _⟩, ⟨vq HO_0.out⟩, ⟨b0_⟩, ⟨bel⟩⟩
    case round =>
     clear H'; (try clear p2); (try clear c4); (try clear c4b0); (try clear c5); (try clear p2); obtain ⟨x5_2, rfl, HA, HK2, HO_0, HO_3, HB⟩ := hrel
     cases gk with
     | zero => exact absurd HA.out (by simp [spec_l3Sort.l1])
     | succ k2 =>
      have H := HA.out; clear HA; simp only [spec_l3Sort.l1] at H; have HC6 := am H; clear H
      go_upto_region 6 with (fail)
      go_cut [28] (fun v28 wc => ∃ (kq : Nat) (x28_5 : Bool), v28 = .bool x28_5 ∧ Aside0 (spec_l3Sort.j2 kq l0 x3_1 x4_1 x5_2 x28_5 = some r) ∧ Aside0 (kq ≤ k2) ∧ Aside0 (Kd.V (Kd.slice 9 Kd.string) 22 wc w.heap.size (fun k_ => (P0_ k_ ∨ w.heap.size ≤ k_) ∧ some k_ ≠ ((.slice Ao5 x3_1.length co5) : Value).ownBlock) (.slice A0 l0.length c0) l0) ∧ Aside0 (Kd.N (Kd.slice 9 Kd.string) 22 wc w.heap.size (fun k_ => (P0_ k_ ∨ w.heap.size ≤ k_)) (.slice Ao5 x3_1.length co5) x3_1) ∧ Aside0 (Below w.heap.size w wc))
      case first =>
       have H := HC6.out; clear HC6
       by_cases c7 : x5_2 > 0
       ·rw [if_pos c7] at H; have c7b0 := decide_eq_true c7; clear c7
        (first | rw [c7b0] | (simp only [i64_w, i32_w]; rw [c7b0]) | skip)
        replace H := it H; obtain ⟨c8b0, H⟩ := H
        replace H := it H; obtain ⟨c9b0, H⟩ := H; obtain ⟨ji10, hji10⟩ : ∃ j_ : Int, (wrap64 (x5_2 - 1)) = j_ := ⟨_, rfl⟩
        replace H : (if 0 ≤ (ji10) then (if (ji10) < (x3_1.length : Int) then ((spec_l3Less.f k2 (rd_L1 l0 x4_1) (rd_L1 x3_1 (ji10))).bind fun t133 => (spec_l3Sort.j2 k2 l0 x3_1 x4_1 x5_2 t133)) else (none)) else (none)) = some r := by first | (rw [hji10] at H; exact H) | (simp only [hji10] at H ⊢; exact H)
        have hji10w : (IntKind.i64.wrap (x5_2 - 1)) = ji10 := (i64_w _).trans hji10
        replace H := it H; obtain ⟨c11b0, H⟩ := H
        replace H := it H; obtain ⟨c12b0, H⟩ := H; replace H := bs H; obtain ⟨t133, A130, H⟩ := H; (try dsimp only at H); have A13 := Aside0.mk A130; clear A130
        have H' := am H
        clear H
        try go_wp2
        replace HO_0 := am (Kd.V_drew HO_0.out); replace HO_3 := am (Kd.N_drew HO_3.out); replace HB := am (below_drew1 HB.out)
        have p131 : 0 ≤ (x4_1 : Int) := of_decide_eq_true ad
        have q131 : x4_1 < (l0.length : Int) := of_decide_eq_true ad
        obtain ⟨ad131, A131_0, c131_0, e131, hx131_0, hl131_0, hi131_0⟩ := at_L1 (Kd.V_reads' HO_0.out).2.2 x4_1 p131 q131; cases e131
        obtain ⟨ce131, hce131, hMe131, hcc131⟩ := Kd.V_get HO_0.out [] x4_1 p131 (by first | exact q131 | exact of_decide_eq_true ad | (have e_ := (Kd.V_reads' HO_0.out).1; omega))
        obtain ⟨ua131_0, uc131_0, rfl, ul131_0, ge131_0⟩ := Kd.FK_slice_open hMe131; have hv131_0 := hcc131 0 _ rfl; rw [Nat.add_zero, show ((Kd.slice 9 Kd.string)).sz = 1 from rfl, Nat.mul_one] at hv131_0; replace hv131_0 := Option.some.inj (hv131_0.symm.trans hx131_0)
        injection hv131_0 with hva_ hvn_ hvc_
        rw [hva_] at ge131_0; rw [hvc_] at ul131_0; have HL131_0 := am (show Kd.V Kd.string 9 _ w.heap.size _ _ (rd_L1 l0 x4_1) from Kd.V_mk ul131_0 ge131_0); clear hva_ hvn_ hvc_ ge131_0 ul131_0; clear hcc131 hce131; have HR131_0 := am hi131_0; have HC131_0 := am hl131_0; clear hi131_0 hl131_0; replace p131 := eq_true p131; replace q131 := eq_true q131
        have p132 : 0 ≤ ((ji10) : Int) := of_decide_eq_true ad
        have q132 : (ji10) < (x3_1.length : Int) := of_decide_eq_true ad
        obtain ⟨ad132, A132_0, c132_0, e132, hx132_0, hl132_0, hi132_0⟩ := at_L1 (Kd.N_reads' HO_3.out).2.2 (ji10) p132 q132; cases e132
        obtain ⟨ce132, hce132, hMe132, hcc132⟩ := Kd.N_get HO_3.out [] (ji10) p132 (by first | exact q132 | exact of_decide_eq_true ad | (have e_ := (Kd.N_reads' HO_3.out).1; omega))
        obtain ⟨ua132_0, uc132_0, rfl, ul132_0, ge132_0⟩ := Kd.FK_slice_open hMe132; have hv132_0 := hcc132 0 _ rfl; rw [Nat.add_zero, show ((Kd.slice 9 Kd.string)).sz = 1 from rfl, Nat.mul_one] at hv132_0; replace hv132_0 := Option.some.inj (hv132_0.symm.trans hx132_0)
        injection hv132_0 with hva_ hvn_ hvc_
        rw [hva_] at ge132_0; rw [hvc_] at ul132_0; have HL132_0 := am (show Kd.V Kd.string 9 _ w.heap.size _ _ (rd_L1 x3_1 (ji10)) from Kd.V_mk ul132_0 ge132_0); clear hva_ hvn_ hvc_ ge132_0 ul132_0; clear hcc132 hce132; have HR132_0 := am hi132_0; have HC132_0 := am hl132_0; clear hi132_0 hl132_0; replace p132 := eq_true p132; replace q132 := eq_true q132
        refine st (n := 14) (S := fun w' => w'.cell? (ad131.add (x4_1).toNat) = some (.slice A131_0 (rd_L1 l0 x4_1).length c131_0) ∧ w'.cell? (ad132.add ((ji10)).toNat) = some (.slice A132_0 (rd_L1 x3_1 (ji10)).length c132_0)) (ds := []) ⟨hx131_0, hx132_0⟩ (fun hHeld => ?_); refine with_tabW spec_l3Sort.tab6 spec_l3Sort.bits6 (fun HT_ HW_ => ?_)
        generalize wr.drew = w14 at HO_0 HO_3 HB HL131_0 HL132_0 HR131_0 HR132_0 hx131_0 hx132_0 hHeld ⊢; refine pu 0 15 ?_; refine pu 1 16 ?_; refine pu 2 17 ?_; refine pu 3 18 ?_; refine pu 4 19 ?_; refine pu 5 20 ?_; refine pu 7 22 ?_; refine pu 8 23 ?_; refine pu 9 24 ?_; refine pu 10 25 ?_; refine tk2 6 21 hHeld ?_; refine tk2 11 26 hHeld ?_; refine on1 12 27 (fun K hK => ?_)
        refine goes_ Try.func64 (by kernel_rfl) rfl #[.slice A131_0 (rd_L1 l0 x4_1).length c131_0, .slice A132_0 (rd_L1 x3_1 (ji10)).length c132_0] (by rfl) rfl rfl (by (try simp only [List.map_toArray, List.map_cons, List.map_nil]); first | done | (simp only [hji10]; rfl) | rfl | (simp only [List.length_drop, List.length_take]; rfl)) ?_
        with_reducible refine (spec_l3Less.calls k2 _ _ (rd_L1 l0 x4_1) _ _ (rd_L1 x3_1 (ji10)) t133 _ ?side1 ?side2 ?side3 ?side4 A13.out).mono ?_
        (case side1 => repeat (first | exact (by repeat (first | (with_reducible exact HR131_0.out) | (with_reducible refine Kd.C_alloc ?_ _) | (with_reducible refine Kd.C_drewN ?_ _) | (with_reducible refine Kd.C_drew ?_) | exact HR131_0.out)) | (with_reducible refine Kd.C_alloc ?_ _) | (with_reducible refine Kd.C_drewN ?_ _) | (with_reducible refine Kd.C_drew ?_))); (case side2 => exact HC131_0.out); (case side3 => repeat (first | exact (by repeat (first | (with_reducible exact HR132_0.out) | (with_reducible refine Kd.C_alloc ?_ _) | (with_reducible refine Kd.C_drewN ?_ _) | (with_reducible refine Kd.C_drew ?_) | exact HR132_0.out)) | (with_reducible refine Kd.C_alloc ?_ _) | (with_reducible refine Kd.C_drewN ?_ _) | (with_reducible refine Kd.C_drew ?_))); (case side4 => exact HC132_0.out)
        rintro e w' ⟨rfl, ⟨nd, rfl⟩⟩
        refine ⟨_, rfl, ?_⟩; refine hK.out _ _ ⟨hHeld.1, hHeld.2⟩ (fun hHeld => ?_); clear hK K; refine nm 27 ?_; refine pu 13 28 ?_
        refine done_ (done_of HT_.out (by kernel_rfl)) ?_
        try go_wp2
        go_meet
        case rel => exact ⟨_, (t133), sq, H', ⟨by have := HK1.out; have := HK2.out; first | omega | exact Nat.le_refl _⟩, ⟨vq HO_0.out⟩, ⟨b0_⟩, ⟨bel⟩⟩
       rw [if_neg c7] at H; have c7b0 := decide_eq_false c7; clear c7
       (first | rw [c7b0] | (simp only [i64_w, i32_w]; rw [c7b0]) | skip)
       have H' := am H
       clear H
       try go_wp2
       replace HO_0 := am (Kd.V_drew HO_0.out); replace HO_3 := am (Kd.N_drew HO_3.out); replace HB := am (below_drew1 HB.out)
       refine st (n := 14) (S := fun w' => True) (ds := []) trivial (fun hHeld => ?_); refine with_tabW spec_l3Sort.tab6 spec_l3Sort.bits6 (fun HT_ HW_ => ?_)
       generalize wr.drew = w15 at HO_0 HO_3 HB hHeld ⊢; refine pu 0 15 ?_; refine pu 1 16 ?_; refine pu 2 17 ?_; refine puu 3 18 ?_; refine puu 4 19 ?_; refine puu 5 20 ?_; refine puu 6 21 ?_; refine puu 7 22 ?_; refine puu 8 23 ?_; refine puu 9 24 ?_; refine puu 10 25 ?_; refine puu 11 26 ?_; refine puu 12 27 ?_; refine pu 13 28 ?_
       refine done_ (done_of HT_.out (by kernel_rfl)) ?_
       try go_wp2
       go_meet
       case rel => exact ⟨_, (false), sq, H', ⟨by have := HK1.out; have := HK2.out; first | omega | exact Nat.le_refl _⟩, ⟨vq HO_0.out⟩, ⟨b0_⟩, ⟨bel⟩⟩
      case rest =>
       clear HC6; (try clear c1); (try clear p1); (try clear q1); (try clear hx1); (try clear p2); (try clear c4); (try clear c4b0); (try clear c5); (try clear c6); (try clear p6); (try clear c7); (try clear c7b0); (try clear c8); (try clear c8b0); (try clear c9); (try clear c9b0); (try clear c11); (try clear c11b0); (try clear c12); (try clear c12b0); (try clear c13); (try clear p13); (try clear q13); (try clear hx13); (try clear hx131_0); (try clear hx132_0); (try clear p131); (try clear p132); (try clear p2); (try clear q131); (try clear q132); obtain ⟨kq, x28_5, rfl, HA, HJ5, HO_0, HO_3, HB⟩ := hcut
       cases kq with
       | zero => exact absurd HA.out (by simp [spec_l3Sort.j2])
       | succ kj5 =>
        have H := HA.out; clear HA; simp only [spec_l3Sort.j2] at H
        by_cases c16 : x28_5 = true
        ·subst c16
         rw [if_pos rfl] at H
         have H' := am H
         clear H; go_wp2
         go_roundg kj5
         case measure => have := HK1.out; have := HK2.out; have := HJ5.out; omega
         case rel => exact ⟨(wrap64 (x5_2 - 1)), sq, H', ⟨by have := HK1.out; have := HK2.out; have := HJ5.out; omega⟩, ⟨vq HO_0.out⟩, ⟨b0_⟩, ⟨bel⟩⟩
        replace c16 := Bool.eq_false_iff.mpr c16; subst c16
        rw [if_neg Bool.false_ne_true] at H
        obtain ⟨y134, hy134⟩ : ∃ y_ : List (List ByteArray), y_ = (([] : List (List ByteArray))) := ⟨_, rfl⟩
        replace H : (if 0 ≤ x5_2 then (if x5_2 ≤ (x3_1.length : Int) then ((some (x3_1.take (x5_2 : Int).toNat : List (List ByteArray))).bind fun y137 => (if y134.length + y137.length < 5864062014805 then ((some (y134 ++ y137 : List (List ByteArray))).bind fun y142 => (if 0 ≤ x4_1 then (if x4_1 < (l0.length : Int) then ((some (([rd_L1 l0 x4_1] : List (List ByteArray)) : List (List ByteArray))).bind fun y146 => (if y142.length + y146.length < 5864062014805 then ((some (y142 ++ y146 : List (List ByteArray))).bind fun y149 => ((some (x3_1.drop (x5_2 : Int).toNat : List (List ByteArray))).bind fun y152 => (if y149.length + y152.length < 5864062014805 then (spec_l3Sort.l0 kj5 l0 (y149 ++ y152) (wrap64 (x4_1 + 1))) else (none)))) else (none))) else (none)) else (none))) else (none))) else (none)) else (none)) = some r := by first | (rw [hy134]; with_reducible exact H) | (have H2_ := bm H; rw [hy134]; with_reducible exact H2_) | (with_reducible exact bm H) | with_reducible exact H | (rw [hy134]; exact H) | exact H
        have Ny134 := am hy134; clear hy134; replace H := ip H; obtain ⟨c17, H⟩ := H; have c17b0 := eq_true c17
        have c17b1 : decide (0 ≤ x5_2) = true := decide_eq_true c17
        clear c17; replace H := ip H; obtain ⟨c18, H⟩ := H; have c18b0 := eq_true c18
        have c18b1 : decide (x5_2 ≤ (x3_1.length : Int)) = true := decide_eq_true c18
        clear c18; obtain ⟨y137, hy137⟩ : ∃ y_ : List (List ByteArray), y_ = (x3_1.take (x5_2 : Int).toNat) := ⟨_, rfl⟩
        replace H : (if y134.length + y137.length < 5864062014805 then ((some (y134 ++ y137 : List (List ByteArray))).bind fun y142 => (if 0 ≤ x4_1 then (if x4_1 < (l0.length : Int) then ((some (([rd_L1 l0 x4_1] : List (List ByteArray)) : List (List ByteArray))).bind fun y146 => (if y142.length + y146.length < 5864062014805 then ((some (y142 ++ y146 : List (List ByteArray))).bind fun y149 => ((some (x3_1.drop (x5_2 : Int).toNat : List (List ByteArray))).bind fun y152 => (if y149.length + y152.length < 5864062014805 then (spec_l3Sort.l0 kj5 l0 (y149 ++ y152) (wrap64 (x4_1 + 1))) else (none)))) else (none))) else (none)) else (none))) else (none)) = some r := by first | (rw [hy137]; with_reducible exact H) | (have H2_ := bm H; rw [hy137]; with_reducible exact H2_) | (with_reducible exact bm H) | with_reducible exact H | (rw [hy137]; exact H) | exact H
        have Ny137 := am hy137; clear hy137
        replace H := ip H; obtain ⟨c19, H⟩ := H; have LMc19 := Aside0.mk c19; clear c19; obtain ⟨y142, hy142⟩ : ∃ y_ : List (List ByteArray), y_ = (y134 ++ y137) := ⟨_, rfl⟩
        replace H : (if 0 ≤ x4_1 then (if x4_1 < (l0.length : Int) then ((some (([rd_L1 l0 x4_1] : List (List ByteArray)) : List (List ByteArray))).bind fun y146 => (if y142.length + y146.length < 5864062014805 then ((some (y142 ++ y146 : List (List ByteArray))).bind fun y149 => ((some (x3_1.drop (x5_2 : Int).toNat : List (List ByteArray))).bind fun y152 => (if y149.length + y152.length < 5864062014805 then (spec_l3Sort.l0 kj5 l0 (y149 ++ y152) (wrap64 (x4_1 + 1))) else (none)))) else (none))) else (none)) else (none)) = some r := by first | (rw [hy142]; with_reducible exact H) | (have H2_ := bm H; rw [hy142]; with_reducible exact H2_) | (with_reducible exact bm H) | with_reducible exact H | (rw [hy142]; exact H) | exact H
        have Ny142 := am hy142; clear hy142; replace H := it H; obtain ⟨c20b0, H⟩ := H
        replace H := it H; obtain ⟨c21b0, H⟩ := H; obtain ⟨y146, hy146⟩ : ∃ y_ : List (List ByteArray), y_ = (([rd_L1 l0 x4_1] : List (List ByteArray))) := ⟨_, rfl⟩
        replace H : (if y142.length + y146.length < 5864062014805 then ((some (y142 ++ y146 : List (List ByteArray))).bind fun y149 => ((some (x3_1.drop (x5_2 : Int).toNat : List (List ByteArray))).bind fun y152 => (if y149.length + y152.length < 5864062014805 then (spec_l3Sort.l0 kj5 l0 (y149 ++ y152) (wrap64 (x4_1 + 1))) else (none)))) else (none)) = some r := by first | (rw [hy146]; with_reducible exact H) | (have H2_ := bm H; rw [hy146]; with_reducible exact H2_) | (with_reducible exact bm H) | with_reducible exact H | (rw [hy146]; exact H) | exact H
        have Ny146 := am hy146; clear hy146
        replace H := ip H; obtain ⟨c22, H⟩ := H; have LMc22 := Aside0.mk c22; clear c22; obtain ⟨y149, hy149⟩ : ∃ y_ : List (List ByteArray), y_ = (y142 ++ y146) := ⟨_, rfl⟩
        replace H : ((some (x3_1.drop (x5_2 : Int).toNat : List (List ByteArray))).bind fun y152 => (if y149.length + y152.length < 5864062014805 then (spec_l3Sort.l0 kj5 l0 (y149 ++ y152) (wrap64 (x4_1 + 1))) else (none))) = some r := by first | (rw [hy149]; with_reducible exact H) | (have H2_ := bm H; rw [hy149]; with_reducible exact H2_) | (with_reducible exact bm H) | with_reducible exact H | (rw [hy149]; exact H) | exact H
        have Ny149 := am hy149; clear hy149; have c23b0 := eq_true (of_decide_eq_true ad : 0 ≤ x5_2); have c24b0 := eq_true (of_decide_eq_true ad : x5_2 ≤ (x3_1.length : Int)); obtain ⟨y152, hy152⟩ : ∃ y_ : List (List ByteArray), y_ = (x3_1.drop (x5_2 : Int).toNat) := ⟨_, rfl⟩
        replace H : (if y149.length + y152.length < 5864062014805 then (spec_l3Sort.l0 kj5 l0 (y149 ++ y152) (wrap64 (x4_1 + 1))) else (none)) = some r := by first | (rw [hy152]; with_reducible exact H) | (have H2_ := bm H; rw [hy152]; with_reducible exact H2_) | (with_reducible exact bm H) | with_reducible exact H | (rw [hy152]; exact H) | exact H
        have Ny152 := am hy152; clear hy152
        replace H := ip H; obtain ⟨c25, H⟩ := H; have LMc25 := Aside0.mk c25; clear c25; obtain ⟨y157, hy157⟩ : ∃ y_ : List (List ByteArray), y_ = (y149 ++ y152) := ⟨_, rfl⟩
        replace H : (spec_l3Sort.l0 kj5 l0 y157 (wrap64 (x4_1 + 1))) = some r := by first | (rw [hy157]; with_reducible exact H) | (have H2_ := bm H; rw [hy157]; with_reducible exact H2_) | (with_reducible exact bm H) | with_reducible exact H | (rw [hy157]; exact H) | exact H
        have Ny157 := am hy157; clear hy157
        have H' := am H
        clear H
        try go_wp2
        replace HO_0 := am (Kd.V_drew HO_0.out); replace HO_3 := am (Kd.N_drew HO_3.out); replace HB := am (below_drew1 HB.out)
        have q27 : (x5_2 : Int) ≤ ((x3_1.length : Int) : Int) := of_decide_eq_true ad
        obtain ⟨i027, hi027, _, hsz27, _⟩ := info_parts info22
        have hroom27 : x3_1.length ≤ co5 := (Kd.N_reads' HO_3.out).2.1
        have hC27 : Kd.F (Kd.slice 9 Kd.string) _ _ Ao5 x3_1.length x3_1 := (Kd.V_at (base := w.heap.size) (Kd.N_V HO_3.out)).2.2
        have hcut27 := cut_to (P := Try.prog) 41 22 .i64 Try.underlying41 hi027 Ao5 x3_1.length co5 x5_2 (of_decide_eq_true ad) q27 hroom27; have hr27 := Kd.F_take (m := (x5_2 : Int).toNat) hC27 (by omega)
        have hy27 : y137.length = (x5_2 : Int).toNat := (by rw [Ny137.out, List.length_take]; omega)
        rw [← Ny137.out] at hr27; rw [← hy27] at hcut27
        have HO141 := am (show Kd.V (Kd.slice 9 Kd.string) 22 _ w.heap.size _ (.slice Ao5 y137.length co5) y137 from Kd.V_mk (by omega) hr27)
        have HC141 := am (show y137.length ≤ co5 from by omega)
        clear hr27 hC27 hroom27 hi027 hsz27; have KY27 := am hy27; clear hy27; replace q27 := eq_true q27
        have p145 : 0 ≤ (x4_1 : Int) := of_decide_eq_true ad
        have q145 : x4_1 < (l0.length : Int) := of_decide_eq_true ad
        obtain ⟨ad145, A145_0, c145_0, e145, hx145_0, hl145_0, hi145_0⟩ := at_L1 (Kd.V_reads' HO_0.out).2.2 x4_1 p145 q145; cases e145
        obtain ⟨ce145, hce145, hMe145, hcc145⟩ := Kd.V_get HO_0.out [] x4_1 p145 (by first | exact q145 | exact of_decide_eq_true ad | (have e_ := (Kd.V_reads' HO_0.out).1; omega))
        obtain ⟨ua145_0, uc145_0, rfl, ul145_0, ge145_0⟩ := Kd.FK_slice_open hMe145; have hv145_0 := hcc145 0 _ rfl; rw [Nat.add_zero, show ((Kd.slice 9 Kd.string)).sz = 1 from rfl, Nat.mul_one] at hv145_0; replace hv145_0 := Option.some.inj (hv145_0.symm.trans hx145_0)
        injection hv145_0 with hva_ hvn_ hvc_
        rw [hva_] at ge145_0; rw [hvc_] at ul145_0; have HL145_0 := am (show Kd.V Kd.string 9 _ w.heap.size _ _ (rd_L1 l0 x4_1) from Kd.V_mk ul145_0 ge145_0); clear hva_ hvn_ hvc_ ge145_0 ul145_0; clear hcc145 hce145; have HR145_0 := am hi145_0; have HC145_0 := am hl145_0; clear hi145_0 hl145_0; replace p145 := eq_true p145; replace q145 := eq_true q145
        have q28 : (x5_2 : Int) ≤ ((x3_1.length : Int) : Int) := of_decide_eq_true ad
        obtain ⟨i028, hi028, _, hsz28, _⟩ := info_parts info22
        have hroom28 : x3_1.length ≤ co5 := (Kd.N_reads' HO_3.out).2.1
        have hC28 : Kd.F (Kd.slice 9 Kd.string) _ _ Ao5 x3_1.length x3_1 := (Kd.V_at (base := w.heap.size) (Kd.N_V HO_3.out)).2.2
        have q028 : (0 : Int) ≤ (x5_2 : Int) := of_decide_eq_true ad
        have hcut28 := cut_from (P := Try.prog) 41 22 .i64 Try.underlying41 hi028 1 hsz28 Ao5 x3_1.length co5 x5_2 q028 q28; have hr28 := Kd.F_cut (m := (x5_2 : Int).toNat) (c := co5) hC28 (by omega) hroom28
        obtain ⟨A28, hA28⟩ : ∃ A1, A1 = (if co5 = (x5_2 : Int).toNat then Ao5 else (Ao5 : Option Addr).map (·.add ((x5_2 : Int).toNat * 1))) := ⟨_, rfl⟩; obtain ⟨c28, hc28⟩ : ∃ c1, c1 = co5 - (x5_2 : Int).toNat := ⟨_, rfl⟩
        have hy28 : y152.length = x3_1.length - (x5_2 : Int).toNat := (by rw [Ny152.out, List.length_drop] <;> omega)
        rw [show (x3_1).drop (x5_2 : Int).toNat = y152 from Ny152.out.symm] at hr28
        replace hr28 : Kd.F (Kd.slice 9 Kd.string) _ _ A28 y152.length y152 := (by rw [hA28]; exact hr28)
        rw [← hy28, ← hA28, ← hc28] at hcut28
        have HO156 := am (show Kd.V (Kd.slice 9 Kd.string) 22 _ w.heap.size _ (.slice A28 y152.length c28) y152 from Kd.V_mk (by rw [hy28, hc28]; exact Nat.sub_le_sub_right hroom28 _) hr28)
        have HC156 := am (show y152.length ≤ c28 from by rw [hy28, hc28]; exact Nat.sub_le_sub_right hroom28 _)
        clear hr28 hC28 hroom28 hi028 hsz28 hc28; have KY28 := am hy28; have KA28 := am hA28; clear hy28 hA28; replace q28 := eq_true q28
        refine st (n := 16) (S := fun w' => w'.cell? (ad145.add (x4_1).toNat) = some (.slice A145_0 (rd_L1 l0 x4_1).length c145_0)) (ds := []) (hx145_0) (fun hHeld => ?_); refine with_tabW spec_l3Sort.tab8 spec_l3Sort.bits8 (fun HT_ HW_ => ?_)
        generalize wc.drew = w26 at HO_0 HO_3 HB HL145_0 HO141 HO156 HR145_0 hx145_0 hHeld ⊢; refine pu 1 32 ?_; refine pu 2 33 ?_; refine pu 3 34 ?_; refine pu 5 36 ?_; refine pu 6 37 ?_; refine pu 7 38 ?_; refine pu 11 42 ?_; refine pu 12 43 ?_; refine pu 13 44 ?_; refine tk1 8 39 hHeld ?_
        refine join_ (σ := Value × Value × Value) 3 #[true, true, true, true, true, true, true, true, true, true, false, true, true, true, false, false] (fun s_ => [(31, s_.1), (35, s_.2.1), (40, s_.2.2)]) (fun s_ w' => (w'.cell? (ad145.add (x4_1).toNat) = some (.slice A145_0 (rd_L1 l0 x4_1).length c145_0)) ∧ (Kd.V Kd.string 9 w' w.heap.size (fun k_ => (P0_ k_ ∨ w.heap.size ≤ k_) ∧ some k_ ≠ (s_.2.1 : Value).ownBlock ∧ some k_ ≠ (s_.2.2 : Value).ownBlock ∧ some k_ ≠ (.slice Ao5 x3_1.length co5 : Value).ownBlock) (.slice A145_0 (rd_L1 l0 x4_1).length c145_0) (rd_L1 l0 x4_1)) ∧ (Kd.V (Kd.slice 9 Kd.string) 22 w' w.heap.size (fun k_ => (P0_ k_ ∨ w.heap.size ≤ k_) ∧ some k_ ≠ (s_.2.1 : Value).ownBlock ∧ some k_ ≠ (s_.2.2 : Value).ownBlock) (.slice Ao5 y137.length co5) y137) ∧ (Kd.N (Kd.slice 9 Kd.string) 22 w' w.heap.size (fun k_ => (P0_ k_ ∨ w.heap.size ≤ k_) ∧ some k_ ≠ (s_.2.2 : Value).ownBlock) s_.2.1 y142) ∧ (Kd.N (Kd.slice 9 Kd.string) 22 w' w.heap.size (fun k_ => (P0_ k_ ∨ w.heap.size ≤ k_) ∧ some k_ ≠ (s_.2.1 : Value).ownBlock ∧ some k_ ≠ (.slice Ao5 x3_1.length co5 : Value).ownBlock) s_.2.2 y146) ∧ (Kd.V (Kd.slice 9 Kd.string) 22 w' w.heap.size (fun k_ => (P0_ k_ ∨ w.heap.size ≤ k_) ∧ some k_ ≠ (s_.2.1 : Value).ownBlock ∧ some k_ ≠ (s_.2.2 : Value).ownBlock) (.slice A28 y152.length c28) y152) ∧ (Kd.V (Kd.slice 9 Kd.string) 22 w' w.heap.size (fun k_ => (P0_ k_ ∨ w.heap.size ≤ k_) ∧ some k_ ≠ (s_.2.1 : Value).ownBlock ∧ some k_ ≠ (s_.2.2 : Value).ownBlock ∧ some k_ ≠ (.slice Ao5 x3_1.length co5 : Value).ownBlock) (.slice (some ad145) l0.length c0) l0) ∧ (Kd.N (Kd.slice 9 Kd.string) 22 w' w.heap.size (fun k_ => (P0_ k_ ∨ w.heap.size ≤ k_) ∧ some k_ ≠ (s_.2.1 : Value).ownBlock ∧ some k_ ≠ (s_.2.2 : Value).ownBlock) (.slice Ao5 x3_1.length co5) x3_1) ∧ (Below w.heap.size w w')) ?_ ?_
        rotate_left
        ·intro hCont
         refine two_ (i := 0) (j := 9) (Ni := some 31) (Nj := some 40) #[true, true, true, true, false, true, true, true, true, false, false, true, true, true, false, false] #[false, true, true, true, false, true, true, true, true, true, false, true, true, true, false, false] rfl rfl rfl rfl (two_of HT_.out (by kernel_rfl)) (by decide) (by decide) (fun K hK => ?_) (fun K hK => ?_)
         ·skip
          refine Kd.N_lit_step (Kd.slice 9 Kd.string) _ 22 ?hg (N' := 31) ?hd (xs := ([] : List (List ByteArray))) (inner := []) (ok := (fun k_ => (P0_ k_ ∨ w.heap.size ≤ k_) ∧ some k_ ≠ (.slice Ao5 x3_1.length co5 : Value).ownBlock)) (okp := (fun k_ => (P0_ k_ ∨ w.heap.size ≤ k_) ∧ some k_ ≠ (.slice Ao5 x3_1.length co5 : Value).ownBlock)) ?hr ?hp (fun _ hk => hk) ((show ∀ k_, w26.heap.size ≤ k_ → (fun k_ => (P0_ k_ ∨ w.heap.size ≤ k_) ∧ some k_ ≠ (.slice Ao5 x3_1.length co5 : Value).ownBlock) k_ from fun k_ hk => ⟨(.inr (Nat.le_trans (below_size bel) hk)), Kd.fresh' (Kd.N_lt b0_) k_ hk⟩) _ (Nat.le_refl _)) (Below.refl _ _) (Nat.le_refl _) (by simp) ?_; (case hd => rfl); (case hg => rfl); (case hr => first | (go_simp; done) | (go_simp; rfl)); (case hp => exact (Reps.none _ _))
          intro v135 w29 ho30 hb hg_ hnew_; have HS0_ := (hb.cell (World.block_lt_of_cell? _ _ (hHeld))).trans (hHeld); clear hg_ hnew_
          (first | rw [← Ny134.out] at ho30 | (simp only [Int.reduceToNat] at ho30; rw [← Ny134.out] at ho30) | (simp only [Int.toNat_natCast] at ho30; rw [← Ny134.out] at ho30))
          replace HO_0 := am (Kd.V_elder' (vq HO_0.out) (Kd.N_base ho30) hb); replace HO_3 := am (Kd.N_elder' b0_ (Kd.N_base ho30) hb); replace HO141 := am (Kd.V_elder' (vq HO141.out) (Kd.N_base ho30) hb); replace HL145_0 := am (Kd.V_elder' (vq HL145_0.out) (Kd.N_base ho30) hb); replace HO156 := am (Kd.V_elder' (vq HO156.out) (Kd.N_base ho30) hb); have HO136 := am (Kd.N_lower ho30 (below_size bel)); replace HR145_0 := am (Kd.C_below b8_ hb); replace HB := am (below_step bel hb); clear hb ho30; refine hK.out _ _ (HS0_) (fun hHeld => ?_); clear hK K; refine nm 31 ?_
          refine two_ (i := 4) (j := 9) (Ni := some 35) (Nj := some 40) #[true, true, true, true, true, true, true, true, true, false, false, true, true, true, false, false] #[true, true, true, true, false, true, true, true, true, true, false, true, true, true, false, false] rfl rfl rfl rfl (two_of HT_.out (by kernel_rfl)) (by decide) (by decide) (fun K hK => ?_) (fun K hK => ?_)
          ·skip
           refine Kd.N_append_rows_step (Kd.slice 9 Kd.string) (w0 := w) w.heap.size (by rfl) (.tmp 31) (.tmp 34) 41 22 (.slice none 0 0) 24 rfl Try.underlying41 info22 rfl (by decide) (by omega) v135 y134 y137 _ _ _ (fun k_ => (P0_ k_ ∨ w.heap.size ≤ k_)) (fun k_ => ((fun k_ => (P0_ k_ ∨ w.heap.size ≤ k_))) k_ ∧ some k_ ≠ (v135 : Value).ownBlock) rfl rfl ?aO ?aR (fun _ hk => hk) ?aF ?aB ?aS ?aL ?_
           (case aR => exact (by skip; exact Kd.V_F (Kd.V_mono (ok' := (fun k_ => ((fun k_ => (P0_ k_ ∨ w.heap.size ≤ k_))) k_ ∧ some k_ ≠ (v135 : Value).ownBlock)) (HO141.out) (fun k_ hk => ⟨hk.1, hk.2⟩)))); (case aB => exact bel); (case aF => exact (fun k_ hk => (.inr (Nat.le_trans (below_size bel) hk)))); (case aO => exact (by (with_reducible repeat (first | apply Kd.N_alloc | apply Kd.N_drewN | apply Kd.N_drew)); exact Kd.N_mono HO136.out (fun _ hk => hk.1))); (case aS => exact (below_size bel)); (case aL => have := LMc19.out; omega); intro v143 w31 ho hb hg hat
           have HS0_ := YtpljfjbhlboffaaW.PrintWords.cell_grown hg (by first | exact hHeld | exact (World.cell?_alloc_lt _ _ _ (World.block_lt_of_cell? _ _ (hHeld))).trans (hHeld)) b3_
           rw [← Ny142.out] at ho; replace HO_0 := am (Kd.V_afterv (ok := (fun k_ => (P0_ k_ ∨ w.heap.size ≤ k_) ∧ some k_ ≠ (.slice Ao5 x3_1.length co5 : Value).ownBlock)) (vq HO_0.out) hg hat)
           replace HO_3 := am (Kd.N_afterv (ok := (fun k_ => (P0_ k_ ∨ w.heap.size ≤ k_))) b0_ hg hat)
           replace HO141 := am (Kd.V_afterv (ok := (fun k_ => (P0_ k_ ∨ w.heap.size ≤ k_))) (vq HO141.out) hg hat); replace HL145_0 := am (Kd.V_afterv (ok := (fun k_ => (P0_ k_ ∨ w.heap.size ≤ k_) ∧ some k_ ≠ (.slice Ao5 x3_1.length co5 : Value).ownBlock)) (vq HL145_0.out) hg hat); replace HO156 := am (Kd.V_afterv (ok := (fun k_ => (P0_ k_ ∨ w.heap.size ≤ k_))) (vq HO156.out) hg hat); replace HB := am (hb); have HO144 := am (ho); clear HO136; clear ho hb hg hat
           refine hK.out _ _ (HS0_) (fun hHeld => ?_); clear hK K; refine nm 35 ?_; refine on1 9 40 (fun K hK => ?_)
           refine Kd.N_lit_step (Kd.slice 9 Kd.string) _ 22 ?hg (N' := 40) ?hd (xs := ([rd_L1 l0 x4_1] : List (List ByteArray))) (inner := [.slice A145_0 (rd_L1 l0 x4_1).length c145_0]) (ok := (fun k_ => (P0_ k_ ∨ w.heap.size ≤ k_) ∧ some k_ ≠ (.slice Ao5 x3_1.length co5 : Value).ownBlock ∧ some k_ ≠ (v143 : Value).ownBlock)) (okp := (fun k_ => (P0_ k_ ∨ w.heap.size ≤ k_) ∧ some k_ ≠ (.slice Ao5 x3_1.length co5 : Value).ownBlock ∧ some k_ ≠ (v143 : Value).ownBlock)) ?hr ?hp (fun _ hk => hk) ((show ∀ k_, w31.heap.size ≤ k_ → (fun k_ => (P0_ k_ ∨ w.heap.size ≤ k_) ∧ some k_ ≠ (.slice Ao5 x3_1.length co5 : Value).ownBlock ∧ some k_ ≠ (v143 : Value).ownBlock) k_ from fun k_ hk => ⟨(.inr (Nat.le_trans (below_size bel) hk)), Kd.fresh' (Kd.N_lt b0_) k_ hk, Kd.fresh' (Kd.N_lt b18_) k_ hk⟩) _ (Nat.le_refl _)) (Below.refl _ _) (Nat.le_refl _) (by simp) ?_; (case hd => rfl); (case hg => rfl); (case hr => first | (go_simp; done) | (go_simp; rfl)); (case hp => exact (Reps.one (show Kd.FK (Kd.slice 9 Kd.string) _ _ (rd_L1 l0 x4_1) [.slice A145_0 (rd_L1 l0 x4_1).length c145_0] from (Kd.FK_slice_mk (Kd.V_reads' (Kd.V_mono (ok' := (fun k_ => (P0_ k_ ∨ w.heap.size ≤ k_) ∧ some k_ ≠ (.slice Ao5 x3_1.length co5 : Value).ownBlock ∧ some k_ ≠ (v143 : Value).ownBlock)) (HL145_0.out) (fun k_ hk => ⟨hk.1.1, ⟨hk.1.2, hk.2⟩⟩))).2.1 (Kd.V_F (Kd.V_mono (ok' := (fun k_ => (P0_ k_ ∨ w.heap.size ≤ k_) ∧ some k_ ≠ (.slice Ao5 x3_1.length co5 : Value).ownBlock ∧ some k_ ≠ (v143 : Value).ownBlock)) (HL145_0.out) (fun k_ hk => ⟨hk.1.1, ⟨hk.1.2, hk.2⟩⟩))))) (Reps.none _ _)))
           intro v147 w32 ho33 hb hg_ hnew_; have HS0_ := (hb.cell (World.block_lt_of_cell? _ _ (hHeld))).trans (hHeld); clear hg_ hnew_
           (first | rw [← Ny146.out] at ho33 | (simp only [Int.reduceToNat] at ho33; rw [← Ny146.out] at ho33) | (simp only [Int.toNat_natCast] at ho33; rw [← Ny146.out] at ho33))
           replace HO_0 := am (Kd.V_elder' (vq HO_0.out) (Kd.N_base ho33) hb); replace HO_3 := am (Kd.N_elder' b0_ (Kd.N_base ho33) hb); replace HO141 := am (Kd.V_elder' (vq HO141.out) (Kd.N_base ho33) hb); replace HL145_0 := am (Kd.V_elder' (vq HL145_0.out) (Kd.N_base ho33) hb); replace HO156 := am (Kd.V_elder' (vq HO156.out) (Kd.N_base ho33) hb); replace HO144 := am (Kd.N_elder' b18_ (Kd.N_base ho33) hb); have HO148 := am (Kd.N_lower ho33 (below_size bel)); replace HB := am (below_step bel hb); clear hb ho33; refine hK.out _ _ (HS0_) (fun hHeld => ?_); clear hK K; refine nm 40 ?_
           exact norm_ b35_ (hCont (v135, v143, v147) _ ⟨hHeld, (vq (Kd.V_mono HL145_0.out (fun _ hk => ⟨hk.1.1.1, ⟨hk.1.2, ⟨hk.2, hk.1.1.2⟩⟩⟩))), (vq (Kd.V_mono HO141.out (fun _ hk => ⟨hk.1.1, ⟨hk.1.2, hk.2⟩⟩))), b18_, (by (with_reducible repeat (first | apply Kd.N_alloc | apply Kd.N_drewN | apply Kd.N_drew)); exact Kd.N_mono HO148.out (fun _ hk => ⟨hk.1, ⟨hk.2.2, hk.2.1⟩⟩)), (vq (Kd.V_mono HO156.out (fun _ hk => ⟨hk.1.1, ⟨hk.1.2, hk.2⟩⟩))), (vq (Kd.V_mono HO_0.out (fun _ hk => ⟨hk.1.1.1, ⟨hk.1.2, ⟨hk.2, hk.1.1.2⟩⟩⟩))), (by (with_reducible repeat (first | apply Kd.N_alloc | apply Kd.N_drewN | apply Kd.N_drew)); exact Kd.N_mono HO_3.out (fun _ hk => ⟨hk.1.1, ⟨hk.1.2, hk.2⟩⟩)), bel⟩)
          ·skip
           refine Kd.N_lit_step (Kd.slice 9 Kd.string) _ 22 ?hg (N' := 40) ?hd (xs := ([rd_L1 l0 x4_1] : List (List ByteArray))) (inner := [.slice A145_0 (rd_L1 l0 x4_1).length c145_0]) (ok := (fun k_ => (P0_ k_ ∨ w.heap.size ≤ k_) ∧ some k_ ≠ (.slice Ao5 x3_1.length co5 : Value).ownBlock ∧ some k_ ≠ (v135 : Value).ownBlock)) (okp := (fun k_ => (P0_ k_ ∨ w.heap.size ≤ k_) ∧ some k_ ≠ (.slice Ao5 x3_1.length co5 : Value).ownBlock ∧ some k_ ≠ (v135 : Value).ownBlock)) ?hr ?hp (fun _ hk => hk) ((show ∀ k_, w29.heap.size ≤ k_ → (fun k_ => (P0_ k_ ∨ w.heap.size ≤ k_) ∧ some k_ ≠ (.slice Ao5 x3_1.length co5 : Value).ownBlock ∧ some k_ ≠ (v135 : Value).ownBlock) k_ from fun k_ hk => ⟨(.inr (Nat.le_trans (below_size bel) hk)), Kd.fresh' (Kd.N_lt b0_) k_ hk, Kd.fresh' (Kd.N_lt (by (with_reducible repeat (first | apply Kd.N_alloc | apply Kd.N_drewN | apply Kd.N_drew)); exact HO136.out)) k_ hk⟩) _ (Nat.le_refl _)) (Below.refl _ _) (Nat.le_refl _) (by simp) ?_; (case hd => rfl); (case hg => rfl); (case hr => first | (go_simp; done) | (go_simp; rfl)); (case hp => exact (Reps.one (show Kd.FK (Kd.slice 9 Kd.string) _ _ (rd_L1 l0 x4_1) [.slice A145_0 (rd_L1 l0 x4_1).length c145_0] from (Kd.FK_slice_mk (Kd.V_reads' (Kd.V_mono (ok' := (fun k_ => (P0_ k_ ∨ w.heap.size ≤ k_) ∧ some k_ ≠ (.slice Ao5 x3_1.length co5 : Value).ownBlock ∧ some k_ ≠ (v135 : Value).ownBlock)) (HL145_0.out) (fun k_ hk => ⟨hk.1.1, ⟨hk.1.2, hk.2⟩⟩))).2.1 (Kd.V_F (Kd.V_mono (ok' := (fun k_ => (P0_ k_ ∨ w.heap.size ≤ k_) ∧ some k_ ≠ (.slice Ao5 x3_1.length co5 : Value).ownBlock ∧ some k_ ≠ (v135 : Value).ownBlock)) (HL145_0.out) (fun k_ hk => ⟨hk.1.1, ⟨hk.1.2, hk.2⟩⟩))))) (Reps.none _ _)))
           intro v147 w31 ho32 hb hg_ hnew_; have HS0_ := (hb.cell (World.block_lt_of_cell? _ _ (hHeld))).trans (hHeld); clear hg_ hnew_
           (first | rw [← Ny146.out] at ho32 | (simp only [Int.reduceToNat] at ho32; rw [← Ny146.out] at ho32) | (simp only [Int.toNat_natCast] at ho32; rw [← Ny146.out] at ho32))
           replace HO_0 := am (Kd.V_elder' (vq HO_0.out) (Kd.N_base ho32) hb); replace HO_3 := am (Kd.N_elder' b0_ (Kd.N_base ho32) hb); replace HO141 := am (Kd.V_elder' (vq HO141.out) (Kd.N_base ho32) hb); replace HL145_0 := am (Kd.V_elder' (vq HL145_0.out) (Kd.N_base ho32) hb); replace HO156 := am (Kd.V_elder' (vq HO156.out) (Kd.N_base ho32) hb)
           replace HO136 := am (Kd.N_elder' (by (with_reducible repeat (first | apply Kd.N_alloc | apply Kd.N_drewN | apply Kd.N_drew)); exact HO136.out) (Kd.N_base ho32) hb)
           have HO148 := am (Kd.N_lower ho32 (below_size bel)); replace HR145_0 := am (Kd.C_below b8_ hb); replace HB := am (below_step bel hb); clear hb ho32; refine hK.out _ _ (HS0_) (fun hHeld => ?_); clear hK K; refine nm 40 ?_; refine on1 4 35 (fun K hK => ?_)
           refine Kd.N_append_rows_step (Kd.slice 9 Kd.string) (w0 := w) w.heap.size (by rfl) (.tmp 31) (.tmp 34) 41 22 (.slice none 0 0) 24 rfl Try.underlying41 info22 rfl (by decide) (by omega) v135 y134 y137 _ _ _ (fun k_ => (P0_ k_ ∨ w.heap.size ≤ k_) ∧ some k_ ≠ (v147 : Value).ownBlock) (fun k_ => ((fun k_ => (P0_ k_ ∨ w.heap.size ≤ k_) ∧ some k_ ≠ (v147 : Value).ownBlock)) k_ ∧ some k_ ≠ (v135 : Value).ownBlock) rfl rfl ?aO ?aR (fun _ hk => hk) ?aF ?aB ?aS ?aL ?_
           (case aR => exact (by skip; exact Kd.V_F (Kd.V_mono (ok' := (fun k_ => ((fun k_ => (P0_ k_ ∨ w.heap.size ≤ k_) ∧ some k_ ≠ (v147 : Value).ownBlock)) k_ ∧ some k_ ≠ (v135 : Value).ownBlock)) (HO141.out) (fun k_ hk => ⟨⟨hk.1.1, hk.2⟩, hk.1.2⟩)))); (case aB => exact bel); (case aF => exact (fun k_ hk => ⟨(.inr (Nat.le_trans (below_size bel) hk)), Kd.fresh' (Kd.N_lt b13_) k_ hk⟩)); (case aO => exact (by (with_reducible repeat (first | apply Kd.N_alloc | apply Kd.N_drewN | apply Kd.N_drew)); exact Kd.N_mono HO136.out (fun _ hk => ⟨hk.1.1, hk.2⟩))); (case aS => exact (below_size bel)); (case aL => have := LMc19.out; omega); intro v143 w33 ho hb hg hat
           have HS0_ := YtpljfjbhlboffaaW.PrintWords.cell_grown hg (by first | exact hHeld | exact (World.cell?_alloc_lt _ _ _ (World.block_lt_of_cell? _ _ (hHeld))).trans (hHeld)) b3_
           rw [← Ny142.out] at ho; replace HO_0 := am (Kd.V_afterv (ok := (fun k_ => (P0_ k_ ∨ w.heap.size ≤ k_) ∧ some k_ ≠ (.slice Ao5 x3_1.length co5 : Value).ownBlock ∧ some k_ ≠ (v147 : Value).ownBlock)) (vq (Kd.V_mono HO_0.out (fun _ hk => ⟨⟨hk.1.1.1, ⟨hk.1.1.2, hk.2⟩⟩, hk.1.2⟩))) hg hat)
           replace HO_3 := am (Kd.N_afterv (ok := (fun k_ => (P0_ k_ ∨ w.heap.size ≤ k_) ∧ some k_ ≠ (v147 : Value).ownBlock)) (by (with_reducible repeat (first | apply Kd.N_alloc | apply Kd.N_drewN | apply Kd.N_drew)); exact Kd.N_mono HO_3.out (fun _ hk => ⟨⟨hk.1.1, hk.2⟩, hk.1.2⟩)) hg hat)
           replace HO141 := am (Kd.V_afterv (ok := (fun k_ => (P0_ k_ ∨ w.heap.size ≤ k_) ∧ some k_ ≠ (v147 : Value).ownBlock)) (vq (Kd.V_mono HO141.out (fun _ hk => ⟨⟨hk.1.1, hk.2⟩, hk.1.2⟩))) hg hat); replace HL145_0 := am (Kd.V_afterv (ok := (fun k_ => (P0_ k_ ∨ w.heap.size ≤ k_) ∧ some k_ ≠ (.slice Ao5 x3_1.length co5 : Value).ownBlock ∧ some k_ ≠ (v147 : Value).ownBlock)) (vq (Kd.V_mono HL145_0.out (fun _ hk => ⟨⟨hk.1.1.1, ⟨hk.1.1.2, hk.2⟩⟩, hk.1.2⟩))) hg hat); replace HO156 := am (Kd.V_afterv (ok := (fun k_ => (P0_ k_ ∨ w.heap.size ≤ k_) ∧ some k_ ≠ (v147 : Value).ownBlock)) (vq (Kd.V_mono HO156.out (fun _ hk => ⟨⟨hk.1.1, hk.2⟩, hk.1.2⟩))) hg hat)
           replace HO148 := am (Kd.N_afterv (ok := (fun k_ => (P0_ k_ ∨ w.heap.size ≤ k_) ∧ some k_ ≠ (.slice Ao5 x3_1.length co5 : Value).ownBlock)) (by (with_reducible repeat (first | apply Kd.N_alloc | apply Kd.N_drewN | apply Kd.N_drew)); exact Kd.N_mono HO148.out (fun _ hk => ⟨⟨hk.1, hk.2.1⟩, hk.2.2⟩)) hg hat)
           replace HB := am (hb); have HO144 := am (ho); clear HO136; clear ho hb hg hat; refine hK.out _ _ (HS0_) (fun hHeld => ?_); clear hK K; refine nm 35 ?_
           exact norm_ b35_ (hCont (v135, v143, v147) _ ⟨hHeld, (vq (Kd.V_mono HL145_0.out (fun _ hk => ⟨hk.1.1, ⟨hk.2, ⟨hk.1.2.2, hk.1.2.1⟩⟩⟩))), (vq (Kd.V_mono HO141.out (fun _ hk => ⟨hk.1.1, ⟨hk.2, hk.1.2⟩⟩))), b18_, b31_, (vq (Kd.V_mono HO156.out (fun _ hk => ⟨hk.1.1, ⟨hk.2, hk.1.2⟩⟩))), (vq (Kd.V_mono HO_0.out (fun _ hk => ⟨hk.1.1, ⟨hk.2, ⟨hk.1.2.2, hk.1.2.1⟩⟩⟩))), b33_, bel⟩)
         ·skip
          refine Kd.N_lit_step (Kd.slice 9 Kd.string) _ 22 ?hg (N' := 40) ?hd (xs := ([rd_L1 l0 x4_1] : List (List ByteArray))) (inner := [.slice A145_0 (rd_L1 l0 x4_1).length c145_0]) (ok := (fun k_ => (P0_ k_ ∨ w.heap.size ≤ k_) ∧ some k_ ≠ (.slice Ao5 x3_1.length co5 : Value).ownBlock)) (okp := (fun k_ => (P0_ k_ ∨ w.heap.size ≤ k_) ∧ some k_ ≠ (.slice Ao5 x3_1.length co5 : Value).ownBlock)) ?hr ?hp (fun _ hk => hk) ((show ∀ k_, w26.heap.size ≤ k_ → (fun k_ => (P0_ k_ ∨ w.heap.size ≤ k_) ∧ some k_ ≠ (.slice Ao5 x3_1.length co5 : Value).ownBlock) k_ from fun k_ hk => ⟨(.inr (Nat.le_trans (below_size bel) hk)), Kd.fresh' (Kd.N_lt b0_) k_ hk⟩) _ (Nat.le_refl _)) (Below.refl _ _) (Nat.le_refl _) (by simp) ?_; (case hd => rfl); (case hg => rfl); (case hr => first | (go_simp; done) | (go_simp; rfl)); (case hp => exact (Reps.one (show Kd.FK (Kd.slice 9 Kd.string) _ _ (rd_L1 l0 x4_1) [.slice A145_0 (rd_L1 l0 x4_1).length c145_0] from (Kd.FK_slice_mk (Kd.V_reads' (Kd.V_mono (ok' := (fun k_ => (P0_ k_ ∨ w.heap.size ≤ k_) ∧ some k_ ≠ (.slice Ao5 x3_1.length co5 : Value).ownBlock)) (HL145_0.out) (fun k_ hk => ⟨hk.1, hk.2⟩))).2.1 (Kd.V_F (Kd.V_mono (ok' := (fun k_ => (P0_ k_ ∨ w.heap.size ≤ k_) ∧ some k_ ≠ (.slice Ao5 x3_1.length co5 : Value).ownBlock)) (HL145_0.out) (fun k_ hk => ⟨hk.1, hk.2⟩))))) (Reps.none _ _)))
          intro v147 w29 ho30 hb hg_ hnew_; have HS0_ := (hb.cell (World.block_lt_of_cell? _ _ (hHeld))).trans (hHeld); clear hg_ hnew_
          (first | rw [← Ny146.out] at ho30 | (simp only [Int.reduceToNat] at ho30; rw [← Ny146.out] at ho30) | (simp only [Int.toNat_natCast] at ho30; rw [← Ny146.out] at ho30))
          replace HO_0 := am (Kd.V_elder' (vq HO_0.out) (Kd.N_base ho30) hb); replace HO_3 := am (Kd.N_elder' b0_ (Kd.N_base ho30) hb); replace HO141 := am (Kd.V_elder' (vq HO141.out) (Kd.N_base ho30) hb); replace HL145_0 := am (Kd.V_elder' (vq HL145_0.out) (Kd.N_base ho30) hb); replace HO156 := am (Kd.V_elder' (vq HO156.out) (Kd.N_base ho30) hb); have HO148 := am (Kd.N_lower ho30 (below_size bel)); replace HR145_0 := am (Kd.C_below b8_ hb); replace HB := am (below_step bel hb); clear hb ho30; refine hK.out _ _ (HS0_) (fun hHeld => ?_); clear hK K; refine nm 40 ?_; refine on1 0 31 (fun K hK => ?_)
          refine Kd.N_lit_step (Kd.slice 9 Kd.string) _ 22 ?hg (N' := 31) ?hd (xs := ([] : List (List ByteArray))) (inner := []) (ok := (fun k_ => (P0_ k_ ∨ w.heap.size ≤ k_) ∧ some k_ ≠ (.slice Ao5 x3_1.length co5 : Value).ownBlock ∧ some k_ ≠ (v147 : Value).ownBlock)) (okp := (fun k_ => (P0_ k_ ∨ w.heap.size ≤ k_) ∧ some k_ ≠ (.slice Ao5 x3_1.length co5 : Value).ownBlock ∧ some k_ ≠ (v147 : Value).ownBlock)) ?hr ?hp (fun _ hk => hk) ((show ∀ k_, w29.heap.size ≤ k_ → (fun k_ => (P0_ k_ ∨ w.heap.size ≤ k_) ∧ some k_ ≠ (.slice Ao5 x3_1.length co5 : Value).ownBlock ∧ some k_ ≠ (v147 : Value).ownBlock) k_ from fun k_ hk => ⟨(.inr (Nat.le_trans (below_size bel) hk)), Kd.fresh' (Kd.N_lt b0_) k_ hk, Kd.fresh' (Kd.N_lt b13_) k_ hk⟩) _ (Nat.le_refl _)) (Below.refl _ _) (Nat.le_refl _) (by simp) ?_; (case hd => rfl); (case hg => rfl); (case hr => first | (go_simp; done) | (go_simp; rfl)); (case hp => exact (Reps.none _ _))
          intro v135 w31 ho32 hb hg_ hnew_; have HS0_ := (hb.cell (World.block_lt_of_cell? _ _ (hHeld))).trans (hHeld); clear hg_ hnew_
          (first | rw [← Ny134.out] at ho32 | (simp only [Int.reduceToNat] at ho32; rw [← Ny134.out] at ho32) | (simp only [Int.toNat_natCast] at ho32; rw [← Ny134.out] at ho32))
          replace HO_0 := am (Kd.V_elder' (vq HO_0.out) (Kd.N_base ho32) hb); replace HO_3 := am (Kd.N_elder' b0_ (Kd.N_base ho32) hb); replace HO141 := am (Kd.V_elder' (vq HO141.out) (Kd.N_base ho32) hb); replace HL145_0 := am (Kd.V_elder' (vq HL145_0.out) (Kd.N_base ho32) hb); replace HO156 := am (Kd.V_elder' (vq HO156.out) (Kd.N_base ho32) hb); replace HO148 := am (Kd.N_elder' b13_ (Kd.N_base ho32) hb); have HO136 := am (Kd.N_lower ho32 (below_size bel)); replace HR145_0 := am (Kd.C_below b8_ hb); replace HB := am (below_step bel hb); clear hb ho32; refine hK.out _ _ (HS0_) (fun hHeld => ?_); clear hK K; refine nm 31 ?_; refine on1 4 35 (fun K hK => ?_)
          refine Kd.N_append_rows_step (Kd.slice 9 Kd.string) (w0 := w) w.heap.size (by rfl) (.tmp 31) (.tmp 34) 41 22 (.slice none 0 0) 24 rfl Try.underlying41 info22 rfl (by decide) (by omega) v135 y134 y137 _ _ _ (fun k_ => (P0_ k_ ∨ w.heap.size ≤ k_) ∧ some k_ ≠ (v147 : Value).ownBlock) (fun k_ => ((fun k_ => (P0_ k_ ∨ w.heap.size ≤ k_) ∧ some k_ ≠ (v147 : Value).ownBlock)) k_ ∧ some k_ ≠ (v135 : Value).ownBlock) rfl rfl ?aO ?aR (fun _ hk => hk) ?aF ?aB ?aS ?aL ?_
          (case aR => exact (by skip; exact Kd.V_F (Kd.V_mono (ok' := (fun k_ => ((fun k_ => (P0_ k_ ∨ w.heap.size ≤ k_) ∧ some k_ ≠ (v147 : Value).ownBlock)) k_ ∧ some k_ ≠ (v135 : Value).ownBlock)) (HO141.out) (fun k_ hk => ⟨⟨hk.1.1, hk.1.2⟩, hk.2⟩)))); (case aB => exact bel); (case aF => exact (fun k_ hk => ⟨(.inr (Nat.le_trans (below_size bel) hk)), Kd.fresh' (Kd.N_lt b13_) k_ hk⟩)); (case aO => exact (by (with_reducible repeat (first | apply Kd.N_alloc | apply Kd.N_drewN | apply Kd.N_drew)); exact Kd.N_mono HO136.out (fun _ hk => ⟨hk.1, hk.2.2⟩))); (case aS => exact (below_size bel)); (case aL => have := LMc19.out; omega); intro v143 w33 ho hb hg hat
          have HS0_ := YtpljfjbhlboffaaW.PrintWords.cell_grown hg (by first | exact hHeld | exact (World.cell?_alloc_lt _ _ _ (World.block_lt_of_cell? _ _ (hHeld))).trans (hHeld)) b3_
          rw [← Ny142.out] at ho; replace HO_0 := am (Kd.V_afterv (ok := (fun k_ => (P0_ k_ ∨ w.heap.size ≤ k_) ∧ some k_ ≠ (.slice Ao5 x3_1.length co5 : Value).ownBlock ∧ some k_ ≠ (v147 : Value).ownBlock)) (vq (Kd.V_mono HO_0.out (fun _ hk => ⟨⟨hk.1.1.1, ⟨hk.1.1.2, hk.1.2⟩⟩, hk.2⟩))) hg hat)
          replace HO_3 := am (Kd.N_afterv (ok := (fun k_ => (P0_ k_ ∨ w.heap.size ≤ k_) ∧ some k_ ≠ (v147 : Value).ownBlock)) b0_ hg hat)
          replace HO141 := am (Kd.V_afterv (ok := (fun k_ => (P0_ k_ ∨ w.heap.size ≤ k_) ∧ some k_ ≠ (v147 : Value).ownBlock)) (vq HO141.out) hg hat); replace HL145_0 := am (Kd.V_afterv (ok := (fun k_ => (P0_ k_ ∨ w.heap.size ≤ k_) ∧ some k_ ≠ (.slice Ao5 x3_1.length co5 : Value).ownBlock ∧ some k_ ≠ (v147 : Value).ownBlock)) (vq (Kd.V_mono HL145_0.out (fun _ hk => ⟨⟨hk.1.1.1, ⟨hk.1.1.2, hk.1.2⟩⟩, hk.2⟩))) hg hat); replace HO156 := am (Kd.V_afterv (ok := (fun k_ => (P0_ k_ ∨ w.heap.size ≤ k_) ∧ some k_ ≠ (v147 : Value).ownBlock)) (vq HO156.out) hg hat)
          replace HO148 := am (Kd.N_afterv (ok := (fun k_ => (P0_ k_ ∨ w.heap.size ≤ k_) ∧ some k_ ≠ (.slice Ao5 x3_1.length co5 : Value).ownBlock)) b13_ hg hat)
          replace HB := am (hb); have HO144 := am (ho); clear HO136; clear ho hb hg hat; refine hK.out _ _ (HS0_) (fun hHeld => ?_); clear hK K; refine nm 35 ?_
          exact norm_ b35_ (hCont (v135, v143, v147) _ ⟨hHeld, (vq (Kd.V_mono HL145_0.out (fun _ hk => ⟨hk.1.1, ⟨hk.2, ⟨hk.1.2.2, hk.1.2.1⟩⟩⟩))), (vq (Kd.V_mono HO141.out (fun _ hk => ⟨hk.1.1, ⟨hk.2, hk.1.2⟩⟩))), b18_, b31_, (vq (Kd.V_mono HO156.out (fun _ hk => ⟨hk.1.1, ⟨hk.2, hk.1.2⟩⟩))), (vq (Kd.V_mono HO_0.out (fun _ hk => ⟨hk.1.1, ⟨hk.2, ⟨hk.1.2.2, hk.1.2.1⟩⟩⟩))), b33_, bel⟩)
        rintro ⟨v135, v143, v147⟩ w34 ⟨hS_, h0_, h1_, h2_, h3_, h4_, h5_, h6_, h7_⟩
        have n0_ : Aside0 (Kd.V Kd.string 9 w34 w.heap.size (fun k_ => (P0_ k_ ∨ w.heap.size ≤ k_) ∧ some k_ ≠ (v143 : Value).ownBlock ∧ some k_ ≠ (v147 : Value).ownBlock ∧ some k_ ≠ (.slice Ao5 x3_1.length co5 : Value).ownBlock) (.slice A145_0 (rd_L1 l0 x4_1).length c145_0) (rd_L1 l0 x4_1)) := ⟨h0_⟩
        have n1_ : Aside0 (Kd.V (Kd.slice 9 Kd.string) 22 w34 w.heap.size (fun k_ => (P0_ k_ ∨ w.heap.size ≤ k_) ∧ some k_ ≠ (v143 : Value).ownBlock ∧ some k_ ≠ (v147 : Value).ownBlock) (.slice Ao5 y137.length co5) y137) := ⟨h1_⟩
        have n2_ : Aside0 (Kd.N (Kd.slice 9 Kd.string) 22 w34 w.heap.size (fun k_ => (P0_ k_ ∨ w.heap.size ≤ k_) ∧ some k_ ≠ (v147 : Value).ownBlock) v143 y142) := ⟨h2_⟩
        have n3_ : Aside0 (Kd.N (Kd.slice 9 Kd.string) 22 w34 w.heap.size (fun k_ => (P0_ k_ ∨ w.heap.size ≤ k_) ∧ some k_ ≠ (v143 : Value).ownBlock ∧ some k_ ≠ (.slice Ao5 x3_1.length co5 : Value).ownBlock) v147 y146) := ⟨h3_⟩
        have n4_ : Aside0 (Kd.V (Kd.slice 9 Kd.string) 22 w34 w.heap.size (fun k_ => (P0_ k_ ∨ w.heap.size ≤ k_) ∧ some k_ ≠ (v143 : Value).ownBlock ∧ some k_ ≠ (v147 : Value).ownBlock) (.slice A28 y152.length c28) y152) := ⟨h4_⟩
        have n5_ : Aside0 (Kd.V (Kd.slice 9 Kd.string) 22 w34 w.heap.size (fun k_ => (P0_ k_ ∨ w.heap.size ≤ k_) ∧ some k_ ≠ (v143 : Value).ownBlock ∧ some k_ ≠ (v147 : Value).ownBlock ∧ some k_ ≠ (.slice Ao5 x3_1.length co5 : Value).ownBlock) (.slice (some ad145) l0.length c0) l0) := ⟨h5_⟩
        have n6_ : Aside0 (Kd.N (Kd.slice 9 Kd.string) 22 w34 w.heap.size (fun k_ => (P0_ k_ ∨ w.heap.size ≤ k_) ∧ some k_ ≠ (v143 : Value).ownBlock ∧ some k_ ≠ (v147 : Value).ownBlock) (.slice Ao5 x3_1.length co5) x3_1) := ⟨h6_⟩
        have n7_ : Aside0 (Below w.heap.size w w34) := ⟨h7_⟩
        clear HO_0; clear HO_3; clear HB; clear h0_ h1_ h2_ h3_ h4_ h5_ h6_ h7_; have HL145_0 := n0_; have HO141 := n1_; have HO144 := n2_; have HO148 := n3_; have HO156 := n4_; have HO_0 := n5_; have HO_3 := n6_; have HB := n7_; clear n0_ n1_ n2_ n3_ n4_ n5_ n6_ n7_
        have hHeld : w34.cell? (ad145.add (x4_1).toNat) = some (.slice A145_0 (rd_L1 l0 x4_1).length c145_0) := hS_
        obtain ⟨Ao36, co36, eo36⟩ := Kd.N_slice HO148.out
        (first | subst eo36 | (injection eo36 with f1_ f2_ f3_; have f4_ := f1_.symm; have f5_ := f3_.symm; clear f1_ f2_ f3_; subst f4_; subst f5_))
        refine norm_ (a' := ?_) ?_ ?_
        rotate_left
        ·simp only [putAll, Act.put, List.setIfInBounds_toArray, List.set_cons_zero, List.set_cons_succ]
         rfl
        refine on1 10 41 (fun K hK => ?_)
        refine Kd.N_append_rows_step (Kd.slice 9 Kd.string) (w0 := w) w.heap.size (by rfl) (.tmp 35) (.tmp 40) 41 22 (.slice none 0 0) 24 rfl Try.underlying41 info22 rfl (by decide) (by omega) v143 y142 y146 _ _ _ (fun k_ => (P0_ k_ ∨ w.heap.size ≤ k_)) (fun k_ => ((fun k_ => (P0_ k_ ∨ w.heap.size ≤ k_))) k_ ∧ some k_ ≠ (v143 : Value).ownBlock) rfl rfl ?aO ?aR (fun _ hk => hk) ?aF ?aB ?aS ?aL ?_
        (case aR => exact (by skip; exact Kd.N_F (Kd.N_mono (ok' := (fun k_ => ((fun k_ => (P0_ k_ ∨ w.heap.size ≤ k_))) k_ ∧ some k_ ≠ (v143 : Value).ownBlock)) (HO148.out) (fun k_ hk => ⟨hk.1, hk.2.1⟩)))); (case aB => exact bel); (case aF => exact (fun k_ hk => (.inr (Nat.le_trans (below_size bel) hk)))); (case aO => exact (by (with_reducible repeat (first | apply Kd.N_alloc | apply Kd.N_drewN | apply Kd.N_drew)); exact Kd.N_mono HO144.out (fun _ hk => hk.1))); (case aS => exact (below_size bel)); (case aL => have := LMc22.out; omega); intro v150 w35 ho hb hg hat
        have HS0_ := YtpljfjbhlboffaaW.PrintWords.cell_grown hg (by first | exact hHeld | exact (World.cell?_alloc_lt _ _ _ (World.block_lt_of_cell? _ _ (hHeld))).trans (hHeld)) b3_
        rw [← Ny149.out] at ho; replace HO_0 := am (Kd.V_afterv (ok := (fun k_ => (P0_ k_ ∨ w.heap.size ≤ k_) ∧ some k_ ≠ (.slice Ao5 x3_1.length co5 : Value).ownBlock ∧ some k_ ≠ (.slice Ao36 y146.length co36 : Value).ownBlock)) (vq (Kd.V_mono HO_0.out (fun _ hk => ⟨⟨hk.1, ⟨hk.2.2.2, hk.2.2.1⟩⟩, hk.2.1⟩))) hg hat)
        replace HO_3 := am (Kd.N_afterv (ok := (fun k_ => (P0_ k_ ∨ w.heap.size ≤ k_) ∧ some k_ ≠ (.slice Ao36 y146.length co36 : Value).ownBlock)) (by (with_reducible repeat (first | apply Kd.N_alloc | apply Kd.N_drewN | apply Kd.N_drew)); exact Kd.N_mono HO_3.out (fun _ hk => ⟨⟨hk.1, hk.2.2⟩, hk.2.1⟩)) hg hat)
        replace HO141 := am (Kd.V_afterv (ok := (fun k_ => (P0_ k_ ∨ w.heap.size ≤ k_) ∧ some k_ ≠ (.slice Ao36 y146.length co36 : Value).ownBlock)) (vq (Kd.V_mono HO141.out (fun _ hk => ⟨⟨hk.1, hk.2.2⟩, hk.2.1⟩))) hg hat); replace HL145_0 := am (Kd.V_afterv (ok := (fun k_ => (P0_ k_ ∨ w.heap.size ≤ k_) ∧ some k_ ≠ (.slice Ao5 x3_1.length co5 : Value).ownBlock ∧ some k_ ≠ (.slice Ao36 y146.length co36 : Value).ownBlock)) (vq (Kd.V_mono HL145_0.out (fun _ hk => ⟨⟨hk.1, ⟨hk.2.2.2, hk.2.2.1⟩⟩, hk.2.1⟩))) hg hat); replace HO156 := am (Kd.V_afterv (ok := (fun k_ => (P0_ k_ ∨ w.heap.size ≤ k_) ∧ some k_ ≠ (.slice Ao36 y146.length co36 : Value).ownBlock)) (vq (Kd.V_mono HO156.out (fun _ hk => ⟨⟨hk.1, hk.2.2⟩, hk.2.1⟩))) hg hat)
        replace HO148 := am (Kd.N_afterv (ok := (fun k_ => (P0_ k_ ∨ w.heap.size ≤ k_) ∧ some k_ ≠ (.slice Ao5 x3_1.length co5 : Value).ownBlock)) (by (with_reducible repeat (first | apply Kd.N_alloc | apply Kd.N_drewN | apply Kd.N_drew)); exact Kd.N_mono HO148.out (fun _ hk => ⟨⟨hk.1, hk.2.2⟩, hk.2.1⟩)) hg hat)
        replace HB := am (hb); have HO151 := am (ho); clear HO144; clear ho hb hg hat; refine hK.out _ _ (HS0_) (fun hHeld => ?_); clear hK K; refine nm 41 ?_; refine on1 14 45 (fun K hK => ?_)
        refine Kd.N_append_rows_step (Kd.slice 9 Kd.string) (w0 := w) w.heap.size (by rfl) (.tmp 41) (.tmp 44) 41 22 (.slice none 0 0) 24 rfl Try.underlying41 info22 rfl (by decide) (by omega) v150 y149 y152 _ _ _ (fun k_ => (P0_ k_ ∨ w.heap.size ≤ k_)) (fun k_ => ((fun k_ => (P0_ k_ ∨ w.heap.size ≤ k_))) k_ ∧ some k_ ≠ (v150 : Value).ownBlock) rfl rfl ?aO ?aR (fun _ hk => hk) ?aF ?aB ?aS ?aL ?_
        (case aR => exact (by skip; exact Kd.V_F (Kd.V_mono (ok' := (fun k_ => ((fun k_ => (P0_ k_ ∨ w.heap.size ≤ k_))) k_ ∧ some k_ ≠ (v150 : Value).ownBlock)) (HO156.out) (fun k_ hk => ⟨hk.1.1, hk.2⟩)))); (case aB => exact bel); (case aF => exact (fun k_ hk => (.inr (Nat.le_trans (below_size bel) hk)))); (case aO => exact (by (with_reducible repeat (first | apply Kd.N_alloc | apply Kd.N_drewN | apply Kd.N_drew)); exact HO151.out)); (case aS => exact (below_size bel)); (case aL => have := LMc25.out; omega); intro v158 w37 ho hb hg hat
        have HS0_ := YtpljfjbhlboffaaW.PrintWords.cell_grown hg (by first | exact hHeld | exact (World.cell?_alloc_lt _ _ _ (World.block_lt_of_cell? _ _ (hHeld))).trans (hHeld)) b3_
        rw [← Ny157.out] at ho; replace HO_0 := am (Kd.V_afterv (ok := (fun k_ => (P0_ k_ ∨ w.heap.size ≤ k_) ∧ some k_ ≠ (.slice Ao5 x3_1.length co5 : Value).ownBlock ∧ some k_ ≠ (.slice Ao36 y146.length co36 : Value).ownBlock)) (vq HO_0.out) hg hat)
        replace HO_3 := am (Kd.N_afterv (ok := (fun k_ => (P0_ k_ ∨ w.heap.size ≤ k_) ∧ some k_ ≠ (.slice Ao36 y146.length co36 : Value).ownBlock)) b0_ hg hat)
        replace HO141 := am (Kd.V_afterv (ok := (fun k_ => (P0_ k_ ∨ w.heap.size ≤ k_) ∧ some k_ ≠ (.slice Ao36 y146.length co36 : Value).ownBlock)) (vq HO141.out) hg hat); replace HL145_0 := am (Kd.V_afterv (ok := (fun k_ => (P0_ k_ ∨ w.heap.size ≤ k_) ∧ some k_ ≠ (.slice Ao5 x3_1.length co5 : Value).ownBlock ∧ some k_ ≠ (.slice Ao36 y146.length co36 : Value).ownBlock)) (vq HL145_0.out) hg hat); replace HO156 := am (Kd.V_afterv (ok := (fun k_ => (P0_ k_ ∨ w.heap.size ≤ k_) ∧ some k_ ≠ (.slice Ao36 y146.length co36 : Value).ownBlock)) (vq HO156.out) hg hat)
        replace HO148 := am (Kd.N_afterv (ok := (fun k_ => (P0_ k_ ∨ w.heap.size ≤ k_) ∧ some k_ ≠ (.slice Ao5 x3_1.length co5 : Value).ownBlock)) b13_ hg hat)
        replace HB := am (hb); have HO159 := am (ho); clear HO151; clear ho hb hg hat; refine hK.out _ _ (HS0_) (fun hHeld => ?_); clear hK K; refine nm 45 ?_; refine pu 15 3 ?_
        refine done_ (done_of HT_.out (by kernel_rfl)) ?_
        try go_wp2
        go_roundg kj5
        case measure => have := HK1.out; have := HK2.out; have := HJ5.out; omega
        case rel => exact ⟨(y157), (wrap64 (x4_1 + 1)), sq, H', ⟨by have := HK1.out; have := HK2.out; have := HJ5.out; omega⟩, ⟨vq (Kd.V_mono HO_0.out (fun _ hk => ⟨hk.1.1, hk.2⟩))⟩, ⟨by (with_reducible repeat (first | apply Kd.N_alloc | apply Kd.N_drewN | apply Kd.N_drew)); exact HO159.out⟩, ⟨bel⟩⟩
   rw [if_neg c4] at H; have c4b0 := decide_eq_false c4; clear c4; obtain rfl := Option.some.inj H; go_wp2; go_ret
   exact ⟨_, eq_, b0_, bel⟩
-- shrunk

/-! ### spec_l3All: function 23 -/
mutual
def spec_l3All.l0 : Nat → List (List ByteArray) → Int → Option ((List (List ByteArray)))
 | 0, _, _ => none
 | k + 1, x3, x4 => if x4 < (x3.length : Int) then (spec_l3All.l1 k x3 x4 97) else ((spec_l3Sort.f k x3).bind fun t163 => (some t163))
def spec_l3All.l1 : Nat → List (List ByteArray) → Int → Int → Option ((List (List ByteArray)))
 | 0, _, _, _ => none
 | k + 1, x3, x4, x5 => if x5 ≤ 122 then (if 0 ≤ x4 then (if x4 < (x3.length : Int) then ((spec_l3Ends.f k (rd_L1 x3 x4) x5).bind fun t167 => (spec_l3All.l2 k x3 x4 x5 t167 ((t167.length : Int) == 0) 0)) else (none)) else (none)) else (spec_l3All.l0 k x3 (wrap64 (x4 + 1)))
def spec_l3All.l2 : Nat → List (List ByteArray) → Int → Int → List ByteArray → Bool → Int → Option ((List (List ByteArray)))
 | 0, _, _, _, _, _, _ => none
 | k + 1, x3, x4, x5, x6, x7, x8 => if x8 < (x3.length : Int) then (if x7 = true then (spec_l3All.l1 k x3 x4 ((x5 + 1) % 256)) else (if 0 ≤ x8 then ((spec_l3Same.f k (rd_L1 x3 x8) x6).bind fun t171 => (spec_l3All.l2 k x3 x4 x5 x6 t171 (wrap64 (x8 + 1)))) else (none))) else (if x7 = true then (spec_l3All.l1 k x3 x4 ((x5 + 1) % 256)) else (if x3.length < 5864062014805 then (spec_l3All.l1 k (x3 ++ [x6]) x4 ((x5 + 1) % 256)) else (none)))
end
def spec_l3All.f (k : Nat) (l0 : List ByteArray) : Option ((List (List ByteArray))) := spec_l3All.l0 k (([l0] : List (List ByteArray))) 0
theorem spec_l3All.calls (k : Nat) (P0_ : Nat → Prop) (A0 : Option Addr) (c0 : Nat) (l0 : List ByteArray) (r : List (List ByteArray)) (w : World) (hs0 : Kd.V Kd.string 9 w w.heap.size (fun k_ => P0_ k_) (.slice A0 l0.length c0) l0) (h : spec_l3All.f k l0 = some r) :
  Calls Try.prog 23 #[.slice A0 l0.length c0] w fun e w' => ∃ v0_ : Value, e = .returned (v0_) ∧ Kd.N (Kd.slice 9 Kd.string) 22 w' w.heap.size (fun k_ => (P0_ k_ ∨ w.heap.size ≤ k_)) v0_ r ∧ Below w.heap.size w w' := by
 have HO0 := am (show Kd.V Kd.string 9 w w.heap.size (fun k_ => (P0_ k_ ∨ w.heap.size ≤ k_)) (.slice A0 l0.length c0) l0 from Kd.V_mono hs0 (fun k_ hk => .inl hk)); have HB := am (Below.refl w.heap.size w)
 have H : (spec_l3All.l0 k (([l0] : List (List ByteArray))) 0) = some r := h
 clear h; obtain ⟨y160, hy160⟩ : ∃ y_ : List (List ByteArray), y_ = (([l0] : List (List ByteArray))) := ⟨_, rfl⟩
 replace H : (spec_l3All.l0 k y160 0) = some r := by first | (rw [hy160]; with_reducible exact H) | (have H2_ := bm H; rw [hy160]; with_reducible exact H2_) | (with_reducible exact bm H) | with_reducible exact H | (rw [hy160]; exact H) | exact H
 have Ny160 := am hy160; clear hy160
 have H' := am H
 clear H; go_enter Try.func23, Try.ntmps23
 go_wp2_with (first | ((with_reducible refine gate_dst (N := 10) rfl ?_); refine Kd.N_lit (Kd.slice 9 Kd.string) _ 22 ?hg (N' := 10) ?hd (xs := ([l0] : List (List ByteArray))) (inner := [.slice A0 l0.length c0]) (ok := (fun k_ => (P0_ k_ ∨ w.heap.size ≤ k_))) (okp := (fun k_ => (P0_ k_ ∨ w.heap.size ≤ k_))) ?hr ?hp (fun _ hk => hk) ((show ∀ k_, w.heap.size ≤ k_ → (fun k_ => (P0_ k_ ∨ w.heap.size ≤ k_)) k_ from fun k_ hk => (.inr (Nat.le_trans (below_size bel) hk))) _ (Nat.le_refl _)) (Below.refl _ _) (Nat.le_refl _) (by simp) ?_; (case hd => rfl); (case hg => rfl); (case hr => first | (go_simp; done) | (go_simp; rfl)); (case hp => exact (Reps.one (show Kd.FK (Kd.slice 9 Kd.string) _ _ l0 [.slice A0 l0.length c0] from (Kd.FK_slice_mk (Kd.V_reads' (Kd.V_mono (ok' := (fun k_ => (P0_ k_ ∨ w.heap.size ≤ k_))) (HO0.out) (fun k_ hk => hk))).2.1 (Kd.V_F (Kd.V_mono (ok' := (fun k_ => (P0_ k_ ∨ w.heap.size ≤ k_))) (HO0.out) (fun k_ hk => hk))))) (Reps.none _ _))); intro v161 w2 ho3 hb hg_ hnew_; clear hg_ hnew_; (first | rw [← Ny160.out] at ho3 | (simp only [Int.reduceToNat] at ho3; rw [← Ny160.out] at ho3) | (simp only [Int.toNat_natCast] at ho3; rw [← Ny160.out] at ho3)); replace HO0 := am (Kd.V_elder' (vq HO0.out) (Kd.N_base ho3) hb); have HO162 := am (Kd.N_lower ho3 (below_size bel)); replace HB := am (below_step bel hb); clear hb ho3))
 go_loopg [3, 4] k (fun kq v3 v4 w' => ∃ (x3_1 : List (List ByteArray)) (x4_1 : Int), v4 = .int .i64 x4_1 ∧ Aside0 (spec_l3All.l0 kq x3_1 x4_1 = some r) ∧ Aside0 (kq ≤ k) ∧ Aside0 (Kd.N (Kd.slice 9 Kd.string) 22 w' w.heap.size (fun k_ => (P0_ k_ ∨ w.heap.size ≤ k_)) v3 x3_1) ∧ Aside0 (Below w.heap.size w w'))
 case atStart => exact ⟨(y160), (0), sq, H', ⟨Nat.le_refl _⟩, ⟨by (with_reducible repeat (first | apply Kd.N_alloc | apply Kd.N_drewN | apply Kd.N_drew)); exact HO162.out⟩, ⟨bel⟩⟩
 case round =>
  clear H'; (try clear c2); (try clear p2); obtain ⟨x3_1, x4_1, rfl, HA, HK1, HO_3, HB⟩ := hrel
  cases gk with
  | zero => exact absurd HA.out (by simp [spec_l3All.l0])
  | succ k1 =>
   have H := HA.out; clear HA; simp only [spec_l3All.l0] at H
   by_cases c4 : x4_1 < (x3_1.length : Int)
   ·rw [if_pos c4] at H; have c4b0 := decide_eq_true c4; clear c4
    have H' := am H
    clear H; obtain ⟨Ao5, co5, eo5⟩ := Kd.N_slice HO_3.out; subst eo5; go_wp2
    go_loopg [3, 5] k1 (fun kq v3 v5 w' => ∃ (x3_2 : List (List ByteArray)) (x5_2 : Int), v5 = .int .u8 x5_2 ∧ Aside0 (spec_l3All.l1 kq x3_2 x4_1 x5_2 = some r) ∧ Aside0 (kq ≤ k1) ∧ Aside0 (Kd.N (Kd.slice 9 Kd.string) 22 w' w.heap.size (fun k_ => (P0_ k_ ∨ w.heap.size ≤ k_)) v3 x3_2) ∧ Aside0 (Below w.heap.size w w'))
    case atStart => exact ⟨(x3_1), (97), sq, H', ⟨Nat.le_refl _⟩, ⟨b0_⟩, ⟨bel⟩⟩
    case round =>
     clear H'; (try clear c2); (try clear p2); (try clear c4); (try clear c4b0); (try clear p2); obtain ⟨x3_2, x5_2, rfl, HA, HK2, HO_3, HB⟩ := hrel
     cases gk with
     | zero => exact absurd HA.out (by simp [spec_l3All.l1])
     | succ k2 =>
      have H := HA.out; clear HA; simp only [spec_l3All.l1] at H
      by_cases c6 : x5_2 ≤ 122
      ·rw [if_pos c6] at H; have c6b0 := decide_eq_true c6; clear c6
       replace H := it H; obtain ⟨c7b0, H⟩ := H
       replace H := it H; obtain ⟨c8b0, H⟩ := H; replace H := bs H; obtain ⟨t167, A90, H⟩ := H; (try dsimp only at H); have A9 := Aside0.mk A90; clear A90
       have H' := am H
       clear H; obtain ⟨Ao10, co10, eo10⟩ := Kd.N_slice HO_3.out; subst eo10
       have p166 : 0 ≤ (x4_1 : Int) := of_decide_eq_true ad
       have q166 : x4_1 < (x3_2.length : Int) := of_decide_eq_true ad
       obtain ⟨ad166, A166_0, c166_0, e166, hx166_0, hl166_0, hi166_0⟩ := at_L1 (Kd.N_reads' HO_3.out).2.2 x4_1 p166 q166; cases e166
       obtain ⟨ce166, hce166, hMe166, hcc166⟩ := Kd.N_get HO_3.out [] x4_1 p166 (by first | exact q166 | exact of_decide_eq_true ad | (have e_ := (Kd.N_reads' HO_3.out).1; omega))
       obtain ⟨ua166_0, uc166_0, rfl, ul166_0, ge166_0⟩ := Kd.FK_slice_open hMe166; have hv166_0 := hcc166 0 _ rfl; rw [Nat.add_zero, show ((Kd.slice 9 Kd.string)).sz = 1 from rfl, Nat.mul_one] at hv166_0; replace hv166_0 := Option.some.inj (hv166_0.symm.trans hx166_0)
       injection hv166_0 with hva_ hvn_ hvc_
       rw [hva_] at ge166_0; rw [hvc_] at ul166_0; have HL166_0 := am (show Kd.V Kd.string 9 _ w.heap.size _ _ (rd_L1 x3_2 x4_1) from Kd.V_mk ul166_0 ge166_0); clear hva_ hvn_ hvc_ ge166_0 ul166_0; clear hcc166 hce166; have HR166_0 := am hi166_0; have HC166_0 := am hl166_0; clear hi166_0 hl166_0; replace p166 := eq_true p166; replace q166 := eq_true q166
       go_wp2_with (first | ((with_reducible refine gate_callee (f := 24) rfl ?_); refine gl 26 Try.func24 #[.slice A166_0 (rd_L1 x3_2 x4_1).length c166_0, .int .u8 x5_2] ?_; (with_reducible refine (spec_l3Ends.calls k2 _ _ (rd_L1 x3_2 x4_1) x5_2 t167 _ ?side1 ?side2 A9.out).mono ?_); (case side1 => repeat (first | exact b9_ | (with_reducible refine Kd.C_alloc ?_ _) | (with_reducible refine Kd.C_drewN ?_ _) | (with_reducible refine Kd.C_drew ?_))); (case side2 => exact HC166_0.out); rintro e w11 ⟨v168, rfl, ho0, hb⟩; refine ⟨_, rfl, ?_⟩; replace HO_3 := am (Kd.N_elder' b0_ (Kd.R_base ho0) hb); replace HL166_0 := am (Kd.V_elder' (vq HL166_0.out) (Kd.R_base ho0) hb); have HO169 := am (Kd.R_lower (Kd.R_newM (M := fun k_ => (w.heap.size ≤ k_)) ho0 (below_size bel) (fun k_ h_ => h_)) (below_size bel)); replace HR166_0 := am (Kd.C_below b9_ hb); replace HB := am (below_step bel hb); clear hb; (try clear ho0); obtain ⟨Ao12, co12, eo12⟩ := Kd.R_slice HO169.out; subst eo12))
       go_loopg [7, 8] k2 (fun kq v7 v8 w' => ∃ (x7_3 : Bool) (x8_3 : Int), v7 = .bool x7_3 ∧ v8 = .int .i64 x8_3 ∧ Aside0 (spec_l3All.l2 kq x3_2 x4_1 x5_2 t167 x7_3 x8_3 = some r) ∧ Aside0 (kq ≤ k2) ∧ Aside0 (Kd.N (Kd.slice 9 Kd.string) 22 w' w.heap.size (fun k_ => (P0_ k_ ∨ w.heap.size ≤ k_) ∧ some k_ ≠ ((.slice Ao12 t167.length co12) : Value).ownBlock) (.slice (some ad166) x3_2.length co10) x3_2) ∧ Aside0 (Kd.R Kd.string 9 w' w.heap.size (fun k_ => (w.heap.size ≤ k_)) (.slice Ao12 t167.length co12) t167) ∧ Aside0 (Kd.C Kd.string w' A166_0 (rd_L1 x3_2 x4_1).length (rd_L1 x3_2 x4_1)) ∧ Aside0 (Below w.heap.size w w'))
       case atStart => exact ⟨(((t167.length : Int) == 0)), (0), sq, sq, H', ⟨Nat.le_refl _⟩, ⟨b0_⟩, ⟨rq (Kd.R_mono HO169.out (fun _ hk => hk.1))⟩, ⟨b9_⟩, ⟨bel⟩⟩
       case round =>
        clear H'; (try clear c1); (try clear p1); (try clear q1); (try clear hx1); (try clear c2); (try clear p2); (try clear c4); (try clear c4b0); (try clear c6); (try clear c6b0); (try clear c7); (try clear c7b0); (try clear c8); (try clear c8b0); (try clear hx166_0); (try clear p166); (try clear p2); (try clear q166); obtain ⟨x7_3, x8_3, rfl, rfl, HA, HK3, HO_3, HO_6, HR166_0, HB⟩ := hrel
        cases gk with
        | zero => exact absurd HA.out (by simp [spec_l3All.l2])
        | succ k3 =>
         have H := HA.out; clear HA; simp only [spec_l3All.l2] at H
         by_cases c13 : x8_3 < (x3_2.length : Int)
         ·rw [if_pos c13] at H; have c13b0 := decide_eq_true c13; clear c13
          by_cases c14 : x7_3 = true
          ·subst c14
           rw [if_pos rfl] at H
           have H' := am H
           clear H; go_wp2
           go_roundg k3
           case measure => have := HK1.out; have := HK2.out; have := HK3.out; omega
           case rel => exact ⟨(x3_2), ((x5_2 + 1) % 256), sq, H', ⟨b43_⟩, ⟨b20_⟩, ⟨bel⟩⟩
          replace c14 := Bool.eq_false_iff.mpr c14; subst c14
          rw [if_neg Bool.false_ne_true] at H
          replace H := it H; obtain ⟨c15b0, H⟩ := H; replace H := bs H; obtain ⟨t171, A160, H⟩ := H; (try dsimp only at H); have A16 := Aside0.mk A160; clear A160
          have H' := am H
          clear H
          have p170 : 0 ≤ (x8_3 : Int) := of_decide_eq_true ad
          have q170 : x8_3 < (x3_2.length : Int) := of_decide_eq_true ad
          obtain ⟨ad170, A170_0, c170_0, e170, hx170_0, hl170_0, hi170_0⟩ := at_L1 (Kd.N_reads' HO_3.out).2.2 x8_3 p170 q170
          obtain rfl : ad166 = ad170 := (by injection e170)
          obtain ⟨ce170, hce170, hMe170, hcc170⟩ := Kd.N_get HO_3.out [] x8_3 p170 (by first | exact q170 | exact of_decide_eq_true ad | (have e_ := (Kd.N_reads' HO_3.out).1; omega))
          obtain ⟨ua170_0, uc170_0, rfl, ul170_0, ge170_0⟩ := Kd.FK_slice_open hMe170; have hv170_0 := hcc170 0 _ rfl; rw [Nat.add_zero, show ((Kd.slice 9 Kd.string)).sz = 1 from rfl, Nat.mul_one] at hv170_0; replace hv170_0 := Option.some.inj (hv170_0.symm.trans hx170_0)
          injection hv170_0 with hva_ hvn_ hvc_
          rw [hva_] at ge170_0; rw [hvc_] at ul170_0; have HL170_0 := am (show Kd.V Kd.string 9 _ w.heap.size _ _ (rd_L1 x3_2 x8_3) from Kd.V_mk ul170_0 ge170_0); clear hva_ hvn_ hvc_ ge170_0 ul170_0; clear hcc170 hce170; have HR170_0 := am hi170_0; have HC170_0 := am hl170_0; clear hi170_0 hl170_0; replace p170 := eq_true p170; replace q170 := eq_true q170
          go_wp2_with (first | ((with_reducible refine gate_callee (f := 49) rfl ?_); refine gl 45 Try.func49 #[.slice A170_0 (rd_L1 x3_2 x8_3).length c170_0, .slice Ao12 t167.length co12] ?_; (with_reducible refine (spec_l3Same.calls k3 _ _ (rd_L1 x3_2 x8_3) _ _ t167 t171 _ ?side1 ?side2 ?side3 ?side4 A16.out).mono ?_); (case side1 => repeat (first | exact (by repeat (first | (with_reducible exact HR170_0.out) | (with_reducible refine Kd.C_alloc ?_ _) | (with_reducible refine Kd.C_drewN ?_ _) | (with_reducible refine Kd.C_drew ?_) | exact HR170_0.out)) | (with_reducible refine Kd.C_alloc ?_ _) | (with_reducible refine Kd.C_drewN ?_ _) | (with_reducible refine Kd.C_drew ?_))); (case side2 => exact HC170_0.out); (case side3 => exact cq (Kd.R_reads' HO_6.out).2.2); (case side4 => exact (Kd.R_reads' HO_6.out).2.1); rintro e w' ⟨rfl, ⟨nd, rfl⟩⟩; refine ⟨_, rfl, ?_⟩))
          go_roundg k3
          case measure => have := HK1.out; have := HK2.out; have := HK3.out; omega
          case rel => exact ⟨(t171), (wrap64 (x8_3 + 1)), sq, sq, H', ⟨b43_⟩, ⟨b0_⟩, ⟨rq HO_6.out⟩, ⟨b9_⟩, ⟨bel⟩⟩
         rw [if_neg c13] at H; have c13b0 := decide_eq_false c13; clear c13
         by_cases c17 : x7_3 = true
         ·subst c17
          rw [if_pos rfl] at H
          have H' := am H
          clear H; go_wp2
          go_roundg k3
          case measure => have := HK1.out; have := HK2.out; have := HK3.out; omega
          case rel => exact ⟨(x3_2), ((x5_2 + 1) % 256), sq, H', ⟨b43_⟩, ⟨b20_⟩, ⟨bel⟩⟩
         replace c17 := Bool.eq_false_iff.mpr c17; subst c17
         rw [if_neg Bool.false_ne_true] at H
         replace H := ip H; obtain ⟨c18, H⟩ := H; have LMc18 := Aside0.mk c18; clear c18; obtain ⟨y172, hy172⟩ : ∃ y_ : List (List ByteArray), y_ = (x3_2 ++ [t167]) := ⟨_, rfl⟩
         replace H : (spec_l3All.l1 k3 y172 x4_1 ((x5_2 + 1) % 256)) = some r := by first | (rw [hy172]; with_reducible exact H) | (have H2_ := bm H; rw [hy172]; with_reducible exact H2_) | (with_reducible exact bm H) | with_reducible exact H | (rw [hy172]; exact H) | exact H
         have Ny172 := am hy172; clear hy172
         have H' := am H
         clear H
         go_wp2_with (first | ((with_reducible refine gate_builtin (b := .append) (xs := #[.tmp 48, .tmp 50]) rfl ?_); at_builtin; refine Kd.N_append (Kd.slice 9 Kd.string) (w0 := w) w.heap.size rfl (.tmp 48) (.tmp 50) 41 22 (.slice none 0 0) 24 rfl Try.underlying41 info22 rfl (by decide) (by omega) (.slice (some ad166) x3_2.length co10) x3_2 t167 [.slice Ao12 t167.length co12] (fun k_ => (P0_ k_ ∨ w.heap.size ≤ k_)) (fun k_ => ((fun k_ => (P0_ k_ ∨ w.heap.size ≤ k_))) k_ ∧ some k_ ≠ (.slice (some ad166) x3_2.length co10 : Value).ownBlock) rfl rfl ?aP (fun _ hk => hk) ?aF ?aO ?aB ?aS ?aL ?_; (case aP => exact (Kd.FK_slice_mk (Kd.R_reads' (Kd.R_mono (ok' := (fun k_ => ((fun k_ => (P0_ k_ ∨ w.heap.size ≤ k_))) k_ ∧ some k_ ≠ (.slice (some ad166) x3_2.length co10 : Value).ownBlock)) (Kd.R_apart' (HO_6.out) (Kd.N_typed HO_3.out) (by decide)) (fun k_ hk => ⟨(.inr (hk.1)), hk.2⟩))).2.1 (Kd.R_F (Kd.R_mono (ok' := (fun k_ => ((fun k_ => (P0_ k_ ∨ w.heap.size ≤ k_))) k_ ∧ some k_ ≠ (.slice (some ad166) x3_2.length co10 : Value).ownBlock)) (Kd.R_apart' (HO_6.out) (Kd.N_typed HO_3.out) (by decide)) (fun k_ hk => ⟨(.inr (hk.1)), hk.2⟩))))); (case aB => exact bel); (case aF => exact (fun k_ hk => (.inr (Nat.le_trans (below_size bel) hk)))); (case aO => exact b20_); (case aS => exact (below_size bel)); (case aL => have := LMc18.out; omega); intro v173 w19 ho hb hg hat; rw [← Ny172.out] at ho; replace HB := am (hb); have HO174 := am (ho); clear HO_3 HO_6; clear ho hb hg hat))
         go_roundg k3
         case measure => have := HK1.out; have := HK2.out; have := HK3.out; omega
         case rel => exact ⟨(y172), ((x5_2 + 1) % 256), sq, H', ⟨b43_⟩, ⟨by (with_reducible repeat (first | apply Kd.N_alloc | apply Kd.N_drewN | apply Kd.N_drew)); exact HO174.out⟩, ⟨bel⟩⟩
      rw [if_neg c6] at H; have c6b0 := decide_eq_false c6; clear c6
      have H' := am H
      clear H; go_wp2
      go_roundg k2
      case measure => have := HK1.out; have := HK2.out; omega
      case rel => exact ⟨(x3_2), (wrap64 (x4_1 + 1)), sq, H', ⟨b37_⟩, ⟨b0_⟩, ⟨bel⟩⟩
   rw [if_neg c4] at H; have c4b0 := decide_eq_false c4; clear c4; replace H := bs H; obtain ⟨t163, A200, H⟩ := H; (try dsimp only at H); have A20 := Aside0.mk A200; clear A200; obtain rfl := Option.some.inj H; obtain ⟨Ao21, co21, eo21⟩ := Kd.N_slice HO_3.out; subst eo21
   go_wp2_with (first | ((with_reducible refine gate_callee (f := 50) rfl ?_); refine gl 53 Try.func50 #[.slice Ao21 x3_1.length co21] ?_; (with_reducible refine (spec_l3Sort.calls k1 (fun k_ => (P0_ k_ ∨ w.heap.size ≤ k_)) _ _ x3_1 t163 _ ?side1 A20.out).mono ?_); (case side1 => exact Kd.N_V (HO_3.out)); rintro e w22 ⟨v164, rfl, ho0, hb⟩; refine ⟨_, rfl, ?_⟩; replace HO_3 := am (Kd.N_elder' b0_ (Kd.N_base ho0) hb); have HO165 := am (Kd.N_lower (Kd.N_mono (ok' := fun k_ => (P0_ k_ ∨ w.heap.size ≤ k_)) ho0 (fun k_ hk_ => Or.elim hk_ (fun hs_ => hs_) (fun hn_ => (.inr (Nat.le_trans (below_size bel) hn_))))) (below_size bel)); replace HB := am (below_step bel hb); clear hb; (try clear ho0)))
   go_ret
   exact ⟨_, eq_, by (with_reducible repeat (first | apply Kd.N_alloc | apply Kd.N_drewN | apply Kd.N_drew)); exact HO165.out, bel⟩

/-! ### spec_l3At: function 25 -/
def spec_l3At.l0 : Nat → List (List ByteArray) → List ByteArray → Int → Option (Int)
 | 0, _, _, _ => none
 | k + 1, x0, x1, x5 => if x5 < (x0.length : Int) then (if 0 ≤ x5 then ((spec_l3Same.f k (rd_L1 x0 x5) x1).bind fun t176 => (if t176 = true then (some x5) else (spec_l3At.l0 k x0 x1 (wrap64 (x5 + 1))))) else (none)) else (some (-1))
def spec_l3At.f (k : Nat) (l0 : List (List ByteArray)) (l1 : List ByteArray) : Option (Int) := spec_l3At.l0 k l0 l1 0
theorem spec_l3At.calls (k : Nat) (A0 : Option Addr) (c0 : Nat) (l0 : List (List ByteArray)) (A1 : Option Addr) (c1 : Nat) (l1 : List ByteArray) (r : Int) (w : World) (hr0 : Kd.C (Kd.slice 9 Kd.string) w A0 l0.length l0) (hc0 : l0.length ≤ c0) (hr1 : Kd.C Kd.string w A1 l1.length l1) (hc1 : l1.length ≤ c1) (h : spec_l3At.f k l0 l1 = some r) :
  Calls Try.prog 25 #[.slice A0 l0.length c0, .slice A1 l1.length c1] w fun e w' => e = .returned (.int .i64 r) ∧ Drawn0 w w' := by
 have HR0 := am hr0; have HC0 := am hc0; clear hr0 hc0; have HR1 := am hr1; have HC1 := am hc1; clear hr1 hc1
 have H : (spec_l3At.l0 k l0 l1 0) = some r := h
 clear h
 have H' := am H
 clear H; go_enter Try.func25, Try.ntmps25; go_wp2
 go_loopg [5] k (fun kq v5 w' => ∃ (x5_1 : Int), v5 = .int .i64 x5_1 ∧ Aside0 (spec_l3At.l0 kq l0 l1 x5_1 = some r) ∧ Aside0 (kq ≤ k) ∧ Drawn0 w w')
 case atStart => exact ⟨(0), sq, H', ⟨Nat.le_refl _⟩, dr⟩
 case round =>
  clear H'; (try clear c1); (try clear c2); (try clear p2); obtain ⟨x5_1, rfl, HA, HK1, ⟨m1, rfl⟩⟩ := hrel
  cases gk with
  | zero => exact absurd HA.out (by simp [spec_l3At.l0])
  | succ k1 =>
   have H := HA.out; clear HA; simp only [spec_l3At.l0] at H
   by_cases c3 : x5_1 < (l0.length : Int)
   ·rw [if_pos c3] at H; have c3b0 := decide_eq_true c3; clear c3
    replace H := it H; obtain ⟨c4b0, H⟩ := H; replace H := bs H; obtain ⟨t176, A50, H⟩ := H; (try dsimp only at H); have A5 := Aside0.mk A50; clear A50
    by_cases c6 : t176 = true
    ·subst c6
     rw [if_pos rfl] at H
     obtain rfl := Option.some.inj H
     have p175 : 0 ≤ (x5_1 : Int) := of_decide_eq_true ad
     have q175 : x5_1 < (l0.length : Int) := of_decide_eq_true ad
     obtain ⟨ad175, A175_0, c175_0, e175, hx175_0, hl175_0, hi175_0⟩ := at_L1 HR0.out x5_1 p175 q175; cases e175; have HR175_0 := am hi175_0; have HC175_0 := am hl175_0; clear hi175_0 hl175_0; replace p175 := eq_true p175; replace q175 := eq_true q175
     go_wp2_with (first | ((with_reducible refine gate_callee (f := 49) rfl ?_); refine gl 17 Try.func49 #[.slice A175_0 (rd_L1 l0 x5_1).length c175_0, .slice A1 l1.length c1] ?_; (with_reducible refine (spec_l3Same.calls k1 _ _ (rd_L1 l0 x5_1) _ _ l1 true _ ?side1 ?side2 ?side3 ?side4 A5.out).mono ?_); (case side1 => repeat (first | exact HR175_0.out | (with_reducible refine Kd.C_alloc ?_ _) | (with_reducible refine Kd.C_drewN ?_ _) | (with_reducible refine Kd.C_drew ?_))); (case side2 => exact HC175_0.out); (case side3 => repeat (first | exact HR1.out | (with_reducible refine Kd.C_alloc ?_ _) | (with_reducible refine Kd.C_drewN ?_ _) | (with_reducible refine Kd.C_drew ?_))); (case side4 => exact HC1.out); rintro e w' ⟨rfl, ⟨nd, rfl⟩⟩; refine ⟨_, rfl, ?_⟩))
     go_ret
     exact ⟨sq, dr⟩
    replace c6 := Bool.eq_false_iff.mpr c6; subst c6
    rw [if_neg Bool.false_ne_true] at H
    have H' := am H
    clear H
    have p175 : 0 ≤ (x5_1 : Int) := of_decide_eq_true ad
    have q175 : x5_1 < (l0.length : Int) := of_decide_eq_true ad
    obtain ⟨ad175, A175_0, c175_0, e175, hx175_0, hl175_0, hi175_0⟩ := at_L1 HR0.out x5_1 p175 q175; cases e175; have HR175_0 := am hi175_0; have HC175_0 := am hl175_0; clear hi175_0 hl175_0; replace p175 := eq_true p175; replace q175 := eq_true q175
    go_wp2_with (first | ((with_reducible refine gate_callee (f := 49) rfl ?_); refine gl 17 Try.func49 #[.slice A175_0 (rd_L1 l0 x5_1).length c175_0, .slice A1 l1.length c1] ?_; (with_reducible refine (spec_l3Same.calls k1 _ _ (rd_L1 l0 x5_1) _ _ l1 false _ ?side1 ?side2 ?side3 ?side4 A5.out).mono ?_); (case side1 => repeat (first | exact HR175_0.out | (with_reducible refine Kd.C_alloc ?_ _) | (with_reducible refine Kd.C_drewN ?_ _) | (with_reducible refine Kd.C_drew ?_))); (case side2 => exact HC175_0.out); (case side3 => repeat (first | exact HR1.out | (with_reducible refine Kd.C_alloc ?_ _) | (with_reducible refine Kd.C_drewN ?_ _) | (with_reducible refine Kd.C_drew ?_))); (case side4 => exact HC1.out); rintro e w' ⟨rfl, ⟨nd, rfl⟩⟩; refine ⟨_, rfl, ?_⟩))
    go_roundg k1
    case measure => have := HK1.out; omega
    case rel => exact ⟨(wrap64 (x5_1 + 1)), sq, H', ⟨b11_⟩, dr⟩
   rw [if_neg c3] at H; have c3b0 := decide_eq_false c3; clear c3; obtain rfl := Option.some.inj H; go_wp2; go_ret
   exact ⟨sq, dr⟩
end Go.Proofs.Ytpljfjbhlboffaa.QFnExactMachineOf

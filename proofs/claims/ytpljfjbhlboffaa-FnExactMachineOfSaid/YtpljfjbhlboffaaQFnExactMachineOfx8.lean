import Derived.Test.YtpljfjbhlboffaaQFnExactMachineOfx0
import Derived.Test.YtpljfjbhlboffaaQFnExactMachineOfx5
import Derived.Test.YtpljfjbhlboffaaVMSh2
namespace Go.Proofs.Ytpljfjbhlboffaa.QFnExactMachineOf
open Go.RowKit Go.Proofs.YtpljfjbhlboffaaW.PrintWords Go.Proofs.YtpljfjbhlboffaaW.PrintLast Go.Proofs.YtpljfjbhlboffaaW.PrintMore Go.Proofs.Ytpljfjbhlboffaa.Sh
attribute [local go_sem] max2_int min2_int max_two min_two max_three min_three max_four min_four
set_option linter.unusedVariables false
set_option linter.unusedSimpArgs false
set_option maxHeartbeats 8000000
set_option maxRecDepth 100000
-- shrunk

/-! ### impl_MachineOf: function 9 -/
theorem impl_MachineOf.extra : Builder.Extra Try.prog Try.layJoin_ren := {
 sizeBuilder := by kernel_rfl,
 liesBuilder := by kernel_rfl,
 t5 := Try.underlying5,
 a5 := Try.isAgg5,
 z5 := Try.sizeOf5,
 v5 := Try.zeroValue5,
 infoByte := by kernel_rfl,
 cellsByte := by kernel_rfl,
 sizeByte := by kernel_rfl,
 neB5 := by decide }
/-- Lines, one below the other. -/
def impl_MachineOf.jn (l : List ByteArray) : ByteArray := ⟨(Go.Lib.join (l.map (·.data.toList)) (⟨#[10]⟩ : ByteArray).data.toList).toArray⟩
/-- A list that can be made into lines. -/
structure impl_MachineOf.Ok (l : List ByteArray) : Prop where
 ne : 0 < l.length
 len : l.length ≤ 1000000
 join : (Go.Lib.join (l.map (·.data.toList)) (⟨#[10]⟩ : ByteArray).data.toList).length ≤ 1000000000
theorem impl_MachineOf.addr {W : World} {A : Option Addr} {l : List ByteArray} (h : Kd.C Kd.string W A l.length l) (hn : 0 < l.length) : ∃ b o, A = some ⟨b, o, none⟩ ∧ b < W.heap.size ∧ ∀ (j : Nat) x, l[j]? = some x → W.cell? ⟨b, o + j, none⟩ = some (.string x) := by
 obtain ⟨_, _, h1⟩ := h; obtain ⟨ad, rfl, h2⟩ := h1 hn; clear h1
 have hc : ∀ (j : Nat) x, l[j]? = some x → W.cell? (ad.add j) = some (.string x) := by
  intro j x hj; obtain ⟨c, _, hr, hcell⟩ := h2 j x hj
  have e : c = [.string x] := hr
  subst e
  have := hcell 0 (.string x) rfl
  simpa [show Kd.string.sz = 1 from rfl] using this
 obtain ⟨b, o, s⟩ := ad; have h0 := hc 0 l[0] (List.getElem?_eq_getElem hn)
 have hs : s = none := by
  unfold World.cell? at h0
  split at h0
  ·split at h0
   ·cases h0
   ·rename_i h1
    simpa [Addr.add] using h1
  ·cases h0
 subst hs
 refine ⟨b, o, rfl, ?_, fun j x hj => by
  have := hc j x hj
  unfold Addr.add at this
  by_cases e : j = 0
  ·subst e
   simpa using this
  ·simpa [e] using this⟩
 unfold World.cell? at h0
 split at h0
 ·rename_i h1
  exact (Array.getElem?_eq_some_iff.1 h1).1
 ·cases h0
set_option maxHeartbeats 1000000 in
theorem impl_MachineOf.keyc (A : Option Addr) (c : Nat) (l : List ByteArray) (W : World) (hC : Kd.C Kd.string W A l.length l) (hc : l.length ≤ c) (ok : impl_MachineOf.Ok l) :
  Calls Try.prog 27 #[.slice A l.length c] W fun e w' => e = .returned (.string (impl_MachineOf.jn l)) ∧ Below W.heap.size W w' := by
 obtain ⟨b, o, rfl, hb, hcells⟩ := impl_MachineOf.addr hC ok.ne
 have := Any.strings_Join Try.layJoin impl_MachineOf.extra b o c l ⟨#[10]⟩ W hcells hb (by have := ok.len; omega) hc (by have := ok.join; omega)
 change Calls Try.prog 28 #[.slice (some ⟨b, o, none⟩) l.length c, .string ⟨#[10]⟩] W _ at this
 have HJ := Aside0.mk this; clear this hcells hC; go_enter Try.func27, Try.ntmps27
 go_wp2_with (go_at_call 28; refine HJ.out.mono ?_; rintro e w' ⟨rfl, hb'⟩)
 go_ret
 exact ⟨rfl, hb'⟩
/-- A map's elements read as themselves. -/
def impl_MachineOf.hR (v : Value) : Option (DataW Value × List MemPlace) := some (.held v, [])
/-- What the map reads as. -/
def impl_MachineOf.D (es : List (ByteArray × Value × List ByteArray)) : DataW Value := es.foldl (fun D e => D.put (.string e.1.data.toList) (.held e.2.1)) (.map [])
theorem impl_MachineOf.D_snoc (es : List (ByteArray × Value × List ByteArray)) (e : ByteArray × Value × List ByteArray) : impl_MachineOf.D (es ++ [e]) = (impl_MachineOf.D es).put (.string e.1.data.toList) (.held e.2.1) := by
 unfold impl_MachineOf.D
 rw [List.foldl_append]
 rfl
theorem impl_MachineOf.D_map (es : List (ByteArray × Value × List ByteArray)) : Go.Maps.IsMap (impl_MachineOf.D es) := by
 have : ∀ (es : List (ByteArray × Value × List ByteArray)) (D : DataW Value), Go.Maps.IsMap D → Go.Maps.IsMap (es.foldl (fun D e => D.put (.string e.1.data.toList) (.held e.2.1)) D) := by
  intro es
  induction es with
  | nil => exact fun D h => h
  | cons e es ih => exact fun D h => ih _ (h.put _ _)
 exact this es _ Go.Maps.isMap_empty
theorem impl_MachineOf.key_ne {a b : ByteArray} (h : a ≠ b) : (Lit.string a.data.toList) ≠ Lit.string b.data.toList := by
 intro e
 injection e with e
 exact h (ByteArray.ext (Array.toList_inj.1 e))
theorem impl_MachineOf.isKey (a : ByteArray) : WideAt.IsKeyLit (.string a.data.toList) := by
 simp [WideAt.IsKeyLit]
theorem impl_MachineOf.D_has (es : List (ByteArray × Value × List ByteArray)) (k : ByteArray) : Go.Maps.has (impl_MachineOf.D es) (.string k.data.toList) = true ↔ k ∈ es.map (·.1) := by
 have : ∀ n, ∀ es : List (ByteArray × Value × List ByteArray), es.length = n → (Go.Maps.has (impl_MachineOf.D es) (.string k.data.toList) = true ↔ k ∈ es.map (·.1)) := by
  intro n
  induction n with
  | zero =>
   intro es h
   rw [List.length_eq_zero_iff.1 h]
   simp [impl_MachineOf.D, Go.Maps.has]
  | succ n ih =>
   intro es h
   have hne : es ≠ [] := by rintro rfl; simp at h
   obtain ⟨fs, e, rfl⟩ : ∃ fs e, es = fs ++ [e] := ⟨es.dropLast, es.getLast hne, (List.dropLast_concat_getLast hne).symm⟩
   rw [impl_MachineOf.D_snoc, List.map_append, List.mem_append, ← ih fs (by simpa using h)]
   by_cases c : k = e.1
   ·subst c
    rw [Go.Maps.has_put_same (impl_MachineOf.D_map fs) (impl_MachineOf.isKey _)]
    simp
   ·rw [Go.Maps.has_put_other (impl_MachineOf.key_ne c)]
    simp [c]
 exact this _ es rfl
theorem impl_MachineOf.D_at (es : List (ByteArray × Value × List ByteArray)) (hn : (es.map (·.1)).Nodup) (e : ByteArray × Value × List ByteArray) (he : e ∈ es) (z : DataW Value) : (impl_MachineOf.D es).atKey (.string e.1.data.toList) z = .held e.2.1 := by
 have : ∀ n, ∀ es : List (ByteArray × Value × List ByteArray), es.length = n → (es.map (·.1)).Nodup → e ∈ es → (impl_MachineOf.D es).atKey (.string e.1.data.toList) z = .held e.2.1 := by
  intro n
  induction n with
  | zero =>
   intro es h _ he; rw [List.length_eq_zero_iff.1 h] at he
   cases he
  | succ n ih =>
   intro es h hn he
   have hne : es ≠ [] := by rintro rfl; simp at h
   obtain ⟨fs, f, rfl⟩ : ∃ fs e, es = fs ++ [e] := ⟨es.dropLast, es.getLast hne, (List.dropLast_concat_getLast hne).symm⟩; rw [List.map_append, List.nodup_append] at hn
   rw [impl_MachineOf.D_snoc]
   rcases List.mem_append.1 he with he | he
   ·have hk : e.1 ≠ f.1 := fun h => hn.2.2 e.1 (List.mem_map_of_mem he) f.1 (by simp) h
    rw [Go.Maps.atKey_put_other (impl_MachineOf.key_ne hk)]
    exact ih fs (by simpa using h) hn.1 he
   ·obtain rfl := List.mem_singleton.1 he
    exact Go.Maps.atKey_put_same (impl_MachineOf.D_map fs) (impl_MachineOf.isKey _) _ _
 exact this _ es rfl hn he
/-- A slice of texts that is read. -/
def impl_MachineOf.Lst (W : World) (v : Value) (l : List ByteArray) : Prop := ∃ A c, v = .slice A l.length c ∧ l.length ≤ c ∧ Kd.C Kd.string W A l.length l
theorem impl_MachineOf.gb {W W1 : World} (h : Below W.heap.size W W1) (row : Option Nat) : W.grownBy W1 row := ⟨h.os, h.tape, h.output, h.size, fun i hi _ => h.block i hi⟩
theorem impl_MachineOf.C_grown {α : Type} {enc : α → Value} {h1 : ∀ x, (enc x).oneCell' = true} {W W1 : World} {A : Option Addr} {n : Nat} {l : List α} {Bm : Nat} (h : Kd.C (Kd.scalar enc h1) W A n l) (hg : W.grownBy W1 (some Bm)) (hm : ∀ cs t z, W.heap[Bm]? ≠ some (.cells cs t z)) : Kd.C (Kd.scalar enc h1) W1 A n l := by
 obtain ⟨h1, h2, h3⟩ := h
 refine ⟨h1, h2, fun hn => ?_⟩
 obtain ⟨ad, ha, h3⟩ := h3 hn
 refine ⟨ad, ha, fun j p hj => ?_⟩
 obtain ⟨cs, e1, e2, e3⟩ := h3 j p hj
 refine ⟨cs, e1, e2, fun i u hu => ?_⟩
 have h4 := e3 i u hu
 unfold World.cell? at h4 ⊢
 split at h4
 ·rename_i c1 t1 z1 hb
  rw [hg.block _ (Array.getElem?_eq_some_iff.1 hb).1 (by intro e; injection e with e; rw [e] at hb; exact hm _ _ _ hb), hb]
  exact h4
 ·cases h4
theorem impl_MachineOf.Lst.grown {W W1 : World} {v : Value} {l : List ByteArray} {Bm : Nat} (h : impl_MachineOf.Lst W v l) (hg : W.grownBy W1 (some Bm)) (hm : ∀ cs t z, W.heap[Bm]? ≠ some (.cells cs t z)) : impl_MachineOf.Lst W1 v l := by
 obtain ⟨A, c, hv, hc, h1⟩ := h
 exact ⟨A, c, hv, hc, impl_MachineOf.C_grown h1 hg hm⟩
/-- The memory of the search. -/
structure impl_MachineOf.St (w0 W : World) (Bs Bk Bg Bm : Nat) (es : List (ByteArray × Value × List ByteArray)) : Prop where
 gs : w0.heap.size ≤ Bs
 gk : w0.heap.size ≤ Bk
 gg : w0.heap.size ≤ Bg
 gm : w0.heap.size ≤ Bm
 bs : W.heap[Bs]? = some (.cells #[.map (some Bm)] 51 (0, 0))
 bk : W.heap[Bk]? = some (.cells #[.func (.func 27) #[] #[]] 53 (0, 0))
 bg : W.heap[Bg]? = some (.cells #[.func (.func 29) #[] #[.pointer (some ⟨Bs, 0, none⟩), .pointer (some ⟨Bk, 0, none⟩), .pointer (some ⟨Bg, 0, none⟩)]] 54 (0, 0))
 map : W.ownsMap Try.prog 9 impl_MachineOf.hR Bm es.length (impl_MachineOf.D es)
 nod : (es.map (·.1)).Nodup
 keys : ∀ e ∈ es, e.1 = impl_MachineOf.jn e.2.2
 lst : ∀ e ∈ es, impl_MachineOf.Lst W e.2.1 e.2.2
 below : Below w0.heap.size w0 W
theorem impl_MachineOf.St.isMap {w0 W : World} {Bs Bk Bg Bm : Nat} {es : List (ByteArray × Value × List ByteArray)} (h : impl_MachineOf.St w0 W Bs Bk Bg Bm es) : ∀ cs t z, W.heap[Bm]? ≠ some (.cells cs t z) := by
 obtain ⟨a, b, hb, _⟩ := h.map; intro cs t z e; rw [hb] at e
 cases e
theorem impl_MachineOf.St.step {w0 W W1 : World} {Bs Bk Bg Bm : Nat} {es : List (ByteArray × Value × List ByteArray)} (h : impl_MachineOf.St w0 W Bs Bk Bg Bm es) (hb : Below W.heap.size W W1) : impl_MachineOf.St w0 W1 Bs Bk Bg Bm es :=
 ⟨h.gs, h.gk, h.gg, h.gm, blk_below h.bs hb, blk_below h.bk hb, blk_below h.bg hb, h.map.kept (impl_MachineOf.gb hb none) (by simp), h.nod, h.keys, fun e he => (h.lst e he).grown (impl_MachineOf.gb hb (some Bm)) h.isMap, h.below.trans (hb.mono h.below.size)⟩
theorem impl_MachineOf.grown_trans {a b c : World} {row : Option Nat} (h : a.grownBy b row) (k : b.grownBy c row) : a.grownBy c row :=
 ⟨k.os.trans h.os, k.tape.trans h.tape, k.output.trans h.output, Nat.le_trans h.size k.size, fun i hi hn => (k.block i (Nat.lt_of_lt_of_le hi h.size) hn).trans (h.block i hi hn)⟩
theorem impl_MachineOf.St.put {w0 W W1 : World} {Bs Bk Bg Bm : Nat} {es : List (ByteArray × Value × List ByteArray)} {v : Value} {l : List ByteArray} (h : impl_MachineOf.St w0 W Bs Bk Bg Bm es) (hm : W1.ownsMap Try.prog 9 impl_MachineOf.hR Bm (es.length + 1) ((impl_MachineOf.D es).put (.string (impl_MachineOf.jn l).data.toList) (.held v))) (hg : W.grownBy W1 (some Bm))
  (hk : impl_MachineOf.jn l ∉ es.map (·.1)) (hl : impl_MachineOf.Lst W v l) : impl_MachineOf.St w0 W1 Bs Bk Bg Bm (es ++ [(impl_MachineOf.jn l, v, l)]) := by
 have hne : ∀ B cs t z, W.heap[B]? = some (.cells cs t z) → some B ≠ some Bm := by
  intro B cs t z hb e
  injection e with e
  rw [e] at hb
  exact h.isMap _ _ _ hb
 refine ⟨h.gs, h.gk, h.gg, h.gm, (hg.block _ (blk_lt h.bs) (hne _ _ _ _ h.bs)).trans h.bs, (hg.block _ (blk_lt h.bk) (hne _ _ _ _ h.bk)).trans h.bk, (hg.block _ (blk_lt h.bg) (hne _ _ _ _ h.bg)).trans h.bg, ?_, ?_, fun e he => ?_, fun e he => ?_, h.below.grown hg h.below.size (fun j hj => by cases hj; exact h.gm)⟩
 ·rw [impl_MachineOf.D_snoc, List.length_append]
  exact hm
 ·rw [List.map_append, List.nodup_append]
  refine ⟨h.nod, by simp, fun a ha b hb => ?_⟩
  have : b = impl_MachineOf.jn l := by simpa using hb
  rw [this]
  rintro rfl
  exact hk ha
 ·rcases List.mem_append.1 he with he | he
  ·exact h.keys e he
  ·rw [List.mem_singleton.1 he]
 ·rcases List.mem_append.1 he with he | he
  ·exact (h.lst e he).grown hg h.isMap
  ·rw [List.mem_singleton.1 he]
   exact hl.grown hg h.isMap
theorem impl_MachineOf.drop_rd (cs : List Int) (x : Int) (h0 : 0 ≤ x) (h1 : x < (cs.length : Int)) : cs.drop x.toNat = rd cs x :: cs.drop (x + 1).toNat := by
 rw [List.drop_eq_getElem_cons (show x.toNat < cs.length by omega), show (x + 1).toNat = x.toNat + 1 by omega]
 congr 1
 simp [rd, List.getD_eq_getElem?_getD, show x.toNat < cs.length by omega]
def impl_MachineOf.okB (l : List ByteArray) : Bool := decide (0 < l.length) && decide (l.length ≤ 1000000) && decide ((Go.Lib.join (l.map (·.data.toList)) (⟨#[10]⟩ : ByteArray).data.toList).length ≤ 1000000000)
theorem impl_MachineOf.okB_ok {l : List ByteArray} (h : impl_MachineOf.okB l = true) : impl_MachineOf.Ok l := by
 simp only [impl_MachineOf.okB, Bool.and_eq_true, decide_eq_true_eq] at h
 exact ⟨h.1.1, h.1.2, h.2⟩
def impl_MachineOf.gl (G : List (ByteArray × List ByteArray) → List ByteArray → Option (List (ByteArray × List ByteArray))) (k : Nat) (l : List ByteArray) : List Int → List (ByteArray × List ByteArray) → Option (List (ByteArray × List ByteArray))
 | [], sn => some sn
 | c :: cs, sn => (impl_behind.f k l c).bind fun x => (G sn x).bind fun sn' => impl_MachineOf.gl G k l cs sn'
/-- The search: a list that has been seen is left; another one is kept, and all behind its letters are searched. -/
def impl_MachineOf.g : Nat → List (ByteArray × List ByteArray) → List ByteArray → Option (List (ByteArray × List ByteArray))
 | 0, _, _ => none
 | k + 1, sn, l => if impl_MachineOf.okB l = true ∧ sn.length < 1000000 then (if sn.any (fun e => e.1.toList == (impl_MachineOf.jn l).toList) = true then some sn else (impl_firstLetters.f k l).bind fun cs => impl_MachineOf.gl (impl_MachineOf.g k) k l cs (sn ++ [(impl_MachineOf.jn l, l)])) else none
def impl_MachineOf.two (e : ByteArray × Value × List ByteArray) : ByteArray × List ByteArray := (e.1, e.2.2)
def impl_MachineOf.g.T0 : Bool × List (List Nat × List Nat) := (true, [([], []), ([], []), ([], []), ([1, 2], [1, 2]), ([0, 3], [0, 3]), ([4], [4]), ([5], [5]), ([5], [5]), ([6, 3, 0, 1, 2, 3, 4, 5, 6], [6]), ([7, 8, 0, 1, 2, 3, 4, 5, 6, 7, 8], [7])])
def impl_MachineOf.g.B0 : List Nat := [0, 0, 0, 6, 15, 31, 63, 63, 127, 511]
theorem impl_MachineOf.g.tab0 : rtab .any (opsOf Try.f29 0) = impl_MachineOf.g.T0 := by kernel_rfl
theorem impl_MachineOf.g.bits0 : waitsOk impl_MachineOf.g.T0.2 impl_MachineOf.g.B0 = true := by kernel_rfl
def impl_MachineOf.g.T2 : Bool × List (List Nat × List Nat) := (true, [([], []), ([], []), ([], []), ([1, 2], [1, 2]), ([], []), ([0, 3, 4, 3, 0, 1, 2, 3, 4], [0, 3, 4])])
def impl_MachineOf.g.B2 : List Nat := [0, 0, 0, 6, 0, 31]
theorem impl_MachineOf.g.tab2 : rtab .any (opsOf Try.f29 2) = impl_MachineOf.g.T2 := by kernel_rfl
theorem impl_MachineOf.g.bits2 : waitsOk impl_MachineOf.g.T2.2 impl_MachineOf.g.B2 = true := by kernel_rfl
def impl_MachineOf.g.T6 : Bool × List (List Nat × List Nat) := (true, [([], []), ([], []), ([], []), ([1, 2], [1, 2]), ([0, 3, 3], [0, 3])])
def impl_MachineOf.g.B6 : List Nat := [0, 0, 0, 6, 15]
theorem impl_MachineOf.g.tab6 : rtab .any (opsOf Try.f29 6) = impl_MachineOf.g.T6 := by kernel_rfl
theorem impl_MachineOf.g.bits6 : waitsOk impl_MachineOf.g.T6.2 impl_MachineOf.g.B6 = true := by kernel_rfl
theorem impl_MachineOf.any_iff (es : List (ByteArray × Value × List ByteArray)) (k : ByteArray) : (es.map impl_MachineOf.two).any (fun e => e.1.toList == k.toList) = true ↔ k ∈ es.map (·.1) := by
 rw [List.any_eq_true]
 constructor
 ·rintro ⟨x, hx, h⟩
  obtain ⟨e, he, rfl⟩ := List.mem_map.1 hx
  have h : e.1.toList = k.toList := by simpa [impl_MachineOf.two] using h
  rw [Lib.toList_data, Lib.toList_data] at h
  exact List.mem_map.2 ⟨e, he, ByteArray.ext (Array.toList_inj.1 h)⟩
 ·intro h; obtain ⟨e, he, rfl⟩ := List.mem_map.1 h
  exact ⟨_, List.mem_map_of_mem he, by simp [impl_MachineOf.two]⟩
theorem impl_MachineOf.jn_len {l : List ByteArray} (h : impl_MachineOf.Ok l) : (impl_MachineOf.jn l).size ≤ maxLen := by
 have : (impl_MachineOf.jn l).size = (Go.Lib.join (l.map (·.data.toList)) (⟨#[10]⟩ : ByteArray).data.toList).length := by simp [impl_MachineOf.jn, ByteArray.size]
 rw [this]
 have := h.join
 unfold maxLen
 omega
set_option maxHeartbeats 4000000 in
set_option maxRecDepth 100000 in
theorem impl_MachineOf.gath (w0 : World) (Bs Bk Bg Bm : Nat) (k : Nat) : ∀ (es : List (ByteArray × Value × List ByteArray)) (l : List ByteArray) (r : List (ByteArray × List ByteArray)) (A : Option Addr) (c : Nat) (W : World), Kd.C Kd.string W A l.length l → l.length ≤ c → impl_MachineOf.St w0 W Bs Bk Bg Bm es →
  impl_MachineOf.g k (es.map impl_MachineOf.two) l = some r →
  Calls Try.prog 29 #[.slice A l.length c, .pointer (some ⟨Bs, 0, none⟩), .pointer (some ⟨Bk, 0, none⟩), .pointer (some ⟨Bg, 0, none⟩)] W fun e w' => e = .returned (.tuple #[]) ∧ ∃ es', es'.map impl_MachineOf.two = r ∧ impl_MachineOf.St w0 w' Bs Bk Bg Bm es' ∧ W.grownBy w' (some Bm) := by
 induction k with
 | zero =>
  intro es l r A c W _ _ _ h; cases h
 | succ k ih =>
  intro es l r A c W hL hc hS h; rw [impl_MachineOf.g] at h
  split at h
  case isFalse => cases h
  rename_i hok; have OK := impl_MachineOf.okB_ok hok.1; have HN := am hok.2
  have hcs : W.cell? ⟨Bs, 0, none⟩ = some (.map (some Bm)) := (blk_cell hS.bs 0).trans rfl
  have hck : W.cell? ⟨Bk, 0, none⟩ = some (.func (.func 27) #[] #[]) := (blk_cell hS.bk 0).trans rfl
  have hkl : keyOf Try.prog 9 (.string (impl_MachineOf.jn l)) = some (.string (impl_MachineOf.jn l).data.toList) := Go.WideMaps.keyOf_string_mk Try.underlying9 (impl_MachineOf.jn_len OK)
  have HOK := Aside0.mk OK; have HS := am hS; have HL := am hL; have HC := am hc; have HK := am hkl; have HI := Aside0.mk ih; clear hL hc hS ih OK hkl hok; go_enter Try.func29, Try.ntmps29
  go_upto_region 0 with (fail)
  refine st (n := 10) (S := fun w' => w'.cell? ⟨Bs, 0, none⟩ = some (.map (some Bm)) ∧ w'.cell? ⟨Bk, 0, none⟩ = some (.func (.func 27) #[] #[])) (ds := []) ⟨hcs, hck⟩ (fun hHeld => ?_); refine with_tabW impl_MachineOf.g.tab0 impl_MachineOf.g.bits0 (fun HT_ HW_ => ?_)
  refine tk2 0 10 hHeld ?_; refine tk2 1 11 hHeld ?_; refine pu 2 12 ?_; refine on1 3 13 (fun K hK => ?_)
  refine call_ 27 #[.slice A l.length c] (by rfl) rfl b42_ ?_
  refine (impl_MachineOf.keyc A c l _ (Kd.C_drew HL.out) HC.out HOK.out).mono ?_
  rintro e w1 ⟨rfl, hb1⟩
  have hb01 : Below W.heap.size W w1 := Below.trans (below_drew (Below.refl _ W)) hb1
  have HS1 := am (HS.out.step hb01); have HB1 := am hb01; clear hb1 hb01; refine ⟨_, rfl, ?_⟩; refine hK.out _ _ ⟨(blk_cell HS1.out.bs 0).trans rfl, (blk_cell HS1.out.bk 0).trans rfl⟩ (fun hHeld => ?_); clear hK K; refine nm 13 ?_; obtain ⟨v14, ps14, hrun14, hv14⟩ := HS1.out.map.look_ok (Go.Maps.string_keyed Try.underlying9) Try.underlying51 (z := .slice none 0 0) (by rfl) (zd := .held (.slice none 0 0)) (zp := []) rfl HK.out; refine on1 4 14 (fun K hK => ?_)
  refine value_ (w1 := w1) (v := .tuple #[v14, .bool (Go.Maps.has (impl_MachineOf.D es) (.string (impl_MachineOf.jn l).data.toList))]) (by rfl) rfl (by simp [execOp, Act.eval, hrun14, Result.andThen]) ?_
  refine hK.out _ _ hHeld (fun hHeld => ?_); clear hK K; refine nm 14 ?_; refine pu 5 9 ?_; refine pu 6 15 ?_; refine pu 7 16 ?_; refine pu 8 5 ?_; refine pu 9 6 ?_
  refine done_ (done_of HT_.out (by kernel_rfl)) ?_
  by_cases c0 : impl_MachineOf.jn l ∈ es.map (·.1)
  ·have hb : Go.Maps.has (impl_MachineOf.D es) (.string (impl_MachineOf.jn l).data.toList) = true := (impl_MachineOf.D_has es _).2 c0
   rw [if_pos ((impl_MachineOf.any_iff es _).2 c0)] at h; obtain rfl := Option.some.inj h
   simp only [hb]
   clear hrun14 hv14; go_wp2
   refine bodyPost_ret (results_none rfl _ _ _) rfl ?_
   exact ⟨rfl, es, rfl, HS1.out, impl_MachineOf.gb HB1.out _⟩
  have hb : Go.Maps.has (impl_MachineOf.D es) (.string (impl_MachineOf.jn l).data.toList) = false := Bool.eq_false_iff.2 (fun e => c0 ((impl_MachineOf.D_has es _).1 e))
  rw [if_neg (fun e => c0 ((impl_MachineOf.any_iff es _).1 e))] at h; obtain ⟨cs, hcs0, h⟩ := Option.bind_eq_some_iff.1 h; have HF := am hcs0; have HH := am h; have HC0 := Aside0.mk c0; clear hcs0 h c0
  simp only [hb]
  clear hrun14 hv14 hcs hck hb
  have hcs : w1.cell? ⟨Bs, 0, none⟩ = some (.map (some Bm)) := (blk_cell HS1.out.bs 0).trans rfl
  have hck : w1.cell? ⟨Bk, 0, none⟩ = some (.func (.func 27) #[] #[]) := (blk_cell HS1.out.bk 0).trans rfl
  go_upto_region 2 with (fail)
  refine st (n := 6) (S := fun w' => w'.cell? ⟨Bs, 0, none⟩ = some (.map (some Bm)) ∧ w'.cell? ⟨Bk, 0, none⟩ = some (.func (.func 27) #[] #[])) (ds := []) ⟨hcs, hck⟩ (fun hHeld => ?_); refine with_tabW impl_MachineOf.g.tab2 impl_MachineOf.g.bits2 (fun HT_ HW_ => ?_)
  refine tk2 0 18 hHeld ?_; refine tk2 1 19 hHeld ?_; refine pu 2 20 ?_; refine pu 4 22 ?_; refine on1 3 21 (fun K hK => ?_)
  refine call_ 27 #[.slice A l.length c] (by rfl) rfl b42_ ?_
  refine (impl_MachineOf.keyc A c l _ (Kd.C_drew (Kd.C_below HL.out HB1.out)) HC.out HOK.out).mono ?_
  rintro e w2 ⟨rfl, hb1⟩
  have hb01 : Below w1.heap.size w1 w2 := Below.trans (below_drew (Below.refl _ w1)) hb1
  have HS2 := am (HS1.out.step hb01); have HB2 := am (Below.trans HB1.out (hb01.mono HB1.out.size)); clear hb1 hb01; refine ⟨_, rfl, ?_⟩; refine hK.out _ _ ⟨(blk_cell HS2.out.bs 0).trans rfl, (blk_cell HS2.out.bk 0).trans rfl⟩ (fun hHeld => ?_); clear hK K; refine nm 21 ?_
  obtain ⟨w3, hrun5, hm3, hg3⟩ := HS2.out.map.update (Go.Maps.string_keyed Try.underlying9) Try.underlying51 (by have := HN.out; rw [List.length_map] at this; unfold maxLen; omega) (val := .slice A l.length c) (d := .held (.slice A l.length c)) (ps := []) HK.out rfl
  have HS3 := am (HS2.out.put hm3 hg3 HC0.out ⟨A, c, rfl, HC.out, Kd.C_below HL.out HB2.out⟩); have HG3 := am (impl_MachineOf.grown_trans (impl_MachineOf.gb HB2.out (some Bm)) hg3); have HL3 := am (impl_MachineOf.C_grown HL.out HG3.out HS.out.isMap)
  refine one_ (i := 5) (N := none) #[true, true, true, true, true, true] rfl rfl (one_of HT_.out (by kernel_rfl)) (by decide) (fun K hK => ?_)
  refine skip_ (w1 := w3) (by rfl) rfl (by simp [execOp, Act.eval, hrun5, Result.andThen]) ?_
  refine hK.out _ _ ⟨(blk_cell HS3.out.bs 0).trans rfl, (blk_cell HS3.out.bk 0).trans rfl⟩ (fun hHeld => ?_); clear hK K hrun5 hm3 hg3
  refine done_ (done_of HT_.out (by kernel_rfl)) ?_
  have HM := am HS.out.isMap; clear hcs hck HS1 HB1 HS2 HB2 hHeld HS HL
  go_wp2_with (first | (go_at_call 30; refine (impl_firstLetters.calls k A c l cs _ HL3.out HC.out HF.out).mono ?_; rintro e w4 ⟨v24, rfl, hR4, hb4⟩; obtain ⟨A24, c24, e24, hc24, hC24⟩ := Kd.R_reads hR4; subst e24; have HS4 := am (HS3.out.step hb4); have HG4 := am (impl_MachineOf.grown_trans HG3.out (impl_MachineOf.gb hb4 (some Bm))); have HL4 := am (Kd.C_below HL3.out hb4); have HR4 := am hC24; clear hR4 hb4 hC24))
  have HH0 := am (show impl_MachineOf.gl (impl_MachineOf.g k) k l (cs.drop (0 : Int).toNat) ((es ++ [(impl_MachineOf.jn l, (Value.slice A l.length c), l)]).map impl_MachineOf.two) = some r by rw [List.map_append]; exact HH.out)
  go_loopg [26] (cs.length + 1) (fun kq v26 W' => ∃ (x : Int) (es' : List (ByteArray × Value × List ByteArray)), v26 = .int .i64 x ∧ Aside0 (0 ≤ x ∧ x ≤ (cs.length : Int)) ∧ Aside0 (cs.length + 1 ≤ kq + x.toNat) ∧ Aside0 (impl_MachineOf.St w0 W' Bs Bk Bg Bm es') ∧ Aside0 (W.grownBy W' (some Bm)) ∧ Aside0 (Kd.C Kd.string W' A l.length l) ∧ Aside0 (Kd.C (Kd.int .u8) W' A24 cs.length cs) ∧ Aside0 (impl_MachineOf.gl (impl_MachineOf.g k) k l (cs.drop x.toNat) (es'.map impl_MachineOf.two) = some r))
  case atStart => exact ⟨0, _, rfl, ⟨by omega⟩, ⟨by omega⟩, HS4, HG4, HL4, HR4, HH0⟩
  case round =>
   clear HS4 HG4 HL4 HR4 HH0 HS3 HG3 HL3; obtain ⟨x, es', rfl, HX, HQ, HS, HG, HL, HR, HH1⟩ := hrel; have hle := HR.out.2.1
   by_cases c2 : x < (cs.length : Int)
   ·have c2b0 := decide_eq_true c2
    have p1 : 0 ≤ x := HX.out.1
    have q1 := c2; obtain ⟨ad, e1, hx0⟩ := Kd.at_int HR.out x p1 q1; have h1 := HH1.out; rw [impl_MachineOf.drop_rd cs x p1 q1, impl_MachineOf.gl] at h1; obtain ⟨xs, hxs, h1⟩ := Option.bind_eq_some_iff.1 h1; obtain ⟨sn', hsn, h1⟩ := Option.bind_eq_some_iff.1 h1; have HXS := am hxs; have HSN := am hsn; have HH2 := am h1; have C2 := Aside0.mk c2; have HLE := am hle
    have hw : wrap64 (x + 1) = x + 1 := by unfold wrap64; omega
    have HW := am hw
    cases gk with
    | zero => exact absurd HQ.out (by omega)
    | succ k1 =>
    have hcg : wr.cell? ⟨Bg, 0, none⟩ = some (.func (.func 29) #[] #[.pointer (some ⟨Bs, 0, none⟩), .pointer (some ⟨Bk, 0, none⟩), .pointer (some ⟨Bg, 0, none⟩)]) := (blk_cell HS.out.bg 0).trans rfl
    clear hxs hsn h1 c2 hle hw HH1; cases e1; replace p1 := eq_true p1; replace q1 := eq_true q1
    go_upto_region 6 with (fail)
    refine st (n := 5) (S := fun w' => w'.cell? ⟨Bg, 0, none⟩ = some (.func (.func 29) #[] #[.pointer (some ⟨Bs, 0, none⟩), .pointer (some ⟨Bk, 0, none⟩), .pointer (some ⟨Bg, 0, none⟩)])) (ds := []) hcg (fun hHeld => ?_); refine with_tabW impl_MachineOf.g.tab6 impl_MachineOf.g.bits6 (fun HT_ HW_ => ?_)
    refine tk1 0 30 hHeld ?_; refine pu 1 31 ?_; refine pu 2 32 ?_; refine on1 3 33 (fun K hK => ?_)
    refine goes_ Try.func31 (by kernel_rfl) rfl #[.slice A l.length c, .int .u8 (rd cs x)] (by rfl) rfl rfl b2_ ?_
    refine (impl_behind.calls k A c l (rd cs x) xs _ (Kd.C_drew HL.out) HC.out HXS.out).mono ?_
    rintro e w5 ⟨v33, rfl, hR5, hb5⟩
    have hb05 : Below wr.heap.size wr w5 := Below.trans (below_drew (Below.refl _ wr)) hb5
    obtain ⟨A33, c33, e33, hc33, hC33⟩ := Kd.R_reads hR5; subst e33; have HS5 := am (HS.out.step hb05); refine ⟨_, rfl, ?_⟩; refine hK.out _ _ ((blk_cell HS5.out.bg 0).trans rfl) (fun hHeld => ?_); clear hK K; refine nm 33 ?_; refine on1 4 34 (fun K hK => ?_)
    refine call_ 29 #[.slice A33 xs.length c33, .pointer (some ⟨Bs, 0, none⟩), .pointer (some ⟨Bk, 0, none⟩), .pointer (some ⟨Bg, 0, none⟩)] (by rfl) rfl b42_ ?_
    refine (HI.out es' xs sn' A33 c33 w5 hC33 hc33 HS5.out HSN.out).mono ?_
    rintro e w6 ⟨rfl, es2, rfl, hS6, hg6⟩; have hg06 := impl_MachineOf.grown_trans (impl_MachineOf.gb hb05 (some Bm)) hg6; have HS6 := am hS6; have HG6 := am (impl_MachineOf.grown_trans HG.out hg06); have HL6 := am (impl_MachineOf.C_grown HL.out hg06 HS.out.isMap); have HR6 := am (impl_MachineOf.C_grown HR.out hg06 HS.out.isMap); refine ⟨_, rfl, ?_⟩; refine hK.out _ _ ((blk_cell HS6.out.bg 0).trans rfl) (fun hHeld => ?_); clear hK K; refine nm 34 ?_
    refine done_ (done_of HT_.out (by kernel_rfl)) ?_
    clear hHeld hS6 hg6 hg06 hb5 hb05 hR5 hC33 HS5 HS HG HL HR hx0 hcg; go_wp2
    go_roundg k1
    case measure => omega
    case rel => exact ⟨wrap64 (x + 1), es2, rfl, ⟨by rw [HW.out]; have := HX.out; have := C2.out; omega⟩, ⟨by rw [HW.out]; have := HQ.out; have := HX.out; omega⟩, HS6, HG6, HL6, HR6, ⟨by rw [HW.out]; exact HH2.out⟩⟩
   have c2b0 := decide_eq_false c2; have h1 := HH1.out
   rw [List.drop_eq_nil_of_le (by have := HX.out; omega), impl_MachineOf.gl] at h1
   have h2 := Option.some.inj h1; clear h1 hle c2; go_wp2
   refine bodyPost_end (results_none rfl _ _ _) rfl ?_
   exact ⟨rfl, es', h2, HS.out, HG.out⟩
def impl_MachineOf.cmpF (k : Nat) (a b : List ByteArray) : Option Int := (impl_longest.f k b).bind fun lb => (impl_longest.f k a).bind fun la => (cmp_Compare_int.f lb la).bind fun t9 => (slices_Compare_string_string.f k a b).bind fun t12 => cmp_Or_int.f k [t9, t12]
/-- What is behind: draws and new blocks alone. -/
def impl_MachineOf.Gr (w W : World) : Prop := ∃ q os', W = Go.Sort.grow (w.drewN q) os'
theorem impl_MachineOf.Gr.refl (w : World) : impl_MachineOf.Gr w w := ⟨0, #[], by rw [Go.Sort.grow_empty]; rfl⟩
theorem impl_MachineOf.Gr.drewN {w W : World} (h : impl_MachineOf.Gr w W) (n : Nat) : impl_MachineOf.Gr w (W.drewN n) := by
 obtain ⟨q, os, rfl⟩ := h
 exact ⟨q + n, os, by rw [← World.drewN_drewN]; rfl⟩
theorem impl_MachineOf.Gr.drew {w W : World} (h : impl_MachineOf.Gr w W) : impl_MachineOf.Gr w W.drew := h.drewN 1
theorem impl_MachineOf.Gr.alloc {w W : World} (h : impl_MachineOf.Gr w W) (o : Obj) : impl_MachineOf.Gr w (W.alloc o) := by
 obtain ⟨q, os, rfl⟩ := h
 exact ⟨q, os ++ #[o], by rw [Go.Sort.alloc_eq_grow, Go.Sort.grow_grow]⟩
theorem impl_MachineOf.C_two (w : World) (x y : Int) : Kd.C (Kd.int .i64) (w.alloc (.cells #[.int .i64 x, .int .i64 y] 3)) (some ⟨w.heap.size, 0, none⟩) 2 [x, y] := by
 refine ⟨rfl, by decide, fun _ => ⟨_, rfl, fun j p hj => ?_⟩⟩
 refine ⟨[.int .i64 p], rfl, rfl, fun i u hu => ?_⟩
 have hi : i = 0 := by
  rcases i with _ | i
  ·rfl
  ·simp at hu
 subst hi
 obtain rfl : Value.int .i64 p = u := by simpa using hu
 rcases j with _ | _ | j
 ·obtain rfl : x = p := by simpa using hj
  simp [Addr.add, show (Kd.int .i64).sz = 1 from rfl]
 ·obtain rfl : y = p := by simpa using hj
  simp [Addr.add, show (Kd.int .i64).sz = 1 from rfl]
 ·simp at hj
set_option maxHeartbeats 4000000 in
set_option maxRecDepth 100000 in
theorem impl_MachineOf.cmpc (k : Nat) (a b : List ByteArray) (A0 A1 : Option Addr) (c0 c1 : Nat) (r : Int) (W : World) (h0 : Kd.C Kd.string W A0 a.length a) (g0 : a.length ≤ c0) (h1 : Kd.C Kd.string W A1 b.length b) (g1 : b.length ≤ c1) (h : impl_MachineOf.cmpF k a b = some r) :
  Calls Try.prog 33 #[.slice A0 a.length c0, .slice A1 b.length c1] W fun e w' => e = .returned (.int .i64 r) ∧ impl_MachineOf.Gr W w' := by
 obtain ⟨lb, hlb, h⟩ := Option.bind_eq_some_iff.1 h; obtain ⟨la, hla, h⟩ := Option.bind_eq_some_iff.1 h; obtain ⟨t9, h9, h⟩ := Option.bind_eq_some_iff.1 h; obtain ⟨t12, h12, h⟩ := Option.bind_eq_some_iff.1 h
 have H0 := am h0; have G0 := Aside0.mk g0; have H1 := am h1; have G1 := Aside0.mk g1
 have HB := am hlb; have HA := am hla; have H9 := am h9; have H12 := am h12; have HO := am h
 clear h0 g0 h1 g1 hlb hla h9 h12 h; go_enter Try.func33, Try.ntmps33
 go_wp2_with (first
  | (go_at_call 36; with_reducible refine (impl_longest.calls k A1 c1 b lb _ H1.out G1.out HB.out).mono ?_; rintro e w' ⟨rfl, ⟨n1, rfl⟩⟩)
  | (go_at_call 36; with_reducible refine (impl_longest.calls k A0 c0 a la _ (Kd.C_drewN H0.out n1) G0.out HA.out).mono ?_; rintro e w' ⟨rfl, ⟨n2, rfl⟩⟩)
  | (go_at_call 35; with_reducible refine (cmp_Compare_int.calls lb la t9 _ H9.out).mono ?_; rintro e w' ⟨rfl, ⟨n3, rfl⟩⟩)
  | (go_at_call 37; with_reducible refine (slices_Compare_string_string.calls k A0 c0 a A1 c1 b t12 _ ?x0 G0.out ?x1 G1.out H12.out).mono ?_; (case x0 => repeat (first | exact H0.out | apply Kd.C_drewN)); (case x1 => repeat (first | exact H1.out | apply Kd.C_drewN)); rintro e w' ⟨rfl, ⟨n4, rfl⟩⟩)
  | (go_at_call 34; refine (cmp_Or_int.calls k _ _ [t9, t12] r _ (impl_MachineOf.C_two _ t9 t12) (Nat.le_refl 2) HO.out).mono ?_; rintro e w' ⟨rfl, ⟨n5, rfl⟩⟩))
 go_ret
 exact ⟨rfl, (((impl_MachineOf.Gr.refl W).drewN _).alloc _).drewN _⟩
def impl_MachineOf.lng (l : List ByteArray) : Int := l.foldl (fun n s => mx n (s.size : Int)) 0
def impl_MachineOf.lex : List ByteArray → List ByteArray → Bool
 | [], [] => false
 | [], _ :: _ => true
 | _ :: _, [] => false
 | x :: a, y :: b => if Op.bytesLess x.toList y.toList = true then true else if Op.bytesLess y.toList x.toList = true then false else impl_MachineOf.lex a b
/-- How lists are ordered: by the longest text, the longest first; then text by text. -/
def impl_MachineOf.lt (a b : List ByteArray) : Bool := if impl_MachineOf.lng b < impl_MachineOf.lng a then true else if impl_MachineOf.lng a < impl_MachineOf.lng b then false else impl_MachineOf.lex a b
def impl_MachineOf.cf (a b : List ByteArray) : Int := if impl_MachineOf.lt a b = true then -1 else if impl_MachineOf.lt b a = true then 1 else 0
theorem impl_MachineOf.lex_iff : ∀ a b : List ByteArray, impl_MachineOf.lex a b = true ↔ a.map (·.toList) < b.map (·.toList)
 | [], [] => by simp [impl_MachineOf.lex]
 | [], _ :: _ => by simp [impl_MachineOf.lex]
 | _ :: _, [] => by simp [impl_MachineOf.lex]
 | x :: a, y :: b => by
  rw [impl_MachineOf.lex, List.map_cons, List.map_cons, List.cons_lt_cons_iff, ← impl_MachineOf.lex_iff a b, bytesLess_eq, bytesLess_eq]
  by_cases h1 : x.toList < y.toList
  ·simp [h1]
  ·by_cases h2 : y.toList < x.toList
   ·have hne : x.toList ≠ y.toList := fun e => List.lt_irrefl _ (e ▸ h2)
    simp [h1, h2, hne]
   ·have he : x.toList = y.toList := List.le_antisymm (List.not_lt.1 h2) (List.not_lt.1 h1)
    simp [he]
theorem impl_MachineOf.lt_iff (a b : List ByteArray) : impl_MachineOf.lt a b = true ↔ impl_MachineOf.lng b < impl_MachineOf.lng a ∨ (impl_MachineOf.lng a = impl_MachineOf.lng b ∧ a.map (·.toList) < b.map (·.toList)) := by
 unfold impl_MachineOf.lt
 rw [← impl_MachineOf.lex_iff]
 by_cases h1 : impl_MachineOf.lng b < impl_MachineOf.lng a
 ·simp [h1]
 ·by_cases h2 : impl_MachineOf.lng a < impl_MachineOf.lng b
  ·simp [h1, h2]
   omega
  ·simp [h1, h2]
   omega
theorem impl_MachineOf.lt_irrefl (a : List ByteArray) : impl_MachineOf.lt a a = false := by
 rw [Bool.eq_false_iff, Ne, impl_MachineOf.lt_iff]
 rintro (h | ⟨_, h⟩)
 ·omega
 ·exact List.lt_irrefl _ h
theorem impl_MachineOf.lt_trans {a b c : List ByteArray} (h : impl_MachineOf.lt a b = true) (k : impl_MachineOf.lt b c = true) : impl_MachineOf.lt a c = true := by
 rw [impl_MachineOf.lt_iff] at *
 rcases h with h | ⟨h, h'⟩ <;> rcases k with k | ⟨k, k'⟩
 ·exact .inl (by omega)
 ·exact .inl (by omega)
 ·exact .inl (by omega)
 ·exact .inr ⟨by omega, List.lt_trans h' k'⟩
theorem impl_MachineOf.map_inj : ∀ {a b : List ByteArray}, a.map (·.toList) = b.map (·.toList) → a = b
 | [], [], _ => rfl
 | [], _ :: _, h => by simp at h
 | _ :: _, [], h => by simp at h
 | x :: a, y :: b, h => by
  rw [List.map_cons, List.map_cons, List.cons.injEq, Lib.toList_data, Lib.toList_data] at h
  rw [impl_MachineOf.map_inj h.2, ByteArray.ext (Array.toList_inj.1 h.1)]
theorem impl_MachineOf.lt_tot {a b : List ByteArray} (h : impl_MachineOf.lt a b = false) (k : impl_MachineOf.lt b a = false) : a = b := by
 rw [Bool.eq_false_iff, Ne, impl_MachineOf.lt_iff] at *
 have e : impl_MachineOf.lng a = impl_MachineOf.lng b := by
  have h1 := fun z => h (.inl z); have k1 := fun z => k (.inl z)
  omega
 have h1 : ¬ a.map (·.toList) < b.map (·.toList) := fun z => h (.inr ⟨e, z⟩)
 have k1 : ¬ b.map (·.toList) < a.map (·.toList) := fun z => k (.inr ⟨e.symm, z⟩)
 exact impl_MachineOf.map_inj (List.le_antisymm (List.not_lt.1 k1) (List.not_lt.1 h1))
theorem impl_MachineOf.ltOf_cf (a b : List ByteArray) : ltOf impl_MachineOf.cf a b = impl_MachineOf.lt a b := by
 unfold ltOf impl_MachineOf.cf
 cases h : impl_MachineOf.lt a b with
 | true => simp
 | false => cases h2 : impl_MachineOf.lt b a <;> simp
theorem impl_MachineOf.swo : Go.Sort.SWO impl_MachineOf.lt where
 irrefl := impl_MachineOf.lt_irrefl
 trans x y z h k := impl_MachineOf.lt_trans h k
 ntrans x y z h k := by
  cases h3 : impl_MachineOf.lt x z with
  | false => rfl
  | true =>
   cases h4 : impl_MachineOf.lt y x with
   | true => rw [impl_MachineOf.lt_trans h4 h3] at k; cases k
   | false =>
    have e := impl_MachineOf.lt_tot h h4; subst e; rw [h3] at k
    cases k
theorem impl_MachineOf.rd_get (l : List ByteArray) (i : Nat) (h : i < l.length) : rdOf ByteArray.empty l (i : Int) = l[i] := by
 simp [rdOf, List.getD_eq_getElem?_getD, h]
theorem impl_MachineOf.lng_loop (l : List ByteArray) (hl : l.length ≤ 1000000) (k : Nat) : ∀ (i : Nat) (v r : Int), impl_longest.l0 k v l (l.length : Int) (i : Int) = some r → r = (l.drop i).foldl (fun n s => mx n (s.size : Int)) v := by
 induction k with
 | zero => intro i v r h; cases h
 | succ k ih =>
  intro i v r h; rw [impl_longest.l0] at h
  by_cases c : (i : Int) < (l.length : Int)
  ·have hi : i < l.length := by omega
   rw [if_pos c, if_pos (by omega), if_pos c, impl_MachineOf.rd_get l i hi, show wrap64 ((i : Int) + 1) = ((i + 1 : Nat) : Int) by unfold wrap64; omega] at h
   rw [ih (i + 1) _ r h, List.drop_eq_getElem_cons hi]
   rfl
  ·rw [if_neg c] at h
   rw [List.drop_eq_nil_of_le (by omega)]
   exact (Option.some.inj h).symm
theorem impl_MachineOf.lng_of {l : List ByteArray} (hl : l.length ≤ 1000000) {k : Nat} {r : Int} (h : impl_longest.f k l = some r) : r = impl_MachineOf.lng l := by
 have := impl_MachineOf.lng_loop l hl k 0 0 r h
 rwa [List.drop_zero] at this
theorem impl_MachineOf.cmpS (x y : ByteArray) : cmp_Compare_string.f x y = some (if Op.bytesLess x.toList y.toList = true then -1 else if Op.bytesLess y.toList x.toList = true then 1 else 0) := by
 have n2 : ∀ z : ByteArray, (z.toList != z.toList) = false := fun z => by simp
 unfold cmp_Compare_string.f cmp_isNaN_string.f
 simp only [n2, Option.bind_some, Bool.false_eq_true, if_false]
 by_cases h4 : Op.bytesLess x.toList y.toList = true <;> by_cases h5 : Op.bytesLess y.toList x.toList = true <;> simp [h4, h5]
theorem impl_MachineOf.cmpI (x y : Int) : cmp_Compare_int.f x y = some (if x < y then -1 else if x > y then 1 else 0) := by
 have n2 : ∀ z : Int, (z != z) = false := fun z => by simp
 unfold cmp_Compare_int.f cmp_isNaN_int.f
 simp only [n2, Option.bind_some, Bool.false_eq_true, if_false]
 by_cases h4 : x < y <;> by_cases h5 : x > y <;> simp [h4, h5]
theorem impl_MachineOf.cmpL_loop (a b : List ByteArray) (ha : a.length ≤ 1000000) (k : Nat) : ∀ (i : Nat) (r : Int), i ≤ a.length → slices_Compare_string_string.l0 k a b a (a.length : Int) (i : Int) = some r → r = (if impl_MachineOf.lex (a.drop i) (b.drop i) = true then -1 else if impl_MachineOf.lex (b.drop i) (a.drop i) = true then 1 else 0) := by
 induction k with
 | zero => intro i r _ h; cases h
 | succ k ih =>
  intro i r hle h; rw [slices_Compare_string_string.l0] at h
  by_cases c : (i : Int) < (a.length : Int)
  ·have hi : i < a.length := by omega
   rw [if_pos c, if_pos (by omega), if_pos c, impl_MachineOf.rd_get a i hi, show wrap64 ((i : Int) + 1) = ((i + 1 : Nat) : Int) by unfold wrap64; omega] at h
   rw [List.drop_eq_getElem_cons hi]
   by_cases d : (i : Int) ≥ (b.length : Int)
   ·rw [if_pos d] at h
    rw [List.drop_eq_nil_of_le (show b.length ≤ i by omega)]
    rw [← Option.some.inj h]
    rfl
   ·have hb : i < b.length := by omega
    rw [if_neg d, if_pos (by omega), impl_MachineOf.rd_get b i hb, impl_MachineOf.cmpS, Option.bind_some] at h
    rw [List.drop_eq_getElem_cons hb, impl_MachineOf.lex, impl_MachineOf.lex]
    by_cases h4 : Op.bytesLess a[i].toList b[i].toList = true
    ·rw [if_pos h4, if_neg (by decide)] at h
     rw [if_pos h4, if_pos rfl]
     exact (Option.some.inj h).symm
    ·rw [if_neg h4] at h
     by_cases h5 : Op.bytesLess b[i].toList a[i].toList = true
     ·rw [if_pos h5, if_neg (by decide)] at h
      rw [if_neg h4, if_pos h5, if_neg (by decide), if_pos h5, if_pos rfl]
      exact (Option.some.inj h).symm
     ·rw [if_neg h5, if_pos rfl] at h
      rw [if_neg h4, if_neg h5, if_neg h5, if_neg h4]
      exact ih (i + 1) r hi h
  ·rw [if_neg c] at h
   rw [List.drop_eq_nil_of_le (show a.length ≤ i by omega)]
   by_cases d : (a.length : Int) < (b.length : Int)
   ·rw [if_pos d] at h
    rcases Nat.lt_or_ge i b.length with hb | hb
    ·rw [List.drop_eq_getElem_cons hb]
     exact (Option.some.inj h).symm
    ·omega
   ·rw [if_neg d] at h
    rw [List.drop_eq_nil_of_le (show b.length ≤ i by omega)]
    exact (Option.some.inj h).symm
theorem impl_MachineOf.cmpO (k : Nat) (x y r : Int) (h : cmp_Or_int.f k [x, y] = some r) : r = if x = 0 then y else x := by
 unfold cmp_Or_int.f at h
 rcases k with _ | k
 ·cases h
 rw [cmp_Or_int.l0, if_pos (by simp), if_pos (by simp), if_pos (by simp)] at h
 rw [show rd [x, y] 0 = x from rfl, show wrap64 ((0 : Int) + 1) = 1 by unfold wrap64; omega] at h
 by_cases hx : x = 0
 ·rw [if_pos hx] at h ⊢
  rcases k with _ | k
  ·cases h
  rw [cmp_Or_int.l0, if_pos (by simp), if_pos (by simp), if_pos (by simp)] at h
  rw [show rd [x, y] 1 = y from rfl, show wrap64 ((1 : Int) + 1) = 2 by unfold wrap64; omega] at h
  by_cases hy : y = 0
  ·rw [if_pos hy] at h
   rcases k with _ | k
   ·cases h
   rw [cmp_Or_int.l0, if_neg (by simp)] at h
   rw [hy]
   exact (Option.some.inj h).symm
  ·rw [if_neg hy] at h
   exact (Option.some.inj h).symm
 ·rw [if_neg hx] at h ⊢
  exact (Option.some.inj h).symm
theorem impl_MachineOf.cmpF_of {k : Nat} {a b : List ByteArray} (ha : a.length ≤ 1000000) (hb : b.length ≤ 1000000) {r : Int} (h : impl_MachineOf.cmpF k a b = some r) : r = impl_MachineOf.cf a b := by
 obtain ⟨lb, hlb, h⟩ := Option.bind_eq_some_iff.1 h; obtain ⟨la, hla, h⟩ := Option.bind_eq_some_iff.1 h; obtain ⟨t9, h9, h⟩ := Option.bind_eq_some_iff.1 h; obtain ⟨t12, h12, h⟩ := Option.bind_eq_some_iff.1 h; rw [impl_MachineOf.cmpI] at h9; have e9 := (Option.some.inj h9).symm; have e12 := impl_MachineOf.cmpL_loop a b ha k 0 t12 (Nat.zero_le _) h12; rw [List.drop_zero, List.drop_zero] at e12; rw [impl_MachineOf.lng_of hb hlb, impl_MachineOf.lng_of ha hla] at e9
 rw [impl_MachineOf.cmpO k t9 t12 r h, e9, e12]
 unfold impl_MachineOf.cf impl_MachineOf.lt
 by_cases h1 : impl_MachineOf.lng b < impl_MachineOf.lng a
 ·simp [h1]
 ·by_cases h2 : impl_MachineOf.lng a < impl_MachineOf.lng b
  ·simp [h1, h2]
  ·simp [h1, h2]
def impl_MachineOf.le (a b : List ByteArray) : Bool := !impl_MachineOf.lt b a
theorem impl_MachineOf.putRow_grown {α : Type} [Inhabited α] {enc : α → Value} (w : World) (g n : Nat) (d : Array α) : w.grownBy (Go.Sort.putRow enc (Go.Sort.ahead w n) g 0 d) (some g) := by
 refine ⟨rfl, rfl, rfl, by simp [Go.Sort.putRow, Go.Sort.mapBlock, Go.Sort.ahead], fun k hk hne => ?_⟩
 have : g ≠ k := fun e => hne (by rw [e])
 simp [Go.Sort.putRow, Go.Sort.mapBlock, Go.Sort.ahead, Array.getElem?_modify, this]
theorem impl_MachineOf.grow_grown (w : World) (os : Array Obj) : w.grownBy (Go.Sort.grow w os) none := ⟨rfl, rfl, rfl, by simp [Go.Sort.grow], fun i hi _ => Go.Sort.heap_grow_old _ _ hi⟩
theorem impl_MachineOf.sorted_ext {l m : List (List ByteArray)} (hp : l.Perm m) (h1 : l.Pairwise (fun a b => impl_MachineOf.le a b = true)) (h2 : m.Pairwise (fun a b => impl_MachineOf.le a b = true)) : l = m := by
 refine List.Perm.eq_of_pairwise (le := fun a b => impl_MachineOf.le a b = true) (fun a b _ _ h k => ?_) h1 h2 hp
 simp only [impl_MachineOf.le, Bool.not_eq_true'] at h k
 exact impl_MachineOf.lt_tot k h
theorem impl_MachineOf.le_sorted (l : List (List ByteArray)) : (l.mergeSort impl_MachineOf.le).Pairwise (fun a b => impl_MachineOf.le a b = true) := by
 refine List.pairwise_mergeSort (fun a b c h k => ?_) (fun a b => ?_) l
 ·simp only [impl_MachineOf.le, Bool.not_eq_true'] at *
  exact impl_MachineOf.swo.ntrans _ _ _ k h
 ·simp only [impl_MachineOf.le, Bool.or_eq_true, Bool.not_eq_true']
  cases h : impl_MachineOf.lt b a with
  | false => exact .inl rfl
  | true => exact .inr (by cases k : impl_MachineOf.lt a b with | false => rfl | true => exact (impl_MachineOf.lt_irrefl a ▸ impl_MachineOf.lt_trans k h).symm)
set_option maxHeartbeats 1000000 in
theorem impl_MachineOf.sortRow {base : Nat} {w6 W : World} {es ds : List (ByteArray × Value × List ByteArray)} {g g0 cap k : Nat} (hW : w6.grownBy W (some g0)) (hgw : g = g0 ∨ w6.heap.size ≤ g) (hl : ∀ e ∈ es, ∀ W', w6.grownBy W' (some g0) → impl_MachineOf.Lst W' e.2.1 e.2.2)
  (hn : (es.map (·.2.2)).Nodup) (hz : ∀ e ∈ es, e.2.2.length ≤ 1000000) (hc : ∀ a ∈ es, ∀ b ∈ es, (impl_MachineOf.cmpF k a.2.2 b.2.2).isSome = true) (hp : ds.Perm es) (hne : es ≠ []) (hlen : es.length < 1000000)
  (hrow : W.ownsRow base 22 1 (.slice (some ⟨g, 0, none⟩) ds.length cap) ds.length (ds.map (·.2.1))) :
  Calls Try.prog 32 #[.slice (some ⟨g, 0, none⟩) ds.length cap, .func (.func 33) #[] #[]] W fun e w' => e = .returned (.tuple #[]) ∧ W.grownBy w' (some g) ∧ ∃ ss : List (ByteArray × Value × List ByteArray), ss.Perm es ∧ ss.map (·.2.2) = (es.map (·.2.2)).mergeSort impl_MachineOf.le ∧ w'.ownsRow base 22 1 (.slice (some ⟨g, 0, none⟩) ds.length cap) ds.length (ss.map (·.2.1)) := by
 obtain ⟨dl, hdl⟩ : ∃ dl : List {e // e ∈ es}, dl.map (·.1) = ds := ⟨ds.pmap Subtype.mk (fun e he => hp.mem_iff.1 he), by simp [List.map_pmap]⟩
 haveI : Inhabited {e // e ∈ es} := ⟨⟨es.head hne, List.head_mem hne⟩⟩
 have hdlen : dl.length = ds.length := by rw [← hdl, List.length_map]
 have hW2 : ∀ (m : Nat) (os : Array Obj) (dk : Array {e // e ∈ es}), w6.grownBy (Go.Sort.grow (Go.Sort.putRow (fun e : {e // e ∈ es} => e.1.2.1) (Go.Sort.ahead W m) g 0 dk) os) (some g0) := fun m os dk =>
  (hW.andThen (impl_MachineOf.putRow_grown W g m dk) (fun j hj => by cases hj; rcases hgw with rfl | h; exact .inr rfl; exact .inl h)).andThen (impl_MachineOf.grow_grown _ os) (by simp)
 have hone : OneCell (fun e : {e // e ∈ es} => e.1.2.1) := fun e => by
  obtain ⟨A, c, he, _⟩ := hl e.1 e.2 W hW
  show e.1.2.1.oneCell' = true
  rw [he]
  rfl
 have hinj : ∀ x y : {e // e ∈ es}, x.1.2.2 = y.1.2.2 → x = y := fun x y h => by
  obtain ⟨i, hi, e1⟩ := List.mem_iff_getElem.1 x.2; obtain ⟨j, hj, e2⟩ := List.mem_iff_getElem.1 y.2
  have := (List.getElem_inj (h₀ := by simpa using hi) (h₁ := by simpa using hj) hn).1 (by simp only [List.getElem_map, e1, e2]; exact h)
  subst this; exact Subtype.ext (e1.symm.trans e2)
 have hcmp : CmpLays1 Try.prog 33 #[] (fun e : {e // e ∈ es} => e.1.2.1) (fun x y => impl_MachineOf.cf x.1.2.2 y.1.2.2) g 0 dl.toArray.size W := by
  intro m os dk hs x y; obtain ⟨A0, c0, e0, g0', h0⟩ := hl x.1 x.2 _ (hW2 m os dk); obtain ⟨A1, c1, e1, g1, h1⟩ := hl y.1 y.2 _ (hW2 m os dk); obtain ⟨r, hr⟩ := Option.isSome_iff_exists.1 (hc x.1 x.2 y.1 y.2)
  have := impl_MachineOf.cmpc k _ _ A0 A1 c0 c1 r _ h0 g0' h1 g1 hr
  have er := impl_MachineOf.cmpF_of (hz x.1 x.2) (hz y.1 y.2) hr
  show Calls Try.prog 33 #[x.1.2.1, y.1.2.1] _ _
  rw [e0, e1]
  refine this.mono ?_
  rintro e w' ⟨rfl, q, os', rfl⟩
  exact ⟨by rw [er], q, os', rfl⟩
 have eg : ∀ args w, (callFunc 33 args).run Try.prog w = .ok (.enter 33 args) w := enters_of Try.func33 (by kernel_rfl) rfl
 have hS : Go.Sort.SWO (ltOf (fun x y : {e // e ∈ es} => impl_MachineOf.cf x.1.2.2 y.1.2.2)) := by
  have e : ∀ x y : {e // e ∈ es}, ltOf (fun x y : {e // e ∈ es} => impl_MachineOf.cf x.1.2.2 y.1.2.2) x y = impl_MachineOf.lt x.1.2.2 y.1.2.2 := fun x y => impl_MachineOf.ltOf_cf x.1.2.2 y.1.2.2
  exact ⟨fun x => by rw [e]; exact impl_MachineOf.swo.irrefl _, fun x y z h k => by rw [e] at *; exact impl_MachineOf.swo.trans _ _ _ h k, fun x y z h k => by rw [e] at *; exact impl_MachineOf.swo.ntrans _ _ _ h k⟩
 have hrow' : W.ownsRow base 22 1 (.slice (some ⟨g, 0, none⟩) ds.length cap) ds.length (dl.map (fun e : {e // e ∈ es} => e.1.2.1)) := by
  rw [← hdl, List.map_map] at hrow
  rw [← hdl]
  exact hrow
 obtain ⟨g', cap', ev, _, hgs, _, _, _, hH⟩ := Go.Lib.holds_of_ownsRow (enc := fun e : {e // e ∈ es} => e.1.2.1) hrow' (by simp)
 have eg' : g' = g := by injection ev with e1; injection e1 with e1; injection e1 with e1; exact e1.symm
 rw [eg'] at hH hgs
 have := Any.slices_SortFunc_total Try.laySortM (fun e : {e // e ∈ es} => e.1.2.1) hone (fun x y => impl_MachineOf.cf x.1.2.2 y.1.2.2) hS 33 #[] g 0 cap dl.toArray W eg hcmp hH hgs (by have := hp.length_eq; simp; omega) (fun x y h k => hinj x y (impl_MachineOf.lt_tot ((impl_MachineOf.ltOf_cf _ _).symm.trans h) ((impl_MachineOf.ltOf_cf _ _).symm.trans k)))
 change Calls Try.prog 32 #[.slice (some ⟨g, 0, none⟩) dl.length cap, .func (.func 33) #[] #[]] _ _ at this
 rw [hdlen] at this
 refine this.mono ?_
 rintro e w' ⟨he, n, os, rfl⟩
 have hle : ∀ x y : {e // e ∈ es}, (!(ltOf (fun x y : {e // e ∈ es} => impl_MachineOf.cf x.1.2.2 y.1.2.2)) y x) = impl_MachineOf.le x.1.2.2 y.1.2.2 := fun x y => congrArg _ (impl_MachineOf.ltOf_cf y.1.2.2 x.1.2.2)
 refine ⟨he, (impl_MachineOf.putRow_grown W g n _).andThen (impl_MachineOf.grow_grown _ os) (by simp), (dl.mergeSort (fun x y => !(ltOf (fun x y : {e // e ∈ es} => impl_MachineOf.cf x.1.2.2 y.1.2.2)) y x)).map (·.1), ?_, ?_, ?_⟩
 ·refine ((List.mergeSort_perm dl _).map _).trans ?_
  rw [hdl]
  exact hp
 ·refine impl_MachineOf.sorted_ext ?_ ?_ (impl_MachineOf.le_sorted _)
  ·refine (((List.mergeSort_perm dl _).map _).map _).trans ?_
   rw [hdl]
   exact (hp.map _).trans (List.mergeSort_perm _ _).symm
  ·rw [List.map_map]
   have h2 := List.map_mergeSort (r := fun x y : {e // e ∈ es} => !(ltOf (fun x y : {e // e ∈ es} => impl_MachineOf.cf x.1.2.2 y.1.2.2)) y x) (s := impl_MachineOf.le) (f := fun x : {e // e ∈ es} => x.1.2.2) (l := dl) (fun a _ b _ => hle a b); have h3 := impl_MachineOf.le_sorted (dl.map (fun x : {e // e ∈ es} => x.1.2.2)); rw [← h2] at h3
   exact h3
 ·have h1 := Go.Lib.ownsRow_putRow (q := n) (k := ds.length) hrow' (ys := dl.mergeSort (fun x y => !(ltOf (fun x y : {e // e ∈ es} => impl_MachineOf.cf x.1.2.2 y.1.2.2)) y x)) (by rw [List.length_mergeSort, hdlen]) (Nat.le_refl _)
  rw [List.take_of_length_le (by rw [List.length_mergeSort, hdlen]; exact Nat.le_refl _)] at h1
  rw [List.map_map]
  exact h1.kept (impl_MachineOf.grow_grown _ os) (by simp [Value.ownBlock])
section
variable {P : Program} {ops : Array Oper} {Q : Exit → Act → World → Prop} {o : Oper} {rest : List Oper} {a : Act}
theorem impl_MachineOf.mkm {W : World} (hgd : o.guard = none) (t : TypeId) (hop : o.op = .makeMap t none)
  (h : ∀ g, g = W.heap.size → ∀ w1, w1.heap[g]? = some (.map #[] 0) → Below W.heap.size W w1 → wpList P ops Q rest (a.put o.dst (.map (some g))) w1) : wpList P ops Q (o :: rest) a W :=
 Kd.event_run hgd (v := .map (some W.heap.size)) (w1 := W.alloc (.map #[] 0)) (by simp [execOp, hop, run_makeMap, Result.andThen]) (h _ rfl _ (blk_new W _) (below_alloc (Below.refl _ _) _))
theorem impl_MachineOf.row0 {W : World} (hgd : o.guard = none) {e : TypeId}
  (hrun : (execOp a.eval o).run P W = .ok (.value (.slice (some ⟨W.heap.size, 0, none⟩) 0 0)) (W.alloc (.cells #[] e (0, 0))))
  (h : ∀ g, g = W.heap.size → ∀ w1, w1.heap[g]? = some (.cells #[] e (0, 0)) → Below W.heap.size W w1 → wpList P ops Q rest (a.put o.dst (.slice (some ⟨g, 0, none⟩) 0 0)) w1) : wpList P ops Q (o :: rest) a W :=
 Kd.event_run hgd hrun (h _ rfl _ (blk_new W _) (below_alloc (Below.refl _ _) _))
end
theorem impl_MachineOf.set_other {W : World} {g b i : Nat} {o : Obj} {v : Value} (h : W.heap[b]? = some o) (hne : b ≠ g) : (W.setCell ⟨g, i, none⟩ v).heap[b]? = some o := by
 rw [Below.heap_setCell W ⟨g, i, none⟩ v b hne]
 exact h
theorem impl_MachineOf.set_below {w W : World} {b g i : Nat} {v : Value} (h : Below b w W) (hg : b ≤ g) : Below b w (W.setCell ⟨g, i, none⟩ v) := h.setCell hg _
theorem impl_MachineOf.owns0 {W : World} {g : Nat} (h : W.heap[g]? = some (.map #[] 0)) : W.ownsMap Try.prog 9 impl_MachineOf.hR g ([] : List (ByteArray × Value × List ByteArray)).length (impl_MachineOf.D []) := by
 obtain ⟨a, b, h1, h2⟩ := World.ownsMap_made W Try.prog 9 impl_MachineOf.hR; rw [blk_new] at h1
 injection h1 with h1
 injection h1 with h3 h4
 subst h3 h4
 exact ⟨_, _, h, h2⟩
theorem impl_MachineOf.ne_map {W : World} {g g' : Nat} {cs : Array Value} {t : TypeId} {z : Nat × Nat} {es : Array MapEntry} {n : Nat} (h : W.heap[g]? = some (.map es n)) (h' : W.heap[g']? = some (.cells cs t z)) : some g' ≠ some g := by
 intro e
 injection e with e
 rw [e, h] at h'
 cases h'
theorem impl_MachineOf.key_inv {key : Value} {kl : Lit} (h : keyOf Try.prog 9 key = some kl) : ∃ s : ByteArray, key = .string s ∧ kl = .string s.data.toList := by
 cases key <;> simp [keyOf, Try.underlying9, mapKey] at h
 exact ⟨_, rfl, h.2.symm⟩
theorem impl_MachineOf.same_key (a b : ByteArray) : (Lit.string a.data.toList).sameKey (.string b.data.toList) = true ↔ a = b := by
 simp only [Lit.sameKey, beq_iff_eq]
 exact ⟨fun h => ByteArray.ext (Array.toList_inj.1 h), fun h => by rw [h]⟩
theorem impl_MachineOf.row_ne_map {W : World} {base : Nat} {e : TypeId} {size : Nat} {v : Value} {m : Nat} {xs : List Value} (h : W.ownsRow base e size v m xs) {g n : Nat} {es : Array MapEntry} (hm : W.heap[g]? = some (.map es n)) : some g ≠ v.ownBlock := by
 rcases h.2 with ⟨rfl, _⟩ | ⟨g', cap, cur, rfl, _, hb, _⟩
 ·simp [Value.ownBlock]
 ·intro e1
  have : g = g' := by simpa [Value.ownBlock] using e1
  subst this; rw [hm] at hb
  cases hb
theorem impl_MachineOf.row_ne_iter {W : World} {base : Nat} {e : TypeId} {size : Nat} {v : Value} {m : Nat} {xs : List Value} (h : W.ownsRow base e size v m xs) {b r n : Nat} {D : DataW Value} {left : Lit → Bool} {cnt : Nat} (hr : W.ranges Try.prog 9 impl_MachineOf.hR b r n D left cnt) : some r ≠ v.ownBlock := by
 obtain ⟨_, _, _, _, _, _, _, _, _, hit, _⟩ := hr
 rcases h.2 with ⟨rfl, _⟩ | ⟨g, cap, cur, rfl, _, hb, _⟩
 ·simp [Value.ownBlock]
 ·intro e1
  have : r = g := by simpa [Value.ownBlock] using e1
  subst this; rw [hit] at hb
  cases hb
theorem impl_MachineOf.ranges_map {W : World} {b r n : Nat} {D : DataW Value} {left : Lit → Bool} {cnt : Nat} (hr : W.ranges Try.prog 9 impl_MachineOf.hR b r n D left cnt) : ∃ es n, W.heap[b]? = some (.map es n) := by
 obtain ⟨es, n, _, _, _, h, _⟩ := hr
 exact ⟨es, n, h⟩
/-- The loop over the map. -/
structure impl_MachineOf.Rng (w0 w6 W : World) (gm g0 : Nat) (es : List (ByteArray × Value × List ByteArray)) (kq : Nat) (v : Value) (done : List (ByteArray × Value × List ByteArray)) (left : Lit → Bool) (cnt : Nat) : Prop where
 rg : W.ranges Try.prog 9 impl_MachineOf.hR gm w6.heap.size es.length (impl_MachineOf.D es) left cnt
 fu : cnt + 1 ≤ kq
 sub : ∀ e ∈ done, e ∈ es
 nod : (done.map (·.1)).Nodup
 lf : ∀ s : ByteArray, left (.string s.data.toList) = true ↔ s ∈ es.map (·.1) ∧ s ∉ done.map (·.1)
 row : W.ownsRow w0.heap.size 22 1 v done.length (done.map (·.2.1))
 gr : w6.grownBy W (some g0)
 own : v.ownBlock = some g0 ∨ ∃ b, v.ownBlock = some b ∧ w6.heap.size ≤ b
theorem impl_MachineOf.nodup_of {α β : Type} {f : α → β} {l : List α} (h : (l.map f).Nodup) : l.Nodup := (List.pairwise_map.1 h).imp (fun h e => h (by rw [e]))
theorem impl_MachineOf.len_le {α : Type} : ∀ (a b : List α), a.Nodup → (∀ x ∈ a, x ∈ b) → a.length ≤ b.length
 | [], _, _, _ => Nat.zero_le _
 | x :: a, b, h, k => by
  obtain ⟨s, t, rfl⟩ := List.append_of_mem (k x List.mem_cons_self)
  have := impl_MachineOf.len_le a (s ++ t) (List.nodup_cons.1 h).2 (fun y hy => by
   have h1 := k y (List.mem_cons_of_mem _ hy)
   have h2 : y ≠ x := fun e => (List.nodup_cons.1 h).1 (e ▸ hy)
   simp only [List.mem_append, List.mem_cons] at h1 ⊢
   rcases h1 with h1 | h1 | h1
   ·exact .inl h1
   ·exact absurd h1 h2
   ·exact .inr h1)
  simp only [List.length_append, List.length_cons] at this ⊢
  omega
theorem impl_MachineOf.Rng.start {w0 w6 W : World} {gm g0 : Nat} {es : List (ByteArray × Value × List ByteArray)} (hrg : W.ranges Try.prog 9 impl_MachineOf.hR gm w6.heap.size es.length (impl_MachineOf.D es) (Go.Maps.has (impl_MachineOf.D es)) (Go.Maps.size (impl_MachineOf.D es))) (hg : w6.grownBy W none) (h0 : w6.heap[g0]? = some (.cells #[] 22 (0, 0))) (hg0 : w0.heap.size ≤ g0) :
  impl_MachineOf.Rng w0 w6 W gm g0 es (Go.Maps.size (impl_MachineOf.D es) + 1) (.slice (some ⟨g0, 0, none⟩) 0 0) [] (Go.Maps.has (impl_MachineOf.D es)) (Go.Maps.size (impl_MachineOf.D es)) :=
 ⟨hrg, Nat.le_refl _, by simp, by simp, fun s => by rw [impl_MachineOf.D_has]; simp, ⟨by simp, .inr ⟨g0, 0, #[], rfl, hg0, blk_grown h0 hg (by simp), Nat.le_refl _, by unfold maxLen; omega, by simp, by simp⟩⟩, hg.but _, .inl rfl⟩
theorem impl_MachineOf.uniq {es : List (ByteArray × Value × List ByteArray)} (hn : (es.map (·.1)).Nodup) {e f : ByteArray × Value × List ByteArray} (he : e ∈ es) (hf : f ∈ es) (h : e.1 = f.1) : e = f := by
 obtain ⟨i, hi, rfl⟩ := List.mem_iff_getElem.1 he; obtain ⟨j, hj, rfl⟩ := List.mem_iff_getElem.1 hf
 have := (List.getElem_inj (h₀ := by simpa using hi) (h₁ := by simpa using hj) hn).1 (by simpa using h)
 subst this
 rfl
theorem impl_MachineOf.Rng.push {w0 w6 W w1 w2 : World} {gm g0 : Nat} {es done : List (ByteArray × Value × List ByteArray)} {kq k1 : Nat} {v v' c : Value} {left : Lit → Bool} {cnt cnt1 : Nat} {x : ByteArray} {o : Obj} (h : impl_MachineOf.Rng w0 w6 W gm g0 es kq v done left cnt) (hn : (es.map (·.1)).Nodup)
  (hl : left (.string x.data.toList) = true) (hat : ∀ zd, (impl_MachineOf.D es).atKey (.string x.data.toList) zd = .held c) (hrg : w1.ranges Try.prog 9 impl_MachineOf.hR gm w6.heap.size es.length (impl_MachineOf.D es) (fun z => left z && !z.sameKey (.string x.data.toList)) cnt1) (hg : W.grownBy w1 (some w6.heap.size))
  (hown : w2.ownsRow w0.heap.size 22 1 v' (done.length + 1) (done.map (·.2.1) ++ [c])) (hgr : (w1.alloc o).grownBy w2 v.ownBlock) (hat' : v'.ownBlock = v.ownBlock ∨ v'.ownBlock = some (w1.alloc o).heap.size) (hk : cnt1 + 1 ≤ k1) :
  ∃ done', impl_MachineOf.Rng w0 w6 w2 gm g0 es k1 v' done' (fun z => left z && !z.sameKey (.string x.data.toList)) cnt1 := by
 obtain ⟨hx, hxd⟩ := (h.lf x).1 hl; obtain ⟨e, he, rfl⟩ := List.mem_map.1 hx
 have hc : c = e.2.1 := by
  have := (hat (.held c)).symm.trans (impl_MachineOf.D_at es hn e he (.held c))
  injection this
 subst hc
 have hr1 : some w6.heap.size ≠ v.ownBlock := impl_MachineOf.row_ne_iter h.row h.rg
 have hr2 : some gm ≠ v.ownBlock := by
  obtain ⟨_, _, hb⟩ := impl_MachineOf.ranges_map h.rg; exact impl_MachineOf.row_ne_map h.row hb
 have hg1 : w6.grownBy w1 (some g0) := h.gr.andThen hg (fun j hj => by cases hj; exact .inl (Nat.le_refl _))
 have hg2 : w6.grownBy (w1.alloc o) (some g0) := hg1.andThen (World.grownBy_alloc w1 o none) (by simp)
 have hsz := hg2.size
 refine ⟨done ++ [e], (hrg.alloc o).kept hgr hr2 hr1, hk, fun f hf => ?_, ?_, fun s => ?_, ?_, hg2.andThen hgr (fun j hj => ?_), ?_⟩
 ·rcases List.mem_append.1 hf with hf | hf
  ·exact h.sub f hf
  ·rw [List.mem_singleton.1 hf]
   exact he
 ·rw [List.map_append, List.nodup_append]
  refine ⟨h.nod, by simp, fun a ha b hb => ?_⟩
  have : b = e.1 := by simpa using hb
  rw [this]
  rintro rfl
  exact hxd ha
 ·have hs := impl_MachineOf.same_key s e.1
  rw [Bool.and_eq_true, h.lf s, Bool.not_eq_true', List.map_append, List.mem_append, not_or, ← Bool.not_eq_true, hs]
  simp only [List.map_cons, List.map_nil, List.mem_singleton]
  exact and_assoc
 ·rw [List.length_append, List.map_append]
  exact hown
 ·rcases h.own with e1 | ⟨b, e1, hb⟩
  ·exact .inr (by rw [← hj, e1])
  ·rw [e1] at hj
   cases hj; exact .inl hb
 ·rcases hat' with e1 | e1
  ·rw [e1]
   exact h.own
  ·exact .inr ⟨_, e1, hsz⟩
theorem impl_MachineOf.Rng.end_ {w0 w6 W : World} {gm g0 : Nat} {es done : List (ByteArray × Value × List ByteArray)} {kq : Nat} {v : Value} {left : Lit → Bool} {cnt : Nat} (h : impl_MachineOf.Rng w0 w6 W gm g0 es kq v done left cnt) (hn : (es.map (·.1)).Nodup) (hl : ∀ kl, left kl = false) : done.Perm es := by
 refine (List.perm_ext_iff_of_nodup (impl_MachineOf.nodup_of h.nod) (impl_MachineOf.nodup_of hn)).2 (fun e => ⟨h.sub e, fun he => ?_⟩)
 by_cases c : e.1 ∈ done.map (·.1)
 ·obtain ⟨f, hf, hk⟩ := List.mem_map.1 c
  rw [← impl_MachineOf.uniq hn (h.sub f hf) he hk]
  exact hf
 ·have := (h.lf e.1).2 ⟨List.mem_map_of_mem he, c⟩
  rw [hl] at this
  cases this
theorem impl_MachineOf.C_blk {w W : World} {b o n : Nat} {l : List ByteArray} (h : Kd.C Kd.string w (some ⟨b, o, none⟩) n l) (hk : W.heap[b]? = w.heap[b]?) : Kd.C Kd.string W (some ⟨b, o, none⟩) n l := by
 obtain ⟨h1, h2, h3⟩ := h
 refine ⟨h1, h2, fun hn => ?_⟩
 obtain ⟨ad, ha, h3⟩ := h3 hn
 refine ⟨ad, ha, fun j p hj => ?_⟩
 obtain ⟨cs, e1, e2, e3⟩ := h3 j p hj
 refine ⟨cs, e1, e2, fun i u hu => ?_⟩
 have h4 := e3 i u hu
 have hb : (ad.add (j * Kd.string.sz + i)).block = b := by
  injection ha with ha
  rw [add_block, ← ha]
 rw [World.cell?_of_block (w := w) (by rw [hb]; exact hk)]
 exact h4
theorem impl_MachineOf.Lst.far {w6 W : World} {v : Value} {l : List ByteArray} {g0 : Nat} (h : impl_MachineOf.Lst w6 v l) (hl : 0 < l.length) (h0 : w6.heap[g0]? = some (.cells #[] 22 (0, 0))) (hg : w6.grownBy W (some g0)) : impl_MachineOf.Lst W v l := by
 obtain ⟨A, c, hv, hc, h1⟩ := h; obtain ⟨b, o, rfl, hb, hcells⟩ := impl_MachineOf.addr h1 hl
 refine ⟨_, c, hv, hc, impl_MachineOf.C_blk h1 (hg.block b hb (fun e => ?_))⟩
 injection e with e
 subst e
 have := hcells 0 l[0] (List.getElem?_eq_getElem hl)
 simp [World.cell?, h0] at this
theorem impl_MachineOf.cell_grown {W W1 : World} {a : Addr} {v : Value} {row : Option Nat} (h : W.cell? a = some v) (hg : W.grownBy W1 row) (hm : ∀ j, row = some j → ∀ cs t z, W.heap[j]? ≠ some (.cells cs t z)) : W1.cell? a = some v := by
 unfold World.cell? at h ⊢
 split at h
 ·rename_i c1 t1 z1 hb
  rw [hg.block _ (Array.getElem?_eq_some_iff.1 hb).1 (fun e => hm _ e.symm _ _ _ hb), hb]
  exact h
 ·cases h
theorem impl_MachineOf.Lst.kept {W W1 : World} {v : Value} {l : List ByteArray} {row : Option Nat} (h : impl_MachineOf.Lst W v l) (hg : W.grownBy W1 row) (hm : ∀ j, row = some j → ∀ cs t z, W.heap[j]? ≠ some (.cells cs t z)) : impl_MachineOf.Lst W1 v l := by
 cases row with
 | none => exact h.grown (Bm := W.heap.size) (hg.but _) (by simp)
 | some j => exact h.grown hg (hm j rfl)
/-- What is read behind the sort: the lists' row, the lists, the key's function. -/
structure impl_MachineOf.Rd (W : World) (ad : Addr) (gk : Nat) (ss : List (ByteArray × Value × List ByteArray)) : Prop where
 row : ∀ j (h : j < ss.length), W.cell? (ad.add j) = some ss[j].2.1
 lst : ∀ e ∈ ss, impl_MachineOf.Lst W e.2.1 e.2.2
 key : W.heap[gk]? = some (.cells #[.func (.func 27) #[] #[]] 53 (0, 0))
theorem impl_MachineOf.Rd.kept {W W1 : World} {ad : Addr} {gk : Nat} {ss : List (ByteArray × Value × List ByteArray)} {row : Option Nat} (h : impl_MachineOf.Rd W ad gk ss) (hg : W.grownBy W1 row) (hm : ∀ j, row = some j → ∀ cs t z, W.heap[j]? ≠ some (.cells cs t z)) : impl_MachineOf.Rd W1 ad gk ss :=
 ⟨fun j hj => impl_MachineOf.cell_grown (h.row j hj) hg hm, fun e he => (h.lst e he).kept hg hm, (hg.block _ (blk_lt h.key) (fun e => hm _ e.symm _ _ _ h.key)).trans h.key⟩
theorem impl_MachineOf.Rd.below {W W1 : World} {ad : Addr} {gk : Nat} {ss : List (ByteArray × Value × List ByteArray)} (h : impl_MachineOf.Rd W ad gk ss) (hb : Below W.heap.size W W1) : impl_MachineOf.Rd W1 ad gk ss := h.kept (impl_MachineOf.gb hb none) (by simp)
theorem impl_MachineOf.Rd.at_ {W : World} {ad : Addr} {gk : Nat} {ss : List (ByteArray × Value × List ByteArray)} (h : impl_MachineOf.Rd W ad gk ss) (x : Nat) (hx : x < ss.length) : ∃ A c, ss[x].2.1 = .slice A ss[x].2.2.length c ∧ W.cell? (ad.add x) = some (.slice A ss[x].2.2.length c) ∧ ss[x].2.2.length ≤ c ∧ Kd.C Kd.string W A ss[x].2.2.length ss[x].2.2 := by
 obtain ⟨A, c, hv, hc, hC⟩ := h.lst ss[x] (List.getElem_mem hx)
 exact ⟨A, c, hv, by rw [h.row x hx, hv], hc, hC⟩
/-- The places: what the map of places holds after x rounds. -/
def impl_MachineOf.pl (ss : List (ByteArray × Value × List ByteArray)) (x : Nat) : List (ByteArray × Value × List ByteArray) := ((ss.take x).zipIdx).map (fun p => (p.1.1, Value.int .i64 (p.2 : Int), p.1.2.2))
theorem impl_MachineOf.pl_succ (ss : List (ByteArray × Value × List ByteArray)) (x : Nat) (h : x < ss.length) : impl_MachineOf.pl ss (x + 1) = impl_MachineOf.pl ss x ++ [(ss[x].1, Value.int .i64 (x : Int), ss[x].2.2)] := by
 unfold impl_MachineOf.pl
 rw [List.take_succ_eq_append_getElem h, List.zipIdx_append, List.map_append, List.length_take, Nat.min_eq_left (by omega)]
 simp
theorem impl_MachineOf.pl_keys (ss : List (ByteArray × Value × List ByteArray)) (x : Nat) : (impl_MachineOf.pl ss x).map (·.1) = (ss.take x).map (·.1) := by
 unfold impl_MachineOf.pl
 rw [List.map_map]
 conv => rhs; rw [← List.zipIdx_map_fst 0 (ss.take x)]
 rw [List.map_map]
 rfl
theorem impl_MachineOf.pl_mem (ss : List (ByteArray × Value × List ByteArray)) (j : Nat) (h : j < ss.length) : (ss[j].1, Value.int .i64 (j : Int), ss[j].2.2) ∈ impl_MachineOf.pl ss ss.length := by
 unfold impl_MachineOf.pl
 rw [List.take_length]
 exact List.mem_map.2 ⟨(ss[j], j), List.mem_zipIdx_iff_getElem?.2 (by simp [h]), rfl⟩
/-- The place of a list. -/
def impl_MachineOf.pos (x : List ByteArray) : List (List ByteArray) → Nat → Option Nat
 | [], _ => none
 | y :: ys, i => if y.map (·.toList) = x.map (·.toList) then some i else impl_MachineOf.pos x ys (i + 1)
theorem impl_MachineOf.pos_at (x : List ByteArray) : ∀ (l : List (List ByteArray)) (i j : Nat), impl_MachineOf.pos x l i = some j → ∃ q, j = i + q ∧ l[q]? = some x
 | [], _, _, h => by cases h
 | y :: ys, i, j, h => by
  rw [impl_MachineOf.pos] at h
  split at h
  ·rename_i e
   exact ⟨0, by simpa using (Option.some.inj h).symm, by rw [impl_MachineOf.map_inj e]; rfl⟩
  ·obtain ⟨q, e1, e2⟩ := impl_MachineOf.pos_at x ys (i + 1) j h
   exact ⟨q + 1, by omega, by simpa using e2⟩
/-- The loop that fills the map of places. -/
structure impl_MachineOf.Plc (wa W : World) (gp : Nat) (ss : List (ByteArray × Value × List ByteArray)) (x : Nat) : Prop where
 map : W.ownsMap Try.prog 9 impl_MachineOf.hR gp x (impl_MachineOf.D (impl_MachineOf.pl ss x))
 gr : wa.grownBy W (some gp)
theorem impl_MachineOf.owns_len {W : World} {g n m : Nat} {D : DataW Value} (h : W.ownsMap Try.prog 9 impl_MachineOf.hR g n D) (e : n = m) : W.ownsMap Try.prog 9 impl_MachineOf.hR g m D := e ▸ h
theorem impl_MachineOf.Plc.put {wa W W1 W2 : World} {gp : Nat} {ss : List (ByteArray × Value × List ByteArray)} {x : Nat} (h : impl_MachineOf.Plc wa W gp ss x) (hb : Below W.heap.size W W1) (hx : x < ss.length) (hm : W2.ownsMap Try.prog 9 impl_MachineOf.hR gp (x + 1) ((impl_MachineOf.D (impl_MachineOf.pl ss x)).put (.string ss[x].1.data.toList) (.held (.int .i64 (x : Int))))) (hg : W1.grownBy W2 (some gp)) :
  impl_MachineOf.Plc wa W2 gp ss (x + 1) :=
 ⟨by rw [impl_MachineOf.pl_succ ss x hx, impl_MachineOf.D_snoc]; exact hm, impl_MachineOf.grown_trans (impl_MachineOf.grown_trans h.gr (impl_MachineOf.gb hb _)) hg⟩
/-- The edges of a state. -/
def impl_MachineOf.oe (k : Nat) (ps : List (List ByteArray)) (l : List ByteArray) : List Int → List S49 → Option (List S49)
 | [], es => some es
 | c :: cs, es => (impl_behind.f k l c).bind fun x => if impl_MachineOf.okB x = true then (impl_MachineOf.pos x ps 0).bind fun j => impl_MachineOf.oe k ps l cs (es ++ [(⟨wrap64 c, (j : Int)⟩ : S49)]) else none
/-- The states. -/
def impl_MachineOf.os (k : Nat) (ps : List (List ByteArray)) : List (List ByteArray) → List S45 → Option (List S45)
 | [], out => some out
 | l :: ls, out => (impl_firstLetters.f k l).bind fun cs => if cs.length < 1000000 then (impl_MachineOf.oe k ps l cs []).bind fun es => impl_MachineOf.os k ps ls (out ++ [(⟨(rdOf ByteArray.empty l 0).toList.isEmpty, es⟩ : S45)]) else none
def impl_MachineOf.okA (k : Nat) (sn : List (ByteArray × List ByteArray)) : Bool := decide (0 < sn.length) && sn.all fun a => impl_MachineOf.okB a.2 && sn.all fun b => (impl_MachineOf.cmpF k a.2 b.2).isSome
/-- What is behind the search. -/
def impl_MachineOf.fin (k : Nat) (sn : List (ByteArray × List ByteArray)) : Option (List S45 × Bool) :=
 if sn.length < 1000000 then (if (sn.length : Int) > 400 then some ([], false) else if impl_MachineOf.okA k sn = true then (impl_MachineOf.os k ((sn.map (·.2)).mergeSort impl_MachineOf.le) ((sn.map (·.2)).mergeSort impl_MachineOf.le) []).bind fun out => some (out, true) else none) else none
def impl_MachineOf.f (k : Nat) (l0 : List ByteArray) : Option (List S45 × Bool) :=
 (impl_wordsOk.f k l0 300).bind fun t => if t = true then (if (l0.length : Int) = 0 then some ([(⟨false, []⟩ : S45)], true) else (impl_MachineOf.g k [] l0).bind fun sn => impl_MachineOf.fin k sn) else some ([], false)
theorem impl_MachineOf.okA_facts {k : Nat} {es : List (ByteArray × Value × List ByteArray)} (h : impl_MachineOf.okA k (es.map impl_MachineOf.two) = true) : es ≠ [] ∧ (∀ e ∈ es, impl_MachineOf.Ok e.2.2) ∧ ∀ a ∈ es, ∀ b ∈ es, (impl_MachineOf.cmpF k a.2.2 b.2.2).isSome = true := by
 simp only [impl_MachineOf.okA, Bool.and_eq_true, decide_eq_true_eq, List.all_eq_true] at h
 refine ⟨fun e => by simp [e] at h, fun e he => impl_MachineOf.okB_ok (h.2 _ (List.mem_map_of_mem he)).1, fun a ha b hb => (h.2 _ (List.mem_map_of_mem ha)).2 _ (List.mem_map_of_mem hb)⟩
theorem impl_MachineOf.lists_nodup {es : List (ByteArray × Value × List ByteArray)} (hn : (es.map (·.1)).Nodup) (hk : ∀ e ∈ es, e.1 = impl_MachineOf.jn e.2.2) : (es.map (·.2.2)).Nodup := by
 have h1 : es.map (·.1) = (es.map (·.2.2)).map impl_MachineOf.jn := by
  rw [List.map_map]
  exact List.map_congr_left hk
 rw [h1] at hn
 exact impl_MachineOf.nodup_of hn
def impl_MachineOf.T32 : Bool × List (List Nat × List Nat) := (true, [([], []), ([0], [0]), ([], []), ([2], [2]), ([], []), ([], []), ([], []), ([], []), ([6, 7], [6, 7]), ([5, 8, 8], [5, 8]), ([4, 9], [4, 9]), ([3, 10], [3, 10]), ([11], [11]), ([1, 12, 9], [1, 12]), ([0, 1, 2, 3, 4, 5, 6, 7, 8, 9, 10, 11, 12, 13], []), ([14, 13, 13, 0, 1, 2, 3, 4, 5, 6, 7, 8, 9, 10, 11, 12, 13], [13, 14])])
def impl_MachineOf.B32 : List Nat := [0, 1, 0, 4, 0, 0, 0, 0, 192, 480, 1008, 2044, 4092, 8191, 16383, 32767]
theorem impl_MachineOf.tab32 : rtab .any (opsOf Try.f9 32) = impl_MachineOf.T32 := by kernel_rfl
theorem impl_MachineOf.bits32 : waitsOk impl_MachineOf.T32.2 impl_MachineOf.B32 = true := by kernel_rfl
theorem impl_MachineOf.place {ss : List (ByteArray × Value × List ByteArray)} {ps : List (List ByteArray)} (hp : ss.map (·.2.2) = ps) (hn : (ss.map (·.1)).Nodup) (hk : ∀ e ∈ ss, e.1 = impl_MachineOf.jn e.2.2) {x : List ByteArray} {j : Nat} (h : impl_MachineOf.pos x ps 0 = some j) (z : DataW Value) :
  (impl_MachineOf.D (impl_MachineOf.pl ss ss.length)).atKey (.string (impl_MachineOf.jn x).data.toList) z = .held (.int .i64 (j : Int)) := by
 obtain ⟨q, rfl, hq⟩ := impl_MachineOf.pos_at x ps 0 j h; rw [← hp, List.getElem?_map] at hq; obtain ⟨e, he, hx⟩ := Option.map_eq_some_iff.1 hq; obtain ⟨hql, rfl⟩ := List.getElem?_eq_some_iff.1 he
 have h1 := impl_MachineOf.D_at (impl_MachineOf.pl ss ss.length) (by rw [impl_MachineOf.pl_keys, List.take_length]; exact hn) _ (impl_MachineOf.pl_mem ss q hql) z
 rw [hk _ (List.getElem_mem hql), hx] at h1
 rw [Nat.zero_add]
 exact h1
set_option maxHeartbeats 4000000 in
set_option maxRecDepth 100000 in
theorem impl_MachineOf.rest (k : Nat) (A0 : Option Addr) (c0 : Nat) (l0 : List ByteArray) (r1 : List S45) (r2 : Bool) (w : World) (hr0 : Kd.C Kd.string w A0 l0.length l0) (hc0 : l0.length ≤ c0) (h : impl_wordsOk.f k l0 300 = some true) (hn : ¬ (l0.length : Int) = 0) (sn : List (ByteArray × List ByteArray)) (hsn : impl_MachineOf.g k [] l0 = some sn) (hfin : impl_MachineOf.fin k sn = some (r1, r2)) :
  Calls Try.prog 9 #[.slice A0 l0.length c0] w fun e w' => ∃ v0_ : Value, e = .returned (.tuple #[v0_, .bool r2]) ∧ Kd.S k45 45 w' w.heap.size (fun _ => True) v0_ r1 ∧ Below w.heap.size w w' := by
 have HR0 := am hr0; have HC0 := am hc0; have A2 := am h
 have c5b0 : ((l0.length : Int) == 0) = false := by simpa using hn
 have HSN := am hsn
 unfold impl_MachineOf.fin at hfin
 by_cases hlen : sn.length < 1000000
 case neg =>
  rw [if_neg hlen] at hfin
  cases hfin
 rw [if_pos hlen] at hfin; have HLN := am hlen; have HFIN := am hfin; clear hr0 hc0 h hn hsn hlen hfin
 have hsf : ∀ (fn : Fn) (x y : Array Value) (w : World) (a : Addr) (m : Mode), (store a (.func fn x y) m).run Try.prog w = stored Try.prog w a (.func fn x y) m := fun fn x y w a m => run_store _ w a _ m rfl
 go_enter Try.func9, Try.ntmps9
 go_wp2_with (first
  | (go_at_call 26; refine (impl_wordsOk.calls k _ _ l0 300 true _ ?side1 ?side2 A2.out).mono ?_; (case side1 => exact HR0.out); (case side2 => exact HC0.out); rintro e w' ⟨rfl, ⟨nd, rfl⟩⟩)
  | ((with_reducible refine gate_dst (N := 23) rfl ?_); refine impl_MachineOf.mkm rfl 51 rfl ?_; intro gm hgm w1 hm1 hb1; have BM1 := am hm1; have HB1 := am (below_step (pw_below_drewN (Below.refl w.heap.size w) nd) hb1); have GM := am (show w.heap.size ≤ gm by rw [hgm]; exact Nat.le_refl _); clear hm1 hb1 hgm)
  | ((with_reducible refine gate_dst (N := 4) rfl ?_); refine bx 4 (cs := #[.map none]) (t := 51) ?_; intro gs hgs w2 hs2 hb2; have BM2 := am (blk_below BM1.out hb2); have BS2 := am hs2; have GS := am (show w.heap.size ≤ gs by rw [hgs]; exact below_size HB1.out); have HB2 := am (below_step HB1.out hb2); have NMS := am (show gm ≠ gs by rw [hgs]; exact Nat.ne_of_lt (blk_lt BM1.out)); have hcs2 := blk_cell BS2.out 0; have hfs2 := bf BS2.out 0; clear BM1 HB1 hs2 hb2 hgs)
  | (
    (with_reducible refine gate_dst (N := 5) rfl ?_); refine bx 5 (cs := #[.nilFunc]) (t := 53) ?_; intro gq hgk w3 hk3 hb3
    have BM3 := am (blk_below (impl_MachineOf.set_other BM2.out NMS.out) hb3); have BS3 := am (blk_below (blk_put (cs' := #[.map (some gm)]) BS2.out 0 (.map (some gm)) rfl) hb3); have BK3 := am hk3; have HB3 := am (below_step (below_set HB2.out GS.out) hb3)
    have NMK := am (show gm ≠ gq by rw [hgk]; exact Nat.ne_of_lt (blk_lt (impl_MachineOf.set_other BM2.out NMS.out))); have NSK := am (blk_ne BS3.out BK3.out (by decide)); have GK := am (show w.heap.size ≤ gq by rw [hgk]; exact below_size (below_set HB2.out GS.out)); have hck3 := blk_cell BK3.out 0; have hfk3 := bf BK3.out 0; clear BM2 BS2 HB2 hk3 hb3 hgk)
  | (
    (with_reducible refine gate_dst (N := 6) rfl ?_); refine bx 6 (cs := #[.nilFunc]) (t := 54) ?_; intro gg hgg w4 hg4 hb4
    have BM4 := am (blk_below (impl_MachineOf.set_other BM3.out NMK.out) hb4); have BS4 := am (blk_below (impl_MachineOf.set_other BS3.out NSK.out) hb4); have BK4 := am (blk_below (blk_put (cs' := #[.func (.func 27) #[] #[]]) BK3.out 0 (.func (.func 27) #[] #[]) rfl) hb4); have BG4 := am hg4; have HB4 := am (below_step (below_set HB3.out GK.out) hb4)
    have NMG := am (show gm ≠ gg by rw [hgg]; exact Nat.ne_of_lt (blk_lt (impl_MachineOf.set_other BM3.out NMK.out))); have NSG := am (blk_ne BS4.out BG4.out (by decide)); have NKG := am (blk_ne BK4.out BG4.out (by decide)); have GG := am (show w.heap.size ≤ gg by rw [hgg]; exact below_size (below_set HB3.out GK.out)); have hcg4 := blk_cell BG4.out 0; have hfg4 := bf BG4.out 0; clear BM3 BS3 BK3 HB3 hg4 hb4 hgg)
  | (
    (with_reducible refine gate_dst (N := 25) rfl ?_); refine impl_MachineOf.row0 rfl (e := 22) ?hr ?_; (case hr => first | (go_simp; done) | (go_simp; rfl)); intro g0 hg0 w5 h05 hb5
    have BM5 := am (blk_below (impl_MachineOf.set_other BM4.out NMG.out) hb5); have BS5 := am (blk_below (impl_MachineOf.set_other BS4.out NSG.out) hb5); have BK5 := am (blk_below (impl_MachineOf.set_other BK4.out NKG.out) hb5)
    have BG5 := am (blk_below (blk_put (cs' := #[.func (.func 29) #[] #[.pointer (some ⟨gs, 0, none⟩), .pointer (some ⟨gq, 0, none⟩), .pointer (some ⟨gg, 0, none⟩)]]) BG4.out 0 (.func (.func 29) #[] #[.pointer (some ⟨gs, 0, none⟩), .pointer (some ⟨gq, 0, none⟩), .pointer (some ⟨gg, 0, none⟩)]) rfl) hb5); have HB5 := am (below_step (below_set HB4.out GG.out) hb5); have B05 := am h05; have G0 := am (show w.heap.size ≤ g0 by rw [hg0]; exact below_size (below_set HB4.out GG.out)); have hcg5 := blk_cell BG5.out 0; clear BM4 BS4 BK4 BG4 HB4 h05 hb5 hg0)
  | (
    go_at_call 29; refine (impl_MachineOf.gath w gs gq gg gm k [] l0 sn A0 c0 _ ?s1 HC0.out ?s3 HSN.out).mono ?_; (case s1 => exact Kd.C_below HR0.out HB5.out); (case s3 => exact ⟨GS.out, GK.out, GG.out, GM.out, BS5.out, BK5.out, BG5.out, impl_MachineOf.owns0 BM5.out, by simp, by simp, by simp, HB5.out⟩); rintro e w6 ⟨rfl, es, hes, hS6, hg6⟩
    have HS6 := am hS6; have HES := am hes; have B06 := am (blk_grown B05.out hg6 (impl_MachineOf.ne_map BM5.out B05.out)); have hcs6 := blk_cell HS6.out.bs 0; clear hS6 hes hg6 hcs2 hfs2 hck3 hfk3 hcg4 hfg4 hcg5 BM5 BS5 BK5 BG5 HB5 B05 NMS NMK NSK NMG NSG NKG)
  | (at_range; refine wpList_range_own _ rfl _ 51 rfl 9 22 (Go.Maps.string_keyed Try.underlying9) Try.underlying51 impl_MachineOf.hR gm es.length _ rfl HS6.out.map ?_; intro w7 hrg7 hg7 hs7))
 go_frame
 have HN6 := am HS6.out.nod
 have HLE := am (show es.length < 1000000 by have := congrArg List.length HES.out; rw [List.length_map] at this; have := HLN.out; omega)
 have HR7 := am (impl_MachineOf.Rng.start (w0 := w) hrg7 hg7 B06.out G0.out); clear hrg7 hg7 hs7 hcs6; obtain ⟨i22, hi22, hz22⟩ := Option.map_eq_some_iff.1 info22
 simp only [Prod.mk.injEq] at hz22
 obtain ⟨hz22a, hz22b, hz22c⟩ := hz22
 go_loopg [7] (Go.Maps.size (impl_MachineOf.D es) + 1) (fun kq v7 W' => ∃ done left cnt, Aside0 (impl_MachineOf.Rng w w6 W' gm g0 es kq v7 done left cnt))
 case atStart => exact ⟨_, _, _, HR7⟩
 case round =>
  clear HR7; obtain ⟨done, left, cnt, HR⟩ := hrel
  cases gk with
  | zero => exact absurd HR.out.fu (by omega)
  | succ k1 =>
  go_wp2_with (first
   | (at_next; refine wpList_next_ranges _ rfl _ rfl 9 (Go.Maps.string_keyed Try.underlying9) impl_MachineOf.hR Value.string id (fun key kl hk => by obtain ⟨x, hx, _⟩ := impl_MachineOf.key_inv hk; exact ⟨x, hx⟩) (fun v y _ => ⟨v, rfl⟩) gm w6.heap.size es.length _ _ _ rfl HR.out.rg ?_ ?_))
  ·intro _ hl0; have HP := am (HR.out.end_ HN6.out hl0)
   have hdl : done.length = es.length := HP.out.length_eq
   have HDL := am hdl
   have HSNL := am (show es.length = sn.length by have := congrArg List.length HES.out; rwa [List.length_map] at this)
   by_cases c4 : (sn.length : Int) > 400
   ·have hf := HFIN.out; rw [if_pos c4] at hf
    simp only [Option.some.injEq, Prod.mk.injEq] at hf
    obtain ⟨rfl, rfl⟩ := hf
    have hc1 : decide ((done.length : Int) > 400) = true := decide_eq_true (by have := HSNL.out; omega)
    have hc2 : decide (400 < done.length) = true := decide_eq_true (by have := HSNL.out; omega)
    have HBW := am (HS6.out.below.grown HR.out.gr HS6.out.below.size (fun j hj => by cases hj; exact G0.out))
    have HOW := am HR.out.own
    rcases HR.out.row.2 with ⟨e0, _⟩ | ⟨g, cap, cur, e0, hbg, hg0, h1, h2, h3, h4⟩
    ·have := HOW.out
     rw [e0] at this
     simp [Value.ownBlock] at this
    subst e0; clear hg0 h1 h2 h3 h4 hbg HR hl0 c4 hdl
    go_wp2_with (first
     | ((with_reducible refine gate_dst (N := 48) rfl ?_); refine Kd.S_lit k45 _ 45 ?hg (N := 48) ?hd (xs := ([] : List S45)) (inner := []) (ok := fun _ => True) (okp := fun _ => True) ?hr ?hp (fun _ hk => hk) trivial (Below.refl _ _) (Nat.le_refl _) (by simp) ?_; (case hd => rfl); (case hg => rfl); (case hr => first | (go_simp; done) | (go_simp; rfl)); (case hp => exact (Reps.none _ _)); intro v48 w13 ho13 hb hg_ hnew_; clear hg_ hnew_; have HO := am (Kd.S_lower ho13 (below_size HBW.out)); replace HBW := am (below_step HBW.out hb); clear hb ho13))
    go_ret2
    exact ⟨_, rfl, HO.out, HBW.out⟩
   have hf := HFIN.out; rw [if_neg c4] at hf
   by_cases hok : impl_MachineOf.okA k sn = true
   case neg =>
    rw [if_neg hok] at hf
    cases hf
   rw [if_pos hok] at hf; obtain ⟨ps, hps⟩ : ∃ ps, ps = (sn.map (·.2)).mergeSort impl_MachineOf.le := ⟨_, rfl⟩; rw [← hps] at hf; obtain ⟨out0, hos, hf⟩ := Option.bind_eq_some_iff.1 hf
   simp only [Option.some.injEq, Prod.mk.injEq] at hf
   obtain ⟨hr1, rfl⟩ := hf; rw [hr1] at hos; clear hr1; have HOK := am hok; have HPS := am hps; have HOS := am hos
   have HL4 := am (show es.length ≤ 400 by have := HSNL.out; omega)
   clear hok hps hos c4; obtain ⟨hne6, hok6, hcm6⟩ := impl_MachineOf.okA_facts (es := es) (by rw [HES.out]; exact HOK.out); have HOK6 := am hok6; have HCM6 := am hcm6; have HNE6 := am hne6; have HOW := am HR.out.own; have HGR := am HR.out.gr
   rcases HR.out.row.2 with ⟨e0, _⟩ | ⟨g, cap, cur, e0, hbg, hg0, h1, h2, h3, h4⟩
   ·have := HOW.out
    rw [e0] at this
    simp [Value.ownBlock] at this
   subst e0; have HRW := am HR.out.row
   have HGW := am (show g = g0 ∨ w6.heap.size ≤ g by
    rcases HOW.out with e | ⟨b, e, hb⟩
    ·left
     simpa [Value.ownBlock] using e
    ·right
     have : g = b := by simpa [Value.ownBlock] using e
     omega)
   have HBW := am hbg; have HLS := am (show ∀ e ∈ es, ∀ W', w6.grownBy W' (some g0) → impl_MachineOf.Lst W' e.2.1 e.2.2 from fun e he W' hW' => (HS6.out.lst e he).far (hok6 e he).ne B06.out hW')
   have hc1 : decide ((done.length : Int) > 400) = false := decide_eq_false (by have := HL4.out; omega)
   have hc2 : decide (400 < done.length) = false := decide_eq_false (by have := HL4.out; omega)
   have HND := am (impl_MachineOf.lists_nodup HN6.out HS6.out.keys); clear hl0 HR hg0 h1 h2 h3 h4 hok6 hcm6 hne6 HOW hbg hdl
   go_wp2_with (first
    | (
      go_at_call 32; refine (impl_MachineOf.sortRow (k := k) HGR.out HGW.out HLS.out HND.out (fun e he => (HOK6.out e he).len) HCM6.out HP.out HNE6.out (by have := HLE.out; omega) HRW.out).mono ?_; rintro e w9 ⟨rfl, hg9, ss, hss, hord, hrow9⟩
      have HG9 := am (show w6.grownBy w9 (some g0) from HGR.out.andThen hg9 (fun j hj => by cases hj; rcases HGW.out with e | h; exact .inr (by rw [e]); exact .inl h))
      have HRD9 := am (show impl_MachineOf.Rd w9 ⟨g, 0, none⟩ gq ss from ⟨fun j hj => by
       have := hrow9.cellAt j (by have h1 := hss.length_eq; have h2 := HDL.out; omega)
       rw [List.getElem?_map, List.getElem?_eq_getElem hj] at this
       have e1 : (⟨g, 0, none⟩ : Addr).add j = ⟨g, j, none⟩ := by unfold Addr.add; split <;> simp_all
       rw [e1]
       simpa using this, fun e he => HLS.out e (hss.mem_iff.1 he) w9 HG9.out, blk_grown HS6.out.bk HG9.out (by
        intro e
        injection e with e
        have h1 := HS6.out.bk; rw [e, B06.out] at h1
        simp at h1)⟩)
      have HSS := am hss; have HSL := am (show ss.length = done.length from hss.length_eq.trans HDL.out.symm)
      have HORD := am (show ss.map (·.2.2) = ps by rw [hord, HPS.out, ← HES.out, List.map_map]; rfl)
      clear hg9 hss hord hrow9 HGR HGW HLS HRW)
    | (
      (with_reducible refine gate_dst (N := 51) rfl ?_); refine impl_MachineOf.mkm rfl 62 rfl ?_; intro gp hgp w10 hm10 hb10
      have BP := am hm10; have HRD := am (HRD9.out.below hb10); have HG10 := am (HG9.out.andThen (impl_MachineOf.gb hb10 none) (by simp)); have GP := am (show w6.heap.size ≤ gp by rw [hgp]; exact HG9.out.size); clear HRD9 HG9 hgp hm10 hb10))
   generalize had : (⟨g, 0, none⟩ : Addr) = ad at HRD ⊢; clear hc1 hc2
   have HNM := am (show ∀ j, some gp = some j → ∀ cs t z, w10.heap[j]? ≠ some (.cells cs t z) by
    intro j hj cs t z e
    injection hj with hj
    rw [← hj, BP.out] at e
    cases e)
   have HSN' := am (show (ss.map (·.1)).Nodup from (HSS.out.map (·.1)).nodup_iff.2 HN6.out)
   have HPL0 := am (show impl_MachineOf.Plc w10 w10 gp ss (0 : Int).toNat from ⟨impl_MachineOf.owns0 BP.out, ⟨rfl, rfl, rfl, Nat.le_refl _, fun _ _ _ => rfl⟩⟩)
   go_loopg [54] (ss.length + 1) (fun kq v54 W' => ∃ x : Int, v54 = .int .i64 x ∧ Aside0 (0 ≤ x ∧ x ≤ (ss.length : Int)) ∧ Aside0 (ss.length + 1 ≤ kq + x.toNat) ∧ Aside0 (impl_MachineOf.Plc w10 W' gp ss x.toNat))
   case atStart => exact ⟨0, rfl, ⟨by omega⟩, ⟨by omega⟩, HPL0⟩
   case round =>
    clear HPL0; obtain ⟨x, rfl, HX, HQ, HPL⟩ := hrel; have HRW := am (HRD.out.kept HPL.out.gr HNM.out); have hck := (blk_cell HRW.out.key 0).trans rfl
    by_cases c2 : x < (done.length : Int)
    ·have c2b0 := decide_eq_true c2
     have hxl : x.toNat < ss.length := by have := HX.out; have := HSL.out; omega
     obtain ⟨A, c, hva, hx0, hc, hC⟩ := HRW.out.at_ x.toNat hxl; have hme := List.getElem_mem hxl; generalize hge : ss[x.toNat] = e at hva hx0 hc hC hme
     have p1 : (0 ≤ x) = True := eq_true HX.out.1
     have q1 : (x < (done.length : Int)) = True := eq_true c2
     have hw : wrap64 (x + 1) = x + 1 := by have := HX.out; have := HSL.out; have := HLE.out; have := HDL.out; unfold wrap64; omega
     have HW := am hw; have C2 := Aside0.mk c2; have HC := am hC; have HCC := am hc; have HXL := am hxl; have HME := am hme
     cases gk with
     | zero => exact absurd HQ.out (by have := HX.out; have := HSL.out; omega)
     | succ k2 =>
     have HOE := am (HOK6.out e (HSS.out.mem_iff.1 hme)); have HKY := am (HS6.out.keys e (HSS.out.mem_iff.1 hme)); have HEX := am (show ∃ h : x.toNat < ss.length, ss[x.toNat] = e from ⟨HXL.out, hge⟩); clear hw c2 hC hc hva hxl hme hge
     go_wp2_with (first
      | (
        go_at_call 27
        refine (impl_MachineOf.keyc A c e.2.2 _ HC.out HCC.out HOE.out).mono ?_
        rintro e11 w11 ⟨rfl, hb11⟩
        obtain ⟨w12, hrun12, hm12, hg12⟩ := (HPL.out.map.kept (impl_MachineOf.gb hb11 none) (by simp)).update (Go.Maps.string_keyed Try.underlying9) Try.underlying62 (by have h1 := HX.out; have h2 := HSL.out; have h3 := HLE.out; have h4 := HDL.out; unfold maxLen; omega) (val := .int .i64 x) (d := .held (.int .i64 x)) (ps := []) (Go.WideMaps.keyOf_string_mk Try.underlying9 (impl_MachineOf.jn_len HOE.out)) rfl
        have HB11 := am hb11
        clear hb11))
     have HPL2 := am (show impl_MachineOf.Plc w10 w12 gp ss (x + 1).toNat by
      obtain ⟨h1, h2⟩ := HEX.out
      rw [show (x + 1).toNat = x.toNat + 1 by have := HX.out; omega]
      refine HPL.out.put HB11.out h1 ?_ hg12
      rw [h2, HKY.out, show ((x.toNat : Nat) : Int) = x by have := HX.out; omega]
      exact hm12)
     clear hrun12 hm12 hg12 HB11
     go_roundg k2
     case measure => omega
     case rel => exact ⟨wrap64 (x + 1), rfl, ⟨by rw [HW.out]; have := HX.out; have := C2.out; have := HSL.out; omega⟩, ⟨by rw [HW.out]; have := HQ.out; have := HX.out; omega⟩, ⟨by rw [HW.out]; exact HPL2.out⟩⟩
    have c2b0 := decide_eq_false c2
    have HXE := am (show x.toNat = ss.length by have := HX.out; have := HSL.out; omega)
    rw [HXE.out] at HPL; obtain ⟨wb, hwb⟩ : ∃ wb, wb = wr := ⟨_, rfl⟩; subst hwb; have HB := am (Below.refl wb.heap.size wb); clear c2 HX HQ hck; have hz45 := Try.underlying45; have hz49 := Try.underlying49
    go_wp2_with (first
     | ((with_reducible refine gate_dst (N := 65) rfl ?_); refine Kd.S_lit k45 _ 45 ?hg (N := 65) ?hd (xs := ([] : List S45)) (inner := []) (ok := fun _ => True) (okp := fun _ => True) ?hr ?hp (fun _ hk => hk) trivial (Below.refl _ _) (Nat.le_refl _) (by simp) ?_; (case hd => rfl); (case hg => rfl); (case hr => first | (go_simp; done) | (go_simp; rfl)); (case hp => exact (Reps.none _ _)); intro v65 w13 ho13 hb hg_ hnew_; clear hg_ hnew_; have HO := am ho13; replace HB := am (below_step HB.out hb); clear hb ho13))
    go_loopg [13, 68] (ss.length + 1) (fun kq v13 v68 W' => ∃ (x : Int) (out : List S45), v68 = .int .i64 x ∧ Aside0 (0 ≤ x ∧ x ≤ (ss.length : Int)) ∧ Aside0 (ss.length + 1 ≤ kq + x.toNat) ∧ Aside0 (impl_MachineOf.os k ps (ps.drop x.toNat) out = some r1) ∧ Aside0 (out.length ≤ x.toNat) ∧ Aside0 (Kd.S k45 45 W' wb.heap.size (fun _ => True) v13 out) ∧ Aside0 (Below wb.heap.size wb W'))
    case atStart => exact ⟨0, [], rfl, ⟨by omega⟩, ⟨by omega⟩, HOS, ⟨by simp⟩, HO, HB⟩
    case round =>
     clear HO HB HXE; obtain ⟨x, out, rfl, HX, HQ, HOS2, HOL, HO, HB⟩ := hrel
     by_cases c2 : x < (done.length : Int)
     ·have c2b0 := decide_eq_true c2
      have hxl : x.toNat < ss.length := by have := HX.out; have := HSL.out; omega
      obtain ⟨A, c, hva, hx0, hc, hC⟩ := HRW.out.at_ x.toNat hxl; replace hx0 := (HB.out.cell (World.block_lt_of_cell? wb _ hx0)).trans hx0; have hme := List.getElem_mem hxl
      have hdr : ps.drop x.toNat = ss[x.toNat].2.2 :: ps.drop (x + 1).toNat := by
       rw [← HORD.out, show (x + 1).toNat = x.toNat + 1 by have := HX.out; omega, List.drop_eq_getElem_cons (by simpa using hxl)]
       simp
      generalize hge : ss[x.toNat] = e at hva hx0 hc hC hme hdr
      have h1 := HOS2.out; rw [hdr, impl_MachineOf.os] at h1; obtain ⟨cs, hcs, h1⟩ := Option.bind_eq_some_iff.1 h1
      by_cases hcl : cs.length < 1000000
      case neg =>
       rw [if_neg hcl] at h1
       cases h1
      rw [if_pos hcl] at h1; obtain ⟨ees, hees, h1⟩ := Option.bind_eq_some_iff.1 h1; have hne := (HOK6.out e (HSS.out.mem_iff.1 hme)).ne
      have p0 : (0 : Int) ≤ 0 := by omega
      have q0 : (0 : Int) < (e.2.2.length : Int) := by omega
      obtain ⟨ad2, e2, hx2⟩ := Kd.at_string (Kd.C_below hC HB.out) 0 p0 q0; cases e2
      rw [show ((0 : Int)).toNat = 0 from rfl] at hx2; rw [Addr.add_zero'] at hx2
      have qi : (0 < e.2.2.length) = True := eq_true hne
      have p1 : (0 ≤ x) = True := eq_true HX.out.1
      have q1 : (x < (done.length : Int)) = True := eq_true c2
      have hw : wrap64 (x + 1) = x + 1 := by have := HX.out; have := HSL.out; have := HLE.out; have := HDL.out; unfold wrap64; omega
      have HW := am hw; have C2 := Aside0.mk c2; have HC := am hC; have HCC := am hc; have HCS0 := am hcs; have HCL := am hcl; have HEES := am hees; have HREST := am h1; replace p0 := eq_true p0; replace q0 := eq_true q0
      cases gk with
      | zero => exact absurd HQ.out (by have := HX.out; have := HSL.out; omega)
      | succ k1 =>
      clear hw c2 hC hc hva hxl hme hge hdr hcs hcl hees h1 hne HOS2
      go_wp2_with (first
       | ((with_reducible refine gate_dst (N := 76) rfl ?_); refine Kd.R_lit k49 _ 49 ?hg (N := 76) ?hd (xs := ([] : List S49)) (inner := []) (ok := fun _ => True) (okp := fun _ => True) ?hr ?hp (fun _ hk => hk) trivial (Below.refl _ _) (Nat.le_refl _) (by simp) ?_; (case hd => rfl); (case hg => rfl); (case hr => first | (go_simp; done) | (go_simp; rfl)); (case hp => exact (Reps.none _ _)); intro v76 w14 ho14 hb hg_ hnew_; clear hg_ hnew_; replace HO := am (Kd.S_elder' HO.out (Kd.R_base ho14) hb); have HE := am (Kd.R_lower ho14 (below_size HB.out)); replace HB := am (below_step HB.out hb); clear hb ho14; obtain ⟨Ao, co, eo⟩ := Kd.R_slice HE.out; subst eo)
       | (
         (with_reducible refine gate_dst (N := 16) rfl ?_); refine bx 16 (cs := #[.bool false, .slice none 0 0]) (t := 45) ?_; intro gb hgb w15 hbox hb
         replace HO := am (Kd.S_below (Kd.S_elderB HO.out gb (Nat.le_of_eq hgb.symm)) hb); replace HE := am (Kd.R_below HE.out hb); have BK := am hbox; have GE := am (show wb.heap.size ≤ gb by rw [hgb]; exact below_size HB.out); replace HB := am (below_step HB.out hb); have ⟨hcz0, hcz1, hfz0, hfz1⟩ := b2c BK.out; clear hb hbox hgb)
       | (
         go_at_call 30
         refine (impl_firstLetters.calls k (some ad2) c e.2.2 cs _ (Kd.C_below HC.out (below_set (below_set HB.out GE.out) GE.out)) HCC.out HCS0.out).mono ?_
         rintro e4 w16 ⟨v79, rfl, hR4, hb4⟩
         replace HO := am (Kd.S_below (Kd.S_mono (Kd.S_far (p := ⟨gb, 1, none⟩) (Kd.S_far (p := ⟨gb, 0, none⟩) (Kd.S_mono HO.out (fun k_ hk => (⟨hk, hk.2⟩ : _ ∧ k_ ≠ gb))) (fun _ hk => hk.2) (.bool ((rdOf ByteArray.empty e.2.2 0).toList.isEmpty))) (fun _ hk => hk.2) (.slice Ao ([] : List S49).length co)) (fun _ hk => (⟨hk.1.1.2, hk.1.2⟩ : _ ∧ _))) hb4)
         replace HE := am (Kd.R_below (Kd.R_mono (ok' := fun _ => True) (Kd.R_far (p := ⟨gb, 1, none⟩) (Kd.R_far (p := ⟨gb, 0, none⟩) (Kd.R_types HE.out BK.out (by decide)) (fun _ hk => hk.2) (.bool ((rdOf ByteArray.empty e.2.2 0).toList.isEmpty))) (fun _ hk => hk.2) (.slice Ao ([] : List S49).length co)) (fun _ hk => trivial)) hb4)
         have HCS := am (Kd.R_lower hR4 (below_size (below_set (below_set HB.out GE.out) GE.out))); replace BK := am (blk_below (blk_put (cs := #[.bool ((rdOf ByteArray.empty e.2.2 0).toList.isEmpty), .slice none 0 0]) (blk_put (cs := #[.bool false, .slice none 0 0]) BK.out 0 (.bool ((rdOf ByteArray.empty e.2.2 0).toList.isEmpty)) rfl) 1 (.slice Ao ([] : List S49).length co) rfl) hb4); replace HB := am (below_step (below_set (below_set HB.out GE.out) GE.out) hb4); obtain ⟨A79, c79, e79⟩ := Kd.R_slice HCS.out; subst e79
         clear hR4 hb4 hcz0 hcz1 hfz0 hfz1))
      go_loopg [81] (cs.length + 1) (fun kq v81 W' => ∃ (y : Int) (es : List S49) (u : Value), v81 = .int .i64 y ∧ Aside0 (0 ≤ y ∧ y ≤ (cs.length : Int)) ∧ Aside0 (cs.length + 1 ≤ kq + y.toNat) ∧ Aside0 (impl_MachineOf.oe k ps e.2.2 (cs.drop y.toNat) es = some ees) ∧ Aside0 (es.length ≤ y.toNat) ∧ Aside0 (Kd.S k45 45 W' wb.heap.size (fun k_ => some k_ ≠ u.ownBlock ∧ k_ ≠ gb) u13 out) ∧ Aside0 (Kd.R k49 49 W' wb.heap.size (fun _ => True) u es) ∧ Aside0 (W'.heap[gb]? = some (.cells #[.bool ((rdOf ByteArray.empty e.2.2 0).toList.isEmpty), u] 45 (0, 0))) ∧ Aside0 (Kd.R (Kd.int .u8) 5 W' wb.heap.size (fun _ => True) (.slice A79 cs.length c79) cs) ∧ Aside0 (Below wb.heap.size wb W'))
      case atStart => exact ⟨0, [], _, rfl, ⟨by omega⟩, ⟨by omega⟩, HEES, ⟨by simp⟩, HO, HE, BK, HCS, HB⟩
      case round =>
       clear HO HE BK HCS HB; obtain ⟨y, es2, u, rfl, HY, HQ2, HOE2, HL2, HO, HE, BK, HCS, HB⟩ := hrel; have hCs := (Kd.R_reads' HCS.out).2.2; have hmx := hCs.2.1
       by_cases c3 : y < (cs.length : Int)
       ·have c3b0 := decide_eq_true c3
        have p3 : 0 ≤ y := HY.out.1
        have q3 := c3; obtain ⟨ad3, e3, hx3⟩ := Kd.at_int hCs y p3 q3; have h1 := HOE2.out; rw [impl_MachineOf.drop_rd cs y p3 q3, impl_MachineOf.oe] at h1; obtain ⟨xs, hxs, h1⟩ := Option.bind_eq_some_iff.1 h1
        by_cases hox : impl_MachineOf.okB xs = true
        case neg =>
         rw [if_neg hox] at h1
         cases h1
        rw [if_pos hox] at h1; obtain ⟨j, hj, h1⟩ := Option.bind_eq_some_iff.1 h1; have HXS := am hxs; have HOX := am (impl_MachineOf.okB_ok hox); have HAT := am (impl_MachineOf.place HORD.out HSN'.out (fun e he => HS6.out.keys e (HSS.out.mem_iff.1 he)) hj); have HOE3 := am h1; have C3 := Aside0.mk c3
        have hw : wrap64 (y + 1) = y + 1 := by unfold wrap64; omega
        have HW2 := am hw; have HMX := am hmx
        cases gk with
        | zero => exact absurd HQ2.out (by have := HY.out; omega)
        | succ k2 =>
        clear hxs hox hj h1 c3 hw hmx hCs HOE2; cases e3; replace p3 := eq_true p3; replace q3 := eq_true q3
        go_upto_region 32 with (fail)
        replace HO := am (Kd.S_drew HO.out); replace HE := am (Kd.R_drew HE.out); replace BK := am (blk_drew BK.out); replace HCS := am (Kd.R_drew HCS.out); replace HB := am (below_drew1 HB.out)
        refine start_ (n := 16) (S := fun w' => w'.cell? ⟨gb, 0, none⟩ = some (.bool ((rdOf ByteArray.empty e.2.2 0).toList.isEmpty)) ∧ w'.cell? ⟨gb, 1, none⟩ = some u ∧ w'.cell? ⟨gq, 0, none⟩ = some (.func (.func 27) #[] #[])) (ds := [15]) #[false, false, false, false, false, false, false, false, false, false, false, false, false, false, false, false] (by kernel_rfl) rfl rfl ⟨bd BK.out 0, bd BK.out 1, (blk_cell (HRW.out.below HB.out).key 0).trans rfl⟩ (fun hHeld => ?_); refine with_tabW impl_MachineOf.tab32 impl_MachineOf.bits32 (fun HT_ HW_ => ?_)
        generalize wr.drew = w20 at HO HE BK HCS HB hHeld ⊢; refine pu 0 85 ?_; refine pu 2 87 ?_; refine pu 3 88 ?_; refine pu 4 89 ?_; refine pu 6 91 ?_; refine pu 7 92 ?_; refine tk3 1 86 hHeld ?_; refine tk3 5 90 hHeld ?_; refine on1 8 93 (fun K hK => ?_)
        refine goes_ Try.func31 (by kernel_rfl) rfl #[.slice (some ad2) e.2.2.length c, .int .u8 (rd cs y)] (by rfl) rfl rfl b2_ ?_
        refine (impl_behind.calls k (some ad2) c e.2.2 (rd cs y) xs _ (Kd.C_below HC.out HB.out) HCC.out HXS.out).mono ?_
        rintro e5 w21 ⟨v93, rfl, hR5, hb5⟩
        obtain ⟨A93, c93, e93, hc93, hC93⟩ := Kd.R_reads hR5; subst e93; replace HO := am (Kd.S_below HO.out hb5); replace HE := am (Kd.R_below HE.out hb5); replace BK := am (blk_below BK.out hb5); replace HCS := am (Kd.R_below HCS.out hb5); replace HB := am (below_step HB.out hb5); have HC93 := am hC93; have HCC93 := am hc93; clear hR5 hb5 hC93 hc93; refine ⟨_, rfl, ?_⟩; refine hK.out _ _ ⟨bd BK.out 0, bd BK.out 1, (blk_cell (HRW.out.below HB.out).key 0).trans rfl⟩ (fun hHeld => ?_); clear hK K; refine nm 93 ?_; refine on1 9 94 (fun K hK => ?_)
        refine call_ 27 #[.slice A93 xs.length c93] (by rfl) rfl b42_ ?_
        refine (impl_MachineOf.keyc A93 c93 xs _ HC93.out HCC93.out HOX.out).mono ?_
        rintro e6 w22 ⟨rfl, hb6⟩
        replace HO := am (Kd.S_below HO.out hb6); replace HE := am (Kd.R_below HE.out hb6); replace BK := am (blk_below BK.out hb6); replace HCS := am (Kd.R_below HCS.out hb6); replace HB := am (below_step HB.out hb6); clear hb6 HC93 HCC93; refine ⟨_, rfl, ?_⟩; refine hK.out _ _ ⟨bd BK.out 0, bd BK.out 1, (blk_cell (HRW.out.below HB.out).key 0).trans rfl⟩ (fun hHeld => ?_); clear hK K; refine nm 94 ?_; obtain ⟨v95, ps95, hrun95, hv95⟩ := (HPL.out.map.kept (impl_MachineOf.gb HB.out none) (by simp)).lookup (Go.Maps.string_keyed Try.underlying9) Try.underlying62 (z := .int .i64 0) (by rfl) (zd := .held (.int .i64 0)) (zp := []) rfl (Go.WideMaps.keyOf_string_mk Try.underlying9 (impl_MachineOf.jn_len HOX.out))
        have ev95 : v95 = .int .i64 (j : Int) := by
         rw [HAT.out] at hv95
         have hv' : some ((.held v95 : DataW Value), ([] : List MemPlace)) = some (.held (.int .i64 (j : Int)), ps95) := hv95
         injection hv' with hv'
         injection hv' with hv' _
         injection hv'
        subst ev95; refine on1 10 95 (fun K hK => ?_)
        refine value_ (w1 := w22) (v := .int .i64 (j : Int)) (by rfl) rfl (by simp [execOp, Act.eval, hrun95, Result.andThen]) ?_
        refine hK.out _ _ hHeld (fun hHeld => ?_); clear hK K; refine nm 95 ?_; clear hrun95 hv95; refine pu 11 96 ?_; refine on1 12 97 (fun K hK => ?_)
        refine value_ (w1 := ?_) (v := ?_) (by rfl) rfl ?_ ?_
        rotate_left 2
        ·go_simp
         constructor
         ·rfl
         ·rfl
        refine hK.out _ _ ⟨bd (blk_alloc BK.out _) 0, bd (blk_alloc BK.out _) 1, (blk_cell (blk_alloc (HRW.out.below HB.out).key _) 0).trans rfl⟩ (fun hHeld => ?_); clear hK K; refine nm 97 ?_; refine on1 13 98 (fun K hK => ?_)
        refine Kd.R_append_step k49 (w0 := wb) wb.heap.size (by rfl) (.tmp 86) (.tmp 97) 43 49 (.agg #[(.int .i64 0), (.int .i64 0)]) 16 rfl Try.underlying43 info49 rfl (by decide) (by omega) u es2 (⟨wrap64 (rd cs y), (j : Int)⟩ : S49) [.int .i64 (wrap64 (rd cs y)), .int .i64 (j : Int)] (fun _ => True) (fun _ => False) rfl rfl ?aP (fun _ hk => hk.elim) ?aF ?aO ?aB ?aS ?aL ?_
        (case aP => exact k49_mkM _ _ _ (⟨wrap64 (rd cs y), (j : Int)⟩ : S49)); (case aB => exact HB.out); (case aF => exact (fun _ _ => trivial)); (case aO => exact HE.out); (case aS => exact below_size HB.out); (case aL => have h1 := HL2.out; have h2 := HY.out; have h3 := HCL.out; omega); intro v98 w23 ho hb hg hat; replace HO := am (Kd.S_after (ok := (fun k_ => k_ ≠ gb)) (Kd.S_mono HO.out (fun _ hk => ⟨hk.2, hk.1⟩)) hg hat)
        replace BK := am (blk_grown (g := gb) BK.out hg (Kd.R_ne HE.out BK.out (by decide))); replace HCS := am (Kd.R_over' HCS.out (Kd.R_typed HE.out) (by decide) hg); replace HB := am hb; replace HE := am ho; clear ho hb hg hat; obtain ⟨Ao3, co3, eo3⟩ := Kd.R_slice HE.out; subst eo3; refine hK.out _ _ ⟨bd BK.out 0, bd BK.out 1, (blk_cell (HRW.out.below HB.out).key 0).trans rfl⟩ (fun hHeld => ?_); clear hK K; refine nm 98 ?_; refine pu 14 99 ?_
        refine last_ (i := 15) (N := none) #[true, true, true, true, true, true, true, true, true, true, true, true, true, true, true, true] rfl rfl (one_of HT_.out (by kernel_rfl)) (by decide) (fun K hK => ?_)
        have hs35 : w23.cell? ⟨gb, 1, none⟩ = some u := bd BK.out 1
        have hfs35 := bf BK.out 1
        refine skip_ (w1 := ?_) (by rfl) rfl ?_ ?_
        rotate_left
        ·go_simp
         rfl
        refine hK.out _ _ ?_; clear hK K
        refine done_ (done_of HT_.out (by kernel_rfl)) ?_
        clear hs35 hfs35 hHeld hx3; go_wp2
        go_roundg k2
        case measure => omega
        case rel => exact ⟨wrap64 (y + 1), es2 ++ [(⟨wrap64 (rd cs y), (j : Int)⟩ : S49)], _, rfl, ⟨by rw [HW2.out]; have := HY.out; have := C3.out; omega⟩, ⟨by rw [HW2.out]; have := HQ2.out; have := HY.out; omega⟩, ⟨by rw [HW2.out]; exact HOE3.out⟩, ⟨by rw [HW2.out]; have := HL2.out; have := HY.out; simp; omega⟩, ⟨Kd.S_mono (Kd.S_far (p := ⟨gb, 1, none⟩) (Kd.S_mono HO.out (fun k_ hk => (⟨hk, hk.1⟩ : _ ∧ k_ ≠ gb))) (fun _ hk => hk.2) _) (fun _ hk => ⟨hk.1.2, hk.1.1⟩)⟩, ⟨Kd.R_mono (Kd.R_far (p := ⟨gb, 1, none⟩) (Kd.R_types HE.out BK.out (by decide)) (fun _ hk => hk.2) _) (fun _ hk => trivial)⟩, ⟨blk_put (cs := #[.bool ((rdOf ByteArray.empty e.2.2 0).toList.isEmpty), u]) BK.out 1 _ (by simp)⟩, ⟨Kd.R_mono (Kd.R_far (p := ⟨gb, 1, none⟩) (Kd.R_types HCS.out BK.out (by decide)) (fun _ hk => hk.2) _) (fun _ hk => trivial)⟩, ⟨below_set HB.out GE.out⟩⟩
       have c3b0 := decide_eq_false c3; have h1 := HOE2.out
       rw [List.drop_eq_nil_of_le (by have := HY.out; omega), impl_MachineOf.oe] at h1
       obtain rfl := Option.some.inj h1
       have HOLX := am (show out.length < 4398046511104 by have h2 := HOL.out; have h3 := HX.out; have h4 := HSL.out; have h5 := HLE.out; have h6 := HDL.out; omega)
       clear h1 c3 hmx hCs HOE2; have ⟨hcz0, hcz1, hfz0, hfz1⟩ := b2c BK.out; obtain ⟨Ao4, co4, eo4⟩ := Kd.R_slice HE.out; subst eo4
       go_wp2_with (first
        | (
          (with_reducible refine gate_dst (N := 104) rfl ?_); at_builtin; refine Kd.S_append k45 (w0 := wb) wb.heap.size rfl (.tmp 101) (.tmp 103) 24 45 (.agg #[(.bool false), (.slice none 0 0)]) 32 rfl Try.underlying24 info45 rfl (by decide) (by omega) u13 out (⟨((rdOf ByteArray.empty e.2.2 0).toList.isEmpty), es2⟩ : S45) [.bool ((rdOf ByteArray.empty e.2.2 0).toList.isEmpty), .slice Ao4 es2.length co4] (fun k_ => k_ ≠ gb) (fun k_ => some k_ = (.slice Ao4 es2.length co4 : Value).ownBlock) rfl rfl ?aP (fun k_ hk_ => ((Kd.R_mono (ok' := fun k_ => ((fun k_ => k_ ≠ gb)) k_ ∧ some k_ ≠ (u13 : Value).ownBlock) (Kd.R_types (Kd.R_apart' (HE.out) (Kd.S_typed HO.out) (by decide)) BK.out (by decide)) (fun k_ hk => ⟨hk.2, hk.1.2⟩))).1 k_ hk_.symm) ?aF ?aO ?aB ?aS ?aL ?_
          (case aP => exact k45_mkM _ _ _ (⟨((rdOf ByteArray.empty e.2.2 0).toList.isEmpty), es2⟩ : S45) (Kd.R_mono (Kd.R_tight rfl (Kd.R_mono (ok' := fun k_ => ((fun k_ => k_ ≠ gb)) k_ ∧ some k_ ≠ (u13 : Value).ownBlock) (Kd.R_types (Kd.R_apart' (HE.out) (Kd.S_typed HO.out) (by decide)) BK.out (by decide)) (fun k_ hk => ⟨hk.2, hk.1.2⟩))) (fun _ h_ => h_))); (case aB => exact HB.out); (case aF => exact (fun k_ hk => Kd.freshB (g := gb) BK.out k_ hk)); (case aO => exact Kd.S_mono HO.out (fun k_ hk => ⟨hk.2, fun e_ => hk.1 e_⟩)); (case aS => exact below_size HB.out); (case aL => have := HOLX.out; omega); intro v104 w24 ho hb hg hat; replace HO := am ho; replace HB := am hb
          clear ho hb hg hat BK HE HCS))
       go_roundg k1
       case measure => omega
       case rel => exact ⟨wrap64 (x + 1), out ++ [(⟨((rdOf ByteArray.empty e.2.2 0).toList.isEmpty), es2⟩ : S45)], rfl, ⟨by rw [HW.out]; have := HX.out; have := C2.out; have := HSL.out; omega⟩, ⟨by rw [HW.out]; have := HQ.out; have := HX.out; omega⟩, ⟨by rw [HW.out]; exact HREST.out⟩, ⟨by rw [HW.out]; have := HOL.out; have := HX.out; simp; omega⟩, ⟨Kd.S_mono HO.out (fun _ hk => trivial)⟩, HB⟩
     have c2b0 := decide_eq_false c2; have h1 := HOS2.out
     rw [List.drop_eq_nil_of_le (by rw [← HORD.out, List.length_map]; have := HX.out; have := HSL.out; omega), impl_MachineOf.os] at h1
     obtain rfl := Option.some.inj h1
     have HBW2 := am (show Below w.heap.size w wb from (HS6.out.below.grown HG10.out HS6.out.below.size (fun j hj => by cases hj; exact G0.out)).grown HPL.out.gr (by have h1 := HS6.out.below.size; have h2 := HG10.out.size; omega) (fun j hj => by cases hj; have h1 := HS6.out.below.size; have h2 := GP.out; omega))
     clear h1 c2 HOS2; go_wp2
     go_ret2
     exact ⟨_, rfl, Kd.S_lower HO.out (below_size HBW2.out), below_step HBW2.out HB.out⟩
  ·intro x c kl y y2 w8 cnt8 hkey hlk hv hat hrg8 hlt8 hg8 hs8 hen; obtain ⟨_, hxe, rfl⟩ := impl_MachineOf.key_inv hkey
   cases hxe; obtain ⟨hx, hxd⟩ := (HR.out.lf x).1 hlk; obtain ⟨e, he, hex⟩ := List.mem_map.1 hx
   have hyc : y = .held c := by
    have hv' : some ((.held c : DataW Value), ([] : List MemPlace)) = some (y, y2) := hv
    injection hv' with hv'
    injection hv' with hv' _
    exact hv'.symm
   have hce : c = e.2.1 := by
    have h0 := impl_MachineOf.D_at es HN6.out e he (.held c); rw [hex] at h0; have h1 := (hat (.held c)).symm.trans h0; rw [hyc] at h1
    injection h1
   obtain ⟨A, cc, hva, _⟩ := HS6.out.lst e he
   have hcv : c = .slice A e.2.2.length cc := hce.trans hva
   subst hcv; clear hce hva hx hxd hex; have HROW8 := am (HR.out.row.kept hg8 (.inr (impl_MachineOf.row_ne_iter HR.out.row HR.out.rg).symm)); have HAT := am (show ∀ zd, (impl_MachineOf.D es).atKey (.string x.data.toList) zd = .held (.slice A e.2.2.length cc) from fun zd => (hat zd).trans hyc); have HLK := am hlk; have HRG8 := am hrg8; have HLT8 := am hlt8; have HG8 := am hg8
   have HB8 := am (show w.heap.size ≤ w8.heap.size by have h1 := HS6.out.below.size; have h2 := HR.out.gr.size; have h3 := hg8.size; omega)
   have HDE := am (show done.length < 1000000 by have h1 := impl_MachineOf.len_le done es (impl_MachineOf.nodup_of HR.out.nod) HR.out.sub; have := HLE.out; omega)
   clear hkey hlk hv hat hrg8 hlt8 hg8 hs8 hyc
   go_wp2_with (first
    | ((with_reducible refine gate_dst (N := 44) rfl ?_); refine wpList_append_own_at _ rfl (.tmp 41) (.tmp 43) 41 rfl w.heap.size 22 i22 (.slice none 0 0) 1 24 Try.underlying41 hi22 hz22a hz22b hz22c rfl (by decide) _ _ _ rfl (HROW8.out.alloc _) ⟨w8.heap.size, 0, none⟩ 1 1 [.slice A e.2.2.length cc] rfl rfl (cell_one_new _ _ _) (by simp [Value.oneCell']) (by have := HDE.out; unfold maxLen; omega) (by have := HDE.out; omega) (by have := HB8.out; simp; omega) ?_; intro v' w9 hown9 hg9 hnil9 hat9; go_frame))
   obtain ⟨done', HR9⟩ := HR.out.push (k1 := k1) HN6.out HLK.out HAT.out HRG8.out HG8.out hown9 hg9 hat9 (by have := HR.out.fu; have := HLT8.out; omega)
   go_roundg k1
   case measure => omega
   case rel => exact ⟨done', _, _, ⟨HR9⟩⟩
set_option maxHeartbeats 4000000 in
set_option maxRecDepth 100000 in
theorem impl_MachineOf.calls (k : Nat) (A0 : Option Addr) (c0 : Nat) (l0 : List ByteArray) (r1 : List S45) (r2 : Bool) (w : World) (hr0 : Kd.C Kd.string w A0 l0.length l0) (hc0 : l0.length ≤ c0) (h : impl_MachineOf.f k l0 = some (r1, r2)) :
  Calls Try.prog 9 #[.slice A0 l0.length c0] w fun e w' => ∃ v0_ : Value, e = .returned (.tuple #[v0_, .bool r2]) ∧ Kd.S k45 45 w' w.heap.size (fun _ => True) v0_ r1 ∧ Below w.heap.size w w' := by
 unfold impl_MachineOf.f at h
 obtain ⟨t, ht, h⟩ := Option.bind_eq_some_iff.1 h
 cases t with
 | true =>
  rw [if_pos rfl] at h
  by_cases hn : (l0.length : Int) = 0
  case neg =>
   rw [if_neg hn] at h; obtain ⟨sn, hsn, h⟩ := Option.bind_eq_some_iff.1 h
   exact impl_MachineOf.rest k A0 c0 l0 r1 r2 w hr0 hc0 ht hn sn hsn h
  rw [if_pos hn] at h
  simp only [Option.some.injEq, Prod.mk.injEq] at h
  obtain ⟨rfl, rfl⟩ := h; have HR0 := am hr0; have HC0 := am hc0; have A2 := am ht
  have c5b0 : ((l0.length : Int) == 0) = true := by simpa using hn
  clear hr0 hc0 ht hn
  have hsf : ∀ (fn : Fn) (x y : Array Value) (w : World) (a : Addr) (m : Mode), (store a (.func fn x y) m).run Try.prog w = stored Try.prog w a (.func fn x y) m := fun fn x y w a m => run_store _ w a _ m rfl
  go_enter Try.func9, Try.ntmps9
  go_wp2_with (first
   | (go_at_call 26; refine (impl_wordsOk.calls k _ _ l0 300 true _ ?side1 ?side2 A2.out).mono ?_; (case side1 => exact HR0.out); (case side2 => exact HC0.out); rintro e w' ⟨rfl, ⟨nd, rfl⟩⟩)
   | ((with_reducible refine gate_dst (N := 23) rfl ?_); refine impl_MachineOf.mkm rfl 51 rfl ?_; intro gm hgm w1 hm1 hb1; have HB1 := am (below_step (pw_below_drewN (Below.refl w.heap.size w) nd) hb1); clear hm1 hb1 hgm)
   | ((with_reducible refine gate_dst (N := 4) rfl ?_); refine bx 4 (cs := #[.map none]) (t := 51) ?_; intro gs hgs w2 hs2 hb2; have BS2 := am hs2; have GS := am (show w.heap.size ≤ gs by rw [hgs]; exact below_size HB1.out); have HB2 := am (below_step HB1.out hb2); have hcs2 := blk_cell BS2.out 0; have hfs2 := bf BS2.out 0; clear HB1 hs2 hb2 hgs)
   | (
     (with_reducible refine gate_dst (N := 5) rfl ?_); refine bx 5 (cs := #[.nilFunc]) (t := 53) ?_; intro gq hgk w3 hk3 hb3
     have BK3 := am hk3; have HB3 := am (below_step (below_set HB2.out GS.out) hb3)
     have GK := am (show w.heap.size ≤ gq by rw [hgk]; exact below_size (below_set HB2.out GS.out)); have hck3 := blk_cell BK3.out 0; have hfk3 := bf BK3.out 0; clear BS2 HB2 hk3 hb3 hgk)
   | (
     (with_reducible refine gate_dst (N := 6) rfl ?_); refine bx 6 (cs := #[.nilFunc]) (t := 54) ?_; intro gg hgg w4 hg4 hb4
     have BG4 := am hg4; have HB4 := am (below_step (below_set HB3.out GK.out) hb4)
     have GG := am (show w.heap.size ≤ gg by rw [hgg]; exact below_size (below_set HB3.out GK.out)); have hcg4 := blk_cell BG4.out 0; have hfg4 := bf BG4.out 0; clear BK3 HB3 hg4 hb4 hgg)
   | (
     (with_reducible refine gate_dst (N := 25) rfl ?_); refine impl_MachineOf.row0 rfl (e := 22) ?hr ?_; (case hr => first | (go_simp; done) | (go_simp; rfl)); intro g0 hg0 w5 h05 hb5
     have HB5 := am (below_step (below_set HB4.out GG.out) hb5); clear BG4 HB4 h05 hb5 hg0)
   | ((with_reducible refine gate_dst (N := 29) rfl ?_); refine Kd.R_lit k49 _ 49 ?hg (N := 29) ?hd (xs := ([] : List S49)) (inner := []) (ok := fun _ => True) (okp := fun _ => True) ?hr ?hp (fun _ hk => hk) trivial (Below.refl _ _) (Nat.le_refl _) (by simp) ?_; (case hd => rfl); (case hg => rfl); (case hr => first | (go_simp; done) | (go_simp; rfl)); (case hp => exact (Reps.none _ _)); intro v29 w14 ho14 hb hg_ hnew_; clear hg_ hnew_; have HE := am (Kd.R_lower ho14 (below_size HB5.out)); replace HB5 := am (below_step HB5.out hb); clear hb ho14; obtain ⟨Ao, co, eo⟩ := Kd.R_slice HE.out; subst eo)
   | (
     (with_reducible refine gate_dst (N := 31) rfl ?_); refine Kd.S_lits k45 w.heap.size 45 ?hg (N := 31) ?hd (xs := ([(⟨false, []⟩ : S45)] : List S45)) (inner := [.bool false, .slice Ao ([] : List S49).length co]) (ok := fun _ => True) (fun j _ => j = 0) ?hr rfl ?hp (fun i j k h1 h2 => h1.trans h2.symm) (fun _ _ _ => trivial) trivial HB5.out (below_size HB5.out) (by simp) ?_; (case hd => rfl); (case hg => rfl); (case hr => first | (go_simp; done) | (go_simp; rfl))
     (case hp =>
      intro j x hj
      have hj0 : j = 0 := by
       rcases j with _ | j
       ·rfl
       ·simp at hj
      subst hj0
      obtain rfl : (⟨false, []⟩ : S45) = x := by simpa using hj
      exact k45_mkM _ _ _ (⟨false, []⟩ : S45) (Kd.R_mono HE.out (fun _ _ => rfl)))
     intro v31 w15 ho15 hb hg_ hnew_; clear hg_ hnew_; have HO := am ho15; replace HB5 := am hb; clear hb ho15))
  go_ret2
  exact ⟨_, rfl, HO.out, HB5.out⟩
 | false =>
  rw [if_neg (by simp)] at h
  simp only [Option.some.injEq, Prod.mk.injEq] at h
  obtain ⟨rfl, rfl⟩ := h; have HR0 := am hr0; have HC0 := am hc0; have A2 := am ht; have HB := am (Below.refl w.heap.size w); clear hr0 hc0 ht; go_enter Try.func9, Try.ntmps9
  go_wp2_with (first
   | (go_at_call 26; refine (impl_wordsOk.calls k _ _ l0 300 false _ ?side1 ?side2 A2.out).mono ?_; (case side1 => exact HR0.out); (case side2 => exact HC0.out); rintro e w' ⟨rfl, ⟨nd, rfl⟩⟩; replace HB := am (pw_below_drewN HB.out nd))
   | ((with_reducible refine gate_dst (N := 22) rfl ?_); refine Kd.S_lit k45 _ 45 ?hg (N := 22) ?hd (xs := ([] : List S45)) (inner := []) (ok := fun _ => True) (okp := fun _ => True) ?hr ?hp (fun _ hk => hk) trivial (Below.refl _ _) (Nat.le_refl _) (by simp) ?_; (case hd => rfl); (case hg => rfl); (case hr => first | (go_simp; done) | (go_simp; rfl)); (case hp => exact (Reps.none _ _)); intro v22 w13 ho13 hb hg_ hnew_; clear hg_ hnew_; have HO := am (Kd.S_lower ho13 (below_size HB.out)); replace HB := am (below_step HB.out hb); clear hb ho13))
  go_ret2
  exact ⟨_, rfl, HO.out, HB.out⟩
-- shrunk

/-! ### laws_eqEdge: function 79 -/
def laws_eqEdge.f (a0_0 : Int) (a0_1 : Int) (a1_0 : Int) (a1_1 : Int) : Option (Bool) := if a0_0 = a1_0 then (if a0_1 = a1_1 then (some true) else (some false)) else (some false)
theorem laws_eqEdge.calls (a0_0 : Int) (a0_1 : Int) (a1_0 : Int) (a1_1 : Int) (r : Bool) (w : World) (h : laws_eqEdge.f a0_0 a0_1 a1_0 a1_1 = some r) :
  Calls Try.prog 79 #[.agg #[.int .i64 a0_0, .int .i64 a0_1], .agg #[.int .i64 a1_0, .int .i64 a1_1]] w fun e w' => e = .returned (.bool r) ∧ Below w.heap.size w w' := by
 have hu49 := Try.underlying49; have HB := am (Below.refl w.heap.size w)
 have H : (if a0_0 = a1_0 then (if a0_1 = a1_1 then (some true) else (some false)) else (some false)) = some r := h
 clear h
 by_cases c3 : a0_0 = a1_0
 ·rw [if_pos c3] at H
  have c3b0 : (a0_0 == a1_0) = true := beq_iff_eq.mpr c3
  have c3b1 : (a0_0 != a1_0) = false := bne_eq_false_iff_eq.mpr c3
  clear c3
  by_cases c4 : a0_1 = a1_1
  ·rw [if_pos c4] at H
   have c4b0 : (a0_1 == a1_1) = true := beq_iff_eq.mpr c4
   have c4b1 : (a0_1 != a1_1) = false := bne_eq_false_iff_eq.mpr c4
   clear c4; obtain rfl := Option.some.inj H; go_enter Try.func79, Try.ntmps79
   go_wp2_with (first | ((with_reducible refine gate_dst (N := 2) rfl ?_); refine bx 2 (cs := #[.int .i64 a0_0, .int .i64 a0_1]) (t := 49) ?_; intro gb249 hg w5 hbox hb; have BK249 := am (hbox); have GW249 := am ((b19_ : w.heap.size ≤ gb249)); have GE249 := am ((b19_ : w.heap.size ≤ gb249)); replace HB := am (below_step bel hb); clear hb hbox hg) | ((with_reducible refine gate_dst (N := 3) rfl ?_); refine bx 3 (cs := #[.int .i64 a1_0, .int .i64 a1_1]) (t := 49) ?_; intro gb250 hg w6 hbox hb; have BK250 := am (hbox); have GW250 := am ((b40_ : w.heap.size ≤ gb250)); have GE250 := am ((b40_ : w.heap.size ≤ gb250)); replace HB := am (below_step (bel1 GE249.out) hb); have NB249_250 := am ((b26_ : gb249 ≠ gb250)); have NB250_249 := am ((b27_ : gb250 ≠ gb249)); replace BK249 := am (blk_below (bq BK249.out) hb); clear hb hbox hg; have hnb7 := NB249_250.out; have hnc7 := NB250_249.out; have ⟨hcz8_0, hcz8_1, hfz8_0, hfz8_1⟩ := b2c BK249.out; have ⟨hcz9_0, hcz9_1, hfz9_0, hfz9_1⟩ := b2c BK250.out))
   go_ret
   exact ⟨eq_, bel2 GE249.out GE250.out⟩
  rw [if_neg c4] at H
  have c4b0 : (a0_1 == a1_1) = false := beq_eq_false_iff_ne.mpr c4
  have c4b1 : (a0_1 != a1_1) = true := bne_iff_ne.mpr c4
  obtain rfl := Option.some.inj H; go_enter Try.func79, Try.ntmps79
  go_wp2_with (first | ((with_reducible refine gate_dst (N := 2) rfl ?_); refine bx 2 (cs := #[.int .i64 a0_0, .int .i64 a0_1]) (t := 49) ?_; intro gb249 hg w10 hbox hb; have BK249 := am (hbox); have GW249 := am ((b19_ : w.heap.size ≤ gb249)); have GE249 := am ((b19_ : w.heap.size ≤ gb249)); replace HB := am (below_step bel hb); clear hb hbox hg) | ((with_reducible refine gate_dst (N := 3) rfl ?_); refine bx 3 (cs := #[.int .i64 a1_0, .int .i64 a1_1]) (t := 49) ?_; intro gb250 hg w11 hbox hb; have BK250 := am (hbox); have GW250 := am ((b40_ : w.heap.size ≤ gb250)); have GE250 := am ((b40_ : w.heap.size ≤ gb250)); replace HB := am (below_step (bel1 GE249.out) hb); have NB249_250 := am ((b26_ : gb249 ≠ gb250)); have NB250_249 := am ((b27_ : gb250 ≠ gb249)); replace BK249 := am (blk_below (bq BK249.out) hb); clear hb hbox hg; have hnb12 := NB249_250.out; have hnc12 := NB250_249.out; have ⟨hcz13_0, hcz13_1, hfz13_0, hfz13_1⟩ := b2c BK249.out; have ⟨hcz14_0, hcz14_1, hfz14_0, hfz14_1⟩ := b2c BK250.out))
  go_ret
  exact ⟨eq_, bel2 GE249.out GE250.out⟩
 rw [if_neg c3] at H
 have c3b0 : (a0_0 == a1_0) = false := beq_eq_false_iff_ne.mpr c3
 have c3b1 : (a0_0 != a1_0) = true := bne_iff_ne.mpr c3
 obtain rfl := Option.some.inj H; go_enter Try.func79, Try.ntmps79
 go_wp2_with (first | ((with_reducible refine gate_dst (N := 2) rfl ?_); refine bx 2 (cs := #[.int .i64 a0_0, .int .i64 a0_1]) (t := 49) ?_; intro gb249 hg w15 hbox hb; have BK249 := am (hbox); have GW249 := am ((b19_ : w.heap.size ≤ gb249)); have GE249 := am ((b19_ : w.heap.size ≤ gb249)); replace HB := am (below_step bel hb); clear hb hbox hg) | ((with_reducible refine gate_dst (N := 3) rfl ?_); refine bx 3 (cs := #[.int .i64 a1_0, .int .i64 a1_1]) (t := 49) ?_; intro gb250 hg w16 hbox hb; have BK250 := am (hbox); have GW250 := am ((b40_ : w.heap.size ≤ gb250)); have GE250 := am ((b40_ : w.heap.size ≤ gb250)); replace HB := am (below_step (bel1 GE249.out) hb); have NB249_250 := am ((b26_ : gb249 ≠ gb250)); have NB250_249 := am ((b27_ : gb250 ≠ gb249)); replace BK249 := am (blk_below (bq BK249.out) hb); clear hb hbox hg; have hnb17 := NB249_250.out; have hnc17 := NB250_249.out; have ⟨hcz18_0, hcz18_1, hfz18_0, hfz18_1⟩ := b2c BK249.out; have ⟨hcz19_0, hcz19_1, hfz19_0, hfz19_1⟩ := b2c BK250.out))
 go_ret
 exact ⟨eq_, bel2 GE249.out GE250.out⟩

/-! ### laws_eqEdgeS: function 59 -/
def laws_eqEdgeS.l0 : Nat → List (S49) → List (S49) → Int → Option (Bool)
 | 0, _, _, _ => none
 | k + 1, x0, x1, x5 => if x5 < (x0.length : Int) then (if 0 ≤ x5 then (if x5 < (x1.length : Int) then ((laws_eqEdge.f ((rd_T49 x0 x5).f0) ((rd_T49 x0 x5).f1) ((rd_T49 x1 x5).f0) ((rd_T49 x1 x5).f1)).bind fun t253 => (if t253 = true then (laws_eqEdgeS.l0 k x0 x1 (wrap64 (x5 + 1))) else (some false))) else (none)) else (none)) else (some true)
def laws_eqEdgeS.f (k : Nat) (l0 : List (S49)) (l1 : List (S49)) : Option (Bool) := if (l0.length : Int) = (l1.length : Int) then (laws_eqEdgeS.l0 k l0 l1 0) else (some false)
def laws_eqEdgeS.T6 : Bool × List (List Nat × List Nat) := (true, [([], []), ([], []), ([0, 1], [0, 1]), ([2], [2]), ([], []), ([], []), ([4, 5], [4, 5]), ([6], [6]), ([3, 7], [3, 7]), ([8], [8])])
def laws_eqEdgeS.B6 : List Nat := [0, 0, 3, 7, 0, 0, 48, 112, 255, 511]
theorem laws_eqEdgeS.tab6 : rtab .any (opsOf Try.f59 6) = laws_eqEdgeS.T6 := by kernel_rfl
theorem laws_eqEdgeS.bits6 : waitsOk laws_eqEdgeS.T6.2 laws_eqEdgeS.B6 = true := by kernel_rfl
theorem laws_eqEdgeS.calls (k : Nat) (A0 : Option Addr) (c0 : Nat) (l0 : List (S49)) (A1 : Option Addr) (c1 : Nat) (l1 : List (S49)) (r : Bool) (w : World) (hr0 : Kd.C k49 w A0 l0.length l0) (hc0 : l0.length ≤ c0) (hr1 : Kd.C k49 w A1 l1.length l1) (hc1 : l1.length ≤ c1) (h : laws_eqEdgeS.f k l0 l1 = some r) :
  Calls Try.prog 59 #[.slice A0 l0.length c0, .slice A1 l1.length c1] w fun e w' => e = .returned (.bool r) ∧ Below w.heap.size w w' := by
 have hu49 := Try.underlying49; have HR0 := am hr0; have HC0 := am hc0; clear hr0 hc0; have HR1 := am hr1; have HC1 := am hc1; clear hr1 hc1; have HB := am (Below.refl w.heap.size w)
 have H : (if (l0.length : Int) = (l1.length : Int) then (laws_eqEdgeS.l0 k l0 l1 0) else (some false)) = some r := h
 clear h
 by_cases c3 : (l0.length : Int) = (l1.length : Int)
 ·rw [if_pos c3] at H
  have c3b0 : ((l0.length : Int) == (l1.length : Int)) = true := beq_iff_eq.mpr c3
  have c3b1 : ((l0.length : Int) != (l1.length : Int)) = false := bne_eq_false_iff_eq.mpr c3
  have c3b2 : (l0.length == l1.length) = true := b25_
  clear c3
  have H' := am H
  clear H; go_enter Try.func59, Try.ntmps59; go_wp2
  go_loopg [5] k (fun kq v5 w' => ∃ (x5_1 : Int), v5 = .int .i64 x5_1 ∧ Aside0 (laws_eqEdgeS.l0 kq l0 l1 x5_1 = some r) ∧ Aside0 (kq ≤ k) ∧ Aside0 (Below w.heap.size w w'))
  case atStart => exact ⟨(0), sq, H', ⟨Nat.le_refl _⟩, ⟨bel⟩⟩
  case round =>
   clear H'; (try clear c1); (try clear p2); (try clear c3); (try clear c3b0); (try clear c3b1); (try clear c3b2); obtain ⟨x5_1, rfl, HA, HK1, HB⟩ := hrel
   cases gk with
   | zero => exact absurd HA.out (by simp [laws_eqEdgeS.l0])
   | succ k1 =>
    have H := HA.out; clear HA; simp only [laws_eqEdgeS.l0] at H
    by_cases c4 : x5_1 < (l0.length : Int)
    ·rw [if_pos c4] at H; have c4b0 := decide_eq_true c4; clear c4
     replace H := it H; obtain ⟨c5b0, H⟩ := H
     replace H := it H; obtain ⟨c6b0, H⟩ := H; replace H := bs H; obtain ⟨t253, A70, H⟩ := H; (try dsimp only at H); have A7 := Aside0.mk A70; clear A70
     by_cases c8 : t253 = true
     ·subst c8
      rw [if_pos rfl] at H
      have H' := am H
      clear H
      try go_wp2
      replace HB := am (below_drew1 HB.out)
      have p251 : 0 ≤ (x5_1 : Int) := of_decide_eq_true ad
      have q251 : x5_1 < (l0.length : Int) := of_decide_eq_true ad
      obtain ⟨ad251, e251, hx251_0, hx251_1⟩ := at_T49 HR0.out x5_1 p251 q251; have hw251_1 := hx251_1; have hw251_0 := hx251_0; cases e251; replace hx251_0 := kp HB.out hx251_0; replace hx251_1 := kp HB.out hx251_1; replace p251 := eq_true p251; replace q251 := eq_true q251
      have p252 : 0 ≤ (x5_1 : Int) := of_decide_eq_true ad
      have q252 : x5_1 < (l1.length : Int) := of_decide_eq_true ad
      obtain ⟨ad252, e252, hx252_0, hx252_1⟩ := at_T49 HR1.out x5_1 p252 q252; have hw252_1 := hx252_1; have hw252_0 := hx252_0; cases e252; replace hx252_0 := kp HB.out hx252_0; replace hx252_1 := kp HB.out hx252_1; replace p252 := eq_true p252; replace q252 := eq_true q252
      refine st (n := 10) (S := fun w' => w'.cell? (ad251.add ((x5_1).toNat * 2)) = some (.int .i64 ((rd_T49 l0 x5_1).f0)) ∧ w'.cell? ⟨(ad251.add ((x5_1).toNat * 2)).block, (ad251.add ((x5_1).toNat * 2)).off + 1, none⟩ = some (.int .i64 ((rd_T49 l0 x5_1).f1)) ∧ w'.cell? (ad252.add ((x5_1).toNat * 2)) = some (.int .i64 ((rd_T49 l1 x5_1).f0)) ∧ w'.cell? ⟨(ad252.add ((x5_1).toNat * 2)).block, (ad252.add ((x5_1).toNat * 2)).off + 1, none⟩ = some (.int .i64 ((rd_T49 l1 x5_1).f1))) (ds := []) ⟨(kp HB.out hw251_0), (kp HB.out hw251_1), (kp HB.out hw252_0), (kp HB.out hw252_1)⟩ (fun hHeld => ?_); refine with_tabW laws_eqEdgeS.tab6 laws_eqEdgeS.bits6 (fun HT_ HW_ => ?_)
      generalize wr.drew = w9 at HB hx251_0 hx251_1 hx252_0 hx252_1 hHeld ⊢; refine pu 0 17 ?_; refine pu 1 18 ?_; refine pu 2 19 ?_; refine pu 4 21 ?_; refine pu 5 22 ?_; refine pu 6 23 ?_; refine tk4 3 20 hHeld ?_; refine tk4 7 24 hHeld ?_; refine on1 8 25 (fun K hK => ?_)
      refine go1 Try.func79 #[.agg #[.int .i64 ((rd_T49 l0 x5_1).f0), .int .i64 ((rd_T49 l0 x5_1).f1)], .agg #[.int .i64 ((rd_T49 l1 x5_1).f0), .int .i64 ((rd_T49 l1 x5_1).f1)]] ?_
      with_reducible refine (laws_eqEdge.calls ((rd_T49 l0 x5_1).f0) ((rd_T49 l0 x5_1).f1) ((rd_T49 l1 x5_1).f0) ((rd_T49 l1 x5_1).f1) true _ A7.out).mono ?_
      rintro e w10 ⟨rfl, hb⟩; refine ⟨_, rfl, ?_⟩; replace HB := am (below_step bel hb); clear hb; refine hK.out _ _ ⟨(kp HB.out hw251_0), (kp HB.out hw251_1), (kp HB.out hw252_0), (kp HB.out hw252_1)⟩ (fun hHeld => ?_); clear hK K; refine nm 25 ?_; refine pu 9 26 ?_
      refine done_ (done_of HT_.out (by kernel_rfl)) ?_
      try go_wp2
      go_roundg k1
      case measure => have := HK1.out; omega
      case rel => exact ⟨(wrap64 (x5_1 + 1)), sq, H', ⟨b11_⟩, ⟨bel⟩⟩
     replace c8 := Bool.eq_false_iff.mpr c8; subst c8
     rw [if_neg Bool.false_ne_true] at H
     obtain rfl := Option.some.inj H
     try go_wp2
     replace HB := am (below_drew1 HB.out)
     have p251 : 0 ≤ (x5_1 : Int) := of_decide_eq_true ad
     have q251 : x5_1 < (l0.length : Int) := of_decide_eq_true ad
     obtain ⟨ad251, e251, hx251_0, hx251_1⟩ := at_T49 HR0.out x5_1 p251 q251; have hw251_1 := hx251_1; have hw251_0 := hx251_0; cases e251; replace hx251_0 := kp HB.out hx251_0; replace hx251_1 := kp HB.out hx251_1; replace p251 := eq_true p251; replace q251 := eq_true q251
     have p252 : 0 ≤ (x5_1 : Int) := of_decide_eq_true ad
     have q252 : x5_1 < (l1.length : Int) := of_decide_eq_true ad
     obtain ⟨ad252, e252, hx252_0, hx252_1⟩ := at_T49 HR1.out x5_1 p252 q252; have hw252_1 := hx252_1; have hw252_0 := hx252_0; cases e252; replace hx252_0 := kp HB.out hx252_0; replace hx252_1 := kp HB.out hx252_1; replace p252 := eq_true p252; replace q252 := eq_true q252
     refine st (n := 10) (S := fun w' => w'.cell? (ad251.add ((x5_1).toNat * 2)) = some (.int .i64 ((rd_T49 l0 x5_1).f0)) ∧ w'.cell? ⟨(ad251.add ((x5_1).toNat * 2)).block, (ad251.add ((x5_1).toNat * 2)).off + 1, none⟩ = some (.int .i64 ((rd_T49 l0 x5_1).f1)) ∧ w'.cell? (ad252.add ((x5_1).toNat * 2)) = some (.int .i64 ((rd_T49 l1 x5_1).f0)) ∧ w'.cell? ⟨(ad252.add ((x5_1).toNat * 2)).block, (ad252.add ((x5_1).toNat * 2)).off + 1, none⟩ = some (.int .i64 ((rd_T49 l1 x5_1).f1))) (ds := []) ⟨(kp HB.out hw251_0), (kp HB.out hw251_1), (kp HB.out hw252_0), (kp HB.out hw252_1)⟩ (fun hHeld => ?_); refine with_tabW laws_eqEdgeS.tab6 laws_eqEdgeS.bits6 (fun HT_ HW_ => ?_)
     generalize wr.drew = w11 at HB hx251_0 hx251_1 hx252_0 hx252_1 hHeld ⊢; refine pu 0 17 ?_; refine pu 1 18 ?_; refine pu 2 19 ?_; refine pu 4 21 ?_; refine pu 5 22 ?_; refine pu 6 23 ?_; refine tk4 3 20 hHeld ?_; refine tk4 7 24 hHeld ?_; refine on1 8 25 (fun K hK => ?_)
     refine go1 Try.func79 #[.agg #[.int .i64 ((rd_T49 l0 x5_1).f0), .int .i64 ((rd_T49 l0 x5_1).f1)], .agg #[.int .i64 ((rd_T49 l1 x5_1).f0), .int .i64 ((rd_T49 l1 x5_1).f1)]] ?_
     with_reducible refine (laws_eqEdge.calls ((rd_T49 l0 x5_1).f0) ((rd_T49 l0 x5_1).f1) ((rd_T49 l1 x5_1).f0) ((rd_T49 l1 x5_1).f1) false _ A7.out).mono ?_
     rintro e w12 ⟨rfl, hb⟩; refine ⟨_, rfl, ?_⟩; replace HB := am (below_step bel hb); clear hb; refine hK.out _ _ ⟨(kp HB.out hw251_0), (kp HB.out hw251_1), (kp HB.out hw252_0), (kp HB.out hw252_1)⟩ (fun hHeld => ?_); clear hK K; refine nm 25 ?_; refine pu 9 26 ?_
     refine done_ (done_of HT_.out (by kernel_rfl)) ?_
     try go_wp2
     go_ret
     exact ⟨eq_, bel⟩
    rw [if_neg c4] at H; have c4b0 := decide_eq_false c4; clear c4; obtain rfl := Option.some.inj H; go_wp2; go_ret
    exact ⟨eq_, bel⟩
 rw [if_neg c3] at H
 have c3b0 : ((l0.length : Int) == (l1.length : Int)) = false := beq_eq_false_iff_ne.mpr c3
 have c3b1 : ((l0.length : Int) != (l1.length : Int)) = true := bne_iff_ne.mpr c3
 have c3b2 : (l0.length == l1.length) = false := b25_
 obtain rfl := Option.some.inj H; go_enter Try.func59, Try.ntmps59; go_wp2; go_ret
 exact ⟨eq_, bel⟩

/-! ### laws_eqState: function 38 -/
def laws_eqState.f (k : Nat) (a0_0 : Bool) (l0_1 : List (S49)) (a1_0 : Bool) (l1_1 : List (S49)) : Option (Bool) := if (a0_0 != a1_0) = true then (some false) else ((laws_eqEdgeS.f k l0_1 l1_1).bind fun t256 => (if t256 = true then (some true) else (some false)))
theorem laws_eqState.calls (k : Nat) (a0_0 : Bool) (A0_1 : Option Addr) (c0_1 : Nat) (l0_1 : List (S49)) (a1_0 : Bool) (A1_1 : Option Addr) (c1_1 : Nat) (l1_1 : List (S49)) (r : Bool) (w : World) (hr0_1 : Kd.C k49 w A0_1 l0_1.length l0_1) (hc0_1 : l0_1.length ≤ c0_1) (hr1_1 : Kd.C k49 w A1_1 l1_1.length l1_1) (hc1_1 : l1_1.length ≤ c1_1) (h : laws_eqState.f k a0_0 l0_1 a1_0 l1_1 = some r) :
  Calls Try.prog 38 #[.agg #[.bool a0_0, .slice A0_1 l0_1.length c0_1], .agg #[.bool a1_0, .slice A1_1 l1_1.length c1_1]] w fun e w' => e = .returned (.bool r) ∧ Below w.heap.size w w' := by
 have hu45 := Try.underlying45; have HR0_1 := am hr0_1; have HC0_1 := am hc0_1; clear hr0_1 hc0_1; have HR1_1 := am hr1_1; have HC1_1 := am hc1_1; clear hr1_1 hc1_1; have HB := am (Below.refl w.heap.size w)
 have H : (if (a0_0 != a1_0) = true then (some false) else ((laws_eqEdgeS.f k l0_1 l1_1).bind fun t256 => (if t256 = true then (some true) else (some false)))) = some r := h
 clear h
 by_cases c3 : (a0_0 != a1_0) = true
 ·rw [if_pos c3] at H
  have c3b0 : (a0_0 != a1_0) = true := c3
  (try (have c3b1 : decide (a0_0 = a1_0) = false := by simpa using c3))
  (try (have c3b2 : (a0_0 == a1_0) = false := by simpa using c3))
  (try (have c3b3 : ¬ (a0_0 = a1_0) := by simpa using c3))
  clear c3; obtain rfl := Option.some.inj H; go_enter Try.func38, Try.ntmps38
  go_wp2_with (first | ((with_reducible refine gate_dst (N := 2) rfl ?_); refine bx 2 (cs := #[.bool a0_0, .slice A0_1 l0_1.length c0_1]) (t := 45) ?_; intro gb254 hg w4 hbox hb; have BK254 := am (hbox); have GW254 := am ((b19_ : w.heap.size ≤ gb254)); have GE254 := am ((b19_ : w.heap.size ≤ gb254)); replace HB := am (below_step bel hb); clear hb hbox hg) | ((with_reducible refine gate_dst (N := 3) rfl ?_); refine bx 3 (cs := #[.bool a1_0, .slice A1_1 l1_1.length c1_1]) (t := 45) ?_; intro gb255 hg w5 hbox hb; have BK255 := am (hbox); have GW255 := am ((b41_ : w.heap.size ≤ gb255)); have GE255 := am ((b41_ : w.heap.size ≤ gb255)); replace HB := am (below_step (bel1 GE254.out) hb); have NB254_255 := am ((b21_ : gb254 ≠ gb255)); have NB255_254 := am ((b22_ : gb255 ≠ gb254)); replace BK254 := am (blk_below (bq BK254.out) hb); clear hb hbox hg; have hnb6 := NB254_255.out; have hnc6 := NB255_254.out; have ⟨hcz7_0, hcz7_1, hfz7_0, hfz7_1⟩ := b2c BK254.out; have ⟨hcz8_0, hcz8_1, hfz8_0, hfz8_1⟩ := b2c BK255.out))
  go_ret
  exact ⟨eq_, bel2 GE254.out GE255.out⟩
 rw [if_neg c3] at H
 have c3b0 : (a0_0 != a1_0) = false := by simpa using c3
 (try (have c3b1 : decide (a0_0 = a1_0) = true := by simpa using c3))
 (try (have c3b2 : (a0_0 == a1_0) = true := by simpa using c3))
 clear c3; replace H := bs H; obtain ⟨t256, A90, H⟩ := H; (try dsimp only at H); have A9 := Aside0.mk A90; clear A90
 by_cases c10 : t256 = true
 ·subst c10
  rw [if_pos rfl] at H
  obtain rfl := Option.some.inj H; go_enter Try.func38, Try.ntmps38
  go_wp2_with (first | ((with_reducible refine gate_dst (N := 2) rfl ?_); refine bx 2 (cs := #[.bool a0_0, .slice A0_1 l0_1.length c0_1]) (t := 45) ?_; intro gb254 hg w11 hbox hb; have BK254 := am (hbox); have GW254 := am ((b19_ : w.heap.size ≤ gb254)); have GE254 := am ((b19_ : w.heap.size ≤ gb254)); replace HB := am (below_step bel hb); clear hb hbox hg) | ((with_reducible refine gate_dst (N := 3) rfl ?_); refine bx 3 (cs := #[.bool a1_0, .slice A1_1 l1_1.length c1_1]) (t := 45) ?_; intro gb255 hg w12 hbox hb; have BK255 := am (hbox); have GW255 := am ((b41_ : w.heap.size ≤ gb255)); have GE255 := am ((b41_ : w.heap.size ≤ gb255)); replace HB := am (below_step (bel1 GE254.out) hb); have NB254_255 := am ((b21_ : gb254 ≠ gb255)); have NB255_254 := am ((b22_ : gb255 ≠ gb254)); replace BK254 := am (blk_below (bq BK254.out) hb); clear hb hbox hg; have hnb13 := NB254_255.out; have hnc13 := NB255_254.out; have ⟨hcz14_0, hcz14_1, hfz14_0, hfz14_1⟩ := b2c BK254.out; have ⟨hcz15_0, hcz15_1, hfz15_0, hfz15_1⟩ := b2c BK255.out) | ((with_reducible refine gate_callee (f := 59) rfl ?_); refine gl 14 Try.func59 #[.slice A0_1 l0_1.length c0_1, .slice A1_1 l1_1.length c1_1] ?_; (with_reducible refine (laws_eqEdgeS.calls k _ _ l0_1 _ _ l1_1 true _ ?side1 ?side2 ?side3 ?side4 A9.out).mono ?_); (case side1 => exact cq (Kd.C_below HR0_1.out HB.out)); (case side2 => exact HC0_1.out); (case side3 => exact cq (Kd.C_below HR1_1.out HB.out)); (case side4 => exact HC1_1.out); rintro e w16 ⟨rfl, hb⟩; refine ⟨_, rfl, ?_⟩; replace BK254 := am (blk_below (bq BK254.out) hb); replace BK255 := am (blk_below (bq BK255.out) hb); replace HB := am (below_step (bel2 GE254.out GE255.out) hb); clear hb))
  go_ret
  exact ⟨eq_, bel2 GE254.out GE255.out⟩
 replace c10 := Bool.eq_false_iff.mpr c10; subst c10
 rw [if_neg Bool.false_ne_true] at H
 obtain rfl := Option.some.inj H; go_enter Try.func38, Try.ntmps38
 go_wp2_with (first | ((with_reducible refine gate_dst (N := 2) rfl ?_); refine bx 2 (cs := #[.bool a0_0, .slice A0_1 l0_1.length c0_1]) (t := 45) ?_; intro gb254 hg w17 hbox hb; have BK254 := am (hbox); have GW254 := am ((b19_ : w.heap.size ≤ gb254)); have GE254 := am ((b19_ : w.heap.size ≤ gb254)); replace HB := am (below_step bel hb); clear hb hbox hg) | ((with_reducible refine gate_dst (N := 3) rfl ?_); refine bx 3 (cs := #[.bool a1_0, .slice A1_1 l1_1.length c1_1]) (t := 45) ?_; intro gb255 hg w18 hbox hb; have BK255 := am (hbox); have GW255 := am ((b41_ : w.heap.size ≤ gb255)); have GE255 := am ((b41_ : w.heap.size ≤ gb255)); replace HB := am (below_step (bel1 GE254.out) hb); have NB254_255 := am ((b21_ : gb254 ≠ gb255)); have NB255_254 := am ((b22_ : gb255 ≠ gb254)); replace BK254 := am (blk_below (bq BK254.out) hb); clear hb hbox hg; have hnb19 := NB254_255.out; have hnc19 := NB255_254.out; have ⟨hcz20_0, hcz20_1, hfz20_0, hfz20_1⟩ := b2c BK254.out; have ⟨hcz21_0, hcz21_1, hfz21_0, hfz21_1⟩ := b2c BK255.out) | ((with_reducible refine gate_callee (f := 59) rfl ?_); refine gl 14 Try.func59 #[.slice A0_1 l0_1.length c0_1, .slice A1_1 l1_1.length c1_1] ?_; (with_reducible refine (laws_eqEdgeS.calls k _ _ l0_1 _ _ l1_1 false _ ?side1 ?side2 ?side3 ?side4 A9.out).mono ?_); (case side1 => exact cq (Kd.C_below HR0_1.out HB.out)); (case side2 => exact HC0_1.out); (case side3 => exact cq (Kd.C_below HR1_1.out HB.out)); (case side4 => exact HC1_1.out); rintro e w22 ⟨rfl, hb⟩; refine ⟨_, rfl, ?_⟩; replace BK254 := am (blk_below (bq BK254.out) hb); replace BK255 := am (blk_below (bq BK255.out) hb); replace HB := am (below_step (bel2 GE254.out GE255.out) hb); clear hb))
 go_ret
 exact ⟨eq_, bel2 GE254.out GE255.out⟩

/-! ### laws_eqStateS: function 10 -/
def laws_eqStateS.l0 : Nat → List (S45) → List (S45) → Int → Option (Bool)
 | 0, _, _, _ => none
 | k + 1, x0, x1, x5 => if x5 < (x0.length : Int) then (if 0 ≤ x5 then (if x5 < (x1.length : Int) then ((laws_eqState.f k ((rd_T45 x0 x5).f0) ((rd_T45 x0 x5).f1) ((rd_T45 x1 x5).f0) ((rd_T45 x1 x5).f1)).bind fun t259 => (if t259 = true then (laws_eqStateS.l0 k x0 x1 (wrap64 (x5 + 1))) else (some false))) else (none)) else (none)) else (some true)
def laws_eqStateS.f (k : Nat) (l0 : List (S45)) (l1 : List (S45)) : Option (Bool) := if (l0.length : Int) = (l1.length : Int) then (laws_eqStateS.l0 k l0 l1 0) else (some false)
def laws_eqStateS.T6 : Bool × List (List Nat × List Nat) := (true, [([], []), ([], []), ([0, 1], [0, 1]), ([2], [2]), ([], []), ([], []), ([4, 5], [4, 5]), ([6], [6]), ([3, 7], [3, 7]), ([8], [8])])
def laws_eqStateS.B6 : List Nat := [0, 0, 3, 7, 0, 0, 48, 112, 255, 511]
theorem laws_eqStateS.tab6 : rtab .any (opsOf Try.f10 6) = laws_eqStateS.T6 := by kernel_rfl
theorem laws_eqStateS.bits6 : waitsOk laws_eqStateS.T6.2 laws_eqStateS.B6 = true := by kernel_rfl
theorem laws_eqStateS.calls (k : Nat) (A0 : Option Addr) (c0 : Nat) (l0 : List (S45)) (A1 : Option Addr) (c1 : Nat) (l1 : List (S45)) (r : Bool) (w : World) (hr0 : Kd.C k45 w A0 l0.length l0) (hc0 : l0.length ≤ c0) (hr1 : Kd.C k45 w A1 l1.length l1) (hc1 : l1.length ≤ c1) (h : laws_eqStateS.f k l0 l1 = some r) :
  Calls Try.prog 10 #[.slice A0 l0.length c0, .slice A1 l1.length c1] w fun e w' => e = .returned (.bool r) ∧ Below w.heap.size w w' := by
 have hu45 := Try.underlying45; have HR0 := am hr0; have HC0 := am hc0; clear hr0 hc0; have HR1 := am hr1; have HC1 := am hc1; clear hr1 hc1; have HB := am (Below.refl w.heap.size w)
 have H : (if (l0.length : Int) = (l1.length : Int) then (laws_eqStateS.l0 k l0 l1 0) else (some false)) = some r := h
 clear h
 by_cases c3 : (l0.length : Int) = (l1.length : Int)
 ·rw [if_pos c3] at H
  have c3b0 : ((l0.length : Int) == (l1.length : Int)) = true := beq_iff_eq.mpr c3
  have c3b1 : ((l0.length : Int) != (l1.length : Int)) = false := bne_eq_false_iff_eq.mpr c3
  have c3b2 : (l0.length == l1.length) = true := b25_
  clear c3
  have H' := am H
  clear H; go_enter Try.func10, Try.ntmps10; go_wp2
  go_loopg [5] k (fun kq v5 w' => ∃ (x5_1 : Int), v5 = .int .i64 x5_1 ∧ Aside0 (laws_eqStateS.l0 kq l0 l1 x5_1 = some r) ∧ Aside0 (kq ≤ k) ∧ Aside0 (Below w.heap.size w w'))
  case atStart => exact ⟨(0), sq, H', ⟨Nat.le_refl _⟩, ⟨bel⟩⟩
  case round =>
   clear H'; (try clear c1); (try clear p2); (try clear c3); (try clear c3b0); (try clear c3b1); (try clear c3b2); obtain ⟨x5_1, rfl, HA, HK1, HB⟩ := hrel
   cases gk with
   | zero => exact absurd HA.out (by simp [laws_eqStateS.l0])
   | succ k1 =>
    have H := HA.out; clear HA; simp only [laws_eqStateS.l0] at H
    by_cases c4 : x5_1 < (l0.length : Int)
    ·rw [if_pos c4] at H; have c4b0 := decide_eq_true c4; clear c4
     replace H := it H; obtain ⟨c5b0, H⟩ := H
     replace H := it H; obtain ⟨c6b0, H⟩ := H; replace H := bs H; obtain ⟨t259, A70, H⟩ := H; (try dsimp only at H); have A7 := Aside0.mk A70; clear A70
     by_cases c8 : t259 = true
     ·subst c8
      rw [if_pos rfl] at H
      have H' := am H
      clear H
      try go_wp2
      replace HB := am (below_drew1 HB.out)
      have p257 : 0 ≤ (x5_1 : Int) := of_decide_eq_true ad
      have q257 : x5_1 < (l0.length : Int) := of_decide_eq_true ad
      obtain ⟨ad257, A257_1, c257_1, e257, hx257_0, hx257_1, hl257_1, hi257_1⟩ := at_T45 HR0.out x5_1 p257 q257; have hw257_1 := hx257_1; have hw257_0 := hx257_0; cases e257; replace hx257_0 := kp HB.out hx257_0; replace hx257_1 := kp HB.out hx257_1; have HR257_1 := am hi257_1; have HC257_1 := am hl257_1; clear hi257_1 hl257_1; replace p257 := eq_true p257; replace q257 := eq_true q257
      have p258 : 0 ≤ (x5_1 : Int) := of_decide_eq_true ad
      have q258 : x5_1 < (l1.length : Int) := of_decide_eq_true ad
      obtain ⟨ad258, A258_1, c258_1, e258, hx258_0, hx258_1, hl258_1, hi258_1⟩ := at_T45 HR1.out x5_1 p258 q258; have hw258_1 := hx258_1; have hw258_0 := hx258_0; cases e258; replace hx258_0 := kp HB.out hx258_0; replace hx258_1 := kp HB.out hx258_1; have HR258_1 := am hi258_1; have HC258_1 := am hl258_1; clear hi258_1 hl258_1; replace p258 := eq_true p258; replace q258 := eq_true q258
      refine st (n := 10) (S := fun w' => w'.cell? (ad257.add ((x5_1).toNat * 2)) = some (.bool ((rd_T45 l0 x5_1).f0)) ∧ w'.cell? ⟨(ad257.add ((x5_1).toNat * 2)).block, (ad257.add ((x5_1).toNat * 2)).off + 1, none⟩ = some (.slice A257_1 ((rd_T45 l0 x5_1).f1).length c257_1) ∧ w'.cell? (ad258.add ((x5_1).toNat * 2)) = some (.bool ((rd_T45 l1 x5_1).f0)) ∧ w'.cell? ⟨(ad258.add ((x5_1).toNat * 2)).block, (ad258.add ((x5_1).toNat * 2)).off + 1, none⟩ = some (.slice A258_1 ((rd_T45 l1 x5_1).f1).length c258_1)) (ds := []) ⟨(kp HB.out hw257_0), (kp HB.out hw257_1), (kp HB.out hw258_0), (kp HB.out hw258_1)⟩ (fun hHeld => ?_); refine with_tabW laws_eqStateS.tab6 laws_eqStateS.bits6 (fun HT_ HW_ => ?_)
      generalize wr.drew = w9 at HB HR257_1 HR258_1 hx257_0 hx257_1 hx258_0 hx258_1 hHeld ⊢; refine pu 0 17 ?_; refine pu 1 18 ?_; refine pu 2 19 ?_; refine pu 4 21 ?_; refine pu 5 22 ?_; refine pu 6 23 ?_; refine tk4 3 20 hHeld ?_; refine tk4 7 24 hHeld ?_; refine on1 8 25 (fun K hK => ?_)
      refine go1 Try.func38 #[.agg #[.bool ((rd_T45 l0 x5_1).f0), .slice A257_1 ((rd_T45 l0 x5_1).f1).length c257_1], .agg #[.bool ((rd_T45 l1 x5_1).f0), .slice A258_1 ((rd_T45 l1 x5_1).f1).length c258_1]] ?_
      with_reducible refine (laws_eqState.calls k1 ((rd_T45 l0 x5_1).f0) _ _ ((rd_T45 l0 x5_1).f1) ((rd_T45 l1 x5_1).f0) _ _ ((rd_T45 l1 x5_1).f1) true _ ?side1 ?side2 ?side3 ?side4 A7.out).mono ?_
      (case side1 => exact cq (Kd.C_below HR257_1.out HB.out)); (case side2 => exact HC257_1.out); (case side3 => exact cq (Kd.C_below HR258_1.out HB.out)); (case side4 => exact HC258_1.out)
      rintro e w10 ⟨rfl, hb⟩; refine ⟨_, rfl, ?_⟩; replace HB := am (below_step bel hb); clear hb; refine hK.out _ _ ⟨(kp HB.out hw257_0), (kp HB.out hw257_1), (kp HB.out hw258_0), (kp HB.out hw258_1)⟩ (fun hHeld => ?_); clear hK K; refine nm 25 ?_; refine pu 9 26 ?_
      refine done_ (done_of HT_.out (by kernel_rfl)) ?_
      try go_wp2
      go_roundg k1
      case measure => have := HK1.out; omega
      case rel => exact ⟨(wrap64 (x5_1 + 1)), sq, H', ⟨b11_⟩, ⟨bel⟩⟩
     replace c8 := Bool.eq_false_iff.mpr c8; subst c8
     rw [if_neg Bool.false_ne_true] at H
     obtain rfl := Option.some.inj H
     try go_wp2
     replace HB := am (below_drew1 HB.out)
     have p257 : 0 ≤ (x5_1 : Int) := of_decide_eq_true ad
     have q257 : x5_1 < (l0.length : Int) := of_decide_eq_true ad
     obtain ⟨ad257, A257_1, c257_1, e257, hx257_0, hx257_1, hl257_1, hi257_1⟩ := at_T45 HR0.out x5_1 p257 q257; have hw257_1 := hx257_1; have hw257_0 := hx257_0; cases e257; replace hx257_0 := kp HB.out hx257_0; replace hx257_1 := kp HB.out hx257_1; have HR257_1 := am hi257_1; have HC257_1 := am hl257_1; clear hi257_1 hl257_1; replace p257 := eq_true p257; replace q257 := eq_true q257
     have p258 : 0 ≤ (x5_1 : Int) := of_decide_eq_true ad
     have q258 : x5_1 < (l1.length : Int) := of_decide_eq_true ad
     obtain ⟨ad258, A258_1, c258_1, e258, hx258_0, hx258_1, hl258_1, hi258_1⟩ := at_T45 HR1.out x5_1 p258 q258; have hw258_1 := hx258_1; have hw258_0 := hx258_0; cases e258; replace hx258_0 := kp HB.out hx258_0; replace hx258_1 := kp HB.out hx258_1; have HR258_1 := am hi258_1; have HC258_1 := am hl258_1; clear hi258_1 hl258_1; replace p258 := eq_true p258; replace q258 := eq_true q258
     refine st (n := 10) (S := fun w' => w'.cell? (ad257.add ((x5_1).toNat * 2)) = some (.bool ((rd_T45 l0 x5_1).f0)) ∧ w'.cell? ⟨(ad257.add ((x5_1).toNat * 2)).block, (ad257.add ((x5_1).toNat * 2)).off + 1, none⟩ = some (.slice A257_1 ((rd_T45 l0 x5_1).f1).length c257_1) ∧ w'.cell? (ad258.add ((x5_1).toNat * 2)) = some (.bool ((rd_T45 l1 x5_1).f0)) ∧ w'.cell? ⟨(ad258.add ((x5_1).toNat * 2)).block, (ad258.add ((x5_1).toNat * 2)).off + 1, none⟩ = some (.slice A258_1 ((rd_T45 l1 x5_1).f1).length c258_1)) (ds := []) ⟨(kp HB.out hw257_0), (kp HB.out hw257_1), (kp HB.out hw258_0), (kp HB.out hw258_1)⟩ (fun hHeld => ?_); refine with_tabW laws_eqStateS.tab6 laws_eqStateS.bits6 (fun HT_ HW_ => ?_)
     generalize wr.drew = w11 at HB HR257_1 HR258_1 hx257_0 hx257_1 hx258_0 hx258_1 hHeld ⊢; refine pu 0 17 ?_; refine pu 1 18 ?_; refine pu 2 19 ?_; refine pu 4 21 ?_; refine pu 5 22 ?_; refine pu 6 23 ?_; refine tk4 3 20 hHeld ?_; refine tk4 7 24 hHeld ?_; refine on1 8 25 (fun K hK => ?_)
     refine go1 Try.func38 #[.agg #[.bool ((rd_T45 l0 x5_1).f0), .slice A257_1 ((rd_T45 l0 x5_1).f1).length c257_1], .agg #[.bool ((rd_T45 l1 x5_1).f0), .slice A258_1 ((rd_T45 l1 x5_1).f1).length c258_1]] ?_
     with_reducible refine (laws_eqState.calls k1 ((rd_T45 l0 x5_1).f0) _ _ ((rd_T45 l0 x5_1).f1) ((rd_T45 l1 x5_1).f0) _ _ ((rd_T45 l1 x5_1).f1) false _ ?side1 ?side2 ?side3 ?side4 A7.out).mono ?_
     (case side1 => exact cq (Kd.C_below HR257_1.out HB.out)); (case side2 => exact HC257_1.out); (case side3 => exact cq (Kd.C_below HR258_1.out HB.out)); (case side4 => exact HC258_1.out)
     rintro e w12 ⟨rfl, hb⟩; refine ⟨_, rfl, ?_⟩; replace HB := am (below_step bel hb); clear hb; refine hK.out _ _ ⟨(kp HB.out hw257_0), (kp HB.out hw257_1), (kp HB.out hw258_0), (kp HB.out hw258_1)⟩ (fun hHeld => ?_); clear hK K; refine nm 25 ?_; refine pu 9 26 ?_
     refine done_ (done_of HT_.out (by kernel_rfl)) ?_
     try go_wp2
     go_ret
     exact ⟨eq_, bel⟩
    rw [if_neg c4] at H; have c4b0 := decide_eq_false c4; clear c4; obtain rfl := Option.some.inj H; go_wp2; go_ret
    exact ⟨eq_, bel⟩
 rw [if_neg c3] at H
 have c3b0 : ((l0.length : Int) == (l1.length : Int)) = false := beq_eq_false_iff_ne.mpr c3
 have c3b1 : ((l0.length : Int) != (l1.length : Int)) = true := bne_iff_ne.mpr c3
 have c3b2 : (l0.length == l1.length) = false := b25_
 obtain rfl := Option.some.inj H; go_enter Try.func10, Try.ntmps10; go_wp2; go_ret
 exact ⟨eq_, bel⟩
end Go.Proofs.Ytpljfjbhlboffaa.QFnExactMachineOf

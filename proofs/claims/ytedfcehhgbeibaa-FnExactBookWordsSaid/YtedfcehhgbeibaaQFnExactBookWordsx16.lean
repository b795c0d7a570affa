import Derived.Test.YtedfcehhgbeibaaQFnExactBookWordsx0
import Derived.Test.YtedfcehhgbeibaaQFnExactBookWordsx13
import Derived.Test.YtedfcehhgbeibaaQFnExactBookWordsx14
import Derived.Test.YtedfcehhgbeibaaQFnExactBookWordsx15
import Derived.Test.YtedfcehhgbeibaaVMSho
namespace Go.Proofs.Ytedfcehhgbeibaa.QFnExactBookWords
open Go.RowKit Go.Proofs.YtedfcehhgbeibaaW.PrintWords Go.Proofs.YtedfcehhgbeibaaW.PrintLast Go.Proofs.YtedfcehhgbeibaaW.PrintMore Go.Proofs.Ytedfcehhgbeibaa.Sh
attribute [local go_sem] max2_int min2_int max_two min_two max_three min_three max_four min_four   -- for this text's walks alone
set_option linter.unusedVariables false
set_option linter.unusedSimpArgs false
-- shrunk

/-! ### impl_Book_words: function 77 -/
def impl_Book_words.l0 : Nat → List ByteArray → List (S31) → Int → Int → List (S44) → List (S31) → Option (List ByteArray)
 | 0, _, _, _, _, _, _ => none
 | k + 1, x3, x8, x9, x10, x324000, x324001 => if x10 < x9 then (if 0 ≤ x10 then (if x10 < (x8.length : Int) then ((impl_Forms.f k x324000 ((rd_T31 x8 x10).f0) ((rd_T31 x8 x10).f1)).bind fun t329 => (if x3.length + t329.length < 8796093022208 then (impl_Book_words.l0 k (x3 ++ t329) x8 x9 (wrap64 (x10 + 1)) x324000 x324001) else (none))) else (none)) else (none)) else ((impl_sorted.f x3).bind fun t335 => (some t335))
def impl_Book_words.f (k : Nat) (l0_0 : List (S44)) (l0_1 : List (S31)) : Option (List ByteArray) := impl_Book_words.l0 k (([] : List ByteArray)) l0_1 (l0_1.length : Int) 0 l0_0 l0_1
theorem impl_Book_words.mono_l : ∀ k, (∀ y0 y1 y2 y3 y4 y5, LeO (impl_Book_words.l0 k y0 y1 y2 y3 y4 y5) (impl_Book_words.l0 (k + 1) y0 y1 y2 y3 y4 y5))
 | 0 => fun _ _ _ _ _ _ r h => by simp [impl_Book_words.l0] at h
 | k + 1 => by
  have ih0 := impl_Book_words.mono_l k
  ·intro y0 y1 y2 y3 y4 y5
   unfold impl_Book_words.l0
   repeat' first | (with_reducible first | exact ih0 _ _ _ _ _ _ | exact impl_Forms.mono _ _ _ _ | exact LeO.refl _ | exact LeO.none _ | refine LeO.ite ?_ ?_ | refine LeO.bind ?_ (fun _ => ?_)) | exact ih0 _ _ _ _ _ _ | exact impl_Forms.mono _ _ _ _ | exact LeO.none _ | refine LeO.ite ?_ ?_ | refine LeO.bind ?_ (fun _ => ?_)
theorem impl_Book_words.mono : ∀ a0 a1 k, LeO (impl_Book_words.f k a0 a1) (impl_Book_words.f (k + 1) a0 a1) := by
 intro a0 a1 k; have ih0 := impl_Book_words.mono_l k
 unfold impl_Book_words.f
 repeat' first | (with_reducible first | exact ih0 _ _ _ _ _ _ | exact impl_Forms.mono _ _ _ _ | exact LeO.refl _ | exact LeO.none _ | refine LeO.ite ?_ ?_ | refine LeO.bind ?_ (fun _ => ?_)) | exact ih0 _ _ _ _ _ _ | exact impl_Forms.mono _ _ _ _ | exact LeO.none _ | refine LeO.ite ?_ ?_ | refine LeO.bind ?_ (fun _ => ?_)
set_option maxHeartbeats 8000000 in
set_option maxRecDepth 100000 in
theorem impl_Book_words.calls (k : Nat) (A0_0 : Option Addr) (c0_0 : Nat) (l0_0 : List (S44)) (A0_1 : Option Addr) (c0_1 : Nat) (l0_1 : List (S31)) (r : List ByteArray) (w : World) (hr0_0 : Kd.C k44 w A0_0 l0_0.length l0_0) (hc0_0 : l0_0.length ≤ c0_0) (hr0_1 : Kd.C k31 w A0_1 l0_1.length l0_1) (hc0_1 : l0_1.length ≤ c0_1) (h : impl_Book_words.f k l0_0 l0_1 = some r) :
  Calls Try.prog 77 #[.agg #[.slice A0_0 l0_0.length c0_0, .slice A0_1 l0_1.length c0_1]] w fun e w' => ∃ v0_ : Value, e = .returned (v0_) ∧ Kd.R Kd.string 9 w' w.heap.size (fun _ => True) v0_ r ∧ Below w.heap.size w w' := by
 have hu55 := Try.underlying55; have hu31 := Try.underlying31; have HR0_0 := am hr0_0; have HC0_0 := am hc0_0; clear hr0_0 hc0_0; have HR0_1 := am hr0_1; have HC0_1 := am hc0_1; clear hr0_1 hc0_1; have HB := am (Below.refl w.heap.size w)
 have H : (impl_Book_words.l0 k (([] : List ByteArray)) l0_1 (l0_1.length : Int) 0 l0_0 l0_1) = some r := h
 clear h; obtain ⟨y324, hy324⟩ : ∃ y_ : List ByteArray, y_ = (([] : List ByteArray)) := ⟨_, rfl⟩
 replace H : (impl_Book_words.l0 k y324 l0_1 (l0_1.length : Int) 0 l0_0 l0_1) = some r := by first | (rw [hy324]; with_reducible exact H) | (have H2_ := (Option.bind_some _ _).symm.trans H; rw [hy324]; with_reducible exact H2_) | (have H2_ := (Option.bind_some _ _).symm.trans H; with_reducible exact H2_) | with_reducible exact H | (rw [hy324]; exact H) | exact H
 have Ny324 := am hy324; clear hy324
 have H' := am H
 clear H; go_enter Try.func77, Try.ntmps77
 go_wp2_with (first | ((with_reducible refine gate_dst (N := 1) rfl ?_); refine bx 1 (cs := #[.slice A0_0 l0_0.length c0_0, .slice A0_1 l0_1.length c0_1]) (t := 55) ?_; intro gb323 hg w2 hbox hb; have BK323 := am (hbox); have GW323 := am ((by rw [hg]; exact (below_size bel) : w.heap.size ≤ gb323)); have GE323 := am ((by rw [hg]; exact (below_size bel) : w.heap.size ≤ gb323)); replace HB := am (below_step bel hb); clear hb hbox hg) | ((with_reducible refine gate_dst (N := 6) rfl ?_); refine Kd.R_lit Kd.string _ 9 ?hg (N := 6) ?hd (xs := ([] : List ByteArray)) (inner := []) (ok := fun _ => True) (okp := fun _ => True) ?hr ?hp (fun _ hk => hk) trivial (Below.refl _ _) (Nat.le_refl _) (by simp) ?_; (case hd => rfl); (case hg => rfl); (case hr => first | (go_simp; done) | (go_simp; rfl)); (case hp => exact (Reps.none _ _)); intro v325 w3 ho4 hb hg_ hnew_; clear hg_ hnew_; (first | rw [← Ny324.out] at ho4 | (simp only [Int.reduceToNat] at ho4; rw [← Ny324.out] at ho4) | (simp only [Int.toNat_natCast] at ho4; rw [← Ny324.out] at ho4)); have HO326 := am (Kd.R_lower ho4 (below_size (bel1 GE323.out))); replace BK323 := am (blk_below (g := gb323) (o := .cells #[.slice A0_0 l0_0.length c0_0, .slice A0_1 l0_1.length c0_1] 55 (0, 0)) (bq BK323.out) hb); replace HB := am (below_step (bel1 GE323.out) hb); clear hb ho4; have hcz5_0 := bc BK323.out 0; have hcz5_1 := bc BK323.out 1; have hfz5_0 := blk_frozen BK323.out 0; have hfz5_1 := blk_frozen BK323.out 1))
 go_loopg [3, 10] k (fun kq v3 v10 w' => ∃ (x3_1 : List ByteArray) (x10_1 : Int), v10 = .int .i64 x10_1 ∧ Aside0 (impl_Book_words.l0 kq x3_1 l0_1 (l0_1.length : Int) x10_1 l0_0 l0_1 = some r) ∧ Aside0 (kq ≤ k) ∧ Aside0 (Kd.R Kd.string 9 w' w.heap.size (fun _ => True) v3 x3_1) ∧ Aside0 (w'.heap[gb323]? = some (.cells #[(.slice A0_0 l0_0.length c0_0), (.slice A0_1 l0_1.length c0_1)] 55 (0, 0))) ∧ Aside0 (Below w.heap.size w w'))
 case atStart => exact ⟨(y324), (0), sq, H', ⟨Nat.le_refl _⟩, ⟨by (with_reducible repeat (first | apply Kd.R_alloc | apply Kd.R_drewN | apply Kd.R_drew)); exact HO326.out⟩, ⟨by (with_reducible repeat (first | refine blk_drewN ?_ _ | refine blk_drew ?_ | refine blk_alloc ?_ _)); exact BK323.out⟩, ⟨bel1 GE323.out⟩⟩
 case round =>
  clear H'; (try clear p2); (try clear hcz5_0); (try clear hcz5_1); (try clear hfz5_0); (try clear hfz5_1); obtain ⟨x3_1, x10_1, rfl, HA, HK1, HO_3, BK323, HB⟩ := hrel
  cases gk with
  | zero => exact absurd HA.out (by simp [impl_Book_words.l0])
  | succ k1 =>
   have H := HA.out; clear HA
   simp only [impl_Book_words.l0] at H
   by_cases c6 : x10_1 < (l0_1.length : Int)
   ·rw [if_pos c6] at H; have c6b0 := decide_eq_true c6; clear c6
    by_cases c7 : 0 ≤ x10_1
    ·rw [if_pos c7] at H; have c7b0 := decide_eq_true c7; clear c7
     by_cases c8 : x10_1 < (l0_1.length : Int)
     ·rw [if_pos c8] at H; have c8b0 := decide_eq_true c8; clear c8; replace H := Option.bind_eq_some_iff.mp H; obtain ⟨t329, A90, H⟩ := H; replace H : (if x3_1.length + t329.length < 8796093022208 then (impl_Book_words.l0 k1 (x3_1 ++ t329) l0_1 (l0_1.length : Int) (wrap64 (x10_1 + 1)) l0_0 l0_1) else (none)) = some r := H; have A9 := Aside0.mk A90; clear A90
      by_cases c10 : x3_1.length + t329.length < 8796093022208
      ·rw [if_pos c10] at H; have LMc10 := Aside0.mk c10; clear c10; obtain ⟨y332, hy332⟩ : ∃ y_ : List ByteArray, y_ = (x3_1 ++ t329) := ⟨_, rfl⟩
       replace H : (impl_Book_words.l0 k1 y332 l0_1 (l0_1.length : Int) (wrap64 (x10_1 + 1)) l0_0 l0_1) = some r := by first | (rw [hy332]; with_reducible exact H) | (have H2_ := (Option.bind_some _ _).symm.trans H; rw [hy332]; with_reducible exact H2_) | (have H2_ := (Option.bind_some _ _).symm.trans H; with_reducible exact H2_) | with_reducible exact H | (rw [hy332]; exact H) | exact H
       have Ny332 := am hy332; clear hy332
       have H' := am H
       clear H
       have p327 : 0 ≤ (x10_1 : Int) := of_decide_eq_true ad
       have q327 : x10_1 < (l0_1.length : Int) := of_decide_eq_true ad
       obtain ⟨ad327, e327, hx327_0, hx327_1⟩ := at_T31 HR0_1.out x10_1 p327 q327
       cases e327
       replace hx327_0 := kp HB.out hx327_0; replace hx327_1 := kp HB.out hx327_1; replace p327 := eq_true p327; replace q327 := eq_true q327
       go_wp2_with (first | ((with_reducible refine gate_dst (N := 5) rfl ?_); refine bx 5 (cs := #[.string (⟨#[]⟩ : ByteArray), .string (⟨#[]⟩ : ByteArray)]) (t := 31) ?_; intro gb328 hg w11 hbox hb; replace HO_3 := am (Kd.R_below (rq HO_3.out) hb); have BK328 := am (hbox); have GW328 := am ((by rw [hg]; exact (below_size (bel1 GE323.out)) : w.heap.size ≤ gb328)); have GE328 := am ((by rw [hg]; exact (below_size (bel1 GE323.out)) : w.heap.size ≤ gb328)); replace HB := am (below_step (bel1 GE323.out) hb); have NB323_328 := am ((by rw [hg]; exact Nat.ne_of_lt (blk_lt (g := gb323) (o := .cells #[.slice A0_0 l0_0.length c0_0, .slice (some ad327) l0_1.length c0_1] 55 (0, 0)) (bq BK323.out)) : gb323 ≠ gb328)); have NB328_323 := am ((by rw [hg]; exact Nat.ne_of_gt (blk_lt (g := gb323) (o := .cells #[.slice A0_0 l0_0.length c0_0, .slice (some ad327) l0_1.length c0_1] 55 (0, 0)) (bq BK323.out)) : gb328 ≠ gb323)); replace BK323 := am (blk_below (g := gb323) (o := .cells #[.slice A0_0 l0_0.length c0_0, .slice (some ad327) l0_1.length c0_1] 55 (0, 0)) (bq BK323.out) hb); clear hb hbox hg; have hnb12 := NB328_323.out; have hnc12 := NB323_328.out; have hcz13_0 := bc BK328.out 0; have hcz13_1 := bc BK328.out 1; have hfz13_0 := blk_frozen BK328.out 0; have hfz13_1 := blk_frozen BK328.out 1; have hcz14_0 := bc BK323.out 0; have hcz14_1 := bc BK323.out 1; have hfz14_0 := blk_frozen BK323.out 0; have hfz14_1 := blk_frozen BK323.out 1) | ((with_reducible refine gate_callee (f := 20) rfl ?_); refine goesL_ (some 18) rfl rfl Try.func20 (by kernel_rfl) rfl #[.slice A0_0 l0_0.length c0_0, .agg #[.string ((rd_T31 l0_1 x10_1).f0), .string ((rd_T31 l0_1 x10_1).f1)]] rfl mq ?_; (with_reducible refine (impl_Forms.calls k1 _ _ l0_0 ((rd_T31 l0_1 x10_1).f0) ((rd_T31 l0_1 x10_1).f1) t329 _ ?side1 ?side2 A9.out).mono ?_); (case side1 => exact Kd.C_below HR0_0.out (bel2 GE323.out GE328.out)); (case side2 => exact HC0_0.out); rintro e w15 ⟨v330, rfl, ho0, hb⟩; refine ⟨_, rfl, ?_⟩; have HO331 := am (Kd.R_lower (Kd.R_new' ho0 (Kd.R_lt (rq ((Kd.R_mono (Kd.R_far (p := ⟨gb328, 1, none⟩) (Kd.R_far (p := ⟨gb328, 0, none⟩) (Kd.R_types HO_3.out BK328.out (by decide)) (fun _ hk => hk.2) (.string ((rd_T31 l0_1 x10_1).f0))) (fun _ hk => hk.2) (.string ((rd_T31 l0_1 x10_1).f1))) (fun _ h_ => h_.1)))))) (below_size (bel2 GE323.out GE328.out))); replace HO_3 := am (Kd.R_elder' (rq ((Kd.R_mono (Kd.R_far (p := ⟨gb328, 1, none⟩) (Kd.R_far (p := ⟨gb328, 0, none⟩) (Kd.R_types HO_3.out BK328.out (by decide)) (fun _ hk => hk.2) (.string ((rd_T31 l0_1 x10_1).f0))) (fun _ hk => hk.2) (.string ((rd_T31 l0_1 x10_1).f1))) (fun _ h_ => h_.1)))) (Kd.R_base ho0) hb); replace BK323 := am (blk_below (g := gb323) (o := .cells #[.slice A0_0 l0_0.length c0_0, .slice (some ad327) l0_1.length c0_1] 55 (0, 0)) (by (with_reducible repeat (first | refine blk_drewN ?_ _ | refine blk_drew ?_ | refine blk_alloc ?_ _)); refine blk_far ?_ NB323_328.out _; (with_reducible repeat (first | refine blk_drewN ?_ _ | refine blk_drew ?_ | refine blk_alloc ?_ _)); refine blk_far ?_ NB323_328.out _; (with_reducible repeat (first | refine blk_drewN ?_ _ | refine blk_drew ?_ | refine blk_alloc ?_ _)); exact BK323.out) hb); replace BK328 := am (blk_below (g := gb328) (o := .cells #[.string ((rd_T31 l0_1 x10_1).f0), .string ((rd_T31 l0_1 x10_1).f1)] 31 (0, 0)) (by (with_reducible repeat (first | refine blk_drewN ?_ _ | refine blk_drew ?_ | refine blk_alloc ?_ _)); refine blk_put (cs := #[.string ((rd_T31 l0_1 x10_1).f0), .string (⟨#[]⟩ : ByteArray)]) ?_ 1 _ rfl; (with_reducible repeat (first | refine blk_drewN ?_ _ | refine blk_drew ?_ | refine blk_alloc ?_ _)); refine blk_put (cs := #[.string (⟨#[]⟩ : ByteArray), .string (⟨#[]⟩ : ByteArray)]) ?_ 0 _ rfl; (with_reducible repeat (first | refine blk_drewN ?_ _ | refine blk_drew ?_ | refine blk_alloc ?_ _)); exact BK328.out) hb); replace HB := am (below_step (bel2 GE323.out GE328.out) hb); (try clear hb); (try clear hb2); (try clear hk); (try clear hi); (try clear ho0); obtain ⟨Ao17, co17, eo17⟩ := Kd.R_slice HO331.out; subst eo17) | ((with_reducible refine gate_builtin (b := .append) (xs := #[.tmp 14, .tmp 18]) rfl ?_); at_builtin; refine Kd.R_append_rows Kd.string (w0 := w) w.heap.size rfl (.tmp 14) (.tmp 18) 27 9 (.string ⟨#[]⟩) 16 rfl Try.underlying27 info9 rfl (by decide) (by omega) u3 x3_1 t329 _ _ _ (fun k_ => some k_ ≠ (.slice Ao17 t329.length co17 : Value).ownBlock) (fun _ => False) rfl rfl ?aO ?aR (fun _ _ h => h) (fun _ h => h.elim) ?aF ?aB ?aS ?aL ?_; (case aR => exact cq (Kd.R_reads' HO331.out).2.2); (case aB => exact (bel2 GE323.out GE328.out)); (case aF => exact (fun k_ hk => Kd.fresh' (Kd.R_lt (rq HO331.out)) k_ hk)); (case aO => exact (rq (Kd.R_mono HO_3.out (fun _ hk => hk.2)))); (case aS => exact (below_size (bel2 GE323.out GE328.out))); (case aL => have := LMc10.out; omega); intro v333 w16 ho hb hg hat; rw [← Ny332.out] at ho; replace BK323 := am (blk_grown (g := gb323) (o := .cells #[.slice A0_0 l0_0.length c0_0, .slice (some ad327) l0_1.length c0_1] 55 (0, 0)) (bq BK323.out) hg (Kd.R_ne HO_3.out BK323.out (by decide))); replace BK328 := am (blk_grown (g := gb328) (o := .cells #[.string ((rd_T31 l0_1 x10_1).f0), .string ((rd_T31 l0_1 x10_1).f1)] 31 (0, 0)) (bq BK328.out) hg (Kd.R_ne HO_3.out BK328.out (by decide))); replace HO331 := am (Kd.R_after (ok := (fun _ => True)) (rq HO331.out) hg hat); replace HB := am (hb); have HO334 := am (ho); clear HO_3; clear ho hb hg hat))
       go_roundg k1
       case measure => have := HK1.out; omega
       case rel => exact ⟨(y332), (wrap64 (x10_1 + 1)), sq, H', ⟨by have := HK1.out; omega⟩, ⟨by (with_reducible repeat (first | apply Kd.R_alloc | apply Kd.R_drewN | apply Kd.R_drew)); exact Kd.R_mono HO334.out (fun _ hk => trivial)⟩, ⟨by (with_reducible repeat (first | refine blk_drewN ?_ _ | refine blk_drew ?_ | refine blk_alloc ?_ _)); exact BK323.out⟩, ⟨bel2 GE323.out GE328.out⟩⟩
      ·rw [if_neg c10] at H
       exact absurd H (by simp)
     ·rw [if_neg c8] at H
      exact absurd H (by simp)
    ·rw [if_neg c7] at H
     exact absurd H (by simp)
   ·rw [if_neg c6] at H; have c6b0 := decide_eq_false c6; clear c6; replace H := Option.bind_eq_some_iff.mp H; obtain ⟨t335, A180, H⟩ := H; replace H : (some t335) = some r := H; have A18 := Aside0.mk A180; clear A180; obtain rfl := Option.some.inj H; obtain ⟨Ao19, co19, eo19⟩ := Kd.R_slice HO_3.out; subst eo19
    go_wp2_with (first | ((with_reducible refine gate_callee (f := 60) rfl ?_); refine goesL_ (some 22) rfl rfl Try.func60 (by kernel_rfl) rfl #[.slice Ao19 x3_1.length co19] rfl mq ?_; (with_reducible refine (impl_sorted.calls _ _ x3_1 t335 _ ?side1 ?side2 A18.out).mono ?_); (case side1 => exact cq (Kd.R_reads' HO_3.out).2.2); (case side2 => exact (Kd.R_reads' HO_3.out).2.1); rintro e w20 ⟨v336, rfl, ho0, hb⟩; refine ⟨_, rfl, ?_⟩; have HO337 := am (Kd.R_lower (Kd.R_new' ho0 (Kd.R_lt (rq HO_3.out))) (below_size (bel1 GE323.out))); replace HO_3 := am (Kd.R_elder' (rq HO_3.out) (Kd.R_base ho0) hb); replace BK323 := am (blk_below (g := gb323) (o := .cells #[.slice A0_0 l0_0.length c0_0, .slice A0_1 l0_1.length c0_1] 55 (0, 0)) (bq BK323.out) hb); replace HB := am (below_step (bel1 GE323.out) hb); (try clear hb); (try clear hb2); (try clear hk); (try clear hi); (try clear ho0)))
    go_ret
    exact ⟨_, eq_, by (with_reducible repeat (first | apply Kd.R_alloc | apply Kd.R_drewN | apply Kd.R_drew)); exact Kd.R_mono HO337.out (fun _ hk => trivial), bel1 GE323.out⟩

/-! ### impl_BookWords: function 34 -/
def impl_BookWords.f (k : Nat) (l0_0 : List (S44)) (l0_1 : List (S31)) : Option (List ByteArray) := (impl_BookOk.f k l0_0 l0_1).bind fun t339 => (if t339 = true then ((impl_Book_words.f k l0_0 l0_1).bind fun t340 => (some t340)) else (some (([] : List ByteArray))))
theorem impl_BookWords.mono : ∀ a0 a1 k, LeO (impl_BookWords.f k a0 a1) (impl_BookWords.f (k + 1) a0 a1) := by
 intro a0 a1 k
 unfold impl_BookWords.f
 repeat' first | (with_reducible first | exact impl_BookOk.mono _ _ _ | exact impl_Book_words.mono _ _ _ | exact LeO.refl _ | exact LeO.none _ | refine LeO.ite ?_ ?_ | refine LeO.bind ?_ (fun _ => ?_)) | exact impl_BookOk.mono _ _ _ | exact impl_Book_words.mono _ _ _ | exact LeO.none _ | refine LeO.ite ?_ ?_ | refine LeO.bind ?_ (fun _ => ?_)
set_option maxHeartbeats 8000000 in
set_option maxRecDepth 100000 in
theorem impl_BookWords.calls (k : Nat) (A0_0 : Option Addr) (c0_0 : Nat) (l0_0 : List (S44)) (A0_1 : Option Addr) (c0_1 : Nat) (l0_1 : List (S31)) (r : List ByteArray) (w : World) (hr0_0 : Kd.C k44 w A0_0 l0_0.length l0_0) (hc0_0 : l0_0.length ≤ c0_0) (hr0_1 : Kd.C k31 w A0_1 l0_1.length l0_1) (hc0_1 : l0_1.length ≤ c0_1) (h : impl_BookWords.f k l0_0 l0_1 = some r) :
  Calls Try.prog 34 #[.agg #[.slice A0_0 l0_0.length c0_0, .slice A0_1 l0_1.length c0_1]] w fun e w' => ∃ v0_ : Value, e = .returned (v0_) ∧ Kd.R Kd.string 9 w' w.heap.size (fun _ => True) v0_ r ∧ Below w.heap.size w w' := by
 have hu55 := Try.underlying55; have HR0_0 := am hr0_0; have HC0_0 := am hc0_0; clear hr0_0 hc0_0; have HR0_1 := am hr0_1; have HC0_1 := am hc0_1; clear hr0_1 hc0_1; have HB := am (Below.refl w.heap.size w)
 have H : ((impl_BookOk.f k l0_0 l0_1).bind fun t339 => (if t339 = true then ((impl_Book_words.f k l0_0 l0_1).bind fun t340 => (some t340)) else (some (([] : List ByteArray))))) = some r := h
 clear h; replace H := Option.bind_eq_some_iff.mp H; obtain ⟨t339, A20, H⟩ := H; replace H : (if t339 = true then ((impl_Book_words.f k l0_0 l0_1).bind fun t340 => (some t340)) else (some (([] : List ByteArray)))) = some r := H; have A2 := Aside0.mk A20; clear A20
 by_cases c3 : t339 = true
 ·subst c3
  have H1 : ((impl_Book_words.f k l0_0 l0_1).bind fun t340 => (some t340)) = some r := by rw [if_pos rfl] at H; exact H
  clear H; have H := H1; clear H1; replace H := Option.bind_eq_some_iff.mp H; obtain ⟨t340, A40, H⟩ := H; replace H : (some t340) = some r := H; have A4 := Aside0.mk A40; clear A40; obtain rfl := Option.some.inj H; go_enter Try.func34, Try.ntmps34
  go_wp2_with (first | ((with_reducible refine gate_dst (N := 1) rfl ?_); refine bx 1 (cs := #[.slice A0_0 l0_0.length c0_0, .slice A0_1 l0_1.length c0_1]) (t := 55) ?_; intro gb338 hg w5 hbox hb; have BK338 := am (hbox); have GW338 := am ((by rw [hg]; exact (below_size bel) : w.heap.size ≤ gb338)); have GE338 := am ((by rw [hg]; exact (below_size bel) : w.heap.size ≤ gb338)); replace HB := am (below_step bel hb); clear hb hbox hg; have hcz6_0 := bc BK338.out 0; have hcz6_1 := bc BK338.out 1; have hfz6_0 := blk_frozen BK338.out 0; have hfz6_1 := blk_frozen BK338.out 1) | ((with_reducible refine gate_callee (f := 38) rfl ?_); refine goesL_ (some 4) rfl rfl Try.func38 (by kernel_rfl) rfl #[.agg #[.slice A0_0 l0_0.length c0_0, .slice A0_1 l0_1.length c0_1]] rfl mq ?_; (with_reducible refine (impl_BookOk.calls k _ _ l0_0 _ _ l0_1 true _ ?side1 ?side2 ?side3 ?side4 A2.out).mono ?_); (case side1 => exact cq (Kd.C_below HR0_0.out HB.out)); (case side2 => exact HC0_0.out); (case side3 => exact cq (Kd.C_below HR0_1.out HB.out)); (case side4 => exact HC0_1.out); rintro e w7 ⟨rfl, hb⟩; refine ⟨_, rfl, ?_⟩; replace BK338 := am (blk_below (g := gb338) (o := .cells #[.slice A0_0 l0_0.length c0_0, .slice A0_1 l0_1.length c0_1] 55 (0, 0)) (bq BK338.out) hb); replace HB := am (below_step (bel1 GE338.out) hb); (try clear hb); (try clear hb2); (try clear hk); (try clear hi); have hcz8_0 := bc BK338.out 0; have hcz8_1 := bc BK338.out 1; have hfz8_0 := blk_frozen BK338.out 0; have hfz8_1 := blk_frozen BK338.out 1) | ((with_reducible refine gate_callee (f := 77) rfl ?_); refine goesL_ (some 8) rfl rfl Try.func77 (by kernel_rfl) rfl #[.agg #[.slice A0_0 l0_0.length c0_0, .slice A0_1 l0_1.length c0_1]] rfl mq ?_; (with_reducible refine (impl_Book_words.calls k _ _ l0_0 _ _ l0_1 t340 _ ?side1 ?side2 ?side3 ?side4 A4.out).mono ?_); (case side1 => exact cq (Kd.C_below HR0_0.out HB.out)); (case side2 => exact HC0_0.out); (case side3 => exact cq (Kd.C_below HR0_1.out HB.out)); (case side4 => exact HC0_1.out); rintro e w9 ⟨v341, rfl, ho0, hb⟩; refine ⟨_, rfl, ?_⟩; have HO342 := am (Kd.R_lower ho0 (below_size (bel1 GE338.out))); replace BK338 := am (blk_below (g := gb338) (o := .cells #[.slice A0_0 l0_0.length c0_0, .slice A0_1 l0_1.length c0_1] 55 (0, 0)) (bq BK338.out) hb); replace HB := am (below_step (bel1 GE338.out) hb); (try clear hb); (try clear hb2); (try clear hk); (try clear hi); (try clear ho0)))
  go_ret
  exact ⟨_, eq_, by (with_reducible repeat (first | apply Kd.R_alloc | apply Kd.R_drewN | apply Kd.R_drew)); exact HO342.out, bel1 GE338.out⟩
 ·replace c3 := Bool.eq_false_iff.mpr c3; subst c3
  have H1 : (some (([] : List ByteArray))) = some r := by rw [if_neg (show ¬ (false = true) by decide)] at H; exact H
  clear H; have H := H1; clear H1; obtain ⟨y343, hy343⟩ : ∃ y_ : List ByteArray, y_ = (([] : List ByteArray)) := ⟨_, rfl⟩
  replace H : (some y343) = some r := by first | (rw [hy343]; with_reducible exact H) | (have H2_ := (Option.bind_some _ _).symm.trans H; rw [hy343]; with_reducible exact H2_) | (have H2_ := (Option.bind_some _ _).symm.trans H; with_reducible exact H2_) | with_reducible exact H | (rw [hy343]; exact H) | exact H
  have Ny343 := am hy343; clear hy343; obtain rfl := Option.some.inj H; go_enter Try.func34, Try.ntmps34
  go_wp2_with (first | ((with_reducible refine gate_dst (N := 1) rfl ?_); refine bx 1 (cs := #[.slice A0_0 l0_0.length c0_0, .slice A0_1 l0_1.length c0_1]) (t := 55) ?_; intro gb338 hg w10 hbox hb; have BK338 := am (hbox); have GW338 := am ((by rw [hg]; exact (below_size bel) : w.heap.size ≤ gb338)); have GE338 := am ((by rw [hg]; exact (below_size bel) : w.heap.size ≤ gb338)); replace HB := am (below_step bel hb); clear hb hbox hg; have hcz11_0 := bc BK338.out 0; have hcz11_1 := bc BK338.out 1; have hfz11_0 := blk_frozen BK338.out 0; have hfz11_1 := blk_frozen BK338.out 1) | ((with_reducible refine gate_callee (f := 38) rfl ?_); refine goesL_ (some 4) rfl rfl Try.func38 (by kernel_rfl) rfl #[.agg #[.slice A0_0 l0_0.length c0_0, .slice A0_1 l0_1.length c0_1]] rfl mq ?_; (with_reducible refine (impl_BookOk.calls k _ _ l0_0 _ _ l0_1 false _ ?side1 ?side2 ?side3 ?side4 A2.out).mono ?_); (case side1 => exact cq (Kd.C_below HR0_0.out HB.out)); (case side2 => exact HC0_0.out); (case side3 => exact cq (Kd.C_below HR0_1.out HB.out)); (case side4 => exact HC0_1.out); rintro e w12 ⟨rfl, hb⟩; refine ⟨_, rfl, ?_⟩; replace BK338 := am (blk_below (g := gb338) (o := .cells #[.slice A0_0 l0_0.length c0_0, .slice A0_1 l0_1.length c0_1] 55 (0, 0)) (bq BK338.out) hb); replace HB := am (below_step (bel1 GE338.out) hb); (try clear hb); (try clear hb2); (try clear hk); (try clear hi)) | ((with_reducible refine gate_dst (N := 6) rfl ?_); refine Kd.R_lit Kd.string _ 9 ?hg (N := 6) ?hd (xs := ([] : List ByteArray)) (inner := []) (ok := fun _ => True) (okp := fun _ => True) ?hr ?hp (fun _ hk => hk) trivial (Below.refl _ _) (Nat.le_refl _) (by simp) ?_; (case hd => rfl); (case hg => rfl); (case hr => first | (go_simp; done) | (go_simp; rfl)); (case hp => exact (Reps.none _ _)); intro v344 w13 ho14 hb hg_ hnew_; clear hg_ hnew_; (first | rw [← Ny343.out] at ho14 | (simp only [Int.reduceToNat] at ho14; rw [← Ny343.out] at ho14) | (simp only [Int.toNat_natCast] at ho14; rw [← Ny343.out] at ho14)); have HO345 := am (Kd.R_lower ho14 (below_size (bel1 GE338.out))); replace BK338 := am (blk_below (g := gb338) (o := .cells #[.slice A0_0 l0_0.length c0_0, .slice A0_1 l0_1.length c0_1] 55 (0, 0)) (bq BK338.out) hb); replace HB := am (below_step (bel1 GE338.out) hb); clear hb ho14))
  go_ret
  exact ⟨_, eq_, by (with_reducible repeat (first | apply Kd.R_alloc | apply Kd.R_drewN | apply Kd.R_drew)); exact HO345.out, bel1 GE338.out⟩

/-! ### laws_eqAffix: function 61 -/
def laws_eqAffix.f (a0_0 : ByteArray) (a0_1 : Bool) (a0_2 : ByteArray) (a0_3 : ByteArray) (a0_4 : ByteArray) (a1_0 : ByteArray) (a1_1 : Bool) (a1_2 : ByteArray) (a1_3 : ByteArray) (a1_4 : ByteArray) : Option (Bool) := if a0_0.toList = a1_0.toList then (if (a0_1 != a1_1) = true then (some false) else (if a0_2.toList = a1_2.toList then (if a0_3.toList = a1_3.toList then (if a0_4.toList = a1_4.toList then (some true) else (some false)) else (some false)) else (some false))) else (some false)
set_option maxHeartbeats 8000000 in
set_option maxRecDepth 100000 in
theorem laws_eqAffix.calls (a0_0 : ByteArray) (a0_1 : Bool) (a0_2 : ByteArray) (a0_3 : ByteArray) (a0_4 : ByteArray) (a1_0 : ByteArray) (a1_1 : Bool) (a1_2 : ByteArray) (a1_3 : ByteArray) (a1_4 : ByteArray) (r : Bool) (w : World) (h : laws_eqAffix.f a0_0 a0_1 a0_2 a0_3 a0_4 a1_0 a1_1 a1_2 a1_3 a1_4 = some r) :
  Calls Try.prog 61 #[.agg #[.string a0_0, .bool a0_1, .string a0_2, .string a0_3, .string a0_4], .agg #[.string a1_0, .bool a1_1, .string a1_2, .string a1_3, .string a1_4]] w fun e w' => e = .returned (.bool r) ∧ Below w.heap.size w w' := by
 have hu44 := Try.underlying44; have HB := am (Below.refl w.heap.size w)
 have H : (if a0_0.toList = a1_0.toList then (if (a0_1 != a1_1) = true then (some false) else (if a0_2.toList = a1_2.toList then (if a0_3.toList = a1_3.toList then (if a0_4.toList = a1_4.toList then (some true) else (some false)) else (some false)) else (some false))) else (some false)) = some r := h
 clear h
 by_cases c3 : a0_0.toList = a1_0.toList
 ·rw [if_pos c3] at H
  have c3b0 : (a0_0.toList == a1_0.toList) = true := beq_iff_eq.mpr c3
  have c3b1 : (a0_0.toList != a1_0.toList) = false := bne_eq_false_iff_eq.mpr c3
  clear c3
  by_cases c4 : (a0_1 != a1_1) = true
  ·rw [if_pos c4] at H
   have c4b0 : (a0_1 != a1_1) = true := c4
   (try (have c4b1 : decide (a0_1 = a1_1) = false := by simpa using c4))
   (try (have c4b2 : (a0_1 == a1_1) = false := by simpa using c4))
   (try (have c4b3 : ¬ (a0_1 = a1_1) := by simpa using c4))
   clear c4; obtain rfl := Option.some.inj H; go_enter Try.func61, Try.ntmps61
   go_wp2_with (first | ((with_reducible refine gate_dst (N := 2) rfl ?_); refine bx 2 (cs := #[.string a0_0, .bool a0_1, .string a0_2, .string a0_3, .string a0_4]) (t := 44) ?_; intro gb346 hg w5 hbox hb; have BK346 := am (hbox); have GW346 := am ((by rw [hg]; exact (below_size bel) : w.heap.size ≤ gb346)); have GE346 := am ((by rw [hg]; exact (below_size bel) : w.heap.size ≤ gb346)); replace HB := am (below_step bel hb); clear hb hbox hg) | ((with_reducible refine gate_dst (N := 3) rfl ?_); refine bx 3 (cs := #[.string a1_0, .bool a1_1, .string a1_2, .string a1_3, .string a1_4]) (t := 44) ?_; intro gb347 hg w6 hbox hb; have BK347 := am (hbox); have GW347 := am ((by rw [hg]; exact (below_size (bel1 GE346.out)) : w.heap.size ≤ gb347)); have GE347 := am ((by rw [hg]; exact (below_size (bel1 GE346.out)) : w.heap.size ≤ gb347)); replace HB := am (below_step (bel1 GE346.out) hb); have NB346_347 := am ((by rw [hg]; exact Nat.ne_of_lt (blk_lt (g := gb346) (o := .cells #[.string a0_0, .bool a0_1, .string a0_2, .string a0_3, .string a0_4] 44 (0, 0)) (bq BK346.out)) : gb346 ≠ gb347)); have NB347_346 := am ((by rw [hg]; exact Nat.ne_of_gt (blk_lt (g := gb346) (o := .cells #[.string a0_0, .bool a0_1, .string a0_2, .string a0_3, .string a0_4] 44 (0, 0)) (bq BK346.out)) : gb347 ≠ gb346)); replace BK346 := am (blk_below (g := gb346) (o := .cells #[.string a0_0, .bool a0_1, .string a0_2, .string a0_3, .string a0_4] 44 (0, 0)) (bq BK346.out) hb); clear hb hbox hg; have hnb7 := NB346_347.out; have hnc7 := NB347_346.out; have hcz8_0 := bc BK346.out 0; have hcz8_1 := bc BK346.out 1; have hcz8_2 := bc BK346.out 2; have hcz8_3 := bc BK346.out 3; have hcz8_4 := bc BK346.out 4; have hfz8_0 := blk_frozen BK346.out 0; have hfz8_1 := blk_frozen BK346.out 1; have hfz8_2 := blk_frozen BK346.out 2; have hfz8_3 := blk_frozen BK346.out 3; have hfz8_4 := blk_frozen BK346.out 4; have hcz9_0 := bc BK347.out 0; have hcz9_1 := bc BK347.out 1; have hcz9_2 := bc BK347.out 2; have hcz9_3 := bc BK347.out 3; have hcz9_4 := bc BK347.out 4; have hfz9_0 := blk_frozen BK347.out 0; have hfz9_1 := blk_frozen BK347.out 1; have hfz9_2 := blk_frozen BK347.out 2; have hfz9_3 := blk_frozen BK347.out 3; have hfz9_4 := blk_frozen BK347.out 4))
   go_ret
   exact ⟨eq_, bel2 GE346.out GE347.out⟩
  ·rw [if_neg c4] at H
   have c4b0 : (a0_1 != a1_1) = false := by simpa using c4
   (try (have c4b1 : decide (a0_1 = a1_1) = true := by simpa using c4))
   (try (have c4b2 : (a0_1 == a1_1) = true := by simpa using c4))
   clear c4
   by_cases c10 : a0_2.toList = a1_2.toList
   ·rw [if_pos c10] at H
    have c10b0 : (a0_2.toList == a1_2.toList) = true := beq_iff_eq.mpr c10
    have c10b1 : (a0_2.toList != a1_2.toList) = false := bne_eq_false_iff_eq.mpr c10
    clear c10
    by_cases c11 : a0_3.toList = a1_3.toList
    ·rw [if_pos c11] at H
     have c11b0 : (a0_3.toList == a1_3.toList) = true := beq_iff_eq.mpr c11
     have c11b1 : (a0_3.toList != a1_3.toList) = false := bne_eq_false_iff_eq.mpr c11
     clear c11
     by_cases c12 : a0_4.toList = a1_4.toList
     ·rw [if_pos c12] at H
      have c12b0 : (a0_4.toList == a1_4.toList) = true := beq_iff_eq.mpr c12
      have c12b1 : (a0_4.toList != a1_4.toList) = false := bne_eq_false_iff_eq.mpr c12
      clear c12; obtain rfl := Option.some.inj H; go_enter Try.func61, Try.ntmps61
      go_wp2_with (first | ((with_reducible refine gate_dst (N := 2) rfl ?_); refine bx 2 (cs := #[.string a0_0, .bool a0_1, .string a0_2, .string a0_3, .string a0_4]) (t := 44) ?_; intro gb346 hg w13 hbox hb; have BK346 := am (hbox); have GW346 := am ((by rw [hg]; exact (below_size bel) : w.heap.size ≤ gb346)); have GE346 := am ((by rw [hg]; exact (below_size bel) : w.heap.size ≤ gb346)); replace HB := am (below_step bel hb); clear hb hbox hg) | ((with_reducible refine gate_dst (N := 3) rfl ?_); refine bx 3 (cs := #[.string a1_0, .bool a1_1, .string a1_2, .string a1_3, .string a1_4]) (t := 44) ?_; intro gb347 hg w14 hbox hb; have BK347 := am (hbox); have GW347 := am ((by rw [hg]; exact (below_size (bel1 GE346.out)) : w.heap.size ≤ gb347)); have GE347 := am ((by rw [hg]; exact (below_size (bel1 GE346.out)) : w.heap.size ≤ gb347)); replace HB := am (below_step (bel1 GE346.out) hb); have NB346_347 := am ((by rw [hg]; exact Nat.ne_of_lt (blk_lt (g := gb346) (o := .cells #[.string a0_0, .bool a0_1, .string a0_2, .string a0_3, .string a0_4] 44 (0, 0)) (bq BK346.out)) : gb346 ≠ gb347)); have NB347_346 := am ((by rw [hg]; exact Nat.ne_of_gt (blk_lt (g := gb346) (o := .cells #[.string a0_0, .bool a0_1, .string a0_2, .string a0_3, .string a0_4] 44 (0, 0)) (bq BK346.out)) : gb347 ≠ gb346)); replace BK346 := am (blk_below (g := gb346) (o := .cells #[.string a0_0, .bool a0_1, .string a0_2, .string a0_3, .string a0_4] 44 (0, 0)) (bq BK346.out) hb); clear hb hbox hg; have hnb15 := NB346_347.out; have hnc15 := NB347_346.out; have hcz16_0 := bc BK346.out 0; have hcz16_1 := bc BK346.out 1; have hcz16_2 := bc BK346.out 2; have hcz16_3 := bc BK346.out 3; have hcz16_4 := bc BK346.out 4; have hfz16_0 := blk_frozen BK346.out 0; have hfz16_1 := blk_frozen BK346.out 1; have hfz16_2 := blk_frozen BK346.out 2; have hfz16_3 := blk_frozen BK346.out 3; have hfz16_4 := blk_frozen BK346.out 4; have hcz17_0 := bc BK347.out 0; have hcz17_1 := bc BK347.out 1; have hcz17_2 := bc BK347.out 2; have hcz17_3 := bc BK347.out 3; have hcz17_4 := bc BK347.out 4; have hfz17_0 := blk_frozen BK347.out 0; have hfz17_1 := blk_frozen BK347.out 1; have hfz17_2 := blk_frozen BK347.out 2; have hfz17_3 := blk_frozen BK347.out 3; have hfz17_4 := blk_frozen BK347.out 4))
      go_ret
      exact ⟨eq_, bel2 GE346.out GE347.out⟩
     ·rw [if_neg c12] at H
      have c12b0 : (a0_4.toList == a1_4.toList) = false := beq_eq_false_iff_ne.mpr c12
      have c12b1 : (a0_4.toList != a1_4.toList) = true := bne_iff_ne.mpr c12
      obtain rfl := Option.some.inj H; go_enter Try.func61, Try.ntmps61
      go_wp2_with (first | ((with_reducible refine gate_dst (N := 2) rfl ?_); refine bx 2 (cs := #[.string a0_0, .bool a0_1, .string a0_2, .string a0_3, .string a0_4]) (t := 44) ?_; intro gb346 hg w18 hbox hb; have BK346 := am (hbox); have GW346 := am ((by rw [hg]; exact (below_size bel) : w.heap.size ≤ gb346)); have GE346 := am ((by rw [hg]; exact (below_size bel) : w.heap.size ≤ gb346)); replace HB := am (below_step bel hb); clear hb hbox hg) | ((with_reducible refine gate_dst (N := 3) rfl ?_); refine bx 3 (cs := #[.string a1_0, .bool a1_1, .string a1_2, .string a1_3, .string a1_4]) (t := 44) ?_; intro gb347 hg w19 hbox hb; have BK347 := am (hbox); have GW347 := am ((by rw [hg]; exact (below_size (bel1 GE346.out)) : w.heap.size ≤ gb347)); have GE347 := am ((by rw [hg]; exact (below_size (bel1 GE346.out)) : w.heap.size ≤ gb347)); replace HB := am (below_step (bel1 GE346.out) hb); have NB346_347 := am ((by rw [hg]; exact Nat.ne_of_lt (blk_lt (g := gb346) (o := .cells #[.string a0_0, .bool a0_1, .string a0_2, .string a0_3, .string a0_4] 44 (0, 0)) (bq BK346.out)) : gb346 ≠ gb347)); have NB347_346 := am ((by rw [hg]; exact Nat.ne_of_gt (blk_lt (g := gb346) (o := .cells #[.string a0_0, .bool a0_1, .string a0_2, .string a0_3, .string a0_4] 44 (0, 0)) (bq BK346.out)) : gb347 ≠ gb346)); replace BK346 := am (blk_below (g := gb346) (o := .cells #[.string a0_0, .bool a0_1, .string a0_2, .string a0_3, .string a0_4] 44 (0, 0)) (bq BK346.out) hb); clear hb hbox hg; have hnb20 := NB346_347.out; have hnc20 := NB347_346.out; have hcz21_0 := bc BK346.out 0; have hcz21_1 := bc BK346.out 1; have hcz21_2 := bc BK346.out 2; have hcz21_3 := bc BK346.out 3; have hcz21_4 := bc BK346.out 4; have hfz21_0 := blk_frozen BK346.out 0; have hfz21_1 := blk_frozen BK346.out 1; have hfz21_2 := blk_frozen BK346.out 2; have hfz21_3 := blk_frozen BK346.out 3; have hfz21_4 := blk_frozen BK346.out 4; have hcz22_0 := bc BK347.out 0; have hcz22_1 := bc BK347.out 1; have hcz22_2 := bc BK347.out 2; have hcz22_3 := bc BK347.out 3; have hcz22_4 := bc BK347.out 4; have hfz22_0 := blk_frozen BK347.out 0; have hfz22_1 := blk_frozen BK347.out 1; have hfz22_2 := blk_frozen BK347.out 2; have hfz22_3 := blk_frozen BK347.out 3; have hfz22_4 := blk_frozen BK347.out 4))
      go_ret
      exact ⟨eq_, bel2 GE346.out GE347.out⟩
    ·rw [if_neg c11] at H
     have c11b0 : (a0_3.toList == a1_3.toList) = false := beq_eq_false_iff_ne.mpr c11
     have c11b1 : (a0_3.toList != a1_3.toList) = true := bne_iff_ne.mpr c11
     obtain rfl := Option.some.inj H; go_enter Try.func61, Try.ntmps61
     go_wp2_with (first | ((with_reducible refine gate_dst (N := 2) rfl ?_); refine bx 2 (cs := #[.string a0_0, .bool a0_1, .string a0_2, .string a0_3, .string a0_4]) (t := 44) ?_; intro gb346 hg w23 hbox hb; have BK346 := am (hbox); have GW346 := am ((by rw [hg]; exact (below_size bel) : w.heap.size ≤ gb346)); have GE346 := am ((by rw [hg]; exact (below_size bel) : w.heap.size ≤ gb346)); replace HB := am (below_step bel hb); clear hb hbox hg) | ((with_reducible refine gate_dst (N := 3) rfl ?_); refine bx 3 (cs := #[.string a1_0, .bool a1_1, .string a1_2, .string a1_3, .string a1_4]) (t := 44) ?_; intro gb347 hg w24 hbox hb; have BK347 := am (hbox); have GW347 := am ((by rw [hg]; exact (below_size (bel1 GE346.out)) : w.heap.size ≤ gb347)); have GE347 := am ((by rw [hg]; exact (below_size (bel1 GE346.out)) : w.heap.size ≤ gb347)); replace HB := am (below_step (bel1 GE346.out) hb); have NB346_347 := am ((by rw [hg]; exact Nat.ne_of_lt (blk_lt (g := gb346) (o := .cells #[.string a0_0, .bool a0_1, .string a0_2, .string a0_3, .string a0_4] 44 (0, 0)) (bq BK346.out)) : gb346 ≠ gb347)); have NB347_346 := am ((by rw [hg]; exact Nat.ne_of_gt (blk_lt (g := gb346) (o := .cells #[.string a0_0, .bool a0_1, .string a0_2, .string a0_3, .string a0_4] 44 (0, 0)) (bq BK346.out)) : gb347 ≠ gb346)); replace BK346 := am (blk_below (g := gb346) (o := .cells #[.string a0_0, .bool a0_1, .string a0_2, .string a0_3, .string a0_4] 44 (0, 0)) (bq BK346.out) hb); clear hb hbox hg; have hnb25 := NB346_347.out; have hnc25 := NB347_346.out; have hcz26_0 := bc BK346.out 0; have hcz26_1 := bc BK346.out 1; have hcz26_2 := bc BK346.out 2; have hcz26_3 := bc BK346.out 3; have hcz26_4 := bc BK346.out 4; have hfz26_0 := blk_frozen BK346.out 0; have hfz26_1 := blk_frozen BK346.out 1; have hfz26_2 := blk_frozen BK346.out 2; have hfz26_3 := blk_frozen BK346.out 3; have hfz26_4 := blk_frozen BK346.out 4; have hcz27_0 := bc BK347.out 0; have hcz27_1 := bc BK347.out 1; have hcz27_2 := bc BK347.out 2; have hcz27_3 := bc BK347.out 3; have hcz27_4 := bc BK347.out 4; have hfz27_0 := blk_frozen BK347.out 0; have hfz27_1 := blk_frozen BK347.out 1; have hfz27_2 := blk_frozen BK347.out 2; have hfz27_3 := blk_frozen BK347.out 3; have hfz27_4 := blk_frozen BK347.out 4))
     go_ret
     exact ⟨eq_, bel2 GE346.out GE347.out⟩
   ·rw [if_neg c10] at H
    have c10b0 : (a0_2.toList == a1_2.toList) = false := beq_eq_false_iff_ne.mpr c10
    have c10b1 : (a0_2.toList != a1_2.toList) = true := bne_iff_ne.mpr c10
    obtain rfl := Option.some.inj H; go_enter Try.func61, Try.ntmps61
    go_wp2_with (first | ((with_reducible refine gate_dst (N := 2) rfl ?_); refine bx 2 (cs := #[.string a0_0, .bool a0_1, .string a0_2, .string a0_3, .string a0_4]) (t := 44) ?_; intro gb346 hg w28 hbox hb; have BK346 := am (hbox); have GW346 := am ((by rw [hg]; exact (below_size bel) : w.heap.size ≤ gb346)); have GE346 := am ((by rw [hg]; exact (below_size bel) : w.heap.size ≤ gb346)); replace HB := am (below_step bel hb); clear hb hbox hg) | ((with_reducible refine gate_dst (N := 3) rfl ?_); refine bx 3 (cs := #[.string a1_0, .bool a1_1, .string a1_2, .string a1_3, .string a1_4]) (t := 44) ?_; intro gb347 hg w29 hbox hb; have BK347 := am (hbox); have GW347 := am ((by rw [hg]; exact (below_size (bel1 GE346.out)) : w.heap.size ≤ gb347)); have GE347 := am ((by rw [hg]; exact (below_size (bel1 GE346.out)) : w.heap.size ≤ gb347)); replace HB := am (below_step (bel1 GE346.out) hb); have NB346_347 := am ((by rw [hg]; exact Nat.ne_of_lt (blk_lt (g := gb346) (o := .cells #[.string a0_0, .bool a0_1, .string a0_2, .string a0_3, .string a0_4] 44 (0, 0)) (bq BK346.out)) : gb346 ≠ gb347)); have NB347_346 := am ((by rw [hg]; exact Nat.ne_of_gt (blk_lt (g := gb346) (o := .cells #[.string a0_0, .bool a0_1, .string a0_2, .string a0_3, .string a0_4] 44 (0, 0)) (bq BK346.out)) : gb347 ≠ gb346)); replace BK346 := am (blk_below (g := gb346) (o := .cells #[.string a0_0, .bool a0_1, .string a0_2, .string a0_3, .string a0_4] 44 (0, 0)) (bq BK346.out) hb); clear hb hbox hg; have hnb30 := NB346_347.out; have hnc30 := NB347_346.out; have hcz31_0 := bc BK346.out 0; have hcz31_1 := bc BK346.out 1; have hcz31_2 := bc BK346.out 2; have hcz31_3 := bc BK346.out 3; have hcz31_4 := bc BK346.out 4; have hfz31_0 := blk_frozen BK346.out 0; have hfz31_1 := blk_frozen BK346.out 1; have hfz31_2 := blk_frozen BK346.out 2; have hfz31_3 := blk_frozen BK346.out 3; have hfz31_4 := blk_frozen BK346.out 4; have hcz32_0 := bc BK347.out 0; have hcz32_1 := bc BK347.out 1; have hcz32_2 := bc BK347.out 2; have hcz32_3 := bc BK347.out 3; have hcz32_4 := bc BK347.out 4; have hfz32_0 := blk_frozen BK347.out 0; have hfz32_1 := blk_frozen BK347.out 1; have hfz32_2 := blk_frozen BK347.out 2; have hfz32_3 := blk_frozen BK347.out 3; have hfz32_4 := blk_frozen BK347.out 4))
    go_ret
    exact ⟨eq_, bel2 GE346.out GE347.out⟩
 ·rw [if_neg c3] at H
  have c3b0 : (a0_0.toList == a1_0.toList) = false := beq_eq_false_iff_ne.mpr c3
  have c3b1 : (a0_0.toList != a1_0.toList) = true := bne_iff_ne.mpr c3
  obtain rfl := Option.some.inj H; go_enter Try.func61, Try.ntmps61
  go_wp2_with (first | ((with_reducible refine gate_dst (N := 2) rfl ?_); refine bx 2 (cs := #[.string a0_0, .bool a0_1, .string a0_2, .string a0_3, .string a0_4]) (t := 44) ?_; intro gb346 hg w33 hbox hb; have BK346 := am (hbox); have GW346 := am ((by rw [hg]; exact (below_size bel) : w.heap.size ≤ gb346)); have GE346 := am ((by rw [hg]; exact (below_size bel) : w.heap.size ≤ gb346)); replace HB := am (below_step bel hb); clear hb hbox hg) | ((with_reducible refine gate_dst (N := 3) rfl ?_); refine bx 3 (cs := #[.string a1_0, .bool a1_1, .string a1_2, .string a1_3, .string a1_4]) (t := 44) ?_; intro gb347 hg w34 hbox hb; have BK347 := am (hbox); have GW347 := am ((by rw [hg]; exact (below_size (bel1 GE346.out)) : w.heap.size ≤ gb347)); have GE347 := am ((by rw [hg]; exact (below_size (bel1 GE346.out)) : w.heap.size ≤ gb347)); replace HB := am (below_step (bel1 GE346.out) hb); have NB346_347 := am ((by rw [hg]; exact Nat.ne_of_lt (blk_lt (g := gb346) (o := .cells #[.string a0_0, .bool a0_1, .string a0_2, .string a0_3, .string a0_4] 44 (0, 0)) (bq BK346.out)) : gb346 ≠ gb347)); have NB347_346 := am ((by rw [hg]; exact Nat.ne_of_gt (blk_lt (g := gb346) (o := .cells #[.string a0_0, .bool a0_1, .string a0_2, .string a0_3, .string a0_4] 44 (0, 0)) (bq BK346.out)) : gb347 ≠ gb346)); replace BK346 := am (blk_below (g := gb346) (o := .cells #[.string a0_0, .bool a0_1, .string a0_2, .string a0_3, .string a0_4] 44 (0, 0)) (bq BK346.out) hb); clear hb hbox hg; have hnb35 := NB346_347.out; have hnc35 := NB347_346.out; have hcz36_0 := bc BK346.out 0; have hcz36_1 := bc BK346.out 1; have hcz36_2 := bc BK346.out 2; have hcz36_3 := bc BK346.out 3; have hcz36_4 := bc BK346.out 4; have hfz36_0 := blk_frozen BK346.out 0; have hfz36_1 := blk_frozen BK346.out 1; have hfz36_2 := blk_frozen BK346.out 2; have hfz36_3 := blk_frozen BK346.out 3; have hfz36_4 := blk_frozen BK346.out 4; have hcz37_0 := bc BK347.out 0; have hcz37_1 := bc BK347.out 1; have hcz37_2 := bc BK347.out 2; have hcz37_3 := bc BK347.out 3; have hcz37_4 := bc BK347.out 4; have hfz37_0 := blk_frozen BK347.out 0; have hfz37_1 := blk_frozen BK347.out 1; have hfz37_2 := blk_frozen BK347.out 2; have hfz37_3 := blk_frozen BK347.out 3; have hfz37_4 := blk_frozen BK347.out 4))
  go_ret
  exact ⟨eq_, bel2 GE346.out GE347.out⟩

/-! ### laws_eqAffixS: function 22 -/
def laws_eqAffixS.l0 : Nat → List (S44) → List (S44) → Int → Option (Bool)
 | 0, _, _, _ => none
 | k + 1, x0, x1, x5 => if x5 < (x0.length : Int) then (if 0 ≤ x5 then (if x5 < (x1.length : Int) then ((laws_eqAffix.f ((rd_T44 x0 x5).f0) ((rd_T44 x0 x5).f1) ((rd_T44 x0 x5).f2) ((rd_T44 x0 x5).f3) ((rd_T44 x0 x5).f4) ((rd_T44 x1 x5).f0) ((rd_T44 x1 x5).f1) ((rd_T44 x1 x5).f2) ((rd_T44 x1 x5).f3) ((rd_T44 x1 x5).f4)).bind fun t350 => (if t350 = true then (laws_eqAffixS.l0 k x0 x1 (wrap64 (x5 + 1))) else (some false))) else (none)) else (none)) else (some true)
def laws_eqAffixS.f (k : Nat) (l0 : List (S44)) (l1 : List (S44)) : Option (Bool) := if (l0.length : Int) = (l1.length : Int) then (laws_eqAffixS.l0 k l0 l1 0) else (some false)
theorem laws_eqAffixS.mono_l : ∀ k, (∀ y0 y1 y2, LeO (laws_eqAffixS.l0 k y0 y1 y2) (laws_eqAffixS.l0 (k + 1) y0 y1 y2))
 | 0 => fun _ _ _ r h => by simp [laws_eqAffixS.l0] at h
 | k + 1 => by
  have ih0 := laws_eqAffixS.mono_l k
  ·intro y0 y1 y2
   unfold laws_eqAffixS.l0
   repeat' first | (with_reducible first | exact ih0 _ _ _ | exact LeO.refl _ | exact LeO.none _ | refine LeO.ite ?_ ?_ | refine LeO.bind ?_ (fun _ => ?_)) | exact ih0 _ _ _ | exact LeO.none _ | refine LeO.ite ?_ ?_ | refine LeO.bind ?_ (fun _ => ?_)
theorem laws_eqAffixS.mono : ∀ a0 a1 k, LeO (laws_eqAffixS.f k a0 a1) (laws_eqAffixS.f (k + 1) a0 a1) := by
 intro a0 a1 k; have ih0 := laws_eqAffixS.mono_l k
 unfold laws_eqAffixS.f
 repeat' first | (with_reducible first | exact ih0 _ _ _ | exact LeO.refl _ | exact LeO.none _ | refine LeO.ite ?_ ?_ | refine LeO.bind ?_ (fun _ => ?_)) | exact ih0 _ _ _ | exact LeO.none _ | refine LeO.ite ?_ ?_ | refine LeO.bind ?_ (fun _ => ?_)
def laws_eqAffixS.T6 : Bool × List (List Nat × List Nat) := (true, [([], []), ([], []), ([0, 1], [0, 1]), ([2], [2]), ([], []), ([], []), ([4, 5], [4, 5]), ([6], [6]), ([3, 7], [3, 7]), ([8], [8])])
def laws_eqAffixS.B6 : List Nat := [0, 0, 3, 7, 0, 0, 48, 112, 255, 511]
theorem laws_eqAffixS.tab6 : rtab .any (opsOf Try.f22 6) = laws_eqAffixS.T6 := by kernel_rfl
theorem laws_eqAffixS.bits6 : waitsOk laws_eqAffixS.T6.2 laws_eqAffixS.B6 = true := by kernel_rfl
set_option maxHeartbeats 8000000 in
set_option maxRecDepth 100000 in
theorem laws_eqAffixS.calls (k : Nat) (A0 : Option Addr) (c0 : Nat) (l0 : List (S44)) (A1 : Option Addr) (c1 : Nat) (l1 : List (S44)) (r : Bool) (w : World) (hr0 : Kd.C k44 w A0 l0.length l0) (hc0 : l0.length ≤ c0) (hr1 : Kd.C k44 w A1 l1.length l1) (hc1 : l1.length ≤ c1) (h : laws_eqAffixS.f k l0 l1 = some r) :
  Calls Try.prog 22 #[.slice A0 l0.length c0, .slice A1 l1.length c1] w fun e w' => e = .returned (.bool r) ∧ Below w.heap.size w w' := by
 have hu44 := Try.underlying44; have HR0 := am hr0; have HC0 := am hc0; clear hr0 hc0; have HR1 := am hr1; have HC1 := am hc1; clear hr1 hc1; have HB := am (Below.refl w.heap.size w)
 have H : (if (l0.length : Int) = (l1.length : Int) then (laws_eqAffixS.l0 k l0 l1 0) else (some false)) = some r := h
 clear h
 by_cases c3 : (l0.length : Int) = (l1.length : Int)
 ·rw [if_pos c3] at H
  have c3b0 : ((l0.length : Int) == (l1.length : Int)) = true := beq_iff_eq.mpr c3
  have c3b1 : ((l0.length : Int) != (l1.length : Int)) = false := bne_eq_false_iff_eq.mpr c3
  have c3b2 : (l0.length == l1.length) = true := by first | simpa using c3 | (simp at c3 ⊢; omega)
  clear c3
  have H' := am H
  clear H; go_enter Try.func22, Try.ntmps22; go_wp2
  go_loopg [5] k (fun kq v5 w' => ∃ (x5_1 : Int), v5 = .int .i64 x5_1 ∧ Aside0 (laws_eqAffixS.l0 kq l0 l1 x5_1 = some r) ∧ Aside0 (kq ≤ k) ∧ Aside0 (Below w.heap.size w w'))
  case atStart => exact ⟨(0), sq, H', ⟨Nat.le_refl _⟩, ⟨bel⟩⟩
  case round =>
   clear H'; (try clear c1); (try clear c2); (try clear p2); (try clear c3); (try clear c3b0); (try clear c3b1); (try clear c3b2); obtain ⟨x5_1, rfl, HA, HK1, HB⟩ := hrel
   cases gk with
   | zero => exact absurd HA.out (by simp [laws_eqAffixS.l0])
   | succ k1 =>
    have H := HA.out; clear HA
    simp only [laws_eqAffixS.l0] at H
    by_cases c4 : x5_1 < (l0.length : Int)
    ·rw [if_pos c4] at H; have c4b0 := decide_eq_true c4; clear c4
     by_cases c5 : 0 ≤ x5_1
     ·rw [if_pos c5] at H; have c5b0 := decide_eq_true c5; clear c5
      by_cases c6 : x5_1 < (l1.length : Int)
      ·rw [if_pos c6] at H; have c6b0 := decide_eq_true c6; clear c6; replace H := Option.bind_eq_some_iff.mp H; obtain ⟨t350, A70, H⟩ := H; replace H : (if t350 = true then (laws_eqAffixS.l0 k1 l0 l1 (wrap64 (x5_1 + 1))) else (some false)) = some r := H; have A7 := Aside0.mk A70; clear A70
       by_cases c8 : t350 = true
       ·subst c8
        have H1 : (laws_eqAffixS.l0 k1 l0 l1 (wrap64 (x5_1 + 1))) = some r := by rw [if_pos rfl] at H; exact H
        clear H; have H := H1; clear H1
        have H' := am H
        clear H
        try go_wp2
        replace HB := am (below_drew1 HB.out)
        have p348 : 0 ≤ (x5_1 : Int) := of_decide_eq_true ad
        have q348 : x5_1 < (l0.length : Int) := of_decide_eq_true ad
        obtain ⟨ad348, e348, hx348_0, hx348_1, hx348_2, hx348_3, hx348_4⟩ := at_T44 HR0.out x5_1 p348 q348; have hw348_4 := hx348_4; have hw348_3 := hx348_3; have hw348_2 := hx348_2; have hw348_1 := hx348_1; have hw348_0 := hx348_0
        cases e348
        replace hx348_0 := kp HB.out hx348_0; replace hx348_1 := kp HB.out hx348_1; replace hx348_2 := kp HB.out hx348_2; replace hx348_3 := kp HB.out hx348_3; replace hx348_4 := kp HB.out hx348_4; replace p348 := eq_true p348; replace q348 := eq_true q348
        have p349 : 0 ≤ (x5_1 : Int) := of_decide_eq_true ad
        have q349 : x5_1 < (l1.length : Int) := of_decide_eq_true ad
        obtain ⟨ad349, e349, hx349_0, hx349_1, hx349_2, hx349_3, hx349_4⟩ := at_T44 HR1.out x5_1 p349 q349; have hw349_4 := hx349_4; have hw349_3 := hx349_3; have hw349_2 := hx349_2; have hw349_1 := hx349_1; have hw349_0 := hx349_0
        cases e349
        replace hx349_0 := kp HB.out hx349_0; replace hx349_1 := kp HB.out hx349_1; replace hx349_2 := kp HB.out hx349_2; replace hx349_3 := kp HB.out hx349_3; replace hx349_4 := kp HB.out hx349_4; replace p349 := eq_true p349; replace q349 := eq_true q349
        refine start_ (n := 10) (S := fun w' => w'.cell? (ad348.add ((x5_1).toNat * 5)) = some (.string ((rd_T44 l0 x5_1).f0)) ∧ w'.cell? ⟨(ad348.add ((x5_1).toNat * 5)).block, (ad348.add ((x5_1).toNat * 5)).off + 1, none⟩ = some (.bool ((rd_T44 l0 x5_1).f1)) ∧ w'.cell? ⟨(ad348.add ((x5_1).toNat * 5)).block, (ad348.add ((x5_1).toNat * 5)).off + 2, none⟩ = some (.string ((rd_T44 l0 x5_1).f2)) ∧ w'.cell? ⟨(ad348.add ((x5_1).toNat * 5)).block, (ad348.add ((x5_1).toNat * 5)).off + 3, none⟩ = some (.string ((rd_T44 l0 x5_1).f3)) ∧ w'.cell? ⟨(ad348.add ((x5_1).toNat * 5)).block, (ad348.add ((x5_1).toNat * 5)).off + 4, none⟩ = some (.string ((rd_T44 l0 x5_1).f4)) ∧ w'.cell? (ad349.add ((x5_1).toNat * 5)) = some (.string ((rd_T44 l1 x5_1).f0)) ∧ w'.cell? ⟨(ad349.add ((x5_1).toNat * 5)).block, (ad349.add ((x5_1).toNat * 5)).off + 1, none⟩ = some (.bool ((rd_T44 l1 x5_1).f1)) ∧ w'.cell? ⟨(ad349.add ((x5_1).toNat * 5)).block, (ad349.add ((x5_1).toNat * 5)).off + 2, none⟩ = some (.string ((rd_T44 l1 x5_1).f2)) ∧ w'.cell? ⟨(ad349.add ((x5_1).toNat * 5)).block, (ad349.add ((x5_1).toNat * 5)).off + 3, none⟩ = some (.string ((rd_T44 l1 x5_1).f3)) ∧ w'.cell? ⟨(ad349.add ((x5_1).toNat * 5)).block, (ad349.add ((x5_1).toNat * 5)).off + 4, none⟩ = some (.string ((rd_T44 l1 x5_1).f4))) (ds := []) #[false, false, false, false, false, false, false, false, false, false] (by kernel_rfl) rfl rfl ⟨((HB.out.cell (World.block_lt_of_cell? w _ hw348_0)).trans hw348_0), ((HB.out.cell (World.block_lt_of_cell? w _ hw348_1)).trans hw348_1), ((HB.out.cell (World.block_lt_of_cell? w _ hw348_2)).trans hw348_2), ((HB.out.cell (World.block_lt_of_cell? w _ hw348_3)).trans hw348_3), ((HB.out.cell (World.block_lt_of_cell? w _ hw348_4)).trans hw348_4), ((HB.out.cell (World.block_lt_of_cell? w _ hw349_0)).trans hw349_0), ((HB.out.cell (World.block_lt_of_cell? w _ hw349_1)).trans hw349_1), ((HB.out.cell (World.block_lt_of_cell? w _ hw349_2)).trans hw349_2), ((HB.out.cell (World.block_lt_of_cell? w _ hw349_3)).trans hw349_3), ((HB.out.cell (World.block_lt_of_cell? w _ hw349_4)).trans hw349_4)⟩ (fun hHeld => ?_); refine with_tabW laws_eqAffixS.tab6 laws_eqAffixS.bits6 (fun HT_ HW_ => ?_)
        generalize wr.drew = w9 at HB hx348_0 hx348_1 hx348_2 hx348_3 hx348_4 hx349_0 hx349_1 hx349_2 hx349_3 hx349_4 hHeld ⊢
        refine pu 0 17 ?_
        refine pu 1 18 ?_
        refine pu 2 19 ?_
        refine pu 4 21 ?_
        refine pu 5 22 ?_
        refine pu 6 23 ?_
        refine take_ (i := 3) (N := some 20) (v := ?_) (a' := ?_) #[true, true, true, true, true, true, true, false, false, false] rfl rfl (take_ofW HT_.out HW_.out (by kernel_rfl)) (fun _ _ _ h => h) (Or.inl ⟨by rfl, ?_⟩) hHeld ?_ ?_
        rotate_left
        ·rintro w' ⟨s0, s1, s2, s3, s4, s5, s6, s7, s8, s9⟩
         go_simp
         with_reducible rfl
        rotate_left
        ·simp only [Act.put, List.setIfInBounds_toArray, List.set_cons_zero, List.set_cons_succ, i64_w, i32_w]
         rfl
        refine take_ (i := 7) (N := some 24) (v := ?_) (a' := ?_) #[true, true, true, true, true, true, true, true, false, false] rfl rfl (take_ofW HT_.out HW_.out (by kernel_rfl)) (fun _ _ _ h => h) (Or.inl ⟨by rfl, ?_⟩) hHeld ?_ ?_
        rotate_left
        ·rintro w' ⟨s0, s1, s2, s3, s4, s5, s6, s7, s8, s9⟩
         go_simp
         with_reducible rfl
        rotate_left
        ·simp only [Act.put, List.setIfInBounds_toArray, List.set_cons_zero, List.set_cons_succ, i64_w, i32_w]
         rfl
        refine on1 8 25 (fun K hK => ?_)
        refine goes_ Try.func61 (by kernel_rfl) rfl #[.agg #[.string ((rd_T44 l0 x5_1).f0), .bool ((rd_T44 l0 x5_1).f1), .string ((rd_T44 l0 x5_1).f2), .string ((rd_T44 l0 x5_1).f3), .string ((rd_T44 l0 x5_1).f4)], .agg #[.string ((rd_T44 l1 x5_1).f0), .bool ((rd_T44 l1 x5_1).f1), .string ((rd_T44 l1 x5_1).f2), .string ((rd_T44 l1 x5_1).f3), .string ((rd_T44 l1 x5_1).f4)]] (by rfl) rfl rfl mq ?_
        with_reducible refine (laws_eqAffix.calls ((rd_T44 l0 x5_1).f0) ((rd_T44 l0 x5_1).f1) ((rd_T44 l0 x5_1).f2) ((rd_T44 l0 x5_1).f3) ((rd_T44 l0 x5_1).f4) ((rd_T44 l1 x5_1).f0) ((rd_T44 l1 x5_1).f1) ((rd_T44 l1 x5_1).f2) ((rd_T44 l1 x5_1).f3) ((rd_T44 l1 x5_1).f4) true _ A7.out).mono ?_
        rintro e w10 ⟨rfl, hb⟩
        refine ⟨_, rfl, ?_⟩
        replace HB := am (below_step bel hb)
        (try clear hb)
        (try clear hb2)
        (try clear hk)
        (try clear hi)
        refine hK.out _ _ ⟨((HB.out.cell (World.block_lt_of_cell? w _ hw348_0)).trans hw348_0), ((HB.out.cell (World.block_lt_of_cell? w _ hw348_1)).trans hw348_1), ((HB.out.cell (World.block_lt_of_cell? w _ hw348_2)).trans hw348_2), ((HB.out.cell (World.block_lt_of_cell? w _ hw348_3)).trans hw348_3), ((HB.out.cell (World.block_lt_of_cell? w _ hw348_4)).trans hw348_4), ((HB.out.cell (World.block_lt_of_cell? w _ hw349_0)).trans hw349_0), ((HB.out.cell (World.block_lt_of_cell? w _ hw349_1)).trans hw349_1), ((HB.out.cell (World.block_lt_of_cell? w _ hw349_2)).trans hw349_2), ((HB.out.cell (World.block_lt_of_cell? w _ hw349_3)).trans hw349_3), ((HB.out.cell (World.block_lt_of_cell? w _ hw349_4)).trans hw349_4)⟩ (fun hHeld => ?_)
        clear hK K
        refine norm_ (a' := ?_) ?_ ?_
        rotate_left
        ·show Act.put _ (some 25) _ = _
         simp only [Act.put, List.setIfInBounds_toArray, List.set_cons_zero, List.set_cons_succ, i64_w, i32_w]
         rfl
        refine pu 9 26 ?_
        refine done_ (done_of HT_.out (by kernel_rfl)) ?_
        try go_wp2
        go_roundg k1
        case measure => have := HK1.out; omega
        case rel => exact ⟨(wrap64 (x5_1 + 1)), sq, H', ⟨by have := HK1.out; omega⟩, ⟨bel⟩⟩
       ·replace c8 := Bool.eq_false_iff.mpr c8; subst c8
        have H1 : (some false) = some r := by rw [if_neg (show ¬ (false = true) by decide)] at H; exact H
        clear H; have H := H1; clear H1; obtain rfl := Option.some.inj H
        try go_wp2
        replace HB := am (below_drew1 HB.out)
        have p348 : 0 ≤ (x5_1 : Int) := of_decide_eq_true ad
        have q348 : x5_1 < (l0.length : Int) := of_decide_eq_true ad
        obtain ⟨ad348, e348, hx348_0, hx348_1, hx348_2, hx348_3, hx348_4⟩ := at_T44 HR0.out x5_1 p348 q348; have hw348_4 := hx348_4; have hw348_3 := hx348_3; have hw348_2 := hx348_2; have hw348_1 := hx348_1; have hw348_0 := hx348_0
        cases e348
        replace hx348_0 := kp HB.out hx348_0; replace hx348_1 := kp HB.out hx348_1; replace hx348_2 := kp HB.out hx348_2; replace hx348_3 := kp HB.out hx348_3; replace hx348_4 := kp HB.out hx348_4; replace p348 := eq_true p348; replace q348 := eq_true q348
        have p349 : 0 ≤ (x5_1 : Int) := of_decide_eq_true ad
        have q349 : x5_1 < (l1.length : Int) := of_decide_eq_true ad
        obtain ⟨ad349, e349, hx349_0, hx349_1, hx349_2, hx349_3, hx349_4⟩ := at_T44 HR1.out x5_1 p349 q349; have hw349_4 := hx349_4; have hw349_3 := hx349_3; have hw349_2 := hx349_2; have hw349_1 := hx349_1; have hw349_0 := hx349_0
        cases e349
        replace hx349_0 := kp HB.out hx349_0; replace hx349_1 := kp HB.out hx349_1; replace hx349_2 := kp HB.out hx349_2; replace hx349_3 := kp HB.out hx349_3; replace hx349_4 := kp HB.out hx349_4; replace p349 := eq_true p349; replace q349 := eq_true q349
        refine start_ (n := 10) (S := fun w' => w'.cell? (ad348.add ((x5_1).toNat * 5)) = some (.string ((rd_T44 l0 x5_1).f0)) ∧ w'.cell? ⟨(ad348.add ((x5_1).toNat * 5)).block, (ad348.add ((x5_1).toNat * 5)).off + 1, none⟩ = some (.bool ((rd_T44 l0 x5_1).f1)) ∧ w'.cell? ⟨(ad348.add ((x5_1).toNat * 5)).block, (ad348.add ((x5_1).toNat * 5)).off + 2, none⟩ = some (.string ((rd_T44 l0 x5_1).f2)) ∧ w'.cell? ⟨(ad348.add ((x5_1).toNat * 5)).block, (ad348.add ((x5_1).toNat * 5)).off + 3, none⟩ = some (.string ((rd_T44 l0 x5_1).f3)) ∧ w'.cell? ⟨(ad348.add ((x5_1).toNat * 5)).block, (ad348.add ((x5_1).toNat * 5)).off + 4, none⟩ = some (.string ((rd_T44 l0 x5_1).f4)) ∧ w'.cell? (ad349.add ((x5_1).toNat * 5)) = some (.string ((rd_T44 l1 x5_1).f0)) ∧ w'.cell? ⟨(ad349.add ((x5_1).toNat * 5)).block, (ad349.add ((x5_1).toNat * 5)).off + 1, none⟩ = some (.bool ((rd_T44 l1 x5_1).f1)) ∧ w'.cell? ⟨(ad349.add ((x5_1).toNat * 5)).block, (ad349.add ((x5_1).toNat * 5)).off + 2, none⟩ = some (.string ((rd_T44 l1 x5_1).f2)) ∧ w'.cell? ⟨(ad349.add ((x5_1).toNat * 5)).block, (ad349.add ((x5_1).toNat * 5)).off + 3, none⟩ = some (.string ((rd_T44 l1 x5_1).f3)) ∧ w'.cell? ⟨(ad349.add ((x5_1).toNat * 5)).block, (ad349.add ((x5_1).toNat * 5)).off + 4, none⟩ = some (.string ((rd_T44 l1 x5_1).f4))) (ds := []) #[false, false, false, false, false, false, false, false, false, false] (by kernel_rfl) rfl rfl ⟨((HB.out.cell (World.block_lt_of_cell? w _ hw348_0)).trans hw348_0), ((HB.out.cell (World.block_lt_of_cell? w _ hw348_1)).trans hw348_1), ((HB.out.cell (World.block_lt_of_cell? w _ hw348_2)).trans hw348_2), ((HB.out.cell (World.block_lt_of_cell? w _ hw348_3)).trans hw348_3), ((HB.out.cell (World.block_lt_of_cell? w _ hw348_4)).trans hw348_4), ((HB.out.cell (World.block_lt_of_cell? w _ hw349_0)).trans hw349_0), ((HB.out.cell (World.block_lt_of_cell? w _ hw349_1)).trans hw349_1), ((HB.out.cell (World.block_lt_of_cell? w _ hw349_2)).trans hw349_2), ((HB.out.cell (World.block_lt_of_cell? w _ hw349_3)).trans hw349_3), ((HB.out.cell (World.block_lt_of_cell? w _ hw349_4)).trans hw349_4)⟩ (fun hHeld => ?_); refine with_tabW laws_eqAffixS.tab6 laws_eqAffixS.bits6 (fun HT_ HW_ => ?_)
        generalize wr.drew = w11 at HB hx348_0 hx348_1 hx348_2 hx348_3 hx348_4 hx349_0 hx349_1 hx349_2 hx349_3 hx349_4 hHeld ⊢
        refine pu 0 17 ?_
        refine pu 1 18 ?_
        refine pu 2 19 ?_
        refine pu 4 21 ?_
        refine pu 5 22 ?_
        refine pu 6 23 ?_
        refine take_ (i := 3) (N := some 20) (v := ?_) (a' := ?_) #[true, true, true, true, true, true, true, false, false, false] rfl rfl (take_ofW HT_.out HW_.out (by kernel_rfl)) (fun _ _ _ h => h) (Or.inl ⟨by rfl, ?_⟩) hHeld ?_ ?_
        rotate_left
        ·rintro w' ⟨s0, s1, s2, s3, s4, s5, s6, s7, s8, s9⟩
         go_simp
         with_reducible rfl
        rotate_left
        ·simp only [Act.put, List.setIfInBounds_toArray, List.set_cons_zero, List.set_cons_succ, i64_w, i32_w]
         rfl
        refine take_ (i := 7) (N := some 24) (v := ?_) (a' := ?_) #[true, true, true, true, true, true, true, true, false, false] rfl rfl (take_ofW HT_.out HW_.out (by kernel_rfl)) (fun _ _ _ h => h) (Or.inl ⟨by rfl, ?_⟩) hHeld ?_ ?_
        rotate_left
        ·rintro w' ⟨s0, s1, s2, s3, s4, s5, s6, s7, s8, s9⟩
         go_simp
         with_reducible rfl
        rotate_left
        ·simp only [Act.put, List.setIfInBounds_toArray, List.set_cons_zero, List.set_cons_succ, i64_w, i32_w]
         rfl
        refine on1 8 25 (fun K hK => ?_)
        refine goes_ Try.func61 (by kernel_rfl) rfl #[.agg #[.string ((rd_T44 l0 x5_1).f0), .bool ((rd_T44 l0 x5_1).f1), .string ((rd_T44 l0 x5_1).f2), .string ((rd_T44 l0 x5_1).f3), .string ((rd_T44 l0 x5_1).f4)], .agg #[.string ((rd_T44 l1 x5_1).f0), .bool ((rd_T44 l1 x5_1).f1), .string ((rd_T44 l1 x5_1).f2), .string ((rd_T44 l1 x5_1).f3), .string ((rd_T44 l1 x5_1).f4)]] (by rfl) rfl rfl mq ?_
        with_reducible refine (laws_eqAffix.calls ((rd_T44 l0 x5_1).f0) ((rd_T44 l0 x5_1).f1) ((rd_T44 l0 x5_1).f2) ((rd_T44 l0 x5_1).f3) ((rd_T44 l0 x5_1).f4) ((rd_T44 l1 x5_1).f0) ((rd_T44 l1 x5_1).f1) ((rd_T44 l1 x5_1).f2) ((rd_T44 l1 x5_1).f3) ((rd_T44 l1 x5_1).f4) false _ A7.out).mono ?_
        rintro e w12 ⟨rfl, hb⟩
        refine ⟨_, rfl, ?_⟩
        replace HB := am (below_step bel hb)
        (try clear hb)
        (try clear hb2)
        (try clear hk)
        (try clear hi)
        refine hK.out _ _ ⟨((HB.out.cell (World.block_lt_of_cell? w _ hw348_0)).trans hw348_0), ((HB.out.cell (World.block_lt_of_cell? w _ hw348_1)).trans hw348_1), ((HB.out.cell (World.block_lt_of_cell? w _ hw348_2)).trans hw348_2), ((HB.out.cell (World.block_lt_of_cell? w _ hw348_3)).trans hw348_3), ((HB.out.cell (World.block_lt_of_cell? w _ hw348_4)).trans hw348_4), ((HB.out.cell (World.block_lt_of_cell? w _ hw349_0)).trans hw349_0), ((HB.out.cell (World.block_lt_of_cell? w _ hw349_1)).trans hw349_1), ((HB.out.cell (World.block_lt_of_cell? w _ hw349_2)).trans hw349_2), ((HB.out.cell (World.block_lt_of_cell? w _ hw349_3)).trans hw349_3), ((HB.out.cell (World.block_lt_of_cell? w _ hw349_4)).trans hw349_4)⟩ (fun hHeld => ?_)
        clear hK K
        refine norm_ (a' := ?_) ?_ ?_
        rotate_left
        ·show Act.put _ (some 25) _ = _
         simp only [Act.put, List.setIfInBounds_toArray, List.set_cons_zero, List.set_cons_succ, i64_w, i32_w]
         rfl
        refine pu 9 26 ?_
        refine done_ (done_of HT_.out (by kernel_rfl)) ?_
        try go_wp2
        go_ret
        exact ⟨eq_, bel⟩
      ·rw [if_neg c6] at H
       exact absurd H (by simp)
     ·rw [if_neg c5] at H
      exact absurd H (by simp)
    ·rw [if_neg c4] at H; have c4b0 := decide_eq_false c4; clear c4; obtain rfl := Option.some.inj H; go_wp2; go_ret
     exact ⟨eq_, bel⟩
 ·rw [if_neg c3] at H
  have c3b0 : ((l0.length : Int) == (l1.length : Int)) = false := beq_eq_false_iff_ne.mpr c3
  have c3b1 : ((l0.length : Int) != (l1.length : Int)) = true := bne_iff_ne.mpr c3
  have c3b2 : (l0.length == l1.length) = false := by first | simpa using c3 | (simp at c3 ⊢; omega)
  obtain rfl := Option.some.inj H; go_enter Try.func22, Try.ntmps22; go_wp2; go_ret
  exact ⟨eq_, bel⟩

/-! ### laws_eqEntry: function 103 -/
def laws_eqEntry.f (a0_0 : ByteArray) (a0_1 : ByteArray) (a1_0 : ByteArray) (a1_1 : ByteArray) : Option (Bool) := if a0_0.toList = a1_0.toList then (if a0_1.toList = a1_1.toList then (some true) else (some false)) else (some false)
set_option maxHeartbeats 8000000 in
set_option maxRecDepth 100000 in
theorem laws_eqEntry.calls (a0_0 : ByteArray) (a0_1 : ByteArray) (a1_0 : ByteArray) (a1_1 : ByteArray) (r : Bool) (w : World) (h : laws_eqEntry.f a0_0 a0_1 a1_0 a1_1 = some r) :
  Calls Try.prog 103 #[.agg #[.string a0_0, .string a0_1], .agg #[.string a1_0, .string a1_1]] w fun e w' => e = .returned (.bool r) ∧ Below w.heap.size w w' := by
 have hu31 := Try.underlying31; have HB := am (Below.refl w.heap.size w)
 have H : (if a0_0.toList = a1_0.toList then (if a0_1.toList = a1_1.toList then (some true) else (some false)) else (some false)) = some r := h
 clear h
 by_cases c3 : a0_0.toList = a1_0.toList
 ·rw [if_pos c3] at H
  have c3b0 : (a0_0.toList == a1_0.toList) = true := beq_iff_eq.mpr c3
  have c3b1 : (a0_0.toList != a1_0.toList) = false := bne_eq_false_iff_eq.mpr c3
  clear c3
  by_cases c4 : a0_1.toList = a1_1.toList
  ·rw [if_pos c4] at H
   have c4b0 : (a0_1.toList == a1_1.toList) = true := beq_iff_eq.mpr c4
   have c4b1 : (a0_1.toList != a1_1.toList) = false := bne_eq_false_iff_eq.mpr c4
   clear c4; obtain rfl := Option.some.inj H; go_enter Try.func103, Try.ntmps103
   go_wp2_with (first | ((with_reducible refine gate_dst (N := 2) rfl ?_); refine bx 2 (cs := #[.string a0_0, .string a0_1]) (t := 31) ?_; intro gb351 hg w5 hbox hb; have BK351 := am (hbox); have GW351 := am ((by rw [hg]; exact (below_size bel) : w.heap.size ≤ gb351)); have GE351 := am ((by rw [hg]; exact (below_size bel) : w.heap.size ≤ gb351)); replace HB := am (below_step bel hb); clear hb hbox hg) | ((with_reducible refine gate_dst (N := 3) rfl ?_); refine bx 3 (cs := #[.string a1_0, .string a1_1]) (t := 31) ?_; intro gb352 hg w6 hbox hb; have BK352 := am (hbox); have GW352 := am ((by rw [hg]; exact (below_size (bel1 GE351.out)) : w.heap.size ≤ gb352)); have GE352 := am ((by rw [hg]; exact (below_size (bel1 GE351.out)) : w.heap.size ≤ gb352)); replace HB := am (below_step (bel1 GE351.out) hb); have NB351_352 := am ((by rw [hg]; exact Nat.ne_of_lt (blk_lt (g := gb351) (o := .cells #[.string a0_0, .string a0_1] 31 (0, 0)) (bq BK351.out)) : gb351 ≠ gb352)); have NB352_351 := am ((by rw [hg]; exact Nat.ne_of_gt (blk_lt (g := gb351) (o := .cells #[.string a0_0, .string a0_1] 31 (0, 0)) (bq BK351.out)) : gb352 ≠ gb351)); replace BK351 := am (blk_below (g := gb351) (o := .cells #[.string a0_0, .string a0_1] 31 (0, 0)) (bq BK351.out) hb); clear hb hbox hg; have hnb7 := NB351_352.out; have hnc7 := NB352_351.out; have hcz8_0 := bc BK351.out 0; have hcz8_1 := bc BK351.out 1; have hfz8_0 := blk_frozen BK351.out 0; have hfz8_1 := blk_frozen BK351.out 1; have hcz9_0 := bc BK352.out 0; have hcz9_1 := bc BK352.out 1; have hfz9_0 := blk_frozen BK352.out 0; have hfz9_1 := blk_frozen BK352.out 1))
   go_ret
   exact ⟨eq_, bel2 GE351.out GE352.out⟩
  ·rw [if_neg c4] at H
   have c4b0 : (a0_1.toList == a1_1.toList) = false := beq_eq_false_iff_ne.mpr c4
   have c4b1 : (a0_1.toList != a1_1.toList) = true := bne_iff_ne.mpr c4
   obtain rfl := Option.some.inj H; go_enter Try.func103, Try.ntmps103
   go_wp2_with (first | ((with_reducible refine gate_dst (N := 2) rfl ?_); refine bx 2 (cs := #[.string a0_0, .string a0_1]) (t := 31) ?_; intro gb351 hg w10 hbox hb; have BK351 := am (hbox); have GW351 := am ((by rw [hg]; exact (below_size bel) : w.heap.size ≤ gb351)); have GE351 := am ((by rw [hg]; exact (below_size bel) : w.heap.size ≤ gb351)); replace HB := am (below_step bel hb); clear hb hbox hg) | ((with_reducible refine gate_dst (N := 3) rfl ?_); refine bx 3 (cs := #[.string a1_0, .string a1_1]) (t := 31) ?_; intro gb352 hg w11 hbox hb; have BK352 := am (hbox); have GW352 := am ((by rw [hg]; exact (below_size (bel1 GE351.out)) : w.heap.size ≤ gb352)); have GE352 := am ((by rw [hg]; exact (below_size (bel1 GE351.out)) : w.heap.size ≤ gb352)); replace HB := am (below_step (bel1 GE351.out) hb); have NB351_352 := am ((by rw [hg]; exact Nat.ne_of_lt (blk_lt (g := gb351) (o := .cells #[.string a0_0, .string a0_1] 31 (0, 0)) (bq BK351.out)) : gb351 ≠ gb352)); have NB352_351 := am ((by rw [hg]; exact Nat.ne_of_gt (blk_lt (g := gb351) (o := .cells #[.string a0_0, .string a0_1] 31 (0, 0)) (bq BK351.out)) : gb352 ≠ gb351)); replace BK351 := am (blk_below (g := gb351) (o := .cells #[.string a0_0, .string a0_1] 31 (0, 0)) (bq BK351.out) hb); clear hb hbox hg; have hnb12 := NB351_352.out; have hnc12 := NB352_351.out; have hcz13_0 := bc BK351.out 0; have hcz13_1 := bc BK351.out 1; have hfz13_0 := blk_frozen BK351.out 0; have hfz13_1 := blk_frozen BK351.out 1; have hcz14_0 := bc BK352.out 0; have hcz14_1 := bc BK352.out 1; have hfz14_0 := blk_frozen BK352.out 0; have hfz14_1 := blk_frozen BK352.out 1))
   go_ret
   exact ⟨eq_, bel2 GE351.out GE352.out⟩
 ·rw [if_neg c3] at H
  have c3b0 : (a0_0.toList == a1_0.toList) = false := beq_eq_false_iff_ne.mpr c3
  have c3b1 : (a0_0.toList != a1_0.toList) = true := bne_iff_ne.mpr c3
  obtain rfl := Option.some.inj H; go_enter Try.func103, Try.ntmps103
  go_wp2_with (first | ((with_reducible refine gate_dst (N := 2) rfl ?_); refine bx 2 (cs := #[.string a0_0, .string a0_1]) (t := 31) ?_; intro gb351 hg w15 hbox hb; have BK351 := am (hbox); have GW351 := am ((by rw [hg]; exact (below_size bel) : w.heap.size ≤ gb351)); have GE351 := am ((by rw [hg]; exact (below_size bel) : w.heap.size ≤ gb351)); replace HB := am (below_step bel hb); clear hb hbox hg) | ((with_reducible refine gate_dst (N := 3) rfl ?_); refine bx 3 (cs := #[.string a1_0, .string a1_1]) (t := 31) ?_; intro gb352 hg w16 hbox hb; have BK352 := am (hbox); have GW352 := am ((by rw [hg]; exact (below_size (bel1 GE351.out)) : w.heap.size ≤ gb352)); have GE352 := am ((by rw [hg]; exact (below_size (bel1 GE351.out)) : w.heap.size ≤ gb352)); replace HB := am (below_step (bel1 GE351.out) hb); have NB351_352 := am ((by rw [hg]; exact Nat.ne_of_lt (blk_lt (g := gb351) (o := .cells #[.string a0_0, .string a0_1] 31 (0, 0)) (bq BK351.out)) : gb351 ≠ gb352)); have NB352_351 := am ((by rw [hg]; exact Nat.ne_of_gt (blk_lt (g := gb351) (o := .cells #[.string a0_0, .string a0_1] 31 (0, 0)) (bq BK351.out)) : gb352 ≠ gb351)); replace BK351 := am (blk_below (g := gb351) (o := .cells #[.string a0_0, .string a0_1] 31 (0, 0)) (bq BK351.out) hb); clear hb hbox hg; have hnb17 := NB351_352.out; have hnc17 := NB352_351.out; have hcz18_0 := bc BK351.out 0; have hcz18_1 := bc BK351.out 1; have hfz18_0 := blk_frozen BK351.out 0; have hfz18_1 := blk_frozen BK351.out 1; have hcz19_0 := bc BK352.out 0; have hcz19_1 := bc BK352.out 1; have hfz19_0 := blk_frozen BK352.out 0; have hfz19_1 := blk_frozen BK352.out 1))
  go_ret
  exact ⟨eq_, bel2 GE351.out GE352.out⟩

end Go.Proofs.Ytedfcehhgbeibaa.QFnExactBookWords

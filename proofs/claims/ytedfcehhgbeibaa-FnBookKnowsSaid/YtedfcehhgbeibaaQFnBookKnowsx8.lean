import Derived.Test.YtedfcehhgbeibaaQFnBookKnowsx0
import Derived.Test.YtedfcehhgbeibaaQFnBookKnowsx5
import Derived.Test.YtedfcehhgbeibaaQFnBookKnowsx6
import Derived.Test.YtedfcehhgbeibaaQFnBookKnowsx7
import Derived.Test.YtedfcehhgbeibaaVMSh2
namespace Go.Proofs.Ytedfcehhgbeibaa.QFnBookKnows
open Go.RowKit Go.Proofs.YtedfcehhgbeibaaW.PrintWords Go.Proofs.YtedfcehhgbeibaaW.PrintLast Go.Proofs.YtedfcehhgbeibaaW.PrintMore Go.Proofs.Ytedfcehhgbeibaa.Sh
attribute [local go_sem] max2_int min2_int max_two min_two max_three min_three max_four min_four   -- for this text's walks alone
set_option linter.unusedVariables false
set_option linter.unusedSimpArgs false
-- shrunk

/-! ### impl_Book_words: function 77 -/
def impl_Book_words.l0 : Nat → List ByteArray → List (S31) → Int → Int → List (S44) → List (S31) → Option (List ByteArray)
 | 0, _, _, _, _, _, _ => none
 | k + 1, x3, x8, x9, x10, x176000, x176001 => if x10 < x9 then (if 0 ≤ x10 then (if x10 < (x8.length : Int) then ((impl_Forms.f k x176000 ((rd_T31 x8 x10).f0) ((rd_T31 x8 x10).f1)).bind fun t181 => (if x3.length + t181.length < 8796093022208 then (impl_Book_words.l0 k (x3 ++ t181) x8 x9 (wrap64 (x10 + 1)) x176000 x176001) else (none))) else (none)) else (none)) else ((impl_sorted.f x3).bind fun t187 => (some t187))
def impl_Book_words.f (k : Nat) (l0_0 : List (S44)) (l0_1 : List (S31)) : Option (List ByteArray) := impl_Book_words.l0 k (([] : List ByteArray)) l0_1 (l0_1.length : Int) 0 l0_0 l0_1
theorem impl_Book_words.mono_l : ∀ k, (∀ y0 y1 y2 y3 y4 y5, LeO (impl_Book_words.l0 k y0 y1 y2 y3 y4 y5) (impl_Book_words.l0 (k + 1) y0 y1 y2 y3 y4 y5))
 | 0 => fun _ _ _ _ _ _ r h => by simp [impl_Book_words.l0] at h
 | k + 1 => by
  have ih0 := impl_Book_words.mono_l k
  ·intro y0 y1 y2 y3 y4 y5
   unfold impl_Book_words.l0
   repeat' first | (with_reducible first | exact ih0 _ _ _ _ _ _ | exact impl_Forms.mono _ _ _ _ | exact LeO.refl _ | exact LeO.none _ | refine LeO.ite ?_ ?_ | refine LeO.bind ?_ (fun _ => ?_)) | exact ih0 _ _ _ _ _ _ | exact impl_Forms.mono _ _ _ _ | exact LeO.none _ | refine LeO.ite ?_ ?_ | refine LeO.bind ?_ (fun _ => ?_)
theorem impl_Book_words.mono : ∀ a0 a1 k, LeO (impl_Book_words.f k a0 a1) (impl_Book_words.f (k + 1) a0 a1) := by
 intro a0 a1 k; have ih0 := impl_Book_words.mono_l k
 unfold impl_Book_words.f
 repeat' first | (with_reducible first | exact ih0 _ _ _ _ _ _ | exact impl_Forms.mono _ _ _ _ | exact LeO.refl _ | exact LeO.none _ | refine LeO.ite ?_ ?_ | refine LeO.bind ?_ (fun _ => ?_)) | exact ih0 _ _ _ _ _ _ | exact impl_Forms.mono _ _ _ _ | exact LeO.none _ | refine LeO.ite ?_ ?_ | refine LeO.bind ?_ (fun _ => ?_)
set_option maxHeartbeats 8000000 in
set_option maxRecDepth 100000 in
theorem impl_Book_words.calls (k : Nat) (A0_0 : Option Addr) (c0_0 : Nat) (l0_0 : List (S44)) (A0_1 : Option Addr) (c0_1 : Nat) (l0_1 : List (S31)) (r : List ByteArray) (w : World) (hr0_0 : Kd.C k44 w A0_0 l0_0.length l0_0) (hc0_0 : l0_0.length ≤ c0_0) (hr0_1 : Kd.C k31 w A0_1 l0_1.length l0_1) (hc0_1 : l0_1.length ≤ c0_1) (h : impl_Book_words.f k l0_0 l0_1 = some r) :
  Calls Try.prog 77 #[.agg #[.slice A0_0 l0_0.length c0_0, .slice A0_1 l0_1.length c0_1]] w fun e w' => ∃ v0_ : Value, e = .returned (v0_) ∧ Kd.R Kd.string 9 w' w.heap.size (fun _ => True) v0_ r ∧ Below w.heap.size w w' := by
 have hu55 := Try.underlying55; have hu31 := Try.underlying31; have HR0_0 := am hr0_0; have HC0_0 := am hc0_0; clear hr0_0 hc0_0; have HR0_1 := am hr0_1; have HC0_1 := am hc0_1; clear hr0_1 hc0_1; have HB := am (Below.refl w.heap.size w)
 have H : (impl_Book_words.l0 k (([] : List ByteArray)) l0_1 (l0_1.length : Int) 0 l0_0 l0_1) = some r := h
 clear h; obtain ⟨y176, hy176⟩ : ∃ y_ : List ByteArray, y_ = (([] : List ByteArray)) := ⟨_, rfl⟩
 replace H : (impl_Book_words.l0 k y176 l0_1 (l0_1.length : Int) 0 l0_0 l0_1) = some r := by first | (rw [hy176]; with_reducible exact H) | (have H2_ := (Option.bind_some _ _).symm.trans H; rw [hy176]; with_reducible exact H2_) | (have H2_ := (Option.bind_some _ _).symm.trans H; with_reducible exact H2_) | with_reducible exact H | (rw [hy176]; exact H) | exact H
 have Ny176 := am hy176; clear hy176
 have H' := am H
 clear H; go_enter Try.func77, Try.ntmps77
 go_wp2_with (first | ((with_reducible refine gate_dst (N := 1) rfl ?_); refine bx 1 (cs := #[.slice A0_0 l0_0.length c0_0, .slice A0_1 l0_1.length c0_1]) (t := 55) ?_; intro gb175 hg w2 hbox hb; have BK175 := am (hbox); have GW175 := am ((b15_ : w.heap.size ≤ gb175)); have GE175 := am ((b15_ : w.heap.size ≤ gb175)); replace HB := am (below_step bel hb); clear hb hbox hg) | ((with_reducible refine gate_dst (N := 6) rfl ?_); refine Kd.R_lit Kd.string _ 9 ?hg (N := 6) ?hd (xs := ([] : List ByteArray)) (inner := []) (ok := fun _ => True) (okp := fun _ => True) ?hr ?hp (fun _ hk => hk) trivial (Below.refl _ _) (Nat.le_refl _) (by simp) ?_; (case hd => rfl); (case hg => rfl); (case hr => first | (go_simp; done) | (go_simp; rfl)); (case hp => exact (Reps.none _ _)); intro v177 w3 ho4 hb hg_ hnew_; clear hg_ hnew_; (first | rw [← Ny176.out] at ho4 | (simp only [Int.reduceToNat] at ho4; rw [← Ny176.out] at ho4) | (simp only [Int.toNat_natCast] at ho4; rw [← Ny176.out] at ho4)); have HO178 := am (Kd.R_lower ho4 (below_size (bel1 GE175.out))); replace BK175 := am (blk_below (g := gb175) (o := .cells #[.slice A0_0 l0_0.length c0_0, .slice A0_1 l0_1.length c0_1] 55 (0, 0)) (bq BK175.out) hb); replace HB := am (below_step (bel1 GE175.out) hb); clear hb ho4; have hcz5_0 := bc BK175.out 0; have hcz5_1 := bc BK175.out 1; have hfz5_0 := bf BK175.out 0; have hfz5_1 := bf BK175.out 1))
 go_loopg [3, 10] k (fun kq v3 v10 w' => ∃ (x3_1 : List ByteArray) (x10_1 : Int), v10 = .int .i64 x10_1 ∧ Aside0 (impl_Book_words.l0 kq x3_1 l0_1 (l0_1.length : Int) x10_1 l0_0 l0_1 = some r) ∧ Aside0 (kq ≤ k) ∧ Aside0 (Kd.R Kd.string 9 w' w.heap.size (fun _ => True) v3 x3_1) ∧ Aside0 (w'.heap[gb175]? = some (.cells #[(.slice A0_0 l0_0.length c0_0), (.slice A0_1 l0_1.length c0_1)] 55 (0, 0))) ∧ Aside0 (Below w.heap.size w w'))
 case atStart => exact ⟨(y176), (0), sq, H', ⟨Nat.le_refl _⟩, ⟨rq HO178.out⟩, ⟨bq BK175.out⟩, ⟨bel1 GE175.out⟩⟩
 case round =>
  clear H'; (try clear p2); (try clear hcz5_0); (try clear hcz5_1); (try clear hfz5_0); (try clear hfz5_1); obtain ⟨x3_1, x10_1, rfl, HA, HK1, HO_3, BK175, HB⟩ := hrel
  cases gk with
  | zero => exact absurd HA.out (by simp [impl_Book_words.l0])
  | succ k1 =>
   have H := HA.out; clear HA
   simp only [impl_Book_words.l0] at H
   by_cases c6 : x10_1 < (l0_1.length : Int)
   ·rw [if_pos c6] at H; have c6b0 := decide_eq_true c6; clear c6
    by_cases c7 : 0 ≤ x10_1
    ·rw [if_pos c7] at H; have c7b0 := decide_eq_true c7; clear c7
     by_cases c8 : x10_1 < (l0_1.length : Int)
     ·rw [if_pos c8] at H; have c8b0 := decide_eq_true c8; clear c8; replace H := Option.bind_eq_some_iff.mp H; obtain ⟨t181, A90, H⟩ := H; replace H : (if x3_1.length + t181.length < 8796093022208 then (impl_Book_words.l0 k1 (x3_1 ++ t181) l0_1 (l0_1.length : Int) (wrap64 (x10_1 + 1)) l0_0 l0_1) else (none)) = some r := H; have A9 := Aside0.mk A90; clear A90
      by_cases c10 : x3_1.length + t181.length < 8796093022208
      ·rw [if_pos c10] at H; have LMc10 := Aside0.mk c10; clear c10; obtain ⟨y184, hy184⟩ : ∃ y_ : List ByteArray, y_ = (x3_1 ++ t181) := ⟨_, rfl⟩
       replace H : (impl_Book_words.l0 k1 y184 l0_1 (l0_1.length : Int) (wrap64 (x10_1 + 1)) l0_0 l0_1) = some r := by first | (rw [hy184]; with_reducible exact H) | (have H2_ := (Option.bind_some _ _).symm.trans H; rw [hy184]; with_reducible exact H2_) | (have H2_ := (Option.bind_some _ _).symm.trans H; with_reducible exact H2_) | with_reducible exact H | (rw [hy184]; exact H) | exact H
       have Ny184 := am hy184; clear hy184
       have H' := am H
       clear H
       have p179 : 0 ≤ (x10_1 : Int) := of_decide_eq_true ad
       have q179 : x10_1 < (l0_1.length : Int) := of_decide_eq_true ad
       obtain ⟨ad179, e179, hx179_0, hx179_1⟩ := at_T31 HR0_1.out x10_1 p179 q179
       cases e179
       replace hx179_0 := kp HB.out hx179_0; replace hx179_1 := kp HB.out hx179_1; replace p179 := eq_true p179; replace q179 := eq_true q179
       go_wp2_with (first | ((with_reducible refine gate_dst (N := 5) rfl ?_); refine bx 5 (cs := #[.string (⟨#[]⟩ : ByteArray), .string (⟨#[]⟩ : ByteArray)]) (t := 31) ?_; intro gb180 hg w11 hbox hb; replace HO_3 := am (Kd.R_below (rq HO_3.out) hb); have BK180 := am (hbox); have GW180 := am ((by rw [hg]; exact (below_size (bel1 GE175.out)) : w.heap.size ≤ gb180)); have GE180 := am ((by rw [hg]; exact (below_size (bel1 GE175.out)) : w.heap.size ≤ gb180)); replace HB := am (below_step (bel1 GE175.out) hb); have NB175_180 := am ((by rw [hg]; exact Nat.ne_of_lt (blk_lt (g := gb175) (o := .cells #[.slice A0_0 l0_0.length c0_0, .slice (some ad179) l0_1.length c0_1] 55 (0, 0)) (bq BK175.out)) : gb175 ≠ gb180)); have NB180_175 := am ((by rw [hg]; exact Nat.ne_of_gt (blk_lt (g := gb175) (o := .cells #[.slice A0_0 l0_0.length c0_0, .slice (some ad179) l0_1.length c0_1] 55 (0, 0)) (bq BK175.out)) : gb180 ≠ gb175)); replace BK175 := am (blk_below (g := gb175) (o := .cells #[.slice A0_0 l0_0.length c0_0, .slice (some ad179) l0_1.length c0_1] 55 (0, 0)) (bq BK175.out) hb); clear hb hbox hg; have hnb12 := NB180_175.out; have hnc12 := NB175_180.out; have hcz13_0 := bc BK180.out 0; have hcz13_1 := bc BK180.out 1; have hfz13_0 := bf BK180.out 0; have hfz13_1 := bf BK180.out 1; have hcz14_0 := bc BK175.out 0; have hcz14_1 := bc BK175.out 1; have hfz14_0 := bf BK175.out 0; have hfz14_1 := bf BK175.out 1) | ((with_reducible refine gate_callee (f := 20) rfl ?_); refine goesL_ (some 18) rfl rfl Try.func20 (by kernel_rfl) rfl #[.slice A0_0 l0_0.length c0_0, .agg #[.string ((rd_T31 l0_1 x10_1).f0), .string ((rd_T31 l0_1 x10_1).f1)]] rfl mq ?_; (with_reducible refine (impl_Forms.calls k1 _ _ l0_0 ((rd_T31 l0_1 x10_1).f0) ((rd_T31 l0_1 x10_1).f1) t181 _ ?side1 ?side2 A9.out).mono ?_); (case side1 => exact Kd.C_below HR0_0.out (bel2 GE175.out GE180.out)); (case side2 => exact HC0_0.out); rintro e w15 ⟨v182, rfl, ho0, hb⟩; refine ⟨_, rfl, ?_⟩; have HO183 := am (Kd.R_lower (Kd.R_new' ho0 (Kd.R_lt (rq ((Kd.R_mono (Kd.R_far (p := ⟨gb180, 1, none⟩) (Kd.R_far (p := ⟨gb180, 0, none⟩) (Kd.R_types HO_3.out BK180.out (by decide)) (fun _ hk => hk.2) (.string ((rd_T31 l0_1 x10_1).f0))) (fun _ hk => hk.2) (.string ((rd_T31 l0_1 x10_1).f1))) (fun _ h_ => h_.1)))))) (below_size (bel2 GE175.out GE180.out))); replace HO_3 := am (Kd.R_elder' (rq ((Kd.R_mono (Kd.R_far (p := ⟨gb180, 1, none⟩) (Kd.R_far (p := ⟨gb180, 0, none⟩) (Kd.R_types HO_3.out BK180.out (by decide)) (fun _ hk => hk.2) (.string ((rd_T31 l0_1 x10_1).f0))) (fun _ hk => hk.2) (.string ((rd_T31 l0_1 x10_1).f1))) (fun _ h_ => h_.1)))) (Kd.R_base ho0) hb); replace BK175 := am (blk_below (g := gb175) (o := .cells #[.slice A0_0 l0_0.length c0_0, .slice (some ad179) l0_1.length c0_1] 55 (0, 0)) (by (with_reducible repeat (first | refine blk_drewN ?_ _ | refine blk_drew ?_ | refine blk_alloc ?_ _)); refine blk_far ?_ NB175_180.out _; (with_reducible repeat (first | refine blk_drewN ?_ _ | refine blk_drew ?_ | refine blk_alloc ?_ _)); refine blk_far ?_ NB175_180.out _; (with_reducible repeat (first | refine blk_drewN ?_ _ | refine blk_drew ?_ | refine blk_alloc ?_ _)); exact BK175.out) hb); replace BK180 := am (blk_below (g := gb180) (o := .cells #[.string ((rd_T31 l0_1 x10_1).f0), .string ((rd_T31 l0_1 x10_1).f1)] 31 (0, 0)) (by (with_reducible repeat (first | refine blk_drewN ?_ _ | refine blk_drew ?_ | refine blk_alloc ?_ _)); refine blk_put (cs := #[.string ((rd_T31 l0_1 x10_1).f0), .string (⟨#[]⟩ : ByteArray)]) ?_ 1 _ rfl; (with_reducible repeat (first | refine blk_drewN ?_ _ | refine blk_drew ?_ | refine blk_alloc ?_ _)); refine blk_put (cs := #[.string (⟨#[]⟩ : ByteArray), .string (⟨#[]⟩ : ByteArray)]) ?_ 0 _ rfl; (with_reducible repeat (first | refine blk_drewN ?_ _ | refine blk_drew ?_ | refine blk_alloc ?_ _)); exact BK180.out) hb); replace HB := am (below_step (bel2 GE175.out GE180.out) hb); (try clear hb); (try clear hb2); (try clear hk); (try clear hi); (try clear ho0); obtain ⟨Ao17, co17, eo17⟩ := Kd.R_slice HO183.out; subst eo17) | ((with_reducible refine gate_builtin (b := .append) (xs := #[.tmp 14, .tmp 18]) rfl ?_); at_builtin; refine Kd.R_append_rows Kd.string (w0 := w) w.heap.size rfl (.tmp 14) (.tmp 18) 27 9 (.string ⟨#[]⟩) 16 rfl Try.underlying27 info9 rfl (by decide) (by omega) u3 x3_1 t181 _ _ _ (fun k_ => some k_ ≠ (.slice Ao17 t181.length co17 : Value).ownBlock) (fun _ => False) rfl rfl ?aO ?aR (fun _ _ h => h) (fun _ h => h.elim) ?aF ?aB ?aS ?aL ?_; (case aR => exact cq (Kd.R_reads' HO183.out).2.2); (case aB => exact (bel2 GE175.out GE180.out)); (case aF => exact (fun k_ hk => Kd.fresh' (Kd.R_lt (rq HO183.out)) k_ hk)); (case aO => exact (rq (Kd.R_mono HO_3.out (fun _ hk => hk.2)))); (case aS => exact (below_size (bel2 GE175.out GE180.out))); (case aL => have := LMc10.out; omega); intro v185 w16 ho hb hg hat; rw [← Ny184.out] at ho; replace BK175 := am (blk_grown (g := gb175) (o := .cells #[.slice A0_0 l0_0.length c0_0, .slice (some ad179) l0_1.length c0_1] 55 (0, 0)) (bq BK175.out) hg (Kd.R_ne HO_3.out BK175.out (by decide))); replace BK180 := am (blk_grown (g := gb180) (o := .cells #[.string ((rd_T31 l0_1 x10_1).f0), .string ((rd_T31 l0_1 x10_1).f1)] 31 (0, 0)) (bq BK180.out) hg (Kd.R_ne HO_3.out BK180.out (by decide))); replace HO183 := am (Kd.R_after (ok := (fun _ => True)) (rq HO183.out) hg hat); replace HB := am (hb); have HO186 := am (ho); clear HO_3; clear ho hb hg hat))
       go_roundg k1
       case measure => have := HK1.out; omega
       case rel => exact ⟨(y184), (wrap64 (x10_1 + 1)), sq, H', ⟨b62_⟩, ⟨rq (Kd.R_mono HO186.out (fun _ hk => trivial))⟩, ⟨bq BK175.out⟩, ⟨bel2 GE175.out GE180.out⟩⟩
      ·rw [if_neg c10] at H
       exact absurd H (by simp)
     ·rw [if_neg c8] at H
      exact absurd H (by simp)
    ·rw [if_neg c7] at H
     exact absurd H (by simp)
   ·rw [if_neg c6] at H; have c6b0 := decide_eq_false c6; clear c6; replace H := Option.bind_eq_some_iff.mp H; obtain ⟨t187, A180, H⟩ := H; replace H : (some t187) = some r := H; have A18 := Aside0.mk A180; clear A180; obtain rfl := Option.some.inj H; obtain ⟨Ao19, co19, eo19⟩ := Kd.R_slice HO_3.out; subst eo19
    go_wp2_with (first | ((with_reducible refine gate_callee (f := 60) rfl ?_); refine goesL_ (some 22) rfl rfl Try.func60 (by kernel_rfl) rfl #[.slice Ao19 x3_1.length co19] rfl mq ?_; (with_reducible refine (impl_sorted.calls _ _ x3_1 t187 _ ?side1 ?side2 A18.out).mono ?_); (case side1 => exact cq (Kd.R_reads' HO_3.out).2.2); (case side2 => exact (Kd.R_reads' HO_3.out).2.1); rintro e w20 ⟨v188, rfl, ho0, hb⟩; refine ⟨_, rfl, ?_⟩; have HO189 := am (Kd.R_lower (Kd.R_new' ho0 (Kd.R_lt (rq HO_3.out))) (below_size (bel1 GE175.out))); replace HO_3 := am (Kd.R_elder' (rq HO_3.out) (Kd.R_base ho0) hb); replace BK175 := am (blk_below (g := gb175) (o := .cells #[.slice A0_0 l0_0.length c0_0, .slice A0_1 l0_1.length c0_1] 55 (0, 0)) (bq BK175.out) hb); replace HB := am (below_step (bel1 GE175.out) hb); (try clear hb); (try clear hb2); (try clear hk); (try clear hi); (try clear ho0)))
    go_ret
    exact ⟨_, eq_, by (with_reducible repeat (first | apply Kd.R_alloc | apply Kd.R_drewN | apply Kd.R_drew)); exact Kd.R_mono HO189.out (fun _ hk => trivial), bel1 GE175.out⟩

/-! ### impl_BookWords: function 34 -/
def impl_BookWords.f (k : Nat) (l0_0 : List (S44)) (l0_1 : List (S31)) : Option (List ByteArray) := (impl_BookOk.f k l0_0 l0_1).bind fun t191 => (if t191 = true then ((impl_Book_words.f k l0_0 l0_1).bind fun t192 => (some t192)) else (some (([] : List ByteArray))))
theorem impl_BookWords.mono : ∀ a0 a1 k, LeO (impl_BookWords.f k a0 a1) (impl_BookWords.f (k + 1) a0 a1) := by
 intro a0 a1 k
 unfold impl_BookWords.f
 repeat' first | (with_reducible first | exact impl_BookOk.mono _ _ _ | exact impl_Book_words.mono _ _ _ | exact LeO.refl _ | exact LeO.none _ | refine LeO.ite ?_ ?_ | refine LeO.bind ?_ (fun _ => ?_)) | exact impl_BookOk.mono _ _ _ | exact impl_Book_words.mono _ _ _ | exact LeO.none _ | refine LeO.ite ?_ ?_ | refine LeO.bind ?_ (fun _ => ?_)
set_option maxHeartbeats 8000000 in
set_option maxRecDepth 100000 in
theorem impl_BookWords.calls (k : Nat) (A0_0 : Option Addr) (c0_0 : Nat) (l0_0 : List (S44)) (A0_1 : Option Addr) (c0_1 : Nat) (l0_1 : List (S31)) (r : List ByteArray) (w : World) (hr0_0 : Kd.C k44 w A0_0 l0_0.length l0_0) (hc0_0 : l0_0.length ≤ c0_0) (hr0_1 : Kd.C k31 w A0_1 l0_1.length l0_1) (hc0_1 : l0_1.length ≤ c0_1) (h : impl_BookWords.f k l0_0 l0_1 = some r) :
  Calls Try.prog 34 #[.agg #[.slice A0_0 l0_0.length c0_0, .slice A0_1 l0_1.length c0_1]] w fun e w' => ∃ v0_ : Value, e = .returned (v0_) ∧ Kd.R Kd.string 9 w' w.heap.size (fun _ => True) v0_ r ∧ Below w.heap.size w w' := by
 have hu55 := Try.underlying55; have HR0_0 := am hr0_0; have HC0_0 := am hc0_0; clear hr0_0 hc0_0; have HR0_1 := am hr0_1; have HC0_1 := am hc0_1; clear hr0_1 hc0_1; have HB := am (Below.refl w.heap.size w)
 have H : ((impl_BookOk.f k l0_0 l0_1).bind fun t191 => (if t191 = true then ((impl_Book_words.f k l0_0 l0_1).bind fun t192 => (some t192)) else (some (([] : List ByteArray))))) = some r := h
 clear h; replace H := Option.bind_eq_some_iff.mp H; obtain ⟨t191, A20, H⟩ := H; replace H : (if t191 = true then ((impl_Book_words.f k l0_0 l0_1).bind fun t192 => (some t192)) else (some (([] : List ByteArray)))) = some r := H; have A2 := Aside0.mk A20; clear A20
 by_cases c3 : t191 = true
 ·subst c3
  have H1 : ((impl_Book_words.f k l0_0 l0_1).bind fun t192 => (some t192)) = some r := b34_
  replace H := H1; clear H1
  replace H := Option.bind_eq_some_iff.mp H; obtain ⟨t192, A40, H⟩ := H; replace H : (some t192) = some r := H; have A4 := Aside0.mk A40; clear A40; obtain rfl := Option.some.inj H; go_enter Try.func34, Try.ntmps34
  go_wp2_with (first | ((with_reducible refine gate_dst (N := 1) rfl ?_); refine bx 1 (cs := #[.slice A0_0 l0_0.length c0_0, .slice A0_1 l0_1.length c0_1]) (t := 55) ?_; intro gb190 hg w5 hbox hb; have BK190 := am (hbox); have GW190 := am ((b15_ : w.heap.size ≤ gb190)); have GE190 := am ((b15_ : w.heap.size ≤ gb190)); replace HB := am (below_step bel hb); clear hb hbox hg; have hcz6_0 := bc BK190.out 0; have hcz6_1 := bc BK190.out 1; have hfz6_0 := bf BK190.out 0; have hfz6_1 := bf BK190.out 1) | ((with_reducible refine gate_callee (f := 38) rfl ?_); refine goesL_ (some 4) rfl rfl Try.func38 (by kernel_rfl) rfl #[.agg #[.slice A0_0 l0_0.length c0_0, .slice A0_1 l0_1.length c0_1]] rfl mq ?_; (with_reducible refine (impl_BookOk.calls k _ _ l0_0 _ _ l0_1 true _ ?side1 ?side2 ?side3 ?side4 A2.out).mono ?_); (case side1 => exact cq (Kd.C_below HR0_0.out HB.out)); (case side2 => exact HC0_0.out); (case side3 => exact cq (Kd.C_below HR0_1.out HB.out)); (case side4 => exact HC0_1.out); rintro e w7 ⟨rfl, hb⟩; refine ⟨_, rfl, ?_⟩; replace BK190 := am (blk_below (g := gb190) (o := .cells #[.slice A0_0 l0_0.length c0_0, .slice A0_1 l0_1.length c0_1] 55 (0, 0)) (bq BK190.out) hb); replace HB := am (below_step (bel1 GE190.out) hb); (try clear hb); (try clear hb2); (try clear hk); (try clear hi); have hcz8_0 := bc BK190.out 0; have hcz8_1 := bc BK190.out 1; have hfz8_0 := bf BK190.out 0; have hfz8_1 := bf BK190.out 1) | ((with_reducible refine gate_callee (f := 77) rfl ?_); refine goesL_ (some 8) rfl rfl Try.func77 (by kernel_rfl) rfl #[.agg #[.slice A0_0 l0_0.length c0_0, .slice A0_1 l0_1.length c0_1]] rfl mq ?_; (with_reducible refine (impl_Book_words.calls k _ _ l0_0 _ _ l0_1 t192 _ ?side1 ?side2 ?side3 ?side4 A4.out).mono ?_); (case side1 => exact cq (Kd.C_below HR0_0.out HB.out)); (case side2 => exact HC0_0.out); (case side3 => exact cq (Kd.C_below HR0_1.out HB.out)); (case side4 => exact HC0_1.out); rintro e w9 ⟨v193, rfl, ho0, hb⟩; refine ⟨_, rfl, ?_⟩; have HO194 := am (Kd.R_lower ho0 (below_size (bel1 GE190.out))); replace BK190 := am (blk_below (g := gb190) (o := .cells #[.slice A0_0 l0_0.length c0_0, .slice A0_1 l0_1.length c0_1] 55 (0, 0)) (bq BK190.out) hb); replace HB := am (below_step (bel1 GE190.out) hb); (try clear hb); (try clear hb2); (try clear hk); (try clear hi); (try clear ho0)))
  go_ret
  exact ⟨_, eq_, by (with_reducible repeat (first | apply Kd.R_alloc | apply Kd.R_drewN | apply Kd.R_drew)); exact HO194.out, bel1 GE190.out⟩
 ·replace c3 := Bool.eq_false_iff.mpr c3; subst c3
  have H1 : (some (([] : List ByteArray))) = some r := b19_
  replace H := H1; clear H1
  obtain ⟨y195, hy195⟩ : ∃ y_ : List ByteArray, y_ = (([] : List ByteArray)) := ⟨_, rfl⟩
  replace H : (some y195) = some r := by first | (rw [hy195]; with_reducible exact H) | (have H2_ := (Option.bind_some _ _).symm.trans H; rw [hy195]; with_reducible exact H2_) | (have H2_ := (Option.bind_some _ _).symm.trans H; with_reducible exact H2_) | with_reducible exact H | (rw [hy195]; exact H) | exact H
  have Ny195 := am hy195; clear hy195; obtain rfl := Option.some.inj H; go_enter Try.func34, Try.ntmps34
  go_wp2_with (first | ((with_reducible refine gate_dst (N := 1) rfl ?_); refine bx 1 (cs := #[.slice A0_0 l0_0.length c0_0, .slice A0_1 l0_1.length c0_1]) (t := 55) ?_; intro gb190 hg w10 hbox hb; have BK190 := am (hbox); have GW190 := am ((b15_ : w.heap.size ≤ gb190)); have GE190 := am ((b15_ : w.heap.size ≤ gb190)); replace HB := am (below_step bel hb); clear hb hbox hg; have hcz11_0 := bc BK190.out 0; have hcz11_1 := bc BK190.out 1; have hfz11_0 := bf BK190.out 0; have hfz11_1 := bf BK190.out 1) | ((with_reducible refine gate_callee (f := 38) rfl ?_); refine goesL_ (some 4) rfl rfl Try.func38 (by kernel_rfl) rfl #[.agg #[.slice A0_0 l0_0.length c0_0, .slice A0_1 l0_1.length c0_1]] rfl mq ?_; (with_reducible refine (impl_BookOk.calls k _ _ l0_0 _ _ l0_1 false _ ?side1 ?side2 ?side3 ?side4 A2.out).mono ?_); (case side1 => exact cq (Kd.C_below HR0_0.out HB.out)); (case side2 => exact HC0_0.out); (case side3 => exact cq (Kd.C_below HR0_1.out HB.out)); (case side4 => exact HC0_1.out); rintro e w12 ⟨rfl, hb⟩; refine ⟨_, rfl, ?_⟩; replace BK190 := am (blk_below (g := gb190) (o := .cells #[.slice A0_0 l0_0.length c0_0, .slice A0_1 l0_1.length c0_1] 55 (0, 0)) (bq BK190.out) hb); replace HB := am (below_step (bel1 GE190.out) hb); (try clear hb); (try clear hb2); (try clear hk); (try clear hi)) | ((with_reducible refine gate_dst (N := 6) rfl ?_); refine Kd.R_lit Kd.string _ 9 ?hg (N := 6) ?hd (xs := ([] : List ByteArray)) (inner := []) (ok := fun _ => True) (okp := fun _ => True) ?hr ?hp (fun _ hk => hk) trivial (Below.refl _ _) (Nat.le_refl _) (by simp) ?_; (case hd => rfl); (case hg => rfl); (case hr => first | (go_simp; done) | (go_simp; rfl)); (case hp => exact (Reps.none _ _)); intro v196 w13 ho14 hb hg_ hnew_; clear hg_ hnew_; (first | rw [← Ny195.out] at ho14 | (simp only [Int.reduceToNat] at ho14; rw [← Ny195.out] at ho14) | (simp only [Int.toNat_natCast] at ho14; rw [← Ny195.out] at ho14)); have HO197 := am (Kd.R_lower ho14 (below_size (bel1 GE190.out))); replace BK190 := am (blk_below (g := gb190) (o := .cells #[.slice A0_0 l0_0.length c0_0, .slice A0_1 l0_1.length c0_1] 55 (0, 0)) (bq BK190.out) hb); replace HB := am (below_step (bel1 GE190.out) hb); clear hb ho14))
  go_ret
  exact ⟨_, eq_, by (with_reducible repeat (first | apply Kd.R_alloc | apply Kd.R_drewN | apply Kd.R_drew)); exact HO197.out, bel1 GE190.out⟩

/-! ### spec_l2Flag: function 90 -/
def spec_l2Flag.f (a0 : ByteArray) : Option (Bool) := if (a0.size : Int) = 1 then (if 0 < (a0.size : Int) then (if (bt a0 0) ≥ 65 then (some (decide ((bt a0 0) ≤ 90))) else (some false)) else (none)) else (some false)
set_option maxHeartbeats 8000000 in
set_option maxRecDepth 100000 in
theorem spec_l2Flag.calls (a0 : ByteArray) (r : Bool) (w : World) (h : spec_l2Flag.f a0 = some r) :
  Calls Try.prog 90 #[.string a0] w fun e w' => e = .returned (.bool r) ∧ Drawn0 w w' := by
 have H : (if (a0.size : Int) = 1 then (if 0 < (a0.size : Int) then (if (bt a0 0) ≥ 65 then (some (decide ((bt a0 0) ≤ 90))) else (some false)) else (none)) else (some false)) = some r := h
 clear h
 by_cases c2 : (a0.size : Int) = 1
 ·rw [if_pos c2] at H
  have c2b0 : ((a0.size : Int) == 1) = true := beq_iff_eq.mpr c2
  have c2b1 : ((a0.size : Int) != 1) = false := bne_eq_false_iff_eq.mpr c2
  clear c2
  by_cases c3 : 0 < (a0.size : Int)
  ·rw [if_pos c3] at H; have c3b0 := decide_eq_true c3
   have c3b1 : decide (0 < a0.size) = true := decide_eq_true (by omega)
   clear c3
   by_cases c5 : (bt a0 0) ≥ 65
   ·rw [if_pos c5] at H; have c5b0 := decide_eq_true c5; clear c5; obtain rfl := Option.some.inj H
    have p4 : 0 ≤ (0 : Int) := (by omega)
    have q4 : 0 < a0.size := b75_
    have hx4 : ∀ h : 0 < a0.size, ((a0[0]'h).toNat : Int) = bt a0 0 := bt_at a0 0
    clear p4
    have qi4 : (0 < (a0.size : Int)) = True := eq_true (of_decide_eq_true ad)
    replace q4 := eq_true q4
    have p6 : 0 ≤ (0 : Int) := (by omega)
    have q6 : 0 < a0.size := b75_
    have hx6 : ∀ h : 0 < a0.size, ((a0[0]'h).toNat : Int) = bt a0 0 := bt_at a0 0
    clear p6
    have qi6 : (0 < (a0.size : Int)) = True := eq_true (of_decide_eq_true ad)
    replace q6 := eq_true q6; go_enter Try.func90, Try.ntmps90; go_wp2; go_ret
    exact ⟨sq, dr⟩
   ·rw [if_neg c5] at H; have c5b0 := decide_eq_false c5; clear c5; obtain rfl := Option.some.inj H
    have p4 : 0 ≤ (0 : Int) := (by omega)
    have q4 : 0 < a0.size := b75_
    have hx4 : ∀ h : 0 < a0.size, ((a0[0]'h).toNat : Int) = bt a0 0 := bt_at a0 0
    clear p4
    have qi4 : (0 < (a0.size : Int)) = True := eq_true (of_decide_eq_true ad)
    replace q4 := eq_true q4; go_enter Try.func90, Try.ntmps90; go_wp2; go_ret
    exact ⟨sq, dr⟩
  ·rw [if_neg c3] at H
   exact absurd H (by simp)
 ·rw [if_neg c2] at H
  have c2b0 : ((a0.size : Int) == 1) = false := beq_eq_false_iff_ne.mpr c2
  have c2b1 : ((a0.size : Int) != 1) = true := bne_iff_ne.mpr c2
  obtain rfl := Option.some.inj H; go_enter Try.func90, Try.ntmps90; go_wp2; go_ret
  exact ⟨sq, dr⟩

/-! ### spec_l1Letters: function 105 -/
def spec_l1Letters.l0 : Nat → ByteArray → Int → Int → Option (Bool)
 | 0, _, _, _ => none
 | k + 1, x0, x1, x5 => if x5 < (x0.size : Int) then (if 0 ≤ x5 then (if (bt x0 x5) < 97 then (some false) else (if (bt x0 x5) > 122 then (some false) else (spec_l1Letters.l0 k x0 x1 (wrap64 (x5 + 1))))) else (none)) else (some (decide ((x0.size : Int) ≤ x1)))
def spec_l1Letters.f (k : Nat) (a0 : ByteArray) (a1 : Int) : Option (Bool) := spec_l1Letters.l0 k a0 a1 0
theorem spec_l1Letters.mono_l : ∀ k, (∀ y0 y1 y2, LeO (spec_l1Letters.l0 k y0 y1 y2) (spec_l1Letters.l0 (k + 1) y0 y1 y2))
 | 0 => fun _ _ _ r h => by simp [spec_l1Letters.l0] at h
 | k + 1 => by
  have ih0 := spec_l1Letters.mono_l k
  ·intro y0 y1 y2
   unfold spec_l1Letters.l0
   repeat' first | (with_reducible first | exact ih0 _ _ _ | exact LeO.refl _ | exact LeO.none _ | refine LeO.ite ?_ ?_ | refine LeO.bind ?_ (fun _ => ?_)) | exact ih0 _ _ _ | exact LeO.none _ | refine LeO.ite ?_ ?_ | refine LeO.bind ?_ (fun _ => ?_)
theorem spec_l1Letters.mono : ∀ a0 a1 k, LeO (spec_l1Letters.f k a0 a1) (spec_l1Letters.f (k + 1) a0 a1) := by
 intro a0 a1 k; have ih0 := spec_l1Letters.mono_l k
 unfold spec_l1Letters.f
 repeat' first | (with_reducible first | exact ih0 _ _ _ | exact LeO.refl _ | exact LeO.none _ | refine LeO.ite ?_ ?_ | refine LeO.bind ?_ (fun _ => ?_)) | exact ih0 _ _ _ | exact LeO.none _ | refine LeO.ite ?_ ?_ | refine LeO.bind ?_ (fun _ => ?_)
set_option maxHeartbeats 8000000 in
set_option maxRecDepth 100000 in
theorem spec_l1Letters.calls (k : Nat) (a0 : ByteArray) (a1 : Int) (r : Bool) (w : World) (h : spec_l1Letters.f k a0 a1 = some r) :
  Calls Try.prog 105 #[.string a0, .int .i64 a1] w fun e w' => e = .returned (.bool r) ∧ Drawn0 w w' := by
 have H : (spec_l1Letters.l0 k a0 a1 0) = some r := h
 clear h
 have H' := am H
 clear H; go_enter Try.func105, Try.ntmps105; go_wp2
 go_loopg [5] k (fun kq v5 w' => ∃ (x5_1 : Int), v5 = .int .i64 x5_1 ∧ Aside0 (spec_l1Letters.l0 kq a0 a1 x5_1 = some r) ∧ Aside0 (kq ≤ k) ∧ Drawn0 w w')
 case atStart => exact ⟨(0), sq, H', ⟨Nat.le_refl _⟩, dr⟩
 case round =>
  clear H'; (try clear c1); (try clear p2); obtain ⟨x5_1, rfl, HA, HK1, ⟨m1, rfl⟩⟩ := hrel
  cases gk with
  | zero => exact absurd HA.out (by simp [spec_l1Letters.l0])
  | succ k1 =>
   have H := HA.out; clear HA
   simp only [spec_l1Letters.l0] at H
   by_cases c3 : x5_1 < (a0.size : Int)
   ·rw [if_pos c3] at H; have c3b0 := decide_eq_true c3; clear c3
    by_cases c4 : 0 ≤ x5_1
    ·rw [if_pos c4] at H; have c4b0 := decide_eq_true c4; clear c4
     by_cases c6 : (bt a0 x5_1) < 97
     ·rw [if_pos c6] at H; have c6b0 := decide_eq_true c6; clear c6; obtain rfl := Option.some.inj H
      have p5 : 0 ≤ (x5_1 : Int) := of_decide_eq_true ad
      have q5 : x5_1 < (a0.size : Int) := of_decide_eq_true ad
      have hx5 := bt_at a0 x5_1; replace p5 := eq_true p5; replace q5 := eq_true q5; go_wp2; go_ret
      exact ⟨sq, dr⟩
     ·rw [if_neg c6] at H; have c6b0 := decide_eq_false c6; clear c6
      by_cases c8 : (bt a0 x5_1) > 122
      ·rw [if_pos c8] at H; have c8b0 := decide_eq_true c8; clear c8; obtain rfl := Option.some.inj H
       have p5 : 0 ≤ (x5_1 : Int) := of_decide_eq_true ad
       have q5 : x5_1 < (a0.size : Int) := of_decide_eq_true ad
       have hx5 := bt_at a0 x5_1; replace p5 := eq_true p5; replace q5 := eq_true q5
       have p7 : 0 ≤ (x5_1 : Int) := of_decide_eq_true ad
       have q7 : x5_1 < (a0.size : Int) := of_decide_eq_true ad
       have hx7 := bt_at a0 x5_1; replace p7 := eq_true p7; replace q7 := eq_true q7; go_wp2; go_ret
       exact ⟨sq, dr⟩
      ·rw [if_neg c8] at H; have c8b0 := decide_eq_false c8; clear c8
       have H' := am H
       clear H
       have p5 : 0 ≤ (x5_1 : Int) := of_decide_eq_true ad
       have q5 : x5_1 < (a0.size : Int) := of_decide_eq_true ad
       have hx5 := bt_at a0 x5_1; replace p5 := eq_true p5; replace q5 := eq_true q5
       have p7 : 0 ≤ (x5_1 : Int) := of_decide_eq_true ad
       have q7 : x5_1 < (a0.size : Int) := of_decide_eq_true ad
       have hx7 := bt_at a0 x5_1; replace p7 := eq_true p7; replace q7 := eq_true q7; go_wp2
       go_roundg k1
       case measure => have := HK1.out; omega
       case rel => exact ⟨(wrap64 (x5_1 + 1)), sq, H', ⟨b62_⟩, dr⟩
    ·rw [if_neg c4] at H
     exact absurd H (by simp)
   ·rw [if_neg c3] at H; have c3b0 := decide_eq_false c3; clear c3; obtain rfl := Option.some.inj H; go_wp2; go_ret
    exact ⟨sq, dr⟩

/-! ### spec_l2Begins: function 108 -/
def spec_l2Begins.f (a0 : ByteArray) (a1 : ByteArray) : Option (Bool) := if (a0.size : Int) ≥ (a1.size : Int) then (if 0 ≤ (a1.size : Int) then (if (a1.size : Int) ≤ (a0.size : Int) then (some ((a0.extract 0 a1.size).toList == a1.toList)) else (none)) else (none)) else (some false)
set_option maxHeartbeats 8000000 in
set_option maxRecDepth 100000 in
theorem spec_l2Begins.calls (a0 : ByteArray) (a1 : ByteArray) (r : Bool) (w : World) (h : spec_l2Begins.f a0 a1 = some r) :
  Calls Try.prog 108 #[.string a0, .string a1] w fun e w' => e = .returned (.bool r) ∧ Drawn0 w w' := by
 have H : (if (a0.size : Int) ≥ (a1.size : Int) then (if 0 ≤ (a1.size : Int) then (if (a1.size : Int) ≤ (a0.size : Int) then (some ((a0.extract 0 a1.size).toList == a1.toList)) else (none)) else (none)) else (some false)) = some r := h
 clear h
 by_cases c3 : (a0.size : Int) ≥ (a1.size : Int)
 ·rw [if_pos c3] at H; have c3b0 := decide_eq_true c3
  have c3b1 : decide (a1.size ≤ a0.size) = true := decide_eq_true (Int.ofNat_le.mp c3)
  clear c3
  by_cases c4 : 0 ≤ (a1.size : Int)
  ·rw [if_pos c4] at H; have c4b0 := eq_true c4
   have c4b1 : decide (0 ≤ (a1.size : Int)) = true := decide_eq_true c4
   clear c4
   by_cases c5 : (a1.size : Int) ≤ (a0.size : Int)
   ·rw [if_pos c5] at H; have c5b0 := eq_true c5
    have c5b9 : (a1.size ≤ a0.size) = True := eq_true (by omega)
    have c5b6 : decide (a1.size ≤ a0.size) = true := decide_eq_true (by omega)
    have c5b1 : decide ((a1.size : Int) ≤ (a0.size : Int)) = true := decide_eq_true c5
    clear c5; obtain rfl := Option.some.inj H; go_enter Try.func108, Try.ntmps108; go_wp2; go_ret
    exact ⟨sq, dr⟩
   ·rw [if_neg c5] at H
    exact absurd H (by simp)
  ·rw [if_neg c4] at H
   exact absurd H (by simp)
 ·rw [if_neg c3] at H; have c3b0 := decide_eq_false c3
  have c3b1 : decide (a1.size ≤ a0.size) = false := decide_eq_false (fun h => c3 (Int.ofNat_le.mpr h))
  clear c3; obtain rfl := Option.some.inj H; go_enter Try.func108, Try.ntmps108; go_wp2; go_ret
  exact ⟨sq, dr⟩

/-! ### spec_l2Ends: function 109 -/
def spec_l2Ends.f (a0 : ByteArray) (a1 : ByteArray) : Option (Bool) := if (a0.size : Int) ≥ (a1.size : Int) then (if 0 ≤ (wrap64 ((a0.size : Int) - (a1.size : Int))) then (if (wrap64 ((a0.size : Int) - (a1.size : Int))) ≤ (a0.size : Int) then (some ((a0.extract ((wrap64 ((a0.size : Int) - (a1.size : Int))) : Int).toNat a0.size).toList == a1.toList)) else (none)) else (none)) else (some false)
set_option maxHeartbeats 8000000 in
set_option maxRecDepth 100000 in
theorem spec_l2Ends.calls (a0 : ByteArray) (a1 : ByteArray) (r : Bool) (w : World) (h : spec_l2Ends.f a0 a1 = some r) :
  Calls Try.prog 109 #[.string a0, .string a1] w fun e w' => e = .returned (.bool r) ∧ Drawn0 w w' := by
 have H : (if (a0.size : Int) ≥ (a1.size : Int) then (if 0 ≤ (wrap64 ((a0.size : Int) - (a1.size : Int))) then (if (wrap64 ((a0.size : Int) - (a1.size : Int))) ≤ (a0.size : Int) then (some ((a0.extract ((wrap64 ((a0.size : Int) - (a1.size : Int))) : Int).toNat a0.size).toList == a1.toList)) else (none)) else (none)) else (some false)) = some r := h
 clear h
 by_cases c3 : (a0.size : Int) ≥ (a1.size : Int)
 ·rw [if_pos c3] at H; have c3b0 := decide_eq_true c3
  have c3b1 : decide (a1.size ≤ a0.size) = true := decide_eq_true (Int.ofNat_le.mp c3)
  clear c3; obtain ⟨ji4, hji4⟩ : ∃ j_ : Int, (wrap64 ((a0.size : Int) - (a1.size : Int))) = j_ := ⟨_, rfl⟩
  replace H : (if 0 ≤ (ji4) then (if (ji4) ≤ (a0.size : Int) then (some ((a0.extract ((ji4) : Int).toNat a0.size).toList == a1.toList)) else (none)) else (none)) = some r := by first | (rw [hji4] at H; exact H) | (simp only [hji4] at H ⊢; exact H)
  have hji4w : (IntKind.i64.wrap ((a0.size : Int) - (a1.size : Int))) = ji4 := (i64_w _).trans hji4
  by_cases c5 : 0 ≤ (ji4)
  ·rw [if_pos c5] at H; have c5b0 := eq_true c5
   have c5b1 : decide (0 ≤ (ji4)) = true := decide_eq_true c5
   clear c5
   by_cases c6 : (ji4) ≤ (a0.size : Int)
   ·rw [if_pos c6] at H; have c6b0 := eq_true c6
    have c6b1 : decide ((ji4) ≤ (a0.size : Int)) = true := decide_eq_true c6
    clear c6; obtain rfl := Option.some.inj H; go_enter Try.func109, Try.ntmps109; go_wp2; go_ret
    exact ⟨by first | rfl | (simp; done) | (simp only [← hji4] <;> (first | rfl | simp)) | (simp [*]; done), dr⟩
   ·rw [if_neg c6] at H
    exact absurd H (by simp)
  ·rw [if_neg c5] at H
   exact absurd H (by simp)
 ·rw [if_neg c3] at H; have c3b0 := decide_eq_false c3
  have c3b1 : decide (a1.size ≤ a0.size) = false := decide_eq_false (fun h => c3 (Int.ofNat_le.mpr h))
  clear c3; obtain rfl := Option.some.inj H; go_enter Try.func109, Try.ntmps109; go_wp2; go_ret
  exact ⟨sq, dr⟩

/-! ### spec_AffixOk: function 89 -/
def spec_AffixOk.j0 : Nat → Bool → ByteArray → Bool → ByteArray → ByteArray → ByteArray → Option (Bool)
 | 0, _, _, _, _, _, _ => none
 | k + 1, x24, x199000, x199001, x199002, x199003, x199004 => if x24 = true then (some false) else (if x199001 = true then ((spec_l2Begins.f x199004 x199002).bind fun t203 => (some t203)) else ((spec_l2Ends.f x199004 x199002).bind fun t204 => (some t204)))
def spec_AffixOk.f (k : Nat) (a0_0 : ByteArray) (a0_1 : Bool) (a0_2 : ByteArray) (a0_3 : ByteArray) (a0_4 : ByteArray) : Option (Bool) := (spec_l2Flag.f a0_0).bind fun t199 => (if t199 = true then ((spec_l1Letters.f k a0_2 4).bind fun t200 => (if t200 = true then ((spec_l1Letters.f k a0_3 4).bind fun t201 => (if t201 = true then ((spec_l1Letters.f k a0_4 4).bind fun t202 => (spec_AffixOk.j0 k (!t202) a0_0 a0_1 a0_2 a0_3 a0_4)) else (spec_AffixOk.j0 k true a0_0 a0_1 a0_2 a0_3 a0_4))) else (spec_AffixOk.j0 k true a0_0 a0_1 a0_2 a0_3 a0_4))) else (spec_AffixOk.j0 k true a0_0 a0_1 a0_2 a0_3 a0_4))
theorem spec_AffixOk.mono_l : ∀ k, (∀ y0 y1 y2 y3 y4 y5, LeO (spec_AffixOk.j0 k y0 y1 y2 y3 y4 y5) (spec_AffixOk.j0 (k + 1) y0 y1 y2 y3 y4 y5))
 | 0 => fun _ _ _ _ _ _ r h => by simp [spec_AffixOk.j0] at h
 | k + 1 => by
  have ih0 := spec_AffixOk.mono_l k
  ·intro y0 y1 y2 y3 y4 y5
   unfold spec_AffixOk.j0
   repeat' first | (with_reducible first | exact ih0 _ _ _ _ _ _ | exact spec_l1Letters.mono _ _ _ | exact LeO.refl _ | exact LeO.none _ | refine LeO.ite ?_ ?_ | refine LeO.bind ?_ (fun _ => ?_)) | exact ih0 _ _ _ _ _ _ | exact spec_l1Letters.mono _ _ _ | exact LeO.none _ | refine LeO.ite ?_ ?_ | refine LeO.bind ?_ (fun _ => ?_)
theorem spec_AffixOk.mono : ∀ a0 a1 a2 a3 a4 k, LeO (spec_AffixOk.f k a0 a1 a2 a3 a4) (spec_AffixOk.f (k + 1) a0 a1 a2 a3 a4) := by
 intro a0 a1 a2 a3 a4 k; have ih0 := spec_AffixOk.mono_l k
 unfold spec_AffixOk.f
 repeat' first | (with_reducible first | exact ih0 _ _ _ _ _ _ | exact spec_l1Letters.mono _ _ _ | exact LeO.refl _ | exact LeO.none _ | refine LeO.ite ?_ ?_ | refine LeO.bind ?_ (fun _ => ?_)) | exact ih0 _ _ _ _ _ _ | exact spec_l1Letters.mono _ _ _ | exact LeO.none _ | refine LeO.ite ?_ ?_ | refine LeO.bind ?_ (fun _ => ?_)
set_option maxHeartbeats 8000000 in
set_option maxRecDepth 100000 in
theorem spec_AffixOk.calls (k : Nat) (a0_0 : ByteArray) (a0_1 : Bool) (a0_2 : ByteArray) (a0_3 : ByteArray) (a0_4 : ByteArray) (r : Bool) (w : World) (h : spec_AffixOk.f k a0_0 a0_1 a0_2 a0_3 a0_4 = some r) :
  Calls Try.prog 89 #[.agg #[.string a0_0, .bool a0_1, .string a0_2, .string a0_3, .string a0_4]] w fun e w' => e = .returned (.bool r) ∧ Below w.heap.size w w' := by
 have hu44 := Try.underlying44; have HB := am (Below.refl w.heap.size w)
 have H : ((spec_l2Flag.f a0_0).bind fun t199 => (if t199 = true then ((spec_l1Letters.f k a0_2 4).bind fun t200 => (if t200 = true then ((spec_l1Letters.f k a0_3 4).bind fun t201 => (if t201 = true then ((spec_l1Letters.f k a0_4 4).bind fun t202 => (spec_AffixOk.j0 k (!t202) a0_0 a0_1 a0_2 a0_3 a0_4)) else (spec_AffixOk.j0 k true a0_0 a0_1 a0_2 a0_3 a0_4))) else (spec_AffixOk.j0 k true a0_0 a0_1 a0_2 a0_3 a0_4))) else (spec_AffixOk.j0 k true a0_0 a0_1 a0_2 a0_3 a0_4))) = some r := h
 clear h; have HC2 := am H; clear H; go_enter Try.func89, Try.ntmps89
 go_upto_region 1 with (first | ((with_reducible refine gate_dst (N := 1) rfl ?_); refine bx 1 (cs := #[.string a0_0, .bool a0_1, .string a0_2, .string a0_3, .string a0_4]) (t := 44) ?_; intro gb198 hg w3 hbox hb; have BK198 := am (hbox); have GW198 := am ((b15_ : w.heap.size ≤ gb198)); have GE198 := am ((b15_ : w.heap.size ≤ gb198)); replace HB := am (below_step bel hb); clear hb hbox hg))
 (try simp only [Act.put, List.setIfInBounds_toArray, List.set_cons_zero, List.set_cons_succ])
 go_cut [24] (fun v24 wc => ∃ (kq : Nat) (x24_1 : Bool), v24 = .bool x24_1 ∧ Aside0 (spec_AffixOk.j0 kq x24_1 a0_0 a0_1 a0_2 a0_3 a0_4 = some r) ∧ Aside0 (kq ≤ k) ∧ Aside0 (wc.heap[gb198]? = some (.cells #[.string a0_0, .bool a0_1, .string a0_2, .string a0_3, .string a0_4] 44 (0, 0))) ∧ Aside0 (Below w.heap.size w wc))
 case first =>
  have H := HC2.out; clear HC2; replace H := Option.bind_eq_some_iff.mp H; obtain ⟨t199, A40, H⟩ := H; replace H : (if t199 = true then ((spec_l1Letters.f k a0_2 4).bind fun t200 => (if t200 = true then ((spec_l1Letters.f k a0_3 4).bind fun t201 => (if t201 = true then ((spec_l1Letters.f k a0_4 4).bind fun t202 => (spec_AffixOk.j0 k (!t202) a0_0 a0_1 a0_2 a0_3 a0_4)) else (spec_AffixOk.j0 k true a0_0 a0_1 a0_2 a0_3 a0_4))) else (spec_AffixOk.j0 k true a0_0 a0_1 a0_2 a0_3 a0_4))) else (spec_AffixOk.j0 k true a0_0 a0_1 a0_2 a0_3 a0_4)) = some r := H; have A4 := Aside0.mk A40; clear A40
  by_cases c5 : t199 = true
  ·subst c5
   have H1 : ((spec_l1Letters.f k a0_2 4).bind fun t200 => (if t200 = true then ((spec_l1Letters.f k a0_3 4).bind fun t201 => (if t201 = true then ((spec_l1Letters.f k a0_4 4).bind fun t202 => (spec_AffixOk.j0 k (!t202) a0_0 a0_1 a0_2 a0_3 a0_4)) else (spec_AffixOk.j0 k true a0_0 a0_1 a0_2 a0_3 a0_4))) else (spec_AffixOk.j0 k true a0_0 a0_1 a0_2 a0_3 a0_4))) = some r := b34_
   replace H := H1; clear H1
   replace H := Option.bind_eq_some_iff.mp H; obtain ⟨t200, A60, H⟩ := H; replace H : (if t200 = true then ((spec_l1Letters.f k a0_3 4).bind fun t201 => (if t201 = true then ((spec_l1Letters.f k a0_4 4).bind fun t202 => (spec_AffixOk.j0 k (!t202) a0_0 a0_1 a0_2 a0_3 a0_4)) else (spec_AffixOk.j0 k true a0_0 a0_1 a0_2 a0_3 a0_4))) else (spec_AffixOk.j0 k true a0_0 a0_1 a0_2 a0_3 a0_4)) = some r := H; have A6 := Aside0.mk A60; clear A60
   by_cases c7 : t200 = true
   ·subst c7
    have H1 : ((spec_l1Letters.f k a0_3 4).bind fun t201 => (if t201 = true then ((spec_l1Letters.f k a0_4 4).bind fun t202 => (spec_AffixOk.j0 k (!t202) a0_0 a0_1 a0_2 a0_3 a0_4)) else (spec_AffixOk.j0 k true a0_0 a0_1 a0_2 a0_3 a0_4))) = some r := b34_
    replace H := H1; clear H1
    replace H := Option.bind_eq_some_iff.mp H; obtain ⟨t201, A80, H⟩ := H; replace H : (if t201 = true then ((spec_l1Letters.f k a0_4 4).bind fun t202 => (spec_AffixOk.j0 k (!t202) a0_0 a0_1 a0_2 a0_3 a0_4)) else (spec_AffixOk.j0 k true a0_0 a0_1 a0_2 a0_3 a0_4)) = some r := H; have A8 := Aside0.mk A80; clear A80
    by_cases c9 : t201 = true
    ·subst c9
     have H1 : ((spec_l1Letters.f k a0_4 4).bind fun t202 => (spec_AffixOk.j0 k (!t202) a0_0 a0_1 a0_2 a0_3 a0_4)) = some r := b34_
     replace H := H1; clear H1
     replace H := Option.bind_eq_some_iff.mp H; obtain ⟨t202, A100, H⟩ := H; replace H : (spec_AffixOk.j0 k (!t202) a0_0 a0_1 a0_2 a0_3 a0_4) = some r := H; have A10 := Aside0.mk A100; clear A100
     have H' := am H
     clear H; have hcz11_0 := bc BK198.out 0; have hcz11_1 := bc BK198.out 1; have hcz11_2 := bc BK198.out 2; have hcz11_3 := bc BK198.out 3; have hcz11_4 := bc BK198.out 4; have hfz11_0 := bf BK198.out 0; have hfz11_1 := bf BK198.out 1; have hfz11_2 := bf BK198.out 2; have hfz11_3 := bf BK198.out 3; have hfz11_4 := bf BK198.out 4
     go_wp2_with (first | ((with_reducible refine gate_callee (f := 90) rfl ?_); refine goesL_ (some 5) rfl rfl Try.func90 (by kernel_rfl) rfl #[.string a0_0] rfl mq ?_; (with_reducible refine (spec_l2Flag.calls a0_0 true _ A4.out).mono ?_); rintro e w' ⟨rfl, ⟨nd, rfl⟩⟩; refine ⟨_, rfl, ?_⟩) | (go_at_call 105; (with_reducible refine (spec_l1Letters.calls k a0_2 4 true _ A6.out).mono ?_); rintro e w' ⟨rfl, ⟨nd, rfl⟩⟩) | (go_at_call 105; (with_reducible refine (spec_l1Letters.calls k a0_3 4 true _ A8.out).mono ?_); rintro e w' ⟨rfl, ⟨nd, rfl⟩⟩) | (go_at_call 105; (with_reducible refine (spec_l1Letters.calls k a0_4 4 t202 _ A10.out).mono ?_); rintro e w' ⟨rfl, ⟨nd, rfl⟩⟩))
     go_meet
     case rel => exact ⟨_, (!t202), sq, H', ⟨b57_⟩, ⟨bq BK198.out⟩, ⟨bel1 GE198.out⟩⟩
    ·replace c9 := Bool.eq_false_iff.mpr c9; subst c9
     have H1 : (spec_AffixOk.j0 k true a0_0 a0_1 a0_2 a0_3 a0_4) = some r := b19_
     replace H := H1; clear H1
     have H' := am H
     clear H; have hcz12_0 := bc BK198.out 0; have hcz12_1 := bc BK198.out 1; have hcz12_2 := bc BK198.out 2; have hcz12_3 := bc BK198.out 3; have hcz12_4 := bc BK198.out 4; have hfz12_0 := bf BK198.out 0; have hfz12_1 := bf BK198.out 1; have hfz12_2 := bf BK198.out 2; have hfz12_3 := bf BK198.out 3; have hfz12_4 := bf BK198.out 4
     go_wp2_with (first | ((with_reducible refine gate_callee (f := 90) rfl ?_); refine goesL_ (some 5) rfl rfl Try.func90 (by kernel_rfl) rfl #[.string a0_0] rfl mq ?_; (with_reducible refine (spec_l2Flag.calls a0_0 true _ A4.out).mono ?_); rintro e w' ⟨rfl, ⟨nd, rfl⟩⟩; refine ⟨_, rfl, ?_⟩) | (go_at_call 105; (with_reducible refine (spec_l1Letters.calls k a0_2 4 true _ A6.out).mono ?_); rintro e w' ⟨rfl, ⟨nd, rfl⟩⟩) | (go_at_call 105; (with_reducible refine (spec_l1Letters.calls k a0_3 4 false _ A8.out).mono ?_); rintro e w' ⟨rfl, ⟨nd, rfl⟩⟩))
     go_meet
     case rel => exact ⟨_, (true), sq, H', ⟨b57_⟩, ⟨bq BK198.out⟩, ⟨bel1 GE198.out⟩⟩
   ·replace c7 := Bool.eq_false_iff.mpr c7; subst c7
    have H1 : (spec_AffixOk.j0 k true a0_0 a0_1 a0_2 a0_3 a0_4) = some r := b19_
    replace H := H1; clear H1
    have H' := am H
    clear H; have hcz13_0 := bc BK198.out 0; have hcz13_1 := bc BK198.out 1; have hcz13_2 := bc BK198.out 2; have hcz13_3 := bc BK198.out 3; have hcz13_4 := bc BK198.out 4; have hfz13_0 := bf BK198.out 0; have hfz13_1 := bf BK198.out 1; have hfz13_2 := bf BK198.out 2; have hfz13_3 := bf BK198.out 3; have hfz13_4 := bf BK198.out 4
    go_wp2_with (first | ((with_reducible refine gate_callee (f := 90) rfl ?_); refine goesL_ (some 5) rfl rfl Try.func90 (by kernel_rfl) rfl #[.string a0_0] rfl mq ?_; (with_reducible refine (spec_l2Flag.calls a0_0 true _ A4.out).mono ?_); rintro e w' ⟨rfl, ⟨nd, rfl⟩⟩; refine ⟨_, rfl, ?_⟩) | (go_at_call 105; (with_reducible refine (spec_l1Letters.calls k a0_2 4 false _ A6.out).mono ?_); rintro e w' ⟨rfl, ⟨nd, rfl⟩⟩))
    go_meet
    case rel => exact ⟨_, (true), sq, H', ⟨b57_⟩, ⟨bq BK198.out⟩, ⟨bel1 GE198.out⟩⟩
  ·replace c5 := Bool.eq_false_iff.mpr c5; subst c5
   have H1 : (spec_AffixOk.j0 k true a0_0 a0_1 a0_2 a0_3 a0_4) = some r := b19_
   replace H := H1; clear H1
   have H' := am H
   clear H; have hcz14_0 := bc BK198.out 0; have hcz14_1 := bc BK198.out 1; have hcz14_2 := bc BK198.out 2; have hcz14_3 := bc BK198.out 3; have hcz14_4 := bc BK198.out 4; have hfz14_0 := bf BK198.out 0; have hfz14_1 := bf BK198.out 1; have hfz14_2 := bf BK198.out 2; have hfz14_3 := bf BK198.out 3; have hfz14_4 := bf BK198.out 4
   go_wp2_with (first | ((with_reducible refine gate_callee (f := 90) rfl ?_); refine goesL_ (some 5) rfl rfl Try.func90 (by kernel_rfl) rfl #[.string a0_0] rfl mq ?_; (with_reducible refine (spec_l2Flag.calls a0_0 false _ A4.out).mono ?_); rintro e w' ⟨rfl, ⟨nd, rfl⟩⟩; refine ⟨_, rfl, ?_⟩))
   go_meet
   case rel => exact ⟨_, (true), sq, H', ⟨b57_⟩, ⟨bq BK198.out⟩, ⟨bel1 GE198.out⟩⟩
 case rest =>
  clear HC2; (try clear p2); (try clear c5); (try clear c7); (try clear c8); (try clear c9); (try clear hcz11_0); (try clear hcz11_1); (try clear hcz11_2); (try clear hcz11_3); (try clear hcz11_4); (try clear hcz12_0); (try clear hcz12_1); (try clear hcz12_2); (try clear hcz12_3); (try clear hcz12_4); (try clear hcz13_0); (try clear hcz13_1); (try clear hcz13_2); (try clear hcz13_3); (try clear hcz13_4); (try clear hcz14_0); (try clear hcz14_1); (try clear hcz14_2); (try clear hcz14_3); (try clear hcz14_4); (try clear hfz11_0); (try clear hfz11_1); (try clear hfz11_2); (try clear hfz11_3); (try clear hfz11_4); (try clear hfz12_0); (try clear hfz12_1); (try clear hfz12_2); (try clear hfz12_3); (try clear hfz12_4); (try clear hfz13_0); (try clear hfz13_1); (try clear hfz13_2); (try clear hfz13_3); (try clear hfz13_4); (try clear hfz14_0); (try clear hfz14_1); (try clear hfz14_2); (try clear hfz14_3); (try clear hfz14_4); obtain ⟨kq, x24_1, rfl, HA, HJ1, BK198, HB⟩ := hcut
  cases kq with
  | zero => exact absurd HA.out (by simp [spec_AffixOk.j0])
  | succ kj1 =>
   have H := HA.out; clear HA
   simp only [spec_AffixOk.j0] at H
   by_cases c15 : x24_1 = true
   ·subst c15
    have H1 : (some false) = some r := b34_
    replace H := H1; clear H1
    obtain rfl := Option.some.inj H; go_wp2; go_ret
    exact ⟨eq_, bel1 GE198.out⟩
   ·replace c15 := Bool.eq_false_iff.mpr c15; subst c15
    have H1 : (if a0_1 = true then ((spec_l2Begins.f a0_4 a0_2).bind fun t203 => (some t203)) else ((spec_l2Ends.f a0_4 a0_2).bind fun t204 => (some t204))) = some r := b19_
    replace H := H1; clear H1
    by_cases c16 : a0_1 = true
    ·subst c16
     have H1 : ((spec_l2Begins.f a0_4 a0_2).bind fun t203 => (some t203)) = some r := b34_
     replace H := H1; clear H1
     replace H := Option.bind_eq_some_iff.mp H; obtain ⟨t203, A170, H⟩ := H; replace H : (some t203) = some r := H; have A17 := Aside0.mk A170; clear A170; obtain rfl := Option.some.inj H; have hcz18_0 := bc BK198.out 0; have hcz18_1 := bc BK198.out 1; have hcz18_2 := bc BK198.out 2; have hcz18_3 := bc BK198.out 3; have hcz18_4 := bc BK198.out 4; have hfz18_0 := bf BK198.out 0; have hfz18_1 := bf BK198.out 1; have hfz18_2 := bf BK198.out 2; have hfz18_3 := bf BK198.out 3; have hfz18_4 := bf BK198.out 4
     go_wp2_with (first | ((with_reducible refine gate_callee (f := 108) rfl ?_); refine goesL_ (some 31) rfl rfl Try.func108 (by kernel_rfl) rfl #[.string a0_4, .string a0_2] rfl mq ?_; (with_reducible refine (spec_l2Begins.calls a0_4 a0_2 t203 _ A17.out).mono ?_); rintro e w' ⟨rfl, ⟨nd, rfl⟩⟩; refine ⟨_, rfl, ?_⟩))
     go_ret
     exact ⟨eq_, bel1 GE198.out⟩
    ·replace c16 := Bool.eq_false_iff.mpr c16; subst c16
     have H1 : ((spec_l2Ends.f a0_4 a0_2).bind fun t204 => (some t204)) = some r := b19_
     replace H := H1; clear H1
     replace H := Option.bind_eq_some_iff.mp H; obtain ⟨t204, A190, H⟩ := H; replace H : (some t204) = some r := H; have A19 := Aside0.mk A190; clear A190; obtain rfl := Option.some.inj H; have hcz20_0 := bc BK198.out 0; have hcz20_1 := bc BK198.out 1; have hcz20_2 := bc BK198.out 2; have hcz20_3 := bc BK198.out 3; have hcz20_4 := bc BK198.out 4; have hfz20_0 := bf BK198.out 0; have hfz20_1 := bf BK198.out 1; have hfz20_2 := bf BK198.out 2; have hfz20_3 := bf BK198.out 3; have hfz20_4 := bf BK198.out 4
     go_wp2_with (first | ((with_reducible refine gate_callee (f := 109) rfl ?_); refine goesL_ (some 36) rfl rfl Try.func109 (by kernel_rfl) rfl #[.string a0_4, .string a0_2] rfl mq ?_; (with_reducible refine (spec_l2Ends.calls a0_4 a0_2 t204 _ A19.out).mono ?_); rintro e w' ⟨rfl, ⟨nd, rfl⟩⟩; refine ⟨_, rfl, ?_⟩))
     go_ret
     exact ⟨eq_, bel1 GE198.out⟩

end Go.Proofs.Ytedfcehhgbeibaa.QFnBookKnows

import Derived.Test.YtedfcehhgbeibaaQFnBookStemsx0
import Derived.Test.YtedfcehhgbeibaaQFnBookStemsx1
import Derived.Test.YtedfcehhgbeibaaQFnBookStemsx2
import Derived.Test.YtedfcehhgbeibaaVMSh2
namespace Go.Proofs.Ytedfcehhgbeibaa.QFnBookStems
open Go.RowKit Go.Proofs.YtedfcehhgbeibaaW.PrintWords Go.Proofs.YtedfcehhgbeibaaW.PrintLast Go.Proofs.YtedfcehhgbeibaaW.PrintMore Go.Proofs.Ytedfcehhgbeibaa.Sh
attribute [local go_sem] max2_int min2_int max_two min_two max_three min_three max_four min_four   -- for this text's walks alone
set_option linter.unusedVariables false
set_option linter.unusedSimpArgs false
-- shrunk

attribute [local go_sem high] eqA44
/-! ### impl_AffixDo: function 28 -/
def impl_AffixDo.j0 : Nat → ByteArray → Bool → ByteArray → Bool → ByteArray → ByteArray → ByteArray → Option (ByteArray × Bool)
 | 0, _, _, _, _, _, _, _ => none
 | k + 1, x1, x14, x115000, x115001, x115002, x115003, x115004 => if x14 = true then (some ((⟨#[]⟩ : ByteArray), false)) else (if x115001 = true then ((strings_HasPrefix.f x1 x115004).bind fun t117 => (if t117 = true then (if 0 ≤ (x115002.size : Int) then (if (x115002.size : Int) ≤ (x1.size : Int) then (if x115003.size + (x1.extract x115002.size x1.size).size ≤ 9223372036854775807 then ((impl_WordOk.f k (x115003 ++ (x1.extract x115002.size x1.size))).bind fun t118 => (if t118 = true then (some (x115003 ++ (x1.extract x115002.size x1.size), true)) else (some ((⟨#[]⟩ : ByteArray), false)))) else (none)) else (none)) else (none)) else (some ((⟨#[]⟩ : ByteArray), false)))) else ((strings_HasSuffix.f x1 x115004).bind fun t119 => (if t119 = true then (if 0 ≤ (wrap64 ((x1.size : Int) - (x115002.size : Int))) then (if (wrap64 ((x1.size : Int) - (x115002.size : Int))) ≤ (x1.size : Int) then (if (x1.extract 0 ((wrap64 ((x1.size : Int) - (x115002.size : Int))) : Int).toNat).size + x115003.size ≤ 9223372036854775807 then ((impl_WordOk.f k ((x1.extract 0 ((wrap64 ((x1.size : Int) - (x115002.size : Int))) : Int).toNat) ++ x115003)).bind fun t120 => (if t120 = true then (some ((x1.extract 0 ((wrap64 ((x1.size : Int) - (x115002.size : Int))) : Int).toNat) ++ x115003, true)) else (some ((⟨#[]⟩ : ByteArray), false)))) else (none)) else (none)) else (none)) else (some ((⟨#[]⟩ : ByteArray), false)))))
def impl_AffixDo.f (k : Nat) (a0_0 : ByteArray) (a0_1 : Bool) (a0_2 : ByteArray) (a0_3 : ByteArray) (a0_4 : ByteArray) (a1 : ByteArray) : Option (ByteArray × Bool) := (impl_AffixOk.f k a0_0 a0_1 a0_2 a0_3 a0_4).bind fun t115 => (if t115 = true then ((impl_WordOk.f k a1).bind fun t116 => (impl_AffixDo.j0 k a1 (!t116) a0_0 a0_1 a0_2 a0_3 a0_4)) else (impl_AffixDo.j0 k a1 true a0_0 a0_1 a0_2 a0_3 a0_4))
theorem impl_AffixDo.mono_l : ∀ k, (∀ y0 y1 y2 y3 y4 y5 y6, LeO (impl_AffixDo.j0 k y0 y1 y2 y3 y4 y5 y6) (impl_AffixDo.j0 (k + 1) y0 y1 y2 y3 y4 y5 y6))
 | 0 => fun _ _ _ _ _ _ _ r h => by simp [impl_AffixDo.j0] at h
 | k + 1 => by
  have ih0 := impl_AffixDo.mono_l k
  ·intro y0 y1 y2 y3 y4 y5 y6
   unfold impl_AffixDo.j0
   repeat' first | (with_reducible first | exact ih0 _ _ _ _ _ _ _ | exact impl_AffixOk.mono _ _ _ _ _ _ | exact impl_WordOk.mono _ _ | exact LeO.refl _ | exact LeO.none _ | refine LeO.ite ?_ ?_ | refine LeO.bind ?_ (fun _ => ?_)) | exact ih0 _ _ _ _ _ _ _ | exact impl_AffixOk.mono _ _ _ _ _ _ | exact impl_WordOk.mono _ _ | exact LeO.none _ | refine LeO.ite ?_ ?_ | refine LeO.bind ?_ (fun _ => ?_)
theorem impl_AffixDo.mono : ∀ a0 a1 a2 a3 a4 a5 k, LeO (impl_AffixDo.f k a0 a1 a2 a3 a4 a5) (impl_AffixDo.f (k + 1) a0 a1 a2 a3 a4 a5) := by
 intro a0 a1 a2 a3 a4 a5 k; have ih0 := impl_AffixDo.mono_l k
 unfold impl_AffixDo.f
 repeat' first | (with_reducible first | exact ih0 _ _ _ _ _ _ _ | exact impl_AffixOk.mono _ _ _ _ _ _ | exact impl_WordOk.mono _ _ | exact LeO.refl _ | exact LeO.none _ | refine LeO.ite ?_ ?_ | refine LeO.bind ?_ (fun _ => ?_)) | exact ih0 _ _ _ _ _ _ _ | exact impl_AffixOk.mono _ _ _ _ _ _ | exact impl_WordOk.mono _ _ | exact LeO.none _ | refine LeO.ite ?_ ?_ | refine LeO.bind ?_ (fun _ => ?_)
set_option maxHeartbeats 8000000 in
set_option maxRecDepth 100000 in
theorem impl_AffixDo.calls (k : Nat) (a0_0 : ByteArray) (a0_1 : Bool) (a0_2 : ByteArray) (a0_3 : ByteArray) (a0_4 : ByteArray) (a1 : ByteArray) (r1 : ByteArray) (r2 : Bool) (w : World) (h : impl_AffixDo.f k a0_0 a0_1 a0_2 a0_3 a0_4 a1 = some (r1, r2)) :
  Calls Try.prog 28 #[.agg #[.string a0_0, .bool a0_1, .string a0_2, .string a0_3, .string a0_4], .string a1] w fun e w' => e = .returned (.tuple #[.string r1, .bool r2]) ∧ Below w.heap.size w w' := by
 have hu44 := Try.underlying44; have HB := am (Below.refl w.heap.size w)
 have H : ((impl_AffixOk.f k a0_0 a0_1 a0_2 a0_3 a0_4).bind fun t115 => (if t115 = true then ((impl_WordOk.f k a1).bind fun t116 => (impl_AffixDo.j0 k a1 (!t116) a0_0 a0_1 a0_2 a0_3 a0_4)) else (impl_AffixDo.j0 k a1 true a0_0 a0_1 a0_2 a0_3 a0_4))) = some (r1, r2) := h
 clear h; have HC3 := am H; clear H; go_enter Try.func28, Try.ntmps28
 go_upto_region 1 with (first | ((with_reducible refine gate_dst (N := 2) rfl ?_); refine bx 2 (cs := #[.string a0_0, .bool a0_1, .string a0_2, .string a0_3, .string a0_4]) (t := 44) ?_; intro gb114 hg w4 hbox hb; have BK114 := am (hbox); have GW114 := am ((b20_ : w.heap.size ≤ gb114)); have GE114 := am ((b20_ : w.heap.size ≤ gb114)); replace HB := am (below_step bel hb); clear hb hbox hg))
 repeat (go_quiet (first | ((with_reducible refine gate_dst (N := 2) rfl ?_); refine bx 2 (cs := #[.string a0_0, .bool a0_1, .string a0_2, .string a0_3, .string a0_4]) (t := 44) ?_; intro gb114 hg w4 hbox hb; have BK114 := am (hbox); have GW114 := am ((b20_ : w.heap.size ≤ gb114)); have GE114 := am ((b20_ : w.heap.size ≤ gb114)); replace HB := am (below_step bel hb); clear hb hbox hg)); go_upto_region 1 with (first | ((with_reducible refine gate_dst (N := 2) rfl ?_); refine bx 2 (cs := #[.string a0_0, .bool a0_1, .string a0_2, .string a0_3, .string a0_4]) (t := 44) ?_; intro gb114 hg w4 hbox hb; have BK114 := am (hbox); have GW114 := am ((b20_ : w.heap.size ≤ gb114)); have GE114 := am ((b20_ : w.heap.size ≤ gb114)); replace HB := am (below_step bel hb); clear hb hbox hg)))
 (try simp only [Act.put, List.setIfInBounds_toArray, List.set_cons_zero, List.set_cons_succ])
 go_cut [14] (fun v14 wc => ∃ (kq : Nat) (x14_2 : Bool), v14 = .bool x14_2 ∧ Aside0 (impl_AffixDo.j0 kq a1 x14_2 a0_0 a0_1 a0_2 a0_3 a0_4 = some (r1, r2)) ∧ Aside0 (kq ≤ k) ∧ Aside0 (wc.heap[gb114]? = some (.cells #[.string a0_0, .bool a0_1, .string a0_2, .string a0_3, .string a0_4] 44 (0, 0))) ∧ Aside0 (Below w.heap.size w wc))
 case first =>
  have H := HC3.out; clear HC3; replace H := Option.bind_eq_some_iff.mp H; obtain ⟨t115, A50, H⟩ := H; replace H : (if t115 = true then ((impl_WordOk.f k a1).bind fun t116 => (impl_AffixDo.j0 k a1 (!t116) a0_0 a0_1 a0_2 a0_3 a0_4)) else (impl_AffixDo.j0 k a1 true a0_0 a0_1 a0_2 a0_3 a0_4)) = some (r1, r2) := H; have A5 := Aside0.mk A50; clear A50
  by_cases c6 : t115 = true
  ·subst c6
   have H1 : ((impl_WordOk.f k a1).bind fun t116 => (impl_AffixDo.j0 k a1 (!t116) a0_0 a0_1 a0_2 a0_3 a0_4)) = some (r1, r2) := b36_
   replace H := H1; clear H1
   replace H := Option.bind_eq_some_iff.mp H; obtain ⟨t116, A70, H⟩ := H; replace H : (impl_AffixDo.j0 k a1 (!t116) a0_0 a0_1 a0_2 a0_3 a0_4) = some (r1, r2) := H; have A7 := Aside0.mk A70; clear A70
   have H' := am H
   clear H; have hcz8_0 := bc BK114.out 0; have hcz8_1 := bc BK114.out 1; have hcz8_2 := bc BK114.out 2; have hcz8_3 := bc BK114.out 3; have hcz8_4 := bc BK114.out 4; have hfz8_0 := bf BK114.out 0; have hfz8_1 := bf BK114.out 1; have hfz8_2 := bf BK114.out 2; have hfz8_3 := bf BK114.out 3; have hfz8_4 := bf BK114.out 4
   go_wp2_with (first | (go_at_call 69; (with_reducible refine (impl_AffixOk.calls k a0_0 a0_1 a0_2 a0_3 a0_4 true _ A5.out).mono ?_); rintro e w9 ⟨rfl, hb⟩; replace BK114 := am (blk_below (g := gb114) (o := .cells #[.string a0_0, .bool a0_1, .string a0_2, .string a0_3, .string a0_4] 44 (0, 0)) (bq BK114.out) hb); replace HB := am (below_step (bel1 GE114.out) hb); (try clear hb); (try clear hb2); (try clear hk); (try clear hi)) | (go_at_call 30; (with_reducible refine (impl_WordOk.calls k a1 t116 _ A7.out).mono ?_); rintro e w' ⟨rfl, ⟨nd, rfl⟩⟩; (try first | exact ⟨rfl, _, World.drewN_drewN _ _ _⟩ | exact ⟨rfl, _, Eq.trans (World.drewN_drewN _ _ _) (congrArg (World.drewN _) (Nat.add_assoc _ _ _))⟩)))
   repeat (go_quiet (first | (go_at_call 69; (with_reducible refine (impl_AffixOk.calls k a0_0 a0_1 a0_2 a0_3 a0_4 true _ A5.out).mono ?_); rintro e w9 ⟨rfl, hb⟩; replace BK114 := am (blk_below (g := gb114) (o := .cells #[.string a0_0, .bool a0_1, .string a0_2, .string a0_3, .string a0_4] 44 (0, 0)) (bq BK114.out) hb); replace HB := am (below_step (bel1 GE114.out) hb); (try clear hb); (try clear hb2); (try clear hk); (try clear hi)) | (go_at_call 30; (with_reducible refine (impl_WordOk.calls k a1 t116 _ A7.out).mono ?_); rintro e w' ⟨rfl, ⟨nd, rfl⟩⟩; (try first | exact ⟨rfl, _, World.drewN_drewN _ _ _⟩ | exact ⟨rfl, _, Eq.trans (World.drewN_drewN _ _ _) (congrArg (World.drewN _) (Nat.add_assoc _ _ _))⟩))); try go_wp2_with (first | (go_at_call 69; (with_reducible refine (impl_AffixOk.calls k a0_0 a0_1 a0_2 a0_3 a0_4 true _ A5.out).mono ?_); rintro e w9 ⟨rfl, hb⟩; replace BK114 := am (blk_below (g := gb114) (o := .cells #[.string a0_0, .bool a0_1, .string a0_2, .string a0_3, .string a0_4] 44 (0, 0)) (bq BK114.out) hb); replace HB := am (below_step (bel1 GE114.out) hb); (try clear hb); (try clear hb2); (try clear hk); (try clear hi)) | (go_at_call 30; (with_reducible refine (impl_WordOk.calls k a1 t116 _ A7.out).mono ?_); rintro e w' ⟨rfl, ⟨nd, rfl⟩⟩; (try first | exact ⟨rfl, _, World.drewN_drewN _ _ _⟩ | exact ⟨rfl, _, Eq.trans (World.drewN_drewN _ _ _) (congrArg (World.drewN _) (Nat.add_assoc _ _ _))⟩))))
   go_meet
   case rel => exact ⟨_, (!t116), sq, H', ⟨b60_⟩, ⟨bq BK114.out⟩, ⟨bel1 GE114.out⟩⟩
  ·replace c6 := Bool.eq_false_iff.mpr c6; subst c6
   have H1 : (impl_AffixDo.j0 k a1 true a0_0 a0_1 a0_2 a0_3 a0_4) = some (r1, r2) := b18_
   replace H := H1; clear H1
   have H' := am H
   clear H; have hcz10_0 := bc BK114.out 0; have hcz10_1 := bc BK114.out 1; have hcz10_2 := bc BK114.out 2; have hcz10_3 := bc BK114.out 3; have hcz10_4 := bc BK114.out 4; have hfz10_0 := bf BK114.out 0; have hfz10_1 := bf BK114.out 1; have hfz10_2 := bf BK114.out 2; have hfz10_3 := bf BK114.out 3; have hfz10_4 := bf BK114.out 4
   go_wp2_with (first | (go_at_call 69; (with_reducible refine (impl_AffixOk.calls k a0_0 a0_1 a0_2 a0_3 a0_4 false _ A5.out).mono ?_); rintro e w11 ⟨rfl, hb⟩; replace BK114 := am (blk_below (g := gb114) (o := .cells #[.string a0_0, .bool a0_1, .string a0_2, .string a0_3, .string a0_4] 44 (0, 0)) (bq BK114.out) hb); replace HB := am (below_step (bel1 GE114.out) hb); (try clear hb); (try clear hb2); (try clear hk); (try clear hi)))
   repeat (go_quiet (first | (go_at_call 69; (with_reducible refine (impl_AffixOk.calls k a0_0 a0_1 a0_2 a0_3 a0_4 false _ A5.out).mono ?_); rintro e w11 ⟨rfl, hb⟩; replace BK114 := am (blk_below (g := gb114) (o := .cells #[.string a0_0, .bool a0_1, .string a0_2, .string a0_3, .string a0_4] 44 (0, 0)) (bq BK114.out) hb); replace HB := am (below_step (bel1 GE114.out) hb); (try clear hb); (try clear hb2); (try clear hk); (try clear hi))); try go_wp2_with (first | (go_at_call 69; (with_reducible refine (impl_AffixOk.calls k a0_0 a0_1 a0_2 a0_3 a0_4 false _ A5.out).mono ?_); rintro e w11 ⟨rfl, hb⟩; replace BK114 := am (blk_below (g := gb114) (o := .cells #[.string a0_0, .bool a0_1, .string a0_2, .string a0_3, .string a0_4] 44 (0, 0)) (bq BK114.out) hb); replace HB := am (below_step (bel1 GE114.out) hb); (try clear hb); (try clear hb2); (try clear hk); (try clear hi))))
   go_meet
   case rel => exact ⟨_, (true), sq, H', ⟨b60_⟩, ⟨bq BK114.out⟩, ⟨bel1 GE114.out⟩⟩
 case rest =>
  clear HC3; (try clear c2); (try clear p2); (try clear c6); (try clear hcz10_0); (try clear hcz10_1); (try clear hcz10_2); (try clear hcz10_3); (try clear hcz10_4); (try clear hcz8_0); (try clear hcz8_1); (try clear hcz8_2); (try clear hcz8_3); (try clear hcz8_4); (try clear hfz10_0); (try clear hfz10_1); (try clear hfz10_2); (try clear hfz10_3); (try clear hfz10_4); (try clear hfz8_0); (try clear hfz8_1); (try clear hfz8_2); (try clear hfz8_3); (try clear hfz8_4); obtain ⟨kq, x14_2, rfl, HA, HJ2, BK114, HB⟩ := hcut
  cases kq with
  | zero => exact absurd HA.out (by simp [impl_AffixDo.j0])
  | succ kj2 =>
   have H := HA.out; clear HA
   simp only [impl_AffixDo.j0] at H
   by_cases c12 : x14_2 = true
   ·subst c12
    have H1 : (some ((⟨#[]⟩ : ByteArray), false)) = some (r1, r2) := b36_
    replace H := H1; clear H1
    simp only [Option.some.injEq, Prod.mk.injEq] at H
    obtain ⟨rfl, rfl⟩ := H; go_wp2
    repeat (go_quiet (fail); try go_wp2)
    go_ret2
    exact ⟨eq_, bel1 GE114.out⟩
   ·replace c12 := Bool.eq_false_iff.mpr c12; subst c12
    have H1 : (if a0_1 = true then ((strings_HasPrefix.f a1 a0_4).bind fun t117 => (if t117 = true then (if 0 ≤ (a0_2.size : Int) then (if (a0_2.size : Int) ≤ (a1.size : Int) then (if a0_3.size + (a1.extract a0_2.size a1.size).size ≤ 9223372036854775807 then ((impl_WordOk.f kj2 (a0_3 ++ (a1.extract a0_2.size a1.size))).bind fun t118 => (if t118 = true then (some (a0_3 ++ (a1.extract a0_2.size a1.size), true)) else (some ((⟨#[]⟩ : ByteArray), false)))) else (none)) else (none)) else (none)) else (some ((⟨#[]⟩ : ByteArray), false)))) else ((strings_HasSuffix.f a1 a0_4).bind fun t119 => (if t119 = true then (if 0 ≤ (wrap64 ((a1.size : Int) - (a0_2.size : Int))) then (if (wrap64 ((a1.size : Int) - (a0_2.size : Int))) ≤ (a1.size : Int) then (if (a1.extract 0 ((wrap64 ((a1.size : Int) - (a0_2.size : Int))) : Int).toNat).size + a0_3.size ≤ 9223372036854775807 then ((impl_WordOk.f kj2 ((a1.extract 0 ((wrap64 ((a1.size : Int) - (a0_2.size : Int))) : Int).toNat) ++ a0_3)).bind fun t120 => (if t120 = true then (some ((a1.extract 0 ((wrap64 ((a1.size : Int) - (a0_2.size : Int))) : Int).toNat) ++ a0_3, true)) else (some ((⟨#[]⟩ : ByteArray), false)))) else (none)) else (none)) else (none)) else (some ((⟨#[]⟩ : ByteArray), false))))) = some (r1, r2) := b18_
    replace H := H1; clear H1
    by_cases c13 : a0_1 = true
    ·subst c13
     have H1 : ((strings_HasPrefix.f a1 a0_4).bind fun t117 => (if t117 = true then (if 0 ≤ (a0_2.size : Int) then (if (a0_2.size : Int) ≤ (a1.size : Int) then (if a0_3.size + (a1.extract a0_2.size a1.size).size ≤ 9223372036854775807 then ((impl_WordOk.f kj2 (a0_3 ++ (a1.extract a0_2.size a1.size))).bind fun t118 => (if t118 = true then (some (a0_3 ++ (a1.extract a0_2.size a1.size), true)) else (some ((⟨#[]⟩ : ByteArray), false)))) else (none)) else (none)) else (none)) else (some ((⟨#[]⟩ : ByteArray), false)))) = some (r1, r2) := b36_
     replace H := H1; clear H1
     replace H := Option.bind_eq_some_iff.mp H; obtain ⟨t117, A140, H⟩ := H; replace H : (if t117 = true then (if 0 ≤ (a0_2.size : Int) then (if (a0_2.size : Int) ≤ (a1.size : Int) then (if a0_3.size + (a1.extract a0_2.size a1.size).size ≤ 9223372036854775807 then ((impl_WordOk.f kj2 (a0_3 ++ (a1.extract a0_2.size a1.size))).bind fun t118 => (if t118 = true then (some (a0_3 ++ (a1.extract a0_2.size a1.size), true)) else (some ((⟨#[]⟩ : ByteArray), false)))) else (none)) else (none)) else (none)) else (some ((⟨#[]⟩ : ByteArray), false))) = some (r1, r2) := H; have A14 := Aside0.mk A140; clear A140
     by_cases c15 : t117 = true
     ·subst c15
      have H1 : (if 0 ≤ (a0_2.size : Int) then (if (a0_2.size : Int) ≤ (a1.size : Int) then (if a0_3.size + (a1.extract a0_2.size a1.size).size ≤ 9223372036854775807 then ((impl_WordOk.f kj2 (a0_3 ++ (a1.extract a0_2.size a1.size))).bind fun t118 => (if t118 = true then (some (a0_3 ++ (a1.extract a0_2.size a1.size), true)) else (some ((⟨#[]⟩ : ByteArray), false)))) else (none)) else (none)) else (none)) = some (r1, r2) := b36_
      replace H := H1; clear H1
      by_cases c16 : 0 ≤ (a0_2.size : Int)
      ·rw [if_pos c16] at H; have c16b0 := eq_true c16
       have c16b1 : decide (0 ≤ (a0_2.size : Int)) = true := decide_eq_true c16
       clear c16
       by_cases c17 : (a0_2.size : Int) ≤ (a1.size : Int)
       ·rw [if_pos c17] at H; have c17b0 := eq_true c17
        have c17b9 : (a0_2.size ≤ a1.size) = True := eq_true (by omega)
        have c17b6 : decide (a0_2.size ≤ a1.size) = true := decide_eq_true (by omega)
        have c17b1 : decide ((a0_2.size : Int) ≤ (a1.size : Int)) = true := decide_eq_true c17
        clear c17
        by_cases c18 : a0_3.size + (a1.extract a0_2.size a1.size).size ≤ 9223372036854775807
        ·rw [if_pos c18] at H; have c18b0 := eq_true c18; have c18b5 := c18
         try simp at c18b5
         try have c18b4 := eq_false (Nat.not_lt.2 c18b5)
         try have c18b3 : (9223372036854775807 < a0_3.size + (a1.size - a0_2.size)) = False := by
               have h_ := c18
               simp only [ByteArray.size_append, ByteArray.size_extract] at h_
               exact eq_false (by omega)
         have c18b1 : decide (a0_3.size + (a1.extract a0_2.size a1.size).size ≤ 9223372036854775807) = true := decide_eq_true c18
         try have c18b2 : (9223372036854775807 < a0_3.size + (a1.extract a0_2.size a1.size).size) = False := eq_false (Nat.not_lt.2 c18)
         replace H := Option.bind_eq_some_iff.mp H; obtain ⟨t118, A190, H⟩ := H; replace H : (if t118 = true then (some (a0_3 ++ (a1.extract a0_2.size a1.size), true)) else (some ((⟨#[]⟩ : ByteArray), false))) = some (r1, r2) := H; have A19 := Aside0.mk A190; clear A190
         by_cases c20 : t118 = true
         ·subst c20
          have H1 : (some (a0_3 ++ (a1.extract a0_2.size a1.size), true)) = some (r1, r2) := b36_
          replace H := H1; clear H1
          simp only [Option.some.injEq, Prod.mk.injEq] at H
          obtain ⟨rfl, rfl⟩ := H; have hcz21_0 := bc BK114.out 0; have hcz21_1 := bc BK114.out 1; have hcz21_2 := bc BK114.out 2; have hcz21_3 := bc BK114.out 3; have hcz21_4 := bc BK114.out 4; have hfz21_0 := bf BK114.out 0; have hfz21_1 := bf BK114.out 1; have hfz21_2 := bf BK114.out 2; have hfz21_3 := bf BK114.out 3; have hfz21_4 := bf BK114.out 4
          go_wp2_with (first | (go_at_call 70; (with_reducible refine (strings_HasPrefix.calls a1 a0_4 true _ A14.out).mono ?_); rintro e w' ⟨rfl, ⟨nd, rfl⟩⟩; (try first | exact ⟨rfl, _, World.drewN_drewN _ _ _⟩ | exact ⟨rfl, _, Eq.trans (World.drewN_drewN _ _ _) (congrArg (World.drewN _) (Nat.add_assoc _ _ _))⟩)) | (go_at_call 30; (with_reducible refine (impl_WordOk.calls kj2 (a0_3 ++ (a1.extract a0_2.size a1.size)) true _ A19.out).mono ?_); rintro e w' ⟨rfl, ⟨nd, rfl⟩⟩; (try first | exact ⟨rfl, _, World.drewN_drewN _ _ _⟩ | exact ⟨rfl, _, Eq.trans (World.drewN_drewN _ _ _) (congrArg (World.drewN _) (Nat.add_assoc _ _ _))⟩)))
          repeat (go_quiet (first | (go_at_call 70; (with_reducible refine (strings_HasPrefix.calls a1 a0_4 true _ A14.out).mono ?_); rintro e w' ⟨rfl, ⟨nd, rfl⟩⟩; (try first | exact ⟨rfl, _, World.drewN_drewN _ _ _⟩ | exact ⟨rfl, _, Eq.trans (World.drewN_drewN _ _ _) (congrArg (World.drewN _) (Nat.add_assoc _ _ _))⟩)) | (go_at_call 30; (with_reducible refine (impl_WordOk.calls kj2 (a0_3 ++ (a1.extract a0_2.size a1.size)) true _ A19.out).mono ?_); rintro e w' ⟨rfl, ⟨nd, rfl⟩⟩; (try first | exact ⟨rfl, _, World.drewN_drewN _ _ _⟩ | exact ⟨rfl, _, Eq.trans (World.drewN_drewN _ _ _) (congrArg (World.drewN _) (Nat.add_assoc _ _ _))⟩))); try go_wp2_with (first | (go_at_call 70; (with_reducible refine (strings_HasPrefix.calls a1 a0_4 true _ A14.out).mono ?_); rintro e w' ⟨rfl, ⟨nd, rfl⟩⟩; (try first | exact ⟨rfl, _, World.drewN_drewN _ _ _⟩ | exact ⟨rfl, _, Eq.trans (World.drewN_drewN _ _ _) (congrArg (World.drewN _) (Nat.add_assoc _ _ _))⟩)) | (go_at_call 30; (with_reducible refine (impl_WordOk.calls kj2 (a0_3 ++ (a1.extract a0_2.size a1.size)) true _ A19.out).mono ?_); rintro e w' ⟨rfl, ⟨nd, rfl⟩⟩; (try first | exact ⟨rfl, _, World.drewN_drewN _ _ _⟩ | exact ⟨rfl, _, Eq.trans (World.drewN_drewN _ _ _) (congrArg (World.drewN _) (Nat.add_assoc _ _ _))⟩))))
          go_ret2
          exact ⟨eq_, bel1 GE114.out⟩
         ·replace c20 := Bool.eq_false_iff.mpr c20; subst c20
          have H1 : (some ((⟨#[]⟩ : ByteArray), false)) = some (r1, r2) := b18_
          replace H := H1; clear H1
          simp only [Option.some.injEq, Prod.mk.injEq] at H
          obtain ⟨rfl, rfl⟩ := H; have hcz22_0 := bc BK114.out 0; have hcz22_1 := bc BK114.out 1; have hcz22_2 := bc BK114.out 2; have hcz22_3 := bc BK114.out 3; have hcz22_4 := bc BK114.out 4; have hfz22_0 := bf BK114.out 0; have hfz22_1 := bf BK114.out 1; have hfz22_2 := bf BK114.out 2; have hfz22_3 := bf BK114.out 3; have hfz22_4 := bf BK114.out 4
          go_wp2_with (first | (go_at_call 70; (with_reducible refine (strings_HasPrefix.calls a1 a0_4 true _ A14.out).mono ?_); rintro e w' ⟨rfl, ⟨nd, rfl⟩⟩; (try first | exact ⟨rfl, _, World.drewN_drewN _ _ _⟩ | exact ⟨rfl, _, Eq.trans (World.drewN_drewN _ _ _) (congrArg (World.drewN _) (Nat.add_assoc _ _ _))⟩)) | (go_at_call 30; (with_reducible refine (impl_WordOk.calls kj2 (a0_3 ++ (a1.extract a0_2.size a1.size)) false _ A19.out).mono ?_); rintro e w' ⟨rfl, ⟨nd, rfl⟩⟩; (try first | exact ⟨rfl, _, World.drewN_drewN _ _ _⟩ | exact ⟨rfl, _, Eq.trans (World.drewN_drewN _ _ _) (congrArg (World.drewN _) (Nat.add_assoc _ _ _))⟩)))
          repeat (go_quiet (first | (go_at_call 70; (with_reducible refine (strings_HasPrefix.calls a1 a0_4 true _ A14.out).mono ?_); rintro e w' ⟨rfl, ⟨nd, rfl⟩⟩; (try first | exact ⟨rfl, _, World.drewN_drewN _ _ _⟩ | exact ⟨rfl, _, Eq.trans (World.drewN_drewN _ _ _) (congrArg (World.drewN _) (Nat.add_assoc _ _ _))⟩)) | (go_at_call 30; (with_reducible refine (impl_WordOk.calls kj2 (a0_3 ++ (a1.extract a0_2.size a1.size)) false _ A19.out).mono ?_); rintro e w' ⟨rfl, ⟨nd, rfl⟩⟩; (try first | exact ⟨rfl, _, World.drewN_drewN _ _ _⟩ | exact ⟨rfl, _, Eq.trans (World.drewN_drewN _ _ _) (congrArg (World.drewN _) (Nat.add_assoc _ _ _))⟩))); try go_wp2_with (first | (go_at_call 70; (with_reducible refine (strings_HasPrefix.calls a1 a0_4 true _ A14.out).mono ?_); rintro e w' ⟨rfl, ⟨nd, rfl⟩⟩; (try first | exact ⟨rfl, _, World.drewN_drewN _ _ _⟩ | exact ⟨rfl, _, Eq.trans (World.drewN_drewN _ _ _) (congrArg (World.drewN _) (Nat.add_assoc _ _ _))⟩)) | (go_at_call 30; (with_reducible refine (impl_WordOk.calls kj2 (a0_3 ++ (a1.extract a0_2.size a1.size)) false _ A19.out).mono ?_); rintro e w' ⟨rfl, ⟨nd, rfl⟩⟩; (try first | exact ⟨rfl, _, World.drewN_drewN _ _ _⟩ | exact ⟨rfl, _, Eq.trans (World.drewN_drewN _ _ _) (congrArg (World.drewN _) (Nat.add_assoc _ _ _))⟩))))
          go_ret2
          exact ⟨eq_, bel1 GE114.out⟩
        ·rw [if_neg c18] at H
         exact absurd H (by simp)
       ·rw [if_neg c17] at H
        exact absurd H (by simp)
      ·rw [if_neg c16] at H
       exact absurd H (by simp)
     ·replace c15 := Bool.eq_false_iff.mpr c15; subst c15
      have H1 : (some ((⟨#[]⟩ : ByteArray), false)) = some (r1, r2) := b18_
      replace H := H1; clear H1
      simp only [Option.some.injEq, Prod.mk.injEq] at H
      obtain ⟨rfl, rfl⟩ := H; have hcz23_0 := bc BK114.out 0; have hcz23_1 := bc BK114.out 1; have hcz23_2 := bc BK114.out 2; have hcz23_3 := bc BK114.out 3; have hcz23_4 := bc BK114.out 4; have hfz23_0 := bf BK114.out 0; have hfz23_1 := bf BK114.out 1; have hfz23_2 := bf BK114.out 2; have hfz23_3 := bf BK114.out 3; have hfz23_4 := bf BK114.out 4
      go_wp2_with (first | (go_at_call 70; (with_reducible refine (strings_HasPrefix.calls a1 a0_4 false _ A14.out).mono ?_); rintro e w' ⟨rfl, ⟨nd, rfl⟩⟩; (try first | exact ⟨rfl, _, World.drewN_drewN _ _ _⟩ | exact ⟨rfl, _, Eq.trans (World.drewN_drewN _ _ _) (congrArg (World.drewN _) (Nat.add_assoc _ _ _))⟩)))
      repeat (go_quiet (first | (go_at_call 70; (with_reducible refine (strings_HasPrefix.calls a1 a0_4 false _ A14.out).mono ?_); rintro e w' ⟨rfl, ⟨nd, rfl⟩⟩; (try first | exact ⟨rfl, _, World.drewN_drewN _ _ _⟩ | exact ⟨rfl, _, Eq.trans (World.drewN_drewN _ _ _) (congrArg (World.drewN _) (Nat.add_assoc _ _ _))⟩))); try go_wp2_with (first | (go_at_call 70; (with_reducible refine (strings_HasPrefix.calls a1 a0_4 false _ A14.out).mono ?_); rintro e w' ⟨rfl, ⟨nd, rfl⟩⟩; (try first | exact ⟨rfl, _, World.drewN_drewN _ _ _⟩ | exact ⟨rfl, _, Eq.trans (World.drewN_drewN _ _ _) (congrArg (World.drewN _) (Nat.add_assoc _ _ _))⟩))))
      go_ret2
      exact ⟨eq_, bel1 GE114.out⟩
    ·replace c13 := Bool.eq_false_iff.mpr c13; subst c13
     have H1 : ((strings_HasSuffix.f a1 a0_4).bind fun t119 => (if t119 = true then (if 0 ≤ (wrap64 ((a1.size : Int) - (a0_2.size : Int))) then (if (wrap64 ((a1.size : Int) - (a0_2.size : Int))) ≤ (a1.size : Int) then (if (a1.extract 0 ((wrap64 ((a1.size : Int) - (a0_2.size : Int))) : Int).toNat).size + a0_3.size ≤ 9223372036854775807 then ((impl_WordOk.f kj2 ((a1.extract 0 ((wrap64 ((a1.size : Int) - (a0_2.size : Int))) : Int).toNat) ++ a0_3)).bind fun t120 => (if t120 = true then (some ((a1.extract 0 ((wrap64 ((a1.size : Int) - (a0_2.size : Int))) : Int).toNat) ++ a0_3, true)) else (some ((⟨#[]⟩ : ByteArray), false)))) else (none)) else (none)) else (none)) else (some ((⟨#[]⟩ : ByteArray), false)))) = some (r1, r2) := b18_
     replace H := H1; clear H1
     replace H := Option.bind_eq_some_iff.mp H; obtain ⟨t119, A240, H⟩ := H; replace H : (if t119 = true then (if 0 ≤ (wrap64 ((a1.size : Int) - (a0_2.size : Int))) then (if (wrap64 ((a1.size : Int) - (a0_2.size : Int))) ≤ (a1.size : Int) then (if (a1.extract 0 ((wrap64 ((a1.size : Int) - (a0_2.size : Int))) : Int).toNat).size + a0_3.size ≤ 9223372036854775807 then ((impl_WordOk.f kj2 ((a1.extract 0 ((wrap64 ((a1.size : Int) - (a0_2.size : Int))) : Int).toNat) ++ a0_3)).bind fun t120 => (if t120 = true then (some ((a1.extract 0 ((wrap64 ((a1.size : Int) - (a0_2.size : Int))) : Int).toNat) ++ a0_3, true)) else (some ((⟨#[]⟩ : ByteArray), false)))) else (none)) else (none)) else (none)) else (some ((⟨#[]⟩ : ByteArray), false))) = some (r1, r2) := H; have A24 := Aside0.mk A240; clear A240
     by_cases c25 : t119 = true
     ·subst c25
      have H1 : (if 0 ≤ (wrap64 ((a1.size : Int) - (a0_2.size : Int))) then (if (wrap64 ((a1.size : Int) - (a0_2.size : Int))) ≤ (a1.size : Int) then (if (a1.extract 0 ((wrap64 ((a1.size : Int) - (a0_2.size : Int))) : Int).toNat).size + a0_3.size ≤ 9223372036854775807 then ((impl_WordOk.f kj2 ((a1.extract 0 ((wrap64 ((a1.size : Int) - (a0_2.size : Int))) : Int).toNat) ++ a0_3)).bind fun t120 => (if t120 = true then (some ((a1.extract 0 ((wrap64 ((a1.size : Int) - (a0_2.size : Int))) : Int).toNat) ++ a0_3, true)) else (some ((⟨#[]⟩ : ByteArray), false)))) else (none)) else (none)) else (none)) = some (r1, r2) := b36_
      replace H := H1; clear H1
      obtain ⟨ji26, hji26⟩ : ∃ j_ : Int, (wrap64 ((a1.size : Int) - (a0_2.size : Int))) = j_ := ⟨_, rfl⟩
      replace H : (if 0 ≤ (ji26) then (if (ji26) ≤ (a1.size : Int) then (if (a1.extract 0 ((ji26) : Int).toNat).size + a0_3.size ≤ 9223372036854775807 then ((impl_WordOk.f kj2 ((a1.extract 0 ((ji26) : Int).toNat) ++ a0_3)).bind fun t120 => (if t120 = true then (some ((a1.extract 0 ((ji26) : Int).toNat) ++ a0_3, true)) else (some ((⟨#[]⟩ : ByteArray), false)))) else (none)) else (none)) else (none)) = some (r1, r2) := by first | (rw [hji26] at H; exact H) | (simp only [hji26] at H ⊢; exact H)
      (try rw [hji26] at A24)
      have hji26w : (IntKind.i64.wrap ((a1.size : Int) - (a0_2.size : Int))) = ji26 := (i64_w _).trans hji26
      by_cases c27 : 0 ≤ (ji26)
      ·rw [if_pos c27] at H; have c27b0 := eq_true c27
       have c27b1 : decide (0 ≤ (ji26)) = true := decide_eq_true c27
       clear c27
       by_cases c28 : (ji26) ≤ (a1.size : Int)
       ·rw [if_pos c28] at H; have c28b0 := eq_true c28
        have c28b1 : decide ((ji26) ≤ (a1.size : Int)) = true := decide_eq_true c28
        clear c28
        by_cases c29 : (a1.extract 0 ((ji26) : Int).toNat).size + a0_3.size ≤ 9223372036854775807
        ·rw [if_pos c29] at H; have c29b0 := eq_true c29; have c29b5 := c29
         try simp at c29b5
         try have c29b4 := eq_false (Nat.not_lt.2 c29b5)
         try have c29b3 : (9223372036854775807 < ((ji26) : Int).toNat + a0_3.size) = False := by
               have h_ := c29
               simp only [ByteArray.size_append, ByteArray.size_extract] at h_
               have g0_ : ((ji26)) ≤ (a1.size : Int) := of_decide_eq_true ad
               exact eq_false (by omega)
         have c29b1 : decide ((a1.extract 0 ((ji26) : Int).toNat).size + a0_3.size ≤ 9223372036854775807) = true := decide_eq_true c29
         try have c29b2 : (9223372036854775807 < (a1.extract 0 ((ji26) : Int).toNat).size + a0_3.size) = False := eq_false (Nat.not_lt.2 c29)
         replace H := Option.bind_eq_some_iff.mp H; obtain ⟨t120, A300, H⟩ := H; replace H : (if t120 = true then (some ((a1.extract 0 ((ji26) : Int).toNat) ++ a0_3, true)) else (some ((⟨#[]⟩ : ByteArray), false))) = some (r1, r2) := H; have A30 := Aside0.mk A300; clear A300
         by_cases c31 : t120 = true
         ·subst c31
          have H1 : (some ((a1.extract 0 ((ji26) : Int).toNat) ++ a0_3, true)) = some (r1, r2) := b36_
          replace H := H1; clear H1
          simp only [Option.some.injEq, Prod.mk.injEq] at H
          obtain ⟨rfl, rfl⟩ := H; have hcz32_0 := bc BK114.out 0; have hcz32_1 := bc BK114.out 1; have hcz32_2 := bc BK114.out 2; have hcz32_3 := bc BK114.out 3; have hcz32_4 := bc BK114.out 4; have hfz32_0 := bf BK114.out 0; have hfz32_1 := bf BK114.out 1; have hfz32_2 := bf BK114.out 2; have hfz32_3 := bf BK114.out 3; have hfz32_4 := bf BK114.out 4
          go_wp2_with (first | (go_at_call 71; (with_reducible refine (strings_HasSuffix.calls a1 a0_4 true _ A24.out).mono ?_); rintro e w' ⟨rfl, ⟨nd, rfl⟩⟩; (try first | exact ⟨rfl, _, World.drewN_drewN _ _ _⟩ | exact ⟨rfl, _, Eq.trans (World.drewN_drewN _ _ _) (congrArg (World.drewN _) (Nat.add_assoc _ _ _))⟩)) | (go_at_call 30; (with_reducible refine (impl_WordOk.calls kj2 ((a1.extract 0 ((ji26) : Int).toNat) ++ a0_3) true _ A30.out).mono ?_); rintro e w' ⟨rfl, ⟨nd, rfl⟩⟩; (try first | exact ⟨rfl, _, World.drewN_drewN _ _ _⟩ | exact ⟨rfl, _, Eq.trans (World.drewN_drewN _ _ _) (congrArg (World.drewN _) (Nat.add_assoc _ _ _))⟩)))
          repeat (go_quiet (first | (go_at_call 71; (with_reducible refine (strings_HasSuffix.calls a1 a0_4 true _ A24.out).mono ?_); rintro e w' ⟨rfl, ⟨nd, rfl⟩⟩; (try first | exact ⟨rfl, _, World.drewN_drewN _ _ _⟩ | exact ⟨rfl, _, Eq.trans (World.drewN_drewN _ _ _) (congrArg (World.drewN _) (Nat.add_assoc _ _ _))⟩)) | (go_at_call 30; (with_reducible refine (impl_WordOk.calls kj2 ((a1.extract 0 ((ji26) : Int).toNat) ++ a0_3) true _ A30.out).mono ?_); rintro e w' ⟨rfl, ⟨nd, rfl⟩⟩; (try first | exact ⟨rfl, _, World.drewN_drewN _ _ _⟩ | exact ⟨rfl, _, Eq.trans (World.drewN_drewN _ _ _) (congrArg (World.drewN _) (Nat.add_assoc _ _ _))⟩))); try go_wp2_with (first | (go_at_call 71; (with_reducible refine (strings_HasSuffix.calls a1 a0_4 true _ A24.out).mono ?_); rintro e w' ⟨rfl, ⟨nd, rfl⟩⟩; (try first | exact ⟨rfl, _, World.drewN_drewN _ _ _⟩ | exact ⟨rfl, _, Eq.trans (World.drewN_drewN _ _ _) (congrArg (World.drewN _) (Nat.add_assoc _ _ _))⟩)) | (go_at_call 30; (with_reducible refine (impl_WordOk.calls kj2 ((a1.extract 0 ((ji26) : Int).toNat) ++ a0_3) true _ A30.out).mono ?_); rintro e w' ⟨rfl, ⟨nd, rfl⟩⟩; (try first | exact ⟨rfl, _, World.drewN_drewN _ _ _⟩ | exact ⟨rfl, _, Eq.trans (World.drewN_drewN _ _ _) (congrArg (World.drewN _) (Nat.add_assoc _ _ _))⟩))))
          go_ret2
          exact ⟨b74_, bel1 GE114.out⟩
         ·replace c31 := Bool.eq_false_iff.mpr c31; subst c31
          have H1 : (some ((⟨#[]⟩ : ByteArray), false)) = some (r1, r2) := b18_
          replace H := H1; clear H1
          simp only [Option.some.injEq, Prod.mk.injEq] at H
          obtain ⟨rfl, rfl⟩ := H; have hcz33_0 := bc BK114.out 0; have hcz33_1 := bc BK114.out 1; have hcz33_2 := bc BK114.out 2; have hcz33_3 := bc BK114.out 3; have hcz33_4 := bc BK114.out 4; have hfz33_0 := bf BK114.out 0; have hfz33_1 := bf BK114.out 1; have hfz33_2 := bf BK114.out 2; have hfz33_3 := bf BK114.out 3; have hfz33_4 := bf BK114.out 4
          go_wp2_with (first | (go_at_call 71; (with_reducible refine (strings_HasSuffix.calls a1 a0_4 true _ A24.out).mono ?_); rintro e w' ⟨rfl, ⟨nd, rfl⟩⟩; (try first | exact ⟨rfl, _, World.drewN_drewN _ _ _⟩ | exact ⟨rfl, _, Eq.trans (World.drewN_drewN _ _ _) (congrArg (World.drewN _) (Nat.add_assoc _ _ _))⟩)) | (go_at_call 30; (with_reducible refine (impl_WordOk.calls kj2 ((a1.extract 0 ((ji26) : Int).toNat) ++ a0_3) false _ A30.out).mono ?_); rintro e w' ⟨rfl, ⟨nd, rfl⟩⟩; (try first | exact ⟨rfl, _, World.drewN_drewN _ _ _⟩ | exact ⟨rfl, _, Eq.trans (World.drewN_drewN _ _ _) (congrArg (World.drewN _) (Nat.add_assoc _ _ _))⟩)))
          repeat (go_quiet (first | (go_at_call 71; (with_reducible refine (strings_HasSuffix.calls a1 a0_4 true _ A24.out).mono ?_); rintro e w' ⟨rfl, ⟨nd, rfl⟩⟩; (try first | exact ⟨rfl, _, World.drewN_drewN _ _ _⟩ | exact ⟨rfl, _, Eq.trans (World.drewN_drewN _ _ _) (congrArg (World.drewN _) (Nat.add_assoc _ _ _))⟩)) | (go_at_call 30; (with_reducible refine (impl_WordOk.calls kj2 ((a1.extract 0 ((ji26) : Int).toNat) ++ a0_3) false _ A30.out).mono ?_); rintro e w' ⟨rfl, ⟨nd, rfl⟩⟩; (try first | exact ⟨rfl, _, World.drewN_drewN _ _ _⟩ | exact ⟨rfl, _, Eq.trans (World.drewN_drewN _ _ _) (congrArg (World.drewN _) (Nat.add_assoc _ _ _))⟩))); try go_wp2_with (first | (go_at_call 71; (with_reducible refine (strings_HasSuffix.calls a1 a0_4 true _ A24.out).mono ?_); rintro e w' ⟨rfl, ⟨nd, rfl⟩⟩; (try first | exact ⟨rfl, _, World.drewN_drewN _ _ _⟩ | exact ⟨rfl, _, Eq.trans (World.drewN_drewN _ _ _) (congrArg (World.drewN _) (Nat.add_assoc _ _ _))⟩)) | (go_at_call 30; (with_reducible refine (impl_WordOk.calls kj2 ((a1.extract 0 ((ji26) : Int).toNat) ++ a0_3) false _ A30.out).mono ?_); rintro e w' ⟨rfl, ⟨nd, rfl⟩⟩; (try first | exact ⟨rfl, _, World.drewN_drewN _ _ _⟩ | exact ⟨rfl, _, Eq.trans (World.drewN_drewN _ _ _) (congrArg (World.drewN _) (Nat.add_assoc _ _ _))⟩))))
          go_ret2
          exact ⟨b74_, bel1 GE114.out⟩
        ·rw [if_neg c29] at H
         exact absurd H (by simp)
       ·rw [if_neg c28] at H
        exact absurd H (by simp)
      ·rw [if_neg c27] at H
       exact absurd H (by simp)
     ·replace c25 := Bool.eq_false_iff.mpr c25; subst c25
      have H1 : (some ((⟨#[]⟩ : ByteArray), false)) = some (r1, r2) := b18_
      replace H := H1; clear H1
      simp only [Option.some.injEq, Prod.mk.injEq] at H
      obtain ⟨rfl, rfl⟩ := H; have hcz34_0 := bc BK114.out 0; have hcz34_1 := bc BK114.out 1; have hcz34_2 := bc BK114.out 2; have hcz34_3 := bc BK114.out 3; have hcz34_4 := bc BK114.out 4; have hfz34_0 := bf BK114.out 0; have hfz34_1 := bf BK114.out 1; have hfz34_2 := bf BK114.out 2; have hfz34_3 := bf BK114.out 3; have hfz34_4 := bf BK114.out 4
      go_wp2_with (first | (go_at_call 71; (with_reducible refine (strings_HasSuffix.calls a1 a0_4 false _ A24.out).mono ?_); rintro e w' ⟨rfl, ⟨nd, rfl⟩⟩; (try first | exact ⟨rfl, _, World.drewN_drewN _ _ _⟩ | exact ⟨rfl, _, Eq.trans (World.drewN_drewN _ _ _) (congrArg (World.drewN _) (Nat.add_assoc _ _ _))⟩)))
      repeat (go_quiet (first | (go_at_call 71; (with_reducible refine (strings_HasSuffix.calls a1 a0_4 false _ A24.out).mono ?_); rintro e w' ⟨rfl, ⟨nd, rfl⟩⟩; (try first | exact ⟨rfl, _, World.drewN_drewN _ _ _⟩ | exact ⟨rfl, _, Eq.trans (World.drewN_drewN _ _ _) (congrArg (World.drewN _) (Nat.add_assoc _ _ _))⟩))); try go_wp2_with (first | (go_at_call 71; (with_reducible refine (strings_HasSuffix.calls a1 a0_4 false _ A24.out).mono ?_); rintro e w' ⟨rfl, ⟨nd, rfl⟩⟩; (try first | exact ⟨rfl, _, World.drewN_drewN _ _ _⟩ | exact ⟨rfl, _, Eq.trans (World.drewN_drewN _ _ _) (congrArg (World.drewN _) (Nat.add_assoc _ _ _))⟩))))
      go_ret2
      exact ⟨eq_, bel1 GE114.out⟩

/-! ### impl_Affix_112: function 112 -/
def impl_Affix_112.l0 : Nat → List (S44) → Int → Int → ByteArray → Bool → ByteArray → ByteArray → ByteArray → Option (Int)
 | 0, _, _, _, _, _, _, _, _ => none
 | k + 1, x0, x7, x8, x122000, x122001, x122002, x122003, x122004 => if x8 < x7 then (if 0 ≤ x8 then (if x8 < (x0.length : Int) then (if (x122000.toList == (((rd_T44 x0 x8).f0).toList) && (x122001 == ((rd_T44 x0 x8).f1) && (x122002.toList == (((rd_T44 x0 x8).f2).toList) && (x122003.toList == (((rd_T44 x0 x8).f3).toList) && (x122004.toList == (((rd_T44 x0 x8).f4).toList)))))) = true then (some x8) else (impl_Affix_112.l0 k x0 x7 (wrap64 (x8 + 1)) x122000 x122001 x122002 x122003 x122004)) else (none)) else (none)) else (some (-1))
def impl_Affix_112.f (k : Nat) (l0 : List (S44)) (a1_0 : ByteArray) (a1_1 : Bool) (a1_2 : ByteArray) (a1_3 : ByteArray) (a1_4 : ByteArray) : Option (Int) := impl_Affix_112.l0 k l0 (l0.length : Int) 0 a1_0 a1_1 a1_2 a1_3 a1_4
theorem impl_Affix_112.mono_l : ∀ k, (∀ y0 y1 y2 y3 y4 y5 y6 y7, LeO (impl_Affix_112.l0 k y0 y1 y2 y3 y4 y5 y6 y7) (impl_Affix_112.l0 (k + 1) y0 y1 y2 y3 y4 y5 y6 y7))
 | 0 => fun _ _ _ _ _ _ _ _ r h => by simp [impl_Affix_112.l0] at h
 | k + 1 => by
  have ih0 := impl_Affix_112.mono_l k
  ·intro y0 y1 y2 y3 y4 y5 y6 y7
   unfold impl_Affix_112.l0
   repeat' first | (with_reducible first | exact ih0 _ _ _ _ _ _ _ _ | exact LeO.refl _ | exact LeO.none _ | refine LeO.ite ?_ ?_ | refine LeO.bind ?_ (fun _ => ?_)) | exact ih0 _ _ _ _ _ _ _ _ | exact LeO.none _ | refine LeO.ite ?_ ?_ | refine LeO.bind ?_ (fun _ => ?_)
theorem impl_Affix_112.mono : ∀ a0 a1 a2 a3 a4 a5 k, LeO (impl_Affix_112.f k a0 a1 a2 a3 a4 a5) (impl_Affix_112.f (k + 1) a0 a1 a2 a3 a4 a5) := by
 intro a0 a1 a2 a3 a4 a5 k; have ih0 := impl_Affix_112.mono_l k
 unfold impl_Affix_112.f
 repeat' first | (with_reducible first | exact ih0 _ _ _ _ _ _ _ _ | exact LeO.refl _ | exact LeO.none _ | refine LeO.ite ?_ ?_ | refine LeO.bind ?_ (fun _ => ?_)) | exact ih0 _ _ _ _ _ _ _ _ | exact LeO.none _ | refine LeO.ite ?_ ?_ | refine LeO.bind ?_ (fun _ => ?_)
set_option maxHeartbeats 8000000 in
set_option maxRecDepth 100000 in
theorem impl_Affix_112.calls (k : Nat) (A0 : Option Addr) (c0 : Nat) (l0 : List (S44)) (a1_0 : ByteArray) (a1_1 : Bool) (a1_2 : ByteArray) (a1_3 : ByteArray) (a1_4 : ByteArray) (r : Int) (w : World) (hr0 : Kd.C k44 w A0 l0.length l0) (hc0 : l0.length ≤ c0) (h : impl_Affix_112.f k l0 a1_0 a1_1 a1_2 a1_3 a1_4 = some r) :
  Calls Try.prog 112 #[.slice A0 l0.length c0, .agg #[.string a1_0, .bool a1_1, .string a1_2, .string a1_3, .string a1_4]] w fun e w' => e = .returned (.int .i64 r) ∧ Below w.heap.size w w' := by
 have hu44 := Try.underlying44; have HR0 := am hr0; have HC0 := am hc0; clear hr0 hc0; have HB := am (Below.refl w.heap.size w)
 have H : (impl_Affix_112.l0 k l0 (l0.length : Int) 0 a1_0 a1_1 a1_2 a1_3 a1_4) = some r := h
 clear h
 have H' := am H
 clear H; go_enter Try.func112, Try.ntmps112
 go_wp2_with (first | ((with_reducible refine gate_dst (N := 3) rfl ?_); refine bx 3 (cs := #[.string a1_0, .bool a1_1, .string a1_2, .string a1_3, .string a1_4]) (t := 44) ?_; intro gb121 hg w3 hbox hb; have BK121 := am (hbox); have GW121 := am ((b20_ : w.heap.size ≤ gb121)); have GE121 := am ((b20_ : w.heap.size ≤ gb121)); replace HB := am (below_step bel hb); clear hb hbox hg))
 repeat (go_quiet (first | ((with_reducible refine gate_dst (N := 3) rfl ?_); refine bx 3 (cs := #[.string a1_0, .bool a1_1, .string a1_2, .string a1_3, .string a1_4]) (t := 44) ?_; intro gb121 hg w3 hbox hb; have BK121 := am (hbox); have GW121 := am ((b20_ : w.heap.size ≤ gb121)); have GE121 := am ((b20_ : w.heap.size ≤ gb121)); replace HB := am (below_step bel hb); clear hb hbox hg)); try go_wp2_with (first | ((with_reducible refine gate_dst (N := 3) rfl ?_); refine bx 3 (cs := #[.string a1_0, .bool a1_1, .string a1_2, .string a1_3, .string a1_4]) (t := 44) ?_; intro gb121 hg w3 hbox hb; have BK121 := am (hbox); have GW121 := am ((b20_ : w.heap.size ≤ gb121)); have GE121 := am ((b20_ : w.heap.size ≤ gb121)); replace HB := am (below_step bel hb); clear hb hbox hg)))
 go_loopg [8] k (fun kq v8 w' => ∃ (x8_1 : Int), v8 = .int .i64 x8_1 ∧ Aside0 (impl_Affix_112.l0 kq l0 (l0.length : Int) x8_1 a1_0 a1_1 a1_2 a1_3 a1_4 = some r) ∧ Aside0 (kq ≤ k) ∧ Aside0 (w'.heap[gb121]? = some (.cells #[.string a1_0, .bool a1_1, .string a1_2, .string a1_3, .string a1_4] 44 (0, 0))) ∧ Aside0 (Below w.heap.size w w'))
 case atStart => exact ⟨(0), sq, H', ⟨Nat.le_refl _⟩, ⟨bq BK121.out⟩, ⟨bel1 GE121.out⟩⟩
 case round =>
  clear H'; (try clear c1); (try clear p2); obtain ⟨x8_1, rfl, HA, HK1, BK121, HB⟩ := hrel
  cases gk with
  | zero => exact absurd HA.out (by simp [impl_Affix_112.l0])
  | succ k1 =>
   have H := HA.out; clear HA
   simp only [impl_Affix_112.l0] at H
   by_cases c4 : x8_1 < (l0.length : Int)
   ·rw [if_pos c4] at H; have c4b0 := decide_eq_true c4; clear c4
    by_cases c5 : 0 ≤ x8_1
    ·rw [if_pos c5] at H; have c5b0 := decide_eq_true c5; clear c5
     by_cases c6 : x8_1 < (l0.length : Int)
     ·rw [if_pos c6] at H; have c6b0 := decide_eq_true c6; clear c6
      by_cases c7 : (a1_0.toList == (((rd_T44 l0 x8_1).f0).toList) && (a1_1 == ((rd_T44 l0 x8_1).f1) && (a1_2.toList == (((rd_T44 l0 x8_1).f2).toList) && (a1_3.toList == (((rd_T44 l0 x8_1).f3).toList) && (a1_4.toList == (((rd_T44 l0 x8_1).f4).toList)))))) = true
      ·rw [if_pos c7] at H
       have c7b0 : (a1_0.toList == (((rd_T44 l0 x8_1).f0).toList) && (a1_1 == ((rd_T44 l0 x8_1).f1) && (a1_2.toList == (((rd_T44 l0 x8_1).f2).toList) && (a1_3.toList == (((rd_T44 l0 x8_1).f3).toList) && (a1_4.toList == (((rd_T44 l0 x8_1).f4).toList)))))) = true := c7
       (try (have c7b1 : decide (a1_0.toList = (((rd_T44 l0 x8_1).f0).toList) && (a1_1 == ((rd_T44 l0 x8_1).f1) && (a1_2.toList == (((rd_T44 l0 x8_1).f2).toList) && (a1_3.toList == (((rd_T44 l0 x8_1).f3).toList) && (a1_4.toList == (((rd_T44 l0 x8_1).f4).toList)))))) = true := by simpa using c7))
       (try (have c7b2 : (a1_0.toList == (((rd_T44 l0 x8_1).f0).toList) && (a1_1 == ((rd_T44 l0 x8_1).f1) && (a1_2.toList == (((rd_T44 l0 x8_1).f2).toList) && (a1_3.toList == (((rd_T44 l0 x8_1).f3).toList) && (a1_4.toList == (((rd_T44 l0 x8_1).f4).toList)))))) = true := by simpa using c7))
       clear c7; obtain rfl := Option.some.inj H; have hcz8_0 := bc BK121.out 0; have hcz8_1 := bc BK121.out 1; have hcz8_2 := bc BK121.out 2; have hcz8_3 := bc BK121.out 3; have hcz8_4 := bc BK121.out 4; have hfz8_0 := bf BK121.out 0; have hfz8_1 := bf BK121.out 1; have hfz8_2 := bf BK121.out 2; have hfz8_3 := bf BK121.out 3; have hfz8_4 := bf BK121.out 4
       have p122 : 0 ≤ (x8_1 : Int) := of_decide_eq_true ad
       have q122 : x8_1 < (l0.length : Int) := of_decide_eq_true ad
       obtain ⟨ad122, e122, hx122_0, hx122_1, hx122_2, hx122_3, hx122_4⟩ := at_T44 HR0.out x8_1 p122 q122
       cases e122
       replace hx122_0 := kp HB.out hx122_0; replace hx122_1 := kp HB.out hx122_1; replace hx122_2 := kp HB.out hx122_2; replace hx122_3 := kp HB.out hx122_3; replace hx122_4 := kp HB.out hx122_4; replace p122 := eq_true p122; replace q122 := eq_true q122; go_wp2
       repeat (go_quiet (fail); try go_wp2)
       go_ret
       exact ⟨eq_, bel1 GE121.out⟩
      ·rw [if_neg c7] at H
       have c7b0 : (a1_0.toList == (((rd_T44 l0 x8_1).f0).toList) && (a1_1 == ((rd_T44 l0 x8_1).f1) && (a1_2.toList == (((rd_T44 l0 x8_1).f2).toList) && (a1_3.toList == (((rd_T44 l0 x8_1).f3).toList) && (a1_4.toList == (((rd_T44 l0 x8_1).f4).toList)))))) = false := by simpa using c7
       (try (have c7b1 : decide (a1_0.toList = (((rd_T44 l0 x8_1).f0).toList) && (a1_1 == ((rd_T44 l0 x8_1).f1) && (a1_2.toList == (((rd_T44 l0 x8_1).f2).toList) && (a1_3.toList == (((rd_T44 l0 x8_1).f3).toList) && (a1_4.toList == (((rd_T44 l0 x8_1).f4).toList)))))) = false := by simpa using c7))
       (try (have c7b2 : (a1_0.toList == (((rd_T44 l0 x8_1).f0).toList) && (a1_1 == ((rd_T44 l0 x8_1).f1) && (a1_2.toList == (((rd_T44 l0 x8_1).f2).toList) && (a1_3.toList == (((rd_T44 l0 x8_1).f3).toList) && (a1_4.toList == (((rd_T44 l0 x8_1).f4).toList)))))) = false := by simpa using c7))
       (try (have c7b3 : ¬ (a1_0.toList = (((rd_T44 l0 x8_1).f0).toList) && (a1_1 == ((rd_T44 l0 x8_1).f1) && (a1_2.toList == (((rd_T44 l0 x8_1).f2).toList) && (a1_3.toList == (((rd_T44 l0 x8_1).f3).toList) && (a1_4.toList == (((rd_T44 l0 x8_1).f4).toList)))))) := by simpa using c7))
       clear c7
       have H' := am H
       clear H; have hcz9_0 := bc BK121.out 0; have hcz9_1 := bc BK121.out 1; have hcz9_2 := bc BK121.out 2; have hcz9_3 := bc BK121.out 3; have hcz9_4 := bc BK121.out 4; have hfz9_0 := bf BK121.out 0; have hfz9_1 := bf BK121.out 1; have hfz9_2 := bf BK121.out 2; have hfz9_3 := bf BK121.out 3; have hfz9_4 := bf BK121.out 4
       have p122 : 0 ≤ (x8_1 : Int) := of_decide_eq_true ad
       have q122 : x8_1 < (l0.length : Int) := of_decide_eq_true ad
       obtain ⟨ad122, e122, hx122_0, hx122_1, hx122_2, hx122_3, hx122_4⟩ := at_T44 HR0.out x8_1 p122 q122
       cases e122
       replace hx122_0 := kp HB.out hx122_0; replace hx122_1 := kp HB.out hx122_1; replace hx122_2 := kp HB.out hx122_2; replace hx122_3 := kp HB.out hx122_3; replace hx122_4 := kp HB.out hx122_4; replace p122 := eq_true p122; replace q122 := eq_true q122; go_wp2
       repeat (go_quiet (fail); try go_wp2)
       go_roundg k1
       case measure => have := HK1.out; omega
       case rel => exact ⟨(wrap64 (x8_1 + 1)), sq, H', ⟨b66_⟩, ⟨bq BK121.out⟩, ⟨bel1 GE121.out⟩⟩
     ·rw [if_neg c6] at H
      exact absurd H (by simp)
    ·rw [if_neg c5] at H
     exact absurd H (by simp)
   ·rw [if_neg c4] at H; have c4b0 := decide_eq_false c4; clear c4; obtain rfl := Option.some.inj H; go_wp2
    repeat (go_quiet (fail); try go_wp2)
    go_ret
    exact ⟨eq_, bel1 GE121.out⟩

/-! ### impl_Affix_92: function 92 -/
def impl_Affix_92.f (k : Nat) (l0 : List (S44)) (a1_0 : ByteArray) (a1_1 : Bool) (a1_2 : ByteArray) (a1_3 : ByteArray) (a1_4 : ByteArray) : Option (Bool) := (impl_Affix_112.f k l0 a1_0 a1_1 a1_2 a1_3 a1_4).bind fun t124 => (some (decide (t124 ≥ 0)))
theorem impl_Affix_92.mono : ∀ a0 a1 a2 a3 a4 a5 k, LeO (impl_Affix_92.f k a0 a1 a2 a3 a4 a5) (impl_Affix_92.f (k + 1) a0 a1 a2 a3 a4 a5) := by
 intro a0 a1 a2 a3 a4 a5 k
 unfold impl_Affix_92.f
 repeat' first | (with_reducible first | exact impl_Affix_112.mono _ _ _ _ _ _ _ | exact LeO.refl _ | exact LeO.none _ | refine LeO.ite ?_ ?_ | refine LeO.bind ?_ (fun _ => ?_)) | exact impl_Affix_112.mono _ _ _ _ _ _ _ | exact LeO.none _ | refine LeO.ite ?_ ?_ | refine LeO.bind ?_ (fun _ => ?_)
set_option maxHeartbeats 8000000 in
set_option maxRecDepth 100000 in
theorem impl_Affix_92.calls (k : Nat) (A0 : Option Addr) (c0 : Nat) (l0 : List (S44)) (a1_0 : ByteArray) (a1_1 : Bool) (a1_2 : ByteArray) (a1_3 : ByteArray) (a1_4 : ByteArray) (r : Bool) (w : World) (hr0 : Kd.C k44 w A0 l0.length l0) (hc0 : l0.length ≤ c0) (h : impl_Affix_92.f k l0 a1_0 a1_1 a1_2 a1_3 a1_4 = some r) :
  Calls Try.prog 92 #[.slice A0 l0.length c0, .agg #[.string a1_0, .bool a1_1, .string a1_2, .string a1_3, .string a1_4]] w fun e w' => e = .returned (.bool r) ∧ Below w.heap.size w w' := by
 have hu44 := Try.underlying44; have HR0 := am hr0; have HC0 := am hc0; clear hr0 hc0; have HB := am (Below.refl w.heap.size w)
 have H : ((impl_Affix_112.f k l0 a1_0 a1_1 a1_2 a1_3 a1_4).bind fun t124 => (some (decide (t124 ≥ 0)))) = some r := h
 clear h; replace H := Option.bind_eq_some_iff.mp H; obtain ⟨t124, A30, H⟩ := H; replace H : (some (decide (t124 ≥ 0))) = some r := H; have A3 := Aside0.mk A30; clear A30; obtain rfl := Option.some.inj H; go_enter Try.func92, Try.ntmps92
 go_wp2_with (first | ((with_reducible refine gate_dst (N := 3) rfl ?_); refine bx 3 (cs := #[.string a1_0, .bool a1_1, .string a1_2, .string a1_3, .string a1_4]) (t := 44) ?_; intro gb123 hg w4 hbox hb; have BK123 := am (hbox); have GW123 := am ((b20_ : w.heap.size ≤ gb123)); have GE123 := am ((b20_ : w.heap.size ≤ gb123)); replace HB := am (below_step bel hb); clear hb hbox hg; have hcz5_0 := bc BK123.out 0; have hcz5_1 := bc BK123.out 1; have hcz5_2 := bc BK123.out 2; have hcz5_3 := bc BK123.out 3; have hcz5_4 := bc BK123.out 4; have hfz5_0 := bf BK123.out 0; have hfz5_1 := bf BK123.out 1; have hfz5_2 := bf BK123.out 2; have hfz5_3 := bf BK123.out 3; have hfz5_4 := bf BK123.out 4) | ((with_reducible refine gate_callee (f := 112) rfl ?_); refine goesL_ (some 7) rfl rfl Try.func112 (by kernel_rfl) rfl #[.slice A0 l0.length c0, .agg #[.string a1_0, .bool a1_1, .string a1_2, .string a1_3, .string a1_4]] rfl mq ?_; (with_reducible refine (impl_Affix_112.calls k _ _ l0 a1_0 a1_1 a1_2 a1_3 a1_4 t124 _ ?side1 ?side2 A3.out).mono ?_); (case side1 => exact cq (Kd.C_below HR0.out HB.out)); (case side2 => exact HC0.out); rintro e w6 ⟨rfl, hb⟩; refine ⟨_, rfl, ?_⟩; replace BK123 := am (blk_below (g := gb123) (o := .cells #[.string a1_0, .bool a1_1, .string a1_2, .string a1_3, .string a1_4] 44 (0, 0)) (bq BK123.out) hb); replace HB := am (below_step (bel1 GE123.out) hb); (try clear hb); (try clear hb2); (try clear hk); (try clear hi)))
 go_ret
 exact ⟨eq_, bel1 GE123.out⟩

end Go.Proofs.Ytedfcehhgbeibaa.QFnBookStems

import Derived.Test.YtiiefpckcgekgaaDoorVMSpl
import Derived.Shelf.Strings.SplitCore
import Derived.Shelf.Strings.Search3
import Derived.Shelf.Strings.Count
import Derived.Shelf.RegionOpenPlain
import Derived.Lib.CutLaws
namespace Go.Proofs.YtiiefpckcgekgaaDoor.M
open Go.Shelf Go.RowKit Go.Lib
variable {P : Program} {ρ : Ren}

set_option maxHeartbeats 1000000 in
/-- strings.Split at one byte: no package variable is read. -/
theorem split_one (L : Lays.n146 P ρ) (hi9 : (P.info? (ρ.t 9)).map (fun i => (i.zero, i.size, i.bytes)) = some (some (.string ByteArray.empty), 1, 16)) (s : ByteArray) (c : UInt8) (w : World) (hs : s.size < 4294967281) :
    Calls P (ρ.f 146) #[.string s, .string ⟨#[c]⟩] w fun e w' => e = .returned (.slice (some ⟨w.heap.size, 0, none⟩) (spl c s).length (spl c s).length) ∧ w' = w.alloc (.cells ((spl c s).map Value.string).toArray (ρ.t 9)) := by
  have hle := Lib.countB_le ⟨#[c]⟩ (Nat.le_refl 1) s.size s (Nat.le_refl _)
  have hcnt : Lib.countB s ⟨#[c]⟩ = s.data.toList.count c := countB_one c s
  have ec : Lib.cellsOf (spl c s) (s.data.toList.count c + 1) = ((spl c s).map Value.string).toArray := by rw [← spl_length]; exact Lib.cellsOf_full _
  have core := Any.strings_genSplit_core { L with } hi9 s ⟨#[c]⟩ 0 (-1) (Lib.countB s ⟨#[c]⟩ + 1) w hs (Nat.le_refl 1) (Nat.zero_le _)
    (fun x cs _ => (Any.strings_Index_one { L with } x c _).mono fun e w' ⟨he, hw⟩ => ⟨by rw [he]; exact congrArg (fun i : Int => Ending.returned (Value.int .i64 i)) (Lib.index_one x.data.toList c).symm, hw⟩)
    ((Any.strings_Count_one { L with } s c w).mono fun e w' ⟨he, hw⟩ => ⟨by rw [he, hcnt]; rfl, hw⟩)
    (by decide) (by decide) (by rw [if_pos (by decide)]; omega)
  rw [Nat.add_sub_cancel, hcnt, spl_splitB, ec, ← spl_length] at core
  have t3 := L.t3; have t9 := L.t9; have t31 := L.t31
  have a3 := L.a3; have a9 := L.a9; have a31 := L.a31
  have z3 := L.z3; have v3 := L.v3; have z9 := L.z9; have v9 := L.v9; have z31 := L.z31; have v31 := L.v31
  have e221 : ∀ args w, (callFunc (ρ.f 221) args).run P w = .ok (.enter (ρ.f 221) args) w := enters_of L.f221 (by kernel_rfl) rfl
  go_enter L.f146, Body.n146_ntmps ρ
  go_wp2_with (go_at_fn (ρ.f 221); refine core.mono ?_; rintro e w' ⟨rfl, rfl⟩)
  go_ret
  exact ⟨rfl, rfl⟩

set_option maxHeartbeats 2000000 in
set_option maxRecDepth 100000 in
/-- internal/stringslite.Cut at one byte: no package variable is read. -/
theorem cut_one0 (L : Lays.n220 P ρ) (s : ByteArray) (c : UInt8) (w : World) (hs : s.size < 4294967281) :
    Calls P (ρ.f 220) #[.string s, .string ⟨#[c]⟩] w fun e w' => e = .returned (.tuple #[.string (cutP c s).1, .string (cutP c s).2.1, .bool (cutP c s).2.2]) ∧ ∃ n, w' = w.drewN n := by
  have hz : s.size = s.data.toList.length := Lib.size_eq s
  have t3 := L.t3; have t4 := L.t4; have t9 := L.t9; have mixed := L.mixed
  have a3 : ∀ w, (isAgg (ρ.t 3)).run P w = .ok false w := run_isAgg_plain L.t3 rfl
  have a4 : ∀ w, (isAgg (ρ.t 4)).run P w = .ok false w := run_isAgg_plain L.t4 rfl
  have a9 : ∀ w, (isAgg (ρ.t 9)).run P w = .ok false w := run_isAgg_plain L.t9 rfl
  have e219 : ∀ args w, (callFunc (ρ.f 219) args).run P w = .ok (.enter (ρ.f 219) args) w := enters_of L.f219 (by kernel_rfl) rfl
  have z3 := L.z3; have v3 := L.v3; have z4 := L.z4; have v4 := L.v4; have z9 := L.z9; have v9 := L.v9
  have hI := fun w => Any.stringslite_Index_one { L with } s c w
  obtain ⟨sep, hsep, hse⟩ : ∃ sep : ByteArray, sep = ⟨#[c]⟩ ∧ sep.size = 1 := ⟨_, rfl, rfl⟩
  rw [← hsep] at hI ⊢
  clear hsep
  by_cases hm : c ∈ s.data.toList
  · obtain ⟨p, t, e, h1, h2⟩ := index_mem c _ hm
    rw [cutP_at c p t h1 s e]
    have hl : p.length + (t.length + 1) = s.size := by rw [hz, e]; simp
    have q1 : s.extract 0 p.length = ⟨p.toArray⟩ := by
      apply ba_ext
      rw [Lib.extract_from_zero, e, List.take_left]
    have q2 : s.extract (p.length + sep.size) s.size = ⟨t.toArray⟩ := by
      apply ba_ext
      rw [Lib.extract_to_end, hse, e, List.drop_append, List.drop_eq_nil_of_le (by omega)]
      simp
    have c1 : (0 : Int) ≤ ↑p.length := by omega
    have c2 : (↑p.length : Int) ≤ ↑s.size := by omega
    have c3 : (0 : Int) ≤ ↑p.length + ↑sep.size := by omega
    have c4 : (↑p.length + ↑sep.size : Int) ≤ ↑s.size := by omega
    rw [← q1, ← q2]
    clear q1 q2 hl hz hse
    go_enter L.f220, Body.n220_ntmps ρ
    go_wp2_with (go_at_fn (ρ.f 219); refine (hI _).mono ?_; rintro e w' ⟨rfl, rfl⟩; rw [h2])
    go_region_o
    go_wp2
    go_ret3
    exact ⟨rfl, 1, rfl⟩
  · rw [cutP_no c s hm]
    have h2 := index_no c _ hm
    go_enter L.f220, Body.n220_ntmps ρ
    go_wp2_with (go_at_fn (ρ.f 219); refine (hI _).mono ?_; rintro e w' ⟨rfl, rfl⟩; rw [h2])
    go_ret3
    exact ⟨rfl, 0, rfl⟩

set_option maxHeartbeats 1000000 in
/-- strings.Cut at one byte. -/
theorem cut_one (L : Lays.n145 P ρ) (s : ByteArray) (c : UInt8) (w : World) (hs : s.size < 4294967281) :
    Calls P (ρ.f 145) #[.string s, .string ⟨#[c]⟩] w fun e w' => e = .returned (.tuple #[.string (cutP c s).1, .string (cutP c s).2.1, .bool (cutP c s).2.2]) ∧ ∃ n, w' = w.drewN n := by
  have t4 := L.t4; have t9 := L.t9; have t59 := L.t59; have mixed := L.mixed
  have a4 : ∀ w, (isAgg (ρ.t 4)).run P w = .ok false w := run_isAgg_plain L.t4 rfl
  have a9 : ∀ w, (isAgg (ρ.t 9)).run P w = .ok false w := run_isAgg_plain L.t9 rfl
  have a59 : ∀ w, (isAgg (ρ.t 59)).run P w = .ok false w := run_isAgg_plain L.t59 rfl
  have e220 : ∀ args w, (callFunc (ρ.f 220) args).run P w = .ok (.enter (ρ.f 220) args) w := enters_of L.f220 (by kernel_rfl) rfl
  have z4 := L.z4; have v4 := L.v4; have z9 := L.z9; have v9 := L.v9; have z59 := L.z59; have v59 := L.v59
  go_enter L.f145, Body.n145_ntmps ρ
  go_wp2_with (go_at_fn (ρ.f 220); refine (cut_one0 { L with } _ _ _ hs).mono ?_; rintro e w' ⟨rfl, n, rfl⟩)
  go_ret3
  exact ⟨rfl, n, rfl⟩
end Go.Proofs.YtiiefpckcgekgaaDoor.M

/- Check marks in rising order what lies in the text and is not in the book: of a drawn book and text. No condition. -/
import Derived.Test.YtfpmfaelodfecaaGreatDoorQFnCheckx21
import Derived.Test.YtfpmfaelodfecaaGreatDoorVMBas
import Derived.Test.YtfpmfaelodfecaaGreatDoorVMStr
import Derived.Test.YtfpmfaelodfecaaGreatDoorVMAff
import Derived.Test.YtfpmfaelodfecaaGreatDoorVMSml
import Derived.Test.YtfpmfaelodfecaaGreatDoorVMSrt
import Derived.Test.YtfpmfaelodfecaaGreatDoorVSized
namespace Go.Proofs.YtfpmfaelodfecaaGreatDoor
theorem PrintWords.sized_ints : type_of% @Go.Proofs.YtfpmfaelodfecaaGreatDoorW.PrintWords.sized_ints := @Go.Proofs.YtfpmfaelodfecaaGreatDoorW.PrintWords.sized_ints
end Go.Proofs.YtfpmfaelodfecaaGreatDoor
namespace Go.Proofs.YtfpmfaelodfecaaGreatDoor.Pure
open Go.RowKit Go.Proofs.YtfpmfaelodfecaaGreatDoor.QFnCheck Go.Proofs.YtfpmfaelodfecaaGreatDoorW.PrintWords Go.Proofs.YtfpmfaelodfecaaGreatDoorW.PrintLast Go.Proofs.YtfpmfaelodfecaaGreatDoorW.PrintMore Go.Proofs.YtfpmfaelodfecaaGreatDoor.M
set_option linter.unusedVariables false
set_option linter.unusedSimpArgs false
theorem ba_get (l : List ByteArray) (i : Nat) (h : i < l.length) : rdOf ByteArray.empty l (i : Int) = l[i] := by simp [rdOf, List.getD_eq_getElem?_getD, List.getElem?_eq_getElem h]
theorem ba_at {P : ByteArray → Prop} {l : List ByteArray} (h : ∀ s ∈ l, P s) (i : Nat) (hi : i < l.length) : P (rdOf ByteArray.empty l (i : Int)) := by
 rw [ba_get l i hi]
 exact h _ (List.getElem_mem hi)
theorem letters_loop (s : ByteArray) (m : Int) (h : s.size ≤ 281474976710656) (d : Nat) : ∀ i : Int, 0 ≤ i → i ≤ s.size → (s.size : Int) - i = d →
  Ev (fun k => spec_l1Letters.l0 k s m i) (((bytesOf s).drop i.toNat).all low && decide ((s.size : Int) ≤ m)) := by
 induction d with
 | zero =>
  intro i h0 h1 hd
  refine Ev.step (fun k => spec_l1Letters.l0.eq_2 _ _ _ _) (eN ?_)
  rw [List.drop_eq_nil_of_le (by rw [bytesOf_length]; omega)]
  exact evTo (Ev.now _) (by simp)
 | succ d ih =>
  intro i h0 h1 hd
  refine Ev.step (fun k => spec_l1Letters.l0.eq_2 _ _ _ _) (eP (evPos h0 ?_))
  rw [bytes_drop s i h0 (by omega), List.all_cons]
  by_cases c : bt s i < 97
  ·exact evPos c (evTo (Ev.now _) (by simp [low]; omega))
  refine evNeg c ?_
  by_cases c1 : bt s i > 122
  ·exact evPos c1 (evTo (Ev.now _) (by simp [low]; omega))
  refine evNeg c1 ?_
  have e : low (bt s i) = true := (low_iff _).2 (by omega)
  rw [w6, e, Bool.true_and]
  exact ih (i + 1) (by omega) (by omega) (by omega)
theorem letters_spec (s : ByteArray) (m : Int) (h : s.size ≤ 140737488351232) : Ev (fun k => spec_l1Letters.f k s m) ((bytesOf s).all low && decide ((s.size : Int) ≤ m)) :=
 letters_loop s m (by omega) s.size 0 (by omega) (by omega) (by omega)
theorem letters_wide (s : ByteArray) (m : Int) (h : s.size ≤ 281474976710656) : Ev (fun k => spec_l1Letters.f k s m) ((bytesOf s).all low && decide ((s.size : Int) ≤ m)) :=
 letters_loop s m h s.size 0 (by omega) (by omega) (by omega)
theorem l1Word_spec (s : ByteArray) (h : s.size ≤ 140737488351232) : Ev (fun k => spec_l1Word.f k s) (wordB s) := by
 unfold spec_l1Word.f
 by_cases c : (s.size : Int) > 0
 ·have hp : 0 < s.size := by omega
  refine evPos c (Ev.bind (letters_spec s 12 h) (evTo (Ev.now _) ?_))
  simp only [wordB, wordL, bytesOf_length, decide_eq_true hp, Bool.true_and]
  rw [Bool.and_comm]
  congr 1
  exact decide_eq_decide.2 (by omega)
 ·exact evNeg c (evTo (Ev.now _) (wordB_no (by omega)).symm)
theorem l1Word_spec' (s : ByteArray) (h : s.size ≤ 281474976710656) : Ev (fun k => spec_l1Word.f k s) (wordB s) := by
 by_cases c : s.size ≤ 140737488351232
 ·exact l1Word_spec s c
 unfold spec_l1Word.f
 refine eP (Ev.bind (letters_wide s 12 h) (evTo (Ev.now _) ?_))
 rw [wordB_no (by omega), decide_eq_false (by omega), Bool.and_false]
theorem lower_loop (s : ByteArray) (h : s.size ≤ 140737488351232) (d : Nat) : ∀ i : Int, 0 ≤ i → i ≤ s.size → (s.size : Int) - i = d →
  Ev (fun k => impl_lower.l0 k s (s.size : Int) i) (((bytesOf s).drop i.toNat).all low) := by
 induction d with
 | zero =>
  intro i h0 h1 hd
  refine Ev.step (fun k => impl_lower.l0.eq_2 _ _ _ _) (eN ?_)
  rw [List.drop_eq_nil_of_le (by rw [bytesOf_length]; omega)]
  exact evTo (Ev.now _) (by simp)
 | succ d ih =>
  intro i h0 h1 hd
  refine Ev.step (fun k => impl_lower.l0.eq_2 _ _ _ _) (eP (evPos h0 (eP ?_)))
  rw [bytes_drop s i h0 (by omega), List.all_cons]
  by_cases c : bt s i < 97
  ·exact evPos c (evTo (Ev.now _) (by simp [low]; omega))
  refine evNeg c ?_
  by_cases c1 : bt s i > 122
  ·exact evPos c1 (evTo (Ev.now _) (by simp [low]; omega))
  refine evNeg c1 ?_
  have e : low (bt s i) = true := (low_iff _).2 (by omega)
  rw [w6, e, Bool.true_and]
  exact ih (i + 1) (by omega) (by omega) (by omega)
theorem lower_impl (s : ByteArray) (h : s.size ≤ 140737488351232) : Ev (fun k => impl_lower.f k s) ((bytesOf s).all low) :=
 lower_loop s h s.size 0 (by omega) (by omega) (by omega)
theorem within_impl (n a b : Int) : impl_within.f n a b = some (decide (a ≤ n) && decide (n ≤ b)) := by
 unfold impl_within.f
 by_cases c : n ≥ a
 ·rw [if_pos c]; simp [c]
 ·rw [if_neg c]; simp; omega
theorem word_impl (s : ByteArray) (h : s.size ≤ 140737488351232) : Ev (fun k => impl_WordOk.f k s) (wordB s) := by
 unfold impl_WordOk.f
 refine evCall (within_impl _ _ _) ?_
 by_cases c : (1 ≤ (s.size : Int) ∧ (s.size : Int) ≤ 12)
 ·have hp : 0 < s.size := by omega
  have hq : s.size ≤ 12 := by omega
  refine evPos (by simp; omega) (Ev.bind (lower_impl s h) (evTo (Ev.now _) ?_))
  simp only [wordB, wordL, bytesOf_length, decide_eq_true hp, decide_eq_true hq, Bool.true_and]
 ·exact evNeg (by simp; omega) (evTo (Ev.now _) (wordB_no (by omega)).symm)
theorem word_impl' (s : ByteArray) (h : s.size ≤ 281474976710656) : Ev (fun k => impl_WordOk.f k s) (wordB s) := by
 by_cases c : s.size ≤ 140737488351232
 ·exact word_impl s c
 ·unfold impl_WordOk.f
  refine evCall (within_impl _ _ _) ?_
  exact evNeg (by simp; omega) (evTo (Ev.now _) (wordB_no (by omega)).symm)
abbrev Gu := S43
theorem flag_spec (s : ByteArray) : spec_l2Flag.f s = some (flagB s) := by
 unfold spec_l2Flag.f
 by_cases c : (s.size : Int) = 1
 ·rw [if_pos c, if_pos (by omega)]
  by_cases e : bt s 0 ≥ 65
  ·rw [if_pos e]
   simp [flagB, e]
   omega
  ·rw [if_neg e]
   simp [flagB, e]
 ·rw [if_neg c]
  simp [flagB]
  omega
theorem begins_spec (s p : ByteArray) : spec_l2Begins.f s p = some (begB s p) := by
 unfold spec_l2Begins.f
 by_cases c : (s.size : Int) ≥ (p.size : Int)
 ·rw [if_pos c, if_pos (by omega), if_pos (by omega), toList_beq]
  try rw [Int.toNat_natCast]
  simp [begB]
  omega
 ·rw [if_neg c]
  simp [begB]
  omega
theorem ends_spec (s p : ByteArray) (h : s.size ≤ 1407374883512320) : spec_l2Ends.f s p = some (endB s p) := by
 unfold spec_l2Ends.f
 by_cases c : (s.size : Int) ≥ (p.size : Int)
 ·rw [if_pos c, w6, if_pos (by omega), if_pos (by omega), toList_beq, show ((s.size : Int) - (p.size : Int)).toNat = s.size - p.size from by omega]
  simp [endB]
  omega
 ·rw [if_neg c]
  simp [endB]
  omega
theorem letters4 (s : ByteArray) (h : s.size ≤ 140737488351232) : Ev (fun k => spec_l1Letters.f k s 4) (partB s) :=
 evTo (letters_spec s 4 h) (by
  unfold partB
  congr 1
  exact decide_eq_decide.2 (by omega))
theorem affixOk_spec (g : ByteArray) (fr : Bool) (st ad wh : ByteArray) (h1 : st.size ≤ 140737488351232) (h2 : ad.size ≤ 140737488351232) (h3 : wh.size ≤ 140737488351232) :
  Ev (fun k => spec_AffixOk.f k g fr st ad wh) (affOk g fr st ad wh) := by
 have no : ∀ r, r = false → Ev (fun k => spec_AffixOk.j0 k true g fr st ad wh) r := fun r hr => Ev.step (fun k => spec_AffixOk.j0.eq_2 _ _ _ _ _ _ _) (evPos rfl (evTo (Ev.now _) hr.symm))
 unfold spec_AffixOk.f
 refine evCall (flag_spec _) ?_
 cases e1 : flagB g with
 | false => exact evNeg (by simp) (no _ (by simp [affOk, e1]))
 | true =>
  refine evPos rfl (Ev.bind (letters4 st h1) ?_)
  cases e2 : partB st with
  | false => exact evNeg (by simp) (no _ (by simp [affOk, e2]))
  | true =>
   refine evPos rfl (Ev.bind (letters4 ad h2) ?_)
   cases e3 : partB ad with
   | false => exact evNeg (by simp) (no _ (by simp [affOk, e3]))
   | true =>
    refine evPos rfl (Ev.bind (letters4 wh h3) ?_)
    cases e4 : partB wh with
    | false => exact no _ (by simp [affOk, e4])
    | true =>
     refine Ev.step (fun k => spec_AffixOk.j0.eq_2 _ _ _ _ _ _ _) (evNeg (by simp) ?_)
     cases fr with
     | true => exact evPos rfl (evCall (begins_spec _ _) (evTo (Ev.now _) (by simp [affOk, e1, e2, e3, e4])))
     | false => exact evNeg (by simp) (evCall (ends_spec _ _ (by omega)) (evTo (Ev.now _) (by simp [affOk, e1, e2, e3, e4])))
theorem upper_impl (c : Int) : impl_upper.f c = some (decide (65 ≤ c) && decide (c ≤ 90)) := by
 unfold impl_upper.f
 by_cases e : c ≥ 65
 ·rw [if_pos e]; simp [e]
 ·rw [if_neg e]; simp; omega
theorem hasPrefix0 (s p : ByteArray) : stringslite_HasPrefix.f s p = some (begB s p) := begins_spec s p
theorem hasPrefix_lib (s p : ByteArray) : strings_HasPrefix.f s p = some (begB s p) := by
 unfold strings_HasPrefix.f
 rw [hasPrefix0]
 rfl
theorem hasSuffix0 (s p : ByteArray) (h : s.size ≤ 1407374883512320) : stringslite_HasSuffix.f s p = some (endB s p) := ends_spec s p h
theorem hasSuffix_lib (s p : ByteArray) (h : s.size ≤ 1407374883512320) : strings_HasSuffix.f s p = some (endB s p) := by
 unfold strings_HasSuffix.f
 rw [hasSuffix0 s p h]
 rfl
theorem parts_loop (g : ByteArray) (fr : Bool) (st ad wh : ByteArray) (l : List ByteArray) (hl : l.length ≤ 10) (hs : ∀ x ∈ l, x.size ≤ 140737488351232) (hw : wh.size ≤ 140737488351232) (d : Nat) : ∀ i : Int, 0 ≤ i → i ≤ l.length → (l.length : Int) - i = d →
  Ev (fun k => impl_AffixOk.l0 k l (l.length : Int) i g fr st ad wh) ((l.drop i.toNat).all partB && (if fr = true then begB wh st else endB wh st)) := by
 induction d with
 | zero =>
  intro i h0 h1 hd
  refine Ev.step (fun k => impl_AffixOk.l0.eq_2 _ _ _ _ _ _ _ _ _) (eN ?_)
  rw [List.drop_eq_nil_of_le (by omega), List.all_nil, Bool.true_and]
  cases fr with
  | true => exact evPos rfl (evCall (hasPrefix_lib _ _) (Ev.now _))
  | false => exact evNeg (by simp) (evCall (hasSuffix_lib _ _ (by omega)) (Ev.now _))
 | succ d ih =>
  intro i h0 h1 hd
  have hi : i.toNat < l.length := by omega
  have hx : rdOf ByteArray.empty l i = l[i.toNat] := by simp [rdOf, List.getD_eq_getElem?_getD, List.getElem?_eq_getElem hi]
  have hm := hs _ (List.getElem_mem hi)
  refine Ev.step (fun k => impl_AffixOk.l0.eq_2 _ _ _ _ _ _ _ _ _) (eP (evPos h0 (eP ?_)))
  rw [hx, List.drop_eq_getElem_cons hi, List.all_cons]
  generalize l[i.toNat] = x at *
  by_cases c : (x.size : Int) > 4
  ·refine evPos c (evTo (Ev.now _) ?_)
   have : partB x = false := by simp [partB]; omega
   rw [this]
   rfl
  ·refine evNeg c (Ev.bind (lower_impl x hm) ?_)
   have hp : partB x = (bytesOf x).all low := by
    simp only [partB]
    rw [decide_eq_true (by omega), Bool.and_true]
   rw [hp]
   cases e : (bytesOf x).all low with
   | false => exact evNeg (by simp) (evTo (Ev.now _) (by simp))
   | true =>
    refine evPos rfl ?_
    rw [w6, Bool.true_and, show i.toNat + 1 = (i + 1).toNat from by omega]
    exact ih (i + 1) (by omega) (by omega) (by omega)
theorem affixOk_impl (g : ByteArray) (fr : Bool) (st ad wh : ByteArray) (h1 : st.size ≤ 140737488351232) (h2 : ad.size ≤ 140737488351232) (h3 : wh.size ≤ 140737488351232) :
  Ev (fun k => impl_AffixOk.f k g fr st ad wh) (affOk g fr st ad wh) := by
 unfold impl_AffixOk.f
 by_cases c : (g.size : Int) = 1
 ·refine evPos c (eP (evCall (upper_impl _) ?_))
  have hf : flagB g = (decide (65 ≤ bt g 0) && decide (bt g 0 ≤ 90)) := by
   simp only [flagB]
   rw [decide_eq_true (by omega), Bool.true_and]
  rw [← hf]
  cases e : flagB g with
  | false => exact Ev.step (fun k => impl_AffixOk.j0.eq_2 _ _ _ _ _ _ _) (evPos rfl (evTo (Ev.now _) (by simp [affOk, e])))
  | true =>
   refine Ev.step (fun k => impl_AffixOk.j0.eq_2 _ _ _ _ _ _ _) (evNeg (by simp) (evCall rfl ?_))
   refine evTo (parts_loop g fr st ad wh [st, ad, wh] (by simp) (by
    intro x hx
    simp only [List.mem_cons, List.not_mem_nil, or_false] at hx
    rcases hx with rfl | rfl | rfl <;> assumption) h3 3 0 (by omega) (by simp) (by simp)) ?_
   simp [affOk, e, Bool.and_assoc]
 ·refine evNeg c (Ev.step (fun k => impl_AffixOk.j0.eq_2 _ _ _ _ _ _ _) (evPos rfl (evTo (Ev.now _) ?_)))
  have : flagB g = false := by simp [flagB]; omega
  simp [affOk, this]
theorem bt_extract0 (s : ByteArray) (i : Nat) (h : i < s.size) : bt (s.extract i (i + 1)) 0 = bt s i := by
 have hs : (s.extract i (i + 1)).size = 1 := by rw [size_extract s i (i + 1) (by omega) (by omega)]; omega
 have h1 := bytes_drop (s.extract i (i + 1)) 0 (by omega) (by omega)
 have h2 := bytes_drop s i (by omega) (by omega)
 rw [bytes_extract] at h1
 have h2' : (bytesOf s).drop i = bt s i :: (bytesOf s).drop ((i : Int) + 1).toNat := by simpa using h2
 rw [h2', show i + 1 - i = 1 from by omega] at h1
 simp only [List.take_succ_cons, List.take_zero] at h1
 have := congrArg List.head? h1
 simpa using this.symm
theorem flag_extract (s : ByteArray) (i : Nat) (h : i < s.size) : flagB (s.extract i (i + 1)) = (decide (65 ≤ bt s i) && decide (bt s i ≤ 90)) := by
 have hs : (s.extract i (i + 1)).size = 1 := by rw [size_extract s i (i + 1) (by omega) (by omega)]; omega
 unfold flagB
 rw [hs, bt_extract0 s i h]
 simp
def flGo (s : ByteArray) : Nat → Int → Bool
 | 0, _ => true
 | d + 1, i => (decide (65 ≤ bt s i) && decide (bt s i ≤ 90)) && (if i > 0 then decide (bt s (i - 1) < bt s i) else true) && flGo s d (i + 1)
def entB (w f : ByteArray) : Bool := flGo f f.size 0 && (wordB w && decide (f.size ≤ 4))
theorem ent_spec_loop (w f : ByteArray) (hw : w.size ≤ 1048576) (hf : f.size ≤ 1048576) (d : Nat) : ∀ i : Nat, i + d = f.size → Ev (fun k => spec_l2Entry.l0 k (i : Int) w f) (flGo f d i && (wordB w && decide (f.size ≤ 4))) := by
 induction d with
 | zero =>
  intro i hi
  refine Ev.step (fun k => spec_l2Entry.l0.eq_2 _ _ _ _) (eN (Ev.bind (l1Word_spec w (by omega)) ?_))
  simp only [flGo, Bool.true_and]
  cases wordB w with
  | false => exact evNeg (by simp) (Ev.now _)
  | true => exact evPos rfl (evTo (Ev.now _) (by rw [Bool.true_and]; exact decide_eq_decide.2 (by omega)))
 | succ d ih =>
  intro i hi
  refine Ev.step (fun k => spec_l2Entry.l0.eq_2 _ _ _ _) ?_
  rw [w6 (n := (i : Int) + 1)]
  refine eP (eP (eP (eP (evCall (flag_spec _) ?_))))
  rw [show ((i : Int) + 1).toNat = i + 1 from by omega, Int.toNat_natCast, flag_extract f i (by omega)]
  simp only [flGo]
  have next := ih (i + 1) (by omega)
  cases e : (decide (65 ≤ bt f i) && decide (bt f i ≤ 90)) with
  | false => exact evNeg (by simp) (evTo (Ev.now _) (by simp))
  | true =>
   refine evPos rfl ?_
   by_cases c : (i : Int) > 0
   ·rw [w6 (n := (i : Int) - 1), if_pos c]
    refine evPos c (eP (eP ?_))
    by_cases g : bt f ((i : Int) - 1) ≥ bt f i
    ·rw [decide_eq_false (show ¬ bt f ((i : Int) - 1) < bt f i from by omega)]
     exact evPos g (evTo (Ev.now _) (by simp))
    ·rw [decide_eq_true (show bt f ((i : Int) - 1) < bt f i from by omega)]
     exact evNeg g (evTo next (by simp))
   ·rw [if_neg c]
    exact evNeg c (evTo next (by simp))
theorem ent_spec (w f : ByteArray) (hw : w.size ≤ 1048576) (hf : f.size ≤ 1048576) : Ev (fun k => spec_l2Entry.f k w f) (entB w f) := ent_spec_loop w f hw hf f.size 0 (by omega)
theorem ent_impl_loop (w f : ByteArray) (hw : w.size ≤ 1048576) (hf : f.size ≤ 1048576) (d : Nat) : ∀ i : Nat, i + d = f.size → Ev (fun k => impl_entryOk.l0 k (f.size : Int) (i : Int) w f) (flGo f d i && (wordB w && decide (f.size ≤ 4))) := by
 induction d with
 | zero =>
  intro i hi
  refine Ev.step (fun k => impl_entryOk.l0.eq_2 _ _ _ _ _) (eN (Ev.bind (word_impl w (by omega)) ?_))
  simp only [flGo, Bool.true_and]
  cases wordB w with
  | false => exact evNeg (by simp) (Ev.now _)
  | true => exact evPos rfl (evTo (Ev.now _) (by rw [Bool.true_and]; exact decide_eq_decide.2 (by omega)))
 | succ d ih =>
  intro i hi
  refine Ev.step (fun k => impl_entryOk.l0.eq_2 _ _ _ _ _) ?_
  rw [w6 (n := (i : Int) + 1)]
  refine eP (eP (eP (evCall (upper_impl _) ?_)))
  simp only [flGo]
  have next := ih (i + 1) (by omega)
  cases e : (decide (65 ≤ bt f i) && decide (bt f i ≤ 90)) with
  | false => exact evNeg (by simp) (evTo (Ev.now _) (by simp))
  | true =>
   refine evPos rfl ?_
   by_cases c : (i : Int) > 0
   ·rw [w6 (n := (i : Int) - 1), if_pos c]
    refine evPos c (eP (eP ?_))
    by_cases g : bt f ((i : Int) - 1) ≥ bt f i
    ·rw [decide_eq_false (show ¬ bt f ((i : Int) - 1) < bt f i from by omega)]
     exact evPos g (evTo (Ev.now _) (by simp))
    ·rw [decide_eq_true (show bt f ((i : Int) - 1) < bt f i from by omega)]
     exact evNeg g (evTo next (by simp))
   ·rw [if_neg c]
    exact evNeg c (evTo next (by simp))
theorem ent_impl (w f : ByteArray) (hw : w.size ≤ 1048576) (hf : f.size ≤ 1048576) : Ev (fun k => impl_entryOk.f k w f) (entB w f) := ent_impl_loop w f hw hf f.size 0 (by omega)
abbrev En := S78
abbrev Af := S82
def entGo (l : List En) : Nat → Int → Bool
 | 0, _ => true
 | d + 1, i => entB (rd_T78 l i).f0 (rd_T78 l i).f1 && (if i > 0 then Op.bytesLess (rd_T78 l (i - 1)).f0.toList (rd_T78 l i).f0.toList else true) && entGo l d (i + 1)
def entsB (l : List En) : Bool := entGo l l.length 0 && decide (l.length ≤ 24)
theorem en_at {P : En → Prop} {l : List En} (h : ∀ s ∈ l, P s) (i : Nat) (hi : i < l.length) : P (rd_T78 l (i : Int)) := by
 have e : rd_T78 l (i : Int) = l[i] := by simp [rd_T78, List.getD_eq_getElem?_getD, hi]
 rw [e]
 exact h _ (List.getElem_mem hi)
theorem ents_spec_loop (A : List Af) (l : List En) (hl : l.length ≤ 1048576) (he : ∀ s ∈ l, (s.f0.size ≤ 1048576 ∧ s.f1.size ≤ 1048576)) {r : Bool} (no : entGo l l.length 0 = false → r = false) (d : Nat) : ∀ i : Nat, i + d = l.length → (entGo l d i = false → r = false) →
  (entGo l d i = true → Ev (fun k => (spec_l2Affixes.f k A).bind fun t130 => (if t130 = true then (some (decide ((l.length : Int) ≤ 24))) else (some false))) r) → Ev (fun k => spec_BookOk.l0 k (i : Int) A l) r := by
 induction d with
 | zero =>
  intro i hi _ yes
  exact Ev.step (fun k => spec_BookOk.l0.eq_2 _ _ _ _) (eN (yes rfl))
 | succ d ih =>
  intro i hi no' yes
  have hs := en_at he i (by omega)
  simp only [entGo] at no' yes
  refine Ev.step (fun k => spec_BookOk.l0.eq_2 _ _ _ _) (eP (eP (Ev.bind (ent_spec _ _ hs.1 hs.2) ?_)))
  rw [w6 (n := (i : Int) + 1)]
  have next := ih (i + 1) (by omega)
  cases e : entB (rd_T78 l (i : Int)).f0 (rd_T78 l (i : Int)).f1 with
  | false =>
   rw [e] at no'
   exact evNeg (by simp) (evTo (Ev.now _) (no' (by simp)).symm)
  | true =>
   rw [e] at no' yes
   refine evPos rfl ?_
   by_cases c : (i : Int) > 0
   ·rw [w6 (n := (i : Int) - 1)]
    rw [if_pos c] at no' yes
    refine evPos c (eP (eP ?_))
    cases g : Op.bytesLess (rd_T78 l ((i : Int) - 1)).f0.toList (rd_T78 l (i : Int)).f0.toList with
    | false =>
     rw [g] at no'
     exact evNeg (by simp) (evTo (Ev.now _) (no' (by simp)).symm)
    | true =>
     rw [g] at no' yes
     simp only [Bool.true_and] at no' yes
     exact evPos rfl (next no' yes)
   ·rw [if_neg c] at no' yes
    simp only [Bool.true_and] at no' yes
    exact evNeg c (next no' yes)
theorem ents_impl_loop (l : List En) (hl : l.length ≤ 1048576) (he : ∀ s ∈ l, (s.f0.size ≤ 1048576 ∧ s.f1.size ≤ 1048576)) (d : Nat) : ∀ i : Nat, i + d = l.length → Ev (fun k => impl_entriesOk.l0 k l l (l.length : Int) (i : Int)) (entGo l d i && decide (l.length ≤ 24)) := by
 induction d with
 | zero =>
  intro i hi
  refine Ev.step (fun k => impl_entriesOk.l0.eq_2 _ _ _ _ _) (eN (evTo (Ev.now _) ?_))
  simp only [entGo, Bool.true_and]
  exact decide_eq_decide.2 (by omega)
 | succ d ih =>
  intro i hi
  have hs := en_at he i (by omega)
  refine Ev.step (fun k => impl_entriesOk.l0.eq_2 _ _ _ _ _) (eP (eP (eP (Ev.bind (ent_impl _ _ hs.1 hs.2) ?_))))
  rw [w6 (n := (i : Int) + 1)]
  have next := ih (i + 1) (by omega)
  simp only [entGo]
  cases e : entB (rd_T78 l (i : Int)).f0 (rd_T78 l (i : Int)).f1 with
  | false => exact evNeg (by simp) (evTo (Ev.now _) (by simp))
  | true =>
   refine evPos rfl ?_
   by_cases c : (i : Int) > 0
   ·rw [w6 (n := (i : Int) - 1), if_pos c]
    refine evPos c (eP (eP ?_))
    cases g : Op.bytesLess (rd_T78 l ((i : Int) - 1)).f0.toList (rd_T78 l (i : Int)).f0.toList with
    | false => exact evNeg (by simp) (evTo (Ev.now _) (by simp))
    | true => exact evPos rfl (evTo next (by simp))
   ·rw [if_neg c]
    exact evNeg c (evTo next (by simp))
theorem af_at {P : Af → Prop} {l : List Af} (h : ∀ s ∈ l, P s) (i : Nat) (hi : i < l.length) : P (rd_T82 l (i : Int)) := by
 have e : rd_T82 l (i : Int) = l[i] := by simp [rd_T82, List.getD_eq_getElem?_getD, hi]
 rw [e]
 exact h _ (List.getElem_mem hi)
def eqA (a b : Af) : Bool := a.f0.toList == b.f0.toList && (a.f1 == b.f1 && (a.f2.toList == b.f2.toList && (a.f3.toList == b.f3.toList && (a.f4.toList == b.f4.toList))))
theorem beq_comm' {α : Type} [BEq α] [LawfulBEq α] (a b : α) : (a == b) = (b == a) := by
 cases h : (a == b) with
 | true => rw [eq_of_beq h]; simp
 | false =>
  cases g : (b == a) with
  | false => rfl
  | true => rw [eq_of_beq g] at h; simp at h
theorem eqA_comm (a b : Af) : eqA a b = eqA b a := by
 unfold eqA
 rw [beq_comm' a.f0.toList, beq_comm' a.f1, beq_comm' a.f2.toList, beq_comm' a.f3.toList, beq_comm' a.f4.toList]
def dup (l : List Af) (i : Int) : Nat → Int → Bool
 | 0, _ => false
 | d + 1, k => eqA (rd_T82 l k) (rd_T82 l i) || dup l i d (k + 1)
def affGo (l : List Af) : Nat → Int → Bool
 | 0, _ => true
 | d + 1, i => affOk (rd_T82 l i).f0 (rd_T82 l i).f1 (rd_T82 l i).f2 (rd_T82 l i).f3 (rd_T82 l i).f4 && !dup l i i.toNat 0 && affGo l d (i + 1)
def affsB (l : List Af) : Bool := affGo l l.length 0 && decide (l.length ≤ 8)
abbrev AfSz (l : List Af) : Prop := ∀ s ∈ l, (s.f0.size ≤ 1048576 ∧ s.f2.size ≤ 1048576 ∧ s.f3.size ≤ 1048576 ∧ s.f4.size ≤ 1048576)
theorem dup_spec_loop (l : List Af) (hl : l.length ≤ 1048576) (i : Nat) (hi : i < l.length) {r : Bool} (d : Nat) : ∀ k : Nat, k + d = i → (dup l i d k = true → r = false) → (dup l i d k = false → Ev (fun n => spec_l2Affixes.l0 n l (wrap64 ((i : Int) + 1))) r) → Ev (fun n => spec_l2Affixes.l1 n l (i : Int) (k : Int)) r := by
 induction d with
 | zero =>
  intro k hk _ yes
  exact Ev.step (fun n => spec_l2Affixes.l1.eq_2 _ _ _ _) (eN (yes rfl))
 | succ d ih =>
  intro k hk no yes
  simp only [dup] at no yes
  refine Ev.step (fun n => spec_l2Affixes.l1.eq_2 _ _ _ _) (eP (eP (eP (eP (eP ?_)))))
  rw [w6 (n := (k : Int) + 1)]
  cases e : eqA (rd_T82 l (k : Int)) (rd_T82 l (i : Int)) with
  | true =>
   rw [e] at no
   exact evPos e (evTo (Ev.now _) (no rfl).symm)
  | false =>
   rw [e] at no yes
   simp only [Bool.false_or] at no yes
   exact evNeg (fun h => by have h' : eqA (rd_T82 l (k : Int)) (rd_T82 l (i : Int)) = true := h; rw [e] at h'; cases h') (ih (k + 1) (by omega) no yes)
theorem affs_spec_loop (l : List Af) (hl : l.length ≤ 1048576) (hs : AfSz l) (d : Nat) : ∀ i : Nat, i + d = l.length → Ev (fun n => spec_l2Affixes.l0 n l (i : Int)) (affGo l d i && decide (l.length ≤ 8)) := by
 induction d with
 | zero =>
  intro i hi
  refine Ev.step (fun n => spec_l2Affixes.l0.eq_2 _ _ _) (eN (evTo (Ev.now _) ?_))
  simp only [affGo, Bool.true_and]
  exact decide_eq_decide.2 (by omega)
 | succ d ih =>
  intro i hi
  have h := af_at hs i (by omega)
  refine Ev.step (fun n => spec_l2Affixes.l0.eq_2 _ _ _) (eP (eP (Ev.bind (affixOk_spec _ _ _ _ _ (by omega) (by omega) (by omega)) ?_)))
  simp only [affGo]
  cases e : affOk (rd_T82 l (i : Int)).f0 (rd_T82 l (i : Int)).f1 (rd_T82 l (i : Int)).f2 (rd_T82 l (i : Int)).f3 (rd_T82 l (i : Int)).f4 with
  | false => exact evNeg (by simp) (evTo (Ev.now _) (by simp))
  | true =>
   refine evPos rfl (dup_spec_loop l hl i (by omega) i 0 (by omega) (fun hd => ?_) (fun hd => ?_))
   ·have hd' : dup l (i : Int) (i : Int).toNat 0 = true := hd
    rw [hd']
    simp
   ·have hd' : dup l (i : Int) (i : Int).toNat 0 = false := hd
    rw [hd', w6 (n := (i : Int) + 1)]
    exact evTo (ih (i + 1) (by omega)) (by simp)
theorem affs_spec (l : List Af) (hl : l.length ≤ 1048576) (hs : AfSz l) : Ev (fun n => spec_l2Affixes.f n l) (affsB l) := affs_spec_loop l hl hs l.length 0 (by omega)
theorem dup_impl_loop (l q : List Af) (hl : l.length ≤ 1048576) (i : Nat) (hq : q = l.take i) (hi : i < l.length) (d : Nat) : ∀ k : Nat, k + d = i → ∃ v : Int, Ev (fun n => impl_Affix_99.l0 n q (q.length : Int) (k : Int) (rd_T82 l (i : Int)).f0 (rd_T82 l (i : Int)).f1 (rd_T82 l (i : Int)).f2 (rd_T82 l (i : Int)).f3 (rd_T82 l (i : Int)).f4) v ∧ decide (v ≥ 0) = dup l i d k := by
 have hql : q.length = i := by rw [hq, List.length_take]; omega
 induction d with
 | zero =>
  intro k hk
  exact ⟨-1, Ev.step (fun n => impl_Affix_99.l0.eq_2 _ _ _ _ _ _ _ _ _) (eN (Ev.now _)), rfl⟩
 | succ d ih =>
  intro k hk
  have hat : rd_T82 q (k : Int) = rd_T82 l (k : Int) := by
   simp only [rd_T82, List.getD_eq_getElem?_getD, Int.toNat_natCast]
   rw [hq, List.getElem?_take_of_lt (by omega)]
  simp only [dup]
  cases e : eqA (rd_T82 l (k : Int)) (rd_T82 l (i : Int)) with
  | true =>
   have e' : eqA (rd_T82 l (i : Int)) (rd_T82 l (k : Int)) = true := by rw [eqA_comm]; exact e
   refine ⟨k, Ev.step (fun n => impl_Affix_99.l0.eq_2 _ _ _ _ _ _ _ _ _) (eP (eP (eP ?_))), by simp⟩
   rw [hat]
   exact evPos e' (Ev.now _)
  | false =>
   have e' : eqA (rd_T82 l (i : Int)) (rd_T82 l (k : Int)) = false := by rw [eqA_comm]; exact e
   obtain ⟨v, h1, h2⟩ := ih (k + 1) (by omega)
   refine ⟨v, Ev.step (fun n => impl_Affix_99.l0.eq_2 _ _ _ _ _ _ _ _ _) (eP (eP (eP ?_))), by rw [Bool.false_or]; exact h2⟩
   rw [hat, w6 (n := (k : Int) + 1)]
   exact evNeg (fun h => by have h' : eqA (rd_T82 l (i : Int)) (rd_T82 l (k : Int)) = true := h; rw [e'] at h'; cases h') h1
theorem affs_impl_loop (l : List Af) (hl : l.length ≤ 1048576) (hs : AfSz l) (d : Nat) : ∀ i : Nat, i + d = l.length → Ev (fun n => impl_affixesOk.l0 n l l (l.length : Int) (i : Int)) (affGo l d i && decide (l.length ≤ 8)) := by
 induction d with
 | zero =>
  intro i hi
  refine Ev.step (fun n => impl_affixesOk.l0.eq_2 _ _ _ _ _) (eN (evTo (Ev.now _) ?_))
  simp only [affGo, Bool.true_and]
  exact decide_eq_decide.2 (by omega)
 | succ d ih =>
  intro i hi
  have h := af_at hs i (by omega)
  refine Ev.step (fun n => impl_affixesOk.l0.eq_2 _ _ _ _ _) (eP (eP (eP (Ev.bind (affixOk_impl _ _ _ _ _ (by omega) (by omega) (by omega)) ?_))))
  simp only [affGo]
  cases e : affOk (rd_T82 l (i : Int)).f0 (rd_T82 l (i : Int)).f1 (rd_T82 l (i : Int)).f2 (rd_T82 l (i : Int)).f3 (rd_T82 l (i : Int)).f4 with
  | false => exact evNeg (by simp) (evTo (Ev.now _) (by simp))
  | true =>
   obtain ⟨v, h1, h2⟩ := dup_impl_loop l (l.take i) hl i rfl (by omega) i 0 (by omega)
   have hd : Ev (fun n => impl_Affix_75.f n (l.take (i : Int).toNat) (rd_T82 l (i : Int)).f0 (rd_T82 l (i : Int)).f1 (rd_T82 l (i : Int)).f2 (rd_T82 l (i : Int)).f3 (rd_T82 l (i : Int)).f4) (dup l (i : Int) (i : Int).toNat 0) := Ev.bind h1 (evTo (Ev.now _) h2)
   refine evPos rfl (eP (Ev.bind hd ?_))
   rw [w6 (n := (i : Int) + 1)]
   cases dup l (i : Int) (i : Int).toNat 0 with
   | true => exact evPos rfl (evTo (Ev.now _) (by simp))
   | false => exact evNeg (by simp) (evTo (ih (i + 1) (by omega)) (by simp))
theorem affs_impl (l : List Af) (hl : l.length ≤ 1048576) (hs : AfSz l) : Ev (fun n => impl_affixesOk.f n l) (affsB l) := affs_impl_loop l hl hs l.length 0 (by omega)
theorem l2Do_spec (g : ByteArray) (fr : Bool) (st ad wh stem : ByteArray) (h1 : st.size ≤ wh.size) (h2 : ad.size ≤ 140737488351232) (h3 : stem.size ≤ 140737488351232) :
  Ev (fun k => spec_l2Do.f k g fr st ad wh stem) (outW (doB fr st ad wh stem)) := by
 unfold spec_l2Do.f
 cases fr with
 | true =>
  refine evPos rfl (evCall (begins_spec _ _) ?_)
  by_cases c : begB stem wh = true
  ·have hs := begB_size c
   have hz : (stem.extract st.size stem.size).size = stem.size - st.size := size_extract _ _ _ (by omega) (Nat.le_refl _)
   refine evPos c (eP (eP ?_))
   try rw [Int.toNat_natCast]
   refine eP (Ev.bind (l1Word_spec' _ (by rw [size_append]; omega)) (evTo (Ev.now _) ?_))
   simp [doB, c, outW]
  ·exact evNeg c (evTo (Ev.now _) (by simp [doB, c, outW]))
 | false =>
  refine evNeg (by simp) (evCall (ends_spec _ _ (by omega)) ?_)
  by_cases c : endB stem wh = true
  ·have hs := endB_size c
   have hz : (stem.extract 0 (stem.size - st.size)).size = stem.size - st.size := by
    rw [size_extract _ _ _ (by omega) (by omega)]
    omega
   refine evPos c ?_
   rw [w6, show ((stem.size : Int) - (st.size : Int)).toNat = stem.size - st.size from by omega]
   refine eP (eP (eP (Ev.bind (l1Word_spec' _ (by rw [size_append]; omega)) (evTo (Ev.now _) ?_))))
   simp [doB, c, outW]
  ·exact evNeg c (evTo (Ev.now _) (by simp [doB, c, outW]))
theorem rdOf_get (l : List ByteArray) (i : Int) (_ : 0 ≤ i) (h : i.toNat < l.length) : rdOf ByteArray.empty l i = l[i.toNat] := by
 simp [rdOf, List.getD_eq_getElem?_getD, List.getElem?_eq_getElem h]
theorem put_end (l : List ByteArray) (s : ByteArray) (i : Int) (h0 : 0 ≤ i) (h1 : i ≤ l.length) (hl : l.length ≤ 1000000) : Ev (fun k => spec_l1Put.j2 k l s i false) (l.take i.toNat ++ s :: l.drop i.toNat) := by
 refine Ev.step (fun k => spec_l1Put.j2.eq_2 _ _ _ _ _) (evNeg (by simp) (evCall rfl (evPos h0 (evPos h1 (evCall rfl (evPos ?_ (evCall rfl (evCall rfl (evPos ?_ (evCall rfl (evCall rfl (evPos ?_ (evTo (Ev.now _) ?_)))))))))))))
 ·simp only [List.length_nil, List.length_take]
  omega
 ·simp only [List.nil_append, List.length_take, List.length_cons, List.length_nil]
  omega
 ·simp only [List.nil_append, List.length_append, List.length_take, List.length_cons, List.length_nil, List.length_drop]
  omega
 ·simp
theorem put_loop (l : List ByteArray) (s : ByteArray) (hl : l.length ≤ 1000000) (d : Nat) : ∀ i : Int, 0 ≤ i → i ≤ l.length → (l.length : Int) - i = d →
  Ev (fun k => spec_l1Put.l0 k l s i) (l.take i.toNat ++ putL (l.drop i.toNat) s) := by
 induction d with
 | zero =>
  intro i h0 h1 hd
  have e := put_end l s i h0 h1 hl
  rw [List.drop_eq_nil_of_le (by omega)] at e ⊢
  exact Ev.step (fun k => spec_l1Put.l0.eq_2 _ _ _ _) (eN (Ev.step (fun k => spec_l1Put.j1.eq_2 _ _ _ _ _) (evNeg (by simp) (evNeg (by omega) e))))
 | succ d ih =>
  intro i h0 h1 hd
  have hi : i.toNat < l.length := by omega
  have e := put_end l s i h0 h1 hl
  have ihe := ih (i + 1) (by omega) (by omega) (by omega)
  rw [List.drop_eq_getElem_cons hi] at e ⊢
  rw [show (i + 1).toNat = i.toNat + 1 from by omega, List.take_succ_eq_append_getElem hi] at ihe
  refine Ev.step (fun k => spec_l1Put.l0.eq_2 _ _ _ _) (eP (evPos h0 (Ev.step (fun k => spec_l1Put.j1.eq_2 _ _ _ _ _) ?_)))
  rw [rdOf_get l i h0 hi]
  generalize hx : l[i.toNat] = x at *
  by_cases c : Op.bytesLess x.toList s.toList = true
  ·refine evPos c ?_
   rw [w6]
   refine evTo ihe ?_
   simp [putL, ltS, c]
  ·refine evNeg c (eP (evPos h0 ?_))
   by_cases c2 : x = s
   ·refine Ev.step (fun k => spec_l1Put.j2.eq_2 _ _ _ _ _) (evPos (by simp [c2]) (evTo (Ev.now _) ?_))
    subst c2
    rw [show putL (x :: l.drop (i.toNat + 1)) x = x :: l.drop (i.toNat + 1) from by simp [putL, ltS_irrefl]]
    have : x :: l.drop (i.toNat + 1) = l.drop i.toNat := by rw [List.drop_eq_getElem_cons hi, hx]
    rw [this, List.take_append_drop]
   ·rw [show (x.toList == s.toList) = false from by rw [toList_beq]; simp [c2]]
    refine evTo e ?_
    simp [putL, ltS, c, c2]
theorem put_ev (l : List ByteArray) (s : ByteArray) (hl : l.length ≤ 1000000) : Ev (fun k => spec_l1Put.f k l s) (putL l s) :=
 evTo (put_loop l s hl l.length 0 (by omega) (by omega) (by omega)) (by simp)
def hasFl (f g : ByteArray) : Bool := (bytesOf f).contains (bt g 0)
theorem bytes_one {g : ByteArray} (h : g.size = 1) : bytesOf g = [bt g 0] := by
 have h1 := bytes_drop g 0 (by omega) (by omega)
 have h2 : ((bytesOf g).drop ((0 : Int) + 1).toNat) = [] := List.drop_eq_nil_of_le (by rw [bytesOf_length]; omega)
 rw [h2] at h1
 simpa using h1
theorem bytes_at {f : ByteArray} (i : Nat) (h : i < f.size) : bytesOf (f.extract i (i + 1)) = [bt f i] := by
 have h1 := bytes_drop f i (by omega) (by omega)
 rw [Int.toNat_natCast] at h1
 rw [bytes_extract, h1]
 simp
theorem has_loop (f g : ByteArray) (hf : f.size ≤ 1048576) (hg : g.size = 1) (d : Nat) : ∀ i : Nat, i + d = f.size → Ev (fun k => spec_l2Has.l0 k f g (i : Int)) (((bytesOf f).drop i).contains (bt g 0)) := by
 induction d with
 | zero =>
  intro i hi
  refine Ev.step (fun k => spec_l2Has.l0.eq_2 _ _ _ _) (eN (evTo (Ev.now _) ?_))
  rw [List.drop_eq_nil_of_le (by rw [bytesOf_length]; omega)]
  rfl
 | succ d ih =>
  intro i hi
  have e : wrap64 ((i : Int) + 1) = ((i + 1 : Nat) : Int) := w6
  refine Ev.step (fun k => spec_l2Has.l0.eq_2 _ _ _ _) ?_
  rw [e]
  refine eP (eP (eP (eP ?_)))
  rw [Int.toNat_natCast, Int.toNat_natCast]
  have h1 := bytes_drop f i (by omega) (by omega)
  rw [Int.toNat_natCast, show ((i : Int) + 1).toNat = i + 1 from by omega] at h1
  rw [h1, List.contains_cons]
  by_cases c : bt f i = bt g 0
  ·refine evPos ((toList_iff _ _).2 (bytes_inj (by rw [bytes_at i (by omega), bytes_one hg, c]))) (evTo (Ev.now _) ?_)
   simp [c]
  ·refine evNeg (fun h => c ?_) (evTo (ih (i + 1) (by omega)) ?_)
   ·have := congrArg bytesOf ((toList_iff _ _).1 h)
    rw [bytes_at i (by omega), bytes_one hg] at this
    simpa using this
   ·have : (bt g 0 == bt f i) = false := by simpa using fun h => c h.symm
    rw [this, Bool.false_or]
theorem has_ev (f g : ByteArray) (hf : f.size ≤ 1048576) (hg : g.size = 1) : Ev (fun k => spec_l2Has.f k f g) (hasFl f g) := by
 have := has_loop f g hf hg f.size 0 (by omega)
 rw [List.drop_zero] at this
 exact this
abbrev AfOk (a : Af) : Prop := affOk a.f0 a.f1 a.f2 a.f3 a.f4 = true
theorem affGo_all (A : List Af) (d : Nat) : ∀ i : Nat, i + d = A.length → affGo A d (i : Int) = true → ∀ a ∈ A.drop i, AfOk a := by
 induction d with
 | zero =>
  intro i hi _ a ha
  rw [List.drop_eq_nil_of_le (by omega)] at ha
  cases ha
 | succ d ih =>
  intro i hi h a ha
  have hlt : i < A.length := by omega
  simp only [affGo, Bool.and_eq_true] at h
  have e : rd_T82 A (i : Int) = A[i] := by simp [rd_T82, List.getD_eq_getElem?_getD, hlt]
  rw [e] at h
  rw [List.drop_eq_getElem_cons hlt] at ha
  rcases List.mem_cons.1 ha with rfl | ha
  ·exact h.1.1
  ·exact ih (i + 1) (by omega) h.2 a ha
theorem affs_all {A : List Af} (h : affsB A = true) : (∀ a ∈ A, AfOk a) ∧ A.length ≤ 8 := by
 simp only [affsB, Bool.and_eq_true, decide_eq_true_eq] at h
 exact ⟨fun a ha => affGo_all A A.length 0 (by omega) h.1 a (by simpa using ha), h.2⟩
theorem ent_word {w f : ByteArray} (h : entB w f = true) : wordB w = true ∧ f.size ≤ 4 := by
 simp only [entB, Bool.and_eq_true, decide_eq_true_eq] at h
 exact h.2
def doA (a : Af) (s : ByteArray) : Option ByteArray := (doB a.f1 a.f2 a.f3 a.f4 s).filter wordB
theorem doA_word {a : Af} {s x : ByteArray} (h : doA a s = some x) : wordB x = true := by
 unfold doA at h
 rw [Option.filter_eq_some_iff] at h
 exact h.2
def selA (a : Af) (fl : ByteArray) (front : Bool) : Bool := (a.f1 == front) && hasFl fl a.f0
def candA (a : Af) (fl : ByteArray) (front : Bool) (ws : List ByteArray) : List ByteArray := if selA a fl front = true then ws.filterMap (doA a) else []
def oneL (A : List Af) (fl : ByteArray) (front : Bool) (ws out : List ByteArray) : List ByteArray := (A.flatMap (fun a => candA a fl front ws)).foldl putL out
abbrev WsZ (ws : List ByteArray) : Prop := ∀ s ∈ ws, s.size ≤ 1048576
theorem one_words (A : List Af) (fl : ByteArray) (front : Bool) (ws : List ByteArray) (i : Nat) (hi : i < A.length) (hok : AfOk A[i]) (hw : WsZ ws) (hl : ws.length ≤ 1000) {r : List ByteArray} (d : Nat) : ∀ (j : Nat) (out : List ByteArray), j + d = ws.length → out.length + d ≤ 100000 →
  (∀ out', out' = ((ws.drop j).filterMap (doA A[i])).foldl putL out → Ev (fun k => spec_l2One.l0 k A fl front ws out' (wrap64 ((i : Int) + 1))) r) → Ev (fun k => spec_l2One.l1 k A fl front ws out (i : Int) (j : Int)) r := by
 have hp := affOk_parts hok
 have e : rd_T82 A (i : Int) = A[i] := by simp [rd_T82, List.getD_eq_getElem?_getD, hi]
 induction d with
 | zero =>
  intro j out hj ho next
  refine Ev.step (fun k => spec_l2One.l1.eq_2 _ _ _ _ _ _ _ _) (eN (next _ ?_))
  rw [List.drop_eq_nil_of_le (by omega)]
  rfl
 | succ d ih =>
  intro j out hj ho next
  have hs := ba_at (P := fun s => s.size ≤ 1048576) hw j (by omega)
  have hlt : j < ws.length := by omega
  have hA : A.length ≤ A.length := Nat.le_refl _
  have s1 := partB_size hp.2.1
  have s2 := partB_size hp.2.2.1
  refine Ev.step (fun k => spec_l2One.l1.eq_2 _ _ _ _ _ _ _ _) (eP (eP (eP (eP ?_))))
  rw [e, w6 (n := (j : Int) + 1)]
  refine Ev.bind (l2Do_spec _ _ _ _ _ _ (strip_size hok) (by omega) (by omega)) ?_
  rw [List.drop_eq_getElem_cons hlt] at next
  rw [ba_get ws j hlt]
  cases h : doB A[i].f1 A[i].f2 A[i].f3 A[i].f4 ws[j] with
  | none =>
   have h2 : doA A[i] ws[j] = none := by unfold doA; rw [h]; rfl
   rw [List.filterMap_cons_none h2] at next
   exact evNeg (by simp [outW]) (ih (j + 1) out (by omega) (by omega) next)
  | some x =>
   by_cases c : wordB x = true
   ·have h2 : doA A[i] ws[j] = some x := by unfold doA; rw [h, Option.filter_some, if_pos c]
    rw [List.filterMap_cons_some h2, List.foldl_cons] at next
    have hl := (putL_length out x).2
    exact evPos (by simpa [outW] using c) (Ev.bind (put_ev out x (by omega)) (ih (j + 1) _ (by omega) (by omega) next))
   ·have h2 : doA A[i] ws[j] = none := by unfold doA; rw [h, Option.filter_some, if_neg c]
    rw [List.filterMap_cons_none h2] at next
    exact evNeg (by simpa [outW] using c) (ih (j + 1) out (by omega) (by omega) next)
set_option maxRecDepth 20000 in
theorem one_loop (A : List Af) (fl : ByteArray) (front : Bool) (ws : List ByteArray) (hok : ∀ a ∈ A, AfOk a) (hA : A.length ≤ 8) (hf : fl.size ≤ 1048576) (hw : WsZ ws) (hl : ws.length ≤ 1000) (d : Nat) : ∀ (i : Nat) (out : List ByteArray), i + d = A.length → out.length + d * 1000 ≤ 90000 →
  Ev (fun k => spec_l2One.l0 k A fl front ws out (i : Int)) (oneL (A.drop i) fl front ws out) := by
 induction d with
 | zero =>
  intro i out hi ho
  refine Ev.step (fun k => spec_l2One.l0.eq_2 _ _ _ _ _ _ _) (eN (evTo (Ev.now _) ?_))
  rw [List.drop_eq_nil_of_le (by omega)]
  rfl
 | succ d ih =>
  intro i out hi ho
  have hlt : i < A.length := by omega
  have e : rd_T82 A (i : Int) = A[i] := by simp [rd_T82, List.getD_eq_getElem?_getD, hlt]
  have ho' := hok _ (List.getElem_mem hlt)
  have hg : A[i].f0.size = 1 := by
   have := (affOk_parts ho').1
   simp only [flagB, Bool.and_eq_true, decide_eq_true_eq] at this
   exact this.1
  have ew : wrap64 ((i : Int) + 1) = ((i + 1 : Nat) : Int) := w6
  have split : oneL (A.drop i) fl front ws out = oneL (A.drop (i + 1)) fl front ws ((candA A[i] fl front ws).foldl putL out) := by
   unfold oneL
   rw [List.drop_eq_getElem_cons hlt, List.flatMap_cons, List.foldl_append]
  rw [split]
  refine Ev.step (fun k => spec_l2One.l0.eq_2 _ _ _ _ _ _ _) (eP (eP ?_))
  rw [e]
  have skip : selA A[i] fl front = false → Ev (fun k => spec_l2One.j1 k A fl front ws out (i : Int) true) (oneL (A.drop (i + 1)) fl front ws ((candA A[i] fl front ws).foldl putL out)) := by
   intro hs
   refine Ev.step (fun k => spec_l2One.j1.eq_2 _ _ _ _ _ _ _ _) (evPos rfl ?_)
   have hc : candA A[i] fl front ws = [] := by unfold candA; rw [if_neg (by simp [hs])]
   rw [ew, hc]
   exact ih (i + 1) out (by omega) (by omega)
  by_cases c : (A[i].f1 != front) = true
  ·refine evPos c (skip ?_)
   have : (A[i].f1 == front) = false := by simpa [bne] using c
   unfold selA
   rw [this]
   rfl
  ·have c1 : (A[i].f1 == front) = true := by simpa [bne] using c
   refine evNeg c (Ev.bind (has_ev fl _ hf hg) ?_)
   cases h : hasFl fl A[i].f0 with
   | false => exact skip (by unfold selA; rw [h, Bool.and_false])
   | true =>
    refine Ev.step (fun k => spec_l2One.j1.eq_2 _ _ _ _ _ _ _ _) (evNeg (by simp) (one_words A fl front ws i hlt ho' hw hl ws.length 0 out (by omega) (by omega) (fun out' he => ?_)))
    have hc : candA A[i] fl front ws = ws.filterMap (doA A[i]) := by unfold candA selA; rw [c1, h]; rfl
    rw [List.drop_zero] at he
    rw [ew, hc, ← he]
    refine ih (i + 1) out' (by omega) ?_
    have h1 := foldPut_length (ws.filterMap (doA A[i])) out
    have h2 := List.length_filterMap_le (doA A[i]) ws
    rw [he]
    omega
theorem l2One_ev (A : List Af) (fl : ByteArray) (front : Bool) (ws : List ByteArray) (hok : ∀ a ∈ A, AfOk a) (hA : A.length ≤ 8) (hf : fl.size ≤ 1048576) (hw : WsZ ws) (hl : ws.length ≤ 1000) : Ev (fun k => spec_l2One.f k A fl front ws) (oneL A fl front ws ws) := by
 unfold spec_l2One.f
 refine evCall rfl (evPos (by simp; omega) ?_)
 have := one_loop A fl front ws hok hA hf hw hl A.length 0 ws (by omega) (by omega)
 simpa using this
theorem cand_length (A : List Af) (fl : ByteArray) (front : Bool) (ws : List ByteArray) : (A.flatMap (fun a => candA a fl front ws)).length ≤ A.length * ws.length := by
 induction A with
 | nil => simp
 | cons a A ih =>
  rw [List.flatMap_cons, List.length_append, List.length_cons, Nat.add_mul]
  have : (candA a fl front ws).length ≤ ws.length := by
   unfold candA
   split
   ·exact List.length_filterMap_le _ _
   ·simp
  omega
theorem oneL_length (A : List Af) (fl : ByteArray) (front : Bool) (ws out : List ByteArray) : (oneL A fl front ws out).length ≤ out.length + A.length * ws.length := by
 have h1 := foldPut_length (A.flatMap (fun a => candA a fl front ws)) out
 have h2 := cand_length A fl front ws
 unfold oneL
 omega
theorem oneL_mem (A : List Af) (fl : ByteArray) (front : Bool) (ws out : List ByteArray) (x : ByteArray) : x ∈ oneL A fl front ws out ↔ x ∈ out ∨ ∃ a ∈ A, selA a fl front = true ∧ ∃ s ∈ ws, doA a s = some x := by
 unfold oneL
 rw [foldPut_mem, List.mem_flatMap]
 refine or_congr Iff.rfl ⟨fun ⟨a, ha, h⟩ => ?_, fun ⟨a, ha, hs, s, hw, h⟩ => ⟨a, ha, ?_⟩⟩
 ·unfold candA at h
  split at h
  ·rename_i hs
   obtain ⟨s, hw, he⟩ := List.mem_filterMap.1 h
   exact ⟨a, ha, hs, s, hw, he⟩
  ·cases h
 ·unfold candA
  rw [if_pos hs]
  exact List.mem_filterMap.2 ⟨s, hw, h⟩
theorem oneL_asc (A : List Af) (fl : ByteArray) (front : Bool) (ws : List ByteArray) {out : List ByteArray} (h : Asc out) : Asc (oneL A fl front ws out) := foldPut_asc _ h
theorem oneL_size {A : List Af} {fl : ByteArray} {front : Bool} {ws out : List ByteArray} (h : WsZ out) : WsZ (oneL A fl front ws out) := by
 intro s hs
 rcases (oneL_mem A fl front ws out s).1 hs with hs | ⟨a, _, _, t, _, he⟩
 ·exact h s hs
 ·have := wordB_size (doA_word he)
  omega
def formsL (A : List Af) (w fl : ByteArray) : List ByteArray := oneL A fl true (oneL A fl false [w] [w]) (oneL A fl false [w] [w])
theorem formsL_asc (A : List Af) (w fl : ByteArray) : Asc (formsL A w fl) := oneL_asc _ _ _ _ (oneL_asc _ _ _ _ (by simp [Asc]))
theorem formsL_length {A : List Af} (hA : A.length ≤ 8) (w fl : ByteArray) : (formsL A w fl).length ≤ 81 := by
 have h1 := oneL_length A fl false [w] [w]
 have h2 := oneL_length A fl true (oneL A fl false [w] [w]) (oneL A fl false [w] [w])
 unfold formsL
 simp only [List.length_cons, List.length_nil] at h1
 have h3 : (oneL A fl false [w] [w]).length ≤ 9 := by omega
 have h4 : A.length * (oneL A fl false [w] [w]).length ≤ 8 * 9 := Nat.mul_le_mul hA h3
 omega
theorem l2Forms_ev (A : List Af) (w fl : ByteArray) (hok : ∀ a ∈ A, AfOk a) (hA : A.length ≤ 8) (hf : fl.size ≤ 1048576) (hw : w.size ≤ 1048576) : Ev (fun k => spec_l2Forms.f k A w fl) (formsL A w fl) := by
 have z1 : WsZ [w] := fun s hs => by simpa using (List.mem_singleton.1 hs ▸ hw : s.size ≤ 1048576)
 have h1 := oneL_length A fl false [w] [w]
 simp only [List.length_cons, List.length_nil] at h1
 unfold spec_l2Forms.f
 exact Ev.bind (l2One_ev A fl false [w] hok hA hf z1 (by simp)) (Ev.bind (l2One_ev A fl true _ hok hA hf (oneL_size z1) (by omega)) (Ev.now _))
def formsB (A : List Af) (w fl : ByteArray) : List ByteArray := if affsB A = true ∧ entB w fl = true then formsL A w fl else []
theorem entGo_all (E : List En) (d : Nat) : ∀ i : Nat, i + d = E.length → entGo E d (i : Int) = true → ∀ e ∈ E.drop i, entB e.f0 e.f1 = true := by
 induction d with
 | zero =>
  intro i hi _ a ha
  rw [List.drop_eq_nil_of_le (by omega)] at ha
  cases ha
 | succ d ih =>
  intro i hi h a ha
  have hlt : i < E.length := by omega
  simp only [entGo, Bool.and_eq_true] at h
  have e : rd_T78 E (i : Int) = E[i] := by simp [rd_T78, List.getD_eq_getElem?_getD, hlt]
  rw [e] at h
  rw [List.drop_eq_getElem_cons hlt] at ha
  rcases List.mem_cons.1 ha with rfl | ha
  ·exact h.1.1
  ·exact ih (i + 1) (by omega) h.2 a ha
theorem ents_all {E : List En} (h : entsB E = true) : (∀ e ∈ E, entB e.f0 e.f1 = true) ∧ E.length ≤ 24 := by
 simp only [entsB, Bool.and_eq_true, decide_eq_true_eq] at h
 exact ⟨fun a ha => entGo_all E E.length 0 (by omega) h.1 a (by simpa using ha), h.2⟩
def allF (A : List Af) (E : List En) : List ByteArray := E.flatMap (fun e => formsL A e.f0 e.f1)
def wordsL (A : List Af) (E : List En) (out : List ByteArray) : List ByteArray := (allF A E).foldl putL out
theorem allF_length {A : List Af} (hA : A.length ≤ 8) (E : List En) : (allF A E).length ≤ E.length * 81 := by
 unfold allF
 induction E with
 | nil => simp
 | cons e E ih =>
  rw [List.flatMap_cons, List.length_append, List.length_cons, Nat.add_mul]
  have := formsL_length hA e.f0 e.f1
  omega
theorem wordsL_mem (A : List Af) (E : List En) (x : ByteArray) : x ∈ wordsL A E [] ↔ ∃ e ∈ E, x ∈ formsL A e.f0 e.f1 := by
 unfold wordsL allF
 rw [foldPut_mem, List.mem_flatMap]
 simp
theorem wordsL_length {A : List Af} (hA : A.length ≤ 8) (E : List En) : (wordsL A E []).length ≤ E.length * 81 := by
 have h1 := foldPut_length (allF A E) []
 have h2 := allF_length hA E
 unfold wordsL
 simp only [List.length_nil] at h1
 omega
def inB (l : List ByteArray) (s : ByteArray) : Bool := l.any (fun y => y.toList == s.toList)
theorem idx_loop (l : List ByteArray) (s : ByteArray) (hl : l.length ≤ 10000000) (d : Nat) : ∀ i : Nat, i + d = l.length → ∃ m, Ev (fun k => slices_Index_string_string.l0 k l s (l.length : Int) (i : Int)) m ∧ decide (m ≥ 0) = inB (l.drop i) s := by
 induction d with
 | zero =>
  intro i hi
  refine ⟨-1, Ev.step (fun k => slices_Index_string_string.l0.eq_2 ..) (eN (Ev.now _)), ?_⟩
  rw [List.drop_eq_nil_of_le (by omega)]
  rfl
 | succ d ih =>
  intro i hi
  have hlt : i < l.length := by omega
  obtain ⟨m, hm, h2⟩ := ih (i + 1) (by omega)
  have he : inB (l.drop i) s = (l[i].toList == s.toList || inB (l.drop (i + 1)) s) := by
   unfold inB
   rw [List.drop_eq_getElem_cons hlt, List.any_cons]
  have hw : wrap64 ((i : Int) + 1) = ((i + 1 : Nat) : Int) := w6
  by_cases c : l[i].toList = s.toList
  ·refine ⟨(i : Int), Ev.step (fun k => slices_Index_string_string.l0.eq_2 ..) (eP (eP (eP ?_))), ?_⟩
   ·rw [ba_get l i hlt]
    exact evPos c.symm (Ev.now _)
   ·rw [he, c]
    simp
  ·refine ⟨m, Ev.step (fun k => slices_Index_string_string.l0.eq_2 ..) (eP (eP (eP ?_))), ?_⟩
   ·rw [ba_get l i hlt, hw]
    exact evNeg (fun h => c h.symm) hm
   ·have cb : (l[i].toList == s.toList) = false := by simpa using c
    rw [he, cb, Bool.false_or, h2]
theorem contains_ev (l : List ByteArray) (s : ByteArray) (hl : l.length ≤ 10000000) : Ev (fun k => slices_Contains_string_string.f k l s) (inB l s) := by
 obtain ⟨m, hm, h2⟩ := idx_loop l s hl l.length 0 (by omega)
 rw [List.drop_zero] at h2
 unfold slices_Contains_string_string.f
 exact Ev.bind hm (evTo (Ev.now _) h2)
theorem in_loop (l : List ByteArray) (s : ByteArray) (hl : l.length ≤ 10000000) (d : Nat) : ∀ i : Nat, i + d = l.length → Ev (fun k => spec_l2In.l0 k l s (i : Int)) (inB (l.drop i) s) := by
 induction d with
 | zero =>
  intro i hi
  refine Ev.step (fun k => spec_l2In.l0.eq_2 ..) (eN (evTo (Ev.now _) ?_))
  rw [List.drop_eq_nil_of_le (by omega)]
  rfl
 | succ d ih =>
  intro i hi
  have hlt : i < l.length := by omega
  refine Ev.step (fun k => spec_l2In.l0.eq_2 ..) (eP (eP ?_))
  have he : inB (l.drop i) s = (l[i].toList == s.toList || inB (l.drop (i + 1)) s) := by
   unfold inB
   rw [List.drop_eq_getElem_cons hlt, List.any_cons]
  rw [ba_get l i hlt, w6 (n := (i : Int) + 1), he]
  by_cases c : l[i].toList = s.toList
  ·exact evPos c (evTo (Ev.now _) (by simp [c]))
  ·have cb : (l[i].toList == s.toList) = false := by simpa using c
   rw [cb, Bool.false_or]
   exact evNeg c (ih (i + 1) (by omega))
theorem l2In_ev (l : List ByteArray) (s : ByteArray) (hl : l.length ≤ 10000000) : Ev (fun k => spec_l2In.f k l s) (inB l s) := in_loop l s hl l.length 0 (by omega)
structure BkSz (A : List Af) (E : List En) : Prop where
 la : A.length ≤ 1048576
 le : E.length ≤ 1048576
 a : ∀ s ∈ A, (s.f0.size ≤ 1048576 ∧ s.f2.size ≤ 1048576 ∧ s.f3.size ≤ 1048576 ∧ s.f4.size ≤ 1048576)
 e : ∀ s ∈ E, (s.f0.size ≤ 1048576 ∧ s.f1.size ≤ 1048576)
def bookB (A : List Af) (E : List En) : Bool := affsB A && entsB E
theorem bookOk_spec (A : List Af) (E : List En) (h : BkSz A E) : Ev (fun n => spec_BookOk.f n A E) (bookB A E) := by
 refine ents_spec_loop A E h.le h.e (fun hf => by simp [bookB, entsB, hf]) E.length 0 (by omega) (fun hf => ?_) (fun ht => ?_)
 ·have hf' : entGo E E.length 0 = false := hf
  simp [bookB, entsB, hf']
 ·have ht' : entGo E E.length 0 = true := ht
  refine Ev.bind (affs_spec A h.la h.a) ?_
  simp only [bookB, entsB, ht', Bool.true_and]
  cases affsB A with
  | false => exact evNeg (by simp) (evTo (Ev.now _) (by simp))
  | true => exact evPos rfl (evTo (Ev.now _) (by rw [Bool.true_and]; exact decide_eq_decide.2 (by omega)))
theorem bookOk_impl (A : List Af) (E : List En) (h : BkSz A E) : Ev (fun n => impl_BookOk.f n A E) (bookB A E) := by
 unfold impl_BookOk.f
 refine Ev.bind (affs_impl A h.la h.a) ?_
 simp only [bookB]
 cases affsB A with
 | false => exact evNeg (by simp) (evTo (Ev.now _) (by simp))
 | true => exact evPos rfl (Ev.bind (ents_impl_loop E h.le h.e E.length 0 (by omega)) (evTo (Ev.now _) (by rw [Bool.true_and]; rfl)))
theorem words_inner (A : List Af) (E : List En) (i : Nat) (fs : List ByteArray) (hl : fs.length ≤ 1000) {r : List ByteArray} (d : Nat) : ∀ (j : Nat) (out : List ByteArray), j + d = fs.length → out.length + d ≤ 100000 →
  (∀ out', out' = (fs.drop j).foldl putL out → Ev (fun k => spec_l2Words.l0 k out' (wrap64 ((i : Int) + 1)) A E) r) → Ev (fun k => spec_l2Words.l1 k out (i : Int) fs (j : Int) A E) r := by
 induction d with
 | zero =>
  intro j out hj ho next
  refine Ev.step (fun k => spec_l2Words.l1.eq_2 ..) (eN (next _ ?_))
  rw [List.drop_eq_nil_of_le (by omega)]
  rfl
 | succ d ih =>
  intro j out hj ho next
  have hlt : j < fs.length := by omega
  rw [List.drop_eq_getElem_cons hlt, List.foldl_cons] at next
  have hp := (putL_length out fs[j]).2
  refine Ev.step (fun k => spec_l2Words.l1.eq_2 ..) (eP (eP ?_))
  rw [ba_get fs j hlt, w6 (n := (j : Int) + 1)]
  exact Ev.bind (put_ev out fs[j] (by omega)) (ih (j + 1) _ (by omega) (by omega) next)
theorem words_loop (A : List Af) (E : List En) (hok : ∀ a ∈ A, AfOk a) (hA : A.length ≤ 8) (he : ∀ s ∈ E, (s.f0.size ≤ 1048576 ∧ s.f1.size ≤ 1048576)) (hE : E.length ≤ 24) (d : Nat) : ∀ (i : Nat) (out : List ByteArray), i + d = E.length → out.length + d * 100 ≤ 90000 →
  Ev (fun k => spec_l2Words.l0 k out (i : Int) A E) (wordsL A (E.drop i) out) := by
 induction d with
 | zero =>
  intro i out hi ho
  refine Ev.step (fun k => spec_l2Words.l0.eq_2 ..) (eN (evTo (Ev.now _) ?_))
  rw [List.drop_eq_nil_of_le (by omega)]
  rfl
 | succ d ih =>
  intro i out hi ho
  have hlt : i < E.length := by omega
  have e : rd_T78 E (i : Int) = E[i] := by simp [rd_T78, List.getD_eq_getElem?_getD, hlt]
  have hz := he _ (List.getElem_mem hlt)
  have hn := formsL_length hA E[i].f0 E[i].f1
  have split : wordsL A (E.drop i) out = wordsL A (E.drop (i + 1)) ((formsL A E[i].f0 E[i].f1).foldl putL out) := by
   unfold wordsL allF
   rw [List.drop_eq_getElem_cons hlt, List.flatMap_cons, List.foldl_append]
  rw [split]
  refine Ev.step (fun k => spec_l2Words.l0.eq_2 ..) (eP (eP ?_))
  rw [e]
  refine Ev.bind (l2Forms_ev A _ _ hok hA hz.2 hz.1) (words_inner A E i _ (by omega) (formsL A E[i].f0 E[i].f1).length 0 out (by omega) (by omega) (fun out' h => ?_))
  rw [List.drop_zero] at h
  rw [w6 (n := (i : Int) + 1), ← h]
  have hp := foldPut_length (formsL A E[i].f0 E[i].f1) out
  exact ih (i + 1) out' (by omega) (by rw [h]; omega)
theorem l2Words_ev (A : List Af) (E : List En) (hok : ∀ a ∈ A, AfOk a) (hA : A.length ≤ 8) (he : ∀ s ∈ E, (s.f0.size ≤ 1048576 ∧ s.f1.size ≤ 1048576)) (hE : E.length ≤ 24) : Ev (fun k => spec_l2Words.f k A E) (wordsL A E []) := by
 have := words_loop A E hok hA he hE E.length 0 [] (by omega) (by simp; omega)
 rw [List.drop_zero] at this
 exact this
theorem affixDo_impl (g : ByteArray) (fr : Bool) (st ad wh stem : ByteArray) (h1 : st.size ≤ 140737488351232) (h2 : ad.size ≤ 140737488351232) (h3 : wh.size ≤ 140737488351232) (h4 : stem.size ≤ 281474976710656) :
  Ev (fun k => impl_AffixDo.f k g fr st ad wh stem) (outB (affDo g fr st ad wh stem)) := by
 have no : ∀ r, r = ((⟨#[]⟩ : ByteArray), false) → Ev (fun k => impl_AffixDo.j0 k stem true g fr st ad wh) r := fun r hr => Ev.step (fun k => impl_AffixDo.j0.eq_2 _ _ _ _ _ _ _ _) (evPos rfl (evTo (Ev.now _) hr.symm))
 unfold impl_AffixDo.f
 refine Ev.bind (affixOk_impl g fr st ad wh h1 h2 h3) ?_
 cases e1 : affOk g fr st ad wh with
 | false => exact evNeg (by simp) (no _ (by simp [affDo, e1, outB]))
 | true =>
  refine evPos rfl (Ev.bind (word_impl' stem h4) ?_)
  cases e2 : wordB stem with
  | false => exact no _ (by simp [affDo, e2, outB])
  | true =>
   have h12 := (wordB_size e2).2
   have hst := strip_size e1
   refine Ev.step (fun k => impl_AffixDo.j0.eq_2 _ _ _ _ _ _ _ _) (evNeg (by simp) ?_)
   cases fr with
   | true =>
    refine evPos rfl (evCall (hasPrefix_lib _ _) ?_)
    by_cases c : begB stem wh = true
    ·have hs := begB_size c
     have hz : (stem.extract st.size stem.size).size = stem.size - st.size := size_extract _ _ _ (by omega) (Nat.le_refl _)
     refine evPos c (eP (eP ?_))
     try rw [Int.toNat_natCast]
     refine eP (Ev.bind (word_impl' _ (by rw [size_append]; omega)) ?_)
     cases e3 : wordB (ad ++ stem.extract st.size stem.size) with
     | true => exact evPos rfl (evTo (Ev.now _) (by simp [affDo, e1, e2, doB, c, e3, Option.filter, outB]))
     | false => exact evNeg (by simp) (evTo (Ev.now _) (by simp [affDo, e1, e2, doB, c, e3, Option.filter, outB]))
    ·exact evNeg c (evTo (Ev.now _) (by simp [affDo, e1, e2, doB, c, outB]))
   | false =>
    refine evNeg (by simp) (evCall (hasSuffix_lib _ _ (by omega)) ?_)
    by_cases c : endB stem wh = true
    ·have hs := endB_size c
     have hz : (stem.extract 0 (stem.size - st.size)).size = stem.size - st.size := by
      rw [size_extract _ _ _ (by omega) (by omega)]
      omega
     refine evPos c ?_
     rw [w6, show ((stem.size : Int) - (st.size : Int)).toNat = stem.size - st.size from by omega]
     refine eP (eP (eP (Ev.bind (word_impl' _ (by rw [size_append]; omega)) ?_)))
     cases e3 : wordB (stem.extract 0 (stem.size - st.size) ++ ad) with
     | true => exact evPos rfl (evTo (Ev.now _) (by simp [affDo, e1, e2, doB, c, e3, Option.filter, outB]))
     | false => exact evNeg (by simp) (evTo (Ev.now _) (by simp [affDo, e1, e2, doB, c, e3, Option.filter, outB]))
    ·exact evNeg c (evTo (Ev.now _) (by simp [affDo, e1, e2, doB, c, outB]))
theorem has_lib (f g : ByteArray) (hg : g.size = 1) : strings_Contains.f f g = some (hasFl f g) := by
 unfold strings_Contains.f
 rw [if_pos hg]
 congr 1
 obtain ⟨⟨l⟩⟩ := g
 match l, hg with
 | [c], _ =>
  have hb : bt (⟨⟨[c]⟩⟩ : ByteArray) 0 = (c.toNat : Int) := by
   have := bytes_one (g := (⟨⟨[c]⟩⟩ : ByteArray)) rfl
   simpa [bytesOf] using this.symm
  unfold hasFl
  rw [hb]
  show f.data.toList.contains c = (f.data.toList.map (fun b => (b.toNat : Int))).contains (c.toNat : Int)
  induction f.data.toList with
  | nil => rfl
  | cons b l ih =>
   rw [List.map_cons, List.contains_cons, List.contains_cons, ih]
   congr 1
   rw [Bool.eq_iff_iff, beq_iff_eq, beq_iff_eq]
   constructor
   ·rintro rfl
    rfl
   ·intro h
    exact UInt8.toNat_inj.1 (by exact_mod_cast h)
def gA (fl stem : ByteArray) (front : Bool) (s : ByteArray) (a : Af) : List ByteArray := if (selA a fl front && (front || s.toList == stem.toList)) = true then (doA a s).toList else []
theorem affDo_doA {a : Af} {s : ByteArray} (ha : AfOk a) (hs : wordB s = true) : affDo a.f0 a.f1 a.f2 a.f3 a.f4 s = doA a s := by
 unfold affDo doA
 rw [if_pos ⟨ha, hs⟩]
theorem gA_length (fl stem : ByteArray) (front : Bool) (s : ByteArray) (a : Af) : (gA fl stem front s a).length ≤ 1 := by
 unfold gA
 split
 ·cases doA a s <;> simp
 ·simp
theorem gA_flat_length (fl stem : ByteArray) (front : Bool) (s : ByteArray) (A : List Af) : (A.flatMap (gA fl stem front s)).length ≤ A.length := by
 induction A with
 | nil => simp
 | cons a A ih =>
  rw [List.flatMap_cons, List.length_append, List.length_cons]
  have := gA_length fl stem front s a
  omega
theorem inner_loop (A : List Af) (fl stem : ByteArray) (front : Bool) (s : ByteArray) (ys snap : List ByteArray) (bs : List Bool) (n : Int) (ib i : Int) (hok : ∀ a ∈ A, AfOk a) (hA : A.length ≤ 8) (hz : AfSz A) (hs : wordB s = true) {r : List ByteArray} (d : Nat) : ∀ (j : Nat) (out : List ByteArray), j + d = A.length → out.length + d ≤ 100000 →
  (∀ out', out' = out ++ (A.drop j).flatMap (gA fl stem front s) → Ev (fun k => impl_Forms.l1 k A out' front bs n ib snap (snap.length : Int) (wrap64 (i + 1)) stem fl) r) → Ev (fun k => impl_Forms.l2 k A out front s bs n ib snap (snap.length : Int) i A (A.length : Int) (j : Int) stem fl) r := by
 induction d with
 | zero =>
  intro j out hj ho next
  refine Ev.step (fun k => impl_Forms.l2.eq_2 ..) (eN (next _ ?_))
  rw [List.drop_eq_nil_of_le (by omega)]
  simp
 | succ d ih =>
  intro j out hj ho next
  have hlt : j < A.length := by omega
  have e : rd_T82 A (j : Int) = A[j] := by simp [rd_T82, List.getD_eq_getElem?_getD, hlt]
  have ho' := hok _ (List.getElem_mem hlt)
  have hz' := hz _ (List.getElem_mem hlt)
  have hsz := wordB_size hs
  have hg : A[j].f0.size = 1 := by
   have := (affOk_parts ho').1
   simp only [flagB, Bool.and_eq_true, decide_eq_true_eq] at this
   exact this.1
  have ew : wrap64 ((j : Int) + 1) = ((j + 1 : Nat) : Int) := w6
  rw [List.drop_eq_getElem_cons hlt] at next
  simp only [List.flatMap_cons] at next
  have go : ∀ out', out' = out ++ gA fl stem front s A[j] → Ev (fun k => impl_Forms.l2 k A out' front s bs n ib snap (snap.length : Int) i A (A.length : Int) ((j + 1 : Nat) : Int) stem fl) r := by
   intro out' he
   have hl := gA_length fl stem front s A[j]
   refine ih (j + 1) out' (by omega) (by rw [he, List.length_append]; omega) (fun o h => next o ?_)
   rw [h, he, List.append_assoc]
  have skip4 : (selA A[j] fl front = false) → Ev (fun k => impl_Forms.j4 k A out front s bs n ib snap (snap.length : Int) i A (A.length : Int) (j : Int) true stem fl A[j].f0 A[j].f1 A[j].f2 A[j].f3 A[j].f4) r := by
   intro h
   refine Ev.step (fun k => impl_Forms.j4.eq_2 ..) (evPos rfl ?_)
   rw [ew]
   refine go out ?_
   unfold gA
   rw [h]
   simp
  have five : ∀ b : Bool, selA A[j] fl front = true → b = (front || s.toList == stem.toList) → Ev (fun k => impl_Forms.j5 k A out front s bs n ib snap (snap.length : Int) i A (A.length : Int) (j : Int) b stem fl A[j].f0 A[j].f1 A[j].f2 A[j].f3 A[j].f4) r := by
   intro b h1 h2
   refine Ev.step (fun k => impl_Forms.j5.eq_2 ..) ?_
   cases b with
   | false =>
    refine evNeg (by simp) ?_
    rw [ew]
    refine go out ?_
    unfold gA
    rw [← h2]
    simp
   | true =>
    refine evPos rfl (Ev.bind (affixDo_impl _ _ _ _ _ _ (by omega) (by omega) (by omega) (by omega)) ?_)
    rw [affDo_doA ho' hs, ew]
    have hgA : gA fl stem front s A[j] = (doA A[j] s).toList := by unfold gA; rw [h1, ← h2]; rfl
    cases hd : doA A[j] s with
    | none =>
     refine evNeg (by simp [outB]) (go out ?_)
     rw [hgA, hd]
     simp
    | some x =>
     refine evPos rfl (eP (go _ ?_))
     rw [hgA, hd]
     rfl
  refine Ev.step (fun k => impl_Forms.l2.eq_2 ..) (eP (eP (eP ?_)))
  rw [e]
  by_cases c : (A[j].f1 != front) = true
  ·refine evPos c (skip4 ?_)
   have : (A[j].f1 == front) = false := by simpa [bne] using c
   unfold selA
   rw [this]
   rfl
  ·have c1 : (A[j].f1 == front) = true := by simpa [bne] using c
   refine evNeg c (evCall (has_lib _ _ hg) ?_)
   cases h : hasFl fl A[j].f0 with
   | false => exact skip4 (by unfold selA; rw [h, Bool.and_false])
   | true =>
    have h1 : selA A[j] fl front = true := by unfold selA; rw [c1, h]; rfl
    refine Ev.step (fun k => impl_Forms.j4.eq_2 ..) (evNeg (by simp) ?_)
    cases front with
    | true => exact evPos rfl (five true h1 (by simp))
    | false => exact evNeg (by simp) (five _ h1 (by simp))
theorem stems_loop (A : List Af) (fl stem : ByteArray) (front : Bool) (snap : List ByteArray) (bs : List Bool) (n : Int) (ib : Int) (hok : ∀ a ∈ A, AfOk a) (hA : A.length ≤ 8) (hz : AfSz A) (hs : ∀ s ∈ snap, wordB s = true) (hl : snap.length ≤ 1000) {r : List ByteArray} (d : Nat) : ∀ (i : Nat) (out : List ByteArray), i + d = snap.length → out.length + d * 8 ≤ 90000 →
  (∀ out', out' = out ++ (snap.drop i).flatMap (fun s => A.flatMap (gA fl stem front s)) → Ev (fun k => impl_Forms.l0 k A out' bs n (wrap64 (ib + 1)) stem fl) r) → Ev (fun k => impl_Forms.l1 k A out front bs n ib snap (snap.length : Int) (i : Int) stem fl) r := by
 induction d with
 | zero =>
  intro i out hi ho next
  refine Ev.step (fun k => impl_Forms.l1.eq_2 ..) (eN (next _ ?_))
  rw [List.drop_eq_nil_of_le (by omega)]
  simp
 | succ d ih =>
  intro i out hi ho next
  have hlt : i < snap.length := by omega
  have ew : wrap64 ((i : Int) + 1) = ((i + 1 : Nat) : Int) := w6
  rw [List.drop_eq_getElem_cons hlt] at next
  simp only [List.flatMap_cons] at next
  refine Ev.step (fun k => impl_Forms.l1.eq_2 ..) (eP (eP (eP ?_)))
  rw [ba_get snap i hlt]
  refine inner_loop A fl stem front snap[i] snap snap bs n ib (i : Int) hok hA hz (hs _ (List.getElem_mem hlt)) A.length 0 out (by omega) (by omega) (fun out' he => ?_)
  rw [ew]
  rw [List.drop_zero] at he
  have hl2 := gA_flat_length fl stem front snap[i] A
  refine ih (i + 1) out' (by omega) (by rw [he, List.length_append]; omega) (fun o h => next o ?_)
  rw [h, he, List.append_assoc]
def outL (A : List Af) (fl stem : ByteArray) (front : Bool) (out : List ByteArray) : List ByteArray := out ++ out.flatMap (fun s => A.flatMap (gA fl stem front s))
theorem outL_length (A : List Af) (fl stem : ByteArray) (front : Bool) (out : List ByteArray) : (outL A fl stem front out).length ≤ out.length + A.length * out.length := by
 have : ∀ l : List ByteArray, (l.flatMap (fun s => A.flatMap (gA fl stem front s))).length ≤ A.length * l.length := by
  intro l
  induction l with
  | nil => simp
  | cons s l ih =>
   have := gA_flat_length fl stem front s A
   rw [List.flatMap_cons, List.length_append, List.length_cons, Nat.mul_add]
   omega
 have := this out
 unfold outL
 rw [List.length_append]
 omega
theorem outL_words {A : List Af} {fl stem : ByteArray} {front : Bool} {out : List ByteArray} (h : ∀ s ∈ out, wordB s = true) : ∀ s ∈ outL A fl stem front out, wordB s = true := by
 intro s hs
 rcases List.mem_append.1 hs with hs | hs
 ·exact h s hs
 ·obtain ⟨t, _, hs⟩ := List.mem_flatMap.1 hs
  obtain ⟨a, _, hs⟩ := List.mem_flatMap.1 hs
  unfold gA at hs
  split at hs
  ·exact doA_word (Option.mem_toList.1 hs)
  ·cases hs
theorem outL_mem (A : List Af) (fl stem : ByteArray) (front : Bool) (out : List ByteArray) (hf : front = true ∨ ∀ s ∈ out, s = stem) (x : ByteArray) : x ∈ outL A fl stem front out ↔ x ∈ out ∨ ∃ a ∈ A, selA a fl front = true ∧ ∃ s ∈ out, doA a s = some x := by
 unfold outL
 rw [List.mem_append, List.mem_flatMap]
 refine or_congr Iff.rfl ⟨fun ⟨s, hs, h⟩ => ?_, fun ⟨a, ha, h1, s, hs, h⟩ => ⟨s, hs, List.mem_flatMap.2 ⟨a, ha, ?_⟩⟩⟩
 ·obtain ⟨a, ha, h⟩ := List.mem_flatMap.1 h
  unfold gA at h
  split at h
  ·rename_i hc
   simp only [Bool.and_eq_true] at hc
   exact ⟨a, ha, hc.1, s, hs, Option.mem_toList.1 h⟩
  ·cases h
 ·unfold gA
  rw [h1, if_pos, h]
  ·simp
  ·rcases hf with rfl | hf
   ·rfl
   ·simp [hf s hs]
theorem forms_set (A : List Af) (w fl : ByteArray) : M.setL (outL A fl w true (outL A fl w false [w])) = formsL A w fl := by
 refine asc_ext (setL_asc _) (formsL_asc A w fl) (fun x => ?_)
 have h1 : ∀ y, y ∈ outL A fl w false [w] ↔ y ∈ oneL A fl false [w] [w] := fun y => by
  rw [outL_mem A fl w false [w] (.inr (fun s hs => List.mem_singleton.1 hs)), oneL_mem]
 unfold formsL
 rw [setL_mem, outL_mem A fl w true _ (.inl rfl), oneL_mem]
 simp only [h1]
theorem forms_impl (A : List Af) (w fl : ByteArray) (hl : A.length ≤ 1048576) (hs : AfSz A) (hf : fl.size ≤ 1048576) (hw : w.size ≤ 1048576) : Ev (fun k => impl_Forms.f k A w fl) (formsB A w fl) := by
 have no : Ev (fun k => impl_Forms.j0 k A true w fl) ([] : List ByteArray) := Ev.step (fun k => impl_Forms.j0.eq_2 ..) (evPos rfl (Ev.now _))
 unfold impl_Forms.f formsB
 refine Ev.bind (affs_impl A hl hs) ?_
 cases e1 : affsB A with
 | false => exact evNeg (by simp) (evTo no (by simp))
 | true =>
  refine evPos rfl (Ev.bind (ent_impl w fl hw hf) ?_)
  cases e2 : entB w fl with
  | false => exact evTo no (by simp)
  | true =>
   obtain ⟨h1, h2⟩ := affs_all e1
   have hwd := (ent_word e2).1
   have w1 : ∀ s ∈ [w], wordB s = true := fun s hs => by rw [List.mem_singleton.1 hs]; exact hwd
   have w2 := outL_words (A := A) (fl := fl) (stem := w) (front := false) w1
   have n1 := outL_length A fl w false [w]
   simp only [List.length_cons, List.length_nil] at n1
   have n2 := outL_length A fl w true (outL A fl w false [w])
   have n3 : A.length * (outL A fl w false [w]).length ≤ 8 * 9 := Nat.mul_le_mul h2 (by omega)
   refine Ev.step (fun k => impl_Forms.j0.eq_2 ..) (evNeg (by simp) (evCall rfl ?_))
   refine Ev.step (fun k => impl_Forms.l0.eq_2 ..) (evPos (by simp) (eP (evPos (by simp) (evCall rfl (evPos (by simp) (evCall rfl ?_))))))
   refine stems_loop A fl w false [w] [false, true] 2 0 h1 h2 hs w1 (by simp) 1 0 [w] (by simp) (by simp) (fun out1 he1 => ?_)
   rw [w6]
   have e1' : out1 = outL A fl w false [w] := by rw [he1]; rfl
   subst e1'
   refine Ev.step (fun k => impl_Forms.l0.eq_2 ..) (evPos (by simp) (eP (evPos (by simp) (evCall rfl (evPos (by simp; omega) (evCall rfl ?_))))))
   refine stems_loop A fl w true (outL A fl w false [w]) [false, true] 2 1 h1 h2 hs w2 (by omega) (outL A fl w false [w]).length 0 (outL A fl w false [w]) (by omega) (by omega) (fun out2 he2 => ?_)
   rw [w6]
   have e2' : out2 = outL A fl w true (outL A fl w false [w]) := by rw [he2]; rfl
   subst e2'
   refine Ev.step (fun k => impl_Forms.l0.eq_2 ..) (evNeg (by simp) (evCall (a := formsL A w fl) ?_ (evTo (Ev.now _) (by simp))))
   unfold impl_sorted.f
   rw [if_pos (by omega), forms_set]
theorem words_set (A : List Af) (E : List En) : M.setL (allF A E) = wordsL A E [] := rfl
theorem bookWords_loop (A : List Af) (E : List En) (hA : affsB A = true) (hE : entsB E = true) (hz : AfSz A) (hl : A.length ≤ 1048576) (he : ∀ s ∈ E, (s.f0.size ≤ 1048576 ∧ s.f1.size ≤ 1048576)) (d : Nat) : ∀ (i : Nat) (out : List ByteArray), i + d = E.length → out.length + d * 100 ≤ 90000 →
  Ev (fun k => impl_Book_words.l0 k out E (E.length : Int) (i : Int) A E) (M.setL (out ++ allF A (E.drop i))) := by
 induction d with
 | zero =>
  intro i out hi ho
  refine Ev.step (fun k => impl_Book_words.l0.eq_2 ..) (eN (evCall (a := M.setL out) ?_ (evTo (Ev.now _) ?_)))
  ·unfold impl_sorted.f
   rw [if_pos (by omega)]
  ·rw [List.drop_eq_nil_of_le (by omega)]
   simp [allF]
 | succ d ih =>
  intro i out hi ho
  have hlt : i < E.length := by omega
  have e : rd_T78 E (i : Int) = E[i] := by simp [rd_T78, List.getD_eq_getElem?_getD, hlt]
  have hs := he _ (List.getElem_mem hlt)
  have h1 := affs_all hA
  have h2 := ents_all hE
  have hn := formsL_length h1.2 E[i].f0 E[i].f1
  have hf := forms_impl A E[i].f0 E[i].f1 hl hz hs.2 hs.1
  rw [show formsB A E[i].f0 E[i].f1 = formsL A E[i].f0 E[i].f1 from if_pos ⟨hA, h2.1 _ (List.getElem_mem hlt)⟩] at hf
  refine Ev.step (fun k => impl_Book_words.l0.eq_2 ..) (eP (eP (eP ?_)))
  rw [e, w6 (n := (i : Int) + 1)]
  refine Ev.bind hf (eP (evTo (ih (i + 1) _ (by omega) (by rw [List.length_append]; omega)) ?_))
  unfold allF
  rw [List.drop_eq_getElem_cons hlt, List.flatMap_cons, List.append_assoc]
theorem bookWords_ev (A : List Af) (E : List En) (hA : affsB A = true) (hE : entsB E = true) (hz : AfSz A) (hl : A.length ≤ 1048576) (he : ∀ s ∈ E, (s.f0.size ≤ 1048576 ∧ s.f1.size ≤ 1048576)) : Ev (fun k => impl_Book_words.f k A E) (wordsL A E []) := by
 have h2 := (ents_all hE).2
 have := bookWords_loop A E hA hE hz hl he E.length 0 [] (by omega) (by simp; omega)
 rw [List.drop_zero, List.nil_append, words_set] at this
 exact this
theorem forms_words {A : List Af} {w fl : ByteArray} (hw : wordB w = true) : ∀ x ∈ formsL A w fl, wordB x = true := by
 intro x hx
 unfold formsL at hx
 rcases (oneL_mem ..).1 hx with hx | ⟨a, _, _, s, _, he⟩
 ·rcases (oneL_mem ..).1 hx with hx | ⟨a, _, _, s, _, he⟩
  ·rw [List.mem_singleton.1 hx]
   exact hw
  ·exact doA_word he
 ·exact doA_word he
def letB (x : Int) : Bool := (decide (97 ≤ x) && decide (x ≤ 122)) || (decide (65 ≤ x) && decide (x ≤ 90))
theorem letter_spec (x : Int) : spec_l4Letter.f x = some (letB x) := by
 unfold spec_l4Letter.f letB
 by_cases a : x ≥ 97
 ·rw [if_pos a, decide_eq_true (show 97 ≤ x from a), Bool.true_and]
  by_cases b : x ≤ 122
  ·rw [if_pos b, decide_eq_true b, Bool.true_or]
  ·rw [if_neg b, decide_eq_false b, Bool.false_or, if_pos (by omega), decide_eq_true (show 65 ≤ x by omega), Bool.true_and]
 ·rw [if_neg a, decide_eq_false (show ¬ 97 ≤ x from a), Bool.false_and, Bool.false_or]
  by_cases c : x ≥ 65
  ·rw [if_pos c, decide_eq_true (show 65 ≤ x from c), Bool.true_and]
  ·rw [if_neg c, decide_eq_false (show ¬ 65 ≤ x from c), Bool.false_and]
theorem letter_impl (x : Int) : impl_letter.f x = some (letB x) := by
 have hb : ∀ o : Option Bool, (o.bind fun t => some t) = o := fun o => by cases o <;> rfl
 unfold impl_letter.f impl_upper.f
 simp only [hb]
 exact letter_spec x
def endN (s : ByteArray) : Nat → Nat → Nat
 | 0, i => i
 | d + 1, i => if letB (bt s (i : Int)) = true then endN s d (i + 1) else i
theorem endN_le (s : ByteArray) : ∀ d i : Nat, i ≤ endN s d i ∧ endN s d i ≤ i + d
 | 0, i => by simp [endN]
 | d + 1, i => by
  have := endN_le s d (i + 1)
  simp only [endN]
  split <;> omega
theorem endN_all (s : ByteArray) : ∀ d i j : Nat, i ≤ j → j < endN s d i → letB (bt s (j : Int)) = true
 | 0, i, j, h1, h2 => by simp [endN] at h2; omega
 | d + 1, i, j, h1, h2 => by
  simp only [endN] at h2
  split at h2
  ·rename_i c
   by_cases e : j = i
   ·rw [e]; exact c
   ·exact endN_all s d (i + 1) j (by omega) h2
  ·omega
theorem endN_stop (s : ByteArray) : ∀ d i : Nat, endN s d i < i + d → letB (bt s (endN s d i : Int)) = false
 | 0, i, h => by simp [endN] at h
 | d + 1, i, h => by
  simp only [endN] at h ⊢
  split at h
  ·rename_i c
   rw [if_pos c]
   exact endN_stop s d (i + 1) (by omega)
  ·rename_i c
   rw [if_neg c]
   simpa using c
def smallB (s : ByteArray) : ByteArray := strOfNums ((bytesOf s).map spec_l4Small.low)
def wordAt (s : ByteArray) (i : Nat) : ByteArray := smallB (s.extract i (endN s (s.size - i) i))
def startB (s : ByteArray) (i : Nat) : Bool := letB (bt s (i : Int)) && !(decide (0 < i) && letB (bt s ((i : Int) - 1)))
def itemAt (s : ByteArray) (ws : List ByteArray) (i : Nat) : List Gu := if startB s i = true then (if inB ws (wordAt s i) = true then [] else [(⟨wordAt s i, (i : Int)⟩ : Gu)]) else []
theorem itemAt_length (s : ByteArray) (ws : List ByteArray) (i : Nat) : (itemAt s ws i).length ≤ 1 := by
 unfold itemAt
 split
 ·split <;> simp
 ·simp
def restL (s : ByteArray) (ws : List ByteArray) (i : Nat) : List Gu := (List.range' i (s.size - i)).flatMap (itemAt s ws)
theorem restL_step {s : ByteArray} (ws : List ByteArray) {i : Nat} (h : i < s.size) : restL s ws i = itemAt s ws i ++ restL s ws (i + 1) := by
 unfold restL
 rw [show s.size - i = (s.size - (i + 1)) + 1 from by omega, List.range'_succ, List.flatMap_cons]
theorem restL_end {s : ByteArray} (ws : List ByteArray) {i : Nat} (h : s.size ≤ i) : restL s ws i = [] := by
 unfold restL
 rw [show s.size - i = 0 from by omega]
 rfl
theorem restL_skip {s : ByteArray} (ws : List ByteArray) {i e : Nat} (he : e ≤ s.size) (ha : ∀ j, i ≤ j → j < e → letB (bt s (j : Int)) = true) : ∀ d j : Nat, j + d = e → i < j → restL s ws j = restL s ws e := by
 intro d
 induction d with
 | zero => intro j hj _; rw [show j = e from by omega]
 | succ d ih =>
  intro j hj hij
  have h0 : startB s j = false := by
   unfold startB
   have h1 := ha (j - 1) (by omega) (by omega)
   rw [show ((j - 1 : Nat) : Int) = (j : Int) - 1 from by omega] at h1
   rw [h1, decide_eq_true (show 0 < j by omega)]
   simp
  rw [restL_step ws (by omega), ih (j + 1) (by omega) (by omega)]
  unfold itemAt
  rw [h0]
  simp
theorem sub_small (s : ByteArray) (hs : s.size ≤ 300) (a b : Nat) : spec_l4Small.f (s.extract a b) = some (smallB (s.extract a b)) := by
 unfold spec_l4Small.f smallB
 exact if_pos (by rw [ByteArray.size_extract]; omega)
theorem bt_get (s : ByteArray) (i : Nat) (h : i < s.size) : (bytesOf s)[i]? = some (bt s (i : Int)) := by
 have h1 := bytes_drop s (i : Int) (by omega) (by omega)
 rw [Int.toNat_natCast] at h1
 have h2 := congrArg (fun l : List Int => l[0]?) h1
 simpa using h2
theorem sub_lower (s : ByteArray) (hs : s.size ≤ 300) (i e : Nat) (h1 : i ≤ e) (h2 : e ≤ s.size) (ha : ∀ j, i ≤ j → j < e → letB (bt s (j : Int)) = true) : strings_ToLower.f (s.extract i e) = some (smallB (s.extract i e)) := by
 have hb : bytesOf (s.extract i e) = ((bytesOf s).drop i).take (e - i) := bytes_extract s i e
 have hm : ∀ x ∈ bytesOf (s.extract i e), letB x = true := fun x hx => by
  obtain ⟨t, ht⟩ := List.mem_iff_getElem?.1 hx
  rw [hb, List.getElem?_take] at ht
  split at ht
  ·rw [List.getElem?_drop, bt_get s (i + t) (by omega)] at ht
   rw [← Option.some.inj ht]
   exact ha (i + t) (by omega) (by omega)
  ·cases ht
 have hm2 : ∀ b ∈ (s.extract i e).data.toList, letB (b.toNat : Int) = true := fun b hb2 => hm _ (List.mem_map.2 ⟨b, hb2, rfl⟩)
 unfold strings_ToLower.f
 rw [if_pos]
 ·congr 1
  unfold smallB
  apply ByteArray.ext
  apply Array.toList_inj.1
  rw [strOfNums_data]
  unfold bytesOf Go.Lib.toLowerA
  rw [List.map_map, List.map_map]
  refine List.map_congr_left (fun b hb2 => ?_)
  have hlt := b.toNat_lt
  have hu : (Go.Lib.isUpperB b = true) ↔ (65 ≤ b.toNat ∧ b.toNat ≤ 90) := by
   unfold Go.Lib.isUpperB
   rw [Bool.and_eq_true, decide_eq_true_eq, decide_eq_true_eq, UInt8.le_iff_toNat_le, UInt8.le_iff_toNat_le]
   exact Iff.rfl
  show Go.Lib.lowerB b = UInt8.ofNat (spec_l4Small.low (b.toNat : Int)).toNat
  unfold Go.Lib.lowerB spec_l4Small.low
  by_cases c : 65 ≤ b.toNat ∧ b.toNat ≤ 90
  ·rw [if_pos (hu.2 c), if_pos (by omega)]
   apply UInt8.toNat_inj.1
   rw [UInt8.toNat_add, UInt8.toNat_ofNat']
   show (b.toNat + 32) % 256 = _
   omega
  ·rw [if_neg (fun h => c (hu.1 h)), if_neg (by omega)]
   apply UInt8.toNat_inj.1
   rw [UInt8.toNat_ofNat']
   omega
 ·refine ⟨by rw [ByteArray.size_extract]; omega, List.all_eq_true.2 (fun b hb2 => decide_eq_true ?_)⟩
  have := hm2 b hb2
  unfold letB at this
  simp at this
  omega
theorem ck_spec_end (s : ByteArray) (hs : s.size ≤ 300) (out : List Gu) (ws : List ByteArray) (i : Nat) {r : List Gu} (d : Nat) : ∀ j : Nat, j + d = s.size → Ev (fun k => spec_Check.j4 k s out ws (i : Int) (endN s d j : Int)) r → Ev (fun k => spec_Check.l1 k s out ws (i : Int) (j : Int)) r := by
 induction d with
 | zero =>
  intro j hj h
  exact Ev.step (fun k => spec_Check.l1.eq_2 ..) (evNeg (by omega) h)
 | succ d ih =>
  intro j hj h
  refine Ev.step (fun k => spec_Check.l1.eq_2 ..) (eP (eP (evCall (letter_spec _) ?_)))
  simp only [endN] at h
  by_cases c : letB (bt s (j : Int)) = true
  ·rw [if_pos c] at h
   refine evPos c ?_
   rw [w6 (n := (j : Int) + 1)]
   exact ih (j + 1) (by omega) h
  ·rw [if_neg c] at h
   exact evNeg c h
theorem ck_impl_end (s : ByteArray) (hs : s.size ≤ 300) (out : List Gu) (ws : List ByteArray) (i : Nat) {r : List Gu} (d : Nat) : ∀ j : Nat, j + d = s.size → Ev (fun k => impl_Check.j3 k s out ws (i : Int) (endN s d j : Int)) r → Ev (fun k => impl_Check.l1 k s out ws (i : Int) (j : Int)) r := by
 induction d with
 | zero =>
  intro j hj h
  exact Ev.step (fun k => impl_Check.l1.eq_2 ..) (evNeg (by omega) h)
 | succ d ih =>
  intro j hj h
  refine Ev.step (fun k => impl_Check.l1.eq_2 ..) (eP (eP (evCall (letter_impl _) ?_)))
  simp only [endN] at h
  by_cases c : letB (bt s (j : Int)) = true
  ·rw [if_pos c] at h
   refine evPos c ?_
   rw [w6 (n := (j : Int) + 1)]
   exact ih (j + 1) (by omega) h
  ·rw [if_neg c] at h
   exact evNeg c h
theorem ck_spec_loop (s : ByteArray) (hs : s.size ≤ 300) (ws : List ByteArray) (hw : ws.length ≤ 10000000) (d : Nat) : ∀ (i : Nat) (out : List Gu), i + d = s.size → out.length ≤ i → Ev (fun k => spec_Check.l0 k s out ws (i : Int)) (out ++ restL s ws i) := by
 induction d with
 | zero =>
  intro i out hi ho
  rw [restL_end ws (by omega), List.append_nil]
  exact Ev.step (fun k => spec_Check.l0.eq_2 ..) (eN (Ev.now _))
 | succ d ih =>
  intro i out hi ho
  have hi1 : wrap64 ((i : Int) + 1) = ((i + 1 : Nat) : Int) := w6
  have hi2 : wrap64 ((i : Int) - 1) = (i : Int) - 1 := w6
  rw [restL_step ws (by omega)]
  have no : startB s i = false → Ev (fun k => spec_Check.j2 k s out ws (i : Int) true) (out ++ (itemAt s ws i ++ restL s ws (i + 1))) := fun h => by
   have e : itemAt s ws i = [] := by unfold itemAt; rw [h]; simp
   refine Ev.step (fun k => spec_Check.j2.eq_2 ..) (evPos rfl ?_)
   rw [hi1, e, List.nil_append]
   exact ih (i + 1) out (by omega) (by omega)
  have yes : startB s i = true → Ev (fun k => spec_Check.j2 k s out ws (i : Int) false) (out ++ (itemAt s ws i ++ restL s ws (i + 1))) := fun h => by
   refine Ev.step (fun k => spec_Check.j2.eq_2 ..) (evNeg (by simp) (ck_spec_end s hs out ws i (s.size - i) i (by omega) ?_))
   have he := endN_le s (s.size - i) i
   have hin := l2In_ev ws (wordAt s i) hw
   unfold itemAt
   rw [if_pos h]
   refine Ev.step (fun k => spec_Check.j4.eq_2 ..) (eP (eP (eP (evCall (sub_small s hs _ _) ?_))))
   rw [Int.toNat_natCast, Int.toNat_natCast, hi1]
   refine Ev.bind hin ?_
   cases c : inB ws (wordAt s i) with
   | true => exact evPos rfl (evTo (ih (i + 1) out (by omega) (by omega)) (by simp))
   | false => exact evNeg (by simp) (eP (evTo (ih (i + 1) _ (by omega) (by simp; omega)) (by simp [wordAt])))
  refine Ev.step (fun k => spec_Check.l0.eq_2 ..) (eP (eP (evCall (letter_spec _) ?_)))
  rw [hi2]
  by_cases c : letB (bt s (i : Int)) = true
  ·refine evPos c ?_
   by_cases c2 : (i : Int) > 0
   ·refine evPos c2 (eP (eP (evCall (letter_spec _) ?_)))
    cases c3 : letB (bt s ((i : Int) - 1)) with
    | true => exact no (by unfold startB; rw [c3, decide_eq_true (show 0 < i by omega)]; simp)
    | false => exact yes (by unfold startB; rw [c, c3]; simp)
   ·exact evNeg c2 (yes (by unfold startB; rw [c, decide_eq_false (show ¬ 0 < i by omega)]; simp))
  ·exact evNeg c (no (by unfold startB; rw [Bool.not_eq_true] at c; rw [c]; simp))
theorem ck_impl_loop (s : ByteArray) (hs : s.size ≤ 300) (ws : List ByteArray) (hw : ws.length ≤ 10000000) (n : Nat) : ∀ (d i : Nat) (out : List Gu), d ≤ n → i + d = s.size → out.length ≤ i → (i = 0 ∨ i = s.size ∨ letB (bt s ((i : Int) - 1)) = false ∨ letB (bt s (i : Int)) = false) → Ev (fun k => impl_Check.l0 k s out ws (i : Int)) (out ++ restL s ws i) := by
 induction n with
 | zero =>
  intro d i out hd hi ho hc
  rw [restL_end ws (by omega), List.append_nil]
  exact Ev.step (fun k => impl_Check.l0.eq_2 ..) (eN (Ev.now _))
 | succ n ih =>
  intro d i out hd hi ho hc
  by_cases hend : i = s.size
  ·rw [restL_end ws (by omega), List.append_nil]
   exact Ev.step (fun k => impl_Check.l0.eq_2 ..) (eN (Ev.now _))
  have hi1 : wrap64 ((i : Int) + 1) = ((i + 1 : Nat) : Int) := w6
  refine Ev.step (fun k => impl_Check.l0.eq_2 ..) (eP (eP (evCall (letter_impl _) ?_)))
  by_cases c : letB (bt s (i : Int)) = true
  ·have hst : startB s i = true := by
    unfold startB
    rw [c]
    rcases hc with hc | hc | hc | hc
    ·subst hc; simp
    ·omega
    ·rw [hc]; simp
    ·rw [hc] at c; cases c
   refine evPos c (ck_impl_end s hs out ws i (s.size - i) i (by omega) ?_)
   have he := endN_le s (s.size - i) i
   have hall := endN_all s (s.size - i) i
   have hgt : i < endN s (s.size - i) i := by
    rw [show s.size - i = (s.size - i - 1) + 1 from by omega]
    simp only [endN]
    rw [if_pos c]
    have := (endN_le s (s.size - i - 1) (i + 1)).1
    omega
   have hnext : endN s (s.size - i) i = 0 ∨ endN s (s.size - i) i = s.size ∨ letB (bt s ((endN s (s.size - i) i : Int) - 1)) = false ∨ letB (bt s (endN s (s.size - i) i : Int)) = false := by
    by_cases h : endN s (s.size - i) i = s.size
    ·exact .inr (.inl h)
    ·exact .inr (.inr (.inr (endN_stop s (s.size - i) i (by omega))))
   have hsk := restL_skip ws (i := i) (e := endN s (s.size - i) i) (by omega) hall (endN s (s.size - i) i - (i + 1)) (i + 1) (by omega) (by omega)
   have hin := contains_ev ws (wordAt s i) hw
   rw [restL_step ws (by omega), hsk]
   unfold itemAt
   rw [if_pos hst]
   refine Ev.step (fun k => impl_Check.j3.eq_2 ..) (eP (eP (eP (evCall (sub_lower s hs _ _ (by omega) (by omega) (by rw [Int.toNat_natCast, Int.toNat_natCast]; exact hall)) ?_))))
   rw [Int.toNat_natCast, Int.toNat_natCast]
   refine Ev.bind hin ?_
   cases c2 : inB ws (wordAt s i) with
   | true => exact evPos rfl (evTo (ih (s.size - endN s (s.size - i) i) (endN s (s.size - i) i) out (by omega) (by omega) (by omega) hnext) (by simp))
   | false => exact evNeg (by simp) (eP (evTo (ih (s.size - endN s (s.size - i) i) (endN s (s.size - i) i) _ (by omega) (by omega) (by simp; omega) hnext) (by simp [wordAt])))
  ·have hst : startB s i = false := by unfold startB; rw [Bool.not_eq_true] at c; rw [c]; simp
   refine evNeg c ?_
   rw [hi1, restL_step ws (by omega)]
   have e : itemAt s ws i = [] := by unfold itemAt; rw [hst]; simp
   rw [e, List.nil_append]
   refine ih (d - 1) (i + 1) out (by omega) (by omega) (by omega) (.inr (.inr (.inl ?_)))
   rw [show ((i + 1 : Nat) : Int) - 1 = (i : Int) from by omega]
   simpa using c
def checkB (A : List Af) (E : List En) (s : ByteArray) : List Gu := if bookB A E = true ∧ s.size ≤ 300 then restL s (wordsL A E []) 0 else []
theorem restL_length (s : ByteArray) (ws : List ByteArray) (d : Nat) : ∀ i : Nat, i + d = s.size → (restL s ws i).length ≤ d := by
 induction d with
 | zero => intro i hi; rw [restL_end ws (by omega)]; simp
 | succ d ih =>
  intro i hi
  rw [restL_step ws (by omega), List.length_append]
  have := itemAt_length s ws i
  have := ih (i + 1) (by omega)
  omega
theorem checkB_length (A : List Af) (E : List En) (s : ByteArray) : (checkB A E s).length ≤ 300 := by
 unfold checkB
 split
 ·rename_i h
  have := restL_length s (wordsL A E []) s.size 0 (by omega)
  omega
 ·simp
theorem check_spec (A : List Af) (E : List En) (h : BkSz A E) (s : ByteArray) (hs : s.size ≤ 1048576) : Ev (fun k => spec_Check.f k A E s) (checkB A E s) := by
 unfold spec_Check.f checkB
 refine evCall rfl (Ev.bind (bookOk_spec A E h) ?_)
 have fin : ∀ b : Bool, b = true → Ev (fun k => spec_Check.j0 k s ([] : List Gu) b A E) ([] : List Gu) := fun b hb => Ev.step (fun k => spec_Check.j0.eq_2 ..) (evPos hb (Ev.now _))
 by_cases e : bookB A E = true
 ·refine evPos e ?_
  by_cases c : (s.size : Int) > 300
  ·rw [decide_eq_true c, if_neg (by omega)]
   exact fin true rfl
  ·rw [decide_eq_false c, if_pos ⟨e, by omega⟩]
   have e' := e
   simp only [bookB, Bool.and_eq_true] at e'
   obtain ⟨h1, h2⟩ := affs_all e'.1
   have h3 := ents_all e'.2
   have hlen := wordsL_length h2 E
   refine Ev.step (fun k => spec_Check.j0.eq_2 ..) (evNeg (by simp) (Ev.bind (l2Words_ev A E h1 h2 h.e h3.2) ?_))
   have := ck_spec_loop s (by omega) (wordsL A E []) (by omega) s.size 0 [] (by omega) (by simp)
   rw [List.nil_append] at this
   exact this
 ·rw [if_neg (fun hh => e hh.1)]
  exact evNeg e (fin true rfl)
theorem check_impl (A : List Af) (E : List En) (h : BkSz A E) (s : ByteArray) (hs : s.size ≤ 1048576) : Ev (fun k => impl_Check.f k A E s) (checkB A E s) := by
 unfold impl_Check.f checkB
 refine evCall rfl (Ev.bind (bookOk_impl A E h) ?_)
 have fin : ∀ b : Bool, b = true → Ev (fun k => impl_Check.j0 k s ([] : List Gu) b A E) ([] : List Gu) := fun b hb => Ev.step (fun k => impl_Check.j0.eq_2 ..) (evPos hb (Ev.now _))
 by_cases e : bookB A E = true
 ·refine evPos e ?_
  by_cases c : (s.size : Int) > 300
  ·rw [decide_eq_true c, if_neg (by omega)]
   exact fin true rfl
  ·rw [decide_eq_false c, if_pos ⟨e, by omega⟩]
   have e' := e
   simp only [bookB, Bool.and_eq_true] at e'
   obtain ⟨h1, h2⟩ := affs_all e'.1
   have h3 := ents_all e'.2
   have hlen := wordsL_length h2 E
   refine Ev.step (fun k => impl_Check.j0.eq_2 ..) (evNeg (by simp) (Ev.bind (bookWords_ev A E e'.1 e'.2 h.a h.la h.e) ?_))
   have := ck_impl_loop s (by omega) (wordsL A E []) (by omega) s.size s.size 0 [] (by omega) (by omega) (by simp) (.inl rfl)
   rw [List.nil_append] at this
   exact this
 ·rw [if_neg (fun hh => e hh.1)]
  exact evNeg e (fin true rfl)
theorem knows_impl (A : List Af) (E : List En) (h : BkSz A E) (s : ByteArray) : Ev (fun k => impl_BookKnows.f k A E s) (bookB A E && inB (wordsL A E []) s) := by
 unfold impl_BookKnows.f
 refine Ev.bind (bookOk_impl A E h) ?_
 cases e : bookB A E with
 | false => exact evNeg (by simp) (evTo (Ev.now _) (by simp))
 | true =>
  simp only [bookB, Bool.and_eq_true] at e
  obtain ⟨h1, h2⟩ := affs_all e.1
  have h3 := ents_all e.2
  have hw := wordsL_length h2 E
  exact evPos rfl (Ev.bind (bookWords_ev A E e.1 e.2 h.a h.la h.e) (Ev.bind (contains_ev _ s (by omega)) (evTo (Ev.now _) (by simp))))
theorem nums_back (l : List Int) (h : ∀ x ∈ l, 0 ≤ x ∧ x < 256) : bytesOf (strOfNums l) = l := by
 simp only [bytesOf, strOfNums, List.map_map]
 conv => rhs; rw [← List.map_id l]
 refine List.map_congr_left (fun x hx => ?_)
 have := h x hx
 simp
 omega
theorem small_bytes (s : ByteArray) : bytesOf (smallB s) = (bytesOf s).map spec_l4Small.low := nums_back _ (fun x hx => by
 obtain ⟨y, hy, rfl⟩ := List.mem_map.1 hx
 have := bytes_range s y hy
 unfold spec_l4Small.low
 split <;> omega)
theorem small_size (s : ByteArray) : (smallB s).size = s.size := by
 rw [← bytesOf_length, small_bytes, List.length_map, bytesOf_length]
theorem word_size (s : ByteArray) (i : Nat) (h : i ≤ s.size) : (wordAt s i).size = endN s (s.size - i) i - i := by
 have := endN_le s (s.size - i) i
 unfold wordAt
 rw [small_size, size_extract _ _ _ (by omega) (by omega)]
theorem word_bt (s : ByteArray) (i j : Nat) (h : i ≤ s.size) (hj : j < (wordAt s i).size) : bt (wordAt s i) (j : Int) = spec_l4Small.low (bt s ((i + j : Nat) : Int)) := by
 have h1 := bt_get (wordAt s i) j hj
 have hz := word_size s i h
 have he := endN_le s (s.size - i) i
 unfold wordAt at h1
 rw [small_bytes, List.getElem?_map, bytes_extract, List.getElem?_take, if_pos (by omega), List.getElem?_drop, bt_get s (i + j) (by omega)] at h1
 exact (Option.some.inj h1).symm
def gok (s : ByteArray) (ws : List ByteArray) (g : Gu) : Prop := ∃ i : Nat, g.f1 = (i : Int) ∧ i + g.f0.size ≤ s.size ∧ inB ws g.f0 = false ∧ ∀ j : Nat, j < g.f0.size → bt g.f0 (j : Int) = spec_l4Small.low (bt s ((i + j : Nat) : Int))
theorem item_ok (s : ByteArray) (ws : List ByteArray) (i : Nat) (h : i ≤ s.size) : ∀ g ∈ itemAt s ws i, gok s ws g ∧ g.f1 = (i : Int) := by
 intro g hg
 unfold itemAt at hg
 split at hg
 ·split at hg
  ·cases hg
  ·rename_i c
   rw [List.mem_singleton] at hg
   subst hg
   refine ⟨⟨i, rfl, ?_, by simpa using c, fun j hj => word_bt s i j h hj⟩, rfl⟩
   have := endN_le s (s.size - i) i
   show i + (wordAt s i).size ≤ s.size
   rw [word_size s i h]
   omega
 ·cases hg
theorem item_asc (s : ByteArray) (ws : List ByteArray) (i : Nat) : (itemAt s ws i).Pairwise (fun a b => a.f1 < b.f1) := by
 unfold itemAt
 split
 ·split
  ·exact List.Pairwise.nil
  ·exact List.pairwise_singleton _ _
 ·exact List.Pairwise.nil
theorem rest_ok (s : ByteArray) (ws : List ByteArray) (d : Nat) : ∀ i : Nat, i + d = s.size → (∀ g ∈ restL s ws i, gok s ws g ∧ (i : Int) ≤ g.f1) ∧ (restL s ws i).Pairwise (fun a b => a.f1 < b.f1) := by
 induction d with
 | zero =>
  intro i hi
  rw [restL_end ws (by omega)]
  exact ⟨(fun _ h => by cases h), List.Pairwise.nil⟩
 | succ d ih =>
  intro i hi
  obtain ⟨h1, h2⟩ := ih (i + 1) (by omega)
  rw [restL_step ws (by omega)]
  have hit := item_ok s ws i (by omega)
  refine ⟨fun g hg => ?_, List.pairwise_append.2 ⟨item_asc s ws i, h2, fun a ha b hb => ?_⟩⟩
  ·rcases List.mem_append.1 hg with hg | hg
   ·have := hit g hg
    exact ⟨this.1, by omega⟩
   ·have := h1 g hg
    exact ⟨this.1, by omega⟩
  ·have := hit a ha
   have := h1 b hb
   omega
theorem check_ok (A : List Af) (E : List En) (s : ByteArray) : (∀ g ∈ checkB A E s, gok s (wordsL A E []) g) ∧ (checkB A E s).Pairwise (fun a b => a.f1 < b.f1) := by
 unfold checkB
 split
 ·obtain ⟨h1, h2⟩ := rest_ok s (wordsL A E []) s.size 0 (by omega)
  exact ⟨fun g hg => (h1 g hg).1, h2⟩
 ·exact ⟨(fun _ h => by cases h), List.Pairwise.nil⟩
theorem gu_at (r : List Gu) (i : Nat) (h : i < r.length) : rd_T43 r (i : Int) = r[i] := by
 simp [rd_T43, List.getD_eq_getElem?_getD, h]
theorem ckf_in (A : List Af) (E : List En) (s : ByteArray) (hs : s.size ≤ 1000000) (r : List Gu) (i : Nat) (hi : i < r.length) (n : Nat) (g : Gu) (hg : rd_T43 r (i : Int) = g) (hz : n + g.f0.size ≤ s.size) (hl : ∀ j : Nat, j < g.f0.size → bt g.f0 (j : Int) = spec_l4Small.low (bt s ((n + j : Nat) : Int)))
  (go : Ev (fun k => laws_FnCheck.l0 k s r (wrap64 ((i : Int) + 1)) A E) true) (d : Nat) : ∀ j : Nat, j + d = g.f0.size → Ev (fun k => laws_FnCheck.l1 k s r (i : Int) (n : Int) ((n : Int) + (g.f0.size : Int)) ((n + j : Nat) : Int) A E) true := by
 induction d with
 | zero =>
  intro j hj
  exact Ev.step (fun k => laws_FnCheck.l1.eq_2 ..) (evNeg (by omega) go)
 | succ d ih =>
  intro j hj
  have b0 := bt0 s ((n + j : Nat) : Int)
  have b1 := bt1 s ((n + j : Nat) : Int)
  have w1 : wrap64 (((n + j : Nat) : Int) - (n : Int)) = (j : Int) := by rw [w6]; omega
  have w2 : wrap64 (((n + j : Nat) : Int) + 1) = ((n + (j + 1) : Nat) : Int) := by rw [w6]; omega
  have hb := hl j (by omega)
  have nx := ih (j + 1) (by omega)
  unfold spec_l4Small.low at hb
  refine Ev.step (fun k => laws_FnCheck.l1.eq_2 ..) (eP (eP (eP ?_)))
  have yes : 65 ≤ bt s ((n + j : Nat) : Int) ∧ bt s ((n + j : Nat) : Int) ≤ 90 → Ev (fun k => laws_FnCheck.j3 k s r (i : Int) (n : Int) ((n : Int) + (g.f0.size : Int)) ((n + j : Nat) : Int) (bt s ((n + j : Nat) : Int)) true A E) true := fun c => by
   refine Ev.step (fun k => laws_FnCheck.j3.eq_2 ..) (evPos rfl (eP (eP ?_)))
   rw [hg, w1, w2]
   rw [if_pos c] at hb
   exact eP (eP (evPos (by omega) nx))
  have no : ¬ (65 ≤ bt s ((n + j : Nat) : Int) ∧ bt s ((n + j : Nat) : Int) ≤ 90) → Ev (fun k => laws_FnCheck.j3 k s r (i : Int) (n : Int) ((n : Int) + (g.f0.size : Int)) ((n + j : Nat) : Int) (bt s ((n + j : Nat) : Int)) false A E) true := fun c => by
   refine Ev.step (fun k => laws_FnCheck.j3.eq_2 ..) (evNeg (by simp) (eP (eP ?_)))
   rw [hg, w1, w2]
   rw [if_neg c] at hb
   exact eP (eP (evPos (by omega) nx))
  by_cases c : bt s ((n + j : Nat) : Int) ≥ 65
  ·refine evPos c ?_
   by_cases c2 : bt s ((n + j : Nat) : Int) ≤ 90
   ·rw [decide_eq_true c2]
    exact yes ⟨c, c2⟩
   ·rw [decide_eq_false c2]
    exact no (by omega)
  ·exact evNeg c (no (by omega))
theorem ckf_loop (A : List Af) (E : List En) (hb : BkSz A E) (s : ByteArray) (hs : s.size ≤ 1000000) (r : List Gu) (hr : r.length ≤ 300) (h1 : ∀ g ∈ r, gok s (wordsL A E []) g) (h2 : r.Pairwise (fun a b => a.f1 < b.f1)) (d : Nat) : ∀ i : Nat, i + d = r.length → Ev (fun k => laws_FnCheck.l0 k s r (i : Int) A E) true := by
 induction d with
 | zero =>
  intro i hi
  exact Ev.step (fun k => laws_FnCheck.l0.eq_2 ..) (eN (Ev.now _))
 | succ d ih =>
  intro i hi
  have hg := gu_at r i (by omega)
  obtain ⟨n, e1, e2, e3, e4⟩ := h1 r[i] (List.getElem_mem _)
  have ord : ∀ j : Nat, j + 1 = i → ∃ h : j < r.length, (r[j]'h).f1 < (n : Int) := fun j hj => ⟨by omega, by
   have := List.pairwise_iff_getElem.1 h2 j i (by omega) (by omega) (by omega)
   omega⟩
  have hk := knows_impl A E hb (r[i]).f0
  rw [e3, Bool.and_false] at hk
  generalize r[i] = g at hg e1 e2 e3 e4 hk
  have w1 : wrap64 ((n : Int) + (g.f0.size : Int)) = (n : Int) + (g.f0.size : Int) := w6
  have go := ih (i + 1) (by omega)
  have w2 : wrap64 ((i : Int) + 1) = ((i + 1 : Nat) : Int) := w6
  rw [← w2] at go
  have fin : Ev (fun k => laws_FnCheck.j1 k s r (i : Int) (n : Int) ((n : Int) + (g.f0.size : Int)) false A E) true :=
   Ev.step (fun k => laws_FnCheck.j1.eq_2 ..) (evNeg (by simp) (ckf_in A E s hs r i (by omega) n g hg e2 e4 go g.f0.size 0 (by omega)))
  refine Ev.step (fun k => laws_FnCheck.l0.eq_2 ..) (eP (eP ?_))
  rw [hg, e1, w1]
  refine eN (eN (Ev.bind hk (evNeg (by simp) ?_)))
  by_cases c : (i : Int) > 0
  ·have w3 : wrap64 ((i : Int) - 1) = ((i - 1 : Nat) : Int) := by rw [w6]; omega
   obtain ⟨hj, hlt⟩ := ord (i - 1) (by omega)
   refine evPos c ?_
   rw [w3, gu_at r (i - 1) hj, decide_eq_false (by omega)]
   exact eP (evPos (by omega) fin)
  ·exact evNeg c fin
def Rdr (s : List Int) (p : Int) : Prop := s.length ≤ 2000 ∧ (∀ x ∈ s, 0 ≤ x ∧ x ≤ 255) ∧ 0 ≤ p ∧ p ≤ 1000000000000
theorem Rdr.at_ {s : List Int} {p : Int} (h : Rdr s p) (q : Int) (h0 : 0 ≤ q) (h1 : q ≤ 1000000000000) : Rdr s q := ⟨h.1, h.2.1, h0, h1⟩
theorem rd_range {s : List Int} (h : ∀ x ∈ s, 0 ≤ x ∧ x ≤ 255) (i : Int) : 0 ≤ rd s i ∧ rd s i ≤ 255 := by
 unfold rd
 rw [List.getD_eq_getElem?_getD]
 by_cases c : i.toNat < s.length
 ·rw [List.getElem?_eq_getElem c]
  exact h _ (List.getElem_mem c)
 ·rw [List.getElem?_eq_none (by omega)]
  simp
def pickY (a b p q : Int) : Int := wrap64 (wrap64 (wrap64 (wrap64 (wrap64 a * 131) + wrap64 (wrap64 b * 1117)) + wrap64 (p * 29)) + wrap64 (wrap64 q * 53))
def pickX (a b p q : Int) : Int := Go.bits .xor .i64 (pickY a b p q) (wrap64 (Int.tdiv (pickY a b p q) 64))
theorem pickX_pos (a b p q : Int) (ha : 0 ≤ a ∧ a ≤ 255) (hb : 0 ≤ b ∧ b ≤ 255) (h0 : 0 ≤ p) (h1 : p ≤ 1000000000000) (q0 : 0 ≤ q) (q1 : q ≤ p) : 0 ≤ pickX a b p q := by
 have e : pickY a b p q = a * 131 + b * 1117 + p * 29 + q * 53 := by
  unfold pickY
  rw [w6 (n := a), w6 (n := b), w6 (n := a * 131), w6 (n := b * 1117), w6 (n := p * 29), w6 (n := q), w6 (n := q * 53), w6 (n := a * 131 + b * 1117), w6 (n := a * 131 + b * 1117 + p * 29), w6 (n := a * 131 + b * 1117 + p * 29 + q * 53)]
 unfold pickX
 rw [e]
 have x0 : 0 ≤ a * 131 + b * 1117 + p * 29 + q * 53 := by omega
 have x1 : a * 131 + b * 1117 + p * 29 + q * 53 < 4611686018427387904 := by omega
 generalize a * 131 + b * 1117 + p * 29 + q * 53 = x at *
 have t0 := Int.tdiv_nonneg x0 (show (0 : Int) ≤ 64 from by omega)
 have t1 : Int.tdiv x 64 ≤ x := Int.tdiv_le_self 64 x0
 rw [w6 (n := Int.tdiv x 64)]
 exact xor_small x (Int.tdiv x 64) x0 x1 t0 (by omega)
theorem pick_ev {s : List Int} {p : Int} (h : Rdr s p) (n : Int) (hn : n ≤ 1000000000000000) : ∃ v, Ev (fun k => spec_l1Rd_pick.f k s p n) (v, p + 1) ∧ 0 ≤ v ∧ (v < n ∨ v = 0) := by
 obtain ⟨hl, hb, hp0, hp1⟩ := h
 have hr := rd_range hb
 unfold spec_l1Rd_pick.f
 rw [w6 (n := p + 1)]
 by_cases c : n < 1
 ·exact ⟨0, evPos c (Ev.step (fun k => spec_l1Rd_pick.j0.eq_2 _ _ _ _ _) (evPos rfl (Ev.now _))), by omega, .inr rfl⟩
 by_cases e : s.length = 0
 ·exact ⟨0, evNeg c (Ev.step (fun k => spec_l1Rd_pick.j0.eq_2 _ _ _ _ _) (evPos (by simp [e]) (Ev.now _))), by omega, .inr rfl⟩
 have hlen : 0 < (s.length : Int) := by omega
 have wr (i : Int) : wrap64 (rd s i) = rd s i := w64 (by have := (hr i).1; omega) (by have := (hr i).2; omega)
 by_cases c2 : p < (s.length : Int)
 ·have h1 := hr p
  refine ⟨Int.tmod (rd s p) n, evNeg c (Ev.step (fun k => spec_l1Rd_pick.j0.eq_2 _ _ _ _ _) (evNeg (by simpa using e) ?_)), Int.tmod_nonneg _ h1.1, .inl (Int.tmod_lt_of_pos _ (by omega))⟩
  rw [show p + 1 - 1 = p from by omega, w6 (n := p), wr]
  exact evPos c2 (evPos hp0 (eN (Ev.now _)))
 have m1 := Int.tmod_nonneg (s.length : Int) hp0
 have m2 := Int.tmod_lt_of_pos p hlen
 have m3 := Int.tmod_nonneg (s.length : Int) (show 0 ≤ p * 7 + 3 from by omega)
 have m4 := Int.tmod_lt_of_pos (p * 7 + 3) hlen
 have d1 := Int.tdiv_nonneg hp0 (show 0 ≤ (s.length : Int) from by omega)
 have d2 : Int.tdiv p (s.length : Int) ≤ p := Int.tdiv_le_self (s.length : Int) hp0
 have hz := pickX_pos (rd s (Int.tmod p (s.length : Int))) (rd s (Int.tmod (p * 7 + 3) (s.length : Int))) p (Int.tdiv p (s.length : Int)) (hr _) (hr _) hp0 hp1 d1 d2
 refine ⟨Int.tmod (pickX (rd s (Int.tmod p (s.length : Int))) (rd s (Int.tmod (p * 7 + 3) (s.length : Int))) p (Int.tdiv p (s.length : Int))) n, evNeg c (Ev.step (fun k => spec_l1Rd_pick.j0.eq_2 _ _ _ _ _) (evNeg (by simpa using e) ?_)), Int.tmod_nonneg _ hz, .inl (Int.tmod_lt_of_pos _ (by omega))⟩
 rw [show p + 1 - 1 = p from by omega, w6 (n := p), w6 (n := p * 7), w6 (n := p * 7 + 3)]
 exact evNeg c2 (eN (evPos m1 (evPos m2 (evPos m3 (evPos m4 (eN (Ev.now _)))))))
theorem of_ev {s : List Int} {p : Int} (h : Rdr s p) (l : List ByteArray) (h0 : 0 < l.length) (h1 : l.length ≤ 1000000) : ∃ x ∈ l, Ev (fun k => spec_l1Rd_of.f k s p l) (x, p + 1) := by
 obtain ⟨v, hv, v0, v1⟩ := pick_ev h (l.length : Int) (by omega)
 have v2 : v < (l.length : Int) := by omega
 have hl : v.toNat < l.length := by omega
 refine ⟨l[v.toNat], List.getElem_mem hl, ?_⟩
 unfold spec_l1Rd_of.f
 refine Ev.bind hv (evPos v0 (evPos v2 (evTo (Ev.now _) ?_)))
 simp [rdOf, List.getD_eq_getElem?_getD, List.getElem?_eq_getElem hl]
theorem open_ev (l : List Int) (h : ∀ x ∈ l, (Lit.int .u8 x).wf = true) : ∃ s, spec_l1Open.f l = some (s, 0) ∧ Rdr s 0 := by
 have hb : ∀ x ∈ l, 0 ≤ x ∧ x ≤ 255 := by
  intro x hx
  have := h x hx
  simp [Lit.wf, IntKind.min, IntKind.max, IntKind.signed, IntKind.bits] at this
  omega
 unfold spec_l1Open.f
 by_cases c : (l.length : Int) > 2000
 ·refine ⟨l.take 2000, by rw [if_pos c, if_pos (by omega)], ?_, fun x hx => hb x (List.mem_of_mem_take hx), by omega, by omega⟩
  rw [List.length_take]
  omega
 ·exact ⟨l, by rw [if_neg c], by omega, hb, by omega, by omega⟩
theorem least_spec (a b : Int) : spec_l1Least.f a b = some (min a b) := by
 unfold spec_l1Least.f
 by_cases c : a < b
 ·rw [if_pos c]; congr 1; omega
 ·rw [if_neg c]; congr 1; omega
theorem word13_loop {s : List Int} (d : Nat) : ∀ (x : ByteArray) (n p : Int), Rdr s p → p + d ≤ 1000000000000 → n = d → x.size + 2 * d ≤ 1000000 →
  ∃ r p', Ev (fun k => spec_l13Word.l0 k x n s p) (r, p') ∧ r.size ≤ 12 ∧ p ≤ p' ∧ p' ≤ p + d := by
 induction d with
 | zero =>
  intro x n p h hp hn hx
  refine ⟨x.extract 0 (min x.size 12), p, Ev.step (fun k => spec_l13Word.l0.eq_2 _ _ _ _ _) (eN (evCall (least_spec _ _) ?_)), ?_, by omega, by omega⟩
  ·refine eP (eP (evTo (Ev.now _) ?_))
   congr 3
   omega
  ·rw [size_extract _ _ _ (by omega) (by omega)]
   omega
 | succ d ih =>
  intro x n p h hp hn hx
  have hls : ∀ y ∈ ([(⟨#[97]⟩ : ByteArray), (⟨#[98]⟩ : ByteArray), (⟨#[99]⟩ : ByteArray), (⟨#[97, 98]⟩ : ByteArray), (⟨#[116]⟩ : ByteArray)] : List ByteArray), y.size ≤ 2 := by
   intro y hy
   simp only [List.mem_cons, List.not_mem_nil, or_false] at hy
   rcases hy with rfl | rfl | rfl | rfl | rfl <;> decide
  obtain ⟨y, hy, he⟩ := of_ev h ([(⟨#[97]⟩ : ByteArray), (⟨#[98]⟩ : ByteArray), (⟨#[99]⟩ : ByteArray), (⟨#[97, 98]⟩ : ByteArray), (⟨#[116]⟩ : ByteArray)] : List ByteArray) (by simp) (by simp)
  have hy2 := hls y hy
  obtain ⟨r, p', hr, h1, h2, h3⟩ := ih (x ++ y) (n - 1) (p + 1) (h.at_ _ (by have := h.2.2.1; omega) (by omega)) (by omega) (by omega) (by rw [size_append]; omega)
  refine ⟨r, p', Ev.step (fun k => spec_l13Word.l0.eq_2 _ _ _ _ _) (eP (Ev.bind he (evPos (by dsimp only; omega) ?_))), h1, by omega, by omega⟩
  rw [w6]
  exact hr
theorem word13_ev {s : List Int} {p : Int} (h : Rdr s p) (hp : p ≤ 999999999900) : ∃ r p', Ev (fun k => spec_l13Word.f k s p) (r, p') ∧ r.size ≤ 12 ∧ p ≤ p' ∧ p' ≤ p + 10 := by
 have h0 := h.2.2.1
 obtain ⟨v, hv, v0, v1⟩ := pick_ev h 3 (by omega)
 unfold spec_l13Word.f
 by_cases c : v = 0
 ·obtain ⟨u, hu, u0, u1⟩ := pick_ev (h.at_ (p + 1) (by omega) (by omega)) 5 (by omega)
  obtain ⟨d, hd⟩ := Int.eq_ofNat_of_zero_le (show 0 ≤ 1 + u from by omega)
  obtain ⟨r, p', hr, h1, h2, h3⟩ := word13_loop d (⟨#[]⟩ : ByteArray) (1 + u) (p + 1 + 1) (h.at_ _ (by omega) (by omega)) (by omega) hd (by have : (⟨#[]⟩ : ByteArray).size = 0 := rfl; omega)
  refine ⟨r, p', Ev.bind hv (evPos c (Ev.bind hu ?_)), h1, by omega, by omega⟩
  rw [w64 (by dsimp only; omega) (by dsimp only; omega)]
  exact hr
 ·obtain ⟨y, hy, he⟩ := of_ev (h.at_ (p + 1) (by omega) (by omega)) ([(⟨#[99, 97, 116]⟩ : ByteArray), (⟨#[99, 97, 116, 115]⟩ : ByteArray), (⟨#[97, 99, 116]⟩ : ByteArray), (⟨#[100, 111]⟩ : ByteArray), (⟨#[100, 111, 105, 110, 103]⟩ : ByteArray), (⟨#[103, 111]⟩ : ByteArray), (⟨#[117, 110, 100, 111]⟩ : ByteArray), (⟨#[116, 114, 121]⟩ : ByteArray), (⟨#[116, 114, 105, 101, 115]⟩ : ByteArray), (⟨#[97]⟩ : ByteArray), (⟨#[98, 97, 107, 101]⟩ : ByteArray), (⟨#[98, 97, 107, 105, 110, 103]⟩ : ByteArray), (⟨#[116, 97, 99, 116]⟩ : ByteArray), (⟨#[99, 97, 114, 116]⟩ : ByteArray), (⟨#[97, 98, 99, 97, 98, 99, 97, 98, 99, 97, 98, 99]⟩ : ByteArray)] : List ByteArray) (by simp) (by simp)
  refine ⟨y, p + 1 + 1, Ev.bind hv (evNeg c (Ev.bind he (Ev.now _))), ?_, by omega, by omega⟩
  simp only [List.mem_cons, List.not_mem_nil, or_false] at hy
  rcases hy with rfl | rfl | rfl | rfl | rfl | rfl | rfl | rfl | rfl | rfl | rfl | rfl | rfl | rfl | rfl <;> decide
theorem any13_ev {s : List Int} {p : Int} (h : Rdr s p) (hp : p ≤ 999999999800) : ∃ r p', Ev (fun k => spec_l13AnyWord.f k s p) (r, p') ∧ r.size ≤ 13 ∧ p ≤ p' ∧ p' ≤ p + 11 := by
 have h0 := h.2.2.1
 obtain ⟨v, hv, v0, v1⟩ := pick_ev h 16 (by omega)
 unfold spec_l13AnyWord.f
 by_cases c : v = 0
 ·obtain ⟨y, hy, he⟩ := of_ev (h.at_ (p + 1) (by omega) (by omega)) ([(⟨#[]⟩ : ByteArray), (⟨#[67, 97, 116]⟩ : ByteArray), (⟨#[97, 32, 98]⟩ : ByteArray), (⟨#[97, 98, 99, 97, 98, 99, 97, 98, 99, 97, 98, 99, 97]⟩ : ByteArray), (⟨#[120, 49]⟩ : ByteArray), (⟨#[45]⟩ : ByteArray)] : List ByteArray) (by simp) (by simp)
  refine ⟨y, p + 1 + 1, Ev.bind hv (evPos c (Ev.bind he (Ev.now _))), ?_, by omega, by omega⟩
  simp only [List.mem_cons, List.not_mem_nil, or_false] at hy
  rcases hy with rfl | rfl | rfl | rfl | rfl | rfl <;> decide
 ·obtain ⟨r, p', hr, h1, h2, h3⟩ := word13_ev (h.at_ (p + 1) (by omega) (by omega)) (by omega)
  exact ⟨r, p', Ev.bind hv (evNeg c (Ev.bind hr (Ev.now _))), by omega, by omega, by omega⟩
abbrev AfZ (a : Af) : Prop := a.f0.size ≤ 13 ∧ a.f2.size ≤ 13 ∧ a.f3.size ≤ 13 ∧ a.f4.size ≤ 13
abbrev AfY (a : Af) : Prop := AfZ a ∧ affOk a.f0 a.f1 a.f2 a.f3 a.f4 = true
abbrev EnZ (e : En) : Prop := e.f0.size ≤ 13 ∧ e.f1.size ≤ 5
theorem affix13_ev {s : List Int} {p : Int} (h : Rdr s p) : ∃ g fr st ad wh, Ev (fun k => spec_l13Affix.f k s p) (g, fr, st, ad, wh, p + 1) ∧ AfY ⟨g, fr, st, ad, wh⟩ := by
 unfold spec_l13Affix.f AfY AfZ
 obtain ⟨v, hv, v0, v1⟩ := pick_ev h 8 (by omega)
 have hs : v = 0 ∨ v = 1 ∨ v = 2 ∨ v = 3 ∨ v = 4 ∨ v = 5 ∨ v = 6 ∨ v = 7 := by omega
 refine ⟨_, _, _, _, _, evCall rfl (Ev.bind hv (evPos v0 (evPos (by simp only [List.length]; omega) (Ev.now _)))), ?_⟩
 rcases hs with rfl | rfl | rfl | rfl | rfl | rfl | rfl | rfl <;> exact ⟨by dsimp only; decide, by dsimp only; decide⟩
theorem anyAffix_ev {s : List Int} {p : Int} (h : Rdr s p) (hp : p ≤ 999999999000) : ∃ g fr st ad wh p', Ev (fun k => spec_l13AnyAffix.f k s p) (g, fr, st, ad, wh, p') ∧ AfZ ⟨g, fr, st, ad, wh⟩ ∧ p ≤ p' ∧ p' ≤ p + 10 := by
 have h0 := h.2.2.1
 obtain ⟨g, fr, st, ad, wh, he, ⟨z0, z1, z2, z3⟩, _⟩ := affix13_ev h
 obtain ⟨v, hv, v0, v1⟩ := pick_ev (h.at_ (p + 1) (by omega) (by omega)) 12 (by omega)
 have h2 := h.at_ (p + 1 + 1) (by omega) (by omega)
 unfold spec_l13AnyAffix.f
 by_cases c0 : v = 0
 ·obtain ⟨y, hy, hy2⟩ := of_ev h2 ([(⟨#[]⟩ : ByteArray), (⟨#[115]⟩ : ByteArray), (⟨#[65, 66]⟩ : ByteArray), (⟨#[90]⟩ : ByteArray)] : List ByteArray) (by simp) (by simp)
  refine ⟨y, fr, st, ad, wh, p + 1 + 1 + 1, Ev.bind he (Ev.bind hv (evPos c0 (Ev.bind hy2 (Ev.now _)))), ⟨?_, z1, z2, z3⟩, by omega, by omega⟩
  simp only [List.mem_cons, List.not_mem_nil, or_false] at hy
  rcases hy with rfl | rfl | rfl | rfl <;> (dsimp only; decide)
 by_cases c1 : v = 1
 ·obtain ⟨y, hy, hy2⟩ := of_ev h2 ([(⟨#[121]⟩ : ByteArray), (⟨#[97, 98, 99, 100, 101]⟩ : ByteArray), (⟨#[]⟩ : ByteArray), (⟨#[89]⟩ : ByteArray)] : List ByteArray) (by simp) (by simp)
  refine ⟨g, fr, y, ad, wh, p + 1 + 1 + 1, Ev.bind he (Ev.bind hv (evNeg c0 (evPos c1 (Ev.bind hy2 (Ev.now _))))), ⟨z0, ?_, z2, z3⟩, by omega, by omega⟩
  simp only [List.mem_cons, List.not_mem_nil, or_false] at hy
  rcases hy with rfl | rfl | rfl | rfl <;> (dsimp only; decide)
 by_cases c2 : v = 2
 ·obtain ⟨y, hy, hy2⟩ := of_ev h2 ([(⟨#[121]⟩ : ByteArray), (⟨#[116, 121]⟩ : ByteArray), (⟨#[97, 98, 99, 100, 101]⟩ : ByteArray), (⟨#[]⟩ : ByteArray)] : List ByteArray) (by simp) (by simp)
  refine ⟨g, fr, st, ad, y, p + 1 + 1 + 1, Ev.bind he (Ev.bind hv (evNeg c0 (evNeg c1 (evPos c2 (Ev.bind hy2 (Ev.now _)))))), ⟨z0, z1, z2, ?_⟩, by omega, by omega⟩
  simp only [List.mem_cons, List.not_mem_nil, or_false] at hy
  rcases hy with rfl | rfl | rfl | rfl <;> (dsimp only; decide)
 by_cases c3 : v = 3
 ·exact ⟨g, !fr, st, ad, wh, p + 1 + 1, Ev.bind he (Ev.bind hv (evNeg c0 (evNeg c1 (evNeg c2 (evPos c3 (Ev.now _)))))), ⟨z0, z1, z2, z3⟩, by omega, by omega⟩
 ·exact ⟨g, fr, st, ad, wh, p + 1 + 1, Ev.bind he (Ev.bind hv (evNeg c0 (evNeg c1 (evNeg c2 (evNeg c3 (Ev.now _)))))), ⟨z0, z1, z2, z3⟩, by omega, by omega⟩
theorem entry13_ev {s : List Int} {p : Int} (h : Rdr s p) (w : ByteArray) : ∃ fl, Ev (fun k => spec_l13Entry.f k s p w) (w, fl, p + 1) ∧ fl.size ≤ 5 := by
 obtain ⟨y, hy, he⟩ := of_ev h ([(⟨#[]⟩ : ByteArray), (⟨#[]⟩ : ByteArray), (⟨#[83]⟩ : ByteArray), (⟨#[71, 83]⟩ : ByteArray), (⟨#[85]⟩ : ByteArray), (⟨#[71, 85]⟩ : ByteArray), (⟨#[82]⟩ : ByteArray), (⟨#[84]⟩ : ByteArray), (⟨#[67, 82, 83, 85]⟩ : ByteArray)] : List ByteArray) (by simp) (by simp)
 unfold spec_l13Entry.f
 refine ⟨y, Ev.bind he (Ev.now _), ?_⟩
 simp only [List.mem_cons, List.not_mem_nil, or_false] at hy
 rcases hy with rfl | rfl | rfl | rfl | rfl | rfl | rfl | rfl | rfl <;> decide
theorem affixes_known (s : List Int) (p : Int) (out : List Af) (n : Int) (g : ByteArray) (fr : Bool) (st ad wh : ByteArray) (hl : out.length ≤ 1000) (d : Nat) : ∀ (i : Nat) (b : Bool), i + d = out.length →
  ∃ c : Bool, ∀ r, Ev (fun k => if c = true then spec_l13Affixes.l0 k out (wrap64 (n - 1)) s p else spec_l13Affixes.l0 k (out ++ [⟨g, fr, st, ad, wh⟩]) (wrap64 (n - 1)) s p) r → Ev (fun k => spec_l13Affixes.l1 k out n b (i : Int) s p g fr st ad wh) r := by
 induction d with
 | zero =>
  intro i b hi
  refine ⟨b, fun r hr => Ev.step (fun k => spec_l13Affixes.l1.eq_2 ..) (eN ?_)⟩
  cases b with
  | true => exact evPos rfl (by simpa using hr)
  | false => exact evNeg (by simp) (eP (by simpa using hr))
 | succ d ih =>
  intro i b hi
  have e : wrap64 ((i : Int) + 1) = ((i + 1 : Nat) : Int) := w6
  cases b with
  | true =>
   obtain ⟨c, hc⟩ := ih (i + 1) true (by omega)
   refine ⟨c, fun r hr => Ev.step (fun k => spec_l13Affixes.l1.eq_2 ..) (eP (evPos rfl ?_))⟩
   rw [e]
   exact hc r hr
  | false =>
   obtain ⟨c, hc⟩ := ih (i + 1) _ (by omega)
   refine ⟨c, fun r hr => Ev.step (fun k => spec_l13Affixes.l1.eq_2 ..) (eP (evNeg (by simp) (eP ?_)))⟩
   rw [e]
   exact hc r hr
theorem affixes_loop {s : List Int} (d : Nat) : ∀ (out : List Af) (n p : Int), Rdr s p → p + d ≤ 1000000000000 → n = d → out.length + d ≤ 4 → (∀ a ∈ out, AfY a) →
  ∃ A p', Ev (fun k => spec_l13Affixes.l0 k out n s p) (A, p') ∧ A.length ≤ 4 ∧ (∀ a ∈ A, AfY a) ∧ p ≤ p' ∧ p' ≤ p + d := by
 induction d with
 | zero =>
  intro out n p h hp hn hl hz
  exact ⟨out, p, Ev.step (fun k => spec_l13Affixes.l0.eq_2 ..) (eN (Ev.now _)), by omega, hz, by omega, by omega⟩
 | succ d ih =>
  intro out n p h hp hn hl hz
  have h0 := h.2.2.1
  obtain ⟨g, fr, st, ad, wh, he, hg⟩ := affix13_ev h
  obtain ⟨c, hc⟩ := affixes_known s (p + 1) out n g fr st ad wh (by omega) out.length 0 false (by omega)
  have hr : Rdr s (p + 1) := h.at_ _ (by omega) (by omega)
  have ew : wrap64 (n - 1) = n - 1 := w6
  rw [ew] at hc
  cases c with
  | true =>
   obtain ⟨A, p', h1, h2, h3, h4, h5⟩ := ih out (n - 1) (p + 1) hr (by omega) (by omega) (by omega) hz
   exact ⟨A, p', Ev.step (fun k => spec_l13Affixes.l0.eq_2 ..) (eP (Ev.bind he (hc _ (by simpa using h1)))), h2, h3, by omega, by omega⟩
  | false =>
   obtain ⟨A, p', h1, h2, h3, h4, h5⟩ := ih (out ++ [⟨g, fr, st, ad, wh⟩]) (n - 1) (p + 1) hr (by omega) (by omega) (by simp; omega) (fun a ha => by
    rcases List.mem_append.1 ha with ha | ha
    ·exact hz a ha
    ·rw [List.mem_singleton.1 ha]
     exact hg)
   exact ⟨A, p', Ev.step (fun k => spec_l13Affixes.l0.eq_2 ..) (eP (Ev.bind he (hc _ (by simpa using h1)))), h2, h3, by omega, by omega⟩
theorem affixes13_ev {s : List Int} {p : Int} (h : Rdr s p) (hp : p ≤ 999999999000) : ∃ A p', Ev (fun k => spec_l13Affixes.f k s p) (A, p') ∧ A.length ≤ 4 ∧ (∀ a ∈ A, AfY a) ∧ p ≤ p' ∧ p' ≤ p + 5 := by
 have h0 := h.2.2.1
 obtain ⟨v, hv, v0, v1⟩ := pick_ev h 5 (by omega)
 obtain ⟨d, hd⟩ := Int.eq_ofNat_of_zero_le v0
 have hd4 : d ≤ 4 := by
  rcases v1 with v1 | v1 <;> omega
 obtain ⟨A, p', h1, h2, h3, h4, h5⟩ := affixes_loop (s := s) d [] v (p + 1) (h.at_ _ (by omega) (by omega)) (by omega) hd (by simpa using hd4) (by simp)
 unfold spec_l13Affixes.f
 exact ⟨A, p', Ev.bind hv h1, h2, h3, by omega, by omega⟩
theorem nodup_le {α : Type} [DecidableEq α] : ∀ (l k : List α), l.Nodup → (∀ x ∈ l, x ∈ k) → l.length ≤ k.length
 | [], _, _, _ => by simp
 | x :: l, k, hn, hs => by
  have hx := hs x (by simp)
  have hn' := List.nodup_cons.1 hn
  have := nodup_le l (k.erase x) hn'.2 (fun y hy => by
   have hne : y ≠ x := fun e => hn'.1 (e ▸ hy)
   exact (List.mem_erase_of_ne hne).2 (hs y (by simp [hy])))
  rw [List.length_erase_of_mem hx] at this
  have : 0 < k.length := List.length_pos_of_mem hx
  rw [List.length_cons]
  omega
def fillW (j : Nat) : ByteArray := (⟨#[119]⟩ : ByteArray) ++ strOfNums [(wrap64 (97 + (j : Int))) % 256]
theorem fillW_size (j : Nat) : (fillW j).size = 2 := by
 unfold fillW
 rw [size_append]
 rfl
theorem fillW_inj {i j : Nat} (hi : i < 24) (hj : j < 24) (h : fillW i = fillW j) : i = j := by
 have hb : ∀ n : Nat, n < 24 → (fillW n).data.toList = [119, UInt8.ofNat (97 + n)] := by
  intro n hn
  unfold fillW
  rw [w6, show ((97 + (n : Int)) % 256) = ((97 + n : Nat) : Int) from by omega]
  rw [ByteArray.data_append, Array.toList_append]
  show [119] ++ [UInt8.ofNat ((97 + n : Nat) : Int).toNat] = _
  rw [Int.toNat_natCast]
  rfl
 have h1 := hb i hi
 rw [h, hb j hj] at h1
 simp only [List.cons.injEq, true_and, and_true] at h1
 have h2 := congrArg UInt8.toNat h1
 simp only [UInt8.toNat_ofNat'] at h2
 omega
abbrev WZ (ws : List ByteArray) : Prop := ∀ w ∈ ws, w.size ≤ 13
theorem putL_WZ {ws : List ByteArray} {w : ByteArray} (h : WZ ws) (hw : w.size ≤ 13) : WZ (putL ws w) := by
 intro x hx
 rcases (putL_mem ws w x).1 hx with hx | hx
 ·exact h x hx
 ·rw [hx]
  exact hw
theorem ents_draw {s : List Int} (A : List Af) (ws : List ByteArray) (hl : ws.length ≤ 100) (hz : WZ ws) (d : Nat) : ∀ (i : Nat) (E : List En) (p : Int), i + d = ws.length → Rdr s p → p + d ≤ 1000000000000 → E.length = i → (∀ e ∈ E, EnZ e) →
  ∃ E' p', Ev (fun k => spec_l13Book.l2 k ws (i : Int) s p A E) (A, E', p') ∧ E'.length = ws.length ∧ (∀ e ∈ E', EnZ e) ∧ p ≤ p' ∧ p' ≤ p + d := by
 induction d with
 | zero =>
  intro i E p hi h hp hE he
  exact ⟨E, p, Ev.step (fun k => spec_l13Book.l2.eq_2 ..) (eN (Ev.now _)), by omega, he, by omega, by omega⟩
 | succ d ih =>
  intro i E p hi h hp hE he
  have h0 := h.2.2.1
  have hlt : i < ws.length := by omega
  obtain ⟨fl, hf, hf2⟩ := entry13_ev h ws[i]
  obtain ⟨E', p', h1, h2, h3, h4, h5⟩ := ih (i + 1) (E ++ [⟨ws[i], fl⟩]) (p + 1) (by omega) (h.at_ _ (by omega) (by omega)) (by omega) (by simp [hE]) (fun e he' => by
   rcases List.mem_append.1 he' with he' | he'
   ·exact he e he'
   ·rw [List.mem_singleton.1 he']
    exact ⟨hz _ (List.getElem_mem hlt), hf2⟩)
  refine ⟨E', p', Ev.step (fun k => spec_l13Book.l2.eq_2 ..) (eP (eP ?_)), h2, h3, by omega, by omega⟩
  rw [ba_get ws i hlt, w6 (n := (i : Int) + 1)]
  exact Ev.bind hf (evPos (by omega) h1)
theorem fill_loop {s : List Int} {p : Int} (A : List Af) {Q : List En → Int → Prop} (fin : ∀ ws : List ByteArray, ws.length ≤ 24 → WZ ws → ∃ E p', Ev (fun k => spec_l13Book.j2 k ws s p A) (A, E, p') ∧ Q E p') (d : Nat) : ∀ (j : Nat) (ws : List ByteArray), j + d = 24 → ws.length ≤ 24 → WZ ws → (∀ i, i < j → fillW i ∈ ws) →
  ∃ E p', Ev (fun k => spec_l13Book.l1 k ws (j : Int) s p A) (A, E, p') ∧ Q E p' := by
 have out : ∀ (j : Nat) (ws : List ByteArray), ¬ (ws.length : Int) < 24 → ws.length ≤ 24 → WZ ws → ∃ E p', Ev (fun k => spec_l13Book.l1 k ws (j : Int) s p A) (A, E, p') ∧ Q E p' := by
  intro j ws h1 h2 h3
  obtain ⟨E, p', h4, h5⟩ := fin ws (by omega) h3
  exact ⟨E, p', Ev.step (fun k => spec_l13Book.l1.eq_2 ..) (evNeg h1 h4), h5⟩
 induction d with
 | zero =>
  intro j ws hj hl hz hin
  refine out j ws ?_ hl hz
  have := nodup_le ((List.range 24).map fillW) ws (by
   rw [List.nodup_iff_pairwise_ne, List.pairwise_map]
   refine (List.nodup_range (n := 24)).imp_of_mem ?_
   intro a b ha hb hne e
   exact hne (fillW_inj (List.mem_range.1 ha) (List.mem_range.1 hb) e)) (fun x hx => by
    obtain ⟨i, hi, rfl⟩ := List.mem_map.1 hx
    exact hin i (by have := List.mem_range.1 hi; omega))
  simp only [List.length_map, List.length_range] at this
  omega
 | succ d ih =>
  intro j ws hj hl hz hin
  by_cases c : (ws.length : Int) < 24
  ·have hp := (putL_length ws (fillW j)).2
   obtain ⟨E, p', h4, h5⟩ := ih (j + 1) (putL ws (fillW j)) (by omega) (by omega) (putL_WZ hz (by rw [fillW_size]; omega)) (fun i hi => (putL_mem ws (fillW j) _).2 (by
    by_cases e : i = j
    ·exact .inr (by rw [e])
    ·exact .inl (hin i (by omega))))
   refine ⟨E, p', Ev.step (fun k => spec_l13Book.l1.eq_2 ..) (evPos c (evCall rfl (evPos ?_ (Ev.bind (put_ev ws (fillW j) (by omega)) ?_)))), h5⟩
   ·show 1 + (strOfNums [_]).size ≤ 9223372036854775807
    have : (strOfNums [(wrap64 (97 + (j : Int))) % 256]).size = 1 := rfl
    omega
   ·rw [w6 (n := (j : Int) + 1)]
    exact h4
  ·exact out j ws c hl hz
theorem book_words {s : List Int} (A : List Af) (d : Nat) : ∀ (ws : List ByteArray) (n p : Int), Rdr s p → p + 100 + 11 * d ≤ 999999999000 → n = d → ws.length + d ≤ 24 → WZ ws →
  ∃ E p', Ev (fun k => spec_l13Book.l0 k ws n s p A) (A, E, p') ∧ (E.length ≤ 24 ∧ (∀ e ∈ E, EnZ e)) ∧ p ≤ p' ∧ p' ≤ p + 200 + 11 * d := by
 induction d with
 | zero =>
  intro ws n p h hp hn hl hz
  have h0 := h.2.2.1
  obtain ⟨v, hv, v0, v1⟩ := pick_ev h 30 (by omega)
  have hr := h.at_ (p + 1) (by omega) (by omega)
  have fin : ∀ ws : List ByteArray, ws.length ≤ 24 → WZ ws → ∃ E p', Ev (fun k => spec_l13Book.j2 k ws s (p + 1) A) (A, E, p') ∧ (E.length ≤ 24 ∧ (∀ e ∈ E, EnZ e)) ∧ p ≤ p' ∧ p' ≤ p + 200 := by
   intro ws hl hz
   obtain ⟨E, p', h1, h2, h3, h4, h5⟩ := ents_draw (s := s) A ws (by omega) hz ws.length 0 [] (p + 1) (by omega) hr (by omega) rfl (by simp)
   exact ⟨E, p', Ev.step (fun k => spec_l13Book.j2.eq_2 ..) h1, ⟨by omega, h3⟩, by omega, by omega⟩
  by_cases c : v = 0
  ·have fin' : ∀ ws : List ByteArray, ws.length ≤ 24 → WZ ws → ∃ E p', Ev (fun k => spec_l13Book.j2 k ws s (p + 1) A) (A, E, p') ∧ ((E.length ≤ 24 ∧ (∀ e ∈ E, EnZ e)) ∧ p ≤ p' ∧ p' ≤ p + 200) := fin
   obtain ⟨E, p', h1, h2⟩ := fill_loop A fin' 24 0 ws (by omega) (by omega) hz (fun i hi => absurd hi (by omega))
   exact ⟨E, p', Ev.step (fun k => spec_l13Book.l0.eq_2 ..) (eN (Ev.bind hv (evPos c h1))), h2.1, h2.2.1, by have := h2.2.2; omega⟩
  ·obtain ⟨E, p', h1, h2, h3, h4⟩ := fin ws (by omega) hz
   exact ⟨E, p', Ev.step (fun k => spec_l13Book.l0.eq_2 ..) (eN (Ev.bind hv (evNeg c h1))), h2, h3, by omega⟩
 | succ d ih =>
  intro ws n p h hp hn hl hz
  have h0 := h.2.2.1
  obtain ⟨w, p1, hw, w1, w2, w3⟩ := word13_ev h (by omega)
  have hp2 := (putL_length ws w).2
  obtain ⟨E, p', h1, h2, h3, h4⟩ := ih (putL ws w) (n - 1) p1 (h.at_ _ (by omega) (by omega)) (by omega) (by omega) (by omega) (putL_WZ hz (by omega))
  refine ⟨E, p', Ev.step (fun k => spec_l13Book.l0.eq_2 ..) (eP (Ev.bind hw (Ev.bind (put_ev ws w (by omega)) ?_))), h2, by omega, by omega⟩
  rw [w6 (n := n - 1)]
  exact h1
theorem book13_ev {s : List Int} {p : Int} (h : Rdr s p) (hp : p ≤ 999999998000) : ∃ A E p', Ev (fun k => spec_l13Book.f k s p) (A, E, p') ∧ (A.length ≤ 4 ∧ (∀ a ∈ A, AfY a)) ∧ (E.length ≤ 24 ∧ (∀ e ∈ E, EnZ e)) ∧ p ≤ p' ∧ p' ≤ p + 300 := by
 have h0 := h.2.2.1
 obtain ⟨A, p1, h1, h2, h3, h4, h5⟩ := affixes13_ev h (by omega)
 have hr1 := h.at_ p1 (by omega) (by omega)
 obtain ⟨v, hv, v0, v1⟩ := pick_ev hr1 7 (by omega)
 obtain ⟨d, hd⟩ := Int.eq_ofNat_of_zero_le v0
 have hd6 : d ≤ 6 := by
  rcases v1 with v1 | v1 <;> omega
 obtain ⟨E, p', k1, k2, k3, k4⟩ := book_words (s := s) A d [] v (p1 + 1) (h.at_ _ (by omega) (by omega)) (by omega) hd (by simp; omega) (fun w hw => by cases hw)
 unfold spec_l13Book.f
 exact ⟨A, E, p', Ev.bind h1 (Ev.bind hv k1), ⟨h2, h3⟩, k2, by omega, by omega⟩
theorem anyBook_ev {s : List Int} {p : Int} (h : Rdr s p) (hp : p ≤ 999999997000) : ∃ A E p', Ev (fun k => spec_l13AnyBook.f k s p) (A, E, p') ∧ (A.length ≤ 5 ∧ (∀ a ∈ A, AfZ a)) ∧ (E.length ≤ 25 ∧ (∀ e ∈ E, EnZ e)) ∧ p ≤ p' ∧ p' ≤ p + 400 := by
 have h0 := h.2.2.1
 obtain ⟨A, E, p1, h1, ⟨a1, a2⟩, ⟨e1, e2⟩, h4, h5⟩ := book13_ev h (by omega)
 obtain ⟨v, hv, v0, v1⟩ := pick_ev (h.at_ p1 (by omega) (by omega)) 16 (by omega)
 have hr := h.at_ (p1 + 1) (by omega) (by omega)
 unfold spec_l13AnyBook.f
 by_cases c0 : v = 0
 ·obtain ⟨g, fr, st, ad, wh, p2, hg, hz, q1, q2⟩ := anyAffix_ev hr (by omega)
  refine ⟨A ++ [⟨g, fr, st, ad, wh⟩], E, p2, Ev.bind h1 (Ev.bind hv (evPos c0 (Ev.bind hg (evPos (by dsimp only; omega) (Ev.now _))))), ⟨by simp; omega, fun a ha => ?_⟩, ⟨by omega, e2⟩, by omega, by omega⟩
  rcases List.mem_append.1 ha with ha | ha
  ·exact (a2 a ha).1
  ·rw [List.mem_singleton.1 ha]
   exact hz
 by_cases c1 : v = 1
 ·obtain ⟨w, p2, hw, hz, q1, q2⟩ := any13_ev hr (by omega)
  obtain ⟨y, hy, he⟩ := of_ev (h.at_ p2 (by omega) (by omega)) ([(⟨#[]⟩ : ByteArray), (⟨#[83, 71]⟩ : ByteArray), (⟨#[115]⟩ : ByteArray), (⟨#[65, 66, 67, 68, 69]⟩ : ByteArray)] : List ByteArray) (by simp) (by simp)
  refine ⟨A, E ++ [⟨w, y⟩], p2 + 1, Ev.bind h1 (Ev.bind hv (evNeg c0 (evPos c1 (Ev.bind hw (Ev.bind he (evPos (by dsimp only; omega) (Ev.now _))))))), ⟨by omega, fun a ha => (a2 a ha).1⟩, ⟨by simp; omega, fun e he' => ?_⟩, by omega, by omega⟩
  rcases List.mem_append.1 he' with he' | he'
  ·exact e2 e he'
  ·rw [List.mem_singleton.1 he']
   refine ⟨hz, ?_⟩
   simp only [List.mem_cons, List.not_mem_nil, or_false] at hy
   rcases hy with rfl | rfl | rfl | rfl <;> (dsimp only; decide)
 by_cases c2 : v = 2
 ·by_cases c3 : (E.length : Int) > 0
  ·obtain ⟨y, hy, he⟩ := of_ev hr ([(⟨#[]⟩ : ByteArray), (⟨#[122, 122]⟩ : ByteArray), (⟨#[65]⟩ : ByteArray)] : List ByteArray) (by simp) (by simp)
   have hlt : 0 < E.length := by omega
   refine ⟨A, E.set (0 : Int).toNat ⟨y, (rd_T78 E 0).f1⟩, p1 + 1 + 1, Ev.bind h1 (Ev.bind hv (evNeg c0 (evNeg c1 (evPos c2 (evPos c3 (Ev.bind he (evPos (by dsimp only; omega) (Ev.now _)))))))), ⟨by omega, fun a ha => (a2 a ha).1⟩, ⟨by simp; omega, fun e he' => ?_⟩, by omega, by omega⟩
   rcases List.mem_or_eq_of_mem_set he' with he' | he'
   ·exact e2 e he'
   ·rw [he']
    have e0 : rd_T78 E 0 = E[0] := by simp [rd_T78, List.getD_eq_getElem?_getD, hlt]
    rw [e0]
    refine ⟨?_, (e2 _ (List.getElem_mem hlt)).2⟩
    simp only [List.mem_cons, List.not_mem_nil, or_false] at hy
    rcases hy with rfl | rfl | rfl <;> (dsimp only; decide)
  ·exact ⟨A, E, p1 + 1, Ev.bind h1 (Ev.bind hv (evNeg c0 (evNeg c1 (evPos c2 (evNeg c3 (Ev.now _)))))), ⟨by omega, fun a ha => (a2 a ha).1⟩, ⟨by omega, e2⟩, by omega, by omega⟩
 ·exact ⟨A, E, p1 + 1, Ev.bind h1 (Ev.bind hv (evNeg c0 (evNeg c1 (evNeg c2 (Ev.now _))))), ⟨by omega, fun a ha => (a2 a ha).1⟩, ⟨by omega, e2⟩, by omega, by omega⟩
theorem bkSz_of {A : List Af} {E : List En} (ha : A.length ≤ 5) (hz : ∀ a ∈ A, AfZ a) (he : E.length ≤ 25) (hy : ∀ e ∈ E, EnZ e) : BkSz A E := by
 refine ⟨by omega, by omega, fun s hs => ?_, fun s hs => ?_⟩
 ·have := hz s hs
  unfold AfZ at this
  omega
 ·have := hy s hs
  unfold EnZ at this
  omega
theorem of13_ev {s : List Int} {p : Int} (h : Rdr s p) (hp : p ≤ 999999990000) (A : List Af) (E : List En) (hb : BkSz A E) : ∃ x p', Ev (fun k => spec_l13Of.f k s p A E) (x, p') ∧ x.size ≤ 13 ∧ p ≤ p' ∧ p' ≤ p + 50 := by
 have h0 := h.2.2.1
 have ok := bookOk_spec A E hb
 have no : ∀ q : Int, Rdr s q → q ≤ 999999999000 → ∃ x p', Ev (fun k => spec_l13Of.j0 k false s q A E) (x, p') ∧ x.size ≤ 13 ∧ q ≤ p' ∧ p' ≤ q + 40 := by
  intro q hq hq2
  obtain ⟨r, p', hr, h1, h2, h3⟩ := any13_ev hq (by omega)
  exact ⟨r, p', Ev.step (fun k => spec_l13Of.j0.eq_2 ..) (evNeg (by simp) (Ev.bind hr (Ev.now _))), h1, h2, by omega⟩
 unfold spec_l13Of.f
 by_cases e : bookB A E = true
 ·rw [e] at ok
  obtain ⟨v, hv, v0, v1⟩ := pick_ev h 2 (by omega)
  have hr1 := h.at_ (p + 1) (by omega) (by omega)
  by_cases c : v = 0
  ·simp only [bookB, Bool.and_eq_true] at e
   obtain ⟨h1, h2⟩ := affs_all e.1
   have h3 := ents_all e.2
   have hw := l2Words_ev A E h1 h2 hb.e h3.2
   have hlen := wordsL_length h2 E
   by_cases c2 : ((wordsL A E []).length : Int) > 0
   ·obtain ⟨u, hu, u0, u1⟩ := pick_ev hr1 ((wordsL A E []).length : Int) (by omega)
    obtain ⟨i, rfl⟩ := Int.eq_ofNat_of_zero_le u0
    have hi : i < (wordsL A E []).length := by omega
    obtain ⟨en, hen, hm⟩ := (wordsL_mem A E _).1 (List.getElem_mem hi)
    have hwd := forms_words (fl := en.f1) (ent_word (h3.1 en hen)).1 _ hm
    have hsz := wordB_size hwd
    refine ⟨(wordsL A E [])[i], p + 1 + 1, Ev.bind ok (evPos rfl (Ev.bind hv (Ev.step (fun k => spec_l13Of.j0.eq_2 ..) (evPos (by simp [c]) (Ev.bind hw (evPos c2 (Ev.bind hu (eP (evPos (by dsimp only; omega) ?_))))))))), by omega, by omega, by omega⟩
    dsimp only
    rw [ba_get _ i hi]
    exact Ev.now _
   ·obtain ⟨r, p', hr, q1, q2, q3⟩ := any13_ev hr1 (by omega)
    exact ⟨r, p', Ev.bind ok (evPos rfl (Ev.bind hv (Ev.step (fun k => spec_l13Of.j0.eq_2 ..) (evPos (by simp [c]) (Ev.bind hw (evNeg c2 (Ev.bind hr (Ev.now _)))))))), q1, by omega, by omega⟩
  ·obtain ⟨x, p', hx, hz⟩ := no (p + 1) hr1 (by omega)
   have cb : (v == 0) = false := by simpa using c
   exact ⟨x, p', Ev.bind ok (evPos rfl (Ev.bind hv (by dsimp only; rw [cb]; exact hx))), hz.1, by omega, by omega⟩
 ·rw [Bool.not_eq_true] at e
  rw [e] at ok
  obtain ⟨x, p', hx, hz⟩ := no p h (by omega)
  exact ⟨x, p', Ev.bind ok (evNeg (by simp) hx), hz.1, by omega, by omega⟩
theorem many_loop (d : Nat) : ∀ (x : ByteArray) (n : Nat) (y : ByteArray), n < 2 ^ d → n ≤ 1000000 → y.size + x.size * 2 ^ d ≤ 1000000 + x.size → x.size * 2 ^ d ≤ 1000000 → ∃ r, Ev (fun k => spec_l1Many.l0 k x (n : Int) y) r ∧ r.size ≤ 1000000 := by
 induction d with
 | zero =>
  intro x n y hn _ h1 h2
  rw [Nat.pow_zero] at hn h1
  refine ⟨y, Ev.step (fun k => spec_l1Many.l0.eq_2 ..) (eN (Ev.now _)), by omega⟩
 | succ d ih =>
  intro x n y hn hN h1 h2
  have hp := Nat.two_pow_pos d
  obtain ⟨P, hP⟩ : ∃ P, 2 ^ d = P := ⟨_, rfl⟩
  rw [Nat.pow_succ, hP, ← Nat.mul_assoc] at h1 h2
  rw [Nat.pow_succ, hP] at hn
  rw [hP] at hp
  simp only [hP] at ih
  clear hP
  have e2 : (x ++ x).size * P = x.size * P * 2 := by rw [size_append, Nat.add_mul]; omega
  have e3 : x.size ≤ x.size * P := Nat.le_mul_of_pos_right _ hp
  have e5 : (x ++ x).size = x.size + x.size := size_append ..
  have e6 : (y ++ x).size = y.size + x.size := size_append ..
  by_cases c : n = 0
  ·exact ⟨y, Ev.step (fun k => spec_l1Many.l0.eq_2 ..) (eN (Ev.now _)), by omega⟩
  have g0 : (n : Int) > 0 := by omega
  have g1 : y.size + x.size ≤ 9223372036854775807 := by omega
  have g2 : x.size + x.size ≤ 9223372036854775807 := by omega
  have k1 : n / 2 < P := by omega
  have k2 : n / 2 ≤ 1000000 := by omega
  have k3 : (x ++ x).size * P ≤ 1000000 := by rw [e2]; exact h2
  have k4 : (y ++ x).size + (x ++ x).size * P ≤ 1000000 + (x ++ x).size := by rw [e2, e5, e6]; omega
  have k5 : y.size + (x ++ x).size * P ≤ 1000000 + (x ++ x).size := by rw [e2, e5]; omega
  have k6 : -9223372036854775808 ≤ ((n / 2 : Nat) : Int) := by omega
  have k7 : ((n / 2 : Nat) : Int) ≤ 9223372036854775807 := by omega
  have m1 : n % 2 = 1 → ((n % 2 : Nat) : Int) = 1 := by omega
  have m2 : ¬ n % 2 = 1 → ¬ ((n % 2 : Nat) : Int) = 1 := by omega
  have q1 : Int.tdiv (n : Int) 2 = ((n / 2 : Nat) : Int) := rfl
  have q2 : Int.tmod (n : Int) 2 = ((n % 2 : Nat) : Int) := rfl
  have q3 : wrap64 (Int.tdiv (n : Int) 2) = ((n / 2 : Nat) : Int) := by rw [q1]; exact w64 k6 k7
  by_cases c2 : n % 2 = 1
  ·obtain ⟨r, hr, hz⟩ := ih (x ++ x) (n / 2) (y ++ x) k1 k2 k4 k3
   rw [← q3] at hr
   have st : ∀ k, spec_l1Many.l0 (k + 1) x (n : Int) y = spec_l1Many.l0 k (x ++ x) (wrap64 (Int.tdiv (n : Int) 2)) (y ++ x) := fun k => by
    rw [spec_l1Many.l0.eq_2, if_pos g0, q2, if_pos (m1 c2), if_pos g1, if_pos g2]
   exact ⟨r, Ev.step st hr, hz⟩
  ·obtain ⟨r, hr, hz⟩ := ih (x ++ x) (n / 2) y k1 k2 k5 k3
   rw [← q3] at hr
   have st : ∀ k, spec_l1Many.l0 (k + 1) x (n : Int) y = spec_l1Many.l0 k (x ++ x) (wrap64 (Int.tdiv (n : Int) 2)) y := fun k => by
    rw [spec_l1Many.l0.eq_2, if_pos g0, q2, if_neg (m2 c2), if_pos g2]
   exact ⟨r, Ev.step st hr, hz⟩
theorem many_ev (x y : ByteArray) (hx : x.size = 2) (hy : y.size = 0) (n : Nat) (hn : n ≤ 200) : ∃ r, Ev (fun k => spec_l1Many.l0 k x (n : Int) y) r ∧ r.size ≤ 1000000 :=
 many_loop 8 x n y (by omega) (by omega) (by rw [hx, hy]; decide) (by rw [hx]; decide)
theorem drawCheck_loop {s : List Int} (A : List Af) (E : List En) (hb : BkSz A E) (d : Nat) : ∀ (x : ByteArray) (n p : Int), Rdr s p → p + 100 * d ≤ 999999980000 → n = d → x.size + 21 * d ≤ 1000 → ∃ t, Ev (fun k => spec_DrawCheck.l0 k x n s p A E) (A, E, t) ∧ t.size ≤ 1000000 := by
 induction d with
 | zero =>
  intro x n p h hp hn hx
  have h0 := h.2.2.1
  obtain ⟨v, hv, v0, v1⟩ := pick_ev h 30 (by omega)
  by_cases c : v = 0
  ·obtain ⟨u, hu, u0, u1⟩ := pick_ev (h.at_ (p + 1) (by omega) (by omega)) 3 (by omega)
   obtain ⟨m, hm⟩ := Int.eq_ofNat_of_zero_le (show 0 ≤ 149 + u from by omega)
   obtain ⟨r, hr, hz⟩ := many_ev (⟨#[97, 32]⟩ : ByteArray) (⟨#[]⟩ : ByteArray) rfl rfl m (by omega)
   have hr2 : Ev (fun k => spec_l1Many.f k (⟨#[97, 32]⟩ : ByteArray) (wrap64 (149 + u))) r := by
    unfold spec_l1Many.f
    rw [w6 (n := 149 + u), hm]
    exact hr
   exact ⟨r, Ev.step (fun k => spec_DrawCheck.l0.eq_2 ..) (eN (Ev.bind hv (evPos c (Ev.bind hu (Ev.bind hr2 (Ev.now _)))))), hz⟩
  ·exact ⟨x, Ev.step (fun k => spec_DrawCheck.l0.eq_2 ..) (eN (Ev.bind hv (evNeg c (Ev.now _)))), by omega⟩
 | succ d ih =>
  intro x n p h hp hn hx
  have h0 := h.2.2.1
  obtain ⟨a, p1, ha, za, a1, a2⟩ := of13_ev h (by omega) A E hb
  obtain ⟨b, p2, hw, zb, b1, b2⟩ := word13_ev (h.at_ p1 (by omega) (by omega)) (by omega)
  have hls : ∀ y ∈ ([a, b, (⟨#[67, 65, 84]⟩ : ByteArray), (⟨#[68, 111]⟩ : ByteArray), (⟨#[116, 111, 111, 108, 111, 110, 103, 97, 119, 111, 114, 100, 102, 111, 114, 116, 104, 105, 115]⟩ : ByteArray), (⟨#[49]⟩ : ByteArray)] : List ByteArray), y.size ≤ 19 := by
   intro y hy
   simp only [List.mem_cons, List.not_mem_nil, or_false] at hy
   rcases hy with rfl | rfl | rfl | rfl | rfl | rfl
   ·omega
   ·omega
   all_goals decide
  have hls2 : ∀ y ∈ ([(⟨#[32]⟩ : ByteArray), (⟨#[44, 32]⟩ : ByteArray), (⟨#[46]⟩ : ByteArray), (⟨#[10]⟩ : ByteArray), (⟨#[39]⟩ : ByteArray)] : List ByteArray), y.size ≤ 2 := by
   intro y hy
   simp only [List.mem_cons, List.not_mem_nil, or_false] at hy
   rcases hy with rfl | rfl | rfl | rfl | rfl <;> decide
  obtain ⟨y, hy, he⟩ := of_ev (h.at_ p2 (by omega) (by omega)) ([a, b, (⟨#[67, 65, 84]⟩ : ByteArray), (⟨#[68, 111]⟩ : ByteArray), (⟨#[116, 111, 111, 108, 111, 110, 103, 97, 119, 111, 114, 100, 102, 111, 114, 116, 104, 105, 115]⟩ : ByteArray), (⟨#[49]⟩ : ByteArray)] : List ByteArray) (by simp) (by simp)
  obtain ⟨z, hz, he2⟩ := of_ev (h.at_ (p2 + 1) (by omega) (by omega)) ([(⟨#[32]⟩ : ByteArray), (⟨#[44, 32]⟩ : ByteArray), (⟨#[46]⟩ : ByteArray), (⟨#[10]⟩ : ByteArray), (⟨#[39]⟩ : ByteArray)] : List ByteArray) (by simp) (by simp)
  have y1 := hls y hy
  have z1 := hls2 z hz
  have e1 : (x ++ y).size = x.size + y.size := size_append ..
  have e2 : (x ++ y ++ z).size = (x ++ y).size + z.size := size_append ..
  obtain ⟨t, ht, hts⟩ := ih (x ++ y ++ z) (n - 1) (p2 + 1 + 1) (h.at_ _ (by omega) (by omega)) (by omega) (by omega) (by omega)
  refine ⟨t, Ev.step (fun k => spec_DrawCheck.l0.eq_2 ..) (eP (Ev.bind ha (Ev.bind hw (Ev.bind he (evPos (by dsimp only; omega) (Ev.bind he2 (evPos (by dsimp only; omega) ?_))))))), hts⟩
  rw [w6]
  exact ht
theorem drawCheck_ev (l : List Int) (hw : ∀ x ∈ l, (Lit.int .u8 x).wf = true) : ∃ A E x, Ev (fun k => spec_DrawCheck.f k l) (A, E, x) ∧ BkSz A E ∧ x.size ≤ 1000000 := by
 obtain ⟨s, hs, hr⟩ := open_ev l hw
 obtain ⟨A, E, p1, h1, ha, he, h4, h5⟩ := anyBook_ev hr (by omega)
 have hb := bkSz_of ha.1 ha.2 he.1 he.2
 have hr1 := hr.at_ p1 (by omega) (by omega)
 obtain ⟨v, hv, v0, v1⟩ := pick_ev hr1 7 (by omega)
 obtain ⟨d, hd⟩ := Int.eq_ofNat_of_zero_le v0
 obtain ⟨t, ht, hz⟩ := drawCheck_loop A E hb d (⟨#[]⟩ : ByteArray) v (p1 + 1) (hr1.at_ _ (by omega) (by omega)) (by omega) hd (by have : (⟨#[]⟩ : ByteArray).size = 0 := rfl; omega)
 unfold spec_DrawCheck.f
 exact ⟨A, E, t, evCall hs (Ev.bind h1 (Ev.bind hv ht)), hb, hz⟩
theorem mdGu_loop (l : List Gu) (hl : l.length ≤ 1000000) (d : Nat) : ∀ i : Nat, i + d = l.length → Ev (fun k => laws_mdGuesses.l0 k l l (i : Int)) true := by
 induction d with
 | zero =>
  intro i hi
  exact Ev.step (fun k => laws_mdGuesses.l0.eq_2 ..) (eN (Ev.now _))
 | succ d ih =>
  intro i hi
  refine Ev.step (fun k => laws_mdGuesses.l0.eq_2 ..) (eP (eP (eP (evNeg (by simp) ?_))))
  rw [w6]
  exact ih (i + 1) (by omega)
theorem mdGu_ev (l : List Gu) (hl : l.length ≤ 1000000) : Ev (fun k => laws_mdGuesses.f k l l) true := by
 unfold laws_mdGuesses.f
 exact evPos rfl (mdGu_loop l hl l.length 0 (by omega))
theorem FnCheck : laws_FnCheck.Pure := by
 intro l0 hl hm hw
 refine Ev.rounds ?_
 unfold laws_FnCheck.f
 by_cases c0 : (l0.length : Int) > 1048576
 ·exact evPos c0 (Ev.now _)
 obtain ⟨A, E, s, hd, hb, hs⟩ := drawCheck_ev l0 hw
 have gs := check_spec A E hb s (by omega)
 have gi := check_impl A E hb s (by omega)
 have hn := checkB_length A E s
 have md := mdGu_ev (checkB A E s) (by omega)
 obtain ⟨h1, h2⟩ := check_ok A E s
 exact evNeg c0 (Ev.bind hd (Ev.bind gi (Ev.bind gs (Ev.bind md (evPos rfl (ckf_loop A E hb s (by omega) (checkB A E s) (by omega) h1 h2 (checkB A E s).length 0 (by omega)))))))
end Go.Proofs.YtfpmfaelodfecaaGreatDoor.Pure

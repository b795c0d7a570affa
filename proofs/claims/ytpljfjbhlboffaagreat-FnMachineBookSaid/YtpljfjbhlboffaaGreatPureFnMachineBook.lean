/- A machine made of a book's words knows what the book knows, and guesses its nearest; of a drawn book and a drawn word. No condition. -/
import Derived.Test.YtpljfjbhlboffaaGreatQFnMachineBookx37
import Derived.Test.YtpljfjbhlboffaaGreatVMBas
import Derived.Test.YtpljfjbhlboffaaGreatVMStr
import Derived.Test.YtpljfjbhlboffaaGreatVMAff
import Derived.Test.YtpljfjbhlboffaaGreatVMSml
import Derived.Test.YtpljfjbhlboffaaGreatVMSrt
import Derived.Test.YtpljfjbhlboffaaGreatVMDst
import Derived.Test.YtpljfjbhlboffaaGreatVMAry
import Derived.Test.YtpljfjbhlboffaaGreatVMNer
import Derived.Test.YtpljfjbhlboffaaGreatVSized
namespace Go.Proofs.YtpljfjbhlboffaaGreat
theorem bJ.GU:type_of% @Go.Proofs.YtpljfjbhlboffaaGreatW.bJ.GU:= @Go.Proofs.YtpljfjbhlboffaaGreatW.bJ.GU
end Go.Proofs.YtpljfjbhlboffaaGreat
namespace Go.Proofs.YtpljfjbhlboffaaGreat.Pure
open Go.RowKit Go.Proofs.YtpljfjbhlboffaaGreat.eH Go.Proofs.YtpljfjbhlboffaaGreatW.bJ Go.Proofs.YtpljfjbhlboffaaGreatW.gI Go.Proofs.YtpljfjbhlboffaaGreatW.jC Go.Proofs.YtpljfjbhlboffaaGreat.M
set_option linter.unusedVariables false
set_option linter.unusedSimpArgs false
theorem qX (l:List ByteArray) (i:Nat) (h:i<l.length):bP ByteArray.empty l (i:Int)=l[i]:=by simp [bP,List.getD_eq_getElem?_getD,List.getElem?_eq_getElem h]
theorem aWM {P:ByteArray→Prop} {l:List ByteArray} (h: ∀s∈l,P s) (i:Nat) (hi:i<l.length):P (bP ByteArray.empty l (i:Int)):=by
 rw [qX l i hi]
 exact h _ (List.getElem_mem hi)
theorem QZ (s:ByteArray) (m:Int) (h:s.size≤281474976710656) (d:Nat): ∀i:Int,0≤i→i≤s.size→(s.size:Int)-i=d→
  Ev (fun k=>eU.l0 k s m i) (((bytesOf s).drop i.toNat).all low&&decide ((s.size:Int)≤m)):=by
 induction d with
 |zero=>
  intro i h0 h1 hd
  refine Ev.step (fun k=>eU.l0.eq_2 _ _ _ _) (eN ?_)
  rw [List.drop_eq_nil_of_le (by rw [bR];omega)]
  exact fH (Ev.now _) (by simp)
 |succ d ih=>
  intro i h0 h1 hd
  refine Ev.step (fun k=>eU.l0.eq_2 _ _ _ _) (eP (aU h0 ?_))
  rw [pK s i h0 (by omega),List.all_cons]
  by_cases c:bt s i<97
  ·exact aU c (fH (Ev.now _) (by simp [low];omega))
  refine bG c ?_
  by_cases c1:bt s i>122
  ·exact aU c1 (fH (Ev.now _) (by simp [low];omega))
  refine bG c1 ?_
  have e:low (bt s i)=true:=(aC3 _).2 (by omega)
  rw [w6,e,Bool.true_and]
  exact ih (i+1) (by omega) (by omega) (by omega)
theorem Q3 (s:ByteArray) (m:Int) (h:s.size≤140737488351232):Ev (fun k=>eU.f k s m) ((bytesOf s).all low&&decide ((s.size:Int)≤m)):=
 QZ s m (by omega) s.size 0 (by omega) (by omega) (by omega)
theorem aC2 (s:ByteArray) (m:Int) (h:s.size≤281474976710656):Ev (fun k=>eU.f k s m) ((bytesOf s).all low&&decide ((s.size:Int)≤m)):=
 QZ s m h s.size 0 (by omega) (by omega) (by omega)
theorem wL (s:ByteArray) (h:s.size≤140737488351232):Ev (fun k=>gZ.f k s) (gD s):=by
 unfold gZ.f
 by_cases c:(s.size:Int)>0
 ·have hp:0<s.size:=by omega
  refine aU c (Ev.bind (Q3 s 12 h) (fH (Ev.now _) ?_))
  simp only [gD,aFm,bR,decide_eq_true hp,Bool.true_and]
  rw [Bool.and_comm]
  congr 1
  exact decide_eq_decide.2 (by omega)
 ·exact bG c (fH (Ev.now _) (RS (by omega)).symm)
theorem QY (s:ByteArray) (h:s.size≤281474976710656):Ev (fun k=>gZ.f k s) (gD s):=by
 by_cases c:s.size≤140737488351232
 ·exact wL s c
 unfold gZ.f
 refine eP (Ev.bind (aC2 s 12 h) (fH (Ev.now _) ?_))
 rw [RS (by omega),decide_eq_false (by omega),Bool.and_false]
theorem aGv (s:ByteArray) (h:s.size≤140737488351232) (d:Nat): ∀i:Int,0≤i→i≤s.size→(s.size:Int)-i=d→
  Ev (fun k=>kN.l0 k s (s.size:Int) i) (((bytesOf s).drop i.toNat).all low):=by
 induction d with
 |zero=>
  intro i h0 h1 hd
  refine Ev.step (fun k=>kN.l0.eq_2 _ _ _ _) (eN ?_)
  rw [List.drop_eq_nil_of_le (by rw [bR];omega)]
  exact fH (Ev.now _) (by simp)
 |succ d ih=>
  intro i h0 h1 hd
  refine Ev.step (fun k=>kN.l0.eq_2 _ _ _ _) (eP (aU h0 (eP ?_)))
  rw [pK s i h0 (by omega),List.all_cons]
  by_cases c:bt s i<97
  ·exact aU c (fH (Ev.now _) (by simp [low];omega))
  refine bG c ?_
  by_cases c1:bt s i>122
  ·exact aU c1 (fH (Ev.now _) (by simp [low];omega))
  refine bG c1 ?_
  have e:low (bt s i)=true:=(aC3 _).2 (by omega)
  rw [w6,e,Bool.true_and]
  exact ih (i+1) (by omega) (by omega) (by omega)
theorem YV (s:ByteArray) (h:s.size≤140737488351232):Ev (fun k=>kN.f k s) ((bytesOf s).all low):=
 aGv s h s.size 0 (by omega) (by omega) (by omega)
theorem yV (n a b:Int):iM.f n a b=some (decide (a≤n)&&decide (n≤b)):=by
 unfold iM.f
 by_cases c:n≥a
 ·rw [if_pos c];simp [c]
 ·rw [if_neg c];simp;omega
theorem wP (s:ByteArray) (h:s.size≤140737488351232):Ev (fun k=>eD.f k s) (gD s):=by
 unfold eD.f
 refine gF (yV _ _ _) ?_
 by_cases c:(1≤(s.size:Int)∧(s.size:Int)≤12)
 ·have hp:0<s.size:=by omega
  have hq:s.size≤12:=by omega
  refine aU (by simp;omega) (Ev.bind (YV s h) (fH (Ev.now _) ?_))
  simp only [gD,aFm,bR,decide_eq_true hp,decide_eq_true hq,Bool.true_and]
 ·exact bG (by simp;omega) (fH (Ev.now _) (RS (by omega)).symm)
theorem ND (s:ByteArray) (h:s.size≤281474976710656):Ev (fun k=>eD.f k s) (gD s):=by
 by_cases c:s.size≤140737488351232
 ·exact wP s c
 ·unfold eD.f
  refine gF (yV _ _ _) ?_
  exact bG (by simp;omega) (fH (Ev.now _) (RS (by omega)).symm)
def wGo (l:List ByteArray):Nat→Int→Bool
 |0,_=>true
 |d+1,i=>gD (bP ByteArray.empty l i)&&(if i>0 then Op.bytesLess (bP ByteArray.empty l (i-1)).toList (bP ByteArray.empty l i).toList else true)&&wGo l d (i+1)
theorem VI (l:List ByteArray) (n:Int) (hl:l.length≤1048576) (he: ∀s∈l,s.size≤1048576) (d:Nat): ∀i:Nat,i+d=l.length→Ev (fun k=>iI.l0 k l n l (l.length:Int) (i:Int)) (wGo l d i&&decide ((l.length:Int)≤n)):=by
 induction d with
 |zero=>
  intro i hi
  refine Ev.step (fun k=>iI.l0.eq_2 _ _ _ _ _ _) (eN (fH (Ev.now _) ?_))
  simp only [wGo,Bool.true_and]
 |succ d ih=>
  intro i hi
  have hs:=aWM (P:=fun s=>s.size≤1048576) he i (by omega)
  refine Ev.step (fun k=>iI.l0.eq_2 _ _ _ _ _ _) (eP (eP (eP (Ev.bind (wP _ (by omega)) ?_))))
  rw [w6 (n:=(i:Int)+1)]
  have next:=ih (i+1) (by omega)
  simp only [wGo]
  cases e:gD (bP ByteArray.empty l (i:Int))with
  |false=>exact bG (by simp) (fH (Ev.now _) (by simp))
  |true=>
   refine aU rfl ?_
   by_cases c:(i:Int)>0
   ·rw [w6 (n:=(i:Int)-1),if_pos c]
    refine aU c (eP (eP ?_))
    cases g:Op.bytesLess (bP ByteArray.empty l ((i:Int)-1)).toList (bP ByteArray.empty l (i:Int)).toList with
    |false=>exact bG (by simp) (fH (Ev.now _) (by simp))
    |true=>exact aU rfl (fH next (by simp))
   ·rw [if_neg c]
    exact bG c (fH next (by simp))
theorem aG2 (l:List ByteArray) (n:Int) (hl:l.length≤1048576) (he: ∀s∈l,s.size≤1048576):Ev (fun k=>iI.f k l n) (wGo l l.length 0&&decide ((l.length:Int)≤n)):=VI l n hl he l.length 0 (by omega)
def RZ (l:List ByteArray):Bool:=wGo l l.length 0&&decide ((l.length:Int)≤300)
theorem aLr (l:List ByteArray) (d:Nat): ∀i:Nat,i+d=l.length→wGo l d i=true→ ∀s∈l.drop i,gD s=true:=by
 induction d with
 |zero=>
  intro i hi _ s hs
  rw [List.drop_eq_nil_of_le (by omega)] at hs
  cases hs
 |succ d ih=>
  intro i hi h s hs
  have hlt:i<l.length:=by omega
  simp only [wGo,Bool.and_eq_true] at h
  rw [List.drop_eq_getElem_cons hlt] at hs
  rcases List.mem_cons.1 hs with rfl|hs
  ·rw [←qX l i hlt]
   exact h.1.1
  ·exact ih (i+1) (by omega) h.2 s hs
theorem RU {ws:List ByteArray} (h:RZ ws=true):ws.length≤300∧(∀s∈ws,gD s=true)∧ ∀s∈ws,s.size≤12:=by
 unfold RZ at h
 rw [Bool.and_eq_true,decide_eq_true_eq] at h
 have h2:=aLr ws ws.length 0 (by omega) h.1
 rw [List.drop_zero] at h2
 exact⟨by omega,h2,fun s hs=>(jX (h2 s hs)).2⟩
abbrev Gu:=kG
theorem le_iff (x y:Gu):aK.le x y=true↔ltOf aK.cf y x=false:=by
 unfold aK.le
 simp
theorem le_trans' (x y z:Gu) (h1:aK.le x y=true) (h2:aK.le y z=true):aK.le x z=true:=by
 rw [le_iff] at*
 exact aK.swo.ntrans _ _ _ h2 h1
theorem aA6 (x y:Gu):(aK.le x y||aK.le y x)=true:=by
 rw [Bool.or_eq_true,le_iff,le_iff]
 cases h1:ltOf aK.cf y x
 ·exact .inl rfl
 ·right
  cases h2:ltOf aK.cf x y
  ·rfl
  ·have:=aK.swo.trans _ _ _ h1 h2
   rw [aK.swo.irrefl] at this
   cases this
theorem aUq (x y:Gu) (h1:aK.le x y=true) (h2:aK.le y x=true):x=y:=by
 rw [le_iff] at*
 exact aK.tot _ _ h2 h1
theorem lt_eq {x y:Gu} (h:x.f1=y.f1):ltOf aK.cf x y=Op.bytesLess x.f0.toList y.f0.toList:=by
 rw [bytesLess_eq,Bool.eq_iff_iff,aK.lt_iff,h]
 simp
def M4:List Gu→Gu→List Gu
 |[],g=>[g]
 |x::l,g=>if ltOf aK.cf x g=true then x::M4 l g else g::x::l
theorem TK (l:List Gu) (g:Gu):(M4 l g).Perm (g::l):=by
 induction l with
 |nil=>exact List.Perm.refl _
 |cons x l ih=>
  simp only [M4]
  split
  ·exact(List.Perm.cons x ih).trans (List.Perm.swap g x l)
  ·exact List.Perm.refl _
theorem aE1 (l:List Gu) (g:Gu):(M4 l g).length=l.length+1:=(TK l g).length_eq
theorem aE2 {l:List Gu} (h:l.Pairwise (fun a b=>aK.le a b=true)) (g:Gu):(M4 l g).Pairwise (fun a b=>aK.le a b=true):=by
 induction l with
 |nil=>simp [M4]
 |cons x l ih=>
  have h' :=List.pairwise_cons.1 h
  simp only [M4]
  split
  ·rename_i hlt
   refine List.pairwise_cons.2 ⟨fun z hz=>?_,ih h'.2⟩
   rcases List.mem_cons.1 ((TK l g).mem_iff.1 hz)with rfl|hz
   ·rcases Bool.or_eq_true _ _▸aA6 x z with e|e
    ·exact e
    ·rw [le_iff,hlt] at e
     cases e
   ·exact h'.1 z hz
  ·rename_i hlt
   have e:aK.le g x=true:=(le_iff _ _).2 (by simpa using hlt)
   refine List.pairwise_cons.2 ⟨fun z hz=>?_,h⟩
   rcases List.mem_cons.1 hz with rfl|hz
   ·exact e
   ·exact le_trans' _ _ _ e (h'.1 z hz)
theorem aF1 (c:List Gu): ∀l:List Gu,(c.foldl M4 l).Perm (c++l):=by
 induction c with
 |nil=>intro l;exact List.Perm.refl _
 |cons g c ih=>
  intro l
  rw [List.foldl_cons]
  exact(ih _).trans (((TK l g).append_left c).trans List.perm_middle)
theorem aBT (c:List Gu): ∀l:List Gu,l.Pairwise (fun a b=>aK.le a b=true)→(c.foldl M4 l).Pairwise (fun a b=>aK.le a b=true):=by
 induction c with
 |nil=>intro l h;exact h
 |cons g c ih=>intro l h;exact ih _ (aE2 h g)
theorem RN: ∀{l k:List Gu},l.Pairwise (fun a b=>aK.le a b=true)→k.Pairwise (fun a b=>aK.le a b=true)→l.Perm k→l=k
 |[],k,_,_,hp=>by have:=hp.length_eq;cases k<;>simp_all
 |x::l,[],_,_,hp=>by have:=hp.length_eq;simp at this
 |x::l,y::k,hl,hk,hp=>by
  have hl' :=List.pairwise_cons.1 hl
  have hk' :=List.pairwise_cons.1 hk
  have e:x=y:=by
   rcases List.mem_cons.1 (hp.mem_iff.1 List.mem_cons_self)with e|e
   ·exact e
   ·rcases List.mem_cons.1 (hp.mem_iff.2 List.mem_cons_self)with e2|e2
    ·exact e2.symm
    ·exact aUq _ _ (hl'.1 _ e2) (hk'.1 _ e)
  subst e
  rw [RN hl'.2 hk'.2 ((List.perm_cons x).1 hp)]
theorem aF2 (c:List Gu):c.foldl M4 []=c.mergeSort aK.le:=by
 refine RN (aBT c [] List.Pairwise.nil) (List.pairwise_mergeSort le_trans' aA6 c) ?_
 have h:=aF1 c []
 rw [List.append_nil] at h
 exact h.trans (List.mergeSort_perm c aK.le).symm
def gsL (ws:List ByteArray) (w:ByteArray) (vZ:Int):List Gu:=ws.flatMap (fun s=>if wZ s w≤vZ then [(⟨s,wZ s w⟩:Gu)] else [])
theorem drop_cons {α:Type} {l:List α} {i:Nat} (h:i<l.length):l.drop i=l[i]::l.drop (i+1):=(List.getElem_cons_drop ..).symm
theorem JR (l:List Gu) (i:Nat) (h:i<l.length):bD l (i:Int)=l[i]:=by simp [bD,List.getD_eq_getElem?_getD,List.getElem?_eq_getElem h]
theorem GI (a b:Int):lG.f a b=some (min a b):=by
 unfold lG.f
 by_cases c:a<b
 ·rw [if_pos c];congr 1;omega
 ·rw [if_neg c];congr 1;omega
theorem uE (a b:ByteArray) (i k:Nat) (h:i≤100) (h2:k≤100):0≤jF a b i k∧jF a b i k≤100:=by
 obtain⟨_,_,_,m,_,p⟩:=qH a b _ i k (Nat.le_refl _)
 omega
def IP (a b:ByteArray) (i k:Nat):List Int:=(List.range k).map (fun j=>jF a b i j)
theorem rY (a b:ByteArray) (i k:Nat):(IP a b i k).length=k:=by simp [IP]
theorem aK9 (a b:ByteArray) (i k:Nat):IP a b i (k+1)=IP a b i k++[jF a b i k]:=by simp [IP,List.range_succ]
theorem RD (a b:ByteArray) (i k:Nat) (j:Nat) (h:j<k):rd (IP a b i k) (j:Int)=jF a b i j:=by
 simp [rd,IP,List.getD_eq_getElem?_getD,h]
def LD (a b:ByteArray) (i:Nat):List (List Int):=(List.range i).map (fun j=>IP a b j (b.size+1))
theorem yU (a b:ByteArray) (i:Nat):(LD a b i).length=i:=by simp [LD]
theorem aLp (a b:ByteArray) (i:Nat):LD a b (i+1)=LD a b i++[IP a b i (b.size+1)]:=by simp [LD,List.range_succ]
theorem aDf (a b:ByteArray) (i j:Nat) (h:j<i):dF (LD a b i) (j:Int)=IP a b j (b.size+1):=by
 simp [dF,LD,List.getD_eq_getElem?_getD,h]
theorem aBR (a b:ByteArray) (ha:a.size≤100) (hb:b.size≤100) (i:Nat) (hi:i≤a.size) {r:Int}
  (next:Ev (fun k=>dK.l0 k a b (LD a b (i+1)) ((i+1:Nat):Int)) r) (d:Nat): ∀k:Nat,k+d=b.size+1→
  Ev (fun n=>dK.l1 n a b (LD a b i) (i:Int) (IP a b i k) (k:Int)) r:=by
 induction d with
 |zero=>
  intro k hk
  obtain rfl:k=b.size+1:=by omega
  refine Ev.step (fun n=>dK.l1.eq_2 _ _ _ _ _ _ _) (eN (aU (by rw [yU];omega) ?_))
  rw [w6,←aLp]
  exact next
 |succ d ih=>
  intro k hk
  have ihk:=ih (k+1) (by omega)
  rw [aK9] at ihk
  refine Ev.step (fun n=>dK.l1.eq_2 _ _ _ _ _ _ _) (eP ?_)
  have wk:wrap64 ((k:Int)+1)=((k+1:Nat):Int):=by rw [w6];omega
  by_cases ci:i=0
  ·subst ci
   rw [uW] at ihk
   refine aU rfl (aU (by rw [rY];omega) ?_)
   rw [wk]
   exact ihk
  by_cases ck:k=0
  ·subst ck
   rw [FL] at ihk
   refine eN (aU rfl (aU (by rw [rY];omega) ?_))
   rw [wk]
   exact ihk
  obtain⟨i,rfl⟩: ∃m,i=m+1:=⟨i-1,by omega⟩
  obtain⟨k,rfl⟩: ∃m,k=m+1:=⟨k-1,by omega⟩
  have wi1:wrap64 (((i+1:Nat):Int)-1)=(i:Int):=by rw [w6];omega
  have wk1:wrap64 (((k+1:Nat):Int)-1)=(k:Int):=by rw [w6];omega
  have bBp:dF (LD a b (i+1)) (i:Int)=IP a b i (b.size+1):=aDf a b (i+1) i (by omega)
  have b1:=uE a b i k (by omega) (by omega)
  have b2:=uE a b i (k+1) (by omega) (by omega)
  have b3:=uE a b (i+1) k (by omega) (by omega)
  have b4:=uE a b (i-1) (k-1) (by omega) (by omega)
  refine eN (eN ?_)
  rw [wi1,wk1,bBp,RD a b i (b.size+1) k (by omega)]
  have join: ∀v:Int,v=jF a b i k+(if bt a (i:Int)=bt b (k:Int)then 0 else 1)→Ev (fun n=>dK.j2 n a b (LD a b (i+1)) ((i+1:Nat):Int) (IP a b (i+1) (k+1)) ((k+1:Nat):Int) v) r:=by
   intro v hv
   have bJe:(if bt a (i:Int)=bt b (k:Int)then(0:Int)else 1)=0∨(if bt a (i:Int)=bt b (k:Int)then(0:Int)else 1)=1:=by split<;>simp
   have h3:min v (min (jF a b i (k+1)+1) (jF a b (i+1) k+1))=qC a b i k:=by
    unfold qC
    omega
   refine Ev.step (fun n=>dK.j2.eq_2 _ _ _ _ _ _ _ _) ?_
   rw [wi1,wk1,bBp,RD a b i (b.size+1) (k+1) (by omega),RD a b (i+1) (k+1) k (by omega),w6 (n:=jF a b i (k+1)+1),w6 (n:=jF a b (i+1) k+1)]
   refine eP (aU (by rw [yU];omega) (eP (aU (by rw [rY];omega) (eP (aU (by rw [rY];omega) (gF (GI _ _) (gF (GI _ _) ?_)))))))
   rw [h3]
   have fin: ∀x,x=jF a b (i+1) (k+1)→Ev (fun n=>if(IP a b (i+1) (k+1)).length<17592186044416 then dK.l1 n a b (LD a b (i+1)) ((i+1:Nat):Int) (IP a b (i+1) (k+1)++[x]) (wrap64 (((k+1:Nat):Int)+1))else none) r:=by
    rintro x rfl
    refine aU (by rw [rY];omega) ?_
    rw [wk]
    exact ihk
   have hs:=uV a b i k
   have two (z:Nat) (hz:1≤z) (hz2:z≤100):wrap64 (((z+1:Nat):Int)-2)=((z-1:Nat):Int):=by rw [w6];omega
   have no:qC a b i k=jF a b (i+1) (k+1)→Ev (fun n=>dK.j3 n a b (LD a b (i+1)) ((i+1:Nat):Int) (IP a b (i+1) (k+1)) ((k+1:Nat):Int) (qC a b i k) false) r:=
    fun he=>Ev.step (fun n=>dK.j3.eq_2 _ _ _ _ _ _ _ _ _) (bG (by simp) (fin _ he))
   by_cases c1:((i+1:Nat):Int)>1
   ·by_cases c2:((k+1:Nat):Int)>1
    ·refine aU c1 (aU c2 ?_)
     rw [two i (by omega) (by omega),two k (by omega) (by omega)]
     refine eP (eP (eP ?_))
     by_cases c3:bt a (i:Int)=bt b ((k-1:Nat):Int)
     ·refine aU c3 (eP (eP (eP ?_)))
      by_cases c4:bt a ((i-1:Nat):Int)=bt b (k:Int)
      ·rw [if_pos ⟨by omega,by omega,c3,c4⟩] at hs
       have bK5:dF (LD a b (i+1)) ((i-1:Nat):Int)=IP a b (i-1) (b.size+1):=aDf a b (i+1) (i-1) (by omega)
       rw [show(bt a ((i-1:Nat):Int)==bt b (k:Int))=true from beq_iff_eq.2 c4]
       refine Ev.step (fun n=>dK.j3.eq_2 _ _ _ _ _ _ _ _ _) ?_
       rw [two i (by omega) (by omega),two k (by omega) (by omega),bK5,RD a b (i-1) (b.size+1) (k-1) (by omega),w6 (n:=jF a b (i-1) (k-1)+1)]
       exact aU rfl (eP (aU (by rw [yU];omega) (eP (aU (by rw [rY];omega) (gF (GI _ _) (fin _ hs.symm))))))
      ·rw [if_neg (fun h=>c4 h.2.2.2)] at hs
       rw [show(bt a ((i-1:Nat):Int)==bt b (k:Int))=false from beq_eq_false_iff_ne.2 c4]
       exact no hs.symm
     ·rw [if_neg (fun h=>c3 h.2.2.1)] at hs
      exact bG c3 (no hs.symm)
    ·rw [if_neg (fun h=>c2 (by omega))] at hs
     exact aU c1 (bG c2 (no hs.symm))
   ·rw [if_neg (fun h=>c1 (by omega))] at hs
    exact bG c1 (no hs.symm)
  refine eP (aU (by rw [yU];omega) (eP (aU (by rw [rY];omega) (eP (eP ?_)))))
  by_cases c:bt a (i:Int)=bt b (k:Int)
  ·exact aU c (join _ (by rw [if_pos c];omega))
  ·refine bG c (join _ ?_)
   rw [if_neg c,w6]
theorem aAb (a b:ByteArray) (ha:a.size≤100) (hb:b.size≤100) (d:Nat): ∀i:Nat,i+d=a.size+1→Ev (fun n=>dK.l0 n a b (LD a b i) (i:Int)) (wZ a b):=by
 induction d with
 |zero=>
  intro i hi
  obtain rfl:i=a.size+1:=by omega
  have row:dF (LD a b (a.size+1)) (a.size:Int)=IP a b a.size (b.size+1):=aDf a b (a.size+1) a.size (by omega)
  refine Ev.step (fun n=>dK.l0.eq_2 _ _ _ _ _) (eN ?_)
  rw [row,RD a b a.size (b.size+1) b.size (by omega)]
  exact eP (aU (by rw [yU];omega) (eP (aU (by rw [rY];omega) (Ev.now _))))
 |succ d ih=>
  intro i hi
  have h:=aBR a b ha hb i (by omega) (ih (i+1) (by omega)) (b.size+1) 0 (by omega)
  exact Ev.step (fun n=>dK.l0.eq_2 _ _ _ _ _) (aU (by omega) h)
theorem aGp (a b:ByteArray) (ha:a.size≤100) (hb:b.size≤100):Ev (fun n=>dK.f n a b) (wZ a b):=aAb a b ha hb (a.size+1) 0 (by omega)
theorem aUS (l:List Gu) (g:Gu) (hl:l.length≤1000000) (d:Nat): ∀i:Nat,i+d=l.length→Ev (fun k=>cO.l0 k l (i:Int) g.f0 g.f1) (l.take i++M4 (l.drop i) g):=by
 have out: ∀i:Nat,i≤l.length→Ev (fun k=>cO.j1 k l (i:Int) false g.f0 g.f1) (l.take i++g::l.drop i):=fun i hi=>by
  refine Ev.step (fun k=>cO.j1.eq_2 ..) (bG (by simp) (gF rfl (eP (eP (gF rfl (aU ?_ (gF rfl (gF rfl (aU ?_ (gF rfl (gF rfl (aU ?_ (fH (Ev.now _) ?_)))))))))))))
  ·simp;omega
  ·simp;omega
  ·simp;omega
  ·simp
 induction d with
 |zero=>
  intro i hi
  have e:l.drop i=[]:=List.drop_eq_nil_iff.2 (by omega)
  refine Ev.step (fun k=>cO.l0.eq_2 ..) (eN (fH (out i (by omega)) ?_))
  rw [e]
  rfl
 |succ d ih=>
  intro i hi
  have hi' :i<l.length:=by omega
  have next:Ev (fun k=>cO.j1 k l (i:Int) (ltOf aK.cf l[i] g) g.f0 g.f1) (l.take i++M4 (l.drop i) g):=by
   rw [drop_cons hi']
   simp only [M4]
   cases e:ltOf aK.cf l[i] g with
   |true=>
    refine Ev.step (fun k=>cO.j1.eq_2 ..) (aU rfl ?_)
    rw [w6]
    refine fH (ih (i+1) (by omega)) ?_
    rw [List.take_succ_eq_append_getElem hi',List.append_assoc,List.singleton_append,if_pos rfl]
   |false=>
    refine fH (out i (by omega)) ?_
    rw [drop_cons hi']
    simp
  refine Ev.step (fun k=>cO.l0.eq_2 ..) (eP (eP ?_))
  rw [JR l i hi']
  have lt:=aK.lt_iff l[i] g
  by_cases c1:l[i].f1<g.f1
  ·refine aU c1 (fH (Ev.congr (fun _=>?_) next) rfl)
   rw [lt.2 (.inl c1)]
  ·refine bG c1 ?_
   by_cases c2:l[i].f1=g.f1
   ·refine aU c2 (fH (Ev.congr (fun _=>?_) next) rfl)
    rw [lt_eq c2]
   ·refine bG c2 (fH (Ev.congr (fun _=>?_) next) rfl)
    have:ltOf aK.cf l[i] g=false:=by
     rw [aK.lf]
     rintro(h|h)
     ·exact c1 h
     ·exact c2 h.1
    rw [this]
theorem aQi (l:List Gu) (g:Gu) (hl:l.length≤1000000):Ev (fun k=>cO.f k l g.f0 g.f1) (M4 l g):=by
 unfold cO.f
 have:=aUS l g hl l.length 0 (by omega)
 simpa using this
theorem aSK (ws:List ByteArray) (w:ByteArray) (vZ:Int) (hl:ws.length≤100000) (hz: ∀s∈ws,s.size≤12) (hw:w.size≤12) (d:Nat): ∀(i:Nat) (out:List Gu),i+d=ws.length→out.length≤i→
  Ev (fun k=>iF.l0 k ws w vZ out (i:Int)) (((gsL (ws.drop i) w vZ).foldl M4 out).take 10):=by
 induction d with
 |zero=>
  intro i out hi ho
  have e:ws.drop i=[]:=List.drop_eq_nil_iff.2 (by omega)
  rw [e]
  refine Ev.step (fun k=>iF.l0.eq_2 ..) (eN ?_)
  by_cases c:(out.length:Int)>10
  ·exact aU c (eP (fH (Ev.now _) rfl))
  ·refine bG c (fH (Ev.now _) ?_)
   exact(List.take_of_length_le (l:=out) (by omega)).symm
 |succ d ih=>
  intro i out hi ho
  have hi' :i<ws.length:=by omega
  have e:gsL (ws.drop i) w vZ=(if wZ ws[i] w≤vZ then [(⟨ws[i],wZ ws[i] w⟩:Gu)] else [])++gsL (ws.drop (i+1)) w vZ:=by
   rw [drop_cons hi']
   rfl
  have hs:=hz _ (List.getElem_mem hi')
  refine Ev.step (fun k=>iF.l0.eq_2 ..) (eP (eP ?_))
  rw [qX ws i hi',w6 (n:=(i:Int)+1),e]
  refine Ev.bind (aGp _ _ (by omega) (by omega)) ?_
  by_cases c:wZ ws[i] w≤vZ
  ·rw [if_pos c,List.foldl_append]
   refine aU c (Ev.bind (aQi out ⟨ws[i],wZ ws[i] w⟩ (by omega)) ?_)
   exact ih (i+1) _ (by omega) (by rw [aE1];omega)
  ·rw [if_neg c,List.nil_append]
   exact bG c (ih (i+1) _ (by omega) (by omega))
theorem FV (M:List (List Int)) (i:Nat) (R:List Int) (h:i<M.length):dF (M.set i R) (i:Int)=R:=by
 simp [dF,List.getD_eq_getElem?_getD,h]
theorem BH (M:List (List Int)) (i j:Nat) (R:List Int) (h:i≠j):dF (M.set i R) (j:Int)=dF M (j:Int):=by
 simp [dF,List.getD_eq_getElem?_getD,List.getElem?_set_ne h]
theorem M5 (xs:List Int) (i:Nat) (v:Int) (h:i<xs.length):rd (xs.set i v) (i:Int)=v:=by
 have:=u6 xs (i:Int) v (by omega) (by omega)
 simpa using this
theorem Y1 (xs:List Int) (i j:Nat) (v:Int) (h:i≠j):rd (xs.set i v) (j:Int)=rd xs (j:Int):=by
 have:=rJ xs (i:Int) (j:Int) v (by omega) (by omega) (by omega)
 simpa using this
def aFv (a b:ByteArray) (M:List (List Int)) (i k:Nat):Prop:=
 M.length=a.size+1∧(∀j:Nat,j≤a.size→(dF M (j:Int)).length=b.size+1)∧
 ∀x y:Nat,x≤a.size→y≤b.size→(x<i∨(x=i∧y<k)∨y=0∨x=0)→rd (dF M (x:Int)) (y:Int)=jF a b x y
theorem aUg {a b:ByteArray} {M:List (List Int)} {i k:Nat} (h:aFv a b M i k) (hi:i≤a.size) (hk:k≤b.size) (_:1≤i) (_:1≤k):aFv a b (M.set i ((dF M (i:Int)).set k (jF a b i k))) i (k+1):=by
 obtain⟨h1,h2,h3⟩:=h
 refine⟨by simpa using h1,fun j hj=>?_,fun x y hx hy hc=>?_⟩
 ·by_cases c:i=j
  ·subst c
   rw [FV _ _ _ (by omega),List.length_set]
   exact h2 i hj
  ·rw [BH _ _ _ _ c]
   exact h2 j hj
 ·by_cases c:i=x
  ·subst c
   rw [FV _ _ _ (by omega)]
   by_cases d:k=y
   ·subst d
    exact M5 _ _ _ (by rw [h2 i hi];omega)
   ·rw [Y1 _ _ _ _ d]
    exact h3 i y hx hy (by omega)
  ·rw [BH _ _ _ _ c]
   exact h3 x y hx hy (by omega)
theorem aP7 {a b:ByteArray} {M:List (List Int)} {i:Nat} (h:aFv a b M i (b.size+1)):aFv a b M (i+1) 1:=
 ⟨h.1,h.2.1,fun x y hx hy hc=>h.2.2 x y hx hy (by omega)⟩
theorem V6 (x y:Int):mn x y=min x y:=by
 unfold mn
 split<;>omega
theorem aBQ (a b:ByteArray) (ha:a.size≤100) (hb:b.size≤100) (i:Nat) (hi:i≤a.size) (hi1:1≤i) {r:Int}
  (next: ∀M,aFv a b M i (b.size+1)→Ev (fun k=>bU.l2 k a b M ((i+1:Nat):Int)) r) (d:Nat): ∀(k:Nat) (M:List (List Int)),k+d=b.size+1→1≤k→aFv a b M i k→
  Ev (fun n=>bU.l3 n a b M (i:Int) (k:Int)) r:=by
 induction d with
 |zero=>
  intro k M hk _ hM
  obtain rfl:k=b.size+1:=by omega
  refine Ev.step (fun n=>bU.l3.eq_2 _ _ _ _ _ _) (eN ?_)
  rw [w6]
  exact next M hM
 |succ d ih=>
  intro k M hk hk1 hM
  obtain⟨m1,m2,m3⟩:=hM
  have ihk:=ih (k+1) (M.set i ((dF M (i:Int)).set k (jF a b i k))) (by omega) (by omega) (aUg ⟨m1,m2,m3⟩ hi (by omega) hi1 hk1)
  obtain⟨i,rfl⟩: ∃m,i=m+1:=⟨i-1,by omega⟩
  obtain⟨k,rfl⟩: ∃m,k=m+1:=⟨k-1,by omega⟩
  have wi1:wrap64 (((i+1:Nat):Int)-1)=(i:Int):=by rw [w6];omega
  have wk1:wrap64 (((k+1:Nat):Int)-1)=(k:Int):=by rw [w6];omega
  have wk:wrap64 (((k+1:Nat):Int)+1)=((k+1+1:Nat):Int):=by rw [w6];omega
  have b1:=uE a b i k (by omega) (by omega)
  have b2:=uE a b i (k+1) (by omega) (by omega)
  have b3:=uE a b (i+1) k (by omega) (by omega)
  have b4:=uE a b (i-1) (k-1) (by omega) (by omega)
  have l1:=m2 i (by omega)
  have l2:=m2 (i+1) hi
  have l3:=m2 (i-1) (by omega)
  have e1:=m3 i k (by omega) (by omega) (by omega)
  have e2:=m3 i (k+1) (by omega) (by omega) (by omega)
  have e3:=m3 (i+1) k (by omega) (by omega) (by omega)
  have e4:=m3 (i-1) (k-1) (by omega) (by omega) (by omega)
  have join: ∀v:Int,v=jF a b i k+(if bt a (i:Int)=bt b (k:Int)then 0 else 1)→Ev (fun n=>bU.j5 n a b M ((i+1:Nat):Int) ((k+1:Nat):Int) v) r:=by
   intro v hv
   have bJe:(if bt a (i:Int)=bt b (k:Int)then(0:Int)else 1)=0∨(if bt a (i:Int)=bt b (k:Int)then(0:Int)else 1)=1:=by split<;>simp
   have h3:mn (mn v (jF a b i (k+1)+1)) (jF a b (i+1) k+1)=qC a b i k:=by
    rw [V6,V6]
    unfold qC
    omega
   have h3b:0≤qC a b i k:=by
    unfold qC
    omega
   refine Ev.step (fun n=>bU.j5.eq_2 _ _ _ _ _ _ _) ?_
   rw [wi1,wk1,e2,e3,w6 (n:=jF a b i (k+1)+1),w6 (n:=jF a b (i+1) k+1),h3]
   refine eP (eP (eP (eP (eP (eP (eP (eP ?_)))))))
   have hs:=uV a b i k
   have two (z:Nat) (hz:1≤z) (hz2:z≤100):wrap64 (((z+1:Nat):Int)-2)=((z-1:Nat):Int):=by rw [w6];omega
   have no:qC a b i k=jF a b (i+1) (k+1)→Ev (fun n=>bU.j6 n a b M ((i+1:Nat):Int) ((k+1:Nat):Int) (qC a b i k) false) r:=by
    intro he
    refine Ev.step (fun n=>bU.j6.eq_2 _ _ _ _ _ _ _ _) (bG (by simp) (eP (eP (eP (eP ?_)))))
    rw [wk,he,Int.toNat_natCast,Int.toNat_natCast]
    exact ihk
   by_cases c1:((i+1:Nat):Int)>1
   ·by_cases c2:((k+1:Nat):Int)>1
    ·refine aU c1 (aU c2 ?_)
     rw [two i (by omega) (by omega),two k (by omega) (by omega)]
     refine eP (eP (eP ?_))
     by_cases c3:bt a (i:Int)=bt b ((k-1:Nat):Int)
     ·refine aU c3 (eP (eP (eP ?_)))
      by_cases c4:bt a ((i-1:Nat):Int)=bt b (k:Int)
      ·rw [if_pos ⟨by omega,by omega,c3,c4⟩] at hs
       rw [show(bt a ((i-1:Nat):Int)==bt b (k:Int))=true from beq_iff_eq.2 c4]
       refine Ev.step (fun n=>bU.j6.eq_2 _ _ _ _ _ _ _ _) ?_
       rw [two i (by omega) (by omega),two k (by omega) (by omega),e4,w6 (n:=jF a b (i-1) (k-1)+1),V6,←hs,wk,Int.toNat_natCast,Int.toNat_natCast]
       exact aU rfl (eP (eP (eP (eP (eP (eP (eP (aU (by omega) ihk))))))))
      ·rw [if_neg (fun h=>c4 h.2.2.2)] at hs
       rw [show(bt a ((i-1:Nat):Int)==bt b (k:Int))=false from beq_eq_false_iff_ne.2 c4]
       exact no hs.symm
     ·rw [if_neg (fun h=>c3 h.2.2.1)] at hs
      exact bG c3 (no hs.symm)
    ·rw [if_neg (fun h=>c2 (by omega))] at hs
     exact aU c1 (bG c2 (no hs.symm))
   ·rw [if_neg (fun h=>c1 (by omega))] at hs
    exact bG c1 (no hs.symm)
  refine Ev.step (fun n=>bU.l3.eq_2 _ _ _ _ _ _) (eP ?_)
  rw [wi1,wk1,e1]
  refine eP (eP (eP (eP (eP (eP ?_)))))
  by_cases c:bt a (i:Int)=bt b (k:Int)
  ·exact aU c (join _ (by rw [if_pos c];omega))
  ·refine bG c (join _ ?_)
   rw [if_neg c,w6]
theorem Z9 (a b:ByteArray) (ha:a.size≤100) (hb:b.size≤100) (d:Nat): ∀(i:Nat) (M:List (List Int)),i+d=a.size+1→1≤i→aFv a b M i 1→Ev (fun n=>bU.l2 n a b M (i:Int)) (wZ a b):=by
 induction d with
 |zero=>
  intro i M hi _ hM
  obtain rfl:i=a.size+1:=by omega
  refine Ev.step (fun n=>bU.l2.eq_2 _ _ _ _ _) (eN ?_)
  rw [hM.2.2 a.size b.size (Nat.le_refl _) (Nat.le_refl _) (by omega)]
  have:=hM.2.1 a.size (Nat.le_refl _)
  have:=hM.1
  exact eP (eP (eP (eP (Ev.now _))))
 |succ d ih=>
  intro i M hi hi1 hM
  exact Ev.step (fun n=>bU.l2.eq_2 _ _ _ _ _) (eP (aBQ a b ha hb i (by omega) hi1 (fun M' hM' =>ih (i+1) M' (by omega) (by omega) (aP7 hM')) b.size 1 M (by omega) (by omega) hM))
theorem YD (a b:ByteArray) (ha:a.size≤100) (hb:b.size≤100) (d:Nat): ∀(k:Nat) (M:List (List Int)),k+d=b.size+1→M.length=a.size+1→(∀j:Nat,j≤a.size→(dF M (j:Int)).length=b.size+1)→
  (∀j:Nat,1≤j→j≤a.size→rd (dF M (j:Int)) 0=j)→(∀j:Nat,j<k→rd (dF M 0) (j:Int)=j)→Ev (fun n=>bU.l1 n a b M ((b.size+1:Nat):Int) (k:Int)) (wZ a b):=by
 induction d with
 |zero=>
  intro k M hk h1 h2 h3 h4
  refine Ev.step (fun n=>bU.l1.eq_2 _ _ _ _ _ _) (eN (Z9 a b ha hb a.size 1 M (by omega) (by omega) ⟨h1,h2,fun x y hx hy hc=>?_⟩))
  by_cases c:x=0
  ·subst c
   rw [uW]
   exact h4 y (by omega)
  ·obtain rfl:y=0:=by omega
   rw [FL]
   exact h3 x (by omega) hx
 |succ d ih=>
  intro k M hk h1 h2 h3 h4
  have z:(dF M ((0:Nat):Int)).length=b.size+1:=h2 0 (by omega)
  have z' :(dF M 0).length=b.size+1:=z
  refine Ev.step (fun n=>bU.l1.eq_2 _ _ _ _ _ _) (eP (eP (eP (eP ?_))))
  rw [w6,show((k:Int)+1)=((k+1:Nat):Int)from by omega,Int.toNat_natCast,show(0:Int).toNat=0 from rfl]
  have e0:dF (M.set 0 ((dF M 0).set k (k:Int))) 0=(dF M 0).set k (k:Int):=FV M 0 _ (by omega)
  refine ih (k+1) _ (by omega) (by simpa using h1) (fun j hj=>?_) (fun j hj1 hj=>?_) (fun j hj=>?_)
  ·by_cases c:0=j
   ·subst c
    show(dF (M.set 0 ((dF M 0).set k (k:Int))) 0).length=b.size+1
    rw [e0,List.length_set]
    exact z'
   ·rw [BH _ _ _ _ c]
    exact h2 j hj
  ·rw [BH _ _ _ _ (by omega)]
   exact h3 j hj1 hj
  ·rw [e0]
   by_cases c:k=j
   ·subst c
    exact M5 _ _ _ (by omega)
   ·rw [Y1 _ _ _ _ c]
    exact h4 j (by omega)
theorem aAa (a b:ByteArray) (ha:a.size≤100) (hb:b.size≤100) (d:Nat): ∀(i:Nat) (M:List (List Int)),i+d=a.size+1→M.length=a.size+1→(∀j:Nat,j<i→dF M (j:Int)=(List.replicate (b.size+1) 0).set 0 (j:Int))→
  Ev (fun n=>bU.l0 n a b M ((a.size+1:Nat):Int) (i:Int)) (wZ a b):=by
 induction d with
 |zero=>
  intro i M hi h1 h2
  have z:dF M ((0:Nat):Int)=(List.replicate (b.size+1) 0).set 0 ((0:Nat):Int):=h2 0 (by omega)
  have z' :dF M 0=(List.replicate (b.size+1) 0).set 0 0:=z
  refine Ev.step (fun n=>bU.l0.eq_2 _ _ _ _ _ _) (eN (eP ?_))
  have hl:((dF M 0).length:Int)=((b.size+1:Nat):Int):=by rw [z'];simp
  rw [hl]
  refine YD a b ha hb (b.size+1) 0 M (by omega) h1 (fun j hj=>?_) (fun j hj1 hj=>?_) (fun j hj=>absurd hj (by omega))
  ·rw [h2 j (by omega)]
   simp
  ·rw [h2 j (by omega)]
   exact M5 _ 0 _ (by simp)
 |succ d ih=>
  intro i M hi h1 h2
  have wb:wrap64 ((b.size:Int)+1)=((b.size+1:Nat):Int):=by rw [w6];omega
  have wi:wrap64 ((i:Int)+1)=((i+1:Nat):Int):=by rw [w6];omega
  have e:dF (M.set i (List.replicate (b.size+1) 0)) (i:Int)=List.replicate (b.size+1) 0:=FV _ _ _ (by omega)
  refine Ev.step (fun n=>bU.l0.eq_2 _ _ _ _ _ _) (eP ?_)
  rw [wb,Int.toNat_natCast,Int.toNat_natCast]
  refine eP (eP (eP (eP (gF rfl ?_))))
  rw [e,wi,show(0:Int).toNat=0 from rfl]
  refine aU (by simp) (ih (i+1) _ (by omega) (by simpa using h1) (fun j hj=>?_))
  by_cases c:i=j
  ·subst c
   rw [FV _ _ _ (by simp;omega)]
  ·rw [BH _ _ _ _ c,BH _ _ _ _ c]
   exact h2 j (by omega)
theorem aEt (a b:ByteArray) (ha:a.size≤140737488351232) (hb:b.size≤140737488351232):Ev (fun n=>bU.f n a b) (TD a b):=by
 unfold bU.f
 refine Ev.bind (wP a ha) ?_
 cases e1:gD a with
 |false=>exact bG (by simp) (Ev.step (fun n=>bU.j0.eq_2 _ _ _ _) (aU rfl (fH (Ev.now _) (by simp [TD,e1]))))
 |true=>
  have h1:=jX e1
  refine aU rfl (Ev.bind (wP b hb) ?_)
  cases e2:gD b with
  |false=>exact Ev.step (fun n=>bU.j0.eq_2 _ _ _ _) (aU rfl (fH (Ev.now _) (by simp [TD,e2])))
  |true=>
   have h2:=jX e2
   have wa:wrap64 ((a.size:Int)+1)=((a.size+1:Nat):Int):=by rw [w6];omega
   refine Ev.step (fun n=>bU.j0.eq_2 _ _ _ _) (bG (by simp) ?_)
   rw [wa,Int.toNat_natCast]
   refine eP (eP (gF rfl ?_))
   have hl:((List.replicate (a.size+1) ([]:List Int)).length:Int)=((a.size+1:Nat):Int):=by simp
   rw [hl]
   exact fH (aAa a b (by omega) (by omega) (a.size+1) 0 _ (by omega) (by simp) (fun j hj=>absurd hj (by omega))) (by simp [TD,e1,e2])
def aFk (a b:ByteArray) (n:Int):Bool:=gD a&&gD b&&decide (wZ a b≤n)
theorem aG1 (a b:ByteArray) (n:Int):aFk a b n=(decide (0≤TD a b)&&decide (TD a b≤n)):=by
 unfold aFk TD
 have hp:0≤wZ a b:=(qH a b _ a.size b.size (Nat.le_refl _)).2.2.2.2.2
 by_cases c:gD a=true∧gD b=true
 ·rw [if_pos c,c.1,c.2,decide_eq_true hp]
  rfl
 ·rw [if_neg c]
  have:(gD a&&gD b)=false:=by
   cases e1:gD a<;>cases e2:gD b<;>simp_all
  rw [this]
  simp
theorem aDi (a b:ByteArray) (n:Int) (ha:a.size≤140737488351232) (hb:b.size≤140737488351232):Ev (fun k=>rX.f k a b n) (aFk a b n):=by
 unfold rX.f
 refine Ev.bind (aEt a b ha hb) ?_
 rw [aG1]
 by_cases c:TD a b≥0
 ·exact aU c (fH (Ev.now _) (by rw [decide_eq_true c,Bool.true_and]))
 ·exact bG c (fH (Ev.now _) (by rw [decide_eq_false c,Bool.false_and]))
theorem aCe (ws:List ByteArray) (w:ByteArray) (vZ:Int) (hl:ws.length≤100000) (hk: ∀s∈ws,gD s=true) (hz: ∀s∈ws,s.size≤12) (hw:w.size≤12) (hkw:gD w=true) (d:Nat): ∀(i:Nat) (out:List Gu),i+d=ws.length→out.length≤i→
  Ev (fun k=>jN.l0 k w vZ out ws (ws.length:Int) (i:Int)) (((out++gsL (ws.drop i) w vZ).mergeSort aK.le).take 10):=by
 induction d with
 |zero=>
  intro i out hi ho
  have e:ws.drop i=[]:=List.drop_eq_nil_iff.2 (by omega)
  have e2:gsL [] w vZ=[]:=rfl
  rw [e,e2,List.append_nil]
  have hm: ∀n:Nat,mn (n:Int) 10=((min n 10:Nat):Int):=fun n=>by rw [V6];omega
  refine Ev.step (fun k=>jN.l0.eq_2 ..) (eN (gF (a:=out.mergeSort aK.le) (by unfold aK.f;rw [if_pos (by omega)]) (gF rfl ?_)))
  rw [hm]
  refine eP (eP (gF rfl (aU ?_ (fH (Ev.now _) ?_))))
  ·simp;omega
  ·rw [List.nil_append,Int.toNat_natCast]
   rcases Nat.le_total out.length 10 with h|h
   ·rw [Nat.min_eq_left h,List.take_of_length_le (by rw [List.length_mergeSort];omega),List.take_of_length_le (by rw [List.length_mergeSort];omega)]
   ·rw [Nat.min_eq_right h]
 |succ d ih=>
  intro i out hi ho
  have hi' :i<ws.length:=by omega
  have e:gsL (ws.drop i) w vZ=(if wZ ws[i] w≤vZ then [(⟨ws[i],wZ ws[i] w⟩:Gu)] else [])++gsL (ws.drop (i+1)) w vZ:=by
   rw [drop_cons hi']
   rfl
  have hs:=hz _ (List.getElem_mem hi')
  have hks:=hk _ (List.getElem_mem hi')
  have hb:aFk ws[i] w vZ=decide (wZ ws[i] w≤vZ):=by unfold aFk;rw [hks,hkw];simp
  have hf:TD ws[i] w=wZ ws[i] w:=by unfold TD;rw [if_pos ⟨hks,hkw⟩]
  refine Ev.step (fun k=>jN.l0.eq_2 ..) (eP (eP (eP ?_)))
  rw [qX ws i hi',w6 (n:=(i:Int)+1),e]
  refine Ev.bind (fH (aDi _ _ vZ (by omega) (by omega)) hb) ?_
  by_cases c:wZ ws[i] w≤vZ
  ·rw [if_pos c,←List.append_assoc]
   refine aU (by simpa using c) (Ev.bind (fH (aEt _ _ (by omega) (by omega)) hf) (eP ?_))
   exact ih (i+1) _ (by omega) (by simp;omega)
  ·rw [if_neg c,List.nil_append]
   exact bG (by simpa using c) (ih (i+1) _ (by omega) (by omega))
theorem aAX (s:ByteArray):kZ.f s=some (zH s):=by
 unfold kZ.f
 by_cases c:(s.size:Int)=1
 ·rw [if_pos c,if_pos (by omega)]
  by_cases e:bt s 0≥65
  ·rw [if_pos e]
   simp [zH,e]
   omega
  ·rw [if_neg e]
   simp [zH,e]
 ·rw [if_neg c]
  simp [zH]
  omega
theorem JB (s p:ByteArray):mM.f s p=some (SL s p):=by
 unfold mM.f
 by_cases c:(s.size:Int)≥(p.size:Int)
 ·rw [if_pos c,if_pos (by omega),if_pos (by omega),NC]
  try rw [Int.toNat_natCast]
  simp [SL]
  omega
 ·rw [if_neg c]
  simp [SL]
  omega
theorem TC (s p:ByteArray) (h:s.size≤1407374883512320):o7.f s p=some (TA s p):=by
 unfold o7.f
 by_cases c:(s.size:Int)≥(p.size:Int)
 ·rw [if_pos c,w6,if_pos (by omega),if_pos (by omega),NC,show((s.size:Int)-(p.size:Int)).toNat=s.size-p.size from by omega]
  simp [TA]
  omega
 ·rw [if_neg c]
  simp [TA]
  omega
theorem YS (s:ByteArray) (h:s.size≤140737488351232):Ev (fun k=>eU.f k s 4) (xP s):=
 fH (Q3 s 4 h) (by
  unfold xP
  congr 1
  exact decide_eq_decide.2 (by omega))
theorem aBB (g:ByteArray) (fr:Bool) (st ad wh:ByteArray) (h1:st.size≤140737488351232) (h2:ad.size≤140737488351232) (h3:wh.size≤140737488351232):
  Ev (fun k=>iJ.f k g fr st ad wh) (vR g fr st ad wh):=by
 have no: ∀r,r=false→Ev (fun k=>iJ.j0 k true g fr st ad wh) r:=fun r hr=>Ev.step (fun k=>iJ.j0.eq_2 _ _ _ _ _ _ _) (aU rfl (fH (Ev.now _) hr.symm))
 unfold iJ.f
 refine gF (aAX _) ?_
 cases e1:zH g with
 |false=>exact bG (by simp) (no _ (by simp [vR,e1]))
 |true=>
  refine aU rfl (Ev.bind (YS st h1) ?_)
  cases e2:xP st with
  |false=>exact bG (by simp) (no _ (by simp [vR,e2]))
  |true=>
   refine aU rfl (Ev.bind (YS ad h2) ?_)
   cases e3:xP ad with
   |false=>exact bG (by simp) (no _ (by simp [vR,e3]))
   |true=>
    refine aU rfl (Ev.bind (YS wh h3) ?_)
    cases e4:xP wh with
    |false=>exact no _ (by simp [vR,e4])
    |true=>
     refine Ev.step (fun k=>iJ.j0.eq_2 _ _ _ _ _ _ _) (bG (by simp) ?_)
     cases fr with
     |true=>exact aU rfl (gF (JB _ _) (fH (Ev.now _) (by simp [vR,e1,e2,e3,e4])))
     |false=>exact bG (by simp) (gF (TC _ _ (by omega)) (fH (Ev.now _) (by simp [vR,e1,e2,e3,e4])))
theorem ZF (c:Int):oH.f c=some (decide (65≤c)&&decide (c≤90)):=by
 unfold oH.f
 by_cases e:c≥65
 ·rw [if_pos e];simp [e]
 ·rw [if_neg e];simp;omega
theorem aF7 (s p:ByteArray):lQ.f s p=some (SL s p):=JB s p
theorem MJ (s p:ByteArray):jJ.f s p=some (SL s p):=by
 unfold jJ.f
 rw [aF7]
 rfl
theorem aF8 (s p:ByteArray) (h:s.size≤1407374883512320):lS.f s p=some (TA s p):=TC s p h
theorem MK (s p:ByteArray) (h:s.size≤1407374883512320):jK.f s p=some (TA s p):=by
 unfold jK.f
 rw [aF8 s p h]
 rfl
theorem aGI (g:ByteArray) (fr:Bool) (st ad wh:ByteArray) (l:List ByteArray) (hl:l.length≤10) (hs: ∀x∈l,x.size≤140737488351232) (hw:wh.size≤140737488351232) (d:Nat): ∀i:Int,0≤i→i≤l.length→(l.length:Int)-i=d→
  Ev (fun k=>fC.l0 k l (l.length:Int) i g fr st ad wh) ((l.drop i.toNat).all xP&&(if fr=true then SL wh st else TA wh st)):=by
 induction d with
 |zero=>
  intro i h0 h1 hd
  refine Ev.step (fun k=>fC.l0.eq_2 _ _ _ _ _ _ _ _ _) (eN ?_)
  rw [List.drop_eq_nil_of_le (by omega),List.all_nil,Bool.true_and]
  cases fr with
  |true=>exact aU rfl (gF (MJ _ _) (Ev.now _))
  |false=>exact bG (by simp) (gF (MK _ _ (by omega)) (Ev.now _))
 |succ d ih=>
  intro i h0 h1 hd
  have hi:i.toNat<l.length:=by omega
  have hx:bP ByteArray.empty l i=l[i.toNat]:=by simp [bP,List.getD_eq_getElem?_getD,List.getElem?_eq_getElem hi]
  have hm:=hs _ (List.getElem_mem hi)
  refine Ev.step (fun k=>fC.l0.eq_2 _ _ _ _ _ _ _ _ _) (eP (aU h0 (eP ?_)))
  rw [hx,List.drop_eq_getElem_cons hi,List.all_cons]
  generalize l[i.toNat]=x at*
  by_cases c:(x.size:Int)>4
  ·refine aU c (fH (Ev.now _) ?_)
   have:xP x=false:=by simp [xP];omega
   rw [this]
   rfl
  ·refine bG c (Ev.bind (YV x hm) ?_)
   have hp:xP x=(bytesOf x).all low:=by
    simp only [xP]
    rw [decide_eq_true (by omega),Bool.and_true]
   rw [hp]
   cases e:(bytesOf x).all low with
   |false=>exact bG (by simp) (fH (Ev.now _) (by simp))
   |true=>
    refine aU rfl ?_
    rw [w6,Bool.true_and,show i.toNat+1=(i+1).toNat from by omega]
    exact ih (i+1) (by omega) (by omega) (by omega)
theorem N9 (g:ByteArray) (fr:Bool) (st ad wh:ByteArray) (h1:st.size≤140737488351232) (h2:ad.size≤140737488351232) (h3:wh.size≤140737488351232):
  Ev (fun k=>fC.f k g fr st ad wh) (vR g fr st ad wh):=by
 unfold fC.f
 by_cases c:(g.size:Int)=1
 ·refine aU c (eP (gF (ZF _) ?_))
  have hf:zH g=(decide (65≤bt g 0)&&decide (bt g 0≤90)):=by
   simp only [zH]
   rw [decide_eq_true (by omega),Bool.true_and]
  rw [←hf]
  cases e:zH g with
  |false=>exact Ev.step (fun k=>fC.j0.eq_2 _ _ _ _ _ _ _) (aU rfl (fH (Ev.now _) (by simp [vR,e])))
  |true=>
   refine Ev.step (fun k=>fC.j0.eq_2 _ _ _ _ _ _ _) (bG (by simp) (gF rfl ?_))
   refine fH (aGI g fr st ad wh [st,ad,wh] (by simp) (by
    intro x hx
    simp only [List.mem_cons,List.not_mem_nil,or_false] at hx
    rcases hx with rfl|rfl|rfl<;>assumption) h3 3 0 (by omega) (by simp) (by simp)) ?_
   simp [vR,e,Bool.and_assoc]
 ·refine bG c (Ev.step (fun k=>fC.j0.eq_2 _ _ _ _ _ _ _) (aU rfl (fH (Ev.now _) ?_)))
  have:zH g=false:=by simp [zH];omega
  simp [vR,this]
abbrev Af:=kH
theorem aWB {P:Af→Prop} {l:List Af} (h: ∀s∈l,P s) (i:Nat) (hi:i<l.length):P (aD l (i:Int)):=by
 have e:aD l (i:Int)=l[i]:=by simp [aD,List.getD_eq_getElem?_getD,hi]
 rw [e]
 exact h _ (List.getElem_mem hi)
def eqA (a b:Af):Bool:=a.f0.toList==b.f0.toList&&(a.f1==b.f1&&(a.f2.toList==b.f2.toList&&(a.f3.toList==b.f3.toList&&(a.f4.toList==b.f4.toList))))
theorem FC {α:Type} [BEq α] [LawfulBEq α] (a b:α):(a==b)=(b==a):=by
 cases h:(a==b)with
 |true=>rw [eq_of_beq h];simp
 |false=>
  cases g:(b==a)with
  |false=>rfl
  |true=>rw [eq_of_beq g] at h;simp at h
theorem aEr (a b:Af):eqA a b=eqA b a:=by
 unfold eqA
 rw [FC a.f0.toList,FC a.f1,FC a.f2.toList,FC a.f3.toList,FC a.f4.toList]
def dup (l:List Af) (i:Int):Nat→Int→Bool
 |0,_=>false
 |d+1,k=>eqA (aD l k) (aD l i)||dup l i d (k+1)
def L6 (l:List Af):Nat→Int→Bool
 |0,_=>true
 |d+1,i=>vR (aD l i).f0 (aD l i).f1 (aD l i).f2 (aD l i).f3 (aD l i).f4&& !dup l i i.toNat 0&&L6 l d (i+1)
def HZ (l:List Af):Bool:=L6 l l.length 0&&decide (l.length≤8)
abbrev aBi (l:List Af):Prop:= ∀s∈l,(s.f0.size≤1048576∧s.f2.size≤1048576∧s.f3.size≤1048576∧s.f4.size≤1048576)
theorem Z6 (l:List Af) (hl:l.length≤1048576) (i:Nat) (hi:i<l.length) {r:Bool} (d:Nat): ∀k:Nat,k+d=i→(dup l i d k=true→r=false)→(dup l i d k=false→Ev (fun n=>eO.l0 n l (wrap64 ((i:Int)+1))) r)→Ev (fun n=>eO.l1 n l (i:Int) (k:Int)) r:=by
 induction d with
 |zero=>
  intro k hk _ yes
  exact Ev.step (fun n=>eO.l1.eq_2 _ _ _ _) (eN (yes rfl))
 |succ d ih=>
  intro k hk no yes
  simp only [dup] at no yes
  refine Ev.step (fun n=>eO.l1.eq_2 _ _ _ _) (eP (eP (eP (eP (eP ?_)))))
  rw [w6 (n:=(k:Int)+1)]
  cases e:eqA (aD l (k:Int)) (aD l (i:Int))with
  |true=>
   rw [e] at no
   exact aU e (fH (Ev.now _) (no rfl).symm)
  |false=>
   rw [e] at no yes
   simp only [Bool.false_or] at no yes
   exact bG (fun h=>by have h' :eqA (aD l (k:Int)) (aD l (i:Int))=true:=h;rw [e] at h';cases h') (ih (k+1) (by omega) no yes)
theorem XP (l:List Af) (hl:l.length≤1048576) (hs:aBi l) (d:Nat): ∀i:Nat,i+d=l.length→Ev (fun n=>eO.l0 n l (i:Int)) (L6 l d i&&decide (l.length≤8)):=by
 induction d with
 |zero=>
  intro i hi
  refine Ev.step (fun n=>eO.l0.eq_2 _ _ _) (eN (fH (Ev.now _) ?_))
  simp only [L6,Bool.true_and]
  exact decide_eq_decide.2 (by omega)
 |succ d ih=>
  intro i hi
  have h:=aWB hs i (by omega)
  refine Ev.step (fun n=>eO.l0.eq_2 _ _ _) (eP (eP (Ev.bind (aBB _ _ _ _ _ (by omega) (by omega) (by omega)) ?_)))
  simp only [L6]
  cases e:vR (aD l (i:Int)).f0 (aD l (i:Int)).f1 (aD l (i:Int)).f2 (aD l (i:Int)).f3 (aD l (i:Int)).f4 with
  |false=>exact bG (by simp) (fH (Ev.now _) (by simp))
  |true=>
   refine aU rfl (Z6 l hl i (by omega) i 0 (by omega) (fun hd=>?_) (fun hd=>?_))
   ·have hd' :dup l (i:Int) (i:Int).toNat 0=true:=hd
    rw [hd']
    simp
   ·have hd' :dup l (i:Int) (i:Int).toNat 0=false:=hd
    rw [hd',w6 (n:=(i:Int)+1)]
    exact fH (ih (i+1) (by omega)) (by simp)
theorem aKf (l:List Af) (hl:l.length≤1048576) (hs:aBi l):Ev (fun n=>eO.f n l) (HZ l):=XP l hl hs l.length 0 (by omega)
theorem Z5 (l q:List Af) (hl:l.length≤1048576) (i:Nat) (hq:q=l.take i) (hi:i<l.length) (d:Nat): ∀k:Nat,k+d=i→ ∃v:Int,Ev (fun n=>iT.l0 n q (q.length:Int) (k:Int) (aD l (i:Int)).f0 (aD l (i:Int)).f1 (aD l (i:Int)).f2 (aD l (i:Int)).f3 (aD l (i:Int)).f4) v∧decide (v≥0)=dup l i d k:=by
 have hql:q.length=i:=by rw [hq,List.length_take];omega
 induction d with
 |zero=>
  intro k hk
  exact⟨-1,Ev.step (fun n=>iT.l0.eq_2 _ _ _ _ _ _ _ _ _) (eN (Ev.now _)),rfl⟩
 |succ d ih=>
  intro k hk
  have hat:aD q (k:Int)=aD l (k:Int):=by
   simp only [aD,List.getD_eq_getElem?_getD,Int.toNat_natCast]
   rw [hq,List.getElem?_take_of_lt (by omega)]
  simp only [dup]
  cases e:eqA (aD l (k:Int)) (aD l (i:Int))with
  |true=>
   have e' :eqA (aD l (i:Int)) (aD l (k:Int))=true:=by rw [aEr];exact e
   refine⟨k,Ev.step (fun n=>iT.l0.eq_2 _ _ _ _ _ _ _ _ _) (eP (eP (eP ?_))),by simp⟩
   rw [hat]
   exact aU e' (Ev.now _)
  |false=>
   have e' :eqA (aD l (i:Int)) (aD l (k:Int))=false:=by rw [aEr];exact e
   obtain⟨v,h1,h2⟩:=ih (k+1) (by omega)
   refine⟨v,Ev.step (fun n=>iT.l0.eq_2 _ _ _ _ _ _ _ _ _) (eP (eP (eP ?_))),by rw [Bool.false_or];exact h2⟩
   rw [hat,w6 (n:=(k:Int)+1)]
   exact bG (fun h=>by have h' :eqA (aD l (i:Int)) (aD l (k:Int))=true:=h;rw [e'] at h';cases h') h1
theorem XO (l:List Af) (hl:l.length≤1048576) (hs:aBi l) (d:Nat): ∀i:Nat,i+d=l.length→Ev (fun n=>dO.l0 n l l (l.length:Int) (i:Int)) (L6 l d i&&decide (l.length≤8)):=by
 induction d with
 |zero=>
  intro i hi
  refine Ev.step (fun n=>dO.l0.eq_2 _ _ _ _ _) (eN (fH (Ev.now _) ?_))
  simp only [L6,Bool.true_and]
  exact decide_eq_decide.2 (by omega)
 |succ d ih=>
  intro i hi
  have h:=aWB hs i (by omega)
  refine Ev.step (fun n=>dO.l0.eq_2 _ _ _ _ _) (eP (eP (eP (Ev.bind (N9 _ _ _ _ _ (by omega) (by omega) (by omega)) ?_))))
  simp only [L6]
  cases e:vR (aD l (i:Int)).f0 (aD l (i:Int)).f1 (aD l (i:Int)).f2 (aD l (i:Int)).f3 (aD l (i:Int)).f4 with
  |false=>exact bG (by simp) (fH (Ev.now _) (by simp))
  |true=>
   obtain⟨v,h1,h2⟩:=Z5 l (l.take i) hl i rfl (by omega) i 0 (by omega)
   have hd:Ev (fun n=>qJ.f n (l.take (i:Int).toNat) (aD l (i:Int)).f0 (aD l (i:Int)).f1 (aD l (i:Int)).f2 (aD l (i:Int)).f3 (aD l (i:Int)).f4) (dup l (i:Int) (i:Int).toNat 0):=Ev.bind h1 (fH (Ev.now _) h2)
   refine aU rfl (eP (Ev.bind hd ?_))
   rw [w6 (n:=(i:Int)+1)]
   cases dup l (i:Int) (i:Int).toNat 0 with
   |true=>exact aU rfl (fH (Ev.now _) (by simp))
   |false=>exact bG (by simp) (fH (ih (i+1) (by omega)) (by simp))
theorem aAK (l:List Af) (hl:l.length≤1048576) (hs:aBi l):Ev (fun n=>dO.f n l) (HZ l):=XO l hl hs l.length 0 (by omega)
theorem aD1 (s:ByteArray) (i:Nat) (h:i<s.size):bt (s.extract i (i+1)) 0=bt s i:=by
 have hs:(s.extract i (i+1)).size=1:=by rw [size_extract s i (i+1) (by omega) (by omega)];omega
 have h1:=pK (s.extract i (i+1)) 0 (by omega) (by omega)
 have h2:=pK s i (by omega) (by omega)
 rw [o6] at h1
 have h2' :(bytesOf s).drop i=bt s i::(bytesOf s).drop ((i:Int)+1).toNat:=by simpa using h2
 rw [h2',show i+1-i=1 from by omega] at h1
 simp only [List.take_succ_cons,List.take_zero] at h1
 have:=congrArg List.head? h1
 simpa using this.symm
theorem aBS (s:ByteArray) (i:Nat) (h:i<s.size):zH (s.extract i (i+1))=(decide (65≤bt s i)&&decide (bt s i≤90)):=by
 have hs:(s.extract i (i+1)).size=1:=by rw [size_extract s i (i+1) (by omega) (by omega)];omega
 unfold zH
 rw [hs,aD1 s i h]
 simp
def aEu (s:ByteArray):Nat→Int→Bool
 |0,_=>true
 |d+1,i=>(decide (65≤bt s i)&&decide (bt s i≤90))&&(if i>0 then decide (bt s (i-1)<bt s i)else true)&&aEu s d (i+1)
def X9 (w f:ByteArray):Bool:=aEu f f.size 0&&(gD w&&decide (f.size≤4))
theorem Z8 (w f:ByteArray) (hw:w.size≤1048576) (hf:f.size≤1048576) (d:Nat): ∀i:Nat,i+d=f.size→Ev (fun k=>iK.l0 k (i:Int) w f) (aEu f d i&&(gD w&&decide (f.size≤4))):=by
 induction d with
 |zero=>
  intro i hi
  refine Ev.step (fun k=>iK.l0.eq_2 _ _ _ _) (eN (Ev.bind (wL w (by omega)) ?_))
  simp only [aEu,Bool.true_and]
  cases gD w with
  |false=>exact bG (by simp) (Ev.now _)
  |true=>exact aU rfl (fH (Ev.now _) (by rw [Bool.true_and];exact decide_eq_decide.2 (by omega)))
 |succ d ih=>
  intro i hi
  refine Ev.step (fun k=>iK.l0.eq_2 _ _ _ _) ?_
  rw [w6 (n:=(i:Int)+1)]
  refine eP (eP (eP (eP (gF (aAX _) ?_))))
  rw [show((i:Int)+1).toNat=i+1 from by omega,Int.toNat_natCast,aBS f i (by omega)]
  simp only [aEu]
  have next:=ih (i+1) (by omega)
  cases e:(decide (65≤bt f i)&&decide (bt f i≤90))with
  |false=>exact bG (by simp) (fH (Ev.now _) (by simp))
  |true=>
   refine aU rfl ?_
   by_cases c:(i:Int)>0
   ·rw [w6 (n:=(i:Int)-1),if_pos c]
    refine aU c (eP (eP ?_))
    by_cases g:bt f ((i:Int)-1)≥bt f i
    ·rw [decide_eq_false (show¬bt f ((i:Int)-1)<bt f i from by omega)]
     exact aU g (fH (Ev.now _) (by simp))
    ·rw [decide_eq_true (show bt f ((i:Int)-1)<bt f i from by omega)]
     exact bG g (fH next (by simp))
   ·rw [if_neg c]
    exact bG c (fH next (by simp))
theorem aNC (w f:ByteArray) (hw:w.size≤1048576) (hf:f.size≤1048576):Ev (fun k=>iK.f k w f) (X9 w f):=Z8 w f hw hf f.size 0 (by omega)
theorem Z7 (w f:ByteArray) (hw:w.size≤1048576) (hf:f.size≤1048576) (d:Nat): ∀i:Nat,i+d=f.size→Ev (fun k=>gQ.l0 k (f.size:Int) (i:Int) w f) (aEu f d i&&(gD w&&decide (f.size≤4))):=by
 induction d with
 |zero=>
  intro i hi
  refine Ev.step (fun k=>gQ.l0.eq_2 _ _ _ _ _) (eN (Ev.bind (wP w (by omega)) ?_))
  simp only [aEu,Bool.true_and]
  cases gD w with
  |false=>exact bG (by simp) (Ev.now _)
  |true=>exact aU rfl (fH (Ev.now _) (by rw [Bool.true_and];exact decide_eq_decide.2 (by omega)))
 |succ d ih=>
  intro i hi
  refine Ev.step (fun k=>gQ.l0.eq_2 _ _ _ _ _) ?_
  rw [w6 (n:=(i:Int)+1)]
  refine eP (eP (eP (gF (ZF _) ?_)))
  simp only [aEu]
  have next:=ih (i+1) (by omega)
  cases e:(decide (65≤bt f i)&&decide (bt f i≤90))with
  |false=>exact bG (by simp) (fH (Ev.now _) (by simp))
  |true=>
   refine aU rfl ?_
   by_cases c:(i:Int)>0
   ·rw [w6 (n:=(i:Int)-1),if_pos c]
    refine aU c (eP (eP ?_))
    by_cases g:bt f ((i:Int)-1)≥bt f i
    ·rw [decide_eq_false (show¬bt f ((i:Int)-1)<bt f i from by omega)]
     exact aU g (fH (Ev.now _) (by simp))
    ·rw [decide_eq_true (show bt f ((i:Int)-1)<bt f i from by omega)]
     exact bG g (fH next (by simp))
   ·rw [if_neg c]
    exact bG c (fH next (by simp))
theorem aEq (w f:ByteArray) (hw:w.size≤1048576) (hf:f.size≤1048576):Ev (fun k=>gQ.f k w f) (X9 w f):=Z7 w f hw hf f.size 0 (by omega)
abbrev En:=sV
def FM (l:List En):Nat→Int→Bool
 |0,_=>true
 |d+1,i=>X9 (aX l i).f0 (aX l i).f1&&(if i>0 then Op.bytesLess (aX l (i-1)).f0.toList (aX l i).f0.toList else true)&&FM l d (i+1)
def OX (l:List En):Bool:=FM l l.length 0&&decide (l.length≤24)
theorem aXA {P:En→Prop} {l:List En} (h: ∀s∈l,P s) (i:Nat) (hi:i<l.length):P (aX l (i:Int)):=by
 have e:aX l (i:Int)=l[i]:=by simp [aX,List.getD_eq_getElem?_getD,hi]
 rw [e]
 exact h _ (List.getElem_mem hi)
theorem YC (A:List Af) (l:List En) (hl:l.length≤1048576) (he: ∀s∈l,(s.f0.size≤1048576∧s.f1.size≤1048576)) {r:Bool} (no:FM l l.length 0=false→r=false) (d:Nat): ∀i:Nat,i+d=l.length→(FM l d i=false→r=false)→
  (FM l d i=true→Ev (fun k=>(eO.f k A).bind fun t130=>(if t130=true then(some (decide ((l.length:Int)≤24)))else(some false))) r)→Ev (fun k=>dX.l0 k (i:Int) A l) r:=by
 induction d with
 |zero=>
  intro i hi _ yes
  exact Ev.step (fun k=>dX.l0.eq_2 _ _ _ _) (eN (yes rfl))
 |succ d ih=>
  intro i hi no' yes
  have hs:=aXA he i (by omega)
  simp only [FM] at no' yes
  refine Ev.step (fun k=>dX.l0.eq_2 _ _ _ _) (eP (eP (Ev.bind (aNC _ _ hs.1 hs.2) ?_)))
  rw [w6 (n:=(i:Int)+1)]
  have next:=ih (i+1) (by omega)
  cases e:X9 (aX l (i:Int)).f0 (aX l (i:Int)).f1 with
  |false=>
   rw [e] at no'
   exact bG (by simp) (fH (Ev.now _) (no' (by simp)).symm)
  |true=>
   rw [e] at no' yes
   refine aU rfl ?_
   by_cases c:(i:Int)>0
   ·rw [w6 (n:=(i:Int)-1)]
    rw [if_pos c] at no' yes
    refine aU c (eP (eP ?_))
    cases g:Op.bytesLess (aX l ((i:Int)-1)).f0.toList (aX l (i:Int)).f0.toList with
    |false=>
     rw [g] at no'
     exact bG (by simp) (fH (Ev.now _) (no' (by simp)).symm)
    |true=>
     rw [g] at no' yes
     simp only [Bool.true_and] at no' yes
     exact aU rfl (next no' yes)
   ·rw [if_neg c] at no' yes
    simp only [Bool.true_and] at no' yes
    exact bG c (next no' yes)
theorem YB (l:List En) (hl:l.length≤1048576) (he: ∀s∈l,(s.f0.size≤1048576∧s.f1.size≤1048576)) (d:Nat): ∀i:Nat,i+d=l.length→Ev (fun k=>dR.l0 k l l (l.length:Int) (i:Int)) (FM l d i&&decide (l.length≤24)):=by
 induction d with
 |zero=>
  intro i hi
  refine Ev.step (fun k=>dR.l0.eq_2 _ _ _ _ _) (eN (fH (Ev.now _) ?_))
  simp only [FM,Bool.true_and]
  exact decide_eq_decide.2 (by omega)
 |succ d ih=>
  intro i hi
  have hs:=aXA he i (by omega)
  refine Ev.step (fun k=>dR.l0.eq_2 _ _ _ _ _) (eP (eP (eP (Ev.bind (aEq _ _ hs.1 hs.2) ?_))))
  rw [w6 (n:=(i:Int)+1)]
  have next:=ih (i+1) (by omega)
  simp only [FM]
  cases e:X9 (aX l (i:Int)).f0 (aX l (i:Int)).f1 with
  |false=>exact bG (by simp) (fH (Ev.now _) (by simp))
  |true=>
   refine aU rfl ?_
   by_cases c:(i:Int)>0
   ·rw [w6 (n:=(i:Int)-1),if_pos c]
    refine aU c (eP (eP ?_))
    cases g:Op.bytesLess (aX l ((i:Int)-1)).f0.toList (aX l (i:Int)).f0.toList with
    |false=>exact bG (by simp) (fH (Ev.now _) (by simp))
    |true=>exact aU rfl (fH next (by simp))
   ·rw [if_neg c]
    exact bG c (fH next (by simp))
structure ZN (A:List Af) (E:List En):Prop where
 la:A.length≤1048576
 le:E.length≤1048576
 a: ∀s∈A,(s.f0.size≤1048576∧s.f2.size≤1048576∧s.f3.size≤1048576∧s.f4.size≤1048576)
 e: ∀s∈E,(s.f0.size≤1048576∧s.f1.size≤1048576)
def sP (A:List Af) (E:List En):Bool:=HZ A&&OX E
theorem JD (A:List Af) (E:List En) (h:ZN A E):Ev (fun n=>dX.f n A E) (sP A E):=by
 refine YC A E h.le h.e (fun hf=>by simp [sP,OX,hf]) E.length 0 (by omega) (fun hf=>?_) (fun ht=>?_)
 ·have hf' :FM E E.length 0=false:=hf
  simp [sP,OX,hf']
 ·have ht' :FM E E.length 0=true:=ht
  refine Ev.bind (aKf A h.la h.a) ?_
  simp only [sP,OX,ht',Bool.true_and]
  cases HZ A with
  |false=>exact bG (by simp) (fH (Ev.now _) (by simp))
  |true=>exact aU rfl (fH (Ev.now _) (by rw [Bool.true_and];exact decide_eq_decide.2 (by omega)))
theorem JC (A:List Af) (E:List En) (h:ZN A E):Ev (fun n=>kX.f n A E) (sP A E):=by
 unfold kX.f
 refine Ev.bind (aAK A h.la h.a) ?_
 simp only [sP]
 cases HZ A with
 |false=>exact bG (by simp) (fH (Ev.now _) (by simp))
 |true=>exact aU rfl (Ev.bind (YB E h.le h.e E.length 0 (by omega)) (fH (Ev.now _) (by rw [Bool.true_and];rfl)))
theorem aKN (g:ByteArray) (fr:Bool) (st ad wh jV:ByteArray) (h1:st.size≤wh.size) (h2:ad.size≤140737488351232) (h3:jV.size≤140737488351232):
  Ev (fun k=>wO.f k g fr st ad wh jV) (aE0 (doB fr st ad wh jV)):=by
 unfold wO.f
 cases fr with
 |true=>
  refine aU rfl (gF (JB _ _) ?_)
  by_cases c:SL jV wh=true
  ·have hs:=SN c
   have hz:(jV.extract st.size jV.size).size=jV.size-st.size:=size_extract _ _ _ (by omega) (Nat.le_refl _)
   refine aU c (eP (eP ?_))
   try rw [Int.toNat_natCast]
   refine eP (Ev.bind (QY _ (by rw [size_append];omega)) (fH (Ev.now _) ?_))
   simp [doB,c,aE0]
  ·exact bG c (fH (Ev.now _) (by simp [doB,c,aE0]))
 |false=>
  refine bG (by simp) (gF (TC _ _ (by omega)) ?_)
  by_cases c:TA jV wh=true
  ·have hs:=TB c
   have hz:(jV.extract 0 (jV.size-st.size)).size=jV.size-st.size:=by
    rw [size_extract _ _ _ (by omega) (by omega)]
    omega
   refine aU c ?_
   rw [w6,show((jV.size:Int)-(st.size:Int)).toNat=jV.size-st.size from by omega]
   refine eP (eP (eP (Ev.bind (QY _ (by rw [size_append];omega)) (fH (Ev.now _) ?_))))
   simp [doB,c,aE0]
  ·exact bG c (fH (Ev.now _) (by simp [doB,c,aE0]))
theorem aE4 (l:List ByteArray) (i:Int) (_:0≤i) (h:i.toNat<l.length):bP ByteArray.empty l i=l[i.toNat]:=by
 simp [bP,List.getD_eq_getElem?_getD,List.getElem?_eq_getElem h]
theorem aJS (l:List ByteArray) (s:ByteArray) (i:Int) (h0:0≤i) (h1:i≤l.length) (hl:l.length≤1000000):Ev (fun k=>dL.j2 k l s i false) (l.take i.toNat++s::l.drop i.toNat):=by
 refine Ev.step (fun k=>dL.j2.eq_2 _ _ _ _ _) (bG (by simp) (gF rfl (aU h0 (aU h1 (gF rfl (aU ?_ (gF rfl (gF rfl (aU ?_ (gF rfl (gF rfl (aU ?_ (fH (Ev.now _) ?_)))))))))))))
 ·simp only [List.length_nil,List.length_take]
  omega
 ·simp only [List.nil_append,List.length_take,List.length_cons,List.length_nil]
  omega
 ·simp only [List.nil_append,List.length_append,List.length_take,List.length_cons,List.length_nil,List.length_drop]
  omega
 ·simp
theorem aQP (l:List ByteArray) (s:ByteArray) (hl:l.length≤1000000) (d:Nat): ∀i:Int,0≤i→i≤l.length→(l.length:Int)-i=d→
  Ev (fun k=>dL.l0 k l s i) (l.take i.toNat++vN (l.drop i.toNat) s):=by
 induction d with
 |zero=>
  intro i h0 h1 hd
  have e:=aJS l s i h0 h1 hl
  rw [List.drop_eq_nil_of_le (by omega)] at e⊢
  exact Ev.step (fun k=>dL.l0.eq_2 _ _ _ _) (eN (Ev.step (fun k=>dL.j1.eq_2 _ _ _ _ _) (bG (by simp) (bG (by omega) e))))
 |succ d ih=>
  intro i h0 h1 hd
  have hi:i.toNat<l.length:=by omega
  have e:=aJS l s i h0 h1 hl
  have ihe:=ih (i+1) (by omega) (by omega) (by omega)
  rw [List.drop_eq_getElem_cons hi] at e⊢
  rw [show(i+1).toNat=i.toNat+1 from by omega,List.take_succ_eq_append_getElem hi] at ihe
  refine Ev.step (fun k=>dL.l0.eq_2 _ _ _ _) (eP (aU h0 (Ev.step (fun k=>dL.j1.eq_2 _ _ _ _ _) ?_)))
  rw [aE4 l i h0 hi]
  generalize hx:l[i.toNat]=x at*
  by_cases c:Op.bytesLess x.toList s.toList=true
  ·refine aU c ?_
   rw [w6]
   refine fH ihe ?_
   simp [vN,UO,c]
  ·refine bG c (eP (aU h0 ?_))
   by_cases c2:x=s
   ·refine Ev.step (fun k=>dL.j2.eq_2 _ _ _ _ _) (aU (by simp [c2]) (fH (Ev.now _) ?_))
    subst c2
    rw [show vN (x::l.drop (i.toNat+1)) x=x::l.drop (i.toNat+1)from by simp [vN,CP]]
    have:x::l.drop (i.toNat+1)=l.drop i.toNat:=by rw [List.drop_eq_getElem_cons hi,hx]
    rw [this,List.take_append_drop]
   ·rw [show(x.toList==s.toList)=false from by rw [NC];simp [c2]]
    refine fH e ?_
    simp [vN,UO,c,c2]
theorem Y0 (l:List ByteArray) (s:ByteArray) (hl:l.length≤1000000):Ev (fun k=>dL.f k l s) (vN l s):=
 fH (aQP l s hl l.length 0 (by omega) (by omega) (by omega)) (by simp)
def aA2 (f g:ByteArray):Bool:=(bytesOf f).contains (bt g 0)
theorem SQ {g:ByteArray} (h:g.size=1):bytesOf g=[bt g 0]:=by
 have h1:=pK g 0 (by omega) (by omega)
 have h2:((bytesOf g).drop ((0:Int)+1).toNat)=[]:=List.drop_eq_nil_of_le (by rw [bR];omega)
 rw [h2] at h1
 simpa using h1
theorem aD3 {f:ByteArray} (i:Nat) (h:i<f.size):bytesOf (f.extract i (i+1))=[bt f i]:=by
 have h1:=pK f i (by omega) (by omega)
 rw [Int.toNat_natCast] at h1
 rw [o6,h1]
 simp
theorem aNT (f g:ByteArray) (hf:f.size≤1048576) (hg:g.size=1) (d:Nat): ∀i:Nat,i+d=f.size→Ev (fun k=>mD.l0 k f g (i:Int)) (((bytesOf f).drop i).contains (bt g 0)):=by
 induction d with
 |zero=>
  intro i hi
  refine Ev.step (fun k=>mD.l0.eq_2 _ _ _ _) (eN (fH (Ev.now _) ?_))
  rw [List.drop_eq_nil_of_le (by rw [bR];omega)]
  rfl
 |succ d ih=>
  intro i hi
  have e:wrap64 ((i:Int)+1)=((i+1:Nat):Int):=w6
  refine Ev.step (fun k=>mD.l0.eq_2 _ _ _ _) ?_
  rw [e]
  refine eP (eP (eP (eP ?_)))
  rw [Int.toNat_natCast,Int.toNat_natCast]
  have h1:=pK f i (by omega) (by omega)
  rw [Int.toNat_natCast,show((i:Int)+1).toNat=i+1 from by omega] at h1
  rw [h1,List.contains_cons]
  by_cases c:bt f i=bt g 0
  ·refine aU ((sJ _ _).2 (bytes_inj (by rw [aD3 i (by omega),SQ hg,c]))) (fH (Ev.now _) ?_)
   simp [c]
  ·refine bG (fun h=>c ?_) (fH (ih (i+1) (by omega)) ?_)
   ·have:=congrArg bytesOf ((sJ _ _).1 h)
    rw [aD3 i (by omega),SQ hg] at this
    simpa using this
   ·have:(bt g 0==bt f i)=false:=by simpa using fun h=>c h.symm
    rw [this,Bool.false_or]
theorem a0J (f g:ByteArray) (hf:f.size≤1048576) (hg:g.size=1):Ev (fun k=>mD.f k f g) (aA2 f g):=by
 have:=aNT f g hf hg f.size 0 (by omega)
 rw [List.drop_zero] at this
 exact this
abbrev WS (a:Af):Prop:=vR a.f0 a.f1 a.f2 a.f3 a.f4=true
theorem aKe (A:List Af) (d:Nat): ∀i:Nat,i+d=A.length→L6 A d (i:Int)=true→ ∀a∈A.drop i,WS a:=by
 induction d with
 |zero=>
  intro i hi _ a ha
  rw [List.drop_eq_nil_of_le (by omega)] at ha
  cases ha
 |succ d ih=>
  intro i hi h a ha
  have hlt:i<A.length:=by omega
  simp only [L6,Bool.and_eq_true] at h
  have e:aD A (i:Int)=A[i]:=by simp [aD,List.getD_eq_getElem?_getD,hlt]
  rw [e] at h
  rw [List.drop_eq_getElem_cons hlt] at ha
  rcases List.mem_cons.1 ha with rfl|ha
  ·exact h.1.1
  ·exact ih (i+1) (by omega) h.2 a ha
theorem E9 {A:List Af} (h:HZ A=true):(∀a∈A,WS a)∧A.length≤8:=by
 simp only [HZ,Bool.and_eq_true,decide_eq_true_eq] at h
 exact⟨fun a ha=>aKe A A.length 0 (by omega) h.1 a (by simpa using ha),h.2⟩
theorem YA {w f:ByteArray} (h:X9 w f=true):gD w=true∧f.size≤4:=by
 simp only [X9,Bool.and_eq_true,decide_eq_true_eq] at h
 exact h.2
def Z0 (a:Af) (s:ByteArray):Option ByteArray:=(doB a.f1 a.f2 a.f3 a.f4 s).filter gD
theorem OV {a:Af} {s x:ByteArray} (h:Z0 a s=some x):gD x=true:=by
 unfold Z0 at h
 rw [Option.filter_eq_some_iff] at h
 exact h.2
def RG (a:Af) (fl:ByteArray) (front:Bool):Bool:=(a.f1==front)&&aA2 fl a.f0
def FH (a:Af) (fl:ByteArray) (front:Bool) (ws:List ByteArray):List ByteArray:=if RG a fl front=true then ws.filterMap (Z0 a)else []
def FU (A:List Af) (fl:ByteArray) (front:Bool) (ws out:List ByteArray):List ByteArray:=(A.flatMap (fun a=>FH a fl front ws)).foldl vN out
abbrev WsZ (ws:List ByteArray):Prop:= ∀s∈ws,s.size≤1048576
theorem aK0 (A:List Af) (fl:ByteArray) (front:Bool) (ws:List ByteArray) (i:Nat) (hi:i<A.length) (hok:WS A[i]) (hw:WsZ ws) (hl:ws.length≤1000) {r:List ByteArray} (d:Nat): ∀(j:Nat) (out:List ByteArray),j+d=ws.length→out.length+d≤100000→
  (∀out',out' =((ws.drop j).filterMap (Z0 A[i])).foldl vN out→Ev (fun k=>dH.l0 k A fl front ws out' (wrap64 ((i:Int)+1))) r)→Ev (fun k=>dH.l1 k A fl front ws out (i:Int) (j:Int)) r:=by
 have hp:=DT hok
 have e:aD A (i:Int)=A[i]:=by simp [aD,List.getD_eq_getElem?_getD,hi]
 induction d with
 |zero=>
  intro j out hj ho next
  refine Ev.step (fun k=>dH.l1.eq_2 _ _ _ _ _ _ _ _) (eN (next _ ?_))
  rw [List.drop_eq_nil_of_le (by omega)]
  rfl
 |succ d ih=>
  intro j out hj ho next
  have hs:=aWM (P:=fun s=>s.size≤1048576) hw j (by omega)
  have hlt:j<ws.length:=by omega
  have hA:A.length≤A.length:=Nat.le_refl _
  have s1:=YZ hp.2.1
  have s2:=YZ hp.2.2.1
  refine Ev.step (fun k=>dH.l1.eq_2 _ _ _ _ _ _ _ _) (eP (eP (eP (eP ?_))))
  rw [e,w6 (n:=(j:Int)+1)]
  refine Ev.bind (aKN _ _ _ _ _ _ (Y7 hok) (by omega) (by omega)) ?_
  rw [List.drop_eq_getElem_cons hlt] at next
  rw [qX ws j hlt]
  cases h:doB A[i].f1 A[i].f2 A[i].f3 A[i].f4 ws[j] with
  |none=>
   have h2:Z0 A[i] ws[j]=none:=by unfold Z0;rw [h];rfl
   rw [List.filterMap_cons_none h2] at next
   exact bG (by simp [aE0]) (ih (j+1) out (by omega) (by omega) next)
  |some x=>
   by_cases c:gD x=true
   ·have h2:Z0 A[i] ws[j]=some x:=by unfold Z0;rw [h,Option.filter_some,if_pos c]
    rw [List.filterMap_cons_some h2,List.foldl_cons] at next
    have hl:=(wM out x).2
    exact aU (by simpa [aE0] using c) (Ev.bind (Y0 out x (by omega)) (ih (j+1) _ (by omega) (by omega) next))
   ·have h2:Z0 A[i] ws[j]=none:=by unfold Z0;rw [h,Option.filter_some,if_neg c]
    rw [List.filterMap_cons_none h2] at next
    exact bG (by simpa [aE0] using c) (ih (j+1) out (by omega) (by omega) next)
set_option maxRecDepth 20000 in
theorem aQC (A:List Af) (fl:ByteArray) (front:Bool) (ws:List ByteArray) (hok: ∀a∈A,WS a) (hA:A.length≤8) (hf:fl.size≤1048576) (hw:WsZ ws) (hl:ws.length≤1000) (d:Nat): ∀(i:Nat) (out:List ByteArray),i+d=A.length→out.length+d*1000≤90000→
  Ev (fun k=>dH.l0 k A fl front ws out (i:Int)) (FU (A.drop i) fl front ws out):=by
 induction d with
 |zero=>
  intro i out hi ho
  refine Ev.step (fun k=>dH.l0.eq_2 _ _ _ _ _ _ _) (eN (fH (Ev.now _) ?_))
  rw [List.drop_eq_nil_of_le (by omega)]
  rfl
 |succ d ih=>
  intro i out hi ho
  have hlt:i<A.length:=by omega
  have e:aD A (i:Int)=A[i]:=by simp [aD,List.getD_eq_getElem?_getD,hlt]
  have ho' :=hok _ (List.getElem_mem hlt)
  have hg:A[i].f0.size=1:=by
   have:=(DT ho').1
   simp only [zH,Bool.and_eq_true,decide_eq_true_eq] at this
   exact this.1
  have ew:wrap64 ((i:Int)+1)=((i+1:Nat):Int):=w6
  have split:FU (A.drop i) fl front ws out=FU (A.drop (i+1)) fl front ws ((FH A[i] fl front ws).foldl vN out):=by
   unfold FU
   rw [List.drop_eq_getElem_cons hlt,List.flatMap_cons,List.foldl_append]
  rw [split]
  refine Ev.step (fun k=>dH.l0.eq_2 _ _ _ _ _ _ _) (eP (eP ?_))
  rw [e]
  have skip:RG A[i] fl front=false→Ev (fun k=>dH.j1 k A fl front ws out (i:Int) true) (FU (A.drop (i+1)) fl front ws ((FH A[i] fl front ws).foldl vN out)):=by
   intro hs
   refine Ev.step (fun k=>dH.j1.eq_2 _ _ _ _ _ _ _ _) (aU rfl ?_)
   have hc:FH A[i] fl front ws=[]:=by unfold FH;rw [if_neg (by simp [hs])]
   rw [ew,hc]
   exact ih (i+1) out (by omega) (by omega)
  by_cases c:(A[i].f1 !=front)=true
  ·refine aU c (skip ?_)
   have:(A[i].f1==front)=false:=by simpa [bne] using c
   unfold RG
   rw [this]
   rfl
  ·have c1:(A[i].f1==front)=true:=by simpa [bne] using c
   refine bG c (Ev.bind (a0J fl _ hf hg) ?_)
   cases h:aA2 fl A[i].f0 with
   |false=>exact skip (by unfold RG;rw [h,Bool.and_false])
   |true=>
    refine Ev.step (fun k=>dH.j1.eq_2 _ _ _ _ _ _ _ _) (bG (by simp) (aK0 A fl front ws i hlt ho' hw hl ws.length 0 out (by omega) (by omega) (fun out' he=>?_)))
    have hc:FH A[i] fl front ws=ws.filterMap (Z0 A[i]):=by unfold FH RG;rw [c1,h];rfl
    rw [List.drop_zero] at he
    rw [ew,hc,←he]
    refine ih (i+1) out' (by omega) ?_
    have h1:=uF (ws.filterMap (Z0 A[i])) out
    have h2:=List.length_filterMap_le (Z0 A[i]) ws
    rw [he]
    omega
theorem aEN (A:List Af) (fl:ByteArray) (front:Bool) (ws:List ByteArray) (hok: ∀a∈A,WS a) (hA:A.length≤8) (hf:fl.size≤1048576) (hw:WsZ ws) (hl:ws.length≤1000):Ev (fun k=>dH.f k A fl front ws) (FU A fl front ws ws):=by
 unfold dH.f
 refine gF rfl (aU (by simp;omega) ?_)
 have:=aQC A fl front ws hok hA hf hw hl A.length 0 ws (by omega) (by omega)
 simpa using this
theorem aEc (A:List Af) (fl:ByteArray) (front:Bool) (ws:List ByteArray):(A.flatMap (fun a=>FH a fl front ws)).length≤A.length*ws.length:=by
 induction A with
 |nil=>simp
 |cons a A ih=>
  rw [List.flatMap_cons,List.length_append,List.length_cons,Nat.add_mul]
  have:(FH a fl front ws).length≤ws.length:=by
   unfold FH
   split
   ·exact List.length_filterMap_le _ _
   ·simp
  omega
theorem JY (A:List Af) (fl:ByteArray) (front:Bool) (ws out:List ByteArray):(FU A fl front ws out).length≤out.length+A.length*ws.length:=by
 have h1:=uF (A.flatMap (fun a=>FH a fl front ws)) out
 have h2:=aEc A fl front ws
 unfold FU
 omega
theorem JZ (A:List Af) (fl:ByteArray) (front:Bool) (ws out:List ByteArray) (x:ByteArray):x∈FU A fl front ws out↔x∈out∨ ∃a∈A,RG a fl front=true∧ ∃s∈ws,Z0 a s=some x:=by
 unfold FU
 rw [JM,List.mem_flatMap]
 refine or_congr Iff.rfl ⟨fun⟨a,ha,h⟩=>?_,fun⟨a,ha,hs,s,hw,h⟩=>⟨a,ha,?_⟩⟩
 ·unfold FH at h
  split at h
  ·rename_i hs
   obtain⟨s,hw,he⟩:=List.mem_filterMap.1 h
   exact⟨a,ha,hs,s,hw,he⟩
  ·cases h
 ·unfold FH
  rw [if_pos hs]
  exact List.mem_filterMap.2 ⟨s,hw,h⟩
theorem aEY (A:List Af) (fl:ByteArray) (front:Bool) (ws:List ByteArray) {out:List ByteArray} (h:VN out):VN (FU A fl front ws out):=UH _ h
theorem aKZ {A:List Af} {fl:ByteArray} {front:Bool} {ws out:List ByteArray} (h:WsZ out):WsZ (FU A fl front ws out):=by
 intro s hs
 rcases(JZ A fl front ws out s).1 hs with hs|⟨a,_,_,t,_,he⟩
 ·exact h s hs
 ·have:=jX (OV he)
  omega
def vI (A:List Af) (w fl:ByteArray):List ByteArray:=FU A fl true (FU A fl false [w] [w]) (FU A fl false [w] [w])
theorem aF5 (A:List Af) (w fl:ByteArray):VN (vI A w fl):=aEY _ _ _ _ (aEY _ _ _ _ (by simp [VN]))
theorem EH {A:List Af} (hA:A.length≤8) (w fl:ByteArray):(vI A w fl).length≤81:=by
 have h1:=JY A fl false [w] [w]
 have h2:=JY A fl true (FU A fl false [w] [w]) (FU A fl false [w] [w])
 unfold vI
 simp only [List.length_cons,List.length_nil] at h1
 have h3:(FU A fl false [w] [w]).length≤9:=by omega
 have h4:A.length*(FU A fl false [w] [w]).length≤8*9:=Nat.mul_le_mul hA h3
 omega
theorem aGq (A:List Af) (w fl:ByteArray) (hok: ∀a∈A,WS a) (hA:A.length≤8) (hf:fl.size≤1048576) (hw:w.size≤1048576):Ev (fun k=>jO.f k A w fl) (vI A w fl):=by
 have z1:WsZ [w]:=fun s hs=>by simpa using (List.mem_singleton.1 hs▸hw:s.size≤1048576)
 have h1:=JY A fl false [w] [w]
 simp only [List.length_cons,List.length_nil] at h1
 unfold jO.f
 exact Ev.bind (aEN A fl false [w] hok hA hf z1 (by simp)) (Ev.bind (aEN A fl true _ hok hA hf (aKZ z1) (by omega)) (Ev.now _))
def aF4 (A:List Af) (w fl:ByteArray):List ByteArray:=if HZ A=true∧X9 w fl=true then vI A w fl else []
theorem aKD (E:List En) (d:Nat): ∀i:Nat,i+d=E.length→FM E d (i:Int)=true→ ∀e∈E.drop i,X9 e.f0 e.f1=true:=by
 induction d with
 |zero=>
  intro i hi _ a ha
  rw [List.drop_eq_nil_of_le (by omega)] at ha
  cases ha
 |succ d ih=>
  intro i hi h a ha
  have hlt:i<E.length:=by omega
  simp only [FM,Bool.and_eq_true] at h
  have e:aX E (i:Int)=E[i]:=by simp [aX,List.getD_eq_getElem?_getD,hlt]
  rw [e] at h
  rw [List.drop_eq_getElem_cons hlt] at ha
  rcases List.mem_cons.1 ha with rfl|ha
  ·exact h.1.1
  ·exact ih (i+1) (by omega) h.2 a ha
theorem FN {E:List En} (h:OX E=true):(∀e∈E,X9 e.f0 e.f1=true)∧E.length≤24:=by
 simp only [OX,Bool.and_eq_true,decide_eq_true_eq] at h
 exact⟨fun a ha=>aKD E E.length 0 (by omega) h.1 a (by simpa using ha),h.2⟩
def ZP (A:List Af) (E:List En):List ByteArray:=E.flatMap (fun e=>vI A e.f0 e.f1)
def iN (A:List Af) (E:List En) (out:List ByteArray):List ByteArray:=(ZP A E).foldl vN out
theorem aDM {A:List Af} (hA:A.length≤8) (E:List En):(ZP A E).length≤E.length*81:=by
 unfold ZP
 induction E with
 |nil=>simp
 |cons e E ih=>
  rw [List.flatMap_cons,List.length_append,List.length_cons,Nat.add_mul]
  have:=EH hA e.f0 e.f1
  omega
theorem ZG (A:List Af) (E:List En) (x:ByteArray):x∈iN A E []↔ ∃e∈E,x∈vI A e.f0 e.f1:=by
 unfold iN ZP
 rw [JM,List.mem_flatMap]
 simp
theorem EO {A:List Af} (hA:A.length≤8) (E:List En):(iN A E []).length≤E.length*81:=by
 have h1:=uF (ZP A E) []
 have h2:=aDM hA E
 unfold iN
 simp only [List.length_nil] at h1
 omega
def inB (l:List ByteArray) (s:ByteArray):Bool:=l.any (fun y=>y.toList==s.toList)
theorem aUe (l:List ByteArray) (s:ByteArray):inB l s=true↔s∈l:=by
 unfold inB
 rw [List.any_eq_true]
 constructor
 ·rintro⟨y,hy,h⟩
  have e:y=s:=(sJ _ _).1 (by simpa using h)
  rw [←e]
  exact hy
 ·intro h
  exact⟨s,h,by simp⟩
theorem aFn (A:List Af) (E:List En) (i:Nat) (fs:List ByteArray) (hl:fs.length≤1000) {r:List ByteArray} (d:Nat): ∀(j:Nat) (out:List ByteArray),j+d=fs.length→out.length+d≤100000→
  (∀out',out' =(fs.drop j).foldl vN out→Ev (fun k=>dM.l0 k out' (wrap64 ((i:Int)+1)) A E) r)→Ev (fun k=>dM.l1 k out (i:Int) fs (j:Int) A E) r:=by
 induction d with
 |zero=>
  intro j out hj ho next
  refine Ev.step (fun k=>dM.l1.eq_2 ..) (eN (next _ ?_))
  rw [List.drop_eq_nil_of_le (by omega)]
  rfl
 |succ d ih=>
  intro j out hj ho next
  have hlt:j<fs.length:=by omega
  rw [List.drop_eq_getElem_cons hlt,List.foldl_cons] at next
  have hp:=(wM out fs[j]).2
  refine Ev.step (fun k=>dM.l1.eq_2 ..) (eP (eP ?_))
  rw [qX fs j hlt,w6 (n:=(j:Int)+1)]
  exact Ev.bind (Y0 out fs[j] (by omega)) (ih (j+1) _ (by omega) (by omega) next)
theorem aG3 (A:List Af) (E:List En) (hok: ∀a∈A,WS a) (hA:A.length≤8) (he: ∀s∈E,(s.f0.size≤1048576∧s.f1.size≤1048576)) (hE:E.length≤24) (d:Nat): ∀(i:Nat) (out:List ByteArray),i+d=E.length→out.length+d*100≤90000→
  Ev (fun k=>dM.l0 k out (i:Int) A E) (iN A (E.drop i) out):=by
 induction d with
 |zero=>
  intro i out hi ho
  refine Ev.step (fun k=>dM.l0.eq_2 ..) (eN (fH (Ev.now _) ?_))
  rw [List.drop_eq_nil_of_le (by omega)]
  rfl
 |succ d ih=>
  intro i out hi ho
  have hlt:i<E.length:=by omega
  have e:aX E (i:Int)=E[i]:=by simp [aX,List.getD_eq_getElem?_getD,hlt]
  have hz:=he _ (List.getElem_mem hlt)
  have hn:=EH hA E[i].f0 E[i].f1
  have split:iN A (E.drop i) out=iN A (E.drop (i+1)) ((vI A E[i].f0 E[i].f1).foldl vN out):=by
   unfold iN ZP
   rw [List.drop_eq_getElem_cons hlt,List.flatMap_cons,List.foldl_append]
  rw [split]
  refine Ev.step (fun k=>dM.l0.eq_2 ..) (eP (eP ?_))
  rw [e]
  refine Ev.bind (aGq A _ _ hok hA hz.2 hz.1) (aFn A E i _ (by omega) (vI A E[i].f0 E[i].f1).length 0 out (by omega) (by omega) (fun out' h=>?_))
  rw [List.drop_zero] at h
  rw [w6 (n:=(i:Int)+1),←h]
  have hp:=uF (vI A E[i].f0 E[i].f1) out
  exact ih (i+1) out' (by omega) (by rw [h];omega)
theorem YN (A:List Af) (E:List En) (hok: ∀a∈A,WS a) (hA:A.length≤8) (he: ∀s∈E,(s.f0.size≤1048576∧s.f1.size≤1048576)) (hE:E.length≤24):Ev (fun k=>dM.f k A E) (iN A E []):=by
 have:=aG3 A E hok hA he hE E.length 0 [] (by omega) (by simp;omega)
 rw [List.drop_zero] at this
 exact this
theorem aBA (g:ByteArray) (fr:Bool) (st ad wh jV:ByteArray) (h1:st.size≤140737488351232) (h2:ad.size≤140737488351232) (h3:wh.size≤140737488351232) (h4:jV.size≤281474976710656):
  Ev (fun k=>jG.f k g fr st ad wh jV) (aAi (I9 g fr st ad wh jV)):=by
 have no: ∀r,r=((⟨#[]⟩:ByteArray),false)→Ev (fun k=>jG.j0 k jV true g fr st ad wh) r:=fun r hr=>Ev.step (fun k=>jG.j0.eq_2 _ _ _ _ _ _ _ _) (aU rfl (fH (Ev.now _) hr.symm))
 unfold jG.f
 refine Ev.bind (N9 g fr st ad wh h1 h2 h3) ?_
 cases e1:vR g fr st ad wh with
 |false=>exact bG (by simp) (no _ (by simp [I9,e1,aAi]))
 |true=>
  refine aU rfl (Ev.bind (ND jV h4) ?_)
  cases e2:gD jV with
  |false=>exact no _ (by simp [I9,e2,aAi])
  |true=>
   have h12:=(jX e2).2
   have hst:=Y7 e1
   refine Ev.step (fun k=>jG.j0.eq_2 _ _ _ _ _ _ _ _) (bG (by simp) ?_)
   cases fr with
   |true=>
    refine aU rfl (gF (MJ _ _) ?_)
    by_cases c:SL jV wh=true
    ·have hs:=SN c
     have hz:(jV.extract st.size jV.size).size=jV.size-st.size:=size_extract _ _ _ (by omega) (Nat.le_refl _)
     refine aU c (eP (eP ?_))
     try rw [Int.toNat_natCast]
     refine eP (Ev.bind (ND _ (by rw [size_append];omega)) ?_)
     cases e3:gD (ad++jV.extract st.size jV.size)with
     |true=>exact aU rfl (fH (Ev.now _) (by simp [I9,e1,e2,doB,c,e3,Option.filter,aAi]))
     |false=>exact bG (by simp) (fH (Ev.now _) (by simp [I9,e1,e2,doB,c,e3,Option.filter,aAi]))
    ·exact bG c (fH (Ev.now _) (by simp [I9,e1,e2,doB,c,aAi]))
   |false=>
    refine bG (by simp) (gF (MK _ _ (by omega)) ?_)
    by_cases c:TA jV wh=true
    ·have hs:=TB c
     have hz:(jV.extract 0 (jV.size-st.size)).size=jV.size-st.size:=by
      rw [size_extract _ _ _ (by omega) (by omega)]
      omega
     refine aU c ?_
     rw [w6,show((jV.size:Int)-(st.size:Int)).toNat=jV.size-st.size from by omega]
     refine eP (eP (eP (Ev.bind (ND _ (by rw [size_append];omega)) ?_)))
     cases e3:gD (jV.extract 0 (jV.size-st.size)++ad)with
     |true=>exact aU rfl (fH (Ev.now _) (by simp [I9,e1,e2,doB,c,e3,Option.filter,aAi]))
     |false=>exact bG (by simp) (fH (Ev.now _) (by simp [I9,e1,e2,doB,c,e3,Option.filter,aAi]))
    ·exact bG c (fH (Ev.now _) (by simp [I9,e1,e2,doB,c,aAi]))
theorem aSN (f g:ByteArray) (hg:g.size=1):strings_Contains.f f g=some (aA2 f g):=by
 unfold strings_Contains.f
 rw [if_pos hg]
 congr 1
 obtain⟨⟨l⟩⟩:=g
 match l,hg with
 |[c],_=>
  have hb:bt (⟨⟨[c]⟩⟩:ByteArray) 0=(c.toNat:Int):=by
   have:=SQ (g:=(⟨⟨[c]⟩⟩:ByteArray)) rfl
   simpa [bytesOf] using this.symm
  unfold aA2
  rw [hb]
  show f.data.toList.contains c=(f.data.toList.map (fun b=>(b.toNat:Int))).contains (c.toNat:Int)
  induction f.data.toList with
  |nil=>rfl
  |cons b l ih=>
   rw [List.map_cons,List.contains_cons,List.contains_cons,ih]
   congr 1
   rw [Bool.eq_iff_iff,beq_iff_eq,beq_iff_eq]
   constructor
   ·rintro rfl
    rfl
   ·intro h
    exact UInt8.toNat_inj.1 (by exact_mod_cast h)
def gA (fl jV:ByteArray) (front:Bool) (s:ByteArray) (a:Af):List ByteArray:=if(RG a fl front&&(front||s.toList==jV.toList))=true then(Z0 a s).toList else []
theorem aKd {a:Af} {s:ByteArray} (ha:WS a) (hs:gD s=true):I9 a.f0 a.f1 a.f2 a.f3 a.f4 s=Z0 a s:=by
 unfold I9 Z0
 rw [if_pos ⟨ha,hs⟩]
theorem aAY (fl jV:ByteArray) (front:Bool) (s:ByteArray) (a:Af):(gA fl jV front s a).length≤1:=by
 unfold gA
 split
 ·cases Z0 a s<;>simp
 ·simp
theorem JN (fl jV:ByteArray) (front:Bool) (s:ByteArray) (A:List Af):(A.flatMap (gA fl jV front s)).length≤A.length:=by
 induction A with
 |nil=>simp
 |cons a A ih=>
  rw [List.flatMap_cons,List.length_append,List.length_cons]
  have:=aAY fl jV front s a
  omega
theorem aGj (A:List Af) (fl jV:ByteArray) (front:Bool) (s:ByteArray) (ys snap:List ByteArray) (bs:List Bool) (n:Int) (ib i:Int) (hok: ∀a∈A,WS a) (hA:A.length≤8) (hz:aBi A) (hs:gD s=true) {r:List ByteArray} (d:Nat): ∀(j:Nat) (out:List ByteArray),j+d=A.length→out.length+d≤100000→
  (∀out',out' =out++(A.drop j).flatMap (gA fl jV front s)→Ev (fun k=>bK.l1 k A out' front bs n ib snap (snap.length:Int) (wrap64 (i+1)) jV fl) r)→Ev (fun k=>bK.l2 k A out front s bs n ib snap (snap.length:Int) i A (A.length:Int) (j:Int) jV fl) r:=by
 induction d with
 |zero=>
  intro j out hj ho next
  refine Ev.step (fun k=>bK.l2.eq_2 ..) (eN (next _ ?_))
  rw [List.drop_eq_nil_of_le (by omega)]
  simp
 |succ d ih=>
  intro j out hj ho next
  have hlt:j<A.length:=by omega
  have e:aD A (j:Int)=A[j]:=by simp [aD,List.getD_eq_getElem?_getD,hlt]
  have ho' :=hok _ (List.getElem_mem hlt)
  have hz' :=hz _ (List.getElem_mem hlt)
  have hsz:=jX hs
  have hg:A[j].f0.size=1:=by
   have:=(DT ho').1
   simp only [zH,Bool.and_eq_true,decide_eq_true_eq] at this
   exact this.1
  have ew:wrap64 ((j:Int)+1)=((j+1:Nat):Int):=w6
  rw [List.drop_eq_getElem_cons hlt] at next
  simp only [List.flatMap_cons] at next
  have go: ∀out',out' =out++gA fl jV front s A[j]→Ev (fun k=>bK.l2 k A out' front s bs n ib snap (snap.length:Int) i A (A.length:Int) ((j+1:Nat):Int) jV fl) r:=by
   intro out' he
   have hl:=aAY fl jV front s A[j]
   refine ih (j+1) out' (by omega) (by rw [he,List.length_append];omega) (fun o h=>next o ?_)
   rw [h,he,List.append_assoc]
  have aYx:(RG A[j] fl front=false)→Ev (fun k=>bK.j4 k A out front s bs n ib snap (snap.length:Int) i A (A.length:Int) (j:Int) true jV fl A[j].f0 A[j].f1 A[j].f2 A[j].f3 A[j].f4) r:=by
   intro h
   refine Ev.step (fun k=>bK.j4.eq_2 ..) (aU rfl ?_)
   rw [ew]
   refine go out ?_
   unfold gA
   rw [h]
   simp
  have five: ∀b:Bool,RG A[j] fl front=true→b=(front||s.toList==jV.toList)→Ev (fun k=>bK.j5 k A out front s bs n ib snap (snap.length:Int) i A (A.length:Int) (j:Int) b jV fl A[j].f0 A[j].f1 A[j].f2 A[j].f3 A[j].f4) r:=by
   intro b h1 h2
   refine Ev.step (fun k=>bK.j5.eq_2 ..) ?_
   cases b with
   |false=>
    refine bG (by simp) ?_
    rw [ew]
    refine go out ?_
    unfold gA
    rw [←h2]
    simp
   |true=>
    refine aU rfl (Ev.bind (aBA _ _ _ _ _ _ (by omega) (by omega) (by omega) (by omega)) ?_)
    rw [aKd ho' hs,ew]
    have hgA:gA fl jV front s A[j]=(Z0 A[j] s).toList:=by unfold gA;rw [h1,←h2];rfl
    cases hd:Z0 A[j] s with
    |none=>
     refine bG (by simp [aAi]) (go out ?_)
     rw [hgA,hd]
     simp
    |some x=>
     refine aU rfl (eP (go _ ?_))
     rw [hgA,hd]
     rfl
  refine Ev.step (fun k=>bK.l2.eq_2 ..) (eP (eP (eP ?_)))
  rw [e]
  by_cases c:(A[j].f1 !=front)=true
  ·refine aU c (aYx ?_)
   have:(A[j].f1==front)=false:=by simpa [bne] using c
   unfold RG
   rw [this]
   rfl
  ·have c1:(A[j].f1==front)=true:=by simpa [bne] using c
   refine bG c (gF (aSN _ _ hg) ?_)
   cases h:aA2 fl A[j].f0 with
   |false=>exact aYx (by unfold RG;rw [h,Bool.and_false])
   |true=>
    have h1:RG A[j] fl front=true:=by unfold RG;rw [c1,h];rfl
    refine Ev.step (fun k=>bK.j4.eq_2 ..) (bG (by simp) ?_)
    cases front with
    |true=>exact aU rfl (five true h1 (by simp))
    |false=>exact bG (by simp) (five _ h1 (by simp))
theorem Y6 (A:List Af) (fl jV:ByteArray) (front:Bool) (snap:List ByteArray) (bs:List Bool) (n:Int) (ib:Int) (hok: ∀a∈A,WS a) (hA:A.length≤8) (hz:aBi A) (hs: ∀s∈snap,gD s=true) (hl:snap.length≤1000) {r:List ByteArray} (d:Nat): ∀(i:Nat) (out:List ByteArray),i+d=snap.length→out.length+d*8≤90000→
  (∀out',out' =out++(snap.drop i).flatMap (fun s=>A.flatMap (gA fl jV front s))→Ev (fun k=>bK.l0 k A out' bs n (wrap64 (ib+1)) jV fl) r)→Ev (fun k=>bK.l1 k A out front bs n ib snap (snap.length:Int) (i:Int) jV fl) r:=by
 induction d with
 |zero=>
  intro i out hi ho next
  refine Ev.step (fun k=>bK.l1.eq_2 ..) (eN (next _ ?_))
  rw [List.drop_eq_nil_of_le (by omega)]
  simp
 |succ d ih=>
  intro i out hi ho next
  have hlt:i<snap.length:=by omega
  have ew:wrap64 ((i:Int)+1)=((i+1:Nat):Int):=w6
  rw [List.drop_eq_getElem_cons hlt] at next
  simp only [List.flatMap_cons] at next
  refine Ev.step (fun k=>bK.l1.eq_2 ..) (eP (eP (eP ?_)))
  rw [qX snap i hlt]
  refine aGj A fl jV front snap[i] snap snap bs n ib (i:Int) hok hA hz (hs _ (List.getElem_mem hlt)) A.length 0 out (by omega) (by omega) (fun out' he=>?_)
  rw [ew]
  rw [List.drop_zero] at he
  have hl2:=JN fl jV front snap[i] A
  refine ih (i+1) out' (by omega) (by rw [he,List.length_append];omega) (fun o h=>next o ?_)
  rw [h,he,List.append_assoc]
def K8 (A:List Af) (fl jV:ByteArray) (front:Bool) (out:List ByteArray):List ByteArray:=out++out.flatMap (fun s=>A.flatMap (gA fl jV front s))
theorem UQ (A:List Af) (fl jV:ByteArray) (front:Bool) (out:List ByteArray):(K8 A fl jV front out).length≤out.length+A.length*out.length:=by
 have: ∀l:List ByteArray,(l.flatMap (fun s=>A.flatMap (gA fl jV front s))).length≤A.length*l.length:=by
  intro l
  induction l with
  |nil=>simp
  |cons s l ih=>
   have:=JN fl jV front s A
   rw [List.flatMap_cons,List.length_append,List.length_cons,Nat.mul_add]
   omega
 have:=this out
 unfold K8
 rw [List.length_append]
 omega
theorem aGE {A:List Af} {fl jV:ByteArray} {front:Bool} {out:List ByteArray} (h: ∀s∈out,gD s=true): ∀s∈K8 A fl jV front out,gD s=true:=by
 intro s hs
 rcases List.mem_append.1 hs with hs|hs
 ·exact h s hs
 ·obtain⟨t,_,hs⟩:=List.mem_flatMap.1 hs
  obtain⟨a,_,hs⟩:=List.mem_flatMap.1 hs
  unfold gA at hs
  split at hs
  ·exact OV (Option.mem_toList.1 hs)
  ·cases hs
theorem aEZ (A:List Af) (fl jV:ByteArray) (front:Bool) (out:List ByteArray) (hf:front=true∨ ∀s∈out,s=jV) (x:ByteArray):x∈K8 A fl jV front out↔x∈out∨ ∃a∈A,RG a fl front=true∧ ∃s∈out,Z0 a s=some x:=by
 unfold K8
 rw [List.mem_append,List.mem_flatMap]
 refine or_congr Iff.rfl ⟨fun⟨s,hs,h⟩=>?_,fun⟨a,ha,h1,s,hs,h⟩=>⟨s,hs,List.mem_flatMap.2 ⟨a,ha,?_⟩⟩⟩
 ·obtain⟨a,ha,h⟩:=List.mem_flatMap.1 h
  unfold gA at h
  split at h
  ·rename_i hc
   simp only [Bool.and_eq_true] at hc
   exact⟨a,ha,hc.1,s,hs,Option.mem_toList.1 h⟩
  ·cases h
 ·unfold gA
  rw [h1,if_pos,h]
  ·simp
  ·rcases hf with rfl|hf
   ·rfl
   ·simp [hf s hs]
theorem aKI (A:List Af) (w fl:ByteArray):M.J3 (K8 A fl w true (K8 A fl w false [w]))=vI A w fl:=by
 refine VV (Y2 _) (aF5 A w fl) (fun x=>?_)
 have h1: ∀y,y∈K8 A fl w false [w]↔y∈FU A fl false [w] [w]:=fun y=>by
  rw [aEZ A fl w false [w] (.inr (fun s hs=>List.mem_singleton.1 hs)),JZ]
 unfold vI
 rw [Y3,aEZ A fl w true _ (.inl rfl),JZ]
 simp only [h1]
theorem aF6 (A:List Af) (w fl:ByteArray) (hl:A.length≤1048576) (hs:aBi A) (hf:fl.size≤1048576) (hw:w.size≤1048576):Ev (fun k=>bK.f k A w fl) (aF4 A w fl):=by
 have no:Ev (fun k=>bK.j0 k A true w fl) ([]:List ByteArray):=Ev.step (fun k=>bK.j0.eq_2 ..) (aU rfl (Ev.now _))
 unfold bK.f aF4
 refine Ev.bind (aAK A hl hs) ?_
 cases e1:HZ A with
 |false=>exact bG (by simp) (fH no (by simp))
 |true=>
  refine aU rfl (Ev.bind (aEq w fl hw hf) ?_)
  cases e2:X9 w fl with
  |false=>exact fH no (by simp)
  |true=>
   obtain⟨h1,h2⟩:=E9 e1
   have hwd:=(YA e2).1
   have w1: ∀s∈[w],gD s=true:=fun s hs=>by rw [List.mem_singleton.1 hs];exact hwd
   have w2:=aGE (A:=A) (fl:=fl) (jV:=w) (front:=false) w1
   have n1:=UQ A fl w false [w]
   simp only [List.length_cons,List.length_nil] at n1
   have n2:=UQ A fl w true (K8 A fl w false [w])
   have n3:A.length*(K8 A fl w false [w]).length≤8*9:=Nat.mul_le_mul h2 (by omega)
   refine Ev.step (fun k=>bK.j0.eq_2 ..) (bG (by simp) (gF rfl ?_))
   refine Ev.step (fun k=>bK.l0.eq_2 ..) (aU (by simp) (eP (aU (by simp) (gF rfl (aU (by simp) (gF rfl ?_))))))
   refine Y6 A fl w false [w] [false,true] 2 0 h1 h2 hs w1 (by simp) 1 0 [w] (by simp) (by simp) (fun bJz he1=>?_)
   rw [w6]
   have e1' :bJz=K8 A fl w false [w]:=by rw [he1];rfl
   subst e1'
   refine Ev.step (fun k=>bK.l0.eq_2 ..) (aU (by simp) (eP (aU (by simp) (gF rfl (aU (by simp;omega) (gF rfl ?_))))))
   refine Y6 A fl w true (K8 A fl w false [w]) [false,true] 2 1 h1 h2 hs w2 (by omega) (K8 A fl w false [w]).length 0 (K8 A fl w false [w]) (by omega) (by omega) (fun bJA he2=>?_)
   rw [w6]
   have e2' :bJA=K8 A fl w true (K8 A fl w false [w]):=by rw [he2];rfl
   subst e2'
   refine Ev.step (fun k=>bK.l0.eq_2 ..) (bG (by simp) (gF (a:=vI A w fl) ?_ (fH (Ev.now _) (by simp))))
   unfold dC.f
   rw [if_pos (by omega),aKI]
theorem aLs (A:List Af) (E:List En):M.J3 (ZP A E)=iN A E []:=rfl
theorem XV (A:List Af) (E:List En) (hA:HZ A=true) (hE:OX E=true) (hz:aBi A) (hl:A.length≤1048576) (he: ∀s∈E,(s.f0.size≤1048576∧s.f1.size≤1048576)) (d:Nat): ∀(i:Nat) (out:List ByteArray),i+d=E.length→out.length+d*100≤90000→
  Ev (fun k=>fT.l0 k out E (E.length:Int) (i:Int) A E) (M.J3 (out++ZP A (E.drop i))):=by
 induction d with
 |zero=>
  intro i out hi ho
  refine Ev.step (fun k=>fT.l0.eq_2 ..) (eN (gF (a:=M.J3 out) ?_ (fH (Ev.now _) ?_)))
  ·unfold dC.f
   rw [if_pos (by omega)]
  ·rw [List.drop_eq_nil_of_le (by omega)]
   simp [ZP]
 |succ d ih=>
  intro i out hi ho
  have hlt:i<E.length:=by omega
  have e:aX E (i:Int)=E[i]:=by simp [aX,List.getD_eq_getElem?_getD,hlt]
  have hs:=he _ (List.getElem_mem hlt)
  have h1:=E9 hA
  have h2:=FN hE
  have hn:=EH h1.2 E[i].f0 E[i].f1
  have hf:=aF6 A E[i].f0 E[i].f1 hl hz hs.2 hs.1
  rw [show aF4 A E[i].f0 E[i].f1=vI A E[i].f0 E[i].f1 from if_pos ⟨hA,h2.1 _ (List.getElem_mem hlt)⟩] at hf
  refine Ev.step (fun k=>fT.l0.eq_2 ..) (eP (eP (eP ?_)))
  rw [e,w6 (n:=(i:Int)+1)]
  refine Ev.bind hf (eP (fH (ih (i+1) _ (by omega) (by rw [List.length_append];omega)) ?_))
  unfold ZP
  rw [List.drop_eq_getElem_cons hlt,List.flatMap_cons,List.append_assoc]
theorem F8 (A:List Af) (E:List En) (hA:HZ A=true) (hE:OX E=true) (hz:aBi A) (hl:A.length≤1048576) (he: ∀s∈E,(s.f0.size≤1048576∧s.f1.size≤1048576)):Ev (fun k=>fT.f k A E) (iN A E []):=by
 have h2:=(FN hE).2
 have:=XV A E hA hE hz hl he E.length 0 [] (by omega) (by simp;omega)
 rw [List.drop_zero,List.nil_append,aLs] at this
 exact this
theorem aUf (l:List ByteArray) (s:ByteArray) (hl:l.length≤10000000) (d:Nat): ∀i:Nat,i+d=l.length→Ev (fun k=>nO.l0 k l s (i:Int)) (inB (l.drop i) s):=by
 induction d with
 |zero=>
  intro i hi
  refine Ev.step (fun k=>nO.l0.eq_2 ..) (eN (fH (Ev.now _) ?_))
  rw [List.drop_eq_nil_of_le (by omega)]
  rfl
 |succ d ih=>
  intro i hi
  have hlt:i<l.length:=by omega
  refine Ev.step (fun k=>nO.l0.eq_2 ..) (eP (eP ?_))
  have he:inB (l.drop i) s=(l[i].toList==s.toList||inB (l.drop (i+1)) s):=by
   unfold inB
   rw [List.drop_eq_getElem_cons hlt,List.any_cons]
  rw [qX l i hlt,w6 (n:=(i:Int)+1),he]
  by_cases c:l[i].toList=s.toList
  ·exact aU c (fH (Ev.now _) (by simp [c]))
  ·have cb:(l[i].toList==s.toList)=false:=by simpa using c
   rw [cb,Bool.false_or]
   exact bG c (ih (i+1) (by omega))
theorem aUn (l:List ByteArray) (s:ByteArray) (hl:l.length≤10000000):Ev (fun k=>nO.f k l s) (inB l s):=aUf l s hl l.length 0 (by omega)
theorem aP2 (l:List ByteArray) (s:ByteArray) (hl:l.length≤10000000) (d:Nat): ∀i:Nat,i+d=l.length→ ∃m,Ev (fun k=>dU.l0 k l s (l.length:Int) (i:Int)) m∧decide (m≥0)=inB (l.drop i) s:=by
 induction d with
 |zero=>
  intro i hi
  refine⟨-1,Ev.step (fun k=>dU.l0.eq_2 ..) (eN (Ev.now _)),?_⟩
  rw [List.drop_eq_nil_of_le (by omega)]
  rfl
 |succ d ih=>
  intro i hi
  have hlt:i<l.length:=by omega
  obtain⟨m,hm,h2⟩:=ih (i+1) (by omega)
  have he:inB (l.drop i) s=(l[i].toList==s.toList||inB (l.drop (i+1)) s):=by
   unfold inB
   rw [List.drop_eq_getElem_cons hlt,List.any_cons]
  have hw:wrap64 ((i:Int)+1)=((i+1:Nat):Int):=w6
  by_cases c:l[i].toList=s.toList
  ·refine⟨(i:Int),Ev.step (fun k=>dU.l0.eq_2 ..) (eP (eP (eP ?_))),?_⟩
   ·rw [qX l i hlt]
    exact aU c.symm (Ev.now _)
   ·rw [he,c]
    simp
  ·refine⟨m,Ev.step (fun k=>dU.l0.eq_2 ..) (eP (eP (eP ?_))),?_⟩
   ·rw [qX l i hlt,hw]
    exact bG (fun h=>c h.symm) hm
   ·have cb:(l[i].toList==s.toList)=false:=by simpa using c
    rw [he,cb,Bool.false_or,h2]
theorem aEi (l:List ByteArray) (s:ByteArray) (hl:l.length≤10000000):Ev (fun k=>gY.f k l s) (inB l s):=by
 obtain⟨m,hm,h2⟩:=aP2 l s hl l.length 0 (by omega)
 rw [List.drop_zero] at h2
 unfold gY.f
 exact Ev.bind hm (fH (Ev.now _) h2)
theorem TZ (A:List Af) (E:List En) (h:ZN A E) (s:ByteArray):Ev (fun k=>mQ.f k A E s) (sP A E&&inB (iN A E []) s):=by
 unfold mQ.f
 refine Ev.bind (JC A E h) ?_
 cases e:sP A E with
 |false=>exact bG (by simp) (fH (Ev.now _) (by simp))
 |true=>
  simp only [sP,Bool.and_eq_true] at e
  obtain⟨h1,h2⟩:=E9 e.1
  have h3:=FN e.2
  have hw:=EO h2 E
  exact aU rfl (Ev.bind (F8 A E e.1 e.2 h.a h.la h.e) (Ev.bind (aEi _ s (by omega)) (fH (Ev.now _) (by simp))))
theorem UI {A:List Af} {w fl:ByteArray} (hw:gD w=true): ∀x∈vI A w fl,gD x=true:=by
 intro x hx
 unfold vI at hx
 rcases(JZ ..).1 hx with hx|⟨a,_,_,s,_,he⟩
 ·rcases(JZ ..).1 hx with hx|⟨a,_,_,s,_,he⟩
  ·rw [List.mem_singleton.1 hx]
   exact hw
  ·exact OV he
 ·exact OV he
def bgL (l:List Gu):List Gu:=l.takeWhile (fun g=>decide (g.f1=(bD l 0).f1))
def U1 (A:List Af) (E:List En) (s:ByteArray):List Gu:=((gsL (iN A E []) s 2).mergeSort aK.le).take 10
def K5 (A:List Af) (E:List En) (s:ByteArray):List Gu:=if sP A E=true∧gD s=true∧inB (iN A E []) s=false then bgL (U1 A E s)else []
theorem JA (A:List Af) (E:List En) (s:ByteArray):(U1 A E s).length≤10:=by
 unfold U1
 rw [List.length_take]
 omega
theorem aM2 (l:List Gu) (hl:l.length≤10) (d:Nat): ∀(i:Nat) (out:List Gu),i+d=l.length→out.length≤i→Ev (fun k=>cZ.l0 k out l (i:Int)) (out++(l.drop i).takeWhile (fun g=>decide (g.f1=(bD l 0).f1))):=by
 induction d with
 |zero=>
  intro i out hi ho
  have e:l.drop i=[]:=List.drop_eq_nil_iff.2 (by omega)
  rw [e]
  exact Ev.step (fun k=>cZ.l0.eq_2 ..) (eN (fH (Ev.now _) (by simp)))
 |succ d ih=>
  intro i out hi ho
  have hi' :i<l.length:=by omega
  rw [drop_cons hi',List.takeWhile_cons]
  refine Ev.step (fun k=>cZ.l0.eq_2 ..) (eP (eP (eP ?_)))
  rw [JR l i hi',w6 (n:=(i:Int)+1)]
  by_cases c:l[i].f1=(bD l 0).f1
  ·rw [decide_eq_true c]
   refine aU c (eP (fH (ih (i+1) _ (by omega) (by simp;omega)) ?_))
   rw [List.append_assoc]
   rfl
  ·rw [decide_eq_false c]
   exact bG c (fH (Ev.now _) (by simp))
theorem aM1 (l:List Gu) (hl:l.length≤10) (d:Nat): ∀(i:Nat),i+d=l.length→Ev (fun k=>dI.l0 k (l.take i) l (l.length:Int) (i:Int)) (l.take i++(l.drop i).takeWhile (fun g=>decide (g.f1=(bD l 0).f1))):=by
 induction d with
 |zero=>
  intro i hi
  have e:l.drop i=[]:=List.drop_eq_nil_iff.2 (by omega)
  rw [e]
  exact Ev.step (fun k=>dI.l0.eq_2 ..) (eN (fH (Ev.now _) (by simp)))
 |succ d ih=>
  intro i hi
  have hi' :i<l.length:=by omega
  rw [drop_cons hi',List.takeWhile_cons]
  have hlt:(l.take i).length=i:=by rw [List.length_take];omega
  have next:Ev (fun k=>dI.l0 k (l.take i++[l[i]]) l (l.length:Int) ((i+1:Nat):Int)) (l.take i++l[i]::(l.drop (i+1)).takeWhile (fun g=>decide (g.f1=(bD l 0).f1))):=by
   have:=ih (i+1) (by omega)
   rw [List.take_succ_eq_append_getElem hi',List.append_assoc] at this
   exact this
  refine Ev.step (fun k=>dI.l0.eq_2 ..) (eP (eP (eP ?_)))
  rw [JR l i hi',w6 (n:=(i:Int)+1)]
  by_cases c0:((l.take i).length:Int)>0
  ·have e0:bD (l.take i) 0=bD l 0:=by
    have h1:=JR (l.take i) 0 (by omega)
    have h2:=JR l 0 (by omega)
    rw [List.getElem_take] at h1
    exact h1.trans h2.symm
   rw [e0]
   refine aU c0 (eP ?_)
   by_cases c:l[i].f1=(bD l 0).f1
   ·rw [decide_eq_true c]
    exact aU c (eP (fH next rfl))
   ·rw [decide_eq_false c]
    exact bG c (fH (Ev.now _) (by simp))
  ·have h0:i=0:=by omega
   subst h0
   have c:l[0].f1=(bD l 0).f1:=by
    have h2:=JR l 0 (by omega)
    exact congrArg (fun g:Gu=>g.f1) h2.symm
   rw [decide_eq_true c]
   exact bG c0 (eP (fH next rfl))
theorem TP {A:List Af} {E:List En} (e:sP A E=true):(iN A E []).length≤2000∧(∀x∈iN A E [],gD x=true)∧ ∀x∈iN A E [],x.size≤12:=by
 simp only [sP,Bool.and_eq_true] at e
 obtain⟨h1,h2⟩:=E9 e.1
 have h3:=FN e.2
 have hlen:=EO h2 E
 have hw: ∀x∈iN A E [],gD x=true:=fun x hx=>by
  obtain⟨en,hen,hm⟩:=(ZG A E x).1 hx
  exact UI (fl:=en.f1) (YA (h3.1 en hen)).1 _ hm
 exact⟨by omega,hw,fun x hx=>(jX (hw x hx)).2⟩
theorem aSy (A:List Af) (E:List En) (h:ZN A E) (s:ByteArray) (hs:s.size≤1048576):Ev (fun k=>cZ.f k A E s) (K5 A E s):=by
 unfold cZ.f K5
 refine gF rfl (Ev.bind (JD A E h) ?_)
 have fin: ∀b:Bool,b=true→Ev (fun k=>cZ.j0 k s ([]:List Gu) b A E) ([]:List Gu):=fun b hb=>Ev.step (fun k=>cZ.j0.eq_2 ..) (aU hb (Ev.now _))
 by_cases e:sP A E=true
 ·refine aU e (Ev.bind (wL s (by omega)) ?_)
  obtain⟨g1,g2,g3⟩:=TP e
  have e' :=e
  simp only [sP,Bool.and_eq_true] at e'
  obtain⟨h1,h2⟩:=E9 e'.1
  have h3:=FN e'.2
  have hw:=YN A E h1 h2 h.e h3.2
  by_cases c:gD s=true
  ·refine aU c (Ev.bind hw (Ev.bind (aUn _ s (by omega)) ?_))
   cases c2:inB (iN A E []) s with
   |true=>rw [if_neg (by simp)];exact fin true rfl
   |false=>
    rw [if_pos ⟨e,c,rfl⟩]
    refine Ev.step (fun k=>cZ.j0.eq_2 ..) (bG (by simp) (Ev.bind hw (Ev.bind (a:=U1 A E s) ?_ ?_)))
    ·unfold iF.f
     have:=aSK (iN A E []) s 2 (by omega) g3 (jX c).2 (iN A E []).length 0 [] (by omega) (by simp)
     rw [List.drop_zero,aF2] at this
     exact this
    ·have:=aM2 (U1 A E s) (JA A E s) (U1 A E s).length 0 [] (by omega) (by simp)
     rw [List.drop_zero,List.nil_append] at this
     exact this
  ·rw [if_neg (fun hh=>c hh.2.1)]
   exact bG c (fin true rfl)
 ·rw [if_neg (fun hh=>e hh.1)]
  exact bG e (fin true rfl)
theorem aSx (A:List Af) (E:List En) (h:ZN A E) (s:ByteArray) (hs:s.size≤1048576):Ev (fun k=>dI.f k A E s) (K5 A E s):=by
 unfold dI.f K5
 refine gF rfl (Ev.bind (JC A E h) ?_)
 have fin: ∀b:Bool,b=true→Ev (fun k=>dI.j0 k s ([]:List Gu) b A E) ([]:List Gu):=fun b hb=>Ev.step (fun k=>dI.j0.eq_2 ..) (aU hb (Ev.now _))
 by_cases e:sP A E=true
 ·refine aU e (Ev.bind (wP s (by omega)) ?_)
  obtain⟨g1,g2,g3⟩:=TP e
  have e' :=e
  simp only [sP,Bool.and_eq_true] at e'
  by_cases c:gD s=true
  ·have hk:=TZ A E h s
   rw [e,Bool.true_and] at hk
   refine aU c (Ev.bind hk ?_)
   cases c2:inB (iN A E []) s with
   |true=>rw [if_neg (by simp)];exact fin true rfl
   |false=>
    rw [if_pos ⟨e,c,rfl⟩]
    refine Ev.step (fun k=>dI.j0.eq_2 ..) (bG (by simp) (Ev.bind (F8 A E e'.1 e'.2 h.a h.la h.e) (Ev.bind (a:=U1 A E s) ?_ ?_)))
    ·unfold jN.f
     have:=aCe (iN A E []) s 2 (by omega) g2 g3 (jX c).2 c (iN A E []).length 0 [] (by omega) (by simp)
     rw [List.drop_zero,List.nil_append] at this
     exact this
    ·have:=aM1 (U1 A E s) (JA A E s) (U1 A E s).length 0 (by omega)
     rw [List.drop_zero,List.take_zero,List.nil_append] at this
     exact this
  ·rw [if_neg (fun hh=>c hh.2.1)]
   exact bG c (fin true rfl)
 ·rw [if_neg (fun hh=>e hh.1)]
  exact bG e (fin true rfl)
theorem aSJ (ws:List ByteArray) (w:ByteArray) (vZ:Int) (g:Gu):g∈gsL ws w vZ↔ ∃s∈ws,wZ s w≤vZ∧g=⟨s,wZ s w⟩:=by
 unfold gsL
 rw [List.mem_flatMap]
 constructor
 ·rintro⟨s,hs,h⟩
  split at h
  ·rename_i c
   exact⟨s,hs,c,List.mem_singleton.1 h⟩
  ·simp at h
 ·rintro⟨s,hs,c,rfl⟩
  exact⟨s,hs,by rw [if_pos c];exact List.mem_singleton.2 rfl⟩
def XI (s:List Int) (p:Int):Prop:=s.length≤2000∧(∀x∈s,0≤x∧x≤255)∧0≤p∧p≤1000000000000
theorem XI.at_ {s:List Int} {p:Int} (h:XI s p) (q:Int) (h0:0≤q) (h1:q≤1000000000000):XI s q:=⟨h.1,h.2.1,h0,h1⟩
theorem aQY {s:List Int} (h: ∀x∈s,0≤x∧x≤255) (i:Int):0≤rd s i∧rd s i≤255:=by
 unfold rd
 rw [List.getD_eq_getElem?_getD]
 by_cases c:i.toNat<s.length
 ·rw [List.getElem?_eq_getElem c]
  exact h _ (List.getElem_mem c)
 ·rw [List.getElem?_eq_none (by omega)]
  simp
def aJQ (a b p q:Int):Int:=wrap64 (wrap64 (wrap64 (wrap64 (wrap64 a*131)+wrap64 (wrap64 b*1117))+wrap64 (p*29))+wrap64 (wrap64 q*53))
def aQO (a b p q:Int):Int:=Go.bits .xor .i64 (aJQ a b p q) (wrap64 (Int.tdiv (aJQ a b p q) 64))
theorem aK5 (a b p q:Int) (ha:0≤a∧a≤255) (hb:0≤b∧b≤255) (h0:0≤p) (h1:p≤1000000000000) (q0:0≤q) (q1:q≤p):0≤aQO a b p q:=by
 have e:aJQ a b p q=a*131+b*1117+p*29+q*53:=by
  unfold aJQ
  rw [w6 (n:=a),w6 (n:=b),w6 (n:=a*131),w6 (n:=b*1117),w6 (n:=p*29),w6 (n:=q),w6 (n:=q*53),w6 (n:=a*131+b*1117),w6 (n:=a*131+b*1117+p*29),w6 (n:=a*131+b*1117+p*29+q*53)]
 unfold aQO
 rw [e]
 have x0:0≤a*131+b*1117+p*29+q*53:=by omega
 have x1:a*131+b*1117+p*29+q*53<4611686018427387904:=by omega
 generalize a*131+b*1117+p*29+q*53=x at*
 have t0:=Int.tdiv_nonneg x0 (show(0:Int)≤64 from by omega)
 have t1:Int.tdiv x 64≤x:=Int.tdiv_le_self 64 x0
 rw [w6 (n:=Int.tdiv x 64)]
 exact aLt x (Int.tdiv x 64) x0 x1 t0 (by omega)
theorem pM {s:List Int} {p:Int} (h:XI s p) (n:Int) (hn:n≤1000000000000000): ∃v,Ev (fun k=>aQ.f k s p n) (v,p+1)∧0≤v∧(v<n∨v=0):=by
 obtain⟨hl,hb,hp0,hp1⟩:=h
 have hr:=aQY hb
 unfold aQ.f
 rw [w6 (n:=p+1)]
 by_cases c:n<1
 ·exact⟨0,aU c (Ev.step (fun k=>aQ.j0.eq_2 _ _ _ _ _) (aU rfl (Ev.now _))),by omega, .inr rfl⟩
 by_cases e:s.length=0
 ·exact⟨0,bG c (Ev.step (fun k=>aQ.j0.eq_2 _ _ _ _ _) (aU (by simp [e]) (Ev.now _))),by omega, .inr rfl⟩
 have hlen:0<(s.length:Int):=by omega
 have wr (i:Int):wrap64 (rd s i)=rd s i:=w64 (by have:=(hr i).1;omega) (by have:=(hr i).2;omega)
 by_cases c2:p<(s.length:Int)
 ·have h1:=hr p
  refine⟨Int.tmod (rd s p) n,bG c (Ev.step (fun k=>aQ.j0.eq_2 _ _ _ _ _) (bG (by simpa using e) ?_)),Int.tmod_nonneg _ h1.1, .inl (Int.tmod_lt_of_pos _ (by omega))⟩
  rw [show p+1-1=p from by omega,w6 (n:=p),wr]
  exact aU c2 (aU hp0 (eN (Ev.now _)))
 have m1:=Int.tmod_nonneg (s.length:Int) hp0
 have m2:=Int.tmod_lt_of_pos p hlen
 have m3:=Int.tmod_nonneg (s.length:Int) (show 0≤p*7+3 from by omega)
 have m4:=Int.tmod_lt_of_pos (p*7+3) hlen
 have d1:=Int.tdiv_nonneg hp0 (show 0≤(s.length:Int)from by omega)
 have d2:Int.tdiv p (s.length:Int)≤p:=Int.tdiv_le_self (s.length:Int) hp0
 have hz:=aK5 (rd s (Int.tmod p (s.length:Int))) (rd s (Int.tmod (p*7+3) (s.length:Int))) p (Int.tdiv p (s.length:Int)) (hr _) (hr _) hp0 hp1 d1 d2
 refine⟨Int.tmod (aQO (rd s (Int.tmod p (s.length:Int))) (rd s (Int.tmod (p*7+3) (s.length:Int))) p (Int.tdiv p (s.length:Int))) n,bG c (Ev.step (fun k=>aQ.j0.eq_2 _ _ _ _ _) (bG (by simpa using e) ?_)),Int.tmod_nonneg _ hz, .inl (Int.tmod_lt_of_pos _ (by omega))⟩
 rw [show p+1-1=p from by omega,w6 (n:=p),w6 (n:=p*7),w6 (n:=p*7+3)]
 exact bG c2 (eN (aU m1 (aU m2 (aU m3 (aU m4 (eN (Ev.now _)))))))
theorem Q7 {s:List Int} {p:Int} (h:XI s p) (l:List ByteArray) (h0:0<l.length) (h1:l.length≤1000000): ∃x∈l,Ev (fun k=>gH.f k s p l) (x,p+1):=by
 obtain⟨v,hv,v0,v1⟩:=pM h (l.length:Int) (by omega)
 have v2:v<(l.length:Int):=by omega
 have hl:v.toNat<l.length:=by omega
 refine⟨l[v.toNat],List.getElem_mem hl,?_⟩
 unfold gH.f
 refine Ev.bind hv (aU v0 (aU v2 (fH (Ev.now _) ?_)))
 simp [bP,List.getD_eq_getElem?_getD,List.getElem?_eq_getElem hl]
theorem aUG (l:List Int) (h: ∀x∈l,(Lit.int .u8 x).wf=true): ∃s,uK.f l=some (s,0)∧XI s 0:=by
 have hb: ∀x∈l,0≤x∧x≤255:=by
  intro x hx
  have:=h x hx
  simp [Lit.wf,IntKind.min,IntKind.max,IntKind.signed,IntKind.bits] at this
  omega
 unfold uK.f
 by_cases c:(l.length:Int)>2000
 ·refine⟨l.take 2000,by rw [if_pos c,if_pos (by omega)],?_,fun x hx=>hb x (List.mem_of_mem_take hx),by omega,by omega⟩
  rw [List.length_take]
  omega
 ·exact⟨l,by rw [if_neg c],by omega,hb,by omega,by omega⟩
theorem aFl {s:List Int} (d:Nat): ∀(x:ByteArray) (n p:Int),XI s p→p+d≤1000000000000→n=d→x.size+2*d≤1000000→
  ∃r p',Ev (fun k=>iW.l0 k x n s p) (r,p')∧r.size≤12∧p≤p' ∧p' ≤p+d:=by
 induction d with
 |zero=>
  intro x n p h hp hn hx
  refine⟨x.extract 0 (min x.size 12),p,Ev.step (fun k=>iW.l0.eq_2 _ _ _ _ _) (eN (gF (GI _ _) ?_)),?_,by omega,by omega⟩
  ·refine eP (eP (fH (Ev.now _) ?_))
   congr 3
   omega
  ·rw [size_extract _ _ _ (by omega) (by omega)]
   omega
 |succ d ih=>
  intro x n p h hp hn hx
  have hls: ∀y∈([(⟨#[97]⟩:ByteArray),(⟨#[98]⟩:ByteArray),(⟨#[99]⟩:ByteArray),(⟨#[97,98]⟩:ByteArray),(⟨#[116]⟩:ByteArray)]:List ByteArray),y.size≤2:=by
   intro y hy
   simp only [List.mem_cons,List.not_mem_nil,or_false] at hy
   rcases hy with rfl|rfl|rfl|rfl|rfl<;>decide
  obtain⟨y,hy,he⟩:=Q7 h ([(⟨#[97]⟩:ByteArray),(⟨#[98]⟩:ByteArray),(⟨#[99]⟩:ByteArray),(⟨#[97,98]⟩:ByteArray),(⟨#[116]⟩:ByteArray)]:List ByteArray) (by simp) (by simp)
  have hy2:=hls y hy
  obtain⟨r,p',hr,h1,h2,h3⟩:=ih (x++y) (n-1) (p+1) (h.at_ _ (by have:=h.2.2.1;omega) (by omega)) (by omega) (by omega) (by rw [size_append];omega)
  refine⟨r,p',Ev.step (fun k=>iW.l0.eq_2 _ _ _ _ _) (eP (Ev.bind he (aU (by dsimp only;omega) ?_))),h1,by omega,by omega⟩
  rw [w6]
  exact hr
theorem aBg {s:List Int} {p:Int} (h:XI s p) (hp:p≤999999999900): ∃r p',Ev (fun k=>iW.f k s p) (r,p')∧r.size≤12∧p≤p' ∧p' ≤p+10:=by
 have h0:=h.2.2.1
 obtain⟨v,hv,v0,v1⟩:=pM h 3 (by omega)
 unfold iW.f
 by_cases c:v=0
 ·obtain⟨u,hu,u0,u1⟩:=pM (h.at_ (p+1) (by omega) (by omega)) 5 (by omega)
  obtain⟨d,hd⟩:=Int.eq_ofNat_of_zero_le (show 0≤1+u from by omega)
  obtain⟨r,p',hr,h1,h2,h3⟩:=aFl d (⟨#[]⟩:ByteArray) (1+u) (p+1+1) (h.at_ _ (by omega) (by omega)) (by omega) hd (by have:(⟨#[]⟩:ByteArray).size=0:=rfl;omega)
  refine⟨r,p',Ev.bind hv (aU c (Ev.bind hu ?_)),h1,by omega,by omega⟩
  rw [w64 (by dsimp only;omega) (by dsimp only;omega)]
  exact hr
 ·obtain⟨y,hy,he⟩:=Q7 (h.at_ (p+1) (by omega) (by omega)) ([(⟨#[99,97,116]⟩:ByteArray),(⟨#[99,97,116,115]⟩:ByteArray),(⟨#[97,99,116]⟩:ByteArray),(⟨#[100,111]⟩:ByteArray),(⟨#[100,111,105,110,103]⟩:ByteArray),(⟨#[103,111]⟩:ByteArray),(⟨#[117,110,100,111]⟩:ByteArray),(⟨#[116,114,121]⟩:ByteArray),(⟨#[116,114,105,101,115]⟩:ByteArray),(⟨#[97]⟩:ByteArray),(⟨#[98,97,107,101]⟩:ByteArray),(⟨#[98,97,107,105,110,103]⟩:ByteArray),(⟨#[116,97,99,116]⟩:ByteArray),(⟨#[99,97,114,116]⟩:ByteArray),(⟨#[97,98,99,97,98,99,97,98,99,97,98,99]⟩:ByteArray)]:List ByteArray) (by simp) (by simp)
  refine⟨y,p+1+1,Ev.bind hv (bG c (Ev.bind he (Ev.now _))),?_,by omega,by omega⟩
  simp only [List.mem_cons,List.not_mem_nil,or_false] at hy
  rcases hy with rfl|rfl|rfl|rfl|rfl|rfl|rfl|rfl|rfl|rfl|rfl|rfl|rfl|rfl|rfl<;>decide
theorem OB {s:List Int} {p:Int} (h:XI s p) (hp:p≤999999999800): ∃r p',Ev (fun k=>iQ.f k s p) (r,p')∧r.size≤13∧p≤p' ∧p' ≤p+11:=by
 have h0:=h.2.2.1
 obtain⟨v,hv,v0,v1⟩:=pM h 16 (by omega)
 unfold iQ.f
 by_cases c:v=0
 ·obtain⟨y,hy,he⟩:=Q7 (h.at_ (p+1) (by omega) (by omega)) ([(⟨#[]⟩:ByteArray),(⟨#[67,97,116]⟩:ByteArray),(⟨#[97,32,98]⟩:ByteArray),(⟨#[97,98,99,97,98,99,97,98,99,97,98,99,97]⟩:ByteArray),(⟨#[120,49]⟩:ByteArray),(⟨#[45]⟩:ByteArray)]:List ByteArray) (by simp) (by simp)
  refine⟨y,p+1+1,Ev.bind hv (aU c (Ev.bind he (Ev.now _))),?_,by omega,by omega⟩
  simp only [List.mem_cons,List.not_mem_nil,or_false] at hy
  rcases hy with rfl|rfl|rfl|rfl|rfl|rfl<;>decide
 ·obtain⟨r,p',hr,h1,h2,h3⟩:=aBg (h.at_ (p+1) (by omega) (by omega)) (by omega)
  exact⟨r,p',Ev.bind hv (bG c (Ev.bind hr (Ev.now _))),by omega,by omega,by omega⟩
abbrev AfZ (a:Af):Prop:=a.f0.size≤13∧a.f2.size≤13∧a.f3.size≤13∧a.f4.size≤13
abbrev AfY (a:Af):Prop:=AfZ a∧vR a.f0 a.f1 a.f2 a.f3 a.f4=true
abbrev EnZ (e:En):Prop:=e.f0.size≤13∧e.f1.size≤5
theorem XN {s:List Int} {p:Int} (h:XI s p): ∃g fr st ad wh,Ev (fun k=>kJ.f k s p) (g,fr,st,ad,wh,p+1)∧AfY ⟨g,fr,st,ad,wh⟩:=by
 unfold kJ.f AfY AfZ
 obtain⟨v,hv,v0,v1⟩:=pM h 8 (by omega)
 have hs:v=0∨v=1∨v=2∨v=3∨v=4∨v=5∨v=6∨v=7:=by omega
 refine⟨_,_,_,_,_,gF rfl (Ev.bind hv (aU v0 (aU (by simp only [List.length];omega) (Ev.now _)))),?_⟩
 rcases hs with rfl|rfl|rfl|rfl|rfl|rfl|rfl|rfl<;>exact⟨by dsimp only;decide,by dsimp only;decide⟩
theorem aDN {s:List Int} {p:Int} (h:XI s p) (hp:p≤999999999000): ∃g fr st ad wh p',Ev (fun k=>nN.f k s p) (g,fr,st,ad,wh,p')∧AfZ ⟨g,fr,st,ad,wh⟩∧p≤p' ∧p' ≤p+10:=by
 have h0:=h.2.2.1
 obtain⟨g,fr,st,ad,wh,he,⟨z0,z1,z2,z3⟩,_⟩:=XN h
 obtain⟨v,hv,v0,v1⟩:=pM (h.at_ (p+1) (by omega) (by omega)) 12 (by omega)
 have h2:=h.at_ (p+1+1) (by omega) (by omega)
 unfold nN.f
 by_cases c0:v=0
 ·obtain⟨y,hy,hy2⟩:=Q7 h2 ([(⟨#[]⟩:ByteArray),(⟨#[115]⟩:ByteArray),(⟨#[65,66]⟩:ByteArray),(⟨#[90]⟩:ByteArray)]:List ByteArray) (by simp) (by simp)
  refine⟨y,fr,st,ad,wh,p+1+1+1,Ev.bind he (Ev.bind hv (aU c0 (Ev.bind hy2 (Ev.now _)))),⟨?_,z1,z2,z3⟩,by omega,by omega⟩
  simp only [List.mem_cons,List.not_mem_nil,or_false] at hy
  rcases hy with rfl|rfl|rfl|rfl<;>(dsimp only;decide)
 by_cases c1:v=1
 ·obtain⟨y,hy,hy2⟩:=Q7 h2 ([(⟨#[121]⟩:ByteArray),(⟨#[97,98,99,100,101]⟩:ByteArray),(⟨#[]⟩:ByteArray),(⟨#[89]⟩:ByteArray)]:List ByteArray) (by simp) (by simp)
  refine⟨g,fr,y,ad,wh,p+1+1+1,Ev.bind he (Ev.bind hv (bG c0 (aU c1 (Ev.bind hy2 (Ev.now _))))),⟨z0,?_,z2,z3⟩,by omega,by omega⟩
  simp only [List.mem_cons,List.not_mem_nil,or_false] at hy
  rcases hy with rfl|rfl|rfl|rfl<;>(dsimp only;decide)
 by_cases c2:v=2
 ·obtain⟨y,hy,hy2⟩:=Q7 h2 ([(⟨#[121]⟩:ByteArray),(⟨#[116,121]⟩:ByteArray),(⟨#[97,98,99,100,101]⟩:ByteArray),(⟨#[]⟩:ByteArray)]:List ByteArray) (by simp) (by simp)
  refine⟨g,fr,st,ad,y,p+1+1+1,Ev.bind he (Ev.bind hv (bG c0 (bG c1 (aU c2 (Ev.bind hy2 (Ev.now _)))))),⟨z0,z1,z2,?_⟩,by omega,by omega⟩
  simp only [List.mem_cons,List.not_mem_nil,or_false] at hy
  rcases hy with rfl|rfl|rfl|rfl<;>(dsimp only;decide)
 by_cases c3:v=3
 ·exact⟨g, !fr,st,ad,wh,p+1+1,Ev.bind he (Ev.bind hv (bG c0 (bG c1 (bG c2 (aU c3 (Ev.now _)))))),⟨z0,z1,z2,z3⟩,by omega,by omega⟩
 ·exact⟨g,fr,st,ad,wh,p+1+1,Ev.bind he (Ev.bind hv (bG c0 (bG c1 (bG c2 (bG c3 (Ev.now _)))))),⟨z0,z1,z2,z3⟩,by omega,by omega⟩
theorem aFP {s:List Int} {p:Int} (h:XI s p) (w:ByteArray): ∃fl,Ev (fun k=>qK.f k s p w) (w,fl,p+1)∧fl.size≤5:=by
 obtain⟨y,hy,he⟩:=Q7 h ([(⟨#[]⟩:ByteArray),(⟨#[]⟩:ByteArray),(⟨#[83]⟩:ByteArray),(⟨#[71,83]⟩:ByteArray),(⟨#[85]⟩:ByteArray),(⟨#[71,85]⟩:ByteArray),(⟨#[82]⟩:ByteArray),(⟨#[84]⟩:ByteArray),(⟨#[67,82,83,85]⟩:ByteArray)]:List ByteArray) (by simp) (by simp)
 unfold qK.f
 refine⟨y,Ev.bind he (Ev.now _),?_⟩
 simp only [List.mem_cons,List.not_mem_nil,or_false] at hy
 rcases hy with rfl|rfl|rfl|rfl|rfl|rfl|rfl|rfl|rfl<;>decide
theorem ZO (s:List Int) (p:Int) (out:List Af) (n:Int) (g:ByteArray) (fr:Bool) (st ad wh:ByteArray) (hl:out.length≤1000) (d:Nat): ∀(i:Nat) (b:Bool),i+d=out.length→
  ∃c:Bool,∀r,Ev (fun k=>if c=true then dA.l0 k out (wrap64 (n-1)) s p else dA.l0 k (out++[⟨g,fr,st,ad,wh⟩]) (wrap64 (n-1)) s p) r→Ev (fun k=>dA.l1 k out n b (i:Int) s p g fr st ad wh) r:=by
 induction d with
 |zero=>
  intro i b hi
  refine⟨b,fun r hr=>Ev.step (fun k=>dA.l1.eq_2 ..) (eN ?_)⟩
  cases b with
  |true=>exact aU rfl (by simpa using hr)
  |false=>exact bG (by simp) (eP (by simpa using hr))
 |succ d ih=>
  intro i b hi
  have e:wrap64 ((i:Int)+1)=((i+1:Nat):Int):=w6
  cases b with
  |true=>
   obtain⟨c,hc⟩:=ih (i+1) true (by omega)
   refine⟨c,fun r hr=>Ev.step (fun k=>dA.l1.eq_2 ..) (eP (aU rfl ?_))⟩
   rw [e]
   exact hc r hr
  |false=>
   obtain⟨c,hc⟩:=ih (i+1) _ (by omega)
   refine⟨c,fun r hr=>Ev.step (fun k=>dA.l1.eq_2 ..) (eP (bG (by simp) (eP ?_)))⟩
   rw [e]
   exact hc r hr
theorem aBD {s:List Int} (d:Nat): ∀(out:List Af) (n p:Int),XI s p→p+d≤1000000000000→n=d→out.length+d≤4→(∀a∈out,AfY a)→
  ∃A p',Ev (fun k=>dA.l0 k out n s p) (A,p')∧A.length≤4∧(∀a∈A,AfY a)∧p≤p' ∧p' ≤p+d:=by
 induction d with
 |zero=>
  intro out n p h hp hn hl hz
  exact⟨out,p,Ev.step (fun k=>dA.l0.eq_2 ..) (eN (Ev.now _)),by omega,hz,by omega,by omega⟩
 |succ d ih=>
  intro out n p h hp hn hl hz
  have h0:=h.2.2.1
  obtain⟨g,fr,st,ad,wh,he,hg⟩:=XN h
  obtain⟨c,hc⟩:=ZO s (p+1) out n g fr st ad wh (by omega) out.length 0 false (by omega)
  have hr:XI s (p+1):=h.at_ _ (by omega) (by omega)
  have ew:wrap64 (n-1)=n-1:=w6
  rw [ew] at hc
  cases c with
  |true=>
   obtain⟨A,p',h1,h2,h3,h4,h5⟩:=ih out (n-1) (p+1) hr (by omega) (by omega) (by omega) hz
   exact⟨A,p',Ev.step (fun k=>dA.l0.eq_2 ..) (eP (Ev.bind he (hc _ (by simpa using h1)))),h2,h3,by omega,by omega⟩
  |false=>
   obtain⟨A,p',h1,h2,h3,h4,h5⟩:=ih (out++[⟨g,fr,st,ad,wh⟩]) (n-1) (p+1) hr (by omega) (by omega) (by simp;omega) (fun a ha=>by
    rcases List.mem_append.1 ha with ha|ha
    ·exact hz a ha
    ·rw [List.mem_singleton.1 ha]
     exact hg)
   exact⟨A,p',Ev.step (fun k=>dA.l0.eq_2 ..) (eP (Ev.bind he (hc _ (by simpa using h1)))),h2,h3,by omega,by omega⟩
theorem aBC {s:List Int} {p:Int} (h:XI s p) (hp:p≤999999999000): ∃A p',Ev (fun k=>dA.f k s p) (A,p')∧A.length≤4∧(∀a∈A,AfY a)∧p≤p' ∧p' ≤p+5:=by
 have h0:=h.2.2.1
 obtain⟨v,hv,v0,v1⟩:=pM h 5 (by omega)
 obtain⟨d,hd⟩:=Int.eq_ofNat_of_zero_le v0
 have hd4:d≤4:=by
  rcases v1 with v1|v1<;>omega
 obtain⟨A,p',h1,h2,h3,h4,h5⟩:=aBD (s:=s) d [] v (p+1) (h.at_ _ (by omega) (by omega)) (by omega) hd (by simpa using hd4) (by simp)
 unfold dA.f
 exact⟨A,p',Ev.bind hv h1,h2,h3,by omega,by omega⟩
theorem YX {α:Type} [DecidableEq α]: ∀(l k:List α),l.Nodup→(∀x∈l,x∈k)→l.length≤k.length
 |[],_,_,_=>by simp
 |x::l,k,hn,hs=>by
  have hx:=hs x (by simp)
  have hn' :=List.nodup_cons.1 hn
  have:=YX l (k.erase x) hn'.2 (fun y hy=>by
   have hne:y≠x:=fun e=>hn'.1 (e▸hy)
   exact(List.mem_erase_of_ne hne).2 (hs y (by simp [hy])))
  rw [List.length_erase_of_mem hx] at this
  have:0<k.length:=List.length_pos_of_mem hx
  rw [List.length_cons]
  omega
def IA (j:Nat):ByteArray:=(⟨#[119]⟩:ByteArray)++strOfNums [(wrap64 (97+(j:Int)))%256]
theorem aFY (j:Nat):(IA j).size=2:=by
 unfold IA
 rw [size_append]
 rfl
theorem aKG {i j:Nat} (hi:i<24) (hj:j<24) (h:IA i=IA j):i=j:=by
 have hb: ∀n:Nat,n<24→(IA n).data.toList=[119,UInt8.ofNat (97+n)]:=by
  intro n hn
  unfold IA
  rw [w6,show((97+(n:Int))%256)=((97+n:Nat):Int)from by omega]
  rw [ByteArray.data_append,Array.toList_append]
  show [119]++[UInt8.ofNat ((97+n:Nat):Int).toNat]=_
  rw [Int.toNat_natCast]
  rfl
 have h1:=hb i hi
 rw [h,hb j hj] at h1
 simp only [List.cons.injEq,true_and,and_true] at h1
 have h2:=congrArg UInt8.toNat h1
 simp only [UInt8.toNat_ofNat'] at h2
 omega
abbrev WZ (ws:List ByteArray):Prop:= ∀w∈ws,w.size≤13
theorem aJR {ws:List ByteArray} {w:ByteArray} (h:WZ ws) (hw:w.size≤13):WZ (vN ws w):=by
 intro x hx
 rcases(J2 ws w x).1 hx with hx|hx
 ·exact h x hx
 ·rw [hx]
  exact hw
theorem aKE {s:List Int} (A:List Af) (ws:List ByteArray) (hl:ws.length≤100) (hz:WZ ws) (d:Nat): ∀(i:Nat) (E:List En) (p:Int),i+d=ws.length→XI s p→p+d≤1000000000000→E.length=i→(∀e∈E,EnZ e)→
  ∃E' p',Ev (fun k=>bE.l2 k ws (i:Int) s p A E) (A,E',p')∧E'.length=ws.length∧(∀e∈E',EnZ e)∧p≤p' ∧p' ≤p+d:=by
 induction d with
 |zero=>
  intro i E p hi h hp hE he
  exact⟨E,p,Ev.step (fun k=>bE.l2.eq_2 ..) (eN (Ev.now _)),by omega,he,by omega,by omega⟩
 |succ d ih=>
  intro i E p hi h hp hE he
  have h0:=h.2.2.1
  have hlt:i<ws.length:=by omega
  obtain⟨fl,hf,hf2⟩:=aFP h ws[i]
  obtain⟨E',p',h1,h2,h3,h4,h5⟩:=ih (i+1) (E++[⟨ws[i],fl⟩]) (p+1) (by omega) (h.at_ _ (by omega) (by omega)) (by omega) (by simp [hE]) (fun e he' =>by
   rcases List.mem_append.1 he' with he' |he'
   ·exact he e he'
   ·rw [List.mem_singleton.1 he']
    exact⟨hz _ (List.getElem_mem hlt),hf2⟩)
  refine⟨E',p',Ev.step (fun k=>bE.l2.eq_2 ..) (eP (eP ?_)),h2,h3,by omega,by omega⟩
  rw [qX ws i hlt,w6 (n:=(i:Int)+1)]
  exact Ev.bind hf (aU (by omega) h1)
theorem aKH {s:List Int} {p:Int} (A:List Af) {Q:List En→Int→Prop} (fin: ∀ws:List ByteArray,ws.length≤24→WZ ws→ ∃E p',Ev (fun k=>bE.j2 k ws s p A) (A,E,p')∧Q E p') (d:Nat): ∀(j:Nat) (ws:List ByteArray),j+d=24→ws.length≤24→WZ ws→(∀i,i<j→IA i∈ws)→
  ∃E p',Ev (fun k=>bE.l1 k ws (j:Int) s p A) (A,E,p')∧Q E p' :=by
 have out: ∀(j:Nat) (ws:List ByteArray),¬(ws.length:Int)<24→ws.length≤24→WZ ws→ ∃E p',Ev (fun k=>bE.l1 k ws (j:Int) s p A) (A,E,p')∧Q E p' :=by
  intro j ws h1 h2 h3
  obtain⟨E,p',h4,h5⟩:=fin ws (by omega) h3
  exact⟨E,p',Ev.step (fun k=>bE.l1.eq_2 ..) (bG h1 h4),h5⟩
 induction d with
 |zero=>
  intro j ws hj hl hz hin
  refine out j ws ?_ hl hz
  have:=YX ((List.range 24).map IA) ws (by
   rw [List.nodup_iff_pairwise_ne,List.pairwise_map]
   refine(List.nodup_range (n:=24)).imp_of_mem ?_
   intro a b ha hb hne e
   exact hne (aKG (List.mem_range.1 ha) (List.mem_range.1 hb) e)) (fun x hx=>by
    obtain⟨i,hi,rfl⟩:=List.mem_map.1 hx
    exact hin i (by have:=List.mem_range.1 hi;omega))
  simp only [List.length_map,List.length_range] at this
  omega
 |succ d ih=>
  intro j ws hj hl hz hin
  by_cases c:(ws.length:Int)<24
  ·have hp:=(wM ws (IA j)).2
   obtain⟨E,p',h4,h5⟩:=ih (j+1) (vN ws (IA j)) (by omega) (by omega) (aJR hz (by rw [aFY];omega)) (fun i hi=>(J2 ws (IA j) _).2 (by
    by_cases e:i=j
    ·exact .inr (by rw [e])
    ·exact .inl (hin i (by omega))))
   refine⟨E,p',Ev.step (fun k=>bE.l1.eq_2 ..) (aU c (gF rfl (aU ?_ (Ev.bind (Y0 ws (IA j) (by omega)) ?_)))),h5⟩
   ·show 1+(strOfNums [_]).size≤9223372036854775807
    have:(strOfNums [(wrap64 (97+(j:Int)))%256]).size=1:=rfl
    omega
   ·rw [w6 (n:=(j:Int)+1)]
    exact h4
  ·exact out j ws c hl hz
theorem aFE {s:List Int} (A:List Af) (d:Nat): ∀(ws:List ByteArray) (n p:Int),XI s p→p+100+11*d≤999999999000→n=d→ws.length+d≤24→WZ ws→
  ∃E p',Ev (fun k=>bE.l0 k ws n s p A) (A,E,p')∧(E.length≤24∧(∀e∈E,EnZ e))∧p≤p' ∧p' ≤p+200+11*d:=by
 induction d with
 |zero=>
  intro ws n p h hp hn hl hz
  have h0:=h.2.2.1
  obtain⟨v,hv,v0,v1⟩:=pM h 30 (by omega)
  have hr:=h.at_ (p+1) (by omega) (by omega)
  have fin: ∀ws:List ByteArray,ws.length≤24→WZ ws→ ∃E p',Ev (fun k=>bE.j2 k ws s (p+1) A) (A,E,p')∧(E.length≤24∧(∀e∈E,EnZ e))∧p≤p' ∧p' ≤p+200:=by
   intro ws hl hz
   obtain⟨E,p',h1,h2,h3,h4,h5⟩:=aKE (s:=s) A ws (by omega) hz ws.length 0 [] (p+1) (by omega) hr (by omega) rfl (by simp)
   exact⟨E,p',Ev.step (fun k=>bE.j2.eq_2 ..) h1,⟨by omega,h3⟩,by omega,by omega⟩
  by_cases c:v=0
  ·have fin' : ∀ws:List ByteArray,ws.length≤24→WZ ws→ ∃E p',Ev (fun k=>bE.j2 k ws s (p+1) A) (A,E,p')∧((E.length≤24∧(∀e∈E,EnZ e))∧p≤p' ∧p' ≤p+200):=fin
   obtain⟨E,p',h1,h2⟩:=aKH A fin' 24 0 ws (by omega) (by omega) hz (fun i hi=>absurd hi (by omega))
   exact⟨E,p',Ev.step (fun k=>bE.l0.eq_2 ..) (eN (Ev.bind hv (aU c h1))),h2.1,h2.2.1,by have:=h2.2.2;omega⟩
  ·obtain⟨E,p',h1,h2,h3,h4⟩:=fin ws (by omega) hz
   exact⟨E,p',Ev.step (fun k=>bE.l0.eq_2 ..) (eN (Ev.bind hv (bG c h1))),h2,h3,by omega⟩
 |succ d ih=>
  intro ws n p h hp hn hl hz
  have h0:=h.2.2.1
  obtain⟨w,p1,hw,w1,w2,w3⟩:=aBg h (by omega)
  have hp2:=(wM ws w).2
  obtain⟨E,p',h1,h2,h3,h4⟩:=ih (vN ws w) (n-1) p1 (h.at_ _ (by omega) (by omega)) (by omega) (by omega) (by omega) (aJR hz (by omega))
  refine⟨E,p',Ev.step (fun k=>bE.l0.eq_2 ..) (eP (Ev.bind hw (Ev.bind (Y0 ws w (by omega)) ?_))),h2,by omega,by omega⟩
  rw [w6 (n:=n-1)]
  exact h1
theorem aKl {s:List Int} {p:Int} (h:XI s p) (hp:p≤999999998000): ∃A E p',Ev (fun k=>bE.f k s p) (A,E,p')∧(A.length≤4∧(∀a∈A,AfY a))∧(E.length≤24∧(∀e∈E,EnZ e))∧p≤p' ∧p' ≤p+300:=by
 have h0:=h.2.2.1
 obtain⟨A,p1,h1,h2,h3,h4,h5⟩:=aBC h (by omega)
 have hr1:=h.at_ p1 (by omega) (by omega)
 obtain⟨v,hv,v0,v1⟩:=pM hr1 7 (by omega)
 obtain⟨d,hd⟩:=Int.eq_ofNat_of_zero_le v0
 have hd6:d≤6:=by
  rcases v1 with v1|v1<;>omega
 obtain⟨E,p',k1,k2,k3,k4⟩:=aFE (s:=s) A d [] v (p1+1) (h.at_ _ (by omega) (by omega)) (by omega) hd (by simp;omega) (fun w hw=>by cases hw)
 unfold bE.f
 exact⟨A,E,p',Ev.bind h1 (Ev.bind hv k1),⟨h2,h3⟩,k2,by omega,by omega⟩
theorem aFw {s:List Int} {p:Int} (h:XI s p) (hp:p≤999999997000): ∃A E p',Ev (fun k=>bX.f k s p) (A,E,p')∧(A.length≤5∧(∀a∈A,AfZ a))∧(E.length≤25∧(∀e∈E,EnZ e))∧p≤p' ∧p' ≤p+400:=by
 have h0:=h.2.2.1
 obtain⟨A,E,p1,h1,⟨a1,a2⟩,⟨e1,e2⟩,h4,h5⟩:=aKl h (by omega)
 obtain⟨v,hv,v0,v1⟩:=pM (h.at_ p1 (by omega) (by omega)) 16 (by omega)
 have hr:=h.at_ (p1+1) (by omega) (by omega)
 unfold bX.f
 by_cases c0:v=0
 ·obtain⟨g,fr,st,ad,wh,p2,hg,hz,q1,q2⟩:=aDN hr (by omega)
  refine⟨A++[⟨g,fr,st,ad,wh⟩],E,p2,Ev.bind h1 (Ev.bind hv (aU c0 (Ev.bind hg (aU (by dsimp only;omega) (Ev.now _))))),⟨by simp;omega,fun a ha=>?_⟩,⟨by omega,e2⟩,by omega,by omega⟩
  rcases List.mem_append.1 ha with ha|ha
  ·exact(a2 a ha).1
  ·rw [List.mem_singleton.1 ha]
   exact hz
 by_cases c1:v=1
 ·obtain⟨w,p2,hw,hz,q1,q2⟩:=OB hr (by omega)
  obtain⟨y,hy,he⟩:=Q7 (h.at_ p2 (by omega) (by omega)) ([(⟨#[]⟩:ByteArray),(⟨#[83,71]⟩:ByteArray),(⟨#[115]⟩:ByteArray),(⟨#[65,66,67,68,69]⟩:ByteArray)]:List ByteArray) (by simp) (by simp)
  refine⟨A,E++[⟨w,y⟩],p2+1,Ev.bind h1 (Ev.bind hv (bG c0 (aU c1 (Ev.bind hw (Ev.bind he (aU (by dsimp only;omega) (Ev.now _))))))),⟨by omega,fun a ha=>(a2 a ha).1⟩,⟨by simp;omega,fun e he' =>?_⟩,by omega,by omega⟩
  rcases List.mem_append.1 he' with he' |he'
  ·exact e2 e he'
  ·rw [List.mem_singleton.1 he']
   refine⟨hz,?_⟩
   simp only [List.mem_cons,List.not_mem_nil,or_false] at hy
   rcases hy with rfl|rfl|rfl|rfl<;>(dsimp only;decide)
 by_cases c2:v=2
 ·by_cases c3:(E.length:Int)>0
  ·obtain⟨y,hy,he⟩:=Q7 hr ([(⟨#[]⟩:ByteArray),(⟨#[122,122]⟩:ByteArray),(⟨#[65]⟩:ByteArray)]:List ByteArray) (by simp) (by simp)
   have hlt:0<E.length:=by omega
   refine⟨A,E.set (0:Int).toNat ⟨y,(aX E 0).f1⟩,p1+1+1,Ev.bind h1 (Ev.bind hv (bG c0 (bG c1 (aU c2 (aU c3 (Ev.bind he (aU (by dsimp only;omega) (Ev.now _)))))))),⟨by omega,fun a ha=>(a2 a ha).1⟩,⟨by simp;omega,fun e he' =>?_⟩,by omega,by omega⟩
   rcases List.mem_or_eq_of_mem_set he' with he' |he'
   ·exact e2 e he'
   ·rw [he']
    have e0:aX E 0=E[0]:=by simp [aX,List.getD_eq_getElem?_getD,hlt]
    rw [e0]
    refine⟨?_,(e2 _ (List.getElem_mem hlt)).2⟩
    simp only [List.mem_cons,List.not_mem_nil,or_false] at hy
    rcases hy with rfl|rfl|rfl<;>(dsimp only;decide)
  ·exact⟨A,E,p1+1,Ev.bind h1 (Ev.bind hv (bG c0 (bG c1 (aU c2 (bG c3 (Ev.now _)))))),⟨by omega,fun a ha=>(a2 a ha).1⟩,⟨by omega,e2⟩,by omega,by omega⟩
 ·exact⟨A,E,p1+1,Ev.bind h1 (Ev.bind hv (bG c0 (bG c1 (bG c2 (Ev.now _))))),⟨by omega,fun a ha=>(a2 a ha).1⟩,⟨by omega,e2⟩,by omega,by omega⟩
theorem aSz {A:List Af} {E:List En} (ha:A.length≤5) (hz: ∀a∈A,AfZ a) (he:E.length≤25) (hy: ∀e∈E,EnZ e):ZN A E:=by
 refine⟨by omega,by omega,fun s hs=>?_,fun s hs=>?_⟩
 ·have:=hz s hs
  unfold AfZ at this
  omega
 ·have:=hy s hs
  unfold EnZ at this
  omega
theorem aUD {s:List Int} {p:Int} (h:XI s p) (hp:p≤999999990000) (A:List Af) (E:List En) (hb:ZN A E): ∃x p',Ev (fun k=>kY.f k s p A E) (x,p')∧x.size≤13∧p≤p' ∧p' ≤p+50:=by
 have h0:=h.2.2.1
 have ok:=JD A E hb
 have no: ∀q:Int,XI s q→q≤999999999000→ ∃x p',Ev (fun k=>kY.j0 k false s q A E) (x,p')∧x.size≤13∧q≤p' ∧p' ≤q+40:=by
  intro q hq hq2
  obtain⟨r,p',hr,h1,h2,h3⟩:=OB hq (by omega)
  exact⟨r,p',Ev.step (fun k=>kY.j0.eq_2 ..) (bG (by simp) (Ev.bind hr (Ev.now _))),h1,h2,by omega⟩
 unfold kY.f
 by_cases e:sP A E=true
 ·rw [e] at ok
  obtain⟨v,hv,v0,v1⟩:=pM h 2 (by omega)
  have hr1:=h.at_ (p+1) (by omega) (by omega)
  by_cases c:v=0
  ·simp only [sP,Bool.and_eq_true] at e
   obtain⟨h1,h2⟩:=E9 e.1
   have h3:=FN e.2
   have hw:=YN A E h1 h2 hb.e h3.2
   have hlen:=EO h2 E
   by_cases c2:((iN A E []).length:Int)>0
   ·obtain⟨u,hu,u0,u1⟩:=pM hr1 ((iN A E []).length:Int) (by omega)
    obtain⟨i,rfl⟩:=Int.eq_ofNat_of_zero_le u0
    have hi:i<(iN A E []).length:=by omega
    obtain⟨en,hen,hm⟩:=(ZG A E _).1 (List.getElem_mem hi)
    have hwd:=UI (fl:=en.f1) (YA (h3.1 en hen)).1 _ hm
    have hsz:=jX hwd
    refine⟨(iN A E [])[i],p+1+1,Ev.bind ok (aU rfl (Ev.bind hv (Ev.step (fun k=>kY.j0.eq_2 ..) (aU (by simp [c]) (Ev.bind hw (aU c2 (Ev.bind hu (eP (aU (by dsimp only;omega) ?_))))))))),by omega,by omega,by omega⟩
    dsimp only
    rw [qX _ i hi]
    exact Ev.now _
   ·obtain⟨r,p',hr,q1,q2,q3⟩:=OB hr1 (by omega)
    exact⟨r,p',Ev.bind ok (aU rfl (Ev.bind hv (Ev.step (fun k=>kY.j0.eq_2 ..) (aU (by simp [c]) (Ev.bind hw (bG c2 (Ev.bind hr (Ev.now _)))))))),q1,by omega,by omega⟩
  ·obtain⟨x,p',hx,hz⟩:=no (p+1) hr1 (by omega)
   have cb:(v==0)=false:=by simpa using c
   exact⟨x,p',Ev.bind ok (aU rfl (Ev.bind hv (by dsimp only;rw [cb];exact hx))),hz.1,by omega,by omega⟩
 ·rw [Bool.not_eq_true] at e
  rw [e] at ok
  obtain⟨x,p',hx,hz⟩:=no p h (by omega)
  exact⟨x,p',Ev.bind ok (bG (by simp) hx),hz.1,by omega,by omega⟩
theorem V8 (l:List ByteArray) (s x:ByteArray) (hl:l.length≤1000000) (hx:x.size≤140737488351232):Ev (fun k=>iC.f k l s x) (vV s l x):=by
 unfold iC.f
 by_cases c:x=s
 ·exact aU (by rw [c]) (Ev.step (fun k=>iC.j0.eq_2 _ _ _ _) (aU rfl (fH (Ev.now _) (by simp [vV,c]))))
 ·refine bG (fun h=>c ((sJ _ _).1 h)) (Ev.bind (wL x hx) (Ev.step (fun k=>iC.j0.eq_2 _ _ _ _) ?_))
  cases e:gD x with
  |false=>exact aU rfl (fH (Ev.now _) (by simp [vV,e]))
  |true=>exact bG (by simp) (Ev.bind (Y0 l x hl) (fH (Ev.now _) (by simp [vV,c,e])))
theorem w32 {n:Int} (h0: -2147483648≤n) (h1:n≤2147483647):wrap32 n=n:=by
 unfold wrap32
 omega
theorem aQx {s:ByteArray} {i:Nat} {l r:List ByteArray} (h1:i≤s.size) (hs:s.size≤100) (hl:l.length≤1000*i+900)
  (next: ∀l' :List ByteArray,l' =(uL s i).foldl (vV s) l→Ev (fun k=>aW.l0 k s l' ((i+1:Nat):Int)) r):Ev (fun k=>aW.j2 k s l (i:Int)) r:=by
 refine Ev.step (fun k=>aW.j2.eq_2 _ _ _ _) ?_
 rw [w6 (n:=(i:Int)+1),w6 (n:=(i:Int)+2)]
 by_cases c:(i:Int)+1<s.size
 ·have e1:((i:Int)+1).toNat=i+1:=by omega
  have e2:((i:Int)+2).toNat=i+2:=by omega
  have z0:(s.extract 0 i).size=i:=by rw [size_extract _ _ _ (by omega) (by omega)];omega
  have z1:(s.extract (i+1) (i+2)).size=1:=by rw [size_extract _ _ _ (by omega) (by omega)];omega
  have z2:(s.extract i (i+1)).size=1:=by rw [size_extract _ _ _ (by omega) (by omega)];omega
  have z3:(s.extract (i+2) s.size).size=s.size-(i+2):=size_extract _ _ _ (by omega) (Nat.le_refl _)
  rw [Int.toNat_natCast,e1,e2]
  refine aU c (eP (eP (eP (eP (eP (eP (eP (eP (aU ?_ (eP (aU ?_ (Ev.bind (V8 l s _ (by omega) ?_) ?_))))))))))))
  ·rw [size_append];omega
  ·rw [size_append,size_append];omega
  ·rw [size_append,size_append,size_append];omega
  ·exact next _ (by rw [uL,if_pos (by omega)];rfl)
 ·exact bG c (next _ (by rw [uL,if_neg (by omega)];rfl))
theorem aC6 {s:ByteArray} {i:Nat} {r:List ByteArray} (h1:i≤s.size) (hs:s.size≤100)
  (d:Nat): ∀(c:Nat) (l:List ByteArray),97≤c→c+d=123→l.length≤1000*i+(123-d)*2→
  (∀l' :List ByteArray,l' =(mF s i c++yO s i).foldl (vV s) l→l'.length≤1000*i+900→Ev (fun k=>aW.j2 k s l' (i:Int)) r)→Ev (fun k=>aW.l1 k s l (i:Int) (c:Int)) r:=by
 have z0:(s.extract 0 i).size=i:=by rw [size_extract _ _ _ (by omega) (by omega)];omega
 have z1:(s.extract i s.size).size=s.size-i:=size_extract _ _ _ (by omega) (Nat.le_refl _)
 induction d with
 |zero=>
  intro c l hc hd hl next
  refine Ev.step (fun k=>aW.l1.eq_2 _ _ _ _ _) (eN ?_)
  rw [MM s i c (by omega),List.nil_append] at next
  by_cases q:(i:Int)<s.size
  ·have z2:(s.extract (i+1) s.size).size=s.size-(i+1):=size_extract _ _ _ (by omega) (Nat.le_refl _)
   rw [w6 (n:=(i:Int)+1),Int.toNat_natCast,show((i:Int)+1).toNat=i+1 from by omega]
   refine aU q (eP (eP (eP (eP (eP (Ev.bind (V8 l s _ (by omega) (by rw [size_append];omega)) ?_))))))
   refine next _ (by rw [yO,if_pos (by omega)];rfl) ?_
   have:=(BA s l (s.extract 0 i++s.extract (i+1) s.size)).2
   omega
  ·exact bG q (next _ (by rw [yO,if_neg (by omega)];rfl) (by omega))
 |succ d ih=>
  intro c l hc hd hl next
  refine Ev.step (fun k=>aW.l1.eq_2 _ _ _ _ _) (eP (eP (eP (gF rfl ?_))))
  have zc:(strOfNums [(c:Int)%256]).size=1:=aQD _
  rw [Int.toNat_natCast]
  refine eP (aU (by rw [size_append];omega) (Ev.bind (V8 l s _ (by omega) (by rw [size_append,size_append];omega)) ?_))
  have hl1:=(BA s l ((s.extract 0 i++strOfNums [(c:Int)%256])++s.extract i s.size)).2
  rw [w32 (by omega) (by omega)]
  rw [CL s i c (by omega)] at next
  by_cases q:(i:Int)<s.size
  ·have z2:(s.extract (i+1) s.size).size=s.size-(i+1):=size_extract _ _ _ (by omega) (Nat.le_refl _)
   rw [w6 (n:=(i:Int)+1),show((i:Int)+1).toNat=i+1 from by omega]
   refine aU q (gF rfl (eP (eP (eP (aU (by rw [size_append];omega) (Ev.bind (V8 _ s _ (by omega) (by rw [size_append,size_append];omega)) ?_))))))
   have hl2:=(BA s (vV s l ((s.extract 0 i++strOfNums [(c:Int)%256])++s.extract i s.size)) ((s.extract 0 i++strOfNums [(c:Int)%256])++s.extract (i+1) s.size)).2
   refine ih (c+1) _ (by omega) (by omega) (by omega) (fun l' h' =>next l' ?_)
   rw [h',D9,if_pos (by omega)]
   rfl
  ·refine bG q (ih (c+1) _ (by omega) (by omega) (by omega) (fun l' h' =>next l' ?_))
   rw [h',D9,if_neg (by omega)]
   rfl
theorem aKW {s:ByteArray} (hs:s.size≤100) (d:Nat): ∀(i:Nat) (l:List ByteArray),i+d=s.size+1→l.length≤1000*i→Ev (fun k=>aW.l0 k s l (i:Int)) ((fK s i).foldl (vV s) l):=by
 induction d with
 |zero=>
  intro i l hd hl
  rw [MF s i (by omega)]
  exact Ev.step (fun k=>aW.l0.eq_2 _ _ _ _) (eN (Ev.now _))
 |succ d ih=>
  intro i l hd hl
  refine Ev.step (fun k=>aW.l0.eq_2 _ _ _ _) (eP ?_)
  refine aC6 (c:=97) (d:=26) (by omega) hs _ (by omega) (by omega) (by omega) (fun l1 e1 hl1=>aQx (by omega) hs hl1 (fun l2 e2=>?_))
  refine fH (ih (i+1) l2 (by omega) ?_) ?_
  ·rw [e2]
   have h1:((uL s i).foldl (vV s) l1).length≤l1.length+(uL s i).length:=IB s _ _
   have h2:(uL s i).length≤1:=by unfold uL;split<;>simp
   omega
  ·rw [CB s i (by omega),List.foldl_append,e2,e1,uU,List.foldl_append,List.foldl_append,List.foldl_append]
theorem aJN (s:ByteArray) (hs:s.size≤100):Ev (fun k=>aW.f k s) (rH s):=
 aKW hs (s.size+1) 0 [] (by omega) (by simp)
theorem aEX {s:ByteArray} (h:gD s=true) (u v:Int) (hu:0≤u) (hu1:u<256) (hv:0≤v) (hv1:v<256):
  ∃j,Int.tmod (wrap64 (wrap64 (u*256)+v)) ((rH s).length:Int)=j∧ ¬((rH s).length:Int)=0∧0≤j∧j<((rH s).length:Int)∧gD (bP ByteArray.empty (rH s) j)=true:=by
 have hne:=aGC h
 have hp:0<(rH s).length:=List.length_pos_iff.2 hne
 rw [w6 (n:=u*256),w6 (n:=u*256+v)]
 have j0:=Int.tmod_nonneg ((rH s).length:Int) (show 0≤u*256+v from by omega)
 have j1:=Int.tmod_lt_of_pos (u*256+v) (show 0<((rH s).length:Int)from by omega)
 refine⟨_,rfl,by omega,j0,j1,?_⟩
 rw [aE4 _ _ j0 (by omega)]
 exact((FT s _).1 (List.getElem_mem _)).2.2
theorem aK1 {t:List Int} {p:Int} (h:XI t p) (hp:p≤999999999000) (s:ByteArray) (hs:s.size≤1000): ∃r p',Ev (fun k=>gT.f k t p s) (r,p')∧r.size≤13∧p≤p' ∧p' ≤p+20:=by
 have h0:=h.2.2.1
 have no: ∀q,p≤q→q≤p+1→ ∃r p',Ev (fun k=>gT.j0 k s false t q) (r,p')∧r.size≤13∧p≤p' ∧p' ≤p+20:=by
  intro q q0 q1
  obtain⟨r,p',h1,h2,h3,h4⟩:=OB (h.at_ q (by omega) (by omega)) (by omega)
  exact⟨r,p',Ev.step (fun k=>gT.j0.eq_2 _ _ _ _ _) (bG (by simp) (Ev.bind h1 (Ev.now _))),h2,by omega,by omega⟩
 unfold gT.f
 cases e:gD s with
 |false=>
  obtain⟨r,p',h1,h2⟩:=no p (by omega) (by omega)
  have hw:=wL s (by omega)
  rw [e] at hw
  exact⟨r,p',Ev.bind hw (bG (by simp) h1),h2⟩
 |true=>
  have hw:=wL s (by omega)
  rw [e] at hw
  obtain⟨v,hv,v0,v1⟩:=pM h 2 (by omega)
  by_cases c:v=0
  ·obtain⟨a,ha,a0,a1⟩:=pM (h.at_ (p+1) (by omega) (by omega)) 256 (by omega)
   obtain⟨b,hb,b0,b1⟩:=pM (h.at_ (p+1+1) (by omega) (by omega)) 256 (by omega)
   obtain⟨x,hx,x0,x1⟩:=pM (h.at_ (p+1+1+1) (by omega) (by omega)) 3 (by omega)
   obtain⟨j,hj,jn,j0,j1,jw⟩:=aEX e a b a0 (by omega) b0 (by omega)
   have start: ∀r p',Ev (fun k=>(aQ.f k t (p+1+1+1) 3).bind fun bt=>if bt.1=0 then((aW.f k (bP ByteArray.empty (rH s) j)).bind fun t200=>((aQ.f k t bt.2 256).bind fun aHT=>((aQ.f k t aHT.2 256).bind fun aHU=>(if(t200.length:Int)=0 then(none)else(if 0≤(Int.tmod (wrap64 ((wrap64 (aHT.1*256))+aHU.1)) (t200.length:Int))then(if(Int.tmod (wrap64 ((wrap64 (aHT.1*256))+aHU.1)) (t200.length:Int))<(t200.length:Int)then(some (bP ByteArray.empty t200 (Int.tmod (wrap64 ((wrap64 (aHT.1*256))+aHU.1)) (t200.length:Int)),aHU.2))else(none))else(none))))))else(some (bP ByteArray.empty (rH s) j,bt.2))) (r,p')→
     Ev (fun k=>(gZ.f k s).bind fun t187=>(if t187=true then((aQ.f k t p 2).bind fun aWT=>(gT.j0 k s (aWT.1==0) t aWT.2))else(gT.j0 k s false t p))) (r,p'):=by
    intro r p' hr
    refine Ev.bind hw (aU rfl (Ev.bind hv ?_))
    rw [show(v==0)=true from by simp [c]]
    refine Ev.step (fun k=>gT.j0.eq_2 _ _ _ _ _) (aU rfl (Ev.bind (aJN s (by have:=jX e;omega)) (Ev.bind ha (Ev.bind hb ?_))))
    dsimp only
    rw [hj]
    exact bG jn (aU j0 (aU j1 hr))
   by_cases c2:x=0
   ·have hs2:=(jX jw).2
    obtain⟨a',ha',a0',a1'⟩:=pM (h.at_ (p+1+1+1+1) (by omega) (by omega)) 256 (by omega)
    obtain⟨b',hb',b0',b1'⟩:=pM (h.at_ (p+1+1+1+1+1) (by omega) (by omega)) 256 (by omega)
    obtain⟨j',hj',jn',j0',j1',jw'⟩:=aEX jw a' b' a0' (by omega) b0' (by omega)
    have hz:=(jX jw').2
    refine⟨bP ByteArray.empty (rH (bP ByteArray.empty (rH s) j)) j',p+1+1+1+1+1+1,start _ _ (Ev.bind hx (aU c2 (Ev.bind (aJN _ (by omega)) (Ev.bind ha' (Ev.bind hb' ?_))))),by omega,by omega,by omega⟩
    dsimp only
    rw [hj']
    exact bG jn' (aU j0' (aU j1' (Ev.now _)))
   ·have hz:=(jX jw).2
    exact⟨_,_,start _ _ (Ev.bind hx (bG c2 (Ev.now _))),by omega,by omega,by omega⟩
  ·obtain⟨r,p',h1,h2⟩:=no (p+1) (by omega) (by omega)
   refine⟨r,p',Ev.bind hw (aU rfl (Ev.bind hv ?_)),h2⟩
   rw [show(v==0)=false from by simp [c]]
   exact h1
theorem aQE {t:List Int} {p:Int} (h:XI t p) (hp:p≤999999999000) (s:ByteArray) (hs:s.size≤100): ∃r p',Ev (fun k=>gT.f k t p s) (r,p')∧r.size≤13∧p≤p' ∧p' ≤p+20:=aK1 h hp s (by omega)
theorem Z4 (l:List Int) (hw: ∀x∈l,(Lit.int .u8 x).wf=true): ∃A E x,Ev (fun k=>fE.f k l) (A,E,x)∧ZN A E∧x.size≤13:=by
 obtain⟨s,hs,hr⟩:=aUG l hw
 obtain⟨A,E,p1,h1,ha,he,h4,h5⟩:=aFw hr (by omega)
 have hb:=aSz ha.1 ha.2 he.1 he.2
 obtain⟨x,p2,hx,hz,h6,h7⟩:=aUD (hr.at_ p1 (by omega) (by omega)) (by omega) A E hb
 obtain⟨y,p3,hy,hz2,_,_⟩:=aQE (hr.at_ p2 (by omega) (by omega)) (by omega) x (by omega)
 unfold fE.f
 exact⟨A,E,y,gF hs (Ev.bind h1 (Ev.bind hx (Ev.bind hy (Ev.now _)))),hb,hz2⟩
theorem aKS (l:List Gu) (hl:l.length≤1000000) (d:Nat): ∀i:Nat,i+d=l.length→Ev (fun k=>gG.l0 k l l (i:Int)) true:=by
 induction d with
 |zero=>
  intro i hi
  exact Ev.step (fun k=>gG.l0.eq_2 ..) (eN (Ev.now _))
 |succ d ih=>
  intro i hi
  refine Ev.step (fun k=>gG.l0.eq_2 ..) (eP (eP (eP (bG (by simp) ?_))))
  rw [w6]
  exact ih (i+1) (by omega)
theorem aUu (l:List Gu) (hl:l.length≤1000000):Ev (fun k=>gG.f k l l) true:=by
 unfold gG.f
 exact aU rfl (aKS l hl l.length 0 (by omega))
theorem aSA {A:List Af} {E:List En} (h:sP A E=true):HZ A=true∧OX E=true:=by simpa only [sP,Bool.and_eq_true] using h
def KG (A:List Af) (E:List En):List ByteArray:=if sP A E=true then iN A E [] else []
theorem UC (A:List Af) (E:List En) (h:ZN A E):Ev (fun k=>lV.f k A E) (KG A E):=by
 unfold lV.f KG
 refine Ev.bind (JC A E h) ?_
 cases e:sP A E with
 |false=>exact bG (by simp) (fH (Ev.now _) (by simp))
 |true=>
  have e:=aSA e
  exact aU rfl (Ev.bind (F8 A E e.1 e.2 h.a h.la h.e) (fH (Ev.now _) (by simp)))
def jB (l:List ByteArray) (c:Int):List ByteArray:=(l.filter (fun s=>decide (0<s.size)&&decide (bt s 0=c))).map (fun s=>s.extract 1 s.size)
theorem X8 (s:ByteArray) (l:List ByteArray) (c:Int):jB (s::l) c=(if 0<s.size∧bt s 0=c then [s.extract 1 s.size] else [])++jB l c:=by
 unfold jB
 rw [List.filter_cons]
 by_cases h1:0<s.size
 ·by_cases h2:bt s 0=c
  ·simp [h1,h2]
  ·simp [h2]
 ·simp [h1]
theorem aBN (l:List ByteArray) (c:Int):(jB l c).length≤l.length:=by
 unfold jB
 rw [List.length_map]
 exact List.length_filter_le _ _
def pU (l:List ByteArray) (p:List Int):List ByteArray:=p.foldl jB l
theorem aEp {l:List ByteArray} {c:Int} {t:ByteArray} (h:t∈jB l c): ∃w∈l,bytesOf w=c::bytesOf t:=by
 unfold jB at h
 obtain⟨w,hw,rfl⟩:=List.mem_map.1 h
 obtain⟨h1,h2⟩:=List.mem_filter.1 hw
 simp only [Bool.and_eq_true,decide_eq_true_eq] at h2
 refine⟨w,h1,?_⟩
 have:=pK w 0 (by omega) (by omega)
 rw [show(0:Int).toNat=0 from rfl,List.drop_zero,show((0:Int)+1).toNat=1 from rfl,h2.2] at this
 rw [qY]
 exact this
theorem SS: ∀(p:List Int) (l:List ByteArray) (t:ByteArray),t∈pU l p→ ∃w∈l,bytesOf w=p++bytesOf t:=by
 intro p
 induction p with
 |nil=>exact fun l t h=>⟨t,h,rfl⟩
 |cons c p ih=>
  intro l t h
  obtain⟨u,hu,h1⟩:=ih (jB l c) t h
  obtain⟨w,hw,h2⟩:=aEp hu
  exact⟨w,hw,by rw [h2,h1];rfl⟩
theorem MW (l:List ByteArray) (p:List Int) (c:Int):pU l (p++[c])=jB (pU l p) c:=by
 unfold pU
 rw [List.foldl_append]
 rfl
def aM0 (l:List ByteArray):List (List Int):=l.flatMap (fun w=>(List.range (w.size+1)).map (fun n=>(bytesOf w).take n))
theorem aDU (l:List ByteArray) (n:Nat) (h: ∀w∈l,w.size≤n):(aM0 l).length≤(n+1)*l.length:=by
 induction l with
 |nil=>simp [aM0]
 |cons w l ih=>
  have h1:=ih (fun x hx=>h x (List.mem_cons_of_mem _ hx))
  have h2:=h w List.mem_cons_self
  unfold aM0 at h1⊢
  rw [List.flatMap_cons,List.length_append,List.length_map,List.length_range,List.length_cons,Nat.mul_add]
  omega
structure a3v (ws:List ByteArray) (out:List (List ByteArray)):Prop where
 nodup:out.Nodup
 from_: ∀x∈out,∃p,x=pU ws p∧(p=[]∨x≠[])
theorem aFH {ws:List ByteArray} {p:List Int} (h:p=[]∨pU ws p≠[]):p∈([]:List Int)::aM0 ws:=by
 rcases h with rfl|h
 ·exact List.mem_cons_self
 ·obtain⟨t,ht⟩:=List.exists_mem_of_ne_nil _ h
  obtain⟨w,hw,hb⟩:=SS p ws t ht
  refine List.mem_cons_of_mem _ (List.mem_flatMap.2 ⟨w,hw,List.mem_map.2 ⟨p.length,List.mem_range.2 ?_,?_⟩⟩)
  ·rw [←bR,hb,List.length_append]
   omega
  ·rw [hb,List.take_left]
theorem OA {ws:List ByteArray} {out:List (List ByteArray)} (h:a3v ws out) (hl:ws.length≤300) (hz: ∀w∈ws,w.size≤12):out.length≤4000:=by
 have h1:=YX out ((([]:List Int)::aM0 ws).map (pU ws)) h.nodup (fun x hx=>by
  obtain⟨p,rfl,hp⟩:=h.from_ x hx
  exact List.mem_map_of_mem (aFH hp))
 have h2:=aDU ws 12 hz
 rw [List.length_map,List.length_cons] at h1
 omega
def tL (v:Int) (l:List ByteArray):Int:=l.foldl (fun v s=>max v (s.size:Int)) v
def xR:List ByteArray→List ByteArray→Bool
 |[],[]=>false
 |[],_::_=>true
 |_::_,[]=>false
 |x::a,y::b=>if x=y then xR a b else UO x y
def uJ (a b:List ByteArray):Bool:=if tL 0 a=tL 0 b then xR a b else decide (tL 0 b<tL 0 a)
theorem RO: ∀a,xR a a=false
 |[]=>rfl
 |x::a=>by rw [xR,if_pos rfl];exact RO a
theorem UX: ∀{a b c:List ByteArray},xR a b=true→xR b c=true→xR a c=true
 |[],[],_,h,_=>by simp [xR] at h
 |[],_::_,[],_,h=>by simp [xR] at h
 |[],_::_,_::_,_,_=>rfl
 |_::_,[],_,h,_=>by simp [xR] at h
 |_::_,_::_,[],_,h=>by simp [xR] at h
 |x::a,y::b,z::c,h,k=>by
  rw [xR] at h k⊢
  by_cases e1:x=y
  ·subst e1
   rw [if_pos rfl] at h
   by_cases e2:x=z
   ·subst e2
    rw [if_pos rfl] at k⊢
    exact UX h k
   ·rw [if_neg e2] at k⊢
    exact k
  ·rw [if_neg e1] at h
   by_cases e2:y=z
   ·subst e2
    rw [if_neg e1]
    exact h
   ·rw [if_neg e2] at k
    have hk:=KR h k
    rw [if_neg (a2h hk)]
    exact hk
theorem UW: ∀{a b:List ByteArray},xR a b=false→a≠b→xR b a=true
 |[],[],_,h=>absurd rfl h
 |[],_::_,h,_=>by simp [xR] at h
 |_::_,[],_,_=>rfl
 |x::a,y::b,h,hn=>by
  rw [xR] at h⊢
  by_cases e:x=y
  ·subst e
   rw [if_pos rfl] at h⊢
   exact UW h (fun e=>hn (by rw [e]))
  ·rw [if_neg e] at h
   rw [if_neg (Ne.symm e)]
   exact TI h e
theorem AZ (a:List ByteArray):uJ a a=false:=by rw [uJ,if_pos rfl];exact RO a
theorem UU {a b c:List ByteArray} (h:uJ a b=true) (k:uJ b c=true):uJ a c=true:=by
 unfold uJ at h k⊢
 by_cases e1:tL 0 a=tL 0 b
 ·rw [if_pos e1] at h
  by_cases e2:tL 0 b=tL 0 c
  ·rw [if_pos e2] at k
   rw [if_pos (e1.trans e2)]
   exact UX h k
  ·rw [if_neg e2] at k
   rw [e1,if_neg e2]
   exact k
 ·rw [if_neg e1] at h
  have h' :=of_decide_eq_true h
  by_cases e2:tL 0 b=tL 0 c
  ·rw [←e2,if_neg e1]
   exact h
  ·rw [if_neg e2] at k
   have k' :=of_decide_eq_true k
   rw [if_neg (by omega)]
   exact decide_eq_true (by omega)
theorem aE8 {a b:List ByteArray} (h:uJ a b=false) (hn:a≠b):uJ b a=true:=by
 unfold uJ at h⊢
 by_cases e:tL 0 a=tL 0 b
 ·rw [if_pos e] at h
  rw [if_pos e.symm]
  exact UW h hn
 ·rw [if_neg e] at h
  rw [if_neg (Ne.symm e)]
  have:=of_decide_eq_false h
  exact decide_eq_true (by omega)
theorem aQ1 {a b:List ByteArray} (h:uJ a b=true):a≠b:=by
 rintro rfl
 rw [AZ] at h
 cases h
theorem J4 {a b:List ByteArray} (h:uJ a b=true):uJ b a=false:=by
 cases k:uJ b a with
 |false=>rfl
 |true=>rw [←AZ a];exact(UU h k).symm
abbrev SE (l:List (List ByteArray)):Prop:=l.Pairwise (fun a b=>uJ a b=true)
theorem SE.nodup {l:List (List ByteArray)} (h:SE l):l.Nodup:=h.imp (fun h=>aQ1 h)
theorem aQ6 {l k:List (List ByteArray)} (h1:SE l) (h2:SE k) (h: ∀x,x∈l↔x∈k):l=k:=by
 have hp:l.Perm k:=(List.perm_ext_iff_of_nodup h1.nodup h2.nodup).2 h
 refine List.Perm.eq_of_pairwise (le:=fun a b=>uJ a b=true) ?_ h1 h2 hp
 intro a b _ _ h3 h4
 rw [J4 h3] at h4
 cases h4
def InS (ws x:List ByteArray):Prop:=x=ws∨(x≠[]∧ ∃p,x=pU ws p)
theorem aEL {ws x:List ByteArray} (h:InS ws x) (c:Int) (hne:jB x c≠[]):InS ws (jB x c):=by
 rcases h with rfl|⟨_,p,rfl⟩
 ·exact .inr ⟨hne,[c],rfl⟩
 ·exact .inr ⟨hne,p++[c],(MW _ _ _).symm⟩
theorem SV: ∀p:List Int,pU [] p=[]
 |[]=>rfl
 |c::p=>SV p
theorem aEo {ws:List ByteArray} (hw: ∀w∈ws,gD w=true) {p:List Int} {c:Int} (h:jB (pU ws p) c≠[]):97≤c∧c≤122:=by
 rw [←MW] at h
 obtain⟨t,ht⟩:=List.exists_mem_of_ne_nil _ h
 obtain⟨w,hw1,hb⟩:=SS _ _ _ ht
 have:=((BI _).1 (hw w hw1)).2.2 c (by rw [hb];simp)
 exact this
theorem aFI {ws:List ByteArray} (hw: ∀w∈ws,gD w=true) {out:List (List ByteArray)} (h0:ws∈out) (hc: ∀x∈out,∀c:Int,97≤c→c≤122→jB x c=[]∨jB x c∈out): ∀x,InS ws x→x∈out:=by
 have key: ∀n (p:List Int),p.length=n→pU ws p≠[]∨p=[]→pU ws p∈out:=by
  intro n
  induction n with
  |zero=>
   intro p hp _
   rw [List.length_eq_zero_iff.1 hp]
   exact h0
  |succ n ih=>
   intro p hp h
   obtain⟨q,c,rfl⟩: ∃q c,p=q++[c]:=⟨p.dropLast,p.getLast (by intro e;simp [e] at hp),(List.dropLast_concat_getLast _).symm⟩
   rw [MW] at h⊢
   have h:=h.resolve_right (by simp)
   have hq:pU ws q∈out:=ih q (by simpa using hp) (by
    by_cases e:pU ws q=[]
    ·rw [e] at h
     exact absurd rfl h
    ·exact .inl e)
   obtain⟨l1,l2⟩:=aEo hw h
   exact(hc _ hq c l1 l2).resolve_left h
 rintro x (rfl|⟨hne,p,rfl⟩)
 ·exact h0
 ·exact key p.length p rfl (.inl hne)
noncomputable def dJ (ws:List ByteArray):List (List ByteArray):=Classical.epsilon (fun A=>SE A∧ ∀x,x∈A↔InS ws x)
theorem aLc {ws:List ByteArray} {A:List (List ByteArray)} (h:SE A∧ ∀x,x∈A↔InS ws x):dJ ws=A:=by
 have hs:=Classical.epsilon_spec (p:=fun A=>SE A∧ ∀x,x∈A↔InS ws x) ⟨A,h⟩
 exact aQ6 hs.1 h.1 (fun x=>(hs.2 x).trans (h.2 x).symm)
theorem aGR (L:List (List ByteArray)): ∃A,SE A∧ ∀x,x∈A↔x∈L:=by
 induction L with
 |nil=>exact⟨[],List.Pairwise.nil,by simp⟩
 |cons a L ih=>
  obtain⟨A,h1,h2⟩:=ih
  by_cases c:a∈A
  ·exact⟨A,h1,fun x=>by rw [h2,List.mem_cons];exact⟨.inr,fun h=>h.elim (fun e=>by rw [e];exact(h2 a).1 c) id⟩⟩
  ·refine⟨A.filter (fun x=>uJ x a)++a::A.filter (fun x=>uJ a x),List.pairwise_append.2 ⟨List.Pairwise.sublist List.filter_sublist h1,List.pairwise_cons.2 ⟨fun x hx=>(List.mem_filter.1 hx).2,List.Pairwise.sublist List.filter_sublist h1⟩,fun x hx y hy=>?_⟩,fun x=>?_⟩
   ·rcases List.mem_cons.1 hy with rfl|hy
    ·exact(List.mem_filter.1 hx).2
    ·exact UU (List.mem_filter.1 hx).2 (List.mem_filter.1 hy).2
   ·rw [List.mem_append,List.mem_cons,List.mem_filter,List.mem_filter,List.mem_cons,←h2]
    constructor
    ·rintro(h|h|h)
     ·exact .inr h.1
     ·exact .inl h
     ·exact .inr h.1
    ·rintro(h|h)
     ·exact .inr (.inl h)
     ·by_cases e:uJ x a=true
      ·exact .inl ⟨h,e⟩
      ·exact .inr (.inr ⟨h,aE8 (Bool.eq_false_iff.2 e) (fun e=>c (e▸h))⟩)
theorem aQ3 (ws:List ByteArray):SE (dJ ws)∧ ∀x,x∈dJ ws↔InS ws x:=by
 obtain⟨A,h1,h2⟩:=aGR (ws::(ws.flatMap (fun w=>(List.range ((bytesOf w).length+1)).map (fun i=>pU ws ((bytesOf w).take i)))).filter (fun x=> !x.isEmpty))
 refine Classical.epsilon_spec (p:=fun A=>SE A∧ ∀x,x∈A↔InS ws x) ⟨A,h1,fun x=>(h2 x).trans ?_⟩
 rw [List.mem_cons,List.mem_filter,List.mem_flatMap]
 refine or_congr Iff.rfl ⟨?_,?_⟩
 ·rintro⟨⟨w,_,hx⟩,hne⟩
  obtain⟨i,_,rfl⟩:=List.mem_map.1 hx
  exact⟨fun e=>by simp [e] at hne,_,rfl⟩
 ·rintro⟨hne,p,rfl⟩
  obtain⟨t,ht⟩:=List.exists_mem_of_ne_nil _ hne
  obtain⟨w,hw1,hb⟩:=SS _ _ _ ht
  refine⟨⟨w,hw1,List.mem_map.2 ⟨p.length,List.mem_range.2 (by rw [hb,List.length_append];omega),?_⟩⟩,?_⟩
  ·rw [hb,List.take_left']
   rfl
  ·cases e:pU ws p with
   |nil=>exact absurd e hne
   |cons _ _=>rfl
def K9 (x:List ByteArray):List (List ByteArray)→Nat
 |[]=>0
 |y::ys=>if y=x then 0 else K9 x ys+1
theorem Q8 {x:List ByteArray}: ∀{l:List (List ByteArray)},x∈l→K9 x l<l.length∧l[K9 x l]?=some x
 |[],h=>by cases h
 |y::ys,h=>by
  rw [K9]
  by_cases e:y=x
  ·subst e
   rw [if_pos rfl]
   exact⟨by simp,rfl⟩
  ·rw [if_neg e]
   have:=Q8 ((List.mem_cons.1 h).resolve_left (Ne.symm e))
   exact⟨by simp;omega,by simpa using this.2⟩
abbrev St:=xH
abbrev Eg:=ER
def pW (n i:Int):Int→List Eg→Bool
 |_,[]=>true
 |p,e::es=>(decide (97≤e.f0)&&decide (e.f0≤122))&&(decide (i+1≤e.f1)&&decide (e.f1≤n-1))&&decide (p<e.f0)&&pW n i e.f0 es
def GN (es:List Eg) (k:Int):Int:=if k=0 then 0 else(bB es (k-1)).f0
def VE (m:List St) (i:Int):Bool:=pW m.length i 0 (aG m i).f1&&(decide (i=0)||(aG m i).f0|| !(aG m i).f1.isEmpty)
def kR (dp:List Int):Int→List Eg→Int
 |v,[]=>v
 |v,e::es=>kR dp (if rd dp e.f1+1>v then rd dp e.f1+1 else v) es
def jI (dp:List Int):Int→List Eg→Int
 |v,[]=>v
 |v,e::es=>jI dp (if rd dp e.f1≥0 then mx v (rd dp e.f1+1)else v) es
def JK (m:List St):Nat→List Int→List Int
 |0,dp=>dp
 |i+1,dp=>JK m i (dp.set i (kR dp (rd dp i) (aG m i).f1))
def CO (m:List St):Nat→List Int→Bool
 |0,dp=>decide (rd dp 0≤12)
 |i+1,dp=>VE m i&&CO m i (dp.set i (jI dp (if(aG m i).f0=true then 0 else-1) (aG m i).f1))
def xM (m:List St):Nat→Bool
 |0=>true
 |i+1=>VE m i&&xM m i
def vJ (m:List St):Bool:=decide (1≤m.length)&&decide (m.length≤400)&&xM m m.length&&decide (rd (JK m m.length (List.replicate m.length 0)) 0≤12)
theorem KJ {n i p:Int} {es:List Eg} (h:pW n i p es=true): ∀e∈es,97≤e.f0∧e.f0≤122∧i+1≤e.f1∧e.f1≤n-1∧p<e.f0:=by
 induction es generalizing p with
 |nil=>intro e he;cases he
 |cons x es ih=>
  simp only [pW,Bool.and_eq_true,decide_eq_true_eq] at h
  obtain⟨⟨⟨⟨h1,h2⟩,h3,h4⟩,h5⟩,h6⟩:=h
  intro e he
  rcases List.mem_cons.1 he with rfl|he
  ·exact⟨h1,h2,h3,h4,h5⟩
  ·obtain⟨g1,g2,g3,g4,g5⟩:=ih h6 e he
   exact⟨g1,g2,g3,g4,by omega⟩
theorem aMx {m:List St} {n:Nat} (h:xM m n=true): ∀i:Nat,i<n→VE m i=true:=by
 induction n with
 |zero=>intro i hi;omega
 |succ n ih=>
  simp only [xM,Bool.and_eq_true] at h
  intro i hi
  by_cases e:i=n
  ·rw [e];exact h.1
  ·exact ih h.2 i (by omega)
theorem aMy {m:List St} {n:Nat} (h: ∀i:Nat,i<n→VE m i=true):xM m n=true:=by
 induction n with
 |zero=>rfl
 |succ n ih=>
  simp only [xM,Bool.and_eq_true]
  exact⟨h n (by omega),ih (fun i hi=>h i (by omega))⟩
theorem H8 {dp:List Int} {b:Int}: ∀{es:List Eg} {v:Int},0≤v→v≤b→(∀e∈es,0≤rd dp e.f1∧rd dp e.f1+1≤b)→0≤kR dp v es∧kR dp v es≤b:=by
 intro es
 induction es with
 |nil=>intro v h0 h1 _;exact⟨h0,h1⟩
 |cons e es ih=>
  intro v h0 h1 h
  have he:=h e List.mem_cons_self
  simp only [kR]
  refine ih ?_ ?_ (fun x hx=>h x (List.mem_cons_of_mem _ hx))<;>split<;>omega
theorem UN {dp dq:List Int}: ∀{es:List Eg} {v:Int},0≤v→(∀e∈es,0≤rd dp e.f1∧rd dq e.f1=rd dp e.f1)→jI dq v es=kR dp v es:=by
 intro es
 induction es with
 |nil=>intro v _ _;rfl
 |cons e es ih=>
  intro v h0 h
  have he:=h e List.mem_cons_self
  simp only [jI,kR]
  rw [he.2,if_pos he.1]
  have:mx v (rd dp e.f1+1)=if rd dp e.f1+1>v then rd dp e.f1+1 else v:=by
   unfold mx
   repeat' split
   all_goals omega
  rw [this]
  refine ih ?_ (fun x hx=>h x (List.mem_cons_of_mem _ hx))
  split<;>omega
theorem aKP (m:List St): ∀(i:Nat) (dp dq:List Int),i≤m.length→dp.length=m.length→dq.length=m.length→(∀j:Nat,i<m.length→j<i→rd dp j=0)→(∀j:Nat,j<i→rd dp j=0)→
  (∀j:Nat,0<j→i≤j→j<m.length→0≤rd dp j∧rd dq j=rd dp j)→(i=0→(decide (rd dq 0≤12))=decide (rd dp 0≤12))→
  CO m i dq=(xM m i&&decide (rd (JK m i dp) 0≤12)):=by
 intro i
 induction i with
 |zero=>
  intro dp dq _ _ _ _ _ _ h0
  simp only [CO,xM,JK,Bool.true_and]
  exact h0 rfl
 |succ i ih=>
  intro dp dq hi hp hq _ hz hr _
  simp only [CO,xM,JK]
  cases e:VE m i with
  |false=>simp
  |true=>
   rw [Bool.true_and,Bool.true_and]
   simp only [VE,Bool.and_eq_true,Bool.or_eq_true,decide_eq_true_eq] at e
   have hm:=KJ e.1
   have he: ∀x∈(aG m i).f1,0≤rd dp x.f1∧rd dq x.f1=rd dp x.f1:=by
    intro x hx
    obtain⟨_,_,g3,g4,_⟩:=hm x hx
    have:=hr x.f1.toNat (by omega) (by omega) (by omega)
    rw [show((x.f1.toNat:Nat):Int)=x.f1 from by omega] at this
    exact this
   have hz0:rd dp (i:Int)=0:=hz i (by omega)
   refine Eq.trans ?_ (congrArg (fun v=>xM m i&&decide (rd (JK m i (dp.set i (kR dp v (aG m i).f1))) 0≤12)) hz0.symm)
   have hset (xs:List Int) (v:Int) (hl:xs.length=m.length) (j:Nat) (hj:j<m.length):rd (xs.set i v) (j:Int)=if j=i then v else rd xs j:=by
    by_cases c:j=i
    ·rw [if_pos c,c]
     have:=u6 xs (i:Int) v (by omega) (by omega)
     simpa using this
    ·rw [if_neg c]
     have:=rJ xs (i:Int) (j:Int) v (by omega) (by omega) (by omega)
     simpa using this
   have hd:=H8 (dp:=dp) (b:=1000000000000+kR dp 0 (aG m i).f1+(aG m i).f1.foldl (fun a x=>a+(if 0≤rd dp x.f1 then rd dp x.f1 else 0)) 0) (es:=(aG m i).f1) (v:=0)
   have h0d:0≤kR dp 0 (aG m i).f1:=by
    have key: ∀(es:List Eg) (v:Int),0≤v→0≤kR dp v es:=by
     intro es
     induction es with
     |nil=>intro v h;exact h
     |cons x es ih2=>
      intro v h
      simp only [kR]
      exact ih2 _ (by split<;>omega)
    exact key _ 0 (by omega)
   clear hd
   have hlong:(if(aG m i).f0=true then jI dq 0 (aG m i).f1=kR dp 0 (aG m i).f1 else((aG m i).f1=[]∧i=0)∨jI dq (-1) (aG m i).f1=kR dp 0 (aG m i).f1):=by
    split
    ·exact UN (by omega) he
    ·rename_i hend
     cases ees:(aG m i).f1 with
     |nil=>
      left
      refine⟨rfl,?_⟩
      rcases e.2 with (h|h)|h
      ·omega
      ·exact absurd h hend
      ·rw [ees] at h
       simp at h
     |cons x es=>
      right
      rw [ees] at he
      have hx:=he x List.mem_cons_self
      simp only [jI,kR]
      rw [hx.2,if_pos hx.1]
      rw [show mx (-1) (rd dp x.f1+1)=rd dp x.f1+1 from by unfold mx;rw [if_pos (by omega)],if_pos (by omega)]
      exact UN (by omega) (fun y hy=>he y (List.mem_cons_of_mem _ hy))
   refine ih _ _ (by omega) (by simpa using hp) (by simpa using hq) ?_ ?_ ?_ ?_
   ·intro j _ hj
    rw [hset dp _ hp j (by omega),if_neg (by omega)]
    exact hz j (by omega)
   ·intro j hj
    rw [hset dp _ hp j (by omega),if_neg (by omega)]
    exact hz j (by omega)
   ·intro j hj0 hij hj
    rw [hset dp _ hp j hj,hset dq _ hq j hj]
    by_cases c:j=i
    ·rw [if_pos c,if_pos c]
     refine⟨h0d,?_⟩
     by_cases ce:(aG m i).f0=true
     ·rw [if_pos ce] at hlong⊢
      exact hlong
     ·rw [if_neg ce] at hlong⊢
      rcases hlong with h|h
      ·omega
      ·exact h
    ·rw [if_neg c,if_neg c]
     exact hr j hj0 (by omega) hj
   ·intro hi0
    subst hi0
    have h1:=hset dp (kR dp 0 (aG m 0).f1) hp 0 (by omega)
    have h2:=hset dq (jI dq (if(aG m 0).f0=true then 0 else-1) (aG m 0).f1) hq 0 (by omega)
    rw [if_pos rfl] at h1 h2
    have h1' :rd (dp.set 0 (kR dp 0 (aG m 0).f1)) 0=kR dp 0 (aG m 0).f1:=h1
    have h2' :rd (dq.set 0 (jI dq (if(aG m 0).f0=true then 0 else-1) (aG m 0).f1)) 0=jI dq (if(aG m 0).f0=true then 0 else-1) (aG m 0).f1:=h2
    refine(congrArg (fun z=>decide (z≤12)) h2').trans (Eq.trans ?_ (congrArg (fun z=>decide (z≤12)) h1').symm)
    have aCp:=hlong
    by_cases ce:(aG m ((0:Nat):Int)).f0=true
    ·rw [if_pos ce] at aCp
     have:jI dq (if(aG m 0).f0=true then 0 else-1) (aG m 0).f1=kR dp 0 (aG m 0).f1:=by
      rw [if_pos (show(aG m 0).f0=true from ce)]
      exact aCp
     rw [this]
    ·rw [if_neg ce] at aCp
     have e1:(if(aG m 0).f0=true then(0:Int)else-1)= -1:=if_neg ce
     rw [e1]
     rcases aCp with h|h
     ·have h' :(aG m 0).f1=[]:=h.1
      rw [h']
      simp [jI,kR]
     ·have h' :jI dq (-1) (aG m 0).f1=kR dp 0 (aG m 0).f1:=h
      rw [h']
theorem aKO (m:List St) (h:1≤m.length):CO m m.length (List.replicate m.length 0)=(xM m m.length&&decide (rd (JK m m.length (List.replicate m.length 0)) 0≤12)):=by
 refine aKP m m.length _ _ (Nat.le_refl _) (by simp) (by simp) (fun j hj _=>absurd hj (by omega)) (fun j hj=>GR _ _ _ (by omega) (by omega)) (fun j _ h1 h2=>absurd h2 (by omega)) (fun h0=>by omega)
def lexB:List Int→List Int→Bool
 |_,[]=>false
 |[],_::_=>true
 |a::x,b::y=>decide (a<b)||(a==b&&lexB x y)
theorem aA7: ∀x y:List UInt8,Op.bytesLess x y=lexB (x.map (fun b=>(b.toNat:Int))) (y.map (fun b=>(b.toNat:Int)))
 |[],[]=>rfl
 |[],_::_=>rfl
 |_::_,[]=>rfl
 |a::x,b::y=>by
  simp only [Op.bytesLess,List.map_cons,lexB,aA7 x y]
  congr 1
  ·rw [decide_eq_decide,UInt8.lt_iff_toNat_lt]
   omega
  ·congr 1
   rw [Bool.eq_iff_iff,beq_iff_eq,beq_iff_eq]
   constructor
   ·rintro rfl
    rfl
   ·intro h
    exact UInt8.toNat_inj.1 (by omega)
theorem JV (s t:ByteArray):Op.bytesLess s.toList t.toList=lexB (bytesOf s) (bytesOf t):=by
 rw [aA7,Go.ByteArray.toList_eq,Go.ByteArray.toList_eq]
 rfl
structure yK (x:List ByteArray):Prop where
 asc:VN x
 len:x.length≤300
 txt: ∀s∈x,s.size≤12∧ ∀c∈bytesOf s,97≤c∧c≤122
theorem qG {s:ByteArray} (h:0<s.size):bytesOf s=bt s 0::bytesOf (s.extract 1 s.size):=by
 have:=pK s 0 (by omega) (by omega)
 rw [show(0:Int).toNat=0 from rfl,List.drop_zero,show((0:Int)+1).toNat=1 from rfl] at this
 rw [qY]
 exact this
theorem CQ {x:List ByteArray} {c:Int} {t:ByteArray}:t∈jB x c↔ ∃s∈x,bytesOf s=c::bytesOf t:=by
 refine⟨aEp,fun⟨s,hs,hb⟩=>?_⟩
 have hz:0<s.size:=by rw [←bR,hb];simp
 have h1:=qG hz
 rw [hb] at h1
 have e1:=(List.cons.inj h1).1
 have e2:=bytes_inj (List.cons.inj h1).2
 unfold jB
 refine List.mem_map.2 ⟨s,List.mem_filter.2 ⟨hs,?_⟩,e2.symm⟩
 simp [hz,e1]
theorem aVA (l:List ByteArray) (d:Nat): ∀i:Nat,i+d=l.length→wGo l d i=true→ ∀j (h:j+1<l.length),i≤j+1→UO l[j] l[j+1]=true:=by
 induction d with
 |zero=>intro i hi _ j h1 h2;omega
 |succ d ih=>
  intro i hi h j h1 h2
  simp only [wGo,Bool.and_eq_true] at h
  by_cases e:i=j+1
  ·have h3:=h.1.2
   rw [if_pos (by omega),show(i:Int)-1=((j:Nat):Int) by omega,qX l j (by omega),qX l i (by omega)] at h3
   subst e
   exact h3
  ·exact ih (i+1) (by omega) h.2 j h1 (by omega)
theorem aSg (l:List ByteArray) (h: ∀j (h:j+1<l.length),UO l[j] l[j+1]=true):VN l:=by
 refine List.pairwise_iff_getElem.2 (fun i j hi hj hij=>?_)
 have key: ∀d (hd:i+d+1<l.length),UO l[i] l[i+d+1]=true:=by
  intro d
  induction d with
  |zero=>intro hd;exact h i hd
  |succ d ih=>intro hd;exact KR (ih (by omega)) (h (i+d+1) (by omega))
 have:=key (j-i-1) (by omega)
 simpa [show i+(j-i-1)+1=j by omega] using this
theorem M8 {ws:List ByteArray} (h:RZ ws=true):yK ws:=by
 obtain⟨h1,h2,h3⟩:=RU h
 unfold RZ at h
 rw [Bool.and_eq_true] at h
 exact⟨aSg ws (fun j hj=>aVA ws ws.length 0 (by omega) h.1 j hj (by omega)),h1,fun s hs=>⟨h3 s hs,((BI _).1 (h2 s hs)).2.2⟩⟩
theorem aE9 {x:List ByteArray} (h:yK x) (c:Int):yK (jB x c):=by
 refine⟨?_,Nat.le_trans (aBN x c) h.len,fun t ht=>?_⟩
 ·unfold jB
  refine List.pairwise_map.2 (List.Pairwise.imp_of_mem ?_ (h.asc.filter _))
  intro s t hs ht hlt
  simp only [List.mem_filter,Bool.and_eq_true,decide_eq_true_eq] at hs ht
  unfold UO at hlt⊢
  rw [JV,qG hs.2.1,qG ht.2.1,hs.2.2,ht.2.2] at hlt
  rw [JV]
  simpa [lexB] using hlt
 ·obtain⟨s,hs,hb⟩:=CQ.1 ht
  have h1:=h.txt s hs
  rw [hb] at h1
  refine⟨?_,fun d hd=>h1.2 d (List.mem_cons_of_mem _ hd)⟩
  have h2:=congrArg List.length hb
  rw [bR,List.length_cons,bR] at h2
  omega
theorem aLb (p:List Int): ∀{x:List ByteArray},yK x→yK (pU x p):=by
 induction p with
 |nil=>exact fun h=>h
 |cons c p ih=>exact fun h=>ih (aE9 h c)
theorem TN {ws x:List ByteArray} (h:yK ws) (hx:InS ws x):yK x:=by
 rcases hx with rfl|⟨_,p,rfl⟩
 ·exact h
 ·exact aLb p h
def JU (x:List ByteArray) (c d:Nat):List Int:=((List.range' c d).map (fun n:Nat=>(n:Int))).filter (fun c=> !(jB x c).isEmpty)
def nH (x:List ByteArray):List Int:=JU x 97 26
theorem lK (x:List ByteArray) (c:Int):c∈nH x↔(97≤c∧c≤122)∧jB x c≠[]:=by
 unfold nH JU
 rw [List.mem_filter,List.mem_map]
 constructor
 ·rintro⟨⟨n,hn,rfl⟩,h⟩
  have hn2:=List.mem_range'_1.1 hn
  exact⟨by omega,by simpa using h⟩
 ·rintro⟨h1,h2⟩
  exact⟨⟨c.toNat,List.mem_range'_1.2 ⟨by omega,by omega⟩,by omega⟩,by simpa using h2⟩
theorem EA (x:List ByteArray):(nH x).Pairwise (· < ·):=by
 unfold nH JU
 refine List.Pairwise.filter _ (List.pairwise_map.2 ((List.pairwise_lt_range' ).imp ?_))
 intro a b h
 omega
theorem yF {x:List ByteArray} {c:Int}:jB x c≠[]↔ ∃s∈x,0<s.size∧bt s 0=c:=by
 constructor
 ·intro h
  obtain⟨t,ht⟩:=List.exists_mem_of_ne_nil _ h
  obtain⟨s,hs,hb⟩:=CQ.1 ht
  have hz:0<s.size:=by rw [←bR,hb];simp
  rw [qG hz] at hb
  exact⟨s,hs,hz,(List.cons.inj hb).1⟩
 ·rintro⟨s,hs,hz,rfl⟩ e
  have:s.extract 1 s.size∈jB x (bt s 0):=CQ.2 ⟨s,hs,qG hz⟩
  rw [e] at this
  cases this
theorem yA {x:List ByteArray} (h:yK x) {c:Int} (hc:jB x c≠[]):97≤c∧c≤122:=by
 obtain⟨s,hs,hz,rfl⟩:=yF.1 hc
 exact(h.txt s hs).2 _ (by rw [qG hz];exact List.mem_cons_self)
def q9 (out:List Int) (s:ByteArray):List Int:=if s.size=0 then out else if out.getLast?=some (bt s 0)then out else out++[bt s 0]
theorem aEO {out:List Int} (h:out.Pairwise (· < ·)) {l:Int} (hl:out.getLast?=some l):l∈out∧ ∀c∈out,c≤l:=by
 have hne:out≠[]:=by rintro rfl;simp at hl
 have e:out.getLast hne=l:=by rw [List.getLast?_eq_some_getLast hne] at hl;exact Option.some.inj hl
 rw [←List.dropLast_concat_getLast hne,e] at h⊢
 rw [List.pairwise_append] at h
 refine⟨by simp,fun c hc=>?_⟩
 rcases List.mem_append.1 hc with hc|hc
 ·have:=h.2.2 c hc l (by simp)
  omega
 ·have:=List.mem_singleton.1 hc
  omega
theorem OY: ∀(x:List ByteArray) (out:List Int),VN x→out.Pairwise (· < ·)→(∀c∈out,∀s∈x,0<s.size→c≤bt s 0)→
  (x.foldl q9 out).Pairwise (· < ·)∧ ∀c,c∈x.foldl q9 out↔c∈out∨ ∃s∈x,0<s.size∧bt s 0=c
 |[],out,_,ho,_=>⟨ho,fun c=>by simp⟩
 |s::x,out,ha,ho,hc=>by
  rw [List.foldl_cons]
  obtain⟨ha1,ha2⟩:=List.pairwise_cons.1 ha
  have hb: ∀t∈x,0<s.size→0<t.size→bt s 0≤bt t 0:=by
   intro t ht h1 h2
   have h3:=ha1 t ht
   unfold UO at h3
   rw [JV,qG h1,qG h2] at h3
   simp only [lexB,Bool.or_eq_true,decide_eq_true_eq,Bool.and_eq_true,beq_iff_eq] at h3
   omega
  by_cases z:s.size=0
  ·have e:q9 out s=out:=by unfold q9;rw [if_pos z]
   rw [e]
   obtain⟨g1,g2⟩:=OY x out ha2 ho (fun c h t ht=>hc c h t (List.mem_cons_of_mem _ ht))
   refine⟨g1,fun c=>(g2 c).trans ⟨fun h=>h.imp id (fun⟨t,ht,h⟩=>⟨t,List.mem_cons_of_mem _ ht,h⟩),?_⟩⟩
   rintro(h|⟨t,ht,h1,h2⟩)
   ·exact .inl h
   ·rcases List.mem_cons.1 ht with rfl|ht
    ·omega
    ·exact .inr ⟨t,ht,h1,h2⟩
  ·by_cases l:out.getLast?=some (bt s 0)
   ·have e:q9 out s=out:=by unfold q9;rw [if_neg z,if_pos l]
    rw [e]
    obtain⟨g1,g2⟩:=OY x out ha2 ho (fun c h t ht=>hc c h t (List.mem_cons_of_mem _ ht))
    refine⟨g1,fun c=>(g2 c).trans ⟨fun h=>h.imp id (fun⟨t,ht,h⟩=>⟨t,List.mem_cons_of_mem _ ht,h⟩),?_⟩⟩
    rintro(h|⟨t,ht,h1,h2⟩)
    ·exact .inl h
    ·rcases List.mem_cons.1 ht with rfl|ht
     ·rw [←h2]
      exact .inl (aEO ho l).1
     ·exact .inr ⟨t,ht,h1,h2⟩
   ·have e:q9 out s=out++[bt s 0]:=by unfold q9;rw [if_neg z,if_neg l]
    rw [e]
    have hlt: ∀c∈out,c<bt s 0:=by
     intro c h
     have h1:=hc c h s List.mem_cons_self (by omega)
     by_cases e2:c=bt s 0
     ·exfalso
      have hne:out≠[]:=by rintro rfl;cases h
      have h2:=aEO ho (List.getLast?_eq_some_getLast hne)
      have h3:=h2.2 c h
      have h4:=hc _ h2.1 s List.mem_cons_self (by omega)
      exact l (by rw [List.getLast?_eq_some_getLast hne];congr 1;omega)
     ·omega
    obtain⟨g1,g2⟩:=OY x (out++[bt s 0]) ha2 (List.pairwise_append.2 ⟨ho,by simp,fun a h1 b h2=>by rw [List.mem_singleton.1 h2];exact hlt a h1⟩) (fun c h t ht hz=>by
     rcases List.mem_append.1 h with h|h
     ·exact hc c h t (List.mem_cons_of_mem _ ht) hz
     ·rw [List.mem_singleton.1 h]
      exact hb t ht (by omega) hz)
    refine⟨g1,fun c=>(g2 c).trans ⟨?_,?_⟩⟩
    ·rintro(h|⟨t,ht,h⟩)
     ·rcases List.mem_append.1 h with h|h
      ·exact .inl h
      ·exact .inr ⟨s,List.mem_cons_self,by omega,(List.mem_singleton.1 h).symm⟩
     ·exact .inr ⟨t,List.mem_cons_of_mem _ ht,h⟩
    ·rintro(h|⟨t,ht,h1,h2⟩)
     ·exact .inl (List.mem_append_left _ h)
     ·rcases List.mem_cons.1 ht with rfl|ht
      ·exact .inl (List.mem_append_right _ (by rw [h2];simp))
      ·exact .inr ⟨t,ht,h1,h2⟩
theorem aF0 {x:List ByteArray} (h:yK x):x.foldl q9 []=nH x:=by
 obtain⟨g1,g2⟩:=OY x [] h.asc List.Pairwise.nil (by simp)
 have hm: ∀c,c∈x.foldl q9 []↔c∈nH x:=fun c=>by
  rw [g2,lK,yF]
  constructor
  ·rintro(h1|h1)
   ·cases h1
   ·exact⟨yA h (yF.2 h1),h1⟩
  ·exact fun h1=> .inr h1.2
 have n1:(x.foldl q9 []).Nodup:=g1.imp (fun h e=>by omega)
 have n2:(nH x).Nodup:=(EA x).imp (fun h e=>by omega)
 exact List.Perm.eq_of_pairwise (le:=fun a b:Int=>a<b) (fun a b _ _ h1 h2=>by omega) g1 (EA x) ((List.perm_ext_iff_of_nodup n1 n2).2 hm)
def CF (A:List (List ByteArray)) (x:List ByteArray):List Eg:=(nH x).map (fun c=>⟨c,(K9 (jB x c) A:Int)⟩)
def stL (A:List (List ByteArray)) (x:List ByteArray):St:=⟨decide (0<x.length)&&(bP ByteArray.empty x 0).toList.isEmpty,CF A x⟩
noncomputable def moB (ws:List ByteArray):List St×Bool:=if RZ ws=true then(if(dJ ws).length>400 then([],false)else((dJ ws).map (stL (dJ ws)),true))else([],false)
theorem nM {ws:List ByteArray} (h:RZ ws=true):True∧SE (dJ ws)∧(∀x,x∈dJ ws↔InS ws x)∧(∀x∈dJ ws,yK x)∧(dJ ws).length≤4000:=by
 obtain⟨h1,h2,h3⟩:=RU h
 obtain⟨g2,g3⟩:=aQ3 ws
 refine⟨trivial,g2,g3,fun x hx=>TN (M8 h) ((g3 x).1 hx),?_⟩
 refine OA (ws:=ws) ⟨g2.nodup,fun x hx=>?_⟩ h1 h3
 rcases(g3 x).1 hx with rfl|⟨hne,p,hp⟩
 ·exact⟨[],rfl, .inl rfl⟩
 ·exact⟨p,hp, .inr hne⟩
theorem OW {ws:List ByteArray} (h:RZ ws=true) {x:List ByteArray} (hx:x∈dJ ws) {c:Int} (hc:jB x c≠[]):jB x c∈dJ ws:=
 ((nM h).2.2.1 _).2 (aEL (((nM h).2.2.1 _).1 hx) c hc)
theorem aDV (l:List ByteArray) (c:Int) (hl:l.length≤100000) (d:Nat): ∀(i:Nat) (out:List ByteArray),i+d=l.length→out.length≤i→Ev (fun k=>jH.l0 k c out l (l.length:Int) (i:Int)) (out++jB (l.drop i) c):=by
 induction d with
 |zero=>
  intro i out hi ho
  refine Ev.step (fun k=>jH.l0.eq_2 ..) (eN (fH (Ev.now _) ?_))
  rw [List.drop_eq_nil_of_le (by omega)]
  simp [jB]
 |succ d ih=>
  intro i out hi ho
  have hlt:i<l.length:=by omega
  have e1:wrap64 ((i:Int)+1)=((i+1:Nat):Int):=w6
  refine Ev.step (fun k=>jH.l0.eq_2 ..) (eP (eP (eP ?_)))
  rw [qX l i hlt,e1,List.drop_eq_getElem_cons hlt,X8]
  by_cases c0:l[i].toList=[]
  ·have hz:l[i].size=0:=by
    rw [Lib.toList_data] at c0
    have:=uD l[i]
    rw [c0] at this
    exact this.symm
   rw [if_neg (fun h=>by omega),List.nil_append]
   exact aU c0 (ih (i+1) _ (by omega) (by omega))
  ·have hz:0<l[i].size:=by
    rcases Nat.eq_zero_or_pos l[i].size with h|h
    ·exfalso
     have h2:=uD l[i]
     rw [h] at h2
     exact c0 (by rw [Lib.toList_data];exact List.length_eq_zero_iff.1 h2)
    ·exact h
   refine bG c0 (eP ?_)
   by_cases c2:bt l[i] 0=c
   ·rw [if_pos ⟨hz,c2⟩]
    refine aU c2 (eP (eP (fH (ih (i+1) _ (by omega) (by simp;omega)) ?_)))
    simp
   ·rw [if_neg (fun h=>c2 h.2),List.nil_append]
    exact bG c2 (ih (i+1) _ (by omega) (by omega))
theorem aAN (l:List ByteArray) (c:Int) (hl:l.length≤100000):Ev (fun k=>jH.f k l c) (jB l c):=by
 have:=aDV l c hl l.length 0 [] (by omega) (by simp)
 rw [List.drop_zero,List.nil_append] at this
 exact this
theorem aFZ (l:List ByteArray) (hl:l.length≤100000) (d:Nat): ∀(i:Nat) (out:List Int),i+d=l.length→out.length≤i→Ev (fun k=>fA.l0 k out l (l.length:Int) (i:Int)) ((l.drop i).foldl q9 out):=by
 induction d with
 |zero=>
  intro i out hi ho
  refine Ev.step (fun k=>fA.l0.eq_2 ..) (eN (fH (Ev.now _) ?_))
  rw [List.drop_eq_nil_of_le (by omega)]
  rfl
 |succ d ih=>
  intro i out hi ho
  have hlt:i<l.length:=by omega
  have e1:wrap64 ((i:Int)+1)=((i+1:Nat):Int):=w6
  refine Ev.step (fun k=>fA.l0.eq_2 ..) (eP (eP (eP ?_)))
  rw [qX l i hlt,e1,List.drop_eq_getElem_cons hlt,List.foldl_cons]
  have hzt:l[i].toList=[]↔l[i].size=0:=by
   rw [Lib.toList_data,←List.length_eq_zero_iff,uD]
  by_cases c0:l[i].toList=[]
  ·have e:q9 out l[i]=out:=by unfold q9;rw [if_pos (hzt.1 c0)]
   rw [e]
   exact aU c0 (ih (i+1) _ (by omega) (by omega))
  ·have hz: ¬l[i].size=0:=fun h=>c0 (hzt.2 h)
   by_cases c1:(out.length:Int)=0
   ·have h0:out=[]:=List.length_eq_zero_iff.1 (by omega)
    subst h0
    have e:q9 [] l[i]=[]++[bt l[i] 0]:=by unfold q9;rw [if_neg hz,if_neg nofun]
    rw [e]
    exact bG c0 (aU c1 (eP (eP (ih (i+1) _ (by omega) (by simp)))))
   ·have hw:wrap64 ((out.length:Int)-1)=((out.length-1:Nat):Int):=by
     have:=w6 (n:=(out.length:Int)-1)
     omega
    have hlast:out.getLast?=some (rd out ((out.length-1:Nat):Int)):=by
     rw [List.getLast?_eq_getElem?]
     simp [rd,List.getD_eq_getElem?_getD,show out.length-1<out.length by omega]
    refine bG c0 (bG c1 ?_)
    rw [hw]
    by_cases c2:rd out ((out.length-1:Nat):Int)=bt l[i] 0
    ·have e:q9 out l[i]=out:=by unfold q9;rw [if_neg hz,if_pos (by rw [hlast,c2])]
     rw [e]
     exact eP (eP (eP (aU c2 (ih (i+1) _ (by omega) (by omega)))))
    ·have e:q9 out l[i]=out++[bt l[i] 0]:=by unfold q9;rw [if_neg hz,if_neg (by rw [hlast];intro h;exact c2 (Option.some.inj h))]
     rw [e]
     exact eP (eP (eP (bG c2 (eP (ih (i+1) _ (by omega) (by simp;omega))))))
theorem YE {x:List ByteArray} (h:yK x):Ev (fun k=>fA.f k x) (nH x):=by
 have hl:=h.len
 have:=aFZ x (by omega) x.length 0 [] (by omega) (by simp)
 rw [List.drop_zero,aF0 h] at this
 exact this
theorem YT (x:List ByteArray):(nH x).length≤26:=by
 unfold nH JU
 refine Nat.le_trans (List.length_filter_le _ _) ?_
 simp
theorem aDc: ∀(x y T U:List UInt8),(10:UInt8)∉x→(10:UInt8)∉y→(T=[]∨ ∃T',T=10::T')→(U=[]∨ ∃U',U=10::U')→x++T=y++U→x=y∧T=U
 |[],[],T,U,_,_,_,_,h=>⟨rfl,by simpa using h⟩
 |[],b::y,T,U,_,hy,hT,_,h=>by
  rcases hT with rfl|⟨T',rfl⟩
  ·simp at h
  ·simp only [List.nil_append,List.cons_append,List.cons.injEq] at h
   exact absurd h.1 (fun e=>hy (by rw [e];simp))
 |a::x,[],T,U,hx,_,_,hU,h=>by
  rcases hU with rfl|⟨U',rfl⟩
  ·simp at h
  ·simp only [List.nil_append,List.cons_append,List.cons.injEq] at h
   exact absurd h.1 (fun e=>hx (by rw [←e];simp))
 |a::x,b::y,T,U,hx,hy,hT,hU,h=>by
  simp only [List.cons_append,List.cons.injEq] at h
  obtain⟨h1,h2⟩:=aDc x y T U (fun e=>hx (List.mem_cons_of_mem _ e)) (fun e=>hy (List.mem_cons_of_mem _ e)) hT hU h.2
  exact⟨by rw [h.1,h1],h2⟩
theorem aDg (r:List (List UInt8)):Go.Lib.joinTail [10] r=[]∨ ∃T',Go.Lib.joinTail [10] r=10::T' :=by
 cases r with
 |nil=>exact .inl rfl
 |cons z r=>exact .inr ⟨_,rfl⟩
theorem aFg: ∀(a b:List (List UInt8)),(∀s∈a,(10:UInt8)∉s)→(∀s∈b,(10:UInt8)∉s)→Go.Lib.joinTail [10] a=Go.Lib.joinTail [10] b→a=b
 |[],[],_,_,_=>rfl
 |[],z::b,_,_,h=>by simp [Go.Lib.joinTail] at h
 |z::a,[],_,_,h=>by simp [Go.Lib.joinTail] at h
 |x::a,y::b,ha,hb,h=>by
  have e: ∀(z:List UInt8) (r:List (List UInt8)),Go.Lib.joinTail [10] (z::r)=10::(z++Go.Lib.joinTail [10] r):=fun z r=>rfl
  rw [e,e,List.cons.injEq] at h
  obtain⟨h1,h2⟩:=aDc x y _ _ (ha x List.mem_cons_self) (hb y List.mem_cons_self) (aDg a) (aDg b) h.2
  rw [h1,aFg a b (fun s hs=>ha s (List.mem_cons_of_mem _ hs)) (fun s hs=>hb s (List.mem_cons_of_mem _ hs)) h2]
theorem aQc {a b:List (List UInt8)} (na:a≠[]) (nb:b≠[]) (ha: ∀s∈a,(10:UInt8)∉s) (hb: ∀s∈b,(10:UInt8)∉s) (h:Go.Lib.join a [10]=Go.Lib.join b [10]):a=b:=by
 obtain⟨x,r,rfl⟩:=List.exists_cons_of_ne_nil na
 obtain⟨y,q,rfl⟩:=List.exists_cons_of_ne_nil nb
 rw [Go.Lib.join_cons,Go.Lib.join_cons] at h
 obtain⟨h1,h2⟩:=aDc x y _ _ (ha x List.mem_cons_self) (hb y List.mem_cons_self) (aDg r) (aDg q) h
 rw [h1,aFg r q (fun s hs=>ha s (List.mem_cons_of_mem _ hs)) (fun s hs=>hb s (List.mem_cons_of_mem _ hs)) h2]
theorem bA1 {x:List ByteArray} (h:yK x): ∀s∈x.map (fun s:ByteArray=>s.data.toList),(10:UInt8)∉s:=by
 intro s hs hm
 obtain⟨t,ht,rfl⟩:=List.mem_map.1 hs
 have:=(h.txt t ht).2 10 (List.mem_map.2 ⟨10,hm,rfl⟩)
 omega
theorem aET: ∀{a b:List ByteArray},a.map (fun s:ByteArray=>s.data.toList)=b.map (fun s:ByteArray=>s.data.toList)→a=b
 |[],[],_=>rfl
 |[],_::_,h=>by simp at h
 |_::_,[],h=>by simp at h
 |x::a,y::b,h=>by
  rw [List.map_cons,List.map_cons,List.cons.injEq] at h
  rw [aET h.2,ByteArray.ext (Array.toList_inj.1 h.1)]
theorem a18 {x y:List ByteArray} (hx:yK x) (hy:yK y) (nx:x≠[]) (ny:y≠[]) (h:aA.jn x=aA.jn y):x=y:=by
 unfold aA.jn at h
 injection h with h
 have h:=Array.toList_inj.2 h
 have h:=aQc (by simpa using nx) (by simpa using ny) (bA1 hx) (bA1 hy) h
 exact aET h
theorem aJJ (n:Nat): ∀r:List (List UInt8),(∀s∈r,s.length≤n)→Go.Lib.lens r≤n*r.length
 |[],_=>by simp [Go.Lib.lens]
 |x::r,h=>by
  have h1:=aJJ n r (fun s hs=>h s (List.mem_cons_of_mem _ hs))
  have h2:=h x List.mem_cons_self
  simp only [Go.Lib.lens,List.length_cons,Nat.mul_add,List.map_cons,List.sum_cons] at h1⊢
  omega
theorem KT {x:List ByteArray} (h:yK x) (hne:x≠[]):aA.okB x=true:=by
 have hl:=h.len
 have hp:=List.length_pos_iff.2 hne
 have hj:(Go.Lib.join (x.map (fun s:ByteArray=>s.data.toList)) (⟨#[10]⟩:ByteArray).data.toList).length≤1000000000:=by
  obtain⟨s,r,rfl⟩:=List.exists_cons_of_ne_nil hne
  rw [List.map_cons,Go.Lib.join_length]
  have h1:=aJJ 12 (s.data.toList::r.map (fun s:ByteArray=>s.data.toList)) (fun t ht=>by
   rw [←List.map_cons (f:=fun s:ByteArray=>s.data.toList)] at ht
   obtain⟨u,hu,rfl⟩:=List.mem_map.1 ht
   rw [uD]
   exact(h.txt u hu).1)
  simp only [List.length_cons,List.length_map,show(⟨#[10]⟩:ByteArray).data.toList.length=1 from rfl] at*
  omega
 simp only [aA.okB,Bool.and_eq_true,decide_eq_true_eq]
 exact⟨⟨hp,by omega⟩,hj⟩
structure Seen (ws:List ByteArray) (sn:List (ByteArray×List ByteArray)):Prop where
 nod:(sn.map (·.2)).Nodup
 key: ∀e∈sn,e.1=aA.jn e.2
 in_: ∀e∈sn,InS ws e.2∧e.2≠[]
theorem Seen.length {ws:List ByteArray} (h:RZ ws=true) {sn:List (ByteArray×List ByteArray)} (hs:Seen ws sn):sn.length≤4000:=by
 obtain⟨h1,_,h3⟩:=RU h
 have:=OA (ws:=ws) (out:=sn.map (·.2)) ⟨hs.nod,fun x hx=>by
  obtain⟨e,he,rfl⟩:=List.mem_map.1 hx
  rcases(hs.in_ e he).1 with h|⟨hne,p,hp⟩
  ·exact⟨[],h, .inl rfl⟩
  ·exact⟨p,hp, .inr hne⟩⟩ h1 h3
 simpa using this
theorem Seen.any {ws:List ByteArray} (h:RZ ws=true) {sn:List (ByteArray×List ByteArray)} (hs:Seen ws sn) {l:List ByteArray} (hl:InS ws l) (hne:l≠[]):sn.any (fun e=>e.1.toList==(aA.jn l).toList)=true↔l∈sn.map (·.2):=by
 rw [List.any_eq_true]
 constructor
 ·rintro⟨e,he,h1⟩
  have h2:e.1=aA.jn l:=(sJ _ _).1 (by simpa using h1)
  rw [hs.key e he] at h2
  obtain⟨h3,h4⟩:=hs.in_ e he
  exact List.mem_map.2 ⟨e,he,a18 (TN (M8 h) h3) (TN (M8 h) hl) h4 hne h2⟩
 ·intro hm
  obtain⟨e,he,rfl⟩:=List.mem_map.1 hm
  exact⟨e,he,by simp [hs.key e he]⟩
theorem Seen.put {ws:List ByteArray} {sn:List (ByteArray×List ByteArray)} (hs:Seen ws sn) {l:List ByteArray} (hl:InS ws l) (hne:l≠[]) (c:l∉sn.map (·.2)):Seen ws (sn++[(aA.jn l,l)]):=by
 refine⟨?_,?_,?_⟩
 ·rw [List.map_append,List.nodup_append]
  refine⟨hs.nod,by simp,fun a ha b hb=>?_⟩
  have:b=l:=by simpa using hb
  rw [this]
  rintro rfl
  exact c ha
 ·intro e he
  rcases List.mem_append.1 he with he|he
  ·exact hs.key e he
  ·rw [List.mem_singleton.1 he]
 ·intro e he
  rcases List.mem_append.1 he with he|he
  ·exact hs.in_ e he
  ·rw [List.mem_singleton.1 he]
   exact⟨hl,hne⟩
structure XG (ws:List ByteArray) (sn sn' :List (ByteArray×List ByteArray)):Prop where
 seen:Seen ws sn'
 sub: ∀x∈sn.map (·.2),x∈sn'.map (·.2)
 shut: ∀x∈sn'.map (·.2),x∉sn.map (·.2)→ ∀c,jB x c=[]∨jB x c∈sn'.map (·.2)
theorem XG.refl {ws:List ByteArray} {sn:List (ByteArray×List ByteArray)} (h:Seen ws sn):XG ws sn sn:=⟨h,fun _ h=>h,fun x h1 h2=>absurd h1 h2⟩
theorem XG.trans {ws:List ByteArray} {a b c:List (ByteArray×List ByteArray)} (h:XG ws a b) (k:XG ws b c):XG ws a c:=
 ⟨k.seen,fun x hx=>k.sub x (h.sub x hx),fun x hx hn e=>by
  by_cases hb:x∈b.map (·.2)
  ·exact(h.shut x hb hn e).imp id (k.sub _)
  ·exact k.shut x hx hb e⟩
theorem aLa {ws:List ByteArray} (h:RZ ws=true) (n:Nat): ∀(l:List ByteArray) (sn:List (ByteArray×List ByteArray)),InS ws l→l≠[]→(∀s∈l,s.size≤n)→Seen ws sn→
  ∃sn',Ev (fun k=>aA.g k sn l) sn' ∧XG ws sn sn' ∧l∈sn'.map (·.2):=by
 induction n with
 |zero=>
  intro l sn hl hne hz hs
  have hok:=TN (M8 h) hl
  have hlen:=hs.length h
  by_cases c:l∈sn.map (·.2)
  ·exact⟨sn,Ev.step (fun k=>aA.g.eq_2 ..) (aU ⟨KT hok hne,by omega⟩ (aU ((hs.any h hl hne).2 c) (Ev.now _))),XG.refl hs,c⟩
  ·have hlet:nH l=[]:=by
    refine List.eq_nil_iff_forall_not_mem.2 (fun c hc=>?_)
    obtain⟨s,hs2,hz2,_⟩:=yF.1 ((lK l c).1 hc).2
    have:=hz s hs2
    omega
   have hf:=YE hok
   rw [hlet] at hf
   refine⟨sn++[(aA.jn l,l)],Ev.step (fun k=>aA.g.eq_2 ..) (aU ⟨KT hok hne,by omega⟩ (bG (fun e=>c ((hs.any h hl hne).1 e)) (Ev.bind hf (Ev.now _)))),⟨hs.put hl hne c,?_,?_⟩,?_⟩
   ·intro x hx
    rw [List.map_append]
    exact List.mem_append_left _ hx
   ·intro x hx hn e
    rw [List.map_append] at hx
    rcases List.mem_append.1 hx with hx|hx
    ·exact absurd hx hn
    ·have hxl:x=l:=by simpa using hx
     subst hxl
     left
     by_cases hc:jB x e=[]
     ·exact hc
     ·have:=(lK x e).2 ⟨yA hok hc,hc⟩
      rw [hlet] at this
      cases this
   ·rw [List.map_append]
    exact List.mem_append_right _ (by simp)
 |succ n ih=>
  intro l sn hl hne hz hs
  have hok:=TN (M8 h) hl
  have hlen:=hs.length h
  by_cases c:l∈sn.map (·.2)
  ·exact⟨sn,Ev.step (fun k=>aA.g.eq_2 ..) (aU ⟨KT hok hne,by omega⟩ (aU ((hs.any h hl hne).2 c) (Ev.now _))),XG.refl hs,c⟩
  ·have loop: ∀(cs:List Int),(∀c∈cs,jB l c≠[])→ ∀sn,Seen ws sn→ ∃sn',Ev (fun k=>aA.gl (aA.g k) k l cs sn) sn' ∧XG ws sn sn' ∧ ∀c∈cs,jB l c∈sn'.map (·.2):=by
    intro cs
    induction cs with
    |nil=>exact fun _ sn hs=>⟨sn,Ev.now _,XG.refl hs,by simp⟩
    |cons c cs ihc=>
     intro hcs sn hs
     have hc:=hcs c List.mem_cons_self
     obtain⟨sn1,h1,h2,h3⟩:=ih (jB l c) sn (aEL hl c hc) hc (fun t ht=>by
      obtain⟨s,hs2,hb⟩:=CQ.1 ht
      have h4:=hz s hs2
      have h5:=congrArg List.length hb
      rw [bR,List.length_cons,bR] at h5
      omega) hs
     obtain⟨sn2,g1,g2,g3⟩:=ihc (fun d hd=>hcs d (List.mem_cons_of_mem _ hd)) sn1 h2.seen
     have hll:=hok.len
     refine⟨sn2,Ev.bind (aAN l c (by omega)) (Ev.bind h1 g1),h2.trans g2,fun d hd=>?_⟩
     rcases List.mem_cons.1 hd with rfl|hd
     ·exact g2.sub _ h3
     ·exact g3 d hd
   have hs1:=hs.put hl hne c
   obtain⟨sn',g1,g2,g3⟩:=loop (nH l) (fun c hc=>((lK l c).1 hc).2) _ hs1
   have hin:l∈sn'.map (·.2):=g2.sub l (by rw [List.map_append];exact List.mem_append_right _ (by simp))
   refine⟨sn',Ev.step (fun k=>aA.g.eq_2 ..) (aU ⟨KT hok hne,by omega⟩ (bG (fun e=>c ((hs.any h hl hne).1 e)) (Ev.bind (YE hok) g1))),⟨g2.seen,fun x hx=>g2.sub x (by rw [List.map_append];exact List.mem_append_left _ hx),fun x hx hn e=>?_⟩,hin⟩
   by_cases hxl:x=l
   ·subst hxl
    by_cases hc:jB x e=[]
    ·exact .inl hc
    ·exact .inr (g3 e ((lK x e).2 ⟨yA hok hc,hc⟩))
   ·exact g2.shut x hx (fun hm=>by
     rw [List.map_append] at hm
     rcases List.mem_append.1 hm with hm|hm
     ·exact hn hm
     ·exact hxl (by simpa using hm)) e
theorem aGQ {ws:List ByteArray} (h:RZ ws=true) (hne:ws≠[]): ∃sn,Ev (fun k=>aA.g k [] ws) sn∧Seen ws sn∧ ∀x,x∈sn.map (·.2)↔x∈dJ ws:=by
 obtain⟨_,_,hin,_,_⟩:=nM h
 obtain⟨_,h2,h3⟩:=RU h
 obtain⟨sn,h4,h5,h6⟩:=aLa h 12 ws [] (.inl rfl) hne h3 ⟨by simp,by simp,by simp⟩
 refine⟨sn,h4,h5.seen,fun x=>⟨fun hx=>?_,fun hx=>?_⟩⟩
 ·obtain⟨e,he,rfl⟩:=List.mem_map.1 hx
  exact(hin _).2 (h5.seen.in_ e he).1
 ·exact aFI h2 h6 (fun y hy c _ _=>h5.shut y hy (by simp) c) x ((hin x).1 hx)
theorem a2j (a b:Int):mx a b=max a b:=by
 unfold mx
 split<;>omega
theorem aQn (l:List ByteArray):aA.lng l=tL 0 l:=by
 unfold aA.lng tL
 congr 1
 funext n s
 exact a2j _ _
theorem aQm: ∀a b:List ByteArray,aA.lex a b=xR a b
 |[],[]=>rfl
 |[],_::_=>rfl
 |_::_,[]=>rfl
 |x::a,y::b=>by
  rw [aA.lex,xR,aQm a b]
  by_cases e:x=y
  ·subst e
   rw [if_pos rfl,JS]
   simp
  ·rw [if_neg e]
   cases h:UO x y with
   |true=>exact if_pos h
   |false=>
    have h2:=TI h e
    exact(if_neg (fun h3=>by unfold UO at h;rw [h] at h3;cases h3)).trans (if_pos h2)
theorem a2i (a b:List ByteArray):aA.lt a b=uJ a b:=by
 unfold aA.lt uJ
 rw [aQn,aQn,aQm]
 by_cases h:tL 0 a=tL 0 b
 ·rw [if_pos h,if_neg (by omega),if_neg (by omega)]
 ·rw [if_neg h]
  by_cases h2:tL 0 b<tL 0 a
  ·rw [if_pos h2,decide_eq_true h2]
  ·rw [if_neg h2,if_pos (by omega),decide_eq_false h2]
theorem Q4 (l:List ByteArray) (hl:l.length≤100000) (d:Nat): ∀(i:Nat) (v:Int),i+d=l.length→ ∃r,Ev (fun k=>iH.l0 k v l (l.length:Int) (i:Int)) r:=by
 induction d with
 |zero=>
  intro i v hi
  exact⟨v,Ev.step (fun k=>iH.l0.eq_2 ..) (eN (Ev.now _))⟩
 |succ d ih=>
  intro i v hi
  have e1:wrap64 ((i:Int)+1)=((i+1:Nat):Int):=w6
  obtain⟨r,hr⟩:=ih (i+1) (mx v ((bP ByteArray.empty l (i:Int)).size:Int)) (by omega)
  refine⟨r,Ev.step (fun k=>iH.l0.eq_2 ..) (eP (eP (eP ?_)))⟩
  rw [e1]
  exact hr
theorem aKu (x y:ByteArray): ∃r,eY.f x y=some r:=by
 have n2: ∀z:ByteArray,(z.toList !=z.toList)=false:=fun z=>by simp
 unfold eY.f cmp_isNaN_string.f
 simp only [n2,Option.bind_some,Bool.false_eq_true,if_false]
 by_cases h4:Op.bytesLess x.toList y.toList=true<;>by_cases h5:Op.bytesLess y.toList x.toList=true<;>simp [h4,h5]
theorem aKt (x y:Int): ∃r,jP.f x y=some r:=by
 have n2: ∀z:Int,(z !=z)=false:=fun z=>by simp
 unfold jP.f cmp_isNaN_int.f
 simp only [n2,Option.bind_some,Bool.false_eq_true,if_false]
 by_cases h4:x<y<;>by_cases h5:x>y<;>simp [h4,h5]
theorem SX (a b:List ByteArray) (hl:a.length≤100000) (d:Nat): ∀i:Nat,i+d=a.length→ ∃r,Ev (fun k=>bN.l0 k a b a (a.length:Int) (i:Int)) r:=by
 induction d with
 |zero=>
  intro i hi
  by_cases c:(a.length:Int)<(b.length:Int)
  ·exact⟨_,Ev.step (fun k=>bN.l0.eq_2 ..) (eN (aU c (Ev.now _)))⟩
  ·exact⟨_,Ev.step (fun k=>bN.l0.eq_2 ..) (eN (bG c (Ev.now _)))⟩
 |succ d ih=>
  intro i hi
  have e1:wrap64 ((i:Int)+1)=((i+1:Nat):Int):=w6
  by_cases c:(i:Int)≥(b.length:Int)
  ·exact⟨_,Ev.step (fun k=>bN.l0.eq_2 ..) (eP (eP (eP (aU c (Ev.now _)))))⟩
  ·obtain⟨t,ht⟩:=aKu (bP ByteArray.empty a (i:Int)) (bP ByteArray.empty b (i:Int))
   by_cases z:t=0
   ·obtain⟨r,hr⟩:=ih (i+1) (by omega)
    refine⟨r,Ev.step (fun k=>bN.l0.eq_2 ..) (eP (eP (eP (bG c (eP (gF ht (aU z ?_)))))))⟩
    rw [e1]
    exact hr
   ·exact⟨t,Ev.step (fun k=>bN.l0.eq_2 ..) (eP (eP (eP (bG c (eP (gF ht (bG z (Ev.now _))))))))⟩
theorem aSE (x y:Int): ∃r,Ev (fun k=>fJ.f k [x,y]) r:=by
 have e2:wrap64 ((0:Int)+1)=1:=w6
 have e3:wrap64 ((1:Int)+1)=2:=w6
 unfold fJ.f
 by_cases hx:rd [x,y] 0=0
 ·by_cases hy:rd [x,y] 1=0
  ·refine⟨0,Ev.step (fun k=>fJ.l0.eq_2 ..) (aU (by simp) (eP (aU (by simp) (aU hx ?_))))⟩
   rw [e2]
   refine Ev.step (fun k=>fJ.l0.eq_2 ..) (aU (by simp) (eP (aU (by simp) (aU hy ?_))))
   rw [e3]
   exact Ev.step (fun k=>fJ.l0.eq_2 ..) (bG (by simp) (Ev.now _))
  ·refine⟨rd [x,y] 1,Ev.step (fun k=>fJ.l0.eq_2 ..) (aU (by simp) (eP (aU (by simp) (aU hx ?_))))⟩
   rw [e2]
   exact Ev.step (fun k=>fJ.l0.eq_2 ..) (aU (by simp) (eP (aU (by simp) (bG hy (Ev.now _)))))
 ·exact⟨_,Ev.step (fun k=>fJ.l0.eq_2 ..) (aU (by simp) (eP (aU (by simp) (bG hx (Ev.now _)))))⟩
theorem aSC (a b:List ByteArray) (ha:a.length≤100000) (hb:b.length≤100000): ∃r,Ev (fun k=>aA.aFJ k a b) r:=by
 obtain⟨lb,h1⟩:=Q4 b hb b.length 0 0 (by omega)
 obtain⟨la,h2⟩:=Q4 a ha a.length 0 0 (by omega)
 obtain⟨t,h3⟩:=aKt lb la
 obtain⟨u,h4⟩:=SX a b ha a.length 0 (by omega)
 obtain⟨r,h5⟩:=aSE t u
 exact⟨r,Ev.bind h1 (Ev.bind h2 (gF h3 (Ev.bind h4 h5)))⟩
theorem aFW {α:Type} {P:Nat→α→Prop}: ∀l:List α,(∀a∈l,∃K,∀k,K≤k→P k a)→ ∃K,∀k,K≤k→ ∀a∈l,P k a
 |[],_=>⟨0,fun _ _ a h=>by cases h⟩
 |a::l,h=>by
  obtain⟨K,hK⟩:=aFW l (fun b hb=>h b (List.mem_cons_of_mem _ hb))
  obtain⟨K2,hK2⟩:=h a List.mem_cons_self
  refine⟨max K K2,fun k hk b hb=>?_⟩
  rcases List.mem_cons.1 hb with rfl|hb
  ·exact hK2 k (by omega)
  ·exact hK k (by omega) b hb
theorem a2m {ws:List ByteArray} (h:RZ ws=true) {sn:List (ByteArray×List ByteArray)} (hs:Seen ws sn) (hp:0<sn.length): ∃K,∀k,K≤k→aA.okA k sn=true:=by
 have hz: ∀e∈sn,yK e.2:=fun e he=>TN (M8 h) (hs.in_ e he).1
 obtain⟨K,hK⟩:=aFW (P:=fun k a=> ∀b∈sn,(aA.aFJ k a.2 b.2).isSome=true) sn (fun a ha=>aFW sn (fun b hb=>by
  have h1:=(hz a ha).len
  have h2:=(hz b hb).len
  obtain⟨r,K,hr⟩:=aSC a.2 b.2 (by omega) (by omega)
  exact⟨K,fun k hk=>(congrArg Option.isSome (hr k hk)).trans rfl⟩))
 refine⟨K,fun k hk=>?_⟩
 simp only [aA.okA,Bool.and_eq_true,decide_eq_true_eq,List.all_eq_true]
 exact⟨hp,fun a ha=>⟨KT (hz a ha) (hs.in_ a ha).2,fun b hb=>hK k hk a ha b hb⟩⟩
theorem bH3 {α:Type} {c:Nat→Prop} [∀k,Decidable (c k)] {a b:Nat→Option α} {r:α} (h: ∃K,∀k,K≤k→c k) (k:Ev a r):Ev (fun n=>if c n then a n else b n) r:=by
 obtain⟨K,h⟩:=h
 obtain⟨K2,k⟩:=k
 exact⟨max K K2,fun n hn=>(if_pos (h n (by omega))).trans (k n (by omega))⟩
theorem pos_eq (x:List ByteArray): ∀(l:List (List ByteArray)) (i:Nat),x∈l→aA.pos x l i=some (i+K9 x l)
 |[],_,h=>by cases h
 |y::ys,i,h=>by
  rw [aA.pos,K9]
  by_cases e:y=x
  ·rw [if_pos (by rw [e]),if_pos e]
   rfl
  ·rw [if_neg (fun h=>e (aA.map_inj h)),if_neg e,pos_eq x ys (i+1) ((List.mem_cons.1 h).resolve_left (Ne.symm e))]
   congr 1
   omega
theorem aYt {ws:List ByteArray} (h:RZ ws=true) {x:List ByteArray} (hx:x∈dJ ws): ∀(cs:List Int),(∀c∈cs,jB x c≠[])→ ∀es,Ev (fun k=>aA.oe k (dJ ws) x cs es) (es++cs.map (fun c=>(⟨c,(K9 (jB x c) (dJ ws):Int)⟩:Eg)))
 |[],_,es=>by
  rw [List.map_nil,List.append_nil]
  exact Ev.now es
 |c::cs,hc,es=>by
  have hok:=(nM h).2.2.2.1 x hx
  have hll:=hok.len
  have h1:=hc c List.mem_cons_self
  have h2:=OW h hx h1
  have h3:=aYt h hx cs (fun d hd=>hc d (List.mem_cons_of_mem _ hd)) (es++[(⟨wrap64 c,((0+K9 (jB x c) (dJ ws):Nat):Int)⟩:Eg)])
  have hl:=yA hok h1
  refine Ev.bind (aAN x c (by omega)) (aU (KT (aE9 hok c) h1) (gF (pos_eq _ _ 0 h2) (fH h3 ?_)))
  rw [List.append_assoc,w6,Nat.zero_add]
  rfl
theorem aYu {ws:List ByteArray} (h:RZ ws=true): ∀(l:List (List ByteArray)),(∀x∈l,x∈dJ ws∧x≠[])→ ∀out,Ev (fun k=>aA.os k (dJ ws) l out) (out++l.map (stL (dJ ws)))
 |[],_,out=>by
  rw [List.map_nil,List.append_nil]
  exact Ev.now out
 |x::l,hx,out=>by
  obtain⟨h1,h2⟩:=hx x List.mem_cons_self
  have hok:=(nM h).2.2.2.1 x h1
  have hll:=YT x
  have h3:=aYt h h1 (nH x) (fun c hc=>((lK x c).1 hc).2) []
  rw [List.nil_append] at h3
  have h4:=aYu h l (fun y hy=>hx y (List.mem_cons_of_mem _ hy)) (out++[(⟨(bP ByteArray.empty x 0).toList.isEmpty,CF (dJ ws) x⟩:St)])
  refine Ev.bind (YE hok) (eP (Ev.bind h3 (fH h4 ?_)))
  have e:stL (dJ ws) x=⟨(bP ByteArray.empty x 0).toList.isEmpty,CF (dJ ws) x⟩:=by
   unfold stL
   rw [decide_eq_true (List.length_pos_iff.2 h2),Bool.true_and]
  rw [List.map_cons,e,List.append_assoc]
  rfl
theorem aQ4:dJ []=[[]]:=aLc ⟨by simp,fun x=>by
 simp only [InS,SV,List.mem_singleton]
 exact⟨.inl,fun h=>h.elim id (fun⟨h1,_,h2⟩=>absurd h2 h1)⟩⟩
theorem aQw {ws:List ByteArray} (hne:ws≠[]) {x:List ByteArray} (h:InS ws x):x≠[]:=by
 rcases h with rfl|⟨h,_⟩
 ·exact hne
 ·exact h
theorem aU0 {l:List (List ByteArray)} (h:SE l):l.Pairwise (fun a b=>aA.le a b=true):=h.imp (fun {a b} h=>by
 unfold aA.le
 rw [a2i,J4 h]
 rfl)
theorem aQs (ws:List ByteArray) (hl:ws.length≤1048576) (he: ∀s∈ws,s.size≤1048576):Ev (fun k=>aA.f k ws) (moB ws):=by
 have hw:=aG2 ws 300 hl he
 change Ev _ (RZ ws)at hw
 unfold aA.f moB
 cases e:RZ ws with
 |false=>
  rw [e] at hw
  exact Ev.bind hw (bG (by simp) (Ev.now _))
 |true=>
  rw [e] at hw
  rw [if_pos rfl]
  by_cases c0:ws=[]
  ·subst c0
   rw [aQ4,if_neg (by simp)]
   refine Ev.bind hw (aU rfl (aU rfl (fH (Ev.now _) ?_)))
   have:nH []=[]:=List.eq_nil_iff_forall_not_mem.2 (fun c hc=>((lK [] c).1 hc).2 rfl)
   simp [stL,CF,this]
  ·obtain⟨sn,h1,h2,h3⟩:=aGQ e c0
   obtain⟨g0,g1,g2,g3,g4⟩:=nM e
   have hperm:(sn.map (·.2)).Perm (dJ ws):=(List.perm_ext_iff_of_nodup h2.nod g1.nodup).2 h3
   have hlen:sn.length=(dJ ws).length:=by rw [←hperm.length_eq,List.length_map]
   have hp:0<(dJ ws).length:=List.length_pos_iff.2 (fun e2=>by have:=(g2 ws).2 (.inl rfl);rw [e2] at this;cases this)
   have hsort:(sn.map (·.2)).mergeSort aA.le=dJ ws:=aA.Y5 ((List.mergeSort_perm _ _).trans hperm) (aA.TG _) (aU0 g1)
   refine Ev.bind hw (aU rfl (bG (fun h=>c0 (List.length_eq_zero_iff.1 (by omega))) (Ev.bind h1 ?_)))
   unfold aA.fin
   rw [hsort]
   by_cases c:(dJ ws).length>400
   ·rw [if_pos c]
    exact eP (eP (Ev.now _))
   ·rw [if_neg c]
    have h5:=aYu e (dJ ws) (fun x hx=>⟨hx,aQw c0 ((g2 x).1 hx)⟩) []
    rw [List.nil_append] at h5
    exact eP (eN (bH3 (a2m e h2 (by omega)) (Ev.bind h5 (Ev.now _))))
theorem M9 {m:List St} (hs: ∀s∈m,s.f1.length≤1048576) (i:Int):(aG m i).f1.length≤1048576:=by
 unfold aG
 rw [List.getD_eq_getElem?_getD]
 by_cases c:i.toNat<m.length
 ·rw [List.getElem?_eq_getElem c]
  exact hs _ (List.getElem_mem c)
 ·rw [List.getElem?_eq_none (by omega)]
  simp [z69]
theorem prev_next (es:List Eg) (k:Int) (h0:0≤k):GN es (k+1)=(bB es k).f0:=by
 unfold GN
 rw [if_neg (by omega),show k+1-1=k from by omega]
theorem VC {dp:List Int} {b:Int}: ∀{es:List Eg} {v:Int},-1≤v→v≤b→(∀e∈es,rd dp e.f1+1≤b)→ -1≤jI dp v es∧jI dp v es≤b:=by
 intro es
 induction es with
 |nil=>intro v h0 h1 _;exact⟨h0,h1⟩
 |cons e es ih=>
  intro v h0 h1 h
  have he:=h e List.mem_cons_self
  simp only [jI]
  refine ih ?_ ?_ (fun x hx=>h x (List.mem_cons_of_mem _ hx))<;>unfold mx<;>repeat' split
  all_goals omega
theorem MN {dp dq:List Int}: ∀{es:List Eg} {v:Int},(∀e∈es,rd dq e.f1=rd dp e.f1)→jI dq v es=jI dp v es:=by
 intro es
 induction es with
 |nil=>intro v _;rfl
 |cons e es ih=>
  intro v h
  simp only [jI]
  rw [h e List.mem_cons_self]
  exact ih (fun x hx=>h x (List.mem_cons_of_mem _ hx))
theorem aAh (m:List St) (hm:m.length≤400) (i:Nat) (hi:i<m.length) (hs:(aG m i).f1.length≤1048576) {r ends:Bool} (es:List Eg): ∀(pre:List Eg) (dp:List Int),(aG m i).f1=pre++es→dp.length=m.length→
  -1≤rd dp (i:Int)→rd dp (i:Int)≤400→(∀j:Nat,i<j→j<m.length→ -1≤rd dp j∧rd dp j+1≤400)→
  (pW m.length i (GN (aG m i).f1 pre.length) es=false→r=false)→
  (pW m.length i (GN (aG m i).f1 pre.length) es=true→Ev (fun n=>aJ.l0 n m (dp.set i (jI dp (rd dp (i:Int)) es)) ((i:Int)-1)) r)→
  Ev (fun n=>aJ.l1 n m dp (i:Int) (aG m i).f1 ((aG m i).f1.length:Int) (pre.length:Int) ends (aG m i).f1) r:=by
 induction es with
 |nil=>
  intro pre dp hp hl hv hv2 _ _ yes
  rw [List.append_nil] at hp
  refine Ev.step (fun n=>aJ.l1.eq_2 _ _ _ _ _ _ _ _ _) (bG (by rw [←hp];exact Int.lt_irrefl _) ?_)
  rw [w6]
  have e:dp.set i (rd dp (i:Int))=dp:=by
   refine List.ext_getElem (by simp) (fun j h1 h2=>?_)
   by_cases c:i=j
   ·subst c
    simp [rd,List.getD_eq_getElem?_getD,h2]
   ·simp [List.getElem_set_ne c]
  have next:=yes rfl
  simp only [jI] at next
  rw [e] at next
  exact next
 |cons x es ih=>
  intro pre dp hp hl hv hv2 hb no yes
  have hlen:(aG m i).f1.length=pre.length+(es.length+1):=by rw [hp];simp
  have hat:bB (aG m i).f1 (pre.length:Int)=x:=by
   simp [bB,hp,List.getD_eq_getElem?_getD]
  have hat' :bB (aG m i).f1 (pre.length:Int)=x:=hat
  have hp' :(aG m i).f1=(pre++[x])++es:=by rw [hp];simp
  have hpl:((pre++[x]).length:Int)=(pre.length:Int)+1:=by simp
  have hpn:GN (aG m i).f1 ((pre++[x]).length:Int)=x.f0:=by
   rw [hpl,prev_next _ _ (by omega),hat]
  have ihx (dq:List Int):=ih (pre++[x]) dq hp'
  rw [hpn] at ihx
  simp only [pW] at no yes
  refine Ev.step (fun n=>aJ.l1.eq_2 _ _ _ _ _ _ _ _ _) (eP (eP (eP ?_)))
  rw [hat']
  refine gF (yV _ _ _) ?_
  have stop:r=false→Ev (fun n=>aJ.j4 n m dp (i:Int) (aG m i).f1 ((aG m i).f1.length:Int) (pre.length:Int) true ends (aG m i).f1 x.f0 x.f1) r:=fun h=>Ev.step (fun n=>aJ.j4.eq_2 _ _ _ _ _ _ _ _ _ _ _ _) (aU rfl (fH (Ev.now _) h.symm))
  cases c1:(decide (97≤x.f0)&&decide (x.f0≤122))with
  |false=>
   rw [c1] at no
   exact bG (by simp) (stop (no (by simp)))
  |true=>
   rw [c1] at no yes
   refine aU rfl ?_
   rw [w6 (n:=(i:Int)+1),w6 (n:=(m.length:Int)-1)]
   have last:(decide (GN (aG m i).f1 (pre.length:Int)<x.f0))=true→Ev (fun n=>(iM.f x.f1 ((i:Int)+1) ((m.length:Int)-1)).bind fun t=>aJ.j4 n m dp (i:Int) (aG m i).f1 ((aG m i).f1.length:Int) (pre.length:Int) (!t) ends (aG m i).f1 x.f0 x.f1) r:=by
    intro c3
    rw [c3] at no yes
    refine gF (yV _ _ _) ?_
    cases c2:(decide ((i:Int)+1≤x.f1)&&decide (x.f1≤(m.length:Int)-1))with
    |false=>
     rw [c2] at no
     exact stop (no (by simp))
    |true=>
     rw [c2] at no yes
     simp only [Bool.true_and] at no yes
     simp only [Bool.and_eq_true,decide_eq_true_eq] at c2
     have hx:=hb x.f1.toNat (by omega) (by omega)
     rw [show((x.f1.toNat:Nat):Int)=x.f1 from by omega] at hx
     refine Ev.step (fun n=>aJ.j4.eq_2 _ _ _ _ _ _ _ _ _ _ _ _) (bG (by simp) (eP (eP ?_)))
     rw [w6 (n:=(pre.length:Int)+1),←hpl]
     by_cases c4:rd dp x.f1≥0
     ·rw [w6 (n:=rd dp x.f1+1)]
      have hmx:mx (rd dp (i:Int)) (rd dp x.f1+1)≤400∧ -1≤mx (rd dp (i:Int)) (rd dp x.f1+1):=by unfold mx;split<;>omega
      have hset:rd (dp.set (i:Int).toNat (mx (rd dp (i:Int)) (rd dp x.f1+1))) (i:Int)=mx (rd dp (i:Int)) (rd dp x.f1+1):=u6 dp (i:Int) _ (by omega) (by omega)
      refine aU c4 (eP (eP (ihx _ (by simpa using hl) (by rw [hset];omega) (by rw [hset];omega) (fun j h1 h2=>?_) no (fun ht=>?_))))
      ·have:=rJ dp (i:Int) (j:Int) (mx (rd dp (i:Int)) (rd dp x.f1+1)) (by omega) (by omega) (by omega)
       rw [this]
       exact hb j h1 h2
      ·have next:=yes ht
       simp only [jI] at next
       rw [if_pos c4] at next
       rw [hset,MN (dp:=dp) (fun e he=>?_),Int.toNat_natCast,List.set_set]
       ·exact next
       ·obtain⟨_,_,g3,g4,_⟩:=KJ ht e he
        exact rJ dp (i:Int) e.f1 _ (by omega) (by omega) (by omega)
     ·refine bG c4 (ihx dp hl hv hv2 hb no (fun ht=>?_))
      have next:=yes ht
      simp only [jI] at next
      rw [if_neg c4] at next
      exact next
   by_cases c3:(pre.length:Int)>0
   ·rw [w6 (n:=(pre.length:Int)-1)]
    have hpv:GN (aG m i).f1 (pre.length:Int)=(bB (aG m i).f1 ((pre.length:Int)-1)).f0:=by
     unfold GN
     rw [if_neg (by omega)]
    refine aU c3 (eP (eP ?_))
    by_cases c4:(bB (aG m i).f1 ((pre.length:Int)-1)).f0≥x.f0
    ·refine aU c4 (stop (no ?_))
     rw [hpv,decide_eq_false (show¬(bB (aG m i).f1 ((pre.length:Int)-1)).f0<x.f0 from by omega)]
     simp
    ·refine bG c4 (last ?_)
     rw [hpv]
     exact decide_eq_true (by omega)
   ·refine bG c3 (last ?_)
    simp only [Bool.and_eq_true,decide_eq_true_eq] at c1
    unfold GN
    rw [if_pos (by omega)]
    exact decide_eq_true (by omega)
theorem aC8 (m:List St) (hm:m.length≤400) (h1:1≤m.length) (hs: ∀s∈m,s.f1.length≤1048576) (i:Nat): ∀dp:List Int,i≤m.length→dp.length=m.length→
  (∀j:Nat,i≤j→j<m.length→ -1≤rd dp j∧rd dp j≤(m.length:Int)-j)→Ev (fun n=>aJ.l0 n m dp ((i:Int)-1)) (CO m i dp):=by
 induction i with
 |zero=>
  intro dp _ hl _
  exact Ev.step (fun n=>aJ.l0.eq_2 _ _ _ _) (eN (eP (Ev.now _)))
 |succ i ih=>
  intro dp hi hl hb
  have hz:=M9 hs (i:Int)
  refine Ev.step (fun n=>aJ.l0.eq_2 _ _ _ _) ?_
  rw [show(((i+1:Nat):Int)-1)=(i:Int)from by omega]
  refine eP (eP (eP ?_))
  have main:(decide ((i:Int)=0)||(aG m i).f0|| !(aG m i).f1.isEmpty)=true→Ev (fun n=>aJ.j1 n m dp (i:Int) false (aG m i).f0 (aG m i).f1) (CO m (i+1) dp):=by
   intro hc
   have hst:VE m i=pW m.length i 0 (aG m i).f1:=by
    unfold VE
    rw [hc,Bool.and_true]
   have run (v:Int) (hv0: -1≤v) (hv1:v≤0) (hv:v=if(aG m i).f0=true then 0 else-1):Ev (fun n=>aJ.l1 n m (dp.set i v) (i:Int) (aG m i).f1 ((aG m i).f1.length:Int) 0 (aG m i).f0 (aG m i).f1) (CO m (i+1) dp):=by
    have hset:rd (dp.set i v) (i:Int)=v:=by
     have:=u6 dp (i:Int) v (by omega) (by omega)
     simpa using this
    have hne (j:Int) (h0:0≤j) (hj:(i:Int)≠j):rd (dp.set i v) j=rd dp j:=by
     have:=rJ dp (i:Int) j v (by omega) h0 hj
     simpa using this
    refine aAh m hm i (by omega) hz (aG m i).f1 [] (dp.set i v) rfl (by simpa using hl) (by rw [hset];omega) (by rw [hset];omega) (fun j q1 q2=>?_) (fun hf=>?_) (fun ht=>?_)
    ·rw [hne j (by omega) (by omega)]
     have:=hb j (by omega) q2
     omega
    ·have hf' :pW m.length i 0 (aG m i).f1=false:=hf
     simp only [CO]
     rw [hst,hf',Bool.false_and]
    ·have ht' :pW m.length i 0 (aG m i).f1=true:=ht
     have hto (e:Eg) (he:e∈(aG m i).f1):(i:Int)<e.f1∧e.f1<m.length:=by
      obtain⟨_,_,g3,g4,_⟩:=KJ ht' e he
      omega
     simp only [CO]
     rw [hst,ht',Bool.true_and,hset,List.set_set,MN (dp:=dp) (fun e he=>hne e.f1 (by have:=hto e he;omega) (by have:=hto e he;omega)),←hv]
     have hfb:=VC (dp:=dp) (b:=(m.length:Int)-i) (es:=(aG m i).f1) (v:=v) (by omega) (by omega) (fun e he=>by
      have q:=hto e he
      have:=hb e.f1.toNat (by omega) (by omega)
      rw [show((e.f1.toNat:Nat):Int)=e.f1 from by omega] at this
      omega)
     refine ih _ (by omega) (by simpa using hl) (fun j q1 q2=>?_)
     by_cases c:j=i
     ·subst c
      have:=u6 dp (j:Int) (jI dp v (aG m j).f1) (by omega) (by omega)
      rw [show(dp.set j (jI dp v (aG m j).f1))=(dp.set (j:Int).toNat (jI dp v (aG m j).f1))from by simp,this]
      exact hfb
     ·have:=rJ dp (i:Int) (j:Int) (jI dp v (aG m i).f1) (by omega) (by omega) (by omega)
      rw [show(dp.set i (jI dp v (aG m i).f1))=(dp.set (i:Int).toNat (jI dp v (aG m i).f1))from by simp,this]
      exact hb j (by omega) q2
   refine Ev.step (fun n=>aJ.j1.eq_2 _ _ _ _ _ _ _) (bG (by simp) (eP (eP (gF rfl ?_))))
   rw [Int.toNat_natCast]
   by_cases ce:(aG m i).f0=true
   ·refine aU ce (Ev.step (fun n=>aJ.j2.eq_2 _ _ _ _ _ _) ?_)
    rw [List.set_set]
    exact run 0 (by omega) (by omega) (by rw [if_pos ce])
   ·exact bG ce (Ev.step (fun n=>aJ.j2.eq_2 _ _ _ _ _ _) (run (-1) (by omega) (by omega) (by rw [if_neg ce])))
  by_cases c:(i:Int)>0
  ·refine aU c ?_
   by_cases ce:(aG m i).f0=true
   ·exact aU ce (main (by simp [ce]))
   ·refine bG ce ?_
    by_cases cn:(aG m i).f1=[]
    ·have e1:((((aG m (i:Int)).f1).length:Int)==0)=true:=by
      have:(aG m (i:Int)).f1=[]:=cn
      rw [this]
      rfl
     rw [e1]
     refine Ev.step (fun n=>aJ.j1.eq_2 _ _ _ _ _ _ _) (aU rfl (fH (Ev.now _) ?_))
     have hf:VE m i=false:=by
      have c' : ¬i=0:=by omega
      simp [VE,ce,cn,c']
     simp [CO,hf]
    ·have hne:((aG m i).f1.length:Int)≠0:=fun h=>cn (List.length_eq_zero_iff.1 (by omega))
     have e1:((((aG m (i:Int)).f1).length:Int)==0)=false:=beq_eq_false_iff_ne.2 hne
     rw [e1]
     exact main (by simp [cn])
  ·exact bG c (main (by simp;omega))
theorem JW (m:List St) (hm:m.length≤1048576) (hs: ∀s∈m,s.f1.length≤1048576):Ev (fun n=>aJ.f n m) (vJ m):=by
 unfold aJ.f
 refine gF (yV _ _ _) ?_
 by_cases c:(1≤(m.length:Int)∧(m.length:Int)≤400)
 ·refine aU (by simp;omega) (eP (eP ?_))
  rw [w6]
  refine fH (aC8 m (by omega) (by omega) hs m.length _ (Nat.le_refl _) (by simp) (fun j h1 h2=>absurd h2 (by omega))) ?_
  rw [aKO m (by omega)]
  simp only [vJ]
  rw [decide_eq_true (show 1≤m.length from by omega),decide_eq_true (show m.length≤400 from by omega)]
  simp
 ·refine bG (by simp;omega) (fH (Ev.now _) ?_)
  cases e:vJ m with
  |false=>rfl
  |true=>
   simp only [vJ,Bool.and_eq_true,decide_eq_true_eq] at e
   omega
theorem aJO {m:List St} {n:Nat} (hok:xM m m.length=true) (i:Nat) (hi:i<m.length): ∀e∈(aG m i).f1,(i:Int)<e.f1∧e.f1<m.length:=by
 intro e he
 have h:=aMx hok i hi
 simp only [VE,Bool.and_eq_true] at h
 obtain⟨_,_,g3,g4,_⟩:=KJ h.1 e he
 omega
theorem GJ {m:List St} (h:vJ m=true):1≤m.length∧m.length≤400∧xM m m.length=true:=by
 simp only [vJ,Bool.and_eq_true,decide_eq_true_eq] at h
 exact⟨h.1.1.1,h.1.1.2,h.1.2⟩
def ES (c:Int):List Eg→Int
 |[]=> -1
 |e::es=>if e.f0=c then e.f1 else ES c es
theorem aGg {c a b:Int}: ∀{es:List Eg},(∀e∈es,a<e.f1∧e.f1<b)→ES c es= -1∨(a<ES c es∧ES c es<b):=by
 intro es
 induction es with
 |nil=>intro _;exact .inl rfl
 |cons e es ih=>
  intro h
  simp only [ES]
  by_cases g:e.f0=c
  ·rw [if_pos g];exact .inr (h e List.mem_cons_self)
  ·rw [if_neg g];exact ih (fun x hx=>h x (List.mem_cons_of_mem _ hx))
def uN (m:List St) (w:ByteArray):Nat→Nat→Int→Int
 |0,_,a=>a
 |d+1,i,a=>if ES (wrap64 (bt w i)) (aG m a).f1<0 then-1 else uN m w d (i+1) (ES (wrap64 (bt w i)) (aG m a).f1)
def ML (m:List St) (w:ByteArray):Bool:=vJ m&&(decide (0≤uN m w w.size 0 0)&&(aG m (uN m w w.size 0 0)).f0)
def oC (dp:List Int):Int→List Eg→Int
 |v,[]=>v
 |v,e::es=>oC dp (mn (v+rd dp e.f1) 1000000000) es
def MG (m:List St):Nat→List Int→List Int
 |0,dp=>dp
 |i+1,dp=>MG m i (dp.set i (oC dp (if(aG m i).f0=true then 1 else rd dp i) (aG m i).f1))
def ZY (m:List St):List Int:=MG m m.length (List.replicate m.length 0)
abbrev X3 (dp:List Int):Prop:= ∀j:Int,0≤rd dp j∧rd dp j≤1000000000
theorem aGB (a b:Int):mn a b=min a b:=by
 unfold mn
 split<;>omega
theorem JH {dp:List Int} (h:X3 dp) (i:Nat) (v:Int) (h0:0≤v) (h1:v≤1000000000):X3 (dp.set i v):=by
 intro j
 have hj:=h j
 unfold rd at hj⊢
 rw [List.getD_eq_getElem?_getD] at hj⊢
 by_cases c:i=j.toNat
 ·by_cases cl:i<dp.length
  ·rw [←c]
   simp [cl]
   omega
  ·rw [List.getElem?_eq_none (by simp;omega)]
   simp
 ·rw [List.getElem?_set_ne c]
  exact hj
theorem zU {dp dq:List Int}: ∀{es:List Eg} {v:Int},(∀e∈es,rd dq e.f1=rd dp e.f1)→oC dq v es=oC dp v es:=by
 intro es
 induction es with
 |nil=>intro v _;rfl
 |cons e es ih=>
  intro v h
  simp only [oC]
  rw [h e List.mem_cons_self]
  exact ih (fun x hx=>h x (List.mem_cons_of_mem _ hx))
theorem CE {dp:List Int} (hb:X3 dp): ∀{es:List Eg} {v:Int},0≤v→v≤1000000000→0≤oC dp v es∧oC dp v es≤1000000000:=by
 intro es
 induction es with
 |nil=>intro v h0 h1;exact⟨h0,h1⟩
 |cons e es ih=>
  intro v h0 h1
  have he:=hb e.f1
  simp only [oC]
  rw [aGB]
  exact ih (by omega) (by omega)
theorem aQ2 (dp:List Int) (i:Nat):dp.set i (rd dp (i:Int))=dp:=by
 refine List.ext_getElem (by simp) (fun j h1 h2=>?_)
 by_cases c:i=j
 ·subst c
  simp [rd,List.getD_eq_getElem?_getD,h2]
 ·simp [List.getElem_set_ne c]
theorem JJ (m:List St) (hm:m.length≤400) (i:Nat) (hi:i<m.length) (hs:(aG m i).f1.length≤1048576) (hto: ∀e∈(aG m i).f1,(i:Int)<e.f1∧e.f1<m.length) {r:List Int} (es:List Eg):
  ∀(pre:List Eg) (dp:List Int),(aG m i).f1=pre++es→dp.length=m.length→X3 dp→Ev (fun n=>dB.l0 n m (dp.set i (oC dp (rd dp (i:Int)) es)) ((i:Int)-1)) r→Ev (fun n=>dB.l1 n m dp (i:Int) (aG m i).f1 ((aG m i).f1.length:Int) (pre.length:Int)) r:=by
 induction es with
 |nil=>
  intro pre dp hp hl _ next
  rw [List.append_nil] at hp
  refine Ev.step (fun n=>dB.l1.eq_2 _ _ _ _ _ _ _) (bG (by rw [←hp];exact Int.lt_irrefl _) ?_)
  rw [w6]
  simp only [oC] at next
  rw [aQ2] at next
  exact next
 |cons x es ih=>
  intro pre dp hp hl hb next
  have hlen:(aG m i).f1.length=pre.length+(es.length+1):=by rw [hp];simp
  have hat:bB (aG m i).f1 (pre.length:Int)=x:=by simp [bB,hp,List.getD_eq_getElem?_getD]
  have hp' :(aG m i).f1=(pre++[x])++es:=by rw [hp];simp
  have hpl:((pre++[x]).length:Int)=(pre.length:Int)+1:=by simp
  have hx:=hto x (by rw [hp];simp)
  have hv:=hb (i:Int)
  have hw:=hb x.f1
  refine Ev.step (fun n=>dB.l1.eq_2 _ _ _ _ _ _ _) (eP (eP (eP (eP (eP ?_)))))
  rw [hat]
  refine eP (eP ?_)
  rw [w6 (n:=rd dp (i:Int)+rd dp x.f1),w6 (n:=(pre.length:Int)+1),←hpl]
  have hmn:0≤mn (rd dp (i:Int)+rd dp x.f1) 1000000000∧mn (rd dp (i:Int)+rd dp x.f1) 1000000000≤1000000000:=by rw [aGB];omega
  have hset:rd (dp.set i (mn (rd dp (i:Int)+rd dp x.f1) 1000000000)) (i:Int)=mn (rd dp (i:Int)+rd dp x.f1) 1000000000:=by
   have:=u6 dp (i:Int) (mn (rd dp (i:Int)+rd dp x.f1) 1000000000) (by omega) (by omega)
   simpa using this
  refine ih (pre++[x]) _ hp' (by simpa using hl) (JH hb _ _ (by omega) (by omega)) ?_
  rw [Int.toNat_natCast,hset,List.set_set,zU (dp:=dp) (fun e he=>?_)]
  ·exact next
  ·have:=hto e (by rw [hp];simp [he])
   have:=rJ dp (i:Int) e.f1 (mn (rd dp (i:Int)+rd dp x.f1) 1000000000) (by omega) (by omega) (by omega)
   simpa using this
theorem aKv (m:List St): ∀(i:Nat) (dp:List Int),(MG m i dp).length=dp.length:=by
 intro i
 induction i with
 |zero=>intro dp;rfl
 |succ i ih=>intro dp;simp only [MG];rw [ih];simp
theorem aNq {m:List St} {i:Nat} {dp:List Int} (hl:dp.length=m.length) (hi:i<m.length) (hto: ∀e∈(aG m i).f1,(i:Int)<e.f1∧e.f1<m.length):(dp.set i 1).set i (oC (dp.set i 1) (rd (dp.set i 1) (i:Int)) (aG m i).f1)=dp.set i (oC dp 1 (aG m i).f1):=by
 have hset:rd (dp.set i 1) (i:Int)=1:=by
  have:=u6 dp (i:Int) 1 (by omega) (by omega)
  simpa using this
 rw [hset,List.set_set,zU (dp:=dp) (fun e he=>?_)]
 have:=hto e he
 have:=rJ dp (i:Int) e.f1 1 (by omega) (by omega) (by omega)
 simpa using this
theorem ZX (m:List St) (hm:m.length≤400) (hs: ∀s∈m,s.f1.length≤1048576) (hok:xM m m.length=true) (i:Nat): ∀dp:List Int,i≤m.length→dp.length=m.length→X3 dp→Ev (fun n=>dB.l0 n m dp ((i:Int)-1)) (MG m i dp):=by
 induction i with
 |zero=>
  intro dp _ _ _
  exact Ev.step (fun n=>dB.l0.eq_2 _ _ _ _) (eN (Ev.now _))
 |succ i ih=>
  intro dp hi hl hb
  have hto:=aJO (n:=0) hok i (by omega)
  have hz:=M9 hs (i:Int)
  refine Ev.step (fun n=>dB.l0.eq_2 _ _ _ _) ?_
  rw [show(((i+1:Nat):Int)-1)=(i:Int)from by omega]
  refine eP (eP (eP ?_))
  simp only [MG]
  by_cases c:(aG m i).f0=true
  ·refine aU c (eP (Ev.step (fun n=>dB.j1.eq_2 _ _ _ _) (eP (eP ?_))))
   rw [Int.toNat_natCast,if_pos c]
   refine JJ m hm i (by omega) hz hto (aG m i).f1 [] (dp.set i 1) rfl (by simpa using hl) (JH hb _ _ (by omega) (by omega)) ?_
   rw [aNq hl (by omega) hto]
   have hf:=CE hb (es:=(aG m i).f1) (v:=1) (by omega) (by omega)
   exact ih _ (by omega) (by simpa using hl) (JH hb _ _ hf.1 hf.2)
  ·refine bG c (Ev.step (fun n=>dB.j1.eq_2 _ _ _ _) (eP (eP ?_)))
   rw [if_neg c]
   have hf:=CE hb (es:=(aG m i).f1) (v:=rd dp (i:Int)) (hb _).1 (hb _).2
   exact JJ m hm i (by omega) hz hto (aG m i).f1 [] dp rfl hl hb (ih _ (by omega) (by simpa using hl) (JH hb _ _ hf.1 hf.2))
theorem aAV (n:Nat):X3 (List.replicate n 0):=by
 intro j
 unfold rd
 rw [List.getD_eq_getElem?_getD,List.getElem?_replicate]
 split<;>simp
theorem aNr (m:List St):(ZY m).length=m.length:=by
 unfold ZY
 rw [aKv]
 simp
theorem aEj (m:List St) (hs: ∀s∈m,s.f1.length≤1048576) (hok:vJ m=true):Ev (fun n=>dB.f n m) (ZY m):=by
 obtain⟨h1,h2,h3⟩:=GJ hok
 unfold dB.f
 refine eP (eP ?_)
 rw [w6]
 exact ZX m h2 hs h3 m.length _ (Nat.le_refl _) (by simp) (aAV _)
theorem aEd (m:List St) (hok:xM m m.length=true): ∀(i:Nat) (dp:List Int),i≤m.length→dp.length=m.length→X3 dp→(∀j:Nat,j<i→rd dp j=0)→
  (∀j:Nat,i≤j→j<m.length→rd dp j=oC dp (if(aG m j).f0=true then 1 else 0) (aG m j).f1)→
  X3 (MG m i dp)∧ ∀j:Nat,j<m.length→rd (MG m i dp) j=oC (MG m i dp) (if(aG m j).f0=true then 1 else 0) (aG m j).f1:=by
 intro i
 induction i with
 |zero=>intro dp _ _ hb _ h;exact⟨hb,fun j hj=>h j (by omega) hj⟩
 |succ i ih=>
  intro dp hi hl hb hz h
  have hz0:rd dp (i:Int)=0:=hz i (by omega)
  have hto:=aJO (n:=0) hok i (by omega)
  have hne (v:Int) (j:Int) (h0:0≤j) (hj:(i:Int)≠j):rd (dp.set i v) j=rd dp j:=by
   have:=rJ dp (i:Int) j v (by omega) h0 hj
   simpa using this
  have heq (v:Int):rd (dp.set i v) (i:Int)=v:=by
   have:=u6 dp (i:Int) v (by omega) (by omega)
   simpa using this
  simp only [MG]
  rw [hz0]
  have hv:0≤oC dp (if(aG m i).f0=true then 1 else 0) (aG m i).f1∧oC dp (if(aG m i).f0=true then 1 else 0) (aG m i).f1≤1000000000:=by
   refine CE hb ?_ ?_<;>split<;>omega
  refine ih _ (by omega) (by simpa using hl) (JH hb _ _ hv.1 hv.2) (fun j hj=>?_) (fun j h1 h2=>?_)
  ·rw [hne _ j (by omega) (by omega)]
   exact hz j (by omega)
  ·by_cases c:j=i
   ·subst c
    rw [heq,zU (dp:=dp) (fun e he=>hne _ e.f1 (by have:=hto e he;omega) (by have:=hto e he;omega))]
   ·have bAL:=aJO (n:=0) hok j h2
    rw [hne _ j (by omega) (by omega),h j (by omega) h2,zU (dp:=dp) (fun e he=>hne _ e.f1 (by have:=bAL e he;omega) (by have:=bAL e he;omega))]
theorem aFK (m:List St) (hok:xM m m.length=true):X3 (ZY m)∧ ∀j:Nat,j<m.length→rd (ZY m) j=oC (ZY m) (if(aG m j).f0=true then 1 else 0) (aG m j).f1:=
 aEd m hok m.length _ (Nat.le_refl _) (by simp) (aAV _) (fun j hj=>GR _ _ _ (by omega) (by omega)) (fun j h1 h2=>absurd h2 (by omega))
def Y8 (cs:List Int):List Eg→Int
 |[]=>0
 |e::es=>rd cs e.f1+Y8 cs es
theorem aFd {cs:List Int} (hb:X3 cs): ∀es:List Eg,0≤Y8 cs es:=by
 intro es
 induction es with
 |nil=>exact Int.le_refl _
 |cons e es ih=>
  have:=hb e.f1
  simp only [Y8]
  omega
def aBz (m:List St):List Int→Int→Bool
 |[],a=>(aG m a).f0
 |c::w,a=>decide (0≤ES c (aG m a).f1)&&aBz m w (ES c (aG m a).f1)
theorem aLq (m:List St) (w:ByteArray) (d:Nat): ∀(i:Nat) (a:Int),i+d=w.size→0≤a→(decide (0≤uN m w d i a)&&(aG m (uN m w d i a)).f0)=aBz m ((bytesOf w).drop i) a:=by
 induction d with
 |zero=>
  intro i a hi ha
  rw [List.drop_eq_nil_of_le (by rw [bR];omega),show uN m w 0 i a=a from rfl,decide_eq_true ha]
  simp [aBz]
 |succ d ih=>
  intro i a hi ha
  have hd:=pK w (i:Int) (by omega) (by omega)
  rw [Int.toNat_natCast,show((i:Int)+1).toNat=i+1 from by omega] at hd
  have hbt:wrap64 (bt w i)=bt w i:=by
   have:=bt0 w i
   have:=bt1 w i
   exact w6
  rw [hd]
  simp only [aBz]
  by_cases c:ES (bt w i) (aG m a).f1<0
  ·have e:uN m w (d+1) i a= -1:=by
    simp only [uN]
    rw [hbt,if_pos c]
   rw [e,decide_eq_false (show¬(0≤ES (bt w i) (aG m a).f1)from by omega)]
   rfl
  ·have e:uN m w (d+1) i a=uN m w d (i+1) (ES (bt w i) (aG m a).f1):=by
    simp only [uN]
    rw [hbt,if_neg c]
   rw [e,decide_eq_true (show 0≤ES (bt w i) (aG m a).f1 from by omega),Bool.true_and]
   exact ih (i+1) _ (by omega) (by omega)
theorem aKM {m:List St} (h:vJ m=true) (w:ByteArray):ML m w=aBz m (bytesOf w) 0:=by
 have:=aLq m w w.size 0 0 (by omega) (by omega)
 rw [List.drop_zero] at this
 unfold ML
 rw [h,Bool.true_and]
 exact this
def aC4 (m:List St):Int:=if vJ m=true then rd (ZY m) 0 else 0
theorem aGu {b:Int}: ∀{x:List ByteArray} {v:Int},v≤b→(∀s∈x,(s.size:Int)≤b)→tL v x≤b
 |[],v,hv,_=>hv
 |s::x,v,hv,h=>aGu (x:=x) (v:=max v (s.size:Int)) (by have:=h s List.mem_cons_self;omega) (fun t ht=>h t (List.mem_cons_of_mem _ ht))
theorem aQq: ∀{x:List ByteArray} {v:Int},v≤tL v x
 |[],v=>Int.le_refl _
 |s::x,v=>Int.le_trans (show v≤max v (s.size:Int) by omega) (aQq (x:=x))
theorem aGt: ∀{x:List ByteArray} {v:Int} {s:ByteArray},s∈x→(s.size:Int)≤tL v x
 |t::x,v,s,h=>by
  rcases List.mem_cons.1 h with rfl|h
  ·exact Int.le_trans (show(s.size:Int)≤max v (s.size:Int) by omega) (aQq (x:=x))
  ·exact aGt (x:=x) h
theorem YU {x:List ByteArray} {c:Int} (h:jB x c≠[]):tL 0 (jB x c)<tL 0 x:=by
 obtain⟨s,hs,hz,_⟩:=yF.1 h
 have h1:=aGt (v:=0) hs
 have:tL 0 (jB x c)≤tL 0 x-1:=aGu (by omega) (fun t ht=>by
  obtain⟨u,hu,hb⟩:=CQ.1 ht
  have h2:=aGt (v:=0) hu
  have h3:=congrArg List.length hb
  rw [bR,List.length_cons,bR] at h3
  omega)
 omega
theorem aA8: ∀(p:List Int) (x:List ByteArray),pU x p≠[]→tL 0 (pU x p)≤tL 0 x∧(p≠[]→tL 0 (pU x p)<tL 0 x)
 |[],x,_=>⟨Int.le_refl _,fun h=>absurd rfl h⟩
 |c::p,x,h=>by
  have hc:jB x c≠[]:=fun e=>h (by show pU (jB x c) p=[];rw [e];exact SV p)
  have h1:=aA8 p (jB x c) h
  have h2:=YU hc
  have h3:tL 0 (pU x (c::p))≤tL 0 (jB x c):=h1.1
  exact⟨by omega,fun _=>by omega⟩
theorem aA9 {x y:List ByteArray} (h:tL 0 y<tL 0 x):uJ x y=true:=by
 unfold uJ
 rw [if_neg (by omega),decide_eq_true h]
theorem aFb {A:List (List ByteArray)} (hs:SE A) {i j:Nat} (hi:i<A.length) (hj:j<A.length) (h:uJ A[i] A[j]=true):i<j:=by
 rcases Nat.lt_trichotomy i j with h1|h1|h1
 ·exact h1
 ·subst h1
  rw [AZ] at h
  cases h
 ·have:=List.pairwise_iff_getElem.1 hs j i hj hi h1
  rw [J4 this] at h
  cases h
noncomputable def K7 (ws:List ByteArray):List St:=(dJ ws).map (stL (dJ ws))
theorem KL {ws:List ByteArray} (h:RZ ws=true): ∃hp:0<(dJ ws).length,(dJ ws)[0]=ws:=by
 obtain⟨_,g1,g2,_,_⟩:=nM h
 have hw:=(g2 ws).2 (.inl rfl)
 obtain⟨j,hj,e⟩:=List.mem_iff_getElem.1 hw
 have hp:0<(dJ ws).length:=by omega
 refine⟨hp,?_⟩
 rcases(g2 _).1 (List.getElem_mem hp)with e0|⟨hne,p,e0⟩
 ·exact e0
 ·by_cases c:p=[]
  ·rw [e0,c]
   rfl
  ·have h1:=aA9 ((aA8 p ws (e0▸hne)).2 c)
   rw [←e0] at h1
   have:=aFb g1 hj hp (by rw [e];exact h1)
   omega
theorem YW (ws:List ByteArray) (i:Nat) (hi:i<(dJ ws).length):aG (K7 ws) (i:Int)=stL (dJ ws) (dJ ws)[i]:=by
 simp [aG,K7,List.getD_eq_getElem?_getD,hi]
theorem aEm {n i:Int} (f:Int→Int): ∀{cs:List Int} {p:Int},cs.Pairwise (· < ·)→(∀c∈cs,p<c∧97≤c∧c≤122∧i+1≤f c∧f c≤n-1)→pW n i p (cs.map (fun c=>(⟨c,f c⟩:Eg)))=true
 |[],p,_,_=>rfl
 |c::cs,p,hp,h=>by
  obtain⟨h1,h2⟩:=List.pairwise_cons.1 hp
  obtain⟨g1,g2,g3,g4,g5⟩:=h c List.mem_cons_self
  have:=aEm (n:=n) (i:=i) f (p:=c) h2 (fun d hd=>⟨h1 d hd,(h d (List.mem_cons_of_mem _ hd)).2⟩)
  simp [pW,g1,g2,g3,g4,g5,this]
theorem TJ {ws:List ByteArray} (h:RZ ws=true) (i:Nat) (hi:i<(dJ ws).length) {c:Int} (hc:jB (dJ ws)[i] c≠[]):i<K9 (jB (dJ ws)[i] c) (dJ ws)∧K9 (jB (dJ ws)[i] c) (dJ ws)<(dJ ws).length:=by
 obtain⟨_,g1,_,_,_⟩:=nM h
 obtain⟨h1,h2⟩:=Q8 (OW h (List.getElem_mem hi) hc)
 obtain⟨_,h3⟩:=List.getElem?_eq_some_iff.1 h2
 exact⟨aFb g1 hi h1 (by rw [h3];exact aA9 (YU hc)),h1⟩
theorem MX {A:List (List ByteArray)} {x:List ByteArray} (h:yK x):(stL A x).f0=true↔ ∃s∈x,bytesOf s=[]:=by
 have hz: ∀s:ByteArray,s.toList.isEmpty=true↔bytesOf s=[]:=fun s=>by
  rw [List.isEmpty_iff,Lib.toList_data,bytesOf,List.map_eq_nil_iff]
 show(decide (0<x.length)&&(bP ByteArray.empty x 0).toList.isEmpty)=true↔_
 rw [Bool.and_eq_true,decide_eq_true_eq,hz]
 constructor
 ·rintro⟨h1,h2⟩
  refine⟨x[0],List.getElem_mem h1,?_⟩
  rw [←h2]
  congr 1
  exact(qX x 0 h1).symm
 ·rintro⟨s,hs,hb⟩
  obtain⟨j,hj,rfl⟩:=List.mem_iff_getElem.1 hs
  have hp:0<x.length:=by omega
  refine⟨hp,?_⟩
  rw [show(0:Int)=((0:Nat):Int)from rfl,qX x 0 hp]
  rcases Nat.eq_zero_or_pos j with rfl|h0
  ·exact hb
  ·have:=List.pairwise_iff_getElem.1 h.asc 0 j hp hj h0
   unfold UO at this
   rw [JV,hb] at this
   cases hq:bytesOf x[0] with
   |nil=>rfl
   |cons a l=>rw [hq] at this;simp [lexB] at this
theorem aH7 {ws:List ByteArray} (h:RZ ws=true): ∀(i:Nat) (dp:List Int),i≤(dJ ws).length→dp.length=(dJ ws).length→(∀j:Nat,j<i→rd dp j=0)→(∀j (hj:j<(dJ ws).length),i≤j→0≤rd dp j∧rd dp j≤tL 0 (dJ ws)[j])→
  ∀j (hj:j<(dJ ws).length),rd (JK (K7 ws) i dp) j≤tL 0 (dJ ws)[j]
 |0,dp,_,_,_,h2=>fun j hj=>(h2 j hj (Nat.zero_le _)).2
 |i+1,dp,hi,hl,h1,h2=>by
  have hi' :i<(dJ ws).length:=by omega
  have hb:=H8 (dp:=dp) (b:=tL 0 (dJ ws)[i]) (es:=(aG (K7 ws) (i:Int)).f1) (v:=rd dp i) (by rw [h1 i (by omega)];omega) (by rw [h1 i (by omega)];exact aQq) (fun e he=>by
   rw [YW ws i hi'] at he
   obtain⟨c,hc,rfl⟩:=List.mem_map.1 he
   have hc:=((lK _ c).1 hc).2
   obtain⟨p1,p2⟩:=TJ h i hi' hc
   have h3:=h2 _ p2 (by omega)
   obtain⟨_,h4⟩:=List.getElem?_eq_some_iff.1 (Q8 (OW h (List.getElem_mem hi') hc)).2
   rw [h4] at h3
   have h5:=YU hc
   show 0≤rd dp (K9 (jB (dJ ws)[i] c) (dJ ws):Int)∧rd dp (K9 (jB (dJ ws)[i] c) (dJ ws):Int)+1≤_
   exact⟨h3.1,by omega⟩)
  refine aH7 h i _ (by omega) (by simpa using hl) (fun j hj=>?_) (fun j hj hij=>?_)
  ·have:=rJ dp (i:Int) (j:Int) (kR dp (rd dp i) (aG (K7 ws) (i:Int)).f1) (by omega) (by omega) (by omega)
   rw [Int.toNat_natCast] at this
   rw [this]
   exact h1 j (by omega)
  ·by_cases e:j=i
   ·subst e
    have:=u6 dp (j:Int) (kR dp (rd dp j) (aG (K7 ws) (j:Int)).f1) (by omega) (by omega)
    rw [Int.toNat_natCast] at this
    rw [this]
    exact hb
   ·have:=rJ dp (i:Int) (j:Int) (kR dp (rd dp i) (aG (K7 ws) (i:Int)).f1) (by omega) (by omega) (by omega)
    rw [Int.toNat_natCast] at this
    rw [this]
    exact h2 j hj (by omega)
theorem aC7 {ws:List ByteArray} (h:RZ ws=true) (i:Nat) (hi:i<(dJ ws).length) (h0:i≠0):(dJ ws)[i]≠[]:=by
 obtain⟨_,g1,g2,_,_⟩:=nM h
 rcases(g2 _).1 (List.getElem_mem hi)with e|⟨hne,_⟩
 ·exfalso
  obtain⟨hp,e0⟩:=KL h
  have h1:=List.pairwise_iff_getElem.1 g1 0 i hp hi (by omega)
  rw [e,e0,AZ] at h1
  cases h1
 ·exact hne
theorem aBa {ws:List ByteArray} (h:RZ ws=true):xM (K7 ws) (K7 ws).length=true:=by
 have hl:(K7 ws).length=(dJ ws).length:=List.length_map _
 refine aMy (fun i hi=>?_)
 rw [hl] at hi
 have hok:=(nM h).2.2.2.1 _ (List.getElem_mem hi)
 unfold VE
 rw [YW ws i hi,Bool.and_eq_true]
 refine⟨aEm (fun c=>(K9 (jB (dJ ws)[i] c) (dJ ws):Int)) (EA _) (fun c hc=>?_),?_⟩
 ·obtain⟨h1,h2⟩:=(lK _ c).1 hc
  obtain⟨p1,p2⟩:=TJ h i hi h2
  rw [hl]
  exact⟨by omega,h1.1,h1.2,by omega,by omega⟩
 ·by_cases h0:i=0
  ·subst h0
   simp
  ·obtain⟨s,hs⟩:=List.exists_mem_of_ne_nil _ (aC7 h i hi h0)
   by_cases hz:0<s.size
   ·have hc:bt s 0∈nH (dJ ws)[i]:=(lK _ _).2 ⟨yA hok (yF.2 ⟨s,hs,hz,rfl⟩),yF.2 ⟨s,hs,hz,rfl⟩⟩
    have:(stL (dJ ws) (dJ ws)[i]).f1.isEmpty=false:=by
     rw [Bool.eq_false_iff,Ne,List.isEmpty_iff]
     intro e
     have e2:=List.map_eq_nil_iff.1 e
     rw [e2] at hc
     cases hc
    rw [this]
    simp
   ·have:(stL (dJ ws) (dJ ws)[i]).f0=true:=(MX hok).2 ⟨s,hs,List.length_eq_zero_iff.1 (by rw [bR];omega)⟩
    rw [this]
    simp
theorem aGx {ws:List ByteArray} (h:RZ ws=true) (hA:(dJ ws).length≤400):vJ (K7 ws)=true:=by
 have hl:(K7 ws).length=(dJ ws).length:=List.length_map _
 obtain⟨hp,e0⟩:=KL h
 unfold vJ
 have hd:=aH7 h (dJ ws).length (List.replicate (dJ ws).length 0) (Nat.le_refl _) (by simp) (fun j hj=>GR _ _ _ (by omega) (by omega)) (fun j hj hij=>by omega) 0 hp
 rw [aBa h,hl,decide_eq_true (show 1≤(dJ ws).length by omega),decide_eq_true hA]
 simp only [Bool.true_and,decide_eq_true_eq]
 refine Int.le_trans hd (aGu (by omega) (fun s hs=>?_))
 rw [e0] at hs
 have:=(M8 h).txt s hs
 omega
theorem aIX (f:Int→Int) (c:Int): ∀cs:List Int,ES c (cs.map (fun c=>(⟨c,f c⟩:Eg)))=if c∈cs then f c else-1
 |[]=>by simp [ES]
 |d::cs=>by
  rw [List.map_cons,ES,aIX f c cs]
  by_cases e:d=c
  ·subst e
   simp
  ·rw [if_neg e]
   simp [Ne.symm e]
theorem aHG {ws:List ByteArray} (h:RZ ws=true): ∀(l:List Int) (i:Nat) (hi:i<(dJ ws).length),aBz (K7 ws) l (i:Int)=true↔ ∃s∈(dJ ws)[i],bytesOf s=l
 |[],i,hi=>by
  rw [aBz,YW ws i hi]
  exact MX ((nM h).2.2.2.1 _ (List.getElem_mem hi))
 |c::l,i,hi=>by
  have hok:=(nM h).2.2.2.1 _ (List.getElem_mem hi)
  rw [aBz,YW ws i hi]
  show(decide (0≤ES c (CF (dJ ws) (dJ ws)[i]))&&aBz (K7 ws) l (ES c (CF (dJ ws) (dJ ws)[i])))=true↔_
  unfold CF
  rw [aIX (fun c=>(K9 (jB (dJ ws)[i] c) (dJ ws):Int))]
  by_cases hc:jB (dJ ws)[i] c=[]
  ·rw [if_neg (fun e=>((lK _ c).1 e).2 hc)]
   constructor
   ·intro e
    simp at e
   ·rintro⟨s,hs,hb⟩
    exfalso
    have hz:0<s.size:=by rw [←bR,hb];simp
    rw [qG hz] at hb
    exact yF.2 ⟨s,hs,hz,(List.cons.inj hb).1⟩ hc
  ·rw [if_pos ((lK _ c).2 ⟨yA hok hc,hc⟩)]
   obtain⟨h1,h2⟩:=Q8 (OW h (List.getElem_mem hi) hc)
   obtain⟨_,h3⟩:=List.getElem?_eq_some_iff.1 h2
   rw [decide_eq_true (by omega),Bool.true_and,aHG h l _ h1,h3]
   constructor
   ·rintro⟨t,ht,rfl⟩
    exact CQ.1 ht
   ·rintro⟨s,hs,hb⟩
    have hz:0<s.size:=by rw [←bR,hb];simp
    have hb2:=qG hz
    rw [hb] at hb2
    have e2:=(List.cons.inj hb2).2
    exact⟨s.extract 1 s.size,CQ.2 ⟨s,hs,by rw [hb,e2]⟩,e2.symm⟩
theorem aBb {ws:List ByteArray} (h:RZ ws=true) (hA:(dJ ws).length≤400) (w:ByteArray):ML (K7 ws) w=true↔w∈ws:=by
 obtain⟨hp,e0⟩:=KL h
 have:=aHG h (bytesOf w) 0 hp
 rw [e0] at this
 rw [aKM (aGx h hA),show(0:Int)=((0:Nat):Int)from rfl,this]
 constructor
 ·rintro⟨s,hs,hb⟩
  rw [←bytes_inj hb]
  exact hs
 ·exact fun hw=>⟨w,hw,rfl⟩
theorem JI {dp:List Int} (hb:X3 dp): ∀{es:List Eg} {v:Int},v+Y8 dp es<1000000000→oC dp v es=v+Y8 dp es
 |[],v,_=>by simp [oC,Y8]
 |e::es,v,h=>by
  have h1:=aFd hb es
  rw [Y8] at h⊢
  rw [oC,aGB,show min (v+rd dp e.f1) 1000000000=v+rd dp e.f1 by omega,JI hb (by omega)]
  omega
theorem aGs (x:List ByteArray): ∀(cs:List Int),cs.Nodup→(∀s∈x,0<s.size→bt s 0∈cs)→(cs.map (fun c=>((jB x c).length:Int))).sum=((x.filter (fun s=>decide (0<s.size))).length:Int):=by
 induction x with
 |nil=>intro cs _ _;induction cs with
  |nil=>rfl
  |cons c cs ih=>rw [List.map_cons,List.sum_cons,ih (List.nodup_cons.1 (by assumption)).2 (by simp)];rfl
 |cons s x ih=>
  intro cs hn hc
  have h1:=ih cs hn (fun t ht=>hc t (List.mem_cons_of_mem _ ht))
  have one: ∀(cs:List Int),cs.Nodup→(cs.map (fun c=>((jB (s::x) c).length:Int))).sum=(if 0<s.size∧bt s 0∈cs then 1 else 0)+(cs.map (fun c=>((jB x c).length:Int))).sum:=by
   intro cs
   induction cs with
   |nil=>intro _;simp
   |cons c cs ihc=>
    intro hn
    obtain⟨n1,n2⟩:=List.nodup_cons.1 hn
    rw [List.map_cons,List.sum_cons,List.map_cons,List.sum_cons,ihc n2,X8,List.length_append]
    by_cases z:0<s.size
    ·by_cases e:bt s 0=c
     ·subst e
      rw [if_pos ⟨z,rfl⟩,if_neg (fun h=>n1 h.2),if_pos ⟨z,List.mem_cons_self⟩]
      simp only [List.length_singleton]
      omega
     ·rw [if_neg (fun h=>e h.2)]
      by_cases k:bt s 0∈cs
      ·rw [if_pos ⟨z,k⟩,if_pos ⟨z,List.mem_cons_of_mem _ k⟩]
       simp only [List.length_nil]
       omega
      ·rw [if_neg (fun h=>k h.2),if_neg (fun h=>(List.mem_cons.1 h.2).elim e k)]
       simp only [List.length_nil]
       omega
    ·rw [if_neg (fun h=>z h.1),if_neg (fun h=>z h.1),if_neg (fun h=>z h.1)]
     simp only [List.length_nil]
     omega
  rw [one cs hn,h1,List.filter_cons]
  by_cases z:0<s.size
  ·rw [if_pos ⟨z,hc s List.mem_cons_self z⟩,if_pos (decide_eq_true z),List.length_cons]
   omega
  ·rw [if_neg (fun h=>z h.1),if_neg (by simpa using z)]
   omega
theorem aAg {x:List ByteArray} (ha:VN x):(x.length:Int)=(if(∃s∈x,bytesOf s=[])then 1 else 0)+((x.filter (fun s=>decide (0<s.size))).length:Int):=by
 have hz: ∀s:ByteArray,bytesOf s=[]↔s.size=0:=fun s=>by rw [←List.length_eq_zero_iff,bR]
 have rest: ∀y:List ByteArray,(∀t∈y,0<t.size)→y.filter (fun s=>decide (0<s.size))=y:=fun y hy=>List.filter_eq_self.2 (fun t ht=>decide_eq_true (hy t ht))
 cases x with
 |nil=>simp
 |cons s x=>
  obtain⟨h1,h2⟩:=List.pairwise_cons.1 ha
  have hx: ∀t∈x,0<t.size:=fun t ht=>by
   have h3:=h1 t ht
   unfold UO at h3
   rw [JV] at h3
   rcases Nat.eq_zero_or_pos t.size with h4|h4
   ·rw [(hz t).2 h4] at h3
    cases bytesOf s<;>simp [lexB] at h3
   ·exact h4
  rw [List.filter_cons,rest x hx]
  by_cases z:0<s.size
  ·rw [if_pos (show decide (0<s.size)=true from decide_eq_true z),if_neg]
   ·simp
   ·rintro⟨t,ht,hb⟩
    rcases List.mem_cons.1 ht with rfl|ht
    ·have:=(hz t).1 hb
     omega
    ·have:=hx t ht
     have:=(hz t).1 hb
     omega
  ·rw [if_neg (show¬decide (0<s.size)=true from fun e=>z (of_decide_eq_true e)),if_pos (show∃t∈s::x,bytesOf t=[] from⟨s,List.mem_cons_self,(hz s).2 (by omega)⟩),List.length_cons]
   omega
theorem aFc (dp:List Int) (f g:Int→Int): ∀cs:List Int,(∀c∈cs,rd dp (f c)=g c)→Y8 dp (cs.map (fun c=>(⟨c,f c⟩:Eg)))=(cs.map g).sum
 |[],_=>rfl
 |c::cs,h=>by
  rw [List.map_cons,Y8,List.map_cons,List.sum_cons,aFc dp f g cs (fun d hd=>h d (List.mem_cons_of_mem _ hd)),h c List.mem_cons_self]
theorem aUr {ws:List ByteArray} (h:RZ ws=true) (d:Nat): ∀i (hi:i<(dJ ws).length),(dJ ws).length≤i+d→rd (ZY (K7 ws)) (i:Int)=((dJ ws)[i].length:Int):=by
 have hl:(K7 ws).length=(dJ ws).length:=List.length_map _
 obtain⟨hb,hf⟩:=aFK (K7 ws) (aBa h)
 induction d with
 |zero=>intro i hi h1;omega
 |succ d ih=>
  intro i hi h1
  have hok:=(nM h).2.2.2.1 _ (List.getElem_mem hi)
  rw [hf i (by omega),YW ws i hi]
  have hsum:Y8 (ZY (K7 ws)) (stL (dJ ws) (dJ ws)[i]).f1=(((dJ ws)[i].filter (fun s=>decide (0<s.size))).length:Int):=by
   show Y8 _ (CF _ _)=_
   unfold CF
   rw [aFc _ (fun c=>(K9 (jB (dJ ws)[i] c) (dJ ws):Int)) (fun c=>((jB (dJ ws)[i] c).length:Int)) _ (fun c hc=>?_)]
   ·exact aGs _ _ ((EA _).imp (fun h e=>by omega)) (fun s hs hz=>(lK _ _).2 ⟨yA hok (yF.2 ⟨s,hs,hz,rfl⟩),yF.2 ⟨s,hs,hz,rfl⟩⟩)
   ·have hc:=((lK _ c).1 hc).2
    obtain⟨p1,p2⟩:=TJ h i hi hc
    obtain⟨_,h3⟩:=List.getElem?_eq_some_iff.1 (Q8 (OW h (List.getElem_mem hi) hc)).2
    rw [ih _ p2 (by omega),h3]
  have hm:=aAg hok.asc
  have hlen:=hok.len
  have hfe:=MX (A:=dJ ws) hok
  by_cases e:(stL (dJ ws) (dJ ws)[i]).f0=true
  ·rw [if_pos (hfe.1 e)] at hm
   rw [if_pos e,JI hb (by rw [hsum];omega),hsum]
   exact hm.symm
  ·rw [if_neg (fun k=>e (hfe.2 k))] at hm
   rw [if_neg e,JI hb (by rw [hsum];omega),hsum]
   exact hm.symm
theorem aKR {ws:List ByteArray} (h:RZ ws=true) (hA:(dJ ws).length≤400):rd (ZY (K7 ws)) 0=(ws.length:Int)∧aC4 (K7 ws)=(ws.length:Int):=by
 obtain⟨hp,e0⟩:=KL h
 have h1:=aUr h (dJ ws).length 0 hp (by omega)
 rw [e0] at h1
 exact⟨h1,(if_pos (aGx h hA)).trans h1⟩
theorem aKT (ws:List ByteArray):(moB ws).1.length≤400∧ ∀s∈(moB ws).1,s.f1.length≤26:=by
 unfold moB
 split
 ·split
  ·exact⟨by simp,by simp⟩
  ·refine⟨by simp;omega,fun s hs=>?_⟩
   obtain⟨x,_,rfl⟩:=List.mem_map.1 hs
   show(CF _ x).length≤26
   unfold CF
   rw [List.length_map]
   have h2:(nH x).length≤26:=by
    unfold nH JU
    refine Nat.le_trans (List.length_filter_le _ _) ?_
    simp
   exact h2
 ·exact⟨by simp,by simp⟩
theorem aQt {ws:List ByteArray} (h:(moB ws).2=true):RZ ws=true∧(dJ ws).length≤400∧(moB ws).1=K7 ws:=by
 unfold moB at h⊢
 split at h
 ·rename_i h1
  split at h
  ·cases h
  ·rename_i h2
   rw [if_pos h1,if_neg h2]
   exact⟨h1,by omega,rfl⟩
 ·cases h
theorem aLg (b:Bool) (x:Int) (l:List Eg) (hl:l.length≤1048576) (es:List Eg): ∀pre:List Eg,l=pre++es→Ev (fun n=>gN.l0 n x l (l.length:Int) (pre.length:Int)) (ES (wrap64 x) es):=by
 induction es with
 |nil=>
  intro pre hp
  rw [List.append_nil] at hp
  exact Ev.step (fun n=>gN.l0.eq_2 _ _ _ _ _) (bG (by rw [←hp];exact Int.lt_irrefl _) (Ev.now _))
 |cons e es ih=>
  intro pre hp
  have hlen:l.length=pre.length+(es.length+1):=by rw [hp];simp
  have hat:bB l (pre.length:Int)=e:=by simp [bB,hp,List.getD_eq_getElem?_getD]
  have hpl:((pre++[e]).length:Int)=(pre.length:Int)+1:=by simp
  have hp' :l=(pre++[e])++es:=by rw [hp];simp
  refine Ev.step (fun n=>gN.l0.eq_2 _ _ _ _ _) (eP (eP (eP ?_)))
  rw [hat]
  simp only [ES]
  by_cases g:e.f0=wrap64 x
  ·rw [if_pos g]
   exact aU g (Ev.now _)
  ·rw [if_neg g,w6 (n:=(pre.length:Int)+1),←hpl]
   exact bG g (ih (pre++[e]) hp')
theorem aF3 (m:List St) (hm:m.length≤400) (hs: ∀s∈m,s.f1.length≤1048576) (hok:xM m m.length=true) (w:ByteArray) (hw:w.size≤1048576) (d:Nat): ∀i at_:Nat,i+d=w.size→at_<m.length→
  Ev (fun n=>gB.l0 n m w (at_:Int) (w.size:Int) (i:Int)) (uN m w d i at_)∧uN m w d i at_<m.length:=by
 induction d with
 |zero=>
  intro i a hi ha
  exact⟨Ev.step (fun n=>gB.l0.eq_2 _ _ _ _ _ _) (eN (Ev.now _)),by simp only [uN];omega⟩
 |succ d ih=>
  intro i a hi ha
  have hz:=M9 hs (a:Int)
  have hb:=aGg (c:=wrap64 (bt w i)) (aJO (n:=0) hok a ha)
  have hstep:Ev (fun n=>gN.f n (aG m a).f0 (aG m a).f1 (bt w i)) (ES (wrap64 (bt w i)) (aG m a).f1):=aLg (aG m a).f0 (bt w i) (aG m a).f1 hz (aG m a).f1 [] rfl
  by_cases c:ES (wrap64 (bt w i)) (aG m a).f1<0
  ·have e:uN m w (d+1) i a= -1:=by simp only [uN];rw [if_pos c]
   rw [e]
   exact⟨Ev.step (fun n=>gB.l0.eq_2 _ _ _ _ _ _) (eP (eP (eP (eP (eP (Ev.bind hstep (aU c (Ev.now _)))))))),by omega⟩
  ·have e:uN m w (d+1) i a=uN m w d (i+1) (ES (wrap64 (bt w i)) (aG m a).f1):=by simp only [uN];rw [if_neg c]
   rw [e]
   obtain⟨h2,h3⟩:=ih (i+1) (ES (wrap64 (bt w i)) (aG m a).f1).toNat (by omega) (by omega)
   rw [show(((ES (wrap64 (bt w i)) (aG m a).f1).toNat:Nat):Int)=ES (wrap64 (bt w i)) (aG m a).f1 from by omega] at h2 h3
   refine⟨Ev.step (fun n=>gB.l0.eq_2 _ _ _ _ _ _) (eP (eP (eP (eP (eP (Ev.bind hstep (bG c ?_))))))),h3⟩
   rw [w6 (n:=(i:Int)+1)]
   exact h2
theorem YM (m:List St) (hm:m.length≤1048576) (hs: ∀s∈m,s.f1.length≤1048576) (w:ByteArray) (hw:w.size≤1048576):Ev (fun n=>jU.f n m w) (ML m w):=by
 have i1:=JW m hm hs
 unfold jU.f ML
 cases e:vJ m with
 |false=>
  rw [e] at i1
  exact Ev.bind i1 (bG (by simp) (Ev.now _))
 |true=>
  rw [e] at i1
  obtain⟨g1,g2,g3⟩:=GJ e
  obtain⟨h2,h3⟩:=aF3 m g2 hs g3 w hw w.size 0 0 (by omega) (by omega)
  have h3' :uN m w w.size 0 0<m.length:=h3
  rw [Bool.true_and]
  by_cases c:uN m w w.size 0 0≥0
  ·rw [decide_eq_true (show 0≤uN m w w.size 0 0 from c),Bool.true_and]
   exact Ev.bind i1 (aU rfl (Ev.bind h2 (aU c (aU c (aU h3' (Ev.now _))))))
  ·rw [decide_eq_false (show¬0≤uN m w w.size 0 0 from c),Bool.false_and]
   exact Ev.bind i1 (aU rfl (Ev.bind h2 (bG c (Ev.now _))))
theorem aKq (s x:ByteArray) (hx:x∈fK s 0):x.size≤s.size+2:=by
 unfold fK at hx
 obtain⟨i,hi,hx⟩:=List.mem_flatMap.1 hx
 have hi2:=(List.mem_range'_1.1 hi).2
 have e1: ∀c:Int,(strOfNums [c]).size=1:=fun _=>rfl
 have ex: ∀a b:Nat,(s.extract a b).size≤b-a∧(s.extract a b).size≤s.size-a:=by
  intro a b
  rw [←bR,o6,List.length_take,List.length_drop,bR]
  omega
 unfold uU at hx
 rcases List.mem_append.1 hx with hx|hx
 ·unfold mF at hx
  obtain⟨c,_,hx⟩:=List.mem_flatMap.1 hx
  have h1:=(ex 0 i).1
  have h2:=(ex i s.size).2
  have h3:=(ex (i+1) s.size).2
  unfold D9 at hx
  split at hx
  ·rcases List.mem_cons.1 hx with rfl|hx
   ·unfold YJ
    rw [size_append,size_append,e1]
    omega
   ·rw [List.mem_singleton.1 hx]
    unfold aAl
    rw [size_append,size_append,e1]
    omega
  ·rw [List.mem_singleton.1 hx]
   unfold YJ
   rw [size_append,size_append,e1]
   omega
 ·rcases List.mem_append.1 hx with hx|hx
  ·have h1:=(ex 0 i).1
   have h3:=(ex (i+1) s.size).2
   unfold yO at hx
   split at hx
   ·rw [List.mem_singleton.1 hx]
    unfold aKB
    rw [size_append]
    omega
   ·cases hx
  ·have h1:=(ex 0 i).1
   have h2:=(ex (i+1) (i+2)).1
   have h3:=(ex i (i+1)).1
   have h4:=(ex (i+2) s.size).2
   unfold uL at hx
   split at hx
   ·rw [List.mem_singleton.1 hx]
    unfold aLh
    rw [size_append,size_append,size_append]
    omega
   ·cases hx
theorem a9D (s:ByteArray) (l:List ByteArray): ∀xs:List ByteArray,xs.length+l.length≤90000→(∀x∈l,x.size≤1048576)→Ev (fun k=>aT.go k s l xs) (xs++l.filter (fun x=>decide (x≠s)&&gD x)):=by
 induction l with
 |nil=>
  intro xs _ _
  exact fH (Ev.now _) (by simp)
 |cons x l ih=>
  intro xs hl hz
  rw [List.length_cons] at hl
  have hz' : ∀y∈l,y.size≤1048576:=fun y hy=>hz y (List.mem_cons_of_mem _ hy)
  have hx:=hz x List.mem_cons_self
  show Ev (fun k=>(aT.put k s xs x).bind fun ys=>aT.go k s l ys) _
  by_cases c:x=s
  ·subst c
   refine Ev.bind (a:=xs) (eP (aU rfl (Ev.now _))) (fH (ih xs (by omega) hz') ?_)
   simp
  ·refine Ev.bind (a:=xs++(if gD x=true then [x] else [])) (eP (bG (fun h=>c ((sJ _ _).1 h)) (Ev.bind (wP x (by omega)) (fH (Ev.now _) ?_)))) (fH (ih _ ?_ hz') ?_)
   ·cases gD x<;>simp
   ·rw [List.length_append]
    have:(if gD x=true then [x] else []).length≤1:=by split<;>simp
    omega
   ·cases e:gD x<;>simp [c,e]
def aBc (s:ByteArray):List ByteArray:=if gD s=true then rH s else []
theorem aKV (s:ByteArray) (h:s.size≤140737488351232):Ev (fun k=>aT.f k s) (aBc s):=by
 unfold aT.f aBc
 refine Ev.bind (wP s h) ?_
 cases e:gD s with
 |false=>exact bG (by simp) (fH (Ev.now _) (by simp))
 |true=>
  have hs:=jX e
  have hl:=FI s 0
  have hg:=a9D s (fK s 0) [] (by simp;omega) (fun x hx=>by have:=aKq s x hx;omega)
  refine aU rfl (eP (Ev.bind hg (fH (bH2 (r:=rH s) ?_) (by simp))))
  have hf:=List.length_filter_le (fun x=>decide (x≠s)&&gD x) (fK s 0)
  unfold dC.f
  rw [if_pos (by simp only [List.nil_append];omega)]
  congr 1
  refine VV (Y2 _) (aKU s) (fun x=>?_)
  rw [Y3,FT,List.nil_append,List.mem_filter]
  simp
theorem Q5 (s:ByteArray):(aBc s).length≤100000:=by
 unfold aBc
 split
 ·rename_i e
  have h1:=aC5 s
  have h2:=jX e
  omega
 ·simp
def mgB (m:List St) (s:ByteArray):List ByteArray:=if vJ m=true∧gD s=true then(rH s).filter (fun w=>ML m w)else []
theorem aUz {l:List ByteArray} {i:Nat} (h:i<l.length):l.drop i=l[i]::l.drop (i+1):=(List.getElem_cons_drop ..).symm
theorem aEV (m:List St) (hm:m.length≤1048576) (hs: ∀s∈m,s.f1.length≤1048576) (ws:List ByteArray) (hl:ws.length≤1000000) (hz: ∀w∈ws,w.size≤1048576) (d:Nat): ∀(i:Nat) (out:List ByteArray),i+d=ws.length→out.length≤i→
  Ev (fun k=>fD.l0 k m out ws (ws.length:Int) (i:Int)) (out++(ws.drop i).filter (fun w=>ML m w)):=by
 induction d with
 |zero=>
  intro i out hi ho
  have e:ws.drop i=[]:=List.drop_eq_nil_iff.2 (by omega)
  rw [e]
  exact Ev.step (fun k=>fD.l0.eq_2 ..) (eN (fH (Ev.now _) (by simp)))
 |succ d ih=>
  intro i out hi ho
  have hi' :i<ws.length:=by omega
  rw [aUz hi',List.filter_cons]
  refine Ev.step (fun k=>fD.l0.eq_2 ..) (eP (eP (eP ?_)))
  rw [qX ws i hi',w6 (n:=(i:Int)+1)]
  refine Ev.bind (YM m hm hs _ (hz _ (List.getElem_mem hi'))) ?_
  cases e:ML m ws[i] with
  |true=>exact aU rfl (eP (fH (ih (i+1) _ (by omega) (by simp;omega)) (by simp)))
  |false=>exact bG (by simp) (fH (ih (i+1) _ (by omega) (by omega)) (by simp))
theorem aEW {s:ByteArray}: ∀w∈rH s,w.size≤1048576:=fun w hw=>by
 have:=jX ((FT s w).1 hw).2.2
 omega
theorem aUA (m:List St) (hm:m.length≤1048576) (hs: ∀s∈m,s.f1.length≤1048576) (s:ByteArray) (h:s.size≤1048576):Ev (fun k=>fD.f k m s) (mgB m s):=by
 unfold fD.f mgB
 refine gF rfl (Ev.bind (JW m hm hs) ?_)
 have hn:=Q5 s
 cases e:vJ m with
 |false=>exact bG (by simp) (fH (Ev.now _) (by simp))
 |true=>
  refine aU rfl (Ev.bind (aKV s (by omega)) ?_)
  unfold aBc at hn⊢
  cases c:gD s with
  |true=>
   rw [c,if_pos rfl] at hn
   rw [if_pos rfl,if_pos ⟨rfl,rfl⟩]
   have:=aEV m hm hs (rH s) (by omega) aEW (rH s).length 0 [] (by omega) (by simp)
   rw [List.drop_zero,List.nil_append] at this
   exact this
  |false=>
   rw [if_neg (by simp),if_neg (by simp)]
   have:=aEV m hm hs [] (by simp) (by simp) 0 0 [] (by simp) (by simp)
   simpa using this
theorem aGA (m:List St) (s:ByteArray):(mgB m s).length≤1000000:=by
 have hn:=Q5 s
 unfold mgB
 unfold aBc at hn
 split
 ·rename_i h
  rw [if_pos h.2] at hn
  have:=List.length_filter_le (fun w=>ML m w) (rH s)
  omega
 ·simp
theorem aGy (l:List ByteArray) (x:ByteArray) (hl:l.length≤10000000) (d:Nat): ∀i:Nat,i+d=l.length→Ev (fun k=>l9.l0 k l x (i:Int)) ((l.drop i).any (fun y=>y.toList==x.toList)):=by
 induction d with
 |zero=>
  intro i hi
  refine Ev.step (fun k=>l9.l0.eq_2 _ _ _ _) (eN (fH (Ev.now _) ?_))
  rw [List.drop_eq_nil_of_le (by omega)]
  rfl
 |succ d ih=>
  intro i hi
  have hlt:i<l.length:=by omega
  refine Ev.step (fun k=>l9.l0.eq_2 _ _ _ _) (eP (eP ?_))
  rw [qX l i hlt,w6 (n:=(i:Int)+1),List.drop_eq_getElem_cons hlt,List.any_cons]
  by_cases c:l[i].toList=x.toList
  ·exact aU c (fH (Ev.now _) (by simp [c]))
  ·have cb:(l[i].toList==x.toList)=false:=by simpa using c
   rw [cb,Bool.false_or]
   exact bG c (ih (i+1) (by omega))
theorem aQr (l:List ByteArray) (x:ByteArray) (hl:l.length≤10000000): ∃b:Bool,Ev (fun k=>l9.f k l x) b∧(b=true↔x∈l):=by
 refine⟨_,aGy l x hl l.length 0 (by omega),?_⟩
 rw [List.drop_zero,List.any_eq_true]
 constructor
 ·rintro⟨y,hy,e⟩
  rw [←(sJ y x).1 (by simpa using e)]
  exact hy
 ·exact fun h=>⟨x,h,by simp⟩
theorem dk1 {α:Type} (P:List α) (a:α) (R:List α):(P++a::R).drop (P.length+1)=R:=by
 simp
theorem dk2 {α:Type} (P:List α) (a b:α) (R:List α):(P++a::b::R).drop (P.length+2)=R:=by
 simp
theorem aGz {s x:ByteArray} {i:Nat} (hi:i≤s.size) (h:x∈uU s i):x∈fK s 0:=by
 unfold fK
 exact List.mem_flatMap.2 ⟨i,List.mem_range'_1.2 (by omega),h⟩
theorem aJM {s x:ByteArray} {i c:Nat} (hi:i≤s.size) (h1:97≤c) (h2:c≤122) (h:x∈D9 s i c):x∈fK s 0:=by
 refine aGz hi ?_
 unfold uU mF
 exact List.mem_append_left _ (List.mem_flatMap.2 ⟨c,List.mem_range'_1.2 (by omega),h⟩)
theorem aUw {s:ByteArray} {i c:Nat} (hi:i≤s.size) (h1:97≤c) (h2:c≤122):YJ s i c∈fK s 0:=by
 refine aJM hi h1 h2 ?_
 unfold D9
 split<;>simp
theorem aUx {s:ByteArray} {i c:Nat} (hi:i<s.size) (h1:97≤c) (h2:c≤122):aAl s i c∈fK s 0:=by
 refine aJM (Nat.le_of_lt hi) h1 h2 ?_
 unfold D9
 rw [if_pos hi]
 simp
theorem aUv {s:ByteArray} {i:Nat} (hi:i<s.size):aKB s i∈fK s 0:=by
 refine aGz (Nat.le_of_lt hi) ?_
 unfold uU yO
 rw [if_pos hi]
 simp
theorem aUy {s:ByteArray} {i:Nat} (hi:i+1<s.size):aLh s i∈fK s 0:=by
 refine aGz (i:=i) (by omega) ?_
 unfold uU uL
 rw [if_pos hi]
 simp
theorem aJL {s:ByteArray} (hs:gD s=true) {d:Int} (hd:d∈bytesOf s): ∃n:Nat,d=(n:Int)∧97≤n∧n≤122:=by
 have:=((BI _).1 hs).2.2 d hd
 exact⟨d.toNat,by omega,by omega,by omega⟩
theorem aQ5 (s:ByteArray) (i:Nat) (hi:i≤s.size): ∃P Q:List Int,bytesOf s=P++Q∧P.length=i:=
 ⟨(bytesOf s).take i,(bytesOf s).drop i,(List.take_append_drop i (bytesOf s)).symm,by rw [List.length_take,bR];exact Nat.min_eq_left hi⟩
theorem RJ {s:ByteArray} {l:List Int} (h:bytesOf s=l):s.size=l.length:=by rw [←h,bR]
theorem wC (s:ByteArray) (j:Nat):bt s (j:Int)=((bytesOf s)[j]?).getD 0:=by
 rw [←GQ]
 simp [rd,List.getD_eq_getElem?_getD]
theorem nK (s:ByteArray) (j:Nat):(bytesOf s)[j]?=if j<s.size then some (bt s (j:Int))else none:=by
 rw [wC]
 by_cases h:j<s.size
 ·rw [if_pos h,List.getElem?_eq_getElem (by rw [bR];exact h)]
  rfl
 ·rw [if_neg h]
  exact List.getElem?_eq_none (by rw [bR];omega)
theorem aEl (s:ByteArray) (p:Nat) (h:p<s.size):(bytesOf s).drop p=bt s (p:Int)::(bytesOf s).drop (p+1):=by
 have:=pK s (p:Int) (by omega) (by omega)
 rwa [Int.toNat_natCast,show((p:Int)+1).toNat=p+1 from by omega] at this
def TV (a b:ByteArray) (i k p:Nat):Prop:=
 (∀j:Nat,j<p→bt a (j:Int)=bt b (j:Int))∧
 ((k=i+1∧p≤i∧ ∀j:Nat,p≤j→j<i→bt a (j:Int)=bt b ((j+1:Nat):Int))∨
 (i=k+1∧p≤k∧ ∀j:Nat,p≤j→j<k→bt a ((j+1:Nat):Int)=bt b (j:Int))∨
 (i=k∧p<i∧ ∀j:Nat,p<j→j<i→bt a (j:Int)=bt b (j:Int))∨
 (i=k∧p+1<i∧bt a (p:Int)=bt b ((p+1:Nat):Int)∧bt a ((p+1:Nat):Int)=bt b (p:Int)∧ ∀j:Nat,p+1<j→j<i→bt a (j:Int)=bt b (j:Int)))
theorem aUF {a b:ByteArray} {i k p:Nat} (h:TV a b i k p) (e:bt a (i:Int)=bt b (k:Int)):TV a b (i+1) (k+1) p:=by
 obtain⟨h0,h⟩:=h
 refine⟨h0,?_⟩
 rcases h with ⟨rfl,h1,h2⟩|⟨rfl,h1,h2⟩|⟨rfl,h1,h2⟩|⟨rfl,h1,h2,h3,h4⟩
 ·refine .inl ⟨rfl,by omega,fun j h5 h6=>?_⟩
  by_cases c:j=i
  ·rw [c]
   exact e
  ·exact h2 j h5 (by omega)
 ·refine .inr (.inl ⟨rfl,by omega,fun j h5 h6=>?_⟩)
  by_cases c:j=k
  ·rw [c]
   exact e
  ·exact h2 j h5 (by omega)
 ·refine .inr (.inr (.inl ⟨rfl,by omega,fun j h5 h6=>?_⟩))
  by_cases c:j=i
  ·rw [c]
   exact e
  ·exact h2 j h5 (by omega)
 ·refine .inr (.inr (.inr ⟨rfl,by omega,h2,h3,fun j h5 h6=>?_⟩))
  by_cases c:j=i
  ·rw [c]
   exact e
  ·exact h4 j h5 (by omega)
theorem OU (a b:ByteArray) (i k:Nat):jF a b (i+1) (k+1)≤jF a b i k+(if bt a (i:Int)=bt b (k:Int)then 0 else 1)∧jF a b (i+1) (k+1)≤jF a b i (k+1)+1∧jF a b (i+1) (k+1)≤jF a b (i+1) k+1:=by
 have h:jF a b (i+1) (k+1)≤qC a b i k:=by
  rw [uV]
  split<;>omega
 have h3:qC a b i k≤jF a b i k+(if bt a (i:Int)=bt b (k:Int)then 0 else 1)∧qC a b i k≤jF a b i (k+1)+1∧qC a b i k≤jF a b (i+1) k+1:=by
  unfold qC
  omega
 omega
theorem OT (a b:ByteArray) (i k n:Nat):(∀j:Nat,j<n→bt a ((i+j:Nat):Int)=bt b ((k+j:Nat):Int))→jF a b (i+n) (k+n)≤jF a b i k:=by
 induction n with
 |zero=>exact fun _=>Int.le_refl _
 |succ n ih=>
  intro h
  have h1:=(OU a b (i+n) (k+n)).1
  rw [if_pos (h n (by omega))] at h1
  have h2:=ih (fun j hj=>h j (by omega))
  show jF a b (i+n+1) (k+n+1)≤_
  omega
theorem aKC (a b:ByteArray) (p:Nat) (h: ∀j:Nat,j<p→bt a (j:Int)=bt b (j:Int)):jF a b p p=0:=(qH a b _ p p (Nat.le_refl _)).2.2.2.2.1.2 ⟨rfl,h⟩
theorem aQB {a b:ByteArray} {i k p:Nat} (h:TV a b i k p):jF a b i k≤1:=by
 obtain⟨h0,h⟩:=h
 have hp:=aKC a b p h0
 rcases h with ⟨rfl,h1,h2⟩|⟨rfl,h1,h2⟩|⟨rfl,h1,h2⟩|⟨rfl,h1,h2,h3,h4⟩
 ·obtain⟨n,rfl⟩: ∃n,i=p+n:=⟨i-p,by omega⟩
  have e1:=OT a b p (p+1) n (fun j hj=>by rw [h2 (p+j) (by omega) (by omega),show p+j+1=p+1+j from by omega])
  have e2:jF a b p (p+1)≤1:=by
   cases p with
   |zero=>
    rw [uW]
    omega
   |succ p=>
    have:=(OU a b p (p+1)).2.2
    omega
  rw [show p+n+1=p+1+n from by omega]
  omega
 ·obtain⟨n,rfl⟩: ∃n,k=p+n:=⟨k-p,by omega⟩
  have e1:=OT a b (p+1) p n (fun j hj=>by rw [←h2 (p+j) (by omega) (by omega),show p+j+1=p+1+j from by omega])
  have e2:jF a b (p+1) p≤1:=by
   cases p with
   |zero=>
    rw [FL]
    omega
   |succ p=>
    have:=(OU a b (p+1) p).2.1
    omega
  rw [show p+n+1=p+1+n from by omega]
  omega
 ·obtain⟨n,rfl⟩: ∃n,i=p+1+n:=⟨i-(p+1),by omega⟩
  have e1:=OT a b (p+1) (p+1) n (fun j hj=>h2 (p+1+j) (by omega) (by omega))
  have e2:=(OU a b p p).1
  have e3:(if bt a (p:Int)=bt b (p:Int)then(0:Int)else 1)≤1:=by split<;>omega
  omega
 ·obtain⟨n,rfl⟩: ∃n,i=p+2+n:=⟨i-(p+2),by omega⟩
  have e1:=OT a b (p+2) (p+2) n (fun j hj=>h4 (p+2+j) (by omega) (by omega))
  have e2:jF a b (p+2) (p+2)≤1:=by
   rw [show p+2=(p+1)+1 from rfl,uV,if_pos ⟨by omega,by omega,by rw [Nat.add_sub_cancel];exact h3,by rw [Nat.add_sub_cancel];exact h2⟩,Nat.add_sub_cancel]
   omega
  omega
theorem aNv (a b:ByteArray): ∀n i k:Nat,i+k≤n→jF a b i k=1→ ∃p,TV a b i k p:=by
 intro n
 induction n with
 |zero=>
  intro i k h e
  obtain rfl:i=0:=by omega
  rw [uW] at e
  omega
 |succ n ih=>
  intro i k h e
  cases i with
  |zero=>
   rw [uW] at e
   exact⟨0,fun j hj=>absurd hj (by omega), .inl ⟨by omega,by omega,fun j _ hj=>absurd hj (by omega)⟩⟩
  |succ i=>
   cases k with
   |zero=>
    rw [FL] at e
    exact⟨0,fun j hj=>absurd hj (by omega), .inr (.inl ⟨by omega,by omega,fun j _ hj=>absurd hj (by omega)⟩)⟩
   |succ k=>
    have three:qC a b i k=1→ ∃p,TV a b (i+1) (k+1) p:=by
     intro h3
     have hc:jF a b i k+(if bt a (i:Int)=bt b (k:Int)then 0 else 1)=1∨jF a b i (k+1)=0∨jF a b (i+1) k=0:=by
      unfold qC at h3
      omega
     rcases hc with hc|hc|hc
     ·by_cases c:bt a (i:Int)=bt b (k:Int)
      ·rw [if_pos c] at hc
       obtain⟨p,hp⟩:=ih i k (by omega) (by omega)
       exact⟨p,aUF hp c⟩
      ·rw [if_neg c] at hc
       have:=(qH a b _ i k (Nat.le_refl _)).2.2.2.2.1.1 (by omega)
       exact⟨i,this.2, .inr (.inr (.inl ⟨by omega,by omega,fun j h1 h2=>absurd h2 (by omega)⟩))⟩
     ·have:=(qH a b _ i (k+1) (Nat.le_refl _)).2.2.2.2.1.1 hc
      exact⟨i,this.2, .inr (.inl ⟨by omega,by omega,fun j h1 h2=>absurd h2 (by omega)⟩)⟩
     ·have:=(qH a b _ (i+1) k (Nat.le_refl _)).2.2.2.2.1.1 hc
      exact⟨i+1,this.2, .inl ⟨by omega,by omega,fun j h1 h2=>absurd h2 (by omega)⟩⟩
    rw [uV] at e
    split at e
    ·rename_i c
     have hc:qC a b i k=1∨jF a b (i-1) (k-1)=0:=by omega
     rcases hc with hc|hc
     ·exact three hc
     ·have:=(qH a b _ (i-1) (k-1) (Nat.le_refl _)).2.2.2.2.1.1 hc
      obtain⟨i,rfl⟩: ∃m,i=m+1:=⟨i-1,by omega⟩
      obtain⟨k,rfl⟩: ∃m,k=m+1:=⟨k-1,by omega⟩
      simp only [Nat.add_sub_cancel] at this c
      obtain rfl:i=k:=this.1
      exact⟨i,this.2, .inr (.inr (.inr ⟨rfl,by omega,c.2.2.2,c.2.2.1,fun j h1 h2=>absurd h2 (by omega)⟩))⟩
    ·exact three e
theorem at_mem (s:ByteArray) (p:Nat) (h:p<s.size):bt s (p:Int)∈bytesOf s:=List.mem_of_getElem? ((nK s p).trans (if_pos h))
theorem aQA {a b:ByteArray} (hb:gD b=true) {p:Nat} (h:TV a b a.size b.size p):b∈fK a 0:=by
 obtain⟨h0,h⟩:=h
 have pre:p≤a.size→p≤b.size→ ∀(X:List Int) (j:Nat),j<p→(bytesOf b)[j]?=((bytesOf a).take p++X)[j]?:=by
  intro q1 q2 X j hj
  have hl:((bytesOf a).take p).length=p:=by rw [List.length_take,bR];omega
  rw [List.getElem?_append_left (by omega),List.getElem?_take_of_lt hj,nK,nK,if_pos (by omega),if_pos (by omega),h0 j hj]
 have suf:p≤a.size→ ∀(X:List Int) (m:Nat),((bytesOf a).take p++X)[p+m]?=X[m]?:=by
  intro q1 X m
  have hl:((bytesOf a).take p).length=p:=by rw [List.length_take,bR];omega
  rw [List.getElem?_append_right (by omega),hl,Nat.add_sub_cancel_left]
 rcases h with ⟨hk,h1,h2⟩|⟨hk,h1,h2⟩|⟨hk,h1,h2⟩|⟨hk,h1,h2,h3,h4⟩
 ·obtain⟨n,hn,n1,n2⟩:=aJL hb (at_mem b p (by omega))
  have:b=YJ a p (n:Int):=bytes_inj (by
   rw [YK a p n (by omega)]
   refine List.ext_getElem? fun j=>?_
   by_cases c1:j<p
   ·exact pre (by omega) (by omega) _ j c1
   obtain⟨m,rfl⟩: ∃m,j=p+m:=⟨j-p,by omega⟩
   rw [suf (by omega)]
   cases m with
   |zero=>rw [nK,if_pos (by omega),List.getElem?_cons_zero,Nat.add_zero,hn]
   |succ m=>
    rw [List.getElem?_cons_succ,List.getElem?_drop,nK,nK]
    by_cases c3:p+m<a.size
    ·rw [if_pos (by omega),if_pos c3,h2 (p+m) (by omega) c3]
     rfl
    ·rw [if_neg (by omega),if_neg c3])
  rw [this]
  exact aUw (by omega) n1 n2
 ·have:b=aKB a p:=bytes_inj (by
   rw [X7]
   refine List.ext_getElem? fun j=>?_
   by_cases c1:j<p
   ·exact pre (by omega) (by omega) _ j c1
   obtain⟨m,rfl⟩: ∃m,j=p+m:=⟨j-p,by omega⟩
   rw [suf (by omega),List.getElem?_drop,nK,nK]
   by_cases c3:p+m<b.size
   ·rw [if_pos c3,if_pos (by omega),←h2 (p+m) (by omega) c3,show p+1+m=p+m+1 from by omega]
   ·rw [if_neg c3,if_neg (by omega)])
  rw [this]
  exact aUv (by omega)
 ·obtain⟨n,hn,n1,n2⟩:=aJL hb (at_mem b p (by omega))
  have:b=aAl a p (n:Int):=bytes_inj (by
   rw [NA a p n (by omega)]
   refine List.ext_getElem? fun j=>?_
   by_cases c1:j<p
   ·exact pre (by omega) (by omega) _ j c1
   obtain⟨m,rfl⟩: ∃m,j=p+m:=⟨j-p,by omega⟩
   rw [suf (by omega)]
   cases m with
   |zero=>rw [nK,if_pos (by omega),List.getElem?_cons_zero,Nat.add_zero,hn]
   |succ m=>
    rw [List.getElem?_cons_succ,List.getElem?_drop,nK,nK]
    by_cases c3:p+(m+1)<b.size
    ·rw [if_pos c3,if_pos (by omega),←h2 (p+(m+1)) (by omega) (by omega),show p+1+m=p+(m+1)from by omega]
    ·rw [if_neg c3,if_neg (by omega)])
  rw [this]
  exact aUx (by omega) n1 n2
 ·have:b=aLh a p:=bytes_inj (by
   rw [Y9,aEl a (p+1) (by omega),aEl a p (by omega)]
   refine List.ext_getElem? fun j=>?_
   by_cases c1:j<p
   ·exact pre (by omega) (by omega) _ j c1
   obtain⟨m,rfl⟩: ∃m,j=p+m:=⟨j-p,by omega⟩
   rw [suf (by omega)]
   match m with
   |0=>
    rw [nK,if_pos (by omega),Nat.add_zero,←h3]
    rfl
   |1=>
    rw [nK,if_pos (by omega),←h2]
    rfl
   |m+2=>
    show _=((bytesOf a).drop (p+2))[m]?
    rw [List.getElem?_drop,nK,nK]
    by_cases c3:p+(m+2)<b.size
    ·rw [if_pos c3,if_pos (by omega),←h4 (p+(m+2)) (by omega) (by omega),show p+2+m=p+(m+2)from by omega]
    ·rw [if_neg c3,if_neg (by omega)])
  rw [this]
  exact aUy (by omega)
theorem aWC {P X:List Int} {j:Nat} (h:j<P.length):(P++X)[j]?=P[j]?:=List.getElem?_append_left h
theorem H5 (P X:List Int) (m:Nat):(P++X)[P.length+m]?=X[m]?:=by rw [List.getElem?_append_right (by omega),Nat.add_sub_cancel_left]
theorem aNp {s x:ByteArray} (hx:x∈fK s 0): ∃p,TV s x s.size x.size p:=by
 unfold fK at hx
 obtain⟨i,hi,hx⟩:=List.mem_flatMap.1 hx
 have hi2:=(List.mem_range'_1.1 hi).2
 have hle:i≤s.size:=by omega
 obtain⟨P,Q,hS,hP⟩:=aQ5 s i hle
 have zS:=RJ hS
 rw [List.length_append] at zS
 have pre: ∀{Y:List Int},bytesOf x=P++Y→ ∀j:Nat,j<P.length→bt s (j:Int)=bt x (j:Int):=by
  intro Y hX j hj
  rw [wC,wC,hS,hX,aWC hj,aWC hj]
 have aJD: ∀c:Nat,c≤122→x=YJ s i (c:Int)→ ∃p,TV s x s.size x.size p:=by
  intro c hc e
  have hX:bytesOf x=P++(c:Int)::Q:=by rw [e,YK s i c (by omega),hS,←hP,List.take_left,List.drop_left]
  have hz:=RJ hX
  rw [List.length_append,List.length_cons] at hz
  refine⟨P.length,pre hX, .inl ⟨by omega,by omega,fun j h1 h2=>?_⟩⟩
  obtain⟨m,rfl⟩: ∃m,j=P.length+m:=⟨j-P.length,by omega⟩
  rw [wC,wC,hS,hX,H5,show P.length+m+1=P.length+(m+1)from by omega,H5,List.getElem?_cons_succ]
 unfold uU at hx
 rcases List.mem_append.1 hx with hx|hx
 ·unfold mF at hx
  obtain⟨c,hc,hx⟩:=List.mem_flatMap.1 hx
  have hc2:=(List.mem_range'_1.1 hc)
  unfold D9 at hx
  split at hx
  ·rename_i hlt
   rcases List.mem_cons.1 hx with hx|hx
   ·exact aJD c (by omega) hx
   ·have e:=List.mem_singleton.1 hx
    cases Q with
    |nil=>
     simp at zS
     omega
    |cons d Q=>
     have hX:bytesOf x=P++(c:Int)::Q:=by rw [e,NA s i c (by omega),hS,←hP,List.take_left,dk1]
     have hz:=RJ hX
     rw [List.length_append,List.length_cons] at hz
     rw [List.length_cons] at zS
     refine⟨P.length,pre hX, .inr (.inr (.inl ⟨by omega,by omega,fun j h1 h2=>?_⟩))⟩
     obtain⟨m,rfl⟩: ∃m,j=P.length+(m+1):=⟨j-P.length-1,by omega⟩
     rw [wC,wC,hS,hX,H5,H5,List.getElem?_cons_succ,List.getElem?_cons_succ]
  ·exact aJD c (by omega) (List.mem_singleton.1 hx)
 ·rcases List.mem_append.1 hx with hx|hx
  ·unfold yO at hx
   split at hx
   ·rename_i hlt
    have e:=List.mem_singleton.1 hx
    cases Q with
    |nil=>
     simp at zS
     omega
    |cons d Q=>
     have hX:bytesOf x=P++Q:=by rw [e,X7,hS,←hP,List.take_left,dk1]
     have hz:=RJ hX
     rw [List.length_append] at hz
     rw [List.length_cons] at zS
     refine⟨P.length,pre hX, .inr (.inl ⟨by omega,by omega,fun j h1 h2=>?_⟩)⟩
     obtain⟨m,rfl⟩: ∃m,j=P.length+m:=⟨j-P.length,by omega⟩
     rw [wC,wC,hS,hX,H5,show P.length+m+1=P.length+(m+1)from by omega,H5,List.getElem?_cons_succ]
   ·cases hx
  ·unfold uL at hx
   split at hx
   ·rename_i hlt
    have e:=List.mem_singleton.1 hx
    match Q,hS,zS with
    |[],_,zS=>simp at zS;omega
    |[d],_,zS=>simp at zS;omega
    |d::f::Q,hS,zS=>
     have hX:bytesOf x=P++f::d::Q:=by
      rw [e,Y9,hS,←hP,List.take_left,dk1,List.drop_left,dk2]
      simp
     have hz:=RJ hX
     rw [List.length_append,List.length_cons,List.length_cons] at hz
     rw [List.length_cons,List.length_cons] at zS
     refine⟨P.length,pre hX, .inr (.inr (.inr ⟨by omega,by omega,?_,?_,fun j h1 h2=>?_⟩))⟩
     ·have e0:=H5 P (d::f::Q) 0
      rw [Nat.add_zero] at e0
      rw [wC,wC,hS,hX,H5,e0]
      rfl
     ·have e0:=H5 P (f::d::Q) 0
      rw [Nat.add_zero] at e0
      rw [wC,wC,hS,hX,H5,e0]
      rfl
     ·obtain⟨m,rfl⟩: ∃m,j=P.length+(m+2):=⟨j-P.length-2,by omega⟩
      rw [wC,wC,hS,hX,H5,H5]
      rfl
   ·cases hx
theorem aQy {a b:ByteArray} (hb:gD b=true):(b∈fK a 0∧b≠a)↔wZ a b=1:=by
 constructor
 ·rintro⟨h,hne⟩
  obtain⟨p,hp⟩:=aNp h
  have h1:=aQB hp
  have h2:=(qH a b _ a.size b.size (Nat.le_refl _)).2.2.2.2.2
  have h3:wZ a b≠0:=fun e=>hne ((aAW a b).1 e).symm
  unfold wZ at*
  omega
 ·intro h
  refine⟨?_,?_⟩
  ·obtain⟨p,hp⟩:=aNv a b _ a.size b.size (Nat.le_refl _) h
   exact aQA hb hp
  ·rintro rfl
   rw [(aAW b b).2 rfl] at h
   omega
theorem aUB {a b:ByteArray} (ha:gD a=true):b∈rH a↔TD a b=1:=by
 rw [FT]
 unfold TD
 by_cases hb:gD b=true
 ·rw [if_pos ⟨ha,hb⟩,←aQy hb]
  exact⟨fun h=>⟨h.1,h.2.1⟩,fun h=>⟨h.1,h.2,hb⟩⟩
 ·rw [if_neg (fun h=>hb h.2)]
  exact⟨fun h=>absurd h.2.2 hb,fun h=>by omega⟩
theorem aEU (m:List St) (hm:m.length≤1048576) (hs: ∀s∈m,s.f1.length≤1048576):Ev (fun k=>mR.f k m) (aC4 m):=by
 have s1:=JW m hm hs
 unfold mR.f aC4
 cases e:vJ m with
 |false=>
  rw [e] at s1
  rw [if_neg (by simp)]
  exact Ev.bind s1 (bG (by simp) (Ev.now _))
 |true=>
  rw [e] at s1
  rw [if_pos rfl]
  obtain⟨g1,g2,g3⟩:=GJ e
  have hl:=aNr m
  exact Ev.bind s1 (aU rfl (Ev.bind (aEj m hs e) (eP (Ev.now _))))
theorem aDW (A:List Af) (E:List En) (s:ByteArray):(K5 A E s).length≤10:=by
 unfold K5
 split
 ·have h1:=(List.takeWhile_sublist (l:=U1 A E s) (fun g=>decide (g.f1=(bD (U1 A E s) 0).f1))).length_le
  have h2:=JA A E s
  unfold bgL
  omega
 ·simp
theorem takeWhile_eq {α:Type} (p:α→Bool): ∀(l:List α) (x:α),x∈l.takeWhile p→x∈l∧p x=true:=by
 intro l
 induction l with
 |nil=>intro x h;simp at h
 |cons a l ih=>
  intro x h
  rw [List.takeWhile_cons] at h
  split at h
  ·rename_i c
   rcases List.mem_cons.1 h with rfl|h
   ·exact⟨List.mem_cons_self,c⟩
   ·exact⟨List.mem_cons_of_mem _ (ih x h).1,(ih x h).2⟩
  ·simp at h
theorem aHP {A:List Af} {E:List En} {s:ByteArray} {g:Gu} (h:g∈K5 A E s):sP A E=true∧gD s=true∧g.f0∈iN A E []∧g.f1=wZ g.f0 s∧g.f1=(bD (U1 A E s) 0).f1:=by
 unfold K5 at h
 split at h
 ·rename_i c
  obtain⟨h1,h2⟩:=takeWhile_eq _ _ _ h
  have h3:=List.mem_of_mem_take h1
  have h4:=(List.mergeSort_perm _ _).mem_iff.1 h3
  obtain⟨w,hw,_,rfl⟩:=(aSJ _ _ _ _).1 h4
  exact⟨c.1,c.2.1,hw,rfl,by simpa using h2⟩
 ·simp at h
theorem aUt (A:List Af) (E:List En) (hb:ZN A E) (e:sP A E=true) (s:ByteArray) (hs:s.size≤1048576) (h:RZ (iN A E [])=true) (hA:(dJ (iN A E [])).length≤400) (hl:(K7 (iN A E [])).length≤400) (he: ∀x∈K7 (iN A E []),x.f1.length≤26):
  Ev (fun k=>aN.j3 k s (K7 (iN A E [])) A E) true:=by
 have hs1: ∀x∈K7 (iN A E []),x.f1.length≤1048576:=fun x hx=>by have:=he x hx;omega
 have h1:=YM (K7 (iN A E [])) (by omega) hs1 s hs
 have h2:=TZ A E hb s
 have h3:=aEU (K7 (iN A E [])) (by omega) hs1
 have h4:=UC A E hb
 have ew:KG A E=iN A E []:=by unfold KG;rw [if_pos e]
 rw [ew] at h4
 rw [(aKR h hA).2] at h3
 have ek:ML (K7 (iN A E [])) s=inB (iN A E []) s:=by
  rw [Bool.eq_iff_iff,aBb h hA,aUe]
 rw [ek] at h1
 rw [e,Bool.true_and] at h2
 refine Ev.step (fun k=>aN.j3.eq_2 ..) (Ev.bind h1 (Ev.bind h2 (aU (by simp) (Ev.bind h3 (Ev.bind h4 (fH (Ev.now _) (by simp)))))))
theorem aUs (A:List Af) (E:List En) (s:ByteArray) (m:List St) (l:List Gu) (hl:l.length≤10) (near:List ByteArray) (hn:near.length≤10000000) (hA: ∀g∈l,g.f0∈near) (fin:Ev (fun k=>aN.j3 k s m A E) true) (d:Nat):
  ∀i:Nat,i+d=l.length→Ev (fun k=>aN.l0 k s l m near (i:Int) A E) true:=by
 induction d with
 |zero=>
  intro i hi
  exact Ev.step (fun k=>aN.l0.eq_2 ..) (bG (by omega) fin)
 |succ d ih=>
  intro i hi
  have hi' :i<l.length:=by omega
  have h1:=hA _ (List.getElem_mem hi')
  obtain⟨b,h2,h3⟩:=aQr near l[i].f0 hn
  rw [h3.2 h1] at h2
  refine Ev.step (fun k=>aN.l0.eq_2 ..) (eP (eP ?_))
  rw [JR l i hi',w6 (n:=(i:Int)+1)]
  exact Ev.bind h2 (aU rfl (ih (i+1) (by omega)))
theorem FnMachineBook:aN.Pure:=by
 intro l0 hl hm hw
 refine Ev.rounds ?_
 unfold aN.f
 by_cases c0:(l0.length:Int)>1048576
 ·exact aU c0 (Ev.now _)
 obtain⟨A,E,s,hd,hb,hs⟩:=Z4 l0 hw
 have gi:=aSx A E hb s (by omega)
 have gs:=aSy A E hb s (by omega)
 have hlen:=aDW A E s
 have md:=aUu (K5 A E s) (by omega)
 refine bG c0 (Ev.bind hd (Ev.bind gi (Ev.bind gs (Ev.bind md (aU rfl (Ev.bind (JD A E hb) ?_))))))
 cases e:sP A E with
 |false=>exact Ev.step (fun k=>aN.j0.eq_2 ..) (aU (by simp) (Ev.bind gs (Ev.bind md (Ev.now _))))
 |true=>
  have wi:=UC A E hb
  have ew:KG A E=iN A E []:=by unfold KG;rw [if_pos e]
  rw [ew] at wi
  obtain⟨g1,g2,g3⟩:=TP e
  obtain⟨t1,t2⟩:=aKT (iN A E [])
  refine Ev.step (fun k=>aN.j0.eq_2 ..) (bG (by simp) (Ev.bind wi (Ev.bind (aQs _ (by omega) (fun x hx=>by have:=g3 x hx;omega)) ?_)))
  by_cases c1:(moB (iN A E [])).2=true
  case neg=>exact bG c1 (Ev.now _)
  obtain⟨k1,k2,k3⟩:=aQt c1
  rw [k3] at t1 t2⊢
  have hs1: ∀x∈K7 (iN A E []),x.f1.length≤1048576:=fun x hx=>by have:=t2 x hx;omega
  have fin:=aUt A E hb e s (by omega) k1 k2 t1 t2
  refine aU c1 (Ev.bind (aUA _ (by omega) hs1 s (by omega)) ?_)
  have stop:Ev (fun k=>aN.j1 k s (K5 A E s) (K7 (iN A E [])) (mgB (K7 (iN A E [])) s) false A E) true:=Ev.step (fun k=>aN.j1.eq_2 ..) (bG (by simp) fin)
  by_cases c2:((K5 A E s).length:Int)>0
  case neg=>exact bG c2 stop
  refine aU c2 (eP ?_)
  have hg0:=JR (K5 A E s) 0 (by omega)
  cases c3:(((bD (K5 A E s) 0).f1)==1)with
  |false=>exact stop
  |true=>
   have hf:(K5 A E s)[0].f1=1:=by
    rw [←hg0]
    simpa using c3
   have m0:=aHP (List.getElem_mem (l:=K5 A E s) (n:=0) (by omega))
   refine Ev.step (fun k=>aN.j1.eq_2 ..) (aU rfl (aUs A E s _ _ hlen _ (by have:=aGA (K7 (iN A E [])) s;omega) (fun g hg=>?_) fin (K5 A E s).length 0 (by omega)))
   obtain⟨_,q1,q2,q3,q4⟩:=aHP hg
   unfold mgB
   rw [if_pos ⟨aGx k1 k2,q1⟩,List.mem_filter]
   refine⟨(aUB q1).2 ?_,(aBb k1 k2 _).2 q2⟩
   unfold TD
   rw [if_pos ⟨q1,g2 _ q2⟩,aKF,←q3,q4,←m0.2.2.2.2,hf]
end Go.Proofs.YtpljfjbhlboffaaGreat.Pure

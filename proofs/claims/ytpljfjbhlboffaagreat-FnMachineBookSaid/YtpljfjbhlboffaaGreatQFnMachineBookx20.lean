import Derived.Test.YtpljfjbhlboffaaGreatQFnMachineBookx15
namespace Go.Proofs.YtpljfjbhlboffaaGreat.eH
open Go.RowKit Go.Proofs.YtpljfjbhlboffaaGreatW.bJ Go.Proofs.YtpljfjbhlboffaaGreatW.gI Go.Proofs.YtpljfjbhlboffaaGreatW.jC Go.Proofs.YtpljfjbhlboffaaGreat.Sh
attribute [local go_sem] rD rF uY uZ pE pF rE rG
set_option linter.unusedVariables false
set_option linter.unusedSimpArgs false
set_option maxHeartbeats 8000000
set_option maxRecDepth 100000
def dC.f (l0:List ByteArray):Option (List ByteArray):=if l0.length≤1000000000 then some (M.J3 l0)else none
def dC.ba (l:List UInt8):ByteArray:=⟨l.toArray⟩
theorem dC.aH9 (ss:List (List UInt8)):vS Value.string (ss.map dC.ba)=ss.map encStr:=by
 unfold vS
 rw [List.map_map]
 rfl
theorem dC.own {W:World} {base:Nat} {v:Value} {ss:List (List UInt8)} (h:Kd.R Kd.string 9 W base (fun _=>True) v (ss.map dC.ba)):W.ownsRow base 9 1 v ss.length (ss.map encStr):=by
 have:=Kd.vU h
 rw [dC.aH9,List.length_map] at this
 exact this
theorem dC.row {W:World} {base:Nat} {v:Value} {ss:List (List UInt8)} (h:W.ownsRow base 9 1 v ss.length (ss.map encStr)):Kd.R Kd.string 9 W base (fun _=>True) v (ss.map dC.ba):=
 Kd.NY (by rw [dC.aH9,List.length_map];exact h) (fun _ _=>trivial)
theorem dC.holds {w:World} {base:Nat} {g n cap:Nat} {zs:List (List UInt8)} (h:w.ownsRow base 9 1 (.slice (some ⟨g,0,none⟩) n cap) n (zs.map encStr)):
  base≤g∧g<w.heap.size∧n≤cap∧zs.length=n∧Sort.Holds encStr w g 0 zs.toArray:=by
 obtain⟨g',cap',e,h1,h2,h3,_,h5,h6⟩:=Go.Lib.holds_of_ownsRow h (by intro e;cases e)
 cases e
 exact⟨h1,h2,h3,h5,h6⟩
set_option maxHeartbeats 1000000 in
theorem dC.sort {w0 W:World} {base:Nat} {v:Value} {ss:List (List UInt8)} (h:Kd.R Kd.string 9 W base (fun _=>True) v (ss.map dC.ba)) (hB:Below base w0 W) (hbase:base≤W.heap.size) (hl:ss.length≤1000000000):
  Calls Tryz.prog 91 #[v] W fun e w' =>e= .returned (.tuple #[])∧Kd.R Kd.string 9 w' base (fun _=>True) v ((ss.mergeSort M.leU).map dC.ba)∧Below base w0 w' ∧base≤w'.heap.size:=by
 have ho:=dC.own h
 rcases ho.2 with ⟨rfl,h0⟩|⟨g,cap,cur,rfl,hb,hg,h1,h2,h3,h4⟩
 ·have e0:ss=[]:=List.length_eq_zero_iff.1 h0
  subst e0
  have:=Any.slices_Sort_string_none Try.aJI none 0 W
  change Calls Tryz.prog 91 _ _ _ at this
  refine this.mono ?_
  rintro e w' ⟨he,rfl⟩
  exact⟨he,by simpa using h,hB,hbase⟩
 ·obtain⟨hbg,hgl,hc,_,hH⟩:=dC.holds ho
  have:=Any.slices_Sort_string Try.aJI g 0 cap ss W hH hgl (by omega)
  change Calls Tryz.prog 91 _ _ _ at this
  refine this.mono ?_
  rintro e w' ⟨he,n,os,rfl⟩
  have hl2:(ss.mergeSort M.leU).length=ss.length:=List.length_mergeSort ss
  have hs:=ownsRow_sorted (n:=n) (os:=os) (ts:=ss.mergeSort M.leU) hl2 hb hg h1 h2 h3;rw [←hl2] at hs
  refine⟨he,?_,?_,?_⟩
  ·have:=dC.row hs
   rw [hl2] at this
   exact this
  ·exact hB.grown (grownBy_sorted _) hbase (fun j hj=>by cases hj;exact hbg)
  ·exact Nat.le_trans hbase (grownBy_sorted (w:=W) (g:=g) (n:=n) (os:=os) (ss.mergeSort M.leU).toArray).size
set_option maxHeartbeats 1000000 in
theorem dC.compact {w0 W:World} {base:Nat} {v:Value} {ss:List (List UInt8)} (h:Kd.R Kd.string 9 W base (fun _=>True) v (ss.map dC.ba)) (hB:Below base w0 W) (hbase:base≤W.heap.size) (hl:ss.length≤1000000000):
  Calls Tryz.prog 92 #[v] W fun e w' => ∃A c,e= .returned (.slice A (Go.Lib.compact ss).length c)∧Kd.R Kd.string 9 w' base (fun _=>True) (.slice A (Go.Lib.compact ss).length c) ((Go.Lib.compact ss).map dC.ba)∧Below base w0 w' ∧W.grownBy w' v.ownBlock:=by
 have ho:=dC.own h
 rcases ho.2 with ⟨rfl,h0⟩|⟨g,cap,cur,rfl,hb,hg,h1,h2,h3,h4⟩
 ·have e0:ss=[]:=List.length_eq_zero_iff.1 h0
  subst e0
  have:=Any.slices_Compact_string_empty Try.YO none 0 W
  change Calls Tryz.prog 92 _ _ _ at this
  refine this.mono ?_
  rintro e w' ⟨he,rfl⟩
  exact⟨none,0,he,h,hB,⟨rfl,rfl,rfl,Nat.le_refl _,fun _ _ _=>rfl⟩⟩
 ·obtain⟨hbg,hgl,hc,_,hH⟩:=dC.holds ho
  have:=Any.slices_Compact_string Try.YO g 0 cap ss W hH (by omega) h1
  change Calls Tryz.prog 92 _ _ _ at this
  refine this.mono ?_
  rintro e w' ⟨he,q,rfl⟩
  have hle:=Go.Lib.compact_length_le ss
  have hc2:=Go.Lib.ownsRow_putRow (q:=q) (k:=(Go.Lib.compact ss).length) (ys:=Go.Lib.compact ss++List.replicate (ss.length-(Go.Lib.compact ss).length) []) ho (by simp;omega) (by omega)
  rw [List.take_left] at hc2
  refine⟨_,_,he,dC.row hc2,Go.Lib.below_putRow hB hbg,rfl,rfl,rfl,by simp [Sort.putRow,Sort.mapBlock,Sort.ahead],fun k hk hne=>?_⟩
  have:g≠k:=fun e=>hne (by rw [←e];rfl)
  simp [Sort.putRow,Sort.mapBlock,Sort.ahead,Array.getElem?_modify,this]
theorem dC.apart {W W1:World} {base:Nat} {v v9:Value} {xs:List ByteArray} (h:Kd.R Kd.string 9 W base (fun _=>True) v xs) (h9:Kd.R Kd.string 9 W1 base (fun _=>True) v9 []) (hn: ∃b,v9.ownBlock=some b∧W.heap.size≤b):
  Kd.R Kd.string 9 W1 base (fun k=>some k≠v.ownBlock) v9 []:=by
 refine Kd.NY (Kd.vU h9) (fun k hk=>?_)
 obtain⟨b,hb,hle⟩:=hn;rw [hb] at hk
 cases hk
 intro e
 rcases(Kd.vU h).2 with ⟨rfl,_⟩|⟨g,cap,cur,rfl,hbg,hg,_⟩
 ·simp [Value.ownBlock] at e
 ·have e2:k=g:=by simpa [Value.ownBlock] using e
  have:=(Array.getElem?_eq_some_iff.1 hg).1
  omega
theorem dC.aAM (l:List ByteArray):(l.map (·.data.toList)).map dC.ba=l:=by
 rw [List.map_map]
 conv=>rhs;rw [←List.map_id l]
 exact List.map_congr_left (fun x _=>M.aAM x)
theorem dC.aNu {w0 W:World} {base:Nat} {v:Value} {l:List ByteArray} (h:Kd.R Kd.string 9 W base (fun _=>True) v (((l.map (·.data.toList)).mergeSort M.leU).map dC.ba)) (hB:Below base w0 W) (hbase:base≤W.heap.size) (hl:l.length≤1000000000):
  Calls Tryz.prog 92 #[v] W fun e w' => ∃A c,e= .returned (.slice A (M.J3 l).length c)∧Kd.R Kd.string 9 w' base (fun _=>True) (.slice A (M.J3 l).length c) (M.J3 l)∧Below base w0 w' ∧W.grownBy w' v.ownBlock:=by
 have:=dC.compact (w0:=w0) h hB hbase (by rw [List.length_mergeSort,List.length_map];exact hl)
 rw [M.aLd,List.length_map,dC.aAM] at this
 exact this
set_option maxHeartbeats 4000000 in
set_option maxRecDepth 100000 in
theorem dC.calls (A0:Option Addr) (c0:Nat) (l0:List ByteArray) (r:List ByteArray) (w:World) (hr0:Kd.C Kd.string w A0 l0.length l0) (hc0:l0.length≤c0) (h:dC.f l0=some r):
  Calls Tryz.prog 62 #[.slice A0 l0.length c0] w fun e w' => ∃sQ:Value,e= .returned (sQ)∧Kd.R Kd.string 9 w' w.heap.size (fun _=>True) sQ r∧Below w.heap.size w w' :=by
 unfold dC.f at h
 split at h
 case isFalse=>cases h
 rename_i hsz;obtain rfl:=Option.some.inj h;clear h;have hsl:=M.aE7 l0;have HR:=am hr0;clear hr0;go_enter Tryz.func62,Tryz.ntmps62
 go_wp2_with (first
  |(refine gd 4 ?_;refine Kd.mJ Kd.string w.heap.size 9 ?hg (N:=4) ?hd (xs:=([]:List ByteArray)) (inner:=[]) (ok:=fun _=>True) (mK:=fun _=>True) ?hr ?hp (fun _ hk=>hk) trivial (Below.refl _ _) (Nat.le_refl _) (by simp) ?_;(case hd=>rfl);(case hg=>rfl);(case hr=>(go_simp;done));(case hp=>exact(dQ.none _ _));intro v4 w1 ho hb lL dP;have HO4:=am ho;have HB1:=am hb;clear ho hb lL dP)
  |((with_reducible refine gL (b:= .append) (xs:= #[.tmp 4, .tmp 5]) rfl ?_);at_builtin;refine Kd.NW Value.string (⟨#[]⟩:ByteArray) (h1:=fun _=>rfl) (w0:=w) w.heap.size rfl (.tmp 4) (.tmp 5) 36 9 (.string ⟨#[]⟩) 16 rfl Tryz.underlying36 zI rfl (by decide) v4 [] l0 A0 l0.length c0 (fun _=>True) rfl rfl (fun _ _=>trivial) HO4.out (Kd.dV HR.out HB1.out) HB1.out (aH HB1.out) (by simp;omega) ?_;intro v6 w2 ho hb lL a0K;rw [List.nil_append] at ho;have HO6:=am ho;have HB2:=am hb;clear ho hb lL a0K HO4 HB1)
  |(go_at_call 91;refine(dC.sort (w0:=w) (base:=w.heap.size) (ss:=l0.map (·.data.toList)) (by rw [dC.aAM];exact HO6.out) HB2.out (aH HB2.out) (by simpa using hsz)).mono ?_;rintro e w3 ⟨rfl,hR3,hB3,hs3⟩;have HO7:=am hR3;have HB3:=am hB3;clear hR3 hB3 hs3 HO6 HB2)
  |(refine gd 9 ?_;refine Kd.mJ Kd.string w.heap.size 9 ?hg (N:=9) ?hd (xs:=([]:List ByteArray)) (inner:=[]) (ok:=fun _=>True) (mK:=fun _=>True) ?hr ?hp (fun _ hk=>hk) trivial HB3.out (aH HB3.out) (by simp) ?_;(case hd=>rfl);(case hg=>rfl);(case hr=>(go_simp;done));(case hp=>exact(dQ.none _ _));intro v9 w4 ho hb lL dP;have HO8:=am (Kd.bA (Kd.aHC HO7.out lL (fun _ _ h=>by cases h)) (fun _ _=>trivial));have HO9:=am (dC.apart HO7.out ho dP);have HB4:=am hb;clear ho hb lL dP HO7 HB3)
  |(go_at_call 92;refine(dC.aNu (w0:=w) (base:=w.heap.size) HO8.out HB4.out (aH HB4.out) hsz).mono ?_;rintro e w5 ⟨A5,c5,rfl,hR5,hB5,hg5⟩;have HO5:=am hR5;have a5o:=am (Kd.bA (Kd.aHC HO9.out hg5 (fun _ h=>h)) (fun _ _=>trivial));have HB5:=am hB5;clear hR5 hB5 hg5 HO8 HO9 HB4)
  |((with_reducible refine gL (b:= .append) (xs:= #[.tmp 9, .tmp 11]) rfl ?_);at_builtin;refine Kd.NW Value.string (⟨#[]⟩:ByteArray) (h1:=fun _=>rfl) (w0:=w) w.heap.size rfl (.tmp 9) (.tmp 11) 36 9 (.string ⟨#[]⟩) 16 rfl Tryz.underlying36 zI rfl (by decide) v9 [] (M.J3 l0) A5 (M.J3 l0).length c5 (fun _=>True) rfl rfl (fun _ _=>trivial) a5o.out (Kd.aM HO5.out).2.2 HB5.out (aH HB5.out) (by simp;omega) ?_;intro v12 w6 ho hb lL a0K;rw [List.nil_append] at ho;have bFu:=am ho;have HB6:=am hb;clear ho hb lL a0K a5o HB5))
 go_ret
 exact⟨v12,rfl,bFu.out,HB6.out⟩
def strings_Contains.f (a0:ByteArray) (a1:ByteArray):Option Bool:=if a1.size=1 then some (a0.data.toList.contains (a1.data.toList.headD 0))else none
theorem strings_Contains.index (s:List UInt8) (c:UInt8):decide (0≤Go.Lib.indexByte s c)=s.contains c:=by
 have h1: ∀s:List UInt8,-1≤Go.Lib.indexByte s c:=by
  intro s
  induction s with
  |nil=>simp [Go.Lib.indexByte]
  |cons b l ih=>
   unfold Go.Lib.indexByte
   split
   ·omega
   ·split<;>omega
 induction s with
 |nil=>simp [Go.Lib.indexByte]
 |cons b l ih=>
  unfold Go.Lib.indexByte
  rw [List.contains_cons]
  by_cases e:b=c
  ·subst e
   simp
  ·have e2:(b==c)=false:=by simpa using e
   have e3:(c==b)=false:=by simpa using fun h=>e h.symm
   rw [e2,e3,Bool.false_or,←ih]
   have:=h1 l
   simp only [Bool.false_eq_true,if_false,beq_iff_eq]
   rw [decide_eq_decide]
   split<;>omega
theorem strings_Contains.calls (a0:ByteArray) (a1:ByteArray) (r:Bool) (w:World) (h:strings_Contains.f a0 a1=some r):
  Calls Tryz.prog 89 #[.string a0, .string a1] w fun e w' =>e= .returned (.bool r)∧iB w w' :=by
 unfold strings_Contains.f at h
 split at h
 case isFalse=>cases h
 rename_i hs;obtain rfl:=Option.some.inj h;obtain⟨⟨l⟩⟩:=a1
 match l,hs with
 |[c],_=>
  have:=Any.strings_Contains_one Try.a2g a0 c w
  change Calls Tryz.prog 89 _ _ _ at this
  refine this.mono ?_
  rintro e w' ⟨he,rfl⟩
  refine⟨?_,0,rfl⟩
  rw [he,strings_Contains.index]
  rfl
def jG.j0:Nat→ByteArray→Bool→ByteArray→Bool→ByteArray→ByteArray→ByteArray→Option (ByteArray×Bool)
 |0,_,_,_,_,_,_,_=>none
 |k+1,x1,x14,bEK,aVF,yJ,K3,aJ3=>if x14=true then(some ((⟨#[]⟩:ByteArray),false))else(if aVF=true then((jJ.f x1 aJ3).bind fun bBX=>(if bBX=true then(if 0≤(yJ.size:Int)then(if(yJ.size:Int)≤(x1.size:Int)then(if K3.size+(x1.extract yJ.size x1.size).size≤9223372036854775807 then((eD.f k (K3++(x1.extract yJ.size x1.size))).bind fun bBY=>(if bBY=true then(some (K3++(x1.extract yJ.size x1.size),true))else(some ((⟨#[]⟩:ByteArray),false))))else(none))else(none))else(none))else(some ((⟨#[]⟩:ByteArray),false))))else((jK.f x1 aJ3).bind fun bBZ=>(if bBZ=true then(if 0≤(wrap64 ((x1.size:Int)-(yJ.size:Int)))then(if(wrap64 ((x1.size:Int)-(yJ.size:Int)))≤(x1.size:Int)then(if(x1.extract 0 ((wrap64 ((x1.size:Int)-(yJ.size:Int))):Int).toNat).size+K3.size≤9223372036854775807 then((eD.f k ((x1.extract 0 ((wrap64 ((x1.size:Int)-(yJ.size:Int))):Int).toNat)++K3)).bind fun bB0=>(if bB0=true then(some ((x1.extract 0 ((wrap64 ((x1.size:Int)-(yJ.size:Int))):Int).toNat)++K3,true))else(some ((⟨#[]⟩:ByteArray),false))))else(none))else(none))else(none))else(some ((⟨#[]⟩:ByteArray),false)))))
def jG.f (k:Nat) (iD:ByteArray) (iG:Bool) (jM:ByteArray) (kU:ByteArray) (l5:ByteArray) (a1:ByteArray):Option (ByteArray×Bool):=(fC.f k iD iG jM kU l5).bind fun bBW=>(if bBW=true then((eD.f k a1).bind fun aVc=>(jG.j0 k a1 (!aVc) iD iG jM kU l5))else(jG.j0 k a1 true iD iG jM kU l5))
theorem jG.calls (k:Nat) (iD:ByteArray) (iG:Bool) (jM:ByteArray) (kU:ByteArray) (l5:ByteArray) (a1:ByteArray) (r1:ByteArray) (r2:Bool) (w:World) (h:jG.f k iD iG jM kU l5 a1=some (r1,r2)):
  Calls Tryz.prog 90 #[.agg #[.string iD, .bool iG, .string jM, .string kU, .string l5], .string a1] w fun e w' =>e= .returned (.tuple #[.string r1, .bool r2])∧Below w.heap.size w w' :=by
 have U8:=Tryz.underlying87;have HB:=am (Below.refl w.heap.size w)
 have H:=h;unfold jG.f at H
 clear h;have FZ:=am H;clear H;go_enter Tryz.func90,Tryz.ntmps90
 go_upto_region 1 with (refine gd 2 ?_;refine bx 2 (cs:= #[.string iD, .bool iG, .string jM, .string kU, .string l5]) (t:=87) ?_;intro aNR hg w4 bT hb;have BJ:=am (bT);have bMG:=am ((kI:w.heap.size≤aNR));have IX:=am ((kI:w.heap.size≤aNR));replace HB:=o8 hb;clear hb bT hg)
 go_cut [14] (fun v14 wc=> ∃(kq:Nat) (aRp:Bool),v14= .bool aRp∧aC (jG.j0 kq a1 aRp iD iG jM kU l5=some (r1,r2))∧aC (kq≤k)∧aC (wc.heap[aNR]?=some (.cells #[.string iD, .bool iG, .string jM, .string kU, .string l5] 87 (0,0)))∧aC (Below w.heap.size w wc))
 case first=>
  have H:=FZ.out;clear FZ;replace H:=ba H;obtain⟨bBW,A5,H⟩:=H
  replace H:=ib H;rcases H with ⟨rfl,H⟩|⟨rfl,H⟩
  ·replace H:=ba H;obtain⟨aVc,A7,H⟩:=H
   have H' :=am H
   clear H;have⟨_,_,_,_,_,_,_,_,_,_⟩:=yM BJ.out
   go_wp2_with (first|(go_at_call 85;(with_reducible refine(fC.calls k iD iG jM kU l5 true _ A5.out).mono ?_);rintro e w9 ⟨rfl,hb⟩;replace BJ:=kb BJ hb;replace HB:=st1 IX hb;clear hb)|(go_at_call 21;(with_reducible refine(eD.calls k a1 aVc _ A7.out).mono ?_);rintro e w' ⟨rfl,⟨nd,rfl⟩⟩))
   go_meet
   case rel=>exact⟨_,(!aVc),sq,H',⟨xI⟩,⟨bq BJ.out⟩,⟨cK IX.out⟩⟩
  have H' :=am H
  clear H;have⟨_,_,_,_,_,_,_,_,_,_⟩:=yM BJ.out
  go_wp2_with (go_at_call 85;(with_reducible refine(fC.calls k iD iG jM kU l5 false _ A5.out).mono ?_);rintro e w11 ⟨rfl,hb⟩;replace BJ:=kb BJ hb;replace HB:=st1 IX hb;clear hb)
  go_meet
  case rel=>exact⟨_,(true),sq,H',⟨xI⟩,⟨bq BJ.out⟩,⟨cK IX.out⟩⟩
 case rest=>
  clear FZ;obtain⟨kq,aRp,rfl,HA,HJ2,BJ,HB⟩:=hcut
  cases kq with
  |zero=>exact absurd HA.out (by simp [jG.j0])
  |succ D8=>
   have H:=HA.out;clear HA;simp only [jG.j0] at H
   replace H:=ib H;rcases H with ⟨rfl,H⟩|⟨rfl,H⟩
   ·simp only [Option.some.injEq,Prod.mk.injEq] at H
    obtain⟨rfl,rfl⟩:=H;go_wp2
    go_ret2
    exact⟨nD,cK IX.out⟩
   replace H:=ib H;rcases H with ⟨rfl,H⟩|⟨rfl,H⟩
   ·replace H:=ba H;obtain⟨bBX,A14,H⟩:=H
    replace H:=ib H;rcases H with ⟨rfl,H⟩|⟨rfl,H⟩
    ·replace H:=ip H;obtain⟨c16,H⟩:=H;have BZ:=eq_true c16
     have aH3:decide (0≤(jM.size:Int))=true:=decide_eq_true c16
     clear c16;replace H:=ip H;obtain⟨c17,H⟩:=H;have FE:=eq_true c17
     have bNF:(jM.size≤a1.size)=True:=eq_true (by omega)
     have bNE:decide (jM.size≤a1.size)=true:=decide_eq_true (by omega)
     have XW:decide ((jM.size:Int)≤(a1.size:Int))=true:=decide_eq_true c17
     clear c17;replace H:=ip H;obtain⟨c18,H⟩:=H;have L8:=eq_true c18;have aXe:=c18
     simp at aXe
     have bNI:=eq_false (Nat.not_lt.2 aXe)
     try have bNH:(9223372036854775807<kU.size+(a1.size-jM.size))=False:=by
           have h_:=c18
           simp only [ByteArray.size_append,ByteArray.size_extract] at h_
           exact eq_false (by omega)
     have aH4:decide (kU.size+(a1.extract jM.size a1.size).size≤9223372036854775807)=true:=decide_eq_true c18
     have bNG:(9223372036854775807<kU.size+(a1.extract jM.size a1.size).size)=False:=eq_false (Nat.not_lt.2 c18)
     replace H:=ba H;obtain⟨bBY,A19,H⟩:=H
     replace H:=ib H;rcases H with ⟨rfl,H⟩|⟨rfl,H⟩
     ·simp only [Option.some.injEq,Prod.mk.injEq] at H
      obtain⟨rfl,rfl⟩:=H;have⟨_,_,_,_,_,_,_,_,_,_⟩:=yM BJ.out
      go_wp2_with (go_at_call 111;(with_reducible refine(jJ.calls a1 l5 true _ A14.out).mono ?_);rintro e w' ⟨rfl,⟨nd,rfl⟩⟩)
      repeat(go_quiet (fail);try go_wp2_with (go_at_call 21;(with_reducible refine(eD.calls D8 (kU++(a1.extract jM.size a1.size)) true _ A19.out).mono ?_);rintro e w' ⟨rfl,⟨nd,rfl⟩⟩))
      go_ret2
      exact⟨nD,cK IX.out⟩
     simp only [Option.some.injEq,Prod.mk.injEq] at H
     obtain⟨rfl,rfl⟩:=H;have⟨_,_,_,_,_,_,_,_,_,_⟩:=yM BJ.out
     go_wp2_with (go_at_call 111;(with_reducible refine(jJ.calls a1 l5 true _ A14.out).mono ?_);rintro e w' ⟨rfl,⟨nd,rfl⟩⟩)
     repeat(go_quiet (fail);try go_wp2_with (go_at_call 21;(with_reducible refine(eD.calls D8 (kU++(a1.extract jM.size a1.size)) false _ A19.out).mono ?_);rintro e w' ⟨rfl,⟨nd,rfl⟩⟩))
     go_ret2
     exact⟨nD,cK IX.out⟩
    simp only [Option.some.injEq,Prod.mk.injEq] at H
    obtain⟨rfl,rfl⟩:=H;have⟨_,_,_,_,_,_,_,_,_,_⟩:=yM BJ.out
    go_wp2_with (go_at_call 111;(with_reducible refine(jJ.calls a1 l5 false _ A14.out).mono ?_);rintro e w' ⟨rfl,⟨nd,rfl⟩⟩)
    go_ret2
    exact⟨nD,cK IX.out⟩
   replace H:=ba H;obtain⟨bBZ,A24,H⟩:=H
   replace H:=ib H;rcases H with ⟨rfl,H⟩|⟨rfl,H⟩
   ·obtain⟨aCW,aOj⟩: ∃j_:Int,(wrap64 ((a1.size:Int)-(jM.size:Int)))=j_:=⟨_,rfl⟩
    rw [aOj] at H
    have bIQ:(IntKind.i64.wrap ((a1.size:Int)-(jM.size:Int)))=aCW:=(iZ _).trans aOj
    replace H:=ip H;obtain⟨ZV,H⟩:=H;have aAR:=eq_true ZV
    have aXj:decide (0≤(aCW))=true:=decide_eq_true ZV
    clear ZV;replace H:=ip H;obtain⟨c28,H⟩:=H;have aXk:=eq_true c28
    have bNV:decide ((aCW)≤(a1.size:Int))=true:=decide_eq_true c28
    clear c28;replace H:=ip H;obtain⟨c29,H⟩:=H;have UD:=eq_true c29;have aXm:=c29
    simp at aXm
    have bNY:=eq_false (Nat.not_lt.2 aXm)
    try have bNX:(9223372036854775807<((aCW):Int).toNat+kU.size)=False:=by
          have h_:=c29
          simp only [ByteArray.size_append,ByteArray.size_extract] at h_
          have g0_:((aCW))≤(a1.size:Int):=dt
          exact eq_false (by omega)
    have aXl:decide ((a1.extract 0 ((aCW):Int).toNat).size+kU.size≤9223372036854775807)=true:=decide_eq_true c29
    have bNW:(9223372036854775807<(a1.extract 0 ((aCW):Int).toNat).size+kU.size)=False:=eq_false (Nat.not_lt.2 c29)
    replace H:=ba H;obtain⟨bB0,A30,H⟩:=H
    replace H:=ib H;rcases H with ⟨rfl,H⟩|⟨rfl,H⟩
    ·simp only [Option.some.injEq,Prod.mk.injEq] at H
     obtain⟨rfl,rfl⟩:=H;have⟨_,_,_,_,_,_,_,_,_,_⟩:=yM BJ.out
     go_wp2_with (go_at_call 112;(with_reducible refine(jK.calls a1 l5 true _ A24.out).mono ?_);rintro e w' ⟨rfl,⟨nd,rfl⟩⟩)
     repeat(go_quiet (fail);try go_wp2_with (go_at_call 21;(with_reducible refine(eD.calls D8 ((a1.extract 0 ((aCW):Int).toNat)++kU) true _ A30.out).mono ?_);rintro e w' ⟨rfl,⟨nd,rfl⟩⟩))
     go_ret2
     exact⟨aWE,cK IX.out⟩
    simp only [Option.some.injEq,Prod.mk.injEq] at H
    obtain⟨rfl,rfl⟩:=H;have⟨_,_,_,_,_,_,_,_,_,_⟩:=yM BJ.out
    go_wp2_with (go_at_call 112;(with_reducible refine(jK.calls a1 l5 true _ A24.out).mono ?_);rintro e w' ⟨rfl,⟨nd,rfl⟩⟩)
    repeat(go_quiet (fail);try go_wp2_with (go_at_call 21;(with_reducible refine(eD.calls D8 ((a1.extract 0 ((aCW):Int).toNat)++kU) false _ A30.out).mono ?_);rintro e w' ⟨rfl,⟨nd,rfl⟩⟩))
    go_ret2
    exact⟨aWE,cK IX.out⟩
   simp only [Option.some.injEq,Prod.mk.injEq] at H
   obtain⟨rfl,rfl⟩:=H;have⟨_,_,_,_,_,_,_,_,_,_⟩:=yM BJ.out
   go_wp2_with (go_at_call 112;(with_reducible refine(jK.calls a1 l5 false _ A24.out).mono ?_);rintro e w' ⟨rfl,⟨nd,rfl⟩⟩)
   go_ret2
   exact⟨nD,cK IX.out⟩
mutual
def bK.j0:Nat→List (kH)→Bool→ByteArray→ByteArray→Option (List ByteArray)
 |0,_,_,_,_=>none
 |k+1,x0,x21,oF,oZ=>if x21=true then(some (([]:List ByteArray)))else((some (([false,true]:List Bool):List Bool)).bind fun qM=>(bK.l0 k x0 (([oF]:List ByteArray)) qM (qM.length:Int) 0 oF oZ))
def bK.l0:Nat→List (kH)→List ByteArray→List Bool→Int→Int→ByteArray→ByteArray→Option (List ByteArray)
 |0,_,_,_,_,_,_,_=>none
 |k+1,x0,x5,TR,x27,x28,oF,oZ=>if x28<x27 then(if 0≤x28 then(if x28<(TR.length:Int)then((some (([]:List ByteArray):List ByteArray)).bind fun aRE=>(if aRE.length+x5.length<8796093022208 then((some (aRE++x5:List ByteArray)).bind fun sZ=>(bK.l1 k x0 x5 (bP false TR x28) TR x27 x28 sZ (sZ.length:Int) 0 oF oZ))else(none)))else(none))else(none))else((dC.f x5).bind fun a3b=>(some a3b))
def bK.l1:Nat→List (kH)→List ByteArray→Bool→List Bool→Int→Int→List ByteArray→Int→Int→ByteArray→ByteArray→Option (List ByteArray)
 |0,_,_,_,_,_,_,_,_,_,_,_=>none
 |k+1,x0,x5,x7,TR,x27,x28,x34,x35,x36,oF,oZ=>if x36<x35 then(if 0≤x36 then(if x36<(x34.length:Int)then(bK.l2 k x0 x5 x7 (bP ByteArray.empty x34 x36) TR x27 x28 x34 x35 x36 x0 (x0.length:Int) 0 oF oZ)else(none))else(none))else(bK.l0 k x0 x5 TR x27 (wrap64 (x28+1)) oF oZ)
def bK.l2:Nat→List (kH)→List ByteArray→Bool→ByteArray→List Bool→Int→Int→List ByteArray→Int→Int→List (kH)→Int→Int→ByteArray→ByteArray→Option (List ByteArray)
 |0,_,_,_,_,_,_,_,_,_,_,_,_,_,_,_=>none
 |k+1,x0,x5,x7,x9,TR,x27,x28,x34,x35,x36,x40,x41,VK,oF,oZ=>if VK<x41 then(if 0≤VK then(if VK<(x40.length:Int)then(if(((aD x40 VK).f1) !=x7)=true then(bK.j4 k x0 x5 x7 x9 TR x27 x28 x34 x35 x36 x40 x41 VK true oF oZ ((aD x40 VK).f0) ((aD x40 VK).f1) ((aD x40 VK).f2) ((aD x40 VK).f3) ((aD x40 VK).f4))else((strings_Contains.f oZ ((aD x40 VK).f0)).bind fun aVe=>(bK.j4 k x0 x5 x7 x9 TR x27 x28 x34 x35 x36 x40 x41 VK (!aVe) oF oZ ((aD x40 VK).f0) ((aD x40 VK).f1) ((aD x40 VK).f2) ((aD x40 VK).f3) ((aD x40 VK).f4))))else(none))else(none))else(bK.l1 k x0 x5 x7 TR x27 x28 x34 x35 (wrap64 (x36+1)) oF oZ)
def bK.j4:Nat→List (kH)→List ByteArray→Bool→ByteArray→List Bool→Int→Int→List ByteArray→Int→Int→List (kH)→Int→Int→Bool→ByteArray→ByteArray→ByteArray→Bool→ByteArray→ByteArray→ByteArray→Option (List ByteArray)
 |0,_,_,_,_,_,_,_,_,_,_,_,_,_,_,_,_,_,_,_,_,_=>none
 |k+1,x0,x5,x7,x9,TR,x27,x28,x34,x35,x36,x40,x41,VK,x57,oF,oZ,WK,WL,WM,WN,WO=>if x57=true then(bK.l2 k x0 x5 x7 x9 TR x27 x28 x34 x35 x36 x40 x41 (wrap64 (VK+1)) oF oZ)else(if x7=true then(bK.j5 k x0 x5 x7 x9 TR x27 x28 x34 x35 x36 x40 x41 VK true oF oZ WK WL WM WN WO)else(bK.j5 k x0 x5 x7 x9 TR x27 x28 x34 x35 x36 x40 x41 VK (x9.toList==oF.toList) oF oZ WK WL WM WN WO))
def bK.j5:Nat→List (kH)→List ByteArray→Bool→ByteArray→List Bool→Int→Int→List ByteArray→Int→Int→List (kH)→Int→Int→Bool→ByteArray→ByteArray→ByteArray→Bool→ByteArray→ByteArray→ByteArray→Option (List ByteArray)
 |0,_,_,_,_,_,_,_,_,_,_,_,_,_,_,_,_,_,_,_,_,_=>none
 |k+1,x0,x5,x7,x9,TR,x27,x28,x34,x35,x36,x40,x41,VK,x64,oF,oZ,WK,WL,WM,WN,WO=>if x64=true then((jG.f k WK WL WM WN WO x9).bind fun aXb=>(if aXb.2=true then(if x5.length<8796093022208 then(bK.l2 k x0 (x5++[aXb.1]) x7 x9 TR x27 x28 x34 x35 x36 x40 x41 (wrap64 (VK+1)) oF oZ)else(none))else(bK.l2 k x0 x5 x7 x9 TR x27 x28 x34 x35 x36 x40 x41 (wrap64 (VK+1)) oF oZ)))else(bK.l2 k x0 x5 x7 x9 TR x27 x28 x34 x35 x36 x40 x41 (wrap64 (VK+1)) oF oZ)
end
def bK.f (k:Nat) (l0:List (kH)) (fP:ByteArray) (fZ:ByteArray):Option (List ByteArray):=(dO.f k l0).bind fun bB1=>(if bB1=true then((gQ.f k fP fZ).bind fun aVd=>(bK.j0 k l0 (!aVd) fP fZ))else(bK.j0 k l0 true fP fZ))
theorem bK.calls (k:Nat) (A0:Option Addr) (c0:Nat) (l0:List (kH)) (fP:ByteArray) (fZ:ByteArray) (r:List ByteArray) (w:World) (hr0:Kd.C yG w A0 l0.length l0) (hc0:l0.length≤c0) (h:bK.f k l0 fP fZ=some r):
  Calls Tryz.prog 61 #[.slice A0 l0.length c0, .agg #[.string fP, .string fZ]] w fun e w' => ∃sQ:Value,e= .returned (sQ)∧Kd.R Kd.string 9 w' w.heap.size (fun _=>True) sQ r∧Below w.heap.size w w' :=by
 have aCt:=Tryz.underlying56;have U8:=Tryz.underlying87;have lX:=am hr0;have vX:=am hc0;clear hr0 hc0;have HB:=am (Below.refl w.heap.size w)
 have H:=h;unfold bK.f at H
 clear h;have FZ:=am H;clear H;go_enter Tryz.func61,Tryz.ntmps61
 go_upto_region 1 with (refine gd 3 ?_;refine bx 3 (cs:= #[.string fP, .string fZ]) (t:=56) ?_;intro DZ hg w4 bT hb;have jT:=am (bT);have bMH:=am ((kI:w.heap.size≤DZ));have mO:=am ((kI:w.heap.size≤DZ));replace HB:=o8 hb;clear hb bT hg)
 go_cut [21] (fun v21 wc=> ∃(kq:Nat) (ZL:Bool),v21= .bool ZL∧aC (bK.j0 kq l0 ZL fP fZ=some r)∧aC (kq≤k)∧aC (wc.heap[DZ]?=some (.cells #[.string fP, .string fZ] 56 (0,0)))∧aC (Below w.heap.size w wc))
 case first=>
  have H:=FZ.out;clear FZ;replace H:=ba H;obtain⟨bB1,A5,H⟩:=H
  replace H:=ib H;rcases H with ⟨rfl,H⟩|⟨rfl,H⟩
  ·replace H:=ba H;obtain⟨aVd,A7,H⟩:=H
   have H' :=am H
   clear H
   go_wp2_with (first|(refine gd 15 ?_;refine gv Tryz.func53 (dO.calls k _ _ l0 true _ (cq (Kd.dV lX.out HB.out)) vX.out A5.out) ?_;intro w8 hb;replace jT:=kb jT hb;replace HB:=st1 mO hb;clear hb;have⟨_,_,_,_⟩:=oP jT.out)|(go_at_call 87;(with_reducible refine(gQ.calls k fP fZ aVd _ A7.out).mono ?_);rintro e w10 ⟨rfl,hb⟩;replace jT:=kb jT hb;replace HB:=st1 mO hb;clear hb))
   go_meet
   case rel=>exact⟨_,(!aVd),sq,H',⟨xI⟩,⟨bq jT.out⟩,⟨cK mO.out⟩⟩
  have H' :=am H
  clear H
  go_wp2_with (refine gd 15 ?_;refine gv Tryz.func53 (dO.calls k _ _ l0 false _ (cq (Kd.dV lX.out HB.out)) vX.out A5.out) ?_;intro w11 hb;replace jT:=kb jT hb;replace HB:=st1 mO hb;clear hb)
  go_meet
  case rel=>exact⟨_,(true),sq,H',⟨xI⟩,⟨bq jT.out⟩,⟨cK mO.out⟩⟩
 case rest=>
  clear FZ;obtain⟨kq,ZL,rfl,HA,HJ2,jT,HB⟩:=hcut
  cases kq with
  |zero=>exact absurd HA.out (by simp [bK.j0])
  |succ D8=>
   have H:=HA.out;clear HA;simp only [bK.j0] at H
   replace H:=ib H;rcases H with ⟨rfl,H⟩|⟨rfl,H⟩
   ·obtain⟨bT8,aO5⟩: ∃y_:List ByteArray,y_=(([]:List ByteArray)):=⟨_,rfl⟩
    rw [←aO5] at H
    have a6q:=am aO5;clear aO5;obtain rfl:=si H
    go_wp2_with (refine gd 22 ?_;refine Kd.mJ Kd.string _ 9 ?hg (N:=22) ?hd (xs:=([]:List ByteArray)) (inner:=[]) (ok:=fun _=>True) (mK:=fun _=>True) ?hr ?hp (fun _ hk=>hk) trivial (Below.refl _ _) (Nat.le_refl _) (by simp) ?_;(case hd=>rfl);(case hg=>rfl);(case hr=>(go_simp;done));(case hp=>exact(dQ.none _ _));intro bTn w13 IJ hb lL dP;clear lL dP;(rw [←a6q.out] at IJ);have a4F:=am (Kd.dZ IJ (aH (cK mO.out)));replace jT:=kb jT hb;replace HB:=st1 mO hb;clear hb IJ)
    go_ret
    exact⟨_,nD,by(with_reducible repeat(fail));exact a4F.out,cK mO.out⟩
   obtain⟨bL0,aO6⟩: ∃y_:List ByteArray,y_=(([fP]:List ByteArray)):=⟨_,rfl⟩
   rw [←aO6] at H
   have a6r:=am aO6;clear aO6;obtain⟨qM,aO7⟩: ∃y_:List Bool,y_=(([false,true]:List Bool)):=⟨_,rfl⟩
   replace H:=bm H;rw [←aO7] at H
   have a6s:=am aO7;clear aO7
   have H' :=am H
   clear H;have⟨aIg,aIh,aIi,aIj⟩:=oP jT.out
   go_wp2_with (first|(refine gd 25 ?_;refine Kd.mJ Kd.string _ 9 ?hg (N:=25) ?hd (xs:=([fP]:List ByteArray)) (inner:=[.string fP]) (ok:=fun _=>True) (mK:=fun _=>True) ?hr ?hp (fun _ hk=>hk) trivial (Below.refl _ _) (Nat.le_refl _) (by simp) ?_;(case hd=>rfl);(case hg=>rfl);(case hr=>(go_simp;done));(case hp=>exact(dQ.one (show Kd.M Kd.string _ _ _ fP [.string fP] from rfl) (dQ.none _ _)));intro bTo w16 a1C hb lL dP;clear lL dP;(rw [←a6r.out] at a1C);have aLR:=am (Kd.dZ a1C (aH (cK mO.out)));replace jT:=kb jT hb;replace HB:=st1 mO hb;clear hb a1C)|(refine gd 26 ?_;refine Kd.mJ Kd.bool _ 4 ?hg (N:=26) ?hd (xs:=([false,true]:List Bool)) (inner:=[.bool false, .bool true]) (ok:=fun _=>True) (mK:=fun _=>True) ?hr ?hp (fun _ hk=>hk) trivial (Below.refl _ _) (Nat.le_refl _) (by simp) ?_;(case hd=>rfl);(case hg=>rfl);(case hr=>(go_simp;done));(case hp=>exact(dQ.one (show Kd.M Kd.bool _ _ _ false [.bool false] from rfl) (dQ.one (show Kd.M Kd.bool _ _ _ true [.bool true] from rfl) (dQ.none _ _))));intro bTp w18 a1D hb lL dP;clear lL dP;(rw [←a6s.out] at a1D);replace aLR:=kr aLR hb;have aV5:=am (Kd.dZ a1D (aH (cK mO.out)));replace jT:=kb jT hb;replace HB:=st1 mO hb;clear hb a1D;obtain⟨aYA,aEe,aFU⟩:=Kd.bS aV5.out;subst aFU))
   go_loopg [5,28] D8 (fun kq v5 v28 w' => ∃(jZ:List ByteArray) (fB:Int),v28= .int .i64 fB∧aC (bK.l0 kq l0 jZ qM (qM.length:Int) fB fP fZ=some r)∧aC (kq≤D8)∧aC (Kd.R Kd.string 9 w' w.heap.size (fun _=>True) v5 jZ)∧aC (Kd.R Kd.bool 4 w' w.heap.size (fun _=>True) (.slice aYA qM.length aEe) qM)∧aC (w'.heap[DZ]?=some (.cells #[.string fP, .string fZ] 56 (0,0)))∧aC (Below w.heap.size w w'))
   case atStart=>exact⟨(bL0),(0),sq,H',⟨Nat.le_refl _⟩,⟨rq aLR.out⟩,⟨rq aV5.out⟩,⟨bq jT.out⟩,⟨cK mO.out⟩⟩
   case round=>
    clear H';clear aIg aIh aIi aIj;obtain⟨jZ,fB,rfl,HA,uP,bY,kP,jT,HB⟩:=hrel
    cases gk with
    |zero=>exact absurd HA.out (by simp [bK.l0])
    |succ k2=>
     have H:=HA.out;clear HA;simp only [bK.l0] at H
     replace H:=iv H;rcases H with ⟨MB,H⟩|⟨MB,H⟩
     ·replace H:=it H;obtain⟨aXh,H⟩:=H
      replace H:=it H;obtain⟨MC,H⟩:=H;obtain⟨aRE,aO8⟩: ∃y_:List ByteArray,y_=(([]:List ByteArray)):=⟨_,rfl⟩
      replace H:=bm H;rw [←aO8] at H
      have a6t:=am aO8;clear aO8
      replace H:=ip H;obtain⟨c24,H⟩:=H;have a5E:=am c24;clear c24;obtain⟨sZ,aO9⟩: ∃y_:List ByteArray,y_=(aRE++jZ):=⟨_,rfl⟩
      replace H:=bm H;rw [←aO9] at H
      have a6u:=am aO9;clear aO9
      have H' :=am H
      clear H
      obtain⟨aHH,bGN,aTG⟩:=Kd.aSh (Kd.aM kP.out).2.2 fB dt dt;cases bGN;have bJN:=e0 fB;have bKw:=e1 fB (qM.length:Int)
      go_wp2_with (first|(refine gd 32 ?_;refine Kd.mJ Kd.string _ 9 ?hg (N:=32) ?hd (xs:=([]:List ByteArray)) (inner:=[]) (ok:=fun _=>True) (mK:=fun _=>True) ?hr ?hp (fun _ hk=>hk) trivial (Below.refl _ _) (Nat.le_refl _) (by simp) ?_;(case hd=>rfl);(case hg=>rfl);(case hr=>(go_simp;done));(case hp=>exact(dQ.none _ _));intro bLq w25 aTv hb lL dP;clear lL dP;(rw [←a6t.out] at aTv);replace kP:=kr kP hb;have aHp:=am (Kd.dZ (Kd.qW aTv (Kd.pJ (rq bY.out))) (aH (cK mO.out)));replace bY:=am (Kd.lT (rq bY.out) (Kd.jE aTv) hb);replace jT:=kb jT hb;replace HB:=st1 mO hb;clear hb aTv;obtain⟨WT,X4,aNG⟩:=Kd.bS bY.out;subst aNG)|((with_reducible refine gL (b:= .append) (xs:= #[.tmp 32, .tmp 33]) rfl ?_);at_builtin;refine Kd.yD Kd.string (w0:=w) w.heap.size rfl (.tmp 32) (.tmp 33) 36 9 (.string ⟨#[]⟩) 16 rfl Tryz.underlying36 zI rfl (by decide) (by omega) bLq aRE jZ _ _ _ (fun k_=>some k_≠(.slice WT jZ.length X4:Value).ownBlock) (fun _=>False) rfl rfl ?aO ?aR (fun _ _ h=>h) (fun _ h=>h.elim) ?aF ?aB ?aS ?aL ?_;(case aR=>exact cq (Kd.aM bY.out).2.2);(case aB=>exact(cK mO.out));(case aF=>exact(fun k_ hk=>Kd.nL (Kd.pJ (rq bY.out)) k_ hk));(case aO=>exact(rq (Kd.bA aHp.out (fun _ hk=>hk.2))));(case aS=>exact(aH (cK mO.out)));(case aL=>have:=a5E.out;omega);intro bTr w27 ho hb hg hat;rw [←a6u.out] at ho;replace bY:=am (Kd.oO (ok:=(fun _=>True)) (rq bY.out) hg hat);replace kP:=am (Kd.F5 (rq kP.out) (Kd.zP (rq aHp.out)) (by decide) hg);replace jT:=am (gK (g:=DZ) (o:= .cells #[.string fP, .string fZ] 56 (0,0)) (bq jT.out) hg (Kd.zO aHp.out jT.out (by decide)));replace HB:=am (hb);have aV6:=am (ho);clear aHp;clear ho hb hg hat;obtain⟨a3y,aBL,bHA⟩:=Kd.bS aV6.out;subst bHA))
      go_loopg [5,36] k2 (fun kq v5 v36 w' => ∃(CX:List ByteArray) (xG:Int),v36= .int .i64 xG∧aC (bK.l1 kq l0 CX (bP false qM fB) qM (qM.length:Int) fB sZ (sZ.length:Int) xG fP fZ=some r)∧aC (kq≤k2)∧aC (Kd.R Kd.string 9 w' w.heap.size (fun k_=>some k_≠((.slice a3y sZ.length aBL):Value).ownBlock) v5 CX)∧aC (Kd.R Kd.bool 4 w' w.heap.size (fun _=>True) (.slice (some aHH) qM.length aEe) qM)∧aC (Kd.R Kd.string 9 w' w.heap.size (fun k_=>some k_≠(v5:Value).ownBlock) (.slice a3y sZ.length aBL) sZ)∧aC (w'.heap[DZ]?=some (.cells #[.string fP, .string fZ] 56 (0,0)))∧aC (Below w.heap.size w w'))
      case atStart=>exact⟨(jZ),(0),sq,H',⟨Nat.le_refl _⟩,⟨rq (Kd.bA bY.out (fun _ hk=>hk.2))⟩,⟨rq kP.out⟩,⟨rq aV6.out⟩,⟨bq jT.out⟩,⟨cK mO.out⟩⟩
      case round=>
       clear H';clear MB aXh MC aTG bJN bKw;obtain⟨CX,xG,rfl,HA,DJ,bY,kP,tZ,jT,HB⟩:=hrel
       cases gk with
       |zero=>exact absurd HA.out (by simp [bK.l1])
       |succ k3=>
        have H:=HA.out;clear HA;simp only [bK.l1] at H
        replace H:=iv H;rcases H with ⟨JE,H⟩|⟨JE,H⟩
        ·replace H:=it H;obtain⟨UE,H⟩:=H;replace H:=it H;obtain⟨OM,H⟩:=H
         have H' :=am H
         clear H
         obtain⟨XL,bGO,aTH,bJO,bKx⟩:=CY (Kd.aM tZ.out).2.2 xG;cases bGO
         go_wp2
         go_loopg [5,42] k3 (fun kq v5 v42 w' => ∃(yB:List ByteArray) (eT:Int),v42= .int .i64 eT∧aC (bK.l2 kq l0 yB (bP false qM fB) (bP ByteArray.empty sZ xG) qM (qM.length:Int) fB sZ (sZ.length:Int) xG l0 (l0.length:Int) eT fP fZ=some r)∧aC (kq≤k3)∧aC (Kd.R Kd.string 9 w' w.heap.size (fun k_=>some k_≠((.slice (some XL) sZ.length aBL):Value).ownBlock) v5 yB)∧aC (Kd.R Kd.bool 4 w' w.heap.size (fun _=>True) (.slice (some aHH) qM.length aEe) qM)∧aC (Kd.R Kd.string 9 w' w.heap.size (fun k_=>some k_≠(v5:Value).ownBlock) (.slice (some XL) sZ.length aBL) sZ)∧aC (w'.heap[DZ]?=some (.cells #[.string fP, .string fZ] 56 (0,0)))∧aC (Below w.heap.size w w'))
         case atStart=>exact⟨(CX),(0),sq,H',⟨Nat.le_refl _⟩,⟨rq bY.out⟩,⟨rq kP.out⟩,⟨rq tZ.out⟩,⟨bq jT.out⟩,⟨cK mO.out⟩⟩
         case round=>
          clear H';clear JE UE OM aTH bJO bKx;obtain⟨yB,eT,rfl,HA,NP,bY,kP,tZ,jT,HB⟩:=hrel
          cases gk with
          |zero=>exact absurd HA.out (by simp [bK.l2])
          |succ k4=>
           have H:=HA.out;clear HA;simp only [bK.l2] at H
           replace H:=iv H;rcases H with ⟨OO,H⟩|⟨OO,H⟩
           ·replace H:=it H;obtain⟨aD5,H⟩:=H;replace H:=it H;obtain⟨aNg,H⟩:=H;have aYQ:=am H;clear H
            obtain⟨bNg,bGP,aTI,aTJ,aTK,aTL,aTM⟩:=kp5 HB (sH lX.out eT dt dt);cases bGP;have bJP:=e0 eT;have bKy:=e1 eT (l0.length:Int)
            go_upto_region 13 with (refine gd 11 ?_;refine bx 11 (cs:= #[.string (⟨#[]⟩:ByteArray), .bool false, .string (⟨#[]⟩:ByteArray), .string (⟨#[]⟩:ByteArray), .string (⟨#[]⟩:ByteArray)]) (t:=87) ?_;intro nG hg w37 bT hb;replace bY:=kr bY hb;replace kP:=kr kP hb;replace tZ:=kr tZ hb;have tO:=am (bT);have bMI:=am ((by rw [hg];exact(aH (cK mO.out)):w.heap.size≤nG));have G7:=am ((by rw [hg];exact(aH (cK mO.out)):w.heap.size≤nG));replace HB:=st1 mO hb;have qV:=am ((by rw [hg];exact Nat.ne_of_lt (jW (g:=DZ) (o:= .cells #[.string fP, .string fZ] 56 (0,0)) (bq jT.out)):DZ≠nG));have BG:=am ((by rw [hg];exact Nat.ne_of_gt (jW (g:=DZ) (o:= .cells #[.string fP, .string fZ] 56 (0,0)) (bq jT.out)):nG≠DZ));replace jT:=kb jT hb;clear hb bT hg;have bPm:=BG.out;have bPX:=qV.out;have⟨aS5,aS6,aS7,aS8,aS9,aTp,aTq,aTr,aTs,aTt⟩:=yM tO.out)
            go_cut [57] (fun v57 wc=> ∃(kq:Nat) (aG5:Bool),v57= .bool aG5∧aC (bK.j4 kq l0 yB (bP false qM fB) (bP ByteArray.empty sZ xG) qM (qM.length:Int) fB sZ (sZ.length:Int) xG l0 (l0.length:Int) eT aG5 fP fZ ((aD l0 eT).f0) ((aD l0 eT).f1) ((aD l0 eT).f2) ((aD l0 eT).f3) ((aD l0 eT).f4)=some r)∧aC (kq≤k4)∧aC (Kd.R Kd.string 9 wc w.heap.size (fun k_=>some k_≠((.slice (some XL) sZ.length aBL):Value).ownBlock) u5 yB)∧aC (Kd.R Kd.bool 4 wc w.heap.size (fun _=>True) (.slice (some aHH) qM.length aEe) qM)∧aC (Kd.R Kd.string 9 wc w.heap.size (fun k_=>some k_≠(u5:Value).ownBlock) (.slice (some XL) sZ.length aBL) sZ)∧aC (wc.heap[DZ]?=some (.cells #[.string fP, .string fZ] 56 (0,0)))∧aC (wc.heap[nG]?=some (.cells #[.string ((aD l0 eT).f0), .bool ((aD l0 eT).f1), .string ((aD l0 eT).f2), .string ((aD l0 eT).f3), .string ((aD l0 eT).f4)] 87 (0,0)))∧aC (Below w.heap.size w wc))
            case first=>
             have H:=aYQ.out;clear aYQ
             by_cases c40:(((aD l0 eT).f1) !=(bP false qM fB))=true
             ·rw [if_pos c40] at H
              have aD6:(((aD l0 eT).f1) !=(bP false qM fB))=true:=c40
              (have a8L:decide (((aD l0 eT).f1)=(bP false qM fB))=false:=by simpa using c40)
              (have a8M:(((aD l0 eT).f1)==(bP false qM fB))=false:=by simpa using c40)
              (have bN2: ¬(((aD l0 eT).f1)=(bP false qM fB)):=by simpa using c40)
              clear c40
              (skip)
              have H' :=am H
              clear H;have aYh:=BG.out;have aYi:=qV.out;have⟨_,_,_,_,_,_,_,_,_,_⟩:=yM tO.out;go_wp2
              go_meet
              case rel=>exact⟨_,(true),sq,H',⟨by have:=HJ2.out;have:=uP.out;have:=DJ.out;have:=NP.out;omega⟩,⟨rq (Kd.bA (Kd.bZ (p:=⟨nG,4,none⟩) (Kd.bZ (p:=⟨nG,3,none⟩) (Kd.bZ (p:=⟨nG,2,none⟩) (Kd.bZ (p:=⟨nG,1,none⟩) (Kd.bZ (p:=⟨nG,0,none⟩) (Kd.eQ bY.out tO.out (by decide)) (fun _ hk=>hk.2) (.string ((aD l0 eT).f0))) (fun _ hk=>hk.2) (.bool ((aD l0 eT).f1))) (fun _ hk=>hk.2) (.string ((aD l0 eT).f2))) (fun _ hk=>hk.2) (.string ((aD l0 eT).f3))) (fun _ hk=>hk.2) (.string ((aD l0 eT).f4))) (fun _ hk=>hk.1))⟩,⟨rq (Kd.bA (Kd.bZ (p:=⟨nG,4,none⟩) (Kd.bZ (p:=⟨nG,3,none⟩) (Kd.bZ (p:=⟨nG,2,none⟩) (Kd.bZ (p:=⟨nG,1,none⟩) (Kd.bZ (p:=⟨nG,0,none⟩) (Kd.eQ kP.out tO.out (by decide)) (fun _ hk=>hk.2) (.string ((aD l0 eT).f0))) (fun _ hk=>hk.2) (.bool ((aD l0 eT).f1))) (fun _ hk=>hk.2) (.string ((aD l0 eT).f2))) (fun _ hk=>hk.2) (.string ((aD l0 eT).f3))) (fun _ hk=>hk.2) (.string ((aD l0 eT).f4))) (fun _ hk=>trivial))⟩,⟨rq (Kd.bA (Kd.bZ (p:=⟨nG,4,none⟩) (Kd.bZ (p:=⟨nG,3,none⟩) (Kd.bZ (p:=⟨nG,2,none⟩) (Kd.bZ (p:=⟨nG,1,none⟩) (Kd.bZ (p:=⟨nG,0,none⟩) (Kd.eQ tZ.out tO.out (by decide)) (fun _ hk=>hk.2) (.string ((aD l0 eT).f0))) (fun _ hk=>hk.2) (.bool ((aD l0 eT).f1))) (fun _ hk=>hk.2) (.string ((aD l0 eT).f2))) (fun _ hk=>hk.2) (.string ((aD l0 eT).f3))) (fun _ hk=>hk.2) (.string ((aD l0 eT).f4))) (fun _ hk=>hk.1))⟩,⟨a8p⟩,⟨a8m⟩,⟨rP mO.out G7.out⟩⟩
             rw [if_neg c40] at H
             have aD6:(((aD l0 eT).f1) !=(bP false qM fB))=false:=by simpa using c40
             (have a8L:decide (((aD l0 eT).f1)=(bP false qM fB))=true:=by simpa using c40)
             (have a8M:(((aD l0 eT).f1)==(bP false qM fB))=true:=by simpa using c40)
             clear c40
             (skip)
             replace H:=ba H;obtain⟨aVe,A43,H⟩:=H
             have H' :=am H
             clear H;have bAq:=BG.out;have bAv:=qV.out;have⟨_,_,_,_,_,_,_,_,_,_⟩:=yM tO.out;have⟨_,_,_,_⟩:=oP jT.out
             go_wp2_with (go_at_call 89;(with_reducible refine(strings_Contains.calls fZ ((aD l0 eT).f0) aVe _ A43.out).mono ?_);rintro e w' ⟨rfl,⟨nd,rfl⟩⟩)
             go_meet
             case rel=>exact⟨_,(!aVe),sq,H',⟨by have:=HJ2.out;have:=uP.out;have:=DJ.out;have:=NP.out;omega⟩,⟨rq (Kd.bA (Kd.bZ (p:=⟨nG,4,none⟩) (Kd.bZ (p:=⟨nG,3,none⟩) (Kd.bZ (p:=⟨nG,2,none⟩) (Kd.bZ (p:=⟨nG,1,none⟩) (Kd.bZ (p:=⟨nG,0,none⟩) (Kd.eQ bY.out tO.out (by decide)) (fun _ hk=>hk.2) (.string ((aD l0 eT).f0))) (fun _ hk=>hk.2) (.bool ((aD l0 eT).f1))) (fun _ hk=>hk.2) (.string ((aD l0 eT).f2))) (fun _ hk=>hk.2) (.string ((aD l0 eT).f3))) (fun _ hk=>hk.2) (.string ((aD l0 eT).f4))) (fun _ hk=>hk.1))⟩,⟨rq (Kd.bA (Kd.bZ (p:=⟨nG,4,none⟩) (Kd.bZ (p:=⟨nG,3,none⟩) (Kd.bZ (p:=⟨nG,2,none⟩) (Kd.bZ (p:=⟨nG,1,none⟩) (Kd.bZ (p:=⟨nG,0,none⟩) (Kd.eQ kP.out tO.out (by decide)) (fun _ hk=>hk.2) (.string ((aD l0 eT).f0))) (fun _ hk=>hk.2) (.bool ((aD l0 eT).f1))) (fun _ hk=>hk.2) (.string ((aD l0 eT).f2))) (fun _ hk=>hk.2) (.string ((aD l0 eT).f3))) (fun _ hk=>hk.2) (.string ((aD l0 eT).f4))) (fun _ hk=>trivial))⟩,⟨rq (Kd.bA (Kd.bZ (p:=⟨nG,4,none⟩) (Kd.bZ (p:=⟨nG,3,none⟩) (Kd.bZ (p:=⟨nG,2,none⟩) (Kd.bZ (p:=⟨nG,1,none⟩) (Kd.bZ (p:=⟨nG,0,none⟩) (Kd.eQ tZ.out tO.out (by decide)) (fun _ hk=>hk.2) (.string ((aD l0 eT).f0))) (fun _ hk=>hk.2) (.bool ((aD l0 eT).f1))) (fun _ hk=>hk.2) (.string ((aD l0 eT).f2))) (fun _ hk=>hk.2) (.string ((aD l0 eT).f3))) (fun _ hk=>hk.2) (.string ((aD l0 eT).f4))) (fun _ hk=>hk.1))⟩,⟨a8p⟩,⟨a8m⟩,⟨rP mO.out G7.out⟩⟩
            case rest=>
             clear aYQ;clear OO aD5 aNg aS5 aS6 aS7 aS8 aS9 aTp aTq aTr aTs aTt aTI aTJ aTK aTL aTM bJP bKy;obtain⟨kq,aG5,rfl,HA,aDz,bY,kP,tZ,jT,tO,HB⟩:=hcut
             cases kq with
             |zero=>exact absurd HA.out (by simp [bK.j4])
             |succ aUm=>
              have H:=HA.out;clear HA;simp only [bK.j4] at H
              replace H:=ib H;rcases H with ⟨rfl,H⟩|⟨rfl,H⟩
              ·have H' :=am H
               clear H;go_wp2
               go_roundg aUm
               case measure=>have:=HJ2.out;have:=uP.out;have:=DJ.out;have:=NP.out;have:=aDz.out;omega
               case rel=>exact⟨(yB),(wrap64 (eT+1)),sq,H',⟨by have:=HJ2.out;have:=uP.out;have:=DJ.out;have:=NP.out;have:=aDz.out;omega⟩,⟨rq bY.out⟩,⟨rq kP.out⟩,⟨rq tZ.out⟩,⟨bq jT.out⟩,⟨rP mO.out G7.out⟩⟩
              have aFt:=am H;clear H
              go_upto_region 14 with (fail)
              go_cut [64] (fun v64 wc=> ∃(kq:Nat) (aG7:Bool),v64= .bool aG7∧aC (bK.j5 kq l0 yB (bP false qM fB) (bP ByteArray.empty sZ xG) qM (qM.length:Int) fB sZ (sZ.length:Int) xG l0 (l0.length:Int) eT aG7 fP fZ ((aD l0 eT).f0) ((aD l0 eT).f1) ((aD l0 eT).f2) ((aD l0 eT).f3) ((aD l0 eT).f4)=some r)∧aC (kq≤aUm)∧aC (Kd.R Kd.string 9 wc w.heap.size (fun k_=>some k_≠((.slice (some XL) sZ.length aBL):Value).ownBlock) u5 yB)∧aC (Kd.R Kd.bool 4 wc w.heap.size (fun _=>True) (.slice (some aHH) qM.length aEe) qM)∧aC (Kd.R Kd.string 9 wc w.heap.size (fun k_=>some k_≠(u5:Value).ownBlock) (.slice (some XL) sZ.length aBL) sZ)∧aC (wc.heap[DZ]?=some (.cells #[.string fP, .string fZ] 56 (0,0)))∧aC (wc.heap[nG]?=some (.cells #[.string ((aD l0 eT).f0), .bool ((aD l0 eT).f1), .string ((aD l0 eT).f2), .string ((aD l0 eT).f3), .string ((aD l0 eT).f4)] 87 (0,0)))∧aC (Below w.heap.size w wc))
              case first=>
               have H:=aFt.out;clear aFt;obtain⟨aKn,aNX⟩: ∃b_:Bool,b_=(bP false qM fB):=⟨_,rfl⟩
               replace H:(if(aKn)=true then(bK.j5 aUm l0 yB (aKn) (bP ByteArray.empty sZ xG) qM (qM.length:Int) fB sZ (sZ.length:Int) xG l0 (l0.length:Int) eT true fP fZ ((aD l0 eT).f0) ((aD l0 eT).f1) ((aD l0 eT).f2) ((aD l0 eT).f3) ((aD l0 eT).f4))else(bK.j5 aUm l0 yB (aKn) (bP ByteArray.empty sZ xG) qM (qM.length:Int) fB sZ (sZ.length:Int) xG l0 (l0.length:Int) eT ((bP ByteArray.empty sZ xG).toList==fP.toList) fP fZ ((aD l0 eT).f0) ((aD l0 eT).f1) ((aD l0 eT).f2) ((aD l0 eT).f3) ((aD l0 eT).f4)))=some r:=by rw [←aNX] at H;exact H
               have aL2:=am aNX;clear aNX
               rw [←aL2.out]
               by_cases ZM:(aKn)=true
               ·rw [if_pos ZM] at H
                have H7:(aKn)=true:=ZM
                have e7_:bP false qM fB=true:=aL2.out.symm.trans H7
                subst H7
                simp only [e7_] at*
                clear ZM
                have H' :=am H
                clear H;go_wp2
                go_meet
                case rel=>exact⟨_,(true),sq,H',⟨by have:=HJ2.out;have:=uP.out;have:=DJ.out;have:=NP.out;have:=aDz.out;omega⟩,⟨rq bY.out⟩,⟨rq kP.out⟩,⟨rq tZ.out⟩,⟨bq jT.out⟩,⟨bq tO.out⟩,⟨rP mO.out G7.out⟩⟩
               rw [if_neg ZM] at H
               have H7:(aKn)=false:=by simpa using ZM
               have e7_:bP false qM fB=false:=aL2.out.symm.trans H7
               subst H7
               simp only [e7_] at*
               clear ZM
               have H' :=am H
               clear H;have bPt:=qV.out;have bP4:=BG.out;have⟨_,_,_,_⟩:=oP jT.out;go_wp2
               go_meet
               case rel=>exact⟨_,(((bP ByteArray.empty sZ xG).toList==fP.toList)),sq,H',⟨by have:=HJ2.out;have:=uP.out;have:=DJ.out;have:=NP.out;have:=aDz.out;omega⟩,⟨rq bY.out⟩,⟨rq kP.out⟩,⟨rq tZ.out⟩,⟨bq jT.out⟩,⟨bq tO.out⟩,⟨rP mO.out G7.out⟩⟩
              case rest=>
               clear aFt;obtain⟨kq,aG7,rfl,HA,aLN,bY,kP,tZ,jT,tO,HB⟩:=hcut
               cases kq with
               |zero=>exact absurd HA.out (by simp [bK.j5])
               |succ aAf=>
                have H:=HA.out;clear HA;simp only [bK.j5] at H
                replace H:=ib H;rcases H with ⟨rfl,H⟩|⟨rfl,H⟩
                ·replace H:=ba H;obtain⟨⟨aRg,bSR⟩,A54,H⟩:=H;dsimp only at H
                 replace H:=ib H;rcases H with ⟨rfl,H⟩|⟨rfl,H⟩
                 ·replace H:=ip H;obtain⟨c56,H⟩:=H;have a5K:=am c56;clear c56;obtain⟨bL1,aPa⟩: ∃y_:List ByteArray,y_=(yB++[aRg]):=⟨_,rfl⟩
                  rw [←aPa] at H
                  have a6v:=am aPa;clear aPa
                  have H' :=am H
                  clear H;have bAr:=BG.out;have bAw:=qV.out;have⟨_,_,_,_,_,_,_,_,_,_⟩:=yM tO.out
                  go_wp2_with (first|(refine gd 68 ?_;refine gv Tryz.func90 (jG.calls aAf ((aD l0 eT).f0) ((aD l0 eT).f1) ((aD l0 eT).f2) ((aD l0 eT).f3) ((aD l0 eT).f4) (bP ByteArray.empty sZ xG) aRg true _ A54.out) ?_;intro w59 hb;replace bY:=kr bY hb;replace kP:=kr kP hb;replace tZ:=kr tZ hb;replace jT:=kb jT hb;replace tO:=kb tO hb;replace HB:=am (aY (rP mO.out G7.out) hb);clear hb)|((with_reducible refine gL (b:= .append) (xs:= #[.tmp 72, .tmp 74]) rfl ?_);at_builtin;refine Kd.oI Kd.string (w0:=w) w.heap.size rfl (.tmp 72) (.tmp 74) 36 9 (.string ⟨#[]⟩) 16 rfl Tryz.underlying36 zI rfl (by decide) (by omega) u5 yB aRg [.string aRg] (fun k_=>some k_≠(.slice (some XL) sZ.length aBL:Value).ownBlock) (fun _=>False) rfl rfl ?aP (fun _ hk=>hk.elim) ?aF ?aO ?aB ?aS ?aL ?_;(case aP=>exact rfl);(case aB=>exact(rP mO.out G7.out));(case aF=>exact(fun k_ hk=>Kd.nL (Kd.pJ (rq tZ.out)) k_ hk));(case aO=>exact(rq bY.out));(case aS=>exact(aH (rP mO.out G7.out)));(case aL=>have:=a5K.out;omega);intro bTs w60 ho hb hg hat;rw [←a6v.out] at ho;replace kP:=am (Kd.F5 (rq kP.out) (Kd.zP (rq bY.out)) (by decide) hg);replace tZ:=am (Kd.oO (ok:=(fun _=>True)) (rq (Kd.bA tZ.out (fun _ hk=>⟨trivial,hk⟩))) hg hat);replace jT:=am (gK (g:=DZ) (o:= .cells #[.string fP, .string fZ] 56 (0,0)) (bq jT.out) hg (Kd.zO bY.out jT.out (by decide)));replace tO:=am (gK (g:=nG) (o:= .cells #[.string ((aD l0 eT).f0), .bool ((aD l0 eT).f1), .string ((aD l0 eT).f2), .string ((aD l0 eT).f3), .string ((aD l0 eT).f4)] 87 (0,0)) (bq tO.out) hg (Kd.zO bY.out tO.out (by decide)));replace HB:=am (hb);have a4H:=am (ho);clear bY;clear ho hb hg hat))
                  go_roundg aAf
                  case measure=>have:=HJ2.out;have:=uP.out;have:=DJ.out;have:=NP.out;have:=aDz.out;have:=aLN.out;omega
                  case rel=>exact⟨(bL1),(wrap64 (eT+1)),sq,H',⟨aMA⟩,⟨rq a4H.out⟩,⟨rq kP.out⟩,⟨rq (Kd.bA tZ.out (fun _ hk=>hk.2))⟩,⟨bq jT.out⟩,⟨rP mO.out G7.out⟩⟩
                 have H' :=am H
                 clear H;have bAs:=BG.out;have bAx:=qV.out;have⟨_,_,_,_,_,_,_,_,_,_⟩:=yM tO.out
                 go_wp2_with (refine gd 68 ?_;refine gv Tryz.func90 (jG.calls aAf ((aD l0 eT).f0) ((aD l0 eT).f1) ((aD l0 eT).f2) ((aD l0 eT).f3) ((aD l0 eT).f4) (bP ByteArray.empty sZ xG) aRg false _ A54.out) ?_;intro w63 hb;replace bY:=kr bY hb;replace kP:=kr kP hb;replace tZ:=kr tZ hb;replace jT:=kb jT hb;replace tO:=kb tO hb;replace HB:=am (aY (rP mO.out G7.out) hb);clear hb)
                 go_roundg aAf
                 case measure=>have:=HJ2.out;have:=uP.out;have:=DJ.out;have:=NP.out;have:=aDz.out;have:=aLN.out;omega
                 case rel=>exact⟨(yB),(wrap64 (eT+1)),sq,H',⟨aMA⟩,⟨rq bY.out⟩,⟨rq kP.out⟩,⟨rq tZ.out⟩,⟨bq jT.out⟩,⟨rP mO.out G7.out⟩⟩
                have H' :=am H
                clear H;go_wp2
                go_roundg aAf
                case measure=>have:=HJ2.out;have:=uP.out;have:=DJ.out;have:=NP.out;have:=aDz.out;have:=aLN.out;omega
                case rel=>exact⟨(yB),(wrap64 (eT+1)),sq,H',⟨aMA⟩,⟨rq bY.out⟩,⟨rq kP.out⟩,⟨rq tZ.out⟩,⟨bq jT.out⟩,⟨rP mO.out G7.out⟩⟩
           have H' :=am H
           clear H;go_wp2
           go_roundg k4
           case measure=>have:=HJ2.out;have:=uP.out;have:=DJ.out;have:=NP.out;omega
           case rel=>exact⟨(yB),(wrap64 (xG+1)),sq,H',⟨by have:=HJ2.out;have:=uP.out;have:=DJ.out;have:=NP.out;omega⟩,⟨rq bY.out⟩,⟨rq kP.out⟩,⟨rq tZ.out⟩,⟨bq jT.out⟩,⟨cK mO.out⟩⟩
        have H' :=am H
        clear H;go_wp2
        go_roundg k3
        case measure=>have:=HJ2.out;have:=uP.out;have:=DJ.out;omega
        case rel=>exact⟨(CX),(wrap64 (fB+1)),sq,H',⟨by have:=HJ2.out;have:=uP.out;have:=DJ.out;omega⟩,⟨rq (Kd.bA bY.out (fun _ hk=>trivial))⟩,⟨rq kP.out⟩,⟨bq jT.out⟩,⟨cK mO.out⟩⟩
     replace H:=ba H;obtain⟨a3b,A64,H⟩:=H;obtain rfl:=si H;obtain⟨bQJ,bRs,bHP⟩:=Kd.bS bY.out;subst bHP
     go_wp2_with (refine gd 80 ?_;refine gx Tryz.func62 (dC.calls _ _ jZ a3b _ (cq (Kd.aM bY.out).2.2) ((Kd.aM bY.out).2.1) A64.out) ?_;rintro bTq w66 ⟨ho0,hb⟩;replace kP:=kr kP hb;have a4G:=am (Kd.dZ (Kd.qW ho0 (Kd.pJ (rq bY.out))) (aH (cK mO.out)));replace bY:=am (Kd.lT (rq bY.out) (Kd.jE ho0) hb);replace jT:=kb jT hb;replace HB:=st1 mO hb;clear hb;clear ho0)
     go_ret
     exact⟨_,nD,by(with_reducible repeat(fail));exact Kd.bA a4G.out (fun _ hk=>trivial),cK mO.out⟩
def fT.l0:Nat→List ByteArray→List (sV)→Int→Int→List (kH)→List (sV)→Option (List ByteArray)
 |0,_,_,_,_,_,_=>none
 |k+1,x3,x8,x9,zJ,aJ4,aVG=>if zJ<x9 then(if 0≤zJ then(if zJ<(x8.length:Int)then((bK.f k aJ4 ((aX x8 zJ).f0) ((aX x8 zJ).f1)).bind fun aGU=>(if x3.length+aGU.length<8796093022208 then(fT.l0 k (x3++aGU) x8 x9 (wrap64 (zJ+1)) aJ4 aVG)else(none)))else(none))else(none))else((dC.f x3).bind fun a3c=>(some a3c))
def fT.f (k:Nat) (fI:List (kH)) (bV:List (sV)):Option (List ByteArray):=fT.l0 k (([]:List ByteArray)) bV (bV.length:Int) 0 fI bV
theorem fT.calls (k:Nat) (mH:Option Addr) (mI:Nat) (fI:List (kH)) (nQ:Option Addr) (lH:Nat) (bV:List (sV)) (r:List ByteArray) (w:World) (uI:Kd.C yG w mH fI.length fI) (uH:fI.length≤mI) (rW:Kd.C NK w nQ bV.length bV) (rV:bV.length≤lH) (h:fT.f k fI bV=some r):
  Calls Tryz.prog 23 #[.agg #[.slice mH fI.length mI, .slice nQ bV.length lH]] w fun e w' => ∃sQ:Value,e= .returned (sQ)∧Kd.R Kd.string 9 w' w.heap.size (fun _=>True) sQ r∧Below w.heap.size w w' :=by
 have U7:=Tryz.underlying26;have aCt:=Tryz.underlying56;have p9:=am uI;have pY:=am uH;clear uI uH;have nE:=am rW;have sN:=am rV;clear rW rV;have HB:=am (Below.refl w.heap.size w)
 have H:=h;unfold fT.f at H
 clear h;obtain⟨bL2,aPb⟩: ∃y_:List ByteArray,y_=(([]:List ByteArray)):=⟨_,rfl⟩
 rw [←aPb] at H
 have a6w:=am aPb;clear aPb
 have H' :=am H
 clear H;go_enter Tryz.func23,Tryz.ntmps23
 go_wp2_with (first|(refine gd 1 ?_;refine bx 1 (cs:= #[.slice mH fI.length mI, .slice nQ bV.length lH]) (t:=26) ?_;intro OZ hg w2 bT hb;have xK:=am (bT);have bMJ:=am ((kI:w.heap.size≤OZ));have BN:=am ((kI:w.heap.size≤OZ));replace HB:=o8 hb;clear hb bT hg)|(refine gd 6 ?_;refine Kd.mJ Kd.string _ 9 ?hg (N:=6) ?hd (xs:=([]:List ByteArray)) (inner:=[]) (ok:=fun _=>True) (mK:=fun _=>True) ?hr ?hp (fun _ hk=>hk) trivial (Below.refl _ _) (Nat.le_refl _) (by simp) ?_;(case hd=>rfl);(case hg=>rfl);(case hr=>(go_simp;done));(case hp=>exact(dQ.none _ _));intro bTt w3 ho4 hb lL dP;clear lL dP;(rw [←a6w.out] at ho4);have a4I:=am (Kd.dZ ho4 (aH (cK BN.out)));replace xK:=kb xK hb;replace HB:=st1 BN hb;clear hb ho4;have⟨a1c,a1d,a1q,a1r⟩:=oP xK.out))
 go_loopg [3,10] k (fun kq v3 v10 w' => ∃(bL:List ByteArray) (eB:Int),v10= .int .i64 eB∧aC (fT.l0 kq bL bV (bV.length:Int) eB fI bV=some r)∧aC (kq≤k)∧aC (Kd.R Kd.string 9 w' w.heap.size (fun _=>True) v3 bL)∧aC (w'.heap[OZ]?=some (.cells #[(.slice mH fI.length mI),(.slice nQ bV.length lH)] 26 (0,0)))∧aC (Below w.heap.size w w'))
 case atStart=>exact⟨(bL2),(0),sq,H',⟨Nat.le_refl _⟩,⟨rq a4I.out⟩,⟨bq xK.out⟩,⟨cK BN.out⟩⟩
 case round=>
  clear H';clear a1c a1d a1q a1r;obtain⟨bL,eB,rfl,HA,lM,dN,xK,HB⟩:=hrel
  cases gk with
  |zero=>exact absurd HA.out (by simp [fT.l0])
  |succ k1=>
   have H:=HA.out;clear HA;simp only [fT.l0] at H
   replace H:=iv H;rcases H with ⟨sW,H⟩|⟨sW,H⟩
   ·replace H:=it H;obtain⟨wR,H⟩:=H
    replace H:=it H;obtain⟨tK,H⟩:=H;replace H:=ba H;obtain⟨aGU,A9,H⟩:=H
    replace H:=ip H;obtain⟨c10,H⟩:=H;have aLY:=am c10;clear c10;obtain⟨bL3,aPc⟩: ∃y_:List ByteArray,y_=(bL++aGU):=⟨_,rfl⟩
    rw [←aPc] at H
    have a6x:=am aPc;clear aPc
    have H' :=am H
    clear H
    obtain⟨aHI,bGQ,bD7,bD8⟩:=kp2 HB (vH nE.out eB dt dt);cases bGQ;have bR5:=e0 eB;have bSy:=e1 eB (bV.length:Int)
    go_wp2_with (first|(refine gd 5 ?_;refine bx 5 (cs:= #[.string (⟨#[]⟩:ByteArray), .string (⟨#[]⟩:ByteArray)]) (t:=56) ?_;intro MH hg w11 bT hb;replace dN:=kr dN hb;have TS:=am (bT);have bMK:=am ((by rw [hg];exact(aH (cK BN.out)):w.heap.size≤MH));have aAw:=am ((by rw [hg];exact(aH (cK BN.out)):w.heap.size≤MH));replace HB:=st1 BN hb;have R8:=am ((by rw [hg];exact Nat.ne_of_lt (jW (g:=OZ) (o:= .cells #[.slice mH fI.length mI, .slice (some aHI) bV.length lH] 26 (0,0)) (bq xK.out)):OZ≠MH));have aKb:=am ((by rw [hg];exact Nat.ne_of_gt (jW (g:=OZ) (o:= .cells #[.slice mH fI.length mI, .slice (some aHI) bV.length lH] 26 (0,0)) (bq xK.out)):MH≠OZ));replace xK:=kb xK hb;clear hb bT hg;have aOp:=aKb.out;have aOr:=R8.out;have⟨_,_,_,_⟩:=oP TS.out;have⟨_,_,_,_⟩:=oP xK.out)|(refine gd 18 ?_;refine gx Tryz.func61 (bK.calls k1 _ _ fI ((aX bV eB).f0) ((aX bV eB).f1) aGU _ (Kd.dV p9.out (rP BN.out aAw.out)) pY.out A9.out) ?_;rintro bTu w15 ⟨ho0,hb⟩;have aDB:=am (Kd.dZ (Kd.qW ho0 (Kd.pJ (rq ((Kd.bA (Kd.bZ (p:=⟨MH,1,none⟩) (Kd.bZ (p:=⟨MH,0,none⟩) (Kd.eQ dN.out TS.out (by decide)) (fun _ hk=>hk.2) (.string ((aX bV eB).f0))) (fun _ hk=>hk.2) (.string ((aX bV eB).f1))) (fun _ h_=>h_.1)))))) (aH (rP BN.out aAw.out)));replace dN:=am (Kd.lT (rq ((Kd.bA (Kd.bZ (p:=⟨MH,1,none⟩) (Kd.bZ (p:=⟨MH,0,none⟩) (Kd.eQ dN.out TS.out (by decide)) (fun _ hk=>hk.2) (.string ((aX bV eB).f0))) (fun _ hk=>hk.2) (.string ((aX bV eB).f1))) (fun _ h_=>h_.1)))) (Kd.jE ho0) hb);replace xK:=am (jD (g:=OZ) (o:= .cells #[.slice mH fI.length mI, .slice (some aHI) bV.length lH] 26 (0,0)) (by(with_reducible repeat(fail));refine iV ?_ R8.out _;(with_reducible repeat(fail));refine iV ?_ R8.out _;(with_reducible repeat(fail));exact xK.out) hb);replace TS:=am (jD (g:=MH) (o:= .cells #[.string ((aX bV eB).f0), .string ((aX bV eB).f1)] 56 (0,0)) (by(with_reducible repeat(fail));refine bM (cs:= #[.string ((aX bV eB).f0), .string (⟨#[]⟩:ByteArray)]) ?_ 1 _ rfl;(with_reducible repeat(fail));refine bM (cs:= #[.string (⟨#[]⟩:ByteArray), .string (⟨#[]⟩:ByteArray)]) ?_ 0 _ rfl;(with_reducible repeat(fail));exact TS.out) hb);replace HB:=am (aY (rP BN.out aAw.out) hb);clear hb;clear ho0;obtain⟨aLx,aNs,aFS⟩:=Kd.bS aDB.out;subst aFS)|((with_reducible refine gL (b:= .append) (xs:= #[.tmp 14, .tmp 18]) rfl ?_);at_builtin;refine Kd.yD Kd.string (w0:=w) w.heap.size rfl (.tmp 14) (.tmp 18) 36 9 (.string ⟨#[]⟩) 16 rfl Tryz.underlying36 zI rfl (by decide) (by omega) u3 bL aGU _ _ _ (fun k_=>some k_≠(.slice aLx aGU.length aNs:Value).ownBlock) (fun _=>False) rfl rfl ?aO ?aR (fun _ _ h=>h) (fun _ h=>h.elim) ?aF ?aB ?aS ?aL ?_;(case aR=>exact cq (Kd.aM aDB.out).2.2);(case aB=>exact(rP BN.out aAw.out));(case aF=>exact(fun k_ hk=>Kd.nL (Kd.pJ (rq aDB.out)) k_ hk));(case aO=>exact(rq (Kd.bA dN.out (fun _ hk=>hk.2))));(case aS=>exact(aH (rP BN.out aAw.out)));(case aL=>have:=aLY.out;omega);intro bTv w16 ho hb hg hat;rw [←a6x.out] at ho;replace xK:=am (gK (g:=OZ) (o:= .cells #[.slice mH fI.length mI, .slice (some aHI) bV.length lH] 26 (0,0)) (bq xK.out) hg (Kd.zO dN.out xK.out (by decide)));replace TS:=am (gK (g:=MH) (o:= .cells #[.string ((aX bV eB).f0), .string ((aX bV eB).f1)] 56 (0,0)) (bq TS.out) hg (Kd.zO dN.out TS.out (by decide)));replace aDB:=am (Kd.oO (ok:=(fun _=>True)) (rq aDB.out) hg hat);replace HB:=am (hb);have a4J:=am (ho);clear dN;clear ho hb hg hat))
    go_roundg k1
    case measure=>have:=lM.out;omega
    case rel=>exact⟨(bL3),(wrap64 (eB+1)),sq,H',⟨rO⟩,⟨rq (Kd.bA a4J.out (fun _ hk=>trivial))⟩,⟨bq xK.out⟩,⟨rP BN.out aAw.out⟩⟩
   replace H:=ba H;obtain⟨a3c,A18,H⟩:=H;obtain rfl:=si H;obtain⟨aBj,aBK,aFT⟩:=Kd.bS dN.out;subst aFT
   go_wp2_with (refine gd 22 ?_;refine gx Tryz.func62 (dC.calls _ _ bL a3c _ (cq (Kd.aM dN.out).2.2) ((Kd.aM dN.out).2.1) A18.out) ?_;rintro bTw w20 ⟨ho0,hb⟩;have a4K:=am (Kd.dZ (Kd.qW ho0 (Kd.pJ (rq dN.out))) (aH (cK BN.out)));replace dN:=am (Kd.lT (rq dN.out) (Kd.jE ho0) hb);replace xK:=kb xK hb;replace HB:=st1 BN hb;clear hb;clear ho0)
   go_ret
   exact⟨_,nD,by(with_reducible repeat(fail));exact Kd.bA a4K.out (fun _ hk=>trivial),cK BN.out⟩
def dU.l0:Nat→List ByteArray→ByteArray→Int→Int→Option (Int)
 |0,_,_,_,_=>none
 |k+1,x0,x1,x7,x8=>if x8<x7 then(if 0≤x8 then(if x8<(x0.length:Int)then(if x1.toList=(bP ByteArray.empty x0 x8).toList then(some x8)else(dU.l0 k x0 x1 x7 (wrap64 (x8+1))))else(none))else(none))else(some (-1))
def dU.f (k:Nat) (l0:List ByteArray) (a1:ByteArray):Option (Int):=dU.l0 k l0 a1 (l0.length:Int) 0
theorem dU.calls (k:Nat) (A0:Option Addr) (c0:Nat) (l0:List ByteArray) (a1:ByteArray) (r:Int) (w:World) (hr0:Kd.C Kd.string w A0 l0.length l0) (hc0:l0.length≤c0) (h:dU.f k l0 a1=some r):
  Calls Tryz.prog 79 #[.slice A0 l0.length c0, .string a1] w fun e w' =>e= .returned (.int .i64 r)∧iB w w' :=by
 have lX:=am hr0;have vX:=am hc0;clear hr0 hc0
 have H:=h;unfold dU.f at H
 clear h
 have H' :=am H
 clear H;go_enter Tryz.func79,Tryz.ntmps79;go_wp2
 go_loopg [8] k (fun kq v8 w' => ∃(iU:Int),v8= .int .i64 iU∧aC (dU.l0 kq l0 a1 (l0.length:Int) iU=some r)∧aC (kq≤k)∧iB w w')
 case atStart=>exact⟨(0),sq,H',⟨Nat.le_refl _⟩,dr⟩
 case round=>
  clear H';obtain⟨iU,rfl,HA,lM,⟨m1,rfl⟩⟩:=hrel
  cases gk with
  |zero=>exact absurd HA.out (by simp [dU.l0])
  |succ k1=>
   have H:=HA.out;clear HA;simp only [dU.l0] at H
   replace H:=iv H;rcases H with ⟨oG,H⟩|⟨oG,H⟩
   ·replace H:=it H;obtain⟨qZ,H⟩:=H;replace H:=it H;obtain⟨oL,H⟩:=H
    by_cases c6:a1.toList=(bP ByteArray.empty l0 iU).toList
    ·rw [if_pos c6] at H
     have sW:(a1.toList==(bP ByteArray.empty l0 iU).toList)=true:=beq_iff_eq.mpr c6
     have aFF:(a1.toList !=(bP ByteArray.empty l0 iU).toList)=false:=bne_eq_false_iff_eq.mpr c6
     clear c6;obtain rfl:=si H
     obtain⟨a7A,aZT,aTN,bJQ,bKz⟩:=CY lX.out iU;cases aZT
     go_wp2;go_ret
     exact⟨sq,dr⟩
    rw [if_neg c6] at H
    have sW:(a1.toList==(bP ByteArray.empty l0 iU).toList)=false:=beq_eq_false_iff_ne.mpr c6
    have aFF:(a1.toList !=(bP ByteArray.empty l0 iU).toList)=true:=bne_iff_ne.mpr c6
    have H' :=am H
    clear H
    obtain⟨a7A,aZT,aTN,bJQ,bKz⟩:=CY lX.out iU;cases aZT
    go_wp2
    go_roundg k1
    case measure=>have:=lM.out;omega
    case rel=>exact⟨(wrap64 (iU+1)),sq,H',⟨rO⟩,dr⟩
   obtain rfl:=si H;go_wp2;go_ret
   exact⟨sq,dr⟩
def gY.f (k:Nat) (l0:List ByteArray) (a1:ByteArray):Option (Bool):=(dU.f k l0 a1).bind fun a3d=>(some (decide (a3d≥0)))
theorem gY.calls (k:Nat) (A0:Option Addr) (c0:Nat) (l0:List ByteArray) (a1:ByteArray) (r:Bool) (w:World) (hr0:Kd.C Kd.string w A0 l0.length l0) (hc0:l0.length≤c0) (h:gY.f k l0 a1=some r):
  Calls Tryz.prog 45 #[.slice A0 l0.length c0, .string a1] w fun e w' =>e= .returned (.bool r)∧iB w w' :=by
 have lX:=am hr0;have vX:=am hc0;clear hr0 hc0
 have H:=h;unfold gY.f at H
 clear h;replace H:=ba H;obtain⟨a3d,A3,H⟩:=H;obtain rfl:=si H;go_enter Tryz.func45,Tryz.ntmps45
 go_wp2_with (refine gd 7 ?_;refine gv Tryz.func79 (dU.calls k _ _ l0 a1 a3d _ ?dS vX.out A3.out) ?_;(case dS=>repeat(exact lX.out));rintro w' ⟨nd,rfl⟩)
 go_ret
 exact⟨sq,dr⟩
def mQ.f (k:Nat) (fI:List (kH)) (bV:List (sV)) (a1:ByteArray):Option (Bool):=(kX.f k fI bV).bind fun bB2=>(if bB2=true then((fT.f k fI bV).bind fun aVf=>((gY.f k aVf a1).bind fun a3e=>(some a3e)))else(some false))
theorem mQ.calls (k:Nat) (mH:Option Addr) (mI:Nat) (fI:List (kH)) (nQ:Option Addr) (lH:Nat) (bV:List (sV)) (a1:ByteArray) (r:Bool) (w:World) (uI:Kd.C yG w mH fI.length fI) (uH:fI.length≤mI) (rW:Kd.C NK w nQ bV.length bV) (rV:bV.length≤lH) (h:mQ.f k fI bV a1=some r):
  Calls Tryz.prog 14 #[.agg #[.slice mH fI.length mI, .slice nQ bV.length lH], .string a1] w fun e w' =>e= .returned (.bool r)∧Below w.heap.size w w' :=by
 have U7:=Tryz.underlying26;have p9:=am uI;have pY:=am uH;clear uI uH;have nE:=am rW;have sN:=am rV;clear rW rV;have HB:=am (Below.refl w.heap.size w)
 have H:=h;unfold mQ.f at H
 clear h;replace H:=ba H;obtain⟨bB2,A3,H⟩:=H
 replace H:=ib H;rcases H with ⟨rfl,H⟩|⟨rfl,H⟩
 ·replace H:=ba H;obtain⟨aVf,A5,H⟩:=H;replace H:=ba H;obtain⟨a3e,A6,H⟩:=H;obtain rfl:=si H;go_enter Tryz.func14,Tryz.ntmps14
  go_wp2_with (first|(refine gd 2 ?_;refine bx 2 (cs:= #[.slice mH fI.length mI, .slice nQ bV.length lH]) (t:=26) ?_;intro aEz hg w7 bT hb;have LM:=am (bT);have a4a:=am ((kI:w.heap.size≤aEz));have XC:=am ((kI:w.heap.size≤aEz));replace HB:=o8 hb;clear hb bT hg;have⟨_,_,_,_⟩:=oP LM.out)|(refine gd 6 ?_;refine gv Tryz.func20 (kX.calls k _ _ fI _ _ bV true _ (cq (Kd.dV p9.out HB.out)) pY.out (cq (Kd.dV nE.out HB.out)) sN.out A3.out) ?_;intro w9 hb;replace LM:=kb LM hb;replace HB:=st1 XC hb;clear hb;have⟨_,_,_,_⟩:=oP LM.out)|(go_at_call 23;(with_reducible refine(fT.calls k _ _ fI _ _ bV aVf _ ?dS pY.out ?mU sN.out A5.out).mono ?_);(case dS=>exact cq (Kd.dV p9.out HB.out));(case mU=>exact cq (Kd.dV nE.out HB.out));rintro e w11 ⟨bTx,rfl,ho0,hb⟩;have aLS:=am (Kd.dZ ho0 (aH (cK XC.out)));replace LM:=kb LM hb;replace HB:=st1 XC hb;clear hb;clear ho0;obtain⟨aRI,aSF,aFR⟩:=Kd.bS aLS.out;subst aFR)|(go_at_call 45;(with_reducible refine(gY.calls k _ _ aVf a1 a3e _ ?dS ((Kd.aM aLS.out).2.1) A6.out).mono ?_);(case dS=>exact cq (Kd.aM aLS.out).2.2);rintro e w' ⟨rfl,⟨nd,rfl⟩⟩))
  go_ret
  exact⟨nD,cK XC.out⟩
 obtain rfl:=si H;go_enter Tryz.func14,Tryz.ntmps14
 go_wp2_with (first|(refine gd 2 ?_;refine bx 2 (cs:= #[.slice mH fI.length mI, .slice nQ bV.length lH]) (t:=26) ?_;intro aEz hg w13 bT hb;have LM:=am (bT);have a4a:=am ((kI:w.heap.size≤aEz));have XC:=am ((kI:w.heap.size≤aEz));replace HB:=o8 hb;clear hb bT hg;have⟨_,_,_,_⟩:=oP LM.out)|(refine gd 6 ?_;refine gv Tryz.func20 (kX.calls k _ _ fI _ _ bV false _ (cq (Kd.dV p9.out HB.out)) pY.out (cq (Kd.dV nE.out HB.out)) sN.out A3.out) ?_;intro w15 hb;replace LM:=kb LM hb;replace HB:=st1 XC hb;clear hb))
 go_ret
 exact⟨nD,cK XC.out⟩
end Go.Proofs.YtpljfjbhlboffaaGreat.eH

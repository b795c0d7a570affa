import Derived.Test.YtpljfjbhlboffaaGreatQFnMachineBookx0
namespace Go.Proofs.YtpljfjbhlboffaaGreat.eH
open Go.RowKit Go.Proofs.YtpljfjbhlboffaaGreatW.bJ Go.Proofs.YtpljfjbhlboffaaGreatW.gI Go.Proofs.YtpljfjbhlboffaaGreatW.jC Go.Proofs.YtpljfjbhlboffaaGreat.Sh
attribute [local go_sem] rD rF uY uZ pE pF rE rG
set_option linter.unusedVariables false
set_option linter.unusedSimpArgs false
set_option maxHeartbeats 8000000
set_option maxRecDepth 100000
attribute [local go_sem high] aNJ
mutual
def dA.l0:Nat→List (kH)→Int→List Int→Int→Option ((List (kH))×Int)
 |0,_,_,_,_=>none
 |k+1,x3,x4,x1000,lC=>if x4>0 then((kJ.f k x1000 lC).bind fun aAP=>(dA.l1 k x3 x4 false 0 x1000 aAP.2.2.2.2.2 aAP.1 aAP.2.1 aAP.2.2.1 aAP.2.2.2.1 aAP.2.2.2.2.1))else(some (x3,lC))
def dA.l1:Nat→List (kH)→Int→Bool→Int→List Int→Int→ByteArray→Bool→ByteArray→ByteArray→ByteArray→Option ((List (kH))×Int)
 |0,_,_,_,_,_,_,_,_,_,_,_=>none
 |k+1,x3,x4,x6,x7,x1000,lC,WB,WC,WE,WG,WH=>if x7<(x3.length:Int)then(if x6=true then(dA.l1 k x3 x4 true (wrap64 (x7+1)) x1000 lC WB WC WE WG WH)else(if 0≤x7 then(dA.l1 k x3 x4 ((((aD x3 x7).f0).toList)==WB.toList&&(((aD x3 x7).f1)==WC&&((((aD x3 x7).f2).toList)==WE.toList&&((((aD x3 x7).f3).toList)==WG.toList&&((((aD x3 x7).f4).toList)==WH.toList))))) (wrap64 (x7+1)) x1000 lC WB WC WE WG WH)else(none)))else(if x6=true then(dA.l0 k x3 (wrap64 (x4-1)) x1000 lC)else(if x3.length<1954687338268 then(dA.l0 k (x3++[(⟨WB,WC,WE,WG,WH⟩:kH)]) (wrap64 (x4-1)) x1000 lC)else(none)))
end
def dA.f (k:Nat) (dG:List Int) (iX:Int):Option ((List (kH))×Int):=(aQ.f k dG iX 5).bind fun aWO=>(dA.l0 k (([]:List (kH))) aWO.1 dG aWO.2)
theorem dA.calls (k:Nat) (g:Nat) (dG:List Int) (iX:Int) (r1:List (kH)) (r2:Int) (w0 w:World) (hI:aI w0 w g dG iX) (hB:Below w0.heap.size w0 w) (h:dA.f k dG iX=some (r1,r2)):
  Calls Tryz.prog 80 #[.pointer (some ⟨g,0,none⟩)] w fun e w' => ∃sQ:Value,e= .returned (sQ)∧Kd.R yG 87 w' w.heap.size (fun _=>True) sQ r1∧aI w0 w' g dG r2∧Below w0.heap.size w0 w' ∧aZ w w' g none:=by
 have U8:=Tryz.underlying87;have HI0:=am hI;have HK:=am (aZ.refl w g none);have HL:=am hB.size;clear hI;have HW0:=am hB.size;have HB:=am hB;clear hB
 have H:=h;unfold dA.f at H
 clear h;obtain⟨bLM,aOE⟩: ∃y_:List (kH),y_=(([]:List (kH))):=⟨_,rfl⟩
 rw [←aOE] at H
 have a5S:=am aOE;clear aOE;replace H:=ba H;obtain⟨⟨t144,t145⟩,A2,H⟩:=H;dsimp only at H
 have H' :=am H
 clear H;go_enter Tryz.func80,Tryz.ntmps80
 go_wp2_with (first|(refine gd 8 ?_;refine Kd.mJ yG _ 87 ?hg (N:=8) ?hd (xs:=([]:List (kH))) (inner:=[]) (ok:=fun _=>True) (mK:=fun _=>True) ?hr ?hp (fun _ hk=>hk) trivial (Below.refl _ _) (Nat.le_refl _) (by simp) ?_;(case hd=>rfl);(case hg=>rfl);(case hr=>(go_simp;done));(case hp=>exact(dQ.none _ _));intro bSW w3 ho4 hb lL dP;clear lL dP;(rw [←a5S.out] at ho4);have aLP:=kl g ho4 uO;replace HK:=kt g uO hb;replace HB:=am (aY FB hb);replace HI0:=am (aI.below DV hb);clear hb ho4)|(go_at_call 48;(with_reducible refine(aQ.calls k g dG iX 5 t144 t145 w0 _ HI0.out HB.out A2.out).mono ?_);rintro e w5 ⟨rfl,hi,hb,hk⟩;replace aLP:=ka (aI.apart HI0.out (rq aLP.out) (by decide)) hk;replace HK:=ku uO hk;replace HB:=am (hb);replace HI0:=am (hi);clear hb hk hi))
 go_loopg [3,4] k (fun kq v3 v4 w' => ∃(bL:List (kH)) (aV:Int) (sK:Int),v4= .int .i64 aV∧aC (dA.l0 kq bL aV dG sK=some (r1,r2))∧aC (kq≤k)∧aC (Kd.R yG 87 w' w.heap.size (fun _=>True) v3 bL)∧aC (aI w0 w' g dG sK)∧aC (aZ w w' g none)∧aC (Below w0.heap.size w0 w'))
 case atStart=>exact⟨(bLM),(t144),(t145),sq,H',⟨Nat.le_refl _⟩,⟨rq aLP.out⟩,⟨DV⟩,⟨uO⟩,⟨FB⟩⟩
 case round=>
  clear H';obtain⟨bL,aV,sK,rfl,HA,lM,dN,HI0,HK,HB⟩:=hrel
  cases gk with
  |zero=>exact absurd HA.out (by simp [dA.l0])
  |succ k1=>
   have H:=HA.out;clear HA;simp only [dA.l0] at H
   replace H:=iv H;rcases H with ⟨sW,H⟩|⟨sW,H⟩
   ·replace H:=ba H;obtain⟨⟨t146,t147,t148,t149,t150,t151⟩,A7,H⟩:=H;dsimp only at H
    have H' :=am H
    clear H
    go_wp2_with (first|(go_at_call 83;(with_reducible refine(kJ.calls k1 g dG sK t146 t147 t148 t149 t150 t151 w0 _ HI0.out HB.out A7.out).mono ?_);rintro e w8 ⟨rfl,hi,hb,hk⟩;replace dN:=ka (aI.apart HI0.out (rq dN.out) (by decide)) hk;replace HK:=ku uO hk;replace HB:=am (hb);replace HI0:=am (hi);clear hb hk hi)|(refine gd 5 ?_;refine bx 5 (cs:= #[.string (⟨#[]⟩:ByteArray), .bool false, .string (⟨#[]⟩:ByteArray), .string (⟨#[]⟩:ByteArray), .string (⟨#[]⟩:ByteArray)]) (t:=87) ?_;intro yP hg w9 bT hb;replace dN:=am (Kd.nP (Kd.BR (rq dN.out) yP (Nat.le_of_eq hg.symm)) hb);replace HB:=am (aY FB hb);have LH:=am (bT);have a3V:=am ((NJ:w.heap.size≤yP));have a3N:=am ((Nat.le_trans HW0.out (NJ:w.heap.size≤yP):w0.heap.size≤yP));replace HK:=kt g uO hb;have VR:=am ((bFQ:g≠yP));have aBw:=am ((bFR:yP≠g));replace HI0:=am (aI.below DV hb);clear hb bT hg;have aOo:=aBw.out;have aOq:=VR.out;have⟨aCf,aCg,aCh,aCi,aCj,aCk,aCl,aCm,aCn,aCo⟩:=yM LH.out))
    go_loopg [6,7] k1 (fun kq v6 v7 w' => ∃(EP:Bool) (lW:Int),v6= .bool EP∧v7= .int .i64 lW∧aC (dA.l1 kq bL aV EP lW dG t151 t146 t147 t148 t149 t150=some (r1,r2))∧aC (kq≤k1)∧aC (Kd.R yG 87 w' w.heap.size (fun k_=>k_≠yP) u3 bL)∧aC (w'.heap[yP]?=some (.cells #[.string t146, .bool t147, .string t148, .string t149, .string t150] 87 (0,0)))∧aC (aI w0 w' g dG t151)∧aC (aZ w w' g none)∧aC (Below w0.heap.size w0 w'))
    case atStart=>exact⟨(false),(0),sq,sq,H',⟨Nat.le_refl _⟩,⟨rq (Kd.bA (Kd.bZ (p:=⟨yP,4,none⟩) (Kd.bZ (p:=⟨yP,3,none⟩) (Kd.bZ (p:=⟨yP,2,none⟩) (Kd.bZ (p:=⟨yP,1,none⟩) (Kd.bZ (p:=⟨yP,0,none⟩) (Kd.bA dN.out (fun k_ hk=>(⟨hk,hk.2⟩:_∧k_≠yP))) (fun _ hk=>hk.2) (.string t146)) (fun _ hk=>hk.2) (.bool t147)) (fun _ hk=>hk.2) (.string t148)) (fun _ hk=>hk.2) (.string t149)) (fun _ hk=>hk.2) (.string t150)) (fun _ hk=>hk.1.2))⟩,⟨by(with_reducible repeat(fail));refine bM (cs:= #[.string t146, .bool t147, .string t148, .string t149, .string (⟨#[]⟩:ByteArray)]) ?_ 4 _ rfl;(with_reducible repeat(fail));refine bM (cs:= #[.string t146, .bool t147, .string t148, .string (⟨#[]⟩:ByteArray), .string (⟨#[]⟩:ByteArray)]) ?_ 3 _ rfl;(with_reducible repeat(fail));refine bM (cs:= #[.string t146, .bool t147, .string (⟨#[]⟩:ByteArray), .string (⟨#[]⟩:ByteArray), .string (⟨#[]⟩:ByteArray)]) ?_ 2 _ rfl;(with_reducible repeat(fail));refine bM (cs:= #[.string t146, .bool false, .string (⟨#[]⟩:ByteArray), .string (⟨#[]⟩:ByteArray), .string (⟨#[]⟩:ByteArray)]) ?_ 1 _ rfl;(with_reducible repeat(fail));refine bM (cs:= #[.string (⟨#[]⟩:ByteArray), .bool false, .string (⟨#[]⟩:ByteArray), .string (⟨#[]⟩:ByteArray), .string (⟨#[]⟩:ByteArray)]) ?_ 0 _ rfl;(with_reducible repeat(fail));exact LH.out⟩,⟨aKi⟩,⟨aFx⟩,⟨aKh⟩⟩
    case round=>
     clear H';clear sW aCf aCg aCh aCi aCj aCk aCl aCm aCn aCo;obtain⟨EP,lW,rfl,rfl,HA,uP,dN,LH,HI0,HK,HB⟩:=hrel
     cases gk with
     |zero=>exact absurd HA.out (by simp [dA.l1])
     |succ k2=>
      have H:=HA.out;clear HA;simp only [dA.l1] at H
      replace H:=iv H;rcases H with ⟨xN,H⟩|⟨xN,H⟩
      ·by_cases c13:EP=true
       ·subst c13
        rw [if_pos rfl] at H
        have H' :=am H
        clear H;obtain⟨wT,wY,aBO⟩:=Kd.bS dN.out;subst aBO;go_wp2
        repeat(go_quiet (fail);try go_wp2)
        go_roundg k2
        case measure=>have:=lM.out;have:=uP.out;omega
        case rel=>exact⟨(true),(wrap64 (lW+1)),sq,sq,H',⟨OH⟩,⟨rq dN.out⟩,⟨bq LH.out⟩,⟨aKi⟩,⟨aFx⟩,⟨aKh⟩⟩
       replace c13:=Bool.eq_false_iff.mpr c13;subst c13
       rw [if_neg Bool.false_ne_true] at H;replace H:=it H;obtain⟨BX,H⟩:=H
       have H' :=am H
       clear H;obtain⟨bQx,bRk,bHx⟩:=Kd.bS dN.out;subst bHx
       obtain⟨bNb,e153,bDZ,bD0,bD1,bD2,bD3⟩:=sH (Kd.aM dN.out).2.2 lW dt dt;cases e153
       have bR0:=e0 lW;have bSt:=e1 lW (bL.length:Int);have bO9:=aBw.out;have bPK:=VR.out;have⟨_,_,_,_,_,_,_,_,_,_⟩:=yM LH.out;go_wp2
       repeat(go_quiet (fail);try go_wp2)
       go_roundg k2
       case measure=>have:=lM.out;have:=uP.out;omega
       case rel=>exact⟨(((((aD bL lW).f0).toList)==t146.toList&&(((aD bL lW).f1)==t147&&((((aD bL lW).f2).toList)==t148.toList&&((((aD bL lW).f3).toList)==t149.toList&&((((aD bL lW).f4).toList)==t150.toList)))))),(wrap64 (lW+1)),sq,sq,H',⟨OH⟩,⟨rq dN.out⟩,⟨bq LH.out⟩,⟨aKi⟩,⟨aFx⟩,⟨aKh⟩⟩
      replace H:=ib H;rcases H with ⟨rfl,H⟩|⟨rfl,H⟩
      ·have H' :=am H
       clear H;obtain⟨aYA,aEe,aFU⟩:=Kd.bS dN.out;subst aFU;go_wp2
       go_roundg k2
       case measure=>have:=lM.out;have:=uP.out;omega
       case rel=>exact⟨(bL),(wrap64 (aV-1)),(t151),sq,H',⟨OH⟩,⟨rq (Kd.bA dN.out (fun _ hk=>trivial))⟩,⟨aKi⟩,⟨aFx⟩,⟨aKh⟩⟩
      replace H:=ip H;obtain⟨c21,H⟩:=H;have aL0:=am c21;clear c21;obtain⟨bLN,aOF⟩: ∃y_:List (kH),y_=(bL++[(⟨t146,t147,t148,t149,t150⟩:kH)]):=⟨_,rfl⟩
      rw [←aOF] at H
      have a5T:=am aOF;clear aOF
      have H' :=am H
      clear H;obtain⟨aDt,FJ,aFV⟩:=Kd.bS dN.out;subst aFV;have bPd:=aBw.out;have bPO:=VR.out;have⟨_,_,_,_,_,_,_,_,_,_⟩:=yM LH.out
      go_wp2_with ((with_reducible refine gL (b:= .append) (xs:= #[.tmp 34, .tmp 36]) rfl ?_);at_builtin;refine Kd.oI yG w.heap.size rfl (.tmp 34) (.tmp 36) 23 87 (.agg #[(.string ⟨#[]⟩),(.bool false),(.string ⟨#[]⟩),(.string ⟨#[]⟩),(.string ⟨#[]⟩)]) 72 rfl Tryz.underlying23 aCU rfl (by decide) (by omega) (.slice aDt bL.length FJ) bL (⟨t146,t147,t148,t149,t150⟩:kH) [.string t146, .bool t147, .string t148, .string t149, .string t150] (fun k_=>k_≠yP) (fun _=>False) rfl rfl ?aP (fun _ hk=>hk.elim) ?aF ?aO (Below.refl _ _) ?aS ?aL ?_;(case aP=>exact yH _ _ _ (⟨t146,t147,t148,t149,t150⟩:kH));(case aF=>exact(fun k_ hk=>Kd.pV (g:=yP) (o:= .cells #[.string t146, .bool t147, .string t148, .string t149, .string t150] 87 (0,0)) (bq LH.out) k_ hk));(case aO=>exact(rq dN.out));(case aS=>exact(mX (w:=w) (g:=g) (row:=none) aFx));(case aL=>have:=aL0.out;omega);intro bSX w25 ho hb hg hat;rw [←a5T.out] at ho;replace LH:=am (gK (g:=yP) (o:= .cells #[.string t146, .bool t147, .string t148, .string t149, .string t150] 87 (0,0)) (bq LH.out) hg (Kd.I6 dN.out (fun _ hk=>hk)));replace HB:=am (zT aKh HL.out hb);replace HI0:=am (aI.grown aKi hg (aI.vM HI0.out dN.out (by decide)));replace HK:=am (aZ.trans aFx (aZ.JX hg g) (Kd.VT dN.out));have a4r:=am (ho);clear dN;clear ho hb hg hat)
      go_roundg k2
      case measure=>have:=lM.out;have:=uP.out;omega
      case rel=>exact⟨(bLN),(wrap64 (aV-1)),(t151),sq,H',⟨OH⟩,⟨rq (Kd.bA a4r.out (fun _ hk=>trivial))⟩,⟨aKi⟩,⟨aFx⟩,⟨aKh⟩⟩
   simp only [Option.some.injEq,Prod.mk.injEq] at H
   obtain⟨rfl,rfl⟩:=H;go_wp2
   go_ret
   exact⟨_,nD,aMD,DV,FB,uO⟩
def gH.f (k:Nat) (dG:List Int) (iX:Int) (l1:List ByteArray):Option (ByteArray×Int):=(aQ.f k dG iX (l1.length:Int)).bind fun aHS=>(if 0≤aHS.1 then(if aHS.1<(l1.length:Int)then(some (bP ByteArray.empty l1 aHS.1,aHS.2))else(none))else(none))
theorem gH.calls (k:Nat) (g:Nat) (dG:List Int) (iX:Int) (A1:Option Addr) (c1:Nat) (l1:List ByteArray) (r1:ByteArray) (r2:Int) (w0 w:World) (hI:aI w0 w g dG iX) (hB:Below w0.heap.size w0 w) (hr1:Kd.C Kd.string w A1 l1.length l1) (hc1:l1.length≤c1) (hf1: ∀ad,A1=some ad→0<l1.length→ad.block≠g) (h:gH.f k dG iX l1=some (r1,r2)):
  Calls Tryz.prog 51 #[.pointer (some ⟨g,0,none⟩), .slice A1 l1.length c1] w fun e w' =>e= .returned (.string r1)∧aI w0 w' g dG r2∧Below w0.heap.size w0 w' ∧aZ w w' g none:=by
 have HR1:=am hr1;have HC1:=am hc1;clear hr1 hc1;have HI0:=am hI;have HK:=am (aZ.refl w g none);have HL:=am hB.size;clear hI;have HW0:=am hB.size;have HB:=am hB;clear hB
 have H:=h;unfold gH.f at H
 clear h;replace H:=ba H;obtain⟨⟨t157,t158⟩,A3,H⟩:=H;dsimp only at H
 replace H:=it H;obtain⟨qZ,H⟩:=H
 replace H:=it H;obtain⟨oL,H⟩:=H
 simp only [Option.some.injEq,Prod.mk.injEq] at H
 obtain⟨rfl,rfl⟩:=H;go_enter Tryz.func51,Tryz.ntmps51
 go_wp2_with (refine gd 9 ?_;refine gv Tryz.func48 (aQ.calls k g dG iX (l1.length:Int) t157 t158 w0 _ HI0.out HB.out A3.out) ?_;rintro w6 ⟨hi,hb,hk⟩;replace HK:=ku uO hk;replace HB:=am (hb);replace HI0:=am (hi);clear hb hk hi;have a2p:0≤(t157:Int):=dt;have a2y:t157<(l1.length:Int):=dt;obtain⟨bNc,bGH,aI7⟩:=Kd.SI HR1.out t157 a2p a2y;cases bGH;replace aI7:=aA5 HK.out aI7 (by(rw [sS];exact hf1 _ rfl (by omega)));replace a2p:=eq_true a2p;replace a2y:=eq_true a2y)
 go_ret
 exact⟨nD,DV,FB,uO⟩
def lG.f (a0:Int) (a1:Int):Option (Int):=if a0<a1 then(some a0)else(some a1)
theorem lG.calls (a0:Int) (a1:Int) (r:Int) (w:World) (h:lG.f a0 a1=some r):
  Calls Tryz.prog 94 #[.int .i64 a0, .int .i64 a1] w fun e w' =>e= .returned (.int .i64 r)∧iB w w' :=by
 have H:=h;unfold lG.f at H
 clear h
 replace H:=iv H;rcases H with ⟨oG,H⟩|⟨oG,H⟩
 ·obtain rfl:=si H;go_enter Tryz.func94,Tryz.ntmps94;go_wp2;go_ret
  exact⟨sq,dr⟩
 obtain rfl:=si H;go_enter Tryz.func94,Tryz.ntmps94;go_wp2;go_ret
 exact⟨sq,dr⟩
def iW.l0:Nat→ByteArray→Int→List Int→Int→Option (ByteArray×Int)
 |0,_,_,_,_=>none
 |k+1,x3,x4,x1000,lC=>if x4>0 then((gH.f k x1000 lC (([(⟨#[97]⟩:ByteArray),(⟨#[98]⟩:ByteArray),(⟨#[99]⟩:ByteArray),(⟨#[97,98]⟩:ByteArray),(⟨#[116]⟩:ByteArray)]:List ByteArray))).bind fun aM6=>(if x3.size+aM6.1.size≤9223372036854775807 then(iW.l0 k (x3++aM6.1) (wrap64 (x4-1)) x1000 aM6.2)else(none)))else((lG.f (x3.size:Int) 12).bind fun t169=>(if 0≤t169 then(if t169≤(x3.size:Int)then(some (x3.extract 0 (t169:Int).toNat,lC))else(none))else(none)))
def iW.f (k:Nat) (dG:List Int) (iX:Int):Option (ByteArray×Int):=(aQ.f k dG iX 3).bind fun aM5=>(if aM5.1=0 then((aQ.f k dG aM5.2 5).bind fun aWP=>(iW.l0 k (⟨#[]⟩:ByteArray) (wrap64 (1+aWP.1)) dG aWP.2))else((gH.f k dG aM5.2 (([(⟨#[99,97,116]⟩:ByteArray),(⟨#[99,97,116,115]⟩:ByteArray),(⟨#[97,99,116]⟩:ByteArray),(⟨#[100,111]⟩:ByteArray),(⟨#[100,111,105,110,103]⟩:ByteArray),(⟨#[103,111]⟩:ByteArray),(⟨#[117,110,100,111]⟩:ByteArray),(⟨#[116,114,121]⟩:ByteArray),(⟨#[116,114,105,101,115]⟩:ByteArray),(⟨#[97]⟩:ByteArray),(⟨#[98,97,107,101]⟩:ByteArray),(⟨#[98,97,107,105,110,103]⟩:ByteArray),(⟨#[116,97,99,116]⟩:ByteArray),(⟨#[99,97,114,116]⟩:ByteArray),(⟨#[97,98,99,97,98,99,97,98,99,97,98,99]⟩:ByteArray)]:List ByteArray))).bind fun aWQ=>(some (aWQ.1,aWQ.2))))
theorem iW.calls (k:Nat) (g:Nat) (dG:List Int) (iX:Int) (r1:ByteArray) (r2:Int) (w0 w:World) (hI:aI w0 w g dG iX) (hB:Below w0.heap.size w0 w) (h:iW.f k dG iX=some (r1,r2)):
  Calls Tryz.prog 81 #[.pointer (some ⟨g,0,none⟩)] w fun e w' =>e= .returned (.string r1)∧aI w0 w' g dG r2∧Below w0.heap.size w0 w' ∧aZ w w' g none:=by
 have HI0:=am hI;have HK:=am (aZ.refl w g none);have HL:=am hB.size;clear hI;have HW0:=am hB.size;have HB:=am hB;clear hB
 have H:=h;unfold iW.f at H
 clear h;replace H:=ba H;obtain⟨⟨t160,t161⟩,A2,H⟩:=H;dsimp only at H
 by_cases c3:t160=0
 ·rw [if_pos c3] at H
  have oG:(t160==0)=true:=beq_iff_eq.mpr c3
  have GA:(t160 !=0)=false:=bne_eq_false_iff_eq.mpr c3
  clear c3;replace H:=ba H;obtain⟨⟨t162,t163⟩,A4,H⟩:=H;dsimp only at H
  have H' :=am H
  clear H;go_enter Tryz.func81,Tryz.ntmps81
  go_wp2_with (first|(refine gd 6 ?_;refine gv Tryz.func48 (aQ.calls k g dG iX 3 t160 t161 w0 _ HI0.out HB.out A2.out) ?_;rintro w5 ⟨hi,hb,hk⟩;replace HK:=ku uO hk;replace HB:=am (hb);replace HI0:=am (hi);clear hb hk hi)|(refine gd 9 ?_;refine gv Tryz.func48 (aQ.calls k g dG t161 5 t162 t163 w0 _ HI0.out HB.out A4.out) ?_;rintro w6 ⟨hi,hb,hk⟩;replace HK:=ku uO hk;replace HB:=am (hb);replace HI0:=am (hi);clear hb hk hi))
  go_loopg [3,4] k (fun kq v3 v4 w' => ∃(bL:ByteArray) (aV:Int) (sK:Int),v3= .string bL∧v4= .int .i64 aV∧aC (iW.l0 kq bL aV dG sK=some (r1,r2))∧aC (kq≤k)∧aC (aI w0 w' g dG sK)∧aC (aZ w w' g none)∧aC (Below w0.heap.size w0 w'))
  case atStart=>exact⟨((⟨#[]⟩:ByteArray)),(wrap64 (1+t162)),(t163),sq,sq,H',⟨Nat.le_refl _⟩,⟨DV⟩,⟨uO⟩,⟨FB⟩⟩
  case round=>
   clear H';clear oG GA;obtain⟨bL,aV,sK,rfl,rfl,HA,lM,HI0,HK,HB⟩:=hrel
   cases gk with
   |zero=>exact absurd HA.out (by simp [iW.l0])
   |succ k1=>
    have H:=HA.out;clear HA;simp only [iW.l0] at H
    replace H:=iv H;rcases H with ⟨wR,H⟩|⟨wR,H⟩
    ·obtain⟨bLO,aOG⟩: ∃y_:List ByteArray,y_=(([(⟨#[97]⟩:ByteArray),(⟨#[98]⟩:ByteArray),(⟨#[99]⟩:ByteArray),(⟨#[97,98]⟩:ByteArray),(⟨#[116]⟩:ByteArray)]:List ByteArray)):=⟨_,rfl⟩
     rw [←aOG] at H
     have a5U:=am aOG;clear aOG;replace H:=ba H;obtain⟨⟨t167,t168⟩,A8,H⟩:=H;dsimp only at H;replace H:=ip H;obtain⟨c9,H⟩:=H;have wE:=eq_true c9
     have XZ:decide (bL.size+t167.size≤9223372036854775807)=true:=decide_eq_true c9
     have bQ3:(9223372036854775807<bL.size+t167.size)=False:=eq_false (Nat.not_lt.2 c9)
     have H' :=am H
     clear H
     go_wp2_with (first|(refine gd 17 ?_;refine Kd.mJ Kd.string _ 9 ?hg (N:=17) ?hd (xs:=([(⟨#[97]⟩:ByteArray),(⟨#[98]⟩:ByteArray),(⟨#[99]⟩:ByteArray),(⟨#[97,98]⟩:ByteArray),(⟨#[116]⟩:ByteArray)]:List ByteArray)) (inner:=[.string (⟨#[97]⟩:ByteArray), .string (⟨#[98]⟩:ByteArray), .string (⟨#[99]⟩:ByteArray), .string (⟨#[97,98]⟩:ByteArray), .string (⟨#[116]⟩:ByteArray)]) (ok:=fun _=>True) (mK:=fun _=>True) ?hr ?hp (fun _ hk=>hk) trivial (Below.refl _ _) (Nat.le_refl _) (by simp) ?_;(case hd=>rfl);(case hg=>rfl);(case hr=>(go_simp;done));(case hp=>exact(dQ.one (show Kd.M Kd.string _ _ _ (⟨#[97]⟩:ByteArray) [.string (⟨#[97]⟩:ByteArray)] from rfl) (dQ.one (show Kd.M Kd.string _ _ _ (⟨#[98]⟩:ByteArray) [.string (⟨#[98]⟩:ByteArray)] from rfl) (dQ.one (show Kd.M Kd.string _ _ _ (⟨#[99]⟩:ByteArray) [.string (⟨#[99]⟩:ByteArray)] from rfl) (dQ.one (show Kd.M Kd.string _ _ _ (⟨#[97,98]⟩:ByteArray) [.string (⟨#[97,98]⟩:ByteArray)] from rfl) (dQ.one (show Kd.M Kd.string _ _ _ (⟨#[116]⟩:ByteArray) [.string (⟨#[116]⟩:ByteArray)] from rfl) (dQ.none _ _)))))));intro bSY w10 a1B hb lL dP;clear lL dP;(rw [←a5U.out] at a1B);have aAx:=kl g a1B uO;replace HK:=kt g uO hb;replace HB:=am (aY FB hb);replace HI0:=am (aI.below DV hb);clear hb a1B;obtain⟨aRI,aSF,aFR⟩:=Kd.bS aAx.out;subst aFR)|(refine gd 18 ?_;refine gv Tryz.func51 (gH.calls k1 g dG sK _ _ bLO t167 t168 w0 _ HI0.out HB.out (cq (Kd.aM aAx.out).2.2) ((Kd.aM aAx.out).2.1) (uX (aI.vM HI0.out aAx.out (by decide))) A8.out) ?_;rintro w13 ⟨hi,hb,hk⟩;replace aAx:=ka (aI.apart HI0.out (rq aAx.out) (by decide)) hk;replace HK:=ku uO hk;replace HB:=am (hb);replace HI0:=am (hi);clear hb hk hi))
     go_roundg k1
     case measure=>have:=lM.out;omega
     case rel=>exact⟨(bL++t167),(wrap64 (aV-1)),(t168),sq,sq,H',⟨rO⟩,⟨DV⟩,⟨uO⟩,⟨FB⟩⟩
    replace H:=ba H;obtain⟨t169,A14,H⟩:=H
    replace H:=ip H;obtain⟨c15,H⟩:=H;have BX:=eq_true c15
    have aNd:decide (0≤t169)=true:=decide_eq_true c15
    clear c15;replace H:=ip H;obtain⟨c16,H⟩:=H;have BZ:=eq_true c16
    have aH3:decide (t169≤(bL.size:Int))=true:=decide_eq_true c16
    clear c16;simp only [Option.some.injEq,Prod.mk.injEq] at H;obtain⟨rfl,rfl⟩:=H
    go_wp2_with (refine gd 23 ?_;refine gv Tryz.func94 (lG.calls (bL.size:Int) 12 t169 _ A14.out) ?_;rintro w' ⟨nd,rfl⟩)
    go_ret
    exact⟨nD,DV,FB,uO⟩
 rw [if_neg c3] at H
 have oG:(t160==0)=false:=beq_eq_false_iff_ne.mpr c3
 have GA:(t160 !=0)=true:=bne_iff_ne.mpr c3
 obtain⟨bLP,aOH⟩: ∃y_:List ByteArray,y_=(([(⟨#[99,97,116]⟩:ByteArray),(⟨#[99,97,116,115]⟩:ByteArray),(⟨#[97,99,116]⟩:ByteArray),(⟨#[100,111]⟩:ByteArray),(⟨#[100,111,105,110,103]⟩:ByteArray),(⟨#[103,111]⟩:ByteArray),(⟨#[117,110,100,111]⟩:ByteArray),(⟨#[116,114,121]⟩:ByteArray),(⟨#[116,114,105,101,115]⟩:ByteArray),(⟨#[97]⟩:ByteArray),(⟨#[98,97,107,101]⟩:ByteArray),(⟨#[98,97,107,105,110,103]⟩:ByteArray),(⟨#[116,97,99,116]⟩:ByteArray),(⟨#[99,97,114,116]⟩:ByteArray),(⟨#[97,98,99,97,98,99,97,98,99,97,98,99]⟩:ByteArray)]:List ByteArray)):=⟨_,rfl⟩
 rw [←aOH] at H
 have a5V:=am aOH;clear aOH;replace H:=ba H;obtain⟨⟨t173,t174⟩,A17,H⟩:=H;dsimp only at H
 simp only [Option.some.injEq,Prod.mk.injEq] at H
 obtain⟨rfl,rfl⟩:=H;go_enter Tryz.func81,Tryz.ntmps81
 go_wp2_with (first|(refine gd 6 ?_;refine gv Tryz.func48 (aQ.calls k g dG iX 3 t160 t161 w0 _ HI0.out HB.out A2.out) ?_;rintro w18 ⟨hi,hb,hk⟩;replace HK:=ku uO hk;replace HB:=am (hb);replace HI0:=am (hi);clear hb hk hi)|(refine gd 26 ?_;refine Kd.mJ Kd.string _ 9 ?hg (N:=26) ?hd (xs:=([(⟨#[99,97,116]⟩:ByteArray),(⟨#[99,97,116,115]⟩:ByteArray),(⟨#[97,99,116]⟩:ByteArray),(⟨#[100,111]⟩:ByteArray),(⟨#[100,111,105,110,103]⟩:ByteArray),(⟨#[103,111]⟩:ByteArray),(⟨#[117,110,100,111]⟩:ByteArray),(⟨#[116,114,121]⟩:ByteArray),(⟨#[116,114,105,101,115]⟩:ByteArray),(⟨#[97]⟩:ByteArray),(⟨#[98,97,107,101]⟩:ByteArray),(⟨#[98,97,107,105,110,103]⟩:ByteArray),(⟨#[116,97,99,116]⟩:ByteArray),(⟨#[99,97,114,116]⟩:ByteArray),(⟨#[97,98,99,97,98,99,97,98,99,97,98,99]⟩:ByteArray)]:List ByteArray)) (inner:=[.string (⟨#[99,97,116]⟩:ByteArray), .string (⟨#[99,97,116,115]⟩:ByteArray), .string (⟨#[97,99,116]⟩:ByteArray), .string (⟨#[100,111]⟩:ByteArray), .string (⟨#[100,111,105,110,103]⟩:ByteArray), .string (⟨#[103,111]⟩:ByteArray), .string (⟨#[117,110,100,111]⟩:ByteArray), .string (⟨#[116,114,121]⟩:ByteArray), .string (⟨#[116,114,105,101,115]⟩:ByteArray), .string (⟨#[97]⟩:ByteArray), .string (⟨#[98,97,107,101]⟩:ByteArray), .string (⟨#[98,97,107,105,110,103]⟩:ByteArray), .string (⟨#[116,97,99,116]⟩:ByteArray), .string (⟨#[99,97,114,116]⟩:ByteArray), .string (⟨#[97,98,99,97,98,99,97,98,99,97,98,99]⟩:ByteArray)]) (ok:=fun _=>True) (mK:=fun _=>True) ?hr ?hp (fun _ hk=>hk) trivial (Below.refl _ _) (Nat.le_refl _) (by simp) ?_;(case hd=>rfl);(case hg=>rfl);(case hr=>(go_simp;done));(case hp=>exact(dQ.one (show Kd.M Kd.string _ _ _ (⟨#[99,97,116]⟩:ByteArray) [.string (⟨#[99,97,116]⟩:ByteArray)] from rfl) (dQ.one (show Kd.M Kd.string _ _ _ (⟨#[99,97,116,115]⟩:ByteArray) [.string (⟨#[99,97,116,115]⟩:ByteArray)] from rfl) (dQ.one (show Kd.M Kd.string _ _ _ (⟨#[97,99,116]⟩:ByteArray) [.string (⟨#[97,99,116]⟩:ByteArray)] from rfl) (dQ.one (show Kd.M Kd.string _ _ _ (⟨#[100,111]⟩:ByteArray) [.string (⟨#[100,111]⟩:ByteArray)] from rfl) (dQ.one (show Kd.M Kd.string _ _ _ (⟨#[100,111,105,110,103]⟩:ByteArray) [.string (⟨#[100,111,105,110,103]⟩:ByteArray)] from rfl) (dQ.one (show Kd.M Kd.string _ _ _ (⟨#[103,111]⟩:ByteArray) [.string (⟨#[103,111]⟩:ByteArray)] from rfl) (dQ.one (show Kd.M Kd.string _ _ _ (⟨#[117,110,100,111]⟩:ByteArray) [.string (⟨#[117,110,100,111]⟩:ByteArray)] from rfl) (dQ.one (show Kd.M Kd.string _ _ _ (⟨#[116,114,121]⟩:ByteArray) [.string (⟨#[116,114,121]⟩:ByteArray)] from rfl) (dQ.one (show Kd.M Kd.string _ _ _ (⟨#[116,114,105,101,115]⟩:ByteArray) [.string (⟨#[116,114,105,101,115]⟩:ByteArray)] from rfl) (dQ.one (show Kd.M Kd.string _ _ _ (⟨#[97]⟩:ByteArray) [.string (⟨#[97]⟩:ByteArray)] from rfl) (dQ.one (show Kd.M Kd.string _ _ _ (⟨#[98,97,107,101]⟩:ByteArray) [.string (⟨#[98,97,107,101]⟩:ByteArray)] from rfl) (dQ.one (show Kd.M Kd.string _ _ _ (⟨#[98,97,107,105,110,103]⟩:ByteArray) [.string (⟨#[98,97,107,105,110,103]⟩:ByteArray)] from rfl) (dQ.one (show Kd.M Kd.string _ _ _ (⟨#[116,97,99,116]⟩:ByteArray) [.string (⟨#[116,97,99,116]⟩:ByteArray)] from rfl) (dQ.one (show Kd.M Kd.string _ _ _ (⟨#[99,97,114,116]⟩:ByteArray) [.string (⟨#[99,97,114,116]⟩:ByteArray)] from rfl) (dQ.one (show Kd.M Kd.string _ _ _ (⟨#[97,98,99,97,98,99,97,98,99,97,98,99]⟩:ByteArray) [.string (⟨#[97,98,99,97,98,99,97,98,99,97,98,99]⟩:ByteArray)] from rfl) (dQ.none _ _)))))))))))))))));intro v171 w19 a1E hb lL dP;clear lL dP;(rw [←a5V.out] at a1E);have aAy:=kl g a1E uO;replace HK:=kt g uO hb;replace HB:=am (aY FB hb);replace HI0:=am (aI.below DV hb);clear hb a1E;obtain⟨bQy,bRl,bHy⟩:=Kd.bS aAy.out;subst bHy)|(refine gd 27 ?_;refine gv Tryz.func51 (gH.calls k g dG t161 _ _ bLP t173 t174 w0 _ HI0.out HB.out (cq (Kd.aM aAy.out).2.2) ((Kd.aM aAy.out).2.1) (uX (aI.vM HI0.out aAy.out (by decide))) A17.out) ?_;rintro w22 ⟨hi,hb,hk⟩;replace aAy:=ka (aI.apart HI0.out (rq aAy.out) (by decide)) hk;replace HK:=ku uO hk;replace HB:=am (hb);replace HI0:=am (hi);clear hb hk hi))
 go_ret
 exact⟨nD,DV,FB,uO⟩
def qK.f (k:Nat) (dG:List Int) (iX:Int) (a1:ByteArray):Option (ByteArray×ByteArray×Int):=(gH.f k dG iX (([(⟨#[]⟩:ByteArray),(⟨#[]⟩:ByteArray),(⟨#[83]⟩:ByteArray),(⟨#[71,83]⟩:ByteArray),(⟨#[85]⟩:ByteArray),(⟨#[71,85]⟩:ByteArray),(⟨#[82]⟩:ByteArray),(⟨#[84]⟩:ByteArray),(⟨#[67,82,83,85]⟩:ByteArray)]:List ByteArray))).bind fun aWR=>(some (a1,aWR.1,aWR.2))
theorem qK.calls (k:Nat) (g:Nat) (dG:List Int) (iX:Int) (a1:ByteArray) (r1:ByteArray) (r2:ByteArray) (r3:Int) (w0 w:World) (hI:aI w0 w g dG iX) (hB:Below w0.heap.size w0 w) (h:qK.f k dG iX a1=some (r1,r2,r3)):
  Calls Tryz.prog 82 #[.pointer (some ⟨g,0,none⟩), .string a1] w fun e w' =>e= .returned (.agg #[.string r1, .string r2])∧aI w0 w' g dG r3∧Below w0.heap.size w0 w' ∧aZ w w' g none:=by
 have aCt:=Tryz.underlying56;have HI0:=am hI;have HK:=am (aZ.refl w g none);have HL:=am hB.size;clear hI;have HW0:=am hB.size;have HB:=am hB;clear hB
 have H:=h;unfold qK.f at H
 clear h;obtain⟨bLQ,aOI⟩: ∃y_:List ByteArray,y_=(([(⟨#[]⟩:ByteArray),(⟨#[]⟩:ByteArray),(⟨#[83]⟩:ByteArray),(⟨#[71,83]⟩:ByteArray),(⟨#[85]⟩:ByteArray),(⟨#[71,85]⟩:ByteArray),(⟨#[82]⟩:ByteArray),(⟨#[84]⟩:ByteArray),(⟨#[67,82,83,85]⟩:ByteArray)]:List ByteArray)):=⟨_,rfl⟩
 rw [←aOI] at H
 have a5W:=am aOI;clear aOI;replace H:=ba H;obtain⟨⟨t179,t180⟩,A3,H⟩:=H;dsimp only at H
 simp only [Option.some.injEq,Prod.mk.injEq] at H
 obtain⟨rfl,rfl,rfl⟩:=H;go_enter Tryz.func82,Tryz.ntmps82
 go_wp2_with (first|(refine gd 4 ?_;refine bx 4 (cs:= #[.string (⟨#[]⟩:ByteArray), .string (⟨#[]⟩:ByteArray)]) (t:=56) ?_;intro aAZ hg w4 bT hb;replace HB:=am (aY FB hb);have aAt:=am (bT);have a3W:=am ((NJ:w.heap.size≤aAZ));have a3O:=am ((Nat.le_trans HW0.out (NJ:w.heap.size≤aAZ):w0.heap.size≤aAZ));replace HK:=kt g uO hb;have aHx:=am ((OD:g≠aAZ));have aHA:=am ((OE:aAZ≠g));replace HI0:=am (aI.below DV hb);clear hb bT hg)|(refine gd 7 ?_;refine Kd.mJ Kd.string _ 9 ?hg (N:=7) ?hd (xs:=([(⟨#[]⟩:ByteArray),(⟨#[]⟩:ByteArray),(⟨#[83]⟩:ByteArray),(⟨#[71,83]⟩:ByteArray),(⟨#[85]⟩:ByteArray),(⟨#[71,85]⟩:ByteArray),(⟨#[82]⟩:ByteArray),(⟨#[84]⟩:ByteArray),(⟨#[67,82,83,85]⟩:ByteArray)]:List ByteArray)) (inner:=[.string (⟨#[]⟩:ByteArray), .string (⟨#[]⟩:ByteArray), .string (⟨#[83]⟩:ByteArray), .string (⟨#[71,83]⟩:ByteArray), .string (⟨#[85]⟩:ByteArray), .string (⟨#[71,85]⟩:ByteArray), .string (⟨#[82]⟩:ByteArray), .string (⟨#[84]⟩:ByteArray), .string (⟨#[67,82,83,85]⟩:ByteArray)]) (ok:=fun _=>True) (mK:=fun _=>True) ?hr ?hp (fun _ hk=>hk) trivial (Below.refl _ _) (Nat.le_refl _) (by simp) ?_;(case hd=>rfl);(case hg=>rfl);(case hr=>(go_simp;done));(case hp=>exact(dQ.one (show Kd.M Kd.string _ _ _ (⟨#[]⟩:ByteArray) [.string (⟨#[]⟩:ByteArray)] from rfl) (dQ.one (show Kd.M Kd.string _ _ _ (⟨#[]⟩:ByteArray) [.string (⟨#[]⟩:ByteArray)] from rfl) (dQ.one (show Kd.M Kd.string _ _ _ (⟨#[83]⟩:ByteArray) [.string (⟨#[83]⟩:ByteArray)] from rfl) (dQ.one (show Kd.M Kd.string _ _ _ (⟨#[71,83]⟩:ByteArray) [.string (⟨#[71,83]⟩:ByteArray)] from rfl) (dQ.one (show Kd.M Kd.string _ _ _ (⟨#[85]⟩:ByteArray) [.string (⟨#[85]⟩:ByteArray)] from rfl) (dQ.one (show Kd.M Kd.string _ _ _ (⟨#[71,85]⟩:ByteArray) [.string (⟨#[71,85]⟩:ByteArray)] from rfl) (dQ.one (show Kd.M Kd.string _ _ _ (⟨#[82]⟩:ByteArray) [.string (⟨#[82]⟩:ByteArray)] from rfl) (dQ.one (show Kd.M Kd.string _ _ _ (⟨#[84]⟩:ByteArray) [.string (⟨#[84]⟩:ByteArray)] from rfl) (dQ.one (show Kd.M Kd.string _ _ _ (⟨#[67,82,83,85]⟩:ByteArray) [.string (⟨#[67,82,83,85]⟩:ByteArray)] from rfl) (dQ.none _ _)))))))))));intro bSZ w5 ho6 hb lL dP;clear lL dP;(rw [←a5W.out] at ho6);have aAz:=kl g ho6 aSq;replace aAt:=kb aAt hb;replace HK:=kt g aSq hb;replace HB:=am (aY a8w hb);replace HI0:=am (aI.below aWD hb);clear hb ho6;obtain⟨Ao7,co7,eo7⟩:=Kd.bS aAz.out;subst eo7)|(refine gd 8 ?_;refine gv Tryz.func51 (gH.calls k g dG iX _ _ bLQ t179 t180 w0 _ HI0.out HB.out (cq (Kd.aM aAz.out).2.2) ((Kd.aM aAz.out).2.1) (uX (aI.vM HI0.out aAz.out (by decide))) A3.out) ?_;rintro w8 ⟨hi,hb,hk⟩;replace aAt:=kk hk aAt aHA;replace aAz:=ka (aI.apart HI0.out (rq aAz.out) (by decide)) hk;replace HK:=ku aSq hk;replace HB:=am (hb);replace HI0:=am (hi);clear hb hk hi;have bAt:=aHA.out;have bAy:=aHx.out;have⟨_,_,_,_⟩:=oP aAt.out))
 refine bodyPost_ret (results_cell_row rfl _ _ aAZ 56 #[.string a1, .string t179] (0,0) _ rfl (by(with_reducible repeat(fail));refine bM (cs:= #[.string a1, .string (⟨#[]⟩:ByteArray)]) ?_ 1 _ rfl;(with_reducible repeat(fail));refine bM (cs:= #[.string (⟨#[]⟩:ByteArray), .string (⟨#[]⟩:ByteArray)]) ?_ 0 _ rfl;(with_reducible repeat(fail));exact aAt.out) Tryz.underlying56 rfl (by kernel_rfl)) rfl ?_
 exact⟨nD,aWD,a8w,aSq⟩
end Go.Proofs.YtpljfjbhlboffaaGreat.eH

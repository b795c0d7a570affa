import Derived.Test.YtpljfjbhlboffaaGreatQFnMachineBookx24
namespace Go.Proofs.YtpljfjbhlboffaaGreat.eH
open Go.RowKit Go.Proofs.YtpljfjbhlboffaaGreatW.bJ Go.Proofs.YtpljfjbhlboffaaGreatW.gI Go.Proofs.YtpljfjbhlboffaaGreatW.jC Go.Proofs.YtpljfjbhlboffaaGreat.Sh
attribute [local go_sem] rD rF uY uZ pE pF rE rG
set_option linter.unusedVariables false
set_option linter.unusedSimpArgs false
set_option maxHeartbeats 8000000
set_option maxRecDepth 100000
mutual
def dK.l0:Nat→ByteArray→ByteArray→List (List Int)→Int→Option (Int)
 |0,_,_,_,_=>none
 |k+1,x0,x1,x5,x6=>if x6≤(x0.size:Int)then(dK.l1 k x0 x1 x5 x6 (([]:List Int)) 0)else(if 0≤(x0.size:Int)then(if(x0.size:Int)<(x5.length:Int)then(if 0≤(x1.size:Int)then(if(x1.size:Int)<((dF x5 (x0.size:Int)).length:Int)then(some (rd (dF x5 (x0.size:Int)) (x1.size:Int)))else(none))else(none))else(none))else(none))
def dK.l1:Nat→ByteArray→ByteArray→List (List Int)→Int→List Int→Int→Option (Int)
 |0,_,_,_,_,_,_=>none
 |k+1,x0,x1,x5,x6,x7,x8=>if x8≤(x1.size:Int)then(if x6=0 then(if x7.length<17592186044416 then(dK.l1 k x0 x1 x5 x6 (x7++[x8]) (wrap64 (x8+1)))else(none))else(if x8=0 then(if x7.length<17592186044416 then(dK.l1 k x0 x1 x5 x6 (x7++[x6]) (wrap64 (x8+1)))else(none))else(if 0≤(wrap64 (x6-1))then(if(wrap64 (x6-1))<(x5.length:Int)then(if 0≤(wrap64 (x8-1))then(if(wrap64 (x8-1))<((dF x5 (wrap64 (x6-1))).length:Int)then(if(wrap64 (x6-1))<(x0.size:Int)then(if(wrap64 (x8-1))<(x1.size:Int)then(if(bt x0 (wrap64 (x6-1)))=(bt x1 (wrap64 (x8-1)))then(dK.j2 k x0 x1 x5 x6 x7 x8 (rd (dF x5 (wrap64 (x6-1))) (wrap64 (x8-1))))else(dK.j2 k x0 x1 x5 x6 x7 x8 (wrap64 ((rd (dF x5 (wrap64 (x6-1))) (wrap64 (x8-1)))+1))))else(none))else(none))else(none))else(none))else(none))else(none))))else(if x5.length<5864062014805 then(dK.l0 k x0 x1 (x5++[x7]) (wrap64 (x6+1)))else(none))
def dK.j2:Nat→ByteArray→ByteArray→List (List Int)→Int→List Int→Int→Int→Option (Int)
 |0,_,_,_,_,_,_,_=>none
 |k+1,x0,x1,x5,x6,x7,x8,x9=>if 0≤(wrap64 (x6-1))then(if(wrap64 (x6-1))<(x5.length:Int)then(if 0≤x8 then(if x8<((dF x5 (wrap64 (x6-1))).length:Int)then(if 0≤(wrap64 (x8-1))then(if(wrap64 (x8-1))<(x7.length:Int)then((lG.f (wrap64 ((rd (dF x5 (wrap64 (x6-1))) x8)+1)) (wrap64 ((rd x7 (wrap64 (x8-1)))+1))).bind fun aVl=>((lG.f x9 aVl).bind fun ZB=>(if x6>1 then(if x8>1 then(if(wrap64 (x6-1))<(x0.size:Int)then(if 0≤(wrap64 (x8-2))then(if(wrap64 (x8-2))<(x1.size:Int)then(if(bt x0 (wrap64 (x6-1)))=(bt x1 (wrap64 (x8-2)))then(if 0≤(wrap64 (x6-2))then(if(wrap64 (x6-2))<(x0.size:Int)then(if(wrap64 (x8-1))<(x1.size:Int)then(dK.j3 k x0 x1 x5 x6 x7 x8 ZB ((bt x0 (wrap64 (x6-2)))==(bt x1 (wrap64 (x8-1)))))else(none))else(none))else(none))else(dK.j3 k x0 x1 x5 x6 x7 x8 ZB false))else(none))else(none))else(none))else(dK.j3 k x0 x1 x5 x6 x7 x8 ZB false))else(dK.j3 k x0 x1 x5 x6 x7 x8 ZB false))))else(none))else(none))else(none))else(none))else(none))else(none)
def dK.j3:Nat→ByteArray→ByteArray→List (List Int)→Int→List Int→Int→Int→Bool→Option (Int)
 |0,_,_,_,_,_,_,_,_=>none
 |k+1,x0,x1,x5,x6,x7,x8,x9,x89=>if x89=true then(if 0≤(wrap64 (x6-2))then(if(wrap64 (x6-2))<(x5.length:Int)then(if 0≤(wrap64 (x8-2))then(if(wrap64 (x8-2))<((dF x5 (wrap64 (x6-2))).length:Int)then((lG.f x9 (wrap64 ((rd (dF x5 (wrap64 (x6-2))) (wrap64 (x8-2)))+1))).bind fun aLj=>(if x7.length<17592186044416 then(dK.l1 k x0 x1 x5 x6 (x7++[aLj]) (wrap64 (x8+1)))else(none)))else(none))else(none))else(none))else(none))else(if x7.length<17592186044416 then(dK.l1 k x0 x1 x5 x6 (x7++[x9]) (wrap64 (x8+1)))else(none))
end
def dK.f (k:Nat) (a0:ByteArray) (a1:ByteArray):Option (Int):=dK.l0 k a0 a1 (([]:List (List Int))) 0
theorem dK.calls (k:Nat) (a0:ByteArray) (a1:ByteArray) (r:Int) (w:World) (h:dK.f k a0 a1=some r):
  Calls Tryz.prog 66 #[.string a0, .string a1] w fun e w' =>e= .returned (.int .i64 r)∧Below w.heap.size w w' :=by
 have HB:=am (Below.refl w.heap.size w)
 have H:=h;unfold dK.f at H
 clear h;obtain⟨bL8,aPw⟩: ∃y_:List (List Int),y_=(([]:List (List Int))):=⟨_,rfl⟩
 rw [←aPw] at H
 have a6P:=am aPw;clear aPw
 have H' :=am H
 clear H;go_enter Tryz.func66,Tryz.ntmps66
 go_wp2_with (refine gd 10 ?_;refine Kd.aHE (Kd.slice 3 (Kd.int .i64)) _ 81 ?hg (N:=10) ?hd (xs:=([]:List (List Int))) (inner:=[]) (ok:=fun _=>True) (mK:=fun _=>True) ?hr ?hp (fun _ hk=>hk) trivial (Below.refl _ _) (Nat.le_refl _) (by simp) ?_;(case hd=>rfl);(case hg=>rfl);(case hr=>(go_simp;done));(case hp=>exact(dQ.none _ _));intro bTG w3 ho4 hb lL dP;clear lL dP;(rw [←a6P.out] at ho4);have a4Q:=am (Kd.F6 ho4 (aH gP));replace HB:=o8 hb;clear hb ho4)
 go_loopg [5,6] k (fun kq v5 v6 w' => ∃(bI:List (List Int)) (qL:Int),v6= .int .i64 qL∧aC (dK.l0 kq a0 a1 bI qL=some r)∧aC (kq≤k)∧aC (Kd.S (Kd.slice 3 (Kd.int .i64)) 81 w' w.heap.size (fun _=>True) v5 bI)∧aC (Below w.heap.size w w'))
 case atStart=>exact⟨(bL8),(0),sq,H',⟨Nat.le_refl _⟩,⟨by(with_reducible repeat(fail));exact a4Q.out⟩,⟨gP⟩⟩
 case round=>
  clear H';obtain⟨bI,qL,rfl,HA,lM,bY,HB⟩:=hrel
  cases gk with
  |zero=>exact absurd HA.out (by simp [dK.l0])
  |succ k1=>
   have H:=HA.out;clear HA;simp only [dK.l0] at H
   replace H:=iv H;rcases H with ⟨oL,H⟩|⟨oL,H⟩
   ·obtain⟨bL9,aPx⟩: ∃y_:List Int,y_=(([]:List Int)):=⟨_,rfl⟩
    rw [←aPx] at H
    have a6Q:=am aPx;clear aPx
    have H' :=am H
    clear H
    go_wp2_with (refine gd 17 ?_;refine Kd.mJ (Kd.int .i64) _ 3 ?hg (N:=17) ?hd (xs:=([]:List Int)) (inner:=[]) (ok:=fun _=>True) (mK:=fun _=>True) ?hr ?hp (fun _ hk=>hk) trivial (Below.refl _ _) (Nat.le_refl _) (by simp) ?_;(case hd=>rfl);(case hg=>rfl);(case hr=>(go_simp;done));(case hp=>exact(dQ.none _ _));intro bTH w6 U6 hb lL dP;clear lL dP;(rw [←a6Q.out] at U6);replace bY:=am (Kd.XJ aDR (Kd.jE U6) hb);have a4R:=am (Kd.dZ U6 (aH gP));replace HB:=o8 hb;clear hb U6)
    go_loopg [7,8] k1 (fun kq v7 v8 w' => ∃(lW:List Int) (yC:Int),v8= .int .i64 yC∧aC (dK.l1 kq a0 a1 bI qL lW yC=some r)∧aC (kq≤k1)∧aC (Kd.S (Kd.slice 3 (Kd.int .i64)) 81 w' w.heap.size (fun k_=>some k_≠(v7:Value).ownBlock) u5 bI)∧aC (Kd.R (Kd.int .i64) 3 w' w.heap.size (fun _=>True) v7 lW)∧aC (Below w.heap.size w w'))
    case atStart=>exact⟨(bL9),(0),sq,H',⟨Nat.le_refl _⟩,⟨aMX⟩,⟨rq a4R.out⟩,⟨gP⟩⟩
    case round=>
     clear H';clear oL;obtain⟨lW,yC,rfl,HA,uP,bY,lY,HB⟩:=hrel
     cases gk with
     |zero=>exact absurd HA.out (by simp [dK.l1])
     |succ k2=>
      have H:=HA.out;clear HA;simp only [dK.l1] at H
      replace H:=iv H;rcases H with ⟨tK,H⟩|⟨tK,H⟩
      ·by_cases c9:qL=0
       ·rw [if_pos c9] at H
        have wE:(qL==0)=true:=beq_iff_eq.mpr c9
        have XZ:(qL !=0)=false:=bne_eq_false_iff_eq.mpr c9
        clear c9
        replace H:=ip H;obtain⟨c10,H⟩:=H;have aLY:=am c10;clear c10;obtain⟨bMb,aPz⟩: ∃y_:List Int,y_=(lW++[yC]):=⟨_,rfl⟩
        rw [←aPz] at H
        have a6S:=am aPz;clear aPz
        have H' :=am H
        clear H
        go_wp2_with ((with_reducible refine gL (b:= .append) (xs:= #[.tmp 109, .tmp 111]) rfl ?_);at_builtin;refine Kd.oI (Kd.int .i64) (w0:=w) w.heap.size rfl (.tmp 109) (.tmp 111) 81 3 (.int .i64 0) 8 rfl Tryz.underlying81 YI rfl (by decide) (by omega) u7 lW yC [.int .i64 yC] (fun _=>True) (fun _=>False) rfl rfl ?aP (fun _ hk=>hk.elim) ?aF ?aO ?aB ?aS ?aL ?_;(case aP=>exact rfl);(case aB=>exact gP);(case aF=>exact(fun _ _=>trivial));(case aO=>exact(rq lY.out));(case aS=>exact(aH gP));(case aL=>have:=aLY.out;omega);intro bTJ w11 ho hb hg hat;rw [←a6S.out] at ho;replace bY:=am (Kd.N7 (ok:=(fun _=>True)) aSk hg hat);replace HB:=am (hb);have a4T:=am (ho);clear lY;clear ho hb hg hat)
        go_roundg k2
        case measure=>have:=lM.out;have:=uP.out;omega
        case rel=>exact⟨(bMb),(wrap64 (yC+1)),sq,H',⟨OH⟩,⟨aMX⟩,⟨rq a4T.out⟩,⟨gP⟩⟩
       rw [if_neg c9] at H
       have wE:(qL==0)=false:=beq_eq_false_iff_ne.mpr c9
       have XZ:(qL !=0)=true:=bne_iff_ne.mpr c9
       by_cases c12:yC=0
       ·rw [if_pos c12] at H
        have xN:(yC==0)=true:=beq_iff_eq.mpr c12
        have OL:(yC !=0)=false:=bne_eq_false_iff_eq.mpr c12
        clear c12
        replace H:=ip H;obtain⟨c13,H⟩:=H;have XF:=am c13;clear c13;obtain⟨bMc,aPA⟩: ∃y_:List Int,y_=(lW++[qL]):=⟨_,rfl⟩
        rw [←aPA] at H
        have a6T:=am aPA;clear aPA
        have H' :=am H
        clear H
        go_wp2_with ((with_reducible refine gL (b:= .append) (xs:= #[.tmp 116, .tmp 118]) rfl ?_);at_builtin;refine Kd.oI (Kd.int .i64) (w0:=w) w.heap.size rfl (.tmp 116) (.tmp 118) 81 3 (.int .i64 0) 8 rfl Tryz.underlying81 YI rfl (by decide) (by omega) u7 lW qL [.int .i64 qL] (fun _=>True) (fun _=>False) rfl rfl ?aP (fun _ hk=>hk.elim) ?aF ?aO ?aB ?aS ?aL ?_;(case aP=>exact rfl);(case aB=>exact gP);(case aF=>exact(fun _ _=>trivial));(case aO=>exact(rq lY.out));(case aS=>exact(aH gP));(case aL=>have:=XF.out;omega);intro bTK w14 ho hb hg hat;rw [←a6T.out] at ho;replace bY:=am (Kd.N7 (ok:=(fun _=>True)) aSk hg hat);replace HB:=am (hb);have a4U:=am (ho);clear lY;clear ho hb hg hat)
        go_roundg k2
        case measure=>have:=lM.out;have:=uP.out;omega
        case rel=>exact⟨(bMc),(wrap64 (yC+1)),sq,H',⟨OH⟩,⟨aMX⟩,⟨rq a4U.out⟩,⟨gP⟩⟩
       rw [if_neg c12] at H
       have xN:(yC==0)=false:=beq_eq_false_iff_ne.mpr c12
       have OL:(yC !=0)=true:=bne_iff_ne.mpr c12
       obtain⟨xY,aED⟩: ∃j_:Int,(wrap64 (qL-1))=j_:=⟨_,rfl⟩
       rw [aED] at H
       have aOi:(IntKind.i64.wrap (qL-1))=xY:=(iZ _).trans aED
       replace H:=it H;obtain⟨BZ,H⟩:=H
       replace H:=it H;obtain⟨FE,H⟩:=H;obtain⟨CK,aEE⟩: ∃j_:Int,(wrap64 (yC-1))=j_:=⟨_,rfl⟩
       rw [aEE] at H
       have a1w:(IntKind.i64.wrap (yC-1))=CK:=(iZ _).trans aEE
       replace H:=it H;obtain⟨H6,H⟩:=H;replace H:=it H;obtain⟨L9,H⟩:=H;replace H:=it H;obtain⟨MB,H⟩:=H;replace H:=it H;obtain⟨MC,H⟩:=H;have aYO:=am H;clear H;obtain⟨a3x,aKw,aNE⟩:=Kd.VU bY.out;subst aNE
       have aQM:0≤((xY):Int):=dt
       have aQW:(xY)<(bI.length:Int):=dt
       obtain⟨aDJ,bEX,bGb,bG8,aJv,aIQ,aIv⟩:=DU (Kd.iR bY.out).2.2 (xY) aQM aQW;cases bG8
       obtain⟨bOY,a01,a0G,aOa⟩:=Kd.DR bY.out [] (xY) aQM (by exact aQW)
       obtain⟨bEE,rfl,aB9⟩:=a0G;have PN:=aOa 0 _ rfl;rw [Nat.add_zero,show((Kd.slice 3 (Kd.int .i64))).sz=1 from rfl,Nat.mul_one] at PN;replace PN:=Option.some.inj (PN.symm.trans aJv);rw [PN] at aB9;have bC9:=am (show Kd.R (Kd.int .i64) 3 _ _ _ _ (dF bI (xY))from aB9);clear PN aB9;clear aOa a01;have VQ:=am aIv;have bCW:=am aIQ;clear aIv aIQ;replace aQM:=eq_true aQM;replace aQW:=eq_true aQW
       obtain⟨aWv,bG9,aTZ,bJZ,bKK⟩:=XQ aFz (CK);cases bG9
       have p22:0≤((xY):Int):=dt
       have q22:(xY)<(a0.size:Int):=dt
       have bJj:=kL a0 (xY);replace p22:=eq_true p22;replace q22:=eq_true q22
       have p24:0≤((CK):Int):=dt
       have q24:(CK)<(a1.size:Int):=dt
       have hx24:=kL a1 (CK);replace p24:=eq_true p24;replace q24:=eq_true q24
       go_upto_if 41 with (fail)
       repeat(go_quiet (fail);go_upto_if 41 with (fail))
       go_cut [9] (fun v9 wc=> ∃(kq:Nat) (aJ5:Int),v9= .int .i64 aJ5∧aC (dK.j2 kq a0 a1 bI qL lW yC aJ5=some r)∧aC (kq≤k2)∧aC (Kd.S (Kd.slice 3 (Kd.int .i64)) 81 wc w.heap.size (fun k_=>some k_≠(u7:Value).ownBlock) (.slice (some aDJ) bI.length aKw) bI)∧aC (Kd.R (Kd.int .i64) 3 wc w.heap.size (fun _=>True) u7 lW)∧aC (Kd.C (Kd.int .i64) wc (some aWv) (dF bI (xY)).length (dF bI (xY)))∧aC (Below w.heap.size w wc))
       case first=>
        have H:=aYO.out;clear aYO
        by_cases ZV:(bt a0 (xY))=(bt a1 (CK))
        ·rw [if_pos ZV] at H
         have aAR:((bt a0 (xY))==(bt a1 (CK)))=true:=beq_iff_eq.mpr ZV
         have aXj:((bt a0 (xY)) !=(bt a1 (CK)))=false:=bne_eq_false_iff_eq.mpr ZV
         clear ZV
         (skip)
         have H' :=am H
         clear H;go_wp2
         go_meet
         case rel=>exact⟨_,(rd (dF bI (xY)) (CK)),(by rfl),H',⟨aDO⟩,⟨aDR⟩,⟨rq lY.out⟩,⟨aFz⟩,⟨gP⟩⟩
        rw [if_neg ZV] at H
        have aAR:((bt a0 (xY))==(bt a1 (CK)))=false:=beq_eq_false_iff_ne.mpr ZV
        have aXj:((bt a0 (xY)) !=(bt a1 (CK)))=true:=bne_iff_ne.mpr ZV
        (skip)
        have H' :=am H
        clear H;go_wp2
        go_meet
        case rel=>exact⟨_,(wrap64 ((rd (dF bI (xY)) (CK))+1)),(by rfl),H',⟨aDO⟩,⟨aDR⟩,⟨rq lY.out⟩,⟨aFz⟩,⟨gP⟩⟩
       case rest=>
        clear aYO;clear tK c9 wE XZ c12 xN OL BZ FE H6 L9 MB p22 q22 bJj MC p24 q24 hx24 aJv aTZ aQM bJZ aQW bKK;obtain⟨kq,aJ5,rfl,HA,aLM,bY,lY,VQ,HB⟩:=hcut
        cases kq with
        |zero=>exact absurd HA.out (by simp [dK.j2])
        |succ bJx=>
         have H:=HA.out;clear HA;simp only [dK.j2] at H
         obtain⟨FQ,aX2⟩: ∃j_:Int,(wrap64 (qL-1))=j_:=⟨_,rfl⟩
         rw [aX2] at H
         have bIR:(IntKind.i64.wrap (qL-1))=FQ:=(iZ _).trans aX2
         clear aOi;replace H:=it H;obtain⟨UD,H⟩:=H;replace H:=it H;obtain⟨JE,H⟩:=H;replace H:=it H;obtain⟨UE,H⟩:=H
         replace H:=it H;obtain⟨OM,H⟩:=H;obtain⟨aGm,aX3⟩: ∃j_:Int,(wrap64 (yC-1))=j_:=⟨_,rfl⟩
         rw [aX3] at H
         have bIS:(IntKind.i64.wrap (yC-1))=aGm:=(iZ _).trans aX3
         clear a1w;replace H:=it H;obtain⟨aD5,H⟩:=H
         replace H:=it H;obtain⟨aNg,H⟩:=H;replace H:=ba H;obtain⟨aVl,A36,H⟩:=H;replace H:=ba H;obtain⟨ZB,A37,H⟩:=H;have aYS:=am H;clear H
         have aQN:0≤((FQ):Int):=dt
         have aQX:(FQ)<(bI.length:Int):=dt
         obtain⟨a7R,bEY,bGc,bHa,aJw,aIR,aIw⟩:=DU (Kd.iR bY.out).2.2 (FQ) aQN aQX
         obtain rfl:aDJ=a7R:=(by injection bHa)
         obtain⟨bOZ,a02,a0H,aOb⟩:=Kd.DR bY.out [] (FQ) aQN (by exact aQX)
         obtain⟨bEF,rfl,aCa⟩:=a0H;have PO:=aOb 0 _ rfl;rw [Nat.add_zero,show((Kd.slice 3 (Kd.int .i64))).sz=1 from rfl,Nat.mul_one] at PO;replace PO:=Option.some.inj (PO.symm.trans aJw);rw [PO] at aCa;have bDa:=am (show Kd.R (Kd.int .i64) 3 _ _ _ _ (dF bI (FQ))from aCa);clear PO aCa;clear aOb a02;have aBu:=am aIw;have bCX:=am aIR;clear aIw aIR;replace aQN:=eq_true aQN;replace aQX:=eq_true aQX
         obtain⟨a7S,bHb,aT0,bJ0,bKL⟩:=XQ aMT yC;cases bHb;obtain⟨bQE,aSG,bHF⟩:=Kd.bS lY.out;subst bHF
         obtain⟨aHK,bHc,aT1,bJ1,bKM⟩:=XQ (Kd.aM lY.out).2.2 (aGm);cases bHc
         go_upto_region 13 with (fail)
         repeat(go_quiet (first|(go_at_call 94;(with_reducible refine(lG.calls (wrap64 ((rd (dF bI (FQ)) yC)+1)) (wrap64 ((rd lW (aGm))+1)) aVl _ A36.out).mono ?_);rintro e w' ⟨rfl,⟨nd,rfl⟩⟩;exact⟨rfl,_,World.drewN_drewN _ _ _⟩)|(go_at_call 94;(with_reducible refine(lG.calls aJ5 aVl ZB _ A37.out).mono ?_);rintro e w' ⟨rfl,⟨nd,rfl⟩⟩;exact⟨rfl,_,World.drewN_drewN _ _ _⟩));go_upto_region 13 with (fail))
         go_cut [89] (fun v89 wc=> ∃(kq:Nat) (aG9:Bool),v89= .bool aG9∧aC (dK.j3 kq a0 a1 bI qL lW yC ZB aG9=some r)∧aC (kq≤bJx)∧aC (Kd.S (Kd.slice 3 (Kd.int .i64)) 81 wc w.heap.size (fun k_=>some k_≠((.slice (some aHK) lW.length aSG):Value).ownBlock) (.slice (some aDJ) bI.length aKw) bI)∧aC (Kd.R (Kd.int .i64) 3 wc w.heap.size (fun _=>True) (.slice (some aHK) lW.length aSG) lW)∧aC (Kd.C (Kd.int .i64) wc (some aWv) (dF bI (xY)).length (dF bI (xY)))∧aC (Kd.C (Kd.int .i64) wc (some a7S) (dF bI (FQ)).length (dF bI (FQ)))∧aC (Below w.heap.size w wc))
         case first=>
          have H:=aYS.out;clear aYS
          replace H:=iv H;rcases H with ⟨aD6,H⟩|⟨aD6,H⟩
          ·(skip)
           replace H:=iv H;rcases H with ⟨ME,H⟩|⟨ME,H⟩
           ·replace H:=it H;obtain⟨a8N,H⟩:=H;obtain⟨EM,aEG⟩: ∃j_:Int,(wrap64 (yC-2))=j_:=⟨_,rfl⟩
            rw [aEG] at H
            have a1y:(IntKind.i64.wrap (yC-2))=EM:=(iZ _).trans aEG
            replace H:=it H;obtain⟨aAS,H⟩:=H;replace H:=it H;obtain⟨a8Q,H⟩:=H
            by_cases c48:(bt a0 (FQ))=(bt a1 (EM))
            ·rw [if_pos c48] at H
             have a8R:((bt a0 (FQ))==(bt a1 (EM)))=true:=beq_iff_eq.mpr c48
             have a8S:((bt a0 (FQ)) !=(bt a1 (EM)))=false:=bne_eq_false_iff_eq.mpr c48
             clear c48;obtain⟨aP8,aX5⟩: ∃j_:Int,(wrap64 (qL-2))=j_:=⟨_,rfl⟩
             rw [aX5] at H
             have bIT:(IntKind.i64.wrap (qL-2))=aP8:=(iZ _).trans aX5
             replace H:=it H;obtain⟨H7,H⟩:=H;replace H:=it H;obtain⟨aNj,H⟩:=H;replace H:=it H;obtain⟨aD8,H⟩:=H
             have H' :=am H
             clear H
             have p43:0≤((FQ):Int):=dt
             have q43:(FQ)<(a0.size:Int):=dt
             have bJm:=kL a0 (FQ);replace p43:=eq_true p43;replace q43:=eq_true q43
             have p47:0≤((EM):Int):=dt
             have q47:(EM)<(a1.size:Int):=dt
             have bJo:=kL a1 (EM);replace p47:=eq_true p47;replace q47:=eq_true q47
             have p52:0≤((aP8):Int):=dt
             have q52:(aP8)<(a0.size:Int):=dt
             have bRG:=kL a0 (aP8);replace p52:=eq_true p52;replace q52:=eq_true q52
             have p54:0≤((aGm):Int):=dt
             have q54:(aGm)<(a1.size:Int):=dt
             have bRH:=kL a1 (aGm);replace p54:=eq_true p54;replace q54:=eq_true q54;go_wp2
             repeat(go_quiet (fail);try go_wp2)
             go_meet
             case rel=>exact⟨_,(((bt a0 (aP8))==(bt a1 (aGm)))),(by rfl),H',⟨aHM⟩,⟨aDR⟩,⟨rq lY.out⟩,⟨aFz⟩,⟨aMT⟩,⟨gP⟩⟩
            rw [if_neg c48] at H
            have a8R:((bt a0 (FQ))==(bt a1 (EM)))=false:=beq_eq_false_iff_ne.mpr c48
            have a8S:((bt a0 (FQ)) !=(bt a1 (EM)))=true:=bne_iff_ne.mpr c48
            have H' :=am H
            clear H
            have p43:0≤((FQ):Int):=dt
            have q43:(FQ)<(a0.size:Int):=dt
            have bJm:=kL a0 (FQ);replace p43:=eq_true p43;replace q43:=eq_true q43
            have p47:0≤((EM):Int):=dt
            have q47:(EM)<(a1.size:Int):=dt
            have bJo:=kL a1 (EM);replace p47:=eq_true p47;replace q47:=eq_true q47;go_wp2
            repeat(go_quiet (fail);try go_wp2)
            go_meet
            case rel=>exact⟨_,(false),sq,H',⟨aHM⟩,⟨aDR⟩,⟨rq lY.out⟩,⟨aFz⟩,⟨aMT⟩,⟨gP⟩⟩
           have H' :=am H
           clear H;go_wp2
           repeat(go_quiet (fail);try go_wp2)
           go_meet
           case rel=>exact⟨_,(false),sq,H',⟨aHM⟩,⟨aDR⟩,⟨rq lY.out⟩,⟨aFz⟩,⟨aMT⟩,⟨gP⟩⟩
          (skip)
          have H' :=am H
          clear H;go_wp2
          repeat(go_quiet (fail);try go_wp2)
          go_meet
          case rel=>exact⟨_,(false),sq,H',⟨aHM⟩,⟨aDR⟩,⟨rq lY.out⟩,⟨aFz⟩,⟨aMT⟩,⟨gP⟩⟩
         case rest=>
          clear aYS;clear UD JE UE OM aD5 aNg aJw aT0 aT1 aQN bJ0 bJ1 aQX bKL bKM;obtain⟨kq,aG9,rfl,HA,aRT,bY,lY,VQ,aBu,HB⟩:=hcut
          cases kq with
          |zero=>exact absurd HA.out (by simp [dK.j3])
          |succ bAZ=>
           have H:=HA.out;clear HA;simp only [dK.j3] at H
           replace H:=ib H;rcases H with ⟨rfl,H⟩|⟨rfl,H⟩
           ·obtain⟨aGn,aX7⟩: ∃j_:Int,(wrap64 (qL-2))=j_:=⟨_,rfl⟩
            rw [aX7] at H
            have bIW:(IntKind.i64.wrap (qL-2))=aGn:=(iZ _).trans aX7
            replace H:=it H;obtain⟨aAU,H⟩:=H
            replace H:=it H;obtain⟨aNk,H⟩:=H;obtain⟨a15,aX9⟩: ∃j_:Int,(wrap64 (yC-2))=j_:=⟨_,rfl⟩
            rw [aX9] at H
            have bIY:(IntKind.i64.wrap (yC-2))=a15:=(iZ _).trans aX9
            replace H:=it H;obtain⟨aEa,H⟩:=H
            replace H:=it H;obtain⟨aNm,H⟩:=H;replace H:=ba H;obtain⟨aLj,A62,H⟩:=H
            replace H:=ip H;obtain⟨c63,H⟩:=H;have a5L:=am c63;clear c63;obtain⟨bMd,aPB⟩: ∃y_:List Int,y_=(lW++[aLj]):=⟨_,rfl⟩
            rw [←aPB] at H
            have a6U:=am aPB;clear aPB
            have H' :=am H
            clear H
            have aUP:0≤((aGn):Int):=dt
            have aUY:(aGn)<(bI.length:Int):=dt
            obtain⟨a7T,bEZ,bGd,bHd,aT2,aIS,aIx⟩:=DU (Kd.iR bY.out).2.2 (aGn) aUP aUY
            obtain rfl:aDJ=a7T:=(by injection bHd)
            obtain⟨bO0,a03,a0I,aOc⟩:=Kd.DR bY.out [] (aGn) aUP (by exact aUY)
            obtain⟨bEG,rfl,aCb⟩:=a0I;have PQ:=aOc 0 _ rfl;rw [Nat.add_zero,show((Kd.slice 3 (Kd.int .i64))).sz=1 from rfl,Nat.mul_one] at PQ;replace PQ:=Option.some.inj (PQ.symm.trans aT2);rw [PQ] at aCb;have aHl:=am (show Kd.R (Kd.int .i64) 3 _ _ _ _ (dF bI (aGn))from aCb);clear PQ aCb;clear aOc a03;have aR3:=am aIx;have bCY:=am aIS;clear aIx aIS;replace aUP:=eq_true aUP;replace aUY:=eq_true aUY
            obtain⟨bNl,bHe,bEa,bR9,bSA⟩:=XQ (by repeat(with_reducible exact aR3.out)) (a15)
            cases bHe
            go_wp2_with (first|(go_at_call 94;(with_reducible refine(lG.calls ZB (wrap64 ((rd (dF bI (aGn)) (a15))+1)) aLj _ A62.out).mono ?_);rintro e w' ⟨rfl,⟨nd,rfl⟩⟩)|((with_reducible refine gL (b:= .append) (xs:= #[.tmp 102, .tmp 104]) rfl ?_);at_builtin;refine Kd.oI (Kd.int .i64) (w0:=w) w.heap.size rfl (.tmp 102) (.tmp 104) 81 3 (.int .i64 0) 8 rfl Tryz.underlying81 YI rfl (by decide) (by omega) (.slice (some aHK) lW.length aSG) lW aLj [.int .i64 aLj] (fun _=>True) (fun _=>False) rfl rfl ?aP (fun _ hk=>hk.elim) ?aF ?aO ?aB ?aS ?aL ?_;(case aP=>exact rfl);(case aB=>exact gP);(case aF=>exact(fun _ _=>trivial));(case aO=>exact(rq lY.out));(case aS=>exact(aH gP));(case aL=>have:=a5L.out;omega);intro bTL w64 ho hb hg hat;rw [←a6U.out] at ho;replace bY:=am (Kd.N7 (ok:=(fun _=>True)) aSk hg hat);replace aHl:=am (Kd.oO (ok:=(fun k_=>some k_≠(.slice (some aDJ) bI.length aKw:Value).ownBlock)) (rq (Kd.bA aHl.out (fun _ hk=>⟨hk.2,hk.1⟩))) hg hat);replace HB:=am (hb);have a4V:=am (ho);clear lY;clear ho hb hg hat))
            go_roundg bAZ
            case measure=>have:=lM.out;have:=uP.out;have:=aLM.out;have:=aRT.out;omega
            case rel=>exact⟨(bMd),(wrap64 (yC+1)),sq,H',⟨by have:=lM.out;have:=uP.out;have:=aLM.out;have:=aRT.out;omega⟩,⟨aMX⟩,⟨rq a4V.out⟩,⟨gP⟩⟩
           replace H:=ip H;obtain⟨c65,H⟩:=H;have a5M:=am c65;clear c65;obtain⟨bMe,aPC⟩: ∃y_:List Int,y_=(lW++[ZB]):=⟨_,rfl⟩
           rw [←aPC] at H
           have a6V:=am aPC;clear aPC
           have H' :=am H
           clear H
           go_wp2_with ((with_reducible refine gL (b:= .append) (xs:= #[.tmp 102, .tmp 104]) rfl ?_);at_builtin;refine Kd.oI (Kd.int .i64) (w0:=w) w.heap.size rfl (.tmp 102) (.tmp 104) 81 3 (.int .i64 0) 8 rfl Tryz.underlying81 YI rfl (by decide) (by omega) (.slice (some aHK) lW.length aSG) lW ZB [.int .i64 ZB] (fun _=>True) (fun _=>False) rfl rfl ?aP (fun _ hk=>hk.elim) ?aF ?aO ?aB ?aS ?aL ?_;(case aP=>exact rfl);(case aB=>exact gP);(case aF=>exact(fun _ _=>trivial));(case aO=>exact(rq lY.out));(case aS=>exact(aH gP));(case aL=>have:=a5M.out;omega);intro bTM w66 ho hb hg hat;rw [←a6V.out] at ho;replace bY:=am (Kd.N7 (ok:=(fun _=>True)) aSk hg hat);replace HB:=am (hb);have a4W:=am (ho);clear lY;clear ho hb hg hat)
           go_roundg bAZ
           case measure=>have:=lM.out;have:=uP.out;have:=aLM.out;have:=aRT.out;omega
           case rel=>exact⟨(bMe),(wrap64 (yC+1)),sq,H',⟨by have:=lM.out;have:=uP.out;have:=aLM.out;have:=aRT.out;omega⟩,⟨aMX⟩,⟨rq a4W.out⟩,⟨gP⟩⟩
      replace H:=ip H;obtain⟨c67,H⟩:=H;have a5N:=am c67;clear c67;obtain⟨bMa,aPy⟩: ∃y_:List (List Int),y_=(bI++[lW]):=⟨_,rfl⟩
      rw [←aPy] at H
      have a6R:=am aPy;clear aPy
      have H' :=am H
      clear H;obtain⟨aYD,aZK,a0p⟩:=Kd.bS lY.out;subst a0p
      go_wp2_with ((with_reducible refine gL (b:= .append) (xs:= #[.tmp 120, .tmp 122]) rfl ?_);at_builtin;refine Kd.aDH (Kd.slice 3 (Kd.int .i64)) (w0:=w) w.heap.size rfl (.tmp 120) (.tmp 122) 122 81 (.slice none 0 0) 24 rfl Tryz.underlying122 aP5 rfl (by decide) (by omega) u5 bI lW [.slice aYD lW.length aZK] (fun _=>True) (fun k_=>some k_=(.slice aYD lW.length aZK:Value).ownBlock) rfl rfl ?aP (fun k_ rQ=>((Kd.bA (ok' :=fun k_=>((fun _=>True)) k_∧some k_≠(u5:Value).ownBlock) (Kd.BQ (lY.out) (Kd.KF bY.out) (by decide)) (fun k_ hk=>⟨trivial,hk.2⟩))).1 k_ rQ.symm) ?aF ?aO ?aB ?aS ?aL ?_;(case aP=>exact Kd.aAG (Kd.bA (Kd.NZ rfl (Kd.bA (ok' :=fun k_=>((fun _=>True)) k_∧some k_≠(u5:Value).ownBlock) (Kd.BQ (lY.out) (Kd.KF bY.out) (by decide)) (fun k_ hk=>⟨trivial,hk.2⟩))) (fun _ h_=>h_)));(case aB=>exact gP);(case aF=>exact(fun _ _=>trivial));(case aO=>exact a8r);(case aS=>exact(aH gP));(case aL=>have:=a5N.out;omega);intro bTI w68 ho hb hg hat;rw [←a6R.out] at ho;replace HB:=am (hb);have a4S:=am (ho);clear bY lY;clear ho hb hg hat)
      go_roundg k2
      case measure=>have:=lM.out;have:=uP.out;omega
      case rel=>exact⟨(bMa),(wrap64 (qL+1)),sq,H',⟨OH⟩,⟨by(with_reducible repeat(fail));exact a4S.out⟩,⟨gP⟩⟩
   replace H:=ip H;obtain⟨c70,H⟩:=H;have aXx:=decide_eq_true c70
   have a9g:decide (0≤a0.size)=true:=decide_eq_true (by omega)
   clear c70;replace H:=ip H;obtain⟨c71,H⟩:=H;have bOu:=decide_eq_true c71
   have bOv:decide (a0.size<bI.length)=true:=decide_eq_true (Int.ofNat_lt.mp c71)
   clear c71;replace H:=ip H;obtain⟨c72,H⟩:=H;have aXy:=decide_eq_true c72
   have aXz:decide (0≤a1.size)=true:=decide_eq_true (by omega)
   clear c72;replace H:=ip H;obtain⟨c73,H⟩:=H;have bOw:=decide_eq_true c73
   have bOx:decide (a1.size<(dF bI (a0.size:Int)).length)=true:=decide_eq_true (Int.ofNat_lt.mp c73)
   clear c73;obtain rfl:=si H;obtain⟨bQL,bRu,bHT⟩:=Kd.VU bY.out;subst bHT
   have aUO:0≤((a0.size:Int):Int):=dt
   have aQV:(a0.size:Int)<(bI.length:Int):=dt
   obtain⟨bNj,bEW,bGa,bG6,aJu,aIP,aIu⟩:=DU (Kd.iR bY.out).2.2 (a0.size:Int) aUO aQV;cases bG6
   obtain⟨bOX,a00,a0F,aN9⟩:=Kd.DR bY.out [] (a0.size:Int) aUO (by exact aQV)
   obtain⟨bED,rfl,aB8⟩:=a0F;have PM:=aN9 0 _ rfl;rw [Nat.add_zero,show((Kd.slice 3 (Kd.int .i64))).sz=1 from rfl,Nat.mul_one] at PM;replace PM:=Option.some.inj (PM.symm.trans aJu);rw [PM] at aB8;have bC8:=am (show Kd.R (Kd.int .i64) 3 _ _ _ _ (dF bI (a0.size:Int))from aB8);clear PM aB8;clear aN9 a00;have aR2:=am aIu;have bCV:=am aIP;clear aIu aIP;replace aUO:=eq_true aUO;replace aQV:=eq_true aQV
   (have bQv:(a0.size<bI.length)=True:=eq_true (by have h_:=of_eq_true aQV;omega))
   simp only [Int.toNat_natCast] at aJu
   obtain⟨bNk,bG7,aTY,bR8,bKJ⟩:=XQ (by repeat(with_reducible exact aR2.out)) (a1.size:Int)
   cases bG7
   (have bQw:(a1.size<(dF bI (a0.size:Int)).length)=True:=eq_true (by have h_:=of_eq_true bKJ;omega))
   simp only [Int.toNat_natCast] at aTY
   go_wp2
   go_ret
   exact⟨nD,gP⟩
mutual
def cO.l0:Nat→List (kG)→Int→ByteArray→Int→Option ((List (kG)))
 |0,_,_,_,_=>none
 |k+1,x0,x5,EG,BD=>if x5<(x0.length:Int)then(if 0≤x5 then(if((bD x0 x5).f1)<BD then(cO.j1 k x0 x5 true EG BD)else(if((bD x0 x5).f1)=BD then(cO.j1 k x0 x5 (Op.bytesLess (((bD x0 x5).f0).toList) EG.toList) EG BD)else(cO.j1 k x0 x5 false EG BD)))else(none))else(cO.j1 k x0 x5 false EG BD)
def cO.j1:Nat→List (kG)→Int→Bool→ByteArray→Int→Option ((List (kG)))
 |0,_,_,_,_,_=>none
 |k+1,x0,x5,x39,EG,BD=>if x39=true then(cO.l0 k x0 (wrap64 (x5+1)) EG BD)else((some (([]:List (kG)):List (kG))).bind fun aHd=>(if 0≤x5 then(if x5≤(x0.length:Int)then((some (x0.take (x5:Int).toNat:List (kG))).bind fun aDr=>(if aHd.length+aDr.length<5864062014805 then((some (aHd++aDr:List (kG))).bind fun aHe=>((some (([(⟨EG,BD⟩:kG)]:List (kG)):List (kG))).bind fun aDs=>(if aHe.length+aDs.length<5864062014805 then((some (aHe++aDs:List (kG))).bind fun aRG=>((some (x0.drop (x5:Int).toNat:List (kG))).bind fun aAs=>(if aRG.length+aAs.length<5864062014805 then(some (aRG++aAs))else(none))))else(none))))else(none)))else(none))else(none)))
end
def cO.f (k:Nat) (l0:List (kG)) (fP:ByteArray) (fZ:Int):Option ((List (kG))):=cO.l0 k l0 0 fP fZ
def cO.T2:Bool×List (List Nat×List Nat):=(true,[([],[]),([],[]),([1],[1]),([0,2],[0,2]),([3],[3]),([4],[4]),([4],[4]),([5,6,4],[4,5,6]),([7,4],[4,7]),([8,4],[4,8]),([4],[4]),([10,4],[4,10]),([9,11,4],[4,9,11]),([12,4,4],[4,12]),([13],[13]),([13],[13]),([14,15,13],[13,14,15]),([16,13],[13,16]),([17,13],[13,17]),([13],[13]),([19,13],[13,19]),([18,20,13],[13,18,20]),([21,13,13],[13,21]),([22],[22]),([22],[22]),([23,24,22],[22,23,24]),([25,22],[22,25]),([26,22],[22,26]),([22],[22]),([28,22],[22,28]),([27,29,22],[22,27,29]),([22,30,13],[13,22,30]),([13,31,4],[4,13,31]),([4,32],[4,32])])
def cO.B2:List Nat:=[0,0,2,7,15,31,31,127,255,511,31,1055,4095,8191,16383,16383,65535,131071,262143,16383,540671,2097151,4194303,8388607,8388607,33554431,67108863,134217727,8388607,276824063,1073741823,2147483647,4294967295,8589934591]
theorem cO.aLo:nX .any (opsOf Tryz.f67 2)=cO.T2:=by kernel_rfl
theorem cO.aAO:jA cO.T2.2 cO.B2=true:=by kernel_rfl
def cO.T4:Bool×List (List Nat×List Nat):=(true,[([],[]),([],[]),([],[]),([1,2],[1,2]),([0,3],[0,3]),([],[]),([5],[5]),([4,6,4],[4,6]),([],[]),([],[]),([8,9],[8,9]),([7,10,7],[7,10]),([11,11,0,1,2,3,4,5,6,7,8,9,10,11],[11])])
def cO.B4:List Nat:=[0,0,0,6,15,0,32,127,0,0,768,2047,4095]
theorem cO.J7:nX .any (opsOf Tryz.f67 4)=cO.T4:=by kernel_rfl
theorem cO.yN:jA cO.T4.2 cO.B4=true:=by kernel_rfl
theorem cO.calls (k:Nat) (A0:Option Addr) (c0:Nat) (l0:List (kG)) (fP:ByteArray) (fZ:Int) (r:List (kG)) (w:World) (hr0:Kd.C vT w A0 l0.length l0) (hc0:l0.length≤c0) (h:cO.f k l0 fP fZ=some r):
  Calls Tryz.prog 67 #[.slice A0 l0.length c0, .agg #[.string fP, .int .i64 fZ]] w fun e w' => ∃sQ:Value,e= .returned (sQ)∧Kd.R vT 40 w' w.heap.size (fun _=>True) sQ r∧Below w.heap.size w w' :=by
 have aOv:=Tryz.underlying40;have lX:=am hr0;have vX:=am hc0;clear hr0 hc0;have HB:=am (Below.refl w.heap.size w)
 have H:=h;unfold cO.f at H
 clear h
 have H' :=am H
 clear H;go_enter Tryz.func67,Tryz.ntmps67
 go_wp2_with (refine gd 3 ?_;refine bx 3 (cs:= #[.string fP, .int .i64 fZ]) (t:=40) ?_;intro lD hg w3 bT hb;have fM:=am (bT);have bMM:=am ((kI:w.heap.size≤lD));have pO:=am ((kI:w.heap.size≤lD));replace HB:=o8 hb;clear hb bT hg)
 go_loopg [5] k (fun kq v5 w' => ∃(bI:Int),v5= .int .i64 bI∧aC (cO.l0 kq l0 bI fP fZ=some r)∧aC (kq≤k)∧aC (w'.heap[lD]?=some (.cells #[.string fP, .int .i64 fZ] 40 (0,0)))∧aC (Below w.heap.size w w'))
 case atStart=>exact⟨(0),sq,H',⟨Nat.le_refl _⟩,⟨bq fM.out⟩,⟨cK pO.out⟩⟩
 case round=>
  clear H';obtain⟨bI,rfl,HA,lM,fM,HB⟩:=hrel
  cases gk with
  |zero=>exact absurd HA.out (by simp [cO.l0])
  |succ k1=>
   have H:=HA.out;clear HA;simp only [cO.l0] at H;have HC4:=am H;clear H
   go_upto_region 2 with (fail)
   go_cut [39] (fun v39 wc=> ∃(kq:Nat) (aRy:Bool),v39= .bool aRy∧aC (cO.j1 kq l0 bI aRy fP fZ=some r)∧aC (kq≤k1)∧aC (wc.heap[lD]?=some (.cells #[.string fP, .int .i64 fZ] 40 (0,0)))∧aC (Below w.heap.size w wc))
   case first=>
    have H:=HC4.out;clear HC4
    replace H:=iv H;rcases H with ⟨oL,H⟩|⟨oL,H⟩
    ·(skip)
     replace H:=it H;obtain⟨sW,H⟩:=H
     replace H:=iv H;rcases H with ⟨wR,H⟩|⟨wR,H⟩
     ·have H' :=am H
      clear H
      try go_wp2
      replace fM:=am (bF fM.out);replace HB:=am (bH HB.out)
      obtain⟨uA,aNz,tH,tJ⟩:=pR lX.out bI dt dt;have P9:=tJ;have P8:=tH;cases aNz;replace tH:=kp HB.out tH;replace tJ:=kp HB.out tJ;have bBb:=e0 bI;have bBi:=e1 bI (l0.length:Int)
      refine st (n:=34) (S:=fun w' =>w'.cell? ⟨lD,0,none⟩=some (.string fP)∧w'.cell? ⟨lD,1,none⟩=some (.int .i64 fZ)∧w'.cell? (uA.add ((bI).toNat*2))=some (.string ((bD l0 bI).f0))∧w'.cell? ⟨(uA.add ((bI).toNat*2)).block,(uA.add ((bI).toNat*2)).off+1,none⟩=some (.int .i64 ((bD l0 bI).f1))) (ds:=[]) ⟨bd fM.out 0,bd fM.out 1,(kp HB.out P8),(kp HB.out P9)⟩ (fun hHeld=>?_);refine dW cO.aLo cO.aAO (fun kQ rT=>?_)
      generalize wr.drew=w8 at fM HB tH tJ hHeld⊢;refine pu 0 6 ?_;refine pu 1 7 ?_;refine pu 2 8 ?_;refine pu 3 9 ?_;refine pu 4 10 ?_;refine pu 5 11 ?_;refine pu 6 12 ?_;refine pu 7 13 ?_;refine pu 8 14 ?_;refine pu 10 16 ?_;refine VG 9 15 hHeld ?_;refine VG 11 17 hHeld ?_;refine pu 12 18 ?_;refine pu 13 19 ?_;refine kF 14 20 ?_;refine kF 15 21 ?_;refine kF 16 22 ?_;refine kF 17 23 ?_;refine kF 18 24 ?_;refine kF 19 25 ?_;refine kF 20 26 ?_;refine kF 21 27 ?_;refine kF 22 28 ?_;refine kF 23 29 ?_;refine kF 24 30 ?_;refine kF 25 31 ?_;refine kF 26 32 ?_;refine kF 27 33 ?_;refine kF 28 34 ?_;refine kF 29 35 ?_;refine kF 30 36 ?_;refine kF 31 37 ?_;refine pu 32 38 ?_;refine pu 33 39 ?_
      refine kD (fQ kQ.out (by kernel_rfl)) ?_
      try go_wp2
      go_meet
      case rel=>exact⟨_,(true),sq,H',⟨OG⟩,⟨bq fM.out⟩,⟨cK pO.out⟩⟩
     by_cases c9:((bD l0 bI).f1)=fZ
     ·rw [if_pos c9] at H
      have wE:(((bD l0 bI).f1)==fZ)=true:=beq_iff_eq.mpr c9
      have XZ:(((bD l0 bI).f1) !=fZ)=false:=bne_eq_false_iff_eq.mpr c9
      clear c9
      have H' :=am H
      clear H
      try go_wp2
      replace fM:=am (bF fM.out);replace HB:=am (bH HB.out)
      obtain⟨uA,aNz,tH,tJ⟩:=pR lX.out bI dt dt;have P9:=tJ;have P8:=tH;cases aNz;replace tH:=kp HB.out tH;replace tJ:=kp HB.out tJ;have bBb:=e0 bI;have bBi:=e1 bI (l0.length:Int)
      obtain⟨aMp,aZ0,AQ,AR⟩:=pR lX.out bI dt dt;have aCv:=AR;have aCu:=AQ
      obtain rfl:uA=aMp:=(by injection aZ0)
      replace AQ:=kp HB.out AQ;replace AR:=kp HB.out AR;have bJ2:=e0 bI;have bKN:=e1 bI (l0.length:Int)
      obtain⟨a7U,bHf,VZ,V3⟩:=pR lX.out bI dt dt;have aTE:=V3;have aTD:=VZ
      obtain rfl:uA=a7U:=(by injection bHf)
      replace VZ:=kp HB.out VZ;replace V3:=kp HB.out V3;have bSa:=e0 bI;have bSB:=e1 bI (l0.length:Int)
      refine st (n:=34) (S:=fun w' =>w'.cell? ⟨lD,0,none⟩=some (.string fP)∧w'.cell? ⟨lD,1,none⟩=some (.int .i64 fZ)∧w'.cell? (uA.add ((bI).toNat*2))=some (.string ((bD l0 bI).f0))∧w'.cell? ⟨(uA.add ((bI).toNat*2)).block,(uA.add ((bI).toNat*2)).off+1,none⟩=some (.int .i64 ((bD l0 bI).f1))∧w'.cell? (uA.add ((bI).toNat*2))=some (.string ((bD l0 bI).f0))∧w'.cell? ⟨(uA.add ((bI).toNat*2)).block,(uA.add ((bI).toNat*2)).off+1,none⟩=some (.int .i64 ((bD l0 bI).f1))∧w'.cell? (uA.add ((bI).toNat*2))=some (.string ((bD l0 bI).f0))∧w'.cell? ⟨(uA.add ((bI).toNat*2)).block,(uA.add ((bI).toNat*2)).off+1,none⟩=some (.int .i64 ((bD l0 bI).f1))) (ds:=[]) ⟨bd fM.out 0,bd fM.out 1,(kp HB.out P8),(kp HB.out P9),(kp HB.out aCu),(kp HB.out aCv),(kp HB.out aTD),(kp HB.out aTE)⟩ (fun hHeld=>?_);refine dW cO.aLo cO.aAO (fun kQ rT=>?_)
      generalize wr.drew=w10 at fM HB tH tJ AQ AR VZ V3 hHeld⊢;refine pu 0 6 ?_;refine pu 1 7 ?_;refine pu 2 8 ?_;refine pu 3 9 ?_;refine pu 4 10 ?_;refine pu 5 11 ?_;refine pu 6 12 ?_;refine pu 7 13 ?_;refine pu 8 14 ?_;refine pu 10 16 ?_
      refine rM (i:=9) (N:=some 15) (v:=?_) (a' :=?_) #[true,true,true,true,true,true,true,true,true,true,true,false,false,false,false,false,false,false,false,false,false,false,false,false,false,false,false,false,false,false,false,false,false,false] rfl rfl (kT kQ.out rT.out (by kernel_rfl)) (fun _ _ _ h=>h) (Or.inl ⟨by rfl,?_⟩) hHeld ?_ ?_
      rotate_left
      ·rintro w' ⟨s0,s1,s2,s3,s4,s5,s6,s7⟩
       go_simp
       with_reducible rfl
      rotate_left
      ·simp only [Act.put,List.setIfInBounds_toArray,List.set_cons_zero,List.set_cons_succ,iZ,rC]
       rfl
      refine rM (i:=11) (N:=some 17) (v:=?_) (a' :=?_) #[true,true,true,true,true,true,true,true,true,true,true,true,false,false,false,false,false,false,false,false,false,false,false,false,false,false,false,false,false,false,false,false,false,false] rfl rfl (kT kQ.out rT.out (by kernel_rfl)) (fun _ _ _ h=>h) (Or.inl ⟨by rfl,?_⟩) hHeld ?_ ?_
      rotate_left
      ·rintro w' ⟨s0,s1,s2,s3,s4,s5,s6,s7⟩
       go_simp
       with_reducible rfl
      rotate_left
      ·simp only [Act.put,List.setIfInBounds_toArray,List.set_cons_zero,List.set_cons_succ,iZ,rC]
       rfl
      refine pu 12 18 ?_;refine pu 13 19 ?_;refine pu 14 20 ?_;refine pu 15 21 ?_;refine pu 16 22 ?_;refine pu 17 23 ?_;refine pu 19 25 ?_
      refine rM (i:=18) (N:=some 24) (v:=?_) (a' :=?_) #[true,true,true,true,true,true,true,true,true,true,true,true,true,true,true,true,true,true,true,true,false,false,false,false,false,false,false,false,false,false,false,false,false,false] rfl rfl (kT kQ.out rT.out (by kernel_rfl)) (fun _ _ _ h=>h) (Or.inl ⟨by rfl,?_⟩) hHeld ?_ ?_
      rotate_left
      ·rintro w' ⟨s0,s1,s2,s3,s4,s5,s6,s7⟩
       go_simp
       with_reducible rfl
      rotate_left
      ·simp only [Act.put,List.setIfInBounds_toArray,List.set_cons_zero,List.set_cons_succ,iZ,rC]
       rfl
      refine rM (i:=20) (N:=some 26) (v:=?_) (a' :=?_) #[true,true,true,true,true,true,true,true,true,true,true,true,true,true,true,true,true,true,true,true,true,false,false,false,false,false,false,false,false,false,false,false,false,false] rfl rfl (kT kQ.out rT.out (by kernel_rfl)) (fun _ _ _ h=>h) (Or.inl ⟨by rfl,?_⟩) hHeld ?_ ?_
      rotate_left
      ·rintro w' ⟨s0,s1,s2,s3,s4,s5,s6,s7⟩
       go_simp
       with_reducible rfl
      rotate_left
      ·simp only [Act.put,List.setIfInBounds_toArray,List.set_cons_zero,List.set_cons_succ,iZ,rC]
       rfl
      refine pu 21 27 ?_;refine pu 22 28 ?_;refine pu 23 29 ?_;refine pu 24 30 ?_;refine pu 25 31 ?_;refine pu 26 32 ?_;refine pu 28 34 ?_
      refine rM (i:=27) (N:=some 33) (v:=?_) (a' :=?_) #[true,true,true,true,true,true,true,true,true,true,true,true,true,true,true,true,true,true,true,true,true,true,true,true,true,true,true,true,true,false,false,false,false,false] rfl rfl (kT kQ.out rT.out (by kernel_rfl)) (fun _ _ _ h=>h) (Or.inl ⟨by rfl,?_⟩) hHeld ?_ ?_
      rotate_left
      ·rintro w' ⟨s0,s1,s2,s3,s4,s5,s6,s7⟩
       go_simp
       with_reducible rfl
      rotate_left
      ·simp only [Act.put,List.setIfInBounds_toArray,List.set_cons_zero,List.set_cons_succ,iZ,rC]
       rfl
      refine rM (i:=29) (N:=some 35) (v:=?_) (a' :=?_) #[true,true,true,true,true,true,true,true,true,true,true,true,true,true,true,true,true,true,true,true,true,true,true,true,true,true,true,true,true,true,false,false,false,false] rfl rfl (kT kQ.out rT.out (by kernel_rfl)) (fun _ _ _ h=>h) (Or.inl ⟨by rfl,?_⟩) hHeld ?_ ?_
      rotate_left
      ·rintro w' ⟨s0,s1,s2,s3,s4,s5,s6,s7⟩
       go_simp
       with_reducible rfl
      rotate_left
      ·simp only [Act.put,List.setIfInBounds_toArray,List.set_cons_zero,List.set_cons_succ,iZ,rC]
       rfl
      refine pu 30 36 ?_;refine pu 31 37 ?_;refine pu 32 38 ?_;refine pu 33 39 ?_
      refine kD (fQ kQ.out (by kernel_rfl)) ?_
      try go_wp2
      go_meet
      case rel=>exact⟨_,((Op.bytesLess (((bD l0 bI).f0).toList) fP.toList)),sq,H',⟨OG⟩,⟨bq fM.out⟩,⟨cK pO.out⟩⟩
     rw [if_neg c9] at H
     have wE:(((bD l0 bI).f1)==fZ)=false:=beq_eq_false_iff_ne.mpr c9
     have XZ:(((bD l0 bI).f1) !=fZ)=true:=bne_iff_ne.mpr c9
     have H' :=am H
     clear H
     try go_wp2
     replace fM:=am (bF fM.out);replace HB:=am (bH HB.out)
     obtain⟨uA,aNz,tH,tJ⟩:=pR lX.out bI dt dt;have P9:=tJ;have P8:=tH;cases aNz;replace tH:=kp HB.out tH;replace tJ:=kp HB.out tJ;have bBb:=e0 bI;have bBi:=e1 bI (l0.length:Int)
     obtain⟨aMp,aZ0,AQ,AR⟩:=pR lX.out bI dt dt;have aCv:=AR;have aCu:=AQ
     obtain rfl:uA=aMp:=(by injection aZ0)
     replace AQ:=kp HB.out AQ;replace AR:=kp HB.out AR;have bJ2:=e0 bI;have bKN:=e1 bI (l0.length:Int)
     refine st (n:=34) (S:=fun w' =>w'.cell? ⟨lD,0,none⟩=some (.string fP)∧w'.cell? ⟨lD,1,none⟩=some (.int .i64 fZ)∧w'.cell? (uA.add ((bI).toNat*2))=some (.string ((bD l0 bI).f0))∧w'.cell? ⟨(uA.add ((bI).toNat*2)).block,(uA.add ((bI).toNat*2)).off+1,none⟩=some (.int .i64 ((bD l0 bI).f1))∧w'.cell? (uA.add ((bI).toNat*2))=some (.string ((bD l0 bI).f0))∧w'.cell? ⟨(uA.add ((bI).toNat*2)).block,(uA.add ((bI).toNat*2)).off+1,none⟩=some (.int .i64 ((bD l0 bI).f1))) (ds:=[]) ⟨bd fM.out 0,bd fM.out 1,(kp HB.out P8),(kp HB.out P9),(kp HB.out aCu),(kp HB.out aCv)⟩ (fun hHeld=>?_);refine dW cO.aLo cO.aAO (fun kQ rT=>?_)
     generalize wr.drew=w11 at fM HB tH tJ AQ AR hHeld⊢;refine pu 0 6 ?_;refine pu 1 7 ?_;refine pu 2 8 ?_;refine pu 3 9 ?_;refine pu 4 10 ?_;refine pu 5 11 ?_;refine pu 6 12 ?_;refine pu 7 13 ?_;refine pu 8 14 ?_;refine pu 10 16 ?_;refine tk6 9 15 hHeld ?_;refine tk6 11 17 hHeld ?_;refine pu 12 18 ?_;refine pu 13 19 ?_;refine pu 14 20 ?_;refine pu 15 21 ?_;refine pu 16 22 ?_;refine pu 17 23 ?_;refine pu 19 25 ?_;refine tk6 18 24 hHeld ?_;refine tk6 20 26 hHeld ?_;refine pu 21 27 ?_;refine pu 22 28 ?_;refine kF 23 29 ?_;refine kF 24 30 ?_;refine kF 25 31 ?_;refine kF 26 32 ?_;refine kF 27 33 ?_;refine kF 28 34 ?_;refine kF 29 35 ?_;refine kF 30 36 ?_;refine pu 31 37 ?_;refine pu 32 38 ?_;refine pu 33 39 ?_
     refine kD (fQ kQ.out (by kernel_rfl)) ?_
     try go_wp2
     go_meet
     case rel=>exact⟨_,(false),sq,H',⟨OG⟩,⟨bq fM.out⟩,⟨cK pO.out⟩⟩
    (skip)
    have H' :=am H
    clear H
    try go_wp2
    replace fM:=am (bF fM.out);replace HB:=am (bH HB.out)
    refine st (n:=34) (S:=fun w' =>True) (ds:=[]) trivial (fun hHeld=>?_);refine dW cO.aLo cO.aAO (fun kQ rT=>?_)
    generalize wr.drew=w12 at fM HB hHeld⊢;refine pu 0 6 ?_;refine pu 1 7 ?_;refine pu 2 8 ?_;refine pu 3 9 ?_;refine pu 4 10 ?_;refine kF 5 11 ?_;refine kF 6 12 ?_;refine kF 7 13 ?_;refine kF 8 14 ?_;refine kF 9 15 ?_;refine kF 10 16 ?_;refine kF 11 17 ?_;refine kF 12 18 ?_;refine kF 13 19 ?_;refine kF 14 20 ?_;refine kF 15 21 ?_;refine kF 16 22 ?_;refine kF 17 23 ?_;refine kF 18 24 ?_;refine kF 19 25 ?_;refine kF 20 26 ?_;refine kF 21 27 ?_;refine kF 22 28 ?_;refine kF 23 29 ?_;refine kF 24 30 ?_;refine kF 25 31 ?_;refine kF 26 32 ?_;refine kF 27 33 ?_;refine kF 28 34 ?_;refine kF 29 35 ?_;refine kF 30 36 ?_;refine kF 31 37 ?_;refine kF 32 38 ?_;refine pu 33 39 ?_
    refine kD (fQ kQ.out (by kernel_rfl)) ?_
    try go_wp2
    go_meet
    case rel=>exact⟨_,(false),sq,H',⟨OG⟩,⟨bq fM.out⟩,⟨cK pO.out⟩⟩
   case rest=>
    clear HC4;obtain⟨kq,aRy,rfl,HA,HJ3,fM,HB⟩:=hcut
    cases kq with
    |zero=>exact absurd HA.out (by simp [cO.j1])
    |succ kj3=>
     have H:=HA.out;clear HA;simp only [cO.j1] at H
     replace H:=ib H;rcases H with ⟨rfl,H⟩|⟨rfl,H⟩
     ·have H' :=am H
      clear H;go_wp2
      go_roundg kj3
      case measure=>have:=lM.out;have:=HJ3.out;omega
      case rel=>exact⟨(wrap64 (bI+1)),sq,H',⟨by have:=lM.out;have:=HJ3.out;omega⟩,⟨bq fM.out⟩,⟨cK pO.out⟩⟩
     replace H:=bg H;obtain⟨aHd,aWl,H⟩:=H;(try dsimp only at H);replace H:=ip H;obtain⟨c14,H⟩:=H;have FD:=eq_true c14
     have bNA:decide (0≤bI)=true:=decide_eq_true c14
     clear c14;replace H:=ip H;obtain⟨c15,H⟩:=H;have BX:=eq_true c15
     have aNd:decide (bI≤(l0.length:Int))=true:=decide_eq_true c15
     clear c15;obtain⟨aDr,aPD⟩: ∃y_:List (kG),y_=(l0.take (bI:Int).toNat):=⟨_,rfl⟩
     replace H:=bm H;rw [←aPD] at H
     have aWm:=am aPD;clear aPD
     replace H:=ip H;obtain⟨c16,H⟩:=H;have aDF:=am c16;clear c16;obtain⟨aHe,aPE⟩: ∃y_:List (kG),y_=(aHd++aDr):=⟨_,rfl⟩
     replace H:=bm H;rw [←aPE] at H
     have aL7:=am aPE;clear aPE;obtain⟨aDs,aPF⟩: ∃y_:List (kG),y_=(([(⟨fP,fZ⟩:kG)]:List (kG))):=⟨_,rfl⟩
     replace H:=bm H;rw [←aPF] at H
     have aL8:=am aPF;clear aPF
     replace H:=ip H;obtain⟨c17,H⟩:=H;have aLZ:=am c17;clear c17;obtain⟨aRG,aPG⟩: ∃y_:List (kG),y_=(aHe++aDs):=⟨_,rfl⟩
     replace H:=bm H;rw [←aPG] at H
     have a6W:=am aPG;clear aPG;have L8:=eq_true (dt:0≤bI);have H6:=eq_true (dt:bI≤(l0.length:Int));obtain⟨aAs,aPH⟩: ∃y_:List (kG),y_=(l0.drop (bI:Int).toNat):=⟨_,rfl⟩
     replace H:=bm H;rw [←aPH] at H
     have aWn:=am aPH;clear aPH
     replace H:=ip H;obtain⟨c20,H⟩:=H;have a5C:=am c20;clear c20;obtain⟨bUa,aPI⟩: ∃y_:List (kG),y_=(aRG++aAs):=⟨_,rfl⟩
     rw [←aPI] at H
     have a6X:=am aPI;clear aPI;obtain rfl:=si H
     try go_wp2
     replace fM:=am (bF fM.out);replace HB:=am (bH HB.out)
     have q22:(bI:Int)≤((l0.length:Int):Int):=dt
     obtain⟨bRQ,aXW,_,bAI,_⟩:=info_parts xD
     have aI0:l0.length≤c0:=vX.out
     have a9H:Kd.C vT _ A0 l0.length l0:=lX.out
     have a08:=S9 (P:=Tryz.prog) 29 40 .i64 Tryz.underlying29 aXW A0 l0.length c0 bI (dt) q22 aI0;have a1O:=Kd.R4 (m:=(bI:Int).toNat) a9H (by omega)
     have a1Y:aDr.length=(bI:Int).toNat:=(by rw [aWm.out,List.length_take];omega)
     rw [←aWm.out] at a1O;rw [←a1Y] at a08;have aHt:=am a1O
     have bM1:=am (show aDr.length≤c0 from by omega)
     clear a1O a9H aI0 aXW bAI;have bQY:=am a1Y;clear a1Y;replace q22:=eq_true q22
     have q23:(bI:Int)≤((l0.length:Int):Int):=dt
     obtain⟨bJu,aEC,_,aI1,_⟩:=info_parts xD
     have KO:l0.length≤c0:=vX.out
     have aNS:Kd.C vT _ A0 l0.length l0:=lX.out
     have bKj:(0:Int)≤(bI:Int):=dt
     have aGb:=aEk (P:=Tryz.prog) 29 40 .i64 Tryz.underlying29 aEC 2 aI1 A0 l0.length c0 bI bKj q23;have aCr:=Kd.aLB (m:=(bI:Int).toNat) (c:=c0) aNS (by omega) KO
     obtain⟨A23,aSM⟩: ∃A1,A1=(if c0=(bI:Int).toNat then A0 else(A0:Option Addr).map (·.add ((bI:Int).toNat*2))):=⟨_,rfl⟩;obtain⟨c23,a0O⟩: ∃c1,c1=c0-(bI:Int).toNat:=⟨_,rfl⟩
     have aEK:aAs.length=l0.length-(bI:Int).toNat:=(by rw [aWn.out,List.length_drop]<;>omega)
     rw [show(l0).drop (bI:Int).toNat=aAs from aWn.out.symm] at aCr
     replace aCr:Kd.C vT _ A23 aAs.length aAs:=(by rw [aSM];exact aCr)
     rw [←aEK,←aSM,←a0O] at aGb;have aWe:=am aCr
     have bM2:=am (show aAs.length≤c23 from by rw [aEK,a0O];exact Nat.sub_le_sub_right KO _)
     clear aCr aNS KO aEC aI1 a0O;have bFG:=am aEK;have bQT:=am aSM;clear aEK aSM;replace q23:=eq_true q23
     refine st (n:=13) (S:=fun w' =>w'.cell? ⟨lD,0,none⟩=some (.string fP)∧w'.cell? ⟨lD,1,none⟩=some (.int .i64 fZ)) (ds:=[]) ⟨bd fM.out 0,bd fM.out 1⟩ (fun hHeld=>?_);refine dW cO.J7 cO.yN (fun kQ rT=>?_)
     generalize wc.drew=w21 at fM HB aHt aWe hHeld⊢;refine pu 1 43 ?_;refine pu 2 44 ?_;refine pu 3 45 ?_;refine pu 8 50 ?_;refine pu 9 51 ?_;refine pu 10 52 ?_;refine V9 5 47 hHeld ?_
     refine aQb (σ:=Value×Value×Value) 3 #[true,true,true,true,true,true,true,false,true,true,true,false,false] (fun s_=>[(42,s_.1),(46,s_.2.1),(48,s_.2.2)]) (fun s_ w' =>(w'.cell? ⟨lD,0,none⟩=some (.string fP)∧w'.cell? ⟨lD,1,none⟩=some (.int .i64 fZ))∧(Kd.R vT 40 w' w.heap.size (fun k_=>some k_≠(s_.2.2:Value).ownBlock∧k_≠lD) s_.2.1 aHe)∧(Kd.R vT 40 w' w.heap.size (fun k_=>some k_≠(s_.2.1:Value).ownBlock∧k_≠lD) s_.2.2 aDs)∧(w'.heap[lD]?=some (.cells #[.string fP, .int .i64 fZ] 40 (0,0)))∧(Below w.heap.size w w')) ?_ ?_
     rotate_left
     ·intro MI
      refine aRm (i:=0) (j:=6) (Ni:=some 42) (Nj:=some 48) #[true,true,true,true,false,true,false,false,true,true,true,false,false] #[false,true,true,true,false,true,true,false,true,true,true,false,false] rfl rfl rfl rfl (ZE kQ.out (by kernel_rfl)) (by decide) (by decide) (fun K hK=>?_) (fun K hK=>?_)
      ·skip
       refine Kd.kM vT _ 40 ?hg (N:=42) ?hd (xs:=([]:List (kG))) (inner:=[]) (ok:=fun _=>True) (mK:=fun _=>True) ?hr ?hp (fun _ hk=>hk) trivial (Below.refl _ _) (Nat.le_refl _) (by simp) ?_;(case hd=>rfl);(case hg=>rfl);(case hr=>(go_simp;done));(case hp=>exact(dQ.none _ _))
       intro aFj w24 FP hb lL dP;clear lL dP
       (rw [←aWl.out] at FP)
       have EX:=am (Kd.dZ (Kd.SC FP (g:=lD) (o:= .cells #[.string fP, .int .i64 fZ] 40 (0,0)) (bq fM.out)) (aH (cK pO.out)));replace fM:=kb fM hb;replace HB:=st1 pO hb;clear hb FP;refine hK.out _ _ ⟨bd fM.out 0,bd fM.out 1⟩ (fun hHeld=>?_);clear hK K;refine nm 42 ?_
       refine aRm (i:=4) (j:=6) (Ni:=some 46) (Nj:=some 48) #[true,true,true,true,true,true,false,false,true,true,true,false,false] #[true,true,true,true,false,true,true,false,true,true,true,false,false] rfl rfl rfl rfl (ZE kQ.out (by kernel_rfl)) (by decide) (by decide) (fun K hK=>?_) (fun K hK=>?_)
       ·skip
        refine Kd.jL vT (w0:=w) w.heap.size (by rfl) (.tmp 42) (.tmp 45) 29 40 (.agg #[(.string ⟨#[]⟩),(.int .i64 0)]) 24 rfl Tryz.underlying29 xD rfl (by decide) (by omega) aFj aHd aDr _ _ _ (fun k_=>k_≠lD) (fun _=>False) rfl rfl ?aO ?aR (fun _ _ h=>h) (fun _ h=>h.elim) ?aF ?aB ?aS ?aL ?_
        (case aR=>exact cq (Kd.dV aHt.out HB.out));(case aB=>exact(cK pO.out));(case aF=>exact(fun k_ hk=>Kd.pV (g:=lD) (o:= .cells #[.string fP, .int .i64 fZ] 40 (0,0)) (bq fM.out) k_ hk));(case aO=>exact(rq (Kd.bA EX.out (fun _ hk=>hk.2))));(case aS=>exact(aH (cK pO.out)));(case aL=>have:=aDF.out;omega);intro aDh w26 ho hb hg hat;rw [←aL7.out] at ho;replace fM:=am (gK (g:=lD) (o:= .cells #[.string fP, .int .i64 fZ] 40 (0,0)) (bq fM.out) hg (Kd.I6 EX.out (fun _ hk=>hk.2)));replace HB:=am (hb);have G8:=am (ho);clear EX;clear ho hb hg hat
        refine hK.out _ _ ⟨bd fM.out 0,bd fM.out 1⟩ (fun hHeld=>?_);clear hK K;refine nm 46 ?_;refine qF 6 48 (fun K hK=>?_)
        refine Kd.kM vT _ 40 ?hg (N:=48) ?hd (xs:=([(⟨fP,fZ⟩:kG)]:List (kG))) (inner:=[.string fP, .int .i64 fZ]) (ok:=fun _=>True) (mK:=fun _=>True) ?hr ?hp (fun _ hk=>hk) trivial (Below.refl _ _) (Nat.le_refl _) (by simp) ?_;(case hd=>rfl);(case hg=>rfl);(case hr=>(go_simp;done));(case hp=>exact(dQ.c2 (show Kd.M vT _ _ _ (⟨fP,fZ⟩:kG) [.string fP, .int .i64 fZ] from(D7 _ _ _ (⟨fP,fZ⟩:kG))) (dQ.none _ _)))
        intro aAo w27 aTw hb lL dP;clear lL dP
        (rw [←aL8.out] at aTw)
        have tY:=am (Kd.dZ (Kd.SC (Kd.qW aTw (Kd.pJ (rq G8.out))) (g:=lD) (o:= .cells #[.string fP, .int .i64 fZ] 40 (0,0)) (bq fM.out)) (aH (cK pO.out)));replace G8:=am (Kd.lT (rq G8.out) (Kd.jE aTw) hb);replace fM:=kb fM hb;replace HB:=st1 pO hb;clear hb aTw;refine hK.out _ _ ⟨bd fM.out 0,bd fM.out 1⟩ (fun hHeld=>?_);clear hK K;refine nm 48 ?_
        exact IE aDT (MI (aFj,aDh,aAo) _ ⟨hHeld,(rq (Kd.bA G8.out (fun _ hk=>⟨hk.2,hk.1⟩))),(rq (Kd.bA tY.out (fun _ hk=>⟨hk.1.2,hk.2⟩))),(bq fM.out),(cK pO.out)⟩)
       ·skip
        refine Kd.kM vT _ 40 ?hg (N:=48) ?hd (xs:=([(⟨fP,fZ⟩:kG)]:List (kG))) (inner:=[.string fP, .int .i64 fZ]) (ok:=fun _=>True) (mK:=fun _=>True) ?hr ?hp (fun _ hk=>hk) trivial (Below.refl _ _) (Nat.le_refl _) (by simp) ?_;(case hd=>rfl);(case hg=>rfl);(case hr=>(go_simp;done));(case hp=>exact(dQ.c2 (show Kd.M vT _ _ _ (⟨fP,fZ⟩:kG) [.string fP, .int .i64 fZ] from(D7 _ _ _ (⟨fP,fZ⟩:kG))) (dQ.none _ _)))
        intro aAo w26 aCq hb lL dP;clear lL dP
        (rw [←aL8.out] at aCq)
        have tY:=am (Kd.dZ (Kd.SC (Kd.qW aCq (Kd.pJ (rq EX.out))) (g:=lD) (o:= .cells #[.string fP, .int .i64 fZ] 40 (0,0)) (bq fM.out)) (aH (cK pO.out)));replace EX:=am (Kd.lT (rq EX.out) (Kd.jE aCq) hb);replace fM:=kb fM hb;replace HB:=st1 pO hb;clear hb aCq;refine hK.out _ _ ⟨bd fM.out 0,bd fM.out 1⟩ (fun hHeld=>?_);clear hK K;refine nm 48 ?_;refine qF 4 46 (fun K hK=>?_)
        refine Kd.jL vT (w0:=w) w.heap.size (by rfl) (.tmp 42) (.tmp 45) 29 40 (.agg #[(.string ⟨#[]⟩),(.int .i64 0)]) 24 rfl Tryz.underlying29 xD rfl (by decide) (by omega) aFj aHd aDr _ _ _ (fun k_=>some k_≠(aAo:Value).ownBlock∧k_≠lD) (fun _=>False) rfl rfl ?aO ?aR (fun _ _ h=>h) (fun _ h=>h.elim) ?aF ?aB ?aS ?aL ?_
        (case aR=>exact cq (Kd.dV aHt.out HB.out));(case aB=>exact(cK pO.out));(case aF=>exact(fun k_ hk=>⟨Kd.nL (Kd.pJ (rq tY.out)) k_ hk,Kd.pV (g:=lD) (o:= .cells #[.string fP, .int .i64 fZ] 40 (0,0)) (bq fM.out) k_ hk⟩));(case aO=>exact(rq (Kd.bA EX.out (fun _ hk=>⟨hk.2,hk.1.2⟩))));(case aS=>exact(aH (cK pO.out)));(case aL=>have:=aDF.out;omega);intro aDh w28 ho hb hg hat;rw [←aL7.out] at ho;replace fM:=am (gK (g:=lD) (o:= .cells #[.string fP, .int .i64 fZ] 40 (0,0)) (bq fM.out) hg (Kd.I6 EX.out (fun _ hk=>hk.1.2)));replace tY:=am (Kd.oO (ok:=(fun k_=>k_≠lD)) (rq (Kd.bA tY.out (fun _ hk=>⟨hk.2,hk.1.2⟩))) hg hat);replace HB:=am (hb);have G8:=am (ho);clear EX;clear ho hb hg hat
        refine hK.out _ _ ⟨bd fM.out 0,bd fM.out 1⟩ (fun hHeld=>?_);clear hK K;refine nm 46 ?_
        exact IE aDT (MI (aFj,aDh,aAo) _ ⟨hHeld,(rq G8.out),(rq (Kd.bA tY.out (fun _ hk=>⟨hk.2,hk.1⟩))),(bq fM.out),(cK pO.out)⟩)
      ·skip
       refine Kd.kM vT _ 40 ?hg (N:=48) ?hd (xs:=([(⟨fP,fZ⟩:kG)]:List (kG))) (inner:=[.string fP, .int .i64 fZ]) (ok:=fun _=>True) (mK:=fun _=>True) ?hr ?hp (fun _ hk=>hk) trivial (Below.refl _ _) (Nat.le_refl _) (by simp) ?_;(case hd=>rfl);(case hg=>rfl);(case hr=>(go_simp;done));(case hp=>exact(dQ.c2 (show Kd.M vT _ _ _ (⟨fP,fZ⟩:kG) [.string fP, .int .i64 fZ] from(D7 _ _ _ (⟨fP,fZ⟩:kG))) (dQ.none _ _)))
       intro aAo w24 FP hb lL dP;clear lL dP
       (rw [←aL8.out] at FP)
       have tY:=am (Kd.dZ (Kd.SC FP (g:=lD) (o:= .cells #[.string fP, .int .i64 fZ] 40 (0,0)) (bq fM.out)) (aH (cK pO.out)));replace fM:=kb fM hb;replace HB:=st1 pO hb;clear hb FP;refine hK.out _ _ ⟨bd fM.out 0,bd fM.out 1⟩ (fun hHeld=>?_);clear hK K;refine nm 48 ?_;refine qF 0 42 (fun K hK=>?_)
       refine Kd.kM vT _ 40 ?hg (N:=42) ?hd (xs:=([]:List (kG))) (inner:=[]) (ok:=fun _=>True) (mK:=fun _=>True) ?hr ?hp (fun _ hk=>hk) trivial (Below.refl _ _) (Nat.le_refl _) (by simp) ?_;(case hd=>rfl);(case hg=>rfl);(case hr=>(go_simp;done));(case hp=>exact(dQ.none _ _))
       intro aFj w26 aCq hb lL dP;clear lL dP
       (rw [←aWl.out] at aCq)
       have EX:=am (Kd.dZ (Kd.SC (Kd.qW aCq (Kd.pJ (rq tY.out))) (g:=lD) (o:= .cells #[.string fP, .int .i64 fZ] 40 (0,0)) (bq fM.out)) (aH (cK pO.out)));replace tY:=am (Kd.lT (rq tY.out) (Kd.jE aCq) hb);replace fM:=kb fM hb;replace HB:=st1 pO hb;clear hb aCq;refine hK.out _ _ ⟨bd fM.out 0,bd fM.out 1⟩ (fun hHeld=>?_);clear hK K;refine nm 42 ?_;refine qF 4 46 (fun K hK=>?_)
       refine Kd.jL vT (w0:=w) w.heap.size (by rfl) (.tmp 42) (.tmp 45) 29 40 (.agg #[(.string ⟨#[]⟩),(.int .i64 0)]) 24 rfl Tryz.underlying29 xD rfl (by decide) (by omega) aFj aHd aDr _ _ _ (fun k_=>some k_≠(aAo:Value).ownBlock∧k_≠lD) (fun _=>False) rfl rfl ?aO ?aR (fun _ _ h=>h) (fun _ h=>h.elim) ?aF ?aB ?aS ?aL ?_
       (case aR=>exact cq (Kd.dV aHt.out HB.out));(case aB=>exact(cK pO.out));(case aF=>exact(fun k_ hk=>⟨Kd.nL (Kd.pJ (rq tY.out)) k_ hk,Kd.pV (g:=lD) (o:= .cells #[.string fP, .int .i64 fZ] 40 (0,0)) (bq fM.out) k_ hk⟩));(case aO=>exact(rq (Kd.bA EX.out (fun _ hk=>⟨hk.1.2,hk.2⟩))));(case aS=>exact(aH (cK pO.out)));(case aL=>have:=aDF.out;omega);intro aDh w28 ho hb hg hat;rw [←aL7.out] at ho;replace fM:=am (gK (g:=lD) (o:= .cells #[.string fP, .int .i64 fZ] 40 (0,0)) (bq fM.out) hg (Kd.I6 EX.out (fun _ hk=>hk.2)));replace tY:=am (Kd.oO (ok:=(fun k_=>k_≠lD)) (rq (Kd.bA tY.out (fun _ hk=>⟨hk.1.2,hk.2⟩))) hg hat);replace HB:=am (hb);have G8:=am (ho);clear EX;clear ho hb hg hat
       refine hK.out _ _ ⟨bd fM.out 0,bd fM.out 1⟩ (fun hHeld=>?_);clear hK K;refine nm 46 ?_
       exact IE aDT (MI (aFj,aDh,aAo) _ ⟨hHeld,(rq G8.out),(rq (Kd.bA tY.out (fun _ hk=>⟨hk.2,hk.1⟩))),(bq fM.out),(cK pO.out)⟩)
     rintro⟨aFj,aDh,aAo⟩ w29 ⟨hS_,h0_,h1_,h2_,h3_⟩
     have vK:aC (Kd.R vT 40 w29 w.heap.size (fun k_=>some k_≠(aAo:Value).ownBlock∧k_≠lD) aDh aHe):=⟨h0_⟩
     have vL:aC (Kd.R vT 40 w29 w.heap.size (fun k_=>some k_≠(aDh:Value).ownBlock∧k_≠lD) aAo aDs):=⟨h1_⟩
     have GL:aC (w29.heap[lD]?=some (.cells #[.string fP, .int .i64 fZ] 40 (0,0))):=⟨h2_⟩
     have MO:aC (Below w.heap.size w w29):=⟨h3_⟩
     clear fM;clear HB;clear h0_ h1_ h2_ h3_;have G8:=vK;have tY:=vL;have fM:=GL;have HB:=MO;clear vK vL GL MO
     have hHeld:w29.cell? ⟨lD,0,none⟩=some (.string fP)∧w29.cell? ⟨lD,1,none⟩=some (.int .i64 fZ):=hS_
     obtain⟨CZ,DD,aBP⟩:=Kd.bS tY.out
     (subst aBP)
     refine IE (a' :=?_) ?_ ?_
     rotate_left
     ·simp only [M3,Act.put,List.setIfInBounds_toArray,List.set_cons_zero,List.set_cons_succ]
      rfl
     refine qF 7 49 (fun K hK=>?_)
     refine Kd.jL vT (w0:=w) w.heap.size (by rfl) (.tmp 46) (.tmp 48) 29 40 (.agg #[(.string ⟨#[]⟩),(.int .i64 0)]) 24 rfl Tryz.underlying29 xD rfl (by decide) (by omega) aDh aHe aDs _ _ _ (fun k_=>some k_≠(.slice CZ aDs.length DD:Value).ownBlock∧k_≠lD) (fun _=>False) rfl rfl ?aO ?aR (fun _ _ h=>h) (fun _ h=>h.elim) ?aF ?aB ?aS ?aL ?_
     (case aR=>exact cq (Kd.aM tY.out).2.2);(case aB=>exact(cK pO.out));(case aF=>exact(fun k_ hk=>⟨Kd.nL (Kd.pJ (rq tY.out)) k_ hk,Kd.pV (g:=lD) (o:= .cells #[.string fP, .int .i64 fZ] 40 (0,0)) (bq fM.out) k_ hk⟩));(case aO=>exact(rq G8.out));(case aS=>exact(aH (cK pO.out)));(case aL=>have:=aLZ.out;omega);intro bLt w30 ho hb hg hat;rw [←a6W.out] at ho;replace fM:=am (gK (g:=lD) (o:= .cells #[.string fP, .int .i64 fZ] 40 (0,0)) (bq fM.out) hg (Kd.I6 G8.out (fun _ hk=>hk.2)));replace tY:=am (Kd.oO (ok:=(fun k_=>k_≠lD)) (rq (Kd.bA tY.out (fun _ hk=>⟨hk.2,hk.1⟩))) hg hat);replace HB:=am (hb);have aLT:=am (ho);clear G8;clear ho hb hg hat
     refine hK.out _ _ ⟨bd fM.out 0,bd fM.out 1⟩ (fun hHeld=>?_);clear hK K;refine nm 49 ?_;refine qF 11 53 (fun K hK=>?_)
     refine Kd.jL vT (w0:=w) w.heap.size (by rfl) (.tmp 49) (.tmp 52) 29 40 (.agg #[(.string ⟨#[]⟩),(.int .i64 0)]) 24 rfl Tryz.underlying29 xD rfl (by decide) (by omega) bLt aRG aAs _ _ _ (fun k_=>some k_≠(.slice CZ aDs.length DD:Value).ownBlock∧k_≠lD) (fun _=>False) rfl rfl ?aO ?aR (fun _ _ h=>h) (fun _ h=>h.elim) ?aF ?aB ?aS ?aL ?_
     (case aR=>exact cq (Kd.dV aWe.out HB.out));(case aB=>exact(cK pO.out));(case aF=>exact(fun k_ hk=>⟨Kd.nL (Kd.pJ (rq tY.out)) k_ hk,Kd.pV (g:=lD) (o:= .cells #[.string fP, .int .i64 fZ] 40 (0,0)) (bq fM.out) k_ hk⟩));(case aO=>exact(rq aLT.out));(case aS=>exact(aH (cK pO.out)));(case aL=>have:=a5C.out;omega);intro bTN w32 ho hb hg hat;rw [←a6X.out] at ho;replace fM:=am (gK (g:=lD) (o:= .cells #[.string fP, .int .i64 fZ] 40 (0,0)) (bq fM.out) hg (Kd.I6 aLT.out (fun _ hk=>hk.2)));replace tY:=am (Kd.oO (ok:=(fun k_=>k_≠lD)) (rq tY.out) hg hat);replace HB:=am (hb);have a4X:=am (ho);clear aLT;clear ho hb hg hat
     refine hK.out _ _ ⟨bd fM.out 0,bd fM.out 1⟩ (fun hHeld=>?_);clear hK K;refine nm 53 ?_;refine pu 12 4 ?_
     refine kD (fQ kQ.out (by kernel_rfl)) ?_
     try go_wp2
     go_ret
     exact⟨_,nD,by(with_reducible repeat(fail));exact Kd.bA a4X.out (fun _ hk=>trivial),cK pO.out⟩
def iF.l0:Nat→List ByteArray→ByteArray→Int→List (kG)→Int→Option ((List (kG)))
 |0,_,_,_,_,_=>none
 |k+1,x0,x1,x2,x7,x8=>if x8<(x0.length:Int)then(if 0≤x8 then((dK.f k (bP ByteArray.empty x0 x8) x1).bind fun aLk=>(if aLk≤x2 then((cO.f k x7 (bP ByteArray.empty x0 x8) aLk).bind fun aVm=>(iF.l0 k x0 x1 x2 aVm (wrap64 (x8+1))))else(iF.l0 k x0 x1 x2 x7 (wrap64 (x8+1)))))else(none))else(if(x7.length:Int)>10 then(if 10≤(x7.length:Int)then(some (x7.take (10:Int).toNat))else(none))else(some x7))
def iF.f (k:Nat) (l0:List ByteArray) (a1:ByteArray) (a2:Int):Option ((List (kG))):=iF.l0 k l0 a1 a2 (([]:List (kG))) 0
theorem iF.calls (k:Nat) (A0:Option Addr) (c0:Nat) (l0:List ByteArray) (a1:ByteArray) (a2:Int) (r:List (kG)) (w:World) (hr0:Kd.C Kd.string w A0 l0.length l0) (hc0:l0.length≤c0) (h:iF.f k l0 a1 a2=some r):
  Calls Tryz.prog 27 #[.slice A0 l0.length c0, .string a1, .int .i64 a2] w fun e w' => ∃sQ:Value,e= .returned (sQ)∧Kd.R vT 40 w' w.heap.size (fun _=>True) sQ r∧Below w.heap.size w w' :=by
 have aOv:=Tryz.underlying40;have lX:=am hr0;have vX:=am hc0;clear hr0 hc0;have HB:=am (Below.refl w.heap.size w)
 have H:=h;unfold iF.f at H
 clear h;obtain⟨bMf,aPJ⟩: ∃y_:List (kG),y_=(([]:List (kG))):=⟨_,rfl⟩
 rw [←aPJ] at H
 have a6Y:=am aPJ;clear aPJ
 have H' :=am H
 clear H;go_enter Tryz.func27,Tryz.ntmps27
 go_wp2_with (refine gd 10 ?_;refine Kd.mJ vT _ 40 ?hg (N:=10) ?hd (xs:=([]:List (kG))) (inner:=[]) (ok:=fun _=>True) (mK:=fun _=>True) ?hr ?hp (fun _ hk=>hk) trivial (Below.refl _ _) (Nat.le_refl _) (by simp) ?_;(case hd=>rfl);(case hg=>rfl);(case hr=>(go_simp;done));(case hp=>exact(dQ.none _ _));intro bTO w4 ho5 hb lL dP;clear lL dP;(rw [←a6Y.out] at ho5);have a4Y:=am (Kd.dZ ho5 (aH gP));replace HB:=o8 hb;clear hb ho5)
 go_loopg [7,8] k (fun kq v7 v8 w' => ∃(bC:List (kG)) (iU:Int),v8= .int .i64 iU∧aC (iF.l0 kq l0 a1 a2 bC iU=some r)∧aC (kq≤k)∧aC (Kd.R vT 40 w' w.heap.size (fun _=>True) v7 bC)∧aC (Below w.heap.size w w'))
 case atStart=>exact⟨(bMf),(0),sq,H',⟨Nat.le_refl _⟩,⟨rq a4Y.out⟩,⟨gP⟩⟩
 case round=>
  clear H';obtain⟨bC,iU,rfl,HA,lM,lY,HB⟩:=hrel
  cases gk with
  |zero=>exact absurd HA.out (by simp [iF.l0])
  |succ k1=>
   have H:=HA.out;clear HA;simp only [iF.l0] at H
   replace H:=iv H;rcases H with ⟨sW,H⟩|⟨sW,H⟩
   ·replace H:=it H;obtain⟨wR,H⟩:=H;replace H:=ba H;obtain⟨aLk,A8,H⟩:=H
    replace H:=iv H;rcases H with ⟨wE,H⟩|⟨wE,H⟩
    ·replace H:=ba H;obtain⟨aVm,A10,H⟩:=H
     have H' :=am H
     clear H
     obtain⟨aWw,aZ1,QV,bJ3,bKO⟩:=CY lX.out iU;cases aZ1;replace QV:=kp HB.out QV
     go_wp2_with (first|(refine gd 22 ?_;refine gv Tryz.func66 (dK.calls k1 (bP ByteArray.empty l0 iU) a1 aLk _ A8.out) ?_;intro w11 hb;replace lY:=kr lY hb;replace HB:=o8 hb;clear hb;obtain⟨a7V,bHg,aJx,bSb,bSC⟩:=CY lX.out iU;obtain rfl:aWw=a7V:=(by injection bHg);replace aJx:=kp HB.out aJx;obtain⟨aRI,aSF,aFR⟩:=Kd.bS lY.out;subst aFR)|(refine gd 33 ?_;refine gx Tryz.func67 (cO.calls k1 _ _ bC (bP ByteArray.empty l0 iU) aLk aVm _ (cq (Kd.aM lY.out).2.2) ((Kd.aM lY.out).2.1) A10.out) ?_;rintro bTP w13 ⟨ho0,hb⟩;have a5a:=am (Kd.dZ (Kd.qW ho0 (Kd.pJ (rq lY.out))) (aH gP));replace lY:=am (Kd.lT (rq lY.out) (Kd.jE ho0) hb);replace HB:=o8 hb;clear hb;clear ho0))
     go_roundg k1
     case measure=>have:=lM.out;omega
     case rel=>exact⟨(aVm),(wrap64 (iU+1)),sq,H',⟨rO⟩,⟨rq (Kd.bA a5a.out (fun _ hk=>trivial))⟩,⟨gP⟩⟩
    have H' :=am H
    clear H
    obtain⟨aWw,aZ1,QV,bJ3,bKO⟩:=CY lX.out iU;cases aZ1;replace QV:=kp HB.out QV
    go_wp2_with (refine gd 22 ?_;refine gv Tryz.func66 (dK.calls k1 (bP ByteArray.empty l0 iU) a1 aLk _ A8.out) ?_;intro w14 hb;replace lY:=kr lY hb;replace HB:=o8 hb;clear hb)
    go_roundg k1
    case measure=>have:=lM.out;omega
    case rel=>exact⟨(bC),(wrap64 (iU+1)),sq,H',⟨rO⟩,⟨rq lY.out⟩,⟨gP⟩⟩
   by_cases c15:(bC.length:Int)>10
   ·rw [if_pos c15] at H;have BX:=decide_eq_true c15
    have aNd:decide (10<bC.length)=true:=decide_eq_true (by omega)
    clear c15;replace H:=ip H;obtain⟨c16,H⟩:=H;have BZ:=eq_true c16
    have aH3:decide (10≤(bC.length:Int))=true:=decide_eq_true c16
    clear c16;obtain⟨bMg,aPK⟩: ∃y_:List (kG),y_=(bC.take (10:Int).toNat):=⟨_,rfl⟩
    rw [←aPK] at H
    have aWo:=am aPK;clear aPK;obtain rfl:=si H;obtain⟨aLx,aNs,aFS⟩:=Kd.bS lY.out;subst aFS
    have q18:(10:Int)≤((bC.length:Int):Int):=dt
    obtain⟨bRN,aXT,_,bAG,_⟩:=info_parts xD;have a05:=S9 (P:=Tryz.prog) 29 40 .i64 Tryz.underlying29 aXT aLx bC.length aNs 10 (by omega) q18 (Kd.aM lY.out).2.1;have aTA:=Kd.aZi (m:=(10:Int).toNat) lY.out (by omega)
    have bAQ:bMg.length=(10:Int).toNat:=(by rw [aWo.out,List.length_take];omega)
    rw [←aWo.out] at aTA
    rw [←bAQ] at aTA a05
    clear bAQ aXT bAG lY;have a4Z:=am aTA;clear aTA;replace q18:=eq_true q18;go_wp2;go_ret
    exact⟨_,nD,by(with_reducible repeat(fail));exact a4Z.out,gP⟩
   rw [if_neg c15] at H;have BX:=decide_eq_false c15
   have aNd:decide (10<bC.length)=false:=decide_eq_false (by omega)
   clear c15;obtain rfl:=si H;obtain⟨aBj,aBK,aFT⟩:=Kd.bS lY.out;subst aFT;go_wp2;go_ret
   exact⟨_,nD,by(with_reducible repeat(fail));exact lY.out,gP⟩
mutual
def cZ.j0:Nat→ByteArray→List (kG)→Bool→List (kH)→List (sV)→Option ((List (kG)))
 |0,_,_,_,_,_=>none
 |k+1,x1,x5,x22,aVJ,aVK=>if x22=true then(some x5)else((dM.f k aVJ aVK).bind fun aVp=>((iF.f k aVp x1 2).bind fun vW=>(cZ.l0 k x5 vW 0)))
def cZ.l0:Nat→List (kG)→List (kG)→Int→Option ((List (kG)))
 |0,_,_,_=>none
 |k+1,x5,x6,x7=>if x7<(x6.length:Int)then(if 0≤x7 then(if 0<(x6.length:Int)then(if((bD x6 x7).f1)=((bD x6 0).f1)then(if x5.length<5864062014805 then(cZ.l0 k (x5++[(⟨(bD x6 x7).f0,(bD x6 x7).f1⟩:kG)]) x6 (wrap64 (x7+1)))else(none))else(some x5))else(none))else(none))else(some x5)
end
def cZ.f (k:Nat) (fI:List (kH)) (bV:List (sV)) (a1:ByteArray):Option ((List (kG))):=(some (([]:List (kG)):List (kG))).bind fun aHf=>((dX.f k fI bV).bind fun bB9=>(if bB9=true then((gZ.f k a1).bind fun bCa=>(if bCa=true then((dM.f k fI bV).bind fun aVn=>((nO.f k aVn a1).bind fun aVo=>(cZ.j0 k a1 aHf aVo fI bV)))else(cZ.j0 k a1 aHf true fI bV)))else(cZ.j0 k a1 aHf true fI bV)))
theorem cZ.calls (k:Nat) (mH:Option Addr) (mI:Nat) (fI:List (kH)) (nQ:Option Addr) (lH:Nat) (bV:List (sV)) (a1:ByteArray) (r:List (kG)) (w:World) (uI:Kd.C yG w mH fI.length fI) (uH:fI.length≤mI) (rW:Kd.C NK w nQ bV.length bV) (rV:bV.length≤lH) (h:cZ.f k fI bV a1=some r):
  Calls Tryz.prog 7 #[.agg #[.slice mH fI.length mI, .slice nQ bV.length lH], .string a1] w fun e w' => ∃sQ:Value,e= .returned (sQ)∧Kd.R vT 40 w' w.heap.size (fun _=>True) sQ r∧Below w.heap.size w w' :=by
 have U7:=Tryz.underlying26;have aOv:=Tryz.underlying40;have p9:=am uI;have pY:=am uH;clear uI uH;have nE:=am rW;have sN:=am rV;clear rW rV;have HB:=am (Below.refl w.heap.size w)
 have H:=h;unfold cZ.f at H
 clear h;obtain⟨aHf,aPL⟩: ∃y_:List (kG),y_=(([]:List (kG))):=⟨_,rfl⟩
 replace H:=bm H;rw [←aPL] at H
 have a6Z:=am aPL;clear aPL;have FZ:=am H;clear H;go_enter Tryz.func7,Tryz.ntmps7
 go_upto_region 2 with (first|(refine gd 2 ?_;refine bx 2 (cs:= #[.slice mH fI.length mI, .slice nQ bV.length lH]) (t:=26) ?_;intro O0 hg w4 bT hb;have nR:=am (bT);have bMN:=am ((kI:w.heap.size≤O0));have tT:=am ((kI:w.heap.size≤O0));replace HB:=o8 hb;clear hb bT hg)|(refine gd 8 ?_;refine Kd.mJ vT _ 40 ?hg (N:=8) ?hd (xs:=([]:List (kG))) (inner:=[]) (ok:=fun _=>True) (mK:=fun _=>True) ?hr ?hp (fun _ hk=>hk) trivial (Below.refl _ _) (Nat.le_refl _) (by simp) ?_;(case hd=>rfl);(case hg=>rfl);(case hr=>(go_simp;done));(case hp=>exact(dQ.none _ _));intro a3l w5 ho6 hb lL dP;clear lL dP;(rw [←a6Z.out] at ho6);have G9:=am (Kd.dZ ho6 (aH (cK tT.out)));replace nR:=kb nR hb;replace HB:=st1 tT hb;clear hb ho6))
 go_cut [22] (fun v22 wc=> ∃(kq:Nat) (aRu:Bool),v22= .bool aRu∧aC (cZ.j0 kq a1 aHf aRu fI bV=some r)∧aC (kq≤k)∧aC (Kd.R vT 40 wc w.heap.size (fun _=>True) a3l aHf)∧aC (wc.heap[O0]?=some (.cells #[(.slice mH fI.length mI),(.slice nQ bV.length lH)] 26 (0,0)))∧aC (Below w.heap.size w wc))
 case first=>
  have H:=FZ.out;clear FZ;replace H:=ba H;obtain⟨bB9,A7,H⟩:=H
  replace H:=ib H;rcases H with ⟨rfl,H⟩|⟨rfl,H⟩
  ·replace H:=ba H;obtain⟨bCa,A9,H⟩:=H
   replace H:=ib H;rcases H with ⟨rfl,H⟩|⟨rfl,H⟩
   ·replace H:=ba H;obtain⟨aVn,A11,H⟩:=H;replace H:=ba H;obtain⟨aVo,A12,H⟩:=H
    have H' :=am H
    clear H;have⟨_,_,_,_⟩:=oP nR.out
    have aIg:=bc nR.out 0
    have aIh:=bc nR.out 1
    have aIi:=bf nR.out 0
    have aIj:=bf nR.out 1
    go_wp2_with (first|(go_at_call 8;(with_reducible refine(dX.calls k _ _ fI _ _ bV true _ ?dS pY.out ?mU sN.out A7.out).mono ?_);(case dS=>exact cq (Kd.dV p9.out HB.out));(case mU=>exact cq (Kd.dV nE.out HB.out));rintro e w14 ⟨rfl,hb⟩;replace G9:=kr G9 hb;replace nR:=kb nR hb;replace HB:=st1 tT hb;clear hb)|(go_at_call 24;(with_reducible refine(gZ.calls k a1 true _ A9.out).mono ?_);rintro e w' ⟨rfl,⟨nd,rfl⟩⟩;(have⟨_,_,_,_⟩:=oP nR.out))|(go_at_call 26;(with_reducible refine(dM.calls k _ _ fI _ _ bV aVn _ ?dS pY.out ?mU sN.out A11.out).mono ?_);(case dS=>exact cq (Kd.dV p9.out (cK tT.out)));(case mU=>exact cq (Kd.dV nE.out (cK tT.out)));rintro e w16 ⟨bTQ,rfl,ho0,hb⟩;have aLU:=am (Kd.nZ (Kd.gJ (ok' :=fun k_=>some k_≠(a3l:Value).ownBlock∧k_≠O0) ho0 (fun k_ rQ=>⟨(Kd.nL (Kd.pJ (rq G9.out)) k_ rQ),(Kd.pV (g:=O0) (o:= .cells #[.slice mH fI.length mI, .slice nQ bV.length lH] 26 (0,0)) (bq nR.out) k_ rQ)⟩)) (aH (cK tT.out)));replace G9:=kr G9 hb;replace nR:=kb nR hb;replace HB:=st1 tT hb;clear hb;clear ho0;obtain⟨aLx,aNs,aFS⟩:=Kd.nC aLU.out;subst aFS)|(go_at_call 25;(with_reducible refine(nO.calls k _ _ aVn a1 aVo _ ?dS ((Kd.mE aLU.out).2.1) A12.out).mono ?_);(case dS=>exact cq (Kd.mE aLU.out).2.2);rintro e w' ⟨rfl,⟨nd,rfl⟩⟩))
    go_meet
    case rel=>exact⟨_,(aVo),sq,H',⟨xI⟩,⟨rq G9.out⟩,⟨bq nR.out⟩,⟨cK tT.out⟩⟩
   have H' :=am H
   clear H;have⟨_,_,_,_⟩:=oP nR.out
   go_wp2_with (first|(go_at_call 8;(with_reducible refine(dX.calls k _ _ fI _ _ bV true _ ?dS pY.out ?mU sN.out A7.out).mono ?_);(case dS=>exact cq (Kd.dV p9.out HB.out));(case mU=>exact cq (Kd.dV nE.out HB.out));rintro e w19 ⟨rfl,hb⟩;replace G9:=kr G9 hb;replace nR:=kb nR hb;replace HB:=st1 tT hb;clear hb)|(go_at_call 24;(with_reducible refine(gZ.calls k a1 false _ A9.out).mono ?_);rintro e w' ⟨rfl,⟨nd,rfl⟩⟩))
   go_meet
   case rel=>exact⟨_,(true),sq,H',⟨xI⟩,⟨rq G9.out⟩,⟨bq nR.out⟩,⟨cK tT.out⟩⟩
  have H' :=am H
  clear H;have⟨_,_,_,_⟩:=oP nR.out
  go_wp2_with (go_at_call 8;(with_reducible refine(dX.calls k _ _ fI _ _ bV false _ ?dS pY.out ?mU sN.out A7.out).mono ?_);(case dS=>exact cq (Kd.dV p9.out HB.out));(case mU=>exact cq (Kd.dV nE.out HB.out));rintro e w21 ⟨rfl,hb⟩;replace G9:=kr G9 hb;replace nR:=kb nR hb;replace HB:=st1 tT hb;clear hb)
  go_meet
  case rel=>exact⟨_,(true),sq,H',⟨xI⟩,⟨rq G9.out⟩,⟨bq nR.out⟩,⟨cK tT.out⟩⟩
 case rest=>
  clear FZ;obtain⟨kq,aRu,rfl,HA,HJ2,bY,nR,HB⟩:=hcut
  cases kq with
  |zero=>exact absurd HA.out (by simp [cZ.j0])
  |succ D8=>
   have H:=HA.out;clear HA;simp only [cZ.j0] at H
   replace H:=ib H;rcases H with ⟨rfl,H⟩|⟨rfl,H⟩
   ·obtain rfl:=si H;go_wp2
    go_ret
    exact⟨_,nD,aMC,cK tT.out⟩
   replace H:=ba H;obtain⟨aVp,A23,H⟩:=H;replace H:=ba H;obtain⟨vW,A24,H⟩:=H
   have H' :=am H
   clear H;have⟨aSX,aSY,aTh,aTi⟩:=oP nR.out
   go_wp2_with (first|(go_at_call 26;(with_reducible refine(dM.calls D8 _ _ fI _ _ bV aVp _ ?dS pY.out ?mU sN.out A23.out).mono ?_);(case dS=>exact cq (Kd.dV p9.out HB.out));(case mU=>exact cq (Kd.dV nE.out HB.out));rintro e w26 ⟨bTR,rfl,ho0,hb⟩;have aDE:=am (Kd.nZ (Kd.gJ (ok' :=fun k_=>some k_≠(a3l:Value).ownBlock∧k_≠O0) ho0 (fun k_ rQ=>⟨(Kd.nL (Kd.pJ (rq bY.out)) k_ rQ),(Kd.pV (g:=O0) (o:= .cells #[.slice mH fI.length mI, .slice nQ bV.length lH] 26 (0,0)) (bq nR.out) k_ rQ)⟩)) (aH (cK tT.out)));replace bY:=kr bY hb;replace nR:=kb nR hb;replace HB:=st1 tT hb;clear hb;clear ho0;obtain⟨aRJ,aKx,aNF⟩:=Kd.nC aDE.out;subst aNF)|(go_at_call 27;(with_reducible refine(iF.calls D8 _ _ aVp a1 2 vW _ ?dS ((Kd.mE aDE.out).2.1) A24.out).mono ?_);(case dS=>exact cq (Kd.mE aDE.out).2.2);rintro e w28 ⟨bCt,rfl,ho0,hb⟩;replace aDE:=am (Kd.lU (vq aDE.out) (Kd.jE ho0) hb);have a5b:=am (Kd.dZ (Kd.qW ho0 (Kd.pJ (rq bY.out))) (aH (cK tT.out)));replace bY:=am (Kd.lT (rq bY.out) (Kd.jE ho0) hb);replace nR:=kb nR hb;replace HB:=st1 tT hb;clear hb;clear ho0))
   go_loopg [5,7] D8 (fun kq v5 v7 w' => ∃(jZ:List (kG)) (lW:Int),v7= .int .i64 lW∧aC (cZ.l0 kq jZ vW lW=some r)∧aC (kq≤D8)∧aC (Kd.R vT 40 w' w.heap.size (fun k_=>some k_≠(bCt:Value).ownBlock) v5 jZ)∧aC (Kd.R vT 40 w' w.heap.size (fun k_=>some k_≠(v5:Value).ownBlock) bCt vW)∧aC (w'.heap[O0]?=some (.cells #[(.slice mH fI.length mI),(.slice nQ bV.length lH)] 26 (0,0)))∧aC (Below w.heap.size w w'))
   case atStart=>exact⟨(aHf),(0),sq,H',⟨Nat.le_refl _⟩,⟨rq (Kd.bA bY.out (fun _ hk=>hk.2))⟩,⟨rq (Kd.bA a5b.out (fun _ hk=>hk.2))⟩,⟨bq nR.out⟩,⟨cK tT.out⟩⟩
   case round=>
    clear H';clear aSX aSY aTh aTi;obtain⟨jZ,lW,rfl,HA,uP,bY,xS,nR,HB⟩:=hrel
    cases gk with
    |zero=>exact absurd HA.out (by simp [cZ.l0])
    |succ k2=>
     have H:=HA.out;clear HA;simp only [cZ.l0] at H
     replace H:=iv H;rcases H with ⟨UD,H⟩|⟨UD,H⟩
     ·replace H:=it H;obtain⟨JE,H⟩:=H;replace H:=ip H;obtain⟨c31,H⟩:=H;have UE:=decide_eq_true c31
      have aNf:decide (0<vW.length)=true:=decide_eq_true (by omega)
      clear c31
      by_cases c32:((bD vW lW).f1)=((bD vW 0).f1)
      ·rw [if_pos c32] at H
       have OM:(((bD vW lW).f1)==((bD vW 0).f1))=true:=beq_iff_eq.mpr c32
       have aXn:(((bD vW lW).f1) !=((bD vW 0).f1))=false:=bne_eq_false_iff_eq.mpr c32
       clear c32
       replace H:=ip H;obtain⟨c33,H⟩:=H;have a5G:=am c33;clear c33;obtain⟨bMh,aPM⟩: ∃y_:List (kG),y_=(jZ++[(⟨(bD vW lW).f0,(bD vW lW).f1⟩:kG)]):=⟨_,rfl⟩
       rw [←aPM] at H
       have a7a:=am aPM;clear aPM
       have H' :=am H
       clear H;obtain⟨bQC,a9p,a0i⟩:=Kd.bS xS.out;subst a0i
       obtain⟨aDK,aZ2,aT3,aT4⟩:=pR (Kd.aM xS.out).2.2 lW dt dt;cases aZ2;have bJ4:=e0 lW;have bKP:=e1 lW (vW.length:Int)
       have aGH:0≤(0:Int):=(by omega)
       have aGK:0<(vW.length:Int):=dt
       obtain⟨aMq,aZ3,GD,GH⟩:=pR (Kd.aM xS.out).2.2 0 aGH aGK
       obtain rfl:aDK=aMq:=(by injection aZ3)
       have bBn:(0<vW.length)=True:=eq_true (by omega)
       rw [show((0:Int)).toNat=0 from rfl] at GD
       rw [show 0*2=0 from rfl] at GD
       rw [Addr.add_zero'] at GD
       rw [show((0:Int)).toNat=0 from rfl] at GH
       rw [show 0*2=0 from rfl] at GH
       rw [Addr.add_zero'] at GH
       replace aGH:=eq_true aGH;replace aGK:=eq_true aGK
       obtain⟨a7W,bHh,bEb,bEc⟩:=pR (Kd.aM xS.out).2.2 lW dt dt
       obtain rfl:aDK=a7W:=(by injection bHh)
       have bSc:=e0 lW;have bSD:=e1 lW (vW.length:Int)
       go_wp2
       repeat(go_quiet (fail);try go_wp2_with ((with_reducible refine gL (b:= .append) (xs:= #[.tmp 46, .tmp 51]) rfl ?_);at_builtin;refine Kd.oI vT (w0:=w) w.heap.size rfl (.tmp 46) (.tmp 51) 29 40 (.agg #[(.string ⟨#[]⟩),(.int .i64 0)]) 24 rfl Tryz.underlying29 xD rfl (by decide) (by omega) u5 jZ (⟨(bD vW lW).f0,(bD vW lW).f1⟩:kG) [.string ((bD vW lW).f0), .int .i64 ((bD vW lW).f1)] (fun k_=>some k_≠(.slice (some aDK) vW.length a9p:Value).ownBlock) (fun _=>False) rfl rfl ?aP (fun _ hk=>hk.elim) ?aF ?aO ?aB ?aS ?aL ?_;(case aP=>exact D7 _ _ _ (⟨(bD vW lW).f0,(bD vW lW).f1⟩:kG));(case aB=>exact(cK tT.out));(case aF=>exact(fun k_ hk=>Kd.nL (Kd.pJ (rq xS.out)) k_ hk));(case aO=>exact(rq bY.out));(case aS=>exact(aH (cK tT.out)));(case aL=>have:=a5G.out;omega);intro bTS w35 ho hb hg hat;rw [←a7a.out] at ho;replace xS:=am (Kd.oO (ok:=(fun _=>True)) (rq (Kd.bA xS.out (fun _ hk=>⟨trivial,hk⟩))) hg hat);replace nR:=am (gK (g:=O0) (o:= .cells #[.slice mH fI.length mI, .slice nQ bV.length lH] 26 (0,0)) (bq nR.out) hg (Kd.zO bY.out nR.out (by decide)));replace HB:=am (hb);have a5c:=am (ho);clear bY;clear ho hb hg hat))
       go_roundg k2
       case measure=>have:=HJ2.out;have:=uP.out;omega
       case rel=>exact⟨(bMh),(wrap64 (lW+1)),sq,H',⟨by have:=HJ2.out;have:=uP.out;omega⟩,⟨rq a5c.out⟩,⟨rq (Kd.bA xS.out (fun _ hk=>hk.2))⟩,⟨bq nR.out⟩,⟨cK tT.out⟩⟩
      rw [if_neg c32] at H
      have OM:(((bD vW lW).f1)==((bD vW 0).f1))=false:=beq_eq_false_iff_ne.mpr c32
      have aXn:(((bD vW lW).f1) !=((bD vW 0).f1))=true:=bne_iff_ne.mpr c32
      obtain rfl:=si H;obtain⟨bQD,bRo,bHE⟩:=Kd.bS xS.out;subst bHE
      obtain⟨aDK,aZ2,aT3,aT4⟩:=pR (Kd.aM xS.out).2.2 lW dt dt;cases aZ2;have bJ4:=e0 lW;have bKP:=e1 lW (vW.length:Int)
      have aGH:0≤(0:Int):=(by omega)
      have aGK:0<(vW.length:Int):=dt
      obtain⟨aMq,aZ3,GD,GH⟩:=pR (Kd.aM xS.out).2.2 0 aGH aGK
      obtain rfl:aDK=aMq:=(by injection aZ3)
      have bBn:(0<vW.length)=True:=eq_true (by omega)
      rw [show((0:Int)).toNat=0 from rfl] at GD
      rw [show 0*2=0 from rfl] at GD
      rw [Addr.add_zero'] at GD
      rw [show((0:Int)).toNat=0 from rfl] at GH
      rw [show 0*2=0 from rfl] at GH
      rw [Addr.add_zero'] at GH
      replace aGH:=eq_true aGH;replace aGK:=eq_true aGK;go_wp2
      repeat(go_quiet (fail);try go_wp2)
      go_ret
      exact⟨_,nD,aSu,cK tT.out⟩
     obtain rfl:=si H;obtain⟨a3z,a9q,aNI⟩:=Kd.bS xS.out;subst aNI;go_wp2
     repeat(go_quiet (fail);try go_wp2)
     go_ret
     exact⟨_,nD,aSu,cK tT.out⟩
def iI.l0:Nat→List ByteArray→Int→List ByteArray→Int→Int→Option (Bool)
 |0,_,_,_,_,_=>none
 |k+1,x0,x1,x7,x8,x9=>if x9<x8 then(if 0≤x9 then(if x9<(x7.length:Int)then((eD.f k (bP ByteArray.empty x7 x9)).bind fun bCb=>(if bCb=true then(if x9>0 then(if 0≤(wrap64 (x9-1))then(if(wrap64 (x9-1))<(x0.length:Int)then(if((Op.bytesLess ((bP ByteArray.empty x0 (wrap64 (x9-1))).toList) ((bP ByteArray.empty x7 x9).toList))=true)then(iI.l0 k x0 x1 x7 x8 (wrap64 (x9+1)))else(some false))else(none))else(none))else(iI.l0 k x0 x1 x7 x8 (wrap64 (x9+1))))else(some false)))else(none))else(none))else(some (decide ((x0.length:Int)≤x1)))
def iI.f (k:Nat) (l0:List ByteArray) (a1:Int):Option (Bool):=iI.l0 k l0 a1 l0 (l0.length:Int) 0
theorem iI.calls (k:Nat) (A0:Option Addr) (c0:Nat) (l0:List ByteArray) (a1:Int) (r:Bool) (w:World) (hr0:Kd.C Kd.string w A0 l0.length l0) (hc0:l0.length≤c0) (h:iI.f k l0 a1=some r):
  Calls Tryz.prog 30 #[.slice A0 l0.length c0, .int .i64 a1] w fun e w' =>e= .returned (.bool r)∧iB w w' :=by
 have lX:=am hr0;have vX:=am hc0;clear hr0 hc0
 have H:=h;unfold iI.f at H
 clear h
 have H' :=am H
 clear H;go_enter Tryz.func30,Tryz.ntmps30;go_wp2
 go_loopg [9] k (fun kq v9 w' => ∃(iO:Int),v9= .int .i64 iO∧aC (iI.l0 kq l0 a1 l0 (l0.length:Int) iO=some r)∧aC (kq≤k)∧iB w w')
 case atStart=>exact⟨(0),sq,H',⟨Nat.le_refl _⟩,dr⟩
 case round=>
  clear H';obtain⟨iO,rfl,HA,lM,⟨m1,rfl⟩⟩:=hrel
  cases gk with
  |zero=>exact absurd HA.out (by simp [iI.l0])
  |succ k1=>
   have H:=HA.out;clear HA;simp only [iI.l0] at H
   replace H:=iv H;rcases H with ⟨oG,H⟩|⟨oG,H⟩
   ·replace H:=it H;obtain⟨qZ,H⟩:=H
    replace H:=it H;obtain⟨oL,H⟩:=H;replace H:=ba H;obtain⟨bCb,A6,H⟩:=H
    replace H:=ib H;rcases H with ⟨rfl,H⟩|⟨rfl,H⟩
    ·by_cases c8:iO>0
     ·rw [if_pos c8] at H;have tK:=decide_eq_true c8;clear c8;obtain⟨ji9,aKK⟩: ∃j_:Int,(wrap64 (iO-1))=j_:=⟨_,rfl⟩
      rw [aKK] at H
      have bAl:(IntKind.i64.wrap (iO-1))=ji9:=(iZ _).trans aKK
      replace H:=it H;obtain⟨BV,H⟩:=H;replace H:=it H;obtain⟨zG,H⟩:=H
      by_cases c12:((Op.bytesLess ((bP ByteArray.empty l0 (ji9)).toList) ((bP ByteArray.empty l0 iO).toList))=true)
      ·rw [if_pos c12] at H
       have xN:(Op.bytesLess ((bP ByteArray.empty l0 (ji9)).toList) ((bP ByteArray.empty l0 iO).toList))=true:=c12
       clear c12
       have H' :=am H
       clear H
       obtain⟨aDL,aFN,aCI,a2s,a2B⟩:=CY lX.out iO;cases aFN
       go_wp2_with (refine gd 15 ?_;refine gv Tryz.func21 (eD.calls k1 (bP ByteArray.empty l0 iO) true _ A6.out) ?_;rintro w' ⟨nd,rfl⟩;obtain⟨aMr,aZ4,aT5,bJ5,bKQ⟩:=CY lX.out (ji9);obtain rfl:aDL=aMr:=(by injection aZ4))
       go_roundg k1
       case measure=>have:=lM.out;omega
       case rel=>exact⟨(wrap64 (iO+1)),sq,H',⟨rO⟩,dr⟩
      rw [if_neg c12] at H
      have xN:(Op.bytesLess ((bP ByteArray.empty l0 (ji9)).toList) ((bP ByteArray.empty l0 iO).toList))=false:=by simpa using c12
      clear c12;obtain rfl:=si H
      obtain⟨aDL,aFN,aCI,a2s,a2B⟩:=CY lX.out iO;cases aFN
      go_wp2_with (refine gd 15 ?_;refine gv Tryz.func21 (eD.calls k1 (bP ByteArray.empty l0 iO) true _ A6.out) ?_;rintro w' ⟨nd,rfl⟩;obtain⟨aMr,aZ4,aT5,bJ5,bKQ⟩:=CY lX.out (ji9);obtain rfl:aDL=aMr:=(by injection aZ4))
      go_ret
      exact⟨by rfl,dr⟩
     rw [if_neg c8] at H;have tK:=decide_eq_false c8;clear c8
     have H' :=am H
     clear H
     obtain⟨aDL,aFN,aCI,a2s,a2B⟩:=CY lX.out iO;cases aFN
     go_wp2_with (refine gd 15 ?_;refine gv Tryz.func21 (eD.calls k1 (bP ByteArray.empty l0 iO) true _ A6.out) ?_;rintro w' ⟨nd,rfl⟩)
     go_roundg k1
     case measure=>have:=lM.out;omega
     case rel=>exact⟨(wrap64 (iO+1)),sq,H',⟨rO⟩,dr⟩
    obtain rfl:=si H
    obtain⟨aDL,aFN,aCI,a2s,a2B⟩:=CY lX.out iO;cases aFN
    go_wp2_with (refine gd 15 ?_;refine gv Tryz.func21 (eD.calls k1 (bP ByteArray.empty l0 iO) false _ A6.out) ?_;rintro w' ⟨nd,rfl⟩)
    go_ret
    exact⟨sq,dr⟩
   obtain rfl:=si H;go_wp2;go_ret
   exact⟨sq,dr⟩
end Go.Proofs.YtpljfjbhlboffaaGreat.eH

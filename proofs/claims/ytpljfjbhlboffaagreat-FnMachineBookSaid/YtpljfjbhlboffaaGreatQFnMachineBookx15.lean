import Derived.Test.YtpljfjbhlboffaaGreatQFnMachineBookx10
namespace Go.Proofs.YtpljfjbhlboffaaGreat.eH
open Go.RowKit Go.Proofs.YtpljfjbhlboffaaGreatW.bJ Go.Proofs.YtpljfjbhlboffaaGreatW.gI Go.Proofs.YtpljfjbhlboffaaGreatW.jC Go.Proofs.YtpljfjbhlboffaaGreat.Sh
attribute [local go_sem] rD rF uY uZ pE pF rE rG
set_option linter.unusedVariables false
set_option linter.unusedSimpArgs false
set_option maxHeartbeats 8000000
set_option maxRecDepth 100000
def jO.f (k:Nat) (l0:List (kH)) (fP:ByteArray) (fZ:ByteArray):Option (List ByteArray):=(dH.f k l0 fZ false (([fP]:List ByteArray))).bind fun aRe=>((dH.f k l0 fZ true aRe).bind fun a2R=>(some a2R))
def jO.T1:Bool×List (List Nat×List Nat):=(true,[([],[]),([],[]),([1],[1]),([],[]),([],[]),([4],[4]),([],[]),([6],[6]),([7],[7]),([3,5,8],[3,5,8]),([0,2,9,9],[0,2,9]),([10,10,0,1,2,3,4,5,6,7,8,9,10],[10])])
def jO.B1:List Nat:=[0,0,2,0,0,16,0,64,192,504,1023,2047]
theorem jO.a3k:nX .any (opsOf Tryz.f64 1)=jO.T1:=by kernel_rfl
theorem jO.aM3:jA jO.T1.2 jO.B1=true:=by kernel_rfl
theorem jO.calls (k:Nat) (A0:Option Addr) (c0:Nat) (l0:List (kH)) (fP:ByteArray) (fZ:ByteArray) (r:List ByteArray) (w:World) (hr0:Kd.C yG w A0 l0.length l0) (hc0:l0.length≤c0) (h:jO.f k l0 fP fZ=some r):
  Calls Tryz.prog 64 #[.slice A0 l0.length c0, .agg #[.string fP, .string fZ]] w fun e w' => ∃sQ:Value,e= .returned (sQ)∧Kd.V Kd.string 9 w' w.heap.size (fun k_=>(w.heap.size≤k_)) sQ r∧Below w.heap.size w w' :=by
 have aCt:=Tryz.underlying56;have lX:=am hr0;have vX:=am hc0;clear hr0 hc0;have HB:=am (Below.refl w.heap.size w)
 have H:=h;unfold jO.f at H
 clear h;obtain⟨aVN,aO1⟩: ∃y_:List ByteArray,y_=(([fP]:List ByteArray)):=⟨_,rfl⟩
 rw [←aO1] at H
 have a6n:=am aO1;clear aO1;replace H:=ba H;obtain⟨aRe,A3,H⟩:=H;replace H:=ba H;obtain⟨a2R,A4,H⟩:=H;obtain rfl:=si H;go_enter Tryz.func64,Tryz.ntmps64
 try go_wp2_with (refine gd 3 ?_;refine bx 3 (cs:= #[.string fP, .string fZ]) (t:=56) ?_;intro UJ hg w5 bT hb;have wU:=am (bT);have bMy:=am ((kI:w.heap.size≤UJ));have LX:=am ((kI:w.heap.size≤UJ));replace HB:=o8 hb;clear hb bT hg)
 replace wU:=am (bF wU.out);replace HB:=am (bH HB.out)
 refine st (n:=12) (S:=fun w' =>w'.cell? ⟨UJ,0,none⟩=some (.string fP)∧w'.cell? ⟨UJ,1,none⟩=some (.string fZ)) (ds:=[]) ⟨bd wU.out 0,bd wU.out 1⟩ (fun hHeld=>?_);refine dW jO.a3k jO.aM3 (fun kQ rT=>?_)
 generalize w5.drew=w6 at wU HB hHeld⊢
 refine pu 0 5 ?_
 refine pu 1 6 ?_
 refine pu 3 8 ?_
 refine pu 4 9 ?_
 refine pu 6 11 ?_
 refine V9 2 7 hHeld ?_
 refine V9 5 10 hHeld ?_
 refine V9 7 12 hHeld ?_
 refine qF 8 13 (fun K hK=>?_)
 refine Kd.kM Kd.string _ 9 ?hg (N:=13) ?hd (xs:=([fP]:List ByteArray)) (inner:=[.string fP]) (ok:=fun _=>True) (mK:=fun _=>True) ?hr ?hp (fun _ hk=>hk) trivial (Below.refl _ _) (Nat.le_refl _) (by simp) ?_;(case hd=>rfl);(case hg=>rfl);(case hr=>(go_simp;done));(case hp=>exact(dQ.one (show Kd.M Kd.string _ _ _ fP [.string fP] from rfl) (dQ.none _ _)))
 intro bTf w7 ho8 hb lL dP;clear lL dP
 (rw [←a6n.out] at ho8)
 have NS:=am (Kd.dZ (Kd.yY (M:=fun k_=>(w.heap.size≤k_)) ho8 (aH (cK LX.out)) (fun k_ h_=>h_)) (aH (cK LX.out)));replace wU:=kb wU hb;replace HB:=st1 LX hb;clear hb ho8;obtain⟨Ao9,co9,eo9⟩:=Kd.bS NS.out
 (subst eo9)
 refine hK.out _ _ ⟨bd wU.out 0,bd wU.out 1⟩ (fun hHeld=>?_)
 clear hK K
 refine nm 13 ?_
 refine qF 9 14 (fun K hK=>?_)
 refine EI Tryz.func93 #[.slice A0 l0.length c0, .string fZ, .bool false, .slice Ao9 aVN.length co9] ?_
 with_reducible refine(dH.calls k _ _ l0 fZ false _ _ aVN aRe _ ?dS ?iE ?mU ?FW A3.out).mono ?_
 (case dS=>exact cq (Kd.dV lX.out HB.out));(case iE=>exact vX.out);(case mU=>exact cq (Kd.aM NS.out).2.2);(case FW=>exact(Kd.aM NS.out).2.1)
 rintro e w10 ⟨bTg,rfl,ho0,hb⟩
 refine⟨_,rfl,?_⟩
 have aDA:=am (Kd.nZ (Kd.gJ (ok' :=fun k_=>(w.heap.size≤k_)∧some k_≠(.slice Ao9 aVN.length co9:Value).ownBlock∧k_≠UJ) ho0 (fun k_ rQ=>⟨(Nat.le_trans (aH (cK LX.out)) rQ),(Kd.nL (Kd.pJ (rq NS.out)) k_ rQ),(Kd.pV (g:=UJ) (o:= .cells #[.string fP, .string fZ] 56 (0,0)) (bq wU.out) k_ rQ)⟩)) (aH (cK LX.out)));replace NS:=kr NS hb;replace wU:=kb wU hb;replace HB:=st1 LX hb
 clear hb
 clear ho0
 obtain⟨aYz,aZG,a0d⟩:=Kd.nC aDA.out
 (subst a0d)
 refine hK.out _ _ ⟨bd wU.out 0,bd wU.out 1⟩ (fun hHeld=>?_)
 clear hK K
 refine nm 14 ?_
 refine qF 10 15 (fun K hK=>?_)
 refine EI Tryz.func93 #[.slice A0 l0.length c0, .string fZ, .bool true, .slice aYz aRe.length aZG] ?_
 with_reducible refine(dH.calls k _ _ l0 fZ true _ _ aRe a2R _ ?dS ?iE ?mU ?FW A4.out).mono ?_
 (case dS=>exact cq (Kd.dV lX.out HB.out));(case iE=>exact vX.out);(case mU=>exact cq (Kd.mE aDA.out).2.2);(case FW=>exact(Kd.mE aDA.out).2.1)
 rintro e w12 ⟨bTh,rfl,ho0,hb⟩
 refine⟨_,rfl,?_⟩
 replace aDA:=am (Kd.qB (vq aDA.out) hb);have a4B:=am (Kd.nZ (Kd.gJ (ok' :=fun k_=>(w.heap.size≤k_)∧some k_≠(.slice Ao9 aVN.length co9:Value).ownBlock∧k_≠UJ) ho0 (fun k_ rQ=>⟨(Nat.le_trans (aH (cK LX.out)) rQ),(Kd.nL (Kd.pJ (rq NS.out)) k_ rQ),(Kd.pV (g:=UJ) (o:= .cells #[.string fP, .string fZ] 56 (0,0)) (bq wU.out) k_ rQ)⟩)) (aH (cK LX.out)));replace NS:=kr NS hb;replace wU:=kb wU hb;replace HB:=st1 LX hb
 clear hb
 clear ho0
 refine hK.out _ _ ⟨bd wU.out 0,bd wU.out 1⟩ (fun hHeld=>?_)
 clear hK K
 refine nm 15 ?_
 refine pu 11 4 ?_
 refine kD (fQ kQ.out (by kernel_rfl)) ?_
 try go_wp2
 go_ret
 exact⟨_,nD,by(with_reducible repeat(fail));exact Kd.gJ a4B.out (fun _ hk=>hk.1),cK LX.out⟩
mutual
def dM.l0:Nat→List ByteArray→Int→List (kH)→List (sV)→Option (List ByteArray)
 |0,_,_,_,_=>none
 |k+1,x3,x4,RV,GZ=>if x4<(GZ.length:Int)then(if 0≤x4 then((jO.f k RV ((aX GZ x4).f0) ((aX GZ x4).f1)).bind fun aLi=>(dM.l1 k x3 x4 aLi 0 RV GZ))else(none))else(some x3)
def dM.l1:Nat→List ByteArray→Int→List ByteArray→Int→List (kH)→List (sV)→Option (List ByteArray)
 |0,_,_,_,_,_,_=>none
 |k+1,x3,x4,x5,x6,RV,GZ=>if x6<(x5.length:Int)then(if 0≤x6 then((dL.f k x3 (bP ByteArray.empty x5 x6)).bind fun aVa=>(dM.l1 k aVa x4 x5 (wrap64 (x6+1)) RV GZ))else(none))else(dM.l0 k x3 (wrap64 (x4+1)) RV GZ)
end
def dM.f (k:Nat) (fI:List (kH)) (bV:List (sV)):Option (List ByteArray):=dM.l0 k (([]:List ByteArray)) 0 fI bV
def dM.T5:Bool×List (List Nat×List Nat):=(true,[([],[]),([0],[0]),([],[]),([2],[2]),([],[]),([3,4],[3,4]),([5],[5]),([1,6],[1,6]),([7,7,0,1,2,3,4,5,6,7],[7])])
def dM.B5:List Nat:=[0,1,0,4,0,28,60,127,255]
theorem dM.aVu:nX .any (opsOf Tryz.f26 5)=dM.T5:=by kernel_rfl
theorem dM.aHQ:jA dM.T5.2 dM.B5=true:=by kernel_rfl
theorem dM.calls (k:Nat) (mH:Option Addr) (mI:Nat) (fI:List (kH)) (nQ:Option Addr) (lH:Nat) (bV:List (sV)) (r:List ByteArray) (w:World) (uI:Kd.C yG w mH fI.length fI) (uH:fI.length≤mI) (rW:Kd.C NK w nQ bV.length bV) (rV:bV.length≤lH) (h:dM.f k fI bV=some r):
  Calls Tryz.prog 26 #[.agg #[.slice mH fI.length mI, .slice nQ bV.length lH]] w fun e w' => ∃sQ:Value,e= .returned (sQ)∧Kd.V Kd.string 9 w' w.heap.size (fun k_=>(w.heap.size≤k_)) sQ r∧Below w.heap.size w w' :=by
 have U7:=Tryz.underlying26;have aCt:=Tryz.underlying56;have p9:=am uI;have pY:=am uH;clear uI uH;have nE:=am rW;have sN:=am rV;clear rW rV;have HB:=am (Below.refl w.heap.size w)
 have H:=h;unfold dM.f at H
 clear h;obtain⟨bLZ,aO2⟩: ∃y_:List ByteArray,y_=(([]:List ByteArray)):=⟨_,rfl⟩
 rw [←aO2] at H
 have a6o:=am aO2;clear aO2
 have H' :=am H
 clear H;go_enter Tryz.func26,Tryz.ntmps26
 go_wp2_with (first|(refine gd 1 ?_;refine bx 1 (cs:= #[.slice mH fI.length mI, .slice nQ bV.length lH]) (t:=26) ?_;intro DY hg w2 bT hb;have tC:=am (bT);have bMz:=am ((kI:w.heap.size≤DY));have DI:=am ((kI:w.heap.size≤DY));replace HB:=o8 hb;clear hb bT hg)|(refine gd 7 ?_;refine Kd.mJ Kd.string _ 9 ?hg (N:=7) ?hd (xs:=([]:List ByteArray)) (inner:=[]) (ok:=fun _=>True) (mK:=fun _=>True) ?hr ?hp (fun _ hk=>hk) trivial (Below.refl _ _) (Nat.le_refl _) (by simp) ?_;(case hd=>rfl);(case hg=>rfl);(case hr=>(go_simp;done));(case hp=>exact(dQ.none _ _));intro bTi w3 ho4 hb lL dP;clear lL dP;(rw [←a6o.out] at ho4);have a4C:=am (Kd.dZ (Kd.yY (M:=fun k_=>(w.heap.size≤k_)) ho4 (aH (cK DI.out)) (fun k_ h_=>h_)) (aH (cK DI.out)));replace tC:=kb tC hb;replace HB:=st1 DI hb;clear hb ho4))
 go_loopg [3,4] k (fun kq v3 v4 w' => ∃(bL:List ByteArray) (aV:Int),v4= .int .i64 aV∧aC (dM.l0 kq bL aV fI bV=some r)∧aC (kq≤k)∧aC (Kd.V Kd.string 9 w' w.heap.size (fun k_=>(w.heap.size≤k_)∧k_≠DY) v3 bL)∧aC (w'.heap[DY]?=some (.cells #[(.slice mH fI.length mI),(.slice nQ bV.length lH)] 26 (0,0)))∧aC (Below w.heap.size w w'))
 case atStart=>exact⟨(bLZ),(0),sq,H',⟨Nat.le_refl _⟩,⟨Kd.R_V (rq (Kd.bA (Kd.eQ a4C.out tC.out (by decide)) (fun _ hk=>⟨hk.1.1,hk.2⟩)))⟩,⟨bq tC.out⟩,⟨cK DI.out⟩⟩
 case round=>
  clear H';obtain⟨bL,aV,rfl,HA,lM,dN,tC,HB⟩:=hrel
  cases gk with
  |zero=>exact absurd HA.out (by simp [dM.l0])
  |succ k1=>
   have H:=HA.out;clear HA;simp only [dM.l0] at H
   replace H:=iv H;rcases H with ⟨oL,H⟩|⟨oL,H⟩
   ·replace H:=it H;obtain⟨sW,H⟩:=H;replace H:=ba H;obtain⟨aLi,A7,H⟩:=H
    have H' :=am H
    clear H;have⟨a1e,a1f,a1s,a1t⟩:=oP tC.out
    try go_wp2
    replace dN:=am (Kd.xX dN.out);replace tC:=am (bF tC.out);replace HB:=am (bH HB.out)
    obtain⟨XK,bGK,QM,QN⟩:=vH nE.out aV dt dt;have aI3:=QN;have aI2:=QM;cases bGK;replace QM:=kp HB.out QM;replace QN:=kp HB.out QN;have bJK:=e0 aV;have bKt:=e1 aV (bV.length:Int)
    refine st (n:=9) (S:=fun w' =>w'.cell? ⟨DY,0,none⟩=some (.slice mH fI.length mI)∧w'.cell? ⟨DY,1,none⟩=some (.slice (some XK) bV.length lH)∧w'.cell? (XK.add ((aV).toNat*2))=some (.string ((aX bV aV).f0))∧w'.cell? ⟨(XK.add ((aV).toNat*2)).block,(XK.add ((aV).toNat*2)).off+1,none⟩=some (.string ((aX bV aV).f1))) (ds:=[]) ⟨bd tC.out 0,bd tC.out 1,(kp HB.out aI2),(kp HB.out aI3)⟩ (fun hHeld=>?_);refine dW dM.aVu dM.aHQ (fun kQ rT=>?_)
    generalize wr.drew=w9 at dN tC HB QM QN hHeld⊢;refine pu 0 15 ?_;refine pu 2 17 ?_;refine pu 4 19 ?_;refine VG 1 16 hHeld ?_;refine VG 3 18 hHeld ?_;refine pu 5 20 ?_;refine VG 6 21 hHeld ?_;refine qF 7 22 (fun K hK=>?_)
    refine EI Tryz.func64 #[.slice mH fI.length mI, .agg #[.string ((aX bV aV).f0), .string ((aX bV aV).f1)]] ?_
    with_reducible refine(jO.calls k1 _ _ fI ((aX bV aV).f0) ((aX bV aV).f1) aLi _ ?dS ?iE A7.out).mono ?_
    (case dS=>exact cq (Kd.dV p9.out HB.out));(case iE=>exact pY.out)
    rintro e w10 ⟨bLo,rfl,ho0,hb⟩;refine⟨_,rfl,?_⟩
    replace dN:=am (Kd.qB (vq dN.out) hb);have a4D:=am (Kd.nZ (Kd.gJ (ok' :=fun k_=>(w.heap.size≤k_)∧k_≠DY) ho0 (fun k_ rQ=>⟨(Nat.le_trans (aH (cK DI.out)) rQ),(Kd.pV (g:=DY) (o:= .cells #[.slice mH fI.length mI, .slice (some XK) bV.length lH] 26 (0,0)) (bq tC.out) k_ rQ)⟩)) (aH (cK DI.out)));replace tC:=kb tC hb;replace HB:=st1 DI hb
    clear hb ho0;refine hK.out _ _ ⟨bd tC.out 0,bd tC.out 1,(kp HB.out aI2),(kp HB.out aI3)⟩ (fun hHeld=>?_);clear hK K;refine nm 22 ?_;refine pu 8 5 ?_
    refine kD (fQ kQ.out (by kernel_rfl)) ?_
    try go_wp2
    go_loopg [3,6] k1 (fun kq v3 v6 w' => ∃(LF:List ByteArray) (EP:Int),v6= .int .i64 EP∧aC (dM.l1 kq LF aV aLi EP fI bV=some r)∧aC (kq≤k1)∧aC (Kd.V Kd.string 9 w' w.heap.size (fun k_=>(w.heap.size≤k_)∧k_≠DY) v3 LF)∧aC (Kd.V Kd.string 9 w' w.heap.size (fun k_=>(w.heap.size≤k_)∧k_≠DY) bLo aLi)∧aC (w'.heap[DY]?=some (.cells #[(.slice mH fI.length mI),(.slice (some XK) bV.length lH)] 26 (0,0)))∧aC (Below w.heap.size w w'))
    case atStart=>exact⟨(bL),(0),sq,H',⟨Nat.le_refl _⟩,⟨vq dN.out⟩,⟨vq a4D.out⟩,⟨bq tC.out⟩,⟨cK DI.out⟩⟩
    case round=>
     clear H';clear oL sW a1e a1f a1s a1t QM QN bJK bKt;obtain⟨LF,EP,rfl,HA,uP,dN,bY,tC,HB⟩:=hrel
     cases gk with
     |zero=>exact absurd HA.out (by simp [dM.l1])
     |succ k2=>
      have H:=HA.out;clear HA;simp only [dM.l1] at H
      replace H:=iv H;rcases H with ⟨zG,H⟩|⟨zG,H⟩
      ·replace H:=it H;obtain⟨xN,H⟩:=H;replace H:=ba H;obtain⟨aVa,A13,H⟩:=H
       have H' :=am H
       clear H;obtain⟨wT,wY,aBO⟩:=Kd.nC bY.out;subst aBO
       obtain⟨bNe,bGL,bD5,bR3,bSw⟩:=CY (Kd.mE bY.out).2.2 EP;cases bGL;obtain⟨bE6,bGs,a0f⟩:=Kd.nC dN.out;subst a0f
       go_wp2_with (refine gd 34 ?_;refine gx Tryz.func65 (dL.calls k2 (fun k_=>((w.heap.size≤k_)∧k_≠DY)) _ _ LF (bP ByteArray.empty aLi EP) aVa _ dN.out A13.out) ?_;rintro bTj w16 ⟨ho0,hb⟩;replace dN:=am (Kd.qB (vq dN.out) hb);replace bY:=am (Kd.qB (vq bY.out) hb);have a4E:=am (Kd.nZ (Kd.gJ (ok' :=fun k_=>(w.heap.size≤k_)∧k_≠DY) ho0 (fun k_ rQ=>⟨Or.elim rQ (fun hs_=>hs_.1) (fun EK=>(Nat.le_trans (aH (cK DI.out)) EK)),Or.elim rQ (fun hs_=>hs_.2) (fun EK=>(Kd.pV (g:=DY) (o:= .cells #[.slice mH fI.length mI, .slice (some XK) bV.length lH] 26 (0,0)) (bq tC.out) k_ EK))⟩)) (aH (cK DI.out)));replace tC:=kb tC hb;replace HB:=st1 DI hb;clear hb;clear ho0)
       go_roundg k2
       case measure=>have:=lM.out;have:=uP.out;omega
       case rel=>exact⟨(aVa),(wrap64 (EP+1)),sq,H',⟨OH⟩,⟨vq a4E.out⟩,⟨vq bY.out⟩,⟨bq tC.out⟩,⟨cK DI.out⟩⟩
      have H' :=am H
      clear H;obtain⟨aLx,aNs,aFS⟩:=Kd.nC bY.out;subst aFS;go_wp2
      go_roundg k2
      case measure=>have:=lM.out;have:=uP.out;omega
      case rel=>exact⟨(LF),(wrap64 (aV+1)),sq,H',⟨OH⟩,⟨vq dN.out⟩,⟨bq tC.out⟩,⟨cK DI.out⟩⟩
   obtain rfl:=si H;have⟨_,_,_,_⟩:=oP tC.out;go_wp2;go_ret
   exact⟨_,nD,by(with_reducible repeat(fail));exact Kd.gJ dN.out (fun _ hk=>hk.1),cK DI.out⟩
def kY.j0:Nat→Bool→List Int→Int→List (kH)→List (sV)→Option (ByteArray×Int)
 |0,_,_,_,_,_=>none
 |k+1,x12,x1000,lC,aVC,aVD=>if x12=true then((dM.f k aVC aVD).bind fun ZA=>(if(ZA.length:Int)>0 then((aQ.f k x1000 lC (ZA.length:Int)).bind fun aHX=>(if 0≤aHX.1 then(if aHX.1<(ZA.length:Int)then(some (bP ByteArray.empty ZA aHX.1,aHX.2))else(none))else(none)))else((iQ.f k x1000 lC).bind fun aW8=>(some (aW8.1,aW8.2)))))else((iQ.f k x1000 lC).bind fun aW9=>(some (aW9.1,aW9.2)))
def kY.f (k:Nat) (dG:List Int) (iX:Int) (IL:List (kH)) (IM:List (sV)):Option (ByteArray×Int):=(dX.f k IL IM).bind fun bBI=>(if bBI=true then((aQ.f k dG iX 2).bind fun aW7=>(kY.j0 k (aW7.1==0) dG aW7.2 IL IM))else(kY.j0 k false dG iX IL IM))
theorem kY.calls (k:Nat) (g:Nat) (dG:List Int) (iX:Int) (aJ6:Option Addr) (aKo:Nat) (IL:List (kH)) (aJ7:Option Addr) (aKp:Nat) (IM:List (sV)) (r1:ByteArray) (r2:Int) (w0 w:World) (hI:aI w0 w g dG iX) (hB:Below w0.heap.size w0 w) (aYn: ∀W_,aZ w W_ g none→Kd.C yG W_ aJ6 IL.length IL) (aXG:IL.length≤aKo) (aYo: ∀W_,aZ w W_ g none→Kd.C NK W_ aJ7 IM.length IM) (aXH:IM.length≤aKp) (h:kY.f k dG iX IL IM=some (r1,r2)):
  Calls Tryz.prog 19 #[.pointer (some ⟨g,0,none⟩), .agg #[.slice aJ6 IL.length aKo, .slice aJ7 IM.length aKp]] w fun e w' =>e= .returned (.string r1)∧aI w0 w' g dG r2∧Below w0.heap.size w0 w' ∧aZ w w' g none:=by
 have U7:=Tryz.underlying26;have aHr:=am aYn;have aHh:=am aXG;clear aYn aXG;have aHs:=am aYo;have aHi:=am aXH;clear aYo aXH;have HI0:=am hI;have HK:=am (aZ.refl w g none);have HL:=am hB.size;clear hI;have HW0:=am hB.size;have HB:=am hB;clear hB
 have H:=h;unfold kY.f at H
 clear h;have FZ:=am H;clear H;go_enter Tryz.func19,Tryz.ntmps19
 go_upto_region 1 with (refine gd 3 ?_;refine bx 3 (cs:= #[.slice aJ6 IL.length aKo, .slice aJ7 IM.length aKp]) (t:=26) ?_;intro IC hg w4 bT hb;replace HB:=am (aY FB hb);have sM:=am (bT);have a3Y:=am ((NJ:w.heap.size≤IC));have a3R:=am ((Nat.le_trans HW0.out (NJ:w.heap.size≤IC):w0.heap.size≤IC));replace HK:=kt g uO hb;have NV:=am ((OD:g≠IC));have DN:=am ((OE:IC≠g));replace HI0:=am (aI.below DV hb);clear hb bT hg)
 go_cut [12] (fun v12 wc=> ∃(kq:Nat) (ZK:Bool) (vB:Int),v12= .bool ZK∧aC (kY.j0 kq ZK dG vB IL IM=some (r1,r2))∧aC (kq≤k)∧aC (wc.heap[IC]?=some (.cells #[(.slice aJ6 IL.length aKo),(.slice aJ7 IM.length aKp)] 26 (0,0)))∧aC (aI w0 wc g dG vB)∧aC (aZ w wc g none)∧aC (Below w0.heap.size w0 wc))
 case first=>
  have H:=FZ.out;clear FZ;replace H:=ba H;obtain⟨bBI,A5,H⟩:=H
  replace H:=ib H;rcases H with ⟨rfl,H⟩|⟨rfl,H⟩
  ·replace H:=ba H;obtain⟨⟨bBJ,bBK⟩,A7,H⟩:=H;dsimp only at H
   have H' :=am H
   clear H;have bI6:=DN.out;have bI7:=NV.out;have⟨_,_,_,_⟩:=oP sM.out
   go_wp2_with (first|(refine gd 7 ?_;refine gv Tryz.func8 (dX.calls k _ _ IL _ _ IM true _ (Kd.tQ aHr.out BU) aHh.out (Kd.tQ aHs.out BU) aHi.out A5.out) ?_;intro w10 hb;replace sM:=kb sM hb;replace HK:=kt g BU hb;replace HB:=am (aY aBE hb);replace HI0:=am (aI.below XT hb);clear hb)|(go_at_call 48;(with_reducible refine(aQ.calls k g dG iX 2 bBJ bBK w0 _ HI0.out HB.out A7.out).mono ?_);rintro e w11 ⟨rfl,hi,hb,hk⟩;replace sM:=kk hk sM DN;replace HK:=ku BU hk;replace HB:=am (hb);replace HI0:=am (hi);clear hb hk hi))
   go_meet
   case rel=>exact⟨_,((bBJ==0)),(bBK),sq,H',⟨xI⟩,⟨bq sM.out⟩,⟨XT⟩,⟨BU⟩,⟨aBE⟩⟩
  have H' :=am H
  clear H;have aOp:=DN.out;have aOr:=NV.out;have⟨_,_,_,_⟩:=oP sM.out
  go_wp2_with (refine gd 7 ?_;refine gv Tryz.func8 (dX.calls k _ _ IL _ _ IM false _ (Kd.tQ aHr.out BU) aHh.out (Kd.tQ aHs.out BU) aHi.out A5.out) ?_;intro w14 hb;replace sM:=kb sM hb;replace HK:=kt g BU hb;replace HB:=am (aY aBE hb);replace HI0:=am (aI.below XT hb);clear hb)
  go_meet
  case rel=>exact⟨_,(false),(iX),sq,H',⟨xI⟩,⟨bq sM.out⟩,⟨XT⟩,⟨BU⟩,⟨aBE⟩⟩
 case rest=>
  clear FZ;obtain⟨kq,ZK,vB,rfl,HA,HJ2,sM,HI0,HK,HB⟩:=hcut
  cases kq with
  |zero=>exact absurd HA.out (by simp [kY.j0])
  |succ D8=>
   have H:=HA.out;clear HA;simp only [kY.j0] at H
   replace H:=ib H;rcases H with ⟨rfl,H⟩|⟨rfl,H⟩
   ·replace H:=ba H;obtain⟨ZA,A16,H⟩:=H
    by_cases c17:(ZA.length:Int)>0
    ·rw [if_pos c17] at H;have FE:=decide_eq_true c17
     have XW:decide (0<ZA.length)=true:=decide_eq_true (by omega)
     clear c17;replace H:=ba H;obtain⟨⟨bBL,bLb⟩,A18,H⟩:=H;dsimp only at H;replace H:=it H;obtain⟨H6,H⟩:=H;replace H:=it H;obtain⟨L9,H⟩:=H;simp only [Option.some.injEq,Prod.mk.injEq] at H
     obtain⟨rfl,rfl⟩:=H;have bPb:=DN.out;have bPM:=NV.out;have⟨_,_,_,_⟩:=oP sM.out
     go_wp2_with (first|(refine gd 14 ?_;refine gx Tryz.func26 (dM.calls D8 _ _ IL _ _ IM ZA _ (Kd.tQ aHr.out BU) aHh.out (Kd.tQ aHs.out BU) aHi.out A16.out) ?_;rintro bLp w23 ⟨ho0,hb⟩;have TU:=am (Kd.nZ (Kd.gJ (ok' :=fun k_=>k_≠IC∧k_≠g) ho0 (fun k_ rQ=>⟨(Kd.pV (g:=IC) (o:= .cells #[.slice aJ6 IL.length aKo, .slice aJ7 IM.length aKp] 26 (0,0)) (bq sM.out) k_ rQ),(aI.fresh XT k_ rQ)⟩)) (mX (w:=w) (g:=g) (row:=none) BU));replace sM:=kb sM hb;replace HK:=kt g BU hb;replace HB:=am (aY aBE hb);replace HI0:=am (aI.below XT hb);clear hb;clear ho0;obtain⟨a3w,a9o,aND⟩:=Kd.nC TU.out;subst aND)|(refine gd 22 ?_;refine gv Tryz.func48 (aQ.calls D8 g dG vB (ZA.length:Int) bBL bLb w0 _ HI0.out HB.out A18.out) ?_;rintro w25 ⟨hi,hb,hk⟩;replace sM:=kk hk sM DN;replace TU:=am (Kd.gJ (Kd.SF (Kd.gJ (ok:=fun k_=>(k_≠IC∧k_≠g)) (vq TU.out) (fun k_ rQ=>(⟨rQ,rQ.2⟩:_∧k_≠g))) hk (fun _ h=>h.2)) (fun _ h=>h.1));replace HK:=ku BU hk;replace HB:=am (hb);replace HI0:=am (hi);clear hb hk hi;obtain⟨bNf,bGM,bD6,bR4,bSx⟩:=CY (Kd.mE TU.out).2.2 bBL;cases bGM))
     go_ret
     exact⟨nD,XT,aBE,BU⟩
    rw [if_neg c17] at H;have FE:=decide_eq_false c17
    have XW:decide (0<ZA.length)=false:=decide_eq_false (by omega)
    clear c17;replace H:=ba H;obtain⟨⟨bLc,bLd⟩,A26,H⟩:=H;dsimp only at H;simp only [Option.some.injEq,Prod.mk.injEq] at H
    obtain⟨rfl,rfl⟩:=H;have bPg:=DN.out;have bPR:=NV.out;have⟨_,_,_,_⟩:=oP sM.out
    go_wp2_with (first|(refine gd 14 ?_;refine gx Tryz.func26 (dM.calls D8 _ _ IL _ _ IM ZA _ (Kd.tQ aHr.out BU) aHh.out (Kd.tQ aHs.out BU) aHi.out A16.out) ?_;rintro bLp w29 ⟨ho0,hb⟩;have TU:=am (Kd.nZ (Kd.gJ (ok' :=fun k_=>k_≠IC∧k_≠g) ho0 (fun k_ rQ=>⟨(Kd.pV (g:=IC) (o:= .cells #[.slice aJ6 IL.length aKo, .slice aJ7 IM.length aKp] 26 (0,0)) (bq sM.out) k_ rQ),(aI.fresh XT k_ rQ)⟩)) (mX (w:=w) (g:=g) (row:=none) BU));replace sM:=kb sM hb;replace HK:=kt g BU hb;replace HB:=am (aY aBE hb);replace HI0:=am (aI.below XT hb);clear hb;clear ho0;obtain⟨bQA,bRm,bHB⟩:=Kd.nC TU.out;subst bHB)|(refine gd 26 ?_;refine gv Tryz.func50 (iQ.calls D8 g dG vB bLc bLd w0 _ HI0.out HB.out A26.out) ?_;rintro w31 ⟨hi,hb,hk⟩;replace sM:=kk hk sM DN;replace TU:=am (Kd.gJ (Kd.SF (Kd.gJ (ok:=fun k_=>(k_≠IC∧k_≠g)) (vq TU.out) (fun k_ rQ=>(⟨rQ,rQ.2⟩:_∧k_≠g))) hk (fun _ h=>h.2)) (fun _ h=>h.1));replace HK:=ku BU hk;replace HB:=am (hb);replace HI0:=am (hi);clear hb hk hi))
    go_ret
    exact⟨nD,XT,aBE,BU⟩
   replace H:=ba H;obtain⟨⟨bLe,bLf⟩,A32,H⟩:=H;dsimp only at H;simp only [Option.some.injEq,Prod.mk.injEq] at H;obtain⟨rfl,rfl⟩:=H
   go_wp2_with (refine gd 26 ?_;refine gv Tryz.func50 (iQ.calls D8 g dG vB bLe bLf w0 _ HI0.out HB.out A32.out) ?_;rintro w33 ⟨hi,hb,hk⟩;replace sM:=kk hk sM DN;replace HK:=ku BU hk;replace HB:=am (hb);replace HI0:=am (hi);clear hb hk hi)
   go_ret
   exact⟨nD,XT,aBE,BU⟩
def fE.f (k:Nat) (l0:List Int):Option ((List (kH))×(List (sV))×ByteArray):=(uK.f l0).bind fun aHY=>((bX.f k aHY.1 aHY.2).bind fun aD0=>((kY.f k aHY.1 aD0.2.2 aD0.1 aD0.2.1).bind fun aXa=>((gT.f k aHY.1 aXa.2 aXa.1).bind fun a8B=>(some (aD0.1,aD0.2.1,a8B.1)))))
def fE.T3:Bool×List (List Nat×List Nat):=(true,[([],[]),([],[]),([],[]),([],[]),([2,3],[2,3]),([1,4,4],[1,4]),([0,5,0],[0]),([5,6,0,1,2,3,4,5,6],[5])])
def fE.B3:List Nat:=[0,0,0,0,12,30,63,127]
theorem fE.bLj:nX .any (opsOf Tryz.f4 3)=fE.T3:=by kernel_rfl
theorem fE.a8z:jA fE.T3.2 fE.B3=true:=by kernel_rfl
theorem fE.calls (k:Nat) (A0:Option Addr) (c0:Nat) (l0:List Int) (r1:List (kH)) (r2:List (sV)) (r3:ByteArray) (w:World) (hr0:Kd.C (Kd.int .u8) w A0 l0.length l0) (hc0:l0.length≤c0) (h:fE.f k l0=some (r1,r2,r3)):
  Calls Tryz.prog 4 #[.slice A0 l0.length c0] w fun e w' => ∃sQ v1_:Value,e= .returned (.tuple #[.agg #[sQ,v1_], .string r3])∧Kd.R yG 87 w' w.heap.size (fun _=>True) sQ r1∧Kd.R NK 56 w' w.heap.size (fun _=>True) v1_ r2∧Below w.heap.size w w' :=by
 have U7:=Tryz.underlying26;have lX:=am hr0;have vX:=am hc0;clear hr0 hc0;have HB:=am (Below.refl w.heap.size w)
 have H:=h;unfold fE.f at H
 clear h;replace H:=ba H;obtain⟨⟨aRf,bBM⟩,A2,H⟩:=H;dsimp only at H;replace H:=ba H;obtain⟨⟨EN,GV,a2S⟩,A3,H⟩:=H;dsimp only at H;replace H:=ba H;obtain⟨⟨a2T,bBN⟩,A4,H⟩:=H;dsimp only at H;replace H:=ba H;obtain⟨⟨bLg,bLh⟩,A5,H⟩:=H;dsimp only at H
 simp only [Option.some.injEq,Prod.mk.injEq] at H
 obtain⟨rfl,rfl,rfl⟩:=H;go_enter Tryz.func4,Tryz.ntmps4
 try go_wp2_with (first|(refine gd 2 ?_;refine bx 2 (cs:= #[.slice none 0 0, .slice none 0 0]) (t:=26) ?_;intro xO hg w6 bT hb;have qR:=am (bT);have bMA:=am ((kI:w.heap.size≤xO));have aLF:=am ((kI:w.heap.size≤xO));replace HB:=o8 hb;clear hb bT hg)|(refine gd 7 ?_;refine gx Tryz.func16 (uK.calls _ _ l0 aRf bBM w _ HB.out lX.out vX.out A2.out) ?_;rintro aEw w7 ⟨hi,hb,hb2⟩;replace HB:=am (hb);have sO:=am (hi);have a3p:=am (aI.aQu hi (jD (bq qR.out) hb2) (by decide));have R6:=am (Ne.symm (aI.aQu hi (jD (bq qR.out) hb2) (by decide)));replace qR:=kb qR hb2;clear hb hb2 hi)|(refine gd 9 ?_;refine gm Tryz.func17 (bX.calls k aEw aRf bBM EN GV a2S w _ sO.out HB.out A3.out) ?_;rintro e w8 ⟨bTk,bTl,rfl,ho0,ho1,hi,hb,hk⟩;refine⟨_,rfl,?_⟩;replace qR:=kk hk qR R6;have zA:=am (Kd.dZ ho0 (aH aZq));have zB:=am (Kd.dZ ho1 (aH aZq));replace HB:=am (hb);replace sO:=am (hi);clear hb hk hi;clear ho0 ho1)|(refine gd 5 ?_;refine bx 5 (cs:= #[.slice none 0 0, .slice none 0 0]) (t:=26) ?_;intro rA hg w9 bT hb;replace zA:=kr zA hb;replace zB:=kr zB hb;have wV:=am (bT);have bMB:=am ((a8t:w.heap.size≤rA));have a3S:=am ((a8t:w.heap.size≤rA));replace HB:=am (aY aZq hb);have EY:=am ((by rw [hg];exact Nat.ne_of_lt (jW (g:=xO) (o:= .cells #[.slice none 0 0, .slice none 0 0] 26 (0,0)) (bq qR.out)):xO≠rA));have xU:=am ((by rw [hg];exact Nat.ne_of_gt (jW (g:=xO) (o:= .cells #[.slice none 0 0, .slice none 0 0] 26 (0,0)) (bq qR.out)):rA≠xO));replace qR:=kb qR hb;have aAH:=am ((by rw [hg];exact Nat.ne_of_lt (aI.lt sO.out):aEw≠rA));have R7:=am ((by rw [hg];exact Nat.ne_of_gt (aI.lt sO.out):rA≠aEw));replace sO:=am (aI.below (by repeat(with_reducible exact sO.out)) hb);clear hb bT hg;obtain⟨pG,oU,aFQ⟩:=Kd.bS zA.out;subst aFQ;have bAp:=xU.out;have bAu:=EY.out;have aOp:=R7.out;have aOr:=aAH.out;have⟨_,_,_,_⟩:=oP wV.out;obtain⟨wT,wY,aBO⟩:=Kd.bS zB.out;subst aBO))
 have vK:aC (Kd.R yG 87 ((w9.setCell ⟨rA,0,none⟩ (.slice pG EN.length oU)).setCell ⟨rA,1,none⟩ (.slice wT GV.length wY)) w.heap.size (fun _=>True) (.slice pG EN.length oU) EN):=⟨rq (Kd.bA (Kd.bZ (p:=⟨rA,1,none⟩) (Kd.bZ (p:=⟨rA,0,none⟩) (Kd.eQ zA.out wV.out (by decide)) (fun _ hk=>hk.2) (.slice pG EN.length oU)) (fun _ hk=>hk.2) (.slice wT GV.length wY)) (fun _ hk=>trivial))⟩
 have vL:aC (Kd.R NK 56 ((w9.setCell ⟨rA,0,none⟩ (.slice pG EN.length oU)).setCell ⟨rA,1,none⟩ (.slice wT GV.length wY)) w.heap.size (fun _=>True) (.slice wT GV.length wY) GV):=⟨rq (Kd.bA (Kd.bZ (p:=⟨rA,1,none⟩) (Kd.bZ (p:=⟨rA,0,none⟩) (Kd.eQ zB.out wV.out (by decide)) (fun _ hk=>hk.2) (.slice pG EN.length oU)) (fun _ hk=>hk.2) (.slice wT GV.length wY)) (fun _ hk=>trivial))⟩
 have GL:aC (((w9.setCell ⟨rA,0,none⟩ (.slice pG EN.length oU)).setCell ⟨rA,1,none⟩ (.slice wT GV.length wY)).heap[xO]?=some (.cells #[.slice none 0 0, .slice none 0 0] 26 (0,0))):=⟨by(with_reducible repeat(fail));refine iV ?_ EY.out _;(with_reducible repeat(fail));refine iV ?_ EY.out _;(with_reducible repeat(fail));exact qR.out⟩
 have MO:aC (((w9.setCell ⟨rA,0,none⟩ (.slice pG EN.length oU)).setCell ⟨rA,1,none⟩ (.slice wT GV.length wY)).heap[rA]?=some (.cells #[.slice pG EN.length oU, .slice wT GV.length wY] 26 (0,0))):=⟨by(with_reducible repeat(fail));refine bM (cs:= #[.slice pG EN.length oU, .slice none 0 0]) ?_ 1 _ rfl;(with_reducible repeat(fail));refine bM (cs:= #[.slice none 0 0, .slice none 0 0]) ?_ 0 _ rfl;(with_reducible repeat(fail));exact wV.out⟩
 have n4_:aC (aI w ((w9.setCell ⟨rA,0,none⟩ (.slice pG EN.length oU)).setCell ⟨rA,1,none⟩ (.slice wT GV.length wY)) aEw aRf a2S):=⟨by repeat(with_reducible first|exact sO.out|refine aI.vZ ?_ aAH.out _)⟩
 have n5_:aC (Below w.heap.size w ((w9.setCell ⟨rA,0,none⟩ (.slice pG EN.length oU)).setCell ⟨rA,1,none⟩ (.slice wT GV.length wY))):=⟨a8u⟩
 clear zA
 clear zB
 clear qR
 clear wV
 clear sO
 clear HB
 generalize ((w9.setCell ⟨rA,0,none⟩ (.slice pG EN.length oU)).setCell ⟨rA,1,none⟩ (.slice wT GV.length wY))=w15 at vK vL GL MO n4_ n5_⊢
 have zA:=vK;have zB:=vL;have qR:=GL;have wV:=MO;have sO:=n4_;have HB:=n5_;clear vK vL GL MO n4_ n5_;replace zA:=am (Kd.mZ zA.out);replace zB:=am (Kd.mZ zB.out);replace qR:=am (bF qR.out);replace wV:=am (bF wV.out);replace sO:=am (aI.drew sO.out);replace HB:=am (bH HB.out)
 refine st (n:=8) (S:=fun w' =>w'.cell? ⟨rA,0,none⟩=some (.slice pG EN.length oU)∧w'.cell? ⟨rA,1,none⟩=some (.slice wT GV.length wY)) (ds:=[]) ⟨bd wV.out 0,bd wV.out 1⟩ (fun hHeld=>?_);refine dW fE.bLj fE.a8z (fun kQ rT=>?_)
 generalize w15.drew=w16 at zA zB qR wV sO HB hHeld⊢
 refine pu 1 11 ?_
 refine pu 2 12 ?_
 refine V9 0 10 hHeld ?_
 refine V9 3 13 hHeld ?_
 refine qF 4 14 (fun K hK=>?_)
 refine EI Tryz.func19 #[.pointer (some ⟨aEw,0,none⟩), .agg #[.slice pG EN.length oU, .slice wT GV.length wY]] ?_
 with_reducible refine(kY.calls k aEw aRf a2S _ _ EN _ _ GV a2T bBN w _ ?dS ?iE ?mU ?FW ?aFa ?bBq A4.out).mono ?_
 (case dS=>repeat(with_reducible exact sO.out));(case iE=>repeat(with_reducible exact HB.out));(case mU=>exact Kd.WW (aI.apart sO.out (rq zA.out) (by decide)) (fun _ h_=>h_.2));(case FW=>exact(Kd.aM zA.out).2.1);(case aFa=>exact Kd.WW (aI.apart sO.out (rq zB.out) (by decide)) (fun _ h_=>h_.2));(case bBq=>exact(Kd.aM zB.out).2.1)
 rintro e w17 ⟨rfl,hi,hb,hk⟩
 refine⟨_,rfl,?_⟩
 replace qR:=kk hk qR R6
 replace zA:=ka (aI.apart sO.out (rq zA.out) (by decide)) hk
 replace zB:=ka (aI.apart sO.out (rq zB.out) (by decide)) hk
 replace wV:=kk hk wV R7
 replace HB:=am (hb);replace sO:=am (hi)
 clear hb
 clear hk
 clear hi
 refine hK.out _ _ ⟨bd wV.out 0,bd wV.out 1⟩ (fun hHeld=>?_)
 clear hK K
 refine nm 14 ?_
 refine qF 5 15 (fun K hK=>?_)
 refine EI Tryz.func18 #[.pointer (some ⟨aEw,0,none⟩), .string a2T] ?_
 with_reducible refine(gT.calls k aEw aRf bBN a2T bLg bLh w _ ?dS ?iE A5.out).mono ?_
 (case dS=>repeat(with_reducible exact sO.out));(case iE=>repeat(with_reducible exact HB.out))
 rintro e w18 ⟨rfl,hi,hb,hk⟩
 refine⟨_,rfl,?_⟩
 replace qR:=kk hk qR R6
 replace zA:=ka (aI.apart sO.out (rq zA.out) (by decide)) hk
 replace zB:=ka (aI.apart sO.out (rq zB.out) (by decide)) hk
 replace wV:=kk hk wV R7
 replace HB:=am (hb);replace sO:=am (hi)
 clear hb
 clear hk
 clear hi
 refine hK.out _ _ ⟨bd wV.out 0,bd wV.out 1⟩ (fun hHeld=>?_)
 clear hK K
 refine nm 15 ?_
 refine a2n (i:=6) (N:=none) #[true,true,true,true,true,true,true,false] rfl rfl (CR kQ.out (by kernel_rfl)) (by decide) (fun K hK=>?_)
 have bRz:w18.cell? ⟨xO,0,none⟩=some (.slice none 0 0):=bd qR.out 0
 have bO3:=bf qR.out 0;have bDN:=xU.out;have bDI:=EY.out
 have bJc:w18.cell? ⟨xO,1,none⟩=some (.slice none 0 0):=bd qR.out 1
 have bAb:=bf qR.out 1;have bDP:=xU.out;have bDK:=EY.out
 refine RL (w1:=?_) (by rfl) rfl ?_ ?_
 rotate_left
 ·go_simp
  rfl
 refine hK.out _ _ ⟨((cell_far (p:=⟨xO,_,none⟩) xU.out _).trans (((cell_far (p:=⟨xO,_,none⟩) xU.out _).trans (hHeld.1)))),((cell_far (p:=⟨xO,_,none⟩) xU.out _).trans (((cell_far (p:=⟨xO,_,none⟩) xU.out _).trans (hHeld.2))))⟩ (fun hHeld=>?_)
 clear hK K
 refine pu 7 3 ?_
 refine kD (fQ kQ.out (by kernel_rfl)) ?_
 try go_wp2
 refine bodyPost_ret (aGO rfl _ _ xO 26 #[.slice pG EN.length oU, .slice wT GV.length wY] (0,0) _ rfl (by(with_reducible repeat(fail));refine bM (cs:= #[.slice pG EN.length oU, .slice none 0 0]) ?_ 1 _ rfl;(with_reducible repeat(fail));refine bM (cs:= #[.slice none 0 0, .slice none 0 0]) ?_ 0 _ rfl;(with_reducible repeat(fail));exact qR.out) Tryz.underlying26 rfl (by kernel_rfl)) rfl ?_
 exact⟨_,_,nD,by(with_reducible repeat(fail));exact Kd.bA (Kd.bZ (p:=⟨xO,1,none⟩) (Kd.bZ (p:=⟨xO,0,none⟩) (Kd.eQ zA.out qR.out (by decide)) (fun _ hk=>hk.2) (.slice pG EN.length oU)) (fun _ hk=>hk.2) (.slice wT GV.length wY)) (fun _ hk=>trivial),by(with_reducible repeat(fail));exact Kd.bA (Kd.bZ (p:=⟨xO,1,none⟩) (Kd.bZ (p:=⟨xO,0,none⟩) (Kd.eQ zB.out qR.out (by decide)) (fun _ hk=>hk.2) (.slice pG EN.length oU)) (fun _ hk=>hk.2) (.slice wT GV.length wY)) (fun _ hk=>trivial),a8u⟩
def kN.l0:Nat→ByteArray→Int→Int→Option (Bool)
 |0,_,_,_=>none
 |k+1,x0,x5,x6=>if x6<x5 then(if 0≤x6 then(if x6<(x0.size:Int)then(if(bt x0 x6)<97 then(some false)else(if(bt x0 x6)>122 then(some false)else(kN.l0 k x0 x5 (wrap64 (x6+1)))))else(none))else(none))else(some true)
def kN.f (k:Nat) (a0:ByteArray):Option (Bool):=kN.l0 k a0 (a0.size:Int) 0
theorem kN.calls (k:Nat) (a0:ByteArray) (r:Bool) (w:World) (h:kN.f k a0=some r):
  Calls Tryz.prog 56 #[.string a0] w fun e w' =>e= .returned (.bool r)∧iB w w' :=by
 have H:=h;unfold kN.f at H
 clear h
 have H' :=am H
 clear H;go_enter Tryz.func56,Tryz.ntmps56;go_wp2
 go_loopg [6] k (fun kq v6 w' => ∃(qL:Int),v6= .int .i64 qL∧aC (kN.l0 kq a0 (a0.size:Int) qL=some r)∧aC (kq≤k)∧iB w w')
 case atStart=>exact⟨(0),sq,H',⟨Nat.le_refl _⟩,dr⟩
 case round=>
  clear H';obtain⟨qL,rfl,HA,lM,⟨m1,rfl⟩⟩:=hrel
  cases gk with
  |zero=>exact absurd HA.out (by simp [kN.l0])
  |succ k1=>
   have H:=HA.out;clear HA;simp only [kN.l0] at H
   replace H:=iv H;rcases H with ⟨wD,H⟩|⟨wD,H⟩
   ·replace H:=it H;obtain⟨oG,H⟩:=H;replace H:=it H;obtain⟨qZ,H⟩:=H
    replace H:=iv H;rcases H with ⟨sW,H⟩|⟨sW,H⟩
    ·obtain rfl:=si H
     have p5:0≤(qL:Int):=dt
     have q5:qL<(a0.size:Int):=dt
     have hx5:=kL a0 qL;replace p5:=eq_true p5;replace q5:=eq_true q5;go_wp2;go_ret
     exact⟨sq,dr⟩
    replace H:=iv H;rcases H with ⟨tK,H⟩|⟨tK,H⟩
    ·obtain rfl:=si H
     have p5:0≤(qL:Int):=dt
     have q5:qL<(a0.size:Int):=dt
     have hx5:=kL a0 qL;replace p5:=eq_true p5;replace q5:=eq_true q5
     have p7:0≤(qL:Int):=dt
     have q7:qL<(a0.size:Int):=dt
     have hx7:=kL a0 qL;replace p7:=eq_true p7;replace q7:=eq_true q7;go_wp2;go_ret
     exact⟨sq,dr⟩
    have H' :=am H
    clear H
    have p5:0≤(qL:Int):=dt
    have q5:qL<(a0.size:Int):=dt
    have hx5:=kL a0 qL;replace p5:=eq_true p5;replace q5:=eq_true q5
    have p7:0≤(qL:Int):=dt
    have q7:qL<(a0.size:Int):=dt
    have hx7:=kL a0 qL;replace p7:=eq_true p7;replace q7:=eq_true q7;go_wp2
    go_roundg k1
    case measure=>have:=lM.out;omega
    case rel=>exact⟨(wrap64 (qL+1)),sq,H',⟨rO⟩,dr⟩
   obtain rfl:=si H;go_wp2;go_ret
   exact⟨sq,dr⟩
def oH.f (a0:Int):Option (Bool):=if a0≥65 then(some (decide (a0≤90)))else(some false)
theorem oH.calls (a0:Int) (r:Bool) (w:World) (h:oH.f a0=some r):
  Calls Tryz.prog 110 #[.int .u8 a0] w fun e w' =>e= .returned (.bool r)∧iB w w' :=by
 have H:=h;unfold oH.f at H
 clear h
 replace H:=iv H;rcases H with ⟨wD,H⟩|⟨wD,H⟩
 ·obtain rfl:=si H;go_enter Tryz.func110,Tryz.ntmps110;go_wp2;go_ret
  exact⟨sq,dr⟩
 obtain rfl:=si H;go_enter Tryz.func110,Tryz.ntmps110;go_wp2;go_ret
 exact⟨sq,dr⟩
def lQ.f (a0:ByteArray) (a1:ByteArray):Option (Bool):=if(a0.size:Int)≥(a1.size:Int)then(if 0≤(a1.size:Int)then(if(a1.size:Int)≤(a0.size:Int)then(some ((a0.extract 0 a1.size).toList==a1.toList))else(none))else(none))else(some false)
theorem lQ.calls (a0:ByteArray) (a1:ByteArray) (r:Bool) (w:World) (h:lQ.f a0 a1=some r):
  Calls Tryz.prog 133 #[.string a0, .string a1] w fun e w' =>e= .returned (.bool r)∧iB w w' :=by
 have H:=h;unfold lQ.f at H
 clear h
 by_cases c3:(a0.size:Int)≥(a1.size:Int)
 ·rw [if_pos c3] at H;have oG:=decide_eq_true c3
  have GA:decide (a1.size≤a0.size)=true:=decide_eq_true (Int.ofNat_le.mp c3)
  clear c3;replace H:=ip H;obtain⟨c4,H⟩:=H;have qZ:=eq_true c4
  have XX:decide (0≤(a1.size:Int))=true:=decide_eq_true c4
  clear c4;replace H:=ip H;obtain⟨c5,H⟩:=H;have oL:=eq_true c5
  have bF9:(a1.size≤a0.size)=True:=eq_true (by omega)
  have bF8:decide (a1.size≤a0.size)=true:=decide_eq_true (by omega)
  have JF:decide ((a1.size:Int)≤(a0.size:Int))=true:=decide_eq_true c5
  clear c5;obtain rfl:=si H;go_enter Tryz.func133,Tryz.ntmps133;go_wp2;go_ret
  exact⟨sq,dr⟩
 rw [if_neg c3] at H;have oG:=decide_eq_false c3
 have GA:decide (a1.size≤a0.size)=false:=decide_eq_false (fun h=>c3 (Int.ofNat_le.mpr h))
 clear c3;obtain rfl:=si H;go_enter Tryz.func133,Tryz.ntmps133;go_wp2;go_ret
 exact⟨sq,dr⟩
def jJ.f (a0:ByteArray) (a1:ByteArray):Option (Bool):=(lQ.f a0 a1).bind fun a2U=>(some a2U)
theorem jJ.calls (a0:ByteArray) (a1:ByteArray) (r:Bool) (w:World) (h:jJ.f a0 a1=some r):
  Calls Tryz.prog 111 #[.string a0, .string a1] w fun e w' =>e= .returned (.bool r)∧iB w w' :=by
 have H:=h;unfold jJ.f at H
 clear h;replace H:=ba H;obtain⟨a2U,A3,H⟩:=H;obtain rfl:=si H;go_enter Tryz.func111,Tryz.ntmps111
 go_wp2_with (refine gd 7 ?_;refine gv Tryz.func133 (lQ.calls a0 a1 a2U _ A3.out) ?_;rintro w' ⟨nd,rfl⟩)
 go_ret
 exact⟨sq,dr⟩
def lS.f (a0:ByteArray) (a1:ByteArray):Option (Bool):=if(a0.size:Int)≥(a1.size:Int)then(if 0≤(wrap64 ((a0.size:Int)-(a1.size:Int)))then(if(wrap64 ((a0.size:Int)-(a1.size:Int)))≤(a0.size:Int)then(some ((a0.extract ((wrap64 ((a0.size:Int)-(a1.size:Int))):Int).toNat a0.size).toList==a1.toList))else(none))else(none))else(some false)
theorem lS.calls (a0:ByteArray) (a1:ByteArray) (r:Bool) (w:World) (h:lS.f a0 a1=some r):
  Calls Tryz.prog 134 #[.string a0, .string a1] w fun e w' =>e= .returned (.bool r)∧iB w w' :=by
 have H:=h;unfold lS.f at H
 clear h
 by_cases c3:(a0.size:Int)≥(a1.size:Int)
 ·rw [if_pos c3] at H;have oG:=decide_eq_true c3
  have GA:decide (a1.size≤a0.size)=true:=decide_eq_true (Int.ofNat_le.mp c3)
  clear c3;obtain⟨ji4,aOk⟩: ∃j_:Int,(wrap64 ((a0.size:Int)-(a1.size:Int)))=j_:=⟨_,rfl⟩
  rw [aOk] at H
  have bAj:(IntKind.i64.wrap ((a0.size:Int)-(a1.size:Int)))=ji4:=(iZ _).trans aOk
  replace H:=ip H;obtain⟨c5,H⟩:=H;have oL:=eq_true c5
  have JF:decide (0≤(ji4))=true:=decide_eq_true c5
  clear c5;replace H:=ip H;obtain⟨c6,H⟩:=H;have sW:=eq_true c6
  have aFF:decide ((ji4)≤(a0.size:Int))=true:=decide_eq_true c6
  clear c6;obtain rfl:=si H;go_enter Tryz.func134,Tryz.ntmps134;go_wp2;go_ret
  exact⟨by rfl,dr⟩
 rw [if_neg c3] at H;have oG:=decide_eq_false c3
 have GA:decide (a1.size≤a0.size)=false:=decide_eq_false (fun h=>c3 (Int.ofNat_le.mpr h))
 clear c3;obtain rfl:=si H;go_enter Tryz.func134,Tryz.ntmps134;go_wp2;go_ret
 exact⟨sq,dr⟩
def jK.f (a0:ByteArray) (a1:ByteArray):Option (Bool):=(lS.f a0 a1).bind fun a2V=>(some a2V)
theorem jK.calls (a0:ByteArray) (a1:ByteArray) (r:Bool) (w:World) (h:jK.f a0 a1=some r):
  Calls Tryz.prog 112 #[.string a0, .string a1] w fun e w' =>e= .returned (.bool r)∧iB w w' :=by
 have H:=h;unfold jK.f at H
 clear h;replace H:=ba H;obtain⟨a2V,A3,H⟩:=H;obtain rfl:=si H;go_enter Tryz.func112,Tryz.ntmps112
 go_wp2_with (refine gd 7 ?_;refine gv Tryz.func134 (lS.calls a0 a1 a2V _ A3.out) ?_;rintro w' ⟨nd,rfl⟩)
 go_ret
 exact⟨sq,dr⟩
attribute [local go_sem high] aNJ
mutual
def fC.j0:Nat→Bool→ByteArray→Bool→ByteArray→ByteArray→ByteArray→Option (Bool)
 |0,_,_,_,_,_,_=>none
 |k+1,x15,aDn,WI,KY,WJ,KZ=>if x15=true then(some false)else((some (([KY,WJ,KZ]:List ByteArray):List ByteArray)).bind fun VM=>(fC.l0 k VM (VM.length:Int) 0 aDn WI KY WJ KZ))
def fC.l0:Nat→List ByteArray→Int→Int→ByteArray→Bool→ByteArray→ByteArray→ByteArray→Option (Bool)
 |0,_,_,_,_,_,_,_,_=>none
 |k+1,x22,x23,x24,aDn,WI,KY,WJ,KZ=>if x24<x23 then(if 0≤x24 then(if x24<(x22.length:Int)then(if((bP ByteArray.empty x22 x24).size:Int)>4 then(some false)else((kN.f k (bP ByteArray.empty x22 x24)).bind fun bBO=>(if bBO=true then(fC.l0 k x22 x23 (wrap64 (x24+1)) aDn WI KY WJ KZ)else(some false))))else(none))else(none))else(if WI=true then((jJ.f KZ KY).bind fun a2W=>(some a2W))else((jK.f KZ KY).bind fun a2X=>(some a2X)))
end
def fC.f (k:Nat) (iD:ByteArray) (iG:Bool) (jM:ByteArray) (kU:ByteArray) (l5:ByteArray):Option (Bool):=if(iD.size:Int)=1 then(if 0<(iD.size:Int)then((oH.f (bt iD 0)).bind fun aVb=>(fC.j0 k (!aVb) iD iG jM kU l5))else(none))else(fC.j0 k true iD iG jM kU l5)
theorem fC.calls (k:Nat) (iD:ByteArray) (iG:Bool) (jM:ByteArray) (kU:ByteArray) (l5:ByteArray) (r:Bool) (w:World) (h:fC.f k iD iG jM kU l5=some r):
  Calls Tryz.prog 85 #[.agg #[.string iD, .bool iG, .string jM, .string kU, .string l5]] w fun e w' =>e= .returned (.bool r)∧Below w.heap.size w w' :=by
 have U8:=Tryz.underlying87;have HB:=am (Below.refl w.heap.size w)
 have H:=h;unfold fC.f at H
 clear h;have HC2:=am H;clear H;go_enter Tryz.func85,Tryz.ntmps85
 go_upto_region 1 with (refine gd 1 ?_;refine bx 1 (cs:= #[.string iD, .bool iG, .string jM, .string kU, .string l5]) (t:=87) ?_;intro aIe hg w3 bT hb;have ET:=am (bT);have bMC:=am ((kI:w.heap.size≤aIe));have IW:=am ((kI:w.heap.size≤aIe));replace HB:=o8 hb;clear hb bT hg)
 go_cut [15] (fun v15 wc=> ∃(kq:Nat) (aRr:Bool),v15= .bool aRr∧aC (fC.j0 kq aRr iD iG jM kU l5=some r)∧aC (kq≤k)∧aC (wc.heap[aIe]?=some (.cells #[.string iD, .bool iG, .string jM, .string kU, .string l5] 87 (0,0)))∧aC (Below w.heap.size w wc))
 case first=>
  have H:=HC2.out;clear HC2
  by_cases c4:(iD.size:Int)=1
  ·rw [if_pos c4] at H
   have qZ:((iD.size:Int)==1)=true:=beq_iff_eq.mpr c4
   have XX:((iD.size:Int) !=1)=false:=bne_eq_false_iff_eq.mpr c4
   clear c4
   (skip)
   replace H:=ip H;obtain⟨c5,H⟩:=H;have oL:=decide_eq_true c5
   have JF:decide (0<iD.size)=true:=decide_eq_true (by omega)
   clear c5;replace H:=ba H;obtain⟨aVb,A7,H⟩:=H
   have H' :=am H
   clear H;have⟨_,_,_,_,_,_,_,_,_,_⟩:=yM ET.out
   have p6:0≤(0:Int):=(by omega)
   have q6:0<iD.size:=(by have:(0:Int)<(iD.size:Int):=dt;omega)
   have hx6: ∀h:0<iD.size,((iD[0]'h).toNat:Int)=bt iD 0:=kL iD 0
   clear p6
   have qi6:(0<(iD.size:Int))=True:=eq_true (dt)
   replace q6:=eq_true q6
   go_wp2_with (go_at_call 110;(with_reducible refine(oH.calls (bt iD 0) aVb _ A7.out).mono ?_);rintro e w' ⟨rfl,⟨nd,rfl⟩⟩)
   go_meet
   case rel=>exact⟨_,(!aVb),sq,H',⟨xI⟩,⟨bq ET.out⟩,⟨cK IW.out⟩⟩
  rw [if_neg c4] at H
  have qZ:((iD.size:Int)==1)=false:=beq_eq_false_iff_ne.mpr c4
  have XX:((iD.size:Int) !=1)=true:=bne_iff_ne.mpr c4
  (skip)
  have H' :=am H
  clear H;have⟨_,_,_,_,_,_,_,_,_,_⟩:=yM ET.out;go_wp2
  go_meet
  case rel=>exact⟨_,(true),sq,H',⟨xI⟩,⟨bq ET.out⟩,⟨cK IW.out⟩⟩
 case rest=>
  clear HC2;obtain⟨kq,aRr,rfl,HA,HJ1,ET,HB⟩:=hcut
  cases kq with
  |zero=>exact absurd HA.out (by simp [fC.j0])
  |succ kj1=>
   have H:=HA.out;clear HA;simp only [fC.j0] at H
   replace H:=ib H;rcases H with ⟨rfl,H⟩|⟨rfl,H⟩
   ·obtain rfl:=si H;go_wp2;go_ret
    exact⟨nD,cK IW.out⟩
   obtain⟨VM,aO3⟩: ∃y_:List ByteArray,y_=(([jM,kU,l5]:List ByteArray)):=⟨_,rfl⟩
   replace H:=bm H;rw [←aO3] at H
   have a6p:=am aO3;clear aO3
   have H' :=am H
   clear H;have⟨aCf,aCg,aCh,aCi,aCj,aCk,aCl,aCm,aCn,aCo⟩:=yM ET.out
   go_wp2_with (refine gd 22 ?_;refine Kd.mJ Kd.string _ 9 ?hg (N:=22) ?hd (xs:=([jM,kU,l5]:List ByteArray)) (inner:=[.string jM, .string kU, .string l5]) (ok:=fun _=>True) (mK:=fun _=>True) ?hr ?hp (fun _ hk=>hk) trivial (Below.refl _ _) (Nat.le_refl _) (by simp) ?_;(case hd=>rfl);(case hg=>rfl);(case hr=>(go_simp;done));(case hp=>exact(dQ.one (show Kd.M Kd.string _ _ _ jM [.string jM] from rfl) (dQ.one (show Kd.M Kd.string _ _ _ kU [.string kU] from rfl) (dQ.one (show Kd.M Kd.string _ _ _ l5 [.string l5] from rfl) (dQ.none _ _)))));intro bTm w12 U5 hb lL dP;clear lL dP;(rw [←a6p.out] at U5);have aV4:=am (Kd.dZ U5 (aH (cK IW.out)));replace ET:=kb ET hb;replace HB:=st1 IW hb;clear hb U5;obtain⟨wT,wY,aBO⟩:=Kd.bS aV4.out;subst aBO)
   go_loopg [24] kj1 (fun kq v24 w' => ∃(zK:Int),v24= .int .i64 zK∧aC (fC.l0 kq VM (VM.length:Int) zK iD iG jM kU l5=some r)∧aC (kq≤kj1)∧aC (Kd.R Kd.string 9 w' w.heap.size (fun _=>True) (.slice wT VM.length wY) VM)∧aC (w'.heap[aIe]?=some (.cells #[.string iD, .bool iG, .string jM, .string kU, .string l5] 87 (0,0)))∧aC (Below w.heap.size w w'))
   case atStart=>exact⟨(0),sq,H',⟨Nat.le_refl _⟩,⟨rq aV4.out⟩,⟨bq ET.out⟩,⟨cK IW.out⟩⟩
   case round=>
    clear H';clear aCf aCg aCh aCi aCj aCk aCl aCm aCn aCo;obtain⟨zK,rfl,HA,uP,aHq,ET,HB⟩:=hrel
    cases gk with
    |zero=>exact absurd HA.out (by simp [fC.l0])
    |succ k2=>
     have H:=HA.out;clear HA;simp only [fC.l0] at H
     replace H:=iv H;rcases H with ⟨BX,H⟩|⟨BX,H⟩
     ·replace H:=it H;obtain⟨BZ,H⟩:=H;replace H:=it H;obtain⟨FE,H⟩:=H
      by_cases c18:((bP ByteArray.empty VM zK).size:Int)>4
      ·rw [if_pos c18] at H;have L8:=decide_eq_true c18
       have aH4:decide (4<(bP ByteArray.empty VM zK).size)=true:=decide_eq_true (by omega)
       clear c18;obtain rfl:=si H
       obtain⟨aWt,aNw,aJj,bA8,bBf⟩:=CY (Kd.aM aHq.out).2.2 zK;cases aNw
       go_wp2;go_ret
       exact⟨nD,cK IW.out⟩
      rw [if_neg c18] at H;have L8:=decide_eq_false c18
      have aH4:decide (4<(bP ByteArray.empty VM zK).size)=false:=decide_eq_false (by omega)
      clear c18;replace H:=ba H;obtain⟨bBO,A19,H⟩:=H
      replace H:=ib H;rcases H with ⟨rfl,H⟩|⟨rfl,H⟩
      ·have H' :=am H
       clear H
       obtain⟨aWt,aNw,aJj,bA8,bBf⟩:=CY (Kd.aM aHq.out).2.2 zK;cases aNw
       go_wp2_with (go_at_call 56;(with_reducible refine(kN.calls k2 (bP ByteArray.empty VM zK) true _ A19.out).mono ?_);rintro e w' ⟨rfl,⟨nd,rfl⟩⟩)
       go_roundg k2
       case measure=>have:=HJ1.out;have:=uP.out;omega
       case rel=>exact⟨(wrap64 (zK+1)),sq,H',⟨by have:=HJ1.out;have:=uP.out;omega⟩,⟨rq aHq.out⟩,⟨bq ET.out⟩,⟨cK IW.out⟩⟩
      obtain rfl:=si H
      obtain⟨aWt,aNw,aJj,bA8,bBf⟩:=CY (Kd.aM aHq.out).2.2 zK;cases aNw
      go_wp2_with (go_at_call 56;(with_reducible refine(kN.calls k2 (bP ByteArray.empty VM zK) false _ A19.out).mono ?_);rintro e w' ⟨rfl,⟨nd,rfl⟩⟩)
      go_ret
      exact⟨nD,cK IW.out⟩
     replace H:=ib H;rcases H with ⟨rfl,H⟩|⟨rfl,H⟩
     ·replace H:=ba H;obtain⟨a2W,A22,H⟩:=H;obtain rfl:=si H;have⟨_,_,_,_,_,_,_,_,_,_⟩:=yM ET.out
      go_wp2_with (refine gd 43 ?_;refine gv Tryz.func111 (jJ.calls l5 jM a2W _ A22.out) ?_;rintro w' ⟨nd,rfl⟩)
      go_ret
      exact⟨nD,cK IW.out⟩
     replace H:=ba H;obtain⟨a2X,A24,H⟩:=H;obtain rfl:=si H;have⟨_,_,_,_,_,_,_,_,_,_⟩:=yM ET.out
     go_wp2_with (refine gd 48 ?_;refine gv Tryz.func112 (jK.calls l5 jM a2X _ A24.out) ?_;rintro w' ⟨nd,rfl⟩)
     go_ret
     exact⟨nD,cK IW.out⟩
def iT.l0:Nat→List (kH)→Int→Int→ByteArray→Bool→ByteArray→ByteArray→ByteArray→Option (Int)
 |0,_,_,_,_,_,_,_,_=>none
 |k+1,x0,x7,x8,aJY,aJZ,aJ0,aJ1,aJ2=>if x8<x7 then(if 0≤x8 then(if x8<(x0.length:Int)then(if(aJY.toList==(((aD x0 x8).f0).toList)&&(aJZ==((aD x0 x8).f1)&&(aJ0.toList==(((aD x0 x8).f2).toList)&&(aJ1.toList==(((aD x0 x8).f3).toList)&&(aJ2.toList==(((aD x0 x8).f4).toList))))))=true then(some x8)else(iT.l0 k x0 x7 (wrap64 (x8+1)) aJY aJZ aJ0 aJ1 aJ2))else(none))else(none))else(some (-1))
def iT.f (k:Nat) (l0:List (kH)) (fP:ByteArray) (fZ:Bool) (C8:ByteArray) (C9:ByteArray) (DC:ByteArray):Option (Int):=iT.l0 k l0 (l0.length:Int) 0 fP fZ C8 C9 DC
theorem iT.calls (k:Nat) (A0:Option Addr) (c0:Nat) (l0:List (kH)) (fP:ByteArray) (fZ:Bool) (C8:ByteArray) (C9:ByteArray) (DC:ByteArray) (r:Int) (w:World) (hr0:Kd.C yG w A0 l0.length l0) (hc0:l0.length≤c0) (h:iT.f k l0 fP fZ C8 C9 DC=some r):
  Calls Tryz.prog 113 #[.slice A0 l0.length c0, .agg #[.string fP, .bool fZ, .string C8, .string C9, .string DC]] w fun e w' =>e= .returned (.int .i64 r)∧Below w.heap.size w w' :=by
 have U8:=Tryz.underlying87;have lX:=am hr0;have vX:=am hc0;clear hr0 hc0;have HB:=am (Below.refl w.heap.size w)
 have H:=h;unfold iT.f at H
 clear h
 have H' :=am H
 clear H;go_enter Tryz.func113,Tryz.ntmps113
 go_wp2_with (refine gd 3 ?_;refine bx 3 (cs:= #[.string fP, .bool fZ, .string C8, .string C9, .string DC]) (t:=87) ?_;intro aNP hg w3 bT hb;have aDw:=am (bT);have bMD:=am ((kI:w.heap.size≤aNP));have aHg:=am ((kI:w.heap.size≤aNP));replace HB:=o8 hb;clear hb bT hg)
 go_loopg [8] k (fun kq v8 w' => ∃(iU:Int),v8= .int .i64 iU∧aC (iT.l0 kq l0 (l0.length:Int) iU fP fZ C8 C9 DC=some r)∧aC (kq≤k)∧aC (w'.heap[aNP]?=some (.cells #[.string fP, .bool fZ, .string C8, .string C9, .string DC] 87 (0,0)))∧aC (Below w.heap.size w w'))
 case atStart=>exact⟨(0),sq,H',⟨Nat.le_refl _⟩,⟨bq aDw.out⟩,⟨cK aHg.out⟩⟩
 case round=>
  clear H';obtain⟨iU,rfl,HA,lM,aDw,HB⟩:=hrel
  cases gk with
  |zero=>exact absurd HA.out (by simp [iT.l0])
  |succ k1=>
   have H:=HA.out;clear HA;simp only [iT.l0] at H
   replace H:=iv H;rcases H with ⟨qZ,H⟩|⟨qZ,H⟩
   ·replace H:=it H;obtain⟨oL,H⟩:=H;replace H:=it H;obtain⟨sW,H⟩:=H
    by_cases c7:(fP.toList==(((aD l0 iU).f0).toList)&&(fZ==((aD l0 iU).f1)&&(C8.toList==(((aD l0 iU).f2).toList)&&(C9.toList==(((aD l0 iU).f3).toList)&&(DC.toList==(((aD l0 iU).f4).toList))))))=true
    ·rw [if_pos c7] at H
     have wR:(fP.toList==(((aD l0 iU).f0).toList)&&(fZ==((aD l0 iU).f1)&&(C8.toList==(((aD l0 iU).f2).toList)&&(C9.toList==(((aD l0 iU).f3).toList)&&(DC.toList==(((aD l0 iU).f4).toList))))))=true:=c7
     (have aFG:decide (fP.toList=(((aD l0 iU).f0).toList)&&(fZ==((aD l0 iU).f1)&&(C8.toList==(((aD l0 iU).f2).toList)&&(C9.toList==(((aD l0 iU).f3).toList)&&(DC.toList==(((aD l0 iU).f4).toList))))))=true:=by simpa using c7)
     (have bGh:(fP.toList==(((aD l0 iU).f0).toList)&&(fZ==((aD l0 iU).f1)&&(C8.toList==(((aD l0 iU).f2).toList)&&(C9.toList==(((aD l0 iU).f3).toList)&&(DC.toList==(((aD l0 iU).f4).toList))))))=true:=by simpa using c7)
     clear c7;obtain rfl:=si H;have⟨_,_,_,_,_,_,_,_,_,_⟩:=yM aDw.out
     obtain⟨a7z,aZR,QO,QP,QQ,QR,QS⟩:=sH lX.out iU dt dt;cases aZR
     replace QO:=kp HB.out QO;replace QP:=kp HB.out QP;replace QQ:=kp HB.out QQ;replace QR:=kp HB.out QR;replace QS:=kp HB.out QS;have bJL:=e0 iU;have bKu:=e1 iU (l0.length:Int);go_wp2
     repeat(go_quiet (fail);try go_wp2)
     go_ret
     exact⟨nD,cK aHg.out⟩
    rw [if_neg c7] at H
    have wR:(fP.toList==(((aD l0 iU).f0).toList)&&(fZ==((aD l0 iU).f1)&&(C8.toList==(((aD l0 iU).f2).toList)&&(C9.toList==(((aD l0 iU).f3).toList)&&(DC.toList==(((aD l0 iU).f4).toList))))))=false:=by simpa using c7
    (have aFG:decide (fP.toList=(((aD l0 iU).f0).toList)&&(fZ==((aD l0 iU).f1)&&(C8.toList==(((aD l0 iU).f2).toList)&&(C9.toList==(((aD l0 iU).f3).toList)&&(DC.toList==(((aD l0 iU).f4).toList))))))=false:=by simpa using c7)
    (have bGh:(fP.toList==(((aD l0 iU).f0).toList)&&(fZ==((aD l0 iU).f1)&&(C8.toList==(((aD l0 iU).f2).toList)&&(C9.toList==(((aD l0 iU).f3).toList)&&(DC.toList==(((aD l0 iU).f4).toList))))))=false:=by simpa using c7)
    (have bQ0: ¬(fP.toList=(((aD l0 iU).f0).toList)&&(fZ==((aD l0 iU).f1)&&(C8.toList==(((aD l0 iU).f2).toList)&&(C9.toList==(((aD l0 iU).f3).toList)&&(DC.toList==(((aD l0 iU).f4).toList)))))):=by simpa using c7)
    clear c7
    have H' :=am H
    clear H;have⟨_,_,_,_,_,_,_,_,_,_⟩:=yM aDw.out
    obtain⟨a7z,aZR,QO,QP,QQ,QR,QS⟩:=sH lX.out iU dt dt;cases aZR
    replace QO:=kp HB.out QO;replace QP:=kp HB.out QP;replace QQ:=kp HB.out QQ;replace QR:=kp HB.out QR;replace QS:=kp HB.out QS;have bJL:=e0 iU;have bKu:=e1 iU (l0.length:Int);go_wp2
    repeat(go_quiet (fail);try go_wp2)
    go_roundg k1
    case measure=>have:=lM.out;omega
    case rel=>exact⟨(wrap64 (iU+1)),sq,H',⟨rO⟩,⟨bq aDw.out⟩,⟨cK aHg.out⟩⟩
   obtain rfl:=si H;go_wp2
   go_ret
   exact⟨nD,cK aHg.out⟩
def qJ.f (k:Nat) (l0:List (kH)) (fP:ByteArray) (fZ:Bool) (C8:ByteArray) (C9:ByteArray) (DC:ByteArray):Option (Bool):=(iT.f k l0 fP fZ C8 C9 DC).bind fun a2Y=>(some (decide (a2Y≥0)))
theorem qJ.calls (k:Nat) (A0:Option Addr) (c0:Nat) (l0:List (kH)) (fP:ByteArray) (fZ:Bool) (C8:ByteArray) (C9:ByteArray) (DC:ByteArray) (r:Bool) (w:World) (hr0:Kd.C yG w A0 l0.length l0) (hc0:l0.length≤c0) (h:qJ.f k l0 fP fZ C8 C9 DC=some r):
  Calls Tryz.prog 86 #[.slice A0 l0.length c0, .agg #[.string fP, .bool fZ, .string C8, .string C9, .string DC]] w fun e w' =>e= .returned (.bool r)∧Below w.heap.size w w' :=by
 have U8:=Tryz.underlying87;have lX:=am hr0;have vX:=am hc0;clear hr0 hc0;have HB:=am (Below.refl w.heap.size w)
 have H:=h;unfold qJ.f at H
 clear h;replace H:=ba H;obtain⟨a2Y,A3,H⟩:=H;obtain rfl:=si H;go_enter Tryz.func86,Tryz.ntmps86
 go_wp2_with (first|(refine gd 3 ?_;refine bx 3 (cs:= #[.string fP, .bool fZ, .string C8, .string C9, .string DC]) (t:=87) ?_;intro aXB hg w4 bT hb;have aLz:=am (bT);have bME:=am ((kI:w.heap.size≤aXB));have aVU:=am ((kI:w.heap.size≤aXB));replace HB:=o8 hb;clear hb bT hg;have⟨_,_,_,_,_,_,_,_,_,_⟩:=yM aLz.out)|(refine gd 7 ?_;refine gv Tryz.func113 (iT.calls k _ _ l0 fP fZ C8 C9 DC a2Y _ (cq (Kd.dV lX.out HB.out)) vX.out A3.out) ?_;intro w6 hb;replace aLz:=kb aLz hb;replace HB:=st1 aVU hb;clear hb))
 go_ret
 exact⟨nD,cK aVU.out⟩
def dO.l0:Nat→List (kH)→List (kH)→Int→Int→Option (Bool)
 |0,_,_,_,_=>none
 |k+1,x0,x5,x6,x7=>if x7<x6 then(if 0≤x7 then(if x7<(x5.length:Int)then((fC.f k ((aD x5 x7).f0) ((aD x5 x7).f1) ((aD x5 x7).f2) ((aD x5 x7).f3) ((aD x5 x7).f4)).bind fun bBP=>(if bBP=true then(if x7≤(x0.length:Int)then((qJ.f k (x0.take (x7:Int).toNat) ((aD x5 x7).f0) ((aD x5 x7).f1) ((aD x5 x7).f2) ((aD x5 x7).f3) ((aD x5 x7).f4)).bind fun bBQ=>(if bBQ=true then(some false)else(dO.l0 k x0 x5 x6 (wrap64 (x7+1)))))else(none))else(some false)))else(none))else(none))else(some (decide ((x0.length:Int)≤8)))
def dO.f (k:Nat) (l0:List (kH)):Option (Bool):=dO.l0 k l0 l0 (l0.length:Int) 0
def dO.T4:Bool×List (List Nat×List Nat):=(true,[([],[]),([0],[0]),([1],[1]),([2,1],[2]),([3],[3]),([3],[3]),([4,5,3],[3,4,5]),([3],[3]),([6,7,3,3],[3,6,7]),([3,8],[3,8])])
def dO.B4:List Nat:=[0,1,3,7,15,15,63,15,255,511]
theorem dO.J7:nX .any (opsOf Tryz.f53 4)=dO.T4:=by kernel_rfl
theorem dO.yN:jA dO.T4.2 dO.B4=true:=by kernel_rfl
theorem dO.calls (k:Nat) (A0:Option Addr) (c0:Nat) (l0:List (kH)) (r:Bool) (w:World) (hr0:Kd.C yG w A0 l0.length l0) (hc0:l0.length≤c0) (h:dO.f k l0=some r):
  Calls Tryz.prog 53 #[.slice A0 l0.length c0] w fun e w' =>e= .returned (.bool r)∧Below w.heap.size w w' :=by
 have U8:=Tryz.underlying87;have lX:=am hr0;have vX:=am hc0;clear hr0 hc0;have HB:=am (Below.refl w.heap.size w)
 have H:=h;unfold dO.f at H
 clear h
 have H' :=am H
 clear H;go_enter Tryz.func53,Tryz.ntmps53;go_wp2
 go_loopg [7] k (fun kq v7 w' => ∃(bC:Int),v7= .int .i64 bC∧aC (dO.l0 kq l0 l0 (l0.length:Int) bC=some r)∧aC (kq≤k)∧aC (Below w.heap.size w w'))
 case atStart=>exact⟨(0),sq,H',⟨Nat.le_refl _⟩,⟨gP⟩⟩
 case round=>
  clear H';obtain⟨bC,rfl,HA,lM,HB⟩:=hrel
  cases gk with
  |zero=>exact absurd HA.out (by simp [dO.l0])
  |succ k1=>
   have H:=HA.out;clear HA;simp only [dO.l0] at H
   replace H:=iv H;rcases H with ⟨wD,H⟩|⟨wD,H⟩
   ·replace H:=it H;obtain⟨oG,H⟩:=H
    replace H:=it H;obtain⟨qZ,H⟩:=H;replace H:=ba H;obtain⟨bBP,A5,H⟩:=H
    replace H:=ib H;rcases H with ⟨rfl,H⟩|⟨rfl,H⟩
    ·have wR:=eq_true (dt:0≤bC);replace H:=ip H;obtain⟨c8,H⟩:=H;have tK:=eq_true c8
     have aEb:decide (bC≤(l0.length:Int))=true:=decide_eq_true c8
     clear c8;obtain⟨aFp,aO4⟩: ∃y_:List (kH),y_=(l0.take (bC:Int).toNat):=⟨_,rfl⟩
     rw [←aO4] at H
     have aHB:=am aO4;clear aO4;replace H:=ba H;obtain⟨bBQ,A9,H⟩:=H
     replace H:=ib H;rcases H with ⟨rfl,H⟩|⟨rfl,H⟩
     ·obtain rfl:=si H
      obtain⟨TY,aNx,aJk,aJl,aJm,aJn,aJo⟩:=kp5 HB (sH lX.out bC dt dt);cases aNx;have bA9:=e0 bC;have bBg:=e1 bC (l0.length:Int)
      try go_wp2_with (refine gd 4 ?_;refine bx 4 (cs:= #[.string (⟨#[]⟩:ByteArray), .bool false, .string (⟨#[]⟩:ByteArray), .string (⟨#[]⟩:ByteArray), .string (⟨#[]⟩:ByteArray)]) (t:=87) ?_;intro gW hg w11 bT hb;have gV:=am (bT);have aVW:=am ((kI:w.heap.size≤gW));have EW:=am ((kI:w.heap.size≤gW));replace HB:=o8 hb;clear hb bT hg;have⟨_,_,_,_,_,_,_,_,_,_⟩:=yM gV.out)
      have vK:aC ((((((w11.setCell ⟨gW,0,none⟩ (.string ((aD l0 bC).f0))).setCell ⟨gW,1,none⟩ (.bool ((aD l0 bC).f1))).setCell ⟨gW,2,none⟩ (.string ((aD l0 bC).f2))).setCell ⟨gW,3,none⟩ (.string ((aD l0 bC).f3))).setCell ⟨gW,4,none⟩ (.string ((aD l0 bC).f4))).heap[gW]?=some (.cells #[.string ((aD l0 bC).f0), .bool ((aD l0 bC).f1), .string ((aD l0 bC).f2), .string ((aD l0 bC).f3), .string ((aD l0 bC).f4)] 87 (0,0))):=⟨aZn⟩
      have vL:aC (Below w.heap.size w (((((w11.setCell ⟨gW,0,none⟩ (.string ((aD l0 bC).f0))).setCell ⟨gW,1,none⟩ (.bool ((aD l0 bC).f1))).setCell ⟨gW,2,none⟩ (.string ((aD l0 bC).f2))).setCell ⟨gW,3,none⟩ (.string ((aD l0 bC).f3))).setCell ⟨gW,4,none⟩ (.string ((aD l0 bC).f4)))):=⟨cK EW.out⟩
      clear gV HB;generalize (((((w11.setCell ⟨gW,0,none⟩ (.string ((aD l0 bC).f0))).setCell ⟨gW,1,none⟩ (.bool ((aD l0 bC).f1))).setCell ⟨gW,2,none⟩ (.string ((aD l0 bC).f2))).setCell ⟨gW,3,none⟩ (.string ((aD l0 bC).f3))).setCell ⟨gW,4,none⟩ (.string ((aD l0 bC).f4)))=w13 at vK vL⊢;have gV:=vK;have HB:=vL;clear vK vL;replace gV:=am (bF gV.out);replace HB:=am (bH HB.out)
      refine st (n:=10) (S:=fun w' =>w'.cell? ⟨gW,0,none⟩=some (.string ((aD l0 bC).f0))∧w'.cell? ⟨gW,1,none⟩=some (.bool ((aD l0 bC).f1))∧w'.cell? ⟨gW,2,none⟩=some (.string ((aD l0 bC).f2))∧w'.cell? ⟨gW,3,none⟩=some (.string ((aD l0 bC).f3))∧w'.cell? ⟨gW,4,none⟩=some (.string ((aD l0 bC).f4))) (ds:=[]) ⟨bd gV.out 0,bd gV.out 1,bd gV.out 2,bd gV.out 3,bd gV.out 4⟩ (fun hHeld=>?_);refine dW dO.J7 dO.yN (fun kQ rT=>?_)
      generalize w13.drew=w14 at gV HB hHeld⊢;refine tk5 0 12 hHeld ?_;refine qF 1 13 (fun K hK=>?_)
      refine EI Tryz.func85 #[.agg #[.string ((aD l0 bC).f0), .bool ((aD l0 bC).f1), .string ((aD l0 bC).f2), .string ((aD l0 bC).f3), .string ((aD l0 bC).f4)]] ?_
      with_reducible refine(fC.calls k1 ((aD l0 bC).f0) ((aD l0 bC).f1) ((aD l0 bC).f2) ((aD l0 bC).f3) ((aD l0 bC).f4) true _ A5.out).mono ?_
      rintro e w15 ⟨rfl,hb⟩;refine⟨_,rfl,?_⟩;replace gV:=kb gV hb;replace HB:=st1 EW hb;clear hb
      have q16:(bC:Int)≤((l0.length:Int):Int):=dt
      obtain⟨bRM,aXS,_,bAF,_⟩:=info_parts aCU
      have aIY:l0.length≤c0:=vX.out
      have a9E:Kd.C yG _ (some TY) l0.length l0:=lX.out
      have a04:=S9 (P:=Tryz.prog) 23 87 .i64 Tryz.underlying23 aXS (some TY) l0.length c0 bC (dt) q16 aIY;have a1M:=Kd.R4 (m:=(bC:Int).toNat) a9E (by omega)
      have a1W:aFp.length=(bC:Int).toNat:=(by rw [aHB.out,List.length_take];omega)
      rw [←aHB.out] at a1M;rw [←a1W] at a04;have aLW:=am a1M
      have aLK:=am (show aFp.length≤c0 from by omega)
      clear a1M a9E aIY aXS bAF;have bQV:=am a1W;clear a1W;replace q16:=eq_true q16;refine hK.out _ _ ⟨bd gV.out 0,bd gV.out 1,bd gV.out 2,bd gV.out 3,bd gV.out 4⟩ (fun hHeld=>?_);clear hK K;refine nm 13 ?_;refine pu 2 14 ?_;refine pu 3 15 ?_;refine pu 4 16 ?_;refine pu 5 17 ?_;refine pu 6 18 ?_;refine tk5 7 19 hHeld ?_;refine qF 8 20 (fun K hK=>?_)
      refine EI Tryz.func86 #[.slice (some TY) aFp.length c0, .agg #[.string ((aD l0 bC).f0), .bool ((aD l0 bC).f1), .string ((aD l0 bC).f2), .string ((aD l0 bC).f3), .string ((aD l0 bC).f4)]] ?_
      with_reducible refine(qJ.calls k1 _ _ aFp ((aD l0 bC).f0) ((aD l0 bC).f1) ((aD l0 bC).f2) ((aD l0 bC).f3) ((aD l0 bC).f4) true _ ?dS ?iE A9.out).mono ?_
      (case dS=>exact cq (Kd.dV aLW.out HB.out));(case iE=>exact aLK.out)
      rintro e w17 ⟨rfl,hb⟩;refine⟨_,rfl,?_⟩;replace gV:=kb gV hb;replace HB:=st1 EW hb;clear hb;refine hK.out _ _ ⟨bd gV.out 0,bd gV.out 1,bd gV.out 2,bd gV.out 3,bd gV.out 4⟩ (fun hHeld=>?_);clear hK K;refine nm 20 ?_;refine pu 9 21 ?_
      refine kD (fQ kQ.out (by kernel_rfl)) ?_
      try go_wp2
      go_ret
      exact⟨nD,cK EW.out⟩
     have H' :=am H
     clear H
     obtain⟨TY,aNx,aJk,aJl,aJm,aJn,aJo⟩:=kp5 HB (sH lX.out bC dt dt);cases aNx;have bA9:=e0 bC;have bBg:=e1 bC (l0.length:Int)
     try go_wp2_with (refine gd 4 ?_;refine bx 4 (cs:= #[.string (⟨#[]⟩:ByteArray), .bool false, .string (⟨#[]⟩:ByteArray), .string (⟨#[]⟩:ByteArray), .string (⟨#[]⟩:ByteArray)]) (t:=87) ?_;intro gW hg w18 bT hb;have gV:=am (bT);have aVW:=am ((kI:w.heap.size≤gW));have EW:=am ((kI:w.heap.size≤gW));replace HB:=o8 hb;clear hb bT hg;have⟨_,_,_,_,_,_,_,_,_,_⟩:=yM gV.out)
     have vK:aC ((((((w18.setCell ⟨gW,0,none⟩ (.string ((aD l0 bC).f0))).setCell ⟨gW,1,none⟩ (.bool ((aD l0 bC).f1))).setCell ⟨gW,2,none⟩ (.string ((aD l0 bC).f2))).setCell ⟨gW,3,none⟩ (.string ((aD l0 bC).f3))).setCell ⟨gW,4,none⟩ (.string ((aD l0 bC).f4))).heap[gW]?=some (.cells #[.string ((aD l0 bC).f0), .bool ((aD l0 bC).f1), .string ((aD l0 bC).f2), .string ((aD l0 bC).f3), .string ((aD l0 bC).f4)] 87 (0,0))):=⟨aZn⟩
     have vL:aC (Below w.heap.size w (((((w18.setCell ⟨gW,0,none⟩ (.string ((aD l0 bC).f0))).setCell ⟨gW,1,none⟩ (.bool ((aD l0 bC).f1))).setCell ⟨gW,2,none⟩ (.string ((aD l0 bC).f2))).setCell ⟨gW,3,none⟩ (.string ((aD l0 bC).f3))).setCell ⟨gW,4,none⟩ (.string ((aD l0 bC).f4)))):=⟨cK EW.out⟩
     clear gV HB;generalize (((((w18.setCell ⟨gW,0,none⟩ (.string ((aD l0 bC).f0))).setCell ⟨gW,1,none⟩ (.bool ((aD l0 bC).f1))).setCell ⟨gW,2,none⟩ (.string ((aD l0 bC).f2))).setCell ⟨gW,3,none⟩ (.string ((aD l0 bC).f3))).setCell ⟨gW,4,none⟩ (.string ((aD l0 bC).f4)))=w20 at vK vL⊢;have gV:=vK;have HB:=vL;clear vK vL;replace gV:=am (bF gV.out);replace HB:=am (bH HB.out)
     refine st (n:=10) (S:=fun w' =>w'.cell? ⟨gW,0,none⟩=some (.string ((aD l0 bC).f0))∧w'.cell? ⟨gW,1,none⟩=some (.bool ((aD l0 bC).f1))∧w'.cell? ⟨gW,2,none⟩=some (.string ((aD l0 bC).f2))∧w'.cell? ⟨gW,3,none⟩=some (.string ((aD l0 bC).f3))∧w'.cell? ⟨gW,4,none⟩=some (.string ((aD l0 bC).f4))) (ds:=[]) ⟨bd gV.out 0,bd gV.out 1,bd gV.out 2,bd gV.out 3,bd gV.out 4⟩ (fun hHeld=>?_);refine dW dO.J7 dO.yN (fun kQ rT=>?_)
     generalize w20.drew=w21 at gV HB hHeld⊢;refine tk5 0 12 hHeld ?_;refine qF 1 13 (fun K hK=>?_)
     refine EI Tryz.func85 #[.agg #[.string ((aD l0 bC).f0), .bool ((aD l0 bC).f1), .string ((aD l0 bC).f2), .string ((aD l0 bC).f3), .string ((aD l0 bC).f4)]] ?_
     with_reducible refine(fC.calls k1 ((aD l0 bC).f0) ((aD l0 bC).f1) ((aD l0 bC).f2) ((aD l0 bC).f3) ((aD l0 bC).f4) true _ A5.out).mono ?_
     rintro e w22 ⟨rfl,hb⟩;refine⟨_,rfl,?_⟩;replace gV:=kb gV hb;replace HB:=st1 EW hb;clear hb
     have q23:(bC:Int)≤((l0.length:Int):Int):=dt
     obtain⟨bJu,aEC,_,aI1,_⟩:=info_parts aCU
     have KO:l0.length≤c0:=vX.out
     have aNS:Kd.C yG _ (some TY) l0.length l0:=lX.out
     have aGb:=S9 (P:=Tryz.prog) 23 87 .i64 Tryz.underlying23 aEC (some TY) l0.length c0 bC (dt) q23 KO;have aCr:=Kd.R4 (m:=(bC:Int).toNat) aNS (by omega)
     have aEK:aFp.length=(bC:Int).toNat:=(by rw [aHB.out,List.length_take];omega)
     rw [←aHB.out] at aCr;rw [←aEK] at aGb;have aLW:=am aCr
     have aLK:=am (show aFp.length≤c0 from by omega)
     clear aCr aNS KO aEC aI1;have bFG:=am aEK;clear aEK;replace q23:=eq_true q23;refine hK.out _ _ ⟨bd gV.out 0,bd gV.out 1,bd gV.out 2,bd gV.out 3,bd gV.out 4⟩ (fun hHeld=>?_);clear hK K;refine nm 13 ?_;refine pu 2 14 ?_;refine pu 3 15 ?_;refine pu 4 16 ?_;refine pu 5 17 ?_;refine pu 6 18 ?_;refine tk5 7 19 hHeld ?_;refine qF 8 20 (fun K hK=>?_)
     refine EI Tryz.func86 #[.slice (some TY) aFp.length c0, .agg #[.string ((aD l0 bC).f0), .bool ((aD l0 bC).f1), .string ((aD l0 bC).f2), .string ((aD l0 bC).f3), .string ((aD l0 bC).f4)]] ?_
     with_reducible refine(qJ.calls k1 _ _ aFp ((aD l0 bC).f0) ((aD l0 bC).f1) ((aD l0 bC).f2) ((aD l0 bC).f3) ((aD l0 bC).f4) false _ ?dS ?iE A9.out).mono ?_
     (case dS=>exact cq (Kd.dV aLW.out HB.out));(case iE=>exact aLK.out)
     rintro e w24 ⟨rfl,hb⟩;refine⟨_,rfl,?_⟩;replace gV:=kb gV hb;replace HB:=st1 EW hb;clear hb;refine hK.out _ _ ⟨bd gV.out 0,bd gV.out 1,bd gV.out 2,bd gV.out 3,bd gV.out 4⟩ (fun hHeld=>?_);clear hK K;refine nm 20 ?_;refine pu 9 21 ?_
     refine kD (fQ kQ.out (by kernel_rfl)) ?_
     try go_wp2
     go_roundg k1
     case measure=>have:=lM.out;omega
     case rel=>exact⟨(wrap64 (bC+1)),sq,H',⟨rO⟩,⟨cK EW.out⟩⟩
    obtain rfl:=si H
    obtain⟨TY,aNx,aJk,aJl,aJm,aJn,aJo⟩:=kp5 HB (sH lX.out bC dt dt);cases aNx;have bA9:=e0 bC;have bBg:=e1 bC (l0.length:Int)
    try go_wp2_with (refine gd 4 ?_;refine bx 4 (cs:= #[.string (⟨#[]⟩:ByteArray), .bool false, .string (⟨#[]⟩:ByteArray), .string (⟨#[]⟩:ByteArray), .string (⟨#[]⟩:ByteArray)]) (t:=87) ?_;intro gW hg w25 bT hb;have gV:=am (bT);have aVW:=am ((kI:w.heap.size≤gW));have EW:=am ((kI:w.heap.size≤gW));replace HB:=o8 hb;clear hb bT hg;have⟨_,_,_,_,_,_,_,_,_,_⟩:=yM gV.out)
    have vK:aC ((((((w25.setCell ⟨gW,0,none⟩ (.string ((aD l0 bC).f0))).setCell ⟨gW,1,none⟩ (.bool ((aD l0 bC).f1))).setCell ⟨gW,2,none⟩ (.string ((aD l0 bC).f2))).setCell ⟨gW,3,none⟩ (.string ((aD l0 bC).f3))).setCell ⟨gW,4,none⟩ (.string ((aD l0 bC).f4))).heap[gW]?=some (.cells #[.string ((aD l0 bC).f0), .bool ((aD l0 bC).f1), .string ((aD l0 bC).f2), .string ((aD l0 bC).f3), .string ((aD l0 bC).f4)] 87 (0,0))):=⟨aZn⟩
    have vL:aC (Below w.heap.size w (((((w25.setCell ⟨gW,0,none⟩ (.string ((aD l0 bC).f0))).setCell ⟨gW,1,none⟩ (.bool ((aD l0 bC).f1))).setCell ⟨gW,2,none⟩ (.string ((aD l0 bC).f2))).setCell ⟨gW,3,none⟩ (.string ((aD l0 bC).f3))).setCell ⟨gW,4,none⟩ (.string ((aD l0 bC).f4)))):=⟨cK EW.out⟩
    clear gV HB;generalize (((((w25.setCell ⟨gW,0,none⟩ (.string ((aD l0 bC).f0))).setCell ⟨gW,1,none⟩ (.bool ((aD l0 bC).f1))).setCell ⟨gW,2,none⟩ (.string ((aD l0 bC).f2))).setCell ⟨gW,3,none⟩ (.string ((aD l0 bC).f3))).setCell ⟨gW,4,none⟩ (.string ((aD l0 bC).f4)))=w27 at vK vL⊢;have gV:=vK;have HB:=vL;clear vK vL;replace gV:=am (bF gV.out);replace HB:=am (bH HB.out)
    refine st (n:=10) (S:=fun w' =>w'.cell? ⟨gW,0,none⟩=some (.string ((aD l0 bC).f0))∧w'.cell? ⟨gW,1,none⟩=some (.bool ((aD l0 bC).f1))∧w'.cell? ⟨gW,2,none⟩=some (.string ((aD l0 bC).f2))∧w'.cell? ⟨gW,3,none⟩=some (.string ((aD l0 bC).f3))∧w'.cell? ⟨gW,4,none⟩=some (.string ((aD l0 bC).f4))) (ds:=[]) ⟨bd gV.out 0,bd gV.out 1,bd gV.out 2,bd gV.out 3,bd gV.out 4⟩ (fun hHeld=>?_);refine dW dO.J7 dO.yN (fun kQ rT=>?_)
    generalize w27.drew=w28 at gV HB hHeld⊢;refine tk5 0 12 hHeld ?_;refine qF 1 13 (fun K hK=>?_)
    refine EI Tryz.func85 #[.agg #[.string ((aD l0 bC).f0), .bool ((aD l0 bC).f1), .string ((aD l0 bC).f2), .string ((aD l0 bC).f3), .string ((aD l0 bC).f4)]] ?_
    with_reducible refine(fC.calls k1 ((aD l0 bC).f0) ((aD l0 bC).f1) ((aD l0 bC).f2) ((aD l0 bC).f3) ((aD l0 bC).f4) false _ A5.out).mono ?_
    rintro e w29 ⟨rfl,hb⟩;refine⟨_,rfl,?_⟩;replace gV:=kb gV hb;replace HB:=st1 EW hb;clear hb;refine hK.out _ _ ⟨bd gV.out 0,bd gV.out 1,bd gV.out 2,bd gV.out 3,bd gV.out 4⟩ (fun hHeld=>?_);clear hK K;refine nm 13 ?_;refine pu 2 14 ?_;refine pu 3 15 ?_;refine kF 4 16 ?_;refine kF 5 17 ?_;refine kF 6 18 ?_;refine kF 7 19 ?_;refine kF 8 20 ?_;refine pu 9 21 ?_
    refine kD (fQ kQ.out (by kernel_rfl)) ?_
    try go_wp2
    go_ret
    exact⟨nD,cK EW.out⟩
   obtain rfl:=si H;go_wp2;go_ret
   exact⟨nD,gP⟩
def iM.f (a0:Int) (a1:Int) (a2:Int):Option (Bool):=if a0≥a1 then(some (decide (a0≤a2)))else(some false)
theorem iM.calls (a0:Int) (a1:Int) (a2:Int) (r:Bool) (w:World) (h:iM.f a0 a1 a2=some r):
  Calls Tryz.prog 55 #[.int .i64 a0, .int .i64 a1, .int .i64 a2] w fun e w' =>e= .returned (.bool r)∧iB w w' :=by
 have H:=h;unfold iM.f at H
 clear h
 replace H:=iv H;rcases H with ⟨qZ,H⟩|⟨qZ,H⟩
 ·obtain rfl:=si H;go_enter Tryz.func55,Tryz.ntmps55;go_wp2;go_ret
  exact⟨sq,dr⟩
 obtain rfl:=si H;go_enter Tryz.func55,Tryz.ntmps55;go_wp2;go_ret
 exact⟨sq,dr⟩
def eD.f (k:Nat) (a0:ByteArray):Option (Bool):=(iM.f (a0.size:Int) 1 12).bind fun bBR=>(if bBR=true then((kN.f k a0).bind fun a2Z=>(some a2Z))else(some false))
theorem eD.calls (k:Nat) (a0:ByteArray) (r:Bool) (w:World) (h:eD.f k a0=some r):
  Calls Tryz.prog 21 #[.string a0] w fun e w' =>e= .returned (.bool r)∧iB w w' :=by
 have H:=h;unfold eD.f at H
 clear h;replace H:=ba H;obtain⟨bBR,A2,H⟩:=H
 replace H:=ib H;rcases H with ⟨rfl,H⟩|⟨rfl,H⟩
 ·replace H:=ba H;obtain⟨a2Z,A4,H⟩:=H;obtain rfl:=si H;go_enter Tryz.func21,Tryz.ntmps21
  go_wp2_with (first|(refine gd 5 ?_;refine gv Tryz.func55 (iM.calls (a0.size:Int) 1 12 true _ A2.out) ?_;rintro w' ⟨nd,rfl⟩)|(go_at_call 56;(with_reducible refine(kN.calls k a0 a2Z _ A4.out).mono ?_);rintro e w' ⟨rfl,⟨nd,rfl⟩⟩))
  go_ret
  exact⟨sq,dr⟩
 obtain rfl:=si H;go_enter Tryz.func21,Tryz.ntmps21
 go_wp2_with (refine gd 5 ?_;refine gv Tryz.func55 (iM.calls (a0.size:Int) 1 12 false _ A2.out) ?_;rintro w' ⟨nd,rfl⟩)
 go_ret
 exact⟨sq,dr⟩
def gQ.l0:Nat→Int→Int→ByteArray→ByteArray→Option (Bool)
 |0,_,_,_,_=>none
 |k+1,x6,x7,aDo,EE=>if x7<x6 then(if 0≤x7 then(if x7<(EE.size:Int)then((oH.f (bt EE x7)).bind fun bBS=>(if bBS=true then(if x7>0 then(if 0≤(wrap64 (x7-1))then(if(wrap64 (x7-1))<(EE.size:Int)then(if(bt EE (wrap64 (x7-1)))≥(bt EE x7)then(some false)else(gQ.l0 k x6 (wrap64 (x7+1)) aDo EE))else(none))else(none))else(gQ.l0 k x6 (wrap64 (x7+1)) aDo EE))else(some false)))else(none))else(none))else((eD.f k aDo).bind fun bBT=>(if bBT=true then(some (decide ((EE.size:Int)≤4)))else(some false)))
def gQ.f (k:Nat) (iD:ByteArray) (iG:ByteArray):Option (Bool):=gQ.l0 k (iG.size:Int) 0 iD iG
theorem gQ.calls (k:Nat) (iD:ByteArray) (iG:ByteArray) (r:Bool) (w:World) (h:gQ.f k iD iG=some r):
  Calls Tryz.prog 87 #[.agg #[.string iD, .string iG]] w fun e w' =>e= .returned (.bool r)∧Below w.heap.size w w' :=by
 have aCt:=Tryz.underlying56;have HB:=am (Below.refl w.heap.size w)
 have H:=h;unfold gQ.f at H
 clear h
 have H' :=am H
 clear H;go_enter Tryz.func87,Tryz.ntmps87
 go_wp2_with (refine gd 1 ?_;((refine qI (by rfl) ?_;dsimp only));refine bx 1 (cs:= #[.string iD, .string iG]) (t:=56) ?_;intro aNQ hg w2 bT hb;have IV:=am (bT);have bMF:=am ((kI:w.heap.size≤aNQ));have XB:=am ((kI:w.heap.size≤aNQ));replace HB:=o8 hb;clear hb bT hg;have⟨a1a,a1b,a1n,a1o⟩:=oP IV.out)
 go_loopg [7] k (fun kq v7 w' => ∃(bC:Int),v7= .int .i64 bC∧aC (gQ.l0 kq (iG.size:Int) bC iD iG=some r)∧aC (kq≤k)∧aC (w'.heap[aNQ]?=some (.cells #[.string iD, .string iG] 56 (0,0)))∧aC (Below w.heap.size w w'))
 case atStart=>exact⟨(0),sq,H',⟨Nat.le_refl _⟩,⟨bq IV.out⟩,⟨cK XB.out⟩⟩
 case round=>
  clear H';clear a1a a1b a1n a1o;obtain⟨bC,rfl,HA,lM,IV,HB⟩:=hrel
  cases gk with
  |zero=>exact absurd HA.out (by simp [gQ.l0])
  |succ k1=>
   have H:=HA.out;clear HA;simp only [gQ.l0] at H
   replace H:=iv H;rcases H with ⟨qZ,H⟩|⟨qZ,H⟩
   ·replace H:=it H;obtain⟨oL,H⟩:=H
    replace H:=it H;obtain⟨sW,H⟩:=H;replace H:=ba H;obtain⟨bBS,A8,H⟩:=H
    replace H:=ib H;rcases H with ⟨rfl,H⟩|⟨rfl,H⟩
    ·by_cases c10:bC>0
     ·rw [if_pos c10] at H;have BV:=decide_eq_true c10;clear c10;obtain⟨aGl,aXZ⟩: ∃j_:Int,(wrap64 (bC-1))=j_:=⟨_,rfl⟩
      rw [aXZ] at H
      have bIK:(IntKind.i64.wrap (bC-1))=aGl:=(iZ _).trans aXZ
      replace H:=it H;obtain⟨xN,H⟩:=H;replace H:=it H;obtain⟨aH2,H⟩:=H
      replace H:=iv H;rcases H with ⟨BZ,H⟩|⟨BZ,H⟩
      ·obtain rfl:=si H;have⟨_,_,_,_⟩:=oP IV.out
       have p7:0≤(bC:Int):=dt
       have q7:bC<(iG.size:Int):=dt
       have hx7:=kL iG bC;replace p7:=eq_true p7;replace q7:=eq_true q7
       have p14:0≤((aGl):Int):=dt
       have q14:(aGl)<(iG.size:Int):=dt
       have a1R:=kL iG (aGl)
       replace p14:=eq_true p14
       replace q14:=eq_true q14
       have p15:0≤(bC:Int):=dt
       have q15:bC<(iG.size:Int):=dt
       have bJh:=kL iG bC
       replace p15:=eq_true p15
       replace q15:=eq_true q15
       go_wp2
       repeat(go_quiet ((go_at_call 110;(with_reducible refine(oH.calls (bt iG bC) true _ A8.out).mono ?_);rintro e w' ⟨rfl,⟨nd,rfl⟩⟩;exact⟨rfl,_,World.drewN_drewN _ _ _⟩));try go_wp2)
       go_ret
       exact⟨by rfl,cK XB.out⟩
      have H' :=am H
      clear H;have⟨_,_,_,_⟩:=oP IV.out
      have p7:0≤(bC:Int):=dt
      have q7:bC<(iG.size:Int):=dt
      have hx7:=kL iG bC;replace p7:=eq_true p7;replace q7:=eq_true q7
      have p14:0≤((aGl):Int):=dt
      have q14:(aGl)<(iG.size:Int):=dt
      have a1R:=kL iG (aGl)
      replace p14:=eq_true p14
      replace q14:=eq_true q14
      have p15:0≤(bC:Int):=dt
      have q15:bC<(iG.size:Int):=dt
      have bJh:=kL iG bC
      replace p15:=eq_true p15
      replace q15:=eq_true q15
      go_wp2
      repeat(go_quiet ((go_at_call 110;(with_reducible refine(oH.calls (bt iG bC) true _ A8.out).mono ?_);rintro e w' ⟨rfl,⟨nd,rfl⟩⟩;exact⟨rfl,_,World.drewN_drewN _ _ _⟩));try go_wp2)
      go_roundg k1
      case measure=>have:=lM.out;omega
      case rel=>exact⟨(wrap64 (bC+1)),sq,H',⟨rO⟩,⟨bq IV.out⟩,⟨cK XB.out⟩⟩
     rw [if_neg c10] at H;have BV:=decide_eq_false c10;clear c10
     have H' :=am H
     clear H;have⟨_,_,_,_⟩:=oP IV.out
     have p7:0≤(bC:Int):=dt
     have q7:bC<(iG.size:Int):=dt
     have hx7:=kL iG bC;replace p7:=eq_true p7;replace q7:=eq_true q7
     go_wp2
     repeat(go_quiet ((go_at_call 110;(with_reducible refine(oH.calls (bt iG bC) true _ A8.out).mono ?_);rintro e w' ⟨rfl,⟨nd,rfl⟩⟩;exact⟨rfl,_,World.drewN_drewN _ _ _⟩));try go_wp2)
     go_roundg k1
     case measure=>have:=lM.out;omega
     case rel=>exact⟨(wrap64 (bC+1)),sq,H',⟨rO⟩,⟨bq IV.out⟩,⟨cK XB.out⟩⟩
    obtain rfl:=si H;have⟨_,_,_,_⟩:=oP IV.out
    have p7:0≤(bC:Int):=dt
    have q7:bC<(iG.size:Int):=dt
    have hx7:=kL iG bC;replace p7:=eq_true p7;replace q7:=eq_true q7
    go_wp2
    repeat(go_quiet ((go_at_call 110;(with_reducible refine(oH.calls (bt iG bC) false _ A8.out).mono ?_);rintro e w' ⟨rfl,⟨nd,rfl⟩⟩;exact⟨rfl,_,World.drewN_drewN _ _ _⟩));try go_wp2)
    go_ret
    exact⟨nD,cK XB.out⟩
   replace H:=ba H;obtain⟨bBT,A21,H⟩:=H
   replace H:=ib H;rcases H with ⟨rfl,H⟩|⟨rfl,H⟩
   ·obtain rfl:=si H;have⟨_,_,_,_⟩:=oP IV.out
    go_wp2_with (go_at_call 21;(with_reducible refine(eD.calls k1 iD true _ A21.out).mono ?_);rintro e w' ⟨rfl,⟨nd,rfl⟩⟩)
    go_ret
    exact⟨nD,cK XB.out⟩
   obtain rfl:=si H;have⟨_,_,_,_⟩:=oP IV.out
   go_wp2_with (go_at_call 21;(with_reducible refine(eD.calls k1 iD false _ A21.out).mono ?_);rintro e w' ⟨rfl,⟨nd,rfl⟩⟩)
   go_ret
   exact⟨nD,cK XB.out⟩
def dR.l0:Nat→List (sV)→List (sV)→Int→Int→Option (Bool)
 |0,_,_,_,_=>none
 |k+1,x0,x5,x6,x7=>if x7<x6 then(if 0≤x7 then(if x7<(x5.length:Int)then((gQ.f k ((aX x5 x7).f0) ((aX x5 x7).f1)).bind fun bBU=>(if bBU=true then(if x7>0 then(if 0≤(wrap64 (x7-1))then(if(wrap64 (x7-1))<(x0.length:Int)then(if((Op.bytesLess (((aX x0 (wrap64 (x7-1))).f0).toList) (((aX x5 x7).f0).toList))=true)then(dR.l0 k x0 x5 x6 (wrap64 (x7+1)))else(some false))else(none))else(none))else(dR.l0 k x0 x5 x6 (wrap64 (x7+1))))else(some false)))else(none))else(none))else(some (decide ((x0.length:Int)≤24)))
def dR.f (k:Nat) (l0:List (sV)):Option (Bool):=dR.l0 k l0 l0 (l0.length:Int) 0
def dR.T4:Bool×List (List Nat×List Nat):=(true,[([],[]),([0],[0]),([1],[1]),([2,1],[2]),([3],[3]),([4,3],[3,4]),([5,3,3],[3,5]),([6],[6]),([6],[6]),([8,6],[6,8]),([7,9,6],[6,7,9]),([10,6],[6,10]),([11,6],[6,11]),([6],[6]),([13,6],[6,13]),([12,14,6],[6,12,14]),([6,15,3],[3,6,15]),([3,16],[3,16])])
def dR.B4:List Nat:=[0,1,3,7,15,31,63,127,127,383,1023,2047,4095,127,8319,32767,65535,131071]
theorem dR.J7:nX .any (opsOf Tryz.f54 4)=dR.T4:=by kernel_rfl
theorem dR.yN:jA dR.T4.2 dR.B4=true:=by kernel_rfl
theorem dR.calls (k:Nat) (A0:Option Addr) (c0:Nat) (l0:List (sV)) (r:Bool) (w:World) (hr0:Kd.C NK w A0 l0.length l0) (hc0:l0.length≤c0) (h:dR.f k l0=some r):
  Calls Tryz.prog 54 #[.slice A0 l0.length c0] w fun e w' =>e= .returned (.bool r)∧Below w.heap.size w w' :=by
 have aCt:=Tryz.underlying56;have lX:=am hr0;have vX:=am hc0;clear hr0 hc0;have HB:=am (Below.refl w.heap.size w)
 have H:=h;unfold dR.f at H
 clear h
 have H' :=am H
 clear H;go_enter Tryz.func54,Tryz.ntmps54;go_wp2
 go_loopg [7] k (fun kq v7 w' => ∃(bC:Int),v7= .int .i64 bC∧aC (dR.l0 kq l0 l0 (l0.length:Int) bC=some r)∧aC (kq≤k)∧aC (Below w.heap.size w w'))
 case atStart=>exact⟨(0),sq,H',⟨Nat.le_refl _⟩,⟨gP⟩⟩
 case round=>
  clear H';obtain⟨bC,rfl,HA,lM,HB⟩:=hrel
  cases gk with
  |zero=>exact absurd HA.out (by simp [dR.l0])
  |succ k1=>
   have H:=HA.out;clear HA;simp only [dR.l0] at H
   replace H:=iv H;rcases H with ⟨wD,H⟩|⟨wD,H⟩
   ·replace H:=it H;obtain⟨oG,H⟩:=H
    replace H:=it H;obtain⟨qZ,H⟩:=H;replace H:=ba H;obtain⟨bBU,A5,H⟩:=H
    replace H:=ib H;rcases H with ⟨rfl,H⟩|⟨rfl,H⟩
    ·by_cases c7:bC>0
     ·rw [if_pos c7] at H;have wR:=decide_eq_true c7;clear c7;obtain⟨xJ,aEI⟩: ∃j_:Int,(wrap64 (bC-1))=j_:=⟨_,rfl⟩
      replace H:(if 0≤(xJ)then(if(xJ)<(l0.length:Int)then(if((Op.bytesLess (((aX l0 (xJ)).f0).toList) (((aX l0 bC).f0).toList))=true)then(dR.l0 k1 l0 l0 (l0.length:Int) (wrap64 (bC+1)))else(some false))else(none))else(none))=some r:=aME
      have aYg:(IntKind.i64.wrap (bC-1))=xJ:=(iZ _).trans aEI
      replace H:=it H;obtain⟨wE,H⟩:=H;replace H:=it H;obtain⟨BV,H⟩:=H
      by_cases c11:((Op.bytesLess (((aX l0 (xJ)).f0).toList) (((aX l0 bC).f0).toList))=true)
      ·rw [if_pos c11] at H
       have zG:(Op.bytesLess (((aX l0 (xJ)).f0).toList) (((aX l0 bC).f0).toList))=true:=c11
       clear c11
       have H' :=am H
       clear H
       obtain⟨I8,aFM,aCB,aCC⟩:=kp2 HB (vH lX.out bC dt dt);cases aFM;have a2r:=e0 bC;have a2A:=e1 bC (l0.length:Int)
       try go_wp2_with (refine gd 4 ?_;refine bx 4 (cs:= #[.string (⟨#[]⟩:ByteArray), .string (⟨#[]⟩:ByteArray)]) (t:=56) ?_;intro kW hg w12 bT hb;have jY:=am (bT);have aLJ:=am ((kI:w.heap.size≤kW));have BM:=am ((kI:w.heap.size≤kW));replace HB:=o8 hb;clear hb bT hg;have⟨_,_,_,_⟩:=oP jY.out)
       have vK:aC (((w12.setCell ⟨kW,0,none⟩ (.string ((aX l0 bC).f0))).setCell ⟨kW,1,none⟩ (.string ((aX l0 bC).f1))).heap[kW]?=some (.cells #[.string ((aX l0 bC).f0), .string ((aX l0 bC).f1)] 56 (0,0))):=⟨aSi⟩
       have vL:aC (Below w.heap.size w ((w12.setCell ⟨kW,0,none⟩ (.string ((aX l0 bC).f0))).setCell ⟨kW,1,none⟩ (.string ((aX l0 bC).f1)))):=⟨cK BM.out⟩
       clear jY HB;generalize ((w12.setCell ⟨kW,0,none⟩ (.string ((aX l0 bC).f0))).setCell ⟨kW,1,none⟩ (.string ((aX l0 bC).f1)))=w14 at vK vL⊢;have jY:=vK;have HB:=vL;clear vK vL;replace jY:=am (bF jY.out);replace HB:=am (bH HB.out)
       obtain⟨aMo,aZS,AO,AP⟩:=vH lX.out (xJ) dt dt;have P7:=AP;have P6:=AO
       obtain rfl:I8=aMo:=(by injection aZS)
       replace AO:=kp HB.out AO;replace AP:=kp HB.out AP;have bJM:=e0 (xJ);have bKv:=e1 (xJ) (l0.length:Int)
       refine st (n:=18) (S:=fun w' =>w'.cell? ⟨kW,0,none⟩=some (.string ((aX l0 bC).f0))∧w'.cell? ⟨kW,1,none⟩=some (.string ((aX l0 bC).f1))∧w'.cell? (I8.add (((xJ)).toNat*2))=some (.string ((aX l0 (xJ)).f0))∧w'.cell? ⟨(I8.add (((xJ)).toNat*2)).block,(I8.add (((xJ)).toNat*2)).off+1,none⟩=some (.string ((aX l0 (xJ)).f1))) (ds:=[]) ⟨bd jY.out 0,bd jY.out 1,(kp HB.out P6),(kp HB.out P7)⟩ (fun hHeld=>?_);refine dW dR.J7 dR.yN (fun kQ rT=>?_)
       generalize w14.drew=w15 at jY HB AO AP hHeld⊢;refine VG 0 12 hHeld ?_;refine qF 1 13 (fun K hK=>?_)
       refine EI Tryz.func87 #[.agg #[.string ((aX l0 bC).f0), .string ((aX l0 bC).f1)]] ?_
       with_reducible refine(gQ.calls k1 ((aX l0 bC).f0) ((aX l0 bC).f1) true _ A5.out).mono ?_
       rintro e w16 ⟨rfl,hb⟩;refine⟨_,rfl,?_⟩;replace jY:=kb jY hb;replace HB:=st1 BM hb;clear hb;refine hK.out _ _ ⟨bd jY.out 0,bd jY.out 1,(kp HB.out P6),(kp HB.out P7)⟩ (fun hHeld=>?_);clear hK K;refine nm 13 ?_;refine pu 2 14 ?_;refine pu 3 15 ?_;refine pu 4 16 ?_;refine pu 5 17 ?_;refine pu 6 18 ?_;refine pu 7 19 ?_;refine pu 8 20 ?_;refine pu 9 21 ?_;refine pu 10 22 ?_;refine pu 11 23 ?_;refine pu 13 25 ?_;refine VG 12 24 hHeld ?_;refine VG 14 26 hHeld ?_;refine pu 15 27 ?_;refine pu 16 28 ?_;refine pu 17 29 ?_
       refine kD (fQ kQ.out (by kernel_rfl)) ?_
       try go_wp2
       go_roundg k1
       case measure=>have:=lM.out;omega
       case rel=>exact⟨(wrap64 (bC+1)),sq,H',⟨rO⟩,⟨cK BM.out⟩⟩
      rw [if_neg c11] at H
      have zG:(Op.bytesLess (((aX l0 (xJ)).f0).toList) (((aX l0 bC).f0).toList))=false:=by simpa using c11
      clear c11;obtain rfl:=si H
      obtain⟨I8,aFM,aCB,aCC⟩:=kp2 HB (vH lX.out bC dt dt);cases aFM;have a2r:=e0 bC;have a2A:=e1 bC (l0.length:Int)
      try go_wp2_with (refine gd 4 ?_;refine bx 4 (cs:= #[.string (⟨#[]⟩:ByteArray), .string (⟨#[]⟩:ByteArray)]) (t:=56) ?_;intro kW hg w17 bT hb;have jY:=am (bT);have aLJ:=am ((kI:w.heap.size≤kW));have BM:=am ((kI:w.heap.size≤kW));replace HB:=o8 hb;clear hb bT hg;have⟨_,_,_,_⟩:=oP jY.out)
      have vK:aC (((w17.setCell ⟨kW,0,none⟩ (.string ((aX l0 bC).f0))).setCell ⟨kW,1,none⟩ (.string ((aX l0 bC).f1))).heap[kW]?=some (.cells #[.string ((aX l0 bC).f0), .string ((aX l0 bC).f1)] 56 (0,0))):=⟨aSi⟩
      have vL:aC (Below w.heap.size w ((w17.setCell ⟨kW,0,none⟩ (.string ((aX l0 bC).f0))).setCell ⟨kW,1,none⟩ (.string ((aX l0 bC).f1)))):=⟨cK BM.out⟩
      clear jY HB;generalize ((w17.setCell ⟨kW,0,none⟩ (.string ((aX l0 bC).f0))).setCell ⟨kW,1,none⟩ (.string ((aX l0 bC).f1)))=w19 at vK vL⊢;have jY:=vK;have HB:=vL;clear vK vL;replace jY:=am (bF jY.out);replace HB:=am (bH HB.out)
      obtain⟨aMo,aZS,AO,AP⟩:=vH lX.out (xJ) dt dt;have P7:=AP;have P6:=AO
      obtain rfl:I8=aMo:=(by injection aZS)
      replace AO:=kp HB.out AO;replace AP:=kp HB.out AP;have bJM:=e0 (xJ);have bKv:=e1 (xJ) (l0.length:Int)
      refine st (n:=18) (S:=fun w' =>w'.cell? ⟨kW,0,none⟩=some (.string ((aX l0 bC).f0))∧w'.cell? ⟨kW,1,none⟩=some (.string ((aX l0 bC).f1))∧w'.cell? (I8.add (((xJ)).toNat*2))=some (.string ((aX l0 (xJ)).f0))∧w'.cell? ⟨(I8.add (((xJ)).toNat*2)).block,(I8.add (((xJ)).toNat*2)).off+1,none⟩=some (.string ((aX l0 (xJ)).f1))) (ds:=[]) ⟨bd jY.out 0,bd jY.out 1,(kp HB.out P6),(kp HB.out P7)⟩ (fun hHeld=>?_);refine dW dR.J7 dR.yN (fun kQ rT=>?_)
      generalize w19.drew=w20 at jY HB AO AP hHeld⊢;refine VG 0 12 hHeld ?_;refine qF 1 13 (fun K hK=>?_)
      refine EI Tryz.func87 #[.agg #[.string ((aX l0 bC).f0), .string ((aX l0 bC).f1)]] ?_
      with_reducible refine(gQ.calls k1 ((aX l0 bC).f0) ((aX l0 bC).f1) true _ A5.out).mono ?_
      rintro e w21 ⟨rfl,hb⟩;refine⟨_,rfl,?_⟩;replace jY:=kb jY hb;replace HB:=st1 BM hb;clear hb;refine hK.out _ _ ⟨bd jY.out 0,bd jY.out 1,(kp HB.out P6),(kp HB.out P7)⟩ (fun hHeld=>?_);clear hK K;refine nm 13 ?_;refine pu 2 14 ?_;refine pu 3 15 ?_;refine pu 4 16 ?_;refine pu 5 17 ?_;refine pu 6 18 ?_;refine pu 7 19 ?_;refine pu 8 20 ?_;refine pu 9 21 ?_;refine pu 10 22 ?_;refine pu 11 23 ?_;refine pu 13 25 ?_;refine VG 12 24 hHeld ?_;refine VG 14 26 hHeld ?_;refine pu 15 27 ?_;refine pu 16 28 ?_;refine pu 17 29 ?_
      refine kD (fQ kQ.out (by kernel_rfl)) ?_
      try go_wp2
      go_ret
      exact⟨aZs,cK BM.out⟩
     rw [if_neg c7] at H;have wR:=decide_eq_false c7;clear c7
     have H' :=am H
     clear H
     obtain⟨I8,aFM,aCB,aCC⟩:=kp2 HB (vH lX.out bC dt dt);cases aFM;have a2r:=e0 bC;have a2A:=e1 bC (l0.length:Int)
     try go_wp2_with (refine gd 4 ?_;refine bx 4 (cs:= #[.string (⟨#[]⟩:ByteArray), .string (⟨#[]⟩:ByteArray)]) (t:=56) ?_;intro kW hg w22 bT hb;have jY:=am (bT);have aLJ:=am ((kI:w.heap.size≤kW));have BM:=am ((kI:w.heap.size≤kW));replace HB:=o8 hb;clear hb bT hg;have⟨_,_,_,_⟩:=oP jY.out)
     have vK:aC (((w22.setCell ⟨kW,0,none⟩ (.string ((aX l0 bC).f0))).setCell ⟨kW,1,none⟩ (.string ((aX l0 bC).f1))).heap[kW]?=some (.cells #[.string ((aX l0 bC).f0), .string ((aX l0 bC).f1)] 56 (0,0))):=⟨aSi⟩
     have vL:aC (Below w.heap.size w ((w22.setCell ⟨kW,0,none⟩ (.string ((aX l0 bC).f0))).setCell ⟨kW,1,none⟩ (.string ((aX l0 bC).f1)))):=⟨cK BM.out⟩
     clear jY HB;generalize ((w22.setCell ⟨kW,0,none⟩ (.string ((aX l0 bC).f0))).setCell ⟨kW,1,none⟩ (.string ((aX l0 bC).f1)))=w24 at vK vL⊢;have jY:=vK;have HB:=vL;clear vK vL;replace jY:=am (bF jY.out);replace HB:=am (bH HB.out)
     refine st (n:=18) (S:=fun w' =>w'.cell? ⟨kW,0,none⟩=some (.string ((aX l0 bC).f0))∧w'.cell? ⟨kW,1,none⟩=some (.string ((aX l0 bC).f1))) (ds:=[]) ⟨bd jY.out 0,bd jY.out 1⟩ (fun hHeld=>?_);refine dW dR.J7 dR.yN (fun kQ rT=>?_)
     generalize w24.drew=w25 at jY HB hHeld⊢;refine V9 0 12 hHeld ?_;refine qF 1 13 (fun K hK=>?_)
     refine EI Tryz.func87 #[.agg #[.string ((aX l0 bC).f0), .string ((aX l0 bC).f1)]] ?_
     with_reducible refine(gQ.calls k1 ((aX l0 bC).f0) ((aX l0 bC).f1) true _ A5.out).mono ?_
     rintro e w26 ⟨rfl,hb⟩;refine⟨_,rfl,?_⟩;replace jY:=kb jY hb;replace HB:=st1 BM hb;clear hb;refine hK.out _ _ ⟨bd jY.out 0,bd jY.out 1⟩ (fun hHeld=>?_);clear hK K;refine nm 13 ?_;refine pu 2 14 ?_;refine pu 3 15 ?_;refine pu 4 16 ?_;refine pu 5 17 ?_;refine pu 6 18 ?_;refine kF 7 19 ?_;refine kF 8 20 ?_;refine kF 9 21 ?_;refine kF 10 22 ?_;refine kF 11 23 ?_;refine kF 12 24 ?_;refine kF 13 25 ?_;refine kF 14 26 ?_;refine kF 15 27 ?_;refine pu 16 28 ?_;refine pu 17 29 ?_
     refine kD (fQ kQ.out (by kernel_rfl)) ?_
     try go_wp2
     go_roundg k1
     case measure=>have:=lM.out;omega
     case rel=>exact⟨(wrap64 (bC+1)),sq,H',⟨rO⟩,⟨cK BM.out⟩⟩
    obtain rfl:=si H
    obtain⟨I8,aFM,aCB,aCC⟩:=kp2 HB (vH lX.out bC dt dt);cases aFM;have a2r:=e0 bC;have a2A:=e1 bC (l0.length:Int)
    try go_wp2_with (refine gd 4 ?_;refine bx 4 (cs:= #[.string (⟨#[]⟩:ByteArray), .string (⟨#[]⟩:ByteArray)]) (t:=56) ?_;intro kW hg w27 bT hb;have jY:=am (bT);have aLJ:=am ((kI:w.heap.size≤kW));have BM:=am ((kI:w.heap.size≤kW));replace HB:=o8 hb;clear hb bT hg;have⟨_,_,_,_⟩:=oP jY.out)
    have vK:aC (((w27.setCell ⟨kW,0,none⟩ (.string ((aX l0 bC).f0))).setCell ⟨kW,1,none⟩ (.string ((aX l0 bC).f1))).heap[kW]?=some (.cells #[.string ((aX l0 bC).f0), .string ((aX l0 bC).f1)] 56 (0,0))):=⟨aSi⟩
    have vL:aC (Below w.heap.size w ((w27.setCell ⟨kW,0,none⟩ (.string ((aX l0 bC).f0))).setCell ⟨kW,1,none⟩ (.string ((aX l0 bC).f1)))):=⟨cK BM.out⟩
    clear jY HB;generalize ((w27.setCell ⟨kW,0,none⟩ (.string ((aX l0 bC).f0))).setCell ⟨kW,1,none⟩ (.string ((aX l0 bC).f1)))=w29 at vK vL⊢;have jY:=vK;have HB:=vL;clear vK vL;replace jY:=am (bF jY.out);replace HB:=am (bH HB.out)
    refine st (n:=18) (S:=fun w' =>w'.cell? ⟨kW,0,none⟩=some (.string ((aX l0 bC).f0))∧w'.cell? ⟨kW,1,none⟩=some (.string ((aX l0 bC).f1))) (ds:=[]) ⟨bd jY.out 0,bd jY.out 1⟩ (fun hHeld=>?_);refine dW dR.J7 dR.yN (fun kQ rT=>?_)
    generalize w29.drew=w30 at jY HB hHeld⊢;refine V9 0 12 hHeld ?_;refine qF 1 13 (fun K hK=>?_)
    refine EI Tryz.func87 #[.agg #[.string ((aX l0 bC).f0), .string ((aX l0 bC).f1)]] ?_
    with_reducible refine(gQ.calls k1 ((aX l0 bC).f0) ((aX l0 bC).f1) false _ A5.out).mono ?_
    rintro e w31 ⟨rfl,hb⟩;refine⟨_,rfl,?_⟩;replace jY:=kb jY hb;replace HB:=st1 BM hb;clear hb;refine hK.out _ _ ⟨bd jY.out 0,bd jY.out 1⟩ (fun hHeld=>?_);clear hK K;refine nm 13 ?_;refine pu 2 14 ?_;refine pu 3 15 ?_;refine kF 4 16 ?_;refine kF 5 17 ?_;refine kF 6 18 ?_;refine kF 7 19 ?_;refine kF 8 20 ?_;refine kF 9 21 ?_;refine kF 10 22 ?_;refine kF 11 23 ?_;refine kF 12 24 ?_;refine kF 13 25 ?_;refine kF 14 26 ?_;refine kF 15 27 ?_;refine kF 16 28 ?_;refine pu 17 29 ?_
    refine kD (fQ kQ.out (by kernel_rfl)) ?_
    try go_wp2
    go_ret
    exact⟨nD,cK BM.out⟩
   obtain rfl:=si H;go_wp2;go_ret
   exact⟨nD,gP⟩
def kX.f (k:Nat) (fI:List (kH)) (bV:List (sV)):Option (Bool):=(dO.f k fI).bind fun bBV=>(if bBV=true then((dR.f k bV).bind fun a3a=>(some a3a))else(some false))
theorem kX.calls (k:Nat) (mH:Option Addr) (mI:Nat) (fI:List (kH)) (nQ:Option Addr) (lH:Nat) (bV:List (sV)) (r:Bool) (w:World) (uI:Kd.C yG w mH fI.length fI) (uH:fI.length≤mI) (rW:Kd.C NK w nQ bV.length bV) (rV:bV.length≤lH) (h:kX.f k fI bV=some r):
  Calls Tryz.prog 20 #[.agg #[.slice mH fI.length mI, .slice nQ bV.length lH]] w fun e w' =>e= .returned (.bool r)∧Below w.heap.size w w' :=by
 have U7:=Tryz.underlying26;have p9:=am uI;have pY:=am uH;clear uI uH;have nE:=am rW;have sN:=am rV;clear rW rV;have HB:=am (Below.refl w.heap.size w)
 have H:=h;unfold kX.f at H
 clear h;replace H:=ba H;obtain⟨bBV,A2,H⟩:=H
 replace H:=ib H;rcases H with ⟨rfl,H⟩|⟨rfl,H⟩
 ·replace H:=ba H;obtain⟨a3a,A4,H⟩:=H;obtain rfl:=si H;go_enter Tryz.func20,Tryz.ntmps20
  go_wp2_with (first|(refine gd 1 ?_;refine bx 1 (cs:= #[.slice mH fI.length mI, .slice nQ bV.length lH]) (t:=26) ?_;intro aEy hg w5 bT hb;have LK:=am (bT);have a3Z:=am ((kI:w.heap.size≤aEy));have aAv:=am ((kI:w.heap.size≤aEy));replace HB:=o8 hb;clear hb bT hg;have⟨_,_,_,_⟩:=oP LK.out)|(refine gd 5 ?_;refine gv Tryz.func53 (dO.calls k _ _ fI true _ (cq (Kd.dV p9.out HB.out)) pY.out A2.out) ?_;intro w7 hb;replace LK:=kb LK hb;replace HB:=st1 aAv hb;clear hb;have⟨_,_,_,_⟩:=oP LK.out)|(go_at_call 54;(with_reducible refine(dR.calls k _ _ bV a3a _ ?dS sN.out A4.out).mono ?_);(case dS=>exact cq (Kd.dV nE.out HB.out));rintro e w9 ⟨rfl,hb⟩;replace LK:=kb LK hb;replace HB:=st1 aAv hb;clear hb))
  go_ret
  exact⟨nD,cK aAv.out⟩
 obtain rfl:=si H;go_enter Tryz.func20,Tryz.ntmps20
 go_wp2_with (first|(refine gd 1 ?_;refine bx 1 (cs:= #[.slice mH fI.length mI, .slice nQ bV.length lH]) (t:=26) ?_;intro aEy hg w10 bT hb;have LK:=am (bT);have a3Z:=am ((kI:w.heap.size≤aEy));have aAv:=am ((kI:w.heap.size≤aEy));replace HB:=o8 hb;clear hb bT hg;have⟨_,_,_,_⟩:=oP LK.out)|(refine gd 5 ?_;refine gv Tryz.func53 (dO.calls k _ _ fI false _ (cq (Kd.dV p9.out HB.out)) pY.out A2.out) ?_;intro w12 hb;replace LK:=kb LK hb;replace HB:=st1 aAv hb;clear hb))
 go_ret
 exact⟨nD,cK aAv.out⟩
end Go.Proofs.YtpljfjbhlboffaaGreat.eH

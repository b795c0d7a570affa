import Derived.Test.YtpljfjbhlboffaaGreatQFnMachineBookx29
import Derived.Test.YtpljfjbhlboffaaGreatQFnMachineBookx32
namespace Go.Proofs.YtpljfjbhlboffaaGreat.eH
open Go.RowKit Go.Proofs.YtpljfjbhlboffaaGreatW.bJ Go.Proofs.YtpljfjbhlboffaaGreatW.gI Go.Proofs.YtpljfjbhlboffaaGreatW.jC Go.Proofs.YtpljfjbhlboffaaGreat.Sh
attribute [local go_sem] rD rF uY uZ pE pF rE rG
set_option linter.unusedVariables false
set_option linter.unusedSimpArgs false
mutual
def aN.j0:Nat→ByteArray→List (kG)→Bool→List (kH)→List (sV)→Option (Bool)
 |0,_,_,_,_,_=>none
 |k+1,x4,x5,x31,vD,vE=>if x31=true then((cZ.f k vD vE x4).bind fun aVt=>((gG.f k x5 aVt).bind fun a3g=>(some a3g)))else((lV.f k vD vE).bind fun aLn=>((aA.f k aLn).bind fun aHZ=>(if aHZ.2=true then((fD.f k aHZ.1 x4).bind fun aDe=>(if(x5.length:Int)>0 then(if 0<(x5.length:Int)then(aN.j1 k x4 x5 aHZ.1 aDe (((bD x5 0).f1)==1) vD vE)else(none))else(aN.j1 k x4 x5 aHZ.1 aDe false vD vE)))else(some true))))
def aN.j1:Nat→ByteArray→List (kG)→List (xH)→List ByteArray→Bool→List (kH)→List (sV)→Option (Bool)
 |0,_,_,_,_,_,_,_=>none
 |k+1,x4,x5,x6,x8,x57,vD,vE=>if x57=true then(aN.l0 k x4 x5 x6 x8 0 vD vE)else(aN.j3 k x4 x6 vD vE)
def aN.j3:Nat→ByteArray→List (xH)→List (kH)→List (sV)→Option (Bool)
 |0,_,_,_,_=>none
 |k+1,x4,x6,vD,vE=>(jU.f k x6 x4).bind fun aGX=>((mQ.f k vD vE x4).bind fun aGY=>(if(aGX==aGY)=true then((mR.f k x6).bind fun a3i=>((lV.f k vD vE).bind fun a3j=>(some (a3i==(a3j.length:Int)))))else(some false)))
def aN.l0:Nat→ByteArray→List (kG)→List (xH)→List ByteArray→Int→List (kH)→List (sV)→Option (Bool)
 |0,_,_,_,_,_,_,_=>none
 |k+1,x4,x5,x6,x8,x9,vD,vE=>if x9<(x5.length:Int)then(if 0≤x9 then((l9.f k x8 ((bD x5 x9).f0)).bind fun a3h=>(if a3h=true then(aN.l0 k x4 x5 x6 x8 (wrap64 (x9+1)) vD vE)else(some false)))else(none))else(aN.j3 k x4 x6 vD vE)
end
def aN.f (k:Nat) (l0:List Int):Option (Bool):=if(l0.length:Int)>1048576 then(some true)else((fE.f k l0).bind fun DW=>((dI.f k DW.1 DW.2.1 DW.2.2).bind fun CV=>((cZ.f k DW.1 DW.2.1 DW.2.2).bind fun aLm=>((gG.f k CV aLm).bind fun bCj=>(if bCj=true then((dX.f k DW.1 DW.2.1).bind fun aVs=>(aN.j0 k DW.2.2 CV (!aVs) DW.1 DW.2.1))else(aN.j0 k DW.2.2 CV true DW.1 DW.2.1))))))
def aN.T17:Bool×List (List Nat×List Nat):=(true,[([],[]),([],[]),([0,1],[0,1]),([],[]),([],[]),([3,4,2],[3,4]),([2,5],[2,5]),([6,5],[6]),([7],[7]),([8,7,7],[7,8]),([7],[7]),([10,9,7],[7,10]),([11,7],[7,11]),([9,12,7],[7,9,12]),([7,13],[7,13]),([14,11,0,1,2,3,4,5,6,7,8,9,10,11,12,13,14],[14])])
def aN.B17:List Nat:=[0,0,3,0,0,31,63,127,255,511,255,2047,4095,8191,16383,32767]
theorem aN.bCl:nX .any (opsOf Tryz.f3 17)=aN.T17:=by kernel_rfl
theorem aN.aZu:jA aN.T17.2 aN.B17=true:=by kernel_rfl
set_option maxHeartbeats 8000000 in
set_option maxRecDepth 100000 in
theorem aN.calls (k:Nat) (A0:Option Addr) (c0:Nat) (l0:List Int) (r:Bool) (w:World) (hr0:Kd.C (Kd.int .u8) w A0 l0.length l0) (hc0:l0.length≤c0) (h:aN.f k l0=some r) (bAV:r=true:=by exact rfl):
  Calls Tryz.prog 3 #[.slice A0 l0.length c0] w fun e w' =>e= .returned (.bool r)∧Below w.heap.size w w' :=by
 have U7:=Tryz.underlying26;have lX:=am hr0;have vX:=am hc0;clear hr0 hc0;have HB:=am (Below.refl w.heap.size w)
 have H:=h;unfold aN.f at H
 clear h
 by_cases c2:(l0.length:Int)>1048576
 ·rw [if_pos c2] at H;have wD:=decide_eq_true c2
  have ZW:decide (1048576<l0.length)=true:=decide_eq_true (by omega)
  clear c2;obtain rfl:=si H;go_enter Tryz.func3,Tryz.ntmps3;go_wp2;go_ret
  exact⟨nD,gP⟩
 rw [if_neg c2] at H;have wD:=decide_eq_false c2
 have ZW:decide (1048576<l0.length)=false:=decide_eq_false (by omega)
 clear c2;replace H:=ba H;obtain⟨⟨tN,uM,RQ⟩,A3,H⟩:=H;dsimp only at H;replace H:=ba H;obtain⟨CV,A4,H⟩:=H;have HC5:=am H;clear H;go_enter Tryz.func3,Tryz.ntmps3
 go_upto_region 5 with (first|(refine gd 15 ?_;refine gm Tryz.func4 (fE.calls k _ _ l0 tN uM RQ _ ?dS vX.out A3.out) ?_;(case dS=>repeat(exact lX.out));rintro e w6 ⟨bT3,bT4,rfl,ho0,ho1,hb⟩;refine⟨_,rfl,?_⟩;have vO:=am (Kd.dZ ho0 (aH gP));have vP:=am (Kd.dZ ho1 (aH gP));replace HB:=o8 hb;clear hb;clear ho0 ho1)|(refine gd 3 ?_;((refine qI (by rfl) ?_;dsimp only));refine bx 3 (cs:= #[.slice none 0 0, .slice none 0 0]) (t:=26) ?_;intro yQ hg w7 bT hb;replace vO:=kr vO hb;replace vP:=kr vP hb;have iP:=am (bT);have bMS:=am ((kI:w.heap.size≤yQ));have nS:=am ((kI:w.heap.size≤yQ));replace HB:=o8 hb;clear hb bT hg;obtain⟨Ao8,ZZ,eo8⟩:=Kd.bS vO.out;subst eo8;have⟨a1g,a1h,a1u,a1v⟩:=oP iP.out;obtain⟨pG,oU,aFQ⟩:=Kd.bS vP.out;subst aFQ)|(refine gd 20 ?_;refine gx Tryz.func5 (dI.calls k _ _ tN _ _ uM RQ CV _ ?dS ((Kd.aM vO.out).2.1) ?mU ((Kd.aM vP.out).2.1) A4.out) ?_;(case dS=>refine(Kd.aM (e:=87) (base:=w.heap.size) (ok:=fun k_=>True) (n:=tN.length) (c:=ZZ) ?_).2.2;exact(rq ((Kd.bA (Kd.bZ (p:=⟨yQ,1,none⟩) (Kd.bZ (p:=⟨yQ,0,none⟩) (Kd.eQ vO.out iP.out (by decide)) (fun _ hk=>hk.2) (.slice Ao8 tN.length ZZ)) (fun _ hk=>hk.2) (.slice pG uM.length oU)) (fun _ h_=>h_.1)))));(case mU=>refine(Kd.aM (e:=56) (base:=w.heap.size) (ok:=fun k_=>True) (n:=uM.length) (c:=oU) ?_).2.2;exact(rq ((Kd.bA (Kd.bZ (p:=⟨yQ,1,none⟩) (Kd.bZ (p:=⟨yQ,0,none⟩) (Kd.eQ vP.out iP.out (by decide)) (fun _ hk=>hk.2) (.slice Ao8 tN.length ZZ)) (fun _ hk=>hk.2) (.slice pG uM.length oU)) (fun _ h_=>h_.1)))));rintro a3m w11 ⟨ho0,hb⟩;replace vO:=am (Kd.nP (rq ((Kd.bA (Kd.bZ (p:=⟨yQ,1,none⟩) (Kd.bZ (p:=⟨yQ,0,none⟩) (Kd.eQ vO.out iP.out (by decide)) (fun _ hk=>hk.2) (.slice Ao8 tN.length ZZ)) (fun _ hk=>hk.2) (.slice pG uM.length oU)) (fun _ h_=>h_.1)))) hb);replace vP:=am (Kd.nP (rq ((Kd.bA (Kd.bZ (p:=⟨yQ,1,none⟩) (Kd.bZ (p:=⟨yQ,0,none⟩) (Kd.eQ vP.out iP.out (by decide)) (fun _ hk=>hk.2) (.slice Ao8 tN.length ZZ)) (fun _ hk=>hk.2) (.slice pG uM.length oU)) (fun _ h_=>h_.1)))) hb);have zC:=am (Kd.dZ ho0 (aH (cK nS.out)));replace iP:=am (jD (g:=yQ) (o:= .cells #[.slice Ao8 tN.length ZZ, .slice pG uM.length oU] 26 (0,0)) (by(with_reducible repeat(fail));refine bM (cs:= #[.slice Ao8 tN.length ZZ, .slice none 0 0]) ?_ 1 _ rfl;(with_reducible repeat(fail));refine bM (cs:= #[.slice none 0 0, .slice none 0 0]) ?_ 0 _ rfl;(with_reducible repeat(fail));exact iP.out) hb);replace HB:=st1 nS hb;clear hb;clear ho0))
 go_cut [31] (fun v31 wc=> ∃(kq:Nat) (aRw:Bool),v31= .bool aRw∧aC (aN.j0 kq RQ CV aRw tN uM=some r)∧aC (kq≤k)∧aC (Kd.R vT 40 wc w.heap.size (fun _=>True) a3m CV)∧aC (Kd.R yG 87 wc w.heap.size (fun _=>True) (.slice Ao8 tN.length ZZ) tN)∧aC (Kd.R NK 56 wc w.heap.size (fun _=>True) (.slice pG uM.length oU) uM)∧aC (wc.heap[yQ]?=some (.cells #[(.slice Ao8 tN.length ZZ),(.slice pG uM.length oU)] 26 (0,0)))∧aC (Below w.heap.size w wc))
 case first=>
  have H:=HC5.out;clear HC5;replace H:=ba H;obtain⟨aLm,A12,H⟩:=H;replace H:=ba H;obtain⟨bCj,A13,H⟩:=H
  replace H:=ib H;rcases H with ⟨rfl,H⟩|⟨rfl,H⟩
  ·replace H:=ba H;obtain⟨aVs,A15,H⟩:=H
   have H' :=am H
   clear H;have⟨_,_,_,_⟩:=oP iP.out
   go_wp2_with (first|(refine gd 24 ?_;refine gx Tryz.func7 (cZ.calls k _ _ tN _ _ uM RQ aLm _ (cq (Kd.aM vO.out).2.2) ((Kd.aM vO.out).2.1) (cq (Kd.aM vP.out).2.2) ((Kd.aM vP.out).2.1) A12.out) ?_;rintro bLv w17 ⟨ho0,hb⟩;replace vO:=kr vO hb;replace vP:=kr vP hb;have NT:=am (Kd.dZ (Kd.qW ho0 (Kd.pJ (rq zC.out))) (aH (cK nS.out)));replace zC:=am (Kd.lT (rq zC.out) (Kd.jE ho0) hb);replace iP:=kb iP hb;replace HB:=st1 nS hb;clear hb;clear ho0;obtain⟨bE7,bGt,a0g⟩:=Kd.bS zC.out;subst a0g;obtain⟨aBj,aBK,aFT⟩:=Kd.bS NT.out;subst aFT)|(refine gd 25 ?_;refine gv Tryz.func6 (gG.calls k _ _ CV _ _ aLm true _ (cq (Kd.aM zC.out).2.2) ((Kd.aM zC.out).2.1) (cq (Kd.aM NT.out).2.2) ((Kd.aM NT.out).2.1) A13.out) ?_;rintro w' ⟨nd,rfl⟩;have⟨_,_,_,_⟩:=oP iP.out)|(go_at_call 8;(with_reducible refine(dX.calls k _ _ tN _ _ uM aVs _ ?dS ((Kd.aM vO.out).2.1) ?mU ((Kd.aM vP.out).2.1) A15.out).mono ?_);(case dS=>exact cq (Kd.aM vO.out).2.2);(case mU=>exact cq (Kd.aM vP.out).2.2);rintro e w21 ⟨rfl,hb⟩;replace vO:=kr vO hb;replace vP:=kr vP hb;replace zC:=kr zC hb;replace NT:=kr NT hb;replace iP:=kb iP hb;replace HB:=st1 nS hb;clear hb))
   go_meet
   case rel=>exact⟨_,(!aVs),sq,H',⟨xI⟩,⟨rq (Kd.bA zC.out (fun _ hk=>trivial))⟩,⟨rq vO.out⟩,⟨rq vP.out⟩,⟨bq iP.out⟩,⟨cK nS.out⟩⟩
  have H' :=am H
  clear H;have⟨_,_,_,_⟩:=oP iP.out
  go_wp2_with (first|(refine gd 24 ?_;refine gx Tryz.func7 (cZ.calls k _ _ tN _ _ uM RQ aLm _ (cq (Kd.aM vO.out).2.2) ((Kd.aM vO.out).2.1) (cq (Kd.aM vP.out).2.2) ((Kd.aM vP.out).2.1) A12.out) ?_;rintro bLv w23 ⟨ho0,hb⟩;replace vO:=kr vO hb;replace vP:=kr vP hb;have NT:=am (Kd.dZ (Kd.qW ho0 (Kd.pJ (rq zC.out))) (aH (cK nS.out)));replace zC:=am (Kd.lT (rq zC.out) (Kd.jE ho0) hb);replace iP:=kb iP hb;replace HB:=st1 nS hb;clear hb;clear ho0;obtain⟨a3w,a9o,aND⟩:=Kd.bS zC.out;subst aND;obtain⟨bE8,bGv,a0h⟩:=Kd.bS NT.out;subst a0h)|(refine gd 25 ?_;refine gv Tryz.func6 (gG.calls k _ _ CV _ _ aLm false _ (cq (Kd.aM zC.out).2.2) ((Kd.aM zC.out).2.1) (cq (Kd.aM NT.out).2.2) ((Kd.aM NT.out).2.1) A13.out) ?_;rintro w' ⟨nd,rfl⟩))
  go_meet
  case rel=>exact⟨_,(true),sq,H',⟨xI⟩,⟨rq (Kd.bA zC.out (fun _ hk=>trivial))⟩,⟨rq vO.out⟩,⟨rq vP.out⟩,⟨bq iP.out⟩,⟨cK nS.out⟩⟩
 case rest=>
  clear HC5;clear wD ZW a1g a1h a1u a1v;obtain⟨kq,aRw,rfl,HA,HJ4,bY,fF,fG,iP,HB⟩:=hcut
  cases kq with
  |zero=>exact absurd HA.out (by simp [aN.j0])
  |succ kj4=>
   have H:=HA.out;clear HA;simp only [aN.j0] at H
   replace H:=ib H;rcases H with ⟨rfl,H⟩|⟨rfl,H⟩
   ·replace H:=ba H;obtain⟨aVt,A27,H⟩:=H;replace H:=ba H;obtain⟨a3g,A28,H⟩:=H;obtain rfl:=si H;have⟨_,_,_,_⟩:=oP iP.out
    go_wp2_with (first|(refine gd 35 ?_;refine gx Tryz.func7 (cZ.calls kj4 _ _ tN _ _ uM RQ aVt _ (cq (Kd.aM fF.out).2.2) ((Kd.aM fF.out).2.1) (cq (Kd.aM fG.out).2.2) ((Kd.aM fG.out).2.1) A27.out) ?_;rintro bT5 w30 ⟨ho0,hb⟩;replace fF:=kr fF hb;replace fG:=kr fG hb;have aLV:=am (Kd.dZ (Kd.qW ho0 (Kd.pJ (rq bY.out))) (aH (cK nS.out)));replace bY:=am (Kd.lT (rq bY.out) (Kd.jE ho0) hb);replace iP:=kb iP hb;replace HB:=st1 nS hb;clear hb;clear ho0;obtain⟨CZ,DD,aBP⟩:=Kd.bS bY.out;subst aBP;obtain⟨aYB,aZH,aNH⟩:=Kd.bS aLV.out;subst aNH)|(refine gd 36 ?_;refine gv Tryz.func6 (gG.calls kj4 _ _ CV _ _ aVt a3g _ (cq (Kd.aM bY.out).2.2) ((Kd.aM bY.out).2.1) (cq (Kd.aM aLV.out).2.2) ((Kd.aM aLV.out).2.1) A28.out) ?_;rintro w' ⟨nd,rfl⟩))
    go_ret
    exact⟨nD,cK nS.out⟩
   replace H:=ba H;obtain⟨aLn,A33,H⟩:=H;replace H:=ba H;obtain⟨⟨LC,bSS⟩,A34,H⟩:=H;dsimp only at H
   replace H:=ib H;rcases H with ⟨rfl,H⟩|⟨rfl,H⟩
   ·replace H:=ba H;obtain⟨aDe,A36,H⟩:=H;have aYR:=am H;clear H;have⟨aS3,aS4,aTn,aTo⟩:=oP iP.out
    go_upto_region 11 with (first|(refine gd 39 ?_;refine gx Tryz.func10 (lV.calls kj4 _ _ tN _ _ uM aLn _ (cq (Kd.aM fF.out).2.2) ((Kd.aM fF.out).2.1) (cq (Kd.aM fG.out).2.2) ((Kd.aM fG.out).2.1) A33.out) ?_;rintro bLw w39 ⟨ho0,hb⟩;replace bY:=kr bY hb;replace fF:=kr fF hb;replace fG:=kr fG hb;have DL:=am (Kd.dZ ho0 (aH (cK nS.out)));replace iP:=kb iP hb;replace HB:=st1 nS hb;clear hb;clear ho0;obtain⟨bQF,bRp,bHG⟩:=Kd.bS DL.out;subst bHG)|(refine gd 40 ?_;refine gx Tryz.func9 (aA.calls kj4 _ _ aLn LC true _ (cq (Kd.aM DL.out).2.2) ((Kd.aM DL.out).2.1) A34.out) ?_;rintro bLx w41 ⟨ho0,hb⟩;replace bY:=kr bY hb;replace fF:=kr fF hb;replace fG:=kr fG hb;replace DL:=kr DL hb;have aAF:=am (Kd.F6 ho0 (aH (cK nS.out)));replace iP:=kb iP hb;replace HB:=st1 nS hb;clear hb;clear ho0;obtain⟨aFq,aFL,a0k⟩:=Kd.VU aAF.out;subst a0k)|(refine gd 47 ?_;refine gx Tryz.func11 (fD.calls kj4 _ _ LC RQ aDe _ (cq (Kd.iR aAF.out).2.2) ((Kd.iR aAF.out).2.1) A36.out) ?_;rintro bCv w43 ⟨ho0,hb⟩;replace bY:=kr bY hb;replace fF:=kr fF hb;replace fG:=kr fG hb;replace aAF:=am (Kd.vY aMB hb);have aWc:=am (Kd.dZ (Kd.qW ho0 (Kd.pJ (rq DL.out))) (aH (cK nS.out)));replace DL:=am (Kd.lT (rq DL.out) (Kd.jE ho0) hb);replace iP:=kb iP hb;replace HB:=st1 nS hb;clear hb;clear ho0))
    go_cut [57] (fun v57 wc=> ∃(kq:Nat) (aG6:Bool),v57= .bool aG6∧aC (aN.j1 kq RQ CV LC aDe aG6 tN uM=some r)∧aC (kq≤kj4)∧aC (Kd.R vT 40 wc w.heap.size (fun _=>True) a3m CV)∧aC (Kd.S VB 69 wc w.heap.size (fun _=>True) (.slice aFq LC.length aFL) LC)∧aC (Kd.R Kd.string 9 wc w.heap.size (fun _=>True) bCv aDe)∧aC (Kd.R yG 87 wc w.heap.size (fun _=>True) (.slice Ao8 tN.length ZZ) tN)∧aC (Kd.R NK 56 wc w.heap.size (fun _=>True) (.slice pG uM.length oU) uM)∧aC (wc.heap[yQ]?=some (.cells #[(.slice Ao8 tN.length ZZ),(.slice pG uM.length oU)] 26 (0,0)))∧aC (Below w.heap.size w wc))
    case first=>
     have H:=aYR.out;clear aYR
     by_cases c44:(CV.length:Int)>0
     ·rw [if_pos c44] at H;have aD7:=decide_eq_true c44
      have a8O:decide (0<CV.length)=true:=decide_eq_true (by omega)
      clear c44
      (skip)
      replace H:=ip H;obtain⟨c45,H⟩:=H;have aAS:=decide_eq_true c45
      have a8P:decide (0<CV.length)=true:=decide_eq_true (by omega)
      clear c45
      have H' :=am H
      clear H;obtain⟨bQG,bRq,bHJ⟩:=Kd.bS bY.out;subst bHJ
      have a2w:0≤(0:Int):=(by omega)
      have a2F:0<(CV.length:Int):=dt
      obtain⟨bNs,bHv,aCS,aCT⟩:=pR (Kd.aM bY.out).2.2 0 a2w a2F;cases bHv
      have bQr:(0<CV.length)=True:=eq_true (by omega)
      rw [show((0:Int)).toNat=0 from rfl] at aCS
      rw [show 0*2=0 from rfl] at aCS
      rw [Addr.add_zero'] at aCS
      rw [show((0:Int)).toNat=0 from rfl] at aCT
      rw [show 0*2=0 from rfl] at aCT
      rw [Addr.add_zero'] at aCT
      replace a2w:=eq_true a2w;replace a2F:=eq_true a2F;go_wp2
      go_meet
      case rel=>exact⟨_,((((bD CV 0).f1)==1)),sq,H',⟨by have:=HJ4.out;omega⟩,⟨rq bY.out⟩,⟨aMB⟩,⟨rq (Kd.bA aWc.out (fun _ hk=>trivial))⟩,⟨rq fF.out⟩,⟨rq fG.out⟩,⟨bq iP.out⟩,⟨cK nS.out⟩⟩
     rw [if_neg c44] at H;have aD7:=decide_eq_false c44
     have a8O:decide (0<CV.length)=false:=decide_eq_false (by omega)
     clear c44
     (skip)
     have H' :=am H
     clear H;obtain⟨bFa,bGx,a0m⟩:=Kd.bS bY.out;subst a0m;go_wp2
     go_meet
     case rel=>exact⟨_,(false),sq,H',⟨by have:=HJ4.out;omega⟩,⟨rq bY.out⟩,⟨aMB⟩,⟨rq (Kd.bA aWc.out (fun _ hk=>trivial))⟩,⟨rq fF.out⟩,⟨rq fG.out⟩,⟨bq iP.out⟩,⟨cK nS.out⟩⟩
    case rest=>
     clear aYR;clear aS3 aS4 aTn aTo;obtain⟨kq,aG6,rfl,HA,aRS,bY,xS,aKa,fF,fG,iP,HB⟩:=hcut
     cases kq with
     |zero=>exact absurd HA.out (by simp [aN.j1])
     |succ a2e=>
      have H:=HA.out;clear HA;simp only [aN.j1] at H;have aFt:=am H;clear H
      go_upto_if 57 with (fail)
      go_cut [] (fun wc=> ∃(kq:Nat),aC (aN.j3 kq RQ LC tN uM=some r)∧aC (kq≤a2e)∧aC (Kd.S VB 69 wc w.heap.size (fun _=>True) (.slice aFq LC.length aFL) LC)∧aC (Kd.R yG 87 wc w.heap.size (fun _=>True) (.slice Ao8 tN.length ZZ) tN)∧aC (Kd.R NK 56 wc w.heap.size (fun _=>True) (.slice pG uM.length oU) uM)∧aC (wc.heap[yQ]?=some (.cells #[(.slice Ao8 tN.length ZZ),(.slice pG uM.length oU)] 26 (0,0)))∧aC (Below w.heap.size w wc))
      case first=>
       have H:=aFt.out;clear aFt
       replace H:=ib H;rcases H with ⟨rfl,H⟩|⟨rfl,H⟩
       ·have H' :=am H
        clear H;go_wp2
        go_loopg [9] a2e (fun kq v9 w' => ∃(NG:Int),v9= .int .i64 NG∧aC (aN.l0 kq RQ CV LC aDe NG tN uM=some r)∧aC (kq≤a2e)∧aC (Kd.R vT 40 w' w.heap.size (fun _=>True) a3m CV)∧aC (Kd.S VB 69 w' w.heap.size (fun _=>True) (.slice aFq LC.length aFL) LC)∧aC (Kd.R Kd.string 9 w' w.heap.size (fun _=>True) bCv aDe)∧aC (Kd.R yG 87 w' w.heap.size (fun _=>True) (.slice Ao8 tN.length ZZ) tN)∧aC (Kd.R NK 56 w' w.heap.size (fun _=>True) (.slice pG uM.length oU) uM)∧aC (w'.heap[yQ]?=some (.cells #[(.slice Ao8 tN.length ZZ),(.slice pG uM.length oU)] 26 (0,0)))∧aC (Below w.heap.size w w'))
        case atStart=>exact⟨(0),sq,H',⟨Nat.le_refl _⟩,⟨rq bY.out⟩,⟨aDS⟩,⟨rq aKa.out⟩,⟨rq fF.out⟩,⟨rq fG.out⟩,⟨bq iP.out⟩,⟨cK nS.out⟩⟩
        case round=>
         clear H';obtain⟨NG,rfl,HA,DJ,bY,xS,aKa,fF,fG,iP,HB⟩:=hrel
         cases gk with
         |zero=>exact absurd HA.out (by simp [aN.l0])
         |succ k3=>
          have H:=HA.out;clear HA;simp only [aN.l0] at H
          replace H:=iv H;rcases H with ⟨H7,H⟩|⟨H7,H⟩
          ·(skip)
           replace H:=it H;obtain⟨aNj,H⟩:=H;replace H:=ba H;obtain⟨a3h,A52,H⟩:=H
           by_cases c53:a3h=true
           ·subst c53
            rw [if_pos rfl] at H
            have H' :=am H
            clear H;obtain⟨bQH,bGA,a0n⟩:=Kd.bS bY.out;subst a0n
            obtain⟨bNt,bHw,bEi,bEj⟩:=pR (Kd.aM bY.out).2.2 NG dt dt;cases bHw;have bSl:=e0 NG;have bSM:=e1 NG (CV.length:Int);obtain⟨bQI,bRr,bHN⟩:=Kd.bS aKa.out;subst bHN
            go_wp2_with (refine gd 70 ?_;refine gv Tryz.func12 (l9.calls k3 _ _ aDe ((bD CV NG).f0) true _ (cq (Kd.aM aKa.out).2.2) ((Kd.aM aKa.out).2.1) A52.out) ?_;rintro w' ⟨nd,rfl⟩)
            go_roundg k3
            case measure=>have:=HJ4.out;have:=aRS.out;have:=DJ.out;omega
            case rel=>exact⟨(wrap64 (NG+1)),sq,H',⟨by have:=HJ4.out;have:=aRS.out;have:=DJ.out;omega⟩,⟨rq bY.out⟩,⟨aDS⟩,⟨rq aKa.out⟩,⟨rq fF.out⟩,⟨rq fG.out⟩,⟨bq iP.out⟩,⟨cK nS.out⟩⟩
           replace c53:=Bool.eq_false_iff.mpr c53;subst c53
           have H1:(some false)=some r:=b8_
           exact Bool.noConfusion ((Option.some.inj H1).trans bAV)
          (skip)
          have H' :=am H
          clear H;obtain⟨U0,U4,a0o⟩:=Kd.bS bY.out;subst a0o;go_wp2
          go_meet
          case rel=>exact⟨_,H',⟨by have:=HJ4.out;have:=aRS.out;have:=DJ.out;omega⟩,⟨aDS⟩,⟨rq fF.out⟩,⟨rq fG.out⟩,⟨bq iP.out⟩,⟨cK nS.out⟩⟩
       have H' :=am H
       clear H;go_wp2
       go_meet
       case rel=>exact⟨_,H',⟨by have:=HJ4.out;have:=aRS.out;omega⟩,⟨aDS⟩,⟨rq fF.out⟩,⟨rq fG.out⟩,⟨bq iP.out⟩,⟨cK nS.out⟩⟩
      case rest=>
       clear aFt;obtain⟨kq,HA,aLN,xS,fF,fG,iP,HB⟩:=hcut
       cases kq with
       |zero=>exact absurd HA.out (by simp [aN.j3])
       |succ aAf=>
        have H:=HA.out;clear HA;simp only [aN.j3] at H
        replace H:=ba H;obtain⟨aGX,A59,H⟩:=H;replace H:=ba H;obtain⟨aGY,A60,H⟩:=H
        by_cases c61:(aGX==aGY)=true
        ·rw [if_pos c61] at H
         have aNm:(aGX==aGY)=true:=c61
         (have a88:decide (aGX=aGY)=true:=by simpa using c61)
         (have bOj:(aGX==aGY)=true:=by simpa using c61)
         clear c61;replace H:=ba H;obtain⟨a3i,A62,H⟩:=H;replace H:=ba H;obtain⟨a3j,A63,H⟩:=H;obtain rfl:=si H
         try go_wp2
         replace xS:=am (Kd.BS xS.out);replace fF:=am (Kd.mZ fF.out);replace fG:=am (Kd.mZ fG.out);replace iP:=am (bF iP.out);replace HB:=am (bH HB.out)
         refine st (n:=16) (S:=fun w' =>w'.cell? ⟨yQ,0,none⟩=some (.slice Ao8 tN.length ZZ)∧w'.cell? ⟨yQ,1,none⟩=some (.slice pG uM.length oU)) (ds:=[]) ⟨bd iP.out 0,bd iP.out 1⟩ (fun hHeld=>?_);refine dW aN.bCl aN.aZu (fun kQ rT=>?_)
         generalize wc.drew=w64 at xS fF fG iP HB hHeld⊢;refine pu 0 72 ?_;refine pu 1 73 ?_;refine pu 4 76 ?_;refine V9 3 75 hHeld ?_;refine qF 2 74 (fun K hK=>?_)
         refine EI Tryz.func13 #[.slice aFq LC.length aFL, .string RQ] ?_
         with_reducible refine(jU.calls aAf _ _ LC RQ aGX _ ?dS ?iE A59.out).mono ?_
         (case dS=>exact cq (Kd.iR xS.out).2.2);(case iE=>exact(Kd.iR xS.out).2.1)
         rintro e w65 ⟨rfl,hb⟩;refine⟨_,rfl,?_⟩;replace xS:=am (Kd.vY aDS hb);replace fF:=kr fF hb;replace fG:=kr fG hb;replace iP:=kb iP hb;replace HB:=st1 nS hb;clear hb;refine hK.out _ _ ⟨bd iP.out 0,bd iP.out 1⟩ (fun hHeld=>?_);clear hK K;refine nm 74 ?_;refine qF 5 77 (fun K hK=>?_)
         refine EI Tryz.func14 #[.agg #[.slice Ao8 tN.length ZZ, .slice pG uM.length oU], .string RQ] ?_
         with_reducible refine(mQ.calls aAf _ _ tN _ _ uM RQ aGY _ ?dS ?iE ?mU ?FW A60.out).mono ?_
         (case dS=>exact cq (Kd.aM fF.out).2.2);(case iE=>exact(Kd.aM fF.out).2.1);(case mU=>exact cq (Kd.aM fG.out).2.2);(case FW=>exact(Kd.aM fG.out).2.1)
         rintro e w66 ⟨rfl,hb⟩;refine⟨_,rfl,?_⟩;replace xS:=am (Kd.vY aDS hb);replace fF:=kr fF hb;replace fG:=kr fG hb;replace iP:=kb iP hb;replace HB:=st1 nS hb;clear hb;refine hK.out _ _ ⟨bd iP.out 0,bd iP.out 1⟩ (fun hHeld=>?_);clear hK K;refine nm 77 ?_;refine pu 6 78 ?_;refine pu 7 79 ?_;refine pu 8 80 ?_;refine V9 10 82 hHeld ?_;refine qF 9 81 (fun K hK=>?_)
         refine EI Tryz.func15 #[.slice aFq LC.length aFL] ?_
         with_reducible refine(mR.calls aAf _ _ LC a3i _ ?dS ?iE A62.out).mono ?_
         (case dS=>exact cq (Kd.iR xS.out).2.2);(case iE=>exact(Kd.iR xS.out).2.1)
         rintro e w67 ⟨rfl,hb⟩;refine⟨_,rfl,?_⟩;replace xS:=am (Kd.vY aDS hb);replace fF:=kr fF hb;replace fG:=kr fG hb;replace iP:=kb iP hb;replace HB:=st1 nS hb;clear hb;refine hK.out _ _ ⟨bd iP.out 0,bd iP.out 1⟩ (fun hHeld=>?_);clear hK K;refine nm 81 ?_;refine qF 11 83 (fun K hK=>?_)
         refine EI Tryz.func10 #[.agg #[.slice Ao8 tN.length ZZ, .slice pG uM.length oU]] ?_
         with_reducible refine(lV.calls aAf _ _ tN _ _ uM a3j _ ?dS ?iE ?mU ?FW A63.out).mono ?_
         (case dS=>exact cq (Kd.aM fF.out).2.2);(case iE=>exact(Kd.aM fF.out).2.1);(case mU=>exact cq (Kd.aM fG.out).2.2);(case FW=>exact(Kd.aM fG.out).2.1)
         rintro e w68 ⟨bT6,rfl,ho0,hb⟩;refine⟨_,rfl,?_⟩;replace xS:=am (Kd.vY aDS hb);replace fF:=kr fF hb;replace fG:=kr fG hb;have a5n:=am (Kd.dZ ho0 (aH (cK nS.out)));replace iP:=kb iP hb;replace HB:=st1 nS hb;clear hb;clear ho0;obtain⟨aYD,aZK,a0p⟩:=Kd.bS a5n.out
         (subst a0p)
         refine hK.out _ _ ⟨bd iP.out 0,bd iP.out 1⟩ (fun hHeld=>?_);clear hK K;refine nm 83 ?_;refine pu 12 84 ?_;refine pu 13 85 ?_;refine pu 14 86 ?_;refine pu 15 2 ?_
         refine kD (fQ kQ.out (by kernel_rfl)) ?_
         try go_wp2
         go_ret
         exact⟨nD,cK nS.out⟩
        rw [if_neg c61] at H;exact Bool.noConfusion ((si H).trans bAV)
   obtain rfl:=si H;have⟨_,_,_,_⟩:=oP iP.out
   go_wp2_with (first|(refine gd 39 ?_;refine gx Tryz.func10 (lV.calls kj4 _ _ tN _ _ uM aLn _ (cq (Kd.aM fF.out).2.2) ((Kd.aM fF.out).2.1) (cq (Kd.aM fG.out).2.2) ((Kd.aM fG.out).2.1) A33.out) ?_;rintro bLw w74 ⟨ho0,hb⟩;replace bY:=kr bY hb;replace fF:=kr fF hb;replace fG:=kr fG hb;have DL:=am (Kd.dZ ho0 (aH (cK nS.out)));replace iP:=kb iP hb;replace HB:=st1 nS hb;clear hb;clear ho0;obtain⟨bQM,bRv,bHU⟩:=Kd.bS DL.out;subst bHU)|(refine gd 40 ?_;refine gx Tryz.func9 (aA.calls kj4 _ _ aLn LC false _ (cq (Kd.aM DL.out).2.2) ((Kd.aM DL.out).2.1) A34.out) ?_;rintro bLx w76 ⟨ho0,hb⟩;replace bY:=kr bY hb;replace fF:=kr fF hb;replace fG:=kr fG hb;replace DL:=kr DL hb;have aAF:=am (Kd.F6 ho0 (aH (cK nS.out)));replace iP:=kb iP hb;replace HB:=st1 nS hb;clear hb;clear ho0))
   go_ret
   exact⟨nD,cK nS.out⟩
def aN.Pure:Prop:= ∀(l0:List Int),l0.length≤maxLen→l0.length*1≤140737488351232→(∀x∈l0,(Lit.int .u8 x).wf=true)→ ∃k,aN.f k l0=some true
theorem aN.walk (P:aN.Pure) (a0:Option Addr) (aER cap0:Nat) (z0:List Int) (w:World) (w0:(a0=none∧aER=0∧cap0=0∧z0=[])∨ ∃x,a0=some x∧aER≤cap0∧cap0≤maxLen∧z0.length=cap0∧(∀i,i<z0.length→w.cell? (x.add i)=some (.int .u8 (z0.getD i 0)))∧ ∀n∈z0,(Lit.int .u8 n).wf=true) (y0:aER*1≤140737488351232):
  Calls Tryz.prog 3 #[.slice a0 aER cap0] w fun e w' =>e= .returned (.bool true)∧Below w.heap.size w w' :=by
 obtain⟨l0,rfl,hr0,hm0,hw0,hc0⟩:=nU.a2l w0;obtain⟨k,h⟩:=P l0 hm0 y0 hw0
 refine(aN.calls k _ _ l0 true w (Kd.WX (d:=(0:Int)) (h1:=fun _=>rfl) hr0) hc0 h).mono ?_
 rintro e w' ⟨rfl,hd⟩
 exact⟨rfl,hd⟩
end Go.Proofs.YtpljfjbhlboffaaGreat.eH

import Derived.Test.YtpljfjbhlboffaaGreatQFnMachineBookx26
namespace Go.Proofs.YtpljfjbhlboffaaGreat.eH
open Go.RowKit Go.Proofs.YtpljfjbhlboffaaGreatW.bJ Go.Proofs.YtpljfjbhlboffaaGreatW.gI Go.Proofs.YtpljfjbhlboffaaGreatW.jC Go.Proofs.YtpljfjbhlboffaaGreat.Sh
attribute [local go_sem] rD rF uY uZ pE pF rE rG
set_option linter.unusedVariables false
set_option linter.unusedSimpArgs false
set_option maxHeartbeats 8000000
set_option maxRecDepth 100000
def fA.l0:Nat→List Int→List ByteArray→Int→Int→Option (List Int)
 |0,_,_,_,_=>none
 |k+1,x3,x7,x8,x9=>if x9<x8 then(if 0≤x9 then(if x9<(x7.length:Int)then(if(bP ByteArray.empty x7 x9).toList=([]:List UInt8)then(fA.l0 k x3 x7 x8 (wrap64 (x9+1)))else(if(x3.length:Int)=0 then(if 0<((bP ByteArray.empty x7 x9).size:Int)then(if x3.length<140737488355328 then(fA.l0 k (x3++[bt (bP ByteArray.empty x7 x9) 0]) x7 x8 (wrap64 (x9+1)))else(none))else(none))else(if 0≤(wrap64 ((x3.length:Int)-1))then(if(wrap64 ((x3.length:Int)-1))<(x3.length:Int)then(if 0<((bP ByteArray.empty x7 x9).size:Int)then(if(rd x3 (wrap64 ((x3.length:Int)-1)))=(bt (bP ByteArray.empty x7 x9) 0)then(fA.l0 k x3 x7 x8 (wrap64 (x9+1)))else(if x3.length<140737488355328 then(fA.l0 k (x3++[bt (bP ByteArray.empty x7 x9) 0]) x7 x8 (wrap64 (x9+1)))else(none)))else(none))else(none))else(none))))else(none))else(none))else(some x3)
def fA.f (k:Nat) (l0:List ByteArray):Option (List Int):=fA.l0 k (([]:List Int)) l0 (l0.length:Int) 0
theorem fA.calls (k:Nat) (A0:Option Addr) (c0:Nat) (l0:List ByteArray) (r:List Int) (w:World) (hr0:Kd.C Kd.string w A0 l0.length l0) (hc0:l0.length≤c0) (h:fA.f k l0=some r):
  Calls Tryz.prog 34 #[.slice A0 l0.length c0] w fun e w' => ∃sQ:Value,e= .returned (sQ)∧Kd.R (Kd.int .u8) 5 w' w.heap.size (fun _=>True) sQ r∧Below w.heap.size w w' :=by
 have lX:=am hr0;have vX:=am hc0;clear hr0 hc0;have HB:=am (Below.refl w.heap.size w)
 have H:=h;unfold fA.f at H
 clear h;obtain⟨bMi,aPN⟩: ∃y_:List Int,y_=(([]:List Int)):=⟨_,rfl⟩
 rw [←aPN] at H
 have a7b:=am aPN;clear aPN
 have H' :=am H
 clear H;go_enter Tryz.func34,Tryz.ntmps34
 go_wp2_with (refine gd 6 ?_;((refine qI (by rfl) ?_;dsimp only));refine Kd.mJ (Kd.int .u8) _ 5 ?hg (N:=6) ?hd (xs:=([]:List Int)) (inner:=[]) (ok:=fun _=>True) (mK:=fun _=>True) ?hr ?hp (fun _ hk=>hk) trivial (Below.refl _ _) (Nat.le_refl _) (by simp) ?_;(case hd=>rfl);(case hg=>rfl);(case hr=>(go_simp;done));(case hp=>exact(dQ.none _ _));intro bTT w2 ho3 hb lL dP;clear lL dP;(rw [←a7b.out] at ho3);have a5d:=am (Kd.dZ ho3 (aH gP));replace HB:=o8 hb;clear hb ho3)
 go_loopg [3,9] k (fun kq v3 v9 w' => ∃(bL:List Int) (iO:Int),v9= .int .i64 iO∧aC (fA.l0 kq bL l0 (l0.length:Int) iO=some r)∧aC (kq≤k)∧aC (Kd.R (Kd.int .u8) 5 w' w.heap.size (fun _=>True) v3 bL)∧aC (Below w.heap.size w w'))
 case atStart=>exact⟨(bMi),(0),sq,H',⟨Nat.le_refl _⟩,⟨rq a5d.out⟩,⟨gP⟩⟩
 case round=>
  clear H';obtain⟨bL,iO,rfl,HA,lM,dN,HB⟩:=hrel
  cases gk with
  |zero=>exact absurd HA.out (by simp [fA.l0])
  |succ k1=>
   have H:=HA.out;clear HA;simp only [fA.l0] at H
   replace H:=iv H;rcases H with ⟨qZ,H⟩|⟨qZ,H⟩
   ·replace H:=it H;obtain⟨oL,H⟩:=H;replace H:=it H;obtain⟨sW,H⟩:=H
    by_cases c7:(bP ByteArray.empty l0 iO).toList=([]:List UInt8)
    ·rw [if_pos c7] at H
     have wR:((bP ByteArray.empty l0 iO).toList==([]:List UInt8))=true:=beq_iff_eq.mpr c7
     have aFG:((bP ByteArray.empty l0 iO).toList !=([]:List UInt8))=false:=bne_eq_false_iff_eq.mpr c7
     clear c7
     have H' :=am H
     clear H
     obtain⟨aMs,aFO,xC,a2t,a2C⟩:=CY lX.out iO;cases aFO
     replace xC:=kp HB.out xC;go_wp2
     repeat(go_quiet (fail);try go_wp2)
     go_roundg k1
     case measure=>have:=lM.out;omega
     case rel=>exact⟨(bL),(wrap64 (iO+1)),sq,H',⟨rO⟩,⟨rq dN.out⟩,⟨gP⟩⟩
    rw [if_neg c7] at H
    have wR:((bP ByteArray.empty l0 iO).toList==([]:List UInt8))=false:=beq_eq_false_iff_ne.mpr c7
    have aFG:((bP ByteArray.empty l0 iO).toList !=([]:List UInt8))=true:=bne_iff_ne.mpr c7
    by_cases c8:(bL.length:Int)=0
    ·rw [if_pos c8] at H
     have tK:((bL.length:Int)==0)=true:=beq_iff_eq.mpr c8
     have aEb:((bL.length:Int) !=0)=false:=bne_eq_false_iff_eq.mpr c8
     clear c8;replace H:=ip H;obtain⟨c9,H⟩:=H;have wE:=decide_eq_true c9
     have XZ:decide (0<(bP ByteArray.empty l0 iO).size)=true:=decide_eq_true (by omega)
     clear c9
     replace H:=ip H;obtain⟨c11,H⟩:=H;have a5z:=am c11;clear c11;obtain⟨bMj,aPO⟩: ∃y_:List Int,y_=(bL++[bt (bP ByteArray.empty l0 iO) 0]):=⟨_,rfl⟩
     rw [←aPO] at H
     have a7c:=am aPO;clear aPO
     have H' :=am H
     clear H
     obtain⟨aMs,aFO,xC,a2t,a2C⟩:=CY lX.out iO;cases aFO;replace xC:=kp HB.out xC;obtain⟨aRI,aSF,aFR⟩:=Kd.bS dN.out;subst aFR
     have p10:0≤(0:Int):=(by omega)
     have q10:0<(bP ByteArray.empty l0 iO).size:=aSw
     have bAP: ∀h:0<(bP ByteArray.empty l0 iO).size,(((bP ByteArray.empty l0 iO)[0]'h).toNat:Int)=bt (bP ByteArray.empty l0 iO) 0:=kL (bP ByteArray.empty l0 iO) 0
     clear p10
     have bBl:(0<((bP ByteArray.empty l0 iO).size:Int))=True:=eq_true (dt)
     replace q10:=eq_true q10
     go_wp2
     repeat(go_quiet (fail);try go_wp2_with ((with_reducible refine gL (b:= .append) (xs:= #[.tmp 31, .tmp 34]) rfl ?_);((refine qI (by rfl) ?_;dsimp only));at_builtin;refine Kd.oI (Kd.int .u8) (w0:=w) w.heap.size rfl (.tmp 31) (.tmp 34) 22 5 (.int .u8 0) 1 rfl Tryz.underlying22 aP3 rfl (by decide) (by omega) (.slice aRI bL.length aSF) bL (bt (bP ByteArray.empty l0 iO) 0) [.int .u8 (bt (bP ByteArray.empty l0 iO) 0)] (fun _=>True) (fun _=>False) rfl rfl ?aP (fun _ hk=>hk.elim) ?aF ?aO ?aB ?aS ?aL ?_;(case aP=>exact rfl);(case aB=>exact gP);(case aF=>exact(fun _ _=>trivial));(case aO=>exact(rq dN.out));(case aS=>exact(aH gP));(case aL=>have:=a5z.out;omega);intro bTU w13 ho hb hg hat;rw [←a7c.out] at ho;replace HB:=am (hb);have a5e:=am (ho);clear dN;clear ho hb hg hat))
     go_roundg k1
     case measure=>have:=lM.out;omega
     case rel=>exact⟨(bMj),(wrap64 (iO+1)),sq,H',⟨rO⟩,⟨rq a5e.out⟩,⟨gP⟩⟩
    rw [if_neg c8] at H
    have tK:((bL.length:Int)==0)=false:=beq_eq_false_iff_ne.mpr c8
    have aEb:((bL.length:Int) !=0)=true:=bne_iff_ne.mpr c8
    have a9k: ¬(bL=[]):=fun h_=>c8 (by rw [h_];rfl)
    obtain⟨aAd,aIC⟩: ∃j_:Int,(wrap64 ((bL.length:Int)-1))=j_:=⟨_,rfl⟩
    rw [aIC] at H
    have bIL:(IntKind.i64.wrap ((bL.length:Int)-1))=aAd:=(iZ _).trans aIC
    replace H:=it H;obtain⟨BX,H⟩:=H;replace H:=it H;obtain⟨BZ,H⟩:=H;replace H:=ip H;obtain⟨c17,H⟩:=H;have FE:=decide_eq_true c17
    have XW:decide (0<(bP ByteArray.empty l0 iO).size)=true:=decide_eq_true (by omega)
    clear c17
    by_cases c19:(rd bL (aAd))=(bt (bP ByteArray.empty l0 iO) 0)
    ·rw [if_pos c19] at H
     have H6:((rd bL (aAd))==(bt (bP ByteArray.empty l0 iO) 0))=true:=beq_iff_eq.mpr c19
     have aH5:((rd bL (aAd)) !=(bt (bP ByteArray.empty l0 iO) 0))=false:=bne_eq_false_iff_eq.mpr c19
     clear c19
     have H' :=am H
     clear H
     obtain⟨aMs,aFO,xC,a2t,a2C⟩:=CY lX.out iO;cases aFO;replace xC:=kp HB.out xC;obtain⟨aYA,aEe,aFU⟩:=Kd.bS dN.out;subst aFU
     obtain⟨aWx,aZ5,aT6,bJ6,bKR⟩:=XQ (Kd.aM dN.out).2.2 (aAd);cases aZ5
     have p18:0≤(0:Int):=(by omega)
     have q18:0<(bP ByteArray.empty l0 iO).size:=aSw
     have bJi: ∀h:0<(bP ByteArray.empty l0 iO).size,(((bP ByteArray.empty l0 iO)[0]'h).toNat:Int)=bt (bP ByteArray.empty l0 iO) 0:=kL (bP ByteArray.empty l0 iO) 0
     clear p18
     have bK3:(0<((bP ByteArray.empty l0 iO).size:Int))=True:=eq_true (dt)
     replace q18:=eq_true q18;go_wp2
     repeat(go_quiet (fail);try go_wp2)
     go_roundg k1
     case measure=>have:=lM.out;omega
     case rel=>exact⟨(bL),(wrap64 (iO+1)),sq,H',⟨rO⟩,⟨rq dN.out⟩,⟨gP⟩⟩
    rw [if_neg c19] at H
    have H6:((rd bL (aAd))==(bt (bP ByteArray.empty l0 iO) 0))=false:=beq_eq_false_iff_ne.mpr c19
    have aH5:((rd bL (aAd)) !=(bt (bP ByteArray.empty l0 iO) 0))=true:=bne_iff_ne.mpr c19
    replace H:=ip H;obtain⟨c22,H⟩:=H;have a5D:=am c22;clear c22;obtain⟨bMk,aPP⟩: ∃y_:List Int,y_=(bL++[bt (bP ByteArray.empty l0 iO) 0]):=⟨_,rfl⟩
    rw [←aPP] at H
    have a7d:=am aPP;clear aPP
    have H' :=am H
    clear H
    obtain⟨aMs,aFO,xC,a2t,a2C⟩:=CY lX.out iO;cases aFO;replace xC:=kp HB.out xC;obtain⟨bQz,bGu,bHz⟩:=Kd.bS dN.out;subst bHz
    obtain⟨aWx,aZ5,aT6,bJ6,bKR⟩:=XQ (Kd.aM dN.out).2.2 (aAd);cases aZ5
    have p18:0≤(0:Int):=(by omega)
    have q18:0<(bP ByteArray.empty l0 iO).size:=aSw
    have bJi: ∀h:0<(bP ByteArray.empty l0 iO).size,(((bP ByteArray.empty l0 iO)[0]'h).toNat:Int)=bt (bP ByteArray.empty l0 iO) 0:=kL (bP ByteArray.empty l0 iO) 0
    clear p18
    have bK3:(0<((bP ByteArray.empty l0 iO).size:Int))=True:=eq_true (dt)
    replace q18:=eq_true q18
    have p21:0≤(0:Int):=(by omega)
    have q21:0<(bP ByteArray.empty l0 iO).size:=aSw
    have bRF: ∀h:0<(bP ByteArray.empty l0 iO).size,(((bP ByteArray.empty l0 iO)[0]'h).toNat:Int)=bt (bP ByteArray.empty l0 iO) 0:=kL (bP ByteArray.empty l0 iO) 0
    clear p21
    have bSN:(0<((bP ByteArray.empty l0 iO).size:Int))=True:=eq_true (dt)
    replace q21:=eq_true q21
    go_wp2
    repeat(go_quiet (fail);try go_wp2_with ((with_reducible refine gL (b:= .append) (xs:= #[.tmp 31, .tmp 34]) rfl ?_);((refine qI (by rfl) ?_;dsimp only));at_builtin;refine Kd.oI (Kd.int .u8) (w0:=w) w.heap.size rfl (.tmp 31) (.tmp 34) 22 5 (.int .u8 0) 1 rfl Tryz.underlying22 aP3 rfl (by decide) (by omega) (.slice (some aWx) bL.length bGu) bL (bt (bP ByteArray.empty l0 iO) 0) [.int .u8 (bt (bP ByteArray.empty l0 iO) 0)] (fun _=>True) (fun _=>False) rfl rfl ?aP (fun _ hk=>hk.elim) ?aF ?aO ?aB ?aS ?aL ?_;(case aP=>exact rfl);(case aB=>exact gP);(case aF=>exact(fun _ _=>trivial));(case aO=>exact(rq dN.out));(case aS=>exact(aH gP));(case aL=>have:=a5D.out;omega);intro bTV w24 ho hb hg hat;rw [←a7d.out] at ho;replace HB:=am (hb);have a5f:=am (ho);clear dN;clear ho hb hg hat))
    go_roundg k1
    case measure=>have:=lM.out;omega
    case rel=>exact⟨(bMk),(wrap64 (iO+1)),sq,H',⟨rO⟩,⟨rq a5f.out⟩,⟨gP⟩⟩
   obtain rfl:=si H;go_wp2
   go_ret
   exact⟨_,nD,aMD,gP⟩
def jH.l0:Nat→Int→List ByteArray→List ByteArray→Int→Int→Option (List ByteArray)
 |0,_,_,_,_,_=>none
 |k+1,x1,x5,x9,zJ,KX=>if KX<zJ then(if 0≤KX then(if KX<(x9.length:Int)then(if(bP ByteArray.empty x9 KX).toList=([]:List UInt8)then(jH.l0 k x1 x5 x9 zJ (wrap64 (KX+1)))else(if 0<((bP ByteArray.empty x9 KX).size:Int)then(if(bt (bP ByteArray.empty x9 KX) 0)=x1 then(if 1≤((bP ByteArray.empty x9 KX).size:Int)then(if x5.length<8796093022208 then(jH.l0 k x1 (x5++[(bP ByteArray.empty x9 KX).extract 1 (bP ByteArray.empty x9 KX).size]) x9 zJ (wrap64 (KX+1)))else(none))else(none))else(jH.l0 k x1 x5 x9 zJ (wrap64 (KX+1))))else(none)))else(none))else(none))else(some x5)
def jH.f (k:Nat) (l0:List ByteArray) (a1:Int):Option (List ByteArray):=jH.l0 k a1 (([]:List ByteArray)) l0 (l0.length:Int) 0
theorem jH.calls (k:Nat) (A0:Option Addr) (c0:Nat) (l0:List ByteArray) (a1:Int) (r:List ByteArray) (w:World) (hr0:Kd.C Kd.string w A0 l0.length l0) (hc0:l0.length≤c0) (h:jH.f k l0 a1=some r):
  Calls Tryz.prog 35 #[.slice A0 l0.length c0, .int .u8 a1] w fun e w' => ∃sQ:Value,e= .returned (sQ)∧Kd.R Kd.string 9 w' w.heap.size (fun _=>True) sQ r∧Below w.heap.size w w' :=by
 have lX:=am hr0;have vX:=am hc0;clear hr0 hc0;have HB:=am (Below.refl w.heap.size w)
 have H:=h;unfold jH.f at H
 clear h;obtain⟨bMl,aPQ⟩: ∃y_:List ByteArray,y_=(([]:List ByteArray)):=⟨_,rfl⟩
 rw [←aPQ] at H
 have a7e:=am aPQ;clear aPQ
 have H' :=am H
 clear H;go_enter Tryz.func35,Tryz.ntmps35
 go_wp2_with (refine gd 8 ?_;refine Kd.mJ Kd.string _ 9 ?hg (N:=8) ?hd (xs:=([]:List ByteArray)) (inner:=[]) (ok:=fun _=>True) (mK:=fun _=>True) ?hr ?hp (fun _ hk=>hk) trivial (Below.refl _ _) (Nat.le_refl _) (by simp) ?_;(case hd=>rfl);(case hg=>rfl);(case hr=>(go_simp;done));(case hp=>exact(dQ.none _ _));intro bTW w3 ho4 hb lL dP;clear lL dP;(rw [←a7e.out] at ho4);have a5g:=am (Kd.dZ ho4 (aH gP));replace HB:=o8 hb;clear hb ho4)
 go_loopg [5,11] k (fun kq v5 v11 w' => ∃(bI:List ByteArray) (jR:Int),v11= .int .i64 jR∧aC (jH.l0 kq a1 bI l0 (l0.length:Int) jR=some r)∧aC (kq≤k)∧aC (Kd.R Kd.string 9 w' w.heap.size (fun _=>True) v5 bI)∧aC (Below w.heap.size w w'))
 case atStart=>exact⟨(bMl),(0),sq,H',⟨Nat.le_refl _⟩,⟨rq a5g.out⟩,⟨gP⟩⟩
 case round=>
  clear H';obtain⟨bI,jR,rfl,HA,lM,bY,HB⟩:=hrel
  cases gk with
  |zero=>exact absurd HA.out (by simp [jH.l0])
  |succ k1=>
   have H:=HA.out;clear HA;simp only [jH.l0] at H
   replace H:=iv H;rcases H with ⟨oL,H⟩|⟨oL,H⟩
   ·replace H:=it H;obtain⟨sW,H⟩:=H;replace H:=it H;obtain⟨wR,H⟩:=H
    by_cases c8:(bP ByteArray.empty l0 jR).toList=([]:List UInt8)
    ·rw [if_pos c8] at H
     have tK:((bP ByteArray.empty l0 jR).toList==([]:List UInt8))=true:=beq_iff_eq.mpr c8
     have aEb:((bP ByteArray.empty l0 jR).toList !=([]:List UInt8))=false:=bne_eq_false_iff_eq.mpr c8
     clear c8
     have H' :=am H
     clear H
     obtain⟨aWy,aNA,D6,bBc,bBj⟩:=CY lX.out jR;cases aNA
     replace D6:=kp HB.out D6;go_wp2
     go_roundg k1
     case measure=>have:=lM.out;omega
     case rel=>exact⟨(bI),(wrap64 (jR+1)),sq,H',⟨rO⟩,⟨rq bY.out⟩,⟨gP⟩⟩
    rw [if_neg c8] at H
    have tK:((bP ByteArray.empty l0 jR).toList==([]:List UInt8))=false:=beq_eq_false_iff_ne.mpr c8
    have aEb:((bP ByteArray.empty l0 jR).toList !=([]:List UInt8))=true:=bne_iff_ne.mpr c8
    replace H:=ip H;obtain⟨c9,H⟩:=H;have wE:=decide_eq_true c9
    have XZ:decide (0<(bP ByteArray.empty l0 jR).size)=true:=decide_eq_true (by omega)
    clear c9
    by_cases c11:(bt (bP ByteArray.empty l0 jR) 0)=a1
    ·rw [if_pos c11] at H
     have zG:((bt (bP ByteArray.empty l0 jR) 0)==a1)=true:=beq_iff_eq.mpr c11
     have aH0:((bt (bP ByteArray.empty l0 jR) 0) !=a1)=false:=bne_eq_false_iff_eq.mpr c11
     clear c11;replace H:=ip H;obtain⟨c12,H⟩:=H;have xN:=eq_true c12
     have OL:decide (1≤((bP ByteArray.empty l0 jR).size:Int))=true:=decide_eq_true c12
     clear c12
     replace H:=ip H;obtain⟨c13,H⟩:=H;have XF:=am c13;clear c13;obtain⟨bMm,aPR⟩: ∃y_:List ByteArray,y_=(bI++[(bP ByteArray.empty l0 jR).extract 1 (bP ByteArray.empty l0 jR).size]):=⟨_,rfl⟩
     rw [←aPR] at H
     have a7f:=am aPR;clear aPR
     have H' :=am H
     clear H
     obtain⟨aWy,aNA,D6,bBc,bBj⟩:=CY lX.out jR;cases aNA;replace D6:=kp HB.out D6
     have p10:0≤(0:Int):=(by omega)
     have q10:0<(bP ByteArray.empty l0 jR).size:=(by have:(0:Int)<((bP ByteArray.empty l0 jR).size:Int):=dt;omega)
     have bAP: ∀h:0<(bP ByteArray.empty l0 jR).size,(((bP ByteArray.empty l0 jR)[0]'h).toNat:Int)=bt (bP ByteArray.empty l0 jR) 0:=kL (bP ByteArray.empty l0 jR) 0
     clear p10
     have bBl:(0<((bP ByteArray.empty l0 jR).size:Int))=True:=eq_true (dt)
     replace q10:=eq_true q10
     go_wp2_with ((with_reducible refine gL (b:= .append) (xs:= #[.tmp 23, .tmp 26]) rfl ?_);at_builtin;refine Kd.oI Kd.string (w0:=w) w.heap.size rfl (.tmp 23) (.tmp 26) 36 9 (.string ⟨#[]⟩) 16 rfl Tryz.underlying36 zI rfl (by decide) (by omega) u5 bI ((bP ByteArray.empty l0 jR).extract 1 (bP ByteArray.empty l0 jR).size) [.string ((bP ByteArray.empty l0 jR).extract 1 (bP ByteArray.empty l0 jR).size)] (fun _=>True) (fun _=>False) rfl rfl ?aP (fun _ hk=>hk.elim) ?aF ?aO ?aB ?aS ?aL ?_;(case aP=>exact rfl);(case aB=>exact gP);(case aF=>exact(fun _ _=>trivial));(case aO=>exact(rq bY.out));(case aS=>exact(aH gP));(case aL=>have:=XF.out;omega);intro bTX w14 ho hb hg hat;rw [←a7f.out] at ho;replace HB:=am (hb);have a5h:=am (ho);clear bY;clear ho hb hg hat)
     go_roundg k1
     case measure=>have:=lM.out;omega
     case rel=>exact⟨(bMm),(wrap64 (jR+1)),sq,H',⟨rO⟩,⟨rq a5h.out⟩,⟨gP⟩⟩
    rw [if_neg c11] at H
    have zG:((bt (bP ByteArray.empty l0 jR) 0)==a1)=false:=beq_eq_false_iff_ne.mpr c11
    have aH0:((bt (bP ByteArray.empty l0 jR) 0) !=a1)=true:=bne_iff_ne.mpr c11
    have H' :=am H
    clear H
    obtain⟨aWy,aNA,D6,bBc,bBj⟩:=CY lX.out jR;cases aNA;replace D6:=kp HB.out D6
    have p10:0≤(0:Int):=(by omega)
    have q10:0<(bP ByteArray.empty l0 jR).size:=(by have:(0:Int)<((bP ByteArray.empty l0 jR).size:Int):=dt;omega)
    have bAP: ∀h:0<(bP ByteArray.empty l0 jR).size,(((bP ByteArray.empty l0 jR)[0]'h).toNat:Int)=bt (bP ByteArray.empty l0 jR) 0:=kL (bP ByteArray.empty l0 jR) 0
    clear p10
    have bBl:(0<((bP ByteArray.empty l0 jR).size:Int))=True:=eq_true (dt)
    replace q10:=eq_true q10;go_wp2
    go_roundg k1
    case measure=>have:=lM.out;omega
    case rel=>exact⟨(bI),(wrap64 (jR+1)),sq,H',⟨rO⟩,⟨rq bY.out⟩,⟨gP⟩⟩
   obtain rfl:=si H;go_wp2;go_ret
   exact⟨_,nD,aMC,gP⟩
def iH.l0:Nat→Int→List ByteArray→Int→Int→Option (Int)
 |0,_,_,_,_=>none
 |k+1,x3,x6,x7,x8=>if x8<x7 then(if 0≤x8 then(if x8<(x6.length:Int)then(iH.l0 k (mx x3 ((bP ByteArray.empty x6 x8).size:Int)) x6 x7 (wrap64 (x8+1)))else(none))else(none))else(some x3)
def iH.f (k:Nat) (l0:List ByteArray):Option (Int):=iH.l0 k 0 l0 (l0.length:Int) 0
theorem iH.calls (k:Nat) (A0:Option Addr) (c0:Nat) (l0:List ByteArray) (r:Int) (w:World) (hr0:Kd.C Kd.string w A0 l0.length l0) (hc0:l0.length≤c0) (h:iH.f k l0=some r):
  Calls Tryz.prog 40 #[.slice A0 l0.length c0] w fun e w' =>e= .returned (.int .i64 r)∧iB w w' :=by
 have lX:=am hr0;have vX:=am hc0;clear hr0 hc0
 have H:=h;unfold iH.f at H
 clear h
 have H' :=am H
 clear H;go_enter Tryz.func40,Tryz.ntmps40;go_wp2
 go_loopg [3,8] k (fun kq v3 v8 w' => ∃(bL:Int) (iU:Int),v3= .int .i64 bL∧v8= .int .i64 iU∧aC (iH.l0 kq bL l0 (l0.length:Int) iU=some r)∧aC (kq≤k)∧iB w w')
 case atStart=>exact⟨(0),(0),sq,sq,H',⟨Nat.le_refl _⟩,dr⟩
 case round=>
  clear H';obtain⟨bL,iU,rfl,rfl,HA,lM,⟨m1,rfl⟩⟩:=hrel
  cases gk with
  |zero=>exact absurd HA.out (by simp [iH.l0])
  |succ k1=>
   have H:=HA.out;clear HA;simp only [iH.l0] at H
   replace H:=iv H;rcases H with ⟨wD,H⟩|⟨wD,H⟩
   ·replace H:=it H;obtain⟨oG,H⟩:=H
    replace H:=it H;obtain⟨qZ,H⟩:=H;obtain⟨ji5,bAk⟩: ∃j_:Int,(mx bL ((bP ByteArray.empty l0 iU).size:Int))=j_:=⟨_,rfl⟩
    rw [bAk] at H
    have bO6:(if bL<((bP ByteArray.empty l0 iU).size:Int)then((bP ByteArray.empty l0 iU).size:Int)else bL)=ji5:=bAk
    have H' :=am H
    clear H
    obtain⟨bNm,bHi,bEd,bSd,bSE⟩:=CY lX.out iU;cases bHi
    go_wp2
    go_roundg k1
    case measure=>have:=lM.out;omega
    case rel=>exact⟨(ji5),(wrap64 (iU+1)),(by rfl),sq,H',⟨rO⟩,dr⟩
   obtain rfl:=si H;go_wp2;go_ret
   exact⟨sq,dr⟩
def bN.l0:Nat→List ByteArray→List ByteArray→List ByteArray→Int→Int→Option (Int)
 |0,_,_,_,_,_=>none
 |k+1,x0,x1,x9,zJ,KX=>if KX<zJ then(if 0≤KX then(if KX<(x9.length:Int)then(if KX≥(x1.length:Int)then(some 1)else(if KX<(x1.length:Int)then((eY.f (bP ByteArray.empty x9 KX) (bP ByteArray.empty x1 KX)).bind fun aAm=>(if aAm=0 then(bN.l0 k x0 x1 x9 zJ (wrap64 (KX+1)))else(some aAm)))else(none)))else(none))else(none))else(if(x0.length:Int)<(x1.length:Int)then(some (-1))else(some 0))
def bN.f (k:Nat) (l0:List ByteArray) (l1:List ByteArray):Option (Int):=bN.l0 k l0 l1 l0 (l0.length:Int) 0
theorem bN.calls (k:Nat) (A0:Option Addr) (c0:Nat) (l0:List ByteArray) (A1:Option Addr) (c1:Nat) (l1:List ByteArray) (r:Int) (w:World) (hr0:Kd.C Kd.string w A0 l0.length l0) (hc0:l0.length≤c0) (hr1:Kd.C Kd.string w A1 l1.length l1) (hc1:l1.length≤c1) (h:bN.f k l0 l1=some r):
  Calls Tryz.prog 41 #[.slice A0 l0.length c0, .slice A1 l1.length c1] w fun e w' =>e= .returned (.int .i64 r)∧iB w w' :=by
 have lX:=am hr0;have vX:=am hc0;clear hr0 hc0;have HR1:=am hr1;have HC1:=am hc1;clear hr1 hc1
 have H:=h;unfold bN.f at H
 clear h
 have H' :=am H
 clear H;go_enter Tryz.func41,Tryz.ntmps41;go_wp2
 go_loopg [11] k (fun kq v11 w' => ∃(jR:Int),v11= .int .i64 jR∧aC (bN.l0 kq l0 l1 l0 (l0.length:Int) jR=some r)∧aC (kq≤k)∧iB w w')
 case atStart=>exact⟨(0),sq,H',⟨Nat.le_refl _⟩,dr⟩
 case round=>
  clear H';obtain⟨jR,rfl,HA,lM,⟨m1,rfl⟩⟩:=hrel
  cases gk with
  |zero=>exact absurd HA.out (by simp [bN.l0])
  |succ k1=>
   have H:=HA.out;clear HA;simp only [bN.l0] at H
   replace H:=iv H;rcases H with ⟨oG,H⟩|⟨oG,H⟩
   ·replace H:=it H;obtain⟨qZ,H⟩:=H;replace H:=it H;obtain⟨oL,H⟩:=H
    replace H:=iv H;rcases H with ⟨sW,H⟩|⟨sW,H⟩
    ·obtain rfl:=si H
     obtain⟨aWz,aNB,aJy,bBd,bBk⟩:=CY lX.out jR;cases aNB
     go_wp2;go_ret
     exact⟨sq,dr⟩
    replace H:=it H;obtain⟨wR,H⟩:=H;replace H:=ba H;obtain⟨aAm,A8,H⟩:=H
    by_cases c9:aAm=0
    ·rw [if_pos c9] at H
     have wE:(aAm==0)=true:=beq_iff_eq.mpr c9
     have XZ:(aAm !=0)=false:=bne_eq_false_iff_eq.mpr c9
     clear c9
     have H' :=am H
     clear H
     obtain⟨aWz,aNB,aJy,bBd,bBk⟩:=CY lX.out jR;cases aNB
     obtain⟨a7X,aZ6,aT7,bJ7,bKS⟩:=CY HR1.out jR;cases aZ6
     go_wp2_with (refine gd 26 ?_;refine gv Tryz.func76 (eY.calls (bP ByteArray.empty l0 jR) (bP ByteArray.empty l1 jR) aAm _ A8.out) ?_;rintro w' ⟨nd,rfl⟩)
     go_roundg k1
     case measure=>have:=lM.out;omega
     case rel=>exact⟨(wrap64 (jR+1)),sq,H',⟨rO⟩,dr⟩
    rw [if_neg c9] at H
    have wE:(aAm==0)=false:=beq_eq_false_iff_ne.mpr c9
    have XZ:(aAm !=0)=true:=bne_iff_ne.mpr c9
    obtain rfl:=si H
    obtain⟨aWz,aNB,aJy,bBd,bBk⟩:=CY lX.out jR;cases aNB
    obtain⟨a7X,aZ6,aT7,bJ7,bKS⟩:=CY HR1.out jR;cases aZ6
    go_wp2_with (refine gd 26 ?_;refine gv Tryz.func76 (eY.calls (bP ByteArray.empty l0 jR) (bP ByteArray.empty l1 jR) aAm _ A8.out) ?_;rintro w' ⟨nd,rfl⟩)
    go_ret
    exact⟨sq,dr⟩
   by_cases c10:(l0.length:Int)<(l1.length:Int)
   ·rw [if_pos c10] at H;have BV:=decide_eq_true c10
    have aNb:decide (l0.length<l1.length)=true:=decide_eq_true (Int.ofNat_lt.mp c10)
    clear c10;obtain rfl:=si H;go_wp2;go_ret
    exact⟨sq,dr⟩
   rw [if_neg c10] at H;have BV:=decide_eq_false c10
   have aNb:decide (l0.length<l1.length)=false:=decide_eq_false (fun h=>c10 (Int.ofNat_lt.mpr h))
   clear c10;obtain rfl:=si H;go_wp2;go_ret
   exact⟨sq,dr⟩
theorem a10:(Tryz.prog.info? 36).map (fun i=>(i.zero,i.size,i.bytes))=some (some (.slice none 0 0),1,24):=by kernel_rfl
theorem a11:(Tryz.prog.info? 69).map (fun i=>(i.zero,i.size,i.bytes))=some (some (.agg #[(.bool false),(.slice none 0 0)]),2,32):=by kernel_rfl
theorem a13:(Tryz.prog.info? 77).map (fun i=>(i.zero,i.size,i.bytes))=some (some (.agg #[(.int .i64 0),(.int .i64 0)]),2,16):=by kernel_rfl
theorem aA.extra:Builder.Extra Tryz.prog Try.UM:={
 sizeBuilder:=by kernel_rfl,
 liesBuilder:=by kernel_rfl,
 t5:=Tryz.underlying5,
 a5:=Tryz.isAgg5,
 z5:=Tryz.sizeOf5,
 v5:=Tryz.zeroValue5,
 infoByte:=by kernel_rfl,
 cellsByte:=by kernel_rfl,
 sizeByte:=by kernel_rfl,
 neB5:=by decide}
def aA.jn (l:List ByteArray):ByteArray:=⟨(Go.Lib.join (l.map (·.data.toList)) (⟨#[10]⟩:ByteArray).data.toList).toArray⟩
structure aA.Ok (l:List ByteArray):Prop where
 ne:0<l.length
 len:l.length≤1000000
 join:(Go.Lib.join (l.map (·.data.toList)) (⟨#[10]⟩:ByteArray).data.toList).length≤1000000000
theorem aA.addr {W:World} {A:Option Addr} {l:List ByteArray} (h:Kd.C Kd.string W A l.length l) (hn:0<l.length): ∃b o,A=some ⟨b,o,none⟩∧b<W.heap.size∧ ∀(j:Nat) x,l[j]?=some x→W.cell? ⟨b,o+j,none⟩=some (.string x):=by
 obtain⟨_,_,h1⟩:=h;obtain⟨ad,rfl,h2⟩:=h1 hn;clear h1
 have hc: ∀(j:Nat) x,l[j]?=some x→W.cell? (ad.add j)=some (.string x):=by
  intro j x hj;obtain⟨c,_,hr,hcell⟩:=h2 j x hj
  have e:c=[.string x]:=hr
  subst e
  have:=hcell 0 (.string x) rfl
  simpa [show Kd.string.sz=1 from rfl] using this
 obtain⟨b,o,s⟩:=ad;have h0:=hc 0 l[0] (List.getElem?_eq_getElem hn)
 have hs:s=none:=by
  unfold World.cell? at h0
  split at h0
  ·split at h0
   ·cases h0
   ·rename_i h1
    simpa [Addr.add] using h1
  ·cases h0
 subst hs
 refine⟨b,o,rfl,?_,fun j x hj=>by
  have:=hc j x hj
  unfold Addr.add at this
  by_cases e:j=0
  ·subst e
   simpa using this
  ·simpa [e] using this⟩
 unfold World.cell? at h0
 split at h0
 ·rename_i h1
  exact(Array.getElem?_eq_some_iff.1 h1).1
 ·cases h0
set_option maxHeartbeats 1000000 in
theorem aA.aUl (A:Option Addr) (c:Nat) (l:List ByteArray) (W:World) (hC:Kd.C Kd.string W A l.length l) (hc:l.length≤c) (ok:aA.Ok l):
  Calls Tryz.prog 31 #[.slice A l.length c] W fun e w' =>e= .returned (.string (aA.jn l))∧Below W.heap.size W w' :=by
 obtain⟨b,o,rfl,hb,hcells⟩:=aA.addr hC ok.ne
 have:=Any.strings_Join Try.aUp aA.extra b o c l ⟨#[10]⟩ W hcells hb (by have:=ok.len;omega) hc (by have:=ok.join;omega)
 change Calls Tryz.prog 32 #[.slice (some ⟨b,o,none⟩) l.length c, .string ⟨#[10]⟩] W _ at this
 have HJ:=am this;clear this hcells hC;go_enter Tryz.func31,Tryz.ntmps31
 go_wp2_with (go_at_call 32;refine HJ.out.mono ?_;rintro e w' ⟨rfl,hb'⟩)
 go_ret
 exact⟨rfl,hb'⟩
def aA.hR (v:Value):Option (DataW Value×List MemPlace):=some (.held v,[])
def aA.D (es:List (ByteArray×Value×List ByteArray)):DataW Value:=es.foldl (fun D e=>D.put (.string e.1.data.toList) (.held e.2.1)) (.map [])
theorem aA.aBk (es:List (ByteArray×Value×List ByteArray)) (e:ByteArray×Value×List ByteArray):aA.D (es++[e])=(aA.D es).put (.string e.1.data.toList) (.held e.2.1):=by
 unfold aA.D
 rw [List.foldl_append]
 rfl
theorem aA.aVP (es:List (ByteArray×Value×List ByteArray)):Go.Maps.IsMap (aA.D es):=by
 have: ∀(es:List (ByteArray×Value×List ByteArray)) (D:DataW Value),Go.Maps.IsMap D→Go.Maps.IsMap (es.foldl (fun D e=>D.put (.string e.1.data.toList) (.held e.2.1)) D):=by
  intro es
  induction es with
  |nil=>exact fun D h=>h
  |cons e es ih=>exact fun D h=>ih _ (h.put _ _)
 exact this es _ Go.Maps.isMap_empty
theorem aA.aQh {a b:ByteArray} (h:a≠b):(Lit.string a.data.toList)≠Lit.string b.data.toList:=by
 intro e
 injection e with e
 exact h (ByteArray.ext (Array.toList_inj.1 e))
theorem aA.isKey (a:ByteArray):WideAt.IsKeyLit (.string a.data.toList):=by
 simp [WideAt.IsKeyLit]
theorem aA.aLC (es:List (ByteArray×Value×List ByteArray)) (k:ByteArray):Go.Maps.has (aA.D es) (.string k.data.toList)=true↔k∈es.map (·.1):=by
 have: ∀n,∀es:List (ByteArray×Value×List ByteArray),es.length=n→(Go.Maps.has (aA.D es) (.string k.data.toList)=true↔k∈es.map (·.1)):=by
  intro n
  induction n with
  |zero=>
   intro es h
   rw [List.length_eq_zero_iff.1 h]
   simp [aA.D,Go.Maps.has]
  |succ n ih=>
   intro es h
   have hne:es≠[]:=by rintro rfl;simp at h
   obtain⟨fs,e,rfl⟩: ∃fs e,es=fs++[e]:=⟨es.dropLast,es.getLast hne,(List.dropLast_concat_getLast hne).symm⟩
   rw [aA.aBk,List.map_append,List.mem_append,←ih fs (by simpa using h)]
   by_cases c:k=e.1
   ·subst c
    rw [Go.Maps.has_put_same (aA.aVP fs) (aA.isKey _)]
    simp
   ·rw [Go.Maps.has_put_other (aA.aQh c)]
    simp [c]
 exact this _ es rfl
theorem aA.aYE (es:List (ByteArray×Value×List ByteArray)) (hn:(es.map (·.1)).Nodup) (e:ByteArray×Value×List ByteArray) (he:e∈es) (z:DataW Value):(aA.D es).atKey (.string e.1.data.toList) z= .held e.2.1:=by
 have: ∀n,∀es:List (ByteArray×Value×List ByteArray),es.length=n→(es.map (·.1)).Nodup→e∈es→(aA.D es).atKey (.string e.1.data.toList) z= .held e.2.1:=by
  intro n
  induction n with
  |zero=>
   intro es h _ he;rw [List.length_eq_zero_iff.1 h] at he
   cases he
  |succ n ih=>
   intro es h hn he
   have hne:es≠[]:=by rintro rfl;simp at h
   obtain⟨fs,f,rfl⟩: ∃fs e,es=fs++[e]:=⟨es.dropLast,es.getLast hne,(List.dropLast_concat_getLast hne).symm⟩;rw [List.map_append,List.nodup_append] at hn
   rw [aA.aBk]
   rcases List.mem_append.1 he with he|he
   ·have hk:e.1≠f.1:=fun h=>hn.2.2 e.1 (List.mem_map_of_mem he) f.1 (by simp) h
    rw [Go.Maps.atKey_put_other (aA.aQh hk)]
    exact ih fs (by simpa using h) hn.1 he
   ·obtain rfl:=List.mem_singleton.1 he
    exact Go.Maps.atKey_put_same (aA.aVP fs) (aA.isKey _) _ _
 exact this _ es rfl hn he
def aA.Lst (W:World) (v:Value) (l:List ByteArray):Prop:= ∃A c,v= .slice A l.length c∧l.length≤c∧Kd.C Kd.string W A l.length l
theorem aA.gb {W W1:World} (h:Below W.heap.size W W1) (row:Option Nat):W.grownBy W1 row:=⟨h.os,h.tape,h.output,h.size,fun i hi _=>h.block i hi⟩
theorem aA.VO {α:Type} {enc:α→Value} {h1: ∀x,(enc x).oneCell' =true} {W W1:World} {A:Option Addr} {n:Nat} {l:List α} {Bm:Nat} (h:Kd.C (Kd.scalar enc h1) W A n l) (hg:W.grownBy W1 (some Bm)) (hm: ∀cs t z,W.heap[Bm]?≠some (.cells cs t z)):Kd.C (Kd.scalar enc h1) W1 A n l:=by
 obtain⟨h1,h2,h3⟩:=h
 refine⟨h1,h2,fun hn=>?_⟩
 obtain⟨ad,ha,h3⟩:=h3 hn
 refine⟨ad,ha,fun j p hj=>?_⟩
 obtain⟨cs,e1,e2,e3⟩:=h3 j p hj
 refine⟨cs,e1,e2,fun i u hu=>?_⟩
 have h4:=e3 i u hu
 unfold World.cell? at h4⊢
 split at h4
 ·rename_i c1 t1 z1 hb
  rw [hg.block _ (Array.getElem?_eq_some_iff.1 hb).1 (by intro e;injection e with e;rw [e] at hb;exact hm _ _ _ hb),hb]
  exact h4
 ·cases h4
theorem aA.Lst.grown {W W1:World} {v:Value} {l:List ByteArray} {Bm:Nat} (h:aA.Lst W v l) (hg:W.grownBy W1 (some Bm)) (hm: ∀cs t z,W.heap[Bm]?≠some (.cells cs t z)):aA.Lst W1 v l:=by
 obtain⟨A,c,hv,hc,h1⟩:=h
 exact⟨A,c,hv,hc,aA.VO h1 hg hm⟩
structure aA.St (w0 W:World) (Bs Bk Bg Bm:Nat) (es:List (ByteArray×Value×List ByteArray)):Prop where
 gs:w0.heap.size≤Bs
 gk:w0.heap.size≤Bk
 gg:w0.heap.size≤Bg
 gm:w0.heap.size≤Bm
 bs:W.heap[Bs]?=some (.cells #[.map (some Bm)] 59 (0,0))
 bk:W.heap[Bk]?=some (.cells #[.func (.func 31) #[] #[]] 61 (0,0))
 bg:W.heap[Bg]?=some (.cells #[.func (.func 33) #[] #[.pointer (some ⟨Bs,0,none⟩), .pointer (some ⟨Bk,0,none⟩), .pointer (some ⟨Bg,0,none⟩)]] 62 (0,0))
 map:W.ownsMap Tryz.prog 9 aA.hR Bm es.length (aA.D es)
 nod:(es.map (·.1)).Nodup
 keys: ∀e∈es,e.1=aA.jn e.2.2
 lst: ∀e∈es,aA.Lst W e.2.1 e.2.2
 below:Below w0.heap.size w0 W
theorem aA.St.isMap {w0 W:World} {Bs Bk Bg Bm:Nat} {es:List (ByteArray×Value×List ByteArray)} (h:aA.St w0 W Bs Bk Bg Bm es): ∀cs t z,W.heap[Bm]?≠some (.cells cs t z):=by
 obtain⟨a,b,hb,_⟩:=h.map;intro cs t z e;rw [hb] at e
 cases e
theorem aA.St.step {w0 W W1:World} {Bs Bk Bg Bm:Nat} {es:List (ByteArray×Value×List ByteArray)} (h:aA.St w0 W Bs Bk Bg Bm es) (hb:Below W.heap.size W W1):aA.St w0 W1 Bs Bk Bg Bm es:=
 ⟨h.gs,h.gk,h.gg,h.gm,jD h.bs hb,jD h.bk hb,jD h.bg hb,h.map.kept (aA.gb hb none) (by simp),h.nod,h.keys,fun e he=>(h.lst e he).grown (aA.gb hb (some Bm)) h.isMap,h.below.trans (hb.mono h.below.size)⟩
theorem aA.wJ {a b c:World} {row:Option Nat} (h:a.grownBy b row) (k:b.grownBy c row):a.grownBy c row:=
 ⟨k.os.trans h.os,k.tape.trans h.tape,k.output.trans h.output,Nat.le_trans h.size k.size,fun i hi hn=>(k.block i (Nat.lt_of_lt_of_le hi h.size) hn).trans (h.block i hi hn)⟩
theorem aA.St.put {w0 W W1:World} {Bs Bk Bg Bm:Nat} {es:List (ByteArray×Value×List ByteArray)} {v:Value} {l:List ByteArray} (h:aA.St w0 W Bs Bk Bg Bm es) (hm:W1.ownsMap Tryz.prog 9 aA.hR Bm (es.length+1) ((aA.D es).put (.string (aA.jn l).data.toList) (.held v))) (hg:W.grownBy W1 (some Bm))
  (hk:aA.jn l∉es.map (·.1)) (hl:aA.Lst W v l):aA.St w0 W1 Bs Bk Bg Bm (es++[(aA.jn l,v,l)]):=by
 have hne: ∀B cs t z,W.heap[B]?=some (.cells cs t z)→some B≠some Bm:=by
  intro B cs t z hb e
  injection e with e
  rw [e] at hb
  exact h.isMap _ _ _ hb
 refine⟨h.gs,h.gk,h.gg,h.gm,(hg.block _ (jW h.bs) (hne _ _ _ _ h.bs)).trans h.bs,(hg.block _ (jW h.bk) (hne _ _ _ _ h.bk)).trans h.bk,(hg.block _ (jW h.bg) (hne _ _ _ _ h.bg)).trans h.bg,?_,?_,fun e he=>?_,fun e he=>?_,h.below.grown hg h.below.size (fun j hj=>by cases hj;exact h.gm)⟩
 ·rw [aA.aBk,List.length_append]
  exact hm
 ·rw [List.map_append,List.nodup_append]
  refine⟨h.nod,by simp,fun a ha b hb=>?_⟩
  have:b=aA.jn l:=by simpa using hb
  rw [this]
  rintro rfl
  exact hk ha
 ·rcases List.mem_append.1 he with he|he
  ·exact h.keys e he
  ·rw [List.mem_singleton.1 he]
 ·rcases List.mem_append.1 he with he|he
  ·exact(h.lst e he).grown hg h.isMap
  ·rw [List.mem_singleton.1 he]
   exact hl.grown hg h.isMap
theorem aA.aH8 (cs:List Int) (x:Int) (h0:0≤x) (h1:x<(cs.length:Int)):cs.drop x.toNat=rd cs x::cs.drop (x+1).toNat:=by
 rw [List.drop_eq_getElem_cons (show x.toNat<cs.length by omega),show(x+1).toNat=x.toNat+1 by omega]
 congr 1
 simp [rd,List.getD_eq_getElem?_getD,show x.toNat<cs.length by omega]
def aA.okB (l:List ByteArray):Bool:=decide (0<l.length)&&decide (l.length≤1000000)&&decide ((Go.Lib.join (l.map (·.data.toList)) (⟨#[10]⟩:ByteArray).data.toList).length≤1000000000)
theorem aA.aGD {l:List ByteArray} (h:aA.okB l=true):aA.Ok l:=by
 simp only [aA.okB,Bool.and_eq_true,decide_eq_true_eq] at h
 exact⟨h.1.1,h.1.2,h.2⟩
def aA.gl (G:List (ByteArray×List ByteArray)→List ByteArray→Option (List (ByteArray×List ByteArray))) (k:Nat) (l:List ByteArray):List Int→List (ByteArray×List ByteArray)→Option (List (ByteArray×List ByteArray))
 |[],sn=>some sn
 |c::cs,sn=>(jH.f k l c).bind fun x=>(G sn x).bind fun sn' =>aA.gl G k l cs sn'
def aA.g:Nat→List (ByteArray×List ByteArray)→List ByteArray→Option (List (ByteArray×List ByteArray))
 |0,_,_=>none
 |k+1,sn,l=>if aA.okB l=true∧sn.length<1000000 then(if sn.any (fun e=>e.1.toList==(aA.jn l).toList)=true then some sn else(fA.f k l).bind fun cs=>aA.gl (aA.g k) k l cs (sn++[(aA.jn l,l)]))else none
def aA.two (e:ByteArray×Value×List ByteArray):ByteArray×List ByteArray:=(e.1,e.2.2)
def aA.g.T0:Bool×List (List Nat×List Nat):=(true,[([],[]),([],[]),([],[]),([1,2],[1,2]),([0,3],[0,3]),([4],[4]),([5],[5]),([5],[5]),([6,3,0,1,2,3,4,5,6],[6]),([7,8,0,1,2,3,4,5,6,7,8],[7])])
def aA.g.B0:List Nat:=[0,0,0,6,15,31,63,63,127,511]
theorem aA.g.bLi:nX .any (opsOf Tryz.f33 0)=aA.g.T0:=by kernel_rfl
theorem aA.g.a8y:jA aA.g.T0.2 aA.g.B0=true:=by kernel_rfl
def aA.g.T2:Bool×List (List Nat×List Nat):=(true,[([],[]),([],[]),([],[]),([1,2],[1,2]),([],[]),([0,3,4,3,0,1,2,3,4],[0,3,4])])
def aA.g.B2:List Nat:=[0,0,0,6,0,31]
theorem aA.g.aLo:nX .any (opsOf Tryz.f33 2)=aA.g.T2:=by kernel_rfl
theorem aA.g.aAO:jA aA.g.T2.2 aA.g.B2=true:=by kernel_rfl
def aA.g.T6:Bool×List (List Nat×List Nat):=(true,[([],[]),([],[]),([],[]),([1,2],[1,2]),([0,3,3],[0,3])])
def aA.g.B6:List Nat:=[0,0,0,6,15]
theorem aA.g.aRk:nX .any (opsOf Tryz.f33 6)=aA.g.T6:=by kernel_rfl
theorem aA.g.aDX:jA aA.g.T6.2 aA.g.B6=true:=by kernel_rfl
theorem aA.aHL (es:List (ByteArray×Value×List ByteArray)) (k:ByteArray):(es.map aA.two).any (fun e=>e.1.toList==k.toList)=true↔k∈es.map (·.1):=by
 rw [List.any_eq_true]
 constructor
 ·rintro⟨x,hx,h⟩
  obtain⟨e,he,rfl⟩:=List.mem_map.1 hx
  have h:e.1.toList=k.toList:=by simpa [aA.two] using h
  rw [Lib.toList_data,Lib.toList_data] at h
  exact List.mem_map.2 ⟨e,he,ByteArray.ext (Array.toList_inj.1 h)⟩
 ·intro h;obtain⟨e,he,rfl⟩:=List.mem_map.1 h
  exact⟨_,List.mem_map_of_mem he,by simp [aA.two]⟩
theorem aA.aGo {l:List ByteArray} (h:aA.Ok l):(aA.jn l).size≤maxLen:=by
 have:(aA.jn l).size=(Go.Lib.join (l.map (·.data.toList)) (⟨#[10]⟩:ByteArray).data.toList).length:=by simp [aA.jn,ByteArray.size]
 rw [this]
 have:=h.join
 unfold maxLen
 omega
set_option maxHeartbeats 4000000 in
set_option maxRecDepth 100000 in
theorem aA.bH4 (w0:World) (Bs Bk Bg Bm:Nat) (k:Nat): ∀(es:List (ByteArray×Value×List ByteArray)) (l:List ByteArray) (r:List (ByteArray×List ByteArray)) (A:Option Addr) (c:Nat) (W:World),Kd.C Kd.string W A l.length l→l.length≤c→aA.St w0 W Bs Bk Bg Bm es→
  aA.g k (es.map aA.two) l=some r→
  Calls Tryz.prog 33 #[.slice A l.length c, .pointer (some ⟨Bs,0,none⟩), .pointer (some ⟨Bk,0,none⟩), .pointer (some ⟨Bg,0,none⟩)] W fun e w' =>e= .returned (.tuple #[])∧ ∃es',es'.map aA.two=r∧aA.St w0 w' Bs Bk Bg Bm es' ∧W.grownBy w' (some Bm):=by
 induction k with
 |zero=>
  intro es l r A c W _ _ _ h;cases h
 |succ k ih=>
  intro es l r A c W hL hc hS h;rw [aA.g] at h
  split at h
  case isFalse=>cases h
  rename_i hok;have OK:=aA.aGD hok.1;have HN:=am hok.2
  have hcs:W.cell? ⟨Bs,0,none⟩=some (.map (some Bm)):=(dY hS.bs 0).trans rfl
  have hck:W.cell? ⟨Bk,0,none⟩=some (.func (.func 31) #[] #[]):=(dY hS.bk 0).trans rfl
  have hkl:keyOf Tryz.prog 9 (.string (aA.jn l))=some (.string (aA.jn l).data.toList):=Go.WideMaps.keyOf_string_mk Tryz.underlying9 (aA.aGo OK)
  have HOK:=am OK;have HS:=am hS;have HL:=am hL;have HC:=am hc;have HK:=am hkl;have HI:=am ih;clear hL hc hS ih OK hkl hok;go_enter Tryz.func33,Tryz.ntmps33
  go_upto_region 0 with (fail)
  refine st (n:=10) (S:=fun w' =>w'.cell? ⟨Bs,0,none⟩=some (.map (some Bm))∧w'.cell? ⟨Bk,0,none⟩=some (.func (.func 31) #[] #[])) (ds:=[]) ⟨hcs,hck⟩ (fun hHeld=>?_);refine dW aA.g.bLi aA.g.a8y (fun kQ rT=>?_)
  refine V9 0 10 hHeld ?_;refine V9 1 11 hHeld ?_;refine pu 2 12 ?_;refine qF 3 13 (fun K hK=>?_)
  refine JG 31 #[.slice A l.length c] (by rfl) rfl aHN ?_
  refine(aA.aUl A c l _ (Kd.FY HL.out) HC.out HOK.out).mono ?_
  rintro e w1 ⟨rfl,hb1⟩
  have aF9:Below W.heap.size W w1:=Below.trans (wB (Below.refl _ W)) hb1
  have HS1:=am (HS.out.step aF9);have HB1:=am aF9;clear hb1 aF9;refine⟨_,rfl,?_⟩;refine hK.out _ _ ⟨(dY HS1.out.bs 0).trans rfl,(dY HS1.out.bk 0).trans rfl⟩ (fun hHeld=>?_);clear hK K;refine nm 13 ?_;obtain⟨v14,bSm,aGh,bAO⟩:=HS1.out.map.look_ok (Go.Maps.string_keyed Tryz.underlying9) Tryz.underlying59 (z:= .slice none 0 0) (by rfl) (zd:= .held (.slice none 0 0)) (zp:=[]) rfl HK.out;refine qF 4 14 (fun K hK=>?_)
  refine GY (w1:=w1) (v:= .tuple #[v14, .bool (Go.Maps.has (aA.D es) (.string (aA.jn l).data.toList))]) (by rfl) rfl (by simp [execOp,Act.eval,aGh,Result.andThen]) ?_
  refine hK.out _ _ hHeld (fun hHeld=>?_);clear hK K;refine nm 14 ?_;refine pu 5 9 ?_;refine pu 6 15 ?_;refine pu 7 16 ?_;refine pu 8 5 ?_;refine pu 9 6 ?_
  refine kD (fQ kQ.out (by kernel_rfl)) ?_
  by_cases c0:aA.jn l∈es.map (·.1)
  ·have hb:Go.Maps.has (aA.D es) (.string (aA.jn l).data.toList)=true:=(aA.aLC es _).2 c0
   rw [if_pos ((aA.aHL es _).2 c0)] at h;obtain rfl:=Option.some.inj h
   simp only [hb]
   clear aGh bAO;go_wp2
   refine bodyPost_ret (results_none rfl _ _ _) rfl ?_
   exact⟨rfl,es,rfl,HS1.out,aA.gb HB1.out _⟩
  have hb:Go.Maps.has (aA.D es) (.string (aA.jn l).data.toList)=false:=Bool.eq_false_iff.2 (fun e=>c0 ((aA.aLC es _).1 e))
  rw [if_neg (fun e=>c0 ((aA.aHL es _).1 e))] at h;obtain⟨cs,a90,h⟩:=Option.bind_eq_some_iff.1 h;have HF:=am a90;have HH:=am h;have vX:=am c0;clear a90 h c0
  simp only [hb]
  clear aGh bAO hcs hck hb
  have hcs:w1.cell? ⟨Bs,0,none⟩=some (.map (some Bm)):=(dY HS1.out.bs 0).trans rfl
  have hck:w1.cell? ⟨Bk,0,none⟩=some (.func (.func 31) #[] #[]):=(dY HS1.out.bk 0).trans rfl
  go_upto_region 2 with (fail)
  refine st (n:=6) (S:=fun w' =>w'.cell? ⟨Bs,0,none⟩=some (.map (some Bm))∧w'.cell? ⟨Bk,0,none⟩=some (.func (.func 31) #[] #[])) (ds:=[]) ⟨hcs,hck⟩ (fun hHeld=>?_);refine dW aA.g.aLo aA.g.aAO (fun kQ rT=>?_)
  refine V9 0 18 hHeld ?_;refine V9 1 19 hHeld ?_;refine pu 2 20 ?_;refine pu 4 22 ?_;refine qF 3 21 (fun K hK=>?_)
  refine JG 31 #[.slice A l.length c] (by rfl) rfl aHN ?_
  refine(aA.aUl A c l _ (Kd.FY (Kd.dV HL.out HB1.out)) HC.out HOK.out).mono ?_
  rintro e w2 ⟨rfl,hb1⟩
  have aF9:Below w1.heap.size w1 w2:=Below.trans (wB (Below.refl _ w1)) hb1
  have HS2:=am (HS1.out.step aF9);have HB2:=am (Below.trans HB1.out (aF9.mono HB1.out.size));clear hb1 aF9;refine⟨_,rfl,?_⟩;refine hK.out _ _ ⟨(dY HS2.out.bs 0).trans rfl,(dY HS2.out.bk 0).trans rfl⟩ (fun hHeld=>?_);clear hK K;refine nm 21 ?_
  obtain⟨w3,aYq,hm3,hg3⟩:=HS2.out.map.update (Go.Maps.string_keyed Tryz.underlying9) Tryz.underlying59 (by have:=HN.out;rw [List.length_map] at this;unfold maxLen;omega) (val:= .slice A l.length c) (d:= .held (.slice A l.length c)) (ps:=[]) HK.out rfl
  have HS3:=am (HS2.out.put hm3 hg3 vX.out ⟨A,c,rfl,HC.out,Kd.dV HL.out HB2.out⟩);have HG3:=am (aA.wJ (aA.gb HB2.out (some Bm)) hg3);have HL3:=am (aA.VO HL.out HG3.out HS.out.isMap)
  refine a2n (i:=5) (N:=none) #[true,true,true,true,true,true] rfl rfl (CR kQ.out (by kernel_rfl)) (by decide) (fun K hK=>?_)
  refine RL (w1:=w3) (by rfl) rfl (by simp [execOp,Act.eval,aYq,Result.andThen]) ?_
  refine hK.out _ _ ⟨(dY HS3.out.bs 0).trans rfl,(dY HS3.out.bk 0).trans rfl⟩ (fun hHeld=>?_);clear hK K aYq hm3 hg3
  refine kD (fQ kQ.out (by kernel_rfl)) ?_
  have HM:=am HS.out.isMap;clear hcs hck HS1 HB1 HS2 HB2 hHeld HS HL
  go_wp2_with (go_at_call 34;refine(fA.calls k A c l cs _ HL3.out HC.out HF.out).mono ?_;rintro e w4 ⟨v24,rfl,hR4,hb4⟩;obtain⟨A24,c24,e24,hc24,a9I⟩:=Kd.KE hR4;subst e24;have HS4:=am (HS3.out.step hb4);have HG4:=am (aA.wJ HG3.out (aA.gb hb4 (some Bm)));have HL4:=am (Kd.dV HL3.out hb4);have HR4:=am a9I;clear hR4 hb4 a9I)
  have HH0:=am (show aA.gl (aA.g k) k l (cs.drop (0:Int).toNat) ((es++[(aA.jn l,(Value.slice A l.length c),l)]).map aA.two)=some r by rw [List.map_append];exact HH.out)
  go_loopg [26] (cs.length+1) (fun kq v26 W' => ∃(x:Int) (es' :List (ByteArray×Value×List ByteArray)),v26= .int .i64 x∧aC (0≤x∧x≤(cs.length:Int))∧aC (cs.length+1≤kq+x.toNat)∧aC (aA.St w0 W' Bs Bk Bg Bm es')∧aC (W.grownBy W' (some Bm))∧aC (Kd.C Kd.string W' A l.length l)∧aC (Kd.C (Kd.int .u8) W' A24 cs.length cs)∧aC (aA.gl (aA.g k) k l (cs.drop x.toNat) (es'.map aA.two)=some r))
  case atStart=>exact⟨0,_,rfl,⟨by omega⟩,⟨by omega⟩,HS4,HG4,HL4,HR4,HH0⟩
  case round=>
   clear HS4 HG4 HL4 HR4 HH0 HS3 HG3 HL3;obtain⟨x,es',rfl,HX,HQ,HS,HG,HL,HR,HH1⟩:=hrel;have hle:=HR.out.2.1
   by_cases c2:x<(cs.length:Int)
   ·have wD:=decide_eq_true c2
    have p1:0≤x:=HX.out.1
    have q1:=c2;obtain⟨ad,e1,hx0⟩:=Kd.XR HR.out x p1 q1;have h1:=HH1.out;rw [aA.aH8 cs x p1 q1,aA.gl] at h1;obtain⟨xs,hxs,h1⟩:=Option.bind_eq_some_iff.1 h1;obtain⟨sn',hsn,h1⟩:=Option.bind_eq_some_iff.1 h1;have HXS:=am hxs;have HSN:=am hsn;have HH2:=am h1;have C2:=am c2;have HLE:=am hle
    have hw:wrap64 (x+1)=x+1:=by unfold wrap64;omega
    have HW:=am hw
    cases gk with
    |zero=>exact absurd HQ.out (by omega)
    |succ k1=>
    have hcg:wr.cell? ⟨Bg,0,none⟩=some (.func (.func 33) #[] #[.pointer (some ⟨Bs,0,none⟩), .pointer (some ⟨Bk,0,none⟩), .pointer (some ⟨Bg,0,none⟩)]):=(dY HS.out.bg 0).trans rfl
    clear hxs hsn h1 c2 hle hw HH1;cases e1;replace p1:=eq_true p1;replace q1:=eq_true q1
    go_upto_region 6 with (fail)
    refine st (n:=5) (S:=fun w' =>w'.cell? ⟨Bg,0,none⟩=some (.func (.func 33) #[] #[.pointer (some ⟨Bs,0,none⟩), .pointer (some ⟨Bk,0,none⟩), .pointer (some ⟨Bg,0,none⟩)])) (ds:=[]) hcg (fun hHeld=>?_);refine dW aA.g.aRk aA.g.aDX (fun kQ rT=>?_)
    refine tk1 0 30 hHeld ?_;refine pu 1 31 ?_;refine pu 2 32 ?_;refine qF 3 33 (fun K hK=>?_)
    refine aA1 Tryz.func35 (by kernel_rfl) rfl #[.slice A l.length c, .int .u8 (rd cs x)] (by rfl) rfl rfl (by simp only [List.map_toArray,List.map_cons,List.map_nil];rfl) ?_
    refine(jH.calls k A c l (rd cs x) xs _ (Kd.FY HL.out) HC.out HXS.out).mono ?_
    rintro e w5 ⟨v33,rfl,hR5,hb5⟩
    have a0L:Below wr.heap.size wr w5:=Below.trans (wB (Below.refl _ wr)) hb5
    obtain⟨A33,c33,e33,bIm,a9K⟩:=Kd.KE hR5;subst e33;have HS5:=am (HS.out.step a0L);refine⟨_,rfl,?_⟩;refine hK.out _ _ ((dY HS5.out.bg 0).trans rfl) (fun hHeld=>?_);clear hK K;refine nm 33 ?_;refine qF 4 34 (fun K hK=>?_)
    refine JG 33 #[.slice A33 xs.length c33, .pointer (some ⟨Bs,0,none⟩), .pointer (some ⟨Bk,0,none⟩), .pointer (some ⟨Bg,0,none⟩)] (by rfl) rfl aHN ?_
    refine(HI.out es' xs sn' A33 c33 w5 a9K bIm HS5.out HSN.out).mono ?_
    rintro e w6 ⟨rfl,es2,rfl,hS6,hg6⟩;have aTu:=aA.wJ (aA.gb a0L (some Bm)) hg6;have HS6:=am hS6;have HG6:=am (aA.wJ HG.out aTu);have HL6:=am (aA.VO HL.out aTu HS.out.isMap);have HR6:=am (aA.VO HR.out aTu HS.out.isMap);refine⟨_,rfl,?_⟩;refine hK.out _ _ ((dY HS6.out.bg 0).trans rfl) (fun hHeld=>?_);clear hK K;refine nm 34 ?_
    refine kD (fQ kQ.out (by kernel_rfl)) ?_
    clear hHeld hS6 hg6 aTu hb5 a0L hR5 a9K HS5 HS HG HL HR hx0 hcg;go_wp2
    go_roundg k1
    case measure=>omega
    case rel=>exact⟨wrap64 (x+1),es2,rfl,⟨by rw [HW.out];have:=HX.out;have:=C2.out;omega⟩,⟨by rw [HW.out];have:=HQ.out;have:=HX.out;omega⟩,HS6,HG6,HL6,HR6,⟨by rw [HW.out];exact HH2.out⟩⟩
   have wD:=decide_eq_false c2;have h1:=HH1.out
   rw [List.drop_eq_nil_of_le (by have:=HX.out;omega),aA.gl] at h1
   have h2:=Option.some.inj h1;clear h1 hle c2;go_wp2
   refine bodyPost_end (results_none rfl _ _ _) rfl ?_
   exact⟨rfl,es',h2,HS.out,HG.out⟩
def aA.aFJ (k:Nat) (a b:List ByteArray):Option Int:=(iH.f k b).bind fun lb=>(iH.f k a).bind fun la=>(jP.f lb la).bind fun t9=>(bN.f k a b).bind fun t12=>fJ.f k [t9,t12]
def aA.Gr (w W:World):Prop:= ∃q os',W=Go.Sort.grow (w.drewN q) os'
theorem aA.Gr.refl (w:World):aA.Gr w w:=⟨0, #[],by rw [Go.Sort.grow_empty];rfl⟩
theorem aA.Gr.drewN {w W:World} (h:aA.Gr w W) (n:Nat):aA.Gr w (W.drewN n):=by
 obtain⟨q,os,rfl⟩:=h
 exact⟨q+n,os,by rw [←World.drewN_drewN];rfl⟩
theorem aA.Gr.drew {w W:World} (h:aA.Gr w W):aA.Gr w W.drew:=h.drewN 1
theorem aA.Gr.alloc {w W:World} (h:aA.Gr w W) (o:Obj):aA.Gr w (W.alloc o):=by
 obtain⟨q,os,rfl⟩:=h
 exact⟨q,os++ #[o],by rw [Go.Sort.alloc_eq_grow,Go.Sort.grow_grow]⟩
theorem aA.a3G (w:World) (x y:Int):Kd.C (Kd.int .i64) (w.alloc (.cells #[.int .i64 x, .int .i64 y] 3)) (some ⟨w.heap.size,0,none⟩) 2 [x,y]:=by
 refine⟨rfl,by decide,fun _=>⟨_,rfl,fun j p hj=>?_⟩⟩
 refine⟨[.int .i64 p],rfl,rfl,fun i u hu=>?_⟩
 have hi:i=0:=by
  rcases i with _|i
  ·rfl
  ·simp at hu
 subst hi
 obtain rfl:Value.int .i64 p=u:=by simpa using hu
 rcases j with _|_|j
 ·obtain rfl:x=p:=by simpa using hj
  simp [Addr.add,show(Kd.int .i64).sz=1 from rfl]
 ·obtain rfl:y=p:=by simpa using hj
  simp [Addr.add,show(Kd.int .i64).sz=1 from rfl]
 ·simp at hj
set_option maxHeartbeats 4000000 in
set_option maxRecDepth 100000 in
theorem aA.bGr (k:Nat) (a b:List ByteArray) (A0 A1:Option Addr) (c0 c1:Nat) (r:Int) (W:World) (h0:Kd.C Kd.string W A0 a.length a) (g0:a.length≤c0) (h1:Kd.C Kd.string W A1 b.length b) (g1:b.length≤c1) (h:aA.aFJ k a b=some r):
  Calls Tryz.prog 37 #[.slice A0 a.length c0, .slice A1 b.length c1] W fun e w' =>e= .returned (.int .i64 r)∧aA.Gr W w' :=by
 obtain⟨lb,hlb,h⟩:=Option.bind_eq_some_iff.1 h;obtain⟨la,hla,h⟩:=Option.bind_eq_some_iff.1 h;obtain⟨t9,h9,h⟩:=Option.bind_eq_some_iff.1 h;obtain⟨t12,h12,h⟩:=Option.bind_eq_some_iff.1 h
 have H0:=am h0;have G0:=am g0;have H1:=am h1;have G1:=am g1
 have HB:=am hlb;have HA:=am hla;have H9:=am h9;have H12:=am h12;have HO:=am h
 clear h0 g0 h1 g1 hlb hla h9 h12 h;go_enter Tryz.func37,Tryz.ntmps37
 go_wp2_with (first
  |(go_at_call 40;with_reducible refine(iH.calls k A1 c1 b lb _ H1.out G1.out HB.out).mono ?_;rintro e w' ⟨rfl,⟨n1,rfl⟩⟩)
  |(go_at_call 40;with_reducible refine(iH.calls k A0 c0 a la _ (Kd.zL H0.out n1) G0.out HA.out).mono ?_;rintro e w' ⟨rfl,⟨n2,rfl⟩⟩)
  |(go_at_call 39;with_reducible refine(jP.calls lb la t9 _ H9.out).mono ?_;rintro e w' ⟨rfl,⟨n3,rfl⟩⟩)
  |(go_at_call 41;with_reducible refine(bN.calls k A0 c0 a A1 c1 b t12 _ ?x0 G0.out ?x1 G1.out H12.out).mono ?_;(case x0=>repeat(first|exact H0.out|apply Kd.zL));(case x1=>repeat(first|exact H1.out|apply Kd.zL));rintro e w' ⟨rfl,⟨n4,rfl⟩⟩)
  |(go_at_call 38;refine(fJ.calls k _ _ [t9,t12] r _ (aA.a3G _ t9 t12) (Nat.le_refl 2) HO.out).mono ?_;rintro e w' ⟨rfl,⟨n5,rfl⟩⟩))
 go_ret
 exact⟨rfl,(((aA.Gr.refl W).drewN _).alloc _).drewN _⟩
def aA.lng (l:List ByteArray):Int:=l.foldl (fun n s=>mx n (s.size:Int)) 0
def aA.lex:List ByteArray→List ByteArray→Bool
 |[],[]=>false
 |[],_::_=>true
 |_::_,[]=>false
 |x::a,y::b=>if Op.bytesLess x.toList y.toList=true then true else if Op.bytesLess y.toList x.toList=true then false else aA.lex a b
def aA.lt (a b:List ByteArray):Bool:=if aA.lng b<aA.lng a then true else if aA.lng a<aA.lng b then false else aA.lex a b
def aA.cf (a b:List ByteArray):Int:=if aA.lt a b=true then-1 else if aA.lt b a=true then 1 else 0
theorem aA.aJK: ∀a b:List ByteArray,aA.lex a b=true↔a.map (·.toList)<b.map (·.toList)
 |[],[]=>by simp [aA.lex]
 |[],_::_=>by simp [aA.lex]
 |_::_,[]=>by simp [aA.lex]
 |x::a,y::b=>by
  rw [aA.lex,List.map_cons,List.map_cons,List.cons_lt_cons_iff,←aA.aJK a b,bytesLess_eq,bytesLess_eq]
  by_cases h1:x.toList<y.toList
  ·simp [h1]
  ·by_cases h2:y.toList<x.toList
   ·have hne:x.toList≠y.toList:=fun e=>List.lt_irrefl _ (e▸h2)
    simp [h1,h2,hne]
   ·have he:x.toList=y.toList:=List.le_antisymm (List.not_lt.1 h2) (List.not_lt.1 h1)
    simp [he]
theorem aA.lt_iff (a b:List ByteArray):aA.lt a b=true↔aA.lng b<aA.lng a∨(aA.lng a=aA.lng b∧a.map (·.toList)<b.map (·.toList)):=by
 unfold aA.lt
 rw [←aA.aJK]
 by_cases h1:aA.lng b<aA.lng a
 ·simp [h1]
 ·by_cases h2:aA.lng a<aA.lng b
  ·simp [h1,h2]
   omega
  ·simp [h1,h2]
   omega
theorem aA.lt_irrefl (a:List ByteArray):aA.lt a a=false:=by
 rw [Bool.eq_false_iff,Ne,aA.lt_iff]
 rintro(h|⟨_,h⟩)
 ·omega
 ·exact List.lt_irrefl _ h
theorem aA.lt_trans {a b c:List ByteArray} (h:aA.lt a b=true) (k:aA.lt b c=true):aA.lt a c=true:=by
 rw [aA.lt_iff] at*
 rcases h with h|⟨h,h'⟩<;>rcases k with k|⟨k,k'⟩
 ·exact .inl (by omega)
 ·exact .inl (by omega)
 ·exact .inl (by omega)
 ·exact .inr ⟨by omega,List.lt_trans h' k'⟩
theorem aA.map_inj: ∀{a b:List ByteArray},a.map (·.toList)=b.map (·.toList)→a=b
 |[],[],_=>rfl
 |[],_::_,h=>by simp at h
 |_::_,[],h=>by simp at h
 |x::a,y::b,h=>by
  rw [List.map_cons,List.map_cons,List.cons.injEq,Lib.toList_data,Lib.toList_data] at h
  rw [aA.map_inj h.2,ByteArray.ext (Array.toList_inj.1 h.1)]
theorem aA.aGw {a b:List ByteArray} (h:aA.lt a b=false) (k:aA.lt b a=false):a=b:=by
 rw [Bool.eq_false_iff,Ne,aA.lt_iff] at*
 have e:aA.lng a=aA.lng b:=by
  have h1:=fun z=>h (.inl z);have k1:=fun z=>k (.inl z)
  omega
 have h1: ¬a.map (·.toList)<b.map (·.toList):=fun z=>h (.inr ⟨e,z⟩)
 have k1: ¬b.map (·.toList)<a.map (·.toList):=fun z=>k (.inr ⟨e.symm,z⟩)
 exact aA.map_inj (List.le_antisymm (List.not_lt.1 k1) (List.not_lt.1 h1))
theorem aA.V5 (a b:List ByteArray):ltOf aA.cf a b=aA.lt a b:=by
 unfold ltOf aA.cf
 cases h:aA.lt a b with
 |true=>simp
 |false=>cases h2:aA.lt b a<;>simp
theorem aA.swo:Go.Sort.SWO aA.lt where
 irrefl:=aA.lt_irrefl
 trans x y z h k:=aA.lt_trans h k
 ntrans x y z h k:=by
  cases h3:aA.lt x z with
  |false=>rfl
  |true=>
   cases h4:aA.lt y x with
   |true=>rw [aA.lt_trans h4 h3] at k;cases k
   |false=>
    have e:=aA.aGw h h4;subst e;rw [h3] at k
    cases k
theorem aA.aGM (l:List ByteArray) (i:Nat) (h:i<l.length):bP ByteArray.empty l (i:Int)=l[i]:=by
 simp [bP,List.getD_eq_getElem?_getD,h]
theorem aA.aQo (l:List ByteArray) (hl:l.length≤1000000) (k:Nat): ∀(i:Nat) (v r:Int),iH.l0 k v l (l.length:Int) (i:Int)=some r→r=(l.drop i).foldl (fun n s=>mx n (s.size:Int)) v:=by
 induction k with
 |zero=>intro i v r h;cases h
 |succ k ih=>
  intro i v r h;rw [iH.l0] at h
  by_cases c:(i:Int)<(l.length:Int)
  ·have hi:i<l.length:=by omega
   rw [if_pos c,if_pos (by omega),if_pos c,aA.aGM l i hi,show wrap64 ((i:Int)+1)=((i+1:Nat):Int)by unfold wrap64;omega] at h
   rw [ih (i+1) _ r h,List.drop_eq_getElem_cons hi]
   rfl
  ·rw [if_neg c] at h
   rw [List.drop_eq_nil_of_le (by omega)]
   exact(Option.some.inj h).symm
theorem aA.aQp {l:List ByteArray} (hl:l.length≤1000000) {k:Nat} {r:Int} (h:iH.f k l=some r):r=aA.lng l:=by
 have:=aA.aQo l hl k 0 0 r h
 rwa [List.drop_zero] at this
theorem aA.bGq (x y:ByteArray):eY.f x y=some (if Op.bytesLess x.toList y.toList=true then-1 else if Op.bytesLess y.toList x.toList=true then 1 else 0):=by
 have n2: ∀z:ByteArray,(z.toList !=z.toList)=false:=fun z=>by simp
 unfold eY.f cmp_isNaN_string.f
 simp only [n2,Option.bind_some,Bool.false_eq_true,if_false]
 by_cases h4:Op.bytesLess x.toList y.toList=true<;>by_cases h5:Op.bytesLess y.toList x.toList=true<;>simp [h4,h5]
theorem aA.bGo (x y:Int):jP.f x y=some (if x<y then-1 else if x>y then 1 else 0):=by
 have n2: ∀z:Int,(z !=z)=false:=fun z=>by simp
 unfold jP.f cmp_isNaN_int.f
 simp only [n2,Option.bind_some,Bool.false_eq_true,if_false]
 by_cases h4:x<y<;>by_cases h5:x>y<;>simp [h4,h5]
theorem aA.SX (a b:List ByteArray) (ha:a.length≤1000000) (k:Nat): ∀(i:Nat) (r:Int),i≤a.length→bN.l0 k a b a (a.length:Int) (i:Int)=some r→r=(if aA.lex (a.drop i) (b.drop i)=true then-1 else if aA.lex (b.drop i) (a.drop i)=true then 1 else 0):=by
 induction k with
 |zero=>intro i r _ h;cases h
 |succ k ih=>
  intro i r hle h;rw [bN.l0] at h
  by_cases c:(i:Int)<(a.length:Int)
  ·have hi:i<a.length:=by omega
   rw [if_pos c,if_pos (by omega),if_pos c,aA.aGM a i hi,show wrap64 ((i:Int)+1)=((i+1:Nat):Int)by unfold wrap64;omega] at h
   rw [List.drop_eq_getElem_cons hi]
   by_cases d:(i:Int)≥(b.length:Int)
   ·rw [if_pos d] at h
    rw [List.drop_eq_nil_of_le (show b.length≤i by omega)]
    rw [←Option.some.inj h]
    rfl
   ·have hb:i<b.length:=by omega
    rw [if_neg d,if_pos (by omega),aA.aGM b i hb,aA.bGq,Option.bind_some] at h
    rw [List.drop_eq_getElem_cons hb,aA.lex,aA.lex]
    by_cases h4:Op.bytesLess a[i].toList b[i].toList=true
    ·rw [if_pos h4,if_neg (by decide)] at h
     rw [if_pos h4,if_pos rfl]
     exact(Option.some.inj h).symm
    ·rw [if_neg h4] at h
     by_cases h5:Op.bytesLess b[i].toList a[i].toList=true
     ·rw [if_pos h5,if_neg (by decide)] at h
      rw [if_neg h4,if_pos h5,if_neg (by decide),if_pos h5,if_pos rfl]
      exact(Option.some.inj h).symm
     ·rw [if_neg h5,if_pos rfl] at h
      rw [if_neg h4,if_neg h5,if_neg h5,if_neg h4]
      exact ih (i+1) r hi h
  ·rw [if_neg c] at h
   rw [List.drop_eq_nil_of_le (show a.length≤i by omega)]
   by_cases d:(a.length:Int)<(b.length:Int)
   ·rw [if_pos d] at h
    rcases Nat.lt_or_ge i b.length with hb|hb
    ·rw [List.drop_eq_getElem_cons hb]
     exact(Option.some.inj h).symm
    ·omega
   ·rw [if_neg d] at h
    rw [List.drop_eq_nil_of_le (show b.length≤i by omega)]
    exact(Option.some.inj h).symm
theorem aA.bGp (k:Nat) (x y r:Int) (h:fJ.f k [x,y]=some r):r=if x=0 then y else x:=by
 unfold fJ.f at h
 rcases k with _|k
 ·cases h
 rw [fJ.l0,if_pos (by simp),if_pos (by simp),if_pos (by simp)] at h
 rw [show rd [x,y] 0=x from rfl,show wrap64 ((0:Int)+1)=1 by unfold wrap64;omega] at h
 by_cases hx:x=0
 ·rw [if_pos hx] at h⊢
  rcases k with _|k
  ·cases h
  rw [fJ.l0,if_pos (by simp),if_pos (by simp),if_pos (by simp)] at h
  rw [show rd [x,y] 1=y from rfl,show wrap64 ((1:Int)+1)=2 by unfold wrap64;omega] at h
  by_cases hy:y=0
  ·rw [if_pos hy] at h
   rcases k with _|k
   ·cases h
   rw [fJ.l0,if_neg (by simp)] at h
   rw [hy]
   exact(Option.some.inj h).symm
  ·rw [if_neg hy] at h
   exact(Option.some.inj h).symm
 ·rw [if_neg hx] at h⊢
  exact(Option.some.inj h).symm
theorem aA.aSD {k:Nat} {a b:List ByteArray} (ha:a.length≤1000000) (hb:b.length≤1000000) {r:Int} (h:aA.aFJ k a b=some r):r=aA.cf a b:=by
 obtain⟨lb,hlb,h⟩:=Option.bind_eq_some_iff.1 h;obtain⟨la,hla,h⟩:=Option.bind_eq_some_iff.1 h;obtain⟨t9,h9,h⟩:=Option.bind_eq_some_iff.1 h;obtain⟨t12,h12,h⟩:=Option.bind_eq_some_iff.1 h;rw [aA.bGo] at h9;have e9:=(Option.some.inj h9).symm;have e12:=aA.SX a b ha k 0 t12 (Nat.zero_le _) h12;rw [List.drop_zero,List.drop_zero] at e12;rw [aA.aQp hb hlb,aA.aQp ha hla] at e9
 rw [aA.bGp k t9 t12 r h,e9,e12]
 unfold aA.cf aA.lt
 by_cases h1:aA.lng b<aA.lng a
 ·simp [h1]
 ·by_cases h2:aA.lng a<aA.lng b
  ·simp [h1,h2]
  ·simp [h1,h2]
def aA.le (a b:List ByteArray):Bool:= !aA.lt b a
theorem aA.Q9 {α:Type} [Inhabited α] {enc:α→Value} (w:World) (g n:Nat) (d:Array α):w.grownBy (Go.Sort.putRow enc (Go.Sort.ahead w n) g 0 d) (some g):=by
 refine⟨rfl,rfl,rfl,by simp [Go.Sort.putRow,Go.Sort.mapBlock,Go.Sort.ahead],fun k hk hne=>?_⟩
 have:g≠k:=fun e=>hne (by rw [e])
 simp [Go.Sort.putRow,Go.Sort.mapBlock,Go.Sort.ahead,Array.getElem?_modify,this]
theorem aA.MZ (w:World) (os:Array Obj):w.grownBy (Go.Sort.grow w os) none:=⟨rfl,rfl,rfl,by simp [Go.Sort.grow],fun i hi _=>Go.Sort.heap_grow_old _ _ hi⟩
theorem aA.Y5 {l m:List (List ByteArray)} (hp:l.Perm m) (h1:l.Pairwise (fun a b=>aA.le a b=true)) (h2:m.Pairwise (fun a b=>aA.le a b=true)):l=m:=by
 refine List.Perm.eq_of_pairwise (le:=fun a b=>aA.le a b=true) (fun a b _ _ h k=>?_) h1 h2 hp
 simp only [aA.le,Bool.not_eq_true'] at h k
 exact aA.aGw k h
theorem aA.TG (l:List (List ByteArray)):(l.mergeSort aA.le).Pairwise (fun a b=>aA.le a b=true):=by
 refine List.pairwise_mergeSort (fun a b c h k=>?_) (fun a b=>?_) l
 ·simp only [aA.le,Bool.not_eq_true'] at*
  exact aA.swo.ntrans _ _ _ k h
 ·simp only [aA.le,Bool.or_eq_true,Bool.not_eq_true']
  cases h:aA.lt b a with
  |false=>exact .inl rfl
  |true=>exact .inr (by cases k:aA.lt a b with|false=>rfl|true=>exact(aA.lt_irrefl a▸aA.lt_trans k h).symm)
set_option maxHeartbeats 1000000 in
theorem aA.aUZ {base:Nat} {w6 W:World} {es ds:List (ByteArray×Value×List ByteArray)} {g g0 cap k:Nat} (hW:w6.grownBy W (some g0)) (hgw:g=g0∨w6.heap.size≤g) (hl: ∀e∈es,∀W',w6.grownBy W' (some g0)→aA.Lst W' e.2.1 e.2.2)
  (hn:(es.map (·.2.2)).Nodup) (hz: ∀e∈es,e.2.2.length≤1000000) (hc: ∀a∈es,∀b∈es,(aA.aFJ k a.2.2 b.2.2).isSome=true) (hp:ds.Perm es) (hne:es≠[]) (hlen:es.length<1000000)
  (hrow:W.ownsRow base 36 1 (.slice (some ⟨g,0,none⟩) ds.length cap) ds.length (ds.map (·.2.1))):
  Calls Tryz.prog 36 #[.slice (some ⟨g,0,none⟩) ds.length cap, .func (.func 37) #[] #[]] W fun e w' =>e= .returned (.tuple #[])∧W.grownBy w' (some g)∧ ∃ss:List (ByteArray×Value×List ByteArray),ss.Perm es∧ss.map (·.2.2)=(es.map (·.2.2)).mergeSort aA.le∧w'.ownsRow base 36 1 (.slice (some ⟨g,0,none⟩) ds.length cap) ds.length (ss.map (·.2.1)):=by
 obtain⟨dl,hdl⟩: ∃dl:List {e //e∈es},dl.map (·.1)=ds:=⟨ds.pmap Subtype.mk (fun e he=>hp.mem_iff.1 he),by simp [List.map_pmap]⟩
 haveI:Inhabited {e //e∈es}:=⟨⟨es.head hne,List.head_mem hne⟩⟩
 have aOd:dl.length=ds.length:=by rw [←hdl,List.length_map]
 have hW2: ∀(m:Nat) (os:Array Obj) (dk:Array {e //e∈es}),w6.grownBy (Go.Sort.grow (Go.Sort.putRow (fun e:{e //e∈es}=>e.1.2.1) (Go.Sort.ahead W m) g 0 dk) os) (some g0):=fun m os dk=>
  (hW.andThen (aA.Q9 W g m dk) (fun j hj=>by cases hj;rcases hgw with rfl|h;exact .inr rfl;exact .inl h)).andThen (aA.MZ _ os) (by simp)
 have hone:OneCell (fun e:{e //e∈es}=>e.1.2.1):=fun e=>by
  obtain⟨A,c,he,_⟩:=hl e.1 e.2 W hW
  show e.1.2.1.oneCell' =true
  rw [he]
  rfl
 have hinj: ∀x y:{e //e∈es},x.1.2.2=y.1.2.2→x=y:=fun x y h=>by
  obtain⟨i,hi,e1⟩:=List.mem_iff_getElem.1 x.2;obtain⟨j,hj,e2⟩:=List.mem_iff_getElem.1 y.2
  have:=(List.getElem_inj (h₀:=by simpa using hi) (h₁:=by simpa using hj) hn).1 (by simp only [List.getElem_map,e1,e2];exact h)
  subst this;exact Subtype.ext (e1.symm.trans e2)
 have hcmp:CmpLays1 Tryz.prog 37 #[] (fun e:{e //e∈es}=>e.1.2.1) (fun x y=>aA.cf x.1.2.2 y.1.2.2) g 0 dl.toArray.size W:=by
  intro m os dk hs x y;obtain⟨A0,c0,e0,g0',h0⟩:=hl x.1 x.2 _ (hW2 m os dk);obtain⟨A1,c1,e1,g1,h1⟩:=hl y.1 y.2 _ (hW2 m os dk);obtain⟨r,hr⟩:=Option.isSome_iff_exists.1 (hc x.1 x.2 y.1 y.2)
  have:=aA.bGr k _ _ A0 A1 c0 c1 r _ h0 g0' h1 g1 hr
  have er:=aA.aSD (hz x.1 x.2) (hz y.1 y.2) hr
  show Calls Tryz.prog 37 #[x.1.2.1,y.1.2.1] _ _
  rw [e0,e1]
  refine this.mono ?_
  rintro e w' ⟨rfl,q,os',rfl⟩
  exact⟨by rw [er],q,os',rfl⟩
 have eg: ∀args w,(callFunc 37 args).run Tryz.prog w= .ok (.enter 37 args) w:=enters_of Tryz.func37 (by kernel_rfl) rfl
 have hS:Go.Sort.SWO (ltOf (fun x y:{e //e∈es}=>aA.cf x.1.2.2 y.1.2.2)):=by
  have e: ∀x y:{e //e∈es},ltOf (fun x y:{e //e∈es}=>aA.cf x.1.2.2 y.1.2.2) x y=aA.lt x.1.2.2 y.1.2.2:=fun x y=>aA.V5 x.1.2.2 y.1.2.2
  exact⟨fun x=>by rw [e];exact aA.swo.irrefl _,fun x y z h k=>by rw [e] at*;exact aA.swo.trans _ _ _ h k,fun x y z h k=>by rw [e] at*;exact aA.swo.ntrans _ _ _ h k⟩
 have hrow' :W.ownsRow base 36 1 (.slice (some ⟨g,0,none⟩) ds.length cap) ds.length (dl.map (fun e:{e //e∈es}=>e.1.2.1)):=by
  rw [←hdl,List.map_map] at hrow
  rw [←hdl]
  exact hrow
 obtain⟨g',cap',ev,_,hgs,_,_,_,hH⟩:=Go.Lib.holds_of_ownsRow (enc:=fun e:{e //e∈es}=>e.1.2.1) hrow' (by simp)
 have eg' :g' =g:=by injection ev with e1;injection e1 with e1;injection e1 with e1;exact e1.symm
 rw [eg'] at hH hgs
 have:=Any.slices_SortFunc_total Try.aQj (fun e:{e //e∈es}=>e.1.2.1) hone (fun x y=>aA.cf x.1.2.2 y.1.2.2) hS 37 #[] g 0 cap dl.toArray W eg hcmp hH hgs (by have:=hp.length_eq;simp;omega) (fun x y h k=>hinj x y (aA.aGw ((aA.V5 _ _).symm.trans h) ((aA.V5 _ _).symm.trans k)))
 change Calls Tryz.prog 36 #[.slice (some ⟨g,0,none⟩) dl.length cap, .func (.func 37) #[] #[]] _ _ at this
 rw [aOd] at this
 refine this.mono ?_
 rintro e w' ⟨he,n,os,rfl⟩
 have hle: ∀x y:{e //e∈es},(!(ltOf (fun x y:{e //e∈es}=>aA.cf x.1.2.2 y.1.2.2)) y x)=aA.le x.1.2.2 y.1.2.2:=fun x y=>congrArg _ (aA.V5 y.1.2.2 x.1.2.2)
 refine⟨he,(aA.Q9 W g n _).andThen (aA.MZ _ os) (by simp),(dl.mergeSort (fun x y=> !(ltOf (fun x y:{e //e∈es}=>aA.cf x.1.2.2 y.1.2.2)) y x)).map (·.1),?_,?_,?_⟩
 ·refine((List.mergeSort_perm dl _).map _).trans ?_
  rw [hdl]
  exact hp
 ·refine aA.Y5 ?_ ?_ (aA.TG _)
  ·refine(((List.mergeSort_perm dl _).map _).map _).trans ?_
   rw [hdl]
   exact(hp.map _).trans (List.mergeSort_perm _ _).symm
  ·rw [List.map_map]
   have h2:=List.map_mergeSort (r:=fun x y:{e //e∈es}=> !(ltOf (fun x y:{e //e∈es}=>aA.cf x.1.2.2 y.1.2.2)) y x) (s:=aA.le) (f:=fun x:{e //e∈es}=>x.1.2.2) (l:=dl) (fun a _ b _=>hle a b);have h3:=aA.TG (dl.map (fun x:{e //e∈es}=>x.1.2.2));rw [←h2] at h3
   exact h3
 ·have h1:=Go.Lib.ownsRow_putRow (q:=n) (k:=ds.length) hrow' (ys:=dl.mergeSort (fun x y=> !(ltOf (fun x y:{e //e∈es}=>aA.cf x.1.2.2 y.1.2.2)) y x)) (by rw [List.length_mergeSort,aOd]) (Nat.le_refl _)
  rw [List.take_of_length_le (by rw [List.length_mergeSort,aOd];exact Nat.le_refl _)] at h1
  rw [List.map_map]
  exact h1.kept (aA.MZ _ os) (by simp [Value.ownBlock])
section
variable {P:Program} {ops:Array Oper} {Q:Exit→Act→World→Prop} {o:Oper} {rest:List Oper} {a:Act}
theorem aA.mkm {W:World} (hgd:o.guard=none) (t:TypeId) (ES:o.op= .makeMap t none)
  (h: ∀g,g=W.heap.size→ ∀w1,w1.heap[g]?=some (.map #[] 0)→Below W.heap.size W w1→wpList P ops Q rest (a.put o.dst (.map (some g))) w1):wpList P ops Q (o::rest) a W:=
 Kd.FO hgd (v:= .map (some W.heap.size)) (w1:=W.alloc (.map #[] 0)) (by simp [execOp,ES,run_makeMap,Result.andThen]) (h _ rfl _ (OI W _) (eZ (Below.refl _ _) _))
theorem aA.bBo {W:World} (hgd:o.guard=none) {e:TypeId}
  (hrun:(execOp a.eval o).run P W= .ok (.value (.slice (some ⟨W.heap.size,0,none⟩) 0 0)) (W.alloc (.cells #[] e (0,0))))
  (h: ∀g,g=W.heap.size→ ∀w1,w1.heap[g]?=some (.cells #[] e (0,0))→Below W.heap.size W w1→wpList P ops Q rest (a.put o.dst (.slice (some ⟨g,0,none⟩) 0 0)) w1):wpList P ops Q (o::rest) a W:=
 Kd.FO hgd hrun (h _ rfl _ (OI W _) (eZ (Below.refl _ _) _))
end
theorem aA.wN {W:World} {g b i:Nat} {o:Obj} {v:Value} (h:W.heap[b]?=some o) (hne:b≠g):(W.setCell ⟨g,i,none⟩ v).heap[b]?=some o:=by
 rw [Below.heap_setCell W ⟨g,i,none⟩ v b hne]
 exact h
theorem aA.a3u {w W:World} {b g i:Nat} {v:Value} (h:Below b w W) (hg:b≤g):Below b w (W.setCell ⟨g,i,none⟩ v):=h.setCell hg _
theorem aA.aYv {W:World} {g:Nat} (h:W.heap[g]?=some (.map #[] 0)):W.ownsMap Tryz.prog 9 aA.hR g ([]:List (ByteArray×Value×List ByteArray)).length (aA.D []):=by
 obtain⟨a,b,h1,h2⟩:=World.ownsMap_made W Tryz.prog 9 aA.hR;rw [OI] at h1
 injection h1 with h1
 injection h1 with h3 h4
 subst h3 h4
 exact⟨_,_,h,h2⟩
theorem aA.a2k {W:World} {g g' :Nat} {cs:Array Value} {t:TypeId} {z:Nat×Nat} {es:Array MapEntry} {n:Nat} (h:W.heap[g]?=some (.map es n)) (h' :W.heap[g']?=some (.cells cs t z)):some g' ≠some g:=by
 intro e
 injection e with e
 rw [e,h] at h'
 cases h'
theorem aA.aJF {key:Value} {kl:Lit} (h:keyOf Tryz.prog 9 key=some kl): ∃s:ByteArray,key= .string s∧kl= .string s.data.toList:=by
 cases key<;>simp [keyOf,Tryz.underlying9,mapKey] at h
 exact⟨_,rfl,h.2.symm⟩
theorem aA.aQ0 (a b:ByteArray):(Lit.string a.data.toList).sameKey (.string b.data.toList)=true↔a=b:=by
 simp only [Lit.sameKey,beq_iff_eq]
 exact⟨fun h=>ByteArray.ext (Array.toList_inj.1 h),fun h=>by rw [h]⟩
theorem aA.aGP {W:World} {base:Nat} {e:TypeId} {size:Nat} {v:Value} {m:Nat} {xs:List Value} (h:W.ownsRow base e size v m xs) {g n:Nat} {es:Array MapEntry} (hm:W.heap[g]?=some (.map es n)):some g≠v.ownBlock:=by
 rcases h.2 with ⟨rfl,_⟩|⟨g',cap,cur,rfl,_,hb,_⟩
 ·simp [Value.ownBlock]
 ·intro e1
  have:g=g' :=by simpa [Value.ownBlock] using e1
  subst this;rw [hm] at hb
  cases hb
theorem aA.row_ne_iter {W:World} {base:Nat} {e:TypeId} {size:Nat} {v:Value} {m:Nat} {xs:List Value} (h:W.ownsRow base e size v m xs) {b r n:Nat} {D:DataW Value} {left:Lit→Bool} {cnt:Nat} (hr:W.ranges Tryz.prog 9 aA.hR b r n D left cnt):some r≠v.ownBlock:=by
 obtain⟨_,_,_,_,_,_,_,_,_,hit,_⟩:=hr
 rcases h.2 with ⟨rfl,_⟩|⟨g,cap,cur,rfl,_,hb,_⟩
 ·simp [Value.ownBlock]
 ·intro e1
  have:r=g:=by simpa [Value.ownBlock] using e1
  subst this;rw [hit] at hb
  cases hb
theorem aA.aGL {W:World} {b r n:Nat} {D:DataW Value} {left:Lit→Bool} {cnt:Nat} (hr:W.ranges Tryz.prog 9 aA.hR b r n D left cnt): ∃es n,W.heap[b]?=some (.map es n):=by
 obtain⟨es,n,_,_,_,h,_⟩:=hr
 exact⟨es,n,h⟩
structure aA.Rng (w0 w6 W:World) (gm g0:Nat) (es:List (ByteArray×Value×List ByteArray)) (kq:Nat) (v:Value) (done:List (ByteArray×Value×List ByteArray)) (left:Lit→Bool) (cnt:Nat):Prop where
 rg:W.ranges Tryz.prog 9 aA.hR gm w6.heap.size es.length (aA.D es) left cnt
 fu:cnt+1≤kq
 sub: ∀e∈done,e∈es
 nod:(done.map (·.1)).Nodup
 lf: ∀s:ByteArray,left (.string s.data.toList)=true↔s∈es.map (·.1)∧s∉done.map (·.1)
 row:W.ownsRow w0.heap.size 36 1 v done.length (done.map (·.2.1))
 gr:w6.grownBy W (some g0)
 own:v.ownBlock=some g0∨ ∃b,v.ownBlock=some b∧w6.heap.size≤b
theorem aA.Q6 {α β:Type} {f:α→β} {l:List α} (h:(l.map f).Nodup):l.Nodup:=(List.pairwise_map.1 h).imp (fun h e=>h (by rw [e]))
theorem aA.aQl {α:Type}: ∀(a b:List α),a.Nodup→(∀x∈a,x∈b)→a.length≤b.length
 |[],_,_,_=>Nat.zero_le _
 |x::a,b,h,k=>by
  obtain⟨s,t,rfl⟩:=List.append_of_mem (k x List.mem_cons_self)
  have:=aA.aQl a (s++t) (List.nodup_cons.1 h).2 (fun y hy=>by
   have h1:=k y (List.mem_cons_of_mem _ hy)
   have h2:y≠x:=fun e=>(List.nodup_cons.1 h).1 (e▸hy)
   simp only [List.mem_append,List.mem_cons] at h1⊢
   rcases h1 with h1|h1|h1
   ·exact .inl h1
   ·exact absurd h1 h2
   ·exact .inr h1)
  simp only [List.length_append,List.length_cons] at this⊢
  omega
theorem aA.Rng.start {w0 w6 W:World} {gm g0:Nat} {es:List (ByteArray×Value×List ByteArray)} (hrg:W.ranges Tryz.prog 9 aA.hR gm w6.heap.size es.length (aA.D es) (Go.Maps.has (aA.D es)) (Go.Maps.size (aA.D es))) (hg:w6.grownBy W none) (h0:w6.heap[g0]?=some (.cells #[] 36 (0,0))) (hg0:w0.heap.size≤g0):
  aA.Rng w0 w6 W gm g0 es (Go.Maps.size (aA.D es)+1) (.slice (some ⟨g0,0,none⟩) 0 0) [] (Go.Maps.has (aA.D es)) (Go.Maps.size (aA.D es)):=
 ⟨hrg,Nat.le_refl _,by simp,by simp,fun s=>by rw [aA.aLC];simp,⟨by simp, .inr ⟨g0,0, #[],rfl,hg0,gK h0 hg (by simp),Nat.le_refl _,by unfold maxLen;omega,by simp,by simp⟩⟩,hg.but _, .inl rfl⟩
theorem aA.uniq {es:List (ByteArray×Value×List ByteArray)} (hn:(es.map (·.1)).Nodup) {e f:ByteArray×Value×List ByteArray} (he:e∈es) (hf:f∈es) (h:e.1=f.1):e=f:=by
 obtain⟨i,hi,rfl⟩:=List.mem_iff_getElem.1 he;obtain⟨j,hj,rfl⟩:=List.mem_iff_getElem.1 hf
 have:=(List.getElem_inj (h₀:=by simpa using hi) (h₁:=by simpa using hj) hn).1 (by simpa using h)
 subst this
 rfl
theorem aA.Rng.push {w0 w6 W w1 w2:World} {gm g0:Nat} {es done:List (ByteArray×Value×List ByteArray)} {kq k1:Nat} {v v' c:Value} {left:Lit→Bool} {cnt cnt1:Nat} {x:ByteArray} {o:Obj} (h:aA.Rng w0 w6 W gm g0 es kq v done left cnt) (hn:(es.map (·.1)).Nodup)
  (hl:left (.string x.data.toList)=true) (hat: ∀zd,(aA.D es).atKey (.string x.data.toList) zd= .held c) (hrg:w1.ranges Tryz.prog 9 aA.hR gm w6.heap.size es.length (aA.D es) (fun z=>left z&& !z.sameKey (.string x.data.toList)) cnt1) (hg:W.grownBy w1 (some w6.heap.size))
  (hown:w2.ownsRow w0.heap.size 36 1 v' (done.length+1) (done.map (·.2.1)++[c])) (hgr:(w1.alloc o).grownBy w2 v.ownBlock) (hat' :v'.ownBlock=v.ownBlock∨v'.ownBlock=some (w1.alloc o).heap.size) (hk:cnt1+1≤k1):
  ∃done',aA.Rng w0 w6 w2 gm g0 es k1 v' done' (fun z=>left z&& !z.sameKey (.string x.data.toList)) cnt1:=by
 obtain⟨hx,hxd⟩:=(h.lf x).1 hl;obtain⟨e,he,rfl⟩:=List.mem_map.1 hx
 have hc:c=e.2.1:=by
  have:=(hat (.held c)).symm.trans (aA.aYE es hn e he (.held c))
  injection this
 subst hc
 have hr1:some w6.heap.size≠v.ownBlock:=aA.row_ne_iter h.row h.rg
 have hr2:some gm≠v.ownBlock:=by
  obtain⟨_,_,hb⟩:=aA.aGL h.rg;exact aA.aGP h.row hb
 have hg1:w6.grownBy w1 (some g0):=h.gr.andThen hg (fun j hj=>by cases hj;exact .inl (Nat.le_refl _))
 have hg2:w6.grownBy (w1.alloc o) (some g0):=hg1.andThen (World.grownBy_alloc w1 o none) (by simp)
 have hsz:=hg2.size
 refine⟨done++[e],(hrg.alloc o).kept hgr hr2 hr1,hk,fun f hf=>?_,?_,fun s=>?_,?_,hg2.andThen hgr (fun j hj=>?_),?_⟩
 ·rcases List.mem_append.1 hf with hf|hf
  ·exact h.sub f hf
  ·rw [List.mem_singleton.1 hf]
   exact he
 ·rw [List.map_append,List.nodup_append]
  refine⟨h.nod,by simp,fun a ha b hb=>?_⟩
  have:b=e.1:=by simpa using hb
  rw [this]
  rintro rfl
  exact hxd ha
 ·have hs:=aA.aQ0 s e.1
  rw [Bool.and_eq_true,h.lf s,Bool.not_eq_true',List.map_append,List.mem_append,not_or,←Bool.not_eq_true,hs]
  simp only [List.map_cons,List.map_nil,List.mem_singleton]
  exact and_assoc
 ·rw [List.length_append,List.map_append]
  exact hown
 ·rcases h.own with e1|⟨b,e1,hb⟩
  ·exact .inr (by rw [←hj,e1])
  ·rw [e1] at hj
   cases hj;exact .inl hb
 ·rcases hat' with e1|e1
  ·rw [e1]
   exact h.own
  ·exact .inr ⟨_,e1,hsz⟩
theorem aA.Rng.end_ {w0 w6 W:World} {gm g0:Nat} {es done:List (ByteArray×Value×List ByteArray)} {kq:Nat} {v:Value} {left:Lit→Bool} {cnt:Nat} (h:aA.Rng w0 w6 W gm g0 es kq v done left cnt) (hn:(es.map (·.1)).Nodup) (hl: ∀kl,left kl=false):done.Perm es:=by
 refine(List.perm_ext_iff_of_nodup (aA.Q6 h.nod) (aA.Q6 hn)).2 (fun e=>⟨h.sub e,fun he=>?_⟩)
 by_cases c:e.1∈done.map (·.1)
 ·obtain⟨f,hf,hk⟩:=List.mem_map.1 c
  rw [←aA.uniq hn (h.sub f hf) he hk]
  exact hf
 ·have:=(h.lf e.1).2 ⟨List.mem_map_of_mem he,c⟩
  rw [hl] at this
  cases this
theorem aA.a3F {w W:World} {b o n:Nat} {l:List ByteArray} (h:Kd.C Kd.string w (some ⟨b,o,none⟩) n l) (hk:W.heap[b]?=w.heap[b]?):Kd.C Kd.string W (some ⟨b,o,none⟩) n l:=by
 obtain⟨h1,h2,h3⟩:=h
 refine⟨h1,h2,fun hn=>?_⟩
 obtain⟨ad,ha,h3⟩:=h3 hn
 refine⟨ad,ha,fun j p hj=>?_⟩
 obtain⟨cs,e1,e2,e3⟩:=h3 j p hj
 refine⟨cs,e1,e2,fun i u hu=>?_⟩
 have h4:=e3 i u hu
 have hb:(ad.add (j*Kd.string.sz+i)).block=b:=by
  injection ha with ha
  rw [sS,←ha]
 rw [World.cell?_of_block (w:=w) (by rw [hb];exact hk)]
 exact h4
theorem aA.Lst.vZ {w6 W:World} {v:Value} {l:List ByteArray} {g0:Nat} (h:aA.Lst w6 v l) (hl:0<l.length) (h0:w6.heap[g0]?=some (.cells #[] 36 (0,0))) (hg:w6.grownBy W (some g0)):aA.Lst W v l:=by
 obtain⟨A,c,hv,hc,h1⟩:=h;obtain⟨b,o,rfl,hb,hcells⟩:=aA.addr h1 hl
 refine⟨_,c,hv,hc,aA.a3F h1 (hg.block b hb (fun e=>?_))⟩
 injection e with e
 subst e
 have:=hcells 0 l[0] (List.getElem?_eq_getElem hl)
 simp [World.cell?,h0] at this
theorem aA.cell_grown {W W1:World} {a:Addr} {v:Value} {row:Option Nat} (h:W.cell? a=some v) (hg:W.grownBy W1 row) (hm: ∀j,row=some j→ ∀cs t z,W.heap[j]?≠some (.cells cs t z)):W1.cell? a=some v:=by
 unfold World.cell? at h⊢
 split at h
 ·rename_i c1 t1 z1 hb
  rw [hg.block _ (Array.getElem?_eq_some_iff.1 hb).1 (fun e=>hm _ e.symm _ _ _ hb),hb]
  exact h
 ·cases h
theorem aA.Lst.kept {W W1:World} {v:Value} {l:List ByteArray} {row:Option Nat} (h:aA.Lst W v l) (hg:W.grownBy W1 row) (hm: ∀j,row=some j→ ∀cs t z,W.heap[j]?≠some (.cells cs t z)):aA.Lst W1 v l:=by
 cases row with
 |none=>exact h.grown (Bm:=W.heap.size) (hg.but _) (by simp)
 |some j=>exact h.grown hg (hm j rfl)
structure aA.Rd (W:World) (ad:Addr) (gk:Nat) (ss:List (ByteArray×Value×List ByteArray)):Prop where
 row: ∀j (h:j<ss.length),W.cell? (ad.add j)=some ss[j].2.1
 lst: ∀e∈ss,aA.Lst W e.2.1 e.2.2
 key:W.heap[gk]?=some (.cells #[.func (.func 31) #[] #[]] 61 (0,0))
theorem aA.Rd.kept {W W1:World} {ad:Addr} {gk:Nat} {ss:List (ByteArray×Value×List ByteArray)} {row:Option Nat} (h:aA.Rd W ad gk ss) (hg:W.grownBy W1 row) (hm: ∀j,row=some j→ ∀cs t z,W.heap[j]?≠some (.cells cs t z)):aA.Rd W1 ad gk ss:=
 ⟨fun j hj=>aA.cell_grown (h.row j hj) hg hm,fun e he=>(h.lst e he).kept hg hm,(hg.block _ (jW h.key) (fun e=>hm _ e.symm _ _ _ h.key)).trans h.key⟩
theorem aA.Rd.below {W W1:World} {ad:Addr} {gk:Nat} {ss:List (ByteArray×Value×List ByteArray)} (h:aA.Rd W ad gk ss) (hb:Below W.heap.size W W1):aA.Rd W1 ad gk ss:=h.kept (aA.gb hb none) (by simp)
theorem aA.Rd.at_ {W:World} {ad:Addr} {gk:Nat} {ss:List (ByteArray×Value×List ByteArray)} (h:aA.Rd W ad gk ss) (x:Nat) (hx:x<ss.length): ∃A c,ss[x].2.1= .slice A ss[x].2.2.length c∧W.cell? (ad.add x)=some (.slice A ss[x].2.2.length c)∧ss[x].2.2.length≤c∧Kd.C Kd.string W A ss[x].2.2.length ss[x].2.2:=by
 obtain⟨A,c,hv,hc,hC⟩:=h.lst ss[x] (List.getElem_mem hx)
 exact⟨A,c,hv,by rw [h.row x hx,hv],hc,hC⟩
def aA.pl (ss:List (ByteArray×Value×List ByteArray)) (x:Nat):List (ByteArray×Value×List ByteArray):=((ss.take x).zipIdx).map (fun p=>(p.1.1,Value.int .i64 (p.2:Int),p.1.2.2))
theorem aA.aUR (ss:List (ByteArray×Value×List ByteArray)) (x:Nat) (h:x<ss.length):aA.pl ss (x+1)=aA.pl ss x++[(ss[x].1,Value.int .i64 (x:Int),ss[x].2.2)]:=by
 unfold aA.pl
 rw [List.take_succ_eq_append_getElem h,List.zipIdx_append,List.map_append,List.length_take,Nat.min_eq_left (by omega)]
 simp
theorem aA.aUQ (ss:List (ByteArray×Value×List ByteArray)) (x:Nat):(aA.pl ss x).map (·.1)=(ss.take x).map (·.1):=by
 unfold aA.pl
 rw [List.map_map]
 conv=>rhs;rw [←List.zipIdx_map_fst 0 (ss.take x)]
 rw [List.map_map]
 rfl
theorem aA.a2x (ss:List (ByteArray×Value×List ByteArray)) (j:Nat) (h:j<ss.length):(ss[j].1,Value.int .i64 (j:Int),ss[j].2.2)∈aA.pl ss ss.length:=by
 unfold aA.pl
 rw [List.take_length]
 exact List.mem_map.2 ⟨(ss[j],j),List.mem_zipIdx_iff_getElem?.2 (by simp [h]),rfl⟩
def aA.pos (x:List ByteArray):List (List ByteArray)→Nat→Option Nat
 |[],_=>none
 |y::ys,i=>if y.map (·.toList)=x.map (·.toList)then some i else aA.pos x ys (i+1)
theorem aA.pos_at (x:List ByteArray): ∀(l:List (List ByteArray)) (i j:Nat),aA.pos x l i=some j→ ∃q,j=i+q∧l[q]?=some x
 |[],_,_,h=>by cases h
 |y::ys,i,j,h=>by
  rw [aA.pos] at h
  split at h
  ·rename_i e
   exact⟨0,by simpa using (Option.some.inj h).symm,by rw [aA.map_inj e];rfl⟩
  ·obtain⟨q,e1,e2⟩:=aA.pos_at x ys (i+1) j h
   exact⟨q+1,by omega,by simpa using e2⟩
structure aA.Plc (wa W:World) (gp:Nat) (ss:List (ByteArray×Value×List ByteArray)) (x:Nat):Prop where
 map:W.ownsMap Tryz.prog 9 aA.hR gp x (aA.D (aA.pl ss x))
 gr:wa.grownBy W (some gp)
theorem aA.bA6 {W:World} {g n m:Nat} {D:DataW Value} (h:W.ownsMap Tryz.prog 9 aA.hR g n D) (e:n=m):W.ownsMap Tryz.prog 9 aA.hR g m D:=e▸h
theorem aA.Plc.put {wa W W1 W2:World} {gp:Nat} {ss:List (ByteArray×Value×List ByteArray)} {x:Nat} (h:aA.Plc wa W gp ss x) (hb:Below W.heap.size W W1) (hx:x<ss.length) (hm:W2.ownsMap Tryz.prog 9 aA.hR gp (x+1) ((aA.D (aA.pl ss x)).put (.string ss[x].1.data.toList) (.held (.int .i64 (x:Int))))) (hg:W1.grownBy W2 (some gp)):
  aA.Plc wa W2 gp ss (x+1):=
 ⟨by rw [aA.aUR ss x hx,aA.aBk];exact hm,aA.wJ (aA.wJ h.gr (aA.gb hb _)) hg⟩
def aA.oe (k:Nat) (ps:List (List ByteArray)) (l:List ByteArray):List Int→List ER→Option (List ER)
 |[],es=>some es
 |c::cs,es=>(jH.f k l c).bind fun x=>if aA.okB x=true then(aA.pos x ps 0).bind fun j=>aA.oe k ps l cs (es++[(⟨wrap64 c,(j:Int)⟩:ER)])else none
def aA.os (k:Nat) (ps:List (List ByteArray)):List (List ByteArray)→List xH→Option (List xH)
 |[],out=>some out
 |l::ls,out=>(fA.f k l).bind fun cs=>if cs.length<1000000 then(aA.oe k ps l cs []).bind fun es=>aA.os k ps ls (out++[(⟨(bP ByteArray.empty l 0).toList.isEmpty,es⟩:xH)])else none
def aA.okA (k:Nat) (sn:List (ByteArray×List ByteArray)):Bool:=decide (0<sn.length)&&sn.all fun a=>aA.okB a.2&&sn.all fun b=>(aA.aFJ k a.2 b.2).isSome
def aA.fin (k:Nat) (sn:List (ByteArray×List ByteArray)):Option (List xH×Bool):=
 if sn.length<1000000 then(if(sn.length:Int)>400 then some ([],false)else if aA.okA k sn=true then(aA.os k ((sn.map (·.2)).mergeSort aA.le) ((sn.map (·.2)).mergeSort aA.le) []).bind fun out=>some (out,true)else none)else none
def aA.f (k:Nat) (l0:List ByteArray):Option (List xH×Bool):=
 (iI.f k l0 300).bind fun t=>if t=true then(if(l0.length:Int)=0 then some ([(⟨false,[]⟩:xH)],true)else(aA.g k [] l0).bind fun sn=>aA.fin k sn)else some ([],false)
theorem aA.aKY {k:Nat} {es:List (ByteArray×Value×List ByteArray)} (h:aA.okA k (es.map aA.two)=true):es≠[]∧(∀e∈es,aA.Ok e.2.2)∧ ∀a∈es,∀b∈es,(aA.aFJ k a.2.2 b.2.2).isSome=true:=by
 simp only [aA.okA,Bool.and_eq_true,decide_eq_true_eq,List.all_eq_true] at h
 refine⟨fun e=>by simp [e] at h,fun e he=>aA.aGD (h.2 _ (List.mem_map_of_mem he)).1,fun a ha b hb=>(h.2 _ (List.mem_map_of_mem ha)).2 _ (List.mem_map_of_mem hb)⟩
theorem aA.aES {es:List (ByteArray×Value×List ByteArray)} (hn:(es.map (·.1)).Nodup) (hk: ∀e∈es,e.1=aA.jn e.2.2):(es.map (·.2.2)).Nodup:=by
 have h1:es.map (·.1)=(es.map (·.2.2)).map aA.jn:=by
  rw [List.map_map]
  exact List.map_congr_left hk
 rw [h1] at hn
 exact aA.Q6 hn
def aA.T32:Bool×List (List Nat×List Nat):=(true,[([],[]),([0],[0]),([],[]),([2],[2]),([],[]),([],[]),([],[]),([],[]),([6,7],[6,7]),([5,8,8],[5,8]),([4,9],[4,9]),([3,10],[3,10]),([11],[11]),([1,12,9],[1,12]),([0,1,2,3,4,5,6,7,8,9,10,11,12,13],[]),([14,13,13,0,1,2,3,4,5,6,7,8,9,10,11,12,13],[13,14])])
def aA.B32:List Nat:=[0,1,0,4,0,0,0,0,192,480,1008,2044,4092,8191,16383,32767]
theorem aA.bCo:nX .any (opsOf Tryz.f9 32)=aA.T32:=by kernel_rfl
theorem aA.aZx:jA aA.T32.2 aA.B32=true:=by kernel_rfl
theorem aA.place {ss:List (ByteArray×Value×List ByteArray)} {ps:List (List ByteArray)} (hp:ss.map (·.2.2)=ps) (hn:(ss.map (·.1)).Nodup) (hk: ∀e∈ss,e.1=aA.jn e.2.2) {x:List ByteArray} {j:Nat} (h:aA.pos x ps 0=some j) (z:DataW Value):
  (aA.D (aA.pl ss ss.length)).atKey (.string (aA.jn x).data.toList) z= .held (.int .i64 (j:Int)):=by
 obtain⟨q,rfl,hq⟩:=aA.pos_at x ps 0 j h;rw [←hp,List.getElem?_map] at hq;obtain⟨e,he,hx⟩:=Option.map_eq_some_iff.1 hq;obtain⟨hql,rfl⟩:=List.getElem?_eq_some_iff.1 he
 have h1:=aA.aYE (aA.pl ss ss.length) (by rw [aA.aUQ,List.take_length];exact hn) _ (aA.a2x ss q hql) z
 rw [hk _ (List.getElem_mem hql),hx] at h1
 rw [Nat.zero_add]
 exact h1
set_option maxHeartbeats 4000000 in
set_option maxRecDepth 100000 in
theorem aA.rest (k:Nat) (A0:Option Addr) (c0:Nat) (l0:List ByteArray) (r1:List xH) (r2:Bool) (w:World) (hr0:Kd.C Kd.string w A0 l0.length l0) (hc0:l0.length≤c0) (h:iI.f k l0 300=some true) (hn: ¬(l0.length:Int)=0) (sn:List (ByteArray×List ByteArray)) (hsn:aA.g k [] l0=some sn) (hfin:aA.fin k sn=some (r1,r2)):
  Calls Tryz.prog 9 #[.slice A0 l0.length c0] w fun e w' => ∃sQ:Value,e= .returned (.tuple #[sQ, .bool r2])∧Kd.S VB 69 w' w.heap.size (fun _=>True) sQ r1∧Below w.heap.size w w' :=by
 have lX:=am hr0;have vX:=am hc0;have A2:=am h
 have oL:((l0.length:Int)==0)=false:=by simpa using hn
 have HSN:=am hsn
 unfold aA.fin at hfin
 by_cases hlen:sn.length<1000000
 case neg=>
  rw [if_neg hlen] at hfin
  cases hfin
 rw [if_pos hlen] at hfin;have HLN:=am hlen;have a4g:=am hfin;clear hr0 hc0 h hn hsn hlen hfin
 have hsf: ∀(fn:Fn) (x y:Array Value) (w:World) (a:Addr) (m:Mode),(store a (.func fn x y) m).run Tryz.prog w=stored Tryz.prog w a (.func fn x y) m:=fun fn x y w a m=>run_store _ w a _ m rfl
 go_enter Tryz.func9,Tryz.ntmps9
 go_wp2_with (first
  |(go_at_call 30;refine(iI.calls k _ _ l0 300 true _ ?dS ?iE A2.out).mono ?_;(case dS=>exact lX.out);(case iE=>exact vX.out);rintro e w' ⟨rfl,⟨nd,rfl⟩⟩)
  |(refine gd 23 ?_;refine aA.mkm rfl 59 rfl ?_;intro gm hgm w1 hm1 hb1;have BM1:=am hm1;have HB1:=am (aY (cB (Below.refl w.heap.size w) nd) hb1);have GM:=am (show w.heap.size≤gm by rw [hgm];exact Nat.le_refl _);clear hm1 hb1 hgm)
  |(refine gd 4 ?_;refine bx 4 (cs:= #[.map none]) (t:=59) ?_;intro gs hgs w2 hs2 hb2;have BM2:=am (jD BM1.out hb2);have BS2:=am hs2;have GS:=am (show w.heap.size≤gs by rw [hgs];exact aH HB1.out);have HB2:=am (aY HB1.out hb2);have NMS:=am (show gm≠gs by rw [hgs];exact Nat.ne_of_lt (jW BM1.out));have hcs2:=dY BS2.out 0;have bAa:=bf BS2.out 0;clear BM1 HB1 hs2 hb2 hgs)
  |(
    refine gd 5 ?_;refine bx 5 (cs:= #[.nilFunc]) (t:=61) ?_;intro gq hgk w3 hk3 hb3
    have BM3:=am (jD (aA.wN BM2.out NMS.out) hb3);have BS3:=am (jD (bM (cs' := #[.map (some gm)]) BS2.out 0 (.map (some gm)) rfl) hb3);have BK3:=am hk3;have HB3:=am (aY (bO HB2.out GS.out) hb3)
    have NMK:=am (show gm≠gq by rw [hgk];exact Nat.ne_of_lt (jW (aA.wN BM2.out NMS.out)));have NSK:=am (aFD BS3.out BK3.out (by decide));have GK:=am (show w.heap.size≤gq by rw [hgk];exact aH (bO HB2.out GS.out));have a9Q:=dY BK3.out 0;have a98:=bf BK3.out 0;clear BM2 BS2 HB2 hk3 hb3 hgk)
  |(
    refine gd 6 ?_;refine bx 6 (cs:= #[.nilFunc]) (t:=62) ?_;intro gg hgg w4 hg4 hb4
    have BM4:=am (jD (aA.wN BM3.out NMK.out) hb4);have BS4:=am (jD (aA.wN BS3.out NSK.out) hb4);have BK4:=am (jD (bM (cs' := #[.func (.func 31) #[] #[]]) BK3.out 0 (.func (.func 31) #[] #[]) rfl) hb4);have BG4:=am hg4;have HB4:=am (aY (bO HB3.out GK.out) hb4)
    have NMG:=am (show gm≠gg by rw [hgg];exact Nat.ne_of_lt (jW (aA.wN BM3.out NMK.out)));have NSG:=am (aFD BS4.out BG4.out (by decide));have NKG:=am (aFD BK4.out BG4.out (by decide));have GG:=am (show w.heap.size≤gg by rw [hgg];exact aH (bO HB3.out GK.out));have a9P:=dY BG4.out 0;have a97:=bf BG4.out 0;clear BM3 BS3 BK3 HB3 hg4 hb4 hgg)
  |(
    refine gd 25 ?_;refine aA.bBo rfl (e:=36) ?hr ?_;(case hr=>(go_simp;done));intro g0 hg0 w5 h05 hb5
    have BM5:=am (jD (aA.wN BM4.out NMG.out) hb5);have BS5:=am (jD (aA.wN BS4.out NSG.out) hb5);have BK5:=am (jD (aA.wN BK4.out NKG.out) hb5)
    have BG5:=am (jD (bM (cs' := #[.func (.func 33) #[] #[.pointer (some ⟨gs,0,none⟩), .pointer (some ⟨gq,0,none⟩), .pointer (some ⟨gg,0,none⟩)]]) BG4.out 0 (.func (.func 33) #[] #[.pointer (some ⟨gs,0,none⟩), .pointer (some ⟨gq,0,none⟩), .pointer (some ⟨gg,0,none⟩)]) rfl) hb5);have HB5:=am (aY (bO HB4.out GG.out) hb5);have B05:=am h05;have G0:=am (show w.heap.size≤g0 by rw [hg0];exact aH (bO HB4.out GG.out));have bIo:=dY BG5.out 0;clear BM4 BS4 BK4 BG4 HB4 h05 hb5 hg0)
  |(
    go_at_call 33;refine(aA.bH4 w gs gq gg gm k [] l0 sn A0 c0 _ ?s1 vX.out ?s3 HSN.out).mono ?_;(case s1=>exact Kd.dV lX.out HB5.out);(case s3=>exact⟨GS.out,GK.out,GG.out,GM.out,BS5.out,BK5.out,BG5.out,aA.aYv BM5.out,by simp,by simp,by simp,HB5.out⟩);rintro e w6 ⟨rfl,es,hes,hS6,hg6⟩
    have HS6:=am hS6;have HES:=am hes;have B06:=am (gK B05.out hg6 (aA.a2k BM5.out B05.out));have bIq:=dY HS6.out.bs 0;clear hS6 hes hg6 hcs2 bAa a9Q a98 a9P a97 bIo BM5 BS5 BK5 BG5 HB5 B05 NMS NMK NSK NMG NSG NKG)
  |(at_range;refine wpList_range_own _ rfl _ 59 rfl 9 36 (Go.Maps.string_keyed Tryz.underlying9) Tryz.underlying59 aA.hR gm es.length _ rfl HS6.out.map ?_;intro w7 bAD hg7 hs7))
 go_frame
 have HN6:=am HS6.out.nod
 have HLE:=am (show es.length<1000000 by have:=congrArg List.length HES.out;rw [List.length_map] at this;have:=HLN.out;omega)
 have HR7:=am (aA.Rng.start (w0:=w) bAD hg7 B06.out G0.out);clear bAD hg7 hs7 bIq;obtain⟨i22,hi22,bAR⟩:=Option.map_eq_some_iff.1 a10
 simp only [Prod.mk.injEq] at bAR
 obtain⟨bAS,bAT,bAU⟩:=bAR
 go_loopg [7] (Go.Maps.size (aA.D es)+1) (fun kq v7 W' => ∃done left cnt,aC (aA.Rng w w6 W' gm g0 es kq v7 done left cnt))
 case atStart=>exact⟨_,_,_,HR7⟩
 case round=>
  clear HR7;obtain⟨done,left,cnt,HR⟩:=hrel
  cases gk with
  |zero=>exact absurd HR.out.fu (by omega)
  |succ k1=>
  go_wp2_with (first
   |(at_next;refine wpList_next_ranges _ rfl _ rfl 9 (Go.Maps.string_keyed Tryz.underlying9) aA.hR Value.string id (fun key kl hk=>by obtain⟨x,hx,_⟩:=aA.aJF hk;exact⟨x,hx⟩) (fun v y _=>⟨v,rfl⟩) gm w6.heap.size es.length _ _ _ rfl HR.out.rg ?_ ?_))
  ·intro _ hl0;have HP:=am (HR.out.end_ HN6.out hl0)
   have hdl:done.length=es.length:=HP.out.length_eq
   have HDL:=am hdl
   have aZa:=am (show es.length=sn.length by have:=congrArg List.length HES.out;rwa [List.length_map] at this)
   by_cases c4:(sn.length:Int)>400
   ·have hf:=a4g.out;rw [if_pos c4] at hf
    simp only [Option.some.injEq,Prod.mk.injEq] at hf
    obtain⟨rfl,rfl⟩:=hf
    have hc1:decide ((done.length:Int)>400)=true:=decide_eq_true (by have:=aZa.out;omega)
    have hc2:decide (400<done.length)=true:=decide_eq_true (by have:=aZa.out;omega)
    have HBW:=am (HS6.out.below.grown HR.out.gr HS6.out.below.size (fun j hj=>by cases hj;exact G0.out))
    have HOW:=am HR.out.own
    rcases HR.out.row.2 with ⟨e0,_⟩|⟨g,cap,cur,e0,hbg,hg0,h1,h2,h3,h4⟩
    ·have:=HOW.out
     rw [e0] at this
     simp [Value.ownBlock] at this
    subst e0;clear hg0 h1 h2 h3 h4 hbg HR hl0 c4 hdl
    go_wp2_with (first
     |(refine gd 48 ?_;refine Kd.aHE VB _ 69 ?hg (N:=48) ?hd (xs:=([]:List xH)) (inner:=[]) (ok:=fun _=>True) (mK:=fun _=>True) ?hr ?hp (fun _ hk=>hk) trivial (Below.refl _ _) (Nat.le_refl _) (by simp) ?_;(case hd=>rfl);(case hg=>rfl);(case hr=>(go_simp;done));(case hp=>exact(dQ.none _ _));intro v48 w13 U5 hb lL dP;clear lL dP;have HO:=am (Kd.F6 U5 (aH HBW.out));replace HBW:=am (aY HBW.out hb);clear hb U5))
    go_ret2
    exact⟨_,rfl,HO.out,HBW.out⟩
   have hf:=a4g.out;rw [if_neg c4] at hf
   by_cases hok:aA.okA k sn=true
   case neg=>
    rw [if_neg hok] at hf
    cases hf
   rw [if_pos hok] at hf;obtain⟨ps,hps⟩: ∃ps,ps=(sn.map (·.2)).mergeSort aA.le:=⟨_,rfl⟩;rw [←hps] at hf;obtain⟨bRT,hos,hf⟩:=Option.bind_eq_some_iff.1 hf
   simp only [Option.some.injEq,Prod.mk.injEq] at hf
   obtain⟨hr1,rfl⟩:=hf;rw [hr1] at hos;clear hr1;have HOK:=am hok;have HPS:=am hps;have HOS:=am hos
   have HL4:=am (show es.length≤400 by have:=aZa.out;omega)
   clear hok hps hos c4;obtain⟨bAz,a1K,a9Y⟩:=aA.aKY (es:=es) (by rw [HES.out];exact HOK.out);have aYY:=am a1K;have bFp:=am a9Y;have bFt:=am bAz;have HOW:=am HR.out.own;have HGR:=am HR.out.gr
   rcases HR.out.row.2 with ⟨e0,_⟩|⟨g,cap,cur,e0,hbg,hg0,h1,h2,h3,h4⟩
   ·have:=HOW.out
    rw [e0] at this
    simp [Value.ownBlock] at this
   subst e0;have HRW:=am HR.out.row
   have HGW:=am (show g=g0∨w6.heap.size≤g by
    rcases HOW.out with e|⟨b,e,hb⟩
    ·left
     simpa [Value.ownBlock] using e
    ·right
     have:g=b:=by simpa [Value.ownBlock] using e
     omega)
   have HBW:=am hbg;have HLS:=am (show∀e∈es,∀W',w6.grownBy W' (some g0)→aA.Lst W' e.2.1 e.2.2 from fun e he W' hW' =>(HS6.out.lst e he).vZ (a1K e he).ne B06.out hW')
   have hc1:decide ((done.length:Int)>400)=false:=decide_eq_false (by have:=HL4.out;omega)
   have hc2:decide (400<done.length)=false:=decide_eq_false (by have:=HL4.out;omega)
   have HND:=am (aA.aES HN6.out HS6.out.keys);clear hl0 HR hg0 h1 h2 h3 h4 a1K a9Y bAz HOW hbg hdl
   go_wp2_with (first
    |(
      go_at_call 36;refine(aA.aUZ (k:=k) HGR.out HGW.out HLS.out HND.out (fun e he=>(aYY.out e he).len) bFp.out HP.out bFt.out (by have:=HLE.out;omega) HRW.out).mono ?_;rintro e w9 ⟨rfl,hg9,ss,hss,bAB,aYp⟩
      have HG9:=am (show w6.grownBy w9 (some g0)from HGR.out.andThen hg9 (fun j hj=>by cases hj;rcases HGW.out with e|h;exact .inr (by rw [e]);exact .inl h))
      have a5t:=am (show aA.Rd w9 ⟨g,0,none⟩ gq ss from⟨fun j hj=>by
       have:=aYp.cellAt j (by have h1:=hss.length_eq;have h2:=HDL.out;omega)
       rw [List.getElem?_map,List.getElem?_eq_getElem hj] at this
       have e1:(⟨g,0,none⟩:Addr).add j=⟨g,j,none⟩:=by unfold Addr.add;split<;>simp_all
       rw [e1]
       simpa using this,fun e he=>HLS.out e (hss.mem_iff.1 he) w9 HG9.out,gK HS6.out.bk HG9.out (by
        intro e
        injection e with e
        have h1:=HS6.out.bk;rw [e,B06.out] at h1
        simp at h1)⟩)
      have HSS:=am hss;have HSL:=am (show ss.length=done.length from hss.length_eq.trans HDL.out.symm)
      have aYZ:=am (show ss.map (·.2.2)=ps by rw [bAB,HPS.out,←HES.out,List.map_map];rfl)
      clear hg9 hss bAB aYp HGR HGW HLS HRW)
    |(
      refine gd 51 ?_;refine aA.mkm rfl 75 rfl ?_;intro gp hgp w10 bAn a0M
      have BP:=am bAn;have HRD:=am (a5t.out.below a0M);have a4h:=am (HG9.out.andThen (aA.gb a0M none) (by simp));have GP:=am (show w6.heap.size≤gp by rw [hgp];exact HG9.out.size);clear a5t HG9 hgp bAn a0M))
   generalize had:(⟨g,0,none⟩:Addr)=ad at HRD⊢;clear hc1 hc2
   have HNM:=am (show∀j,some gp=some j→ ∀cs t z,w10.heap[j]?≠some (.cells cs t z)by
    intro j hj cs t z e
    injection hj with hj
    rw [←hj,BP.out] at e
    cases e)
   have bFB:=am (show(ss.map (·.1)).Nodup from(HSS.out.map (·.1)).nodup_iff.2 HN6.out)
   have a5p:=am (show aA.Plc w10 w10 gp ss (0:Int).toNat from⟨aA.aYv BP.out,⟨rfl,rfl,rfl,Nat.le_refl _,fun _ _ _=>rfl⟩⟩)
   go_loopg [54] (ss.length+1) (fun kq v54 W' => ∃x:Int,v54= .int .i64 x∧aC (0≤x∧x≤(ss.length:Int))∧aC (ss.length+1≤kq+x.toNat)∧aC (aA.Plc w10 W' gp ss x.toNat))
   case atStart=>exact⟨0,rfl,⟨by omega⟩,⟨by omega⟩,a5p⟩
   case round=>
    clear a5p;obtain⟨x,rfl,HX,HQ,HPL⟩:=hrel;have HRW:=am (HRD.out.kept HPL.out.gr HNM.out);have hck:=(dY HRW.out.key 0).trans rfl
    by_cases c2:x<(done.length:Int)
    ·have wD:=decide_eq_true c2
     have hxl:x.toNat<ss.length:=by have:=HX.out;have:=HSL.out;omega
     obtain⟨A,c,hva,hx0,hc,hC⟩:=HRW.out.at_ x.toNat hxl;have hme:=List.getElem_mem hxl;generalize hge:ss[x.toNat]=e at hva hx0 hc hC hme
     have p1:(0≤x)=True:=eq_true HX.out.1
     have q1:(x<(done.length:Int))=True:=eq_true c2
     have hw:wrap64 (x+1)=x+1:=by have:=HX.out;have:=HSL.out;have:=HLE.out;have:=HDL.out;unfold wrap64;omega
     have HW:=am hw;have C2:=am c2;have HC:=am hC;have HCC:=am hc;have HXL:=am hxl;have HME:=am hme
     cases gk with
     |zero=>exact absurd HQ.out (by have:=HX.out;have:=HSL.out;omega)
     |succ k2=>
     have HOE:=am (aYY.out e (HSS.out.mem_iff.1 hme));have HKY:=am (HS6.out.keys e (HSS.out.mem_iff.1 hme));have HEX:=am (show∃h:x.toNat<ss.length,ss[x.toNat]=e from⟨HXL.out,hge⟩);clear hw c2 hC hc hva hxl hme hge
     go_wp2_with (first
      |(
        go_at_call 31
        refine(aA.aUl A c e.2.2 _ HC.out HCC.out HOE.out).mono ?_
        rintro e11 w11 ⟨rfl,a0N⟩
        obtain⟨w12,a1Q,bAo,bAd⟩:=(HPL.out.map.kept (aA.gb a0N none) (by simp)).update (Go.Maps.string_keyed Tryz.underlying9) Tryz.underlying75 (by have h1:=HX.out;have h2:=HSL.out;have h3:=HLE.out;have h4:=HDL.out;unfold maxLen;omega) (val:= .int .i64 x) (d:= .held (.int .i64 x)) (ps:=[]) (Go.WideMaps.keyOf_string_mk Tryz.underlying9 (aA.aGo HOE.out)) rfl
        have a4d:=am a0N
        clear a0N))
     have bFx:=am (show aA.Plc w10 w12 gp ss (x+1).toNat by
      obtain⟨h1,h2⟩:=HEX.out
      rw [show(x+1).toNat=x.toNat+1 by have:=HX.out;omega]
      refine HPL.out.put a4d.out h1 ?_ bAd
      rw [h2,HKY.out,show((x.toNat:Nat):Int)=x by have:=HX.out;omega]
      exact bAo)
     clear a1Q bAo bAd a4d
     go_roundg k2
     case measure=>omega
     case rel=>exact⟨wrap64 (x+1),rfl,⟨by rw [HW.out];have:=HX.out;have:=C2.out;have:=HSL.out;omega⟩,⟨by rw [HW.out];have:=HQ.out;have:=HX.out;omega⟩,⟨by rw [HW.out];exact bFx.out⟩⟩
    have wD:=decide_eq_false c2
    have HXE:=am (show x.toNat=ss.length by have:=HX.out;have:=HSL.out;omega)
    rw [HXE.out] at HPL;obtain⟨wb,hwb⟩: ∃wb,wb=wr:=⟨_,rfl⟩;subst hwb;have HB:=am (Below.refl wb.heap.size wb);clear c2 HX HQ hck;have bRK:=Tryz.underlying69;have bRL:=Tryz.underlying77
    go_wp2_with (first
     |(refine gd 65 ?_;refine Kd.aHE VB _ 69 ?hg (N:=65) ?hd (xs:=([]:List xH)) (inner:=[]) (ok:=fun _=>True) (mK:=fun _=>True) ?hr ?hp (fun _ hk=>hk) trivial (Below.refl _ _) (Nat.le_refl _) (by simp) ?_;(case hd=>rfl);(case hg=>rfl);(case hr=>(go_simp;done));(case hp=>exact(dQ.none _ _));intro v65 w13 U5 hb lL dP;clear lL dP;have HO:=am U5;replace HB:=am (aY HB.out hb);clear hb U5))
    go_loopg [13,68] (ss.length+1) (fun kq v13 v68 W' => ∃(x:Int) (out:List xH),v68= .int .i64 x∧aC (0≤x∧x≤(ss.length:Int))∧aC (ss.length+1≤kq+x.toNat)∧aC (aA.os k ps (ps.drop x.toNat) out=some r1)∧aC (out.length≤x.toNat)∧aC (Kd.S VB 69 W' wb.heap.size (fun _=>True) v13 out)∧aC (Below wb.heap.size wb W'))
    case atStart=>exact⟨0,[],rfl,⟨by omega⟩,⟨by omega⟩,HOS,⟨by simp⟩,HO,HB⟩
    case round=>
     clear HO HB HXE;obtain⟨x,out,rfl,HX,HQ,aRY,HOL,HO,HB⟩:=hrel
     by_cases c2:x<(done.length:Int)
     ·have wD:=decide_eq_true c2
      have hxl:x.toNat<ss.length:=by have:=HX.out;have:=HSL.out;omega
      obtain⟨A,c,hva,hx0,hc,hC⟩:=HRW.out.at_ x.toNat hxl;replace hx0:=(HB.out.cell (World.block_lt_of_cell? wb _ hx0)).trans hx0;have hme:=List.getElem_mem hxl
      have hdr:ps.drop x.toNat=ss[x.toNat].2.2::ps.drop (x+1).toNat:=by
       rw [←aYZ.out,show(x+1).toNat=x.toNat+1 by have:=HX.out;omega,List.drop_eq_getElem_cons (by simpa using hxl)]
       simp
      generalize hge:ss[x.toNat]=e at hva hx0 hc hC hme hdr
      have h1:=aRY.out;rw [hdr,aA.os] at h1;obtain⟨cs,hcs,h1⟩:=Option.bind_eq_some_iff.1 h1
      by_cases hcl:cs.length<1000000
      case neg=>
       rw [if_neg hcl] at h1
       cases h1
      rw [if_pos hcl] at h1;obtain⟨ees,a96,h1⟩:=Option.bind_eq_some_iff.1 h1;have hne:=(aYY.out e (HSS.out.mem_iff.1 hme)).ne
      have p0:(0:Int)≤0:=by omega
      have q0:(0:Int)<(e.2.2.length:Int):=by omega
      obtain⟨ad2,e2,hx2⟩:=Kd.SI (Kd.dV hC HB.out) 0 p0 q0;cases e2
      rw [show((0:Int)).toNat=0 from rfl] at hx2;rw [Addr.add_zero'] at hx2
      have qi:(0<e.2.2.length)=True:=eq_true hne
      have p1:(0≤x)=True:=eq_true HX.out.1
      have q1:(x<(done.length:Int))=True:=eq_true c2
      have hw:wrap64 (x+1)=x+1:=by have:=HX.out;have:=HSL.out;have:=HLE.out;have:=HDL.out;unfold wrap64;omega
      have HW:=am hw;have C2:=am c2;have HC:=am hC;have HCC:=am hc;have bFq:=am hcs;have HCL:=am hcl;have bFr:=am a96;have a5u:=am h1;replace p0:=eq_true p0;replace q0:=eq_true q0
      cases gk with
      |zero=>exact absurd HQ.out (by have:=HX.out;have:=HSL.out;omega)
      |succ k1=>
      clear hw c2 hC hc hva hxl hme hge hdr hcs hcl a96 h1 hne aRY
      go_wp2_with (first
       |(refine gd 76 ?_;refine Kd.mJ k77 _ 77 ?hg (N:=76) ?hd (xs:=([]:List ER)) (inner:=[]) (ok:=fun _=>True) (mK:=fun _=>True) ?hr ?hp (fun _ hk=>hk) trivial (Below.refl _ _) (Nat.le_refl _) (by simp) ?_;(case hd=>rfl);(case hg=>rfl);(case hr=>(go_simp;done));(case hp=>exact(dQ.none _ _));intro v76 w14 IJ hb lL dP;clear lL dP;replace HO:=am (Kd.XJ HO.out (Kd.jE IJ) hb);have HE:=am (Kd.dZ IJ (aH HB.out));replace HB:=am (aY HB.out hb);clear hb IJ;obtain⟨Ao,co,eo⟩:=Kd.bS HE.out;subst eo)
       |(
         refine gd 16 ?_;refine bx 16 (cs:= #[.bool false, .slice none 0 0]) (t:=69) ?_;intro gb hgb w15 bT hb
         replace HO:=am (Kd.vY (Kd.aMe HO.out gb (Nat.le_of_eq hgb.symm)) hb);replace HE:=am (Kd.nP HE.out hb);have BK:=am bT;have GE:=am (show wb.heap.size≤gb by rw [hgb];exact aH HB.out);replace HB:=am (aY HB.out hb);have⟨bIt,bIu,bIC,bID⟩:=oP BK.out;clear hb bT hgb)
       |(
         go_at_call 34
         refine(fA.calls k (some ad2) c e.2.2 cs _ (Kd.dV HC.out (bO (bO HB.out GE.out) GE.out)) HCC.out bFq.out).mono ?_
         rintro e4 w16 ⟨v79,rfl,hR4,hb4⟩
         replace HO:=am (Kd.vY (Kd.xW (Kd.aMg (p:=⟨gb,1,none⟩) (Kd.aMg (p:=⟨gb,0,none⟩) (Kd.xW HO.out (fun k_ hk=>(⟨hk,hk.2⟩:_∧k_≠gb))) (fun _ hk=>hk.2) (.bool ((bP ByteArray.empty e.2.2 0).toList.isEmpty))) (fun _ hk=>hk.2) (.slice Ao ([]:List ER).length co)) (fun _ hk=>(⟨hk.1.1.2,hk.1.2⟩:_∧_))) hb4)
         replace HE:=am (Kd.nP (Kd.bA (ok' :=fun _=>True) (Kd.bZ (p:=⟨gb,1,none⟩) (Kd.bZ (p:=⟨gb,0,none⟩) (Kd.eQ HE.out BK.out (by decide)) (fun _ hk=>hk.2) (.bool ((bP ByteArray.empty e.2.2 0).toList.isEmpty))) (fun _ hk=>hk.2) (.slice Ao ([]:List ER).length co)) (fun _ hk=>trivial)) hb4)
         have HCS:=am (Kd.dZ hR4 (aH (bO (bO HB.out GE.out) GE.out)));replace BK:=am (jD (bM (cs:= #[.bool ((bP ByteArray.empty e.2.2 0).toList.isEmpty), .slice none 0 0]) (bM (cs:= #[.bool false, .slice none 0 0]) BK.out 0 (.bool ((bP ByteArray.empty e.2.2 0).toList.isEmpty)) rfl) 1 (.slice Ao ([]:List ER).length co) rfl) hb4);replace HB:=am (aY (bO (bO HB.out GE.out) GE.out) hb4);obtain⟨A79,c79,e79⟩:=Kd.bS HCS.out;subst e79
         clear hR4 hb4 bIt bIu bIC bID))
      go_loopg [81] (cs.length+1) (fun kq v81 W' => ∃(y:Int) (es:List ER) (u:Value),v81= .int .i64 y∧aC (0≤y∧y≤(cs.length:Int))∧aC (cs.length+1≤kq+y.toNat)∧aC (aA.oe k ps e.2.2 (cs.drop y.toNat) es=some ees)∧aC (es.length≤y.toNat)∧aC (Kd.S VB 69 W' wb.heap.size (fun k_=>some k_≠u.ownBlock∧k_≠gb) u13 out)∧aC (Kd.R k77 77 W' wb.heap.size (fun _=>True) u es)∧aC (W'.heap[gb]?=some (.cells #[.bool ((bP ByteArray.empty e.2.2 0).toList.isEmpty),u] 69 (0,0)))∧aC (Kd.R (Kd.int .u8) 5 W' wb.heap.size (fun _=>True) (.slice A79 cs.length c79) cs)∧aC (Below wb.heap.size wb W'))
      case atStart=>exact⟨0,[],_,rfl,⟨by omega⟩,⟨by omega⟩,bFr,⟨by simp⟩,HO,HE,BK,HCS,HB⟩
      case round=>
       clear HO HE BK HCS HB;obtain⟨y,es2,u,rfl,HY,HQ2,aRX,HL2,HO,HE,BK,HCS,HB⟩:=hrel;have hCs:=(Kd.aM HCS.out).2.2;have hmx:=hCs.2.1
       by_cases c3:y<(cs.length:Int)
       ·have oG:=decide_eq_true c3
        have p3:0≤y:=HY.out.1
        have q3:=c3;obtain⟨ad3,e3,hx3⟩:=Kd.XR hCs y p3 q3;have h1:=aRX.out;rw [aA.aH8 cs y p3 q3,aA.oe] at h1;obtain⟨xs,hxs,h1⟩:=Option.bind_eq_some_iff.1 h1
        by_cases hox:aA.okB xs=true
        case neg=>
         rw [if_neg hox] at h1
         cases h1
        rw [if_pos hox] at h1;obtain⟨j,hj,h1⟩:=Option.bind_eq_some_iff.1 h1;have HXS:=am hxs;have HOX:=am (aA.aGD hox);have HAT:=am (aA.place aYZ.out bFB.out (fun e he=>HS6.out.keys e (HSS.out.mem_iff.1 he)) hj);have bFv:=am h1;have C3:=am c3
        have hw:wrap64 (y+1)=y+1:=by unfold wrap64;omega
        have HW2:=am hw;have HMX:=am hmx
        cases gk with
        |zero=>exact absurd HQ2.out (by have:=HY.out;omega)
        |succ k2=>
        clear hxs hox hj h1 c3 hw hmx hCs aRX;cases e3;replace p3:=eq_true p3;replace q3:=eq_true q3
        go_upto_region 32 with (fail)
        replace HO:=am (Kd.BS HO.out);replace HE:=am (Kd.mZ HE.out);replace BK:=am (bF BK.out);replace HCS:=am (Kd.mZ HCS.out);replace HB:=am (bH HB.out)
        refine J5 (n:=16) (S:=fun w' =>w'.cell? ⟨gb,0,none⟩=some (.bool ((bP ByteArray.empty e.2.2 0).toList.isEmpty))∧w'.cell? ⟨gb,1,none⟩=some u∧w'.cell? ⟨gq,0,none⟩=some (.func (.func 31) #[] #[])) (ds:=[15]) #[false,false,false,false,false,false,false,false,false,false,false,false,false,false,false,false] (by kernel_rfl) rfl rfl ⟨bd BK.out 0,bd BK.out 1,(dY (HRW.out.below HB.out).key 0).trans rfl⟩ (fun hHeld=>?_);refine dW aA.bCo aA.aZx (fun kQ rT=>?_)
        generalize wr.drew=w20 at HO HE BK HCS HB hHeld⊢;refine pu 0 85 ?_;refine pu 2 87 ?_;refine pu 3 88 ?_;refine pu 4 89 ?_;refine pu 6 91 ?_;refine pu 7 92 ?_;refine tk3 1 86 hHeld ?_;refine tk3 5 90 hHeld ?_;refine qF 8 93 (fun K hK=>?_)
        refine aA1 Tryz.func35 (by kernel_rfl) rfl #[.slice (some ad2) e.2.2.length c, .int .u8 (rd cs y)] (by rfl) rfl rfl (by simp only [List.map_toArray,List.map_cons,List.map_nil];rfl) ?_
        refine(jH.calls k (some ad2) c e.2.2 (rd cs y) xs _ (Kd.dV HC.out HB.out) HCC.out HXS.out).mono ?_
        rintro e5 w21 ⟨v93,rfl,hR5,hb5⟩
        obtain⟨A93,c93,e93,hc93,a9L⟩:=Kd.KE hR5;subst e93;replace HO:=am (Kd.vY HO.out hb5);replace HE:=am (Kd.nP HE.out hb5);replace BK:=am (jD BK.out hb5);replace HCS:=am (Kd.nP HCS.out hb5);replace HB:=am (aY HB.out hb5);have a4f:=am a9L;have aVY:=am hc93;clear hR5 hb5 a9L hc93;refine⟨_,rfl,?_⟩;refine hK.out _ _ ⟨bd BK.out 0,bd BK.out 1,(dY (HRW.out.below HB.out).key 0).trans rfl⟩ (fun hHeld=>?_);clear hK K;refine nm 93 ?_;refine qF 9 94 (fun K hK=>?_)
        refine JG 31 #[.slice A93 xs.length c93] (by rfl) rfl aHN ?_
        refine(aA.aUl A93 c93 xs _ a4f.out aVY.out HOX.out).mono ?_
        rintro e6 w22 ⟨rfl,hb6⟩
        replace HO:=am (Kd.vY HO.out hb6);replace HE:=am (Kd.nP HE.out hb6);replace BK:=am (jD BK.out hb6);replace HCS:=am (Kd.nP HCS.out hb6);replace HB:=am (aY HB.out hb6);clear hb6 a4f aVY;refine⟨_,rfl,?_⟩;refine hK.out _ _ ⟨bd BK.out 0,bd BK.out 1,(dY (HRW.out.below HB.out).key 0).trans rfl⟩ (fun hHeld=>?_);clear hK K;refine nm 94 ?_;obtain⟨v95,bKh,aOu,hv95⟩:=(HPL.out.map.kept (aA.gb HB.out none) (by simp)).lookup (Go.Maps.string_keyed Tryz.underlying9) Tryz.underlying75 (z:= .int .i64 0) (by rfl) (zd:= .held (.int .i64 0)) (zp:=[]) rfl (Go.WideMaps.keyOf_string_mk Tryz.underlying9 (aA.aGo HOX.out))
        have bH1:v95= .int .i64 (j:Int):=by
         rw [HAT.out] at hv95
         have hv' :some ((.held v95:DataW Value),([]:List MemPlace))=some (.held (.int .i64 (j:Int)),bKh):=hv95
         injection hv' with hv'
         injection hv' with hv' _
         injection hv'
        subst bH1;refine qF 10 95 (fun K hK=>?_)
        refine GY (w1:=w22) (v:= .int .i64 (j:Int)) (by rfl) rfl (by simp [execOp,Act.eval,aOu,Result.andThen]) ?_
        refine hK.out _ _ hHeld (fun hHeld=>?_);clear hK K;refine nm 95 ?_;clear aOu hv95;refine pu 11 96 ?_;refine qF 12 97 (fun K hK=>?_)
        refine GY (w1:=?_) (v:=?_) (by rfl) rfl ?_ ?_
        rotate_left 2
        ·go_simp
         constructor
         ·rfl
         ·rfl
        refine hK.out _ _ ⟨bd (bW BK.out _) 0,bd (bW BK.out _) 1,(dY (bW (HRW.out.below HB.out).key _) 0).trans rfl⟩ (fun hHeld=>?_);clear hK K;refine nm 97 ?_;refine qF 13 98 (fun K hK=>?_)
        refine Kd.yE k77 (w0:=wb) wb.heap.size (by rfl) (.tmp 86) (.tmp 97) 67 77 (.agg #[(.int .i64 0),(.int .i64 0)]) 16 rfl Tryz.underlying67 a13 rfl (by decide) (by omega) u es2 (⟨wrap64 (rd cs y),(j:Int)⟩:ER) [.int .i64 (wrap64 (rd cs y)), .int .i64 (j:Int)] (fun _=>True) (fun _=>False) rfl rfl ?aP (fun _ hk=>hk.elim) ?aF ?aO ?aB ?aS ?aL ?_
        (case aP=>exact aUk _ _ _ (⟨wrap64 (rd cs y),(j:Int)⟩:ER));(case aB=>exact HB.out);(case aF=>exact(fun _ _=>trivial));(case aO=>exact HE.out);(case aS=>exact aH HB.out);(case aL=>have h1:=HL2.out;have h2:=HY.out;have h3:=HCL.out;omega);intro v98 w23 ho hb hg hat;replace HO:=am (Kd.N7 (ok:=(fun k_=>k_≠gb)) (Kd.xW HO.out (fun _ hk=>⟨hk.2,hk.1⟩)) hg hat)
        replace BK:=am (gK (g:=gb) BK.out hg (Kd.zO HE.out BK.out (by decide)));replace HCS:=am (Kd.F5 HCS.out (Kd.zP HE.out) (by decide) hg);replace HB:=am hb;replace HE:=am ho;clear ho hb hg hat;obtain⟨Ao3,co3,eo3⟩:=Kd.bS HE.out;subst eo3;refine hK.out _ _ ⟨bd BK.out 0,bd BK.out 1,(dY (HRW.out.below HB.out).key 0).trans rfl⟩ (fun hHeld=>?_);clear hK K;refine nm 98 ?_;refine pu 14 99 ?_
        refine UL (i:=15) (N:=none) #[true,true,true,true,true,true,true,true,true,true,true,true,true,true,true,true] rfl rfl (CR kQ.out (by kernel_rfl)) (by decide) (fun K hK=>?_)
        have bJd:w23.cell? ⟨gb,1,none⟩=some u:=bd BK.out 1
        have bAc:=bf BK.out 1
        refine RL (w1:=?_) (by rfl) rfl ?_ ?_
        rotate_left
        ·go_simp
         rfl
        refine hK.out _ _ ?_;clear hK K
        refine kD (fQ kQ.out (by kernel_rfl)) ?_
        clear bJd bAc hHeld hx3;go_wp2
        go_roundg k2
        case measure=>omega
        case rel=>exact⟨wrap64 (y+1),es2++[(⟨wrap64 (rd cs y),(j:Int)⟩:ER)],_,rfl,⟨by rw [HW2.out];have:=HY.out;have:=C3.out;omega⟩,⟨by rw [HW2.out];have:=HQ2.out;have:=HY.out;omega⟩,⟨by rw [HW2.out];exact bFv.out⟩,⟨by rw [HW2.out];have:=HL2.out;have:=HY.out;simp;omega⟩,⟨Kd.xW (Kd.aMg (p:=⟨gb,1,none⟩) (Kd.xW HO.out (fun k_ hk=>(⟨hk,hk.1⟩:_∧k_≠gb))) (fun _ hk=>hk.2) _) (fun _ hk=>⟨hk.1.2,hk.1.1⟩)⟩,⟨Kd.bA (Kd.bZ (p:=⟨gb,1,none⟩) (Kd.eQ HE.out BK.out (by decide)) (fun _ hk=>hk.2) _) (fun _ hk=>trivial)⟩,⟨bM (cs:= #[.bool ((bP ByteArray.empty e.2.2 0).toList.isEmpty),u]) BK.out 1 _ (by simp)⟩,⟨Kd.bA (Kd.bZ (p:=⟨gb,1,none⟩) (Kd.eQ HCS.out BK.out (by decide)) (fun _ hk=>hk.2) _) (fun _ hk=>trivial)⟩,⟨bO HB.out GE.out⟩⟩
       have oG:=decide_eq_false c3;have h1:=aRX.out
       rw [List.drop_eq_nil_of_le (by have:=HY.out;omega),aA.oe] at h1
       obtain rfl:=Option.some.inj h1
       have bFw:=am (show out.length<4398046511104 by have h2:=HOL.out;have h3:=HX.out;have h4:=HSL.out;have h5:=HLE.out;have h6:=HDL.out;omega)
       clear h1 c3 hmx hCs aRX;have⟨_,_,_,_⟩:=oP BK.out;obtain⟨Ao4,co4,eo4⟩:=Kd.bS HE.out;subst eo4
       go_wp2_with (first
        |(
          refine gd 104 ?_;at_builtin;refine Kd.aDH VB (w0:=wb) wb.heap.size rfl (.tmp 101) (.tmp 103) 33 69 (.agg #[(.bool false),(.slice none 0 0)]) 32 rfl Tryz.underlying33 a11 rfl (by decide) (by omega) u13 out (⟨((bP ByteArray.empty e.2.2 0).toList.isEmpty),es2⟩:xH) [.bool ((bP ByteArray.empty e.2.2 0).toList.isEmpty), .slice Ao4 es2.length co4] (fun k_=>k_≠gb) (fun k_=>some k_=(.slice Ao4 es2.length co4:Value).ownBlock) rfl rfl ?aP (fun k_ rQ=>((Kd.bA (ok' :=fun k_=>((fun k_=>k_≠gb)) k_∧some k_≠(u13:Value).ownBlock) (Kd.eQ (Kd.BQ (HE.out) (Kd.KF HO.out) (by decide)) BK.out (by decide)) (fun k_ hk=>⟨hk.2,hk.1.2⟩))).1 k_ rQ.symm) ?aF ?aO ?aB ?aS ?aL ?_
          (case aP=>exact aJE _ _ _ (⟨((bP ByteArray.empty e.2.2 0).toList.isEmpty),es2⟩:xH) (Kd.bA (Kd.NZ rfl (Kd.bA (ok' :=fun k_=>((fun k_=>k_≠gb)) k_∧some k_≠(u13:Value).ownBlock) (Kd.eQ (Kd.BQ (HE.out) (Kd.KF HO.out) (by decide)) BK.out (by decide)) (fun k_ hk=>⟨hk.2,hk.1.2⟩))) (fun _ h_=>h_)));(case aB=>exact HB.out);(case aF=>exact(fun k_ hk=>Kd.pV (g:=gb) BK.out k_ hk));(case aO=>exact Kd.xW HO.out (fun k_ hk=>⟨hk.2,fun e_=>hk.1 e_⟩));(case aS=>exact aH HB.out);(case aL=>have:=bFw.out;omega);intro bST w24 ho hb hg hat;replace HO:=am ho;replace HB:=am hb
          clear ho hb hg hat BK HE HCS))
       go_roundg k1
       case measure=>omega
       case rel=>exact⟨wrap64 (x+1),out++[(⟨((bP ByteArray.empty e.2.2 0).toList.isEmpty),es2⟩:xH)],rfl,⟨by rw [HW.out];have:=HX.out;have:=C2.out;have:=HSL.out;omega⟩,⟨by rw [HW.out];have:=HQ.out;have:=HX.out;omega⟩,⟨by rw [HW.out];exact a5u.out⟩,⟨by rw [HW.out];have:=HOL.out;have:=HX.out;simp;omega⟩,⟨Kd.xW HO.out (fun _ hk=>trivial)⟩,HB⟩
     have wD:=decide_eq_false c2;have h1:=aRY.out
     rw [List.drop_eq_nil_of_le (by rw [←aYZ.out,List.length_map];have:=HX.out;have:=HSL.out;omega),aA.os] at h1
     obtain rfl:=Option.some.inj h1
     have a4e:=am (show Below w.heap.size w wb from(HS6.out.below.grown a4h.out HS6.out.below.size (fun j hj=>by cases hj;exact G0.out)).grown HPL.out.gr (by have h1:=HS6.out.below.size;have h2:=a4h.out.size;omega) (fun j hj=>by cases hj;have h1:=HS6.out.below.size;have h2:=GP.out;omega))
     clear h1 c2 aRY;go_wp2
     go_ret2
     exact⟨_,rfl,Kd.F6 HO.out (aH a4e.out),aY a4e.out HB.out⟩
  ·intro x c kl y y2 w8 bRj hkey hlk hv hat bAE bAm hg8 hs8 hen;obtain⟨_,hxe,rfl⟩:=aA.aJF hkey
   cases hxe;obtain⟨hx,hxd⟩:=(HR.out.lf x).1 hlk;obtain⟨e,he,hex⟩:=List.mem_map.1 hx
   have hyc:y= .held c:=by
    have hv' :some ((.held c:DataW Value),([]:List MemPlace))=some (y,y2):=hv
    injection hv' with hv'
    injection hv' with hv' _
    exact hv'.symm
   have hce:c=e.2.1:=by
    have h0:=aA.aYE es HN6.out e he (.held c);rw [hex] at h0;have h1:=(hat (.held c)).symm.trans h0;rw [hyc] at h1
    injection h1
   obtain⟨A,cc,hva,_⟩:=HS6.out.lst e he
   have hcv:c= .slice A e.2.2.length cc:=hce.trans hva
   subst hcv;clear hce hva hx hxd hex;have a5v:=am (HR.out.row.kept hg8 (.inr (aA.row_ne_iter HR.out.row HR.out.rg).symm));have HAT:=am (show∀zd,(aA.D es).atKey (.string x.data.toList) zd= .held (.slice A e.2.2.length cc)from fun zd=>(hat zd).trans hyc);have HLK:=am hlk;have bFz:=am bAE;have bFs:=am bAm;have HG8:=am hg8
   have HB8:=am (show w.heap.size≤w8.heap.size by have h1:=HS6.out.below.size;have h2:=HR.out.gr.size;have h3:=hg8.size;omega)
   have HDE:=am (show done.length<1000000 by have h1:=aA.aQl done es (aA.Q6 HR.out.nod) HR.out.sub;have:=HLE.out;omega)
   clear hkey hlk hv hat bAE bAm hg8 hs8 hyc
   go_wp2_with (first
    |(refine gd 44 ?_;refine wpList_append_own_at _ rfl (.tmp 41) (.tmp 43) 66 rfl w.heap.size 36 i22 (.slice none 0 0) 1 24 Tryz.underlying66 hi22 bAS bAT bAU rfl (by decide) _ _ _ rfl (a5v.out.alloc _) ⟨w8.heap.size,0,none⟩ 1 1 [.slice A e.2.2.length cc] rfl rfl (cell_one_new _ _ _) (by simp [Value.oneCell']) (by have:=HDE.out;unfold maxLen;omega) (by have:=HDE.out;omega) (by have:=HB8.out;simp;omega) ?_;intro v' w9 bAC hg9 bQk bIl;go_frame))
   obtain⟨done',HR9⟩:=HR.out.push (k1:=k1) HN6.out HLK.out HAT.out bFz.out HG8.out bAC hg9 bIl (by have:=HR.out.fu;have:=bFs.out;omega)
   go_roundg k1
   case measure=>omega
   case rel=>exact⟨done',_,_,⟨HR9⟩⟩
set_option maxHeartbeats 4000000 in
set_option maxRecDepth 100000 in
theorem aA.calls (k:Nat) (A0:Option Addr) (c0:Nat) (l0:List ByteArray) (r1:List xH) (r2:Bool) (w:World) (hr0:Kd.C Kd.string w A0 l0.length l0) (hc0:l0.length≤c0) (h:aA.f k l0=some (r1,r2)):
  Calls Tryz.prog 9 #[.slice A0 l0.length c0] w fun e w' => ∃sQ:Value,e= .returned (.tuple #[sQ, .bool r2])∧Kd.S VB 69 w' w.heap.size (fun _=>True) sQ r1∧Below w.heap.size w w' :=by
 unfold aA.f at h
 obtain⟨t,ht,h⟩:=Option.bind_eq_some_iff.1 h
 cases t with
 |true=>
  rw [if_pos rfl] at h
  by_cases hn:(l0.length:Int)=0
  case neg=>
   rw [if_neg hn] at h;obtain⟨sn,hsn,h⟩:=Option.bind_eq_some_iff.1 h
   exact aA.rest k A0 c0 l0 r1 r2 w hr0 hc0 ht hn sn hsn h
  rw [if_pos hn] at h
  simp only [Option.some.injEq,Prod.mk.injEq] at h
  obtain⟨rfl,rfl⟩:=h;have lX:=am hr0;have vX:=am hc0;have A2:=am ht
  have oL:((l0.length:Int)==0)=true:=by simpa using hn
  clear hr0 hc0 ht hn
  have hsf: ∀(fn:Fn) (x y:Array Value) (w:World) (a:Addr) (m:Mode),(store a (.func fn x y) m).run Tryz.prog w=stored Tryz.prog w a (.func fn x y) m:=fun fn x y w a m=>run_store _ w a _ m rfl
  go_enter Tryz.func9,Tryz.ntmps9
  go_wp2_with (first
   |(go_at_call 30;refine(iI.calls k _ _ l0 300 true _ ?dS ?iE A2.out).mono ?_;(case dS=>exact lX.out);(case iE=>exact vX.out);rintro e w' ⟨rfl,⟨nd,rfl⟩⟩)
   |(refine gd 23 ?_;refine aA.mkm rfl 59 rfl ?_;intro gm hgm w1 hm1 hb1;have HB1:=am (aY (cB (Below.refl w.heap.size w) nd) hb1);clear hm1 hb1 hgm)
   |(refine gd 4 ?_;refine bx 4 (cs:= #[.map none]) (t:=59) ?_;intro gs hgs w2 hs2 hb2;have BS2:=am hs2;have GS:=am (show w.heap.size≤gs by rw [hgs];exact aH HB1.out);have HB2:=am (aY HB1.out hb2);have hcs2:=dY BS2.out 0;have bAa:=bf BS2.out 0;clear HB1 hs2 hb2 hgs)
   |(
     refine gd 5 ?_;refine bx 5 (cs:= #[.nilFunc]) (t:=61) ?_;intro gq hgk w3 hk3 hb3
     have BK3:=am hk3;have HB3:=am (aY (bO HB2.out GS.out) hb3)
     have GK:=am (show w.heap.size≤gq by rw [hgk];exact aH (bO HB2.out GS.out));have a9Q:=dY BK3.out 0;have a98:=bf BK3.out 0;clear BS2 HB2 hk3 hb3 hgk)
   |(
     refine gd 6 ?_;refine bx 6 (cs:= #[.nilFunc]) (t:=62) ?_;intro gg hgg w4 hg4 hb4
     have BG4:=am hg4;have HB4:=am (aY (bO HB3.out GK.out) hb4)
     have GG:=am (show w.heap.size≤gg by rw [hgg];exact aH (bO HB3.out GK.out));have a9P:=dY BG4.out 0;have a97:=bf BG4.out 0;clear BK3 HB3 hg4 hb4 hgg)
   |(
     refine gd 25 ?_;refine aA.bBo rfl (e:=36) ?hr ?_;(case hr=>(go_simp;done));intro g0 hg0 w5 h05 hb5
     have HB5:=am (aY (bO HB4.out GG.out) hb5);clear BG4 HB4 h05 hb5 hg0)
   |(refine gd 29 ?_;refine Kd.mJ k77 _ 77 ?hg (N:=29) ?hd (xs:=([]:List ER)) (inner:=[]) (ok:=fun _=>True) (mK:=fun _=>True) ?hr ?hp (fun _ hk=>hk) trivial (Below.refl _ _) (Nat.le_refl _) (by simp) ?_;(case hd=>rfl);(case hg=>rfl);(case hr=>(go_simp;done));(case hp=>exact(dQ.none _ _));intro v29 w14 IJ hb lL dP;clear lL dP;have HE:=am (Kd.dZ IJ (aH HB5.out));replace HB5:=am (aY HB5.out hb);clear hb IJ;obtain⟨Ao,co,eo⟩:=Kd.bS HE.out;subst eo)
   |(
     refine gd 31 ?_;refine Kd.aZk VB w.heap.size 69 ?hg (N:=31) ?hd (xs:=([(⟨false,[]⟩:xH)]:List xH)) (inner:=[.bool false, .slice Ao ([]:List ER).length co]) (ok:=fun _=>True) (fun j _=>j=0) ?hr rfl ?hp (fun i j k h1 h2=>h1.trans h2.symm) (fun _ _ _=>trivial) trivial HB5.out (aH HB5.out) (by simp) ?_;(case hd=>rfl);(case hg=>rfl);(case hr=>(go_simp;done))
     (case hp=>
      intro j x hj
      have hj0:j=0:=by
       rcases j with _|j
       ·rfl
       ·simp at hj
      subst hj0
      obtain rfl:(⟨false,[]⟩:xH)=x:=by simpa using hj
      exact aJE _ _ _ (⟨false,[]⟩:xH) (Kd.bA HE.out (fun _ _=>rfl)))
     intro v31 w15 bAA hb lL dP;clear lL dP;have HO:=am bAA;replace HB5:=am hb;clear hb bAA))
  go_ret2
  exact⟨_,rfl,HO.out,HB5.out⟩
 |false=>
  rw [if_neg (by simp)] at h
  simp only [Option.some.injEq,Prod.mk.injEq] at h
  obtain⟨rfl,rfl⟩:=h;have lX:=am hr0;have vX:=am hc0;have A2:=am ht;have HB:=am (Below.refl w.heap.size w);clear hr0 hc0 ht;go_enter Tryz.func9,Tryz.ntmps9
  go_wp2_with (first
   |(go_at_call 30;refine(iI.calls k _ _ l0 300 false _ ?dS ?iE A2.out).mono ?_;(case dS=>exact lX.out);(case iE=>exact vX.out);rintro e w' ⟨rfl,⟨nd,rfl⟩⟩;replace HB:=am (cB HB.out nd))
   |(refine gd 22 ?_;refine Kd.aHE VB _ 69 ?hg (N:=22) ?hd (xs:=([]:List xH)) (inner:=[]) (ok:=fun _=>True) (mK:=fun _=>True) ?hr ?hp (fun _ hk=>hk) trivial (Below.refl _ _) (Nat.le_refl _) (by simp) ?_;(case hd=>rfl);(case hg=>rfl);(case hr=>(go_simp;done));(case hp=>exact(dQ.none _ _));intro v22 w13 U5 hb lL dP;clear lL dP;have HO:=am (Kd.F6 U5 (aH HB.out));replace HB:=am (aY HB.out hb);clear hb U5))
  go_ret2
  exact⟨_,rfl,HO.out,HB.out⟩
def lV.f (k:Nat) (fI:List (kH)) (bV:List (sV)):Option (List ByteArray):=(kX.f k fI bV).bind fun bCc=>(if bCc=true then((fT.f k fI bV).bind fun a3f=>(some a3f))else(some (([]:List ByteArray))))
theorem lV.calls (k:Nat) (mH:Option Addr) (mI:Nat) (fI:List (kH)) (nQ:Option Addr) (lH:Nat) (bV:List (sV)) (r:List ByteArray) (w:World) (uI:Kd.C yG w mH fI.length fI) (uH:fI.length≤mI) (rW:Kd.C NK w nQ bV.length bV) (rV:bV.length≤lH) (h:lV.f k fI bV=some r):
  Calls Tryz.prog 10 #[.agg #[.slice mH fI.length mI, .slice nQ bV.length lH]] w fun e w' => ∃sQ:Value,e= .returned (sQ)∧Kd.R Kd.string 9 w' w.heap.size (fun _=>True) sQ r∧Below w.heap.size w w' :=by
 have U7:=Tryz.underlying26;have p9:=am uI;have pY:=am uH;clear uI uH;have nE:=am rW;have sN:=am rV;clear rW rV;have HB:=am (Below.refl w.heap.size w)
 have H:=h;unfold lV.f at H
 clear h;replace H:=ba H;obtain⟨bCc,A2,H⟩:=H
 replace H:=ib H;rcases H with ⟨rfl,H⟩|⟨rfl,H⟩
 ·replace H:=ba H;obtain⟨a3f,A4,H⟩:=H;obtain rfl:=si H;go_enter Tryz.func10,Tryz.ntmps10
  go_wp2_with (first|(refine gd 1 ?_;refine bx 1 (cs:= #[.slice mH fI.length mI, .slice nQ bV.length lH]) (t:=26) ?_;intro aEA hg w5 bT hb;have G5:=am (bT);have a4b:=am ((kI:w.heap.size≤aEA));have NN:=am ((kI:w.heap.size≤aEA));replace HB:=o8 hb;clear hb bT hg;have⟨_,_,_,_⟩:=oP G5.out)|(refine gd 4 ?_;refine gv Tryz.func20 (kX.calls k _ _ fI _ _ bV true _ (cq (Kd.dV p9.out HB.out)) pY.out (cq (Kd.dV nE.out HB.out)) sN.out A2.out) ?_;intro w7 hb;replace G5:=kb G5 hb;replace HB:=st1 NN hb;clear hb;have⟨_,_,_,_⟩:=oP G5.out)|(refine gd 8 ?_;refine gx Tryz.func23 (fT.calls k _ _ fI _ _ bV a3f _ (cq (Kd.dV p9.out HB.out)) pY.out (cq (Kd.dV nE.out HB.out)) sN.out A4.out) ?_;rintro bTY w9 ⟨ho0,hb⟩;have a5i:=am (Kd.dZ ho0 (aH (cK NN.out)));replace G5:=kb G5 hb;replace HB:=st1 NN hb;clear hb;clear ho0))
  go_ret
  exact⟨_,nD,by(with_reducible repeat(fail));exact a5i.out,cK NN.out⟩
 obtain⟨bUb,aPS⟩: ∃y_:List ByteArray,y_=(([]:List ByteArray)):=⟨_,rfl⟩
 rw [←aPS] at H
 have a7g:=am aPS;clear aPS;obtain rfl:=si H;go_enter Tryz.func10,Tryz.ntmps10
 go_wp2_with (first|(refine gd 1 ?_;refine bx 1 (cs:= #[.slice mH fI.length mI, .slice nQ bV.length lH]) (t:=26) ?_;intro aEA hg w10 bT hb;have G5:=am (bT);have a4b:=am ((kI:w.heap.size≤aEA));have NN:=am ((kI:w.heap.size≤aEA));replace HB:=o8 hb;clear hb bT hg;have⟨_,_,_,_⟩:=oP G5.out)|(refine gd 4 ?_;refine gv Tryz.func20 (kX.calls k _ _ fI _ _ bV false _ (cq (Kd.dV p9.out HB.out)) pY.out (cq (Kd.dV nE.out HB.out)) sN.out A2.out) ?_;intro w12 hb;replace G5:=kb G5 hb;replace HB:=st1 NN hb;clear hb)|(refine gd 6 ?_;refine Kd.mJ Kd.string _ 9 ?hg (N:=6) ?hd (xs:=([]:List ByteArray)) (inner:=[]) (ok:=fun _=>True) (mK:=fun _=>True) ?hr ?hp (fun _ hk=>hk) trivial (Below.refl _ _) (Nat.le_refl _) (by simp) ?_;(case hd=>rfl);(case hg=>rfl);(case hr=>(go_simp;done));(case hp=>exact(dQ.none _ _));intro bTZ w13 IJ hb lL dP;clear lL dP;(rw [←a7g.out] at IJ);have a5j:=am (Kd.dZ IJ (aH (cK NN.out)));replace G5:=kb G5 hb;replace HB:=st1 NN hb;clear hb IJ))
 go_ret
 exact⟨_,nD,by(with_reducible repeat(fail));exact a5j.out,cK NN.out⟩
end Go.Proofs.YtpljfjbhlboffaaGreat.eH

import Derived.Test.YtpljfjbhlboffaaGreatQFnMachineBookx7
namespace Go.Proofs.YtpljfjbhlboffaaGreat.eH
open Go.RowKit Go.Proofs.YtpljfjbhlboffaaGreatW.bJ Go.Proofs.YtpljfjbhlboffaaGreatW.gI Go.Proofs.YtpljfjbhlboffaaGreatW.jC Go.Proofs.YtpljfjbhlboffaaGreat.Sh
attribute [local go_sem] rD rF uY uZ pE pF rE rG
set_option linter.unusedVariables false
set_option linter.unusedSimpArgs false
set_option maxHeartbeats 8000000
set_option maxRecDepth 100000
def gT.j0:Nat→ByteArray→Bool→List Int→Int→Option (ByteArray×Int)
 |0,_,_,_,_=>none
 |k+1,x1,x12,x1000,lC=>if x12=true then((aW.f k x1).bind fun J6=>((aQ.f k x1000 lC 256).bind fun aDY=>((aQ.f k x1000 aDY.2 256).bind fun aDZ=>(if(J6.length:Int)=0 then(none)else(if 0≤(Int.tmod (wrap64 ((wrap64 (aDY.1*256))+aDZ.1)) (J6.length:Int))then(if(Int.tmod (wrap64 ((wrap64 (aDY.1*256))+aDZ.1)) (J6.length:Int))<(J6.length:Int)then((aQ.f k x1000 aDZ.2 3).bind fun aNa=>(if aNa.1=0 then((aW.f k (bP ByteArray.empty J6 (Int.tmod (wrap64 ((wrap64 (aDY.1*256))+aDZ.1)) (J6.length:Int)))).bind fun VF=>((aQ.f k x1000 aNa.2 256).bind fun aHV=>((aQ.f k x1000 aHV.2 256).bind fun aHW=>(if(VF.length:Int)=0 then(none)else(if 0≤(Int.tmod (wrap64 ((wrap64 (aHV.1*256))+aHW.1)) (VF.length:Int))then(if(Int.tmod (wrap64 ((wrap64 (aHV.1*256))+aHW.1)) (VF.length:Int))<(VF.length:Int)then(some (bP ByteArray.empty VF (Int.tmod (wrap64 ((wrap64 (aHV.1*256))+aHW.1)) (VF.length:Int)),aHW.2))else(none))else(none))))))else(some (bP ByteArray.empty J6 (Int.tmod (wrap64 ((wrap64 (aDY.1*256))+aDZ.1)) (J6.length:Int)),aNa.2))))else(none))else(none))))))else((iQ.f k x1000 lC).bind fun aW5=>(some (aW5.1,aW5.2)))
def gT.f (k:Nat) (dG:List Int) (iX:Int) (a1:ByteArray):Option (ByteArray×Int):=(gZ.f k a1).bind fun bBs=>(if bBs=true then((aQ.f k dG iX 2).bind fun aW4=>(gT.j0 k a1 (aW4.1==0) dG aW4.2))else(gT.j0 k a1 false dG iX))
theorem gT.calls (k:Nat) (g:Nat) (dG:List Int) (iX:Int) (a1:ByteArray) (r1:ByteArray) (r2:Int) (w0 w:World) (hI:aI w0 w g dG iX) (hB:Below w0.heap.size w0 w) (h:gT.f k dG iX a1=some (r1,r2)):
  Calls Tryz.prog 18 #[.pointer (some ⟨g,0,none⟩), .string a1] w fun e w' =>e= .returned (.string r1)∧aI w0 w' g dG r2∧Below w0.heap.size w0 w' ∧aZ w w' g none:=by
 have HI0:=am hI;have HK:=am (aZ.refl w g none);have HL:=am hB.size;clear hI;have HW0:=am hB.size;have HB:=am hB;clear hB
 have H:=h;unfold gT.f at H
 clear h;have FZ:=am H;clear H;go_enter Tryz.func18,Tryz.ntmps18
 go_upto_region 1 with (fail)
 go_cut [12] (fun v12 wc=> ∃(kq:Nat) (ZK:Bool) (vB:Int),v12= .bool ZK∧aC (gT.j0 kq a1 ZK dG vB=some (r1,r2))∧aC (kq≤k)∧aC (aI w0 wc g dG vB)∧aC (aZ w wc g none)∧aC (Below w0.heap.size w0 wc))
 case first=>
  have H:=FZ.out;clear FZ;replace H:=ba H;obtain⟨bBs,A4,H⟩:=H
  replace H:=ib H;rcases H with ⟨rfl,H⟩|⟨rfl,H⟩
  ·replace H:=ba H;obtain⟨⟨bBt,bBu⟩,A6,H⟩:=H;dsimp only at H
   have H' :=am H
   clear H
   go_wp2_with (first|(refine gd 7 ?_;refine gv Tryz.func24 (gZ.calls k a1 true _ A4.out) ?_;rintro w' ⟨nd,rfl⟩)|(go_at_call 48;(with_reducible refine(aQ.calls k g dG iX 2 bBt bBu w0 _ ?dS ?iE A6.out).mono ?_);(case dS=>repeat(with_reducible first|exact HI0.out|apply aI.drewN));(case iE=>repeat(with_reducible first|exact HB.out|apply cB));rintro e w7 ⟨rfl,hi,hb,hk⟩;replace HK:=ku uO hk;replace HB:=am (hb);replace HI0:=am (hi);clear hb hk hi))
   go_meet
   case rel=>exact⟨_,((bBt==0)),(bBu),sq,H',⟨xI⟩,⟨DV⟩,⟨uO⟩,⟨FB⟩⟩
  have H' :=am H
  clear H
  go_wp2_with (refine gd 7 ?_;refine gv Tryz.func24 (gZ.calls k a1 false _ A4.out) ?_;rintro w' ⟨nd,rfl⟩)
  go_meet
  case rel=>exact⟨_,(false),(iX),sq,H',⟨xI⟩,⟨DV⟩,⟨uO⟩,⟨FB⟩⟩
 case rest=>
  clear FZ;obtain⟨kq,ZK,vB,rfl,HA,HJ2,HI0,HK,HB⟩:=hcut
  cases kq with
  |zero=>exact absurd HA.out (by simp [gT.j0])
  |succ D8=>
   have H:=HA.out;clear HA;simp only [gT.j0] at H
   replace H:=ib H;rcases H with ⟨rfl,H⟩|⟨rfl,H⟩
   ·replace H:=ba H;obtain⟨J6,A9,H⟩:=H;replace H:=ba H;obtain⟨⟨a2J,aU5⟩,A10,H⟩:=H;dsimp only at H;replace H:=ba H;obtain⟨⟨a2K,aU6⟩,A11,H⟩:=H;dsimp only at H
    replace H:=iq H;obtain⟨c12,H⟩:=H
    have xN:((J6.length:Int)==0)=false:=beq_eq_false_iff_ne.mpr c12
    have OL:((J6.length:Int) !=0)=true:=bne_iff_ne.mpr c12
    have aH1: ¬(J6=[]):=fun h_=>c12 (by rw [h_];rfl)
    obtain⟨aUh,bAh⟩: ∃j_:Int,(Int.tmod (wrap64 ((wrap64 (a2J*256))+a2K)) (J6.length:Int))=j_:=⟨_,rfl⟩
    rw [bAh] at H
    replace H:=it H;obtain⟨FD,H⟩:=H;replace H:=it H;obtain⟨BX,H⟩:=H;replace H:=ba H;obtain⟨⟨aGT,a2L⟩,A16,H⟩:=H;dsimp only at H
    by_cases c17:aGT=0
    ·rw [if_pos c17] at H
     have FE:(aGT==0)=true:=beq_iff_eq.mpr c17
     have XW:(aGT !=0)=false:=bne_eq_false_iff_eq.mpr c17
     clear c17;replace H:=ba H;obtain⟨VF,A18,H⟩:=H;replace H:=ba H;obtain⟨⟨bBv,bBw⟩,A19,H⟩:=H;dsimp only at H;replace H:=ba H;obtain⟨⟨bBx,bK8⟩,A20,H⟩:=H;dsimp only at H
     replace H:=iq H;obtain⟨c21,H⟩:=H
     have MB:((VF.length:Int)==0)=false:=beq_eq_false_iff_ne.mpr c21
     have a8F:((VF.length:Int) !=0)=true:=bne_iff_ne.mpr c21
     have bNQ: ¬(VF=[]):=fun h_=>c21 (by rw [h_];rfl)
     obtain⟨bJv,bAi⟩: ∃j_:Int,(Int.tmod (wrap64 ((wrap64 (bBv*256))+bBx)) (VF.length:Int))=j_:=⟨_,rfl⟩
     rw [bAi] at H
     replace H:=it H;obtain⟨MC,H⟩:=H;replace H:=it H;obtain⟨aD4,H⟩:=H;simp only [Option.some.injEq,Prod.mk.injEq] at H;obtain⟨rfl,rfl⟩:=H
     go_wp2_with (first|(refine gd 14 ?_;refine gx Tryz.func52 (aW.calls D8 a1 J6 _ A9.out) ?_;rintro bLm w25 ⟨ho0,hb⟩;have tX:=am (Kd.nZ (Kd.gJ (ok' :=fun k_=>k_≠g) ho0 (fun k_ rQ=>(aI.fresh DV k_ rQ))) (mX (w:=w) (g:=g) (row:=none) uO));replace HK:=kt g uO hb;replace HB:=am (aY FB hb);replace HI0:=am (aI.below DV hb);clear hb;clear ho0)|(refine gd 17 ?_;refine gv Tryz.func48 (aQ.calls D8 g dG vB 256 a2J aU5 w0 _ HI0.out HB.out A10.out) ?_;rintro w26 ⟨hi,hb,hk⟩;replace tX:=kw tX hk;replace HK:=ku uO hk;replace HB:=am (hb);replace HI0:=am (hi);clear hb hk hi)|(refine gd 20 ?_;refine gv Tryz.func48 (aQ.calls D8 g dG aU5 256 a2K aU6 w0 _ HI0.out HB.out A11.out) ?_;rintro w27 ⟨hi,hb,hk⟩;replace tX:=kw tX hk;replace HK:=ku uO hk;replace HB:=am (hb);replace HI0:=am (hi);clear hb hk hi;obtain⟨WT,X4,aNG⟩:=Kd.nC tX.out;subst aNG;obtain⟨a7x,e318,aTF,bJC,bKl⟩:=CY (Kd.mE tX.out).2.2 (aUh);cases e318)|(refine gd 28 ?_;refine gv Tryz.func48 (aQ.calls D8 g dG aU6 3 aGT a2L w0 _ HI0.out HB.out A16.out) ?_;rintro w29 ⟨hi,hb,hk⟩;replace tX:=kw tX hk;replace HK:=ku uO hk;replace HB:=am (hb);replace HI0:=am (hi);clear hb hk hi)|((with_reducible refine aEx (f:=52) rfl ?_);refine YG (some 31) rfl rfl Tryz.func52 (by kernel_rfl) rfl #[.string (bP ByteArray.empty J6 (aUh))] rfl (by simp only [List.map_toArray,List.map_cons,List.map_nil];rfl) ?_;(with_reducible refine(aW.calls D8 (bP ByteArray.empty J6 (aUh)) VF _ A18.out).mono ?_);rintro e w30 ⟨bTc,rfl,ho0,hb⟩;refine⟨_,rfl,?_⟩;replace tX:=am (Kd.qB (vq tX.out) hb);have aAE:=am (Kd.nZ (Kd.gJ (ok' :=fun k_=>k_≠g) ho0 (fun k_ rQ=>(aI.fresh DV k_ rQ))) (mX (w:=w) (g:=g) (row:=none) uO));replace HK:=kt g uO hb;replace HB:=am (aY FB hb);replace HI0:=am (aI.below DV hb);clear hb;clear ho0)|(refine gd 34 ?_;refine gv Tryz.func48 (aQ.calls D8 g dG a2L 256 bBv bBw w0 _ HI0.out HB.out A19.out) ?_;rintro w31 ⟨hi,hb,hk⟩;replace tX:=kw tX hk;replace aAE:=kw aAE hk;replace HK:=ku uO hk;replace HB:=am (hb);replace HI0:=am (hi);clear hb hk hi)|(refine gd 37 ?_;refine gv Tryz.func48 (aQ.calls D8 g dG bBw 256 bBx bK8 w0 _ HI0.out HB.out A20.out) ?_;rintro w32 ⟨hi,hb,hk⟩;replace tX:=kw tX hk;replace aAE:=kw aAE hk;replace HK:=ku uO hk;replace HB:=am (hb);replace HI0:=am (hi);clear hb hk hi;obtain⟨bQB,bRn,bHC⟩:=Kd.nC aAE.out;subst bHC;obtain⟨bNd,e328,bD4,bR1,bSu⟩:=CY (Kd.mE aAE.out).2.2 (bJv);cases e328))
     go_ret
     exact⟨by rfl,DV,FB,uO⟩
    rw [if_neg c17] at H
    have FE:(aGT==0)=false:=beq_eq_false_iff_ne.mpr c17
    have XW:(aGT !=0)=true:=bne_iff_ne.mpr c17
    simp only [Option.some.injEq,Prod.mk.injEq] at H;obtain⟨rfl,rfl⟩:=H
    go_wp2_with (first|(refine gd 14 ?_;refine gx Tryz.func52 (aW.calls D8 a1 J6 _ A9.out) ?_;rintro bLm w34 ⟨ho0,hb⟩;have tX:=am (Kd.nZ (Kd.gJ (ok' :=fun k_=>k_≠g) ho0 (fun k_ rQ=>(aI.fresh DV k_ rQ))) (mX (w:=w) (g:=g) (row:=none) uO));replace HK:=kt g uO hb;replace HB:=am (aY FB hb);replace HI0:=am (aI.below DV hb);clear hb;clear ho0)|(refine gd 17 ?_;refine gv Tryz.func48 (aQ.calls D8 g dG vB 256 a2J aU5 w0 _ HI0.out HB.out A10.out) ?_;rintro w35 ⟨hi,hb,hk⟩;replace tX:=kw tX hk;replace HK:=ku uO hk;replace HB:=am (hb);replace HI0:=am (hi);clear hb hk hi)|(refine gd 20 ?_;refine gv Tryz.func48 (aQ.calls D8 g dG aU5 256 a2K aU6 w0 _ HI0.out HB.out A11.out) ?_;rintro RY ⟨hi,hb,hk⟩;replace tX:=kw tX hk;replace HK:=ku uO hk;replace HB:=am (hb);replace HI0:=am (hi);clear hb hk hi;obtain⟨a3z,a9q,aNI⟩:=Kd.nC tX.out;subst aNI;obtain⟨a7x,e318,aTF,bJC,bKl⟩:=CY (Kd.mE tX.out).2.2 (aUh);cases e318)|(refine gd 28 ?_;refine gv Tryz.func48 (aQ.calls D8 g dG aU6 3 aGT a2L w0 _ HI0.out HB.out A16.out) ?_;rintro w38 ⟨hi,hb,hk⟩;replace tX:=kw tX hk;replace HK:=ku uO hk;replace HB:=am (hb);replace HI0:=am (hi);clear hb hk hi))
    go_ret
    exact⟨by rfl,DV,FB,uO⟩
   replace H:=ba H;obtain⟨⟨bK9,bLa⟩,A39,H⟩:=H;dsimp only at H;simp only [Option.some.injEq,Prod.mk.injEq] at H;obtain⟨rfl,rfl⟩:=H
   go_wp2_with (refine gd 46 ?_;refine gv Tryz.func50 (iQ.calls D8 g dG vB bK9 bLa w0 _ HI0.out HB.out A39.out) ?_;rintro w40 ⟨hi,hb,hk⟩;replace HK:=ku uO hk;replace HB:=am (hb);replace HI0:=am (hi);clear hb hk hi)
   go_ret
   exact⟨nD,DV,FB,uO⟩
def kZ.f (a0:ByteArray):Option (Bool):=if(a0.size:Int)=1 then(if 0<(a0.size:Int)then(if(bt a0 0)≥65 then(some (decide ((bt a0 0)≤90)))else(some false))else(none))else(some false)
theorem kZ.calls (a0:ByteArray) (r:Bool) (w:World) (h:kZ.f a0=some r):
  Calls Tryz.prog 68 #[.string a0] w fun e w' =>e= .returned (.bool r)∧iB w w' :=by
 have H:=h;unfold kZ.f at H
 clear h
 by_cases c2:(a0.size:Int)=1
 ·rw [if_pos c2] at H
  have wD:((a0.size:Int)==1)=true:=beq_iff_eq.mpr c2
  have ZW:((a0.size:Int) !=1)=false:=bne_eq_false_iff_eq.mpr c2
  clear c2;replace H:=ip H;obtain⟨c3,H⟩:=H;have oG:=decide_eq_true c3
  have GA:decide (0<a0.size)=true:=decide_eq_true (by omega)
  clear c3
  replace H:=iv H;rcases H with ⟨oL,H⟩|⟨oL,H⟩
  ·obtain rfl:=si H
   have p4:0≤(0:Int):=(by omega)
   have q4:0<a0.size:=aMG
   have hx4: ∀h:0<a0.size,((a0[0]'h).toNat:Int)=bt a0 0:=kL a0 0
   clear p4
   have qi4:(0<(a0.size:Int))=True:=eq_true (dt)
   replace q4:=eq_true q4
   have p6:0≤(0:Int):=(by omega)
   have q6:0<a0.size:=aMG
   have hx6: ∀h:0<a0.size,((a0[0]'h).toNat:Int)=bt a0 0:=kL a0 0
   clear p6
   have qi6:(0<(a0.size:Int))=True:=eq_true (dt)
   replace q6:=eq_true q6;go_enter Tryz.func68,Tryz.ntmps68;go_wp2;go_ret
   exact⟨sq,dr⟩
  obtain rfl:=si H
  have p4:0≤(0:Int):=(by omega)
  have q4:0<a0.size:=aMG
  have hx4: ∀h:0<a0.size,((a0[0]'h).toNat:Int)=bt a0 0:=kL a0 0
  clear p4
  have qi4:(0<(a0.size:Int))=True:=eq_true (dt)
  replace q4:=eq_true q4;go_enter Tryz.func68,Tryz.ntmps68;go_wp2;go_ret
  exact⟨sq,dr⟩
 rw [if_neg c2] at H
 have wD:((a0.size:Int)==1)=false:=beq_eq_false_iff_ne.mpr c2
 have ZW:((a0.size:Int) !=1)=true:=bne_iff_ne.mpr c2
 obtain rfl:=si H;go_enter Tryz.func68,Tryz.ntmps68;go_wp2;go_ret
 exact⟨sq,dr⟩
def iK.l0:Nat→Int→ByteArray→ByteArray→Option (Bool)
 |0,_,_,_=>none
 |k+1,x3,aDl,BB=>if x3<(BB.size:Int)then(if 0≤x3 then(if x3≤(wrap64 (x3+1))then(if(wrap64 (x3+1))≤(BB.size:Int)then((kZ.f (BB.extract (x3:Int).toNat ((wrap64 (x3+1)):Int).toNat)).bind fun bBy=>(if bBy=true then(if x3>0 then(if 0≤(wrap64 (x3-1))then(if(wrap64 (x3-1))<(BB.size:Int)then(if(bt BB (wrap64 (x3-1)))≥(bt BB x3)then(some false)else(iK.l0 k (wrap64 (x3+1)) aDl BB))else(none))else(none))else(iK.l0 k (wrap64 (x3+1)) aDl BB))else(some false)))else(none))else(none))else(none))else((gZ.f k aDl).bind fun bBz=>(if bBz=true then(some (decide ((BB.size:Int)≤4)))else(some false)))
def iK.f (k:Nat) (iD:ByteArray) (iG:ByteArray):Option (Bool):=iK.l0 k 0 iD iG
theorem iK.calls (k:Nat) (iD:ByteArray) (iG:ByteArray) (r:Bool) (w:World) (h:iK.f k iD iG=some r):
  Calls Tryz.prog 28 #[.agg #[.string iD, .string iG]] w fun e w' =>e= .returned (.bool r)∧Below w.heap.size w w' :=by
 have aCt:=Tryz.underlying56;have HB:=am (Below.refl w.heap.size w)
 have H:=h;unfold iK.f at H
 clear h
 have H' :=am H
 clear H;go_enter Tryz.func28,Tryz.ntmps28
 go_wp2_with (refine gd 1 ?_;((refine qI (by rfl) ?_;dsimp only));refine bx 1 (cs:= #[.string iD, .string iG]) (t:=56) ?_;intro aNN hg w2 bT hb;have LJ:=am (bT);have bMv:=am ((kI:w.heap.size≤aNN));have WY:=am ((kI:w.heap.size≤aNN));replace HB:=o8 hb;clear hb bT hg)
 go_loopg [3] k (fun kq v3 w' => ∃(bL:Int),v3= .int .i64 bL∧aC (iK.l0 kq bL iD iG=some r)∧aC (kq≤k)∧aC (w'.heap[aNN]?=some (.cells #[.string iD, .string iG] 56 (0,0)))∧aC (Below w.heap.size w w'))
 case atStart=>exact⟨(0),sq,H',⟨Nat.le_refl _⟩,⟨bq LJ.out⟩,⟨cK WY.out⟩⟩
 case round=>
  clear H';obtain⟨bL,rfl,HA,lM,LJ,HB⟩:=hrel
  cases gk with
  |zero=>exact absurd HA.out (by simp [iK.l0])
  |succ k1=>
   have H:=HA.out;clear HA;simp only [iK.l0] at H
   replace H:=iv H;rcases H with ⟨oG,H⟩|⟨oG,H⟩
   ·replace H:=ip H;obtain⟨c4,H⟩:=H;have qZ:=eq_true c4
    have XX:decide (0≤bL)=true:=decide_eq_true c4
    clear c4;replace H:=ip H;obtain⟨c5,H⟩:=H;have oL:=eq_true c5
    have JF:decide (bL≤(wrap64 (bL+1)))=true:=decide_eq_true c5
    replace H:=ip H;obtain⟨c6,H⟩:=H;have sW:=eq_true c6
    have aFF:decide ((wrap64 (bL+1))≤(iG.size:Int))=true:=decide_eq_true c6
    replace H:=ba H;obtain⟨bBy,A7,H⟩:=H
    replace H:=ib H;rcases H with ⟨rfl,H⟩|⟨rfl,H⟩
    ·by_cases c9:bL>0
     ·rw [if_pos c9] at H;have wE:=decide_eq_true c9;clear c9;obtain⟨aGk,aXY⟩: ∃j_:Int,(wrap64 (bL-1))=j_:=⟨_,rfl⟩
      rw [aXY] at H
      have bIJ:(IntKind.i64.wrap (bL-1))=aGk:=(iZ _).trans aXY
      replace H:=it H;obtain⟨zG,H⟩:=H;replace H:=it H;obtain⟨xN,H⟩:=H
      replace H:=iv H;rcases H with ⟨BX,H⟩|⟨BX,H⟩
      ·obtain rfl:=si H;have⟨_,_,_,_⟩:=oP LJ.out
       have p13:0≤((aGk):Int):=dt
       have q13:(aGk)<(iG.size:Int):=dt
       have bJf:=kL iG (aGk)
       replace p13:=eq_true p13
       replace q13:=eq_true q13
       have p14:0≤(bL:Int):=dt
       have q14:bL<(iG.size:Int):=dt
       have a1R:=kL iG bL
       replace p14:=eq_true p14
       replace q14:=eq_true q14
       go_wp2
       repeat(go_quiet ((go_at_call 68;(with_reducible refine(kZ.calls (iG.extract (bL:Int).toNat ((wrap64 (bL+1)):Int).toNat) true _ A7.out).mono ?_);rintro e w' ⟨rfl,⟨nd,rfl⟩⟩;exact⟨rfl,_,World.drewN_drewN _ _ _⟩));try go_wp2)
       go_ret
       exact⟨by rfl,cK WY.out⟩
      have H' :=am H
      clear H;have⟨_,_,_,_⟩:=oP LJ.out
      have p13:0≤((aGk):Int):=dt
      have q13:(aGk)<(iG.size:Int):=dt
      have bJf:=kL iG (aGk)
      replace p13:=eq_true p13
      replace q13:=eq_true q13
      have p14:0≤(bL:Int):=dt
      have q14:bL<(iG.size:Int):=dt
      have a1R:=kL iG bL
      replace p14:=eq_true p14
      replace q14:=eq_true q14
      go_wp2
      repeat(go_quiet ((go_at_call 68;(with_reducible refine(kZ.calls (iG.extract (bL:Int).toNat ((wrap64 (bL+1)):Int).toNat) true _ A7.out).mono ?_);rintro e w' ⟨rfl,⟨nd,rfl⟩⟩;exact⟨rfl,_,World.drewN_drewN _ _ _⟩));try go_wp2)
      go_roundg k1
      case measure=>have:=lM.out;omega
      case rel=>exact⟨(wrap64 (bL+1)),sq,H',⟨rO⟩,⟨bq LJ.out⟩,⟨cK WY.out⟩⟩
     rw [if_neg c9] at H;have wE:=decide_eq_false c9;clear c9
     have H' :=am H
     clear H;have⟨_,_,_,_⟩:=oP LJ.out
     go_wp2
     repeat(go_quiet ((go_at_call 68;(with_reducible refine(kZ.calls (iG.extract (bL:Int).toNat ((wrap64 (bL+1)):Int).toNat) true _ A7.out).mono ?_);rintro e w' ⟨rfl,⟨nd,rfl⟩⟩;exact⟨rfl,_,World.drewN_drewN _ _ _⟩));try go_wp2)
     go_roundg k1
     case measure=>have:=lM.out;omega
     case rel=>exact⟨(wrap64 (bL+1)),sq,H',⟨rO⟩,⟨bq LJ.out⟩,⟨cK WY.out⟩⟩
    obtain rfl:=si H;have⟨_,_,_,_⟩:=oP LJ.out
    go_wp2
    repeat(go_quiet ((go_at_call 68;(with_reducible refine(kZ.calls (iG.extract (bL:Int).toNat ((wrap64 (bL+1)):Int).toNat) false _ A7.out).mono ?_);rintro e w' ⟨rfl,⟨nd,rfl⟩⟩;exact⟨rfl,_,World.drewN_drewN _ _ _⟩));try go_wp2)
    go_ret
    exact⟨nD,cK WY.out⟩
   replace H:=ba H;obtain⟨bBz,A20,H⟩:=H
   replace H:=ib H;rcases H with ⟨rfl,H⟩|⟨rfl,H⟩
   ·obtain rfl:=si H;have⟨_,_,_,_⟩:=oP LJ.out
    go_wp2_with (go_at_call 24;(with_reducible refine(gZ.calls k1 iD true _ A20.out).mono ?_);rintro e w' ⟨rfl,⟨nd,rfl⟩⟩)
    go_ret
    exact⟨nD,cK WY.out⟩
   obtain rfl:=si H;have⟨_,_,_,_⟩:=oP LJ.out
   go_wp2_with (go_at_call 24;(with_reducible refine(gZ.calls k1 iD false _ A20.out).mono ?_);rintro e w' ⟨rfl,⟨nd,rfl⟩⟩)
   go_ret
   exact⟨nD,cK WY.out⟩
def mM.f (a0:ByteArray) (a1:ByteArray):Option (Bool):=if(a0.size:Int)≥(a1.size:Int)then(if 0≤(a1.size:Int)then(if(a1.size:Int)≤(a0.size:Int)then(some ((a0.extract 0 a1.size).toList==a1.toList))else(none))else(none))else(some false)
theorem mM.calls (a0:ByteArray) (a1:ByteArray) (r:Bool) (w:World) (h:mM.f a0 a1=some r):
  Calls Tryz.prog 95 #[.string a0, .string a1] w fun e w' =>e= .returned (.bool r)∧iB w w' :=by
 have H:=h;unfold mM.f at H
 clear h
 by_cases c3:(a0.size:Int)≥(a1.size:Int)
 ·rw [if_pos c3] at H;have oG:=decide_eq_true c3
  have GA:decide (a1.size≤a0.size)=true:=decide_eq_true (Int.ofNat_le.mp c3)
  clear c3;replace H:=ip H;obtain⟨c4,H⟩:=H;have qZ:=eq_true c4
  have XX:decide (0≤(a1.size:Int))=true:=decide_eq_true c4
  clear c4;replace H:=ip H;obtain⟨c5,H⟩:=H;have oL:=eq_true c5
  have bF9:(a1.size≤a0.size)=True:=eq_true (by omega)
  have bF8:decide (a1.size≤a0.size)=true:=decide_eq_true (by omega)
  have JF:decide ((a1.size:Int)≤(a0.size:Int))=true:=decide_eq_true c5
  clear c5;obtain rfl:=si H;go_enter Tryz.func95,Tryz.ntmps95;go_wp2;go_ret
  exact⟨sq,dr⟩
 rw [if_neg c3] at H;have oG:=decide_eq_false c3
 have GA:decide (a1.size≤a0.size)=false:=decide_eq_false (fun h=>c3 (Int.ofNat_le.mpr h))
 clear c3;obtain rfl:=si H;go_enter Tryz.func95,Tryz.ntmps95;go_wp2;go_ret
 exact⟨sq,dr⟩
def o7.f (a0:ByteArray) (a1:ByteArray):Option (Bool):=if(a0.size:Int)≥(a1.size:Int)then(if 0≤(wrap64 ((a0.size:Int)-(a1.size:Int)))then(if(wrap64 ((a0.size:Int)-(a1.size:Int)))≤(a0.size:Int)then(some ((a0.extract ((wrap64 ((a0.size:Int)-(a1.size:Int))):Int).toNat a0.size).toList==a1.toList))else(none))else(none))else(some false)
theorem o7.calls (a0:ByteArray) (a1:ByteArray) (r:Bool) (w:World) (h:o7.f a0 a1=some r):
  Calls Tryz.prog 96 #[.string a0, .string a1] w fun e w' =>e= .returned (.bool r)∧iB w w' :=by
 have H:=h;unfold o7.f at H
 clear h
 by_cases c3:(a0.size:Int)≥(a1.size:Int)
 ·rw [if_pos c3] at H;have oG:=decide_eq_true c3
  have GA:decide (a1.size≤a0.size)=true:=decide_eq_true (Int.ofNat_le.mp c3)
  clear c3;obtain⟨ji4,aOk⟩: ∃j_:Int,(wrap64 ((a0.size:Int)-(a1.size:Int)))=j_:=⟨_,rfl⟩
  rw [aOk] at H
  have bAj:(IntKind.i64.wrap ((a0.size:Int)-(a1.size:Int)))=ji4:=(iZ _).trans aOk
  replace H:=ip H;obtain⟨c5,H⟩:=H;have oL:=eq_true c5
  have JF:decide (0≤(ji4))=true:=decide_eq_true c5
  clear c5;replace H:=ip H;obtain⟨c6,H⟩:=H;have sW:=eq_true c6
  have aFF:decide ((ji4)≤(a0.size:Int))=true:=decide_eq_true c6
  clear c6;obtain rfl:=si H;go_enter Tryz.func96,Tryz.ntmps96;go_wp2;go_ret
  exact⟨by rfl,dr⟩
 rw [if_neg c3] at H;have oG:=decide_eq_false c3
 have GA:decide (a1.size≤a0.size)=false:=decide_eq_false (fun h=>c3 (Int.ofNat_le.mpr h))
 clear c3;obtain rfl:=si H;go_enter Tryz.func96,Tryz.ntmps96;go_wp2;go_ret
 exact⟨sq,dr⟩
def iJ.j0:Nat→Bool→ByteArray→Bool→ByteArray→ByteArray→ByteArray→Option (Bool)
 |0,_,_,_,_,_,_=>none
 |k+1,x24,bEI,aVB,aJW,bEJ,aJX=>if x24=true then(some false)else(if aVB=true then((mM.f aJX aJW).bind fun a2M=>(some a2M))else((o7.f aJX aJW).bind fun a2N=>(some a2N)))
def iJ.f (k:Nat) (iD:ByteArray) (iG:Bool) (jM:ByteArray) (kU:ByteArray) (l5:ByteArray):Option (Bool):=(kZ.f iD).bind fun bBA=>(if bBA=true then((eU.f k jM 4).bind fun bBB=>(if bBB=true then((eU.f k kU 4).bind fun bBC=>(if bBC=true then((eU.f k l5 4).bind fun aU7=>(iJ.j0 k (!aU7) iD iG jM kU l5))else(iJ.j0 k true iD iG jM kU l5)))else(iJ.j0 k true iD iG jM kU l5)))else(iJ.j0 k true iD iG jM kU l5))
theorem iJ.calls (k:Nat) (iD:ByteArray) (iG:Bool) (jM:ByteArray) (kU:ByteArray) (l5:ByteArray) (r:Bool) (w:World) (h:iJ.f k iD iG jM kU l5=some r):
  Calls Tryz.prog 69 #[.agg #[.string iD, .bool iG, .string jM, .string kU, .string l5]] w fun e w' =>e= .returned (.bool r)∧Below w.heap.size w w' :=by
 have U8:=Tryz.underlying87;have HB:=am (Below.refl w.heap.size w)
 have H:=h;unfold iJ.f at H
 clear h;have HC2:=am H;clear H;go_enter Tryz.func69,Tryz.ntmps69
 go_upto_region 1 with (refine gd 1 ?_;refine bx 1 (cs:= #[.string iD, .bool iG, .string jM, .string kU, .string l5]) (t:=87) ?_;intro aNO hg w3 bT hb;have IU:=am (bT);have bMw:=am ((kI:w.heap.size≤aNO));have W9:=am ((kI:w.heap.size≤aNO));replace HB:=o8 hb;clear hb bT hg)
 go_cut [24] (fun v24 wc=> ∃(kq:Nat) (aRv:Bool),v24= .bool aRv∧aC (iJ.j0 kq aRv iD iG jM kU l5=some r)∧aC (kq≤k)∧aC (wc.heap[aNO]?=some (.cells #[.string iD, .bool iG, .string jM, .string kU, .string l5] 87 (0,0)))∧aC (Below w.heap.size w wc))
 case first=>
  have H:=HC2.out;clear HC2;replace H:=ba H;obtain⟨bBA,A4,H⟩:=H
  replace H:=ib H;rcases H with ⟨rfl,H⟩|⟨rfl,H⟩
  ·replace H:=ba H;obtain⟨bBB,A6,H⟩:=H
   replace H:=ib H;rcases H with ⟨rfl,H⟩|⟨rfl,H⟩
   ·replace H:=ba H;obtain⟨bBC,A8,H⟩:=H
    replace H:=ib H;rcases H with ⟨rfl,H⟩|⟨rfl,H⟩
    ·replace H:=ba H;obtain⟨aU7,A10,H⟩:=H
     have H' :=am H
     clear H;have⟨_,_,_,_,_,_,_,_,_,_⟩:=yM IU.out
     go_wp2_with (first|(refine gd 5 ?_;refine gv Tryz.func68 (kZ.calls iD true _ A4.out) ?_;rintro w' ⟨nd,rfl⟩)|(go_at_call 63;(with_reducible refine(eU.calls k jM 4 true _ A6.out).mono ?_);rintro e w' ⟨rfl,⟨nd,rfl⟩⟩)|(go_at_call 63;(with_reducible refine(eU.calls k kU 4 true _ A8.out).mono ?_);rintro e w' ⟨rfl,⟨nd,rfl⟩⟩)|(go_at_call 63;(with_reducible refine(eU.calls k l5 4 aU7 _ A10.out).mono ?_);rintro e w' ⟨rfl,⟨nd,rfl⟩⟩))
     go_meet
     case rel=>exact⟨_,(!aU7),sq,H',⟨xI⟩,⟨bq IU.out⟩,⟨cK W9.out⟩⟩
    have H' :=am H
    clear H;have⟨_,_,_,_,_,_,_,_,_,_⟩:=yM IU.out
    go_wp2_with (first|(refine gd 5 ?_;refine gv Tryz.func68 (kZ.calls iD true _ A4.out) ?_;rintro w' ⟨nd,rfl⟩)|(go_at_call 63;(with_reducible refine(eU.calls k jM 4 true _ A6.out).mono ?_);rintro e w' ⟨rfl,⟨nd,rfl⟩⟩)|(go_at_call 63;(with_reducible refine(eU.calls k kU 4 false _ A8.out).mono ?_);rintro e w' ⟨rfl,⟨nd,rfl⟩⟩))
    go_meet
    case rel=>exact⟨_,(true),sq,H',⟨xI⟩,⟨bq IU.out⟩,⟨cK W9.out⟩⟩
   have H' :=am H
   clear H;have⟨_,_,_,_,_,_,_,_,_,_⟩:=yM IU.out
   go_wp2_with (first|(refine gd 5 ?_;refine gv Tryz.func68 (kZ.calls iD true _ A4.out) ?_;rintro w' ⟨nd,rfl⟩)|(go_at_call 63;(with_reducible refine(eU.calls k jM 4 false _ A6.out).mono ?_);rintro e w' ⟨rfl,⟨nd,rfl⟩⟩))
   go_meet
   case rel=>exact⟨_,(true),sq,H',⟨xI⟩,⟨bq IU.out⟩,⟨cK W9.out⟩⟩
  have H' :=am H
  clear H;have⟨_,_,_,_,_,_,_,_,_,_⟩:=yM IU.out
  go_wp2_with (refine gd 5 ?_;refine gv Tryz.func68 (kZ.calls iD false _ A4.out) ?_;rintro w' ⟨nd,rfl⟩)
  go_meet
  case rel=>exact⟨_,(true),sq,H',⟨xI⟩,⟨bq IU.out⟩,⟨cK W9.out⟩⟩
 case rest=>
  clear HC2;obtain⟨kq,aRv,rfl,HA,HJ1,IU,HB⟩:=hcut
  cases kq with
  |zero=>exact absurd HA.out (by simp [iJ.j0])
  |succ kj1=>
   have H:=HA.out;clear HA;simp only [iJ.j0] at H
   replace H:=ib H;rcases H with ⟨rfl,H⟩|⟨rfl,H⟩
   ·obtain rfl:=si H;go_wp2;go_ret
    exact⟨nD,cK W9.out⟩
   replace H:=ib H;rcases H with ⟨rfl,H⟩|⟨rfl,H⟩
   ·replace H:=ba H;obtain⟨a2M,A17,H⟩:=H;obtain rfl:=si H;have⟨_,_,_,_,_,_,_,_,_,_⟩:=yM IU.out
    go_wp2_with (refine gd 31 ?_;refine gv Tryz.func95 (mM.calls l5 jM a2M _ A17.out) ?_;rintro w' ⟨nd,rfl⟩)
    go_ret
    exact⟨nD,cK W9.out⟩
   replace H:=ba H;obtain⟨a2N,A19,H⟩:=H;obtain rfl:=si H;have⟨_,_,_,_,_,_,_,_,_,_⟩:=yM IU.out
   go_wp2_with (refine gd 36 ?_;refine gv Tryz.func96 (o7.calls l5 jM a2N _ A19.out) ?_;rintro w' ⟨nd,rfl⟩)
   go_ret
   exact⟨nD,cK W9.out⟩
attribute [local go_sem high] aNJ
mutual
def eO.l0:Nat→List (kH)→Int→Option (Bool)
 |0,_,_=>none
 |k+1,x0,x3=>if x3<(x0.length:Int)then(if 0≤x3 then((iJ.f k ((aD x0 x3).f0) ((aD x0 x3).f1) ((aD x0 x3).f2) ((aD x0 x3).f3) ((aD x0 x3).f4)).bind fun bBD=>(if bBD=true then(eO.l1 k x0 x3 0)else(some false)))else(none))else(some (decide ((x0.length:Int)≤8)))
def eO.l1:Nat→List (kH)→Int→Int→Option (Bool)
 |0,_,_,_=>none
 |k+1,x0,x3,x4=>if x4<x3 then(if 0≤x4 then(if x4<(x0.length:Int)then(if 0≤x3 then(if x3<(x0.length:Int)then(if((((aD x0 x4).f0).toList)==(((aD x0 x3).f0).toList)&&(((aD x0 x4).f1)==((aD x0 x3).f1)&&((((aD x0 x4).f2).toList)==(((aD x0 x3).f2).toList)&&((((aD x0 x4).f3).toList)==(((aD x0 x3).f3).toList)&&((((aD x0 x4).f4).toList)==(((aD x0 x3).f4).toList))))))=true then(some false)else(eO.l1 k x0 x3 (wrap64 (x4+1))))else(none))else(none))else(none))else(none))else(eO.l0 k x0 (wrap64 (x3+1)))
end
def eO.f (k:Nat) (l0:List (kH)):Option (Bool):=eO.l0 k l0 0
theorem eO.calls (k:Nat) (A0:Option Addr) (c0:Nat) (l0:List (kH)) (r:Bool) (w:World) (hr0:Kd.C yG w A0 l0.length l0) (hc0:l0.length≤c0) (h:eO.f k l0=some r):
  Calls Tryz.prog 29 #[.slice A0 l0.length c0] w fun e w' =>e= .returned (.bool r)∧Below w.heap.size w w' :=by
 have U8:=Tryz.underlying87;have lX:=am hr0;have vX:=am hc0;clear hr0 hc0;have HB:=am (Below.refl w.heap.size w)
 have H:=h;unfold eO.f at H
 clear h
 have H' :=am H
 clear H;go_enter Tryz.func29,Tryz.ntmps29;go_wp2
 go_loopg [3] k (fun kq v3 w' => ∃(bL:Int),v3= .int .i64 bL∧aC (eO.l0 kq l0 bL=some r)∧aC (kq≤k)∧aC (Below w.heap.size w w'))
 case atStart=>exact⟨(0),sq,H',⟨Nat.le_refl _⟩,⟨gP⟩⟩
 case round=>
  clear H';obtain⟨bL,rfl,HA,lM,HB⟩:=hrel
  cases gk with
  |zero=>exact absurd HA.out (by simp [eO.l0])
  |succ k1=>
   have H:=HA.out;clear HA;simp only [eO.l0] at H
   replace H:=iv H;rcases H with ⟨wD,H⟩|⟨wD,H⟩
   ·replace H:=it H;obtain⟨oG,H⟩:=H;replace H:=ba H;obtain⟨bBD,A4,H⟩:=H
    replace H:=ib H;rcases H with ⟨rfl,H⟩|⟨rfl,H⟩
    ·have H' :=am H
     clear H
     obtain⟨aDI,aZL,aI9,aJa,aJb,aJc,aJd⟩:=kp5 HB (sH lX.out bL dt dt);cases aZL;have bA7:=e0 bL;have bBe:=e1 bL (l0.length:Int)
     go_wp2_with (go_at_call 69;(with_reducible refine(iJ.calls k1 ((aD l0 bL).f0) ((aD l0 bL).f1) ((aD l0 bL).f2) ((aD l0 bL).f3) ((aD l0 bL).f4) true _ A4.out).mono ?_);rintro e w6 ⟨rfl,hb⟩;replace HB:=o8 hb;clear hb)
     go_loopg [4] k1 (fun kq v4 w' => ∃(mV:Int),v4= .int .i64 mV∧aC (eO.l1 kq l0 bL mV=some r)∧aC (kq≤k1)∧aC (Below w.heap.size w w'))
     case atStart=>exact⟨(0),sq,H',⟨Nat.le_refl _⟩,⟨gP⟩⟩
     case round=>
      clear H';clear wD oG aI9 aJa aJb aJc aJd bA7 bBe;obtain⟨mV,rfl,HA,uP,HB⟩:=hrel
      cases gk with
      |zero=>exact absurd HA.out (by simp [eO.l1])
      |succ k2=>
       have H:=HA.out;clear HA;simp only [eO.l1] at H
       replace H:=iv H;rcases H with ⟨wR,H⟩|⟨wR,H⟩
       ·replace H:=it H;obtain⟨tK,H⟩:=H;replace H:=it H;obtain⟨wE,H⟩:=H;replace H:=it H;obtain⟨BV,H⟩:=H;replace H:=it H;obtain⟨zG,H⟩:=H
        by_cases c12:((((aD l0 mV).f0).toList)==(((aD l0 bL).f0).toList)&&(((aD l0 mV).f1)==((aD l0 bL).f1)&&((((aD l0 mV).f2).toList)==(((aD l0 bL).f2).toList)&&((((aD l0 mV).f3).toList)==(((aD l0 bL).f3).toList)&&((((aD l0 mV).f4).toList)==(((aD l0 bL).f4).toList))))))=true
        ·rw [if_pos c12] at H
         have xN:((((aD l0 mV).f0).toList)==(((aD l0 bL).f0).toList)&&(((aD l0 mV).f1)==((aD l0 bL).f1)&&((((aD l0 mV).f2).toList)==(((aD l0 bL).f2).toList)&&((((aD l0 mV).f3).toList)==(((aD l0 bL).f3).toList)&&((((aD l0 mV).f4).toList)==(((aD l0 bL).f4).toList))))))=true:=c12
         (have OL:decide ((((aD l0 mV).f0).toList)=(((aD l0 bL).f0).toList)&&(((aD l0 mV).f1)==((aD l0 bL).f1)&&((((aD l0 mV).f2).toList)==(((aD l0 bL).f2).toList)&&((((aD l0 mV).f3).toList)==(((aD l0 bL).f3).toList)&&((((aD l0 mV).f4).toList)==(((aD l0 bL).f4).toList))))))=true:=by simpa using c12)
         (have aH1:((((aD l0 mV).f0).toList)==(((aD l0 bL).f0).toList)&&(((aD l0 mV).f1)==((aD l0 bL).f1)&&((((aD l0 mV).f2).toList)==(((aD l0 bL).f2).toList)&&((((aD l0 mV).f3).toList)==(((aD l0 bL).f3).toList)&&((((aD l0 mV).f4).toList)==(((aD l0 bL).f4).toList))))))=true:=by simpa using c12)
         clear c12;obtain rfl:=si H
         obtain⟨aMj,e343,QC,QD,QE,QF,QG⟩:=sH lX.out mV dt dt
         obtain rfl:aDI=aMj:=(by injection e343)
         replace QC:=kp HB.out QC;replace QD:=kp HB.out QD;replace QE:=kp HB.out QE;replace QF:=kp HB.out QF;replace QG:=kp HB.out QG;have bJD:=e0 mV;have bKm:=e1 mV (l0.length:Int)
         obtain⟨aMk,e344,QH,QI,QJ,QK,QL⟩:=sH lX.out bL dt dt
         obtain rfl:aDI=aMk:=(by injection e344)
         replace QH:=kp HB.out QH;replace QI:=kp HB.out QI;replace QJ:=kp HB.out QJ;replace QK:=kp HB.out QK;replace QL:=kp HB.out QL;have bJE:=e0 bL;have bKn:=e1 bL (l0.length:Int);go_wp2
         repeat(go_quiet (fail);try go_wp2)
         go_ret
         exact⟨nD,gP⟩
        rw [if_neg c12] at H
        have xN:((((aD l0 mV).f0).toList)==(((aD l0 bL).f0).toList)&&(((aD l0 mV).f1)==((aD l0 bL).f1)&&((((aD l0 mV).f2).toList)==(((aD l0 bL).f2).toList)&&((((aD l0 mV).f3).toList)==(((aD l0 bL).f3).toList)&&((((aD l0 mV).f4).toList)==(((aD l0 bL).f4).toList))))))=false:=by simpa using c12
        (have OL:decide ((((aD l0 mV).f0).toList)=(((aD l0 bL).f0).toList)&&(((aD l0 mV).f1)==((aD l0 bL).f1)&&((((aD l0 mV).f2).toList)==(((aD l0 bL).f2).toList)&&((((aD l0 mV).f3).toList)==(((aD l0 bL).f3).toList)&&((((aD l0 mV).f4).toList)==(((aD l0 bL).f4).toList))))))=false:=by simpa using c12)
        (have aH1:((((aD l0 mV).f0).toList)==(((aD l0 bL).f0).toList)&&(((aD l0 mV).f1)==((aD l0 bL).f1)&&((((aD l0 mV).f2).toList)==(((aD l0 bL).f2).toList)&&((((aD l0 mV).f3).toList)==(((aD l0 bL).f3).toList)&&((((aD l0 mV).f4).toList)==(((aD l0 bL).f4).toList))))))=false:=by simpa using c12)
        (have a8E: ¬((((aD l0 mV).f0).toList)=(((aD l0 bL).f0).toList)&&(((aD l0 mV).f1)==((aD l0 bL).f1)&&((((aD l0 mV).f2).toList)==(((aD l0 bL).f2).toList)&&((((aD l0 mV).f3).toList)==(((aD l0 bL).f3).toList)&&((((aD l0 mV).f4).toList)==(((aD l0 bL).f4).toList)))))):=by simpa using c12)
        clear c12
        have H' :=am H
        clear H
        obtain⟨aMj,e343,QC,QD,QE,QF,QG⟩:=sH lX.out mV dt dt
        obtain rfl:aDI=aMj:=(by injection e343)
        replace QC:=kp HB.out QC;replace QD:=kp HB.out QD;replace QE:=kp HB.out QE;replace QF:=kp HB.out QF;replace QG:=kp HB.out QG;have bJD:=e0 mV;have bKm:=e1 mV (l0.length:Int)
        obtain⟨aMk,e344,QH,QI,QJ,QK,QL⟩:=sH lX.out bL dt dt
        obtain rfl:aDI=aMk:=(by injection e344)
        replace QH:=kp HB.out QH;replace QI:=kp HB.out QI;replace QJ:=kp HB.out QJ;replace QK:=kp HB.out QK;replace QL:=kp HB.out QL;have bJE:=e0 bL;have bKn:=e1 bL (l0.length:Int);go_wp2
        repeat(go_quiet (fail);try go_wp2)
        go_roundg k2
        case measure=>have:=lM.out;have:=uP.out;omega
        case rel=>exact⟨(wrap64 (mV+1)),sq,H',⟨OH⟩,⟨gP⟩⟩
       have H' :=am H
       clear H;go_wp2
       go_roundg k2
       case measure=>have:=lM.out;have:=uP.out;omega
       case rel=>exact⟨(wrap64 (bL+1)),sq,H',⟨OH⟩,⟨gP⟩⟩
    obtain rfl:=si H
    obtain⟨aDI,aZL,aI9,aJa,aJb,aJc,aJd⟩:=kp5 HB (sH lX.out bL dt dt);cases aZL;have bA7:=e0 bL;have bBe:=e1 bL (l0.length:Int)
    go_wp2_with (go_at_call 69;(with_reducible refine(iJ.calls k1 ((aD l0 bL).f0) ((aD l0 bL).f1) ((aD l0 bL).f2) ((aD l0 bL).f3) ((aD l0 bL).f4) false _ A4.out).mono ?_);rintro e w13 ⟨rfl,hb⟩;replace HB:=o8 hb;clear hb)
    go_ret
    exact⟨nD,gP⟩
   obtain rfl:=si H;go_wp2
   go_ret
   exact⟨nD,gP⟩
def dX.l0:Nat→Int→List (kH)→List (sV)→Option (Bool)
 |0,_,_,_=>none
 |k+1,x3,aDm,BC=>if x3<(BC.length:Int)then(if 0≤x3 then((iK.f k ((aX BC x3).f0) ((aX BC x3).f1)).bind fun bBE=>(if bBE=true then(if x3>0 then(if 0≤(wrap64 (x3-1))then(if(wrap64 (x3-1))<(BC.length:Int)then(if((Op.bytesLess (((aX BC (wrap64 (x3-1))).f0).toList) (((aX BC x3).f0).toList))=true)then(dX.l0 k (wrap64 (x3+1)) aDm BC)else(some false))else(none))else(none))else(dX.l0 k (wrap64 (x3+1)) aDm BC))else(some false)))else(none))else((eO.f k aDm).bind fun bBF=>(if bBF=true then(some (decide ((BC.length:Int)≤24)))else(some false)))
def dX.f (k:Nat) (fI:List (kH)) (bV:List (sV)):Option (Bool):=dX.l0 k 0 fI bV
def dX.T4:Bool×List (List Nat×List Nat):=(true,[([],[]),([0],[0]),([],[]),([1,2],[1,2]),([3],[3]),([4],[4]),([5],[5]),([6,5],[6]),([7],[7]),([8,7],[7,8]),([9,7,7],[7,9]),([10],[10]),([11,10],[10,11]),([10],[10]),([13,10],[10,13]),([12,14,10],[10,12,14]),([15,10],[10,15]),([16,10],[10,16]),([10],[10]),([18,10],[10,18]),([10],[10]),([19,20,10],[10,19,20]),([21,10],[10,21]),([22,10],[10,22]),([17,23,10],[10,17,23]),([10,24,7],[7,10,24]),([7,25],[7,25])])
def dX.B4:List Nat:=[0,1,0,7,15,31,63,127,255,511,1023,2047,4095,2047,10239,32767,65535,131071,2047,264191,2047,1837055,3934207,8128511,16777215,33554431,67108863]
theorem dX.J7:nX .any (opsOf Tryz.f8 4)=dX.T4:=by kernel_rfl
theorem dX.yN:jA dX.T4.2 dX.B4=true:=by kernel_rfl
theorem dX.calls (k:Nat) (mH:Option Addr) (mI:Nat) (fI:List (kH)) (nQ:Option Addr) (lH:Nat) (bV:List (sV)) (r:Bool) (w:World) (uI:Kd.C yG w mH fI.length fI) (uH:fI.length≤mI) (rW:Kd.C NK w nQ bV.length bV) (rV:bV.length≤lH) (h:dX.f k fI bV=some r):
  Calls Tryz.prog 8 #[.agg #[.slice mH fI.length mI, .slice nQ bV.length lH]] w fun e w' =>e= .returned (.bool r)∧Below w.heap.size w w' :=by
 have U7:=Tryz.underlying26;have aCt:=Tryz.underlying56;have p9:=am uI;have pY:=am uH;clear uI uH;have nE:=am rW;have sN:=am rV;clear rW rV;have HB:=am (Below.refl w.heap.size w)
 have H:=h;unfold dX.f at H
 clear h
 have H' :=am H
 clear H;go_enter Tryz.func8,Tryz.ntmps8
 go_wp2_with (refine gd 1 ?_;((refine qI (by rfl) ?_;dsimp only));refine bx 1 (cs:= #[.slice mH fI.length mI, .slice nQ bV.length lH]) (t:=26) ?_;intro JO hg w2 bT hb;have kC:=am (bT);have bMx:=am ((kI:w.heap.size≤JO));have EU:=am ((kI:w.heap.size≤JO));replace HB:=o8 hb;clear hb bT hg)
 go_loopg [3] k (fun kq v3 w' => ∃(bL:Int),v3= .int .i64 bL∧aC (dX.l0 kq bL fI bV=some r)∧aC (kq≤k)∧aC (w'.heap[JO]?=some (.cells #[(.slice mH fI.length mI),(.slice nQ bV.length lH)] 26 (0,0)))∧aC (Below w.heap.size w w'))
 case atStart=>exact⟨(0),sq,H',⟨Nat.le_refl _⟩,⟨bq kC.out⟩,⟨cK EU.out⟩⟩
 case round=>
  clear H';obtain⟨bL,rfl,HA,lM,kC,HB⟩:=hrel
  cases gk with
  |zero=>exact absurd HA.out (by simp [dX.l0])
  |succ k1=>
   have H:=HA.out;clear HA;simp only [dX.l0] at H
   replace H:=iv H;rcases H with ⟨oG,H⟩|⟨oG,H⟩
   ·replace H:=it H;obtain⟨qZ,H⟩:=H;replace H:=ba H;obtain⟨bBE,A5,H⟩:=H
    replace H:=ib H;rcases H with ⟨rfl,H⟩|⟨rfl,H⟩
    ·by_cases c7:bL>0
     ·rw [if_pos c7] at H;have wR:=decide_eq_true c7;clear c7;obtain⟨xJ,aEI⟩: ∃j_:Int,(wrap64 (bL-1))=j_:=⟨_,rfl⟩
      replace H:(if 0≤(xJ)then(if(xJ)<(bV.length:Int)then(if((Op.bytesLess (((aX bV (xJ)).f0).toList) (((aX bV bL).f0).toList))=true)then(dX.l0 k1 (wrap64 (bL+1)) fI bV)else(some false))else(none))else(none))=some r:=aME
      have aYg:(IntKind.i64.wrap (bL-1))=xJ:=(iZ _).trans aEI
      replace H:=it H;obtain⟨wE,H⟩:=H;replace H:=it H;obtain⟨BV,H⟩:=H
      by_cases c11:((Op.bytesLess (((aX bV (xJ)).f0).toList) (((aX bV bL).f0).toList))=true)
      ·rw [if_pos c11] at H
       have zG:(Op.bytesLess (((aX bV (xJ)).f0).toList) (((aX bV bL).f0).toList))=true:=c11
       clear c11
       have H' :=am H
       clear H;have⟨_,_,_,_⟩:=oP kC.out
       try go_wp2
       replace kC:=am (bF kC.out);replace HB:=am (bH HB.out)
       obtain⟨nV,e346,oV,oW⟩:=vH nE.out bL dt dt;have xB:=oW;have xA:=oV;cases e346;replace oV:=kp HB.out oV;replace oW:=kp HB.out oW;have a2q:=e0 bL;have a2z:=e1 bL (bV.length:Int)
       obtain⟨aMl,aZM,zV,zW⟩:=vH nE.out (xJ) dt dt;have PS:=zW;have PR:=zV
       obtain rfl:nV=aMl:=(by injection aZM)
       replace zV:=kp HB.out zV;replace zW:=kp HB.out zW;have bJF:=e0 (xJ);have bKo:=e1 (xJ) (bV.length:Int)
       obtain⟨aMm,aZN,zX,zY⟩:=vH nE.out bL dt dt;have PU:=zY;have PT:=zX
       obtain rfl:nV=aMm:=(by injection aZN)
       replace zX:=kp HB.out zX;replace zY:=kp HB.out zY;have bJG:=e0 bL;have bKp:=e1 bL (bV.length:Int)
       refine st (n:=27) (S:=fun w' =>w'.cell? ⟨JO,0,none⟩=some (.slice mH fI.length mI)∧w'.cell? ⟨JO,1,none⟩=some (.slice (some nV) bV.length lH)∧w'.cell? (nV.add ((bL).toNat*2))=some (.string ((aX bV bL).f0))∧w'.cell? ⟨(nV.add ((bL).toNat*2)).block,(nV.add ((bL).toNat*2)).off+1,none⟩=some (.string ((aX bV bL).f1))∧w'.cell? (nV.add (((xJ)).toNat*2))=some (.string ((aX bV (xJ)).f0))∧w'.cell? ⟨(nV.add (((xJ)).toNat*2)).block,(nV.add (((xJ)).toNat*2)).off+1,none⟩=some (.string ((aX bV (xJ)).f1))∧w'.cell? (nV.add ((bL).toNat*2))=some (.string ((aX bV bL).f0))∧w'.cell? ⟨(nV.add ((bL).toNat*2)).block,(nV.add ((bL).toNat*2)).off+1,none⟩=some (.string ((aX bV bL).f1))) (ds:=[]) ⟨bd kC.out 0,bd kC.out 1,(kp HB.out xA),(kp HB.out xB),(kp HB.out PR),(kp HB.out PS),(kp HB.out PT),(kp HB.out PU)⟩ (fun hHeld=>?_);refine dW dX.J7 dX.yN (fun kQ rT=>?_)
       generalize wr.drew=w13 at kC HB oV oW zV zW zX zY hHeld⊢;refine pu 0 11 ?_;refine pu 2 13 ?_
       refine rM (i:=1) (N:=some 12) (v:=?_) (a' :=?_) #[true,true,true,false,false,false,false,false,false,false,false,false,false,false,false,false,false,false,false,false,false,false,false,false,false,false,false] rfl rfl (kT kQ.out rT.out (by kernel_rfl)) (fun _ _ _ h=>h) (Or.inl ⟨by rfl,?_⟩) hHeld ?_ ?_
       rotate_left
       ·rintro w' ⟨s0,s1,s2,s3,s4,s5,s6,s7⟩
        go_simp
        with_reducible rfl
       rotate_left
       ·simp only [Act.put,List.setIfInBounds_toArray,List.set_cons_zero,List.set_cons_succ,iZ,rC]
        rfl
       refine pu 3 14 ?_
       refine rM (i:=4) (N:=some 15) (v:=?_) (a' :=?_) #[true,true,true,true,true,false,false,false,false,false,false,false,false,false,false,false,false,false,false,false,false,false,false,false,false,false,false] rfl rfl (kT kQ.out rT.out (by kernel_rfl)) (fun _ _ _ h=>h) (Or.inl ⟨by rfl,?_⟩) hHeld ?_ ?_
       rotate_left
       ·rintro w' ⟨s0,s1,s2,s3,s4,s5,s6,s7⟩
        go_simp
        with_reducible rfl
       rotate_left
       ·simp only [Act.put,List.setIfInBounds_toArray,List.set_cons_zero,List.set_cons_succ,iZ,rC]
        rfl
       refine qF 5 16 (fun K hK=>?_)
       refine EI Tryz.func28 #[.agg #[.string ((aX bV bL).f0), .string ((aX bV bL).f1)]] ?_
       with_reducible refine(iK.calls k1 ((aX bV bL).f0) ((aX bV bL).f1) true _ A5.out).mono ?_
       rintro e w14 ⟨rfl,hb⟩;refine⟨_,rfl,?_⟩;replace kC:=kb kC hb;replace HB:=st1 EU hb;clear hb;refine hK.out _ _ ⟨bd kC.out 0,bd kC.out 1,(kp HB.out xA),(kp HB.out xB),(kp HB.out PR),(kp HB.out PS),(kp HB.out PT),(kp HB.out PU)⟩ (fun hHeld=>?_);clear hK K;refine nm 16 ?_;refine pu 6 17 ?_;refine pu 7 18 ?_;refine pu 8 19 ?_;refine pu 9 20 ?_;refine pu 10 21 ?_;refine pu 11 22 ?_;refine pu 13 24 ?_;refine pu 14 25 ?_;refine pu 18 29 ?_;refine pu 20 31 ?_
       refine rM (i:=12) (N:=some 23) (v:=?_) (a' :=?_) #[true,true,true,true,true,true,true,true,true,true,true,true,true,true,true,false,false,false,true,false,true,false,false,false,false,false,false] rfl rfl (kT kQ.out rT.out (by kernel_rfl)) (fun _ _ _ h=>h) (Or.inl ⟨by rfl,?_⟩) hHeld ?_ ?_
       rotate_left
       ·rintro w' ⟨s0,s1,s2,s3,s4,s5,s6,s7⟩
        go_simp
        with_reducible rfl
       rotate_left
       ·simp only [Act.put,List.setIfInBounds_toArray,List.set_cons_zero,List.set_cons_succ,iZ,rC]
        rfl
       refine pu 15 26 ?_;refine pu 16 27 ?_
       refine rM (i:=17) (N:=some 28) (v:=?_) (a' :=?_) #[true,true,true,true,true,true,true,true,true,true,true,true,true,true,true,true,true,true,true,false,true,false,false,false,false,false,false] rfl rfl (kT kQ.out rT.out (by kernel_rfl)) (fun _ _ _ h=>h) (Or.inl ⟨by rfl,?_⟩) hHeld ?_ ?_
       rotate_left
       ·rintro w' ⟨s0,s1,s2,s3,s4,s5,s6,s7⟩
        go_simp
        with_reducible rfl
       rotate_left
       ·simp only [Act.put,List.setIfInBounds_toArray,List.set_cons_zero,List.set_cons_succ,iZ,rC]
        rfl
       refine rM (i:=19) (N:=some 30) (v:=?_) (a' :=?_) #[true,true,true,true,true,true,true,true,true,true,true,true,true,true,true,true,true,true,true,true,true,false,false,false,false,false,false] rfl rfl (kT kQ.out rT.out (by kernel_rfl)) (fun _ _ _ h=>h) (Or.inl ⟨by rfl,?_⟩) hHeld ?_ ?_
       rotate_left
       ·rintro w' ⟨s0,s1,s2,s3,s4,s5,s6,s7⟩
        go_simp
        with_reducible rfl
       rotate_left
       ·simp only [Act.put,List.setIfInBounds_toArray,List.set_cons_zero,List.set_cons_succ,iZ,rC]
        rfl
       refine pu 21 32 ?_;refine pu 22 33 ?_
       refine rM (i:=23) (N:=some 34) (v:=?_) (a' :=?_) #[true,true,true,true,true,true,true,true,true,true,true,true,true,true,true,true,true,true,true,true,true,true,true,true,false,false,false] rfl rfl (kT kQ.out rT.out (by kernel_rfl)) (fun _ _ _ h=>h) (Or.inl ⟨by rfl,?_⟩) hHeld ?_ ?_
       rotate_left
       ·rintro w' ⟨s0,s1,s2,s3,s4,s5,s6,s7⟩
        go_simp
        with_reducible rfl
       rotate_left
       ·simp only [Act.put,List.setIfInBounds_toArray,List.set_cons_zero,List.set_cons_succ,iZ,rC]
        rfl
       refine pu 24 35 ?_;refine pu 25 36 ?_;refine pu 26 37 ?_
       refine kD (fQ kQ.out (by kernel_rfl)) ?_
       try go_wp2
       go_roundg k1
       case measure=>have:=lM.out;omega
       case rel=>exact⟨(wrap64 (bL+1)),sq,H',⟨rO⟩,⟨bq kC.out⟩,⟨cK EU.out⟩⟩
      rw [if_neg c11] at H
      have zG:(Op.bytesLess (((aX bV (xJ)).f0).toList) (((aX bV bL).f0).toList))=false:=by simpa using c11
      clear c11;obtain rfl:=si H;have⟨_,_,_,_⟩:=oP kC.out
      try go_wp2
      replace kC:=am (bF kC.out);replace HB:=am (bH HB.out)
      obtain⟨nV,e346,oV,oW⟩:=vH nE.out bL dt dt;have xB:=oW;have xA:=oV;cases e346;replace oV:=kp HB.out oV;replace oW:=kp HB.out oW;have a2q:=e0 bL;have a2z:=e1 bL (bV.length:Int)
      obtain⟨aMl,aZM,zV,zW⟩:=vH nE.out (xJ) dt dt;have PS:=zW;have PR:=zV
      obtain rfl:nV=aMl:=(by injection aZM)
      replace zV:=kp HB.out zV;replace zW:=kp HB.out zW;have bJF:=e0 (xJ);have bKo:=e1 (xJ) (bV.length:Int)
      obtain⟨aMm,aZN,zX,zY⟩:=vH nE.out bL dt dt;have PU:=zY;have PT:=zX
      obtain rfl:nV=aMm:=(by injection aZN)
      replace zX:=kp HB.out zX;replace zY:=kp HB.out zY;have bJG:=e0 bL;have bKp:=e1 bL (bV.length:Int)
      refine st (n:=27) (S:=fun w' =>w'.cell? ⟨JO,0,none⟩=some (.slice mH fI.length mI)∧w'.cell? ⟨JO,1,none⟩=some (.slice (some nV) bV.length lH)∧w'.cell? (nV.add ((bL).toNat*2))=some (.string ((aX bV bL).f0))∧w'.cell? ⟨(nV.add ((bL).toNat*2)).block,(nV.add ((bL).toNat*2)).off+1,none⟩=some (.string ((aX bV bL).f1))∧w'.cell? (nV.add (((xJ)).toNat*2))=some (.string ((aX bV (xJ)).f0))∧w'.cell? ⟨(nV.add (((xJ)).toNat*2)).block,(nV.add (((xJ)).toNat*2)).off+1,none⟩=some (.string ((aX bV (xJ)).f1))∧w'.cell? (nV.add ((bL).toNat*2))=some (.string ((aX bV bL).f0))∧w'.cell? ⟨(nV.add ((bL).toNat*2)).block,(nV.add ((bL).toNat*2)).off+1,none⟩=some (.string ((aX bV bL).f1))) (ds:=[]) ⟨bd kC.out 0,bd kC.out 1,(kp HB.out xA),(kp HB.out xB),(kp HB.out PR),(kp HB.out PS),(kp HB.out PT),(kp HB.out PU)⟩ (fun hHeld=>?_);refine dW dX.J7 dX.yN (fun kQ rT=>?_)
      generalize wr.drew=w16 at kC HB oV oW zV zW zX zY hHeld⊢;refine pu 0 11 ?_;refine pu 2 13 ?_
      refine rM (i:=1) (N:=some 12) (v:=?_) (a' :=?_) #[true,true,true,false,false,false,false,false,false,false,false,false,false,false,false,false,false,false,false,false,false,false,false,false,false,false,false] rfl rfl (kT kQ.out rT.out (by kernel_rfl)) (fun _ _ _ h=>h) (Or.inl ⟨by rfl,?_⟩) hHeld ?_ ?_
      rotate_left
      ·rintro w' ⟨s0,s1,s2,s3,s4,s5,s6,s7⟩
       go_simp
       with_reducible rfl
      rotate_left
      ·simp only [Act.put,List.setIfInBounds_toArray,List.set_cons_zero,List.set_cons_succ,iZ,rC]
       rfl
      refine pu 3 14 ?_
      refine rM (i:=4) (N:=some 15) (v:=?_) (a' :=?_) #[true,true,true,true,true,false,false,false,false,false,false,false,false,false,false,false,false,false,false,false,false,false,false,false,false,false,false] rfl rfl (kT kQ.out rT.out (by kernel_rfl)) (fun _ _ _ h=>h) (Or.inl ⟨by rfl,?_⟩) hHeld ?_ ?_
      rotate_left
      ·rintro w' ⟨s0,s1,s2,s3,s4,s5,s6,s7⟩
       go_simp
       with_reducible rfl
      rotate_left
      ·simp only [Act.put,List.setIfInBounds_toArray,List.set_cons_zero,List.set_cons_succ,iZ,rC]
       rfl
      refine qF 5 16 (fun K hK=>?_)
      refine EI Tryz.func28 #[.agg #[.string ((aX bV bL).f0), .string ((aX bV bL).f1)]] ?_
      with_reducible refine(iK.calls k1 ((aX bV bL).f0) ((aX bV bL).f1) true _ A5.out).mono ?_
      rintro e w17 ⟨rfl,hb⟩;refine⟨_,rfl,?_⟩;replace kC:=kb kC hb;replace HB:=st1 EU hb;clear hb;refine hK.out _ _ ⟨bd kC.out 0,bd kC.out 1,(kp HB.out xA),(kp HB.out xB),(kp HB.out PR),(kp HB.out PS),(kp HB.out PT),(kp HB.out PU)⟩ (fun hHeld=>?_);clear hK K;refine nm 16 ?_;refine pu 6 17 ?_;refine pu 7 18 ?_;refine pu 8 19 ?_;refine pu 9 20 ?_;refine pu 10 21 ?_;refine pu 11 22 ?_;refine pu 13 24 ?_;refine pu 14 25 ?_;refine pu 18 29 ?_;refine pu 20 31 ?_
      refine rM (i:=12) (N:=some 23) (v:=?_) (a' :=?_) #[true,true,true,true,true,true,true,true,true,true,true,true,true,true,true,false,false,false,true,false,true,false,false,false,false,false,false] rfl rfl (kT kQ.out rT.out (by kernel_rfl)) (fun _ _ _ h=>h) (Or.inl ⟨by rfl,?_⟩) hHeld ?_ ?_
      rotate_left
      ·rintro w' ⟨s0,s1,s2,s3,s4,s5,s6,s7⟩
       go_simp
       with_reducible rfl
      rotate_left
      ·simp only [Act.put,List.setIfInBounds_toArray,List.set_cons_zero,List.set_cons_succ,iZ,rC]
       rfl
      refine pu 15 26 ?_;refine pu 16 27 ?_
      refine rM (i:=17) (N:=some 28) (v:=?_) (a' :=?_) #[true,true,true,true,true,true,true,true,true,true,true,true,true,true,true,true,true,true,true,false,true,false,false,false,false,false,false] rfl rfl (kT kQ.out rT.out (by kernel_rfl)) (fun _ _ _ h=>h) (Or.inl ⟨by rfl,?_⟩) hHeld ?_ ?_
      rotate_left
      ·rintro w' ⟨s0,s1,s2,s3,s4,s5,s6,s7⟩
       go_simp
       with_reducible rfl
      rotate_left
      ·simp only [Act.put,List.setIfInBounds_toArray,List.set_cons_zero,List.set_cons_succ,iZ,rC]
       rfl
      refine rM (i:=19) (N:=some 30) (v:=?_) (a' :=?_) #[true,true,true,true,true,true,true,true,true,true,true,true,true,true,true,true,true,true,true,true,true,false,false,false,false,false,false] rfl rfl (kT kQ.out rT.out (by kernel_rfl)) (fun _ _ _ h=>h) (Or.inl ⟨by rfl,?_⟩) hHeld ?_ ?_
      rotate_left
      ·rintro w' ⟨s0,s1,s2,s3,s4,s5,s6,s7⟩
       go_simp
       with_reducible rfl
      rotate_left
      ·simp only [Act.put,List.setIfInBounds_toArray,List.set_cons_zero,List.set_cons_succ,iZ,rC]
       rfl
      refine pu 21 32 ?_;refine pu 22 33 ?_
      refine rM (i:=23) (N:=some 34) (v:=?_) (a' :=?_) #[true,true,true,true,true,true,true,true,true,true,true,true,true,true,true,true,true,true,true,true,true,true,true,true,false,false,false] rfl rfl (kT kQ.out rT.out (by kernel_rfl)) (fun _ _ _ h=>h) (Or.inl ⟨by rfl,?_⟩) hHeld ?_ ?_
      rotate_left
      ·rintro w' ⟨s0,s1,s2,s3,s4,s5,s6,s7⟩
       go_simp
       with_reducible rfl
      rotate_left
      ·simp only [Act.put,List.setIfInBounds_toArray,List.set_cons_zero,List.set_cons_succ,iZ,rC]
       rfl
      refine pu 24 35 ?_;refine pu 25 36 ?_;refine pu 26 37 ?_
      refine kD (fQ kQ.out (by kernel_rfl)) ?_
      try go_wp2
      go_ret
      exact⟨aZs,cK EU.out⟩
     rw [if_neg c7] at H;have wR:=decide_eq_false c7;clear c7
     have H' :=am H
     clear H;have⟨_,_,_,_⟩:=oP kC.out
     try go_wp2
     replace kC:=am (bF kC.out);replace HB:=am (bH HB.out)
     obtain⟨nV,e346,oV,oW⟩:=vH nE.out bL dt dt;have xB:=oW;have xA:=oV;cases e346;replace oV:=kp HB.out oV;replace oW:=kp HB.out oW;have a2q:=e0 bL;have a2z:=e1 bL (bV.length:Int)
     refine st (n:=27) (S:=fun w' =>w'.cell? ⟨JO,0,none⟩=some (.slice mH fI.length mI)∧w'.cell? ⟨JO,1,none⟩=some (.slice (some nV) bV.length lH)∧w'.cell? (nV.add ((bL).toNat*2))=some (.string ((aX bV bL).f0))∧w'.cell? ⟨(nV.add ((bL).toNat*2)).block,(nV.add ((bL).toNat*2)).off+1,none⟩=some (.string ((aX bV bL).f1))) (ds:=[]) ⟨bd kC.out 0,bd kC.out 1,(kp HB.out xA),(kp HB.out xB)⟩ (fun hHeld=>?_);refine dW dX.J7 dX.yN (fun kQ rT=>?_)
     generalize wr.drew=w19 at kC HB oV oW hHeld⊢;refine pu 0 11 ?_;refine pu 2 13 ?_;refine VG 1 12 hHeld ?_;refine pu 3 14 ?_;refine VG 4 15 hHeld ?_;refine qF 5 16 (fun K hK=>?_)
     refine EI Tryz.func28 #[.agg #[.string ((aX bV bL).f0), .string ((aX bV bL).f1)]] ?_
     with_reducible refine(iK.calls k1 ((aX bV bL).f0) ((aX bV bL).f1) true _ A5.out).mono ?_
     rintro e w20 ⟨rfl,hb⟩;refine⟨_,rfl,?_⟩;replace kC:=kb kC hb;replace HB:=st1 EU hb;clear hb;refine hK.out _ _ ⟨bd kC.out 0,bd kC.out 1,(kp HB.out xA),(kp HB.out xB)⟩ (fun hHeld=>?_);clear hK K;refine nm 16 ?_;refine pu 6 17 ?_;refine pu 7 18 ?_;refine pu 8 19 ?_;refine pu 9 20 ?_;refine pu 10 21 ?_;refine kF 11 22 ?_;refine kF 12 23 ?_;refine kF 13 24 ?_;refine kF 14 25 ?_;refine kF 15 26 ?_;refine kF 16 27 ?_;refine kF 17 28 ?_;refine kF 18 29 ?_;refine kF 19 30 ?_;refine kF 20 31 ?_;refine kF 21 32 ?_;refine kF 22 33 ?_;refine kF 23 34 ?_;refine kF 24 35 ?_;refine pu 25 36 ?_;refine pu 26 37 ?_
     refine kD (fQ kQ.out (by kernel_rfl)) ?_
     try go_wp2
     go_roundg k1
     case measure=>have:=lM.out;omega
     case rel=>exact⟨(wrap64 (bL+1)),sq,H',⟨rO⟩,⟨bq kC.out⟩,⟨cK EU.out⟩⟩
    obtain rfl:=si H;have⟨_,_,_,_⟩:=oP kC.out
    try go_wp2
    replace kC:=am (bF kC.out);replace HB:=am (bH HB.out)
    obtain⟨nV,e346,oV,oW⟩:=vH nE.out bL dt dt;have xB:=oW;have xA:=oV;cases e346;replace oV:=kp HB.out oV;replace oW:=kp HB.out oW;have a2q:=e0 bL;have a2z:=e1 bL (bV.length:Int)
    refine st (n:=27) (S:=fun w' =>w'.cell? ⟨JO,0,none⟩=some (.slice mH fI.length mI)∧w'.cell? ⟨JO,1,none⟩=some (.slice (some nV) bV.length lH)∧w'.cell? (nV.add ((bL).toNat*2))=some (.string ((aX bV bL).f0))∧w'.cell? ⟨(nV.add ((bL).toNat*2)).block,(nV.add ((bL).toNat*2)).off+1,none⟩=some (.string ((aX bV bL).f1))) (ds:=[]) ⟨bd kC.out 0,bd kC.out 1,(kp HB.out xA),(kp HB.out xB)⟩ (fun hHeld=>?_);refine dW dX.J7 dX.yN (fun kQ rT=>?_)
    generalize wr.drew=w22 at kC HB oV oW hHeld⊢;refine pu 0 11 ?_;refine pu 2 13 ?_;refine VG 1 12 hHeld ?_;refine pu 3 14 ?_;refine VG 4 15 hHeld ?_;refine qF 5 16 (fun K hK=>?_)
    refine EI Tryz.func28 #[.agg #[.string ((aX bV bL).f0), .string ((aX bV bL).f1)]] ?_
    with_reducible refine(iK.calls k1 ((aX bV bL).f0) ((aX bV bL).f1) false _ A5.out).mono ?_
    rintro e w23 ⟨rfl,hb⟩;refine⟨_,rfl,?_⟩;replace kC:=kb kC hb;replace HB:=st1 EU hb;clear hb;refine hK.out _ _ ⟨bd kC.out 0,bd kC.out 1,(kp HB.out xA),(kp HB.out xB)⟩ (fun hHeld=>?_);clear hK K;refine nm 16 ?_;refine pu 6 17 ?_;refine pu 7 18 ?_;refine kF 8 19 ?_;refine kF 9 20 ?_;refine kF 10 21 ?_;refine kF 11 22 ?_;refine kF 12 23 ?_;refine kF 13 24 ?_;refine kF 14 25 ?_;refine kF 15 26 ?_;refine kF 16 27 ?_;refine kF 17 28 ?_;refine kF 18 29 ?_;refine kF 19 30 ?_;refine kF 20 31 ?_;refine kF 21 32 ?_;refine kF 22 33 ?_;refine kF 23 34 ?_;refine kF 24 35 ?_;refine kF 25 36 ?_;refine pu 26 37 ?_
    refine kD (fQ kQ.out (by kernel_rfl)) ?_
    try go_wp2
    go_ret
    exact⟨nD,cK EU.out⟩
   replace H:=ba H;obtain⟨bBF,A24,H⟩:=H
   replace H:=ib H;rcases H with ⟨rfl,H⟩|⟨rfl,H⟩
   ·obtain rfl:=si H;have⟨_,_,_,_⟩:=oP kC.out
    go_wp2_with (refine gd 40 ?_;refine gv Tryz.func29 (eO.calls k1 _ _ fI true _ (cq (Kd.dV p9.out HB.out)) pY.out A24.out) ?_;intro w27 hb;replace kC:=kb kC hb;replace HB:=st1 EU hb;clear hb;have⟨_,_,_,_⟩:=oP kC.out)
    go_ret
    exact⟨nD,cK EU.out⟩
   obtain rfl:=si H;have⟨_,_,_,_⟩:=oP kC.out
   go_wp2_with (refine gd 40 ?_;refine gv Tryz.func29 (eO.calls k1 _ _ fI false _ (cq (Kd.dV p9.out HB.out)) pY.out A24.out) ?_;intro w30 hb;replace kC:=kb kC hb;replace HB:=st1 EU hb;clear hb)
   go_ret
   exact⟨nD,cK EU.out⟩
def mD.l0:Nat→ByteArray→ByteArray→Int→Option (Bool)
 |0,_,_,_=>none
 |k+1,x0,x1,x5=>if x5<(x0.size:Int)then(if 0≤x5 then(if x5≤(wrap64 (x5+1))then(if(wrap64 (x5+1))≤(x0.size:Int)then(if(x0.extract (x5:Int).toNat ((wrap64 (x5+1)):Int).toNat).toList=x1.toList then(some true)else(mD.l0 k x0 x1 (wrap64 (x5+1))))else(none))else(none))else(none))else(some false)
def mD.f (k:Nat) (a0:ByteArray) (a1:ByteArray):Option (Bool):=mD.l0 k a0 a1 0
theorem mD.calls (k:Nat) (a0:ByteArray) (a1:ByteArray) (r:Bool) (w:World) (h:mD.f k a0 a1=some r):
  Calls Tryz.prog 124 #[.string a0, .string a1] w fun e w' =>e= .returned (.bool r)∧iB w w' :=by
 have H:=h;unfold mD.f at H
 clear h
 have H' :=am H
 clear H;go_enter Tryz.func124,Tryz.ntmps124;go_wp2
 go_loopg [5] k (fun kq v5 w' => ∃(bI:Int),v5= .int .i64 bI∧aC (mD.l0 kq a0 a1 bI=some r)∧aC (kq≤k)∧iB w w')
 case atStart=>exact⟨(0),sq,H',⟨Nat.le_refl _⟩,dr⟩
 case round=>
  clear H';obtain⟨bI,rfl,HA,lM,⟨m1,rfl⟩⟩:=hrel
  cases gk with
  |zero=>exact absurd HA.out (by simp [mD.l0])
  |succ k1=>
   have H:=HA.out;clear HA;simp only [mD.l0] at H
   replace H:=iv H;rcases H with ⟨oG,H⟩|⟨oG,H⟩
   ·replace H:=ip H;obtain⟨c4,H⟩:=H;have qZ:=eq_true c4
    have XX:decide (0≤bI)=true:=decide_eq_true c4
    clear c4;replace H:=ip H;obtain⟨c5,H⟩:=H;have oL:=eq_true c5
    have JF:decide (bI≤(wrap64 (bI+1)))=true:=decide_eq_true c5
    replace H:=ip H;obtain⟨c6,H⟩:=H;have sW:=eq_true c6
    have aFF:decide ((wrap64 (bI+1))≤(a0.size:Int))=true:=decide_eq_true c6
    by_cases c7:(a0.extract (bI:Int).toNat ((wrap64 (bI+1)):Int).toNat).toList=a1.toList
    ·rw [if_pos c7] at H
     have wR:((a0.extract (bI:Int).toNat ((wrap64 (bI+1)):Int).toNat).toList==a1.toList)=true:=beq_iff_eq.mpr c7
     have aFG:((a0.extract (bI:Int).toNat ((wrap64 (bI+1)):Int).toNat).toList !=a1.toList)=false:=bne_eq_false_iff_eq.mpr c7
     clear c7;obtain rfl:=si H;go_wp2;go_ret
     exact⟨sq,dr⟩
    rw [if_neg c7] at H
    have wR:((a0.extract (bI:Int).toNat ((wrap64 (bI+1)):Int).toNat).toList==a1.toList)=false:=beq_eq_false_iff_ne.mpr c7
    have aFG:((a0.extract (bI:Int).toNat ((wrap64 (bI+1)):Int).toNat).toList !=a1.toList)=true:=bne_iff_ne.mpr c7
    have H' :=am H
    clear H;go_wp2
    go_roundg k1
    case measure=>have:=lM.out;omega
    case rel=>exact⟨(wrap64 (bI+1)),sq,H',⟨rO⟩,dr⟩
   obtain rfl:=si H;go_wp2;go_ret
   exact⟨sq,dr⟩
def wO.f (k:Nat) (iD:ByteArray) (iG:Bool) (jM:ByteArray) (kU:ByteArray) (l5:ByteArray) (a1:ByteArray):Option (ByteArray×Bool):=if iG=true then((mM.f a1 l5).bind fun bBG=>(if bBG=true then(if 0≤(jM.size:Int)then(if(jM.size:Int)≤(a1.size:Int)then(if kU.size+(a1.extract jM.size a1.size).size≤9223372036854775807 then((gZ.f k (kU++(a1.extract jM.size a1.size))).bind fun a2O=>(some (kU++(a1.extract jM.size a1.size),a2O)))else(none))else(none))else(none))else(some ((⟨#[]⟩:ByteArray),false))))else((o7.f a1 l5).bind fun bBH=>(if bBH=true then(if 0≤(wrap64 ((a1.size:Int)-(jM.size:Int)))then(if(wrap64 ((a1.size:Int)-(jM.size:Int)))≤(a1.size:Int)then(if(a1.extract 0 ((wrap64 ((a1.size:Int)-(jM.size:Int))):Int).toNat).size+kU.size≤9223372036854775807 then((gZ.f k ((a1.extract 0 ((wrap64 ((a1.size:Int)-(jM.size:Int))):Int).toNat)++kU)).bind fun a2P=>(some ((a1.extract 0 ((wrap64 ((a1.size:Int)-(jM.size:Int))):Int).toNat)++kU,a2P)))else(none))else(none))else(none))else(some ((⟨#[]⟩:ByteArray),false))))
theorem wO.calls (k:Nat) (iD:ByteArray) (iG:Bool) (jM:ByteArray) (kU:ByteArray) (l5:ByteArray) (a1:ByteArray) (r1:ByteArray) (r2:Bool) (w:World) (h:wO.f k iD iG jM kU l5 a1=some (r1,r2)):
  Calls Tryz.prog 125 #[.agg #[.string iD, .bool iG, .string jM, .string kU, .string l5], .string a1] w fun e w' =>e= .returned (.tuple #[.string r1, .bool r2])∧Below w.heap.size w w' :=by
 have U8:=Tryz.underlying87;have HB:=am (Below.refl w.heap.size w)
 have H:=h;unfold wO.f at H
 clear h
 replace H:=ib H;rcases H with ⟨rfl,H⟩|⟨rfl,H⟩
 ·replace H:=ba H;obtain⟨bBG,A4,H⟩:=H
  replace H:=ib H;rcases H with ⟨rfl,H⟩|⟨rfl,H⟩
  ·replace H:=ip H;obtain⟨c6,H⟩:=H;have sW:=eq_true c6
   have aFF:decide (0≤(jM.size:Int))=true:=decide_eq_true c6
   clear c6;replace H:=ip H;obtain⟨c7,H⟩:=H;have wR:=eq_true c7
   have bQ2:(jM.size≤a1.size)=True:=eq_true (by omega)
   have bQ1:decide (jM.size≤a1.size)=true:=decide_eq_true (by omega)
   have aFG:decide ((jM.size:Int)≤(a1.size:Int))=true:=decide_eq_true c7
   clear c7;replace H:=ip H;obtain⟨c8,H⟩:=H;have tK:=eq_true c8;have aNo:=c8
   simp at aNo
   have bGj:=eq_false (Nat.not_lt.2 aNo)
   try have bGi:(9223372036854775807<kU.size+(a1.size-jM.size))=False:=by
         have h_:=c8
         simp only [ByteArray.size_append,ByteArray.size_extract] at h_
         exact eq_false (by omega)
   have aEb:decide (kU.size+(a1.extract jM.size a1.size).size≤9223372036854775807)=true:=decide_eq_true c8
   have a9k:(9223372036854775807<kU.size+(a1.extract jM.size a1.size).size)=False:=eq_false (Nat.not_lt.2 c8)
   replace H:=ba H;obtain⟨a2O,A9,H⟩:=H
   simp only [Option.some.injEq,Prod.mk.injEq] at H
   obtain⟨rfl,rfl⟩:=H;go_enter Tryz.func125,Tryz.ntmps125
   go_wp2_with (first|(refine gd 2 ?_;refine bx 2 (cs:= #[.string iD, .bool true, .string jM, .string kU, .string l5]) (t:=87) ?_;intro JP hg w10 bT hb;have WV:=am (bT);have aLI:=am ((kI:w.heap.size≤JP));have XA:=am ((kI:w.heap.size≤JP));replace HB:=o8 hb;clear hb bT hg;have⟨_,_,_,_,_,_,_,_,_,_⟩:=yM WV.out)|(go_at_call 95;(with_reducible refine(mM.calls a1 l5 true _ A4.out).mono ?_);rintro e w' ⟨rfl,⟨nd,rfl⟩⟩))
   repeat(go_quiet (fail);try go_wp2_with (go_at_call 24;(with_reducible refine(gZ.calls k (kU++(a1.extract jM.size a1.size)) a2O _ A9.out).mono ?_);rintro e w' ⟨rfl,⟨nd,rfl⟩⟩))
   go_ret2
   exact⟨nD,cK XA.out⟩
  simp only [Option.some.injEq,Prod.mk.injEq] at H
  obtain⟨rfl,rfl⟩:=H;go_enter Tryz.func125,Tryz.ntmps125
  go_wp2_with (first|(refine gd 2 ?_;refine bx 2 (cs:= #[.string iD, .bool true, .string jM, .string kU, .string l5]) (t:=87) ?_;intro JP hg w12 bT hb;have WV:=am (bT);have aLI:=am ((kI:w.heap.size≤JP));have XA:=am ((kI:w.heap.size≤JP));replace HB:=o8 hb;clear hb bT hg;have⟨_,_,_,_,_,_,_,_,_,_⟩:=yM WV.out)|(go_at_call 95;(with_reducible refine(mM.calls a1 l5 false _ A4.out).mono ?_);rintro e w' ⟨rfl,⟨nd,rfl⟩⟩))
  go_ret2
  exact⟨nD,cK XA.out⟩
 replace H:=ba H;obtain⟨bBH,A14,H⟩:=H
 replace H:=ib H;rcases H with ⟨rfl,H⟩|⟨rfl,H⟩
 ·obtain⟨aEM,aX0⟩: ∃j_:Int,(wrap64 ((a1.size:Int)-(jM.size:Int)))=j_:=⟨_,rfl⟩
  rw [aX0] at H
  have bIM:(IntKind.i64.wrap ((a1.size:Int)-(jM.size:Int)))=aEM:=(iZ _).trans aX0
  replace H:=ip H;obtain⟨c17,H⟩:=H;have FE:=eq_true c17
  have XW:decide (0≤(aEM))=true:=decide_eq_true c17
  clear c17;replace H:=ip H;obtain⟨c18,H⟩:=H;have L8:=eq_true c18
  have aH4:decide ((aEM)≤(a1.size:Int))=true:=decide_eq_true c18
  clear c18;replace H:=ip H;obtain⟨c19,H⟩:=H;have H6:=eq_true c19;have aXf:=c19
  simp at aXf
  have bNL:=eq_false (Nat.not_lt.2 aXf)
  try have bNK:(9223372036854775807<((aEM):Int).toNat+kU.size)=False:=by
        have h_:=c19
        simp only [ByteArray.size_append,ByteArray.size_extract] at h_
        have g0_:((aEM))≤(a1.size:Int):=dt
        exact eq_false (by omega)
  have aH5:decide ((a1.extract 0 ((aEM):Int).toNat).size+kU.size≤9223372036854775807)=true:=decide_eq_true c19
  have bNJ:(9223372036854775807<(a1.extract 0 ((aEM):Int).toNat).size+kU.size)=False:=eq_false (Nat.not_lt.2 c19)
  replace H:=ba H;obtain⟨a2P,A20,H⟩:=H
  simp only [Option.some.injEq,Prod.mk.injEq] at H
  obtain⟨rfl,rfl⟩:=H;go_enter Tryz.func125,Tryz.ntmps125
  go_wp2_with (first|(refine gd 2 ?_;refine bx 2 (cs:= #[.string iD, .bool false, .string jM, .string kU, .string l5]) (t:=87) ?_;intro JP hg w21 bT hb;have WV:=am (bT);have aLI:=am ((kI:w.heap.size≤JP));have XA:=am ((kI:w.heap.size≤JP));replace HB:=o8 hb;clear hb bT hg;have⟨_,_,_,_,_,_,_,_,_,_⟩:=yM WV.out)|(go_at_call 96;(with_reducible refine(o7.calls a1 l5 true _ A14.out).mono ?_);rintro e w' ⟨rfl,⟨nd,rfl⟩⟩))
  repeat(go_quiet (fail);try go_wp2_with (go_at_call 24;(with_reducible refine(gZ.calls k ((a1.extract 0 ((aEM):Int).toNat)++kU) a2P _ A20.out).mono ?_);rintro e w' ⟨rfl,⟨nd,rfl⟩⟩))
  go_ret2
  exact⟨by rfl,cK XA.out⟩
 simp only [Option.some.injEq,Prod.mk.injEq] at H
 obtain⟨rfl,rfl⟩:=H;go_enter Tryz.func125,Tryz.ntmps125
 go_wp2_with (first|(refine gd 2 ?_;refine bx 2 (cs:= #[.string iD, .bool false, .string jM, .string kU, .string l5]) (t:=87) ?_;intro JP hg w23 bT hb;have WV:=am (bT);have aLI:=am ((kI:w.heap.size≤JP));have XA:=am ((kI:w.heap.size≤JP));replace HB:=o8 hb;clear hb bT hg;have⟨_,_,_,_,_,_,_,_,_,_⟩:=yM WV.out)|(go_at_call 96;(with_reducible refine(o7.calls a1 l5 false _ A14.out).mono ?_);rintro e w' ⟨rfl,⟨nd,rfl⟩⟩))
 go_ret2
 exact⟨nD,cK XA.out⟩
mutual
def dH.l0:Nat→List (kH)→ByteArray→Bool→List ByteArray→List ByteArray→Int→Option (List ByteArray)
 |0,_,_,_,_,_,_=>none
 |k+1,x0,x1,x2,x3,x9,zJ=>if zJ<(x0.length:Int)then(if 0≤zJ then(if(((aD x0 zJ).f1) !=x2)=true then(dH.j1 k x0 x1 x2 x3 x9 zJ true)else((mD.f k x1 ((aD x0 zJ).f0)).bind fun aU8=>(dH.j1 k x0 x1 x2 x3 x9 zJ (!aU8))))else(none))else(some x9)
def dH.j1:Nat→List (kH)→ByteArray→Bool→List ByteArray→List ByteArray→Int→Bool→Option (List ByteArray)
 |0,_,_,_,_,_,_,_=>none
 |k+1,x0,x1,x2,x3,x9,zJ,x39=>if x39=true then(dH.l0 k x0 x1 x2 x3 x9 (wrap64 (zJ+1)))else(dH.l1 k x0 x1 x2 x3 x9 zJ 0)
def dH.l1:Nat→List (kH)→ByteArray→Bool→List ByteArray→List ByteArray→Int→Int→Option (List ByteArray)
 |0,_,_,_,_,_,_,_=>none
 |k+1,x0,x1,x2,x3,x9,zJ,KX=>if KX<(x3.length:Int)then(if 0≤zJ then(if zJ<(x0.length:Int)then(if 0≤KX then((wO.f k ((aD x0 zJ).f0) ((aD x0 zJ).f1) ((aD x0 zJ).f2) ((aD x0 zJ).f3) ((aD x0 zJ).f4) (bP ByteArray.empty x3 KX)).bind fun aW6=>(if aW6.2=true then((dL.f k x9 aW6.1).bind fun aU9=>(dH.l1 k x0 x1 x2 x3 aU9 zJ (wrap64 (KX+1))))else(dH.l1 k x0 x1 x2 x3 x9 zJ (wrap64 (KX+1)))))else(none))else(none))else(none))else(dH.l0 k x0 x1 x2 x3 x9 (wrap64 (zJ+1)))
end
def dH.f (k:Nat) (l0:List (kH)) (a1:ByteArray) (a2:Bool) (l3:List ByteArray):Option (List ByteArray):=(some (([]:List ByteArray):List ByteArray)).bind fun aRD=>(if aRD.length+l3.length<8796093022208 then(dH.l0 k l0 a1 a2 l3 (aRD++l3) 0)else(none))
def dH.T9:Bool×List (List Nat×List Nat):=(true,[([],[]),([],[]),([0,1],[0,1]),([2],[2]),([],[]),([],[]),([4,5],[4,5]),([6],[6]),([3,7],[3,7]),([8],[8]),([9],[9]),([9],[9]),([10,8,0,1,2,3,4,5,6,7,8,9,10],[10]),([11,12,0,1,2,3,4,5,6,7,8,9,10,11,12],[11])])
def dH.B9:List Nat:=[0,0,3,7,0,0,48,112,255,511,1023,1023,2047,8191]
theorem dH.aVv:nX .any (opsOf Tryz.f93 9)=dH.T9:=by kernel_rfl
theorem dH.aHR:jA dH.T9.2 dH.B9=true:=by kernel_rfl
theorem dH.calls (k:Nat) (A0:Option Addr) (c0:Nat) (l0:List (kH)) (a1:ByteArray) (a2:Bool) (A3:Option Addr) (c3:Nat) (l3:List ByteArray) (r:List ByteArray) (w:World) (hr0:Kd.C yG w A0 l0.length l0) (hc0:l0.length≤c0) (hr3:Kd.C Kd.string w A3 l3.length l3) (hc3:l3.length≤c3) (h:dH.f k l0 a1 a2 l3=some r):
  Calls Tryz.prog 93 #[.slice A0 l0.length c0, .string a1, .bool a2, .slice A3 l3.length c3] w fun e w' => ∃sQ:Value,e= .returned (sQ)∧Kd.V Kd.string 9 w' w.heap.size (fun k_=>(w.heap.size≤k_)) sQ r∧Below w.heap.size w w' :=by
 have U8:=Tryz.underlying87;have lX:=am hr0;have vX:=am hc0;clear hr0 hc0;have HR3:=am hr3;have FZ:=am hc3;clear hr3 hc3;have HB:=am (Below.refl w.heap.size w)
 have H:=h;unfold dH.f at H
 clear h;obtain⟨aRD,aOZ⟩: ∃y_:List ByteArray,y_=(([]:List ByteArray)):=⟨_,rfl⟩
 replace H:=bm H;rw [←aOZ] at H
 have a6l:=am aOZ;clear aOZ
 replace H:=ip H;obtain⟨c5,H⟩:=H;have bFH:=am c5;clear c5;obtain⟨bLY,aO0⟩: ∃y_:List ByteArray,y_=(aRD++l3):=⟨_,rfl⟩
 rw [←aO0] at H
 have a6m:=am aO0;clear aO0
 have H' :=am H
 clear H;go_enter Tryz.func93,Tryz.ntmps93
 go_wp2_with (first|(refine gd 14 ?_;refine Kd.mJ Kd.string _ 9 ?hg (N:=14) ?hd (xs:=([]:List ByteArray)) (inner:=[]) (ok:=fun _=>True) (mK:=fun _=>True) ?hr ?hp (fun _ hk=>hk) trivial (Below.refl _ _) (Nat.le_refl _) (by simp) ?_;(case hd=>rfl);(case hg=>rfl);(case hr=>(go_simp;done));(case hp=>exact(dQ.none _ _));intro bLn w6 U6 hb lL dP;clear lL dP;(rw [←a6l.out] at U6);have aV3:=am (Kd.dZ (Kd.yY (M:=fun k_=>(w.heap.size≤k_)) U6 (aH gP) (fun k_ h_=>h_)) (aH gP));replace HB:=o8 hb;clear hb U6)|((with_reducible refine gL (b:= .append) (xs:= #[.tmp 14, .tmp 15]) rfl ?_);at_builtin;refine Kd.yD Kd.string (w0:=w) w.heap.size rfl (.tmp 14) (.tmp 15) 36 9 (.string ⟨#[]⟩) 16 rfl Tryz.underlying36 zI rfl (by decide) (by omega) bLn aRD l3 _ _ _ (fun k_=>(w.heap.size≤k_)) (fun _=>False) rfl rfl ?aO ?aR (fun _ _ h=>h) (fun _ h=>h.elim) ?aF ?aB ?aS ?aL ?_;(case aR=>exact cq (Kd.dV HR3.out HB.out));(case aB=>exact gP);(case aF=>exact(fun k_ hk=>(Nat.le_trans (aH gP) hk)));(case aO=>exact(rq (Kd.bA aV3.out (fun _ hk=>hk.1))));(case aS=>exact(aH gP));(case aL=>have:=bFH.out;omega);intro bTd w8 ho hb hg hat;rw [←a6m.out] at ho;replace HB:=am (hb);have a4z:=am (ho);clear aV3;clear ho hb hg hat))
 go_loopg [9,10] k (fun kq v9 v10 w' => ∃(iO:List ByteArray) (eB:Int),v10= .int .i64 eB∧aC (dH.l0 kq l0 a1 a2 l3 iO eB=some r)∧aC (kq≤k)∧aC (Kd.V Kd.string 9 w' w.heap.size (fun k_=>(w.heap.size≤k_)) v9 iO)∧aC (Below w.heap.size w w'))
 case atStart=>exact⟨(bLY),(0),sq,H',⟨Nat.le_refl _⟩,⟨Kd.R_V (rq a4z.out)⟩,⟨gP⟩⟩
 case round=>
  clear H';obtain⟨iO,eB,rfl,HA,lM,BO,HB⟩:=hrel
  cases gk with
  |zero=>exact absurd HA.out (by simp [dH.l0])
  |succ k1=>
   have H:=HA.out;clear HA;simp only [dH.l0] at H
   replace H:=iv H;rcases H with ⟨wE,H⟩|⟨wE,H⟩
   ·have aYK:=am H;clear H
    go_upto_region 5 with (fail)
    go_cut [39] (fun v39 wc=> ∃(kq:Nat) (aRz:Bool),v39= .bool aRz∧aC (dH.j1 kq l0 a1 a2 l3 iO eB aRz=some r)∧aC (kq≤k1)∧aC (Kd.V Kd.string 9 wc w.heap.size (fun k_=>(w.heap.size≤k_)) u9 iO)∧aC (Below w.heap.size w wc))
    case first=>
     have H:=aYK.out;clear aYK;replace H:=it H;obtain⟨zG,H⟩:=H
     (skip)
     by_cases c12:(((aD l0 eB).f1) !=a2)=true
     ·rw [if_pos c12] at H
      have xN:(((aD l0 eB).f1) !=a2)=true:=c12
      (have OL:decide (((aD l0 eB).f1)=a2)=false:=by simpa using c12)
      (have aH1:(((aD l0 eB).f1)==a2)=false:=by simpa using c12)
      (have a8E: ¬(((aD l0 eB).f1)=a2):=by simpa using c12)
      clear c12
      have H' :=am H
      clear H
      obtain⟨aWs,aZO,aCw,aCx,aCy,aCz,aCA⟩:=sH lX.out eB dt dt;cases aZO
      replace aCw:=kp HB.out aCw;replace aCx:=kp HB.out aCx;replace aCy:=kp HB.out aCy;replace aCz:=kp HB.out aCz;replace aCA:=kp HB.out aCA;have bJH:=e0 eB;have bKq:=e1 eB (l0.length:Int);go_wp2
      go_meet
      case rel=>exact⟨_,(true),sq,H',⟨OG⟩,⟨vq BO.out⟩,⟨gP⟩⟩
     rw [if_neg c12] at H
     have xN:(((aD l0 eB).f1) !=a2)=false:=by simpa using c12
     (have OL:decide (((aD l0 eB).f1)=a2)=true:=by simpa using c12)
     (have aH1:(((aD l0 eB).f1)==a2)=true:=by simpa using c12)
     clear c12;replace H:=ba H;obtain⟨aU8,A13,H⟩:=H
     have H' :=am H
     clear H
     obtain⟨aWs,aZO,aCw,aCx,aCy,aCz,aCA⟩:=kp5 HB (sH lX.out eB dt dt);cases aZO;have bJH:=e0 eB;have bKq:=e1 eB (l0.length:Int)
     obtain⟨a7y,bGJ,aJe,aJf,aJg,aJh,aJi⟩:=sH lX.out eB dt dt
     obtain rfl:aWs=a7y:=(by injection bGJ)
     replace aJe:=kp HB.out aJe;replace aJf:=kp HB.out aJf;replace aJg:=kp HB.out aJg;replace aJh:=kp HB.out aJh;replace aJi:=kp HB.out aJi;have bR2:=e0 eB;have bSv:=e1 eB (l0.length:Int)
     go_wp2_with (go_at_call 124;(with_reducible refine(mD.calls k1 a1 ((aD l0 eB).f0) aU8 _ A13.out).mono ?_);rintro e w' ⟨rfl,⟨nd,rfl⟩⟩)
     go_meet
     case rel=>exact⟨_,(!aU8),sq,H',⟨OG⟩,⟨vq BO.out⟩,⟨gP⟩⟩
    case rest=>
     clear aYK;clear wE;obtain⟨kq,aRz,rfl,HA,HJ9,BO,HB⟩:=hcut
     cases kq with
     |zero=>exact absurd HA.out (by simp [dH.j1])
     |succ kj9=>
      have H:=HA.out;clear HA;simp only [dH.j1] at H
      replace H:=ib H;rcases H with ⟨rfl,H⟩|⟨rfl,H⟩
      ·have H' :=am H
       clear H;go_wp2
       go_roundg kj9
       case measure=>have:=lM.out;have:=HJ9.out;omega
       case rel=>exact⟨(iO),(wrap64 (eB+1)),sq,H',⟨by have:=lM.out;have:=HJ9.out;omega⟩,⟨vq BO.out⟩,⟨gP⟩⟩
      have H' :=am H
      clear H;go_wp2
      go_loopg [9,11] kj9 (fun kq v9 v11 w' => ∃(NG:List ByteArray) (CW:Int),v11= .int .i64 CW∧aC (dH.l1 kq l0 a1 a2 l3 NG eB CW=some r)∧aC (kq≤kj9)∧aC (Kd.V Kd.string 9 w' w.heap.size (fun k_=>(w.heap.size≤k_)) v9 NG)∧aC (Below w.heap.size w w'))
      case atStart=>exact⟨(iO),(0),sq,H',⟨Nat.le_refl _⟩,⟨vq BO.out⟩,⟨gP⟩⟩
      case round=>
       clear H';obtain⟨NG,CW,rfl,HA,DJ,BO,HB⟩:=hrel
       cases gk with
       |zero=>exact absurd HA.out (by simp [dH.l1])
       |succ k3=>
        have H:=HA.out;clear HA;simp only [dH.l1] at H
        replace H:=iv H;rcases H with ⟨BX,H⟩|⟨BX,H⟩
        ·replace H:=it H;obtain⟨BZ,H⟩:=H;replace H:=it H;obtain⟨FE,H⟩:=H;replace H:=it H;obtain⟨L8,H⟩:=H;replace H:=ba H;obtain⟨⟨a2Q,bSQ⟩,A19,H⟩:=H;dsimp only at H
         replace H:=ib H;rcases H with ⟨rfl,H⟩|⟨rfl,H⟩
         ·replace H:=ba H;obtain⟨aU9,A21,H⟩:=H
          have H' :=am H
          clear H
          try go_wp2
          replace BO:=am (Kd.xX BO.out);replace HB:=am (bH HB.out)
          obtain⟨wX,aZP,zZ,z8,AA,AB,AJ⟩:=sH lX.out eB dt dt;have PZ:=AJ;have PY:=AB;have PX:=AA;have PW:=z8;have PV:=zZ;cases aZP;replace zZ:=kp HB.out zZ;replace z8:=kp HB.out z8;replace AA:=kp HB.out AA;replace AB:=kp HB.out AB;replace AJ:=kp HB.out AJ;have bJI:=e0 eB;have bKr:=e1 eB (l0.length:Int)
          obtain⟨aMn,aZQ,AL,bJJ,bKs⟩:=CY HR3.out CW;have P5:=AL;cases aZQ;replace AL:=kp HB.out AL
          refine st (n:=14) (S:=fun w' =>w'.cell? (wX.add ((eB).toNat*5))=some (.string ((aD l0 eB).f0))∧w'.cell? ⟨(wX.add ((eB).toNat*5)).block,(wX.add ((eB).toNat*5)).off+1,none⟩=some (.bool ((aD l0 eB).f1))∧w'.cell? ⟨(wX.add ((eB).toNat*5)).block,(wX.add ((eB).toNat*5)).off+2,none⟩=some (.string ((aD l0 eB).f2))∧w'.cell? ⟨(wX.add ((eB).toNat*5)).block,(wX.add ((eB).toNat*5)).off+3,none⟩=some (.string ((aD l0 eB).f3))∧w'.cell? ⟨(wX.add ((eB).toNat*5)).block,(wX.add ((eB).toNat*5)).off+4,none⟩=some (.string ((aD l0 eB).f4))∧w'.cell? (aMn.add (CW).toNat)=some (.string (bP ByteArray.empty l3 CW))) (ds:=[]) ⟨(kp HB.out PV),(kp HB.out PW),(kp HB.out PX),(kp HB.out PY),(kp HB.out PZ),(kp HB.out P5)⟩ (fun hHeld=>?_);refine dW dH.aVv dH.aHR (fun kQ rT=>?_)
          generalize wr.drew=w22 at BO HB zZ z8 AA AB AJ AL hHeld⊢;refine pu 0 47 ?_;refine pu 1 48 ?_;refine pu 2 49 ?_;refine pu 4 51 ?_;refine pu 5 52 ?_;refine pu 6 53 ?_;refine tk6 3 50 hHeld ?_;refine tk6 7 54 hHeld ?_;refine qF 8 55 (fun K hK=>?_)
          refine EI Tryz.func125 #[.agg #[.string ((aD l0 eB).f0), .bool ((aD l0 eB).f1), .string ((aD l0 eB).f2), .string ((aD l0 eB).f3), .string ((aD l0 eB).f4)], .string (bP ByteArray.empty l3 CW)] ?_
          with_reducible refine(wO.calls k3 ((aD l0 eB).f0) ((aD l0 eB).f1) ((aD l0 eB).f2) ((aD l0 eB).f3) ((aD l0 eB).f4) (bP ByteArray.empty l3 CW) a2Q true _ A19.out).mono ?_
          rintro e w23 ⟨rfl,hb⟩;refine⟨_,rfl,?_⟩;replace BO:=am (Kd.qB (vq BO.out) hb);replace HB:=o8 hb;clear hb;refine hK.out _ _ ⟨(kp HB.out PV),(kp HB.out PW),(kp HB.out PX),(kp HB.out PY),(kp HB.out PZ),(kp HB.out P5)⟩ (fun hHeld=>?_);clear hK K;refine nm 55 ?_;refine pu 9 46 ?_;refine pu 10 56 ?_;refine pu 11 57 ?_;refine pu 12 12 ?_;refine pu 13 13 ?_
          refine kD (fQ kQ.out (by kernel_rfl)) ?_
          obtain⟨a3w,a9o,aND⟩:=Kd.nC BO.out;subst aND
          try go_wp2_with (refine gd 61 ?_;refine gx Tryz.func65 (dL.calls k3 (fun k_=>(w.heap.size≤k_)) _ _ NG a2Q aU9 _ BO.out A21.out) ?_;rintro bTe w25 ⟨ho0,hb⟩;replace BO:=am (Kd.qB (vq BO.out) hb);have a4A:=am (Kd.nZ (Kd.gJ (ok' :=fun k_=>(w.heap.size≤k_)) ho0 (fun k_ rQ=>Or.elim rQ (fun hs_=>hs_) (fun EK=>(Nat.le_trans (aH gP) EK)))) (aH gP));replace HB:=o8 hb;clear hb;clear ho0)
          go_roundg k3
          case measure=>have:=lM.out;have:=HJ9.out;have:=DJ.out;omega
          case rel=>exact⟨(aU9),(wrap64 (CW+1)),sq,H',⟨by have:=lM.out;have:=HJ9.out;have:=DJ.out;omega⟩,⟨vq a4A.out⟩,⟨gP⟩⟩
         have H' :=am H
         clear H
         try go_wp2
         replace BO:=am (Kd.xX BO.out);replace HB:=am (bH HB.out)
         obtain⟨wX,aZP,zZ,z8,AA,AB,AJ⟩:=sH lX.out eB dt dt;have PZ:=AJ;have PY:=AB;have PX:=AA;have PW:=z8;have PV:=zZ;cases aZP;replace zZ:=kp HB.out zZ;replace z8:=kp HB.out z8;replace AA:=kp HB.out AA;replace AB:=kp HB.out AB;replace AJ:=kp HB.out AJ;have bJI:=e0 eB;have bKr:=e1 eB (l0.length:Int)
         obtain⟨aMn,aZQ,AL,bJJ,bKs⟩:=CY HR3.out CW;have P5:=AL;cases aZQ;replace AL:=kp HB.out AL
         refine st (n:=14) (S:=fun w' =>w'.cell? (wX.add ((eB).toNat*5))=some (.string ((aD l0 eB).f0))∧w'.cell? ⟨(wX.add ((eB).toNat*5)).block,(wX.add ((eB).toNat*5)).off+1,none⟩=some (.bool ((aD l0 eB).f1))∧w'.cell? ⟨(wX.add ((eB).toNat*5)).block,(wX.add ((eB).toNat*5)).off+2,none⟩=some (.string ((aD l0 eB).f2))∧w'.cell? ⟨(wX.add ((eB).toNat*5)).block,(wX.add ((eB).toNat*5)).off+3,none⟩=some (.string ((aD l0 eB).f3))∧w'.cell? ⟨(wX.add ((eB).toNat*5)).block,(wX.add ((eB).toNat*5)).off+4,none⟩=some (.string ((aD l0 eB).f4))∧w'.cell? (aMn.add (CW).toNat)=some (.string (bP ByteArray.empty l3 CW))) (ds:=[]) ⟨(kp HB.out PV),(kp HB.out PW),(kp HB.out PX),(kp HB.out PY),(kp HB.out PZ),(kp HB.out P5)⟩ (fun hHeld=>?_);refine dW dH.aVv dH.aHR (fun kQ rT=>?_)
         generalize wr.drew=w26 at BO HB zZ z8 AA AB AJ AL hHeld⊢;refine pu 0 47 ?_;refine pu 1 48 ?_;refine pu 2 49 ?_;refine pu 4 51 ?_;refine pu 5 52 ?_;refine pu 6 53 ?_;refine tk6 3 50 hHeld ?_;refine tk6 7 54 hHeld ?_;refine qF 8 55 (fun K hK=>?_)
         refine EI Tryz.func125 #[.agg #[.string ((aD l0 eB).f0), .bool ((aD l0 eB).f1), .string ((aD l0 eB).f2), .string ((aD l0 eB).f3), .string ((aD l0 eB).f4)], .string (bP ByteArray.empty l3 CW)] ?_
         with_reducible refine(wO.calls k3 ((aD l0 eB).f0) ((aD l0 eB).f1) ((aD l0 eB).f2) ((aD l0 eB).f3) ((aD l0 eB).f4) (bP ByteArray.empty l3 CW) a2Q false _ A19.out).mono ?_
         rintro e w27 ⟨rfl,hb⟩;refine⟨_,rfl,?_⟩;replace BO:=am (Kd.qB (vq BO.out) hb);replace HB:=o8 hb;clear hb;refine hK.out _ _ ⟨(kp HB.out PV),(kp HB.out PW),(kp HB.out PX),(kp HB.out PY),(kp HB.out PZ),(kp HB.out P5)⟩ (fun hHeld=>?_);clear hK K;refine nm 55 ?_;refine pu 9 46 ?_;refine pu 10 56 ?_;refine pu 11 57 ?_;refine pu 12 12 ?_;refine pu 13 13 ?_
         refine kD (fQ kQ.out (by kernel_rfl)) ?_
         try go_wp2
         go_roundg k3
         case measure=>have:=lM.out;have:=HJ9.out;have:=DJ.out;omega
         case rel=>exact⟨(NG),(wrap64 (CW+1)),sq,H',⟨by have:=lM.out;have:=HJ9.out;have:=DJ.out;omega⟩,⟨vq BO.out⟩,⟨gP⟩⟩
        have H' :=am H
        clear H;go_wp2
        go_roundg k3
        case measure=>have:=lM.out;have:=HJ9.out;have:=DJ.out;omega
        case rel=>exact⟨(NG),(wrap64 (eB+1)),sq,H',⟨by have:=lM.out;have:=HJ9.out;have:=DJ.out;omega⟩,⟨vq BO.out⟩,⟨gP⟩⟩
   obtain rfl:=si H;go_wp2;go_ret
   exact⟨_,nD,by(with_reducible repeat(fail));exact BO.out,gP⟩
end Go.Proofs.YtpljfjbhlboffaaGreat.eH

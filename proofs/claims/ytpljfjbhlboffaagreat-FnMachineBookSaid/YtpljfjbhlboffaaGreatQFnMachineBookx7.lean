import Derived.Test.YtpljfjbhlboffaaGreatQFnMachineBookx6
namespace Go.Proofs.YtpljfjbhlboffaaGreat.eH
open Go.RowKit Go.Proofs.YtpljfjbhlboffaaGreatW.bJ Go.Proofs.YtpljfjbhlboffaaGreatW.gI Go.Proofs.YtpljfjbhlboffaaGreatW.jC Go.Proofs.YtpljfjbhlboffaaGreat.Sh
attribute [local go_sem] rD rF uY uZ pE pF rE rG
set_option linter.unusedVariables false
set_option linter.unusedSimpArgs false
set_option maxHeartbeats 8000000
set_option maxRecDepth 100000
def bX.f (k:Nat) (dG:List Int) (iX:Int):Option ((List (kH))×(List (sV))×Int):=(bE.f k dG iX).bind fun zF=>((aQ.f k dG zF.2.2 16).bind fun UB=>(if UB.1=0 then((nN.f k dG UB.2).bind fun aAQ=>(if zF.1.length<1954687338268 then(some ((zF.1++[(⟨aAQ.1,aAQ.2.1,aAQ.2.2.1,aAQ.2.2.2.1,aAQ.2.2.2.2.1⟩:kH)]),zF.2.1,aAQ.2.2.2.2.2))else(none)))else(if UB.1=1 then((iQ.f k dG UB.2).bind fun aW1=>((gH.f k dG aW1.2 (([(⟨#[]⟩:ByteArray),(⟨#[83,71]⟩:ByteArray),(⟨#[115]⟩:ByteArray),(⟨#[65,66,67,68,69]⟩:ByteArray)]:List ByteArray))).bind fun aW2=>(if zF.2.1.length<4398046511104 then(some (zF.1,(zF.2.1++[(⟨aW1.1,aW2.1⟩:sV)]),aW2.2))else(none))))else(if UB.1=2 then(if(zF.2.1.length:Int)>0 then((gH.f k dG UB.2 (([(⟨#[]⟩:ByteArray),(⟨#[122,122]⟩:ByteArray),(⟨#[65]⟩:ByteArray)]:List ByteArray))).bind fun aW3=>(if 0<(zF.2.1.length:Int)then(some (zF.1,(zF.2.1.set (0:Int).toNat (⟨aW3.1,(aX zF.2.1 0).f1⟩:sV)),aW3.2))else(none)))else(some (zF.1,zF.2.1,UB.2)))else(some (zF.1,zF.2.1,UB.2))))))
def bX.T4:Bool×List (List Nat×List Nat):=(true,[([],[]),([0],[0]),([],[]),([2],[2]),([3],[3]),([1,4,3],[1,4]),([0,1,2,3,4,5],[]),([6,5,5,0,1,2,3,4,5],[5,6])])
def bX.B4:List Nat:=[0,1,0,4,12,31,63,127]
theorem bX.J7:nX .any (opsOf Tryz.f17 4)=bX.T4:=by kernel_rfl
theorem bX.yN:jA bX.T4.2 bX.B4=true:=by kernel_rfl
def bX.T6:Bool×List (List Nat×List Nat):=(true,[([],[]),([0],[0]),([],[]),([2],[2]),([],[]),([],[]),([4,5,3],[4,5]),([3,6],[3,6]),([7],[7]),([1,8,6],[1,8]),([0,1,2,3,4,5,6,7,8,9],[]),([10,9,9,0,1,2,3,4,5,6,7,8,9],[9,10])])
def bX.B6:List Nat:=[0,1,0,4,0,0,60,124,252,511,1023,2047]
theorem bX.aRk:nX .any (opsOf Tryz.f17 6)=bX.T6:=by kernel_rfl
theorem bX.aDX:jA bX.T6.2 bX.B6=true:=by kernel_rfl
def bX.T9:Bool×List (List Nat×List Nat):=(true,[([],[]),([0],[0]),([],[]),([],[]),([2,3],[2,3]),([1,0,1,2,3,4],[1]),([5,0,1,2,3,4],[5]),([6,4,4,0,1,2,3,4],[4,6])])
def bX.B9:List Nat:=[0,1,0,0,12,31,63,127]
theorem bX.aVv:nX .any (opsOf Tryz.f17 9)=bX.T9:=by kernel_rfl
theorem bX.aHR:jA bX.T9.2 bX.B9=true:=by kernel_rfl
theorem bX.calls (k:Nat) (g:Nat) (dG:List Int) (iX:Int) (r1:List (kH)) (r2:List (sV)) (r3:Int) (w0 w:World) (hI:aI w0 w g dG iX) (hB:Below w0.heap.size w0 w) (h:bX.f k dG iX=some (r1,r2,r3)):
  Calls Tryz.prog 17 #[.pointer (some ⟨g,0,none⟩)] w fun e w' => ∃sQ v1_:Value,e= .returned (.agg #[sQ,v1_])∧Kd.R yG 87 w' w.heap.size (fun _=>True) sQ r1∧Kd.R NK 56 w' w.heap.size (fun _=>True) v1_ r2∧aI w0 w' g dG r3∧Below w0.heap.size w0 w' ∧aZ w w' g none:=by
 have U7:=Tryz.underlying26;have aCt:=Tryz.underlying56;have HI0:=am hI;have HK:=am (aZ.refl w g none);have HL:=am hB.size;clear hI;have HW0:=am hB.size;have HB:=am hB;clear hB
 have H:=h;unfold bX.f at H
 clear h;replace H:=ba H;obtain⟨⟨t247,l6,yT⟩,A2,H⟩:=H;dsimp only at H;replace H:=ba H;obtain⟨⟨FX,aDd⟩,A3,H⟩:=H;dsimp only at H
 by_cases c4:FX=0
 ·rw [if_pos c4] at H
  have qZ:(FX==0)=true:=beq_iff_eq.mpr c4
  have XX:(FX !=0)=false:=bne_eq_false_iff_eq.mpr c4
  clear c4;replace H:=ba H;obtain⟨⟨aQ7,aQ8,aQ9,aRa,aRb,bK6⟩,A5,H⟩:=H;dsimp only at H
  replace H:=ip H;obtain⟨c6,H⟩:=H;have bFI:=am c6;clear c6;obtain⟨aLv,aOS⟩: ∃y_:List (kH),y_=(t247++[(⟨aQ7,aQ8,aQ9,aRa,aRb⟩:kH)]):=⟨_,rfl⟩
  rw [←aOS] at H
  have a6f:=am aOS;clear aOS;simp only [Option.some.injEq,Prod.mk.injEq] at H
  obtain⟨rfl,rfl,rfl⟩:=H;go_enter Tryz.func17,Tryz.ntmps17
  try go_wp2_with (first|(refine gd 2 ?_;refine bx 2 (cs:= #[.slice none 0 0, .slice none 0 0]) (t:=26) ?_;intro fU hg w7 bT hb;replace HB:=am (aY FB hb);have eF:=am (bT);have TT:=am ((NJ:w.heap.size≤fU));have G6:=am ((Nat.le_trans HW0.out (NJ:w.heap.size≤fU):w0.heap.size≤fU));replace HK:=kt g uO hb;have uS:=am ((OD:g≠fU));have mG:=am ((OE:fU≠g));replace HI0:=am (aI.below DV hb);clear hb bT hg)|(refine gd 5 ?_;refine gm Tryz.func47 (bE.calls k g dG iX t247 l6 yT w0 _ HI0.out HB.out A2.out) ?_;rintro e w8 ⟨aVx,aRn,rfl,ho0,ho1,hi,hb,hk⟩;refine⟨_,rfl,?_⟩;replace eF:=kk hk eF mG;have gM:=kl g ho0 b7_;have fO:=kl g ho1 b7_;replace HK:=ku b7_ hk;replace HB:=am (hb);replace HI0:=am (hi);clear hb hk hi;clear ho0 ho1)|(refine gd 3 ?_;refine bx 3 (cs:= #[.slice none 0 0, .slice none 0 0]) (t:=26) ?_;intro fV hg w9 bT hb;replace gM:=kr gM hb;replace fO:=kr fO hb;replace HB:=am (aY aMQ hb);have eG:=am (bT);have aDy:=am ((ZT:w.heap.size≤fV));have LW:=am ((Nat.le_trans HW0.out (ZT:w.heap.size≤fV):w0.heap.size≤fV));replace HK:=kt g b7_ hb;have nJ:=am ((aMY:fU≠fV));have qU:=am ((aMZ:fV≠fU));replace eF:=kb eF hb;have lZ:=am ((aML:g≠fV));have oN:=am ((aMM:fV≠g));replace HI0:=am (aI.below aMV hb);clear hb bT hg;obtain⟨pG,oU,aFQ⟩:=Kd.bS gM.out;subst aFQ;have bAp:=qU.out;have bAu:=nJ.out;have aOp:=oN.out;have aOr:=lZ.out;have⟨_,_,_,_⟩:=oP eG.out;obtain⟨wT,wY,aBO⟩:=Kd.bS fO.out;subst aBO)|(refine gd 7 ?_;refine gv Tryz.func48 (aQ.calls k g dG yT 16 FX aDd w0 _ ?dS ?iE A3.out) ?_;(case dS=>repeat(with_reducible first|exact HI0.out|refine aI.vZ ?_ lZ.out _));(case iE=>repeat(with_reducible first|exact HB.out|refine bO ?_ LW.out));rintro w15 ⟨hi,hb,hk⟩;replace eF:=am (aZ.ZU hk (g' :=fU) (o:= .cells #[.slice none 0 0, .slice none 0 0] 26 (0,0)) aMI mG.out (by simp));replace gM:=ka (aI.apart (show aI w0 _ g dG yT from by repeat(with_reducible first|exact HI0.out|refine aI.vZ ?_ lZ.out _)) (rq ((Kd.bA (Kd.bZ (p:=⟨fV,1,none⟩) (Kd.bZ (p:=⟨fV,0,none⟩) (Kd.eQ gM.out eG.out (by decide)) (fun _ hk=>hk.2) (.slice pG t247.length oU)) (fun _ hk=>hk.2) (.slice wT l6.length wY)) (fun _ h_=>h_.1)))) (by decide)) hk;replace fO:=ka (aI.apart (show aI w0 _ g dG yT from by repeat(with_reducible first|exact HI0.out|refine aI.vZ ?_ lZ.out _)) (rq ((Kd.bA (Kd.bZ (p:=⟨fV,1,none⟩) (Kd.bZ (p:=⟨fV,0,none⟩) (Kd.eQ fO.out eG.out (by decide)) (fun _ hk=>hk.2) (.slice pG t247.length oU)) (fun _ hk=>hk.2) (.slice wT l6.length wY)) (fun _ h_=>h_.1)))) (by decide)) hk;replace eG:=am (aZ.ZU hk (g' :=fV) (o:= .cells #[.slice pG t247.length oU, .slice wT l6.length wY] 26 (0,0)) (by(with_reducible repeat(fail));refine bM (cs:= #[.slice pG t247.length oU, .slice none 0 0]) ?_ 1 _ rfl;(with_reducible repeat(fail));refine bM (cs:= #[.slice none 0 0, .slice none 0 0]) ?_ 0 _ rfl;(with_reducible repeat(fail));exact eG.out) oN.out (by simp));replace HK:=ku SK hk;replace HB:=am (hb);replace HI0:=am (hi);clear hb hk hi))
  replace gM:=am (Kd.mZ gM.out);replace fO:=am (Kd.mZ fO.out);replace eF:=am (bF eF.out);replace eG:=am (bF eG.out);replace HI0:=am (aI.drew HI0.out);replace HK:=am (lF HK.out);replace HB:=am (bH HB.out)
  refine J5 (n:=8) (S:=fun w' =>w'.cell? ⟨fV,0,none⟩=some (.slice pG t247.length oU)∧w'.cell? ⟨fV,1,none⟩=some (.slice wT l6.length wY)) (ds:=[7]) #[false,false,false,false,false,false,false,false] (by kernel_rfl) rfl rfl ⟨bd eG.out 0,bd eG.out 1⟩ (fun hHeld=>?_);refine dW bX.J7 bX.yN (fun kQ rT=>?_)
  generalize w15.drew=w16 at gM fO eF eG HI0 HK HB hHeld⊢;refine pu 0 10 ?_;refine pu 2 12 ?_;refine V9 1 11 hHeld ?_;refine qF 3 13 (fun K hK=>?_)
  refine EI Tryz.func49 #[.pointer (some ⟨g,0,none⟩)] ?_
  with_reducible refine(nN.calls k g dG aDd aQ7 aQ8 aQ9 aRa aRb bK6 w0 _ ?dS ?iE A5.out).mono ?_
  (case dS=>repeat(with_reducible exact HI0.out));(case iE=>repeat(with_reducible exact HB.out))
  rintro e w17 ⟨rfl,hi,hb,hk⟩;refine⟨_,rfl,?_⟩;replace eF:=kk hk eF mG
  replace gM:=ka (aI.apart HI0.out (rq gM.out) (by decide)) hk
  replace fO:=ka (aI.apart HI0.out (rq fO.out) (by decide)) hk
  replace eG:=kk hk eG oN;replace HK:=ku SK hk;replace HB:=am (hb);replace HI0:=am (hi);clear hb hk hi;refine hK.out _ _ ⟨bd eG.out 0,bd eG.out 1⟩ (fun hHeld=>?_);clear hK K;refine nm 13 ?_;refine qF 4 14 (fun K hK=>?_)
  refine GY (w1:=?_) (v:=?_) (by rfl) rfl ?_ ?_
  rotate_left 2
  ·go_simp
   constructor
   ·rfl
   ·rfl
  refine hK.out _ _ ⟨bd (bW eG.out _) 0,bd (bW eG.out _) 1⟩ (fun hHeld=>?_);clear hK K;refine nm 14 ?_;refine qF 5 15 (fun K hK=>?_)
  refine Kd.yE yG w.heap.size (by rfl) (.tmp 11) (.tmp 14) 23 87 (.agg #[(.string ⟨#[]⟩),(.bool false),(.string ⟨#[]⟩),(.string ⟨#[]⟩),(.string ⟨#[]⟩)]) 72 rfl Tryz.underlying23 aCU rfl (by decide) (by omega) (.slice pG t247.length oU) t247 (⟨aQ7,aQ8,aQ9,aRa,aRb⟩:kH) [.string aQ7, .bool aQ8, .string aQ9, .string aRa, .string aRb] (fun _=>True) (fun _=>False) rfl rfl ?aP (fun _ hk=>hk.elim) ?aF ?aO (Below.refl _ _) ?aS ?aL ?_
  (case aP=>exact yH _ _ _ (⟨aQ7,aQ8,aQ9,aRa,aRb⟩:kH));(case aF=>exact(fun _ _=>trivial));(case aO=>exact(rq gM.out));(case aS=>exact(mX (w:=w) (g:=g) (row:=none) SK));(case aL=>have:=bFI.out;omega);intro bS4 w18 ho hb hg hat;rw [←a6f.out] at ho
  replace eF:=am (gK (g:=fU) (o:= .cells #[.slice none 0 0, .slice none 0 0] 26 (0,0)) (bq eF.out) hg (Kd.zO gM.out eF.out (by decide)));replace fO:=am (Kd.F5 (rq fO.out) (Kd.zP (rq gM.out)) (by decide) hg);replace eG:=am (gK (g:=fV) (o:= .cells #[.slice pG t247.length oU, .slice wT l6.length wY] 26 (0,0)) (bq eG.out) hg (Kd.zO gM.out eG.out (by decide)));replace HB:=am (zT U2 HL.out hb);replace HI0:=am (aI.grown U3 hg (aI.vM HI0.out gM.out (by decide)));replace HK:=am (aZ.trans SK (aZ.JX hg g) (Kd.VT gM.out));have aV1:=am (ho);clear gM;clear ho hb hg hat;obtain⟨aBj,aBK,aFT⟩:=Kd.bS aV1.out
  (subst aFT)
  refine hK.out _ _ ⟨bd eG.out 0,bd eG.out 1⟩ (fun hHeld=>?_);clear hK K;refine nm 15 ?_;refine pu 6 16 ?_
  refine UL (i:=7) (N:=none) #[true,true,true,true,true,true,true,true] rfl rfl (CR kQ.out (by kernel_rfl)) (by decide) (fun K hK=>?_)
  have bJc:w18.cell? ⟨fV,0,none⟩=some (.slice pG t247.length oU):=bd eG.out 0
  have bAb:=bf eG.out 0;have bDO:=nJ.out;have bDJ:=qU.out
  refine RL (w1:=?_) (by rfl) rfl ?_ ?_
  rotate_left
  ·go_simp
   rfl
  refine hK.out _ _ ?_;clear hK K
  refine kD (fQ kQ.out (by kernel_rfl)) ?_
  have⟨_,_,_,_⟩:=oP eG.out;have bPc:=mG.out;have bPN:=uS.out;have⟨_,_,_,_⟩:=oP eF.out
  try go_wp2
  refine bodyPost_ret (results_cell_row rfl _ _ fU 26 #[.slice aBj aLv.length aBK, .slice wT l6.length wY] (0,0) _ rfl (by(with_reducible repeat(fail));refine bM (cs:= #[.slice aBj aLv.length aBK, .slice none 0 0]) ?_ 1 _ rfl;(with_reducible repeat(fail));refine bM (cs:= #[.slice none 0 0, .slice none 0 0]) ?_ 0 _ rfl;(with_reducible repeat(fail));refine iV ?_ nJ.out _;(with_reducible repeat(fail));exact eF.out) Tryz.underlying26 rfl (by kernel_rfl)) rfl ?_
  exact⟨_,_,nD,by(with_reducible repeat(fail));exact Kd.bA (Kd.bZ (p:=⟨fU,1,none⟩) (Kd.bZ (p:=⟨fU,0,none⟩) (Kd.bZ (p:=⟨fV,0,none⟩) (Kd.eQ (Kd.eQ aV1.out eG.out (by decide)) eF.out (by decide)) (fun _ hk=>hk.1.2) (.slice aBj aLv.length aBK)) (fun _ hk=>hk.2) (.slice aBj aLv.length aBK)) (fun _ hk=>hk.2) (.slice wT l6.length wY)) (fun _ hk=>trivial),by(with_reducible repeat(fail));exact Kd.bA (Kd.bZ (p:=⟨fU,1,none⟩) (Kd.bZ (p:=⟨fU,0,none⟩) (Kd.bZ (p:=⟨fV,0,none⟩) (Kd.eQ (Kd.eQ fO.out eG.out (by decide)) eF.out (by decide)) (fun _ hk=>hk.1.2) (.slice aBj aLv.length aBK)) (fun _ hk=>hk.2) (.slice aBj aLv.length aBK)) (fun _ hk=>hk.2) (.slice wT l6.length wY)) (fun _ hk=>trivial),U3,U2,SK⟩
 rw [if_neg c4] at H
 have qZ:(FX==0)=false:=beq_eq_false_iff_ne.mpr c4
 have XX:(FX !=0)=true:=bne_iff_ne.mpr c4
 by_cases c24:FX=1
 ·rw [if_pos c24] at H
  have aD4:(FX==1)=true:=beq_iff_eq.mpr c24
  have aNe:(FX !=1)=false:=bne_eq_false_iff_eq.mpr c24
  clear c24;replace H:=ba H;obtain⟨⟨aGS,aRc⟩,A25,H⟩:=H;dsimp only at H;obtain⟨aVL,aOT⟩: ∃y_:List ByteArray,y_=(([(⟨#[]⟩:ByteArray),(⟨#[83,71]⟩:ByteArray),(⟨#[115]⟩:ByteArray),(⟨#[65,66,67,68,69]⟩:ByteArray)]:List ByteArray)):=⟨_,rfl⟩
  rw [←aOT] at H
  have aWj:=am aOT;clear aOT;replace H:=ba H;obtain⟨⟨aRd,bK7⟩,A26,H⟩:=H;dsimp only at H
  replace H:=ip H;obtain⟨ZV,H⟩:=H;have a5F:=am ZV;clear ZV;obtain⟨aRC,aOU⟩: ∃y_:List (sV),y_=(l6++[(⟨aGS,aRd⟩:sV)]):=⟨_,rfl⟩
  rw [←aOU] at H
  have a6g:=am aOU;clear aOU;simp only [Option.some.injEq,Prod.mk.injEq] at H
  obtain⟨rfl,rfl,rfl⟩:=H;go_enter Tryz.func17,Tryz.ntmps17
  try go_wp2_with (first|(refine gd 2 ?_;refine bx 2 (cs:= #[.slice none 0 0, .slice none 0 0]) (t:=26) ?_;intro fU hg w28 bT hb;replace HB:=am (aY FB hb);have eF:=am (bT);have TT:=am ((NJ:w.heap.size≤fU));have G6:=am ((Nat.le_trans HW0.out (NJ:w.heap.size≤fU):w0.heap.size≤fU));replace HK:=kt g uO hb;have uS:=am ((OD:g≠fU));have mG:=am ((OE:fU≠g));replace HI0:=am (aI.below DV hb);clear hb bT hg)|(refine gd 5 ?_;refine gm Tryz.func47 (bE.calls k g dG iX t247 l6 yT w0 _ HI0.out HB.out A2.out) ?_;rintro e w29 ⟨aVx,aRn,rfl,ho0,ho1,hi,hb,hk⟩;refine⟨_,rfl,?_⟩;replace eF:=kk hk eF mG;have gM:=kl g ho0 b7_;have fO:=kl g ho1 b7_;replace HK:=ku b7_ hk;replace HB:=am (hb);replace HI0:=am (hi);clear hb hk hi;clear ho0 ho1)|(refine gd 3 ?_;refine bx 3 (cs:= #[.slice none 0 0, .slice none 0 0]) (t:=26) ?_;intro fV hg w30 bT hb;replace gM:=kr gM hb;replace fO:=kr fO hb;replace HB:=am (aY aMQ hb);have eG:=am (bT);have aDy:=am ((ZT:w.heap.size≤fV));have LW:=am ((Nat.le_trans HW0.out (ZT:w.heap.size≤fV):w0.heap.size≤fV));replace HK:=kt g b7_ hb;have nJ:=am ((aMY:fU≠fV));have qU:=am ((aMZ:fV≠fU));replace eF:=kb eF hb;have lZ:=am ((aML:g≠fV));have oN:=am ((aMM:fV≠g));replace HI0:=am (aI.below aMV hb);clear hb bT hg;obtain⟨CZ,DD,aBP⟩:=Kd.bS gM.out;subst aBP;have bPh:=qU.out;have bPS:=nJ.out;have bPi:=oN.out;have bPT:=lZ.out;have⟨_,_,_,_⟩:=oP eG.out;obtain⟨R3,SY,bHD⟩:=Kd.bS fO.out;subst bHD)|(refine gd 7 ?_;refine gv Tryz.func48 (aQ.calls k g dG yT 16 FX aDd w0 _ ?dS ?iE A3.out) ?_;(case dS=>repeat(with_reducible first|exact HI0.out|refine aI.vZ ?_ lZ.out _));(case iE=>repeat(with_reducible first|exact HB.out|refine bO ?_ LW.out));rintro RY ⟨hi,hb,hk⟩;replace eF:=am (aZ.ZU hk (g' :=fU) (o:= .cells #[.slice none 0 0, .slice none 0 0] 26 (0,0)) aMI mG.out (by simp));replace gM:=ka (aI.apart (show aI w0 _ g dG yT from by repeat(with_reducible first|exact HI0.out|refine aI.vZ ?_ lZ.out _)) (rq ((Kd.bA (Kd.bZ (p:=⟨fV,1,none⟩) (Kd.bZ (p:=⟨fV,0,none⟩) (Kd.eQ gM.out eG.out (by decide)) (fun _ hk=>hk.2) (.slice CZ t247.length DD)) (fun _ hk=>hk.2) (.slice R3 l6.length SY)) (fun _ h_=>h_.1)))) (by decide)) hk;replace fO:=ka (aI.apart (show aI w0 _ g dG yT from by repeat(with_reducible first|exact HI0.out|refine aI.vZ ?_ lZ.out _)) (rq ((Kd.bA (Kd.bZ (p:=⟨fV,1,none⟩) (Kd.bZ (p:=⟨fV,0,none⟩) (Kd.eQ fO.out eG.out (by decide)) (fun _ hk=>hk.2) (.slice CZ t247.length DD)) (fun _ hk=>hk.2) (.slice R3 l6.length SY)) (fun _ h_=>h_.1)))) (by decide)) hk;replace eG:=am (aZ.ZU hk (g' :=fV) (o:= .cells #[.slice CZ t247.length DD, .slice R3 l6.length SY] 26 (0,0)) (by(with_reducible repeat(fail));refine bM (cs:= #[.slice CZ t247.length DD, .slice none 0 0]) ?_ 1 _ rfl;(with_reducible repeat(fail));refine bM (cs:= #[.slice none 0 0, .slice none 0 0]) ?_ 0 _ rfl;(with_reducible repeat(fail));exact eG.out) oN.out (by simp));replace HK:=ku SK hk;replace HB:=am (hb);replace HI0:=am (hi);clear hb hk hi))
  replace gM:=am (Kd.mZ gM.out);replace fO:=am (Kd.mZ fO.out);replace eF:=am (bF eF.out);replace eG:=am (bF eG.out);replace HI0:=am (aI.drew HI0.out);replace HK:=am (lF HK.out);replace HB:=am (bH HB.out)
  refine J5 (n:=12) (S:=fun w' =>w'.cell? ⟨fV,0,none⟩=some (.slice CZ t247.length DD)∧w'.cell? ⟨fV,1,none⟩=some (.slice R3 l6.length SY)) (ds:=[11]) #[false,false,false,false,false,false,false,false,false,false,false,false] (by kernel_rfl) rfl rfl ⟨bd eG.out 0,bd eG.out 1⟩ (fun hHeld=>?_);refine dW bX.aRk bX.aDX (fun kQ rT=>?_)
  generalize RY.drew=w37 at gM fO eF eG HI0 HK HB hHeld⊢;refine pu 0 19 ?_;refine pu 2 21 ?_;refine pu 4 23 ?_;refine V9 1 20 hHeld ?_
  refine aQb (σ:=Value) 6 #[true,true,true,true,true,true,false,false,false,false,false,false] (fun s_=>[(22, .string aGS),(24,s_)]) (fun s_ w' =>(w'.cell? ⟨fV,0,none⟩=some (.slice CZ t247.length DD)∧w'.cell? ⟨fV,1,none⟩=some (.slice R3 l6.length SY))∧(Kd.R yG 87 w' w.heap.size (fun _=>True) (.slice CZ t247.length DD) t247)∧(Kd.R NK 56 w' w.heap.size (fun _=>True) (.slice R3 l6.length SY) l6)∧(Kd.R Kd.string 9 w' w.heap.size (fun _=>True) s_ aVL)∧(w'.heap[fU]?=some (.cells #[.slice none 0 0, .slice none 0 0] 26 (0,0)))∧(w'.heap[fV]?=some (.cells #[.slice CZ t247.length DD, .slice R3 l6.length SY] 26 (0,0)))∧(aI w0 w' g dG aRc)∧(aZ w w' g none)∧(Below w0.heap.size w0 w')) ?_ ?_
  rotate_left
  ·intro MI
   refine aRm (i:=3) (j:=5) (Ni:=some 22) (Nj:=some 24) #[true,true,true,true,true,false,false,false,false,false,false,false] #[true,true,true,false,true,true,false,false,false,false,false,false] rfl rfl rfl rfl (ZE kQ.out (by kernel_rfl)) (by decide) (by decide) (fun K hK=>?_) (fun K hK=>?_)
   ·skip
    refine EI Tryz.func50 #[.pointer (some ⟨g,0,none⟩)] ?_
    with_reducible refine(iQ.calls k g dG aDd aGS aRc w0 _ ?dS ?iE A25.out).mono ?_
    (case dS=>repeat(with_reducible exact HI0.out));(case iE=>repeat(with_reducible exact HB.out))
    rintro e w38 ⟨rfl,hi,hb,hk⟩;refine⟨_,rfl,?_⟩;replace eF:=kk hk eF mG
    replace gM:=ka (aI.apart HI0.out (rq gM.out) (by decide)) hk
    replace fO:=ka (aI.apart HI0.out (rq fO.out) (by decide)) hk
    replace eG:=kk hk eG oN;replace HK:=ku SK hk;replace HB:=am (hb);replace HI0:=am (hi);clear hb hk hi;refine hK.out _ _ ⟨bd eG.out 0,bd eG.out 1⟩ (fun hHeld=>?_);clear hK K;refine nm 22 ?_;refine qF 5 24 (fun K hK=>?_)
    refine Kd.kM Kd.string _ 9 ?hg (N:=24) ?hd (xs:=([(⟨#[]⟩:ByteArray),(⟨#[83,71]⟩:ByteArray),(⟨#[115]⟩:ByteArray),(⟨#[65,66,67,68,69]⟩:ByteArray)]:List ByteArray)) (inner:=[.string (⟨#[]⟩:ByteArray), .string (⟨#[83,71]⟩:ByteArray), .string (⟨#[115]⟩:ByteArray), .string (⟨#[65,66,67,68,69]⟩:ByteArray)]) (ok:=fun _=>True) (mK:=fun _=>True) ?hr ?hp (fun _ hk=>hk) trivial (Below.refl _ _) (Nat.le_refl _) (by simp) ?_;(case hd=>rfl);(case hg=>rfl);(case hr=>(go_simp;done));(case hp=>exact(dQ.one (show Kd.M Kd.string _ _ _ (⟨#[]⟩:ByteArray) [.string (⟨#[]⟩:ByteArray)] from rfl) (dQ.one (show Kd.M Kd.string _ _ _ (⟨#[83,71]⟩:ByteArray) [.string (⟨#[83,71]⟩:ByteArray)] from rfl) (dQ.one (show Kd.M Kd.string _ _ _ (⟨#[115]⟩:ByteArray) [.string (⟨#[115]⟩:ByteArray)] from rfl) (dQ.one (show Kd.M Kd.string _ _ _ (⟨#[65,66,67,68,69]⟩:ByteArray) [.string (⟨#[65,66,67,68,69]⟩:ByteArray)] from rfl) (dQ.none _ _))))))
    intro aRo w39 a1H hb lL dP;clear lL dP
    (rw [←aWj.out] at a1H)
    replace gM:=kr gM hb;replace fO:=kr fO hb;have DK:=kl g a1H SK;replace eF:=kb eF hb;replace eG:=kb eG hb;replace HK:=kt g SK hb;replace HB:=am (aY U2 hb);replace HI0:=am (aI.below U3 hb);clear hb a1H;refine hK.out _ _ ⟨bd eG.out 0,bd eG.out 1⟩ (fun hHeld=>?_);clear hK K;refine nm 24 ?_;exact IE aDT (MI (aRo) _ ⟨hHeld,(rq gM.out),(rq fO.out),(rq DK.out),(bq eF.out),(bq eG.out),U3,SK,U2⟩)
   ·skip
    refine Kd.kM Kd.string _ 9 ?hg (N:=24) ?hd (xs:=([(⟨#[]⟩:ByteArray),(⟨#[83,71]⟩:ByteArray),(⟨#[115]⟩:ByteArray),(⟨#[65,66,67,68,69]⟩:ByteArray)]:List ByteArray)) (inner:=[.string (⟨#[]⟩:ByteArray), .string (⟨#[83,71]⟩:ByteArray), .string (⟨#[115]⟩:ByteArray), .string (⟨#[65,66,67,68,69]⟩:ByteArray)]) (ok:=fun _=>True) (mK:=fun _=>True) ?hr ?hp (fun _ hk=>hk) trivial (Below.refl _ _) (Nat.le_refl _) (by simp) ?_;(case hd=>rfl);(case hg=>rfl);(case hr=>(go_simp;done));(case hp=>exact(dQ.one (show Kd.M Kd.string _ _ _ (⟨#[]⟩:ByteArray) [.string (⟨#[]⟩:ByteArray)] from rfl) (dQ.one (show Kd.M Kd.string _ _ _ (⟨#[83,71]⟩:ByteArray) [.string (⟨#[83,71]⟩:ByteArray)] from rfl) (dQ.one (show Kd.M Kd.string _ _ _ (⟨#[115]⟩:ByteArray) [.string (⟨#[115]⟩:ByteArray)] from rfl) (dQ.one (show Kd.M Kd.string _ _ _ (⟨#[65,66,67,68,69]⟩:ByteArray) [.string (⟨#[65,66,67,68,69]⟩:ByteArray)] from rfl) (dQ.none _ _))))))
    intro aRo w38 a1G hb lL dP;clear lL dP
    (rw [←aWj.out] at a1G)
    replace gM:=kr gM hb;replace fO:=kr fO hb;have DK:=kl g a1G SK;replace eF:=kb eF hb;replace eG:=kb eG hb;replace HK:=kt g SK hb;replace HB:=am (aY U2 hb);replace HI0:=am (aI.below U3 hb);clear hb a1G;refine hK.out _ _ ⟨bd eG.out 0,bd eG.out 1⟩ (fun hHeld=>?_);clear hK K;refine nm 24 ?_;refine qF 3 22 (fun K hK=>?_)
    refine EI Tryz.func50 #[.pointer (some ⟨g,0,none⟩)] ?_
    with_reducible refine(iQ.calls k g dG aDd aGS aRc w0 _ ?dS ?iE A25.out).mono ?_
    (case dS=>repeat(with_reducible exact HI0.out));(case iE=>repeat(with_reducible exact HB.out))
    rintro e w40 ⟨rfl,hi,hb,hk⟩;refine⟨_,rfl,?_⟩;replace eF:=kk hk eF mG
    replace gM:=ka (aI.apart HI0.out (rq gM.out) (by decide)) hk
    replace fO:=ka (aI.apart HI0.out (rq fO.out) (by decide)) hk
    replace eG:=kk hk eG oN
    replace DK:=ka (aI.apart HI0.out (rq DK.out) (by decide)) hk
    replace HK:=ku SK hk;replace HB:=am (hb);replace HI0:=am (hi);clear hb hk hi;refine hK.out _ _ ⟨bd eG.out 0,bd eG.out 1⟩ (fun hHeld=>?_);clear hK K;refine nm 22 ?_;exact IE aDT (MI (aRo) _ ⟨hHeld,(rq gM.out),(rq fO.out),(rq DK.out),(bq eF.out),(bq eG.out),U3,SK,U2⟩)
  rintro aRo w41 ⟨hS_,h0_,h1_,h2_,h3_,h4_,h5_,h6_,h7_⟩
  have vK:aC (Kd.R yG 87 w41 w.heap.size (fun _=>True) (.slice CZ t247.length DD) t247):=⟨h0_⟩
  have vL:aC (Kd.R NK 56 w41 w.heap.size (fun _=>True) (.slice R3 l6.length SY) l6):=⟨h1_⟩
  have GL:aC (Kd.R Kd.string 9 w41 w.heap.size (fun _=>True) aRo aVL):=⟨h2_⟩
  have MO:aC (w41.heap[fU]?=some (.cells #[.slice none 0 0, .slice none 0 0] 26 (0,0))):=⟨h3_⟩
  have n4_:aC (w41.heap[fV]?=some (.cells #[.slice CZ t247.length DD, .slice R3 l6.length SY] 26 (0,0))):=⟨h4_⟩
  have n5_:aC (aI w0 w41 g dG aRc):=⟨h5_⟩
  have n6_:aC (aZ w w41 g none):=⟨h6_⟩
  have n7_:aC (Below w0.heap.size w0 w41):=⟨h7_⟩
  clear gM;clear fO;clear eF;clear eG;clear HI0;clear HK;clear HB;clear h0_ h1_ h2_ h3_ h4_ h5_ h6_ h7_;have gM:=vK;have fO:=vL;have DK:=GL;have eF:=MO;have eG:=n4_;have HI0:=n5_;have HK:=n6_;have HB:=n7_;clear vK vL GL MO n4_ n5_ n6_ n7_
  have hHeld:w41.cell? ⟨fV,0,none⟩=some (.slice CZ t247.length DD)∧w41.cell? ⟨fV,1,none⟩=some (.slice R3 l6.length SY):=hS_
  obtain⟨aFq,aFL,a0k⟩:=Kd.bS DK.out
  (subst a0k)
  refine IE (a' :=?_) ?_ ?_
  rotate_left
  ·simp only [M3,Act.put,List.setIfInBounds_toArray,List.set_cons_zero,List.set_cons_succ]
   rfl
  refine qF 6 25 (fun K hK=>?_)
  refine EI Tryz.func51 #[.pointer (some ⟨g,0,none⟩), .slice aFq aVL.length aFL] ?_
  with_reducible refine(gH.calls k g dG aRc _ _ aVL aRd bK7 w0 _ ?dS ?iE ?mU ?FW ?aFa A26.out).mono ?_
  (case dS=>repeat(with_reducible exact HI0.out));(case iE=>repeat(with_reducible exact HB.out));(case mU=>exact cq (Kd.aM DK.out).2.2);(case FW=>exact(Kd.aM DK.out).2.1);(case aFa=>exact uX (aI.vM HI0.out DK.out (by decide)))
  rintro e w43 ⟨rfl,hi,hb,hk⟩;refine⟨_,rfl,?_⟩;replace eF:=kk hk eF mG
  replace gM:=ka (aI.apart HI0.out (rq gM.out) (by decide)) hk
  replace fO:=ka (aI.apart HI0.out (rq fO.out) (by decide)) hk
  replace eG:=kk hk eG oN
  replace DK:=ka (aI.apart HI0.out (rq DK.out) (by decide)) hk
  replace HK:=ku SK hk;replace HB:=am (hb);replace HI0:=am (hi);clear hb hk hi;refine hK.out _ _ ⟨bd eG.out 0,bd eG.out 1⟩ (fun hHeld=>?_);clear hK K;refine nm 25 ?_;refine pu 7 26 ?_;refine qF 8 27 (fun K hK=>?_)
  refine GY (w1:=?_) (v:=?_) (by rfl) rfl ?_ ?_
  rotate_left 2
  ·go_simp
   constructor
   ·rfl
   ·rfl
  refine hK.out _ _ ⟨bd (bW eG.out _) 0,bd (bW eG.out _) 1⟩ (fun hHeld=>?_);clear hK K;refine nm 27 ?_;refine qF 9 28 (fun K hK=>?_)
  refine Kd.yE NK w.heap.size (by rfl) (.tmp 20) (.tmp 27) 24 56 (.agg #[(.string ⟨#[]⟩),(.string ⟨#[]⟩)]) 32 rfl Tryz.underlying24 aP4 rfl (by decide) (by omega) (.slice R3 l6.length SY) l6 (⟨aGS,aRd⟩:sV) [.string aGS, .string aRd] (fun _=>True) (fun _=>False) rfl rfl ?aP (fun _ hk=>hk.elim) ?aF ?aO (Below.refl _ _) ?aS ?aL ?_
  (case aP=>exact aCZ _ _ _ (⟨aGS,aRd⟩:sV));(case aF=>exact(fun _ _=>trivial));(case aO=>exact(rq fO.out));(case aS=>exact(mX (w:=w) (g:=g) (row:=none) SK));(case aL=>have:=a5F.out;omega);intro bS5 w44 ho hb hg hat;rw [←a6g.out] at ho
  replace eF:=am (gK (g:=fU) (o:= .cells #[.slice none 0 0, .slice none 0 0] 26 (0,0)) (bq eF.out) hg (Kd.zO fO.out eF.out (by decide)));replace gM:=am (Kd.F5 (rq gM.out) (Kd.zP (rq fO.out)) (by decide) hg);replace eG:=am (gK (g:=fV) (o:= .cells #[.slice CZ t247.length DD, .slice R3 l6.length SY] 26 (0,0)) (bq eG.out) hg (Kd.zO fO.out eG.out (by decide)));replace DK:=am (Kd.F5 (rq DK.out) (Kd.zP (rq fO.out)) (by decide) hg);replace HB:=am (zT U2 HL.out hb);replace HI0:=am (aI.grown U3 hg (aI.vM HI0.out fO.out (by decide)));replace HK:=am (aZ.trans SK (aZ.JX hg g) (Kd.VT fO.out));have aV2:=am (ho);clear fO;clear ho hb hg hat;obtain⟨aLy,aNt,bHI⟩:=Kd.bS aV2.out
  (subst bHI)
  refine hK.out _ _ ⟨bd eG.out 0,bd eG.out 1⟩ (fun hHeld=>?_);clear hK K;refine nm 28 ?_;refine pu 10 29 ?_
  refine UL (i:=11) (N:=none) #[true,true,true,true,true,true,true,true,true,true,true,true] rfl rfl (CR kQ.out (by kernel_rfl)) (by decide) (fun K hK=>?_)
  have bRB:w44.cell? ⟨fV,1,none⟩=some (.slice R3 l6.length SY):=bd eG.out 1
  have bO5:=bf eG.out 1;have bDR:=nJ.out;have bDM:=qU.out
  refine RL (w1:=?_) (by rfl) rfl ?_ ?_
  rotate_left
  ·go_simp
   rfl
  refine hK.out _ _ ?_;clear hK K
  refine kD (fQ kQ.out (by kernel_rfl)) ?_
  have⟨_,_,_,_⟩:=oP eG.out;have bPr:=mG.out;have bP2:=uS.out;have⟨_,_,_,_⟩:=oP eF.out
  try go_wp2
  refine bodyPost_ret (results_cell_row rfl _ _ fU 26 #[.slice CZ t247.length DD, .slice aLy aRC.length aNt] (0,0) _ rfl (by(with_reducible repeat(fail));refine bM (cs:= #[.slice CZ t247.length DD, .slice none 0 0]) ?_ 1 _ rfl;(with_reducible repeat(fail));refine bM (cs:= #[.slice none 0 0, .slice none 0 0]) ?_ 0 _ rfl;(with_reducible repeat(fail));refine iV ?_ nJ.out _;(with_reducible repeat(fail));exact eF.out) Tryz.underlying26 rfl (by kernel_rfl)) rfl ?_
  exact⟨_,_,nD,by(with_reducible repeat(fail));exact Kd.bA (Kd.bZ (p:=⟨fU,1,none⟩) (Kd.bZ (p:=⟨fU,0,none⟩) (Kd.bZ (p:=⟨fV,1,none⟩) (Kd.eQ (Kd.eQ gM.out eG.out (by decide)) eF.out (by decide)) (fun _ hk=>hk.1.2) (.slice aLy aRC.length aNt)) (fun _ hk=>hk.2) (.slice CZ t247.length DD)) (fun _ hk=>hk.2) (.slice aLy aRC.length aNt)) (fun _ hk=>trivial),by(with_reducible repeat(fail));exact Kd.bA (Kd.bZ (p:=⟨fU,1,none⟩) (Kd.bZ (p:=⟨fU,0,none⟩) (Kd.bZ (p:=⟨fV,1,none⟩) (Kd.eQ (Kd.eQ aV2.out eG.out (by decide)) eF.out (by decide)) (fun _ hk=>hk.1.2) (.slice aLy aRC.length aNt)) (fun _ hk=>hk.2) (.slice CZ t247.length DD)) (fun _ hk=>hk.2) (.slice aLy aRC.length aNt)) (fun _ hk=>trivial),U3,U2,SK⟩
 rw [if_neg c24] at H
 have aD4:(FX==1)=false:=beq_eq_false_iff_ne.mpr c24
 have aNe:(FX !=1)=true:=bne_iff_ne.mpr c24
 by_cases ZM:FX=2
 ·rw [if_pos ZM] at H
  have H7:(FX==2)=true:=beq_iff_eq.mpr ZM
  have aNi:(FX !=2)=false:=bne_eq_false_iff_eq.mpr ZM
  clear ZM
  by_cases c51:(l6.length:Int)>0
  ·rw [if_pos c51] at H;have aNj:=decide_eq_true c51
   have a8T:decide (0<l6.length)=true:=decide_eq_true (by omega)
   clear c51;obtain⟨aVM,aOV⟩: ∃y_:List ByteArray,y_=(([(⟨#[]⟩:ByteArray),(⟨#[122,122]⟩:ByteArray),(⟨#[65]⟩:ByteArray)]:List ByteArray)):=⟨_,rfl⟩
   rw [←aOV] at H
   have a6h:=am aOV;clear aOV;replace H:=ba H;obtain⟨⟨LB,bBr⟩,A52,H⟩:=H;dsimp only at H;replace H:=ip H;obtain⟨c53,H⟩:=H;have aD8:=decide_eq_true c53
   have a8V:decide (0<l6.length)=true:=decide_eq_true (by omega)
   clear c53;obtain⟨bLW,aOW⟩: ∃y_:List (sV),y_=(l6.set (0:Int).toNat (⟨LB,(aX l6 0).f1⟩:sV)):=⟨_,rfl⟩
   rw [←aOW] at H
   have a6i:=am aOW;clear aOW;simp only [Option.some.injEq,Prod.mk.injEq] at H
   obtain⟨rfl,rfl,rfl⟩:=H;go_enter Tryz.func17,Tryz.ntmps17
   try go_wp2_with (first|(refine gd 2 ?_;refine bx 2 (cs:= #[.slice none 0 0, .slice none 0 0]) (t:=26) ?_;intro fU hg w55 bT hb;replace HB:=am (aY FB hb);have eF:=am (bT);have TT:=am ((NJ:w.heap.size≤fU));have G6:=am ((Nat.le_trans HW0.out (NJ:w.heap.size≤fU):w0.heap.size≤fU));replace HK:=kt g uO hb;have uS:=am ((OD:g≠fU));have mG:=am ((OE:fU≠g));replace HI0:=am (aI.below DV hb);clear hb bT hg)|(refine gd 5 ?_;refine gm Tryz.func47 (bE.calls k g dG iX t247 l6 yT w0 _ HI0.out HB.out A2.out) ?_;rintro e w56 ⟨aVx,aRn,rfl,ho0,ho1,hi,hb,hk⟩;refine⟨_,rfl,?_⟩;replace eF:=kk hk eF mG;have gM:=kl g ho0 b7_;have fO:=kl g ho1 b7_;replace HK:=ku b7_ hk;replace HB:=am (hb);replace HI0:=am (hi);clear hb hk hi;clear ho0 ho1)|(refine gd 3 ?_;refine bx 3 (cs:= #[.slice none 0 0, .slice none 0 0]) (t:=26) ?_;intro fV hg w57 bT hb;replace gM:=kr gM hb;replace fO:=kr fO hb;replace HB:=am (aY aMQ hb);have eG:=am (bT);have aDy:=am ((ZT:w.heap.size≤fV));have LW:=am ((Nat.le_trans HW0.out (ZT:w.heap.size≤fV):w0.heap.size≤fV));replace HK:=kt g b7_ hb;have nJ:=am ((aMY:fU≠fV));have qU:=am ((aMZ:fV≠fU));replace eF:=kb eF hb;have lZ:=am ((aML:g≠fV));have oN:=am ((aMM:fV≠g));replace HI0:=am (aI.below aMV hb);clear hb bT hg;obtain⟨U0,U4,a0o⟩:=Kd.bS gM.out;subst a0o;have bPv:=qU.out;have bP6:=nJ.out;have bPw:=oN.out;have bP7:=lZ.out;have⟨_,_,_,_⟩:=oP eG.out;obtain⟨aRL,aBM,bHO⟩:=Kd.bS fO.out;subst bHO)|(refine gd 7 ?_;refine gv Tryz.func48 (aQ.calls k g dG yT 16 FX aDd w0 _ ?dS ?iE A3.out) ?_;(case dS=>repeat(with_reducible first|exact HI0.out|refine aI.vZ ?_ lZ.out _));(case iE=>repeat(with_reducible first|exact HB.out|refine bO ?_ LW.out));rintro w63 ⟨hi,hb,hk⟩;replace eF:=am (aZ.ZU hk (g' :=fU) (o:= .cells #[.slice none 0 0, .slice none 0 0] 26 (0,0)) aMI mG.out (by simp));replace gM:=ka (aI.apart (show aI w0 _ g dG yT from by repeat(with_reducible first|exact HI0.out|refine aI.vZ ?_ lZ.out _)) (rq ((Kd.bA (Kd.bZ (p:=⟨fV,1,none⟩) (Kd.bZ (p:=⟨fV,0,none⟩) (Kd.eQ gM.out eG.out (by decide)) (fun _ hk=>hk.2) (.slice U0 t247.length U4)) (fun _ hk=>hk.2) (.slice aRL l6.length aBM)) (fun _ h_=>h_.1)))) (by decide)) hk;replace fO:=ka (aI.apart (show aI w0 _ g dG yT from by repeat(with_reducible first|exact HI0.out|refine aI.vZ ?_ lZ.out _)) (rq ((Kd.bA (Kd.bZ (p:=⟨fV,1,none⟩) (Kd.bZ (p:=⟨fV,0,none⟩) (Kd.eQ fO.out eG.out (by decide)) (fun _ hk=>hk.2) (.slice U0 t247.length U4)) (fun _ hk=>hk.2) (.slice aRL l6.length aBM)) (fun _ h_=>h_.1)))) (by decide)) hk;replace eG:=am (aZ.ZU hk (g' :=fV) (o:= .cells #[.slice U0 t247.length U4, .slice aRL l6.length aBM] 26 (0,0)) (by(with_reducible repeat(fail));refine bM (cs:= #[.slice U0 t247.length U4, .slice none 0 0]) ?_ 1 _ rfl;(with_reducible repeat(fail));refine bM (cs:= #[.slice none 0 0, .slice none 0 0]) ?_ 0 _ rfl;(with_reducible repeat(fail));exact eG.out) oN.out (by simp));replace HK:=ku SK hk;replace HB:=am (hb);replace HI0:=am (hi);clear hb hk hi;have⟨_,_,_,_⟩:=oP eG.out))
   replace gM:=am (Kd.mZ gM.out);replace fO:=am (Kd.mZ fO.out);replace eF:=am (bF eF.out);replace eG:=am (bF eG.out);replace HI0:=am (aI.drew HI0.out);replace HK:=am (lF HK.out);replace HB:=am (bH HB.out)
   refine J5 (n:=8) (S:=fun w' =>w'.cell? ⟨fV,0,none⟩=some (.slice U0 t247.length U4)∧w'.cell? ⟨fV,1,none⟩=some (.slice aRL l6.length aBM)) (ds:=[7]) #[false,false,false,false,false,false,false,false] (by kernel_rfl) rfl rfl ⟨bd eG.out 0,bd eG.out 1⟩ (fun hHeld=>?_);refine dW bX.aVv bX.aHR (fun kQ rT=>?_)
   generalize w63.drew=w65 at gM fO eF eG HI0 HK HB hHeld⊢;refine pu 0 36 ?_;refine pu 2 38 ?_;refine V9 1 37 hHeld ?_;refine qF 3 39 (fun K hK=>?_)
   refine Kd.kM Kd.string _ 9 ?hg (N:=39) ?hd (xs:=([(⟨#[]⟩:ByteArray),(⟨#[122,122]⟩:ByteArray),(⟨#[65]⟩:ByteArray)]:List ByteArray)) (inner:=[.string (⟨#[]⟩:ByteArray), .string (⟨#[122,122]⟩:ByteArray), .string (⟨#[65]⟩:ByteArray)]) (ok:=fun _=>True) (mK:=fun _=>True) ?hr ?hp (fun _ hk=>hk) trivial (Below.refl _ _) (Nat.le_refl _) (by simp) ?_;(case hd=>rfl);(case hg=>rfl);(case hr=>(go_simp;done));(case hp=>exact(dQ.one (show Kd.M Kd.string _ _ _ (⟨#[]⟩:ByteArray) [.string (⟨#[]⟩:ByteArray)] from rfl) (dQ.one (show Kd.M Kd.string _ _ _ (⟨#[122,122]⟩:ByteArray) [.string (⟨#[122,122]⟩:ByteArray)] from rfl) (dQ.one (show Kd.M Kd.string _ _ _ (⟨#[65]⟩:ByteArray) [.string (⟨#[65]⟩:ByteArray)] from rfl) (dQ.none _ _)))))
   intro bS6 w66 a1J hb lL dP;clear lL dP
   (rw [←a6h.out] at a1J)
   replace gM:=kr gM hb;replace fO:=kr fO hb;have NR:=kl g a1J SK;replace eF:=kb eF hb;replace eG:=kb eG hb;replace HK:=kt g SK hb;replace HB:=am (aY U2 hb);replace HI0:=am (aI.below U3 hb);clear hb a1J;obtain⟨a3B,a9r,bHQ⟩:=Kd.bS NR.out
   (subst bHQ)
   refine hK.out _ _ ⟨bd eG.out 0,bd eG.out 1⟩ (fun hHeld=>?_);clear hK K;refine nm 39 ?_;refine qF 4 40 (fun K hK=>?_)
   refine EI Tryz.func51 #[.pointer (some ⟨g,0,none⟩), .slice a3B aVM.length a9r] ?_
   with_reducible refine(gH.calls k g dG aDd _ _ aVM LB bBr w0 _ ?dS ?iE ?mU ?FW ?aFa A52.out).mono ?_
   (case dS=>repeat(with_reducible exact HI0.out));(case iE=>repeat(with_reducible exact HB.out));(case mU=>exact cq (Kd.aM NR.out).2.2);(case FW=>exact(Kd.aM NR.out).2.1);(case aFa=>exact uX (aI.vM HI0.out NR.out (by decide)))
   rintro e w69 ⟨rfl,hi,hb,hk⟩;refine⟨_,rfl,?_⟩;replace eF:=kk hk eF mG
   replace gM:=ka (aI.apart HI0.out (rq gM.out) (by decide)) hk
   replace fO:=ka (aI.apart HI0.out (rq fO.out) (by decide)) hk
   replace eG:=kk hk eG oN
   replace NR:=ka (aI.apart HI0.out (rq NR.out) (by decide)) hk
   replace HK:=ku SK hk;replace HB:=am (hb);replace HI0:=am (hi);clear hb hk hi
   have p54:0≤(0:Int):=(by omega)
   have q54:(0:Int)<((l6.length:Int):Int):=dt
   have bSP:(0<l6.length)=True:=eq_true (by omega)
   obtain⟨EJ,bGA,a0n,a9z,bIc,bRg,a4m⟩:=Kd.F4 fO.out (by omega)
   (cases a0n)
   have a3L:=am a9z;have a3T:=am a4m;clear a9z bIc a4m;obtain⟨bQ8,a9V,a9N,aN2,aOh⟩:=Kd.aBx fO.out z56 (0:Int) p54 q54;obtain rfl:=aA4 a9N
   have aOw:World.cell? _ ⟨EJ,(0:Int).toNat*2,none⟩=some (.string ((aX l6 0).f0)):=aN2 0 _ rfl
   have aOx:World.cell? _ ⟨EJ,(0:Int).toNat*2+1,none⟩=some (.string ((aX l6 0).f1)):=aN2 1 _ rfl
   have aOf:World.frozen? _ ⟨EJ,(0:Int).toNat*2,none⟩=false:=aOh 0
   have aOg:World.frozen? _ ⟨EJ,(0:Int).toNat*2+1,none⟩=false:=aOh 1
   clear a9V aN2 aOh;clear a9N
   rw [show((0:Int)).toNat=0 from rfl] at aOw
   simp only [Nat.reduceMul,Nat.zero_mul,Nat.zero_add,Nat.reduceAdd] at aOw
   rw [show((0:Int)).toNat=0 from rfl] at aOf
   simp only [Nat.reduceMul,Nat.zero_mul,Nat.zero_add,Nat.reduceAdd] at aOf
   rw [show((0:Int)).toNat=0 from rfl] at aOx
   simp only [Nat.reduceMul,Nat.zero_mul,Nat.zero_add,Nat.reduceAdd] at aOx
   rw [show((0:Int)).toNat=0 from rfl] at aOg
   simp only [Nat.reduceMul,Nat.zero_mul,Nat.zero_add,Nat.reduceAdd] at aOg
   replace p54:=eq_true p54;replace q54:=eq_true q54
   have aLO:=am (show g≠EJ from by have h_:=aI.vM HI0.out fO.out (by decide);intro e_;exact h_ (by rw [e_];rfl))
   obtain⟨bQ9,aXP,a9O,aXM,a99⟩:=Kd.aBx fO.out z56 (0:Int) (by omega) aWF
   obtain rfl:=aA4 a9O
   have aY7:=(Kd.aWr fO.out (0:Int) (by omega) aWF (yS:=[.string LB]) (j:=0) aXP aXM (show 1≤2 from by decide) (x' :=(⟨LB,(aX l6 0).f1⟩:sV)) (aCZ _ _ _ (⟨LB,(aX l6 0).f1⟩:sV)) (fun _ hk=>hk)).1
   rw [←a6i.out] at aY7;have bFy:=am aY7
   clear aXP aXM a99 aY7;clear a9O;refine hK.out _ _ ⟨bd eG.out 0,bd eG.out 1⟩ (fun hHeld=>?_);clear hK K;refine nm 40 ?_;refine pu 5 41 ?_;refine pu 6 42 ?_
   refine UL (i:=7) (N:=none) #[true,true,true,true,true,true,true,true] rfl rfl (CR kQ.out (by kernel_rfl)) (by decide) (fun K hK=>?_)
   refine RL (w1:=?_) (by rfl) rfl ?_ ?_
   rotate_left
   ·go_simp
    rfl
   refine hK.out _ _ ?_;clear hK K
   refine kD (fQ kQ.out (by kernel_rfl)) ?_
   have vK:aC (Kd.R yG 87 (w69.setCell ⟨EJ,0,none⟩ (.string LB)) w.heap.size (fun _=>True) (.slice U0 t247.length U4) t247):=⟨rq (Kd.bA (Kd.bZ (p:=⟨EJ,0,none⟩) (Kd.eQ gM.out a3T.out (by decide)) (fun _ hk=>hk.2) (.string LB)) (fun _ hk=>trivial))⟩
   have vL:aC (Kd.R NK 56 (w69.setCell ⟨EJ,0,none⟩ (.string LB)) w.heap.size (fun _=>True) (.slice (some ⟨EJ,0,none⟩) l6.length aBM) bLW):=⟨rq bFy.out⟩
   have GL:aC (Kd.R Kd.string 9 (w69.setCell ⟨EJ,0,none⟩ (.string LB)) w.heap.size (fun _=>True) (.slice a3B aVM.length a9r) aVM):=⟨rq (Kd.bA (Kd.bZ (p:=⟨EJ,0,none⟩) (Kd.eQ NR.out a3T.out (by decide)) (fun _ hk=>hk.2) (.string LB)) (fun _ hk=>trivial))⟩
   have MO:aC ((w69.setCell ⟨EJ,0,none⟩ (.string LB)).heap[fU]?=some (.cells #[.slice none 0 0, .slice none 0 0] 26 (0,0))):=⟨by(with_reducible repeat(fail));refine iV ?_ (by have h_:=Kd.zO fO.out eF.out (by decide);intro e_;exact h_ (by rw [e_];rfl)) _;(with_reducible repeat(fail));exact eF.out⟩
   have n4_:aC ((w69.setCell ⟨EJ,0,none⟩ (.string LB)).heap[fV]?=some (.cells #[.slice U0 t247.length U4, .slice (some ⟨EJ,0,none⟩) l6.length aBM] 26 (0,0))):=⟨by(with_reducible repeat(fail));refine iV ?_ (by have h_:=Kd.zO fO.out eG.out (by decide);intro e_;exact h_ (by rw [e_];rfl)) _;(with_reducible repeat(fail));exact eG.out⟩
   have n5_:aC (aI w0 (w69.setCell ⟨EJ,0,none⟩ (.string LB)) g dG bBr):=⟨by repeat(with_reducible first|exact HI0.out|refine aI.vZ ?_ aLO.out _)⟩
   have n6_:aC (aZ w (w69.setCell ⟨EJ,0,none⟩ (.string LB)) g none):=⟨by repeat(with_reducible first|exact HK.out|refine nW ?_ a3L.out _)⟩
   have n7_:aC (Below w0.heap.size w0 (w69.setCell ⟨EJ,0,none⟩ (.string LB))):=⟨by repeat(with_reducible first|exact HB.out|refine bO ?_ (Nat.le_trans HL.out a3L.out))⟩
   clear gM fO NR eF eG HI0 HK HB;generalize (w69.setCell ⟨EJ,0,none⟩ (.string LB))=w71 at vK vL GL MO n4_ n5_ n6_ n7_⊢
   have gM:=vK;have fO:=vL;have NR:=GL;have eF:=MO;have eG:=n4_;have HI0:=n5_;have HK:=n6_;have HB:=n7_;clear vK vL GL MO n4_ n5_ n6_ n7_;have⟨_,_,_,_⟩:=oP eG.out;have bPC:=mG.out;have bQd:=uS.out;have⟨_,_,_,_⟩:=oP eF.out
   try go_wp2
   refine bodyPost_ret (results_cell_row rfl _ _ fU 26 #[.slice U0 t247.length U4, .slice (some ⟨EJ,0,none⟩) l6.length aBM] (0,0) _ rfl (by(with_reducible repeat(fail));refine bM (cs:= #[.slice U0 t247.length U4, .slice none 0 0]) ?_ 1 _ rfl;(with_reducible repeat(fail));refine bM (cs:= #[.slice none 0 0, .slice none 0 0]) ?_ 0 _ rfl;(with_reducible repeat(fail));exact eF.out) Tryz.underlying26 rfl (by kernel_rfl)) rfl ?_
   exact⟨_,_,nD,by(with_reducible repeat(fail));exact Kd.bA (Kd.bZ (p:=⟨fU,1,none⟩) (Kd.bZ (p:=⟨fU,0,none⟩) (Kd.eQ gM.out eF.out (by decide)) (fun _ hk=>hk.2) (.slice U0 t247.length U4)) (fun _ hk=>hk.2) (.slice (some ⟨EJ,0,none⟩) l6.length aBM)) (fun _ hk=>trivial),by(with_reducible repeat(fail));exact Kd.bA (Kd.bZ (p:=⟨fU,1,none⟩) (Kd.bZ (p:=⟨fU,0,none⟩) (Kd.eQ fO.out eF.out (by decide)) (fun _ hk=>hk.2) (.slice U0 t247.length U4)) (fun _ hk=>hk.2) (.slice (some ⟨EJ,0,none⟩) l6.length aBM)) (fun _ hk=>trivial),U3,U2,SK⟩
  rw [if_neg c51] at H;have aNj:=decide_eq_false c51
  have a8T:decide (0<l6.length)=false:=decide_eq_false (by omega)
  clear c51;simp only [Option.some.injEq,Prod.mk.injEq] at H
  obtain⟨rfl,rfl,rfl⟩:=H;go_enter Tryz.func17,Tryz.ntmps17
  go_wp2_with (first|(refine gd 2 ?_;refine bx 2 (cs:= #[.slice none 0 0, .slice none 0 0]) (t:=26) ?_;intro fU hg w75 bT hb;replace HB:=am (aY FB hb);have eF:=am (bT);have TT:=am ((NJ:w.heap.size≤fU));have G6:=am ((Nat.le_trans HW0.out (NJ:w.heap.size≤fU):w0.heap.size≤fU));replace HK:=kt g uO hb;have uS:=am ((OD:g≠fU));have mG:=am ((OE:fU≠g));replace HI0:=am (aI.below DV hb);clear hb bT hg)|(refine gd 5 ?_;refine gm Tryz.func47 (bE.calls k g dG iX t247 l6 yT w0 _ HI0.out HB.out A2.out) ?_;rintro e w76 ⟨aVx,aRn,rfl,ho0,ho1,hi,hb,hk⟩;refine⟨_,rfl,?_⟩;replace eF:=kk hk eF mG;have gM:=kl g ho0 b7_;have fO:=kl g ho1 b7_;replace HK:=ku b7_ hk;replace HB:=am (hb);replace HI0:=am (hi);clear hb hk hi;clear ho0 ho1)|(refine gd 3 ?_;refine bx 3 (cs:= #[.slice none 0 0, .slice none 0 0]) (t:=26) ?_;intro fV hg w77 bT hb;replace gM:=kr gM hb;replace fO:=kr fO hb;replace HB:=am (aY aMQ hb);have eG:=am (bT);have aDy:=am ((ZT:w.heap.size≤fV));have LW:=am ((Nat.le_trans HW0.out (ZT:w.heap.size≤fV):w0.heap.size≤fV));replace HK:=kt g b7_ hb;have nJ:=am ((aMY:fU≠fV));have qU:=am ((aMZ:fV≠fU));replace eF:=kb eF hb;have lZ:=am ((aML:g≠fV));have oN:=am ((aMM:fV≠g));replace HI0:=am (aI.below aMV hb);clear hb bT hg;obtain⟨aDu,aEf,bHV⟩:=Kd.bS gM.out;subst bHV;have bPD:=qU.out;have bQe:=nJ.out;have bPE:=oN.out;have bQf:=lZ.out;have⟨_,_,_,_⟩:=oP eG.out;obtain⟨aJ8,aKy,bHW⟩:=Kd.bS fO.out;subst bHW)|(refine gd 7 ?_;refine gv Tryz.func48 (aQ.calls k g dG yT 16 FX aDd w0 _ ?dS ?iE A3.out) ?_;(case dS=>repeat(with_reducible first|exact HI0.out|refine aI.vZ ?_ lZ.out _));(case iE=>repeat(with_reducible first|exact HB.out|refine bO ?_ LW.out));rintro w83 ⟨hi,hb,hk⟩;replace eF:=am (aZ.ZU hk (g' :=fU) (o:= .cells #[.slice none 0 0, .slice none 0 0] 26 (0,0)) aMI mG.out (by simp));replace gM:=ka (aI.apart (show aI w0 _ g dG yT from by repeat(with_reducible first|exact HI0.out|refine aI.vZ ?_ lZ.out _)) (rq ((Kd.bA (Kd.bZ (p:=⟨fV,1,none⟩) (Kd.bZ (p:=⟨fV,0,none⟩) (Kd.eQ gM.out eG.out (by decide)) (fun _ hk=>hk.2) (.slice aDu t247.length aEf)) (fun _ hk=>hk.2) (.slice aJ8 l6.length aKy)) (fun _ h_=>h_.1)))) (by decide)) hk;replace fO:=ka (aI.apart (show aI w0 _ g dG yT from by repeat(with_reducible first|exact HI0.out|refine aI.vZ ?_ lZ.out _)) (rq ((Kd.bA (Kd.bZ (p:=⟨fV,1,none⟩) (Kd.bZ (p:=⟨fV,0,none⟩) (Kd.eQ fO.out eG.out (by decide)) (fun _ hk=>hk.2) (.slice aDu t247.length aEf)) (fun _ hk=>hk.2) (.slice aJ8 l6.length aKy)) (fun _ h_=>h_.1)))) (by decide)) hk;replace eG:=am (aZ.ZU hk (g' :=fV) (o:= .cells #[.slice aDu t247.length aEf, .slice aJ8 l6.length aKy] 26 (0,0)) (by(with_reducible repeat(fail));refine bM (cs:= #[.slice aDu t247.length aEf, .slice none 0 0]) ?_ 1 _ rfl;(with_reducible repeat(fail));refine bM (cs:= #[.slice none 0 0, .slice none 0 0]) ?_ 0 _ rfl;(with_reducible repeat(fail));exact eG.out) oN.out (by simp));replace HK:=ku SK hk;replace HB:=am (hb);replace HI0:=am (hi);clear hb hk hi;have⟨_,_,_,_⟩:=oP eG.out;have bPF:=mG.out;have bQg:=uS.out;have⟨_,_,_,_⟩:=oP eF.out))
  refine bodyPost_ret (results_cell_row rfl _ _ fU 26 #[.slice aDu t247.length aEf, .slice aJ8 l6.length aKy] (0,0) _ rfl (by(with_reducible repeat(fail));refine bM (cs:= #[.slice aDu t247.length aEf, .slice none 0 0]) ?_ 1 _ rfl;(with_reducible repeat(fail));refine bM (cs:= #[.slice none 0 0, .slice none 0 0]) ?_ 0 _ rfl;(with_reducible repeat(fail));exact eF.out) Tryz.underlying26 rfl (by kernel_rfl)) rfl ?_
  exact⟨_,_,nD,by(with_reducible repeat(fail));exact Kd.bA (Kd.bZ (p:=⟨fU,1,none⟩) (Kd.bZ (p:=⟨fU,0,none⟩) (Kd.eQ gM.out eF.out (by decide)) (fun _ hk=>hk.2) (.slice aDu t247.length aEf)) (fun _ hk=>hk.2) (.slice aJ8 l6.length aKy)) (fun _ hk=>trivial),by(with_reducible repeat(fail));exact Kd.bA (Kd.bZ (p:=⟨fU,1,none⟩) (Kd.bZ (p:=⟨fU,0,none⟩) (Kd.eQ fO.out eF.out (by decide)) (fun _ hk=>hk.2) (.slice aDu t247.length aEf)) (fun _ hk=>hk.2) (.slice aJ8 l6.length aKy)) (fun _ hk=>trivial),U3,U2,SK⟩
 rw [if_neg ZM] at H
 have H7:(FX==2)=false:=beq_eq_false_iff_ne.mpr ZM
 have aNi:(FX !=2)=true:=bne_iff_ne.mpr ZM
 simp only [Option.some.injEq,Prod.mk.injEq] at H
 obtain⟨rfl,rfl,rfl⟩:=H;go_enter Tryz.func17,Tryz.ntmps17
 go_wp2_with (first|(refine gd 2 ?_;refine bx 2 (cs:= #[.slice none 0 0, .slice none 0 0]) (t:=26) ?_;intro fU hg w87 bT hb;replace HB:=am (aY FB hb);have eF:=am (bT);have TT:=am ((NJ:w.heap.size≤fU));have G6:=am ((Nat.le_trans HW0.out (NJ:w.heap.size≤fU):w0.heap.size≤fU));replace HK:=kt g uO hb;have uS:=am ((OD:g≠fU));have mG:=am ((OE:fU≠g));replace HI0:=am (aI.below DV hb);clear hb bT hg)|(refine gd 5 ?_;refine gm Tryz.func47 (bE.calls k g dG iX t247 l6 yT w0 _ HI0.out HB.out A2.out) ?_;rintro e w88 ⟨aVx,aRn,rfl,ho0,ho1,hi,hb,hk⟩;refine⟨_,rfl,?_⟩;replace eF:=kk hk eF mG;have gM:=kl g ho0 b7_;have fO:=kl g ho1 b7_;replace HK:=ku b7_ hk;replace HB:=am (hb);replace HI0:=am (hi);clear hb hk hi;clear ho0 ho1)|(refine gd 3 ?_;refine bx 3 (cs:= #[.slice none 0 0, .slice none 0 0]) (t:=26) ?_;intro fV hg w89 bT hb;replace gM:=kr gM hb;replace fO:=kr fO hb;replace HB:=am (aY aMQ hb);have eG:=am (bT);have aDy:=am ((ZT:w.heap.size≤fV));have LW:=am ((Nat.le_trans HW0.out (ZT:w.heap.size≤fV):w0.heap.size≤fV));replace HK:=kt g b7_ hb;have nJ:=am ((aMY:fU≠fV));have qU:=am ((aMZ:fV≠fU));replace eF:=kb eF hb;have lZ:=am ((aML:g≠fV));have oN:=am ((aMM:fV≠g));replace HI0:=am (aI.below aMV hb);clear hb bT hg;obtain⟨aDv,aEg,bHX⟩:=Kd.bS gM.out;subst bHX;have bPG:=qU.out;have bQh:=nJ.out;have bPH:=oN.out;have bQi:=lZ.out;have⟨_,_,_,_⟩:=oP eG.out;obtain⟨aJ9,aKz,bHZ⟩:=Kd.bS fO.out;subst bHZ)|(refine gd 7 ?_;refine gv Tryz.func48 (aQ.calls k g dG yT 16 FX aDd w0 _ ?dS ?iE A3.out) ?_;(case dS=>repeat(with_reducible first|exact HI0.out|refine aI.vZ ?_ lZ.out _));(case iE=>repeat(with_reducible first|exact HB.out|refine bO ?_ LW.out));rintro w95 ⟨hi,hb,hk⟩;replace eF:=am (aZ.ZU hk (g' :=fU) (o:= .cells #[.slice none 0 0, .slice none 0 0] 26 (0,0)) aMI mG.out (by simp));replace gM:=ka (aI.apart (show aI w0 _ g dG yT from by repeat(with_reducible first|exact HI0.out|refine aI.vZ ?_ lZ.out _)) (rq ((Kd.bA (Kd.bZ (p:=⟨fV,1,none⟩) (Kd.bZ (p:=⟨fV,0,none⟩) (Kd.eQ gM.out eG.out (by decide)) (fun _ hk=>hk.2) (.slice aDv t247.length aEg)) (fun _ hk=>hk.2) (.slice aJ9 l6.length aKz)) (fun _ h_=>h_.1)))) (by decide)) hk;replace fO:=ka (aI.apart (show aI w0 _ g dG yT from by repeat(with_reducible first|exact HI0.out|refine aI.vZ ?_ lZ.out _)) (rq ((Kd.bA (Kd.bZ (p:=⟨fV,1,none⟩) (Kd.bZ (p:=⟨fV,0,none⟩) (Kd.eQ fO.out eG.out (by decide)) (fun _ hk=>hk.2) (.slice aDv t247.length aEg)) (fun _ hk=>hk.2) (.slice aJ9 l6.length aKz)) (fun _ h_=>h_.1)))) (by decide)) hk;replace eG:=am (aZ.ZU hk (g' :=fV) (o:= .cells #[.slice aDv t247.length aEg, .slice aJ9 l6.length aKz] 26 (0,0)) (by(with_reducible repeat(fail));refine bM (cs:= #[.slice aDv t247.length aEg, .slice none 0 0]) ?_ 1 _ rfl;(with_reducible repeat(fail));refine bM (cs:= #[.slice none 0 0, .slice none 0 0]) ?_ 0 _ rfl;(with_reducible repeat(fail));exact eG.out) oN.out (by simp));replace HK:=ku SK hk;replace HB:=am (hb);replace HI0:=am (hi);clear hb hk hi;have⟨_,_,_,_⟩:=oP eG.out;have bPI:=mG.out;have bQj:=uS.out;have⟨_,_,_,_⟩:=oP eF.out))
 refine bodyPost_ret (results_cell_row rfl _ _ fU 26 #[.slice aDv t247.length aEg, .slice aJ9 l6.length aKz] (0,0) _ rfl (by(with_reducible repeat(fail));refine bM (cs:= #[.slice aDv t247.length aEg, .slice none 0 0]) ?_ 1 _ rfl;(with_reducible repeat(fail));refine bM (cs:= #[.slice none 0 0, .slice none 0 0]) ?_ 0 _ rfl;(with_reducible repeat(fail));exact eF.out) Tryz.underlying26 rfl (by kernel_rfl)) rfl ?_
 exact⟨_,_,nD,by(with_reducible repeat(fail));exact Kd.bA (Kd.bZ (p:=⟨fU,1,none⟩) (Kd.bZ (p:=⟨fU,0,none⟩) (Kd.eQ gM.out eF.out (by decide)) (fun _ hk=>hk.2) (.slice aDv t247.length aEg)) (fun _ hk=>hk.2) (.slice aJ9 l6.length aKz)) (fun _ hk=>trivial),by(with_reducible repeat(fail));exact Kd.bA (Kd.bZ (p:=⟨fU,1,none⟩) (Kd.bZ (p:=⟨fU,0,none⟩) (Kd.eQ fO.out eF.out (by decide)) (fun _ hk=>hk.2) (.slice aDv t247.length aEg)) (fun _ hk=>hk.2) (.slice aJ9 l6.length aKz)) (fun _ hk=>trivial),U3,U2,SK⟩
def eU.l0:Nat→ByteArray→Int→Int→Option (Bool)
 |0,_,_,_=>none
 |k+1,x0,x1,x5=>if x5<(x0.size:Int)then(if 0≤x5 then(if(bt x0 x5)<97 then(some false)else(if(bt x0 x5)>122 then(some false)else(eU.l0 k x0 x1 (wrap64 (x5+1)))))else(none))else(some (decide ((x0.size:Int)≤x1)))
def eU.f (k:Nat) (a0:ByteArray) (a1:Int):Option (Bool):=eU.l0 k a0 a1 0
theorem eU.calls (k:Nat) (a0:ByteArray) (a1:Int) (r:Bool) (w:World) (h:eU.f k a0 a1=some r):
  Calls Tryz.prog 63 #[.string a0, .int .i64 a1] w fun e w' =>e= .returned (.bool r)∧iB w w' :=by
 have H:=h;unfold eU.f at H
 clear h
 have H' :=am H
 clear H;go_enter Tryz.func63,Tryz.ntmps63;go_wp2
 go_loopg [5] k (fun kq v5 w' => ∃(bI:Int),v5= .int .i64 bI∧aC (eU.l0 kq a0 a1 bI=some r)∧aC (kq≤k)∧iB w w')
 case atStart=>exact⟨(0),sq,H',⟨Nat.le_refl _⟩,dr⟩
 case round=>
  clear H';obtain⟨bI,rfl,HA,lM,⟨m1,rfl⟩⟩:=hrel
  cases gk with
  |zero=>exact absurd HA.out (by simp [eU.l0])
  |succ k1=>
   have H:=HA.out;clear HA;simp only [eU.l0] at H
   replace H:=iv H;rcases H with ⟨oG,H⟩|⟨oG,H⟩
   ·replace H:=it H;obtain⟨qZ,H⟩:=H
    replace H:=iv H;rcases H with ⟨sW,H⟩|⟨sW,H⟩
    ·obtain rfl:=si H
     have p5:0≤(bI:Int):=dt
     have q5:bI<(a0.size:Int):=dt
     have hx5:=kL a0 bI;replace p5:=eq_true p5;replace q5:=eq_true q5;go_wp2;go_ret
     exact⟨sq,dr⟩
    replace H:=iv H;rcases H with ⟨tK,H⟩|⟨tK,H⟩
    ·obtain rfl:=si H
     have p5:0≤(bI:Int):=dt
     have q5:bI<(a0.size:Int):=dt
     have hx5:=kL a0 bI;replace p5:=eq_true p5;replace q5:=eq_true q5
     have p7:0≤(bI:Int):=dt
     have q7:bI<(a0.size:Int):=dt
     have hx7:=kL a0 bI;replace p7:=eq_true p7;replace q7:=eq_true q7;go_wp2;go_ret
     exact⟨sq,dr⟩
    have H' :=am H
    clear H
    have p5:0≤(bI:Int):=dt
    have q5:bI<(a0.size:Int):=dt
    have hx5:=kL a0 bI;replace p5:=eq_true p5;replace q5:=eq_true q5
    have p7:0≤(bI:Int):=dt
    have q7:bI<(a0.size:Int):=dt
    have hx7:=kL a0 bI;replace p7:=eq_true p7;replace q7:=eq_true q7;go_wp2
    go_roundg k1
    case measure=>have:=lM.out;omega
    case rel=>exact⟨(wrap64 (bI+1)),sq,H',⟨rO⟩,dr⟩
   obtain rfl:=si H;go_wp2;go_ret
   exact⟨sq,dr⟩
def gZ.f (k:Nat) (a0:ByteArray):Option (Bool):=if(a0.size:Int)>0 then((eU.f k a0 12).bind fun a2H=>(some a2H))else(some false)
theorem gZ.calls (k:Nat) (a0:ByteArray) (r:Bool) (w:World) (h:gZ.f k a0=some r):
  Calls Tryz.prog 24 #[.string a0] w fun e w' =>e= .returned (.bool r)∧iB w w' :=by
 have H:=h;unfold gZ.f at H
 clear h
 by_cases c2:(a0.size:Int)>0
 ·rw [if_pos c2] at H;have wD:=decide_eq_true c2
  have ZW:decide (0<a0.size)=true:=decide_eq_true (by omega)
  clear c2;replace H:=ba H;obtain⟨a2H,A3,H⟩:=H;obtain rfl:=si H;go_enter Tryz.func24,Tryz.ntmps24
  go_wp2_with (go_at_call 63;(with_reducible refine(eU.calls k a0 12 a2H _ A3.out).mono ?_);rintro e w' ⟨rfl,⟨nd,rfl⟩⟩)
  go_ret
  exact⟨sq,dr⟩
 rw [if_neg c2] at H;have wD:=decide_eq_false c2
 have ZW:decide (0<a0.size)=false:=decide_eq_false (by omega)
 clear c2;obtain rfl:=si H;go_enter Tryz.func24,Tryz.ntmps24;go_wp2;go_ret
 exact⟨sq,dr⟩
def iC.j0:Nat→List ByteArray→ByteArray→Bool→Option (List ByteArray)
 |0,_,_,_=>none
 |k+1,x0,x2,x14=>if x14=true then(some x0)else((dL.f k x0 x2).bind fun a2I=>(some a2I))
def iC.f (k:Nat) (l0:List ByteArray) (a1:ByteArray) (a2:ByteArray):Option (List ByteArray):=if a2.toList=a1.toList then(iC.j0 k l0 a2 true)else((gZ.f k a2).bind fun aU1=>(iC.j0 k l0 a2 (!aU1)))
theorem iC.calls (k:Nat) (HV:Nat→Prop) (A0:Option Addr) (c0:Nat) (l0:List ByteArray) (a1:ByteArray) (a2:ByteArray) (r:List ByteArray) (w:World) (hs0:Kd.V Kd.string 9 w w.heap.size (fun k_=>HV k_) (.slice A0 l0.length c0) l0) (h:iC.f k l0 a1 a2=some r):
  Calls Tryz.prog 84 #[.slice A0 l0.length c0, .string a1, .string a2] w fun e w' => ∃sQ:Value,e= .returned (sQ)∧Kd.V Kd.string 9 w' w.heap.size (fun k_=>(HV k_∨w.heap.size≤k_)) sQ r∧Below w.heap.size w w' :=by
 have HO0:=am (show Kd.V Kd.string 9 w w.heap.size (fun k_=>(HV k_∨w.heap.size≤k_)) (.slice A0 l0.length c0) l0 from Kd.gJ hs0 (fun k_ hk=> .inl hk));have HB:=am (Below.refl w.heap.size w)
 have H:=h;unfold iC.f at H
 clear h;have HC4:=am H;clear H;go_enter Tryz.func84,Tryz.ntmps84
 go_upto_region 1 with (fail)
 go_cut [14] (fun v14 wc=> ∃(kq:Nat) (aRq:Bool),v14= .bool aRq∧aC (iC.j0 kq l0 a2 aRq=some r)∧aC (kq≤k)∧aC (Kd.V Kd.string 9 wc w.heap.size (fun k_=>(HV k_∨w.heap.size≤k_)) (.slice A0 l0.length c0) l0)∧aC (Below w.heap.size w wc))
 case first=>
  have H:=HC4.out;clear HC4
  by_cases c5:a2.toList=a1.toList
  ·rw [if_pos c5] at H
   have oL:(a2.toList==a1.toList)=true:=beq_iff_eq.mpr c5
   have JF:(a2.toList !=a1.toList)=false:=bne_eq_false_iff_eq.mpr c5
   clear c5
   (skip)
   have H' :=am H
   clear H;go_wp2
   go_meet
   case rel=>exact⟨_,(true),sq,H',⟨xI⟩,⟨vq HO0.out⟩,⟨gP⟩⟩
  rw [if_neg c5] at H
  have oL:(a2.toList==a1.toList)=false:=beq_eq_false_iff_ne.mpr c5
  have JF:(a2.toList !=a1.toList)=true:=bne_iff_ne.mpr c5
  (skip)
  replace H:=ba H;obtain⟨aU1,A6,H⟩:=H
  have H' :=am H
  clear H
  go_wp2_with (go_at_call 24;(with_reducible refine(gZ.calls k a2 aU1 _ A6.out).mono ?_);rintro e w' ⟨rfl,⟨nd,rfl⟩⟩)
  go_meet
  case rel=>exact⟨_,(!aU1),sq,H',⟨xI⟩,⟨vq HO0.out⟩,⟨gP⟩⟩
 case rest=>
  clear HC4;obtain⟨kq,aRq,rfl,HA,HJ3,pI,HB⟩:=hcut
  cases kq with
  |zero=>exact absurd HA.out (by simp [iC.j0])
  |succ kj3=>
   have H:=HA.out;clear HA;simp only [iC.j0] at H
   replace H:=ib H;rcases H with ⟨rfl,H⟩|⟨rfl,H⟩
   ·obtain rfl:=si H;go_wp2;go_ret
    exact⟨_,nD,by(with_reducible repeat(fail));exact pI.out,gP⟩
   replace H:=ba H;obtain⟨a2I,A8,H⟩:=H;obtain rfl:=si H
   go_wp2_with (refine gd 18 ?_;refine gx Tryz.func65 (dL.calls kj3 (fun k_=>(HV k_∨w.heap.size≤k_)) _ _ l0 a2 a2I _ pI.out A8.out) ?_;rintro bS7 w9 ⟨ho0,hb⟩;replace pI:=am (Kd.qB (vq pI.out) hb);have a4u:=am (Kd.nZ (Kd.gJ (ok' :=fun k_=>(HV k_∨w.heap.size≤k_)) ho0 (fun k_ rQ=>Or.elim rQ (fun hs_=>hs_) (fun EK=>(.inr (Nat.le_trans (aH gP) EK))))) (aH gP));replace HB:=o8 hb;clear hb;clear ho0)
   go_ret
   exact⟨_,nD,by(with_reducible repeat(fail));exact a4u.out,gP⟩
mutual
def aW.l0:Nat→ByteArray→List ByteArray→Int→Option (List ByteArray)
 |0,_,_,_=>none
 |k+1,x0,x3,x4=>if x4≤(x0.size:Int)then(aW.l1 k x0 x3 x4 97)else(some x3)
def aW.l1:Nat→ByteArray→List ByteArray→Int→Int→Option (List ByteArray)
 |0,_,_,_,_=>none
 |k+1,x0,x3,x4,x5=>if x5≤122 then(if 0≤x4 then(if x4≤(x0.size:Int)then((some (([(x5)%256]:List Int):List Int)).bind fun RX=>(if(x0.extract 0 (x4:Int).toNat).size+(strOfNums RX).size≤9223372036854775807 then(if((x0.extract 0 (x4:Int).toNat)++(strOfNums RX)).size+(x0.extract (x4:Int).toNat x0.size).size≤9223372036854775807 then((iC.f k x3 x0 (((x0.extract 0 (x4:Int).toNat)++(strOfNums RX))++(x0.extract (x4:Int).toNat x0.size))).bind fun aFe=>(if x4<(x0.size:Int)then((some (([(x5)%256]:List Int):List Int)).bind fun VL=>(if(x0.extract 0 (x4:Int).toNat).size+(strOfNums VL).size≤9223372036854775807 then(if 0≤(wrap64 (x4+1))then(if(wrap64 (x4+1))≤(x0.size:Int)then(if((x0.extract 0 (x4:Int).toNat)++(strOfNums VL)).size+(x0.extract ((wrap64 (x4+1)):Int).toNat x0.size).size≤9223372036854775807 then((iC.f k aFe x0 (((x0.extract 0 (x4:Int).toNat)++(strOfNums VL))++(x0.extract ((wrap64 (x4+1)):Int).toNat x0.size))).bind fun aU2=>(aW.l1 k x0 aU2 x4 (wrap32 (x5+1))))else(none))else(none))else(none))else(none)))else(aW.l1 k x0 aFe x4 (wrap32 (x5+1)))))else(none))else(none)))else(none))else(none))else(if x4<(x0.size:Int)then(if 0≤x4 then(if x4≤(x0.size:Int)then(if 0≤(wrap64 (x4+1))then(if(wrap64 (x4+1))≤(x0.size:Int)then(if(x0.extract 0 (x4:Int).toNat).size+(x0.extract ((wrap64 (x4+1)):Int).toNat x0.size).size≤9223372036854775807 then((iC.f k x3 x0 ((x0.extract 0 (x4:Int).toNat)++(x0.extract ((wrap64 (x4+1)):Int).toNat x0.size))).bind fun aU3=>(aW.j2 k x0 aU3 x4))else(none))else(none))else(none))else(none))else(none))else(aW.j2 k x0 x3 x4))
def aW.j2:Nat→ByteArray→List ByteArray→Int→Option (List ByteArray)
 |0,_,_,_=>none
 |k+1,x0,x3,x4=>if(wrap64 (x4+1))<(x0.size:Int)then(if 0≤x4 then(if x4≤(x0.size:Int)then(if 0≤(wrap64 (x4+1))then(if(wrap64 (x4+1))≤(wrap64 (x4+2))then(if(wrap64 (x4+2))≤(x0.size:Int)then(if(x0.extract 0 (x4:Int).toNat).size+(x0.extract ((wrap64 (x4+1)):Int).toNat ((wrap64 (x4+2)):Int).toNat).size≤9223372036854775807 then(if x4≤(wrap64 (x4+1))then(if(wrap64 (x4+1))≤(x0.size:Int)then(if((x0.extract 0 (x4:Int).toNat)++(x0.extract ((wrap64 (x4+1)):Int).toNat ((wrap64 (x4+2)):Int).toNat)).size+(x0.extract (x4:Int).toNat ((wrap64 (x4+1)):Int).toNat).size≤9223372036854775807 then(if 0≤(wrap64 (x4+2))then(if(((x0.extract 0 (x4:Int).toNat)++(x0.extract ((wrap64 (x4+1)):Int).toNat ((wrap64 (x4+2)):Int).toNat))++(x0.extract (x4:Int).toNat ((wrap64 (x4+1)):Int).toNat)).size+(x0.extract ((wrap64 (x4+2)):Int).toNat x0.size).size≤9223372036854775807 then((iC.f k x3 x0 ((((x0.extract 0 (x4:Int).toNat)++(x0.extract ((wrap64 (x4+1)):Int).toNat ((wrap64 (x4+2)):Int).toNat))++(x0.extract (x4:Int).toNat ((wrap64 (x4+1)):Int).toNat))++(x0.extract ((wrap64 (x4+2)):Int).toNat x0.size))).bind fun aU4=>(aW.l0 k x0 aU4 (wrap64 (x4+1))))else(none))else(none))else(none))else(none))else(none))else(none))else(none))else(none))else(none))else(none))else(none))else(aW.l0 k x0 x3 (wrap64 (x4+1)))
end
def aW.f (k:Nat) (a0:ByteArray):Option (List ByteArray):=aW.l0 k a0 (([]:List ByteArray)) 0
def aW.T8:Bool×List (List Nat×List Nat):=(true,[([],[]),([],[]),([],[]),([],[]),([2,3],[2,3]),([],[]),([5],[5]),([6],[6]),([7],[7]),([4,8],[4,8]),([],[]),([],[]),([10,11],[10,11]),([9,12],[9,12]),([0,1,13],[0,1,13]),([14,14,0,1,2,3,4,5,6,7,8,9,10,11,12,13,14],[0,14])])
def aW.B8:List Nat:=[0,0,0,0,12,0,32,96,224,508,0,0,3072,8188,16383,32767]
theorem aW.bCp:nX .any (opsOf Tryz.f52 8)=aW.T8:=by kernel_rfl
theorem aW.aWN:jA aW.T8.2 aW.B8=true:=by kernel_rfl
def aW.T10:Bool×List (List Nat×List Nat):=(true,[([],[]),([],[]),([],[]),([],[]),([2,3],[2,3]),([],[]),([5],[5]),([6],[6]),([7],[7]),([4,8],[4,8]),([],[]),([],[]),([11],[11]),([10,12],[10,12]),([9,13],[9,13]),([0,1,14],[0,1,14]),([15,15,0,1,2,3,4,5,6,7,8,9,10,11,12,13,14,15],[0,15])])
def aW.B10:List Nat:=[0,0,0,0,12,0,32,96,224,508,0,0,2048,7168,16380,32767,65535]
theorem aW.aRi:nX .any (opsOf Tryz.f52 10)=aW.T10:=by kernel_rfl
theorem aW.aFB:jA aW.T10.2 aW.B10=true:=by kernel_rfl
def aW.T12:Bool×List (List Nat×List Nat):=(true,[([],[]),([],[]),([],[]),([],[]),([2,3],[2,3]),([],[]),([],[]),([6],[6]),([5,7],[5,7]),([4,8],[4,8]),([0,1,9],[0,1,9]),([10,10,0,1,2,3,4,5,6,7,8,9,10],[0,10])])
def aW.B12:List Nat:=[0,0,0,0,12,0,0,64,224,508,1023,2047]
theorem aW.aJU:nX .any (opsOf Tryz.f52 12)=aW.T12:=by kernel_rfl
theorem aW.aBG:jA aW.T12.2 aW.B12=true:=by kernel_rfl
def aW.T14:Bool×List (List Nat×List Nat):=(true,[([],[]),([],[]),([],[]),([],[]),([2,3],[2,3]),([],[]),([],[]),([6],[6]),([],[]),([8],[8]),([5,7,9],[5,7,9]),([4,10],[4,10]),([],[]),([],[]),([],[]),([14],[14]),([12,13,15],[12,13,15]),([11,16],[11,16]),([],[]),([],[]),([19],[19]),([18,20],[18,20]),([17,21],[17,21]),([0,1,22],[0,1,22]),([23,23,0,1,2,3,4,5,6,7,8,9,10,11,12,13,14,15,16,17,18,19,20,21,22,23],[0,23])])
def aW.B14:List Nat:=[0,0,0,0,12,0,0,64,0,256,992,2044,0,0,0,16384,61440,131068,0,0,524288,1835008,4194300,8388607,16777215]
theorem aW.aRj:nX .any (opsOf Tryz.f52 14)=aW.T14:=by kernel_rfl
theorem aW.aFC:jA aW.T14.2 aW.B14=true:=by kernel_rfl
theorem aW.calls (k:Nat) (a0:ByteArray) (r:List ByteArray) (w:World) (h:aW.f k a0=some r):
  Calls Tryz.prog 52 #[.string a0] w fun e w' => ∃sQ:Value,e= .returned (sQ)∧Kd.V Kd.string 9 w' w.heap.size (fun k_=>(w.heap.size≤k_)) sQ r∧Below w.heap.size w w' :=by
 have HB:=am (Below.refl w.heap.size w)
 have H:=h;unfold aW.f at H
 clear h;obtain⟨bLX,aOX⟩: ∃y_:List ByteArray,y_=(([]:List ByteArray)):=⟨_,rfl⟩
 rw [←aOX] at H
 have a6j:=am aOX;clear aOX
 have H' :=am H
 clear H;go_enter Tryz.func52,Tryz.ntmps52
 go_wp2_with (refine gd 6 ?_;refine Kd.mJ Kd.string _ 9 ?hg (N:=6) ?hd (xs:=([]:List ByteArray)) (inner:=[]) (ok:=fun _=>True) (mK:=fun _=>True) ?hr ?hp (fun _ hk=>hk) trivial (Below.refl _ _) (Nat.le_refl _) (by simp) ?_;(case hd=>rfl);(case hg=>rfl);(case hr=>(go_simp;done));(case hp=>exact(dQ.none _ _));intro bS8 w2 ho3 hb lL dP;clear lL dP;(rw [←a6j.out] at ho3);have a4v:=am (Kd.dZ (Kd.yY (M:=fun k_=>(w.heap.size≤k_)) ho3 (aH gP) (fun k_ h_=>h_)) (aH gP));replace HB:=o8 hb;clear hb ho3)
 go_loopg [3,4] k (fun kq v3 v4 w' => ∃(bL:List ByteArray) (aV:Int),v4= .int .i64 aV∧aC (aW.l0 kq a0 bL aV=some r)∧aC (kq≤k)∧aC (Kd.V Kd.string 9 w' w.heap.size (fun k_=>(w.heap.size≤k_)) v3 bL)∧aC (Below w.heap.size w w'))
 case atStart=>exact⟨(bLX),(0),sq,H',⟨Nat.le_refl _⟩,⟨Kd.R_V (rq (Kd.bA a4v.out (fun _ hk=>hk.1)))⟩,⟨gP⟩⟩
 case round=>
  clear H';obtain⟨bL,aV,rfl,HA,lM,dN,HB⟩:=hrel
  cases gk with
  |zero=>exact absurd HA.out (by simp [aW.l0])
  |succ k1=>
   have H:=HA.out;clear HA;simp only [aW.l0] at H
   replace H:=iv H;rcases H with ⟨qZ,H⟩|⟨qZ,H⟩
   ·have H' :=am H
    clear H;go_wp2
    go_loopg [3,5] k1 (fun kq v3 v5 w' => ∃(LF:List ByteArray) (jZ:Int),v5= .int .i32 jZ∧aC (aW.l1 kq a0 LF aV jZ=some r)∧aC (kq≤k1)∧aC (Kd.V Kd.string 9 w' w.heap.size (fun k_=>(w.heap.size≤k_)) v3 LF)∧aC (Below w.heap.size w w'))
    case atStart=>exact⟨(bL),(97),sq,H',⟨Nat.le_refl _⟩,⟨vq dN.out⟩,⟨gP⟩⟩
    case round=>
     clear H';clear qZ;obtain⟨LF,jZ,rfl,HA,uP,dN,HB⟩:=hrel
     cases gk with
     |zero=>exact absurd HA.out (by simp [aW.l1])
     |succ k2=>
      have H:=HA.out;clear HA;simp only [aW.l1] at H
      replace H:=iv H;rcases H with ⟨oL,H⟩|⟨oL,H⟩
      ·replace H:=ip H;obtain⟨c6,H⟩:=H;have sW:=eq_true c6
       have aFF:decide (0≤aV)=true:=decide_eq_true c6
       clear c6;replace H:=ip H;obtain⟨c7,H⟩:=H;have wR:=eq_true c7
       have aFG:decide (aV≤(a0.size:Int))=true:=decide_eq_true c7
       clear c7;replace H:=bg H;obtain⟨RX,aWk,H⟩:=H;(try dsimp only at H);replace H:=ip H;obtain⟨c8,H⟩:=H;have tK:=eq_true c8;have aNo:=c8
       simp at aNo
       have bGj:=eq_false (Nat.not_lt.2 aNo)
       try have bGi:(9223372036854775807<(aV:Int).toNat+(strOfNums RX).size)=False:=by
             have h_:=c8
             simp only [ByteArray.size_append,ByteArray.size_extract] at h_
             have g0_:(aV)≤(a0.size:Int):=dt
             exact eq_false (by omega)
       have aEb:decide ((a0.extract 0 (aV:Int).toNat).size+(strOfNums RX).size≤9223372036854775807)=true:=decide_eq_true c8
       have a9k:(9223372036854775807<(a0.extract 0 (aV:Int).toNat).size+(strOfNums RX).size)=False:=eq_false (Nat.not_lt.2 c8)
       have wE:=eq_true (dt:0≤aV);have BV:=eq_true (dt:aV≤(a0.size:Int));replace H:=ip H;obtain⟨c11,H⟩:=H;have zG:=eq_true c11;have aXc:=c11
       simp at aXc
       have bNx:=eq_false (Nat.not_lt.2 aXc)
       try have bNw:(9223372036854775807<(aV:Int).toNat+(strOfNums RX).size+(a0.size-(aV:Int).toNat))=False:=by
             have h_:=c11
             simp only [ByteArray.size_append,ByteArray.size_extract] at h_
             have g0_:(aV)≤(a0.size:Int):=dt
             exact eq_false (by omega)
       have aH0:decide (((a0.extract 0 (aV:Int).toNat)++(strOfNums RX)).size+(a0.extract (aV:Int).toNat a0.size).size≤9223372036854775807)=true:=decide_eq_true c11
       have bNv:(9223372036854775807<((a0.extract 0 (aV:Int).toNat)++(strOfNums RX)).size+(a0.extract (aV:Int).toNat a0.size).size)=False:=eq_false (Nat.not_lt.2 c11)
       replace H:=ba H;obtain⟨aFe,A12,H⟩:=H
       replace H:=iv H;rcases H with ⟨aH2,H⟩|⟨aH2,H⟩
       ·have FD:=eq_true (dt:0≤aV);have BX:=eq_true (dt:aV≤(a0.size:Int));obtain⟨VL,aOY⟩: ∃y_:List Int,y_=(([(jZ)%256]:List Int)):=⟨_,rfl⟩
        replace H:=bm H;rw [←aOY] at H
        have a6k:=am aOY;clear aOY;replace H:=ip H;obtain⟨c16,H⟩:=H;have BZ:=eq_true c16;have aXd:=c16
        simp at aXd
        have bND:=eq_false (Nat.not_lt.2 aXd)
        try have bNC:(9223372036854775807<(aV:Int).toNat+(strOfNums VL).size)=False:=by
              have h_:=c16
              simp only [ByteArray.size_append,ByteArray.size_extract] at h_
              have g0_:(aV)≤(a0.size:Int):=dt
              exact eq_false (by omega)
        have aH3:decide ((a0.extract 0 (aV:Int).toNat).size+(strOfNums VL).size≤9223372036854775807)=true:=decide_eq_true c16
        have bNB:(9223372036854775807<(a0.extract 0 (aV:Int).toNat).size+(strOfNums VL).size)=False:=eq_false (Nat.not_lt.2 c16)
        obtain⟨aAe,aID⟩: ∃j_:Int,(wrap64 (aV+1))=j_:=⟨_,rfl⟩
        rw [aID] at H
        have bIN:(IntKind.i64.wrap (aV+1))=aAe:=(iZ _).trans aID
        replace H:=ip H;obtain⟨c18,H⟩:=H;have L8:=eq_true c18
        have aH4:decide (0≤(aAe))=true:=decide_eq_true c18
        clear c18;replace H:=ip H;obtain⟨c19,H⟩:=H;have H6:=eq_true c19
        have aH5:decide ((aAe)≤(a0.size:Int))=true:=decide_eq_true c19
        clear c19;replace H:=ip H;obtain⟨c20,H⟩:=H;have L9:=eq_true c20;have aXg:=c20
        simp at aXg
        have bNP:=eq_false (Nat.not_lt.2 aXg)
        try have bNO:(9223372036854775807<(aV:Int).toNat+(strOfNums VL).size+(a0.size-((aAe):Int).toNat))=False:=by
              have h_:=c20
              simp only [ByteArray.size_append,ByteArray.size_extract] at h_
              have g0_:(aV)≤(a0.size:Int):=dt
              exact eq_false (by omega)
        have aH6:decide (((a0.extract 0 (aV:Int).toNat)++(strOfNums VL)).size+(a0.extract ((aAe):Int).toNat a0.size).size≤9223372036854775807)=true:=decide_eq_true c20
        have bNN:(9223372036854775807<((a0.extract 0 (aV:Int).toNat)++(strOfNums VL)).size+(a0.extract ((aAe):Int).toNat a0.size).size)=False:=eq_false (Nat.not_lt.2 c20)
        replace H:=ba H;obtain⟨aU2,A21,H⟩:=H
        have H' :=am H
        clear H
        try go_wp2
        replace dN:=am (Kd.xX dN.out);replace HB:=am (bH HB.out)
        refine st (n:=16) (S:=fun w' =>True) (ds:=[]) trivial (fun hHeld=>?_);refine dW aW.bCp aW.aWN (fun kQ rT=>?_)
        generalize wr.drew=w22 at dN HB hHeld⊢;refine pu 0 17 ?_;refine pu 1 18 ?_;refine pu 2 19 ?_;refine pu 3 20 ?_;refine pu 4 21 ?_;refine pu 5 22 ?_;refine pu 6 23 ?_;refine pu 10 27 ?_;refine pu 11 28 ?_;refine pu 12 29 ?_;refine qF 7 24 (fun K hK=>?_)
        refine Kd.kM (Kd.int .u8) _ 5 ?hg (N:=24) ?hd (xs:=([(jZ)%256]:List Int)) (inner:=[.int .u8 ((jZ)%256)]) (ok:=fun _=>True) (mK:=fun _=>True) ?hr ?hp (fun _ hk=>hk) trivial (Below.refl _ _) (Nat.le_refl _) (by simp) ?_;(case hd=>rfl);(case hg=>rfl);(case hr=>(go_simp;rfl));(case hp=>exact(dQ.one (show Kd.M (Kd.int .u8) _ _ _ ((jZ)%256) [.int .u8 ((jZ)%256)] from rfl) (dQ.none _ _)))
        intro aG0 w23 yZ hb lL dP;clear lL dP
        (rw [←aWk.out] at yZ)
        replace dN:=am (Kd.lU (vq dN.out) (Kd.jE yZ) hb);have xL:=am (Kd.dZ (Kd.yY (M:=fun k_=>(w.heap.size≤k_)) yZ (aH gP) (fun k_ h_=>h_)) (aH gP));replace HB:=o8 hb;clear hb yZ;obtain⟨a3x,aKw,aNE⟩:=Kd.nC dN.out
        (subst aNE)
        refine hK.out _ _ trivial (fun hHeld=>?_);clear hK K;refine nm 24 ?_;refine qF 8 25 (fun K hK=>?_);have a92:=CS (P:=Tryz.prog) Tryz.underlying22 Tryz.underlying5 Tryz.underlying9 (Kd.vU xL.out)
        refine GY (w1:=?_) (v:=?_) (by rfl) rfl ?_ ?_
        rotate_left 2
        ·go_simp
         constructor
         ·rfl
         ·rfl
        clear a92;refine hK.out _ _ trivial (fun hHeld=>?_);clear hK K;refine nm 25 ?_;refine pu 9 26 ?_;refine pu 13 30 ?_;refine qF 14 31 (fun K hK=>?_)
        refine EI Tryz.func84 #[.slice a3x LF.length aKw, .string a0, .string (((a0.extract 0 (aV:Int).toNat)++(strOfNums RX))++(a0.extract (aV:Int).toNat a0.size))] ?_
        with_reducible refine(iC.calls k2 (fun k_=>((w.heap.size≤k_)∧some k_≠(aG0:Value).ownBlock)) _ _ LF a0 (((a0.extract 0 (aV:Int).toNat)++(strOfNums RX))++(a0.extract (aV:Int).toNat a0.size)) aFe _ ?dS A12.out).mono ?_
        (case dS=>exact dN.out)
        rintro e w27 ⟨bLl,rfl,ho0,hb⟩;refine⟨_,rfl,?_⟩
        replace dN:=am (Kd.qB (vq dN.out) hb);have I1:=am (Kd.nZ (Kd.gJ (ok' :=fun k_=>(w.heap.size≤k_)∧some k_≠(aG0:Value).ownBlock) ho0 (fun k_ rQ=>⟨Or.elim rQ (fun hs_=>hs_.1) (fun EK=>(Nat.le_trans (aH gP) EK)),Or.elim rQ (fun hs_=>hs_.2) (fun EK=>(Kd.nL (Kd.pJ (rq xL.out)) k_ EK))⟩)) (aH gP));replace xL:=kr xL hb;replace HB:=o8 hb
        clear hb ho0;refine hK.out _ _ trivial (fun hHeld=>?_);clear hK K;refine nm 31 ?_;refine pu 15 3 ?_
        refine kD (fQ kQ.out (by kernel_rfl)) ?_
        try go_wp2
        replace dN:=am (Kd.xX dN.out);replace xL:=am (Kd.mZ xL.out);replace I1:=am (Kd.xX I1.out);replace HB:=am (bH HB.out)
        refine st (n:=17) (S:=fun w' =>True) (ds:=[]) trivial (fun hHeld=>?_);refine dW aW.aRi aW.aFB (fun kQ rT=>?_)
        generalize w27.drew=w28 at dN xL I1 HB hHeld⊢;refine pu 0 36 ?_;refine pu 1 37 ?_;refine pu 2 38 ?_;refine pu 3 39 ?_;refine pu 4 40 ?_;refine pu 5 41 ?_;refine pu 6 42 ?_;refine pu 10 46 ?_;refine pu 11 47 ?_;refine pu 12 48 ?_;refine pu 13 49 ?_;refine qF 7 43 (fun K hK=>?_)
        refine Kd.kM (Kd.int .u8) _ 5 ?hg (N:=43) ?hd (xs:=([(jZ)%256]:List Int)) (inner:=[.int .u8 ((jZ)%256)]) (ok:=fun _=>True) (mK:=fun _=>True) ?hr ?hp (fun _ hk=>hk) trivial (Below.refl _ _) (Nat.le_refl _) (by simp) ?_;(case hd=>rfl);(case hg=>rfl);(case hr=>(go_simp;rfl));(case hp=>exact(dQ.one (show Kd.M (Kd.int .u8) _ _ _ ((jZ)%256) [.int .u8 ((jZ)%256)] from rfl) (dQ.none _ _)))
        intro bCs w29 aAc hb lL dP;clear lL dP
        (rw [←a6k.out] at aAc)
        replace dN:=am (Kd.lU (vq dN.out) (Kd.jE aAc) hb);replace I1:=am (Kd.lU (vq I1.out) (Kd.jE aAc) hb);have aHo:=am (Kd.dZ (Kd.qW (Kd.yY (M:=fun k_=>(w.heap.size≤k_)) aAc (aH gP) (fun k_ h_=>h_)) (Kd.pJ (rq xL.out))) (aH gP));replace xL:=am (Kd.lT (rq xL.out) (Kd.jE aAc) hb);replace HB:=o8 hb;clear hb aAc;obtain⟨aYB,aZH,aNH⟩:=Kd.nC I1.out
        (subst aNH)
        refine hK.out _ _ trivial (fun hHeld=>?_);clear hK K;refine nm 43 ?_;refine qF 8 44 (fun K hK=>?_);have a94:=CS (P:=Tryz.prog) Tryz.underlying22 Tryz.underlying5 Tryz.underlying9 (Kd.vU aHo.out)
        refine GY (w1:=?_) (v:=?_) (by rfl) rfl ?_ ?_
        rotate_left 2
        ·go_simp
         constructor
         ·rfl
         ·rfl
        clear a94;refine hK.out _ _ trivial (fun hHeld=>?_);clear hK K;refine nm 44 ?_;refine pu 9 45 ?_;refine pu 14 50 ?_;refine qF 15 51 (fun K hK=>?_)
        refine aA1 Tryz.func84 (by kernel_rfl) rfl #[.slice aYB aFe.length aZH, .string a0, .string (((a0.extract 0 (aV:Int).toNat)++(strOfNums VL))++(a0.extract ((aAe):Int).toNat a0.size))] (by rfl) rfl rfl (by simp only [List.map_toArray,List.map_cons,List.map_nil];rfl) ?_
        with_reducible refine(iC.calls k2 (fun k_=>(((w.heap.size≤k_)∧some k_≠(aG0:Value).ownBlock)∧some k_≠(bCs:Value).ownBlock)) _ _ aFe a0 (((a0.extract 0 (aV:Int).toNat)++(strOfNums VL))++(a0.extract ((aAe):Int).toNat a0.size)) aU2 _ ?dS A21.out).mono ?_
        (case dS=>exact I1.out)
        rintro e w33 ⟨bS9,rfl,ho0,hb⟩;refine⟨_,rfl,?_⟩
        replace dN:=am (Kd.qB (vq dN.out) hb);replace I1:=am (Kd.qB (vq I1.out) hb);have a4w:=am (Kd.nZ (Kd.gJ (ok' :=fun k_=>(w.heap.size≤k_)∧some k_≠(aG0:Value).ownBlock∧some k_≠(bCs:Value).ownBlock) ho0 (fun k_ rQ=>⟨Or.elim rQ (fun hs_=>hs_.1.1) (fun EK=>(Nat.le_trans (aH gP) EK)),Or.elim rQ (fun hs_=>hs_.1.2) (fun EK=>(Kd.nL (Kd.pJ (rq xL.out)) k_ EK)),Or.elim rQ (fun hs_=>hs_.2) (fun EK=>(Kd.nL (Kd.pJ (rq aHo.out)) k_ EK))⟩)) (aH gP));replace xL:=kr xL hb;replace aHo:=kr aHo hb;replace HB:=o8 hb
        clear hb ho0;refine hK.out _ _ trivial (fun hHeld=>?_);clear hK K;refine nm 51 ?_;refine pu 16 3 ?_
        refine kD (fQ kQ.out (by kernel_rfl)) ?_
        try go_wp2
        go_roundg k2
        case measure=>have:=lM.out;have:=uP.out;omega
        case rel=>exact⟨(aU2),(wrap32 (jZ+1)),sq,H',⟨OH⟩,⟨vq (Kd.gJ a4w.out (fun _ hk=>hk.1))⟩,⟨gP⟩⟩
       have H' :=am H
       clear H
       try go_wp2
       replace dN:=am (Kd.xX dN.out);replace HB:=am (bH HB.out)
       refine st (n:=16) (S:=fun w' =>True) (ds:=[]) trivial (fun hHeld=>?_);refine dW aW.bCp aW.aWN (fun kQ rT=>?_)
       generalize wr.drew=w34 at dN HB hHeld⊢;refine pu 0 17 ?_;refine pu 1 18 ?_;refine pu 2 19 ?_;refine pu 3 20 ?_;refine pu 4 21 ?_;refine pu 5 22 ?_;refine pu 6 23 ?_;refine pu 10 27 ?_;refine pu 11 28 ?_;refine pu 12 29 ?_;refine qF 7 24 (fun K hK=>?_)
       refine Kd.kM (Kd.int .u8) _ 5 ?hg (N:=24) ?hd (xs:=([(jZ)%256]:List Int)) (inner:=[.int .u8 ((jZ)%256)]) (ok:=fun _=>True) (mK:=fun _=>True) ?hr ?hp (fun _ hk=>hk) trivial (Below.refl _ _) (Nat.le_refl _) (by simp) ?_;(case hd=>rfl);(case hg=>rfl);(case hr=>(go_simp;rfl));(case hp=>exact(dQ.one (show Kd.M (Kd.int .u8) _ _ _ ((jZ)%256) [.int .u8 ((jZ)%256)] from rfl) (dQ.none _ _)))
       intro aG0 w35 aTy hb lL dP;clear lL dP
       (rw [←aWk.out] at aTy)
       replace dN:=am (Kd.lU (vq dN.out) (Kd.jE aTy) hb);have xL:=am (Kd.dZ (Kd.yY (M:=fun k_=>(w.heap.size≤k_)) aTy (aH gP) (fun k_ h_=>h_)) (aH gP));replace HB:=o8 hb;clear hb aTy;obtain⟨a3A,aZI,a0j⟩:=Kd.nC dN.out
       (subst a0j)
       refine hK.out _ _ trivial (fun hHeld=>?_);clear hK K;refine nm 24 ?_;refine qF 8 25 (fun K hK=>?_);have a95:=CS (P:=Tryz.prog) Tryz.underlying22 Tryz.underlying5 Tryz.underlying9 (Kd.vU xL.out)
       refine GY (w1:=?_) (v:=?_) (by rfl) rfl ?_ ?_
       rotate_left 2
       ·go_simp
        constructor
        ·rfl
        ·rfl
       clear a95;refine hK.out _ _ trivial (fun hHeld=>?_);clear hK K;refine nm 25 ?_;refine pu 9 26 ?_;refine pu 13 30 ?_;refine qF 14 31 (fun K hK=>?_)
       refine EI Tryz.func84 #[.slice a3A LF.length aZI, .string a0, .string (((a0.extract 0 (aV:Int).toNat)++(strOfNums RX))++(a0.extract (aV:Int).toNat a0.size))] ?_
       with_reducible refine(iC.calls k2 (fun k_=>((w.heap.size≤k_)∧some k_≠(aG0:Value).ownBlock)) _ _ LF a0 (((a0.extract 0 (aV:Int).toNat)++(strOfNums RX))++(a0.extract (aV:Int).toNat a0.size)) aFe _ ?dS A12.out).mono ?_
       (case dS=>exact dN.out)
       rintro e w39 ⟨bLl,rfl,ho0,hb⟩;refine⟨_,rfl,?_⟩
       replace dN:=am (Kd.qB (vq dN.out) hb);have I1:=am (Kd.nZ (Kd.gJ (ok' :=fun k_=>(w.heap.size≤k_)∧some k_≠(aG0:Value).ownBlock) ho0 (fun k_ rQ=>⟨Or.elim rQ (fun hs_=>hs_.1) (fun EK=>(Nat.le_trans (aH gP) EK)),Or.elim rQ (fun hs_=>hs_.2) (fun EK=>(Kd.nL (Kd.pJ (rq xL.out)) k_ EK))⟩)) (aH gP));replace xL:=kr xL hb;replace HB:=o8 hb
       clear hb ho0;refine hK.out _ _ trivial (fun hHeld=>?_);clear hK K;refine nm 31 ?_;refine pu 15 3 ?_
       refine kD (fQ kQ.out (by kernel_rfl)) ?_
       try go_wp2
       go_roundg k2
       case measure=>have:=lM.out;have:=uP.out;omega
       case rel=>exact⟨(aFe),(wrap32 (jZ+1)),sq,H',⟨OH⟩,⟨vq (Kd.gJ I1.out (fun _ hk=>hk.1))⟩,⟨gP⟩⟩
      have aYT:=am H;clear H
      go_upto_if 55 with (fail)
      go_cut [3] (fun v3 wc=> ∃(kq:Nat) (aBh:List ByteArray),aC (aW.j2 kq a0 aBh aV=some r)∧aC (kq≤k2)∧aC (Kd.V Kd.string 9 wc w.heap.size (fun k_=>(w.heap.size≤k_)) v3 aBh)∧aC (Below w.heap.size w wc))
      case first=>
       have H:=aYT.out;clear aYT
       replace H:=iv H;rcases H with ⟨ME,H⟩|⟨ME,H⟩
       ·(rw [ME])
        replace H:=ip H;obtain⟨c42,H⟩:=H;have a8N:=eq_true c42
        have bN4:decide (0≤aV)=true:=decide_eq_true c42
        clear c42;replace H:=ip H;obtain⟨c43,H⟩:=H;have aNh:=eq_true c43
        have bN5:decide (aV≤(a0.size:Int))=true:=decide_eq_true c43
        clear c43;obtain⟨EM,aEG⟩: ∃j_:Int,(wrap64 (aV+1))=j_:=⟨_,rfl⟩
        rw [aEG] at H
        have a1y:(IntKind.i64.wrap (aV+1))=EM:=(iZ _).trans aEG
        replace H:=ip H;obtain⟨c45,H⟩:=H;have aAS:=eq_true c45
        have a8P:decide (0≤(EM))=true:=decide_eq_true c45
        clear c45;replace H:=ip H;obtain⟨c46,H⟩:=H;have a8Q:=eq_true c46
        have bN7:decide ((EM)≤(a0.size:Int))=true:=decide_eq_true c46
        clear c46;replace H:=ip H;obtain⟨c47,H⟩:=H;have aXq:=eq_true c47;have aXr:=c47
        simp at aXr
        have bOb:=eq_false (Nat.not_lt.2 aXr)
        try have bOa:(9223372036854775807<(aV:Int).toNat+(a0.size-((EM):Int).toNat))=False:=by
              have h_:=c47
              simp only [ByteArray.size_append,ByteArray.size_extract] at h_
              have g0_:(aV)≤(a0.size:Int):=dt
              exact eq_false (by omega)
        have bN8:decide ((a0.extract 0 (aV:Int).toNat).size+(a0.extract ((EM):Int).toNat a0.size).size≤9223372036854775807)=true:=decide_eq_true c47
        have bN9:(9223372036854775807<(a0.extract 0 (aV:Int).toNat).size+(a0.extract ((EM):Int).toNat a0.size).size)=False:=eq_false (Nat.not_lt.2 c47)
        replace H:=ba H;obtain⟨aU3,A48,H⟩:=H
        have H' :=am H
        clear H
        try go_wp2
        replace dN:=am (Kd.xX dN.out);replace HB:=am (bH HB.out);obtain⟨bFc,bGz,bHM⟩:=Kd.nC dN.out
        (subst bHM)
        refine st (n:=12) (S:=fun w' =>True) (ds:=[]) trivial (fun hHeld=>?_);refine dW aW.aJU aW.aBG (fun kQ rT=>?_)
        generalize wr.drew=w49 at dN HB hHeld⊢;refine pu 0 56 ?_;refine pu 1 57 ?_;refine pu 2 58 ?_;refine pu 3 59 ?_;refine pu 4 60 ?_;refine pu 5 61 ?_;refine pu 6 62 ?_;refine pu 7 63 ?_;refine pu 8 64 ?_;refine pu 9 65 ?_;refine qF 10 66 (fun K hK=>?_)
        refine aA1 Tryz.func84 (by kernel_rfl) rfl #[.slice bFc LF.length bGz, .string a0, .string ((a0.extract 0 (aV:Int).toNat)++(a0.extract ((EM):Int).toNat a0.size))] (by rfl) rfl rfl (by simp only [List.map_toArray,List.map_cons,List.map_nil];rfl) ?_
        with_reducible refine(iC.calls k2 (fun k_=>(w.heap.size≤k_)) _ _ LF a0 ((a0.extract 0 (aV:Int).toNat)++(a0.extract ((EM):Int).toNat a0.size)) aU3 _ ?dS A48.out).mono ?_
        (case dS=>exact dN.out)
        rintro e w51 ⟨bTa,rfl,ho0,hb⟩;refine⟨_,rfl,?_⟩
        replace dN:=am (Kd.qB (vq dN.out) hb);have a4x:=am (Kd.nZ (Kd.gJ (ok' :=fun k_=>(w.heap.size≤k_)) ho0 (fun k_ rQ=>Or.elim rQ (fun hs_=>hs_) (fun EK=>(Nat.le_trans (aH gP) EK)))) (aH gP));replace HB:=o8 hb
        clear hb ho0;refine hK.out _ _ trivial (fun hHeld=>?_);clear hK K;refine nm 66 ?_;refine pu 11 3 ?_
        refine kD (fQ kQ.out (by kernel_rfl)) ?_
        try go_wp2
        go_meet
        case rel=>exact⟨_,(aU3),H',⟨aDO⟩,⟨vq a4x.out⟩,⟨gP⟩⟩
       (rw [ME])
       have H' :=am H
       clear H;go_wp2
       go_meet
       case rel=>exact⟨_,(LF),H',⟨aDO⟩,⟨vq dN.out⟩,⟨gP⟩⟩
      case rest=>
       clear aYT;clear oL;obtain⟨kq,aBh,HA,aRU,dN,HB⟩:=hcut
       cases kq with
       |zero=>exact absurd HA.out (by simp [aW.j2])
       |succ a2f=>
        have H:=HA.out;clear HA;simp only [aW.j2] at H
        replace H:=iv H;rcases H with ⟨aAT,H⟩|⟨aAT,H⟩
        ·replace H:=ip H;obtain⟨c53,H⟩:=H;have aD8:=eq_true c53
         have a8V:decide (0≤aV)=true:=decide_eq_true c53
         clear c53;replace H:=ip H;obtain⟨c54,H⟩:=H;have aXs:=eq_true c54
         have bOd:decide (aV≤(a0.size:Int))=true:=decide_eq_true c54
         clear c54;obtain⟨xZ,aOm⟩: ∃j_:Int,(wrap64 (aV+1))=j_:=⟨_,rfl⟩
         rw [aOm] at H
         rw [aOm] at aAT
         have bIV:(IntKind.i64.wrap (aV+1))=xZ:=(iZ _).trans aOm
         replace H:=ip H;obtain⟨c56,H⟩:=H;have aXu:=eq_true c56
         have bOf:decide (0≤(xZ))=true:=decide_eq_true c56
         clear c56;replace H:=ip H;obtain⟨c57,H⟩:=H;have aAU:=eq_true c57
         have a8W:decide ((xZ)≤(wrap64 (aV+2)))=true:=decide_eq_true c57
         replace H:=ip H;obtain⟨c58,H⟩:=H;have aNk:=eq_true c58
         have a8X:decide ((wrap64 (aV+2))≤(a0.size:Int))=true:=decide_eq_true c58
         replace H:=ip H;obtain⟨c59,H⟩:=H;have aD9:=eq_true c59;have aNl:=c59
         simp at aNl
         have a81:=eq_false (Nat.not_lt.2 aNl)
         try have a8Z:(9223372036854775807<(aV:Int).toNat+(((wrap64 (aV+2)):Int).toNat-((xZ):Int).toNat))=False:=by
               have h_:=c59
               simp only [ByteArray.size_append,ByteArray.size_extract] at h_
               have g0_:(aV)≤(a0.size:Int):=dt
               have g1_:((wrap64 (aV+2)))≤(a0.size:Int):=dt
               exact eq_false (by omega)
         have a8Y:decide ((a0.extract 0 (aV:Int).toNat).size+(a0.extract ((xZ):Int).toNat ((wrap64 (aV+2)):Int).toNat).size≤9223372036854775807)=true:=decide_eq_true c59
         have bOh:(9223372036854775807<(a0.extract 0 (aV:Int).toNat).size+(a0.extract ((xZ):Int).toNat ((wrap64 (aV+2)):Int).toNat).size)=False:=eq_false (Nat.not_lt.2 c59)
         have aEa:=eq_true (dt:0≤aV);replace H:=ip H;obtain⟨c61,H⟩:=H;have aNm:=eq_true c61
         have a88:decide (aV≤(xZ))=true:=decide_eq_true c61
         clear c61;replace H:=ip H;obtain⟨c62,H⟩:=H;have bOk:=eq_true c62
         have bOl:decide ((xZ)≤(a0.size:Int))=true:=decide_eq_true c62
         clear c62;replace H:=ip H;obtain⟨c63,H⟩:=H;have a9a:=eq_true c63;have aNn:=c63
         simp at aNn
         have a9d:=eq_false (Nat.not_lt.2 aNn)
         try have a9c:(9223372036854775807<(aV:Int).toNat+(((wrap64 (aV+2)):Int).toNat-((xZ):Int).toNat)+(((xZ):Int).toNat-(aV:Int).toNat))=False:=by
               have h_:=c63
               simp only [ByteArray.size_append,ByteArray.size_extract] at h_
               have g0_:(aV)≤(a0.size:Int):=dt
               have g1_:((wrap64 (aV+2)))≤(a0.size:Int):=dt
               have g2_:((xZ))≤(a0.size:Int):=dt
               exact eq_false (by omega)
         have a9b:decide (((a0.extract 0 (aV:Int).toNat)++(a0.extract ((xZ):Int).toNat ((wrap64 (aV+2)):Int).toNat)).size+(a0.extract (aV:Int).toNat ((xZ):Int).toNat).size≤9223372036854775807)=true:=decide_eq_true c63
         have bOm:(9223372036854775807<((a0.extract 0 (aV:Int).toNat)++(a0.extract ((xZ):Int).toNat ((wrap64 (aV+2)):Int).toNat)).size+(a0.extract (aV:Int).toNat ((xZ):Int).toNat).size)=False:=eq_false (Nat.not_lt.2 c63)
         obtain⟨QX,wK⟩: ∃j_:Int,(wrap64 (aV+2))=j_:=⟨_,rfl⟩
         rw [wK] at H
         rw [wK] at aAU
         rw [wK] at a8W
         rw [wK] at c57
         rw [wK] at aNk
         rw [wK] at a8X
         rw [wK] at c58
         rw [wK] at aD9
         rw [wK] at a8Z
         rw [wK] at a81
         rw [wK] at aNl
         rw [wK] at a8Y
         rw [wK] at c59
         rw [wK] at a9a
         rw [wK] at a9c
         rw [wK] at a9d
         rw [wK] at aNn
         rw [wK] at a9b
         rw [wK] at c63
         have bI0:(IntKind.i64.wrap (aV+2))=QX:=(iZ _).trans wK
         replace H:=ip H;obtain⟨c65,H⟩:=H;have aXv:=eq_true c65
         have bOn:decide (0≤(QX))=true:=decide_eq_true c65
         clear c65;have a9f:=eq_true (dt:(QX)≤(a0.size:Int));replace H:=ip H;obtain⟨c67,H⟩:=H;have bOo:=eq_true c67;have aXw:=c67
         simp at aXw
         have bOs:=eq_false (Nat.not_lt.2 aXw)
         try have bOr:(9223372036854775807<(aV:Int).toNat+(((QX):Int).toNat-((xZ):Int).toNat)+(((xZ):Int).toNat-(aV:Int).toNat)+(a0.size-((QX):Int).toNat))=False:=by
               have h_:=c67
               simp only [ByteArray.size_append,ByteArray.size_extract] at h_
               have g0_:(aV)≤(a0.size:Int):=dt
               have g1_:((QX))≤(a0.size:Int):=dt
               have g2_:((xZ))≤(a0.size:Int):=dt
               exact eq_false (by omega)
         have bOp:decide ((((a0.extract 0 (aV:Int).toNat)++(a0.extract ((xZ):Int).toNat ((QX):Int).toNat))++(a0.extract (aV:Int).toNat ((xZ):Int).toNat)).size+(a0.extract ((QX):Int).toNat a0.size).size≤9223372036854775807)=true:=decide_eq_true c67
         have bOq:(9223372036854775807<(((a0.extract 0 (aV:Int).toNat)++(a0.extract ((xZ):Int).toNat ((QX):Int).toNat))++(a0.extract (aV:Int).toNat ((xZ):Int).toNat)).size+(a0.extract ((QX):Int).toNat a0.size).size)=False:=eq_false (Nat.not_lt.2 c67)
         replace H:=ba H;obtain⟨aU4,A68,H⟩:=H
         have H' :=am H
         clear H
         try go_wp2
         replace dN:=am (Kd.xX dN.out);replace HB:=am (bH HB.out);obtain⟨bFd,bGB,bHR⟩:=Kd.nC dN.out
         (subst bHR)
         refine st (n:=25) (S:=fun w' =>True) (ds:=[]) trivial (fun hHeld=>?_);refine dW aW.aRj aW.aFC (fun kQ rT=>?_)
         generalize wc.drew=w69 at dN HB hHeld⊢;refine pu 0 72 ?_;refine pu 1 73 ?_;refine pu 2 74 ?_;refine pu 3 75 ?_;refine pu 4 76 ?_;refine pu 5 77 ?_;refine pu 6 78 ?_;refine pu 7 79 ?_;refine pu 8 80 ?_;refine pu 9 81 ?_;refine pu 10 82 ?_;refine pu 11 83 ?_;refine pu 12 84 ?_;refine pu 13 85 ?_;refine pu 14 86 ?_;refine pu 15 87 ?_;refine pu 16 88 ?_;refine pu 17 89 ?_;refine pu 18 90 ?_;refine pu 19 91 ?_;refine pu 20 92 ?_;refine pu 21 93 ?_;refine pu 22 94 ?_;refine qF 23 95 (fun K hK=>?_)
         refine aA1 Tryz.func84 (by kernel_rfl) rfl #[.slice bFd aBh.length bGB, .string a0, .string ((((a0.extract 0 (aV:Int).toNat)++(a0.extract ((xZ):Int).toNat ((QX):Int).toNat))++(a0.extract (aV:Int).toNat ((xZ):Int).toNat))++(a0.extract ((QX):Int).toNat a0.size))] (by rfl) rfl rfl (by simp only [List.map_toArray,List.map_cons,List.map_nil];rfl) ?_
         with_reducible refine(iC.calls a2f (fun k_=>(w.heap.size≤k_)) _ _ aBh a0 ((((a0.extract 0 (aV:Int).toNat)++(a0.extract ((xZ):Int).toNat ((QX):Int).toNat))++(a0.extract (aV:Int).toNat ((xZ):Int).toNat))++(a0.extract ((QX):Int).toNat a0.size)) aU4 _ ?dS A68.out).mono ?_
         (case dS=>exact dN.out)
         rintro e w71 ⟨bTb,rfl,ho0,hb⟩;refine⟨_,rfl,?_⟩
         replace dN:=am (Kd.qB (vq dN.out) hb);have a4y:=am (Kd.nZ (Kd.gJ (ok' :=fun k_=>(w.heap.size≤k_)) ho0 (fun k_ rQ=>Or.elim rQ (fun hs_=>hs_) (fun EK=>(Nat.le_trans (aH gP) EK)))) (aH gP));replace HB:=o8 hb
         clear hb ho0;refine hK.out _ _ trivial (fun hHeld=>?_);clear hK K;refine nm 95 ?_;refine pu 24 3 ?_
         refine kD (fQ kQ.out (by kernel_rfl)) ?_
         try go_wp2
         go_roundg a2f
         case measure=>have:=lM.out;have:=uP.out;have:=aRU.out;omega
         case rel=>exact⟨(aU4),(xZ),(by rfl),H',⟨by have:=lM.out;have:=uP.out;have:=aRU.out;omega⟩,⟨vq a4y.out⟩,⟨gP⟩⟩
        have H' :=am H
        clear H;go_wp2
        go_roundg a2f
        case measure=>have:=lM.out;have:=uP.out;have:=aRU.out;omega
        case rel=>exact⟨(aBh),(wrap64 (aV+1)),sq,H',⟨by have:=lM.out;have:=uP.out;have:=aRU.out;omega⟩,⟨vq dN.out⟩,⟨gP⟩⟩
   obtain rfl:=si H;go_wp2;go_ret
   exact⟨_,nD,by(with_reducible repeat(fail));exact dN.out,gP⟩
end Go.Proofs.YtpljfjbhlboffaaGreat.eH

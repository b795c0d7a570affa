import Derived.Test.YtpljfjbhlboffaaGreatQFnMachineBookx20
namespace Go.Proofs.YtpljfjbhlboffaaGreat.eH
open Go.RowKit Go.Proofs.YtpljfjbhlboffaaGreatW.bJ Go.Proofs.YtpljfjbhlboffaaGreatW.gI Go.Proofs.YtpljfjbhlboffaaGreatW.jC Go.Proofs.YtpljfjbhlboffaaGreat.Sh
attribute [local go_sem] rD rF uY uZ pE pF rE rG
set_option linter.unusedVariables false
set_option linter.unusedSimpArgs false
set_option maxHeartbeats 8000000
set_option maxRecDepth 100000
mutual
def aJ.l0:Nat→List (xH)→List Int→Int→Option (Bool)
 |0,_,_,_=>none
 |k+1,x0,x3,x4=>if x4≥0 then(if 0≤x4 then(if x4<(x0.length:Int)then(if x4>0 then(if((aG x0 x4).f0=true)then(aJ.j1 k x0 x3 x4 false ((aG x0 x4).f0) ((aG x0 x4).f1))else(aJ.j1 k x0 x3 x4 ((((aG x0 x4).f1).length:Int)==0) ((aG x0 x4).f0) ((aG x0 x4).f1)))else(aJ.j1 k x0 x3 x4 false ((aG x0 x4).f0) ((aG x0 x4).f1)))else(none))else(none))else(if 0<(x3.length:Int)then(some (decide ((rd x3 0)≤12)))else(none))
def aJ.j1:Nat→List (xH)→List Int→Int→Bool→Bool→List (ER)→Option (Bool)
 |0,_,_,_,_,_,_=>none
 |k+1,x0,x3,x4,x38,vC,qQ=>if x38=true then(some false)else(if 0≤x4 then(if x4<(x3.length:Int)then((some (x3.set (x4:Int).toNat (-1):List Int)).bind fun aLw=>(if vC=true then(aJ.j2 k x0 (aLw.set (x4:Int).toNat 0) x4 vC qQ)else(aJ.j2 k x0 aLw x4 vC qQ)))else(none))else(none))
def aJ.j2:Nat→List (xH)→List Int→Int→Bool→List (ER)→Option (Bool)
 |0,_,_,_,_,_=>none
 |k+1,x0,x3,x4,vC,qQ=>aJ.l1 k x0 x3 x4 qQ (qQ.length:Int) 0 vC qQ
def aJ.l1:Nat→List (xH)→List Int→Int→List (ER)→Int→Int→Bool→List (ER)→Option (Bool)
 |0,_,_,_,_,_,_,_,_=>none
 |k+1,x0,x3,x4,x48,x49,UZ,vC,qQ=>if UZ<x49 then(if 0≤UZ then(if UZ<(x48.length:Int)then((iM.f ((bB x48 UZ).f0) 97 122).bind fun bCe=>(if bCe=true then(if UZ>0 then(if 0≤(wrap64 (UZ-1))then(if(wrap64 (UZ-1))<(qQ.length:Int)then(if((bB qQ (wrap64 (UZ-1))).f0)≥((bB x48 UZ).f0)then(aJ.j4 k x0 x3 x4 x48 x49 UZ true vC qQ ((bB x48 UZ).f0) ((bB x48 UZ).f1))else((iM.f ((bB x48 UZ).f1) (wrap64 (x4+1)) (wrap64 ((x0.length:Int)-1))).bind fun aVq=>(aJ.j4 k x0 x3 x4 x48 x49 UZ (!aVq) vC qQ ((bB x48 UZ).f0) ((bB x48 UZ).f1))))else(none))else(none))else((iM.f ((bB x48 UZ).f1) (wrap64 (x4+1)) (wrap64 ((x0.length:Int)-1))).bind fun aVr=>(aJ.j4 k x0 x3 x4 x48 x49 UZ (!aVr) vC qQ ((bB x48 UZ).f0) ((bB x48 UZ).f1))))else(aJ.j4 k x0 x3 x4 x48 x49 UZ true vC qQ ((bB x48 UZ).f0) ((bB x48 UZ).f1))))else(none))else(none))else(aJ.l0 k x0 x3 (wrap64 (x4-1)))
def aJ.j4:Nat→List (xH)→List Int→Int→List (ER)→Int→Int→Bool→Bool→List (ER)→Int→Int→Option (Bool)
 |0,_,_,_,_,_,_,_,_,_,_,_=>none
 |k+1,x0,x3,x4,x48,x49,UZ,x85,vC,qQ,bEL,WQ=>if x85=true then(some false)else(if 0≤WQ then(if WQ<(x3.length:Int)then(if(rd x3 WQ)≥0 then(if 0≤x4 then(if x4<(x3.length:Int)then(aJ.l1 k x0 (x3.set (x4:Int).toNat (mx (rd x3 x4) (wrap64 ((rd x3 WQ)+1)))) x4 x48 x49 (wrap64 (UZ+1)) vC qQ)else(none))else(none))else(aJ.l1 k x0 x3 x4 x48 x49 (wrap64 (UZ+1)) vC qQ))else(none))else(none))
end
def aJ.f (k:Nat) (l0:List (xH)):Option (Bool):=(iM.f (l0.length:Int) 1 400).bind fun bCd=>(if bCd=true then(if 0≤(l0.length:Int)then(if l0.length≤35184372088832 then(aJ.l0 k l0 (List.replicate l0.length 0) (wrap64 ((l0.length:Int)-1)))else(none))else(none))else(some false))
def aJ.T16:Bool×List (List Nat×List Nat):=(true,[([],[]),([0],[0]),([1],[1]),([2],[2]),([3,2],[3]),([4],[4]),([5,4],[4,5]),([6,4,4],[4,6]),([7],[7]),([8,7],[7,8]),([7],[7]),([10,7],[7,10]),([9,11,7],[7,9,11]),([12,7],[7,12]),([13,7],[7,13]),([7],[7]),([15,7],[7,15]),([14,16,7],[7,14,16]),([7,17,4],[4,7,17]),([4,18],[4,18]),([19,7],[19]),([20],[20]),([21,20],[20,21]),([20],[20]),([23,20],[20,23]),([20],[20]),([25,20],[20,25]),([26,20],[20,26]),([22,24,27,20,20],[20,22,24,27]),([28,20],[20,28]),([20,29],[20,29])])
def aJ.B16:List Nat:=[0,1,3,7,15,31,63,127,255,511,255,1279,4095,8191,16383,255,33023,131071,262143,524287,1048575,2097151,4194303,2097151,10485759,2097151,35651583,102760447,268435455,536870911,1073741823]
theorem aJ.ZC:nX .any (opsOf Tryz.f42 16)=aJ.T16:=by kernel_rfl
theorem aJ.MV:jA aJ.T16.2 aJ.B16=true:=by kernel_rfl
def aJ.T19:Bool×List (List Nat×List Nat):=(true,[([],[]),([],[]),([],[]),([],[]),([2,3],[2,3]),([4],[4]),([],[]),([],[]),([7],[7]),([6,8],[6,8]),([9],[9]),([10],[10]),([5,11],[5,11]),([0,1,0,1,2,3,4,5,6,7,8,9,10,11,12],[0,1]),([13,12,0,1,2,3,4,5,6,7,8,9,10,11,12],[12,13])])
def aJ.B19:List Nat:=[0,0,0,0,12,28,0,0,128,448,960,1984,4092,8191,16383]
theorem aJ.bCn:nX .any (opsOf Tryz.f42 19)=aJ.T19:=by kernel_rfl
theorem aJ.aZw:jA aJ.T19.2 aJ.B19=true:=by kernel_rfl
theorem aJ.calls (k:Nat) (A0:Option Addr) (c0:Nat) (l0:List (xH)) (r:Bool) (w:World) (hr0:Kd.C VB w A0 l0.length l0) (hc0:l0.length≤c0) (h:aJ.f k l0=some r):
  Calls Tryz.prog 42 #[.slice A0 l0.length c0] w fun e w' =>e= .returned (.bool r)∧Below w.heap.size w w' :=by
 have bAM:=Tryz.underlying69;have bAN:=Tryz.underlying77;have lX:=am hr0;have vX:=am hc0;clear hr0 hc0;have HB:=am (Below.refl w.heap.size w)
 have H:=h;unfold aJ.f at H
 clear h;replace H:=ba H;obtain⟨bCd,A2,H⟩:=H
 replace H:=ib H;rcases H with ⟨rfl,H⟩|⟨rfl,H⟩
 ·replace H:=ip H;obtain⟨c4,H⟩:=H;have qZ:=eq_true c4
  have XX:decide (0≤(l0.length:Int))=true:=decide_eq_true c4
  clear c4;replace H:=ip H;obtain⟨c5,H⟩:=H;have oL:=eq_true c5
  have JF:decide (l0.length≤35184372088832)=true:=decide_eq_true c5
  clear c5;obtain⟨bMn,aPT⟩: ∃y_:List Int,y_=(List.replicate l0.length 0):=⟨_,rfl⟩
  rw [←aPT] at H
  have a7h:=am aPT;clear aPT
  have H' :=am H
  clear H;go_enter Tryz.func42,Tryz.ntmps42
  go_wp2_with (first|(refine gd 10 ?_;refine gv Tryz.func55 (iM.calls (l0.length:Int) 1 400 true _ A2.out) ?_;rintro w' ⟨nd,rfl⟩)|(refine gd 14 ?_;((refine qI (by rfl) ?_;dsimp only));refine Kd.aBy (Kd.int .i64) _ 3 rfl (N:=14) rfl 81 _ _ rfl (l0.length:Int) rfl rfl Tryz.underlying81 (.int .i64 0) 8 YI rfl (by decide) (by omega) 0 (ok:=fun _=>True) (mK:=fun _=>True) rfl (fun _ hk=>hk) trivial (dt) (Nat.le_trans (Nat.mul_le_mul_right _ (dt:(l0.length:Int).toNat≤35184372088832)) (by omega)) (Below.refl _ _) (Nat.le_refl _) ?_;intro bCu w6 U6 hb lL dP;clear lL dP;(simp only [Int.toNat_natCast] at U6;rw [←a7h.out] at U6);have a5k:=am (Kd.dZ U6 (aH gP));replace HB:=o8 hb;clear hb U6))
  go_loopg [4] k (fun kq v4 w' => ∃(bL:List Int) (aV:Int),v4= .int .i64 aV∧aC (aJ.l0 kq l0 bL aV=some r)∧aC (kq≤k)∧aC (Kd.R (Kd.int .i64) 3 w' w.heap.size (fun _=>True) bCu bL)∧aC (Below w.heap.size w w'))
  case atStart=>exact⟨(bMn),(wrap64 ((l0.length:Int)-1)),sq,H',⟨Nat.le_refl _⟩,⟨rq a5k.out⟩,⟨gP⟩⟩
  case round=>
   clear H';clear qZ XX oL JF;obtain⟨bL,aV,rfl,HA,lM,dN,HB⟩:=hrel
   cases gk with
   |zero=>exact absurd HA.out (by simp [aJ.l0])
   |succ k1=>
    have H:=HA.out;clear HA;simp only [aJ.l0] at H
    replace H:=iv H;rcases H with ⟨tK,H⟩|⟨tK,H⟩
    ·replace H:=it H;obtain⟨wE,H⟩:=H;replace H:=it H;obtain⟨BV,H⟩:=H;have aYL:=am H;clear H
     obtain⟨bNo,IQ,uC,bHk,QW,aCJ,aIT,aIy⟩:=SG lX.out aV dt dt;cases bHk;replace QW:=kp HB.out QW;replace aCJ:=kp HB.out aCJ;have aBv:=am aIy;have bCZ:=am aIT;clear aIy aIT;have bJ8:=e0 aV;have bKT:=e1 aV (l0.length:Int)
     go_upto_region 8 with (refine gd 5 ?_;((refine qI (by rfl) ?_;dsimp only));refine bx 5 (cs:= #[.bool false, .slice none 0 0]) (t:=69) ?_;intro rU hg w12 bT hb;replace dN:=kr dN hb;have iL:=am (bT);have bMO:=am ((kI:w.heap.size≤rU));have vF:=am ((kI:w.heap.size≤rU));replace HB:=o8 hb;clear hb bT hg;have⟨aST,aSU,aTd,aTe⟩:=oP iL.out)
     go_cut [38] (fun v38 wc=> ∃(kq:Nat) (aG4:Bool),v38= .bool aG4∧aC (aJ.j1 kq l0 bL aV aG4 ((aG l0 aV).f0) ((aG l0 aV).f1)=some r)∧aC (kq≤k1)∧aC (Kd.R (Kd.int .i64) 3 wc w.heap.size (fun _=>True) bCu bL)∧aC (wc.heap[rU]?=some (.cells #[.bool ((aG l0 aV).f0),(.slice IQ ((aG l0 aV).f1).length uC)] 69 (0,0)))∧aC (Below w.heap.size w wc))
     case first=>
      have H:=aYL.out;clear aYL
      replace H:=iv H;rcases H with ⟨FD,H⟩|⟨FD,H⟩
      ·(skip)
       obtain⟨aSB,aNW⟩: ∃b_:Bool,b_=((aG l0 aV).f0):=⟨_,rfl⟩
       replace H:(if(aSB=true)then(aJ.j1 k1 l0 bL aV false aSB ((aG l0 aV).f1))else(aJ.j1 k1 l0 bL aV ((((aG l0 aV).f1).length:Int)==0) aSB ((aG l0 aV).f1)))=some r:=by rw [←aNW] at H;exact H
       have aAI:=am aNW;clear aNW
       by_cases c16:(aSB=true)
       ·subst c16
        rw [←aAI.out] at QW
        rw [←aAI.out]
        rw [if_pos rfl] at H
        have H' :=am H
        clear H;have⟨_,_,_,_⟩:=oP iL.out;go_wp2
        go_meet
        case rel=>rw [←aAI.out];exact⟨_,(false),sq,H',⟨OG⟩,⟨rq (Kd.bA (Kd.bZ (p:=⟨rU,1,none⟩) (Kd.bZ (p:=⟨rU,0,none⟩) (Kd.eQ dN.out iL.out (by decide)) (fun _ hk=>hk.2) (.bool (true))) (fun _ hk=>hk.2) (.slice IQ ((aG l0 aV).f1).length uC)) (fun _ hk=>trivial))⟩,⟨by(with_reducible repeat(fail));refine bM (cs:= #[.bool (true), .slice none 0 0]) ?_ 1 _ rfl;(with_reducible repeat(fail));refine bM (cs:= #[.bool false, .slice none 0 0]) ?_ 0 _ rfl;(with_reducible repeat(fail));exact iL.out⟩,⟨cK vF.out⟩⟩
       replace c16:=Bool.eq_false_iff.mpr c16;subst c16
       rw [←aAI.out] at QW
       rw [←aAI.out]
       rw [if_neg Bool.false_ne_true] at H
       have H' :=am H
       clear H;have⟨_,_,_,_⟩:=oP iL.out;go_wp2
       go_meet
       case rel=>rw [←aAI.out];exact⟨_,(((((aG l0 aV).f1).length:Int)==0)),sq,H',⟨OG⟩,⟨rq (Kd.bA (Kd.bZ (p:=⟨rU,1,none⟩) (Kd.bZ (p:=⟨rU,0,none⟩) (Kd.eQ dN.out iL.out (by decide)) (fun _ hk=>hk.2) (.bool (false))) (fun _ hk=>hk.2) (.slice IQ ((aG l0 aV).f1).length uC)) (fun _ hk=>trivial))⟩,⟨by(with_reducible repeat(fail));refine bM (cs:= #[.bool (false), .slice none 0 0]) ?_ 1 _ rfl;(with_reducible repeat(fail));refine bM (cs:= #[.bool false, .slice none 0 0]) ?_ 0 _ rfl;(with_reducible repeat(fail));exact iL.out⟩,⟨cK vF.out⟩⟩
      (skip)
      have H' :=am H
      clear H;go_wp2
      go_meet
      case rel=>exact⟨_,(false),sq,H',⟨OG⟩,⟨rq (Kd.bA (Kd.bZ (p:=⟨rU,1,none⟩) (Kd.bZ (p:=⟨rU,0,none⟩) (Kd.eQ dN.out iL.out (by decide)) (fun _ hk=>hk.2) (.bool ((aG l0 aV).f0))) (fun _ hk=>hk.2) (.slice IQ ((aG l0 aV).f1).length uC)) (fun _ hk=>trivial))⟩,⟨by(with_reducible repeat(fail));refine bM (cs:= #[.bool ((aG l0 aV).f0), .slice none 0 0]) ?_ 1 _ rfl;(with_reducible repeat(fail));refine bM (cs:= #[.bool false, .slice none 0 0]) ?_ 0 _ rfl;(with_reducible repeat(fail));exact iL.out⟩,⟨cK vF.out⟩⟩
     case rest=>
      clear aYL;clear tK wE BV aST aSU aTd aTe QW aCJ bJ8 bKT;obtain⟨kq,aG4,rfl,HA,aBn,dN,iL,HB⟩:=hcut
      cases kq with
      |zero=>exact absurd HA.out (by simp [aJ.j1])
      |succ bJw=>
       have H:=HA.out;clear HA;simp only [aJ.j1] at H
       replace H:=ib H;rcases H with ⟨rfl,H⟩|⟨rfl,H⟩
       ·obtain rfl:=si H;go_wp2;go_ret
        exact⟨nD,cK vF.out⟩
       replace H:=it H;obtain⟨L9,H⟩:=H
       replace H:=it H;obtain⟨MB,H⟩:=H;obtain⟨aLw,aPU⟩: ∃y_:List Int,y_=(bL.set (aV:Int).toNat (-1)):=⟨_,rfl⟩
       replace H:=bm H;rw [←aPU] at H
       have a7i:=am aPU;clear aPU;have aYN:=am H;clear H
       have p22:0≤(aV:Int):=dt
       have q22:(aV:Int)<((bL.length:Int):Int):=dt
       obtain⟨CJ,FJ,aFV,aNM,a0q,bGn,aLL⟩:=Kd.F4 dN.out (by omega)
       (cases aFV)
       have aYJ:=am aNM;have bFl:=am aLL;clear aNM a0q aLL;obtain⟨aGi,aOe⟩:=Kd.zM 0 dN.out (aV:Int) p22 q22;replace p22:=eq_true p22;replace q22:=eq_true q22;have aY1:=Kd.MS dN.out (aV:Int) (-1)
       go_upto_if 43 with ((with_reducible refine uG (t:=3) (p:=41) rfl ?_);refine rZ (t:=3) (p:=41) (v:=?bLF) (w1:=(wc.setCell ⟨CJ,(aV:Int).toNat,none⟩ (.int .i64 (-1)))) ?hg ?ho ?hn ?hr ?_;(case ho=>rfl);(case hg=>rfl);(case hn=>rfl);(case hr=>(go_simp;done));intro w25 hw;have hg:wc.grownBy w25 (some CJ):=(by rw [hw];exact aY1.2);have YH:Kd.R (Kd.int .i64) 3 w25 w.heap.size (fun _=>True) (.slice (some ⟨CJ,0,none⟩) bL.length FJ) aLw:=(by rw [hw,a7i.out];exact aY1.1);clear aY1;replace iL:=am (gK (g:=rU) (o:= .cells #[.bool ((aG l0 aV).f0), .slice IQ ((aG l0 aV).f1).length uC] 69 (0,0)) (bq iL.out) hg (Kd.zO dN.out iL.out (by decide)));replace dN:=am (YH);replace HB:=am ((aMF:Below w.heap.size w w25));clear hg hw YH;have⟨aSZ,aS0,aTj,aTk⟩:=oP iL.out)
       go_cut [] (fun wc=> ∃(kq:Nat) (aFo:List Int),aC (aJ.j2 kq l0 aFo aV ((aG l0 aV).f0) ((aG l0 aV).f1)=some r)∧aC (kq≤bJw)∧aC (Kd.R (Kd.int .i64) 3 wc w.heap.size (fun _=>True) (.slice (some ⟨CJ,0,none⟩) bL.length FJ) aFo)∧aC (wc.heap[rU]?=some (.cells #[.bool ((aG l0 aV).f0),(.slice IQ ((aG l0 aV).f1).length uC)] 69 (0,0)))∧aC (Below w.heap.size w wc))
       case first=>
        have H:=aYN.out;clear aYN
        by_cases ZV:((aG l0 aV).f0)=true
        ·rw [if_pos ZV] at H
         have aAR:((aG l0 aV).f0)=true:=ZV
         clear ZV
         (rw [aAR])
         obtain⟨bCH,aPV⟩: ∃y_:List Int,y_=(aLw.set (aV:Int).toNat 0):=⟨_,rfl⟩
         rw [←aPV] at H
         have a7j:=am aPV;clear aPV
         have H' :=am H
         clear H
         obtain⟨bJk,bIy⟩:=Kd.zM 0 dN.out (aV:Int) dt dt;have p28:=e0 aV;have q28:=e1 aV ((bL.length:Int):Int);have aY3:=Kd.MS dN.out (aV:Int) 0
         go_wp2_with ((with_reducible refine uG (t:=3) (p:=46) rfl ?_);refine rZ (t:=3) (p:=46) (v:=?bLI) (w1:=(w25.setCell ⟨CJ,(aV:Int).toNat,none⟩ (.int .i64 0))) ?hg ?ho ?hn ?hr ?_;(case ho=>rfl);(case hg=>rfl);(case hn=>rfl);(case hr=>(go_simp;done));intro w30 hw;have hg:w25.grownBy w30 (some CJ):=(by rw [hw];exact aY3.2);have YH:Kd.R (Kd.int .i64) 3 w30 w.heap.size (fun _=>True) (.slice (some ⟨CJ,0,none⟩) bL.length FJ) bCH:=(by rw [hw,a7j.out];exact aY3.1);clear aY3;replace iL:=am (gK (g:=rU) (o:= .cells #[.bool ((aG l0 aV).f0), .slice IQ ((aG l0 aV).f1).length uC] 69 (0,0)) (bq iL.out) hg (Kd.zO dN.out iL.out (by decide)));replace dN:=am (YH);replace HB:=am ((aMF:Below w.heap.size w w30));clear hg hw YH)
         go_meet
         case rel=>exact⟨_,(bCH),H',⟨by have:=lM.out;have:=aBn.out;omega⟩,⟨rq dN.out⟩,⟨bq iL.out⟩,⟨cK vF.out⟩⟩
        rw [if_neg ZV] at H
        have aAR:((aG l0 aV).f0)=false:=by simpa using ZV
        clear ZV
        (rw [aAR])
        have H' :=am H
        clear H;go_wp2
        go_meet
        case rel=>exact⟨_,(aLw),H',⟨by have:=lM.out;have:=aBn.out;omega⟩,⟨rq dN.out⟩,⟨bq iL.out⟩,⟨cK vF.out⟩⟩
       case rest=>
        clear aYN;clear L9 MB p22 q22 aSZ aS0 aTj aTk aGi;obtain⟨kq,aFo,HA,aFu,dN,iL,HB⟩:=hcut;have TE:=(Kd.aM dN.out).1;rw [TE] at dN
        simp only [TE]
        cases kq with
        |zero=>exact absurd HA.out (by simp [aJ.j2])
        |succ bAX=>
         have H:=HA.out;clear HA;simp only [aJ.j2] at H
         have H' :=am H
         clear H;have⟨aS1,aS2,aTl,aTm⟩:=oP iL.out;go_wp2
         go_loopg [50] bAX (fun kq v50 w' => ∃(yX:List Int) (eX:Int),v50= .int .i64 eX∧aC (aJ.l1 kq l0 yX aV ((aG l0 aV).f1) (((aG l0 aV).f1).length:Int) eX ((aG l0 aV).f0) ((aG l0 aV).f1)=some r)∧aC (kq≤bAX)∧aC (Kd.R (Kd.int .i64) 3 w' w.heap.size (fun _=>True) (.slice (some ⟨CJ,0,none⟩) aFo.length FJ) yX)∧aC (w'.heap[rU]?=some (.cells #[.bool ((aG l0 aV).f0),(.slice IQ ((aG l0 aV).f1).length uC)] 69 (0,0)))∧aC (Below w.heap.size w w'))
         case atStart=>exact⟨(aFo),(0),sq,H',⟨Nat.le_refl _⟩,⟨by(with_reducible repeat(fail));exact dN.out⟩,⟨by(with_reducible repeat(fail));exact iL.out⟩,⟨cK vF.out⟩⟩
         case round=>
          clear H';clear aS1 aS2 aTl aTm;obtain⟨yX,eX,rfl,HA,NP,dN,iL,HB⟩:=hrel;have O5:=(Kd.aM dN.out).1;rw [O5] at dN
          simp only [O5]
          cases gk with
          |zero=>exact absurd HA.out (by simp [aJ.l1])
          |succ k4=>
           have H:=HA.out;clear HA;simp only [aJ.l1] at H
           replace H:=iv H;rcases H with ⟨OM,H⟩|⟨OM,H⟩
           ·replace H:=it H;obtain⟨OO,H⟩:=H;replace H:=it H;obtain⟨aD5,H⟩:=H;have aYP:=am H;clear H
            obtain⟨yL,bHl,bEe,bEf⟩:=kp2 HB (SH aBv.out eX dt dt);cases bHl;have bSe:=e0 eX;have bSF:=e1 eX (((aG l0 aV).f1).length:Int)
            go_upto_region 16 with (refine gd 7 ?_;((refine qI (by rfl) ?_;dsimp only));refine bx 7 (cs:= #[.int .i64 0, .int .i64 0]) (t:=77) ?_;intro gX hg RY bT hb;replace dN:=kr dN hb;have iY:=am (bT);have bMP:=am ((by rw [hg];exact(aH (cK vF.out)):w.heap.size≤gX));have IY:=am ((by rw [hg];exact(aH (cK vF.out)):w.heap.size≤gX));replace HB:=st1 vF hb;have E5:=am ((by rw [hg];exact Nat.ne_of_lt (jW (g:=rU) (o:= .cells #[.bool ((aG l0 aV).f0), .slice (some yL) ((aG l0 aV).f1).length uC] 69 (0,0)) (bq iL.out)):rU≠gX));have R9:=am ((by rw [hg];exact Nat.ne_of_gt (jW (g:=rU) (o:= .cells #[.bool ((aG l0 aV).f0), .slice (some yL) ((aG l0 aV).f1).length uC] 69 (0,0)) (bq iL.out)):gX≠rU));replace iL:=kb iL hb;clear hb bT hg;have bPl:=R9.out;have bPW:=E5.out;have⟨_,_,_,_⟩:=oP iY.out)
            go_cut [85] (fun v85 wc=> ∃(kq:Nat) (aG8:Bool),v85= .bool aG8∧aC (aJ.j4 kq l0 yX aV ((aG l0 aV).f1) (((aG l0 aV).f1).length:Int) eX aG8 ((aG l0 aV).f0) ((aG l0 aV).f1) ((bB ((aG l0 aV).f1) eX).f0) ((bB ((aG l0 aV).f1) eX).f1)=some r)∧aC (kq≤k4)∧aC (Kd.R (Kd.int .i64) 3 wc w.heap.size (fun _=>True) (.slice (some ⟨CJ,0,none⟩) yX.length FJ) yX)∧aC (wc.heap[rU]?=some (.cells #[.bool ((aG l0 aV).f0),(.slice (some yL) ((aG l0 aV).f1).length uC)] 69 (0,0)))∧aC (wc.heap[gX]?=some (.cells #[.int .i64 ((bB ((aG l0 aV).f1) eX).f0), .int .i64 ((bB ((aG l0 aV).f1) eX).f1)] 77 (0,0)))∧aC (Below w.heap.size w wc))
            case first=>
             have H:=aYP.out;clear aYP;replace H:=ba H;obtain⟨bCe,A39,H⟩:=H
             replace H:=ib H;rcases H with ⟨rfl,H⟩|⟨rfl,H⟩
             ·by_cases c41:eX>0
              ·rw [if_pos c41] at H;have ME:=decide_eq_true c41;clear c41
               (skip)
               obtain⟨wS,aEF⟩: ∃j_:Int,(wrap64 (eX-1))=j_:=⟨_,rfl⟩
               rw [aEF] at H
               have aOl:(IntKind.i64.wrap (eX-1))=wS:=(iZ _).trans aEF
               replace H:=it H;obtain⟨aNh,H⟩:=H;replace H:=it H;obtain⟨aD7,H⟩:=H
               replace H:=iv H;rcases H with ⟨aAS,H⟩|⟨aAS,H⟩
               ·have H' :=am H
                clear H
                try go_wp2
                have vK:aC (Kd.R (Kd.int .i64) 3 ((RY.setCell ⟨gX,0,none⟩ (.int .i64 ((bB ((aG l0 aV).f1) eX).f0))).setCell ⟨gX,1,none⟩ (.int .i64 ((bB ((aG l0 aV).f1) eX).f1))) w.heap.size (fun _=>True) (.slice (some ⟨CJ,0,none⟩) yX.length FJ) yX):=⟨rq (Kd.bA (Kd.bZ (p:=⟨gX,1,none⟩) (Kd.bZ (p:=⟨gX,0,none⟩) (Kd.eQ dN.out iY.out (by decide)) (fun _ hk=>hk.2) (.int .i64 ((bB ((aG l0 aV).f1) eX).f0))) (fun _ hk=>hk.2) (.int .i64 ((bB ((aG l0 aV).f1) eX).f1))) (fun _ hk=>trivial))⟩
                have vL:aC (((RY.setCell ⟨gX,0,none⟩ (.int .i64 ((bB ((aG l0 aV).f1) eX).f0))).setCell ⟨gX,1,none⟩ (.int .i64 ((bB ((aG l0 aV).f1) eX).f1))).heap[rU]?=some (.cells #[.bool ((aG l0 aV).f0), .slice (some yL) ((aG l0 aV).f1).length uC] 69 (0,0))):=⟨aSl⟩
                have GL:aC (((RY.setCell ⟨gX,0,none⟩ (.int .i64 ((bB ((aG l0 aV).f1) eX).f0))).setCell ⟨gX,1,none⟩ (.int .i64 ((bB ((aG l0 aV).f1) eX).f1))).heap[gX]?=some (.cells #[.int .i64 ((bB ((aG l0 aV).f1) eX).f0), .int .i64 ((bB ((aG l0 aV).f1) eX).f1)] 77 (0,0))):=⟨aSj⟩
                have MO:aC (Below w.heap.size w ((RY.setCell ⟨gX,0,none⟩ (.int .i64 ((bB ((aG l0 aV).f1) eX).f0))).setCell ⟨gX,1,none⟩ (.int .i64 ((bB ((aG l0 aV).f1) eX).f1)))):=⟨rP vF.out IY.out⟩
                clear dN iL iY HB;generalize ((RY.setCell ⟨gX,0,none⟩ (.int .i64 ((bB ((aG l0 aV).f1) eX).f0))).setCell ⟨gX,1,none⟩ (.int .i64 ((bB ((aG l0 aV).f1) eX).f1)))=w46 at vK vL GL MO⊢;have dN:=vK;have iL:=vL;have iY:=GL;have HB:=MO;clear vK vL GL MO;replace dN:=am (Kd.mZ dN.out);replace iL:=am (bF iL.out);replace iY:=am (bF iY.out);replace HB:=am (bH HB.out)
                obtain⟨aMt,aZ7,AU,AV⟩:=SH aBv.out (wS) dt dt;have KQ:=AV;have KP:=AU
                obtain rfl:yL=aMt:=(by injection aZ7)
                replace AU:=kp HB.out AU;replace AV:=kp HB.out AV;have bJ9:=e0 (wS);have bKU:=e1 (wS) (((aG l0 aV).f1).length:Int)
                refine st (n:=31) (S:=fun w' =>w'.cell? ⟨gX,0,none⟩=some (.int .i64 ((bB ((aG l0 aV).f1) eX).f0))∧w'.cell? ⟨gX,1,none⟩=some (.int .i64 ((bB ((aG l0 aV).f1) eX).f1))∧w'.cell? ⟨rU,0,none⟩=some (.bool ((aG l0 aV).f0))∧w'.cell? ⟨rU,1,none⟩=some (.slice (some yL) ((aG l0 aV).f1).length uC)∧w'.cell? (yL.add (((wS)).toNat*2))=some (.int .i64 ((bB ((aG l0 aV).f1) (wS)).f0))∧w'.cell? ⟨(yL.add (((wS)).toNat*2)).block,(yL.add (((wS)).toNat*2)).off+1,none⟩=some (.int .i64 ((bB ((aG l0 aV).f1) (wS)).f1))) (ds:=[]) ⟨bd iY.out 0,bd iY.out 1,bd iL.out 0,bd iL.out 1,(kp HB.out KP),(kp HB.out KQ)⟩ (fun hHeld=>?_);refine dW aJ.ZC aJ.MV (fun kQ rT=>?_)
                generalize w46.drew=w47 at dN iL iY HB AU AV hHeld⊢;refine pu 0 55 ?_;refine tk6 1 56 hHeld ?_;refine qF 2 57 (fun K hK=>?_)
                refine EI Tryz.func55 #[.int .i64 ((bB ((aG l0 aV).f1) eX).f0), .int .i64 97, .int .i64 122] ?_
                with_reducible refine(iM.calls ((bB ((aG l0 aV).f1) eX).f0) 97 122 true _ A39.out).mono ?_
                rintro e w' ⟨rfl,⟨nd,rfl⟩⟩
                refine⟨_,rfl,?_⟩;refine hK.out _ _ ⟨bd iY.out 0,bd iY.out 1,bd iL.out 0,bd iL.out 1,(kp HB.out KP),(kp HB.out KQ)⟩ (fun hHeld=>?_);clear hK K;refine nm 57 ?_;refine pu 3 58 ?_;refine pu 4 59 ?_;refine pu 5 60 ?_;refine pu 6 61 ?_;refine pu 7 62 ?_;refine pu 8 63 ?_;refine pu 10 65 ?_;refine pu 11 66 ?_;refine pu 15 70 ?_;refine tk6 9 64 hHeld ?_;refine pu 12 67 ?_;refine pu 13 68 ?_;refine tk6 14 69 hHeld ?_;refine tk6 16 71 hHeld ?_;refine pu 17 72 ?_;refine pu 18 73 ?_;refine pu 19 74 ?_;refine pu 20 75 ?_;refine kF 21 76 ?_;refine kF 22 77 ?_;refine kF 23 78 ?_;refine kF 24 79 ?_;refine kF 25 80 ?_;refine kF 26 81 ?_;refine kF 27 82 ?_;refine kF 28 83 ?_;refine kF 29 84 ?_;refine pu 30 85 ?_
                refine kD (fQ kQ.out (by kernel_rfl)) ?_
                try go_wp2
                go_meet
                case rel=>exact⟨_,(true),sq,H',⟨aSv⟩,⟨aKj⟩,⟨aMW⟩,⟨aSr⟩,⟨rP vF.out IY.out⟩⟩
               replace H:=ba H;obtain⟨aVq,A48,H⟩:=H
               have H' :=am H
               clear H
               try go_wp2
               have vK:aC (Kd.R (Kd.int .i64) 3 ((RY.setCell ⟨gX,0,none⟩ (.int .i64 ((bB ((aG l0 aV).f1) eX).f0))).setCell ⟨gX,1,none⟩ (.int .i64 ((bB ((aG l0 aV).f1) eX).f1))) w.heap.size (fun _=>True) (.slice (some ⟨CJ,0,none⟩) yX.length FJ) yX):=⟨rq (Kd.bA (Kd.bZ (p:=⟨gX,1,none⟩) (Kd.bZ (p:=⟨gX,0,none⟩) (Kd.eQ dN.out iY.out (by decide)) (fun _ hk=>hk.2) (.int .i64 ((bB ((aG l0 aV).f1) eX).f0))) (fun _ hk=>hk.2) (.int .i64 ((bB ((aG l0 aV).f1) eX).f1))) (fun _ hk=>trivial))⟩
               have vL:aC (((RY.setCell ⟨gX,0,none⟩ (.int .i64 ((bB ((aG l0 aV).f1) eX).f0))).setCell ⟨gX,1,none⟩ (.int .i64 ((bB ((aG l0 aV).f1) eX).f1))).heap[rU]?=some (.cells #[.bool ((aG l0 aV).f0), .slice (some yL) ((aG l0 aV).f1).length uC] 69 (0,0))):=⟨aSl⟩
               have GL:aC (((RY.setCell ⟨gX,0,none⟩ (.int .i64 ((bB ((aG l0 aV).f1) eX).f0))).setCell ⟨gX,1,none⟩ (.int .i64 ((bB ((aG l0 aV).f1) eX).f1))).heap[gX]?=some (.cells #[.int .i64 ((bB ((aG l0 aV).f1) eX).f0), .int .i64 ((bB ((aG l0 aV).f1) eX).f1)] 77 (0,0))):=⟨aSj⟩
               have MO:aC (Below w.heap.size w ((RY.setCell ⟨gX,0,none⟩ (.int .i64 ((bB ((aG l0 aV).f1) eX).f0))).setCell ⟨gX,1,none⟩ (.int .i64 ((bB ((aG l0 aV).f1) eX).f1)))):=⟨rP vF.out IY.out⟩
               clear dN iL iY HB;generalize ((RY.setCell ⟨gX,0,none⟩ (.int .i64 ((bB ((aG l0 aV).f1) eX).f0))).setCell ⟨gX,1,none⟩ (.int .i64 ((bB ((aG l0 aV).f1) eX).f1)))=w49 at vK vL GL MO⊢;have dN:=vK;have iL:=vL;have iY:=GL;have HB:=MO;clear vK vL GL MO;replace dN:=am (Kd.mZ dN.out);replace iL:=am (bF iL.out);replace iY:=am (bF iY.out);replace HB:=am (bH HB.out)
               obtain⟨aMt,aZ7,AU,AV⟩:=SH aBv.out (wS) dt dt;have KQ:=AV;have KP:=AU
               obtain rfl:yL=aMt:=(by injection aZ7)
               replace AU:=kp HB.out AU;replace AV:=kp HB.out AV;have bJ9:=e0 (wS);have bKU:=e1 (wS) (((aG l0 aV).f1).length:Int)
               refine st (n:=31) (S:=fun w' =>w'.cell? ⟨gX,0,none⟩=some (.int .i64 ((bB ((aG l0 aV).f1) eX).f0))∧w'.cell? ⟨gX,1,none⟩=some (.int .i64 ((bB ((aG l0 aV).f1) eX).f1))∧w'.cell? ⟨rU,0,none⟩=some (.bool ((aG l0 aV).f0))∧w'.cell? ⟨rU,1,none⟩=some (.slice (some yL) ((aG l0 aV).f1).length uC)∧w'.cell? (yL.add (((wS)).toNat*2))=some (.int .i64 ((bB ((aG l0 aV).f1) (wS)).f0))∧w'.cell? ⟨(yL.add (((wS)).toNat*2)).block,(yL.add (((wS)).toNat*2)).off+1,none⟩=some (.int .i64 ((bB ((aG l0 aV).f1) (wS)).f1))) (ds:=[]) ⟨bd iY.out 0,bd iY.out 1,bd iL.out 0,bd iL.out 1,(kp HB.out KP),(kp HB.out KQ)⟩ (fun hHeld=>?_);refine dW aJ.ZC aJ.MV (fun kQ rT=>?_)
               generalize w49.drew=w50 at dN iL iY HB AU AV hHeld⊢;refine pu 0 55 ?_;refine tk6 1 56 hHeld ?_;refine qF 2 57 (fun K hK=>?_)
               refine EI Tryz.func55 #[.int .i64 ((bB ((aG l0 aV).f1) eX).f0), .int .i64 97, .int .i64 122] ?_
               with_reducible refine(iM.calls ((bB ((aG l0 aV).f1) eX).f0) 97 122 true _ A39.out).mono ?_
               rintro e w' ⟨rfl,⟨nd,rfl⟩⟩
               refine⟨_,rfl,?_⟩;refine hK.out _ _ ⟨bd iY.out 0,bd iY.out 1,bd iL.out 0,bd iL.out 1,(kp HB.out KP),(kp HB.out KQ)⟩ (fun hHeld=>?_);clear hK K;refine nm 57 ?_;refine pu 3 58 ?_;refine pu 4 59 ?_;refine pu 5 60 ?_;refine pu 6 61 ?_;refine pu 7 62 ?_;refine pu 8 63 ?_;refine pu 10 65 ?_;refine pu 11 66 ?_;refine pu 15 70 ?_;refine tk6 9 64 hHeld ?_;refine pu 12 67 ?_;refine pu 13 68 ?_;refine tk6 14 69 hHeld ?_;refine tk6 16 71 hHeld ?_;refine pu 17 72 ?_;refine pu 18 73 ?_;refine pu 19 74 ?_;refine pu 20 75 ?_;refine pu 21 76 ?_;refine pu 23 78 ?_;refine pu 24 79 ?_;refine pu 25 80 ?_;refine pu 26 81 ?_;refine pu 27 82 ?_;refine tk6 22 77 hHeld ?_;refine qF 28 83 (fun K hK=>?_)
               refine EI Tryz.func55 #[.int .i64 ((bB ((aG l0 aV).f1) eX).f1), .int .i64 (wrap64 (aV+1)), .int .i64 (wrap64 ((l0.length:Int)-1))] ?_
               with_reducible refine(iM.calls ((bB ((aG l0 aV).f1) eX).f1) (wrap64 (aV+1)) (wrap64 ((l0.length:Int)-1)) aVq _ A48.out).mono ?_
               rintro e w' ⟨rfl,⟨nd,rfl⟩⟩
               refine⟨_,rfl,?_⟩;refine hK.out _ _ ⟨bd iY.out 0,bd iY.out 1,bd iL.out 0,bd iL.out 1,(kp HB.out KP),(kp HB.out KQ)⟩ (fun hHeld=>?_);clear hK K;refine nm 83 ?_;refine pu 29 84 ?_;refine pu 30 85 ?_
               refine kD (fQ kQ.out (by kernel_rfl)) ?_
               try go_wp2
               go_meet
               case rel=>exact⟨_,(!aVq),sq,H',⟨aSv⟩,⟨aKj⟩,⟨aMW⟩,⟨aSr⟩,⟨rP vF.out IY.out⟩⟩
              rw [if_neg c41] at H;have ME:=decide_eq_false c41;clear c41
              (skip)
              replace H:=ba H;obtain⟨aVr,A51,H⟩:=H
              have H' :=am H
              clear H
              try go_wp2
              have vK:aC (Kd.R (Kd.int .i64) 3 ((RY.setCell ⟨gX,0,none⟩ (.int .i64 ((bB ((aG l0 aV).f1) eX).f0))).setCell ⟨gX,1,none⟩ (.int .i64 ((bB ((aG l0 aV).f1) eX).f1))) w.heap.size (fun _=>True) (.slice (some ⟨CJ,0,none⟩) yX.length FJ) yX):=⟨rq (Kd.bA (Kd.bZ (p:=⟨gX,1,none⟩) (Kd.bZ (p:=⟨gX,0,none⟩) (Kd.eQ dN.out iY.out (by decide)) (fun _ hk=>hk.2) (.int .i64 ((bB ((aG l0 aV).f1) eX).f0))) (fun _ hk=>hk.2) (.int .i64 ((bB ((aG l0 aV).f1) eX).f1))) (fun _ hk=>trivial))⟩
              have vL:aC (((RY.setCell ⟨gX,0,none⟩ (.int .i64 ((bB ((aG l0 aV).f1) eX).f0))).setCell ⟨gX,1,none⟩ (.int .i64 ((bB ((aG l0 aV).f1) eX).f1))).heap[rU]?=some (.cells #[.bool ((aG l0 aV).f0), .slice (some yL) ((aG l0 aV).f1).length uC] 69 (0,0))):=⟨aSl⟩
              have GL:aC (((RY.setCell ⟨gX,0,none⟩ (.int .i64 ((bB ((aG l0 aV).f1) eX).f0))).setCell ⟨gX,1,none⟩ (.int .i64 ((bB ((aG l0 aV).f1) eX).f1))).heap[gX]?=some (.cells #[.int .i64 ((bB ((aG l0 aV).f1) eX).f0), .int .i64 ((bB ((aG l0 aV).f1) eX).f1)] 77 (0,0))):=⟨aSj⟩
              have MO:aC (Below w.heap.size w ((RY.setCell ⟨gX,0,none⟩ (.int .i64 ((bB ((aG l0 aV).f1) eX).f0))).setCell ⟨gX,1,none⟩ (.int .i64 ((bB ((aG l0 aV).f1) eX).f1)))):=⟨rP vF.out IY.out⟩
              clear dN iL iY HB;generalize ((RY.setCell ⟨gX,0,none⟩ (.int .i64 ((bB ((aG l0 aV).f1) eX).f0))).setCell ⟨gX,1,none⟩ (.int .i64 ((bB ((aG l0 aV).f1) eX).f1)))=w52 at vK vL GL MO⊢;have dN:=vK;have iL:=vL;have iY:=GL;have HB:=MO;clear vK vL GL MO;replace dN:=am (Kd.mZ dN.out);replace iL:=am (bF iL.out);replace iY:=am (bF iY.out);replace HB:=am (bH HB.out)
              refine st (n:=31) (S:=fun w' =>w'.cell? ⟨gX,0,none⟩=some (.int .i64 ((bB ((aG l0 aV).f1) eX).f0))∧w'.cell? ⟨gX,1,none⟩=some (.int .i64 ((bB ((aG l0 aV).f1) eX).f1))) (ds:=[]) ⟨bd iY.out 0,bd iY.out 1⟩ (fun hHeld=>?_);refine dW aJ.ZC aJ.MV (fun kQ rT=>?_)
              generalize w52.drew=w53 at dN iL iY HB hHeld⊢;refine pu 0 55 ?_;refine V9 1 56 hHeld ?_;refine qF 2 57 (fun K hK=>?_)
              refine EI Tryz.func55 #[.int .i64 ((bB ((aG l0 aV).f1) eX).f0), .int .i64 97, .int .i64 122] ?_
              with_reducible refine(iM.calls ((bB ((aG l0 aV).f1) eX).f0) 97 122 true _ A39.out).mono ?_
              rintro e w' ⟨rfl,⟨nd,rfl⟩⟩
              refine⟨_,rfl,?_⟩;refine hK.out _ _ ⟨bd iY.out 0,bd iY.out 1⟩ (fun hHeld=>?_);clear hK K;refine nm 57 ?_;refine pu 3 58 ?_;refine pu 4 59 ?_;refine pu 5 60 ?_;refine pu 6 61 ?_;refine pu 7 62 ?_;refine kF 8 63 ?_;refine kF 9 64 ?_;refine kF 10 65 ?_;refine kF 11 66 ?_;refine kF 12 67 ?_;refine kF 13 68 ?_;refine kF 14 69 ?_;refine kF 15 70 ?_;refine kF 16 71 ?_;refine kF 17 72 ?_;refine pu 18 73 ?_;refine pu 19 74 ?_;refine pu 20 75 ?_;refine pu 21 76 ?_;refine pu 23 78 ?_;refine pu 24 79 ?_;refine pu 25 80 ?_;refine pu 26 81 ?_;refine pu 27 82 ?_;refine V9 22 77 hHeld ?_;refine qF 28 83 (fun K hK=>?_)
              refine EI Tryz.func55 #[.int .i64 ((bB ((aG l0 aV).f1) eX).f1), .int .i64 (wrap64 (aV+1)), .int .i64 (wrap64 ((l0.length:Int)-1))] ?_
              with_reducible refine(iM.calls ((bB ((aG l0 aV).f1) eX).f1) (wrap64 (aV+1)) (wrap64 ((l0.length:Int)-1)) aVr _ A51.out).mono ?_
              rintro e w' ⟨rfl,⟨nd,rfl⟩⟩
              refine⟨_,rfl,?_⟩;refine hK.out _ _ ⟨bd iY.out 0,bd iY.out 1⟩ (fun hHeld=>?_);clear hK K;refine nm 83 ?_;refine pu 29 84 ?_;refine pu 30 85 ?_
              refine kD (fQ kQ.out (by kernel_rfl)) ?_
              try go_wp2
              go_meet
              case rel=>exact⟨_,(!aVr),sq,H',⟨aSv⟩,⟨aKj⟩,⟨aMW⟩,⟨aSr⟩,⟨rP vF.out IY.out⟩⟩
             have H' :=am H
             clear H
             try go_wp2
             have vK:aC (Kd.R (Kd.int .i64) 3 ((RY.setCell ⟨gX,0,none⟩ (.int .i64 ((bB ((aG l0 aV).f1) eX).f0))).setCell ⟨gX,1,none⟩ (.int .i64 ((bB ((aG l0 aV).f1) eX).f1))) w.heap.size (fun _=>True) (.slice (some ⟨CJ,0,none⟩) yX.length FJ) yX):=⟨rq (Kd.bA (Kd.bZ (p:=⟨gX,1,none⟩) (Kd.bZ (p:=⟨gX,0,none⟩) (Kd.eQ dN.out iY.out (by decide)) (fun _ hk=>hk.2) (.int .i64 ((bB ((aG l0 aV).f1) eX).f0))) (fun _ hk=>hk.2) (.int .i64 ((bB ((aG l0 aV).f1) eX).f1))) (fun _ hk=>trivial))⟩
             have vL:aC (((RY.setCell ⟨gX,0,none⟩ (.int .i64 ((bB ((aG l0 aV).f1) eX).f0))).setCell ⟨gX,1,none⟩ (.int .i64 ((bB ((aG l0 aV).f1) eX).f1))).heap[rU]?=some (.cells #[.bool ((aG l0 aV).f0), .slice (some yL) ((aG l0 aV).f1).length uC] 69 (0,0))):=⟨aSl⟩
             have GL:aC (((RY.setCell ⟨gX,0,none⟩ (.int .i64 ((bB ((aG l0 aV).f1) eX).f0))).setCell ⟨gX,1,none⟩ (.int .i64 ((bB ((aG l0 aV).f1) eX).f1))).heap[gX]?=some (.cells #[.int .i64 ((bB ((aG l0 aV).f1) eX).f0), .int .i64 ((bB ((aG l0 aV).f1) eX).f1)] 77 (0,0))):=⟨aSj⟩
             have MO:aC (Below w.heap.size w ((RY.setCell ⟨gX,0,none⟩ (.int .i64 ((bB ((aG l0 aV).f1) eX).f0))).setCell ⟨gX,1,none⟩ (.int .i64 ((bB ((aG l0 aV).f1) eX).f1)))):=⟨rP vF.out IY.out⟩
             clear dN iL iY HB;generalize ((RY.setCell ⟨gX,0,none⟩ (.int .i64 ((bB ((aG l0 aV).f1) eX).f0))).setCell ⟨gX,1,none⟩ (.int .i64 ((bB ((aG l0 aV).f1) eX).f1)))=w54 at vK vL GL MO⊢;have dN:=vK;have iL:=vL;have iY:=GL;have HB:=MO;clear vK vL GL MO;replace dN:=am (Kd.mZ dN.out);replace iL:=am (bF iL.out);replace iY:=am (bF iY.out);replace HB:=am (bH HB.out)
             refine st (n:=31) (S:=fun w' =>w'.cell? ⟨gX,0,none⟩=some (.int .i64 ((bB ((aG l0 aV).f1) eX).f0))∧w'.cell? ⟨gX,1,none⟩=some (.int .i64 ((bB ((aG l0 aV).f1) eX).f1))) (ds:=[]) ⟨bd iY.out 0,bd iY.out 1⟩ (fun hHeld=>?_);refine dW aJ.ZC aJ.MV (fun kQ rT=>?_)
             generalize w54.drew=w55 at dN iL iY HB hHeld⊢;refine pu 0 55 ?_;refine V9 1 56 hHeld ?_;refine qF 2 57 (fun K hK=>?_)
             refine EI Tryz.func55 #[.int .i64 ((bB ((aG l0 aV).f1) eX).f0), .int .i64 97, .int .i64 122] ?_
             with_reducible refine(iM.calls ((bB ((aG l0 aV).f1) eX).f0) 97 122 false _ A39.out).mono ?_
             rintro e w' ⟨rfl,⟨nd,rfl⟩⟩
             refine⟨_,rfl,?_⟩;refine hK.out _ _ ⟨bd iY.out 0,bd iY.out 1⟩ (fun hHeld=>?_);clear hK K;refine nm 57 ?_;refine pu 3 58 ?_;refine pu 4 59 ?_;refine kF 5 60 ?_;refine kF 6 61 ?_;refine kF 7 62 ?_;refine kF 8 63 ?_;refine kF 9 64 ?_;refine kF 10 65 ?_;refine kF 11 66 ?_;refine kF 12 67 ?_;refine kF 13 68 ?_;refine kF 14 69 ?_;refine kF 15 70 ?_;refine kF 16 71 ?_;refine kF 17 72 ?_;refine kF 18 73 ?_;refine pu 19 74 ?_;refine pu 20 75 ?_;refine kF 21 76 ?_;refine kF 22 77 ?_;refine kF 23 78 ?_;refine kF 24 79 ?_;refine kF 25 80 ?_;refine kF 26 81 ?_;refine kF 27 82 ?_;refine kF 28 83 ?_;refine kF 29 84 ?_;refine pu 30 85 ?_
             refine kD (fQ kQ.out (by kernel_rfl)) ?_
             try go_wp2
             go_meet
             case rel=>exact⟨_,(true),sq,H',⟨aSv⟩,⟨aKj⟩,⟨aMW⟩,⟨aSr⟩,⟨rP vF.out IY.out⟩⟩
            case rest=>
             clear aYP;obtain⟨kq,aG8,rfl,HA,aRR,dN,iL,iY,HB⟩:=hcut
             cases kq with
             |zero=>exact absurd HA.out (by simp [aJ.j4])
             |succ bAY=>
              have H:=HA.out;clear HA;simp only [aJ.j4] at H
              replace H:=ib H;rcases H with ⟨rfl,H⟩|⟨rfl,H⟩
              ·obtain rfl:=si H;go_wp2;go_ret
               exact⟨nD,rP vF.out IY.out⟩
              replace H:=it H;obtain⟨aAU,H⟩:=H;replace H:=it H;obtain⟨aNk,H⟩:=H
              replace H:=iv H;rcases H with ⟨aD9,H⟩|⟨aD9,H⟩
              ·replace H:=it H;obtain⟨aEa,H⟩:=H
               replace H:=it H;obtain⟨aNm,H⟩:=H;obtain⟨U9,aEH⟩: ∃j_:Int,(mx (rd yX aV) (wrap64 ((rd yX ((bB ((aG l0 aV).f1) eX).f1))+1)))=j_:=⟨_,rfl⟩
               rw [aEH] at H
               have a1z:(if(rd yX aV)<(wrap64 ((rd yX ((bB ((aG l0 aV).f1) eX).f1))+1))then(wrap64 ((rd yX ((bB ((aG l0 aV).f1) eX).f1))+1))else(rd yX aV))=U9:=aEH
               obtain⟨bMo,aPW⟩: ∃y_:List Int,y_=(yX.set (aV:Int).toNat (U9)):=⟨_,rfl⟩
               rw [←aPW] at H
               have a7k:=am aPW;clear aPW
               have H' :=am H
               clear H;have bPx:=R9.out;have bP8:=E5.out
               have bDw:wc.cell? ⟨gX,0,none⟩=some (.int .i64 ((bB ((aG l0 aV).f1) eX).f0)):=bd iY.out 0
               have bDx:wc.cell? ⟨gX,1,none⟩=some (.int .i64 ((bB ((aG l0 aV).f1) eX).f1)):=bd iY.out 1
               have bDE:=bf iY.out 0;have bDF:=bf iY.out 1
               obtain⟨aMu,aZ8,aCK,bKa,bKV⟩:=XQ (Kd.aM dN.out).2.2 ((bB ((aG l0 aV).f1) eX).f1)
               obtain rfl:(⟨CJ,0,none⟩:Addr)=aMu:=(by injection aZ8)
               (simp only [add_plain] at aCK)
               try go_wp2
               replace dN:=am (Kd.mZ dN.out);replace iL:=am (bF iL.out);replace iY:=am (bF iY.out);replace HB:=am (bH HB.out)
               obtain⟨a7Y,bHm,aCL,bSf,bSG⟩:=XQ (Kd.aM dN.out).2.2 aV
               obtain rfl:(⟨CJ,0,none⟩:Addr)=a7Y:=(by injection bHm)
               (simp only [add_plain] at aCL)
               obtain⟨a7Z,bHn,aCM,bSg,bSH⟩:=XQ (Kd.aM dN.out).2.2 ((bB ((aG l0 aV).f1) eX).f1)
               obtain rfl:(⟨CJ,0,none⟩:Addr)=a7Z:=(by injection bHn)
               (simp only [add_plain] at aCM)
               obtain⟨a1V,a1l⟩:=Kd.zM 0 dN.out (aV:Int) dt dt;have p63:=e0 aV;have q63:=e1 aV ((yX.length:Int):Int);have aY6:=Kd.aMc dN.out (aV:Int) U9;rw [←a7k.out] at aY6;have a5r:=am aY6;clear aY6
               refine J5 (n:=15) (S:=fun w' =>w'.cell? ⟨gX,0,none⟩=some (.int .i64 ((bB ((aG l0 aV).f1) eX).f0))∧w'.cell? ⟨gX,1,none⟩=some (.int .i64 ((bB ((aG l0 aV).f1) eX).f1))∧w'.cell? ⟨CJ,(aV).toNat,none⟩=some (.int .i64 (rd yX aV))∧w'.cell? ⟨CJ,(((bB ((aG l0 aV).f1) eX).f1)).toNat,none⟩=some (.int .i64 (rd yX ((bB ((aG l0 aV).f1) eX).f1)))) (ds:=[14]) #[false,false,false,false,false,false,false,false,false,false,false,false,false,false,false] (by kernel_rfl) rfl rfl ⟨bd iY.out 0,bd iY.out 1,aCL,aCM⟩ (fun hHeld=>?_);refine dW aJ.bCn aJ.aZw (fun kQ rT=>?_)
               generalize wc.drew=w66 at dN iL iY HB a5r a1l a1V aCL aCM hHeld⊢;refine pu 0 92 ?_;refine pu 1 93 ?_;refine pu 2 94 ?_;refine pu 3 95 ?_;refine pu 4 96 ?_;refine pu 6 98 ?_;refine pu 7 99 ?_;refine VG 5 97 hHeld ?_;refine VG 8 100 hHeld ?_;refine pu 9 101 ?_;refine VG 10 102 hHeld ?_;refine pu 11 103 ?_;refine pu 12 104 ?_;refine pu 13 105 ?_
               refine UL (i:=14) (N:=none) #[true,true,true,true,true,true,true,true,true,true,true,true,true,true,true] rfl rfl (CR kQ.out (by kernel_rfl)) (by decide) (fun K hK=>?_)
               refine RL (w1:=?_) (by rfl) rfl ?_ ?_
               rotate_left
               ·go_simp
                rfl
               refine hK.out _ _ ?_;clear hK K
               refine kD (fQ kQ.out (by kernel_rfl)) ?_
               try go_wp2
               simp only [←O5]
               go_roundg bAY
               case measure=>have:=lM.out;have:=aBn.out;have:=aFu.out;have:=NP.out;have:=aRR.out;omega
               case rel=>exact⟨(bMo),(wrap64 (eX+1)),sq,H',⟨by have:=lM.out;have:=aBn.out;have:=aFu.out;have:=NP.out;have:=aRR.out;omega⟩,⟨by simp only [O5];(with_reducible repeat(fail));exact a5r.out⟩,⟨by(with_reducible repeat(fail));refine iV ?_ (by have h_:=Kd.zO dN.out iL.out (by decide);intro e_;exact h_ (by rw [e_];rfl)) _;(with_reducible repeat(fail));exact iL.out⟩,⟨bFT aYJ.out vF.out IY.out⟩⟩
              have H' :=am H
              clear H;have bPA:=R9.out;have bQb:=E5.out
              have bDy:wc.cell? ⟨gX,0,none⟩=some (.int .i64 ((bB ((aG l0 aV).f1) eX).f0)):=bd iY.out 0
              have bDz:wc.cell? ⟨gX,1,none⟩=some (.int .i64 ((bB ((aG l0 aV).f1) eX).f1)):=bd iY.out 1
              have bDG:=bf iY.out 0;have bDH:=bf iY.out 1
              obtain⟨aMu,aZ8,aCK,bKa,bKV⟩:=XQ (Kd.aM dN.out).2.2 ((bB ((aG l0 aV).f1) eX).f1)
              obtain rfl:(⟨CJ,0,none⟩:Addr)=aMu:=(by injection aZ8)
              (simp only [add_plain] at aCK)
              go_wp2
              simp only [←O5]
              go_roundg bAY
              case measure=>have:=lM.out;have:=aBn.out;have:=aFu.out;have:=NP.out;have:=aRR.out;omega
              case rel=>exact⟨(yX),(wrap64 (eX+1)),sq,H',⟨by have:=lM.out;have:=aBn.out;have:=aFu.out;have:=NP.out;have:=aRR.out;omega⟩,⟨aKj⟩,⟨aMW⟩,⟨rP vF.out IY.out⟩⟩
           have H' :=am H
           clear H;go_wp2
           simp only [←TE,←O5]
           go_roundg k4
           case measure=>have:=lM.out;have:=aBn.out;have:=aFu.out;have:=NP.out;omega
           case rel=>exact⟨(yX),(wrap64 (aV-1)),sq,H',⟨by have:=lM.out;have:=aBn.out;have:=aFu.out;have:=NP.out;omega⟩,⟨aKj⟩,⟨cK vF.out⟩⟩
    replace H:=ip H;obtain⟨c70,H⟩:=H;have aXx:=decide_eq_true c70
    have a9g:decide (0<bL.length)=true:=decide_eq_true (by omega)
    clear c70;obtain rfl:=si H;obtain⟨bQK,bRt,bHS⟩:=Kd.bS dN.out;subst bHS
    have a2u:0≤(0:Int):=(by omega)
    have a2D:0<(bL.length:Int):=dt
    obtain⟨bNn,bHj,aJz⟩:=Kd.XR (Kd.aM dN.out).2.2 0 a2u a2D;cases bHj
    have bQp:(0<bL.length)=True:=eq_true (by omega)
    rw [show((0:Int)).toNat=0 from rfl] at aJz
    rw [Addr.add_zero'] at aJz
    replace a2u:=eq_true a2u;replace a2D:=eq_true a2D;go_wp2;go_ret
    exact⟨nD,gP⟩
 obtain rfl:=si H;go_enter Tryz.func42,Tryz.ntmps42
 go_wp2_with (refine gd 10 ?_;refine gv Tryz.func55 (iM.calls (l0.length:Int) 1 400 false _ A2.out) ?_;rintro w' ⟨nd,rfl⟩)
 go_ret
 exact⟨nD,gP⟩
def gN.l0:Nat→Int→List (ER)→Int→Int→Option (Int)
 |0,_,_,_,_=>none
 |k+1,x1,x8,x9,zJ=>if zJ<x9 then(if 0≤zJ then(if zJ<(x8.length:Int)then(if((bB x8 zJ).f0)=(wrap64 (x1))then(some ((bB x8 zJ).f1))else(gN.l0 k x1 x8 x9 (wrap64 (zJ+1))))else(none))else(none))else(some (-1))
def gN.f (k:Nat) (iD:Bool) (bV:List (ER)) (a1:Int):Option (Int):=gN.l0 k a1 bV (bV.length:Int) 0
theorem gN.calls (k:Nat) (iD:Bool) (nQ:Option Addr) (lH:Nat) (bV:List (ER)) (a1:Int) (r:Int) (w:World) (rW:Kd.C k77 w nQ bV.length bV) (rV:bV.length≤lH) (h:gN.f k iD bV a1=some r):
  Calls Tryz.prog 78 #[.agg #[.bool iD, .slice nQ bV.length lH], .int .u8 a1] w fun e w' =>e= .returned (.int .i64 r)∧Below w.heap.size w w' :=by
 have bAM:=Tryz.underlying69;have bAN:=Tryz.underlying77;have nE:=am rW;have sN:=am rV;clear rW rV;have HB:=am (Below.refl w.heap.size w)
 have H:=h;unfold gN.f at H
 clear h
 have H' :=am H
 clear H;go_enter Tryz.func78,Tryz.ntmps78
 go_wp2_with (refine gd 2 ?_;refine bx 2 (cs:= #[.bool iD, .slice nQ bV.length lH]) (t:=69) ?_;intro O1 hg w3 bT hb;have LP:=am (bT);have bMQ:=am ((kI:w.heap.size≤O1));have XD:=am ((kI:w.heap.size≤O1));replace HB:=o8 hb;clear hb bT hg;have⟨aGc,aGd,a1p,aGe⟩:=oP LP.out)
 go_loopg [10] k (fun kq v10 w' => ∃(eB:Int),v10= .int .i64 eB∧aC (gN.l0 kq a1 bV (bV.length:Int) eB=some r)∧aC (kq≤k)∧aC (w'.heap[O1]?=some (.cells #[.bool iD,(.slice nQ bV.length lH)] 69 (0,0)))∧aC (Below w.heap.size w w'))
 case atStart=>exact⟨(0),sq,H',⟨Nat.le_refl _⟩,⟨bq LP.out⟩,⟨cK XD.out⟩⟩
 case round=>
  clear H';clear aGc aGd a1p aGe;obtain⟨eB,rfl,HA,lM,LP,HB⟩:=hrel
  cases gk with
  |zero=>exact absurd HA.out (by simp [gN.l0])
  |succ k1=>
   have H:=HA.out;clear HA;simp only [gN.l0] at H
   replace H:=iv H;rcases H with ⟨oL,H⟩|⟨oL,H⟩
   ·replace H:=it H;obtain⟨sW,H⟩:=H;replace H:=it H;obtain⟨wR,H⟩:=H
    by_cases c8:((bB bV eB).f0)=(wrap64 (a1))
    ·rw [if_pos c8] at H
     have tK:(((bB bV eB).f0)==(wrap64 (a1)))=true:=beq_iff_eq.mpr c8
     have aEb:(((bB bV eB).f0) !=(wrap64 (a1)))=false:=bne_eq_false_iff_eq.mpr c8
     clear c8;obtain rfl:=si H
     obtain⟨aMv,aZ9,aT8,aT9⟩:=kp2 HB (SH nE.out eB dt dt);cases aZ9;have bKb:=e0 eB;have bKW:=e1 eB (bV.length:Int)
     go_wp2_with (refine gd 6 ?_;refine bx 6 (cs:= #[.int .i64 0, .int .i64 0]) (t:=77) ?_;intro O3 hg w9 bT hb;have aLA:=am (bT);have a4c:=am ((aHO:w.heap.size≤O3));have aLG:=am ((aHO:w.heap.size≤O3));replace HB:=st1 XD hb;have E8:=am ((aWH:O1≠O3));have SA:=am ((aWI:O3≠O1));replace LP:=kb LP hb;clear hb bT hg;have aOo:=SA.out;have aOq:=E8.out;have⟨_,_,_,_⟩:=oP aLA.out)
     go_ret
     exact⟨nD,rP XD.out aLG.out⟩
    rw [if_neg c8] at H
    have tK:(((bB bV eB).f0)==(wrap64 (a1)))=false:=beq_eq_false_iff_ne.mpr c8
    have aEb:(((bB bV eB).f0) !=(wrap64 (a1)))=true:=bne_iff_ne.mpr c8
    have H' :=am H
    clear H
    obtain⟨aMv,aZ9,aT8,aT9⟩:=kp2 HB (SH nE.out eB dt dt);cases aZ9;have bKb:=e0 eB;have bKW:=e1 eB (bV.length:Int)
    go_wp2_with (refine gd 6 ?_;refine bx 6 (cs:= #[.int .i64 0, .int .i64 0]) (t:=77) ?_;intro O3 hg w12 bT hb;have aLA:=am (bT);have a4c:=am ((aHO:w.heap.size≤O3));have aLG:=am ((aHO:w.heap.size≤O3));replace HB:=st1 XD hb;have E8:=am ((aWH:O1≠O3));have SA:=am ((aWI:O3≠O1));replace LP:=kb LP hb;clear hb bT hg;have bO8:=SA.out;have bPJ:=E8.out;have⟨_,_,_,_⟩:=oP aLA.out)
    go_roundg k1
    case measure=>have:=lM.out;omega
    case rel=>exact⟨(wrap64 (eB+1)),sq,H',⟨rO⟩,⟨by(with_reducible repeat(fail));refine iV ?_ E8.out _;(with_reducible repeat(fail));refine iV ?_ E8.out _;(with_reducible repeat(fail));exact LP.out⟩,⟨rP XD.out aLG.out⟩⟩
   obtain rfl:=si H;go_wp2;go_ret
   exact⟨nD,cK XD.out⟩
def gB.l0:Nat→List (xH)→ByteArray→Int→Int→Int→Option (Int)
 |0,_,_,_,_,_=>none
 |k+1,x0,x1,x5,x8,x9=>if x9<x8 then(if 0≤x5 then(if x5<(x0.length:Int)then(if 0≤x9 then(if x9<(x1.size:Int)then((gN.f k ((aG x0 x5).f0) ((aG x0 x5).f1) (bt x1 x9)).bind fun aLl=>(if aLl<0 then(some (-1))else(gB.l0 k x0 x1 aLl x8 (wrap64 (x9+1)))))else(none))else(none))else(none))else(none))else(some x5)
def gB.f (k:Nat) (l0:List (xH)) (a1:ByteArray):Option (Int):=gB.l0 k l0 a1 0 (a1.size:Int) 0
def gB.T5:Bool×List (List Nat×List Nat):=(true,[([],[]),([],[]),([0,1],[0,1]),([2],[2]),([],[]),([],[]),([4,5],[4,5]),([3,6],[3,6]),([7,7,0,1,2,3,4,5,6,7],[1,7])])
def gB.B5:List Nat:=[0,0,3,7,0,0,48,127,255]
theorem gB.aVu:nX .any (opsOf Tryz.f44 5)=gB.T5:=by kernel_rfl
theorem gB.aHQ:jA gB.T5.2 gB.B5=true:=by kernel_rfl
theorem gB.calls (k:Nat) (A0:Option Addr) (c0:Nat) (l0:List (xH)) (a1:ByteArray) (r:Int) (w:World) (hr0:Kd.C VB w A0 l0.length l0) (hc0:l0.length≤c0) (h:gB.f k l0 a1=some r):
  Calls Tryz.prog 44 #[.slice A0 l0.length c0, .string a1] w fun e w' =>e= .returned (.int .i64 r)∧Below w.heap.size w w' :=by
 have bAM:=Tryz.underlying69;have lX:=am hr0;have vX:=am hc0;clear hr0 hc0;have HB:=am (Below.refl w.heap.size w)
 have H:=h;unfold gB.f at H
 clear h
 have H' :=am H
 clear H;go_enter Tryz.func44,Tryz.ntmps44;go_wp2
 go_loopg [5,9] k (fun kq v5 v9 w' => ∃(bI:Int) (iO:Int),v5= .int .i64 bI∧v9= .int .i64 iO∧aC (gB.l0 kq l0 a1 bI (a1.size:Int) iO=some r)∧aC (kq≤k)∧aC (Below w.heap.size w w'))
 case atStart=>exact⟨(0),(0),sq,sq,H',⟨Nat.le_refl _⟩,⟨gP⟩⟩
 case round=>
  clear H';obtain⟨bI,iO,rfl,rfl,HA,lM,HB⟩:=hrel
  cases gk with
  |zero=>exact absurd HA.out (by simp [gB.l0])
  |succ k1=>
   have H:=HA.out;clear HA;simp only [gB.l0] at H
   replace H:=iv H;rcases H with ⟨oG,H⟩|⟨oG,H⟩
   ·replace H:=it H;obtain⟨qZ,H⟩:=H;replace H:=it H;obtain⟨oL,H⟩:=H;replace H:=it H;obtain⟨sW,H⟩:=H
    replace H:=it H;obtain⟨wR,H⟩:=H;replace H:=ba H;obtain⟨aLl,A9,H⟩:=H
    replace H:=iv H;rcases H with ⟨BV,H⟩|⟨BV,H⟩
    ·obtain rfl:=si H
     try go_wp2
     replace HB:=am (bH HB.out)
     obtain⟨XM,WR,XY,a0a,AX,AY,O6,O4⟩:=SG lX.out bI dt dt;have QB:=AY;have QA:=AX;cases a0a;replace AX:=kp HB.out AX;replace AY:=kp HB.out AY;have NU:=am O4;have aBm:=am O6;clear O4 O6;have bKc:=e0 bI;have bKX:=e1 bI (l0.length:Int)
     have p8:0≤(iO:Int):=dt
     have q8:iO<(a1.size:Int):=dt
     have hx8:=kL a1 iO;replace p8:=eq_true p8;replace q8:=eq_true q8
     refine st (n:=9) (S:=fun w' =>w'.cell? (XM.add ((bI).toNat*2))=some (.bool ((aG l0 bI).f0))∧w'.cell? ⟨(XM.add ((bI).toNat*2)).block,(XM.add ((bI).toNat*2)).off+1,none⟩=some (.slice WR ((aG l0 bI).f1).length XY)) (ds:=[]) ⟨(kp HB.out QA),(kp HB.out QB)⟩ (fun hHeld=>?_);refine dW gB.aVu gB.aHQ (fun kQ rT=>?_)
     generalize wr.drew=w11 at HB NU AX AY hHeld⊢;refine pu 0 12 ?_;refine pu 1 13 ?_;refine pu 2 14 ?_;refine pu 4 16 ?_;refine pu 5 17 ?_;refine V9 3 15 hHeld ?_;refine V9 6 18 hHeld ?_;refine qF 7 19 (fun K hK=>?_)
     refine EI Tryz.func78 #[.agg #[.bool ((aG l0 bI).f0), .slice WR ((aG l0 bI).f1).length XY], .int .u8 (bt a1 iO)] ?_
     with_reducible refine(gN.calls k1 ((aG l0 bI).f0) _ _ ((aG l0 bI).f1) (bt a1 iO) aLl _ ?dS ?iE A9.out).mono ?_
     (case dS=>exact cq (Kd.dV NU.out HB.out));(case iE=>exact aBm.out)
     rintro e w12 ⟨rfl,hb⟩;refine⟨_,rfl,?_⟩;replace HB:=o8 hb;clear hb;refine hK.out _ _ ⟨(kp HB.out QA),(kp HB.out QB)⟩ (fun hHeld=>?_);clear hK K;refine nm 19 ?_;refine pu 8 5 ?_
     refine kD (fQ kQ.out (by kernel_rfl)) ?_
     try go_wp2
     go_ret
     exact⟨nD,gP⟩
    have H' :=am H
    clear H
    try go_wp2
    replace HB:=am (bH HB.out)
    obtain⟨XM,WR,XY,a0a,AX,AY,O6,O4⟩:=SG lX.out bI dt dt;have QB:=AY;have QA:=AX;cases a0a;replace AX:=kp HB.out AX;replace AY:=kp HB.out AY;have NU:=am O4;have aBm:=am O6;clear O4 O6;have bKc:=e0 bI;have bKX:=e1 bI (l0.length:Int)
    have p8:0≤(iO:Int):=dt
    have q8:iO<(a1.size:Int):=dt
    have hx8:=kL a1 iO;replace p8:=eq_true p8;replace q8:=eq_true q8
    refine st (n:=9) (S:=fun w' =>w'.cell? (XM.add ((bI).toNat*2))=some (.bool ((aG l0 bI).f0))∧w'.cell? ⟨(XM.add ((bI).toNat*2)).block,(XM.add ((bI).toNat*2)).off+1,none⟩=some (.slice WR ((aG l0 bI).f1).length XY)) (ds:=[]) ⟨(kp HB.out QA),(kp HB.out QB)⟩ (fun hHeld=>?_);refine dW gB.aVu gB.aHQ (fun kQ rT=>?_)
    generalize wr.drew=w13 at HB NU AX AY hHeld⊢;refine pu 0 12 ?_;refine pu 1 13 ?_;refine pu 2 14 ?_;refine pu 4 16 ?_;refine pu 5 17 ?_;refine V9 3 15 hHeld ?_;refine V9 6 18 hHeld ?_;refine qF 7 19 (fun K hK=>?_)
    refine EI Tryz.func78 #[.agg #[.bool ((aG l0 bI).f0), .slice WR ((aG l0 bI).f1).length XY], .int .u8 (bt a1 iO)] ?_
    with_reducible refine(gN.calls k1 ((aG l0 bI).f0) _ _ ((aG l0 bI).f1) (bt a1 iO) aLl _ ?dS ?iE A9.out).mono ?_
    (case dS=>exact cq (Kd.dV NU.out HB.out));(case iE=>exact aBm.out)
    rintro e w14 ⟨rfl,hb⟩;refine⟨_,rfl,?_⟩;replace HB:=o8 hb;clear hb;refine hK.out _ _ ⟨(kp HB.out QA),(kp HB.out QB)⟩ (fun hHeld=>?_);clear hK K;refine nm 19 ?_;refine pu 8 5 ?_
    refine kD (fQ kQ.out (by kernel_rfl)) ?_
    try go_wp2
    go_roundg k1
    case measure=>have:=lM.out;omega
    case rel=>exact⟨(aLl),(wrap64 (iO+1)),sq,sq,H',⟨rO⟩,⟨gP⟩⟩
   obtain rfl:=si H;go_wp2;go_ret
   exact⟨nD,gP⟩
def jU.f (k:Nat) (l0:List (xH)) (a1:ByteArray):Option (Bool):=(aJ.f k l0).bind fun bCf=>(if bCf=true then((gB.f k l0 a1).bind fun aAn=>(if aAn≥0 then(if 0≤aAn then(if aAn<(l0.length:Int)then(some ((aG l0 aAn).f0))else(none))else(none))else(some false)))else(some false))
theorem jU.calls (k:Nat) (A0:Option Addr) (c0:Nat) (l0:List (xH)) (a1:ByteArray) (r:Bool) (w:World) (hr0:Kd.C VB w A0 l0.length l0) (hc0:l0.length≤c0) (h:jU.f k l0 a1=some r):
  Calls Tryz.prog 13 #[.slice A0 l0.length c0, .string a1] w fun e w' =>e= .returned (.bool r)∧Below w.heap.size w w' :=by
 have lX:=am hr0;have vX:=am hc0;clear hr0 hc0;have HB:=am (Below.refl w.heap.size w)
 have H:=h;unfold jU.f at H
 clear h;replace H:=ba H;obtain⟨bCf,A3,H⟩:=H
 replace H:=ib H;rcases H with ⟨rfl,H⟩|⟨rfl,H⟩
 ·replace H:=ba H;obtain⟨aAn,A5,H⟩:=H
  replace H:=iv H;rcases H with ⟨sW,H⟩|⟨sW,H⟩
  ·replace H:=it H;obtain⟨wR,H⟩:=H
   replace H:=it H;obtain⟨tK,H⟩:=H;obtain rfl:=si H;go_enter Tryz.func13,Tryz.ntmps13
   go_wp2_with (first|(refine gd 7 ?_;refine gv Tryz.func42 (aJ.calls k _ _ l0 true _ ?dS vX.out A3.out) ?_;(case dS=>repeat(exact lX.out));intro w9 hb;replace HB:=o8 hb;clear hb)|(refine gd 11 ?_;refine gv Tryz.func44 (gB.calls k _ _ l0 a1 aAn _ (cq (Kd.dV lX.out HB.out)) vX.out A5.out) ?_;intro w10 hb;replace HB:=o8 hb;clear hb;obtain⟨bNp,bE0,bGe,bHo,aJA,aJB,aIU,aIz⟩:=SG lX.out aAn dt dt;cases bHo;replace aJA:=kp HB.out aJA;replace aJB:=kp HB.out aJB;have bDg:=am aIz;have bC0:=am aIU;clear aIz aIU;have bSh:=e0 aAn;have bSI:=e1 aAn (l0.length:Int)))
   go_ret
   exact⟨nD,gP⟩
  obtain rfl:=si H;go_enter Tryz.func13,Tryz.ntmps13
  go_wp2_with (first|(refine gd 7 ?_;refine gv Tryz.func42 (aJ.calls k _ _ l0 true _ ?dS vX.out A3.out) ?_;(case dS=>repeat(exact lX.out));intro w11 hb;replace HB:=o8 hb;clear hb)|(refine gd 11 ?_;refine gv Tryz.func44 (gB.calls k _ _ l0 a1 aAn _ (cq (Kd.dV lX.out HB.out)) vX.out A5.out) ?_;intro w12 hb;replace HB:=o8 hb;clear hb))
  go_ret
  exact⟨nD,gP⟩
 obtain rfl:=si H;go_enter Tryz.func13,Tryz.ntmps13
 go_wp2_with (refine gd 7 ?_;refine gv Tryz.func42 (aJ.calls k _ _ l0 false _ ?dS vX.out A3.out) ?_;(case dS=>repeat(exact lX.out));intro w13 hb;replace HB:=o8 hb;clear hb)
 go_ret
 exact⟨nD,gP⟩
def aT.put (k:Nat) (s:ByteArray) (xs:List ByteArray) (x:ByteArray):Option (List ByteArray):=
 if xs.length<100000 then(if x.toList=s.toList then some xs else(eD.f k x).bind fun b=>some (if b=true then xs++[x] else xs))else none
def aT.go (k:Nat) (s:ByteArray):List ByteArray→List ByteArray→Option (List ByteArray)
 |[],xs=>some xs
 |x::l,xs=>(aT.put k s xs x).bind fun ys=>aT.go k s l ys
def aT.f (k:Nat) (a0:ByteArray):Option (List ByteArray):=(eD.f k a0).bind fun b=>if b=true then(if a0.size≤1000 then((aT.go k a0 (M.fK a0 0) []).bind fun xs=>dC.f xs)else none)else some []
theorem aT.big {n:Nat} (h:n≤5000):(9223372036854775807<n)=False:=eq_false (by omega)
theorem aT.bCw {i n:Nat} (h:i≤n) (hn:n≤1000):wrap64 ((i:Int)+1)=((i+1:Nat):Int):=M.w64 (by omega) (by omega)
structure aT.St (w W:World) (B1 B3:Nat) (s:ByteArray) (xs:List ByteArray):Prop where
 ge1:w.heap.size≤B1
 ge3:w.heap.size≤B3
 ne:B1≠B3
 b1:W.heap[B1]?=some (.cells #[.string s] 9 (0,0))
 row: ∃v,W.heap[B3]?=some (.cells #[v] 36 (0,0))∧Kd.R Kd.string 9 W w.heap.size (fun k=>k≠B1∧k≠B3) v xs
 below:Below w.heap.size w W
theorem aT.St.drewN {w W:World} {B1 B3:Nat} {s:ByteArray} {xs:List ByteArray} (h:aT.St w W B1 B3 s xs) (m:Nat):aT.St w (W.drewN m) B1 B3 s xs:=
 ⟨h.ge1,h.ge3,h.ne,h.b1,by obtain⟨v,hb,hr⟩:=h.row;exact⟨v,hb,Kd.zN hr m⟩,cB h.below m⟩
theorem aT.St.drew {w W:World} {B1 B3:Nat} {s:ByteArray} {xs:List ByteArray} (h:aT.St w W B1 B3 s xs):aT.St w W.drew B1 B3 s xs:=
 ⟨h.ge1,h.ge3,h.ne,h.b1,by obtain⟨v,hb,hr⟩:=h.row;exact⟨v,hb,Kd.mZ hr⟩,bH h.below⟩
theorem aT.St.alloc {w W:World} {B1 B3:Nat} {s:ByteArray} {xs:List ByteArray} (h:aT.St w W B1 B3 s xs) (o:Obj):aT.St w (W.alloc o) B1 B3 s xs:=
 ⟨h.ge1,h.ge3,h.ne,bW h.b1 o,by obtain⟨v,hb,hr⟩:=h.row;exact⟨v,bW hb o,Kd.F3 hr o⟩,eZ h.below o⟩
def aT.T12:Bool×List (List Nat×List Nat):=(true,[([],[]),([],[]),([],[]),([1,2],[1,2]),([],[]),([3,4],[3,4]),([],[]),([],[]),([6,7],[6,7]),([5,8],[5,8]),([0,9],[0,9])])
def aT.B12:List Nat:=[0,0,0,6,0,30,0,0,192,510,1023]
theorem aT.aJU:nX .any (opsOf Tryz.f43 12)=aT.T12:=by kernel_rfl
theorem aT.aBG:jA aT.T12.2 aT.B12=true:=by kernel_rfl
def aT.T14:Bool×List (List Nat×List Nat):=(true,[([],[]),([],[]),([],[]),([1,2],[1,2]),([],[]),([3,4],[3,4]),([],[]),([],[]),([7],[7]),([6,8],[6,8]),([5,9],[5,9]),([0,10],[0,10])])
def aT.B14:List Nat:=[0,0,0,6,0,30,0,0,128,448,1022,2047]
theorem aT.aRj:nX .any (opsOf Tryz.f43 14)=aT.T14:=by kernel_rfl
theorem aT.aFC:jA aT.T14.2 aT.B14=true:=by kernel_rfl
def aT.T16:Bool×List (List Nat×List Nat):=(true,[([],[]),([],[]),([],[]),([1,2],[1,2]),([],[]),([],[]),([5],[5]),([4,6],[4,6]),([3,7],[3,7]),([0,8],[0,8])])
def aT.B16:List Nat:=[0,0,0,6,0,0,32,112,254,511]
theorem aT.ZC:nX .any (opsOf Tryz.f43 16)=aT.T16:=by kernel_rfl
theorem aT.MV:jA aT.T16.2 aT.B16=true:=by kernel_rfl
def aT.T18:Bool×List (List Nat×List Nat):=(true,[([],[]),([],[]),([],[]),([1,2],[1,2]),([],[]),([],[]),([5],[5]),([],[]),([7],[7]),([4,6,8],[4,6,8]),([3,9],[3,9]),([],[]),([],[]),([],[]),([13],[13]),([11,12,14],[11,12,14]),([10,15],[10,15]),([],[]),([],[]),([18],[18]),([17,19],[17,19]),([16,20],[16,20]),([0,21],[0,21])])
def aT.B18:List Nat:=[0,0,0,6,0,0,32,0,128,496,1022,0,0,0,8192,30720,65534,0,0,262144,917504,2097150,4194303]
theorem aT.bCm:nX .any (opsOf Tryz.f43 18)=aT.T18:=by kernel_rfl
theorem aT.aZv:jA aT.T18.2 aT.B18=true:=by kernel_rfl
set_option maxHeartbeats 1000000 in
set_option maxRecDepth 100000 in
theorem aT.aK6 (k:Nat) (s x:ByteArray) (xs ys:List ByteArray) (w W:World) (B1 B3:Nat) (hS:aT.St w W B1 B3 s xs) (h:aT.put k s xs x=some ys):
  Calls Tryz.prog 77 #[.string x, .pointer (some ⟨B1,0,none⟩), .pointer (some ⟨B3,0,none⟩)] W fun e w' =>e= .returned (.tuple #[])∧aT.St w w' B1 B3 s ys:=by
 unfold aT.put at h
 split at h
 case isFalse=>cases h
 rename_i hlen
 have hcell:W.cell? ⟨B1,0,none⟩=some (.string s):=(dY hS.b1 0).trans rfl
 have HS:=am hS;clear hS
 by_cases c:x.toList=s.toList
 ·rw [if_pos c] at h;obtain rfl:=Option.some.inj h
  have cb:(x.toList==s.toList)=true:=by simpa using c
  clear h;go_enter Tryz.func77,Tryz.ntmps77;go_wp2
  refine bodyPost_end (results_none rfl _ _ _) rfl ?_
  exact⟨rfl,HS.out⟩
 ·rw [if_neg c] at h;obtain⟨b,hb,h⟩:=Option.bind_eq_some_iff.1 h;have h:=Option.some.inj h
  have cb:(x.toList==s.toList)=false:=by simpa using c
  cases b with
  |false=>
   simp only [Bool.false_eq_true,if_false] at h
   subst h;go_enter Tryz.func77,Tryz.ntmps77
   go_wp2_with (go_at_call 21;refine(eD.calls k x false _ hb).mono ?_;rintro e w' ⟨rfl,⟨nd,rfl⟩⟩)
   refine bodyPost_end (results_none rfl _ _ _) rfl ?_
   exact⟨rfl,HS.out.drewN nd⟩
  |true=>
   simp only [if_true] at h
   subst h;obtain⟨v,hb3,hr⟩:=HS.out.row;obtain⟨A3,c3,rfl⟩:=Kd.bS hr
   have hfresh: ∀k,W.heap.size≤k→k≠B1∧k≠B3:=fun k hk=>⟨by have:=jW HS.out.b1;omega,by have:=jW hb3;omega⟩
   have hapart: ∀k,(Value.slice A3 xs.length c3).ownBlock=some k→k≠B1∧k≠B3:=fun k hk=>hr.1 k hk
   have HR:=am hr;have HB3:=am hb3;clear hr hb3;go_enter Tryz.func77,Tryz.ntmps77
   go_wp2_with (first
    |(go_at_call 21;refine(eD.calls k x true _ hb).mono ?_;rintro e w' ⟨rfl,⟨nd,rfl⟩⟩;have aGa:(W.drewN nd).cell? ⟨B3,0,none⟩=some (.slice A3 xs.length c3):=(dY (dD HB3.out nd) 0).trans rfl)
    |((with_reducible refine gL (b:= .append) (xs:= #[.tmp 11, .tmp 13]) rfl ?_);at_builtin;go_loud (refine Kd.oI Kd.string (w0:=w) w.heap.size rfl (.tmp 11) (.tmp 13) 36 9 (.string ⟨#[]⟩) 16 rfl Tryz.underlying36 zI rfl (by decide) (by decide) (.slice A3 xs.length c3) xs x [.string x] (fun k=>k≠B1∧k≠B3) (fun _=>False) rfl rfl rfl (fun _ h=>h.elim) hfresh (Kd.zN HR.out nd) (cB HS.out.below nd) (aH (cB HS.out.below nd)) (by omega) ?_;intro v1 w1 ho hbw hg hat;obtain⟨A4,c4,rfl⟩:=Kd.bS ho;have aSO:=gK (dD HB3.out nd) hg (fun e=>(hapart B3 e.symm).2 rfl);have hb1' :=gK (dD HS.out.b1 nd) hg (fun e=>(hapart B1 e.symm).1 rfl);have bIn:w1.cell? ⟨B3,0,none⟩=some (.slice A3 xs.length c3):=(dY aSO 0).trans rfl;have bRy:=bf aSO 0;have HO:=am ho;have HL:=am (show(xs++[x]).length=xs.length+1 from by simp);have HBW:=am hbw;have bFo:=am aSO;have bFn:=am hb1';clear ho hbw hg hat aSO hb1')))
   refine bodyPost_end (results_none rfl _ _ _) rfl ?_
   refine⟨rfl,HS.out.ge1,HS.out.ge3,HS.out.ne,iV bFn.out HS.out.ne _,⟨_,bM bFo.out 0 _ rfl,Kd.I7 (HL.out▸HO.out) (fun k hk _=>Below.heap_setCell _ _ _ k (fun e=>hk.2 e))⟩,bO HBW.out HS.out.ge3⟩
set_option maxHeartbeats 4000000 in
set_option maxRecDepth 100000 in
theorem aT.calls (k:Nat) (a0:ByteArray) (r:List ByteArray) (w:World) (h:aT.f k a0=some r):
  Calls Tryz.prog 43 #[.string a0] w fun e w' => ∃sQ:Value,e= .returned (sQ)∧Kd.R Kd.string 9 w' w.heap.size (fun _=>True) sQ r∧Below w.heap.size w w' :=by
 unfold aT.f at h
 obtain⟨b,hb,h⟩:=Option.bind_eq_some_iff.1 h;have HW:=am hb;clear hb
 cases b with
 |false=>
  simp only [Bool.false_eq_true,if_false] at h
  obtain rfl:=Option.some.inj h;clear h;go_enter Tryz.func43,Tryz.ntmps43
  go_wp2_with (first
   |(go_at_call 21;refine(eD.calls k a0 false _ HW.out).mono ?_;rintro e w' ⟨rfl,⟨nd,rfl⟩⟩)
   |(refine gd 11 ?_;refine Kd.mJ Kd.string w.heap.size 9 ?hg (N:=11) ?hd (xs:=([]:List ByteArray)) (inner:=[]) (ok:=fun _=>True) (mK:=fun _=>True) ?hr ?hp (fun _ hk=>hk) trivial (cB (eZ (Below.refl _ w) _) nd) (aH (cB (eZ (Below.refl _ w) _) nd)) (by simp) ?_;(case hd=>rfl);(case hg=>rfl);(case hr=>(go_simp;done));(case hp=>exact(dQ.none _ _));intro v11 w1 ho hbw lL dP;have HO:=am ho;have HB:=am hbw;clear ho hbw lL dP))
  go_ret
  exact⟨v11,rfl,HO.out,HB.out⟩
 |true=>
  simp only [if_true] at h
  split at h
  case isFalse=>cases h
  rename_i hsz;obtain⟨r0,hgo,h⟩:=Option.bind_eq_some_iff.1 h;have HG:=am hgo;have HF:=am h;clear hgo h;go_enter Tryz.func43,Tryz.ntmps43
  go_wp2_with (first
   |(refine gd 1 ?_;refine bx 1 (cs:= #[.string a0]) (t:=9) ?_;intro B1 hg1 w1 bT hbw;have GE1:w.heap.size≤B1:=Nat.le_of_eq hg1.symm;have BK1:=am bT;have HB1:=am hbw;have hcell1:w1.cell? ⟨B1,0,none⟩=some (.string a0):=(dY bT 0).trans rfl;clear bT hbw hg1)
   |(go_at_call 21;refine(eD.calls k a0 true _ HW.out).mono ?_;rintro e w' ⟨rfl,⟨nd,rfl⟩⟩)
   |(refine gd 12 ?_;refine Kd.mJ Kd.string w.heap.size 9 ?hg (N:=12) ?hd (xs:=([]:List ByteArray)) (inner:=[]) (ok:=fun k=>k≠B1) (mK:=fun k=>k≠B1) ?hr ?hp (fun _ hk=>hk) (Nat.ne_of_gt (jW (dD BK1.out nd))) (cB HB1.out nd) (aH (cB HB1.out nd)) (by simp) ?_;(case hd=>rfl);(case hg=>rfl);(case hr=>(go_simp;done));(case hp=>exact(dQ.none _ _));intro v12 w2 ho hbw lL dP;have HO:=am ho;have HB2:=am hbw;have BK2:=am (gK (dD BK1.out nd) lL (by simp));clear ho hbw lL dP hcell1)
   |(refine gd 3 ?_;refine bx 3 (cs:= #[.slice none 0 0]) (t:=36) ?_;intro B3 hg3 w3 aIf aSP;have GE3:w.heap.size≤B3:=(by rw [hg3];exact aH HB2.out);have a5O:B1≠B3:=(by rw [hg3];exact Nat.ne_of_lt (jW BK2.out));have HO3:=am (Kd.nP (Kd.bA (Kd.tF HO.out) (fun k hk=>(⟨hk.1,by rw [hg3];exact Nat.ne_of_lt hk.2.2.1⟩:k≠B1∧k≠B3))) aSP);have a3E:=am (jD BK2.out aSP);have BK3:=am aIf;have HB3:=am (aY HB2.out aSP);have HG3:=am hg3;obtain⟨A12,c12,rfl⟩:=Kd.bS HO.out;have aGa:w3.cell? ⟨B3,0,none⟩=some (.slice none 0 0):=(dY aIf 0).trans rfl;have bIE:=bf aIf 0;clear aIf aSP hg3))
  have S0:aT.St w (w3.setCell ⟨B3,0,none⟩ (.slice A12 0 c12)) B1 B3 a0 []:=⟨GE1,GE3,a5O,iV a3E.out a5O _,⟨_,bM BK3.out 0 _ rfl,Kd.I7 HO3.out (fun k hk _=>Below.heap_setCell _ _ _ k (fun e=>hk.2 e))⟩,bO HB3.out GE3⟩
  have HS0:=am S0;clear S0 aGa bIE BK1 HB1 BK2 HB2 a3E BK3 HB3 HG3 HO HO3;generalize w3.setCell ⟨B3,0,none⟩ (.slice A12 0 c12)=W0 at HS0⊢
  go_loopg [5] (a0.size+1) (fun kq v5 W=> ∃(i:Nat) (xs:List ByteArray),v5= .int .i64 (i:Int)∧aC (i≤a0.size+1)∧aC (a0.size+1-i≤kq)∧aC (aT.St w W B1 B3 a0 xs)∧aC (aT.go k a0 (M.fK a0 i) xs=some r0))
  case atStart=>exact⟨0,[],rfl,⟨by omega⟩,⟨by omega⟩,HS0,HG⟩
  case round=>
   obtain⟨i,xs,rfl,HI,HK,HS,HC⟩:=hrel;clear HS0 HG
   have hcell1:wr.cell? ⟨B1,0,none⟩=some (.string a0):=(dY HS.out.b1 0).trans rfl
   by_cases c:(i:Int)≤(a0.size:Int)
   ·have cb:decide ((i:Int)≤(a0.size:Int))=true:=decide_eq_true c
    have cb2:(i≤a0.size)=True:=eq_true (by omega)
    have cb3:decide (i≤a0.size)=true:=decide_eq_true (by omega)
    have HLE:=am (show i≤a0.size by omega)
    cases gk with
    |zero=>exact absurd HK.out (by omega)
    |succ k0=>
    have HC2:=am (show aT.go k a0 (M.mF a0 i 97++(M.yO a0 i++(M.uL a0 i++M.fK a0 (i+1)))) xs=some r0 by
     have e:=HC.out
     rw [M.CB a0 i (by omega)] at e
     unfold M.uU at e
     rw [List.append_assoc,List.append_assoc] at e
     exact e)
    clear c;go_wp2
    go_loopg [6] 26 (fun kq v6 W=> ∃(c:Nat) (ys:List ByteArray),v6= .int .u8 (c:Int)∧aC (97≤c∧c≤123)∧aC (123-c≤kq)∧aC (aT.St w W B1 B3 a0 ys)∧aC (aT.go k a0 (M.mF a0 i c++(M.yO a0 i++(M.uL a0 i++M.fK a0 (i+1)))) ys=some r0))
    case atStart=>exact⟨97,xs,rfl,⟨by omega⟩,⟨by omega⟩,HS,HC2⟩
    case round=>
     obtain⟨c,ys,rfl,HCC,HKC,HSC,aYW⟩:=hrel
     have hcell2:wr.cell? ⟨B1,0,none⟩=some (.string a0):=(dY HSC.out.b1 0).trans rfl
     by_cases d:(c:Int)≤122
     ·have db:decide ((c:Int)≤122)=true:=decide_eq_true d
      have db2:(c≤122)=True:=eq_true (by omega)
      have db3:decide (c≤122)=true:=decide_eq_true (by omega)
      have HD:=am d;clear d
      cases gk with
      |zero=>exact absurd HKC.out (by have:=HD.out;omega)
      |succ k1=>
      have a9Z:=CS (P:=Tryz.prog) (src:=22) (dst:=9) (e:=5) Tryz.underlying22 Tryz.underlying5 Tryz.underlying9 (w:=wr.alloc (.cells #[.int .u8 (c:Int)] 5)) (base:=0) (e' :=5) (n:=1) (v:= .slice (some ⟨wr.heap.size,0,none⟩) 1 1) (xs:=[(c:Int)]) (by have h2:=World.ownsRow_lit (base:=0) (e:=5) (size:=1) wr #[.int .u8 (c:Int)] 1 (Nat.zero_le _) (by decide) (by simp);simpa [aUC] using h2)
      go_wp2;clear a9Z hcell2 hcell1;have HSA:=am ((HSC.out.alloc (.cells #[.int .u8 (c:Int)] 5)).drew);have hle:=HLE.out
      have hL:(strOfNums [(c:Int)]).size=1:=rfl
      have hm:(c:Int)%256=(c:Int):=by have:=HCC.out;omega
      have z1:(a0.extract 0 i).size=i:=by rw [M.size_extract _ _ _ (by omega) HLE.out];omega
      have z2:(a0.extract i a0.size).size=a0.size-i:=M.size_extract _ _ _ HLE.out (Nat.le_refl _)
      have hu:IntKind.u8.wrap ((c:Int)+1)=((c+1:Nat):Int):=by have:=HD.out;have:=HCC.out;show((c:Int)+1)%256=_;omega
      have w1:(9223372036854775807<(a0.extract 0 i).size+(strOfNums [(c:Int)]).size)=False:=aT.big (by omega)
      have w3:(9223372036854775807<((a0.extract 0 i)++(strOfNums [(c:Int)])).size+(a0.extract i a0.size).size)=False:=aT.big (by rw [M.size_append];omega)
      have w5:(9223372036854775807<i+1)=False:=aT.big (by omega)
      have w6:(9223372036854775807<i+1+(a0.size-i))=False:=aT.big (by omega)
      by_cases e1:i<a0.size
      ·obtain⟨ys1,hp1,hg1⟩: ∃ys1,aT.put k a0 ys ((a0.extract 0 i++strOfNums [(c:Int)])++a0.extract i a0.size)=some ys1∧aT.go k a0 (M.aAl a0 i c::(M.mF a0 i (c+1)++(M.yO a0 i++(M.uL a0 i++M.fK a0 (i+1))))) ys1=some r0:=by
        have e:=aYW.out
        rw [M.CL a0 i c (by have:=HD.out;omega),M.D9,if_pos e1] at e
        obtain⟨y,h1,h2⟩:=Option.bind_eq_some_iff.1 e
        refine⟨y,?_,h2⟩
        unfold M.YJ at h1
        rw [hm] at h1
        exact h1
       obtain⟨ys2,hp2,hg2⟩: ∃ys2,aT.put k a0 ys1 ((a0.extract 0 i++strOfNums [(c:Int)])++a0.extract (i+1) a0.size)=some ys2∧aT.go k a0 (M.mF a0 i (c+1)++(M.yO a0 i++(M.uL a0 i++M.fK a0 (i+1)))) ys2=some r0:=by
        obtain⟨y,h1,h2⟩:=Option.bind_eq_some_iff.1 hg1
        refine⟨y,?_,h2⟩
        unfold M.aAl at h1
        rw [hm] at h1
        exact h1
       have HP1:=am hp1;have HP2:=am hp2;have HG2:=am hg2;clear hp1 hg1 hp2 hg2
       have e1b:(i<a0.size)=True:=eq_true e1
       have e1c:decide (i<a0.size)=true:=decide_eq_true e1
       have e1d:(i+1≤a0.size)=True:=eq_true e1
       have b1:((i:Int)+1≤(a0.size:Int))=True:=eq_true (Int.ofNat_le.2 e1)
       have b0:(0≤(i:Int)+1)=True:=eq_true (Int.natCast_nonneg (i+1))
       have z3:(a0.extract (i+1) a0.size).size=a0.size-(i+1):=M.size_extract _ _ _ e1 (Nat.le_refl _)
       have w7:(9223372036854775807<i+1+(a0.size-(i+1)))=False:=aT.big (by rw [Nat.add_sub_of_le e1];exact Nat.le_trans hsz (by decide))
       have hw:wrap64 ((i:Int)+1)=((i+1:Nat):Int):=aT.bCw hle hsz
       have w14:(9223372036854775807<a0.size)=False:=aT.big (by omega)
       refine st (n:=11) (S:=fun w' =>w'.cell? ⟨B1,0,none⟩=some (.string a0)) (ds:=[]) ((dY HSA.out.b1 0).trans rfl) (fun hHeld=>?_);refine dW aT.aJU aT.aBG (fun kQ rT=>?_)
       refine pu 0 27 ?_;refine tk1 1 28 hHeld ?_;refine pu 2 29 ?_;refine pu 3 30 ?_;refine pu 4 31 ?_;refine pu 5 32 ?_;refine tk1 6 33 hHeld ?_;refine pu 7 34 ?_;refine pu 8 35 ?_;refine pu 9 36 ?_;refine qF 10 37 (fun K hK=>?_)
       refine JG 77 #[.string ((a0.extract 0 i++strOfNums [(c:Int)])++a0.extract i a0.size), .pointer (some ⟨B1,0,none⟩), .pointer (some ⟨B3,0,none⟩)] (by rfl) rfl aAL ?_
       refine(aT.aK6 k a0 _ _ _ w _ B1 B3 HSA.out HP1.out).mono ?_
       rintro e wn ⟨rfl,hSn⟩
       refine⟨_,rfl,?_⟩;have HSN:=am hSn;clear hSn;refine hK.out _ _ ((dY HSN.out.b1 0).trans rfl) (fun hHeld=>?_);clear hK K;refine nm 37 ?_
       refine kD (fQ kQ.out (by kernel_rfl)) ?_
       clear kQ rT;go_wp2;clear hHeld;have HSB:=am HSN.out.drew
       refine st (n:=12) (S:=fun w' =>w'.cell? ⟨B1,0,none⟩=some (.string a0)) (ds:=[]) ((dY HSB.out.b1 0).trans rfl) (fun hHeld=>?_);refine dW aT.aRj aT.aFC (fun kQ rT=>?_)
       refine pu 0 42 ?_;refine tk1 1 43 hHeld ?_;refine pu 2 44 ?_;refine pu 3 45 ?_;refine pu 4 46 ?_;refine pu 5 47 ?_;refine tk1 6 48 hHeld ?_;refine pu 7 49 ?_;refine pu 8 50 ?_;refine pu 9 51 ?_;refine pu 10 52 ?_;refine qF 11 53 (fun K hK=>?_)
       refine JG 77 #[.string ((a0.extract 0 i++strOfNums [(c:Int)])++a0.extract (i+1) a0.size), .pointer (some ⟨B1,0,none⟩), .pointer (some ⟨B3,0,none⟩)] (by rfl) rfl aAL ?_
       refine(aT.aK6 k a0 _ _ _ w _ B1 B3 HSB.out HP2.out).mono ?_
       rintro e wn ⟨rfl,hSn⟩
       refine⟨_,rfl,?_⟩;have HSM:=am hSn;clear hSn;refine hK.out _ _ ((dY HSM.out.b1 0).trans rfl) (fun hHeld=>?_);clear hK K;refine nm 53 ?_
       refine kD (fQ kQ.out (by kernel_rfl)) ?_
       clear kQ rT;go_wp2
       go_roundg k1
       case measure=>have:=HKC.out;have:=HD.out;omega
       case rel=>exact⟨c+1,ys2,(by rfl),⟨by have:=HD.out;have:=HCC.out;omega⟩,⟨by have:=HKC.out;omega⟩,HSM,HG2⟩
      ·obtain⟨ys1,hp1,hg1⟩: ∃ys1,aT.put k a0 ys ((a0.extract 0 i++strOfNums [(c:Int)])++a0.extract i a0.size)=some ys1∧aT.go k a0 (M.mF a0 i (c+1)++(M.yO a0 i++(M.uL a0 i++M.fK a0 (i+1)))) ys1=some r0:=by
        have e:=aYW.out
        rw [M.CL a0 i c (by have:=HD.out;omega),M.D9,if_neg e1] at e
        obtain⟨y,h1,h2⟩:=Option.bind_eq_some_iff.1 e
        refine⟨y,?_,h2⟩
        unfold M.YJ at h1
        rw [hm] at h1
        exact h1
       have HP1:=am hp1;have HG2:=am hg1;clear hp1 hg1
       have e1b:(i<a0.size)=False:=eq_false e1
       have e1c:decide (i<a0.size)=false:=decide_eq_false e1
       have w14:(9223372036854775807<a0.size)=False:=aT.big (by omega)
       refine st (n:=11) (S:=fun w' =>w'.cell? ⟨B1,0,none⟩=some (.string a0)) (ds:=[]) ((dY HSA.out.b1 0).trans rfl) (fun hHeld=>?_);refine dW aT.aJU aT.aBG (fun kQ rT=>?_)
       refine pu 0 27 ?_;refine tk1 1 28 hHeld ?_;refine pu 2 29 ?_;refine pu 3 30 ?_;refine pu 4 31 ?_;refine pu 5 32 ?_;refine tk1 6 33 hHeld ?_;refine pu 7 34 ?_;refine pu 8 35 ?_;refine pu 9 36 ?_;refine qF 10 37 (fun K hK=>?_)
       refine JG 77 #[.string ((a0.extract 0 i++strOfNums [(c:Int)])++a0.extract i a0.size), .pointer (some ⟨B1,0,none⟩), .pointer (some ⟨B3,0,none⟩)] (by rfl) rfl aAL ?_
       refine(aT.aK6 k a0 _ _ _ w _ B1 B3 HSA.out HP1.out).mono ?_
       rintro e wn ⟨rfl,hSn⟩
       refine⟨_,rfl,?_⟩;have HSN:=am hSn;clear hSn;refine hK.out _ _ ((dY HSN.out.b1 0).trans rfl) (fun hHeld=>?_);clear hK K;refine nm 37 ?_
       refine kD (fQ kQ.out (by kernel_rfl)) ?_
       clear kQ rT;go_wp2
       go_roundg k1
       case measure=>have:=HKC.out;have:=HD.out;omega
       case rel=>exact⟨c+1,ys1,(by rfl),⟨by have:=HD.out;have:=HCC.out;omega⟩,⟨by have:=HKC.out;omega⟩,HSN,HG2⟩
     ·have db:decide ((c:Int)≤122)=false:=decide_eq_false d
      have db2:(c≤122)=False:=eq_false (by omega)
      have db3:decide (c≤122)=false:=decide_eq_false (by omega)
      have FZ:=am (show aT.go k a0 (M.yO a0 i++(M.uL a0 i++M.fK a0 (i+1))) ys=some r0 by
       have e:=aYW.out
       rw [M.MM a0 i c (by omega),List.nil_append] at e
       exact e)
      clear d;have hle:=HLE.out
      have hw:wrap64 ((i:Int)+1)=((i+1:Nat):Int):=aT.bCw hle hsz
      have hw2:wrap64 ((i:Int)+2)=((i+2:Nat):Int):=M.w64 (by omega) (by omega)
      have z1:(a0.extract 0 i).size=i:=by rw [M.size_extract _ _ _ (by omega) HLE.out];omega
      by_cases e1:i<a0.size
      ·have e1b:(i<a0.size)=True:=eq_true e1
       have e1c:decide (i<a0.size)=true:=decide_eq_true e1
       have e1d:(i+1≤a0.size)=True:=eq_true e1
       have b1:((i:Int)+1≤(a0.size:Int))=True:=eq_true (Int.ofNat_le.2 e1)
       have b0:(0≤(i:Int)+1)=True:=eq_true (Int.natCast_nonneg (i+1))
       have z3:(a0.extract (i+1) a0.size).size=a0.size-(i+1):=M.size_extract _ _ _ e1 (Nat.le_refl _)
       have w7:(9223372036854775807<i+(a0.size-(i+1)))=False:=aT.big (by omega)
       obtain⟨ys1,hp1,hg1⟩: ∃ys1,aT.put k a0 ys (a0.extract 0 i++a0.extract (i+1) a0.size)=some ys1∧aT.go k a0 (M.uL a0 i++M.fK a0 (i+1)) ys1=some r0:=by
        have e:=FZ.out;rw [M.yO,if_pos e1] at e
        exact Option.bind_eq_some_iff.1 e
       have HP1:=am hp1;have HG1:=am hg1;clear hp1 hg1
       have w14:(9223372036854775807<a0.size)=False:=aT.big (by omega)
       have w15:(9223372036854775807<i+(a0.size-(i+1)))=False:=aT.big (by omega)
       by_cases e2:i+1<a0.size
       ·have e2b:(i+1<a0.size)=True:=eq_true e2
        have e2c:decide (i+1<a0.size)=true:=decide_eq_true e2
        have e2d:(i+2≤a0.size)=True:=eq_true e2
        have b2:((i:Int)+2≤(a0.size:Int))=True:=eq_true (by omega)
        have b3:(0≤(i:Int)+2)=True:=eq_true (by omega)
        have b4:((i:Int)+1≤(i:Int)+2)=True:=eq_true (by omega)
        have b5:((i:Int)≤(i:Int)+1)=True:=eq_true (by omega)
        have b6:(i+1≤i+2)=True:=eq_true (by omega)
        have b7:(i≤i+1)=True:=eq_true (by omega)
        have z4:(a0.extract (i+1) (i+2)).size=1:=by rw [M.size_extract _ _ _ (by omega) (by omega)];omega
        have z5:(a0.extract i (i+1)).size=1:=by rw [M.size_extract _ _ _ (by omega) (by omega)];omega
        have z6:(a0.extract (i+2) a0.size).size=a0.size-(i+2):=M.size_extract _ _ _ (by omega) (Nat.le_refl _)
        have w8:(9223372036854775807<i+1)=False:=aT.big (by omega)
        have w9:(9223372036854775807<i+1+1)=False:=aT.big (by omega)
        have w10:(9223372036854775807<i+1+1+(a0.size-(i+2)))=False:=aT.big (by omega)
        have w11:(9223372036854775807<i+(i+2-(i+1)))=False:=aT.big (by omega)
        have w12:(9223372036854775807<i+2)=False:=aT.big (by omega)
        have w13:(9223372036854775807<i+2+(a0.size-(i+2)))=False:=aT.big (by omega)
        obtain⟨ys2,hp2,hg2⟩: ∃ys2,aT.put k a0 ys1 (((a0.extract 0 i++a0.extract (i+1) (i+2))++a0.extract i (i+1))++a0.extract (i+2) a0.size)=some ys2∧aT.go k a0 (M.fK a0 (i+1)) ys2=some r0:=by
         have e:=HG1.out;rw [M.uL,if_pos e2] at e
         exact Option.bind_eq_some_iff.1 e
        have HP2:=am hp2;have HG2:=am hg2;clear hp2 hg2
        have t2:((i:Int)+2).toNat=i+2:=by omega
        have t1:((i:Int)+1).toNat=i+1:=by omega
        go_wp2;have HSA:=am HSC.out.drew
        refine st (n:=10) (S:=fun w' =>w'.cell? ⟨B1,0,none⟩=some (.string a0)) (ds:=[]) ((dY HSA.out.b1 0).trans rfl) (fun hHeld=>?_);refine dW aT.ZC aT.MV (fun kQ rT=>?_)
        refine pu 0 58 ?_;refine tk1 1 59 hHeld ?_;refine pu 2 60 ?_;refine pu 3 61 ?_;refine tk1 4 62 hHeld ?_;refine pu 5 63 ?_;refine pu 6 64 ?_;refine pu 7 65 ?_;refine pu 8 66 ?_;refine qF 9 67 (fun K hK=>?_)
        refine JG 77 #[.string (a0.extract 0 i++a0.extract (i+1) a0.size), .pointer (some ⟨B1,0,none⟩), .pointer (some ⟨B3,0,none⟩)] (by rfl) rfl aAL ?_
        refine(aT.aK6 k a0 _ _ _ w _ B1 B3 HSA.out HP1.out).mono ?_
        rintro e wn ⟨rfl,hSn⟩
        refine⟨_,rfl,?_⟩;have HSN:=am hSn;clear hSn;refine hK.out _ _ ((dY HSN.out.b1 0).trans rfl) (fun hHeld=>?_);clear hK K;refine nm 67 ?_
        refine kD (fQ kQ.out (by kernel_rfl)) ?_
        clear kQ rT;go_wp2;clear hHeld;have HSB:=am HSN.out.drew
        refine st (n:=23) (S:=fun w' =>w'.cell? ⟨B1,0,none⟩=some (.string a0)) (ds:=[]) ((dY HSB.out.b1 0).trans rfl) (fun hHeld=>?_);refine dW aT.bCm aT.aZv (fun kQ rT=>?_)
        refine pu 0 73 ?_;refine tk1 1 74 hHeld ?_;refine pu 2 75 ?_;refine pu 3 76 ?_;refine tk1 4 77 hHeld ?_;refine pu 5 78 ?_;refine pu 6 79 ?_;refine pu 7 80 ?_;refine pu 8 81 ?_;refine pu 9 82 ?_;refine pu 10 83 ?_;refine tk1 11 84 hHeld ?_;refine pu 12 85 ?_;refine pu 13 86 ?_;refine pu 14 87 ?_;refine pu 15 88 ?_;refine pu 16 89 ?_;refine tk1 17 90 hHeld ?_;refine pu 18 91 ?_;refine pu 19 92 ?_;refine pu 20 93 ?_;refine pu 21 94 ?_;refine qF 22 95 (fun K hK=>?_)
        refine JG 77 #[.string (((a0.extract 0 i++a0.extract (i+1) (i+2))++a0.extract i (i+1))++a0.extract (i+2) a0.size), .pointer (some ⟨B1,0,none⟩), .pointer (some ⟨B3,0,none⟩)] (by rfl) rfl aAL ?_
        refine(aT.aK6 k a0 _ _ _ w _ B1 B3 HSB.out HP2.out).mono ?_
        rintro e wn ⟨rfl,hSn⟩
        refine⟨_,rfl,?_⟩;have HSM:=am hSn;clear hSn;refine hK.out _ _ ((dY HSM.out.b1 0).trans rfl) (fun hHeld=>?_);clear hK K;refine nm 95 ?_
        refine kD (fQ kQ.out (by kernel_rfl)) ?_
        clear kQ rT;go_wp2
        go_roundg k0
        case measure=>have:=HK.out;have:=HLE.out;omega
        case rel=>exact⟨i+1,ys2,(by rfl),⟨by have:=HLE.out;omega⟩,⟨by have:=HK.out;omega⟩,HSM,HG2⟩
       ·have e2b:(i+1<a0.size)=False:=eq_false e2
        have e2c:decide (i+1<a0.size)=false:=decide_eq_false e2
        have HG2:=am (show aT.go k a0 (M.fK a0 (i+1)) ys1=some r0 by
         have e:=HG1.out;rw [M.uL,if_neg e2] at e
         exact e)
        go_wp2;have HSA:=am HSC.out.drew
        refine st (n:=10) (S:=fun w' =>w'.cell? ⟨B1,0,none⟩=some (.string a0)) (ds:=[]) ((dY HSA.out.b1 0).trans rfl) (fun hHeld=>?_);refine dW aT.ZC aT.MV (fun kQ rT=>?_)
        refine pu 0 58 ?_;refine tk1 1 59 hHeld ?_;refine pu 2 60 ?_;refine pu 3 61 ?_;refine tk1 4 62 hHeld ?_;refine pu 5 63 ?_;refine pu 6 64 ?_;refine pu 7 65 ?_;refine pu 8 66 ?_;refine qF 9 67 (fun K hK=>?_)
        refine JG 77 #[.string (a0.extract 0 i++a0.extract (i+1) a0.size), .pointer (some ⟨B1,0,none⟩), .pointer (some ⟨B3,0,none⟩)] (by rfl) rfl aAL ?_
        refine(aT.aK6 k a0 _ _ _ w _ B1 B3 HSA.out HP1.out).mono ?_
        rintro e wn ⟨rfl,hSn⟩
        refine⟨_,rfl,?_⟩;have HSN:=am hSn;clear hSn;refine hK.out _ _ ((dY HSN.out.b1 0).trans rfl) (fun hHeld=>?_);clear hK K;refine nm 67 ?_
        refine kD (fQ kQ.out (by kernel_rfl)) ?_
        clear kQ rT;go_wp2
        go_roundg k0
        case measure=>have:=HK.out;have:=HLE.out;omega
        case rel=>exact⟨i+1,ys1,(by rfl),⟨by have:=HLE.out;omega⟩,⟨by have:=HK.out;omega⟩,HSN,HG2⟩
      ·have e1b:(i<a0.size)=False:=eq_false e1
       have e1c:decide (i<a0.size)=false:=decide_eq_false e1
       have e2b:(i+1<a0.size)=False:=eq_false (by omega)
       have e2c:decide (i+1<a0.size)=false:=decide_eq_false (by omega)
       have HG2:=am (show aT.go k a0 (M.fK a0 (i+1)) ys=some r0 by
        have e:=FZ.out
        rw [M.yO,if_neg e1,M.uL,if_neg (by omega)] at e
        exact e)
       go_wp2
       go_roundg k0
       case measure=>have:=HK.out;have:=HLE.out;omega
       case rel=>exact⟨i+1,ys,(by rfl),⟨by have:=HLE.out;omega⟩,⟨by have:=HK.out;omega⟩,HSC,HG2⟩
   ·have cb:decide ((i:Int)≤(a0.size:Int))=false:=decide_eq_false c
    have cb2:(i≤a0.size)=False:=eq_false (by omega)
    have cb3:decide (i≤a0.size)=false:=decide_eq_false (by omega)
    have HE:=am (show xs=r0 by
     have e:=HC.out
     rw [M.MF a0 i (by omega)] at e
     exact Option.some.inj e)
    obtain⟨v3,hb3,hr3⟩:=HS.out.row;obtain⟨A3,c3,rfl⟩:=Kd.bS hr3
    have aGa:wr.cell? ⟨B3,0,none⟩=some (.slice A3 xs.length c3):=(dY hb3 0).trans rfl
    have HR3:=am hr3;clear hb3 hr3 c
    go_wp2_with (go_at_call 62;refine(dC.calls A3 c3 xs r _ (Kd.aM HR3.out).2.2 (Kd.aM HR3.out).2.1 (by rw [HE.out];exact HF.out)).mono ?_;rintro e w' ⟨v0,rfl,hR,hB⟩;have HRR:=am hR;have HBB:=am hB;clear hR hB)
    go_ret
    exact⟨v0,rfl,Kd.dZ HRR.out (aH HS.out.below),aY HS.out.below HBB.out⟩
def fD.l0:Nat→List (xH)→List ByteArray→List ByteArray→Int→Int→Option (List ByteArray)
 |0,_,_,_,_,_=>none
 |k+1,x0,x5,x14,x15,x16=>if x16<x15 then(if 0≤x16 then(if x16<(x14.length:Int)then((jU.f k x0 (bP ByteArray.empty x14 x16)).bind fun bCh=>(if bCh=true then(if x5.length<8796093022208 then(fD.l0 k x0 (x5++[bP ByteArray.empty x14 x16]) x14 x15 (wrap64 (x16+1)))else(none))else(fD.l0 k x0 x5 x14 x15 (wrap64 (x16+1)))))else(none))else(none))else(some x5)
def fD.f (k:Nat) (l0:List (xH)) (a1:ByteArray):Option (List ByteArray):=(some (([]:List ByteArray):List ByteArray)).bind fun aVO=>((aJ.f k l0).bind fun bCg=>(if bCg=true then((aT.f k a1).bind fun NB=>(fD.l0 k l0 aVO NB (NB.length:Int) 0))else(some aVO)))
theorem fD.calls (k:Nat) (A0:Option Addr) (c0:Nat) (l0:List (xH)) (a1:ByteArray) (r:List ByteArray) (w:World) (hr0:Kd.C VB w A0 l0.length l0) (hc0:l0.length≤c0) (h:fD.f k l0 a1=some r):
  Calls Tryz.prog 11 #[.slice A0 l0.length c0, .string a1] w fun e w' => ∃sQ:Value,e= .returned (sQ)∧Kd.R Kd.string 9 w' w.heap.size (fun _=>True) sQ r∧Below w.heap.size w w' :=by
 have lX:=am hr0;have vX:=am hc0;clear hr0 hc0;have HB:=am (Below.refl w.heap.size w)
 have H:=h;unfold fD.f at H
 clear h;obtain⟨aVO,aPX⟩: ∃y_:List ByteArray,y_=(([]:List ByteArray)):=⟨_,rfl⟩
 replace H:=bm H;rw [←aPX] at H
 have aWp:=am aPX;clear aPX;replace H:=ba H;obtain⟨bCg,A3,H⟩:=H
 replace H:=ib H;rcases H with ⟨rfl,H⟩|⟨rfl,H⟩
 ·replace H:=ba H;obtain⟨NB,A5,H⟩:=H
  have H' :=am H
  clear H;go_enter Tryz.func11,Tryz.ntmps11
  go_wp2_with (first|(refine gd 8 ?_;refine Kd.mJ Kd.string _ 9 ?hg (N:=8) ?hd (xs:=([]:List ByteArray)) (inner:=[]) (ok:=fun _=>True) (mK:=fun _=>True) ?hr ?hp (fun _ hk=>hk) trivial (Below.refl _ _) (Nat.le_refl _) (by simp) ?_;(case hd=>rfl);(case hg=>rfl);(case hr=>(go_simp;done));(case hp=>exact(dQ.none _ _));intro bLu w6 U6 hb lL dP;clear lL dP;(rw [←aWp.out] at U6);have LZ:=am (Kd.dZ U6 (aH gP));replace HB:=o8 hb;clear hb U6)|(refine gd 10 ?_;refine gv Tryz.func42 (aJ.calls k _ _ l0 true _ (cq (Kd.dV lX.out HB.out)) vX.out A3.out) ?_;intro w8 hb;replace LZ:=kr LZ hb;replace HB:=o8 hb;clear hb)|(refine gd 14 ?_;refine gx Tryz.func43 (aT.calls k a1 NB _ A5.out) ?_;rintro bT0 w9 ⟨ho0,hb⟩;have aWa:=am (Kd.dZ (Kd.qW ho0 (Kd.pJ (rq LZ.out))) (aH gP));replace LZ:=am (Kd.lT (rq LZ.out) (Kd.jE ho0) hb);replace HB:=o8 hb;clear hb;clear ho0;obtain⟨pG,oU,aFQ⟩:=Kd.bS aWa.out;subst aFQ))
  go_loopg [5,16] k (fun kq v5 v16 w' => ∃(bI:List ByteArray) (II:Int),v16= .int .i64 II∧aC (fD.l0 kq l0 bI NB (NB.length:Int) II=some r)∧aC (kq≤k)∧aC (Kd.R Kd.string 9 w' w.heap.size (fun k_=>some k_≠((.slice pG NB.length oU):Value).ownBlock) v5 bI)∧aC (Kd.R Kd.string 9 w' w.heap.size (fun k_=>some k_≠(v5:Value).ownBlock) (.slice pG NB.length oU) NB)∧aC (Below w.heap.size w w'))
  case atStart=>exact⟨(aVO),(0),sq,H',⟨Nat.le_refl _⟩,⟨rq (Kd.bA LZ.out (fun _ hk=>hk.2))⟩,⟨rq (Kd.bA aWa.out (fun _ hk=>hk.2))⟩,⟨gP⟩⟩
  case round=>
   clear H';obtain⟨bI,II,rfl,HA,lM,bY,I5,HB⟩:=hrel
   cases gk with
   |zero=>exact absurd HA.out (by simp [fD.l0])
   |succ k1=>
    have H:=HA.out;clear HA;simp only [fD.l0] at H
    replace H:=iv H;rcases H with ⟨zG,H⟩|⟨zG,H⟩
    ·replace H:=it H;obtain⟨xN,H⟩:=H
     replace H:=it H;obtain⟨aH2,H⟩:=H;replace H:=ba H;obtain⟨bCh,A14,H⟩:=H
     replace H:=ib H;rcases H with ⟨rfl,H⟩|⟨rfl,H⟩
     ·replace H:=ip H;obtain⟨c16,H⟩:=H;have aDF:=am c16;clear c16;obtain⟨bMp,aPY⟩: ∃y_:List ByteArray,y_=(bI++[bP ByteArray.empty NB II]):=⟨_,rfl⟩
      rw [←aPY] at H
      have a7l:=am aPY;clear aPY
      have H' :=am H
      clear H
      obtain⟨aWA,a0b,aUa,bKd,bKY⟩:=CY (Kd.aM I5.out).2.2 II;cases a0b
      go_wp2_with (first|(refine gd 22 ?_;refine gv Tryz.func13 (jU.calls k1 _ _ l0 (bP ByteArray.empty NB II) true _ (cq (Kd.dV lX.out HB.out)) vX.out A14.out) ?_;intro w17 hb;replace bY:=kr bY hb;replace I5:=kr I5 hb;replace HB:=o8 hb;clear hb)|((with_reducible refine gL (b:= .append) (xs:= #[.tmp 23, .tmp 25]) rfl ?_);at_builtin;refine Kd.oI Kd.string (w0:=w) w.heap.size rfl (.tmp 23) (.tmp 25) 36 9 (.string ⟨#[]⟩) 16 rfl Tryz.underlying36 zI rfl (by decide) (by omega) u5 bI (bP ByteArray.empty NB II) [.string (bP ByteArray.empty NB II)] (fun k_=>some k_≠(.slice (some aWA) NB.length oU:Value).ownBlock) (fun _=>False) rfl rfl ?aP (fun _ hk=>hk.elim) ?aF ?aO ?aB ?aS ?aL ?_;(case aP=>exact rfl);(case aB=>exact gP);(case aF=>exact(fun k_ hk=>Kd.nL (Kd.pJ (rq I5.out)) k_ hk));(case aO=>exact(rq bY.out));(case aS=>exact(aH gP));(case aL=>have:=aDF.out;omega);intro bT1 w18 ho hb hg hat;rw [←a7l.out] at ho;replace I5:=am (Kd.oO (ok:=(fun _=>True)) (rq (Kd.bA I5.out (fun _ hk=>⟨trivial,hk⟩))) hg hat);replace HB:=am (hb);have a5l:=am (ho);clear bY;clear ho hb hg hat))
      go_roundg k1
      case measure=>have:=lM.out;omega
      case rel=>exact⟨(bMp),(wrap64 (II+1)),sq,H',⟨rO⟩,⟨rq a5l.out⟩,⟨rq (Kd.bA I5.out (fun _ hk=>hk.2))⟩,⟨gP⟩⟩
     have H' :=am H
     clear H
     obtain⟨aWA,a0b,aUa,bKd,bKY⟩:=CY (Kd.aM I5.out).2.2 II;cases a0b
     go_wp2_with (refine gd 22 ?_;refine gv Tryz.func13 (jU.calls k1 _ _ l0 (bP ByteArray.empty NB II) false _ (cq (Kd.dV lX.out HB.out)) vX.out A14.out) ?_;intro w19 hb;replace bY:=kr bY hb;replace I5:=kr I5 hb;replace HB:=o8 hb;clear hb)
     go_roundg k1
     case measure=>have:=lM.out;omega
     case rel=>exact⟨(bI),(wrap64 (II+1)),sq,H',⟨rO⟩,⟨rq bY.out⟩,⟨rq I5.out⟩,⟨gP⟩⟩
    obtain rfl:=si H;go_wp2;go_ret
    exact⟨_,nD,aSu,gP⟩
 obtain rfl:=si H;go_enter Tryz.func11,Tryz.ntmps11
 go_wp2_with (first|(refine gd 8 ?_;refine Kd.mJ Kd.string _ 9 ?hg (N:=8) ?hd (xs:=([]:List ByteArray)) (inner:=[]) (ok:=fun _=>True) (mK:=fun _=>True) ?hr ?hp (fun _ hk=>hk) trivial (Below.refl _ _) (Nat.le_refl _) (by simp) ?_;(case hd=>rfl);(case hg=>rfl);(case hr=>(go_simp;done));(case hp=>exact(dQ.none _ _));intro bLu w20 a1F hb lL dP;clear lL dP;(rw [←aWp.out] at a1F);have LZ:=am (Kd.dZ a1F (aH gP));replace HB:=o8 hb;clear hb a1F)|(refine gd 10 ?_;refine gv Tryz.func42 (aJ.calls k _ _ l0 false _ (cq (Kd.dV lX.out HB.out)) vX.out A3.out) ?_;intro w22 hb;replace LZ:=kr LZ hb;replace HB:=o8 hb;clear hb))
 go_ret
 exact⟨_,nD,by(with_reducible repeat(fail));exact LZ.out,gP⟩
def l9.l0:Nat→List ByteArray→ByteArray→Int→Option (Bool)
 |0,_,_,_=>none
 |k+1,x0,x1,x5=>if x5<(x0.length:Int)then(if 0≤x5 then(if(bP ByteArray.empty x0 x5).toList=x1.toList then(some true)else(l9.l0 k x0 x1 (wrap64 (x5+1))))else(none))else(some false)
def l9.f (k:Nat) (l0:List ByteArray) (a1:ByteArray):Option (Bool):=l9.l0 k l0 a1 0
theorem l9.calls (k:Nat) (A0:Option Addr) (c0:Nat) (l0:List ByteArray) (a1:ByteArray) (r:Bool) (w:World) (hr0:Kd.C Kd.string w A0 l0.length l0) (hc0:l0.length≤c0) (h:l9.f k l0 a1=some r):
  Calls Tryz.prog 12 #[.slice A0 l0.length c0, .string a1] w fun e w' =>e= .returned (.bool r)∧iB w w' :=by
 have lX:=am hr0;have vX:=am hc0;clear hr0 hc0
 have H:=h;unfold l9.f at H
 clear h
 have H' :=am H
 clear H;go_enter Tryz.func12,Tryz.ntmps12;go_wp2
 go_loopg [5] k (fun kq v5 w' => ∃(bI:Int),v5= .int .i64 bI∧aC (l9.l0 kq l0 a1 bI=some r)∧aC (kq≤k)∧iB w w')
 case atStart=>exact⟨(0),sq,H',⟨Nat.le_refl _⟩,dr⟩
 case round=>
  clear H';obtain⟨bI,rfl,HA,lM,⟨m1,rfl⟩⟩:=hrel
  cases gk with
  |zero=>exact absurd HA.out (by simp [l9.l0])
  |succ k1=>
   have H:=HA.out;clear HA;simp only [l9.l0] at H
   replace H:=iv H;rcases H with ⟨oG,H⟩|⟨oG,H⟩
   ·replace H:=it H;obtain⟨qZ,H⟩:=H
    by_cases c5:(bP ByteArray.empty l0 bI).toList=a1.toList
    ·rw [if_pos c5] at H
     have oL:((bP ByteArray.empty l0 bI).toList==a1.toList)=true:=beq_iff_eq.mpr c5
     have JF:((bP ByteArray.empty l0 bI).toList !=a1.toList)=false:=bne_eq_false_iff_eq.mpr c5
     clear c5;obtain rfl:=si H
     obtain⟨a8a,a0c,aUb,bKe,bKZ⟩:=CY lX.out bI;cases a0c
     go_wp2;go_ret
     exact⟨sq,dr⟩
    rw [if_neg c5] at H
    have oL:((bP ByteArray.empty l0 bI).toList==a1.toList)=false:=beq_eq_false_iff_ne.mpr c5
    have JF:((bP ByteArray.empty l0 bI).toList !=a1.toList)=true:=bne_iff_ne.mpr c5
    have H' :=am H
    clear H
    obtain⟨a8a,a0c,aUb,bKe,bKZ⟩:=CY lX.out bI;cases a0c
    go_wp2
    go_roundg k1
    case measure=>have:=lM.out;omega
    case rel=>exact⟨(wrap64 (bI+1)),sq,H',⟨rO⟩,dr⟩
   obtain rfl:=si H;go_wp2;go_ret
   exact⟨sq,dr⟩
mutual
def dB.l0:Nat→List (xH)→List Int→Int→Option (List Int)
 |0,_,_,_=>none
 |k+1,x0,x3,x4=>if x4≥0 then(if 0≤x4 then(if x4<(x0.length:Int)then(if(aG x0 x4).f0=true then(if x4<(x3.length:Int)then(dB.j1 k x0 (x3.set (x4:Int).toNat 1) x4)else(none))else(dB.j1 k x0 x3 x4))else(none))else(none))else(some x3)
def dB.j1:Nat→List (xH)→List Int→Int→Option (List Int)
 |0,_,_,_=>none
 |k+1,x0,x3,x4=>if 0≤x4 then(if x4<(x0.length:Int)then(dB.l1 k x0 x3 x4 ((aG x0 x4).f1) (((aG x0 x4).f1).length:Int) 0)else(none))else(none)
def dB.l1:Nat→List (xH)→List Int→Int→List (ER)→Int→Int→Option (List Int)
 |0,_,_,_,_,_,_=>none
 |k+1,x0,x3,x4,x29,x30,x31=>if x31<x30 then(if 0≤x31 then(if x31<(x29.length:Int)then(if 0≤x4 then(if x4<(x3.length:Int)then(if 0≤((bB x29 x31).f1)then(if((bB x29 x31).f1)<(x3.length:Int)then(dB.l1 k x0 (x3.set (x4:Int).toNat (mn (wrap64 ((rd x3 x4)+(rd x3 ((bB x29 x31).f1)))) 1000000000)) x4 x29 x30 (wrap64 (x31+1)))else(none))else(none))else(none))else(none))else(none))else(none))else(dB.l0 k x0 x3 (wrap64 (x4-1)))
end
def dB.f (k:Nat) (l0:List (xH)):Option (List Int):=if 0≤(l0.length:Int)then(if l0.length≤35184372088832 then(dB.l0 k l0 (List.replicate l0.length 0) (wrap64 ((l0.length:Int)-1)))else(none))else(none)
def dB.T10:Bool×List (List Nat×List Nat):=(true,[([],[]),([],[]),([],[]),([],[]),([2,3],[2,3]),([4],[4]),([],[]),([],[]),([7],[7]),([6,8],[6,8]),([9],[9]),([5,10],[5,10]),([11],[11]),([0,1,0,1,2,3,4,5,6,7,8,9,10,11,12],[0,1]),([13,12,0,1,2,3,4,5,6,7,8,9,10,11,12],[12,13])])
def dB.B10:List Nat:=[0,0,0,0,12,28,0,0,128,448,960,2044,4092,8191,16383]
theorem dB.aRi:nX .any (opsOf Tryz.f46 10)=dB.T10:=by kernel_rfl
theorem dB.aFB:jA dB.T10.2 dB.B10=true:=by kernel_rfl
theorem dB.calls (k:Nat) (A0:Option Addr) (c0:Nat) (l0:List (xH)) (r:List Int) (w:World) (hr0:Kd.C VB w A0 l0.length l0) (hc0:l0.length≤c0) (h:dB.f k l0=some r):
  Calls Tryz.prog 46 #[.slice A0 l0.length c0] w fun e w' => ∃sQ:Value,e= .returned (sQ)∧Kd.R (Kd.int .i64) 3 w' w.heap.size (fun _=>True) sQ r∧Below w.heap.size w w' :=by
 have bAN:=Tryz.underlying77;have lX:=am hr0;have vX:=am hc0;clear hr0 hc0;have HB:=am (Below.refl w.heap.size w)
 have H:=h;unfold dB.f at H
 clear h
 replace H:=ip H;obtain⟨c2,H⟩:=H;have wD:=eq_true c2
 have ZW:decide (0≤(l0.length:Int))=true:=decide_eq_true c2
 clear c2
 replace H:=ip H;obtain⟨c3,H⟩:=H;have oG:=eq_true c3
 have GA:decide (l0.length≤35184372088832)=true:=decide_eq_true c3
 clear c3;obtain⟨bMq,aPZ⟩: ∃y_:List Int,y_=(List.replicate l0.length 0):=⟨_,rfl⟩
 rw [←aPZ] at H
 have a7m:=am aPZ;clear aPZ
 have H' :=am H
 clear H;go_enter Tryz.func46,Tryz.ntmps46
 go_wp2_with (refine gd 9 ?_;refine Kd.aBy (Kd.int .i64) _ 3 rfl (N:=9) rfl 81 _ _ rfl (l0.length:Int) rfl rfl Tryz.underlying81 (.int .i64 0) 8 YI rfl (by decide) (by omega) 0 (ok:=fun _=>True) (mK:=fun _=>True) rfl (fun _ hk=>hk) trivial (dt) (Nat.le_trans (Nat.mul_le_mul_right _ (dt:(l0.length:Int).toNat≤35184372088832)) (by omega)) (Below.refl _ _) (Nat.le_refl _) ?_;intro aVy w4 ho5 hb lL dP;clear lL dP;(simp only [Int.toNat_natCast] at ho5;rw [←a7m.out] at ho5);have a5m:=am (Kd.dZ ho5 (aH gP));replace HB:=o8 hb;clear hb ho5)
 go_loopg [4] k (fun kq v4 w' => ∃(bL:List Int) (aV:Int),v4= .int .i64 aV∧aC (dB.l0 kq l0 bL aV=some r)∧aC (kq≤k)∧aC (Kd.R (Kd.int .i64) 3 w' w.heap.size (fun _=>True) aVy bL)∧aC (Below w.heap.size w w'))
 case atStart=>exact⟨(bMq),(wrap64 ((l0.length:Int)-1)),sq,H',⟨Nat.le_refl _⟩,⟨rq a5m.out⟩,⟨gP⟩⟩
 case round=>
  clear H';clear wD ZW oG GA;obtain⟨bL,aV,rfl,HA,lM,dN,HB⟩:=hrel
  cases gk with
  |zero=>exact absurd HA.out (by simp [dB.l0])
  |succ k1=>
   have H:=HA.out;clear HA;simp only [dB.l0] at H
   replace H:=iv H;rcases H with ⟨sW,H⟩|⟨sW,H⟩
   ·replace H:=it H;obtain⟨wR,H⟩:=H;replace H:=it H;obtain⟨tK,H⟩:=H;have HC9:=am H;clear H
    obtain⟨a8b,bE1,bGf,bHp,V4,aCN,aIV,aIA⟩:=SG lX.out aV dt dt;cases bHp;replace V4:=kp HB.out V4;replace aCN:=kp HB.out aCN;have bDh:=am aIA;have bC1:=am aIV;clear aIA aIV;have bKf:=e0 aV;have bK0:=e1 aV (l0.length:Int)
    go_upto_if 21 with (fail)
    go_cut [] (fun wc=> ∃(kq:Nat) (aVE:List Int),aC (dB.j1 kq l0 aVE aV=some r)∧aC (kq≤k1)∧aC (Kd.R (Kd.int .i64) 3 wc w.heap.size (fun _=>True) aVy aVE)∧aC (Below w.heap.size w wc))
    case first=>
     have H:=HC9.out;clear HC9;obtain⟨a8A,aNV⟩: ∃b_:Bool,b_=((aG l0 aV).f0):=⟨_,rfl⟩
     replace H:(if a8A=true then(if aV<(bL.length:Int)then(dB.j1 k1 l0 (bL.set (aV:Int).toNat 1) aV)else(none))else(dB.j1 k1 l0 bL aV))=some r:=by rw [←aNV] at H;exact H
     have aWf:=am aNV;clear aNV
     rw [←aWf.out]
     by_cases c11:a8A=true
     ·subst c11
      rw [if_pos rfl] at H
      replace H:=it H;obtain⟨xN,H⟩:=H;obtain⟨bCI,aP0⟩: ∃y_:List Int,y_=(bL.set (aV:Int).toNat 1):=⟨_,rfl⟩
      rw [←aP0] at H
      have a7n:=am aP0;clear aP0
      have H' :=am H
      clear H
      have p13:0≤(aV:Int):=dt
      have q13:(aV:Int)<((bL.length:Int):Int):=dt
      obtain⟨a0r,OQ,a0e,a9v,bH8,bRc,a4i⟩:=Kd.F4 dN.out (by omega)
      (cases a0e)
      have bFf:=am a9v;have bQN:=am a4i;clear a9v bH8 a4i;obtain⟨bJg,bIx⟩:=Kd.zM 0 dN.out (aV:Int) p13 q13;replace p13:=eq_true p13;replace q13:=eq_true q13;have aY0:=Kd.MS dN.out (aV:Int) 1
      go_wp2_with ((with_reducible refine uG (t:=3) (p:=24) rfl ?_);refine rZ (t:=3) (p:=24) (v:=?bLE) (w1:=(wr.setCell ⟨a0r,(aV:Int).toNat,none⟩ (.int .i64 1))) ?hg ?ho ?hn ?hr ?_;(case ho=>rfl);(case hg=>rfl);(case hn=>rfl);(case hr=>(go_simp;done));intro w15 hw;have hg:wr.grownBy w15 (some a0r):=(by rw [hw];exact aY0.2);have YH:Kd.R (Kd.int .i64) 3 w15 w.heap.size (fun _=>True) (.slice (some ⟨a0r,0,none⟩) bL.length OQ) bCI:=(by rw [hw,a7n.out];exact aY0.1);clear aY0;replace dN:=am (YH);replace HB:=am ((by rw [hw];exact bO (HB.out) bFf.out:Below w.heap.size w w15));clear hg hw YH)
      go_meet
      case rel=>exact⟨_,(bCI),H',⟨OG⟩,⟨rq dN.out⟩,⟨gP⟩⟩
     replace c11:=Bool.eq_false_iff.mpr c11;subst c11
     rw [←aWf.out] at V4
     rw [if_neg Bool.false_ne_true] at H
     have H' :=am H
     clear H;go_wp2
     go_meet
     case rel=>exact⟨_,(bL),H',⟨OG⟩,⟨rq dN.out⟩,⟨gP⟩⟩
    case rest=>
     clear HC9;clear sW wR tK V4 aCN bKf bK0;obtain⟨kq,aVE,HA,HJ8,dN,HB⟩:=hcut
     cases kq with
     |zero=>exact absurd HA.out (by simp [dB.j1])
     |succ kj8=>
      have H:=HA.out;clear HA;simp only [dB.j1] at H;replace H:=it H;obtain⟨BZ,H⟩:=H;replace H:=it H;obtain⟨FE,H⟩:=H
      have H' :=am H
      clear H
      obtain⟨a8c,bE2,bGg,bHq,aCO,aCP,aIW,aIB⟩:=SG lX.out aV dt dt
      obtain rfl:a8b=a8c:=(by injection bHq)
      replace aCO:=kp HB.out aCO;replace aCP:=kp HB.out aCP;have aR4:=am aIB;have bC2:=am aIW;clear aIB aIW;have bKg:=e0 aV;have bK1:=e1 aV (l0.length:Int);go_wp2
      go_loopg [31] kj8 (fun kq v31 w' => ∃(NF:List Int) (qO:Int),v31= .int .i64 qO∧aC (dB.l1 kq l0 NF aV ((aG l0 aV).f1) (((aG l0 aV).f1).length:Int) qO=some r)∧aC (kq≤kj8)∧aC (Kd.R (Kd.int .i64) 3 w' w.heap.size (fun _=>True) aVy NF)∧aC (Below w.heap.size w w'))
      case atStart=>exact⟨(aVE),(0),sq,H',⟨Nat.le_refl _⟩,⟨rq dN.out⟩,⟨gP⟩⟩
      case round=>
       clear H';clear BZ FE aCO aCP bKg bK1;obtain⟨NF,qO,rfl,HA,DJ,dN,HB⟩:=hrel
       cases gk with
       |zero=>exact absurd HA.out (by simp [dB.l1])
       |succ k3=>
        have H:=HA.out;clear HA;simp only [dB.l1] at H
        replace H:=iv H;rcases H with ⟨L8,H⟩|⟨L8,H⟩
        ·replace H:=it H;obtain⟨H6,H⟩:=H;replace H:=it H;obtain⟨L9,H⟩:=H;replace H:=it H;obtain⟨MB,H⟩:=H;replace H:=it H;obtain⟨aXh,H⟩:=H;replace H:=it H;obtain⟨MC,H⟩:=H
         replace H:=it H;obtain⟨aD4,H⟩:=H;obtain⟨a14,aX1⟩: ∃j_:Int,(mn (wrap64 ((rd NF aV)+(rd NF ((bB ((aG l0 aV).f1) qO).f1)))) 1000000000)=j_:=⟨_,rfl⟩
         rw [aX1] at H
         have bIP:(if 1000000000<(wrap64 ((rd NF aV)+(rd NF ((bB ((aG l0 aV).f1) qO).f1))))then 1000000000 else(wrap64 ((rd NF aV)+(rd NF ((bB ((aG l0 aV).f1) qO).f1)))))=a14:=aX1
         obtain⟨bMr,aP1⟩: ∃y_:List Int,y_=(NF.set (aV:Int).toNat (a14)):=⟨_,rfl⟩
         rw [←aP1] at H
         have a7o:=am aP1;clear aP1
         have H' :=am H
         clear H
         obtain⟨bNq,bHr,bEg,bEh⟩:=kp2 HB (SH aR4.out qO dt dt);cases bHr;have bSi:=e0 qO;have bSJ:=e1 qO (((aG l0 aV).f1).length:Int)
         try go_wp2_with (refine gd 6 ?_;refine bx 6 (cs:= #[.int .i64 0, .int .i64 0]) (t:=77) ?_;intro CG hg w27 bT hb;replace dN:=kr dN hb;have LQ:=am (bT);have bMR:=am ((kI:w.heap.size≤CG));have aVV:=am ((kI:w.heap.size≤CG));replace HB:=o8 hb;clear hb bT hg;have⟨_,_,_,_⟩:=oP LQ.out)
         have vK:aC (Kd.R (Kd.int .i64) 3 ((w27.setCell ⟨CG,0,none⟩ (.int .i64 ((bB ((aG l0 aV).f1) qO).f0))).setCell ⟨CG,1,none⟩ (.int .i64 ((bB ((aG l0 aV).f1) qO).f1))) w.heap.size (fun _=>True) aVy NF):=⟨rq (Kd.bA (Kd.bZ (p:=⟨CG,1,none⟩) (Kd.bZ (p:=⟨CG,0,none⟩) (Kd.eQ dN.out LQ.out (by decide)) (fun _ hk=>hk.2) (.int .i64 ((bB ((aG l0 aV).f1) qO).f0))) (fun _ hk=>hk.2) (.int .i64 ((bB ((aG l0 aV).f1) qO).f1))) (fun _ hk=>trivial))⟩
         have vL:aC (((w27.setCell ⟨CG,0,none⟩ (.int .i64 ((bB ((aG l0 aV).f1) qO).f0))).setCell ⟨CG,1,none⟩ (.int .i64 ((bB ((aG l0 aV).f1) qO).f1))).heap[CG]?=some (.cells #[.int .i64 ((bB ((aG l0 aV).f1) qO).f0), .int .i64 ((bB ((aG l0 aV).f1) qO).f1)] 77 (0,0))):=⟨by(with_reducible repeat(fail));refine bM (cs:= #[.int .i64 ((bB ((aG l0 aV).f1) qO).f0), .int .i64 0]) ?_ 1 _ rfl;(with_reducible repeat(fail));refine bM (cs:= #[.int .i64 0, .int .i64 0]) ?_ 0 _ rfl;(with_reducible repeat(fail));exact LQ.out⟩
         have GL:aC (Below w.heap.size w ((w27.setCell ⟨CG,0,none⟩ (.int .i64 ((bB ((aG l0 aV).f1) qO).f0))).setCell ⟨CG,1,none⟩ (.int .i64 ((bB ((aG l0 aV).f1) qO).f1)))):=⟨cK aVV.out⟩
         clear dN LQ HB;generalize ((w27.setCell ⟨CG,0,none⟩ (.int .i64 ((bB ((aG l0 aV).f1) qO).f0))).setCell ⟨CG,1,none⟩ (.int .i64 ((bB ((aG l0 aV).f1) qO).f1)))=w29 at vK vL GL⊢;have dN:=vK;have LQ:=vL;have HB:=GL;clear vK vL GL;replace dN:=am (Kd.mZ dN.out);replace LQ:=am (bF LQ.out);replace HB:=am (bH HB.out);obtain⟨CZ,DD,aBP⟩:=Kd.bS dN.out
         (subst aBP)
         obtain⟨a8d,bHs,aCQ,bSj,bSK⟩:=XQ (Kd.aM dN.out).2.2 aV;cases bHs
         obtain⟨a8e,bHt,aCR,bSk,bSL⟩:=XQ (Kd.aM dN.out).2.2 ((bB ((aG l0 aV).f1) qO).f1)
         obtain rfl:a8d=a8e:=(by injection bHt)
         have p26:0≤(aV:Int):=dt
         have q26:(aV:Int)<((NF.length:Int):Int):=dt
         obtain⟨a9C,aKw,aNE,a9x,bIa,bRe,a4k⟩:=Kd.F4 dN.out (by omega)
         (cases aNE)
         have bFh:=am a9x;have bFm:=am a4k;clear a9x bIa a4k
         (simp only [add_plain] at aCQ)
         (simp only [add_plain] at aCR)
         obtain⟨a1U,a1k⟩:=Kd.zM 0 dN.out (aV:Int) p26 q26;replace p26:=eq_true p26;replace q26:=eq_true q26;have aY4:=Kd.aMc dN.out (aV:Int) a14;rw [←a7o.out] at aY4;have a5q:=am aY4;clear aY4
         refine J5 (n:=15) (S:=fun w' =>w'.cell? ⟨CG,0,none⟩=some (.int .i64 ((bB ((aG l0 aV).f1) qO).f0))∧w'.cell? ⟨CG,1,none⟩=some (.int .i64 ((bB ((aG l0 aV).f1) qO).f1))∧w'.cell? ⟨a9C,(aV).toNat,none⟩=some (.int .i64 (rd NF aV))∧w'.cell? ⟨a9C,(((bB ((aG l0 aV).f1) qO).f1)).toNat,none⟩=some (.int .i64 (rd NF ((bB ((aG l0 aV).f1) qO).f1)))) (ds:=[14]) #[false,false,false,false,false,false,false,false,false,false,false,false,false,false,false] (by kernel_rfl) rfl rfl ⟨bd LQ.out 0,bd LQ.out 1,aCQ,aCR⟩ (fun hHeld=>?_);refine dW dB.aRi dB.aFB (fun kQ rT=>?_)
         generalize w29.drew=w30 at dN LQ HB bFm a5q a1k a1U aCQ aCR hHeld⊢;refine pu 0 35 ?_;refine pu 1 36 ?_;refine pu 2 37 ?_;refine pu 3 38 ?_;refine pu 4 39 ?_;refine pu 6 41 ?_;refine pu 7 42 ?_;refine VG 5 40 hHeld ?_;refine VG 8 43 hHeld ?_;refine pu 9 44 ?_;refine VG 10 45 hHeld ?_;refine pu 11 46 ?_;refine pu 12 47 ?_;refine pu 13 48 ?_
         refine UL (i:=14) (N:=none) #[true,true,true,true,true,true,true,true,true,true,true,true,true,true,true] rfl rfl (CR kQ.out (by kernel_rfl)) (by decide) (fun K hK=>?_)
         refine RL (w1:=?_) (by rfl) rfl ?_ ?_
         rotate_left
         ·go_simp
          rfl
         refine hK.out _ _ ?_;clear hK K
         refine kD (fQ kQ.out (by kernel_rfl)) ?_
         try go_wp2
         go_roundg k3
         case measure=>have:=lM.out;have:=HJ8.out;have:=DJ.out;omega
         case rel=>exact⟨(bMr),(wrap64 (qO+1)),sq,H',⟨by have:=lM.out;have:=HJ8.out;have:=DJ.out;omega⟩,⟨rq a5q.out⟩,⟨rP bFh.out aVV.out⟩⟩
        have H' :=am H
        clear H;go_wp2
        go_roundg k3
        case measure=>have:=lM.out;have:=HJ8.out;have:=DJ.out;omega
        case rel=>exact⟨(NF),(wrap64 (aV-1)),sq,H',⟨by have:=lM.out;have:=HJ8.out;have:=DJ.out;omega⟩,⟨rq dN.out⟩,⟨gP⟩⟩
   obtain rfl:=si H;go_wp2;go_ret
   exact⟨_,nD,aMD,gP⟩
def mR.f (k:Nat) (l0:List (xH)):Option (Int):=(aJ.f k l0).bind fun bCi=>(if bCi=true then((dB.f k l0).bind fun aGW=>(if 0<(aGW.length:Int)then(some (rd aGW 0))else(none)))else(some 0))
theorem mR.calls (k:Nat) (A0:Option Addr) (c0:Nat) (l0:List (xH)) (r:Int) (w:World) (hr0:Kd.C VB w A0 l0.length l0) (hc0:l0.length≤c0) (h:mR.f k l0=some r):
  Calls Tryz.prog 15 #[.slice A0 l0.length c0] w fun e w' =>e= .returned (.int .i64 r)∧Below w.heap.size w w' :=by
 have lX:=am hr0;have vX:=am hc0;clear hr0 hc0;have HB:=am (Below.refl w.heap.size w)
 have H:=h;unfold mR.f at H
 clear h;replace H:=ba H;obtain⟨bCi,A2,H⟩:=H
 replace H:=ib H;rcases H with ⟨rfl,H⟩|⟨rfl,H⟩
 ·replace H:=ba H;obtain⟨aGW,A4,H⟩:=H
  replace H:=ip H;obtain⟨c5,H⟩:=H;have oL:=decide_eq_true c5
  have JF:decide (0<aGW.length)=true:=decide_eq_true (by omega)
  clear c5;obtain rfl:=si H;go_enter Tryz.func15,Tryz.ntmps15
  go_wp2_with (first|(refine gd 4 ?_;refine gv Tryz.func42 (aJ.calls k _ _ l0 true _ ?dS vX.out A2.out) ?_;(case dS=>repeat(exact lX.out));intro w6 hb;replace HB:=o8 hb;clear hb)|(refine gd 7 ?_;refine gx Tryz.func46 (dB.calls k _ _ l0 aGW _ (cq (Kd.dV lX.out HB.out)) vX.out A4.out) ?_;rintro bT2 w7 ⟨ho0,hb⟩;have aWb:=am (Kd.dZ ho0 (aH gP));replace HB:=o8 hb;clear hb;clear ho0;obtain⟨Ao8,ZZ,eo8⟩:=Kd.bS aWb.out;subst eo8;have a2v:0≤(0:Int):=(by omega);have a2E:0<(aGW.length:Int):=dt;obtain⟨bNr,bHu,aJC⟩:=Kd.XR (Kd.aM aWb.out).2.2 0 a2v a2E;cases bHu;have bQq:(0<aGW.length)=True:=eq_true (by omega);rw [show((0:Int)).toNat=0 from rfl] at aJC;rw [Addr.add_zero'] at aJC;replace a2v:=eq_true a2v;replace a2E:=eq_true a2E))
  go_ret
  exact⟨nD,gP⟩
 obtain rfl:=si H;go_enter Tryz.func15,Tryz.ntmps15
 go_wp2_with (refine gd 4 ?_;refine gv Tryz.func42 (aJ.calls k _ _ l0 false _ ?dS vX.out A2.out) ?_;(case dS=>repeat(exact lX.out));intro w9 hb;replace HB:=o8 hb;clear hb)
 go_ret
 exact⟨nD,gP⟩
end Go.Proofs.YtpljfjbhlboffaaGreat.eH

import Derived.Test.YtpljfjbhlboffaaGreatQFnMachineBookx15
namespace Go.Proofs.YtpljfjbhlboffaaGreat.eH
open Go.RowKit Go.Proofs.YtpljfjbhlboffaaGreatW.bJ Go.Proofs.YtpljfjbhlboffaaGreatW.gI Go.Proofs.YtpljfjbhlboffaaGreatW.jC Go.Proofs.YtpljfjbhlboffaaGreat.Sh
attribute [local go_sem] rD rF uY uZ pE pF rE rG
set_option linter.unusedVariables false
set_option linter.unusedSimpArgs false
mutual
def bU.j0:Nat→ByteArray→ByteArray→Bool→Option (Int)
 |0,_,_,_=>none
 |k+1,x0,x1,x18=>if x18=true then(some (-1))else(if 0≤(wrap64 ((x0.size:Int)+1))then(if(wrap64 ((x0.size:Int)+1):Int).toNat≤11728124029610 then((some (List.replicate (wrap64 ((x0.size:Int)+1):Int).toNat []:List (List Int))).bind fun aAr=>(bU.l0 k x0 x1 aAr (aAr.length:Int) 0))else(none))else(none))
def bU.l0:Nat→ByteArray→ByteArray→List (List Int)→Int→Int→Option (Int)
 |0,_,_,_,_,_=>none
 |k+1,x0,x1,x5,x24,x25=>if x25<x24 then(if 0≤(wrap64 ((x1.size:Int)+1))then(if(wrap64 ((x1.size:Int)+1):Int).toNat≤35184372088832 then(if 0≤x25 then(if x25<(x5.length:Int)then((some (x5.set (x25:Int).toNat (List.replicate (wrap64 ((x1.size:Int)+1):Int).toNat 0):List (List Int))).bind fun NI=>(if 0<((dF NI x25).length:Int)then(bU.l0 k x0 x1 (NI.set (x25:Int).toNat ((dF NI x25).set (0:Int).toNat x25)) x24 (wrap64 (x25+1)))else(none)))else(none))else(none))else(none))else(none))else(if 0<(x5.length:Int)then(bU.l1 k x0 x1 x5 ((dF x5 0).length:Int) 0)else(none))
def bU.l1:Nat→ByteArray→ByteArray→List (List Int)→Int→Int→Option (Int)
 |0,_,_,_,_,_=>none
 |k+1,x0,x1,x5,x45,x46=>if x46<x45 then(if 0<(x5.length:Int)then(if 0≤x46 then(if x46<((dF x5 0).length:Int)then(bU.l1 k x0 x1 (x5.set (0:Int).toNat ((dF x5 0).set (x46:Int).toNat x46)) x45 (wrap64 (x46+1)))else(none))else(none))else(none))else(bU.l2 k x0 x1 x5 1)
def bU.l2:Nat→ByteArray→ByteArray→List (List Int)→Int→Option (Int)
 |0,_,_,_,_=>none
 |k+1,x0,x1,x5,x8=>if x8≤(x0.size:Int)then(bU.l3 k x0 x1 x5 x8 1)else(if 0≤(x0.size:Int)then(if(x0.size:Int)<(x5.length:Int)then(if 0≤(x1.size:Int)then(if(x1.size:Int)<((dF x5 (x0.size:Int)).length:Int)then(some (rd (dF x5 (x0.size:Int)) (x1.size:Int)))else(none))else(none))else(none))else(none))
def bU.l3:Nat→ByteArray→ByteArray→List (List Int)→Int→Int→Option (Int)
 |0,_,_,_,_,_=>none
 |k+1,x0,x1,x5,x8,x9=>if x9≤(x1.size:Int)then(if 0≤(wrap64 (x8-1))then(if(wrap64 (x8-1))<(x5.length:Int)then(if 0≤(wrap64 (x9-1))then(if(wrap64 (x9-1))<((dF x5 (wrap64 (x8-1))).length:Int)then(if(wrap64 (x8-1))<(x0.size:Int)then(if(wrap64 (x9-1))<(x1.size:Int)then(if(bt x0 (wrap64 (x8-1)))=(bt x1 (wrap64 (x9-1)))then(bU.j5 k x0 x1 x5 x8 x9 (rd (dF x5 (wrap64 (x8-1))) (wrap64 (x9-1))))else(bU.j5 k x0 x1 x5 x8 x9 (wrap64 ((rd (dF x5 (wrap64 (x8-1))) (wrap64 (x9-1)))+1))))else(none))else(none))else(none))else(none))else(none))else(none))else(bU.l2 k x0 x1 x5 (wrap64 (x8+1)))
def bU.j5:Nat→ByteArray→ByteArray→List (List Int)→Int→Int→Int→Option (Int)
 |0,_,_,_,_,_,_=>none
 |k+1,x0,x1,x5,x8,x9,zJ=>if 0≤(wrap64 (x8-1))then(if(wrap64 (x8-1))<(x5.length:Int)then(if 0≤x9 then(if x9<((dF x5 (wrap64 (x8-1))).length:Int)then(if 0≤x8 then(if x8<(x5.length:Int)then(if 0≤(wrap64 (x9-1))then(if(wrap64 (x9-1))<((dF x5 x8).length:Int)then(if x8>1 then(if x9>1 then(if(wrap64 (x8-1))<(x0.size:Int)then(if 0≤(wrap64 (x9-2))then(if(wrap64 (x9-2))<(x1.size:Int)then(if(bt x0 (wrap64 (x8-1)))=(bt x1 (wrap64 (x9-2)))then(if 0≤(wrap64 (x8-2))then(if(wrap64 (x8-2))<(x0.size:Int)then(if(wrap64 (x9-1))<(x1.size:Int)then(bU.j6 k x0 x1 x5 x8 x9 (mn (mn zJ (wrap64 ((rd (dF x5 (wrap64 (x8-1))) x9)+1))) (wrap64 ((rd (dF x5 x8) (wrap64 (x9-1)))+1))) ((bt x0 (wrap64 (x8-2)))==(bt x1 (wrap64 (x9-1)))))else(none))else(none))else(none))else(bU.j6 k x0 x1 x5 x8 x9 (mn (mn zJ (wrap64 ((rd (dF x5 (wrap64 (x8-1))) x9)+1))) (wrap64 ((rd (dF x5 x8) (wrap64 (x9-1)))+1))) false))else(none))else(none))else(none))else(bU.j6 k x0 x1 x5 x8 x9 (mn (mn zJ (wrap64 ((rd (dF x5 (wrap64 (x8-1))) x9)+1))) (wrap64 ((rd (dF x5 x8) (wrap64 (x9-1)))+1))) false))else(bU.j6 k x0 x1 x5 x8 x9 (mn (mn zJ (wrap64 ((rd (dF x5 (wrap64 (x8-1))) x9)+1))) (wrap64 ((rd (dF x5 x8) (wrap64 (x9-1)))+1))) false))else(none))else(none))else(none))else(none))else(none))else(none))else(none))else(none)
def bU.j6:Nat→ByteArray→ByteArray→List (List Int)→Int→Int→Int→Bool→Option (Int)
 |0,_,_,_,_,_,_,_=>none
 |k+1,x0,x1,x5,x8,x9,zJ,bLL=>if bLL=true then(if 0≤(wrap64 (x8-2))then(if(wrap64 (x8-2))<(x5.length:Int)then(if 0≤(wrap64 (x9-2))then(if(wrap64 (x9-2))<((dF x5 (wrap64 (x8-2))).length:Int)then(if 0≤x8 then(if x8<(x5.length:Int)then(if 0≤x9 then(if x9<((dF x5 x8).length:Int)then(bU.l3 k x0 x1 (x5.set (x8:Int).toNat ((dF x5 x8).set (x9:Int).toNat (mn zJ (wrap64 ((rd (dF x5 (wrap64 (x8-2))) (wrap64 (x9-2)))+1))))) x8 (wrap64 (x9+1)))else(none))else(none))else(none))else(none))else(none))else(none))else(none))else(none))else(if 0≤x8 then(if x8<(x5.length:Int)then(if 0≤x9 then(if x9<((dF x5 x8).length:Int)then(bU.l3 k x0 x1 (x5.set (x8:Int).toNat ((dF x5 x8).set (x9:Int).toNat zJ)) x8 (wrap64 (x9+1)))else(none))else(none))else(none))else(none))
end
def bU.f (k:Nat) (a0:ByteArray) (a1:ByteArray):Option (Int):=(eD.f k a0).bind fun bB3=>(if bB3=true then((eD.f k a1).bind fun aVg=>(bU.j0 k a0 a1 (!aVg)))else(bU.j0 k a0 a1 true))
set_option maxHeartbeats 8000000 in
set_option maxRecDepth 100000 in
theorem bU.calls (k:Nat) (a0:ByteArray) (a1:ByteArray) (r:Int) (w:World) (h:bU.f k a0 a1=some r):
  Calls Tryz.prog 58 #[.string a0, .string a1] w fun e w' =>e= .returned (.int .i64 r)∧Below w.heap.size w w' :=by
 have HB:=am (Below.refl w.heap.size w)
 have H:=h;unfold bU.f at H
 clear h;have FZ:=am H;clear H;go_enter Tryz.func58,Tryz.ntmps58
 go_upto_region 1 with (fail)
 go_cut [18] (fun v18 wc=> ∃(kq:Nat) (aRt:Bool),v18= .bool aRt∧aC (bU.j0 kq a0 a1 aRt=some r)∧aC (kq≤k)∧aC (Below w.heap.size w wc))
 case first=>
  have H:=FZ.out;clear FZ;replace H:=ba H;obtain⟨bB3,A4,H⟩:=H
  replace H:=ib H;rcases H with ⟨rfl,H⟩|⟨rfl,H⟩
  ·replace H:=ba H;obtain⟨aVg,A6,H⟩:=H
   have H' :=am H
   clear H
   go_wp2_with (first|(go_at_call 21;(with_reducible refine(eD.calls k a0 true _ A4.out).mono ?_);rintro e w' ⟨rfl,⟨nd,rfl⟩⟩)|(go_at_call 21;(with_reducible refine(eD.calls k a1 aVg _ A6.out).mono ?_);rintro e w' ⟨rfl,⟨nd,rfl⟩⟩))
   go_meet
   case rel=>exact⟨_,(!aVg),sq,H',⟨xI⟩,⟨gP⟩⟩
  have H' :=am H
  clear H
  go_wp2_with (go_at_call 21;(with_reducible refine(eD.calls k a0 false _ A4.out).mono ?_);rintro e w' ⟨rfl,⟨nd,rfl⟩⟩)
  go_meet
  case rel=>exact⟨_,(true),sq,H',⟨xI⟩,⟨gP⟩⟩
 case rest=>
  clear FZ;obtain⟨kq,aRt,rfl,HA,HJ2,HB⟩:=hcut
  cases kq with
  |zero=>exact absurd HA.out (by simp [bU.j0])
  |succ D8=>
   have H:=HA.out;clear HA;simp only [bU.j0] at H
   replace H:=ib H;rcases H with ⟨rfl,H⟩|⟨rfl,H⟩
   ·obtain rfl:=si H;go_wp2
    go_ret
    exact⟨nD,gP⟩
   obtain⟨xJ,aEI⟩: ∃j_:Int,(wrap64 ((a0.size:Int)+1))=j_:=⟨_,rfl⟩
   replace H:(if 0≤(xJ)then(if(xJ:Int).toNat≤11728124029610 then((some (List.replicate (xJ:Int).toNat []:List (List Int))).bind fun aAr=>(bU.l0 D8 a0 a1 aAr (aAr.length:Int) 0))else(none))else(none))=some r:=aME
   have aYg:(IntKind.i64.wrap ((a0.size:Int)+1))=xJ:=(iZ _).trans aEI
   replace H:=ip H;obtain⟨c9,H⟩:=H;have wE:=eq_true c9
   have XZ:decide (0≤(xJ))=true:=decide_eq_true c9
   clear c9;replace H:=ip H;obtain⟨c10,H⟩:=H;have BV:=eq_true c10
   have aNb:decide ((xJ:Int).toNat≤11728124029610)=true:=decide_eq_true c10
   clear c10;obtain⟨aAr,aPd⟩: ∃y_:List (List Int),y_=(List.replicate (xJ:Int).toNat []):=⟨_,rfl⟩
   replace H:=bm H;rw [←aPd] at H
   have a6y:=am aPd;clear aPd
   have H' :=am H
   clear H
   go_wp2_with (refine gd 22 ?_;refine Kd.aZl (Kd.slice 3 (Kd.int .i64)) _ 81 rfl (N:=22) rfl 122 _ _ rfl xJ rfl rfl Tryz.underlying122 (.slice none 0 0) 24 aP5 rfl (by decide) (by omega) [] (ok:=fun _=>True) (mK:=fun _=>True) ⟨_,rfl,Kd.aMb _ _ _ _ _⟩ (fun _ hk=>hk) trivial (dt) (Nat.le_trans (Nat.mul_le_mul_right _ (dt:xJ.toNat≤11728124029610)) (by omega)) (Below.refl _ _) (Nat.le_refl _) ?_;intro bTy w11 aGf hb lL dP;clear lL dP;(rw [←a6y.out] at aGf);have aV7:=am (Kd.F6 aGf (aH gP));replace HB:=o8 hb;clear hb aGf;obtain⟨bE5,OQ,a0e⟩:=Kd.VU aV7.out;subst a0e)
   go_loopg [25] D8 (fun kq v25 w' => ∃(jZ:List (List Int)) (o9:Int),v25= .int .i64 o9∧aC (bU.l0 kq a0 a1 jZ (aAr.length:Int) o9=some r)∧aC (kq≤D8)∧aC (Kd.S (Kd.slice 3 (Kd.int .i64)) 81 w' w.heap.size (fun _=>True) (.slice bE5 aAr.length OQ) jZ)∧aC (Below w.heap.size w w'))
   case atStart=>exact⟨(aAr),(0),sq,H',⟨Nat.le_refl _⟩,⟨by(with_reducible repeat(fail));exact aV7.out⟩,⟨gP⟩⟩
   case round=>
    clear H';clear wE XZ BV aNb;obtain⟨jZ,o9,rfl,HA,uP,bY,HB⟩:=hrel;have UK:=(Kd.iR bY.out).1;rw [UK] at bY
    simp only [UK]
    cases gk with
    |zero=>exact absurd HA.out (by simp [bU.l0])
    |succ k2=>
     have H:=HA.out;clear HA;simp only [bU.l0] at H
     by_cases c14:o9<(aAr.length:Int)
     ·rw [if_pos c14] at H;have FD:=decide_eq_true c14
      have aNc:=FD
      simp only [UK] at aNc
      clear c14;obtain⟨xY,aED⟩: ∃j_:Int,(wrap64 ((a1.size:Int)+1))=j_:=⟨_,rfl⟩
      rw [aED] at H
      have aOi:(IntKind.i64.wrap ((a1.size:Int)+1))=xY:=(iZ _).trans aED
      replace H:=ip H;obtain⟨c16,H⟩:=H;have BZ:=eq_true c16
      have aH3:decide (0≤(xY))=true:=decide_eq_true c16
      clear c16;replace H:=ip H;obtain⟨c17,H⟩:=H;have FE:=eq_true c17
      have XW:decide ((xY:Int).toNat≤35184372088832)=true:=decide_eq_true c17
      clear c17;obtain⟨bCy,aPe⟩: ∃y_:List Int,y_=(List.replicate (xY:Int).toNat 0):=⟨_,rfl⟩
      rw [←aPe] at H
      have a6z:=am aPe;clear aPe;replace H:=it H;obtain⟨L8,H⟩:=H;replace H:=ip H;obtain⟨c19,H⟩:=H;have H6:=decide_eq_true c19
      have bNM:=H6
      clear c19;obtain⟨NI,aPf⟩: ∃y_:List (List Int),y_=(jZ.set (o9:Int).toNat bCy):=⟨_,rfl⟩
      replace H:=bm H;rw [←aPf] at H
      have aL5:=am aPf;clear aPf;replace H:=ip H;obtain⟨c21,H⟩:=H;have MB:=decide_eq_true c21
      have bNR:=MB
      have a8F:decide (0<(dF NI o9).length)=true:=decide_eq_true (by omega)
      clear c21;obtain⟨bCz,aPg⟩: ∃y_:List Int,y_=((dF NI o9).set (0:Int).toNat o9):=⟨_,rfl⟩
      rw [←aPg] at H
      have a6A:=am aPg;clear aPg;obtain⟨bCA,aPh⟩: ∃y_:List (List Int),y_=(NI.set (o9:Int).toNat bCz):=⟨_,rfl⟩
      rw [←aPh] at H
      have a6B:=am aPh;clear aPh
      have H' :=am H
      clear H
      go_wp2_with (first|(refine gd 33 ?_;refine Kd.aBy (Kd.int .i64) _ 3 rfl (N:=33) rfl 81 _ _ rfl xY rfl rfl Tryz.underlying81 (.int .i64 0) 8 YI rfl (by decide) (by omega) 0 (ok:=fun _=>True) (mK:=fun _=>True) rfl (fun _ hk=>hk) trivial (dt) (Nat.le_trans (Nat.mul_le_mul_right _ (dt:xY.toNat≤35184372088832)) (by omega)) (Below.refl _ _) (Nat.le_refl _) ?_;intro aFi w23 yZ hb lL dP;clear lL dP;(rw [←a6z.out] at yZ);replace bY:=am (Kd.XJ aDR (Kd.jE yZ) hb);have aDC:=am (Kd.dZ yZ (aH gP));replace HB:=o8 hb;clear hb yZ;have p20:0≤(o9:Int):=dt;have q20:(o9:Int)<((jZ.length:Int):Int):=dt;obtain⟨aEB,aEe,aFU,a9w,bH9,bRd,a4j⟩:=Kd.aZj bY.out (by omega);(cases aFU);have bFg:=am a9w;have bQO:=am a4j;clear a9w bH9 a4j;obtain⟨_,bQ4,a9R,bIf,aXI,aXQ,_,_⟩:=Kd.aMf bY.out [] (o9:Int) p20 q20;obtain⟨bLy,rfl,bH5⟩:=bIf;have a1S:=aXI 0 _ rfl;have a1i:=aXQ 0;simp only [show((Kd.slice 3 (Kd.int .i64))).sz=1 from rfl,Nat.mul_one,Nat.add_zero] at a1S;simp only [show((Kd.slice 3 (Kd.int .i64))).sz=1 from rfl,Nat.mul_one,Nat.add_zero] at a1i;clear a9R aXI aXQ;replace p20:=eq_true p20;replace q20:=eq_true q20;have n_:=am (Kd.xW (ok' :=(fun k_=>some k_≠(aFi:Value).ownBlock)) bY.out (fun k_ hk=>hk.2));clear bY;have bY:=n_;clear n_;have bFE:=am (show Kd.S (Kd.slice 3 (Kd.int .i64)) 81 w23 w.heap.size (fun k_=>((fun _=>True)) k_∧ ¬((fun k_=>some k_=(aFi:Value).ownBlock)) k_) (.slice (some ⟨aEB,0,none⟩) jZ.length OQ) jZ from a8r);obtain⟨bQm,bQ5,a9S,bIg,aXJ,aXR,a1L,a9M⟩:=Kd.aMf bFE.out [] (o9:Int) (dt) a8o;obtain⟨bLz,rfl,bH6⟩:=bIg;have aRZ:=Kd.a7q a9M (dt) a8o (yS:=[aFi]) (j:=0) (show 1≤1 from by decide) (x' :=bCy) (Kd.aAG (Kd.bA (Kd.NZ rfl (Kd.bA (ok' :=fun k_=>((fun _=>True)) k_∧k_≠aEB) (Kd.BQ (aDC.out) (Kd.KF bY.out) (by decide)) (fun k_ hk=>⟨trivial,fun e_=>(hk.2) (by rw [e_];rfl)⟩))) (fun _ h_=>Or.inr (h_)))) (fun _ hk=>hk) (fun k_ rQ=>((Kd.bA (ok' :=fun k_=>((fun _=>True)) k_∧k_≠aEB) (Kd.BQ (aDC.out) (Kd.KF bY.out) (by decide)) (fun k_ hk=>⟨trivial,fun e_=>(hk.2) (by rw [e_];rfl)⟩))).1 k_ rQ.symm);have a1T:=aXJ 0 _ rfl;simp only [show((Kd.slice 3 (Kd.int .i64))).sz=1 from rfl,Nat.mul_one,Nat.add_zero] at a1T;have a1j:=aXR 0;simp only [show((Kd.slice 3 (Kd.int .i64))).sz=1 from rfl,Nat.mul_one,Nat.add_zero] at a1j;clear a9S aXJ aXR a1L a9M;simp only [show((Kd.slice 3 (Kd.int .i64))).sz=1 from rfl,Nat.mul_one,Nat.add_zero] at aRZ)|((with_reducible refine uG (t:=81) (p:=34) rfl ?_);have bIr:=(by obtain⟨A_,c_,e_⟩:=Kd.bS aDC.out;rw [e_];rfl:Value.cells aFi= #[aFi]);unfold Value.cells at bIr;have bRC:=(by obtain⟨A_,c_,e_⟩:=Kd.bS aDC.out;intro a_ w_ m_;rw [e_];exact run_store_slice _ _ _ _ _ _ _: ∀(a_:Addr) (w_:World) (m_:Mode),(store a_ aFi m_).run Tryz.prog w_=stored Tryz.prog w_ a_ aFi m_);refine rZ (t:=81) (p:=34) (v:=?bLG) (w1:=(w23.setCell ⟨aEB,(o9:Int).toNat,none⟩ (aFi))) ?hg ?ho ?hn ?hr ?_;(case ho=>rfl);(case hg=>rfl);(case hn=>rfl);(case hr=>(go_simp;done));intro w26 hw;have hg:w23.grownBy w26 (some aEB):=(by rw [hw];exact aRZ.2);have YH:Kd.S (Kd.slice 3 (Kd.int .i64)) 81 w26 w.heap.size (fun _=>True) (.slice (some ⟨aEB,0,none⟩) jZ.length OQ) NI:=(by rw [hw,aL5.out];exact aRZ.1);clear aRZ;replace bY:=am (YH);replace HB:=am ((by rw [hw];exact bO (HB.out) bFg.out:Below w.heap.size w w26));clear aDC;clear hg hw YH;have aUI:0≤(o9:Int):=dt;have aUT:o9<(NI.length:Int):=bFS;have bQs:((o9:Int)<((jZ.length:Int):Int))=True:=eq_true (dt);obtain⟨a7B,bEM,aZC,bGR,aCD,aIE,aIk⟩:=DU (Kd.iR bY.out).2.2 o9 aUI aUT;obtain rfl:(⟨aEB,0,none⟩:Addr)=a7B:=(by injection bGR);obtain⟨bON,a0Q,a0v,aNY⟩:=Kd.DR bY.out [] o9 aUI a8k;obtain⟨bEt,rfl,aBY⟩:=a0v;have O7:=aNY 0 _ rfl;rw [Nat.add_zero,show((Kd.slice 3 (Kd.int .i64))).sz=1 from rfl,Nat.mul_one] at O7;replace O7:=Option.some.inj (O7.symm.trans aCD);rw [O7] at aBY;have aBo:=am (show Kd.R (Kd.int .i64) 3 _ _ _ _ (dF NI o9)from aBY);clear O7 aBY;have aR6:=am aCD;clear aNY a0Q;(simp only [add_plain] at aCD);have bDb:=am aIk;have bCL:=am aIE;clear aIk aIE;replace aUI:=eq_true aUI;replace aUT:=eq_true aUT;have p22:0≤(0:Int):=(by omega);have q22:(0:Int)<(((dF NI o9).length:Int):Int):=dt;have bSO:(0<(dF NI o9).length)=True:=eq_true (by omega);obtain⟨CJ,FJ,aFV,aNM,a0q,bGn,aLL⟩:=Kd.F4 aBo.out (by omega);(cases aFV);have aYJ:=am aNM;have bFl:=am aLL;clear aNM a0q aLL;obtain⟨aGi,aOe⟩:=Kd.zM 0 aBo.out (0:Int) p22 q22;rw [show((0:Int)).toNat=0 from rfl] at aGi;rw [show((0:Int)).toNat=0 from rfl] at aOe;replace p22:=eq_true p22;replace q22:=eq_true q22;have bI8:(o9:Int)<(NI.length:Int):=bFO;obtain⟨bA2,bQ6,a9T,bIh,aXK,aYj,aXC⟩:=Kd.N8 bY.out [] (o9:Int) (dt) a8l;obtain⟨bLA,rfl,aBW⟩:=bIh;have hv27:=aXK 0 _ rfl;rw [Nat.add_zero,show((Kd.slice 3 (Kd.int .i64))).sz=1 from rfl,Nat.mul_one] at hv27;replace hv27:=Option.some.inj (hv27.symm.trans aR6.out);subst hv27;clear aXK a9T;replace aBW:=(show Kd.R (Kd.int .i64) 3 _ _ _ _ (dF NI o9)from aBW);have aY2:=Kd.MS aBW (0:Int) o9)|((with_reducible refine uG (t:=3) (p:=40) rfl ?_);refine rZ (t:=3) (p:=40) (v:=?bLH) (w1:=(w26.setCell ⟨CJ,0,none⟩ (.int .i64 o9))) ?hg ?ho ?hn ?hr ?_;(case ho=>rfl);(case hg=>rfl);(case hn=>rfl);(case hr=>(go_simp;done));intro w28 hw;have hg:w26.grownBy w28 (some CJ):=(by rw [hw];exact aY2.2);have hz_:Kd.R (Kd.int .i64) 3 w28 w.heap.size bA2 (.slice (some ⟨CJ,0,none⟩) (dF NI o9).length aZC) bCz:=(by rw [hw,a6A.out];exact aY2.1);have YH:Kd.S (Kd.slice 3 (Kd.int .i64)) 81 w28 w.heap.size (fun _=>True) (.slice (some ⟨aEB,0,none⟩) jZ.length OQ) bCA:=a8g;have hm_:=Kd.bA hz_ aYj;clear aY2 aXC;replace bY:=am (YH);replace HB:=am ((aMF:Below w.heap.size w w28));have bM3:=am (hm_);have bMW:=am ((Kd.aM hm_).2.1);clear aBo;clear hg hw YH hz_ hm_ aYj))
      simp only [←UK]
      go_roundg k2
      case measure=>have:=HJ2.out;have:=uP.out;omega
      case rel=>exact⟨(bCA),(wrap64 (o9+1)),sq,H',⟨by have:=HJ2.out;have:=uP.out;omega⟩,⟨aWJ⟩,⟨gP⟩⟩
     rw [if_neg c14] at H;have FD:=decide_eq_false c14
     have aNc:=FD
     simp only [UK] at aNc
     clear c14;replace H:=ip H;obtain⟨c29,H⟩:=H;have UD:=decide_eq_true c29
     have bNZ:=UD
     have aXl:decide (0<jZ.length)=true:=decide_eq_true (by omega)
     clear c29
     have H' :=am H
     clear H
     have aQI:0≤(0:Int):=(by omega)
     have aQQ:0<(jZ.length:Int):=dt
     obtain⟨zD,bEN,bF2,bGS,QT,aIF,aIl⟩:=DU (Kd.iR bY.out).2.2 0 aQI aQQ;cases bGS
     obtain⟨bOO,a0R,a0w,aNZ⟩:=Kd.DR bY.out [] 0 aQI (by exact aQQ)
     obtain⟨bEu,rfl,aBZ⟩:=a0w;have O8:=aNZ 0 _ rfl;rw [Nat.add_zero,show((Kd.slice 3 (Kd.int .i64))).sz=1 from rfl,Nat.mul_one] at O8;replace O8:=Option.some.inj (O8.symm.trans QT);rw [O8] at aBZ;have bC3:=am (show Kd.R (Kd.int .i64) 3 _ _ _ _ (dF jZ 0)from aBZ);clear O8 aBZ;have bDi:=am QT;clear aNZ a0R
     have bQn:(0<jZ.length)=True:=eq_true (by omega)
     rw [show((0:Int)).toNat=0 from rfl] at QT
     rw [Addr.add_zero'] at QT
     have bDc:=am aIl;have bCM:=am aIF;clear aIl aIF;replace aQI:=eq_true aQI;replace aQQ:=eq_true aQQ;go_wp2
     go_loopg [46] k2 (fun kq v46 w' => ∃(CX:List (List Int)) (EF:Int),v46= .int .i64 EF∧aC (bU.l1 kq a0 a1 CX ((dF jZ 0).length:Int) EF=some r)∧aC (kq≤k2)∧aC (Kd.S (Kd.slice 3 (Kd.int .i64)) 81 w' w.heap.size (fun _=>True) (.slice (some zD) jZ.length OQ) CX)∧aC (Below w.heap.size w w'))
     case atStart=>exact⟨(jZ),(0),sq,H',⟨Nat.le_refl _⟩,⟨aWJ⟩,⟨gP⟩⟩
     case round=>
      clear H';clear FD UD aXl QT aQI aQQ;obtain⟨CX,EF,rfl,HA,DJ,bY,HB⟩:=hrel;have aEJ:=(Kd.iR bY.out).1;rw [aEJ] at bY
      simp only [aEJ]
      cases gk with
      |zero=>exact absurd HA.out (by simp [bU.l1])
      |succ k3=>
       have H:=HA.out;clear HA;simp only [bU.l1] at H
       by_cases c30:EF<((dF jZ 0).length:Int)
       ·rw [if_pos c30] at H;have JE:=decide_eq_true c30
        have a8G:=JE
        clear c30;replace H:=ip H;obtain⟨c31,H⟩:=H;have UE:=decide_eq_true c31
        have bN0:=UE
        have aNf:decide (0<CX.length)=true:=decide_eq_true (by omega)
        clear c31;replace H:=it H;obtain⟨OM,H⟩:=H;replace H:=ip H;obtain⟨c33,H⟩:=H;have OO:=decide_eq_true c33
        have bN1:=OO
        clear c33;obtain⟨bCB,aPi⟩: ∃y_:List Int,y_=((dF CX 0).set (EF:Int).toNat EF):=⟨_,rfl⟩
        rw [←aPi] at H
        have a6C:=am aPi;clear aPi;obtain⟨bCC,aPj⟩: ∃y_:List (List Int),y_=(CX.set (0:Int).toNat bCB):=⟨_,rfl⟩
        rw [←aPj] at H
        have a6D:=am aPj;clear aPj
        have H' :=am H
        clear H
        have aUJ:0≤(0:Int):=(by omega)
        have aUU:0<(CX.length:Int):=dt
        obtain⟨a7C,bEO,aZD,bGT,VY,aIG,aIm⟩:=DU (Kd.iR bY.out).2.2 0 aUJ aUU
        obtain rfl:zD=a7C:=(by injection bGT)
        obtain⟨bOP,a0S,a0x,aN0⟩:=Kd.DR bY.out [] 0 aUJ (by exact aUU)
        obtain⟨bEv,rfl,aB0⟩:=a0x;have O9:=aN0 0 _ rfl;rw [Nat.add_zero,show((Kd.slice 3 (Kd.int .i64))).sz=1 from rfl,Nat.mul_one] at O9;replace O9:=Option.some.inj (O9.symm.trans VY);rw [O9] at aB0;have aBp:=am (show Kd.R (Kd.int .i64) 3 _ _ _ _ (dF CX 0)from aB0);clear O9 aB0;have aR7:=am VY;clear aN0 a0S
        have bQo:(0<CX.length)=True:=eq_true (by omega)
        rw [show((0:Int)).toNat=0 from rfl] at VY
        rw [Addr.add_zero'] at VY
        have bDd:=am aIm;have bCN:=am aIG;clear aIm aIG;replace aUJ:=eq_true aUJ;replace aUU:=eq_true aUU
        have p34:0≤(EF:Int):=dt
        have q34:(EF:Int)<(((dF CX 0).length:Int):Int):=dt
        obtain⟨a0s,a9p,a0i,a9y,bIb,bRf,a4l⟩:=Kd.F4 aBp.out (by omega)
        (cases a0i)
        have bFi:=am a9y;have bQP:=am a4l;clear a9y bIb a4l;obtain⟨bJl,bIz⟩:=Kd.zM 0 aBp.out (EF:Int) p34 q34;replace p34:=eq_true p34;replace q34:=eq_true q34
        have bI9:(0:Int)<(CX.length:Int):=bFP
        obtain⟨bA3,bQ7,a9U,bIi,aXL,aYk,aXD⟩:=Kd.N8 bY.out [] (0:Int) (by omega) bI9
        obtain⟨bLB,rfl,aBX⟩:=bIi;have aTB:=aXL 0 _ rfl;rw [Nat.add_zero,show((Kd.slice 3 (Kd.int .i64))).sz=1 from rfl,Nat.mul_one] at aTB;replace aTB:=Option.some.inj (aTB.symm.trans aR7.out);subst aTB;clear aXL a9U;replace aBX:=(show Kd.R (Kd.int .i64) 3 _ _ _ _ (dF CX 0)from aBX);have aY5:=Kd.MS aBX (EF:Int) EF
        go_wp2_with ((with_reducible refine uG (t:=3) (p:=54) rfl ?_);refine rZ (t:=3) (p:=54) (v:=?bLJ) (w1:=(wr.setCell ⟨a0s,(EF:Int).toNat,none⟩ (.int .i64 EF))) ?hg ?ho ?hn ?hr ?_;(case ho=>rfl);(case hg=>rfl);(case hn=>rfl);(case hr=>(go_simp;done));intro RY hw;have hg:wr.grownBy RY (some a0s):=(by rw [hw];exact aY5.2);have hz_:Kd.R (Kd.int .i64) 3 RY w.heap.size bA3 (.slice (some ⟨a0s,0,none⟩) (dF CX 0).length aZD) bCB:=(by rw [hw,a6C.out];exact aY5.1);have YH:Kd.S (Kd.slice 3 (Kd.int .i64)) 81 RY w.heap.size (fun _=>True) (.slice (some zD) CX.length OQ) bCC:=a8h;have hm_:=Kd.bA hz_ aYk;clear aY5 aXD;replace bY:=am (YH);replace HB:=am ((by rw [hw];exact bO (HB.out) bFi.out:Below w.heap.size w RY));have bM4:=am (hm_);have bMX:=am ((Kd.aM hm_).2.1);clear aBp;clear hg hw YH hz_ hm_ aYk)
        simp only [←aEJ]
        go_roundg k3
        case measure=>have:=HJ2.out;have:=uP.out;have:=DJ.out;omega
        case rel=>exact⟨(bCC),(wrap64 (EF+1)),sq,H',⟨by have:=HJ2.out;have:=uP.out;have:=DJ.out;omega⟩,⟨aWG⟩,⟨gP⟩⟩
       rw [if_neg c30] at H;have JE:=decide_eq_false c30
       have a8G:=JE
       clear c30
       have H' :=am H
       clear H;go_wp2
       go_loopg [8] k3 (fun kq v8 w' => ∃(yB:List (List Int)) (oM:Int),v8= .int .i64 oM∧aC (bU.l2 kq a0 a1 yB oM=some r)∧aC (kq≤k3)∧aC (Kd.S (Kd.slice 3 (Kd.int .i64)) 81 w' w.heap.size (fun _=>True) (.slice (some zD) CX.length OQ) yB)∧aC (Below w.heap.size w w'))
       case atStart=>exact⟨(CX),(1),sq,H',⟨Nat.le_refl _⟩,⟨aWG⟩,⟨gP⟩⟩
       case round=>
        clear H';clear JE;obtain⟨yB,oM,rfl,HA,NP,bY,HB⟩:=hrel;have aIO:=(Kd.iR bY.out).1;rw [aIO] at bY
        simp only [aIO]
        cases gk with
        |zero=>exact absurd HA.out (by simp [bU.l2])
        |succ k4=>
         have H:=HA.out;clear HA;simp only [bU.l2] at H
         replace H:=iv H;rcases H with ⟨aXo,H⟩|⟨aXo,H⟩
         ·have H' :=am H
          clear H;go_wp2
          go_loopg [9] k4 (fun kq v9 w' => ∃(nI:List (List Int)) (wF:Int),v9= .int .i64 wF∧aC (bU.l3 kq a0 a1 nI oM wF=some r)∧aC (kq≤k4)∧aC (Kd.S (Kd.slice 3 (Kd.int .i64)) 81 w' w.heap.size (fun _=>True) (.slice (some zD) yB.length OQ) nI)∧aC (Below w.heap.size w w'))
          case atStart=>exact⟨(yB),(1),sq,H',⟨Nat.le_refl _⟩,⟨by(with_reducible repeat(fail));exact bY.out⟩,⟨gP⟩⟩
          case round=>
           clear H';clear aXo;obtain⟨nI,wF,rfl,HA,HK5,bY,HB⟩:=hrel;have aA3:=(Kd.iR bY.out).1;rw [aA3] at bY
           simp only [aA3]
           cases gk with
           |zero=>exact absurd HA.out (by simp [bU.l3])
           |succ k5=>
            have H:=HA.out;clear HA;simp only [bU.l3] at H
            replace H:=iv H;rcases H with ⟨aXp,H⟩|⟨aXp,H⟩
            ·obtain⟨FR,aX4⟩: ∃j_:Int,(wrap64 (oM-1))=j_:=⟨_,rfl⟩
             rw [aX4] at H
             have a1x:(IntKind.i64.wrap (oM-1))=FR:=(iZ _).trans aX4
             replace H:=it H;obtain⟨aD6,H⟩:=H;replace H:=ip H;obtain⟨c41,H⟩:=H;have ME:=decide_eq_true c41
             have bN3:=ME
             clear c41;obtain⟨wS,aEF⟩: ∃j_:Int,(wrap64 (wF-1))=j_:=⟨_,rfl⟩
             rw [aEF] at H
             have aOl:(IntKind.i64.wrap (wF-1))=wS:=(iZ _).trans aEF
             replace H:=it H;obtain⟨aNh,H⟩:=H;replace H:=ip H;obtain⟨c44,H⟩:=H;have aD7:=decide_eq_true c44
             have bN6:=aD7
             clear c44;replace H:=it H;obtain⟨aAS,H⟩:=H;replace H:=it H;obtain⟨aXq,H⟩:=H;have aYU:=am H;clear H
             have aQJ:0≤((FR):Int):=dt
             have aQS:(FR)<(nI.length:Int):=dt
             obtain⟨a7E,bEQ,bF4,bGW,aCF,aII,aIo⟩:=DU (Kd.iR bY.out).2.2 (FR) aQJ aQS
             obtain rfl:zD=a7E:=(by injection bGW)
             obtain⟨bOR,a0U,a0z,aN3⟩:=Kd.DR bY.out [] (FR) aQJ (by exact aQS)
             obtain⟨bEx,rfl,aB2⟩:=a0z;have PE:=aN3 0 _ rfl;rw [Nat.add_zero,show((Kd.slice 3 (Kd.int .i64))).sz=1 from rfl,Nat.mul_one] at PE;replace PE:=Option.some.inj (PE.symm.trans aCF);rw [PE] at aB2;have bC5:=am (show Kd.R (Kd.int .i64) 3 _ _ _ _ (dF nI (FR))from aB2);clear PE aB2;have bDk:=am aCF;clear aN3 a0U;have VP:=am aIo;have bCP:=am aII;clear aIo aII;replace aQJ:=eq_true aQJ;replace aQS:=eq_true aQS
             obtain⟨aWu,bGX,aTP,bJR,bKB⟩:=XQ aFy (wS);cases bGX
             have p46:0≤((FR):Int):=dt
             have q46:(FR)<(a0.size:Int):=dt
             have bJn:=kL a0 (FR);replace p46:=eq_true p46;replace q46:=eq_true q46
             have p48:0≤((wS):Int):=dt
             have q48:(wS)<(a1.size:Int):=dt
             have bJp:=kL a1 (wS);replace p48:=eq_true p48;replace q48:=eq_true q48
             go_upto_if 85 with (fail)
             repeat(go_quiet (fail);go_upto_if 85 with (fail))
             go_cut [10] (fun v10 wc=> ∃(kq:Nat) (TQ:Int),v10= .int .i64 TQ∧aC (bU.j5 kq a0 a1 nI oM wF TQ=some r)∧aC (kq≤k5)∧aC (Kd.S (Kd.slice 3 (Kd.int .i64)) 81 wc w.heap.size (fun _=>True) (.slice (some zD) nI.length OQ) nI)∧aC (Kd.C (Kd.int .i64) wc (some aWu) (dF nI (FR)).length (dF nI (FR)))∧aC (Below w.heap.size w wc))
             case first=>
              have H:=aYU.out;clear aYU
              by_cases ZM:(bt a0 (FR))=(bt a1 (wS))
              ·rw [if_pos ZM] at H
               have H7:((bt a0 (FR))==(bt a1 (wS)))=true:=beq_iff_eq.mpr ZM
               have aNi:((bt a0 (FR)) !=(bt a1 (wS)))=false:=bne_eq_false_iff_eq.mpr ZM
               clear ZM
               (skip)
               have H' :=am H
               clear H;go_wp2
               go_meet
               case rel=>exact⟨_,(rd (dF nI (FR)) (wS)),(by rfl),H',⟨by have:=HJ2.out;have:=uP.out;have:=DJ.out;have:=NP.out;have:=HK5.out;omega⟩,⟨aBF⟩,⟨aFy⟩,⟨gP⟩⟩
              rw [if_neg ZM] at H
              have H7:((bt a0 (FR))==(bt a1 (wS)))=false:=beq_eq_false_iff_ne.mpr ZM
              have aNi:((bt a0 (FR)) !=(bt a1 (wS)))=true:=bne_iff_ne.mpr ZM
              (skip)
              have H' :=am H
              clear H;go_wp2
              go_meet
              case rel=>exact⟨_,(wrap64 ((rd (dF nI (FR)) (wS))+1)),(by rfl),H',⟨by have:=HJ2.out;have:=uP.out;have:=DJ.out;have:=NP.out;have:=HK5.out;omega⟩,⟨aBF⟩,⟨aFy⟩,⟨gP⟩⟩
             case rest=>
              clear aYU;clear aXp aD6 ME aNh aD7 aAS p46 q46 bJn aXq p48 q48 bJp aCF aTP aQJ bJR aQS bKB;obtain⟨kq,TQ,rfl,HA,aRV,bY,VP,HB⟩:=hcut
              cases kq with
              |zero=>exact absurd HA.out (by simp [bU.j5])
              |succ bJy=>
               have H:=HA.out;clear HA;simp only [bU.j5] at H
               obtain⟨DF,aX6⟩: ∃j_:Int,(wrap64 (oM-1))=j_:=⟨_,rfl⟩
               rw [aX6] at H
               have bIU:(IntKind.i64.wrap (oM-1))=DF:=(iZ _).trans aX6
               clear a1x;replace H:=it H;obtain⟨aAT,H⟩:=H;replace H:=ip H;obtain⟨c53,H⟩:=H;have aD8:=decide_eq_true c53
               have bOc:=aD8
               clear c53;replace H:=it H;obtain⟨aXs,H⟩:=H;replace H:=ip H;obtain⟨c55,H⟩:=H;have aXt:=decide_eq_true c55
               have bOe:=aXt
               clear c55;replace H:=it H;obtain⟨aXu,H⟩:=H;replace H:=ip H;obtain⟨c57,H⟩:=H;have aAU:=decide_eq_true c57
               have bOg:=aAU
               clear c57;obtain⟨aCX,aX8⟩: ∃j_:Int,(wrap64 (wF-1))=j_:=⟨_,rfl⟩
               rw [aX8] at H
               have bIX:(IntKind.i64.wrap (wF-1))=aCX:=(iZ _).trans aX8
               clear aOl;replace H:=it H;obtain⟨aD9,H⟩:=H;replace H:=ip H;obtain⟨c60,H⟩:=H;have aEa:=decide_eq_true c60
               have bOi:=aEa
               clear c60;obtain⟨aUi,aYa⟩: ∃j_:Int,(mn TQ (wrap64 ((rd (dF nI (DF)) wF)+1)))=j_:=⟨_,rfl⟩
               rw [aYa] at H
               have bIZ:(if(wrap64 ((rd (dF nI (DF)) wF)+1))<TQ then(wrap64 ((rd (dF nI (DF)) wF)+1))else TQ)=aUi:=aYa
               obtain⟨U9,aEH⟩: ∃j_:Int,(mn (aUi) (wrap64 ((rd (dF nI oM) (aCX))+1)))=j_:=⟨_,rfl⟩
               rw [aEH] at H
               have a1z:(if(wrap64 ((rd (dF nI oM) (aCX))+1))<(aUi)then(wrap64 ((rd (dF nI oM) (aCX))+1))else(aUi))=U9:=aEH
               have aYV:=am H;clear H
               have aQK:0≤((DF):Int):=dt
               have aQT:(DF)<(nI.length:Int):=dt
               obtain⟨a7F,bER,bF5,bGY,aCG,aIJ,aIp⟩:=DU (Kd.iR bY.out).2.2 (DF) aQK aQT
               obtain rfl:zD=a7F:=(by injection bGY)
               obtain⟨bOS,a0V,a0A,aN4⟩:=Kd.DR bY.out [] (DF) aQK (by exact aQT)
               obtain⟨bEy,rfl,aB3⟩:=a0A;have PG:=aN4 0 _ rfl;rw [Nat.add_zero,show((Kd.slice 3 (Kd.int .i64))).sz=1 from rfl,Nat.mul_one] at PG;replace PG:=Option.some.inj (PG.symm.trans aCG);rw [PG] at aB3;have bC6:=am (show Kd.R (Kd.int .i64) 3 _ _ _ _ (dF nI (DF))from aB3);clear PG aB3;have bDl:=am aCG;clear aN4 a0V;have aBs:=am aIp;have bCQ:=am aIJ;clear aIp aIJ;replace aQK:=eq_true aQK;replace aQT:=eq_true aQT
               obtain⟨a7G,bGZ,aTQ,bJS,bKC⟩:=XQ aMR wF;cases bGZ
               have aQL:0≤(oM:Int):=dt
               have aQU:oM<(nI.length:Int):=dt
               obtain⟨a7H,bES,bF6,bG0,aCH,aIK,aIq⟩:=DU (Kd.iR bY.out).2.2 oM aQL aQU
               obtain rfl:zD=a7H:=(by injection bG0)
               obtain⟨bOT,a0W,a0B,aN5⟩:=Kd.DR bY.out [] oM aQL (by exact aQU)
               obtain⟨bEz,rfl,aB4⟩:=a0B;have PH:=aN5 0 _ rfl;rw [Nat.add_zero,show((Kd.slice 3 (Kd.int .i64))).sz=1 from rfl,Nat.mul_one] at PH;replace PH:=Option.some.inj (PH.symm.trans aCH);rw [PH] at aB4;have bC7:=am (show Kd.R (Kd.int .i64) 3 _ _ _ _ (dF nI oM)from aB4);clear PH aB4;have bDm:=am aCH;clear aN5 a0W;have aBt:=am aIq;have bCR:=am aIK;clear aIq aIK;replace aQL:=eq_true aQL;replace aQU:=eq_true aQU
               obtain⟨a7I,bG1,aTR,bJT,bKD⟩:=XQ aMS (aCX);cases bG1
               go_upto_region 25 with (fail)
               repeat(go_quiet (fail);go_upto_region 25 with (fail))
               go_cut [135] (fun bLk wc=> ∃(kq:Nat) (aDj:Bool),bLk= .bool aDj∧aC (bU.j6 kq a0 a1 nI oM wF U9 aDj=some r)∧aC (kq≤bJy)∧aC (Kd.S (Kd.slice 3 (Kd.int .i64)) 81 wc w.heap.size (fun _=>True) (.slice (some zD) nI.length OQ) nI)∧aC (Kd.C (Kd.int .i64) wc (some aWu) (dF nI (FR)).length (dF nI (FR)))∧aC (Kd.C (Kd.int .i64) wc (some a7G) (dF nI (DF)).length (dF nI (DF)))∧aC (Kd.C (Kd.int .i64) wc (some a7I) (dF nI oM).length (dF nI oM))∧aC (Below w.heap.size w wc))
               case first=>
                have H:=aYV.out;clear aYV
                replace H:=iv H;rcases H with ⟨a9e,H⟩|⟨a9e,H⟩
                ·(skip)
                 replace H:=iv H;rcases H with ⟨aXv,H⟩|⟨aXv,H⟩
                 ·replace H:=it H;obtain⟨a9f,H⟩:=H;obtain⟨VA,aYb⟩: ∃j_:Int,(wrap64 (wF-2))=j_:=⟨_,rfl⟩
                  rw [aYb] at H
                  have bI1:(IntKind.i64.wrap (wF-2))=VA:=(iZ _).trans aYb
                  replace H:=it H;obtain⟨bOt,H⟩:=H;replace H:=it H;obtain⟨aXx,H⟩:=H
                  by_cases c72:(bt a0 (DF))=(bt a1 (VA))
                  ·rw [if_pos c72] at H
                   have aXy:((bt a0 (DF))==(bt a1 (VA)))=true:=beq_iff_eq.mpr c72
                   have aXz:((bt a0 (DF)) !=(bt a1 (VA)))=false:=bne_eq_false_iff_eq.mpr c72
                   clear c72;obtain⟨aP9,aYc⟩: ∃j_:Int,(wrap64 (oM-2))=j_:=⟨_,rfl⟩
                   rw [aYc] at H
                   have bI2:(IntKind.i64.wrap (oM-2))=aP9:=(iZ _).trans aYc
                   replace H:=it H;obtain⟨bOy,H⟩:=H;replace H:=it H;obtain⟨bOz,H⟩:=H;replace H:=it H;obtain⟨bOA,H⟩:=H
                   have H' :=am H
                   clear H
                   have p67:0≤((DF):Int):=dt
                   have q67:(DF)<(a0.size:Int):=dt
                   have bJq:=kL a0 (DF);replace p67:=eq_true p67;replace q67:=eq_true q67
                   have p71:0≤((VA):Int):=dt
                   have q71:(VA)<(a1.size:Int):=dt
                   have bJr:=kL a1 (VA);replace p71:=eq_true p71;replace q71:=eq_true q71
                   have p76:0≤((aP9):Int):=dt
                   have q76:(aP9)<(a0.size:Int):=dt
                   have bRI:=kL a0 (aP9);replace p76:=eq_true p76;replace q76:=eq_true q76
                   have p78:0≤((aCX):Int):=dt
                   have q78:(aCX)<(a1.size:Int):=dt
                   have bRJ:=kL a1 (aCX);replace p78:=eq_true p78;replace q78:=eq_true q78;go_wp2
                   repeat(go_quiet (fail);try go_wp2)
                   go_meet
                   case rel=>exact⟨_,(((bt a0 (aP9))==(bt a1 (aCX)))),(by rfl),H',⟨aSt⟩,⟨aBF⟩,⟨aFy⟩,⟨aMR⟩,⟨aMS⟩,⟨gP⟩⟩
                  rw [if_neg c72] at H
                  have aXy:((bt a0 (DF))==(bt a1 (VA)))=false:=beq_eq_false_iff_ne.mpr c72
                  have aXz:((bt a0 (DF)) !=(bt a1 (VA)))=true:=bne_iff_ne.mpr c72
                  have H' :=am H
                  clear H
                  have p67:0≤((DF):Int):=dt
                  have q67:(DF)<(a0.size:Int):=dt
                  have bJq:=kL a0 (DF);replace p67:=eq_true p67;replace q67:=eq_true q67
                  have p71:0≤((VA):Int):=dt
                  have q71:(VA)<(a1.size:Int):=dt
                  have bJr:=kL a1 (VA);replace p71:=eq_true p71;replace q71:=eq_true q71;go_wp2
                  repeat(go_quiet (fail);try go_wp2)
                  go_meet
                  case rel=>exact⟨_,(false),sq,H',⟨aSt⟩,⟨aBF⟩,⟨aFy⟩,⟨aMR⟩,⟨aMS⟩,⟨gP⟩⟩
                 have H' :=am H
                 clear H;go_wp2
                 repeat(go_quiet (fail);try go_wp2)
                 go_meet
                 case rel=>exact⟨_,(false),sq,H',⟨aSt⟩,⟨aBF⟩,⟨aFy⟩,⟨aMR⟩,⟨aMS⟩,⟨gP⟩⟩
                (skip)
                have H' :=am H
                clear H;go_wp2
                repeat(go_quiet (fail);try go_wp2)
                go_meet
                case rel=>exact⟨_,(false),sq,H',⟨aSt⟩,⟨aBF⟩,⟨aFy⟩,⟨aMR⟩,⟨aMS⟩,⟨gP⟩⟩
               case rest=>
                clear aYV;clear aAT aD8 aXs aXt aXu aAU aD9 aEa aCG aTQ aCH aTR aQK bJS aQL bJT aQT bKC aQU bKD;obtain⟨kq,aDj,rfl,HA,aYX,bY,VP,aBs,aBt,HB⟩:=hcut
                cases kq with
                |zero=>exact absurd HA.out (by simp [bU.j6])
                |succ bA0=>
                 have H:=HA.out;clear HA;simp only [bU.j6] at H
                 replace H:=ib H;rcases H with ⟨rfl,H⟩|⟨rfl,H⟩
                 ·obtain⟨aCY,aYd⟩: ∃j_:Int,(wrap64 (oM-2))=j_:=⟨_,rfl⟩
                  rw [aYd] at H
                  have bI3:(IntKind.i64.wrap (oM-2))=aCY:=(iZ _).trans aYd
                  replace H:=it H;obtain⟨bOB,H⟩:=H;replace H:=ip H;obtain⟨c82,H⟩:=H;have a9h:=decide_eq_true c82
                  have bOC:=a9h
                  clear c82;obtain⟨aQa,aYe⟩: ∃j_:Int,(wrap64 (wF-2))=j_:=⟨_,rfl⟩
                  rw [aYe] at H
                  have bI4:(IntKind.i64.wrap (wF-2))=aQa:=(iZ _).trans aYe
                  replace H:=it H;obtain⟨bOD,H⟩:=H;replace H:=ip H;obtain⟨c85,H⟩:=H;have a9i:=decide_eq_true c85
                  have bOE:=a9i
                  clear c85;obtain⟨aUj,aYf⟩: ∃j_:Int,(mn U9 (wrap64 ((rd (dF nI (aCY)) (aQa))+1)))=j_:=⟨_,rfl⟩
                  rw [aYf] at H
                  have bI5:(if(wrap64 ((rd (dF nI (aCY)) (aQa))+1))<U9 then(wrap64 ((rd (dF nI (aCY)) (aQa))+1))else U9)=aUj:=aYf
                  replace H:=it H;obtain⟨bOF,H⟩:=H;replace H:=ip H;obtain⟨c88,H⟩:=H;have a9j:=decide_eq_true c88
                  have bOG:=a9j
                  clear c88;replace H:=it H;obtain⟨bOH,H⟩:=H;replace H:=ip H;obtain⟨c90,H⟩:=H;have a9l:=decide_eq_true c90
                  have bOI:=a9l
                  clear c90;obtain⟨bCD,aPk⟩: ∃y_:List Int,y_=((dF nI oM).set (wF:Int).toNat (aUj)):=⟨_,rfl⟩
                  rw [←aPk] at H
                  have a6E:=am aPk;clear aPk;obtain⟨bCE,aPl⟩: ∃y_:List (List Int),y_=(nI.set (oM:Int).toNat bCD):=⟨_,rfl⟩
                  rw [←aPl] at H
                  have a6F:=am aPl;clear aPl
                  have H' :=am H
                  clear H
                  have aUL:0≤((aCY):Int):=dt
                  have aUV:(aCY)<(nI.length:Int):=dt
                  obtain⟨a7J,bET,bF7,bG2,aJp,aIL,aIr⟩:=DU (Kd.iR bY.out).2.2 (aCY) aUL aUV
                  obtain rfl:zD=a7J:=(by injection bG2)
                  obtain⟨bOU,a0X,a0C,aN6⟩:=Kd.DR bY.out [] (aCY) aUL (by exact aUV)
                  obtain⟨bEA,rfl,aB5⟩:=a0C;have PI:=aN6 0 _ rfl;rw [Nat.add_zero,show((Kd.slice 3 (Kd.int .i64))).sz=1 from rfl,Nat.mul_one] at PI;replace PI:=Option.some.inj (PI.symm.trans aJp);rw [PI] at aB5;have aRW:=am (show Kd.R (Kd.int .i64) 3 _ _ _ _ (dF nI (aCY))from aB5);clear PI aB5;have bDn:=am aJp;clear aN6 a0X;have aR1:=am aIr;have bCS:=am aIL;clear aIr aIL;replace aUL:=eq_true aUL;replace aUV:=eq_true aUV
                  obtain⟨bNi,bG3,bD9,bR7,bSz⟩:=XQ (by repeat(with_reducible exact aR1.out)) (aQa)
                  cases bG3
                  have aUM:0≤(oM:Int):=dt
                  have aUW:oM<(nI.length:Int):=dt
                  obtain⟨a7K,bEU,aZE,bG4,aJq,aIM,aIs⟩:=DU (Kd.iR bY.out).2.2 oM aUM aUW
                  obtain rfl:zD=a7K:=(by injection bG4)
                  obtain⟨bOV,a0Y,a0D,aN7⟩:=Kd.DR bY.out [] oM aUM (by exact aUW)
                  obtain⟨bEB,rfl,aB6⟩:=a0D;have PK:=aN7 0 _ rfl;rw [Nat.add_zero,show((Kd.slice 3 (Kd.int .i64))).sz=1 from rfl,Nat.mul_one] at PK;replace PK:=Option.some.inj (PK.symm.trans aJq);rw [PK] at aB6;have aBq:=am (show Kd.R (Kd.int .i64) 3 _ _ _ _ (dF nI oM)from aB6);clear PK aB6;have aR8:=am aJq;clear aN7 a0Y;have bDe:=am aIs;have bCT:=am aIM;clear aIs aIM;replace aUM:=eq_true aUM;replace aUW:=eq_true aUW
                  have p91:0≤(wF:Int):=dt
                  have q91:(wF:Int)<(((dF nI oM).length:Int):Int):=dt
                  obtain⟨a0t,bRw,bHY,a9A,bId,bRh,a4n⟩:=Kd.F4 aBq.out (by omega)
                  (cases bHY)
                  have bFj:=am a9A;have bQQ:=am a4n;clear a9A bId a4n;obtain⟨bJs,bIA⟩:=Kd.zM 0 aBq.out (wF:Int) p91 q91;replace p91:=eq_true p91;replace q91:=eq_true q91
                  have bJa:(oM:Int)<(nI.length:Int):=a8q
                  obtain⟨bA4,bRa,a9W,bIj,aXN,aYl,aXE⟩:=Kd.N8 bY.out [] (oM:Int) (dt) bJa;obtain⟨bLC,rfl,aCc⟩:=bIj;have aTC:=aXN 0 _ rfl;rw [Nat.add_zero,show((Kd.slice 3 (Kd.int .i64))).sz=1 from rfl,Nat.mul_one] at aTC;replace aTC:=Option.some.inj (aTC.symm.trans aR8.out);subst aTC;clear aXN a9W;replace aCc:=(show Kd.R (Kd.int .i64) 3 _ _ _ _ (dF nI oM)from aCc);have aY8:=Kd.MS aCc (wF:Int) aUj
                  go_wp2_with ((with_reducible refine uG (t:=3) (p:=154) rfl ?_);refine rZ (t:=3) (p:=154) (v:=?bLK) (w1:=(wc.setCell ⟨a0t,(wF:Int).toNat,none⟩ (.int .i64 aUj))) ?hg ?ho ?hn ?hr ?_;(case ho=>rfl);(case hg=>rfl);(case hn=>rfl);(case hr=>(go_simp;done));intro w93 hw;have hg:wc.grownBy w93 (some a0t):=(by rw [hw];exact aY8.2);have hz_:Kd.R (Kd.int .i64) 3 w93 w.heap.size bA4 (.slice (some ⟨a0t,0,none⟩) (dF nI oM).length aZE) bCD:=(by rw [hw,a6E.out];exact aY8.1);have YH:Kd.S (Kd.slice 3 (Kd.int .i64)) 81 w93 w.heap.size (fun _=>True) (.slice (some zD) nI.length OQ) bCE:=a8i;have hm_:=Kd.bA hz_ aYl;clear aY8 aXE;replace bY:=am (YH);replace HB:=am ((by rw [hw];exact bO (HB.out) bFj.out:Below w.heap.size w w93));have bM5:=am (hm_);have bMY:=am ((Kd.aM hm_).2.1);clear aRW aBq;clear hg hw YH hz_ hm_ aYl)
                  simp only [←aA3]
                  go_roundg bA0
                  case measure=>have:=HJ2.out;have:=uP.out;have:=DJ.out;have:=NP.out;have:=HK5.out;have:=aRV.out;have:=aYX.out;omega
                  case rel=>exact⟨(bCE),(wrap64 (wF+1)),sq,H',⟨aWK⟩,⟨aBF⟩,⟨gP⟩⟩
                 replace H:=it H;obtain⟨bOJ,H⟩:=H;replace H:=ip H;obtain⟨c95,H⟩:=H;have a9m:=decide_eq_true c95
                 have bOK:=a9m
                 clear c95;replace H:=it H;obtain⟨bOL,H⟩:=H;replace H:=ip H;obtain⟨c97,H⟩:=H;have a9n:=decide_eq_true c97
                 have bOM:=a9n
                 clear c97;obtain⟨bCF,aPm⟩: ∃y_:List Int,y_=((dF nI oM).set (wF:Int).toNat U9):=⟨_,rfl⟩
                 rw [←aPm] at H
                 have a6G:=am aPm;clear aPm;obtain⟨bCG,aPn⟩: ∃y_:List (List Int),y_=(nI.set (oM:Int).toNat bCF):=⟨_,rfl⟩
                 rw [←aPn] at H
                 have a6H:=am aPn;clear aPn
                 have H' :=am H
                 clear H
                 have aUN:0≤(oM:Int):=dt
                 have aUX:oM<(nI.length:Int):=dt
                 obtain⟨a7L,bEV,aZF,bG5,aJr,aIN,aIt⟩:=DU (Kd.iR bY.out).2.2 oM aUN aUX
                 obtain rfl:zD=a7L:=(by injection bG5)
                 obtain⟨bOW,a0Z,a0E,aN8⟩:=Kd.DR bY.out [] oM aUN (by exact aUX)
                 obtain⟨bEC,rfl,aB7⟩:=a0E;have PL:=aN8 0 _ rfl;rw [Nat.add_zero,show((Kd.slice 3 (Kd.int .i64))).sz=1 from rfl,Nat.mul_one] at PL;replace PL:=Option.some.inj (PL.symm.trans aJr);rw [PL] at aB7;have aBr:=am (show Kd.R (Kd.int .i64) 3 _ _ _ _ (dF nI oM)from aB7);clear PL aB7;have aR9:=am aJr;clear aN8 a0Z;have bDf:=am aIt;have bCU:=am aIN;clear aIt aIN;replace aUN:=eq_true aUN;replace aUX:=eq_true aUX
                 have p98:0≤(wF:Int):=dt
                 have q98:(wF:Int)<(((dF nI oM).length:Int):Int):=dt
                 obtain⟨a0u,bRx,bH0,a9B,bIe,bRi,a4o⟩:=Kd.F4 aBr.out (by omega)
                 (cases bH0)
                 have bFk:=am a9B;have bQR:=am a4o;clear a9B bIe a4o;obtain⟨bJt,bIB⟩:=Kd.zM 0 aBr.out (wF:Int) p98 q98;replace p98:=eq_true p98;replace q98:=eq_true q98
                 have bJb:(oM:Int)<(nI.length:Int):=a8q
                 obtain⟨bA5,bRb,a9X,bIk,aXO,aYm,aXF⟩:=Kd.N8 bY.out [] (oM:Int) (dt) bJb;obtain⟨bLD,rfl,aCd⟩:=bIk;have hv99:=aXO 0 _ rfl;rw [Nat.add_zero,show((Kd.slice 3 (Kd.int .i64))).sz=1 from rfl,Nat.mul_one] at hv99;replace hv99:=Option.some.inj (hv99.symm.trans aR9.out);subst hv99;clear aXO a9X;replace aCd:=(show Kd.R (Kd.int .i64) 3 _ _ _ _ (dF nI oM)from aCd);have aY9:=Kd.MS aCd (wF:Int) U9
                 go_wp2_with ((with_reducible refine uG (t:=3) (p:=154) rfl ?_);refine rZ (t:=3) (p:=154) (v:=?bEH) (w1:=(wc.setCell ⟨a0u,(wF:Int).toNat,none⟩ (.int .i64 U9))) ?hg ?ho ?hn ?hr ?_;(case ho=>rfl);(case hg=>rfl);(case hn=>rfl);(case hr=>(go_simp;done));intro aVz hw;have hg:wc.grownBy aVz (some a0u):=(by rw [hw];exact aY9.2);have hz_:Kd.R (Kd.int .i64) 3 aVz w.heap.size bA5 (.slice (some ⟨a0u,0,none⟩) (dF nI oM).length aZF) bCF:=(by rw [hw,a6G.out];exact aY9.1);have YH:Kd.S (Kd.slice 3 (Kd.int .i64)) 81 aVz w.heap.size (fun _=>True) (.slice (some zD) nI.length OQ) bCG:=a8j;have hm_:=Kd.bA hz_ aYm;clear aY9 aXF;replace bY:=am (YH);replace HB:=am ((by rw [hw];exact bO (HB.out) bFk.out:Below w.heap.size w aVz));have bM6:=am (hm_);have bMZ:=am ((Kd.aM hm_).2.1);clear aBr;clear hg hw YH hz_ hm_ aYm)
                 simp only [←aA3]
                 go_roundg bA0
                 case measure=>have:=HJ2.out;have:=uP.out;have:=DJ.out;have:=NP.out;have:=HK5.out;have:=aRV.out;have:=aYX.out;omega
                 case rel=>exact⟨(bCG),(wrap64 (wF+1)),sq,H',⟨aWK⟩,⟨aBF⟩,⟨gP⟩⟩
            have H' :=am H
            clear H;go_wp2
            simp only [←aIO,←aA3]
            go_roundg k5
            case measure=>have:=HJ2.out;have:=uP.out;have:=DJ.out;have:=NP.out;have:=HK5.out;omega
            case rel=>exact⟨(nI),(wrap64 (oM+1)),sq,H',⟨by have:=HJ2.out;have:=uP.out;have:=DJ.out;have:=NP.out;have:=HK5.out;omega⟩,⟨aBF⟩,⟨gP⟩⟩
         replace H:=ip H;obtain⟨a8C,H⟩:=H;have bFU:=decide_eq_true a8C
         have bFV:decide (0≤a0.size)=true:=decide_eq_true (by omega)
         clear a8C;replace H:=ip H;obtain⟨aZy,H⟩:=H;have aZz:=decide_eq_true aZy
         have bFX:=aZz
         have bFW:decide (a0.size<yB.length)=true:=decide_eq_true (Int.ofNat_lt.mp aZy)
         clear aZy;replace H:=ip H;obtain⟨a8D,H⟩:=H;have bFY:=decide_eq_true a8D
         have bFZ:decide (0≤a1.size)=true:=decide_eq_true (by omega)
         clear a8D;replace H:=ip H;obtain⟨aZA,H⟩:=H;have aZB:=decide_eq_true aZA
         have bF1:=aZB
         have bF0:decide (a1.size<(dF yB (a0.size:Int)).length)=true:=decide_eq_true (Int.ofNat_lt.mp aZA)
         clear aZA;obtain rfl:=si H
         have aUK:0≤((a0.size:Int):Int):=dt
         have aQR:(a0.size:Int)<(yB.length:Int):=dt
         obtain⟨a7D,bEP,bF3,bGU,aCE,aIH,aIn⟩:=DU (Kd.iR bY.out).2.2 (a0.size:Int) aUK aQR
         obtain rfl:zD=a7D:=(by injection bGU)
         obtain⟨bOQ,a0T,a0y,aN1⟩:=Kd.DR bY.out [] (a0.size:Int) aUK (by exact aQR)
         obtain⟨bEw,rfl,aB1⟩:=a0y;have PD:=aN1 0 _ rfl;rw [Nat.add_zero,show((Kd.slice 3 (Kd.int .i64))).sz=1 from rfl,Nat.mul_one] at PD;replace PD:=Option.some.inj (PD.symm.trans aCE);rw [PD] at aB1;have bC4:=am (show Kd.R (Kd.int .i64) 3 _ _ _ _ (dF yB (a0.size:Int))from aB1);clear PD aB1;have bDj:=am aCE;clear aN1 a0T;have aR0:=am aIn;have bCO:=am aIH;clear aIn aIH;replace aUK:=eq_true aUK;replace aQR:=eq_true aQR
         (have bQt:(a0.size<yB.length)=True:=eq_true (by have h_:=of_eq_true aQR;omega))
         simp only [Int.toNat_natCast] at aCE
         obtain⟨bNh,bGV,aTO,bR6,bKA⟩:=XQ (by repeat(with_reducible exact aR0.out)) (a1.size:Int)
         cases bGV
         (have bQu:(a1.size<(dF yB (a0.size:Int)).length)=True:=eq_true (by have h_:=of_eq_true bKA;omega))
         simp only [Int.toNat_natCast] at aTO
         go_wp2
         go_ret
         exact⟨aZs,gP⟩
end Go.Proofs.YtpljfjbhlboffaaGreat.eH

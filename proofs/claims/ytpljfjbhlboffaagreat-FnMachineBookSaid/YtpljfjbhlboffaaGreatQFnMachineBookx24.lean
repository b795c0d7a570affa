import Derived.Test.YtpljfjbhlboffaaGreatQFnMachineBookx23
import Derived.Test.YtpljfjbhlboffaaGreatQFnMachineBookx20
namespace Go.Proofs.YtpljfjbhlboffaaGreat.eH
open Go.RowKit Go.Proofs.YtpljfjbhlboffaaGreatW.bJ Go.Proofs.YtpljfjbhlboffaaGreatW.gI Go.Proofs.YtpljfjbhlboffaaGreatW.jC Go.Proofs.YtpljfjbhlboffaaGreat.Sh
attribute [local go_sem] rD rF uY uZ pE pF rE rG
set_option linter.unusedVariables false
set_option linter.unusedSimpArgs false
set_option maxHeartbeats 8000000
set_option maxRecDepth 100000
def rX.f (k:Nat) (a0:ByteArray) (a1:ByteArray) (a2:Int):Option (Bool):=(bU.f k a0 a1).bind fun aRh=>(if aRh≥0 then(some (decide (aRh≤a2)))else(some false))
theorem rX.calls (k:Nat) (a0:ByteArray) (a1:ByteArray) (a2:Int) (r:Bool) (w:World) (h:rX.f k a0 a1 a2=some r):
  Calls Tryz.prog 57 #[.string a0, .string a1, .int .i64 a2] w fun e w' =>e= .returned (.bool r)∧Below w.heap.size w w' :=by
 have HB:=am (Below.refl w.heap.size w)
 have H:=h;unfold rX.f at H
 clear h;replace H:=ba H;obtain⟨aRh,A4,H⟩:=H
 replace H:=iv H;rcases H with ⟨oL,H⟩|⟨oL,H⟩
 ·obtain rfl:=si H;go_enter Tryz.func57,Tryz.ntmps57
  go_wp2_with (refine gd 10 ?_;refine gv Tryz.func58 (bU.calls k a0 a1 aRh _ A4.out) ?_;intro w6 hb;replace HB:=o8 hb;clear hb)
  go_ret
  exact⟨nD,gP⟩
 obtain rfl:=si H;go_enter Tryz.func57,Tryz.ntmps57
 go_wp2_with (refine gd 10 ?_;refine gv Tryz.func58 (bU.calls k a0 a1 aRh _ A4.out) ?_;intro w7 hb;replace HB:=o8 hb;clear hb)
 go_ret
 exact⟨nD,gP⟩
def fJ.l0:Nat→Int→List Int→Int→Int→Option (Int)
 |0,_,_,_,_=>none
 |k+1,x3,x6,x7,x8=>if x8<x7 then(if 0≤x8 then(if x8<(x6.length:Int)then(if(rd x6 x8)=x3 then(fJ.l0 k x3 x6 x7 (wrap64 (x8+1)))else(some (rd x6 x8)))else(none))else(none))else(some x3)
def fJ.f (k:Nat) (l0:List Int):Option (Int):=fJ.l0 k 0 l0 (l0.length:Int) 0
theorem fJ.calls (k:Nat) (A0:Option Addr) (c0:Nat) (l0:List Int) (r:Int) (w:World) (hr0:Kd.C (Kd.int .i64) w A0 l0.length l0) (hc0:l0.length≤c0) (h:fJ.f k l0=some r):
  Calls Tryz.prog 38 #[.slice A0 l0.length c0] w fun e w' =>e= .returned (.int .i64 r)∧iB w w' :=by
 have lX:=am hr0;have vX:=am hc0;clear hr0 hc0
 have H:=h;unfold fJ.f at H
 clear h
 have H' :=am H
 clear H;go_enter Tryz.func38,Tryz.ntmps38;go_wp2
 go_loopg [8] k (fun kq v8 w' => ∃(iU:Int),v8= .int .i64 iU∧aC (fJ.l0 kq 0 l0 (l0.length:Int) iU=some r)∧aC (kq≤k)∧iB w w')
 case atStart=>exact⟨(0),sq,H',⟨Nat.le_refl _⟩,dr⟩
 case round=>
  clear H';obtain⟨iU,rfl,HA,lM,⟨m1,rfl⟩⟩:=hrel
  cases gk with
  |zero=>exact absurd HA.out (by simp [fJ.l0])
  |succ k1=>
   have H:=HA.out;clear HA;simp only [fJ.l0] at H
   replace H:=iv H;rcases H with ⟨wD,H⟩|⟨wD,H⟩
   ·replace H:=it H;obtain⟨oG,H⟩:=H;replace H:=it H;obtain⟨qZ,H⟩:=H
    by_cases c5:(rd l0 iU)=0
    ·rw [if_pos c5] at H
     have oL:((rd l0 iU)==0)=true:=beq_iff_eq.mpr c5
     have JF:((rd l0 iU) !=0)=false:=bne_eq_false_iff_eq.mpr c5
     clear c5
     have H' :=am H
     clear H
     obtain⟨a7M,aZU,aTS,bJU,bKE⟩:=XQ lX.out iU;cases aZU
     go_wp2
     go_roundg k1
     case measure=>have:=lM.out;omega
     case rel=>exact⟨(wrap64 (iU+1)),sq,H',⟨rO⟩,dr⟩
    rw [if_neg c5] at H
    have oL:((rd l0 iU)==0)=false:=beq_eq_false_iff_ne.mpr c5
    have JF:((rd l0 iU) !=0)=true:=bne_iff_ne.mpr c5
    obtain rfl:=si H
    obtain⟨a7M,aZU,aTS,bJU,bKE⟩:=XQ lX.out iU;cases aZU
    go_wp2;go_ret
    exact⟨sq,dr⟩
   obtain rfl:=si H;go_wp2;go_ret
   exact⟨sq,dr⟩
def cmp_isNaN_int.f (a0:Int):Option (Bool):=some (a0 !=a0)
theorem cmp_isNaN_int.calls (a0:Int) (r:Bool) (w:World) (h:cmp_isNaN_int.f a0=some r):
  Calls Tryz.prog 75 #[.int .i64 a0] w fun e w' =>e= .returned (.bool r)∧iB w w' :=by
 have H:=h;unfold cmp_isNaN_int.f at H
 clear h;obtain rfl:=si H;go_enter Tryz.func75,Tryz.ntmps75;go_wp2;go_ret
 exact⟨sq,dr⟩
def jP.f (a0:Int) (a1:Int):Option (Int):=(cmp_isNaN_int.f a0).bind fun bB4=>((cmp_isNaN_int.f a1).bind fun aVh=>(if bB4=true then(if aVh=true then(some 0)else(some (-1)))else(if aVh=true then(some 1)else(if a0<a1 then(some (-1))else(if a0>a1 then(some 1)else(some 0))))))
theorem jP.calls (a0:Int) (a1:Int) (r:Int) (w:World) (h:jP.f a0 a1=some r):
  Calls Tryz.prog 39 #[.int .i64 a0, .int .i64 a1] w fun e w' =>e= .returned (.int .i64 r)∧iB w w' :=by
 have H:=h;unfold jP.f at H
 clear h;replace H:=ba H;obtain⟨bB4,A3,H⟩:=H;replace H:=ba H;obtain⟨aVh,A4,H⟩:=H
 replace H:=ib H;rcases H with ⟨rfl,H⟩|⟨rfl,H⟩
 ·by_cases c6:aVh=true
  ·subst c6
   rw [if_pos rfl] at H
   obtain rfl:=si H;go_enter Tryz.func39,Tryz.ntmps39
   go_wp2_with (first|(refine gd 8 ?_;refine gv Tryz.func75 (cmp_isNaN_int.calls a0 true _ A3.out) ?_;rintro w' ⟨nd,rfl⟩)|(refine gd 10 ?_;refine gv Tryz.func75 (cmp_isNaN_int.calls a1 true _ A4.out) ?_;rintro w' ⟨nd,rfl⟩))
   go_ret
   exact⟨sq,dr⟩
  replace c6:=Bool.eq_false_iff.mpr c6;subst c6
  rw [if_neg Bool.false_ne_true] at H
  obtain rfl:=si H;go_enter Tryz.func39,Tryz.ntmps39
  go_wp2_with (first|(refine gd 8 ?_;refine gv Tryz.func75 (cmp_isNaN_int.calls a0 true _ A3.out) ?_;rintro w' ⟨nd,rfl⟩)|(refine gd 10 ?_;refine gv Tryz.func75 (cmp_isNaN_int.calls a1 false _ A4.out) ?_;rintro w' ⟨nd,rfl⟩))
  go_ret
  exact⟨sq,dr⟩
 replace H:=ib H;rcases H with ⟨rfl,H⟩|⟨rfl,H⟩
 ·obtain rfl:=si H;go_enter Tryz.func39,Tryz.ntmps39
  go_wp2_with (first|(refine gd 8 ?_;refine gv Tryz.func75 (cmp_isNaN_int.calls a0 false _ A3.out) ?_;rintro w' ⟨nd,rfl⟩)|(refine gd 10 ?_;refine gv Tryz.func75 (cmp_isNaN_int.calls a1 true _ A4.out) ?_;rintro w' ⟨nd,rfl⟩))
  go_ret
  exact⟨sq,dr⟩
 replace H:=iv H;rcases H with ⟨tK,H⟩|⟨tK,H⟩
 ·obtain rfl:=si H;go_enter Tryz.func39,Tryz.ntmps39
  go_wp2_with (first|(refine gd 8 ?_;refine gv Tryz.func75 (cmp_isNaN_int.calls a0 false _ A3.out) ?_;rintro w' ⟨nd,rfl⟩)|(refine gd 10 ?_;refine gv Tryz.func75 (cmp_isNaN_int.calls a1 false _ A4.out) ?_;rintro w' ⟨nd,rfl⟩))
  go_ret
  exact⟨sq,dr⟩
 replace H:=iv H;rcases H with ⟨wE,H⟩|⟨wE,H⟩
 ·obtain rfl:=si H;go_enter Tryz.func39,Tryz.ntmps39
  go_wp2_with (first|(refine gd 8 ?_;refine gv Tryz.func75 (cmp_isNaN_int.calls a0 false _ A3.out) ?_;rintro w' ⟨nd,rfl⟩)|(refine gd 10 ?_;refine gv Tryz.func75 (cmp_isNaN_int.calls a1 false _ A4.out) ?_;rintro w' ⟨nd,rfl⟩))
  go_ret
  exact⟨sq,dr⟩
 obtain rfl:=si H;go_enter Tryz.func39,Tryz.ntmps39
 go_wp2_with (first|(refine gd 8 ?_;refine gv Tryz.func75 (cmp_isNaN_int.calls a0 false _ A3.out) ?_;rintro w' ⟨nd,rfl⟩)|(refine gd 10 ?_;refine gv Tryz.func75 (cmp_isNaN_int.calls a1 false _ A4.out) ?_;rintro w' ⟨nd,rfl⟩))
 go_ret
 exact⟨sq,dr⟩
def cmp_isNaN_string.f (a0:ByteArray):Option (Bool):=some (a0.toList !=a0.toList)
theorem cmp_isNaN_string.calls (a0:ByteArray) (r:Bool) (w:World) (h:cmp_isNaN_string.f a0=some r):
  Calls Tryz.prog 109 #[.string a0] w fun e w' =>e= .returned (.bool r)∧iB w w' :=by
 have H:=h;unfold cmp_isNaN_string.f at H
 clear h;obtain rfl:=si H;go_enter Tryz.func109,Tryz.ntmps109;go_wp2;go_ret
 exact⟨sq,dr⟩
def eY.f (a0:ByteArray) (a1:ByteArray):Option (Int):=(cmp_isNaN_string.f a0).bind fun bB5=>((cmp_isNaN_string.f a1).bind fun aVi=>(if bB5=true then(if aVi=true then(some 0)else(some (-1)))else(if aVi=true then(some 1)else(if(Op.bytesLess a0.toList a1.toList)=true then(some (-1))else(if(Op.bytesLess a1.toList a0.toList)=true then(some 1)else(some 0))))))
theorem eY.ne: ∀{a b:List UInt8},Op.bytesLess b a=true→(a==b)=false
 |[],[],h=>by simp [Op.bytesLess] at h
 |[],_::_,h=>by rfl
 |_::_,[],h=>by rfl
 |x::a,y::b,h=>by
  rw [List.cons_beq_cons]
  by_cases e:x=y
  ·subst e
   have h' :Op.bytesLess b a=true:=by simpa [Op.bytesLess] using h
   rw [eY.ne h',Bool.and_false]
  ·simp [e]
theorem eY.eq: ∀{a b:List UInt8},Op.bytesLess a b=false→Op.bytesLess b a=false→(a==b)=true
 |[],[],_,_=>rfl
 |[],_::_,h,_=>by simp [Op.bytesLess] at h
 |_::_,[],_,h=>by simp [Op.bytesLess] at h
 |x::a,y::b,h,h2=>by
  have e:x=y:=by
   by_cases c:x<y
   ·simp [Op.bytesLess,c] at h
   ·by_cases c2:y<x
    ·simp [Op.bytesLess,c2] at h2
    exact UInt8.le_antisymm (UInt8.not_lt.1 c2) (UInt8.not_lt.1 c)
  subst e
  rw [List.cons_beq_cons,eY.eq (a:=a) (b:=b) (by simpa [Op.bytesLess] using h) (by simpa [Op.bytesLess] using h2)]
  simp
theorem eY.calls (a0:ByteArray) (a1:ByteArray) (r:Int) (w:World) (h:eY.f a0 a1=some r):
  Calls Tryz.prog 76 #[.string a0, .string a1] w fun e w' =>e= .returned (.int .i64 r)∧iB w w' :=by
 have H:=h;unfold eY.f at H
 clear h;replace H:=ba H;obtain⟨bB5,A3,H⟩:=H;replace H:=ba H;obtain⟨aVi,A4,H⟩:=H
 replace H:=ib H;rcases H with ⟨rfl,H⟩|⟨rfl,H⟩
 ·by_cases c6:aVi=true
  ·subst c6
   rw [if_pos rfl] at H
   obtain rfl:=si H;go_enter Tryz.func76,Tryz.ntmps76
   go_wp2_with (first|(refine gd 8 ?_;refine gv Tryz.func109 (cmp_isNaN_string.calls a0 true _ A3.out) ?_;rintro w' ⟨nd,rfl⟩)|(refine gd 10 ?_;refine gv Tryz.func109 (cmp_isNaN_string.calls a1 true _ A4.out) ?_;rintro w' ⟨nd,rfl⟩))
   go_ret
   exact⟨sq,dr⟩
  replace c6:=Bool.eq_false_iff.mpr c6;subst c6
  rw [if_neg Bool.false_ne_true] at H
  obtain rfl:=si H;go_enter Tryz.func76,Tryz.ntmps76
  go_wp2_with (first|(refine gd 8 ?_;refine gv Tryz.func109 (cmp_isNaN_string.calls a0 true _ A3.out) ?_;rintro w' ⟨nd,rfl⟩)|(refine gd 10 ?_;refine gv Tryz.func109 (cmp_isNaN_string.calls a1 false _ A4.out) ?_;rintro w' ⟨nd,rfl⟩))
  go_ret
  exact⟨sq,dr⟩
 replace H:=ib H;rcases H with ⟨rfl,H⟩|⟨rfl,H⟩
 ·obtain rfl:=si H;go_enter Tryz.func76,Tryz.ntmps76
  go_wp2_with (first|(refine gd 8 ?_;refine gv Tryz.func109 (cmp_isNaN_string.calls a0 false _ A3.out) ?_;rintro w' ⟨nd,rfl⟩)|(refine gd 10 ?_;refine gv Tryz.func109 (cmp_isNaN_string.calls a1 true _ A4.out) ?_;rintro w' ⟨nd,rfl⟩))
  go_ret
  exact⟨sq,dr⟩
 by_cases c8:(Op.bytesLess a0.toList a1.toList)=true
 ·rw [if_pos c8] at H
  have tK:(Op.bytesLess a0.toList a1.toList)=true:=c8
  clear c8;obtain rfl:=si H;go_enter Tryz.func76,Tryz.ntmps76
  go_wp2_with (first|(refine gd 8 ?_;refine gv Tryz.func109 (cmp_isNaN_string.calls a0 false _ A3.out) ?_;rintro w' ⟨nd,rfl⟩)|(refine gd 10 ?_;refine gv Tryz.func109 (cmp_isNaN_string.calls a1 false _ A4.out) ?_;rintro w' ⟨nd,rfl⟩))
  go_ret
  exact⟨sq,dr⟩
 rw [if_neg c8] at H
 have tK:(Op.bytesLess a0.toList a1.toList)=false:=by simpa using c8
 clear c8
 by_cases c9:(Op.bytesLess a1.toList a0.toList)=true
 ·rw [if_pos c9] at H
  have wE:(Op.bytesLess a1.toList a0.toList)=true:=c9
  clear c9
  have bGk:(a0.toList==a1.toList)=false:=eY.ne wE
  obtain rfl:=si H;go_enter Tryz.func76,Tryz.ntmps76
  go_wp2_with (first|(refine gd 8 ?_;refine gv Tryz.func109 (cmp_isNaN_string.calls a0 false _ A3.out) ?_;rintro w' ⟨nd,rfl⟩)|(refine gd 10 ?_;refine gv Tryz.func109 (cmp_isNaN_string.calls a1 false _ A4.out) ?_;rintro w' ⟨nd,rfl⟩))
  go_ret
  exact⟨sq,dr⟩
 rw [if_neg c9] at H
 have wE:(Op.bytesLess a1.toList a0.toList)=false:=by simpa using c9
 clear c9
 have bGk:(a0.toList==a1.toList)=true:=eY.eq tK wE
 obtain rfl:=si H;go_enter Tryz.func76,Tryz.ntmps76
 go_wp2_with (first|(refine gd 8 ?_;refine gv Tryz.func109 (cmp_isNaN_string.calls a0 false _ A3.out) ?_;rintro w' ⟨nd,rfl⟩)|(refine gd 10 ?_;refine gv Tryz.func109 (cmp_isNaN_string.calls a1 false _ A4.out) ?_;rintro w' ⟨nd,rfl⟩))
 go_ret
 exact⟨sq,dr⟩
def bQ.Gr (w W:World):Prop:= ∃q os',W=Go.Sort.grow (w.drewN q) os'
theorem bQ.Gr.refl (w:World):bQ.Gr w w:=⟨0, #[],by rw [Go.Sort.grow_empty];rfl⟩
theorem bQ.Gr.drewN {w W:World} (h:bQ.Gr w W) (n:Nat):bQ.Gr w (W.drewN n):=by
 obtain⟨q,os,rfl⟩:=h
 exact⟨q+n,os,by rw [←World.drewN_drewN];rfl⟩
theorem bQ.Gr.drew {w W:World} (h:bQ.Gr w W):bQ.Gr w W.drew:=h.drewN 1
theorem bQ.Gr.alloc {w W:World} (h:bQ.Gr w W) (o:Obj):bQ.Gr w (W.alloc o):=by
 obtain⟨q,os,rfl⟩:=h
 exact⟨q,os++ #[o],by rw [Go.Sort.alloc_eq_grow,Go.Sort.grow_grow]⟩
section
variable {P:Program} {ops:Array Oper} {rest:List Oper} {o:Oper} {a:Act} {Q:Exit→Act→World→Prop} {Kc:Act→World→Prop}
theorem bQ.box {w W:World} (HG:bQ.Gr w W) (hgd:o.guard=none) {N:Tmp} (_hd:o.dst=some N) {cs:Array Value} {t:TypeId}
  (hrun:(execOp a.eval o).run P W= .ok (.value (.pointer (some ⟨W.heap.size,0,none⟩))) (W.alloc (.cells cs t (0,0))))
  (h: ∀g,g=W.heap.size→ ∀w1,w1.heap[g]?=some (.cells cs t (0,0))→Below W.heap.size W w1→bQ.Gr w w1→wpList P ops Q rest (a.put o.dst (.pointer (some ⟨g,0,none⟩))) w1):wpList P ops Q (o::rest) a W:=
 Kd.FO hgd hrun (h _ rfl _ (OI W _) (eZ (Below.refl _ _) _) (HG.alloc _))
theorem bQ.lit {α:Type} {w W:World} (HG:bQ.Gr w W) (d:Kd α) {w0:World} (base e:Nat) (hw:Region.wanted o (yielded ops a.tmps)=true) {N:Tmp} (hd:o.dst=some N) {xs:List α} {inner:List Value} {ok mK:Nat→Prop}
  (hrun:(execOp a.eval o).run P W= .ok (.value (.slice (some ⟨W.heap.size,0,none⟩) xs.length xs.length)) (W.alloc (.cells inner.toArray e)))
  (hrep:dQ (d.M W base mK) d.sz xs inner) (hok: ∀k,mK k→ok k) (hfresh:ok W.heap.size) (HB:Below base w0 W) (hbase:base≤W.heap.size) (hm:xs.length≤9223372036854775807)
  (h: ∀v1 w1,d.R e w1 base ok v1 xs→Below base w0 w1→W.grownBy w1 none→(∃b,v1.ownBlock=some b∧W.heap.size≤b)→bQ.Gr w w1→Kc (a.put o.dst v1) w1):if Region.wanted o (yielded ops a.tmps)=true then Oper.wp P o a W Kc Q else Kc (a.put o.dst undef) W:=by
 have h0:=Kd.kM (P:=P) (Q:=Q) (Kc:=fun a' w' => ∃v1,a' =a.put o.dst v1∧d.R e w' base ok v1 xs∧Below base w0 w' ∧W.grownBy w' none∧(∃b,v1.ownBlock=some b∧W.heap.size≤b)) d base e hw hd hrun hrep hok hfresh HB hbase hm (fun v1 w1 z1 z2 z3 z4=>⟨v1,rfl,z1,z2,z3,z4⟩)
 rw [if_pos hw] at h0⊢
 unfold Oper.wp at h0⊢
 rw [hrun] at h0⊢
 obtain⟨v1,e1,z1,z2,z3,z4⟩:=h0
 show Kc _ _
 rw [e1]
 exact h v1 _ z1 z2 z3 z4 (HG.alloc _)
end
def bQ.f (k:Nat) (iD:ByteArray) (iG:Int) (fP:ByteArray) (fZ:Int):Option (Int):=(jP.f iG fZ).bind fun t248=>((eY.f iD fP).bind fun t249=>((fJ.f k (([t248,t249]:List Int))).bind fun yT=>(some yT)))
def bQ.T1:Bool×List (List Nat×List Nat):=(true,[([],[]),([0],[0]),([],[]),([2],[2]),([1,3],[1,3]),([],[]),([5],[5]),([],[]),([7],[7]),([6,8,4],[6,8]),([4,9],[4,9]),([10,9],[10]),([11,11,0,1,2,3,4,5,6,7,8,9,10,11],[11])])
def bQ.B1:List Nat:=[0,1,0,4,15,0,32,0,128,511,1023,2047,4095]
theorem bQ.a3k:nX .any (opsOf Tryz.f60 1)=bQ.T1:=by kernel_rfl
theorem bQ.aM3:jA bQ.T1.2 bQ.B1=true:=by kernel_rfl
theorem bQ.calls (k:Nat) (iD:ByteArray) (iG:Int) (fP:ByteArray) (fZ:Int) (r:Int) (w:World) (h:bQ.f k iD iG fP fZ=some r):
  Calls Tryz.prog 60 #[.agg #[.string iD, .int .i64 iG], .agg #[.string fP, .int .i64 fZ]] w fun e w' =>e= .returned (.int .i64 r)∧ ∃q os',w' =Go.Sort.grow (w.drewN q) os' :=by
 have bRD:=Tryz.underlying40;have HB:=am (Below.refl w.heap.size w);have HG:=am (bQ.Gr.refl w)
 have H:=h;unfold bQ.f at H
 clear h;replace H:=ba H;obtain⟨t248,A3,H⟩:=H;replace H:=ba H;obtain⟨t249,A4,H⟩:=H;obtain⟨bCx,aOR⟩: ∃y_:List Int,y_=(([t248,t249]:List Int)):=⟨_,rfl⟩
 rw [←aOR] at H
 have a6e:=am aOR;clear aOR;replace H:=ba H;obtain⟨yT,A5,H⟩:=H;obtain rfl:=si H;go_enter Tryz.func60,Tryz.ntmps60
 try go_wp2_with (first|(refine gd 2 ?_;refine bQ.box HG.out ?hg (N:=2) ?hd (cs:= #[.string iD, .int .i64 iG]) (t:=40) ?hr ?_;(case hd=>rfl);(case hg=>rfl);(case hr=>(go_simp;done));intro fU hg w6 bT hb hgr;replace HG:=am hgr;clear hgr;have eF:=am (bT);have TT:=am ((kI:w.heap.size≤fU));have G6:=am ((kI:w.heap.size≤fU));replace HB:=o8 hb;clear hb bT hg)|(refine gd 3 ?_;refine bQ.box HG.out ?hg (N:=3) ?hd (cs:= #[.string fP, .int .i64 fZ]) (t:=40) ?hr ?_;(case hd=>rfl);(case hg=>rfl);(case hr=>(go_simp;done));intro aA0 hg w7 bT hb hgr;replace HG:=am hgr;clear hgr;have y9:=am (bT);have bMu:=am ((by rw [hg];exact(aH (cK G6.out)):w.heap.size≤aA0));have aVT:=am ((by rw [hg];exact(aH (cK G6.out)):w.heap.size≤aA0));replace HB:=st1 G6 hb;have a3n:=am ((by rw [hg];exact Nat.ne_of_lt (jW (g:=fU) (o:= .cells #[.string iD, .int .i64 iG] 40 (0,0)) (bq eF.out)):fU≠aA0));have a3o:=am ((by rw [hg];exact Nat.ne_of_gt (jW (g:=fU) (o:= .cells #[.string iD, .int .i64 iG] 40 (0,0)) (bq eF.out)):aA0≠fU));replace eF:=kb eF hb;clear hb bT hg))
 have vK:=am (bF eF.out);have vL:=am (bF y9.out);have GL:=am (bH HB.out);replace HG:=am HG.out.drew;clear eF;clear y9;clear HB;have eF:=vK;have y9:=vL;have HB:=GL;clear vK vL GL
 refine st (n:=13) (S:=fun w' =>w'.cell? ⟨fU,0,none⟩=some (.string iD)∧w'.cell? ⟨fU,1,none⟩=some (.int .i64 iG)∧w'.cell? ⟨aA0,0,none⟩=some (.string fP)∧w'.cell? ⟨aA0,1,none⟩=some (.int .i64 fZ)) (ds:=[]) ⟨bd eF.out 0,bd eF.out 1,bd y9.out 0,bd y9.out 1⟩ (fun hHeld=>?_);refine dW bQ.a3k bQ.aM3 (fun kQ rT=>?_)
 generalize w7.drew=w8 at eF y9 HB HG hHeld⊢
 refine pu 0 5 ?_
 refine pu 2 7 ?_
 refine pu 5 10 ?_
 refine pu 7 12 ?_
 refine VG 1 6 hHeld ?_
 refine VG 3 8 hHeld ?_
 refine VG 6 11 hHeld ?_
 refine VG 8 13 hHeld ?_
 refine qF 4 9 (fun K hK=>?_)
 refine EI Tryz.func39 #[.int .i64 iG, .int .i64 fZ] ?_
 with_reducible refine(jP.calls iG fZ t248 _ A3.out).mono ?_
 rintro e w' ⟨rfl,⟨nd,rfl⟩⟩
 refine⟨_,rfl,?_⟩
 replace HG:=am (HG.out.drewN nd)
 refine hK.out _ _ ⟨bd eF.out 0,bd eF.out 1,bd y9.out 0,bd y9.out 1⟩ (fun hHeld=>?_)
 clear hK K
 refine nm 9 ?_
 refine qF 9 14 (fun K hK=>?_)
 refine EI Tryz.func76 #[.string iD, .string fP] ?_
 with_reducible refine(eY.calls iD fP t249 _ A4.out).mono ?_
 rintro e w' ⟨rfl,⟨nd,rfl⟩⟩
 refine⟨_,rfl,?_⟩
 replace HG:=am (HG.out.drewN nd)
 refine hK.out _ _ ⟨bd eF.out 0,bd eF.out 1,bd y9.out 0,bd y9.out 1⟩ (fun hHeld=>?_)
 clear hK K
 refine nm 14 ?_
 refine qF 10 15 (fun K hK=>?_)
 refine bQ.lit HG.out (Kd.int .i64) _ 3 ?hg (N:=15) ?hd (xs:=([t248,t249]:List Int)) (inner:=[.int .i64 t248, .int .i64 t249]) (ok:=fun _=>True) (mK:=fun _=>True) ?hr ?hp (fun _ hk=>hk) trivial (Below.refl _ _) (Nat.le_refl _) (by simp) ?_;(case hd=>rfl);(case hg=>rfl);(case hr=>(go_simp;done));(case hp=>exact(dQ.one (show Kd.M (Kd.int .i64) _ _ _ t248 [.int .i64 t248] from rfl) (dQ.one (show Kd.M (Kd.int .i64) _ _ _ t249 [.int .i64 t249] from rfl) (dQ.none _ _))))
 intro aRn w9 a1A hb lL dP hgr
 replace HG:=am hgr;clear hgr
 clear lL dP
 (rw [←a6e.out] at a1A)
 have fO:=am (Kd.dZ a1A (aH (rP G6.out aVT.out)));replace eF:=kb eF hb;replace y9:=kb y9 hb;replace HB:=am (aY (rP G6.out aVT.out) hb);clear hb a1A;obtain⟨aYz,aZG,a0d⟩:=Kd.bS fO.out
 (subst a0d)
 refine hK.out _ _ ⟨bd eF.out 0,bd eF.out 1,bd y9.out 0,bd y9.out 1⟩ (fun hHeld=>?_)
 clear hK K
 refine nm 15 ?_
 refine qF 11 16 (fun K hK=>?_)
 refine EI Tryz.func38 #[.slice aYz bCx.length aZG] ?_
 with_reducible refine(fJ.calls k _ _ bCx yT _ ?dS ?iE A5.out).mono ?_
 (case dS=>exact cq (Kd.aM fO.out).2.2);(case iE=>exact(Kd.aM fO.out).2.1)
 rintro e w' ⟨rfl,⟨nd,rfl⟩⟩
 refine⟨_,rfl,?_⟩
 replace HG:=am (HG.out.drewN nd)
 refine hK.out _ _ ⟨bd eF.out 0,bd eF.out 1,bd y9.out 0,bd y9.out 1⟩ (fun hHeld=>?_)
 clear hK K
 refine nm 16 ?_
 refine pu 12 4 ?_
 refine kD (fQ kQ.out (by kernel_rfl)) ?_
 try go_wp2
 go_ret
 exact⟨nD,by exact HG.out⟩
instance aK.inh:Inhabited kG:=⟨z40⟩
def aK.cf (x y:kG):Int:=if x.f1<y.f1 then-1 else if x.f1>y.f1 then 1 else if Op.bytesLess x.f0.toList y.f0.toList=true then-1 else if Op.bytesLess y.f0.toList x.f0.toList=true then 1 else 0
def aK.le (x y:kG):Bool:= !(ltOf aK.cf y x)
theorem aK.lt_iff (x y:kG):ltOf aK.cf x y=true↔x.f1<y.f1∨(x.f1=y.f1∧x.f0.toList<y.f0.toList):=by
 unfold ltOf aK.cf
 simp only [bytesLess_eq,decide_eq_true_eq]
 by_cases h1:x.f1<y.f1
 ·simp [h1]
 ·by_cases h2:y.f1<x.f1
  ·have: ¬x.f1=y.f1:=by omega
   simp [h1,h2,this]
  ·have h3:x.f1=y.f1:=by omega
   by_cases h4:x.f0.toList<y.f0.toList
   ·simp [h3,h4]
   ·by_cases h5:y.f0.toList<x.f0.toList<;>simp [h3,h4,h5]
theorem aK.lf (x y:kG):ltOf aK.cf x y=false↔ ¬(x.f1<y.f1∨(x.f1=y.f1∧x.f0.toList<y.f0.toList)):=by
 rw [←aK.lt_iff,Bool.not_eq_true]
theorem aK.swo:Go.Sort.SWO (ltOf aK.cf) where
 irrefl x:=by
  rw [aK.lf]
  rintro(h|⟨_,h⟩)
  ·omega
  ·exact List.lt_irrefl _ h
 trans x y z h1 h2:=by
  rw [aK.lt_iff] at*
  rcases h1 with h1|⟨h1,h3⟩<;>rcases h2 with h2|⟨h2,h4⟩
  ·exact .inl (by omega)
  ·exact .inl (by omega)
  ·exact .inl (by omega)
  ·exact .inr ⟨by omega,List.lt_trans h3 h4⟩
 ntrans x y z h1 h2:=by
  rw [aK.lf] at*
  rintro(h|⟨h,h3⟩)
  ·by_cases a:x.f1<y.f1
   ·exact h1 (.inl a)
   ·exact h2 (.inl (by omega))
  ·have a:x.f1=y.f1:=by
    by_cases a:x.f1<y.f1
    ·exact absurd (.inl a) h1
    ·by_cases b:y.f1<z.f1
     ·exact absurd (.inl b) h2
     ·omega
   have b: ¬x.f0.toList<y.f0.toList:=fun h4=>h1 (.inr ⟨a,h4⟩)
   have c: ¬y.f0.toList<z.f0.toList:=fun h4=>h2 (.inr ⟨by omega,h4⟩)
   exact absurd h3 (List.not_lt.2 (List.le_trans (List.not_lt.1 c) (List.not_lt.1 b)))
theorem aK.tot (x y:kG) (h1:ltOf aK.cf x y=false) (h2:ltOf aK.cf y x=false):x=y:=by
 rw [aK.lf] at*
 have a:x.f1=y.f1:=by
  by_cases a:x.f1<y.f1
  ·exact absurd (.inl a) h1
  ·by_cases b:y.f1<x.f1
   ·exact absurd (.inl b) h2
   ·omega
 have b:x.f0.toList=y.f0.toList:=List.le_antisymm (List.not_lt.1 fun h=>h2 (.inr ⟨a.symm,h⟩)) (List.not_lt.1 fun h=>h1 (.inr ⟨a,h⟩))
 rw [Lib.toList_data,Lib.toList_data] at b
 cases x;cases y
 simp only [kG.mk.injEq]
 exact⟨ByteArray.ext (Array.toList_inj.1 b),a⟩
theorem aK.order (x y:kG):bQ.f 3 x.f0 x.f1 y.f0 y.f1=some (aK.cf x y):=by
 have n1: ∀z:Int,(z !=z)=false:=fun z=>by simp
 have n2: ∀z:ByteArray,(z.toList !=z.toList)=false:=fun z=>by simp
 have o: ∀u v:Int,fJ.f 3 [u,v]=some (if u=0 then v else u):=fun u v=>by
  by_cases h:u=0
  ·by_cases h2:v=0
   ·simp [fJ.f,fJ.l0,rd,h,h2,wrap64]
   ·simp [fJ.f,fJ.l0,rd,h,h2,wrap64]
  ·simp [fJ.f,fJ.l0,rd,h,wrap64]
 unfold bQ.f jP.f eY.f cmp_isNaN_int.f cmp_isNaN_string.f aK.cf
 simp only [n1,n2,Option.bind_some,Bool.false_eq_true,if_false]
 by_cases h1:x.f1<y.f1
 ·by_cases h4:Op.bytesLess x.f0.toList y.f0.toList=true<;>by_cases h5:Op.bytesLess y.f0.toList x.f0.toList=true<;>simp [h1,h4,h5,o]
 ·by_cases h2:x.f1>y.f1
  ·by_cases h4:Op.bytesLess x.f0.toList y.f0.toList=true<;>by_cases h5:Op.bytesLess y.f0.toList x.f0.toList=true<;>simp [h1,h2,h4,h5,o]
  ·by_cases h4:Op.bytesLess x.f0.toList y.f0.toList=true<;>by_cases h5:Op.bytesLess y.f0.toList x.f0.toList=true<;>simp [h1,h2,h4,h5,o]
def aK.enc (x:kG):List Value:=[.string x.f0, .int .i64 x.f1]
def aK.fl (xs:List kG):Array Value:=Go.Sort.flatK aK.enc 2 xs.toArray
theorem aK.DX (xs:List kG):(aK.fl xs).size=xs.length*2:=by simp [aK.fl]
theorem aK.aNL (xs:List kG) (j:Nat) (p:kG) (h:xs[j]?=some p):((aK.fl xs).toList.drop (j*2)).take 2=aK.enc p:=by
 obtain⟨hj,rfl⟩:=List.getElem?_eq_some_iff.1 h
 apply List.ext_getElem?
 intro t
 have e: ∀t,t<2→(aK.fl xs)[j*2+t]! =(aK.enc xs[j])[t]!:=fun t ht=>by
  unfold aK.fl
  rw [Go.Sort.get_flatK _ _ _ _ (by simp;omega),show(j*2+t) /2=j by omega,show(j*2+t)%2=t by omega]
  simp [hj]
 rcases Nat.lt_or_ge t 2 with ht|ht
 ·rw [List.getElem?_take,if_pos ht,List.getElem?_drop,Array.getElem?_toList]
  have hs:j*2+t<(aK.fl xs).size:=by rw [aK.DX];omega
  have h2:=e t ht
  have h3:t<(aK.enc xs[j]).length:=by simpa [aK.enc] using ht
  rw [getElem!_pos (aK.fl xs) (j*2+t) hs,getElem!_pos (aK.enc xs[j]) t h3] at h2
  rw [Array.getElem?_eq_getElem hs,h2,List.getElem?_eq_getElem h3]
 ·rw [List.getElem?_eq_none (by simp;omega),List.getElem?_eq_none (by simp [aK.enc];omega)]
theorem aK.bK4 (W:World) (base:Nat) (ok:Nat→Prop) (xs:List kG):dQ (vT.M W base ok) 2 xs (aK.fl xs).toList:=
 ⟨by rw [Array.length_toList,aK.DX],fun j p h=>by rw [aK.aNL xs j p h];exact D7 W base ok p⟩
theorem aK.aUE {W:World} {base:Nat} {ok:Nat→Prop} {xs:List kG} {cs:List Value} (h:dQ (vT.M W base ok) 2 xs cs):cs=(aK.fl xs).toList:=by
 apply List.ext_getElem?
 intro t
 rcases Nat.lt_or_ge t (xs.length*2)with ht|ht
 ·have hj:t /2<xs.length:=by omega
  have e1:=aKL (h.2 (t /2) _ (List.getElem?_eq_getElem hj));have e2:=aK.aNL xs (t /2) _ (List.getElem?_eq_getElem hj);have e3:=congrArg (fun l:List Value=>l[t%2]?) (e1.trans e2.symm)
  simp only [List.getElem?_take,List.getElem?_drop,if_pos (show t%2<2 by omega),show t /2*2+t%2=t by omega] at e3
  exact e3
 ·rw [List.getElem?_eq_none (by rw [h.1];exact ht),List.getElem?_eq_none (by rw [Array.length_toList,aK.DX];exact ht)]
theorem aK.holds {w:World} {g:Nat} {cur:Array Value} {xs:List kG} (hb:w.heap[g]?=some (.cells cur 40 (0,0))) (ht:cur.toList.take (xs.length*2)=(aK.fl xs).toList):Go.Sort.HoldsK aK.enc 2 w g 0 xs.toArray:=by
 intro j hj
 have hj' :j<xs.length*2:=by simpa using hj
 refine⟨?_,by simp [World.frozen?,hb]⟩
 have h1:(cur.toList.take (xs.length*2))[j]?=(aK.fl xs).toList[j]?:=by rw [ht]
 rw [List.getElem?_take_of_lt hj',Array.getElem?_toList,Array.getElem?_toList] at h1
 simp only [World.cell?,hb,Nat.zero_add]
 simp only [Option.isSome_none,Bool.false_eq_true,if_false]
 rw [h1,Array.getElem?_eq_getElem (by rw [aK.DX];exact hj')]
 show _=some (id (aK.fl xs)[j]!)
 rw [getElem!_pos _ _ (by rw [aK.DX];exact hj')]
 rfl
theorem aK.take (cur F:Array Value) (h:F.size≤cur.size):(Go.Sort.putCells id 0 F cur).toList.take F.size=F.toList:=by
 apply List.ext_getElem?
 intro j
 by_cases hj:j<F.size
 ·rw [List.getElem?_take_of_lt hj,Array.getElem?_toList]
  simp [Go.Sort.putCells,hj,show j<cur.size by omega]
 ·rw [List.getElem?_take_eq_none (by omega),List.getElem?_eq_none (by simp;omega)]
set_option maxHeartbeats 1000000 in
theorem aK.row {w0 W:World} {base:Nat} {P0:Nat→Prop} {v:Value} {xs:List kG} (h:Kd.R vT 40 W base P0 v xs) (hB:Below base w0 W) (hbase:base≤W.heap.size) (hl:xs.length≤1000000000):
  Calls Tryz.prog 59 #[v, .func (.func 60) #[] #[]] W fun e w' =>e= .returned (.tuple #[])∧Kd.R vT 40 w' base (fun k_=>P0 k_∨W.heap.size≤k_) v (xs.mergeSort aK.le)∧Below base w0 w' ∧Kept W w' P0:=by
 obtain⟨hok,inner,ho,hr⟩:=h
 have hr2:dQ (vT.M W base (fun k=>P0 k∧some k≠v.ownBlock)) 2 xs inner:=hr
 have ei:=aK.aUE hr2;subst ei
 rcases ho.2 with ⟨rfl,h0⟩|⟨g,cap,cur,rfl,hb,hg,h1,h2,h3,h4⟩
 ·have e0:xs=[]:=List.length_eq_zero_iff.1 h0
  subst e0
  have:=AnyF.slices_SortFunc_none Try.aEP none 0 (.func (.func 60) #[] #[]) W
  change Calls Tryz.prog 59 _ _ _ at this
  refine this.mono ?_
  rintro e w' ⟨he,rfl⟩
  refine⟨he,?_,hB,Nat.le_refl _,fun _ _ _=>rfl⟩
  rw [List.mergeSort_nil]
  exact Kd.aMb _ _ _ _ _
 ·have hgl:g<W.heap.size:=(Array.getElem?_eq_some_iff.1 hg).1
  have hsz:vT.sz=2:=rfl
  rw [hsz] at h3 h4
  have hH:=aK.holds hg h4
  have eg: ∀args w,(callFunc 60 args).run Tryz.prog w= .ok (.enter 60 args) w:=enters_of Tryz.func60 (by kernel_rfl) rfl
  have hcmp:CmpLays Tryz.prog 60 #[] aK.enc 2 aK.cf g 0 xs.toArray.size W:=fun m os dk _ x y=>bQ.calls 3 x.f0 x.f1 y.f0 y.f1 _ _ (aK.order x y)
  have:=AnyQ.slices_SortFunc_total (α:=kG) Try.aEP 2 Tryz.isAgg40 Tryz.sizeOf40 aK.enc (fun _=>rfl) (fun x v hv=>by simp only [aK.enc,List.mem_cons,List.not_mem_nil,or_false] at hv;rcases hv with rfl|rfl<;>rfl) aK.cf aK.swo 60 #[] g 0 cap xs.toArray W eg hcmp hH hgl (by simp;omega) aK.tot
  change Calls Tryz.prog 59 #[.slice (some ⟨g,0,none⟩) xs.length cap, .func (.func 60) #[] #[]] _ _ at this
  refine this.mono ?_
  rintro e w' ⟨he,n,os,rfl⟩
  have hl2:(xs.mergeSort aK.le).length=xs.length:=List.length_mergeSort xs
  have hhe:(sortWorldK aK.enc 2 W g 0 n (xs.toArray.toList.mergeSort fun x y=> !(ltOf aK.cf) y x).toArray os).heap[g]?=some (.cells (Go.Sort.putCells id 0 (aK.fl (xs.mergeSort aK.le)) cur) 40 (0,0)):=by
   show(Go.Sort.grow (Go.Sort.putRow id (Go.Sort.ahead W n) g 0 (aK.fl (xs.mergeSort aK.le))) os).heap[g]?=_
   rw [Go.Sort.heap_grow_old _ _ (by simpa using hgl)]
   simp [Go.Sort.putRow,Go.Sort.mapBlock,Go.Sort.ahead,Array.getElem?_modify,hg,Go.Sort.onCells]
  have hgr:W.grownBy (sortWorldK aK.enc 2 W g 0 n (xs.toArray.toList.mergeSort fun x y=> !(ltOf aK.cf) y x).toArray os) (some g):=by
   refine⟨rfl,rfl,rfl,by simp [sortWorldK,Go.Sort.putRowK],fun k hk hne=>?_⟩
   show(Go.Sort.grow (Go.Sort.putRow id (Go.Sort.ahead W n) g 0 (aK.fl (xs.mergeSort aK.le))) os).heap[k]?=_
   rw [Go.Sort.heap_grow_old _ _ (by simpa using hk)]
   have:g≠k:=fun e=>hne (by rw [e])
   simp [Go.Sort.putRow,Go.Sort.mapBlock,Go.Sort.ahead,Array.getElem?_modify,this]
  refine⟨he,⟨fun k hk=> .inl (hok k hk),(aK.fl (xs.mergeSort aK.le)).toList,⟨?_, .inr ⟨g,cap,_,by rw [hl2],hb,hhe,by rw [hl2];exact h1,h2,by rw [hsz];simpa [Go.Sort.putCells] using h3,?_⟩⟩,aK.bK4 _ _ _ _⟩,hB.grown hgr hbase (fun j hj=>by cases hj;exact hb),hgr.size,fun i hi hn=>hgr.block i hi (fun e=>hn (hok i (by rw [e];rfl)))⟩
  ·rw [Array.length_toList,aK.DX,hsz]
  ·rw [hsz]
   have h5:=aK.take cur (aK.fl (xs.mergeSort aK.le)) (by rw [aK.DX,hl2,h3];omega)
   rw [aK.DX] at h5
   exact h5
def aK.f (l0:List kG):Option (List kG):=if l0.length≤1000000000 then some (l0.mergeSort aK.le)else none
theorem aK.calls (HV:Nat→Prop) (aGZ:Value) (l0 r1:List kG) (w0 w:World) (hB:Below w0.heap.size w0 w) (ho0:Kd.R vT 40 w w0.heap.size HV aGZ l0) (h:aK.f l0=some r1):
  Calls Tryz.prog 59 #[aGZ, .func (.func 60) #[] #[]] w fun e w' =>e= .returned (.tuple #[])∧Kd.R vT 40 w' w0.heap.size (fun k_=>(HV k_∨w.heap.size≤k_)) aGZ r1∧Below w0.heap.size w0 w' ∧Kept w w' (fun k_=>HV k_):=by
 unfold aK.f at h
 split at h
 case isFalse=>cases h
 rename_i hsz;obtain rfl:=Option.some.inj h
 exact aK.row ho0 hB hB.size hsz
attribute [local go_sem high] a9s
def jN.l0:Nat→ByteArray→Int→List (kG)→List ByteArray→Int→Int→Option ((List (kG)))
 |0,_,_,_,_,_,_=>none
 |k+1,x1,x2,x7,KX,x12,x13=>if x13<x12 then(if 0≤x13 then(if x13<(KX.length:Int)then((rX.f k (bP ByteArray.empty KX x13) x1 x2).bind fun bB6=>(if bB6=true then((bU.f k (bP ByteArray.empty KX x13) x1).bind fun aGV=>(if x7.length<5864062014805 then(jN.l0 k x1 x2 (x7++[(⟨bP ByteArray.empty KX x13,aGV⟩:kG)]) KX x12 (wrap64 (x13+1)))else(none)))else(jN.l0 k x1 x2 x7 KX x12 (wrap64 (x13+1)))))else(none))else(none))else((aK.f x7).bind fun aFf=>((some (([]:List (kG)):List (kG))).bind fun aRF=>(if 0≤(mn (x7.length:Int) 10)then(if(mn (x7.length:Int) 10)≤(x7.length:Int)then((some (aFf.take ((mn (x7.length:Int) 10):Int).toNat:List (kG))).bind fun aDq=>(if aRF.length+aDq.length<5864062014805 then(some (aRF++aDq))else(none)))else(none))else(none))))
def jN.f (k:Nat) (l0:List ByteArray) (a1:ByteArray) (a2:Int):Option ((List (kG))):=jN.l0 k a1 a2 (([]:List (kG))) l0 (l0.length:Int) 0
theorem jN.calls (k:Nat) (A0:Option Addr) (c0:Nat) (l0:List ByteArray) (a1:ByteArray) (a2:Int) (r:List (kG)) (w:World) (hr0:Kd.C Kd.string w A0 l0.length l0) (hc0:l0.length≤c0) (h:jN.f k l0 a1 a2=some r):
  Calls Tryz.prog 22 #[.slice A0 l0.length c0, .string a1, .int .i64 a2] w fun e w' => ∃sQ:Value,e= .returned (sQ)∧Kd.R vT 40 w' w.heap.size (fun _=>True) sQ r∧Below w.heap.size w w' :=by
 have aOv:=Tryz.underlying40;have lX:=am hr0;have vX:=am hc0;clear hr0 hc0;have HB:=am (Below.refl w.heap.size w)
 have H:=h;unfold jN.f at H
 clear h;obtain⟨bL4,aPo⟩: ∃y_:List (kG),y_=(([]:List (kG))):=⟨_,rfl⟩
 rw [←aPo] at H
 have a6I:=am aPo;clear aPo
 have H' :=am H
 clear H;go_enter Tryz.func22,Tryz.ntmps22
 go_wp2_with (refine gd 10 ?_;refine Kd.mJ vT _ 40 ?hg (N:=10) ?hd (xs:=([]:List (kG))) (inner:=[]) (ok:=fun _=>True) (mK:=fun _=>True) ?hr ?hp (fun _ hk=>hk) trivial (Below.refl _ _) (Nat.le_refl _) (by simp) ?_;(case hd=>rfl);(case hg=>rfl);(case hr=>(go_simp;done));(case hp=>exact(dQ.none _ _));intro bTz w4 ho5 hb lL dP;clear lL dP;(rw [←a6I.out] at ho5);have a4L:=am (Kd.dZ ho5 (aH gP));replace HB:=o8 hb;clear hb ho5)
 go_loopg [7,13] k (fun kq v7 v13 w' => ∃(bC:List (kG)) (ED:Int),v13= .int .i64 ED∧aC (jN.l0 kq a1 a2 bC l0 (l0.length:Int) ED=some r)∧aC (kq≤k)∧aC (Kd.R vT 40 w' w.heap.size (fun _=>True) v7 bC)∧aC (Below w.heap.size w w'))
 case atStart=>exact⟨(bL4),(0),sq,H',⟨Nat.le_refl _⟩,⟨rq a4L.out⟩,⟨gP⟩⟩
 case round=>
  clear H';obtain⟨bC,ED,rfl,HA,lM,lY,HB⟩:=hrel
  cases gk with
  |zero=>exact absurd HA.out (by simp [jN.l0])
  |succ k1=>
   have H:=HA.out;clear HA;simp only [jN.l0] at H
   replace H:=iv H;rcases H with ⟨sW,H⟩|⟨sW,H⟩
   ·replace H:=it H;obtain⟨wR,H⟩:=H
    replace H:=it H;obtain⟨tK,H⟩:=H;replace H:=ba H;obtain⟨bB6,A9,H⟩:=H
    replace H:=ib H;rcases H with ⟨rfl,H⟩|⟨rfl,H⟩
    ·replace H:=ba H;obtain⟨aGV,A11,H⟩:=H
     replace H:=ip H;obtain⟨c12,H⟩:=H;have a5A:=am c12;clear c12;obtain⟨bL5,aPs⟩: ∃y_:List (kG),y_=(bC++[(⟨bP ByteArray.empty l0 ED,aGV⟩:kG)]):=⟨_,rfl⟩
     rw [←aPs] at H
     have a6L:=am aPs;clear aPs
     have H' :=am H
     clear H
     obtain⟨a7N,aZV,QU,bJV,bKF⟩:=CY lX.out ED;cases aZV;replace QU:=kp HB.out QU
     go_wp2_with (first|(refine gd 20 ?_;refine gv Tryz.func57 (rX.calls k1 (bP ByteArray.empty l0 ED) a1 a2 true _ A9.out) ?_;intro w13 hb;replace lY:=kr lY hb;replace HB:=o8 hb;clear hb)|(refine gd 25 ?_;refine gv Tryz.func58 (bU.calls k1 (bP ByteArray.empty l0 ED) a1 aGV _ A11.out) ?_;intro w14 hb;replace lY:=kr lY hb;replace HB:=o8 hb;clear hb)|((with_reducible refine gL (b:= .append) (xs:= #[.tmp 21, .tmp 27]) rfl ?_);at_builtin;refine Kd.oI vT (w0:=w) w.heap.size rfl (.tmp 21) (.tmp 27) 29 40 (.agg #[(.string ⟨#[]⟩),(.int .i64 0)]) 24 rfl Tryz.underlying29 xD rfl (by decide) (by omega) u7 bC (⟨bP ByteArray.empty l0 ED,aGV⟩:kG) [.string (bP ByteArray.empty l0 ED), .int .i64 aGV] (fun _=>True) (fun _=>False) rfl rfl ?aP (fun _ hk=>hk.elim) ?aF ?aO ?aB ?aS ?aL ?_;(case aP=>exact D7 _ _ _ (⟨bP ByteArray.empty l0 ED,aGV⟩:kG));(case aB=>exact gP);(case aF=>exact(fun _ _=>trivial));(case aO=>exact(rq lY.out));(case aS=>exact(aH gP));(case aL=>have:=a5A.out;omega);intro bTB w15 ho hb hg hat;rw [←a6L.out] at ho;replace HB:=am (hb);have a4N:=am (ho);clear lY;clear ho hb hg hat))
     go_roundg k1
     case measure=>have:=lM.out;omega
     case rel=>exact⟨(bL5),(wrap64 (ED+1)),sq,H',⟨rO⟩,⟨rq a4N.out⟩,⟨gP⟩⟩
    have H' :=am H
    clear H
    obtain⟨a7N,aZV,QU,bJV,bKF⟩:=CY lX.out ED;cases aZV;replace QU:=kp HB.out QU
    go_wp2_with (refine gd 20 ?_;refine gv Tryz.func57 (rX.calls k1 (bP ByteArray.empty l0 ED) a1 a2 false _ A9.out) ?_;intro w16 hb;replace lY:=kr lY hb;replace HB:=o8 hb;clear hb)
    go_roundg k1
    case measure=>have:=lM.out;omega
    case rel=>exact⟨(bC),(wrap64 (ED+1)),sq,H',⟨rO⟩,⟨rq lY.out⟩,⟨gP⟩⟩
   replace H:=ba H;obtain⟨aFf,A17,H⟩:=H;obtain⟨aRF,aPp⟩: ∃y_:List (kG),y_=(([]:List (kG))):=⟨_,rfl⟩
   replace H:=bm H;rw [←aPp] at H
   have a6J:=am aPp;clear aPp;obtain⟨CK,aEE⟩: ∃j_:Int,(mn (bC.length:Int) 10)=j_:=⟨_,rfl⟩
   rw [aEE] at H
   have bIO:(if 10<(bC.length:Int)then 10 else(bC.length:Int))=CK:=aEE
   replace H:=ip H;obtain⟨c19,H⟩:=H;have H6:=eq_true c19
   have aH5:decide (0≤(CK))=true:=decide_eq_true c19
   clear c19;replace H:=ip H;obtain⟨c20,H⟩:=H;have L9:=eq_true c20
   have aH6:decide ((CK)≤(bC.length:Int))=true:=decide_eq_true c20
   clear c20;obtain⟨aDq,aPq⟩: ∃y_:List (kG),y_=(aFf.take ((CK):Int).toNat):=⟨_,rfl⟩
   replace H:=bm H;rw [←aPq] at H
   have aL6:=am aPq;clear aPq
   replace H:=ip H;obtain⟨c21,H⟩:=H;have aL0:=am c21;clear c21;obtain⟨bT9,aPr⟩: ∃y_:List (kG),y_=(aRF++aDq):=⟨_,rfl⟩
   rw [←aPr] at H
   have a6K:=am aPr;clear aPr;obtain rfl:=si H;obtain⟨aDt,FJ,aFV⟩:=Kd.bS lY.out;subst aFV
   go_wp2_with (first|(refine gd 31 ?_;refine gv Tryz.func59 (aK.calls (fun k_=>some k_=(.slice aDt bC.length FJ:Value).ownBlock) (.slice aDt bC.length FJ) bC aFf w _ HB.out (Kd.NZ rfl lY.out) A17.out) ?_;rintro w23 ⟨hy0,hb,hkp⟩;replace lY:=am (Kd.aZh rfl hy0 (fun k_ e_=>lY.out.1 k_ e_));replace HB:=am (hb);clear hb hkp hy0)|(refine gd 32 ?_;refine Kd.mJ vT _ 40 ?hg (N:=32) ?hd (xs:=([]:List (kG))) (inner:=[]) (ok:=fun _=>True) (mK:=fun _=>True) ?hr ?hp (fun _ hk=>hk) trivial (Below.refl _ _) (Nat.le_refl _) (by simp) ?_;(case hd=>rfl);(case hg=>rfl);(case hr=>(go_simp;done));(case hp=>exact(dQ.none _ _));intro bLr w24 FP hb lL dP;clear lL dP;(rw [←a6J.out] at FP);have aV8:=am (Kd.dZ (Kd.qW FP (Kd.pJ (rq lY.out))) (aH gP));replace lY:=am (Kd.lT (rq lY.out) (Kd.jE FP) hb);replace HB:=o8 hb;clear hb FP;have aOn:=(Kd.aM lY.out).1;have q26:((CK):Int)≤((bC.length:Int):Int):=dt;obtain⟨bRR,aXX,_,bAJ,_⟩:=info_parts xD;have aCs:bC.length≤FJ:=(Kd.aM lY.out).2.1;have aOt:aFf.length≤FJ:=(by rw [←aOn];exact aCs);have a9J:Kd.C vT _ aDt aFf.length aFf:=(Kd.aM lY.out).2.2;have a09:=S9 (P:=Tryz.prog) 29 40 .i64 Tryz.underlying29 aXX aDt bC.length FJ (CK) (dt) q26 aCs;have a1P:=Kd.R4 (m:=((CK):Int).toNat) a9J (by omega);have a1Z:aDq.length=((CK):Int).toNat:=(by rw [aL6.out,List.length_take];omega);rw [←aL6.out] at a1P;rw [←a1Z] at a09;have aWd:=am a1P;have bM0:=am (show aDq.length≤FJ from by omega);clear a1P a9J aCs aXX bAJ aOt;have bQZ:=am a1Z;clear a1Z;have bQU:=am aOn;have bFF:=am (show((CK):Int).toNat≤aFf.length from by omega);clear aOn;replace q26:=eq_true q26)|((with_reducible refine gL (b:= .append) (xs:= #[.tmp 32, .tmp 37]) rfl ?_);at_builtin;refine Kd.yD vT (w0:=w) w.heap.size rfl (.tmp 32) (.tmp 37) 29 40 (.agg #[(.string ⟨#[]⟩),(.int .i64 0)]) 24 rfl Tryz.underlying29 xD rfl (by decide) (by omega) bLr aRF aDq _ _ _ (fun k_=>some k_≠(.slice aDt bC.length FJ:Value).ownBlock) (fun _=>False) rfl rfl ?aO ?aR (fun _ _ h=>h) (fun _ h=>h.elim) ?aF ?aB ?aS ?aL ?_;(case aR=>repeat(exact(by repeat(exact aWd.out))));(case aB=>exact gP);(case aF=>exact(fun k_ hk=>Kd.nL (Kd.pJ (rq lY.out)) k_ hk));(case aO=>exact(rq (Kd.bA aV8.out (fun _ hk=>hk.2))));(case aS=>exact(aH gP));(case aL=>have:=aL0.out;omega);intro bTA w27 ho hb hg hat;rw [←a6K.out] at ho;replace HB:=am (hb);replace aWd:=am ((show Kd.C vT w27 aDt aDq.length aDq from by rw [aL6.out];exact Kd.R4 (m:=((CK):Int).toNat) ((Kd.aM (Kd.oO (ok:=(fun _=>True)) (rq lY.out) hg hat)).2.2) bFF.out));replace lY:=am (Kd.oO (ok:=(fun _=>True)) (rq lY.out) hg hat);have a4M:=am (ho);clear aV8;clear ho hb hg hat))
   go_ret
   exact⟨_,by rfl,by(with_reducible repeat(fail));exact Kd.bA a4M.out (fun _ hk=>trivial),gP⟩
mutual
def dI.j0:Nat→ByteArray→List (kG)→Bool→List (kH)→List (sV)→Option ((List (kG)))
 |0,_,_,_,_,_=>none
 |k+1,x1,x5,x21,aVH,aVI=>if x21=true then(some x5)else((fT.f k aVH aVI).bind fun aVk=>((jN.f k aVk x1 2).bind fun kS=>(dI.l0 k x5 kS (kS.length:Int) 0)))
def dI.l0:Nat→List (kG)→List (kG)→Int→Int→Option ((List (kG)))
 |0,_,_,_,_=>none
 |k+1,x5,TR,x27,x28=>if x28<x27 then(if 0≤x28 then(if x28<(TR.length:Int)then(if(x5.length:Int)>0 then(if 0<(x5.length:Int)then(if((bD TR x28).f1)=((bD x5 0).f1)then(if x5.length<5864062014805 then(dI.l0 k (x5++[(⟨(bD TR x28).f0,(bD TR x28).f1⟩:kG)]) TR x27 (wrap64 (x28+1)))else(none))else(some x5))else(none))else(if x5.length<5864062014805 then(dI.l0 k (x5++[(⟨(bD TR x28).f0,(bD TR x28).f1⟩:kG)]) TR x27 (wrap64 (x28+1)))else(none)))else(none))else(none))else(some x5)
end
def dI.f (k:Nat) (fI:List (kH)) (bV:List (sV)) (a1:ByteArray):Option ((List (kG))):=(some (([]:List (kG)):List (kG))).bind fun aHc=>((kX.f k fI bV).bind fun bB7=>(if bB7=true then((eD.f k a1).bind fun bB8=>(if bB8=true then((mQ.f k fI bV a1).bind fun aVj=>(dI.j0 k a1 aHc aVj fI bV))else(dI.j0 k a1 aHc true fI bV)))else(dI.j0 k a1 aHc true fI bV)))
theorem dI.calls (k:Nat) (mH:Option Addr) (mI:Nat) (fI:List (kH)) (nQ:Option Addr) (lH:Nat) (bV:List (sV)) (a1:ByteArray) (r:List (kG)) (w:World) (uI:Kd.C yG w mH fI.length fI) (uH:fI.length≤mI) (rW:Kd.C NK w nQ bV.length bV) (rV:bV.length≤lH) (h:dI.f k fI bV a1=some r):
  Calls Tryz.prog 5 #[.agg #[.slice mH fI.length mI, .slice nQ bV.length lH], .string a1] w fun e w' => ∃sQ:Value,e= .returned (sQ)∧Kd.R vT 40 w' w.heap.size (fun _=>True) sQ r∧Below w.heap.size w w' :=by
 have U7:=Tryz.underlying26;have aOv:=Tryz.underlying40;have p9:=am uI;have pY:=am uH;clear uI uH;have nE:=am rW;have sN:=am rV;clear rW rV;have HB:=am (Below.refl w.heap.size w)
 have H:=h;unfold dI.f at H
 clear h;obtain⟨aHc,aPt⟩: ∃y_:List (kG),y_=(([]:List (kG))):=⟨_,rfl⟩
 replace H:=bm H;rw [←aPt] at H
 have a6M:=am aPt;clear aPt;have FZ:=am H;clear H;go_enter Tryz.func5,Tryz.ntmps5
 go_upto_region 2 with (first|(refine gd 2 ?_;refine bx 2 (cs:= #[.slice mH fI.length mI, .slice nQ bV.length lH]) (t:=26) ?_;intro D5 hg w4 bT hb;have lI:=am (bT);have bML:=am ((kI:w.heap.size≤D5));have pX:=am ((kI:w.heap.size≤D5));replace HB:=o8 hb;clear hb bT hg)|(refine gd 8 ?_;refine Kd.mJ vT _ 40 ?hg (N:=8) ?hd (xs:=([]:List (kG))) (inner:=[]) (ok:=fun _=>True) (mK:=fun _=>True) ?hr ?hp (fun _ hk=>hk) trivial (Below.refl _ _) (Nat.le_refl _) (by simp) ?_;(case hd=>rfl);(case hg=>rfl);(case hr=>(go_simp;done));(case hp=>exact(dQ.none _ _));intro bLs w5 ho6 hb lL dP;clear lL dP;(rw [←a6M.out] at ho6);have I4:=am (Kd.dZ ho6 (aH (cK pX.out)));replace lI:=kb lI hb;replace HB:=st1 pX hb;clear hb ho6))
 go_cut [21] (fun v21 wc=> ∃(kq:Nat) (ZL:Bool),v21= .bool ZL∧aC (dI.j0 kq a1 aHc ZL fI bV=some r)∧aC (kq≤k)∧aC (Kd.R vT 40 wc w.heap.size (fun _=>True) bLs aHc)∧aC (wc.heap[D5]?=some (.cells #[(.slice mH fI.length mI),(.slice nQ bV.length lH)] 26 (0,0)))∧aC (Below w.heap.size w wc))
 case first=>
  have H:=FZ.out;clear FZ;replace H:=ba H;obtain⟨bB7,A7,H⟩:=H
  replace H:=ib H;rcases H with ⟨rfl,H⟩|⟨rfl,H⟩
  ·replace H:=ba H;obtain⟨bB8,A9,H⟩:=H
   replace H:=ib H;rcases H with ⟨rfl,H⟩|⟨rfl,H⟩
   ·replace H:=ba H;obtain⟨aVj,A11,H⟩:=H
    have H' :=am H
    clear H;have⟨_,_,_,_⟩:=oP lI.out
    have bDs:=bc lI.out 0
    have bDt:=bc lI.out 1
    have bDB:=bf lI.out 0
    have bDC:=bf lI.out 1
    go_wp2_with (first|(go_at_call 20;(with_reducible refine(kX.calls k _ _ fI _ _ bV true _ ?dS pY.out ?mU sN.out A7.out).mono ?_);(case dS=>exact cq (Kd.dV p9.out HB.out));(case mU=>exact cq (Kd.dV nE.out HB.out));rintro e w13 ⟨rfl,hb⟩;replace I4:=kr I4 hb;replace lI:=kb lI hb;replace HB:=st1 pX hb;clear hb)|(go_at_call 21;(with_reducible refine(eD.calls k a1 true _ A9.out).mono ?_);rintro e w' ⟨rfl,⟨nd,rfl⟩⟩;(have⟨_,_,_,_⟩:=oP lI.out))|(go_at_call 14;(with_reducible refine(mQ.calls k _ _ fI _ _ bV a1 aVj _ ?dS pY.out ?mU sN.out A11.out).mono ?_);(case dS=>exact cq (Kd.dV p9.out (cK pX.out)));(case mU=>exact cq (Kd.dV nE.out (cK pX.out)));rintro e w15 ⟨rfl,hb⟩;replace I4:=kr I4 hb;replace lI:=kb lI hb;replace HB:=st1 pX hb;clear hb))
    go_meet
    case rel=>exact⟨_,(aVj),sq,H',⟨xI⟩,⟨rq I4.out⟩,⟨bq lI.out⟩,⟨cK pX.out⟩⟩
   have H' :=am H
   clear H;have⟨_,_,_,_⟩:=oP lI.out
   go_wp2_with (first|(go_at_call 20;(with_reducible refine(kX.calls k _ _ fI _ _ bV true _ ?dS pY.out ?mU sN.out A7.out).mono ?_);(case dS=>exact cq (Kd.dV p9.out HB.out));(case mU=>exact cq (Kd.dV nE.out HB.out));rintro e w17 ⟨rfl,hb⟩;replace I4:=kr I4 hb;replace lI:=kb lI hb;replace HB:=st1 pX hb;clear hb)|(go_at_call 21;(with_reducible refine(eD.calls k a1 false _ A9.out).mono ?_);rintro e w' ⟨rfl,⟨nd,rfl⟩⟩))
   go_meet
   case rel=>exact⟨_,(true),sq,H',⟨xI⟩,⟨rq I4.out⟩,⟨bq lI.out⟩,⟨cK pX.out⟩⟩
  have H' :=am H
  clear H;have⟨_,_,_,_⟩:=oP lI.out
  go_wp2_with (go_at_call 20;(with_reducible refine(kX.calls k _ _ fI _ _ bV false _ ?dS pY.out ?mU sN.out A7.out).mono ?_);(case dS=>exact cq (Kd.dV p9.out HB.out));(case mU=>exact cq (Kd.dV nE.out HB.out));rintro e w19 ⟨rfl,hb⟩;replace I4:=kr I4 hb;replace lI:=kb lI hb;replace HB:=st1 pX hb;clear hb)
  go_meet
  case rel=>exact⟨_,(true),sq,H',⟨xI⟩,⟨rq I4.out⟩,⟨bq lI.out⟩,⟨cK pX.out⟩⟩
 case rest=>
  clear FZ;obtain⟨kq,ZL,rfl,HA,HJ2,bY,lI,HB⟩:=hcut
  cases kq with
  |zero=>exact absurd HA.out (by simp [dI.j0])
  |succ D8=>
   have H:=HA.out;clear HA;simp only [dI.j0] at H
   replace H:=ib H;rcases H with ⟨rfl,H⟩|⟨rfl,H⟩
   ·obtain rfl:=si H;go_wp2
    go_ret
    exact⟨_,nD,aMC,cK pX.out⟩
   replace H:=ba H;obtain⟨aVk,A21,H⟩:=H;replace H:=ba H;obtain⟨kS,A22,H⟩:=H
   have H' :=am H
   clear H;have⟨aSV,aSW,aTf,aTg⟩:=oP lI.out
   go_wp2_with (first|(go_at_call 23;(with_reducible refine(fT.calls D8 _ _ fI _ _ bV aVk _ ?dS pY.out ?mU sN.out A21.out).mono ?_);(case dS=>exact cq (Kd.dV p9.out HB.out));(case mU=>exact cq (Kd.dV nE.out HB.out));rintro e w24 ⟨bTC,rfl,ho0,hb⟩;replace bY:=kr bY hb;have aDD:=am (Kd.dZ ho0 (aH (cK pX.out)));replace lI:=kb lI hb;replace HB:=st1 pX hb;clear hb;clear ho0;obtain⟨bE8,bGv,a0h⟩:=Kd.bS aDD.out;subst a0h)|(go_at_call 22;(with_reducible refine(jN.calls D8 _ _ aVk a1 2 kS _ ?dS ((Kd.aM aDD.out).2.1) A22.out).mono ?_);(case dS=>exact cq (Kd.aM aDD.out).2.2);rintro e w26 ⟨bTD,rfl,ho0,hb⟩;replace aDD:=kr aDD hb;have aV9:=am (Kd.dZ (Kd.qW ho0 (Kd.pJ (rq bY.out))) (aH (cK pX.out)));replace bY:=am (Kd.lT (rq bY.out) (Kd.jE ho0) hb);replace lI:=kb lI hb;replace HB:=st1 pX hb;clear hb;clear ho0;obtain⟨aRJ,aKx,aNF⟩:=Kd.bS aV9.out;subst aNF))
   go_loopg [5,28] D8 (fun kq v5 v28 w' => ∃(jZ:List (kG)) (fB:Int),v28= .int .i64 fB∧aC (dI.l0 kq jZ kS (kS.length:Int) fB=some r)∧aC (kq≤D8)∧aC (Kd.R vT 40 w' w.heap.size (fun k_=>some k_≠((.slice aRJ kS.length aKx):Value).ownBlock) v5 jZ)∧aC (Kd.R vT 40 w' w.heap.size (fun k_=>some k_≠(v5:Value).ownBlock) (.slice aRJ kS.length aKx) kS)∧aC (w'.heap[D5]?=some (.cells #[(.slice mH fI.length mI),(.slice nQ bV.length lH)] 26 (0,0)))∧aC (Below w.heap.size w w'))
   case atStart=>exact⟨(aHc),(0),sq,H',⟨Nat.le_refl _⟩,⟨rq (Kd.bA bY.out (fun _ hk=>hk.2))⟩,⟨rq (Kd.bA aV9.out (fun _ hk=>hk.2))⟩,⟨bq lI.out⟩,⟨cK pX.out⟩⟩
   case round=>
    clear H';clear aSV aSW aTf aTg;obtain⟨jZ,fB,rfl,HA,uP,bY,kP,lI,HB⟩:=hrel
    cases gk with
    |zero=>exact absurd HA.out (by simp [dI.l0])
    |succ k2=>
     have H:=HA.out;clear HA;simp only [dI.l0] at H
     replace H:=iv H;rcases H with ⟨aXk,H⟩|⟨aXk,H⟩
     ·replace H:=it H;obtain⟨UD,H⟩:=H;replace H:=it H;obtain⟨JE,H⟩:=H
      by_cases c31:(jZ.length:Int)>0
      ·rw [if_pos c31] at H;have UE:=decide_eq_true c31
       have aNf:decide (0<jZ.length)=true:=decide_eq_true (by omega)
       clear c31;replace H:=ip H;obtain⟨c32,H⟩:=H;have OM:=decide_eq_true c32
       have aXn:decide (0<jZ.length)=true:=decide_eq_true (by omega)
       clear c32
       by_cases c33:((bD kS fB).f1)=((bD jZ 0).f1)
       ·rw [if_pos c33] at H
        have OO:(((bD kS fB).f1)==((bD jZ 0).f1))=true:=beq_iff_eq.mpr c33
        have a8H:(((bD kS fB).f1) !=((bD jZ 0).f1))=false:=bne_eq_false_iff_eq.mpr c33
        clear c33
        replace H:=ip H;obtain⟨c34,H⟩:=H;have a5H:=am c34;clear c34;obtain⟨bL6,aPu⟩: ∃y_:List (kG),y_=(jZ++[(⟨(bD kS fB).f0,(bD kS fB).f1⟩:kG)]):=⟨_,rfl⟩
        rw [←aPu] at H
        have a6N:=am aPu;clear aPu
        have H' :=am H
        clear H
        obtain⟨aHJ,aNy,aJs,aJt⟩:=pR (Kd.aM kP.out).2.2 fB dt dt;cases aNy;have bBa:=e0 fB;have bBh:=e1 fB (kS.length:Int)
        go_wp2_with (refine gd 7 ?_;refine bx 7 (cs:= #[.string (⟨#[]⟩:ByteArray), .int .i64 0]) (t:=40) ?_;intro iA hg w35 bT hb;replace bY:=am (Kd.nP (Kd.BR (rq bY.out) iA (Nat.le_of_eq hg.symm)) hb);replace kP:=am (Kd.nP (Kd.BR (rq kP.out) iA (Nat.le_of_eq hg.symm)) hb);have NL:=am (bT);have aVX:=am ((aKk:w.heap.size≤iA));have NM:=am ((aKk:w.heap.size≤iA));replace HB:=st1 pX hb;have xV:=am ((aZo:D5≠iA));have EZ:=am ((aZp:iA≠D5));replace lI:=kb lI hb;clear hb bT hg;have bPk:=EZ.out;have bPV:=xV.out;have⟨_,_,_,_⟩:=oP NL.out;obtain⟨a3A,aZI,a0j⟩:=Kd.bS bY.out;subst a0j;have aGG:0≤(0:Int):=(by omega);have aGJ:0<(jZ.length:Int):=dt;obtain⟨aAJ,aZW,qD,qE⟩:=pR (Kd.aM bY.out).2.2 0 aGG aGJ;cases aZW;have bBm:(0<jZ.length)=True:=eq_true (by omega);rw [show((0:Int)).toNat=0 from rfl] at qD;rw [show 0*2=0 from rfl] at qD;rw [Addr.add_zero'] at qD;rw [show((0:Int)).toNat=0 from rfl] at qE;rw [show 0*2=0 from rfl] at qE;rw [Addr.add_zero'] at qE;have KM:aAJ.block≠iA:=aSo;have KN:aAJ.block≠iA:=aSo;replace qD:=(cell_far (p:=⟨iA,0,none⟩) aSm (.string ((bD kS fB).f0))).trans qD;replace qE:=(cell_far (p:=⟨iA,0,none⟩) aSm (.string ((bD kS fB).f0))).trans qE;replace qD:=(cell_far (p:=⟨iA,1,none⟩) aSn (.int .i64 ((bD kS fB).f1))).trans qD;replace qE:=(cell_far (p:=⟨iA,1,none⟩) aSn (.int .i64 ((bD kS fB).f1))).trans qE;have aUc:=fun(n_:Nat)=>(show((((w35.drewN n_).setCell ⟨iA,0,none⟩ (.string ((bD kS fB).f0))).setCell ⟨iA,1,none⟩ (.int .i64 ((bD kS fB).f1)))).cell? _=some _ from qD);have aUd:=fun(n_:Nat)=>(show((((w35.drewN n_).setCell ⟨iA,0,none⟩ (.string ((bD kS fB).f0))).setCell ⟨iA,1,none⟩ (.int .i64 ((bD kS fB).f1)))).cell? _=some _ from qE);clear KM;clear KN;replace aGG:=eq_true aGG;replace aGJ:=eq_true aGJ)
        repeat(go_quiet (fail);try go_wp2_with ((with_reducible refine gL (b:= .append) (xs:= #[.tmp 44, .tmp 46]) rfl ?_);at_builtin;refine Kd.oI vT (w0:=w) w.heap.size rfl (.tmp 44) (.tmp 46) 29 40 (.agg #[(.string ⟨#[]⟩),(.int .i64 0)]) 24 rfl Tryz.underlying29 xD rfl (by decide) (by omega) (.slice (some aAJ) jZ.length aZI) jZ (⟨(bD kS fB).f0,(bD kS fB).f1⟩:kG) [.string ((bD kS fB).f0), .int .i64 ((bD kS fB).f1)] (fun k_=>some k_≠(.slice (some aHJ) kS.length aKx:Value).ownBlock∧k_≠iA) (fun _=>False) rfl aWL ?aP (fun _ hk=>hk.elim) ?aF ?aO ?aB ?aS ?aL ?_;(case aP=>exact D7 _ _ _ (⟨(bD kS fB).f0,(bD kS fB).f1⟩:kG));(case aB=>exact(rP pX.out NM.out));(case aF=>exact(fun k_ hk=>⟨Kd.nL (Kd.pJ (rq ((Kd.bA (Kd.bZ (p:=⟨iA,1,none⟩) (Kd.bZ (p:=⟨iA,0,none⟩) (Kd.bA kP.out (fun k_ hk=>(⟨hk,hk.2⟩:_∧k_≠iA))) (fun _ hk=>hk.2) (.string ((bD kS fB).f0))) (fun _ hk=>hk.2) (.int .i64 ((bD kS fB).f1))) (fun _ h_=>h_.1))))) k_ hk,Kd.pV (g:=iA) (o:= .cells #[.string ((bD kS fB).f0), .int .i64 ((bD kS fB).f1)] 40 (0,0)) b5_ k_ hk⟩));(case aO=>exact(rq (Kd.bA (Kd.bZ (p:=⟨iA,1,none⟩) (Kd.bZ (p:=⟨iA,0,none⟩) (Kd.bA bY.out (fun k_ hk=>(⟨hk,hk.2⟩:_∧k_≠iA))) (fun _ hk=>hk.2) (.string ((bD kS fB).f0))) (fun _ hk=>hk.2) (.int .i64 ((bD kS fB).f1))) (fun _ hk=>⟨hk.1.1,hk.1.2⟩))));(case aS=>exact(aH (rP pX.out NM.out)));(case aL=>have:=a5H.out;omega);intro bTE w39 ho hb hg hat;rw [←a6N.out] at ho;replace kP:=am (Kd.oO (ok:=(fun k_=>k_≠iA)) (rq (Kd.bA (Kd.bZ (p:=⟨iA,1,none⟩) (Kd.bZ (p:=⟨iA,0,none⟩) (Kd.bA kP.out (fun k_ hk=>(⟨hk,hk.2⟩:_∧k_≠iA))) (fun _ hk=>hk.2) (.string ((bD kS fB).f0))) (fun _ hk=>hk.2) (.int .i64 ((bD kS fB).f1))) (fun _ hk=>⟨hk.1.2,hk.1.1⟩))) hg hat);replace lI:=am (gK (g:=D5) (o:= .cells #[.slice mH fI.length mI, .slice nQ bV.length lH] 26 (0,0)) a8n hg (Kd.zO bY.out lI.out (by decide)));replace NL:=am (gK (g:=iA) (o:= .cells #[.string ((bD kS fB).f0), .int .i64 ((bD kS fB).f1)] 40 (0,0)) b5_ hg (Kd.I6 bY.out (fun _ hk=>hk.2)));replace HB:=am (hb);have a4O:=am (ho);clear bY;clear ho hb hg hat))
        go_roundg k2
        case measure=>have:=HJ2.out;have:=uP.out;omega
        case rel=>exact⟨(bL6),(wrap64 (fB+1)),sq,H',⟨by have:=HJ2.out;have:=uP.out;omega⟩,⟨rq (Kd.bA a4O.out (fun _ hk=>hk.1))⟩,⟨rq (Kd.bA kP.out (fun _ hk=>hk.2))⟩,⟨bq lI.out⟩,⟨rP pX.out NM.out⟩⟩
       rw [if_neg c33] at H
       have OO:(((bD kS fB).f1)==((bD jZ 0).f1))=false:=beq_eq_false_iff_ne.mpr c33
       have a8H:(((bD kS fB).f1) !=((bD jZ 0).f1))=true:=bne_iff_ne.mpr c33
       obtain rfl:=si H
       obtain⟨aHJ,aNy,aJs,aJt⟩:=pR (Kd.aM kP.out).2.2 fB dt dt;cases aNy;have bBa:=e0 fB;have bBh:=e1 fB (kS.length:Int)
       go_wp2_with (refine gd 7 ?_;refine bx 7 (cs:= #[.string (⟨#[]⟩:ByteArray), .int .i64 0]) (t:=40) ?_;intro iA hg w40 bT hb;replace bY:=am (Kd.nP (Kd.BR (rq bY.out) iA (Nat.le_of_eq hg.symm)) hb);replace kP:=am (Kd.nP (Kd.BR (rq kP.out) iA (Nat.le_of_eq hg.symm)) hb);have NL:=am (bT);have aVX:=am ((aKk:w.heap.size≤iA));have NM:=am ((aKk:w.heap.size≤iA));replace HB:=st1 pX hb;have xV:=am ((aZo:D5≠iA));have EZ:=am ((aZp:iA≠D5));replace lI:=kb lI hb;clear hb bT hg;have aYh:=EZ.out;have aYi:=xV.out;have⟨_,_,_,_⟩:=oP NL.out;obtain⟨bE9,bGw,a0l⟩:=Kd.bS bY.out;subst a0l;have aGG:0≤(0:Int):=(by omega);have aGJ:0<(jZ.length:Int):=dt;obtain⟨aAJ,aZW,qD,qE⟩:=pR (Kd.aM bY.out).2.2 0 aGG aGJ;cases aZW;have bBm:(0<jZ.length)=True:=eq_true (by omega);rw [show((0:Int)).toNat=0 from rfl] at qD;rw [show 0*2=0 from rfl] at qD;rw [Addr.add_zero'] at qD;rw [show((0:Int)).toNat=0 from rfl] at qE;rw [show 0*2=0 from rfl] at qE;rw [Addr.add_zero'] at qE;have KM:aAJ.block≠iA:=aSo;have KN:aAJ.block≠iA:=aSo;replace qD:=(cell_far (p:=⟨iA,0,none⟩) aSm (.string ((bD kS fB).f0))).trans qD;replace qE:=(cell_far (p:=⟨iA,0,none⟩) aSm (.string ((bD kS fB).f0))).trans qE;replace qD:=(cell_far (p:=⟨iA,1,none⟩) aSn (.int .i64 ((bD kS fB).f1))).trans qD;replace qE:=(cell_far (p:=⟨iA,1,none⟩) aSn (.int .i64 ((bD kS fB).f1))).trans qE;have aUc:=fun(n_:Nat)=>(show((((w40.drewN n_).setCell ⟨iA,0,none⟩ (.string ((bD kS fB).f0))).setCell ⟨iA,1,none⟩ (.int .i64 ((bD kS fB).f1)))).cell? _=some _ from qD);have aUd:=fun(n_:Nat)=>(show((((w40.drewN n_).setCell ⟨iA,0,none⟩ (.string ((bD kS fB).f0))).setCell ⟨iA,1,none⟩ (.int .i64 ((bD kS fB).f1)))).cell? _=some _ from qE);clear KM;clear KN;replace aGG:=eq_true aGG;replace aGJ:=eq_true aGJ)
       repeat(go_quiet (fail);try go_wp2)
       go_ret
       exact⟨_,nD,by(with_reducible repeat(apply Kd.zN));exact Kd.bA (Kd.bZ (p:=⟨iA,1,none⟩) (Kd.bZ (p:=⟨iA,0,none⟩) (Kd.bA bY.out (fun k_ hk=>(⟨hk,hk.2⟩:_∧k_≠iA))) (fun _ hk=>hk.2) (.string ((bD kS fB).f0))) (fun _ hk=>hk.2) (.int .i64 ((bD kS fB).f1))) (fun _ hk=>trivial),rP pX.out NM.out⟩
      rw [if_neg c31] at H;have UE:=decide_eq_false c31
      have aNf:decide (0<jZ.length)=false:=decide_eq_false (by omega)
      clear c31
      replace H:=ip H;obtain⟨c44,H⟩:=H;have a5J:=am c44;clear c44;obtain⟨bL7,aPv⟩: ∃y_:List (kG),y_=(jZ++[(⟨(bD kS fB).f0,(bD kS fB).f1⟩:kG)]):=⟨_,rfl⟩
      rw [←aPv] at H
      have a6O:=am aPv;clear aPv
      have H' :=am H
      clear H
      obtain⟨aHJ,aNy,aJs,aJt⟩:=pR (Kd.aM kP.out).2.2 fB dt dt;cases aNy;have bBa:=e0 fB;have bBh:=e1 fB (kS.length:Int)
      go_wp2_with (refine gd 7 ?_;refine bx 7 (cs:= #[.string (⟨#[]⟩:ByteArray), .int .i64 0]) (t:=40) ?_;intro iA hg w45 bT hb;replace bY:=am (Kd.nP (Kd.BR (rq bY.out) iA (Nat.le_of_eq hg.symm)) hb);replace kP:=am (Kd.nP (Kd.BR (rq kP.out) iA (Nat.le_of_eq hg.symm)) hb);have NL:=am (bT);have aVX:=am ((aKk:w.heap.size≤iA));have NM:=am ((aKk:w.heap.size≤iA));replace HB:=st1 pX hb;have xV:=am ((aZo:D5≠iA));have EZ:=am ((aZp:iA≠D5));replace lI:=kb lI hb;clear hb bT hg;have bPp:=EZ.out;have bP0:=xV.out;have⟨_,_,_,_⟩:=oP NL.out;obtain⟨bFb,bGy,bHK⟩:=Kd.bS bY.out;subst bHK)
      repeat(go_quiet (fail);try go_wp2_with ((with_reducible refine gL (b:= .append) (xs:= #[.tmp 44, .tmp 46]) rfl ?_);at_builtin;refine Kd.oI vT (w0:=w) w.heap.size rfl (.tmp 44) (.tmp 46) 29 40 (.agg #[(.string ⟨#[]⟩),(.int .i64 0)]) 24 rfl Tryz.underlying29 xD rfl (by decide) (by omega) (.slice bFb jZ.length bGy) jZ (⟨(bD kS fB).f0,(bD kS fB).f1⟩:kG) [.string ((bD kS fB).f0), .int .i64 ((bD kS fB).f1)] (fun k_=>some k_≠(.slice (some aHJ) kS.length aKx:Value).ownBlock∧k_≠iA) (fun _=>False) rfl aWL ?aP (fun _ hk=>hk.elim) ?aF ?aO ?aB ?aS ?aL ?_;(case aP=>exact D7 _ _ _ (⟨(bD kS fB).f0,(bD kS fB).f1⟩:kG));(case aB=>exact(rP pX.out NM.out));(case aF=>exact(fun k_ hk=>⟨Kd.nL (Kd.pJ (rq ((Kd.bA (Kd.bZ (p:=⟨iA,1,none⟩) (Kd.bZ (p:=⟨iA,0,none⟩) (Kd.bA kP.out (fun k_ hk=>(⟨hk,hk.2⟩:_∧k_≠iA))) (fun _ hk=>hk.2) (.string ((bD kS fB).f0))) (fun _ hk=>hk.2) (.int .i64 ((bD kS fB).f1))) (fun _ h_=>h_.1))))) k_ hk,Kd.pV (g:=iA) (o:= .cells #[.string ((bD kS fB).f0), .int .i64 ((bD kS fB).f1)] 40 (0,0)) b5_ k_ hk⟩));(case aO=>exact(rq (Kd.bA (Kd.bZ (p:=⟨iA,1,none⟩) (Kd.bZ (p:=⟨iA,0,none⟩) (Kd.bA bY.out (fun k_ hk=>(⟨hk,hk.2⟩:_∧k_≠iA))) (fun _ hk=>hk.2) (.string ((bD kS fB).f0))) (fun _ hk=>hk.2) (.int .i64 ((bD kS fB).f1))) (fun _ hk=>⟨hk.1.1,hk.1.2⟩))));(case aS=>exact(aH (rP pX.out NM.out)));(case aL=>have:=a5J.out;omega);intro bTF w49 ho hb hg hat;rw [←a6O.out] at ho;replace kP:=am (Kd.oO (ok:=(fun k_=>k_≠iA)) (rq (Kd.bA (Kd.bZ (p:=⟨iA,1,none⟩) (Kd.bZ (p:=⟨iA,0,none⟩) (Kd.bA kP.out (fun k_ hk=>(⟨hk,hk.2⟩:_∧k_≠iA))) (fun _ hk=>hk.2) (.string ((bD kS fB).f0))) (fun _ hk=>hk.2) (.int .i64 ((bD kS fB).f1))) (fun _ hk=>⟨hk.1.2,hk.1.1⟩))) hg hat);replace lI:=am (gK (g:=D5) (o:= .cells #[.slice mH fI.length mI, .slice nQ bV.length lH] 26 (0,0)) a8n hg (Kd.zO bY.out lI.out (by decide)));replace NL:=am (gK (g:=iA) (o:= .cells #[.string ((bD kS fB).f0), .int .i64 ((bD kS fB).f1)] 40 (0,0)) b5_ hg (Kd.I6 bY.out (fun _ hk=>hk.2)));replace HB:=am (hb);have a4P:=am (ho);clear bY;clear ho hb hg hat))
      go_roundg k2
      case measure=>have:=HJ2.out;have:=uP.out;omega
      case rel=>exact⟨(bL7),(wrap64 (fB+1)),sq,H',⟨by have:=HJ2.out;have:=uP.out;omega⟩,⟨rq (Kd.bA a4P.out (fun _ hk=>hk.1))⟩,⟨rq (Kd.bA kP.out (fun _ hk=>hk.2))⟩,⟨bq lI.out⟩,⟨rP pX.out NM.out⟩⟩
     obtain rfl:=si H;go_wp2
     go_ret
     exact⟨_,nD,aSu,cK pX.out⟩
def gG.l0:Nat→List (kG)→List (kG)→Int→Option (Bool)
 |0,_,_,_=>none
 |k+1,x0,x1,x5=>if x5<(x0.length:Int)then(if 0≤x5 then(if x5<(x1.length:Int)then(if(!((((bD x0 x5).f0).toList)==(((bD x1 x5).f0).toList))||(!(((bD x0 x5).f1)==((bD x1 x5).f1))))=true then(some false)else(gG.l0 k x0 x1 (wrap64 (x5+1))))else(none))else(none))else(some true)
def gG.f (k:Nat) (l0:List (kG)) (l1:List (kG)):Option (Bool):=if(l0.length:Int)=(l1.length:Int)then(gG.l0 k l0 l1 0)else(some false)
theorem gG.calls (k:Nat) (A0:Option Addr) (c0:Nat) (l0:List (kG)) (A1:Option Addr) (c1:Nat) (l1:List (kG)) (r:Bool) (w:World) (hr0:Kd.C vT w A0 l0.length l0) (hc0:l0.length≤c0) (hr1:Kd.C vT w A1 l1.length l1) (hc1:l1.length≤c1) (h:gG.f k l0 l1=some r):
  Calls Tryz.prog 6 #[.slice A0 l0.length c0, .slice A1 l1.length c1] w fun e w' =>e= .returned (.bool r)∧iB w w' :=by
 have aOv:=Tryz.underlying40;have lX:=am hr0;have vX:=am hc0;clear hr0 hc0;have HR1:=am hr1;have HC1:=am hc1;clear hr1 hc1
 have H:=h;unfold gG.f at H
 clear h
 by_cases c3:(l0.length:Int)=(l1.length:Int)
 ·rw [if_pos c3] at H
  have oG:((l0.length:Int)==(l1.length:Int))=true:=beq_iff_eq.mpr c3
  have GA:((l0.length:Int) !=(l1.length:Int))=false:=bne_eq_false_iff_eq.mpr c3
  have a8K:(l0.length==l1.length)=true:=by(simp at c3⊢;omega)
  clear c3
  have H' :=am H
  clear H;go_enter Tryz.func6,Tryz.ntmps6;go_wp2
  go_loopg [5] k (fun kq v5 w' => ∃(bI:Int),v5= .int .i64 bI∧aC (gG.l0 kq l0 l1 bI=some r)∧aC (kq≤k)∧iB w w')
  case atStart=>exact⟨(0),sq,H',⟨Nat.le_refl _⟩,dr⟩
  case round=>
   clear H';clear oG GA a8K;obtain⟨bI,rfl,HA,lM,⟨m1,rfl⟩⟩:=hrel
   cases gk with
   |zero=>exact absurd HA.out (by simp [gG.l0])
   |succ k1=>
    have H:=HA.out;clear HA;simp only [gG.l0] at H
    replace H:=iv H;rcases H with ⟨qZ,H⟩|⟨qZ,H⟩
    ·replace H:=it H;obtain⟨oL,H⟩:=H;replace H:=it H;obtain⟨sW,H⟩:=H
     by_cases c7:(!((((bD l0 bI).f0).toList)==(((bD l1 bI).f0).toList))||(!(((bD l0 bI).f1)==((bD l1 bI).f1))))=true
     ·rw [if_pos c7] at H
      have wR:(!((((bD l0 bI).f0).toList)==(((bD l1 bI).f0).toList))||(!(((bD l0 bI).f1)==((bD l1 bI).f1))))=true:=c7
      clear c7;obtain rfl:=si H
      obtain⟨a7O,aZX,aTT,aTU⟩:=pR lX.out bI dt dt;cases aZX;have bJW:=e0 bI;have bKG:=e1 bI (l0.length:Int)
      obtain⟨a7P,aZY,aTV,aTW⟩:=pR HR1.out bI dt dt;cases aZY
      have bJX:=e0 bI;have bKH:=e1 bI (l1.length:Int);go_wp2
      repeat(go_quiet (fail);try go_wp2)
      go_ret
      exact⟨sq,dr⟩
     rw [if_neg c7] at H
     have wR:(!((((bD l0 bI).f0).toList)==(((bD l1 bI).f0).toList))||(!(((bD l0 bI).f1)==((bD l1 bI).f1))))=false:=by simpa using c7
     clear c7
     have H' :=am H
     clear H
     obtain⟨a7O,aZX,aTT,aTU⟩:=pR lX.out bI dt dt;cases aZX;have bJW:=e0 bI;have bKG:=e1 bI (l0.length:Int)
     obtain⟨a7P,aZY,aTV,aTW⟩:=pR HR1.out bI dt dt;cases aZY
     have bJX:=e0 bI;have bKH:=e1 bI (l1.length:Int);go_wp2
     repeat(go_quiet (fail);try go_wp2)
     go_roundg k1
     case measure=>have:=lM.out;omega
     case rel=>exact⟨(wrap64 (bI+1)),sq,H',⟨rO⟩,dr⟩
    obtain rfl:=si H;go_wp2
    go_ret
    exact⟨sq,dr⟩
 rw [if_neg c3] at H
 have oG:((l0.length:Int)==(l1.length:Int))=false:=beq_eq_false_iff_ne.mpr c3
 have GA:((l0.length:Int) !=(l1.length:Int))=true:=bne_iff_ne.mpr c3
 have a8K:(l0.length==l1.length)=false:=by(simp at c3⊢;omega)
 obtain rfl:=si H;go_enter Tryz.func6,Tryz.ntmps6;go_wp2
 go_ret
 exact⟨sq,dr⟩
def nO.l0:Nat→List ByteArray→ByteArray→Int→Option (Bool)
 |0,_,_,_=>none
 |k+1,x0,x1,x5=>if x5<(x0.length:Int)then(if 0≤x5 then(if(bP ByteArray.empty x0 x5).toList=x1.toList then(some true)else(nO.l0 k x0 x1 (wrap64 (x5+1))))else(none))else(some false)
def nO.f (k:Nat) (l0:List ByteArray) (a1:ByteArray):Option (Bool):=nO.l0 k l0 a1 0
theorem nO.calls (k:Nat) (A0:Option Addr) (c0:Nat) (l0:List ByteArray) (a1:ByteArray) (r:Bool) (w:World) (hr0:Kd.C Kd.string w A0 l0.length l0) (hc0:l0.length≤c0) (h:nO.f k l0 a1=some r):
  Calls Tryz.prog 25 #[.slice A0 l0.length c0, .string a1] w fun e w' =>e= .returned (.bool r)∧iB w w' :=by
 have lX:=am hr0;have vX:=am hc0;clear hr0 hc0
 have H:=h;unfold nO.f at H
 clear h
 have H' :=am H
 clear H;go_enter Tryz.func25,Tryz.ntmps25;go_wp2
 go_loopg [5] k (fun kq v5 w' => ∃(bI:Int),v5= .int .i64 bI∧aC (nO.l0 kq l0 a1 bI=some r)∧aC (kq≤k)∧iB w w')
 case atStart=>exact⟨(0),sq,H',⟨Nat.le_refl _⟩,dr⟩
 case round=>
  clear H';obtain⟨bI,rfl,HA,lM,⟨m1,rfl⟩⟩:=hrel
  cases gk with
  |zero=>exact absurd HA.out (by simp [nO.l0])
  |succ k1=>
   have H:=HA.out;clear HA;simp only [nO.l0] at H
   replace H:=iv H;rcases H with ⟨oG,H⟩|⟨oG,H⟩
   ·replace H:=it H;obtain⟨qZ,H⟩:=H
    by_cases c5:(bP ByteArray.empty l0 bI).toList=a1.toList
    ·rw [if_pos c5] at H
     have oL:((bP ByteArray.empty l0 bI).toList==a1.toList)=true:=beq_iff_eq.mpr c5
     have JF:((bP ByteArray.empty l0 bI).toList !=a1.toList)=false:=bne_eq_false_iff_eq.mpr c5
     clear c5;obtain rfl:=si H
     obtain⟨a7Q,aZZ,aTX,bJY,bKI⟩:=CY lX.out bI;cases aZZ
     go_wp2;go_ret
     exact⟨sq,dr⟩
    rw [if_neg c5] at H
    have oL:((bP ByteArray.empty l0 bI).toList==a1.toList)=false:=beq_eq_false_iff_ne.mpr c5
    have JF:((bP ByteArray.empty l0 bI).toList !=a1.toList)=true:=bne_iff_ne.mpr c5
    have H' :=am H
    clear H
    obtain⟨a7Q,aZZ,aTX,bJY,bKI⟩:=CY lX.out bI;cases aZZ
    go_wp2
    go_roundg k1
    case measure=>have:=lM.out;omega
    case rel=>exact⟨(wrap64 (bI+1)),sq,H',⟨rO⟩,dr⟩
   obtain rfl:=si H;go_wp2;go_ret
   exact⟨sq,dr⟩
end Go.Proofs.YtpljfjbhlboffaaGreat.eH

import Derived.Test.YtpljfjbhlboffaaGreatProg
import Derived.Laws.Cover1
import Derived.Below
import Derived.Deep.Draws
import Derived.Deep.AppendLies
import Derived.Maps.AppendAt
import Derived.OwnWalk
import Derived.Laws.BytesArg
import Derived.Laws.MakeOwn
import Derived.Laws.OwnMore
import Derived.Deep.OwnRows
import Derived.Tactics
import Derived.Lib.ConvBytes
import Derived.Laws.Slices
import Derived.WalkKit
import Derived.KernelRfl
import Derived.RowKit3
import Derived.Deep.LoopGhost
import Derived.Deep.QuietTactic
import Derived.BigQuiet
import Derived.WideLaws
import Derived.Deep.DeepCutAuto
import Derived.Deep.CutBlock
import Derived.Deep.RegionHeld3
import Derived.Laws.Rows
import Derived.Lib.AppendStr
import Derived.ArgAppend
import Derived.Laws.IdiomCopy
import Derived.OrdersHeld
import Derived.Laws.BitsLemmas
import Derived.RowKit
import Derived.Test.YtpljfjbhlboffaaGreatVMLaySortG
import Derived.Test.YtpljfjbhlboffaaGreatVMLayJoin
import Derived.Test.YtpljfjbhlboffaaGreatVMLaySortM
import Derived.Maps.OwnSet
import Derived.Maps.RangeWalk
import Derived.Lib.OwnBridge
import Derived.Sort.OwnSorted
import Derived.Carry
import Derived.Test.YtpljfjbhlboffaaGreatVMNer
import Derived.Test.YtpljfjbhlboffaaGreatVMSrt
import Derived.Test.YtpljfjbhlboffaaGreatVMLaySort
import Derived.Test.YtpljfjbhlboffaaGreatVMLayHas
import Derived.Test.YtpljfjbhlboffaaGreatVWords
import Derived.Test.YtpljfjbhlboffaaGreatVLast
import Derived.Test.YtpljfjbhlboffaaGreatVTab
import Derived.Test.YtpljfjbhlboffaaGreatVApart
import Derived.Test.YtpljfjbhlboffaaGreatVFoot
import Derived.Test.YtpljfjbhlboffaaGreatVKept
import Derived.Test.YtpljfjbhlboffaaGreatVShare
import Derived.Test.YtpljfjbhlboffaaGreatVN
import Derived.Test.YtpljfjbhlboffaaGreatVFootNe
import Derived.Test.YtpljfjbhlboffaaGreatVEqStruct
import Derived.Test.YtpljfjbhlboffaaGreatVRepsOne
import Derived.Test.YtpljfjbhlboffaaGreatVGuard
import Derived.Test.YtpljfjbhlboffaaGreatVMore
import Derived.Test.YtpljfjbhlboffaaGreatVMSh2
namespace Go.Proofs.YtpljfjbhlboffaaGreat.eH
open Go.RowKit Go.Proofs.YtpljfjbhlboffaaGreatW.bJ Go.Proofs.YtpljfjbhlboffaaGreatW.gI Go.Proofs.YtpljfjbhlboffaaGreatW.jC Go.Proofs.YtpljfjbhlboffaaGreat.Sh
attribute [local go_sem] rD rF uY uZ pE pF rE rG
set_option linter.unusedVariables false
set_option linter.unusedSimpArgs false
set_option maxHeartbeats 8000000
set_option maxRecDepth 100000
def a9t:Option Int→Value
 |none=> .nilIface
 |some c=> .iface 0 (.int .i64 c)
theorem wH:a9t none= .nilIface:=rfl
theorem wI (c:Int):a9t (some c)= .iface 0 (.int .i64 c):=rfl
theorem YI:(Tryz.prog.info? 3).map (fun i=>(i.zero,i.size,i.bytes))=some (some (.int .i64 0),1,8):=by kernel_rfl
theorem bQl:(Tryz.prog.info? 4).map (fun i=>(i.zero,i.size,i.bytes))=some (some (.bool false),1,1):=by kernel_rfl
theorem aP3:(Tryz.prog.info? 5).map (fun i=>(i.zero,i.size,i.bytes))=some (some (.int .u8 0),1,1):=by kernel_rfl
theorem zI:(Tryz.prog.info? 9).map (fun i=>(i.zero,i.size,i.bytes))=some (some (.string ⟨#[]⟩),1,16):=by kernel_rfl
theorem xD:(Tryz.prog.info? 40).map (fun i=>(i.zero,i.size,i.bytes))=some (some (.agg #[(.string ⟨#[]⟩),(.int .i64 0)]),2,24):=by kernel_rfl
theorem aP4:(Tryz.prog.info? 56).map (fun i=>(i.zero,i.size,i.bytes))=some (some (.agg #[(.string ⟨#[]⟩),(.string ⟨#[]⟩)]),2,32):=by kernel_rfl
theorem aP5:(Tryz.prog.info? 81).map (fun i=>(i.zero,i.size,i.bytes))=some (some (.slice none 0 0),1,24):=by kernel_rfl
theorem aCU:(Tryz.prog.info? 87).map (fun i=>(i.zero,i.size,i.bytes))=some (some (.agg #[(.string ⟨#[]⟩),(.bool false),(.string ⟨#[]⟩),(.string ⟨#[]⟩),(.string ⟨#[]⟩)]),5,72):=by kernel_rfl
structure kH where
 f0:ByteArray
 f1:Bool
 f2:ByteArray
 f3:ByteArray
 f4:ByteArray
def z87:kH:=⟨(⟨#[]⟩:ByteArray),false,(⟨#[]⟩:ByteArray),(⟨#[]⟩:ByteArray),(⟨#[]⟩:ByteArray)⟩
def yG:Kd kH:=Kd.iso (Kd.pair Kd.string (Kd.pair Kd.bool (Kd.pair Kd.string (Kd.pair Kd.string Kd.string)))) (fun x:kH=>(x.f0,x.f1,x.f2,x.f3,x.f4))
theorem aQg {w:World} {x:kH} {cs:List Value} (h:yG.K w x cs):cs=[.string x.f0, .bool x.f1, .string x.f2, .string x.f3, .string x.f4]:=by
 obtain⟨_,_,rfl,rfl,⟨_,_,rfl,rfl,⟨_,_,rfl,rfl,⟨_,_,rfl,rfl,rfl⟩⟩⟩⟩:=h
 exact rfl
theorem a3t {w:World} {base:Nat} {ok:Nat→Prop} {x:kH} {cs:List Value} (h:yG.M w base ok x cs):cs=[.string x.f0, .bool x.f1, .string x.f2, .string x.f3, .string x.f4]:=by
 obtain⟨_,_,rfl,rfl,⟨_,_,rfl,rfl,⟨_,_,rfl,rfl,⟨_,_,rfl,rfl,rfl⟩⟩⟩⟩:=h
 exact rfl
theorem a2d (w:World) (x:kH):yG.K w x [.string x.f0, .bool x.f1, .string x.f2, .string x.f3, .string x.f4]:=⟨[.string x.f0],[.bool x.f1, .string x.f2, .string x.f3, .string x.f4],rfl,rfl,⟨[.bool x.f1],[.string x.f2, .string x.f3, .string x.f4],rfl,rfl,⟨[.string x.f2],[.string x.f3, .string x.f4],rfl,rfl,⟨[.string x.f3],[.string x.f4],rfl,rfl,rfl⟩⟩⟩⟩
theorem yH (w:World) (base:Nat) (ok:Nat→Prop) (x:kH):yG.M w base ok x [.string x.f0, .bool x.f1, .string x.f2, .string x.f3, .string x.f4]:=⟨[.string x.f0],[.bool x.f1, .string x.f2, .string x.f3, .string x.f4],rfl,rfl,⟨[.bool x.f1],[.string x.f2, .string x.f3, .string x.f4],rfl,rfl,⟨[.string x.f2],[.string x.f3, .string x.f4],rfl,rfl,⟨[.string x.f3],[.string x.f4],rfl,rfl,rfl⟩⟩⟩⟩
theorem bEo (W:World) (ok:Nat→Prop) (x:kH):Kd.FK yG W ok x [.string x.f0, .bool x.f1, .string x.f2, .string x.f3, .string x.f4]:=fun W2 _=>a2d W2 x
def aD (xs:List kH) (i:Int):kH:=xs.getD i.toNat z87
theorem sH {w:World} {A:Option Addr} {n:Nat} {xs:List kH} (h:Kd.C yG w A n xs) (i:Int) (h0:0≤i) (h1:i<n): ∃ad,A=some ad∧w.cell? (ad.add (i.toNat*5))=some (.string (aD xs i).f0)∧w.cell? ⟨(ad.add (i.toNat*5)).block,(ad.add (i.toNat*5)).off+1,none⟩=some (.bool (aD xs i).f1)∧w.cell? ⟨(ad.add (i.toNat*5)).block,(ad.add (i.toNat*5)).off+2,none⟩=some (.string (aD xs i).f2)∧w.cell? ⟨(ad.add (i.toNat*5)).block,(ad.add (i.toNat*5)).off+3,none⟩=some (.string (aD xs i).f3)∧w.cell? ⟨(ad.add (i.toNat*5)).block,(ad.add (i.toNat*5)).off+4,none⟩=some (.string (aD xs i).f4):=by
 obtain⟨ad,c,e,_,hK,hc0⟩:=Kd.LU h z87 i h0 h1
 have hc: ∀j u,c[j]?=some u→w.cell? (ad.add (i.toNat*5+j))=some u:=hc0
 obtain rfl:=aQg hK
 exact⟨ad,e,hc 0 _ rfl,by rw [←wG _ _ 1 (by omega)];exact hc 1 _ rfl,by rw [←wG _ _ 2 (by omega)];exact hc 2 _ rfl,by rw [←wG _ _ 3 (by omega)];exact hc 3 _ rfl,by rw [←wG _ _ 4 (by omega)];exact hc 4 _ rfl⟩
structure sV where
 f0:ByteArray
 f1:ByteArray
def z56:sV:=⟨(⟨#[]⟩:ByteArray),(⟨#[]⟩:ByteArray)⟩
def NK:Kd sV:=Kd.iso (Kd.pair Kd.string Kd.string) (fun x:sV=>(x.f0,x.f1))
theorem aQe {w:World} {x:sV} {cs:List Value} (h:NK.K w x cs):cs=[.string x.f0, .string x.f1]:=by
 obtain⟨_,_,rfl,rfl,rfl⟩:=h
 exact rfl
theorem aA4 {w:World} {base:Nat} {ok:Nat→Prop} {x:sV} {cs:List Value} (h:NK.M w base ok x cs):cs=[.string x.f0, .string x.f1]:=by
 obtain⟨_,_,rfl,rfl,rfl⟩:=h
 exact rfl
theorem a2a (w:World) (x:sV):NK.K w x [.string x.f0, .string x.f1]:=⟨[.string x.f0],[.string x.f1],rfl,rfl,rfl⟩
theorem aCZ (w:World) (base:Nat) (ok:Nat→Prop) (x:sV):NK.M w base ok x [.string x.f0, .string x.f1]:=⟨[.string x.f0],[.string x.f1],rfl,rfl,rfl⟩
theorem bEl (W:World) (ok:Nat→Prop) (x:sV):Kd.FK NK W ok x [.string x.f0, .string x.f1]:=fun W2 _=>a2a W2 x
def aX (xs:List sV) (i:Int):sV:=xs.getD i.toNat z56
theorem vH {w:World} {A:Option Addr} {n:Nat} {xs:List sV} (h:Kd.C NK w A n xs) (i:Int) (h0:0≤i) (h1:i<n): ∃ad,A=some ad∧w.cell? (ad.add (i.toNat*2))=some (.string (aX xs i).f0)∧w.cell? ⟨(ad.add (i.toNat*2)).block,(ad.add (i.toNat*2)).off+1,none⟩=some (.string (aX xs i).f1):=by
 obtain⟨ad,c,e,_,hK,hc0⟩:=Kd.LU h z56 i h0 h1
 have hc: ∀j u,c[j]?=some u→w.cell? (ad.add (i.toNat*2+j))=some u:=hc0
 obtain rfl:=aQe hK
 exact⟨ad,e,hc 0 _ rfl,by rw [←wG _ _ 1 (by omega)];exact hc 1 _ rfl⟩
def dF (xs:List (List Int)) (i:Int):(List Int):=xs.getD i.toNat ([]:List Int)
theorem DU {w:World} {A:Option Addr} {n:Nat} {xs:List (List Int)} (h:Kd.C (Kd.slice 3 (Kd.int .i64)) w A n xs) (i:Int) (h0:0≤i) (h1:i<n): ∃ad A0 c0,A=some ad∧w.cell? (ad.add i.toNat)=some (.slice A0 (dF xs i).length c0)∧(dF xs i).length≤c0∧(Kd.int .i64).C w A0 (dF xs i).length (dF xs i):=by
 obtain⟨ad,c,e,_,hK,hc0⟩:=Kd.LU h ([]:List Int) i h0 h1
 have hc: ∀j u,c[j]?=some u→w.cell? (ad.add (i.toNat*1+j))=some u:=hc0
 obtain⟨A0,c0,rfl,l0,g0⟩:=hK
 exact⟨ad,A0,c0,e,by have hq:=hc 0 _ rfl;rwa [Nat.mul_one,Nat.add_zero] at hq,l0,g0⟩
structure kG where
 f0:ByteArray
 f1:Int
def z40:kG:=⟨(⟨#[]⟩:ByteArray),(0:Int)⟩
def vT:Kd kG:=Kd.iso (Kd.pair Kd.string (Kd.int .i64)) (fun x:kG=>(x.f0,x.f1))
theorem aQd {w:World} {x:kG} {cs:List Value} (h:vT.K w x cs):cs=[.string x.f0, .int .i64 x.f1]:=by
 obtain⟨_,_,rfl,rfl,rfl⟩:=h
 exact rfl
theorem aKL {w:World} {base:Nat} {ok:Nat→Prop} {x:kG} {cs:List Value} (h:vT.M w base ok x cs):cs=[.string x.f0, .int .i64 x.f1]:=by
 obtain⟨_,_,rfl,rfl,rfl⟩:=h
 exact rfl
theorem a19 (w:World) (x:kG):vT.K w x [.string x.f0, .int .i64 x.f1]:=⟨[.string x.f0],[.int .i64 x.f1],rfl,rfl,rfl⟩
theorem D7 (w:World) (base:Nat) (ok:Nat→Prop) (x:kG):vT.M w base ok x [.string x.f0, .int .i64 x.f1]:=⟨[.string x.f0],[.int .i64 x.f1],rfl,rfl,rfl⟩
theorem bEk (W:World) (ok:Nat→Prop) (x:kG):Kd.FK vT W ok x [.string x.f0, .int .i64 x.f1]:=fun W2 _=>a19 W2 x
def bD (xs:List kG) (i:Int):kG:=xs.getD i.toNat z40
theorem pR {w:World} {A:Option Addr} {n:Nat} {xs:List kG} (h:Kd.C vT w A n xs) (i:Int) (h0:0≤i) (h1:i<n): ∃ad,A=some ad∧w.cell? (ad.add (i.toNat*2))=some (.string (bD xs i).f0)∧w.cell? ⟨(ad.add (i.toNat*2)).block,(ad.add (i.toNat*2)).off+1,none⟩=some (.int .i64 (bD xs i).f1):=by
 obtain⟨ad,c,e,_,hK,hc0⟩:=Kd.LU h z40 i h0 h1
 have hc: ∀j u,c[j]?=some u→w.cell? (ad.add (i.toNat*2+j))=some u:=hc0
 obtain rfl:=aQd hK
 exact⟨ad,e,hc 0 _ rfl,by rw [←wG _ _ 1 (by omega)];exact hc 1 _ rfl⟩
structure ER where
 f0:Int
 f1:Int
def z77:ER:=⟨(0:Int),(0:Int)⟩
def k77:Kd ER:=Kd.iso (Kd.pair (Kd.int .i64) (Kd.int .i64)) (fun x:ER=>(x.f0,x.f1))
theorem aQf {w:World} {x:ER} {cs:List Value} (h:k77.K w x cs):cs=[.int .i64 x.f0, .int .i64 x.f1]:=by
 obtain⟨_,_,rfl,rfl,rfl⟩:=h
 exact rfl
theorem a3s {w:World} {base:Nat} {ok:Nat→Prop} {x:ER} {cs:List Value} (h:k77.M w base ok x cs):cs=[.int .i64 x.f0, .int .i64 x.f1]:=by
 obtain⟨_,_,rfl,rfl,rfl⟩:=h
 exact rfl
theorem a2c (w:World) (x:ER):k77.K w x [.int .i64 x.f0, .int .i64 x.f1]:=⟨[.int .i64 x.f0],[.int .i64 x.f1],rfl,rfl,rfl⟩
theorem aUk (w:World) (base:Nat) (ok:Nat→Prop) (x:ER):k77.M w base ok x [.int .i64 x.f0, .int .i64 x.f1]:=⟨[.int .i64 x.f0],[.int .i64 x.f1],rfl,rfl,rfl⟩
theorem bEn (W:World) (ok:Nat→Prop) (x:ER):Kd.FK k77 W ok x [.int .i64 x.f0, .int .i64 x.f1]:=fun W2 _=>a2c W2 x
def bB (xs:List ER) (i:Int):ER:=xs.getD i.toNat z77
theorem SH {w:World} {A:Option Addr} {n:Nat} {xs:List ER} (h:Kd.C k77 w A n xs) (i:Int) (h0:0≤i) (h1:i<n): ∃ad,A=some ad∧w.cell? (ad.add (i.toNat*2))=some (.int .i64 (bB xs i).f0)∧w.cell? ⟨(ad.add (i.toNat*2)).block,(ad.add (i.toNat*2)).off+1,none⟩=some (.int .i64 (bB xs i).f1):=by
 obtain⟨ad,c,e,_,hK,hc0⟩:=Kd.LU h z77 i h0 h1
 have hc: ∀j u,c[j]?=some u→w.cell? (ad.add (i.toNat*2+j))=some u:=hc0
 obtain rfl:=aQf hK
 exact⟨ad,e,hc 0 _ rfl,by rw [←wG _ _ 1 (by omega)];exact hc 1 _ rfl⟩
def aJT (xs:List (List ER)) (i:Int):(List ER):=xs.getD i.toNat ([]:List ER)
theorem bNu {w:World} {A:Option Addr} {n:Nat} {xs:List (List ER)} (h:Kd.C (Kd.slice 77 k77) w A n xs) (i:Int) (h0:0≤i) (h1:i<n): ∃ad A0 c0,A=some ad∧w.cell? (ad.add i.toNat)=some (.slice A0 (aJT xs i).length c0)∧(aJT xs i).length≤c0∧k77.C w A0 (aJT xs i).length (aJT xs i):=by
 obtain⟨ad,c,e,_,hK,hc0⟩:=Kd.LU h ([]:List ER) i h0 h1
 have hc: ∀j u,c[j]?=some u→w.cell? (ad.add (i.toNat*1+j))=some u:=hc0
 obtain⟨A0,c0,rfl,l0,g0⟩:=hK
 exact⟨ad,A0,c0,e,by have hq:=hc 0 _ rfl;rwa [Nat.mul_one,Nat.add_zero] at hq,l0,g0⟩
structure xH where
 f0:Bool
 f1:(List ER)
def z69:xH:=⟨false,([]:List ER)⟩
def VB:Kd xH:=Kd.iso (Kd.pair Kd.bool (Kd.slice 77 k77)) (fun x:xH=>(x.f0,x.f1))
theorem YL {w:World} {x:xH} {cs:List Value} (h:VB.K w x cs): ∃A1 c1,cs=[.bool x.f0, .slice A1 x.f1.length c1]∧x.f1.length≤c1∧k77.C w A1 x.f1.length x.f1:=by
 obtain⟨_,_,rfl,rfl,⟨A1,c1,rfl,l1,g1⟩⟩:=h
 exact⟨A1,c1,rfl,l1,g1⟩
theorem a3r {w:World} {base:Nat} {ok:Nat→Prop} {x:xH} {cs:List Value} (h:VB.M w base ok x cs): ∃v1,cs=[.bool x.f0,v1]∧k77.R 77 w base ok v1 x.f1:=by
 obtain⟨_,_,rfl,rfl,⟨v1,rfl,g1⟩⟩:=h
 exact⟨v1,rfl,g1⟩
theorem a2b (w:World) (x:xH) {A1:Option Addr} {c1:Nat} (l1:x.f1.length≤c1) (g1:k77.C w A1 x.f1.length x.f1):VB.K w x [.bool x.f0, .slice A1 x.f1.length c1]:=⟨[.bool x.f0],[.slice A1 x.f1.length c1],rfl,rfl,⟨A1,c1,rfl,l1,g1⟩⟩
theorem aJE (w:World) (base:Nat) (ok:Nat→Prop) (x:xH) {v1:Value} (g1:k77.R 77 w base ok v1 x.f1):VB.M w base ok x [.bool x.f0,v1]:=⟨[.bool x.f0],[v1],rfl,rfl,⟨v1,rfl,g1⟩⟩
theorem a3q {W:World} {ok:Nat→Prop} {x:xH} {cs:List Value} (h:Kd.FK VB W ok x cs): ∃A1 c1,cs=[.bool x.f0, .slice A1 x.f1.length c1]∧x.f1.length≤c1∧Kd.F k77 W ok A1 x.f1.length x.f1:=by
 obtain⟨A1,c1,rfl,l1,_⟩:=YL (Kd.aYF h)
 exact⟨A1,c1,rfl,l1,(fun W' hW=>by obtain⟨A1_,c1_,he,l1_,g1_⟩:=YL (h W' hW);injection (Option.some.inj (show some (Value.slice A1 x.f1.length c1)=some (Value.slice A1_ x.f1.length c1_)from congrArg (fun l=>l[1]?) he))with ha_ _ _;rw [ha_];exact g1_)⟩
theorem bEm (W:World) (ok:Nat→Prop) (x:xH) {A1:Option Addr} {c1:Nat} (l1:x.f1.length≤c1) (g1:Kd.F k77 W ok A1 x.f1.length x.f1):Kd.FK VB W ok x [.bool x.f0, .slice A1 x.f1.length c1]:=fun W2 hW=>a2b W2 x l1 (g1 W2 hW)
def aG (xs:List xH) (i:Int):xH:=xs.getD i.toNat z69
theorem SG {w:World} {A:Option Addr} {n:Nat} {xs:List xH} (h:Kd.C VB w A n xs) (i:Int) (h0:0≤i) (h1:i<n): ∃ad A1 c1,A=some ad∧w.cell? (ad.add (i.toNat*2))=some (.bool (aG xs i).f0)∧w.cell? ⟨(ad.add (i.toNat*2)).block,(ad.add (i.toNat*2)).off+1,none⟩=some (.slice A1 (aG xs i).f1.length c1)∧(aG xs i).f1.length≤c1∧k77.C w A1 (aG xs i).f1.length (aG xs i).f1:=by
 obtain⟨ad,c,e,_,hK,hc0⟩:=Kd.LU h z69 i h0 h1
 have hc: ∀j u,c[j]?=some u→w.cell? (ad.add (i.toNat*2+j))=some u:=hc0
 obtain⟨A1,c1,rfl,l1,g1⟩:=YL hK
 exact⟨ad,A1,c1,e,hc 0 _ rfl,by rw [←wG _ _ 1 (by omega)];exact hc 1 _ rfl,l1,g1⟩
theorem uO {p:Prop} (h:p:=by repeat(first|(with_reducible first|exact HK.out|apply aZ.M7|apply l8|apply lF|apply l7)|exact HK.out)):p:=h
theorem FB {p:Prop} (h:p:=by repeat(first|(with_reducible first|exact HB.out|apply eZ|apply cB|apply bH|refine bO ?_ (aI.ge HI0.out))|exact HB.out)):p:=h
theorem DV {p:Prop} (h:p:=by repeat(first|(with_reducible first|exact HI0.out|apply aI.alloc|apply aI.drewN|apply aI.drew|apply aI.xQ)|exact HI0.out)):p:=h
theorem NJ {p:Prop} (h:p:=by rw [hg];exact(mX (w:=w) (g:=g) (row:=none) (by repeat(first|(with_reducible first|exact HK.out|apply aZ.M7|apply l8|apply lF|apply l7)|exact HK.out)))):p:=h
theorem b4_ {p:Prop} (h:p:=by(with_reducible repeat(first|refine dD ?_ _|refine bF ?_|refine bW ?_ _));refine bM (cs:= #[.string t213, .bool t214, .string t215, .string t216, .string (⟨#[]⟩:ByteArray)]) ?_ 4 _ rfl;(with_reducible repeat(first|refine dD ?_ _|refine bF ?_|refine bW ?_ _));refine bM (cs:= #[.string t213, .bool t214, .string t215, .string (⟨#[]⟩:ByteArray), .string (⟨#[]⟩:ByteArray)]) ?_ 3 _ rfl;(with_reducible repeat(first|refine dD ?_ _|refine bF ?_|refine bW ?_ _));refine bM (cs:= #[.string t213, .bool t214, .string (⟨#[]⟩:ByteArray), .string (⟨#[]⟩:ByteArray), .string (⟨#[]⟩:ByteArray)]) ?_ 2 _ rfl;(with_reducible repeat(first|refine dD ?_ _|refine bF ?_|refine bW ?_ _));refine bM (cs:= #[.string t213, .bool false, .string (⟨#[]⟩:ByteArray), .string (⟨#[]⟩:ByteArray), .string (⟨#[]⟩:ByteArray)]) ?_ 1 _ rfl;(with_reducible repeat(first|refine dD ?_ _|refine bF ?_|refine bW ?_ _));refine bM (cs:= #[.string (⟨#[]⟩:ByteArray), .bool false, .string (⟨#[]⟩:ByteArray), .string (⟨#[]⟩:ByteArray), .string (⟨#[]⟩:ByteArray)]) ?_ 0 _ rfl;(with_reducible repeat(first|refine dD ?_ _|refine bF ?_|refine bW ?_ _));exact o5.out):p:=h
theorem b5_ {p:Prop} (h:p:=by(with_reducible repeat(first|refine dD ?_ _|refine bF ?_|refine bW ?_ _));refine bM (cs:= #[.string ((bD kS fB).f0), .int .i64 0]) ?_ 1 _ rfl;(with_reducible repeat(first|refine dD ?_ _|refine bF ?_|refine bW ?_ _));refine bM (cs:= #[.string (⟨#[]⟩:ByteArray), .int .i64 0]) ?_ 0 _ rfl;(with_reducible repeat(first|refine dD ?_ _|refine bF ?_|refine bW ?_ _));exact NL.out):p:=h
theorem SK {p:Prop} (h:p:=by repeat(first|(with_reducible first|exact HK.out|apply aZ.M7|apply l8|apply lF|apply l7|refine nW ?_ TT.out _|refine nW ?_ aDy.out _)|exact HK.out)):p:=h
theorem b7_ {p:Prop} (h:p:=by repeat(first|(with_reducible first|exact HK.out|apply aZ.M7|apply l8|apply lF|apply l7|refine nW ?_ TT.out _)|exact HK.out)):p:=h
theorem b8_ {p:Prop} (h:p:=by rw [if_neg (show¬(false=true)by decide)] at H;exact H):p:=h
theorem XU {p:Prop} (h:p:=by repeat(first|(with_reducible first|exact HK.out|apply aZ.M7|apply l8|apply lF|apply l7|refine nW ?_ aLH.out _|refine nW ?_ a3X.out _)|exact HK.out)):p:=h
theorem aZn {p:Prop} (h:p:=by(with_reducible repeat(first|refine dD ?_ _|refine bF ?_|refine bW ?_ _));refine bM (cs:= #[.string ((aD l0 bC).f0), .bool ((aD l0 bC).f1), .string ((aD l0 bC).f2), .string ((aD l0 bC).f3), .string (⟨#[]⟩:ByteArray)]) ?_ 4 _ rfl;(with_reducible repeat(first|refine dD ?_ _|refine bF ?_|refine bW ?_ _));refine bM (cs:= #[.string ((aD l0 bC).f0), .bool ((aD l0 bC).f1), .string ((aD l0 bC).f2), .string (⟨#[]⟩:ByteArray), .string (⟨#[]⟩:ByteArray)]) ?_ 3 _ rfl;(with_reducible repeat(first|refine dD ?_ _|refine bF ?_|refine bW ?_ _));refine bM (cs:= #[.string ((aD l0 bC).f0), .bool ((aD l0 bC).f1), .string (⟨#[]⟩:ByteArray), .string (⟨#[]⟩:ByteArray), .string (⟨#[]⟩:ByteArray)]) ?_ 2 _ rfl;(with_reducible repeat(first|refine dD ?_ _|refine bF ?_|refine bW ?_ _));refine bM (cs:= #[.string ((aD l0 bC).f0), .bool false, .string (⟨#[]⟩:ByteArray), .string (⟨#[]⟩:ByteArray), .string (⟨#[]⟩:ByteArray)]) ?_ 1 _ rfl;(with_reducible repeat(first|refine dD ?_ _|refine bF ?_|refine bW ?_ _));refine bM (cs:= #[.string (⟨#[]⟩:ByteArray), .bool false, .string (⟨#[]⟩:ByteArray), .string (⟨#[]⟩:ByteArray), .string (⟨#[]⟩:ByteArray)]) ?_ 0 _ rfl;(with_reducible repeat(first|refine dD ?_ _|refine bF ?_|refine bW ?_ _));exact gV.out):p:=h
theorem BU {p:Prop} (h:p:=by repeat(first|(with_reducible first|exact HK.out|apply aZ.M7|apply l8|apply lF|apply l7|refine nW ?_ a3Y.out _)|exact HK.out)):p:=h
theorem F7 {p:Prop} (h:p:=by repeat(first|(with_reducible first|exact HK.out|apply aZ.M7|apply l8|apply lF|apply l7|refine nW ?_ XE.out _|refine nW ?_ aDx.out _)|exact HK.out)):p:=h
theorem aMH {p:Prop} (h:p:=by(with_reducible repeat(first|refine dD ?_ _|refine bF ?_|refine bW ?_ _));refine iV ?_ lN.out _;(with_reducible repeat(first|refine dD ?_ _|refine bF ?_|refine bW ?_ _));refine iV ?_ lN.out _;(with_reducible repeat(first|refine dD ?_ _|refine bF ?_|refine bW ?_ _));refine iV ?_ lN.out _;(with_reducible repeat(first|refine dD ?_ _|refine bF ?_|refine bW ?_ _));refine iV ?_ lN.out _;(with_reducible repeat(first|refine dD ?_ _|refine bF ?_|refine bW ?_ _));refine iV ?_ lN.out _;(with_reducible repeat(first|refine dD ?_ _|refine bF ?_|refine bW ?_ _));exact jS.out):p:=h
theorem kI {p:Prop} (h:p:=by rw [hg];exact(aH gP)):p:=h
theorem ZQ {p:Prop} (h:p:=by repeat(first|(with_reducible first|exact HK.out|apply aZ.M7|apply l8|apply lF|apply l7|refine nW ?_ XE.out _)|exact HK.out)):p:=h
theorem MU {p:Prop} (h:p:=by repeat(first|(with_reducible first|exact HI0.out|apply aI.alloc|apply aI.drewN|apply aI.drew|apply aI.xQ|refine aI.vZ ?_ aHy.out _|refine aI.vZ ?_ VS.out _)|exact HI0.out)):p:=h
theorem OC {p:Prop} (h:p:=by repeat(first|(with_reducible first|exact HB.out|apply eZ|apply cB|apply bH|refine bO ?_ (aI.ge HI0.out)|refine bO ?_ a3P.out|refine bO ?_ a3Q.out)|exact HB.out)):p:=h
theorem OD {p:Prop} (h:p:=by rw [hg];exact Nat.ne_of_lt (aI.lt (show aI w0 _ g dG iX from by repeat(first|(with_reducible first|exact HI0.out|apply aI.alloc|apply aI.drewN|apply aI.drew|apply aI.xQ)|exact HI0.out)))):p:=h
theorem OE {p:Prop} (h:p:=by rw [hg];exact Nat.ne_of_gt (aI.lt (show aI w0 _ g dG iX from by repeat(first|(with_reducible first|exact HI0.out|apply aI.alloc|apply aI.drewN|apply aI.drew|apply aI.xQ)|exact HI0.out)))):p:=h
theorem a8m {p:Prop} (h:p:=by(with_reducible repeat(first|refine dD ?_ _|refine bF ?_|refine bW ?_ _));refine bM (cs:= #[.string ((aD l0 eT).f0), .bool ((aD l0 eT).f1), .string ((aD l0 eT).f2), .string ((aD l0 eT).f3), .string (⟨#[]⟩:ByteArray)]) ?_ 4 _ rfl;(with_reducible repeat(first|refine dD ?_ _|refine bF ?_|refine bW ?_ _));refine bM (cs:= #[.string ((aD l0 eT).f0), .bool ((aD l0 eT).f1), .string ((aD l0 eT).f2), .string (⟨#[]⟩:ByteArray), .string (⟨#[]⟩:ByteArray)]) ?_ 3 _ rfl;(with_reducible repeat(first|refine dD ?_ _|refine bF ?_|refine bW ?_ _));refine bM (cs:= #[.string ((aD l0 eT).f0), .bool ((aD l0 eT).f1), .string (⟨#[]⟩:ByteArray), .string (⟨#[]⟩:ByteArray), .string (⟨#[]⟩:ByteArray)]) ?_ 2 _ rfl;(with_reducible repeat(first|refine dD ?_ _|refine bF ?_|refine bW ?_ _));refine bM (cs:= #[.string ((aD l0 eT).f0), .bool false, .string (⟨#[]⟩:ByteArray), .string (⟨#[]⟩:ByteArray), .string (⟨#[]⟩:ByteArray)]) ?_ 1 _ rfl;(with_reducible repeat(first|refine dD ?_ _|refine bF ?_|refine bW ?_ _));refine bM (cs:= #[.string (⟨#[]⟩:ByteArray), .bool false, .string (⟨#[]⟩:ByteArray), .string (⟨#[]⟩:ByteArray), .string (⟨#[]⟩:ByteArray)]) ?_ 0 _ rfl;(with_reducible repeat(first|refine dD ?_ _|refine bF ?_|refine bW ?_ _));exact tO.out):p:=h
theorem U2 {p:Prop} (h:p:=by repeat(first|(with_reducible first|exact HB.out|apply eZ|apply cB|apply bH|refine bO ?_ (aI.ge HI0.out)|refine bO ?_ G6.out|refine bO ?_ LW.out)|exact HB.out)):p:=h
theorem U3 {p:Prop} (h:p:=by repeat(first|(with_reducible first|exact HI0.out|apply aI.alloc|apply aI.drewN|apply aI.drew|apply aI.xQ|refine aI.vZ ?_ uS.out _|refine aI.vZ ?_ lZ.out _)|exact HI0.out)):p:=h
theorem ZR {p:Prop} (h:p:=by rw [hg];exact(mX (w:=w) (g:=g) (row:=none) (by repeat(first|(with_reducible first|exact HK.out|apply aZ.M7|apply l8|apply lF|apply l7|refine nW ?_ XE.out _)|exact HK.out)))):p:=h
theorem ZT {p:Prop} (h:p:=by rw [hg];exact(mX (w:=w) (g:=g) (row:=none) (by repeat(first|(with_reducible first|exact HK.out|apply aZ.M7|apply l8|apply lF|apply l7|refine nW ?_ TT.out _)|exact HK.out)))):p:=h
theorem a8n {p:Prop} (h:p:=by(with_reducible repeat(first|refine dD ?_ _|refine bF ?_|refine bW ?_ _));refine iV ?_ xV.out _;(with_reducible repeat(first|refine dD ?_ _|refine bF ?_|refine bW ?_ _));refine iV ?_ xV.out _;(with_reducible repeat(first|refine dD ?_ _|refine bF ?_|refine bW ?_ _));exact lI.out):p:=h
theorem aSi {p:Prop} (h:p:=by(with_reducible repeat(first|refine dD ?_ _|refine bF ?_|refine bW ?_ _));refine bM (cs:= #[.string ((aX l0 bC).f0), .string (⟨#[]⟩:ByteArray)]) ?_ 1 _ rfl;(with_reducible repeat(first|refine dD ?_ _|refine bF ?_|refine bW ?_ _));refine bM (cs:= #[.string (⟨#[]⟩:ByteArray), .string (⟨#[]⟩:ByteArray)]) ?_ 0 _ rfl;(with_reducible repeat(first|refine dD ?_ _|refine bF ?_|refine bW ?_ _));exact jY.out):p:=h
theorem XT {p:Prop} (h:p:=by repeat(first|(with_reducible first|exact HI0.out|apply aI.alloc|apply aI.drewN|apply aI.drew|apply aI.xQ|refine aI.vZ ?_ NV.out _)|exact HI0.out)):p:=h
theorem aFx {p:Prop} (h:p:=by repeat(first|(with_reducible first|exact HK.out|apply aZ.M7|apply l8|apply lF|apply l7|refine nW ?_ a3V.out _)|exact HK.out)):p:=h
theorem aMI {p:Prop} (h:p:=by(with_reducible repeat(first|refine dD ?_ _|refine bF ?_|refine bW ?_ _));refine iV ?_ nJ.out _;(with_reducible repeat(first|refine dD ?_ _|refine bF ?_|refine bW ?_ _));refine iV ?_ nJ.out _;(with_reducible repeat(first|refine dD ?_ _|refine bF ?_|refine bW ?_ _));exact eF.out):p:=h
theorem aSj {p:Prop} (h:p:=by(with_reducible repeat(first|refine dD ?_ _|refine bF ?_|refine bW ?_ _));refine bM (cs:= #[.int .i64 ((bB ((aG l0 aV).f1) eX).f0), .int .i64 0]) ?_ 1 _ rfl;(with_reducible repeat(first|refine dD ?_ _|refine bF ?_|refine bW ?_ _));refine bM (cs:= #[.int .i64 0, .int .i64 0]) ?_ 0 _ rfl;(with_reducible repeat(first|refine dD ?_ _|refine bF ?_|refine bW ?_ _));exact iY.out):p:=h
theorem a8o {p:Prop} (h:p:=by have h_:(o9:Int)<((jZ.length:Int):Int):=dt;first|exact h_|(have e_:=(Kd.iR bY.out).1;omega)|simpa using h_):p:=h
theorem aDP {p:Prop} (h:p:=by repeat(first|(with_reducible first|exact HB.out|apply eZ|apply cB|apply bH|refine bO ?_ (aI.ge HI0.out)|refine bO ?_ aAu.out|refine bO ?_ LV.out)|exact HB.out)):p:=h
theorem aBE {p:Prop} (h:p:=by repeat(first|(with_reducible first|exact HB.out|apply eZ|apply cB|apply bH|refine bO ?_ (aI.ge HI0.out)|refine bO ?_ a3R.out)|exact HB.out)):p:=h
theorem aBF {p:Prop} (h:p:=by(try simp only [UK]);(try simp only [aEJ]);(try simp only [aIO]);(try simp only [aA3]);(with_reducible repeat(first|apply Kd.zQ|apply Kd.zR|apply Kd.BS));exact bY.out):p:=h
theorem aDQ {p:Prop} (h:p:=by repeat(first|(with_reducible first|exact HI0.out|apply aI.alloc|apply aI.drewN|apply aI.drew|apply aI.xQ|refine aI.vZ ?_ uR.out _|refine aI.vZ ?_ sG.out _)|exact HI0.out)):p:=h
theorem aSk {p:Prop} (h:p:=by(with_reducible repeat(first|apply Kd.zQ|apply Kd.zR|apply Kd.BS));exact Kd.xW bY.out (fun _ hk=>⟨trivial,hk⟩)):p:=h
theorem aKh {p:Prop} (h:p:=by repeat(first|(with_reducible first|exact HB.out|apply eZ|apply cB|apply bH|refine bO ?_ (aI.ge HI0.out)|refine bO ?_ a3N.out)|exact HB.out)):p:=h
theorem a8p {p:Prop} (h:p:=by(with_reducible repeat(first|refine dD ?_ _|refine bF ?_|refine bW ?_ _));refine iV ?_ qV.out _;(with_reducible repeat(first|refine dD ?_ _|refine bF ?_|refine bW ?_ _));refine iV ?_ qV.out _;(with_reducible repeat(first|refine dD ?_ _|refine bF ?_|refine bW ?_ _));refine iV ?_ qV.out _;(with_reducible repeat(first|refine dD ?_ _|refine bF ?_|refine bW ?_ _));refine iV ?_ qV.out _;(with_reducible repeat(first|refine dD ?_ _|refine bF ?_|refine bW ?_ _));refine iV ?_ qV.out _;(with_reducible repeat(first|refine dD ?_ _|refine bF ?_|refine bW ?_ _));exact jT.out):p:=h
theorem a8q {p:Prop} (h:p:=by have h_:(oM:Int)<((nI.length:Int):Int):=dt;first|exact h_|(have e_:=(Kd.iR bY.out).1;omega)|simpa only [List.length_set,List.length_set] using h_):p:=h
theorem aSl {p:Prop} (h:p:=by(with_reducible repeat(first|refine dD ?_ _|refine bF ?_|refine bW ?_ _));refine iV ?_ E5.out _;(with_reducible repeat(first|refine dD ?_ _|refine bF ?_|refine bW ?_ _));refine iV ?_ E5.out _;(with_reducible repeat(first|refine dD ?_ _|refine bF ?_|refine bW ?_ _));exact iL.out):p:=h
theorem aKi {p:Prop} (h:p:=by repeat(first|(with_reducible first|exact HI0.out|apply aI.alloc|apply aI.drewN|apply aI.drew|apply aI.xQ|refine aI.vZ ?_ VR.out _)|exact HI0.out)):p:=h
theorem aSm {p:Prop} (h:p:=by first|(rw [sS];exact KM)|(show(Addr.add _ _).block≠_;rw [sS];exact KM)|exact KM):p:=h
theorem aSn {p:Prop} (h:p:=by first|(rw [sS];exact KN)|(show(Addr.add _ _).block≠_;rw [sS];exact KN)|exact KN):p:=h
theorem a8r {p:Prop} (h:p:=by(with_reducible repeat(first|apply Kd.zQ|apply Kd.zR|apply Kd.BS));exact Kd.xW bY.out (fun k_ hk=>⟨trivial,fun e_=>hk e_⟩)):p:=h
theorem aFy {p:Prop} (h:p:=by repeat(first|(with_reducible exact VP.out)|(with_reducible refine Kd.KA ?_ _)|(with_reducible refine Kd.zL ?_ _)|(with_reducible refine Kd.FY ?_)|exact VP.out)):p:=h
theorem aFz {p:Prop} (h:p:=by repeat(first|(with_reducible exact VQ.out)|(with_reducible refine Kd.KA ?_ _)|(with_reducible refine Kd.zL ?_ _)|(with_reducible refine Kd.FY ?_)|exact VQ.out)):p:=h
theorem aZo {p:Prop} (h:p:=by rw [hg];exact Nat.ne_of_lt (jW (g:=D5) (o:= .cells #[.slice mH fI.length mI, .slice nQ bV.length lH] 26 (0,0)) (bq lI.out))):p:=h
theorem aZp {p:Prop} (h:p:=by rw [hg];exact Nat.ne_of_gt (jW (g:=D5) (o:= .cells #[.slice mH fI.length mI, .slice nQ bV.length lH] 26 (0,0)) (bq lI.out))):p:=h
theorem aMJ {p:Prop} (h:p:=by rw [hg];exact Nat.ne_of_lt (aI.lt (show aI w0 _ g dG t218 from by repeat(first|(with_reducible first|exact HI0.out|apply aI.alloc|apply aI.drewN|apply aI.drew|apply aI.xQ|refine aI.vZ ?_ uR.out _)|exact HI0.out)))):p:=h
theorem aMK {p:Prop} (h:p:=by rw [hg];exact Nat.ne_of_gt (aI.lt (show aI w0 _ g dG t218 from by repeat(first|(with_reducible first|exact HI0.out|apply aI.alloc|apply aI.drewN|apply aI.drew|apply aI.xQ|refine aI.vZ ?_ uR.out _)|exact HI0.out)))):p:=h
theorem aML {p:Prop} (h:p:=by rw [hg];exact Nat.ne_of_lt (aI.lt (show aI w0 _ g dG yT from by repeat(first|(with_reducible first|exact HI0.out|apply aI.alloc|apply aI.drewN|apply aI.drew|apply aI.xQ|refine aI.vZ ?_ uS.out _)|exact HI0.out)))):p:=h
theorem aMM {p:Prop} (h:p:=by rw [hg];exact Nat.ne_of_gt (aI.lt (show aI w0 _ g dG yT from by repeat(first|(with_reducible first|exact HI0.out|apply aI.alloc|apply aI.drewN|apply aI.drew|apply aI.xQ|refine aI.vZ ?_ uS.out _)|exact HI0.out)))):p:=h
theorem aDR {p:Prop} (h:p:=by(with_reducible repeat(first|apply Kd.zQ|apply Kd.zR|apply Kd.BS));exact bY.out):p:=h
theorem bFO {p:Prop} (h:p:=by have h_:(o9:Int)<((jZ.length:Int):Int):=dt;first|exact h_|(have e_:=(Kd.iR bY.out).1;omega)|simpa only [aL5.out,List.length_set] using h_):p:=h
theorem aSo {p:Prop} (h:p:=by first|exact Kd.aJP (Kd.zO bY.out NL.out (by decide))|exact(bY.out.1 _ rfl).2):p:=h
theorem aMN {p:Prop} (h:p:=by rw [hg];exact Nat.ne_of_lt (jW (g:=kE) (o:= .cells #[.string (⟨#[]⟩:ByteArray), .bool false, .string (⟨#[]⟩:ByteArray), .string (⟨#[]⟩:ByteArray), .string (⟨#[]⟩:ByteArray)] 87 (0,0)) (bq jS.out))):p:=h
theorem aMO {p:Prop} (h:p:=by rw [hg];exact Nat.ne_of_gt (jW (g:=kE) (o:= .cells #[.string (⟨#[]⟩:ByteArray), .bool false, .string (⟨#[]⟩:ByteArray), .string (⟨#[]⟩:ByteArray), .string (⟨#[]⟩:ByteArray)] 87 (0,0)) (bq jS.out))):p:=h
theorem aZq {p:Prop} (h:p:=by repeat(first|(with_reducible first|exact HB.out|apply eZ|apply cB|apply bH|refine bO ?_ (aI.ge sO.out)|refine bO ?_ aLF.out)|exact HB.out)):p:=h
theorem aMP {p:Prop} (h:p:=by repeat(first|(with_reducible first|exact HB.out|apply eZ|apply cB|apply bH|refine bO ?_ (aI.ge HI0.out)|refine bO ?_ aAu.out)|exact HB.out)):p:=h
theorem aMQ {p:Prop} (h:p:=by repeat(first|(with_reducible first|exact HB.out|apply eZ|apply cB|apply bH|refine bO ?_ (aI.ge HI0.out)|refine bO ?_ G6.out)|exact HB.out)):p:=h
theorem xI {p:Prop} (h:p:=by first|omega|exact Nat.le_refl _):p:=h
theorem aMR {p:Prop} (h:p:=by repeat(first|(with_reducible exact aBs.out)|(with_reducible refine Kd.KA ?_ _)|(with_reducible refine Kd.zL ?_ _)|(with_reducible refine Kd.FY ?_)|exact aBs.out)):p:=h
theorem aMS {p:Prop} (h:p:=by repeat(first|(with_reducible exact aBt.out)|(with_reducible refine Kd.KA ?_ _)|(with_reducible refine Kd.zL ?_ _)|(with_reducible refine Kd.FY ?_)|exact aBt.out)):p:=h
theorem aMT {p:Prop} (h:p:=by repeat(first|(with_reducible exact aBu.out)|(with_reducible refine Kd.KA ?_ _)|(with_reducible refine Kd.zL ?_ _)|(with_reducible refine Kd.FY ?_)|exact aBu.out)):p:=h
theorem aMU {p:Prop} (h:p:=by repeat(first|(with_reducible first|exact HI0.out|apply aI.alloc|apply aI.drewN|apply aI.drew|apply aI.xQ|refine aI.vZ ?_ uR.out _)|exact HI0.out)):p:=h
theorem aMV {p:Prop} (h:p:=by repeat(first|(with_reducible first|exact HI0.out|apply aI.alloc|apply aI.drewN|apply aI.drew|apply aI.xQ|refine aI.vZ ?_ uS.out _)|exact HI0.out)):p:=h
theorem aKj {p:Prop} (h:p:=by(try simp only [TE]);(try simp only [O5]);(with_reducible repeat(first|apply Kd.F3|apply Kd.zN|apply Kd.mZ));exact dN.out):p:=h
theorem aZr {p:Prop} (h:p:=by repeat(first|(with_reducible first|exact HK.out|apply aZ.M7|apply l8|apply lF|apply l7|refine nW ?_ aLH.out _)|exact HK.out)):p:=h
theorem rO {p:Prop} (h:p:=by have:=lM.out;omega):p:=h
theorem aMW {p:Prop} (h:p:=by(try simp only [TE]);(try simp only [O5]);(with_reducible repeat(first|refine dD ?_ _|refine bF ?_|refine bW ?_ _));exact iL.out):p:=h
theorem aDS {p:Prop} (h:p:=by(with_reducible repeat(first|apply Kd.zQ|apply Kd.zR|apply Kd.BS));exact xS.out):p:=h
theorem aKk {p:Prop} (h:p:=by rw [hg];exact(aH (cK pX.out))):p:=h
theorem bFP {p:Prop} (h:p:=by have h_:(0:Int)<((CX.length:Int):Int):=dt;first|exact h_|(have e_:=(Kd.iR bY.out).1;omega)|simpa only [List.length_set,List.length_set] using h_):p:=h
theorem aDT {p:Prop} (h:p:=by simp only [M3,Act.put,List.setIfInBounds_toArray,List.set_cons_zero,List.set_cons_succ]):p:=h
theorem OG {p:Prop} (h:p:=by have:=lM.out;first|omega|exact Nat.le_refl _):p:=h
theorem aSp {p:Prop} (h:p:=by repeat(first|(with_reducible first|exact HK.out|apply aZ.M7|apply l8|apply lF|apply l7|refine nW ?_ a3U.out _)|exact HK.out)):p:=h
theorem aSq {p:Prop} (h:p:=by repeat(first|(with_reducible first|exact HK.out|apply aZ.M7|apply l8|apply lF|apply l7|refine nW ?_ a3W.out _)|exact HK.out)):p:=h
theorem bFQ {p:Prop} (h:p:=by rw [hg];exact Nat.ne_of_lt (aI.lt (show aI w0 _ g dG t151 from by repeat(first|(with_reducible first|exact HI0.out|apply aI.alloc|apply aI.drewN|apply aI.drew|apply aI.xQ)|exact HI0.out)))):p:=h
theorem bFR {p:Prop} (h:p:=by rw [hg];exact Nat.ne_of_gt (aI.lt (show aI w0 _ g dG t151 from by repeat(first|(with_reducible first|exact HI0.out|apply aI.alloc|apply aI.drewN|apply aI.drew|apply aI.xQ)|exact HI0.out)))):p:=h
theorem aSr {p:Prop} (h:p:=by(try simp only [TE]);(try simp only [O5]);(with_reducible repeat(first|refine dD ?_ _|refine bF ?_|refine bW ?_ _));exact iY.out):p:=h
theorem aSs {p:Prop} (h:p:=by rw [hg];exact(aH (by repeat(first|(with_reducible first|exact HBW.out|apply eZ|apply cB|apply bH)|exact HBW.out)))):p:=h
theorem aMX {p:Prop} (h:p:=by(with_reducible repeat(first|apply Kd.zQ|apply Kd.zR|apply Kd.BS));exact Kd.xW bY.out (fun _ hk=>hk.2)):p:=h
theorem aMY {p:Prop} (h:p:=by rw [hg];exact Nat.ne_of_lt (jW (g:=fU) (o:= .cells #[.slice none 0 0, .slice none 0 0] 26 (0,0)) (bq eF.out))):p:=h
theorem aMZ {p:Prop} (h:p:=by rw [hg];exact Nat.ne_of_gt (jW (g:=fU) (o:= .cells #[.slice none 0 0, .slice none 0 0] 26 (0,0)) (bq eF.out))):p:=h
theorem aSt {p:Prop} (h:p:=by have:=HJ2.out;have:=uP.out;have:=DJ.out;have:=NP.out;have:=HK5.out;have:=aRV.out;first|omega|exact Nat.le_refl _):p:=h
theorem OH {p:Prop} (h:p:=by have:=lM.out;have:=uP.out;omega):p:=h
theorem bFS {p:Prop} (h:p:=by have h_:(o9:Int)<((jZ.length:Int):Int):=dt;first|(have e_:=(Kd.iR bY.out).1;omega)|simpa only [aL5.out,List.length_set] using h_):p:=h
theorem aSu {p:Prop} (h:p:=by(with_reducible repeat(first|apply Kd.F3|apply Kd.zN|apply Kd.mZ));exact Kd.bA bY.out (fun _ hk=>trivial)):p:=h
theorem aZs {p:Prop} (h:p:=by first|rfl|(simp [wH,wI]<;>rfl)|(simp only [←aEI];first|rfl|(simp [wH,wI]<;>rfl))|(simp [*,wH,wI]<;>rfl)):p:=h
theorem a8s {p:Prop} (h:p:=by rw [hg];exact(mX (w:=w) (g:=g) (row:=none) (by repeat(first|(with_reducible first|exact HK.out|apply aZ.M7|apply l8|apply lF|apply l7|refine nW ?_ aLH.out _)|exact HK.out)))):p:=h
theorem a8t {p:Prop} (h:p:=by rw [hg];exact(aH (by repeat(first|(with_reducible first|exact HB.out|apply eZ|apply cB|apply bH|refine bO ?_ (aI.ge sO.out)|refine bO ?_ aLF.out)|exact HB.out)))):p:=h
theorem a8u {p:Prop} (h:p:=by repeat(first|(with_reducible first|exact HB.out|apply eZ|apply cB|apply bH|refine bO ?_ (aI.ge sO.out)|refine bO ?_ aLF.out|refine bO ?_ a3S.out)|exact HB.out)):p:=h
theorem aSv {p:Prop} (h:p:=by have:=lM.out;have:=aBn.out;have:=aFu.out;have:=NP.out;first|omega|exact Nat.le_refl _):p:=h
theorem a8v {p:Prop} (h:p:=by repeat(first|(with_reducible first|exact HB.out|apply eZ|apply cB|apply bH|refine bO ?_ (aI.ge HI0.out)|refine bO ?_ a3M.out)|exact HB.out)):p:=h
theorem a8w {p:Prop} (h:p:=by repeat(first|(with_reducible first|exact HB.out|apply eZ|apply cB|apply bH|refine bO ?_ (aI.ge HI0.out)|refine bO ?_ a3O.out)|exact HB.out)):p:=h
theorem aSw {p:Prop} (h:p:=by have:(0:Int)<((bP ByteArray.empty l0 iO).size:Int):=dt;omega):p:=h
theorem a8x {p:Prop} (h:p:=by repeat(first|(with_reducible first|exact HI0.out|apply aI.alloc|apply aI.drewN|apply aI.drew|apply aI.xQ|refine aI.vZ ?_ aHw.out _)|exact HI0.out)):p:=h
theorem aWD {p:Prop} (h:p:=by repeat(first|(with_reducible first|exact HI0.out|apply aI.alloc|apply aI.drewN|apply aI.drew|apply aI.xQ|refine aI.vZ ?_ aHx.out _)|exact HI0.out)):p:=h
theorem a8g {p:Prop} (h:p:=by rw [a6B.out];exact aXC hg (fun k_ e_=>by injection e_ with e_;subst e_;exact aBW.1 _ rfl) (Kd.aAG hz_)):p:=h
theorem a8h {p:Prop} (h:p:=by rw [a6D.out];exact aXD hg (fun k_ e_=>by injection e_ with e_;subst e_;exact aBX.1 _ rfl) (Kd.aAG hz_)):p:=h
theorem a8i {p:Prop} (h:p:=by rw [a6F.out];exact aXE hg (fun k_ e_=>by injection e_ with e_;subst e_;exact aCc.1 _ rfl) (Kd.aAG hz_)):p:=h
theorem a8j {p:Prop} (h:p:=by rw [a6H.out];exact aXF hg (fun k_ e_=>by injection e_ with e_;subst e_;exact aCd.1 _ rfl) (Kd.aAG hz_)):p:=h
theorem aHM {p:Prop} (h:p:=by have:=lM.out;have:=uP.out;have:=aLM.out;first|omega|exact Nat.le_refl _):p:=h
theorem aDO {p:Prop} (h:p:=by have:=lM.out;have:=uP.out;first|omega|exact Nat.le_refl _):p:=h
theorem aWE {p:Prop} (h:p:=by first|rfl|(simp [wH,wI]<;>rfl)|(simp only [←aOj];first|rfl|(simp [wH,wI]<;>rfl))|(simp [*,wH,wI]<;>rfl)):p:=h
theorem aMA {p:Prop} (h:p:=by have:=HJ2.out;have:=uP.out;have:=DJ.out;have:=NP.out;have:=aDz.out;have:=aLN.out;omega):p:=h
theorem aMB {p:Prop} (h:p:=by(with_reducible repeat(first|apply Kd.zQ|apply Kd.zR|apply Kd.BS));exact aAF.out):p:=h
theorem aWF {p:Prop} (h:p:=by have h_:(0:Int)<((l6.length:Int):Int):=dt;first|exact h_|(have e_:=(Kd.aM fO.out).1;omega)|simpa using h_):p:=h
theorem aMC {p:Prop} (h:p:=by(with_reducible repeat(first|apply Kd.F3|apply Kd.zN|apply Kd.mZ));exact bY.out):p:=h
theorem aMD {p:Prop} (h:p:=by(with_reducible repeat(first|apply Kd.F3|apply Kd.zN|apply Kd.mZ));exact dN.out):p:=h
theorem aWG {p:Prop} (h:p:=by(try simp only [UK]);(try simp only [aEJ]);(with_reducible repeat(first|apply Kd.zQ|apply Kd.zR|apply Kd.BS));exact bY.out):p:=h
theorem a8k {p:Prop} (h:p:=by first|exact aUT|exact dt|(have e_:=(Kd.iR bY.out).1;omega)):p:=h
theorem a8l {p:Prop} (h:p:=by first|exact bI8|exact dt|(have e_:=(Kd.iR bY.out).1;omega)):p:=h
theorem aWH {p:Prop} (h:p:=by rw [hg];exact Nat.ne_of_lt (jW (g:=O1) (o:= .cells #[.bool iD, .slice (some aMv) bV.length lH] 69 (0,0)) (bq LP.out))):p:=h
theorem aWI {p:Prop} (h:p:=by rw [hg];exact Nat.ne_of_gt (jW (g:=O1) (o:= .cells #[.bool iD, .slice (some aMv) bV.length lH] 69 (0,0)) (bq LP.out))):p:=h
theorem aWJ {p:Prop} (h:p:=by(try simp only [UK]);(with_reducible repeat(first|apply Kd.zQ|apply Kd.zR|apply Kd.BS));exact bY.out):p:=h
theorem aWK {p:Prop} (h:p:=by have:=HJ2.out;have:=uP.out;have:=DJ.out;have:=NP.out;have:=HK5.out;have:=aRV.out;have:=aYX.out;omega):p:=h
theorem aWL {p:Prop} (h:p:=by first|(go_simp;done)|(go_simp;rfl)):p:=h
theorem aHN {p:Prop} (h:p:=by simp [execOp,resolve,Deferred.ofValue,invoke,Act.eval]):p:=h
theorem aME {p:Prop} (h:p:=by first|(rw [aEI] at H;exact H)|(simp only [aEI] at H⊢;exact H)):p:=h
theorem aMF {p:Prop} (h:p:=by rw [hw];exact bO (HB.out) aYJ.out):p:=h
theorem aMG {p:Prop} (h:p:=by have:(0:Int)<(a0.size:Int):=dt;omega):p:=h
theorem aHO {p:Prop} (h:p:=by rw [hg];exact(aH (cK XD.out))):p:=h
theorem aAL {p:Prop} (h:p:=by go_simp;first|done|rfl):p:=h
theorem a9s (d:Nat) (w:World) (x0 y0:ByteArray) (x1 y1:Int):
  (Op.equalIn (d+2) 40 (.agg #[.string x0, .int .i64 x1]) (.agg #[.string y0, .int .i64 y1])).run Tryz.prog w= .ok (x0.toList==y0.toList&&(x1==y1)) w:=by
 refine aNK Tryz.underlying40 (by kernel_rfl) ?_
 refine JL (by rfl) (by go_simp;rfl) (by go_simp;rfl) (by go_simp) ?_
 exact aEs (by rfl) (by go_simp;rfl) (by go_simp;rfl) (by go_simp)
theorem aNJ (d:Nat) (w:World) (x0 y0:ByteArray) (x1 y1:Bool) (x2 y2:ByteArray) (x3 y3:ByteArray) (x4 y4:ByteArray):
  (Op.equalIn (d+2) 87 (.agg #[.string x0, .bool x1, .string x2, .string x3, .string x4]) (.agg #[.string y0, .bool y1, .string y2, .string y3, .string y4])).run Tryz.prog w= .ok (x0.toList==y0.toList&&(x1==y1&&(x2.toList==y2.toList&&(x3.toList==y3.toList&&(x4.toList==y4.toList))))) w:=by
 refine aNK Tryz.underlying87 (by kernel_rfl) ?_
 refine JL (by rfl) (by go_simp;rfl) (by go_simp;rfl) (by go_simp) ?_
 refine JL (by rfl) (by go_simp;rfl) (by go_simp;rfl) (by go_simp) ?_
 refine JL (by rfl) (by go_simp;rfl) (by go_simp;rfl) (by go_simp) ?_
 refine JL (by rfl) (by go_simp;rfl) (by go_simp;rfl) (by go_simp) ?_
 exact aEs (by rfl) (by go_simp;rfl) (by go_simp;rfl) (by go_simp)
def aI (w0 W:World) (g:Nat) (f0:List Int) (f1:Int):Prop:= ∃A0 c0,W.heap[g]?=some (.cells #[.slice A0 f0.length c0, .int .i64 f1] 84 (0,0))∧w0.heap.size≤g∧Kd.C (Kd.int .u8) w0 A0 f0.length f0
theorem aI.grown {w0 W:World} {g:Nat} {f0:List Int} {f1:Int} {W1:World} {row:Option Nat} (h:aI w0 W g f0 f1) (hw:W.grownBy W1 row) (hne:some g≠row):aI w0 W1 g f0 f1:=by
 obtain⟨A0,c0,hb,hg,hr0⟩:=h
 exact⟨A0,c0,gK hb hw hne,hg,hr0⟩
theorem aI.bEp {w0 W:World} {g:Nat} {f0:List Int} {f1:Int} {α:Type} {d:Kd α} {e:Nat} {base:Nat} {ok:Nat→Prop} {v:Value} {xs:List α} (h:aI w0 W g f0 f1) (ho:Kd.N d e W base ok v xs) (ht:e≠84):some g≠v.ownBlock:=by
 obtain⟨A0,c0,hb,hg,hr0⟩:=h
 exact Kd.bFJ ho hb ht
theorem aI.fresh {w0 W:World} {g:Nat} {f0:List Int} {f1:Int} (h:aI w0 W g f0 f1): ∀k,W.heap.size≤k→k≠g:=by
 obtain⟨A0,c0,hb,hg,hr0⟩:=h
 exact Kd.pV hb
theorem aI.kept {w0 W:World} {g:Nat} {f0:List Int} {f1:Int} {W1:World} {S:Nat→Prop} (h:aI w0 W g f0 f1) (hk:Kept W W1 S) (hne: ¬S g):aI w0 W1 g f0 f1:=by
 obtain⟨A0,c0,hb,hg,hr0⟩:=h
 exact⟨A0,c0,aM4 hb hk hne,hg,hr0⟩
theorem aI.below {w0 W:World} {g:Nat} {f0:List Int} {f1:Int} {W1:World} (h:aI w0 W g f0 f1) (hw:Below W.heap.size W W1):aI w0 W1 g f0 f1:=h.grown (JQ hw none) (by simp)
theorem aI.alloc {w0 W:World} {g:Nat} {f0:List Int} {f1:Int} (h:aI w0 W g f0 f1) (o:Obj):aI w0 (W.alloc o) g f0 f1:=h.below (eZ (Below.refl _ _) o)
theorem aI.drewN {w0 W:World} {g:Nat} {f0:List Int} {f1:Int} (h:aI w0 W g f0 f1) (m:Nat):aI w0 (W.drewN m) g f0 f1:=h
theorem aI.drew {w0 W:World} {g:Nat} {f0:List Int} {f1:Int} (h:aI w0 W g f0 f1):aI w0 W.drew g f0 f1:=h
theorem aI.at_ {w0 W:World} {g:Nat} {f0:List Int} {f1:Int} {w' :World} {m:Nat} (hq:W.drewN m=w') (h:aI w0 W g f0 f1):aI w0 w' g f0 f1:=by subst hq;exact aI.drewN h m
theorem aI.apart {w0 W:World} {g:Nat} {f0:List Int} {f1:Int} {α:Type} {d:Kd α} {e:Nat} {base:Nat} {ok:Nat→Prop} {v:Value} {xs:List α} (h:aI w0 W g f0 f1) (ho:d.R e W base ok v xs) (ht: ∀q,q∈e::d.E→q≠84):d.R e W base (fun k=>ok k∧k≠g) v xs:=by
 obtain⟨A0,c0,hb,hg,hr0⟩:=h
 exact Kd.eQ ho hb ht
theorem aI.vM {w0 W:World} {g:Nat} {f0:List Int} {f1:Int} {α:Type} {d:Kd α} {e:Nat} {base:Nat} {ok:Nat→Prop} {v:Value} {xs:List α} (h:aI w0 W g f0 f1) (ho:d.R e W base ok v xs) (ht:e≠84):some g≠v.ownBlock:=by
 obtain⟨A0,c0,hb,hg,hr0⟩:=h
 exact Kd.zO ho hb ht
theorem aI.bFM {w0 W:World} {g:Nat} {f0:List Int} {f1:Int} {α:Type} {d:Kd α} {e:Nat} {base:Nat} {ok:Nat→Prop} {v:Value} {xs:List α} (h:aI w0 W g f0 f1) (ho:d.Q e W base ok v xs) (ht: ∀q,q∈e::d.E→q≠84):d.Q e W base (fun k=>ok k∧k≠g) v xs:=by
 obtain⟨A0,c0,hb,hg,hr0⟩:=h
 exact Kd.aSc ho hb ht
theorem aI.bEq {w0 W:World} {g:Nat} {f0:List Int} {f1:Int} {α:Type} {d:Kd α} {e:Nat} {base:Nat} {ok:Nat→Prop} {v:Value} {xs:List α} (h:aI w0 W g f0 f1) (ho:d.Q e W base ok v xs) (ht:e≠84):some g≠v.ownBlock:=by
 obtain⟨A0,c0,hb,hg,hr0⟩:=h
 exact Kd.bFK ho hb ht
theorem aI.bFN {w0 W:World} {g:Nat} {f0:List Int} {f1:Int} {α:Type} {d:Kd α} {e:Nat} {base:Nat} {ok:Nat→Prop} {v:Value} {xs:List α} (h:aI w0 W g f0 f1) (ho:d.S e W base ok v xs) (ht: ∀q,q∈e::d.E→q≠84):d.S e W base (fun k=>ok k∧k≠g) v xs:=by
 obtain⟨A0,c0,hb,hg,hr0⟩:=h
 exact Kd.aSd ho hb ht
theorem aI.bEr {w0 W:World} {g:Nat} {f0:List Int} {f1:Int} {α:Type} {d:Kd α} {e:Nat} {base:Nat} {ok:Nat→Prop} {v:Value} {xs:List α} (h:aI w0 W g f0 f1) (ho:d.S e W base ok v xs) (ht:e≠84):some g≠v.ownBlock:=by
 obtain⟨A0,c0,hb,hg,hr0⟩:=h
 exact Kd.bFL ho hb ht
theorem aI.lt {w0 W:World} {g:Nat} {f0:List Int} {f1:Int} (h:aI w0 W g f0 f1):g<W.heap.size:=by
 obtain⟨A0,c0,hb,hg,hr0⟩:=h
 exact jW hb
theorem aI.ge {w0 W:World} {g:Nat} {f0:List Int} {f1:Int} (h:aI w0 W g f0 f1):w0.heap.size≤g:=by
 obtain⟨A0,c0,hb,hg,hr0⟩:=h
 exact hg
theorem aI.aQu {w0 W:World} {g:Nat} {f0:List Int} {f1:Int} {a:Nat} {cs:Array Value} {t:TypeId} {fr:Nat×Nat} (h:aI w0 W g f0 f1) (hb2:W.heap[a]?=some (.cells cs t fr)) (ht:t≠84):g≠a:=by
 obtain⟨A0,c0,hb,hg,hr0⟩:=h
 rintro rfl
 rw [hb] at hb2
 injection hb2 with hb2
 injection hb2 with _ ht2
 exact ht ht2.symm
theorem aI.vZ {w0 W:World} {g:Nat} {f0:List Int} {f1:Int} {p:Addr} (h:aI w0 W g f0 f1) (hne:g≠p.block) (u:Value):aI w0 (W.setCell p u) g f0 f1:=by
 obtain⟨A0,c0,hb,hg,hr0⟩:=h
 exact⟨A0,c0,iV hb hne u,hg,hr0⟩
theorem KH {W:World} {g:Nat} {A0:Option Addr} {c0:Nat} {f0:List Int} {f1:Int} (h:W.heap[g]?=some (.cells #[.slice A0 f0.length c0, .int .i64 f1] 84 (0,0))):W.cell? ⟨g,0,none⟩=some (.slice A0 f0.length c0):=(dY h 0).trans rfl
theorem KI {W:World} {g:Nat} {A0:Option Addr} {c0:Nat} {f0:List Int} {f1:Int} (h:W.heap[g]?=some (.cells #[.slice A0 f0.length c0, .int .i64 f1] 84 (0,0))):W.cell? ⟨g,1,none⟩=some (.int .i64 f1):=(dY h 1).trans rfl
theorem aI.xQ {w0 W:World} {g:Nat} {f0:List Int} {f1:Int} (h:aI w0 W g f0 f1) (x:Int):aI w0 (W.setCell ⟨g,1,none⟩ (.int .i64 x)) g f0 x:=by
 obtain⟨A0,c0,hb,hg,hr0⟩:=h
 exact⟨A0,c0,by simpa using aBH hb 1 (.int .i64 x),hg,hr0⟩
theorem aI.new (w0 W:World) (A0:Option Addr) (c0:Nat) (f0:List Int) (f1:Int) (hB:Below w0.heap.size w0 W) (hr0:Kd.C (Kd.int .u8) w0 A0 f0.length f0):aI w0 (W.alloc (.cells #[.slice A0 f0.length c0, .int .i64 f1] 84)) W.heap.size f0 f1:=⟨A0,c0,by simpa using heap_alloc_new W _,hB.size,hr0⟩
def uK.f (l0:List Int):Option (List Int×Int):=if(l0.length:Int)>2000 then(if 2000≤(l0.length:Int)then(some (l0.take 2000,0))else(none))else(some (l0,0))
theorem uK.calls (A0:Option Addr) (c0:Nat) (l0:List Int) (r1:List Int) (r2:Int) (w0 w:World) (hB:Below w0.heap.size w0 w) (hr0:Kd.C (Kd.int .u8) w0 A0 l0.length l0) (hc0:l0.length≤c0) (h:uK.f l0=some (r1,r2)):
  Calls Tryz.prog 16 #[.slice A0 l0.length c0] w fun e w' => ∃g_:Nat,e= .returned (.pointer (some ⟨g_,0,none⟩))∧aI w0 w' g_ r1 r2∧Below w0.heap.size w0 w' ∧Below w.heap.size w w' :=by
 have bRE:=Tryz.underlying84;have lX:=am hr0;have vX:=am hc0;clear hr0 hc0;have HBW:=am (Below.refl w.heap.size w);have HW0:=am hB.size;have HB:=am hB;clear hB
 have H:=h;unfold uK.f at H
 clear h
 by_cases c2:(l0.length:Int)>2000
 ·rw [if_pos c2] at H;have wD:=decide_eq_true c2
  have ZW:decide (2000<l0.length)=true:=decide_eq_true (by omega)
  clear c2;replace H:=ip H;obtain⟨c3,H⟩:=H;have oG:=eq_true c3
  have GA:decide (2000≤(l0.length:Int))=true:=decide_eq_true c3
  clear c3;simp only [Option.some.injEq,Prod.mk.injEq] at H;obtain⟨rfl,rfl⟩:=H;obtain⟨i04,bAg,_,bAK,_⟩:=info_parts aP3;obtain⟨bO1,hA4,hC4⟩:=aAk (P:=Tryz.prog) (Value.int .u8) 0 22 5 .i64 Tryz.underlying22 bAg bAK A0 c0 l0 2000 (by omega) (dt) vX.out
  have a5s:=am (Kd.WX (h1:=fun _=>rfl) (hA4 _ (Kd.CU lX.out)));have bMT:=am hC4;clear hA4 hC4 bAg bAK;go_enter Tryz.func16,Tryz.ntmps16
  go_wp2_with (refine gd 10 ?_;refine bx 10 (cs:= #[.slice A0 (l0.take 2000).length c0, .int .i64 0]) (t:=84) ?_;intro aIc hg w5 bT hb;replace HB:=o8 hb;have a3C:=am (bT);have bMs:=am ((aSs:w.heap.size≤aIc));have aVR:=am ((Nat.le_trans HW0.out (aSs:w.heap.size≤aIc):w0.heap.size≤aIc));replace HBW:=am (aY HBW.out hb);clear hb bT hg)
  go_ret
  exact⟨_,rfl,(show aI w0 _ aIc (l0.take 2000) 0 from⟨_,_,by(with_reducible repeat(fail));exact a3C.out,aVR.out,a5s.out⟩),cK aVR.out,by repeat(with_reducible exact HBW.out)⟩
 rw [if_neg c2] at H;have wD:=decide_eq_false c2
 have ZW:decide (2000<l0.length)=false:=decide_eq_false (by omega)
 clear c2
 simp only [Option.some.injEq,Prod.mk.injEq] at H
 obtain⟨rfl,rfl⟩:=H;go_enter Tryz.func16,Tryz.ntmps16
 go_wp2_with (refine gd 10 ?_;refine bx 10 (cs:= #[.slice A0 l0.length c0, .int .i64 0]) (t:=84) ?_;intro aId hg w6 bT hb;replace HB:=o8 hb;have a3D:=am (bT);have bMt:=am ((aSs:w.heap.size≤aId));have aVS:=am ((Nat.le_trans HW0.out (aSs:w.heap.size≤aId):w0.heap.size≤aId));replace HBW:=am (aY HBW.out hb);clear hb bT hg)
 go_ret
 exact⟨_,rfl,(show aI w0 _ aId l0 0 from⟨_,_,by(with_reducible repeat(fail));exact a3D.out,aVS.out,lX.out⟩),cK aVS.out,by repeat(with_reducible exact HBW.out)⟩
def aQ.j0:Nat→Int→Bool→List Int→Int→Option (Int×Int)
 |0,_,_,_,_=>none
 |k+1,x1,x24,x1000,lC=>if x24=true then(some (0,lC))else(if(wrap64 (lC-1))<(x1000.length:Int)then(if 0≤(wrap64 (lC-1))then(if x1=0 then(none)else(some (Int.tmod (wrap64 (rd x1000 (wrap64 (lC-1)))) x1,lC)))else(none))else(if(x1000.length:Int)=0 then(none)else(if 0≤(Int.tmod (wrap64 (lC-1)) (x1000.length:Int))then(if(Int.tmod (wrap64 (lC-1)) (x1000.length:Int))<(x1000.length:Int)then(if 0≤(Int.tmod (wrap64 ((wrap64 ((wrap64 (lC-1))*7))+3)) (x1000.length:Int))then(if(Int.tmod (wrap64 ((wrap64 ((wrap64 (lC-1))*7))+3)) (x1000.length:Int))<(x1000.length:Int)then(if x1=0 then(none)else(some (Int.tmod (Go.bits .xor .i64 (wrap64 ((wrap64 ((wrap64 ((wrap64 ((wrap64 (rd x1000 (Int.tmod (wrap64 (lC-1)) (x1000.length:Int))))*131))+(wrap64 ((wrap64 (rd x1000 (Int.tmod (wrap64 ((wrap64 ((wrap64 (lC-1))*7))+3)) (x1000.length:Int))))*1117))))+(wrap64 ((wrap64 (lC-1))*29))))+(wrap64 ((wrap64 (Int.tdiv (wrap64 (lC-1)) (x1000.length:Int)))*53)))) (wrap64 (Int.tdiv (wrap64 ((wrap64 ((wrap64 ((wrap64 ((wrap64 (rd x1000 (Int.tmod (wrap64 (lC-1)) (x1000.length:Int))))*131))+(wrap64 ((wrap64 (rd x1000 (Int.tmod (wrap64 ((wrap64 ((wrap64 (lC-1))*7))+3)) (x1000.length:Int))))*1117))))+(wrap64 ((wrap64 (lC-1))*29))))+(wrap64 ((wrap64 (Int.tdiv (wrap64 (lC-1)) (x1000.length:Int)))*53)))) 64))) x1,lC)))else(none))else(none))else(none))else(none))))
def aQ.f (k:Nat) (dG:List Int) (iX:Int) (a1:Int):Option (Int×Int):=if a1<1 then(aQ.j0 k a1 true dG (wrap64 (iX+1)))else(aQ.j0 k a1 ((dG.length:Int)==0) dG (wrap64 (iX+1)))
theorem aQ.calls (k:Nat) (g:Nat) (dG:List Int) (iX:Int) (a1:Int) (r1:Int) (r2:Int) (w0 w:World) (hI:aI w0 w g dG iX) (hB:Below w0.heap.size w0 w) (h:aQ.f k dG iX a1=some (r1,r2)):
  Calls Tryz.prog 48 #[.pointer (some ⟨g,0,none⟩), .int .i64 a1] w fun e w' =>e= .returned (.int .i64 r1)∧aI w0 w' g dG r2∧Below w0.heap.size w0 w' ∧aZ w w' g none:=by
 have HI0:=am hI;have HK:=am (aZ.refl w g none);have HL:=am hB.size;clear hI;have HW0:=am hB.size;have HB:=am hB;clear hB
 have H:=h;unfold aQ.f at H
 clear h;have FZ:=am H;clear H;obtain⟨bE3,bGl,aRP,bIG,bFC⟩:=HI0.out;have aGc:=KH aRP;have aGd:=KI aRP;have aGe:=bf aRP 1;clear aRP bIG;go_enter Tryz.func48,Tryz.ntmps48
 go_upto_region 2 with (fail)
 go_cut [24] (fun v24 wc=> ∃(kq:Nat) (zK:Bool),v24= .bool zK∧aC (aQ.j0 kq a1 zK dG (wrap64 (iX+1))=some (r1,r2))∧aC (kq≤k)∧aC (aI w0 wc g dG (wrap64 (iX+1)))∧aC (aZ w wc g none)∧aC (Below w0.heap.size w0 wc))
 case first=>
  have H:=FZ.out;clear FZ
  replace H:=iv H;rcases H with ⟨oL,H⟩|⟨oL,H⟩
  ·(skip)
   have H' :=am H
   clear H;go_wp2
   go_meet
   case rel=>exact⟨_,(true),sq,H',⟨xI⟩,⟨DV⟩,⟨uO⟩,⟨FB⟩⟩
  (skip)
  have H' :=am H
  clear H;obtain⟨bE4,bGm,aRQ,bIH,bFD⟩:=HI0.out;have bIv:=KH aRQ;have bIw:=KI aRQ;have bIF:=bf aRQ 1;clear aRQ bIH;go_wp2
  go_meet
  case rel=>exact⟨_,(((dG.length:Int)==0)),sq,H',⟨xI⟩,⟨DV⟩,⟨uO⟩,⟨FB⟩⟩
 case rest=>
  clear FZ;clear aGc aGd aGe;obtain⟨kq,zK,rfl,HA,HJ2,HI0,HK,HB⟩:=hcut
  cases kq with
  |zero=>exact absurd HA.out (by simp [aQ.j0])
  |succ D8=>
   have H:=HA.out;clear HA;simp only [aQ.j0] at H
   replace H:=ib H;rcases H with ⟨rfl,H⟩|⟨rfl,H⟩
   ·simp only [Option.some.injEq,Prod.mk.injEq] at H
    obtain⟨rfl,rfl⟩:=H;go_wp2
    go_ret
    exact⟨nD,DV,FB,uO⟩
   replace H:=iv H;rcases H with ⟨tK,H⟩|⟨tK,H⟩
   ·obtain⟨ji9,aKK⟩: ∃j_:Int,(wrap64 ((wrap64 (iX+1))-1))=j_:=⟨_,rfl⟩
    rw [aKK] at H
    rw [aKK] at tK
    have bAl:(IntKind.i64.wrap ((wrap64 (iX+1))-1))=ji9:=(iZ _).trans aKK
    replace H:=it H;obtain⟨BV,H⟩:=H;replace H:=iq H;obtain⟨c11,H⟩:=H
    have zG:(a1==0)=false:=beq_eq_false_iff_ne.mpr c11
    have aH0:(a1 !=0)=true:=bne_iff_ne.mpr c11
    simp only [Option.some.injEq,Prod.mk.injEq] at H;obtain⟨rfl,rfl⟩:=H;obtain⟨bCJ,bDo,aHj,bAe,aR5⟩:=HI0.out;have bDq:=KH aHj;have bDr:=KI aHj;have bDA:=bf aHj 1;clear aHj bAe
    obtain⟨bM7,bGC,aI4,bRU,bSn⟩:=XQ aR5 (ji9);cases bGC
    replace aI4:=sU HB.out aI4;go_wp2
    go_ret
    exact⟨by rfl,DV,FB,uO⟩
   replace H:=iq H;obtain⟨c13,H⟩:=H
   have aH2:((dG.length:Int)==0)=false:=beq_eq_false_iff_ne.mpr c13
   have bNy:((dG.length:Int) !=0)=true:=bne_iff_ne.mpr c13
   have bNz: ¬(dG=[]):=fun h_=>c13 (by rw [h_];rfl)
   obtain⟨aAd,aIC⟩: ∃j_:Int,(Int.tmod (wrap64 ((wrap64 (iX+1))-1)) (dG.length:Int))=j_:=⟨_,rfl⟩
   rw [aIC] at H
   replace H:=it H;obtain⟨BX,H⟩:=H
   replace H:=it H;obtain⟨BZ,H⟩:=H;obtain⟨aAe,aID⟩: ∃j_:Int,(Int.tmod (wrap64 ((wrap64 ((wrap64 ((wrap64 (iX+1))-1))*7))+3)) (dG.length:Int))=j_:=⟨_,rfl⟩
   rw [aID] at H
   replace H:=it H;obtain⟨L8,H⟩:=H;replace H:=it H;obtain⟨H6,H⟩:=H;replace H:=iq H;obtain⟨c20,H⟩:=H
   have L9:(a1==0)=false:=beq_eq_false_iff_ne.mpr c20
   have aH6:(a1 !=0)=true:=bne_iff_ne.mpr c20
   simp only [Option.some.injEq,Prod.mk.injEq] at H;obtain⟨rfl,rfl⟩:=H;obtain⟨bCK,bDp,aHk,bAf,aHu⟩:=HI0.out;have bDu:=KH aHk;have bDv:=KI aHk;have bDD:=bf aHk 1;clear aHk bAf
   obtain⟨a7u,bGD,aI5,bRV,bSo⟩:=XQ aHu (aAd);cases bGD;replace aI5:=sU HB.out aI5
   obtain⟨a7v,bGE,aI6,bRW,bSp⟩:=XQ aHu (aAe)
   obtain rfl:a7u=a7v:=(by injection bGE)
   replace aI6:=sU HB.out aI6;go_wp2
   repeat(go_quiet (fail);try go_wp2)
   go_ret
   exact⟨by rfl,DV,FB,uO⟩
mutual
def dL.l0:Nat→List ByteArray→ByteArray→Int→Option (List ByteArray)
 |0,_,_,_=>none
 |k+1,x0,x1,x5=>if x5<(x0.length:Int)then(if 0≤x5 then(dL.j1 k x0 x1 x5 (Op.bytesLess ((bP ByteArray.empty x0 x5).toList) x1.toList))else(none))else(dL.j1 k x0 x1 x5 false)
def dL.j1:Nat→List ByteArray→ByteArray→Int→Bool→Option (List ByteArray)
 |0,_,_,_,_=>none
 |k+1,x0,x1,x5,x17=>if x17=true then(dL.l0 k x0 x1 (wrap64 (x5+1)))else(if x5<(x0.length:Int)then(if 0≤x5 then(dL.j2 k x0 x1 x5 ((bP ByteArray.empty x0 x5).toList==x1.toList))else(none))else(dL.j2 k x0 x1 x5 false))
def dL.j2:Nat→List ByteArray→ByteArray→Int→Bool→Option (List ByteArray)
 |0,_,_,_,_=>none
 |k+1,x0,x1,x5,x31=>if x31=true then(some x0)else((some (([]:List ByteArray):List ByteArray)).bind fun aHa=>(if 0≤x5 then(if x5≤(x0.length:Int)then((some (x0.take (x5:Int).toNat:List ByteArray)).bind fun y112=>(if aHa.length+y112.length<8796093022208 then((some (aHa++y112:List ByteArray)).bind fun aHb=>((some (([x1]:List ByteArray):List ByteArray)).bind fun NH=>(if aHb.length+NH.length<8796093022208 then((some (aHb++NH:List ByteArray)).bind fun aRA=>((some (x0.drop (x5:Int).toNat:List ByteArray)).bind fun LG=>(if aRA.length+LG.length<8796093022208 then(some (aRA++LG))else(none))))else(none))))else(none)))else(none))else(none)))
end
def dL.f (k:Nat) (l0:List ByteArray) (a1:ByteArray):Option (List ByteArray):=dL.l0 k l0 a1 0
def dL.T6:Bool×List (List Nat×List Nat):=(true,[([],[]),([],[]),([],[]),([1,2],[1,2]),([0,3],[0,3]),([],[]),([5],[5]),([4,6,4],[4,6]),([],[]),([],[]),([8,9],[8,9]),([7,10,7],[7,10]),([11,11,0,1,2,3,4,5,6,7,8,9,10,11],[11])])
def dL.B6:List Nat:=[0,0,0,6,15,0,32,127,0,0,768,2047,4095]
theorem dL.aRk:nX .any (opsOf Tryz.f65 6)=dL.T6:=by kernel_rfl
theorem dL.aDX:jA dL.T6.2 dL.B6=true:=by kernel_rfl
theorem dL.calls (k:Nat) (HV:Nat→Prop) (A0:Option Addr) (c0:Nat) (l0:List ByteArray) (a1:ByteArray) (r:List ByteArray) (w:World) (hs0:Kd.V Kd.string 9 w w.heap.size (fun k_=>HV k_) (.slice A0 l0.length c0) l0) (h:dL.f k l0 a1=some r):
  Calls Tryz.prog 65 #[.slice A0 l0.length c0, .string a1] w fun e w' => ∃sQ:Value,e= .returned (sQ)∧Kd.V Kd.string 9 w' w.heap.size (fun k_=>(HV k_∨w.heap.size≤k_)) sQ r∧Below w.heap.size w w' :=by
 have HO0:=am (show Kd.V Kd.string 9 w w.heap.size (fun k_=>(HV k_∨w.heap.size≤k_)) (.slice A0 l0.length c0) l0 from Kd.gJ hs0 (fun k_ hk=> .inl hk));have HB:=am (Below.refl w.heap.size w)
 have H:=h;unfold dL.f at H
 clear h
 have H' :=am H
 clear H;go_enter Tryz.func65,Tryz.ntmps65;go_wp2
 go_loopg [5] k (fun kq v5 w' => ∃(bI:Int),v5= .int .i64 bI∧aC (dL.l0 kq l0 a1 bI=some r)∧aC (kq≤k)∧aC (Kd.V Kd.string 9 w' w.heap.size (fun k_=>(HV k_∨w.heap.size≤k_)) (.slice A0 l0.length c0) l0)∧aC (Below w.heap.size w w'))
 case atStart=>exact⟨(0),sq,H',⟨Nat.le_refl _⟩,⟨vq HO0.out⟩,⟨gP⟩⟩
 case round=>
  clear H';obtain⟨bI,rfl,HA,lM,pI,HB⟩:=hrel
  cases gk with
  |zero=>exact absurd HA.out (by simp [dL.l0])
  |succ k1=>
   have H:=HA.out;clear HA;simp only [dL.l0] at H;have FZ:=am H;clear H
   go_upto_region 2 with (fail)
   go_cut [17] (fun v17 wc=> ∃(kq:Nat) (aRs:Bool),v17= .bool aRs∧aC (dL.j1 kq l0 a1 bI aRs=some r)∧aC (kq≤k1)∧aC (Kd.V Kd.string 9 wc w.heap.size (fun k_=>(HV k_∨w.heap.size≤k_)) (.slice A0 l0.length c0) l0)∧aC (Below w.heap.size w wc))
   case first=>
    have H:=FZ.out;clear FZ
    replace H:=iv H;rcases H with ⟨qZ,H⟩|⟨qZ,H⟩
    ·(skip)
     replace H:=it H;obtain⟨oL,H⟩:=H
     have H' :=am H
     clear H
     obtain⟨bM8,bGF,bDS,bRX,bSq⟩:=CY (Kd.mE pI.out).2.2 bI;cases bGF
     go_wp2
     go_meet
     case rel=>exact⟨_,((Op.bytesLess ((bP ByteArray.empty l0 bI).toList) a1.toList)),sq,H',⟨OG⟩,⟨vq pI.out⟩,⟨gP⟩⟩
    (skip)
    have H' :=am H
    clear H;go_wp2
    go_meet
    case rel=>exact⟨_,(false),sq,H',⟨OG⟩,⟨vq pI.out⟩,⟨gP⟩⟩
   case rest=>
    clear FZ;obtain⟨kq,aRs,rfl,HA,HJ2,pI,HB⟩:=hcut
    cases kq with
    |zero=>exact absurd HA.out (by simp [dL.j1])
    |succ D8=>
     have H:=HA.out;clear HA;simp only [dL.j1] at H
     replace H:=ib H;rcases H with ⟨rfl,H⟩|⟨rfl,H⟩
     ·have H' :=am H
      clear H;go_wp2
      go_roundg D8
      case measure=>have:=lM.out;have:=HJ2.out;omega
      case rel=>exact⟨(wrap64 (bI+1)),sq,H',⟨by have:=lM.out;have:=HJ2.out;omega⟩,⟨vq pI.out⟩,⟨gP⟩⟩
     have HC7:=am H;clear H
     go_upto_region 4 with (fail)
     go_cut [31] (fun v31 wc=> ∃(kq:Nat) (aRx:Bool),v31= .bool aRx∧aC (dL.j2 kq l0 a1 bI aRx=some r)∧aC (kq≤D8)∧aC (Kd.V Kd.string 9 wc w.heap.size (fun k_=>(HV k_∨w.heap.size≤k_)) (.slice A0 l0.length c0) l0)∧aC (Below w.heap.size w wc))
     case first=>
      have H:=HC7.out;clear HC7
      replace H:=iv H;rcases H with ⟨tK,H⟩|⟨tK,H⟩
      ·(skip)
       replace H:=it H;obtain⟨wE,H⟩:=H
       have H' :=am H
       clear H
       obtain⟨bM9,e108,bDT,bRY,bSr⟩:=CY (Kd.mE pI.out).2.2 bI;cases e108
       go_wp2
       go_meet
       case rel=>exact⟨_,(((bP ByteArray.empty l0 bI).toList==a1.toList)),sq,H',⟨by have:=lM.out;have:=HJ2.out;omega⟩,⟨vq pI.out⟩,⟨gP⟩⟩
      (skip)
      have H' :=am H
      clear H;go_wp2
      go_meet
      case rel=>exact⟨_,(false),sq,H',⟨by have:=lM.out;have:=HJ2.out;omega⟩,⟨vq pI.out⟩,⟨gP⟩⟩
     case rest=>
      clear HC7;obtain⟨kq,aRx,rfl,HA,HJ6,pI,HB⟩:=hcut
      cases kq with
      |zero=>exact absurd HA.out (by simp [dL.j2])
      |succ kj6=>
       have H:=HA.out;clear HA;simp only [dL.j2] at H
       replace H:=ib H;rcases H with ⟨rfl,H⟩|⟨rfl,H⟩
       ·obtain rfl:=si H;go_wp2;go_ret
        exact⟨_,nD,by(with_reducible repeat(fail));exact pI.out,gP⟩
       replace H:=bg H;obtain⟨aHa,aWg,H⟩:=H;(try dsimp only at H);replace H:=ip H;obtain⟨c11,H⟩:=H;have zG:=eq_true c11
       have aH0:decide (0≤bI)=true:=decide_eq_true c11
       clear c11;replace H:=ip H;obtain⟨c12,H⟩:=H;have xN:=eq_true c12
       have OL:decide (bI≤(l0.length:Int))=true:=decide_eq_true c12
       clear c12;obtain⟨y112,hy112⟩: ∃y_:List ByteArray,y_=(l0.take (bI:Int).toNat):=⟨_,rfl⟩
       replace H:=bm H;rw [←hy112] at H
       have aWh:=am hy112;clear hy112
       replace H:=ip H;obtain⟨c13,H⟩:=H;have XF:=am c13;clear c13;obtain⟨aHb,aOy⟩: ∃y_:List ByteArray,y_=(aHa++y112):=⟨_,rfl⟩
       replace H:=bm H;rw [←aOy] at H
       have aL3:=am aOy;clear aOy;obtain⟨NH,aOz⟩: ∃y_:List ByteArray,y_=(([a1]:List ByteArray)):=⟨_,rfl⟩
       replace H:=bm H;rw [←aOz] at H
       have aL4:=am aOz;clear aOz
       replace H:=ip H;obtain⟨c14,H⟩:=H;have a5B:=am c14;clear c14;obtain⟨aRA,aOA⟩: ∃y_:List ByteArray,y_=(aHb++NH):=⟨_,rfl⟩
       replace H:=bm H;rw [←aOA] at H
       have a5P:=am aOA;clear aOA;have BX:=eq_true (dt:0≤bI);have BZ:=eq_true (dt:bI≤(l0.length:Int));obtain⟨LG,aOB⟩: ∃y_:List ByteArray,y_=(l0.drop (bI:Int).toNat):=⟨_,rfl⟩
       replace H:=bm H;rw [←aOB] at H
       have aWi:=am aOB;clear aOB
       replace H:=ip H;obtain⟨c17,H⟩:=H;have aLZ:=am c17;clear c17;obtain⟨bT7,aOC⟩: ∃y_:List ByteArray,y_=(aRA++LG):=⟨_,rfl⟩
       rw [←aOC] at H
       have a5Q:=am aOC;clear aOC;obtain rfl:=si H
       try go_wp2
       replace pI:=am (Kd.xX pI.out);replace HB:=am (bH HB.out)
       have q19:(bI:Int)≤((l0.length:Int):Int):=dt
       obtain⟨bRO,aXU,_,bAH,_⟩:=info_parts zI
       have aIZ:l0.length≤c0:=(Kd.mE pI.out).2.1
       have a9F:Kd.F Kd.string _ _ A0 l0.length l0:=(Kd.aKc (base:=w.heap.size) pI.out).2.2
       have a06:=S9 (P:=Tryz.prog) 36 9 .i64 Tryz.underlying36 aXU A0 l0.length c0 bI (dt) q19 aIZ;have a1N:=Kd.aYI (m:=(bI:Int).toNat) a9F (by omega)
       have a1X:y112.length=(bI:Int).toNat:=(by rw [aWh.out,List.length_take];omega)
       rw [←aWh.out] at a1N;rw [←a1X] at a06
       have qN:=am (show Kd.V Kd.string 9 _ w.heap.size _ (.slice A0 y112.length c0) y112 from Kd.a7t (by omega) a1N)
       have bMU:=am (show y112.length≤c0 from by omega)
       clear a1N a9F aIZ aXU bAH;have bQW:=am a1X;clear a1X;replace q19:=eq_true q19
       have q20:(bI:Int)≤((l0.length:Int):Int):=dt
       obtain⟨bRP,aXV,_,aYr,_⟩:=info_parts zI
       have VX:l0.length≤c0:=(Kd.mE pI.out).2.1
       have a9G:Kd.F Kd.string _ _ A0 l0.length l0:=(Kd.aKc (base:=w.heap.size) pI.out).2.2
       have bKi:(0:Int)≤(bI:Int):=dt
       have a07:=aEk (P:=Tryz.prog) 36 9 .i64 Tryz.underlying36 aXV 1 aYr A0 l0.length c0 bI bKi q20;have aOs:=Kd.a3H (m:=(bI:Int).toNat) (c:=c0) a9G (by omega) VX
       obtain⟨A20,aSL⟩: ∃A1,A1=(if c0=(bI:Int).toNat then A0 else(A0:Option Addr).map (·.add ((bI:Int).toNat*1))):=⟨_,rfl⟩;obtain⟨c20,aSQ⟩: ∃c1,c1=c0-(bI:Int).toNat:=⟨_,rfl⟩
       have aOL:LG.length=l0.length-(bI:Int).toNat:=(by rw [aWi.out,List.length_drop]<;>omega)
       rw [show(l0).drop (bI:Int).toNat=LG from aWi.out.symm] at aOs
       replace aOs:Kd.F Kd.string _ _ A20 LG.length LG:=(by rw [aSL];exact aOs)
       rw [←aOL,←aSL,←aSQ] at a07
       have rR:=am (show Kd.V Kd.string 9 _ w.heap.size _ (.slice A20 LG.length c20) LG from Kd.a7t (by rw [aOL,aSQ];exact Nat.sub_le_sub_right VX _) aOs)
       have bMV:=am (show LG.length≤c20 from by rw [aOL,aSQ];exact Nat.sub_le_sub_right VX _)
       clear aOs a9G VX aXV aYr aSQ;have bQX:=am aOL;have bQS:=am aSL;clear aOL aSL;replace q20:=eq_true q20
       refine st (n:=13) (S:=fun w' =>True) (ds:=[]) trivial (fun hHeld=>?_);refine dW dL.aRk dL.aDX (fun kQ rT=>?_)
       generalize wc.drew=w18 at pI HB qN rR hHeld⊢;refine pu 1 34 ?_;refine pu 2 35 ?_;refine pu 3 36 ?_;refine pu 5 38 ?_;refine pu 8 41 ?_;refine pu 9 42 ?_;refine pu 10 43 ?_
       refine aQb (σ:=Value×Value×Value) 3 #[true,true,true,true,true,true,true,false,true,true,true,false,false] (fun s_=>[(33,s_.1),(37,s_.2.1),(39,s_.2.2)]) (fun s_ w' =>(Kd.V Kd.string 9 w' w.heap.size (fun k_=>(HV k_∨w.heap.size≤k_)∧some k_≠(s_.2.1:Value).ownBlock∧some k_≠(s_.2.2:Value).ownBlock) (.slice A0 y112.length c0) y112)∧(Kd.R Kd.string 9 w' w.heap.size (fun k_=>(w.heap.size≤k_)∧some k_≠(s_.2.2:Value).ownBlock) s_.2.1 aHb)∧(Kd.R Kd.string 9 w' w.heap.size (fun k_=>(w.heap.size≤k_)∧some k_≠(s_.2.1:Value).ownBlock) s_.2.2 NH)∧(Kd.V Kd.string 9 w' w.heap.size (fun k_=>(HV k_∨w.heap.size≤k_)∧some k_≠(s_.2.1:Value).ownBlock∧some k_≠(s_.2.2:Value).ownBlock) (.slice A20 LG.length c20) LG)∧(Kd.V Kd.string 9 w' w.heap.size (fun k_=>(HV k_∨w.heap.size≤k_)∧some k_≠(s_.2.1:Value).ownBlock∧some k_≠(s_.2.2:Value).ownBlock) (.slice A0 l0.length c0) l0)∧(Below w.heap.size w w')) ?_ ?_
       rotate_left
       ·intro MI
        refine aRm (i:=0) (j:=6) (Ni:=some 33) (Nj:=some 39) #[true,true,true,true,false,true,false,false,true,true,true,false,false] #[false,true,true,true,false,true,true,false,true,true,true,false,false] rfl rfl rfl rfl (ZE kQ.out (by kernel_rfl)) (by decide) (by decide) (fun K hK=>?_) (fun K hK=>?_)
        ·skip
         refine Kd.kM Kd.string _ 9 ?hg (N:=33) ?hd (xs:=([]:List ByteArray)) (inner:=[]) (ok:=fun _=>True) (mK:=fun _=>True) ?hr ?hp (fun _ hk=>hk) trivial (Below.refl _ _) (Nat.le_refl _) (by simp) ?_;(case hd=>rfl);(case hg=>rfl);(case hr=>(go_simp;done));(case hp=>exact(dQ.none _ _))
         intro aFh w21 TF hb lL dP;clear lL dP
         (rw [←aWg.out] at TF)
         replace pI:=am (Kd.lU (vq pI.out) (Kd.jE TF) hb);replace qN:=am (Kd.lU (vq qN.out) (Kd.jE TF) hb);replace rR:=am (Kd.lU (vq rR.out) (Kd.jE TF) hb);have LY:=am (Kd.dZ (Kd.yY (M:=fun k_=>(w.heap.size≤k_)) TF (aH gP) (fun k_ h_=>h_)) (aH gP));replace HB:=o8 hb;clear hb TF
         refine hK.out _ _ trivial (fun hHeld=>?_);clear hK K;refine nm 33 ?_
         refine aRm (i:=4) (j:=6) (Ni:=some 37) (Nj:=some 39) #[true,true,true,true,true,true,false,false,true,true,true,false,false] #[true,true,true,true,false,true,true,false,true,true,true,false,false] rfl rfl rfl rfl (ZE kQ.out (by kernel_rfl)) (by decide) (by decide) (fun K hK=>?_) (fun K hK=>?_)
         ·skip
          refine Kd.jL Kd.string (w0:=w) w.heap.size (by rfl) (.tmp 33) (.tmp 36) 36 9 (.string ⟨#[]⟩) 16 rfl Tryz.underlying36 zI rfl (by decide) (by omega) aFh aHa y112 _ _ _ (fun k_=>(w.heap.size≤k_)) (fun _=>False) rfl rfl ?aO ?aR (fun _ _ h=>h) (fun _ h=>h.elim) ?aF ?aB ?aS ?aL ?_
          (case aR=>exact cq (Kd.mE qN.out).2.2);(case aB=>exact gP);(case aF=>exact(fun k_ hk=>(Nat.le_trans (aH gP) hk)));(case aO=>exact(rq (Kd.bA LY.out (fun _ hk=>hk.1))));(case aS=>exact(aH gP));(case aL=>have:=XF.out;omega);intro VH w23 ho hb hg hat;rw [←aL3.out] at ho;replace pI:=am (Kd.oK (ok:=(fun k_=>(HV k_∨w.heap.size≤k_))) (vq pI.out) hg hat);replace qN:=am (Kd.oK (ok:=(fun k_=>(HV k_∨w.heap.size≤k_))) (vq qN.out) hg hat);replace rR:=am (Kd.oK (ok:=(fun k_=>(HV k_∨w.heap.size≤k_))) (vq rR.out) hg hat);replace HB:=am (hb);have IZ:=am (ho);clear LY;clear ho hb hg hat
          refine hK.out _ _ trivial (fun hHeld=>?_);clear hK K;refine nm 37 ?_;refine qF 6 39 (fun K hK=>?_)
          refine Kd.kM Kd.string _ 9 ?hg (N:=39) ?hd (xs:=([a1]:List ByteArray)) (inner:=[.string a1]) (ok:=fun _=>True) (mK:=fun _=>True) ?hr ?hp (fun _ hk=>hk) trivial (Below.refl _ _) (Nat.le_refl _) (by simp) ?_;(case hd=>rfl);(case hg=>rfl);(case hr=>(go_simp;done));(case hp=>exact(dQ.one (show Kd.M Kd.string _ _ _ a1 [.string a1] from rfl) (dQ.none _ _)))
          intro GX w24 FP hb lL dP;clear lL dP
          (rw [←aL4.out] at FP)
          replace pI:=am (Kd.lU (vq pI.out) (Kd.jE FP) hb);replace qN:=am (Kd.lU (vq qN.out) (Kd.jE FP) hb);replace rR:=am (Kd.lU (vq rR.out) (Kd.jE FP) hb);have tV:=am (Kd.dZ (Kd.qW (Kd.yY (M:=fun k_=>(w.heap.size≤k_)) FP (aH gP) (fun k_ h_=>h_)) (Kd.pJ (rq IZ.out))) (aH gP));replace IZ:=am (Kd.lT (rq IZ.out) (Kd.jE FP) hb);replace HB:=o8 hb;clear hb FP
          refine hK.out _ _ trivial (fun hHeld=>?_);clear hK K;refine nm 39 ?_
          exact IE aDT (MI (aFh,VH,GX) _ ⟨(vq (Kd.gJ qN.out (fun _ hk=>⟨hk.1.1,⟨hk.1.2,hk.2⟩⟩))),(rq IZ.out),(rq (Kd.bA tV.out (fun _ hk=>⟨hk.1.1,hk.2⟩))),(vq (Kd.gJ rR.out (fun _ hk=>⟨hk.1.1,⟨hk.1.2,hk.2⟩⟩))),(vq (Kd.gJ pI.out (fun _ hk=>⟨hk.1.1,⟨hk.1.2,hk.2⟩⟩))),gP⟩)
         ·skip
          refine Kd.kM Kd.string _ 9 ?hg (N:=39) ?hd (xs:=([a1]:List ByteArray)) (inner:=[.string a1]) (ok:=fun _=>True) (mK:=fun _=>True) ?hr ?hp (fun _ hk=>hk) trivial (Below.refl _ _) (Nat.le_refl _) (by simp) ?_;(case hd=>rfl);(case hg=>rfl);(case hr=>(go_simp;done));(case hp=>exact(dQ.one (show Kd.M Kd.string _ _ _ a1 [.string a1] from rfl) (dQ.none _ _)))
          intro GX w23 yZ hb lL dP;clear lL dP
          (rw [←aL4.out] at yZ)
          replace pI:=am (Kd.lU (vq pI.out) (Kd.jE yZ) hb);replace qN:=am (Kd.lU (vq qN.out) (Kd.jE yZ) hb);replace rR:=am (Kd.lU (vq rR.out) (Kd.jE yZ) hb);have tV:=am (Kd.dZ (Kd.qW (Kd.yY (M:=fun k_=>(w.heap.size≤k_)) yZ (aH gP) (fun k_ h_=>h_)) (Kd.pJ (rq LY.out))) (aH gP));replace LY:=am (Kd.lT (rq LY.out) (Kd.jE yZ) hb);replace HB:=o8 hb;clear hb yZ
          refine hK.out _ _ trivial (fun hHeld=>?_);clear hK K;refine nm 39 ?_;refine qF 4 37 (fun K hK=>?_)
          refine Kd.jL Kd.string (w0:=w) w.heap.size (by rfl) (.tmp 33) (.tmp 36) 36 9 (.string ⟨#[]⟩) 16 rfl Tryz.underlying36 zI rfl (by decide) (by omega) aFh aHa y112 _ _ _ (fun k_=>(w.heap.size≤k_)∧some k_≠(GX:Value).ownBlock) (fun _=>False) rfl rfl ?aO ?aR (fun _ _ h=>h) (fun _ h=>h.elim) ?aF ?aB ?aS ?aL ?_
          (case aR=>exact cq (Kd.mE qN.out).2.2);(case aB=>exact gP);(case aF=>exact(fun k_ hk=>⟨(Nat.le_trans (aH gP) hk),Kd.nL (Kd.pJ (rq tV.out)) k_ hk⟩));(case aO=>exact(rq (Kd.bA LY.out (fun _ hk=>⟨hk.1.1,hk.2⟩))));(case aS=>exact(aH gP));(case aL=>have:=XF.out;omega);intro VH w25 ho hb hg hat;rw [←aL3.out] at ho;replace pI:=am (Kd.oK (ok:=(fun k_=>(HV k_∨w.heap.size≤k_)∧some k_≠(GX:Value).ownBlock)) (vq (Kd.gJ pI.out (fun _ hk=>⟨⟨hk.1.1,hk.2⟩,hk.1.2⟩))) hg hat);replace qN:=am (Kd.oK (ok:=(fun k_=>(HV k_∨w.heap.size≤k_)∧some k_≠(GX:Value).ownBlock)) (vq (Kd.gJ qN.out (fun _ hk=>⟨⟨hk.1.1,hk.2⟩,hk.1.2⟩))) hg hat);replace rR:=am (Kd.oK (ok:=(fun k_=>(HV k_∨w.heap.size≤k_)∧some k_≠(GX:Value).ownBlock)) (vq (Kd.gJ rR.out (fun _ hk=>⟨⟨hk.1.1,hk.2⟩,hk.1.2⟩))) hg hat);replace tV:=am (Kd.oO (ok:=(fun k_=>(w.heap.size≤k_))) (rq (Kd.bA tV.out (fun _ hk=>⟨hk.1.1,hk.2⟩))) hg hat);replace HB:=am (hb);have IZ:=am (ho);clear LY;clear ho hb hg hat
          refine hK.out _ _ trivial (fun hHeld=>?_);clear hK K;refine nm 37 ?_
          exact IE aDT (MI (aFh,VH,GX) _ ⟨(vq (Kd.gJ qN.out (fun _ hk=>⟨hk.1.1,⟨hk.2,hk.1.2⟩⟩))),(rq IZ.out),(rq tV.out),(vq (Kd.gJ rR.out (fun _ hk=>⟨hk.1.1,⟨hk.2,hk.1.2⟩⟩))),(vq (Kd.gJ pI.out (fun _ hk=>⟨hk.1.1,⟨hk.2,hk.1.2⟩⟩))),gP⟩)
        ·skip
         refine Kd.kM Kd.string _ 9 ?hg (N:=39) ?hd (xs:=([a1]:List ByteArray)) (inner:=[.string a1]) (ok:=fun _=>True) (mK:=fun _=>True) ?hr ?hp (fun _ hk=>hk) trivial (Below.refl _ _) (Nat.le_refl _) (by simp) ?_;(case hd=>rfl);(case hg=>rfl);(case hr=>(go_simp;done));(case hp=>exact(dQ.one (show Kd.M Kd.string _ _ _ a1 [.string a1] from rfl) (dQ.none _ _)))
         intro GX w21 TF hb lL dP;clear lL dP
         (rw [←aL4.out] at TF)
         replace pI:=am (Kd.lU (vq pI.out) (Kd.jE TF) hb);replace qN:=am (Kd.lU (vq qN.out) (Kd.jE TF) hb);replace rR:=am (Kd.lU (vq rR.out) (Kd.jE TF) hb);have tV:=am (Kd.dZ (Kd.yY (M:=fun k_=>(w.heap.size≤k_)) TF (aH gP) (fun k_ h_=>h_)) (aH gP));replace HB:=o8 hb;clear hb TF
         refine hK.out _ _ trivial (fun hHeld=>?_);clear hK K;refine nm 39 ?_;refine qF 0 33 (fun K hK=>?_)
         refine Kd.kM Kd.string _ 9 ?hg (N:=33) ?hd (xs:=([]:List ByteArray)) (inner:=[]) (ok:=fun _=>True) (mK:=fun _=>True) ?hr ?hp (fun _ hk=>hk) trivial (Below.refl _ _) (Nat.le_refl _) (by simp) ?_;(case hd=>rfl);(case hg=>rfl);(case hr=>(go_simp;done));(case hp=>exact(dQ.none _ _))
         intro aFh w23 yZ hb lL dP;clear lL dP
         (rw [←aWg.out] at yZ)
         replace pI:=am (Kd.lU (vq pI.out) (Kd.jE yZ) hb);replace qN:=am (Kd.lU (vq qN.out) (Kd.jE yZ) hb);replace rR:=am (Kd.lU (vq rR.out) (Kd.jE yZ) hb);have LY:=am (Kd.dZ (Kd.qW (Kd.yY (M:=fun k_=>(w.heap.size≤k_)) yZ (aH gP) (fun k_ h_=>h_)) (Kd.pJ (rq tV.out))) (aH gP));replace tV:=am (Kd.lT (rq tV.out) (Kd.jE yZ) hb);replace HB:=o8 hb;clear hb yZ
         refine hK.out _ _ trivial (fun hHeld=>?_);clear hK K;refine nm 33 ?_;refine qF 4 37 (fun K hK=>?_)
         refine Kd.jL Kd.string (w0:=w) w.heap.size (by rfl) (.tmp 33) (.tmp 36) 36 9 (.string ⟨#[]⟩) 16 rfl Tryz.underlying36 zI rfl (by decide) (by omega) aFh aHa y112 _ _ _ (fun k_=>(w.heap.size≤k_)∧some k_≠(GX:Value).ownBlock) (fun _=>False) rfl rfl ?aO ?aR (fun _ _ h=>h) (fun _ h=>h.elim) ?aF ?aB ?aS ?aL ?_
         (case aR=>exact cq (Kd.mE qN.out).2.2);(case aB=>exact gP);(case aF=>exact(fun k_ hk=>⟨(Nat.le_trans (aH gP) hk),Kd.nL (Kd.pJ (rq tV.out)) k_ hk⟩));(case aO=>exact(rq (Kd.bA LY.out (fun _ hk=>⟨hk.1.1,hk.2⟩))));(case aS=>exact(aH gP));(case aL=>have:=XF.out;omega);intro VH w25 ho hb hg hat;rw [←aL3.out] at ho;replace pI:=am (Kd.oK (ok:=(fun k_=>(HV k_∨w.heap.size≤k_)∧some k_≠(GX:Value).ownBlock)) (vq pI.out) hg hat);replace qN:=am (Kd.oK (ok:=(fun k_=>(HV k_∨w.heap.size≤k_)∧some k_≠(GX:Value).ownBlock)) (vq qN.out) hg hat);replace rR:=am (Kd.oK (ok:=(fun k_=>(HV k_∨w.heap.size≤k_)∧some k_≠(GX:Value).ownBlock)) (vq rR.out) hg hat);replace tV:=am (Kd.oO (ok:=(fun k_=>(w.heap.size≤k_))) (rq (Kd.bA tV.out (fun _ hk=>⟨hk.1.1,hk.2⟩))) hg hat);replace HB:=am (hb);have IZ:=am (ho);clear LY;clear ho hb hg hat
         refine hK.out _ _ trivial (fun hHeld=>?_);clear hK K;refine nm 37 ?_
         exact IE aDT (MI (aFh,VH,GX) _ ⟨(vq (Kd.gJ qN.out (fun _ hk=>⟨hk.1.1,⟨hk.2,hk.1.2⟩⟩))),(rq IZ.out),(rq tV.out),(vq (Kd.gJ rR.out (fun _ hk=>⟨hk.1.1,⟨hk.2,hk.1.2⟩⟩))),(vq (Kd.gJ pI.out (fun _ hk=>⟨hk.1.1,⟨hk.2,hk.1.2⟩⟩))),gP⟩)
       rintro⟨aFh,VH,GX⟩ w26 ⟨h0_,h1_,h2_,h3_,h4_,h5_⟩
       have vK:aC (Kd.V Kd.string 9 w26 w.heap.size (fun k_=>(HV k_∨w.heap.size≤k_)∧some k_≠(VH:Value).ownBlock∧some k_≠(GX:Value).ownBlock) (.slice A0 y112.length c0) y112):=⟨h0_⟩
       have vL:aC (Kd.R Kd.string 9 w26 w.heap.size (fun k_=>(w.heap.size≤k_)∧some k_≠(GX:Value).ownBlock) VH aHb):=⟨h1_⟩
       have GL:aC (Kd.R Kd.string 9 w26 w.heap.size (fun k_=>(w.heap.size≤k_)∧some k_≠(VH:Value).ownBlock) GX NH):=⟨h2_⟩
       have MO:aC (Kd.V Kd.string 9 w26 w.heap.size (fun k_=>(HV k_∨w.heap.size≤k_)∧some k_≠(VH:Value).ownBlock∧some k_≠(GX:Value).ownBlock) (.slice A20 LG.length c20) LG):=⟨h3_⟩
       have n4_:aC (Kd.V Kd.string 9 w26 w.heap.size (fun k_=>(HV k_∨w.heap.size≤k_)∧some k_≠(VH:Value).ownBlock∧some k_≠(GX:Value).ownBlock) (.slice A0 l0.length c0) l0):=⟨h4_⟩
       have n5_:aC (Below w.heap.size w w26):=⟨h5_⟩
       clear pI;clear HB;clear h0_ h1_ h2_ h3_ h4_ h5_;have qN:=vK;have IZ:=vL;have tV:=GL;have rR:=MO;have pI:=n4_;have HB:=n5_;clear vK vL GL MO n4_ n5_;have hHeld:=trivial;obtain⟨WT,X4,aNG⟩:=Kd.bS tV.out
       (subst aNG)
       refine IE (a' :=?_) ?_ ?_
       rotate_left
       ·simp only [M3,Act.put,List.setIfInBounds_toArray,List.set_cons_zero,List.set_cons_succ]
        rfl
       refine qF 7 40 (fun K hK=>?_)
       refine Kd.jL Kd.string (w0:=w) w.heap.size (by rfl) (.tmp 37) (.tmp 39) 36 9 (.string ⟨#[]⟩) 16 rfl Tryz.underlying36 zI rfl (by decide) (by omega) VH aHb NH _ _ _ (fun k_=>(w.heap.size≤k_)∧some k_≠(.slice WT NH.length X4:Value).ownBlock) (fun _=>False) rfl rfl ?aO ?aR (fun _ _ h=>h) (fun _ h=>h.elim) ?aF ?aB ?aS ?aL ?_
       (case aR=>exact cq (Kd.aM tV.out).2.2);(case aB=>exact gP);(case aF=>exact(fun k_ hk=>⟨(Nat.le_trans (aH gP) hk),Kd.nL (Kd.pJ (rq tV.out)) k_ hk⟩));(case aO=>exact(rq IZ.out));(case aS=>exact(aH gP));(case aL=>have:=a5B.out;omega);intro v124 w27 ho hb hg hat;rw [←a5P.out] at ho;replace pI:=am (Kd.oK (ok:=(fun k_=>(HV k_∨w.heap.size≤k_)∧some k_≠(.slice WT NH.length X4:Value).ownBlock)) (vq (Kd.gJ pI.out (fun _ hk=>⟨⟨hk.1,hk.2.2⟩,hk.2.1⟩))) hg hat);replace qN:=am (Kd.oK (ok:=(fun k_=>(HV k_∨w.heap.size≤k_)∧some k_≠(.slice WT NH.length X4:Value).ownBlock)) (vq (Kd.gJ qN.out (fun _ hk=>⟨⟨hk.1,hk.2.2⟩,hk.2.1⟩))) hg hat);replace rR:=am (Kd.oK (ok:=(fun k_=>(HV k_∨w.heap.size≤k_)∧some k_≠(.slice WT NH.length X4:Value).ownBlock)) (vq (Kd.gJ rR.out (fun _ hk=>⟨⟨hk.1,hk.2.2⟩,hk.2.1⟩))) hg hat);replace tV:=am (Kd.oO (ok:=(fun k_=>(w.heap.size≤k_))) (rq tV.out) hg hat);replace HB:=am (hb);have aVZ:=am (ho);clear IZ;clear ho hb hg hat
       refine hK.out _ _ trivial (fun hHeld=>?_);clear hK K;refine nm 40 ?_;refine qF 11 44 (fun K hK=>?_)
       refine Kd.jL Kd.string (w0:=w) w.heap.size (by rfl) (.tmp 40) (.tmp 43) 36 9 (.string ⟨#[]⟩) 16 rfl Tryz.underlying36 zI rfl (by decide) (by omega) v124 aRA LG _ _ _ (fun k_=>(w.heap.size≤k_)∧some k_≠(.slice WT NH.length X4:Value).ownBlock) (fun _=>False) rfl rfl ?aO ?aR (fun _ _ h=>h) (fun _ h=>h.elim) ?aF ?aB ?aS ?aL ?_
       (case aR=>exact cq (Kd.mE rR.out).2.2);(case aB=>exact gP);(case aF=>exact(fun k_ hk=>⟨(Nat.le_trans (aH gP) hk),Kd.nL (Kd.pJ (rq tV.out)) k_ hk⟩));(case aO=>exact(rq aVZ.out));(case aS=>exact(aH gP));(case aL=>have:=aLZ.out;omega);intro bSU w29 ho hb hg hat;rw [←a5Q.out] at ho;replace pI:=am (Kd.oK (ok:=(fun k_=>(HV k_∨w.heap.size≤k_)∧some k_≠(.slice WT NH.length X4:Value).ownBlock)) (vq pI.out) hg hat);replace qN:=am (Kd.oK (ok:=(fun k_=>(HV k_∨w.heap.size≤k_)∧some k_≠(.slice WT NH.length X4:Value).ownBlock)) (vq qN.out) hg hat);replace rR:=am (Kd.oK (ok:=(fun k_=>(HV k_∨w.heap.size≤k_)∧some k_≠(.slice WT NH.length X4:Value).ownBlock)) (vq rR.out) hg hat);replace tV:=am (Kd.oO (ok:=(fun k_=>(w.heap.size≤k_))) (rq tV.out) hg hat);replace HB:=am (hb);have a4q:=am (ho);clear aVZ;clear ho hb hg hat
       refine hK.out _ _ trivial (fun hHeld=>?_);clear hK K;refine nm 44 ?_;refine pu 12 4 ?_
       refine kD (fQ kQ.out (by kernel_rfl)) ?_
       try go_wp2
       go_ret
       exact⟨_,nD,Kd.gJ (Kd.R_V (rq (Kd.bA a4q.out (fun _ hk=>hk.1)))) (fun k_ hk=>by exact(.inr (hk))),gP⟩
def kJ.f (k:Nat) (dG:List Int) (iX:Int):Option (ByteArray×Bool×ByteArray×ByteArray×ByteArray×Int):=(some (([(⟨(⟨#[83]⟩:ByteArray),false,(⟨#[]⟩:ByteArray),(⟨#[115]⟩:ByteArray),(⟨#[]⟩:ByteArray)⟩:kH),(⟨(⟨#[83]⟩:ByteArray),false,(⟨#[121]⟩:ByteArray),(⟨#[105,101,115]⟩:ByteArray),(⟨#[121]⟩:ByteArray)⟩:kH),(⟨(⟨#[71]⟩:ByteArray),false,(⟨#[]⟩:ByteArray),(⟨#[105,110,103]⟩:ByteArray),(⟨#[]⟩:ByteArray)⟩:kH),(⟨(⟨#[71]⟩:ByteArray),false,(⟨#[101]⟩:ByteArray),(⟨#[105,110,103]⟩:ByteArray),(⟨#[101]⟩:ByteArray)⟩:kH),(⟨(⟨#[85]⟩:ByteArray),true,(⟨#[]⟩:ByteArray),(⟨#[117,110]⟩:ByteArray),(⟨#[]⟩:ByteArray)⟩:kH),(⟨(⟨#[82]⟩:ByteArray),true,(⟨#[97]⟩:ByteArray),(⟨#[98]⟩:ByteArray),(⟨#[97]⟩:ByteArray)⟩:kH),(⟨(⟨#[84]⟩:ByteArray),false,(⟨#[]⟩:ByteArray),(⟨#[116]⟩:ByteArray),(⟨#[97,99]⟩:ByteArray)⟩:kH),(⟨(⟨#[67]⟩:ByteArray),false,(⟨#[]⟩:ByteArray),(⟨#[97,98,99]⟩:ByteArray),(⟨#[]⟩:ByteArray)⟩:kH)]:List (kH)):List (kH))).bind fun y8=>((aQ.f k dG iX (y8.length:Int)).bind fun UA=>(if 0≤UA.1 then(if UA.1<(y8.length:Int)then(some ((aD y8 UA.1).f0,(aD y8 UA.1).f1,(aD y8 UA.1).f2,(aD y8 UA.1).f3,(aD y8 UA.1).f4,UA.2))else(none))else(none)))
theorem kJ.calls (k:Nat) (g:Nat) (dG:List Int) (iX:Int) (r1:ByteArray) (r2:Bool) (r3:ByteArray) (r4:ByteArray) (r5:ByteArray) (r6:Int) (w0 w:World) (hI:aI w0 w g dG iX) (hB:Below w0.heap.size w0 w) (h:kJ.f k dG iX=some (r1,r2,r3,r4,r5,r6)):
  Calls Tryz.prog 83 #[.pointer (some ⟨g,0,none⟩)] w fun e w' =>e= .returned (.agg #[.string r1, .bool r2, .string r3, .string r4, .string r5])∧aI w0 w' g dG r6∧Below w0.heap.size w0 w' ∧aZ w w' g none:=by
 have U8:=Tryz.underlying87;have HI0:=am hI;have HK:=am (aZ.refl w g none);have HL:=am hB.size;clear hI;have HW0:=am hB.size;have HB:=am hB;clear hB
 have H:=h;unfold kJ.f at H
 clear h;obtain⟨y8,aOD⟩: ∃y_:List (kH),y_=(([(⟨(⟨#[83]⟩:ByteArray),false,(⟨#[]⟩:ByteArray),(⟨#[115]⟩:ByteArray),(⟨#[]⟩:ByteArray)⟩:kH),(⟨(⟨#[83]⟩:ByteArray),false,(⟨#[121]⟩:ByteArray),(⟨#[105,101,115]⟩:ByteArray),(⟨#[121]⟩:ByteArray)⟩:kH),(⟨(⟨#[71]⟩:ByteArray),false,(⟨#[]⟩:ByteArray),(⟨#[105,110,103]⟩:ByteArray),(⟨#[]⟩:ByteArray)⟩:kH),(⟨(⟨#[71]⟩:ByteArray),false,(⟨#[101]⟩:ByteArray),(⟨#[105,110,103]⟩:ByteArray),(⟨#[101]⟩:ByteArray)⟩:kH),(⟨(⟨#[85]⟩:ByteArray),true,(⟨#[]⟩:ByteArray),(⟨#[117,110]⟩:ByteArray),(⟨#[]⟩:ByteArray)⟩:kH),(⟨(⟨#[82]⟩:ByteArray),true,(⟨#[97]⟩:ByteArray),(⟨#[98]⟩:ByteArray),(⟨#[97]⟩:ByteArray)⟩:kH),(⟨(⟨#[84]⟩:ByteArray),false,(⟨#[]⟩:ByteArray),(⟨#[116]⟩:ByteArray),(⟨#[97,99]⟩:ByteArray)⟩:kH),(⟨(⟨#[67]⟩:ByteArray),false,(⟨#[]⟩:ByteArray),(⟨#[97,98,99]⟩:ByteArray),(⟨#[]⟩:ByteArray)⟩:kH)]:List (kH))):=⟨_,rfl⟩
 replace H:=bm H;rw [←aOD] at H
 have a5R:=am aOD;clear aOD;replace H:=ba H;obtain⟨⟨t138,t139⟩,A2,H⟩:=H;dsimp only at H
 replace H:=it H;obtain⟨oG,H⟩:=H
 replace H:=it H;obtain⟨qZ,H⟩:=H
 simp only [Option.some.injEq,Prod.mk.injEq] at H
 obtain⟨rfl,rfl,rfl,rfl,rfl,rfl⟩:=H;go_enter Tryz.func83,Tryz.ntmps83
 go_wp2_with (first|(refine gd 2 ?_;refine bx 2 (cs:= #[.string (⟨#[]⟩:ByteArray), .bool false, .string (⟨#[]⟩:ByteArray), .string (⟨#[]⟩:ByteArray), .string (⟨#[]⟩:ByteArray)]) (t:=87) ?_;intro YF hg w5 bT hb;replace HB:=am (aY FB hb);have WU:=am (bT);have a3U:=am ((NJ:w.heap.size≤YF));have a3M:=am ((Nat.le_trans HW0.out (NJ:w.heap.size≤YF):w0.heap.size≤YF));replace HK:=kt g uO hb;have aHw:=am ((OD:g≠YF));have aHz:=am ((OE:YF≠g));replace HI0:=am (aI.below DV hb);clear hb bT hg)|(refine gd 12 ?_;refine Kd.mJ yG _ 87 ?hg (N:=12) ?hd (xs:=([(⟨(⟨#[83]⟩:ByteArray),false,(⟨#[]⟩:ByteArray),(⟨#[115]⟩:ByteArray),(⟨#[]⟩:ByteArray)⟩:kH),(⟨(⟨#[83]⟩:ByteArray),false,(⟨#[121]⟩:ByteArray),(⟨#[105,101,115]⟩:ByteArray),(⟨#[121]⟩:ByteArray)⟩:kH),(⟨(⟨#[71]⟩:ByteArray),false,(⟨#[]⟩:ByteArray),(⟨#[105,110,103]⟩:ByteArray),(⟨#[]⟩:ByteArray)⟩:kH),(⟨(⟨#[71]⟩:ByteArray),false,(⟨#[101]⟩:ByteArray),(⟨#[105,110,103]⟩:ByteArray),(⟨#[101]⟩:ByteArray)⟩:kH),(⟨(⟨#[85]⟩:ByteArray),true,(⟨#[]⟩:ByteArray),(⟨#[117,110]⟩:ByteArray),(⟨#[]⟩:ByteArray)⟩:kH),(⟨(⟨#[82]⟩:ByteArray),true,(⟨#[97]⟩:ByteArray),(⟨#[98]⟩:ByteArray),(⟨#[97]⟩:ByteArray)⟩:kH),(⟨(⟨#[84]⟩:ByteArray),false,(⟨#[]⟩:ByteArray),(⟨#[116]⟩:ByteArray),(⟨#[97,99]⟩:ByteArray)⟩:kH),(⟨(⟨#[67]⟩:ByteArray),false,(⟨#[]⟩:ByteArray),(⟨#[97,98,99]⟩:ByteArray),(⟨#[]⟩:ByteArray)⟩:kH)]:List (kH))) (inner:=[.string (⟨#[83]⟩:ByteArray), .bool false, .string (⟨#[]⟩:ByteArray), .string (⟨#[115]⟩:ByteArray), .string (⟨#[]⟩:ByteArray), .string (⟨#[83]⟩:ByteArray), .bool false, .string (⟨#[121]⟩:ByteArray), .string (⟨#[105,101,115]⟩:ByteArray), .string (⟨#[121]⟩:ByteArray), .string (⟨#[71]⟩:ByteArray), .bool false, .string (⟨#[]⟩:ByteArray), .string (⟨#[105,110,103]⟩:ByteArray), .string (⟨#[]⟩:ByteArray), .string (⟨#[71]⟩:ByteArray), .bool false, .string (⟨#[101]⟩:ByteArray), .string (⟨#[105,110,103]⟩:ByteArray), .string (⟨#[101]⟩:ByteArray), .string (⟨#[85]⟩:ByteArray), .bool true, .string (⟨#[]⟩:ByteArray), .string (⟨#[117,110]⟩:ByteArray), .string (⟨#[]⟩:ByteArray), .string (⟨#[82]⟩:ByteArray), .bool true, .string (⟨#[97]⟩:ByteArray), .string (⟨#[98]⟩:ByteArray), .string (⟨#[97]⟩:ByteArray), .string (⟨#[84]⟩:ByteArray), .bool false, .string (⟨#[]⟩:ByteArray), .string (⟨#[116]⟩:ByteArray), .string (⟨#[97,99]⟩:ByteArray), .string (⟨#[67]⟩:ByteArray), .bool false, .string (⟨#[]⟩:ByteArray), .string (⟨#[97,98,99]⟩:ByteArray), .string (⟨#[]⟩:ByteArray)]) (ok:=fun _=>True) (mK:=fun _=>True) ?hr ?hp (fun _ hk=>hk) trivial (Below.refl _ _) (Nat.le_refl _) (by simp) ?_;(case hd=>rfl);(case hg=>rfl);(case hr=>(go_simp;done));(case hp=>exact(dQ.c5 (show Kd.M yG _ _ _ (⟨(⟨#[83]⟩:ByteArray),false,(⟨#[]⟩:ByteArray),(⟨#[115]⟩:ByteArray),(⟨#[]⟩:ByteArray)⟩:kH) [.string (⟨#[83]⟩:ByteArray), .bool false, .string (⟨#[]⟩:ByteArray), .string (⟨#[115]⟩:ByteArray), .string (⟨#[]⟩:ByteArray)] from(yH _ _ _ (⟨(⟨#[83]⟩:ByteArray),false,(⟨#[]⟩:ByteArray),(⟨#[115]⟩:ByteArray),(⟨#[]⟩:ByteArray)⟩:kH))) (dQ.c5 (show Kd.M yG _ _ _ (⟨(⟨#[83]⟩:ByteArray),false,(⟨#[121]⟩:ByteArray),(⟨#[105,101,115]⟩:ByteArray),(⟨#[121]⟩:ByteArray)⟩:kH) [.string (⟨#[83]⟩:ByteArray), .bool false, .string (⟨#[121]⟩:ByteArray), .string (⟨#[105,101,115]⟩:ByteArray), .string (⟨#[121]⟩:ByteArray)] from(yH _ _ _ (⟨(⟨#[83]⟩:ByteArray),false,(⟨#[121]⟩:ByteArray),(⟨#[105,101,115]⟩:ByteArray),(⟨#[121]⟩:ByteArray)⟩:kH))) (dQ.c5 (show Kd.M yG _ _ _ (⟨(⟨#[71]⟩:ByteArray),false,(⟨#[]⟩:ByteArray),(⟨#[105,110,103]⟩:ByteArray),(⟨#[]⟩:ByteArray)⟩:kH) [.string (⟨#[71]⟩:ByteArray), .bool false, .string (⟨#[]⟩:ByteArray), .string (⟨#[105,110,103]⟩:ByteArray), .string (⟨#[]⟩:ByteArray)] from(yH _ _ _ (⟨(⟨#[71]⟩:ByteArray),false,(⟨#[]⟩:ByteArray),(⟨#[105,110,103]⟩:ByteArray),(⟨#[]⟩:ByteArray)⟩:kH))) (dQ.c5 (show Kd.M yG _ _ _ (⟨(⟨#[71]⟩:ByteArray),false,(⟨#[101]⟩:ByteArray),(⟨#[105,110,103]⟩:ByteArray),(⟨#[101]⟩:ByteArray)⟩:kH) [.string (⟨#[71]⟩:ByteArray), .bool false, .string (⟨#[101]⟩:ByteArray), .string (⟨#[105,110,103]⟩:ByteArray), .string (⟨#[101]⟩:ByteArray)] from(yH _ _ _ (⟨(⟨#[71]⟩:ByteArray),false,(⟨#[101]⟩:ByteArray),(⟨#[105,110,103]⟩:ByteArray),(⟨#[101]⟩:ByteArray)⟩:kH))) (dQ.c5 (show Kd.M yG _ _ _ (⟨(⟨#[85]⟩:ByteArray),true,(⟨#[]⟩:ByteArray),(⟨#[117,110]⟩:ByteArray),(⟨#[]⟩:ByteArray)⟩:kH) [.string (⟨#[85]⟩:ByteArray), .bool true, .string (⟨#[]⟩:ByteArray), .string (⟨#[117,110]⟩:ByteArray), .string (⟨#[]⟩:ByteArray)] from(yH _ _ _ (⟨(⟨#[85]⟩:ByteArray),true,(⟨#[]⟩:ByteArray),(⟨#[117,110]⟩:ByteArray),(⟨#[]⟩:ByteArray)⟩:kH))) (dQ.c5 (show Kd.M yG _ _ _ (⟨(⟨#[82]⟩:ByteArray),true,(⟨#[97]⟩:ByteArray),(⟨#[98]⟩:ByteArray),(⟨#[97]⟩:ByteArray)⟩:kH) [.string (⟨#[82]⟩:ByteArray), .bool true, .string (⟨#[97]⟩:ByteArray), .string (⟨#[98]⟩:ByteArray), .string (⟨#[97]⟩:ByteArray)] from(yH _ _ _ (⟨(⟨#[82]⟩:ByteArray),true,(⟨#[97]⟩:ByteArray),(⟨#[98]⟩:ByteArray),(⟨#[97]⟩:ByteArray)⟩:kH))) (dQ.c5 (show Kd.M yG _ _ _ (⟨(⟨#[84]⟩:ByteArray),false,(⟨#[]⟩:ByteArray),(⟨#[116]⟩:ByteArray),(⟨#[97,99]⟩:ByteArray)⟩:kH) [.string (⟨#[84]⟩:ByteArray), .bool false, .string (⟨#[]⟩:ByteArray), .string (⟨#[116]⟩:ByteArray), .string (⟨#[97,99]⟩:ByteArray)] from(yH _ _ _ (⟨(⟨#[84]⟩:ByteArray),false,(⟨#[]⟩:ByteArray),(⟨#[116]⟩:ByteArray),(⟨#[97,99]⟩:ByteArray)⟩:kH))) (dQ.c5 (show Kd.M yG _ _ _ (⟨(⟨#[67]⟩:ByteArray),false,(⟨#[]⟩:ByteArray),(⟨#[97,98,99]⟩:ByteArray),(⟨#[]⟩:ByteArray)⟩:kH) [.string (⟨#[67]⟩:ByteArray), .bool false, .string (⟨#[]⟩:ByteArray), .string (⟨#[97,98,99]⟩:ByteArray), .string (⟨#[]⟩:ByteArray)] from(yH _ _ _ (⟨(⟨#[67]⟩:ByteArray),false,(⟨#[]⟩:ByteArray),(⟨#[97,98,99]⟩:ByteArray),(⟨#[]⟩:ByteArray)⟩:kH))) (dQ.none _ _))))))))));intro bSV w6 U6 hb lL dP;clear lL dP;(rw [←a5R.out] at U6);have aHm:=am (Kd.dZ (Kd.SC U6 (g:=YF) (o:= .cells #[.string (⟨#[]⟩:ByteArray), .bool false, .string (⟨#[]⟩:ByteArray), .string (⟨#[]⟩:ByteArray), .string (⟨#[]⟩:ByteArray)] 87 (0,0)) (bq WU.out)) (mX (w:=w) (g:=g) (row:=none) aSp));replace WU:=kb WU hb;replace HK:=kt g aSp hb;replace HB:=am (aY a8v hb);replace HI0:=am (aI.below a8x hb);clear hb U6;obtain⟨Ao8,ZZ,eo8⟩:=Kd.bS aHm.out;subst eo8)|(refine gd 17 ?_;refine gv Tryz.func48 (aQ.calls k g dG iX (y8.length:Int) t138 t139 w0 _ HI0.out HB.out A2.out) ?_;rintro w9 ⟨hi,hb,hk⟩;replace WU:=kk hk WU aHz;replace aHm:=ka (aI.apart HI0.out (rq aHm.out) (by decide)) hk;replace HK:=ku aSp hk;replace HB:=am (hb);replace HI0:=am (hi);clear hb hk hi;obtain⟨bNa,bGG,bDU,bDV,bDW,bDX,bDY⟩:=sH (Kd.aM aHm.out).2.2 t138 dt dt;cases bGG;have bRZ:=e0 t138;have bSs:=e1 t138 (y8.length:Int);have aOo:=aHz.out;have aOq:=aHw.out;have⟨_,_,_,_,_,_,_,_,_,_⟩:=yM WU.out))
 refine bodyPost_ret (results_cell_row rfl _ _ YF 87 #[.string ((aD y8 t138).f0), .bool ((aD y8 t138).f1), .string ((aD y8 t138).f2), .string ((aD y8 t138).f3), .string ((aD y8 t138).f4)] (0,0) _ rfl (by(with_reducible repeat(fail));refine bM (cs:= #[.string ((aD y8 t138).f0), .bool ((aD y8 t138).f1), .string ((aD y8 t138).f2), .string ((aD y8 t138).f3), .string (⟨#[]⟩:ByteArray)]) ?_ 4 _ rfl;(with_reducible repeat(fail));refine bM (cs:= #[.string ((aD y8 t138).f0), .bool ((aD y8 t138).f1), .string ((aD y8 t138).f2), .string (⟨#[]⟩:ByteArray), .string (⟨#[]⟩:ByteArray)]) ?_ 3 _ rfl;(with_reducible repeat(fail));refine bM (cs:= #[.string ((aD y8 t138).f0), .bool ((aD y8 t138).f1), .string (⟨#[]⟩:ByteArray), .string (⟨#[]⟩:ByteArray), .string (⟨#[]⟩:ByteArray)]) ?_ 2 _ rfl;(with_reducible repeat(fail));refine bM (cs:= #[.string ((aD y8 t138).f0), .bool false, .string (⟨#[]⟩:ByteArray), .string (⟨#[]⟩:ByteArray), .string (⟨#[]⟩:ByteArray)]) ?_ 1 _ rfl;(with_reducible repeat(fail));refine bM (cs:= #[.string (⟨#[]⟩:ByteArray), .bool false, .string (⟨#[]⟩:ByteArray), .string (⟨#[]⟩:ByteArray), .string (⟨#[]⟩:ByteArray)]) ?_ 0 _ rfl;(with_reducible repeat(fail));exact WU.out) Tryz.underlying87 rfl (by kernel_rfl)) rfl ?_
 exact⟨nD,a8x,a8v,aSp⟩
end Go.Proofs.YtpljfjbhlboffaaGreat.eH

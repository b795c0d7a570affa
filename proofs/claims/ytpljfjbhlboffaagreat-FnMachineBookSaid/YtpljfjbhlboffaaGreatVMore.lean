import Derived.Test.YtpljfjbhlboffaaGreatVWords
import Derived.Test.YtpljfjbhlboffaaGreatVLast
import Derived.Test.YtpljfjbhlboffaaGreatVApart
import Derived.Test.YtpljfjbhlboffaaGreatVFoot
import Derived.Test.YtpljfjbhlboffaaGreatVKept
import Derived.Test.YtpljfjbhlboffaaGreatVN
namespace Go.Proofs.YtpljfjbhlboffaaGreatW.jC
open Go.RowKit Go.Proofs.YtpljfjbhlboffaaGreatW.bJ
namespace Kd
open Go.Proofs.YtpljfjbhlboffaaGreatW.bJ.Kd
end Kd
namespace Kd
open Go.Proofs.YtpljfjbhlboffaaGreatW.bJ.Kd
end Kd
theorem rD (k k' :IntKind) (x y:Int):Builtin.max2 (.int k x) (.int k' y)=pure (.int k (if x<y then y else x)):=by simp only [Builtin.max2,gt_iff_lt]
theorem rF (k k' :IntKind) (x y:Int):Builtin.min2 (.int k x) (.int k' y)=pure (.int k (if y<x then y else x)):=by simp only [Builtin.min2]
theorem uY (ats:Array TypeId) (ty:TypeId) (a b:Value):Builtin.max_ ats ty #[a,b]=(Builtin.max2 a b>>=fun s=>pure s):=by simp only [Builtin.max_,List.foldlM_cons,List.foldlM_nil]
theorem uZ (ats:Array TypeId) (ty:TypeId) (a b:Value):Builtin.min_ ats ty #[a,b]=(Builtin.min2 a b>>=fun s=>pure s):=by simp only [Builtin.min_,List.foldlM_cons,List.foldlM_nil]
theorem pE (ats:Array TypeId) (ty:TypeId) (a b c:Value):Builtin.max_ ats ty #[a,b,c]=(Builtin.max2 a b>>=fun s=>Builtin.max2 s c>>=fun s=>pure s):=by simp only [Builtin.max_,List.foldlM_cons,List.foldlM_nil]
theorem pF (ats:Array TypeId) (ty:TypeId) (a b c:Value):Builtin.min_ ats ty #[a,b,c]=(Builtin.min2 a b>>=fun s=>Builtin.min2 s c>>=fun s=>pure s):=by simp only [Builtin.min_,List.foldlM_cons,List.foldlM_nil]
theorem rE (ats:Array TypeId) (ty:TypeId) (a b c d:Value):Builtin.max_ ats ty #[a,b,c,d]=(Builtin.max2 a b>>=fun s=>Builtin.max2 s c>>=fun s=>Builtin.max2 s d>>=fun s=>pure s):=by simp only [Builtin.max_,List.foldlM_cons,List.foldlM_nil]
theorem rG (ats:Array TypeId) (ty:TypeId) (a b c d:Value):Builtin.min_ ats ty #[a,b,c,d]=(Builtin.min2 a b>>=fun s=>Builtin.min2 s c>>=fun s=>Builtin.min2 s d>>=fun s=>pure s):=by simp only [Builtin.min_,List.foldlM_cons,List.foldlM_nil]
end Go.Proofs.YtpljfjbhlboffaaGreatW.jC
namespace Go.Proofs.YtpljfjbhlboffaaGreatW.bJ
open Go.RowKit
section
variable {P:Program} {ops:Array Oper} {rest:List Oper} {o:Oper} {a:Act} {Q:Exit→Act→World→Prop} {W:World}
theorem aEx {f:FuncId} {as:Array Operand} {ts:Array TypeId} (_ho:o.op= .call {callee:= .value (.func f),args:=as,argTypes:=ts}) (h:wpList P ops Q (o::rest) a W):wpList P ops Q (o::rest) a W:=h
theorem gL {b:Builtin} {xs:Array Operand} {ts:Array TypeId} (_ho:o.op= .call {callee:= .builtin b,args:=xs,argTypes:=ts}) (h:wpList P ops Q (o::rest) a W):wpList P ops Q (o::rest) a W:=h
end
def mx (a b:Int):Int:=if a<b then b else a
def mn (a b:Int):Int:=if b<a then b else a
namespace Kd
section
variable {α:Type} {d:Kd α} {e base b b' g N:Nat} {ok ok1:Nat→Prop} {W W2 w1:World} {u v:Value} {xs ys:List α} {S:Nat→Prop}
theorem aZh (hE:d.E=[]) (h:d.R e W base ok1 v xs) (hok: ∀k,v.ownBlock=some k→ok k):d.R e W base ok v xs:=bA (NZ hE h) (fun k hk=>hok k hk.symm)
end
end Kd
end Go.Proofs.YtpljfjbhlboffaaGreatW.bJ
namespace Go.Proofs.YtpljfjbhlboffaaGreatW.bJ
open Go.RowKit
namespace Kd
def V {α:Type} (d:Kd α) (_e:Nat) (W:World) (_base:Nat) (ok:Nat→Prop) (v:Value) (xs:List α):Prop:= ∃A c,v= .slice A xs.length c∧xs.length≤c∧F d W ok A xs.length xs
section
variable {α β:Type} {d:Kd α} {e base base' n m c g N' lo hi:Nat} {ok ok' S:Nat→Prop} {w W w1:World} {A:Option Addr} {ad:Addr} {u v v1:Value} {xs:List α}
theorem TW (h:V d e W base ok v xs) (hF: ∀A,F d W ok A xs.length xs→F d w1 ok' A xs.length xs):V d e w1 base' ok' v xs:=by
  obtain⟨A,c,hv,hl,hf⟩:=h
  exact⟨A,c,hv,hl,hF A hf⟩
theorem a7t (hl:xs.length≤c) (hf:F d W ok A xs.length xs):V d e W base ok (.slice A xs.length c) xs:=⟨A,c,rfl,hl,hf⟩
theorem nC (h:V d e W base ok v xs): ∃A c,v= .slice A xs.length c:=by
  obtain⟨A,c,hv,_⟩:=h
  exact⟨A,c,hv⟩
theorem aKc (h:V d e W base ok (.slice A n c) xs):n=xs.length∧n≤c∧F d W ok A xs.length xs:=by
  obtain⟨A',c',hv,hl,hf⟩:=h
  injection hv with ha hn hc
  subst ha;subst hc
  exact⟨hn,by rw [hn];exact hl,hf⟩
theorem mE (h:V d e W base ok (.slice A n c) xs):n=xs.length∧n≤c∧d.C W A xs.length xs:=⟨(aKc h).1,(aKc h).2.1,aLE (aKc h).2.2⟩
theorem R_V (h:d.R e W base ok v xs):V d e W base' ok v xs:=by
  obtain⟨A,c,rfl⟩:=bS h
  exact⟨A,c,rfl,(aM h).2.1,R_F h⟩
theorem gJ (h:V d e W base ok v xs) (hok: ∀k,ok k→ok' k):V d e W base ok' v xs:=TW h (fun _ hf=>aFr hf hok)
theorem nZ (h:V d e W base ok v xs) (_:base' ≤base):V d e W base' ok v xs:=h
theorem qB (h:V d e W base ok v xs) (hb:Below W.heap.size W w1):V d e w1 base ok v xs:=TW h (fun _ hf=>aBl hf hb)
theorem xX (h:V d e W base ok v xs):V d e W.drew base ok v xs:=TW h (fun _ hf=>aYG hf)
theorem aHF (h:V d e W base ok v xs) (m:Nat):V d e (W.drewN m) base ok v xs:=TW h (fun _ hf=>aRO hf m)
theorem a7s (h:V d e W base ok v xs) {p:Addr} (hok: ∀k,ok k→k≠p.block) (u:Value):V d e (W.setCell p u) base ok v xs:=TW h (fun _ hf=>a3I hf hok u)
theorem SF (h:V d e W base ok v xs) (hk:aZ W w1 g none) (hok: ∀k,ok k→k≠g):V d e w1 base ok v xs:=TW h (fun _ hf=>aYH hf hk hok)
theorem aSe (h:V d e W base (fun k=>ok k∧some k≠u.ownBlock) v xs) (hg:W.grownBy w1 u.ownBlock) (hat:v1.ownBlock=u.ownBlock∨ ∃b,v1.ownBlock=some b∧W.heap.size≤b):V d e w1 base (fun k=>ok k∧some k≠v1.ownBlock) v xs:=TW h (fun _ hf=>aRM hf hg hat)
theorem oK (h:V d e W base (fun k=>ok k∧some k≠v.ownBlock) u xs) (hg:W.grownBy w1 v.ownBlock) (hat:v1.ownBlock=v.ownBlock∨ ∃b,v1.ownBlock=some b∧W.heap.size≤b):V d e w1 base (fun k=>ok k∧some k≠v1.ownBlock) u xs:=aSe h hg hat
theorem lU (h:V d e W base ok v xs) (hbase: ∀k,u.ownBlock=some k→W.heap.size≤k) (hb:Below W.heap.size W w1):V d e w1 base (fun k=>ok k∧some k≠u.ownBlock) v xs:=TW h (fun _ hf=>aLD hf hbase hb)
theorem aYI (h:F d W ok A xs.length xs) (hm:m≤xs.length):F d W ok A (xs.take m).length (xs.take m):=aVQ h (fun _ hC=>R4 hC hm)
theorem a3H (h:F d W ok A xs.length xs) (hm:m≤xs.length) (hc:xs.length≤c):F d W ok (if c=m then A else A.map (·.add (m*d.sz))) (xs.drop m).length (xs.drop m):=aVQ h (fun _ hC=>aLB hC hm hc)
theorem yY {M:Nat→Prop} (h:d.R e w1 W.heap.size ok v xs) (hle:w.heap.size≤W.heap.size) (hM: ∀k,w.heap.size≤k→M k):d.R e w1 W.heap.size (fun k=>M k∧ok k) v xs:=bA (tF h) (fun k hk=>⟨hM k (Nat.le_trans hle hk.2.1),hk.1⟩)
end
end Kd
end Go.Proofs.YtpljfjbhlboffaaGreatW.bJ

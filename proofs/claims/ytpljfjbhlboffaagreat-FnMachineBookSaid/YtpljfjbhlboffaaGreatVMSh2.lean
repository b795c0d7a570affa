import Derived.Test.YtpljfjbhlboffaaGreatVMSho
import Derived.Test.YtpljfjbhlboffaaGreatVWords
import Derived.Test.YtpljfjbhlboffaaGreatVLast
import Derived.Test.YtpljfjbhlboffaaGreatVTab
import Derived.Test.YtpljfjbhlboffaaGreatVMore
import Derived.Tactics
import Derived.WalkKit
import Derived.KernelRfl
namespace Go.Proofs.YtpljfjbhlboffaaGreat.Sh
open Go.RowKit Go.Proofs.YtpljfjbhlboffaaGreatW.bJ Go.Proofs.YtpljfjbhlboffaaGreatW.gI Go.Proofs.YtpljfjbhlboffaaGreatW.jC
set_option linter.unusedVariables false
theorem bf {w:World} {g:Nat} {t:TypeId} {cs:Array Value} (h:w.heap[g]?=some (.cells cs t (0,0))) (i:Nat):w.frozen? ⟨g,i,none⟩=false:=sI h i
section
variable {P:Program} {ops:Array Oper} {Q:Exit→Act→World→Prop} {md:Region.Mode} {S:World→Prop} {ds:List Nat}
theorem kF (i:Nat) (N:Tmp) {oi:Oper} {fuel:Nat} {l l' :Array Bool} {a a' :Act} {w:World} (h:dE P md ops Q S ds fuel l' a' w)
    (hi:ops[i]?=some oi:=by exact rfl) (hN:oi.dst=some N:=by exact rfl) (hl:l.setIfInBounds i true=l' :=by simp only [List.setIfInBounds_toArray,List.set_cons_zero,List.set_cons_succ];rfl)
    (hc:aKg md ops l l' i=true:=by exact aMz kQ.out (by kernel_rfl)) (hQ: ∀c a w,Q (.panic c) (a.put oi.dst undef) w→Q (.panic c) a w:=by exact fun _ _ _ h=>h)
    (hw:Region.wanted oi (yielded ops a.tmps)=false:=by rfl)
    (ha:a.put (some N) undef=a' :=by simp only [Act.put,List.setIfInBounds_toArray,List.set_cons_zero,List.set_cons_succ,iZ,rC];rfl):dE P md ops Q S ds (fuel+1) l a w:=
  aYw l' hi hN hc hQ (.inr ⟨hw,rfl⟩) ha h
theorem st {id n:Nat} {a:Act} {w:World} {l:Array Bool} (hS:S w.drew) (h:S w.drew→dE P .any ops Q S ds n l a w.drew) (hm:P.follows .mixedOrders=true:=by kernel_rfl) (hn:ops.size=n:=by exact rfl)
    (hl:(List.replicate n false).toArray=l:=by simp only [List.replicate_succ,List.replicate_zero];rfl):(Code.region id ops true).wp P Q a w:=J5 l hm hn (by rw [←hl];simp) hS h
end
section
variable {P:Program} {ops:Array Oper} {Q:Exit→Act→World→Prop} {md:Region.Mode} {S:World→Prop} {ds:List Nat}
theorem nm {fuel:Nat} {l:Array Bool} {a a' :Act} {v:Value} {w:World} (N:Tmp) (h:dE P md ops Q S ds fuel l a' w) (ha:a.put (some N) v=a' :=by simp only [Act.put,List.setIfInBounds_toArray,List.set_cons_zero,List.set_cons_succ,iZ,rC];rfl):dE P md ops Q S ds fuel l (a.put (some N) v) w:=IE ha h
end
section
variable {P:Program} {ops:Array Oper} {Q:Exit→Act→World→Prop}
theorem gl {rest:List Oper} {oi:Oper} {a:Act} {w:World} (N:Tmp) {f:FuncId} {fn:Func} {as:Array Operand} {ts:Array TypeId} (hf:P.funcs[f]?=some fn) (args:Array Value)
    (h:Calls P f args w fun e w' => ∃v,e= .returned v∧wpList P ops Q rest (a.put (some N) v) w') (hd:oi.dst=some N:=by exact rfl) (hg:oi.guard=none:=by exact rfl) (hname:(fn.name== "runtime.NumGoroutine")=false:=by kernel_rfl) (hb:fn.body.isSome=true:=by exact rfl)
    (ES:oi.op= .call {callee:= .value (.func f),args:=as,argTypes:=ts}:=by exact rfl) (hargs:as.map a.eval=args:=by(try simp only [List.map_toArray,List.map_cons,List.map_nil]);first|done|rfl|(simp only [List.length_drop,List.length_take];rfl)):wpList P ops Q (oi::rest) a w:=
  YG (some N) hd hg hf hname hb args ES hargs h
theorem EI {oi:Oper} {N:Option Tmp} {a:Act} {w:World} {K:Act→World→Prop} {f:FuncId} {fn:Func} {as:Array Operand} {ts:Array TypeId} (hf:P.funcs[f]?=some fn) (args:Array Value)
    (h:Calls P f args w fun e w' => ∃v,e= .returned v∧K (a.put N v) w') (hname:(fn.name== "runtime.NumGoroutine")=false:=by kernel_rfl) (hb:fn.body.isSome=true:=by exact rfl)
    (hw:Region.wanted oi (yielded ops a.tmps)=true:=by rfl) (hN:oi.dst=N:=by exact rfl) (ES:oi.op= .call {callee:= .value (.func f),args:=as,argTypes:=ts}:=by exact rfl) (hargs:as.map a.eval=args:=by(try simp only [List.map_toArray,List.map_cons,List.map_nil]);first|done|rfl|(simp only [List.length_drop,List.length_take];rfl)):if Region.wanted oi (yielded ops a.tmps)=true then Oper.wp P oi a w K Q else K (a.put N undef) w:=
  aA1 hf hname hb args hw hN ES hargs h
end
theorem bd {w:World} {g:Nat} {t:TypeId} {cs:Array Value} {v:Value} (a:w.heap[g]?=some (.cells cs t (0,0))) (i:Nat) (h:cs[i]?=some v:=by exact rfl):w.cell? ⟨g,i,none⟩=some v:=(dY a i).trans h
theorem oP {w:World} {g:Nat} {t:TypeId} {u0 u1:Value} (a:w.heap[g]?=some (.cells #[u0,u1] t (0,0))):w.cell? ⟨g,0,none⟩=some u0∧w.cell? ⟨g,1,none⟩=some u1∧w.frozen? ⟨g,0,none⟩=false∧w.frozen? ⟨g,1,none⟩=false:=⟨dY a 0,dY a 1,sI a 0,sI a 1⟩
theorem yM {w:World} {g:Nat} {t:TypeId} {u0 u1 u2 u3 u4:Value} (a:w.heap[g]?=some (.cells #[u0,u1,u2,u3,u4] t (0,0))):w.cell? ⟨g,0,none⟩=some u0∧w.cell? ⟨g,1,none⟩=some u1∧w.cell? ⟨g,2,none⟩=some u2∧w.cell? ⟨g,3,none⟩=some u3∧w.cell? ⟨g,4,none⟩=some u4∧w.frozen? ⟨g,0,none⟩=false∧w.frozen? ⟨g,1,none⟩=false∧w.frozen? ⟨g,2,none⟩=false∧w.frozen? ⟨g,3,none⟩=false∧w.frozen? ⟨g,4,none⟩=false:=⟨dY a 0,dY a 1,dY a 2,dY a 3,dY a 4,sI a 0,sI a 1,sI a 2,sI a 3,sI a 4⟩
section
variable {P:Program} {ops:Array Oper} {Q:Exit→Act→World→Prop}
theorem gd {rest:List Oper} {oi:Oper} {a:Act} {w:World} (N:Tmp) (h:wpList P ops Q (oi::rest) a w) (hN:oi.dst=some N:=by exact rfl):wpList P ops Q (oi::rest) a w:=h
theorem gm {rest:List Oper} {oi:Oper} {a:Act} {w:World} {N:Tmp} {f:FuncId} {fn:Func} {as:Array Operand} {ts:Array TypeId} {args:Array Value} {Q0:Ending→World→Prop} (hf:P.funcs[f]?=some fn) (hc:Calls P f args w Q0)
    (h: ∀e w',Q0 e w' → ∃v,e= .returned v∧wpList P ops Q rest (a.put (some N) v) w') (hd:oi.dst=some N:=by exact rfl) (hg:oi.guard=none:=by exact rfl) (hname:(fn.name== "runtime.NumGoroutine")=false:=by kernel_rfl) (hb:fn.body.isSome=true:=by exact rfl)
    (ES:oi.op= .call {callee:= .value (.func f),args:=as,argTypes:=ts}:=by exact rfl) (hargs:as.map a.eval=args:=by(try simp only [List.map_toArray,List.map_cons,List.map_nil]);first|done|rfl|(simp only [List.length_drop,List.length_take];rfl)):wpList P ops Q (oi::rest) a w:=
  YG (some N) hd hg hf hname hb args ES hargs (hc.mono h)
theorem gv {rest:List Oper} {oi:Oper} {a:Act} {w:World} {N:Tmp} {f:FuncId} {fn:Func} {as:Array Operand} {ts:Array TypeId} {args:Array Value} {v:Value} {R:World→Prop} (hf:P.funcs[f]?=some fn) (hc:Calls P f args w fun e w' =>e= .returned v∧R w')
    (h: ∀w',R w' →wpList P ops Q rest (a.put (some N) v) w') (hd:oi.dst=some N:=by exact rfl) (hg:oi.guard=none:=by exact rfl) (hname:(fn.name== "runtime.NumGoroutine")=false:=by kernel_rfl) (hb:fn.body.isSome=true:=by exact rfl)
    (ES:oi.op= .call {callee:= .value (.func f),args:=as,argTypes:=ts}:=by exact rfl) (hargs:as.map a.eval=args:=by(try simp only [List.map_toArray,List.map_cons,List.map_nil]);first|done|rfl|(simp only [List.length_drop,List.length_take];rfl)):wpList P ops Q (oi::rest) a w:=
  YG (some N) hd hg hf hname hb args ES hargs (hc.mono fun _ w' h1=>⟨v,h1.1,h w' h1.2⟩)
theorem gx {rest:List Oper} {oi:Oper} {a:Act} {w:World} {N:Tmp} {f:FuncId} {fn:Func} {as:Array Operand} {ts:Array TypeId} {args:Array Value} {X:Type} {v:X→Value} {R:X→World→Prop} (hf:P.funcs[f]?=some fn) (hc:Calls P f args w fun e w' => ∃x:X,e= .returned (v x)∧R x w')
    (h: ∀x w',R x w' →wpList P ops Q rest (a.put (some N) (v x)) w') (hd:oi.dst=some N:=by exact rfl) (hg:oi.guard=none:=by exact rfl) (hname:(fn.name== "runtime.NumGoroutine")=false:=by kernel_rfl) (hb:fn.body.isSome=true:=by exact rfl)
    (ES:oi.op= .call {callee:= .value (.func f),args:=as,argTypes:=ts}:=by exact rfl) (hargs:as.map a.eval=args:=by(try simp only [List.map_toArray,List.map_cons,List.map_nil]);first|done|rfl|(simp only [List.length_drop,List.length_take];rfl)):wpList P ops Q (oi::rest) a w:=
  YG (some N) hd hg hf hname hb args ES hargs (hc.mono fun _ w' ⟨x,h1⟩=>⟨v x,h1.1,h x w' h1.2⟩)
end
theorem dt {p:Prop} [Decidable p] (h:decide p=true:=by first|(with_reducible assumption)|assumption):p:=of_decide_eq_true h
theorem CY {w:World} {A:Option Addr} {n:Nat} {xs:List ByteArray} (h:Kd.string.C w A n xs) (i:Int) (h0:decide (0≤i)=true:=by first|(with_reducible assumption)|assumption) (h1:decide (i<(n:Int))=true:=by first|(with_reducible assumption)|assumption): ∃ad,A=some ad∧w.cell? (ad.add i.toNat)=some (.string (bP ByteArray.empty xs i))∧(0≤i)=True∧(i<(n:Int))=True:=by
  obtain⟨ad,e,h2⟩:=Kd.SI h i (of_decide_eq_true h0) (of_decide_eq_true h1)
  exact⟨ad,e,h2,eq_true (of_decide_eq_true h0),eq_true (of_decide_eq_true h1)⟩
theorem XQ {k:IntKind} {w:World} {A:Option Addr} {n:Nat} {xs:List Int} (h:(Kd.int k).C w A n xs) (i:Int) (h0:decide (0≤i)=true:=by first|(with_reducible assumption)|assumption) (h1:decide (i<(n:Int))=true:=by first|(with_reducible assumption)|assumption): ∃ad,A=some ad∧w.cell? (ad.add i.toNat)=some (.int k (rd xs i))∧(0≤i)=True∧(i<(n:Int))=True:=by
  obtain⟨ad,e,h2⟩:=Kd.XR h i (of_decide_eq_true h0) (of_decide_eq_true h1)
  exact⟨ad,e,h2,eq_true (of_decide_eq_true h0),eq_true (of_decide_eq_true h1)⟩
theorem bg {α β:Type} {a:α} {f:α→Option β} {r:β} (H:(some a).bind f=some r): ∃y,aC (y=a)∧f y=some r:=⟨a,⟨rfl⟩,bm H⟩
theorem kt {w W w2:World} (g:Nat) (h:aZ w W g none) (hb:Below W.heap.size W w2):aC (aZ w w2 g none):=⟨aZ.trans h (aZ.YY hb g none) (.inl rfl)⟩
theorem ku {w W w2:World} {g:Nat} (h:aZ w W g none) (hk:aZ W w2 g none):aC (aZ w w2 g none):=⟨aZ.trans h hk (.inl rfl)⟩
theorem ka {α:Type} {d:Kd α} {e base g:Nat} {ok:Nat→Prop} {w w1:World} {v:Value} {xs:List α} (h:d.R e w base (fun k=>ok k∧k≠g) v xs) (hk:aZ w w1 g none):aC (d.R e w1 base ok v xs):=⟨Kd.bA (Kd.aMa h hk (fun _ h=>h.2)) (fun _ h=>h.1)⟩
theorem kl {α:Type} {d:Kd α} {e:Nat} {ok:Nat→Prop} {w w0 W:World} (g:Nat) {v:Value} {xs:List α} (h:d.R e w W.heap.size ok v xs) (k:aZ w0 W g none):aC (d.R e w w0.heap.size ok v xs):=⟨Kd.dZ h k.1⟩
theorem e0 (i:Int) (h:decide (0≤i)=true:=by first|(with_reducible assumption)|assumption):(0≤i)=True:=eq_true (of_decide_eq_true h)
theorem e1 (i n:Int) (h:decide (i<n)=true:=by first|(with_reducible assumption)|assumption):(i<n)=True:=eq_true (of_decide_eq_true h)
theorem kp2 {w w1:World} {A:Option Addr} {p0:Addr→Addr} {u0:Addr→Value} {p1:Addr→Addr} {u1:Addr→Value} (hb:aC (Below w.heap.size w w1)) (h: ∃ad,A=some ad∧w.cell? (p0 ad)=some (u0 ad)∧w.cell? (p1 ad)=some (u1 ad)): ∃ad,A=some ad∧w1.cell? (p0 ad)=some (u0 ad)∧w1.cell? (p1 ad)=some (u1 ad):=by
  obtain⟨hb⟩:=hb
  obtain⟨ad,e,h0,h1⟩:=h
  exact⟨ad,e,kp hb h0,kp hb h1⟩
theorem kp5 {w w1:World} {A:Option Addr} {p0:Addr→Addr} {u0:Addr→Value} {p1:Addr→Addr} {u1:Addr→Value} {p2:Addr→Addr} {u2:Addr→Value} {p3:Addr→Addr} {u3:Addr→Value} {p4:Addr→Addr} {u4:Addr→Value} (hb:aC (Below w.heap.size w w1)) (h: ∃ad,A=some ad∧w.cell? (p0 ad)=some (u0 ad)∧w.cell? (p1 ad)=some (u1 ad)∧w.cell? (p2 ad)=some (u2 ad)∧w.cell? (p3 ad)=some (u3 ad)∧w.cell? (p4 ad)=some (u4 ad)): ∃ad,A=some ad∧w1.cell? (p0 ad)=some (u0 ad)∧w1.cell? (p1 ad)=some (u1 ad)∧w1.cell? (p2 ad)=some (u2 ad)∧w1.cell? (p3 ad)=some (u3 ad)∧w1.cell? (p4 ad)=some (u4 ad):=by
  obtain⟨hb⟩:=hb
  obtain⟨ad,e,h0,h1,h2,h3,h4⟩:=h
  exact⟨ad,e,kp hb h0,kp hb h1,kp hb h2,kp hb h3,kp hb h4⟩
theorem ba {α β:Type} {a:Option α} {f:α→Option β} {r:β} (H:a.bind f=some r): ∃t,aC (a=some t)∧f t=some r:=by
  obtain⟨t,h1,h2⟩:=Option.bind_eq_some_iff.mp H
  exact⟨t,⟨h1⟩,h2⟩
theorem si {α:Type} {a b:α} (h:some a=some b):a=b:=Option.some.inj h
theorem iv {α:Type} {c:Prop} [Decidable c] {a b:Option α} {r:α} (H:(if c then a else b)=some r):decide c=true∧a=some r∨decide c=false∧b=some r:=by by_cases h:c<;>simp_all
theorem ib {α:Type} {c:Bool} {a b:Option α} {r:α} (H:(if c=true then a else b)=some r):c=true∧a=some r∨c=false∧b=some r:=by cases c<;>simp_all
theorem kb {w w1 w2:World} {g:Nat} {o:Obj} (a:aC (w.heap[g]?=some o)) (hb:Below w1.heap.size w1 w2) (h:w.heap[g]?=some o→w1.heap[g]?=some o:=by intro b_;(with_reducible repeat(first|refine dD ?_ _|refine bF ?_|refine bW ?_ _));exact b_):aC (w2.heap[g]?=some o):=⟨jD (h a.out) hb⟩
theorem kk {w w1 w2:World} {g g' :Nat} {o:Obj} (hk:aZ w1 w2 g none) (a:aC (w.heap[g']?=some o)) (hn:aC (g' ≠g)) (h:w.heap[g']?=some o→w1.heap[g']?=some o:=by intro b_;(with_reducible repeat(first|refine dD ?_ _|refine bF ?_|refine bW ?_ _));exact b_):aC (w2.heap[g']?=some o):=⟨aZ.ZU hk (h a.out) hn.out (by simp)⟩
theorem kr {α:Type} {d:Kd α} {e base:Nat} {ok:Nat→Prop} {w w1 w2:World} {v:Value} {xs:List α} (a:aC (d.R e w base ok v xs)) (hb:Below w1.heap.size w1 w2) (h:d.R e w base ok v xs→d.R e w1 base ok v xs:=by intro r_;(with_reducible repeat(first|apply Kd.F3|apply Kd.zN|apply Kd.mZ));exact r_):aC (d.R e w2 base ok v xs):=⟨Kd.nP (h a.out) hb⟩
theorem kw {α:Type} {d:Kd α} {e base g:Nat} {w w1 w2:World} {v:Value} {xs:List α} (a:aC (d.V e w base (fun k_=>k_≠g) v xs)) (hk:aZ w1 w2 g none) (h:d.V e w base (fun k_=>k_≠g) v xs→d.V e w1 base (fun k_=>k_≠g) v xs:=by intro r_;(with_reducible repeat(first|apply Kd.aSf|apply Kd.aHF|apply Kd.xX));exact r_):aC (d.V e w2 base (fun k_=>k_≠g) v xs):=⟨Kd.SF (h a.out) hk (fun _ h=>h)⟩
theorem o8 {w W w2:World} (hb:Below W.heap.size W w2) (h:Below w.heap.size w W:=by repeat(first|(with_reducible first|exact HB.out|apply eZ|apply cB|apply bH)|exact HB.out)):aC (Below w.heap.size w w2):=⟨aY h hb⟩
theorem st1 {w W w2:World} {g:Nat} (a:aC (w.heap.size≤g)) (hb:Below W.heap.size W w2) (h:w.heap.size≤g→Below w.heap.size w W:=by intro g1_;repeat(first|(with_reducible first|exact HB.out|apply eZ|apply cB|apply bH|refine bO ?_ g1_)|exact HB.out)):aC (Below w.heap.size w w2):=⟨aY (h a.out) hb⟩
end Go.Proofs.YtpljfjbhlboffaaGreat.Sh

import Derived.Test.YtpljfjbhlboffaaGreatVWords
import Derived.Test.YtpljfjbhlboffaaGreatVLast
import Derived.Test.YtpljfjbhlboffaaGreatVTab
import Derived.Test.YtpljfjbhlboffaaGreatVMore
import Derived.Tactics
import Derived.WalkKit
import Derived.KernelRfl
namespace Go.Proofs.YtpljfjbhlboffaaGreat.Sh
open Go.RowKit Go.Proofs.YtpljfjbhlboffaaGreatW.bJ Go.Proofs.YtpljfjbhlboffaaGreatW.gI Go.Proofs.YtpljfjbhlboffaaGreatW.jC
set_option linter.unusedVariables false
theorem am {p:Prop} (h:p):aC p:=⟨h⟩
theorem ip {α:Type} {c:Prop} [Decidable c] {a:Option α} {r:α} (H:(if c then a else none)=some r):c∧a=some r:=by by_cases h:c<;>simp_all
theorem iq {α:Type} {c:Prop} [Decidable c] {a:Option α} {r:α} (H:(if c then none else a)=some r): ¬c∧a=some r:=by by_cases h:c<;>simp_all
theorem it {α:Type} {c:Prop} [Decidable c] {a:Option α} {r:α} (H:(if c then a else none)=some r):decide c=true∧a=some r:=⟨decide_eq_true (ip H).1,(ip H).2⟩
theorem bs {α β:Type} {a:Option α} {f:α→Option β} {r:β} (H:a.bind f=some r): ∃t,a=some t∧f t=some r:=Option.bind_eq_some_iff.mp H
theorem bm {α β:Type} {a:α} {f:α→Option β} {r:β} (H:(some a).bind f=some r):f a=some r:=(Option.bind_some _ _).symm.trans H
theorem gP {n:Nat} {w w' :World} (h:Below n w w' :=by repeat(first|(with_reducible first|exact HB.out|apply eZ|apply cB|apply bH)|exact HB.out)):Below n w w' :=h
theorem cK {n g:Nat} {w w' :World} (a:n≤g) (h:n≤g→Below n w w' :=by intro g1_;repeat(first|(with_reducible first|exact HB.out|apply eZ|apply cB|apply bH|refine bO ?_ g1_)|exact HB.out)):Below n w w' :=h a
theorem rP {n g g' :Nat} {w w' :World} (a:n≤g) (b:n≤g') (h:n≤g→n≤g' →Below n w w' :=by intro g1_ g2_;repeat(first|(with_reducible first|exact HB.out|apply eZ|apply cB|apply bH|refine bO ?_ g1_|refine bO ?_ g2_)|exact HB.out)):Below n w w' :=h a b
theorem bFT {n g g' g'' :Nat} {w w' :World} (a:n≤g) (b:n≤g') (c:n≤g'') (h:n≤g→n≤g' →n≤g'' →Below n w w' :=by intro g1_ g2_ g3_;repeat(first|(with_reducible first|exact HB.out|apply eZ|apply cB|apply bH|refine bO ?_ g1_|refine bO ?_ g2_|refine bO ?_ g3_)|exact HB.out)):Below n w w' :=h a b c
theorem bq {w w' :World} {g:Nat} {o:Obj} (a:w.heap[g]?=some o) (h:w.heap[g]?=some o→w'.heap[g]?=some o:=by intro b_;(with_reducible repeat(first|refine dD ?_ _|refine bF ?_|refine bW ?_ _));exact b_):w'.heap[g]?=some o:=h a
theorem rq {α:Type} {d:Kd α} {e base:Nat} {ok:Nat→Prop} {w w' :World} {v:Value} {xs:List α} (a:d.R e w base ok v xs) (h:d.R e w base ok v xs→d.R e w' base ok v xs:=by intro r_;(with_reducible repeat(first|apply Kd.F3|apply Kd.zN|apply Kd.mZ));exact r_):d.R e w' base ok v xs:=h a
theorem vq {α:Type} {d:Kd α} {e base:Nat} {ok:Nat→Prop} {w w' :World} {v:Value} {xs:List α} (a:d.V e w base ok v xs) (h:d.V e w base ok v xs→d.V e w' base ok v xs:=by intro r_;(with_reducible repeat(first|apply Kd.aSf|apply Kd.aHF|apply Kd.xX));exact r_):d.V e w' base ok v xs:=h a
theorem cq {α:Type} {d:Kd α} {w w' :World} {A:Option Addr} {n:Nat} {xs:List α} (a:d.C w A n xs) (h:d.C w A n xs→d.C w' A n xs:=by intro c_;repeat(first|exact c_|(with_reducible refine Kd.KA ?_ _)|(with_reducible refine Kd.zL ?_ _)|(with_reducible refine Kd.FY ?_))):d.C w' A n xs:=h a
theorem nD {α:Type} {a b:α} (h:a=b:=by first|rfl|(simp [wH,wI]<;>rfl)|(simp [*,wH,wI]<;>rfl)):a=b:=h
theorem sq {α:Type} {a b:α} (h:a=b:=by first|rfl|(simp;done)|(simp [*];done)):a=b:=h
theorem dr {w w' :World} (h:iB w w' :=by repeat(first|exact iB.refl _|apply iB.step)):iB w w' :=h
theorem ad {p:Prop} (h:p:=by first|(with_reducible assumption)|assumption):p:=h
theorem gs {p:Prop} (h:p:=by first|(go_simp;done)|(go_simp;rfl)):p:=h
theorem kp {w w' :World} (h:Below w.heap.size w w') {a:Addr} {v:Value} (hc:w.cell? a=some v):w'.cell? a=some v:=(h.cell (World.block_lt_of_cell? w a hc)).trans hc
theorem bc {w:World} {g:Nat} {t:TypeId} {cs:Array Value} {v:Value} (a:w.heap[g]?=some (.cells cs t (0,0))) (i:Nat) (h:cs[i]?=some v:=by simp only [List.getElem?_toArray,List.getElem?_cons_zero,List.getElem?_cons_succ];rfl):w.cell? ⟨g,i,none⟩=some v:=(dY a i).trans h
section
variable {P:Program} {ops:Array Oper} {Q:Exit→Act→World→Prop} {md:Region.Mode} {S:World→Prop} {ds:List Nat}
theorem pu (i:Nat) (N:Tmp) {oi:Oper} {v:Value} {fuel:Nat} {l l' :Array Bool} {a a' :Act} {w:World} (h:dE P md ops Q S ds fuel l' a' w)
    (hi:ops[i]?=some oi:=by exact rfl) (hN:oi.dst=some N:=by exact rfl) (hl:l.setIfInBounds i true=l' :=by simp only [List.setIfInBounds_toArray,List.set_cons_zero,List.set_cons_succ];rfl)
    (hc:aKg md ops l l' i=true:=by exact aMz kQ.out (by kernel_rfl)) (hQ: ∀c a w,Q (.panic c) (a.put oi.dst v) w→Q (.panic c) a w:=by exact fun _ _ _ h=>h)
    (hw:Region.wanted oi (yielded ops a.tmps)=true:=by rfl) (hy: ∀w,(execOp a.eval oi).run P w= .ok (.value v) w:=by intro w';go_simp;with_reducible rfl)
    (ha:a.put (some N) v=a' :=by simp only [Act.put,List.setIfInBounds_toArray,List.set_cons_zero,List.set_cons_succ,iZ,rC];rfl):dE P md ops Q S ds (fuel+1) l a w:=
  aYw l' hi hN hc hQ (.inl ⟨hw,hy⟩) ha h
theorem tk1 (i:Nat) (N:Tmp) {oi:Oper} {v:Value} {fuel:Nat} {l l' :Array Bool} {a a' :Act} {w:World} (hS:S w) (h:dE P md ops Q S ds fuel l' a' w)
    (hi:ops[i]?=some oi:=by exact rfl) (hN:oi.dst=some N:=by exact rfl) (hl:l.setIfInBounds i true=l' :=by simp only [List.setIfInBounds_toArray,List.set_cons_zero,List.set_cons_succ];rfl)
    (hc:J8 md ops ds l l' i=true:=by exact kT kQ.out rT.out (by kernel_rfl)) (hQ: ∀c a w,Q (.panic c) (a.put oi.dst v) w→Q (.panic c) a w:=by exact fun _ _ _ h=>h)
    (hw:Region.wanted oi (yielded ops a.tmps)=true:=by rfl) (hy: ∀w,S w→(execOp a.eval oi).run P w= .ok (.value v) w:=by rintro w' s0;go_simp;with_reducible rfl)
    (ha:a.put (some N) v=a' :=by simp only [Act.put,List.setIfInBounds_toArray,List.set_cons_zero,List.set_cons_succ,iZ,rC];rfl):dE P md ops Q S ds (fuel+1) l a w:=
  rM l' hi hN hc hQ (.inl ⟨hw,hy⟩) hS ha h
theorem V9 (i:Nat) (N:Tmp) {oi:Oper} {v:Value} {fuel:Nat} {l l' :Array Bool} {a a' :Act} {w:World} (hS:S w) (h:dE P md ops Q S ds fuel l' a' w)
    (hi:ops[i]?=some oi:=by exact rfl) (hN:oi.dst=some N:=by exact rfl) (hl:l.setIfInBounds i true=l' :=by simp only [List.setIfInBounds_toArray,List.set_cons_zero,List.set_cons_succ];rfl)
    (hc:J8 md ops ds l l' i=true:=by exact kT kQ.out rT.out (by kernel_rfl)) (hQ: ∀c a w,Q (.panic c) (a.put oi.dst v) w→Q (.panic c) a w:=by exact fun _ _ _ h=>h)
    (hw:Region.wanted oi (yielded ops a.tmps)=true:=by rfl) (hy: ∀w,S w→(execOp a.eval oi).run P w= .ok (.value v) w:=by rintro w' ⟨s0,s1⟩;go_simp;with_reducible rfl)
    (ha:a.put (some N) v=a' :=by simp only [Act.put,List.setIfInBounds_toArray,List.set_cons_zero,List.set_cons_succ,iZ,rC];rfl):dE P md ops Q S ds (fuel+1) l a w:=
  rM l' hi hN hc hQ (.inl ⟨hw,hy⟩) hS ha h
theorem tk3 (i:Nat) (N:Tmp) {oi:Oper} {v:Value} {fuel:Nat} {l l' :Array Bool} {a a' :Act} {w:World} (hS:S w) (h:dE P md ops Q S ds fuel l' a' w)
    (hi:ops[i]?=some oi:=by exact rfl) (hN:oi.dst=some N:=by exact rfl) (hl:l.setIfInBounds i true=l' :=by simp only [List.setIfInBounds_toArray,List.set_cons_zero,List.set_cons_succ];rfl)
    (hc:J8 md ops ds l l' i=true:=by exact kT kQ.out rT.out (by kernel_rfl)) (hQ: ∀c a w,Q (.panic c) (a.put oi.dst v) w→Q (.panic c) a w:=by exact fun _ _ _ h=>h)
    (hw:Region.wanted oi (yielded ops a.tmps)=true:=by rfl) (hy: ∀w,S w→(execOp a.eval oi).run P w= .ok (.value v) w:=by rintro w' ⟨s0,s1,s2⟩;go_simp;with_reducible rfl)
    (ha:a.put (some N) v=a' :=by simp only [Act.put,List.setIfInBounds_toArray,List.set_cons_zero,List.set_cons_succ,iZ,rC];rfl):dE P md ops Q S ds (fuel+1) l a w:=
  rM l' hi hN hc hQ (.inl ⟨hw,hy⟩) hS ha h
theorem VG (i:Nat) (N:Tmp) {oi:Oper} {v:Value} {fuel:Nat} {l l' :Array Bool} {a a' :Act} {w:World} (hS:S w) (h:dE P md ops Q S ds fuel l' a' w)
    (hi:ops[i]?=some oi:=by exact rfl) (hN:oi.dst=some N:=by exact rfl) (hl:l.setIfInBounds i true=l' :=by simp only [List.setIfInBounds_toArray,List.set_cons_zero,List.set_cons_succ];rfl)
    (hc:J8 md ops ds l l' i=true:=by exact kT kQ.out rT.out (by kernel_rfl)) (hQ: ∀c a w,Q (.panic c) (a.put oi.dst v) w→Q (.panic c) a w:=by exact fun _ _ _ h=>h)
    (hw:Region.wanted oi (yielded ops a.tmps)=true:=by rfl) (hy: ∀w,S w→(execOp a.eval oi).run P w= .ok (.value v) w:=by rintro w' ⟨s0,s1,s2,s3⟩;go_simp;with_reducible rfl)
    (ha:a.put (some N) v=a' :=by simp only [Act.put,List.setIfInBounds_toArray,List.set_cons_zero,List.set_cons_succ,iZ,rC];rfl):dE P md ops Q S ds (fuel+1) l a w:=
  rM l' hi hN hc hQ (.inl ⟨hw,hy⟩) hS ha h
theorem tk5 (i:Nat) (N:Tmp) {oi:Oper} {v:Value} {fuel:Nat} {l l' :Array Bool} {a a' :Act} {w:World} (hS:S w) (h:dE P md ops Q S ds fuel l' a' w)
    (hi:ops[i]?=some oi:=by exact rfl) (hN:oi.dst=some N:=by exact rfl) (hl:l.setIfInBounds i true=l' :=by simp only [List.setIfInBounds_toArray,List.set_cons_zero,List.set_cons_succ];rfl)
    (hc:J8 md ops ds l l' i=true:=by exact kT kQ.out rT.out (by kernel_rfl)) (hQ: ∀c a w,Q (.panic c) (a.put oi.dst v) w→Q (.panic c) a w:=by exact fun _ _ _ h=>h)
    (hw:Region.wanted oi (yielded ops a.tmps)=true:=by rfl) (hy: ∀w,S w→(execOp a.eval oi).run P w= .ok (.value v) w:=by rintro w' ⟨s0,s1,s2,s3,s4⟩;go_simp;with_reducible rfl)
    (ha:a.put (some N) v=a' :=by simp only [Act.put,List.setIfInBounds_toArray,List.set_cons_zero,List.set_cons_succ,iZ,rC];rfl):dE P md ops Q S ds (fuel+1) l a w:=
  rM l' hi hN hc hQ (.inl ⟨hw,hy⟩) hS ha h
theorem tk6 (i:Nat) (N:Tmp) {oi:Oper} {v:Value} {fuel:Nat} {l l' :Array Bool} {a a' :Act} {w:World} (hS:S w) (h:dE P md ops Q S ds fuel l' a' w)
    (hi:ops[i]?=some oi:=by exact rfl) (hN:oi.dst=some N:=by exact rfl) (hl:l.setIfInBounds i true=l' :=by simp only [List.setIfInBounds_toArray,List.set_cons_zero,List.set_cons_succ];rfl)
    (hc:J8 md ops ds l l' i=true:=by exact kT kQ.out rT.out (by kernel_rfl)) (hQ: ∀c a w,Q (.panic c) (a.put oi.dst v) w→Q (.panic c) a w:=by exact fun _ _ _ h=>h)
    (hw:Region.wanted oi (yielded ops a.tmps)=true:=by rfl) (hy: ∀w,S w→(execOp a.eval oi).run P w= .ok (.value v) w:=by rintro w' ⟨s0,s1,s2,s3,s4,s5⟩;go_simp;with_reducible rfl)
    (ha:a.put (some N) v=a' :=by simp only [Act.put,List.setIfInBounds_toArray,List.set_cons_zero,List.set_cons_succ,iZ,rC];rfl):dE P md ops Q S ds (fuel+1) l a w:=
  rM l' hi hN hc hQ (.inl ⟨hw,hy⟩) hS ha h
theorem qF (i:Nat) (N:Tmp) {oi:Oper} {fuel:Nat} {l l' :Array Bool} {a:Act} {w:World}
    (h: ∀K:Act→World→Prop,Shut (∀a' w',S w' →(S w' →dE P md ops Q S ds fuel l' a' w')→K a' w')→if Region.wanted oi (yielded ops a.tmps)=true then Oper.wp P oi a w K Q else K (a.put (some N) undef) w)
    (hi:ops[i]?=some oi:=by exact rfl) (hN:oi.dst=some N:=by exact rfl) (hl:l.setIfInBounds i true=l' :=by simp only [List.setIfInBounds_toArray,List.set_cons_zero,List.set_cons_succ];rfl)
    (hc:M6 md ops l l' i=true:=by exact CR kQ.out (by kernel_rfl)) (hd:i∉ds:=by decide):dE P md ops Q S ds (fuel+1) l a w:=a2n l' hi hN hc hd h
end
section
variable {P:Program} {ops:Array Oper} {o:Oper} {rest:List Oper} {a:Act} {Q:Exit→Act→World→Prop}
theorem bx {W:World} (N:Tmp) {cs:Array Value} {t:TypeId} (h: ∀g,g=W.heap.size→ ∀w1,w1.heap[g]?=some (.cells cs t (0,0))→Below W.heap.size W w1→wpList P ops Q rest (a.put o.dst (.pointer (some ⟨g,0,none⟩))) w1)
    (hd:o.dst=some N:=by rfl) (hg:o.guard=none:=by rfl) (hr:(execOp a.eval o).run P W= .ok (.value (.pointer (some ⟨W.heap.size,0,none⟩))) (W.alloc (.cells cs t (0,0))):=by first|(go_simp;done)|(go_simp;rfl)):wpList P ops Q (o::rest) a W:=
  aKm hg hd hr h
end
end Go.Proofs.YtpljfjbhlboffaaGreat.Sh

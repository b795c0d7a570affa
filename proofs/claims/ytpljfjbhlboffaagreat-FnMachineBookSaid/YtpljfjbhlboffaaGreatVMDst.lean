import Derived.Test.YtpljfjbhlboffaaGreatVMStr
namespace Go.Proofs.YtpljfjbhlboffaaGreat.M
open Go.RowKit Go.Proofs.YtpljfjbhlboffaaGreatW.bJ Go.Proofs.YtpljfjbhlboffaaGreatW.gI Go.Proofs.YtpljfjbhlboffaaGreatW.jC
def jF (a b:ByteArray) (i k:Nat):Int:=
  if _hi:i=0 then k
  else if _hk:k=0 then i
  else
    let n:=min (min (jF a b (i-1) (k-1)+if bt a ((i-1:Nat):Int)=bt b ((k-1:Nat):Int)then 0 else 1) (jF a b (i-1) k+1)) (jF a b i (k-1)+1)
    if 1<i∧1<k∧bt a ((i-1:Nat):Int)=bt b ((k-2:Nat):Int)∧bt a ((i-2:Nat):Int)=bt b ((k-1:Nat):Int)then min n (jF a b (i-2) (k-2)+1)else n
termination_by i+k
theorem uW (a b:ByteArray) (k:Nat):jF a b 0 k=k:=by
  rw [jF]
  simp
theorem FL (a b:ByteArray) (i:Nat):jF a b i 0=i:=by
  rw [jF]
  by_cases h:i=0
  · simp [h]
  · simp [h]
def qC (a b:ByteArray) (i k:Nat):Int:=min (min (jF a b i k+if bt a (i:Int)=bt b (k:Int)then 0 else 1) (jF a b i (k+1)+1)) (jF a b (i+1) k+1)
theorem uV (a b:ByteArray) (i k:Nat):jF a b (i+1) (k+1)=
    if 1≤i∧1≤k∧bt a (i:Int)=bt b ((k-1:Nat):Int)∧bt a ((i-1:Nat):Int)=bt b (k:Int)then min (qC a b i k) (jF a b (i-1) (k-1)+1)else qC a b i k:=by
  rw [jF]
  simp only [Nat.add_eq_zero_iff,Nat.one_ne_zero,and_false,dite_false,Nat.add_sub_cancel,qC]
  rw [show i+1-2=i-1 from by omega,show k+1-2=k-1 from by omega]
  by_cases c:1≤i∧1≤k∧bt a (i:Int)=bt b ((k-1:Nat):Int)∧bt a ((i-1:Nat):Int)=bt b (k:Int)
  · rw [if_pos c,if_pos ⟨by omega,by omega,c.2.2⟩]
  · rw [if_neg c,if_neg (fun h=>c ⟨by omega,by omega,h.2.2⟩)]
theorem V7 {i k:Int} {d1 d2 d3 d4 c v x:Int} (h1:i-k≤d1) (h2:i-(k+1)≤d2) (h3:i+1-k≤d3) (h4:i-k≤d4) (hc:0≤c) (hv:v=d1+c∨v=d2+1∨v=d3+1) (hx:x=v∨x=min v (d4+1)):i-k≤x:=by
  rcases hx with h|h<;>rcases hv with g|g|g<;>omega
theorem aQz {i k:Int} {d1 c v x:Int} (h1:d1≤i∨d1≤k) (hc:c≤1) (hv:v≤d1+c) (hx:x≤v):x≤i+1∨x≤k+1:=by
  omega
theorem qH (a b:ByteArray): ∀(n i k:Nat),i+k≤n→jF a b i k=jF b a k i∧(i:Int)-k≤jF a b i k∧(k:Int)-i≤jF a b i k∧(jF a b i k≤i∨jF a b i k≤k)∧
    (jF a b i k=0↔i=k∧ ∀j:Nat,j<i→bt a j=bt b j)∧0≤jF a b i k:=by
  intro n
  induction n with
  |zero=>
    intro i k h
    obtain rfl:i=0:=by omega
    obtain rfl:k=0:=by omega
    rw [uW,uW]
    simp
  |succ n ih=>
    intro i k h
    cases i with
    |zero=>
      rw [uW,FL]
      refine⟨rfl,by omega,by omega, .inr (by omega),?_,by omega⟩
      constructor
      · intro e
        exact⟨by omega,fun j hj=>absurd hj (by omega)⟩
      · intro e
        omega
    |succ i=>
      cases k with
      |zero=>
        rw [FL,uW]
        refine⟨rfl,by omega,by omega, .inl (by omega),?_,by omega⟩
        constructor
        · intro e
          omega
        · intro e
          omega
      |succ k=>
        obtain⟨s1,l1,u1,m1,z1,p1⟩:=ih i k (by omega)
        obtain⟨s2,l2,u2,m2,z2,p2⟩:=ih i (k+1) (by omega)
        obtain⟨s3,l3,u3,m3,z3,p3⟩:=ih (i+1) k (by omega)
        obtain⟨s4,l4,u4,m4,z4,p4⟩:=ih (i-1) (k-1) (by omega)
        have e3:qC a b i k=qC b a k i:=by
          unfold qC
          rw [s1,s2,s3]
          by_cases c:bt a (i:Int)=bt b (k:Int)
          · rw [if_pos c,if_pos c.symm]
            omega
          · rw [if_neg c,if_neg (fun h=>c h.symm)]
            omega
        have eq:jF a b (i+1) (k+1)=jF b a (k+1) (i+1):=by
          rw [uV,uV,e3,s4]
          by_cases c:1≤i∧1≤k∧bt a (i:Int)=bt b ((k-1:Nat):Int)∧bt a ((i-1:Nat):Int)=bt b (k:Int)
          · rw [if_pos c,if_pos ⟨c.2.1,c.1,c.2.2.2.symm,c.2.2.1.symm⟩]
          · rw [if_neg c,if_neg (fun h=>c ⟨h.2.1,h.1,h.2.2.2.symm,h.2.2.1.symm⟩)]
        have d3: ∃v,qC a b i k=v∧v≤jF a b i k+(if bt a (i:Int)=bt b (k:Int)then 0 else 1)∧v≤jF a b i (k+1)+1∧v≤jF a b (i+1) k+1∧
            (v=jF a b i k+(if bt a (i:Int)=bt b (k:Int)then 0 else 1)∨v=jF a b i (k+1)+1∨v=jF a b (i+1) k+1):=by
          refine⟨_,rfl,?_⟩
          unfold qC
          omega
        obtain⟨v,hv,v1,v2,v3,v4⟩:=d3
        have hc:(if bt a (i:Int)=bt b (k:Int)then(0:Int)else 1)=0∧bt a (i:Int)=bt b (k:Int)∨(if bt a (i:Int)=bt b (k:Int)then(0:Int)else 1)=1∧ ¬bt a (i:Int)=bt b (k:Int):=by
          by_cases c:bt a (i:Int)=bt b (k:Int)
          · exact .inl ⟨if_pos c,c⟩
          · exact .inr ⟨if_neg c,c⟩
        have hd: ∃x,jF a b (i+1) (k+1)=x∧((x=v)∨(1≤i∧1≤k∧x=min v (jF a b (i-1) (k-1)+1))):=by
          refine⟨_,rfl,?_⟩
          rw [uV,hv]
          by_cases c:1≤i∧1≤k∧bt a (i:Int)=bt b ((k-1:Nat):Int)∧bt a ((i-1:Nat):Int)=bt b (k:Int)
          · rw [if_pos c]
            exact .inr ⟨c.1,c.2.1,rfl⟩
          · rw [if_neg c]
            exact .inl rfl
        obtain⟨x,hx,hx2⟩:=hd
        have hx3:x=v∨x=min v (jF a b (i-1) (k-1)+1):=hx2.elim .inl (fun h=> .inr h.2.2)
        have hxv:x≤v:=by rcases hx3 with h|h<;>omega
        have c0:(0:Int)≤if bt a (i:Int)=bt b (k:Int)then 0 else 1:=by split<;>omega
        have c1:(if bt a (i:Int)=bt b (k:Int)then(0:Int)else 1)≤1:=by split<;>omega
        have l4' :(i:Int)-k≤jF a b (i-1) (k-1)∨ ¬(1≤i∧1≤k):=by omega
        have u4' :(k:Int)-i≤jF a b (i-1) (k-1)∨ ¬(1≤i∧1≤k):=by omega
        have h0x:0≤v:=by clear hx hx2 hx3 hxv;rcases v4 with h|h|h<;>omega
        have h0:0≤x:=by rcases hx3 with h|h<;>omega
        have low:(i:Int)-k≤x:=by
          rcases hx2 with h|⟨q1,q2,h⟩
          · exact V7 (d4:=(i:Int)-k) l1 (by omega) (by omega) (by omega) c0 v4 (.inl h)
          · exact V7 l1 (by omega) (by omega) (l4'.resolve_right (fun h=>h ⟨q1,q2⟩)) c0 v4 (.inr h)
        have bRS:(k:Int)-i≤x:=by
          rcases hx2 with h|⟨q1,q2,h⟩
          · exact V7 (d2:=jF a b (i+1) k) (d3:=jF a b i (k+1)) (d4:=(k:Int)-i) u1 (by omega) (by omega) (by omega) c0 (v4.elim .inl (fun h=>h.elim (fun h=> .inr (.inr h)) (fun h=> .inr (.inl h)))) (.inl h)
          · exact V7 (d2:=jF a b (i+1) k) (d3:=jF a b i (k+1)) u1 (by omega) (by omega) (u4'.resolve_right (fun h=>h ⟨q1,q2⟩)) c0 (v4.elim .inl (fun h=>h.elim (fun h=> .inr (.inr h)) (fun h=> .inr (.inl h)))) (.inr h)
        have high:=aQz m1 c1 v1 hxv
        have zero:x=0→v=0:=by
          intro e
          rcases hx2 with h2|⟨_,_,h2⟩<;>omega
        clear l2 u2 m2 z2 s2 l3 u3 m3 z3 s3 s4 l4 u4 m4 z4 s1 l1 u1 m1 l4' u4' ih e3 v1 hv
        refine⟨eq,by rw [hx];omega,by rw [hx];omega,by rw [hx];omega,?_,by rw [hx];exact h0⟩
        rw [hx]
        constructor
        · intro e
          have hv0:=zero e
          rcases hc with ⟨hc,hcc⟩|⟨hc,_⟩
          · rw [hc] at v4
            have h0:jF a b i k=0:=by omega
            have:=z1.1 h0
            refine⟨by omega,fun j hj=>?_⟩
            by_cases q:j=i
            · rw [q]
              have:i=k:=this.1
              subst this
              exact hcc
            · exact this.2 j (by omega)
          · rw [hc] at v4
            omega
        · rintro⟨e,hj⟩
          have hik:i=k:=by omega
          subst hik
          have hd0:=z1.2 ⟨rfl,fun j h=>hj j (by omega)⟩
          have hcc:=hj i (by omega)
          have hle:x≤0:=by
            have:x≤jF a b (i+1) (i+1):=by omega
            rw [if_pos hcc] at c0 c1
            have hxx:jF a b (i+1) (i+1)≤qC a b i i:=by
              rw [uV]
              split<;>omega
            have:qC a b i i≤0:=by
              unfold qC
              rw [if_pos hcc]
              omega
            omega
          omega
def wZ (a b:ByteArray):Int:=jF a b a.size b.size
def TD (a b:ByteArray):Int:=if gD a=true∧gD b=true then wZ a b else-1
theorem aKF (a b:ByteArray):wZ a b=wZ b a:=(qH a b _ _ _ (Nat.le_refl _)).1
theorem aAW (a b:ByteArray):wZ a b=0↔a=b:=by
  rw [wZ,(qH a b _ _ _ (Nat.le_refl _)).2.2.2.2.1]
  constructor
  · rintro⟨h1,h2⟩
    refine bytes_inj (List.ext_getElem (by rw [bR,bR,h1]) fun j hj1 hj2=>?_)
    rw [bR] at hj1
    have:=h2 j hj1
    rw [←GQ,←GQ] at this
    have bII:j<(bytesOf a).length:=by rw [bR];exact hj1
    simpa [rd,List.getD_eq_getElem?_getD,List.getElem?_eq_getElem bII,List.getElem?_eq_getElem hj2] using this
  · rintro rfl
    exact⟨rfl,fun _ _=>rfl⟩
end Go.Proofs.YtpljfjbhlboffaaGreat.M

import Derived.Test.YtpljfjbhlboffaaGreatVLast
import Derived.Test.YtpljfjbhlboffaaGreatVWords
namespace Go.Proofs.YtpljfjbhlboffaaGreatW.gI
open Go.Proofs.YtpljfjbhlboffaaGreatW.bJ (aC)
def KS (md:Region.Mode) (o:Oper):List Nat:=(o.after.toList.filter (fun e=>Region.binds md e)).map (fun e=>e.on)
def aBI (md:Region.Mode) (ops:Array Oper) (i:Nat) (oi:Oper):List Nat:=(List.range ops.size).filter fun j=> !(j==i)&&match ops[j]? with
  |some oj=> !(oj.after.any (fun e=>Region.binds md e&&e.on==i)||oi.apart ops oj)
  |none=>false
def nX (md:Region.Mode) (ops:Array Oper):Bool×List (List Nat×List Nat):=(Region.noSelect ops,(List.range ops.size).map fun i=>match ops[i]? with
  |some o=>(KS md o,aBI md ops i o)
  |none=>([],[]))
def EB (T:List (List Nat×List Nat)) (l:List Bool) (i:Nat):Bool:= !l.getD i true&&match T[i]? with
  |some r=>r.1.all (fun j=>l.getD j false)
  |none=>false
def TM (T:List (List Nat×List Nat)) (l:List Bool):List Nat:=(List.range T.length).filter (EB T l)
def aEv (T:List (List Nat×List Nat)) (l:List Bool) (i:Nat):Bool:=match T[i]? with
  |some r=>r.2.all (fun j=>l.getD j true)
  |none=>false
def VW (T:List (List Nat×List Nat)) (l:List Bool):Bool:=(List.range T.length).all fun j=> !l.getD j false||match T[j]? with
  |some r=>r.1.all (fun k=>l.getD k false)
  |none=>true
def TL (T:List (List Nat×List Nat)) (i:Nat):Nat→Nat→Bool
  |0,_=>false
  |fuel+1,d=>match T[d]? with
    |some r=>r.1.any fun j=>j==i||TL T i fuel j
    |none=>false
def aJH (T:List (List Nat×List Nat)) (l:List Bool) (ds:List Nat) (i:Nat):Bool:=ds.all fun d=>l.getD d true||TL T i T.length d
section
variable {md:Region.Mode} {ops:Array Oper} {T:Bool×List (List Nat×List Nat)} {l l' li lj lk:Array Bool} {ds:List Nat} {i j k:Nat}
theorem gd (l:Array Bool) (j:Nat) (b:Bool):l.getD j b=l.toList.getD j b:=by simp [Array.getD_eq_getD_getElem?,List.getD_eq_getElem?_getD]
theorem aBd (o:Oper) (p:Nat→Bool):o.after.all (fun e=> !Region.binds md e||p e.on)=(KS md o).all p:=by
  unfold KS
  rw [←Array.all_toList]
  induction o.after.toList with
  |nil=>rfl
  |cons e r ih=>
    rw [List.all_cons,ih,List.filter_cons]
    cases h:Region.binds md e<;>simp
theorem aKX (o:Oper) (p:Nat→Bool):o.after.any (fun e=>Region.binds md e&&p e.on)=(KS md o).any p:=by
  unfold KS
  rw [←Array.any_toList]
  induction o.after.toList with
  |nil=>rfl
  |cons e r ih=>
    rw [List.any_cons,ih,List.filter_cons]
    cases h:Region.binds md e<;>simp
theorem EC:(nX md ops).2.length=ops.size:=by simp [nX]
theorem KW {o:Oper} (h:ops[i]?=some o):(nX md ops).2[i]?=some (KS md o,aBI md ops i o):=by
  have hi:=(Array.getElem?_eq_some_iff.1 h).1
  unfold nX
  rw [List.getElem?_map,List.getElem?_range hi,Option.map_some,h]
theorem KV (h:ops[i]?=none):(nX md ops).2[i]?=none:=by
  have hi:ops.size≤i:=Array.getElem?_eq_none_iff.1 h
  exact List.getElem?_eq_none (by rw [EC];exact hi)
theorem aGN:EB (nX md ops).2 l.toList i=(!l.getD i true&&((ops[i]?).map (·.after.all fun e=> !Region.binds md e||l.getD e.on false)).getD false):=by
  unfold EB
  rw [gd]
  cases h:ops[i]? with
  |none=>rw [KV h];rfl
  |some o=>
    rw [KW h]
    simp only [Option.map_some,Option.getD_some]
    rw [←aBd]
    simp only [gd]
theorem RB:Region.ready md ops l=TM (nX md ops).2 l.toList:=by
  unfold Region.ready TM
  rw [EC]
  refine List.filter_congr (fun i _=>?_)
  rw [aGN]
theorem aIb:Region.free md ops l i=aEv (nX md ops).2 l.toList i:=by
  unfold Region.free aEv
  cases h:ops[i]? with
  |none=>rw [KV h]
  |some oi=>
    rw [KW h]
    simp only [aBI]
    rw [List.all_filter]
    congr 1
    funext j
    rw [gd]
    cases hj:ops[j]? with
    |none=>cases (j==i)<;>cases (l.toList.getD j true)<;>simp
    |some oj=>
      cases (j==i)<;>cases (l.toList.getD j true)<;>cases (oj.after.any (fun e=>Region.binds md e&&e.on==i)||oi.apart ops oj)<;>simp_all
theorem aKs:Region.OP md ops l=VW (nX md ops).2 l.toList:=by
  unfold Region.OP VW
  rw [EC]
  congr 1
  funext j
  rw [gd]
  cases h:ops[j]? with
  |none=>rw [KV h]
  |some o=>
    rw [KW h]
    simp only
    rw [←aBd]
    simp only [gd]
theorem aE5: ∀(fuel d:Nat),Region.y5 md ops i fuel d=TL (nX md ops).2 i fuel d
  |0,_=>rfl
  |fuel+1,d=>by
    unfold Region.y5 TL
    cases h:ops[d]? with
    |none=>rw [KV h]
    |some o=>
      rw [KW h]
      simp only
      rw [←aKX]
      congr 1
      funext e
      rw [aE5 fuel]
theorem aUo:Region.aJG md ops l ds i=aJH (nX md ops).2 l.toList ds i:=by
  unfold Region.aJG aJH
  rw [EC]
  congr 1
  funext d
  rw [gd,aE5]
theorem UR (h:EB T.2 l.toList i=true) (hT:nX md ops=T):(Region.ready md ops l).contains i=true:=by
  subst hT
  rw [RB]
  unfold TM
  rw [List.contains_iff_mem,List.mem_filter,List.mem_range]
  refine⟨?_,h⟩
  unfold EB at h
  rw [Bool.and_eq_true] at h
  cases hq:(nX md ops).2[i]? with
  |none=>rw [hq] at h;simp at h
  |some r=>exact(List.getElem?_eq_some_iff.1 hq).1
theorem Y4 (h:(l.toList.set i true==l'.toList)=true):(l.setIfInBounds i true==l')=true:=by
  rw [beq_iff_eq] at h⊢
  apply Array.ext'
  rw [Array.toList_setIfInBounds]
  exact h
def a8f (T:Bool×List (List Nat×List Nat)) (l l' :List Bool) (i:Nat):Bool:=T.1&&aEv T.2 l i&&EB T.2 l i&&(l.set i true==l')
theorem aMz (hT:nX md ops=T) (h:a8f T l.toList l'.toList i=true):aKg md ops l l' i=true:=by
  simp only [a8f,Bool.and_eq_true] at h
  obtain⟨⟨⟨h1,h2⟩,h3⟩,h4⟩:=h
  have h5:=UR h3 hT
  have h6:=Y4 h4
  subst hT
  simp only [aKg,Bool.and_eq_true]
  exact⟨⟨⟨h1,by rw [aIb];exact h2⟩,h5⟩,h6⟩
def aRl (T:Bool×List (List Nat×List Nat)) (ds:List Nat) (l l' :List Bool) (i:Nat):Bool:=T.1&&aEv T.2 l i&&EB T.2 l i&&VW T.2 l&&aJH T.2 l ds i&&(l.set i true==l')
theorem aVw (hT:nX md ops=T) (h:aRl T ds l.toList l'.toList i=true):J8 md ops ds l l' i=true:=by
  simp only [aRl,Bool.and_eq_true] at h
  obtain⟨⟨⟨⟨⟨h1,h2⟩,h3⟩,h4⟩,h5⟩,h6⟩:=h
  have h7:=UR h3 hT
  have h8:=Y4 h6
  subst hT
  simp only [J8,Bool.and_eq_true]
  exact⟨⟨⟨⟨⟨h1,by rw [aIb];exact h2⟩,h7⟩,by rw [aKs];exact h4⟩,by rw [aUo];exact h5⟩,h8⟩
theorem CR (hT:nX md ops=T) (h:(TM T.2 l.toList==[i]&&l.toList.set i true==l'.toList)=true):M6 md ops l l' i=true:=by
  simp only [Bool.and_eq_true] at h
  obtain⟨h1,h2⟩:=h
  subst hT
  simp only [M6,Bool.and_eq_true]
  exact⟨by rw [RB];exact h1,Y4 h2⟩
theorem ZE (hT:nX md ops=T) (h:(TM T.2 l.toList==[i,j]&&l.toList.set i true==li.toList&&l.toList.set j true==lj.toList)=true):(Region.ready md ops l==[i,j]&&l.setIfInBounds i true==li&&l.setIfInBounds j true==lj)=true:=by
  simp only [Bool.and_eq_true] at h⊢
  obtain⟨⟨h1,h2⟩,h3⟩:=h
  subst hT
  exact⟨⟨by rw [RB];exact h1,Y4 h2⟩,Y4 h3⟩
theorem fQ (hT:nX md ops=T) (h:(TM T.2 l.toList==[])=true):(Region.ready md ops l==[])=true:=by
  subst hT
  rw [RB]
  exact h
def upM (B:List Nat) (d:Nat):List Nat→Nat
  |[]=>0
  |n::r=>(2^n|||(if n<d then B.getD n 0 else 0))|||upM B d r
def jA (T:List (List Nat×List Nat)) (B:List Nat):Bool:=(List.range T.length).all fun d=>match T[d]? with
  |some r=>(B.getD d 0|||upM B d r.1)==upM B d r.1
  |none=>false
theorem aJV {B:List Nat} {d i:Nat}: ∀{ns:List Nat},(upM B d ns).testBit i=true→ ∃n∈ns,n=i∨(n<d∧(B.getD n 0).testBit i=true)
  |[],h=>by simp [upM] at h
  |n::r,h=>by
    unfold upM at h
    rw [Nat.testBit_or,Nat.testBit_or,Bool.or_eq_true,Bool.or_eq_true] at h
    rcases h with (h|h)|h
    · rw [Nat.testBit_two_pow] at h
      exact⟨n,List.mem_cons_self, .inl (by simpa using h)⟩
    · by_cases hn:n<d
      · rw [if_pos hn] at h
        exact⟨n,List.mem_cons_self, .inr ⟨hn,h⟩⟩
      · rw [if_neg hn] at h
        simp at h
    · obtain⟨m,hm,h2⟩:=aJV h
      exact⟨m,List.mem_cons_of_mem _ hm,h2⟩
theorem aBf {T:List (List Nat×List Nat)} {B:List Nat} (hB:jA T B=true): ∀(fuel d:Nat),d<fuel→d<T.length→(B.getD d 0).testBit i=true→TL T i fuel d=true
  |0,d,h,_,_=>by omega
  |fuel+1,d,h,hd,hb=>by
    have h1:=List.all_eq_true.1 hB d (List.mem_range.2 hd)
    cases hr:T[d]? with
    |none=>rw [hr] at h1;simp at h1
    |some r=>
      rw [hr] at h1
      simp only [beq_iff_eq] at h1
      have h2:(upM B d r.1).testBit i=true:=by rw [←h1,Nat.testBit_or,hb,Bool.true_or]
      obtain⟨n,hn,h3⟩:=aJV h2
      unfold TL
      rw [hr]
      simp only
      rw [List.any_eq_true]
      refine⟨n,hn,?_⟩
      rcases h3 with rfl|⟨h4,h5⟩
      · simp
      · rw [aBf hB fuel n (by omega) (by omega) h5,Bool.or_true]
def aYs (T:List (List Nat×List Nat)) (B:List Nat) (l:List Bool) (ds:List Nat) (i:Nat):Bool:=ds.all fun d=>l.getD d true||(decide (d<T.length)&&(B.getD d 0).testBit i)
def aYy (T:Bool×List (List Nat×List Nat)) (B:List Nat) (ds:List Nat) (l l' :List Bool) (i:Nat):Bool:=T.1&&aEv T.2 l i&&EB T.2 l i&&VW T.2 l&&aYs T.2 B l ds i&&(l.set i true==l')
theorem kT {B:List Nat} (hT:nX md ops=T) (hB:jA T.2 B=true) (h:aYy T B ds l.toList l'.toList i=true):J8 md ops ds l l' i=true:=by
  refine aVw hT ?_
  simp only [aYy,aRl,Bool.and_eq_true] at h⊢
  obtain⟨⟨⟨⟨⟨h1,h2⟩,h3⟩,h4⟩,h5⟩,h6⟩:=h
  refine⟨⟨⟨⟨⟨h1,h2⟩,h3⟩,h4⟩,?_⟩,h6⟩
  unfold aYs at h5
  unfold aJH
  rw [List.all_eq_true] at h5⊢
  intro d hd
  have h7:=h5 d hd
  rw [Bool.or_eq_true,Bool.and_eq_true,decide_eq_true_eq] at h7
  rcases h7 with h7|⟨h8,h9⟩
  · rw [h7,Bool.true_or]
  · rw [aBf hB _ d h8 h8 h9,Bool.or_true]
theorem dW {P:Program} {Q:Exit→Act→World→Prop} {S:World→Prop} {n:Nat} {a:Act} {w:World} {B:List Nat} (hT:nX md ops=T) (hB:jA T.2 B=true) (h:aC (nX md ops=T)→aC (jA T.2 B=true)→dE P md ops Q S ds n l a w):dE P md ops Q S ds n l a w:=h ⟨hT⟩ ⟨hB⟩
end
def MP:Code→Nat→Option (Array Oper)
  | .region id ops _,k=>if id==k then some ops else none
  | .seq a b,k=>match MP a k with
    |some o=>some o
    |none=>MP b k
  | .cond _ a b,k=>match MP a k with
    |some o=>some o
    |none=>MP b k
  | .block _ c,k=>MP c k
  | .loop c,k=>MP c k
  | .scope c,k=>MP c k
  | .rangeFunc _ _ a b,k=>match MP a k with
    |some o=>some o
    |none=>MP b k
  |_,_=>none
def opsOf (f:Func) (k:Nat):Array Oper:=((f.body.bind fun c=>MP c k)).getD #[]
end Go.Proofs.YtpljfjbhlboffaaGreatW.gI

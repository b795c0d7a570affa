import Derived.Test.YtpljfjbhlboffaaGreatVMAff
namespace Go.Proofs.YtpljfjbhlboffaaGreat.M
open Go.RowKit Go.Proofs.YtpljfjbhlboffaaGreatW.bJ Go.Proofs.YtpljfjbhlboffaaGreatW.gI Go.Proofs.YtpljfjbhlboffaaGreatW.jC
theorem JS: ∀x:List UInt8,Op.bytesLess x x=false
  |[]=>rfl
  |a::x=>by simp [Op.bytesLess,JS x]
theorem YR: ∀x y z:List UInt8,Op.bytesLess x y=true→Op.bytesLess y z=true→Op.bytesLess x z=true
  |[],[],_=>by simp [Op.bytesLess]
  |_,_::_,[]=>by simp [Op.bytesLess]
  |[],_::_,_::_=>by simp [Op.bytesLess]
  |_::_,[],_=>by simp [Op.bytesLess]
  |a::x,b::y,c::z=>by
    simp only [Op.bytesLess,Bool.or_eq_true,decide_eq_true_eq,Bool.and_eq_true,beq_iff_eq]
    rintro(h|⟨rfl,h⟩) (k|⟨rfl,k⟩)
    · exact .inl (UInt8.lt_trans h k)
    · exact .inl h
    · exact .inl k
    · exact .inr ⟨rfl,YR x y z h k⟩
theorem YQ: ∀x y:List UInt8,Op.bytesLess x y=false→x≠y→Op.bytesLess y x=true
  |[],[]=>by simp
  |[],_::_=>by simp [Op.bytesLess]
  |_::_,[]=>by simp [Op.bytesLess]
  |a::x,b::y=>by
    simp only [Op.bytesLess,Bool.or_eq_false_iff,decide_eq_false_iff_not,Bool.or_eq_true,decide_eq_true_eq,Bool.and_eq_true,beq_iff_eq]
    rintro⟨h,k⟩ hne
    by_cases e:a=b
    · subst e
      refine .inr ⟨rfl,YQ x y (by simpa using k) (fun e=>hne (by rw [e]))⟩
    · rcases UInt8.lt_or_lt_of_ne e with h1|h1
      · exact absurd h1 h
      · exact .inl h1
def UO (s t:ByteArray):Bool:=Op.bytesLess s.toList t.toList
theorem CP (s:ByteArray):UO s s=false:=JS _
theorem KR {s t u:ByteArray} (h:UO s t=true) (k:UO t u=true):UO s u=true:=YR _ _ _ h k
theorem TI {s t:ByteArray} (h:UO s t=false) (hne:s≠t):UO t s=true:=YQ _ _ h (fun e=>hne ((sJ _ _).1 e))
theorem aKQ {s t:ByteArray} (h:UO s t=true):UO t s=false:=by
  cases e:UO t s
  · rfl
  · have:=KR h e
    rw [CP] at this
    cases this
theorem a2h {s t:ByteArray} (h:UO s t=true):s≠t:=by
  rintro rfl
  rw [CP] at h
  cases h
def VN (l:List ByteArray):Prop:=l.Pairwise (fun s t=>UO s t=true)
theorem VV: ∀{l k:List ByteArray},VN l→VN k→(∀x,x∈l↔x∈k)→l=k
  |[],[],_,_,_=>rfl
  |[],y::k,_,_,h=>absurd ((h y).2 List.mem_cons_self) (by simp)
  |x::l,[],_,_,h=>absurd ((h x).1 List.mem_cons_self) (by simp)
  |x::l,y::k,hl,hk,h=>by
    have hl' :=List.pairwise_cons.1 hl
    have hk' :=List.pairwise_cons.1 hk
    have e:x=y:=by
      rcases List.mem_cons.1 ((h x).1 List.mem_cons_self)with e|e
      · exact e
      · rcases List.mem_cons.1 ((h y).2 List.mem_cons_self)with e2|e2
        · exact e2.symm
        · have h1:=hk'.1 x e
          have h2:=hl'.1 y e2
          rw [aKQ h1] at h2
          cases h2
    subst e
    have:l=k:=VV hl'.2 hk'.2 (fun z=>by
      constructor
      · intro hz
        rcases List.mem_cons.1 ((h z).1 (List.mem_cons_of_mem _ hz))with e|e
        · subst e
          have:=hl'.1 z hz
          rw [CP] at this
          cases this
        · exact e
      · intro hz
        rcases List.mem_cons.1 ((h z).2 (List.mem_cons_of_mem _ hz))with e|e
        · subst e
          have:=hk'.1 z hz
          rw [CP] at this
          cases this
        · exact e)
    rw [this]
def vN:List ByteArray→ByteArray→List ByteArray
  |[],s=>[s]
  |x::l,s=>if UO x s=true then x::vN l s else if x=s then x::l else s::x::l
theorem J2 (l:List ByteArray) (s x:ByteArray):x∈vN l s↔x∈l∨x=s:=by
  induction l with
  |nil=>simp [vN]
  |cons y l ih=>
    simp only [vN]
    split
    · rw [List.mem_cons,ih,List.mem_cons,or_assoc]
    · split
      · rename_i e
        subst e
        simp only [List.mem_cons]
        exact⟨.inl,fun h=>h.elim id .inl⟩
      · simp only [List.mem_cons]
        exact⟨fun h=>h.elim .inr .inl,fun h=>h.elim .inr .inl⟩
theorem aE3 {l:List ByteArray} (h:VN l) (s:ByteArray):VN (vN l s):=by
  induction l with
  |nil=>simp [vN,VN]
  |cons y l ih=>
    have h' :=List.pairwise_cons.1 h
    simp only [vN]
    split
    · rename_i hlt
      refine List.pairwise_cons.2 ⟨fun z hz=>?_,ih h'.2⟩
      rcases(J2 _ _ _).1 hz with hz|rfl
      · exact h'.1 z hz
      · exact hlt
    · rename_i hlt
      split
      · exact h
      · rename_i hne
        have hs:UO s y=true:=TI (by simpa using hlt) hne
        refine List.pairwise_cons.2 ⟨fun z hz=>?_,h⟩
        rcases List.mem_cons.1 hz with rfl|hz
        · exact hs
        · exact KR hs (h'.1 z hz)
theorem wM (l:List ByteArray) (s:ByteArray):l.length≤(vN l s).length∧(vN l s).length≤l.length+1:=by
  induction l with
  |nil=>simp [vN]
  |cons y l ih=>
    simp only [vN]
    split
    · simp only [List.length_cons]
      omega
    · split<;>simp
def vV (s:ByteArray) (l:List ByteArray) (x:ByteArray):List ByteArray:=if x=s∨gD x=false then l else vN l x
theorem BA (s:ByteArray) (l:List ByteArray) (x:ByteArray):l.length≤(vV s l x).length∧(vV s l x).length≤l.length+1:=by
  unfold vV
  split
  · omega
  · exact wM l x
theorem aLe (s:ByteArray) {l:List ByteArray} (h:VN l) (x:ByteArray):VN (vV s l x):=by
  unfold vV
  split
  · exact h
  · exact aE3 h x
theorem aLf (s:ByteArray) (l:List ByteArray) (x y:ByteArray):y∈vV s l x↔y∈l∨(y=x∧x≠s∧gD x=true):=by
  unfold vV
  split
  · rename_i h
    refine⟨.inl,fun k=>k.elim id ?_⟩
    rintro⟨rfl,h1,h2⟩
    rcases h with h|h
    · exact absurd h h1
    · rw [h] at h2
      cases h2
  · rename_i h
    rw [J2]
    refine⟨fun k=>k.elim .inl (fun e=> .inr ⟨e,fun e2=>h (.inl e2),?_⟩),fun k=>k.elim .inl (fun e=> .inr e.1)⟩
    cases e3:gD x
    · exact absurd (.inr e3) h
    · rfl
theorem aBV (s:ByteArray) (c:List ByteArray): ∀(l:List ByteArray) (y:ByteArray),y∈c.foldl (vV s) l↔y∈l∨(y∈c∧y≠s∧gD y=true):=by
  induction c with
  |nil=>intro l y;simp
  |cons x c ih=>
    intro l y
    rw [List.foldl_cons,ih,aLf,List.mem_cons,or_assoc]
    constructor
    · rintro(h|⟨rfl,h⟩|⟨h1,h2⟩)
      · exact .inl h
      · exact .inr ⟨.inl rfl,h⟩
      · exact .inr ⟨.inr h1,h2⟩
    · rintro(h|⟨rfl|h1,h2⟩)
      · exact .inl h
      · exact .inr (.inl ⟨rfl,h2⟩)
      · exact .inr (.inr ⟨h1,h2⟩)
theorem aBU (s:ByteArray) (c:List ByteArray): ∀{l:List ByteArray},VN l→VN (c.foldl (vV s) l):=by
  induction c with
  |nil=>intro l h;exact h
  |cons x c ih=>intro l h;exact ih (aLe s h x)
theorem IB (s:ByteArray) (c:List ByteArray): ∀l:List ByteArray,(c.foldl (vV s) l).length≤l.length+c.length:=by
  induction c with
  |nil=>intro l;simp
  |cons x c ih=>
    intro l
    have h1:=ih (vV s l x)
    have h2:=(BA s l x).2
    rw [List.foldl_cons,List.length_cons]
    omega
end Go.Proofs.YtpljfjbhlboffaaGreat.M

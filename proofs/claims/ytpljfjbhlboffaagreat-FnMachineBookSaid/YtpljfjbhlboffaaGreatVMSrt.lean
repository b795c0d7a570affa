import Derived.Test.YtpljfjbhlboffaaGreatVMSml
import Derived.Lib.SlicesCompact
import Derived.Sort.Walk0
namespace Go.Proofs.YtpljfjbhlboffaaGreat.M
open Go.RowKit Go.Proofs.YtpljfjbhlboffaaGreatW.bJ Go.Proofs.YtpljfjbhlboffaaGreatW.gI Go.Proofs.YtpljfjbhlboffaaGreatW.jC
def J3 (l:List ByteArray):List ByteArray:=l.foldl vN []
theorem JM (c:List ByteArray): ∀(l:List ByteArray) (y:ByteArray),y∈c.foldl vN l↔y∈l∨y∈c:=by
  induction c with
  |nil=>intro l y;simp
  |cons x c ih=>intro l y;rw [List.foldl_cons,ih,J2,List.mem_cons,or_assoc]
theorem UH (c:List ByteArray): ∀{l:List ByteArray},VN l→VN (c.foldl vN l):=by
  induction c with
  |nil=>intro l h;exact h
  |cons x c ih=>intro l h;exact ih (aE3 h x)
theorem uF (c:List ByteArray): ∀l:List ByteArray,(c.foldl vN l).length≤l.length+c.length:=by
  induction c with
  |nil=>intro l;simp
  |cons x c ih=>
    intro l
    have h1:=ih (vN l x)
    have h2:=(wM l x).2
    rw [List.foldl_cons,List.length_cons]
    omega
theorem Y3 (l:List ByteArray) (y:ByteArray):y∈J3 l↔y∈l:=by
  unfold J3
  rw [JM]
  simp
theorem Y2 (l:List ByteArray):VN (J3 l):=UH l (by simp [VN])
theorem aE7 (l:List ByteArray):(J3 l).length≤l.length:=by
  have:=uF l []
  unfold J3
  simpa using this
abbrev leU:List UInt8→List UInt8→Bool:=fun x y=>decide (x≤y)
theorem X5 {zs:List (List UInt8)} {x:List UInt8} (h:x∈Lib.compact zs):x∈zs:=by
  unfold Lib.compact Lib.compactUpTo at h
  obtain⟨j,hj,rfl⟩:=List.mem_map.1 h
  have hl:j<zs.length:=List.mem_range.1 (List.mem_filter.1 hj).1
  simp [hl]
theorem X6 {zs:List (List UInt8)} {x:List UInt8} (h:x∈zs):x∈Lib.compact zs:=by
  obtain⟨j,hj,hx⟩:=List.getElem_of_mem h
  have main: ∀(n:Nat) (j:Nat) (hj:j<zs.length),j=n→zs[j]=x→x∈Lib.compact zs:=by
    intro n
    induction n with
    |zero=>
      intro j hj e hx
      subst e
      unfold Lib.compact Lib.compactUpTo
      refine List.mem_map.2 ⟨0,List.mem_filter.2 ⟨List.mem_range.2 hj,by simp [Lib.keeps]⟩,?_⟩
      simp [hj,hx]
    |succ n ih=>
      intro j hj e hx
      by_cases c:zs[n]'(by omega)=x
      · exact ih n (by omega) rfl c
      · unfold Lib.compact Lib.compactUpTo
        refine List.mem_map.2 ⟨j,List.mem_filter.2 ⟨List.mem_range.2 hj,?_⟩,?_⟩
        · subst e
          have h1:n<zs.length:=by omega
          simp only [Lib.keeps,decide_eq_true_eq]
          right
          simp only [List.getElem!_toArray,Nat.add_sub_cancel]
          rw [getElem!_pos zs (n+1) hj,getElem!_pos zs n h1,hx]
          exact fun e=>c e.symm
        · simp [hj,hx]
  exact main j j hj rfl hx
theorem aEh {zs:List (List UInt8)} (h:zs.Pairwise (fun a b=>leU a b=true)):(Lib.compact zs).Pairwise (fun a b=>Op.bytesLess a b=true):=by
  unfold Lib.compact Lib.compactUpTo
  rw [List.pairwise_map]
  have aQk: ∀i j,(hi:i≤j)→(hj:j<zs.length)→zs[i]'(by omega)≤zs[j]:=by
    intro i j hi hj
    rcases Nat.lt_or_ge i j with c|c
    · have:=List.pairwise_iff_getElem.1 h i j (by omega) hj c
      simpa [leU] using this
    · have e:i=j:=by omega
      subst e
      exact List.le_refl _
  refine List.Pairwise.imp_of_mem ?_ (List.Pairwise.filter _ List.pairwise_lt_range)
  intro i j hi hj hlt
  have hjl:j<zs.length:=List.mem_range.1 (List.mem_filter.1 hj).1
  have hk:=(List.mem_filter.1 hj).2
  simp only [Lib.keeps,decide_eq_true_eq] at hk
  rcases hk with hk|hk
  · omega
  · rw [bytesLess_eq,decide_eq_true_eq]
    simp only [List.getElem!_toArray] at hk⊢
    rw [getElem!_pos zs j hjl,getElem!_pos zs (j-1) (by omega)] at hk
    rw [getElem!_pos zs i (by omega),getElem!_pos zs j hjl]
    have a1:=aQk i (j-1) (by omega) (by omega)
    have a2:=aQk (j-1) j (by omega) hjl
    refine List.lt_of_le_of_lt a1 ?_
    rcases Classical.em (zs[j-1]<zs[j])with c|c
    · exact c
    · exact absurd (List.le_antisymm (List.not_lt.1 c) a2) hk
theorem aAM (x:ByteArray):(⟨x.data.toList.toArray⟩:ByteArray)=x:=by cases x;simp
theorem aLd (l:List ByteArray):Lib.compact ((l.map (·.data.toList)).mergeSort leU)=(J3 l).map (·.data.toList):=by
  have tr: ∀a b c:List UInt8,leU a b=true→leU b c=true→leU a c=true:=fun a b c h1 h2=>by simp only [leU,decide_eq_true_eq] at*;exact List.le_trans h1 h2
  have tot: ∀a b:List UInt8,(leU a b||leU b a)=true:=fun a b=>by simp only [leU,Bool.or_eq_true,decide_eq_true_eq];exact List.le_total a b
  have hs:=List.pairwise_mergeSort tr tot (l.map (·.data.toList))
  have hp:=List.mergeSort_perm (l.map (·.data.toList)) leU
  generalize (l.map (·.data.toList)).mergeSort leU=zs at hs hp
  have e:(Lib.compact zs).map (fun b=>(⟨b.toArray⟩:ByteArray))=J3 l:=by
    refine VV ?_ (Y2 l) (fun x=>?_)
    · unfold VN
      rw [List.pairwise_map]
      refine(aEh hs).imp (fun {a b} h=>?_)
      unfold UO
      rw [show(⟨a.toArray⟩:ByteArray).toList=a from by simp [Go.ByteArray.toList_eq],show(⟨b.toArray⟩:ByteArray).toList=b from by simp [Go.ByteArray.toList_eq]]
      exact h
    · rw [Y3,List.mem_map]
      constructor
      · rintro⟨b,hb,rfl⟩
        obtain⟨y,hy,e⟩:=List.mem_map.1 (hp.mem_iff.1 (X5 hb))
        rw [←e,aAM]
        exact hy
      · intro hx
        exact⟨x.data.toList,X6 (hp.mem_iff.2 (List.mem_map_of_mem hx)),aAM x⟩
  rw [←e,List.map_map]
  conv=>lhs;rw [←List.map_id (Lib.compact zs)]
  refine List.map_congr_left (fun b _=>?_)
  simp
end Go.Proofs.YtpljfjbhlboffaaGreat.M

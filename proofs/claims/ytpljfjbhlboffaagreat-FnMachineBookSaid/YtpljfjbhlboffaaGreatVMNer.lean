import Derived.Test.YtpljfjbhlboffaaGreatVMSml
namespace Go.Proofs.YtpljfjbhlboffaaGreat.M
open Go.RowKit Go.Proofs.YtpljfjbhlboffaaGreatW.bJ Go.Proofs.YtpljfjbhlboffaaGreatW.gI Go.Proofs.YtpljfjbhlboffaaGreatW.jC
def YJ (s:ByteArray) (i:Nat) (c:Int):ByteArray:=(s.extract 0 i++strOfNums [c%256])++s.extract i s.size
def aAl (s:ByteArray) (i:Nat) (c:Int):ByteArray:=(s.extract 0 i++strOfNums [c%256])++s.extract (i+1) s.size
def aKB (s:ByteArray) (i:Nat):ByteArray:=s.extract 0 i++s.extract (i+1) s.size
def aLh (s:ByteArray) (i:Nat):ByteArray:=((s.extract 0 i++s.extract (i+1) (i+2))++s.extract i (i+1))++s.extract (i+2) s.size
def D9 (s:ByteArray) (i:Nat) (c:Nat):List ByteArray:=if i<s.size then [YJ s i c,aAl s i c] else [YJ s i c]
def mF (s:ByteArray) (i:Nat) (c:Nat):List ByteArray:=(List.range' c (123-c)).flatMap (D9 s i)
def yO (s:ByteArray) (i:Nat):List ByteArray:=if i<s.size then [aKB s i] else []
def uL (s:ByteArray) (i:Nat):List ByteArray:=if i+1<s.size then [aLh s i] else []
def uU (s:ByteArray) (i:Nat):List ByteArray:=mF s i 97++(yO s i++uL s i)
def fK (s:ByteArray) (i:Nat):List ByteArray:=(List.range' i (s.size+1-i)).flatMap (uU s)
def rH (s:ByteArray):List ByteArray:=(fK s 0).foldl (vV s) []
theorem CB (s:ByteArray) (i:Nat) (h:i≤s.size):fK s i=uU s i++fK s (i+1):=by
  unfold fK
  rw [show s.size+1-i=(s.size+1-(i+1))+1 from by omega,List.range'_succ,List.flatMap_cons]
theorem MF (s:ByteArray) (i:Nat) (h:s.size<i):fK s i=[]:=by
  unfold fK
  rw [show s.size+1-i=0 from by omega]
  rfl
theorem CL (s:ByteArray) (i c:Nat) (h:c≤122):mF s i c=D9 s i c++mF s i (c+1):=by
  unfold mF
  rw [show 123-c=(123-(c+1))+1 from by omega,List.range'_succ,List.flatMap_cons]
theorem MM (s:ByteArray) (i c:Nat) (h:122<c):mF s i c=[]:=by
  unfold mF
  rw [show 123-c=0 from by omega]
  rfl
theorem UG {α β:Type} (f:α→List β) (n:Nat) (h: ∀a,(f a).length≤n) (l:List α):(l.flatMap f).length≤n*l.length:=by
  induction l with
  |nil=>simp
  |cons a l ih=>
    rw [List.flatMap_cons,List.length_append,List.length_cons,Nat.mul_add]
    have:=h a
    omega
theorem TH (s:ByteArray) (i c:Nat):(mF s i c).length≤246:=by
  have:=UG (D9 s i) 2 (fun a=>by unfold D9;split<;>simp) (List.range' c (123-c))
  rw [List.length_range'] at this
  unfold mF
  omega
theorem X0 (s:ByteArray) (i:Nat):(uU s i).length≤248:=by
  have h1:=TH s i 97
  have h2:(yO s i).length≤1:=by unfold yO;split<;>simp
  have h3:(uL s i).length≤1:=by unfold uL;split<;>simp
  unfold uU
  rw [List.length_append,List.length_append]
  omega
theorem FI (s:ByteArray) (i:Nat):(fK s i).length≤248*(s.size+1-i):=by
  have:=UG (uU s) 248 (X0 s) (List.range' i (s.size+1-i))
  rw [List.length_range'] at this
  exact this
theorem aKU (s:ByteArray):VN (rH s):=aBU s _ (by simp [VN])
theorem FT (s x:ByteArray):x∈rH s↔x∈fK s 0∧x≠s∧gD x=true:=by
  unfold rH
  rw [aBV]
  simp
theorem aC5 (s:ByteArray):(rH s).length≤248*(s.size+1):=by
  have h1:=IB s (fK s 0) []
  have h2:=FI s 0
  unfold rH
  simp at h1
  omega
theorem aBe (c:Nat) (h:c<256):bytesOf (strOfNums [(c:Int)%256])=[(c:Int)]:=by
  have e:((c:Int)%256)=(c:Int):=by omega
  rw [e]
  simp [strOfNums,bytesOf]
  omega
theorem aQD (c:Int):(strOfNums [c]).size=1:=rfl
theorem YK (s:ByteArray) (i c:Nat) (h:c<256):bytesOf (YJ s i c)=(bytesOf s).take i++(c:Int)::(bytesOf s).drop i:=by
  unfold YJ
  rw [oQ,oQ,F9,qY,aBe c h]
  simp
theorem NA (s:ByteArray) (i c:Nat) (h:c<256):bytesOf (aAl s i c)=(bytesOf s).take i++(c:Int)::(bytesOf s).drop (i+1):=by
  unfold aAl
  rw [oQ,oQ,F9,qY,aBe c h]
  simp
theorem X7 (s:ByteArray) (i:Nat):bytesOf (aKB s i)=(bytesOf s).take i++(bytesOf s).drop (i+1):=by
  unfold aKB
  rw [oQ,F9,qY]
theorem Y9 (s:ByteArray) (i:Nat):bytesOf (aLh s i)=(bytesOf s).take i++(((bytesOf s).drop (i+1)).take 1++(((bytesOf s).drop i).take 1++(bytesOf s).drop (i+2))):=by
  unfold aLh
  rw [oQ,oQ,oQ,F9,qY,o6,o6]
  simp only [List.append_assoc,Nat.add_sub_cancel_left]
  rw [show i+2-(i+1)=1 from by omega]
theorem aGC {s:ByteArray} (h:gD s=true):rH s≠[]:=by
  have hw:=(BI _).1 h
  have h12:=jX h
  obtain⟨a,t,ht⟩: ∃a t,bytesOf s=a::t:=by
    cases e:bytesOf s with
    |nil=>rw [e] at hw;simp at hw
    |cons a t=>exact⟨a,t,rfl⟩
  have main: ∀c:Nat,97≤c→c≤122→(c:Int)≠a→aAl s 0 c∈rH s:=by
    intro c h1 h2 h3
    have hb:bytesOf (aAl s 0 c)=(c:Int)::t:=by
      rw [NA s 0 c (by omega),ht]
      rfl
    rw [FT]
    refine⟨?_,?_,(BI _).2 ?_⟩
    · rw [CB s 0 (by omega)]
      refine List.mem_append_left _ (List.mem_append_left _ ?_)
      refine List.mem_flatMap.2 ⟨c,?_,?_⟩
      · rw [List.mem_range'_1]
        omega
      · unfold D9
        rw [if_pos (by omega)]
        simp
    · intro e
      rw [e,ht] at hb
      exact h3 (List.cons.inj hb).1.symm
    · rw [hb]
      rw [ht] at hw
      refine⟨by simp,by simpa using hw.2.1,fun x hx=>?_⟩
      rcases List.mem_cons.1 hx with rfl|hx
      · omega
      · exact hw.2.2 x (List.mem_cons_of_mem _ hx)
  by_cases e:a=97
  · exact List.ne_nil_of_mem (main 98 (by omega) (by omega) (by omega))
  · exact List.ne_nil_of_mem (main 97 (by omega) (by omega) (by omega))
end Go.Proofs.YtpljfjbhlboffaaGreat.M

import Derived.Test.YtpljfjbhlboffaaGreatVMStr
namespace Go.Proofs.YtpljfjbhlboffaaGreat.M
open Go.RowKit Go.Proofs.YtpljfjbhlboffaaGreatW.bJ Go.Proofs.YtpljfjbhlboffaaGreatW.gI Go.Proofs.YtpljfjbhlboffaaGreatW.jC
theorem sJ (s t:ByteArray):s.toList=t.toList↔s=t:=by
  constructor
  · intro h
    rw [Go.ByteArray.toList_eq,Go.ByteArray.toList_eq] at h
    cases s
    cases t
    simpa using h
  · intro h
    rw [h]
theorem NC (s t:ByteArray):(s.toList==t.toList)=decide (s=t):=by
  by_cases h:s=t
  · simp [h]
  · rw [decide_eq_false h,beq_eq_false_iff_ne]
    exact fun e=>h ((sJ _ _).1 e)
def SL (s p:ByteArray):Bool:=decide (p.size≤s.size)&&decide (s.extract 0 p.size=p)
def TA (s p:ByteArray):Bool:=decide (p.size≤s.size)&&decide (s.extract (s.size-p.size) s.size=p)
theorem qY (s:ByteArray) (a:Nat):bytesOf (s.extract a s.size)=(bytesOf s).drop a:=by
  rw [o6,List.take_of_length_le]
  rw [List.length_drop,bR]
  exact Nat.le_refl _
theorem F9 (s:ByteArray) (b:Nat):bytesOf (s.extract 0 b)=(bytesOf s).take b:=by
  rw [o6]
  simp
theorem SN {s p:ByteArray} (h:SL s p=true):p.size≤s.size:=by
  simp only [SL,Bool.and_eq_true,decide_eq_true_eq] at h
  exact h.1
theorem TB {s p:ByteArray} (h:TA s p=true):p.size≤s.size:=by
  simp only [TA,Bool.and_eq_true,decide_eq_true_eq] at h
  exact h.1
def zH (g:ByteArray):Bool:=decide (g.size=1)&&(decide (65≤bt g 0)&&decide (bt g 0≤90))
def xP (s:ByteArray):Bool:=(bytesOf s).all low&&decide (s.size≤4)
def vR (g:ByteArray) (fr:Bool) (st ad wh:ByteArray):Bool:=
  zH g&&xP st&&xP ad&&xP wh&&(if fr=true then SL wh st else TA wh st)
def doB (fr:Bool) (st ad wh jV:ByteArray):Option ByteArray:=
  if fr=true then(if SL jV wh=true then some (ad++jV.extract st.size jV.size)else none)
  else(if TA jV wh=true then some (jV.extract 0 (jV.size-st.size)++ad)else none)
def aAi:Option ByteArray→ByteArray×Bool
  |some x=>(x,true)
  |none=>(⟨#[]⟩,false)
def aE0:Option ByteArray→ByteArray×Bool
  |some x=>(x,gD x)
  |none=>(⟨#[]⟩,false)
def I9 (g:ByteArray) (fr:Bool) (st ad wh jV:ByteArray):Option ByteArray:=
  if vR g fr st ad wh=true∧gD jV=true then(doB fr st ad wh jV).filter gD else none
theorem YZ {s:ByteArray} (h:xP s=true):s.size≤4:=by
  simp only [xP,Bool.and_eq_true,decide_eq_true_eq] at h
  exact h.2
theorem DT {g:ByteArray} {fr:Bool} {st ad wh:ByteArray} (h:vR g fr st ad wh=true):zH g=true∧xP st=true∧xP ad=true∧xP wh=true∧(if fr=true then SL wh st else TA wh st)=true:=by
  simp only [vR,Bool.and_eq_true] at h
  exact⟨h.1.1.1.1,h.1.1.1.2,h.1.1.2,h.1.2,h.2⟩
theorem Y7 {g:ByteArray} {fr:Bool} {st ad wh:ByteArray} (h:vR g fr st ad wh=true):st.size≤wh.size:=by
  have:=(DT h).2.2.2.2
  cases fr with
  |true=>exact SN this
  |false=>exact TB this
end Go.Proofs.YtpljfjbhlboffaaGreat.M

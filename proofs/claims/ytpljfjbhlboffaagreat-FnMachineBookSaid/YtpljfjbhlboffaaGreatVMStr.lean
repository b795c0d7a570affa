import Derived.Test.YtpljfjbhlboffaaGreatVMBas
namespace Go.Proofs.YtpljfjbhlboffaaGreat.M
open Go.RowKit Go.Proofs.YtpljfjbhlboffaaGreatW.bJ Go.Proofs.YtpljfjbhlboffaaGreatW.gI Go.Proofs.YtpljfjbhlboffaaGreatW.jC
theorem pK (s:ByteArray) (i:Int) (h0:0≤i) (h1:i<s.size):(bytesOf s).drop i.toNat=bt s i::(bytesOf s).drop (i+1).toNat:=by
  have hl:i.toNat<(bytesOf s).length:=by rw [bR];omega
  rw [List.drop_eq_getElem_cons hl,show(i+1).toNat=i.toNat+1 from by omega]
  congr 1
  rw [←GQ]
  simp [rd,List.getD_eq_getElem?_getD,List.getElem?_eq_getElem hl]
theorem bytes_inj {s t:ByteArray} (h:bytesOf s=bytesOf t):s=t:=by
  have e:s.data.toList=t.data.toList:=by
    refine List.map_inj_right (fun x y hxy=>?_)|>.1 h
    exact UInt8.toNat_inj.1 (by exact_mod_cast hxy)
  cases s
  cases t
  simpa using e
theorem oQ (s t:ByteArray):bytesOf (s++t)=bytesOf s++bytesOf t:=by
  simp [bytesOf,ByteArray.data_append]
theorem o6 (s:ByteArray) (a b:Nat):bytesOf (s.extract a b)=((bytesOf s).drop a).take (b-a):=by
  simp [bytesOf,ByteArray.data_extract,List.map_take,List.map_drop,Array.toList_extract]
theorem size_extract (s:ByteArray) (a b:Nat) (h:a≤b) (hb:b≤s.size):(s.extract a b).size=b-a:=by
  rw [←bR,o6,List.length_take,List.length_drop,bR]
  omega
theorem size_append (s t:ByteArray):(s++t).size=s.size+t.size:=by
  rw [←bR,oQ,List.length_append,bR,bR]
def low (c:Int):Bool:=decide (97≤c)&&decide (c≤122)
def aFm (l:List Int):Bool:=decide (0<l.length)&&decide (l.length≤12)&&l.all low
def gD (s:ByteArray):Bool:=aFm (bytesOf s)
theorem aC3 (c:Int):low c=true↔97≤c∧c≤122:=by simp [low]
theorem BI (l:List Int):aFm l=true↔0<l.length∧l.length≤12∧ ∀c∈l,97≤c∧c≤122:=by
  simp [aFm,List.all_eq_true,aC3,and_assoc]
theorem jX {s:ByteArray} (h:gD s=true):0<s.size∧s.size≤12:=by
  have:=(BI _).1 h
  rw [bR] at this
  omega
theorem RS {s:ByteArray} (h: ¬(0<s.size∧s.size≤12)):gD s=false:=by
  cases e:gD s
  · rfl
  · exact absurd (jX e) h
end Go.Proofs.YtpljfjbhlboffaaGreat.M

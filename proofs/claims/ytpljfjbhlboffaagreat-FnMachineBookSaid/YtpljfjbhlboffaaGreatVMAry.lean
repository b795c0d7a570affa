import Derived.Test.YtpljfjbhlboffaaGreatVMBas
namespace Go.Proofs.YtpljfjbhlboffaaGreat.M
open Go.RowKit Go.Proofs.YtpljfjbhlboffaaGreatW.bJ Go.Proofs.YtpljfjbhlboffaaGreatW.gI Go.Proofs.YtpljfjbhlboffaaGreatW.jC
theorem u6 (xs:List Int) (i v:Int) (h0:0≤i) (h:i<xs.length):rd (xs.set i.toNat v) i=v:=by
  have hl:i.toNat<xs.length:=by omega
  simp [rd,List.getD_eq_getElem?_getD,hl]
theorem rJ (xs:List Int) (i j v:Int) (h0:0≤i) (h1:0≤j) (h:i≠j):rd (xs.set i.toNat v) j=rd xs j:=by
  have hn:i.toNat≠j.toNat:=by omega
  simp [rd,List.getD_eq_getElem?_getD,List.getElem?_set_ne hn]
theorem GR (n:Nat) (v i:Int) (h0:0≤i) (h:i<n):rd (List.replicate n v) i=v:=by
  have hl:i.toNat<n:=by omega
  simp [rd,List.getD_eq_getElem?_getD,hl]
end Go.Proofs.YtpljfjbhlboffaaGreat.M

import Derived.Test.YtpljfjbhlboffaaGreatVN
namespace Go.Proofs.YtpljfjbhlboffaaGreatW.bJ
open Go.RowKit
namespace Kd
section
variable {α:Type} {d:Kd α} {W:World} {g n:Nat} {S ok:Nat→Prop} {A:Option Addr} {ad:Addr} {xs:List α}
theorem bFe (h:F d W ok A n xs) {ad:Addr} (hA:A=some ad) (hn:0<n) (hs:0<d.sz):ok ad.block:=by
  subst hA
  have hl:=a3K h
  cases xs with
  |nil=>simp at hl;omega
  |cons x r=>
    obtain⟨ad',c,he,_,_,_,hin⟩:=a3J h x 0 (by omega) (by omega)
    injection he with he
    subst he
    exact hin hs
end
end Kd
end Go.Proofs.YtpljfjbhlboffaaGreatW.bJ

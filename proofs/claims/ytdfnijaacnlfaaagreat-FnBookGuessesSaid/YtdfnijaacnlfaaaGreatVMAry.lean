import Derived.Test.YtdfnijaacnlfaaaGreatVMBas
namespace Go.Proofs.YtdfnijaacnlfaaaGreat.M
open Go.RowKit Go.Proofs.YtdfnijaacnlfaaaGreatW.PrintWords Go.Proofs.YtdfnijaacnlfaaaGreatW.PrintLast Go.Proofs.YtdfnijaacnlfaaaGreatW.PrintMore

theorem rd_set_eq (xs : List Int) (i v : Int) (h0 : 0 ≤ i) (h : i < xs.length) : rd (xs.set i.toNat v) i = v := by
  have hl : i.toNat < xs.length := by omega
  simp [rd, List.getD_eq_getElem?_getD, hl]
theorem rd_set_ne (xs : List Int) (i j v : Int) (h0 : 0 ≤ i) (h1 : 0 ≤ j) (h : i ≠ j) : rd (xs.set i.toNat v) j = rd xs j := by
  have hn : i.toNat ≠ j.toNat := by omega
  simp [rd, List.getD_eq_getElem?_getD, List.getElem?_set_ne hn]
end Go.Proofs.YtdfnijaacnlfaaaGreat.M

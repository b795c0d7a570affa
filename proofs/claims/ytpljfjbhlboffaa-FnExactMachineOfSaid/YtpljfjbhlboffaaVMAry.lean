import Derived.Test.YtpljfjbhlboffaaVMBas
namespace Go.Proofs.Ytpljfjbhlboffaa.M
open Go.RowKit Go.Proofs.YtpljfjbhlboffaaW.PrintWords Go.Proofs.YtpljfjbhlboffaaW.PrintLast Go.Proofs.YtpljfjbhlboffaaW.PrintMore

theorem rd_set_eq (xs : List Int) (i v : Int) (h0 : 0 ≤ i) (h : i < xs.length) : rd (xs.set i.toNat v) i = v := by
  have hl : i.toNat < xs.length := by omega
  simp [rd, List.getD_eq_getElem?_getD, hl]
theorem rd_set_ne (xs : List Int) (i j v : Int) (h0 : 0 ≤ i) (h1 : 0 ≤ j) (h : i ≠ j) : rd (xs.set i.toNat v) j = rd xs j := by
  have hn : i.toNat ≠ j.toNat := by omega
  simp [rd, List.getD_eq_getElem?_getD, List.getElem?_set_ne hn]
theorem rd_replicate (n : Nat) (v i : Int) (h0 : 0 ≤ i) (h : i < n) : rd (List.replicate n v) i = v := by
  have hl : i.toNat < n := by omega
  simp [rd, List.getD_eq_getElem?_getD, hl]
theorem set_set_same (xs : List Int) (i : Nat) (a b : Int) : (xs.set i a).set i b = xs.set i b := by
  simp
theorem getD_get {α : Type} (xs : List α) (z : α) (i : Int) (_ : 0 ≤ i) (h : i.toNat < xs.length) : xs.getD i.toNat z = xs[i.toNat] := by
  simp [List.getD_eq_getElem?_getD, List.getElem?_eq_getElem h]
end Go.Proofs.Ytpljfjbhlboffaa.M

import Derived.Test.YtfpmfaelodfecaaVMSml
import Derived.Lib.SlicesCompact
import Derived.Sort.Walk0
namespace Go.Proofs.Ytfpmfaelodfecaa.M
open Go.RowKit Go.Proofs.YtfpmfaelodfecaaW.PrintWords Go.Proofs.YtfpmfaelodfecaaW.PrintLast Go.Proofs.YtfpmfaelodfecaaW.PrintMore

theorem foldPut_mem (c : List ByteArray) : ∀ (l : List ByteArray) (y : ByteArray), y ∈ c.foldl putL l ↔ y ∈ l ∨ y ∈ c := by
  induction c with
  | nil => intro l y; simp
  | cons x c ih => intro l y; rw [List.foldl_cons, ih, putL_mem, List.mem_cons, or_assoc]
theorem foldPut_asc (c : List ByteArray) : ∀ {l : List ByteArray}, Asc l → Asc (c.foldl putL l) := by
  induction c with
  | nil => intro l h; exact h
  | cons x c ih => intro l h; exact ih (putL_asc h x)
theorem foldPut_length (c : List ByteArray) : ∀ l : List ByteArray, (c.foldl putL l).length ≤ l.length + c.length := by
  induction c with
  | nil => intro l; simp
  | cons x c ih =>
    intro l
    have h1 := ih (putL l x)
    have h2 := (putL_length l x).2
    rw [List.foldl_cons, List.length_cons]
    omega
abbrev leU : List UInt8 → List UInt8 → Bool := fun x y => decide (x ≤ y)
end Go.Proofs.Ytfpmfaelodfecaa.M

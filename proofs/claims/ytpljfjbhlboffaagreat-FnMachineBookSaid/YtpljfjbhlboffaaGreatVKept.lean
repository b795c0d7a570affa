import Derived.Test.YtpljfjbhlboffaaGreatVFoot
namespace Go.Proofs.YtpljfjbhlboffaaGreatW.bJ
open Go.RowKit
def Kept (w W:World) (S:Nat→Prop):Prop:=w.heap.size≤W.heap.size∧ ∀i,i<w.heap.size→ ¬S i→W.heap[i]?=w.heap[i]?
section
variable {w W W2:World} {S S2 S' :Nat→Prop}
theorem Kept.YY (h:Below w.heap.size w W) (S:Nat→Prop):Kept w W S:=⟨h.size,fun i hi _=>h.block i hi⟩
theorem Kept.bCq (h:Kept w W S) (k:Kept W W2 S2) (hs: ∀k,S2 k→S k∨w.heap.size≤k):Kept w W2 S:=
  ⟨Nat.le_trans h.1 k.1,fun i hi hn=>(k.2 i (Nat.lt_of_lt_of_le hi h.1) (fun h2=>(hs i h2).elim hn (fun h3=>by omega))).trans (h.2 i hi hn)⟩
theorem Kept.below (h:Kept w W S) (hb:Below W.heap.size W W2):Kept w W2 S:=h.bCq (Kept.YY hb (fun _=>False)) (fun _ hk=>hk.elim)
theorem Kept.alloc (h:Kept w W S) (o:Obj):Kept w (W.alloc o) S:=h.below (eZ (Below.refl _ _) o)
theorem Kept.drew (h:Kept w W S):Kept w W.drew S:=h
theorem aM4 {g:Nat} {o:Obj} (hb:W.heap[g]?=some o) (hk:Kept W W2 S) (hne: ¬S g):W2.heap[g]?=some o:=(hk.2 g (jW hb) hne).trans hb
end
namespace Kd
end Kd
end Go.Proofs.YtpljfjbhlboffaaGreatW.bJ

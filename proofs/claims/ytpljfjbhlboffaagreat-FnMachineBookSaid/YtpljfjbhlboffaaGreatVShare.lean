import Derived.Test.YtpljfjbhlboffaaGreatVKept
namespace Go.Proofs.YtpljfjbhlboffaaGreatW.bJ
open Go.RowKit
def BL (P:World→Prop) (W:World) (ok:Nat→Prop):Prop:= ∀W' :World,(∀k,ok k→k<W.heap.size→W'.heap[k]?=W.heap[k]?)→P W'
theorem aTa {W W1:World} {k:Nat} (h:W1.heap[k]?=W.heap[k]?) (hlt:k<W.heap.size):k<W1.heap.size:=by
  rw [Array.getElem?_eq_getElem hlt] at h
  exact(Array.getElem?_eq_some_iff.1 h).1
namespace BL
variable {P Q:World→Prop} {W W1:World} {ok ok' :Nat→Prop}
theorem now (h:BL P W ok):P W:=h W (fun _ _ _=>rfl)
theorem mono (h:BL P W ok) (hok: ∀k,ok k→ok' k):BL P W ok' :=fun W' hW=>h W' (fun k hk hlt=>hW k (hok k hk) hlt)
theorem bound (h:BL P W ok):BL P W (fun k=>ok k∧k<W.heap.size):=fun W' hW=>h W' (fun k hk hlt=>hW k ⟨hk,hlt⟩ hlt)
theorem step (h:BL P W ok) (hm: ∀k,ok k→k<W.heap.size→W1.heap[k]?=W.heap[k]?):BL P W1 ok:=fun W' hW=>h W' (fun k hk hlt=>(hW k hk (aTa (hm k hk hlt) hlt)).trans (hm k hk hlt))
theorem imp (h:BL P W ok) (hi: ∀W',P W' →Q W'):BL Q W ok:=fun W' hW=>hi W' (h W' hW)
theorem old (h:BL P W ok) (hb:Below W.heap.size W W1):BL P W1 (fun k=>ok k∧k<W.heap.size):=(h.bound).step (fun k _ hlt=>hb.block k hlt)
end BL
namespace Kd
def F {α:Type} (d:Kd α) (W:World) (ok:Nat→Prop) (A:Option Addr) (n:Nat) (xs:List α):Prop:=BL (fun W=>d.C W A n xs) W ok
def FK {α:Type} (d:Kd α) (W:World) (ok:Nat→Prop) (x:α) (c:List Value):Prop:=BL (fun W=>d.K W x c) W ok
section
variable {α β:Type} {d:Kd α} {e base n n' cc g N:Nat} {ok ok' mK S:Nat→Prop} {w w0 w1 W W1:World} {A A' :Option Addr} {u v v1:Value} {xs:List α} {xs' :List β} {d' :Kd β} {x:α} {c:List Value}
theorem aLE (h:F d W ok A n xs):d.C W A n xs:=BL.now h
theorem aFr (h:F d W ok A n xs) (hok: ∀k,ok k→ok' k):F d W ok' A n xs:=BL.mono h hok
theorem aRN (h:F d W ok A n xs):F d W (fun k=>ok k∧k<W.heap.size) A n xs:=BL.bound h
theorem aFs (h:F d W ok A n xs) (hm: ∀k,ok k→k<W.heap.size→W1.heap[k]?=W.heap[k]?):F d W1 ok A n xs:=BL.step h hm
theorem aVQ (h:F d W ok A n xs) (hi: ∀W',d.C W' A n xs→d'.C W' A' n' xs'):F d' W ok A' n' xs' :=BL.imp h hi
theorem aBl (h:F d W ok A n xs) (hb:Below W.heap.size W W1):F d W1 ok A n xs:=aFs h (fun k _ hlt=>hb.block k hlt)
theorem aYG (h:F d W ok A n xs):F d W.drew ok A n xs:=aBl h (wB (Below.refl _ _))
theorem aRO (h:F d W ok A n xs) (m:Nat):F d (W.drewN m) ok A n xs:=aBl h (cB (Below.refl _ _) m)
theorem a3I (h:F d W ok A n xs) {p:Addr} (hok: ∀k,ok k→k≠p.block) (u:Value):F d (W.setCell p u) ok A n xs:=aFs h (fun k hk _=>Below.heap_setCell W p u k (hok k hk))
theorem aYH (h:F d W ok A n xs) (hk:aZ W W1 g none) (hok: ∀k,ok k→k≠g):F d W1 ok A n xs:=aFs h (fun k ho hlt=>hk.2 k hlt (hok k ho) (by simp))
theorem a3K (h:F d W ok A n xs):xs.length=n:=(aLE h).1
theorem aLD (h:F d W ok A n xs) (hbase: ∀k,v.ownBlock=some k→W.heap.size≤k) (hb:Below W.heap.size W W1):F d W1 (fun k=>ok k∧some k≠v.ownBlock) A n xs:=
  aFr (BL.old h hb) (fun k hk=>⟨hk.1,fun he=>by have:=hbase k he.symm;have:=hk.2;omega⟩)
theorem aRM (h:F d W (fun k=>ok k∧some k≠v.ownBlock) A n xs) (hg:W.grownBy W1 v.ownBlock) (hat:v1.ownBlock=v.ownBlock∨ ∃b,v1.ownBlock=some b∧W.heap.size≤b):F d W1 (fun k=>ok k∧some k≠v1.ownBlock) A n xs:=by
  refine aFr (BL.step (aRN h) (fun k hk hlt=>hg.block k hlt hk.1.2)) (fun k hk=>⟨hk.1.1,?_⟩)
  rcases hat with hat|⟨b,hb,hle⟩
  · rw [hat];exact hk.1.2
  · rw [hb]
    intro he
    injection he with he
    have:=hk.2
    omega
theorem R_F (h:d.R e W base ok (.slice A n cc) xs):F d W ok A n xs:=fun W' hW=>by
  have h2:=aM (I7 h hW)
  rw [h2.1]
  exact h2.2.2
theorem aYF (h:FK d W ok x c):d.K W x c:=BL.now h
theorem aSI (W:World) (g:Nat): ∃W' :World,(∀k,k≠g→W'.heap[k]?=W.heap[k]?)∧ ∀a:Addr,a.block=g→W'.cell? a=none:=by
  refine⟨{W with heap:=W.heap.setIfInBounds g (.cells #[] 0)},fun k hk=>by simp [Ne.symm hk],fun a ha=>?_⟩
  subst ha
  by_cases hlt:a.block<W.heap.size
  · simp [World.cell?,hlt]
  · simp [World.cell?,hlt]
end
end Kd
end Go.Proofs.YtpljfjbhlboffaaGreatW.bJ

import Derived.Test.YtpljfjbhlboffaaGreatVWords
import Derived.Test.YtpljfjbhlboffaaGreatVMore
import Derived.Laws.BitsAllLaws
namespace Go.Proofs.YtpljfjbhlboffaaGreat.M
open Go.RowKit Go.Proofs.YtpljfjbhlboffaaGreatW.bJ Go.Proofs.YtpljfjbhlboffaaGreatW.gI Go.Proofs.YtpljfjbhlboffaaGreatW.jC
theorem aU {α:Type} {c:Prop} [Decidable c] {a b:Nat→Option α} {r:α} (h:c) (k:Ev a r):Ev (fun n=>if c then a n else b n) r:=
  Ev.congr (fun _=>if_pos h) k
theorem bG {α:Type} {c:Prop} [Decidable c] {a b:Nat→Option α} {r:α} (h: ¬c) (k:Ev b r):Ev (fun n=>if c then a n else b n) r:=
  Ev.congr (fun _=>if_neg h) k
theorem eP {α:Type} {c:Prop} [Decidable c] {a b:Nat→Option α} {r:α} (k:Ev a r) (h:c:=by omega):Ev (fun n=>if c then a n else b n) r:=aU h k
theorem eN {α:Type} {c:Prop} [Decidable c] {a b:Nat→Option α} {r:α} (k:Ev b r) (h: ¬c:=by omega):Ev (fun n=>if c then a n else b n) r:=bG h k
theorem w6 {n:Int} (h0: -9223372036854775808≤n:=by omega) (h1:n≤9223372036854775807:=by omega):wrap64 n=n:=by
  unfold wrap64
  omega
theorem gF {α β:Type} {g:Option α} {f:Nat→α→Option β} {a:α} {r:β} (h:g=some a) (k:Ev (fun n=>f n a) r):Ev (fun n=>g.bind (f n)) r:=
  Ev.congr (fun _=>by rw [h,Option.bind_some]) k
theorem bH2 {α:Type} {g:Option α} {r:α} (h:g=some r):Ev (fun _=>g) r:=⟨0,fun _ _=>h⟩
theorem fH {α:Type} {g:Nat→Option α} {r q:α} (k:Ev g q) (h:q=r):Ev g r:=h▸k
theorem w64 {n:Int} (h0: -9223372036854775808≤n) (h1:n≤9223372036854775807):wrap64 n=n:=by
  unfold wrap64
  omega
theorem bt0 (s:ByteArray) (i:Int):0≤bt s i:=(aD2 s i).1
theorem bt1 (s:ByteArray) (i:Int):bt s i≤255:=(aD2 s i).2
theorem aLt (a b:Int) (h0:0≤a) (h1:a<4611686018427387904) (h2:0≤b) (h3:b<4611686018427387904):0≤Go.bits .xor .i64 a b:=by
  obtain⟨a,rfl⟩:=Int.eq_ofNat_of_zero_le h0
  obtain⟨b,rfl⟩:=Int.eq_ofNat_of_zero_le h2
  have ha:a<2^62:=by omega
  have hb:b<2^62:=by omega
  have hx:a^^^b<2^62:=Nat.xor_lt_two_pow ha hb
  have e:bits .xor .i64 (a:Int) (b:Int)=((a^^^b:Nat):Int):=by
    have ha' :a%2^IntKind.i64.bits=a:=Nat.mod_eq_of_lt (by simp only [IntKind.bits];omega)
    have hb' :b%2^IntKind.i64.bits=b:=Nat.mod_eq_of_lt (by simp only [IntKind.bits];omega)
    simp only [bits,BitVec.ofInt_natCast,BitVec.toNat_xor,BitVec.toNat_ofNat,ha',hb']
    rw [IntKind.wrap_i64]
    omega
  rw [e]
  omega
end Go.Proofs.YtpljfjbhlboffaaGreat.M

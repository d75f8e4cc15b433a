import Derived.Test.YtkdpmdfcdgphlaaGreatM37
set_option linter.all false
namespace Go.Po
open Go.Mem Go.Proofs.YtkdpmdfcdgphlaaGreat
def t3:Int:=12884901895
def pq:Put:=⟨⟨#[113]⟩,⟨#[98]⟩⟩
def bp:Nat->Br
 | 0=>a0
 | k+1=>Qer (bp k) t3 pq
def bY(k:Nat):Br:=Gx (bp k) t3 (min k 10:Nat)
def bN(k:Nat):Br:=Qq1 (bp k) t3
theorem Qy8:∀k,k<12->((Ga (bp k).s (bp k).G t3 pq==0)=decide (k<10)):=by decide +kernel
theorem Qz8:∀k,k<13->(Qt (λx:Branch=>x.tid) t3 (bp k).s.waits=false/\(Qt (λx:Fin=>x.tid) t3 (bp k).s.ends||!Zw t3||(home t3==(bp k).s.broker))=false/\nG t3 (bp k).G=(min k 10:Nat)/\Pm (bp k).s t3=0):=by decide +kernel
theorem Qy9:∀k,k<13->0<k->((Ku (bp k).l (bp k).s (bp k).G t3 (min k 10:Nat)).1=(true,0)/\nG t3 (bY k).G=0/\(bY k).s.waits.map (λb=>b.puts.length)=[min k 10]/\(Ku (bY k).l (bY k).s (bY k).G t3 (min k 10:Nat)).1=(true,0)/\Ga (Gx (bY k) t3 (min k 10:Nat)).s (Gx (bY k) t3 (min k 10:Nat)).G t3 ⟨⟨#[113]⟩,⟨#[]⟩⟩=9):=by decide +kernel
theorem Qwc:∀k,k<13->(nG t3 (bN k).G=0/\Qt (λx:Branch=>x.tid) t3 (bN k).s.waits=false/\(Qt (λx:Fin=>x.tid) t3 (bN k).s.ends||!Zw t3||(home t3==(bN k).s.broker))=true/\Kz (λx:Fin=>x.tid==t3) (bN k).s.ends=0/\(bN k).s.ends.map (λx=>x.yes)=[false]):=by decide +kernel
theorem Qx1{k:Nat}(d:k<13){n:Int}(i:¬(0<k/\n=(min k 10:Nat))):(Ku (bp k).l (bp k).s (bp k).G t3 n).1=(false,0)/\Gx (bp k) t3 n=bN k/\(Ku (bN k).l (bN k).s (bN k).G t3 n).1=(false,0):=by
 obtain⟨a,b,g,h⟩:=Qz8 k d;obtain⟨-,e,f,-⟩:=Qwc k d;have c:(nG t3 (bp k).G==0||nG t3 (bp k).G !=n)=true:=by
  rw[g,Bool.or_eq_true,beq_iff_eq,bne_iff_ne];omega
 refine⟨?_,?_,?_⟩
 ·rw[Ku,if_neg (by rw[a];simp),if_neg (by rw[b];simp),if_pos c,h]
 ·rw[Gx,Ku,if_neg (by rw[a];simp),if_neg (by rw[b];simp),if_pos c];rfl
 ·rw[Ku,if_neg (by rw[e];simp),if_pos f]
end Go.Po

/- Part of this claim's proof. Conditions: as its theorems say. -/
import Derived.Test.YtkdpmdfcdgphlaaGreatWVotesT
import Derived.Test.YtkdpmdfcdgphlaaGreatWCtickY
set_option linter.all false
namespace Go.Po
open Go.Mem Go.Proofs.YtkdpmdfcdgphlaaGreat
def leftT(q S:Nat):List Int:=((List.range q).filter λi=>!S.testBit i).map fun (i:Nat)=>2+(i:Int)
def tS(q S:Nat):St:=⟨(vE q 1 false).s.broker,(vE q 1 false).s.nextId,(vE q 1 false).s.nextSeq,(vE q 1 false).s.tx,[],[],(vE q 1 false).s.ends,[],if leftT q S=[] then [] else [⟨u17,leftT q S⟩]⟩
def tB(l:List St)(q S:Nat):Br:=⟨l,tS q S,[],[]⟩
theorem t_first:∀q,q<7->0<q->(eqSt (Bw (vB q 1 0) 2 u17 false).2.s (tS q 0)=true/\(Bw (vB q 1 0) 2 u17 false).2.G.length=0/\(Bw (vB q 1 0) 2 u17 false).2.K.length=0/\eqBr (vC q 1) (vB q 1 0)=true):=by decide +kernel
theorem t_told:∀q,q<7->0<q->∀S,S<2 ^ q->∀f:Nat,f<9->eqSt (Qcy (tB [] q S) f u17).2.s (tS q (if 2<=f/\f<2+q then S ||| 2 ^ (f-2) else S))=true:=by decide +kernel
theorem t_tick:∀q,q<7->0<q->∀S,S<2 ^ q->((tick0 (tB [] q S)).map (λp=>[p.kind,if p.yes=true then 1 else 0,p.to])==(leftT q S).map λx=>[3,0,x])=true:=by decide +kernel
theorem t_word:∀q,q<7->0<q->∀S,S<2 ^ q->(Qcz (tB [] q S) u17=4/\(tS q S).noes.length=if (leftT q S).length=0 then 0 else 1):=by decide +kernel
theorem t_left:∀q,q<7->0<q->∀S,S<2 ^ q->∀j,j<q->((leftT q (S ||| 2 ^ j)).length+(if S.testBit j=true then 0 else 1)=(leftT q S).length/\(leftT q S).length<=6):=by decide +kernel
theorem told_l(b:Br)(f t:Int):∃a,(Qcy b f t).2=⟨a,(Qcy ⟨[],b.s,b.G,b.K⟩ f t).2.s,b.G,b.K⟩:=by
 unfold Qcy;show ∃a,(if Qte b f t=true then _ else _:Int×Br).2=⟨a,(if Qte b f t=true then _ else _:Int×Br).2.s,b.G,b.K⟩;split
 ·split
  ·exact⟨_,rfl⟩
  ·exact⟨_,rfl⟩
 ·exact⟨_,rfl⟩
theorem tick_l(l:List St)(q S:Nat):tickX (tB l q S)=((tick0 (tB [] q S),0),tB l q S):=rfl
end Go.Po

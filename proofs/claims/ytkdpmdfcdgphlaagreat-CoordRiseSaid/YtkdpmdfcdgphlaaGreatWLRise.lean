/- Part of this claim's proof. Conditions: as its theorems say. -/
import Derived.Test.YtkdpmdfcdgphlaaGreatWLPrep
import Derived.Test.YtkdpmdfcdgphlaaGreatWRiseS
set_option linter.all false
namespace Go.Po
open Go.Mem Go.Proofs.YtkdpmdfcdgphlaaGreat
def rT(i:Int)(k:Nat):Int:=mk i ((k:Int)+1)
def rI(i:Int):Br:=⟨[Z8 i],Z8 i,[],[]⟩
def ra(b:Br):Br:=(Cr b).2
def rb(i:Int)(k:Nat)(b:Br):Br:=Qer (ra b) (rT i k) pq
def rc(i o:Int)(k:Nat)(b:Br):Br:=(Uz (rb i k b) (rT i k) [⟨o,1⟩]).2
def rd(i o:Int)(k:Nat)(b:Br):Br:=(Bw (rc i o k b) o (rT i k) true).2
def rN(i o:Int)(k:Nat)(b:Br)(a:Bool):Br:=if a=true then rc i o k b else rd i o k b
def rOk(i o:Int)(k:Nat)(b:Br):Bool:=(Cr b).1==(rT i k,0)&&Ga (ra b).s (ra b).G (rT i k) pq==0&&(Uz (rb i k b) (rT i k) [⟨o,1⟩]).1.2==11
def rF(x:St):Br:=⟨[Bg x],Bg x,[],[]⟩
def rG(x:St):Br:=(riseX (rF x)).2
def rWd(i:Int)(b:Br):Nat->List Bool->Bool
 | _,[]=>true
 | k,a::A=>(Qcz b (rT i k)==if a=true then 4 else 3)&&rWd i b (k+1) A
def rFin(i:Int)(b:Br)(A:List Bool):Bool:=b.s.broker==i&&b.l.all λx=>(J5 x).length==0&&(Bg x).tx==(A.length:Int)&&(Bg x).broker==i&&(riseX (rF x)).1==0&&rWd i (rG x) 0 A&&(rG x).s.noes.length==A.count true&&(rG x).s.opens.length==0&&(rG x).s.ms.length==A.count false
def rChk(i o:Int):Nat->Nat->Br->List Bool->Bool
 | 0,_,b,A=>rFin i b A
 | f+1,k,b,A=>rFin i b A&&rOk i o k b&&rChk i o f (k+1) (rN i o k b true) (A++[true])&&rChk i o f (k+1) (rN i o k b false) (A++[false])
def rS(i o:Int)(F:Nat->Bool):Nat->Br
 | 0=>rI i
 | k+1=>rN i o k (rS i o F k) (F k)
def rAs(F:Nat->Bool)(m:Nat):List Bool:=(List.range m).map F
theorem rAs_succ(F:Nat->Bool)(m:Nat):rAs F (m+1)=rAs F m++[F m]:=by simp[rAs,List.range_succ]
theorem rChk_all{i o:Int}{F:Nat->Bool}:∀f k,rChk i o f k (rS i o F k) (rAs F k)=true->∀m,k<=m->m<=k+f->rFin i (rS i o F m) (rAs F m)=true/\(m<k+f->rOk i o m (rS i o F m)=true)
 | 0,k,h,m,h1,h2=>by
  obtain rfl:m=k:=by omega
  exact⟨h,λh=>by omega⟩
 | f+1,k,h,m,h1,h2=>by
  simp only[rChk,Bool.and_eq_true]at h;obtain⟨⟨⟨h3,h4⟩,h5⟩,h6⟩:=h;rcases Nat.lt_or_ge k m with hk|hk
  ·have hn:rChk i o f (k+1) (rS i o F (k+1)) (rAs F (k+1))=true:=by
    rw[rAs_succ];show rChk i o f (k+1) (rN i o k (rS i o F k) (F k)) _=true;rcases F k with _|_
    ·exact h6
    ·exact h5
   obtain⟨g1,g2⟩:=rChk_all f (k+1) hn m hk (by omega);exact⟨g1,λh=>g2 (by omega)⟩
  ·obtain rfl:m=k:=by omega
   exact⟨h3,λ_=>h4⟩
theorem rWd_get{i:Int}{b:Br}:∀{A:List Bool} {k:Nat},rWd i b k A=true->∀{j:Nat} {a:Bool},A[j]?=some a->Qcz b (rT i (k+j))=if a=true then 4 else 3
 | [],_,_,j,a,h=>by simp at h
 | x::A,k,h,j,a,hj=>by
  simp only[rWd,Bool.and_eq_true,beq_iff_eq]at h;rcases j with _|j
  ·simp only[List.getElem?_cons_zero,Option.some.injEq]at hj
   rw[<-hj];exact h.1
  ·have:=rWd_get h.2 (j:=j) (a:=a) (by simpa using hj)
   rw[show k+(j+1)=k+1+j by omega];exact this
theorem r_count(A:List Bool):A.count true+A.count false=A.length:=by
 induction A with
 | nil=>rfl
 | cons a A ih=>rcases a with _|_<;>simp<;>omega
end Go.Po

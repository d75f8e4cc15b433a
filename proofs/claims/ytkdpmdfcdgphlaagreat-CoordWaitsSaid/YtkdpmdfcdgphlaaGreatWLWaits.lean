/- Part of this claim's proof. Conditions: as its theorems say. -/
import Derived.Test.YtkdpmdfcdgphlaaGreatWVotesW
import Derived.Test.YtkdpmdfcdgphlaaGreatWCtickX
set_option linter.all false
namespace Go.Po
open Go.Mem Go.Proofs.YtkdpmdfcdgphlaaGreat
def wV(q:Nat):Nat->Br
 | 0=>vC q 3
 | v+1=>(Bw (wV q v) (2+(v:Int)) u17 true).2
def wT(q v:Nat):Nat->Br
 | 0=>wV q v
 | i+1=>(tickX (wT q v i)).2
def wP(q v i:Nat):List (List Int):=if 2<=i then (List.range q).map fun (j:Nat)=>[3,u17,0,0,2+(j:Int)] else (List.range (q-v)).map fun (j:Nat)=>[1,u17,3,0,2+(v:Int)+(j:Int)]
def wKey(p:Ye):List Int:=[p.kind,p.tid,p.n,if p.yes=true then 1 else 0,p.to]
theorem w_tick:∀q,q<7->2<=q->∀v,v<q->∀i,i<6->((tickX (wT q v i)).1.2=0/\((tickX (wT q v i)).1.1.map wKey==wP q v i)=true):=by decide +kernel
theorem w_few:∀q,q<7->2<=q->∀v,v<q->∀i,i<6->((wT q v i).s.opens.length<=1/\(wT q v i).K.all (λp=>decide (p.2.ticks+1<=1000000))=true):=by decide +kernel
theorem w_word:∀q,q<7->2<=q->∀v,v<q->∀i,i<7->Qcz (wT q v i) u17=if 3<=i then 4 else 2:=by decide +kernel
end Go.Po

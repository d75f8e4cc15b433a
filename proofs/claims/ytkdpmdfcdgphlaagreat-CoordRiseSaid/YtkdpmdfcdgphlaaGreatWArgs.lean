import Derived.Test.YtkdpmdfcdgphlaaGreatM1
import Derived.Deep.Grids
import Derived.ProofKit
set_option linter.all false
namespace Go.Mem
open Go.RowKit Go.Deep
variable {P : Program} {H : Type} {enc : TypeId × Value → H}
theorem Tv.bel{w w':World}{ao:Option Addr}{len:Nat}{V:Nat->Value}(h:Tv w ao len V)(a:Bel w w'):Tv w' ao len V:=
 ⟨h.1,λc=>by
  obtain⟨b,off,d,e,f⟩:=h.2 c;exact⟨b,off,d,Nat.lt_of_lt_of_le e a.size,λk c=>a.cell (f k c)⟩⟩
theorem Qtl{a:Addr}{w:World}{v:Value}(h:w.cell? (a.add 0)=some v):a=⟨a.block,a.off,none⟩:=by
 have c:w.cell? a=some v:=by simpa[Addr.add] using h
 have:=World.cell?_spot c;obtain⟨b,o,s⟩:=a;simp only at this;subst this;rfl
theorem Qnx(b off i:Nat):(⟨b,off,none⟩:Addr).add i=⟨b,off+i,none⟩:=by unfold Addr.add;split<;>simp_all
theorem Qwo{W:World}{x:Addr}{len cap:Nat}{V:Nat->Value}(c:len<=cap)(d:cap<=maxLen)(a:∀i,i<cap->W.cell? (x.add i)=some (V i)):Tv W (some x) len V:=by
 refine⟨Nat.le_trans c d,λb=>?_⟩;have b:=Qtl (a 0 (by omega));refine⟨x.block,x.off,by rw[<-b],?_,λk e=>?_⟩
 ·have:=a 0 (by omega);rw[b,Qnx]at this;exact Zd this
 ·have:=a k (by omega);rw[b,Qnx]at this;exact this
theorem Qtm{W:World}{ao:Option Addr}{V:Nat->Value}:Tv W ao 0 V:=⟨by simp[maxLen],λh=>by omega⟩
theorem Qq0{t e:TypeId}(n:P.underlying t=some (.slice e))(g:P.underlying e=some .bool)(f:P.cellsOf e=1){W:World}{a:Option Addr}{len cap:Nat}{d:DataW H}{p:List MemPlace}
 (h:DataW.Trod enc P W 0 (λ_=>true) true t (.slice a len cap) d p):∃F:Nat->Bool,Tv W a len (λk=>.bool (F k)):=by
 obtain⟨q,i⟩:=h;rcases open_bools n g f i with⟨b,_⟩|⟨x,l,c,B,b,_,j,m,_,o⟩
 ·simp[Value.cells]at b
  obtain⟨rfl,rfl,rfl⟩:=b;exact⟨λ_=>false,Qtm⟩
 ·simp[Value.cells]at b
  obtain⟨rfl,rfl,rfl⟩:=b;exact⟨B,Qwo j m o⟩
end Go.Mem

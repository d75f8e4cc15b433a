import Derived.Test.YtkdpmdfcdgphlaaGreatM9
import Derived.Test.YtkdpmdfcdgphlaaGreatM34
set_option linter.all false
namespace Go.Proofs.YtkdpmdfcdgphlaaGreat
open Tryz
open Go.RowKit Go.Mem Go.Po
section
variable {n : Nat} {O O' : Nat → Prop} {w0 w w' W : World} {cb pb kb db : Nat} {b : Br}
theorem At.locks(h:At O b n w0 w cb pb kb db):∃a,(Calls prog 27 #[.pointer (some ⟨pb,0,none⟩)] w λe w'=>e=.returned (.pointer (some ⟨a,0,none⟩))/\w=w')/\∀t,i64 t->Calls prog 28 #[.pointer (some ⟨a,0,none⟩),.int .i64 t] w λe w'=>e=.returned (.int .i64 (nG t b.G))/\w=w':=by
 obtain⟨⟨m,q,C,o,d,p,_⟩,_⟩:=h;obtain⟨l,a,i,j,k,L,rfl,c,f⟩:=d;refine⟨a,Ur c,λt g=>?_⟩;have:=Ko t g w a i j k L c.lk;rw[Ul,f]at this;exact this
structure Told(O:Nat->Prop)(w:World)(g:Nat)(s:St)(xm:Option Addr)(xM:Nat)(xw:Option Addr)(xW:Nat)(xe:Option Addr)(xE:Nat)(xo:Option Addr)(xO:Nat)(xn:Option Addr)(xN:Nat):Prop where
 blk:w.heap[g]?=some (.cells #[.int .i64 s.broker,.int .i64 s.nextId,.int .i64 s.nextSeq,.int .i64 s.tx,.slice xm s.ms.length xM,.slice xw s.waits.length xW,.slice xe s.ends.length xE,.slice xo s.opens.length xO,.slice xn s.noes.length xN] 43 (0,0))
 out:¬O g
 rd:StR O w s xm xM xw xW xe xE xo xO xn xN
variable {g : Nat} {s : St} {xm : Option Addr} {xM : Nat} {xw : Option Addr} {xW : Nat} {xe : Option Addr} {xE : Nat} {xo : Option Addr} {xO : Nat} {xn : Option Addr} {xN : Nat}
theorem Told.new(h:At O b n w0 w cb pb kb db)(f:StR (λk=>k<w.heap.size) w' s xm xM xw xW xe xE xo xO xn xN)(e:Bel w w')(c:W=w'.alloc (.cells #[.int .i64 s.broker,.int .i64 s.nextId,.int .i64 s.nextSeq,.int .i64 s.tx,.slice xm s.ms.length xM,.slice xw s.waits.length xW,.slice xe s.ends.length xE,.slice xo s.opens.length xO,.slice xn s.noes.length xN] 43)):Told O W w'.heap.size s xm xM xw xW xe xE xo xO xn xN:=by
 have d:=Zb c;exact⟨c▸heap_alloc_new _ _,λa=>by have:=Br.lt h.1 _ a;have:=e.size;omega,(f.bel d).mono λk _ a=>Br.lt h.1 k a⟩
theorem Told.bel(h:Told O w g s xm xM xw xW xe xE xo xO xn xN)(a:Bel w w'):Told O w' g s xm xM xw xW xe xE xo xO xn xN:=⟨a.heap h.blk,h.out,h.rd.bel a⟩
theorem Told.moves(h:Told O w g s xm xM xw xW xe xE xo xO xn xN)(v:Moves O O' w w'):Told O' w' g s xm xM xw xW xe xE xo xO xn xN:=
 ⟨Moves.heap v h.out h.blk,Moves.no v h.out (Qb h.blk),h.rd.keep v.1 (λ_ h=>h) λk a a=>(v.2 k a).elim id λh=>by omega⟩
end
end Go.Proofs.YtkdpmdfcdgphlaaGreat

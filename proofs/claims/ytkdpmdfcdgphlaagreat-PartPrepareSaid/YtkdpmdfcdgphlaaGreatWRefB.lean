import Derived.Test.YtkdpmdfcdgphlaaGreatM9
import Derived.Test.YtkdpmdfcdgphlaaGreatM2
import Derived.Test.YtkdpmdfcdgphlaaGreatM27
set_option linter.all false
namespace Go.Proofs.YtkdpmdfcdgphlaaGreat
open Tryz
open Go.RowKit Go.Mem Go.Po
set_option maxHeartbeats 1600000 in
set_option maxRecDepth 100000 in
theorem Qir(s:St)(q:Option Addr)(l:Nat)(z:Option Addr)(o:Nat)(p:Option Addr)(k:Nat)(v:Option Addr)(n:Nat)(r:Option Addr)(sN:Nat)(t:Int)(A:Nat->Prop)(w:World)(h:StR A w s q l z o p k v n r sN)(M:s.ends.length<=100000):
 Calls prog 24 #[.agg #[.int .i64 s.broker,.int .i64 s.nextId,.int .i64 s.nextSeq,.int .i64 s.tx,.slice q s.ms.length l,.slice z s.waits.length o,.slice p s.ends.length k,.slice v s.opens.length n,.slice r s.noes.length sN],.int .i64 t] w λe w'=>e=.returned (.int .i64 (Kz (λx:Fin=>x.tid==t) s.ends))/\Bel w w':=by
 obtain⟨K,b⟩:=Zx (w.alloc (.cells #[.int .i64 s.broker,.int .i64 s.nextId,.int .i64 s.nextSeq,.int .i64 s.tx,.slice q s.ms.length l,.slice z s.waits.length o,.slice p s.ends.length k,.slice v s.opens.length n,.slice r s.noes.length sN] 43));have c:=Zb b;have B:=Zn b;obtain⟨m,f⟩:=Zx s.ends.length;have G:=cell_of_block B 6 _ rfl;rw[<-f]at G M;have V:=Qb B;obtain⟨R,d⟩:=Zx (Kz (λx:Fin=>x.tid==t) s.ends);rw[<-d];obtain⟨F,J,C,H,D⟩:=Zh5 d b c (h.ends.bel c) f;clear b c B h f d;go_enter func24,ntmps24;go_upto_region 1 with (fail);rw[<-J.o];go_wp2;go_loopw[5] (λa wr=>∃(i:Nat),i<=m/\a=.int .i64 i/\wr=K/\Hid (∀j y,j<i->s.ends[j]?=some y->(y.tid==t)=false)) (λa _=>m-(intOf a).toNat)
 case atStart=>exact⟨0,Nat.zero_le _,rfl,rfl,Zh λj y h=>by omega⟩
 case round=>
  obtain⟨i,T,rfl,rfl,d⟩:=hrel;by_cases P:i<m
  ·obtain⟨x,b⟩:∃x,s.ends[i]?=some x:=⟨s.ends[i]'(by have:=D.o;omega),by simp⟩
   obtain⟨g,off,N,O,c0,c1⟩:=Ba H.o b;have Q:(0:Int)<=(i:Int):=by omega
   have S:(i:Int)<(m:Int):=by omega
   have U:IntKind.i64.wrap ((i:Int)+1)=((i+1:Nat):Int):=by rw[IntKind.wrap_i64];omega
   rw[N]at G;rcases B:(x.tid==t)with _|_
   ·have I:=Zh (show ∀j y,j<i+1->s.ends[j]?=some y->(y.tid==t)=false fromλj y f c=>by
     by_cases L:j=i
     ·subst L;rw[b]at c;cases c;exact B
     ·exact d.o j y (by omega) c)
    clear b;go_wp2;go_roundw
    case rel=>exact⟨i+1,by omega,by go_num,by first|rfl|trivial,I⟩
    case measure=>simp[intOf];omega
   ·have E:=Zh (show R=(i:Int) from F.trans (Qgk b B λj y f c=>d j y f c))
    clear b;go_wp2;go_ret;exact⟨by rw[E.o];rfl,C.o⟩
  ·obtain rfl:i=m:=by omega
   have E:=Zh (show R=-1 from F.trans (Nv λx b=>by
    obtain⟨j,c,f⟩:=List.getElem_of_mem b;exact d.o j x (by have:=D.o;omega) (List.getElem?_eq_some_iff.2 ⟨c,f⟩)))
   go_wp2;go_ret;exact⟨by rw[E.o];rfl,C.o⟩
end Go.Proofs.YtkdpmdfcdgphlaaGreat

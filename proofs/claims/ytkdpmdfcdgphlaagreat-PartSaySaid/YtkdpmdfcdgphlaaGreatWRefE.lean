import Derived.Test.YtkdpmdfcdgphlaaGreatM2
import Derived.Test.YtkdpmdfcdgphlaaGreatWRefB
import Derived.Test.YtkdpmdfcdgphlaaGreatM30
import Derived.Test.YtkdpmdfcdgphlaaGreatM28
set_option linter.all false
namespace Go.Proofs.YtkdpmdfcdgphlaaGreat
open Tryz
open Go.RowKit Go.Mem Go.Po
set_option maxHeartbeats 2000000 in
set_option maxRecDepth 100000 in
theorem Qnl(A B:Nat->Prop)(w:World)(ao f:Option Addr)(c d:Nat)(l:List Int)(a:Rd Qh A w ao c l)(g:Rd Qh B w f d l):Calls prog 157 #[.slice ao l.length c,.slice f l.length d] w λe w'=>e=.returned (.bool true)/\Bel w w':=by
 obtain⟨h,j⟩:=Zh2 a g;have o:=a.small;obtain⟨n,b⟩:=Zx l.length;rw[<-b]at o ⊢;have m:=Zh b;clear a g b;go_enter func157,ntmps157;go_wp2;go_loopw[5] (λi wr=>∃k:Nat,k<=n/\i=.int .i64 k/\Hid (Bel w wr)) (λi _=>n-(intOf i).toNat)
 case atStart=>exact⟨0,Nat.zero_le _,rfl,Zh (Bel.refl _)⟩
 case round=>
  obtain⟨k,t,rfl,a⟩:=hrel;by_cases z:k<n
  ·obtain⟨x,b⟩:∃x,l[k]?=some x:=⟨l[k]'(by have:=m.o;omega),by simp⟩
   obtain⟨p,off,rfl,r,c0⟩:=Yf (h.bel a.o) b;obtain⟨q,D,rfl,s,g⟩:=Yf (j.bel a.o) b;have y:(k:Int)<(n:Int):=by omega
   have v:(0:Int)<=(k:Int):=by omega
   have C:IntKind.i64.wrap ((k:Int)+1)=((k+1:Nat):Int):=by rw[IntKind.wrap_i64];omega
   clear b;go_wp2_with fail;go_quiet (fail)
   go_wp2;go_roundw
   case rel=>exact⟨k+1,by omega,by go_num,Zh (a.drewN _)⟩
   case measure=>simp[intOf];omega
  ·obtain rfl:k=n:=by omega
   go_wp2;go_ret;exact⟨rfl,a⟩
set_option maxHeartbeats 2000000 in
set_option maxRecDepth 100000 in
theorem Qnm(A B:Nat->Prop)(w:World)(ao f:Option Addr)(c d:Nat)(l:List Put)(a:Rd Qw A w ao c l)(g:Rd Qw B w f d l):Calls prog 80 #[.slice ao l.length c,.slice f l.length d] w λe w'=>e=.returned (.bool true)/\Bel w w':=by
 obtain⟨h,j⟩:=Zh2 a g;have o:=a.small;obtain⟨n,b⟩:=Zx l.length;rw[<-b]at o ⊢;have m:=Zh b;clear a g b;go_enter func80,ntmps80;go_wp2;go_loopw[5] (λi wr=>∃k:Nat,k<=n/\i=.int .i64 k/\Hid (Bel w wr)) (λi _=>n-(intOf i).toNat)
 case atStart=>exact⟨0,Nat.zero_le _,rfl,Zh (Bel.refl _)⟩
 case round=>
  obtain⟨k,v,rfl,a⟩:=hrel;by_cases C:k<n
  ·obtain⟨x,b⟩:∃x,l[k]?=some x:=⟨l[k]'(by have:=m.o;omega),by simp⟩
   obtain⟨q,off,rfl,s,c0,c1⟩:=Me (h.bel a.o) b;obtain⟨r,E,rfl,t,g,p⟩:=Me (j.bel a.o) b;have z:(k:Int)<(n:Int):=by omega
   have y:(0:Int)<=(k:Int):=by omega
   have D:IntKind.i64.wrap ((k:Int)+1)=((k+1:Nat):Int):=by rw[IntKind.wrap_i64];omega
   clear b;go_wp2_with fail;go_quiet (fail)
   go_wp2;go_roundw
   case rel=>exact⟨k+1,by omega,by go_num,Zh (a.drewN _)⟩
   case measure=>simp[intOf];omega
  ·obtain rfl:k=n:=by omega
   go_wp2;go_ret;exact⟨rfl,a⟩
set_option maxHeartbeats 2000000 in
set_option maxRecDepth 100000 in
theorem Qb0(A B:Nat->Prop)(w:World)(ao f:Option Addr)(c d:Nat)(l:List Qv)(a:Rd Z4 A w ao c l)(g:Rd Z4 B w f d l):Calls prog 78 #[.slice ao l.length c,.slice f l.length d] w λe w'=>e=.returned (.bool true)/\Bel w w':=by
 obtain⟨j,m⟩:=Zh2 a g;have t:=a.small;obtain⟨n,b⟩:=Zx l.length;rw[<-b]at t ⊢;have o:=Zh b;clear a g b;go_enter func78,ntmps78;go_wp2;go_loopw[5] (λi wr=>∃k:Nat,k<=n/\i=.int .i64 k/\Hid (Bel w wr)) (λi _=>n-(intOf i).toNat)
 case atStart=>exact⟨0,Nat.zero_le _,rfl,Zh (Bel.refl _)⟩
 case round=>
  obtain⟨k,D,rfl,a⟩:=hrel;by_cases G:k<n
  ·obtain⟨x,b⟩:∃x,l[k]?=some x:=⟨l[k]'(by have:=o.o;omega),by simp⟩
   obtain⟨v,off,po,pc,rfl,z,c0,c1,g⟩:=Vo (j.bel a.o) b;obtain⟨y,I,K,J,rfl,C,r,s,h⟩:=Vo (m.bel a.o) b;have F:(k:Int)<(n:Int):=by omega
   have E:(0:Int)<=(k:Int):=by omega
   have H:IntKind.i64.wrap ((k:Int)+1)=((k+1:Nat):Int):=by rw[IntKind.wrap_i64];omega
   clear b;have L:=Up.cell c0;have M:=Up.cell c1;have N:=Up.cell r;have O:=Up.cell s;obtain⟨p,q⟩:=Zh2 g h;clear g h;go_upto_region 6 with (fail);refine Qs (by kernel_rfl) (by kernel_rfl) ?_;repeat(go_big_quiet_step(first|(go_at_call 157;exact Calls.up (Qnl _ _ _ _ _ _ _ _ (p.bel (Up.bel _)) (q.bel (Up.bel _))))))
   refine Xg λb b=>?_
   have g:=Zh (a.trans b);clear b;go_wp2;go_roundw
   case rel=>exact⟨k+1,by omega,by go_num,g⟩
   case measure=>simp[intOf];omega
  ·obtain rfl:k=n:=by omega
   go_wp2;go_ret;exact⟨rfl,a⟩
set_option maxHeartbeats 2000000 in
set_option maxRecDepth 100000 in
theorem Qqi(x:Msg)(w:World):Calls prog 79 #[.agg #[.int .i64 x.id,.string x.q,.string x.b,.int .i64 x.seq,.int .i64 x.cnt,.int .i64 x.who],.agg #[.int .i64 x.id,.string x.q,.string x.b,.int .i64 x.seq,.int .i64 x.cnt,.int .i64 x.who]] w λe w'=>e=.returned (.bool true)/\Bel w w':=by
 obtain⟨b,a⟩:=Zx ((w.alloc (.cells #[.int .i64 x.id,.string x.q,.string x.b,.int .i64 x.seq,.int .i64 x.cnt,.int .i64 x.who] 47)).alloc (.cells #[.int .i64 x.id,.string x.q,.string x.b,.int .i64 x.seq,.int .i64 x.cnt,.int .i64 x.who] 47));have c:=a▸((Bel.refl w).alloc _).alloc _;have g:b.heap[w.heap.size]?=some (.cells #[.int .i64 x.id,.string x.q,.string x.b,.int .i64 x.seq,.int .i64 x.cnt,.int .i64 x.who] 47 (0,0)):=by rw[a];exact Ke _ _ _
 have h:b.heap[w.heap.size+1]?=some (.cells #[.int .i64 x.id,.string x.q,.string x.b,.int .i64 x.seq,.int .i64 x.cnt,.int .i64 x.who] 47 (0,0)):=by rw[a];exact Jc _ _ _
 obtain⟨c0,c1,c2,c3,i,j⟩:=rAt g;obtain⟨k,l,m,n,o,p⟩:=rAt h;obtain⟨f,d⟩:=Zh2 a c;clear a c;go_enter func79,ntmps79;go_upto_region 1 with (fail);rw[<-f.o];go_wp2;go_ret;exact⟨rfl,d⟩
set_option maxHeartbeats 8000000 in
set_option maxRecDepth 100000 in
theorem Qsn(A B:Nat->Prop)(w:World)(s:St)(M:Option Addr)(H:Nat)(P:Option Addr)(K:Nat)(L:Option Addr)(G:Nat)(O:Option Addr)(J:Nat)(N:Option Addr)(I:Nat)(W:Option Addr)(R:Nat)(Z:Option Addr)(U:Nat)(V:Option Addr)(Q:Nat)(Y:Option Addr)(T:Nat)(X:Option Addr)(S:Nat)(l:StR A w s M H P K L G O J N I)(aa:StR B w s W R Z U V Q Y T X S):
 Calls prog 26 #[.agg #[.int .i64 s.broker,.int .i64 s.nextId,.int .i64 s.nextSeq,.int .i64 s.tx,.slice M s.ms.length H,.slice P s.waits.length K,.slice L s.ends.length G,.slice O s.opens.length J,.slice N s.noes.length I],.agg #[.int .i64 s.broker,.int .i64 s.nextId,.int .i64 s.nextSeq,.int .i64 s.tx,.slice W s.ms.length R,.slice Z s.waits.length U,.slice V s.ends.length Q,.slice Y s.opens.length T,.slice X s.noes.length S]] w λe w'=>e=.returned (.bool true)/\Bel w w':=by
 obtain⟨m,d⟩:=Zx ((w.alloc (.cells #[.int .i64 s.broker,.int .i64 s.nextId,.int .i64 s.nextSeq,.int .i64 s.tx,.slice M s.ms.length H,.slice P s.waits.length K,.slice L s.ends.length G,.slice O s.opens.length J,.slice N s.noes.length I] 43)).alloc (.cells #[.int .i64 s.broker,.int .i64 s.nextId,.int .i64 s.nextSeq,.int .i64 s.tx,.slice W s.ms.length R,.slice Z s.waits.length U,.slice V s.ends.length Q,.slice Y s.opens.length T,.slice X s.noes.length S] 43));have r:=d▸((Bel.refl w).alloc _).alloc _;have y:m.heap[w.heap.size]?=some (.cells #[.int .i64 s.broker,.int .i64 s.nextId,.int .i64 s.nextSeq,.int .i64 s.tx,.slice M s.ms.length H,.slice P s.waits.length K,.slice L s.ends.length G,.slice O s.opens.length J,.slice N s.noes.length I] 43 (0,0)):=by rw[d];exact Ke _ _ _
 have z:m.heap[w.heap.size+1]?=some (.cells #[.int .i64 s.broker,.int .i64 s.nextId,.int .i64 s.nextSeq,.int .i64 s.tx,.slice W s.ms.length R,.slice Z s.waits.length U,.slice V s.ends.length Q,.slice Y s.opens.length T,.slice X s.noes.length S] 43 (0,0)):=by rw[d];exact Jc _ _ _
 have aD:=l.ms.small;have aE:=l.waits.small;have aF:=l.ends.small;obtain⟨t,v⟩:=Zh2 (l.bel r) (aa.bel r);obtain⟨a,f⟩:=Zx s.ms.length;obtain⟨b,g⟩:=Zx s.waits.length;obtain⟨c,h⟩:=Zx s.ends.length;rw[<-f,<-g,<-h]at y z;rw[<-f]at aD;rw[<-g]at aE;rw[<-h]at aF;rw[<-f,<-g,<-h]at d;rw[<-f,<-g,<-h];obtain⟨e0,ab,ac,ad,n,o,C,ae,af⟩:=sAt y;obtain⟨ah,ai,aj,ak,p,q,D,al,am⟩:=sAt z;obtain⟨av,aw,ax,ay,ar,E,F⟩:=Zh7 f g h d r y z;clear l aa d r y z f g h;go_enter func26,ntmps26;go_wp2_with fail;rw[<-ay.o];go_wp2_with fail;refine(Qb0 _ _ m _ _ _ _ s.opens t.opens v.opens).zR λd b2=>?_
 have aa:=Zh b2;obtain⟨e0,ab,ac,ad,n,o,C,ae,af⟩:=sAt (b2.heap E.o);obtain⟨ah,ai,aj,ak,p,q,D,al,am⟩:=sAt (b2.heap F.o);clear b2;go_wp2_with fail;refine(Qb0 _ _ d _ _ _ _ s.noes (t.noes.bel aa) (v.noes.bel aa)).zR λd d=>?_
 have au:=Zh (aa.trans d);clear d e0 ab ac ad n o C ae af ah ai aj ak p q D al am;go_upto_region 4 with (fail);go_loopw[5] (λi wr=>∃k:Nat,k<=a/\i=.int .i64 k/\Hid (Bel m wr)) (λi _=>a-(intOf i).toNat)
 case atStart=>exact⟨0,Nat.zero_le _,rfl,au⟩
 case round=>
  obtain⟨k,aG,rfl,d⟩:=hrel;have n:=cell_of_block (d.heap E) 4 _ rfl;have p:=cell_of_block (d.heap F) 4 _ rfl;by_cases aH:k<a
  ·obtain⟨x,f⟩:∃x,s.ms[k]?=some x:=⟨s.ms[k]'(by have:=av.o;omega),by simp⟩
   obtain⟨ab,off,h,ad,c0,c1,c2,c3,az,a8⟩:=Yl (t.ms.bel d.o) f;obtain⟨ac,aj,l,ae,y,z,a9,aA,aB,aC⟩:=Yl (v.ms.bel d.o) f;rw[h]at n;rw[l]at p;have ah:(k:Int)<(a:Int):=by omega
   have af:(0:Int)<=(k:Int):=by omega
   have ai:IntKind.i64.wrap ((k:Int)+1)=((k+1:Nat):Int):=by rw[IntKind.wrap_i64];omega
   have ak:=Up.cell c0;have al:=Up.cell c1;have aI:=Up.cell c2;have aJ:=Up.cell c3;have aK:=Up.cell az;have aL:=Up.cell a8;have ao:=Up.cell y;have ap:=Up.cell z;have aM:=Up.cell a9;have aN:=Up.cell aA;have aO:=Up.cell aB;have aP:=Up.cell aC;have am:=Up.cell n;have an:=Up.cell p;clear f h l;go_upto_region 6 with (fail);refine Qs (by kernel_rfl) (by kernel_rfl) ?_;repeat(go_big_quiet_step(first|(go_at_call 79;exact Calls.up (Qqi x _))))
   refine Xg λaq g=>?_
   have r:=Zh (d.trans g);clear g;go_wp2;go_roundw
   case rel=>exact⟨k+1,by omega,by go_num,r⟩
   case measure=>simp[intOf];omega
  obtain rfl:k=a:=by omega
  go_upto_region 9 with (fail);go_loopw[6] (λi wr=>∃k:Nat,k<=b/\i=.int .i64 k/\Hid (Bel m wr)) (λi _=>b-(intOf i).toNat)
  case atStart=>exact⟨0,Nat.zero_le _,rfl,d⟩
  case round=>
   clear n p;obtain⟨j,a9,rfl,d⟩:=hrel;have o:=cell_of_block (d.heap E) 5 _ rfl;have q:=cell_of_block (d.heap F) 5 _ rfl;by_cases aA:j<b
   ·obtain⟨x,f⟩:∃x,s.waits[j]?=some x:=⟨s.waits[j]'(by have:=aw.o;omega),by simp⟩
    obtain⟨ab,off,po,pc,h,ad,c0,c1,n⟩:=Kl (t.waits.bel d.o) f;obtain⟨ac,aj,aC,aB,l,ae,y,z,p⟩:=Kl (v.waits.bel d.o) f;rw[h]at o;rw[l]at q;have ah:(j:Int)<(b:Int):=by omega
    have af:(0:Int)<=(j:Int):=by omega
    have ai:IntKind.i64.wrap ((j:Int)+1)=((j+1:Nat):Int):=by rw[IntKind.wrap_i64];omega
    have ak:=Up.cell c0;have al:=Up.cell c1;have ao:=Up.cell y;have ap:=Up.cell z;have am:=Up.cell o;have an:=Up.cell q;obtain⟨az,a8⟩:=Zh2 n p;clear f h l n p;go_upto_region 11 with (fail);refine Qs (by kernel_rfl) (by kernel_rfl) ?_;repeat(go_big_quiet_step(first|(go_at_call 80;exact Calls.up (Qnm _ _ _ _ _ _ _ _ (az.bel (Up.bel _)) (a8.bel (Up.bel _))))))
    refine Xg λaq g=>?_
    have r:=Zh (d.trans g);clear g;go_wp2;go_roundw
    case rel=>exact⟨j+1,by omega,by go_num,r⟩
    case measure=>simp[intOf];omega
   obtain rfl:j=b:=by omega
   go_upto_region 14 with (fail);go_loopw[7] (λi wr=>∃k:Nat,k<=c/\i=.int .i64 k/\Hid (Bel m wr)) (λi _=>c-(intOf i).toNat)
   case atStart=>exact⟨0,Nat.zero_le _,rfl,d⟩
   case round=>
    clear o q;obtain⟨i,n,rfl,d⟩:=hrel;have C:=cell_of_block (d.heap E) 6 _ rfl;have D:=cell_of_block (d.heap F) 6 _ rfl;by_cases o:i<c
    ·obtain⟨x,f⟩:∃x,s.ends[i]?=some x:=⟨s.ends[i]'(by have:=ax.o;omega),by simp⟩
     obtain⟨ab,off,h,ad,c0,c1⟩:=Ba (t.ends.bel d.o) f;obtain⟨ac,aj,l,ae,y,z⟩:=Ba (v.ends.bel d.o) f;rw[h]at C;rw[l]at D;have ah:(i:Int)<(c:Int):=by omega
     have af:(0:Int)<=(i:Int):=by omega
     have ai:IntKind.i64.wrap ((i:Int)+1)=((i+1:Nat):Int):=by rw[IntKind.wrap_i64];omega
     have ak:=Up.cell c0;have al:=Up.cell c1;have ao:=Up.cell y;have ap:=Up.cell z;have am:=Up.cell C;have an:=Up.cell D;clear f h l;go_upto_region 16 with (fail);refine Qs (by kernel_rfl) (by kernel_rfl) ?_;repeat(go_big_quiet_step(fail))
     refine Xg λaq g=>?_
     have r:=Zh (d.trans g);clear g;go_wp2;go_roundw
     case rel=>exact⟨i+1,by omega,by go_num,r⟩
     case measure=>simp[intOf];omega
    obtain rfl:i=c:=by omega
    go_wp2;go_ret;exact⟨rfl,ar.trans d⟩
end Go.Proofs.YtkdpmdfcdgphlaaGreat

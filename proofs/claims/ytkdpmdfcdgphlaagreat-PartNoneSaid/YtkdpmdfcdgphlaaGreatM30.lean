/- Part of this claim's proof. Conditions: as its theorems say. -/
import Derived.Test.YtkdpmdfcdgphlaaGreatM28
set_option linter.all false
set_option maxHeartbeats 4000000
set_option maxRecDepth 100000
namespace Go.Proofs.YtkdpmdfcdgphlaaGreat
open Tryz
open Go.RowKit Go.Mem Go.Po
theorem equals:(∀(A B:Nat->Prop) (w:World) (ao c:Option Addr) (a b:Nat) (l:List Put) (d:Rd Qw A w ao a l) (f:Rd Qw B w c b l),Calls prog 421 #[.slice ao l.length a,.slice c l.length b] w λe w'=>e=.returned (.bool true)/\Bel w w') ∧
 (∀(A B:Nat->Prop) (w:World) (ao c:Option Addr) (a b:Nat) (l:List Int) (d:Rd Qh A w ao a l) (f:Rd Qh B w c b l),Calls prog 423 #[.slice ao l.length a,.slice c l.length b] w λe w'=>e=.returned (.bool true)/\Bel w w') ∧
 (∀(A B:Nat->Prop) (w:World) (ao c:Option Addr) (a b:Nat) (l:List Msg) (d:Rd Xy A w ao a l) (f:Rd Xy B w c b l),Calls prog 424 #[.slice ao l.length a,.slice c l.length b] w λe w'=>e=.returned (.bool true)/\Bel w w') ∧
 (∀(A B:Nat->Prop) (w:World) (ao c:Option Addr) (a b:Nat) (l:List Fin) (d:Rd J7 A w ao a l) (f:Rd J7 B w c b l),Calls prog 425 #[.slice ao l.length a,.slice c l.length b] w λe w'=>e=.returned (.bool true)/\Bel w w'):=by
 refine⟨have k1:=trivial;?_,have k2:=trivial;?_,have k3:=trivial;?_,have k4:=trivial;?_⟩;all_goals
  intro A B w ao c a b l d f;obtain⟨g,h⟩:=Zh2 d f;have v:=d.small;obtain⟨n,j⟩:=Zx l.length;rw[<-j]at v ⊢;have t:=Zh j;clear d f j;first|(have k2:=k2;go_enter func423,ntmps423)|(have k3:=k3;go_enter func424,ntmps424)|(have k4:=k4;go_enter func425,ntmps425)|(go_enter func421,ntmps421)
  go_wp2;go_loopw[5,13] (λ_ i wr=>∃k:Nat,k<=n/\i=.int .i64 k/\Hid (Bel w wr)) (λ_ i _=>n-(intOf i).toNat)
  case atStart=>exact⟨0,Nat.zero_le _,rfl,Zh (Bel.refl _)⟩
  case round=>
   obtain⟨k,G,rfl,d⟩:=hrel;by_cases J:k<n
   ·obtain⟨x,f⟩:∃x,l[k]?=some x:=⟨l[k]'(by have:=t.o;omega),by simp⟩
    first|(have k2:=k2;obtain⟨m,off,rfl,p,c0⟩:=Yf (g.bel d.o) f)|(have k3:=k3;obtain⟨m,off,rfl,p,c0,c1,c2,c3,y,z⟩:=Yl (g.bel d.o) f)|(have k4:=k4;obtain⟨m,off,rfl,p,c0,c1⟩:=Ba (g.bel d.o) f)|(obtain⟨m,off,rfl,p,c0,c1⟩:=Me (g.bel d.o) f)
    first|(have k2:=k2;obtain⟨o,r,rfl,q,j⟩:=Yf (h.bel d.o) f)|(have k3:=k3;obtain⟨o,r,rfl,q,j,s,C,D,E,F⟩:=Yl (h.bel d.o) f)|(have k4:=k4;obtain⟨o,r,rfl,q,j,s⟩:=Ba (h.bel d.o) f)|(obtain⟨o,r,rfl,q,j,s⟩:=Me (h.bel d.o) f)
    have I:(k:Int)<(n:Int):=by omega
    have H:(0:Int)<=(k:Int):=by omega
    have K:IntKind.i64.wrap ((k:Int)+1)=((k+1:Nat):Int):=by rw[IntKind.wrap_i64];omega
    clear f;go_wp2_with fail;go_quiet (fail)
    go_wp2;go_roundw
    case rel=>exact⟨k+1,by omega,by go_num,Zh (d.drewN _)⟩
    case measure=>simp[intOf];omega
   ·obtain rfl:k=n:=by omega
    go_wp2;go_ret;exact⟨rfl,d⟩
def Qhi:=equals.1
def Qhj:=equals.2.1
def Qrk:=equals.2.2.1
def Qrl:=equals.2.2.2
theorem Qj7(A B:Nat->Prop)(w:World)(ao c:Option Addr)(a b:Nat)(x y:Msg)(g:Rd Xy A w ao a [x])(h:Rd Xy B w c b [y])(r:y.q=x.q)(q:y.b=x.b)(v:x.cnt≠y.cnt):
 Calls prog 424 #[.slice ao 1 a,.slice c 1 b] w λe w'=>e=.returned (.bool false)/\Bel w w':=by
 obtain⟨s,off,rfl,z,c0,c1,c2,c3,j,l⟩:=Yl (k:=0) g rfl;obtain⟨t,D,rfl,C,m,d,f,n,o,p⟩:=Yl (k:=0) h rfl;simp only[Nat.zero_mul,Nat.add_zero]at c0 c1 c2 c3 j l m d f n o p;rw[r]at d;rw[q]at f;clear g h;go_enter func424,ntmps424;go_wp2;go_loopw[5,13] (λ_ i wr=>i=.int .i64 0/\wr=w) (λ_ i _=>1-(intOf i).toNat)
 case atStart=>exact⟨rfl,rfl⟩
 case round=>
  obtain⟨rfl,rfl⟩:=hrel;go_wp2_with fail;go_quiet (fail)
  go_wp2;go_ret;exact⟨rfl,(Bel.refl _).drewN _⟩
theorem Qd1(A B:Nat->Prop)(x:Branch)(ao c:Option Addr)(a b:Nat)(w:World)(d:Rd Qw A w ao a x.puts)(f:Rd Qw B w c b x.puts):
 Calls prog 420 (#[.agg #[.int .i64 x.tid,.slice ao x.puts.length a],.agg #[.int .i64 x.tid,.slice c x.puts.length b]]++#[]) w λe w'=>e=.returned (.bool true)/\Bel w w':=by
 obtain⟨h,i⟩:=Zh2 d f;show Calls prog 420 #[.agg #[.int .i64 x.tid,.slice ao x.puts.length a],.agg #[.int .i64 x.tid,.slice c x.puts.length b]] w _;clear d f;have d:Bel w ((w.alloc (.cells #[.int .i64 x.tid,.slice ao x.puts.length a] 58)).alloc (.cells #[.int .i64 x.tid,.slice c x.puts.length b] 58)):=((Bel.refl _).alloc _).alloc _;obtain⟨f,j⟩:=Zh2 d (Qhi A B _ ao c a b x.puts (h.bel d) (i.bel d));clear d;generalize x.puts.length=n at *;go_enter func420,ntmps420;go_wp2_with fail;refine j.zR λd d=>?_
 have g:=Zh (f.trans d);clear d;go_wp2;go_ret;exact⟨rfl,g⟩
theorem Qez:∀a w,(callFunc 420 a).run prog w=.ok (.enter 420 a) w:=enters_of func420 (by kernel_rfl) rfl
theorem Qgl(A B:Nat->Prop)(x:Qv)(ao c:Option Addr)(a b:Nat)(w:World)(d:Rd Qh A w ao a x.parts)(f:Rd Qh B w c b x.parts):
 Calls prog 422 (#[.agg #[.int .i64 x.tid,.slice ao x.parts.length a],.agg #[.int .i64 x.tid,.slice c x.parts.length b]]++#[]) w λe w'=>e=.returned (.bool true)/\Bel w w':=by
 obtain⟨h,i⟩:=Zh2 d f;show Calls prog 422 #[.agg #[.int .i64 x.tid,.slice ao x.parts.length a],.agg #[.int .i64 x.tid,.slice c x.parts.length b]] w _;clear d f;have d:Bel w ((w.alloc (.cells #[.int .i64 x.tid,.slice ao x.parts.length a] 134)).alloc (.cells #[.int .i64 x.tid,.slice c x.parts.length b] 134)):=((Bel.refl _).alloc _).alloc _;obtain⟨f,j⟩:=Zh2 d (Qhj A B _ ao c a b x.parts (h.bel d) (i.bel d));clear d;generalize x.parts.length=n at *;go_enter func422,ntmps422;go_wp2_with fail;refine j.zR λd d=>?_
 have g:=Zh (f.trans d);clear d;go_wp2;go_ret;exact⟨rfl,g⟩
theorem Qif:∀a w,(callFunc 422 a).run prog w=.ok (.enter 422 a) w:=enters_of func422 (by kernel_rfl) rfl
theorem Qob:(∀(A B:Nat->Prop) (w:World) (ao c:Option Addr) (a b:Nat) (l:List Branch) (d:Rd Zm A w ao a l) (f:Rd Zm B w c b l),Calls prog 426 #[.slice ao l.length a,.slice c l.length b,.func (.func 420) #[] #[]] w λe w'=>e=.returned (.bool true)/\Bel w w') ∧
 (∀(A B:Nat->Prop) (w:World) (ao c:Option Addr) (a b:Nat) (l:List Qv) (d:Rd Z4 A w ao a l) (f:Rd Z4 B w c b l),Calls prog 427 #[.slice ao l.length a,.slice c l.length b,.func (.func 422) #[] #[]] w λe w'=>e=.returned (.bool true)/\Bel w w'):=by
 refine⟨have k1:=trivial;?_,have k2:=trivial;?_⟩;all_goals
  intro A B w ao c a b l d f;obtain⟨z,C⟩:=Zh2 d f;have J:=d.small;first|(have k2:=k2;have F:=Qif)|(have F:=Qez)
  obtain⟨n,g⟩:=Zx l.length;rw[<-g]at J ⊢;have E:=Zh g;clear d f g;first|(have k2:=k2;go_enter func427,ntmps427)|(go_enter func426,ntmps426)
  go_wp2;go_loopw[7,8,9,17] (λ_ _ _ i wr=>∃k:Nat,k<=n/\i=.int .i64 k/\Hid (Bel w wr)) (λ_ _ _ i _=>n-(intOf i).toNat)
  case atStart=>exact⟨0,Nat.zero_le _,rfl,Zh (Bel.refl _)⟩
  case round=>
   obtain⟨k,N,rfl,d⟩:=hrel;by_cases Q:k<n
   ·obtain⟨x,g⟩:∃x,l[k]?=some x:=⟨l[k]'(by have:=E.o;omega),by simp⟩
    first|(have k2:=k2;obtain⟨G,off,a1,r,rfl,H,c0,c1,j⟩:=Vo (z.bel d.o) g)|(obtain⟨G,off,a1,r,rfl,H,c0,c1,j⟩:=Kl (z.bel d.o) g)
    first|(have k2:=k2;obtain⟨t,y,a2,h,rfl,I,D,s,p⟩:=Vo (C.bel d.o) g)|(obtain⟨t,y,a2,h,rfl,I,D,s,p⟩:=Kl (C.bel d.o) g)
    first|(have k2:=k2;obtain⟨m,v⟩:∃m,m=x.parts.length:=⟨_,rfl⟩)|(obtain⟨m,v⟩:∃m,m=x.puts.length:=⟨_,rfl⟩)
    first|(have k2:=k2;have q:=Zh (λW f=>Qgl A B x a1 a2 r h W (j.bel (w':=W) f) (p.bel f)))|(have q:=Zh (λW f=>Qd1 A B x a1 a2 r h W (j.bel (w':=W) f) (p.bel f)))
    rw[<-v]at q c1 s;have P:(k:Int)<(n:Int):=by omega
    have O:(0:Int)<=(k:Int):=by omega
    have R:IntKind.i64.wrap ((k:Int)+1)=((k+1:Nat):Int):=by rw[IntKind.wrap_i64];omega
    have K:∀o f,Bel wr ((wr.alloc o).alloc f):=λo f=>((Bel.refl _).alloc _).alloc _
    have L:∀o,(wr.alloc o).cell? ⟨t,y+k*2,none⟩=some (.int .i64 x.tid):=λo=>((Bel.refl wr).alloc o).cell D
    have M:∀o,(wr.alloc o).cell? ⟨t,y+k*2+1,none⟩=some (.slice a2 m h):=λo=>((Bel.refl wr).alloc o).cell s
    clear g v j p;go_wp2_with fail;refine(q _ (((Bel.refl _).alloc _).alloc _)).zR λf f=>?_
    have g:=Zh ((d.trans (((Bel.refl _).alloc _).alloc _)).trans f);clear f;go_wp2;go_roundw
    case rel=>exact⟨k+1,by omega,by go_num,g⟩
    case measure=>simp[intOf];omega
   ·obtain rfl:k=n:=by omega
    go_wp2;go_ret;exact⟨rfl,d⟩
def Qig:=Qob.1
def Qc6:=Qob.2
theorem Qxj(s:St)(o:Option Addr)(j:Nat)(q:Option Addr)(m:Nat)(n:Option Addr)(i:Nat)(ao:Option Addr)(l:Nat)(p:Option Addr)(k:Nat)(z:Option Addr)(t:Nat)(E:Option Addr)(x:Nat)(y:Option Addr)(r:Nat)(D:Option Addr)(v:Nat)(C:Option Addr)(bN:Nat)(A B:Nat->Prop)(w:World)(b:StR A w s o j q m n i ao l p k)(c:StR B w s z t E x y r D v C bN):
 Calls prog 368 #[.agg #[.int .i64 s.broker,.int .i64 s.nextId,.int .i64 s.nextSeq,.int .i64 s.tx,.slice o s.ms.length j,.slice q s.waits.length m,.slice n s.ends.length i,.slice ao s.opens.length l,.slice p s.noes.length k],.agg #[.int .i64 s.broker,.int .i64 s.nextId,.int .i64 s.nextSeq,.int .i64 s.tx,.slice z s.ms.length t,.slice E s.waits.length x,.slice y s.ends.length r,.slice D s.opens.length v,.slice C s.noes.length bN]] w λe w'=>e=.returned (.bool true)/\Bel w w':=by
 have g:Bel w ((w.alloc (.cells #[.int .i64 s.broker,.int .i64 s.nextId,.int .i64 s.nextSeq,.int .i64 s.tx,.slice o s.ms.length j,.slice q s.waits.length m,.slice n s.ends.length i,.slice ao s.opens.length l,.slice p s.noes.length k] 43)).alloc (.cells #[.int .i64 s.broker,.int .i64 s.nextId,.int .i64 s.nextSeq,.int .i64 s.tx,.slice z s.ms.length t,.slice E s.waits.length x,.slice y s.ends.length r,.slice D s.opens.length v,.slice C s.noes.length bN] 43)):=((Bel.refl _).alloc _).alloc _;have h:((w.alloc (.cells #[.int .i64 s.broker,.int .i64 s.nextId,.int .i64 s.nextSeq,.int .i64 s.tx,.slice o s.ms.length j,.slice q s.waits.length m,.slice n s.ends.length i,.slice ao s.opens.length l,.slice p s.noes.length k] 43)).alloc (.cells #[.int .i64 s.broker,.int .i64 s.nextId,.int .i64 s.nextSeq,.int .i64 s.tx,.slice z s.ms.length t,.slice E s.waits.length x,.slice y s.ends.length r,.slice D s.opens.length v,.slice C s.noes.length bN] 43)).heap[w.heap.size]?=some (.cells #[.int .i64 s.broker,.int .i64 s.nextId,.int .i64 s.nextSeq,.int .i64 s.tx,.slice o s.ms.length j,.slice q s.waits.length m,.slice n s.ends.length i,.slice ao s.opens.length l,.slice p s.noes.length k] 43 (0,0)):=((Bel.refl _).alloc _).heap (heap_alloc_new _ _);have G:((w.alloc (.cells #[.int .i64 s.broker,.int .i64 s.nextId,.int .i64 s.nextSeq,.int .i64 s.tx,.slice o s.ms.length j,.slice q s.waits.length m,.slice n s.ends.length i,.slice ao s.opens.length l,.slice p s.noes.length k] 43)).alloc (.cells #[.int .i64 s.broker,.int .i64 s.nextId,.int .i64 s.nextSeq,.int .i64 s.tx,.slice z s.ms.length t,.slice E s.waits.length x,.slice y s.ends.length r,.slice D s.opens.length v,.slice C s.noes.length bN] 43)).heap[w.heap.size+1]?=some (.cells #[.int .i64 s.broker,.int .i64 s.nextId,.int .i64 s.nextSeq,.int .i64 s.tx,.slice z s.ms.length t,.slice E s.waits.length x,.slice y s.ends.length r,.slice D s.opens.length v,.slice C s.noes.length bN] 43 (0,0)):=by
  simpa using heap_alloc_new (w.alloc (.cells #[.int .i64 s.broker,.int .i64 s.nextId,.int .i64 s.nextSeq,.int .i64 s.tx,.slice o s.ms.length j,.slice q s.waits.length m,.slice n s.ends.length i,.slice ao s.opens.length l,.slice p s.noes.length k] 43)) (.cells #[.int .i64 s.broker,.int .i64 s.nextId,.int .i64 s.nextSeq,.int .i64 s.tx,.slice z s.ms.length t,.slice E s.waits.length x,.slice y s.ends.length r,.slice D s.opens.length v,.slice C s.noes.length bN] 43)
 obtain⟨L,K,O,N,M⟩:=Zh5 (λW (a:Bel w W)=>Qrk A B W o z j t s.ms (b.ms.bel a) (c.ms.bel a)) (λW (a:Bel w W)=>Qrl A B W n y i r s.ends (b.ends.bel a) (c.ends.bel a)) (λW (a:Bel w W)=>Qig A B W q E m x s.waits (b.waits.bel a) (c.waits.bel a)) (λW (a:Bel w W)=>Qc6 A B W ao D l v s.opens (b.opens.bel a) (c.opens.bel a)) (λW (a:Bel w W)=>Qc6 A B W p C k bN s.noes (b.noes.bel a) (c.noes.bel a));clear b c;generalize s.ms.length=nm at *;generalize s.ends.length=ne at *;generalize s.waits.length=nw at *;generalize s.opens.length=no at *;generalize s.noes.length=nn at *;obtain⟨F,d,f⟩:=Zh3 g h G;clear g h G;go_enter func368,ntmps368;go_wp2_with fail;refine(L _ F).zR λb a=>?_
 have G:=Zh (F.trans a);have b:=a.heap d;have c:=a.heap f;obtain⟨g,h⟩:=Zh2 b c;clear d f a;have d:=g;have f:=h;clear g h;have a6:=cell_of_block b 6 _ rfl;have I:=cell_of_block c 6 _ rfl;clear b c;go_wp2_with fail;refine(K _ G).zR λH a=>?_
 have H:=Zh (G.trans a);have b:=a.heap d;have c:=a.heap f;obtain⟨g,h⟩:=Zh2 b c;clear d f a a6 I;have d:=g;have f:=h;clear g h;have a5:=cell_of_block b 5 _ rfl;have J:=cell_of_block c 5 _ rfl;clear b c;go_wp2_with fail;refine(O _ H).zR λI a=>?_
 have I:=Zh (H.trans a);have b:=a.heap d;have c:=a.heap f;obtain⟨g,h⟩:=Zh2 b c;clear d f a a5 J;have d:=g;have f:=h;clear g h;have a7:=cell_of_block b 7 _ rfl;have P:=cell_of_block c 7 _ rfl;clear b c;go_wp2_with fail;refine(N _ I).zR λJ a=>?_
 have J:=Zh (I.trans a);have b:=a.heap d;have c:=a.heap f;obtain⟨g,h⟩:=Zh2 b c;clear d f a a7 P;have d:=g;have f:=h;clear g h;have g:=cell_of_block b 8 _ rfl;have h:=cell_of_block c 8 _ rfl;clear b c;go_wp2_with fail;refine(M _ J).zR λb a=>?_
 have b:=Zh (J.trans a);clear d f a g h;go_wp2;go_ret;exact⟨rfl,b⟩
theorem Qy0(s t:St)(b:Option Addr)(a:Nat)(l:Option Addr)(i:Nat)(j:Option Addr)(f:Nat)(ao:Option Addr)(h:Nat)(k:Option Addr)(g:Nat)(d:Option Addr)(c:Nat)(v:Option Addr)(o:Nat)(p:Option Addr)(m:Nat)(r:Option Addr)(n:Nat)(q:Option Addr)(bN:Nat)(A B:Nat->Prop)(w:World)(D:StR A w s b a l i j f ao h k g)(E:StR B w t d c v o p m r n q bN)(R:t.broker=s.broker/\t.nextId=s.nextId/\t.nextSeq=s.nextSeq/\t.tx=s.tx)(x y:Msg)(K:s.ms=[x])(L:t.ms=[y])(J:y.q=x.q)(F:y.b=x.b)(G:x.cnt≠y.cnt):
 Calls prog 368 #[.agg #[.int .i64 s.broker,.int .i64 s.nextId,.int .i64 s.nextSeq,.int .i64 s.tx,.slice b s.ms.length a,.slice l s.waits.length i,.slice j s.ends.length f,.slice ao s.opens.length h,.slice k s.noes.length g],.agg #[.int .i64 t.broker,.int .i64 t.nextId,.int .i64 t.nextSeq,.int .i64 t.tx,.slice d t.ms.length c,.slice v t.waits.length o,.slice p t.ends.length m,.slice r t.opens.length n,.slice q t.noes.length bN]] w λe w'=>e=.returned (.bool false)/\Bel w w':=by
 have C:Bel w ((w.alloc (.cells #[.int .i64 s.broker,.int .i64 s.nextId,.int .i64 s.nextSeq,.int .i64 s.tx,.slice b s.ms.length a,.slice l s.waits.length i,.slice j s.ends.length f,.slice ao s.opens.length h,.slice k s.noes.length g] 43)).alloc (.cells #[.int .i64 t.broker,.int .i64 t.nextId,.int .i64 t.nextSeq,.int .i64 t.tx,.slice d t.ms.length c,.slice v t.waits.length o,.slice p t.ends.length m,.slice r t.opens.length n,.slice q t.noes.length bN] 43)):=((Bel.refl _).alloc _).alloc _;have H:((w.alloc (.cells #[.int .i64 s.broker,.int .i64 s.nextId,.int .i64 s.nextSeq,.int .i64 s.tx,.slice b s.ms.length a,.slice l s.waits.length i,.slice j s.ends.length f,.slice ao s.opens.length h,.slice k s.noes.length g] 43)).alloc (.cells #[.int .i64 t.broker,.int .i64 t.nextId,.int .i64 t.nextSeq,.int .i64 t.tx,.slice d t.ms.length c,.slice v t.waits.length o,.slice p t.ends.length m,.slice r t.opens.length n,.slice q t.noes.length bN] 43)).heap[w.heap.size]?=some (.cells #[.int .i64 s.broker,.int .i64 s.nextId,.int .i64 s.nextSeq,.int .i64 s.tx,.slice b s.ms.length a,.slice l s.waits.length i,.slice j s.ends.length f,.slice ao s.opens.length h,.slice k s.noes.length g] 43 (0,0)):=((Bel.refl _).alloc _).heap (heap_alloc_new _ _);have I:((w.alloc (.cells #[.int .i64 s.broker,.int .i64 s.nextId,.int .i64 s.nextSeq,.int .i64 s.tx,.slice b s.ms.length a,.slice l s.waits.length i,.slice j s.ends.length f,.slice ao s.opens.length h,.slice k s.noes.length g] 43)).alloc (.cells #[.int .i64 t.broker,.int .i64 t.nextId,.int .i64 t.nextSeq,.int .i64 t.tx,.slice d t.ms.length c,.slice v t.waits.length o,.slice p t.ends.length m,.slice r t.opens.length n,.slice q t.noes.length bN] 43)).heap[w.heap.size+1]?=some (.cells #[.int .i64 t.broker,.int .i64 t.nextId,.int .i64 t.nextSeq,.int .i64 t.tx,.slice d t.ms.length c,.slice v t.waits.length o,.slice p t.ends.length m,.slice r t.opens.length n,.slice q t.noes.length bN] 43 (0,0)):=by
  simpa using heap_alloc_new (w.alloc (.cells #[.int .i64 s.broker,.int .i64 s.nextId,.int .i64 s.nextSeq,.int .i64 s.tx,.slice b s.ms.length a,.slice l s.waits.length i,.slice j s.ends.length f,.slice ao s.opens.length h,.slice k s.noes.length g] 43)) (.cells #[.int .i64 t.broker,.int .i64 t.nextId,.int .i64 t.nextSeq,.int .i64 t.tx,.slice d t.ms.length c,.slice v t.waits.length o,.slice p t.ends.length m,.slice r t.opens.length n,.slice q t.noes.length bN] 43)
 obtain⟨ah,ai,ak,al,aj,aa,Y,X,Z⟩:=t;obtain⟨M,N,O,P⟩:=R;dsimp only at M N O P L E;subst M;subst N;subst O;subst P;subst L;obtain⟨ab,ac,ae,af,ad,V,S,U,T⟩:=s;dsimp only at K D;subst K;have Q:=Zh (λW (z:Bel w W)=>Qj7 A B W b d a c x y (D.ms.bel z) (E.ms.bel z) J F G);clear D E J F G;simp only[List.length_singleton]at C H I ⊢;generalize S.length=ne at *;generalize V.length=nw at *;generalize U.length=no at *;generalize T.length=nn at *;generalize Y.length=ne2 at *;generalize aa.length=nw2 at *;generalize X.length=no2 at *;generalize Z.length=nn2 at *;go_enter func368,ntmps368;go_wp2_with fail;refine(Q _ C).zR λD z=>?_
 have D:=Zh (C.trans z);clear z C H I;go_wp2;go_ret;exact⟨rfl,D⟩
theorem Qxk(r:Rec)(d:Option Addr)(b:Nat)(f:Option Addr)(c:Nat)(bp:Option Addr)(g:Nat)(i:Option Addr)(h:Nat)(A B:Nat->Prop)(w:World)(j:Rd Qh A w d b r.parts)(l:Rd Qh B w bp g r.parts)(m:Rd Qw A w f c r.puts)(n:Rd Qw B w i h r.puts):
 Calls prog 379 #[.agg #[.int .i64 r.kind,.int .i64 r.tid,.int .i64 r.id,.bool r.yes,.slice d r.parts.length b,.slice f r.puts.length c],.agg #[.int .i64 r.kind,.int .i64 r.tid,.int .i64 r.id,.bool r.yes,.slice bp r.parts.length g,.slice i r.puts.length h]] w λe w'=>e=.returned (.bool true)/\Bel w w':=by
 have k:Bel w ((w.alloc (.cells #[.int .i64 r.kind,.int .i64 r.tid,.int .i64 r.id,.bool r.yes,.slice d r.parts.length b,.slice f r.puts.length c] 124)).alloc (.cells #[.int .i64 r.kind,.int .i64 r.tid,.int .i64 r.id,.bool r.yes,.slice bp r.parts.length g,.slice i r.puts.length h] 124)):=((Bel.refl _).alloc _).alloc _;have o:((w.alloc (.cells #[.int .i64 r.kind,.int .i64 r.tid,.int .i64 r.id,.bool r.yes,.slice d r.parts.length b,.slice f r.puts.length c] 124)).alloc (.cells #[.int .i64 r.kind,.int .i64 r.tid,.int .i64 r.id,.bool r.yes,.slice bp r.parts.length g,.slice i r.puts.length h] 124)).heap[w.heap.size]?=some (.cells #[.int .i64 r.kind,.int .i64 r.tid,.int .i64 r.id,.bool r.yes,.slice d r.parts.length b,.slice f r.puts.length c] 124 (0,0)):=((Bel.refl _).alloc _).heap (heap_alloc_new _ _);have p:((w.alloc (.cells #[.int .i64 r.kind,.int .i64 r.tid,.int .i64 r.id,.bool r.yes,.slice d r.parts.length b,.slice f r.puts.length c] 124)).alloc (.cells #[.int .i64 r.kind,.int .i64 r.tid,.int .i64 r.id,.bool r.yes,.slice bp r.parts.length g,.slice i r.puts.length h] 124)).heap[w.heap.size+1]?=some (.cells #[.int .i64 r.kind,.int .i64 r.tid,.int .i64 r.id,.bool r.yes,.slice bp r.parts.length g,.slice i r.puts.length h] 124 (0,0)):=by
  simpa using heap_alloc_new (w.alloc (.cells #[.int .i64 r.kind,.int .i64 r.tid,.int .i64 r.id,.bool r.yes,.slice d r.parts.length b,.slice f r.puts.length c] 124)) (.cells #[.int .i64 r.kind,.int .i64 r.tid,.int .i64 r.id,.bool r.yes,.slice bp r.parts.length g,.slice i r.puts.length h] 124)
 obtain⟨q,s⟩:=Zh2 (λW (a:Bel w W)=>Qhj A B W d bp b g r.parts (j.bel a) (l.bel a)) (λW (a:Bel w W)=>Qhi A B W f i c h r.puts (m.bel a) (n.bel a));clear j l m n;generalize r.parts.length=np at *;generalize r.puts.length=nq at *;obtain⟨j,n,t⟩:=Zh3 k o p;clear k o p;go_enter func379,ntmps379;go_wp2_with fail;refine(q _ j).zR λk a=>?_
 have k:=Zh (j.trans a);have l:=a.heap n;have m:=a.heap t;have a5:=cell_of_block l 5 _ rfl;have o:=cell_of_block m 5 _ rfl;clear l m a;go_wp2_with fail;refine(s _ k).zR λl a=>?_
 have l:=Zh (k.trans a);clear a a5 o;go_wp2;go_ret;exact⟨rfl,l⟩
end Go.Proofs.YtkdpmdfcdgphlaaGreat
namespace Go.Po
open Go.Mem Go.Proofs.YtkdpmdfcdgphlaaGreat
def b8r:Rec:=⟨4,8589934597,0,false,[],[⟨⟨#[113]⟩,⟨#[98]⟩⟩]⟩
def Hy:Rec:=⟨0,0,0,false,[],[]⟩
theorem Qys:Qp b8r=true/\Qp Hy=false/\Zw 8589934597=true/\Zw 8589934592=false/\home 8589934597=2/\mk 2 5=8589934597:=by decide +kernel
theorem Qyt:Jl ⟨#[97,98,99]⟩=true/\Jl ⟨#[]⟩=false/\Jl ⟨#[65]⟩=false/\Ck ⟨#[]⟩=true:=by decide +kernel
theorem Qyu:rdV 2 [] false=0/\Km 2 [] false=([]:List UInt8)/\K3 2 [] false=true/\Qbo [] true=0/\Km 8 [] true=([]:List UInt8)/\K3 8 [] true=true:=by decide +kernel
end Go.Po
namespace Go.Proofs.YtkdpmdfcdgphlaaGreat
open Tryz
open Go.RowKit Go.Mem Go.Po
theorem Qw7(w:World):Calls prog 177 #[.int .i64 0] w λe w'=>e=.returned (.tuple #[.bool false,.bool false,.bool false,.bool false])/\w=w':=by
 go_enter func177,ntmps177;go_wp2;exact bodyPost_ret (v:=.tuple #[.bool false,.bool false,.bool false,.bool false]) (by simp[results,results177,go_sem]) rfl ⟨rfl,rfl⟩
theorem decode_nil(w:World):Calls prog 104 #[.slice none 0 0] w λe w'=>e=.returned (.tuple #[.agg #[.int .i64 0,.int .i64 0,.int .i64 0,.bool false,.slice none 0 0,.slice none 0 0],.int .i64 1])/\Bel w w':=by
 obtain⟨y,c⟩:=Zx (w.alloc (.cells #[.int .i64 0,.int .i64 0,.int .i64 0,.bool false,.slice none 0 0,.slice none 0 0] 124));have d:=Zb c;have f:=Zn c;obtain⟨n,i,g,a⟩:=Zh4 c d f Qyu;clear c d f;go_enter func104,ntmps104;go_wp2_with fail;rw[<-n.o];refine(V7 (λ_=>False) y none 0 [] (Rd.nil _ _ _ none 0 (Nat.zero_le _))).mono ?_;rintro e B ⟨b,rfl,d,c,b2⟩;obtain⟨j,s,p⟩:=Zh3 (i.trans b2) (b2.heap g.o) c;have F:w.heap.size<b:=by have:=Qb g.o;omega
 clear c b2 d;go_wp2_with fail;refine(Yk _ B b _ _ p).mono ?_;rw[a.1,a.2.1,a.2.2.1];rintro e C ⟨rfl,c,k3⟩;obtain⟨l,t,q⟩:=Zh3 (j.of_kept k3 λk A=>by omega) (k3.heap (by omega) s.o) c;clear c k3;go_wp2_with fail;refine(Tn _ C b _ _ q).mono ?_;rw[a.2.2.2.1,a.2.2.2.2.1,a.2.2.2.2.2];rintro e D ⟨rfl,h,f⟩;obtain⟨z,d⟩:=Zx (D.alloc (.cells #[.int .i64 0,.int .i64 0,.int .i64 0,.bool false,.slice none 0 0,.slice none 0 0] 124));have c:=Zb d;obtain⟨m,x,r,o⟩:=Zh4 ((l.of_kept f λk A=>by omega).trans c) (c.heap (f.heap (by omega) t.o)) (h.bel c) d;clear h f d c;go_wp2_with fail;rw[<-o.o];refine(Qw7 _).zS ?_;go_wp2_with fail;refine(Df _ z b _ _ r).zS ?_;obtain⟨⟨c,G⟩,⟨d,H⟩,⟨f,I⟩,⟨h,J⟩,⟨A,K⟩,⟨E,L⟩⟩:=Li x.o;go_wp2;refine bodyPost_ret (v:=.tuple #[.agg #[.int .i64 0,.int .i64 0,.int .i64 0,.bool false,.slice none 0 0,.slice none 0 0],.int .i64 1]) (by simp[results,results104,go_sem,c,d,f,h,A,E]) rfl ⟨rfl,?_⟩;exact Cw m (Nat.le_refl _) _ _ _ _ _ _
theorem Qpf(t:Int)(d:Zw t=true)(w:World):Calls prog 378 #[.agg #[.int .i64 5,.int .i64 1,.int .i64 2,.int .i64 t,.int .i64 0,.bool false]] w λe w'=>e=.returned (.bool true)/\Bel w w':=by
 obtain⟨i,a⟩:=Zx (w.alloc (.cells #[.int .i64 5,.int .i64 1,.int .i64 2,.int .i64 t,.int .i64 0,.bool false] 80));have c:=Zb a;have b:=Zn a;obtain⟨j,k,l,m,n,o⟩:=rAt b;have p:=Qb b;obtain⟨h,f,g⟩:=Zh3 a c d;clear a c b d;go_enter func378,ntmps378;go_upto_region 1 with (fail);rw[<-h.o];go_wp2_with fail;refine(X7 1 _).mono ?_;rw[show Qz 1=true from rfl];rintro e a ⟨rfl,rfl⟩;go_wp2_with fail;refine(X7 2 _).mono ?_;rw[show Qz 2=true from rfl];rintro e a ⟨rfl,rfl⟩;go_wp2_with fail;refine(Ux t g _).zS ?_;go_wp2;go_ret;exact⟨rfl,f⟩
theorem Qq5(w:World):Calls prog 377 #[] w λe w'=>e=.returned (.bool true)/\Bel w w':=by
 go_enter func377,ntmps377;go_wp2_with fail;refine(Qo7 w).zR λa a=>?_
 have b:=Zh a;clear a;go_wp2;go_ret;exact⟨rfl,b⟩
theorem Qpg(w:World):Calls prog 312 #[] w λe w'=>e=.returned (.bool true)/\Bel w w':=by
 obtain⟨W2,hW2⟩:=Zx ((w.alloc (.cells #[.string ⟨#[113]⟩,.string ⟨#[98]⟩] 33)).alloc (.cells #[.int .i64 4,.int .i64 8589934597,.int .i64 0,.bool false,.slice none 0 0,.slice (some ⟨w.heap.size,0,none⟩) 1 1] 124));have b2:=hW2▸((Bel.refl w).alloc _).alloc _;have p2:W2.heap[w.heap.size]?=some (.cells #[.string ⟨#[113]⟩,.string ⟨#[98]⟩] 33 (0,0)):=by rw[hW2];exact Ke _ _ _
 have r2:W2.heap[w.heap.size+1]?=some (.cells #[.int .i64 4,.int .i64 8589934597,.int .i64 0,.bool false,.slice none 0 0,.slice (some ⟨w.heap.size,0,none⟩) 1 1] 124 (0,0)):=by rw[hW2];exact Jc _ _ _
 have hu:Rd Qw (λ_=>False) W2 (some ⟨w.heap.size,0,none⟩) 1 b8r.puts:=⟨[.string ⟨#[113]⟩,.string ⟨#[98]⟩],Ch.one rfl rfl,rfl,Nat.le_refl _,by simp[maxLen],λ_=>⟨w.heap.size,0,_,_,_,rfl,Qb p2,λhk=>hk,p2,λj u hj=>by simpa using hj⟩⟩;have hti:i64 b8r.tid:=by simp[i64,b8r]
 have hii:i64 b8r.id:=by simp[i64,b8r]
 have hqq:∀p∈b8r.puts,p.q.size<=maxLen:=λp hp=>by simp only[b8r,List.mem_singleton]at hp;subst hp;simp[maxLen,ByteArray.size]
 have hzq:∀p∈Hy.puts,p.q.size<=maxLen:=λp hp=>by simp[Hy]at hp
 have hno:∀W,Rd Qh (λ_=>False) W none 0 b8r.parts:=λW=>Rd.nil _ _ _ none 0 (Nat.zero_le _)
 obtain⟨HU,HTI,HZ,HNO,HW,B2,R2,FR,FSq⟩:=Zh9 hu (And.intro hti (And.intro hii hqq)) hzq hno hW2 b2 r2 Qys Qyt;obtain⟨d0,d1,d2,d3,d4,d5⟩:=rAt r2;have hl2:=Qb r2;clear hW2 b2 p2 r2 hu hti hii hqq hzq hno;go_enter func312,ntmps312;go_wp2_with fail;refine(Ms 2 5 w).mono ?_;rw[FR.2.2.2.2.2];rintro e w1 ⟨rfl,rfl⟩;go_upto_region 3 with (fail);rw[<-HW.o];go_wp2_with fail;refine(Qaj b8r none 0 (some ⟨w.heap.size,0,none⟩) 1 HTI.1 HTI.2.1 (λ_=>False) W2 (λ_ h=>h.elim) (HNO W2) HU HTI.2.2 FR.1).mono ?_;rintro e w3 ⟨⟨ao,cap,rfl,h3⟩,b3⟩;obtain⟨B3,R3,U3,H3⟩:=Zh4 (B2.trans b3) (b3.heap R2.o) (HU.bel b3) h3;clear h3 b3 d0 d1 d2 d3 d4 d5;go_wp2_with fail;refine(Si b8r HTI.1 HTI.2.1 (λ_=>False) w3 (λ_ h=>h.elim) ao cap H3 FR.1).mono ?_;rintro e w4 ⟨⟨xp,xP,xq,xQ,rfl,hp4,hu4⟩,b4⟩;obtain⟨W5,hW5⟩:=Zx (w4.alloc (.cells #[.int .i64 b8r.kind,.int .i64 b8r.tid,.int .i64 b8r.id,.bool b8r.yes,.slice xp b8r.parts.length xP,.slice xq b8r.puts.length xQ] 124));have b5:=Zb hW5;have r5:=Zn hW5;obtain⟨B5,R5,U5,X5,P5,V5,HW5⟩:=Zh7 (B3.trans (b4.trans b5)) ((b4.trans b5).heap R3.o) (U3.bel (b4.trans b5)) r5 (hp4.bel b5) (hu4.bel b5) hW5;clear b4 b5 r5 hW5 hp4 hu4;go_wp2_with fail;rw[<-HW5.o];refine(decode_nil W5).zR λw6 b6=>?_
 obtain⟨W7,hW7⟩:=Zx (w6.alloc (.cells #[.int .i64 0,.int .i64 0,.int .i64 0,.bool false,.slice none 0 0,.slice none 0 0] 124));have b7:=b6.trans (hW7▸(Bel.refl _).alloc _);obtain⟨B7,HW7⟩:=Zh2 b7 hW7;clear b6 b7 hW7;go_wp2_with fail;rw[<-HW7.o];refine(Qq5 W7).zR λw8 b8=>?_
 have B8:=Zh (B7.trans b8);clear b8;go_wp2_with fail;refine(Dh ⟨#[97,98,99]⟩ (by simp[maxLen,ByteArray.size]) w8).mono ?_;rw[FSq.1];rintro e w9 ⟨rfl,rfl⟩;go_wp2_with fail;refine(Dh ⟨#[]⟩ (by simp[maxLen,ByteArray.size]) w8).mono ?_;rw[FSq.2.1];rintro e w9 ⟨rfl,rfl⟩;go_wp2_with fail;refine(Dh ⟨#[65]⟩ (by simp[maxLen,ByteArray.size]) w8).mono ?_;rw[FSq.2.2.1];rintro e w9 ⟨rfl,rfl⟩;go_wp2_with fail;refine(Qkp ⟨#[]⟩ w8).mono ?_;rw[FSq.2.2.2];rintro e w9 ⟨rfl,rfl⟩;go_wp2_with fail;refine(Wq 8589934597 HTI.1 w8).mono ?_;rw[FR.2.2.1];rintro e w9 ⟨rfl,rfl⟩;go_wp2_with fail;refine(Bf 8589934597 HTI.1 w8).mono ?_;rw[FR.2.2.2.2.1];rintro e w9 ⟨rfl,rfl⟩;go_wp2_with fail;refine(Wq 8589934592 (by simp[i64]) w8).mono ?_;rw[FR.2.2.2.1];rintro e w9 ⟨rfl,rfl⟩;obtain⟨d0,d1,d2,d3,d4,d5⟩:=rAt (B8.heap R5.o);go_wp2_with fail;refine(J9 b8r none 0 (some ⟨w.heap.size,0,none⟩) 1 HTI.1 HTI.2.1 HTI.2.2 (λ_=>False) w8 (HNO w8) (U5.bel B8)).mono ?_;rw[FR.1];rintro e w9 ⟨rfl,b9⟩;have B9:=Zh (B8.trans b9);clear b9 d0 d1 d2 d3 d4 d5;go_wp2_with fail;refine(J9 Hy none 0 none 0 (by simp[i64,Hy]) (by simp[i64,Hy]) HZ.o (λ_=>False) w9 (Rd.nil _ _ _ none 0 (Nat.zero_le _)) (Rd.nil _ _ _ none 0 (Nat.zero_le _))).mono ?_;rw[FR.2.1];rintro e w10 ⟨rfl,b10⟩;have B10:=Zh (B9.trans b10);clear b10;go_wp2_with fail;refine(Qpf 8589934597 FR.2.2.1 w10).zR λw11 b11=>?_
 have B11:=Zh (B10.trans b11);clear b11;obtain⟨d0,d1,d2,d3,d4,d5⟩:=rAt (B11.heap R5.o);obtain⟨e0,e1,e2,e3,e4,e5⟩:=rAt (B11.heap X5.o);go_wp2_with fail;refine(Qxk b8r xp xP xq xQ none 0 (some ⟨w.heap.size,0,none⟩) 1 (λ_=>False) (λ_=>False) w11 (P5.bel B11) (HNO w11) (V5.bel B11) (U5.bel B11)).zR λw12 b12=>?_
 have B12:=Zh (B11.trans b12);clear b12 d0 d1 d2 d3 d4 d5 e0 e1 e2 e3 e4 e5;go_wp2_with fail;refine(Qqh Hy none 0 none 0 (by simp[i64,Hy]) (by simp[i64,Hy]) (λ_=>False) w12 (Rd.nil _ _ _ none 0 (Nat.zero_le _)) (Rd.nil _ _ _ none 0 (Nat.zero_le _)) HZ.o FR.2.1).zR λw13 b13=>?_
 have B13:=Zh (B12.trans b13);clear b13;have hse:∀w:World,Sem.run prog (binOp BinOp.eql 179 (.slice none 0 0) (.slice none 0 0)) w=.ok (.bool true) w:=λw=>rfl
 go_wp2;go_ret;exact⟨rfl,B5.trans B13⟩
end Go.Proofs.YtkdpmdfcdgphlaaGreat
namespace Go.Po
open Go.Mem Go.Proofs.YtkdpmdfcdgphlaaGreat
def nA1:ByteArray:=⟨#[97,49]⟩
def nB:ByteArray:=⟨#[98]⟩
def xyz:List UInt8:=[120,121,122]
def v31:Vw:=[(nA1,⟨xyz,0,false⟩)]
def v32:Vw:=[(nA1,⟨xyz,3,true⟩)]
def v33:Vw:=[(nB,⟨xyz,3,true⟩)]
theorem Qje:Jb nA1=true/\Jb ⟨#[65]⟩=false/\Jb nB=true/\Jb ⟨#[99]⟩=true/\nA1≠nB:=by decide +kernel
theorem Qyi:Xi nA1 xyz []=v31:=by kernel_rfl
theorem Qwz:(Qg nA1 v31).isSome=true/\Zg nA1 v31=v32:=⟨by kernel_rfl,by kernel_rfl⟩
theorem Qw0:Qg nA1 v32=some ⟨xyz,3,true⟩/\moved nA1 nB (marked ⟨xyz,3,true⟩) v32=v33/\Qg nA1 v33=none/\Qg nB v33=some ⟨xyz,3,true⟩/\used v33=3:=⟨by kernel_rfl,by kernel_rfl,by kernel_rfl,by kernel_rfl,by kernel_rfl⟩
theorem Qw1:Jm 2 v31=[(nA1,⟨[120,121],2,true⟩)]/\Jm 0 v31=[]/\Jm (-1) v33=v33:=⟨by kernel_rfl,by kernel_rfl,by kernel_rfl⟩
theorem Qyj:Qg nA1 [(nA1,(⟨[120,121],2,true⟩:File))]=some ⟨[120,121],2,true⟩/\Qg nA1 ([]:Vw)=none:=⟨by kernel_rfl,by kernel_rfl⟩
end Go.Po
namespace Go.Proofs.YtkdpmdfcdgphlaaGreat
open Tryz
open Go.RowKit Go.Mem Go.Po
section
variable (A O : Nat → Prop) (w : World) (hA : ∀ k, A k → k < w.heap.size) (b : Nat) (room : Int) (v : Vw) (h : Dk A O w b room v)
include h in
theorem Qjf(s:ByteArray)(hs:s.size<=maxLen)(hn:Qg s v=none):
 Calls prog 97 #[.pointer (some ⟨b,0,none⟩),.string s] w λe w'=>e=.returned (.int .i64 6)/\w=w':=by
 obtain⟨mb,fs,h1,rfl,_⟩:=h;rw[Ui,Option.map_eq_none_iff]at hn;exact Qhk s hs A O w b room mb fs h1 hn
include h in
theorem Qw2(s:ByteArray)(hs:s.size<=maxLen)(f:File)(hn:Qg s v=some f):
 Calls prog 454 #[.pointer (some ⟨b,0,none⟩),.string s] w λe w'=>e=.returned (.int .i64 f.sure)/\w=w':=by
 obtain⟨mb,fs,h1,rfl,_⟩:=h;rw[Ui,Option.map_eq_some_iff]at hn;obtain⟨⟨n,f'⟩,hg,rfl⟩:=hn;exact Quj s hs A O w b room mb fs h1 n f' hg
include h in
theorem Qw3:Calls prog 322 #[.pointer (some ⟨b,0,none⟩)] w λe w'=>e=.returned (.int .i64 (used v))/\Bel w w':=by
 obtain⟨mb,fs,h1,rfl,_⟩:=h;exact Qd7 A O w b room mb fs h1
include h in
theorem Qw4(s:ByteArray)(hs:Jb s=true)(hl:s.size<=maxLen)(bo:Option Addr)(bc:Nat)(bs:List UInt8)(hbl:bs.length<=1048576)(hfull:room<(used v:Int)+(bs.length:Int)):
 Calls prog 236 #[.pointer (some ⟨b,0,none⟩),.string s,.slice bo bs.length bc] w λe w'=>e=.returned (.int .i64 5)/\Bel w w':=by
 obtain⟨mb,fs,h1,rfl,hr⟩:=h;exact Qm7 s hs hl A O w b room mb fs h1 hr bo bc bs hbl hfull
end
theorem Qpb(w:World):Calls prog 428 #[] w λe w'=>e=.returned (.bool true)/\Bel w w':=by
 obtain⟨m,G,d,t,F⟩:=Zh5 Qje Qwz Qw0 Qw1 Qyj;have aC:=fun (w:World) (C:Array Value) (n c:Nat)=>Lib.run_convert_bytes_const (P:=prog) w 179 5 C n c underlying179 underlying5
 obtain⟨C,a⟩:=Zx (Array.replicate 98 (Value.int .u8 0));have aD:∀w,(Instr.makeSlice 179 (.int .i64 98) (.int .i64 98)).run prog w=.ok (.slice (some ⟨w.heap.size,0,none⟩) 98 98) (w.alloc (.cells C 5)):=λw=>by rw[a];kernel_rfl
 clear a;go_enter func428,ntmps428;go_wp2_with fail;refine(Cg w 100 (by omega)).mono ?_;rintro e p ⟨rfl,y,s,E⟩;have a:Dk (λk=>k=w.heap.size+1\/k=w.heap.size) (λk=>k=w.heap.size+1\/k=w.heap.size) p (w.heap.size+1) 100 []:=⟨w.heap.size,[],y _ λ_ h=>h,rfl,by omega,by omega⟩;obtain⟨O,l⟩:=Zx (λk=>k=w.heap.size+1\/k=w.heap.size);obtain⟨b,v⟩:=Zx (w.heap.size+1);have A:∀k,O k->w.heap.size<=k:=λk h=>by rw[l]at h;omega
 rw[<-l]at a;rw[<-v]at a ⊢;obtain⟨J,i⟩:=Zx (p.alloc (.cells #[.int .u8 120,.int .u8 121,.int .u8 122] 5 (3,4)));have b2:=Zb i;have r:=i▸heap_alloc_new _ _;have q:=a.lt;have D:Rd Ql O J (some ⟨p.heap.size,0,none⟩) 3 xyz:=⟨[.int .u8 120,.int .u8 121,.int .u8 122],Ch.flat (f:=λx:UInt8=>[Value.int .u8 x.toNat]) (size:=1) (λ_=>rfl) xyz,rfl,by simp[xyz],by simp[maxLen],λ_=>⟨p.heap.size,0,_,_,_,rfl,Qb r,λg=>absurd (q _ g) (by omega),r,λj o o=>by simpa using o⟩⟩;have o:=G5 O O J (λk g=>Nat.lt_of_lt_of_le (q k g) b2.size) b 100 [] (a.bel b2) nA1 Qje.1 (by simp[maxLen,nA1,ByteArray.size]) _ 3 xyz D (by simp[used,xyz]) (by simp);rw[Qyi,show xyz.length=3 from rfl]at o;obtain⟨ah,ai,z,I⟩:=Zh4 o i (s.trans b2) A;clear y s E a l v A i b2 r q D o;go_wp2_with fail;rw[<-ai.o];refine ah.mono ?_;rintro e ax ⟨rfl,a,i,k3,l⟩;obtain⟨H,S,ac⟩:=Zh3 (show ∀k,a k->w.heap.size<=k fromλk g=>(l k g).elim (I.o k) λh=>Nat.le_trans z.size h) (z.of_kept k3 I.o) (i.mono (B:=a) (λ_ _ h=>.inr h) λ_ h=>h);clear i k3 l;go_wp2_with fail;refine(Qm6 ⟨#[65]⟩ m.2.1 (by simp[maxLen,ByteArray.size]) ax b _).zR λi g=>?_
 obtain⟨T,r⟩:=Zh2 (S.trans g) (ac.bel g);clear g;go_wp2_with fail;refine(Cz a a i r.lt b 100 v31 r 2).mono ?_;rintro e ay ⟨ar,aF,o,rfl,i,l,q,g⟩;rw[t.1]at l;rw[List.perm_singleton.1 l]at i;obtain⟨U,A,E⟩:=Zh3 (T.trans g) (r.bel g) i;clear i l q g;go_wp2_with fail;refine(Cf (λk=>a k\/o k) o ay (λk h=>h.elim (A.lt k) (E.lt k)) ar 100 _ E.o nA1 (by simp[maxLen,nA1,ByteArray.size]) _ F.1).mono ?_;rintro e az ⟨⟨a9,a8,rfl,i⟩,g⟩;obtain⟨al,V,s⟩:=Zh3 i (U.trans g) (A.bel g);clear i g;go_wp2_with fail;refine(Cz a a az s.lt b 100 v31 s 0).mono ?_;rintro e K ⟨au,aG,y,rfl,i,l,q,g⟩;rw[t.2.1]at l;rw[List.perm_nil.1 l]at i;obtain⟨W,ad,am,af⟩:=Zh4 (V.trans g) (s.bel g) (al.bel g) (i.mono (B:=y) (λ_ _ h=>.inr h) λ_ h=>h);clear i l q g;go_wp2_with fail;refine(Sk y y K au 100 _ af.o nA1 (by simp[maxLen,nA1,ByteArray.size]) F.2).zS ?_;go_wp2_with fail;refine(Qck a a K b 100 v31 ad.o nA1 (by simp[maxLen,nA1,ByteArray.size])).mono ?_;rw[G.1,G.2];rintro e w8 ⟨rfl,i,g⟩;obtain⟨X,ae,an⟩:=Zh3 (W.of_kept g H.o) i (am.keep (B:=λk=>a k\/o k) g (λk h=>.inl h) λ_ _ h=>h);clear i g;go_wp2_with fail;refine(Qbd a a w8 b 100 v32 ae.o nA1 nB (by simp[maxLen,nA1,ByteArray.size]) (by simp[maxLen,nB,ByteArray.size]) m.2.2.1 m.2.2.2.2 _ d.1).mono ?_;rw[d.2.1];rintro e L ⟨rfl,i,g⟩;obtain⟨Y,l,ao⟩:=Zh3 (X.of_kept g H.o) i (an.keep (B:=λk=>a k\/o k) g (λk h=>.inl h) λ_ _ h=>h);clear i g;go_wp2_with fail;refine(Qjf a a L b 100 v33 l.o nA1 (by simp[maxLen,nA1,ByteArray.size]) d.2.2.1).zS ?_;go_wp2_with fail;refine(Cz a a L l.lt b 100 v33 l (-1)).mono ?_;rintro e av ⟨aq,aE,v,rfl,i,p10,q,g⟩;rw[t.2.2]at p10;rw[List.perm_singleton.1 p10]at i;obtain⟨M,Z,aj,D⟩:=Zh4 (Y.trans g) (l.bel g) (ao.bel g) (i.mono (B:=v) (λ_ _ h=>.inr h) λ_ h=>h);clear i p10 q g;go_wp2_with fail;refine(Cf v v av D.lt aq 100 _ D.o nB (by simp[maxLen,nB,ByteArray.size]) _ d.2.2.2.1).mono ?_;rintro e aw ⟨⟨aB,aA,rfl,i⟩,g⟩;obtain⟨ap,N,aa,ak⟩:=Zh4 i (M.trans g) (Z.bel g) (aj.bel g);clear i g;go_wp2_with fail;refine(Qq5 aw).zR λg i=>?_
 obtain⟨Q,q⟩:=Zh2 (N.trans i) (aa.bel i);have R:(convert 179 9 (.slice a9 2 a8)).run prog g=.ok (.string ⟨#[120,121]⟩) g:=Fy (P:=prog) 179 9 5 underlying179 underlying5 underlying9 (ak.bel i);have ab:(convert 179 9 (.slice aB xyz.length aA)).run prog g=.ok (.string ⟨#[120,121,122]⟩) g:=Fy (P:=prog) 179 9 5 underlying179 underlying5 underlying9 (ap.bel i);clear i;go_wp2_with fail;refine(Qw2 a a g b 100 v33 q.o nB (by simp[maxLen,nB,ByteArray.size]) _ d.2.2.2.1).zS ?_;clear R ab;go_wp2_with fail;refine(Qw3 a a g b 100 v33 q).mono ?_;rw[d.2.2.2.2];rintro e aH ⟨rfl,g⟩;obtain⟨i,ab⟩:=Zh2 (Q.trans g) (q.bel g);clear g;go_wp2_with fail;refine(Qw4 a a _ b 100 v33 (ab.bel ((Bel.refl _).alloc _)) ⟨#[99]⟩ m.2.2.2.1 (by simp[maxLen,ByteArray.size]) _ _ (List.replicate 98 0) (by simp) (by rw[d.2.2.2.2];simp)).zR λg g=>?_
 have R:=Zh ((i.alloc _).trans g);clear g;go_wp2;go_ret;exact⟨rfl,R⟩
theorem Qyk(w:World):Calls prog 369 #[] w λe w'=>e=.returned (.bool true)/\Bel w w':=by
 go_enter func369,ntmps369;go_wp2_with fail;refine(Qpb w).zR λa a=>?_
 have b:=Zh a;clear a;go_wp2;go_ret;exact⟨rfl,b⟩
end Go.Proofs.YtkdpmdfcdgphlaaGreat

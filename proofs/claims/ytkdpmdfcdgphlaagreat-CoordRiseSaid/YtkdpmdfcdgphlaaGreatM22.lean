/- Part of this claim's proof. Conditions: as its theorems say. -/
import Derived.Test.YtkdpmdfcdgphlaaGreatM20
set_option linter.all false
set_option maxHeartbeats 4000000
set_option maxRecDepth 100000
namespace Go.Proofs.YtkdpmdfcdgphlaaGreat
open Tryz
open Go.RowKit Go.Mem Go.Po Go.Maps
theorem Qfw(s:St)(f:Option Addr)(b:Nat)(g:Option Addr)(c:Nat)(o:Option Addr)(j:Nat)(q:Option Addr)(l:Nat)(p:Option Addr)(sN:Nat)(more:List Put)(x:Option Addr)(v:Nat)(A:Nat->Prop)(w:World)(r:Rd Xy A w f b s.ms)(z:Rd Zm A w g c s.waits)(y:Rd Qw A w x v more)(t:s.ms.length<=10000/\s.waits.length<=10000/\(more++s.waits.flatMap (·.puts)).length<=50000):
 Calls prog 232 #[.agg #[.int .i64 s.broker,.int .i64 s.nextId,.int .i64 s.nextSeq,.int .i64 s.tx,.slice f s.ms.length b,.slice g s.waits.length c,.slice o s.ends.length j,.slice q s.opens.length l,.slice p s.noes.length sN],.slice x more.length v] w λe w'=>∃ao cap,e=.returned (.slice ao (Wx (Vg s more)).length cap)/\Bel w w':=by
 have a:Bel w (w.alloc (.cells #[.int .i64 s.broker,.int .i64 s.nextId,.int .i64 s.nextSeq,.int .i64 s.tx,.slice f s.ms.length b,.slice g s.waits.length c,.slice o s.ends.length j,.slice q s.opens.length l,.slice p s.noes.length sN] 43)):=(Bel.refl _).alloc _;obtain⟨h,i,F⟩:=Zh3 (Qfk s f b g c o j q l p sN more x v A _ (r.bel a) (z.bel a) (y.bel a) ⟨by omega,by omega,by omega⟩) (show(Vg s more).length<=60000 by simp only[Vg,List.length_append,List.length_map]at t ⊢;omega) a;have e0:=cell_of_block (heap_alloc_new w (.cells #[.int .i64 s.broker,.int .i64 s.nextId,.int .i64 s.nextSeq,.int .i64 s.tx,.slice f s.ms.length b,.slice g s.waits.length c,.slice o s.ends.length j,.slice q s.opens.length l,.slice p s.noes.length sN] 43)) 0 _ rfl;clear r z y a t;obtain⟨y,z⟩:=Zx (Vg s more);rw[<-z]at h i ⊢;obtain⟨d,a⟩:=Zx ((Wx y).length);rw[<-a];have I:=Zh a;obtain⟨n,t⟩:=Zx y.length;rw[<-t]at h i;have r:=Zh t;clear t a z;generalize s.ms.length=n1 at *;generalize s.waits.length=n2 at *;generalize s.ends.length=n3 at *;generalize s.opens.length=n4 at *;generalize s.noes.length=n5 at *;go_enter func232,ntmps232;go_wp2_with fail;refine h.mono ?_;rintro e L ⟨ao,cap,rfl,a,z⟩;have G:=Zh (F.trans z);have C:Hid (∀k,Qc ao cap k->w.heap.size<=k):=Zh (by obtain⟨_,_,_,J⟩:=a;intro k K;have:=J k K;simp at this;omega);have t:=Zh (Qvo A _ L ao cap y a (by have:=i.o;have:=r.o;omega));rw[<-r.o]at t;clear a z h;go_wp2_with fail;refine t.mono ?_;rintro e M ⟨rfl,m,h,E,D,z⟩;have B:m.length=n:=by rw[h.length_eq,r.o]
 have a:=Zh (Qm0 A _ M ao cap m D (by have:=i.o;omega));rw[B,Qk8 h E,<-I.o]at a;have H:=Zh (G.of_kept z C);clear t h E D z B;go_wp2_with fail;refine a.mono ?_;rintro e z ⟨rfl,-,h⟩;have t:=Zh (H.of_kept h C);clear a h;go_wp2;go_ret;exact⟨ao,cap,rfl,t⟩
theorem Qlz(s:St)(g:Option Addr)(b:Nat)(i:Option Addr)(f:Nat)(m:Option Addr)(j:Nat)(p:Option Addr)(l:Nat)(o:Option Addr)(sN:Nat)(q:ByteArray)(more:List Put)(C:Option Addr)(B:Nat)(A:Nat->Prop)(w:World)(h:Rd Xy A w g b s.ms)(K:Rd Zm A w i f s.waits)(I:Rd Qw A w C B more)(H:s.ms.length<=10000/\s.waits.length<=10000/\(more++s.waits.flatMap (·.puts)).length<=50000):
 Calls prog 142 #[.agg #[.int .i64 s.broker,.int .i64 s.nextId,.int .i64 s.nextSeq,.int .i64 s.tx,.slice g s.ms.length b,.slice i s.waits.length f,.slice m s.ends.length j,.slice p s.opens.length l,.slice o s.noes.length sN],.string q,.slice C more.length B] w λe w'=>e=.returned (.bool (Qcr s q more))/\Bel w w':=by
 have r:Bel w ((w.alloc (.cells #[.int .i64 s.broker,.int .i64 s.nextId,.int .i64 s.nextSeq,.int .i64 s.tx,.slice g s.ms.length b,.slice i s.waits.length f,.slice m s.ends.length j,.slice p s.opens.length l,.slice o s.noes.length sN] 43)).alloc (.cells #[.string q] 9)):=((Bel.refl _).alloc _).alloc _;obtain⟨v,E,y,M⟩:=Zh4 (Qfk s g b i f m j p l o sN more C B A _ (h.bel r) (K.bel r) (I.bel r) ⟨by omega,by omega,by omega⟩) (λW (a:Bel w W)=>Qfw s g b i f m j p l o sN more C B A W (h.bel a) (K.bel a) (I.bel a) H) (show(Vg s more).length<=60000 by simp only[Vg,List.length_append,List.length_map]at H ⊢;omega) r;have L:=Ke w (.cells #[.int .i64 s.broker,.int .i64 s.nextId,.int .i64 s.nextSeq,.int .i64 s.tx,.slice g s.ms.length b,.slice i s.waits.length f,.slice m s.ends.length j,.slice p s.opens.length l,.slice o s.noes.length sN] 43) (.cells #[.string q] 9);have k1:=Jc w (.cells #[.int .i64 s.broker,.int .i64 s.nextId,.int .i64 s.nextSeq,.int .i64 s.tx,.slice g s.ms.length b,.slice i s.waits.length f,.slice m s.ends.length j,.slice p s.opens.length l,.slice o s.noes.length sN] 43) (.cells #[.string q] 9);have ai:=Qne;obtain⟨a,J⟩:=Zx (Vg s more);have N:Qcr s q more=if 0<Nf q a then decide (Nf q a<12) else decide ((Wx a).length<6):=by rw[J];rfl
 rw[N];rw[<-J]at v y E;obtain⟨d,G⟩:=Zx ((Wx a).length);obtain⟨n,z⟩:=Zx a.length;obtain⟨c,D⟩:=Zx (Nf q a);rw[<-z]at v y;rw[<-D,<-G];rw[<-G]at E;have t:=Zh z;have F:=Qp8 q a;rw[<-D,<-z]at F;clear h K I r H G z D J N;generalize s.ms.length=n1 at *;generalize s.waits.length=n2 at *;generalize s.ends.length=n3 at *;generalize s.opens.length=n4 at *;generalize s.noes.length=n5 at *;obtain⟨W,r⟩:=Zx ((w.alloc (.cells #[.int .i64 s.broker,.int .i64 s.nextId,.int .i64 s.nextSeq,.int .i64 s.tx,.slice g n1 b,.slice i n2 f,.slice m n3 j,.slice p n4 l,.slice o n5 sN] 43)).alloc (.cells #[.string q] 9));rw[<-r]at L k1 M v;have D:W.heap.size=w.heap.size+2:=by rw[r];simp
 obtain⟨J,Z,Y,z⟩:=Zh4 L k1 r D;clear L k1 r D;obtain⟨N,r⟩:=Zx ((a.filter λx=>!decide (x=q)).length);rw[<-r]at F;have X:=Zh r;have D:((n:Nat):Int)-((N:Nat):Int)=(c:Int):=by omega
 have aq:IntKind.i64.wrap ((n:Int)-(N:Int))=(c:Int):=by rw[D,IntKind.wrap_i64];have:=y.o;omega
 have Q:Hid (n<=60000):=Zh y.o;clear r F D;by_cases r:0<c;all_goals
  first
   | (rw[if_pos r])
   | (rw[if_neg r]
      obtain rfl:c=0:=by omega
      clear r)
  go_enter func142,ntmps142;go_upto_region 1 with (fail);rw[<-Y.o];obtain⟨e0,P,aa,ab,ac,ad,ae,af,ah⟩:=Ca9 J.o;go_wp2_with fail;refine v.mono ?_;rintro e R ⟨ao,cap,rfl,G,r⟩;obtain⟨I,D⟩:=Zh2 (M.trans r) r;have F:=Qrd (λ_=>False) R ao cap a G.rd0 (by have:=Q.o;have:=t.o;omega);rw[<-t.o]at F;have U:=Zh F;clear F G r;go_wp2_with fail;refine U.mono ?_;rintro e an ⟨⟨L,K,rfl,H⟩,r⟩;have G:Hid (∀k,Qc L K k->W.heap.size<=k):=Zh (by obtain⟨_,_,_,al⟩:=H;intro k am;have:=al k am;have:=z.o;have:=I.size;have ap:=D.size;omega);have T:=Zh (I.trans r);have F:=Qew (λx=>decide (x=q)) 231 #[.pointer (some ⟨w.heap.size+1,0,none⟩)] ai (λ_=>False) R an L K a H (by have:=Q.o;have:=t.o;omega)
   (λx O _ S=>Qsb x q _ O (S.cell (λh=>by have:=G.o (w.heap.size+1) h;have:=z.o;omega) (cell_of_block ((D.trans r).heap Z.o) 0 _ rfl)))
  rw[<-t.o,<-X.o]at F;obtain⟨V,S⟩:=Zh2 F r;clear F H r;go_wp2_with fail;refine V.mono ?_;rintro e av ⟨rfl,-,F⟩;obtain⟨r,H⟩:=Zh2 (T.of_kept F λk h=>by have:=G.o k h;have:=z.o;omega) (F.heap (λh=>by have:=G.o _ h;have:=z.o;omega) ((D.trans S.o).heap J.o));clear F e0 P aa ab ac ad ae af ah;first
   | (by_cases P:c<12)
   | (have aa:=cell_of_block H.o 0 _ rfl
      obtain⟨-,ab,ac,ad,ae,af,ah,aj,ak⟩:=Ca9 H.o;go_wp2_with fail;refine(E _ r).mono ?_;rintro e aw ⟨au,ar,rfl,O⟩;have F:=Zh (r.trans O);clear O aa ab ac ad ae af ah aj ak;by_cases O:d<6)
  ·go_wp2
   go_ret;first|(exact⟨by simp[P];omega,r.o⟩)|(exact⟨by simp[O];omega,F.o⟩)
  ·go_wp2
   go_ret;first|(exact⟨by simp[P];omega,r.o⟩)|(exact⟨by simp[O];omega,F.o⟩)
end Go.Proofs.YtkdpmdfcdgphlaaGreat
namespace Go.Po
def Qbt(s:St)(m:Msg):Bool:=!(m.who==0)&&!(s.waits.any λb=>b.tid==m.who)&&!(s.opens.any λp=>p.tid==m.who)
def Xr(s:St)(l:List Msg):List Int:=(l.filter (Qbt s)).map (·.who)
end Go.Po
namespace Go.Proofs.YtkdpmdfcdgphlaaGreat
open Tryz
open Go.RowKit Go.Mem Go.Po
def J5(s:St):List Int:=Zi (sortI (Xr s s.ms))
theorem Qgy(x:Branch)(ao:Option Addr)(cap:Nat)(t:Int)(b:Nat)(W:World)(c:W.cell? ⟨b,5,none⟩=some (.int .i64 t)):Calls prog 189 (#[.agg #[.int .i64 x.tid,.slice ao x.puts.length cap]]++#[.pointer (some ⟨b,0,none⟩)]) W λe a=>e=.returned (.bool (x.tid==t))/\Bel W a:=by
 have a:=Zd c;show Calls prog 189 #[.agg #[.int .i64 x.tid,.slice ao x.puts.length cap],.pointer (some ⟨b,0,none⟩)] W _;go_enter func189,ntmps189;go_wp2;go_ret;exact⟨rfl,(Bel.refl W).alloc _⟩
theorem Qim:∀a w,(callFunc 189 a).run prog w=.ok (.enter 189 a) w:=enters_of func189 (by kernel_rfl) rfl
theorem Qgz(x:Qv)(ao:Option Addr)(cap:Nat)(t:Int)(b:Nat)(W:World)(c:W.cell? ⟨b,5,none⟩=some (.int .i64 t)):Calls prog 190 (#[.agg #[.int .i64 x.tid,.slice ao x.parts.length cap]]++#[.pointer (some ⟨b,0,none⟩)]) W λe a=>e=.returned (.bool (x.tid==t))/\Bel W a:=by
 have a:=Zd c;show Calls prog 190 #[.agg #[.int .i64 x.tid,.slice ao x.parts.length cap],.pointer (some ⟨b,0,none⟩)] W _;go_enter func190,ntmps190;go_wp2;go_ret;exact⟨rfl,(Bel.refl W).alloc _⟩
theorem Qin:∀a w,(callFunc 190 a).run prog w=.ok (.enter 190 a) w:=enters_of func190 (by kernel_rfl) rfl
theorem Qio{s:St}{i:Nat}{x:Msg}(a:s.ms[i]?=some x):Xr s (s.ms.take (i+1))=Xr s (s.ms.take i)++if Qbt s x=true then [x.who] else []:=by
 rw[List.take_add_one,a];simp only[Xr,Option.toList_some,List.filter_append,List.map_append];congr 1
 by_cases h:Qbt s x=true<;>simp[h]
theorem M5(s:St)(l:List Msg):(Xr s l).length<=l.length:=by
 simp only[Xr,List.length_map];exact List.length_filter_le _ _
theorem Qr5(s:St)(K:Option Addr)(I:Nat)(t:Option Addr)(q:Nat)(J:Option Addr)(H:Nat)(B:Option Addr)(z:Nat)(L:Option Addr)(sN:Nat)(A:Nat->Prop)(w:World)(O:StR A w s K I t q J H B z L sN)(ap:s.ms.length<=10000/\s.waits.length<=10000/\s.opens.length<=10000):
 Calls prog 107 #[.agg #[.int .i64 s.broker,.int .i64 s.nextId,.int .i64 s.nextSeq,.int .i64 s.tx,.slice K s.ms.length I,.slice t s.waits.length q,.slice J s.ends.length H,.slice B s.opens.length z,.slice L s.noes.length sN]] w λe w'=>∃ao cap,e=.returned (.slice ao (J5 s).length cap)/\Own Qh A w w' 2 ao cap (J5 s)/\Bel w w':=by
 have P:=Zh O;have al:=Qim;have am:=Qin;obtain⟨n,h⟩:=Zx s.ms.length;obtain⟨G,l⟩:=Zx s.waits.length;obtain⟨no,j⟩:=Zx s.opens.length;obtain⟨M,ai,ah⟩:=Zh3 h l j;obtain⟨l1,au,av⟩:=ap;rw[<-h]at l1 ⊢;rw[<-l]at au ⊢;rw[<-j]at av ⊢;have d:Bel w (w.alloc (.cells #[.int .i64 s.broker,.int .i64 s.nextId,.int .i64 s.nextSeq,.int .i64 s.tx,.slice K n I,.slice t G q,.slice J s.ends.length H,.slice B no z,.slice L s.noes.length sN] 43)):=(Bel.refl _).alloc _;have k1:=heap_alloc_new w (.cells #[.int .i64 s.broker,.int .i64 s.nextId,.int .i64 s.nextSeq,.int .i64 s.tx,.slice K n I,.slice t G q,.slice J s.ends.length H,.slice B no z,.slice L s.noes.length sN] 43);obtain⟨W,c⟩:=Zx (w.alloc (.cells #[.int .i64 s.broker,.int .i64 s.nextId,.int .i64 s.nextSeq,.int .i64 s.tx,.slice K n I,.slice t G q,.slice J s.ends.length H,.slice B no z,.slice L s.noes.length sN] 43));rw[<-c]at d k1;have m:W.heap.size=w.heap.size+1:=by rw[c];simp
 obtain⟨D,ad,ac⟩:=Zh3 d k1 c;obtain⟨R,f⟩:=Zx (J5 s);rw[<-f];have ak:=Zh f;clear O h l j d k1 c f m;go_enter func107,ntmps107;go_wp2;go_loopw[3,5,6,7,11] (λlt _ _ _ a wr=>∃(i:Nat) (h:Option Addr) (f j:Nat),i<=n/\a=.int .i64 i/\lt=.slice h j f/\Hid (j=(Xr s (s.ms.take i)).length)/\Hid (Own Qh A W wr 2 h f (Xr s (s.ms.take i)))/\Hid (Bel W wr)) (λ_ _ _ _ a _=>n-(intOf a).toNat)
 case atStart=>exact⟨0,none,0,0,Nat.zero_le _,rfl,rfl,Zh rfl,Zh (by rw[<-ac.o];exact Own.nil _ _ _ _ _),Zh (by rw[<-ac.o];exact Bel.refl _)⟩
 case round=>
  obtain⟨i,h,f,j,a8,rfl,rfl,m,v,c⟩:=hrel;by_cases ax:i<n
  ·obtain⟨x,Q⟩:∃x,s.ms[i]?=some x:=⟨s.ms[i]'(by have:=M.o;omega),by simp⟩
   obtain⟨g,off,rfl,aw,c0,c1,c2,c3,X,ae⟩:=Yl (P.ms.bel (D.trans c.o)) Q;have U:=Qio Q;have ay:(0:Int)<=(i:Int):=by omega
   have az:(i:Int)<(n:Int):=by omega
   have aA:IntKind.i64.wrap ((i:Int)+1)=((i+1:Nat):Int):=by rw[IntKind.wrap_i64];omega
   have l:=c.heap ad;have V:=cell_of_block l 5 _ rfl;have af:∀o,(wr.alloc o).cell? ⟨w.heap.size,5,none⟩=some (.slice t G q):=λo=>((Bel.refl wr).alloc o).cell V
   have Y:Hid (∀T,(wr.alloc (.cells #[.int .i64 x.id,.string x.q,.string x.b,.int .i64 x.seq,.int .i64 x.cnt,.int .i64 x.who] T)).cell? ⟨wr.heap.size,5,none⟩=some (.int .i64 x.who)):=Zh λT=>cell_of_block (heap_alloc_new wr _) 5 _ rfl
   have an:Hid (∀o,(wr.alloc o).cell? ⟨wr.heap.size,5,none⟩=some (.int .i64 x.who)->Calls prog 90 #[.slice t G q,.func (.func 189) #[] #[.pointer (some ⟨wr.heap.size,0,none⟩)]] (wr.alloc o) λe w'=>e=.returned (.bool (s.waits.any λb=>b.tid==x.who))/\Bel (wr.alloc o) w'):=Zh λo N=>by
    have:=Tg (λb=>b.tid==x.who) 189 #[.pointer (some ⟨wr.heap.size,0,none⟩)] al A (wr.alloc o) t q s.waits (P.waits.bel ((D.trans c.o).trans ((Bel.refl _).alloc _))) (λy d E F _ C _=>Qgy y E F x.who _ d (C.cell N));rwa [<-ai.o]at this
   have aq:Hid (∀o d,(wr.alloc o).cell? ⟨wr.heap.size,5,none⟩=some (.int .i64 x.who)->Bel (wr.alloc o) d->Calls prog 139 #[.slice B no z,.func (.func 190) #[] #[.pointer (some ⟨wr.heap.size,0,none⟩)]] d λe w'=>e=.returned (.bool (s.opens.any λp=>p.tid==x.who))/\Bel d w'):=Zh λo d N o=>by
    have:=Qkk (λp=>p.tid==x.who) 190 #[.pointer (some ⟨wr.heap.size,0,none⟩)] am A d B z s.opens (P.opens.bel (((D.trans c.o).trans ((Bel.refl _).alloc _)).trans o)) (λy d E F _ C _=>Qgz y E F x.who _ d ((o.trans C).cell N));rwa [<-ah.o]at this
   have a9:j<=10000:=by
    have S:=M5 s (s.ms.take i);rw[<-m.o,List.length_take]at S;omega
   have N:=Zh U;have d:Qbt s x=(!(x.who==0)&&!(s.waits.any λb=>b.tid==x.who)&&!(s.opens.any λp=>p.tid==x.who)):=rfl;generalize (s.waits.any λb=>b.tid==x.who)=Z at *;generalize (s.opens.any λp=>p.tid==x.who)=aa at *;have o:=Zh d;clear Q U l V d;go_wp2_with fail;refine(an _ (Y _)).zR λd d=>?_
   have ab:=Zh d;have l:=(c.trans ((Bel.refl _).alloc _)).trans d |>.heap ad
   have Q:=cell_of_block l 7 _ rfl;have C:=d.cell (Y 47);clear d l af c0 c1 c2 c3 X ae;go_wp2_with fail;refine(aq _ _ (Y _) ab).zR λd d=>?_
   have aB:=d.cell C;have l:=Zh (((Bel.refl wr).alloc _).trans ab |>.trans d);clear d Q C;by_cases C:x.who=0
   ·have X:(x.who==0)=true:=by simp[C]
    have ar:(x.who !=0)=false:=by simp[C]
    have Q:=Zh X;clear C;have d:=Zh (show Xr s (s.ms.take (i+1))=Xr s (s.ms.take i) by rw[N.o,if_neg (by rw[o.o];rw[Q.o];simp),List.append_nil]);go_wp2;go_roundw
    case rel=>exact⟨i+1,h,f,j,by omega,by go_num,by rfl,Zh (by rw[d.o];exact m.o),Zh (by rw[d.o];exact v.bel l.o),Zh (c.trans l.o)⟩
    case measure=>simp[intOf];omega
   ·have X:(x.who==0)=false:=by simp[C]
    have ar:(x.who !=0)=true:=by simp[C]
    have Q:=Zh X;clear C;rcases Z with _|_
    ·rcases aa with _|_
     ·have d:=Zh (show Xr s (s.ms.take (i+1))=Xr s (s.ms.take i)++[x.who] by rw[N.o,if_pos (by rw[o.o,Q.o];simp)])
      go_wp2_with(at_builtin;go_must (refine Xe (r:=Qh) (A:=A) (w0:=W) _ rfl _ _ 105 105 rfl Qo1 h j f (Xr s (s.ms.take i)) m.o ((v.bel l.o).bel ((Bel.refl _).alloc _)) rfl _ rfl [x.who] [.int .i64 x.who] (Ch.one rfl rfl) (Qk7 _ underlying105 (heap_alloc_new _ _) rfl) (by simp;omega) (by omega) (by have S:=(c.trans l.o).size;simp;omega) ?_);intro E F ae U C V;have aj:=Zh U;have af:=Zh C;clear U C V);have C:=Zh (((c.trans l.o).alloc (.cells #[.int .i64 x.who] 2)).of_kept af.o λk V=>by obtain⟨_,_,_,U⟩:=v.o;exact U k V);go_roundw
      case rel=>exact⟨i+1,E,F,j+1,by omega,by go_num,by rfl,Zh (by rw[d.o,List.length_append,<-m.o];rfl),Zh (by rw[d.o];exact aj.o),C⟩
      case measure=>simp[intOf];omega
     ·have af:=o
      have d:=Zh (show Xr s (s.ms.take (i+1))=Xr s (s.ms.take i) by rw[N.o,if_neg (by rw[o.o];simp),List.append_nil]);go_wp2;go_roundw
      case rel=>exact⟨i+1,h,f,j,by omega,by go_num,by rfl,Zh (by rw[d.o];exact m.o),Zh (by rw[d.o];exact v.bel l.o),Zh (c.trans l.o)⟩
      case measure=>simp[intOf];omega
    ·have af:=o
     have d:=Zh (show Xr s (s.ms.take (i+1))=Xr s (s.ms.take i) by rw[N.o,if_neg (by rw[o.o];simp),List.append_nil]);go_wp2;go_roundw
     case rel=>exact⟨i+1,h,f,j,by omega,by go_num,by rfl,Zh (by rw[d.o];exact m.o),Zh (by rw[d.o];exact v.bel l.o),Zh (c.trans l.o)⟩
     case measure=>simp[intOf];omega
  ·obtain rfl:i=n:=by omega
   have d:=v.o;have l:=m.o;rw[List.take_of_length_le (by rw[<-M.o];exact Nat.le_refl _)]at d l;have N:=M5 s s.ms;have o:=Qsr A W wr h f (Xr s s.ms) d (by have:=M.o;omega);rw[<-l]at o;obtain⟨F,Y,E,X,Q⟩:=Zh5 o l (show ∀k,Qc h f k->W.heap.size<=k fromλk V=>by obtain⟨_,_,_,U⟩:=d;exact U k V) N c.o;clear d l N o v m c;go_wp2_with fail;refine F.mono ?_;rintro e ae ⟨rfl,m,l⟩;have c:=Qjo A W ae h f (sortI (Xr s s.ms)) m (by have S:=X.o;have v:=M.o;simp[sortI];omega);rw[show(sortI (Xr s s.ms)).length=j by simp[sortI,Y.o],show Zi (sortI (Xr s s.ms))=J5 s from rfl,<-ak.o]at c;obtain⟨d,C⟩:=Zh2 c ((Q.o).of_kept l E.o);clear c m l F;go_wp2_with fail;refine d.mono ?_;rintro e F ⟨rfl,l,c⟩;obtain⟨o,m⟩:=Zh2 l (C.of_kept c E.o);clear l c d;go_wp2;go_ret;obtain⟨xs,Z,aa,c⟩:=o.o;exact⟨h,f,rfl,⟨xs,Z,aa,λk O=>Nat.le_trans D.size (c k O)⟩,D.trans m⟩
def Wr(O:Nat->Prop)(w:World)(b:Nat)(l:List UInt8)(w':World):Prop:=∃O',Zz O' w' b l/\Kept O w w'/\∀k,O' k->O k\/w.heap.size<=k
theorem Wr.then{O a:Nat->Prop}{w e f:World}{b:Nat}{l:List UInt8}(c:Kept O w e)(d:∀k,a k->O k\/w.heap.size<=k)(h:Wr a e b l f):Wr O w b l f:=by
 obtain⟨g,i,j,m⟩:=h;refine⟨g,i,c.trans' j d,λk n=>?_⟩;rcases m k n with h|h
 ·exact d k h
 ·exact .inr (Nat.le_trans c.size h)
theorem Wr.bel{O:Nat->Prop}{w a c:World}{b:Nat}{l:List UInt8}(d:Bel w a)(h:Wr O a b l c):Wr O w b l c:=Wr.then (d.kept O) (λ_ h=>.inl h) h
def Yy(m:Msg):List UInt8:=Zc m.id++X4 m.q++X4 m.b++Zc m.seq++Qd m.cnt.toNat++Zc m.who
def Q0(r:Rec):List UInt8:=X4 ⟨(encR r).toArray⟩
def Kw(b:Branch):Rec:=⟨4,b.tid,0,false,[],b.puts⟩
def Kk(e:Fin):Rec:=⟨5,e.tid,0,e.yes,[],[]⟩
def J2(p:Qv):Rec:=⟨6,p.tid,0,false,p.parts,[]⟩
def encS(s:St):List UInt8:=Qd s.broker.toNat++Zc s.nextId++Zc s.nextSeq++Zc s.tx++(Qd s.ms.length++s.ms.flatMap Yy)++(Qd s.waits.length++s.waits.flatMap λb=>Q0 (Kw b))++(Qd s.ends.length++s.ends.flatMap λe=>Q0 (Kk e))++(Qd s.opens.length++s.opens.flatMap λp=>Q0 (J2 p))++(Qd s.noes.length++s.noes.flatMap λp=>Q0 (J2 p))
theorem H8{r:Rec}(h:(encR r).length<=65535):(Q0 r).length=2+(encR r).length:=by rw[Q0,Yc];rfl
theorem Ug{α:Type}(f:α->List UInt8)(n:Nat):∀l:List α,(∀x∈l,(f x).length<=n)->(l.flatMap f).length<=n*l.length
 | [],_=>by simp
 | x::l,h=>by
  have b:=Ug f n l λy a=>h y (by simp[a])
  have a:=h x (by simp);simp only[List.flatMap_cons,List.length_append,List.length_cons,Nat.mul_succ];omega
theorem Qt8{r:Rec}(h:r.parts.length<=10)(i:r.puts.length<=10)(a:∀p∈r.puts,p.q.size<=8/\p.b.size<=60):(encR r).length<=1000:=by
 have f:=Ug (λn:Int=>Qd n.toNat) 2 r.parts λx _=>by rw[Qu];exact Nat.le_refl _
 have g:=Ug Ca 72 r.puts λx b=>by have:=a x b;rw[Ca,List.length_append,Yc,Yc];omega
 unfold encR;simp only[List.length_append];have b:(if r.kind=2 then Zc r.id else []).length<=8:=by split<;>simp[Zu]
 have c:(if r.kind=5 then [if r.yes=true then (1:UInt8) else 0] else []).length<=1:=by split<;>simp
 have d:(if Yw r.kind=true then Qd r.parts.length++r.parts.flatMap (λn=>Qd n.toNat) else []).length<=22:=by
  split
  ·rw[List.length_append,Qu];omega
  ·simp
 have e:(if Vy r.kind=true then Qd r.puts.length++r.puts.flatMap Ca else []).length<=722:=by
  split
  ·rw[List.length_append,Qu];omega
  ·simp
 rw[Qu,Zu];omega
theorem Jr{r:Rec}(a:Qp r=true):(encR r).length<=1000:=by
 have h:=a;simp only[Qp,Bool.and_eq_true,decide_eq_true_eq,List.all_eq_true,Xq]at h;have c:(Wp r.kind)<=7:=by unfold Wp;split<;>(try split)<;>(try split)<;>omega
 have d:(Jw r.kind)<=10:=by unfold Jw;split<;>(try split)<;>omega
 refine Qt8 (by omega) (by omega) λp b=>?_
 have:=h.2.2 p b;simp only[Jg,Jl,Ck,Bool.and_eq_true,decide_eq_true_eq]at this;omega
theorem Qbe(r:Rec)(rp:Option Addr)(f:Nat)(i:Option Addr)(g:Nat)(o:i64 r.tid)(k:i64 r.id)(A O:Nat->Prop)(w:World)(b:Nat)(l:List UInt8)(h:Zz O w b l)(d:Rd Qh A w rp f r.parts)(q:Rd Qw A w i g r.puts)(c:Qp r=true)(y:l.length<=900000000):
 Calls prog 415 #[.pointer (some ⟨b,0,none⟩),.agg #[.int .i64 r.kind,.int .i64 r.tid,.int .i64 r.id,.bool r.yes,.slice rp r.parts.length f,.slice i r.puts.length g]] w λe w'=>e=.returned (.tuple #[])/\Wr O w b (l++Q0 r) w':=by
 have a:Bel w (w.alloc (.cells #[.int .i64 r.kind,.int .i64 r.tid,.int .i64 r.id,.bool r.yes,.slice rp r.parts.length f,.slice i r.puts.length g] 124)):=(Bel.refl _).alloc _;have m:∀p∈r.puts,p.q.size<=maxLen:=λp d=>by have:=(Un c d).1;simp only[maxLen];omega
 obtain⟨j,H,s,v⟩:=Zh4 (Qaj r rp f i g o k (λ_=>False) _ (λ_ h=>h.elim) ((d.mono (B:=λ_=>False) λ_ _ h=>h.elim).bel a) ((q.mono (B:=λ_=>False) λ_ _ h=>h.elim).bel a) m c) (h.bel a) a (Jr c);clear h d q a m c o k;go_enter func415,ntmps415;go_wp2_with fail;refine j.mono ?_;rintro e o ⟨⟨ao,cap,rfl,d⟩,a⟩;have k:=λq (h:Rd Ql (λ_=>False) q ao cap (encR r))=>Fy (P:=prog) 179 9 5 underlying179 underlying5 underlying9 h
 have m:=k o d;obtain⟨x,t⟩:=Zh2 (Fv ⟨(encR r).toArray⟩ O o b l (H.bel a) (by have:=v.o;show(encR r).toArray.size<=_;simp;omega) (by omega)) (s.trans a);obtain⟨n,c⟩:=Zx ((encR r).length);rw[<-c]at m ⊢;clear a d k c j;go_wp2_with fail;refine x.zR λq a=>?_
 have c:=Zh a;clear a m;go_wp2;go_end0
 exact⟨rfl,Wr.bel t c⟩
theorem Qjz(x:Msg)(m:x.q.size<=65535/\x.b.size<=65535/\0<=x.cnt/\x.cnt<=1000)(O:Nat->Prop)(W:World)(b t:Nat)(l:List UInt8)(h:Zz O W b l)(g:W.cell? ⟨t,0,none⟩=some (.pointer (some ⟨b,0,none⟩)))(j:¬O t)(an:l.length<=900000000):
 Calls prog 412 (#[.agg #[.int .i64 x.id,.string x.q,.string x.b,.int .i64 x.seq,.int .i64 x.cnt,.int .i64 x.who]]++#[.pointer (some ⟨t,0,none⟩)]) W λe a=>e=.returned (.tuple #[])/\Wr O W b (l++Yy x) a:=by
 have ao:=Zd g;have a:Bel W (W.alloc (.cells #[.int .i64 x.id,.string x.q,.string x.b,.int .i64 x.seq,.int .i64 x.cnt,.int .i64 x.who] 47)):=(Bel.refl _).alloc _;have aa:=Zh (h.bel a);have am:Hid (∀k,O k->k<W.heap.size):=Zh (by obtain⟨_,_,_,_,_,_,_,_,v⟩:=h;exact v);obtain⟨Y,ai,A,f⟩:=Zh4 a (heap_alloc_new W (.cells #[.int .i64 x.id,.string x.q,.string x.b,.int .i64 x.seq,.int .i64 x.cnt,.int .i64 x.who] 47)) (a.cell g) m;have i:(W.alloc (.cells #[.int .i64 x.id,.string x.q,.string x.b,.int .i64 x.seq,.int .i64 x.cnt,.int .i64 x.who] 47)).heap.size=W.heap.size+1:=by simp
 have c:=Zh i;have d:Hid (¬O t/\¬O W.heap.size):=Zh ⟨j,λh=>by have:=am.o _ h;omega⟩;clear h g a m i j;show Calls prog 412 #[.agg #[.int .i64 x.id,.string x.q,.string x.b,.int .i64 x.seq,.int .i64 x.cnt,.int .i64 x.who],.pointer (some ⟨t,0,none⟩)] W _;go_enter func412,ntmps412;have z:=A.o;go_wp2_with fail;clear z;refine(Vd x.id O _ b (l) aa.o (by omega)).mono ?_;rintro e ap ⟨rfl,j,g,k1,i⟩;obtain⟨ab,F,B,J⟩:=Zh4 g (k1.heap d.2 ai.o) (k1.cell d.1 A.o) (k1);have p:Hid (∀k,j k->O k\/W.heap.size+1<=k):=Zh λk a=>(i k a).elim (λh=>.inl h) λh=>.inr (by have g:=c.o;omega)
 have S:Hid (¬j t/\¬j W.heap.size):=Zh ⟨λh=>(p.o _ h).elim d.1 λh=>by omega,λh=>(p.o _ h).elim d.2 λh=>by omega⟩;clear g k1 i;have z:=B.o;have y:=cell_of_block F 1 _ rfl;go_wp2_with fail;clear z y;refine(Fv x.q j _ b (l++Zc x.id) ab.o (by have:=f.o;omega) (by simp only[List.length_append,Zu,Yc,Qu];have:=f.o;omega)).mono ?_;rintro e aq ⟨rfl,m,i,k2,n⟩;obtain⟨ac,G,C,K⟩:=Zh4 i (k2.heap S.2 F.o) (k2.cell S.1 B.o) (J.trans' k2 (λk a=>by rw[c.o];exact p.o k a));have q:Hid (∀k,m k->O k\/W.heap.size+1<=k):=Zh λk a=>(n k a).elim (λh=>p.o k h) λh=>.inr (by have g:=c.o;have i:=J.size;omega)
 have T:Hid (¬m t/\¬m W.heap.size):=Zh ⟨λh=>(q.o _ h).elim d.1 λh=>by omega,λh=>(q.o _ h).elim d.2 λh=>by omega⟩;clear i k2 n;have z:=C.o;have y:=cell_of_block G 2 _ rfl;go_wp2_with fail;clear z y;refine(Fv x.b m _ b (l++Zc x.id++X4 x.q) ac.o (by have:=f.o;omega) (by simp only[List.length_append,Zu,Yc,Qu];have:=f.o;omega)).mono ?_;rintro e ar ⟨rfl,n,o,k3,s⟩;obtain⟨ad,H,D,L⟩:=Zh4 o (k3.heap T.2 G.o) (k3.cell T.1 C.o) (K.trans' k3 (λk a=>by rw[c.o];exact q.o k a));have r:Hid (∀k,n k->O k\/W.heap.size+1<=k):=Zh λk a=>(s k a).elim (λh=>q.o k h) λh=>.inr (by have g:=c.o;have i:=K.size;omega)
 have U:Hid (¬n t/\¬n W.heap.size):=Zh ⟨λh=>(r.o _ h).elim d.1 λh=>by omega,λh=>(r.o _ h).elim d.2 λh=>by omega⟩;clear o k3 s;have z:=D.o;have y:=cell_of_block H 3 _ rfl;go_wp2_with fail;clear z y;refine(Vd x.seq n _ b (l++Zc x.id++X4 x.q++X4 x.b) ad.o (by simp only[List.length_append,Zu,Yc,Qu];have:=f.o;omega)).mono ?_;rintro e au ⟨rfl,o,N,w,P⟩;obtain⟨ae,I,E,M⟩:=Zh4 N (w.heap U.2 H.o) (w.cell U.1 D.o) (L.trans' w (λk a=>by rw[c.o];exact r.o k a));have s:Hid (∀k,o k->O k\/W.heap.size+1<=k):=Zh λk a=>(P k a).elim (λh=>r.o k h) λh=>.inr (by have g:=c.o;have i:=L.size;omega)
 have V:Hid (¬o t/\¬o W.heap.size):=Zh ⟨λh=>(s.o _ h).elim d.1 λh=>by omega,λh=>(s.o _ h).elim d.2 λh=>by omega⟩;clear N w P;have z:=E.o;have y:=cell_of_block I 4 _ rfl;go_wp2_with fail;clear z y;refine(Hg x.cnt (by have:=f.o;omega) (by have:=f.o;omega) o _ b (l++Zc x.id++X4 x.q++X4 x.b++Zc x.seq) ae.o (by simp only[List.length_append,Zu,Yc,Qu];have:=f.o;omega)).mono ?_;rintro e av ⟨rfl,P,R,w,X⟩;obtain⟨af,aj,Z,N⟩:=Zh4 R (w.heap V.2 I.o) (w.cell V.1 E.o) (M.trans' w (λk a=>by rw[c.o];exact s.o k a));have Q:Hid (∀k,P k->O k\/W.heap.size+1<=k):=Zh λk a=>(X k a).elim (λh=>s.o k h) λh=>.inr (by have g:=c.o;have i:=M.size;omega)
 clear R w X;have z:=Z.o;have y:=cell_of_block aj 5 _ rfl;go_wp2_with fail;clear z y;refine(Vd x.who P _ b (l++Zc x.id++X4 x.q++X4 x.b++Zc x.seq++Qd x.cnt.toNat) af.o (by simp only[List.length_append,Zu,Yc,Qu];have:=f.o;omega)).mono ?_;rintro e aw ⟨rfl,w,v,R,X⟩;obtain⟨ah,ak⟩:=Zh2 v (N.trans' R (λk a=>by rw[c.o];exact Q.o k a));have al:Hid (∀k,w k->O k\/W.heap.size+1<=k):=Zh λk a=>(X k a).elim (λh=>Q.o k h) λh=>.inr (by have g:=c.o;have i:=N.size;omega)
 clear v R X;go_wp2;go_end0
 refine⟨rfl,Wr.bel Y.o ⟨w,?_,ak.o,λk a=>(al.o k a).imp id λh=>by have:=c.o;omega⟩⟩;have:=ah.o;simpa only[Yy,List.append_assoc] using this
theorem Qj0(x:Branch)(ao:Option Addr)(cap:Nat)(k:i64 x.tid)(d:Qp (Kw x)=true)(A O:Nat->Prop)(W:World)(b t:Nat)(l:List UInt8)(h:Zz O W b l)(j:Rd Qw A W ao cap x.puts)(c:W.cell? ⟨t,0,none⟩=some (.pointer (some ⟨b,0,none⟩)))(i:l.length<=900000000):
 Calls prog 414 (#[.agg #[.int .i64 x.tid,.slice ao x.puts.length cap]]++#[.pointer (some ⟨t,0,none⟩)]) W λe a=>e=.returned (.tuple #[])/\Wr O W b (l++Q0 (Kw x)) a:=by
 have m:=Zd c;have a:Bel W (W.alloc (.cells #[.int .i64 x.tid,.slice ao x.puts.length cap] 58)):=(Bel.refl _).alloc _;obtain⟨g,f⟩:=Zh2 (Qbe (Kw x) none 0 ao cap k (show i64 0 by unfold i64;omega) A O _ b l (h.bel a) (Rd.nil _ _ _ _ _ (by simp[maxLen])) (j.bel a) d i) a;have c1:=a.cell c;clear h a d;show Calls prog 414 #[.agg #[.int .i64 x.tid,.slice ao x.puts.length cap],.pointer (some ⟨t,0,none⟩)] W _;go_enter func414,ntmps414;go_wp2_with fail;refine g.zR λa a=>?_
 have d:=Zh a;clear a c1;go_wp2;go_end0
 exact⟨rfl,Wr.bel f d⟩
theorem Qj1(x:Fin)(j:i64 x.tid)(d:Qp (Kk x)=true)(A O:Nat->Prop)(W:World)(b t:Nat)(l:List UInt8)(h:Zz O W b l)(c:W.cell? ⟨t,0,none⟩=some (.pointer (some ⟨b,0,none⟩)))(i:l.length<=900000000):
 Calls prog 417 (#[.agg #[.int .i64 x.tid,.bool x.yes]]++#[.pointer (some ⟨t,0,none⟩)]) W λe a=>e=.returned (.tuple #[])/\Wr O W b (l++Q0 (Kk x)) a:=by
 have k:=Zd c;have a:Bel W (W.alloc (.cells #[.int .i64 x.tid,.bool x.yes] 51)):=(Bel.refl _).alloc _;obtain⟨g,f⟩:=Zh2 (Qbe (Kk x) none 0 none 0 j (show i64 0 by unfold i64;omega) A O _ b l (h.bel a) (Rd.nil _ _ _ _ _ (by simp[maxLen])) (Rd.nil _ _ _ _ _ (by simp[maxLen])) d i) a;have c1:=a.cell c;clear h a d;show Calls prog 417 #[.agg #[.int .i64 x.tid,.bool x.yes],.pointer (some ⟨t,0,none⟩)] W _;go_enter func417,ntmps417;go_wp2_with fail;refine g.zR λa a=>?_
 have d:=Zh a;clear a c1;go_wp2;go_end0
 exact⟨rfl,Wr.bel f d⟩
theorem Qj2(x:Qv)(ao:Option Addr)(cap:Nat)(k:i64 x.tid)(d:Qp (J2 x)=true)(A O:Nat->Prop)(W:World)(b t:Nat)(l:List UInt8)(h:Zz O W b l)(j:Rd Qh A W ao cap x.parts)(c:W.cell? ⟨t,0,none⟩=some (.pointer (some ⟨b,0,none⟩)))(i:l.length<=900000000):
 Calls prog 418 (#[.agg #[.int .i64 x.tid,.slice ao x.parts.length cap]]++#[.pointer (some ⟨t,0,none⟩)]) W λe a=>e=.returned (.tuple #[])/\Wr O W b (l++Q0 (J2 x)) a:=by
 have m:=Zd c;have a:Bel W (W.alloc (.cells #[.int .i64 x.tid,.slice ao x.parts.length cap] 134)):=(Bel.refl _).alloc _;obtain⟨g,f⟩:=Zh2 (Qbe (J2 x) ao cap none 0 k (show i64 0 by unfold i64;omega) A O _ b l (h.bel a) (j.bel a) (Rd.nil _ _ _ _ _ (by simp[maxLen])) d i) a;have c1:=a.cell c;clear h a d;show Calls prog 418 #[.agg #[.int .i64 x.tid,.slice ao x.parts.length cap],.pointer (some ⟨t,0,none⟩)] W _;go_enter func418,ntmps418;go_wp2_with fail;refine g.zR λa a=>?_
 have d:=Zh a;clear a c1;go_wp2;go_end0
 exact⟨rfl,Wr.bel f d⟩
theorem Sn:(∀(L:List Msg) (g:∀x∈L,x.q.size<=60/\x.b.size<=60/\0<=x.cnt/\x.cnt<=1000) (f:Option Addr) (d:Nat) (A O:Nat->Prop) (w:World) (b t:Nat) (l:List UInt8) (h:Zz O w b l) (p:Rd Xy A w f d L) (j:∀k,O k->A k) (i:w.cell? ⟨t,0,none⟩=some (.pointer (some ⟨b,0,none⟩))) (q:¬O t) (D:L.length<=10000) (S:l.length<=100000000),Calls prog 411 #[.pointer (some ⟨b,0,none⟩),.slice f L.length d,.func (.func 412) #[] #[.pointer (some ⟨t,0,none⟩)]] w λe w'=>e=.returned (.tuple #[])/\Wr O w b (l++(Qd L.length++L.flatMap λx=>Yy x)) w') ∧
 (∀(L:List Branch) (g:∀x∈L,i64 x.tid/\Qp (Kw x)=true) (f:Option Addr) (d:Nat) (A O:Nat->Prop) (w:World) (b t:Nat) (l:List UInt8) (h:Zz O w b l) (p:Rd Zm A w f d L) (j:∀k,O k->A k) (i:w.cell? ⟨t,0,none⟩=some (.pointer (some ⟨b,0,none⟩))) (q:¬O t) (D:L.length<=10000) (S:l.length<=100000000),Calls prog 413 #[.pointer (some ⟨b,0,none⟩),.slice f L.length d,.func (.func 414) #[] #[.pointer (some ⟨t,0,none⟩)]] w λe w'=>e=.returned (.tuple #[])/\Wr O w b (l++(Qd L.length++L.flatMap λx=>Q0 (Kw x))) w') ∧
 (∀(L:List Fin) (g:∀x∈L,i64 x.tid/\Qp (Kk x)=true) (f:Option Addr) (d:Nat) (A O:Nat->Prop) (w:World) (b t:Nat) (l:List UInt8) (h:Zz O w b l) (p:Rd J7 A w f d L) (j:∀k,O k->A k) (i:w.cell? ⟨t,0,none⟩=some (.pointer (some ⟨b,0,none⟩))) (q:¬O t) (D:L.length<=10000) (S:l.length<=100000000),Calls prog 416 #[.pointer (some ⟨b,0,none⟩),.slice f L.length d,.func (.func 417) #[] #[.pointer (some ⟨t,0,none⟩)]] w λe w'=>e=.returned (.tuple #[])/\Wr O w b (l++(Qd L.length++L.flatMap λx=>Q0 (Kk x))) w') ∧
 (∀(L:List Qv) (g:∀x∈L,i64 x.tid/\Qp (J2 x)=true) (f:Option Addr) (d:Nat) (A O:Nat->Prop) (w:World) (b t:Nat) (l:List UInt8) (h:Zz O w b l) (p:Rd Z4 A w f d L) (j:∀k,O k->A k) (i:w.cell? ⟨t,0,none⟩=some (.pointer (some ⟨b,0,none⟩))) (q:¬O t) (D:L.length<=10000) (S:l.length<=100000000),Calls prog 419 #[.pointer (some ⟨b,0,none⟩),.slice f L.length d,.func (.func 418) #[] #[.pointer (some ⟨t,0,none⟩)]] w λe w'=>e=.returned (.tuple #[])/\Wr O w b (l++(Qd L.length++L.flatMap λx=>Q0 (J2 x))) w'):=by
 refine⟨have k1:=trivial;?_,have k2:=trivial;?_,have k3:=trivial;?_,have k4:=trivial;?_⟩;all_goals
  intro L g f d A O w b t l h p j i q D S;obtain⟨ac,ah,M,ad,aa⟩:=Zh5 h g (p.mono (B:=λk=>O k\/w.heap.size<=k) λk an h=>h.elim (j k) λh=>by omega) i q;have ar:=Zd i;obtain⟨n,r⟩:=Zx L.length;rw[<-r]at D ⊢;have Z:=Zh r;first|(have k2:=k2;have V:∀c w,(callFunc 414 c).run prog w=.ok (.enter 414 c) w:=enters_of func414 (by kernel_rfl) rfl)|(have k3:=k3;have V:∀c w,(callFunc 417 c).run prog w=.ok (.enter 417 c) w:=enters_of func417 (by kernel_rfl) rfl)|(have k4:=k4;have V:∀c w,(callFunc 418 c).run prog w=.ok (.enter 418 c) w:=enters_of func418 (by kernel_rfl) rfl)|(have V:∀c w,(callFunc 412 c).run prog w=.ok (.enter 412 c) w:=enters_of func412 (by kernel_rfl) rfl)
  first
   | (have k2:=k2
      have o:Hid (∀x∈L,(Q0 (Kw x)).length<=1002):=Zh λx c=>by
       have:=g x c;rw[H8 (by have:=Jr this.2;omega)];have:=Jr this.2;omega)
   | (have k3:=k3
      have o:Hid (∀x∈L,(Q0 (Kk x)).length<=1002):=Zh λx c=>by
       have:=g x c;rw[H8 (by have:=Jr this.2;omega)];have:=Jr this.2;omega)
   | (have k4:=k4
      have o:Hid (∀x∈L,(Q0 (J2 x)).length<=1002):=Zh λx c=>by
       have:=g x c;rw[H8 (by have:=Jr this.2;omega)];have:=Jr this.2;omega)
   | (have o:Hid (∀x∈L,(Yy x).length<=150):=Zh λx c=>by
       have:=g x c;simp only[Yy,List.length_append,Zu,Yc,Qu];omega)
  clear h g p j i q r;first|(have k2:=k2;go_enter func413,ntmps413)|(have k3:=k3;go_enter func416,ntmps416)|(have k4:=k4;go_enter func419,ntmps419)|(go_enter func411,ntmps411)
  go_wp2_with fail;refine(Y5 n O w b l ac.o (by omega) (by omega)).mono ?_;rintro e av ⟨rfl,aj,g,k0,s0⟩;obtain⟨ae,ai,ak⟩:=Zh3 g k0 s0;clear g k0 s0;go_wp2;first|(have k2:=k2;go_loopw[7,14] (λ_ a wr=>∃k:Nat,k<=n/\a=.int .i64 k/\Hid (Wr O w b (l++Qd n++(L.take k).flatMap λx=>Q0 (Kw x)) wr)) (λ_ a _=>n-(intOf a).toNat))|(have k3:=k3;go_loopw[7,14] (λ_ a wr=>∃k:Nat,k<=n/\a=.int .i64 k/\Hid (Wr O w b (l++Qd n++(L.take k).flatMap λx=>Q0 (Kk x)) wr)) (λ_ a _=>n-(intOf a).toNat))|(have k4:=k4;go_loopw[7,14] (λ_ a wr=>∃k:Nat,k<=n/\a=.int .i64 k/\Hid (Wr O w b (l++Qd n++(L.take k).flatMap λx=>Q0 (J2 x)) wr)) (λ_ a _=>n-(intOf a).toNat))|(go_loopw[7,14] (λ_ a wr=>∃k:Nat,k<=n/\a=.int .i64 k/\Hid (Wr O w b (l++Qd n++(L.take k).flatMap λx=>Yy x) wr)) (λ_ a _=>n-(intOf a).toNat))
  case atStart=>exact⟨0,Nat.zero_le _,rfl,Zh ⟨aj,by simpa using ae.o,ai.o,ak.o⟩⟩
  case round=>
   obtain⟨k,an,rfl,ab⟩:=hrel;by_cases aq:k<n
   ·obtain⟨x,c⟩:∃x,L[k]?=some x:=⟨L[k]'(by have:=Z.o;omega),by simp⟩
    obtain⟨s,G,k1,r⟩:=ab.o;first|(have k2:=k2;obtain⟨W,off,a1,v,rfl,X,c0,c1,H⟩:=Kl (M.o.keep (B:=λ_=>False) k1 (λ_ h=>.inl h) λ_ _ h=>h.elim) c)|(have k3:=k3;obtain⟨W,off,rfl,X,c0,c1⟩:=Ba (M.o.keep (B:=λ_=>False) k1 (λ_ h=>.inl h) λ_ _ h=>h.elim) c)|(have k4:=k4;obtain⟨W,off,a1,v,rfl,X,c0,c1,H⟩:=Vo (M.o.keep (B:=λ_=>False) k1 (λ_ h=>.inl h) λ_ _ h=>h.elim) c)|(obtain⟨W,off,rfl,X,c0,c1,c2,c3,al,am⟩:=Yl (M.o.keep (B:=λ_=>False) k1 (λ_ h=>.inl h) λ_ _ h=>h.elim) c)
    have C:=k1.cell aa.o ad.o;have E:¬s t:=λh=>(r t h).elim aa.o λh=>by omega
    first|(have k2:=k2;have i:=Ug (λx=>Q0 (Kw x)) 1002 (L.take k) λy g=>o.o y (List.mem_of_mem_take g))|(have k3:=k3;have i:=Ug (λx=>Q0 (Kk x)) 1002 (L.take k) λy g=>o.o y (List.mem_of_mem_take g))|(have k4:=k4;have i:=Ug (λx=>Q0 (J2 x)) 1002 (L.take k) λy g=>o.o y (List.mem_of_mem_take g))|(have i:=Ug (λx=>Yy x) 150 (L.take k) λy g=>o.o y (List.mem_of_mem_take g))
    rw[List.length_take]at i;first
     | (have k2:=k2
        have j:(l++Qd n++(L.take k).flatMap λx=>Q0 (Kw x)).length<=900000000:=by
         simp only[List.length_append,Qu];omega)
     | (have k3:=k3
        have j:(l++Qd n++(L.take k).flatMap λx=>Q0 (Kk x)).length<=900000000:=by
         simp only[List.length_append,Qu];omega)
     | (have k4:=k4
        have j:(l++Qd n++(L.take k).flatMap λx=>Q0 (J2 x)).length<=900000000:=by
         simp only[List.length_append,Qu];omega)
     | (have j:(l++Qd n++(L.take k).flatMap λx=>Yy x).length<=900000000:=by
         simp only[List.length_append,Qu];omega)
    obtain⟨K,Q,R⟩:=Zh3 G k1 r;first|(have k2:=k2;have N:=Zh (show l++Qd n++(L.take (k+1)).flatMap (λx=>Q0 (Kw x))=(l++Qd n++(L.take k).flatMap λx=>Q0 (Kw x))++(Q0 (Kw x)) by rw[List.take_add_one,c];simp))|(have k3:=k3;have N:=Zh (show l++Qd n++(L.take (k+1)).flatMap (λx=>Q0 (Kk x))=(l++Qd n++(L.take k).flatMap λx=>Q0 (Kk x))++(Q0 (Kk x)) by rw[List.take_add_one,c];simp))|(have k4:=k4;have N:=Zh (show l++Qd n++(L.take (k+1)).flatMap (λx=>Q0 (J2 x))=(l++Qd n++(L.take k).flatMap λx=>Q0 (J2 x))++(Q0 (J2 x)) by rw[List.take_add_one,c];simp))|(have N:=Zh (show l++Qd n++(L.take (k+1)).flatMap (λx=>Yy x)=(l++Qd n++(L.take k).flatMap λx=>Yy x)++(Yy x) by rw[List.take_add_one,c];simp))
    have F:=ah.o x (List.mem_of_getElem? c);obtain⟨p,J,I,af⟩:=Zh4 F j C E;have ao:(0:Int)<=(k:Int):=by omega
    have ap:(k:Int)<(n:Int):=by omega
    have au:IntKind.i64.wrap ((k:Int)+1)=((k+1:Nat):Int):=by rw[IntKind.wrap_i64];omega
    first
     | (have k2:=k2
        have U:=Zh H;obtain⟨m,q⟩:=Zx x.puts.length;rw[<-q]at c1;have T:=Zh q;clear H q;clear c G k1 r C E i j F;go_wp2_with fail;have z:=Qj0 x a1 v p.o.1 p.o.2 (λ_=>False) s (wr.alloc (.cells #[.int .i64 x.tid,.slice a1 x.puts.length v] 58)) b t _ (K.o.bel ((Bel.refl _).alloc _)) (U.o.bel ((Bel.refl _).alloc _)) (((Bel.refl _).alloc _).cell I.o) J.o;rw[<-T.o]at z;refine z.zR λY g=>?_
        have P:=Zh (Wr.then Q.o R.o (Wr.bel ((Bel.refl _).alloc _) g));clear g c0 c1)
     | (have k3:=k3
        clear c G k1 r C E i j F;go_wp2_with fail;refine(Qj1 x p.o.1 p.o.2 (λ_=>False) s _ b t _ (K.o.bel ((Bel.refl _).alloc _)) (((Bel.refl _).alloc _).cell I.o) J.o).zR λY g=>?_
        have P:=Zh (Wr.then Q.o R.o (Wr.bel ((Bel.refl _).alloc _) g));clear g c0 c1)
     | (have k4:=k4
        have U:=Zh H;obtain⟨m,q⟩:=Zx x.parts.length;rw[<-q]at c1;have T:=Zh q;clear H q;clear c G k1 r C E i j F;go_wp2_with fail;have z:=Qj2 x a1 v p.o.1 p.o.2 (λ_=>False) s (wr.alloc (.cells #[.int .i64 x.tid,.slice a1 x.parts.length v] 134)) b t _ (K.o.bel ((Bel.refl _).alloc _)) (U.o.bel ((Bel.refl _).alloc _)) (((Bel.refl _).alloc _).cell I.o) J.o;rw[<-T.o]at z;refine z.zR λY g=>?_
        have P:=Zh (Wr.then Q.o R.o (Wr.bel ((Bel.refl _).alloc _) g));clear g c0 c1)
     | (clear c G k1 r C E i j F
        go_wp2_with fail;refine(Qjz x (by have:=p.o;omega) s _ b t _ (K.o.bel ((Bel.refl _).alloc _)) (((Bel.refl _).alloc _).cell I.o) af.o J.o).zR λY g=>?_
        have P:=Zh (Wr.then Q.o R.o (Wr.bel ((Bel.refl _).alloc _) g));clear g c0 c1 c2 c3 al am)
    go_wp2;go_roundw
    case rel=>exact⟨k+1,by omega,by go_num,Zh (by rw[N.o];exact P.o)⟩
    case measure=>simp[intOf];omega
   ·obtain rfl:k=n:=by omega
    go_wp2;go_end0
    have:=ab.o;rw[List.take_of_length_le (by rw[<-Z.o];exact Nat.le_refl _)]at this;refine⟨rfl,?_⟩;simpa only[List.append_assoc] using this
def Qj3:=Sn.1
def Qj4:=Sn.2.1
def Qj5:=Sn.2.2.1
def Qbf:=Sn.2.2.2
end Go.Proofs.YtkdpmdfcdgphlaaGreat

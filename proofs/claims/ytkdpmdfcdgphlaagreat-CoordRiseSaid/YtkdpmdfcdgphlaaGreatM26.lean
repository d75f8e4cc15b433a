/- Part of this claim's proof. Conditions: as its theorems say. -/
import Derived.Test.YtkdpmdfcdgphlaaGreatM24
import Derived.Test.YtkdpmdfcdgphlaaGreatM25
set_option linter.all false
set_option maxHeartbeats 4000000
set_option maxRecDepth 100000
namespace Go.Po
open Go.Proofs.YtkdpmdfcdgphlaaGreat
def Uq(s:St)(n:Nat):List UInt8:=Qd n++encS s
def laidB(s:St)(n:Nat):List UInt8:=Zc (crc (Uq s n))++Uq s n
end Go.Po
namespace Go.Proofs.YtkdpmdfcdgphlaaGreat
open Tryz
open Go.RowKit Go.Mem Go.Po
theorem Qku{s:St}(ok:May s):(encS s).length<=10000000:=by
 have g:=Qex ok;have c:=Qhh ok;have f:=Uh Kw λx a=>(Mg ok x a).2
 have b:=Uh Kk λx a=>(Sq ok x a).2
 have e:=Uh J2 λx a=>(Mh ok x a).2
 have d:=Uh J2 λx a=>(Su ok x a).2
 unfold encS;rw[List.length_append,List.length_append,List.length_append,List.length_append,List.length_append,List.length_append,List.length_append,List.length_append,Qu,Zu,Zu,Zu];omega
theorem Qff{s:St}(ok:May s)(n:Nat):(Uq s n).length=2+(encS s).length:=by rw[Uq,List.length_append,Qu]
theorem Qhs{s:St}(ok:May s)(n:Nat):(laidB s n).length=10+(encS s).length:=by rw[laidB,List.length_append,Zu,Qff ok];omega
theorem Qay(A O:Nat->Prop)(w:World)(b c last:Nat)(all:List (List UInt8))(h:Kt A O w b c last all):
 Calls prog 302 #[.pointer (some ⟨b,0,none⟩)] w λe w'=>e=.returned (.int .i64 last)/\w=w':=by
 obtain⟨⟨T,ao,cap,xs,a,_⟩,_⟩:=h;have c1:=cell_of_block a 1 _ rfl;clear a;go_enter func302,ntmps302;go_wp2;go_ret;exact⟨rfl,rfl⟩
theorem Qux(s:St)(o:Option Addr)(g:Nat)(v:Option Addr)(j:Nat)(l:Option Addr)(f:Nat)(t:Option Addr)(i:Nat)(p:Option Addr)(sN:Nat)(n:Nat)(aH:n<=65535)(A:Nat->Prop)(w:World)(y:∀k,A k->k<w.heap.size)(h:StR A w s o g v j l f t i p sN)(ok:May s):
 Calls prog 301 #[.agg #[.int .i64 s.broker,.int .i64 s.nextId,.int .i64 s.nextSeq,.int .i64 s.tx,.slice o s.ms.length g,.slice v s.waits.length j,.slice l s.ends.length f,.slice t s.opens.length i,.slice p s.noes.length sN],.int .i64 n] w λe w'=>(∃ao cap,e=.returned (.slice ao (laidB s n).length cap)/\Rd Ql A w' ao cap (laidB s n))/\Bel w w':=by
 obtain⟨C,Y,au⟩:=Zh3 y h ok;have z:=Qku ok;have ad:=Zh z;obtain⟨ax,a⟩:=Zx ((w.alloc (.cells #[.int .i64 s.broker,.int .i64 s.nextId,.int .i64 s.nextSeq,.int .i64 s.tx,.slice o s.ms.length g,.slice v s.waits.length j,.slice l s.ends.length f,.slice t s.opens.length i,.slice p s.noes.length sN] 43)).alloc (.cells #[.slice none 0 0] 295));have x:=a▸((Bel.refl w).alloc _).alloc _;have b:=a▸((Bel.refl _).alloc _).heap (heap_alloc_new _ _);have B:Zz (λk=>k=w.heap.size+1) ax (w.heap.size+1) []:=by
  have:=Zz.new (w.alloc (.cells #[.int .i64 s.broker,.int .i64 s.nextId,.int .i64 s.nextSeq,.int .i64 s.tx,.slice o s.ms.length g,.slice v s.waits.length j,.slice l s.ends.length f,.slice t s.opens.length i,.slice p s.noes.length sN] 43)) 295;rw[a];simpa using this
 have D:=Qb b;obtain⟨S,av,aq,am,an⟩:=Zh5 x b B a D;clear y h ok x b B a D z;go_enter func301,ntmps301;go_wp2_with fail;rw[<-am.o];refine(Y5 n _ _ _ _ aq.o (by omega) (by simp)).mono ?_;rintro e aK ⟨rfl,ar,a,k2,x⟩;rw[List.nil_append]at a;obtain⟨ae,T⟩:=Zh2 a (S.of_kept k2 λk h=>by omega);have b:¬w.heap.size=w.heap.size+1:=by omega
 have aw:=Zh (k2.heap b av);have ap:=Zh (show ∀k,ar k->w.heap.size+1<=k fromλk h=>by
  have:=an.o;rcases x k h with h|h<;>omega)
 clear a k2 x b;go_upto_region 3 with (fail);obtain⟨ao,cap,a,b⟩:=ae.own (A:=A) (w0:=w) (λk h=>by have:=ap.o k h;omega);rw[Qu]at a;obtain⟨ah,Z⟩:=Zh2 b a;clear a b;refine Zp [6] 8 (by kernel_rfl) rfl (by kernel_rfl) (λ_ d _ _ _ h=>by cases d<;>exact h) ?_;intro aB a b;clear b;have b:=a.heap aw;have c0:=Up.cell (a.cell Z);obtain⟨x,y,z,t3,D,F,G,H,I⟩:=Ua9 b;obtain⟨B,X⟩:=Zh2 (T.trans a) a;clear a b;refine Xt 3 [0,1,2,3,4] (by kernel_rfl) rfl ?_;simp only[Za,List.getElem?_cons_zero,List.getElem?_cons_succ];repeat(go_big_quiet_step(fail))
 refine wpQuiet_nil ?_;clear c0 x y z t3 D F G H I;refine Qq 2 5 (by kernel_rfl) rfl ?_;go_wp2_with fail;have z:=Qc5 s o g v j l f t i p sN A aB (λk h=>Nat.lt_of_lt_of_le (C k h) B.size) (Y.bel B) au;obtain⟨E,b⟩:=Zx (encS s);obtain⟨m,a⟩:=Zx E.length;obtain⟨I,y⟩:=Zh2 b a;rw[<-b,<-a]at z;have aG:m<=10000000:=by rw[a,b];exact ad.o
 refine z.mono ?_;rintro e aL ⟨⟨aF,aE,rfl,G⟩,x⟩;have H:=G;obtain⟨xs,F,D⟩:=H.src (P:=prog) underlying179;rw[<-a]at D;obtain⟨ak,ab,U,V,ai⟩:=Zh5 D F (B.trans x) x ((ah.bel X.o).bel x);clear z G H x D F b a;go_wp2_with fail;refine Zl V ?_;refine Qq 1 6 (by kernel_rfl) rfl ?_;go_wp2_with(at_builtin;go_must (refine Ja (r:=Ql) (A:=A) (w0:=w) _ rfl _ _ 179 179 rfl Vn ao cap (Qd n) ai.o (by rw[Qu];rfl) _ rfl E xs (ab.mono λ_ _ _ h=>h) (by rw[<-y.o];exact ak.o) (by rw[Qu,<-y.o];omega) (by omega) U.o ?_);intro M N x b D a _;have af:=Zh b;have H:=Zh a;clear b D a);refine Z6 ?_;refine Qq 0 7 (by kernel_rfl) rfl ?_;go_wp2_with fail;refine Zl (Bel.refl _) ?_;refine X0 (by kernel_rfl) ?_;rw[Qu,<-y.o];obtain⟨L,z⟩:=Zx (Uq s n);have F:L.length=2+m:=by rw[z,Uq,List.length_append,Qu,y.o,I.o]
 obtain⟨J,K,a⟩:=Zh3 z (show Rd Ql A x M N L from by rw[z,Uq,<-I.o];exact af.rd C.o) F;obtain⟨q,G⟩:=Zx (2+m);rw[<-G]at a ⊢;have aI:q<=10000002:=by omega
 clear z F;clear G;go_wp2_with fail;have F:=Qf4 A (x.alloc (.cells #[.slice none 0 0] 295)) M N L (K.bel ((Bel.refl x).alloc _));rw[a.o]at F;refine F.zS ?_;have a8:=Qfx L;obtain⟨c,z⟩:=Zx (crc L);rw[<-z]at a8 ⊢;have aa:=Zh z;have aJ:IntKind.i64.wrap (c:Int)=(c:Int):=by rw[IntKind.wrap_i64];omega
 clear F z;go_wp2_with fail;refine(Vd c _ _ _ _ (Zz.new x _) (by simp)).mono ?_;rintro e w8 ⟨rfl,aD,G,F,R⟩;rw[List.nil_append]at G;have aA:=H.size;have W:=Zh ((H.alloc _).of_kept F λk h=>by omega);obtain⟨a9,az,ay,Q⟩:=G.own (A:=A) (w0:=w) (λk h=>by
  rcases R k h with h|h
  ·omega
  ·simp at h;omega)
 rw[Zu]at ay;have aj:=Zh Q;obtain⟨aC,O,z⟩:=(K.bel (((Bel.refl x).alloc _).of_kept F λk h=>by omega)).src (P:=prog) underlying179;rw[a.o]at z;obtain⟨al,ac⟩:=Zh2 z O;clear G F R Q O z aA;go_wp2_with(at_builtin;go_must (refine Ja (r:=Ql) (A:=A) (w0:=w) _ rfl _ _ 179 179 rfl Vn a9 az (Zc c) aj.o (by rw[Zu];rfl) _ rfl L aC (ac.mono λ_ _ _ h=>h) (by rw[a.o];exact al.o) (by rw[Zu,a.o];omega) (by omega) W.o ?_);intro O Q R b D z _;have G:=Zh b;have F:=Zh z;clear b D z);go_ret;refine⟨⟨O,Q,?_,?_⟩,F⟩
 ·rw[show(laidB s n).length=(Zc c).length+L.length by rw[laidB,List.length_append,Zu,Zu,J.o]]
  rfl
 ·have:=G.rd C.o
  rw[aa.o]at this;rw[laidB,<-J.o];exact this
theorem Qht(s:St)(ok:May s)(n:Nat)(aO:n<=65535)(A:Nat->Prop)(w:World)(T:∀k,A k->k<w.heap.size)(ao:Option Addr)(cap:Nat)(h:Rd Ql A w ao cap (laidB s n)):
 Calls prog 100 #[.slice ao (laidB s n).length cap] w λe w'=>(∃q i x o p f t l r j,e=.returned (.tuple #[.agg #[.int .i64 s.broker,.int .i64 s.nextId,.int .i64 s.nextSeq,.int .i64 s.tx,.slice q s.ms.length i,.slice x s.waits.length o,.slice p s.ends.length f,.slice t s.opens.length l,.slice r s.noes.length j],.int .i64 n,.bool true])/\StR A w' s q i x o p f t l r j)/\Bel w w':=by
 obtain⟨ab,aj⟩:=Zh2 T ok;have am:=Qku ok;obtain⟨m,a⟩:=Zx ((laidB s n).length);have an:m=10+(encS s).length:=by rw[a];exact Qhs ok n
 have al:0<(encS s).length:=by rw[Qn8,List.length_append,Qu];omega
 obtain⟨z,N⟩:=Zx w.heap.size;obtain⟨y,U⟩:=Zx (λk=>A k\/z<=k);have H:∀k,y k↔A k\/z<=k:=λk=>by rw[U]
 have d:=h.mono λk L h=>((H k).1 h).elim id λh=>by omega
 obtain⟨c,I⟩:=Zx (crc (Uq s n));have aL:=I▸Qfx _;have aP:IntKind.i64.wrap (c:Int)=(c:Int):=by rw[IntKind.wrap_i64];omega
 have aw:i64 (c:Int):=by simp only[i64];omega
 have X:=h.le;rw[<-a]at X;have ap:=h.max;obtain⟨g,off,rfl⟩:∃g off,ao=some ⟨g,off,none⟩:=by
  obtain⟨xs,_,B⟩:=h;obtain⟨g,off,e,_⟩:=B.cell (by omega);exact⟨g,off,e⟩
 have K:=d.drop (k:=8) (by rw[<-a];omega);have J:=d.drop (k:=10) (by rw[<-a];omega);have C:(laidB s n).drop 8=Uq s n:=by rw[laidB,List.drop_append_of_le_length (by rw[Zu];omega),List.drop_of_length_le (by rw[Zu];omega)];rfl
 have S:(laidB s n).drop 10=encS s:=by
  rw[show(10:Nat)=8+2 from rfl,<-List.drop_drop,C,Uq,List.drop_append_of_le_length (by rw[Qu];omega),List.drop_of_length_le (by rw[Qu];omega)];rfl
 have E:adv (some ⟨g,off,none⟩) cap 8 1=some ⟨g,off+8,none⟩:=by rw[adv,if_neg (by omega),Option.map_some,Addr.add_lit]
 have D:adv (some ⟨g,off,none⟩) cap 10 1=some ⟨g,off+10,none⟩:=by rw[adv,if_neg (by omega),Option.map_some,Addr.add_lit]
 rw[C,show Ql.size=1 from rfl,E]at K;rw[S,show Ql.size=1 from rfl,D]at J;have ay:∀w,(Instr.slice 179 (.slice (some ⟨g,off,none⟩) m cap) (some (.int .i64 8)) none none).run prog w=.ok (.slice (some ⟨g,off+8,none⟩) (m-8) (cap-8)) w:=λw=>by have:=Ti (some ⟨g,off,none⟩) m cap 8 (by omega) w;rw[E]at this;exact this
 have ax:∀w,(Instr.slice 179 (.slice (some ⟨g,off,none⟩) m cap) (some (.int .i64 10)) none none).run prog w=.ok (.slice (some ⟨g,off+10,none⟩) (m-10) (cap-10)) w:=λw=>by have:=Ti (some ⟨g,off,none⟩) m cap 10 (by omega) w;rw[D]at this;exact this
 obtain⟨a8,Z⟩:=Zx (m-8);obtain⟨az,Y⟩:=Zx (m-10);rw[<-Z]at ay;rw[<-Y]at ax;have W:(Uq s n).length=a8:=by rw[Qff ok];omega
 have V:(encS s).length=az:=by omega
 have aS:(8:Int)<=(m:Int):=by omega
 have aT:(10:Int)<=(m:Int):=by omega
 have aU:(8:Int)<=(cap:Int):=by omega
 have aV:(10:Int)<=(cap:Int):=by omega
 rw[<-a];obtain⟨R,B⟩:=Zx (w.alloc (.cells #[.int .i64 0,.int .i64 0,.int .i64 0,.int .i64 0,.slice none 0 0,.slice none 0 0,.slice none 0 0,.slice none 0 0,.slice none 0 0] 43));have F:=Zb B;have O:R.heap[z]?=some (.cells #[.int .i64 0,.int .i64 0,.int .i64 0,.int .i64 0,.slice none 0 0,.slice none 0 0,.slice none 0 0,.slice none 0 0,.slice none 0 0] 43 (0,0)):=by rw[N,B];exact heap_alloc_new _ _
 have M:=V7 y R _ cap (laidB s n) (d.bel F);rw[<-a]at M;obtain⟨ah,G,P,ad,ac,Q,aa,ak,af,ae,ai⟩:=Qv3 M N H K J I F O W V B;have aQ:=Qb O;clear T ok am a an al U H h d I X ap K J C S E D Z Y W V F O M B;go_enter func100,ntmps100;go_wp2_with fail;rw[<-G.o,<-ai.o];clear N;refine ah.mono ?_;rintro e aW ⟨b,rfl,aK,a,b2⟩;obtain⟨O,Z⟩:=Zh2 (aa.trans b2) (b2.heap ak.o);have aR:z<b:=by omega
 rw[show laidB s n=Zc c++(Qd n++encS s) by rw[Q.o];rfl]at a;have T:=Zh a;clear b2 a;go_wp2_with fail;refine(Jt c aw _ _ _ b T).mono ?_;rintro e aX ⟨rfl,a,k3⟩;obtain⟨W,Y⟩:=Zh2 a k3;clear a k3;go_wp2_with fail;refine(Dx n (by omega) _ _ _ b W.o).mono ?_;rintro e D ⟨rfl,a,d⟩;obtain⟨X,K⟩:=Zh2 a (Y.trans d);clear a d;obtain⟨B,N⟩:=Zh2 (O.of_kept K.o (λk h=>by have:=G.o;omega)) (K.heap (show ¬z=b by omega) Z.o);have a:=Qf4 y D _ (cap-8) (Uq s n) (ad.bel B);rw[af.o,<-Q.o]at a;have U:=Zh a;clear a;go_wp2_with fail;refine(Y7 _ D b _ false X).zS ?_;go_wp2_with fail;refine U.zS ?_;obtain⟨I,a⟩:=Zx (λk=>y k/\k<D.heap.size);have E:=Zh (show ∀k,I k↔y k/\k<D.heap.size fromλk=>by rw[a]);clear a;have d:=Qc4 s aj I D (λk h=>((E k).1 h).2) _ (cap-10) ((ac.bel B).mono λk _ h=>((E k).1 h).1);rw[ae.o]at d;go_wp2_with fail;refine d.mono ?_;rintro e a9 ⟨⟨q,i,x,o,p,f,t,l,r,j,rfl,F⟩,a⟩;obtain⟨V,S,al⟩:=Zh3 F (B.trans a) (a.heap N.o);clear d F a;go_upto_region 6 with (fail);obtain⟨M,F⟩:=Zx (a9.alloc (.cells #[.int .i64 s.broker,.int .i64 s.nextId,.int .i64 s.nextSeq,.int .i64 s.tx,.slice q s.ms.length i,.slice x s.waits.length o,.slice p s.ends.length f,.slice t s.opens.length l,.slice r s.noes.length j] 43));rw[<-F];have H:=Zb F;have d:=Zn F;have a:=H.heap al;have J:=Zh H;have aM:=Qb d;have aN:=Qb a;have aA:=cell_of_block d 0 _ rfl;have e0:=cell_of_block a 0 _ rfl;have aJ:=Qa a;have aB:=cell_of_block d 1 _ rfl;have am:=cell_of_block a 1 _ rfl;have aC:=cell_of_block d 2 _ rfl;have an:=cell_of_block a 2 _ rfl;have aD:=cell_of_block d 3 _ rfl;have ap:=cell_of_block a 3 _ rfl;have aE:=cell_of_block d 4 _ rfl;have aq:=cell_of_block a 4 _ rfl;have aF:=cell_of_block d 5 _ rfl;have ar:=cell_of_block a 5 _ rfl;have aG:=cell_of_block d 6 _ rfl;have au:=cell_of_block a 6 _ rfl;have aH:=cell_of_block d 7 _ rfl;have av:=cell_of_block a 7 _ rfl;have aI:=cell_of_block d 8 _ rfl;have C:=cell_of_block a 8 _ rfl;clear F H d a;go_wp2_with fail;have F:∀a,Kept (λk=>k=z) M a->StR A a s q i x o p f t l r j/\Bel w a:=λa L=>by
  have a:=G.o;refine⟨(V.bel J.o).keep L (λk h=>(E.o k).2 ⟨(P.o k).2 (.inr (by omega)),by have:=B.size;have:=Qb N.o;omega⟩) (λk _ h=>(E.o k).2 ⟨(P.o k).2 (.inl h),by have:=ab.o k h;have:=B.size;omega⟩),?_⟩;exact(S.trans J.o).of_kept L (λk h=>by omega)
 refine bodyPost_ret (v:=.tuple #[.agg #[.int .i64 s.broker,.int .i64 s.nextId,.int .i64 s.nextSeq,.int .i64 s.tx,.slice q s.ms.length i,.slice x s.waits.length o,.slice p s.ends.length f,.slice t s.opens.length l,.slice r s.noes.length j],.int .i64 n,.bool true]) (by simp[results,results100,go_sem,e0,am,an,ap,aq,ar,au,av,C]) rfl ?_;obtain⟨a,d⟩:=F _ (Xu M z _ _ _ _ _ _ _ _ _);exact⟨⟨q,i,x,o,p,f,t,l,r,j,rfl,a⟩,d⟩
theorem Ls{α:Type}{r:Rp α}{A:Nat->Prop}{w0 a w:World}{e:TypeId}{ao:Option Addr}{cap:Nat}{l:List α}(h:Own r A a w e ao cap l)(g:w0.heap.size<=a.heap.size):Own r A w0 w e ao cap l:=by
 obtain⟨xs,b,c,d⟩:=h;exact⟨xs,b,c,λk f=>Nat.le_trans g (d k f)⟩
theorem Ua{α:Type}{r:Rp α}{A:Nat->Prop}{w0 w:World}{e:TypeId}{ao:Option Addr}{cap:Nat}{l:List α}(h:Own r A w0 w e ao cap l){k:Nat}(b:Qc ao cap k):w0.heap.size<=k:=by
 obtain⟨xs,c,d,a⟩:=h;exact a k b
theorem Bp{A B:Nat->Prop}{w0 w:World}{e:TypeId}{ao:Option Addr}{cap:Nat}{l:List Msg}(h:Own Xy A w0 w e ao cap l):Own Xy B w0 w e ao cap l:=by
 obtain⟨xs,a,b,c⟩:=h;exact⟨xs,a.mono λ_ _ _ h=>h,b,c⟩
theorem Bq{A B:Nat->Prop}{w0 w:World}{e:TypeId}{ao:Option Addr}{cap:Nat}{l:List Fin}(h:Own J7 A w0 w e ao cap l):Own J7 B w0 w e ao cap l:=by
 obtain⟨xs,a,b,c⟩:=h;exact⟨xs,a.mono λ_ _ _ h=>h,b,c⟩
def hdr(z:Nat)(xw:Option Addr)(xW:Nat)(xo:Option Addr)(xO:Nat)(xn:Option Addr)(xN:Nat)(k:Nat):Prop:=k=z\/k=z+1\/Qc xw xW k\/Qc xo xO k\/Qc xn xN k
structure Sts(w:World)(z:Nat)(s:St)(xm:Option Addr)(xM:Nat)(xw:Option Addr)(xW:Nat)(xe:Option Addr)(xE:Nat)(xo:Option Addr)(xO:Nat)(xn:Option Addr)(xN:Nat)(i j k:Nat)(W:World):Prop where
 zb:W.heap[z]?=some (.cells #[.int .i64 0,.int .i64 0,.int .i64 0,.int .i64 0,.slice none 0 0,.slice none 0 0,.slice none 0 0,.slice none 0 0,.slice none 0 0] 43 (0,0))
 yb:W.heap[z+1]?=some (.cells #[.int .i64 s.broker,.int .i64 s.nextId,.int .i64 s.nextSeq,.int .i64 s.tx,.slice xm s.ms.length xM,.slice xw s.waits.length xW,.slice xe s.ends.length xE,.slice xo s.opens.length xO,.slice xn s.noes.length xN] 43 (0,0))
 ms:Own Xy (λ_=>False) w W 47 xm xM s.ms
 en:Own J7 (λ_=>False) w W 51 xe xE s.ends
 wa:Own (Zm.tag λk=>k<z) (hdr z xw xW xo xO xn xN) w W 58 xw xW (Vh i s.waits)
 op:Own (Z4.tag λk=>k<z) (hdr z xw xW xo xO xn xN) w W 134 xo xO (Vh j s.opens)
 no:Own (Z4.tag λk=>k<z) (hdr z xw xW xo xO xn xN) w W 134 xn xN (Vh k s.noes)
 ap:∃n1 n2 n3 n4,(∀q,Qc xm xM q->z+1<q/\q<n1)/\(∀q,Qc xe xE q->n1<=q/\q<n2)/\(∀q,Qc xw xW q->n2<=q/\q<n3)/\(∀q,Qc xo xO q->n3<=q/\q<n4)/\(∀q,Qc xn xN q->n4<=q)/\z+1<n1/\n1<=n2/\n2<=n3/\n3<=n4
 zw:z=w.heap.size
 bel:Bel w W
section
variable {w : World} {z : Nat} {s : St} {xm : Option Addr} {xM : Nat} {xw : Option Addr} {xW : Nat} {xe : Option Addr} {xE : Nat} {xo : Option Addr} {xO : Nat} {xn : Option Addr} {xN : Nat} {i j k : Nat} {W W2 : World}
theorem Sts.lt(h:Sts w z s xm xM xw xW xe xE xo xO xn xN i j k W){q:Nat}(a:hdr z xw xW xo xO xn xN q):q<W.heap.size:=by
 rcases a with rfl|rfl|a|a|a
 ·exact Qb h.zb
 ·exact Qb h.yb
 ·exact h.wa.lt a
 ·exact h.op.lt a
 ·exact h.no.lt a
theorem Sts.up(h:Sts w z s xm xM xw xW xe xE xo xO xn xN i j k W)(a:Bel W W2):Sts w z s xm xM xw xW xe xE xo xO xn xN i j k W2:=
 ⟨a.heap h.zb,a.heap h.yb,h.ms.bel a,h.en.bel a,h.wa.bel a,h.op.bel a,h.no.bel a,h.ap,h.zw,h.bel.trans a⟩
theorem Sts.fresh{α:Type}{r:Rp α}(h:Sts w z s xm xM xw xW xe xE xo xO xn xN i j k W){T:TypeId}{po:Option Addr}{pc:Nat}{l:List α}{ao:Option Addr}{cap:Nat}(b:∀q,Qc ao cap q->hdr z xw xW xo xO xn xN q)(c:∀A,Own r A W W2 T po pc l):Rd r (λq=>(hdr z xw xW xo xO xn xN q\/Qc ao cap q)\/q<z) W2 po pc l:=
 (c _).rd λq a=>by
  rcases a with (a|a)|a
  ·exact h.lt a
  ·exact h.lt (b q a)
  ·have:=h.bel.size;have:=h.zw;omega
theorem Sts.stepW(h:Sts w z s xm xM xw xW xe xE xo xO xn xN i j k W){x:Branch}(m:s.waits[i]?=some x){g off:Nat}(f:xw=some ⟨g,off,none⟩)(e:Bel W W2){T:TypeId}{po:Option Addr}{pc:Nat}(l:∀A,Own Qw A W W2 T po pc x.puts):
 Sts w z s xm xM xw xW xe xE xo xO xn xN (i+1) j k (W2.setCell ⟨g,off+i*2+1,none⟩ (.slice po x.puts.length pc)):=by
 obtain⟨n,d⟩:=Qvt (h.up e).wa m f (h.fresh (λq a=>.inr (.inr (.inl a))) l);obtain⟨t,v,y,B,a1,a2,a3,a4,a5,a6,a7,o,p⟩:=h.ap;have r:=h.zw;have c:=h.up e;have sub:∀q,Qc xw xW q->hdr z xw xW xo xO xn xN q:=λq a=>.inr (.inr (.inl a))
 exact⟨d.heap (λa=>by have:=a3 _ a;omega) c.zb,d.heap (λa=>by have:=a3 _ a;omega) c.yb,(Bp (A:=Qc xw xW) ((Bp c.ms).keep d (λ_ h=>h) (λq a b=>by have:=a1 q a;have:=a3 q b;omega) λ_ _ h=>h)),(Bq (A:=Qc xw xW) ((Bq c.en).keep d (λ_ h=>h) (λq a b=>by have:=a2 q a;have:=a3 q b;omega) λ_ _ h=>h)),n,c.op.keep d sub (λq a b=>by have:=a4 q a;have:=a3 q b;omega) λ_ _ h=>h,c.no.keep d sub (λq a b=>by have:=a5 q a;have:=a3 q b;omega) λ_ _ h=>h,h.ap,h.zw,c.bel.of_kept d λq a=>by have:=a3 q a;omega⟩
theorem Sts.stepO(h:Sts w z s xm xM xw xW xe xE xo xO xn xN i j k W){x:Qv}(m:s.opens[j]?=some x){g off:Nat}(f:xo=some ⟨g,off,none⟩)(e:Bel W W2){T:TypeId}{po:Option Addr}{pc:Nat}(l:∀A,Own Qh A W W2 T po pc x.parts):
 Sts w z s xm xM xw xW xe xE xo xO xn xN i (j+1) k (W2.setCell ⟨g,off+j*2+1,none⟩ (.slice po x.parts.length pc)):=by
 obtain⟨n,d⟩:=Qmc (h.up e).op m f (h.fresh (λq a=>.inr (.inr (.inr (.inl a)))) l);obtain⟨t,v,y,B,a1,a2,a3,a4,a5,a6,a7,o,p⟩:=h.ap;have r:=h.zw;have c:=h.up e;have sub:∀q,Qc xo xO q->hdr z xw xW xo xO xn xN q:=λq a=>.inr (.inr (.inr (.inl a)))
 exact⟨d.heap (λa=>by have:=a4 _ a;omega) c.zb,d.heap (λa=>by have:=a4 _ a;omega) c.yb,(Bp (A:=Qc xo xO) ((Bp c.ms).keep d (λ_ h=>h) (λq a b=>by have:=a1 q a;have:=a4 q b;omega) λ_ _ h=>h)),(Bq (A:=Qc xo xO) ((Bq c.en).keep d (λ_ h=>h) (λq a b=>by have:=a2 q a;have:=a4 q b;omega) λ_ _ h=>h)),c.wa.keep d sub (λq a b=>by have:=a3 q a;have:=a4 q b;omega) λ_ _ h=>h,n,c.no.keep d sub (λq a b=>by have:=a5 q a;have:=a4 q b;omega) λ_ _ h=>h,h.ap,h.zw,c.bel.of_kept d λq a=>by have:=a4 q a;omega⟩
theorem Sts.stepN(h:Sts w z s xm xM xw xW xe xE xo xO xn xN i j k W){x:Qv}(m:s.noes[k]?=some x){g off:Nat}(f:xn=some ⟨g,off,none⟩)(e:Bel W W2){T:TypeId}{po:Option Addr}{pc:Nat}(l:∀A,Own Qh A W W2 T po pc x.parts):
 Sts w z s xm xM xw xW xe xE xo xO xn xN i j (k+1) (W2.setCell ⟨g,off+k*2+1,none⟩ (.slice po x.parts.length pc)):=by
 obtain⟨n,d⟩:=Qmc (h.up e).no m f (h.fresh (λq a=>.inr (.inr (.inr (.inr a)))) l);obtain⟨t,v,y,B,a1,a2,a3,a4,a5,a6,a7,o,p⟩:=h.ap;have r:=h.zw;have c:=h.up e;have sub:∀q,Qc xn xN q->hdr z xw xW xo xO xn xN q:=λq a=>.inr (.inr (.inr (.inr a)))
 exact⟨d.heap (λa=>by have:=a5 _ a;omega) c.zb,d.heap (λa=>by have:=a5 _ a;omega) c.yb,(Bp (A:=Qc xn xN) ((Bp c.ms).keep d (λ_ h=>h) (λq a b=>by have:=a1 q a;have:=a5 q b;omega) λ_ _ h=>h)),(Bq (A:=Qc xn xN) ((Bq c.en).keep d (λ_ h=>h) (λq a b=>by have:=a2 q a;have:=a5 q b;omega) λ_ _ h=>h)),c.wa.keep d sub (λq a b=>by have:=a3 q a;have:=a5 q b;omega) λ_ _ h=>h,c.op.keep d sub (λq a b=>by have:=a4 q a;have:=a5 q b;omega) λ_ _ h=>h,n,h.ap,h.zw,c.bel.of_kept d λq a=>by have:=a5 q a;omega⟩
theorem Sts.done(h:Sts w z s xm xM xw xW xe xE xo xO xn xN s.waits.length s.opens.length s.noes.length W)(b:Kept (λq=>q=z) W W2):StR (λq=>q<w.heap.size) W2 s xm xM xw xW xe xE xo xO xn xN/\Bel w W2:=by
 have d:∀q,q<W.heap.size->q<w.heap.size->hdr z xw xW xo xO xn xN q\/q<z:=λq _ a=>.inr (by have:=h.zw;omega)
 obtain⟨m,n,o,p,a1,a2,a3,a4,a5,a6,a7,j,k⟩:=h.ap;have l:=h.zw;have e:∀q,q=z->hdr z xw xW xo xO xn xN q\/q<z:=λq h=>.inl (.inl h)
 have i:=h.wa;have g:=h.op;have f:=h.no;rw[Qvs (Nat.le_refl _)]at i g f;exact⟨⟨(Bp ((Bp (A:=λq=>q=z) h.ms).keep b (λ_ h=>h) (λq a c=>by have:=a1 q a;omega) λ_ _ h=>h)).rd λ_ h=>h,(i.tag1.keep b e (λq a c=>by have:=a3 q a;omega) d).rd λ_ h=>h,(Bq ((Bq (A:=λq=>q=z) h.en).keep b (λ_ h=>h) (λq a c=>by have:=a2 q a;omega) λ_ _ h=>h)).rd λ_ h=>h,
  (g.tag1.keep b e (λq a c=>by have:=a4 q a;omega) d).rd λ_ h=>h,(f.tag1.keep b e (λq a c=>by have:=a5 q a;omega) d).rd λ_ h=>h⟩,h.bel.of_kept b λq h=>by omega⟩
theorem Qvp{A B:Nat->Prop}{w0 w:World}{e:TypeId}{ao:Option Addr}{cap:Nat}{l:List Put}(h:Own Qw A w0 w e ao cap l):Own Qw B w0 w e ao cap l:=by
 obtain⟨xs,a,b,c⟩:=h;exact⟨xs,a.mono λ_ _ _ h=>h,b,c⟩
theorem Qvq{A B:Nat->Prop}{w0 w:World}{e:TypeId}{ao:Option Addr}{cap:Nat}{l:List Int}(h:Own Qh A w0 w e ao cap l):Own Qh B w0 w e ao cap l:=by
 obtain⟨xs,a,b,c⟩:=h;exact⟨xs,a.mono λ_ _ _ h=>h,b,c⟩
end
theorem Qsx(w:World)(g:Nat)(a b c d e:Value):Kept (λk=>k=g) w (((((w.setCell ⟨g,4,none⟩ a).setCell ⟨g,6,none⟩ c).setCell ⟨g,5,none⟩ b).setCell ⟨g,7,none⟩ d).setCell ⟨g,8,none⟩ e):=
 (((((Kept.refl (λk=>k=g) w).setCell (p:=⟨g,4,none⟩) rfl _).setCell (p:=⟨g,6,none⟩) rfl _).setCell (p:=⟨g,5,none⟩) rfl _).setCell (p:=⟨g,7,none⟩) rfl _).setCell (p:=⟨g,8,none⟩) rfl _
theorem Qsy{w:World}{g:Nat}{a0 a1 a2 a3 a4 a5 a6 a7 h b c d e f:Value}(T:TypeId)(a:Nat×Nat)(i:w.heap[g]?=some (.cells #[a0,a1,a2,a3,a4,a5,a6,a7,h] T a)):
 (((((w.setCell ⟨g,4,none⟩ b).setCell ⟨g,6,none⟩ d).setCell ⟨g,5,none⟩ c).setCell ⟨g,7,none⟩ e).setCell ⟨g,8,none⟩ f).heap[g]?=some (.cells #[a0,a1,a2,a3,b,c,d,e,f] T a):=by
 have j:=Go.Mem.heap_setCell_same _ g 4 b _ T a i;have k:=Go.Mem.heap_setCell_same _ g 6 d _ T a j;have l:=Go.Mem.heap_setCell_same _ g 5 c _ T a k;have m:=Go.Mem.heap_setCell_same _ g 7 e _ T a l;have n:=Go.Mem.heap_setCell_same _ g 8 f _ T a m;rw[n];simp
theorem Qiu{A O:Nat->Prop}{w:World}{aX bx:Nat}{b7:Int}{v:Vw}{last:Nat}{all:List (List UInt8)}{s:St}(h:KAt A O w aX bx b7 v last all s)(ok:May s):
 Calls prog 23 #[.pointer (some ⟨aX,0,none⟩)] w λe w'=>∃xm xM xw xW xe xE xo xO xn xN,e=.returned (.agg #[.int .i64 s.broker,.int .i64 s.nextId,.int .i64 s.nextSeq,.int .i64 s.tx,.slice xm s.ms.length xM,.slice xw s.waits.length xW,.slice xe s.ends.length xE,.slice xo s.opens.length xO,.slice xn s.noes.length xN])/\StR (λk=>k<w.heap.size) w' s xm xM xw xW xe xE xo xO xn xN/\Bel w w':=by
 obtain⟨⟨bK,b8,b9,T,al,ah,ao,aj,ak,af,an,ai,am,sN,j,H,n,K,M,J⟩,N⟩:=h;obtain⟨z,B⟩:=Zx w.heap.size;have o:StR (λk=>z<=k) w s al ah ao aj ak af an ai am sN:=n.mono λk b h=>absurd h (by omega)
 obtain⟨aE,I⟩:=Zh2 B o;have bE:=ok.few;have bJ:=Qk ok.tw;have bB:=Qk ok.te;have b5:=Qk ok.tp;have b4:=Qk ok.tn;have bD:=Qb j;obtain⟨ab,l⟩:=Zx ((w.alloc (.cells #[.int .i64 0,.int .i64 0,.int .i64 0,.int .i64 0,.slice none 0 0,.slice none 0 0,.slice none 0 0,.slice none 0 0,.slice none 0 0] 43)).alloc (.cells #[.int .i64 s.broker,.int .i64 s.nextId,.int .i64 s.nextSeq,.int .i64 s.tx,.slice al s.ms.length ah,.slice ao s.waits.length aj,.slice ak s.ends.length af,.slice an s.opens.length ai,.slice am s.noes.length sN] 43));have m:Bel w ab:=l▸((Bel.refl w).alloc _).alloc _;have c:ab.heap[z]?=some (.cells #[.int .i64 0,.int .i64 0,.int .i64 0,.int .i64 0,.slice none 0 0,.slice none 0 0,.slice none 0 0,.slice none 0 0,.slice none 0 0] 43 (0,0)):=by rw[B,l];exact Ke _ _ _
 have f:ab.heap[z+1]?=some (.cells #[.int .i64 s.broker,.int .i64 s.nextId,.int .i64 s.nextSeq,.int .i64 s.tx,.slice al s.ms.length ah,.slice ao s.waits.length aj,.slice ak s.ends.length af,.slice an s.opens.length ai,.slice am s.noes.length sN] 43 (0,0)):=by rw[B,l];exact Jc _ _ _
 have p:ab.heap.size=z+2:=by rw[B,l];simp
 have c2:=cell_of_block j 2 _ rfl;have c3:=cell_of_block j 3 _ rfl;have y:=cell_of_block j 4 _ rfl;have C:=cell_of_block j 5 _ rfl;have D:=cell_of_block j 6 _ rfl;have E:=cell_of_block j 7 _ rfl;have F:=cell_of_block j 8 _ rfl;have G:=cell_of_block j 9 _ rfl;have t:=cell_of_block j 10 _ rfl;obtain⟨bf,bv,bs,bm,bj,bq,bo,bn⟩:=Zh8 m c f l p (show ∀x∈s.waits,x.puts.length<=10 fromλx b=>Qai (Mg ok x b).2) (show ∀x∈s.opens,x.parts.length<=7 fromλx b=>Dq (Mh ok x b).2) (show ∀x∈s.noes,x.parts.length<=7 fromλx b=>Dq (Su ok x b).2);clear j H n K M J N o m c f l p ok B;go_enter func23,ntmps23;go_wp2_with fail;rw[<-aE.o,<-bm.o];clear c2 c3 y C D E F G t;refine Zp [16,18,20,22,24] 25 (by kernel_rfl) rfl (by kernel_rfl) (λ_ d _ _ _ h=>by cases d<;>exact h) ?_;intro be l o;have n:=l.heap bs;obtain⟨-,-,-,-,p,t,y,C,E⟩:=Ua9 n;obtain⟨D,bw,bu,bk⟩:=Zh4 (bf.trans l) (l.heap bv.o) n (show be.heap.size=z+2 by rw[o,bj.o]);clear l o n;refine J6 20 [0,3,6,9,12] (by kernel_rfl) rfl ?_;simp only[Za,List.getElem?_cons_zero,List.getElem?_cons_succ];repeat(go_big_quiet_step(fail))
 refine wpQuiet_nil ?_;refine Xt 15 [1,4,7,10,13] (by kernel_rfl) rfl ?_;simp only[Za,List.getElem?_cons_zero,List.getElem?_cons_succ];repeat(go_big_quiet_step(fail))
 refine wpQuiet_nil ?_;clear p t y C E;refine Qq 14 2 (by kernel_rfl) rfl ?_;go_wp2_with fail;refine(Qa9 (λk=>z<=k) be al ah s.ms (I.ms.bel D.o) (by omega)).mono ?_;rintro e aZ ⟨⟨xm,xM,rfl,l⟩,m⟩;obtain⟨X,U⟩:=Zh2 l m;clear l m;go_wp2_with fail;refine Zl U ?_;refine J6 13 [15] (by kernel_rfl) rfl ?_;simp only[Za,List.getElem?_cons_zero,List.getElem?_cons_succ];repeat(go_big_quiet_step(fail))
 refine wpQuiet_nil ?_;refine Qq 12 5 (by kernel_rfl) rfl ?_;go_wp2_with fail;refine(Ns (λk=>z<=k) aZ ak af s.ends (I.ends.bel (D.trans U.o)) (by omega)).mono ?_;rintro e ba ⟨⟨xe,xE,rfl,l⟩,b2⟩;obtain⟨Y,aq,aB⟩:=Zh3 l b2 (U.trans b2);clear l b2;go_wp2_with fail;refine Zl aq ?_;refine Qq 11 8 (by kernel_rfl) rfl ?_;go_wp2_with fail;refine(Ma (λk=>z<=k) ba ao aj s.waits (I.waits.bel (D.trans aB.o)) (by omega)).mono ?_;rintro e bb ⟨⟨xw,xW,rfl,m⟩,l⟩;obtain⟨J,V,aC⟩:=Zh3 m l (aB.trans l);clear m l;go_wp2_with fail;refine Zl V ?_;refine Qq 10 11 (by kernel_rfl) rfl ?_;go_wp2_with fail;refine(H5 (λk=>z<=k) bb an ai s.opens (I.opens.bel (D.trans aC.o)) (by omega)).mono ?_;rintro e bc ⟨⟨xo,xO,rfl,m⟩,l⟩;obtain⟨K,H,aD⟩:=Zh3 m l (aC.trans l);clear m l;go_wp2_with fail;refine Zl H ?_;refine Qq 9 14 (by kernel_rfl) rfl ?_;go_wp2_with fail;refine(H5 (λk=>z<=k) bc am sN s.noes (I.noes.bel (D.trans aD.o)) (by omega)).mono ?_;rintro e ap ⟨⟨xn,xN,rfl,m⟩,l⟩;obtain⟨Z,E,ar⟩:=Zh3 m l (aD.trans l);clear m l;go_wp2_with fail;refine Zl E ?_;have l:=ar.heap bu;have R:=Qb l;have aJ:=Qa l 4;have aK:=Qa l 5;have aL:=Qa l 6;have aM:=Qa l 7;have aN:=Qa l 8;obtain⟨-,-,-,-,aF,az,aG,aH,aI⟩:=Ca9 l;have bt:=Zh l;clear l;refine Qq 8 16 (by kernel_rfl) rfl ?_;go_wp2_with fail;refine Z6 ?_;refine J6 7 [17] (by kernel_rfl) rfl ?_;simp only[Za,List.getElem?_cons_zero,List.getElem?_cons_succ];go_big_quiet_step(fail)
 refine wpQuiet_nil ?_;refine Qq 6 18 (by kernel_rfl) rfl ?_;go_wp2_with fail;refine Z6 ?_;refine J6 5 [19] (by kernel_rfl) rfl ?_;simp only[Za,List.getElem?_cons_zero,List.getElem?_cons_succ];go_big_quiet_step(fail)
 refine wpQuiet_nil ?_;refine Qq 4 20 (by kernel_rfl) rfl ?_;go_wp2_with fail;refine Z6 ?_;refine J6 3 [21] (by kernel_rfl) rfl ?_;simp only[Za,List.getElem?_cons_zero,List.getElem?_cons_succ];go_big_quiet_step(fail)
 refine wpQuiet_nil ?_;refine Qq 2 22 (by kernel_rfl) rfl ?_;go_wp2_with fail;refine Z6 ?_;refine J6 1 [23] (by kernel_rfl) rfl ?_;simp only[Za,List.getElem?_cons_zero,List.getElem?_cons_succ];go_big_quiet_step(fail)
 refine wpQuiet_nil ?_;refine Qq 0 24 (by kernel_rfl) rfl ?_;go_wp2_with fail;refine Z6 ?_;refine X0 (by kernel_rfl) ?_;obtain⟨ay,y⟩:=Zx (((((ap.setCell ⟨z+1,4,none⟩ (.slice xm s.ms.length xM)).setCell ⟨z+1,6,none⟩ (.slice xe s.ends.length xE)).setCell ⟨z+1,5,none⟩ (.slice xw s.waits.length xW)).setCell ⟨z+1,7,none⟩ (.slice xo s.opens.length xO)).setCell ⟨z+1,8,none⟩ (.slice xn s.noes.length xN));rw[<-y];have m:Kept (λk=>k=z+1) ap ay:=y▸Qsx ap (z+1) _ _ _ _ _;have P:ay.heap[z+1]?=some (.cells #[.int .i64 s.broker,.int .i64 s.nextId,.int .i64 s.nextSeq,.int .i64 s.tx,.slice xm s.ms.length xM,.slice xw s.waits.length xW,.slice xe s.ends.length xE,.slice xo s.opens.length xO,.slice xn s.noes.length xN] 43 (0,0)):=y▸Qsy _ _ bt.o;have Q:Sts w z s xm xM xw xW xe xE xo xO xn xN 0 0 0 ay:=by
  have B:=aE.o;have F:=bk.o;have ac:=U.size;have p:=aq.size;have M:=V.size;have t:=H.size;have G:=E.size;have n:∀k,k=z+1->z<=k:=λk h=>by omega
  have C:∀k,k<ap.heap.size->hdr z xw xW xo xO xn xN k->z<=k:=λk _ h=>by
   rcases h with h|h|h|h|h
   ·omega
   ·omega
   ·have:=Ua J.o h;omega
   ·have:=Ua K.o h;omega
   ·have:=Ua Z.o h;omega
  refine⟨m.heap (by show ¬z=z+1;omega) (ar.heap bw.o),P,?_,?_,?_,?_,?_,⟨aZ.heap.size,ba.heap.size,bb.heap.size,bc.heap.size,λq h=>⟨by have:=Ua X.o h;omega,X.lt h⟩,λq h=>⟨Ua Y.o h,Y.lt h⟩,λq h=>⟨Ua J.o h,J.lt h⟩,λq h=>⟨Ua K.o h,K.lt h⟩,λq h=>Ua Z.o h,by omega,p,M,t⟩,B,(D.trans ar.o).of_kept m λk h=>by omega⟩
  ·exact Bp (Ls ((X.bel (aq.trans (V.trans (H.trans E.o)))).keep m n (λk l o=>by have:=Ua X.o l;omega) λ_ _ h=>h) (by omega))
  ·exact Bq (Ls ((Y.bel (V.trans (H.trans E.o))).keep m n (λk l o=>by have:=Ua Y.o l;omega) λ_ _ h=>h) (by omega))
  ·rw[Qb2]
   exact(Ls ((J.bel (H.trans E.o)).keep m n (λk l o=>by have:=Ua J.o l;omega) C) (by omega)).tag0 _
  ·rw[Qb2]
   exact(Ls ((K.bel E.o).keep m n (λk l o=>by have:=Ua K.o l;omega) C) (by omega)).tag0 _
  ·rw[Qb2]
   exact(Ls (Z.keep m n (λk l o=>by have:=Ua Z.o l;omega) C) (by omega)).tag0 _
 have bi:=Zh Q;obtain⟨bM,o⟩:=Zx s.waits.length;obtain⟨no,n⟩:=Zx s.opens.length;obtain⟨bL,l⟩:=Zx s.noes.length;have az:=cell_of_block P 5 _ rfl;clear aJ aK aL aM aN aF aG aH aI y m P Q R o n l;go_wp2;go_loopw[4,38] (λ_ a wr=>∃i:Nat,i<=s.waits.length/\a=.int .i64 i/\Hid (Sts w z s xm xM xw xW xe xE xo xO xn xN i 0 0 wr)) (λ_ a _=>s.waits.length-(intOf a).toNat)
 case atStart=>exact⟨0,Nat.zero_le _,rfl,bi⟩
 case round=>
  obtain⟨i,b3,rfl,l⟩:=hrel;by_cases bz:i<s.waits.length
  ·obtain⟨x,b⟩:∃x,s.waits[i]?=some x:=⟨s.waits[i],by simp⟩
   have y:=l.yb;obtain⟨g,off,a1,c1,o,m,Q,P,ae,S,C⟩:=Qo0 l.wa b;obtain⟨av,ad,aw,au⟩:=Zh4 b m C P;have n:=cell_of_block y 5 _ rfl;have b0:(0:Int)<=(i:Int):=by omega
   have b1:(i:Int)<(s.waits.length:Int):=by omega
   have b6:IntKind.i64.wrap ((i:Int)+1)=((i+1:Nat):Int):=by rw[IntKind.wrap_i64];omega
   have a9:x.puts.length<=4294967296:=by have:=bq.o x (List.mem_of_getElem? b);omega
   rw[m]at n;obtain⟨aO,aa⟩:=Zh2 n S;clear b m Q P C y ae S az n;go_wp2_with fail;refine Zp [12] 13 (by kernel_rfl) rfl (by kernel_rfl) (λ_ d _ _ _ h=>by cases d<;>exact h) ?_;intro aP n y;have m:=Zh n;clear y n;have y:=Up.cell (m.cell aO);have n:=Up.cell (m.cell aa);refine Xt 4 [0,1,2,3,4,5,6,7,8] (by kernel_rfl) rfl ?_;simp only[Za,List.getElem?_cons_zero,List.getElem?_cons_succ];repeat(go_big_quiet_step(fail))
   refine wpQuiet_nil ?_;clear y n;refine Qq 3 9 (by kernel_rfl) rfl ?_;go_wp2_with fail;refine(Qba _ aP a1 c1 x.puts (aw.bel m) a9).mono ?_;rintro e bd ⟨⟨aA,pc,rfl,R⟩,n⟩;obtain⟨a8,Q⟩:=Zh2 R n;clear R n;go_wp2_with fail;refine Zl Q ?_;refine J6 1 [10,11] (by kernel_rfl) rfl ?_;simp only[Za,List.getElem?_cons_zero,List.getElem?_cons_succ];repeat(go_big_quiet_step(fail))
   refine wpQuiet_nil ?_;refine Qq 0 12 (by kernel_rfl) rfl ?_;have y:=Q.heap (m.heap au);have aU:=Qb y;have aT:=Qa y (off+i*2+1);have aS:=Q.cell (m.cell aa);go_wp2_with fail;refine Z6 ?_;refine X0 (by kernel_rfl) ?_;have ax:=Zh (l.stepW av ad (m.trans Q) (T:=33) (po:=aA) (pc:=pc) λA=>Ls (Qvp a8) m.size);clear y aU aT aS;go_wp2;go_roundw
   case rel=>exact⟨i+1,by omega,by go_num,ax⟩
   case measure=>simp[intOf];omega
  ·obtain rfl:i=s.waits.length:=by omega
   have ax:=Zh l;have f:=l.yb;have aO:=cell_of_block f 7 _ rfl;have aP:=cell_of_block f 8 _ rfl;clear l f;go_wp2;go_loopw[6,7,59] (λ_ _ a wr=>∃r:Nat,r<=2/\a=.int .i64 r/\Hid (Sts w z s xm xM xw xW xe xE xo xO xn xN s.waits.length (if 0<r then s.opens.length else 0) (if 1<r then s.noes.length else 0) wr)) (λ_ _ a _=>2-(intOf a).toNat)
   case atStart=>exact⟨0,by omega,rfl,ax⟩
   case round=>
    obtain⟨r,bF,rfl,l⟩:=hrel;by_cases bG:r<2
    ·obtain⟨ad,aY,L,Q,bC,ae,aV,aW,aR,aQ,bA⟩:∃(ad:Option Addr) (aY:Nat) (L:List Qv) (Q:Nat->World->Prop),
      (∀w,(Instr.index 136 (.agg #[.slice xo s.opens.length xO,.slice xn s.noes.length xN]) (.int .i64 r)).run prog w=.ok (.slice ad L.length aY) w)/\Q 0 wr ∧
      (∀i W x,Q i W->L[i]?=some x->∃g off a1 c1 o,ad=some ⟨g,off,none⟩/\W.heap[g]?=some (.cells o 134 (0,0))/\W.cell? ⟨g,off+i*2+1,none⟩=some (.slice a1 x.parts.length c1)/\Rd Qh (λ_=>False) W a1 c1 x.parts) ∧
      (∀i W W2 x g off po pc,Q i W->L[i]?=some x->ad=some ⟨g,off,none⟩->Bel W W2->(∀A,Own Qh A W W2 3 po pc x.parts)->Q (i+1) (W2.setCell ⟨g,off+i*2+1,none⟩ (.slice po x.parts.length pc))) ∧
      (∀W,Q L.length W->Sts w z s xm xM xw xW xe xE xo xO xn xN s.waits.length (if 0<r+1 then s.opens.length else 0) (if 1<r+1 then s.noes.length else 0) W)/\(∀x∈L,x.parts.length<=7)/\L.length<=2000:=by
      have bg:r=0\/r=1:=by omega
      rcases bg with rfl|rfl
      ·refine⟨xo,xO,s.opens,λi W=>Sts w z s xm xM xw xW xe xE xo xO xn xN s.waits.length i 0 W,λw=>rfl,l,λi W x m b=>?_,λi W W2 x g off po pc m b N j a8=>m.stepO b N j a8,λW h=>h,bo,b5⟩
       obtain⟨g,off,a1,c1,o,F,ac,p,M,t,G⟩:=Qg7 m.op b;exact⟨g,off,a1,c1,o,F,p,t,G.mono λ_ _ h=>h.elim⟩
      ·refine⟨xn,xN,s.noes,λi W=>Sts w z s xm xM xw xW xe xE xo xO xn xN s.waits.length s.opens.length i W,λw=>rfl,l,λi W x m b=>?_,λi W W2 x g off po pc m b N j a8=>m.stepN b N j a8,λW h=>h,bn,b4⟩
       obtain⟨g,off,a1,c1,o,F,ac,p,M,t,G⟩:=Qg7 m.no b;exact⟨g,off,a1,c1,o,F,p,t,G.mono λ_ _ h=>h.elim⟩
     obtain⟨br,bh,bl,a8,bg⟩:=Zh5 ae aV aW aR aQ;have bH:(r:Int)<2:=by omega
     have bI:IntKind.i64.wrap ((r:Int)+1)=((r+1:Nat):Int):=by rw[IntKind.wrap_i64];omega
     clear ae aV aW aR aQ l aO aP;go_wp2;go_loopw[7,64] (λ_ a wr=>∃i:Nat,i<=L.length/\a=.int .i64 i/\Hid (Q i wr)) (λ_ a _=>L.length-(intOf a).toNat)
     case atStart=>exact⟨0,Nat.zero_le _,rfl,br⟩
     case round=>
      obtain⟨i,b3,rfl,m⟩:=hrel;by_cases bz:i<L.length
      ·obtain⟨x,b⟩:∃x,L[i]?=some x:=⟨L[i],by simp⟩
       obtain⟨g,off,a1,c1,o,ae,P,S,C⟩:=bh.o i _ x m.o b;have a9:x.parts.length<=4294967296:=by have:=bg.o x (List.mem_of_getElem? b);omega
       obtain⟨av,au,aw,aa⟩:=Zh4 b P C S;have b0:(0:Int)<=(i:Int):=by omega
       have b1:(i:Int)<(L.length:Int):=by omega
       have b6:IntKind.i64.wrap ((i:Int)+1)=((i+1:Nat):Int):=by rw[IntKind.wrap_i64];omega
       have aQ:0<L.length:=by omega
       subst ae;clear b P C;go_wp2_with fail;refine(Qbb _ wr a1 c1 x.parts aw a9).mono ?_;rintro e bd ⟨⟨aA,pc,rfl,R⟩,n⟩;have y:=n.heap au;have aU:=Qb y;have aT:=Qa y (off+i*2+1);have aS:=n.cell aa;have b:=Zh (bl i wr bd x g off aA pc m av rfl n λA=>Qvq R);clear R n S y;go_wp2;go_roundw
       case rel=>exact⟨i+1,by omega,by go_num,b⟩
       case measure=>simp[intOf];omega
      ·obtain rfl:i=L.length:=by omega
       have b:=Zh (a8 _ m);go_wp2;go_roundw
       case rel=>exact⟨r+1,by omega,by go_num,b⟩
       case measure=>simp[intOf];omega
    ·obtain rfl:r=2:=by omega
     have b:=Zh (show Sts w z s xm xM xw xW xe xE xo xO xn xN s.waits.length s.opens.length s.noes.length wr from l);have f:=l.yb;have c:=l.zb;have aQ:=Qb f;have aR:=Qb c;have y:=cell_of_block f 0 _ rfl;have e0:=cell_of_block c 0 _ rfl;have S:=Qa c 0;have P:=cell_of_block f 1 _ rfl;have F:=cell_of_block c 1 _ rfl;have ad:=Qa c 1;have Q:=cell_of_block f 2 _ rfl;have ac:=cell_of_block c 2 _ rfl;have ae:=Qa c 2;have R:=cell_of_block f 3 _ rfl;have p:=cell_of_block c 3 _ rfl;have a8:=Qa c 3;have aF:=cell_of_block f 4 _ rfl;have M:=cell_of_block c 4 _ rfl;have aJ:=Qa c 4;have az:=cell_of_block f 5 _ rfl;have t:=cell_of_block c 5 _ rfl;have aK:=Qa c 5;have aG:=cell_of_block f 6 _ rfl;have G:=cell_of_block c 6 _ rfl;have aL:=Qa c 6;have aH:=cell_of_block f 7 _ rfl;have m:=cell_of_block c 7 _ rfl;have aM:=Qa c 7;have aI:=cell_of_block f 8 _ rfl;have n:=cell_of_block c 8 _ rfl;have aN:=Qa c 8;clear l f c aO aP;go_wp2_with fail;refine bodyPost_ret (v:=.agg #[.int .i64 s.broker,.int .i64 s.nextId,.int .i64 s.nextSeq,.int .i64 s.tx,.slice xm s.ms.length xM,.slice xw s.waits.length xW,.slice xe s.ends.length xE,.slice xo s.opens.length xO,.slice xn s.noes.length xN]) (by simp[results,results23,go_sem,e0,F,ac,p,M,t,G,m,n]) rfl ?_;have c:=Xu wr z (.int .i64 s.broker) (.int .i64 s.nextId) (.int .i64 s.nextSeq) (.int .i64 s.tx) (.slice xm s.ms.length xM) (.slice xw s.waits.length xW) (.slice xe s.ends.length xE) (.slice xo s.opens.length xO) (.slice xn s.noes.length xN);obtain⟨C,f⟩:=b.done c;exact⟨xm,xM,xw,xW,xe,xE,xo,xO,xn,xN,rfl,C,f⟩
end Go.Proofs.YtkdpmdfcdgphlaaGreat
namespace Go.Po
open Go.Mem Go.Proofs.YtkdpmdfcdgphlaaGreat
def Zr:ByteArray:=⟨#[110,101,120,116]⟩
def Xd:ByteArray:=⟨#[115,116,97,116,101]⟩
theorem Y6{a b:Nat}(f:a<=999)(i:b<=999)(h:Qe a=Qe b):a=b:=by
 have c:=congrArg (λx:ByteArray=>x.data.toList[3]?) h;have d:=congrArg (λx:ByteArray=>x.data.toList[4]?) h;have e:=congrArg (λx:ByteArray=>x.data.toList[5]?) h;have g:∀x y:Nat,x<10->y<10->some (UInt8.ofNat (48+x))=some (UInt8.ofNat (48+y))->x=y:=λx y j j h=>by
  have:=congrArg UInt8.toNat (Option.some.inj h);rw[UInt8.toNat_ofNat',UInt8.toNat_ofNat']at this;omega
 have:=g _ _ (by omega) (by omega) c;have:=g _ _ (by omega) (by omega) d;have:=g _ _ (by omega) (by omega) e;omega
theorem Db(n:Nat):Xd≠Qe n:=λh=>absurd (congrArg ByteArray.size h) (by show ¬(5=6);omega)
theorem Bd(n:Nat):Zr≠Qe n:=λh=>absurd (congrArg ByteArray.size h) (by show ¬(4=6);omega)
theorem Qp0:Xd≠Zr:=λh=>absurd (congrArg ByteArray.size h) (by show ¬(5=4);omega)
theorem Qhm:Xd≠Xv:=λh=>absurd (congrArg ByteArray.size h) (by show ¬(5=3);omega)
theorem Qd8:Zr≠Xv:=λh=>absurd (congrArg ByteArray.size h) (by show ¬(4=3);omega)
section
variable {α : Type} {k j : ByteArray}
theorem Yn(y:ByteArray×α)(r:List (ByteArray×α)):Qg k (y::r)=if y.1=k then some y.2 else Qg k r:=by
 by_cases a:y.1=k<;>simp[Qg,List.find?_cons,a]
theorem Wo(h:k≠j):∀l:List (ByteArray×α),Qg k (Qx j l)=Qg k l
 | []=>rfl
 | y::r=>by
  have ih:=Wo h r;by_cases a:y.1=j
  ·have e:Qx j (y::r)=Qx j r:=by simp[Qx,a]
   rw[e,ih,Yn,if_neg (by rw[a];exactλe=>h e.symm)]
  ·have e:Qx j (y::r)=y::Qx j r:=by simp[Qx,a]
   rw[e,Yn,Yn,ih]
theorem Rm(h:k≠j)(x:α):∀l:List (ByteArray×α),Qg k (Yz j x l)=Qg k l
 | []=>by rw[Yz,Yn,if_neg λe=>h e.symm]
 | y::r=>by
  simp only[Yz];split
  ·rw[Yn,if_neg λe=>h e.symm]
  ·rw[Yn,Yn,Rm h x r]
theorem Fz(h:k≠j)(x:α)(l:List (ByteArray×α)):Qg k (Jh j x l)=Qg k l:=by rw[Jh,Rm h,Wo h]
theorem X3(h:k≠j)(g:α->α):∀l:List (ByteArray×α),Qg k (X6 j g l)=Qg k l
 | []=>rfl
 | y::r=>by
  have ih:=X3 h g r;have e:X6 j g (y::r)=(if y.1=j then (y.1,g y.2) else y)::X6 j g r:=rfl;rw[e,Yn,Yn,ih];by_cases a:y.1=j
  ·rw[if_pos a,if_neg (by rw[a];exactλe=>h e.symm),if_neg (by rw[a];exactλe=>h e.symm)]
  ·rw[if_neg a]
theorem Qe2(m:ByteArray)(c:j≠m)(x:α)(l:List (ByteArray×α)):Qg k (moved j m x l)=if k=m then some x else if k=j then none else Qg k l:=by
 unfold moved;by_cases a:k=m
 ·subst a
  rw[if_pos rfl,Wo (λe=>c e.symm),Tw]
 ·rw[if_neg a]
  by_cases b:k=j
  ·subst b;rw[if_pos rfl,Qld]
  ·rw[if_neg b,Wo b,Fz a]
theorem Mm{l m:List (ByteArray×α)}(c:(m.map λx=>x.1).Nodup)(a:l.Perm m)(k:ByteArray):Qg k l=Qg k m:=by
 have d:=(a.map λx=>x.1).nodup_iff.2 c;rcases h:Qg k m with _|x
 ·rcases b:Qg k l with _|y
  ·rfl
  ·exact absurd (List.mem_map.2 ⟨_,a.mem_iff.1 (Ju b),rfl⟩) (H9 h)
 ·exact Gf d (x:=(k,x)) (a.mem_iff.2 (Ju h))
end
theorem Qcm{n:Int}{v:Vw}(h:(v.map λx=>x.1).Nodup):((Jm n v).map λx=>x.1).Nodup:=by
 have:(Jm n v).map (λx=>x.1)=(v.filter λx=>lasts n x.2).map λx=>x.1:=by simp[Jm]
 rw[this];exact h.sublist (List.filter_sublist.map _)
theorem Pe(n:Int)(k:ByteArray):∀{v:Vw},(v.map λx=>x.1).Nodup->Qg k (Jm n v)=(Qg k v).bind λf=>if lasts n f=true then some (Vk n f) else none
 | [],_=>rfl
 | y::r,h=>by
  simp only[List.map_cons,List.nodup_cons]at h;have ih:=Pe n k (v:=r) h.2;rw[Yn];have c:y.1=k->Qg k r=none:=λe=>by
   rcases a:Qg k r with _|f
   ·rfl
   ·exact absurd (List.mem_map.2 ⟨_,Ju a,e.symm⟩) h.1
  by_cases b:lasts n y.2=true
  ·have e:Jm n (y::r)=(y.1,Vk n y.2)::Jm n r:=by simp[Jm,b]
   rw[e,Yn];by_cases a:y.1=k
   ·rw[if_pos a,if_pos a];simp[b]
   ·rw[if_neg a,if_neg a,ih]
  ·have e:Jm n (y::r)=Jm n r:=by simp[Jm,b]
   rw[e,ih];by_cases a:y.1=k
   ·rw[if_pos a,c a];simp[b]
   ·rw[if_neg a]
theorem Qd9(s:ByteArray)(bs:List UInt8)(v:Vw):Qg s (Xi s bs v)=some (((Qg s v).map (more bs)).getD ⟨bs,0,false⟩):=by
 unfold Xi;rcases h:Qg s v with _|f
 ·simp[Tw]
 ·simp[Nb,h]
theorem Y9{k s:ByteArray}(h:k≠s)(bs:List UInt8)(v:Vw):Qg k (Xi s bs v)=Qg k v:=by
 unfold Xi;split
 ·exact Fz h _ _
 ·exact X3 h _ _
theorem Qe3{α:Type}{k:ByteArray}{x:α}{l:List (ByteArray×α)}(h:(l.map λx=>x.1).Nodup):((Jh k x l).map λx=>x.1).Nodup:=by
 show((Yz k x (Qx k l)).map λx=>x.1).Nodup;rw[((Da k x (Qx k l)).map λx=>x.1).nodup_iff,List.map_cons,List.nodup_cons];exact⟨λa=>by obtain⟨y,b,e⟩:=List.mem_map.1 a;exact(Vz.1 b).2 e,h.sublist ((Bb k l).map _)⟩
theorem Qe4{α:Type}{k:ByteArray}{g:α->α}{l:List (ByteArray×α)}(h:(l.map λx=>x.1).Nodup):((X6 k g l).map λx=>x.1).Nodup:=by
 have e:(X6 k g l).map (λx=>x.1)=l.map λx=>x.1:=by
  rw[X6,List.map_map];exact List.map_congr_left λx _=>by simp only[Function.comp_apply];split<;>rfl
 rw[e];exact h
theorem Qke{α:Type}{k:ByteArray}{l:List (ByteArray×α)}(h:(l.map λx=>x.1).Nodup):((Qx k l).map λx=>x.1).Nodup:=h.sublist ((Bb k l).map _)
theorem Qrt{s:ByteArray}{bs:List UInt8}{v:Vw}(h:(v.map λx=>x.1).Nodup):((Xi s bs v).map λx=>x.1).Nodup:=by
 unfold Xi;split
 ·exact Qe3 h
 ·exact Qe4 h
def Z0(l:List (List UInt8)):List UInt8:=l.flatMap Z7
theorem Uc:Z0 []=[]:=rfl
theorem Yj(x:List UInt8)(l:List (List UInt8)):Z0 (x::l)=Z7 x++Z0 l:=by simp[Z0]
theorem Qe5(x:List UInt8)(l:List (List UInt8)):Z0 (l++[x])=Z0 l++Z7 x:=by simp[Z0]
theorem Jn(x:List UInt8):(Z7 x).length=6+x.length:=by rw[Z7,List.length_append,K5]
theorem Qe6{x:List UInt8}(h:Xj x=true)(a:List UInt8):leN ((Z7 x++a).take 2)=x.length:=by
 simp only[Xj,Bool.and_eq_true,decide_eq_true_eq]at h;have e:(Z7 x++a).take 2=Qd x.length:=by
  rw[Z7,sizedB,List.append_assoc,List.append_assoc,List.append_assoc,List.take_append_of_le_length (by rw[We];omega),List.take_of_length_le (by rw[We];omega)]
 rw[e,Qd,Qkm];omega
theorem Td{x:List UInt8}(h:Xj x=true)(a:List UInt8):Yr (Z7 x++a)=.ok x (6+x.length):=by
 have d:=Qe6 h a;simp only[Xj,Bool.and_eq_true,decide_eq_true_eq]at h;have f:(Z7 x++a).length=6+x.length+a.length:=by rw[List.length_append,Jn]
 have c:(Z7 x++a).take 6=sizedB x:=by
  rw[Z7,List.append_assoc,List.take_append_of_le_length (by rw[K5];omega),List.take_of_length_le (by rw[K5];omega)]
 have b:(Z7 x++a).drop 6=x++a:=by
  rw[Z7,List.append_assoc,List.drop_append_of_le_length (by rw[K5];omega),List.drop_of_length_le (by rw[K5];omega)];rfl
 have e:(x++a).take x.length=x:=by simp
 rw[Yr,if_neg (by omega),d,if_neg (by omega),if_neg (by omega),c,b,e,if_pos rfl]
theorem Qp1{x:List UInt8}(h:Xj x=true)(a:List UInt8){k:Nat}(e:k<6+x.length):Yr ((Z7 x++a).take k)=.more:=by
 have c:=Qe6 h a;simp only[Xj,Bool.and_eq_true,decide_eq_true_eq]at h;have d:((Z7 x++a).take k).length=k:=by rw[List.length_take,List.length_append,Jn];omega
 rw[Yr,d];by_cases b:k<2
 ·rw[if_pos b]
 ·rw[if_neg b,List.take_take,Nat.min_eq_left (by omega),c,if_neg (by omega),if_pos (by omega)]
theorem Gg:∀(l:List (List UInt8)),(∀x∈l,Xj x=true)->∀k,∃m b,m<=l.length/\Zo ((Z0 l).take k)=(l.take m,(Z0 (l.take m)).length,b,0)/\(b=false->(Z0 l).take k=Z0 (l.take m))/\((Z0 l).take k).take (Z0 (l.take m)).length=Z0 (l.take m)/\∀j,j<=l.length->(Z0 (l.take j)).length<=k->j<=m
 | [],_,k=>⟨0,false,Nat.le_refl _,by simp[Uc,Uv],λ_=>by simp[Uc],by simp[Uc],λj a _=>a⟩
 | x::l,h,k=>by
  have d:=h x (by simp);by_cases q:k<6+x.length
  ·by_cases c:k=0
   ·subst c
    exact⟨0,false,Nat.zero_le _,by simp[Uc,Uv],λ_=>by simp[Uc],by simp[Uc],λj _ a=>by
     rcases j with _|j
     ·exact Nat.le_refl _
     ·rw[List.take_succ_cons,Yj,List.length_append,Jn]at a;omega⟩
   ·refine⟨0,true,Nat.zero_le _,?_,(λh=>by cases h),by simp[Uc],λj _ a=>?_⟩
    ·rw[Yj,Qbj (by rw[List.length_take,List.length_append,Jn];omega) (Qp1 d _ q)];rfl
    ·rcases j with _|j
     ·exact Nat.le_refl _
     ·rw[List.take_succ_cons,Yj,List.length_append,Jn]at a;omega
  ·obtain⟨m,b,r,f,g,i,n⟩:=Gg l (λy c=>h y (by simp[c])) (k-(6+x.length))
   have c:(Z0 (x::l)).take k=Z7 x++(Z0 l).take (k-(6+x.length)):=by
    rw[Yj,List.take_append,Jn,List.take_of_length_le (by rw[Jn];omega)]
   have o:=Td d ((Z0 l).take (k-(6+x.length)));have e:(Z7 x++(Z0 l).take (k-(6+x.length))).drop (6+x.length)=(Z0 l).take (k-(6+x.length)):=by
    rw[<-Jn,List.drop_left]
   refine⟨m+1,b,by rw[List.length_cons];omega,?_,λh=>?_,?_,λj a p=>?_⟩
   ·rw[c,Sz o,e,f,List.take_succ_cons,Yj,List.length_append,Jn]
   ·rw[c,g h,List.take_succ_cons,Yj]
   ·rw[c,List.take_succ_cons,Yj,List.length_append,List.take_append,Jn,List.take_of_length_le (by rw[Jn];omega),show 6+x.length+(Z0 (List.take m l)).length-(6+x.length)=(Z0 (List.take m l)).length by omega,i]
   ·rcases j with _|j
    ·omega
    ·have:=n j (by rw[List.length_cons]at a;omega) (by rw[List.take_succ_cons,Yj,List.length_append,Jn]at p;omega)
     omega
theorem Qbl{l:List (List UInt8)}(h:∀x∈l,Xj x=true):Zo (Z0 l)=(l,(Z0 l).length,false,0):=by
 obtain⟨m,f,i,a,j,k,b⟩:=Gg l h (Z0 l).length;have d:=b l.length (Nat.le_refl _) (by rw[List.take_of_length_le (Nat.le_refl _)];exact Nat.le_refl _);rw[List.take_of_length_le (Nat.le_refl _),List.take_of_length_le d]at a;have g:=Gg l h (Z0 l).length;rcases f with _|_
 ·exact a
 ·exfalso
  have:∀l:List (List UInt8),(∀x∈l,Xj x=true)->(Zo (Z0 l)).2.2.1=false:=by
   intro l;induction l with
   | nil=>intro _;rfl
   | cons x r ih=>
    intro h;have c:=Td (h x (by simp)) (Z0 r);rw[Yj,Sz c,<-Jn,List.drop_left];exact ih λy e=>h y (by simp[e])
  have:=this l h;rw[a]at this;cases this
structure Be(v:Vw)(b:Int)(s0:St)(frm last:Nat)(old:List (List (List UInt8)))(cur:List (List UInt8))(sure:Nat):Prop where
 nm:(v.map λx=>x.1).Nodup
 pos:frm+old.length=last
 st:(Qg Xd v=none/\frm=0/\s0=Z8 b)\/∃f,Qg Xd v=some f/\f.b=laidB s0 frm/\f.sure=f.b.length/\f.named=true/\s0.broker=b
 n1:Qg Xv v=none
 n2:Qg Zr v=none
 hi:∀j,last<j->j<=999->Qg (Qe j) v=none
 olds:∀(i:Nat) (l:List (List UInt8)),old[i]?=some l->∃f,Qg (Qe (frm+i)) v=some f/\f.b=Z0 l/\f.sure=f.b.length/\l≠[]
 new:(Qg (Qe last) v=none/\cur=[])\/∃f,Qg (Qe last) v=some f/\f.b=Z0 cur/\f.sure=(Z0 (cur.take sure)).length
 su:sure<=cur.length
 okO:∀l∈old,∀x∈l,Xj x=true
 okC:∀x∈cur,Xj x=true
theorem Qun(b:Int):Be [] b (Z8 b) 0 0 [] [] 0:=
 ⟨List.nodup_nil,rfl,.inl ⟨rfl,rfl,rfl⟩,rfl,rfl,λ_ _ _=>rfl,λi l h=>by simp at h,.inl ⟨rfl,rfl⟩,Nat.le_refl _,λl h=>by simp at h,λl h=>by simp at h⟩
theorem Qkf{l:List (List UInt8)}(h:l≠[]):0<(Z0 l).length:=by
 rcases l with _|⟨x,l⟩
 ·exact absurd rfl h
 ·rw[Yj,List.length_append,Jn];omega
section
variable {v : Vw} {b : Int} {s0 : St} {frm last sure : Nat} {old : List (List (List UInt8))} {cur : List (List UInt8)}
theorem Be.read(h:Be v b s0 frm last old cur sure):Xx (Qe last) v=Z0 cur:=by
 unfold Xx;rcases h.new with⟨a,c⟩|⟨f,a,c,_⟩
 ·rw[a,c];rfl
 ·rw[a,<-c];rfl
theorem Qbm(h:Be v b s0 frm last old cur sure)(g:last<=999):Be (Zg (Qe last) v) b s0 frm last old cur cur.length:=by
 refine⟨Qe4 h.nm,h.pos,?_,?_,?_,λj c a=>?_,λi l d=>?_,?_,Nat.le_refl _,h.okO,h.okC⟩
 ·rw[Zg,X3 (Db _)];exact h.st
 ·rw[Zg,X3 (Uw _)];exact h.n1
 ·rw[Zg,X3 (Bd _)];exact h.n2
 ·rw[Zg,X3 (λe=>by have:=Y6 a g e;omega)];exact h.hi j c a
 ·have:=h.pos
  have k:=(List.getElem?_eq_some_iff.1 d).1;rw[Zg,X3 (λe=>by have:=Y6 (by omega) g e;omega)];exact h.olds i l d
 ·rw[Zg,Nb]
  rcases h.new with⟨c,a⟩|⟨f,c,a,d⟩
  ·exact .inl ⟨by rw[c];rfl,a⟩
  ·exact .inr ⟨synced f,by rw[c];rfl,a,by rw[List.take_of_length_le (Nat.le_refl _),<-a];rfl⟩
theorem Pf(h:Be v b s0 frm last old cur sure)(k:last<=999){bs:List UInt8}(m:Xj bs=true):Be (Xi (Qe last) (Z7 bs) v) b s0 frm last old (cur++[bs]) sure:=by
 refine⟨Qrt h.nm,h.pos,?_,?_,?_,λj a c=>?_,λi l g=>?_,?_,by have:=h.su;rw[List.length_append];omega,h.okO,λx d=>?_⟩
 ·rw[Y9 (Db _)];exact h.st
 ·rw[Y9 (Uw _)];exact h.n1
 ·rw[Y9 (Bd _)];exact h.n2
 ·rw[Y9 (λe=>by have:=Y6 c k e;omega)];exact h.hi j a c
 ·have:=h.pos
  have n:=(List.getElem?_eq_some_iff.1 g).1;rw[Y9 (λe=>by have:=Y6 (by omega) k e;omega)];exact h.olds i l g
 ·rw[Qd9]
  have n:=h.su;refine .inr ⟨_,rfl,?_,?_⟩
  ·rcases h.new with⟨a,c⟩|⟨f,a,c,g⟩
   ·rw[a,c,Qe5];rfl
   ·rw[a,Qe5,<-c];rfl
  ·rw[List.take_append_of_le_length n]
   rcases h.new with⟨a,c⟩|⟨f,a,c,g⟩
   ·rw[a,c,List.take_nil];rfl
   ·rw[a,<-g];rfl
 ·rcases List.mem_append.1 d with d|d
  ·exact h.okC x d
  ·rw[List.mem_singleton]at d;rw[d];exact m
theorem Qru(h:Be v b s0 frm last old cur cur.length)(o:last+1<=999)(k:cur≠[]):Be v b s0 frm (last+1) (old++[cur]) [] 0:=by
 refine⟨h.nm,by have:=h.pos;rw[List.length_append];simp;omega,h.st,h.n1,h.n2,λj d g=>h.hi j (by omega) g,λi l a=>?_,.inl ⟨h.hi _ (by omega) o,rfl⟩,Nat.le_refl _,λl c=>?_,λx m=>by simp at m⟩
 ·rcases Nat.lt_or_ge i old.length with d|d
  ·rw[List.getElem?_append_left d]at a
   exact h.olds i l a
  ·rw[List.getElem?_append_right d]at a
   have m:i-old.length=0:=by
    rcases n:i-old.length with _|j
    ·rfl
    ·rw[n]at a;simp at a
   rw[m]at a;have e:cur=l:=by simpa using a
   subst e;have p:=h.pos;rw[show frm+i=last by omega];rcases h.new with⟨g,a⟩|⟨f,g,a,n⟩
   ·exact absurd a k
   ·exact⟨f,g,a,by rw[n,List.take_of_length_le (Nat.le_refl _),a],k⟩
 ·rcases List.mem_append.1 c with c|c
  ·exact h.okO l c
  ·rw[List.mem_singleton]at c;rw[c];exact h.okC
theorem Quo(h:Be v b s0 frm last old cur sure)(g:last<999){bs:List UInt8}(d:Xj bs=true):∃a c f,Be (Hu v last bs) b s0 frm (addN v last) a c f/\a.flatten++c=(old.flatten++cur)++[bs]/\(old.flatten).length+sure<=(a.flatten).length+f:=by
 unfold Hu addN;by_cases a:Cn v last=true
 ·rw[if_pos a,if_pos a]
  have c:cur≠[]:=λe=>by
   rw[Cn,h.read,e]at a;simp[Uc]at a
  refine⟨_,_,_,Pf (Qru (Qbm h (by omega)) (by omega) c) (by omega) d,by simp,?_⟩;have:=h.su;simp;omega
 ·rw[if_neg a,if_neg a]
  exact⟨_,_,_,Pf h (by omega) d,by simp,Nat.le_refl _⟩
end
structure Te(v:Vw)(b:Int)(s0:St)(frm last:Nat)(all:List (List UInt8)):Prop where
 nm:(v.map λx=>x.1).Nodup
 st:(Qg Xd v=none/\frm=0/\s0=Z8 b)\/∃f,Qg Xd v=some f/\f.b=laidB s0 frm/\s0.broker=b
 n1:Qg Xv v=none
 n2:Qg Zr v=none
 tops:Qbv v frm last
 good:∀j,frm<=j->j<last->(Zo (Xx (Qe j) v)).2.2=(false,0)
 err:(Zo (Xx (Qe last) v)).2.2.2=0
 segs:Vv v frm (last+1-frm)=all
 hold:∃old cur,Be (Je v last) b s0 frm last old cur cur.length/\old.flatten++cur=all
 use:used (Je v last)<=used v
 len:(Je v last).length<=v.length+1
theorem Qe7{v:Vw}{frm:Nat}{old:List (List (List UInt8))}(b:∀(i:Nat) (l:List (List UInt8)),old[i]?=some l->∃f,Qg (Qe (frm+i)) v=some f/\f.b=Z0 l/\f.sure=f.b.length/\l≠[])(c:∀l∈old,∀x∈l,Xj x=true):∀n,n<=old.length->Vv v frm n=(old.take n).flatten
 | 0,_=>by simp[Vv]
 | n+1,h=>by
  have a:old[n]?=some old[n]:=by simp
  obtain⟨f,d,e,_⟩:=b n _ a;rw[Vv,Qe7 b c n (by omega),Xx,d,Option.map_some,Option.getD_some,e,Qbl (c _ (List.mem_of_getElem? a)),<-List.take_append_getElem (show n<old.length by omega),List.flatten_append,List.flatten_cons,List.flatten_nil,List.append_nil]
theorem Qxo{α:Type}(k:ByteArray)(g:α->α)(l:List (ByteArray×α)):Qx k (X6 k g l)=Qx k l:=by
 induction l with
 | nil=>rfl
 | cons y r ih=>
  have e:X6 k g (y::r)=(if y.1=k then (y.1,g y.2) else y)::X6 k g r:=rfl;have d:∀(z:ByteArray×α) (m:List (ByteArray×α)),Qx k (z::m)=if z.1=k then Qx k m else z::Qx k m:=λz m=>by
   by_cases a:z.1=k<;>simp[Qx,a]
  rw[e,d,d,ih];by_cases a:y.1=k
  ·rw[if_pos a,if_pos a,if_pos a]
  ·rw[if_neg a,if_neg a]
theorem Qxp{α:Type}(k:ByteArray)(x:α)(l:List (ByteArray×α)):(Qx k (Jh k x l)).Perm (Qx k l):=by
 have a:(Qx k (Jh k x l)).Perm (Qx k ((k,x)::Qx k l)):=(Da k x (Qx k l)).filter _;have b:Qx k ((k,x)::Qx k l)=Qx k l:=by
  simp[Qx]
 rw[b]at a;exact a
theorem Qkg{v:Vw}(h:(v.map λx=>x.1).Nodup){k:ByteArray}{f:File}(a:Qg k v=some f):used v=f.b.length+used (Qx k v):=by
 rw[Ub (G7 h a)];simp[used]
theorem Qrv{v:Vw}(d:(v.map λx=>x.1).Nodup){n:Nat}{f:File}(c:Qg (Qe n) v=some f)(b:Qg Xv v=none){bs:List UInt8}(e:bs.length<=f.b.length):used (Le n bs v)<=used v/\(Le n bs v).length<=v.length+1:=by
 have a:(Le n bs v).Perm ((Qe n,⟨bs,bs.length,true⟩)::Qx (Qe n) (Qx Xv v)):=by
  refine(Sw (Uw n)).trans (List.Perm.cons _ ?_);rw[Zg,Qxo];exact(Qxp Xv _ v).filter _
 rw[Ym b]at a;refine⟨?_,?_⟩
 ·rw[Ub a,Qkg d c];simp[used];omega
 ·rw[a.length_eq,List.length_cons]
  have:=(Bb (Qe n) v).length_le;omega
theorem Dc(n:Nat)(bs:List UInt8)(v:Vw)(k:ByteArray):Qg k (Le n bs v)=if k=Qe n then some ⟨bs,bs.length,true⟩ else if k=Xv then none else Qg k v:=by
 rw[Le,Qe2 _ (Uw n)];split
 ·rfl
 ·split
  ·rfl
  ·next h1 h2=>rw[Zg,X3 h2,Fz h2]
theorem opens{v:Vw}{b:Int}{s0:St}{frm last k:Nat}{old:List (List (List UInt8))}{c:List (List UInt8)}(nm:(v.map λx=>x.1).Nodup)(p:frm+old.length=last)(z:last<=999)
 (y:(Qg Xd v=none/\frm=0/\s0=Z8 b)\/∃f,Qg Xd v=some f/\f.b=laidB s0 frm/\f.sure=f.b.length/\f.named=true/\s0.broker=b)
 (n:Qg Xv v=none) (o:Qg Zr v=none) (w:∀j,last<j->j<=999->Qg (Qe j) v=none)
 (s:∀(i:Nat) (l:List (List UInt8)),old[i]?=some l->∃f,Qg (Qe (frm+i)) v=some f/\f.b=Z0 l/\f.sure=f.b.length/\l≠[])
 (g:old=[]\/(Qg (Qe last) v).isSome=true)
 (K:(Qg (Qe last) v=none/\c=[])\/∃f,Qg (Qe last) v=some f/\f.b=(Z0 c).take k/\f.sure=f.b.length)
 (r:∀l∈old,∀x∈l,Xj x=true) (E:∀x∈c,Xj x=true):
 ∃m,m<=c.length/\(∀j,j<=c.length->(Z0 (c.take j)).length<=k->j<=m)/\Te v b s0 frm last (old.flatten++c.take m):=by
 have B:(Qg Xd v=none/\frm=0/\s0=Z8 b)\/∃f,Qg Xd v=some f/\f.b=laidB s0 frm/\s0.broker=b:=y.imp id fun⟨f,d,h,_,_,a⟩=>⟨f,d,h,a⟩
 have C:Qbv v frm last:=⟨by omega,z,w,λa=>by
  rcases g with a|a
  ·rw[a]at p;simp at p;omega
  ·exact a⟩
 have good:∀j,frm<=j->j<last->(Zo (Xx (Qe j) v)).2.2=(false,0):=λj d h=>by
  have t:old[j-frm]?=some old[j-frm]:=by simp
  obtain⟨f,a,g,_⟩:=s _ _ t;rw[show frm+(j-frm)=j by omega]at a;rw[Xx,a,Option.map_some,Option.getD_some,g,Qbl (r _ (List.mem_of_getElem? t))]
 have q:Vv v frm (last+1-frm)=old.flatten++(Zo (Xx (Qe last) v)).1:=by
  rw[show last+1-frm=old.length+1 by omega,Vv,Qe7 s r _ (Nat.le_refl _),List.take_of_length_le (Nat.le_refl _),p]
 have F:∀m,∀x∈c.take m,Xj x=true:=λm x A=>E x (List.mem_of_mem_take A)
 rcases K with⟨d,rfl⟩|⟨f,d,h,I⟩
 ·have g:Xx (Qe last) v=[]:=by rw[Xx,d];rfl
  rw[g,Uv]at q;have a:Je v last=v:=by rw[Je,g,Uv];rfl
  refine⟨0,Nat.le_refl _,λj t _=>t,nm,B,n,o,C,good,by rw[g,Uv],q,⟨old,[],?_,by simp⟩,by rw[a];exact Nat.le_refl _,by rw[a];omega⟩;rw[a];exact⟨nm,p,y,n,o,w,s,.inl ⟨d,rfl⟩,Nat.le_refl _,r,λx A=>by simp at A⟩
 ·obtain⟨m,O,M,t,G,H,N⟩:=Gg c E k
  have g:Xx (Qe last) v=(Z0 c).take k:=by rw[Xx,d,<-h];rfl
  rw[g,t]at q;refine⟨m,M,N,?_⟩;rcases O with _|_
  ·have a:Je v last=v:=by rw[Je,g,t];rfl
   refine⟨nm,B,n,o,C,good,by rw[g,t],q,⟨old,c.take m,?_,rfl⟩,by rw[a];exact Nat.le_refl _,by rw[a];omega⟩;rw[a];exact⟨nm,p,y,n,o,w,s,.inr ⟨f,d,by rw[h,G rfl],by rw[I,h,G rfl,List.take_of_length_le (Nat.le_refl _)]⟩,Nat.le_refl _,r,F m⟩
  ·have a:Je v last=Le last (Z0 (c.take m)) v:=by
    have e:Je v last=Le last (((Z0 c).take k).take (Z0 (c.take m)).length) v:=by rw[Je,g,t];rfl
    rw[e,H]
   have J:(Z0 (c.take m)).length<=f.b.length:=by
    have:=congrArg List.length H;rw[List.length_take]at this;rw[h];omega
   obtain⟨P,Q⟩:=Qrv nm d n J;refine⟨nm,B,n,o,C,good,by rw[g,t],q,⟨old,c.take m,?_,rfl⟩,by rw[a];exact P,by rw[a];exact Q⟩;rw[a];refine⟨?_,p,?_,?_,?_,λj L D=>?_,λi l A=>?_,.inr ⟨_,by rw[Dc,if_pos rfl],rfl,by rw[List.take_of_length_le (Nat.le_refl _)]⟩,Nat.le_refl _,r,F m⟩
   ·exact Qke (Qe3 (Qe4 (Qe3 nm)))
   ·rw[Dc,if_neg (Db _),if_neg Qhm];exact y
   ·rw[Dc,if_neg (Uw _),if_pos rfl]
   ·rw[Dc,if_neg (Bd _),if_neg Qd8];exact o
   ·rw[Dc,if_neg (λe=>by have:=Y6 D z e;omega),if_neg (λe=>Uw _ e.symm)];exact w j L D
   ·have D:i<old.length:=(List.getElem?_eq_some_iff.1 A).1
    rw[Dc,if_neg (λe=>by have:=Y6 (by omega) z e;omega),if_neg (λe=>Uw _ e.symm)];exact s i l A
theorem Qhn(b:Int):Te [] b (Z8 b) 0 0 []:=by
 obtain⟨m,d,e,a⟩:=opens (v:=[]) (b:=b) (s0:=Z8 b) (frm:=0) (last:=0) (k:=0) (old:=[]) (c:=[]) List.nodup_nil rfl (by omega) (.inl ⟨rfl,rfl,rfl⟩) rfl rfl (λ_ _ _=>rfl) (λi l h=>by simp at h) (.inl rfl) (.inl ⟨rfl,rfl⟩) (λl h=>by simp at h) (λl h=>by simp at h);simpa using a
theorem Tf{n:Int}{f:File}(h:f.sure=f.b.length)(a:0<f.b.length\/f.named=true):lasts n f=true/\Vk n f=⟨f.b,f.b.length,true⟩:=by
 have b:stays n f=f.b.length:=by
  unfold stays;split
  ·rw[h,Nat.sub_self];omega
  ·exact h
 refine⟨?_,by rw[Vk,b,List.take_of_length_le (Nat.le_refl _)]⟩;rw[lasts,b];rcases a with a|a
 ·simp[a]
 ·simp[a]
theorem Qii(l:List (List UInt8))(j:Nat):(Z0 (l.take j)).length<=(Z0 l).length:=by
 have h:Z0 l=Z0 (l.take j)++Z0 (l.drop j):=by rw[Z0,Z0,Z0,<-List.flatMap_append,List.take_append_drop]
 rw[h,List.length_append];omega
theorem Qkh(n:Int)(f:File):f.sure<=stays n f:=by unfold stays;split<;>omega
theorem Qho{v g:Vw}{b:Int}{s0:St}{frm last sure:Nat}{old:List (List (List UInt8))}{cur:List (List UInt8)}(h:Be v b s0 frm last old cur sure)(B:last<=999)(n:Int)(N:g.Perm (Jm n v)):
 ∃a M,a<=last/\old.flatten.length+sure<=M/\M<=(old.flatten++cur).length/\Te g b s0 frm a ((old.flatten++cur).take M):=by
 have p:∀k,Qg k g=(Qg k v).bind λf=>if lasts n f=true then some (Vk n f) else none:=λk=>by
  rw[Mm (Qcm h.nm) N,Pe n k h.nm]
 have nm:=(N.map λx=>x.1).nodup_iff.2 (Qcm h.nm);have J:(Qg Xd g=none/\frm=0/\s0=Z8 b)\/∃f,Qg Xd g=some f/\f.b=laidB s0 frm/\f.sure=f.b.length/\f.named=true/\s0.broker=b:=by
  rcases h.st with⟨d,a,o⟩|⟨f,d,a,o,r,t⟩
  ·exact .inl ⟨by rw[p,d];rfl,a,o⟩
  ·obtain⟨l1,s⟩:=Tf (n:=n) o (.inr r)
   exact .inr ⟨⟨f.b,f.b.length,true⟩,by rw[p,d,Option.bind_some,if_pos l1,s],a,rfl,rfl,t⟩
 have H:Qg Xv g=none:=by rw[p,h.n1];rfl
 have I:Qg Zr g=none:=by rw[p,h.n2];rfl
 have E:∀j,last<j->j<=999->Qg (Qe j) g=none:=λj d a=>by rw[p,h.hi j d a];rfl
 have D:∀(i:Nat) (l:List (List UInt8)),old[i]?=some l->∃f,Qg (Qe (frm+i)) g=some f/\f.b=Z0 l/\f.sure=f.b.length/\l≠[]:=λi l B=>by
  obtain⟨f,d,a,o,r⟩:=h.olds i l B;obtain⟨l1,s⟩:=Tf (n:=n) o (.inl (by rw[a];exact Qkf r));exact⟨⟨f.b,f.b.length,true⟩,by rw[p,d,Option.bind_some,if_pos l1,s],a,rfl,r⟩
 have M:=h.pos;have F:=h.su;by_cases r:(Qg (Qe last) g).isSome=true
 ·obtain⟨A,w⟩:=Option.isSome_iff_exists.1 r
  rcases h.new with⟨d,a⟩|⟨f,d,a,o⟩
  ·rw[p,d]at w;cases w
  ·have t:=p (Qe last)
   rw[d,Option.bind_some]at t;by_cases z:lasts n f=true
   ·rw[if_pos z]at t
    have y:stays n f<=f.b.length:=Mj (by
     rw[o,a];have:=Qii cur sure;exact this)
    obtain⟨m,G,C,s⟩:=opens (k:=stays n f) nm M B J H I E D (.inr r) (.inr ⟨_,t,by rw[Vk,a],by simp only[Vk];rw[List.length_take,Nat.min_eq_left y]⟩) h.okO h.okC;have L:=C sure F (by rw[<-o];exact Qkh n f);refine⟨last,old.flatten.length+m,Nat.le_refl _,by omega,by rw[List.length_append];omega,?_⟩;rw[List.take_append,List.take_of_length_le (by omega),show old.flatten.length+m-old.flatten.length=m by omega];exact s
   ·rw[if_neg z]at t;rw[t]at r;cases r
 ·have A:Qg (Qe last) g=none:=by rcases w:Qg (Qe last) g with _|q;rfl;rw[w]at r;exact absurd rfl r
  have R:sure=0:=by
   rcases h.new with⟨d,a⟩|⟨f,d,a,o⟩
   ·rw[a]at F;simpa using F
   ·rw[p,d,Option.bind_some]at A
    by_cases z:lasts n f=true
    ·rw[if_pos z]at A;cases A
    ·rcases Nat.eq_zero_or_pos sure with y|y
     ·exact y
     ·exfalso
      have t:cur.take sure≠[]:=λe=>by
       have:=congrArg List.length e;rw[List.length_take,List.length_nil]at this;omega
      have:=Qkf t;have:=Qkh n f;simp only[lasts,Bool.or_eq_true,decide_eq_true_eq]at z;omega
  rcases List.eq_nil_or_concat old with z|⟨o1,l,z⟩
  ·obtain⟨m,G,C,s⟩:=opens (k:=0) (c:=[]) nm M B J H I E D (.inl z) (.inl ⟨A,rfl⟩) h.okO (λx r=>by simp at r)
   refine⟨last,0,Nat.le_refl _,by rw[z,R];simp,by omega,?_⟩;have:m=0:=by simpa using G
   rw[this,z]at s;simpa using s
  ·have t:old=o1++[l]:=by rw[z];simp
   have Q:old[o1.length]?=some l:=by rw[t];simp
   obtain⟨f,K,O,P,S⟩:=D _ _ Q;have T:old.length=o1.length+1:=by rw[t];simp
   obtain⟨m,G,C,s⟩:=opens (v:=g) (last:=last-1) (k:=(Z0 l).length) (old:=o1) (c:=l) nm (by omega) (by omega) J H I (λj d a=>by
    rcases Nat.lt_or_ge last j with y|y
    ·exact E j y a
    ·rw[show j=last by omega];exact A) (λi q w=>D i q (by rw[t,List.getElem?_append_left (List.getElem?_eq_some_iff.1 w).1];exact w)) (.inr (by rw[show last-1=frm+o1.length by omega,K];rfl)) (.inr ⟨f,by rw[show last-1=frm+o1.length by omega];exact K,by rw[O,List.take_of_length_le (Nat.le_refl _)],P⟩) (λq w=>h.okO q (by rw[t];simp[w])) (h.okO l (by rw[t];simp))
   have L:=C l.length (Nat.le_refl _) (by rw[List.take_of_length_le (Nat.le_refl _)];exact Nat.le_refl _);rw[List.take_of_length_le L]at s;refine⟨last-1,old.flatten.length,by omega,by omega,by rw[List.length_append];omega,?_⟩;rw[List.take_left];have e:old.flatten=o1.flatten++l:=by rw[t];simp
   rw[e];exact s
end Go.Po

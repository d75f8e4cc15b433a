/- Part of this claim's proof. Conditions: as its theorems say. -/
import Derived.Test.YtkdpmdfcdgphlaaGreatM3
set_option linter.all false
set_option maxHeartbeats 3000000
set_option maxRecDepth 100000
namespace Go.Proofs.YtkdpmdfcdgphlaaGreat
open Tryz
open Go.RowKit Go.Mem Go.Po
theorem Qrg(n:Nat)(a:n<65536)(b:List UInt8):rdV 2 (Qd n++b) false=n:=by
 rw[Qd,Qea];exact Nat.mod_eq_of_lt (by simpa using a)
theorem Qjv(n:Nat)(a:List UInt8):Km 2 (Qd n++a) false=a:=Pz _ _ _
theorem Qm1(n:Nat)(a:List UInt8):K3 2 (Qd n++a) false=false:=Tj _ _ _
theorem Qm2(n:Int)(b:i64 n)(a:List UInt8):Qbo (Zc n++a) false=n:=by
 obtain⟨c,d⟩:=b;have e:rdV 8 (Zc n++a) false=(n % 18446744073709551616).toNat:=by
  rw[Zc,Qea];exact Nat.mod_eq_of_lt (by have:=Int.emod_lt_of_pos n (show(0:Int)<18446744073709551616 by decide);omega)
 rw[Qbo,e];unfold wrap64;omega
theorem Qm3(n:Int)(a:List UInt8):Km 8 (Zc n++a) false=a:=Pz _ _ _
theorem Qpq(n:Int)(a:List UInt8):K3 8 (Zc n++a) false=false:=Tj _ _ _
theorem Dx(n:Nat)(c:n<65536)(a:List UInt8)(A:Nat->Prop)(w:World)(b:Nat)(h:Zj A w b (Qd n++a) false):
 Calls prog 170 #[.pointer (some ⟨b,0,none⟩)] w λe w'=>e=.returned (.int .i64 n)/\Zj A w' b a false/\Kept (λk=>k=b) w w':=by
 have:=Yk A w b _ false h;rw[Qrg n c,Qjv,Qm1]at this;exact this
theorem Jt(n:Int)(c:i64 n)(a:List UInt8)(A:Nat->Prop)(w:World)(b:Nat)(h:Zj A w b (Zc n++a) false):
 Calls prog 169 #[.pointer (some ⟨b,0,none⟩)] w λe w'=>e=.returned (.int .i64 n)/\Zj A w' b a false/\Kept (λk=>k=b) w w':=by
 have:=Tn A w b _ false h;rw[Qm2 n c,Qm3,Qpq]at this;exact this
theorem Qpr(x:Bool)(a:List UInt8)(A:Nat->Prop)(w:World)(b:Nat)(h:Zj A w b ((if x then (1:UInt8) else 0)::a) false):
 Calls prog 178 #[.pointer (some ⟨b,0,none⟩)] w λe w'=>e=.returned (.bool x)/\Zj A w' b a false/\Kept (λk=>k=b) w w':=by
 have e:rdV 1 ((if x then (1:UInt8) else 0)::a) false=if x then 1 else 0:=by cases x<;>simp[rdV,leN]
 have:=Qc7 A w b _ false h (by rw[e];cases x<;>simp);rw[e]at this;have c:(((if x then 1 else 0:Nat):Int)==1)=x:=by cases x<;>rfl
 have d:Km 1 ((if x then (1:UInt8) else 0)::a) false=a:=by simp[Km]
 have f:K3 1 ((if x then (1:UInt8) else 0)::a) false=false:=by simp[K3]
 rw[c,d,f]at this;exact this
theorem Qrh{P:Program}{a c:TypeId}(w:World)(e:P.underlying a=some (.slice c))(vs:List Value)(m size:Nat)(f:vs.length=m*size)(d:∀b∈vs,b.oneCell'=true)(t:TypeId):
 Src P size a (.slice (some ⟨w.heap.size,0,none⟩) m m) m vs (w.alloc (.cells vs.toArray t)):=
 Src.ofSlice _ e _ m m vs f (λj b b=>by
  have:(⟨w.heap.size,0,none⟩:Addr).add j=⟨w.heap.size,j,none⟩:=by unfold Addr.add;split<;>simp_all
  rw[this,World.cell?_alloc_new];simpa using b) d
theorem Kept.set6(w:World)(g:Nat)(a b c d e f:Value):Kept (λk=>k=g) w ((((((w.setCell ⟨g,0,none⟩ a).setCell ⟨g,1,none⟩ b).setCell ⟨g,2,none⟩ c).setCell ⟨g,3,none⟩ d).setCell ⟨g,4,none⟩ e).setCell ⟨g,5,none⟩ f):=
 ((((((Kept.refl (λk=>k=g) w).setCell (p:=⟨g,0,none⟩) rfl _).setCell (p:=⟨g,1,none⟩) rfl _).setCell (p:=⟨g,2,none⟩) rfl _).setCell (p:=⟨g,3,none⟩) rfl _).setCell (p:=⟨g,4,none⟩) rfl _).setCell (p:=⟨g,5,none⟩) rfl _
theorem Qjw{α:Type}{rp:Rp α}{d:Nat->Prop}{w m wr w8 a c:World}{r:Obj}{G T:TypeId}{o f:Option Addr}{pc g n off b R:Nat}{l:List α}{x:α}{xs vs:List Value}{C:Array Value}{Z:Obj}{z:List UInt8}
 (q:∀k,w.heap.size<=k->d k) (I:Bel w wr) (L:Ch (rp.R (λk=>d k\/Qc o pc k) wr) rp.size l xs) (E:∀(A:Nat->Prop) (w:World),rp.R A w x vs) (P:Sl a G rp.size f n g (xs++vs)) (N:n=(l++[x]).length)
 (j:∀k,Qc o pc k->m.heap.size<=k) (F:Kept (λk=>k=b) wr w8) (v:Kept (Qc o pc) (w8.alloc r) a) (s:∀k,Qc f g k->Qc o pc k\/k=(w8.alloc r).heap.size)
  (S:a.heap[R]?=some (.cells C T (0,0))) (J:Zj (λk=>d k\/k=b) w8 b z false) (K:wr.heap[w.heap.size]?=some Z) (H:w.heap.size<b) (t:b<R) (i:R<m.heap.size) (h:m.heap.size<=wr.heap.size)
  (D:c=a.setCell ⟨R,off,none⟩ (.slice f n g)):
  Own rp d m c G f g (l++[x])/\c.heap[R]?=some (.cells (C.setIfInBounds off (.slice f n g)) T (0,0))/\Zj (λk=>d k\/k=b) c b z false/\c.heap[w.heap.size]?=some Z/\Bel w c/\m.heap.size<=c.heap.size:=by
 have U:wr.heap.size<=w8.heap.size:=F.size;have V:w8.heap.size+1<=a.heap.size:=by have:=v.size;simp at this;omega
 have i:Kept (λk=>k=R) a c:=D▸(Kept.refl (λk=>k=R) a).setCell (p:=⟨R,off,none⟩) rfl _;have W:a.heap.size<=c.heap.size:=i.size;have O:∀k,Qc f g k->k≠R:=λk h e=>by
  rcases s k h with h|h
  ·have:=j k h;omega
  ·simp at h;omega
 have M:∀k,Qc f g k->m.heap.size<=k:=λk h=>by
  rcases s k h with h|h
  ·exact j k h
  ·simp at h;omega
 have t:Kept (λk=>k=b\/Qc o pc k) wr a:=(F.mono λ_ _ h=>.inl h).trans (((Kept.refl _ w8).alloc r).trans (v.mono λ_ _ h=>.inr h));refine⟨⟨xs++vs,?_,?_,M⟩,?_,?_,?_,?_,by omega⟩
 ·refine Ch.append ?_ (Ch.one (E _ _) (rp.len (E d w)))
  refine L.mono λy H _ Q=>?_
  have H:=rp.keep (B:=λk=>d k\/Qc f g k) Q t (λk h=>h.elim (λh=>.inl (q k (by omega))) .inr) (λk Q h=>h.elim .inl λh=>by
   rcases s k h with h|h
   ·exact .inr h
   ·simp at h;omega)
  exact rp.keep H i (λk h=>.inl (q k (by omega))) λ_ _ h=>h
 ·rw[<-N];exact P.kept i λk h e=>O k h e
 ·rw[D,Go.Mem.heap_setCell_same a R off _ _ T (0,0) S]
 ·have s:Zj (λk=>d k\/k=b) a b z false:=(J.bel ((Bel.refl w8).alloc r)).keep v (λh=>by have:=j b h;omega) (.inr rfl) (λk h=>.inl (q k (by have:=j k h;omega))) λ_ _ h=>h
  exact s.keep i (by omega) (.inr rfl) (λk h=>.inl (q k (by omega))) λ_ _ h=>h
 ·exact i.heap (by omega) (t.heap (λh=>by rcases h with h|h;omega;have:=j _ h;omega) K)
 ·refine(I.of_kept t λk h=>?_).of_kept i λk h=>by omega
  rcases h with h|h
  ·omega
  ·have:=j k h;omega
theorem Qjx:El prog 67 3 1 8:=El.mk' underlying67 (z:=.int .i64 0) (by kernel_rfl) rfl
theorem Rj:El prog 56 33 2 32:=El.mk' underlying56 (z:=.agg #[.string ⟨#[]⟩,.string ⟨#[]⟩]) (by kernel_rfl) rfl
theorem Ut(n:Int)(c:0<=n)(d:n<65536)(a:List UInt8)(A:Nat->Prop)(w:World)(b:Nat)(h:Zj A w b (Qd n.toNat++a) false):
 Calls prog 170 #[.pointer (some ⟨b,0,none⟩)] w λe w'=>e=.returned (.int .i64 n)/\Zj A w' b a false/\Kept (λk=>k=b) w w':=by
 obtain⟨m,rfl⟩:=Int.eq_ofNat_of_zero_le c;exact Dx m (by omega) a A w b h
theorem Qt5{r:Rec}(h:Qp r=true):(r.kind≠2->r.id=0)/\(r.kind≠5->r.yes=false)/\(Yw r.kind=false->r.parts=[])/\(Vy r.kind=false->r.puts=[]):=by
 simp only[Qp,Xq,Bool.and_eq_true,decide_eq_true_eq]at h;obtain⟨_,⟨⟨⟨a,b⟩,_,c⟩,d⟩,e⟩:=h;refine⟨λh=>?_,λh=>?_,λh=>?_,λh=>?_⟩
 ·simpa[Mr,h] using a
 ·simpa[Gi,h] using b
 ·have:Wp r.kind=0:=by
   simp only[Yw,Bool.or_eq_false_iff,beq_eq_false_iff_ne]at h;rw[Wp,if_neg h.1.1,if_neg h.1.2,if_neg h.2]
  exact List.eq_nil_of_length_eq_zero (by omega)
 ·have:Jw r.kind=0:=by
   simp only[Vy,Bool.or_eq_false_iff,beq_eq_false_iff_ne]at h;rw[Jw,if_neg h.1,if_neg h.2]
  exact List.eq_nil_of_length_eq_zero (by omega)
theorem Qps:(∀(a c:Int) (n:i64 c) (A:Nat->Prop) (w:World) (j:∀k,A k->k<w.heap.size) (ao:Option Addr) (cap:Nat) (h:Rd Ql A w ao cap (encR ⟨a,c,0,false,[],[]⟩)) (g:Qp ⟨a,c,0,false,[],[]⟩=true) (f:a=1\/a=3),Calls prog 104 #[.slice ao (encR ⟨a,c,0,false,[],[]⟩).length cap] w λe w'=>(e=.returned (.tuple #[.agg #[.int .i64 a,.int .i64 c,.int .i64 0,.bool false,.slice none 0 0,.slice none 0 0],.int .i64 0]))/\Bel w w') ∧
 (∀(a c:Int) (d:Int) (n:i64 c) (G:i64 d) (A:Nat->Prop) (w:World) (j:∀k,A k->k<w.heap.size) (ao:Option Addr) (cap:Nat) (h:Rd Ql A w ao cap (encR ⟨a,c,d,false,[],[]⟩)) (g:Qp ⟨a,c,d,false,[],[]⟩=true) (f:a=2),Calls prog 104 #[.slice ao (encR ⟨a,c,d,false,[],[]⟩).length cap] w λe w'=>(e=.returned (.tuple #[.agg #[.int .i64 a,.int .i64 c,.int .i64 d,.bool false,.slice none 0 0,.slice none 0 0],.int .i64 0]))/\Bel w w') ∧
 (∀(a c:Int) (i:Bool) (n:i64 c) (A:Nat->Prop) (w:World) (j:∀k,A k->k<w.heap.size) (ao:Option Addr) (cap:Nat) (h:Rd Ql A w ao cap (encR ⟨a,c,0,i,[],[]⟩)) (g:Qp ⟨a,c,0,i,[],[]⟩=true) (f:a=5),Calls prog 104 #[.slice ao (encR ⟨a,c,0,i,[],[]⟩).length cap] w λe w'=>(e=.returned (.tuple #[.agg #[.int .i64 a,.int .i64 c,.int .i64 0,.bool i,.slice none 0 0,.slice none 0 0],.int .i64 0]))/\Bel w w'):=by
 refine⟨have k1:=trivial;?_,have k2:=trivial;?_,have k3:=trivial;?_⟩;all_goals
  first|(have k2:=k2;intro a c d n G A w j ao cap h g f)|(have k3:=k3;intro a c i n A w j ao cap h g f)|(intro a c n A w j ao cap h g f)
  have W:=Zh g;have H:0<=a/\a<=9:=by omega
  obtain⟨H,ab⟩:=H;first|(have k2:=k2;have z:Hid (encR ⟨a,c,d,false,[],[]⟩=Qd a.toNat++(Zc c++(Zc d++[]))):=Zh (by have h:=f<;>simp[encR,h,Yw,Vy]))|(have k3:=k3;have z:Hid (encR ⟨a,c,0,i,[],[]⟩=Qd a.toNat++(Zc c++[if i then (1:UInt8) else 0])):=Zh (by have h:=f<;>simp[encR,h,Yw,Vy]))|(have z:Hid (encR ⟨a,c,0,false,[],[]⟩=Qd a.toNat++(Zc c++[])):=Zh (by rcases f with h|h<;>simp[encR,h,Yw,Vy]))
  have B:=Zh f;first|(have k2:=k2;obtain⟨L,l⟩:∃L,L=encR ⟨a,c,d,false,[],[]⟩:=⟨_,rfl⟩)|(have k3:=k3;obtain⟨L,l⟩:∃L,L=encR ⟨a,c,0,i,[],[]⟩:=⟨_,rfl⟩)|(obtain⟨L,l⟩:∃L,L=encR ⟨a,c,0,false,[],[]⟩:=⟨_,rfl⟩)
  have V:=Zh l;rw[<-l]at h ⊢;obtain⟨x,m⟩:=Zx (λk=>A k\/w.heap.size<=k);obtain⟨P,U⟩:=Zh2 (show ∀k,w.heap.size<=k->x k fromλk h=>by rw[m];exact .inr h) (show Rd Ql x w ao cap L from h.mono λk f h=>by rw[m]at h;exact h.elim (λh=>h) λh=>by omega);clear g j f h l m;go_enter func104,ntmps104;go_wp2_with fail;have f:Hid (Bel w (w.alloc (.cells #[.int .i64 0,.int .i64 0,.int .i64 0,.bool false,.slice none 0 0,.slice none 0 0] 124))):=Zh ((Bel.refl w).alloc _);have m:Hid ((w.alloc (.cells #[.int .i64 0,.int .i64 0,.int .i64 0,.bool false,.slice none 0 0,.slice none 0 0] 124)).heap[w.heap.size]?=some (.cells #[.int .i64 0,.int .i64 0,.int .i64 0,.bool false,.slice none 0 0,.slice none 0 0] 124 (0,0))):=Zh (heap_alloc_new w _);refine(V7 x _ ao cap L (U.bel f)).mono ?_;rintro e I ⟨b,rfl,o,g,b2⟩;have aa:w.heap.size<b:=by simp at o;omega
  have q:Hid (I.heap[w.heap.size]?=some (.cells #[.int .i64 0,.int .i64 0,.int .i64 0,.bool false,.slice none 0 0,.slice none 0 0] 124 (0,0))):=Zh (b2.heap m.o);have j:Hid (Bel w I):=Zh (f.trans b2);rw[V.o,z.o]at g;have l:=Zh g;clear g b2 o f m;go_wp2_with fail;refine(Ut a H (by omega) _ _ I b l.o).mono ?_;rintro e T ⟨rfl,f,k3⟩;have r:=Zh (k3.heap (by omega) q.o);have g:Hid (Bel w T):=Zh (j.of_kept k3 (λk h=>by omega));have o:=Zh f;clear f k3 q j l;go_wp2_with fail;refine(Jt c n _ _ T b o).mono ?_;rintro e s ⟨rfl,f,k4⟩;have t:=Zh (k4.heap (by omega) r.o);have m:Hid (Bel w s):=Zh (g.of_kept k4 (λk h=>by omega));have q:=Zh f;have E:b<s.heap.size:=by obtain⟨_,_,_,h,_⟩:=f;exact Qb h
  clear f k4 r g o;go_wp2_with fail;first|(have k2:=k2;refine(Qos a B.o _).mono ?_)|(have k3:=k3;refine(Qot a B.o _).mono ?_)|(refine(Qor a B.o _).mono ?_)
  rintro e g ⟨rfl,f⟩;obtain⟨R,j⟩:=Zx s.heap.size;have l:Hid (g.heap[R]?=some (.cells #[.int .i64 a,.int .i64 c,.int .i64 0,.bool false,.slice none 0 0,.slice none 0 0] 124 (0,0))):=Zh (by rw[<-f,j];exact heap_alloc_new s _);have D:=Zh (show g.heap[w.heap.size]?=some (.cells #[.int .i64 0,.int .i64 0,.int .i64 0,.bool false,.slice none 0 0,.slice none 0 0] 124 (0,0)) from by rw[<-f];exact((Bel.refl s).alloc _).heap t.o);have y:Hid (Bel w g):=Zh (by rw[<-f];exact m.alloc _);have C:=Zh (show Zj (λk=>x k\/k=b) g b _ false from by rw[<-f];exact q.bel ((Bel.refl s).alloc _));have Z:b<R:=by omega
  have Y:R<g.heap.size:=Qb l.o;rw[<-j];clear f j t m q E;go_wp2_with fail;first
   | (have k2:=k2
      refine(Jt d G [] _ g b C).mono ?_;rintro e r ⟨rfl,t,k6⟩;have q:=k6.heap (b:=R) (by omega) l.o;have E:=cell_of_block q 2 _ rfl;have F:=Qa q 2;obtain⟨f,o⟩:=Zx (r.setCell ⟨R,2,none⟩ (.int .i64 d));have j:Kept (λk=>k=R) r f:=o▸(Kept.refl (λk=>k=R) r).setCell (p:=⟨R,2,none⟩) rfl _;obtain⟨m,S,O,Q⟩:=Zh4 (show f.heap[R]?=some (.cells #[.int .i64 a,.int .i64 c,.int .i64 d,.bool false,.slice none 0 0,.slice none 0 0] 124 (0,0)) from by rw[o,Go.Mem.heap_setCell_same r R 2 _ _ _ (0,0) q];simp) (j.heap (b:=w.heap.size) (by omega) (k6.heap (b:=w.heap.size) (by omega) D.o)) ((y.of_kept k6 (λk h=>by omega)).of_kept j (λk h=>by omega)) (t.keep j (by omega) (.inr rfl) (λk h=>.inl (P.o k (by omega))) λ_ _ h=>h);clear q t k6;go_wp2_with fail;rw[<-o];clear o j E F)
   | (have k3:=k3
      refine(Qpr i [] _ g b C).mono ?_;rintro e r ⟨rfl,t,k6⟩;have q:=k6.heap (b:=R) (by omega) l.o;have E:=cell_of_block q 3 _ rfl;have F:=Qa q 3;obtain⟨f,o⟩:=Zx (r.setCell ⟨R,3,none⟩ (.bool i));have j:Kept (λk=>k=R) r f:=o▸(Kept.refl (λk=>k=R) r).setCell (p:=⟨R,3,none⟩) rfl _;obtain⟨m,S,O,Q⟩:=Zh4 (show f.heap[R]?=some (.cells #[.int .i64 a,.int .i64 c,.int .i64 0,.bool i,.slice none 0 0,.slice none 0 0] 124 (0,0)) from by rw[o,Go.Mem.heap_setCell_same r R 3 _ _ _ (0,0) q];simp) (j.heap (b:=w.heap.size) (by omega) (k6.heap (b:=w.heap.size) (by omega) D.o)) ((y.of_kept k6 (λk h=>by omega)).of_kept j (λk h=>by omega)) (t.keep j (by omega) (.inr rfl) (λk h=>.inl (P.o k (by omega))) λ_ _ h=>h);clear q t k6;go_wp2_with fail;rw[<-o];clear o j E F)
   | (skip)
  first|(have k1:=k1;refine(Df _ g b [] false C.o).mono ?_)|(refine(Df _ f b [] false Q.o).mono ?_)
  rintro e ac ⟨rfl,X⟩;subst X;first|(have k1:=k1;have c0:g.cell? ⟨R,0,none⟩=some (.int .i64 a):=cell_of_block l.o 0 _ rfl)|(have c0:f.cell? ⟨R,0,none⟩=some (.int .i64 a):=cell_of_block m.o 0 _ rfl)
  first|(have k1:=k1;have c1:g.cell? ⟨R,1,none⟩=some (.int .i64 c):=cell_of_block l.o 1 _ rfl)|(have c1:f.cell? ⟨R,1,none⟩=some (.int .i64 c):=cell_of_block m.o 1 _ rfl)
  first|(have k2:=k2;have c2:f.cell? ⟨R,2,none⟩=some (.int .i64 d):=cell_of_block m.o 2 _ rfl)|(have k3:=k3;have c2:f.cell? ⟨R,2,none⟩=some (.int .i64 0):=cell_of_block m.o 2 _ rfl)|(have c2:g.cell? ⟨R,2,none⟩=some (.int .i64 0):=cell_of_block l.o 2 _ rfl)
  first|(have k2:=k2;have c3:f.cell? ⟨R,3,none⟩=some (.bool false):=cell_of_block m.o 3 _ rfl)|(have k3:=k3;have c3:f.cell? ⟨R,3,none⟩=some (.bool i):=cell_of_block m.o 3 _ rfl)|(have c3:g.cell? ⟨R,3,none⟩=some (.bool false):=cell_of_block l.o 3 _ rfl)
  first|(have k1:=k1;have q:g.cell? ⟨R,4,none⟩=some (.slice none 0 0):=cell_of_block l.o 4 _ rfl)|(have q:f.cell? ⟨R,4,none⟩=some (.slice none 0 0):=cell_of_block m.o 4 _ rfl)
  first|(have k1:=k1;have r:g.cell? ⟨R,5,none⟩=some (.slice none 0 0):=cell_of_block l.o 5 _ rfl)|(have r:f.cell? ⟨R,5,none⟩=some (.slice none 0 0):=cell_of_block m.o 5 _ rfl)
  go_wp2_with fail;first|(have k2:=k2;refine(J9 ⟨a,c,d,false,[],[]⟩ none 0 none 0 n G (λp j=>by simp at j) A f (Rd.nil _ _ _ _ _ (by simp[maxLen])) (Rd.nil _ _ _ _ _ (by simp[maxLen]))).mono ?_)|(have k3:=k3;refine(J9 ⟨a,c,0,i,[],[]⟩ none 0 none 0 n ⟨by show(-9223372036854775808:Int)<=0;decide,by show(0:Int)<=9223372036854775807;decide⟩ (λp j=>by simp at j) A f (Rd.nil _ _ _ _ _ (by simp[maxLen])) (Rd.nil _ _ _ _ _ (by simp[maxLen]))).mono ?_)|(refine(J9 ⟨a,c,0,false,[],[]⟩ none 0 none 0 n ⟨by show(-9223372036854775808:Int)<=0;decide,by show(0:Int)<=9223372036854775807;decide⟩ (λp j=>by simp at j) A g (Rd.nil _ _ _ _ _ (by simp[maxLen])) (Rd.nil _ _ _ _ _ (by simp[maxLen]))).mono ?_)
  rw[W.o];rintro e w8 ⟨rfl,j⟩;have c0:w8.cell? ⟨R,0,none⟩=some (.int .i64 a):=j.cell c0;have c1:w8.cell? ⟨R,1,none⟩=some (.int .i64 c):=j.cell c1;first|(have k2:=k2;have c2:w8.cell? ⟨R,2,none⟩=some (.int .i64 d):=j.cell c2)|(have c2:w8.cell? ⟨R,2,none⟩=some (.int .i64 0):=j.cell c2)
  first|(have k3:=k3;have c3:w8.cell? ⟨R,3,none⟩=some (.bool i):=j.cell c3)|(have c3:w8.cell? ⟨R,3,none⟩=some (.bool false):=j.cell c3)
  have q:w8.cell? ⟨R,4,none⟩=some (.slice none 0 0):=j.cell q;have r:w8.cell? ⟨R,5,none⟩=some (.slice none 0 0):=j.cell r;first|(have k1:=k1;have o:=j.heap D.o)|(have o:=j.heap S.o)
  have t:=cell_of_block o 0 _ rfl;have ad:=Qa o;have E:=cell_of_block o 1 _ rfl;have F:=cell_of_block o 2 _ rfl;have J:=cell_of_block o 3 _ rfl;have K:=cell_of_block o 4 _ rfl;have M:=cell_of_block o 5 _ rfl;first|(have k1:=k1;have N:=Zh (y.trans j))|(have N:=Zh (O.trans j))
  clear j o;go_wp2;first|(have k2:=k2;refine bodyPost_ret (v:=.tuple #[.agg #[.int .i64 a,.int .i64 c,.int .i64 d,.bool false,.slice none 0 0,.slice none 0 0],.int .i64 0]) (by simp[results,results104,go_sem,t,E,F,J,K,M]) rfl ⟨rfl,?_⟩)|(have k3:=k3;refine bodyPost_ret (v:=.tuple #[.agg #[.int .i64 a,.int .i64 c,.int .i64 0,.bool i,.slice none 0 0,.slice none 0 0],.int .i64 0]) (by simp[results,results104,go_sem,t,E,F,J,K,M]) rfl ⟨rfl,?_⟩)|(refine bodyPost_ret (v:=.tuple #[.agg #[.int .i64 a,.int .i64 c,.int .i64 0,.bool false,.slice none 0 0,.slice none 0 0],.int .i64 0]) (by simp[results,results104,go_sem,t,E,F,J,K,M]) rfl ⟨rfl,?_⟩)
  exact(((((N.setCell (p:=⟨w.heap.size,0,none⟩) (Nat.le_refl _) _).setCell (p:=⟨w.heap.size,1,none⟩) (Nat.le_refl _) _).setCell (p:=⟨w.heap.size,2,none⟩) (Nat.le_refl _) _).setCell (p:=⟨w.heap.size,3,none⟩) (Nat.le_refl _) _).setCell (p:=⟨w.heap.size,4,none⟩) (Nat.le_refl _) _).setCell (p:=⟨w.heap.size,5,none⟩) (Nat.le_refl _) _
def Qxe:=Qps.1
def Qxf:=Qps.2.1
def Qxg:=Qps.2.2
theorem Qwb:(∀(c d:Int) (a:List Int) (H:i64 d) (A:Nat->Prop) (w:World) (f:∀k,A k->k<w.heap.size) (ao:Option Addr) (cap:Nat) (h:Rd Ql A w ao cap (encR ⟨c,d,0,false,a,[]⟩)) (m:Qp ⟨c,d,0,false,a,[]⟩=true) (q:c=6\/c=8\/c=9),Calls prog 104 #[.slice ao (encR ⟨c,d,0,false,a,[]⟩).length cap] w λe w'=>(∃rp g,e=.returned (.tuple #[.agg #[.int .i64 c,.int .i64 d,.int .i64 0,.bool false,.slice rp a.length g,.slice none 0 0],.int .i64 0])/\Rd Qh A w' rp g a)/\Bel w w') ∧
 (∀(c d:Int) (a:List Put) (H:i64 d) (A:Nat->Prop) (w:World) (f:∀k,A k->k<w.heap.size) (ao:Option Addr) (cap:Nat) (h:Rd Ql A w ao cap (encR ⟨c,d,0,false,[],a⟩)) (m:Qp ⟨c,d,0,false,[],a⟩=true) (q:c=4\/c=7),Calls prog 104 #[.slice ao (encR ⟨c,d,0,false,[],a⟩).length cap] w λe w'=>(∃j g,e=.returned (.tuple #[.agg #[.int .i64 c,.int .i64 d,.int .i64 0,.bool false,.slice none 0 0,.slice j a.length g],.int .i64 0])/\Rd Qw A w' j g a)/\Bel w w'):=by
 refine⟨have k1:=trivial;?_,have k2:=trivial;?_⟩;all_goals
  intro c d a H A w f ao cap h m q;obtain⟨z,ai⟩:=Zh2 m f;have ac:0<=c/\c<=9:=by omega
  obtain⟨ac,bd⟩:=ac;first|(have k2:=k2;have ah:Hid (encR ⟨c,d,0,false,[],a⟩=Qd c.toNat++(Zc d++(Qd a.length++a.flatMap Ca))):=Zh (by rcases q with h|h<;>simp[encR,h,Yw,Vy]))|(have ah:Hid (encR ⟨c,d,0,false,a,[]⟩=Qd c.toNat++(Zc d++(Qd a.length++a.flatMap (λn=>Qd n.toNat)))):=Zh (by rcases q with h|h|h<;>simp[encR,h,Yw,Vy]))
  have am:=Zh q;first|(have k2:=k2;obtain⟨L,l⟩:∃L,L=encR ⟨c,d,0,false,[],a⟩:=⟨_,rfl⟩)|(obtain⟨L,l⟩:∃L,L=encR ⟨c,d,0,false,a,[]⟩:=⟨_,rfl⟩)
  have aN:=Zh l;rw[<-l]at h ⊢;obtain⟨j,g⟩:=Zx (λk=>A k\/w.heap.size<=k);obtain⟨J,aj,aM⟩:=Zh3 (show ∀k,w.heap.size<=k->j k fromλk h=>by rw[g];exact .inr h) (show ∀k,A k->j k fromλk h=>by rw[g];exact .inl h) (show Rd Ql j w ao cap L from h.mono λk q h=>by rw[g]at h;exact h.elim (λh=>h) λh=>by omega);clear m f q h l g;go_enter func104,ntmps104;go_wp2_with fail;have f:Hid (Bel w (w.alloc (.cells #[.int .i64 0,.int .i64 0,.int .i64 0,.bool false,.slice none 0 0,.slice none 0 0] 124))):=Zh ((Bel.refl w).alloc _);have o:Hid ((w.alloc (.cells #[.int .i64 0,.int .i64 0,.int .i64 0,.bool false,.slice none 0 0,.slice none 0 0] 124)).heap[w.heap.size]?=some (.cells #[.int .i64 0,.int .i64 0,.int .i64 0,.bool false,.slice none 0 0,.slice none 0 0] 124 (0,0))):=Zh (heap_alloc_new w _);refine(V7 j _ ao cap L (aM.bel f)).mono ?_;rintro e af ⟨b,rfl,s,g,b2⟩;have aC:w.heap.size<b:=by simp at s;omega
  have r:Hid (af.heap[w.heap.size]?=some (.cells #[.int .i64 0,.int .i64 0,.int .i64 0,.bool false,.slice none 0 0,.slice none 0 0] 124 (0,0))):=Zh (b2.heap o.o);have l:Hid (Bel w af):=Zh (f.trans b2);rw[aN.o,ah.o]at g;have m:=Zh g;clear g b2 s f o;go_wp2_with fail;refine(Ut c ac (by omega) _ _ af b m.o).mono ?_;rintro e aI ⟨rfl,f,k3⟩;have s:=Zh (k3.heap (by omega) r.o);have g:Hid (Bel w aI):=Zh (l.of_kept k3 (λk h=>by omega));have o:=Zh f;clear f k3 r l m;go_wp2_with fail;refine(Jt d H _ _ aI b o).mono ?_;rintro e D ⟨rfl,f,k4⟩;have t:=Zh (k4.heap (by omega) s.o);have m:Hid (Bel w D):=Zh (g.of_kept k4 (λk h=>by omega));have r:=Zh f;have y:b<D.heap.size:=by obtain⟨_,_,_,h,_⟩:=f;exact Qb h
  clear f k4 s g o;go_wp2_with fail;first|(have k2:=k2;refine(Qou c am.o _).mono ?_)|(refine(Qly c am.o _).mono ?_)
  rintro e l ⟨rfl,f⟩;obtain⟨R,g⟩:=Zx D.heap.size;have aw:Hid (l.heap[R]?=some (.cells #[.int .i64 c,.int .i64 d,.int .i64 0,.bool false,.slice none 0 0,.slice none 0 0] 124 (0,0))):=Zh (by rw[<-f,g];exact heap_alloc_new D _);have aR:=Zh (show l.heap[w.heap.size]?=some (.cells #[.int .i64 0,.int .i64 0,.int .i64 0,.bool false,.slice none 0 0,.slice none 0 0] 124 (0,0)) from by rw[<-f];exact((Bel.refl D).alloc _).heap t.o);have aJ:Hid (Bel w l):=Zh (by rw[<-f];exact m.alloc _);have aO:=Zh (show Zj (λk=>j k\/k=b) l b _ false from by rw[<-f];exact r.bel ((Bel.refl D).alloc _));have ab:b<R:=by omega
  have aB:R<l.heap.size:=Qb aw.o;rw[<-g];clear f g t m r y;first|(have k2:=k2;have aT:a.length<=10:=Qai z.o)|(have aT:a.length<=7:=Dq z.o)
  first|(have k2:=k2;obtain⟨ae,E,f,O,g,m,o⟩:=(Rj).hi)|(obtain⟨ae,E,f,O,g,m,o⟩:=(Qjx).hi)
  obtain⟨al,aq,ar,au,av⟩:=Zh5 f O g m o;clear f O g m o;go_wp2_with fail;refine(Dx a.length (by omega) _ _ l b aO.o).mono ?_;rintro e aW ⟨rfl,f,k6⟩;obtain⟨aS,aQ,aK⟩:=Zh3 (k6.heap (b:=w.heap.size) (by omega) aR.o) (k6.heap (b:=R) (by omega) aw.o) (aJ.of_kept k6 (λk h=>by omega));have aU:l.heap.size<=aW.heap.size:=k6.size;have aP:=Zh f;clear f k6;go_wp2;first
   | (have k2:=k2
      go_loopw[11] (λx wr=>∃(k:Nat) (ao:Option Addr) (cap:Nat),k<=a.length/\x=.int .i64 ((a.length-k:Nat):Int)/\Hid (Own Qw j l wr 33 ao cap (a.take k))/\Hid (wr.heap[R]?=some (.cells #[.int .i64 c,.int .i64 d,.int .i64 0,.bool false,.slice none 0 0,.slice ao k cap] 124 (0,0)))/\Hid (Zj (λk=>j k\/k=b) wr b ((a.drop k).flatMap Ca) false) ∧
       Hid (wr.heap[w.heap.size]?=some (.cells #[.int .i64 0,.int .i64 0,.int .i64 0,.bool false,.slice none 0 0,.slice none 0 0] 124 (0,0)))/\Hid (Bel w wr)/\Hid (l.heap.size<=wr.heap.size)) (λx _=>(intOf x).toNat))
   | (go_loopw[10] (λx wr=>∃(k:Nat) (ao:Option Addr) (cap:Nat),k<=a.length/\x=.int .i64 ((a.length-k:Nat):Int)/\Hid (Own Qh j l wr 3 ao cap (a.take k))/\Hid (wr.heap[R]?=some (.cells #[.int .i64 c,.int .i64 d,.int .i64 0,.bool false,.slice ao k cap,.slice none 0 0] 124 (0,0)))/\Hid (Zj (λk=>j k\/k=b) wr b ((a.drop k).flatMap (λn=>Qd n.toNat)) false) ∧
       Hid (wr.heap[w.heap.size]?=some (.cells #[.int .i64 0,.int .i64 0,.int .i64 0,.bool false,.slice none 0 0,.slice none 0 0] 124 (0,0)))/\Hid (Bel w wr)/\Hid (l.heap.size<=wr.heap.size)) (λx _=>(intOf x).toNat))
  case atStart=>exact⟨0,none,0,Nat.zero_le _,rfl,Zh (Own.nil _ _ _ _ _),aQ,by simpa using aP,aS,aK,Zh aU⟩
  case round=>
   obtain⟨k,f,pc,q,rfl,M,r,K,Y,P,ax⟩:=hrel;by_cases t:k<a.length
   ·obtain⟨x,g⟩:∃x,a[k]?=some x:=⟨a[k],by simp[t]⟩
    have F:((a.length-k:Nat):Int)=(a.length:Int)-k:=by omega
    first|(have k2:=k2;have aF:=Un z.o (List.mem_of_getElem? g))|(have aF:=Qdl z.o (List.mem_of_getElem? g))
    obtain⟨bg,bh⟩:=aF;first
     | (have k2:=k2
        have Q:Hid ((a.drop k).flatMap Ca=(X4 x.q++X4 x.b)++(a.drop (k+1)).flatMap Ca):=Zh (by
         rw[List.drop_eq_getElem_cons t,List.flatMap_cons];rw[List.getElem?_eq_getElem t]at g;cases g;rfl))
     | (have Q:Hid ((a.drop k).flatMap (λn=>Qd n.toNat)=Qd x.toNat++(a.drop (k+1)).flatMap (λn=>Qd n.toNat)):=Zh (by
         rw[List.drop_eq_getElem_cons t,List.flatMap_cons];rw[List.getElem?_eq_getElem t]at g;cases g;rfl))
    have aL:Hid (a.take (k+1)=a.take k++[x]):=Zh (by
     rw[List.take_succ_eq_append_getElem t];rw[List.getElem?_eq_getElem t]at g;cases g;rfl)
    have bf:(0:Int)<((a.length-k:Nat):Int):=by omega
    first|(have k2:=k2;have C:Hid (Zj (λk=>j k\/k=b) wr b ((X4 x.q++X4 x.b)++(a.drop (k+1)).flatMap Ca) false):=Zh (by rw[<-Q.o];exact K.o))|(have C:Hid (Zj (λk=>j k\/k=b) wr b (Qd x.toNat++(a.drop (k+1)).flatMap (λn=>Qd n.toNat)) false):=Zh (by rw[<-Q.o];exact K.o))
    first|(have k2:=k2;have s:wr.cell? ⟨R,5,none⟩=some (.slice f k pc):=cell_of_block r.o 5 _ rfl)|(have s:wr.cell? ⟨R,4,none⟩=some (.slice f k pc):=cell_of_block r.o 4 _ rfl)
    have bb:=Qb r;have bc:b<wr.heap.size:=by have:=ab;omega
    obtain⟨xs,y,o,m⟩:=M.o;have aD:¬Qc f pc R:=λh=>by have:=m R h;omega
    have aE:¬Qc f pc b:=λh=>by have:=m b h;omega
    have be:¬Qc f pc w.heap.size:=λh=>by have:=m _ h;omega
    rw[show(a.take k).length=k from by simp;omega]at o;obtain⟨ak,ap,an⟩:=Zh3 y o m;clear g y o m F;go_wp2_with fail;refine(Y7 _ wr b _ false C).zR λaX ad=>?_
    subst ad;go_wp2;first|(have k2:=k2;go_region_law(first|(refine Ww _ rfl _ _ 56 56 rfl 33 ae E 2 32 underlying56 al.o aq.o ar.o au.o av.o f k pc xs (Z.kept ((Kept.refl (λ_=>False) _).alloc _) (λ_ _ h=>h)) (by simp[Act.eval]) (.slice (some ⟨w8.heap.size,0,none⟩) 1 1) (by simp[Act.eval]) 1 [.string x.q,.string x.b] (Qrh w8 underlying56 [.string x.q,.string x.b] 1 2 rfl (by simp[Value.oneCell']) _) (by simp only[maxLen];omega) (by omega) ?_;intro ay az aY F o G;have m:=o.heap aD (((Bel.refl _).alloc _).heap W.o);have a9:=cell_of_block m 5 _ rfl;have aA:=Qa m 5;have X:=Zh m;have aa:=Zh F;have U:=Zh o;have V:=Zh G;clear F o G m)|(go_simp;go_at_call 179;refine(Dg x.b (by omega) _ _ _ b aV).mono ?_;rintro e w8 ⟨rfl,I,k8⟩;have k9:=((Kept.refl (λk=>k=b) wr).drew).trans (aG.trans k8);have g:=k9.heap (b:=R) (by omega) r.o;have N:w8.cell? ⟨R,5,none⟩=some (.slice f k pc):=cell_of_block g 5 _ rfl;have a8:∀y,(w8.alloc y).cell? ⟨R,5,none⟩=some (.slice f k pc):=λy=>((Bel.refl w8).alloc y).cell N;have W:=Zh g;have Z:=Zh ((ap.o).kept k9 (λi h e=>aE (e▸h)));have S:=Zh I;have T:=Zh k9;clear g I k8 k9)|(go_simp;go_at_call 179;refine(Dg x.q (by omega) (X4 x.b++(a.drop (k+1)).flatMap Ca) _ _ b (by have:=C.o;rw[List.append_assoc]at this;exact this)).mono ?_;rintro e aZ ⟨rfl,aV,aG⟩;have aH:=(((Kept.refl (λk=>k=b) wr).drew).trans aG).heap (b:=R) (by omega) r.o;have ba:aZ.cell? ⟨R,5,none⟩=some (.slice f k pc):=cell_of_block aH 5 _ rfl;clear aH)))|(go_region_law(first|(refine Ww _ rfl _ _ 67 67 rfl 3 ae E 1 8 underlying67 al.o aq.o ar.o au.o av.o f k pc xs (Z.kept ((Kept.refl (λ_=>False) _).alloc _) (λ_ _ h=>h)) (by simp[Act.eval]) (.slice (some ⟨w8.heap.size,0,none⟩) 1 1) (by simp[Act.eval]) 1 [.int .i64 x] (Rt w8 underlying67 _ rfl _) (by simp only[maxLen];omega) (by omega) ?_;intro ay az aY F o G;have m:=o.heap aD (((Bel.refl _).alloc _).heap W.o);have a9:=cell_of_block m 4 _ rfl;have aA:=Qa m 4;have X:=Zh m;have aa:=Zh F;have U:=Zh o;have V:=Zh G;clear F o G m)|(go_simp;go_at_call 170;refine(Ut x (by omega) (by omega) _ _ _ b (by exact C.o)).mono ?_;rintro e w8 ⟨rfl,I,k8⟩;have k9:=((Kept.refl (λk=>k=b) wr).drew).trans k8;have g:=k9.heap (b:=R) (by omega) r.o;have N:w8.cell? ⟨R,4,none⟩=some (.slice f k pc):=cell_of_block g 4 _ rfl;have a8:∀y,(w8.alloc y).cell? ⟨R,4,none⟩=some (.slice f k pc):=λy=>((Bel.refl w8).alloc y).cell N;have W:=Zh g;have Z:=Zh ((ap.o).kept k9 (λi h e=>aE (e▸h)));have S:=Zh I;have T:=Zh k9;clear g I k8 k9)))
    all_goals
     first|(have k2:=k2;have m:=Qjw (rp:=Qw) (x:=x) (off:=5) J.o P.o ak.o (λ_ _=>rfl) aa.o (by simp;omega) an.o T.o U.o V.o X.o S.o Y.o aC ab aB ax.o rfl)|(have m:=Qjw (rp:=Qh) (x:=x) (off:=4) J.o P.o ak.o (λ_ _=>rfl) aa.o (by simp;omega) an.o T.o U.o V.o X.o S.o Y.o aC ab aB ax.o rfl)
     have o:=Zh m;clear m N a8 a9 aA;have a8:((a.length-k:Nat):Int)-1=((a.length-(k+1):Nat):Int):=by omega
     go_wp2;go_roundw
     case rel=>
      obtain⟨m,y,F,G,I,N⟩:=o.o;exact⟨k+1,ay,az,by omega,rfl,Zh (by rw[aL.o];exact m),Zh y,Zh F,Zh G,Zh I,Zh N⟩
     case measure=>simp[intOf];omega
   ·have X:k=a.length:=by omega
    subst X;have O:¬(0:Int)<((a.length-a.length:Nat):Int):=by simp
    first|(have k2:=k2;have G:Hid (Own Qw j l wr 33 f pc a):=Zh (by have:=M.o;rwa [List.take_length]at this))|(have G:Hid (Own Qh j l wr 3 f pc a):=Zh (by have:=M.o;rwa [List.take_length]at this))
    have C:Hid (Zj (λk=>j k\/k=b) wr b [] false):=Zh (by have:=K.o;rwa [List.drop_length]at this);have V:=C;have o:=r;have W:=Y;have U:=P;first|(have k2:=k2;have y:Hid (Rd Qw (λk=>A k\/k=w.heap.size) wr f pc a):=Zh ((G.keep (B:=λk=>A k\/k=w.heap.size) (Kept.refl (λ_=>False) wr) (λ_ h=>h.elim) (λ_ _ h=>h) (λk _ h=>h.elim (aj.o k) λh=>J.o k (by omega))).rd (λk h=>h.elim (λh=>by have:=ai.o k h;omega) λh=>by omega)))|(have y:Hid (Rd Qh (λk=>A k\/k=w.heap.size) wr f pc a):=Zh ((G.keep (B:=λk=>A k\/k=w.heap.size) (Kept.refl (λ_=>False) wr) (λ_ h=>h.elim) (λ_ _ h=>h) (λk _ h=>h.elim (aj.o k) λh=>J.o k (by omega))).rd (λk h=>h.elim (λh=>by have:=ai.o k h;omega) λh=>by omega)))
    clear M K;go_wp2_with fail;refine(Df _ wr b [] false V).zR λaX ad=>?_
    subst ad;have c0:=cell_of_block o 0 _ rfl;have c1:=cell_of_block o 1 _ rfl;have c2:=cell_of_block o 2 _ rfl;have c3:=cell_of_block o 3 _ rfl;first|(have k2:=k2;have s:wr.cell? ⟨R,4,none⟩=some (.slice none 0 0):=cell_of_block o.o 4 _ rfl)|(have s:wr.cell? ⟨R,4,none⟩=some (.slice f a.length pc):=cell_of_block o.o 4 _ rfl)
    first|(have k2:=k2;have F:wr.cell? ⟨R,5,none⟩=some (.slice f a.length pc):=cell_of_block o.o 5 _ rfl)|(have F:wr.cell? ⟨R,5,none⟩=some (.slice none 0 0):=cell_of_block o.o 5 _ rfl)
    go_wp2_with fail;first|(have k2:=k2;refine(J9 ⟨c,d,0,false,[],a⟩ none 0 f pc H ⟨by show(-9223372036854775808:Int)<=0;decide,by show(0:Int)<=9223372036854775807;decide⟩ (λp m=>(by have:=(Un z.o m).1;unfold maxLen;omega)) A wr (Rd.nil _ _ _ _ _ (by simp[maxLen])) (y.mono λ_ _ h=>.inl h)).mono ?_)|(refine(J9 ⟨c,d,0,false,a,[]⟩ f pc none 0 H ⟨by show(-9223372036854775808:Int)<=0;decide,by show(0:Int)<=9223372036854775807;decide⟩ (λp m=>by simp at m) A wr (y.mono λ_ _ h=>.inl h) (Rd.nil _ _ _ _ _ (by simp[maxLen]))).mono ?_)
    rw[z.o];rintro e w8 ⟨rfl,m⟩;have c0:w8.cell? ⟨R,0,none⟩=some (.int .i64 c):=m.cell c0;have c1:w8.cell? ⟨R,1,none⟩=some (.int .i64 d):=m.cell c1;have c2:w8.cell? ⟨R,2,none⟩=some (.int .i64 0):=m.cell c2;have c3:w8.cell? ⟨R,3,none⟩=some (.bool false):=m.cell c3;first|(have k2:=k2;have s:w8.cell? ⟨R,4,none⟩=some (.slice none 0 0):=m.cell s)|(have s:w8.cell? ⟨R,4,none⟩=some (.slice f a.length pc):=m.cell s)
    first|(have k2:=k2;have F:w8.cell? ⟨R,5,none⟩=some (.slice f a.length pc):=m.cell F)|(have F:w8.cell? ⟨R,5,none⟩=some (.slice none 0 0):=m.cell F)
    have g:=m.heap W;have E:=cell_of_block g 0 _ rfl;have Z:=Qa g;have K:=cell_of_block g 1 _ rfl;have M:=cell_of_block g 2 _ rfl;have N:=cell_of_block g 3 _ rfl;have Q:=cell_of_block g 4 _ rfl;have S:=cell_of_block g 5 _ rfl;obtain⟨T,I⟩:=Zh2 (U.trans m) (y.bel m);clear y;clear m g;go_wp2;first|(have k2:=k2;refine bodyPost_ret (v:=.tuple #[.agg #[.int .i64 c,.int .i64 d,.int .i64 0,.bool false,.slice none 0 0,.slice f a.length pc],.int .i64 0]) (by simp[results,results104,go_sem,E,K,M,N,Q,S]) rfl ⟨⟨f,pc,rfl,I.keep (Kept.set6 _ _ _ _ _ _ _ _) (λk h=>.inr h) (λ_ _ h=>.inl h)⟩,?_⟩)|(refine bodyPost_ret (v:=.tuple #[.agg #[.int .i64 c,.int .i64 d,.int .i64 0,.bool false,.slice f a.length pc,.slice none 0 0],.int .i64 0]) (by simp[results,results104,go_sem,E,K,M,N,Q,S]) rfl ⟨⟨f,pc,rfl,I.keep (Kept.set6 _ _ _ _ _ _ _ _) (λk h=>.inr h) (λ_ _ h=>.inl h)⟩,?_⟩)
    exact(((((T.setCell (p:=⟨w.heap.size,0,none⟩) (Nat.le_refl _) _).setCell (p:=⟨w.heap.size,1,none⟩) (Nat.le_refl _) _).setCell (p:=⟨w.heap.size,2,none⟩) (Nat.le_refl _) _).setCell (p:=⟨w.heap.size,3,none⟩) (Nat.le_refl _) _).setCell (p:=⟨w.heap.size,4,none⟩) (Nat.le_refl _) _).setCell (p:=⟨w.heap.size,5,none⟩) (Nat.le_refl _) _
def Qt6:=Qwb.1
def Qxh:=Qwb.2
theorem Si(r:Rec)(f:i64 r.tid)(t:i64 r.id)(A:Nat->Prop)(w:World)(d:∀k,A k->k<w.heap.size)(ao:Option Addr)(cap:Nat)(h:Rd Ql A w ao cap (encR r))(c:Qp r=true):
 Calls prog 104 #[.slice ao (encR r).length cap] w λe w'=>(∃rp o q p,e=.returned (.tuple #[.agg #[.int .i64 r.kind,.int .i64 r.tid,.int .i64 r.id,.bool r.yes,.slice rp r.parts.length o,.slice q r.puts.length p],.int .i64 0])/\Rd Qh A w' rp o r.parts/\Rd Qw A w' q p r.puts)/\Bel w w':=by
 have C:1<=r.kind/\r.kind<=9:=by simp only[Qp,Bool.and_eq_true,decide_eq_true_eq]at c;exact⟨c.1.1.1,c.1.1.2⟩
 have v:(r.kind=1\/r.kind=3)\/r.kind=2\/r.kind=5\/(r.kind=6\/r.kind=8\/r.kind=9)\/(r.kind=4\/r.kind=7):=by omega
 obtain⟨j,l,m,n⟩:=Qt5 c;obtain⟨g,i,x,B,y,z⟩:=r;dsimp only at *;rcases v with a|a|a|a|a
 ·obtain rfl:=j (by omega)
  obtain rfl:=l (by omega);obtain rfl:=m (by rcases a with rfl|rfl<;>rfl);obtain rfl:=n (by rcases a with rfl|rfl<;>rfl);refine(Qxe g i f A w d ao cap h c a).zR λw' b=>?_
  exact⟨⟨none,0,none,0,rfl,Rd.nil _ _ _ _ _ (by simp[maxLen]),Rd.nil _ _ _ _ _ (by simp[maxLen])⟩,b⟩
 ·obtain rfl:=l (by omega)
  obtain rfl:=m (by rw[a];rfl);obtain rfl:=n (by rw[a];rfl);refine(Qxf g i x f t A w d ao cap h c a).zR λw' b=>?_
  exact⟨⟨none,0,none,0,rfl,Rd.nil _ _ _ _ _ (by simp[maxLen]),Rd.nil _ _ _ _ _ (by simp[maxLen])⟩,b⟩
 ·obtain rfl:=j (by omega)
  obtain rfl:=m (by rw[a];rfl);obtain rfl:=n (by rw[a];rfl);refine(Qxg g i B f A w d ao cap h c a).zR λw' b=>?_
  exact⟨⟨none,0,none,0,rfl,Rd.nil _ _ _ _ _ (by simp[maxLen]),Rd.nil _ _ _ _ _ (by simp[maxLen])⟩,b⟩
 ·obtain rfl:=j (by omega)
  obtain rfl:=l (by omega);obtain rfl:=n (by rcases a with rfl|rfl|rfl<;>rfl);refine(Qt6 g i y f A w d ao cap h c a).mono ?_;rintro e w' ⟨⟨rp,o,rfl,s⟩,b⟩;exact⟨⟨rp,o,none,0,rfl,s,Rd.nil _ _ _ _ _ (by simp[maxLen])⟩,b⟩
 ·obtain rfl:=j (by omega)
  obtain rfl:=l (by omega);obtain rfl:=m (by rcases a with rfl|rfl<;>rfl);refine(Qxh g i z f A w d ao cap h c a).mono ?_;rintro e w' ⟨⟨q,p,rfl,s⟩,b⟩;exact⟨⟨none,0,q,p,rfl,Rd.nil _ _ _ _ _ (by simp[maxLen]),s⟩,b⟩
end Go.Proofs.YtkdpmdfcdgphlaaGreat

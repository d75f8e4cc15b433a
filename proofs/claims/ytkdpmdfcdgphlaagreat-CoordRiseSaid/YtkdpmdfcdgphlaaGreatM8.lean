/- Part of this claim's proof. Conditions: as its theorems say. -/
import Derived.Shelf.SlBodiesG2
import Derived.Test.YtkdpmdfcdgphlaaGreatM7
set_option linter.all false
set_option maxHeartbeats 2000000
set_option maxRecDepth 100000
namespace Go.Proofs.YtkdpmdfcdgphlaaGreat
open Tryz
open Go.RowKit Go.Mem Go.Po
def Wt:Nat->Vw->Vw
 | 0,v=>v
 | n+1,v=>Qx (Qe n) (Wt n v)
theorem Qil(A b m:Nat->Prop)(w:World)(d f:Nat)(l:Int)(v:Vw)(last:Nat)(all:List (List UInt8))(h:Lg A b m w d f l v last all)(n:Nat)(J:n<=1000):
 Calls prog 306 #[.pointer (some ⟨d,0,none⟩),.int .i64 n] w λe w'=>e=.returned (.int .i64 0)/\Lg A b m w' d f l (Wt n v) last all/\Kept b w w':=by
 have H:=Zh h;have G:∀(w:World) a t,(Builtin.max_ a t #[.int .i64 n,.int .i64 0]).run prog w=.ok (.int .i64 n) w:=λw a t=>by rw[run_max_int2];split<;>first|rfl|(congr 2;omega)
 have I:∀(w:World) a t,(Builtin.min_ a t #[.int .i64 n,.int .i64 1000]).run prog w=.ok (.int .i64 n) w:=λw a t=>by rw[run_min_int2];split<;>first|rfl|(congr 2;omega)
 clear h;go_enter func306,ntmps306;go_wp2;go_loopw[5,11] (λ_ i wr=>∃k:Nat,k<=n/\i=.int .i64 k/\Hid (Lg A b m wr d f l (Wt k v) last all)/\Hid (Kept b w wr)) (λ_ i _=>n-(intOf i).toNat)
 case atStart=>exact⟨0,Nat.zero_le _,rfl,H,Zh (Kept.refl _ _)⟩
 case round=>
  obtain⟨k,E,rfl,a,q⟩:=hrel;by_cases F:k<n
  ·obtain⟨⟨T,ao,cap,xs,j,_⟩,g,_,_⟩:=a.l
   have c0:=cell_of_block j 0 _ rfl;have x:=Zh j;have z:¬b d:=λo=>a.apart d o g
   have y:k<=999:=by omega
   clear j g;go_wp2_with fail;go_region_held3 (λw'=>w'.cell? ⟨d,0,none⟩=some (.pointer (some ⟨f,0,none⟩)))
    (first|go_keep|exact C|exact D)
    ((first
      | (go_at_call 174;refine(Wd k y _).mono ?_;rintro e K ⟨rfl,o⟩;have g:=Zh (((Bel.refl wr).drew).trans o);have D:=g.cell c0;clear o)
      | (go_at_call 97;refine(Gz A b _ f l _ (a.d.bel g.o) (Qe k) (Y8 k)).mono ?_;rintro e B ⟨⟨c,rfl⟩,r,o⟩;have s:=Zh r;have p:=Zh o;have C:B.cell? ⟨d,0,none⟩=some (.pointer (some ⟨f,0,none⟩)):=cell_of_block (o.heap z (g.heap x.o)) 0 _ rfl;clear r o)))
   go_wp2;go_roundw
   case rel=>exact⟨k+1,by omega,by go_num,Zh ⟨s.o,(a.l.bel g.o).keep p.o (λk j o=>a.apart k o j) (λk h=>a.d.oa k h) (λ_ _ h=>h) a.l.oa,a.apart⟩,Zh (q.trans ((g.kept b).trans p.o))⟩
   case measure=>simp[intOf];omega
  ·obtain rfl:k=n:=by omega
   go_wp2;go_ret;exact⟨rfl,a,q⟩
def K6:Nat->List UInt8->List (List UInt8)×Nat×Bool×Int
 | 0,_=>([],0,false,0)
 | f+1,b=>if b.length=0 then ([],0,false,0) else match Yr b with
  | .ok what n=>(what::(K6 f (b.drop n)).1,n+(K6 f (b.drop n)).2.1,(K6 f (b.drop n)).2.2)
  | .more=>([],0,true,0)
  | .bad=>([],0,false,3)
def Zo(b:List UInt8):List (List UInt8)×Nat×Bool×Int:=K6 b.length b
theorem Rl{b a:List UInt8}{n:Nat}(h:Yr b=.ok a n):7<=n/\n<=b.length/\a.length+6=n/\a.length<=4000:=by
 simp only[Yr]at h;split at h
 ·cases h
 ·split at h
  ·cases h
  ·split at h
   ·cases h
   ·split at h
    ·injection h with c h2
     rw[<-c,List.length_take,List.length_drop];omega
    ·cases h
theorem Qbi:∀(f g:Nat) (b:List UInt8),b.length<=f->b.length<=g->K6 f b=K6 g b
 | 0,0,_,_,_=>rfl
 | 0,g+1,b,h,_=>by simp only[K6,if_pos (show b.length=0 by omega)]
 | f+1,0,b,_,h=>by simp only[K6,if_pos (show b.length=0 by omega)]
 | f+1,g+1,b,h1,h2=>by
  simp only[K6];split
  ·rfl
  ·rcases a:Yr b with⟨e,n⟩|_|_
   ·obtain⟨c,d,_⟩:=Rl a
    have:=Qbi f g (b.drop n) (by rw[List.length_drop];omega) (by rw[List.length_drop];omega);simp only[this]
   ·rfl
   ·rfl
theorem Uv:Zo []=([],0,false,0):=rfl
theorem Sz{b a:List UInt8}{n:Nat}(h:Yr b=.ok a n):Zo b=(a::(Zo (b.drop n)).1,n+(Zo (b.drop n)).2.1,(Zo (b.drop n)).2.2):=by
 obtain⟨e,f,_⟩:=Rl h;obtain⟨m,d⟩:∃m,b.length=m+1:=⟨b.length-1,by omega⟩;have c:=Qbi m (b.drop n).length (b.drop n) (by rw[List.length_drop];omega) (Nat.le_refl _);rw[Zo,d,K6,if_neg (by omega),h];simp only[c];rfl
theorem Qbj{b:List UInt8}(a:b.length≠0)(h:Yr b=.more):Zo b=([],0,true,0):=by
 obtain⟨m,c⟩:∃m,b.length=m+1:=⟨b.length-1,by omega⟩;rw[Zo,c,K6,if_neg a,h]
theorem Qm8{b:List UInt8}(a:b.length≠0)(h:Yr b=.bad):Zo b=([],0,false,3):=by
 obtain⟨m,c⟩:∃m,b.length=m+1:=⟨b.length-1,by omega⟩;rw[Zo,c,K6,if_neg a,h]
theorem Qul{A i:Nat->Prop}{w w8 b:World}{a q last:Nat}{all:List (List UInt8)}{bs:List UInt8}{T:TypeId}{g d l:Option Addr}{f c j:Nat}{C:List Value}
 (s:Kt A i w a q last all) (h:∀k,A k->k<w.heap.size) (I:Ch (Yg.R A w) 1 all C) (E:∀k,Qc g f k->i k) (D:¬Qc g f a)
 (o:Bel w w8) (K:Rd Ql A w8 l j bs) (L:Kept (Qc g f) (w8.alloc (.cells #[.slice l bs.length j] 179)) b) (G:Sl b 179 1 d (all.length+1) c (C++[.slice l bs.length j])) (B:∀k,Qc d c k->Qc g f k\/k=(w8.alloc (.cells #[.slice l bs.length j] 179)).heap.size)
 (r:b.heap[a]?=some (.cells #[.pointer (some ⟨q,0,none⟩),.int .i64 last,.slice g all.length f] T (0,0))):
 ∃Ol',Kt (λk=>A k\/Ol' k) Ol' (b.setCell ⟨a,2,none⟩ (.slice d (all.length+1) c)) a q last (all++[bs])/\Kept i w (b.setCell ⟨a,2,none⟩ (.slice d (all.length+1) c))/\∀k,Ol' k->i k\/w.heap.size<=k:=by
 have y:Kept (λk=>k=a) b (b.setCell ⟨a,2,none⟩ (.slice d (all.length+1) c)):=(Kept.refl (λk=>k=a) b).setCell (p:=⟨a,2,none⟩) rfl _;have F:Kept (Qc g f) w8 b:=(((Bel.refl w8).alloc _).kept _).trans L;have N:=o.size;have O:=F.size;have M:(w8.alloc (.cells #[.slice l bs.length j] 179)).heap.size=w8.heap.size+1:=by simp
 have n:=s.ol;have m:=s.oa;have x:=s.lt;have z:Kept (λk=>k=a\/Qc g f k) w8 (b.setCell ⟨a,2,none⟩ (.slice d (all.length+1) c)):=(F.mono λ_ _ h=>.inr h).trans (y.mono λ_ _ h=>.inl h);have t:∀k,(k=a\/Qc g f k)->i k:=λk h=>h.elim (λh=>by rw[h];exact n) (E k)
 have v:∀k,Qc d c k->i k\/w8.heap.size+1=k:=λk h=>(B k h).imp (E k) λh=>by rw[h,M]
 have J:∀k,Qc d c k->k<b.heap.size:=λk h=>G.owns h
 refine⟨λk=>i k\/Qc d c k,⟨⟨T,d,c,C++[.slice l bs.length j],?_,?_,?_,?_,λk h=>.inr h⟩,.inl n,λk h=>?_,λk h=>.inr h⟩,?_,λk h=>?_⟩
 ·rw[Go.Mem.heap_setCell_same b a 2 _ _ T (0,0) r];simp
 ·refine Ch.append (I.mono λ_ _ _ h=>?_) (Ch.one ⟨l,j,rfl,?_⟩ rfl)
  ·refine Yg.keep h ((o.kept _).trans z) (λk h=>m k (t k h)) λk H r=>?_
   rcases r with h|h|h
   ·exact h
   ·exact m k h
   ·exact(v k h).elim (m k) λh=>by omega
  ·refine K.keep z (λk h=>m k (t k h)) λk H r=>?_
   rcases r with h|h|h
   ·exact h
   ·exact m k h
   ·exact(v k h).elim (m k) λh=>by omega
 ·rw[List.length_append]
  exact G.kept y λk h e=>by
   rcases B k h with h|h
   ·exact D (e▸h)
   ·have:=x a n;have r:k=a:=e;omega
 ·intro h
  rcases B _ h with h|h
  ·exact D h
  ·have:=x a n;omega
 ·refine Nat.lt_of_lt_of_le ?_ y.size
  rcases h with h|h
  ·have:=x k h;omega
  ·exact J k h
 ·exact(o.kept _).trans (z.mono λk _ h=>t k h)
 ·rcases h with h|h
  ·exact .inl h
  ·exact(v k h).imp id λh=>by omega
theorem Qpz(A o:Nat->Prop)(w:World)(f:∀k,A k->k<w.heap.size)(y F last:Nat)(all:List (List UInt8))(h:Kt A o w y F last all)(N:Option Addr)(s:Nat)(b:List UInt8)(d:Rd Ql A w N s b)(aw:b.length<=1048576)(av:all.length+b.length<=1000000000):
 Calls prog 175 #[.pointer (some ⟨y,0,none⟩),.slice N b.length s] w λe w'=>e=.returned (.tuple #[.int .i64 (Zo b).2.1,.bool (Zo b).2.2.1,.int .i64 (Zo b).2.2.2])/\∃Ol',Kt (λk=>A k\/Ol' k) Ol' w' y F last (all++(Zo b).1)/\Kept o w w'/\∀k,Ol' k->o k\/w.heap.size<=k:=by
 obtain⟨H,C,L⟩:=Zh3 h f d;obtain⟨m,c⟩:=Zx b.length;rw[<-c]at aw av ⊢;have z:=Zh c;have ay:=d.le;rw[<-c]at ay;clear h f d c;go_enter func175,ntmps175;go_wp2;go_loopw[7,8,9,10] (λa _ _ _ wr=>∃(k:Nat) (done:List (List UInt8)) (Ol':Nat->Prop),k<=m/\a=.int .i64 k/\Hid (Zo b=(done++(Zo (b.drop k)).1,k+(Zo (b.drop k)).2.1,(Zo (b.drop k)).2.2)/\done.length<=k)/\Hid (Kt (λk=>A k\/Ol' k) Ol' wr y F last (all++done))/\Hid (Kept o w wr)/\Hid (∀k,Ol' k->o k\/w.heap.size<=k)) (λa _ _ _ _=>m-(intOf a).toNat)
 case atStart=>exact⟨0,[],o,Nat.zero_le _,rfl,Zh ⟨by simp,Nat.le_refl _⟩,Zh (by rw[List.append_nil];exact H.keep (Kept.refl (λ_=>False) w) (λ_ _ h=>h) (λ_ h=>h.elim) (λk _ h=>h.elim id (H.oa k)) (λk h=>.inr h)),Zh (Kept.refl _ _),Zh λk h=>.inl h⟩
 case round=>
  obtain⟨k,done,Ol',ax,rfl,t,q,g,v⟩:=hrel;by_cases aK:k<m
  ·obtain⟨aP,l⟩:∃x,b[0]?=some x:=⟨b[0]'(by have:=z.o;omega),by simp⟩
   obtain⟨G,off,rfl,aJ,_⟩:=Wm L.o l;have c:adv (some ⟨G,off,none⟩) s k 1=some ⟨G,off+k,none⟩:=by rw[adv,if_neg (by omega)];simp[Addr.add]
   have a9:=λw=>Ti (some ⟨G,off,none⟩) m s k ax w
   rw[c]at a9;have i:=(L.keep g.o H.oa λ_ _ h=>h).drop (k:=k) (by have:=z.o;omega);rw[show Ql.size=1 from rfl,c]at i;have d:(b.drop k).length=m-k:=by rw[List.length_drop,z.o]
   have f:=Qov A wr (λj h=>Nat.lt_of_lt_of_le (C j h) g.size) _ _ _ i;rw[d]at f;have aF:(0:Int)<=(k:Int):=by omega
   have aG:(k:Int)<=(m:Int):=by omega
   have aH:(k:Int)<=(s:Int):=by omega
   have E:=Zh d;clear l c i d;rcases d:Yr (b.drop k)with⟨K,n⟩|_|_
   ·rw[d]at f
    obtain⟨aL,aB,aM,aN⟩:=Rl d;have r:=Zh (Sz d);rw[E.o]at aB;clear d;go_wp2_with fail;refine f.mono ?_;rintro e p ⟨⟨aq,ap,rfl,U⟩,c⟩;obtain⟨⟨aE,ac,ab,aC,I,P,W,T,V⟩,a8,S,az⟩:=q.o;have J:∀j,A j\/Ol' j->j<wr.heap.size:=λj h=>h.elim (λh=>Nat.lt_of_lt_of_le (C.o j h) g.size) (S j)
    have Q:=Qef U J;have i:=Zh c;have O:=c.cell (cell_of_block I 2 _ rfl);have ar:∀l,(p.alloc l).cell? ⟨y,2,none⟩=some (.slice ac (all++done).length ab):=λl=>((Bel.refl p).alloc l).cell O
    obtain⟨af,ad,ae,aj,M,ai⟩:=Zh6 Q I P (W.kept (c.kept λ_=>False) λ_ _ h=>h) T V;have aI:=t.2;have au:(all++done).length<=1000000000:=by rw[List.length_append];omega
    obtain⟨ao,l⟩:=Zx ((all++done).length);rw[<-l]at O ar au;have D:=Zh l;obtain⟨aA,aD,R,X,Y,Z,aa⟩:=(Qee).hi;obtain⟨ah,ak,al,am,an⟩:=Zh5 R X Y Z aa;clear U c f I P W T V a8 S az J Q l R X Y Z aa;go_wp2_with(at_builtin;go_must (refine Vf _ rfl _ _ 187 187 rfl 179 aA aD 1 24 underlying187 ah.o ak.o al.o am.o an.o ac ao ab aC (by rw[D.o];exact aj.kept ((Kept.refl (λ_=>False) p).alloc _) (λ_ _ h=>h)) rfl _ rfl 1 [.slice aq K.length ap] (Rt p underlying187 _ rfl _) (by simp only[maxLen];omega) (by omega) ?_);intro a8 az aO J I P;have l:=I.heap M.o (((Bel.refl p).alloc _).heap (i.heap ad.o));have Y:=cell_of_block l 2 _ rfl;have Z:=Qa l 2;have T:=Zh l;have X:=Zh J;have R:=Zh I;have S:=Zh P;clear J I P l);have aa:IntKind.i64.wrap ((k:Int)+(n:Int))=((k+n:Nat):Int):=by rw[IntKind.wrap_i64];omega
    go_wp2;obtain⟨l,I,J,P⟩:=Qul q.o (λj h=>h.elim (λh=>Nat.lt_of_lt_of_le (C.o j h) g.size) (q.lt j)) ae.o ai.o M.o i.o af.o R.o (by rw[<-D.o];exact X.o) S.o T.o;rw[<-D.o]at I J;obtain⟨U,V,W⟩:=Zh3 (I.keep (B:=λj=>A j\/l j) (Kept.refl (λ_=>False) _) (λ_ _ h=>h) (λ_ h=>h.elim) (λj _ h=>h.elim (λh=>.inl (.inl h)) .inr) (λj h=>.inr h)) (g.onto J λj h=>v.o j h) (show ∀j,l j->o j\/w.heap.size<=j fromλj h=>(P j h).elim (v.o j) λh=>.inr (Nat.le_trans g.size h));have Q:Hid (Zo b=(done++[K]++(Zo (b.drop (k+n))).1,k+n+(Zo (b.drop (k+n))).2.1,(Zo (b.drop (k+n))).2.2)):=Zh (by
     rw[t.1,r.o,List.drop_drop];simp[Nat.add_assoc])
    clear I J P;go_roundw
    case rel=>exact⟨k+n,done++[K],l,by omega,by go_num,Zh ⟨Q.o,by simp;omega⟩,Zh (by rw[<-List.append_assoc];exact U.o),V,W⟩
    case measure=>simp[intOf];omega
   ·rw[d]at f
    have r:=Zh (Qbj (by rw[E.o];omega) d);clear d;go_wp2_with fail;refine f.zR λp c=>?_
    have i:=Zh c;clear c f;go_wp2;go_ret3
    have l:=t.1;rw[r.o]at l;rw[l];exact⟨by simp,Ol',by simpa using q.bel i.o,g.trans (i.kept _),v.o⟩
   ·rw[d]at f
    have r:=Zh (Qm8 (by rw[E.o];omega) d);clear d;go_wp2_with fail;refine f.zR λp c=>?_
    have i:=Zh c;clear c f;go_wp2;go_ret3
    have l:=t.1;rw[r.o]at l;rw[l];exact⟨by simp,Ol',by simpa using q.bel i.o,g.trans (i.kept _),v.o⟩
  ·obtain rfl:k=m:=by omega
   go_wp2;go_ret3
   have l:=t.1;rw[show b.drop k=[] from List.drop_eq_nil_of_le (by have:=z.o;omega),Uv]at l;rw[l];exact⟨by simp,Ol',by simpa using q.o,g.o,v.o⟩
def Xv:ByteArray:=⟨#[110,101,119]⟩
theorem Uw(n:Nat):Xv≠Qe n:=λh=>by
 have a:=congrArg ByteArray.size h;exact absurd a (by show ¬(3=6);omega)
def Le(n:Nat)(bs:List UInt8)(v:Vw):Vw:=moved Xv (Qe n) ⟨bs,bs.length,true⟩ (Zg Xv (Jh Xv ⟨bs,0,false⟩ v))
theorem Tw{α:Type}(k:ByteArray)(x:α)(l:List (ByteArray×α)):Qg k (Jh k x l)=some x:=by
 have h:∀l:List (ByteArray×α),(∀y∈l,y.1≠k)->Qg k (Yz k x l)=some x:=by
  intro l b;induction l with
  | nil=>simp[Yz,Qg]
  | cons y r ih=>
   simp only[Yz];split
   ·simp[Qg]
   ·have a:=b y (by simp)
    have:=ih λz c=>b z (by simp[c])
    simpa[Qg,List.find?_cons,a] using this
 exact h _ λy a=>(Vz.1 a).2
theorem Nb{α:Type}(k:ByteArray)(g:α->α)(l:List (ByteArray×α)):Qg k (X6 k g l)=(Qg k l).map g:=by
 induction l with
 | nil=>rfl
 | cons y r ih=>
  by_cases a:y.1=k
  ·simp[Qg,X6,List.find?_cons,a]
  ·have b:X6 k g (y::r)=y::X6 k g r:=by rw[X6,List.map_cons,if_neg a];rfl
   rw[b];simpa[Qg,List.find?_cons,a] using ih
theorem Qu5(A i j:Nat->Prop)(w:World)(l:∀k,A k->k<w.heap.size)(a c:Nat)(g:Int)(v:Vw)(last:Nat)(all:List (List UInt8))(h:Lg A i j w a c g v last all)(n:Nat)(y:n<=999)
 (r:Option Addr) (q:Nat) (bs:List UInt8) (m:Rd Ql A w r q bs) (t:(used v:Int)+bs.length<=g) (o:v.length<100000) (s:Qg Xv v=none):
 Calls prog 176 #[.pointer (some ⟨a,0,none⟩),.int .i64 n,.slice r bs.length q] w λe w'=>e=.returned (.int .i64 0)/\∃Od',Lg (λk=>A k\/Od' k) Od' j w' a c g (Le n bs v) last all/\Kept i w w'/\∀k,Od' k->i k\/w.heap.size<=k:=by
 have H:=Zh h;obtain⟨⟨T,ao,cap,xs,b,_⟩,f,p,x⟩:=h.l;have c0:=cell_of_block b 0 _ rfl;have F:=Zh b;have U:=p a f;have z:¬i a:=λd=>h.apart a d f
 obtain⟨N,K⟩:=Zh2 (G5 A i w l c g v h.d Xv rfl (by show 3<=maxLen;simp[maxLen]) r q bs m t o) s;clear h l b m t o s f p x;go_enter func176,ntmps176;go_wp2_with fail;refine N.mono ?_;rintro e o ⟨rfl,f,l,s,t⟩;have B:¬f a:=λd=>(t a d).elim z λh=>by omega
 have d:=s.heap z F;have Q:=cell_of_block d 0 _ rfl;have x:Xi Xv bs v=Jh Xv ⟨bs,0,false⟩ v:=by rw[Xi,K.o]
 rw[x]at l;obtain⟨C,p,m,G⟩:=Zh4 l s t d;clear l s t d x;go_wp2_with fail;have s:=Qck _ f o c g _ C.o Xv (by show 3<=maxLen;simp[maxLen]);rw[Tw]at s;refine s.mono ?_;rintro e P ⟨rfl,t,l⟩;have d:=l.heap B G;have e0:=cell_of_block d 0 _ rfl;obtain⟨D,L,I⟩:=Zh3 t l d;have J:Hid (Qg Xv (Zg Xv (Jh Xv ⟨bs,0,false⟩ v))=some (synced ⟨bs,0,false⟩)):=Zh (by rw[Zg,Nb,Tw];rfl);clear s t l d;go_wp2_with fail;go_region_held3 (λw'=>w'.cell? ⟨a,0,none⟩=some (.pointer (some ⟨c,0,none⟩)))
  (first|go_keep|exact t|exact O)
  ((first
    | (go_at_call 174;refine(Wd n y _).mono ?_;rintro e R ⟨rfl,d⟩;have l:=Zh (((Bel.refl P).drew).trans d);have O:=l.cell e0;clear d)
    | (go_at_call 262;refine(Qbd _ f _ c g _ (D.bel l.o) Xv (Qe n) (by show 3<=maxLen;simp[maxLen]) (Y8 n) (M3 n y) (Uw n) _ J.o).mono ?_;rintro e x ⟨rfl,s,d⟩;have E:=Zh s;have M:=Zh d;have t:x.cell? ⟨a,0,none⟩=some (.pointer (some ⟨c,0,none⟩)):=cell_of_block (d.heap B (l.heap I.o)) 0 _ rfl;clear s d)))
 go_wp2;go_ret;have t:Kept f o x:=L.trans ((l.kept _).trans M.o);have S:Kt A j o a c last all:=H.l.keep p.o (λk b d=>H.apart k d b) (λk h=>H.d.oa k h) (λ_ _ h=>h) H.l.oa;have s:∀k,f k->¬j k:=λk b d=>(m.o k b).elim (λh=>H.apart k h d) λh=>by have:=H.l.lt k d;omega
 have O:Kt (λk=>A k\/f k) j o a c last all:=H.l.keep p.o (λk b d=>H.apart k d b) (λk h=>H.d.oa k h) (λk R h=>h.elim id λh=>(m.o k h).elim (H.d.oa k) λh=>by omega) (λk h=>.inl (H.l.oa k h));refine⟨rfl,f,⟨E,O.keep t (λk b d=>s k d b) (λk h=>.inr h) (λ_ _ h=>h) (λk h=>.inl (H.l.oa k h)),s⟩,p.onto t λk h=>m k h,m⟩
def Qbv(v:Vw)(frm last:Nat):Prop:=frm<=last/\last<=999/\(∀j,last<j->j<=999->Qg (Qe j) v=none)/\(frm<last->(Qg (Qe last) v).isSome=true)
theorem Qbv.uniq{v:Vw}{frm a b:Nat}(h:Qbv v frm a)(k:Qbv v frm b):a=b:=by
 obtain⟨i,d,e,f⟩:=h;obtain⟨k1,k2,k3,g⟩:=k;rcases Nat.lt_trichotomy a b with c|c|c
 ·have:=g (by omega)
  rw[e b c k2]at this;cases this
 ·exact c
 ·have:=f (by omega)
  rw[k3 a c d]at this;cases this
theorem Qld{α:Type}(k:ByteArray)(l:List (ByteArray×α)):Qg k (Qx k l)=none:=by
 unfold Qg;rw[Option.map_eq_none_iff,List.find?_eq_none];intro x a;simpa using (Vz.1 a).2
def Vv(v:Vw)(frm:Nat):Nat->List (List UInt8)
 | 0=>[]
 | n+1=>Vv v frm n++(Zo (Xx (Qe (frm+n)) v)).1
def Je(v:Vw)(last:Nat):Vw:=
 if (Zo (Xx (Qe last) v)).2.2.1=true then Le last ((Xx (Qe last) v).take (Zo (Xx (Qe last) v)).2.1) v else v
theorem Qfm:∀(f:Nat) (b:List UInt8),(K6 f b).2.1<=b.length
 | 0,_=>Nat.zero_le _
 | f+1,b=>by
  simp only[K6];split
  ·exact Nat.zero_le _
  ·rcases a:Yr b with⟨e,n⟩|_|_
   ·obtain⟨c,d,_⟩:=Rl a
    have:=Qfm f (b.drop n);rw[List.length_drop]at this;show n+_<=_;omega
   ·exact Nat.zero_le _
   ·exact Nat.zero_le _
theorem Qa1:∀(f:Nat) (b:List UInt8),7*(K6 f b).1.length<=b.length
 | 0,_=>Nat.zero_le _
 | f+1,b=>by
  simp only[K6];split
  ·exact Nat.zero_le _
  ·rcases a:Yr b with⟨e,n⟩|_|_
   ·obtain⟨c,d,_⟩:=Rl a
    have:=Qa1 f (b.drop n);rw[List.length_drop]at this;show 7*List.length (_::_)<=_;rw[List.length_cons];omega
   ·exact Nat.zero_le _
   ·exact Nat.zero_le _
theorem Qle{s:ByteArray}{f:File}:∀{v:Vw},Qg s v=some f->f.b.length<=used v
 | [],h=>by simp[Qg]at h
 | x::v,h=>by
  by_cases a:x.1=s
  ·have:x.2=f:=by simpa[Qg,List.find?_cons,a] using h
   subst this;simp only[used,List.map_cons,List.sum_cons];omega
  ·have b:Qg s v=some f:=by simpa[Qg,List.find?_cons,a] using h
   have:=Qle b;simp only[used,List.map_cons,List.sum_cons]at this ⊢;omega
theorem Tz(s:ByteArray)(v:Vw):(Xx s v).length<=used v:=by
 unfold Xx;rcases h:Qg s v with _|f
 ·simp
 ·simpa using Qle h
theorem Qhw{v:Vw}(h:used v<=1048576)(frm:Nat):∀n,7*(Vv v frm n).length<=n*1048576
 | 0=>by simp[Vv]
 | n+1=>by
  have a:=Qhw h frm n;have b:=Qa1 (Xx (Qe (frm+n)) v).length (Xx (Qe (frm+n)) v);have c:=Tz (Qe (frm+n)) v;simp only[Vv,List.length_append,Zo];omega
theorem Qaa(s:ByteArray)(v:Vw):used (Qx s v)<=used v:=Qd4 List.filter_sublist
theorem Lg.mono{A B a b:Nat->Prop}{w:World}{d c:Nat}{e:Int}{v:Vw}{last:Nat}{all:List (List UInt8)}(h:Lg A a b w d c e v last all)(f:∀k,k<w.heap.size->B k->A k)(g:∀k,a k\/b k->B k):Lg B a b w d c e v last all:=
 h.keep (Kept.refl (λ_=>False) w) (λ_ _ h=>h) (λ_ h=>h.elim) f g
theorem Qdf(A d:Nat->Prop)(w:World)(i:∀k,A k->k<w.heap.size)(g:Nat)(n:Int)(v:Vw)(h:Dk A d w g n v)(frm:Nat)(ac:frm<=999)(last:Nat)(l:Qbv (Qx Xv v) frm last)
 (p:∀j,frm<=j->j<last->(Zo (Xx (Qe j) (Qx Xv v))).2.2=(false,0)) (q:(Zo (Xx (Qe last) (Qx Xv v))).2.2.2=0)
 (r:(used v:Int)+used v<=n) (o:v.length<100000):
 Calls prog 101 #[.pointer (some ⟨g,0,none⟩),.int .i64 frm] w λe w'=>∃s Od' b,e=.returned (.tuple #[.pointer (some ⟨s,0,none⟩),.int .i64 0])/\Lg (λk=>A k\/Od' k\/b k) Od' b w' s g n (Je (Qx Xv v) last) last (Vv (Qx Xv v) frm (last+1-frm))/\Kept d w w'/\(∀k,Od' k->d k\/w.heap.size<=k)/\∀k,b k->w.heap.size<=k:=by
 obtain⟨ah,P,H,ak,al,an,aj⟩:=Zh7 h i l p q r o;clear h i l p q r o;go_enter func101,ntmps101;go_wp2_with fail;refine(Wd frm ac _).zR λb b=>?_
 have F:=Zh b;have aJ:(Qe frm).toList.isEmpty=false:=by rw[Go.ByteArray.toList_eq];rfl
 clear b;go_wp2_with fail;refine(Gz A d _ g n v (ah.bel F.o) Xv (by show 3<=maxLen;simp[maxLen])).mono ?_;rintro e b ⟨⟨c,rfl⟩,i,z⟩;obtain⟨G,Q⟩:=Zh2 i z;clear i z;go_upto_block 1 with (fail);go_cut[7,8,9] (λ_ _ _ i=>Hid (i.heap[b.heap.size]?=some (.cells #[.pointer (some ⟨g,0,none⟩),.int .i64 last,.slice none 0 0] 245 (0,0)))/\Hid (Bel b i))
 case first=>
  go_wp2;go_loopw[7,8,9] (λa _ _ wr=>∃k:Nat,frm<=k/\k<=999/\a=.int .i64 k/\Hid (∀j,k<j->j<=999->Qg (Qe j) (Qx Xv v)=none)/\Hid (wr.heap[b.heap.size]?=some (.cells #[.pointer (some ⟨g,0,none⟩),.int .i64 frm,.slice none 0 0] 245 (0,0)))/\Hid (Bel b wr)) (λa _ _ _=>(intOf a).toNat)
  case atStart=>exact⟨999,ac,Nat.le_refl _,rfl,Zh λj l y=>by omega,Zh (heap_alloc_new b _),Zh ((Bel.refl b).alloc _)⟩
  case round=>
   obtain⟨k,V,z,rfl,I,o,p⟩:=hrel;by_cases L:frm<k
   ·have a8:(k:Int)>(frm:Int):=by omega
    go_wp2_with fail;refine(Wd k z _).zR λM i=>?_
    obtain⟨t,J⟩:=Zh2 (p.trans i) (i.heap o.o);clear i;go_wp2_with fail;have r:=Qgx A d M (λj h=>Nat.lt_of_lt_of_le (P j h) (Nat.le_trans (F.kept d |>.trans Q).size t.size)) g n _ (G.bel t) (Qe k) (Y8 k);rcases s:Qg (Qe k) (Qx Xv v)with _|f
    ·rw[s]at r
     have x:=Zh s;clear s;refine r.mono ?_;rintro e N ⟨⟨E,D,rfl,-⟩,i⟩;obtain⟨q,C⟩:=Zh2 (t.trans i) (i.heap J.o);clear r i;have aA:IntKind.i64.wrap ((k:Int)-1)=((k-1:Nat):Int):=by rw[IntKind.wrap_i64];omega
     go_wp2;go_roundw
     case rel=>exact⟨k-1,by omega,by omega,by go_num,Zh (λj l y=>by
      rcases Nat.lt_or_ge k j with h|h
      ·exact I j h y
      ·obtain rfl:j=k:=by omega
       exact x),C,q⟩
     case measure=>simp[intOf];omega
    ·rw[s]at r
     have x:=Zh s;clear s;refine r.mono ?_;rintro e N ⟨⟨E,D,rfl,-⟩,i⟩;have q:=Zh (t.trans i);have s:=i.heap J;have c1:=cell_of_block s 1 _ rfl;have K:=Qa s 1;have C:=Zh s;clear r i s;go_wp2;go_meet;obtain rfl:k=last:=Qbv.uniq (v:=Qx Xv v) (frm:=frm) ⟨V,z,I.o,λ_=>by rw[x.o];rfl⟩ H.o;refine⟨Zh ?_,Zh (q.setCell (Nat.le_refl _) _)⟩;rw[Go.Mem.heap_setCell_same N b.heap.size 1 _ _ _ (0,0) C.o];simp
   ·obtain rfl:k=frm:=by omega
    go_wp2;go_meet;obtain rfl:k=last:=Qbv.uniq (v:=Qx Xv v) (frm:=k) ⟨Nat.le_refl _,z,I.o,λh=>by omega⟩ H.o;exact⟨o,p⟩
 case rest=>
  obtain⟨o,p⟩:=hcut;have aG:=H.1;have aH:=H.2.1;have s:Lg (λk=>A k\/d k\/k=b.heap.size) d (λk=>k=b.heap.size) wc b.heap.size g n (Qx Xv v) last []:=by
   refine⟨(G.keep (p.kept λ_=>False) (λ_ _ h=>h) (λ_ h=>h.elim) (λk x h=>h.elim id λh=>h.elim (G.oa k) λh=>by omega) (λk h=>.inr (.inl h))),⟨⟨_,none,0,[],o.o,.nil,Sl.nil _ _ _,λh=>absurd h.1 (by omega),λk h=>absurd h.1 (by omega)⟩,rfl,λk h=>?_,λk h=>.inr (.inr h)⟩,λk l y=>?_⟩
   ·subst h;exact Qb o.o
   ·have:=G.lt k l;omega
  have ap:=Zh s;have ao:Hid (Kept d w wc):=Zh (((F.kept d).trans Q.o).trans (p.kept d));have aw:Hid (w.heap.size<=b.heap.size):=Zh (Nat.le_trans F.size Q.size);clear s o p;go_wp2;go_loopw[10,11,12,13,14,15,16] (λa _ _ _ _ _ _ wr=>∃(k:Nat) (Od' Ol':Nat->Prop),frm<=k/\k<=last+1/\a=.int .i64 k/\Hid (Lg (λj=>A j\/Od' j\/Ol' j) Od' Ol' wr b.heap.size g n (if k=last+1 then Je (Qx Xv v) last else Qx Xv v) last (Vv (Qx Xv v) frm (k-frm)))/\Hid (Kept d w wr)/\Hid (∀j,Od' j->d j\/w.heap.size<=j)/\Hid (∀j,Ol' j->w.heap.size<=j)) (λa _ _ _ _ _ _ _=>last+1-(intOf a).toNat)
  case atStart=>exact⟨frm,d,_,Nat.le_refl _,by omega,rfl,Zh (by rw[if_neg (by omega),Nat.sub_self];exact ap.o),ao,Zh λj h=>.inl h,Zh λj h=>by rw[h];exact aw.o⟩
  case round=>
   obtain⟨k,Od',Ol',V,z,rfl,o,J,L,U⟩:=hrel;obtain⟨⟨aB,aM,aK,aP,i,-⟩,-,-,-⟩:=o.l;have c1:=cell_of_block i 1 _ rfl;clear i;by_cases aF:k<=last
   ·have a8:(k:Int)<=(last:Int):=by omega
    have p:Hid (Lg (λj=>A j\/Od' j\/Ol' j) Od' Ol' wr b.heap.size g n (Qx Xv v) last (Vv (Qx Xv v) frm (k-frm))):=Zh (by
     have:=o.o;rwa [if_neg (by omega)]at this)
    have Y:Hid (∀j,(A j\/Od' j\/Ol' j)->j<wr.heap.size):=Zh λj h=>h.elim (λh=>Nat.lt_of_lt_of_le (P.o j h) J.size) λh=>h.elim (p.d.lt j) (p.l.lt j)
    clear o;obtain⟨s,K⟩:=Zx (Xx (Qe k) (Qx Xv v));obtain⟨m,I⟩:=Zx s.length;have a9:m<=1048576:=by rw[I,K];exact Nat.le_trans (Tz _ _) p.d.small
    have aI:(m:Int)<=used v:=by rw[I,K];have:=Tz (Qe k) (Qx Xv v);have:=Qaa Xv v;omega
    obtain⟨C,x⟩:=Zh2 K I;clear K I;have I:(Zo s).2.2.2=0/\((Zo s).2.2.1=true->k=last):=by
     rcases Nat.lt_or_ge k last with h|h
     ·have:=ak.o k V h
      rw[<-C.o]at this;rw[this];simp
     ·obtain rfl:k=last:=by omega
      have:=al.o;rw[<-C.o]at this;exact⟨this,λ_=>rfl⟩
    have Z:=Zh I;clear I;go_wp2_with fail;refine(Wd k (by omega) _).zR λM I=>?_
    have t:=Zh I;clear I;go_wp2_with fail;have r:=Qgx _ Od' M (λj h=>Nat.lt_of_lt_of_le (Y j h) t.size) g n _ (p.d.bel t) (Qe k) (Y8 k);rw[<-C.o,<-x.o]at r;refine r.mono ?_;rintro e N ⟨⟨E,D,rfl,I⟩,i⟩;obtain⟨q,S⟩:=Zh2 (t.trans i) I;clear r i I;go_wp2_with fail;have r:=Qpz _ Ol' N (λj h=>Nat.lt_of_lt_of_le (Y.o j h) q.size) b.heap.size g last _ (p.l.bel q.o) E D s S.o (by rw[<-x.o];exact a9) (by
     have l:=Qhw p.d.small frm (k-frm);rw[<-x.o];omega)
    rw[<-x.o]at r;refine r.mono ?_;rintro e O ⟨rfl,i,ae,M,T⟩;obtain⟨aq,R,I⟩:=Zh3 ae M T;obtain⟨⟨aC,aN,aL,aQ,K,-⟩,-,-,-⟩:=ae;have aD:=cell_of_block K 1 _ rfl;clear r M T K;rw[Z.1];obtain⟨r,M⟩:=Zx ((Zo s).2.1);have az:r<=m:=by rw[M,x.o];exact Qfm _ _
    rw[<-M];have ai:=Zh M;have ay:Hid (Vv (Qx Xv v) frm (k+1-frm)=Vv (Qx Xv v) frm (k-frm)++(Zo s).1):=Zh (by
     rw[show k+1-frm=(k-frm)+1 by omega,Vv,show frm+(k-frm)=k by omega,<-C.o])
    have aa:Hid (Dk (λj=>A j\/Od' j\/i j) Od' O g n (Qx Xv v)):=Zh ((p.d.bel q.o).keep R.o (λj l y=>p.apart j l y) (λj h=>.inr (.inr h)) (λj ad h=>h.elim .inl λh=>h.elim (λh=>.inr (.inl h)) λh=>(I.o j h).elim (λh=>.inr (.inr h)) λh=>by omega) (λj h=>.inr (.inl h)));have ax:Hid (∀j,Od' j->¬i j):=Zh λj l y=>(I.o j y).elim (p.apart j l) λh=>by have:=p.d.lt j l;have:=q.size;omega
    have T:Hid (Lg (λj=>A j\/Od' j\/i j) Od' i O b.heap.size g n (Qx Xv v) last (Vv (Qx Xv v) frm (k+1-frm))):=Zh ⟨aa.o,by
     rw[ay.o];exact aq.keep (Kept.refl (λ_=>False) _) (λ_ _ h=>h) (λ_ h=>h.elim) (λj _ h=>h.elim (λh=>.inl (.inl h)) λh=>h.elim (λh=>.inl (.inr (.inl h))) .inr) (λj h=>.inr (.inr h)),ax⟩
    have K:Hid (Kept d w O):=Zh (((J.trans (q.kept _)).onto R.o λj h=>.inr (U.o j h)));have ab:Hid (∀j,i j->w.heap.size<=j):=Zh λj h=>(I.o j h).elim (U.o j) λh=>by have:=J.size;have:=q.size;omega
    have aA:IntKind.i64.wrap ((k:Int)+1)=((k+1:Nat):Int):=by rw[IntKind.wrap_i64];omega
    clear M;rcases y:(Zo s).2.2.1 with _|_
    ·have M:=Zh y
     clear y;go_wp2;go_roundw
     case rel=>exact⟨k+1,Od',i,by omega,by omega,by go_num,Zh (by
      have l:=T.o;split
      ·obtain rfl:k=last:=by omega
       rw[Je,<-C.o,if_neg (by rw[M.o];simp)];exact l
      ·exact l),K,L,ab⟩
     case measure=>simp[intOf];omega
    ·have M:=Zh y
     obtain rfl:k=last:=Z.2 y;have aE:=λw=>Qbg E m D r (by have:=S.le;rw[<-x.o]at this;omega) w
     have af:=(S.keep (B:=λj=>A j\/Od' j\/i j) R.o (λj h=>p.l.oa j h) (λj ad h=>h.elim .inl λh=>h.elim (λh=>.inr (.inl h)) λh=>(I.o j h).elim (λh=>.inr (.inr h)) λh=>by omega)).take (k:=r) (by rw[<-x.o];exact az);have X:(s.take r).length=r:=by rw[List.length_take,<-x.o];omega
     have W:=Qu5 _ Od' i O (λj h=>h.elim (λh=>Nat.lt_of_lt_of_le (P.o j h) K.size) λh=>h.elim (aa.lt j) (T.l.lt j)) b.heap.size g n _ k _ T.o k (by omega) E D (s.take r) af (by rw[X];have:=Qaa Xv v;have:=an.o;omega) (by have:=aj.o;exact Nat.lt_of_le_of_lt (List.filter_sublist).length_le this) (Qld _ _);rw[X]at W;have am:=Zh W;clear y af X W;go_wp2_with fail;refine am.mono ?_;rintro e aO ⟨rfl,av,W,y,X⟩;obtain⟨ar,af,au⟩:=Zh3 W y X;clear W y X;go_wp2;go_roundw
     case rel=>exact⟨k+1,av,i,by omega,by omega,by go_num,Zh (by
      rw[if_pos rfl,Je,<-C.o,if_pos M.o,<-ai.o];exact ar.mono (λj ad h=>h.elim (λh=>.inl (.inl h)) λh=>h.elim .inr λh=>.inl (.inr (.inr h))) (λj h=>.inr h)),Zh (K.onto af.o λj h=>L.o j h),Zh (λj h=>(au.o j h).elim (L.o j) λh=>.inr (by have:=K.size;omega)),ab⟩
     case measure=>simp[intOf]
   ·obtain rfl:k=last+1:=by omega
    go_wp2;go_ret2;have:=o.o;rw[if_pos trivial]at this;exact⟨_,rfl,Od',Ol',this,J,L,U⟩
end Go.Proofs.YtkdpmdfcdgphlaaGreat
namespace Go.Po
def Jv{α:Type}(f:α->Int)(l:List α):Prop:=∀(i j:Nat) (x y:α),i<j->l[i]?=some x->l[j]?=some y->f x<f y
def Z5{α:Type}(f:α->Int)(t:Int)(l:List α):Nat:=(l.takeWhile λx=>decide (f x<t)).length
def Qt{α:Type}(f:α->Int)(t:Int)(l:List α):Bool:=l.any λx=>f x==t
theorem Qas{α:Type}(p:α->Bool):∀(l:List α) (k:Nat),k<=l.length->(∀j x,j<k->l[j]?=some x->p x=true)->(∀x,l[k]?=some x->p x=false)->(l.takeWhile p).length=k
 | [],k,hk,_,_=>by simp at hk;subst hk;rfl
 | a::l,0,_,_,h2=>by rw[List.takeWhile_cons,h2 a rfl];rfl
 | a::l,k+1,hk,h1,h2=>by
  rw[List.takeWhile_cons,h1 0 a (by omega) rfl];have:=Qas p l k (by simpa using hk) (λj x b b=>h1 (j+1) x (by omega) (by simpa using b)) (λx b=>h2 x (by simpa using b));simpa using this
theorem Qgg{α:Type}{f:α->Int}{t:Int}{l:List α}{k:Nat}(e:k<=l.length)(b:∀j x,j<k->l[j]?=some x->f x<t)(c:∀j x,k<=j->l[j]?=some x->t<=f x):Z5 f t l=k:=
 Qas _ l k e (λj x d a=>by simpa using b j x d a) λx a=>by have:=c k x (Nat.le_refl _) a;simp;omega
theorem Vm{α:Type}(f:α->Int)(t:Int)(l:List α):Z5 f t l<=l.length:=(List.takeWhile_sublist _).length_le
theorem Qw9{α:Type}{f:α->Int}{t:Int}{l:List α}{j:Nat}{x:α}(c:j<Z5 f t l)(g:l[j]?=some x):f x<t:=by
 have a:(l.takeWhile λx=>decide (f x<t))[j]?=l[j]?:=by
  have d:=List.takeWhile_prefix (λx=>decide (f x<t)) (l:=l);obtain⟨m,b⟩:=d;have e:l[j]?=((l.takeWhile λx=>decide (f x<t))++m)[j]?:=by rw[b]
  rw[e,List.getElem?_append_left c]
 have b:=List.mem_of_getElem? (a.trans g);have:=List.all_takeWhile (p:=λx=>decide (f x<t)) (l:=l);rw[List.all_eq_true]at this;simpa using this x b
theorem Qxa{α:Type}{f:α->Int}{t:Int}{l:List α}{k:Nat}(d:∀j x,j<k->l[j]?=some x->f x<t)(g:Jv f l)(e:∀j x,k<=j->l[j]?=some x->t<=f x){x:α}(b:l[k]?=some x):Qt f t l=(f x==t):=by
 rcases c:f x==t with _|_
 ·rw[Qt,List.any_eq_false]
  intro y a;obtain⟨j,i,rfl⟩:=List.getElem_of_mem a;have a:l[j]?=some l[j]:=by simp
  have m:f x≠t:=by simpa using c
  rcases Nat.lt_trichotomy j k with h|h|h
  ·have:=d j _ h a;simp;omega
  ·subst h;rw[b]at a;cases a;simpa using c
  ·have n:=g k j x _ h b a
   have o:=e k x (Nat.le_refl _) b;simp;omega
 ·rw[Qt,List.any_eq_true];exact⟨x,List.mem_of_getElem? b,c⟩
theorem Qtv{α:Type}{f:α->Int}{t:Int}{l:List α}(a:∀j x,j<l.length->l[j]?=some x->f x<t):Qt f t l=false:=by
 rw[Qt,List.any_eq_false];intro y c;obtain⟨j,b,rfl⟩:=List.getElem_of_mem c;have:=a j l[j] b (by simp);simp only[beq_iff_eq];omega
def Ky(a b:Int):Int:=if a<b then -1 else if b<a then 1 else 0
theorem Qxb(a b:Int):(Ky a b==0)=(a==b):=by
 unfold Ky;rcases Int.lt_trichotomy a b with h|h|h
 ·rw[if_pos h,beq_eq_false_iff_ne.2 (show a≠b by omega)];rfl
 ·subst h;simp
 ·rw[if_neg (by omega),if_pos h,beq_eq_false_iff_ne.2 (show a≠b by omega)];rfl
end Go.Po
namespace Go.Proofs.YtkdpmdfcdgphlaaGreat
open Tryz
open Go.RowKit Go.Mem Go.Po Go.Shelf
theorem Cx(a:Int)(w:World):Calls prog 243 #[.int .i64 a] w λe w'=>e=.returned (.bool false)/\w=w':=by
 go_enter func243,ntmps243;go_wp2;go_ret;exact⟨rfl,rfl⟩
theorem Qcj(a b:Int)(w:World):Calls prog 156 #[.int .i64 a,.int .i64 b] w λe w'=>e=.returned (.int .i64 (Ky a b))/\w=w':=by
 by_cases c:a<b
 ·have E:=Zh (show Ky a b=-1 by rw[Ky,if_pos c])
  go_enter func156,ntmps156;go_wp2_with fail;refine(Cx a w).zS ?_;go_wp2_with fail;refine(Cx b w).zS ?_;go_wp2;go_ret;exact⟨by rw[E.o];rfl,rfl⟩
 ·by_cases d:b<a
  ·have E:=Zh (show Ky a b=1 by rw[Ky,if_neg c,if_pos d])
   have f:=d;go_enter func156,ntmps156;go_wp2_with fail;refine(Cx a w).zS ?_;go_wp2_with fail;refine(Cx b w).zS ?_;go_wp2;go_ret;exact⟨by rw[E.o];rfl,rfl⟩
  ·have E:=Zh (show Ky a b=0 by rw[Ky,if_neg c,if_neg d])
   go_enter func156,ntmps156;go_wp2_with fail;refine(Cx a w).zS ?_;go_wp2_with fail;refine(Cx b w).zS ?_;go_wp2;go_ret;exact⟨by rw[E.o];rfl,rfl⟩
theorem Qpm{α:Type}{r:Rp α}{ρ:Ren}(m:ρ.t 3=3)(ae:prog.underlying (ρ.t 22)=some (.slice (ρ.t 24)))(af:prog.underlying (ρ.t 35)=some (.int .u64))(V:Bears prog (ρ.f 14) (SlBodyG2.n14 ρ))(el:Elt prog (ρ.t 24) r true)
 (f:α->Int) (q:Value) (t:Int) (g:Nat) (d:Array Value) (v:Vt g) (A:Nat->Prop) (w:World) (ao:Option Addr) (cap:Nat) (l:List α) (h:Rd r A w ao cap l) (Y:l.length<=1000000) (p:Jv f l)
 (o:∀(x:α) (W:World) (vs:List Value),x∈l->Bel w W->r.R A W x vs->Calls prog g (#[Qbk true vs,q]++d) W λe s=>e=.returned (.int .i64 (Ky (f x) t))/\Bel W s):
 Calls prog (ρ.f 14) #[.slice ao l.length cap,q,.func (.func g) #[] d] w λe w'=>e=.returned (.tuple #[.int .i64 (Z5 f t l:Nat),.bool (Qt f t l)])/\Bel w w':=by
 obtain⟨Q,K,R,P⟩:=Zh4 h p o el;have ah:=el.sz;have Z:=el.ia;have t3:prog.underlying (ρ.t 3)=some (TypeDesc.int IntKind.i64):=by rw[m];exact underlying3
 obtain⟨_,_,T⟩:=V;obtain⟨n,d⟩:=Zx l.length;rw[<-d]at Y ⊢;have C:=Zh d;clear h p d o el m;go_enter T,SlBodyG2.n14_ntmps ρ;go_wp2;go_loopw[9,10,11] (λa b _ wr=>∃i j:Nat,i<=j/\j<=n/\a=.int .i64 i/\b=.int .i64 j/\Hid (∀k x,k<i->l[k]?=some x->f x<t)/\Hid (∀k x,j<=k->l[k]?=some x->t<=f x)/\Hid (Bel w wr)) (λa b _ _=>(intOf b).toNat-(intOf a).toNat)
 case atStart=>exact⟨0,n,Nat.zero_le _,Nat.le_refl _,rfl,rfl,Zh λ_ _ h=>absurd h (Nat.not_lt_zero _),Zh (λk x M d=>absurd (List.getElem?_eq_some_iff.1 d).1 (by have:=C.o;omega)),Zh (Bel.refl _)⟩
 case round=>
  obtain⟨i,j,ab,X,rfl,rfl,I,L,o⟩:=hrel;by_cases ac:i<j
  ·have ad:(i:Int)<(j:Int):=by omega
   have N:(i+j) / 2<l.length:=by have:=C.o;omega
   obtain⟨x,d⟩:∃x,l[(i+j) / 2]?=some x:=⟨l[(i+j) / 2],by simp[N]⟩;obtain⟨U,off,vs,rfl,W,O,p,D⟩:=(Q.bel o.o).at d;have v:=P.ld p D;have q:=R x wr vs (List.mem_of_getElem? d) o p;simp only[if_true,Qbk]at v q;obtain⟨J,G⟩:=Zh2 q d;clear d p D O q;go_wp2_with fail;refine J.mono ?_;have aa:(i:Int)+(j:Int)<9223372036854775807:=by omega
   by_cases s:f x<t
   ·have H:Ky (f x) t=-1:=by rw[Ky,if_pos s]
    rw[H];rintro e S ⟨rfl,m⟩;obtain⟨z,B⟩:=Zh2 (o.trans m) s;have E:IntKind.i64.wrap (((i:Int)+(j:Int)) / 2+1)=((i:Int)+(j:Int)) / 2+1:=by rw[IntKind.wrap_i64];omega
    clear m H s v;go_wp2;go_roundw
    case rel=>exact⟨(i+j) / 2+1,j,by omega,X,by go_num,rfl,Zh (λk y M F=>by
     rcases Nat.lt_or_ge k ((i+j) / 2)with h|h
     ·exact Int.lt_trans (K k _ _ _ h F G) B
     ·obtain rfl:k=(i+j) / 2:=by omega
      have:=G.o;rw[F]at this;cases this;exact B.o),L,z⟩
    case measure=>simp[intOf];omega
   ·have H:(Ky (f x) t<0)=False:=eq_false (by unfold Ky;rw[if_neg s];split<;>omega)
    obtain⟨c,E⟩:=Zx (Ky (f x) t);rw[<-E]at H ⊢;rintro e S ⟨rfl,m⟩;obtain⟨z,B⟩:=Zh2 (o.trans m) s;clear m s E v;go_wp2;go_roundw
    case rel=>exact⟨i,(i+j) / 2,by omega,by omega,rfl,by go_num,I,Zh (λk y M F=>by
     rcases Nat.lt_or_ge ((i+j) / 2) k with h|h
     ·have:=K.o _ k _ _ h G.o F
      have:=B.o;show t<=f y;omega
     ·obtain rfl:k=(i+j) / 2:=by omega
      have:=G.o;rw[F]at this;cases this;have:=B.o;omega),z⟩
    case measure=>simp[intOf];omega
  ·obtain rfl:i=j:=by omega
   have s:Z5 f t l=i:=Qgg (by have:=C.o;omega) I.o L.o;have F:=Zh s;clear s;by_cases H:i<n
   ·have N:i<l.length:=by have:=C.o;omega
    have G:(i:Int)<(n:Int):=by omega
    obtain⟨x,d⟩:∃x,l[i]?=some x:=⟨l[i],by simp[N]⟩;obtain⟨U,off,vs,rfl,W,O,p,D⟩:=(Q.bel o.o).at d;have v:=P.ld p D;have q:=R x wr vs (List.mem_of_getElem? d) o p;simp only[if_true,Qbk]at v q;have J:=Zh q;have s:=Qxa I K L d;have B:=Zh s;clear d s p D O q;go_wp2_with fail;refine J.mono ?_;have p:(Ky (f x) t==0)=(f x==t):=Qxb _ _;obtain⟨c,E⟩:=Zx (Ky (f x) t);rw[<-E]at p ⊢;rintro e S ⟨rfl,m⟩;obtain⟨z,q⟩:=Zh2 (o.trans m) p;clear m E p v;go_wp2;go_ret2;refine⟨?_,z⟩;rw[F.o,B.o,<-q.o];rfl
   ·have s:Qt f t l=false:=Qtv λk x M d=>I.o k x (by have:=C.o;omega) d
    have B:=Zh s;have G:¬(i:Int)<(n:Int):=by omega
    clear s;go_wp2;go_ret2;refine⟨?_,o⟩;rw[F.o,B.o];rfl
def Qpn(a s e k f:Nat):Ren:=⟨fun|14=>a|n=>n,fun|22=>s|24=>e|29=>k|32=>f|35=>340|n=>n,λn=>n⟩
theorem Qic(x:Branch)(a:Option Addr)(b:Nat)(t:Int)(w:World):Calls prog 334 #[.agg #[.int .i64 x.tid,.slice a x.puts.length b],.int .i64 t] w λe w'=>e=.returned (.int .i64 (Ky x.tid t))/\Bel w w':=by
 go_enter func334,ntmps334;go_wp2_with fail;refine(Qcj x.tid t _).zS ?_;go_wp2;go_ret;exact⟨rfl,(Bel.refl w).alloc _⟩
theorem U9(A:Nat->Prop)(w:World)(ao:Option Addr)(cap:Nat)(l:List Branch)(h:Rd Zm A w ao cap l)(a:l.length<=1000000)(b:Jv (λx=>x.tid) l)(t:Int):
 Calls prog 271 #[.slice ao l.length cap,.int .i64 t] w λe w'=>e=.returned (.tuple #[.int .i64 (Z5 (λx=>x.tid) t l:Nat),.bool (Qt (λx=>x.tid) t l)])/\Bel w w':=by
 have H:=Zh (Qpm (ρ:=Qpn 333 39 58 2 367) rfl underlying39 underlying340 ⟨Tryz.f333.name,by decide,func333.trans (congrArg some (by kernel_rfl))⟩ Qbn (λx=>x.tid) (.int .i64 t) t 334 #[] (enters_of func334 (by kernel_rfl) rfl) A w ao cap l h a b (by rintro x W _ g f ⟨c,d,rfl,-⟩;exact Qic x c d t W));clear h a b;go_enter func271,ntmps271;go_wp2_with fail;refine H.zR λa a=>?_
 have b:=Zh a;clear a;go_wp2;go_ret2;exact⟨rfl,b⟩
theorem Qjg(x:Fin)(t:Int)(w:World):Calls prog 269 #[.agg #[.int .i64 x.tid,.bool x.yes],.int .i64 t] w λe w'=>e=.returned (.int .i64 (Ky x.tid t))/\Bel w w':=by
 go_enter func269,ntmps269;go_wp2_with fail;refine(Qcj x.tid t _).zS ?_;go_wp2;go_ret;exact⟨rfl,(Bel.refl w).alloc _⟩
theorem Sa(A:Nat->Prop)(w:World)(ao:Option Addr)(cap:Nat)(l:List Fin)(h:Rd J7 A w ao cap l)(a:l.length<=1000000)(b:Jv (λx=>x.tid) l)(t:Int):
 Calls prog 182 #[.slice ao l.length cap,.int .i64 t] w λe w'=>e=.returned (.tuple #[.int .i64 (Z5 (λx=>x.tid) t l:Nat),.bool (Qt (λx=>x.tid) t l)])/\Bel w w':=by
 have H:=Zh (Qpm (ρ:=Qpn 268 40 51 2 323) rfl underlying40 underlying340 ⟨Tryz.f268.name,by decide,func268.trans (congrArg some (by kernel_rfl))⟩ Qkj (λx=>x.tid) (.int .i64 t) t 269 #[] (enters_of func269 (by kernel_rfl) rfl) A w ao cap l h a b (by rintro x W _ d c rfl;exact Qjg x t W));clear h a b;go_enter func182,ntmps182;go_wp2_with fail;refine H.zR λa a=>?_
 have b:=Zh a;clear a;go_wp2;go_ret2;exact⟨rfl,b⟩
theorem Qid(x:Qv)(a:Option Addr)(b:Nat)(t:Int)(w:World):Calls prog 336 #[.agg #[.int .i64 x.tid,.slice a x.parts.length b],.int .i64 t] w λe w'=>e=.returned (.int .i64 (Ky x.tid t))/\Bel w w':=by
 go_enter func336,ntmps336;go_wp2_with fail;refine(Qcj x.tid t _).zS ?_;go_wp2;go_ret;exact⟨rfl,(Bel.refl w).alloc _⟩
theorem Y4(A:Nat->Prop)(w:World)(ao:Option Addr)(cap:Nat)(l:List Qv)(h:Rd Z4 A w ao cap l)(a:l.length<=1000000)(b:Jv (λx=>x.tid) l)(t:Int):
 Calls prog 272 #[.slice ao l.length cap,.int .i64 t] w λe w'=>e=.returned (.tuple #[.int .i64 (Z5 (λx=>x.tid) t l:Nat),.bool (Qt (λx=>x.tid) t l)])/\Bel w w':=by
 have H:=Zh (Qpm (ρ:=Qpn 335 41 134 2 369) rfl underlying41 underlying340 ⟨Tryz.f335.name,by decide,func335.trans (congrArg some (by kernel_rfl))⟩ Qgp (λx=>x.tid) (.int .i64 t) t 336 #[] (enters_of func336 (by kernel_rfl) rfl) A w ao cap l h a b (by rintro x W _ g f ⟨c,d,rfl,-⟩;exact Qid x c d t W));clear h a b;go_enter func272,ntmps272;go_wp2_with fail;refine H.zR λa a=>?_
 have b:=Zh a;clear a;go_wp2;go_ret2;exact⟨rfl,b⟩
end Go.Proofs.YtkdpmdfcdgphlaaGreat

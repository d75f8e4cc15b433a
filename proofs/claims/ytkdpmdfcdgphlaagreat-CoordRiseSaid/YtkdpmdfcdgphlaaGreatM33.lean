/- Part of this claim's proof. Conditions: as its theorems say. -/
import Derived.Test.YtkdpmdfcdgphlaaGreatM32
set_option linter.all false
set_option maxHeartbeats 4000000
set_option maxRecDepth 100000
namespace Go.Po
open Go.Mem Go.Proofs.YtkdpmdfcdgphlaaGreat
def Qa6(s:St):Rec:=⟨1,mk s.broker (s.tx+1),0,false,[],[]⟩
def Cr(b:Br):(Int×Int)×Br:=
 if (Zf b.s (Qa6 b.s)==0)=true then ((mk b.s.broker (b.s.tx+1),0),⟨[Qf b.s (Qa6 b.s)],Qf b.s (Qa6 b.s),b.G,b.K⟩) else ((0,Zf b.s (Qa6 b.s)),b)
theorem Qyw(b n:Int):i64 (mk b n):=by
 simp only[i64];unfold mk;split
 ·next h=>
  have:=Js h.1;omega
 ·omega
def Qgf(b:Br)(t:Int):Int×Br:=if (Sj b.s t 8 !=0)=true then (Sj b.s t 8,b) else ((Wn b t false []).1.2,(Wn b t false []).2)
end Go.Po
namespace Go.Proofs.YtkdpmdfcdgphlaaGreat
open Tryz
open Go.RowKit Go.Mem Go.Po
theorem Qzo(s:St)(g:Option Addr)(b:Nat)(j:Option Addr)(e:Nat)(f:Option Addr)(a:Nat)(i:Option Addr)(d:Nat)(h:Option Addr)(c:Nat)(W:World):(Instr.field 43 (.agg #[.int .i64 s.broker,.int .i64 s.nextId,.int .i64 s.nextSeq,.int .i64 s.tx,.slice g s.ms.length b,.slice j s.waits.length e,.slice f s.ends.length a,.slice i s.opens.length d,.slice h s.noes.length c]) 3).run prog W=.ok (.int .i64 s.tx) W:=by
 simp[Instr.field,go_sem];rfl
theorem Qzp(s:St)(h:Option Addr)(d:Nat)(b:Option Addr)(a:Nat)(g:Option Addr)(c:Nat)(j:Option Addr)(f:Nat)(i:Option Addr)(e:Nat)(W:World):(Instr.field 43 (.agg #[.int .i64 s.broker,.int .i64 s.nextId,.int .i64 s.nextSeq,.int .i64 s.tx,.slice h s.ms.length d,.slice b s.waits.length a,.slice g s.ends.length c,.slice j s.opens.length f,.slice i s.noes.length e]) 5).run prog W=.ok (.slice b s.waits.length a) W:=by
 simp[Instr.field,go_sem];rfl
theorem Qv9(s:St)(h:Option Addr)(d:Nat)(j:Option Addr)(f:Nat)(g:Option Addr)(c:Nat)(i:Option Addr)(e:Nat)(b:Option Addr)(a:Nat)(W:World):(Instr.field 43 (.agg #[.int .i64 s.broker,.int .i64 s.nextId,.int .i64 s.nextSeq,.int .i64 s.tx,.slice h s.ms.length d,.slice j s.waits.length f,.slice g s.ends.length c,.slice i s.opens.length e,.slice b s.noes.length a]) 8).run prog W=.ok (.slice b s.noes.length a) W:=by
 simp[Instr.field,go_sem];rfl
section
variable {n n' : Nat} {A B O Ok Op S : Nat → Prop} {w w' : World} {cb pb kb db om : Nat} {l l' : List St} {s s' : St} {G G' : List (Int × Goes)} {K : List (Int × U6)} {C C' : List (Int × Aq)}
theorem Qdx(b:Br)(h:b.of n A O w cb pb kb db)(F:∀k,A k->k<w.heap.size)(H:n<199)(r:Rec)(rp:Option Addr)(c:Nat)(f:Option Addr)(d:Nat)(q:i64 r.tid)(m:i64 r.id)(o:Rd Qh A w rp c r.parts)(t:Rd Qw A w f d r.puts)(I:∀p∈r.puts,p.q.size<=maxLen):
 Calls prog 82 #[.pointer (some ⟨cb,0,none⟩),.agg #[.int .i64 r.kind,.int .i64 r.tid,.int .i64 r.id,.bool r.yes,.slice rp r.parts.length c,.slice f r.puts.length d]] w λe w'=>e=.returned (.int .i64 (Zf b.s r))/\Zq A O w w' λA O w=>(if (Zf b.s r==0)=true then (⟨if (r.kind !=9)=true then [Qf b.s r] else b.l++[Qf b.s r],Qf b.s r,b.G,b.K⟩:Br) else b).of (n+1) A O w cb pb kb db:=by
 obtain⟨l,s,G,K⟩:=b;have v:=h;obtain⟨Op,om,C,z,B,j,D,rfl,E⟩:=v;obtain⟨Ok,N,P,R,S,L,rfl,i,rfl⟩:=B;dsimp only;by_cases g:Zf s r=0
 ·rw[if_pos (by simp[g]),g]
  refine Rh j.c1 r rp c f d (r.kind !=9) rfl 0 _ λW a=>?_
  refine(Uj (i.k.bel a) (λk h=>Nat.lt_of_lt_of_le (F k h) a.size) H r rp c f d q m (o.bel a) (t.bel a) (r.kind !=9) g).mono ?_;rintro e w' ⟨rfl,T,J,M,Q⟩;refine⟨rfl,Zq.from a ?_⟩;have:=(i.bel a).write J M Q (Nat.le_succ n);exact Qn7 (s':=Qf s r) (G':=Zv L) ⟨Ok,N,P,R,S,L,rfl,i.bel a,rfl⟩ (j.bel a) D z (E.mono (Nat.le_succ n)) (Ya s r) (this.imp λ_ _ _ ⟨x,y⟩=>⟨_,_,_,_,_,_,x,y,rfl⟩)
 ·rw[if_neg (by simpa using g)]
  refine Rh j.c1 r rp c f d (r.kind !=9) rfl _ _ λW a=>?_
  refine(Qfb (i.k.bel a) (by omega) r rp c f d q m (o.bel a) (t.bel a) I (r.kind !=9) g).zR λw' x=>?_
  exact⟨rfl,(Cq.more (show Cq n A O w cb pb kb db l s (Zv L) (Ka C) from h) (Nat.le_succ n)).self (a.trans x)⟩
theorem Qrb(b:Br)(h:b.of n A O w cb pb kb db)(x:∀k,A k->k<w.heap.size)(P:n<199):
 Calls prog 29 #[.pointer (some ⟨cb,0,none⟩)] w λe w'=>e=.returned (.tuple #[.int .i64 (Cr b).1.1,.int .i64 (Cr b).1.2])/\Zq A O w w' λA O w=>(Cr b).2.of (n+1) A O w cb pb kb db:=by
 obtain⟨Op,om,C,I,J,l,K,M,N⟩:=show Cq n A O w cb pb kb db b.l b.s b.G b.K from h
 obtain⟨Ok,Y,Z,aa,ab,L,rfl,o,_⟩:=J;have z:=o.k.good.may;have U:=z.tx;have V:IntKind.i64.wrap (b.s.tx+1)=b.s.tx+1:=by rw[IntKind.wrap_i64];omega
 obtain⟨E,B,D⟩:=Zh3 o.k l.c0 l.c1;obtain⟨X,g⟩:=Zx (Cr b);rw[<-g];obtain⟨t,f⟩:=Zx (mk b.s.broker (b.s.tx+1));obtain⟨r,q⟩:=Zx (Qa6 b.s);obtain⟨c,j⟩:=Zx (Zf b.s r);rw[Cr,<-q,<-f,<-j]at g;have a:r=⟨1,t,0,false,[],[]⟩:=by rw[q,f];rfl
 have Q:=f▸Qyw _ _;have s:=λW (i:Bel w W)=>Qdx b (show b.of n A O W cb pb kb db from Cq.bel (show Cq n A O w cb pb kb db b.l b.s b.G b.K from h) i) (λk h=>Nat.lt_of_lt_of_le (x k h) i.size) P r none 0 none 0 (by rw[a];exact Q) (by rw[a];simp[i64]) (by rw[a];exact Rd.nil _ _ _ none 0 (Nat.zero_le _)) (by rw[a];exact Rd.nil _ _ _ none 0 (Nat.zero_le _)) (λp i=>by rw[a]at i;simp at i)
 obtain⟨H,m⟩:=Zx (if (c==0)=true then (⟨[Qf b.s r],Qf b.s r,b.G,b.K⟩:Br) else b);have y:(if (Zf b.s r==0)=true then (⟨if (r.kind !=9)=true then [Qf b.s r] else b.l++[Qf b.s r],Qf b.s r,b.G,b.K⟩:Br) else b)=H:=by
  rw[m,<-j,show(r.kind !=9)=true by rw[a];rfl];rfl
 rw[y,<-j,a]at s;obtain⟨G,i,v,F⟩:=Zh4 s g m f;clear h I l K M N o z x g q j a s m y f;go_enter func29,ntmps29;go_upto_region 3 with (fail);refine Zp [12] 13 (by kernel_rfl) rfl (by kernel_rfl) (λ_ d _ _ _ h=>by cases d<;>exact h) ?_;intro ad a f;have l:=Zh a;have g:=Up.cell (a.cell B);have j:=Up.cell (a.cell D);clear a f;refine Xt 5 [0,1,2,3,4,5,6,7] (by kernel_rfl) rfl ?_;simp only[Za,List.getElem?_cons_zero,List.getElem?_cons_succ];repeat(go_big_quiet_step(fail))
 refine wpQuiet_nil ?_;clear g j;refine Qq 4 8 (by kernel_rfl) rfl ?_;go_wp2_with fail;refine(Ve (E.bel l)).mono ?_;rintro e W ⟨M,x,S,I,K,s,R,z,N,y,rfl,a,b2⟩;obtain⟨j,o⟩:=Zh2 (l.trans b2) b2;clear a b2;go_wp2_with fail;refine Zl o ?_;have T:=Qzo b.s M x S I K s R z N y;refine Qq 3 9 (by kernel_rfl) rfl ?_;go_wp2_with fail;refine Zl (Bel.refl _) ?_;refine Qq 2 10 (by kernel_rfl) rfl ?_;go_wp2_with fail;refine Zl (Bel.refl _) ?_;refine Qq 1 11 (by kernel_rfl) rfl ?_;go_wp2_with fail;refine(Ms b.s.broker (b.s.tx+1) _).mono ?_;rw[<-F.o];rintro e ac ⟨rfl,rfl⟩;go_wp2_with fail;refine Zl (Bel.refl _) ?_;refine Qq 0 12 (by kernel_rfl) rfl ?_;go_wp2_with fail;refine Z6 ?_;refine X0 (by kernel_rfl) ?_;go_wp2_with fail;refine(G _ j).zR λa a=>?_
 have m:=Zh (Zq.from j a);clear a;by_cases f:c=0
 ·have g:(c==0)=true:=by simpa using f
  have q:(c !=0)=false:=by simpa using f
  have a:=Zh g;clear f g;go_wp2;go_ret2;refine⟨by rw[i.o,if_pos a.o];rfl,?_⟩;rw[i.o,if_pos a.o];have:=m.o;rw[v.o,if_pos a.o]at this;exact this
 ·have g:(c==0)=false:=by simpa using f
  have q:(c !=0)=true:=by simpa using f
  have a:=Zh g;clear f g;go_wp2;go_ret2;refine⟨by rw[i.o,a.o];rfl,?_⟩;rw[i.o,a.o];have:=m.o;rw[v.o,a.o]at this;exact this
end
end Go.Proofs.YtkdpmdfcdgphlaaGreat
namespace Go.Po
open Go.Mem Go.Proofs.YtkdpmdfcdgphlaaGreat
def Bw(b:Br)(frm t:Int)(yes:Bool):(List Ye×Int)×Br:=
 match Qn t b.K with
 | none=>(([],0),b)
 | some a=>
  let v:=Yt frm yes a.Y a.N
  let b1:Br:=⟨b.l,b.s,b.G,Qo t ⟨v.1,v.2,a.ns,a.ticks⟩ b.K⟩
  if Qem v.1 v.2=1 then Wn b1 t true (v.1.map (·.1)) else if Qem v.1 v.2=2 then Wn b1 t false (v.1.map (·.1)) else (([],0),b1)
theorem Qq8(x:Int)(a:Bool)(Y N:List (Int×Bool)):(Yt x a Y N).1.length<=Y.length/\(Yt x a Y N).2.length<=N.length+1:=by
 unfold Yt;split
 ·next h=>
  obtain⟨c,b⟩:=Option.isSome_iff_exists.1 h;split
  ·split
   ·exact⟨Nat.le_refl _,Nat.le_succ _⟩
   ·exact⟨D5 b,Nat.le_succ _⟩
  ·exact⟨Nat.le_refl _,putI_len _ _ _⟩
 ·exact⟨Nat.le_refl _,Nat.le_succ _⟩
theorem Qtu{k:Int}{x y:Aq}{C:List (Int×Aq)}(b:Xl C)(h:Qn k C=some x)(a:y.e=x.e):iL aqV (Qo k y C)=iL aqV C:=by
 obtain⟨d,c,rfl⟩:=Tt h;rw[Gc b];simp[iL,aqV,a]
end Go.Po
namespace Go.Proofs.YtkdpmdfcdgphlaaGreat
open Tryz
open Go.RowKit Go.Mem Go.Po
section
variable {n n' : Nat} {A B O Ok Op S : Nat → Prop} {w w' : World} {cb pb kb db om : Nat} {l l' : List St} {s s' : St} {G G' : List (Int × Goes)} {K : List (Int × U6)} {C C' : List (Int × Aq)} {br : Int}
theorem Br.bel{b:Br}(h:b.of n A O w cb pb kb db)(a:Bel w w'):b.of n A O w' cb pb kb db:=Cq.bel (show Cq n A O w cb pb kb db b.l b.s b.G b.K from h) a
theorem Br.more{b:Br}(h:b.of n A O w cb pb kb db)(a:n<=n'):b.of n' A O w cb pb kb db:=Cq.more (show Cq n A O w cb pb kb db b.l b.s b.G b.K from h) a
theorem Br.self{b:Br}(h:b.of n A O w cb pb kb db)(a:Bel w w'):Zq A O w w' λA O w=>b.of n A O w cb pb kb db:=Cq.self (show Cq n A O w cb pb kb db b.l b.s b.G b.K from h) a
theorem Br.mono{b:Br}(h:b.of n A O w cb pb kb db)(a:∀j,j<w.heap.size->B j->A j)(c:∀j,O j->B j):b.of n B O w cb pb kb db:=Cq.mono (show Cq n A O w cb pb kb db b.l b.s b.G b.K from h) a c
theorem Br.good{b:Br}(h:b.of n A O w cb pb kb db):Go.Po.Good b.s:=Cq.good (show Cq n A O w cb pb kb db b.l b.s b.G b.K from h)
theorem Br.cells{b:Br}(h:b.of n A O w cb pb kb db):w.cell? ⟨cb,0,none⟩=some (.int .i64 b.s.broker)/\w.cell? ⟨cb,1,none⟩=some (.pointer (some ⟨kb,0,none⟩))/\w.cell? ⟨cb,2,none⟩=some (.pointer (some ⟨pb,0,none⟩)):=by
 obtain⟨Op,om,C,c,d,a,_⟩:=h;exact⟨a.c0,a.c1,a.c2⟩
theorem Fu{b:Br}(o:b.of n A O w cb pb kb db):Calls prog 23 #[.pointer (some ⟨kb,0,none⟩)] w λe w'=>∃i c m g h a l f j d,e=.returned (.agg #[.int .i64 b.s.broker,.int .i64 b.s.nextId,.int .i64 b.s.nextSeq,.int .i64 b.s.tx,.slice i b.s.ms.length c,.slice m b.s.waits.length g,.slice h b.s.ends.length a,.slice l b.s.opens.length f,.slice j b.s.noes.length d])/\StR (λk=>k<w.heap.size) w' b.s i c m g h a l f j d/\Bel w w':=by
 obtain⟨Op,om,C,d,a,f,_⟩:=o;obtain⟨Ok,g,h,i,j,L,rfl,c,_⟩:=a;exact Ve c.k
theorem Qq9(b:Br)(h:b.of n A O w cb pb kb db)(f:∀k,A k->k<w.heap.size)(x:n<199)(t:Int)(l:i64 t):
 Calls prog 54 #[.pointer (some ⟨cb,0,none⟩),.int .i64 t] w λe w'=>e=.returned (.int .i64 (Qgf b t).1)/\Zq A O w w' λA O w=>(Qgf b t).2.of (n+1) A O w cb pb kb db:=by
 obtain⟨H,o⟩:=Zh2 h f;obtain⟨c0,c1,c2⟩:=Br.cells h;have M:=Zd c0;have y:=Zh (Fu h);have s:=(Js (Br.good h).may.broker).1;obtain⟨X,a⟩:=Zx (Qgf b t);rw[<-a];obtain⟨d,c⟩:=Zx (Sj b.s t 8);rw[Qgf,<-c]at a;obtain⟨g,p⟩:=Zh2 a c;clear h f a c;go_enter func54,ntmps54;go_wp2_with fail;refine y.mono ?_;rintro e N ⟨I,C,L,F,G,z,K,E,J,D,rfl,a,b2⟩;obtain⟨q,j⟩:=Zh2 (a.mono (B:=λ_=>False) λ_ _ h=>h.elim) b2;clear a b2;have c:=j.cell c0;go_wp2_with fail;refine(Qjy I C L F G z K E J D q c s t l 8).mono ?_;rw[<-p.o];rintro e P ⟨rfl,a⟩;have f:=Zh (j.trans a);clear a c c0 c1 c2;by_cases a:d=0
 ·have v:(d==0)=true:=by simpa using a
  have i:(d !=0)=false:=by simpa using a
  have c:=Zh i;clear a;go_wp2_with fail;refine(Qhg b (Br.bel H f) (λk h=>Nat.lt_of_lt_of_le (o k h) f.size) x t l [] none 0 (Rd.nil _ _ _ none 0 (Nat.zero_le _)) (Nat.zero_le _)).mono ?_;rintro e Q ⟨ao,cap,rfl,m⟩;have r:=Zh (Zq.from f m);clear m;go_wp2;go_ret;refine⟨by rw[g.o,c.o];rfl,?_⟩;rw[g.o,c.o];exact r.imp λ_ _ _ h=>h.1
 ·have v:(d==0)=false:=by simpa using a
  have i:(d !=0)=true:=by simpa using a
  have c:=Zh i;clear a;go_wp2;go_ret;refine⟨by rw[g.o,c.o];rfl,?_⟩;rw[g.o,c.o];exact Br.self (Br.more H (Nat.le_succ n)) f
theorem Cs.voted(h:Cs w cb om kb pb br C){t:Int}{x:Aq}(f:Qn t C=some x){Y N:List (Int×Bool)}(q:Jy w' x.vb x.ym x.nm Y N)(c:Kept (λj=>j=x.ym\/j=x.nm) w w')(l:Y.length<=7):
 Cs w' cb om kb pb br (Qo t ⟨x.e,x.vb,x.ym,x.nm,x.mm,⟨Y,N,x.a.ns,x.a.ticks⟩⟩ C)/\Kept (csO cb om C) w w':=by
 have d:=Xh f;have b:=h.ent _ d;have g:∀j,(j=x.ym\/j=x.nm)->vo x.vb x.ym x.nm j:=λj a=>a.elim (λh=>.inr (.inl h)) λh=>.inr (.inr h)
 have e:∀j,(j=x.ym\/j=x.nm)->x.has j:=λj a=>.inr (.inl (g j a))
 have m:¬(cb=x.ym\/cb=x.nm):=λa=>(h.sepb _ d cb (e cb a)).1 rfl
 have o:¬(om=x.ym\/om=x.nm):=λa=>(h.sepb _ d om (e om a)).2 rfl
 refine⟨h.set t (h.k64 _ d) _ (c.block cb (h.lt (.inl rfl)) m) ?_ ⟨c.heap (λa=>b.ne.1 (g _ a)) b.blk,q,b.m.kept c λa=>b.ne.2.1 (g _ a),b.ne,b.tk,l,b.few.2⟩ (λp k i=>(h.ent p k).keep c λj a n=>?_) λj a=>.inl ⟨x,f,a⟩,c.mono λj _ a=>.inr (.inr ⟨_,d,e j a⟩)⟩
 ·rw[Qtu (y:=⟨x.e,x.vb,x.ym,x.nm,x.mm,⟨Y,N,x.a.ns,x.a.ticks⟩⟩) h.up f rfl];exact h.mp.kept c o
 ·have:=h.sep p k (t,x) d j a (e j n)
  rw[this]at i;exact i rfl
theorem Qra(b:Br)(h:b.of n A O w cb pb kb db)(y:∀k,A k->k<w.heap.size)(aj:n<198)(frm:Int)(ae:i64 frm)(t:Int)(Q:i64 t)(f:Bool):
 Calls prog 32 #[.pointer (some ⟨cb,0,none⟩),.int .i64 frm,.int .i64 t,.bool f] w λe w'=>∃ao cap,e=.returned (.tuple #[.slice ao (Bw b frm t f).1.1.length cap,.int .i64 (Bw b frm t f).1.2])/\Zq A O w w' λA O w=>(Bw b frm t f).2.of (n+2) A O w cb pb kb db/\Rd Xw A w ao cap (Bw b frm t f).1.1:=by
 obtain⟨l,s,G,K⟩:=b;have ac:=Zh (show Cq n A O w cb pb kb db l s G K from h);obtain⟨Op,om,C,c,d,i,r,rfl,q⟩:=show Cq n A O w cb pb kb db l s G K from h
 obtain⟨V,W,S,Y,Z,aa⟩:=Zh6 c d i r q y;have c3:=i.c3;have o:=Qzq i.mp Q;obtain⟨X,a⟩:=Zx (Bw ⟨l,s,G,Ka C⟩ frm t f);rw[<-a];rw[Bw]at a;dsimp only at a;rw[Qt2]at a;rcases m:Qn t C with _|x
 ·rw[m]at a o
  dsimp only[Option.map_none]at a o;have g:=Zh a;clear h c d i r q y a m;go_enter func32,ntmps32;go_wp2_with fail;go_ret2;refine⟨none,0,by rw[g.o];rfl,?_⟩;rw[g.o];exact((ac.more (show n<=n+2 by omega)).self (Bel.refl _)).imp λA O w h=>⟨h,Rd.nil _ _ _ _ _ (Nat.zero_le _)⟩
 ·rw[m]at a o
  dsimp only[Option.map_some]at a o;have E:=Xh m;have p:Wj w x:=i.ent _ E;have N:=cell_of_block p.blk 0 _ rfl;have L:x.a.N.length<=n:=q.2 _ E;obtain⟨v,H⟩:=Zx (Yt frm f x.a.Y x.a.N);obtain⟨D,B⟩:=Zx (Qem v.1 v.2);have I:=Qq8 frm f x.a.Y x.a.N;rw[<-H]at I a;have J:=Qtd frm ae f w x.vb x.ym x.nm x.a.Y x.a.N p.v ⟨by have:=p.few.1;omega,by omega⟩;rw[<-H,<-B]at J;rw[<-B]at a;obtain⟨g,ad,T,z,F,ab⟩:=Zh6 a J m I p L;clear h c d i r q y a m E p H I J B L;go_enter func32,ntmps32;go_wp2_with fail;refine ad.mono ?_;rintro e R ⟨rfl,i,k2⟩;obtain⟨a,q⟩:=S.voted T.o i k2 (by have:=z.1;have:=F.few.1;omega);have p:U0 (n+1) (Qo t ⟨x.e,x.vb,x.ym,x.nm,x.mm,⟨v.1,v.2,x.a.ns,x.a.ticks⟩⟩ C):=Z.put t _ (by have:=z.2;have:=ab.o;show v.2.length<=n+1;omega);obtain⟨m,U⟩:=Zh2 (Qyz W.o S.o Y.o V.o p (Nat.le_succ n) a q (Qxd λj r=>.inl (.inr (.inr ⟨_,Xh T.o,r⟩)))) i;have N:=cell_of_block (a.ent _ (Zt.2 (.inl rfl))).blk 0 _ rfl;clear a q p i k2 c3 o;obtain⟨B,a,i,o⟩:=m.o;rw[Qjq]at a;obtain⟨J,H,I,y⟩:=Zh4 a i o (show ∀k,A k\/B k->k<R.heap.size fromλk h=>h.elim (λh=>Nat.lt_of_lt_of_le (aa.o k h) i.size) (a.lt k));clear a i o m;by_cases c:D=1
  ·have m:=Zh (show X=Wn ⟨l,s,G,Qo t ⟨v.1,v.2,x.a.ns,x.a.ticks⟩ (Ka C)⟩ t true (v.1.map (·.1)) by rw[g.o,if_pos c])
   subst c;go_wp2_with fail;refine(Ra (λk=>A k\/B k) R x.vb x.ym x.nm v.1 v.2 U).mono ?_;rintro e ah ⟨po,pc,af,rfl,q,rfl,o⟩;obtain⟨L,a⟩:=Zh2 (q.rd y.o) o;clear q o N;have i:=Qeu ⟨l,s,G,Qo t ⟨v.1,v.2,x.a.ns,x.a.ticks⟩ (Ka C)⟩ (Br.bel J.o a.o) (λk h=>Nat.lt_of_lt_of_le (y.o k h) a.size) (by omega) t Q (v.1.map (·.1)) po pc L.o (by rw[List.length_map];have:=z.1;have:=F.few.1;omega);rw[List.length_map]at i;have E:=Zh i;clear i;go_wp2_with fail;refine E.mono ?_;rintro e ai ⟨ao,cap,rfl,r⟩;have M:=Zh (Zq.from a r);clear r;go_wp2;go_ret2;refine⟨ao,cap,by rw[m.o];rfl,?_⟩;rw[m.o];exact Zq.then H I (λh p P=>⟨Br.mono h.1 p P,h.2.mono p⟩) M
  ·by_cases d:D=2
   ·have m:=Zh (show X=Wn ⟨l,s,G,Qo t ⟨v.1,v.2,x.a.ns,x.a.ticks⟩ (Ka C)⟩ t false (v.1.map (·.1)) by rw[g.o,if_neg c,if_pos d])
    subst d;clear c;go_wp2_with fail;refine(Ra (λk=>A k\/B k) R x.vb x.ym x.nm v.1 v.2 U).mono ?_;rintro e ah ⟨po,pc,af,rfl,q,rfl,o⟩;obtain⟨L,a⟩:=Zh2 (q.rd y.o) o;clear q o N;have i:=Qhg ⟨l,s,G,Qo t ⟨v.1,v.2,x.a.ns,x.a.ticks⟩ (Ka C)⟩ (Br.bel J.o a.o) (λk h=>Nat.lt_of_lt_of_le (y.o k h) a.size) (by omega) t Q (v.1.map (·.1)) po pc L.o (by rw[List.length_map];have:=z.1;have:=F.few.1;omega);rw[List.length_map]at i;have E:=Zh i;clear i;go_wp2_with fail;refine E.mono ?_;rintro e ai ⟨ao,cap,rfl,r⟩;have M:=Zh (Zq.from a r);clear r;go_wp2;go_ret2;refine⟨ao,cap,by rw[m.o];rfl,?_⟩;rw[m.o];exact Zq.then H I (λh p P=>⟨Br.mono h.1 p P,h.2.mono p⟩) M
   ·have p:(D==1)=false:=by simpa using c
    have q:(D==2)=false:=by simpa using d
    obtain⟨i,o⟩:=Zh2 c d;clear c d;go_wp2;go_ret2;refine⟨none,0,by rw[g.o,if_neg i.o,if_neg o.o];rfl,?_⟩;rw[g.o,if_neg i.o,if_neg o.o];exact⟨B,⟨Br.more (b:=⟨l,s,G,Qo t ⟨v.1,v.2,x.a.ns,x.a.ticks⟩ (Ka C)⟩) J (Nat.le_succ _),Rd.nil _ _ _ _ _ (Nat.zero_le _)⟩,H,I⟩
end
end Go.Proofs.YtkdpmdfcdgphlaaGreat
namespace Go.Po
open Go.Mem Go.Proofs.YtkdpmdfcdgphlaaGreat
def Lu(t frm:Int):Rec:=⟨9,t,0,false,[frm],[]⟩
def Qte(b:Br)(frm t:Int):Bool:=(N9 b.s.noes t).isSome&&(Ci b.s.noes t).parts.contains frm
def Qcy(b:Br)(frm t:Int):Int×Br:=
 if Qte b frm t=true then (Zf b.s (Lu t frm),if (Zf b.s (Lu t frm)==0)=true then ⟨b.l++[Qf b.s (Lu t frm)],Qf b.s (Lu t frm),b.G,b.K⟩ else b) else (0,b)
def Uo(b:Br)(frm t:Int):List Ye:=
 if Qz frm=false then [] else if (!Mk b.s t||!Ml b.s t)=true then [] else Fw b.s.broker t (!Qt (λx:Qv=>x.tid) t b.s.noes) [frm]
def Qcz(b:Br)(t:Int):Int:=
 if Qgn b.s t=true then 3 else if Mk b.s t=true then 4 else if (Qt (λx:Qv=>x.tid) t b.s.opens||Qt (λx:Branch=>x.tid) t b.s.waits)=true then 2 else if (Ml b.s t||decide (0<nG t b.G))=true then 1 else 5
end Go.Po
namespace Go.Proofs.YtkdpmdfcdgphlaaGreat
open Tryz
open Go.RowKit Go.Mem Go.Po
section
variable {n n' : Nat} {A B O Ok Op S : Nat → Prop} {w w' : World} {cb pb kb db om : Nat} {l l' : List St} {s s' : St} {G G' : List (Int × Goes)} {K : List (Int × U6)} {C C' : List (Int × Aq)} {br : Int}
theorem Qv1(b:Br)(h:b.of n A O w cb pb kb db)(i:∀k,A k->k<w.heap.size)(J:n<199)(frm t:Int)(ac:i64 frm)(L:i64 t):
 Calls prog 49 #[.pointer (some ⟨cb,0,none⟩),.int .i64 frm,.int .i64 t] w λe w'=>e=.returned (.int .i64 (Qcy b frm t).1)/\Zq A O w w' λA O w=>(Qcy b frm t).2.of (n+1) A O w cb pb kb db:=by
 obtain⟨H,l⟩:=Zh2 h i;obtain⟨c0,c1,c2⟩:=Br.cells h;have ab:=Zd c0;have K:=Zh (Fu h);obtain⟨aa,c⟩:=Zx (Qcy b frm t);rw[<-c];obtain⟨M,f⟩:=Zx ((N9 b.s.noes t).isSome);obtain⟨P,d⟩:=Zx (Ci b.s.noes t);obtain⟨N,g⟩:=Zx (P.parts.contains frm);rw[Qcy,Qte,<-d,<-f,<-g]at c;obtain⟨a,C,D,y⟩:=Zh4 c f g d;clear h i c f g d;go_enter func49,ntmps49;go_wp2_with fail;refine K.mono ?_;rintro e Q ⟨X,T,Z,V,W,S,Y,U,v,s,rfl,c,b2⟩;obtain⟨F,x⟩:=Zh2 c b2;have r:=Qv9 b.s X T Z V W S Y U v s;clear c b2;go_wp2_with fail;refine(Pb b.s.noes v s t _ Q F.noes).mono ?_;rw[<-C.o,<-y.o];rintro e R ⟨ao,cap,rfl,q,i⟩;obtain⟨c,f⟩:=Zx (R.alloc (.cells #[.int .i64 P.tid,.slice ao P.parts.length cap] 134));have g:=Zb f;have o:=Zn f;have I:=cell_of_block o 1 _ rfl;obtain⟨d,E,m⟩:=Zh3 (x.trans (i.trans g)) (q.bel g) f;clear i q f g o r c0 c1 c2;rcases M with _|_
 ·go_wp2
  go_ret;refine⟨by rw[a.o];rfl,?_⟩;rw[a.o];exact Br.self (Br.more H.o (Nat.le_succ n)) (m.o▸d.o)
 go_wp2_with fail;rw[<-m.o];refine(D8 _ c ao cap P.parts E frm).mono ?_;rw[<-D.o];rintro e ad ⟨rfl,rfl⟩;rcases N with _|_
 ·go_wp2
  go_ret;refine⟨by rw[a.o];rfl,?_⟩;rw[a.o];exact Br.self (Br.more H (Nat.le_succ n)) d
 obtain⟨G,f⟩:=Zx (c.alloc (.cells #[.int .i64 frm] 3));have o:=Zb f;have i:=Zn f;have g:=Zh (d.trans o);have q:Rd Qh A G (some ⟨c.heap.size,0,none⟩) 1 [frm]:=⟨[.int .i64 frm],Ch.one rfl rfl,rfl,Nat.le_refl _,by simp[maxLen],λ_=>⟨c.heap.size,0,_,_,_,rfl,Qb i,λr=>by have:=l.o _ r;have:=d.size;omega,i,λj r r=>by simpa using r⟩⟩;have r:=Qdx b (Br.bel H.o g.o) (λk h=>Nat.lt_of_lt_of_le (l.o k h) g.size) J (Lu t frm) (some ⟨c.heap.size,0,none⟩) 1 none 0 L (show i64 0 by simp[i64]) q (Rd.nil _ _ _ none 0 (Nat.zero_le _)) (λp z=>by simp[Lu]at z);obtain⟨B,z⟩:=Zh2 r f;clear f o i q r I;go_wp2_with fail;rw[<-z.o];refine B.zR λf f=>?_
 have i:=Zh (Zq.from g f);clear f;go_wp2;go_ret;refine⟨by rw[a.o];rfl,?_⟩;rw[a.o];exact i
theorem Qyd(b:Br)(h:b.of n A O w cb pb kb db)(frm t:Int)(ai:i64 t):
 Calls prog 33 #[.pointer (some ⟨cb,0,none⟩),.int .i64 frm,.int .i64 t] w λe w'=>∃ao cap,e=.returned (.slice ao (Uo b frm t).length cap)/\Own Xw A w w' 80 ao cap (Uo b frm t)/\Bel w w':=by
 obtain⟨c0,c1,c2⟩:=Br.cells h;have ar:=Zd c0;have ah:=Zh (Fu h);have af:=(Js (Br.good h).may.broker).1;obtain⟨ad,c⟩:=Zx (Uo b frm t);rw[<-c];obtain⟨aj,d⟩:=Zx (Qz frm);obtain⟨ak,f⟩:=Zx (Mk b.s t);obtain⟨al,g⟩:=Zx (Ml b.s t);obtain⟨Q,i⟩:=Zx (Qt (λx:Qv=>x.tid) t b.s.noes);rw[Uo,<-d,<-f,<-g,<-i]at c;obtain⟨a,V,W,X,Y,I⟩:=Zh6 c d f g i c0;clear h c d f g i;go_enter func33,ntmps33;go_wp2_with fail;refine(X7 frm _).mono ?_;rw[<-V.o];rintro e au ⟨rfl,rfl⟩;rcases aj with _|_
 ·go_wp2
  go_ret;exact⟨none,0,by rw[a.o];rfl,by rw[a.o];exact Own.nil _ _ _ _ _,Bel.refl _⟩
 go_wp2_with fail;refine ah.mono ?_;rintro e an ⟨E,y,G,C,D,v,F,z,g,f,rfl,i,b2⟩;obtain⟨ab,c⟩:=Zx (an.alloc (.cells #[.int .i64 b.s.broker,.int .i64 b.s.nextId,.int .i64 b.s.nextSeq,.int .i64 b.s.tx,.slice E b.s.ms.length y,.slice G b.s.waits.length C,.slice D b.s.ends.length v,.slice F b.s.opens.length z,.slice g b.s.noes.length f] 43));have d:=Zb c;have l:=Zn c;obtain⟨T,J,R,K⟩:=Zh4 c ((i.bel d).mono (B:=λ_=>False) λ_ _ h=>h.elim) (b2.trans d) l;clear i b2 d l c c0 c1 c2;obtain⟨e0,l,m,o,p,q,r,s,c⟩:=sAt K.o;go_wp2_with fail;rw[<-T.o];refine(Sy b.s E y G C D v F z g f t _ ab J).mono ?_;rw[<-W.o];rintro e ap ⟨rfl,d⟩;obtain⟨i,L,Z⟩:=Zh3 (R.trans d) (d.heap K.o) (J.bel d);clear d e0 l m o p q r s c;rcases ak with _|_
 ·go_wp2
  go_ret;exact⟨none,0,by rw[a.o];rfl,by rw[a.o];exact Own.nil _ _ _ _ _,i.o⟩
 obtain⟨e0,l,m,o,p,q,r,s,c⟩:=sAt L.o;go_wp2_with fail;refine(Qgo b.s E y G C D v F z g f t ai af ap cb (i.cell I)).mono ?_;rw[<-X.o];rintro e aq ⟨rfl,d⟩;obtain⟨H,aa,ae⟩:=Zh3 (i.trans d) (Z.bel d) (d.heap L.o);clear d e0 l m o p q r s c;rcases al with _|_
 ·go_wp2
  go_ret;exact⟨none,0,by rw[a.o];rfl,by rw[a.o];exact Own.nil _ _ _ _ _,H.o⟩
 have c:=cell_of_block ae 8 _ rfl;go_wp2_with fail;refine(Pb b.s.noes g f t _ aq aa.noes).mono ?_;rw[La,<-Y.o];rintro e p ⟨ao,cap,rfl,am,q⟩;obtain⟨P,s⟩:=Zx (Ci b.s.noes t);rw[<-s];obtain⟨ac,d⟩:=Zx ((p.alloc (.cells #[.int .i64 P.tid,.slice ao P.parts.length cap] 134)).alloc (.cells #[.int .i64 frm] 3));have r:=d▸((Bel.refl _).alloc _).alloc _;have o:=d▸Jc _ _ _;have l:=Zh (H.trans (q.trans r));have M:Rd Qh (λ_=>False) ac (some ⟨p.heap.size+1,0,none⟩) 1 [frm]:=⟨[.int .i64 frm],Ch.one rfl rfl,rfl,Nat.le_refl _,by simp[maxLen],λ_=>⟨p.heap.size+1,0,_,_,_,rfl,Qb o,λm=>m,o,λj N N=>by simpa using N⟩⟩;have N:=Qdz (A:=A) b.s.broker t (!Q) [frm] (l.cell I.o) _ 1 M (by simp);obtain⟨S,U⟩:=Zh2 N d;clear q am d r o M N c s;go_wp2_with fail;rw[<-U.o];refine S.mono ?_;rintro e w8 ⟨r,s,rfl,d,c⟩;obtain⟨q,o⟩:=Zh2 d c;clear d c;go_wp2;go_ret;have c:ad=Fw b.s.broker t (!Q) [frm]:=by rw[a.o];rfl
 obtain⟨xs,d,M,N⟩:=q.o;exact⟨r,s,by rw[c];rfl,by rw[c];exact⟨xs,d,M,λk m=>Nat.le_trans l.size (N k m)⟩,l.trans o.o⟩
theorem Qv2(b:Br)(h:b.of n A O w cb pb kb db)(t:Int)(S:i64 t):
 Calls prog 31 #[.pointer (some ⟨cb,0,none⟩),.int .i64 t] w λe w'=>e=.returned (.int .i64 (Qcz b t))/\Bel w w':=by
 obtain⟨aL,a⟩:=Zx (w.alloc (.cells #[.int .i64 t] 2));have f:=Zb a;have r:=Zn a;obtain⟨c0,c1,c2⟩:=Br.cells h;have aS:=Zd c0;have a8:=Zh (Fu (Br.bel h f));have az:=(Js (Br.good h).may.broker).1;obtain⟨Op,om,C,-,ay,-,-,-,-⟩:=show Cq n A O w cb pb kb db b.l b.s b.G b.K from h
 obtain⟨Ok,a9,aA,aG,aH,L,rfl,p,o⟩:=ay;obtain⟨X,c⟩:=Zx (Qcz b t);rw[<-c];obtain⟨aB,i⟩:=Zx (Qgn b.s t);obtain⟨aC,j⟩:=Zx (Mk b.s t);obtain⟨aD,k⟩:=Zx (Qt (λx:Qv=>x.tid) t b.s.opens);obtain⟨aE,l⟩:=Zx (Qt (λx:Branch=>x.tid) t b.s.waits);obtain⟨aF,m⟩:=Zx (Ml b.s t);obtain⟨v,g⟩:=Zx (nG t b.G);rw[Qcz,<-i,<-j,<-k,<-l,<-m,<-g]at c;obtain⟨d,aj,ak,al,am,an,H,ab,ac,ai,ae,V⟩:=U2 c i j k l m p c0 c2 (show nOf t L=v by rw[Ul,o,g]) a f;have q:=Zh r;clear h c i j k l m g p o a f r;go_enter func31,ntmps31;go_wp2_with fail;rw[<-ae.o];refine a8.mono ?_;rintro e aI ⟨F,z,o,l,E,y,m,k,G,D,rfl,f,b2⟩;obtain⟨au,c⟩:=Zx (aI.alloc (.cells #[.int .i64 b.s.broker,.int .i64 b.s.nextId,.int .i64 b.s.nextSeq,.int .i64 b.s.tx,.slice F b.s.ms.length z,.slice o b.s.waits.length l,.slice E b.s.ends.length y,.slice m b.s.opens.length k,.slice G b.s.noes.length D] 43));have a:=Zb c;have g:=Zn c;obtain⟨af,I,Y,aq⟩:=Zh4 c ((f.bel a).mono (B:=λ_=>False) λ_ _ h=>h.elim) (V.trans (b2.trans a)) (a.heap (b2.heap q.o));have i:=cell_of_block (b2.heap q) 0 _ rfl;have j:=Qb (b2.heap q);have av:=Zh g;clear f b2 a g c c0 c1 c2;go_wp2_with fail;rw[<-af.o];refine(Sy b.s F z o l E y m k G D t _ au I).mono ?_;rw[<-aj.o,<-ak.o];rintro e aJ ⟨rfl,a⟩;obtain⟨Z,r,K,J⟩:=Zh4 (Y.trans a) (a.heap av.o) (a.heap aq.o) (I.bel a);clear a i j;have Q:=cell_of_block r 7 _ rfl;have i:=cell_of_block K 0 _ rfl;go_wp2_with fail;refine(Pb b.s.opens m k t _ aJ J.opens).mono ?_;rw[La,<-al.o];rintro e aK ⟨ao,cap,rfl,s,a⟩;obtain⟨T,p⟩:=Zx (Ci b.s.opens t);rw[<-p];obtain⟨N,f⟩:=Zx (aK.alloc (.cells #[.int .i64 T.tid,.slice ao T.parts.length cap] 134));have c:=Zb f;obtain⟨aa,aw,M,ap,ah⟩:=Zh5 (Z.trans (a.trans c)) (c.heap (a.heap r.o)) (c.heap (a.heap K.o)) (J.bel (a.trans c)) f;have j:=a.heap r;have R:=Qb j;have P:=cell_of_block j 5 _ rfl;have g:=Tg (λx=>x.tid==t) 91 #[.pointer (some ⟨w.heap.size,0,none⟩)] Qvz (λ_=>False) N o l b.s.waits ap.waits (by
  intros;exact Qs5 _ _ _ t _ _ ((‹Bel N _›).cell (cell_of_block M.o 0 _ rfl)))
 rw[show(b.s.waits.any λx=>x.tid==t)=Qt (λx:Branch=>x.tid) t b.s.waits from rfl,<-am.o]at g;have ad:=Zh g;clear s a c f p Q i j g;go_wp2_with fail;rw[<-ah.o];refine ad.zR λf c=>?_
 obtain⟨a,ax,ar⟩:=Zh3 (aa.trans c) (c.heap aw.o) (c.heap M.o);clear c P R;rcases aB with _|_
 case true=>
  go_wp2;go_ret;exact⟨by rw[d.o];rfl,a.o⟩
 rcases aC with _|_
 case true=>
  go_wp2;go_ret;exact⟨by rw[d.o];rfl,a.o⟩
 rcases aD with _|_
 case true=>
  go_wp2;go_ret;exact⟨by rw[d.o];rfl,a.o⟩
 rcases aE with _|_
 case true=>
  go_wp2;go_ret;exact⟨by rw[d.o];rfl,a.o⟩
 go_upto_region 13 with (fail);obtain⟨e0,aM,aN,aO,aP,P,aQ,Q,aR⟩:=kSt ax.o;have i:=Up.cell (cell_of_block ar 0 _ rfl);have aT:=Up.cell (a.cell ac);have j:=Zh (λW (c:Bel f W)=>Qgo b.s F z o l E y m k G D t S az W cb ((a.trans c).cell ab));rw[<-an.o]at j;obtain⟨R,s⟩:=Zh2 (λW (c:Bel f W)=>Ur (H.bel (a.trans c))) (λW (c:Bel f W)=>Ko t S W a9 aA aG aH L (H.bel (a.trans c)).lk);rw[ai.o]at s;rcases aF with _|_
 case true=>
  refine Qs (by kernel_rfl) (by kernel_rfl) ?_;repeat(go_big_quiet_step(first|(go_at_call 92;exact Calls.up (j.o _ (Up.bel _)))))
  refine Xg λU c=>?_
  have f:=Zh (a.trans c);clear c;go_wp2;go_ret;exact⟨by rw[d.o];rfl,f.o⟩
 by_cases g:0<v
 ·have W:v>0:=g
  have p:=Zh (show X=1 by rw[d.o,decide_eq_true g];rfl);refine Qs (by kernel_rfl) (by kernel_rfl) ?_;repeat(go_big_quiet_step(first|(go_at_call 92;exact Calls.up (j.o _ (Up.bel _)))|(go_at_call 27;exact Calls.up_same (R.o _ (Up.bel _)))|(go_at_call 28;exact Calls.up_same (s.o _ (Up.bel _)))))
  refine Xg λU c=>?_
  have f:=Zh (a.trans c);clear c;go_wp2;go_ret;exact⟨by rw[p.o];rfl,f.o⟩
 ·have p:=Zh (show X=5 by rw[d.o,decide_eq_false g];rfl)
  have W:=eq_false g;clear g;refine Qs (by kernel_rfl) (by kernel_rfl) ?_;repeat(go_big_quiet_step(first|(go_at_call 92;exact Calls.up (j.o _ (Up.bel _)))|(go_at_call 27;exact Calls.up_same (R.o _ (Up.bel _)))|(go_at_call 28;exact Calls.up_same (s.o _ (Up.bel _)))))
  refine Xg λU c=>?_
  have f:=Zh (a.trans c);clear c;go_wp2;go_ret;exact⟨by rw[p.o];rfl,f.o⟩
end
end Go.Proofs.YtkdpmdfcdgphlaaGreat

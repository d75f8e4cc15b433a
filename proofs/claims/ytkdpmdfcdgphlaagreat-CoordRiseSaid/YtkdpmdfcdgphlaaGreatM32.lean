/- Part of this claim's proof. Conditions: as its theorems say. -/
import Derived.Test.YtkdpmdfcdgphlaaGreatM29
import Derived.Test.YtkdpmdfcdgphlaaGreatM31
set_option linter.all false
set_option maxHeartbeats 4000000
set_option maxRecDepth 100000
namespace Go.Po
open Go.Mem Go.Proofs.YtkdpmdfcdgphlaaGreat
theorem Qkc{α:Type}{p:α->Bool}{l:List α}(h:l.any p=true):∃(i:Nat) (x:α),Kz p l=i/\l[i]?=some x/\l.find? p=some x:=by
 obtain⟨i,m,b,a,c,d⟩:=Ta (p:=p) h;refine⟨i,m,b,a,?_⟩;rw[List.find?_eq_some_iff_getElem];obtain⟨f,rfl⟩:=List.getElem?_eq_some_iff.1 a;exact⟨c,i,f,rfl,λj e=>by
  have:=d j l[j] e (by simp);simpa using this⟩
def Qgn(s:St)(t:Int):Bool:=((s.ends.find? λe=>e.tid==t).map λe=>e.yes).getD false
def Mk(s:St)(t:Int):Bool:=Qt (λx:Fin=>x.tid) t s.ends
def N9(l:List Qv)(t:Int):Option Qv:=l.find? λp=>p.tid==t
def Ci(l:List Qv)(t:Int):Qv:=(N9 l t).getD ⟨0,[]⟩
theorem La(l:List Qv)(t:Int):(N9 l t).isSome=Qt (λx:Qv=>x.tid) t l:=by
 rw[N9,Qt,Bool.eq_iff_iff,List.find?_isSome,List.any_eq_true]
def Ml(s:St)(t:Int):Bool:=(home t==s.broker)&&decide (t % 4294967296<=s.tx)
end Go.Po
namespace Go.Proofs.YtkdpmdfcdgphlaaGreat
open Tryz
open Go.RowKit Go.Mem Go.Po
theorem Sy(s:St)(m:Option Addr)(j:Nat)(p:Option Addr)(l:Nat)(d:Option Addr)(c:Nat)(o:Option Addr)(k:Nat)(n:Option Addr)(sN:Nat)(t:Int)(A:Nat->Prop)(w:World)(h:StR A w s m j p l d c o k n sN):
 Calls prog 88 #[.agg #[.int .i64 s.broker,.int .i64 s.nextId,.int .i64 s.nextSeq,.int .i64 s.tx,.slice m s.ms.length j,.slice p s.waits.length l,.slice d s.ends.length c,.slice o s.opens.length k,.slice n s.noes.length sN],.int .i64 t] w λe w'=>e=.returned (.tuple #[.bool (Qgn s t),.bool (Mk s t)])/\Bel w w':=by
 obtain⟨f,a⟩:=Zx ((w.alloc (.cells #[.int .i64 s.broker,.int .i64 s.nextId,.int .i64 s.nextSeq,.int .i64 s.tx,.slice m s.ms.length j,.slice p s.waits.length l,.slice d s.ends.length c,.slice o s.opens.length k,.slice n s.noes.length sN] 43)).alloc (.cells #[.int .i64 t] 2));have b:=a▸((Bel.refl w).alloc _).alloc _;have F:f.heap[w.heap.size]?=some (.cells #[.int .i64 s.broker,.int .i64 s.nextId,.int .i64 s.nextSeq,.int .i64 s.tx,.slice m s.ms.length j,.slice p s.waits.length l,.slice d s.ends.length c,.slice o s.opens.length k,.slice n s.noes.length sN] 43 (0,0)):=by rw[a];exact Ke _ _ _
 have B:f.heap[w.heap.size+1]?=some (.cells #[.int .i64 t] 2 (0,0)):=by rw[a];exact Jc _ _ _
 have O:=Qb B;have E:=Qxq (λx=>x.tid==t) 160 #[.pointer (some ⟨w.heap.size+1,0,none⟩)] Qvy A f d c s.ends (h.ends.bel b) (by
  intros;exact Qs4 _ none 0 t _ _ ((‹Bel f _›).cell (cell_of_block B 0 _ rfl)))
 obtain⟨q,r⟩:=Zx (Mk s t);obtain⟨y,z⟩:=Zx (Qgn s t);rw[<-r,<-z];obtain⟨v,D,I,C,G,J,H⟩:=Zh7 r z E a b F h;clear a b B h E z F r;go_enter func88,ntmps88;go_wp2_with fail;refine(C.o▸I.o).zR λa a=>?_
 rw[<-C.o]at a;have r:=Zh (G.trans a);have E:=cell_of_block (a.heap J) 6 _ rfl;clear a;rcases q with _|_
 ·have z:(s.ends.any λx=>x.tid==t)=false:=v.symm
  have a:=Ri z;have h:y=false:=by rw[D.o,Qgn];rw[List.find?_eq_none.2 λx b=>by simpa using List.any_eq_false.1 z x b];rfl
  subst h;rw[a];clear z a v;go_wp2;go_ret2;exact⟨rfl,r⟩
 ·obtain⟨i,x,a,b,z⟩:=Qkc (show(s.ends.any λx=>x.tid==t)=true from v.symm)
  have h:y=x.yes:=by rw[D.o,Qgn,z];rfl
  rw[a];obtain⟨g,off,F,K,c0,c1⟩:=Ba (H.ends.bel r.o) b;have N:=(List.getElem?_eq_some_iff.1 b).1;have L:(0:Int)<=(i:Int):=by omega
  have M:(i:Int)<(s.ends.length:Int):=by omega
  rw[F]at E;have B:=Zh h;clear a b z h;go_wp2;go_ret2;exact⟨by rw[B.o];rfl,r.o⟩
theorem Pb(l:List Qv)(s:Option Addr)(r:Nat)(t:Int)(A:Nat->Prop)(w:World)(h:Rd Z4 A w s r l):
 Calls prog 89 #[.slice s l.length r,.int .i64 t] w λe w'=>∃ao cap,e=.returned (.tuple #[.agg #[.int .i64 (Ci l t).tid,.slice ao (Ci l t).parts.length cap],.bool (N9 l t).isSome])/\Rd Qh A w' ao cap (Ci l t).parts/\Bel w w':=by
 obtain⟨a,b⟩:=Zx ((w.alloc (.cells #[.int .i64 t] 2)).alloc (.cells #[.int .i64 0,.slice none 0 0] 134));have c:Bel w a:=b▸((Bel.refl w).alloc _).alloc _;have C:a.heap[w.heap.size]?=some (.cells #[.int .i64 t] 2 (0,0)):=by rw[b];exact Ke _ _ _
 have y:a.heap[w.heap.size+1]?=some (.cells #[.int .i64 0,.slice none 0 0] 134 (0,0)):=by rw[b];exact Jc _ _ _
 have V:=Qb y;have f:=Qki (λx=>x.tid==t) 162 #[.pointer (some ⟨w.heap.size,0,none⟩)] Qvx A a s r l (h.bel c) (by
  intros;exact Qs3 _ _ _ t _ _ ((‹Bel a _›).cell (cell_of_block C 0 _ rfl)))
 obtain⟨n,j⟩:=Zx l.length;rw[<-j]at f ⊢;obtain⟨q,o⟩:=Zx (Qt (λx:Qv=>x.tid) t l);rw[La,<-o];obtain⟨P,d⟩:=Zx (Ci l t);rw[<-d];obtain⟨z,K,m,J,D,H,M,I⟩:=Zh8 d j o f b c y (h.mono (B:=λk=>A k\/k=w.heap.size+1) λk E h=>h.elim id λh=>by omega);clear b c C h f j y o d;go_enter func89,ntmps89;go_wp2_with fail;refine(D.o▸J.o).zR λf c=>?_
 rw[<-D.o]at c;have y:=Zh (H.trans c);have b:=c.heap M;have E:=cell_of_block b 0 _ rfl;have Q:=Qa b;have F:=cell_of_block b 1 _ rfl;have W:=Qb b;have o:∀d j,Bel w ((f.setCell ⟨w.heap.size+1,0,none⟩ d).setCell ⟨w.heap.size+1,1,none⟩ j):=λd j=>(y.setCell (p:=⟨w.heap.size+1,0,none⟩) (by show w.heap.size<=w.heap.size+1;omega) d).setCell (p:=⟨w.heap.size+1,1,none⟩) (by show w.heap.size<=w.heap.size+1;omega) j
 have C:=Zh o;clear c b o;rcases q with _|_
 ·have o:(l.any λx=>x.tid==t)=false:=m.symm
  have c:=Ri o;have b:P=⟨0,[]⟩:=by rw[z.o,Ci,N9,List.find?_eq_none.2 λx d=>by simpa using List.any_eq_false.1 o x d];rfl
  rw[c];have j:=Zh b;clear o c m b;go_wp2_with fail;refine bodyPost_ret (v:=.tuple #[.agg #[.int .i64 0,.slice none 0 0],.bool false]) (by simp[results,results89,go_sem,E,F]) rfl ?_;rw[j.o];exact⟨none,0,rfl,Rd.nil _ _ _ _ _ (Nat.zero_le _),C _ _⟩
 ·obtain⟨i,x,c,d,o⟩:=Qkc (show(l.any λx=>x.tid==t)=true from m.symm)
  have b:P=x:=by rw[z.o,Ci,N9,o];rfl
  rw[c];obtain⟨g,off,ao,cap,O,R,c0,c1,G⟩:=Vo (I.bel y.o) d;have N:i<l.length:=(List.getElem?_eq_some_iff.1 d).1;have S:((i:Int)<0)=False:=eq_false (by omega);have T:(0:Int)<=(i:Int):=by omega
  have U:(i:Int)<(n:Int):=by have:=K.o;omega
  subst O;obtain⟨j,L⟩:=Zh2 b G;clear c d o b G N;go_wp2_with fail;refine bodyPost_ret (v:=.tuple #[.agg #[.int .i64 x.tid,.slice ao x.parts.length cap],.bool true]) (by simp[results,results89,go_sem,E,F]) rfl ?_;rw[j.o];have b:Kept (λk=>k=w.heap.size+1) f ((f.setCell ⟨w.heap.size+1,0,none⟩ (.int .i64 x.tid)).setCell ⟨w.heap.size+1,1,none⟩ (.slice ao x.parts.length cap)):=((Kept.refl (λk=>k=w.heap.size+1) f).setCell (p:=⟨w.heap.size+1,0,none⟩) rfl _).setCell (p:=⟨w.heap.size+1,1,none⟩) rfl _;exact⟨ao,cap,rfl,L.keep b (λk h=>.inr h) (λk _ h=>.inl h),C _ _⟩
theorem Qgo(s:St)(z:Option Addr)(r:Nat)(C:Option Addr)(x:Nat)(y:Option Addr)(q:Nat)(B:Option Addr)(v:Nat)(A:Option Addr)(sN:Nat)(t:Int)(D:i64 t)(H:0<s.broker)(w:World)(o:Nat)(f:w.cell? ⟨o,0,none⟩=some (.int .i64 s.broker)):
 Calls prog 92 #[.pointer (some ⟨o,0,none⟩),.agg #[.int .i64 s.broker,.int .i64 s.nextId,.int .i64 s.nextSeq,.int .i64 s.tx,.slice z s.ms.length r,.slice C s.waits.length x,.slice y s.ends.length q,.slice B s.opens.length v,.slice A s.noes.length sN],.int .i64 t] w λe w'=>e=.returned (.bool (Ml s t))/\Bel w w':=by
 obtain⟨G,b⟩:=Zx (w.alloc (.cells #[.int .i64 s.broker,.int .i64 s.nextId,.int .i64 s.nextSeq,.int .i64 s.tx,.slice z s.ms.length r,.slice C s.waits.length x,.slice y s.ends.length q,.slice B s.opens.length v,.slice A s.noes.length sN] 43));have d:=Zb b;have k:=Zn b;have c0:=Up.cell (d.cell f);have L:=Up.cell (cell_of_block k 3 _ rfl);obtain⟨n,l,p⟩:=Zh3 b d (λW=>Bf t D W);have I:=Zd f;obtain⟨R,a⟩:=Zx (Ml s t);rw[<-a];rw[Ml]at a;by_cases g:home t=s.broker
 ·have j:(home t==s.broker)=true:=by simp[g]
  have E:0<=t:=by
   have:0<home t:=by omega
   unfold home at this;split at this<;>omega
  rw[j,Bool.true_and]at a;have K:IntKind.i64.wrap (t.tmod 4294967296)=t % 4294967296:=by rw[Int.tmod_eq_emod_of_nonneg E,IntKind.wrap_i64];omega
  obtain⟨m,J⟩:=Zx (t % 4294967296);have i:=Zh a;clear a g k d b f;go_enter func92,ntmps92;go_wp2_with fail;rw[<-n.o];refine Qs (by kernel_rfl) (by kernel_rfl) ?_;repeat(go_big_quiet_step(first|(go_at_call 67;exact Calls.up_same (p.o _))))
  refine Xg λF c=>?_
  have h:=Zh c;clear c;go_wp2;go_ret;exact⟨by rw[i.o];rfl,l.trans h.o⟩
 ·have j:(home t==s.broker)=false:=by simpa using g
  rw[j,Bool.false_and]at a;have i:=Zh a;clear a g k d b f;go_enter func92,ntmps92;go_wp2_with fail;rw[<-n.o];refine Qs (by kernel_rfl) (by kernel_rfl) ?_;repeat(go_big_quiet_step(first|(go_at_call 67;exact Calls.up_same (p.o _))))
  refine Xg λF c=>?_
  have h:=Zh c;clear c;go_wp2;go_ret;exact⟨by rw[i.o];rfl,l.trans h.o⟩
end Go.Proofs.YtkdpmdfcdgphlaaGreat
namespace Go.Po
open Go.Mem
structure U6 where
 Y:List (Int×Bool)
 N:List (Int×Bool)
 ns:List (Int×Int)
 ticks:Int
structure Aq where
 e:Nat
 vb:Nat
 ym:Nat
 nm:Nat
 mm:Nat
 a:U6
def Aq.has(x:Aq)(k:Nat):Prop:=k=x.e\/vo x.vb x.ym x.nm k\/k=x.mm
def aqV(x:Aq):Value:=.pointer (some ⟨x.e,0,none⟩)
def Ka(C:List (Int×Aq)):List (Int×U6):=C.map λp=>(p.1,p.2.a)
def csO(cb om:Nat)(C:List (Int×Aq))(k:Nat):Prop:=k=cb\/k=om\/∃p∈C,p.2.has k
theorem Qjq(k:Int)(x:Aq)(C:List (Int×Aq)):Ka (Qo k x C)=Qo k x.a (Ka C):=Tp (λx:Aq=>x.a) k x C
theorem Qjr(k:Int)(C:List (Int×Aq)):Ka (Xn k C)=Xn k (Ka C):=Mv (λx:Aq=>x.a) k C
theorem Qt2(k:Int)(C:List (Int×Aq)):Qn k (Ka C)=(Qn k C).map λx=>x.a:=Tq (λx:Aq=>x.a) k C
end Go.Po
namespace Go.Proofs.YtkdpmdfcdgphlaaGreat
open Tryz
open Go.RowKit Go.Mem Go.Po Go.Maps
structure Wj(w:World)(x:Aq):Prop where
 blk:w.heap[x.e]?=some (.cells #[.pointer (some ⟨x.vb,0,none⟩),.map (some x.mm),.int .i64 x.a.ticks] 162 (0,0))
 v:Jy w x.vb x.ym x.nm x.a.Y x.a.N
 m:Mp prog 3 w x.mm (iL Fq x.a.ns)
 ne:¬vo x.vb x.ym x.nm x.e/\¬vo x.vb x.ym x.nm x.mm/\x.e≠x.mm
 tk:0<=x.a.ticks/\x.a.ticks<=1000000
 few:x.a.Y.length<=7/\x.a.ns.length<=100
theorem Wj.lt{w:World}{x:Aq}(h:Wj w x){k:Nat}(a:x.has k):k<w.heap.size:=by
 rcases a with rfl|a|rfl
 ·exact Qb h.blk
 ·exact h.v.lt a
 ·exact h.m.lt
theorem Wj.keep{S:Nat->Prop}{w w':World}{x:Aq}(h:Wj w x)(a:Kept S w w')(b:∀k,x.has k->¬S k):Wj w' x:=
 ⟨a.heap (b _ (.inl rfl)) h.blk,h.v.keep a λk a=>b k (.inr (.inl a)),h.m.kept a (b _ (.inr (.inr rfl))),h.ne,h.tk,h.few⟩
structure Cs(w:World)(cb om kb pb:Nat)(br:Int)(C:List (Int×Aq)):Prop where
 blk:∃T,w.heap[cb]?=some (.cells #[.int .i64 br,.pointer (some ⟨kb,0,none⟩),.pointer (some ⟨pb,0,none⟩),.map (some om)] T (0,0))
 mp:Mp prog 2 w om (iL aqV C)
 up:Xl C
 ent:∀p∈C,Wj w p.2
 sep:∀p∈C,∀q∈C,∀k,p.2.has k->q.2.has k->p=q
 sepb:∀p∈C,∀k,p.2.has k->k≠cb/\k≠om
 ne:cb≠om
 k64:∀p∈C,i64 p.1
section
variable {S : Nat → Prop} {w w' : World} {cb om kb pb : Nat} {br : Int} {C : List (Int × Aq)}
theorem Cs.lt(h:Cs w cb om kb pb br C){k:Nat}(a:csO cb om C k):k<w.heap.size:=by
 rcases a with rfl|rfl|⟨p,hp,a⟩
 ·obtain⟨T,b⟩:=h.blk;exact Qb b
 ·exact h.mp.lt
 ·exact(h.ent p hp).lt a
theorem Cs.keep(h:Cs w cb om kb pb br C)(a:Kept S w w')(b:∀k,csO cb om C k->¬S k):Cs w' cb om kb pb br C:=by
 obtain⟨⟨T,d⟩,e,f,g,i,j,l,m⟩:=h;exact⟨⟨T,a.heap (b _ (.inl rfl)) d⟩,e.kept a (b _ (.inr (.inl rfl))),f,λp c=>(g p c).keep a λk a=>b k (.inr (.inr ⟨p,c,a⟩)),i,j,l,m⟩
theorem Cs.bel(h:Cs w cb om kb pb br C)(a:Bel w w'):Cs w' cb om kb pb br C:=h.keep (a.kept λ_=>False) λ_ _ h=>h
theorem Cs.c0(h:Cs w cb om kb pb br C):w.cell? ⟨cb,0,none⟩=some (.int .i64 br):=by obtain⟨T,a⟩:=h.blk;exact cell_of_block a 0 _ rfl
theorem Cs.c1(h:Cs w cb om kb pb br C):w.cell? ⟨cb,1,none⟩=some (.pointer (some ⟨kb,0,none⟩)):=by obtain⟨T,a⟩:=h.blk;exact cell_of_block a 1 _ rfl
theorem Cs.c2(h:Cs w cb om kb pb br C):w.cell? ⟨cb,2,none⟩=some (.pointer (some ⟨pb,0,none⟩)):=by obtain⟨T,a⟩:=h.blk;exact cell_of_block a 2 _ rfl
theorem Cs.c3(h:Cs w cb om kb pb br C):w.cell? ⟨cb,3,none⟩=some (.map (some om)):=by obtain⟨T,a⟩:=h.blk;exact cell_of_block a 3 _ rfl
theorem Qzq{om:Nat}{C:List (Int×Aq)}(h:Mp prog 2 w om (iL aqV C)){k:Int}(a:i64 k):(Instr.lookup 151 (.map (some om)) (.int .i64 k) false).run prog w=.ok (.pointer ((Qn k C).map λx=>⟨x.e,0,none⟩)) w:=by
 have:=h.look Yo underlying151 (zeroValue158 w) rfl (Cu a);rw[this,Vp];cases Qn k C<;>rfl
theorem Cs.set(r:Cs w cb om kb pb br C)(k:Int)(E:i64 k)(x:Aq)(B:w'.heap[cb]?=w.heap[cb]?)(G:Mp prog 2 w' om (iL aqV (Qo k x C)))(I:Wj w' x)
 (D:∀p∈C,p.1≠k->Wj w' p.2) (n:∀j,x.has j->(∃y,Qn k C=some y/\y.has j)\/w.heap.size<=j):Cs w' cb om kb pb br (Qo k x C):=by
 obtain⟨⟨T,i⟩,s,t,v,l,m,z,A⟩:=r;have F:∀p∈C,∀j,p.2.has j->j<w.heap.size:=λp a j c=>(v p a).lt c
 have J:cb<w.heap.size/\om<w.heap.size:=⟨Qb i,s.lt⟩;have o:∀p∈C,p.1≠k->∀j,x.has j->¬p.2.has j:=λp a b j c d=>by
  rcases n j c with⟨y,g,h⟩|H
  ·have:=l p a (k,y) (Xh g) j d h
   rw[this]at b;exact b rfl
  ·have:=F p a j d;omega
 refine⟨⟨T,B.trans i⟩,G,Rw t,λp a=>?_,λp a q e j f d=>?_,λp a j c=>?_,z,λp a=>?_⟩
 ·rcases Zt.1 a with rfl|⟨a,b⟩
  ·exact I
  ·exact D p a b
 ·rcases Zt.1 a with rfl|⟨a,b⟩<;>rcases Zt.1 e with rfl|⟨e,hne2⟩
  ·rfl
  ·exact absurd d (o q e hne2 j f)
  ·exact absurd f (o p a b j d)
  ·exact l p a q e j f d
 ·rcases Zt.1 a with rfl|⟨a,b⟩
  ·rcases n j c with⟨y,g,h⟩|H
   ·exact m _ (Xh g) j h
   ·omega
  ·exact m p a j c
 ·rcases Zt.1 a with rfl|⟨a,_⟩
  ·exact E
  ·exact A p a
theorem Qxd{k:Int}{x:Aq}{N:Nat}(a:∀j,x.has j->csO cb om C j\/N<=j):∀j,csO cb om (Qo k x C) j->csO cb om C j\/N<=j:=by
 rintro j (rfl|rfl|⟨p,hp,hj⟩)
 ·exact .inl (.inl rfl)
 ·exact .inl (.inr (.inl rfl))
 ·rcases Zt.1 hp with rfl|⟨hp,_⟩
  ·exact a j hj
  ·exact .inl (.inr (.inr ⟨p,hp,hj⟩))
theorem Qn6{k:Int}:∀j,csO cb om (Xn k C) j->csO cb om C j:=by
 rintro j (rfl|rfl|⟨p,hp,hj⟩)
 ·exact .inl rfl
 ·exact .inr (.inl rfl)
 ·exact .inr (.inr ⟨p,(Jo.1 hp).1,hj⟩)
theorem Cs.del(h:Cs w cb om kb pb br C){k:Int}(r:i64 k):∃w',(Builtin.delete_ #[151,2] 0 #[.map (some om),.int .i64 k]).run prog w=.ok (.tuple #[]) w'/\Cs w' cb om kb pb br (Xn k C)/\Kept (λj=>j=om) w w':=by
 obtain⟨t,s,f,b⟩:=h.mp.del Yo underlying151 (Cu r) 0;rw[Wv]at f;obtain⟨⟨T,g⟩,v,i,l,m,c,d,n⟩:=h;exact⟨t,s,⟨⟨T,b.heap d g⟩,f,Qg8 i,λp a=>(l p (Jo.1 a).1).keep b λj o e=>(c p (Jo.1 a).1 j o).2 e,λp a q o=>m p (Jo.1 a).1 q (Jo.1 o).1,λp a=>c p (Jo.1 a).1,d,λp a=>n p (Jo.1 a).1⟩,b⟩
end
def U0(n:Nat)(C:List (Int×Aq)):Prop:=C.length<=n/\∀p∈C,p.2.a.N.length<=n
theorem U0.mono{n m:Nat}{C:List (Int×Aq)}(h:U0 n C)(a:n<=m):U0 m C:=⟨Nat.le_trans h.1 a,λp b=>Nat.le_trans (h.2 p b) a⟩
theorem U0.del{n:Nat}{C:List (Int×Aq)}(h:U0 n C)(k:Int):U0 n (Xn k C):=⟨Nat.le_trans (List.length_filter_le _ _) h.1,λp a=>h.2 p (Jo.1 a).1⟩
theorem U0.put{n:Nat}{C:List (Int×Aq)}(h:U0 n C)(k:Int)(x:Aq)(b:x.a.N.length<=n+1):U0 (n+1) (Qo k x C):=⟨Nat.le_trans (putI_len k x C) (Nat.succ_le_succ h.1),λp a=>by
 rcases Zt.1 a with rfl|a
 ·exact b
 ·exact Nat.le_trans (h.2 p a.1) (Nat.le_succ n)⟩
def Cq(n:Nat)(A O:Nat->Prop)(w:World)(cb pb kb db:Nat)(l:List St)(s:St)(G:List (Int×Goes))(K:List (Int×U6)):Prop:=
 ∃(Op:Nat->Prop) (om:Nat) (C:List (Int×Aq)),(∀j,O j↔Op j\/csO cb om C j)/\Pq n A Op w pb kb db l s G/\Cs w cb om kb pb s.broker C/\(∀j,csO cb om C j->¬Op j/\A j)/\Ka C=K/\U0 n C
section
variable {n n' : Nat} {A B O Op S : Nat → Prop} {w w' : World} {cb pb kb db om : Nat} {l l' : List St} {s s' : St} {G G' : List (Int × Goes)} {K : List (Int × U6)} {C C' : List (Int × Aq)}
theorem Cq.keep(h:Cq n A O w cb pb kb db l s G K)(e:Kept S w w')(d:∀j,O j->¬S j)(o:∀j,S j->A j)(m:∀j,j<w.heap.size->B j->A j)(c:∀j,O j->B j):Cq n B O w' cb pb kb db l s G K:=by
 obtain⟨Op,om,C,b,f,g,i,k⟩:=h;exact⟨Op,om,C,b,f.keep e (λj a=>d j ((b j).2 (.inl a))) o m λj a=>c j ((b j).2 (.inl a)),g.keep e λj a=>d j ((b j).2 (.inr a)),λj a=>⟨(i j a).1,c j ((b j).2 (.inr a))⟩,k⟩
theorem Cq.oa(h:Cq n A O w cb pb kb db l s G K):∀j,O j->A j:=by
 obtain⟨Op,om,C,a,b,e,c,f⟩:=h;exactλj d=>((a j).1 d).elim (b.oa j) λh=>(c j h).2
theorem Cq.lt(h:Cq n A O w cb pb kb db l s G K):∀j,O j->j<w.heap.size:=by
 obtain⟨Op,om,C,a,b,c,e,f⟩:=h;exactλj d=>((a j).1 d).elim (b.lt j) λh=>c.lt h
theorem Cq.bel(h:Cq n A O w cb pb kb db l s G K)(a:Bel w w'):Cq n A O w' cb pb kb db l s G K:=h.keep (a.kept λ_=>False) (λ_ _ h=>h) (λ_ h=>h.elim) (λ_ _ h=>h) h.oa
theorem Cq.mono(h:Cq n A O w cb pb kb db l s G K)(a:∀j,j<w.heap.size->B j->A j)(b:∀j,O j->B j):Cq n B O w cb pb kb db l s G K:=h.keep (Kept.refl (λ_=>False) w) (λ_ _ h=>h) (λ_ h=>h.elim) a b
theorem Cq.more(h:Cq n A O w cb pb kb db l s G K)(a:n<=n'):Cq n' A O w cb pb kb db l s G K:=by
 obtain⟨Op,om,C,b,c,d,e,f,g⟩:=h;exact⟨Op,om,C,b,c.more a,d,e,f,g.mono a⟩
theorem Cq.self(h:Cq n A O w cb pb kb db l s G K)(b:Bel w w'):Zq A O w w' λA O w=>Cq n A O w cb pb kb db l s G K:=
 ⟨O,(h.bel b).mono (λj _ a=>a.elim id (h.oa j)) λj a=>.inr a,b.kept _,λj a=>.inl a⟩
theorem Cq.good(h:Cq n A O w cb pb kb db l s G K):Go.Po.Good s:=by obtain⟨Op,om,C,b,a,_⟩:=h;exact a.good
theorem Qn7(p:Pq n A Op w pb kb db l s G)(e:Cs w cb om kb pb s.broker C)(c:∀j,csO cb om C j->¬Op j/\A j)(b:∀j,O j↔Op j\/csO cb om C j)(k:U0 n' C)(i:s'.broker=s.broker)
 (m:Zq A Op w w' λA O w=>Pq n' A O w pb kb db l' s' G'):Zq A O w w' λA O w=>Cq n' A O w cb pb kb db l' s' G' (Ka C):=by
 obtain⟨d,o,f,g⟩:=m;refine⟨λj=>d j\/csO cb om C j,⟨d,om,C,λj=>Iff.rfl,o.mono (λj a h=>?_) (λj a=>.inr (.inl a)),by rw[i];exact e.keep f λj a=>(c j a).1,λj a=>⟨λh=>?_,.inr (.inr a)⟩,rfl,k⟩,f.mono λj _ a=>(b j).2 (.inl a),λj a=>?_⟩
 ·rcases h with h|h|h
  ·exact .inl h
  ·exact .inr h
  ·exact .inl (c j h).2
 ·rcases g j h with h|h
  ·exact(c j a).1 h
  ·have:=e.lt a;omega
 ·rcases a with a|a
  ·exact(g j a).imp (λh=>(b j).2 (.inl h)) id
  ·exact .inl ((b j).2 (.inr a))
theorem Qyz(e:Pq n A Op w pb kb db l s G)(o:Cs w cb om kb pb s.broker C)(b:∀j,csO cb om C j->¬Op j/\A j)(d:∀j,O j↔Op j\/csO cb om C j)(k:U0 n' C')(m:n<=n')
 (i:Cs w' cb om kb pb s.broker C') (g:Kept (csO cb om C) w w') (f:∀j,csO cb om C' j->csO cb om C j\/w.heap.size<=j):Zq A O w w' λA O w=>Cq n' A O w cb pb kb db l s G (Ka C'):=by
 refine⟨λj=>Op j\/csO cb om C' j,⟨Op,om,C',λj=>Iff.rfl,(e.more m).keep g (λj h c=>(b j c).1 h) (λj h=>(b j h).2) (λj a h=>?_) (λj a=>.inr (.inl a)),i,λj a=>⟨λh=>?_,.inr (.inr a)⟩,rfl,k⟩,g.mono λj _ a=>(d j).2 (.inr a),λj a=>?_⟩
 ·rcases h with h|h|h
  ·exact h
  ·exact e.oa j h
  ·rcases f j h with h|h
   ·exact(b j h).2
   ·omega
 ·rcases f j a with c|c
  ·exact(b j c).1 h
  ·have:=e.lt j h;omega
 ·rcases a with a|a
  ·exact .inl ((d j).2 (.inl a))
  ·exact(f j a).imp (λh=>(d j).2 (.inr h)) id
theorem Qjs(h:Pq n A Op w pb kb db l s G):
 Calls prog 38 #[.int .i64 s.broker,.pointer (some ⟨kb,0,none⟩),.pointer (some ⟨pb,0,none⟩)] w λe w'=>∃cb,e=.returned (.pointer (some ⟨cb,0,none⟩))/\Zq A Op w w' λA O w=>Cq n A O w cb pb kb db l s G []:=by
 have H:=Zh h;have d:∀w,(Instr.makeMap 151 none).run prog w=.ok (.map (some w.heap.size)) (w.alloc (.map #[] 0)):=λw=>rfl
 clear h;go_enter func38,ntmps38;go_wp2_with fail;go_ret;have c:Bel w (w.alloc (.map #[] 0)):=(Bel.refl w).alloc _;have b2:Bel w ((w.alloc (.map #[] 0)).alloc (.cells #[.int .i64 s.broker,.pointer (some ⟨kb,0,none⟩),.pointer (some ⟨pb,0,none⟩),.map (some w.heap.size)] 153)):=c.alloc _;have f:(w.alloc (.map #[] 0)).heap.size=w.heap.size+1:=by simp
 refine⟨w.heap.size+1,by first|rfl|simp,λj=>Op j\/csO (w.heap.size+1) w.heap.size [] j,⟨Op,w.heap.size,[],λj=>Iff.rfl,?_,⟨⟨_,Jc _ _ _⟩,(Mp.made w _ _).bel ((Bel.refl _).alloc _),List.Pairwise.nil,λp a=>by simp at a,λp a=>by simp at a,λp a=>by simp at a,by omega,λp a=>by simp at a⟩,λj b=>⟨λh=>?_,.inr (.inr b)⟩,rfl,⟨Nat.zero_le _,λp a=>by simp at a⟩⟩,b2.kept _,λj b=>?_⟩
 ·exact(H.mono (λj b h=>by
   rcases h with h|h|h
   ·exact h
   ·exact H.oa j h
   ·rcases h with h|h|⟨p,a,_⟩
    ·omega
    ·omega
    ·simp at a) λj h=>.inr (.inl h)).bel b2
 ·have:=H.lt j h
  rcases b with h|h|⟨p,a,_⟩
  ·omega
  ·omega
  ·simp at a
 ·rcases b with h|h|h|⟨p,a,_⟩
  ·exact .inl h
  ·exact .inr (by omega)
  ·exact .inr (by omega)
  ·simp at a
end
end Go.Proofs.YtkdpmdfcdgphlaaGreat
namespace Go.Po
open Go.Mem Go.Proofs.YtkdpmdfcdgphlaaGreat
def pkV(x:Ye):List Value:=[.int .i64 x.kind,.int .i64 x.src,.int .i64 x.to,.int .i64 x.tid,.int .i64 x.n,.bool x.yes]
def Fw(br t:Int)(yes:Bool)(ps:List Int):List Ye:=ps.map λn=>⟨3,br,n,t,0,yes⟩
def Mc(k:Int)(ns:List (Int×Int)):Int:=(Qn k ns).getD 0
def Qbc(br t:Int)(a:U6):List Ye:=(Gv a.Y a.N).map λn=>⟨1,br,n,t,Mc n a.ns,false⟩
end Go.Po
namespace Go.Proofs.YtkdpmdfcdgphlaaGreat
open Tryz
open Go.RowKit Go.Mem Go.Po
theorem Qhf:El prog 63 80 6 48:=El.mk' underlying63 (z:=.agg #[.int .i64 0,.int .i64 0,.int .i64 0,.int .i64 0,.int .i64 0,.bool false]) (by kernel_rfl) rfl
theorem Qwa(w:World){b:Nat}(x:Ye){T:TypeId}{c:Nat×Nat}(h:w.heap[b]?=some (.cells #[.int .i64 x.kind,.int .i64 x.src,.int .i64 x.to,.int .i64 x.tid,.int .i64 x.n,.bool x.yes] T c)):Src prog 6 63 (.slice (some ⟨b,0,none⟩) 1 1) 1 (pkV x) w:=
 Src.ofSlice w underlying63 ⟨b,0,none⟩ 1 1 (pkV x) rfl (λj d a=>by
  have:=cell_of_block h j d (by simpa[pkV] using a);rw[Addr.add_lit,Nat.zero_add];exact this) (λv a=>by simp only[pkV,List.mem_cons,List.not_mem_nil,or_false]at a;rcases a with rfl|rfl|rfl|rfl|rfl|rfl<;>rfl)
section
variable {n n' : Nat} {A B O Ok Op S : Nat → Prop} {w w' : World} {cb pb kb db om : Nat} {l l' : List St} {s s' : St} {G G' : List (Int × Goes)} {K : List (Int × U6)} {C C' : List (Int × Aq)}
theorem Rh(i:w.cell? ⟨cb,1,none⟩=some (.pointer (some ⟨kb,0,none⟩)))(r:Rec)(rp:Option Addr)(b:Nat)(g:Option Addr)(c:Nat)(f:Bool)(z:(r.kind !=9)=f)(v:Int)(R:World->Prop)
 (j:∀W,Bel w W->Calls prog 63 #[.pointer (some ⟨kb,0,none⟩),.agg #[.int .i64 r.kind,.int .i64 r.tid,.int .i64 r.id,.bool r.yes,.slice rp r.parts.length b,.slice g r.puts.length c],.bool f] W λe w'=>e=.returned (.int .i64 v)/\R w'):
 Calls prog 82 #[.pointer (some ⟨cb,0,none⟩),.agg #[.int .i64 r.kind,.int .i64 r.tid,.int .i64 r.id,.bool r.yes,.slice rp r.parts.length b,.slice g r.puts.length c]] w λe w'=>e=.returned (.int .i64 v)/\R w':=by
 obtain⟨y,a⟩:=Zx (w.alloc (.cells #[.int .i64 r.kind,.int .i64 r.tid,.int .i64 r.id,.bool r.yes,.slice rp r.parts.length b,.slice g r.puts.length c] 124));have h:=Zb a;have k:=Zn a;obtain⟨n,l,p,m,o⟩:=Zh5 a h k i j;clear a h k i j;go_enter func82,ntmps82;go_upto_region 1 with (fail);rw[<-n.o];refine Zp [8,9] 10 (by kernel_rfl) rfl (by kernel_rfl) (λ_ d _ _ _ h=>by cases d<;>exact h) ?_;intro x a i;have h:=Zh (l.trans a);have c1:=Up.cell (h.cell m);obtain⟨j,k,q,t3,s,t⟩:=rUp (a.heap p.o);clear a i;refine Xt 2 [0,1,2,3,4,5,6,7] (by kernel_rfl) rfl ?_;simp only[Za,List.getElem?_cons_zero,List.getElem?_cons_succ];repeat(go_big_quiet_step(fail))
 refine wpQuiet_nil ?_;clear c1 j k q t3 s t;refine Qq 1 8 (by kernel_rfl) rfl ?_;go_wp2_with fail;refine(o x h).zR λa a=>?_
 have i:=Zh a;clear a;go_wp2_with fail;refine Z6 ?_;refine Qq 0 9 (by kernel_rfl) rfl ?_;go_wp2_with fail;refine Z6 ?_;refine X0 (by kernel_rfl) ?_;go_wp2;go_ret;exact⟨rfl,i⟩
theorem Qdz(b t:Int)(c:Bool)(ps:List Int)(f:w.cell? ⟨cb,0,none⟩=some (.int .i64 b))(po:Option Addr)(pc:Nat)(h:Rd Qh B w po pc ps)(G:ps.length<=100000):
 Calls prog 96 #[.pointer (some ⟨cb,0,none⟩),.int .i64 t,.bool c,.slice po ps.length pc] w λe w'=>∃ao cap,e=.returned (.slice ao (Fw b t c ps).length cap)/\Own Xw A w w' 80 ao cap (Fw b t c ps)/\Bel w w':=by
 obtain⟨H,y⟩:=Zh2 h f;obtain⟨m,d⟩:=Zx ps.length;rw[<-d]at G ⊢;have n:=Zh d;clear h f d;go_enter func96,ntmps96;go_wp2;go_loopw[9,11,14] (λq _ a wr=>∃(i:Nat) (j:Option Addr) (h d:Nat),i<=m/\a=.int .i64 i/\q=.slice j d h/\Hid (d=(Fw b t c (ps.take i)).length)/\Hid (Own Xw A w wr 80 j h (Fw b t c (ps.take i)))/\Hid (Bel w wr)) (λ_ _ a _=>m-(intOf a).toNat)
 case atStart=>exact⟨0,none,0,0,Nat.zero_le _,rfl,rfl,Zh rfl,Zh (Own.nil _ _ _ _ _),Zh (Bel.refl _)⟩
 case round=>
  obtain⟨i,j,h,d,O,rfl,rfl,l,o,f⟩:=hrel;have z:d=i:=by rw[l.o,Fw,List.length_map,List.length_take];have:=n.o;omega
  by_cases L:i<m
  ·obtain⟨x,p⟩:∃x,ps[i]?=some x:=⟨ps[i]'(by have:=n.o;omega),by simp⟩
   obtain⟨g,off,I,K,c0⟩:=Yf (H.bel f.o) p;have v:Fw b t c (ps.take (i+1))=Fw b t c (ps.take i)++[⟨3,b,x,t,0,c⟩]:=by rw[Fw,Fw,List.take_add_one,p];simp
   have c1:=f.cell y;have J:=Zd c1;have M:(0:Int)<=(i:Int):=by omega
   have N:(i:Int)<(m:Int):=by omega
   have Q:IntKind.i64.wrap ((i:Int)+1)=((i+1:Nat):Int):=by rw[IntKind.wrap_i64];omega
   have s:=Zh v;have P:d<=100000:=by omega
   subst I;clear p v z;go_wp2_with(at_builtin;go_must (refine Xe (r:=Xw) (A:=A) (w0:=w) _ rfl _ _ 63 63 rfl Qhf j d h (Fw b t c (ps.take i)) l.o (o.bel ((Bel.refl _).alloc _)) rfl _ rfl [⟨3,b,x,t,0,c⟩] (pkV ⟨3,b,x,t,0,c⟩) (Ch.one rfl rfl) (Qwa _ ⟨3,b,x,t,0,c⟩ (heap_alloc_new _ _)) (by simp;omega) (by omega) (by have:=f.size;simp;omega) ?_);intro D E R v p F;have C:=Zh v;have z:=Zh p;clear v p F);have p:=Zh ((f.alloc (.cells (pkV ⟨3,b,x,t,0,c⟩).toArray 80)).of_kept z.o λk F=>by obtain⟨_,_,_,v⟩:=o.o;exact v k F);go_roundw
   case rel=>exact⟨i+1,D,E,d+1,by omega,by go_num,by rfl,Zh (by rw[s.o,List.length_append,<-l.o];rfl),Zh (by rw[s.o];exact C.o),p⟩
   case measure=>simp[intOf];omega
  ·obtain rfl:i=m:=by omega
   go_wp2;go_ret;have s:=o.o;have p:=l.o;rw[List.take_of_length_le (by rw[<-n.o];exact Nat.le_refl _)]at s p;exact⟨j,h,by rw[<-p];rfl,s,f.o⟩
theorem Qzr{b:Nat}{a:List (Int×Int)}(h:Mp prog 3 w b (iL Fq a)){k:Int}(c:i64 k):(Instr.lookup 159 (.map (some b)) (.int .i64 k) false).run prog w=.ok (.int .i64 (Mc k a)) w:=by
 have:=h.look Lt underlying159 (zeroValue3 w) rfl (Qcx c);rw[this,Vp,Mc];cases Qn k a<;>rfl
theorem Qt3{x:Aq}(h:Wj w x){k:Int}(a:k∈Gv x.a.Y x.a.N):i64 k:=by
 rw[Gv]at a;obtain⟨p,b,rfl⟩:=List.mem_map.1 (List.mem_filter.1 a).1;exact h.v.k p b
theorem Qt4{x:Aq}(h:Wj w x):(Gv x.a.Y x.a.N).length<=7:=by
 have a:(Gv x.a.Y x.a.N).length<=(x.a.Y.map (·.1)).length:=List.length_filter_le _ _;have:=h.few.1;rw[List.length_map]at a;omega
theorem Qjt(c t:Int)(x:Aq)(f:Wj w x)(X:∀k,A k->k<w.heap.size)(z:w.cell? ⟨cb,0,none⟩=some (.int .i64 c)):
 Calls prog 87 #[.pointer (some ⟨cb,0,none⟩),.int .i64 t,.pointer (some ⟨x.e,0,none⟩)] w λe w'=>∃ao cap,e=.returned (.slice ao (Qbc c t x.a).length cap)/\Own Xw A w w' 80 ao cap (Qbc c t x.a)/\Bel w w':=by
 obtain⟨H,L⟩:=Zh2 f z;obtain⟨M,h⟩:∃M,M=Gv x.a.Y x.a.N:=⟨_,rfl⟩;have K:=Qt4 f;have Y:=Zh (λk o=>Qt3 f (k:=k) (h▸o));obtain⟨b,j⟩:∃b:List Int->List Ye,b=λl=>l.map λn=>⟨1,c,n,t,Mc n x.a.ns,false⟩:=⟨_,rfl⟩
 have B:Qbc c t x.a=b M:=by rw[j,h];rfl
 obtain⟨I,S,R⟩:=Zh3 (show ∀l,(b l).length=l.length fromλl=>by rw[j,List.length_map]) (show ∀l n,b (l++[n])=b l++[⟨1,c,n,t,Mc n x.a.ns,false⟩] fromλl n=>by rw[j];simp) (show b []=[] by rw[j];rfl);rw[B];have v:=Qce A w x.vb x.ym x.nm x.a.Y x.a.N f.v;obtain⟨m,p⟩:∃m,m=M.length:=⟨_,rfl⟩;rw[<-h]at K;rw[<-h,<-p]at v;rw[<-p]at K;obtain⟨s,O⟩:=Zh2 p v;have c0:=cell_of_block f.blk 0 _ rfl;have al:=Qb f.blk;clear f z j B h p v;go_enter func87,ntmps87;go_wp2_with fail;refine O.mono ?_;rintro e F ⟨an,am,f,rfl,j,rfl,h⟩;obtain⟨U,C⟩:=Zh2 (j.rd X) h;clear j h c0;go_wp2;go_loopw[7,9,16] (λq _ a wr=>∃(i:Nat) (p:Option Addr) (j h:Nat),i<=m/\a=.int .i64 i/\q=.slice p h j/\Hid (h=i)/\Hid (Own Xw A F wr 80 p j (b (f.take i)))/\Hid (Bel F wr)) (λ_ _ a _=>m-(intOf a).toNat)
 case atStart=>exact⟨0,none,0,0,Nat.zero_le _,rfl,rfl,Zh rfl,Zh (by rw[List.take_zero,R.o];exact Own.nil _ _ _ _ _),Zh (Bel.refl _)⟩
 case round=>
  obtain⟨i,p,j,h,ai,rfl,rfl,B,E,v⟩:=hrel;by_cases ae:i<m
  ·obtain⟨y,z⟩:∃y,f[i]?=some y:=⟨f[i]'(by have:=s.o;omega),by simp⟩
   obtain⟨g,off,Z,ad,c0⟩:=Yf (U.bel v.o) z;have D:b (f.take (i+1))=b (f.take i)++[⟨1,c,y,t,Mc y x.a.ns,false⟩]:=by rw[List.take_add_one,z];exact S.o _ _
   have af:(0:Int)<=(i:Int):=by omega
   have ah:(i:Int)<(m:Int):=by omega
   have ak:IntKind.i64.wrap ((i:Int)+1)=((i+1:Nat):Int):=by rw[IntKind.wrap_i64];omega
   have T:=Zh D;have ab:=Y y (List.mem_of_getElem? z);have aj:h<=100000:=by have:=B.o;omega
   subst Z;clear z D;go_upto_region 5 with (fail);refine Zp [15,16] 17 (by kernel_rfl) rfl (by kernel_rfl) (λ_ d _ _ _ z=>by cases d<;>exact z) ?_;intro ac z J;obtain⟨D,G⟩:=Zh2 (C.trans (v.trans z)) (v.trans z);have N:=Up.cell (D.cell L);have Q:=Up.cell (cell_of_block (D.heap H.blk) 1 _ rfl);have V:∀g:Up ac,(Instr.lookup 159 (.map (some x.mm)) (.int .i64 y) false).run prog g.wd=.ok (.int .i64 (Mc y x.a.ns)) g.wd:=λg=>Qzr (H.m.bel (D.trans g.bel)) ab
   have P:=Zh (E.bel z);clear z J c0;refine Xt 3 [0,1,2,3,4,5,6,7,8,9,10,11,12,13] (by kernel_rfl) rfl ?_;simp only[Za,List.getElem?_cons_zero,List.getElem?_cons_succ];repeat(go_big_quiet_step(fail))
   refine wpQuiet_nil ?_;clear N Q V;refine Qq 2 14 (by kernel_rfl) rfl ?_;go_wp2_with fail;refine Zl ((Bel.refl _).alloc _) ?_;refine Qq 1 15 (by kernel_rfl) rfl ?_;go_wp2_with(at_builtin;go_must (refine Xe (r:=Xw) (A:=A) (w0:=F) _ rfl _ _ 63 63 rfl Qhf p h j (b (f.take i)) (by rw[B.o,I.o,List.length_take];have:=s.o;omega) (P.bel ((Bel.refl _).alloc _)) rfl _ rfl [⟨1,c,y,t,Mc y x.a.ns,false⟩] (pkV ⟨1,c,y,t,Mc y x.a.ns,false⟩) (Ch.one rfl rfl) (Qwa _ ⟨1,c,y,t,Mc y x.a.ns,false⟩ (heap_alloc_new _ _)) (by simp;omega) (by omega) (by have:=G.size;simp;omega) ?_);intro V W ap J z aa;have Q:=Zh J;have N:=Zh z;clear J z aa);refine Z6 ?_;refine Qq 0 16 (by kernel_rfl) rfl ?_;go_wp2_with fail;refine Z6 ?_;refine X0 (by kernel_rfl) ?_;have z:=Zh ((G.alloc (.cells (pkV ⟨1,c,y,t,Mc y x.a.ns,false⟩).toArray 80)).of_kept N.o λk o=>by obtain⟨_,_,_,J⟩:=E.o;exact J k o);go_wp2;go_roundw
   case rel=>exact⟨i+1,V,W,h+1,by omega,by go_num,by rfl,Zh (by rw[B.o]),Zh (by rw[T.o];exact Q.o),z⟩
   case measure=>simp[intOf];omega
  ·obtain rfl:i=m:=by omega
   go_wp2;go_ret;have z:=E.o;have D:=B.o;rw[List.take_of_length_le (by rw[<-s.o];exact Nat.le_refl _)]at z;obtain⟨xs,G,J,N⟩:=z;exact⟨p,j,by rw[I.o,<-s.o,<-D];rfl,⟨xs,G,J,λk o=>Nat.le_trans C.size (N k o)⟩,C.trans v.o⟩
end
end Go.Proofs.YtkdpmdfcdgphlaaGreat
namespace Go.Po
open Go.Mem Go.Proofs.YtkdpmdfcdgphlaaGreat
def Sj(s:St)(t busy:Int):Int:=if Ml s t=false then 1 else if Mk s t=true then 9 else if Qt (λx:Qv=>x.tid) t s.opens=true then busy else 0
def Gy(t:Int)(yes:Bool)(parts:List Int)(G:List (Int×Goes)):Rec:=if yes=true then ⟨7,t,0,false,[],Qcs t G⟩ else ⟨8,t,0,false,parts,[]⟩
structure Br where
 l:List St
 s:St
 G:List (Int×Goes)
 K:List (Int×U6)
def Br.of(b:Br)(n:Nat)(A O:Nat->Prop)(w:World)(cb pb kb db:Nat):Prop:=Cq n A O w cb pb kb db b.l b.s b.G b.K
def Wn(b:Br)(t:Int)(yes:Bool)(parts:List Int):(List Ye×Int)×Br:=
 if (Zf b.s (Gy t yes parts b.G)==0)=true then ((Fw b.s.broker t yes parts,0),⟨[Qf b.s (Gy t yes parts b.G)],Qf b.s (Gy t yes parts b.G),Xn t b.G,Xn t b.K⟩)
 else (([],Zf b.s (Gy t yes parts b.G)),b)
end Go.Po
namespace Go.Proofs.YtkdpmdfcdgphlaaGreat
open Tryz
open Go.RowKit Go.Mem Go.Po
theorem Qri{w:World}{g:Nat}{a0 a1 a2 a3 a4 a5 b c d e f h:Value}(T:TypeId)(a:Nat×Nat)(i:w.heap[g]?=some (.cells #[a0,a1,a2,a3,a4,a5] T a)):
 ((((((w.setCell ⟨g,0,none⟩ b).setCell ⟨g,1,none⟩ c).setCell ⟨g,2,none⟩ d).setCell ⟨g,3,none⟩ e).setCell ⟨g,4,none⟩ f).setCell ⟨g,5,none⟩ h).heap[g]?=some (.cells #[b,c,d,e,f,h] T a):=by
 have j:=Go.Mem.heap_setCell_same _ g 0 b _ T a i;have k:=Go.Mem.heap_setCell_same _ g 1 c _ T a j;have l:=Go.Mem.heap_setCell_same _ g 2 d _ T a k;have m:=Go.Mem.heap_setCell_same _ g 3 e _ T a l;have n:=Go.Mem.heap_setCell_same _ g 4 f _ T a m;have o:=Go.Mem.heap_setCell_same _ g 5 h _ T a n;rw[o];simp
section
variable {n n' : Nat} {A B O Ok Op S : Nat → Prop} {w w' : World} {cb pb kb db om : Nat} {l l' : List St} {s s' : St} {G G' : List (Int × Goes)} {K : List (Int × U6)} {C C' : List (Int × Aq)}
theorem Qxi{A B:Nat->Prop}{w0 w:World}{e:TypeId}{ao:Option Addr}{cap:Nat}{l:List Ye}(h:Own Xw A w0 w e ao cap l):Own Xw B w0 w e ao cap l:=by
 obtain⟨xs,a,b,c⟩:=h;exact⟨xs,a.mono λ_ _ _ h=>h,b,c⟩
theorem Qn9{g i:World}(z:Pq n A Op w pb kb db l s G)(r:Cs w cb om kb pb s.broker C)(e:∀j,csO cb om C j->¬Op j/\A j)(c:∀j,O j↔Op j\/csO cb om C j)(y:Zq A Op w g λA O w=>Pq n' A O w pb kb db l' s' G')(v:s'.broker=s.broker)
 (t:Cs i cb om kb pb s.broker C') (k:Kept (csO cb om C) g i) (f:∀j,csO cb om C' j->csO cb om C j\/g.heap.size<=j) (x:U0 n' C'):Zq A O w i λA O w=>Cq n' A O w cb pb kb db l' s' G' (Ka C'):=by
 obtain⟨d,o,p,q⟩:=y;have m:∀j,d j->¬csO cb om C j:=λj h b=>(q j h).elim (e j b).1 λh=>by have:=r.lt b;omega
 refine⟨λj=>d j\/csO cb om C' j,⟨d,om,C',λj=>Iff.rfl,o.keep k m (λj h=>.inl (e j h).2) (λj a h=>?_) (λj h=>.inr (.inl h)),by rw[v];exact t,λj a=>⟨λh=>?_,.inr (.inr a)⟩,rfl,x⟩,(p.mono λj _ h=>(c j).2 (.inl h)).trans (k.mono λj _ h=>(c j).2 (.inr h)),λj a=>?_⟩
 ·rcases h with h|h|h
  ·exact .inl h
  ·exact .inr h
  ·exact(f j h).elim (λh=>.inl (e j h).2) λh=>by omega
 ·rcases f j a with b|b
  ·exact m j h b
  ·have:=o.lt j h;omega
 ·rcases a with a|a
  ·exact(q j a).imp (λh=>(c j).2 (.inl h)) id
  ·exact(f j a).imp (λh=>(c j).2 (.inr h)) λh=>Nat.le_trans p.size h
theorem Qpt{a b:World}{ao:Option Addr}{cap:Nat}{pk:List Ye}(h:Zq A O w a λA O w=>Cq n A O w cb pb kb db l s G K)(i:∀k,A k->k<w.heap.size)(m:Own Xw B a b 80 ao cap pk)(e:Bel a b):
 Zq A O w b λA O w=>Cq n A O w cb pb kb db l s G K/\Rd Xw A w ao cap pk:=by
 obtain⟨f,c,d,g⟩:=h;exact⟨f,⟨c.bel e,(Qxi m).rd λk j=>j.elim (λh=>Nat.lt_of_lt_of_le (i k h) d.size) (c.lt k)⟩,d.trans (e.kept _),g⟩
theorem Qjy(h:Option Addr)(d:Nat)(j:Option Addr)(f:Nat)(g:Option Addr)(c:Nat)(b:Option Addr)(a:Nat)(i:Option Addr)(sN:Nat)(z:StR A w s h d j f g c b a i sN)(y:w.cell? ⟨cb,0,none⟩=some (.int .i64 s.broker))(P:0<s.broker)(t:Int)(Q:i64 t)(o:Int):
 Calls prog 84 #[.pointer (some ⟨cb,0,none⟩),.agg #[.int .i64 s.broker,.int .i64 s.nextId,.int .i64 s.nextSeq,.int .i64 s.tx,.slice h s.ms.length d,.slice j s.waits.length f,.slice g s.ends.length c,.slice b s.opens.length a,.slice i s.noes.length sN],.int .i64 t,.int .i64 o] w λe w'=>e=.returned (.int .i64 (Sj s t o))/\Bel w w':=by
 obtain⟨O,n⟩:=Zx (w.alloc (.cells #[.int .i64 s.broker,.int .i64 s.nextId,.int .i64 s.nextSeq,.int .i64 s.tx,.slice h s.ms.length d,.slice j s.waits.length f,.slice g s.ends.length c,.slice b s.opens.length a,.slice i s.noes.length sN] 43));have v:=Zb n;have B:=Zn n;obtain⟨K,C,m,H,J⟩:=Zh5 n v B z y;obtain⟨S,p⟩:=Zx (Ml s t);obtain⟨T,q⟩:=Zx (Mk s t);obtain⟨U,r⟩:=Zx (Qt (λx:Qv=>x.tid) t s.opens);obtain⟨R,k⟩:=Zx (Sj s t o);rw[<-k];rw[Sj,<-p,<-q,<-r]at k;obtain⟨l,L,M,N⟩:=Zh4 k p q r;clear n v B z y p q r k;obtain⟨e0,n,p,q,r,v,y,z,B⟩:=sAt m.o;go_enter func84,ntmps84;go_wp2_with fail;rw[<-K.o];refine(Sy s h d j f g c b a i sN t A O (H.bel C)).mono ?_;rw[<-M.o];rintro e W ⟨rfl,b2⟩;obtain⟨F,D⟩:=Zh2 (C.trans b2) b2;clear b2 e0 n p q r v y z B;have I:=cell_of_block (D.heap m) 7 _ rfl;go_wp2_with fail;refine(Pb s.opens b a t A W (H.opens.bel F)).mono ?_;rw[La,<-N.o];rintro e X ⟨ao,cap,rfl,V,k⟩;obtain⟨G,E⟩:=Zh2 (F.trans k) (D.trans k);clear k V I;obtain⟨e0,n,p,q,r,v,y,z,B⟩:=sAt (E.heap m.o);have V:=Qb (E.heap m);go_wp2_with fail;refine(Qgo s h d j f g c b a i sN t Q P _ cb (((G.trans ((Bel.refl _).alloc _))).cell J)).mono ?_;rw[<-L.o];rintro e Y ⟨rfl,I⟩;have k:=Zh ((G.trans ((Bel.refl _).alloc _)).trans I);clear I e0 n p q r v y z B;rcases S with _|_
 ·go_wp2
  go_ret;exact⟨by rw[l.o];rfl,k.o⟩
 rcases T with _|_
 ·rcases U with _|_
  ·go_wp2
   go_ret;exact⟨by rw[l.o];rfl,k.o⟩
  ·go_wp2
   go_ret;exact⟨by rw[l.o];rfl,k.o⟩
 ·go_wp2
  go_ret;exact⟨by rw[l.o];rfl,k.o⟩
theorem Qeu(b:Br)(h:b.of n A O w cb pb kb db)(D:∀k,A k->k<w.heap.size)(a8:n<199)(t:Int)(E:i64 t)(f:List Int)(po:Option Addr)(pc:Nat)(z:Rd Qh A w po pc f)(aE:f.length<=1000):
 Calls prog 85 #[.pointer (some ⟨cb,0,none⟩),.int .i64 t,.bool true,.slice po f.length pc] w λe w'=>∃ao cap,e=.returned (.tuple #[.slice ao (Wn b t true f).1.1.length cap,.int .i64 (Wn b t true f).1.2])/\Zq A O w w' λA O w=>(Wn b t true f).2.of (n+1) A O w cb pb kb db/\Rd Xw A w ao cap (Wn b t true f).1.1:=by
 obtain⟨l,s,G,K⟩:=b;have au:=Zh (show Cq n A O w cb pb kb db l s G K from h);obtain⟨Op,om,C,i,x,d,v,rfl,y⟩:=show Cq n A O w cb pb kb db l s G K from h
 have am:=Zh x;obtain⟨Ok,Q,R,S,T,L,rfl,M,rfl⟩:=x;obtain⟨g,al,H,I,an,J,aq⟩:=Zh7 M i d v y D z;obtain⟨aC,a⟩:=Zx (Wn ⟨l,s,Zv L,Ka C⟩ t true f);rw[<-a];obtain⟨r,o⟩:=Zx (Gy t true f (Zv L));rw[Wn]at a;dsimp only at a;rw[<-o]at a;obtain⟨m,av⟩:=Zh2 a (show r=_ from o);obtain⟨az,c⟩:=Zx (w.alloc (.cells #[.int .i64 8,.int .i64 t,.int .i64 0,.bool false,.slice po f.length pc,.slice none 0 0] 124));have q:=Zb c;have P:=Zn c;obtain⟨N,F,Z⟩:=Zh3 c q P;have aD:=Zd d.c0;clear h i d v y M D z a o c q P;go_enter func85,ntmps85;have c2:=(H).c2;go_wp2_with fail;rw[<-N.o];refine(Ur (g.bel F)).zS ?_;go_wp2_with fail;refine(D6 A t E az Q R S T L (g.bel F).lk).mono ?_;rintro e aj ⟨ao,cap,rfl,y,q⟩;obtain⟨o,a⟩:=Zx ((((((aj.setCell ⟨w.heap.size,0,none⟩ (.int .i64 7)).setCell ⟨w.heap.size,1,none⟩ (.int .i64 t)).setCell ⟨w.heap.size,2,none⟩ (.int .i64 0)).setCell ⟨w.heap.size,3,none⟩ (.bool false)).setCell ⟨w.heap.size,4,none⟩ (.slice none 0 0)).setCell ⟨w.heap.size,5,none⟩ (.slice ao (Jd t L).length cap));have v:=a▸Kept.set6 aj w.heap.size _ _ _ _ _ _;have c:=q.heap Z;have Qlq:=a▸Qri _ _ c;have d:=Zh ((F.trans q).of_kept v λk af=>by omega);have Y:=Zh (show Rd Qw A o ao cap (Jd t L) from((Qda (B:=λk=>A k\/k=w.heap.size) y).rd λk h=>by
  have:=Qb Z.o;rcases h with h|h
  ·exact Nat.lt_of_lt_of_le (J k h) F.size
  ·omega).keep v (λk h=>.inr h) λk _ h=>.inl h)
 obtain⟨⟨aa,D⟩,⟨ab,M⟩,⟨ac,P⟩,⟨ad,U⟩,⟨ae,W⟩,⟨ah,X⟩⟩:=Li c;have aF:=Qb c;obtain⟨ay,V⟩:=Zh2 Qlq a;clear y q a v c Qlq c2;have a:r=⟨7,t,0,false,[],Jd t L⟩:=by rw[av.o,Gy,if_pos rfl,Pk]
 go_wp2_with fail;clear aa D ab M ac P ad U ae W ah X;obtain⟨c,ar⟩:=Zh2 a (show ∀p∈r.puts,p.q.size<=maxLen fromλp z=>by rw[a]at z;exact(by have:=(Qei (List.all_eq_true.1 (Qaf g.ok t) p z)).1;simp only[maxLen];omega));clear a;obtain⟨U,aa,ab,ac,ad,ae⟩:=rAt ay.o;have c1:=(H.bel d).c1;obtain⟨a9,D⟩:=Zx (Zf s r==0);rw[<-D]at m;rcases a9 with _|_
 ·have y:Zf s r≠0:=by simpa using D.symm
  have v:=λW (a:Bel o W)=>Qfb (g.k.bel (d.trans a)) (by omega) r none 0 ao cap (by rw[c.o];exact E) (by rw[c.o];simp[i64]) (by rw[c.o];exact(Rd.nil _ _ _ none 0 (Nat.zero_le _)).bel a) (by rw[c.o];exact(Y.o).bel a) ar.o true y
  obtain⟨P,X⟩:=Zx (Zf s r);rw[<-X]at v y m;have q:=Rh c1 r none 0 ao cap true (by rw[c.o];rfl) P (λw'=>Bel o w') (λW a=>(v W a).mono λe w' ⟨i,x⟩=>⟨i,a.trans x⟩);rw[c.o]at q;have ah:(P==0)=false:=by simpa using y
  have ai:(P !=0)=true:=by simpa using y
  have M:=Zh q;clear v y D X q c1;go_wp2_with fail;try rw[<-N.o]
  rw[<-V.o];refine M.zR λak y=>?_
  have X:=Zh (d.trans y);clear y U aa ab ac ad ae;go_wp2;go_ret2;refine⟨none,0,by rw[m.o];rfl,?_⟩;rw[m.o];exact((au.more (Nat.le_succ n)).self X).imp λA O w h=>⟨h,Rd.nil _ _ _ _ _ (Nat.zero_le _)⟩
 have X:Zf s r=0:=by simpa using D.symm
 have v:=λW (a:Bel o W)=>Uj (g.k.bel (d.trans a)) (λk h=>Nat.lt_of_lt_of_le (J.o k h) (d.trans a).size) a8 r none 0 ao cap (by rw[c.o];exact E) (by rw[c.o];simp[i64]) (by rw[c.o];exact(Rd.nil _ _ _ none 0 (Nat.zero_le _)).bel a) (by rw[c.o];exact(Y.o).bel a) true X
 obtain⟨s',P⟩:=Zx (Qf s r);rw[<-P]at v m;have q:=Rh c1 r none 0 ao cap true (by rw[c.o];rfl) 0 (λw'=>∃y,Kq (n+1) (λk=>A k\/y k) y w' kb db [s'] s'/\Kept Ok o w'/\∀k,y k->Ok k\/o.heap.size<=k) (λW a=>(v W a).mono λe w' ⟨i,y,k1,k2,k3⟩=>⟨i,y,k1,(a.kept Ok).trans k2,λk af=>(k3 k af).imp id λh=>Nat.le_trans a.size h⟩);rw[c.o]at q;obtain⟨M,aw⟩:=Zh2 q (show s'.broker=s.broker by rw[P,Ya]);clear v X D P q c1;go_wp2_with fail;try rw[<-N.o]
 rw[<-V.o];refine M.mono ?_;rintro e ak ⟨rfl,aA,W,af,ah⟩;obtain⟨aB,⟨P,y⟩,q,ai⟩:=(g.bel d.o).write W af ah (Nat.le_succ n);obtain⟨v,X,ax,ap,D⟩:=Zh5 y q ai P (show Cs ak cb om kb pb s.broker C from(H.bel d.o).keep q λj a=>(I.o j a).1);have c2:=D.c2;clear W af ah y q ai P U aa ab ac ad ae;go_wp2_with fail;refine(Ur v).zS ?_;go_wp2_with fail;refine(Wy E v.lk).mono ?_;rintro e w8 ⟨rfl,ad,q⟩;have y:Zq A (pdO Ok pb Q R S T L) o w8 λA O w=>Pq (n+1) A O w pb kb db [s'] s' (Xn t (Zv L)):=by
  refine Zq.then X ax (λh=>h.mono) ?_
  have:=v.drop1 (t:=t) ad q;rw[<-ap.o]at this;exact this
 have y:=Zh y;have aa:∀j,csO cb om C j->¬lkO Q R S T L j:=λj i x=>(I.o j i).1 (.inr (.inr x))
 have P:=Zh (D.keep q aa);obtain⟨aH,ai,ab,ac⟩:=P.del (k:=t) E;obtain⟨U,W⟩:=Zh2 ab ac;have c3:=P.c3;have ae:=Zh q;clear ad q aa ab ac c2;go_wp2_with fail;have ah:=(((aq.bel d).keep X (g.oa) λ_ _ h=>h).keep ae (λj a=>g.oa j (.inr (.inr a))) λ_ _ h=>h).keep W (λj a=>(I j (.inr (.inl a))).2) λ_ _ h=>h
 refine(Qdz (A:=A) s.broker t true f U.c0 po pc ah (by omega)).mono ?_;rintro e aG ⟨ad,af,rfl,aa,q⟩;obtain⟨ac,ab⟩:=Zh2 aa q;clear aa q c3;go_wp2;go_ret2;refine⟨ad,af,by rw[m.o];rfl,?_⟩;rw[m.o];have q:=Qn9 (am.bel d) (H.bel d) I al y aw U (W.mono λj _ a=>.inr (.inl a)) (λj a=>.inl (Qn6 j a)) ((an.mono (Nat.le_succ n)).del t);rw[Qjr]at q;exact Qpt (Zq.from d q) J ac ab
theorem Qhg(b:Br)(h:b.of n A O w cb pb kb db)(B:∀k,A k->k<w.heap.size)(ay:n<199)(t:Int)(E:i64 t)(f:List Int)(po:Option Addr)(pc:Nat)(z:Rd Qh A w po pc f)(aC:f.length<=1000):
 Calls prog 85 #[.pointer (some ⟨cb,0,none⟩),.int .i64 t,.bool false,.slice po f.length pc] w λe w'=>∃ao cap,e=.returned (.tuple #[.slice ao (Wn b t false f).1.1.length cap,.int .i64 (Wn b t false f).1.2])/\Zq A O w w' λA O w=>(Wn b t false f).2.of (n+1) A O w cb pb kb db/\Rd Xw A w ao cap (Wn b t false f).1.1:=by
 obtain⟨l,s,G,K⟩:=b;have ap:=Zh (show Cq n A O w cb pb kb db l s G K from h);obtain⟨Op,om,C,g,v,d,q,rfl,y⟩:=show Cq n A O w cb pb kb db l s G K from h
 have ak:=Zh v;obtain⟨Ok,aa,ab,ae,af,L,rfl,H,rfl⟩:=v;obtain⟨x,aj,F,D,al,J,N⟩:=Zh7 H g d q y B z;obtain⟨aA,a⟩:=Zx (Wn ⟨l,s,Zv L,Ka C⟩ t false f);rw[<-a];obtain⟨r,m⟩:=Zx (Gy t false f (Zv L));rw[Wn]at a;dsimp only at a;rw[<-m]at a;obtain⟨i,aq⟩:=Zh2 a (show r=_ from m);obtain⟨ax,c⟩:=Zx (w.alloc (.cells #[.int .i64 8,.int .i64 t,.int .i64 0,.bool false,.slice po f.length pc,.slice none 0 0] 124));have o:=Zb c;have I:=Zn c;obtain⟨P,ai,av⟩:=Zh3 c o I;have aB:=Zd d.c0;clear h g d q y H B z a m c o I;go_enter func85,ntmps85;obtain⟨q,a⟩:=Zx ax;obtain⟨c,aw⟩:=Zh2 (a▸ai.o) (a▸av.o);obtain⟨T,Q⟩:=Zh2 (N.bel c.o) a;have m:r=⟨8,t,0,false,f,[]⟩:=by rw[aq.o,Gy,if_neg (by simp)]
 clear a;obtain⟨d,an⟩:=Zh2 m (show ∀p∈r.puts,p.q.size<=maxLen fromλp z=>by rw[m]at z;exact(by simp at z));clear m;obtain⟨M,R,U,V,X,Y⟩:=rAt aw.o;have c1:=(F.bel c).c1;obtain⟨az,B⟩:=Zx (Zf s r==0);rw[<-B]at i;rcases az with _|_
 ·have y:Zf s r≠0:=by simpa using B.symm
  have o:=λW (a:Bel q W)=>Qfb (x.k.bel (c.trans a)) (by omega) r po pc none 0 (by rw[d.o];exact E) (by rw[d.o];simp[i64]) (by rw[d.o];exact(T.o).bel a) (by rw[d.o];exact(Rd.nil _ _ _ none 0 (Nat.zero_le _)).bel a) an.o true y
  obtain⟨I,S⟩:=Zx (Zf s r);rw[<-S]at o y i;have m:=Rh c1 r po pc none 0 true (by rw[d.o];rfl) I (λw'=>Bel q w') (λW a=>(o W a).mono λe w' ⟨g,v⟩=>⟨g,a.trans v⟩);rw[d.o]at m;have Z:(I==0)=false:=by simpa using y
  have ac:(I !=0)=true:=by simpa using y
  have H:=Zh m;clear o y B S m c1;go_wp2_with fail;try rw[<-P.o]
  rw[<-Q.o];refine H.zR λah y=>?_
  have S:=Zh (c.trans y);clear y M R U V X Y;go_wp2;go_ret2;refine⟨none,0,by rw[i.o];rfl,?_⟩;rw[i.o];exact((ap.more (Nat.le_succ n)).self S).imp λA O w h=>⟨h,Rd.nil _ _ _ _ _ (Nat.zero_le _)⟩
 have S:Zf s r=0:=by simpa using B.symm
 have o:=λW (a:Bel q W)=>Uj (x.k.bel (c.trans a)) (λk h=>Nat.lt_of_lt_of_le (J.o k h) (c.trans a).size) ay r po pc none 0 (by rw[d.o];exact E) (by rw[d.o];simp[i64]) (by rw[d.o];exact(T.o).bel a) (by rw[d.o];exact(Rd.nil _ _ _ none 0 (Nat.zero_le _)).bel a) true S
 obtain⟨s',I⟩:=Zx (Qf s r);rw[<-I]at o i;have m:=Rh c1 r po pc none 0 true (by rw[d.o];rfl) 0 (λw'=>∃y,Kq (n+1) (λk=>A k\/y k) y w' kb db [s'] s'/\Kept Ok q w'/\∀k,y k->Ok k\/q.heap.size<=k) (λW a=>(o W a).mono λe w' ⟨g,y,k1,k2,k3⟩=>⟨g,y,k1,(a.kept Ok).trans k2,λk y=>(k3 k y).imp id λh=>Nat.le_trans a.size h⟩);rw[d.o]at m;obtain⟨H,ar⟩:=Zh2 m (show s'.broker=s.broker by rw[I,Ya]);clear o S B I m c1;go_wp2_with fail;try rw[<-P.o]
 rw[<-Q.o];refine H.mono ?_;rintro e ah ⟨rfl,a8,W,Z,ac⟩;obtain⟨a9,⟨I,y⟩,m,ad⟩:=(x.bel c.o).write W Z ac (Nat.le_succ n);obtain⟨o,S,au,am,B⟩:=Zh5 y m ad I (show Cs ah cb om kb pb s.broker C from(F.bel c.o).keep m λj a=>(D.o j a).1);have c2:=B.c2;clear W Z ac y m ad I M R U V X Y;go_wp2_with fail;refine(Ur o).zS ?_;go_wp2_with fail;refine(Wy E o.lk).mono ?_;rintro e w8 ⟨rfl,X,m⟩;have y:Zq A (pdO Ok pb aa ab ae af L) q w8 λA O w=>Pq (n+1) A O w pb kb db [s'] s' (Xn t (Zv L)):=by
  refine Zq.then S au (λh=>h.mono) ?_
  have:=o.drop1 (t:=t) X m;rw[<-am.o]at this;exact this
 have y:=Zh y;have U:∀j,csO cb om C j->¬lkO aa ab ae af L j:=λj g v=>(D.o j g).1 (.inr (.inr v))
 have I:=Zh (B.keep m U);obtain⟨aE,ad,V,W⟩:=I.del (k:=t) E;obtain⟨M,R⟩:=Zh2 V W;have c3:=I.c3;have Y:=Zh m;clear X m U V W c2;go_wp2_with fail;have ac:=(((N.bel c).keep S (x.oa) λ_ _ h=>h).keep Y (λj a=>x.oa j (.inr (.inr a))) λ_ _ h=>h).keep R (λj a=>(D j (.inr (.inl a))).2) λ_ _ h=>h
 refine(Qdz (A:=A) s.broker t false f M.c0 po pc ac (by omega)).mono ?_;rintro e aD ⟨X,Z,rfl,U,m⟩;obtain⟨W,V⟩:=Zh2 U m;clear U m c3;go_wp2;go_ret2;refine⟨X,Z,by rw[i.o];rfl,?_⟩;rw[i.o];have m:=Qn9 (ak.bel c) (F.bel c) D aj y ar M (R.mono λj _ a=>.inr (.inl a)) (λj a=>.inl (Qn6 j a)) ((al.mono (Nat.le_succ n)).del t);rw[Qjr]at m;exact Qpt (Zq.from c m) J W V
end
end Go.Proofs.YtkdpmdfcdgphlaaGreat

/- Part of this claim's proof. Conditions: as its theorems say. -/
import Derived.WalkKit
import Derived.WalkSpells
import Derived.WalkLawsBesides
import Derived.Lib.Hide
import Derived.Deep.AppendSrc
import Derived.Deep.Upon
import Derived.Deep.AppendLies
import Derived.Deep.RegionLaw
import Derived.Lib.BufferRead
set_option linter.all false
namespace Go.Mem
open Go.RowKit
variable {P : Program}
structure Kept(S:Nat->Prop)(w w':World):Prop where
 os:w'.os=w.os
 tape:w'.tape=w.tape
 output:w'.output=w.output
 size:w.heap.size<=w'.heap.size
 block:∀k,k<w.heap.size->¬S k->w'.heap[k]?=w.heap[k]?
theorem Kept.refl(S:Nat->Prop)(w:World):Kept S w w:=⟨rfl,rfl,rfl,Nat.le_refl _,λ_ _ _=>rfl⟩
theorem Kept.trans{S:Nat->Prop}{a b c:World}(h:Kept S a b)(k:Kept S b c):Kept S a c:=
 ⟨k.os.trans h.os,k.tape.trans h.tape,k.output.trans h.output,Nat.le_trans h.size k.size,λi d e=>(k.block i (Nat.lt_of_lt_of_le d h.size) e).trans (h.block i d e)⟩
theorem Kept.mono{S T:Nat->Prop}{a b:World}(h:Kept S a b)(d:∀k,k<a.heap.size->S k->T k):Kept T a b:=
 ⟨h.os,h.tape,h.output,h.size,λi c e=>h.block i c λs=>e (d i c s)⟩
theorem Kept.trans'{S T:Nat->Prop}{a b c:World}(h:Kept S a b)(k:Kept T b c)(f:∀i,T i->S i\/a.heap.size<=i):Kept S a c:=
 ⟨k.os.trans h.os,k.tape.trans h.tape,k.output.trans h.output,Nat.le_trans h.size k.size,λi d e=>(k.block i (Nat.lt_of_lt_of_le d h.size) λt=>(f i t).elim e λh=>by omega).trans (h.block i d e)⟩
theorem Kept.drew{S:Nat->Prop}{a w:World}(h:Kept S a w):Kept S a w.drew:=⟨h.os,h.tape,h.output,h.size,h.block⟩
theorem Kept.alloc{S:Nat->Prop}{a w:World}(h:Kept S a w)(o:Obj):Kept S a (w.alloc o):=
 h.trans ⟨rfl,rfl,rfl,by simp,λk b _=>Below.heap_alloc _ _ _ b⟩
theorem Kept.setCell{S:Nat->Prop}{a w:World}(h:Kept S a w){p:Addr}(b:S p.block)(d:Value):Kept S a (w.setCell p d):=
 h.trans ⟨rfl,rfl,rfl,by simp[World.setCell],λk _ c=>Below.heap_setCell _ _ _ _ (λe=>c (e▸b))⟩
def Sl(w:World)(e:TypeId)(size:Nat)(ao:Option Addr)(n cap:Nat)(xs:List Value):Prop:=
 xs.length=n*size/\n<=cap/\cap<=maxLen ∧
  (0<cap->∃g off cur,ao=some ⟨g,off,none⟩/\g<w.heap.size/\w.heap[g]?=some (.cells cur e (0,0))/\off+cap*size<=cur.size/\∀j u,xs[j]?=some u->cur[off+j]?=some u)
def Qc(ao:Option Addr)(cap:Nat)(k:Nat):Prop:=0<cap/\∃a,ao=some a/\k=a.block
theorem Sl.nil(w:World)(e:TypeId)(size:Nat):Sl w e size none 0 0 []:=⟨by simp,Nat.le_refl _,by simp[maxLen],λh=>by omega⟩
theorem Sl.owns{w:World}{e size:Nat}{ao:Option Addr}{n cap:Nat}{xs:List Value}(h:Sl w e size ao n cap xs){k:Nat}(f:Qc ao cap k):k<w.heap.size:=by
 obtain⟨c,a,d,rfl⟩:=f;obtain⟨j,l,i,b,g,_⟩:=h.2.2.2 c;rw[d]at b;cases b;exact g
theorem Sl.kept{w w':World}{e size:Nat}{ao:Option Addr}{n cap:Nat}{xs:List Value}(h:Sl w e size ao n cap xs){S:Nat->Prop}(c:Kept S w w')(l:∀k,Qc ao cap k->¬S k):Sl w' e size ao n cap xs:=by
 refine⟨h.1,h.2.1,h.2.2.1,λa=>?_⟩;obtain⟨g,off,f,b,d,i,j⟩:=h.2.2.2 a;exact⟨g,off,f,b,Nat.lt_of_lt_of_le d c.size,(c.block g d (l g ⟨a,_,b,rfl⟩)).trans i,j⟩
def adv(ao:Option Addr)(cap k size:Nat):Option Addr:=if cap=k then ao else ao.map (·.add (k*size))
theorem Vq(t:TypeId)(size:Nat)(b:P.underlying t=some (.slice (P.elem t)))(a:∀w:World,(sizeOf (P.elem t)).run P w=.ok size w)(ao:Option Addr)(n cap k:Nat)(c:k<=n)(w:World):
 (Instr.slice t (.slice ao n cap) (some (.int .i64 k)) none none).run P w=.ok (.slice (adv ao cap k size) (n-k) (cap-k)) w:=by
 rw[run_slice_l w t ao n cap b .i64 k (by omega) (by omega),a];simp[Result.andThen,sliced,adv]
theorem heap_setCell_same(w:World)(g o:Nat)(v:Value)(a:Array Value)(e:TypeId)(b:Nat×Nat)(c:w.heap[g]?=some (.cells a e b)):
 (w.setCell ⟨g,o,none⟩ v).heap[g]?=some (.cells (a.setIfInBounds o v) e b):=by
 simp[World.setCell,Array.getElem?_modify,c]
theorem Qaz(g:Nat)(e:TypeId)(d:Nat×Nat):∀(vs:List Value) (o:Nat) (w:World) (a:Array Value),w.heap[g]?=some (.cells a e d)->o+vs.length<=a.size →
 ∃b,(w.setCells g o vs).heap[g]?=some (.cells b e d)/\b.size=a.size/\(∀j,j<o->b[j]?=a[j]?)/\(∀j c,vs[j]?=some c->b[o+j]?=some c)
 | [],o,w,a,hg,_=>⟨a,hg,rfl,λ_ _=>rfl,λj c h=>by simp at h⟩
 | v::r,o,w,a,hg,hl=>by
  have l:o+(r.length+1)<=a.size:=by simpa using hl
  obtain⟨b,h,i,f,k⟩:=Qaz g e d r (o+1) (w.setCell ⟨g,o,none⟩ v) _ (heap_setCell_same w g o v a e d hg) (by simp;omega);refine⟨b,h,by rw[i];simp,λj a=>?_,λj c a=>?_⟩
  ·rw[f j (by omega),Array.getElem?_setIfInBounds_ne (by omega)]
  ·rcases j with _|j
   ·have e0:v=c:=by simpa using a
    subst e0;rw[Nat.add_zero,f o (by omega),Array.getElem?_setIfInBounds_self_of_lt (by omega)]
   ·have:=k j c (by simpa using a)
    rw[<-this];congr 1;omega
theorem Xo(g:Nat):∀(vs:List Value) (o:Nat) (w:World),(w.setCells g o vs).tape=w.tape/\(w.setCells g o vs).heap.size=w.heap.size
 | [],_,_=>⟨rfl,rfl⟩
 | v::r,o,w=>⟨(Xo g r (o+1) _).1,(Xo g r (o+1) _).2.trans (by simp[World.setCell])⟩
theorem Pj(z:Array Value)(n:Nat):(Builtin.zeroCells z n).size=n*z.size:=by simp[Builtin.zeroCells]
theorem Qa0(w:World)(t l p e:TypeId)(i:TypeInfo)(z:Value)(B:P.underlying t=some (.slice e))(r:P.info? e=some i)(L:i.zero=some z)(M:z.cells.size=i.size)
 (ao:Option Addr) (n cap:Nat) (xs:List Value) (h:Sl w e i.size ao n cap xs) (x:Value) (m:Nat) (news:List Value) (d:Src P i.size l x m news w)
 (D:n+m<=maxLen) (K:(n+m)*i.bytes<=140737488355328):
 ∃b c w',(Builtin.append_ #[t,l] p #[.slice ao n cap,x]).run P w=.ok (.slice b (n+m) c) w'/\Sl w' e i.size b (n+m) c (xs++news) ∧
  Kept (Qc ao cap) w w'/\(∀k,Qc b c k->Qc ao cap k\/k=w.heap.size):=by
 have v:(xs++news).length=(n+m)*i.size:=by rw[List.length_append,h.1,d.newsLen,Nat.add_mul]
 have Q:n+m<=9223372036854775807:=by simp only[maxLen]at D;omega
 by_cases A:n+m<=cap
 ·by_cases G:cap=0
  ·subst G
   obtain rfl:n=0:=by omega
   obtain rfl:m=0:=by omega
   have C:xs=[]:=List.eq_nil_of_length_eq_zero (by simpa using h.1);have b:news=[]:=List.eq_nil_of_length_eq_zero (by simpa using d.newsLen);subst C;subst b;exact⟨ao,0,w,run_append_nothing w t l p e i B r ao 0 0 (Nat.le_refl _) x d,h,Kept.refl _ _,λk c=>.inl c⟩
  ·obtain⟨g,off,q,rfl,H,f,F,y⟩:=h.2.2.2 (by omega)
   have N:(n+m)*i.size<=cap*i.size:=Nat.mul_le_mul_right _ A;have E:(n+m)*i.size=n*i.size+m*i.size:=Nat.add_mul _ _ _;have O:=d.newsLen;have R:=h.1;obtain⟨J,c1,c2,c3,I⟩:=Qaz g e (0,0) news (off+n*i.size) w q f (by omega);refine⟨some ⟨g,off,none⟩,cap,w.setCells g (off+n*i.size) news,run_append_room_src w t l p e i B r g off n cap x m news d A (λj b=>?_) (λj b=>?_),⟨v,A,h.2.2.1,λ_=>⟨g,off,J,rfl,?_,c1,by rw[c2];exact F,λj o b=>?_⟩⟩,
    ⟨World.os_setCells _ _ _ _,(Xo _ _ _ _).1,World.output_setCells _ _ _ _,by rw[(Xo _ _ _ _).2];exact Nat.le_refl _,λk c s=>World.heap_setCells_other w g _ _ c (λe=>s ⟨by omega,_,rfl,e⟩)⟩,λk c=>.inl c⟩
   ·have:off+n*i.size+j<q.size:=by omega
    simp[World.cell?,f,this]
   ·simp[World.frozen?,f]
   ·rw[(Xo _ _ _ _).2];exact H
   ·rcases Nat.lt_or_ge j xs.length with s|s
    ·rw[c3 _ (by omega)]
     rw[List.getElem?_append_left s]at b;exact y j o b
    ·rw[List.getElem?_append_right s]at b
     have:=I _ o b;rw[<-this];congr 1;omega
 ·have I:=grownCap_ge w (n+m) cap e
  have s:grownCap w (n+m) cap e<=maxLen:=grownCap_le_maxLen w (n+m) cap e D;have J:(Builtin.firstCells i.size n (.slice ao n cap)).run P w.drew=.ok xs.toArray w.drew:=by
   by_cases G:cap=0
   ·obtain rfl:n=0:=by have:=h.2.1;omega
    have C:xs=[]:=List.eq_nil_of_length_eq_zero (by simpa using h.1);subst C;rcases ao with _|a
    ·exact run_firstCells_none w.drew _ _ _ _
    ·exact run_firstCells_some w.drew i.size 0 a 0 cap [] (by simp) (by simp)
   ·obtain⟨g,off,q,rfl,H,f,F,y⟩:=h.2.2.2 (by omega)
    refine run_firstCells_some w.drew i.size n ⟨g,off,none⟩ n cap xs h.1 (λj o b=>?_);have:=y j o b;have E:(⟨g,off,none⟩:Addr).add j=⟨g,off+j,none⟩:=by unfold Addr.add;split<;>simp_all
    rw[E];show w.cell? _=_;simp[World.cell?,f,this]
  refine⟨some ⟨w.heap.size,0,none⟩,grownCap w (n+m) cap e,_,run_append_grow_src w t l p e i z B r L ao n cap xs J x m news d (by omega) (by omega) (growslice_fits (by omega) K),⟨v,I,s,λ_=>⟨w.heap.size,0,_,rfl,by simp,heap_alloc_new w.drew _,?_,λj o b=>?_⟩⟩,((Kept.refl _ w).drew).alloc _,λk c=>.inr (by obtain⟨_,a,f,rfl⟩:=c;cases f;rfl)⟩
  ·simp only[Array.size_append,List.size_toArray,Pj,M,v,<-Nat.add_mul]
   rw[Nat.zero_add,show n+m+(grownCap w (n+m) cap e-(n+m))=grownCap w (n+m) cap e from by omega];exact Nat.le_refl _
  ·rw[Nat.zero_add]
   have c:j<(xs++news).length:=(List.getElem?_eq_some_iff.1 b).1;rw[Array.getElem?_append_left (by simpa using c)];simpa using b
theorem Vf(w:World){g:Array Oper}{h:List Oper}{o:Oper}{a:Act}{Q:Exit->Act->World->Prop}(E:o.guard=none)(s x:Operand)(t d:TypeId)
 (G:o.op=.call { callee:=.builtin .append,args:=#[s,x],argTypes:=#[t,d] })
 (e:TypeId) (i:TypeInfo) (z:Value) (size f:Nat) (K:P.underlying t=some (.slice e)) (F:P.info? e=some i) (L:i.zero=some z) (J:i.size=size) (A:i.bytes=f) (M:z.cells.size=size)
 (ao:Option Addr) (n cap:Nat) (xs:List Value) (j:Sl w e size ao n cap xs) (C:a.eval s=.slice ao n cap) (v:Value) (D:a.eval x=v) (m:Nat) (news:List Value) (I:Src P size d v m news w)
 (q:n+m<=maxLen) (B:(n+m)*f<=140737488355328)
 (r:∀b c w',Sl w' e size b (n+m) c (xs++news)->Kept (Qc ao cap) w w'->(∀k,Qc b c k->Qc ao cap k\/k=w.heap.size)->wpList P g Q h (a.put o.dst (.slice b (n+m) c)) w'):
 wpList P g Q (o::h) a w:=
 wpList_plain E λf y=>by
  subst J;subst A;obtain⟨b,c,w',H,f,l,p⟩:=Qa0 (P:=P) w t d o.type e i z K F L M ao n cap xs j v m news I q B;unfold Oper.wp execOp;simp only[G,resolve,invoke,builtin,Sem.run_bind,Sem.run_pure,Result.andThen_ok,List.map_toArray,List.map_cons,List.map_nil,C,D,H];exact y _ _ (r b c w' f l p)
theorem Ww(w:World){g:Array Oper}{o:Oper}{a:Act}{K:Act->World->Prop}{Q:Exit->Act->World->Prop}{E:Prop}(C:o.guard=none)(s x:Operand)(t d:TypeId)
 (F:o.op=.call { callee:=.builtin .append,args:=#[s,x],argTypes:=#[t,d] })
 (e:TypeId) (i:TypeInfo) (z:Value) (size f:Nat) (J:P.underlying t=some (.slice e)) (D:P.info? e=some i) (M:i.zero=some z) (I:i.size=size) (r:i.bytes=f) (N:z.cells.size=size)
 (ao:Option Addr) (n cap:Nat) (xs:List Value) (h:Sl w e size ao n cap xs) (A:a.eval s=.slice ao n cap) (v:Value) (B:a.eval x=v) (m:Nat) (news:List Value) (H:Src P size d v m news w)
 (p:n+m<=maxLen) (y:(n+m)*f<=140737488355328)
 (q:∀b c w',Sl w' e size b (n+m) c (xs++news)->Kept (Qc ao cap) w w'->(∀k,Qc b c k->Qc ao cap k\/k=w.heap.size)->K (a.put o.dst (.slice b (n+m) c)) w'):
 if Region.wanted o (yielded g a.tmps)=true then Oper.wp P o a w K Q else E:=by
 have L:Region.wanted o (yielded g a.tmps)=true:=by simp[Region.wanted,C]
 rw[if_pos L];subst I;subst r;obtain⟨b,c,w',G,f,j,l⟩:=Qa0 (P:=P) w t d o.type e i z J D M N ao n cap xs h v m news H p y;unfold Oper.wp execOp;simp only[F,resolve,invoke,builtin,Sem.run_bind,Sem.run_pure,Result.andThen_ok,List.map_toArray,List.map_cons,List.map_nil,A,B,G];exact q b c w' f j l
def Tv(w:World)(ao:Option Addr)(len:Nat)(V:Nat->Value):Prop:=
 len<=maxLen/\(0<len->∃b off,ao=some ⟨b,off,none⟩/\b<w.heap.size/\∀k,k<len->w.cell? ⟨b,off+k,none⟩=some (V k))
theorem Rt{b d:TypeId}(w:World)(f:P.underlying b=some (.slice d))(v:Value)(g:v.oneCell'=true)(t:TypeId):
 Src P 1 b (.slice (some ⟨w.heap.size,0,none⟩) 1 1) 1 [v] (w.alloc (.cells #[v] t)):=
 Src.ofSlice _ f _ 1 1 [v] rfl (λj c a=>by
  rcases j with _|j
  ·have e:v=c:=by simpa using a
   subst e;simp[Addr.add]
  ·simp at a) (λc a=>by simp only[List.mem_singleton]at a;subst a;exact g)
theorem Sl.empty(w:World)(e size:Nat)(a:Addr):Sl w e size (some a) 0 0 []:=⟨by simp,Nat.le_refl _,by simp[maxLen],λh=>by omega⟩
theorem Sl.none{w:World}{e size n cap:Nat}{xs:List Value}(h:Sl w e size none n cap xs):n=0/\cap=0/\xs=[]:=by
 have a:cap=0:=by
  rcases Nat.eq_zero_or_pos cap with a|a
  ·exact a
  ·obtain⟨g,off,c,b,_⟩:=h.2.2.2 a
   cases b
 have b:n=0:=by have:=h.2.1;omega
 exact⟨b,a,List.eq_nil_of_length_eq_zero (by rw[h.1,b];simp)⟩
def Bel(a w:World):Prop:=Below a.heap.size a w
theorem Bel.refl(a:World):Bel a a:=Below.refl _ _
theorem Bel.size{a w:World}(h:Bel a w):a.heap.size<=w.heap.size:=Below.size h
theorem Bel.trans{a b c:World}(h:Bel a b)(k:Bel b c):Bel a c:=Below.trans h (Below.mono k (Below.size h))
theorem Bel.alloc{a w:World}(h:Bel a w)(o:Obj):Bel a (w.alloc o):=Below.alloc h (Below.size h) o
theorem Bel.drew{a w:World}(h:Bel a w):Bel a w.drew:=Below.drew h
theorem Bel.drewN{a w:World}(h:Bel a w)(n:Nat):Bel a (w.drewN n):=by
 have b:=h;exact⟨b.os,b.tape,b.output,b.size,b.block⟩
theorem Bel.setCell{a w:World}(h:Bel a w){p:Addr}(c:a.heap.size<=p.block)(b:Value):Bel a (w.setCell p b):=Below.setCell h c b
theorem Bel.cell{a w:World}(h:Bel a w){p:Addr}{v:Value}(c:a.cell? p=some v):w.cell? p=some v:=by
 rcases Nat.lt_or_ge p.block a.heap.size with b|b
 ·rw[Below.cell h b];exact c
 ·simp[World.cell?,b]at c
theorem Bel.heap{a w:World}(h:Bel a w){b:Nat}{x:Obj}(c:a.heap[b]?=some x):w.heap[b]?=some x:=by
 rw[Below.block h b (Array.getElem?_eq_some_iff.1 c).1];exact c
theorem Bel.kept{a w:World}(h:Bel a w)(S:Nat->Prop):Kept S a w:=⟨h.os,h.tape,h.output,Below.size h,λk b _=>Below.block h k b⟩
theorem Bel.of_kept{S:Nat->Prop}{a b w:World}(c:Bel a b)(h:Kept S b w)(e:∀k,S k->a.heap.size<=k):Bel a w:=
 ⟨h.os.trans c.os,h.tape.trans c.tape,h.output.trans c.output,Nat.le_trans c.size h.size,λk d=>(h.block k (Nat.lt_of_lt_of_le d c.size) (λs=>by have:=e k s;omega)).trans (Below.block c k d)⟩
theorem Kept.cell{S:Nat->Prop}{a w:World}(h:Kept S a w){p:Addr}{v:Value}(d:¬S p.block)(c:a.cell? p=some v):w.cell? p=some v:=by
 rcases Nat.lt_or_ge p.block a.heap.size with b|b
 ·have:=h.block p.block b d
  simp only[World.cell?]at c ⊢;rw[this];exact c
 ·simp[World.cell?,b]at c
theorem Kept.heap{S:Nat->Prop}{a w:World}(h:Kept S a w){b:Nat}{x:Obj}(d:¬S b)(c:a.heap[b]?=some x):w.heap[b]?=some x:=by
 rw[h.block b (Array.getElem?_eq_some_iff.1 c).1 d];exact c
theorem Zd{w:World}{b o:Nat}{v:Value}(h:w.cell? ⟨b,o,none⟩=some v):b<w.heap.size:=by
 rcases Nat.lt_or_ge b w.heap.size with a|a
 ·exact a
 ·simp[World.cell?,a]at h
theorem Qb{w:World}{b:Nat}{x:Obj}(h:w.heap[b]?=some x):b<w.heap.size:=(Array.getElem?_eq_some_iff.1 h).1
theorem cell_of_block{w:World}{b:Nat}{a:Array Value}{T:TypeId}{c:Nat×Nat}(h:w.heap[b]?=some (.cells a T c))(j:Nat)(v:Value)(d:a[j]?=some v):w.cell? ⟨b,j,none⟩=some v:=by
 simp[World.cell?,h,d]
theorem Qa{w:World}{b:Nat}{a:Array Value}{T:TypeId}(h:w.heap[b]?=some (.cells a T (0,0)))(j:Nat):w.frozen? ⟨b,j,none⟩=false:=by
 simp[World.frozen?,h]
def Sr(A:Nat->Prop)(w:World)(size:Nat)(ao:Option Addr)(n cap:Nat)(xs:List Value):Prop:=
 xs.length=n*size/\n<=cap/\cap<=maxLen ∧
  (0<n->∃g off cur t fr,ao=some ⟨g,off,none⟩/\g<w.heap.size/\¬A g/\w.heap[g]?=some (.cells cur t fr)/\∀j u,xs[j]?=some u->cur[off+j]?=some u)
theorem Sr.nil(A:Nat->Prop)(w:World)(size:Nat)(ao:Option Addr)(cap:Nat)(a:cap<=maxLen):Sr A w size ao 0 cap []:=⟨by simp,Nat.zero_le _,a,λh=>absurd h (by omega)⟩
theorem Sr.keep{A B S:Nat->Prop}{w w':World}{size:Nat}{ao:Option Addr}{n cap:Nat}{xs:List Value}(h:Sr A w size ao n cap xs)(c:Kept S w w')(o:∀k,S k->A k)(i:∀k,k<w.heap.size->B k->A k):Sr B w' size ao n cap xs:=by
 refine⟨h.1,h.2.1,h.2.2.1,λf=>?_⟩;obtain⟨g,off,d,t,e,j,a,b,l,m⟩:=h.2.2.2 f;exact⟨g,off,d,t,e,j,Nat.lt_of_lt_of_le a c.size,λh=>b (i g a h),(c.block g a (λs=>b (o g s))).trans l,m⟩
theorem Sl.sr{w:World}{e size:Nat}{ao:Option Addr}{n cap:Nat}{xs:List Value}(h:Sl w e size ao n cap xs){A:Nat->Prop}(d:∀k,Qc ao cap k->¬A k):Sr A w size ao n cap xs:=by
 refine⟨h.1,h.2.1,h.2.2.1,λa=>?_⟩;have b:0<cap:=by have:=h.2.1;omega
 obtain⟨g,off,c,a,i,f,l,j⟩:=h.2.2.2 b;exact⟨g,off,c,e,(0,0),a,i,d g ⟨b,_,a,rfl⟩,f,j⟩
theorem Sr.cell{A:Nat->Prop}{w:World}{size:Nat}{ao:Option Addr}{n cap:Nat}{xs:List Value}(h:Sr A w size ao n cap xs)(b:0<n):
 ∃g off,ao=some ⟨g,off,none⟩/\g<w.heap.size/\¬A g/\∀j,j<n*size->w.cell? ⟨g,off+j,none⟩=xs[j]?:=by
 obtain⟨g,off,l,t,m,d,i,c,e,k⟩:=h.2.2.2 b;refine⟨g,off,d,i,c,λj f=>?_⟩;have a:j<xs.length:=by rw[h.1];exact f
 have:=k j xs[j] (by simp[a]);simp[World.cell?,e,this,a]
theorem Sr.src{A:Nat->Prop}{w:World}{f e:TypeId}{size:Nat}{ao:Option Addr}{n cap:Nat}{xs:List Value}(h:Sr A w size ao n cap xs)(c:P.underlying e=some (.slice f))(i:∀d∈xs,d.oneCell'=true):
 Src P size e (.slice ao n cap) n xs w:=by
 rcases Nat.eq_zero_or_pos n with b|b
 ·subst b
  have k:=List.eq_nil_of_length_eq_zero (by simpa using h.1);subst k;rcases ao with _|a
  ·refine⟨.inl ⟨_,c⟩,λw'=>by simp[Builtin.lenOf],run_firstCells_none w _ _ _ _,run_firstCells_none w.drew _ _ _ _,by simp,by simp⟩
  ·exact Src.ofSlice w c a 0 cap [] (by simp) (by simp) (by simp)
 ·obtain⟨g,off,o,t,p,rfl,r,q,k,m⟩:=h.2.2.2 b
  refine Src.ofSlice w c ⟨g,off,none⟩ n cap xs h.1 (λj d l=>?_) i;have:=m j d l;have d:(⟨g,off,none⟩:Addr).add j=⟨g,off+j,none⟩:=by unfold Addr.add;split<;>simp_all
  rw[d];simp[World.cell?,k,this]
theorem Sr.sub{A:Nat->Prop}{w:World}{size:Nat}{ao:Option Addr}{n cap:Nat}{xs:List Value}(h:Sr A w size ao n cap xs){a b:Nat}(r:a<=b)(k:b<=n):Sr A w size (adv ao cap a size) (b-a) (cap-a) ((xs.drop (a*size)).take ((b-a)*size)):=by
 have s:a*size+(b-a)*size=b*size:=by rw[<-Nat.add_mul];congr 1;omega
 have v:b*size<=n*size:=Nat.mul_le_mul_right _ k;refine⟨by rw[List.length_take,List.length_drop,h.1];omega,by have:=h.2.1;omega,by have:=h.2.2.1;omega,λc=>?_⟩;obtain⟨g,off,d,t,e,i,o,f,l,p⟩:=h.2.2.2 (by omega);refine⟨g,off+a*size,d,t,e,?_,o,f,l,?_⟩
 ·subst i;rw[adv,if_neg (by have:=h.2.1;omega)];simp[Addr.add]
 ·intro j q c
  have m:xs[a*size+j]?=some q:=by
   rw[List.getElem?_take]at c;split at c
   ·rwa [List.getElem?_drop]at c
   ·cases c
  rw[Nat.add_assoc];exact p _ _ m
inductive Ch {α:Type} (R:α->List Value->Prop) (size:Nat):List α->List Value->Prop
 | nil:Ch R size [] []
 | cons {x:α} {l:List α} {vs xs:List Value}:R x vs->vs.length=size->Ch R size l xs->Ch R size (x::l) (vs++xs)
section
variable {α : Type} {R : α → List Value → Prop} {size : Nat} {l m : List α} {xs ys : List Value}
theorem Ch.append(h:Ch R size l xs)(k:Ch R size m ys):Ch R size (l++m) (xs++ys):=by
 induction h with
 | nil=>exact k
 | cons a b _ ih=>rw[List.append_assoc];exact .cons a b ih
theorem Ch.one{x:α}{vs:List Value}(h:R x vs)(a:vs.length=size):Ch R size [x] vs:=by
 have:=Ch.cons (R:=R) (size:=size) h a .nil;simpa using this
theorem Ch.mono{a:α->List Value->Prop}(h:Ch R size l xs)(b:∀x vs,x∈l->R x vs->a x vs):Ch a size l xs:=by
 induction h with
 | nil=>exact .nil
 | cons c d _ ih=>exact .cons (b _ _ (by simp) c) d (ih λx vs e=>b x vs (by simp[e]))
theorem Ch.drop(h:Ch R size l xs):∀k,Ch R size (l.drop k) (xs.drop (k*size)):=by
 induction h with
 | nil=>intro k;simpa using Ch.nil
 | cons b a c ih=>
  intro k;rcases k with _|k
  ·simpa using Ch.cons b a c
  ·rw[List.drop_succ_cons,Nat.succ_mul,Nat.add_comm,<-List.drop_drop,<-a,List.drop_left,a];exact ih k
theorem Ch.take(h:Ch R size l xs):∀k,Ch R size (l.take k) (xs.take (k*size)):=by
 induction h with
 | nil=>intro k;simpa using Ch.nil
 | cons b a c ih=>
  intro k;rcases k with _|k
  ·simpa using Ch.nil
  ·rw[List.take_succ_cons,Nat.succ_mul,Nat.add_comm,<-a,List.take_length_add_append,a];exact .cons b a (ih k)
theorem Ch.at(h:Ch R size l xs){k:Nat}{x:α}(d:l[k]?=some x):∃vs,R x vs/\vs.length=size/\∀j,j<size->xs[k*size+j]?=vs[j]?:=by
 have a:=h.drop k;obtain⟨e,rfl⟩:=List.getElem?_eq_some_iff.1 d;rw[List.drop_eq_getElem_cons e]at a;generalize f:xs.drop (k*size)=ys at a;cases a with
 | cons b c g=>
  refine⟨_,b,c,λj i=>?_⟩;have:(xs.drop (k*size))[j]?=xs[k*size+j]?:=List.getElem?_drop;rw[<-this,f,List.getElem?_append_left (by omega)]
theorem Ch.all(h:Ch R size l xs){p:Value->Prop}(b:∀x vs,x∈l->R x vs->∀v∈vs,p v):∀v∈xs,p v:=by
 induction h with
 | nil=>intro v a;simp at a
 | cons c e _ ih=>
  intro v a;rcases List.mem_append.1 a with h|h
  ·exact b _ _ (by simp) c v h
  ·exact ih (λx vs d=>b x vs (by simp[d])) v h
theorem Ch.flat{f:α->List Value}(a:∀x,(f x).length=size):∀l:List α,Ch (λx vs=>vs=f x) size l (l.flatMap f)
 | []=>.nil
 | x::l=>by rw[List.flatMap_cons];exact .cons rfl (a x) (Ch.flat a l)
theorem Ch.flat_eq{f:α->List Value}(h:Ch (λx vs=>vs=f x) size l xs):xs=l.flatMap f:=by
 induction h with
 | nil=>rfl
 | cons a _ _ ih=>rw[List.flatMap_cons,<-ih,a]
end
structure Rp(α:Type) where
 size:Nat
 R:(Nat->Prop)->World->α->List Value->Prop
 len:∀{A w x vs},R A w x vs->vs.length=size
 one:∀{A w x vs},R A w x vs->∀v∈vs,v.oneCell'=true
 keep:∀{A B S:Nat->Prop} {w w' x vs},R A w x vs->Kept S w w'->(∀k,S k->A k)->(∀k,k<w.heap.size->B k->A k)->R B w' x vs
def Rp.flat{α:Type}(size:Nat)(f:α->List Value)(hf:∀x,(f x).length=size)(h1:∀x,∀v∈f x,v.oneCell'=true):Rp α:=
 ⟨size,λ_ _ x vs=>vs=f x,λh=>by rw[h];exact hf _,λh=>by rw[h];exact h1 _,λh _ _ _=>h⟩
def Rd{α:Type}(r:Rp α)(A:Nat->Prop)(w:World)(ao:Option Addr)(cap:Nat)(l:List α):Prop:=
 ∃xs,Ch (r.R A w) r.size l xs/\Sr A w r.size ao l.length cap xs
section
variable {α : Type} {r : Rp α} {A B S : Nat → Prop} {w w' : World} {ao : Option Addr} {cap : Nat} {l : List α}
theorem Rd.keep(h:Rd r A w ao cap l)(b:Kept S w w')(c:∀k,S k->A k)(a:∀k,k<w.heap.size->B k->A k):Rd r B w' ao cap l:=by
 obtain⟨xs,d,e⟩:=h;exact⟨xs,d.mono λ_ _ _ h=>r.keep h b c a,e.keep b c a⟩
theorem Rd.bel(h:Rd r A w ao cap l)(a:Bel w w'):Rd r A w' ao cap l:=h.keep (a.kept λ_=>False) (λ_ h=>h.elim) λ_ _ h=>h
theorem Rp.mono{x:α}{vs:List Value}(r:Rp α)(h:r.R A w x vs)(a:∀k,k<w.heap.size->B k->A k):r.R B w x vs:=r.keep h (Kept.refl (λ_=>False) w) (λ_ h=>h.elim) a
theorem Rd.mono(h:Rd r A w ao cap l)(a:∀k,k<w.heap.size->B k->A k):Rd r B w ao cap l:=h.keep (Kept.refl (λ_=>False) w) (λ_ h=>h.elim) a
theorem Rd.nil(r:Rp α)(A:Nat->Prop)(w:World)(ao:Option Addr)(cap:Nat)(a:cap<=maxLen):Rd r A w ao cap []:=⟨[],.nil,Sr.nil A w _ ao cap a⟩
theorem Rd.le(h:Rd r A w ao cap l):l.length<=cap:=by obtain⟨_,_,a⟩:=h;exact a.2.1
theorem Rd.max(h:Rd r A w ao cap l):cap<=maxLen:=by obtain⟨_,_,a⟩:=h;exact a.2.2.1
theorem Rd.small(h:Rd r A w ao cap l):l.length<=9223372036854775807:=by have:=h.le;have:=h.max;simp only[maxLen]at this;omega
theorem Rd.src{c b:TypeId}(h:Rd r A w ao cap l)(e:P.underlying b=some (.slice c)):∃xs,Ch (r.R A w) r.size l xs/\Src P r.size b (.slice ao l.length cap) l.length xs w:=by
 obtain⟨xs,a,d⟩:=h;exact⟨xs,a,d.src e (a.all λ_ _ _ h=>r.one h)⟩
theorem Rd.at(h:Rd r A w ao cap l){k:Nat}{x:α}(a:l[k]?=some x):
 ∃g off vs,ao=some ⟨g,off,none⟩/\g<w.heap.size/\¬A g/\r.R A w x vs/\∀j,j<r.size->w.cell? ⟨g,off+k*r.size+j,none⟩=vs[j]?:=by
 obtain⟨xs,b,c⟩:=h;have n:=(List.getElem?_eq_some_iff.1 a).1;obtain⟨g,off,f,o,d,i⟩:=c.cell (by omega);obtain⟨vs,e,s,q⟩:=b.at a;refine⟨g,off,vs,f,o,d,e,λj m=>?_⟩;have p:k*r.size+j<l.length*r.size:=by
  have:(k+1)*r.size<=l.length*r.size:=Nat.mul_le_mul_right _ n;rw[Nat.succ_mul]at this;omega
 rw[Nat.add_assoc,i _ p,q j m]
theorem Rd.sub(h:Rd r A w ao cap l){a b:Nat}(g:a<=b)(i:b<=l.length):Rd r A w (adv ao cap a r.size) (cap-a) ((l.drop a).take (b-a)):=by
 obtain⟨xs,c,d⟩:=h;have e:=d.sub g i;have f:=(c.drop a).take (b-a);refine⟨_,f,?_⟩;rw[show((l.drop a).take (b-a)).length=b-a by rw[List.length_take,List.length_drop];omega];exact e
end
section
variable {α : Type} {r : Rp α} {A : Nat → Prop} {w : World} {ao : Option Addr} {cap : Nat} {l : List α}
theorem Rd.take(h:Rd r A w ao cap l){k:Nat}(c:k<=l.length):Rd r A w ao cap (l.take k):=by
 obtain⟨xs,f,a⟩:=h;refine⟨_,f.take k,?_⟩;have s:k*r.size<=l.length*r.size:=Nat.mul_le_mul_right _ c;rw[List.length_take,Nat.min_eq_left c];refine⟨by rw[List.length_take,a.1];omega,by have:=a.2.1;omega,a.2.2.1,λb=>?_⟩;obtain⟨g,off,d,t,e,m,o,i,n,p⟩:=a.2.2.2 (by omega);refine⟨g,off,d,t,e,m,o,i,n,λj q b=>p j q ?_⟩;rw[List.getElem?_take]at b;split at b
 ·exact b
 ·cases b
theorem Rd.drop(h:Rd r A w ao cap l){k:Nat}(c:k<=l.length):Rd r A w (adv ao cap k r.size) (cap-k) (l.drop k):=by
 have:=h.sub (a:=k) (b:=l.length) c (Nat.le_refl _);rwa [List.take_of_length_le (by rw[List.length_drop];omega)]at this
end
def Rp.list{α:Type}(r:Rp α):Rp (List α) where
 size:=1
 R:=λA w l vs=>∃ao cap,vs=[.slice ao l.length cap]/\Rd r A w ao cap l
 len:=fun⟨_,_,h,_⟩=>by rw[h];rfl
 one:=fun⟨_,_,h,_⟩ v hv=>by rw[h,List.mem_singleton]at hv;rw[hv];rfl
 keep:=fun⟨ao,cap,h,hr⟩ hk hs hB=>⟨ao,cap,h,hr.keep hk hs hB⟩
def Own{α:Type}(r:Rp α)(A:Nat->Prop)(w0 w:World)(e:TypeId)(ao:Option Addr)(cap:Nat)(l:List α):Prop:=
 ∃xs,Ch (r.R (λk=>A k\/Qc ao cap k) w) r.size l xs/\Sl w e r.size ao l.length cap xs/\∀k,Qc ao cap k->w0.heap.size<=k
section
variable {α : Type} {r : Rp α} {A B S : Nat → Prop} {w0 w w' : World} {e : TypeId} {ao : Option Addr} {cap : Nat} {l : List α}
theorem Own.nil(r:Rp α)(A:Nat->Prop)(w0 w:World)(e:TypeId):Own r A w0 w e none 0 []:=⟨[],.nil,Sl.nil w e _,λ_ h=>absurd h.1 (by omega)⟩
theorem Own.empty(r:Rp α)(A:Nat->Prop)(w0 w:World)(e:TypeId)(a:Addr):Own r A w0 w e (some a) 0 []:=⟨[],.nil,Sl.empty w e _ a,λ_ h=>absurd h.1 (by omega)⟩
theorem Own.max(h:Own r A w0 w e ao cap l):cap<=maxLen:=by obtain⟨_,_,a,_⟩:=h;exact a.2.2.1
theorem Own.le(h:Own r A w0 w e ao cap l):l.length<=cap:=by obtain⟨_,_,a,_⟩:=h;exact a.2.1
theorem Own.keep(h:Own r A w0 w e ao cap l)(a:Kept S w w')(g:∀k,S k->A k)(i:∀k,Qc ao cap k->¬S k)(f:∀k,k<w.heap.size->B k->A k):Own r B w0 w' e ao cap l:=by
 obtain⟨xs,b,c,d⟩:=h;exact⟨xs,b.mono λ_ _ _ h=>r.keep h a (λk h=>.inl (g k h)) (λk a h=>h.imp (f k a) id),c.kept a i,d⟩
theorem Own.bel(h:Own r A w0 w e ao cap l)(a:Bel w w'):Own r A w0 w' e ao cap l:=h.keep (a.kept λ_=>False) (λ_ h=>h.elim) (λ_ _ h=>h) λ_ _ h=>h
theorem Own.rd(h:Own r A w0 w e ao cap l)(d:∀k,A k->k<w0.heap.size):Rd r A w ao cap l:=by
 obtain⟨xs,a,b,c⟩:=h;exact⟨xs,a.mono λ_ _ _ h=>r.mono h λ_ _ h=>.inl h,b.sr λk g f=>by have:=c k g;have:=d k f;omega⟩
theorem Own.rd0(h:Own r A w0 w e ao cap l):Rd r (λ_=>False) w ao cap l:=by
 obtain⟨xs,a,b,d⟩:=h;exact⟨xs,a.mono λ_ _ _ h=>r.mono h λ_ _ h=>h.elim,b.sr λk _ c=>c⟩
theorem Own.lt(h:Own r A w0 w e ao cap l){k:Nat}(b:Qc ao cap k):k<w.heap.size:=by obtain⟨_,_,a,_⟩:=h;exact a.owns b
end
structure El(P:Program)(t e:TypeId)(size bytes:Nat):Prop where
 ht:P.underlying t=some (.slice e)
 hi:∃i z,P.info? e=some i/\i.zero=some z/\i.size=size/\i.bytes=bytes/\z.cells.size=size
theorem El.mk'{t e size a:Nat}{z:Value}(g:P.underlying t=some (.slice e))(h:(P.info? e).map (λi=>(i.zero,i.size,i.bytes))=some (some z,size,a))(j:z.cells.size=size):El P t e size a:=by
 obtain⟨i,b,c,d,f⟩:=info_parts h;exact⟨g,i,z,b,c,d,f,j⟩
theorem Ja{α:Type}{r:Rp α}{A:Nat->Prop}{w0:World}(w:World){n:Array Oper}{p:List Oper}{o:Oper}{a:Act}{Q:Exit->Act->World->Prop}(G:o.guard=none)(s x:Operand)(t f:TypeId)
 (J:o.op=.call { callee:=.builtin .append,args:=#[s,x],argTypes:=#[t,f] })
 {e d:Nat} (B:El P t e r.size d) (ao:Option Addr) (cap:Nat) (l:List α) (h:Own r A w0 w e ao cap l) (E:a.eval s=.slice ao l.length cap) (v:Value) (F:a.eval x=v) (m:List α) (vs:List Value) (I:Ch (r.R (λk=>A k\/Qc ao cap k) w) r.size m vs) (K:Src P r.size f v m.length vs w)
 (H:l.length+m.length<=4294967296) (D:d<=32768) (j:Bel w0 w)
 (C:∀b c w',Own r A w0 w' e b c (l++m)->Kept (Qc ao cap) w w'->Bel w0 w'->(∀k,Qc b c k->Qc ao cap k\/k=w.heap.size)->wpList P n Q p (a.put o.dst (.slice b (l.length+m.length) c)) w'):
 wpList P n Q (o::p) a w:=by
 obtain⟨xs,q,y,g⟩:=h;obtain⟨L,i,z,M,N,O,R,S⟩:=B;refine Vf w G s x t f J e i z r.size d L M N O R S ao l.length cap xs y E v F m.length vs K (by simp only[maxLen];omega) ?_ λb c w' k1 k2 k3=>?_
 ·have:=Nat.mul_le_mul H D;omega
 ·refine C b c w' ⟨xs++vs,(q.append I).mono λ_ _ _ h=>r.keep h k2 (λk b=>.inr b) (λk b c=>c.imp id λh=>?_),by rw[List.length_append];exact k1,λk b=>?_⟩ k2 (j.of_kept k2 g) k3
  ·rcases k3 k h with h|h
   ·exact h
   ·omega
  ·rcases k3 k b with h|h
   ·exact g k h
   ·rw[h];exact j.size
end Go.Mem
namespace Go.Po
open Go.Mem
structure Put where
 q:ByteArray
 b:ByteArray
structure Msg where
 id:Int
 q:ByteArray
 b:ByteArray
 seq:Int
 cnt:Int
 who:Int
structure Fin where
 tid:Int
 yes:Bool
structure Branch where
 tid:Int
 puts:List Put
structure Qv where
 tid:Int
 parts:List Int
structure Kr where
 to:Int
 n:Int
structure Ye where
 kind:Int
 src:Int
 to:Int
 tid:Int
 n:Int
 yes:Bool
structure St where
 broker:Int
 nextId:Int
 nextSeq:Int
 tx:Int
 ms:List Msg
 waits:List Branch
 ends:List Fin
 opens:List Qv
 noes:List Qv
structure Rec where
 kind:Int
 tid:Int
 id:Int
 yes:Bool
 parts:List Int
 puts:List Put
def Qh:Rp Int:=.flat 1 (λx=>[.int .i64 x]) (λ_=>rfl) (λ_ v h=>by simp only[List.mem_singleton]at h;subst h;rfl)
def Ql:Rp UInt8:=.flat 1 (λx=>[.int .u8 x.toNat]) (λ_=>rfl) (λ_ v h=>by simp only[List.mem_singleton]at h;subst h;rfl)
def Xk:Rp ByteArray:=.flat 1 (λx=>[.string x]) (λ_=>rfl) (λ_ v h=>by simp only[List.mem_singleton]at h;subst h;rfl)
def Qw:Rp Put:=.flat 2 (λx=>[.string x.q,.string x.b]) (λ_=>rfl) (λ_ v h=>by simp only[List.mem_cons,List.not_mem_nil,or_false]at h;rcases h with rfl|rfl<;>rfl)
def J7:Rp Fin:=.flat 2 (λx=>[.int .i64 x.tid,.bool x.yes]) (λ_=>rfl) (λ_ v h=>by simp only[List.mem_cons,List.not_mem_nil,or_false]at h;rcases h with rfl|rfl<;>rfl)
def Fx:Rp Kr:=.flat 2 (λx=>[.int .i64 x.to,.int .i64 x.n]) (λ_=>rfl) (λ_ v h=>by simp only[List.mem_cons,List.not_mem_nil,or_false]at h;rcases h with rfl|rfl<;>rfl)
def Xy:Rp Msg:=.flat 6 (λx=>[.int .i64 x.id,.string x.q,.string x.b,.int .i64 x.seq,.int .i64 x.cnt,.int .i64 x.who]) (λ_=>rfl) (λ_ v h=>by simp only[List.mem_cons,List.not_mem_nil,or_false]at h;rcases h with rfl|rfl|rfl|rfl|rfl|rfl<;>rfl)
def Xw:Rp Ye:=.flat 6 (λx=>[.int .i64 x.kind,.int .i64 x.src,.int .i64 x.to,.int .i64 x.tid,.int .i64 x.n,.bool x.yes]) (λ_=>rfl) (λ_ v h=>by simp only[List.mem_cons,List.not_mem_nil,or_false]at h;rcases h with rfl|rfl|rfl|rfl|rfl|rfl<;>rfl)
def Yg:Rp (List UInt8):=Ql.list
def Zm:Rp Branch where
 size:=2
 R:=λA w x vs=>∃ao cap,vs=[.int .i64 x.tid,.slice ao x.puts.length cap]/\Rd Qw A w ao cap x.puts
 len:=fun⟨_,_,h,_⟩=>by rw[h];rfl
 one:=fun⟨_,_,h,_⟩ v hv=>by
  rw[h]at hv;simp only[List.mem_cons,List.not_mem_nil,or_false]at hv;rcases hv with rfl|rfl<;>rfl
 keep:=fun⟨ao,cap,h,hr⟩ hk hs hB=>⟨ao,cap,h,hr.keep hk hs hB⟩
def Z4:Rp Qv where
 size:=2
 R:=λA w x vs=>∃ao cap,vs=[.int .i64 x.tid,.slice ao x.parts.length cap]/\Rd Qh A w ao cap x.parts
 len:=fun⟨_,_,h,_⟩=>by rw[h];rfl
 one:=fun⟨_,_,h,_⟩ v hv=>by
  rw[h]at hv;simp only[List.mem_cons,List.not_mem_nil,or_false]at hv;rcases hv with rfl|rfl<;>rfl
 keep:=fun⟨ao,cap,h,hr⟩ hk hs hB=>⟨ao,cap,h,hr.keep hk hs hB⟩
section
variable {A : Nat → Prop} {w : World} {ao : Option Addr} {cap k : Nat}
theorem Yf{l:List Int}{x:Int}(h:Rd Qh A w ao cap l)(d:l[k]?=some x):∃g off,ao=some ⟨g,off,none⟩/\g<w.heap.size/\w.cell? ⟨g,off+k,none⟩=some (.int .i64 x):=by
 obtain⟨g,off,vs,b,e,_,a,c⟩:=h.at d;obtain rfl:vs=[.int .i64 x]:=a;refine⟨g,off,b,e,?_⟩;have:=c 0 (by decide);simpa[show Qh.size=1 from rfl] using this
theorem Wm{l:List UInt8}{x:UInt8}(h:Rd Ql A w ao cap l)(d:l[k]?=some x):∃g off,ao=some ⟨g,off,none⟩/\g<w.heap.size/\w.cell? ⟨g,off+k,none⟩=some (.int .u8 x.toNat):=by
 obtain⟨g,off,vs,b,e,_,a,c⟩:=h.at d;obtain rfl:vs=[.int .u8 x.toNat]:=a;refine⟨g,off,b,e,?_⟩;have:=c 0 (by decide);simpa[show Ql.size=1 from rfl] using this
theorem Qrf{l:List ByteArray}{x:ByteArray}(h:Rd Xk A w ao cap l)(d:l[k]?=some x):∃g off,ao=some ⟨g,off,none⟩/\g<w.heap.size/\w.cell? ⟨g,off+k,none⟩=some (.string x):=by
 obtain⟨g,off,vs,b,e,_,a,c⟩:=h.at d;obtain rfl:vs=[.string x]:=a;refine⟨g,off,b,e,?_⟩;have:=c 0 (by decide);simpa[show Xk.size=1 from rfl] using this
theorem Md{l:List (List UInt8)}{x:List UInt8}(h:Rd Yg A w ao cap l)(f:l[k]?=some x):
 ∃g off a b,ao=some ⟨g,off,none⟩/\g<w.heap.size/\w.cell? ⟨g,off+k,none⟩=some (.slice a x.length b)/\Rd Ql A w a b x:=by
 obtain⟨g,off,vs,d,i,_,c,e⟩:=h.at f;obtain⟨a,b,rfl,j⟩:=c;refine⟨g,off,a,b,d,i,?_,j⟩;have:=e 0 (by decide);simpa[show Yg.size=1 from rfl] using this
theorem Me{l:List Put}{x:Put}(h:Rd Qw A w ao cap l)(d:l[k]?=some x):
 ∃g off,ao=some ⟨g,off,none⟩/\g<w.heap.size/\w.cell? ⟨g,off+k*2,none⟩=some (.string x.q)/\w.cell? ⟨g,off+k*2+1,none⟩=some (.string x.b):=by
 obtain⟨g,off,vs,c,e,_,b,a⟩:=h.at d;obtain rfl:vs=[.string x.q,.string x.b]:=b;exact⟨g,off,c,e,a 0 (by decide),a 1 (by decide)⟩
theorem Ba{l:List Fin}{x:Fin}(h:Rd J7 A w ao cap l)(d:l[k]?=some x):
 ∃g off,ao=some ⟨g,off,none⟩/\g<w.heap.size/\w.cell? ⟨g,off+k*2,none⟩=some (.int .i64 x.tid)/\w.cell? ⟨g,off+k*2+1,none⟩=some (.bool x.yes):=by
 obtain⟨g,off,vs,c,e,_,b,a⟩:=h.at d;obtain rfl:vs=[.int .i64 x.tid,.bool x.yes]:=b;exact⟨g,off,c,e,a 0 (by decide),a 1 (by decide)⟩
theorem Qd0{l:List Kr}{x:Kr}(h:Rd Fx A w ao cap l)(d:l[k]?=some x):
 ∃g off,ao=some ⟨g,off,none⟩/\g<w.heap.size/\w.cell? ⟨g,off+k*2,none⟩=some (.int .i64 x.to)/\w.cell? ⟨g,off+k*2+1,none⟩=some (.int .i64 x.n):=by
 obtain⟨g,off,vs,c,e,_,b,a⟩:=h.at d;obtain rfl:vs=[.int .i64 x.to,.int .i64 x.n]:=b;exact⟨g,off,c,e,a 0 (by decide),a 1 (by decide)⟩
theorem Yl{l:List Msg}{x:Msg}(h:Rd Xy A w ao cap l)(d:l[k]?=some x):
 ∃g off,ao=some ⟨g,off,none⟩/\g<w.heap.size/\w.cell? ⟨g,off+k*6,none⟩=some (.int .i64 x.id)/\w.cell? ⟨g,off+k*6+1,none⟩=some (.string x.q)/\w.cell? ⟨g,off+k*6+2,none⟩=some (.string x.b) ∧
  w.cell? ⟨g,off+k*6+3,none⟩=some (.int .i64 x.seq)/\w.cell? ⟨g,off+k*6+4,none⟩=some (.int .i64 x.cnt)/\w.cell? ⟨g,off+k*6+5,none⟩=some (.int .i64 x.who):=by
 obtain⟨g,off,vs,c,e,_,b,a⟩:=h.at d;obtain rfl:vs=[.int .i64 x.id,.string x.q,.string x.b,.int .i64 x.seq,.int .i64 x.cnt,.int .i64 x.who]:=b;exact⟨g,off,c,e,a 0 (by decide),a 1 (by decide),a 2 (by decide),a 3 (by decide),a 4 (by decide),a 5 (by decide)⟩
theorem Nu{l:List Ye}{x:Ye}(h:Rd Xw A w ao cap l)(d:l[k]?=some x):
 ∃g off,ao=some ⟨g,off,none⟩/\g<w.heap.size/\w.cell? ⟨g,off+k*6,none⟩=some (.int .i64 x.kind)/\w.cell? ⟨g,off+k*6+1,none⟩=some (.int .i64 x.src)/\w.cell? ⟨g,off+k*6+2,none⟩=some (.int .i64 x.to) ∧
  w.cell? ⟨g,off+k*6+3,none⟩=some (.int .i64 x.tid)/\w.cell? ⟨g,off+k*6+4,none⟩=some (.int .i64 x.n)/\w.cell? ⟨g,off+k*6+5,none⟩=some (.bool x.yes):=by
 obtain⟨g,off,vs,c,e,_,b,a⟩:=h.at d;obtain rfl:vs=[.int .i64 x.kind,.int .i64 x.src,.int .i64 x.to,.int .i64 x.tid,.int .i64 x.n,.bool x.yes]:=b;exact⟨g,off,c,e,a 0 (by decide),a 1 (by decide),a 2 (by decide),a 3 (by decide),a 4 (by decide),a 5 (by decide)⟩
theorem Kl{l:List Branch}{x:Branch}(h:Rd Zm A w ao cap l)(f:l[k]?=some x):
 ∃g off a b,ao=some ⟨g,off,none⟩/\g<w.heap.size/\w.cell? ⟨g,off+k*2,none⟩=some (.int .i64 x.tid)/\w.cell? ⟨g,off+k*2+1,none⟩=some (.slice a x.puts.length b)/\Rd Qw A w a b x.puts:=by
 obtain⟨g,off,vs,e,i,_,d,c⟩:=h.at f;obtain⟨a,b,rfl,j⟩:=d;exact⟨g,off,a,b,e,i,c 0 (by decide),c 1 (by decide),j⟩
theorem Vo{l:List Qv}{x:Qv}(h:Rd Z4 A w ao cap l)(f:l[k]?=some x):
 ∃g off a b,ao=some ⟨g,off,none⟩/\g<w.heap.size/\w.cell? ⟨g,off+k*2,none⟩=some (.int .i64 x.tid)/\w.cell? ⟨g,off+k*2+1,none⟩=some (.slice a x.parts.length b)/\Rd Qh A w a b x.parts:=by
 obtain⟨g,off,vs,e,i,_,d,c⟩:=h.at f;obtain⟨a,b,rfl,j⟩:=d;exact⟨g,off,a,b,e,i,c 0 (by decide),c 1 (by decide),j⟩
end
theorem Fy{P:Program}{A:Nat->Prop}{w:World}{ao:Option Addr}{cap:Nat}{l:List UInt8}(src b e:TypeId)(i:P.underlying src=some (.slice e))(f:P.underlying e=some (.int .u8))(d:P.underlying b=some .string)
 (h:Rd Ql A w ao cap l):(convert src b (.slice ao l.length cap)).run P w=.ok (.string ⟨l.toArray⟩) w:=by
 rcases ao with _|a
 ·have m:l=[]:=by
   rcases l with _|⟨x,l⟩
   ·rfl
   ·obtain⟨g,off,c,_⟩:=Wm (k:=0) (x:=x) h (by simp)
    cases c
  subst m;exact Lib.run_convert_nil_bytes w src b e cap i f d
 ·refine run_convert_bytes_back w src b e a cap l i f d λj m=>?_
  obtain⟨g,off,c,_,n⟩:=Wm (k:=j) (x:=l[j]) h (by simp[m]);cases c;have m:(⟨g,off,none⟩:Addr).add j=⟨g,off+j,none⟩:=by unfold Addr.add;split<;>simp_all
  rw[m];exact n
theorem Qc3{P:Program}(A:Nat->Prop)(w:World)(c:∀k,A k->k<w.heap.size)(src a e:TypeId)(s:ByteArray)(r:s.size<=maxLen)(q:P.underlying src=some .string)(g:P.underlying a=some (.slice e))(i:P.underlying e=some (.int .u8)):
 ∃cap w',(convert src a (.string s)).run P w=.ok (.slice (some ⟨w.heap.size,0,none⟩) s.size cap) w'/\Rd Ql A w' (some ⟨w.heap.size,0,none⟩) cap s.data.toList/\Bel w w':=by
 refine⟨_,_,run_bytes_of_string w src a e s q g i,?_,(Bel.refl w).drew.alloc _⟩;have o:s.data.toList.length=s.size:=by simp
 have n:=grownCap_ge w s.size 0 e;have p:=grownCap_le_maxLen w s.size 0 e r;have d:=Ch.flat (f:=λx:UInt8=>[Value.int .u8 x.toNat]) (size:=1) (λ_=>rfl) s.data.toList;refine⟨_,d,?_⟩;have m:∀l:List UInt8,l.flatMap (λx=>[Value.int .u8 x.toNat])=l.map λx=>.int .u8 x.toNat:=by
  intro l;induction l with
  | nil=>rfl
  | cons x l ih=>rw[List.flatMap_cons,ih];rfl
 rw[m];refine⟨by rw[List.length_map,show Ql.size=1 from rfl,Nat.mul_one],by rw[o];exact n,p,λ_=>⟨w.heap.size,0,_,_,_,rfl,by simp,λh=>by have:=c _ h;omega,heap_alloc_new w.drew _,λj b b=>?_⟩⟩;have h:j<s.data.toList.length:=by
  have:=(List.getElem?_eq_some_iff.1 b).1;simpa using this
 rw[Nat.zero_add,bytesRow,Array.getElem?_append_left (by simpa using h)];simpa using b
def Kz{α:Type}(p:α->Bool)(l:List α):Int:=if l.findIdx p<l.length then (l.findIdx p:Int) else -1
theorem Nv{α:Type}{p:α->Bool}{l:List α}(h:∀x∈l,p x=false):Kz p l=-1:=by
 rw[Kz,if_neg];rw[List.findIdx_lt_length];rintro⟨x,b,a⟩;rw[h x b]at a;cases a
theorem Qgk{α:Type}{p:α->Bool}{l:List α}{k:Nat}{x:α}(f:l[k]?=some x)(e:p x=true)(c:∀j y,j<k->l[j]?=some y->p y=false):Kz p l=k:=by
 obtain⟨a,rfl⟩:=List.getElem?_eq_some_iff.1 f;have b:l.findIdx p=k:=by
  rw[List.findIdx_eq a];exact⟨e,λj d=>c j l[j] d (by simp)⟩
 rw[Kz,b,if_pos a]
theorem Ri{α:Type}{p:α->Bool}{l:List α}(h:l.any p=false):Kz p l=-1:=Nv λx a=>by
 rw[List.any_eq_false]at h;simpa using h x a
theorem Qju{α:Type}{p:α->Bool}{l:List α}(h:l.any p=true):∃i:Nat,Kz p l=i:=by
 rw[List.any_eq_true]at h;exact⟨l.findIdx p,by rw[Kz,if_pos (List.findIdx_lt_length.2 h)]⟩
structure StR(A:Nat->Prop)(w:World)(s:St)(mA:Option Addr)(mC:Nat)(wA:Option Addr)(wC:Nat)(eA:Option Addr)(eC:Nat)(oA:Option Addr)(oC:Nat)(nA:Option Addr)(nC:Nat):Prop where
 ms:Rd Xy A w mA mC s.ms
 waits:Rd Zm A w wA wC s.waits
 ends:Rd J7 A w eA eC s.ends
 opens:Rd Z4 A w oA oC s.opens
 noes:Rd Z4 A w nA nC s.noes
section
variable {A B S : Nat → Prop} {w w' : World} {s : St} {mA : Option Addr} {mC : Nat} {wA : Option Addr} {wC : Nat} {eA : Option Addr} {eC : Nat} {oA : Option Addr} {oC : Nat} {nA : Option Addr} {nC : Nat}
theorem StR.keep(h:StR A w s mA mC wA wC eA eC oA oC nA nC)(b:Kept S w w')(c:∀k,S k->A k)(a:∀k,k<w.heap.size->B k->A k):StR B w' s mA mC wA wC eA eC oA oC nA nC:=
 ⟨h.ms.keep b c a,h.waits.keep b c a,h.ends.keep b c a,h.opens.keep b c a,h.noes.keep b c a⟩
theorem StR.bel(h:StR A w s mA mC wA wC eA eC oA oC nA nC)(a:Bel w w'):StR A w' s mA mC wA wC eA eC oA oC nA nC:=h.keep (a.kept λ_=>False) (λ_ h=>h.elim) λ_ _ h=>h
theorem StR.mono(h:StR A w s mA mC wA wC eA eC oA oC nA nC)(a:∀k,k<w.heap.size->B k->A k):StR B w s mA mC wA wC eA eC oA oC nA nC:=h.keep (Kept.refl (λ_=>False) w) (λ_ h=>h.elim) a
end
end Go.Po

/- Part of this claim's proof. Conditions: as its theorems say. -/
import Derived.Test.YtkdpmdfcdgphlaaGreatM22
set_option linter.all false
set_option maxHeartbeats 4000000
set_option maxRecDepth 100000
namespace Go.Po
open Go.Proofs.YtkdpmdfcdgphlaaGreat
theorem Qg3{α:Type}{f:α->Int}{ok:Int->Bool}:∀{l:List α} {p:Option Int},ups f ok p l=true↔(∀x∈l,ok (f x)=true)/\(l.Pairwise λa b=>f a<f b)/\∀a,p=some a->∀x∈l,a<f x
 | [],p=>by simp[ups]
 | x::l,p=>by
  have j:=Qg3 (f:=f) (ok:=ok) (l:=l) (p:=some (f x));constructor
  ·intro g
   simp only[ups,Bool.and_eq_true]at g;obtain⟨d,h,e⟩:=j.1 g.2;refine⟨λy c=>?_,List.pairwise_cons.2 ⟨λy c=>e _ rfl y c,h⟩,λa i y c=>?_⟩
   ·rcases List.mem_cons.1 c with rfl|c
    ·exact g.1.1
    ·exact d y c
   ·subst i
    have k:a<f x:=by simpa using g.1.2
    rcases List.mem_cons.1 c with rfl|c
    ·exact k
    ·exact Int.lt_trans k (e _ rfl y c)
  ·rintro⟨d,h,e⟩
   obtain⟨g,k⟩:=List.pairwise_cons.1 h;have:=j.2 ⟨λy c=>d y (List.mem_cons_of_mem _ c),k,λa i y c=>by cases i;exact g y c⟩;simp only[ups,this,d x (by simp),Bool.and_true,Bool.true_and];cases p with
   | none=>rfl
   | some a=>simpa using e a rfl x (by simp)
theorem Fj{α:Type}{f:α->Int}{l:List α}:Kh f l=true↔(∀x∈l,Zw (f x)=true)/\(l.Pairwise λa b=>f a<f b)/\l.length<=2000:=by
 simp only[Kh,Bool.and_eq_true,decide_eq_true_eq,Qg3];constructor
 ·rintro⟨⟨c,d,_⟩,e⟩;exact⟨c,d,e⟩
 ·rintro⟨c,d,e⟩;exact⟨⟨c,d,λa g=>by cases g⟩,e⟩
theorem Qsi{α:Type}{f:α->Int}{t:Int}{l:List α}:∀x∈l.take (Z5 f t l),f x<t:=by
 intro x c;obtain⟨j,a,rfl⟩:=List.getElem_of_mem c;have b:j<Z5 f t l:=by rw[List.length_take]at a;omega
 exact Qw9 b (by rw[List.getElem_take];simp)
theorem Qhy{α:Type}{f:α->Int}{t:Int}:∀{l:List α},(l.Pairwise λa b=>f a<f b)->∀x∈l.drop (Z5 f t l),t<=f x
 | [],_,x,c=>by simp at c
 | a::l,h,x,c=>by
  obtain⟨g,i⟩:=List.pairwise_cons.1 h;by_cases d:f a<t
  ·have e:Z5 f t (a::l)=Z5 f t l+1:=by simp[Z5,List.takeWhile_cons,d]
   rw[e,List.drop_succ_cons]at c;exact Qhy i x c
  ·have e:Z5 f t (a::l)=0:=by simp[Z5,List.takeWhile_cons,d]
   rw[e,List.drop_zero]at c;rcases List.mem_cons.1 c with rfl|c
   ·omega
   ·have:=g x c;omega
theorem Kj{α:Type}{f:α->Int}{t:Int}{l:List α}:Qt f t l=false↔∀x∈l,f x≠t:=by
 simp[Qt]
theorem Qsj{α:Type}{f:α->Int}{t:Int}{l:List α}:Qt f t l=true↔∃x∈l,f x=t:=by
 simp[Qt]
def Cv{α:Type}(f:α->Int)(y:α)(l:List α):List α:=l.take (Z5 f (f y) l)++[y]++l.drop (Z5 f (f y) l)
theorem Um{α:Type}{f:α->Int}{y x:α}{l:List α}:x∈Cv f y l↔x=y\/x∈l:=by
 have:x∈l↔x∈l.take (Z5 f (f y) l)\/x∈l.drop (Z5 f (f y) l):=by
  conv=>lhs;rw[<-List.take_append_drop (Z5 f (f y) l) l]
  exact List.mem_append
 rw[this];simp only[Cv,List.mem_append,List.mem_singleton];constructor
 ·rintro ((h|h)|h)
  ·exact .inr (.inl h)
  ·exact .inl h
  ·exact .inr (.inr h)
 ·rintro (h|h|h)
  ·exact .inl (.inr h)
  ·exact .inl (.inl h)
  ·exact .inr h
theorem Qeh{α:Type}(f:α->Int)(y:α)(l:List α):(Cv f y l).length=l.length+1:=by
 have:=Vm f (f y) l;simp only[Cv,List.length_append,List.length_take,List.length_drop,List.length_singleton];omega
theorem Lf{α:Type}{f:α->Int}{y:α}{l:List α}(i:Kh f l=true)(p:Zw (f y)=true)(n:Qt f (f y) l=false)(w:l.length<2000):Kh f (Cv f y l)=true:=by
 obtain⟨j,e,v⟩:=Fj.1 i;refine Fj.2 ⟨λx c=>?_,?_,by rw[Qeh];omega⟩
 ·rcases Um.1 c with rfl|c
  ·exact p
  ·exact j x c
 ·have k:=Qhy (t:=f y) e
  have o:∀x∈l.take (Z5 f (f y) l),f x<f y:=Qsi;have m:∀x∈l.drop (Z5 f (f y) l),f y<f x:=λx c=>by
   have:=k x c;have:=Kj.1 n x (List.mem_of_mem_drop c);omega
  have g:=e;rw[<-List.take_append_drop (Z5 f (f y) l) l,List.pairwise_append]at g;obtain⟨q,r,s⟩:=g;rw[Cv,List.append_assoc,List.pairwise_append];refine⟨q,List.pairwise_cons.2 ⟨m,r⟩,λa h b d=>?_⟩;rcases List.mem_cons.1 d with rfl|d
  ·exact o a h
  ·exact s a h b d
theorem Lh{α:Type}{f:α->Int}{l m:List α}(h:Kh f l=true)(a:m.Sublist l):Kh f m=true:=by
 obtain⟨b,c,d⟩:=Fj.1 h;exact Fj.2 ⟨λx e=>b x (a.subset e),c.sublist a,Nat.le_trans a.length_le d⟩
theorem Qag(l:List Fin)(t:Int)(a:Bool):Cc l t a=Cv (λp:Fin=>p.tid) ⟨t,a⟩ l:=rfl
theorem Qsk(l:List Branch)(t:Int)(a:List Put):Qiy l t a=Cv (λp:Branch=>p.tid) ⟨t,a⟩ l:=rfl
structure Good(s:St):Prop where
 may:May s
 fits:U4 s 0=true
theorem Dn{r:Rec}:Qp r=true↔(1<=r.kind/\r.kind<=9)/\Zw r.tid=true/\Mr r=true/\Gi r=true/\Xq r.parts (F3 r.kind) (Wp r.kind)=true/\(r.puts.length:Int)<=Jw r.kind/\r.puts.all Jg=true:=by
 simp only[Qp,Bool.and_eq_true,decide_eq_true_eq];constructor
 ·rintro⟨⟨⟨a,b⟩,c⟩,⟨⟨⟨d,e⟩,f⟩,g⟩,h⟩;exact⟨⟨a,b⟩,c,d,e,f,g,h⟩
 ·rintro⟨⟨a,b⟩,c,d,e,f,g,h⟩;exact⟨⟨⟨a,b⟩,c⟩,⟨⟨⟨d,e⟩,f⟩,g⟩,h⟩
theorem Qlq{t:Int}{a:List Put}:Qp ⟨4,t,0,false,[],a⟩=true↔Zw t=true/\a.length<=10/\a.all Jg=true:=by
 rw[Dn];simp[Mr,Gi,Xq,ups,F3,Wp,Jw];omega
theorem Qz9{t:Int}{a:List Int}:Qp ⟨6,t,0,false,a,[]⟩=true↔Zw t=true/\Xq a 1 7=true:=by
 rw[Dn];simp[Mr,Gi,F3,Wp,Jw]
theorem Ud{s:St}{n:Int}:U4 s n=true↔Xz s+n<=4294967296-s.nextId/\Xz s+n<=72-(s.ms.length:Int)/\Xz s+n<=1099511627776-s.nextSeq:=by
 simp only[U4,Bool.and_eq_true,decide_eq_true_eq,and_assoc]
theorem Qoo(l:List Branch):0<=(l.map λb=>(b.puts.length:Int)).sum:=by
 induction l with
 | nil=>simp
 | cons b l ih=>simp only[List.map_cons,List.sum_cons];omega
theorem Gn(p:Branch->Bool)(l:List Branch):((l.filter p).map λb=>(b.puts.length:Int)).sum<=(l.map λb=>(b.puts.length:Int)).sum:=by
 induction l with
 | nil=>simp
 | cons b l ih=>rcases a:p b<;>simp only[List.filter_cons,a,List.map_cons,List.sum_cons]<;>simp<;>omega
theorem Qva{p:Branch->Bool}{l:List Branch}{b:Branch}(c:b∈l)(d:p b=false):((l.filter p).map λb=>(b.puts.length:Int)).sum+b.puts.length<=(l.map λb=>(b.puts.length:Int)).sum:=by
 induction l with
 | nil=>simp at c
 | cons a l ih=>
  have f:=Gn p l;rcases List.mem_cons.1 c with rfl|c
  ·simp only[List.filter_cons,d,List.map_cons,List.sum_cons];simp;omega
  ·have:=ih c
   rcases e:p a<;>simp only[List.filter_cons,e,List.map_cons,List.sum_cons]<;>simp<;>omega
theorem Qvb(y:Branch)(l:List Branch):((Cv (λx:Branch=>x.tid) y l).map λb=>(b.puts.length:Int)).sum=(l.map λb=>(b.puts.length:Int)).sum+y.puts.length:=by
 have e:(l.map λb=>(b.puts.length:Int)).sum=((l.take (Z5 (λx:Branch=>x.tid) y.tid l)).map λb=>(b.puts.length:Int)).sum+((l.drop (Z5 (λx:Branch=>x.tid) y.tid l)).map λb=>(b.puts.length:Int)).sum:=by
  rw[<-List.sum_append,<-List.map_append,List.take_append_drop]
 rw[e,Cv];simp only[List.map_append,List.sum_append,List.map_cons,List.map_nil,List.sum_cons,List.sum_nil];omega
theorem Qop{b n:Int}(c:Qz b=true)(d:1<=n)(f:n<4294967296):home (mk b n)=b/\mk b n % 4294967296=n/\mk b n=b*4294967296+n:=by
 have g:=c;simp only[Qz,Bool.and_eq_true,decide_eq_true_eq]at g;have e:mk b n=b*4294967296+n:=by unfold mk;rw[if_pos ⟨c,d,f⟩]
 have a:(b*4294967296+n) % 4294967296=n:=by omega
 refine⟨?_,by rw[e,a],e⟩;rw[e,home,if_pos ⟨by omega,by omega,by rw[a];omega⟩];omega
theorem Qhz{b:Int}:∀{l:List Put} {i q:Int} {m:Msg},m∈Kb b i q l->∃k:Nat,∃p,l[k]?=some p/\m=⟨mk b (i+k),p.q,p.b,q+k,0,0⟩
 | [],_,_,m,h=>by simp[Kb]at h
 | p::l,i,q,m,h=>by
  rcases List.mem_cons.1 h with rfl|h
  ·exact⟨0,p,rfl,by simp⟩
  ·obtain⟨k,d,a,c⟩:=Qhz h
   exact⟨k+1,d,by simpa using a,by rw[c,show i+((k+1:Nat):Int)=i+1+k by omega,show q+((k+1:Nat):Int)=q+1+k by omega]⟩
theorem Qh0{b:Int}:∀{l:List Put} {i q:Int},((Kb b i q l).Pairwise λx y=>x.seq<y.seq)/\∀m∈Kb b i q l,q<=m.seq
 | [],_,_=>by simp[Kb]
 | p::l,i,q=>by
  obtain⟨d,c⟩:=Qh0 (b:=b) (l:=l) (i:=i+1) (q:=q+1);refine⟨List.pairwise_cons.2 ⟨λm a=>?_,d⟩,λm a=>?_⟩
  ·have:=c m a;simp only;omega
  ·rcases List.mem_cons.1 a with rfl|a
   ·simp
   ·have:=c m a;omega
theorem Qlr{b:Int}(d:Qz b=true):∀{l:List Put} {i q:Int},1<=i->i+l.length<=4294967296->((Kb b i q l).map Msg.id).Nodup/\∀m∈Kb b i q l,i<=m.id % 4294967296
 | [],_,_,_,_=>by simp[Kb]
 | p::l,i,q,h1,h2=>by
  simp only[List.length_cons]at h2;obtain⟨g,c⟩:=Qlr d (l:=l) (i:=i+1) (q:=q+1) (by omega) (by omega);have e:=Qop d h1 (by omega:i<4294967296);refine⟨?_,λm a=>?_⟩
  ·rw[Kb,List.map_cons,List.nodup_cons]
   refine⟨λf=>?_,g⟩;obtain⟨m,a,h⟩:=List.mem_map.1 f;have:=c m a;have f:=h;rw[f,e.2.1]at this;omega
  ·rcases List.mem_cons.1 a with rfl|a
   ·simp only;rw[e.2.1];omega
   ·have:=c m a;omega
theorem Pn{l:List Msg}:Jv Msg.seq l↔l.Pairwise λa b=>a.seq<b.seq:=Wl
theorem Qls(t:Int)(a:Bool)(l:List Msg):((l.flatMap (J4 t a)).map λm=>(m.id,m.seq)).Sublist (l.map λm=>(m.id,m.seq)):=by
 induction l with
 | nil=>simp
 | cons m l ih=>
  rw[List.flatMap_cons,List.map_append,List.map_cons];have h:J4 t a m=[]\/J4 t a m=[Wh m]\/J4 t a m=[m]:=by unfold J4;split<;>(try split)<;>simp
  rcases h with h|h|h<;>rw[h]
  ·exact ih.cons _
  ·exact ih.cons_cons _
  ·exact ih.cons_cons _
theorem Qlt{t:Int}{d:Bool}{l:List Msg}{m:Msg}(h:m∈l.flatMap (J4 t d)):(m∈l/\m.who≠t)\/∃b∈l,m=Wh b:=by
 obtain⟨b,c,a⟩:=List.mem_flatMap.1 h;unfold J4 at a;split at a
 ·split at a
  ·simp at a
  ·simp only[List.mem_singleton]at a;exact .inr ⟨b,c,a⟩
 ·simp only[List.mem_singleton]at a;subst a;exact .inl ⟨c,by assumption⟩
theorem Yb{s:St}{m:Msg}:Ld s m=true↔0<m.seq/\m.seq<s.nextSeq/\home m.id=s.broker/\m.id % 4294967296<s.nextId/\(m.who=0\/(Zw m.who=true/\Qt Fin.tid m.who s.ends=false))/\Jg ⟨m.q,m.b⟩=true/\0<=m.cnt/\m.cnt<=1000:=by
 simp only[Ld,Bool.and_eq_true,Bool.or_eq_true,decide_eq_true_eq,beq_iff_eq,Bool.not_eq_true'];constructor
 ·rintro⟨⟨⟨⟨⟨⟨⟨a,b⟩,c⟩,d⟩,e⟩,f⟩,g⟩,h⟩;exact⟨a,b,c,d,e,f,g,h⟩
 ·rintro⟨a,b,c,d,e,f,g,h⟩;exact⟨⟨⟨⟨⟨⟨⟨a,b⟩,c⟩,d⟩,e⟩,f⟩,g⟩,h⟩
theorem Pp{l:List Msg}:(l.Pairwise λa b=>a.seq<b.seq)↔(l.map λm=>(m.id,m.seq)).Pairwise λa b=>a.2<b.2:=by
 rw[List.pairwise_map]
theorem Qah{l:List Msg}:(l.map Msg.id).Nodup↔(l.map λm=>(m.id,m.seq)).Pairwise λa b=>a.1≠b.1:=by
 rw[List.Nodup,List.pairwise_map,List.pairwise_map]
theorem Qct{s:St}(g:Good s)(t:Int)(T:Zw t=true)(o:Bool)(D:List Put)(E:D.all Jg=true)(R:Qt Fin.tid t s.ends=false)(Q:s.ends.length<2000)
 (r:((s.waits.filter λb=>!(b.tid==t)).map λb=>(b.puts.length:Int)).sum+(Jq o D).length<=Xz s\/U4 s (Jq o D).length=true):Good (Qr s t o D):=by
 obtain⟨h,O⟩:=g;obtain⟨U,V,W⟩:=Ud.1 O;obtain⟨P,F⟩:=Zx (Jq o D);have N:∀p∈P,Jg p=true:=by
  rw[F];unfold Jq;intro p j;split at j
  ·exact List.all_eq_true.1 E p j
  ·simp at j
 have ab:=Qoo s.waits;have ac:=Qoo (s.waits.filter λb=>!(b.tid==t));have ad:=Gn (λb=>!(b.tid==t)) s.waits;have S:((s.waits.filter λb=>!(b.tid==t)).map λb=>(b.puts.length:Int)).sum+P.length<=4294967296-s.nextId/\((s.waits.filter λb=>!(b.tid==t)).map λb=>(b.puts.length:Int)).sum+P.length<=72-(s.ms.length:Int)/\((s.waits.filter λb=>!(b.tid==t)).map λb=>(b.puts.length:Int)).sum+P.length<=1099511627776-s.nextSeq:=by
  rcases r with r|r
  ·rw[<-F]at r;unfold Xz at *;omega
  ·rw[<-F]at r
   obtain⟨v,w,z⟩:=Ud.1 r;unfold Xz at *;omega
 obtain⟨ae,af,ah⟩:=S;have X:=Qds t o s.ms;have L:Qr s t o D=⟨s.broker,s.nextId+P.length,s.nextSeq+P.length,s.tx,s.ms.flatMap (J4 t o)++Kb s.broker s.nextId s.nextSeq P,s.waits.filter (λb=>!(b.tid==t)),Cc s.ends t o,Xp s.opens t,s.noes⟩:=by rw[F];rfl
 have G:∀x,Qt Fin.tid x s.ends=false->x≠t->Qt Fin.tid x (Cc s.ends t o)=false:=λx j r=>by
  rw[Kj]at j ⊢;intro e C;rw[Qag]at C;rcases Um.1 C with rfl|C
  ·exact Ne.symm r
  ·exact j e C
 have Y:=Gw s.broker P s.nextId s.nextSeq;have H:=h.broker;have K:=Qh0 (b:=s.broker) (l:=P) (i:=s.nextId) (q:=s.nextSeq);have I:=Qlr h.broker (l:=P) (i:=s.nextId) (q:=s.nextSeq) h.nextId.1 (by omega);have J:∀m∈s.ms.flatMap (J4 t o),∃v∈s.ms,m.id=v.id/\m.seq=v.seq:=λm w=>by
  rcases Qlt w with⟨j,_⟩|⟨v,j,rfl⟩
  ·exact⟨m,j,rfl,rfl⟩
  ·exact⟨v,j,rfl,rfl⟩
 rw[L];refine⟨⟨H,⟨by have:=h.nextId;simp only;omega,by simp only;omega⟩,⟨by have:=h.nextSeq;simp only;omega,by simp only;omega⟩,h.tx,?_,?_,?_,h.tn,?_,?_,?_,?_,?_,?_,?_⟩,?_⟩
 ·exact Lh h.tw (List.filter_sublist)
 ·exact Lf (y:=(⟨t,o⟩:Fin)) h.te T R Q
 ·exact Lh h.tp (List.filter_sublist)
 ·simp only[List.length_append];omega
 ·rw[Pn,List.pairwise_append]
  refine⟨Pp.2 ((Pp.1 (Pn.1 h.seqs)).sublist (Qls t o s.ms)),K.1,λa r b A=>?_⟩;obtain⟨v,z,_,B⟩:=J a r;have:=(Yb.1 (h.ms v z)).2.1;have:=K.2 b A;omega
 ·rw[List.map_append,List.nodup_append]
  refine⟨Qah.2 ((Qah.1 h.ids).sublist (Qls t o s.ms)),I.1,λa r b A=>?_⟩;obtain⟨m,w,rfl⟩:=List.mem_map.1 r;obtain⟨M,r,rfl⟩:=List.mem_map.1 A;obtain⟨v,z,B,_⟩:=J m w;have:=(Yb.1 (h.ms v z)).2.2.2.1;have:=I.2 M r;intro j;rw[<-j,B]at this;omega
 ·intro m w
  rcases List.mem_append.1 w with w|w
  ·rcases Qlt w with⟨j,r⟩|⟨v,j,rfl⟩
   ·obtain⟨a,b,c,d,e,f,g,k⟩:=Yb.1 (h.ms m j)
    exact Yb.2 ⟨a,by simp only;omega,c,by simp only;omega,e.imp_right λj=>⟨j.1,G _ j.2 r⟩,f,g,k⟩
   ·obtain⟨a,b,c,d,e,f,g,k⟩:=Yb.1 (h.ms v j)
    exact Yb.2 ⟨a,by simp only[Wh];omega,c,by simp only[Wh];omega,.inl rfl,f,by simp only[Wh];omega,by simp only[Wh];omega⟩
  ·obtain⟨k,p,r,rfl⟩:=Qhz w
   have M:=(List.getElem?_eq_some_iff.1 r).1;have Z:=h.nextId;have aa:=h.nextSeq;have e:=Qop H (n:=s.nextId+k) (by omega) (by omega);refine Yb.2 ⟨by simp only;omega,by simp only;omega,e.1,?_,.inl rfl,N p (List.mem_of_getElem? r),by simp,by simp⟩;simp only;rw[e.2.1];omega
 ·intro b A
  obtain⟨z,B⟩:=List.mem_filter.1 A;have r:=h.ws b z;simp only[Ha,Bool.and_eq_true,Bool.not_eq_true']at r ⊢;exact⟨G _ r.1 (by simpa using B),r.2⟩
 ·intro p E
  obtain⟨z,B⟩:=List.mem_filter.1 E;have r:=h.os p z;simp only[Qbu,Bool.and_eq_true,Bool.not_eq_true']at r ⊢;refine⟨⟨G _ r.1.1 (by simpa using B),?_⟩,r.2⟩;have M:=Kj.1 r.1.2;rw[Kj];intro b A;exact M b (List.mem_filter.1 A).1
 ·intro p E
  have r:=h.ns p E;simp only[Tu,Bool.and_eq_true,List.any_eq_true]at r ⊢;obtain⟨⟨e,C,z⟩,A⟩:=r;exact⟨⟨e,by rw[Qag];exact Um.2 (.inr C),z⟩,A⟩
 ·refine Ud.2 ⟨?_,?_,?_⟩<;>simp only[Xz,List.length_append]<;>omega
theorem Fp{l:List Int}{h g:Int}:Xq l h g=true↔(∀x∈l,Qz x=true)/\(l.Pairwise λa b=>a<b)/\h<=l.length/\(l.length:Int)<=g:=by
 simp only[Xq,Bool.and_eq_true,decide_eq_true_eq,Qg3];constructor
 ·rintro⟨⟨⟨c,d,_⟩,e⟩,f⟩;exact⟨c,d,e,f⟩
 ·rintro⟨c,d,e,f⟩;exact⟨⟨⟨c,d,λa i=>by cases i⟩,e⟩,f⟩
theorem Dp{s:St}{r:Rec}(h:Zf s r=0):Qp r=true/\(r.kind=9\/Dw s r.tid=false)/\J3 s r=false/\Zy s r=false/\Kc s r=false/\Jf s r=false:=by
 unfold Zf at h;split at h
 ·omega
 split at h
 ·omega
 split at h
 ·omega
 split at h
 ·omega
 split at h
 ·omega
 split at h
 ·omega
 rename_i b c d e f g;refine⟨by simpa using b,?_,by simpa using d,by simpa using e,by simpa using f,by simpa using g⟩;by_cases a:r.kind=9
 ·exact .inl a
 ·exact .inr (by rcases i:Dw s r.tid with _|_;rfl;exact absurd ⟨i,a⟩ c)
theorem Qlu{α:Type}{f:α->Int}{t:Int}{l:List α}(c:Kh f l=true)(h:Qt f t l=true):∃e:α,l[Z5 f t l]?=some e/\f e=t/\e∈l:=by
 obtain⟨e,a,b⟩:=Go.Proofs.YtkdpmdfcdgphlaaGreat.Sg (Ze c) h;exact⟨e,a,b,List.mem_of_getElem? a⟩
theorem Qqe(s:St)(t:Int):Dw s t=Qt Fin.tid t s.ends:=rfl
theorem Qdk(s:St)(t:Int):Jj s t=Qt Branch.tid t s.waits:=rfl
theorem Qqf(s:St)(t:Int):Vs s t=Qt Qv.tid t s.opens:=rfl
theorem Bo{s:St}{p:Qv}:Vu s p=true↔(Zw p.tid=true/\Xq p.parts 1 7=true)/\home p.tid=s.broker/\p.parts.contains s.broker=false:=by
 simp only[Vu,Bool.and_eq_true,beq_iff_eq,Bool.not_eq_true',Qz9,and_assoc]
theorem Qlv{s:St}{r:Rec}:Uy s r=false↔home r.tid=s.broker/\Jj s r.tid=false/\r.parts.contains s.broker=false:=by
 simp only[Uy,ownB,Bool.or_eq_false_iff,Bool.not_eq_false',beq_iff_eq,and_assoc]
theorem Qg4{l m:List Int}{b:Int}(h:l.contains b=false)(c:∀x∈m,x∈l):m.contains b=false:=by
 simp only[List.contains_eq_mem,decide_eq_false_iff_not]at h ⊢;exactλa=>h (c b a)
theorem Qlw{s:St}(C:May s){l:List Qv}{p:Qv}(c:l.Sublist s.noes)(b:Vu s p=true)(A:Qt Qv.tid p.tid l=false)(B:(s.ends.any λe=>e.tid==p.tid&&!e.yes)=true)(z:l.length<2000):May (Vj s (Ki l p.tid p.parts)):=by
 obtain⟨d,m,n,o,q,r,t,v,w,f,g,h,i,j,k⟩:=C;refine⟨d,m,n,o,q,r,t,?_,w,f,g,h,i,j,?_⟩
 ·exact Lf (y:=p) (Lh v c) (Bo.1 b).1.1 A z
 ·intro x a
  rcases Um.1 (show x∈Cv (λp:Qv=>p.tid) p l from a)with rfl|a
  ·show((s.ends.any λe=>e.tid==x.tid&&!e.yes)&&Vu s x)=true
   rw[B,b];rfl
  ·exact k x (c.subset a)
theorem Qvc{s:St}(t:May s){l:List Qv}(a:l.Sublist s.noes):May (Vj s l):=by
 obtain⟨b,i,j,k,m,n,o,p,q,c,d,e,f,g,h⟩:=t;exact⟨b,i,j,k,m,n,o,Lh p a,q,c,d,e,f,g,λx r=>h x (a.subset r)⟩
theorem Vx{s:St}(g:Good s){r:Rec}(ad:Zf s r=0)(few:Few s):Good (Qf s r):=by
 obtain⟨ab,t,I,w,ak,H⟩:=Dp ad;have X:=g.may;have A:=g.fits;obtain⟨K,O,P,W,D,Q,R,E,S,L,M,B,C,N,z⟩:=id X;obtain⟨al,i,ai,aj,aa,ac,Z⟩:=Dn.1 ab;have h:=Uf ab;unfold Qf;rcases h with h|h|h|h|h|h|h|h|h
 ·rw[if_pos h]
  exact⟨⟨K,O,P,⟨by simp only[txS];omega,by have:=few.tx;simp only[txS];omega⟩,D,Q,R,E,S,L,M,B,C,N,z⟩,A⟩
 ·rw[if_neg (by omega),if_pos h]
  have q:Qt Fin.tid r.tid s.ends=false:=t.resolve_left (by omega);have n:((Dt s.ms r.id r.tid).map λm=>(m.id,m.seq))=s.ms.map λm=>(m.id,m.seq):=by
   unfold Dt;rw[List.map_map];refine List.map_congr_left λm _=>?_
   simp only[Function.comp];split<;>rfl
  refine⟨⟨K,O,P,W,D,Q,R,E,?_,?_,?_,?_,C,N,z⟩,?_⟩
  ·simpa[Du,Dt] using S
  ·refine Pn.2 (Pp.2 ?_)
   show((Dt s.ms r.id r.tid).map λm=>(m.id,m.seq)).Pairwise _;rw[n];exact Pp.1 (Pn.1 L)
  ·refine Qah.2 ?_
   show((Dt s.ms r.id r.tid).map λm=>(m.id,m.seq)).Pairwise _;rw[n];exact Qah.1 M
  ·intro m v
   obtain⟨F,o,j⟩:=List.mem_map.1 (show m∈s.ms.map λm=>if m.id=r.id then Qa3 r.tid m else m from v);split at j
   ·subst j
    obtain⟨a,b,c,d,e,f,g,k⟩:=Yb.1 (B F o);exact Yb.2 ⟨a,b,c,d,.inr ⟨i,q⟩,f,g,k⟩
   ·subst j;exact B F o
  ·obtain⟨a,b,c⟩:=Ud.1 A
   exact Ud.2 ⟨a,by simpa[Du,Dt,Xz] using b,c⟩
 ·rw[if_neg (by omega),if_neg (by omega),if_pos h]
  refine Qct g _ i false [] rfl (t.resolve_left (by omega)) few.ends (.inl ?_);have:=Gn (λb=>!(b.tid==r.tid)) s.waits;simp only[Jq,Xz];simp;omega
 ·rw[if_neg (by omega),if_neg (by omega),if_neg (by omega),if_pos h]
  have q:Qt Fin.tid r.tid s.ends=false:=t.resolve_left (by omega);have F:Jj s r.tid=false/\home r.tid≠s.broker:=by
   simp only[Zy,h,Bool.or_eq_false_iff]at w;have:=w.1.2;simp[ownB]at this;exact this
  have U:U4 s r.puts.length=true:=by
   simp only[Jf,h]at H;simpa using H
  have V:r.puts.length<=10:=by simp[h,Jw]at ac;omega
  refine⟨⟨K,O,P,W,?_,Q,R,E,S,L,M,B,?_,?_,z⟩,?_⟩
  ·exact Lf (y:=(⟨r.tid,r.puts⟩:Branch)) D i F.1 few.waits
  ·intro b j
   rcases Um.1 (show b∈Cv (λp:Branch=>p.tid) ⟨r.tid,r.puts⟩ s.waits from j)with rfl|j
   ·show(!Qt Fin.tid r.tid s.ends&&Qp ⟨4,r.tid,0,false,[],r.puts⟩)=true
    rw[q,Qlq.2 ⟨i,V,Z⟩];rfl
   ·exact C b j
  ·intro p n
   have o:=N p n;simp only[Qbu,Bool.and_eq_true,Bool.not_eq_true']at o ⊢;refine⟨⟨o.1.1,?_⟩,o.2⟩;have J:=(Bo.1 o.2).2.1;have T:=Kj.1 o.1.2;rw[Kj];intro b j;rcases Um.1 (show b∈Cv (λp:Branch=>p.tid) ⟨r.tid,r.puts⟩ s.waits from j)with rfl|j
   ·intro G
    simp only at G;exact F.2 (by rw[G];exact J)
   ·exact T b j
  ·have e:Xz (Rz s r.tid r.puts)=Xz s+r.puts.length:=Qvb ⟨r.tid,r.puts⟩ s.waits
   obtain⟨a,b,c⟩:=Ud.1 U;refine Ud.2 ⟨?_,?_,?_⟩<;>rw[e]<;>simp only[Rz]<;>omega
 ·rw[if_neg (by omega),if_neg (by omega),if_neg (by omega),if_neg (by omega),if_pos h]
  have ae:Qt Branch.tid r.tid s.waits=true:=by
   simp only[J3,h,Bool.or_eq_false_iff]at I;have:=I.1.2;simpa[Qdk] using this
  obtain⟨b,F,J,v⟩:=Qlu D ae;have j:s.waits[Z5 (λx:Branch=>x.tid) r.tid s.waits]?=some b:=F;have e:Dr s r.tid=b.puts:=by unfold Dr;rw[j]
  have V:=C b v;simp only[Ha,Bool.and_eq_true]at V;have Y:=Qlq.1 V.2;rw[e];refine Qct g _ i r.yes b.puts Y.2.2 (t.resolve_left (by omega)) few.ends (.inl ?_);have af:=Qva (p:=λb=>!(b.tid==r.tid)) v (by simp[J]);have T:(Jq r.yes b.puts).length<=b.puts.length:=by unfold Jq;split<;>simp
  simp only[Xz];omega
 ·rw[if_neg (by omega),if_neg (by omega),if_neg (by omega),if_neg (by omega),if_neg (by omega),if_pos h]
  have q:Qt Fin.tid r.tid s.ends=false:=t.resolve_left (by omega);have j:Uy s r=false/\Vs s r.tid=false:=by
   simp only[Zy,h,Bool.or_eq_false_iff]at w;have:=w.1.1.1.1.2;simpa using this
  obtain⟨F,Y,T⟩:=Qlv.1 j.1;have V:Vu s ⟨r.tid,r.parts⟩=true:=Bo.2 ⟨⟨i,by simpa[h,F3,Wp] using aa⟩,F,T⟩;refine⟨⟨K,O,P,W,D,Q,?_,E,S,L,M,B,C,?_,z⟩,A⟩
  ·exact Lf (y:=(⟨r.tid,r.parts⟩:Qv)) R i j.2 few.opens
  ·intro p n
   rcases Um.1 (show p∈Cv (λp:Qv=>p.tid) ⟨r.tid,r.parts⟩ s.opens from n)with rfl|n
   ·show((!Qt Fin.tid r.tid s.ends&&!Qt Branch.tid r.tid s.waits)&&Vu s ⟨r.tid,r.parts⟩)=true
    rw[q,V,show Qt Branch.tid r.tid s.waits=false from Y];rfl
   ·exact N p n
 ·rw[if_neg (by omega),if_neg (by omega),if_neg (by omega),if_neg (by omega),if_neg (by omega),if_neg (by omega),if_pos h]
  have U:U4 s r.puts.length=true:=by
   simp only[Jf,h]at H;simpa using H
  exact Qct g _ i true r.puts Z (t.resolve_left (by omega)) few.ends (.inr (by simpa[Jq] using U))
 ·rw[if_neg (by omega),if_neg (by omega),if_neg (by omega),if_neg (by omega),if_neg (by omega),if_neg (by omega),if_neg (by omega),if_pos h]
  have q:Qt Fin.tid r.tid s.ends=false:=t.resolve_left (by omega);have U:Good (Qr s r.tid false []):=Qct g _ i false [] rfl q few.ends (.inl (by
   have:=Gn (λb=>!(b.tid==r.tid)) s.waits;simp only[Jq,Xz];simp;omega))
  split
  ·exact U
  ·rename_i V
   have j:Uy s r=false:=by
    simp only[Zy,h,Bool.or_eq_false_iff]at w;have:=w.1.1.2;simpa using this
   obtain⟨F,Y,T⟩:=Qlv.1 j;have ah:Xq r.parts 1 7=true:=by
    obtain⟨a,b,c,d⟩:=Fp.1 aa;refine Fp.2 ⟨a,b,?_,by simpa[h,Wp] using d⟩;have:=List.length_pos_iff.2 V;omega
   refine⟨Qlw (s:=Qr s r.tid false []) (l:=s.noes) (p:=⟨r.tid,r.parts⟩) U.may (List.Sublist.refl _) (Bo.2 ⟨⟨i,ah⟩,F,T⟩) ?_ ?_ few.noes,?_⟩
   ·rw[Kj]
    intro p n G;have o:=z p n;simp only[Tu,Bool.and_eq_true,List.any_eq_true,beq_iff_eq]at o;obtain⟨⟨e,ae,af⟩,_⟩:=o;exact Kj.1 q e ae (by rw[af.1];exact G)
   ·rw[List.any_eq_true]
    exact⟨⟨r.tid,false⟩,Um.2 (.inl rfl),by simp⟩
   ·exact U.fits
 ·rw[if_neg (by omega),if_neg (by omega),if_neg (by omega),if_neg (by omega),if_neg (by omega),if_neg (by omega),if_neg (by omega),if_neg (by omega),if_pos h]
  have F:Gd s r=true:=by
   simp only[J3,h,Bool.or_eq_false_iff]at I;have:=I.2;simpa using this
  have G:Qt Qv.tid r.tid s.noes=true:=by
   simp only[Gd,Bool.and_eq_true]at F;exact F.1
  obtain⟨p,n,J,v⟩:=Qlu E G;have T:s.noes[Z5 (λx:Qv=>x.tid) r.tid s.noes]?=some p:=n;have e:Qcg s r.tid=p.parts:=by unfold Qcg;rw[T]
  have q:=z p v;simp only[Tu,Bool.and_eq_true]at q;obtain⟨⟨af,U⟩,Y,ae⟩:=Bo.1 q.2;obtain⟨a,b,c,d⟩:=Fp.1 U;split
  ·exact⟨Qvc X List.filter_sublist,A⟩
  ·rename_i V
   have o:(Bl s r.tid (r.parts.headD 0)).Sublist p.parts:=by unfold Bl;rw[e];exact List.filter_sublist
   refine⟨Qlw (p:=⟨r.tid,Bl s r.tid (r.parts.headD 0)⟩) X List.filter_sublist (Bo.2 ⟨⟨i,Fp.2 ⟨λx j=>a x (o.subset j),b.sublist o,?_,by have:=o.length_le;simp only;omega⟩⟩,by rw[<-J];exact Y,Qg4 ae λx j=>o.subset j⟩) ?_ ?_ ?_,A⟩
   ·have:=List.length_pos_iff.2 V;simp only;omega
   ·rw[Kj]
    intro x j;have:=(List.mem_filter.1 j).2;simpa using this
   ·show(s.ends.any λe=>e.tid==r.tid&&!e.yes)=true
    rw[<-J];exact q.1
   ·have:=Dv s.noes r.tid
    have:=few.noes;show(Xp s.noes r.tid).length<2000;omega
theorem Qlx{b:Int}(a:Qz b=true):Good (Z8 b):=by
 refine⟨⟨a,by simp[Z8],by simp[Z8],by simp[Z8],rfl,rfl,rfl,rfl,by simp[Z8],λi j x y _ c _=>by simp[Z8]at c,by simp[Z8],λm h=>by simp[Z8]at h,λm h=>by simp[Z8]at h,λm h=>by simp[Z8]at h,λm h=>by simp[Z8]at h⟩,?_⟩;refine Ud.2 ⟨?_,?_,?_⟩<;>simp[Z8,Xz]
structure Fit(n:Nat)(s:St):Prop where
 tx:s.tx<=n
 waits:s.waits.length<=n
 ends:s.ends.length<=n
 opens:s.opens.length<=n
 noes:s.noes.length<=n
theorem Fit.few{n:Nat}{s:St}(h:Fit n s)(a:n<200):Few s:=⟨by have:=h.tx;omega,by have:=h.waits;omega,by have:=h.ends;omega,by have:=h.opens;omega,by have:=h.noes;omega⟩
theorem Fit.mono{n m:Nat}{s:St}(h:Fit n s)(a:n<=m):Fit m s:=⟨by have:=h.tx;omega,by have:=h.waits;omega,by have:=h.ends;omega,by have:=h.opens;omega,by have:=h.noes;omega⟩
theorem Qoq(b:Int):Fit 0 (Z8 b):=⟨by simp[Z8],by simp[Z8],by simp[Z8],by simp[Z8],by simp[Z8]⟩
theorem Rv{n:Nat}{s:St}(h:Fit n s)(t:Int)(c:Bool)(a:List Put):Fit (n+1) (Qr s t c a):=by
 obtain⟨d,e,f,g,i⟩:=h;refine⟨by simp only[Qr];omega,?_,?_,?_,by simp only[Qr];omega⟩
 ·have:=List.length_filter_le (λb:Branch=>!(b.tid==t)) s.waits
  simp only[Qr];omega
 ·simp only[Qr];rw[Qag,Qeh];omega
 ·have:=Dv s.opens t
  simp only[Qr];omega
theorem Ue{n:Nat}{s:St}(h:Fit n s)(r:Rec):Fit (n+1) (Qf s r):=by
 obtain⟨b,c,d,e,f⟩:=id h;have a:=h.mono (Nat.le_succ n);unfold Qf;split
 ·exact⟨by simp only[txS];omega,by simp only[txS];omega,by simp only[txS];omega,by simp only[txS];omega,by simp only[txS];omega⟩
 split
 ·exact⟨a.tx,a.waits,a.ends,a.opens,a.noes⟩
 split
 ·exact Rv h _ _ _
 split
 ·refine⟨a.tx,?_,a.ends,a.opens,a.noes⟩
  simp only[Rz];rw[Qsk,Qeh];omega
 split
 ·exact Rv h _ _ _
 split
 ·refine⟨a.tx,a.waits,a.ends,?_,a.noes⟩
  simp only[Qiz];rw[Np];omega
 split
 ·exact Rv h _ _ _
 split
 ·split
  ·exact Rv h _ _ _
  ·have:=Rv h r.tid false []
   refine⟨this.tx,this.waits,this.ends,this.opens,?_⟩;simp only[Vj];rw[Np];omega
 split
 ·have g:=Dv s.noes r.tid
  split
  ·refine⟨a.tx,a.waits,a.ends,a.opens,?_⟩
   simp only[Vj];omega
  ·refine⟨a.tx,a.waits,a.ends,a.opens,?_⟩
   simp only[Vj];rw[Np];omega
 ·exact a
end Go.Po
namespace Go.Proofs.YtkdpmdfcdgphlaaGreat
open Tryz
open Go.RowKit Go.Mem Go.Po
structure KAt(A O:Nat->Prop)(w:World)(kb db:Nat)(room:Int)(v:Vw)(last:Nat)(all:List (List UInt8))(s:St):Prop where
 ex:∃(lb:Nat) (Od Ol:Nat->Prop) (T:TypeId) (sm:Option Addr) (sM:Nat) (sw:Option Addr) (sW:Nat) (se:Option Addr) (sE:Nat) (so:Option Addr) (sO:Nat) (sn:Option Addr) (sN:Nat),w.heap[kb]?=some (.cells #[.pointer (some ⟨db,0,none⟩),.pointer (some ⟨lb,0,none⟩),.int .i64 s.broker,.int .i64 s.nextId,.int .i64 s.nextSeq,.int .i64 s.tx,.slice sm s.ms.length sM,.slice sw s.waits.length sW,.slice se s.ends.length sE,.slice so s.opens.length sO,.slice sn s.noes.length sN,.bool false] T (0,0))/\Lg A Od Ol w lb db room v last all/\StR A w s sm sM sw sW se sE so sO sn sN/\¬Od kb/\¬Ol kb/\∀k,O k↔k=kb\/Od k\/Ol k
 a:A kb
theorem KAt.lt{A O:Nat->Prop}{w:World}{f b:Nat}{g:Int}{v:Vw}{last:Nat}{all:List (List UInt8)}{s:St}(h:KAt A O w f b g v last all s):∀k,O k->k<w.heap.size:=by
 obtain⟨⟨n,i,j,T,z,r,D,x,y,q,C,t,B,sN,c,a,m,o,p,e⟩,l⟩:=h;intro k d;rcases (e k).1 d with rfl|h|h
 ·exact Qb c
 ·exact a.d.lt k h
 ·exact a.l.lt k h
theorem KAt.oa{A O:Nat->Prop}{w:World}{f b:Nat}{g:Int}{v:Vw}{last:Nat}{all:List (List UInt8)}{s:St}(h:KAt A O w f b g v last all s):∀k,O k->A k:=by
 obtain⟨⟨n,i,j,T,z,r,D,x,y,q,C,t,B,sN,l,a,m,o,p,e⟩,c⟩:=h;intro k d;rcases (e k).1 d with rfl|h|h
 ·exact c
 ·exact a.d.oa k h
 ·exact a.l.oa k h
theorem KAt.ob{A O:Nat->Prop}{w:World}{a b:Nat}{d:Int}{v:Vw}{last:Nat}{all:List (List UInt8)}{s:St}(h:KAt A O w a b d v last all s):O a:=by
 obtain⟨⟨l,e,f,T,x,p,B,r,t,o,z,q,y,sN,i,j,k,m,n,c⟩,g⟩:=h;exact(c a).2 (.inl rfl)
theorem KAt.keep{A B O S:Nat->Prop}{w w':World}{a d:Nat}{l:Int}{v:Vw}{last:Nat}{all:List (List UInt8)}{s:St}(h:KAt A O w a d l v last all s)(b:Kept S w w')(g:∀k,O k->¬S k)(j:∀k,S k->A k)(e:∀k,k<w.heap.size->B k->A k)(f:∀k,O k->B k):KAt B O w' a d l v last all s:=by
 have i:=h.ob;obtain⟨⟨r,m,n,T,F,z,I,D,E,y,H,C,G,sN,o,p,q,t,x,c⟩,J⟩:=h;exact⟨⟨r,m,n,T,F,z,I,D,E,y,H,C,G,sN,b.heap (g a i) o,p.keep b (λk h=>g k ((c k).2 (.inr h))) j e (λk h=>f k ((c k).2 (.inr h))),q.keep b j e,t,x,c⟩,f a i⟩
theorem KAt.bel{A O:Nat->Prop}{w w':World}{b a:Nat}{c:Int}{v:Vw}{last:Nat}{all:List (List UInt8)}{s:St}(h:KAt A O w b a c v last all s)(d:Bel w w'):KAt A O w' b a c v last all s:=
 h.keep (d.kept λ_=>False) (λ_ _ h=>h) (λ_ h=>h.elim) (λ_ _ h=>h) h.oa
theorem KAt.mono{A B O:Nat->Prop}{w:World}{b a:Nat}{c:Int}{v:Vw}{last:Nat}{all:List (List UInt8)}{s:St}(h:KAt A O w b a c v last all s)(d:∀k,k<w.heap.size->B k->A k)(e:∀k,O k->B k):KAt B O w b a c v last all s:=
 h.keep (Kept.refl (λ_=>False) w) (λ_ _ h=>h) (λ_ h=>h.elim) d e
theorem Cj{A O:Nat->Prop}{w:World}{b d:Nat}{f:Int}{v:Vw}{last:Nat}{all:List (List UInt8)}{s:St}(h:KAt A O w b d f v last all s):
 Calls prog 47 #[.pointer (some ⟨b,0,none⟩)] w λe w'=>e=.returned (.bool false)/\w=w':=by
 obtain⟨⟨j,g,i,T,p,l,t,n,o,k,r,m,q,sN,a,_⟩,_⟩:=h;have c:=cell_of_block a 11 _ rfl;clear a;go_enter func47,ntmps47;go_wp2;go_ret;exact⟨rfl,rfl⟩
theorem V9(a:Nat)(w:World):
 Calls prog 144 #[.pointer (some ⟨a,0,none⟩),.int .i64 0] w λe w'=>e=.returned (.int .i64 0)/\w=w':=by
 go_enter func144,ntmps144;go_wp2;go_ret;exact⟨rfl,rfl⟩
theorem Qax{A O:Nat->Prop}{w:World}{a d:Nat}{f:Int}{v:Vw}{last:Nat}{all:List (List UInt8)}{s:St}(h:KAt A O w a d f v last all s)(y:last<=999):
 Calls prog 108 #[.pointer (some ⟨a,0,none⟩)] w λe w'=>e=.returned (.int .i64 0)/\KAt A O w' a d f (Zg (Qe last) v) last all s/\Kept O w w':=by
 have H:=Zh h;obtain⟨⟨p,j,l,T,G,C,K,E,F,B,J,D,I,sN,b,m,o,q,z,n⟩,x⟩:=h;have c:=cell_of_block b 1 _ rfl;obtain⟨r,g,t,i⟩:=Zh4 b m o n;clear b m o n;go_enter func108,ntmps108;go_wp2_with fail;refine(Cj H).zS ?_;go_wp2_with fail;refine(M0 A j l _ p d f v last all g y).mono ?_;rintro e o ⟨rfl,m,k2⟩;obtain⟨n,b⟩:=Zh2 m k2;clear m k2;go_wp2_with fail;refine(V9 a _).zS ?_;go_wp2;go_ret;exact⟨rfl,⟨⟨p,j,l,T,G,C,K,E,F,B,J,D,I,sN,b.heap q r,n,t.keep b (λk h=>g.d.oa k h) (λ_ _ h=>h),q,z,i⟩,x⟩,b.mono λk _ h=>(i k).2 (.inr (.inl h))⟩
def Hu(v:Vw)(last:Nat)(bs:List UInt8):Vw:=if Cn v last=true then Xi (Qe (last+1)) (Z7 bs) (Zg (Qe last) v) else Xi (Qe last) (Z7 bs) v
def addN(v:Vw)(last:Nat):Nat:=if Cn v last=true then last+1 else last
theorem Qgq(v:Vw)(last:Nat):addN v last<=last+1:=by unfold addN;split<;>omega
theorem Qp4(A a b:Nat->Prop)(w:World)(l:∀k,A k->k<w.heap.size)(c h:Nat)(d:Int)(v:Vw)(last:Nat)(all:List (List UInt8))(j:Lg A a b w c h d v last all)(r:last<999)
 (g:Option Addr) (f:Nat) (bs:List UInt8) (n:Rd Ql A w g f bs) (o:Xj bs=true) (q:(used v:Int)+(6+bs.length:Nat)<=d) (p:v.length<100000) (m:all.length<=1000000):
 Calls prog 145 #[.pointer (some ⟨c,0,none⟩),.slice g bs.length f] w λe w'=>e=.returned (.int .i64 0)/\∃Od' Ol',Lg (λk=>A k\/Od' k\/Ol' k) Od' Ol' w' c h d (Hu v last bs) (addN v last) (all++[bs])/\Kept (λk=>a k\/b k) w w'/\∀k,Od' k\/Ol' k->a k\/b k\/w.heap.size<=k:=by
 rcases i:Cn v last with _|_
 ·have:=M4 A a b w l c h d v last all j i (by omega) g f bs n o q p m
  simpa only[Hu,addN,i,Bool.false_eq_true,if_false] using this
 ·have:=Qp6 A a b w l c h d v last all j i r g f bs n o q p m
  simpa only[Hu,addN,i,if_true] using this
def G8(force:Bool)(v:Vw)(last:Nat)(bs:List UInt8):Vw:=if force=true then Zg (Qe (addN v last)) (Hu v last bs) else Hu v last bs
theorem G9(w:World)(g:Nat)(a b c d e f h i j:Value):Kept (λk=>k=g) w (((((((((w.setCell ⟨g,2,none⟩ a).setCell ⟨g,3,none⟩ b).setCell ⟨g,4,none⟩ c).setCell ⟨g,5,none⟩ d).setCell ⟨g,6,none⟩ e).setCell ⟨g,7,none⟩ f).setCell ⟨g,8,none⟩ h).setCell ⟨g,9,none⟩ i).setCell ⟨g,10,none⟩ j):=
 (((((((((Kept.refl (λk=>k=g) w).setCell (p:=⟨g,2,none⟩) rfl _).setCell (p:=⟨g,3,none⟩) rfl _).setCell (p:=⟨g,4,none⟩) rfl _).setCell (p:=⟨g,5,none⟩) rfl _).setCell (p:=⟨g,6,none⟩) rfl _).setCell (p:=⟨g,7,none⟩) rfl _).setCell (p:=⟨g,8,none⟩) rfl _).setCell (p:=⟨g,9,none⟩) rfl _).setCell (p:=⟨g,10,none⟩) rfl _
theorem Pg{w:World}{g:Nat}{p q a0 a1 a2 a3 a4 a5 a6 a7 l z b c d e f h i j k:Value}(T:TypeId)(a:Nat×Nat)(m:w.heap[g]?=some (.cells #[p,q,a0,a1,a2,a3,a4,a5,a6,a7,l,z] T a)):
 (((((((((w.setCell ⟨g,2,none⟩ b).setCell ⟨g,3,none⟩ c).setCell ⟨g,4,none⟩ d).setCell ⟨g,5,none⟩ e).setCell ⟨g,6,none⟩ f).setCell ⟨g,7,none⟩ h).setCell ⟨g,8,none⟩ i).setCell ⟨g,9,none⟩ j).setCell ⟨g,10,none⟩ k).heap[g]?=some (.cells #[p,q,b,c,d,e,f,h,i,j,k,z] T a):=by
 have n:=Go.Mem.heap_setCell_same _ g 2 b _ T a m;have o:=Go.Mem.heap_setCell_same _ g 3 c _ T a n;have r:=Go.Mem.heap_setCell_same _ g 4 d _ T a o;have s:=Go.Mem.heap_setCell_same _ g 5 e _ T a r;have t:=Go.Mem.heap_setCell_same _ g 6 f _ T a s;have v:=Go.Mem.heap_setCell_same _ g 7 h _ T a t;have x:=Go.Mem.heap_setCell_same _ g 8 i _ T a v;have y:=Go.Mem.heap_setCell_same _ g 9 j _ T a x;have A:=Go.Mem.heap_setCell_same _ g 10 k _ T a y;rw[A];simp
theorem Qkn{A O:Nat->Prop}{w:World}{y C:Nat}{L:Int}{v:Vw}{last:Nat}{all:List (List UInt8)}{s:St}(l:KAt A O w y C L v last all s)(ok:May s)(few:Few s)(r:Rec)(rp:Option Addr)(f:Nat)(h:Option Addr)(g:Nat)(I:i64 r.tid)(D:i64 r.id)(q:Rd Qh A w rp f r.parts)(x:Rd Qw A w h g r.puts)(G:∀p∈r.puts,p.q.size<=maxLen)(force:Bool)(n:Zf s r≠0):
 Calls prog 63 #[.pointer (some ⟨y,0,none⟩),.agg #[.int .i64 r.kind,.int .i64 r.tid,.int .i64 r.id,.bool r.yes,.slice rp r.parts.length f,.slice h r.puts.length g],.bool force] w λe w'=>e=.returned (.int .i64 (Zf s r))/\Bel w w':=by
 have H:=Zh l;obtain⟨⟨ar,am,an,T,ac,Y,af,aa,ab,X,ae,Z,ad,sN,m,E,t,J,K,F⟩,ao⟩:=l;obtain⟨B,d⟩:=Zx (w.alloc (.cells #[.int .i64 r.kind,.int .i64 r.tid,.int .i64 r.id,.bool r.yes,.slice rp r.parts.length f,.slice h r.puts.length g] 124));have c:=Zb d;have b:=Zn d;have a:=c.heap m;obtain⟨k,z,can,i⟩:=Zh4 c d (λW (j:Bel B W)=>Re s r ac Y af aa ab X ae Z ad sN rp f h g A W (t.bel (c.trans j)) ok few I D G (q.bel (c.trans j)) (x.bel (c.trans j))) n;obtain⟨j,o⟩:=Zx (Zf s r);rw[<-o]at can i ⊢;have ap:(j==0)=false:=by have:=i.o;simpa using this
 have aq:(j !=0)=true:=by have:=i.o;simpa using this
 have N:=Up.cell (cell_of_block a 2 _ rfl);have P:=Up.cell (cell_of_block a 3 _ rfl);have Q:=Up.cell (cell_of_block a 4 _ rfl);have R:=Up.cell (cell_of_block a 5 _ rfl);have S:=Up.cell (cell_of_block a 6 _ rfl);have U:=Up.cell (cell_of_block a 7 _ rfl);have V:=Up.cell (cell_of_block a 8 _ rfl);have W:=Up.cell (cell_of_block a 9 _ rfl);have M:=Up.cell (cell_of_block a 10 _ rfl);have ah:=Up.cell (cell_of_block b 0 _ rfl);have ai:=Up.cell (cell_of_block b 1 _ rfl);have aj:=Up.cell (cell_of_block b 2 _ rfl);have t3:=Up.cell (cell_of_block b 3 _ rfl);have ak:=Up.cell (cell_of_block b 4 _ rfl);have al:=Up.cell (cell_of_block b 5 _ rfl);clear m E t J K F a b c d n o ok few q x;go_enter func63,ntmps63;go_wp2_with fail;rw[<-z.o];refine(Cj (H.bel k)).zS ?_;go_wp2_with fail;refine Qs (by kernel_rfl) (by kernel_rfl) ?_;repeat(go_big_quiet_step(first|(go_at_call 105;exact Calls.up (can.o _ (Up.bel _)))))
 refine Xg λa a=>?_
 have b:=Zh (k.trans a);clear a N P Q R S U V W M ah ai aj t3 ak al;go_wp2;go_ret;exact⟨rfl,b⟩
theorem Mq{r:Rec}(h:Qp r=true):Xj (encR r)=true:=by
 have a:=Jr h;have b:2<=(encR r).length:=by unfold encR;simp only[List.length_append,Qu];omega
 simp only[Xj,Bool.and_eq_true,decide_eq_true_eq];omega
theorem Qbp{A O:Nat->Prop}{w:World}{c R:Nat}{J:Int}{v:Vw}{last:Nat}{all:List (List UInt8)}{s:St}(h:KAt A O w c R J v last all s)(U:∀k,A k->k<w.heap.size)(ok:May s)(few:Few s)(r:Rec)(rp:Option Addr)(F:Nat)(H:Option Addr)(G:Nat)(aD:i64 r.tid)(aC:i64 r.id)(i:Rd Qh A w rp F r.parts)(S:Rd Qw A w H G r.puts)(force:Bool)(m:Zf s r=0)
 (Z:last<999) (ac:(used v:Int)+(6+(encR r).length:Nat)<=J) (Y:v.length<100000) (X:all.length<=1000000):
 Calls prog 63 #[.pointer (some ⟨c,0,none⟩),.agg #[.int .i64 r.kind,.int .i64 r.tid,.int .i64 r.id,.bool r.yes,.slice rp r.parts.length F,.slice H r.puts.length G],.bool force] w λe w'=>e=.returned (.int .i64 0)/\∃a,KAt (λk=>A k\/a k) a w' c R J (G8 force v last (encR r)) (addN v last) (all++[encR r]) (Qf s r)/\Kept O w w'/\∀k,a k->O k\/w.heap.size<=k:=by
 have bK:=Zh h;obtain⟨⟨b8,aA,aB,T,bE,bA,bH,bC,bD,b9,bG,bB,bF,sN,o,aa,Q,ae,af,ab⟩,V⟩:=h;obtain⟨cb,j⟩:=Zx (w.alloc (.cells #[.int .i64 r.kind,.int .i64 r.tid,.int .i64 r.id,.bool r.yes,.slice rp r.parts.length F,.slice H r.puts.length G] 124));have g:=Zb j;have f:=Zn j;have a:=g.heap o;have b:=(Qdr m).1;have I:∀p∈r.puts,p.q.size<=maxLen:=λp i=>by have:=(Un b i).1;simp only[maxLen];omega
 have ad:=Qb f;obtain⟨bW,bs,bV,can,bv,n,b4,bt,bz,b2,bR,b1⟩:=U2 ad g j (λW (l:Bel cb W)=>Re s r bE bA bH bC bD b9 bG bB bF sN rp F H G A W (Q.bel (g.trans l)) ok few aD aC I (i.bel (g.trans l)) (S.bel (g.trans l))) m U ok few i S I b;obtain⟨bX,bM,bU,bP,aI,a8,aQ,aR,bw,bT,bQ,bL⟩:=U2 f a Q o aa ab ae af Z ac Y X;have l:=Zh V;rw[m]at can;have t:=Up.cell (cell_of_block a 2 _ rfl);have x:=Up.cell (cell_of_block a 3 _ rfl);have y:=Up.cell (cell_of_block a 4 _ rfl);have z:=Up.cell (cell_of_block a 5 _ rfl);have B:=Up.cell (cell_of_block a 6 _ rfl);have C:=Up.cell (cell_of_block a 7 _ rfl);have D:=Up.cell (cell_of_block a 8 _ rfl);have E:=Up.cell (cell_of_block a 9 _ rfl);have q:=Up.cell (cell_of_block a 10 _ rfl);have K:=Up.cell (cell_of_block f 0 _ rfl);have L:=Up.cell (cell_of_block f 1 _ rfl);have M:=Up.cell (cell_of_block f 2 _ rfl);have t3:=Up.cell (cell_of_block f 3 _ rfl);have N:=Up.cell (cell_of_block f 4 _ rfl);have P:=Up.cell (cell_of_block f 5 _ rfl);clear o aa Q ae af ab a f g j m ok few i S U I b ad Z ac Y X V;go_enter func63,ntmps63;go_wp2_with fail;rw[<-bV.o];refine(Cj (bK.o.bel bs.o)).zS ?_;go_wp2_with fail;refine Qs (by kernel_rfl) (by kernel_rfl) ?_;repeat(go_big_quiet_step(first|(go_at_call 105;exact Calls.up (can.o _ (Up.bel _)))))
 refine Xg λa a=>?_
 obtain⟨bJ,bO,bZ,cc⟩:=Zh4 (bs.o.trans a) (a.heap bM.o) (a.heap bX.o) (Nat.lt_of_lt_of_le bW.o a.size);clear a t x y z B C D E q K L M t3 N P;go_upto_region 6 with (fail);refine Zp [7] 10 (by kernel_rfl) rfl (by kernel_rfl) (λ_ d _ _ _ h=>by cases d<;>exact h) ?_;intro cf g aj;clear aj;have a:=g.heap bO.o;have b:=g.heap bZ.o;have f:=Up.cell (cell_of_block a 1 _ rfl);have K:=Up.cell (cell_of_block b 0 _ rfl);have L:=Up.cell (cell_of_block b 1 _ rfl);have M:=Up.cell (cell_of_block b 2 _ rfl);have t3:=Up.cell (cell_of_block b 3 _ rfl);have N:=Up.cell (cell_of_block b 4 _ rfl);have P:=Up.cell (cell_of_block b 5 _ rfl);obtain⟨az,cd,ca⟩:=Zh3 (bJ.o.trans g) (Nat.lt_of_lt_of_le cc.o g.size) b;clear g a b;refine J6 6 [0,1,2,3] (by kernel_rfl) rfl ?_;simp only[Za,List.getElem?_cons_zero,List.getElem?_cons_succ];repeat(go_big_quiet_step(fail))
 refine wpQuiet_nil ?_;refine Xt 4 [4,5] (by kernel_rfl) rfl ?_;simp only[Za,List.getElem?_cons_zero,List.getElem?_cons_succ];repeat(go_big_quiet_step(fail))
 refine wpQuiet_nil ?_;clear f K L M t3 N P;refine Qq 3 6 (by kernel_rfl) rfl ?_;go_wp2_with fail;refine(Qaj r rp F H G aD aC A cf (λk h=>Nat.lt_of_lt_of_le (n.o k h) az.o.size) (bz.o.bel az.o) (b2.o.bel az.o) bR.o b1.o).mono ?_;rintro e bI ⟨⟨ao,cap,rfl,j⟩,f⟩;obtain⟨bS,aE,i⟩:=Zh3 j f (az.o.trans f);clear j f;go_wp2_with fail;refine Zl aE.o ?_;refine Qq 2 7 (by kernel_rfl) rfl ?_;go_wp2_with fail;refine(Qp4 A aA aB bI (λk h=>Nat.lt_of_lt_of_le (n.o k h) i.o.size) b8 R J v last all (aI.o.bel i.o) bw.o ao cap (encR r) bS.o (Mq b1.o) bT.o bQ.o bL.o).mono ?_;rintro e Q ⟨rfl,Od',Ol',W,m,I⟩;obtain⟨f,j⟩:=Zx (λk=>k=c\/Od' k\/Ol' k);have o:=Zh (show ∀k,f k↔k=c\/Od' k\/Ol' k fromλk=>by rw[j]);clear j;have j:∀k,aA k\/aB k->A k:=λk h=>h.elim (aI.o.d.oa k) (aI.o.l.oa k)
 have X:∀k,k<w.heap.size->A k\/f k->A k:=λk U h=>h.elim (λh=>h) λh=>by
  rcases (o.o k).1 h with rfl|h
  ·exact l.o
  ·rcases I k h with h|h|h
   ·exact j k (.inl h)
   ·exact j k (.inr h)
   ·have:=i.o.size;omega
 have S:∀k,k<bI.heap.size->A k\/f k->A k:=λk U h=>h.elim (λh=>h) λh=>by
  rcases (o.o k).1 h with rfl|h
  ·exact l.o
  ·rcases I k h with h|h|h
   ·exact j k (.inl h)
   ·exact j k (.inr h)
   ·omega
 have U:¬(aA c\/aB c):=λh=>h.elim aQ.o aR.o
 have aN:=Zh (show KAt (λk=>A k\/f k) f Q c R J (Hu v last (encR r)) (addN v last) (all++[encR r]) s from
  ⟨⟨b8,Od',Ol',T,bE,bA,bH,bC,bD,b9,bG,bB,bF,sN,m.heap U (i.o.heap bP.o),W.mono (λk _ h=>h.elim .inl λh=>by
   rcases (o.o k).1 h with rfl|h
   ·exact .inl l.o
   ·exact .inr h) (λk h=>.inr ((o.o k).2 (.inr h))),(bU.o.bel i.o).keep m j S,λh=>by
    rcases I c (.inl h)with h|h|h
    ·exact aQ.o h
    ·exact aR.o h
    ·have:=n.o c l.o;have:=i.o.size;omega,λh=>by
    rcases I c (.inr h)with h|h|h
    ·exact aQ.o h
    ·exact aR.o h
    ·have:=n.o c l.o;have:=i.o.size;omega,o.o⟩,.inl l.o⟩)
 have aP:=Zh (show Kept O w Q from((i.o.kept _).trans m).mono λk _ h=>(a8.o k).2 (.inr h));have a9:=Zh (show ∀k,f k->O k\/w.heap.size<=k fromλk h=>by
  rcases (o.o k).1 h with rfl|h
  ·exact .inl ((a8.o _).2 (.inl rfl))
  ·rcases I k h with h|h|h
   ·exact .inl ((a8.o _).2 (.inr (.inl h)))
   ·exact .inl ((a8.o _).2 (.inr (.inr h)))
   ·exact .inr (Nat.le_trans i.o.size h))
 obtain⟨b0,b3⟩:=Zh2 (show Rd Qh (λk=>A k\/f k) Q rp F r.parts from(bz.o.bel i.o).keep m j S) (show Rd Qw (λk=>A k\/f k) Q H G r.puts from(b2.o.bel i.o).keep m j S);have V:¬f w.heap.size:=λh=>by
  rcases (o.o _).1 h with h|h
  ·have:=n.o c l.o;omega
  ·rcases I _ h with h|h|h
   ·have:=n.o _ (j _ (.inl h));omega
   ·have:=n.o _ (j _ (.inr h));omega
   ·have Y:=cd.o
    have Z:=aE.o.size;omega
 obtain⟨bx,b5,bu⟩:=Zh3 V (m.heap (show ¬(aA w.heap.size\/aB w.heap.size) fromλh=>by have:=n.o _ (j _ h);omega) (aE.o.heap ca.o)) (show ∀k,A k\/f k->k<Q.heap.size fromλk h=>h.elim (λh=>Nat.lt_of_lt_of_le (n.o k h) aP.o.size) (aN.o.lt k));clear W m I j X S U V;go_wp2_with fail;refine Z6 ?_;refine Qq 1 8 (by kernel_rfl) rfl ?_;go_wp2_with fail;refine(V9 c _).zS ?_;go_wp2_with fail;refine Zl (Bel.refl _) ?_;refine Qq 0 9 (by kernel_rfl) rfl ?_;go_wp2_with fail;refine Zl (Bel.refl _) ?_;refine X0 (by kernel_rfl) ?_;rcases force with _|_
 case false=>
  go_upto_region 13 with (fail);obtain⟨w8,j⟩:=Zx Q;obtain⟨aO,m⟩:=Zh2 (show KAt (λk=>A k\/f k) f w8 c R J (G8 false v last (encR r)) (addN v last) (all++[encR r]) s from by rw[j];exact aN.o) (show Kept f Q w8 from by rw[j];exact Kept.refl _ _);rw[<-j];clear j;obtain⟨aJ,aM,aS⟩:=Zh3 (b0.o.keep m.o (λk h=>.inr h) (λk _ h=>h)) (b3.o.keep m.o (λk h=>.inr h) (λk _ h=>h)) (m.o.heap bx.o b5.o);obtain⟨⟨aV,Y,Z,aT,be,aZ,bh,bc,bd,aY,bg,bb,bf,ba,aa,ad,ah,ak,al,ae⟩,ce⟩:=aO.o;obtain⟨U,aH,aL,W,X,V⟩:=Zh6 aa ad ah ak al ae;clear aa ad ah ak al ae;refine Zp [9] 10 (by kernel_rfl) rfl (by kernel_rfl) (λ_ d _ _ _ h=>by cases d<;>exact h) ?_;intro aX g aj;clear aj;have a:=g.heap U.o;have b:=g.heap aS.o;have t:=Up.cell (cell_of_block a 2 _ rfl);have x:=Up.cell (cell_of_block a 3 _ rfl);have y:=Up.cell (cell_of_block a 4 _ rfl);have z:=Up.cell (cell_of_block a 5 _ rfl);have B:=Up.cell (cell_of_block a 6 _ rfl);have C:=Up.cell (cell_of_block a 7 _ rfl);have D:=Up.cell (cell_of_block a 8 _ rfl);have E:=Up.cell (cell_of_block a 9 _ rfl);have q:=Up.cell (cell_of_block a 10 _ rfl);have K:=Up.cell (cell_of_block b 0 _ rfl);have L:=Up.cell (cell_of_block b 1 _ rfl);have M:=Up.cell (cell_of_block b 2 _ rfl);have t3:=Up.cell (cell_of_block b 3 _ rfl);have N:=Up.cell (cell_of_block b 4 _ rfl);have P:=Up.cell (cell_of_block b 5 _ rfl);have j:=Zh g;clear g a b;refine Xt 4 [0,1,2,3,4,5] (by kernel_rfl) rfl ?_;simp only[Za,List.getElem?_cons_zero,List.getElem?_cons_succ];repeat(go_big_quiet_step(fail))
  refine wpQuiet_nil ?_;clear t x y z B C D E q K L M t3 N P;refine Qq 3 6 (by kernel_rfl) rfl ?_;go_wp2_with fail;refine(Y3 s be aZ bh bc bd aY bg bb bf ba r rp F H G (λk=>A k\/f k) aX (λk h=>Nat.lt_of_lt_of_le (bu.o k h) (Nat.le_trans m.o.size j.o.size)) (aL.o.bel j.o) b4.o bt.o aD aC (aJ.o.bel j.o) (aM.o.bel j.o) bv.o).mono ?_;rintro e aW ⟨av,an,ay,ar,au,am,ax,aq,aw,ap,rfl,af,I⟩;obtain⟨S,aF,aK⟩:=Zh3 (j.o.trans I) I af;have a:=S.o.heap U.o;have aG:=Zh a;have t:=cell_of_block a 2 _ rfl;have bj:=Qa a 2;have x:=cell_of_block a 3 _ rfl;have bk:=Qa a 3;have y:=cell_of_block a 4 _ rfl;have bl:=Qa a 4;have z:=cell_of_block a 5 _ rfl;have bm:=Qa a 5;have B:=cell_of_block a 6 _ rfl;have bn:=Qa a 6;have C:=cell_of_block a 7 _ rfl;have bo:=Qa a 7;have D:=cell_of_block a 8 _ rfl;have bq:=Qa a 8;have E:=cell_of_block a 9 _ rfl;have br:=Qa a 9;have q:=cell_of_block a 10 _ rfl;have bi:=Qa a 10;clear a af I;go_wp2_with fail;refine Zl aF.o ?_;refine J6 1 [7,8] (by kernel_rfl) rfl ?_;simp only[Za,List.getElem?_cons_zero,List.getElem?_cons_succ];repeat(go_big_quiet_step(fail))
  refine wpQuiet_nil ?_;refine Qq 0 9 (by kernel_rfl) rfl ?_;go_wp2_with fail;refine Z6 ?_;refine X0 (by kernel_rfl) ?_;clear t x y z B C D E q bj bk bl bm bn bo bq br bi;go_wp2_with fail;go_ret;have ai:=G9 aW c (.int .i64 (Qf s r).broker) (.int .i64 (Qf s r).nextId) (.int .i64 (Qf s r).nextSeq) (.int .i64 (Qf s r).tx) (.slice av (Qf s r).ms.length an) (.slice ay (Qf s r).waits.length ar) (.slice au (Qf s r).ends.length am) (.slice ax (Qf s r).opens.length aq) (.slice aw (Qf s r).noes.length ap);have ab:=(S.o.kept (λk=>k=c)).trans ai;have ac:∀k,k=c->A k\/f k:=λk h=>.inl (h▸l.o)
  have aU:∀k,Y k\/Z k->¬k=c:=λk h e=>by subst e;exact h.elim W.o X.o
  refine⟨rfl,f,⟨⟨aV,Y,Z,aT,av,an,ay,ar,au,am,ax,aq,aw,ap,Pg _ _ aG.o,aH.o.keep ab aU ac (λk _ h=>h) (λk h=>.inr ((V.o k).2 (.inr h))),aK.o.keep ai ac (λk _ h=>h),W.o,X.o,V.o⟩,.inl l.o⟩,?_,a9.o⟩;exact aP.o.trans' (m.o.trans (ab.mono λk _ h=>by rw[h];exact(o.o c).2 (.inl rfl))) a9.o
 case true=>
  go_wp2_with fail;refine(Qax aN.o (by have:=Qgq v last;have:=bw.o;omega)).mono ?_;rintro e w8 ⟨rfl,b6,b7⟩;obtain⟨aO,m⟩:=Zh2 (show KAt (λk=>A k\/f k) f w8 c R J (G8 true v last (encR r)) (addN v last) (all++[encR r]) s from b6) b7;clear b6 b7;go_upto_region 13 with (fail);obtain⟨aJ,aM,aS⟩:=Zh3 (b0.o.keep m.o (λk h=>.inr h) (λk _ h=>h)) (b3.o.keep m.o (λk h=>.inr h) (λk _ h=>h)) (m.o.heap bx.o b5.o);obtain⟨⟨aV,Y,Z,aT,be,aZ,bh,bc,bd,aY,bg,bb,bf,ba,aa,ad,ah,ak,al,ae⟩,ce⟩:=aO.o;obtain⟨U,aH,aL,W,X,V⟩:=Zh6 aa ad ah ak al ae;clear aa ad ah ak al ae;refine Zp [9] 10 (by kernel_rfl) rfl (by kernel_rfl) (λ_ d _ _ _ h=>by cases d<;>exact h) ?_;intro aX g aj;clear aj;have a:=g.heap U.o;have b:=g.heap aS.o;have t:=Up.cell (cell_of_block a 2 _ rfl);have x:=Up.cell (cell_of_block a 3 _ rfl);have y:=Up.cell (cell_of_block a 4 _ rfl);have z:=Up.cell (cell_of_block a 5 _ rfl);have B:=Up.cell (cell_of_block a 6 _ rfl);have C:=Up.cell (cell_of_block a 7 _ rfl);have D:=Up.cell (cell_of_block a 8 _ rfl);have E:=Up.cell (cell_of_block a 9 _ rfl);have q:=Up.cell (cell_of_block a 10 _ rfl);have K:=Up.cell (cell_of_block b 0 _ rfl);have L:=Up.cell (cell_of_block b 1 _ rfl);have M:=Up.cell (cell_of_block b 2 _ rfl);have t3:=Up.cell (cell_of_block b 3 _ rfl);have N:=Up.cell (cell_of_block b 4 _ rfl);have P:=Up.cell (cell_of_block b 5 _ rfl);have j:=Zh g;clear g a b;refine Xt 4 [0,1,2,3,4,5] (by kernel_rfl) rfl ?_;simp only[Za,List.getElem?_cons_zero,List.getElem?_cons_succ];repeat(go_big_quiet_step(fail))
  refine wpQuiet_nil ?_;clear t x y z B C D E q K L M t3 N P;refine Qq 3 6 (by kernel_rfl) rfl ?_;go_wp2_with fail;refine(Y3 s be aZ bh bc bd aY bg bb bf ba r rp F H G (λk=>A k\/f k) aX (λk h=>Nat.lt_of_lt_of_le (bu.o k h) (Nat.le_trans m.o.size j.o.size)) (aL.o.bel j.o) b4.o bt.o aD aC (aJ.o.bel j.o) (aM.o.bel j.o) bv.o).mono ?_;rintro e aW ⟨av,an,ay,ar,au,am,ax,aq,aw,ap,rfl,af,I⟩;obtain⟨S,aF,aK⟩:=Zh3 (j.o.trans I) I af;have a:=S.o.heap U.o;have aG:=Zh a;have t:=cell_of_block a 2 _ rfl;have bj:=Qa a 2;have x:=cell_of_block a 3 _ rfl;have bk:=Qa a 3;have y:=cell_of_block a 4 _ rfl;have bl:=Qa a 4;have z:=cell_of_block a 5 _ rfl;have bm:=Qa a 5;have B:=cell_of_block a 6 _ rfl;have bn:=Qa a 6;have C:=cell_of_block a 7 _ rfl;have bo:=Qa a 7;have D:=cell_of_block a 8 _ rfl;have bq:=Qa a 8;have E:=cell_of_block a 9 _ rfl;have br:=Qa a 9;have q:=cell_of_block a 10 _ rfl;have bi:=Qa a 10;clear a af I;go_wp2_with fail;refine Zl aF.o ?_;refine J6 1 [7,8] (by kernel_rfl) rfl ?_;simp only[Za,List.getElem?_cons_zero,List.getElem?_cons_succ];repeat(go_big_quiet_step(fail))
  refine wpQuiet_nil ?_;refine Qq 0 9 (by kernel_rfl) rfl ?_;go_wp2_with fail;refine Z6 ?_;refine X0 (by kernel_rfl) ?_;clear t x y z B C D E q bj bk bl bm bn bo bq br bi;go_wp2_with fail;go_ret;have ai:=G9 aW c (.int .i64 (Qf s r).broker) (.int .i64 (Qf s r).nextId) (.int .i64 (Qf s r).nextSeq) (.int .i64 (Qf s r).tx) (.slice av (Qf s r).ms.length an) (.slice ay (Qf s r).waits.length ar) (.slice au (Qf s r).ends.length am) (.slice ax (Qf s r).opens.length aq) (.slice aw (Qf s r).noes.length ap);have ab:=(S.o.kept (λk=>k=c)).trans ai;have ac:∀k,k=c->A k\/f k:=λk h=>.inl (h▸l.o)
  have aU:∀k,Y k\/Z k->¬k=c:=λk h e=>by subst e;exact h.elim W.o X.o
  refine⟨rfl,f,⟨⟨aV,Y,Z,aT,av,an,ay,ar,au,am,ax,aq,aw,ap,Pg _ _ aG.o,aH.o.keep ab aU ac (λk _ h=>h) (λk h=>.inr ((V.o k).2 (.inr h))),aK.o.keep ai ac (λk _ h=>h),W.o,X.o,V.o⟩,.inl l.o⟩,?_,a9.o⟩;exact aP.o.trans' (m.o.trans (ab.mono λk _ h=>by rw[h];exact(o.o c).2 (.inl rfl))) a9.o
end Go.Proofs.YtkdpmdfcdgphlaaGreat

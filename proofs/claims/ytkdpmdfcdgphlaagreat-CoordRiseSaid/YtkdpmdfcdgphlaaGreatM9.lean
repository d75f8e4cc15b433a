/- Part of this claim's proof. Conditions: as its theorems say. -/
import Derived.StillTail
import Derived.Lib.AppendZeros
import Derived.Lib.Overlaps
import Derived.Laws.Externs
import Derived.Laws.IdiomCopy
import Derived.Lib.SlBytesConst
import Derived.Test.YtkdpmdfcdgphlaaGreatM8
set_option linter.all false
set_option maxHeartbeats 4000000
set_option maxRecDepth 100000
namespace Go.Mem
open Go.RowKit
variable {P : Program}
structure Up(w:World) where
 wd:World
 bel:Bel w wd
instance (w : World) : Nonempty (Up w) := ⟨⟨w, Bel.refl w⟩⟩
theorem Qs{e:Nat}{Q:Exit->Act->World->Prop}{a:Act}{w:World}{l:List Oper}(d:P.follows .mixedOrders=true)(c:Region.lexB .any l.toArray=true)
 (h:wpQuiet P l.toArray (λw'=>∃g:Up w,w'=g.wd) (λb=>∀w',(∃g:Up w,w'=g.wd)->Q .normal b w') l a):(Code.region e l.toArray true).wp P Q a w:=
 wp_region_quiet (C:=λw'=>∃g:Up w,w'=g.wd) d c ⟨⟨_,(Bel.refl w).drew⟩,rfl⟩ (by simpa using h)
theorem Calls.up{f:FuncId}{a:Array Value}{w:World}{g:Up w}{v:Value}(h:Calls P f a g.wd λe w'=>e=.returned v/\Bel g.wd w'):Calls P f a g.wd λe c=>e=.returned v/\∃b:Up w,c=b.wd:=
 h.mono λ_ w' ⟨c,b⟩=>⟨c,⟨w',g.bel.trans b⟩,rfl⟩
theorem Calls.up_same{f:FuncId}{a:Array Value}{w:World}{g:Up w}{v:Value}(h:Calls P f a g.wd λe w'=>e=.returned v/\g.wd=w'):Calls P f a g.wd λe c=>e=.returned v/\∃b:Up w,c=b.wd:=
 h.mono λ_ w' ⟨c,b⟩=>⟨c,g,b.symm⟩
theorem Up.cell{w:World}{p:Addr}{v:Value}(h:w.cell? p=some v)(g:Up w):g.wd.cell? p=some v:=g.bel.cell h
theorem Xg{ops:Array Oper}{Q:Exit->Act->World->Prop}{a:Act}{w:World}(h:∀w',Bel w w'->Q .normal a w'):
 wpQuiet P ops (λw'=>∃g:Up w,w'=g.wd) (λb=>∀w',(∃g:Up w,w'=g.wd)->Q .normal b w') [] a:=
 wpQuiet_nil λ_ ⟨g,b⟩=>b▸h g.wd g.bel
section
variable {ops : Array Oper} {md : Region.Mode} {C : World → Prop}
def Rx(P:Program)(md:Region.Mode)(ops:Array Oper)(C:World->Prop)(n:Nat)(L:Array Bool->Act->Prop):Nat->Array Bool->Act->Prop
 | 0,listed,a=>L listed a
 | f+1,listed,a=>Region.ready md ops listed≠[]/\∀i∈Region.ready md ops listed,i<n/\qOp P ops C i (Rx P md ops C n L f (listed.setIfInBounds i true)) a
theorem Ry{n g:Nat}{L:Array Bool->Act->Prop}{Q':Exit->Act->World->Prop}(c:∀b a w,C w->L b a->wpAny P md ops Q' g b a w):
 ∀(f:Nat) (b:Array Bool) (a:Act) (w:World),C w->Rx P md ops C n L f b a->wpAny P md ops Q' (f+g) b a w
 | 0,b,a,w,hw,h=>by rw[Nat.zero_add];exact c _ _ _ hw h
 | f+1,b,a,w,hw,h=>by
  rw[show f+1+g=(f+g)+1 by omega];exact⟨λb=>absurd b h.1,λi e=>wpOp_of_qOp hw (λb w' j d=>Ry c f _ b w' j d) (h.2 i e).2⟩
theorem Qiv{n i:Nat}{p:Oper}{v:Value}{L:Array Bool->Act->Prop}(x:ops[i]?=some p)(G:∀(j:Nat) (o:Oper) q b,ops[j]?=some o->o.op≠.select q b)
 (F:Region.sinkB md ops n=true) (z:Region.chainB md ops n=true) (E:n<ops.size) (B:i<n)
 (r:∀c a,L c a->∀j∈Region.ready md ops c,n<=j):
 ∀(f:Nat) (c:Array Bool) (a:Act),HeadInv md ops n c →
  (∀j o,ops[j]?=some o->j≠i->c.getD j true=false->(∀e∈o.after,Region.binds md e=true->e.on≠i)->p.apart ops o=true) →
  i∈Region.ready md ops c->YieldsIn P ops C p v a →
  Rx P md ops C n L f (c.setIfInBounds i true) (a.put p.dst v)->Rx P md ops C n L (f+1) c a:=by
 intro f;induction f with
 | zero=>
  intro c a w _ g t H;have m:=(mem_ready.1 g).1;refine⟨λh=>(by rw[h]at g;cases g),λj l=>?_⟩;have s:j<n:=by
   rcases Nat.lt_or_ge j n with h|h
   ·exact h
   ·exact absurd l (tail_waits F z E w _ i rfl B m j h)
  refine⟨s,?_⟩;by_cases d:j=i
  ·subst d;exact t.qOp x H
  ·have:=r _ _ H j (ready_mono l d)
   omega
 | succ f ih=>
  intro c a w A g t H;have m:=(mem_ready.1 g).1;refine⟨λh=>(by rw[h]at g;cases g),λj l=>?_⟩;have s:j<n:=by
   rcases Nat.lt_or_ge j n with h|h
   ·exact h
   ·exact absurd l (tail_waits F z E w _ i rfl B m j h)
  refine⟨s,?_⟩;by_cases d:j=i
  ·subst d;exact t.qOp x H
  ·have r:=(H.2 j (ready_mono l d)).2
   obtain⟨D,o,y,K⟩:=mem_ready.1 l;have O:∀e∈o.after,Region.binds md e=true->e.on≠i:=λe J I M=>by
    have r:=K e J I;rw[M,getD_both m]at r;cases r
   have J:=qOp_put y (A j o y d D O) (λq b=>G i p q b x) (λq b=>G j o q b y) t r;have M:∀k ok,ops[k]?=some ok->k≠i->(c.setIfInBounds j true).getD k true=false →
    (∀e∈ok.after,Region.binds md e=true->e.on≠i)->p.apart ops ok=true:=λk ok q I m N=>by
    refine A k ok q I ?_ N;by_cases q:j=k
    ·subst q;exact D
    ·rw[getD_set_ne true q]at m;exact m
   refine qOp_mono (λI q=>ih (c.setIfInBounds j true) I (w.set l s) M (ready_mono g (Ne.symm d)) q.1 ?_) J;rw[Array.setIfInBounds_comm _ _ d];exact q.2
theorem Qdo{n g:Nat}{d:Act->Prop}(r:Region.noSelect ops=true)(q:Region.sinkB md ops n=true)(f:Region.chainB md ops n=true)(m:n<ops.size):
 ∀(l:List Oper) (k:Nat) (b:Array Bool) (a:Act),(∀j,j<l.length->l[j]?=ops[k+j]?)->k+l.length=n->HeadInv md ops n b →
 Region.lexHead md ops g l.length k b=true->wpQuiet P ops C d l a →
 Rx P md ops C n (λs e=>Region.seqB md ops g n s=true/\d e) l.length b a
 | [],k,b,a,_,hk,_,hB,h=>by
  have:k=n:=by simpa using hk
  subst this;exact⟨by simpa[Region.lexHead] using hB,h⟩
 | o::l,k,b,a,hl,hk,inv,hB,h=>by
  have c:ops[k]?=some o:=by simpa using (hl 0 (by simp)).symm
  simp only[List.length_cons,Region.lexHead,Bool.and_eq_true]at hB;obtain⟨⟨y,x⟩,t⟩:=hB;have i:k<n:=by simp only[List.length_cons]at hk;omega
  have p:k∈Region.ready md ops b:=by simpa using y
  have z:qOp P ops C k (wpQuiet P ops C d l) a:=by unfold qOp;simp only[c];exact h
  obtain⟨v,A,w⟩:=yieldsIn_of_qOp c z;exact Qiv c (Region.noSelect_spec r) q f m i (λs e e=>seqB_ready e.1) l.length b a inv (Region.free_spec c x) p A
   (Qdo r q f m l (k+1) _ _ (λj b=>by have:=hl (j+1) (by simp;omega);simpa[Nat.add_assoc,Nat.add_comm 1 j] using this) (by simp only[List.length_cons]at hk;omega) (inv.set p i) t w)
end
theorem Cb{s:Nat}{Q:Exit->Act->World->Prop}{a:Act}{w:World}{l:List Oper}(n:Nat)(p:P.follows .mixedOrders=true)(d:Region.lexTailB .any l.toArray n=true)
 (i:wpQuiet P l.toArray (λw'=>∃g:Up w,w'=g.wd) (λc=>∀w',(∃g:Up w,w'=g.wd)->wpList P l.toArray Q (l.drop n) c w') (l.take n) a):(Code.region s l.toArray true).wp P Q a w:=by
 simp only[Region.lexTailB,Bool.and_eq_true,decide_eq_true_eq]at d;obtain⟨⟨⟨⟨r,h⟩,q⟩,k⟩,o⟩:=d;have x:n<l.length:=by simpa using h
 have b:(l.take n).length=n:=by simp;omega
 have f:(l.drop n).length=l.toArray.size-n:=by simp
 have v:HeadInv .any l.toArray n (Array.replicate l.toArray.size false):=
  ⟨by simp,λj e _ e=>(by rw[getD_replicate_false]at e;cases e),λt _ e=>getD_in (by simpa using e) (getD_replicate_false _ _)⟩
 have H:=Qdo (md:=.any) (g:=l.toArray.size-n) r q k h (l.take n) 0 _ a (λj e=>by
  have m:j<n:=by rw[b]at e;exact e
  simp[m]) (by simpa using b) v (by rw[b];exact o) i
 refine wp_region_any p ?_;have:=Ry (Q':=Q) (g:=l.toArray.size-n) (λm c w' i e=>by
  have:=wpAny_of_seq (md:=.any) (Q':=Q) (l.drop n) n m c w' (λj=>by simp[List.getElem?_drop]) (by rw[f];exact e.1) (e.2 w' i);rwa [f]at this) _ _ _ { w with drawn:=w.drawn+1 } ⟨⟨_,(Bel.refl w).drew⟩,rfl⟩ H
 rw[b,show n+(l.toArray.size-n)=l.toArray.size by omega]at this;exact this
theorem Qg9{ops:Array Oper}{Q:Exit->Act->World->Prop}{t:List Oper}{a:Act}{w:World}(h:∀w',Bel w w'->wpList P ops Q t a w'):
 wpQuiet P ops (λw'=>∃g:Up w,w'=g.wd) (λb=>∀w',(∃g:Up w,w'=g.wd)->wpList P ops Q t b w') [] a:=
 wpQuiet_nil λ_ ⟨g,b⟩=>b▸h g.wd g.bel
section
variable {P : Program} {ops : Array Oper} {md : Region.Mode}
def Hd:Op->Bool
 | .move _|.assign _|.pick ..|.build ..|.load ..|.binOp ..|.unOp ..|.convert ..|.makeFunc ..|.slice ..|.fieldAddr ..|.field ..|.indexAddr ..|.index ..|.lookup ..|.extract ..|.nilCheck _=>true
 | _=>false
theorem Qqc{s:Sem Value}{w w':World}{f:FuncId}{a:Array Value}:(do pure (Next.value (←s)):Sem Next).run P w≠.ok (.enter f a) w':=by
 simp only[Sem.run_bind,Sem.run_pure];cases s.run P w<;>simp[Result.andThen]
theorem Qlg{o:Oper}(d:Hd o.op=true){ρ:Operand->Value}{w w':World}{f:FuncId}{g:Array Value}:(execOp ρ o).run P w≠.ok (.enter f g) w':=by
 unfold execOp;cases h:o.op<;>rw[h]at d<;>simp only[Hd]at d<;>first|(cases d;done)|exact Qqc|skip
 ·dsimp only;simp
 ·dsimp only;simp
 ·dsimp only
  rename_i c x y;simp only[Sem.run_bind,Sem.run_pure];cases (asBool (ρ c)).run P w<;>simp[Result.andThen]
 ·dsimp only
  split
  ·simp[runtimePanic]
  ·simp[runtimePanic]
  ·simp[runtimePanic]
  ·split
   ·simp[runtimePanic]
   ·simp only[Sem.run_bind]
    cases Sem.run P program w with
    | halt x e=>simp[Result.andThen]
    | ok a e=>
     simp only[Result.andThen];cases Sem.run P (nilAhead _ _ _ _) e with
     | halt x i=>simp
     | ok b i=>
      simp only;split
      ·simp[unsupported]
      ·simp
   ·simp
  ·simp
def Cls(pu:Bool)(w w':World):Prop:=pu=true\/Bel w w'
theorem Cls.trans{pu:Bool}{a b c:World}(h:Cls pu a b)(k:Cls pu b c):Cls pu a c:=h.elim .inl λh=>k.imp id λk=>h.trans k
theorem Cls.refl(pu:Bool)(a:World):Cls pu a a:=.inr (Bel.refl a)
def Yu(P:Program)(ops:Array Oper)(pu:Bool)(o:Oper)(v:Value)(a:Act)(w:World):Prop:=
 (Region.wanted o (yielded ops a.tmps)=true/\∀w',Cls pu w w'->(execOp a.eval o).run P w'=.ok (.value v) w'\/((execOp a.eval o).run P w'=.ok .skip w'/\v=undef)) ∨
 (Region.wanted o (yielded ops a.tmps)=false/\v=undef)
theorem Yu.of_same{pu:Bool}{o:Oper}{v:Value}{a b:Act}{w w':World}(g:Yu P ops pu o v a w)(e:Cls pu w w')(d:execOp b.eval o=execOp a.eval o)
 (f:Region.wanted o (yielded ops b.tmps)=Region.wanted o (yielded ops a.tmps)):Yu P ops pu o v b w':=by
 unfold Yu at *;rw[d,f];exact g.imp (λh=>⟨h.1,λi c=>h.2 i (e.trans c)⟩) id
theorem Yu.wpOp{pu:Bool}{i:Nat}{o:Oper}{v:Value}{a:Act}{w:World}{Q:Exit->Act->World->Prop}(d:ops[i]?=some o)(f:Yu P ops pu o v a w)
 {K:Act->World->Prop} (h:K (a.put o.dst v) w):wpOp P ops Q i K a w:=by
 unfold Go.wpOp;simp only[d];rcases f with⟨b,e⟩|⟨b,rfl⟩
 ·rcases e w (Cls.refl pu w)with c|⟨c,he⟩
  ·simp only[b,if_true,Oper.wp,c,Oper.upon];exact .inl h
  ·subst he
   simp only[b,if_true,Oper.wp,c,Oper.upon];exact .inl h
 ·simp only[b,Bool.false_eq_true,if_false];exact h
theorem Qsc{pu:Bool}{Q:Exit->Act->World->Prop}{j:Nat}{i k:Oper}{v:Value}(C:ops[j]?=some k)(B:i.apart ops k=true)
 (y:∀g b,i.op≠.select g b) (z:∀g b,k.op≠.select g b)
 (s:∀c a w,Q (.panic c) (a.put i.dst v) w->Q (.panic c) a w) {R:World->Prop} {K:Act->World->Prop} {a:Act} {w:World} (l:∀w',R w'->Cls pu w w')
 (A:Yu P ops pu i v a w) (h:wpOp P ops Q j (λg w'=>R w'/\K g w') (a.put i.dst v) w) (t:R w):
 wpOp P ops Q j (λg w'=>R w'/\Yu P ops pu i v g w'/\K (g.put i.dst v) w') a w:=by
 obtain⟨q,o,p⟩:=Oper.apart_spec B;have keep:∀(w':World),R w'->∀g,Yu P ops pu i v (a.put k.dst g) w':=λw' m g=>
  A.of_same (l w' m) (execOp_put i y a k.dst g p) (wanted_put i a k.dst g p)
 have D:∀(w':World),R w'->∀d g,Yu P ops pu i v ({ a with defers:=d::a.defers }.put k.dst g) w':=λw' m d g=>
  Yu.of_same (a:={ a with defers:=d::a.defers }) (A.of_same (Cls.refl pu w) rfl rfl) (l w' m) (execOp_put i y _ k.dst g p) (wanted_put i _ k.dst g p)
 unfold wpOp at *;simp only[C]at *;rw[wanted_put k a i.dst v q]at h;split
 ·rename_i m
  simp only[m,if_true]at h;rcases h with h|⟨hasks,hlets⟩
  case inr=>exact .inr ⟨by unfold Oper.asks at *;rw[execOp_put k z a i.dst v q]at hasks;exact hasks,hlets⟩
  refine .inl ?_;unfold Oper.wp at *;rw[execOp_put k z a i.dst v q]at h;generalize (execOp a.eval k).run P w=r at *;cases r with
  | ok n w'=>
   cases n<;>simp only[Oper.upon]at h ⊢
   case value g=>exact⟨h.1,keep _ h.1 g,by rw[<-Act.put_comm a v g o];exact h.2⟩
   case skip=>exact⟨h.1,keep _ h.1 _,by rw[<-Act.put_comm a v undef o];exact h.2⟩
   case defer d=>
    refine⟨h.1,D _ h.1 d _,?_⟩;rw[<-Act.put_comm _ v undef o,<-Act.put_defers];exact h.2
   case enter f args=>
    refine Calls.mono h λe y l=>?_
    cases e with
    | returned g=>exact⟨l.1,keep _ l.1 g,by rw[<-Act.put_comm a v g o];exact l.2⟩
    | panicked c=>exact s _ _ _ l
    | outgrown=>exact l
   case row row args=>exact Rows.mono h λg y l=>⟨l.1,keep _ l.1 g,by rw[<-Act.put_comm a v g o];exact l.2⟩
  | halt x w'=>
   cases x<;>simp only[Oper.upon]at h ⊢
   case panic g=>exact s _ _ _ h
 ·rename_i m
  simp only[m]at h;exact⟨t,keep _ t _,by rw[<-Act.put_comm a v undef o];exact h.2⟩
def Ff(P:Program)(md:Region.Mode)(ops:Array Oper)(fin:Nat->Bool)(Q:Exit->Act->World->Prop):Nat->Array Bool->Act->World->Prop
 | 0,listed,a,w=>Region.ready md ops listed=[]/\Q .normal a w
 | fuel+1,listed,a,w=>
  (Region.ready md ops listed=[]->Q .normal a w) ∧
  ∀i∈Region.ready md ops listed,wpOp P ops Q i (λa' w'=>(fin i=true\/Bel w w')/\Ff P md ops fin Q fuel (listed.setIfInBounds i true) a' w') a w
theorem Qfn{fin:Nat->Bool}{Q:Exit->Act->World->Prop}:∀(b:Nat) (c:Array Bool) (a:Act) (w:World),Ff P md ops fin Q b c a w->wpAny P md ops Q b c a w
 | 0,_,_,_,h=>h
 | b+1,_,_,_,h=>⟨h.1,λi e=>wpOp_mono (λc w' d=>Qfn b _ c w' d.2) (h.2 i e)⟩
def Qfo(md:Region.Mode)(ops:Array Oper)(t:Nat):Nat->Nat->Bool
 | 0,i=>Region.waitsFor md ops t i
 | f+1,i=>Region.waitsFor md ops t i||(List.range ops.size).any λj=>Region.waitsFor md ops j i&&Qfo md ops t f j
def Closed(md:Region.Mode)(ops:Array Oper)(listed:Array Bool):Prop:=
 listed.size=ops.size/\∀j oj,ops[j]?=some oj->listed.getD j false=true->∀e∈oj.after,Region.binds md e=true->listed.getD e.on false=true
theorem Closed.set{a:Array Bool}{i:Nat}(h:Closed md ops a)(m:i∈Region.ready md ops a):Closed md ops (a.setIfInBounds i true):=by
 obtain⟨_,o,n,l⟩:=mem_ready.1 m;refine⟨by simp[h.1],λj k f g e c b=>?_⟩;by_cases d:i=j
 ·subst d
  have:k=o:=Option.some.inj (f.symm.trans n);subst this;exact getD_set_true (l e c b)
 ·rw[getD_set_ne false d]at g
  exact getD_set_true (h.2 j k f g e c b)
theorem Qbx{b:Array Bool}{t:Nat}(m:Closed md ops b)(q:t∈Region.ready md ops b):∀(f i:Nat),Qfo md ops t f i=true->b.getD i false=true:=by
 obtain⟨_,r,p,n⟩:=mem_ready.1 q;have l:∀i,Region.waitsFor md ops t i=true->b.getD i false=true:=λi a=>by
  obtain⟨o,h,e,d,c,k⟩:=Region.waitsFor_spec a;have:o=r:=Option.some.inj (h.symm.trans p);subst this;rw[<-k];exact n e d c
 intro f;induction f with
 | zero=>intro i a;exact l i a
 | succ f ih=>
  intro i a;simp only[Qfo,Bool.or_eq_true]at a;rcases a with a|a
  ·exact l i a
  ·obtain⟨j,s,g⟩:=List.any_eq_true.1 a
   simp only[Bool.and_eq_true]at g;obtain⟨o,h,e,d,c,k⟩:=Region.waitsFor_spec g.1;rw[<-k];exact m.2 j o h (ih j g.2) e d c
def Qfp(md:Region.Mode)(ops:Array Oper)(fins:List Nat)(i:Nat):Bool:=fins.all λt=>Qfo md ops t ops.size i
theorem Qlh{pu:Bool}{p:List Nat}{Q:Exit->Act->World->Prop}{i:Nat}{l:Oper}{v:Value}(x:ops[i]?=some l)(C:∀(j:Nat) (d:Oper) o b,ops[j]?=some d->d.op≠.select o b)
 (F:∀c a w,Q (.panic c) (a.put l.dst v) w->Q (.panic c) a w) (K:pu=true\/Qfp md ops p i=true):
 ∀(q:Nat) (d:Array Bool) (a:Act) (w:World),Closed md ops d →
  (∀j m,ops[j]?=some m->j≠i->d.getD j true=false->(∀e∈m.after,Region.binds md e=true->e.on≠i)->l.apart ops m=true) →
  i∈Region.ready md ops d->Yu P ops pu l v a w →
  Ff P md ops (λk=>p.contains k) Q q (d.setIfInBounds i true) (a.put l.dst v) w->Ff P md ops (λk=>p.contains k) Q (q+1) d a w:=by
 intro q;induction q with
 | zero=>
  intro d a w _ _ g t H;refine⟨λh=>(by rw[h]at g;cases g),λj n=>?_⟩;by_cases f:j=i
  ·subst f;exact t.wpOp x ⟨.inr (Bel.refl w),H⟩
  ·have:=ready_mono n f
   rw[H.1]at this;cases this
 | succ q ih=>
  intro d a w z A g t H;refine⟨λh=>(by rw[h]at g;cases g),λj n=>?_⟩;by_cases f:j=i
  ·subst f;exact t.wpOp x ⟨.inr (Bel.refl w),H⟩
  ·have s:=H.2 j (ready_mono n f)
   have r:=(mem_ready.1 g).1;obtain⟨B,m,y,I⟩:=mem_ready.1 n;have M:∀e∈m.after,Region.binds md e=true->e.on≠i:=λe E D G=>by
    have s:=I e E D;rw[G,getD_both r]at s;cases s
   have G:∀w',((λk=>p.contains k) j=true\/Bel w w')->Cls pu w w':=λw' h=>by
    rcases K with hp|E
    ·exact .inl hp
    ·rcases h with h|h
     ·exfalso
      have D:j∈p:=by simpa using h
      have J:=List.all_eq_true.1 E j D;have:=Qbx z n _ _ J;rw[getD_both r]at this;cases this
     ·exact .inr h
   have E:=Qsc y (A j m y f B M) (λo b=>C i l o b x) (λo b=>C j m o b y) F G t s (.inr (Bel.refl w));have J:∀k ok,ops[k]?=some ok->k≠i->(d.setIfInBounds j true).getD k true=false →
    (∀e∈ok.after,Region.binds md e=true->e.on≠i)->l.apart ops ok=true:=λk ok o D r L=>by
    refine A k ok o D ?_ L;by_cases o:j=k
    ·subst o;exact B
    ·rw[getD_set_ne true o]at r;exact r
   refine wpOp_mono (λD w' o=>⟨o.1,ih (d.setIfInBounds j true) D w' (z.set n) J (ready_mono g (Ne.symm f)) o.2.1 ?_⟩) E;rw[Array.setIfInBounds_comm _ _ f];exact o.2.2
theorem Qom{o:Oper}{a:Act}{w:World}{K:Act->World->Prop}{Q Q':Exit->Act->World->Prop}(d:∀c a w,Q' (.panic c) a w->Q (.panic c) a w)(f:LetsOut Q'->LetsOut Q)(h:o.wp P a w K Q'):o.wp P a w K Q:=by
 unfold Oper.wp at *;generalize (execOp a.eval o).run P w=r at *;cases r with
 | ok n w'=>
  cases n<;>simp only[Oper.upon]at h ⊢ <;>
   first
    | exact h
    | exact Calls.mono h (λe b b=>by cases e<;>first|exact b|exact d _ _ _ b|exact f b)
 | halt x w'=>
  cases x<;>simp only[Oper.upon]at h ⊢
  exact d _ _ _ h
def Za(l:List Oper):List Nat->List Oper
 | []=>[]
 | k::r=>match l[k]? with
  | some o=>o::Za l r
  | none=>Za l r
def He:List Nat->Array Bool->Array Bool
 | [],x=>x
 | k::r,x=>He r (x.setIfInBounds k true)
def Qby(ops:Array Oper)(fins:List Nat)(pu:Bool):List Nat->Array Bool->Bool
 | [],_=>true
 | k::r,listed=>(Region.ready .any ops listed).contains k&&Region.free .any ops listed k&&(match ops[k]? with|some o=>Hd o.op|none=>false)&&(pu||Qfp .any ops fins k)&&Qby ops fins pu r (listed.setIfInBounds k true)
def U7(P:Program)(ops:Array Oper)(fins:List Nat)(Q:Exit->Act->World->Prop)(f:Nat)(listed:Array Bool)(a:Act)(w:World):Prop:=
 Region.noSelect ops=true->(∀c d v a w,Q (.panic c) (Act.put a d v) w->Q (.panic c) a w)->Closed .any ops listed->Ff P .any ops (λk=>fins.contains k) Q f listed a w
theorem Qfq{C:World->Prop}{pu:Bool}{o:Oper}{a:Act}{w:World}{v:Value}(g:Hd o.op=true)(e:∀w',Cls pu w w'->C w')(j:Region.wanted o (yielded ops a.tmps)=true)(h:∀w',C w'->o.quietAt P a C w' v):Yu P ops pu o v a w:=by
 refine .inl ⟨j,λw' c=>?_⟩;have b:=h w' (e w' c);unfold Oper.quietAt at b;have i:∀f d c,(execOp a.eval o).run P w'≠.ok (.enter f d) c:=λf d c=>Qlg g
 generalize (execOp a.eval o).run P w'=r at *;cases r with
 | ok n c=>
  cases n<;>simp only[Oper.quietUpon]at b
  case value u=>obtain⟨rfl,rfl⟩:=b;exact .inl rfl
  case skip=>obtain⟨rfl,rfl⟩:=b;exact .inr ⟨rfl,rfl⟩
  case enter f d=>exact absurd rfl (i f d c)
 | halt x c=>simp only[Oper.quietUpon]at b
theorem Qg1{C:World->Prop}{pu:Bool}{d:List Nat}{Q:Exit->Act->World->Prop}{w:World}{l:List Oper}(m:∀w',Cls pu w w'->C w')(f:Nat):∀(e:List Nat) (b:Array Bool) (a:Act),Qby l.toArray d pu e b=true →
 wpQuiet P l.toArray C (λg=>U7 P l.toArray d Q f (He e b) g w) (Za l e) a->U7 P l.toArray d Q (f+e.length) b a w
 | [],b,a,_,h=>h
 | k::r,b,a,hB,h=>by
  intro q n p;simp only[Qby,Bool.and_eq_true]at hB;obtain⟨⟨⟨⟨t,b2⟩,j⟩,x⟩,y⟩:=hB;have i:k∈Region.ready .any l.toArray b:=by simpa using t
  obtain⟨_,o,e,_⟩:=mem_ready.1 i;rw[e]at j;have B:l[k]?=some o:=by simpa using e
  rw[Za,B]at h;have A:pu=true\/Qfp .any l.toArray d k=true:=by simpa using x
  have s:∀v,Yu P l.toArray pu o v a w->wpQuiet P l.toArray C (λg=>U7 P l.toArray d Q f (He (k::r) b) g w) (Za l r) (a.put o.dst v)->Ff P .any l.toArray (λk=>d.contains k) Q (f+r.length+1) b a w:=λv z g=>
   Qlh e (Region.noSelect_spec q) (λc a w=>n c o.dst v a w) A (f+r.length) b a w p (Region.free_spec e b2) i z
    (Qg1 m f r _ _ y g q n (p.set i))
  show Ff P .any l.toArray (λk=>d.contains k) Q (f+(r.length+1)) b a w;rw[<-Nat.add_assoc];unfold wpQuiet at h;split at h
  ·rename_i b
   obtain⟨v,g,z⟩:=h;exact s v (Qfq j m b g) z
  ·rename_i b
   exact s undef (.inr ⟨by simpa using b,rfl⟩) h
theorem Xt{d:List Nat}{Q:Exit->Act->World->Prop}{w:World}{l:List Oper}{a:Act}{c:Array Bool}{n:Nat}(f:Nat)(b:List Nat)(i:Qby l.toArray d false b c=true)(j:n=f+b.length)
 (h:wpQuiet P l.toArray (λw'=>∃g:Up w,w'=g.wd) (λe=>U7 P l.toArray d Q f (He b c) e w) (Za l b) a):U7 P l.toArray d Q n c a w:=by
 subst j;exact Qg1 (C:=λw'=>∃g:Up w,w'=g.wd) (pu:=false) (λw' e=>e.elim (λh=>by cases h) λh=>⟨⟨w',h⟩,rfl⟩) f b c a i h
theorem J6{d:List Nat}{Q:Exit->Act->World->Prop}{w:World}{l:List Oper}{a:Act}{c:Array Bool}{n:Nat}(f:Nat)(b:List Nat)(g:Qby l.toArray d true b c=true)(i:n=f+b.length)
 (h:wpQuiet P l.toArray (λ_=>True) (λe=>U7 P l.toArray d Q f (He b c) e w) (Za l b) a):U7 P l.toArray d Q n c a w:=by
 subst i;exact Qg1 (C:=λ_=>True) (pu:=true) (λw' e=>trivial) f b c a g h
def Dl(P:Program)(ops:Array Oper)(fins:List Nat)(Q:Exit->Act->World->Prop)(f:Nat)(listed:Array Bool)(fin:Bool)(w:World):Exit->Act->World->Prop
 | .normal,a,w'=>(fin=true\/Bel w w')/\U7 P ops fins Q f listed a w'
 | e,a,w'=>Q e a w'
theorem Ng{b:List Nat}{Q:Exit->Act->World->Prop}{w:World}{l:List Oper}{a:Act}{g:Array Bool}{f k:Nat}{o:Oper}(p:l[k]?=some o)(r:Region.noSelect l.toArray=true)(j:∀c d v a w,Q (.panic c) (Act.put a d v) w->Q (.panic c) a w)(m:Closed .any l.toArray g)(n:k∈Region.ready .any l.toArray g)
 (h:wpList P l.toArray (Dl P l.toArray b Q f (g.setIfInBounds k true) (b.contains k) w) [o] a w):
 wpOp P l.toArray Q k (λe w'=>(b.contains k=true\/Bel w w')/\Ff P .any l.toArray (λk=>b.contains k) Q f (g.setIfInBounds k true) e w') a w:=by
 have q:l.toArray[k]?=some o:=by simpa using p
 have fin:∀e w',Dl P l.toArray b Q f (g.setIfInBounds k true) (b.contains k) w .normal e w'->(b.contains k=true\/Bel w w')/\Ff P .any l.toArray (λk=>b.contains k) Q f (g.setIfInBounds k true) e w':=λe w' h=>⟨h.1,h.2 r j (m.set n)⟩
 unfold wpOp;simp only[q];unfold wpList at h;split at h
 ·rename_i i
  rw[if_pos i];rcases h with h|⟨h1,h2⟩
  ·refine .inl (Qom (Q':=Dl P l.toArray b Q f (g.setIfInBounds k true) (b.contains k) w) (λc a w h=>h) (fun⟨a,w,h⟩=>⟨a,w,h⟩) (Oper.wp_mono (λe w' h=>fin e w' h) h))
  ·exact .inr ⟨h1,by obtain⟨a,w,h⟩:=h2;exact⟨a,w,h⟩⟩
 ·rename_i i
  rw[if_neg i];exact fin _ _ h
theorem Qq{b:List Nat}{Q:Exit->Act->World->Prop}{w:World}{l:List Oper}{a:Act}{e:Array Bool}{o:Oper}(f k:Nat)(d:Region.ready .any l.toArray e=[k])(n:l[k]?=some o)
 (h:wpList P l.toArray (Dl P l.toArray b Q f (e.setIfInBounds k true) (b.contains k) w) [o] a w):U7 P l.toArray b Q (f+1) e a w:=by
 intro p g j;refine⟨λc=>(by rw[c]at d;cases d),λi c=>?_⟩;have m:i=k:=by rw[d]at c;simpa using c
 subst m;exact Ng n p g j c h
theorem Qx3{b:List Nat}{Q:Exit->Act->World->Prop}{w:World}{l:List Oper}{a:Act}{d:Array Bool}{o m:Oper}(f k k':Nat)(e:Region.ready .any l.toArray d=[k,k'])(r:l[k]?=some o)(s:l[k']?=some m)
 (n:wpList P l.toArray (Dl P l.toArray b Q f (d.setIfInBounds k true) (b.contains k) w) [o] a w)
 (p:wpList P l.toArray (Dl P l.toArray b Q f (d.setIfInBounds k' true) (b.contains k') w) [m] a w):U7 P l.toArray b Q (f+1) d a w:=by
 intro j g h;refine⟨λc=>(by rw[c]at e;cases e),λi c=>?_⟩;have q:i=k\/i=k':=by rw[e]at c;simpa using c
 rcases q with rfl|rfl
 ·exact Ng r j g h c n
 ·exact Ng s j g h c p
theorem Zl{ops:Array Oper}{b:List Nat}{Q:Exit->Act->World->Prop}{f:Nat}{c:Array Bool}{fin:Bool}{w w':World}{a:Act}(d:Bel w w')(h:U7 P ops b Q f c a w'):Dl P ops b Q f c fin w .normal a w':=⟨.inr d,h⟩
theorem Z6{ops:Array Oper}{b:List Nat}{Q:Exit->Act->World->Prop}{f:Nat}{c:Array Bool}{w w':World}{a:Act}(h:U7 P ops b Q f c a w'):Dl P ops b Q f c true w .normal a w':=⟨.inl rfl,h⟩
theorem X0{ops:Array Oper}{d:List Nat}{Q:Exit->Act->World->Prop}{f:Nat}{c:Array Bool}{a:Act}{w:World}(b:Region.ready .any ops c=[])(h:Q .normal a w):U7 P ops d Q f c a w:=by
 intro _ _ _;cases f with
 | zero=>exact⟨b,h⟩
 | succ f=>exact⟨λ_=>h,by rw[b];simp⟩
theorem Zp{o:Nat}{Q:Exit->Act->World->Prop}{a:Act}{w:World}{l:List Oper}(b:List Nat)(n:Nat)(g:P.follows .mixedOrders=true)(i:l.length=n)(m:Region.noSelect l.toArray=true)(f:∀c d v a w,Q (.panic c) (Act.put a d v) w->Q (.panic c) a w)
 (h:∀w',Bel w w'->w'.heap.size=w.heap.size->U7 P l.toArray b Q n (Array.replicate n false) a w'):(Code.region o l.toArray true).wp P Q a w:=by
 subst i;refine wp_region_any g (Qfn (fin:=λk=>b.contains k) _ _ _ _ ?_);have:=h { w with drawn:=w.drawn+1 } ((Bel.refl w).drew) rfl m f ⟨by simp,λj e _ e=>by rw[getD_replicate_false]at e;cases e⟩;simpa using this
end
theorem Zb {w W : World} {o : Obj} (h : W = w.alloc o) : Bel w W := h ▸ (Bel.refl _).alloc _
theorem Ca6 {w : World} {g : Nat} {a0 a1 a2 a3 a4 a5 : Value} {T : TypeId} {fr : Nat × Nat} (h : w.heap[g]? = some (.cells #[a0, a1, a2, a3, a4, a5] T fr)) : w.cell? ⟨g, 0, none⟩ = some a0 ∧ w.cell? ⟨g, 1, none⟩ = some a1 ∧ w.cell? ⟨g, 2, none⟩ = some a2 ∧ w.cell? ⟨g, 3, none⟩ = some a3 ∧ w.cell? ⟨g, 4, none⟩ = some a4 ∧ w.cell? ⟨g, 5, none⟩ = some a5 := ⟨cell_of_block h 0 _ rfl, cell_of_block h 1 _ rfl, cell_of_block h 2 _ rfl, cell_of_block h 3 _ rfl, cell_of_block h 4 _ rfl, cell_of_block h 5 _ rfl⟩
theorem Ua6 {w : World} {g : Nat} {a0 a1 a2 a3 a4 a5 : Value} {T : TypeId} {fr : Nat × Nat} (h : w.heap[g]? = some (.cells #[a0, a1, a2, a3, a4, a5] T fr)) : (∀ u : Up w, u.wd.cell? ⟨g, 0, none⟩ = some a0) ∧ (∀ u : Up w, u.wd.cell? ⟨g, 1, none⟩ = some a1) ∧ (∀ u : Up w, u.wd.cell? ⟨g, 2, none⟩ = some a2) ∧ (∀ u : Up w, u.wd.cell? ⟨g, 3, none⟩ = some a3) ∧ (∀ u : Up w, u.wd.cell? ⟨g, 4, none⟩ = some a4) ∧ (∀ u : Up w, u.wd.cell? ⟨g, 5, none⟩ = some a5) := ⟨Up.cell (cell_of_block h 0 _ rfl), Up.cell (cell_of_block h 1 _ rfl), Up.cell (cell_of_block h 2 _ rfl), Up.cell (cell_of_block h 3 _ rfl), Up.cell (cell_of_block h 4 _ rfl), Up.cell (cell_of_block h 5 _ rfl)⟩
theorem Ca9 {w : World} {g : Nat} {a0 a1 a2 a3 a4 a5 a6 a7 a8 : Value} {T : TypeId} {fr : Nat × Nat} (h : w.heap[g]? = some (.cells #[a0, a1, a2, a3, a4, a5, a6, a7, a8] T fr)) : w.cell? ⟨g, 0, none⟩ = some a0 ∧ w.cell? ⟨g, 1, none⟩ = some a1 ∧ w.cell? ⟨g, 2, none⟩ = some a2 ∧ w.cell? ⟨g, 3, none⟩ = some a3 ∧ w.cell? ⟨g, 4, none⟩ = some a4 ∧ w.cell? ⟨g, 5, none⟩ = some a5 ∧ w.cell? ⟨g, 6, none⟩ = some a6 ∧ w.cell? ⟨g, 7, none⟩ = some a7 ∧ w.cell? ⟨g, 8, none⟩ = some a8 := ⟨cell_of_block h 0 _ rfl, cell_of_block h 1 _ rfl, cell_of_block h 2 _ rfl, cell_of_block h 3 _ rfl, cell_of_block h 4 _ rfl, cell_of_block h 5 _ rfl, cell_of_block h 6 _ rfl, cell_of_block h 7 _ rfl, cell_of_block h 8 _ rfl⟩
theorem Ua9 {w : World} {g : Nat} {a0 a1 a2 a3 a4 a5 a6 a7 a8 : Value} {T : TypeId} {fr : Nat × Nat} (h : w.heap[g]? = some (.cells #[a0, a1, a2, a3, a4, a5, a6, a7, a8] T fr)) : (∀ u : Up w, u.wd.cell? ⟨g, 0, none⟩ = some a0) ∧ (∀ u : Up w, u.wd.cell? ⟨g, 1, none⟩ = some a1) ∧ (∀ u : Up w, u.wd.cell? ⟨g, 2, none⟩ = some a2) ∧ (∀ u : Up w, u.wd.cell? ⟨g, 3, none⟩ = some a3) ∧ (∀ u : Up w, u.wd.cell? ⟨g, 4, none⟩ = some a4) ∧ (∀ u : Up w, u.wd.cell? ⟨g, 5, none⟩ = some a5) ∧ (∀ u : Up w, u.wd.cell? ⟨g, 6, none⟩ = some a6) ∧ (∀ u : Up w, u.wd.cell? ⟨g, 7, none⟩ = some a7) ∧ (∀ u : Up w, u.wd.cell? ⟨g, 8, none⟩ = some a8) := ⟨Up.cell (cell_of_block h 0 _ rfl), Up.cell (cell_of_block h 1 _ rfl), Up.cell (cell_of_block h 2 _ rfl), Up.cell (cell_of_block h 3 _ rfl), Up.cell (cell_of_block h 4 _ rfl), Up.cell (cell_of_block h 5 _ rfl), Up.cell (cell_of_block h 6 _ rfl), Up.cell (cell_of_block h 7 _ rfl), Up.cell (cell_of_block h 8 _ rfl)⟩
open Go.Lib
variable {P : Program}
theorem Kn(g:Nat)(e:TypeId)(d:Nat×Nat):∀(vs:List Value) (o:Nat) (w:World) (a:Array Value),w.heap[g]?=some (.cells a e d)->o+vs.length<=a.size →
 ∃b,(w.setCells g o vs).heap[g]?=some (.cells b e d)/\b.size=a.size/\(∀j,j<o\/o+vs.length<=j->b[j]?=a[j]?)/\(∀j c,vs[j]?=some c->b[o+j]?=some c)
 | [],o,w,a,hg,_=>⟨a,hg,rfl,λ_ _=>rfl,λj c h=>by simp at h⟩
 | v::r,o,w,a,hg,hl=>by
  have l:o+(r.length+1)<=a.size:=by simpa using hl
  obtain⟨b,h,i,f,k⟩:=Kn g e d r (o+1) (w.setCell ⟨g,o,none⟩ v) _ (heap_setCell_same w g o v a e d hg) (by simp;omega);refine⟨b,h,by rw[i];simp,λj a=>?_,λj c a=>?_⟩
  ·simp only[List.length_cons]at a
   rw[f j (by omega),Array.getElem?_setIfInBounds_ne (by omega)]
  ·rcases j with _|j
   ·have e0:v=c:=by simpa using a
    subst e0;rw[Nat.add_zero,f o (by omega),Array.getElem?_setIfInBounds_self_of_lt (by omega)]
   ·have:=k j c (by simpa using a)
    rw[<-this];congr 1;omega
theorem Gh(w:World)(h sT A e:TypeId)(size b o d l:Nat)(a:Addr)(g z:Nat)(c:List Value)
 (y:P.underlying h=some (.slice e)) (k:(P.info? e).map (·.size)=some size) (s:c.length=Nat.min g d*size)
 (t:∀j v,c[j]?=some v->w.cell? (a.add j)=some v) (n:∀j,j<c.length->(w.cell? ⟨b,o+j,none⟩).isSome=true) (p:∀j,j<c.length->w.frozen? ⟨b,o+j,none⟩=false) (m:∀v∈c,v.oneCell'=true):
 (Builtin.copy_ #[h,sT] A #[.slice (some ⟨b,o,none⟩) d l,.slice (some a) g z]).run P w=.ok (goInt (Nat.min g d)) (w.setCells b o c):=by
 have r:=run_loadCells_list (P:=P) w a c t;have x:=run_storeCells_cells (P:=P) b o c 0 w (by simpa using n) (by simpa using p) m;cases f:P.info? e with
 | none=>simp[f]at k
 | some i=>
  have q:i.size=size:=by simpa[f] using k
  simp[Builtin.copy_,run_underlying y,Builtin.lenOf,Builtin.firstCells,sizeOf,typeInfo,f,q,<-s,r,x]
theorem Qa2(w:World)(t c B e:TypeId)(i:TypeInfo)(z:Value)(A:IntKind)(s:P.underlying t=some (.slice e))(v:P.underlying c=some (.int A))(o:P.info? e=some i)(y:i.zero=some z)(E:z.cells.size=i.size)
 (ao:Option Addr) (n cap:Nat) (xs:List Value) (h:Sl w e i.size ao n cap xs) (m:Nat) (d:0<m) (l:0<i.size) (f:cap<n+m) (k:n+m<=maxLen) (b:(n+m)*i.bytes<=140737488355328):
 (Builtin.append_ #[t,c] B #[.slice ao n cap,.int .i64 m]).run P w =
  .ok (.slice (some ⟨w.heap.size,0,none⟩) (n+m) (grownCap w (n+m) cap e)) (w.drew.alloc (.cells (xs.toArray++Builtin.zeroCells z.cells m++Builtin.zeroCells z.cells (grownCap w (n+m) cap e-(n+m))) e)):=by
 have r:(Builtin.firstCells i.size n (.slice ao n cap)).run P w.drew=.ok xs.toArray w.drew:=by
  by_cases C:cap=0
  ·obtain rfl:n=0:=by have:=h.2.1;omega
   have d:xs=[]:=List.eq_nil_of_length_eq_zero (by simpa using h.1);subst d;rcases ao with _|a
   ·exact run_firstCells_none w.drew _ _ _ _
   ·exact run_firstCells_some w.drew i.size 0 a 0 cap [] (by simp) (by simp)
  ·obtain⟨g,off,q,rfl,D,f,x,l⟩:=h.2.2.2 (by omega)
   refine run_firstCells_some w.drew i.size n ⟨g,off,none⟩ n cap xs h.1 (λj p d=>?_);have:=l j p d;have d:(⟨g,off,none⟩:Addr).add j=⟨g,off+j,none⟩:=by unfold Addr.add;split<;>simp_all
   rw[d];show w.cell? _=_;simp[World.cell?,f,this]
 simp only[maxLen]at k;have x:IntKind.i64.wrap (m:Int)=m:=by rw[IntKind.wrap_i64];omega
 have D:m*i.bytes<=140737488355328:=Nat.le_trans (Nat.mul_le_mul_right _ (by omega)) b;have f:¬(281474976710656<(m:Int)*(i.bytes:Int)):=by rw[<-Int.natCast_mul];omega
 have d:¬(281474976710656<Builtin.nextslicecap (n+m) cap*i.bytes):=by have:=growslice_fits (old:=cap) (by omega) b;omega
 have p:¬((m:Int)<0):=by omega
 have q:¬(m*i.size=0):=Nat.mul_ne_zero (by omega) (by omega);have l:¬(n+m<=cap):=by omega
 have h:¬(9223372036854775807<(n:Int)+(m:Int)):=by omega
 have C:m≠0:=by omega
 simp[Builtin.append_,run_underlying s,run_underlying v,sizeOf,typeInfo,zeroValue,o,y,asInt,asIntOf,x,p,q,l,h,d,f,r,Question.forced,newRow,grownCap]
theorem Mo(t e:TypeId)(size:Nat)(f:P.underlying t=some (.slice e))(c:P.elem t=e)(d:∀w:World,(sizeOf e).run P w=.ok size w)(ao:Option Addr)(n cap b:Nat)(g:b<=cap)(w:World):
 (Instr.slice t (.slice ao n cap) none (some (.int .i64 b)) none).run P w=.ok (.slice ao b cap) w:=by
 rw[run_slice_h w t ao n cap (by rw[c];exact f) .i64 b (by omega) (by omega),c,d];rcases ao with _|a<;>simp[Result.andThen,sliced,Addr.add]
theorem Qrw{w:World}{e k g off n cap i:Nat}{xs vs:List Value}(r:Sl w e k (some ⟨g,off,none⟩) n cap xs)(h:n+1<=cap)(y:i<=n)(l:vs.length=k):
 Sl ((w.setCells g (off+(i+1)*k) (xs.drop (i*k))).setCells g (off+i*k) vs) e k (some ⟨g,off,none⟩) (n+1) cap (xs.take (i*k)++vs++xs.drop (i*k))/\Kept (Qc (some ⟨g,off,none⟩) cap) w ((w.setCells g (off+(i+1)*k) (xs.drop (i*k))).setCells g (off+i*k) vs):=by
 obtain⟨b,J,s,t⟩:=r;obtain⟨I,N,p,v,M,x,K,A⟩:=t (by omega);cases v;have F:(i+1)*k=i*k+k:=Nat.succ_mul _ _;have G:(n+1)*k=n*k+k:=Nat.succ_mul _ _;have q:i*k<=n*k:=Nat.mul_le_mul_right _ y;have H:(n+1)*k<=cap*k:=Nat.mul_le_mul_right _ h;have d:(xs.drop (i*k)).length=n*k-i*k:=by rw[List.length_drop,b]
 obtain⟨c1,B,O,C,D⟩:=Kn g e (0,0) (xs.drop (i*k)) (off+(i+1)*k) w p x (by omega);obtain⟨c2,m,P,o,E⟩:=Kn g e (0,0) vs (off+i*k) _ c1 B (by omega);refine⟨⟨?_,h,s,λ_=>⟨g,off,c2,rfl,Qb m,m,by omega,λj c a=>?_⟩⟩,?_⟩
 ·simp only[List.length_append,List.length_take,d,l,b];omega
 ·rw[List.append_assoc]at a
  rcases Nat.lt_or_ge j (i*k)with f|f
  ·rw[List.getElem?_append_left (by rw[List.length_take,b];omega),List.getElem?_take,if_pos f]at a
   rw[o _ (.inl (by omega)),C _ (.inl (by omega))];exact A j c a
  ·rw[List.getElem?_append_right (by rw[List.length_take,b];omega),List.length_take,b,Nat.min_eq_left q]at a
   rcases Nat.lt_or_ge (j-i*k) k with z|z
   ·rw[List.getElem?_append_left (by omega)]at a
    have:=E _ c a;rw[<-this];congr 1;omega
   ·rw[List.getElem?_append_right (by omega),l]at a
    have L:j-i*k-k<n*k-i*k:=by rw[<-d];exact(List.getElem?_eq_some_iff.1 a).1
    rw[o _ (.inr (by omega))];have:=D _ c a;rw[<-this];congr 1;omega
 ·refine⟨by rw[World.os_setCells,World.os_setCells],by rw[(Xo _ _ _ _).1,(Xo _ _ _ _).1],by rw[World.output_setCells,World.output_setCells],by rw[(Xo _ _ _ _).2,(Xo _ _ _ _).2];exact Nat.le_refl _,λj a f=>?_⟩
  have c:j≠g:=λe=>f ⟨by omega,_,rfl,e⟩
  rw[World.heap_setCells_other _ g _ _ (by rw[(Xo _ _ _ _).2];exact a) c,World.heap_setCells_other w g _ _ a c]
theorem Qxy{w:World}{e k n cap i c:Nat}{xs vs:List Value}{z:Array Value}{ao:Option Addr}(h:Sl w e k ao n cap xs)(o:n+1<=c)(m:i<=n)(C:vs.length=k)(q:z.size=k):
 ∃c1,((w.drew.alloc (.cells ((xs.take (i*k)).toArray++Builtin.zeroCells z (n+1-i)++Builtin.zeroCells z (c-(n+1))) e)).setCells w.heap.size (i*k) vs).heap[w.heap.size]?=some (.cells c1 e (0,0))/\c1.size=c*k/\(∀j a,j<i*k->xs[j]?=some a->c1[j]?=some a)/\(∀j a,vs[j]?=some a->c1[i*k+j]?=some a) ∧
  Bel w ((w.drew.alloc (.cells ((xs.take (i*k)).toArray++Builtin.zeroCells z (n+1-i)++Builtin.zeroCells z (c-(n+1))) e)).setCells w.heap.size (i*k) vs):=by
 have g:=h.1;have x:(i+1)*k=i*k+k:=Nat.succ_mul _ _;have y:(n+1)*k=n*k+k:=Nat.succ_mul _ _;have A:i*k<=n*k:=Nat.mul_le_mul_right _ m;have B:(n+1)*k<=c*k:=Nat.mul_le_mul_right _ o;have f:(xs.take (i*k)).length=i*k:=by rw[List.length_take,g];omega
 have l:(w.drew.alloc (.cells ((xs.take (i*k)).toArray++Builtin.zeroCells z (n+1-i)++Builtin.zeroCells z (c-(n+1))) e)).heap[w.heap.size]?=some (.cells ((xs.take (i*k)).toArray++Builtin.zeroCells z (n+1-i)++Builtin.zeroCells z (c-(n+1))) e (0,0)):=heap_alloc_new w.drew _;have d:((xs.take (i*k)).toArray++Builtin.zeroCells z (n+1-i)++Builtin.zeroCells z (c-(n+1))).size=c*k:=by
  simp only[Array.size_append,List.size_toArray,Pj,f,q,Nat.sub_mul];omega
 obtain⟨c1,r,s,t,v⟩:=Kn w.heap.size e (0,0) vs (i*k) _ _ l (by rw[d];omega);refine⟨c1,r,s.trans d,λj a b p=>?_,v,?_⟩
 ·rw[t _ (.inl (by omega)),Array.append_assoc,Array.getElem?_append_left (by simpa[f] using b)]
  have:(xs.take (i*k))[j]?=some a:=by rw[List.getElem?_take,if_pos b];exact p
  simpa using this
 ·have a:Bel w (w.drew.alloc (.cells ((xs.take (i*k)).toArray++Builtin.zeroCells z (n+1-i)++Builtin.zeroCells z (c-(n+1))) e)):=((Bel.refl w).drew).alloc _
  refine a.of_kept (S:=λj=>j=w.heap.size) ⟨World.os_setCells _ _ _ _,(Xo _ _ _ _).1,World.output_setCells _ _ _ _,by rw[(Xo _ _ _ _).2];exact Nat.le_refl _,λj b p=>?_⟩ (λj b=>by omega);rw[World.heap_setCells_other _ _ _ _ b p]
theorem Qxz{w:World}{e k g n i c:Nat}{xs vs:List Value}{c1:Array Value}(h:xs.length=n*k)(l:n+1<=c)(r:c<=maxLen)(v:i<=n)(m:vs.length=k)(t:w.heap[g]?=some (.cells c1 e (0,0)))(o:c1.size=c*k)(y:∀j b,j<i*k->xs[j]?=some b->c1[j]?=some b)(z:∀j b,vs[j]?=some b->c1[i*k+j]?=some b):
 Sl (w.setCells g ((i+1)*k) (xs.drop (i*k))) e k (some ⟨g,0,none⟩) (n+1) c (xs.take (i*k)++vs++xs.drop (i*k))/\Kept (λj=>j=g) w (w.setCells g ((i+1)*k) (xs.drop (i*k))):=by
 have C:(i+1)*k=i*k+k:=Nat.succ_mul _ _;have D:(n+1)*k=n*k+k:=Nat.succ_mul _ _;have E:i*k<=n*k:=Nat.mul_le_mul_right _ v;have F:(n+1)*k<=c*k:=Nat.mul_le_mul_right _ l;have s:(xs.drop (i*k)).length=n*k-i*k:=by rw[List.length_drop,h]
 have f:(xs.take (i*k)).length=i*k:=by rw[List.length_take,h];omega
 obtain⟨c2,p,A,q,B⟩:=Kn g e (0,0) (xs.drop (i*k)) ((i+1)*k) _ c1 t (by rw[o];omega);refine⟨⟨?_,l,r,λ_=>⟨g,0,c2,rfl,Qb p,p,by rw[A,o];omega,λj b a=>?_⟩⟩,⟨World.os_setCells _ _ _ _,(Xo _ _ _ _).1,World.output_setCells _ _ _ _,by rw[(Xo _ _ _ _).2];exact Nat.le_refl _,λj a d=>World.heap_setCells_other _ _ _ _ a d⟩⟩
 ·simp only[List.length_append,f,s,m];omega
 ·rw[Nat.zero_add]
  rw[List.append_assoc]at a;rcases Nat.lt_or_ge j (i*k)with d|d
  ·rw[List.getElem?_append_left (by rw[f];exact d),List.getElem?_take,if_pos d]at a
   rw[q _ (.inl (by omega))];exact y j b d a
  ·rw[List.getElem?_append_right (by rw[f];exact d),f]at a
   rcases Nat.lt_or_ge (j-i*k) k with x|x
   ·rw[List.getElem?_append_left (by omega)]at a
    rw[q _ (.inl (by omega))];have:=z _ b a;rw[<-this];congr 1;omega
   ·rw[List.getElem?_append_right (by omega),m]at a
    have:=B _ b a;rw[<-this];congr 1;omega
theorem Own.inserted{α:Type}{r:Rp α}{A:Nat->Prop}{w0 w w':World}{e:TypeId}{ao b:Option Addr}{cap c i:Nat}{l:List α}{x:α}{xs vs:List Value}
 (d:Ch (r.R (λk=>A k\/Qc ao cap k) w) r.size l xs) (o:∀k,Qc ao cap k->w0.heap.size<=k) (g:r.R (λk=>A k\/Qc ao cap k) w x vs) (h:i<=l.length)
 (a:Kept (Qc ao cap) w w') (n:Bel w0 w) (p:Sl w' e r.size b (l.length+1) c (xs.take (i*r.size)++vs++xs.drop (i*r.size))) (f:∀k,Qc b c k->Qc ao cap k\/w.heap.size<=k):
 Own r A w0 w' e b c (l.take i++[x]++l.drop i):=by
 have j:=((d.take i).append (Ch.one g (r.len g))).append (d.drop i);refine⟨_,j.mono λ_ _ _ h=>r.keep h a (λk a=>.inr a) (λk a m=>m.imp id λh=>?_),?_,λk a=>?_⟩
 ·rcases f k h with h|h
  ·exact h
  ·omega
 ·rw[show(l.take i++[x]++l.drop i).length=l.length+1 by simp;omega];exact p
 ·rcases f k a with h|h
  ·exact o k h
  ·exact Nat.le_trans n.size h
section
variable {α : Type} {r : Rp α} {A : Nat → Prop} {w0 w : World} {e : TypeId} {ao : Option Addr} {cap : Nat} {l : List α}
theorem Own.at(m:Own r A w0 w e ao cap l){k:Nat}{x:α}(h:l[k]?=some x):
 ∃g off vs,ao=some ⟨g,off,none⟩/\Qc ao cap g/\r.R (λk=>A k\/Qc ao cap k) w x vs/\(∃a,w.heap[g]?=some (.cells a e (0,0)))/\∀j,j<r.size->w.cell? ⟨g,off+k*r.size+j,none⟩=vs[j]?:=by
 obtain⟨xs,n,b,z⟩:=m;have s:=(List.getElem?_eq_some_iff.1 h).1;have d:0<cap:=by have:=b.2.1;omega
 obtain⟨g,off,a,c,C,f,B,t⟩:=b.2.2.2 d;obtain⟨vs,p,D,v⟩:=n.at h;refine⟨g,off,vs,c,⟨d,_,c,rfl⟩,p,⟨a,f⟩,λj q=>?_⟩;have i:k*r.size+j<xs.length:=by
  rw[b.1];have:(k+1)*r.size<=l.length*r.size:=Nat.mul_le_mul_right _ s;rw[Nat.succ_mul]at this;omega
 have y:=t (k*r.size+j) xs[k*r.size+j] (by simp[i]);have o:=v j q;rw[Nat.add_assoc,<-o];simp[World.cell?,f,y,i]
theorem Qaw(w:World)(g o:Nat)(vs:List Value):Kept (λj=>j=g) w (w.setCells g o vs):=
 ⟨World.os_setCells _ _ _ _,(Xo _ _ _ _).1,World.output_setCells _ _ _ _,by rw[(Xo _ _ _ _).2];exact Nat.le_refl _,λj a b=>World.heap_setCells_other _ _ _ _ a b⟩
theorem Own.set(h:Own r A w0 w e ao cap l){g off i:Nat}(d:ao=some ⟨g,off,none⟩)(q:i<l.length){x:α}{vs:List Value}(v:r.R (λk=>A k\/Qc ao cap k) w x vs):
 Own r A w0 (w.setCells g (off+i*r.size) vs) e ao cap (l.set i x)/\Kept (Qc ao cap) w (w.setCells g (off+i*r.size) vs):=by
 obtain⟨xs,n,a,C⟩:=h;have p:0<cap:=by have:=a.2.1;omega
 obtain⟨N,P,B,o,O,F,D,t⟩:=a.2.2.2 p;rw[d]at o;cases o;have H:Qc ao cap g:=⟨p,_,d,rfl⟩;have c:Kept (Qc ao cap) w (w.setCells g (off+i*r.size) vs):=(Qaw w g _ vs).mono λk _ c=>c▸H
 have f:=r.len v;have K:(i+1)*r.size=i*r.size+r.size:=Nat.succ_mul _ _;have L:(i+1)*r.size<=l.length*r.size:=Nat.mul_le_mul_right _ q;have M:l.length*r.size<=cap*r.size:=Nat.mul_le_mul_right _ a.2.1;obtain⟨c1,y,I,z,J⟩:=Kn g e (0,0) vs (off+i*r.size) w B F (by omega);have E:Ch (r.R (λk=>A k\/Qc ao cap k) w) r.size (l.set i x) (xs.take (i*r.size)++vs++xs.drop ((i+1)*r.size)):=by
  have b:=((n.take i).append (Ch.one v f)).append (n.drop (i+1));rw[List.set_eq_take_append_cons_drop,if_pos q];rw[List.append_assoc]at b;exact b
 refine⟨⟨_,E.mono λ_ _ _ h=>r.keep h c (λk c=>.inr c) λk _ h=>h,⟨?_,by rw[List.length_set];exact a.2.1,a.2.2.1,λ_=>⟨g,off,c1,d,Qb y,y,by rw[I];exact D,λj m b=>?_⟩⟩,C⟩,c⟩
 ·rw[List.length_set];simp only[List.length_append,List.length_take,List.length_drop,a.1,f];omega
 ·rw[List.append_assoc]at b
  rcases Nat.lt_or_ge j (i*r.size)with s|s
  ·rw[List.getElem?_append_left (by rw[List.length_take,a.1];omega),List.getElem?_take,if_pos s]at b
   rw[z _ (.inl (by omega))];exact t j m b
  ·rw[List.getElem?_append_right (by rw[List.length_take,a.1];omega),List.length_take,a.1,Nat.min_eq_left (by omega)]at b
   rcases Nat.lt_or_ge (j-i*r.size) r.size with G|G
   ·rw[List.getElem?_append_left (by omega)]at b
    have:=J _ m b;rw[<-this];congr 1;omega
   ·rw[List.getElem?_append_right (by omega),f,List.getElem?_drop]at b
    rw[z _ (.inr (by omega))];have:=t _ m b;rw[<-this];congr 1;omega
theorem Own.front(h:Own r A w0 w e ao cap l){i:Nat}(c:i<=l.length):Own r A w0 w e ao cap (l.take i):=by
 obtain⟨xs,f,a,k⟩:=h;have t:i*r.size<=l.length*r.size:=Nat.mul_le_mul_right _ c;refine⟨_,f.take i,?_,k⟩;rw[List.length_take,Nat.min_eq_left c];exact⟨by rw[List.length_take,a.1];omega,by have:=a.2.1;omega,a.2.2.1,λb=>by
  obtain⟨g,off,d,m,p,o,n,q⟩:=a.2.2.2 b;exact⟨g,off,d,m,p,o,n,λj s b=>q j s (by rw[List.getElem?_take]at b;split at b;exact b;cases b)⟩⟩
theorem Own.behind(h:Own r A w0 w e ao cap l){g off n:Nat}{vs:List Value}(c:ao=some ⟨g,off,none⟩)(G:n*r.size<=cap*r.size)(E:l.length*r.size+vs.length<=n*r.size)(f:0<cap):
 Own r A w0 (w.setCells g (off+l.length*r.size) vs) e ao cap l/\Kept (Qc ao cap) w (w.setCells g (off+l.length*r.size) vs):=by
 obtain⟨xs,p,b,q⟩:=h;obtain⟨D,H,o,d,F,t,s,y⟩:=b.2.2.2 f;rw[c]at d;cases d;have x:Qc ao cap g:=⟨f,_,c,rfl⟩;have a:Kept (Qc ao cap) w (w.setCells g (off+l.length*r.size) vs):=(Qaw w g _ vs).mono λk _ a=>a▸x
 obtain⟨c1,m,z,B,I⟩:=Kn g e (0,0) vs (off+l.length*r.size) w o t (by omega);refine⟨⟨xs,p.mono λ_ _ _ h=>r.keep h a (λk a=>.inr a) λk _ h=>h,⟨b.1,b.2.1,b.2.2.1,λ_=>⟨g,off,c1,c,Qb m,m,by rw[z];exact s,λj C i=>?_⟩⟩,q⟩,a⟩;have v:=(List.getElem?_eq_some_iff.1 i).1;rw[b.1]at v;rw[B _ (.inl (by omega))];exact y j C i
end
theorem Dy(w:World)(t e ty:TypeId)(z:Value)(zs:List Value)(ht:P.underlying t=some (.slice e))(hv:∀w,(zeroValue e).run P w=.ok z w)(hz:z.cells.toList=zs)(h1:∀v∈zs,v.oneCell'=true)(h0:0<zs.length)(b o n c:Nat)(hn:0<n)
 (hc:∀j,j<n*zs.length->(w.cell? ⟨b,o+j,none⟩).isSome=true) (hf:∀j,j<n*zs.length->w.frozen? ⟨b,o+j,none⟩=false):
 ∃us:List Value,us.length=n*zs.length/\(Builtin.clear_ #[t] ty #[.slice (some ⟨b,o,none⟩) n c]).run P w=.ok (.tuple #[]) (w.setCells b o us):=by
 have hzs:z.cells.size=zs.length:=by rw[<-hz];simp
 have hul:(Builtin.zeroCells z.cells n).toList.length=n*zs.length:=by rw[Array.length_toList,Pj,hzs]
 refine⟨(Builtin.zeroCells z.cells n).toList,hul,?_⟩;have hst:=run_storeCells_cells (P:=P) b o (Builtin.zeroCells z.cells n).toList 0 w (by rw[hul];simpa using hc) (by rw[hul];simpa using hf) (by
  intro v hv';obtain⟨j,hj,rfl⟩:=List.getElem_of_mem hv';have hm:j % z.cells.size<z.cells.size:=Nat.mod_lt _ (by rw[hzs];exact h0);have:(Builtin.zeroCells z.cells n).toList[j]=z.cells[j % z.cells.size]'hm:=by
   simp[Builtin.zeroCells,hm]
  rw[this];refine h1 _ ?_;rw[<-hz];simp)
 simp only[Nat.add_zero]at hst;obtain⟨m,rfl⟩:∃m,n=m+1:=⟨n-1,by omega⟩;simp[Builtin.clear_,run_underlying ht,hv,hst]
end Go.Mem
namespace Go.Po
open Go.Mem Go.Proofs.YtkdpmdfcdgphlaaGreat
structure Sm where
 x:ByteArray
 n:Int
def L8:Rp Sm:=.flat 2 (λx=>[.string x.x,.int .i64 x.n]) (λ_=>rfl) (λ_ v h=>by simp only[List.mem_cons,List.not_mem_nil,or_false]at h;rcases h with rfl|rfl<;>rfl)
theorem Qi0{A:Nat->Prop}{w:World}{ao:Option Addr}{cap k:Nat}{l:List Sm}{x:Sm}(h:Rd L8 A w ao cap l)(d:l[k]?=some x):
 ∃g off,ao=some ⟨g,off,none⟩/\g<w.heap.size/\w.cell? ⟨g,off+k*2,none⟩=some (.string x.x)/\w.cell? ⟨g,off+k*2+1,none⟩=some (.int .i64 x.n):=by
 obtain⟨g,off,vs,c,e,_,b,a⟩:=h.at d;obtain rfl:vs=[.string x.x,.int .i64 x.n]:=b;exact⟨g,off,c,e,a 0 (by decide),a 1 (by decide)⟩
end Go.Po
namespace Go.Proofs.YtkdpmdfcdgphlaaGreat
open Tryz
open Go.RowKit Go.Mem Go.Po
theorem Qi1:El prog 435 444 2 24:=El.mk' underlying435 (z:=.agg #[.string ⟨#[]⟩,.int .i64 0]) (by kernel_rfl) rfl
def Ranks(x y:ByteArray)(a b:Int):Prop:=Op.bytesLess x.toList y.toList=decide (a<b)/\(x.toList==y.toList)=decide (a=b)
theorem Qq6(x:ByteArray)(w:World):Calls prog 429 #[.string x] w λe w'=>e=.returned (.bool false)/\w=w':=by
 go_enter func429,ntmps429;go_wp2;go_ret;exact⟨rfl,rfl⟩
theorem Qtt(x y:ByteArray)(a b:Int)(h:Ranks x y a b)(w:World):Calls prog 371 #[.string x,.string y] w λe w'=>e=.returned (.int .i64 (Ky a b))/\w=w':=by
 obtain⟨g,i⟩:=h;have j:(a<b/\a≠b/\Ky a b=-1)\/(¬a<b/\a=b/\Ky a b=0)\/(¬a<b/\a≠b/\Ky a b=1):=by
  unfold Ky;rcases Int.lt_trichotomy a b with h|h|h
  ·exact .inl ⟨h,by omega,if_pos h⟩
  ·exact .inr (.inl ⟨by omega,h,by rw[if_neg (by omega),if_neg (by omega)]⟩)
  ·exact .inr (.inr ⟨by omega,by omega,by rw[if_neg (by omega),if_pos h]⟩)
 rcases j with⟨c,d,f⟩|⟨c,d,f⟩|⟨c,d,f⟩;all_goals
  simp only[c,d,decide_true,decide_false]at g i;rw[f];clear c d f;go_enter func371,ntmps371;go_wp2_with fail;refine(Qq6 x w).zS ?_;go_wp2_with fail;refine(Qq6 y w).zS ?_;go_wp2;go_ret;exact⟨rfl,rfl⟩
theorem Qmy(x:Sm)(t:ByteArray)(g f:Int)(h:Ranks x.x t g f)(d b:Nat)(W:World)(i:W.cell? ⟨d,0,none⟩=some (.pointer (some ⟨b,0,none⟩)))(j:W.cell? ⟨b,0,none⟩=some (.func (.func 371) #[] #[])):
 Calls prog 456 (#[.agg #[.string x.x,.int .i64 x.n],.string t]++#[.pointer (some ⟨d,0,none⟩)]) W λe a=>e=.returned (.int .i64 (Ky g f))/\Bel W a:=by
 have m:=Zh (λw=>Qtt x.x t g f h w);obtain⟨o,c⟩:=Zx (W.alloc (.cells #[.string x.x,.int .i64 x.n] 444));have a:=Zb c;have k:=Zn c;have p:=Up.cell (a.cell i);have q:=Up.cell (a.cell j);have r:=Up.cell (cell_of_block k 0 _ rfl);obtain⟨n,l⟩:=Zh2 c a;clear h i j c a k;show Calls prog 456 #[.agg #[.string x.x,.int .i64 x.n],.string t,.pointer (some ⟨d,0,none⟩)] W _;go_enter func456,ntmps456;go_upto_region 1 with (fail);rw[<-n.o];refine Qs (by kernel_rfl) (by kernel_rfl) ?_;repeat(go_big_quiet_step(first|(go_at_call 371;exact Calls.up_same (m.o _))))
 refine Xg λa a=>?_
 have c:=Zh a;clear a;go_wp2;go_ret;exact⟨rfl,l.trans c⟩
theorem Qph:∀a w,(callFunc 456 a).run prog w=.ok (.enter 456 a) w:=enters_of func456 (by kernel_rfl) rfl
theorem Qzn(A:Nat->Prop)(w:World)(ao:Option Addr)(cap:Nat)(l:List Sm)(h:Rd L8 A w ao cap l)(j:l.length<=1000000)(a:ByteArray->Int)(c:ByteArray)(k:Jv (λx=>a x.x) l)(m:∀x∈l,Ranks x.x c (a x.x) (a c))(d b:Nat)(g:w.cell? ⟨d,0,none⟩=some (.pointer (some ⟨b,0,none⟩)))(i:w.cell? ⟨b,0,none⟩=some (.func (.func 371) #[] #[])):
 Calls prog 455 #[.slice ao l.length cap,.string c,.func (.func 456) #[] #[.pointer (some ⟨d,0,none⟩)]] w λe w'=>e=.returned (.tuple #[.int .i64 (Z5 (λx=>a x.x) (a c) l:Nat),.bool (Qt (λx=>a x.x) (a c) l)])/\Bel w w':=
 Qpm (r:=L8) (ρ:=Qpn 455 435 444 9 463) rfl underlying435 underlying340 ⟨Tryz.f455.name,by decide,func455.trans (congrArg some (by kernel_rfl))⟩ ⟨Tryz.sizeOf444,Tryz.isAgg444,by decide⟩ (λx=>a x.x) (.string c) (a c) 456 _ Qph A w ao cap l h j k (by rintro x W _ n f rfl;exact Qmy x c _ _ (m x n) d b W (f.cell g) (f.cell i))
end Go.Proofs.YtkdpmdfcdgphlaaGreat
namespace Go.Mem
open Go.RowKit
theorem Ql9{w:World}{g o:Nat}{a:Array Value}{T:TypeId}{h:Nat×Nat}{b:Value}(k:w.heap[g]?=some (.cells a T h))(l:a[o]?=some b):w.setCell ⟨g,o,none⟩ b=w:=by
 have e:a.setIfInBounds o b=a:=by
  apply Array.ext_getElem?;intro i;rw[Array.getElem?_setIfInBounds];split
  ·next hi=>
   subst hi;split
   ·exact l.symm
   ·next hn=>rw[Array.getElem?_eq_none (by omega)]
  ·rfl
 have d:(w.heap.modify g fun
  | .cells c f j=>.cells (if (none:Option Nat).isSome then c else c.setIfInBounds o b) f j
  | o=>o)=w.heap:=by
  apply Array.ext_getElem?;intro i;rw[Array.getElem?_modify];split
  ·next hi=>
   subst hi;rw[k];simp[e]
  ·rfl
 unfold World.setCell;cases w;simp only[World.mk.injEq,and_true];simp only[]at d;first|exact d|(simpa using d)
theorem Qb1{w:World}{g o:Nat}{b:Array Value}{T:TypeId}{c:Nat×Nat}{a v:Value}(h:w.heap[g]?=some (.cells b T c))(d:w.cell? ⟨g,o,none⟩=some a):w.setCells g o [a,v]=w.setCell ⟨g,o+1,none⟩ v:=by
 show((w.setCell ⟨g,o,none⟩ a).setCell ⟨g,o+1,none⟩ v)=_;rw[Ql9 h (by simpa[World.cell?,h] using d)]
theorem Ch.map{α b:Type}{R:α->List Value->Prop}{a:b->List Value->Prop}{size:Nat}{l:List α}{xs:List Value}(f:α->b)(h:Ch R size l xs)(e:∀x vs,R x vs->a (f x) vs):Ch a size (l.map f) xs:=by
 induction h with
 | nil=>exact .nil
 | cons c d _ ih=>exact .cons (e _ _ c) d ih
theorem Ch.unmap{α b:Type}{a:b->List Value->Prop}{size:Nat}{f:α->b}:∀{l:List α} {xs:List Value},Ch a size (l.map f) xs->Ch (λx=>a (f x)) size l xs
 | [],xs,h=>by
  simp only[List.map_nil]at h;cases h;exact .nil
 | x::l,xs,h=>by
  simp only[List.map_cons]at h;cases h with
  | cons c d e=>exact .cons c d (Ch.unmap e)
def Rp.tag{α:Type}(r:Rp α)(F:Nat->Prop):Rp (α×Bool) where
 size:=r.size
 R:=λA w p vs=>r.R (λk=>A k\/(p.2=true/\F k)) w p.1 vs
 len:=λh=>r.len h
 one:=λh=>r.one h
 keep:=λh hk hs hB=>r.keep h hk (λk h=>.inl (hs k h)) λk hk h=>h.imp (hB k hk) id
section
variable {α : Type} {r : Rp α} {A F : Nat → Prop} {w0 w : World} {e : TypeId} {ao : Option Addr} {cap : Nat} {l : List α}
theorem Own.tag0(h:Own r A w0 w e ao cap l)(F:Nat->Prop):Own (r.tag F) A w0 w e ao cap (l.map λx=>(x,false)):=by
 obtain⟨xs,a,b,c⟩:=h;have d:Ch ((r.tag F).R (λk=>A k\/Qc ao cap k) w) (r.tag F).size (l.map λx=>(x,false)) xs:=a.map (λx=>(x,false)) λx vs h=>r.mono h λk _ h=>h.elim id λh=>by cases h.1
 exact⟨xs,d,by rw[List.length_map];exact b,c⟩
theorem Own.tag1(h:Own (r.tag F) A w0 w e ao cap (l.map λx=>(x,true))):Own r (λk=>A k\/F k) w0 w e ao cap l:=by
 obtain⟨xs,b,a,c⟩:=h;refine⟨xs,(Ch.unmap b).mono λx vs _ h=>r.mono h λk _ h=>?_,by rw[List.length_map]at a;exact a,c⟩;rcases h with (h|h)|h
 ·exact .inl (.inl h)
 ·exact .inr ⟨rfl,h⟩
 ·exact .inl (.inr h)
def Vh(i:Nat)(l:List α):List (α×Bool):=(l.take i).map (λx=>(x,true))++(l.drop i).map λx=>(x,false)
theorem Qb2(l:List α):Vh 0 l=l.map λx=>(x,false):=by simp[Vh]
theorem Qvs{l:List α}{i:Nat}(h:l.length<=i):Vh i l=l.map λx=>(x,true):=by simp[Vh,List.take_of_length_le h,List.drop_of_length_le h]
theorem Qma(i:Nat)(l:List α):(Vh i l).length=l.length:=by simp[Vh];omega
theorem Qoz{i:Nat}{l:List α}{x:α}(h:l[i]?=some x):(Vh i l)[i]?=some (x,false):=by
 obtain⟨a,rfl⟩:=List.getElem?_eq_some_iff.1 h;rw[Vh,List.getElem?_append_right (by simp;omega)];simp[Nat.min_eq_left (Nat.le_of_lt a),a]
theorem Qmb{i:Nat}{l:List α}{x:α}(h:l[i]?=some x):(Vh i l).set i (x,true)=Vh (i+1) l:=by
 obtain⟨a,rfl⟩:=List.getElem?_eq_some_iff.1 h;have b:=List.drop_eq_getElem_cons a;have c:=(List.take_append_getElem a).symm;rw[Vh,Vh,b,c,List.map_cons,List.map_append,List.set_append_right _ _ (by simp;omega)];simp[Nat.min_eq_left (Nat.le_of_lt a)]
end
section
open Go.Po
variable {A F : Nat → Prop} {w0 w : World} {e : TypeId} {ao : Option Addr} {cap : Nat}
theorem Qo0{l:List Branch}{i:Nat}{x:Branch}(h:Own (Zm.tag F) A w0 w e ao cap (Vh i l))(n:l[i]?=some x):
 ∃g off a b c,ao=some ⟨g,off,none⟩/\Qc ao cap g/\w.heap[g]?=some (.cells c e (0,0))/\w.cell? ⟨g,off+i*2,none⟩=some (.int .i64 x.tid)/\w.cell? ⟨g,off+i*2+1,none⟩=some (.slice a x.puts.length b)/\Rd Qw (λk=>A k\/Qc ao cap k) w a b x.puts:=by
 obtain⟨g,off,vs,j,o,f,⟨c,m⟩,d⟩:=h.at (Qoz n);obtain⟨a,b,rfl,p⟩:=f;exact⟨g,off,a,b,c,j,o,m,d 0 (show 0<2 by decide),d 1 (show 1<2 by decide),p.mono λk _ h=>.inl h⟩
theorem Qvt{l:List Branch}{i g off:Nat}{x:Branch}(h:Own (Zm.tag F) A w0 w e ao cap (Vh i l))(a:l[i]?=some x)(b:ao=some ⟨g,off,none⟩){po:Option Addr}{pc:Nat}(m:Rd Qw (λk=>(A k\/Qc ao cap k)\/F k) w po pc x.puts):
 Own (Zm.tag F) A w0 (w.setCell ⟨g,off+i*2+1,none⟩ (.slice po x.puts.length pc)) e ao cap (Vh (i+1) l)/\Kept (Qc ao cap) w (w.setCell ⟨g,off+i*2+1,none⟩ (.slice po x.puts.length pc)):=by
 obtain⟨q,s,n,o,p,c,r,f,d,_,_⟩:=Qo0 h a;rw[b]at c;cases c;have j:i<(Vh i l).length:=by rw[Qma];exact(List.getElem?_eq_some_iff.1 a).1
 have:=h.set (x:=(x,true)) (vs:=[.int .i64 x.tid,.slice po x.puts.length pc]) b j ⟨po,pc,rfl,m.mono λk _ h=>h.imp id λh=>h.2⟩;rw[Qmb a,show(Zm.tag F).size=2 from rfl,Qb1 f d]at this;exact this
theorem Qg7{l:List Qv}{i:Nat}{x:Qv}(h:Own (Z4.tag F) A w0 w e ao cap (Vh i l))(n:l[i]?=some x):
 ∃g off a b c,ao=some ⟨g,off,none⟩/\Qc ao cap g/\w.heap[g]?=some (.cells c e (0,0))/\w.cell? ⟨g,off+i*2,none⟩=some (.int .i64 x.tid)/\w.cell? ⟨g,off+i*2+1,none⟩=some (.slice a x.parts.length b)/\Rd Qh (λk=>A k\/Qc ao cap k) w a b x.parts:=by
 obtain⟨g,off,vs,j,o,f,⟨c,m⟩,d⟩:=h.at (Qoz n);obtain⟨a,b,rfl,p⟩:=f;exact⟨g,off,a,b,c,j,o,m,d 0 (show 0<2 by decide),d 1 (show 1<2 by decide),p.mono λk _ h=>.inl h⟩
theorem Qmc{l:List Qv}{i g off:Nat}{x:Qv}(h:Own (Z4.tag F) A w0 w e ao cap (Vh i l))(a:l[i]?=some x)(b:ao=some ⟨g,off,none⟩){po:Option Addr}{pc:Nat}(m:Rd Qh (λk=>(A k\/Qc ao cap k)\/F k) w po pc x.parts):
 Own (Z4.tag F) A w0 (w.setCell ⟨g,off+i*2+1,none⟩ (.slice po x.parts.length pc)) e ao cap (Vh (i+1) l)/\Kept (Qc ao cap) w (w.setCell ⟨g,off+i*2+1,none⟩ (.slice po x.parts.length pc)):=by
 obtain⟨q,s,n,o,p,c,r,f,d,_,_⟩:=Qg7 h a;rw[b]at c;cases c;have j:i<(Vh i l).length:=by rw[Qma];exact(List.getElem?_eq_some_iff.1 a).1
 have:=h.set (x:=(x,true)) (vs:=[.int .i64 x.tid,.slice po x.parts.length pc]) b j ⟨po,pc,rfl,m.mono λk _ h=>h.imp id λh=>h.2⟩;rw[Qmb a,show(Z4.tag F).size=2 from rfl,Qb1 f d]at this;exact this
end
end Go.Mem
namespace Go.Po
open Go.Mem Go.Proofs.YtkdpmdfcdgphlaaGreat
def b1F:List UInt8:=(((([]++Qd 258)++Zc (-2))++X4 ⟨#[97,98]⟩)++[if true then 1 else 0])
def b1G:List UInt8:=Km 2 b1F false
def b1N:List UInt8:=[49,50,51,52,53,54,55,56,57]
theorem Qz5:b1F.length=15/\b1F[0]?=some 2/\b1F[1]?=some 1/\rdV 2 b1F false=258/\K3 2 b1F false=false:=by decide +kernel
theorem Qz6:Qbo b1G false=-2/\Km 8 b1G false=X4 ⟨#[97,98]⟩++[1]/\K3 8 b1G false=false:=by decide +kernel
theorem Qz7:rdV 1 [1] false=1/\Km 1 [1] false=([]:List UInt8)/\K3 1 [1] false=false/\rdV 2 [] false=0/\K3 2 [] false=true:=by decide +kernel
theorem Qyg:crc b1N=3808858755:=by decide +kernel
end Go.Po
namespace Go.Proofs.YtkdpmdfcdgphlaaGreat
open Tryz
open Go.RowKit Go.Mem Go.Po
theorem Qo7(w:World):Calls prog 433 #[] w λe w'=>e=.returned (.bool true)/\Bel w w':=by
 obtain⟨am,a⟩:=Zx (w.alloc (.cells #[.slice none 0 0] 295));have h:=Zb a;have i:=a▸Zz.new w _;obtain⟨V,v,ad,l,s,d⟩:=Zh6 a h i Qz5 Qz6 Qz7;clear a h i;go_enter func433,ntmps433;go_wp2_with fail;rw[<-V.o];refine(Y5 258 _ am w.heap.size _ ad.o (by omega) (by simp)).mono ?_;rintro e aq ⟨rfl,ai,m,k2,i⟩;obtain⟨A,y,ae⟩:=Zh3 (show ∀k,ai k->w.heap.size<=k fromλk a=>(i k a).elim (λh=>Nat.le_of_eq h.symm) λh=>Nat.le_trans v.size h) (v.of_kept k2 λk a=>Nat.le_of_eq a.symm) m;clear m k2 i;go_wp2_with fail;refine(Vd (-2) _ aq w.heap.size _ ae.o (by simp[Qd,K9])).mono ?_;rintro e ar ⟨rfl,aj,m,k3,i⟩;obtain⟨B,z,af⟩:=Zh3 (show ∀k,aj k->w.heap.size<=k fromλk a=>(i k a).elim (A.o k) λh=>Nat.le_trans y.size h) (y.of_kept k3 A.o) m;clear m k3 i;go_wp2_with fail;refine(Fv ⟨#[97,98]⟩ _ ar w.heap.size _ af.o (by simp[ByteArray.size]) (by simp[Qd,Zc,K9])).mono ?_;rintro e au ⟨rfl,ak,o,i,m⟩;obtain⟨ac,L,ah⟩:=Zh3 (show ∀k,ak k->w.heap.size<=k fromλk a=>(m k a).elim (B.o k) λh=>Nat.le_trans z.size h) (z.of_kept i B.o) o;clear o i m;go_wp2_with fail;refine(Qhd true _ au w.heap.size _ ah.o (by simp[Qd,Zc,X4,K9,ByteArray.size])).mono ?_;rintro e H ⟨rfl,al,p,o,r⟩;have M:=Zh (L.of_kept o ac);obtain⟨ao,cap,m,q⟩:=(show Zz al H w.heap.size b1F from p).read;have i:=q (λ_=>False) λ_ _ h=>h
 have h:=V7 (λ_=>False) H ao cap b1F i;rw[l.1]at m h;obtain⟨S,D,U⟩:=Zh3 m i h;clear p o r q i h;go_wp2_with fail;refine U.mono ?_;rintro e av ⟨b,rfl,p,q,o⟩;obtain⟨Y,N,h⟩:=Zh3 q o p;clear q o p m;go_wp2_with fail;refine(Yk _ av b _ _ Y).mono ?_;rw[l.2.2.2.1,l.2.2.2.2];rintro e I ⟨rfl,m,o⟩;obtain⟨Z,O⟩:=Zh2 (show Zj (λk=>False\/k=b) I b b1G false from m) (N.of_kept o λk a=>by have:=h.o;omega);clear m o;go_wp2_with fail;refine(Tn _ I b _ _ Z).mono ?_;rw[s.1,s.2.1,s.2.2];rintro e w8 ⟨rfl,m,o⟩;obtain⟨aa,Q⟩:=Zh2 m (O.of_kept o λk a=>by have:=h.o;omega);clear m o;go_wp2_with fail;refine(Dg ⟨#[97,98]⟩ (by simp[ByteArray.size]) [1] _ w8 b aa.o).mono ?_;rintro e aw ⟨rfl,m,o⟩;obtain⟨ab,R⟩:=Zh2 m (Q.of_kept o λk a=>by have:=h.o;omega);clear m o;go_wp2_with fail;refine(Qc7 _ aw b _ _ ab.o (by rw[d.1];exact Nat.le_refl _)).mono ?_;rw[d.1,d.2.1,d.2.2.1];rintro e q ⟨rfl,p,r⟩;obtain⟨o,m⟩:=Zh2 p (R.of_kept r λk a=>by have:=h.o;omega);clear p r;have r:=m.cell S;have ax:=Zd r;obtain⟨g,off,G,az,t⟩:=Wm (D.bel m.o) l.2.1;obtain⟨an,ap,p,a8,E⟩:=Wm (D.bel m.o) l.2.2.1;obtain⟨rfl,rfl⟩:an=g/\ap=off:=by rw[G]at p;simpa[eq_comm] using p
 rw[show(((2:UInt8).toNat:Nat):Int)=2 from rfl,Nat.add_zero]at t;rw[show(((1:UInt8).toNat:Nat):Int)=1 from rfl]at E;subst G;clear p;go_wp2_with fail;refine(Df _ q b _ _ o).zS ?_;clear r t E;go_wp2_with fail;refine(Qp3 _ q b _ o).zS ?_;go_wp2_with fail;refine(Y7 _ q b _ _ o).zS ?_;go_wp2_with fail;refine(Yk _ q b _ _ o).mono ?_;rw[d.2.2.2.1,d.2.2.2.2];rintro e r ⟨rfl,p,t⟩;obtain⟨X,J⟩:=Zh2 p (m.of_kept t λk a=>by have:=h.o;omega);clear p t;go_wp2_with fail;refine(Y7 _ r b _ _ X).zS ?_;obtain⟨E,p⟩:=Zx (r.alloc (.cells #[.int .u8 49,.int .u8 50,.int .u8 51,.int .u8 52,.int .u8 53,.int .u8 54,.int .u8 55,.int .u8 56,.int .u8 57] 5 (9,10)));have F:=Zb p;have t:=p▸heap_alloc_new _ _;have i:Rd Ql (λ_=>False) E (some ⟨r.heap.size,0,none⟩) 9 b1N:=⟨[.int .u8 49,.int .u8 50,.int .u8 51,.int .u8 52,.int .u8 53,.int .u8 54,.int .u8 55,.int .u8 56,.int .u8 57],Ch.flat (f:=λx:UInt8=>[Value.int .u8 x.toNat]) (size:=1) (λ_=>rfl) b1N,rfl,by simp[b1N],by simp[maxLen],λ_=>⟨r.heap.size,0,_,_,_,rfl,Qb t,λa=>a,t,λj a a=>by simpa using a⟩⟩;have a:=Qf4 (λ_=>False) E _ 9 b1N i;rw[Qyg,show b1N.length=9 from rfl]at a;have ay:=fun (w:World) (C:Array Value) (n c:Nat)=>Lib.run_convert_bytes_const (P:=prog) w 179 5 C n c underlying179 underlying5
 obtain⟨T,W,K⟩:=Zh3 a p (J.trans F);clear p F t i a;go_wp2_with fail;rw[<-W.o];refine T.zS ?_;go_wp2;go_ret;exact⟨rfl,M.trans K⟩
end Go.Proofs.YtkdpmdfcdgphlaaGreat

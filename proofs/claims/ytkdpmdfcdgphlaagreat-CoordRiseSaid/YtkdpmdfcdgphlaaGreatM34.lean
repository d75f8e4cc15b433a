/- Part of this claim's proof. Conditions: as its theorems say. -/
import Derived.WideKeyEntry
import Derived.Test.YtkdpmdfcdgphlaaGreatM33
set_option linter.all false
set_option maxHeartbeats 8000000
set_option maxRecDepth 100000
namespace Go.Po
open Go.Mem Go.Proofs.YtkdpmdfcdgphlaaGreat
def Qfz(br:Int)(pre:Option Kr)(x:Kr):Bool:=!Qz x.to||x.to==br||decide (x.n<1)||decide (x.n>10)||(pre.map λy=>decide (y.to>=x.to)).getD false
def Gp(br:Int):Option Kr->List Kr->Bool
 | _,[]=>true
 | pre,x::r=>!Qfz br pre x&&Gp br (some x) r
def Bj(br:Int)(l:List Kr):Bool:=Gp br none l&&decide (l.length<8)
def Gr(l:List Kr)(i:Nat):Option Kr:=if i=0 then none else l[i-1]?
theorem Qqk(a:Int){l:List Kr}:∀{i:Nat} {x:Kr},l[i]?=some x->Gp a (Gr l i) (l.drop i)=(!Qfz a (Gr l i) x&&Gp a (Gr l (i+1)) (l.drop (i+1))):=by
 intro i x h;have b:l.drop i=x::l.drop (i+1):=by
  obtain⟨c,rfl⟩:=List.getElem?_eq_some_iff.1 h;exact List.drop_eq_getElem_cons c
 have c:Gr l (i+1)=some x:=by rw[Gr,if_neg (Nat.succ_ne_zero i),Nat.add_sub_cancel,h]
 rw[b,Gp,c]
end Go.Po
namespace Go.Proofs.YtkdpmdfcdgphlaaGreat
open Tryz
open Go.RowKit Go.Mem Go.Po
theorem Qql{B:Nat->Prop}{w:World}{I:Nat}(k:Int)(f:w.cell? ⟨I,0,none⟩=some (.int .i64 k))(ao:Option Addr)(cap:Nat)(l:List Kr)(h:Rd Fx B w ao cap l)(U:l.length<=100000):
 Calls prog 83 #[.pointer (some ⟨I,0,none⟩),.slice ao l.length cap] w λe w'=>e=.returned (.bool (Bj k l))/\Bel w w':=by
 obtain⟨H,O⟩:=Zh2 h f;have X:=Zd f;obtain⟨m,d⟩:=Zx l.length;obtain⟨R,c⟩:=Zx (Bj k l);rw[<-c];rw[Bj,<-d]at c;rw[<-d]at U ⊢;obtain⟨z,F⟩:=Zh2 d c;clear h f d c;go_enter func83,ntmps83;go_wp2;go_loopw[9] (λa wr=>∃(i:Nat),i<=m/\a=.int .i64 i/\Hid (Gp k none l=Gp k (Gr l i) (l.drop i))/\Hid (Bel w wr)) (λa _=>m-(intOf a).toNat)
 case atStart=>exact⟨0,Nat.zero_le _,rfl,Zh rfl,Zh (Bel.refl _)⟩
 case round=>
  obtain⟨i,ad,rfl,L,p⟩:=hrel;by_cases aa:i<m
  ·obtain⟨x,n⟩:∃x,l[i]?=some x:=⟨l[i]'(by have:=z.o;omega),by simp⟩
   obtain⟨g,off,rfl,Y,c0,c1⟩:=Qd0 (H.bel p.o) n;obtain⟨Q,d⟩:=Zx (wr.alloc (.cells #[.int .i64 x.to,.int .i64 x.n] 73));have o:=Zb d;have q:=Zn d;obtain⟨h,c⟩:=Zx (Qfz k (Gr l i) x);have f:=Qqk k n;rw[<-c]at f;obtain⟨G,P,v,A,N⟩:=Zh5 (L.trans f) d o q c;have ab:(0:Int)<=(i:Int):=by omega
   have ac:(i:Int)<(m:Int):=by omega
   have aj:IntKind.i64.wrap ((i:Int)+1)=((i+1:Nat):Int):=by rw[IntKind.wrap_i64];omega
   clear n f d o q c;go_upto_region 4 with (fail);rw[<-P.o];go_cut[51] (λb d=>b=.bool h/\Hid (Bel Q d))
   case first=>
    have am:=Qb A;have ak:=Up.cell (cell_of_block A 0 _ rfl);have al:=Up.cell (cell_of_block A 1 _ rfl);have an:=Up.cell (v.cell (p.cell O));have n:∀j:Nat,j+1=i->IntKind.i64.wrap ((i:Int)-1)=(j:Int):=λj r=>by rw[IntKind.wrap_i64];omega
    obtain⟨W,f⟩:=Zx (Qz x.to);have d:=X7 x.to;rw[<-f]at d;have o:=Zh d;have c:=N.o;rw[Qfz,<-f]at c;clear c0 c1 d f;rcases W with _|_
    ·obtain rfl:h=true:=by rw[c];rfl
     clear c n;refine Qs (by kernel_rfl) (by kernel_rfl) ?_;repeat(go_big_quiet_step(first|(go_at_call 95;exact Calls.up_same (o.o _))))
     refine Xg λq d=>?_
     have f:=Zh d;clear d;go_wp2;go_meet;exact⟨rfl,f⟩
    rcases s:(x.to==k)with _|_
    case true=>
     obtain rfl:h=true:=by rw[c,s];rfl
     clear c n;refine Qs (by kernel_rfl) (by kernel_rfl) ?_;repeat(go_big_quiet_step(first|(go_at_call 95;exact Calls.up_same (o.o _))))
     refine Xg λq d=>?_
     have f:=Zh d;clear d;go_wp2;go_meet;exact⟨rfl,f⟩
    rcases C:decide (x.n<1)with _|_
    case true=>
     obtain rfl:h=true:=by rw[c,s,C];rfl
     clear c n;refine Qs (by kernel_rfl) (by kernel_rfl) ?_;repeat(go_big_quiet_step(first|(go_at_call 95;exact Calls.up_same (o.o _))))
     refine Xg λq d=>?_
     have f:=Zh d;clear d;go_wp2;go_meet;exact⟨rfl,f⟩
    rcases J:decide (x.n>10)with _|_
    case true=>
     obtain rfl:h=true:=by rw[c,s,C,J];rfl
     clear c n;refine Qs (by kernel_rfl) (by kernel_rfl) ?_;repeat(go_big_quiet_step(first|(go_at_call 95;exact Calls.up_same (o.o _))))
     refine Xg λq d=>?_
     have f:=Zh d;clear d;go_wp2;go_meet;exact⟨rfl,f⟩
    rw[s,C,J]at c;rcases Nat.eq_zero_or_pos i with hi0|ae
    ·obtain rfl:h=false:=by rw[c,Gr,if_pos hi0];rfl
     have S:decide ((i:Int)>0)=false:=decide_eq_false (by omega);have t:(0<i)=False:=eq_false (by omega);clear c n hi0;refine Qs (by kernel_rfl) (by kernel_rfl) ?_;repeat(go_big_quiet_step(first|(go_at_call 95;exact Calls.up_same (o.o _))))
     refine Xg λq d=>?_
     have f:=Zh d;clear d;go_wp2;go_meet;exact⟨rfl,f⟩
    obtain⟨j,r⟩:∃j,j+1=i:=⟨i-1,by omega⟩;obtain⟨y,t⟩:∃y,l[j]?=some y:=⟨l[j]'(by have:=z.o;omega),by simp⟩;obtain⟨T,V,D,Z,M,-⟩:=Qd0 (H.bel (p.trans v.o)) t;obtain⟨rfl,rfl⟩:T=g/\V=off:=by simpa[eq_comm] using D
    have M:=Up.cell M;have E:Gr l i=some y:=by rw[Gr,if_neg (by omega),<-r,Nat.add_sub_cancel,t]
    have S:decide ((i:Int)>0)=true:=decide_eq_true (by omega);have ai:=n j r;have af:(0:Int)<=(j:Int):=by omega
    have ah:(j:Int)<(m:Int):=by omega
    rw[E]at c;dsimp only[Option.map_some,Option.getD_some]at c;rcases K:decide (y.to>=x.to)with _|_
    ·obtain rfl:h=false:=by rw[c,K];rfl
     clear c n r t E D;refine Qs (by kernel_rfl) (by kernel_rfl) ?_;repeat(go_big_quiet_step(first|(go_at_call 95;exact Calls.up_same (o.o _))))
     refine Xg λq d=>?_
     have f:=Zh d;clear d;go_wp2;go_meet;exact⟨rfl,f⟩
    ·obtain rfl:h=true:=by rw[c,K];rfl
     clear c n r t E D;refine Qs (by kernel_rfl) (by kernel_rfl) ?_;repeat(go_big_quiet_step(first|(go_at_call 95;exact Calls.up_same (o.o _))))
     refine Xg λq d=>?_
     have f:=Zh d;clear d;go_wp2;go_meet;exact⟨rfl,f⟩
   case rest=>
    obtain⟨rfl,d⟩:=hcut;have c:=Zh (p.trans (v.trans d));clear d;rcases h with _|_
    ·go_wp2
     go_roundw
     case rel=>exact⟨i+1,by omega,by go_num,Zh (by rw[G.o];rfl),c⟩
     case measure=>simp[intOf];omega
    ·go_wp2
     go_ret;exact⟨by rw[F.o,G.o];rfl,c.o⟩
  ·obtain rfl:i=m:=by omega
   have f:=L.o;rw[List.drop_of_length_le (by rw[<-z.o];exact Nat.le_refl _),Gp]at f;have d:=F.o;rw[f,Bool.true_and]at d;rcases c:decide (i<8)with _|_
   ·have h:=Zh (d.trans c)
    have n:decide ((i:Int)<8)=false:=by have:=of_decide_eq_false c;exact decide_eq_false (by omega)
    clear f d c;go_wp2;go_ret;exact⟨by rw[h.o];rfl,p.o⟩
   ·have h:=Zh (d.trans c)
    have n:decide ((i:Int)<8)=true:=by have:=of_decide_eq_true c;exact decide_eq_true (by omega)
    clear f d c;go_wp2;go_ret;exact⟨by rw[h.o];rfl,p.o⟩
end Go.Proofs.YtkdpmdfcdgphlaaGreat
namespace Go.Mem
open Go.RowKit
section
variable {P : Program} {ops : Array Oper} {md : Region.Mode} {S : Nat → Prop}
structure UpK(S:Nat->Prop)(w:World) where
 wd:World
 kept:Kept S w wd
instance {S : Nat → Prop} {w : World} : Nonempty (UpK S w) := ⟨⟨w, Kept.refl S w⟩⟩
theorem UpK.cell{w:World}{p:Addr}{v:Value}(a:¬S p.block)(h:w.cell? p=some v)(g:UpK S w):g.wd.cell? p=some v:=g.kept.cell a h
def Fg(S:Nat->Prop)(pu:Bool)(w w':World):Prop:=pu=true\/Kept S w w'
theorem Fg.trans{pu:Bool}{a b c:World}(h:Fg S pu a b)(k:Fg S pu b c):Fg S pu a c:=h.elim .inl λh=>k.imp id λk=>h.trans k
theorem Fg.refl(pu:Bool)(a:World):Fg S pu a a:=.inr (Kept.refl S a)
def Yv(P:Program)(S:Nat->Prop)(ops:Array Oper)(pu:Bool)(o:Oper)(v:Value)(a:Act)(w:World):Prop:=
 (Region.wanted o (yielded ops a.tmps)=true/\∀w',Fg S pu w w'->(execOp a.eval o).run P w'=.ok (.value v) w'\/((execOp a.eval o).run P w'=.ok .skip w'/\v=undef)) ∨
 (Region.wanted o (yielded ops a.tmps)=false/\v=undef)
theorem Yv.of_same{pu:Bool}{o:Oper}{v:Value}{a b:Act}{w w':World}(g:Yv P S ops pu o v a w)(e:Fg S pu w w')(d:execOp b.eval o=execOp a.eval o)
 (f:Region.wanted o (yielded ops b.tmps)=Region.wanted o (yielded ops a.tmps)):Yv P S ops pu o v b w':=by
 unfold Yv at *;rw[d,f];exact g.imp (λh=>⟨h.1,λi c=>h.2 i (e.trans c)⟩) id
theorem Yv.wpOp{pu:Bool}{i:Nat}{o:Oper}{v:Value}{a:Act}{w:World}{Q:Exit->Act->World->Prop}(d:ops[i]?=some o)(f:Yv P S ops pu o v a w)
 {K:Act->World->Prop} (h:K (a.put o.dst v) w):wpOp P ops Q i K a w:=by
 unfold Go.wpOp;simp only[d];rcases f with⟨b,e⟩|⟨b,rfl⟩
 ·rcases e w (Fg.refl pu w)with c|⟨c,he⟩
  ·simp only[b,if_true,Oper.wp,c,Oper.upon];exact .inl h
  ·subst he
   simp only[b,if_true,Oper.wp,c,Oper.upon];exact .inl h
 ·simp only[b,Bool.false_eq_true,if_false];exact h
theorem Qsd{pu:Bool}{Q:Exit->Act->World->Prop}{j:Nat}{i k:Oper}{v:Value}(C:ops[j]?=some k)(B:i.apart ops k=true)
 (y:∀g b,i.op≠.select g b) (z:∀g b,k.op≠.select g b)
 (s:∀c a w,Q (.panic c) (a.put i.dst v) w->Q (.panic c) a w) {R:World->Prop} {K:Act->World->Prop} {a:Act} {w:World} (l:∀w',R w'->Fg S pu w w')
 (A:Yv P S ops pu i v a w) (h:wpOp P ops Q j (λg w'=>R w'/\K g w') (a.put i.dst v) w) (t:R w):
 wpOp P ops Q j (λg w'=>R w'/\Yv P S ops pu i v g w'/\K (g.put i.dst v) w') a w:=by
 obtain⟨q,o,p⟩:=Oper.apart_spec B;have keep:∀(w':World),R w'->∀g,Yv P S ops pu i v (a.put k.dst g) w':=λw' m g=>
  A.of_same (l w' m) (execOp_put i y a k.dst g p) (wanted_put i a k.dst g p)
 have D:∀(w':World),R w'->∀d g,Yv P S ops pu i v ({ a with defers:=d::a.defers }.put k.dst g) w':=λw' m d g=>
  Yv.of_same (a:={ a with defers:=d::a.defers }) (A.of_same (Fg.refl pu w) rfl rfl) (l w' m) (execOp_put i y _ k.dst g p) (wanted_put i _ k.dst g p)
 unfold wpOp at *;simp only[C]at *;rw[wanted_put k a i.dst v q]at h;split
 ·rename_i m
  simp only[m,if_true]at h;rcases h with h|⟨hasks,hlets⟩
  case inr=>exact .inr ⟨by unfold Oper.asks at *;rw[execOp_put k z a i.dst v q]at hasks;exact hasks,hlets⟩
  refine .inl ?_;unfold Oper.wp at *;rw[execOp_put k z a i.dst v q]at h;generalize (execOp a.eval k).run P w=r at *;cases r with
  | ok n w'=>
   cases n<;>simp only[Oper.upon]at h ⊢
   case value g=>exact⟨h.1,keep _ h.1 g,by rw[<-Act.put_comm a v g o];exact h.2⟩
   case skip=>exact⟨h.1,keep _ h.1 _,by rw[<-Act.put_comm a v undef o];exact h.2⟩
   case defer d=>
    refine⟨h.1,D _ h.1 d _,?_⟩;rw[<-Act.put_comm _ v undef o,<-Act.put_defers];exact h.2
   case enter f args=>
    refine Calls.mono h λe y l=>?_
    cases e with
    | returned g=>exact⟨l.1,keep _ l.1 g,by rw[<-Act.put_comm a v g o];exact l.2⟩
    | panicked c=>exact s _ _ _ l
    | outgrown=>exact l
   case row row args=>exact Rows.mono h λg y l=>⟨l.1,keep _ l.1 g,by rw[<-Act.put_comm a v g o];exact l.2⟩
  | halt x w'=>
   cases x<;>simp only[Oper.upon]at h ⊢
   case panic g=>exact s _ _ _ h
 ·rename_i m
  simp only[m]at h;exact⟨t,keep _ t _,by rw[<-Act.put_comm a v undef o];exact h.2⟩
def Fh(P:Program)(S:Nat->Prop)(md:Region.Mode)(ops:Array Oper)(fin:Nat->Bool)(Q:Exit->Act->World->Prop):Nat->Array Bool->Act->World->Prop
 | 0,listed,a,w=>Region.ready md ops listed=[]/\Q .normal a w
 | fuel+1,listed,a,w=>
  (Region.ready md ops listed=[]->Q .normal a w) ∧
  ∀i∈Region.ready md ops listed,wpOp P ops Q i (λa' w'=>(fin i=true\/Kept S w w')/\Fh P S md ops fin Q fuel (listed.setIfInBounds i true) a' w') a w
theorem Qfr{fin:Nat->Bool}{Q:Exit->Act->World->Prop}:∀(b:Nat) (c:Array Bool) (a:Act) (w:World),Fh P S md ops fin Q b c a w->wpAny P md ops Q b c a w
 | 0,_,_,_,h=>h
 | b+1,_,_,_,h=>⟨h.1,λi e=>wpOp_mono (λc w' d=>Qfr b _ c w' d.2) (h.2 i e)⟩
theorem Qli{pu:Bool}{p:List Nat}{Q:Exit->Act->World->Prop}{i:Nat}{l:Oper}{v:Value}(x:ops[i]?=some l)(C:∀(j:Nat) (d:Oper) o b,ops[j]?=some d->d.op≠.select o b)
 (F:∀c a w,Q (.panic c) (a.put l.dst v) w->Q (.panic c) a w) (K:pu=true\/Qfp md ops p i=true):
 ∀(q:Nat) (d:Array Bool) (a:Act) (w:World),Closed md ops d →
  (∀j m,ops[j]?=some m->j≠i->d.getD j true=false->(∀e∈m.after,Region.binds md e=true->e.on≠i)->l.apart ops m=true) →
  i∈Region.ready md ops d->Yv P S ops pu l v a w →
  Fh P S md ops (λk=>p.contains k) Q q (d.setIfInBounds i true) (a.put l.dst v) w->Fh P S md ops (λk=>p.contains k) Q (q+1) d a w:=by
 intro q;induction q with
 | zero=>
  intro d a w _ _ g t H;refine⟨λh=>(by rw[h]at g;cases g),λj n=>?_⟩;by_cases f:j=i
  ·subst f;exact t.wpOp x ⟨.inr (Kept.refl S w),H⟩
  ·have:=ready_mono n f
   rw[H.1]at this;cases this
 | succ q ih=>
  intro d a w z A g t H;refine⟨λh=>(by rw[h]at g;cases g),λj n=>?_⟩;by_cases f:j=i
  ·subst f;exact t.wpOp x ⟨.inr (Kept.refl S w),H⟩
  ·have s:=H.2 j (ready_mono n f)
   have r:=(mem_ready.1 g).1;obtain⟨B,m,y,I⟩:=mem_ready.1 n;have M:∀e∈m.after,Region.binds md e=true->e.on≠i:=λe E D G=>by
    have s:=I e E D;rw[G,getD_both r]at s;cases s
   have G:∀w',((λk=>p.contains k) j=true\/Kept S w w')->Fg S pu w w':=λw' h=>by
    rcases K with hp|E
    ·exact .inl hp
    ·rcases h with h|h
     ·exfalso
      have D:j∈p:=by simpa using h
      have J:=List.all_eq_true.1 E j D;have:=Qbx z n _ _ J;rw[getD_both r]at this;cases this
     ·exact .inr h
   have E:=Qsd y (A j m y f B M) (λo b=>C i l o b x) (λo b=>C j m o b y) F G t s (.inr (Kept.refl S w));have J:∀k ok,ops[k]?=some ok->k≠i->(d.setIfInBounds j true).getD k true=false →
    (∀e∈ok.after,Region.binds md e=true->e.on≠i)->l.apart ops ok=true:=λk ok o D r L=>by
    refine A k ok o D ?_ L;by_cases o:j=k
    ·subst o;exact B
    ·rw[getD_set_ne true o]at r;exact r
   refine wpOp_mono (λD w' o=>⟨o.1,ih (d.setIfInBounds j true) D w' (z.set n) J (ready_mono g (Ne.symm f)) o.2.1 ?_⟩) E;rw[Array.setIfInBounds_comm _ _ f];exact o.2.2
def Bi(P:Program)(S:Nat->Prop)(ops:Array Oper)(fins:List Nat)(Q:Exit->Act->World->Prop)(f:Nat)(listed:Array Bool)(a:Act)(w:World):Prop:=
 Region.noSelect ops=true->(∀c d v a w,Q (.panic c) (Act.put a d v) w->Q (.panic c) a w)->Closed .any ops listed->Fh P S .any ops (λk=>fins.contains k) Q f listed a w
theorem Qeg{C:World->Prop}{pu:Bool}{o:Oper}{a:Act}{w:World}{v:Value}(g:Hd o.op=true)(e:∀w',Fg S pu w w'->C w')(j:Region.wanted o (yielded ops a.tmps)=true)(h:∀w',C w'->o.quietAt P a C w' v):Yv P S ops pu o v a w:=by
 refine .inl ⟨j,λw' c=>?_⟩;have b:=h w' (e w' c);unfold Oper.quietAt at b;have i:∀f d c,(execOp a.eval o).run P w'≠.ok (.enter f d) c:=λf d c=>Qlg g
 generalize (execOp a.eval o).run P w'=r at *;cases r with
 | ok n c=>
  cases n<;>simp only[Oper.quietUpon]at b
  case value u=>obtain⟨rfl,rfl⟩:=b;exact .inl rfl
  case skip=>obtain⟨rfl,rfl⟩:=b;exact .inr ⟨rfl,rfl⟩
  case enter f d=>exact absurd rfl (i f d c)
 | halt x c=>simp only[Oper.quietUpon]at b
theorem Qlj{C:World->Prop}{pu:Bool}{d:List Nat}{Q:Exit->Act->World->Prop}{w:World}{l:List Oper}(m:∀w',Fg S pu w w'->C w')(f:Nat):∀(e:List Nat) (b:Array Bool) (a:Act),Qby l.toArray d pu e b=true →
 wpQuiet P l.toArray C (λg=>Bi P S l.toArray d Q f (He e b) g w) (Za l e) a->Bi P S l.toArray d Q (f+e.length) b a w
 | [],b,a,_,h=>h
 | k::r,b,a,hB,h=>by
  intro q n p;simp only[Qby,Bool.and_eq_true]at hB;obtain⟨⟨⟨⟨t,b2⟩,j⟩,x⟩,y⟩:=hB;have i:k∈Region.ready .any l.toArray b:=by simpa using t
  obtain⟨_,o,e,_⟩:=mem_ready.1 i;rw[e]at j;have B:l[k]?=some o:=by simpa using e
  rw[Za,B]at h;have A:pu=true\/Qfp .any l.toArray d k=true:=by simpa using x
  have s:∀v,Yv P S l.toArray pu o v a w->wpQuiet P l.toArray C (λg=>Bi P S l.toArray d Q f (He (k::r) b) g w) (Za l r) (a.put o.dst v)->Fh P S .any l.toArray (λk=>d.contains k) Q (f+r.length+1) b a w:=λv z g=>
   Qli e (Region.noSelect_spec q) (λc a w=>n c o.dst v a w) A (f+r.length) b a w p (Region.free_spec e b2) i z
    (Qlj m f r _ _ y g q n (p.set i))
  show Fh P S .any l.toArray (λk=>d.contains k) Q (f+(r.length+1)) b a w;rw[<-Nat.add_assoc];unfold wpQuiet at h;split at h
  ·rename_i b
   obtain⟨v,g,z⟩:=h;exact s v (Qeg j m b g) z
  ·rename_i b
   exact s undef (.inr ⟨by simpa using b,rfl⟩) h
theorem Qqd{d:List Nat}{Q:Exit->Act->World->Prop}{w:World}{l:List Oper}{a:Act}{c:Array Bool}{n:Nat}(f:Nat)(b:List Nat)(i:Qby l.toArray d false b c=true)(j:n=f+b.length)
 (h:wpQuiet P l.toArray (λw'=>∃g:UpK S w,w'=g.wd) (λe=>Bi P S l.toArray d Q f (He b c) e w) (Za l b) a):Bi P S l.toArray d Q n c a w:=by
 subst j;exact Qlj (C:=λw'=>∃g:UpK S w,w'=g.wd) (pu:=false) (λw' e=>e.elim (λh=>by cases h) λh=>⟨⟨w',h⟩,rfl⟩) f b c a i h
def F8(P:Program)(S:Nat->Prop)(ops:Array Oper)(fins:List Nat)(Q:Exit->Act->World->Prop)(f:Nat)(listed:Array Bool)(fin:Bool)(w:World):Exit->Act->World->Prop
 | .normal,a,w'=>(fin=true\/Kept S w w')/\Bi P S ops fins Q f listed a w'
 | e,a,w'=>Q e a w'
theorem Qip{b:List Nat}{Q:Exit->Act->World->Prop}{w:World}{l:List Oper}{a:Act}{g:Array Bool}{f k:Nat}{o:Oper}(p:l[k]?=some o)(r:Region.noSelect l.toArray=true)(j:∀c d v a w,Q (.panic c) (Act.put a d v) w->Q (.panic c) a w)(m:Closed .any l.toArray g)(n:k∈Region.ready .any l.toArray g)
 (h:wpList P l.toArray (F8 P S l.toArray b Q f (g.setIfInBounds k true) (b.contains k) w) [o] a w):
 wpOp P l.toArray Q k (λe w'=>(b.contains k=true\/Kept S w w')/\Fh P S .any l.toArray (λk=>b.contains k) Q f (g.setIfInBounds k true) e w') a w:=by
 have q:l.toArray[k]?=some o:=by simpa using p
 have fin:∀e w',F8 P S l.toArray b Q f (g.setIfInBounds k true) (b.contains k) w .normal e w'->(b.contains k=true\/Kept S w w')/\Fh P S .any l.toArray (λk=>b.contains k) Q f (g.setIfInBounds k true) e w':=λe w' h=>⟨h.1,h.2 r j (m.set n)⟩
 unfold wpOp;simp only[q];unfold wpList at h;split at h
 ·rename_i i
  rw[if_pos i];rcases h with h|⟨h1,h2⟩
  ·refine .inl (Qom (Q':=F8 P S l.toArray b Q f (g.setIfInBounds k true) (b.contains k) w) (λc a w h=>h) (fun⟨a,w,h⟩=>⟨a,w,h⟩) (Oper.wp_mono (λe w' h=>fin e w' h) h))
  ·exact .inr ⟨h1,by obtain⟨a,w,h⟩:=h2;exact⟨a,w,h⟩⟩
 ·rename_i i
  rw[if_neg i];exact fin _ _ h
theorem F9{b:List Nat}{Q:Exit->Act->World->Prop}{w:World}{l:List Oper}{a:Act}{e:Array Bool}{o:Oper}(f k:Nat)(d:Region.ready .any l.toArray e=[k])(n:l[k]?=some o)
 (h:wpList P l.toArray (F8 P S l.toArray b Q f (e.setIfInBounds k true) (b.contains k) w) [o] a w):Bi P S l.toArray b Q (f+1) e a w:=by
 intro p g j;refine⟨λc=>(by rw[c]at d;cases d),λi c=>?_⟩;have m:i=k:=by rw[d]at c;simpa using c
 subst m;exact Qip n p g j c h
theorem Hf{ops:Array Oper}{b:List Nat}{Q:Exit->Act->World->Prop}{f:Nat}{c:Array Bool}{fin:Bool}{w w':World}{a:Act}(d:Kept S w w')(h:Bi P S ops b Q f c a w'):F8 P S ops b Q f c fin w .normal a w':=⟨.inr d,h⟩
theorem Qu7{ops:Array Oper}{b:List Nat}{Q:Exit->Act->World->Prop}{f:Nat}{c:Array Bool}{w w':World}{a:Act}(h:Bi P S ops b Q f c a w'):F8 P S ops b Q f c true w .normal a w':=⟨.inl rfl,h⟩
theorem Qse{ops:Array Oper}{d:List Nat}{Q:Exit->Act->World->Prop}{f:Nat}{c:Array Bool}{a:Act}{w:World}(b:Region.ready .any ops c=[])(h:Q .normal a w):Bi P S ops d Q f c a w:=by
 intro _ _ _;cases f with
 | zero=>exact⟨b,h⟩
 | succ f=>exact⟨λ_=>h,by rw[b];simp⟩
theorem Qg2(S:Nat->Prop){o:Nat}{Q:Exit->Act->World->Prop}{a:Act}{w:World}{l:List Oper}(b:List Nat)(n:Nat)(g:P.follows .mixedOrders=true)(i:l.length=n)(m:Region.noSelect l.toArray=true)(f:∀c d v a w,Q (.panic c) (Act.put a d v) w->Q (.panic c) a w)
 (h:∀w',Bel w w'->w'.heap.size=w.heap.size->Bi P S l.toArray b Q n (Array.replicate n false) a w'):(Code.region o l.toArray true).wp P Q a w:=by
 subst i;refine wp_region_any g (Qfr (S:=S) (fin:=λk=>b.contains k) _ _ _ _ ?_);have:=h { w with drawn:=w.drawn+1 } ((Bel.refl w).drew) rfl m f ⟨by simp,λj e _ e=>by rw[getD_replicate_false]at e;cases e⟩;simpa using this
end
open Go.Po Go.Maps Go.WideElems Go.ChangeMaps
section
variable {P : Program} {kT t e b : Nat} {w w' : World} {m : List (Lit × Value)} {k : Lit} {key v : Value}
theorem Rk{o:Obj}(a:w.heap[b]?=some o)(x y:Obj):setBlock (setBlock w b x) b y=setBlock w b y:=by
 have:b<w.heap.size:=Qb a;simp only[setBlock];congr 1
 first
  | exact Array.setIfInBounds_setIfInBounds ..
  | simp
theorem Mp.entry(H:Mp P kT w b m)(K:Keyed P kT)(s:P.underlying t=some (.map kT e)){z:Value}(L:(zeroValue e).run P w=.ok z w)(n:keyOf P kT key=some k):
 ∃(g:Value) (f:Nat) (d:World),(Instr.mapEntry t (.map (some b)) key).run P w=.ok (.tuple #[g,.int .i64 f]) d/\Kept (λk=>k=b) w d ∧
  ∀val,∃g,(Instr.entryStore t (.map (some b)) (.int .i64 f) val).run P d=.ok () g/\(Instr.mapUpdate t (.map (some b)) key val).run P w=.ok () g:=by
 obtain⟨⟨d,f,g,F,-,-⟩,-⟩:=H;obtain⟨M,G,-⟩:=F.stamped;have E:∀o,Kept (λk=>k=b) w (setBlock w b o):=λo=>⟨rfl,rfl,rfl,by simp[setBlock],λi _ h=>heap_setBlock_other g _ h⟩
 have C:∀o,(setBlock w b o).heap[b]?=some o:=λo=>by
  have:b<w.heap.size:=Qb g;simp[setBlock,this]
 have I:∀x∈d.toList,∃l,keyOf P kT x.key=some l:=λx B=>by
  obtain⟨y,h⟩:=F.reads x B;exact⟨_,rd_key h⟩
 rcases K.find w n d.toList I with⟨q,h⟩|⟨j,e0,q,h,r⟩
 ·refine⟨z,f,setBlock w b (.map (d.push ⟨key,z,f⟩) (f+1)),?_,E _,λval=>⟨setBlock w b (.map (d.push ⟨key,val,f⟩) (f+1)),?_,?_⟩⟩
  ·simp[Instr.mapEntry,run_underlying s,MapKept.run_getObj_map g,K.check w false n,q,L,MapKept.run_setObj_map _ g,Result.andThen,setBlock,goInt]
  ·have v:(d.push ⟨key,z,f⟩).findIdx? (λe=>((e.born:Nat):Int)==((f:Nat):Int))=some d.size:=by
    rw[findIdx_arr];refine findIdx_born (e0:=⟨key,z,f⟩) ?_ (by simp);simp only[Array.toList_push,List.map_append,List.map_cons,List.map_nil];refine List.nodup_append.2 ⟨G,by simp,λa o c p A=>?_⟩;simp only[List.mem_singleton]at p;obtain⟨x,B,rfl⟩:=List.mem_map.1 o;have:=M x B;omega
   have A:(d.push ⟨key,z,f⟩).modify d.size (λe=>{ e with val:=val })=d.push ⟨key,val,f⟩:=by
    apply Array.ext';rw[Array.toList_modify,Array.toList_push,Array.toList_push,<-Array.length_toList,modify_last]
   rw[<-Rk g (.map (d.push ⟨key,z,f⟩) (f+1)) (.map (d.push ⟨key,val,f⟩) (f+1))];have o:=C (.map (d.push ⟨key,z,f⟩) (f+1));generalize setBlock w b (.map (d.push ⟨key,z,f⟩) (f+1))=W at o ⊢;simp[Instr.entryStore,MapKept.run_getObj_map o,asInt,asIntOf,v,A,MapKept.run_setObj_map _ o,Result.andThen,setBlock]
  ·simp[Instr.mapUpdate,run_underlying s,MapKept.run_getObj_map g,K.check w false n,q,MapKept.run_setObj_map _ g,Result.andThen,setBlock]
 ·have D:d[j]?=some e0:=by simpa using h
  have J:d.modify j (λe=>{ e with key:=key })=d:=by
   apply Array.ext';rw[Array.toList_modify,modify_eq_set _ _ _ _ h,show({ e0 with key:=key }:MapEntry)=e0 by rw[<-r]];exact set_self _ _ _ h
  refine⟨e0.val,e0.born,setBlock w b (.map d f),?_,E _,λval=>⟨setBlock w b (.map (d.modify j (λp=>{ p with key:=key,val:=val })) f),?_,?_⟩⟩
  ·simp[Instr.mapEntry,run_underlying s,MapKept.run_getObj_map g,K.check w false n,q,D,r,K.stays w n,J,MapKept.run_setObj_map _ g,Result.andThen,setBlock,goInt]
  ·have v:d.findIdx? (λe=>((e.born:Nat):Int)==((e0.born:Nat):Int))=some j:=by
    rw[findIdx_arr];exact findIdx_born G h
   have A:d.modify j (λe=>{ e with val:=val })=d.modify j (λp=>{ p with key:=key,val:=val }):=by
    apply Array.ext';rw[Array.toList_modify,Array.toList_modify,modify_eq_set _ _ _ _ h,modify_eq_set _ _ _ _ h,<-r]
   rw[<-Rk g (.map d f) (.map (d.modify j (λp=>{ p with key:=key,val:=val })) f)];have o:=C (.map d f);generalize setBlock w b (.map d f)=W at o ⊢;simp[Instr.entryStore,MapKept.run_getObj_map o,asInt,asIntOf,v,A,MapKept.run_setObj_map _ o,Result.andThen,setBlock]
  ·simp[Instr.mapUpdate,run_underlying s,MapKept.run_getObj_map g,K.check w false n,q,D,r,K.stays w n,MapKept.run_setObj_map _ g,Result.andThen,setBlock]
end
end Go.Mem
namespace Go.Po
open Go.Mem Go.Proofs.YtkdpmdfcdgphlaaGreat
def nsL(l:List Kr):List (Int×Int):=l.foldl (λm x=>Qo x.to x.n m) []
def Ce(t:Int)(ps:List Int):Rec:=⟨6,t,0,false,ps,[]⟩
def Qjl(l:List Kr):U6:=⟨Yh (l.map λx=>x.to),[],nsL l,0⟩
def Uz(b:Br)(t:Int)(l:List Kr):(List Ye×Int)×Br:=
 if Bj b.s.broker l=false then (([],1),b)
 else if (Sj b.s t 11 !=0)=true then (([],Sj b.s t 11),b)
 else if l.length=0 then Wn b t true []
 else if (Zf b.s (Ce t (l.map λx=>x.to))==0)=true then ((Qbc b.s.broker t (Qjl l),11),⟨[Qf b.s (Ce t (l.map λx=>x.to))],Qf b.s (Ce t (l.map λx=>x.to)),b.G,Qo t (Qjl l) b.K⟩)
 else (([],Zf b.s (Ce t (l.map λx=>x.to))),b)
theorem Qn2(l:List Kr):(nsL l).length<=l.length:=by
 have:∀(l:List Kr) (m:List (Int×Int)),(l.foldl (λm x=>Qo x.to x.n m) m).length<=m.length+l.length:=by
  intro l;induction l with
  | nil=>intro m;exact Nat.le_refl _
  | cons x r ih=>intro m;have a:=ih (Qo x.to x.n m);have b:=putI_len x.to x.n m;simp only[List.foldl_cons,List.length_cons];omega
 simpa[nsL] using this l []
theorem Qt0{l:List Kr}{i:Nat}{x:Kr}(a:l[i]?=some x):nsL (l.take (i+1))=Qo x.to x.n (nsL (l.take i)):=by
 rw[List.take_add_one,a];simp[nsL,List.foldl_append]
theorem Qjm{n:Nat}{C:List (Int×Aq)}:U0 n C↔(Ka C).length<=n/\∀p∈Ka C,p.2.N.length<=n:=by
 simp only[U0,Ka,List.length_map,List.mem_map,forall_exists_index,and_imp];exact and_congr Iff.rfl ⟨λh p q a e=>e▸h q a,λh p a=>h _ p a rfl⟩
theorem Qgj{br:Int}:∀{l:List Kr} {b:Option Kr},Gp br b l=true->∀x∈l,i64 x.to/\i64 x.n
 | [],_,_,x,a=>by simp at a
 | y::r,b,h,x,a=>by
  rw[Gp,Bool.and_eq_true]at h;rcases List.mem_cons.1 a with rfl|a
  ·have b:=h.1
   simp only[Qfz,Qz,Bool.not_or,Bool.and_eq_true,Bool.not_eq_true',decide_eq_false_iff_not,Bool.not_not,decide_eq_true_eq]at b;unfold i64;omega
  ·exact Qgj h.2 x a
end Go.Po
namespace Go.Proofs.YtkdpmdfcdgphlaaGreat
open Tryz
open Go.RowKit Go.Mem Go.Po
section
variable {n n' : Nat} {A A' B O O5 Ok Op S : Nat → Prop} {w wr w5 w8 w' : World} {cb pb kb db om e mm : Nat} {l l' : List St} {s s' : St} {G G' : List (Int × Goes)} {K : List (Int × U6)} {C C' : List (Int × Aq)} {br t : Int}
theorem Cs.add(i:Cs w cb om kb pb br C)(k:Int)(y:i64 k)(x:Aq)(t:w'.heap[cb]?=w.heap[cb]?)(z:Mp prog 2 w' om (iL aqV (Qo k x C)))(A:Wj w' x)
 (v:∀p∈C,Wj w' p.2) (g:∀j,x.has j->¬csO cb om C j):Cs w' cb om kb pb br (Qo k x C):=by
 obtain⟨⟨T,l⟩,B,m,D,n,o,r,s⟩:=i;have h:∀p∈C,∀j,x.has j->¬p.2.has j:=λp a j b c=>g j b (.inr (.inr ⟨p,a,c⟩))
 refine⟨⟨T,t.trans l⟩,z,Rw m,λp a=>?_,λp a q d j f c=>?_,λp a j b=>?_,r,λp a=>?_⟩
 ·rcases Zt.1 a with rfl|⟨a,hne⟩
  ·exact A
  ·exact v p a
 ·rcases Zt.1 a with rfl|⟨a,hne⟩<;>rcases Zt.1 d with rfl|⟨d,hne2⟩
  ·rfl
  ·exact absurd c (h q d j f)
  ·exact absurd f (h p a j c)
  ·exact n p a q d j f c
 ·rcases Zt.1 a with rfl|⟨a,hne⟩
  ·exact⟨λe=>g j b (.inl e),λe=>g j b (.inr (.inl e))⟩
  ·exact o p a j b
 ·rcases Zt.1 a with rfl|⟨a,_⟩
  ·exact y
  ·exact s p a
theorem Qxc{x:Aq}(i:Bel w wr)(E:∀j,O j->j<w.heap.size)(B:Kept O wr w5)(o:∀j,O5 j->O j\/wr.heap.size<=j)
 (b:∀j,O5 j↔Op j\/csO cb om C j) (q:Pq n (λk=>(A k\/k=e\/k=mm)\/O5 k) Op w5 pb kb db l s G) (f:Cs w5 cb om kb pb s.broker C) (y:∀j,csO cb om C j->¬Op j)
 (d:w.heap.size<=e/\e<wr.heap.size) (a:w.heap.size<=mm/\mm<wr.heap.size) (K:x.e=e) (L:x.mm=mm) (v:∀j,vo x.vb x.ym x.nm j->w5.heap.size<=j)
 (m:Kept (λj=>j=e\/j=om) w5 w8) (r:Mp prog 2 w8 om (iL aqV (Qo t x C))) (J:Wj w8 x) (I:i64 t) (F:U0 n (Qo t x C)):
 Zq A O w w8 λA O w=>Cq n A O w cb pb kb db l s G (Qo t x.a (Ka C)):=by
 have g:∀j,w.heap.size<=j->j<wr.heap.size->¬O5 j:=λj b q h=>by
  rcases o j h with h|h
  ·have:=E j h;omega
  ·omega
 have D:∀j,O5 j->j<w5.heap.size:=λj a=>((b j).1 a).elim (q.lt j) λh=>f.lt h
 have N:=B.size;have z:∀j,x.has j->¬O5 j:=by
  rintro j (rfl|a|rfl) h
  ·exact g x.e (by omega) (by omega) h
  ·have:=v j a;have:=D j h;omega
  ·exact g x.mm (by omega) (by omega) h
 have M:∀j,x.has j->w.heap.size<=j:=by
  rintro j (rfl|a|rfl)
  ·omega
  ·have:=v j a;have:=i.size;omega
  ·omega
 have H:Cs w8 cb om kb pb s.broker (Qo t x C):=by
  refine f.add t I x (m.block cb (f.lt (.inl rfl)) ?_) r J (λp c=>(f.ent p c).keep m ?_) λj a h=>z j a ((b j).2 (.inr h))
  ·rintro (h|h)
   ·exact g e d.1 d.2 ((b e).2 (.inr (.inl h.symm)))
   ·exact f.ne h
  ·rintro j a (rfl|rfl)
   ·exact g j d.1 d.2 ((b j).2 (.inr (.inr (.inr ⟨p,c,a⟩))))
   ·exact(f.sepb p c j a).2 rfl
 have r:∀j,csO cb om (Qo t x C) j->csO cb om C j\/x.has j:=by
  rintro j (rfl|rfl|⟨p,c,a⟩)
  ·exact .inl (.inl rfl)
  ·exact .inl (.inr (.inl rfl))
  ·rcases Zt.1 c with rfl|⟨c,_⟩
   ·exact .inr a
   ·exact .inl (.inr (.inr ⟨p,c,a⟩))
 refine⟨λj=>Op j\/csO cb om (Qo t x C) j,⟨Op,om,Qo t x C,λj=>Iff.rfl,q.keep m ?_ ?_ ?_ (λj a=>.inr (.inl a)),H,λj a=>⟨λh=>?_,.inr (.inr a)⟩,Qjq t x C,F⟩,?_,λj a=>?_⟩
 ·rintro j a (rfl|rfl)
  ·exact g j d.1 d.2 ((b j).2 (.inl a))
  ·exact y j (.inr (.inl rfl)) a
 ·rintro j (rfl|rfl)
  ·exact .inl (.inr (.inl rfl))
  ·exact .inr ((b j).2 (.inr (.inr (.inl rfl))))
 ·rintro j a (h|h|h)
  ·exact .inl (.inl h)
  ·exact .inr ((b j).2 (.inl h))
  ·rcases r j h with h|(rfl|h|rfl)
   ·exact .inr ((b j).2 (.inr h))
   ·exact .inl (.inr (.inl K))
   ·have:=v j h;omega
   ·exact .inl (.inr (.inr L))
 ·rcases r j a with c|c
  ·exact y j c h
  ·exact z j c ((b j).2 (.inl h))
 ·refine((i.kept O).trans B).onto m ?_
  rintro j (rfl|rfl)
  ·exact .inr d.1
  ·rcases o j ((b j).2 (.inr (.inr (.inl rfl))))with h|h
   ·exact .inl h
   ·exact .inr (Nat.le_trans i.size h)
 ·rcases a with a|a
  ·exact(o j ((b j).2 (.inl a))).imp id λh=>Nat.le_trans i.size h
  ·rcases r j a with c|c
   ·exact(o j ((b j).2 (.inr c))).imp id λh=>Nat.le_trans i.size h
   ·exact .inr (M j c)
theorem Qyx{W:World}{b:List (Int×Int)}(h:Mp prog 3 W mm (iL Fq b)){k:Int}(g:i64 k)(v:Int)(t:b.length<=100000):
 ∃(e:Value) (d:Nat) (c a:World),(Instr.mapEntry 159 (.map (some mm)) (.int .i64 k)).run prog W=.ok (.tuple #[e,.int .i64 d]) c/\Kept (λj=>j=mm) W c ∧
  (Instr.entryStore 159 (.map (some mm)) (.int .i64 d) (.int .i64 v)).run prog c=.ok () a/\Mp prog 3 a mm (iL Fq (Qo k v b))/\Kept (λj=>j=mm) W a:=by
 obtain⟨e,d,c,m,n,o⟩:=h.entry Lt underlying159 (zeroValue3 W) (Qcx g);obtain⟨a,p,q⟩:=o (.int .i64 v);obtain⟨s,f,i,r⟩:=h.put Lt underlying159 (k:=.int .i64 k) (v:=.int .i64 v) (by simp only[iL,List.length_map,maxLen];omega) (Qcx g) rfl;obtain rfl:a=s:=by rw[q]at f;cases f;rfl
 refine⟨e,d,c,a,m,n,p,?_,r⟩;have l:Wu (.int .i64 k) (.int .i64 v) (U1 (.int .i64 k) (iL Fq b))=iL Fq (Qo k v b):=by
  rw[Wv];exact Di Fq k v _
 rw[l]at i;exact i
theorem Qyy(w:World){b:Nat}(x:Int){T:TypeId}{c:Nat×Nat}(h:w.heap[b]?=some (.cells #[.int .i64 x] T c)):Src prog 1 67 (.slice (some ⟨b,0,none⟩) 1 1) 1 [.int .i64 x] w:=
 Src.ofSlice w underlying67 ⟨b,0,none⟩ 1 1 [.int .i64 x] rfl (λj d a=>by
  have:=cell_of_block h j d (by simpa using a);rw[Addr.add_lit,Nat.zero_add];exact this) (λv a=>by simp only[List.mem_cons,List.not_mem_nil,or_false]at a;subst a;rfl)
end
section
variable {n n' : Nat} {A B O Ok Op S : Nat → Prop} {w w' : World} {cb pb kb db om : Nat}
theorem Qpo(b:Br)(h:b.of n A O w cb pb kb db)(F:∀k,A k->k<w.heap.size)(aS:n<199)(t:Int)(ae:i64 t)(l:List Kr)(po:Option Addr)(pc:Nat)(I:Rd Fx A w po pc l)(K:l.length<=100000):
 Calls prog 30 #[.pointer (some ⟨cb,0,none⟩),.int .i64 t,.slice po l.length pc] w λe w'=>∃ao cap,e=.returned (.tuple #[.slice ao (Uz b t l).1.1.length cap,.int .i64 (Uz b t l).1.2])/\Zq A O w w' λA O w=>(Uz b t l).2.of (n+1) A O w cb pb kb db/\Rd Xw A w ao cap (Uz b t l).1.1:=by
 obtain⟨H,aw,bh⟩:=Zh3 h F I;obtain⟨c0,c1,c2⟩:=Br.cells h;have bK:=Zd c0;have bz:0<b.s.broker:=(Js (Br.good h).may.broker).1;obtain⟨bi,aK,aY,ba⟩:=Zh4 (λW (c:Bel w W)=>Fu (Br.bel h c)) (Qql b.s.broker c0 po pc l I K) c0 c1;obtain⟨aa,o⟩:∃aa,aa=Uz b t l:=⟨_,rfl⟩;rw[<-o];obtain⟨aG,s⟩:∃aG,aG=Bj b.s.broker l:=⟨_,rfl⟩;obtain⟨Y,D⟩:∃Y,Y=Sj b.s t 11:=⟨_,rfl⟩;obtain⟨P,f⟩:∃P,P=l.map λx=>x.to:=⟨_,rfl⟩
 obtain⟨r,E⟩:∃r,r=Ce t P:=⟨_,rfl⟩;obtain⟨G,z⟩:∃G,G=Zf b.s r:=⟨_,rfl⟩;obtain⟨m,c⟩:∃m,m=l.length:=⟨_,rfl⟩;rw[Uz,<-s,<-D,<-f,<-E,<-z,<-c]at o;rw[<-c];have J:P.length=m:=by rw[f,List.length_map,c]
 obtain⟨Q,a8,bs,aj,U,ai,aJ,bb⟩:=Zh8 o s D f J c E z;have bP:m<=100000:=by omega
 rw[<-s,<-c]at aK;clear h F I o s D f E z c J K c2;go_enter func30,ntmps30;go_wp2_with fail;refine aK.zR λc c=>?_
 have af:=Zh c;clear c;rcases aG with _|_
 ·go_wp2
  go_ret2;refine⟨none,0,by rw[Q.o];rfl,?_⟩;rw[Q.o];exact((H.more (Nat.le_succ n)).self af).imp λA O w h=>⟨h,Rd.nil _ _ _ _ _ (Nat.zero_le _)⟩
 clear c0 c1;have c1:=af.cell ba;go_wp2_with fail;refine(bi _ af).mono ?_;rintro e bT ⟨bC,b7,bF,bA,bB,b6,bE,b9,bD,b8,rfl,c,b2⟩;obtain⟨bv,aH⟩:=Zh2 (c.mono (B:=λ_=>False) λ_ _ h=>h.elim) (af.trans b2);clear c b2 c1;go_wp2_with fail;refine(Qjy bC b7 bF bA bB b6 bE b9 bD b8 bv (aH.cell aY) bz t ae 11).mono ?_;rw[<-bs.o];rintro e c ⟨rfl,f⟩;have J:=Zh (aH.trans f);clear f;by_cases E:Y=0
 case neg=>
  have aC:(Y !=0)=true:=by simpa using E
  have T:=Zh aC;clear E;go_wp2;go_ret2;refine⟨none,0,by rw[Q.o,T.o];rfl,?_⟩;rw[Q.o,T.o];exact((H.more (Nat.le_succ n)).self J).imp λA O w h=>⟨h,Rd.nil _ _ _ _ _ (Nat.zero_le _)⟩
 have bJ:(Y==0)=true:=by simpa using E
 have aC:(Y !=0)=false:=by simpa using E
 have T:=Zh aC;clear E;rcases Nat.eq_zero_or_pos m with aD|aD
 ·have K:=Zh (show aa=Wn b t true [] by rw[Q.o,T.o,aD];rfl)
  subst aD;go_wp2_with fail;refine(Qeu b (Br.bel H J) (λk h=>Nat.lt_of_lt_of_le (aw k h) J.size) aS t ae [] none 0 (Rd.nil _ _ _ none 0 (Nat.zero_le _)) (Nat.zero_le _)).mono ?_;rintro e s ⟨ao,cap,rfl,f⟩;have o:=Zh (Zq.from J f);clear f;go_wp2;go_ret2;refine⟨ao,cap,by rw[K.o];rfl,?_⟩;rw[K.o];exact o
 have bQ:((m:Int)==0)=false:=by simp;omega
 obtain⟨F,f⟩:∃F,F=(c.alloc (.map #[] 0)).alloc (.cells #[.pointer none,.map (some c.heap.size),.int .i64 0] 162):=⟨_,rfl⟩;have o:Bel c F:=f▸((Bel.refl _).alloc _).alloc _;have s:F.heap[c.heap.size+1]?=some (.cells #[.pointer none,.map (some c.heap.size),.int .i64 0] 162 (0,0)):=f▸Jc _ _ _;have z:Mp prog 3 F c.heap.size (iL Fq []):=f▸(Mp.made c _ _).bel ((Bel.refl _).alloc _);have b4:F.heap.size=c.heap.size+2:=by rw[f];simp
 have bO:∀w,(Instr.makeMap 159 none).run prog w=.ok (.map (some w.heap.size)) (w.alloc (.map #[] 0)):=λw=>rfl
 obtain⟨aV,aW,br,L,bk⟩:=Zh5 o s z b4 f;clear o s z f;go_wp2;rw[<-bk.o];go_loopw[10,46] (λq a wr=>∃(i:Nat) (D:Option Addr) (z N:Nat),i<=m/\a=.int .i64 i/\q=.slice D N z/\Hid (N=i)/\Hid (Own Qh (λk=>A k\/k=c.heap.size+1\/k=c.heap.size) F wr 3 D z (P.take i))/\Hid (Mp prog 3 wr c.heap.size (iL Fq (nsL (l.take i))))/\Hid (wr.heap[c.heap.size+1]?=some (.cells #[.pointer none,.map (some c.heap.size),.int .i64 0] 162 (0,0)))/\Hid (Bel c wr)) (λ_ a _=>m-(intOf a).toNat)
 case atStart=>exact⟨0,none,0,0,Nat.zero_le _,rfl,rfl,Zh rfl,Zh (Own.nil _ _ _ _ _),br,aW,aV⟩
 case round=>
  obtain⟨i,D,z,N,bM,rfl,rfl,ap,R,ak,ad,am⟩:=hrel;by_cases bL:i<m
  ·obtain⟨x,o⟩:∃x,l[i]?=some x:=⟨l[i]'(by have:=ai.o;omega),by simp⟩
   obtain⟨g,off,aZ,bd,c0,c1⟩:=Qd0 ((bh.bel (J.o)).bel am.o) o;have Z:i64 x.to/\i64 x.n:=by
    have s:=a8.o;rw[Bj,eq_comm,Bool.and_eq_true]at s;exact Qgj s.1 x (List.mem_of_getElem? o)
   have V:(nsL (l.take i)).length<=100000:=by have:=Qn2 (l.take i);rw[List.length_take]at this;omega
   have W:P.take (i+1)=P.take i++[x.to]:=by rw[aj.o,List.take_add_one];simp[o,List.map_take]
   have X:=Qt0 o;obtain⟨aA,aI,aO,aP⟩:=Zh4 Z V W X;obtain⟨ab,f⟩:∃ab,ab=wr.alloc (.cells #[.int .i64 x.to,.int .i64 x.n] 73):=⟨_,rfl⟩;have M:=Zb f;have ac:=Zn f;have sA:ab.heap.size=wr.heap.size+1:=by rw[f];simp
   obtain⟨aQ,ah,aT⟩:=Zh3 f M ac;have be:(0:Int)<=(i:Int):=by omega
   have bf:(i:Int)<(m:Int):=by omega
   have bj:IntKind.i64.wrap ((i:Int)+1)=((i+1:Nat):Int):=by rw[IntKind.wrap_i64];omega
   subst aZ;clear o W X f M ac sA Z V;go_upto_region 15 with (fail);rw[<-aQ.o];clear c0 c1;refine Qg2 (λk=>Qc D z k\/k=c.heap.size) [16] 17 (by kernel_rfl) rfl (by kernel_rfl) (λ_ d _ _ _ h=>by cases d<;>exact h) ?_;intro bc V au;obtain⟨M,a9,an⟩:=Zh3 (ah.trans V) (am.trans (ah.trans V)) (V.heap aT.o);have al:=Zh (M.heap ad);have X:∀k,Qc D z k->F.heap.size<=k:=λk f=>by obtain⟨_,_,_,ac⟩:=R.o;exact ac k f
   have aq:∀k,Qc D z k->k<wr.heap.size:=λk f=>R.lt f
   have ar:∀p:Addr,p.block=c.heap.size+1->¬(Qc D z p.block\/p.block=c.heap.size):=λp I h=>by
    rw[I]at h;rcases h with h|h
    ·have:=X _ h;have:=L.o;omega
    ·omega
   have bg:c.heap.size+1<wr.heap.size:=Qb ad.o;have Z:∀p:Addr,p.block=wr.heap.size->¬(Qc D z p.block\/p.block=c.heap.size):=λp I h=>by
    rw[I]at h;rcases h with h|h
    ·have:=aq _ h;omega
    ·omega
   have az:=UpK.cell (S:=λk=>Qc D z k\/k=c.heap.size) (ar ⟨c.heap.size+1,1,none⟩ rfl) (cell_of_block al 1 _ rfl);have av:=UpK.cell (S:=λk=>Qc D z k\/k=c.heap.size) (Z ⟨wr.heap.size,0,none⟩ rfl) (cell_of_block an 0 _ rfl);have ax:=UpK.cell (S:=λk=>Qc D z k\/k=c.heap.size) (Z ⟨wr.heap.size,1,none⟩ rfl) (cell_of_block an 1 _ rfl);obtain⟨aL,aR,W⟩:=Zh3 (R.bel M.o) (ak.bel M.o) X;clear V au ar Z X aq;refine Qqd 6 [0,1,2,3,4,5,6,7,8,11,12] (by kernel_rfl) rfl ?_;simp only[Za,List.getElem?_cons_zero,List.getElem?_cons_succ];repeat(go_big_quiet_step(fail))
   refine wpQuiet_nil ?_;clear az av ax;refine F9 5 9 (by kernel_rfl) rfl ?_;go_wp2_with fail;refine Hf ((Kept.refl _ _).alloc _) ?_;refine F9 4 10 (by kernel_rfl) rfl ?_;go_wp2_with(at_builtin;go_must (refine Xe (r:=Qh) (A:=λk=>A k\/k=c.heap.size+1\/k=c.heap.size) (w0:=F) _ rfl _ _ 67 67 rfl Qjx D N z (P.take i) (by rw[ap.o,List.length_take];have:=U.o;omega) (aL.bel ((Bel.refl _).alloc _)) rfl _ rfl [x.to] [.int .i64 x.to] (Ch.one rfl rfl) (Qyy _ x.to (heap_alloc_new _ _)) (by have:=ap.o;simp;omega) (by omega) (by have:=M.size;have:=L.o;simp;omega) ?_);intro aq ar Z au X av;have aM:=Zh au;have V:=Zh X;have aF:=Zh av;clear au X av);refine Hf (V.mono λk _ h=>.inl h) ?_;obtain⟨az,bl,au,bm,aX,av,aU,ay,ax⟩:=Qyx ((aR.bel ((Bel.refl _).alloc _)).kept V.o (λh=>by have:=W.o _ h;have:=L.o;omega)) aA.1 x.n aI.o;obtain⟨aE,aB,X⟩:=Zh3 ay av ax;clear ay av ax;refine F9 3 13 (by kernel_rfl) rfl ?_;go_wp2_with fail;refine Hf (Kept.refl _ _) ?_;refine F9 2 14 (by kernel_rfl) rfl ?_;go_wp2_with fail;refine Hf (aB.mono λk _ h=>.inr h) ?_;refine F9 1 15 (by kernel_rfl) rfl ?_;go_wp2_with fail;refine Hf (Kept.refl _ _) ?_;refine F9 0 16 (by kernel_rfl) rfl ?_;go_wp2_with fail;refine Qu7 ?_;refine Qse (by kernel_rfl) ?_;have av:∀k,Qc aq ar k->k≠c.heap.size:=λk f e=>by
    have ax:=L.o;rcases aF.o k f with h|h
    ·have:=W.o _ h;omega
    ·have:=M.size;simp at h;omega
   obtain⟨aN,ay,ax⟩:=Zh3 (aM.keep X.o (λk h=>.inr (.inr h)) av (λk _ h=>h)) (X.heap (show ¬c.heap.size+1=c.heap.size by omega) (V.heap (λh=>by have:=W.o _ h;have:=L.o;omega) (((Bel.refl bc).alloc _).heap al.o))) (((a9.alloc _).of_kept V.o λk f=>by have:=W.o _ f;have:=L.o;omega).of_kept X.o λk f=>Nat.le_of_eq f.symm);clear av aX aU;go_wp2;go_roundw
   case rel=>exact⟨i+1,aq,ar,N+1,by omega,by go_num,by rfl,Zh (by rw[ap.o]),Zh (by rw[aO.o];exact aN.o),Zh (by rw[aP.o];exact aE.o),ay,ax⟩
   case measure=>simp[intOf];omega
  ·obtain rfl:i=m:=by omega
   obtain rfl:N=i:=ap.o;have V:=R.o;have M:=ak.o;rw[List.take_of_length_le (by rw[<-ai.o];exact Nat.le_refl _)]at M;rw[List.take_of_length_le (by rw[U.o];exact Nat.le_refl _)]at V;have bR:w.heap.size<=c.heap.size:=J.size;have bw:c.heap.size+1<wr.heap.size:=Qb ad.o;have aI:=Zh (show ∀k,(A k\/k=c.heap.size+1\/k=c.heap.size)->k<F.heap.size fromλk h=>by
    have:=L.o;rcases h with h|h|h
    ·have:=aw.o k h;omega
    ·omega
    ·omega)
   have aN:=Zh (V.rd aI);have b5:F.heap.size<=wr.heap.size:=by have:=L.o;omega
   have W:=Cq.oa (show Cq n A O w cb pb kb db b.l b.s b.G b.K from H);have al:b.of n (λk=>A k\/k=c.heap.size+1\/k=c.heap.size) O wr cb pb kb db:=Br.bel (Br.mono H.o (λj f h=>by
    rcases h with h|h|h
    ·exact h
    ·omega
    ·omega) λj f=>.inl (W j f)) (J.trans am.o)
   have X:=Qdx b al (λk h=>Nat.lt_of_lt_of_le (aI.o k h) b5) aS (Ce t P) D z none 0 ae (show i64 0 by simp[i64]) aN.o (Rd.nil _ _ _ none 0 (Nat.zero_le _)) (λp I=>by simp[Ce]at I);have el:(Ce t P).parts.length=N:=U.o;have ab:Zf b.s (Ce t P)=G:=by rw[bb.o,aJ.o]
   rw[el,ab]at X;obtain⟨bl,bg,be,ah⟩:=Zh4 X W M (J.trans am.o);have bG:=ad;clear X el ab al W V M R ak;go_wp2_with fail;refine bl.zR λZ M=>?_
   have aO:=Zh M;clear M;by_cases E:G=0
   case neg=>
    have R:(G==0)=false:=by simpa using E
    have bx:(G !=0)=true:=by simpa using E
    have X:=aO.o;rw[if_neg (by simp[R])]at X;obtain⟨K,W⟩:=Zh2 (show aa=(([],G),b) by rw[Q.o,T.o,R,if_neg (by simp),if_neg (by simp),if_neg (by omega),if_neg (by simp)]) X;clear E R X;go_wp2;go_ret2;refine⟨none,0,by rw[K.o];rfl,?_⟩;rw[K.o];obtain⟨V,ak,M,ab⟩:=W.o;exact⟨V,⟨Br.mono ak (λj _ h=>h.imp .inl id) λj f=>.inr f,Rd.nil _ _ _ _ _ (Nat.zero_le _)⟩,(ah.kept O).trans M,λj f=>(ab j f).imp id λh=>Nat.le_trans ah.size h⟩
   have R:(G==0)=true:=by simpa using E
   have bx:(G !=0)=false:=by simpa using E
   have X:=aO.o;rw[if_pos R,if_pos (show((Ce t P).kind !=9)=true from rfl),<-aJ.o]at X;have K:=Zh (show aa=((Qbc b.s.broker t (Qjl l),11),⟨[Qf b.s r],Qf b.s r,b.G,Qo t (Qjl l) b.K⟩) by rw[Q.o,T.o,R,if_neg (by simp),if_neg (by simp),if_neg (by omega),if_pos rfl]);obtain⟨V,ak,M,ab⟩:=X;obtain⟨Op,om,C,s,W,ac,ar,al,-⟩:=show Cq (n+1) (λk=>(A k\/k=c.heap.size+1\/k=c.heap.size)\/V k) V Z cb pb kb db [Qf b.s r] (Qf b.s r) b.G b.K from ak
   have av:U0 n C:=by
    obtain⟨_,_,ax,_,_,_,_,an,aq⟩:=show Cq n A O w cb pb kb db b.l b.s b.G b.K from H.o
    rw[Qjm,al,<-an,<-Qjm];exact aq
   have bu:=Zh (aN.keep M (λk h=>.inl (bg k h)) (B:=λ_=>False) λ_ _ h=>h.elim);have a9:∀x∈P,i64 x:=λx o=>by
    rw[aj.o]at o;obtain⟨y,an,rfl⟩:=List.mem_map.1 o;have s:=a8.o;rw[Bj,eq_comm,Bool.and_eq_true]at s;exact(Qgj s.1 y an).1
   have b1:N<=7:=by
    have s:=a8.o;rw[Bj,eq_comm,Bool.and_eq_true,decide_eq_true_eq,<-ai.o]at s;omega
   have aq:=Qcf Z D z P bu.o (by rw[U.o];omega) a9;rw[U.o]at aq;have aB:∀j,O j->j<wr.heap.size:=λj f=>Nat.lt_of_lt_of_le (Cq.lt (show Cq n A O w cb pb kb db b.l b.s b.G b.K from H.o) j f) ah.size
   have aA:∀j,w.heap.size<=j->j<wr.heap.size->¬V j:=λj s W h=>by
    rcases ab j h with h|h
    ·have:=Cq.lt (show Cq n A O w cb pb kb db b.l b.s b.G b.K from H.o) j h;omega
    ·omega
   have an:∀j,w.heap.size<=j->¬O j:=λj s h=>by
    have:=Cq.lt (show Cq n A O w cb pb kb db b.l b.s b.G b.K from H.o) j h;omega
   obtain⟨bc,bf,bj,ay,bm,az,bn,bo,aM,bq,bt,ax⟩:=U2 (M.heap (an _ (by omega)) ad.o) (be.kept M (an _ (by omega))) aq s W ac ar al av M ab aA;have bS:wr.heap.size<=Z.heap.size:=M.size;clear E R ak s W ac ar al av aq a9 M ab aB aA an;go_wp2_with fail;refine bj.mono ?_;rintro e au ⟨M,av,nm,rfl,aT,ak,ab⟩;have al:=ak.heap bc;have bI:=cell_of_block al 0 _ rfl;have bH:=Qa al 0;obtain⟨R,an⟩:∃R,R=au.setCell ⟨c.heap.size+1,0,none⟩ (.pointer (some ⟨M,0,none⟩)):=⟨_,rfl⟩;have ar:Kept (λk=>k=c.heap.size+1) au R:=an▸Kept.set1 au (c.heap.size+1) 0 _;have a9:R.heap[c.heap.size+1]?=some (.cells #[.pointer (some ⟨M,0,none⟩),.map (some c.heap.size),.int .i64 0] 162 (0,0)):=by
    rw[an,Go.Mem.heap_setCell_same _ (c.heap.size+1) 0 _ _ _ _ al];simp
   have aF:Kept (λk=>k=c.heap.size+1) Z R:=(ak.kept _).trans ar;have aR:∀j,csO cb om C j->j≠c.heap.size+1:=λj f e=>ax.o j (by omega) (by omega) ((ay.o j).2 (.inr f))
   have aA:∀j,vo M av nm j->j≠c.heap.size+1:=λj f e=>by have:=ab j f;omega
   have ac:=az.keep aF aR;have aU:=aT.keep ar aA;obtain⟨w8,b3,aE,E⟩:=ac.mp.put Yo underlying151 (k:=.int .i64 t) (v:=.pointer (some ⟨c.heap.size+1,0,none⟩)) (by have:=aM.1;simp only[iL,List.length_map,maxLen];omega) (Cu ae) rfl;have c3:=ac.c3;have b0:=Qb a9;obtain⟨x,o⟩:∃x:Aq,x=⟨c.heap.size+1,M,av,nm,c.heap.size,Qjl l⟩:=⟨_,rfl⟩;have aQ:Wu (.int .i64 t) (.pointer (some ⟨c.heap.size+1,0,none⟩)) (U1 (.int .i64 t) (iL aqV C))=iL aqV (Qo t x C):=by
    rw[Wv,show(Value.pointer (some ⟨c.heap.size+1,0,none⟩))=aqV x by rw[o];rfl];exact Di aqV t x _
   rw[aQ]at aE;have aq:∀j,(vo M av nm j\/j=c.heap.size+1\/j=c.heap.size)->j≠om:=λj f e=>by
    have s:=az.mp.lt;have W:V om:=(ay.o om).2 (.inr (.inr (.inl rfl)));rcases f with h|h|h
    ·have:=ab j h;omega
    ·exact ax.o om (by omega) (by omega) W
    ·exact ax.o om (by omega) (by omega) W
   have aB:Wj w8 x:=by
    rw[o];refine⟨E.heap (aq _ (.inr (.inl rfl))) a9,?_,?_,⟨λh=>aA _ h rfl,λh=>?_,by show c.heap.size+1≠c.heap.size;omega⟩,⟨Int.le_refl _,show(0:Int)<=1000000 by decide⟩,?_,?_⟩
    ·show Jy w8 M av nm (Yh (l.map λx=>x.to)) []
     rw[<-aj.o];exact aU.keep E λj f=>aq j (.inl f)
    ·exact(((bf.bel ak).kept ar (by omega)).kept E (aq _ (.inr (.inr rfl))))
    ·have s:Z.heap.size<=c.heap.size:=ab _ h
     omega
    ·show(Yh (l.map λx=>x.to)).length<=7
     rw[<-aj.o];exact Nat.le_trans (Rb P) (by rw[U.o];exact b1)
    ·exact Nat.le_trans (Qn2 l) (by rw[<-ai.o];omega)
   have f:=Qxc (n:=n+1) (w8:=w8) (t:=t) (x:=x) ah.o (Cq.lt (show Cq n A O w cb pb kb db b.l b.s b.G b.K from H.o)) bq.o bt.o ay.o bm.o az.o (λj f=>(bn.o j f).1) ⟨by omega,bw⟩ ⟨by omega,by omega⟩ (by rw[o]) (by rw[o]) (λj f=>ab j (by rw[o]at f;exact f)) ((aF.mono λj _ h=>.inl h).trans (E.mono λj _ h=>.inr h)) aE aB ae (aM.put t x (by rw[o];exact Nat.zero_le _));have aP:w8.cell? ⟨cb,0,none⟩=some (.int .i64 b.s.broker):=by
    rw[<-Ya b.s r];exact E.cell (λh=>ac.ne h) ac.c0
   rw[an]at b3 c3 b0;obtain⟨bd,aX,aZ,aL⟩:=Zh4 f aB aP o;clear ak al an ar a9 aF aR aA ac aU aT aE E aQ aq f aB aP ab;go_wp2_with fail;have f:=Qjt (A:=λ_=>False) b.s.broker t x aX (λ_ h=>h.elim) aZ;rw[aL.o]at f;refine f.mono ?_;rintro e al ⟨ao,cap,rfl,ab,E⟩;obtain⟨ak,ac⟩:=Zh2 ab E;clear ab E f;go_wp2;go_ret2;refine⟨ao,cap,by rw[K.o];rfl,?_⟩;rw[K.o];have f:=bd.o;rw[bo.o,aL.o]at f;exact Qpt f aw ak ac
end
section
variable {n n' N N2 : Nat} {A B O O' Ok Op S : Nat → Prop} {w w' wr w1 w4 w5 W3 : World} {cb pb kb db om : Nat} {l l' : List St} {s s' : St} {G G' : List (Int × Goes)} {K : List (Int × U6)} {C C' : List (Int × Aq)} {br : Int} {b b2 : Br} {lo ao so ao' : Option Addr} {lc cap sO cap' : Nat} {outs outs' pk : List Ye} {ps : List Qv}
theorem Br.lt(h:b.of N A O w cb pb kb db):∀j,O j->j<w.heap.size:=Cq.lt (show Cq N A O w cb pb kb db b.l b.s b.G b.K from h)
theorem Br.keep(h:b.of N A O w cb pb kb db)(e:Kept S w w')(d:∀j,O j->¬S j)(f:∀j,S j->A j)(a:∀j,j<w.heap.size->B j->A j)(c:∀j,O j->B j):b.of N B O w' cb pb kb db:=Cq.keep (show Cq N A O w cb pb kb db b.l b.s b.G b.K from h) e d f a c
end
theorem R7(a:Int)(c:Qz a=true)(w:World):
 Calls prog 16 #[.int .i64 a] w λe w'=>∃(f g d h:Nat) (O:Nat->Prop),e=.returned (.tuple #[.pointer (some ⟨f,0,none⟩),.pointer (some ⟨g,0,none⟩),.pointer (some ⟨d,0,none⟩)])/\(⟨[Z8 a],Z8 a,[],[]⟩:Br).of 0 O O w' d g f h/\Bel w w'/\∀k,O k->w.heap.size<=k:=by
 have z:=Zh c;clear c;go_enter func16,ntmps16;go_wp2_with fail;refine(Cg w 1048576 (by omega)).mono ?_;rintro e x ⟨rfl,m,i,o⟩;have n:Dk (λk=>k=w.heap.size+1\/k=w.heap.size) (λk=>k=w.heap.size+1\/k=w.heap.size) x (w.heap.size+1) 1048576 []:=⟨w.heap.size,[],m _ λ_ h=>h,rfl,by omega,by omega⟩;obtain⟨A,l⟩:=Zh2 (Qr0 _ _ x (λk c=>by omega) (w.heap.size+1) n a z.o) i;clear m i o n;go_wp2_with fail;refine A.mono ?_;rintro e I ⟨f,D,rfl,k2,i,n⟩;obtain⟨m,o,B⟩:=Zh3 (l.of_kept i λk c=>by omega) (show ∀k,D k->w.heap.size<=k fromλk c=>(n k c).elim (λh=>by omega) λh=>Nat.le_trans l.size h) k2;clear k2 i n;go_wp2_with fail;refine(Qnh B).mono ?_;rintro e J ⟨g,rfl,-,E,r,i,q⟩;obtain⟨n,p,F⟩:=Zh3 (m.of_kept i o.o) (show ∀k,E k->w.heap.size<=k fromλk c=>(q k c).elim (o.o k) λh=>Nat.le_trans m.size h) r;clear r i q;go_wp2_with fail;refine(Qjs (s:=Z8 a) F).mono ?_;rintro e H ⟨d,rfl,i,t,q,r⟩;obtain⟨y,C,G⟩:=Zh3 (n.of_kept q p.o) (show ∀k,i k->w.heap.size<=k fromλk c=>(r k c).elim (p.o k) λh=>Nat.le_trans n.size h) (show(⟨[Z8 a],Z8 a,[],[]⟩:Br).of 0 i i H d g f _ from Br.mono (b:=⟨[Z8 a],Z8 a,[],[]⟩) t (λj _ h=>.inr h) λj h=>h);clear t q r;go_wp2;exact bodyPost_ret (v:=.tuple #[.pointer (some ⟨f,0,none⟩),.pointer (some ⟨g,0,none⟩),.pointer (some ⟨d,0,none⟩)]) (by simp[results,results16,go_sem]) rfl ⟨f,g,d,_,i,rfl,G.o,y.o,C.o⟩
end Go.Proofs.YtkdpmdfcdgphlaaGreat
namespace Go.Po
open Go.Mem Go.Proofs.YtkdpmdfcdgphlaaGreat
def Qer(b:Br)(t:Int)(p:Put):Br:=⟨b.l,b.s,if Ga b.s b.G t p=0 then Qu9 t p b.G else b.G,b.K⟩
def Qi8(b:Br)(t:Int)(q:ByteArray):Br:=⟨(Gt b.l b.s b.G t q).1,(Gt b.l b.s b.G t q).2.1,(Gt b.l b.s b.G t q).2.2,b.K⟩
def Qq1(b:Br)(t:Int):Br:=⟨(Co b.l b.s b.G t).1,(Co b.l b.s b.G t).2.1,(Co b.l b.s b.G t).2.2,b.K⟩
def Gx(b:Br)(t c:Int):Br:=⟨(Ku b.l b.s b.G t c).2.1,(Ku b.l b.s b.G t c).2.2.1,(Ku b.l b.s b.G t c).2.2.2,b.K⟩
def Qch(b:Br)(t:Int)(yes:Bool):Br:=⟨(Bz b.l b.s b.G t yes).2.1,(Bz b.l b.s b.G t yes).2.2.1,(Bz b.l b.s b.G t yes).2.2.2,b.K⟩
def At(O:Nat->Prop)(b:Br)(n:Nat)(w0 w:World)(cb pb kb db:Nat):Prop:=b.of n O O w cb pb kb db/\(∀k,O k->w0.heap.size<=k)/\Bel w0 w
def Moves(O O':Nat->Prop)(w w':World):Prop:=Kept O w w'/\∀k,O' k->O k\/w.heap.size<=k
theorem Lx(l:List St)(s:St)(G:List (Int×Goes))(t:Int):(Co l s G t).2.1.broker=s.broker:=by
 unfold Co;split<;>rfl
theorem Qi9(l:List St)(s:St)(G:List (Int×Goes))(t:Int)(q:ByteArray):(Gt l s G t q).2.1.broker=s.broker:=by
 unfold Gt;split<;>rfl
theorem Qja(l:List St)(s:St)(G:List (Int×Goes))(t c:Int):(Ku l s G t c).2.2.1.broker=s.broker:=by
 unfold Ku;repeat' split
 ·rfl
 ·rfl
 ·exact Lx _ _ _ _
 ·exact Ya _ _
 ·rfl
theorem Qmu(l:List St)(s:St)(G:List (Int×Goes))(t:Int)(a:Bool):(Bz l s G t a).2.2.1.broker=s.broker:=by
 unfold Bz;split
 ·exact Ya _ _
 ·split
  ·rfl
  ·exact Lx _ _ _ _
end Go.Po
namespace Go.Proofs.YtkdpmdfcdgphlaaGreat
open Tryz
open Go.RowKit Go.Mem Go.Po
section
variable {n n' : Nat} {A O : Nat → Prop} {w0 w w' : World} {cb pb kb db : Nat} {b b' : Br}
theorem Moves.heap{O a:Nat->Prop}(h:Moves O a w w'){k:Nat}{x:Obj}(c:¬O k)(b:w.heap[k]?=some x):w'.heap[k]?=some x:=h.1.heap c b
theorem Moves.no{O a:Nat->Prop}(h:Moves O a w w'){k:Nat}(c:¬O k)(d:k<w.heap.size):¬a k:=λb=>(h.2 k b).elim c λh=>by omega
theorem Moves.rd{O a:Nat->Prop}(h:Moves O a w w'){α:Type}{r:Rp α}{ao:Option Addr}{cap:Nat}{l:List α}(c:Rd r O w ao cap l):Rd r a w' ao cap l:=
 c.keep h.1 (λ_ h=>h) λk b b=>(h.2 k b).elim id λh=>by omega
theorem At.turn(h:At O b n w0 w cb pb kb db){E:Ending->World->Prop}{f:FuncId}{c:Array Value}
 (o:b.of n O O w cb pb kb db->(∀k,O k->k<w.heap.size)->Calls prog f c w λe w'=>E e w'/\Zq O O w w' λA O w=>b'.of n' A O w cb pb kb db):
 Calls prog f c w λe w'=>E e w'/\∃a,At a b' n' w0 w' cb pb kb db/\Moves O a w w':=by
 obtain⟨d,g,i⟩:=h;refine(o d (Br.lt d)).mono ?_;rintro e w' ⟨p,a,r,l,m⟩;exact⟨p,a,⟨Br.mono r (λj _ h=>.inr h) λj h=>h,λk q=>(m k q).elim (g k) λh=>Nat.le_trans i.size h,i.of_kept l g⟩,l,m⟩
theorem At.turnP(h:At O b n w0 w cb pb kb db){pk:List Ye}{x:Int}{f:FuncId}{c:Array Value}
 (o:b.of n O O w cb pb kb db->(∀k,O k->k<w.heap.size)->Calls prog f c w λe w'=>∃ao cap,e=.returned (.tuple #[.slice ao pk.length cap,.int .i64 x])/\Zq O O w w' λA O w=>b'.of n' A O w cb pb kb db/\Rd Xw A w ao cap pk):
 Calls prog f c w λe w'=>∃ao cap a,e=.returned (.tuple #[.slice ao pk.length cap,.int .i64 x])/\At a b' n' w0 w' cb pb kb db/\Rd Xw a w' ao cap pk/\Moves O a w w':=by
 obtain⟨d,g,i⟩:=h;refine(o d (Br.lt d)).mono ?_;rintro e w' ⟨ao,cap,p,a,⟨r,s⟩,l,m⟩;exact⟨ao,cap,a,p,⟨Br.mono r (λj _ h=>.inr h) λj h=>h,λk q=>(m k q).elim (g k) λh=>Nat.le_trans i.size h,i.of_kept l g⟩,s.mono λ_ _ h=>.inr h,l,m⟩
theorem At.bel(h:At O b n w0 w cb pb kb db)(a:Bel w w'):At O b n w0 w' cb pb kb db:=⟨Br.bel h.1 a,h.2.1,h.2.2.trans a⟩
theorem Rc{g:List St}{s':St}{G':List (Int×Goes)}(h:b.of n A O w cb pb kb db)(o:s'.broker=b.s.broker){E:Ending->World->Prop}{f:FuncId}{c:Array Value}
 (p:∀a:Nat->Prop,Pq n A a w pb kb db b.l b.s b.G->Calls prog f c w λe w'=>E e w'/\Zq A a w w' λA O w=>Pq (n+1) A O w pb kb db g s' G'):
 Calls prog f c w λe w'=>E e w'/\Zq A O w w' λA O w=>(⟨g,s',G',b.K⟩:Br).of (n+1) A O w cb pb kb db:=by
 obtain⟨a,r,C,i,d,j,k,l,m⟩:=show Cq n A O w cb pb kb db b.l b.s b.G b.K from h
 refine(p a d).mono ?_;rintro e w' ⟨q,t⟩;have:=Qn7 (s':=s') d j k i (m.mono (Nat.le_succ n)) o t;rw[l]at this;exact⟨q,this⟩
theorem At.put(h:At O b n w0 w cb pb kb db)(g:n<199)(t:Int)(d:i64 t)(p:Put)(c:p.q.size<=maxLen):
 Calls prog 19 #[.pointer (some ⟨pb,0,none⟩),.int .i64 t,.agg #[.string p.q,.string p.b]] w λe w'=>e=.returned (.int .i64 (Ga b.s b.G t p))/\∃a,At a (Qer b t p) (n+1) w0 w' cb pb kb db/\Moves O a w w':=
 At.turn h λa f=>Rc a rfl λa a=>Qni a (by omega) t d p c
theorem At.take(h:At O b n w0 w cb pb kb db)(d:n<199)(t:Int)(g:i64 t)(q:ByteArray)(f:q.size<=maxLen):
 Calls prog 25 #[.pointer (some ⟨pb,0,none⟩),.int .i64 t,.string q] w λe w'=>e=.returned (.tuple #[.agg (F6 (Gs b.s b.G t q)),.int .i64 (takeC b.s b.G t q)])/\∃a,At a (Qi8 b t q) (n+1) w0 w' cb pb kb db/\Moves O a w w':=
 At.turn h λa c=>Rc a (Qi9 _ _ _ _ _) λa a=>Qme a c d t g q f
theorem At.back(h:At O b n w0 w cb pb kb db)(d:n<199)(t:Int)(f:i64 t):
 Calls prog 20 #[.pointer (some ⟨pb,0,none⟩),.int .i64 t] w λe w'=>e=.returned (.int .i64 (Pm b.s t))/\∃a,At a (Qq1 b t) (n+1) w0 w' cb pb kb db/\Moves O a w w':=
 At.turn h λa c=>Rc a (Lx _ _ _ _) λa a=>Nj a c d t f
theorem At.prep(h:At O b n w0 w cb pb kb db)(f:n<199)(t:Int)(g:i64 t)(c:Int):
 Calls prog 21 #[.pointer (some ⟨pb,0,none⟩),.int .i64 t,.int .i64 c] w λe w'=>e=.returned (.tuple #[.bool (Ku b.l b.s b.G t c).1.1,.int .i64 (Ku b.l b.s b.G t c).1.2])/\∃a,At a (Gx b t c) (n+1) w0 w' cb pb kb db/\Moves O a w w':=
 At.turn h λa d=>Rc a (Qja _ _ _ _ _) λa a=>Qfu a d f t g c
theorem At.say(h:At O b n w0 w cb pb kb db)(f:n<199)(t:Int)(g:i64 t)(a:Bool):
 Calls prog 22 #[.pointer (some ⟨pb,0,none⟩),.int .i64 t,.bool a] w λe w'=>e=.returned (.int .i64 (Bz b.l b.s b.G t a).1)/\∃c,At c (Qch b t a) (n+1) w0 w' cb pb kb db/\Moves O c w w':=
 At.turn h λc d=>Rc c (Qmu _ _ _ _ _) λc c=>Qnj c d f t g a
theorem At.begins(h:At O b n w0 w cb pb kb db)(d:n<199):
 Calls prog 29 #[.pointer (some ⟨cb,0,none⟩)] w λe w'=>e=.returned (.tuple #[.int .i64 (Cr b).1.1,.int .i64 (Cr b).1.2])/\∃a,At a (Cr b).2 (n+1) w0 w' cb pb kb db/\Moves O a w w':=
 At.turn h λa c=>Qrb b a c d
theorem At.abort(h:At O b n w0 w cb pb kb db)(d:n<199)(t:Int)(f:i64 t):
 Calls prog 54 #[.pointer (some ⟨cb,0,none⟩),.int .i64 t] w λe w'=>e=.returned (.int .i64 (Qgf b t).1)/\∃a,At a (Qgf b t).2 (n+1) w0 w' cb pb kb db/\Moves O a w w':=
 At.turn h λa c=>Qq9 b a c d t f
theorem At.vote(h:At O b n w0 w cb pb kb db)(g:n<198)(frm:Int)(f:i64 frm)(t:Int)(i:i64 t)(a:Bool):
 Calls prog 32 #[.pointer (some ⟨cb,0,none⟩),.int .i64 frm,.int .i64 t,.bool a] w λe w'=>∃ao cap c,e=.returned (.tuple #[.slice ao (Bw b frm t a).1.1.length cap,.int .i64 (Bw b frm t a).1.2])/\At c (Bw b frm t a).2 (n+2) w0 w' cb pb kb db/\Rd Xw c w' ao cap (Bw b frm t a).1.1/\Moves O c w w':=
 At.turnP h λc d=>Qra b c d g frm f t i a
theorem At.commit{a:World}(h:At O b n w0 w cb pb kb db)(m:Bel w a)(g:n<199)(t:Int)(j:i64 t)(l:List Kr)(po:Option Addr)(pc:Nat)(i:Rd Fx (λk=>k<w.heap.size) a po pc l)(f:l.length<=100000):
 Calls prog 30 #[.pointer (some ⟨cb,0,none⟩),.int .i64 t,.slice po l.length pc] a λe w'=>∃ao cap c,e=.returned (.tuple #[.slice ao (Uz b t l).1.1.length cap,.int .i64 (Uz b t l).1.2])/\At c (Uz b t l).2 (n+1) w0 w' cb pb kb db/\Rd Xw c w' ao cap (Uz b t l).1.1/\Moves O c a w':=
 At.turnP (At.bel h m) λc d=>Qpo b c d g t j l po pc (i.mono λk _ c=>Br.lt h.1 k c) f
theorem At.told(h:At O b n w0 w cb pb kb db)(f:n<199)(frm t:Int)(d:i64 frm)(g:i64 t):
 Calls prog 49 #[.pointer (some ⟨cb,0,none⟩),.int .i64 frm,.int .i64 t] w λe w'=>e=.returned (.int .i64 (Qcy b frm t).1)/\∃a,At a (Qcy b frm t).2 (n+1) w0 w' cb pb kb db/\Moves O a w w':=
 At.turn h λa c=>Qv1 b a c f frm t d g
theorem At.state(o:At O b n w0 w cb pb kb db):Calls prog 23 #[.pointer (some ⟨kb,0,none⟩)] w λe w'=>∃i c m g h a l f j d,e=.returned (.agg #[.int .i64 b.s.broker,.int .i64 b.s.nextId,.int .i64 b.s.nextSeq,.int .i64 b.s.tx,.slice i b.s.ms.length c,.slice m b.s.waits.length g,.slice h b.s.ends.length a,.slice l b.s.opens.length f,.slice j b.s.noes.length d])/\StR (λk=>k<w.heap.size) w' b.s i c m g h a l f j d/\Bel w w':=by
 obtain⟨a,c,d⟩:=o;exact Fu a
theorem At.word(h:At O b n w0 w cb pb kb db)(t:Int)(c:i64 t):Calls prog 31 #[.pointer (some ⟨cb,0,none⟩),.int .i64 t] w λe w'=>e=.returned (.int .i64 (Qcz b t))/\Bel w w':=by
 obtain⟨a,d,f⟩:=h;exact Qv2 b a t c
theorem At.ask(h:At O b n w0 w cb pb kb db)(frm t:Int)(g:i64 t):
 Calls prog 33 #[.pointer (some ⟨cb,0,none⟩),.int .i64 frm,.int .i64 t] w λe w'=>∃ao cap,e=.returned (.slice ao (Uo b frm t).length cap)/\Rd Xw O w' ao cap (Uo b frm t)/\Bel w w':=by
 obtain⟨a,i,j⟩:=h;refine(Qyd b a frm t g).mono ?_;rintro e w' ⟨ao,cap,d,f,c⟩;exact⟨ao,cap,d,f.rd (Br.lt a),c⟩
end
end Go.Proofs.YtkdpmdfcdgphlaaGreat

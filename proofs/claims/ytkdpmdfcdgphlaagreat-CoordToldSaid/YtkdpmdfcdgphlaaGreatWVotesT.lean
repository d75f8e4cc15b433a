/- Part of this claim's proof. Conditions: as its theorems say. -/
import Derived.Test.YtkdpmdfcdgphlaaGreatWLAsk
import Derived.Test.YtkdpmdfcdgphlaaGreatM39
import Derived.Test.YtkdpmdfcdgphlaaGreatM32
import Derived.Test.YtkdpmdfcdgphlaaGreatM34
import Derived.Test.YtkdpmdfcdgphlaaGreatM2
set_option linter.all false
namespace Go.Po
open Go.Mem Go.Proofs.YtkdpmdfcdgphlaaGreat
def eqSt(a b:St):Bool:=a.broker==b.broker&&a.nextId==b.nextId&&a.nextSeq==b.nextSeq&&a.tx==b.tx&&a.ms.length==0&&b.ms.length==0&&a.waits.length==0&&b.waits.length==0&&a.ends.map (λx=>(x.tid,x.yes))==b.ends.map (λx=>(x.tid,x.yes))&&a.opens.map (λx=>(x.tid,x.parts))==b.opens.map (λx=>(x.tid,x.parts))&&a.noes.map (λx=>(x.tid,x.parts))==b.noes.map (λx=>(x.tid,x.parts))
def eqBr(a b:Br):Bool:=eqSt a.s b.s&&a.l.length==1&&(match a.l,b.l with|[x],[y]=>eqSt x y|_,_=>false)&&a.G.length==0&&b.G.length==0&&a.K.map (λx=>(x.1,x.2.Y,x.2.N,x.2.ns,x.2.ticks))==b.K.map (λx=>(x.1,x.2.Y,x.2.N,x.2.ns,x.2.ticks))
theorem map_inj{α b:Type}{f:α->b}(a:∀x y,f x=f y->x=y):∀{l m:List α},l.map f=m.map f->l=m
 | [],[],_=>rfl
 | [],_::_,h=>by simp at h
 | _::_,[],h=>by simp at h
 | x::l,y::m,h=>by
  simp only[List.map_cons,List.cons.injEq]at h;rw[a x y h.1,map_inj a h.2]
theorem eqSt_eq{a b:St}(h:eqSt a b=true):a=b:=by
 simp only[eqSt,Bool.and_eq_true,beq_iff_eq]at h;obtain⟨⟨⟨⟨⟨⟨⟨⟨⟨⟨r,s⟩,t⟩,v⟩,e⟩,f⟩,g⟩,i⟩,j⟩,c⟩,d⟩:=h;have q:=map_inj (λx y h=>by cases x;cases y;simp_all) j;have k:=map_inj (λx y h=>by cases x;cases y;simp_all) c;have l:=map_inj (λx y h=>by cases x;cases y;simp_all) d;have m:=List.eq_nil_of_length_eq_zero e;have n:=List.eq_nil_of_length_eq_zero f;have o:=List.eq_nil_of_length_eq_zero g;have p:=List.eq_nil_of_length_eq_zero i;cases a;cases b;simp_all
theorem eqBr_eq{a b:Br}(h:eqBr a b=true):a=b:=by
 simp only[eqBr,Bool.and_eq_true,beq_iff_eq]at h;obtain⟨⟨⟨⟨⟨f,t⟩,c⟩,g⟩,i⟩,j⟩:=h;have o:=eqSt_eq f;have q:=List.eq_nil_of_length_eq_zero g;have r:=List.eq_nil_of_length_eq_zero i;have s:=map_inj (λx y h=>by obtain⟨_,x⟩:=x;obtain⟨_,y⟩:=y;cases x;cases y;simp_all) j;obtain⟨d,v,k,l⟩:=a;obtain⟨e,w,m,n⟩:=b;have p:d=e:=by
  match d,e,c with
  | [x],[y],c=>rw[eqSt_eq c]
 simp_all
def shs(q:Nat)(n:Int):List Kr:=(List.range q).map fun (i:Nat)=>⟨2+(i:Int),n⟩
def vC(q:Nat)(n:Int):Br:=(Uz k1 u17 (shs q n)).2
def vY(q S:Nat):List (Int×Bool):=(List.range q).map fun (i:Nat)=>(2+(i:Int),S.testBit i)
def vB(q:Nat)(n:Int)(S:Nat):Br:=⟨(vC q n).l,(vC q n).s,(vC q n).G,[(u17,⟨vY q S,[],(shs q n).map λx=>(x.to,x.n),0⟩)]⟩
def vE(q:Nat)(n:Int)(yes:Bool):Br:=(Bw (vB q n (2 ^ q-2)) 2 u17 yes).2
end Go.Po
namespace Go.Po
def vA(S:Nat):Array Value:=#[.bool false,.bool false,.bool (S.testBit 0),.bool (S.testBit 1),.bool (S.testBit 2),.bool (S.testBit 3),.bool (S.testBit 4),.bool (S.testBit 5),.bool false,.bool false]
theorem rem_q(x:Int):∃(q:Nat) (r:Int),0<q/\q<7/\(Int.tmod (Int.tmod x 6+6) 6)=r/\IntKind.i64.wrap (Int.tmod x 6+6)=Int.tmod x 6+6/\IntKind.i64.wrap (1+r)=(q:Int):=by
 have a:-6<Int.tmod x 6/\Int.tmod x 6<6:=⟨by have:=Int.lt_tmod_of_pos x (b:=6) (by omega);omega,Int.tmod_lt_of_pos x (by omega)⟩;have c:0<=Int.tmod (Int.tmod x 6+6) 6:=Int.tmod_nonneg _ (by omega);have d:Int.tmod (Int.tmod x 6+6) 6<6:=Int.tmod_lt_of_pos _ (by omega);refine⟨(1+Int.tmod (Int.tmod x 6+6) 6).toNat,_,by omega,by omega,rfl,by rw[IntKind.wrap_i64];omega,?_⟩;rw[IntKind.wrap_i64];omega
theorem rem_8(x:Int):∃(f:Nat) (r:Int),0<f/\f<9/\(Int.tmod (Int.tmod x 8+8) 8)=r/\IntKind.i64.wrap (Int.tmod x 8+8)=Int.tmod x 8+8/\IntKind.i64.wrap (1+r)=(f:Int):=by
 have a:-8<Int.tmod x 8/\Int.tmod x 8<8:=⟨by have:=Int.lt_tmod_of_pos x (b:=8) (by omega);omega,Int.tmod_lt_of_pos x (by omega)⟩;have c:0<=Int.tmod (Int.tmod x 8+8) 8:=Int.tmod_nonneg _ (by omega);have d:Int.tmod (Int.tmod x 8+8) 8<8:=Int.tmod_lt_of_pos _ (by omega);refine⟨(1+Int.tmod (Int.tmod x 8+8) 8).toNat,_,by omega,by omega,rfl,by rw[IntKind.wrap_i64];omega,?_⟩;rw[IntKind.wrap_i64];omega
theorem shs_take{q i:Nat}(h:i<q)(n:Int):(shs q n).take (i+1)=(shs q n).take i++[⟨2+(i:Int),n⟩]:=by
 rw[List.take_add_one];simp[shs,h]
theorem vA_get(S:Nat):∀t,t<6->(vA S)[2+t]?=some (.bool (S.testBit t))
 | 0,_=>rfl
 | 1,_=>rfl
 | 2,_=>rfl
 | 3,_=>rfl
 | 4,_=>rfl
 | 5,_=>rfl
theorem tb(S t j:Nat):(S ||| 2 ^ t).testBit j=(S.testBit j||decide (t=j)):=by rw[Nat.testBit_or,Nat.testBit_two_pow]
theorem vA_set(S:Nat):∀t,t<6->(vA S).setIfInBounds (2+t) (.bool true)=vA (S ||| 2 ^ t)
 | 0,_=>by unfold vA;rw[tb,tb,tb,tb,tb,tb];simp
 | 1,_=>by unfold vA;rw[tb,tb,tb,tb,tb,tb];simp
 | 2,_=>by unfold vA;rw[tb,tb,tb,tb,tb,tb];simp
 | 3,_=>by unfold vA;rw[tb,tb,tb,tb,tb,tb];simp
 | 4,_=>by unfold vA;rw[tb,tb,tb,tb,tb,tb];simp
 | 5,_=>by unfold vA;rw[tb,tb,tb,tb,tb,tb];simp
theorem v_or:∀q,q<7->∀S,S<2 ^ q->∀j,j<q->S ||| 2 ^ j<2 ^ q:=by decide +kernel
end Go.Po
namespace Go.Proofs.YtkdpmdfcdgphlaaGreat
open Go.RowKit Go.Mem Go.Po
theorem el_share:El Tryz.prog 71 73 2 16:=El.mk' Tryz.underlying71 (z:=.agg #[.int .i64 0,.int .i64 0]) (by kernel_rfl) rfl
theorem srcSh(w:World){b:Nat}(x:Kr){T:TypeId}{c:Nat×Nat}(h:w.heap[b]?=some (.cells #[.int .i64 x.to,.int .i64 x.n] T c)):Src Tryz.prog 2 71 (.slice (some ⟨b,0,none⟩) 1 1) 1 [.int .i64 x.to,.int .i64 x.n] w:=
 Src.ofSlice w Tryz.underlying71 ⟨b,0,none⟩ 1 1 [.int .i64 x.to,.int .i64 x.n] rfl (λj d a=>by
  have:=cell_of_block h j d (by simpa using a);rw[Addr.add_lit,Nat.zero_add];exact this) (λv a=>by simp only[List.mem_cons,List.not_mem_nil,or_false]at a;rcases a with rfl|rfl<;>rfl)
end Go.Proofs.YtkdpmdfcdgphlaaGreat

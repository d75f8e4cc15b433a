/- Part of this claim's proof. Conditions: as its theorems say. -/
import Derived.Test.YtkdpmdfcdgphlaaGreatWLAsk
set_option linter.all false
namespace Go.Po
open Go.Mem Go.Proofs.YtkdpmdfcdgphlaaGreat
def eqSt(a b:St):Bool:=a.broker==b.broker&&a.nextId==b.nextId&&a.nextSeq==b.nextSeq&&a.tx==b.tx&&a.ms.length==0&&b.ms.length==0&&a.waits.length==0&&b.waits.length==0&&a.ends.map (λx=>(x.tid,x.yes))==b.ends.map (λx=>(x.tid,x.yes))&&a.opens.map (λx=>(x.tid,x.parts))==b.opens.map (λx=>(x.tid,x.parts))&&a.noes.map (λx=>(x.tid,x.parts))==b.noes.map (λx=>(x.tid,x.parts))
def eqBr(a b:Br):Bool:=eqSt a.s b.s&&a.l.length==1&&(match a.l,b.l with|[x],[y]=>eqSt x y|_,_=>false)&&a.G.length==0&&b.G.length==0&&a.K.map (λx=>(x.1,x.2.Y,x.2.N,x.2.ns,x.2.ticks))==b.K.map (λx=>(x.1,x.2.Y,x.2.N,x.2.ns,x.2.ticks))
theorem map_inj{α b:Type}{f:α->b}(a:∀x y,f x=f y->x=y):∀{l m:List α},l.map f=m.map f->l=m
 | [],[],_=>rfl
 | [],_::_,h=>by simp at h
 | _::_,[],h=>by simp at h
 | x::l,y::m,h=>by
  simp only[List.map_cons,List.cons.injEq]at h;rw[a x y h.1,map_inj a h.2]
theorem eqSt_eq{a b:St}(h:eqSt a b=true):a=b:=by
 simp only[eqSt,Bool.and_eq_true,beq_iff_eq]at h;obtain⟨⟨⟨⟨⟨⟨⟨⟨⟨⟨r,s⟩,t⟩,v⟩,e⟩,f⟩,g⟩,i⟩,j⟩,c⟩,d⟩:=h;have q:=map_inj (λx y h=>by cases x;cases y;simp_all) j;have k:=map_inj (λx y h=>by cases x;cases y;simp_all) c;have l:=map_inj (λx y h=>by cases x;cases y;simp_all) d;have m:=List.eq_nil_of_length_eq_zero e;have n:=List.eq_nil_of_length_eq_zero f;have o:=List.eq_nil_of_length_eq_zero g;have p:=List.eq_nil_of_length_eq_zero i;cases a;cases b;simp_all
theorem eqBr_eq{a b:Br}(h:eqBr a b=true):a=b:=by
 simp only[eqBr,Bool.and_eq_true,beq_iff_eq]at h;obtain⟨⟨⟨⟨⟨f,t⟩,c⟩,g⟩,i⟩,j⟩:=h;have o:=eqSt_eq f;have q:=List.eq_nil_of_length_eq_zero g;have r:=List.eq_nil_of_length_eq_zero i;have s:=map_inj (λx y h=>by obtain⟨_,x⟩:=x;obtain⟨_,y⟩:=y;cases x;cases y;simp_all) j;obtain⟨d,v,k,l⟩:=a;obtain⟨e,w,m,n⟩:=b;have p:d=e:=by
  match d,e,c with
  | [x],[y],c=>rw[eqSt_eq c]
 simp_all
def shs(q:Nat)(n:Int):List Kr:=(List.range q).map fun (i:Nat)=>⟨2+(i:Int),n⟩
def vC(q:Nat)(n:Int):Br:=(Uz k1 u17 (shs q n)).2
def vY(q S:Nat):List (Int×Bool):=(List.range q).map fun (i:Nat)=>(2+(i:Int),S.testBit i)
def vB(q:Nat)(n:Int)(S:Nat):Br:=⟨(vC q n).l,(vC q n).s,(vC q n).G,[(u17,⟨vY q S,[],(shs q n).map λx=>(x.to,x.n),0⟩)]⟩
def vE(q:Nat)(n:Int)(yes:Bool):Br:=(Bw (vB q n (2 ^ q-2)) 2 u17 yes).2
def vSt(q:Nat)(n:Int)(how S:Nat):Br:=if how=2 then vB q n S else vE q n (how==3)
def vNx(q how S f:Nat)(no:Bool):Nat×Nat×Nat:=
 if how=2/\2<=f/\f<2+q then (if no=true then (4,S ||| 2 ^ (f-2),q) else if S ||| 2 ^ (f-2)=2 ^ q-1 then (3,S ||| 2 ^ (f-2),q) else (2,S ||| 2 ^ (f-2),0)) else (how,S,0)
theorem v_com:∀q,q<7->0<q->((Uz k1 u17 (shs q 1)).1.2=11/\(Uz k1 u17 (shs q 1)).1.1.length=q/\eqBr (vC q 1) (vB q 1 0)=true):=by decide +kernel
theorem v_word:∀q,q<7->0<q->(Qcz (vB q 1 0) u17=2/\Qcz (vE q 1 true) u17=3/\Qcz (vE q 1 false) u17=4/\(vB q 1 0).s.noes.length=0/\(vB q 1 0).s.opens.length=1/\(vE q 1 true).s.noes.length=0/\(vE q 1 true).s.opens.length=0/\(vE q 1 false).s.noes.length=1/\(vE q 1 false).s.opens.length=0):=by decide +kernel
theorem v_end:∀q,q<7->0<q->∀y no:Bool,∀f:Nat,f<9->((Bw (vE q 1 y) f u17 (!no)).1.1.length=0/\(Bw (vE q 1 y) f u17 (!no)).1.2=0/\eqBr (Bw (vE q 1 y) f u17 (!no)).2 (vE q 1 y)=true):=by decide +kernel
theorem v_ask:∀q,q<7->0<q->∀S,S<2 ^ q-1->∀no:Bool,∀f:Nat,f<9->((Bw (vB q 1 S) f u17 (!no)).1.1.length=(vNx q 2 S f no).2.2/\(Bw (vB q 1 S) f u17 (!no)).1.2=0/\eqBr (Bw (vB q 1 S) f u17 (!no)).2 (vSt q 1 (vNx q 2 S f no).1 (vNx q 2 S f no).2.1)=true):=by decide +kernel
end Go.Po

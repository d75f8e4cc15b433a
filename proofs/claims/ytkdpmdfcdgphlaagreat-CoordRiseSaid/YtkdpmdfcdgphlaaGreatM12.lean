/- Part of this claim's proof. Conditions: as its theorems say. -/
import Derived.Test.YtkdpmdfcdgphlaaGreatM9
set_option linter.all false
set_option maxHeartbeats 1600000
set_option maxRecDepth 100000
namespace Go.Po
def Kh{α:Type}(f:α->Int)(l:List α):Bool:=ups f Zw none l&&decide (l.length<=2000)
theorem Jk{t:Int}(h:Zw t=true):i64 t:=by
 simp only[Zw,decide_eq_true_eq]at h;unfold home at h;split at h
 ·unfold i64;omega
 ·omega
theorem Qo2{α:Type}{f:α->Int}{ok:Int->Bool}:∀{l:List α} {p:Option Int},ups f ok p l=true->∀x∈l,ok (f x)=true
 | [],_,_,x,b=>by simp at b
 | a::l,p,h,x,b=>by
  simp only[ups,Bool.and_eq_true]at h;rcases List.mem_cons.1 b with rfl|b
  ·exact h.1.1
  ·exact Qo2 h.2 x b
theorem Qh7{α:Type}{f:α->Int}{ok:Int->Bool}:∀{l:List α} {a:Int},ups f ok (some a) l=true->∀x∈l,a<f x
 | [],_,_,x,c=>by simp at c
 | b::l,a,h,x,c=>by
  simp only[ups,Bool.and_eq_true,decide_eq_true_eq]at h;rcases List.mem_cons.1 c with rfl|c
  ·exact h.1.2
  ·exact Int.lt_trans h.1.2 (Qh7 h.2 x c)
theorem Qb4{α:Type}{f:α->Int}{ok:Int->Bool}:∀{l:List α} {p:Option Int},ups f ok p l=true->Jv f l
 | [],_,_,i,j,x,y,_,hx,_=>by simp at hx
 | a::l,p,h,i,j,x,y,hij,hx,hy=>by
  simp only[ups,Bool.and_eq_true]at h;rcases j with _|j
  ·omega
  ·rcases i with _|i
   ·simp only[List.getElem?_cons_zero,Option.some.injEq]at hx
    subst hx;exact Qh7 h.2 y (List.mem_of_getElem? (by simpa using hy))
   ·exact Qb4 h.2 i j x y (by omega) (by simpa using hx) (by simpa using hy)
end Go.Po
namespace Go.Proofs.YtkdpmdfcdgphlaaGreat
open Tryz
open Go.RowKit Go.Mem Go.Po
theorem Ux(t:Int)(h:Zw t=true)(w:World):Calls prog 58 #[.int .i64 t] w λe w'=>e=.returned (.bool true)/\w=w':=by
 have:=Wq t (Jk h) w;rwa [h]at this
theorem Qb5(x:Branch)(a:Option Addr)(b:Nat)(w:World):Calls prog 276 #[.agg #[.int .i64 x.tid,.slice a x.puts.length b]] w λe w'=>e=.returned (.int .i64 x.tid)/\Bel w w':=by
 go_enter func276,ntmps276;go_wp2;go_ret;exact⟨rfl,(Bel.refl w).alloc _⟩
theorem Qb6:∀a w,(callFunc 276 a).run prog w=.ok (.enter 276 a) w:=enters_of func276 (by kernel_rfl) rfl
theorem Qb7(x:Fin)(w:World):Calls prog 278 #[.agg #[.int .i64 x.tid,.bool x.yes]] w λe w'=>e=.returned (.int .i64 x.tid)/\Bel w w':=by
 go_enter func278,ntmps278;go_wp2;go_ret;exact⟨rfl,(Bel.refl w).alloc _⟩
theorem Qb8:∀a w,(callFunc 278 a).run prog w=.ok (.enter 278 a) w:=enters_of func278 (by kernel_rfl) rfl
theorem Qb9(x:Qv)(a:Option Addr)(b:Nat)(w:World):Calls prog 280 #[.agg #[.int .i64 x.tid,.slice a x.parts.length b]] w λe w'=>e=.returned (.int .i64 x.tid)/\Bel w w':=by
 go_enter func280,ntmps280;go_wp2;go_ret;exact⟨rfl,(Bel.refl w).alloc _⟩
theorem Qca:∀a w,(callFunc 280 a).run prog w=.ok (.enter 280 a) w:=enters_of func280 (by kernel_rfl) rfl
theorem Qcb(x:Qv)(a:Option Addr)(b:Nat)(w:World):Calls prog 281 #[.agg #[.int .i64 x.tid,.slice a x.parts.length b]] w λe w'=>e=.returned (.int .i64 x.tid)/\Bel w w':=by
 go_enter func281,ntmps281;go_wp2;go_ret;exact⟨rfl,(Bel.refl w).alloc _⟩
theorem Qcc:∀a w,(callFunc 281 a).run prog w=.ok (.enter 281 a) w:=enters_of func281 (by kernel_rfl) rfl
theorem Qi5:(∀(A:Nat->Prop) (w:World) (ao:Option Addr) (cap:Nat) (l:List Branch) (h:Rd Zm A w ao cap l) (a:Kh (λx=>x.tid) l=true),Calls prog 275 #[.slice ao l.length cap,.func (.func 276) #[] #[]] w λe w'=>e=.returned (.bool true)/\Bel w w') ∧
 (∀(A:Nat->Prop) (w:World) (ao:Option Addr) (cap:Nat) (l:List Fin) (h:Rd J7 A w ao cap l) (a:Kh (λx=>x.tid) l=true),Calls prog 277 #[.slice ao l.length cap,.func (.func 278) #[] #[]] w λe w'=>e=.returned (.bool true)/\Bel w w') ∧
 (∀(A:Nat->Prop) (w:World) (ao:Option Addr) (cap:Nat) (l:List Qv) (h:Rd Z4 A w ao cap l) (a:Kh (λx=>x.tid) l=true),Calls prog 279 #[.slice ao l.length cap,.func (.func 280) #[] #[]] w λe w'=>e=.returned (.bool true)/\Bel w w') ∧
 (∀(A:Nat->Prop) (w:World) (ao:Option Addr) (cap:Nat) (l:List Qv) (h:Rd Z4 A w ao cap l) (a:Kh (λx=>x.tid) l=true),Calls prog 279 #[.slice ao l.length cap,.func (.func 281) #[] #[]] w λe w'=>e=.returned (.bool true)/\Bel w w'):=by
 refine⟨have k1:=trivial;?_,have k2:=trivial;?_,have k3:=trivial;?_,have k4:=trivial;?_⟩;all_goals
  intro A w ao cap l h a;have H:=Zh h;first|(have k2:=k2;have C:=Qb8)|(have k3:=k3;have C:=Qca)|(have k4:=k4;have C:=Qcc)|(have C:=Qb6)
  simp only[Kh,Bool.and_eq_true,decide_eq_true_eq]at a;have F:=Zh a.1;have O:=a.2;obtain⟨n,b⟩:=Zx l.length;rw[<-b]at O ⊢;have M:=Zh b;have W:(n:Int)<=2000:=by omega
  clear h a b;first|(have k1:=k1;go_enter func275,ntmps275)|(have k2:=k2;go_enter func277,ntmps277)|(go_enter func279,ntmps279)
  go_wp2;go_loopw[5,6,9] (λ_ _ i wr=>∃k:Nat,k<=n/\i=.int .i64 k/\Hid (Bel w wr)) (λ_ _ i _=>n-(intOf i).toNat)
  case atStart=>exact⟨0,Nat.zero_le _,rfl,Zh (Bel.refl _)⟩
  case round=>
   obtain⟨k,S,rfl,c⟩:=hrel;by_cases T:k<n
   ·have E:k<l.length:=by have:=M.o;omega
    obtain⟨x,f⟩:∃x,l[k]?=some x:=⟨l[k],by simp[E]⟩;first|(have k1:=k1;obtain⟨G,off,a,b,rfl,J,c0,c1,-⟩:=Kl (H.bel c.o) f)|(have k2:=k2;obtain⟨G,off,rfl,J,c0,c1⟩:=Ba (H.bel c.o) f)|(obtain⟨G,off,a,b,rfl,J,c0,c1,-⟩:=Vo (H.bel c.o) f)
    have d:=Zh (Qo2 F x (List.mem_of_getElem? f));rcases k with _|j
    ·rw[Nat.zero_mul,Nat.add_zero]at c0 c1
     clear f E;go_wp2_with fail;first|(have k1:=k1;have h:=λg:Up (wr.alloc (.cells #[.int .i64 x.tid,.slice a x.puts.length b] 58))=>Up.cell (p:=⟨wr.heap.size,0,none⟩) (v:=.int .i64 x.tid) (by go_simp) g)|(have k2:=k2;have h:=λg:Up (wr.alloc (.cells #[.int .i64 x.tid,.bool x.yes] 51))=>Up.cell (p:=⟨wr.heap.size,0,none⟩) (v:=.int .i64 x.tid) (by go_simp) g)|(have h:=λg:Up (wr.alloc (.cells #[.int .i64 x.tid,.slice a x.parts.length b] 134))=>Up.cell (p:=⟨wr.heap.size,0,none⟩) (v:=.int .i64 x.tid) (by go_simp) g)
     first|(have k1:=k1;have m:=λg:Up (wr.alloc (.cells #[.int .i64 x.tid,.slice a x.puts.length b] 58))=>Up.cell (p:=⟨wr.heap.size,1,none⟩) (v:=(.slice a x.puts.length b)) (by go_simp) g)|(have k2:=k2;have m:=λg:Up (wr.alloc (.cells #[.int .i64 x.tid,.bool x.yes] 51))=>Up.cell (p:=⟨wr.heap.size,1,none⟩) (v:=(.bool x.yes)) (by go_simp) g)|(have m:=λg:Up (wr.alloc (.cells #[.int .i64 x.tid,.slice a x.parts.length b] 134))=>Up.cell (p:=⟨wr.heap.size,1,none⟩) (v:=(.slice a x.parts.length b)) (by go_simp) g)
     refine Qs (by kernel_rfl) (by kernel_rfl) ?_;first|(have k2:=k2;repeat(go_big_quiet_step(first|(go_at_call 58;exact Calls.up_same (Ux x.tid d.o _))|(go_at_call 278;exact Calls.up (Qb7 x  _)))))|(have k3:=k3;repeat(go_big_quiet_step(first|(go_at_call 58;exact Calls.up_same (Ux x.tid d.o _))|(go_at_call 280;exact Calls.up (Qb9 x a b _)))))|(have k4:=k4;repeat(go_big_quiet_step(first|(go_at_call 58;exact Calls.up_same (Ux x.tid d.o _))|(go_at_call 281;exact Calls.up (Qcb x a b _)))))|(repeat(go_big_quiet_step(first|(go_at_call 58;exact Calls.up_same (Ux x.tid d.o _))|(go_at_call 276;exact Calls.up (Qb5 x a b _)))))
     refine Xg λP r=>?_
     have B:=Zh (((c.alloc _).trans r));clear r h m c0 c1;go_wp2;go_roundw
     case rel=>exact⟨1,by omega,by go_num,B⟩
     case measure=>simp[intOf];omega
    ·obtain⟨y,s⟩:∃y,l[j]?=some y:=⟨l[j],by simp[show j<l.length by omega]⟩
     have N:x.tid>y.tid:=Qb4 F.o j (j+1) y x (by omega) s f;have V:(y.tid>=x.tid)=False:=eq_false (by omega);first|(have k1:=k1;obtain⟨I,L,z,t,D,K,o,q,-⟩:=Kl (H.bel c.o) s)|(have k2:=k2;obtain⟨I,L,D,K,o,q⟩:=Ba (H.bel c.o) s)|(obtain⟨I,L,z,t,D,K,o,q,-⟩:=Vo (H.bel c.o) s)
     cases D;have X:IntKind.i64.wrap (((j+1:Nat):Int)-1)=(j:Int):=by rw[IntKind.wrap_i64];omega
     have Q:((j+1:Nat):Int)>0:=by omega
     have R:(j:Int)<(n:Int):=by omega
     have U:=Zd c0;clear f E s N;go_wp2_with fail;first|(have k1:=k1;have h:=λg:Up (wr.alloc (.cells #[.int .i64 x.tid,.slice a x.puts.length b] 58))=>Up.cell (p:=⟨wr.heap.size,0,none⟩) (v:=.int .i64 x.tid) (by go_simp) g)|(have k2:=k2;have h:=λg:Up (wr.alloc (.cells #[.int .i64 x.tid,.bool x.yes] 51))=>Up.cell (p:=⟨wr.heap.size,0,none⟩) (v:=.int .i64 x.tid) (by go_simp) g)|(have h:=λg:Up (wr.alloc (.cells #[.int .i64 x.tid,.slice a x.parts.length b] 134))=>Up.cell (p:=⟨wr.heap.size,0,none⟩) (v:=.int .i64 x.tid) (by go_simp) g)
     first|(have k1:=k1;have m:=λg:Up (wr.alloc (.cells #[.int .i64 x.tid,.slice a x.puts.length b] 58))=>Up.cell (p:=⟨wr.heap.size,1,none⟩) (v:=(.slice a x.puts.length b)) (by go_simp) g)|(have k2:=k2;have m:=λg:Up (wr.alloc (.cells #[.int .i64 x.tid,.bool x.yes] 51))=>Up.cell (p:=⟨wr.heap.size,1,none⟩) (v:=(.bool x.yes)) (by go_simp) g)|(have m:=λg:Up (wr.alloc (.cells #[.int .i64 x.tid,.slice a x.parts.length b] 134))=>Up.cell (p:=⟨wr.heap.size,1,none⟩) (v:=(.slice a x.parts.length b)) (by go_simp) g)
     first|(have k1:=k1;have f:=λg:Up (wr.alloc (.cells #[.int .i64 x.tid,.slice a x.puts.length b] 58))=>Up.cell (((Bel.refl wr).alloc (.cells #[.int .i64 x.tid,.slice a x.puts.length b] 58)).cell o) g)|(have k2:=k2;have f:=λg:Up (wr.alloc (.cells #[.int .i64 x.tid,.bool x.yes] 51))=>Up.cell (((Bel.refl wr).alloc (.cells #[.int .i64 x.tid,.bool x.yes] 51)).cell o) g)|(have f:=λg:Up (wr.alloc (.cells #[.int .i64 x.tid,.slice a x.parts.length b] 134))=>Up.cell (((Bel.refl wr).alloc (.cells #[.int .i64 x.tid,.slice a x.parts.length b] 134)).cell o) g)
     first|(have k1:=k1;have s:=λg:Up (wr.alloc (.cells #[.int .i64 x.tid,.slice a x.puts.length b] 58))=>Up.cell (((Bel.refl wr).alloc (.cells #[.int .i64 x.tid,.slice a x.puts.length b] 58)).cell q) g)|(have k2:=k2;have s:=λg:Up (wr.alloc (.cells #[.int .i64 x.tid,.bool x.yes] 51))=>Up.cell (((Bel.refl wr).alloc (.cells #[.int .i64 x.tid,.bool x.yes] 51)).cell q) g)|(have s:=λg:Up (wr.alloc (.cells #[.int .i64 x.tid,.slice a x.parts.length b] 134))=>Up.cell (((Bel.refl wr).alloc (.cells #[.int .i64 x.tid,.slice a x.parts.length b] 134)).cell q) g)
     refine Qs (by kernel_rfl) (by kernel_rfl) ?_;first|(have k2:=k2;repeat(go_big_quiet_step(first|(go_at_call 58;exact Calls.up_same (Ux x.tid d.o _))|(go_at_call 278;exact Calls.up (Qb7 x  _))|(go_at_call 278;exact Calls.up (Qb7 y  _)))))|(have k3:=k3;repeat(go_big_quiet_step(first|(go_at_call 58;exact Calls.up_same (Ux x.tid d.o _))|(go_at_call 280;exact Calls.up (Qb9 x a b _))|(go_at_call 280;exact Calls.up (Qb9 y z t _)))))|(have k4:=k4;repeat(go_big_quiet_step(first|(go_at_call 58;exact Calls.up_same (Ux x.tid d.o _))|(go_at_call 281;exact Calls.up (Qcb x a b _))|(go_at_call 281;exact Calls.up (Qcb y z t _)))))|(repeat(go_big_quiet_step(first|(go_at_call 58;exact Calls.up_same (Ux x.tid d.o _))|(go_at_call 276;exact Calls.up (Qb5 x a b _))|(go_at_call 276;exact Calls.up (Qb5 y z t _)))))
     refine Xg λP r=>?_
     have B:=Zh (((c.alloc _).trans r));clear r h m f s c0 c1 o q;go_wp2;go_roundw
     case rel=>exact⟨j+2,by omega,by go_num,B⟩
     case measure=>simp[intOf];omega
   ·obtain rfl:k=n:=by omega
    go_wp2;go_ret;exact⟨rfl,c⟩
def Qs7:=Qi5.1
def Qs8:=Qi5.2.1
def Qs9:=Qi5.2.2.1
def Qta:=Qi5.2.2.2
end Go.Proofs.YtkdpmdfcdgphlaaGreat

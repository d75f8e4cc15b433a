/- Part of this claim's proof. Conditions: as its theorems say. -/
import Derived.Test.YtkdpmdfcdgphlaaGreatProg
import Derived.Lib.Walk
import Derived.Laws.Rows
import Derived.Lib.SliceRun
import Derived.StillTailTactics
import Derived.Deep.QuietTactic
import Derived.BigQuiet
import Derived.Deep.RegionHeld3
import Derived.Shelf.SlBodiesH
import Derived.Shelf.SlGeneric
import Derived.Laws.BitsAllLaws
import Derived.Test.YtkdpmdfcdgphlaaGreatM1
set_option linter.all false
set_option maxHeartbeats 2000000
set_option maxRecDepth 100000
namespace Go
theorem RowKit.Hid.o {p : Prop} (h : RowKit.Hid p) : p := h
theorem Zh {a : Prop} (h : a) : RowKit.Hid a := h
theorem Zx {α : Sort _} (a : α) : ∃ x, x = a := ⟨a, rfl⟩
theorem Zn {w W : World} {o : Obj} (h : W = w.alloc o) : W.heap[w.heap.size]? = some o := h ▸ heap_alloc_new _ _
theorem Calls.zS {P : Program} {f : FuncId} {a : Array Value} {w : World} {v : Value} {R : Ending → World → Prop} (h : Calls P f a w fun e w' => e = .returned v ∧ w = w') (k : R (.returned v) w) : Calls P f a w R :=
  h.mono fun e w' h => by rw [h.1, ← h.2]; exact k
theorem Calls.zR {P : Program} {f : FuncId} {a : Array Value} {w : World} {v : Value} {Q : World → Prop} {R : Ending → World → Prop} (h : Calls P f a w fun e w' => e = .returned v ∧ Q w') (k : ∀ w', Q w' → R (.returned v) w') : Calls P f a w R :=
  h.mono fun e w' h => by rw [h.1]; exact k w' h.2
theorem Zh2 {a0 a1 : Prop} (x0 : a0) (x1 : a1) : RowKit.Hid a0 ∧ RowKit.Hid a1 := ⟨x0, x1⟩
theorem Zh3 {a0 a1 a2 : Prop} (x0 : a0) (x1 : a1) (x2 : a2) : RowKit.Hid a0 ∧ RowKit.Hid a1 ∧ RowKit.Hid a2 := ⟨x0, x1, x2⟩
theorem Zh4 {a0 a1 a2 a3 : Prop} (x0 : a0) (x1 : a1) (x2 : a2) (x3 : a3) : RowKit.Hid a0 ∧ RowKit.Hid a1 ∧ RowKit.Hid a2 ∧ RowKit.Hid a3 := ⟨x0, x1, x2, x3⟩
theorem Zh5 {a0 a1 a2 a3 a4 : Prop} (x0 : a0) (x1 : a1) (x2 : a2) (x3 : a3) (x4 : a4) : RowKit.Hid a0 ∧ RowKit.Hid a1 ∧ RowKit.Hid a2 ∧ RowKit.Hid a3 ∧ RowKit.Hid a4 := ⟨x0, x1, x2, x3, x4⟩
theorem Zh6 {a0 a1 a2 a3 a4 a5 : Prop} (x0 : a0) (x1 : a1) (x2 : a2) (x3 : a3) (x4 : a4) (x5 : a5) : RowKit.Hid a0 ∧ RowKit.Hid a1 ∧ RowKit.Hid a2 ∧ RowKit.Hid a3 ∧ RowKit.Hid a4 ∧ RowKit.Hid a5 := ⟨x0, x1, x2, x3, x4, x5⟩
theorem Zh7 {a0 a1 a2 a3 a4 a5 a6 : Prop} (x0 : a0) (x1 : a1) (x2 : a2) (x3 : a3) (x4 : a4) (x5 : a5) (x6 : a6) : RowKit.Hid a0 ∧ RowKit.Hid a1 ∧ RowKit.Hid a2 ∧ RowKit.Hid a3 ∧ RowKit.Hid a4 ∧ RowKit.Hid a5 ∧ RowKit.Hid a6 := ⟨x0, x1, x2, x3, x4, x5, x6⟩
theorem Zh8 {a0 a1 a2 a3 a4 a5 a6 a7 : Prop} (x0 : a0) (x1 : a1) (x2 : a2) (x3 : a3) (x4 : a4) (x5 : a5) (x6 : a6) (x7 : a7) : RowKit.Hid a0 ∧ RowKit.Hid a1 ∧ RowKit.Hid a2 ∧ RowKit.Hid a3 ∧ RowKit.Hid a4 ∧ RowKit.Hid a5 ∧ RowKit.Hid a6 ∧ RowKit.Hid a7 := ⟨x0, x1, x2, x3, x4, x5, x6, x7⟩
theorem Zh9 {a0 a1 a2 a3 a4 a5 a6 a7 a8 : Prop} (x0 : a0) (x1 : a1) (x2 : a2) (x3 : a3) (x4 : a4) (x5 : a5) (x6 : a6) (x7 : a7) (x8 : a8) : RowKit.Hid a0 ∧ RowKit.Hid a1 ∧ RowKit.Hid a2 ∧ RowKit.Hid a3 ∧ RowKit.Hid a4 ∧ RowKit.Hid a5 ∧ RowKit.Hid a6 ∧ RowKit.Hid a7 ∧ RowKit.Hid a8 := ⟨x0, x1, x2, x3, x4, x5, x6, x7, x8⟩
theorem Qzj {a0 a1 a2 a3 a4 a5 a6 a7 a8 a9 : Prop} (x0 : a0) (x1 : a1) (x2 : a2) (x3 : a3) (x4 : a4) (x5 : a5) (x6 : a6) (x7 : a7) (x8 : a8) (x9 : a9) : RowKit.Hid a0 ∧ RowKit.Hid a1 ∧ RowKit.Hid a2 ∧ RowKit.Hid a3 ∧ RowKit.Hid a4 ∧ RowKit.Hid a5 ∧ RowKit.Hid a6 ∧ RowKit.Hid a7 ∧ RowKit.Hid a8 ∧ RowKit.Hid a9 := ⟨x0, x1, x2, x3, x4, x5, x6, x7, x8, x9⟩
theorem Qv3 {a0 a1 a2 a3 a4 a5 a6 a7 a8 a9 a10 : Prop} (x0 : a0) (x1 : a1) (x2 : a2) (x3 : a3) (x4 : a4) (x5 : a5) (x6 : a6) (x7 : a7) (x8 : a8) (x9 : a9) (x10 : a10) : RowKit.Hid a0 ∧ RowKit.Hid a1 ∧ RowKit.Hid a2 ∧ RowKit.Hid a3 ∧ RowKit.Hid a4 ∧ RowKit.Hid a5 ∧ RowKit.Hid a6 ∧ RowKit.Hid a7 ∧ RowKit.Hid a8 ∧ RowKit.Hid a9 ∧ RowKit.Hid a10 := ⟨x0, x1, x2, x3, x4, x5, x6, x7, x8, x9, x10⟩
theorem U2 {a0 a1 a2 a3 a4 a5 a6 a7 a8 a9 a10 a11 : Prop} (x0 : a0) (x1 : a1) (x2 : a2) (x3 : a3) (x4 : a4) (x5 : a5) (x6 : a6) (x7 : a7) (x8 : a8) (x9 : a9) (x10 : a10) (x11 : a11) : RowKit.Hid a0 ∧ RowKit.Hid a1 ∧ RowKit.Hid a2 ∧ RowKit.Hid a3 ∧ RowKit.Hid a4 ∧ RowKit.Hid a5 ∧ RowKit.Hid a6 ∧ RowKit.Hid a7 ∧ RowKit.Hid a8 ∧ RowKit.Hid a9 ∧ RowKit.Hid a10 ∧ RowKit.Hid a11 := ⟨x0, x1, x2, x3, x4, x5, x6, x7, x8, x9, x10, x11⟩
end Go
namespace Go.Po
def Bc(c:UInt8):Bool:=(decide (97<=c.toNat)&&decide (c.toNat<=122))||(decide (48<=c.toNat)&&decide (c.toNat<=57))
def Jb(s:ByteArray):Bool:=s.data.toList.all Bc&&decide (0<s.size)&&decide (s.size<=12)
end Go.Po
namespace Go.Proofs.YtkdpmdfcdgphlaaGreat
open Tryz
open Go.RowKit Go.Mem Go.Po
theorem Qum{s:ByteArray}{k:Nat}{x:UInt8}(a:s.data.toList[k]?=some x)(h:Bc x=false):Jb s=false:=by
 have:s.data.toList.all Bc=false:=by
  rw[List.all_eq_false];exact⟨x,List.mem_of_getElem? a,by rw[h];simp⟩
 simp[Jb,this]
theorem Tc(s:ByteArray)(g:s.size<=maxLen)(w:World):
 Calls prog 321 #[.string s] w λe w'=>e=.returned (.bool (Jb s))/\Bel w w':=by
 obtain⟨cap,t,q,b,a⟩:=Qc3 (P:=prog) (λ_=>False) w (λ_ h=>h.elim) 9 179 5 s g underlying9 underlying179 underlying5;obtain⟨j,c⟩:=Zh2 b a;unfold maxLen at g;clear b a;go_enter func321,ntmps321;go_wp2;go_loop [4,5,6,10] (λ_ _ _ i=>∃k:Nat,k<=s.size/\i=.int .i64 k/\Hid ((s.data.toList.take k).all Bc=true)) (λ_ _ _ i=>s.size-(intOf i).toNat)
 case atStart=>exact⟨0,Nat.zero_le _,rfl,Zh rfl⟩
 case round=>
  obtain⟨k,p,rfl,U⟩:=hrel;by_cases m:k<s.size
  ·have b:k<s.data.toList.length:=by simpa using m
   obtain⟨x,a⟩:∃x,s.data.toList[k]?=some x:=⟨_,List.getElem?_eq_getElem b⟩;obtain⟨n,off,l,o,c0⟩:=Wm j.o a;cases l;rw[Nat.zero_add]at c0;have d:Hid (s.data.toList.take (k+1)=s.data.toList.take k++[x]):=Zh (by
    rw[List.take_succ_eq_append_getElem b];rw[List.getElem?_eq_getElem b]at a;cases a;rfl)
   have f:=Zh a;clear a b;have r:=x.toNat_lt;rcases (by omega:x.toNat<48\/(48<=x.toNat/\x.toNat<=57)\/(57<x.toNat/\x.toNat<97)\/(97<=x.toNat/\x.toNat<=122)\/122<x.toNat)with h|⟨h,h2⟩|⟨h,h2⟩|⟨h,h2⟩|h;all_goals
    first|(have E:=Zh (show Jb s=false from Qum f.o (by simp[Bc];omega)))|(have E:=Zh (show Bc x=true by simp[Bc,h,h2]))
    first|(have a:decide ((x.toNat:Int)<=122)=true:=by simp;omega)|(have a:decide ((x.toNat:Int)<=122)=false:=by simp;omega)
    first|(have b:decide ((x.toNat:Int)<=57)=true:=by simp;omega)|(have b:decide ((x.toNat:Int)<=57)=false:=by simp;omega)
    go_wp2;first
     | (go_ret
        exact⟨by rw[E.o];rfl,c.o⟩)
     | (go_round
        case rel=>exact⟨k+1,by omega,by go_num,Zh (by rw[d.o,List.all_append,U.o];simp[E.o])⟩
        case measure=>simp[intOf];omega)
  ·have b:s.data.toList.all Bc=true:=by
    have:=U.o;rwa [List.take_of_length_le (by simp;omega)]at this
   by_cases d:0<s.size
   ·have E:=Zh (show Jb s=decide ((s.size:Int)<=12) by rw[Jb,b,Bool.eq_iff_iff];simp[d];omega)
    have a:s.toList.isEmpty=false:=by
     rw[Go.ByteArray.toList_eq,List.isEmpty_eq_false_iff];intro l;have f:=congrArg List.length l;rw[Array.length_toList]at f;have n:s.size=0:=f;omega
    have f:(!s.toList.isEmpty)=true:=by rw[a];rfl
    clear b;go_wp2;go_ret;exact⟨by rw[E.o];rfl,c.o⟩
   ·have E:=Zh (show Jb s=false by simp[Jb,d])
    have a:s.toList.isEmpty=true:=by
     rw[Go.ByteArray.toList_eq,List.isEmpty_iff];exact List.eq_nil_of_length_eq_zero (by rw[Array.length_toList];show s.size=0;omega)
    have f:(!s.toList.isEmpty)=false:=by rw[a];rfl
    clear b;go_wp2;go_ret;exact⟨by rw[E.o];rfl,c.o⟩
theorem Vn:El prog 179 5 1 1:=El.mk' underlying179 (z:=.int .u8 0) (by kernel_rfl) rfl
def Nr(x:UInt8):Value:=.int .u8 x.toNat
def Wi(n:Nat):Nat->List UInt8
 | 0=>[]
 | k+1=>UInt8.ofNat n::Wi (n / 256) k
theorem K9(n k:Nat):(Wi n k).length=k:=by
 induction k generalizing n with
 | zero=>rfl
 | succ k ih=>simp[Wi,ih]
def Zz(O:Nat->Prop)(w:World)(b:Nat)(l:List UInt8):Prop:=
 ∃T ao cap,w.heap[b]?=some (.cells #[.slice ao l.length cap] T (0,0))/\Sl w 5 1 ao l.length cap (l.map Nr)/\¬Qc ao cap b/\O b/\(∀k,Qc ao cap k->O k)/\∀k,O k->k<w.heap.size
theorem Qn0{O:Nat->Prop}{wr i a:World}{b cap d n:Nat}{T:TypeId}{ao c:Option Addr}{l news:List UInt8}(w:a.heap[b]?=some (.cells #[.slice ao l.length cap] T (0,0)))(t:Sl a 5 1 c n d (l.map Nr++news.map Nr))(q:n=l.length+news.length)
 (m:Kept (Qc ao cap) i a) (g:Bel wr i) (s:∀k,Qc c d k->Qc ao cap k\/k=i.heap.size) (v:¬Qc ao cap b) (f:O b) (j:∀k,Qc ao cap k->O k) (o:∀k,O k->k<wr.heap.size):
 ∃e,Zz e (a.setCell ⟨b,0,none⟩ (.slice c n d)) b (l++news)/\Kept O wr (a.setCell ⟨b,0,none⟩ (.slice c n d))/\∀k,e k->O k\/wr.heap.size<=k:=by
 have r:¬Qc c d b:=λh=>by
  rcases s b h with e|e
  ·exact v e
  ·have:=o b f;have:=g.size;omega
 have y:=m.size;have z:=g.size;have x:(a.setCell ⟨b,0,none⟩ (.slice c n d)).heap.size=a.heap.size:=by simp[World.setCell]
 refine⟨λk=>O k\/Qc c d k,⟨T,c,d,?_,?_,r,.inl f,λk h=>.inr h,λk h=>?_⟩,?_,λk h=>?_⟩
 ·rw[Go.Mem.heap_setCell_same a b 0 _ _ T (0,0) w];subst q;simp
 ·rw[List.map_append,List.length_append,<-q]
  exact t.kept (S:=λk=>k=b) ((Kept.refl (λk=>k=b) a).setCell (p:=⟨b,0,none⟩) rfl _) (λk e v=>r (v▸e))
 ·rw[x]
  rcases h with h|h
  ·have:=o k h;omega
  ·exact t.owns h
 ·exact((g.kept O).trans (m.mono λk _ h=>j k h)).trans ((Kept.refl O a).setCell (p:=⟨b,0,none⟩) f _)
 ·rcases h with h|h
  ·exact .inl h
  ·rcases s k h with h|h
   ·exact .inl (j k h)
   ·exact .inr (by omega)
theorem Qmz(m:Nat):Nr (UInt8.ofNat m)=.int .u8 ((m:Int) % 256):=by
 unfold Nr;congr 1
theorem Sb(n W:Nat)(O:Nat->Prop)(w:World)(b:Nat)(l:List UInt8)(h:Zz O w b l)(Q:n<18446744073709551616)(X:W<=8)(ab:l.length<=1000000000):
 Calls prog 324 #[.pointer (some ⟨b,0,none⟩),.int .u64 n,.int .i64 W] w λe w'=>e=.returned (.tuple #[])/\∃c,Zz c w' b (l++Wi n W)/\Kept O w w'/\∀k,c k->O k\/w.heap.size<=k:=by
 have H:=Zh h;clear h;go_enter func324,ntmps324;go_wp2;go_loopw[1,2] (λx y wr=>∃(m k:Nat) (a:List UInt8) (c:Nat->Prop),x=.int .u64 m/\y=.int .i64 k/\k<=W/\m<18446744073709551616/\a.length+k<=1000000008/\Hid (a++Wi m k=l++Wi n W)/\Hid (Zz c wr b a)/\Hid (Kept O w wr)/\Hid (∀k,c k->O k\/w.heap.size<=k)) (λ_ y _=>(intOf y).toNat)
 case atStart=>exact⟨n,W,l,O,rfl,rfl,Nat.le_refl _,Q,by omega,Zh rfl,H,Zh (Kept.refl _ _),Zh λ_ h=>.inl h⟩
 case round=>
  obtain⟨m,k,a,c,rfl,rfl,aa,ad,ac,E,p,f,g⟩:=hrel;rcases k with _|k
  ·have d:Hid (a=l++Wi n W):=Zh (by simpa[Wi] using E.o)
   go_wp2;go_end0
   exact⟨rfl,c,d.o▸p.o,f.o,g.o⟩
  ·obtain⟨T,ao,cap,d,o,r,K,L,P⟩:=p.o
   have N:=cell_of_block d 0 _ rfl;obtain⟨z,C⟩:=Zh2 d o;have M:=Qb d;obtain⟨R,S,j,q,s,t,v⟩:=(Vn).hi;obtain⟨A,F,G,I,J⟩:=Zh5 j q s t v;clear d o j q s t v;go_wp2_with(at_builtin;go_must (refine Vf _ rfl _ _ 179 179 rfl 5 R S 1 1 underlying179 A.o F.o G.o I.o J.o ao a.length cap _ ((C.o).kept ((Kept.refl (λ_=>False) wr).alloc _) (λ_ _ h=>h)) rfl _ rfl 1 [.int .u8 ((m:Int) % 256)] (Rt wr underlying179 _ rfl _) (by simp only[maxLen];omega) (by omega) ?_);intro U V o q j s;have d:o.heap[b]?=some (.cells #[.slice ao a.length cap] T (0,0)):=(j.block b (by simp;omega) r).trans ((Below.heap_alloc _ _ _ M).trans z.o);have Y:o.cell? ⟨b,0,none⟩=some (.slice ao a.length cap):=cell_of_block d 0 _ rfl;have Z:o.frozen? ⟨b,0,none⟩=false:=Qa d 0;have t:=Zh d;have D:=Zh q;have v:=Zh j;have B:=Zh s;clear q j s d N);have j:((m:Int) / 256)=((m / 256:Nat):Int):=by omega
   obtain⟨d,q,s,N⟩:=Qn0 (news:=[UInt8.ofNat m]) t.o (by rw[List.map_singleton,Qmz];exact D.o) rfl v.o ((Bel.refl wr).alloc _) B.o r K L P;go_roundw
   case rel=>exact⟨m / 256,k,a++[UInt8.ofNat m],d,by rw[j],rfl,by omega,by omega,by simp;omega,Zh (by rw[List.append_assoc];exact E.o),Zh q,Zh (f.trans' s g.o),Zh λi h=>by
    rcases N i h with h|h
    ·exact g i h
    ·exact .inr (Nat.le_trans f.size h)⟩
   case measure=>simp[intOf]
def Qd(n:Nat):List UInt8:=Wi n 2
def Zc(n:Int):List UInt8:=Wi (n % 18446744073709551616).toNat 8
theorem Y5(n:Nat)(O:Nat->Prop)(w:World)(b:Nat)(l:List UInt8)(h:Zz O w b l)(f:n<=9223372036854775807)(d:l.length<=1000000000):
 Calls prog 237 #[.pointer (some ⟨b,0,none⟩),.int .i64 n] w λe w'=>e=.returned (.tuple #[])/\∃a,Zz a w' b (l++Qd n)/\Kept O w w'/\∀k,a k->O k\/w.heap.size<=k:=by
 have H:=Zh h;clear h;go_enter func237,ntmps237;go_wp2_with fail;refine(Sb n 2 O w b l H.o (by omega) (by omega) d).zR λa a=>?_
 have c:=Zh a;clear a;go_wp2;go_end0
 exact⟨rfl,c⟩
theorem Vd(n:Int)(O:Nat->Prop)(w:World)(b:Nat)(l:List UInt8)(h:Zz O w b l)(d:l.length<=1000000000):
 Calls prog 238 #[.pointer (some ⟨b,0,none⟩),.int .i64 n] w λe w'=>e=.returned (.tuple #[])/\∃a,Zz a w' b (l++Zc n)/\Kept O w w'/\∀k,a k->O k\/w.heap.size<=k:=by
 have H:=Zh h;clear h;go_enter func238,ntmps238;go_wp2_with fail;rw[show IntKind.u64.wrap n=(((n % 18446744073709551616).toNat:Nat):Int) from by rw[IntKind.wrap_u64];omega];refine(Sb (n % 18446744073709551616).toNat 8 O w b l H.o (by omega) (by omega) d).zR λa a=>?_
 have c:=Zh a;clear a;go_wp2;go_end0
 exact⟨rfl,c⟩
theorem Qhd(x:Bool)(O:Nat->Prop)(w:World)(b:Nat)(l:List UInt8)(h:Zz O w b l)(d:l.length<=1000000000):
 Calls prog 239 #[.pointer (some ⟨b,0,none⟩),.bool x] w λe w'=>e=.returned (.tuple #[])/\∃a,Zz a w' b (l++[if x then 1 else 0])/\Kept O w w'/\∀k,a k->O k\/w.heap.size<=k:=by
 have H:=Zh h;clear h;cases x
 ·go_enter func239,ntmps239
  go_wp2_with fail;refine(Sb 0 1 O w b l H.o (by omega) (by omega) d).zR λf a=>?_
  have c:=Zh a;clear a;go_wp2;go_end0
  exact⟨rfl,c⟩
 ·go_enter func239,ntmps239
  go_wp2_with fail;refine(Sb 1 1 O w b l H.o (by omega) (by omega) d).zR λf a=>?_
  have c:=Zh a;clear a;go_wp2;go_end0
  exact⟨rfl,c⟩
theorem Qjh(n:Int):bits .and .i64 n 65535=n % 65536:=by
 have a:(BitVec.ofInt 64 65535).toNat=2 ^ 16-1:=by decide
 have b:(BitVec.ofInt 64 n &&& BitVec.ofInt 64 65535).toNat=(n % ((2 ^ 64:Nat):Int)).toNat % 2 ^ 16:=by
  rw[BitVec.toNat_and,BitVec.toNat_ofInt,a,Nat.and_two_pow_sub_one_eq_mod]
 show IntKind.i64.wrap ((BitVec.ofInt 64 n &&& BitVec.ofInt 64 65535).toNat:Nat)=n % 65536;rw[b,IntKind.wrap_i64];omega
def X4(s:ByteArray):List UInt8:=Qd s.size++s.data.toList
theorem Fv(s:ByteArray)(O:Nat->Prop)(w:World)(b:Nat)(l:List UInt8)(h:Zz O w b l)(V:s.size<=65535)(S:l.length<=999999998):
 Calls prog 240 #[.pointer (some ⟨b,0,none⟩),.string s] w λe w'=>e=.returned (.tuple #[])/\∃a,Zz a w' b (l++X4 s)/\Kept O w w'/\∀k,a k->O k\/w.heap.size<=k:=by
 have H:=Zh h;have z:bits BinOp.and IntKind.i64 (s.size:Int) 65535=(s.size:Int):=by rw[Qjh];omega
 clear h;go_enter func240,ntmps240;go_wp2_with fail;refine(Y5 s.size O w b l H.o (by omega) (by omega)).mono ?_;rintro e r ⟨rfl,L,f,g,i⟩;obtain⟨l1,c⟩:=Zx (l++Qd s.size);have U:l1.length<=1000000000:=by rw[c,List.length_append];simp[Qd,K9];omega
 rw[<-c]at f;have x:=Zh c;obtain⟨T,ao,cap,a,j,m,E,F,I⟩:=f;have P:=cell_of_block a 0 _ rfl;obtain⟨t,y⟩:=Zh2 a j;have G:=Qb a;obtain⟨J,K,d,n,o,p,q⟩:=(Vn).hi;obtain⟨v,A,B,C,D⟩:=Zh5 d n o p q;clear a j z d n o p q c;go_wp2;go_region_law(refine Ww _ rfl _ _ 179 9 rfl 5 J K 1 1 underlying179 v.o A.o B.o C.o D.o ao l1.length cap _ ((y.o).kept ((Kept.refl (λ_=>False) r).drew) (λ_ _ h=>h)) (by simp[Act.eval]) (.string s) (by simp[Act.eval]) s.size (byteCells s) (Src.ofString _ underlying9 s) (by simp only[maxLen];omega) (by omega) ?_;intro M N d j c n;have a:d.heap[b]?=some (.cells #[.slice ao l1.length cap] T (0,0)):=(c.block b (by exact G) m).trans t.o;have Q:d.cell? ⟨b,0,none⟩=some (.slice ao l1.length cap):=cell_of_block a 0 _ rfl;have R:d.frozen? ⟨b,0,none⟩=false:=Qa a 0;have o:=Zh a;have z:=Zh j;have p:=Zh c;have q:=Zh n;clear j c n a)
 go_wp2;go_end0
 obtain⟨a,c,j,n⟩:=Qn0 (news:=s.data.toList) o.o z.o rfl p.o ((Bel.refl r).drew) q.o m E F I;have e:l1++s.data.toList=l++X4 s:=by rw[x.o,List.append_assoc];rfl
 exact⟨rfl,a,e▸c,g.trans' j i,λk h=>by
  rcases n k h with h|h
  ·exact i k h
  ·exact .inr (Nat.le_trans g.size h)⟩
end Go.Proofs.YtkdpmdfcdgphlaaGreat
namespace Go.Po
open Go.Mem
theorem run_loadCells(P:Program)(w:World)(g o n:Nat)(vs:List Value)(c:vs.length=n)(a:∀j,j<n->w.cell? ⟨g,o+j,none⟩=vs[j]?):Sem.run P (loadCellsFrom ⟨g,o,none⟩ 0 n #[]) w=.ok vs.toArray w:=by
 have:=run_loadCellsFrom (P:=P) w ⟨g,o,none⟩ (λj=>vs[j]?.getD default) n 0 #[] (λj b=>by
  rw[Addr.add_lit,Nat.zero_add,a j b];have:j<vs.length:=by omega
  simp[this])
 rw[this];congr 1
 apply Array.ext';simp only[Nat.zero_add,Array.toList_append,List.nil_append];apply List.ext_getElem?;intro j;rcases Nat.lt_or_ge j n with h|h
 ·have:j<vs.length:=by omega
  simp[h,this]
 ·have:vs.length<=j:=by omega
  simp[h,this]
def Qbk(ag:Bool)(vs:List Value):Value:=if ag=true then .agg vs.toArray else vs.head?.getD default
structure Elt{α:Type}(P:Program)(E:TypeId)(r:Rp α)(ag:Bool):Prop where
 sz:∀w,(sizeOf E).run P w=.ok r.size w
 ia:∀w,(isAgg E).run P w=.ok ag w
 one:ag=false->r.size=1
theorem Elt.shape{α:Type}{P:Program}{E:TypeId}{r:Rp α}{ag:Bool}(h:Elt P E r ag){w:World}{A:Nat->Prop}{x:α}{vs:List Value}(b:r.R A w x vs):if ag=true then vs.length=r.size else ∃v,vs=[v]/\v.cells=#[v]:=by
 have a:=r.len b;have c:=r.one b;cases ag
 ·have d:=h.one rfl
  simp only[Bool.false_eq_true,if_false];rcases vs with _|⟨v,_|⟨u,vs⟩⟩
  ·simp at a;omega
  ·refine⟨v,rfl,?_⟩
   have:=c v (by simp);cases v<;>first|rfl|cases this
  ·simp at a;omega
 ·simpa using a
theorem Elt.ld{α:Type}{P:Program}{E:TypeId}{r:Rp α}{ag:Bool}(h:Elt P E r ag){w:World}{g o:Nat}{A:Nat->Prop}{x:α}{vs:List Value}(d:r.R A w x vs)(b:∀j,j<r.size->w.cell? ⟨g,o+j,none⟩=vs[j]?):
 if ag=true then Sem.run P (loadCellsFrom ⟨g,o,none⟩ 0 r.size #[]) w=.ok vs.toArray w else w.cell? ⟨g,o,none⟩=some (vs.head?.getD default):=by
 have c:=r.len d;cases ag
 ·have e:=h.one rfl
  have a:=b 0 (by omega);rw[Nat.add_zero]at a;simp only[Bool.false_eq_true,if_false];rw[a];rcases vs with _|⟨v,vs⟩
  ·simp at c;omega
  ·rfl
 ·simp only[if_true]
  exact run_loadCells P w g o r.size vs c b
end Go.Po
namespace Go.Proofs.YtkdpmdfcdgphlaaGreat
open Tryz
open Go.RowKit Go.Mem Go.Po Go.Shelf
variable {α : Type} {r : Rp α} {ag : Bool} {ρ : Ren}
theorem S9(c:ρ.t 3=3)(M:prog.underlying (ρ.t 22)=some (.slice (ρ.t 23)))(D:Bears prog (ρ.f 6) (SlBodyH.n6 ρ))(el:Elt prog (ρ.t 23) r ag)
 (p:α->Bool) (g:Nat) (b:Array Value) (f:∀a w,(callFunc g a).run prog w=.ok (.enter g a) w) (A:Nat->Prop) (w:World) (ao:Option Addr) (cap:Nat) (l:List α) (h:Rd r A w ao cap l)
 (d:∀(x:α) (W:World) (vs:List Value),x∈l->Bel w W->r.R A W x vs->Calls prog g (#[Qbk ag vs]++b) W λe a=>e=.returned (.bool (p x))/\Bel W a):
 Calls prog (ρ.f 6) #[.slice ao l.length cap,.func (.func g) #[] b] w λe w'=>e=.returned (.int .i64 (Kz p l))/\Bel w w':=by
 have H:=Zh h;have N:=el.sz;have G:=el.ia;have t3:prog.underlying (ρ.t 3)=some (TypeDesc.int IntKind.i64):=by rw[c];exact underlying3
 obtain⟨n,a⟩:=Zx l.length;have F:=h.small;rw[<-a]at F ⊢;have o:=Zh a;obtain⟨_,_,z⟩:=D;clear h a c;cases ag;all_goals
  obtain⟨v,B⟩:=Zh2 el d;clear el d;go_enter z,SlBodyH.n6_ntmps ρ;go_wp2;go_loopw[5,8] (λ_ i wr=>∃k:Nat,k<=n/\i=.int .i64 k/\Hid (∀j y,j<k->l[j]?=some y->p y=false)/\Hid (Bel w wr)) (λ_ i _=>n-(intOf i).toNat)
  case atStart=>exact⟨0,Nat.zero_le _,rfl,Zh λ_ _ h=>absurd h (Nat.not_lt_zero _),Zh (Bel.refl _)⟩
  case round=>
   obtain⟨k,K,rfl,f,b⟩:=hrel;by_cases L:k<n
   ·have s:k<l.length:=by have:=o.o;omega
    obtain⟨x,a⟩:∃x,l[k]?=some x:=⟨l[k],by simp[s]⟩;obtain⟨I,off,vs,rfl,J,E,c,m⟩:=(H.bel b.o).at a;have t:=v.ld c m;have d:=B x wr vs (List.mem_of_getElem? a) b c;simp only[if_true,if_false,Bool.false_eq_true,Qbk]at t d;obtain⟨q,C⟩:=Zh2 a d;clear a s c m E d;go_wp2_with fail;refine C.zR λc c=>?_
    have m:=Zh (b.trans c);clear c t;rcases c:p x with _|_
    ·have t:=Zh c
     clear c;go_wp2;go_roundw
     case rel=>exact⟨k+1,by omega,by go_num,Zh (λj y s d=>by
      rcases Nat.lt_succ_iff_lt_or_eq.1 s with h|h
      ·exact f j y h d
      ·subst h;rw[q.o]at d;cases d;exact t.o),m⟩
     case measure=>simp[intOf];omega
    ·have d:=Zh (Qgk q c f)
     clear c;go_wp2;go_ret;exact⟨by rw[d.o];rfl,m.o⟩
   ·have d:=Zh (show Kz p l=-1 from Nv λx a=>by
     obtain⟨j,s,rfl⟩:=List.getElem_of_mem a;exact f.o j _ (by have:=o.o;omega) (by simp))
    go_wp2;go_ret;exact⟨by rw[d.o];rfl,b.o⟩
theorem Qi2(b:ρ.t 3=3)(o:prog.underlying (ρ.t 22)=some (.slice (ρ.t 23)))(c:Bears prog (ρ.f 6) (SlBodyH.n6 ρ))(n:Bears prog (ρ.f 8) (SlBodyH.n8 ρ))(el:Elt prog (ρ.t 23) r ag)
 (p:α->Bool) (g:Nat) (f:Array Value) (m:∀a w,(callFunc g a).run prog w=.ok (.enter g a) w) (A:Nat->Prop) (w:World) (ao:Option Addr) (cap:Nat) (l:List α) (d:Rd r A w ao cap l)
 (k:∀(x:α) (W:World) (vs:List Value),x∈l->Bel w W->r.R A W x vs->Calls prog g (#[Qbk ag vs]++f) W λe h=>e=.returned (.bool (p x))/\Bel W h):
 Calls prog (ρ.f 8) #[.slice ao l.length cap,.func (.func g) #[] f] w λe w'=>e=.returned (.bool (l.any p))/\Bel w w':=by
 have t3:prog.underlying (ρ.t 3)=some (TypeDesc.int IntKind.i64):=by rw[b];exact underlying3
 have j:=Zh (S9 b o c el p g f m A w ao cap l d k);have s:∀a w,(callFunc (ρ.f 6) a).run prog w=.ok (.enter (ρ.f 6) a) w:=c.enters rfl;obtain⟨_,_,h⟩:=n;clear d k el b c;rcases b:l.any p with _|_
 ·have d:=Zh (Ri b)
  clear b;go_enter h,SlBodyH.n8_ntmps ρ;go_wp2_with fail;refine j.mono ?_;rw[d.o];rintro e q ⟨rfl,a⟩;have c:=Zh a;clear a;go_wp2;go_ret;exact⟨rfl,c⟩
 ·obtain⟨i,k⟩:=Qju b
  have d:=Zh k;clear b k;go_enter h,SlBodyH.n8_ntmps ρ;go_wp2_with fail;refine j.mono ?_;rw[d.o];rintro e q ⟨rfl,a⟩;have c:=Zh a;clear a;go_wp2;go_ret;exact⟨rfl,c⟩
abbrev Vt(g:Nat):Prop:=∀args w,(callFunc g args).run prog w=.ok (.enter g args) w
abbrev Ans(g:Nat)(v:Value)(cb:Array Value)(W:World)(b:Bool):Prop:=Calls prog g (#[v]++cb) W λe W'=>e=.returned (.bool b)/\Bel W W'
def renG(a b c d e f:Nat):Ren:=⟨fun|6=>a|8=>b|10=>c|n=>n,fun|22=>d|23=>e|25=>f|n=>n,λn=>n⟩
theorem Qbn:Elt prog 58 Zm true:=⟨Tryz.sizeOf58,Tryz.isAgg58,by decide⟩
theorem Qp2(p:Branch->Bool)(g:Nat)(a:Array Value)(d:Vt g)(A:Nat->Prop)(w:World)(ao:Option Addr)(cap:Nat)(l:List Branch)(h:Rd Zm A w ao cap l)
 (f:∀(x:Branch) (W:World) (b:Option Addr) (c:Nat),x∈l->Bel w W->Rd Qw A W b c x.puts->Ans g (.agg #[.int .i64 x.tid,.slice b x.puts.length c]) a W (p x)):
 Calls prog 163 #[.slice ao l.length cap,.func (.func g) #[] a] w λe w'=>e=.returned (.int .i64 (Kz p l))/\Bel w w':=
 S9 (ρ:=(renG 163 0 0 39 58 170)) rfl underlying39 ⟨Tryz.f163.name,by decide,func163.trans (congrArg some (by kernel_rfl))⟩ Qbn p g a d A w ao cap l h (by rintro x W _ i b ⟨_,_,rfl,c⟩;exact f x W _ _ i b c)
theorem Qgp:Elt prog 134 Z4 true:=⟨Tryz.sizeOf134,Tryz.isAgg134,by decide⟩
theorem Qki(p:Qv->Bool)(g:Nat)(a:Array Value)(d:Vt g)(A:Nat->Prop)(w:World)(ao:Option Addr)(cap:Nat)(l:List Qv)(h:Rd Z4 A w ao cap l)
 (f:∀(x:Qv) (W:World) (b:Option Addr) (c:Nat),x∈l->Bel w W->Rd Qh A W b c x.parts->Ans g (.agg #[.int .i64 x.tid,.slice b x.parts.length c]) a W (p x)):
 Calls prog 161 #[.slice ao l.length cap,.func (.func g) #[] a] w λe w'=>e=.returned (.int .i64 (Kz p l))/\Bel w w':=
 S9 (ρ:=(renG 161 0 0 41 134 210)) rfl underlying41 ⟨Tryz.f161.name,by decide,func161.trans (congrArg some (by kernel_rfl))⟩ Qgp p g a d A w ao cap l h (by rintro x W _ i b ⟨_,_,rfl,c⟩;exact f x W _ _ i b c)
theorem Qkj:Elt prog 51 J7 true:=⟨Tryz.sizeOf51,Tryz.isAgg51,by decide⟩
theorem Qxq(p:Fin->Bool)(g:Nat)(a:Array Value)(b:Vt g)(A:Nat->Prop)(w:World)(ao:Option Addr)(cap:Nat)(l:List Fin)(h:Rd J7 A w ao cap l)
 (d:∀(x:Fin) (W:World),x∈l->Bel w W->Ans g (.agg #[.int .i64 x.tid,.bool x.yes]) a W (p x)):
 Calls prog 159 #[.slice ao l.length cap,.func (.func g) #[] a] w λe w'=>e=.returned (.int .i64 (Kz p l))/\Bel w w':=
 S9 (ρ:=(renG 159 0 0 40 51 217)) rfl underlying40 ⟨Tryz.f159.name,by decide,func159.trans (congrArg some (by kernel_rfl))⟩ Qkj p g a b A w ao cap l h (by rintro x W _ f c rfl;exact d x W f c)
theorem Qy2:Elt prog 33 Qw true:=⟨Tryz.sizeOf33,Tryz.isAgg33,by decide⟩
theorem Qy3:Elt prog 47 Xy true:=⟨Tryz.sizeOf47,Tryz.isAgg47,by decide⟩
theorem Qod(p:Msg->Bool)(g:Nat)(a:Array Value)(b:Vt g)(A:Nat->Prop)(w:World)(ao:Option Addr)(cap:Nat)(l:List Msg)(h:Rd Xy A w ao cap l)
 (d:∀(x:Msg) (W:World),x∈l->Bel w W->Ans g (.agg #[.int .i64 x.id,.string x.q,.string x.b,.int .i64 x.seq,.int .i64 x.cnt,.int .i64 x.who]) a W (p x)):
 Calls prog 242 #[.slice ao l.length cap,.func (.func g) #[] a] w λe w'=>e=.returned (.int .i64 (Kz p l))/\Bel w w':=
 S9 (ρ:=(renG 242 0 0 38 47 219)) rfl underlying38 ⟨Tryz.f242.name,by decide,func242.trans (congrArg some (by kernel_rfl))⟩ Qy3 p g a b A w ao cap l h (by rintro x W _ f c rfl;exact d x W f c)
theorem Qy4:Elt prog 3 Qh false:=⟨Tryz.sizeOf3,Tryz.isAgg3,by decide⟩
theorem Qxr(p:Int->Bool)(g:Nat)(a:Array Value)(b:Vt g)(A:Nat->Prop)(w:World)(ao:Option Addr)(cap:Nat)(l:List Int)(h:Rd Qh A w ao cap l)
 (d:∀(x:Int) (W:World),x∈l->Bel w W->Ans g (.int .i64 x) a W (p x)):
 Calls prog 326 #[.slice ao l.length cap,.func (.func g) #[] a] w λe w'=>e=.returned (.int .i64 (Kz p l))/\Bel w w':=
 S9 (ρ:=(renG 326 0 0 67 3 78)) rfl underlying67 ⟨Tryz.f326.name,by decide,func326.trans (congrArg some (by kernel_rfl))⟩ Qy4 p g a b A w ao cap l h (by rintro x W _ f c rfl;exact d x W f c)
theorem Qy5:Elt prog 9 Xk false:=⟨Tryz.sizeOf9,Tryz.isAgg9,by decide⟩
theorem Qxs(p:ByteArray->Bool)(g:Nat)(a:Array Value)(b:Vt g)(A:Nat->Prop)(w:World)(ao:Option Addr)(cap:Nat)(l:List ByteArray)(h:Rd Xk A w ao cap l)
 (d:∀(x:ByteArray) (W:World),x∈l->Bel w W->Ans g (.string x) a W (p x)):
 Calls prog 317 #[.slice ao l.length cap,.func (.func g) #[] a] w λe w'=>e=.returned (.int .i64 (Kz p l))/\Bel w w':=
 S9 (ρ:=(renG 317 0 0 286 9 140)) rfl underlying286 ⟨Tryz.f317.name,by decide,func317.trans (congrArg some (by kernel_rfl))⟩ Qy5 p g a b A w ao cap l h (by rintro x W _ f c rfl;exact d x W f c)
theorem Tg(p:Branch->Bool)(g:Nat)(a:Array Value)(d:Vt g)(A:Nat->Prop)(w:World)(ao:Option Addr)(cap:Nat)(l:List Branch)(h:Rd Zm A w ao cap l)
 (f:∀(x:Branch) (W:World) (b:Option Addr) (c:Nat),x∈l->Bel w W->Rd Qw A W b c x.puts->Ans g (.agg #[.int .i64 x.tid,.slice b x.puts.length c]) a W (p x)):
 Calls prog 90 #[.slice ao l.length cap,.func (.func g) #[] a] w λe w'=>e=.returned (.bool (l.any p))/\Bel w w':=
 Qi2 (ρ:=(renG 163 90 0 39 58 170)) rfl underlying39 ⟨Tryz.f163.name,by decide,func163.trans (congrArg some (by kernel_rfl))⟩ ⟨Tryz.f90.name,by decide,func90.trans (congrArg some (by kernel_rfl))⟩ Qbn p g a d A w ao cap l h (by rintro x W _ i b ⟨_,_,rfl,c⟩;exact f x W _ _ i b c)
theorem Qkk(p:Qv->Bool)(g:Nat)(a:Array Value)(d:Vt g)(A:Nat->Prop)(w:World)(ao:Option Addr)(cap:Nat)(l:List Qv)(h:Rd Z4 A w ao cap l)
 (f:∀(x:Qv) (W:World) (b:Option Addr) (c:Nat),x∈l->Bel w W->Rd Qh A W b c x.parts->Ans g (.agg #[.int .i64 x.tid,.slice b x.parts.length c]) a W (p x)):
 Calls prog 139 #[.slice ao l.length cap,.func (.func g) #[] a] w λe w'=>e=.returned (.bool (l.any p))/\Bel w w':=
 Qi2 (ρ:=(renG 161 139 0 41 134 210)) rfl underlying41 ⟨Tryz.f161.name,by decide,func161.trans (congrArg some (by kernel_rfl))⟩ ⟨Tryz.f139.name,by decide,func139.trans (congrArg some (by kernel_rfl))⟩ Qgp p g a d A w ao cap l h (by rintro x W _ i b ⟨_,_,rfl,c⟩;exact f x W _ _ i b c)
theorem Qxt(p:Fin->Bool)(g:Nat)(a:Array Value)(b:Vt g)(A:Nat->Prop)(w:World)(ao:Option Addr)(cap:Nat)(l:List Fin)(h:Rd J7 A w ao cap l)
 (d:∀(x:Fin) (W:World),x∈l->Bel w W->Ans g (.agg #[.int .i64 x.tid,.bool x.yes]) a W (p x)):
 Calls prog 149 #[.slice ao l.length cap,.func (.func g) #[] a] w λe w'=>e=.returned (.bool (l.any p))/\Bel w w':=
 Qi2 (ρ:=(renG 159 149 0 40 51 217)) rfl underlying40 ⟨Tryz.f159.name,by decide,func159.trans (congrArg some (by kernel_rfl))⟩ ⟨Tryz.f149.name,by decide,func149.trans (congrArg some (by kernel_rfl))⟩ Qkj p g a b A w ao cap l h (by rintro x W _ f c rfl;exact d x W f c)
theorem Qxu(p:Put->Bool)(g:Nat)(a:Array Value)(b:Vt g)(A:Nat->Prop)(w:World)(ao:Option Addr)(cap:Nat)(l:List Put)(h:Rd Qw A w ao cap l)
 (d:∀(x:Put) (W:World),x∈l->Bel w W->Ans g (.agg #[.string x.q,.string x.b]) a W (p x)):
 Calls prog 265 #[.slice ao l.length cap,.func (.func g) #[] a] w λe w'=>e=.returned (.bool (l.any p))/\Bel w w':=
 Qi2 (ρ:=(renG 331 265 0 56 33 118)) rfl underlying56 ⟨Tryz.f331.name,by decide,func331.trans (congrArg some (by kernel_rfl))⟩ ⟨Tryz.f265.name,by decide,func265.trans (congrArg some (by kernel_rfl))⟩ Qy2 p g a b A w ao cap l h (by rintro x W _ f c rfl;exact d x W f c)
end Go.Proofs.YtkdpmdfcdgphlaaGreat
namespace Go.Po
def i64(n:Int):Prop:=-9223372036854775808<=n/\n<=9223372036854775807
def Qz(n:Int):Bool:=decide (0<n)&&decide (n<=8)
def home(t:Int):Int:=if 4294967296<t/\t<38654705664/\t % 4294967296≠0 then t / 4294967296 else 0
def Zw(t:Int):Bool:=decide (0<home t)
def mk(b n:Int):Int:=if Qz b=true/\1<=n/\n<4294967296 then b*4294967296+n else 0
def letter(c:UInt8):Bool:=decide (97<=c.toNat)&&decide (c.toNat<=122)
def Jl(s:ByteArray):Bool:=s.data.toList.all letter&&decide (0<s.size)&&decide (s.size<=8)
def Ck(s:ByteArray):Bool:=decide (s.size<=60)
def Jg(p:Put):Bool:=Jl p.q&&Ck p.b
def ups{α:Type}(f:α->Int)(ok:Int->Bool):Option Int->List α->Bool
 | _,[]=>true
 | p,x::l=>ok (f x)&&(match p with|none=>true|some a=>decide (a<f x))&&ups f ok (some (f x)) l
theorem Qeb{α:Type}(f:α->Int)(ok:Int->Bool)(y:α):∀(l:List α) (p:Option Int),ups f ok p (l++[y])=(ups f ok p l&&ok (f y)&&(match (l.getLast?.map f).or p with|none=>true|some a=>decide (a<f y)))
 | [],p=>by cases p<;>simp[ups]
 | x::l,p=>by
  have h:=Qeb f ok y l (some (f x));have e:((l.getLast?.map f).or (some (f x)))=(((x::l).getLast?.map f).or p):=by
   rcases l with _|⟨z,l⟩
   ·simp
   ·rw[List.getLast?_cons_cons,List.getLast?_eq_some_getLast (by simp)];simp
  rw[e]at h;simp only[List.cons_append,ups,h,Bool.and_assoc]
theorem Qry{α:Type}{f:α->Int}{ok:Int->Bool}{l:List α}{x:α}(b:l[0]?=some x)(c:ok (f x)=true):ups f ok none (l.take 1)=true:=by
 rcases l with _|⟨a,l⟩
 ·simp at b
 ·simp at b;subst b;simp[ups,c]
theorem Qko{α:Type}(f:α->Int)(ok:Int->Bool){l:List α}{j:Nat}{x y:α}(d:l[j]?=some y)(c:l[j+1]?=some x):ups f ok none (l.take (j+2))=(ups f ok none (l.take (j+1))&&ok (f x)&&decide (f y<f x)):=by
 obtain⟨a,rfl⟩:=List.getElem?_eq_some_iff.1 c;obtain⟨b,rfl⟩:=List.getElem?_eq_some_iff.1 d;rw[List.take_succ_eq_append_getElem a,Qeb];have:(l.take (j+1)).getLast?=some l[j]:=by
  rw[List.take_succ_eq_append_getElem b,List.getLast?_append];simp
 rw[this];rfl
theorem Qus{α:Type}{f:α->Int}{ok:Int->Bool}{l:List α}{j:Nat}{x y:α}(e:l[j]?=some y)(d:l[j+1]?=some x)(a:ok (f x)=true)(b:f y<f x)(c:ups f ok none (l.take (j+1))=true):ups f ok none (l.take (j+2))=true:=by
 rw[Qko f ok e d,c,a];simp[b]
theorem Qhq{α:Type}(f:α->Int)(ok:Int->Bool):∀(l m:List α) (p:Option Int),ups f ok p (l++m)=true->ups f ok p l=true
 | [],_,_,_=>rfl
 | x::l,m,p,h=>by
  simp only[List.cons_append,ups,Bool.and_eq_true]at h ⊢;exact⟨h.1,Qhq f ok l m _ h.2⟩
theorem Qut{α:Type}{f:α->Int}{ok:Int->Bool}{l:List α}(k:Nat)(h:ups f ok none l=true):ups f ok none (l.take k)=true:=by
 have:=Qhq f ok (l.take k) (l.drop k) none;rw[List.take_append_drop]at this;exact this h
theorem Qof{α:Type}{f:α->Int}{ok:Int->Bool}{l:List α}{k:Nat}{x:α}(b:l[k]?=some x)(h:ok (f x)=false\/∃j y,k=j+1/\l[j]?=some y/\¬f y<f x):ups f ok none l=false:=by
 rw[Bool.eq_false_iff];intro d;have a:=Qut (k+1) d;obtain⟨c,rfl⟩:=List.getElem?_eq_some_iff.1 b;rcases h with h|⟨j,y,rfl,hy,hlt⟩
 ·rw[List.take_succ_eq_append_getElem c,Qeb,h]at a;simp at a
 ·rw[Qko f ok hy b]at a
  simp[hlt]at a
def Xq(l:List Int)(lo hi:Int):Bool:=ups (λx=>x) Qz none l&&decide (lo<=l.length)&&decide ((l.length:Int)<=hi)
def Mr(r:Rec):Bool:=if r.kind=2 then Zw r.id else r.id==0
def Gi(r:Rec):Bool:=if r.kind=5 then true else !r.yes
def F3(k:Int):Int:=if k=6 then 1 else if k=9 then 1 else 0
def Wp(k:Int):Int:=if k=6 then 7 else if k=8 then 7 else if k=9 then 1 else 0
def Jw(k:Int):Int:=if k=4 then 10 else if k=7 then 10 else 0
def Qp(r:Rec):Bool:=decide (1<=r.kind)&&decide (r.kind<=9)&&Zw r.tid&&(Mr r&&Gi r&&Xq r.parts (F3 r.kind) (Wp r.kind)&&decide ((r.puts.length:Int)<=Jw r.kind)&&r.puts.all Jg)
end Go.Po
namespace Go.Proofs.YtkdpmdfcdgphlaaGreat
open Tryz
open Go.RowKit Go.Mem Go.Po
theorem X7(n:Int)(w:World):
 Calls prog 95 #[.int .i64 n] w λe w'=>e=.returned (.bool (Qz n))/\w=w':=by
 by_cases a:0<n
 ·by_cases b:n<=8
  ·have E:=Zh (show Qz n=true by simp[Qz,a,b])
   go_enter func95,ntmps95;go_wp2;go_ret;exact⟨by rw[E.o];rfl,rfl⟩
  ·have E:=Zh (show Qz n=false by simp[Qz,a,b])
   go_enter func95,ntmps95;go_wp2;go_ret;exact⟨by rw[E.o];rfl,rfl⟩
 ·have E:=Zh (show Qz n=false by simp[Qz,a])
  go_enter func95,ntmps95;go_wp2;go_ret;exact⟨by rw[E.o];rfl,rfl⟩
theorem Bf(t:Int)(d:i64 t)(w:World):
 Calls prog 67 #[.int .i64 t] w λe w'=>e=.returned (.int .i64 (home t))/\w=w':=by
 obtain⟨i,h⟩:=d;by_cases f:0<=t
 ·by_cases b:t / 4294967296<1
  ·have E:=Zh (show home t=0 by rw[home,if_neg (by omega)])
   go_enter func67,ntmps67;go_wp2;go_ret;exact⟨by rw[E.o];rfl,rfl⟩
  ·by_cases g:8<t / 4294967296
   ·have E:=Zh (show home t=0 by rw[home,if_neg (by omega)])
    go_enter func67,ntmps67;go_wp2;go_ret;exact⟨by rw[E.o];rfl,rfl⟩
   ·by_cases a:t % 4294967296=0
    ·have E:=Zh (show home t=0 by rw[home,if_neg (by omega)])
     have c:(t % 4294967296==0)=true:=by simp[a]
     clear a;go_enter func67,ntmps67;go_wp2;go_ret;exact⟨by rw[E.o];rfl,rfl⟩
    ·have E:=Zh (show home t=t / 4294967296 by rw[home,if_pos (by omega)])
     have c:(t % 4294967296==0)=false:=by simp[a]
     go_enter func67,ntmps67;go_wp2;go_ret;exact⟨by rw[E.o];rfl,rfl⟩
 ·have E:=Zh (show home t=0 by rw[home,if_neg (by omega)])
  have b:t.tdiv 4294967296<=0:=by
   rw[show t=-(-t) by omega,Int.neg_tdiv,Int.tdiv_eq_ediv_of_nonneg (by omega)];omega
  have a:t.tdiv 4294967296<1:=by omega
  clear b;go_enter func67,ntmps67;go_wp2;go_ret;exact⟨by rw[E.o];rfl,rfl⟩
theorem Wq(t:Int)(a:i64 t)(w:World):
 Calls prog 58 #[.int .i64 t] w λe w'=>e=.returned (.bool (Zw t))/\w=w':=by
 go_enter func58,ntmps58;go_wp2_with fail;refine(Bf t a w).zS ?_;go_wp2;go_ret;exact⟨rfl,rfl⟩
theorem Ms(b n:Int)(w:World):
 Calls prog 81 #[.int .i64 b,.int .i64 n] w λe w'=>e=.returned (.int .i64 (mk b n))/\w=w':=by
 rcases a:Qz b with _|_
 ·have E:=Zh (show mk b n=0 by rw[mk,if_neg (by rw[a];simp)])
  have c:=Zh a;clear a;go_enter func81,ntmps81;go_wp2_with fail;refine(X7 b w).mono ?_;rw[c.o];rintro e d ⟨rfl,rfl⟩;go_wp2;go_ret;exact⟨by rw[E.o];rfl,rfl⟩
 ·have c:=Zh a
  have g:0<b/\b<=8:=by simpa[Qz] using a
  obtain⟨i,j⟩:=g;by_cases h:n<1
  ·have E:=Zh (show mk b n=0 by rw[mk,if_neg (by omega)])
   clear a;go_enter func81,ntmps81;go_wp2_with fail;refine(X7 b w).mono ?_;rw[c.o];rintro e d ⟨rfl,rfl⟩;go_wp2;go_ret;exact⟨by rw[E.o];rfl,rfl⟩
  ·by_cases f:n<4294967296
   ·have E:=Zh (show mk b n=b*4294967296+n by rw[mk,if_pos ⟨a,by omega,f⟩])
    clear a;go_enter func81,ntmps81;go_wp2_with fail;refine(X7 b w).mono ?_;rw[c.o];rintro e d ⟨rfl,rfl⟩;go_wp2;go_ret;exact⟨by rw[E.o];rfl,rfl⟩
   ·have E:=Zh (show mk b n=0 by rw[mk,if_neg (by omega)])
    clear a;go_enter func81,ntmps81;go_wp2_with fail;refine(X7 b w).mono ?_;rw[c.o];rintro e d ⟨rfl,rfl⟩;go_wp2;go_ret;exact⟨by rw[E.o];rfl,rfl⟩
theorem Qkp(s:ByteArray)(w:World):
 Calls prog 138 #[.string s] w λe w'=>e=.returned (.bool (Ck s))/\w=w':=by
 have E:=Zh (show Ck s=decide ((s.size:Int)<=60) by unfold Ck;rw[Bool.eq_iff_iff];simp;omega);go_enter func138,ntmps138;go_wp2;go_ret;exact⟨by rw[E.o];rfl,rfl⟩
theorem Qhr{s:ByteArray}{k:Nat}{x:UInt8}(a:s.data.toList[k]?=some x)(h:letter x=false):Jl s=false:=by
 have:s.data.toList.all letter=false:=by
  rw[List.all_eq_false];exact⟨x,List.mem_of_getElem? a,by rw[h];simp⟩
 simp[Jl,this]
theorem Dh(s:ByteArray)(h:s.size<=maxLen)(w:World):
 Calls prog 76 #[.string s] w λe w'=>e=.returned (.bool (Jl s))/\w=w':=by
 unfold maxLen at h;go_enter func76,ntmps76;go_wp2;go_loop [3,6] (λ_ i=>∃k:Nat,k<=s.size/\i=.int .i64 k/\Hid ((s.data.toList.take k).all letter=true)) (λ_ i=>s.size-(intOf i).toNat)
 case atStart=>exact⟨0,Nat.zero_le _,rfl,Zh rfl⟩
 case round=>
  obtain⟨k,l,rfl,A⟩:=hrel;by_cases g:k<s.size
  ·have c:∃x:UInt8,s[k]=x:=⟨_,rfl⟩
   obtain⟨x,c⟩:=c;have j:Hid (s.data.toList.take (k+1)=s.data.toList.take k++[x]):=Zh (by
    rw[List.take_succ_eq_append_getElem (by simpa using g),<-c];rfl)
   have a:s.data.toList[k]?=some x:=by
    rw[<-c];have:k<s.data.toList.length:=by simpa using g
    rw[List.getElem?_eq_getElem this];rfl
   have d:=Zh a;clear a;by_cases b:97<=x.toNat
   ·by_cases f:x.toNat<=122
    ·have a:=Zh (show letter x=true by simp[letter,b,f])
     go_wp2;go_round
     case rel=>exact⟨k+1,by omega,by go_num,Zh (by rw[j.o,List.all_append,A.o];simp[a.o])⟩
     case measure=>simp[intOf];omega
    ·have a:=Zh (show Jl s=false from Qhr d.o (by simp[letter,f]))
     go_wp2;go_ret;exact⟨by rw[a.o];rfl,rfl⟩
   ·have a:=Zh (show Jl s=false from Qhr d.o (by simp[letter,b]))
    go_wp2;go_ret;exact⟨by rw[a.o];rfl,rfl⟩
  ·have c:s.data.toList.all letter=true:=by
    have:=A.o;rwa [List.take_of_length_le (by simp;omega)]at this
   by_cases b:0<s.size
   ·have a:=Zh (show Jl s=decide ((s.size:Int)<=8) by
     rw[Jl,c,Bool.eq_iff_iff];simp[b];omega)
    have d:(0:Int)<(s.size:Int):=by omega
    clear c;go_wp2;go_ret;exact⟨by rw[a.o];rfl,rfl⟩
   ·have a:=Zh (show Jl s=false by simp[Jl,b])
    have d:¬(0:Int)<(s.size:Int):=by omega
    clear c;go_wp2;go_ret;exact⟨by rw[a.o];rfl,rfl⟩
theorem Qgr(p:Put)(d:p.q.size<=maxLen)(w:World):
 Calls prog 59 #[.agg #[.string p.q,.string p.b]] w λe w'=>e=.returned (.bool (Jg p))/\Bel w w':=by
 obtain⟨q,b⟩:=p;rcases a:Jl q with _|_
 ·have c:=Zh a
  have E:=Zh (show Jg ⟨q,b⟩=false by simp[Jg,a]);clear a;go_enter func59,ntmps59;go_wp2_with fail;refine(Dh q d _).mono ?_;rw[c.o];rintro e f ⟨rfl,rfl⟩;go_wp2;go_ret;exact⟨by rw[E.o];rfl,(Bel.refl w).alloc _⟩
 ·have c:=Zh a
  have E:=Zh (show Jg ⟨q,b⟩=Ck b by simp[Jg,a]);clear a;go_enter func59,ntmps59;go_wp2_with fail;refine(Dh q d _).mono ?_;rw[c.o];rintro e f ⟨rfl,rfl⟩;go_wp2_with fail;refine(Qkp b _).zS ?_;go_wp2;go_ret;exact⟨by rw[E.o];rfl,(Bel.refl w).alloc _⟩
theorem Qgs(p:Put)(c:p.q.size<=maxLen)(w:World):
 Calls prog 266 #[.agg #[.string p.q,.string p.b]] w λe w'=>e=.returned (.bool (!Jg p))/\Bel w w':=by
 go_enter func266,ntmps266;go_wp2_with fail;refine(Qgr p c _).zR λa a=>?_
 have b:=Zh (((Bel.refl w).alloc _).trans a);clear a;go_wp2;go_ret;exact⟨rfl,b⟩
theorem Qp5(d c:Int)(A:Nat->Prop)(w:World)(ao:Option Addr)(cap:Nat)(l:List Int)(h:Rd Qh A w ao cap l):
 Calls prog 267 #[.slice ao l.length cap,.int .i64 d,.int .i64 c] w λe w'=>e=.returned (.bool (Xq l d c))/\w=w':=by
 have H:=Zh h;obtain⟨n,a⟩:=Zx l.length;have s:=h.small;rw[<-a]at s ⊢;have o:=Zh a;clear h a;go_enter func267,ntmps267;go_wp2;go_loop [7,8,11] (λ_ _ i=>∃k:Nat,k<=n/\i=.int .i64 k/\Hid (ups (λx=>x) Qz none (l.take k)=true)) (λ_ _ i=>n-(intOf i).toNat)
 case atStart=>exact⟨0,Nat.zero_le _,rfl,Zh rfl⟩
 case round=>
  obtain⟨k,C,rfl,U⟩:=hrel;by_cases D:k<n
  ·have h:k<l.length:=by have:=o.o;omega
   obtain⟨x,b⟩:∃x,l[k]?=some x:=⟨l[k],by simp[h]⟩;obtain⟨t,off,rfl,z,c0⟩:=Yf H.o b;rcases a:Qz x with _|_
   ·have g:=Zh a
    have E:=Zh (show Xq l d c=false by rw[Xq,Qof b (.inl a)];rfl);clear b a h;go_wp2_with fail;refine(X7 x w).mono ?_;rw[g.o];rintro e p ⟨rfl,rfl⟩;go_wp2;go_ret;exact⟨by rw[E.o];rfl,rfl⟩
   ·have g:=Zh a
    rcases k with _|j
    ·have E:=Zh (Qry (f:=λx=>x) b a)
     rw[Nat.add_zero]at c0;clear b a h;go_wp2_with fail;refine(X7 x w).mono ?_;rw[g.o];rintro e p ⟨rfl,rfl⟩;go_wp2;go_round
     case rel=>exact⟨1,by omega,rfl,E⟩
     case measure=>simp[intOf];omega
    ·obtain⟨y,m⟩:∃y,l[j]?=some y:=⟨l[j],by simp[show j<l.length by omega]⟩
     obtain⟨v,F,r,B,c1⟩:=Yf H.o m;cases r;by_cases q:y<x
     ·have E:=Zh (Qus (f:=λx=>x) m b a q U.o)
      clear b a h m;go_wp2_with fail;refine(X7 x w).mono ?_;rw[g.o];rintro e p ⟨rfl,rfl⟩;go_wp2;go_round
      case rel=>exact⟨j+2,by omega,by go_num,E⟩
      case measure=>simp[intOf];omega
     ·have E:=Zh (show Xq l d c=false by rw[Xq,Qof b (.inr ⟨j,y,rfl,m,q⟩)];rfl)
      clear b a h m;go_wp2_with fail;refine(X7 x w).mono ?_;rw[g.o];rintro e p ⟨rfl,rfl⟩;go_wp2;go_ret;exact⟨by rw[E.o];rfl,rfl⟩
  ·have a:=U.o
   rw[List.take_of_length_le (by have:=o.o;omega)]at a;by_cases b:d<=n
   ·have E:=Zh (show Xq l d c=decide ((n:Int)<=c) by have:=o.o;simp[Xq,a,<-this,b])
    clear a;go_wp2;go_ret;exact⟨by rw[E.o];rfl,rfl⟩
   ·have E:=Zh (show Xq l d c=false by have:=o.o;simp[Xq,<-this,b])
    clear a;go_wp2;go_ret;exact⟨by rw[E.o];rfl,rfl⟩
def Zj(A:Nat->Prop)(w:World)(b:Nat)(rest:List UInt8)(bad:Bool):Prop:=
 ∃T ao cap,w.heap[b]?=some (.cells #[.slice ao rest.length cap,.bool bad] T (0,0))/\Rd Ql A w ao cap rest/\A b
theorem Zj.keep{A B S:Nat->Prop}{w w':World}{b:Nat}{d:List UInt8}{a:Bool}(h:Zj A w b d a)(c:Kept S w w')(j:¬S b)(g:B b)(l:∀k,S k->A k)(i:∀k,k<w.heap.size->B k->A k):Zj B w' b d a:=by
 obtain⟨T,ao,cap,e,f,m⟩:=h;exact⟨T,ao,cap,c.heap j e,f.keep c l i,g⟩
theorem Zj.bel{A:Nat->Prop}{w w':World}{b:Nat}{d:List UInt8}{a:Bool}(h:Zj A w b d a)(c:Bel w w'):Zj A w' b d a:=by
 obtain⟨T,ao,cap,e,f,g⟩:=h;exact⟨T,ao,cap,c.heap e,f.bel c,g⟩
theorem Qxv{A:Nat->Prop}{w:World}{b:Nat}{T:TypeId}{ao a:Option Addr}{cap c n:Nat}{d:List UInt8}{e:Bool}(i:w.heap[b]?=some (.cells #[.slice ao n cap,.bool e] T (0,0)))(j:Rd Ql A w a c d)(f:A b){m:Nat}(l:m=d.length):
 Zj A (w.setCell ⟨b,0,none⟩ (.slice a m c)) b d e/\Kept (λk=>k=b) w (w.setCell ⟨b,0,none⟩ (.slice a m c)):=by
 subst l;have g:Kept (λk=>k=b) w (w.setCell ⟨b,0,none⟩ (.slice a d.length c)):=(Kept.refl (λk=>k=b) w).setCell (p:=⟨b,0,none⟩) rfl _;exact⟨⟨T,a,c,by rw[Go.Mem.heap_setCell_same w b 0 _ _ T (0,0) i];simp,j.keep g (λk h=>h▸f) λ_ _ h=>h,f⟩,g⟩
theorem Qy6{A:Nat->Prop}{w:World}{b:Nat}{T:TypeId}{ao:Option Addr}{cap:Nat}{a:List UInt8}{e:Bool}(f:w.heap[b]?=some (.cells #[.slice ao a.length cap,.bool e] T (0,0)))(g:Rd Ql A w ao cap a)(c:A b):
 Zj A (w.setCell ⟨b,1,none⟩ (.bool true)) b a true/\Kept (λk=>k=b) w (w.setCell ⟨b,1,none⟩ (.bool true)):=by
 have d:Kept (λk=>k=b) w (w.setCell ⟨b,1,none⟩ (.bool true)):=(Kept.refl (λk=>k=b) w).setCell (p:=⟨b,1,none⟩) rfl _;exact⟨⟨T,ao,cap,by rw[Go.Mem.heap_setCell_same w b 1 _ _ T (0,0) f];simp,g.keep d (λk h=>h▸c) λ_ _ h=>h,c⟩,d⟩
theorem Qhp(A:Nat->Prop)(w:World)(b:Nat)(d:List UInt8)(f:Bool)(h:Zj A w b d f):
 Calls prog 263 #[.pointer (some ⟨b,0,none⟩)] w λe w'=>e=.returned (.tuple #[])/\Zj A w' b d true/\Kept (λk=>k=b) w w':=by
 obtain⟨T,ao,cap,a,c,g⟩:=h;have c1:=cell_of_block a 1 _ rfl;have i:=Qa a 1;have R:=Zh (Qy6 a c g);clear a c;go_enter func263,ntmps263;go_wp2;go_end0
 exact⟨rfl,R⟩
theorem Qxw{P:Program}(t:TypeId)(size:Nat)(d:P.underlying t=some (.slice (P.elem t)))(c:∀w:World,(sizeOf (P.elem t)).run P w=.ok size w)(ao:Option Addr)(n cap a b:Nat)(e:a<=b)(f:b<=cap)(w:World):
 (Instr.slice t (.slice ao n cap) (some (.int .i64 a)) (some (.int .i64 b)) none).run P w=.ok (.slice (adv ao cap a size) (b-a) (cap-a)) w:=by
 rw[run_slice_lh w t ao n cap d .i64 .i64 a b (by omega) (by omega) (by omega),c];simp[Result.andThen,sliced,adv]
theorem De:prog.elem 179=5:=by simp[Program.elem,underlying179]
theorem Ti(ao:Option Addr)(n cap k:Nat)(b:k<=n)(w:World):
 (Instr.slice 179 (.slice ao n cap) (some (.int .i64 k)) none none).run prog w=.ok (.slice (adv ao cap k 1) (n-k) (cap-k)) w:=by
 obtain⟨g,h,a,d,c,e,f⟩:=(Vn).hi;exact Vq (P:=prog) 179 1 (by rw[De];exact underlying179) (λw=>by rw[De];simp[sizeOf,typeInfo,a,c]) ao n cap k b w
theorem Qup(ao:Option Addr)(n cap a b:Nat)(c:a<=b)(d:b<=cap)(w:World):
 (Instr.slice 179 (.slice ao n cap) (some (.int .i64 a)) (some (.int .i64 b)) none).run prog w=.ok (.slice (adv ao cap a 1) (b-a) (cap-a)) w:=by
 obtain⟨j,k,e,g,f,h,i⟩:=(Vn).hi;exact Qxw (P:=prog) 179 1 (by rw[De];exact underlying179) (λw=>by rw[De];simp[sizeOf,typeInfo,e,f]) ao n cap a b c d w
theorem Qoe(k:Nat)(A:Nat->Prop)(w:World)(b:Nat)(a:List UInt8)(h:Zj A w b a false)(f:k<=a.length):
 Calls prog 264 #[.pointer (some ⟨b,0,none⟩),.int .i64 k] w λe w'=>(∃ao cap,e=.returned (.slice ao k cap)/\Rd Ql A w' ao cap (a.take k))/\Zj A w' b (a.drop k) false/\Kept (λk=>k=b) w w':=by
 obtain⟨T,ao,cap,c,d,i⟩:=h;have c0:=cell_of_block c 0 _ rfl;have c1:=cell_of_block c 1 _ rfl;have l:=Qa c 0;have m:=λw=>Ti ao a.length cap k f w
 have n:(k:Int)<=(a.length:Int):=by omega
 have o:(k:Int)<=(cap:Int):=by have:=d.le;omega
 obtain⟨j,g⟩:=Zh2 c d;have p:=d.small;clear c d;go_enter func264,ntmps264;go_wp2;go_ret;obtain⟨d,c⟩:=Qxv j.o (g.drop f) i (show a.length-k=(a.drop k).length by simp);exact⟨⟨ao,cap,rfl,(g.take f).keep c (λ_ h=>h▸i) λ_ _ h=>h⟩,d,c⟩
theorem Quq(k:Nat)(A:Nat->Prop)(w:World)(b:Nat)(a:List UInt8)(f:Bool)(h:Zj A w b a f)(g:f=true\/a.length<k):
 Calls prog 264 #[.pointer (some ⟨b,0,none⟩),.int .i64 k] w λe w'=>e=.returned (.slice none 0 0)/\Zj A w' b a true/\Kept (λk=>k=b) w w':=by
 have H:=Zh h;obtain⟨T,ao,cap,c,d,j⟩:=h;have c0:=cell_of_block c 0 _ rfl;have c1:=cell_of_block c 1 _ rfl;have n:=d.small;clear c d;cases f
 ·have l:a.length<k:=by rcases g with h|h;cases h;exact h
  have m:((a.length:Int))<(k:Int):=by omega
  clear g;go_enter func264,ntmps264;go_wp2_with fail;refine(Qhp A w b a false H).zR λi c=>?_
  have d:=Zh c;clear c;go_wp2;go_ret;exact⟨rfl,d⟩
 ·clear g
  go_enter func264,ntmps264;go_wp2_with fail;refine(Qhp A w b a true H).zR λi c=>?_
  have d:=Zh c;clear c;go_wp2;go_ret;exact⟨rfl,d⟩
def leN:List UInt8->Nat
 | []=>0
 | x::l=>x.toNat+256*leN l
theorem Qkl(l:List UInt8):leN l<256 ^ l.length:=by
 induction l with
 | nil=>simp[leN]
 | cons x l ih=>
  have:=x.toNat_lt;simp only[leN,List.length_cons,Nat.pow_succ];omega
theorem Qur(l:List UInt8)(x:UInt8):leN (l++[x])=leN l+x.toNat*256 ^ l.length:=by
 induction l with
 | nil=>simp[leN]
 | cons y l ih=>simp only[List.cons_append,leN,ih,List.length_cons,Nat.pow_succ];rw[Nat.mul_add,<-Nat.mul_assoc,Nat.mul_comm 256 x.toNat,Nat.mul_assoc,Nat.mul_comm 256 (256 ^ l.length)];omega
theorem Qkm(n:Nat):∀k,leN (Wi n k)=n % 256 ^ k:=by
 intro k;induction k generalizing n with
 | zero=>simp[Wi,leN,Nat.mod_one]
 | succ k ih=>
  simp only[Wi,leN,ih];have a:(UInt8.ofNat n).toNat=n % 256:=by simp[UInt8.toNat_ofNat']
  rw[a,Nat.pow_succ,Nat.mul_comm (256 ^ k) 256,Nat.mod_mul]
theorem Qxx(l:List UInt8)(x:UInt8)(j:Nat)(e:j<8)(a:l.length=j):bits BinOp.or IntKind.u64 (leN l:Int) (IntKind.u64.wrap (x.toNat*2 ^ (8*j)))=(leN (l++[x]):Int):=by
 have h:=x.toNat_lt;have d:=Qkl l;rw[a]at d;have b:(256:Nat) ^ j=2 ^ (8*j):=by rw[Nat.pow_mul]
 have g:2 ^ (8*j)<=72057594037927936:=by
  have:(2:Nat) ^ (8*j)<=2 ^ 56:=Nat.pow_le_pow_right (by omega) (by omega);simpa using this
 have f:x.toNat*2 ^ (8*j)<=255*2 ^ (8*j):=Nat.mul_le_mul_right _ (by omega);have c:((x.toNat:Int)*2 ^ (8*j))=((x.toNat*2 ^ (8*j):Nat):Int):=by simp
 rw[c,IntKind.wrap_u64,Int.emod_eq_of_lt (by omega) (by omega),u64_or_nat _ _ (by omega) (by omega),Qur,a,b];congr 1
 rw[Nat.or_comm,Nat.mul_comm,<-Nat.two_pow_add_eq_or_of_lt (by omega) x.toNat];omega
def rdV(k:Nat)(rest:List UInt8)(bad:Bool):Nat:=if bad=true\/rest.length<k then 0 else leN (rest.take k)
def Km(k:Nat)(rest:List UInt8)(bad:Bool):List UInt8:=if bad=true\/rest.length<k then rest else rest.drop k
def K3(k:Nat)(rest:List UInt8)(bad:Bool):Bool:=bad||decide (rest.length<k)
theorem Qea(n k:Nat)(a:List UInt8):rdV k (Wi n k++a) false=n % 256 ^ k:=by
 rw[rdV,if_neg (by simp[K9]),List.take_left' (K9 n k),Qkm]
theorem Pz(n k:Nat)(a:List UInt8):Km k (Wi n k++a) false=a:=by
 rw[Km,if_neg (by simp[K9]),List.drop_left' (K9 n k)]
theorem Tj(n k:Nat)(a:List UInt8):K3 k (Wi n k++a) false=false:=by
 simp[K3,K9]
theorem Tk(k:Nat)(B:k<=8)(A:Nat->Prop)(w:World)(b:Nat)(a:List UInt8)(c:Bool)(h:Zj A w b a c):
 Calls prog 249 #[.pointer (some ⟨b,0,none⟩),.int .i64 k] w λe w'=>e=.returned (.int .u64 (rdV k a c))/\Zj A w' b (Km k a c) (K3 k a c)/\Kept (λk=>k=b) w w':=by
 have H:=Zh h;clear h;by_cases d:c=true\/a.length<k
 ·go_enter func249,ntmps249
  go_wp2_with fail;refine(Quq k A w b a c H d).mono ?_;rintro e m ⟨rfl,f,h⟩;have R:=Zh (show Ending.returned (.int .u64 ((0:Nat):Int))=Ending.returned (.int .u64 (rdV k a c))/\Zj A m b (Km k a c) (K3 k a c)/\Kept (λk=>k=b) w m from⟨by rw[rdV,if_pos d],by rw[Km,if_pos d,show K3 k a c=true from by simpa[K3] using d];exact f,h⟩);clear f h d;go_wp2;go_loop [5,12] (λv i=>v=.int .u64 0/\i=.int .i64 0) (λ_ _=>0)
  case atStart=>exact⟨rfl,rfl⟩
  case round=>
   obtain⟨rfl,rfl⟩:=hrel;go_wp2;go_ret;exact R
 ·have t:c=false:=by cases c<;>simp_all
  have q:k<=a.length:=by omega
  subst t;go_enter func249,ntmps249;go_wp2_with fail;refine(Qoe k A w b a H q).mono ?_;rintro e m ⟨⟨ao,cap,rfl,n⟩,f,h⟩;have R:=Zh (show Ending.returned (.int .u64 ((leN (a.take k):Nat):Int))=Ending.returned (.int .u64 (rdV k a false))/\Zj A m b (Km k a false) (K3 k a false)/\Kept (λk=>k=b) w m from⟨by rw[rdV,if_neg d],by rw[Km,if_neg d,show K3 k a false=false from by simpa[K3] using q];exact f,h⟩);obtain⟨l,o⟩:=Zx (a.take k);have r:l.length=k:=by rw[o];simp;omega
  rw[<-o]at R n;obtain⟨s,p⟩:=Zh2 n r;clear f h d n o r;go_wp2;go_loop [5,6,7,12] (λv _ _ i=>∃j:Nat,j<=k/\i=.int .i64 j/\v=.int .u64 ((leN (l.take j):Nat):Int)) (λ_ _ _ i=>k-(intOf i).toNat)
  case atStart=>exact⟨0,Nat.zero_le _,rfl,rfl⟩
  case round=>
   obtain⟨j,y,rfl,rfl⟩:=hrel;by_cases z:j<k
   ·have f:j<l.length:=by have:=p.o;omega
    obtain⟨g,off,rfl,r,o⟩:=Wm (k:=j) (x:=l[j]) s.o (by simp[f]);obtain⟨x,d⟩:=Zx (l[j]);rw[<-d]at o;have C:=x.toNat_lt;have n:=Zh d;clear d;go_wp2;have d:=Qxx (l.take j) x j (by omega) (by simp;omega);have h:=Zh d;clear d;go_roundw
    case rel=>exact⟨j+1,by omega,by go_num,by rw[h.o,List.take_succ_eq_append_getElem f,n.o]⟩
    case measure=>simp[intOf];omega
   ·have f:j=k:=by omega
    subst f;have h:¬(j:Int)<(j:Int):=by omega
    have d:=Zh (show l.take j=l from List.take_of_length_le (by have:=p.o;omega));go_wp2;go_ret;rw[d.o];exact R
theorem V7(A:Nat->Prop)(w:World)(ao:Option Addr)(cap:Nat)(l:List UInt8)(h:Rd Ql A w ao cap l):
 Calls prog 168 #[.slice ao l.length cap] w λe w'=>∃b,e=.returned (.pointer (some ⟨b,0,none⟩))/\w.heap.size<=b/\Zj (λk=>A k\/k=b) w' b l false/\Bel w w':=by
 have H:=Zh h;clear h;go_enter func168,ntmps168;go_wp2;go_ret;refine⟨_,rfl,Nat.le_refl _,⟨_,ao,cap,heap_alloc_new w _,?_,.inr rfl⟩,(Bel.refl w).alloc _⟩;exact H.keep (((Bel.refl w).alloc _).kept λ_=>False) (λ_ h=>h.elim) λk a h=>h.elim id λh=>by omega
theorem Yk(A:Nat->Prop)(w:World)(b:Nat)(a:List UInt8)(c:Bool)(h:Zj A w b a c):
 Calls prog 170 #[.pointer (some ⟨b,0,none⟩)] w λe w'=>e=.returned (.int .i64 (rdV 2 a c))/\Zj A w' b (Km 2 a c) (K3 2 a c)/\Kept (λk=>k=b) w w':=by
 have H:=Zh h;clear h;have g:rdV 2 a c<65536:=by
  unfold rdV;split
  ·omega
  ·have:=Qkl (a.take 2)
   have d:(a.take 2).length<=2:=by rw[List.length_take];omega
   have f:256 ^ (a.take 2).length<=256 ^ 2:=Nat.pow_le_pow_right (by omega) d;omega
 go_enter func170,ntmps170;go_wp2_with fail;refine(Tk 2 (by omega) A w b a c H.o).zR λd d=>?_
 have f:=Zh d;clear d;go_wp2;go_ret;exact⟨rfl,f⟩
def Qbo(rest:List UInt8)(bad:Bool):Int:=wrap64 (rdV 8 rest bad)
theorem Tn(A:Nat->Prop)(w:World)(b:Nat)(c:List UInt8)(a:Bool)(h:Zj A w b c a):
 Calls prog 169 #[.pointer (some ⟨b,0,none⟩)] w λe w'=>e=.returned (.int .i64 (Qbo c a))/\Zj A w' b (Km 8 c a) (K3 8 c a)/\Kept (λk=>k=b) w w':=by
 have H:=Zh h;clear h;go_enter func169,ntmps169;go_wp2_with fail;refine(Tk 8 (by omega) A w b c a H.o).zR λd d=>?_
 have f:=Zh d;clear d;go_wp2;go_ret;exact⟨rfl,f⟩
theorem Qc7(A:Nat->Prop)(w:World)(b:Nat)(c:List UInt8)(a:Bool)(h:Zj A w b c a)(g:rdV 1 c a<=1):
 Calls prog 178 #[.pointer (some ⟨b,0,none⟩)] w λe w'=>e=.returned (.bool ((rdV 1 c a:Int)==1))/\Zj A w' b (Km 1 c a) (K3 1 c a)/\Kept (λk=>k=b) w w':=by
 have H:=Zh h;clear h;go_enter func178,ntmps178;go_wp2_with fail;refine(Tk 1 (by omega) A w b c a H.o).zR λd d=>?_
 have f:=Zh d;clear d;go_wp2;go_ret;exact⟨rfl,f⟩
theorem Y7(A:Nat->Prop)(w:World)(b:Nat)(f:List UInt8)(a:Bool)(h:Zj A w b f a):
 Calls prog 171 #[.pointer (some ⟨b,0,none⟩)] w λe w'=>e=.returned (.bool a)/\w=w':=by
 obtain⟨T,ao,cap,c,d,g⟩:=h;have c1:=cell_of_block c 1 _ rfl;clear c d;go_enter func171,ntmps171;go_wp2;go_ret;exact⟨rfl,rfl⟩
theorem Df(A:Nat->Prop)(w:World)(b:Nat)(a:List UInt8)(c:Bool)(h:Zj A w b a c):
 Calls prog 180 #[.pointer (some ⟨b,0,none⟩)] w λe w'=>e=.returned (.bool (!c&&a.isEmpty))/\w=w':=by
 have H:=Zh h;obtain⟨T,ao,cap,d,f,g⟩:=h;have c0:=cell_of_block d 0 _ rfl;clear d f;cases c
 ·rcases a with _|⟨x,l⟩
  ·go_enter func180,ntmps180
   go_wp2_with fail;refine(Y7 A w b [] false H).zS ?_;go_wp2;go_ret;exact⟨rfl,rfl⟩
  ·have d:(((x::l).length:Int)==0)=false:=by simp;omega
   go_enter func180,ntmps180;go_wp2_with fail;refine(Y7 A w b (x::l) false H).zS ?_;go_wp2;go_ret;exact⟨rfl,rfl⟩
 ·go_enter func180,ntmps180
  go_wp2_with fail;refine(Y7 A w b a true H).zS ?_;go_wp2;go_ret;exact⟨rfl,rfl⟩
theorem Qp3(A:Nat->Prop)(w:World)(b:Nat)(a:List UInt8)(h:Zj A w b a false):
 Calls prog 459 #[.pointer (some ⟨b,0,none⟩)] w λe w'=>e=.returned (.int .i64 a.length)/\w=w':=by
 have H:=Zh h;obtain⟨T,ao,cap,c,d,f⟩:=h;have c0:=cell_of_block c 0 _ rfl;clear c d;go_enter func459,ntmps459;go_wp2_with fail;refine(Y7 A w b a false H).zS ?_;go_wp2;go_ret;exact⟨rfl,rfl⟩
theorem Dg(s:ByteArray)(m:s.size<65536)(a:List UInt8)(A:Nat->Prop)(w:World)(b:Nat)(h:Zj A w b (X4 s++a) false):
 Calls prog 179 #[.pointer (some ⟨b,0,none⟩)] w λe w'=>e=.returned (.string s)/\Zj A w' b a false/\Kept (λk=>k=b) w w':=by
 have H:=Zh h;clear h;go_enter func179,ntmps179;go_wp2_with fail;refine(Yk A w b _ false H).mono ?_;have f:rdV 2 (X4 s++a) false=s.size:=by
  rw[X4,List.append_assoc,Qd,Qea];exact Nat.mod_eq_of_lt m
 have d:Km 2 (X4 s++a) false=s.data.toList++a:=by
  rw[X4,List.append_assoc,Qd,Pz]
 have c:K3 2 (X4 s++a) false=false:=by
  rw[X4,List.append_assoc,Qd,Tj]
 rw[f,d,c];clear f d c;rintro e n ⟨rfl,c,g⟩;go_wp2_with fail;refine(Qoe s.size A n b _ c (by simp)).mono ?_;rintro e o ⟨⟨ao,cap,rfl,i⟩,d,h⟩;obtain⟨f,j⟩:=Zh2 d (g.trans h);have l:=Fy (P:=prog) 179 9 5 underlying179 underlying5 underlying9 i;rw[show((s.data.toList++a).take s.size).length=s.size from by simp,show(s.data.toList++a).take s.size=s.data.toList from List.take_left' (by simp)]at l;rw[show(s.data.toList++a).drop s.size=a from List.drop_left' (by simp)]at f;clear c i d g h;go_wp2;go_ret;exact⟨rfl,f,j⟩
def P7(s:Nat):Nat:=if s % 2=1 then (s / 2) ^^^ 2197175160 else s / 2
def Qf3:Nat->Nat->Nat
 | 0,s=>s
 | k+1,s=>Qf3 k (P7 s)
def Gb(s x:Nat):Nat:=Qf3 8 (s ^^^ x)
def Pt(s:Nat)(l:List UInt8):Nat:=l.foldl (λs x=>Gb s x.toNat) s
def Qcw(s:Nat)(l:List UInt8):Nat:=4294967295 ^^^ Pt (4294967295 ^^^ s) l
def crc(l:List UInt8):Nat:=Qcw 0 l
theorem Nl(a b:Nat)(c:a<4294967296)(d:b<4294967296):a ^^^ b<4294967296:=Nat.xor_lt_two_pow (n:=32) c d
theorem Qox(s:Nat)(h:s<4294967296):P7 s<4294967296:=by
 unfold P7;split
 ·exact Nl _ _ (by omega) (by decide)
 ·omega
theorem Ql7:∀(k s:Nat),s<4294967296->Qf3 k s<4294967296
 | 0,_,h=>h
 | k+1,s,h=>Ql7 k _ (Qox s h)
theorem Qqo(s x:Nat)(h:s<4294967296)(a:x<4294967296):Gb s x<4294967296:=Ql7 _ _ (Nl _ _ h a)
theorem Qam:∀(l:List UInt8) (s:Nat),s<4294967296->Pt s l<4294967296
 | [],_,h=>h
 | x::l,s,h=>Qam l _ (Qqo s x.toNat h (by have:=x.toNat_lt;omega))
theorem Ql8(s:Nat)(l:List UInt8)(h:s<4294967296):Qcw s l<4294967296:=Nl _ _ (by decide) (Qam _ _ (Nl _ _ (by decide) h))
theorem Qoy(s:Nat)(h:s<4294967296):bits BinOp.xor IntKind.u32 IntKind.u32.max (s:Int)=((4294967295 ^^^ s:Nat):Int):=by
 rw[show IntKind.u32.max=((4294967295:Nat):Int) from rfl];exact u32_xor_nat _ _ (by decide) h
theorem Qqp(s:Nat)(l:List UInt8)(x:UInt8):Pt s (l++[x])=Gb (Pt s l) x.toNat:=by simp[Pt]
theorem Qvr(s x:Nat)(w:World)(h:s<4294967296)(p:x<256):
 Calls prog 329 #[.int .u32 s,.int .u8 x] w λe w'=>e=.returned (.int .u32 (Gb s x))/\w=w':=by
 have q:bits BinOp.xor IntKind.u32 (s:Int) (x:Int)=((s ^^^ x:Nat):Int):=u32_xor_nat s x h (by omega);have j:s ^^^ x<4294967296:=Nl _ _ h (by omega);go_enter func329,ntmps329;go_wp2;go_loop [0,5,10] (λv _ i=>∃(k m:Nat),k<=8/\m<4294967296/\i=.int .i64 k/\v=.int .u32 m/\Hid (Qf3 (8-k) m=Gb s x)) (λ_ _ i=>8-(intOf i).toNat)
 case atStart=>exact⟨0,s ^^^ x,by omega,j,rfl,rfl,Zh rfl⟩
 case round=>
  obtain⟨k,m,n,g,rfl,rfl,E⟩:=hrel;by_cases o:k<8
  ·have d:bits BinOp.and IntKind.u32 (m:Int) 1=((m % 2:Nat):Int):=by
    rw[show(1:Int)=((1:Nat):Int) from rfl,u32_and_nat m 1 g (by omega),Nat.and_one_is_mod]
   have l:bits BinOp.xor IntKind.u32 ((m:Int) / 2) 2197175160=((m / 2 ^^^ 2197175160:Nat):Int):=u32_xor_nat (m / 2) 2197175160 (by omega) (by omega);have c:Hid (Qf3 (8-(k+1)) (P7 m)=Gb s x):=Zh (by
    have:=E.o;rw[show 8-k=(8-(k+1))+1 from by omega]at this;exact this)
   have f:=Qox m g;by_cases a:m % 2=1
   ·have b:Hid (P7 m=m / 2 ^^^ 2197175160):=Zh (by rw[P7,if_pos a])
    rw[a]at d;clear a;go_wp2;go_round
    case rel=>exact⟨k+1,P7 m,by omega,f,by go_num,by rw[b.o],c⟩
    case measure=>simp[intOf];omega
   ·have b:Hid (P7 m=m / 2):=Zh (by rw[P7,if_neg a])
    rw[show m % 2=0 by omega]at d;clear a;go_wp2;go_round
    case rel=>exact⟨k+1,P7 m,by omega,f,by go_num,by rw[b.o];go_num,c⟩
    case measure=>simp[intOf];omega
  ·have a:k=8:=by omega
   subst a;have b:¬((8:Nat):Int)<8:=by omega
   go_wp2;go_ret;exact⟨by rw[<-E.o];rfl,rfl⟩
theorem Qsz(s:Nat)(d:s<4294967296)(A:Nat->Prop)(w:World)(ao:Option Addr)(cap:Nat)(l:List UInt8)(h:Rd Ql A w ao cap l):
 Calls prog 250 #[.int .u32 s,.slice ao l.length cap] w λe w'=>e=.returned (.int .u32 (Qcw s l))/\w=w':=by
 have H:=Zh h;obtain⟨n,a⟩:=Zx l.length;have g:=h.small;rw[<-a]at g ⊢;have f:=Zh a;clear h a;go_enter func250,ntmps250;go_wp2;go_loop [5,7,12] (λv _ i=>∃k:Nat,k<=n/\i=.int .i64 k/\v=.int .u32 (Pt (4294967295 ^^^ s) (l.take k))) (λ_ _ i=>n-(intOf i).toNat)
 case atStart=>
  exact⟨0,Nat.zero_le _,rfl,by rw[Qoy s d];rfl⟩
 case round=>
  obtain⟨k,o,rfl,rfl⟩:=hrel;by_cases p:k<n
  ·have a:k<l.length:=by have:=f.o;omega
   obtain⟨x,b⟩:∃x,l[k]?=some x:=⟨l[k],by simp[a]⟩;obtain⟨j,off,rfl,m,c0⟩:=Wm H.o b;have c:=Qam (l.take k) (4294967295 ^^^ s) (Nl _ _ (by decide) d);have h:=x.toNat_lt;have E:Hid (Pt (4294967295 ^^^ s) (l.take (k+1))=Gb (Pt (4294967295 ^^^ s) (l.take k)) x.toNat):=Zh (by
    rw[List.take_succ_eq_append_getElem a,Qqp];rw[List.getElem?_eq_getElem a]at b;cases b;rfl)
   clear b a;go_wp2_with fail;refine(Qvr _ _ w c h).zS ?_;go_wp2;go_round
   case rel=>exact⟨k+1,by omega,by go_num,by rw[E.o]⟩
   case measure=>simp[intOf];omega
  ·have a:k=n:=by omega
   subst a;have b:¬(k:Int)<(k:Int):=by omega
   have c:=Qam l (4294967295 ^^^ s) (Nl _ _ (by decide) d);have E:Hid (l.take k=l):=Zh (List.take_of_length_le (by have:=f.o;omega));go_wp2;go_ret;exact⟨by rw[E.o,Qoy _ c];rfl,rfl⟩
theorem Qf4(A:Nat->Prop)(w:World)(ao:Option Addr)(cap:Nat)(l:List UInt8)(h:Rd Ql A w ao cap l):
 Calls prog 172 #[.slice ao l.length cap] w λe w'=>e=.returned (.int .u32 (crc l))/\w=w':=by
 have H:=Zh h;clear h;go_enter func172,ntmps172;go_wp2_with fail;refine(Qsz 0 (by decide) A w ao cap l H.o).zS ?_;go_wp2;go_ret;exact⟨rfl,rfl⟩
theorem Vr(n:Int)(w:World):
 Calls prog 34 #[.int .i64 n] w λe w'=>e=.returned (.bool (Qz n))/\w=w':=by
 by_cases b:1<=n
 ·by_cases a:n<=8
  ·have E:=Zh (show Qz n=true by simp[Qz,a];omega)
   go_enter func34,ntmps34;go_wp2;go_ret;exact⟨by rw[E.o];rfl,rfl⟩
  ·have E:=Zh (show Qz n=false by simp[Qz,a])
   go_enter func34,ntmps34;go_wp2;go_ret;exact⟨by rw[E.o];rfl,rfl⟩
 ·have E:=Zh (show Qz n=false by simp[Qz];omega)
  go_enter func34,ntmps34;go_wp2;go_ret;exact⟨by rw[E.o];rfl,rfl⟩
theorem Qnk(t:Int)(w:World):
 Calls prog 18 #[.int .i64 t] w λe w'=>e=.returned (.int .i64 (home t))/\w=w':=by
 obtain⟨R,b⟩:=Zx (home t);rw[<-b];have h:=Zh b;clear b;go_enter func18,ntmps18;go_wp2;go_loopw[3] (λa wr=>∃(i:Nat),1<=i/\i<=9/\a=.int .i64 i/\wr=w/\Hid (∀j:Nat,1<=j->j<i->¬((j:Int)*4294967296<t/\t<(j:Int)*4294967296+4294967296))) (λa _=>10-(intOf a).toNat)
 case atStart=>exact⟨1,by omega,by omega,rfl,rfl,Zh λj k l=>by omega⟩
 case round=>
  obtain⟨i,q,r,rfl,rfl,b⟩:=hrel;by_cases p:i<=8
  ·have n:(i:Int)<=8:=by omega
   have o:IntKind.i64.wrap ((i:Int)+1)=((i+1:Nat):Int):=by rw[IntKind.wrap_i64];omega
   obtain⟨s,g⟩:=Zx ((i:Int)*4294967296);have v:IntKind.i64.wrap ((i:Int)*4294967296)=s:=by rw[IntKind.wrap_i64];omega
   have x:IntKind.i64.wrap (s+4294967296)=s+4294967296:=by rw[IntKind.wrap_i64];omega
   by_cases k:t>s
   ·by_cases l:t<s+4294967296
    ·have E:=Zh (show R=(i:Int) by rw[h.o,home,if_pos (by omega)];omega)
     clear g;go_wp2;go_ret;exact⟨by rw[E.o];rfl,rfl⟩
    ·have f:=Zh (show ∀j:Nat,1<=j->j<i+1->¬((j:Int)*4294967296<t/\t<(j:Int)*4294967296+4294967296) fromλj c m=>by
      by_cases d:j=i
      ·subst d;omega
      ·exact b.o j c (by omega))
     clear g;go_wp2;go_roundw
     case rel=>exact⟨i+1,by omega,by omega,by go_num,by first|rfl|trivial,f⟩
     case measure=>simp[intOf];omega
   ·have f:=Zh (show ∀j:Nat,1<=j->j<i+1->¬((j:Int)*4294967296<t/\t<(j:Int)*4294967296+4294967296) fromλj c m=>by
     by_cases d:j=i
     ·subst d;omega
     ·exact b.o j c (by omega))
    clear g;go_wp2;go_roundw
    case rel=>exact⟨i+1,by omega,by omega,by go_num,by first|rfl|trivial,f⟩
    case measure=>simp[intOf];omega
  ·obtain rfl:i=9:=by omega
   have E:=Zh (show R=0 by
    have k:=b.o 1 (by omega) (by omega);have l:=b.o 2 (by omega) (by omega);have c:=b.o 3 (by omega) (by omega);have m:=b.o 4 (by omega) (by omega);have d:=b.o 5 (by omega) (by omega);have g:=b.o 6 (by omega) (by omega);have n:=b.o 7 (by omega) (by omega);have o:=b.o 8 (by omega) (by omega);rw[h.o,home,if_neg];intro f;omega)
   go_wp2;go_ret;exact⟨by rw[E.o];rfl,rfl⟩
theorem Qz2(t:Int)(w:World):
 Calls prog 17 #[.int .i64 t] w λe w'=>e=.returned (.bool (Zw t))/\w=w':=by
 go_enter func17,ntmps17;go_wp2_with fail;refine(Qnk t w).zS ?_;go_wp2;go_ret;exact⟨rfl,rfl⟩
end Go.Proofs.YtkdpmdfcdgphlaaGreat

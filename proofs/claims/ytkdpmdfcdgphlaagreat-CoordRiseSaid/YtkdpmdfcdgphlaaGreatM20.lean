/- Part of this claim's proof. Conditions: as its theorems say. -/
import Derived.Test.YtkdpmdfcdgphlaaGreatM18
import Derived.Test.YtkdpmdfcdgphlaaGreatM19
set_option linter.all false
set_option maxHeartbeats 4000000
set_option maxRecDepth 100000
namespace Go.Proofs.YtkdpmdfcdgphlaaGreat
open Tryz
open Go.RowKit Go.Mem Go.Po
theorem Qdr{s:St}{r:Rec}(h:Zf s r=0):Qp r=true/\(Dw s r.tid=true->r.kind=9)/\J3 s r=false/\Zy s r=false/\Kc s r=false/\Jf s r=false:=by
 unfold Zf at h;split at h;· omega
 rename_i b;split at h;· omega
 rename_i c;split at h;· omega
 rename_i d;split at h;· omega
 rename_i e;split at h;· omega
 rename_i f;split at h;· omega
 rename_i g;refine⟨by simpa using b,λh=>by by_cases a:r.kind=9;exact a;exact absurd ⟨h,a⟩ c,by simpa using d,by simpa using e,by simpa using f,by simpa using g⟩
theorem Qqz(s:St)(p:Option Addr)(l:Nat)(y:Option Addr)(n:Nat)(o:Option Addr)(j:Nat)(v:Option Addr)(m:Nat)(t:Option Addr)(sN:Nat)(r:Rec)(rp:Option Addr)(g:Nat)(i:Option Addr)(h:Nat)(A:Nat->Prop)(w:World)(B:∀k,A k->k<w.heap.size)(z:StR A w s p l y n o j v m t sN)(ok:May s)(C:Rd Qh A w rp g r.parts)(D:Rd Qw A w i h r.puts)(L:Zf s r=0):
 Calls prog 188 #[.agg #[.int .i64 s.broker,.int .i64 s.nextId,.int .i64 s.nextSeq,.int .i64 s.tx,.slice p s.ms.length l,.slice y s.waits.length n,.slice o s.ends.length j,.slice v s.opens.length m,.slice t s.noes.length sN],.agg #[.int .i64 r.kind,.int .i64 r.tid,.int .i64 r.id,.bool r.yes,.slice rp r.parts.length g,.slice i r.puts.length h]] w λe w'=>∃F b I f E a H d G c,e=.returned (.agg #[.int .i64 (Qf s r).broker,.int .i64 (Qf s r).nextId,.int .i64 (Qf s r).nextSeq,.int .i64 (Qf s r).tx,.slice F (Qf s r).ms.length b,.slice I (Qf s r).waits.length f,.slice E (Qf s r).ends.length a,.slice H (Qf s r).opens.length d,.slice G (Qf s r).noes.length c])/\StR A w' (Qf s r) F b I f E a H d G c/\Bel w w':=by
 obtain⟨c1,c2,c3,M,N,O⟩:=Qdr L;have I:=Dq c1;have K:=Qai c1;rcases r with⟨P,a,b,d,f,c⟩;dsimp only at *;rcases Uf c1 with E|E|E|E|E|E|E|E|E<;>dsimp only at E<;>subst E
 ·exact Qwk s a b d f c p l y n o j v m t sN rp g i h A w B z ok C D
 ·exact Qwi s a b d f c (by simpa[J3] using c3) p l y n o j v m t sN rp g i h A w B z ok C D
 ·exact Qwl s a b d f c p l y n o j v m t sN rp g i h A w B z ok C D
 ·exact Qwj s a b d f c K p l y n o j v m t sN rp g i h A w B z ok C D
 ·have F:Qt (λx:Branch=>x.tid) a s.waits=true:=by simpa[J3,Jj] using c3
  rcases d with _|_
  ·exact Qtg s a b f c F p l y n o j v m t sN rp g i h A w B z ok C D
  ·exact Qtf s a b f c F p l y n o j v m t sN rp g i h A w B z ok C D
 ·exact Qwm s a b d f c I p l y n o j v m t sN rp g i h A w B z ok C D
 ·exact Qwn s a b d f c K p l y n o j v m t sN rp g i h A w B z ok C D
 ·rcases H:f with _|⟨G,pr⟩
  ·have F:Qf s ⟨8,a,b,d,[],c⟩=Qr s a false []:=by simp[Qf]
   subst H;rw[F];exact Qth s a b d [] c rfl p l y n o j v m t sN rp g i h A w B z ok C D
  ·have F:Qf s ⟨8,a,b,d,G::pr,c⟩=Vj (Qr s a false []) (Ki s.noes a (G::pr)):=by simp[Qf]
   subst H;rw[F];exact Qti s a b d (G::pr) c ⟨by simp,I⟩ p l y n o j v m t sN rp g i h A w B z ok C D
 ·obtain⟨q,G⟩:=Qhe c1 rfl
  dsimp only at G;have J:Qt (λx:Qv=>x.tid) a s.noes=true:=by
   have:Gd s ⟨9,a,b,d,f,c⟩=true:=by simpa[J3] using c3
   simp only[Gd,Bool.and_eq_true]at this;exact this.1
  by_cases H:Bl s a q=[]
  ·have F:Qf s ⟨9,a,b,d,f,c⟩=Vj s (Xp s.noes a):=by simp[Qf,G,H]
   rw[F];exact Qtj s a b d f c q G J H p l y n o j v m t sN rp g i h A w B z ok C D
  ·have F:Qf s ⟨9,a,b,d,f,c⟩=Vj s (Ki (Xp s.noes a) a (Bl s a q)):=by simp[Qf,G,H]
   rw[F];exact Qtk s a b d f c q G J (List.length_pos_iff.2 H) p l y n o j v m t sN rp g i h A w B z ok C D
theorem Y3(s:St)(t:Option Addr)(l:Nat)(z:Option Addr)(n:Nat)(o:Option Addr)(j:Nat)(y:Option Addr)(m:Nat)(x:Option Addr)(sN:Nat)(r:Rec)(rp:Option Addr)(ab:Nat)(ad:Option Addr)(ac:Nat)(A:Nat->Prop)(w:World)(N:∀k,A k->k<w.heap.size)(h:StR A w s t l z n o j y m x sN)(ok:May s)(few:Few s)(Q:i64 r.tid)(O:i64 r.id)(c:Rd Qh A w rp ab r.parts)(M:Rd Qw A w ad ac r.puts)(f:Zf s r=0):
 Calls prog 106 #[.agg #[.int .i64 s.broker,.int .i64 s.nextId,.int .i64 s.nextSeq,.int .i64 s.tx,.slice t s.ms.length l,.slice z s.waits.length n,.slice o s.ends.length j,.slice y s.opens.length m,.slice x s.noes.length sN],.agg #[.int .i64 r.kind,.int .i64 r.tid,.int .i64 r.id,.bool r.yes,.slice rp r.parts.length ab,.slice ad r.puts.length ac]] w λe w'=>∃H C K F G B J E I D,e=.returned (.agg #[.int .i64 (Qf s r).broker,.int .i64 (Qf s r).nextId,.int .i64 (Qf s r).nextSeq,.int .i64 (Qf s r).tx,.slice H (Qf s r).ms.length C,.slice K (Qf s r).waits.length F,.slice G (Qf s r).ends.length B,.slice J (Qf s r).opens.length E,.slice I (Qf s r).noes.length D])/\StR A w' (Qf s r) H C K F G B J E I D/\Bel w w':=by
 obtain⟨aj,L⟩:=Zx (((w.alloc (.cells #[.int .i64 s.broker,.int .i64 s.nextId,.int .i64 s.nextSeq,.int .i64 s.tx,.slice t s.ms.length l,.slice z s.waits.length n,.slice o s.ends.length j,.slice y s.opens.length m,.slice x s.noes.length sN] 43)).alloc (.cells #[.int .i64 r.kind,.int .i64 r.tid,.int .i64 r.id,.bool r.yes,.slice rp r.parts.length ab,.slice ad r.puts.length ac] 124)).alloc (.cells #[.int .i64 0,.int .i64 0,.int .i64 0,.int .i64 0,.slice none 0 0,.slice none 0 0,.slice none 0 0,.slice none 0 0,.slice none 0 0] 43));obtain⟨P,R,k1,k2,i⟩:=three w aj _ _ _ _ _ _ L;have T:∀p∈r.puts,p.q.size<=maxLen:=λp c=>by have:=(Un (Qdr f).1 c).1;simp only[maxLen];omega
 obtain⟨ar,ap,ao,aq,ak,d,ai,am,ae,al⟩:=Qzj (Qcq s t l z n o j y m x sN A aj (h.bel i) ok) (λW (a:Bel w W)=>Re s r t l z n o j y m x sN rp ab ad ac A W (h.bel a) ok few Q O T (c.bel a) (M.bel a)) (λW (a:Bel w W/\w.heap.size+3<=W.heap.size)=>Qqz s t l z n o j y m x sN r rp ab ad ac (λk=>A k\/k=w.heap.size+2) W (λk g=>Nat.lt_of_lt_of_le (show k<w.heap.size+3 from g.elim (λh=>by have:=N k h;omega) λh=>by omega) a.2) (h.mono (λk g h=>h.elim (λh=>h) λh=>by omega) |>.bel a.1) ok (c.mono (λk g h=>h.elim (λh=>h) λh=>by omega) |>.bel a.1) (M.mono (λk g h=>h.elim (λh=>h) λh=>by omega) |>.bel a.1) f) f P R k1 k2 i L;clear h ok few Q O c M N f L P R k1 k2 i T;go_enter func106,ntmps106;go_upto_region 1 with (fail);rw[<-al.o];have e0:=cell_of_block d 0 _ rfl;have L:=cell_of_block d 1 _ rfl;have M:=cell_of_block d 2 _ rfl;have N:=cell_of_block d 3 _ rfl;have O:=cell_of_block d 4 _ rfl;have P:=cell_of_block d 5 _ rfl;have Q:=cell_of_block d 6 _ rfl;have R:=cell_of_block d 7 _ rfl;have S:=cell_of_block d 8 _ rfl;have zs:=Qb d;go_wp2_with fail;refine ar.zR λi f=>?_
 have a:=f.heap d;have c:=f.heap ai;clear zs e0 L M N O P Q R S;have e0:=cell_of_block a 0 _ rfl;have L:=cell_of_block a 1 _ rfl;have M:=cell_of_block a 2 _ rfl;have N:=cell_of_block a 3 _ rfl;have O:=cell_of_block a 4 _ rfl;have P:=cell_of_block a 5 _ rfl;have Q:=cell_of_block a 6 _ rfl;have R:=cell_of_block a 7 _ rfl;have S:=cell_of_block a 8 _ rfl;have U:=cell_of_block c 0 _ rfl;have V:=cell_of_block c 1 _ rfl;have X:=cell_of_block c 2 _ rfl;have Y:=cell_of_block c 3 _ rfl;have Z:=cell_of_block c 4 _ rfl;have aa:=cell_of_block c 5 _ rfl;have zs:=Qb a;have af:=Qb c;have ah:=Zh f;clear f a c;go_wp2_with fail;refine(ap i (ae.trans ah)).mono ?_;rw[aq.o];rintro e av ⟨rfl,f⟩;have i:=Zh (ah.trans f);have a:=i.heap d;have c:=i.heap ai;clear f zs af e0 L M N O P Q R S U V X Y Z aa;have e0:=cell_of_block a 0 _ rfl;have L:=cell_of_block a 1 _ rfl;have M:=cell_of_block a 2 _ rfl;have N:=cell_of_block a 3 _ rfl;have O:=cell_of_block a 4 _ rfl;have P:=cell_of_block a 5 _ rfl;have Q:=cell_of_block a 6 _ rfl;have R:=cell_of_block a 7 _ rfl;have S:=cell_of_block a 8 _ rfl;have U:=cell_of_block c 0 _ rfl;have V:=cell_of_block c 1 _ rfl;have X:=cell_of_block c 2 _ rfl;have Y:=cell_of_block c 3 _ rfl;have Z:=cell_of_block c 4 _ rfl;have aa:=cell_of_block c 5 _ rfl;have zs:=Qb a;have af:=Qb c;clear a c;go_wp2_with fail;refine(ao.o av ⟨ae.trans i.o,by have:=ak.o;have:=i.size;omega⟩).mono ?_;rintro e aw ⟨H,C,K,F,G,B,J,E,I,D,rfl,T,f⟩;have a:=f.heap (i.heap am);obtain⟨an,c⟩:=Zh2 T ((ae.trans i.o).trans f);clear T f zs af e0 L M N O P Q R S U V X Y Z aa;have ax:=Qa a;have U:=cell_of_block a 0 _ rfl;have V:=cell_of_block a 1 _ rfl;have X:=cell_of_block a 2 _ rfl;have Y:=cell_of_block a 3 _ rfl;have Z:=cell_of_block a 4 _ rfl;have aa:=cell_of_block a 5 _ rfl;have T:=cell_of_block a 6 _ rfl;have af:=cell_of_block a 7 _ rfl;have au:=cell_of_block a 8 _ rfl;have ay:=Qb a;clear a;go_wp2_with fail;have f:=U;have L:=V;have M:=X;have N:=Y;have O:=Z;have P:=aa;have Q:=T;have R:=af;have S:=au;have a:∀W,Kept (λb=>b=w.heap.size+2) aw W->StR A W (Qf s r) H C K F G B J E I D/\Bel w W:=λW g=>⟨an.keep g (λk h=>.inr h) λk _ h=>.inl h,c.of_kept g λq h=>by omega⟩
 refine bodyPost_ret (v:=.agg #[.int .i64 (Qf s r).broker,.int .i64 (Qf s r).nextId,.int .i64 (Qf s r).nextSeq,.int .i64 (Qf s r).tx,.slice H (Qf s r).ms.length C,.slice K (Qf s r).waits.length F,.slice G (Qf s r).ends.length B,.slice J (Qf s r).opens.length E,.slice I (Qf s r).noes.length D]) (by simp[results,results106,go_sem,f,L,M,N,O,P,Q,R,S]) rfl ⟨H,C,K,F,G,B,J,E,I,D,rfl,a _ (Xu _ (w.heap.size+2) _ _ _ _ _ _ _ _ _)⟩
def Z8(b:Int):St:=⟨b,1,1,0,[],[],[],[],[]⟩
theorem Lv(b:Int)(a:Qz b=true)(w:World):
 Calls prog 98 #[.int .i64 b] w λe w'=>e=.returned (.agg #[.int .i64 b,.int .i64 1,.int .i64 1,.int .i64 0,.slice none 0 0,.slice none 0 0,.slice none 0 0,.slice none 0 0,.slice none 0 0])/\Bel w w':=by
 go_enter func98,ntmps98;go_wp2_with fail;refine(X7 b _).mono ?_;rw[a];rintro e c ⟨rfl,rfl⟩;go_wp2;refine bodyPost_ret (v:=.agg #[.int .i64 b,.int .i64 1,.int .i64 1,.int .i64 0,.slice none 0 0,.slice none 0 0,.slice none 0 0,.slice none 0 0,.slice none 0 0]) (by simp[results,results98,go_sem]) rfl ⟨rfl,?_⟩;exact(Bel.refl w).alloc _
theorem Qo5(b:Int)(A:Nat->Prop)(w:World):StR A w (Z8 b) none 0 none 0 none 0 none 0 none 0:=
 ⟨Rd.nil _ _ _ _ _ (by simp[maxLen]),Rd.nil _ _ _ _ _ (by simp[maxLen]),Rd.nil _ _ _ _ _ (by simp[maxLen]),Rd.nil _ _ _ _ _ (by simp[maxLen]),Rd.nil _ _ _ _ _ (by simp[maxLen])⟩
end Go.Proofs.YtkdpmdfcdgphlaaGreat
namespace Go.Po
open Go.Mem
def Fa(m:Msg):Bool:=(m.who==0)&&decide (m.cnt<3)
def Fb(q:ByteArray)(m:Msg):Bool:=!decide (m.q=q)||!Fa m
def Ty(s:St)(q:ByteArray):List Msg:=s.ms.filter λm=>!Fb q m
def Fe(s:St)(q:ByteArray):Option Msg:=(Ty s q).head?
end Go.Po
namespace Go.Proofs.YtkdpmdfcdgphlaaGreat
open Tryz
open Go.RowKit Go.Mem Go.Po
theorem Qk9{a b:ByteArray}(h:¬a=b):(a.toList==b.toList)=false:=by
 rw[<-beq_toListBytes];exact Bool.eq_false_iff.2 λe=>h ((MapKept.bytes_beq _ _).1 e)
theorem Qfl(a:ByteArray):(a.toList==a.toList)=true:=by simp
theorem Qu6(x:Msg)(w:World):Calls prog 153 #[.agg #[.int .i64 x.id,.string x.q,.string x.b,.int .i64 x.seq,.int .i64 x.cnt,.int .i64 x.who]] w λe w'=>e=.returned (.bool (Fa x))/\Bel w w':=by
 by_cases a:x.who=0
 ·have c:(x.who==0)=true:=by simp[a]
  by_cases b:x.cnt<3
  ·have e:Fa x=true:=by simp[Fa,a,b]
   rw[e];clear e a;go_enter func153,ntmps153;go_wp2;go_ret;exact⟨rfl,(Bel.refl w).alloc _⟩
  ·have e:Fa x=false:=by simp[Fa,a,b]
   rw[e];clear e a;go_enter func153,ntmps153;go_wp2;go_ret;exact⟨rfl,(Bel.refl w).alloc _⟩
 ·have c:(x.who==0)=false:=by simp[a]
  have e:Fa x=false:=by simp[Fa,a]
  rw[e];clear e a;go_enter func153,ntmps153;go_wp2;go_ret;exact⟨rfl,(Bel.refl w).alloc _⟩
theorem Qla(x:Msg)(q:ByteArray)(b:Nat)(W:World)(h:W.cell? ⟨b,0,none⟩=some (.string q)):
 Calls prog 152 (#[.agg #[.int .i64 x.id,.string x.q,.string x.b,.int .i64 x.seq,.int .i64 x.cnt,.int .i64 x.who]]++#[.pointer (some ⟨b,0,none⟩)]) W λe a=>e=.returned (.bool (Fb q x))/\Bel W a:=by
 have j:=Zd h;show Calls prog 152 #[.agg #[.int .i64 x.id,.string x.q,.string x.b,.int .i64 x.seq,.int .i64 x.cnt,.int .i64 x.who],.pointer (some ⟨b,0,none⟩)] W _;by_cases a:x.q=q
 ·have e:Fb q x=!Fa x:=by simp[Fb,a]
  rw[e];have i:(x.q.toList==q.toList)=true:=by rw[a];exact Qfl q
  have g:=Zh (λw=>Qu6 x w);generalize Fa x=f at *;clear e a;go_enter func152,ntmps152;go_wp2_with fail;refine(g _).zR λc c=>?_
  have d:=Zh (((Bel.refl W).alloc _).trans c);clear c;go_wp2;go_ret;exact⟨by simp,d.o⟩
 ·have e:Fb q x=true:=by simp[Fb,a]
  rw[e];have i:=Qk9 a;clear e a;go_enter func152,ntmps152;go_wp2;go_ret;exact⟨rfl,(Bel.refl W).alloc _⟩
theorem Qnf:∀a w,(callFunc 152 a).run prog w=.ok (.enter 152 a) w:=enters_of func152 (by kernel_rfl) rfl
theorem Qng(x y:Msg)(w:World):
 Calls prog 155 #[.agg #[.int .i64 x.id,.string x.q,.string x.b,.int .i64 x.seq,.int .i64 x.cnt,.int .i64 x.who],.agg #[.int .i64 y.id,.string y.q,.string y.b,.int .i64 y.seq,.int .i64 y.cnt,.int .i64 y.who]] w λe w'=>e=.returned (.int .i64 (Ky x.seq y.seq))/\Bel w w':=by
 go_enter func155,ntmps155;go_wp2_with fail;refine(Qcj x.seq y.seq _).zS ?_;go_wp2;go_ret;exact⟨rfl,((Bel.refl w).alloc _).alloc _⟩
theorem Qp9:∀a w,(callFunc 155 a).run prog w=.ok (.enter 155 a) w:=enters_of func155 (by kernel_rfl) rfl
theorem Qqa(A:Nat->Prop)(w:World)(ao:Option Addr)(cap:Nat)(x:Msg)(r:List Msg)(h:Rd Xy A w ao cap (x::r))(g:Jv Msg.seq (x::r))(O:(x::r).length<=1000000):
 Calls prog 154 #[.slice ao (x::r).length cap,.func (.func 155) #[] #[]] w λe w'=>e=.returned (.agg #[.int .i64 x.id,.string x.q,.string x.b,.int .i64 x.seq,.int .i64 x.cnt,.int .i64 x.who])/\Bel w w':=by
 obtain⟨H,J⟩:=Zh2 h g;have ac:=Qp9;obtain⟨n,b⟩:=Zx ((x::r).length);have P:1<=n:=by rw[b];simp
 have am:((n:Int)<1)=False:=eq_false (by omega);rw[<-b]at O ⊢;have I:=Zh b;obtain⟨d,off,rfl,ae,c0,c1,c2,c3,c,f⟩:=Yl (k:=0) h rfl;simp only[Nat.zero_mul,Nat.add_zero]at c0 c1 c2 c3 c f;clear h g b;have a0:∀o,(w.alloc o).cell? ⟨d,off,none⟩=some (.int .i64 x.id):=λo=>((Bel.refl w).alloc o).cell c0
 have a1:∀o,(w.alloc o).cell? ⟨d,off+1,none⟩=some (.string x.q):=λo=>((Bel.refl w).alloc o).cell c1
 have a2:∀o,(w.alloc o).cell? ⟨d,off+2,none⟩=some (.string x.b):=λo=>((Bel.refl w).alloc o).cell c2
 have a3:∀o,(w.alloc o).cell? ⟨d,off+3,none⟩=some (.int .i64 x.seq):=λo=>((Bel.refl w).alloc o).cell c3
 have a4:∀o,(w.alloc o).cell? ⟨d,off+4,none⟩=some (.int .i64 x.cnt):=λo=>((Bel.refl w).alloc o).cell c
 have a5:∀o,(w.alloc o).cell? ⟨d,off+5,none⟩=some (.int .i64 x.who):=λo=>((Bel.refl w).alloc o).cell f
 go_enter func154,ntmps154;go_wp2_with fail;have b2:∀o b,Bel w ((w.alloc o).alloc b):=λo b=>((Bel.refl w).alloc _).alloc _
 have k1:∀o b:Obj,((w.alloc o).alloc b).heap[w.heap.size]?=some o:=λo b=>((Bel.refl _).alloc _).heap (heap_alloc_new _ _)
 have k2:∀o b:Obj,((w.alloc o).alloc b).heap[w.heap.size+1]?=some b:=λo b=>by simpa using heap_alloc_new (w.alloc o) b
 obtain⟨G,L,M⟩:=Zh3 b2 k1 k2;clear a0 a1 a2 a3 a4 a5 c0 c1 c2 c3 c f b2 k1 k2;go_loopw[6] (λa wr=>∃k:Nat,1<=k/\k<=n/\a=.int .i64 k/\Hid (Bel w wr)/\Hid (wr.heap[w.heap.size]?=some (.cells #[.int .i64 0,.string ⟨#[]⟩,.string ⟨#[]⟩,.int .i64 0,.int .i64 0,.int .i64 0] 47 (0,0)))/\Hid (wr.heap[w.heap.size+1]?=some (.cells #[.int .i64 x.id,.string x.q,.string x.b,.int .i64 x.seq,.int .i64 x.cnt,.int .i64 x.who] 47 (0,0)))) (λa _=>n-(intOf a).toNat)
 case atStart=>exact⟨1,Nat.le_refl _,P,rfl,Zh (G _ _),Zh (L _ _),Zh (M _ _)⟩
 case round=>
  obtain⟨k,aj,ah,rfl,o,c,b⟩:=hrel;by_cases al:k<n
  ·obtain⟨y,f⟩:∃y,(x::r)[k]?=some y:=⟨(x::r)[k]'(by have:=I.o;omega),by simp⟩
   obtain⟨ad,ap,N,af,s,t,z,B,C,D⟩:=Yl (H.bel o.o) f;cases N;have F:=J.o 0 k x y (by omega) rfl f;have E:Ky y.seq x.seq=1:=by unfold Ky;rw[if_neg (by omega),if_pos F]
   have e0:=cell_of_block b 0 _ rfl;have g:=cell_of_block b 1 _ rfl;have i:=cell_of_block b 2 _ rfl;have j:=cell_of_block b 3 _ rfl;have l:=cell_of_block b 4 _ rfl;have m:=cell_of_block b 5 _ rfl;have p:=Zh (λw=>Qng y x w);rw[E]at p;have ak:(k:Int)<(n:Int):=by omega
   have ai:(0:Int)<=(k:Int):=by omega
   have an:IntKind.i64.wrap ((k:Int)+1)=((k+1:Nat):Int):=by rw[IntKind.wrap_i64];omega
   clear f F E;go_upto_region 7 with (fail);have Q:=Up.cell s;have R:=Up.cell t;have S:=Up.cell z;have T:=Up.cell B;have U:=Up.cell C;have V:=Up.cell D;have W:=Up.cell e0;have X:=Up.cell g;have Y:=Up.cell i;have Z:=Up.cell j;have aa:=Up.cell l;have ab:=Up.cell m;refine Qs (by kernel_rfl) (by kernel_rfl) ?_;repeat(go_big_quiet_step(first|(go_at_call 155;exact Calls.up (p.o _))))
   refine Xg λf f=>?_
   obtain⟨E,K,F⟩:=Zh3 (o.trans f) (f.heap c.o) (f.heap b.o);clear f Q R S T U V W X Y Z aa ab s t z B C D e0 g i j l m;go_wp2;go_roundw
   case rel=>exact⟨k+1,by omega,by omega,by go_num,E,K,F⟩
   case measure=>simp[intOf];omega
  ·obtain rfl:k=n:=by omega
   have e0:=cell_of_block b 0 _ rfl;have g:=cell_of_block b 1 _ rfl;have i:=cell_of_block b 2 _ rfl;have j:=cell_of_block b 3 _ rfl;have l:=cell_of_block b 4 _ rfl;have m:=cell_of_block b 5 _ rfl;have D:=Qa c;have f:=cell_of_block c 0 _ rfl;have p:=cell_of_block c 1 _ rfl;have s:=cell_of_block c 2 _ rfl;have t:=cell_of_block c 3 _ rfl;have z:=cell_of_block c 4 _ rfl;have B:=cell_of_block c 5 _ rfl;have C:=Qb c;go_wp2;refine bodyPost_ret (v:=.agg #[.int .i64 x.id,.string x.q,.string x.b,.int .i64 x.seq,.int .i64 x.cnt,.int .i64 x.who]) (by simp[results,results154,go_sem,f,p,s,t,z,B]) rfl ⟨rfl,?_⟩;exact o.of_kept (Kept.set6 wr w.heap.size _ _ _ _ _ _) λq h=>by rw[h];exact Nat.le_refl _
theorem Qlb{α:Type}{f:α->Int}{l:List α}(h:Jv f l)(p:α->Bool):Jv f (l.filter p):=
 Wl.2 ((Wl.1 h).sublist List.filter_sublist)
def Gl:Array Value:=#[.int .i64 0,.string ⟨#[]⟩,.string ⟨#[]⟩,.int .i64 0,.int .i64 0,.int .i64 0]
def F6(x:Msg):Array Value:=#[.int .i64 x.id,.string x.q,.string x.b,.int .i64 x.seq,.int .i64 x.cnt,.int .i64 x.who]
def Qwd:Option Msg->Value
 | none=>.tuple #[.agg Gl,.bool false]
 | some x=>.tuple #[.agg (F6 x),.bool true]
theorem Qlc(s:St)(f:Option Addr)(d:Nat)(t:Option Addr)(j:Nat)(l:Option Addr)(g:Nat)(p:Option Addr)(i:Nat)(o:Option Addr)(sN:Nat)(q:ByteArray)(A:Nat->Prop)(w:World)(h:Rd Xy A w f d s.ms)(C:Jv Msg.seq s.ms)(ad:s.ms.length<=100000):
 Calls prog 75 #[.agg #[.int .i64 s.broker,.int .i64 s.nextId,.int .i64 s.nextSeq,.int .i64 s.tx,.slice f s.ms.length d,.slice t s.waits.length j,.slice l s.ends.length g,.slice p s.opens.length i,.slice o s.noes.length sN],.string q] w λe w'=>e=.returned (Qwd (Fe s q))/\Bel w w':=by
 obtain⟨T,V⟩:=Zh2 h C;have aa:=Qnf;obtain⟨n,z⟩:=Zx s.ms.length;have y:=Zh z;rw[<-z]at ad ⊢;have B:∀b a c,Bel w (((w.alloc b).alloc a).alloc c):=λb a c=>(((Bel.refl w).alloc _).alloc _).alloc _
 have k1:∀b a c:Obj,(((w.alloc b).alloc a).alloc c).heap[w.heap.size+1]?=some a:=λb a c=>by
  have:=((Bel.refl ((w.alloc b).alloc a)).alloc c).heap (heap_alloc_new (w.alloc b) a);simpa using this
 have k2:∀b a c:Obj,(((w.alloc b).alloc a).alloc c).heap[w.heap.size+2]?=some c:=λb a c=>by simpa using heap_alloc_new ((w.alloc b).alloc a) c
 obtain⟨O,a⟩:=Zx (Fe s q);rw[<-a];have N:=Zh a;clear a;obtain⟨Q,Y,Z⟩:=Zh3 B k1 k2;clear h C z B k1 k2;go_enter func75,ntmps75;go_wp2_with fail;obtain⟨W,a⟩:=Zx (((w.alloc (.cells #[.int .i64 s.broker,.int .i64 s.nextId,.int .i64 s.nextSeq,.int .i64 s.tx,.slice f n d,.slice t s.waits.length j,.slice l s.ends.length g,.slice p s.opens.length i,.slice o s.noes.length sN] 43)).alloc (.cells #[.string q] 9)).alloc (.cells Gl 47));have z:=Q (.cells #[.int .i64 s.broker,.int .i64 s.nextId,.int .i64 s.nextSeq,.int .i64 s.tx,.slice f n d,.slice t s.waits.length j,.slice l s.ends.length g,.slice p s.opens.length i,.slice o s.noes.length sN] 43) (.cells #[.string q] 9) (.cells Gl 47);have b:=Y (.cells #[.int .i64 s.broker,.int .i64 s.nextId,.int .i64 s.nextSeq,.int .i64 s.tx,.slice f n d,.slice t s.waits.length j,.slice l s.ends.length g,.slice p s.opens.length i,.slice o s.noes.length sN] 43) (.cells #[.string q] 9) (.cells Gl 47);have c:=Z (.cells #[.int .i64 s.broker,.int .i64 s.nextId,.int .i64 s.nextSeq,.int .i64 s.tx,.slice f n d,.slice t s.waits.length j,.slice l s.ends.length g,.slice p s.opens.length i,.slice o s.noes.length sN] 43) (.cells #[.string q] 9) (.cells Gl 47);have B:W.heap.size=w.heap.size+3:=by rw[a];simp
 rw[<-a]at z b c;rw[show(((w.alloc (.cells #[.int .i64 s.broker,.int .i64 s.nextId,.int .i64 s.nextSeq,.int .i64 s.tx,.slice f n d,.slice t s.waits.length j,.slice l s.ends.length g,.slice p s.opens.length i,.slice o s.noes.length sN] 43)).alloc (.cells #[.string q] 9)).alloc (.cells #[.int .i64 0,.string ⟨#[]⟩,.string ⟨#[]⟩,.int .i64 0,.int .i64 0,.int .i64 0] 47))=W from a.symm];obtain⟨L,R,S,X⟩:=Zh4 z b c B;clear a z b c B;have b:=Qa9 A W f d s.ms (T.bel L.o) (by rw[<-y.o];omega);rw[<-y.o]at b;refine b.mono ?_;rintro e ah ⟨⟨ao,cap,rfl,z⟩,a⟩;have D:Hid (∀k,Qc ao cap k->w.heap.size+3<=k):=Zh (by obtain⟨_,_,_,ab⟩:=z;intro k ac;have:=ab k ac;have:=X.o;omega);have c:=Qpu (Fb q) 152 #[.pointer (some ⟨w.heap.size+1,0,none⟩)] aa A W ah ao cap s.ms z (by rw[<-y.o];omega)
  (λx B _ C=>Qla x q _ B (C.cell (λh=>by have:=D.o _ h;dsimp only at this;omega) (cell_of_block (a.heap R.o) 0 _ rfl)))
 rw[<-y.o]at c;obtain⟨B,K⟩:=Zh2 c a;clear b z a c;go_wp2_with fail;refine B.mono ?_;rintro e P ⟨rfl,C,b⟩;have E:=b.heap (λh=>by have:=D.o _ h;omega) (K.heap S.o);obtain⟨c,M,a⟩:=Zh3 C ((L.trans K.o).of_kept b λk h=>by have:=D.o k h;omega) E;rw[show s.ms.filter (λx=>!Fb q x)=Ty s q from rfl]at c ⊢;have z:=Zh (Qlb V λx=>!Fb q x);rw[show s.ms.filter (λx=>!Fb q x)=Ty s q from rfl]at z;have af:(Ty s q).length<=n:=by rw[y.o];exact List.length_filter_le _ _
 clear C b E B;rcases b:Ty s q with _|⟨x,r⟩
 ·obtain rfl:O=none:=by rw[N.o,Fe,b];rfl
  have aj:=Qa a 0;have ak:=Qa a 1;have al:=Qa a 2;have am:=Qa a 3;have an:=Qa a 4;have ap:=Qa a 5;have E:=cell_of_block a 0 _ rfl;have F:=cell_of_block a 1 _ rfl;have G:=cell_of_block a 2 _ rfl;have H:=cell_of_block a 3 _ rfl;have I:=cell_of_block a 4 _ rfl;have J:=cell_of_block a 5 _ rfl;have ae:=Qb a;go_wp2;refine bodyPost_ret (v:=.tuple #[.agg Gl,.bool false]) (by simp[results,results75,go_sem,Gl,E,F,G,H,I,J]) rfl ⟨rfl,?_⟩;exact M.of_kept (Kept.set6 P (w.heap.size+2) _ _ _ _ _ _) λq h=>by omega
 ·obtain rfl:O=some x:=by rw[N.o,Fe,b];rfl
  rw[b]at c z af;have C:=Qqa (λ_=>False) P ao cap x r c.rd0 z.o (by omega);obtain⟨m,B⟩:=Zx ((x::r).length);have aq:¬m=0:=by rw[B];simp
  rw[<-B]at C ⊢;have U:=Zh C;clear b C B;go_wp2_with fail;refine U.zR λai B=>?_
  have C:=Zh (M.trans B);have b:=B.heap a;have aj:=Qa b 0;have ak:=Qa b 1;have al:=Qa b 2;have am:=Qa b 3;have an:=Qa b 4;have ap:=Qa b 5;have E:=cell_of_block b 0 _ rfl;have F:=cell_of_block b 1 _ rfl;have G:=cell_of_block b 2 _ rfl;have H:=cell_of_block b 3 _ rfl;have I:=cell_of_block b 4 _ rfl;have J:=cell_of_block b 5 _ rfl;have ae:=Qb b;clear B b;go_wp2;refine bodyPost_ret (v:=.tuple #[.agg (F6 x),.bool true]) (by simp[results,results75,go_sem,F6,E,F,G,H,I,J]) rfl ⟨rfl,?_⟩;exact C.of_kept (Kept.set6 ai (w.heap.size+2) _ _ _ _ _ _) λq h=>by omega
open Go.Maps
theorem Qy.app{w g:World}{b t v z:Nat}{L:List (Int×Gq)}(h:Qy w b t v z L){k:Int}{x:Gq}(n:Qn k L=some x)(p:Put){c:Option Addr}{d:Nat}(i:Kept (Qc x.ao x.cap) w g)
 (F:Sl g 33 2 c (x.g.puts.length+1) d (x.g.puts.flatMap Qgw++Qgw p)) (A:∀j,Qc c d j->Qc x.ao x.cap j\/w.heap.size<=j) (a:(x.g.puts.length:Int)+1<=x.g.n):
 Qy (g.setCell ⟨x.e,1,none⟩ (.slice c (x.g.puts.length+1) d)) b t v z (Qo k ⟨x.e,c,d,⟨x.g.n,x.g.puts++[p],x.g.age⟩⟩ L)/\Kept (lkO b t v z L) w (g.setCell ⟨x.e,1,none⟩ (.slice c (x.g.puts.length+1) d))/\∀j,Qc c d j->lkO b t v z L j\/w.heap.size<=j:=by
 have f:=Xh n;have I:=h.nes;have m:Ws w x:=h.ent _ f;have o:=λj a=>h.sepb _ f j a
 have s:=o x.e (.inl rfl);have l:Kept (λj=>j=x.e) g (g.setCell ⟨x.e,1,none⟩ (.slice c (x.g.puts.length+1) d)):=Kept.set1 _ _ _ _;have H:=m.lt (.inl rfl);refine⟨h.set k (h.k64 _ f) ⟨x.e,c,d,⟨x.g.n,x.g.puts++[p],x.g.age⟩⟩ ?_ ?_ ?_ ?_ (λq B r=>?_) (λj a=>?_),(i.mono λj _ a=>.inr (.inr (.inr (.inr ⟨_,f,.inr a⟩)))).trans (l.mono λj _ a=>?_),λj a=>(A j a).imp (λh=>.inr (.inr (.inr (.inr ⟨_,f,.inr h⟩)))) id⟩
 ·obtain⟨T,C⟩:=h.blk
  rw[C];exact l.heap (λe=>s.1 e.symm) (i.heap (λa=>(o _ (.inr a)).1 rfl) C)
 ·rw[Qoi (y:=⟨x.e,c,d,⟨x.g.n,x.g.puts++[p],x.g.age⟩⟩) h.up n rfl]
  exact(h.mp.kept i λa=>(o _ (.inr a)).2.1 rfl).kept l λe=>s.2.1 e.symm
 ·have e:Qo k x.g.age (K4 L)=K4 L:=Qr2 h.tim.up (by rw[Mw,n];rfl)
  dsimp only;rw[e];exact(h.tim.keep i (λa=>(o _ (.inr a)).2.2.1 rfl) λa=>(o _ (.inr a)).2.2.2 rfl).keep l (λe=>s.2.2.1 e.symm) λe=>s.2.2.2 e.symm
 ·have E:=i.heap m.ne m.blk
  have G:=Yp g x.e 1 (.slice c (x.g.puts.length+1) d) E;refine⟨?_,?_,?_⟩
  ·rw[show(⟨x.e,c,d,⟨x.g.n,x.g.puts++[p],x.g.age⟩⟩:Gq).g.puts.length=x.g.puts.length+1 by simp];exact G
  ·have C:¬Qc c d x.e:=λa=>(A _ a).elim m.ne λh=>by omega
   have D:=F.kept l λj a e=>C (e▸a)
   simpa using D
  ·have:=m.n
   simp only[List.length_append,List.length_singleton];omega
 ·refine((h.ent q B).keep i λj a C=>?_).keep l λj a e=>?_
  ·have:=h.sep q B (k,x) f j a (.inr C)
   rw[this]at r;exact r rfl
  ·have:=h.sep q B (k,x) f j a (.inl e)
   rw[this]at r;exact r rfl
 ·rcases a with rfl|a
  ·exact .inl ⟨x,n,.inl rfl⟩
  ·exact(A j a).imp (λh=>⟨x,n,.inr h⟩) id
 ·subst a;exact .inr (.inr (.inr (.inr ⟨_,f,.inl rfl⟩)))
theorem Qc9(k:Int)(Z:i64 k)(p:Put)(w:World)(b c d f:Nat)(L:List (Int×Gq))(h:Qy w b c d f L)(ab:nOf k L<10)(aa:L.length<100000):
 Calls prog 62 #[.pointer (some ⟨b,0,none⟩),.int .i64 k,.agg #[.string p.q,.string p.b]] w λe w'=>e=.returned (.bool true)/\∃x:Gq,x.g=⟨nOf k L+1,Jd k L++[p],0⟩/\Qy w' b c d f (Qo k x L)/\Kept (lkO b c d f L) w w'/\∀j,x.has j->lkO b c d f L j\/w.heap.size<=j:=by
 have g:Bel w (w.alloc (.cells #[.string p.q,.string p.b] 33)):=(Bel.refl _).alloc _;obtain⟨S,R,U⟩:=Zh3 (Qbr k Z _ b c d f L (h.bel g) ab aa) (λj a=>h.lt (k:=j) a) h.up;have B:Hid ((Jd k L).length<=10/\((Jd k L).length:Int)<=nOf k L):=Zh (by
  rcases i:Qn k L with _|y
  ·simp[Jd,nOf,i]
  ·have:=(h.ent _ (Xh i)).n
   simp only[Jd,nOf,i,Option.map_some,Option.getD_some];dsimp only at this;omega)
 have O:=Zh g;clear h g;go_enter func62,ntmps62;go_wp2_with fail;refine S.mono ?_;rintro e g ⟨x,rfl,H,l,s,G⟩;have F:¬lkO b c d f L w.heap.size:=λh=>by have:=R.o _ h;omega
 have t:=s.heap F (heap_alloc_new w (.cells #[.string p.q,.string p.b] 33));have am:=cell_of_block t 0 _ rfl;have an:=cell_of_block t 1 _ rfl;have o:Ws g x:=l.ent _ (Xh (k:=k) (by rw[Na,if_pos rfl]));have z:x.g.n=nOf k L+1/\x.g.puts=Jd k L/\x.g.age=0:=by rw[H];exact⟨rfl,rfl,rfl⟩
 obtain⟨n,i⟩:=Zx x.g.puts.length;have aj:n<=10:=by rw[i,z.2.1];exact B.1
 have m:=o.blk;rw[<-i]at m;have r:=cell_of_block m 1 _ rfl;have ah:∀q,(g.alloc q).cell? ⟨x.e,1,none⟩=some (.slice x.ao n x.cap):=λq=>((Bel.refl g).alloc q).cell r
 have ac:¬Qc x.ao x.cap x.e:=o.ne;have v:=o.sl;rw[<-i]at v;obtain⟨T,P,N,D,q,A,C⟩:=Zh7 v m l z i s G;obtain⟨ad,ae,E,I,J,K,M⟩:=(Rj).hi;obtain⟨Q,V,W,X,Y⟩:=Zh5 E I J K M;clear v m l z H i s G E I J K M o t F;go_wp2;go_region_law(refine Ww _ rfl _ _ 56 56 rfl 33 ad ae 2 32 underlying56 Q.o V.o W.o X.o Y.o x.ao n x.cap (x.g.puts.flatMap Qgw) (T.kept (((Kept.refl (λ_=>False) g).alloc _).drew) (λ_ _ h=>h)) (by simp[Act.eval]) (.slice (some ⟨g.heap.size,0,none⟩) 1 1) (by simp[Act.eval]) 1 [.string p.q,.string p.b] (Qrh g.drew underlying56 [.string p.q,.string p.b] 1 2 rfl (by simp[Value.oneCell']) _) (by simp only[maxLen];omega) (by omega) ?_;intro F G ao o m s;have i:=m.heap ac (((Bel.refl _).alloc _).heap P.o);have af:=cell_of_block i 1 _ rfl;have ai:=Qa i 1;have M:=Zh i;have E:=Zh o;have v:=Zh m;have z:=Zh s;clear o m s i)
 all_goals
  go_wp2;go_ret;have i:Bel g ((g.alloc (.cells #[.string p.q,.string p.b] 33)).drew):=((Bel.refl _).alloc _).drew;have J:=(N.bel i).app (k:=k) (x:=x) (by rw[Na,if_pos rfl]) p v.o (by rw[<-q.o];exact E.o) (λj a=>(z.o j a).imp id λh=>by rw[h];exact Nat.le_refl _) (by have l:=B.o;have m:=D.o;rw[m.1,m.2.1];omega);obtain⟨s,t,K⟩:=J;rw[Qfh U.o,<-q.o]at s;rw[<-q.o]at t;have ak:(w.alloc (.cells #[.string p.q,.string p.b] 33)).heap.size=w.heap.size+1:=by simp
  have al:=A.size;have o:∀j,lkO b c d f (Qo k x L) j->lkO b c d f L j\/w.heap.size<=j:=F4 λj a=>(C.o j a).imp id λh=>by omega
  refine⟨rfl,⟨x.e,F,G,⟨x.g.n,x.g.puts++[p],x.g.age⟩⟩,?_,s,?_,λj a=>?_⟩
  ·obtain⟨r,H,I⟩:=D.o
   rw[r,H,I]
  ·exact((O.kept _).trans A).trans' ((i.kept _).trans t) o
  ·rcases a with rfl|a
   ·show _\/w.heap.size<=x.e
    exact(C.o _ (.inl rfl)).imp id λh=>by omega
   ·rcases K j a with h|h
    ·exact o j h
    ·have:=i.size;exact .inr (by omega)
theorem Qda{A B:Nat->Prop}{w0 w:World}{e:TypeId}{ao:Option Addr}{cap:Nat}{l:List Put}(h:Own Qw A w0 w e ao cap l):Own Qw B w0 w e ao cap l:=by
 obtain⟨xs,a,b,c⟩:=h;exact⟨xs,a.mono λ_ _ _ h=>h,b,c⟩
theorem Ws.rd{w:World}{x:Gq}(h:Ws w x)(A:Nat->Prop)(a:∀k,x.has k->¬A k):Rd Qw A w x.ao x.cap x.g.puts:=
 ⟨x.g.puts.flatMap Qgw,Ch.flat (f:=Qgw) (size:=2) (λ_=>rfl) _,h.sl.sr λk b=>a k (.inr b)⟩
theorem D6(A:Nat->Prop)(k:Int)(j:i64 k)(w:World)(b l m o:Nat)(L:List (Int×Gq))(h:Qy w b l m o L):
 Calls prog 68 #[.pointer (some ⟨b,0,none⟩),.int .i64 k] w λe w'=>∃ao cap,e=.returned (.slice ao (Jd k L).length cap)/\Own Qw A w w' 33 ao cap (Jd k L)/\Bel w w':=by
 have c:=Zh (Ko k j w b l m o L h);have c0:=h.c0;have f:=h.look j;rcases a:Qn k L with _|x
 ·rw[nOf,a]at c
  rw[Jd,a];simp only[Option.map_none,Option.getD_none]at c;clear h a f;go_enter func68,ntmps68;go_wp2_with fail;refine c.zS ?_;go_wp2;go_ret;exact⟨none,0,rfl,Own.nil _ _ _ _ _,Bel.refl _⟩
 ·rw[nOf,a]at c
  rw[Jd,a];rw[a]at f;simp only[Option.map_some,Option.getD_some]at c f ⊢;have d:Ws w x:=h.ent _ (Xh a);have q:(x.g.n==0)=false:=by have:=d.n;simp;omega
  have p:=(h.at a).2;have i:=Qba (λ_=>False) w x.ao x.cap x.g.puts (d.rd _ λ_ _ h=>h) (by have:=d.n;omega);have g:=Zh i;clear h a d i;obtain⟨n,a⟩:=Zx x.g.puts.length;rw[<-a]at g p ⊢;clear a;go_enter func68,ntmps68;go_wp2_with fail;refine c.zS ?_;go_wp2_with fail;refine g.mono ?_;rintro e r ⟨⟨ao,cap,rfl,a⟩,d⟩;obtain⟨h,i⟩:=Zh2 a d;clear a d;go_wp2;go_ret;exact⟨ao,cap,rfl,Qda h,i⟩
def K7(L:List (Int×Gq)):List Put:=L.flatMap λp=>p.2.g.puts
theorem Qk2{L:List (Int×Gq)}{i:Nat}{k:Int}{x:Gq}(a:L[i]?=some (k,x)):K7 (L.take (i+1))=K7 (L.take i)++x.g.puts:=by
 rw[List.take_add_one,a];simp[K7]
theorem Qdb{L:List (Int×Gq)}(h:∀p∈L,p.2.g.puts.length<=10):(K7 L).length<=10*L.length:=by
 induction L with
 | nil=>simp[K7]
 | cons p r ih=>
  have:=ih λq a=>h q (by simp[a])
  have a:=h p (by simp);simp only[K7,List.flatMap_cons,List.length_append,List.length_cons]at this ⊢;omega
theorem Qdc(A:Nat->Prop)(w:World)(b N O Q:Nat)(L:List (Int×Gq))(h:Qy w b N O Q L):
 Calls prog 141 #[.pointer (some ⟨b,0,none⟩)] w λe w'=>∃ao cap,e=.returned (.slice ao (K7 L).length cap)/\Own Qw A w w' 33 ao cap (K7 L)/\Bel w w':=by
 have H:=Zh h;obtain⟨n,c⟩:=Zx L.length;have V:=h.few;rw[<-c]at V;have E:=Zh c;have d:=Mx (λ_=>False) w b N O Q L h;rw[<-c]at d;have R:=Zh d;clear h c d;go_enter func141,ntmps141;go_wp2_with fail;refine R.mono ?_;rintro e q ⟨ai,ah,rfl,d,c⟩;obtain⟨T,y⟩:=Zh2 d.rd0 c;clear d c;go_wp2;go_loopw[3,9] (λlt a wr=>∃(i:Nat) (o:Option Addr) (l c:Nat),i<=n/\a=.int .i64 i/\lt=.slice o c l/\Hid (c=(K7 (L.take i)).length)/\Hid (Own Qw A q wr 33 o l (K7 (L.take i)))/\Hid (Bel q wr)) (λ_ a _=>n-(intOf a).toNat)
 case atStart=>exact⟨0,none,0,0,Nat.zero_le _,rfl,rfl,Zh (by simp[K7]),Zh (by simpa[K7] using Own.nil Qw A q q 33),Zh (Bel.refl _)⟩
 case round=>
  obtain⟨i,o,l,c,ac,rfl,rfl,t,B,d⟩:=hrel;by_cases Z:i<n
  ·obtain⟨⟨k,x⟩,v⟩:∃x,L[i]?=some x:=⟨L[i]'(by have:=E.o;omega),by simp⟩
   have I:(L.map (·.1))[i]?=some k:=by simp[v]
   obtain⟨g,off,rfl,Y,X⟩:=Yf (T.bel d.o) I;have j:=Pv H.up v;have f:=H.bel (y.trans d);have W:i64 k:=H.k64 _ (Xh j);have J:=f.look W;rw[j]at J;simp only[Option.map_some]at J;have c0:=f.c0;have C:Ws wr x:=f.ent _ (Xh j);have z:=(f.at j).2;obtain⟨m,D⟩:=Zx x.g.puts.length;have ae:m<=10:=by have:=C.n;omega
   have K:=C.rd (λ_=>False) λ_ _ h=>h
   obtain⟨xs,G,M⟩:=K.src (P:=prog) underlying56;rw[<-D]at z;have s:=Zh D;have ad:c<=10*i:=by
    have F:=Qdb (L:=L.take i) λp S=>by
     have:=(H.ent p (List.take_subset _ _ S)).n;omega
    rw[<-t.o,List.length_take]at F;omega
   obtain⟨U,S,F⟩:=Zh3 M G (Qk2 v);have aa:(0:Int)<=(i:Int):=by omega
   have ab:(i:Int)<(n:Int):=by omega
   have af:IntKind.i64.wrap ((i:Int)+1)=((i+1:Nat):Int):=by rw[IntKind.wrap_i64];omega
   clear v I j f C D K M G;go_wp2_with(at_builtin;go_must (refine Xe (r:=Qw) (A:=A) (w0:=q) _ rfl _ _ 56 56 rfl Rj o c l (K7 (L.take i)) t.o B.o rfl _ rfl x.g.puts xs (S.mono λ_ _ _ h=>h) (by rw[s.o];exact U.o) (by rw[<-s.o];omega) (by omega) (d.size) ?_);intro D G K j f I;have C:=Zh j;have v:=Zh f;clear j f I);have f:=Zh (d.of_kept v.o λk I=>by obtain⟨_,_,_,j⟩:=B.o;exact j k I);go_roundw
   case rel=>exact⟨i+1,D,G,c+m,by omega,by go_num,by rw[s.o],Zh (by rw[F.o,List.length_append,<-t.o,<-s.o]),Zh (by rw[F.o];exact C.o),f⟩
   case measure=>simp[intOf];omega
  ·obtain rfl:i=n:=by omega
   go_wp2;go_ret;have z:L.take i=L:=List.take_of_length_le (by rw[<-E.o];exact Nat.le_refl _);have f:=B.o;have j:=t.o;rw[z]at f j;obtain⟨xs,s,v,C⟩:=f;exact⟨o,l,by rw[<-j];rfl,⟨xs,s,v,λk h=>Nat.le_trans y.size (C k h)⟩,y.trans d.o⟩
end Go.Proofs.YtkdpmdfcdgphlaaGreat
namespace Go.Po
open Go.Mem
theorem D9{α:Type}[DecidableEq α]{x:α}:∀{l:List α},x∈Zi l↔x∈l
 | []=>Iff.rfl
 | [_]=>Iff.rfl
 | a::b::r=>by
  have ih:=D9 (x:=x) (l:=b::r);rw[Zi];split
  ·rename_i e;subst e;rw[ih];simp
  ·rw[List.mem_cons,ih,List.mem_cons];simp
theorem F5{α:Type}[DecidableEq α]{le:α->α->Prop}(d:∀a b,le a b->le b a->a=b):∀{l:List α},l.Pairwise le->(Zi l).Nodup
 | [],_=>.nil
 | [_],_=>by simp[Zi]
 | a::b::r,h=>by
  have c:=List.pairwise_cons.1 h;have ih:=F5 d c.2;rw[Zi];split
  ·exact ih
  ·rename_i f
   refine List.nodup_cons.2 ⟨λg=>?_,ih⟩;rcases List.mem_cons.1 (D9.1 g)with e|g
   ·exact f e
   ·exact f (d _ _ (c.1 b (by simp)) ((List.pairwise_cons.1 c.2).1 a g))
def Wx{α:Type}[DecidableEq α]:List α->List α
 | []=>[]
 | x::r=>if x∈r then Wx r else x::Wx r
theorem Tx{α:Type}[DecidableEq α]{x:α}:∀{l:List α},x∈Wx l↔x∈l
 | []=>Iff.rfl
 | a::r=>by
  have ih:=Tx (x:=x) (l:=r);rw[Wx];split
  ·rename_i h;rw[ih,List.mem_cons];exact⟨.inr,λb=>b.elim (λe=>e▸h) id⟩
  ·rw[List.mem_cons,List.mem_cons,ih]
theorem Nc{α:Type}[DecidableEq α]:∀(l:List α),(Wx l).Nodup
 | []=>.nil
 | a::r=>by
  rw[Wx];split
  ·exact Nc r
  ·rename_i h;exact List.nodup_cons.2 ⟨λb=>h (Tx.1 b),Nc r⟩
theorem Qk8{l m:List ByteArray}(e:m.Perm l)(f:(m.map λs=>s.data.toList).Pairwise (·<=·)):(Zi m).length=(Wx l).length:=by
 have c:(Zi m).Nodup:=F5 (le:=λa b:ByteArray=>a.data.toList<=b.data.toList) (λa b c d=>M6.1 (List.le_antisymm c d)) (List.pairwise_map.1 f);exact((List.perm_ext_iff_of_nodup c (Nc l)).2 λx=>by rw[D9,Tx,e.mem_iff]).length_eq
def Vg(s:St)(more:List Put):List ByteArray:=s.ms.map (·.q)++(more++s.waits.flatMap (·.puts)).map (·.q)
def Nf(q:ByteArray)(l:List ByteArray):Nat:=(l.filter λx=>decide (x=q)).length
def Qcr(s:St)(q:ByteArray)(more:List Put):Bool:=if 0<Nf q (Vg s more) then decide (Nf q (Vg s more)<12) else decide ((Wx (Vg s more)).length<6)
theorem Qp8(q:ByteArray)(l:List ByteArray):Nf q l=l.length-(l.filter λx=>!decide (x=q)).length/\(l.filter λx=>!decide (x=q)).length<=l.length:=by
 have h:=List.length_eq_countP_add_countP (λx:ByteArray=>decide (x=q)) (l:=l);simp only[List.countP_eq_length_filter]at h;have e:(l.filter λa=>decide ¬decide (a=q)=true)=l.filter λx=>!decide (x=q):=List.filter_congr λx _=>by by_cases h:x=q<;>simp[h]
 rw[e]at h;unfold Nf;omega
end Go.Po
namespace Go.Proofs.YtkdpmdfcdgphlaaGreat
open Tryz
open Go.RowKit Go.Mem Go.Po Go.Maps
theorem Qsb(x q:ByteArray)(b:Nat)(W:World)(c:W.cell? ⟨b,0,none⟩=some (.string q)):
 Calls prog 231 (#[.string x]++#[.pointer (some ⟨b,0,none⟩)]) W λe a=>e=.returned (.bool (decide (x=q)))/\Bel W a:=by
 have f:=Zd c;show Calls prog 231 #[.string x,.pointer (some ⟨b,0,none⟩)] W _;by_cases a:x=q
 ·have d:(x.toList==q.toList)=true:=by rw[a];exact Qfl q
  rw[decide_eq_true a];clear a;go_enter func231,ntmps231;go_wp2;go_ret;exact⟨rfl,Bel.refl _⟩
 ·have d:=Qk9 a
  rw[decide_eq_false a];clear a;go_enter func231,ntmps231;go_wp2;go_ret;exact⟨rfl,Bel.refl _⟩
theorem Qne:∀a w,(callFunc 231 a).run prog w=.ok (.enter 231 a) w:=enters_of func231 (by kernel_rfl) rfl
theorem Qfk(s:St)(O:Option Addr)(M:Nat)(P:Option Addr)(N:Nat)(aa:Option Addr)(Y:Nat)(ac:Option Addr)(Z:Nat)(ab:Option Addr)(sN:Nat)(more:List Put)(am:Option Addr)(al:Nat)(A:Nat->Prop)(w:World)(h:Rd Xy A w O M s.ms)(p:Rd Zm A w P N s.waits)(l:Rd Qw A w am al more)(aL:s.ms.length<=100000/\s.waits.length<=100000/\(more++s.waits.flatMap (·.puts)).length<=1000000):
 Calls prog 228 #[.agg #[.int .i64 s.broker,.int .i64 s.nextId,.int .i64 s.nextSeq,.int .i64 s.tx,.slice O s.ms.length M,.slice P s.waits.length N,.slice aa s.ends.length Y,.slice ac s.opens.length Z,.slice ab s.noes.length sN],.slice am more.length al] w λe w'=>∃ao cap,e=.returned (.slice ao (Vg s more).length cap)/\Own Xk A w w' 9 ao cap (Vg s more)/\Bel w w':=by
 obtain⟨aD,aI,aF⟩:=Zh3 h p l;obtain⟨n,f⟩:=Zx s.ms.length;obtain⟨m,d⟩:=Zx s.waits.length;obtain⟨z,ap⟩:=Zh2 f d;obtain⟨l1,aP,t⟩:=aL;have aw:=Zh t;rw[<-f]at l1 ⊢;rw[<-d]at aP ⊢;have c:Bel w (w.alloc (.cells #[.int .i64 s.broker,.int .i64 s.nextId,.int .i64 s.nextSeq,.int .i64 s.tx,.slice O n M,.slice P m N,.slice aa s.ends.length Y,.slice ac s.opens.length Z,.slice ab s.noes.length sN] 43)):=(Bel.refl _).alloc _;have k1:=heap_alloc_new w (.cells #[.int .i64 s.broker,.int .i64 s.nextId,.int .i64 s.nextSeq,.int .i64 s.tx,.slice O n M,.slice P m N,.slice aa s.ends.length Y,.slice ac s.opens.length Z,.slice ab s.noes.length sN] 43);obtain⟨W,b⟩:=Zx (w.alloc (.cells #[.int .i64 s.broker,.int .i64 s.nextId,.int .i64 s.nextSeq,.int .i64 s.tx,.slice O n M,.slice P m N,.slice aa s.ends.length Y,.slice ac s.opens.length Z,.slice ab s.noes.length sN] 43));rw[<-b]at c k1;obtain⟨H,aK,av⟩:=Zh3 c k1 b;have o:W.heap.size=w.heap.size+1:=by rw[b];simp
 have au:=Zh o;clear h p l f d t c k1 b o;go_enter func228,ntmps228;go_wp2;go_loopw[5,7,15] (λlt _ a wr=>∃(i:Nat) (c:Option Addr) (b d:Nat),i<=n/\a=.int .i64 i/\lt=.slice c d b/\Hid (d=i)/\Hid (Own Xk A W wr 9 c b ((s.ms.take i).map (·.q)))/\Hid (Bel W wr)) (λ_ _ a _=>n-(intOf a).toNat)
 case atStart=>exact⟨0,none,0,0,Nat.zero_le _,rfl,rfl,Zh rfl,Zh (by rw[<-av.o];exact Own.nil _ _ _ _ _),Zh (by rw[<-av.o];exact Bel.refl _)⟩
 case round=>
  obtain⟨i,c,b,d,aS,rfl,rfl,v,t,f⟩:=hrel;by_cases aR:i<n
  ·obtain⟨x,p⟩:∃x,s.ms[i]?=some x:=⟨s.ms[i]'(by have:=z.o;omega),by simp⟩
   obtain⟨g,off,rfl,ay,c0,c1,c2,c3,o,y⟩:=Yl (aD.bel (H.trans f.o)) p;have F:=Zh (show(s.ms.take (i+1)).map (·.q)=(s.ms.take i).map (·.q)++[x.q] by rw[List.take_add_one,p];simp);have az:(0:Int)<=(i:Int):=by omega
   have a8:(i:Int)<(n:Int):=by omega
   have a9:IntKind.i64.wrap ((i:Int)+1)=((i+1:Nat):Int):=by rw[IntKind.wrap_i64];omega
   have aj:Hid (d=((s.ms.take i).map (·.q)).length):=Zh (by rw[v.o,List.length_map,List.length_take];have:=z.o;omega);have aM:d<=100000:=by have:=v.o;omega
   clear p;go_wp2_with(at_builtin;go_must (refine Xe (r:=Xk) (A:=A) (w0:=W) _ rfl _ _ 286 286 rfl Qjk c d b ((s.ms.take i).map (·.q)) aj.o (t.bel (((Bel.refl _).alloc _).alloc _)) rfl _ rfl [x.q] [.string x.q] (Ch.one rfl rfl) (Qk7 _ underlying286 (Jc _ _ _) rfl) (by simp;omega) (by omega) (by have:=f.size;simp;omega) ?_);intro C E aC L K U;have I:=Zh L;have R:=Zh K;clear L K U);have ae:=Zh ((f.trans (((Bel.refl _).alloc _).alloc _)).of_kept R.o λk l=>by obtain⟨_,_,_,af⟩:=t.o;exact af k l);go_roundw
   case rel=>exact⟨i+1,C,E,d+1,by omega,by go_num,by rfl,Zh (by rw[v.o]),Zh (by rw[F.o];exact I.o),ae⟩
   case measure=>simp[intOf];omega
  ·obtain rfl:i=n:=by omega
   have aq:Hid (Own Xk A W wr 9 c b (s.ms.map (·.q))):=Zh (by
    have:=t.o;rwa [List.take_of_length_le (by rw[<-z.o];exact Nat.le_refl _)]at this)
   have aE:=Zh (show d=(s.ms.map (·.q)).length by rw[v.o,List.length_map,z.o]);have o:=f.heap aK;have aB:=cell_of_block o 5 _ rfl;have Q:=Zh f;have G:Hid (∀k,Qc c b k->W.heap.size<=k/\k<wr.heap.size):=Zh (λk l=>⟨by obtain⟨_,_,_,af⟩:=t.o;exact af k l,t.lt l⟩);obtain⟨aG,aJ⟩:=Zh2 (aF.mono (B:=Qc c b) (λk l h=>absurd (G.o k h).1 (by have:=au.o;omega))) (aI.mono (B:=Qc c b) (λk l h=>absurd (G.o k h).1 (by have:=au.o;omega)));clear t f o;go_wp2;obtain⟨aQ,o⟩:=Zx wr;rw[<-o]at aq Q aB G ⊢;clear o;go_loopw[1,9,28] (λy _ a wr=>∃(j:Nat) (X:Option Addr) (V o:Nat),j<=m/\a=.int .i64 j/\y=.slice X o V/\Hid (o=(more++(s.waits.take j).flatMap (·.puts)).length)/\Hid (Rd Qw (Qc c b) wr X V (more++(s.waits.take j).flatMap (·.puts)))/\Hid (Bel aQ wr)) (λ_ _ a _=>m-(intOf a).toNat)
   case atStart=>exact⟨0,am,al,more.length,Nat.zero_le _,rfl,rfl,Zh (by simp),Zh (by simpa using aG.bel (H.trans Q.o)),Zh (Bel.refl _)⟩
   case round=>
    obtain⟨j,X,V,o,aU,rfl,rfl,T,ah,f⟩:=hrel;by_cases aT:j<m
    ·obtain⟨x,p⟩:∃x,s.waits[j]?=some x:=⟨s.waits[j]'(by have:=ap.o;omega),by simp⟩
     obtain⟨g,off,a1,aH,rfl,ay,c0,c1,aA⟩:=Kl (aJ.bel (H.trans (Q.trans f.o))) p;obtain⟨an,S⟩:=Zx x.puts.length;rw[<-S]at c1;have ak:more++(s.waits.take (j+1)).flatMap (·.puts)=(more++(s.waits.take j).flatMap (·.puts))++x.puts:=by rw[List.take_add_one,p];simp
     have aO:((more++(s.waits.take j).flatMap (·.puts))++x.puts).length<=1000000:=by
      rw[<-ak];have ad:=aw.o;have ar:((s.waits.take (j+1)).flatMap (·.puts)).length<=(s.waits.flatMap (·.puts)).length:=by
       have e:s.waits.flatMap (·.puts)=(s.waits.take (j+1)).flatMap (·.puts)++(s.waits.drop (j+1)).flatMap (·.puts):=by rw[<-List.flatMap_append,List.take_append_drop]
       rw[e,List.length_append];omega
      simp only[List.length_append]at ad ⊢;omega
     have ax:Hid (∀D y,y=Obj.cells #[.slice X o V,.slice a1 an aH] 56->Calls prog 316 #[.slice (some ⟨wr.heap.size+1,0,none⟩) 2 2] ((wr.alloc D).alloc y) λe w'=>(∃C E,e=.returned (.slice C (o+an) E)/\Own Qw (Qc c b) ((wr.alloc D).alloc y) w' 33 C E ((more++(s.waits.take j).flatMap (·.puts))++x.puts))/\Bel ((wr.alloc D).alloc y) w'):=Zh (λD y aN=>by
      have J:Bel wr ((wr.alloc D).alloc y):=((Bel.refl _).alloc _).alloc _;have ai:=Jc wr D y;rw[aN]at ai J ⊢;rw[T.o,S]at ai J ⊢;have D:=Rd.pair (r:=Qw) (A:=Qc c b) ai (ah.bel J) (aA.bel J) (λh=>by have ad:=(G.o _ h).2;have ar:=f.size;omega);have y:=Qpp (Qc c b) _ (some ⟨wr.heap.size+1,0,none⟩) 2 [more++(s.waits.take j).flatMap (·.puts),x.puts] D (by simp only[List.flatten_cons,List.flatten_nil,List.append_nil];omega);simpa only[List.flatten_cons,List.flatten_nil,List.append_nil,List.length_append,List.length_cons,List.length_nil] using y)
     have F:=Zh ak;have az:(0:Int)<=(j:Int):=by omega
     have a8:(j:Int)<(m:Int):=by omega
     have a9:IntKind.i64.wrap ((j:Int)+1)=((j+1:Nat):Int):=by rw[IntKind.wrap_i64];omega
     have ai:=Zh S;clear p ak aO aA S;go_wp2_with fail;refine(ax _ _ rfl).mono ?_;rintro e aC ⟨⟨S,ak,rfl,D⟩,y⟩;obtain⟨I,J⟩:=Zh2 (D.rd λk h=>by have ad:=(G.o _ h).2;have ar:=f.size;simp;omega) ((f.trans (((Bel.refl _).alloc _).alloc _)).trans y);clear D y c0 c1 ax;go_wp2;go_roundw
     case rel=>exact⟨j+1,S,ak,o+an,by omega,by go_num,by rfl,Zh (by rw[F.o,List.length_append,<-T.o,ai.o]),Zh (by rw[F.o];exact I.o),J⟩
     case measure=>simp[intOf];omega
    ·obtain rfl:j=m:=by omega
     obtain⟨y,D⟩:=Zx (more++s.waits.flatMap (·.puts));have J:=ah.o;have ai:=T.o;have ax:=aw.o;rw[List.take_of_length_le (by rw[<-ap.o];exact Nat.le_refl _),<-D]at J ai;rw[<-D]at ax;obtain⟨ar,S,ak⟩:=Zh3 J ai (show Vg s more=s.ms.map (·.q)++y.map (·.q) by rw[D];rfl);have aO:o<=1000000:=by omega
     obtain⟨ad,an⟩:=Zh2 (Q.trans f.o) (aq.bel f.o);clear ah T J ai ax D f aB;obtain⟨aX,aN⟩:=Zx d;go_wp2;obtain⟨T,ah⟩:=Zx wr;rw[<-ah]at ar ad an ⊢;have ai:=Zh (ar.mono (B:=λk=>Qc c b k\/T.heap.size<=k) (λk l h=>h.elim id λh=>by omega));obtain⟨D,J⟩:=Zx (λk=>Qc c b k\/T.heap.size<=k);rw[<-J]at ai;have ax:Hid (∀k,Qc c b k->D k):=Zh (λk h=>by rw[J];exact .inl h);have aA:Hid (∀k,T.heap.size<=k->D k):=Zh (λk h=>by rw[J];exact .inr h);have aB:Hid (∀k,D k->W.heap.size<=k):=Zh (λk h=>by
      rw[J]at h;rcases h with h|h
      ·exact(G k h).1
      ·exact Nat.le_trans ad.size h)
     clear J;clear ah;go_loopw[5,11,40] (λlt _ a wr=>∃(q:Nat) (c:Option Addr) (b d:Nat),q<=o/\a=.int .i64 q/\lt=.slice c d b/\Hid (d=i+q)/\Hid (Own Xk A W wr 9 c b (s.ms.map (·.q)++(y.take q).map (·.q)))/\Hid (Bel W wr)/\Hid (Kept D T wr)/\Hid (∀k,Qc c b k->D k)) (λ_ _ a _=>o-(intOf a).toNat)
     case atStart=>exact⟨0,c,b,d,Nat.zero_le _,rfl,rfl,Zh (by rw[aE.o,List.length_map,z.o];rfl),Zh (by simpa using an.o),ad,Zh (Kept.refl _ _),ax⟩
     case round=>
      obtain⟨q,c,b,d,aW,rfl,rfl,v,t,f,J,ah⟩:=hrel;by_cases aV:q<o
      ·obtain⟨x,p⟩:∃x,y[q]?=some x:=⟨y[q]'(by have:=S.o;omega),by simp⟩
       obtain⟨g,off,rfl,ay,c0,c1⟩:=Me (ai.keep (B:=D) J.o (λ_ h=>h) λ_ _ h=>h) p;have F:=Zh (show s.ms.map (·.q)++(y.take (q+1)).map (·.q)=(s.ms.map (·.q)++(y.take q).map (·.q))++[x.q] by rw[List.take_add_one,p];simp);have az:(0:Int)<=(q:Int):=by omega
       have a8:(q:Int)<(o:Int):=by omega
       have a9:IntKind.i64.wrap ((q:Int)+1)=((q+1:Nat):Int):=by rw[IntKind.wrap_i64];omega
       have aj:Hid (d=(s.ms.map (·.q)++(y.take q).map (·.q)).length):=Zh (by rw[v.o,List.length_append,List.length_map,List.length_map,List.length_take];have:=z.o;have:=S.o;omega);have aM:d<=1100000:=by have:=v.o;omega
       clear p;go_wp2_with(at_builtin;go_must (refine Xe (r:=Xk) (A:=A) (w0:=W) _ rfl _ _ 286 286 rfl Qjk c d b (s.ms.map (·.q)++(y.take q).map (·.q)) aj.o (t.bel (((Bel.refl _).alloc _).alloc _)) rfl _ rfl [x.q] [.string x.q] (Ch.one rfl rfl) (Qk7 _ underlying286 (Jc _ _ _) rfl) (by simp;omega) (by omega) (by have:=f.size;simp;omega) ?_);intro C E aC L K U;have I:=Zh L;have R:=Zh K;have aH:=Zh U;clear L K U);obtain⟨ae,K⟩:=Zh2 ((f.trans (((Bel.refl _).alloc _).alloc _)).of_kept R.o λk l=>aB.o k (ah.o k l)) ((J.trans ((((Bel.refl _).alloc _).alloc _).kept _)).trans (R.mono λk _ l=>ah.o k l));have p:Hid (∀k,Qc C E k->D k):=Zh (λk l=>by
        rcases aH.o k l with h|h
        ·exact ah k h
        ·exact aA.o k (by have:=J.size;rw[h];simp;omega))
       go_roundw
       case rel=>exact⟨q+1,C,E,d+1,by omega,by go_num,by rfl,Zh (by rw[v.o];omega),Zh (by rw[F.o];exact I.o),ae,K,p⟩
       case measure=>simp[intOf];omega
      ·obtain rfl:q=o:=by omega
       go_wp2;go_ret;have l:=t.o;rw[List.take_of_length_le (by rw[<-S.o];exact Nat.le_refl _),<-ak.o]at l;obtain⟨xs,K,L,U⟩:=l;have p:d=(Vg s more).length:=by rw[ak.o,List.length_append,List.length_map,List.length_map,v.o,z.o,S.o]
       exact⟨c,b,by rw[<-p];rfl,⟨xs,K,L,λk h=>Nat.le_trans H.size (U k h)⟩,H.trans f.o⟩
end Go.Proofs.YtkdpmdfcdgphlaaGreat
namespace Go.Po
open Go.Mem
def Wz(x:Int×Int):Value:=.int .i64 x.1
abbrev Ss:=List (Int×(Int×Int))
def Y2(L:Ss):List (Int×Int):=L.map λp=>(p.1,p.2.2)
def ssO(b im tb tm k:Nat):Prop:=k=b\/k=im\/k=tb\/k=tm
def ofS(t:Int)(L:Ss):Int:=if t=0 then 0 else match L.find? (λp=>decide (p.2.1=t))with|some p=>p.1|none=>0
end Go.Po
namespace Go.Proofs.YtkdpmdfcdgphlaaGreat
open Tryz
open Go.RowKit Go.Mem Go.Po Go.Maps
structure Xf(w:World)(b:Nat)(broker last:Int)(im tb tm:Nat)(L:Ss):Prop where
 blk:∃T,w.heap[b]?=some (.cells #[.int .i64 broker,.int .i64 last,.map (some im),.pointer (some ⟨tb,0,none⟩)] T (0,0))
 mp:Mp prog 2 w im (iL Wz L)
 tim:Xm w tb 6 tm (Y2 L)
 k64:∀p∈L,i64 p.1/\i64 p.2.1/\p.1≠0
 one:∀p∈L,∀q∈L,p.2.1=q.2.1->p.2.1≠0->p=q
 mm:im≠tm
 bounds:0<=last/\last<=4294967295
theorem Xf.lt{w:World}{b:Nat}{e last:Int}{a c d:Nat}{L:Ss}(h:Xf w b e last a c d L){k:Nat}(g:ssO b a c d k):k<w.heap.size:=by
 rcases g with rfl|rfl|rfl|rfl
 ·obtain⟨T,f⟩:=h.blk;exact Qb f
 ·exact h.mp.lt
 ·exact h.tim.ltb
 ·exact h.tim.ltm
theorem Xf.keep{S:Nat->Prop}{w w':World}{b:Nat}{g last:Int}{d e f:Nat}{L:Ss}(h:Xf w b g last d e f L)(c:Kept S w w')(a:∀k,ssO b d e f k->¬S k):Xf w' b g last d e f L:=by
 obtain⟨⟨T,i⟩,j,l,m,n,o,p⟩:=h;exact⟨⟨T,c.heap (a _ (.inl rfl)) i⟩,j.kept c (a _ (.inr (.inl rfl))),l.keep c (a _ (.inr (.inr (.inl rfl)))) (a _ (.inr (.inr (.inr rfl)))),m,n,o,p⟩
theorem Xf.bel{w w':World}{b:Nat}{a last:Int}{c d e:Nat}{L:Ss}(h:Xf w b a last c d e L)(f:Bel w w'):Xf w' b a last c d e L:=h.keep (f.kept λ_=>False) λ_ _ h=>h
theorem Xf.nes{w:World}{b:Nat}{k last:Int}{f d g:Nat}{L:Ss}(h:Xf w b k last f d g L):b≠f/\b≠d/\b≠g/\d≠f/\d≠g:=by
 obtain⟨T,a⟩:=h.blk;obtain⟨o,m,i,_⟩:=h.mp.1;obtain⟨l,c⟩:=h.tim.blk;obtain⟨p,n,j,_⟩:=h.tim.mp.1;refine⟨λe=>?_,λe=>?_,λe=>?_,λe=>?_,λe=>?_⟩
 ·rw[e,i]at a;cases a
 ·rw[e,c]at a;simp at a
 ·rw[e,j]at a;cases a
 ·rw[e,i]at c;cases c
 ·rw[e,j]at c;cases c
theorem Xf.up{w:World}{b:Nat}{a last:Int}{c d e:Nat}{L:Ss}(h:Xf w b a last c d e L):Xl L:=by
 have:=h.tim.up;unfold Xl at this ⊢;rwa [show(Y2 L).map (·.1)=L.map (·.1) by unfold Y2;rw[List.map_map];rfl]at this
theorem Xf.few{w:World}{b:Nat}{a last:Int}{c d e:Nat}{L:Ss}(h:Xf w b a last c d e L):L.length<=100000:=by
 have:=h.tim.few;simpa[Y2] using this
theorem Xf.c{w:World}{b:Nat}{c last:Int}{d e f:Nat}{L:Ss}(h:Xf w b c last d e f L):w.cell? ⟨b,0,none⟩=some (.int .i64 c)/\w.cell? ⟨b,1,none⟩=some (.int .i64 last)/\w.cell? ⟨b,2,none⟩=some (.map (some d))/\w.cell? ⟨b,3,none⟩=some (.pointer (some ⟨e,0,none⟩)):=by
 obtain⟨T,a⟩:=h.blk;exact⟨cell_of_block a 0 _ rfl,cell_of_block a 1 _ rfl,cell_of_block a 2 _ rfl,cell_of_block a 3 _ rfl⟩
theorem Qg5(k:Int)(L:Ss):Qn k (Y2 L)=(Qn k L).map λx=>x.2:=Tq (λx:Int×Int=>x.2) k L
theorem Qcu(k:Int)(x:Int×Int)(L:Ss):Y2 (Qo k x L)=Qo k x.2 (Y2 L):=Tp (λx:Int×Int=>x.2) k x L
theorem Qya(k:Int)(L:Ss):Y2 (Xn k L)=Xn k (Y2 L):=Mv (λx:Int×Int=>x.2) k L
theorem Qz3{w:World}{a:Nat}{L:Ss}(h:Mp prog 2 w a (iL Wz L)){k:Int}(b:i64 k):(Instr.lookup 345 (.map (some a)) (.int .i64 k) false).run prog w=.ok (.int .i64 (((Qn k L).map (·.1)).getD 0)) w:=by
 have:=h.look Yo underlying345 (zeroValue2 w) rfl (Cu b);rw[this,Vp];cases Qn k L<;>rfl
theorem Qwg{w:World}{b:Nat}{L:Ss}(h:Mp prog 2 w b (iL Wz L)){k t:Int}(e:i64 k)(l:L.length<=100000):∃w',(Instr.mapUpdate 345 (.map (some b)) (.int .i64 k) (.int .i64 t)).run prog w=.ok () w'/\(∀a,Mp prog 2 w' b (iL Wz (Qo k (t,a) L)))/\Kept (λj=>j=b) w w':=by
 obtain⟨i,g,c,f⟩:=h.put Yo underlying345 (k:=.int .i64 k) (v:=.int .i64 t) (by simp only[iL,List.length_map,maxLen];omega) (Cu e) rfl;refine⟨i,g,λa=>?_,f⟩;have d:Wu (.int .i64 k) (.int .i64 t) (U1 (.int .i64 k) (iL Wz L))=iL Wz (Qo k (t,a) L):=by
  rw[Wv];exact Di Wz k (t,a) _
 rw[d]at c;exact c
theorem Qnn(f:Int)(w:World):
 Calls prog 217 #[.int .i64 f] w λe w'=>∃b d a c,e=.returned (.pointer (some ⟨b,0,none⟩))/\Xf w' b f 0 d a c []/\Bel w w'/\∀k,ssO b d a c k->w.heap.size<=k:=by
 have m:∀w,(Instr.makeMap 345 none).run prog w=.ok (.map (some w.heap.size)) (w.alloc (.map #[] 0)):=λw=>rfl
 go_enter func217,ntmps217;go_wp2_with fail;refine(Qap _ _).mono ?_;rintro e n ⟨a,c,rfl,h,g,j,l⟩;obtain⟨i,d⟩:=Zh2 h g;clear h g;go_wp2;go_ret;have g:(w.alloc (.map #[] 0)).heap.size=w.heap.size+1:=by simp
 rw[g]at j l;refine⟨_,w.heap.size,a,c,rfl,⟨⟨_,heap_alloc_new _ _⟩,((Mp.made w _ _).bel d.o).bel ((Bel.refl _).alloc _),i.bel ((Bel.refl _).alloc _),by simp,by simp,by omega,by omega⟩,((Bel.refl w).alloc _).trans (d.alloc _),?_⟩;have:=d.size;rw[g]at this;rintro k (rfl|rfl|rfl|rfl)<;>omega
theorem Qdm(k:Int)(g:i64 k)(w:World)(b:Nat)(f last:Int)(i c d:Nat)(L:Ss)(h:Xf w b f last i c d L):
 Calls prog 310 #[.pointer (some ⟨b,0,none⟩),.int .i64 k] w λe w'=>e=.returned (.bool (Qn k L).isSome)/\w=w':=by
 have a:=Zh (Lj k g w c 6 d _ h.tim);rw[Qg5,Option.isSome_map]at a;have c3:=h.c.2.2.2;have j:=h.lt (k:=b) (.inl rfl);generalize (Qn k L).isSome=q at *;clear h;go_enter func310,ntmps310;go_wp2_with fail;refine a.zS ?_;go_wp2;go_ret;exact⟨rfl,rfl⟩
theorem Xf.heard{w m:World}{b:Nat}{n last:Int}{s l f:Nat}{L:Ss}(h:Xf w b n last s l f L){k t a:Int}(o:Qn k L=some (t,a))(y:Xm m l 6 f (Qo k 0 (Y2 L)))(r:Kept (λj=>j=f) w m):
 Xf m b n last s l f (Qo k (t,0) L):=by
 have x:=h.nes;have i:=Xh o;obtain⟨T,v⟩:=h.blk;have e:iL Wz (Qo k (t,0) L)=iL Wz L:=by
  obtain⟨d,c,rfl⟩:=Tt o;rw[Gc h.up];simp[iL,Wz]
 refine⟨⟨T,r.heap x.2.2.1 v⟩,by rw[e];exact h.mp.kept r h.mm,by rw[Qcu];exact y,λp c=>?_,λp c q d e g=>?_,h.mm,h.bounds⟩
 ·rcases Zt.1 c with rfl|⟨c,_⟩
  ·exact(show i64 k/\i64 t/\k≠0 from h.k64 _ i)
  ·exact h.k64 p c
 ·rcases Zt.1 c with rfl|⟨c,hne1⟩<;>rcases Zt.1 d with rfl|⟨d,hne2⟩
  ·rfl
  ·exact absurd (congrArg Prod.fst (h.one (k,t,a) i q d e g)) λh=>hne2 h.symm
  ·exact absurd (congrArg Prod.fst (h.one p c (k,t,a) i e g)) hne1
  ·exact h.one p c q d e g
theorem Qis(k:Int)(n:i64 k)(w:World)(b:Nat)(i last:Int)(l f c:Nat)(L:Ss)(h:Xf w b i last l f c L)(t a:Int)(d:Qn k L=some (t,a)):
 Calls prog 309 #[.pointer (some ⟨b,0,none⟩),.int .i64 k] w λe w'=>e=.returned (.bool true)/\Xf w' b i last l f c (Qo k (t,0) L)/\Kept (λj=>j=c) w w':=by
 obtain⟨H,g⟩:=Zh2 h (Qdm k n w b i last l f c L h);rw[d]at g;simp only[Option.isSome_some]at g;have c3:=h.c.2.2.2;have m:=Vi k n w f 6 c (Y2 L) h.tim (by
  have o:=D5 (v:=(0:Int)) (show Qn k (Y2 L)=some a by rw[Qg5,d];rfl);have:=h.tim.few;omega)
 obtain⟨o,p⟩:=Zh2 m d;clear h d m;go_enter func309,ntmps309;go_wp2_with fail;refine g.zS ?_;go_wp2_with fail;refine o.mono ?_;rintro e r ⟨rfl,h,d⟩;obtain⟨m,q⟩:=Zh2 (H.heard p.o h d) d;clear h d;go_wp2;go_ret;exact⟨rfl,m,q⟩
theorem Qit(k:Int)(i:i64 k)(w:World)(b:Nat)(r last:Int)(n c d:Nat)(L:Ss)(h:Xf w b r last n c d L)(t a:Int)(f:Qn k L=some (t,a)):
 Calls prog 220 #[.pointer (some ⟨b,0,none⟩),.int .i64 k] w λe w'=>e=.returned (.tuple #[.int .i64 t,.bool true])/\Xf w' b r last n c d (Xn k L)/\Kept (ssO b n c d) w w':=by
 obtain⟨H,o⟩:=Zh2 h (Qdm k i w b r last n c d L h);rw[f]at o;simp only[Option.isSome_some]at o;have c2:=h.c.2.2.1;have c3:=h.c.2.2.2;have m:=h.nes;have v:=h.mm;have y:=Qz3 h.mp i;rw[f]at y;simp only[Option.map_some,Option.getD_some]at y;obtain⟨C,E,s,l⟩:=h.mp.del Yo underlying345 (Cu i) 0;rw[Wv]at s;have z:=h.tim.keep l m.2.2.2.1 λe=>v e.symm
 have g:=P8 k i C c 6 d (Y2 L) z;rw[Qg5,f]at g;simp only[Option.map_some,Option.isSome_some]at g;have D:=l.cell m.1 c3;obtain⟨A,B,x⟩:=Zh3 g s l;clear h f s l z g;go_enter func220,ntmps220;go_wp2_with fail;refine o.zS ?_;go_wp2_with fail;refine A.mono ?_;rintro e F ⟨rfl,l,g⟩;obtain⟨s,f⟩:=Zh2 l g;clear l g;go_wp2;go_ret2;obtain⟨T,l⟩:=H.blk;refine⟨rfl,⟨⟨T,f.heap m.2.2.1 (x.heap m.1 l)⟩,B.kept f.o v,by rw[Qya];exact s.o,λp g=>H.k64 p (Jo.1 g).1,λp g q z=>H.one p (Jo.1 g).1 q (Jo.1 z).1,v,H.bounds⟩,?_⟩;exact(x.mono λj _ h=>.inr (.inl h)).trans (f.mono λj _ h=>.inr (.inr (.inr h)))
theorem Qvf{a:Value}{b:Lit}(h:keyOf prog 2 a=some b):∃x:Int,a=.int .i64 x:=by
 cases a<;>simp[keyOf,underlying2,mapKey]at h
 rename_i q x;obtain⟨⟨rfl,_⟩,_⟩:=h;exact⟨_,rfl⟩
theorem Qvg{x:Int}{a:Lit}(h:keyOf prog 2 (.int .i64 x)=some a):a=.int .i64 x:=by
 simp[keyOf,underlying2,mapKey]at h;obtain⟨_,h⟩:=h;exact h.symm
theorem Qz4{L:Ss}{s:Int}{v:Value}{y:DataW Unit×List MemPlace}(g:rv v=some y)(f:∀zd,(DataW.map ((iL Wz L).map λp=>(p.1,dv p.2))).atKey (.int .i64 s) zd=y.1)(a:Maps.has (DataW.map ((iL Wz L).map λp=>(p.1,dv p.2))) (.int .i64 s)=true):
 ∃x,Qn s L=some x/\v=Wz x:=by
 rw[Rq,Vp]at a;rcases b:Qn s L with _|x
 ·rw[b]at a;cases a
 ·obtain⟨d,ps⟩:=y
  obtain⟨c,e⟩:=Qcp g;have:=f (dv (.int .i64 0));rw[Qfj,Vp,b]at this;simp only[Option.map_some,Option.getD_some]at this;refine⟨x,rfl,Qfi c rfl ?_⟩;rw[<-e];exact this.symm
theorem Ql0{L:Ss}{k t a:Int}(e:∀p∈L,∀q∈L,p.2.1=q.2.1->p.2.1≠0->p=q)(d:(k,t,a)∈L)(c:t≠0):ofS t L=k:=by
 rw[ofS,if_neg c];rcases b:L.find? (λp=>decide (p.2.1=t))with _|q
 ·have:=List.find?_eq_none.1 b _ d
  simp at this
 ·have f:=List.mem_of_find?_eq_some b
  have g:q.2.1=t:=by simpa using List.find?_some b
  have:=e _ d q f g.symm c;simp only[b];rw[<-this]
theorem Qyb{L:Ss}{t:Int}(h:∀p∈L,p.2.1≠t):ofS t L=0:=by
 rw[ofS];split
 ·rfl
 ·rw[List.find?_eq_none.2 (λp a=>by simpa using h p a)]
structure OfW(t:Int)(L:Ss)(w wr:World)(left:Lit->Bool):Prop where
 has:∀kl,left kl=true->Maps.has (DataW.map ((iL Wz L).map λp=>(p.1,dv p.2))) kl=true
 no:∀p∈L,left (.int .i64 p.1)=false->p.2.1≠t
 bel:Bel w wr
theorem Qfy(t:Int)(w:World)(b:Nat)(Q last:Int)(g X Y:Nat)(L:Ss)(h:Xf w b Q last g X Y L):
 Calls prog 224 #[.pointer (some ⟨b,0,none⟩),.int .i64 t] w λe w'=>e=.returned (.int .i64 (ofS t L))/\Bel w w':=by
 have H:=Zh h;have c2:=h.c.2.2.1;have Z:=h.lt (k:=b) (.inl rfl);clear h;by_cases l:t=0
 ·subst l
  have e:ofS 0 L=0:=by rw[ofS,if_pos rfl]
  rw[e];go_enter func224,ntmps224;go_wp2;go_ret;exact⟨rfl,Bel.refl _⟩
 ·have P:=Zh l
  have ab:(t==0)=false:=by simpa using l
  have N:=Zh H.mp;go_enter func224,ntmps224;go_wp2_with(first|(at_range;refine wpList_range_own _ rfl _ 345 rfl 2 2 Yo underlying345 rv g _ _ rfl N.1 ?_;intro w0 f c j)|go_in);go_frame
  have M:Hid (OfW t L w w0 (Maps.has (DataW.map ((iL Wz L).map λp=>(p.1,dv p.2))))):=Zh ⟨λ_ h=>h,λp d h=>(by
   rw[Rq,Vp,Option.isSome_map]at h;have:=Qao.2 (List.mem_map.2 ⟨p,d,rfl⟩);rw[h]at this;cases this),Bel.of_kept (Bel.refl _) (S:=λ_=>False) ⟨c.os,c.tape,c.output,c.size,λk i _=>c.block k i (by simp)⟩ λ_ h=>h.elim⟩
  have o:=Zh f;clear f c j;obtain⟨r,c⟩:=Zx w.heap.size;rw[<-c]at o ⊢;have O:=Zh c;clear c;go_loopw[4,5,6] (λ_ _ _ wr=>∃left A,Hid (wr.ranges prog 2 rv g r (iL Wz L).length (DataW.map ((iL Wz L).map λp=>(p.1,dv p.2))) left A)/\Hid (OfW t L w wr left)) (λ_ _ _ wr=>wr.rangeLeft g r)
  case atStart=>exact⟨_,_,o,M⟩
  case round=>
   obtain⟨left,A,G,c⟩:=hrel;go_wp2_with(first|(at_next;refine wpList_next_ranges _ rfl _ rfl 2 Yo rv (Value.int .i64) id (λf m h=>Qvf h) (λv _ _=>⟨v,rfl⟩) g r _ _ _ _ rfl G.o ?_ ?_)|go_in)
   ·intro _ f
    have j:=Zh f;clear f;go_wp2;go_ret;rw[Qyb λp d=>c.no p d (j.o _)];exact⟨rfl,c.bel⟩
   ·intro s v m ad ae ac R E F J f I V C aa B
    have U:=Qvg E;subst U;obtain⟨x,K,W⟩:=Qz4 J f (c.has _ F);subst W;have D:=Qav C;have j:=c.bel.of_kept D λk h=>by rw[h,O.o];exact Nat.le_refl _
    have T:=B;dsimp only[Wz]at T;obtain⟨y,n,q⟩:=Zh3 K j I;clear J f E D j I F C B K;by_cases f:x.1=t
    ·have j:=Zh f
     have C:(x.1==t)=true:=by simpa using f
     clear f;go_wp2;go_ret;have B:=Xh y;rw[Ql0 H.one (k:=s) (t:=t) (a:=x.2) (by rw[<-j.o];exact B) P.o];exact⟨rfl,n⟩
    ·have j:=Zh f
     have C:(x.1==t)=false:=by simpa using f
     clear f;go_wp2;go_roundw
     case rel=>exact⟨λz=>left z&&!z.sameKey (.int .i64 s),R,q,Zh ⟨λm f=>c.has m (by simp at f;exact f.1),λp d f=>by
      by_cases B:p.1=s
      ·have i:=Pv H.up (List.mem_iff_getElem?.1 d).choose_spec
       rw[B,y.o]at i;cases i;exact j.o
      ·refine c.no p d ?_
       simp only[Lit.sameKey]at f;simpa[B] using f,n.o⟩⟩
     case measure=>rw[q.left_eq,G.left_eq];exact V
theorem Qzf{L:Ss}(c:∀p∈L,∀q∈L,p.2.1=q.2.1->p.2.1≠0->p=q){p:Int×(Int×Int)}(d:p∈L)(b:p.2.1≠0):ofS p.2.1 L=p.1:=Ql0 (k:=p.1) (t:=p.2.1) (a:=p.2.2) c d b
theorem Xf.bound{w s v:World}{b:Nat}{m last:Int}{g l i:Nat}{L:Ss}(h:Xf w b m last g l i L){k t d a:Int}(E:i64 d)(D:Qn k L=some (t,a))(G:ofS d L=0\/ofS d L=k)(I:Xm s l 6 i (Qo k 0 (Y2 L)))(F:Kept (λj=>j=i) w s)
 (z:Mp prog 2 v g (iL Wz (Qo k (d,0) (Qo k (t,0) L)))) (y:Kept (λj=>j=g) s v):Xf v b m last g l i (Qo k (d,0) L):=by
 have r:=h.nes;have A:=Xh D;obtain⟨T,C⟩:=h.blk;rw[Qfh h.up]at z;refine⟨⟨T,y.heap r.1 (F.heap r.2.2.1 C)⟩,z,by rw[Qcu];exact I.keep y r.2.2.2.1 λe=>h.mm e.symm,λp c=>?_,λp c q f e n=>?_,h.mm,h.bounds⟩
 ·rcases Zt.1 c with rfl|⟨c,_⟩
  ·exact⟨(h.k64 _ A).1,E,(h.k64 _ A).2.2⟩
  ·exact h.k64 p c
 ·have B:∀q∈L,q.1≠k->d=q.2.1->d≠0->False:=λq f H x J=>by
   have o:=Qzf h.one f (by rw[<-x];exact J);rw[<-x]at o;rcases G with h|h
   ·exact(‹Xf w b m last g l i L›.k64 q f).2.2 (by rw[<-o,h])
   ·exact H (by rw[<-o,h])
  rcases Zt.1 c with rfl|⟨c,hne1⟩<;>rcases Zt.1 f with rfl|⟨f,hne2⟩
  ·rfl
  ·exact(B q f hne2 e n).elim
  ·exact(B p c hne1 e.symm (by rw[<-show p.2.1=d from e];exact n)).elim
  ·exact h.one p c q f e n
theorem Ql1(k:Int)(v:i64 k)(c:Int)(D:i64 c)(w:World)(b:Nat)(i last:Int)(d f g:Nat)(L:Ss)(h:Xf w b i last d f g L)(l:ofS c L=0\/ofS c L=k)(t a:Int)(m:Qn k L=some (t,a)):
 Calls prog 219 #[.pointer (some ⟨b,0,none⟩),.int .i64 k,.int .i64 c] w λe w'=>e=.returned (.bool true)/\Xf w' b i last d f g (Qo k (c,0) L)/\Kept (ssO b d f g) w w':=by
 obtain⟨H,r,A,s⟩:=Zh4 h m l (Qfy c w b i last d f g L h);generalize ofS c L=o at s l;clear h m;have C:o=0\/(o=k/\(k !=0)=true/\(k !=k)=false):=by
  rcases l with h|h
  ·exact .inl h
  ·by_cases m:k=0
   ·exact .inl (h.trans m)
   ·exact .inr ⟨h,by simpa using m,by simp⟩
 clear l;rcases C with rfl|⟨rfl,m,hkk⟩;all_goals
  go_enter func219,ntmps219;go_wp2_with fail;refine s.zR λp l=>?_
  have q:=Zh l;have n:=H.bel l;have B:=Zh (Qis _ v p b i last d f g L n t a r);clear l n;go_wp2_with fail;refine B.mono ?_;rintro e G ⟨rfl,l,n⟩;obtain⟨E,F,x,p⟩:=Qwg l.mp v (t:=c) l.few;have c2:=l.c.2.2.1;obtain⟨y,z⟩:=Zh2 (show Xf E b i last d f g (Qo _ (c,0) L) from(H.bel q.o).bound D r.o A.o (by have:=l.tim;rw[Qcu]at this;exact this) n (x 0) p) ((q.kept (ssO b d f g)).trans ((n.mono λj _ h=>.inr (.inr (.inr h))).trans (p.mono λj _ h=>.inr (.inl h))));clear l n x p;go_wp2;go_ret;exact⟨rfl,y,z⟩
theorem Ql2(w:World)(b:Nat)(a last:Int)(s f g:Nat)(L:Ss)(h:Xf w b a last s f g L)(O:L.length<20)(l:Qz a=true)(Y:last<4294967295):
 Calls prog 218 #[.pointer (some ⟨b,0,none⟩)] w λe w'=>e=.returned (.tuple #[.int .i64 (mk a (last+1)),.bool true])/\Xf w' b a (last+1) s f g (Qo (mk a (last+1)) (0,0) L)/\Kept (ssO b s f g) w w':=by
 have H:=Zh h;obtain⟨c0,c1,c2,c3⟩:=h.c;have Z:=h.lt (k:=b) (.inl rfl);have d:=h.nes;have z:=h.mm;have W:=h.bounds;have y:=λc=>h.mp.len underlying345 c
 rw[show(iL Wz L).length=L.length by simp[iL]]at y;obtain⟨n,r⟩:=Zx L.length;rw[<-r]at y O;have ab:¬20<=n:=by omega
 have M:=Zh r;have X:0<a/\a<=8:=by simpa[Qz] using l
 obtain⟨m,c⟩:=Zx (mk a (last+1));have A:m=a*4294967296+(last+1):=by rw[c,mk,if_pos ⟨l,by omega,by omega⟩]
 have aa:(m==0)=false:=by simp;omega
 have x:i64 m:=by unfold i64;omega
 obtain⟨v,J⟩:=Zh2 x (show m≠0 by omega);have ad:IntKind.i64.wrap (last+1)=last+1:=by rw[IntKind.wrap_i64];omega
 have o:=λw=>Ms a (last+1) w
 rw[<-c]at o;have I:=Zh o;rw[<-c];have i:=h.blk;have E:=Zh i;clear h r c A o i l x;go_enter func218,ntmps218;go_wp2_with fail;have P:=Up.cell c0;have Q:=Up.cell c1;refine Qs (by kernel_rfl) (by kernel_rfl) ?_;repeat(go_big_quiet_step(first|(go_at_call 81;exact Calls.up_same (I.o _))))
 refine Xg λr c=>?_
 obtain⟨T,i⟩:=E.o;have l:=c.heap i;have R:=cell_of_block l 1 _ rfl;have V:=Qa l 1;have o:Kept (λj=>j=b) r (r.setCell ⟨b,1,none⟩ (.int .i64 (last+1))):=Kept.set1 _ _ _ _;have A:=Yp r b 1 (.int .i64 (last+1)) l;have S:=cell_of_block A 2 _ rfl;obtain⟨D,ac,B,r⟩:=Qwg ((H.mp.bel c).kept o λe=>d.1 e.symm) v.o (t:=0) H.few;have x:=r.heap d.1 A;have U:=cell_of_block x 3 _ rfl;have C:Xm D f 6 g (Y2 L):=((H.tim.bel c).keep o (λe=>d.2.1 e.symm) λe=>d.2.2.1 e.symm).keep r d.2.2.2.1 λe=>z e.symm
 have N:=Zh (Vi m v.o D f 6 g (Y2 L) C (by
  have F:=putI_len m (0:Int) (Y2 L);have e:(Y2 L).length=L.length:=by simp[Y2]
  have:=M.o;omega))
 obtain⟨G,K,F⟩:=Zh3 ((((c.kept (ssO b s f g)).trans (o.mono λj _ h=>.inl h))).trans (r.mono λj _ h=>.inr (.inl h))) B x;clear c P Q c0 c1 c2 c3 l o A B r x C i y;go_wp2_with fail;refine N.mono ?_;rintro e x ⟨rfl,l,c⟩;obtain⟨r,i⟩:=Zh2 l c;clear l c;go_wp2;go_ret2;refine⟨rfl,⟨⟨T,i.heap d.2.2.1 F.o⟩,(K.o 0).kept i.o z,by rw[Qcu];exact r.o,λp c=>?_,λp c q o e l=>?_,z,by omega⟩,G.trans (i.mono λj _ h=>.inr (.inr (.inr h)))⟩
 ·rcases Zt.1 c with rfl|⟨c,_⟩
  ·exact⟨v.o,show i64 0 by unfold i64;omega,J.o⟩
  ·exact H.k64 p c
 ·rcases Zt.1 c with rfl|⟨c,hne1⟩<;>rcases Zt.1 o with rfl|⟨o,hne2⟩
  ·rfl
  ·exact absurd rfl l
  ·exact absurd e l
  ·exact H.one p c q o e l
end Go.Proofs.YtkdpmdfcdgphlaaGreat

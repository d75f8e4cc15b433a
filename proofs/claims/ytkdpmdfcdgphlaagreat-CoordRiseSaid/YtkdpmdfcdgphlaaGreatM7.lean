/- Part of this claim's proof. Conditions: as its theorems say. -/
import Derived.OwnWalk
import Derived.Test.YtkdpmdfcdgphlaaGreatM6
set_option linter.all false
set_option maxHeartbeats 1600000
set_option maxRecDepth 100000
namespace Go.Proofs.YtkdpmdfcdgphlaaGreat
open Tryz
open Go.RowKit Go.Mem Go.Po
theorem Qqj(A B:Nat->Prop)(w:World)(ao s:Option Addr)(q r:Nat)(l m:List UInt8)(h:Rd Ql A w ao q l)(j:Rd Ql B w s r m):
 Calls prog 330 #[.slice ao l.length q,.slice s m.length r] w λe w'=>e=.returned (.bool (decide (l=m)))/\Bel w w':=by
 obtain⟨v,z⟩:=Zh2 h j;have C:=h.small;have b:=j.small;by_cases f:l.length=m.length
 ·obtain⟨n,a⟩:=Zx l.length
  rw[<-f,<-a];rw[<-a]at C;obtain⟨p,o⟩:=Zh2 a (a.trans f);clear h j a f b;go_enter func330,ntmps330;go_wp2;go_loopw[5,13] (λ_ i wr=>∃k:Nat,k<=n/\i=.int .i64 k/\Hid (l.take k=m.take k)/\Hid (Bel w wr)) (λ_ i _=>n-(intOf i).toNat)
  case atStart=>exact⟨0,Nat.zero_le _,rfl,Zh rfl,Zh (Bel.refl _)⟩
  case round=>
   obtain⟨k,I,rfl,t,d⟩:=hrel;by_cases L:k<n
   ·obtain⟨x,b⟩:∃x,l[k]?=some x:=⟨l[k]'(by have:=p.o;omega),by simp⟩
    obtain⟨y,g⟩:∃y,m[k]?=some y:=⟨m[k]'(by have:=o.o;omega),by simp⟩;obtain⟨E,off,rfl,G,c0⟩:=Wm (v.bel d.o) b;obtain⟨F,M,rfl,H,c1⟩:=Wm (z.bel d.o) g;have K:(k:Int)<(n:Int):=by omega
    have J:(0:Int)<=(k:Int):=by omega
    by_cases c:x=y
    ·have D:(x.toNat:Int)=y.toNat:=by rw[c]
     have a:Hid (l.take (k+1)=m.take (k+1)):=Zh (by rw[List.take_add_one,List.take_add_one,b,g,c,t.o]);clear b g c;go_wp2_with fail;go_quiet (fail)
     go_wp2;go_roundw
     case rel=>exact⟨k+1,by omega,by go_num,a,Zh (d.drewN _)⟩
     case measure=>simp[intOf];omega
    ·have D:(x.toNat:Int)≠y.toNat:=λe=>c (UInt8.toNat_inj.1 (by omega))
     have a:Hid (l≠m):=Zh (λe=>by rw[e,g]at b;exact c (Option.some.inj b).symm);clear b g c;go_wp2_with fail;go_quiet (fail)
     go_wp2;go_ret;exact⟨by rw[decide_eq_false a.o];rfl,d.drewN _⟩
   ·obtain rfl:k=n:=by omega
    have a:Hid (l=m):=Zh (by
     have:=t.o;rwa [List.take_of_length_le (by rw[<-p.o];exact Nat.le_refl _),List.take_of_length_le (by rw[<-o.o];exact Nat.le_refl _)]at this)
    go_wp2;go_ret;exact⟨by rw[decide_eq_true a.o];rfl,d.o⟩
 ·have a:Hid (l≠m):=Zh (λe=>f (by rw[e]))
  have b:(l.length:Int)≠(m.length:Int):=by omega
  clear h j f;go_enter func330,ntmps330;go_wp2;go_ret;exact⟨by rw[decide_eq_false a.o];rfl,Bel.refl _⟩
def Qe(n:Nat):ByteArray:=⟨#[108,111,103,UInt8.ofNat (48+n / 100),UInt8.ofNat (48+n / 10 % 10),UInt8.ofNat (48+n % 10)]⟩
theorem Wd(n:Nat)(t:n<=999)(w:World):
 Calls prog 174 #[.int .i64 n] w λe w'=>e=.returned (.string (Qe n))/\Bel w w':=by
 have r:¬((n:Int)<0):=by omega
 have s:¬((n:Int)>999):=by omega
 obtain⟨a,d⟩:=Zx (UInt8.ofNat (48+n / 100));obtain⟨b,g⟩:=Zx (UInt8.ofNat (48+n / 10 % 10));obtain⟨c,h⟩:=Zx (UInt8.ofNat (48+n % 10));have l:(a.toNat:Int)=48+(n:Int) / 100:=by rw[d,UInt8.toNat_ofNat'];omega
 have m:(b.toNat:Int)=48+(n:Int) / 10 % 10:=by rw[g,UInt8.toNat_ofNat'];omega
 have o:(c.toNat:Int)=48+(n:Int) % 10:=by rw[h,UInt8.toNat_ofNat'];omega
 have k:Rd Ql (λ_=>False) (w.alloc (Obj.cells #[Value.int .u8 (48+(n:Int) / 100),Value.int .u8 (48+(n:Int) / 10 % 10),Value.int .u8 (48+(n:Int) % 10)] 5)) (some ⟨w.heap.size,0,none⟩) 3 [a,b,c]:=by
  rw[<-l,<-m,<-o];refine⟨_,Ch.flat (f:=λx:UInt8=>[Value.int .u8 x.toNat]) (size:=1) (λ_=>rfl) [a,b,c],rfl,Nat.le_refl _,by simp[maxLen],λ_=>⟨w.heap.size,0,_,_,_,rfl,by simp,λi=>i,heap_alloc_new w _,λj i i=>?_⟩⟩;rw[Nat.zero_add];rcases j with _|_|_|j<;>simpa using i
 have q:=Fy (P:=prog) 179 9 5 underlying179 underlying5 underlying9 k;rw[show [a,b,c].length=3 from rfl]at q;have i:Qe n=⟨#[108,111,103]⟩++⟨[a,b,c].toArray⟩:=by rw[d,g,h];rfl
 have p:=Zh i;clear k i l m o d g h;go_enter func174,ntmps174;go_wp2;go_ret;exact⟨by rw[p.o];rfl,(Bel.refl w).alloc _⟩
def sizedB(l:List UInt8):List UInt8:=Qd l.length++Qd (Qcw (crc (Qd l.length)) l)++Qd (Qcw (crc (Qd l.length)) l / 65536)
def Z7(l:List UInt8):List UInt8:=sizedB l++l
theorem We(n:Nat):(Qd n).length=2:=K9 n 2
theorem K5(l:List UInt8):(sizedB l).length=6:=by simp[sizedB,We]
theorem Qfx(l:List UInt8):crc l<4294967296:=Ql8 0 l (by omega)
theorem Zz.own{O A:Nat->Prop}{w w0:World}{b:Nat}{l:List UInt8}(h:Zz O w b l)(e:∀k,O k->w0.heap.size<=k):∃ao cap,w.cell? ⟨b,0,none⟩=some (.slice ao l.length cap)/\Own Ql A w0 w 5 ao cap l:=by
 obtain⟨T,ao,cap,a,c,i,j,d,m⟩:=h;refine⟨ao,cap,cell_of_block a 0 _ rfl,l.map Nr,?_,c,λk g=>e k (d k g)⟩;have:=Ch.flat (f:=λx:UInt8=>[Value.int .u8 x.toNat]) (size:=1) (λ_=>rfl) l;rwa [Qfv]at this
theorem Qh1(A:Nat->Prop)(w:World)(ao:Option Addr)(cap:Nat)(l:List UInt8)(h:Rd Ql A w ao cap l):
 Calls prog 320 #[.slice ao l.length cap] w λe w'=>(∃a b,e=.returned (.slice a 6 b)/\Own Ql A w w' 5 a b (sizedB l))/\Bel w w':=by
 have H:=Zh h;have q:=h.small;obtain⟨n,b⟩:=Zx l.length;rw[<-b]at q ⊢;obtain⟨c,a⟩:=Zx (Qcw (crc (Qd n)) l);have O:c<4294967296:=by rw[a];exact Ql8 _ _ (Qfx _)
 have y:Hid (sizedB l=[]++Qd n++Qd c++Qd (c / 65536)):=Zh (by rw[a,b];rfl);obtain⟨z,x⟩:=Zh2 b a;clear h b a;go_enter func320,ntmps320;go_wp2_with fail;refine(Y5 n _ _ _ _ (Zz.new w _) q (by simp)).mono ?_;rintro e a ⟨rfl,m,d,k2,j⟩;have b:Hid (Bel w a):=Zh (((Bel.refl w).alloc _).of_kept k2 (λk h=>by omega));have i:Hid (∀k,m k->w.heap.size<=k):=Zh (λk h=>by rcases j k h with h|h;omega;simp at h;omega);have E:=Zh d;obtain⟨J,I,f,g⟩:=d.read;have C:=Zh (g (λ_=>False) λ_ _ h=>h);rw[List.nil_append,We]at f;clear d k2 j g;go_wp2_with fail;have d:=Qf4 (λ_=>False) a J I (Qd n) C;rw[We]at d;refine d.zS ?_;clear d;go_wp2_with fail;have d:=Qsz (crc (Qd n)) (Qfx _) A a ao cap l (H.bel b);rw[<-z.o,<-x.o]at d;refine d.zS ?_;clear d f;go_wp2_with fail;refine(Y5 c m a _ _ E.o (by omega) (by simp[We])).mono ?_;rintro e t ⟨rfl,o,d,k3,f⟩;have g:Hid (Bel w t):=Zh (b.of_kept k3 i.o);have j:Hid (∀k,o k->w.heap.size<=k):=Zh (λk h=>by have:=b.size;rcases f k h with h|h;exact i.o k h;omega);have F:=Zh d;clear d k3 f;go_wp2_with fail;have d:=Y5 (c / 65536) o t _ _ F.o (by omega) (by simp[We]);rw[show(((c / 65536:Nat)):Int)=(c:Int) / 65536 from rfl]at d;refine d.mono ?_;rintro e N ⟨rfl,G,f,r,s⟩;have v:Hid (Bel w N):=Zh (g.of_kept r j.o);have D:Hid (∀k,G k->w.heap.size<=k):=Zh (λk h=>by have:=g.size;rcases s k h with h|h;exact j.o k h;omega);rw[<-y.o]at f;obtain⟨M,L,K,p⟩:=f.own (A:=A) (w0:=w) D.o;rw[K5]at K;have B:=Zh p;clear d f r s p;go_wp2;go_ret;exact⟨⟨M,L,rfl,B⟩,v⟩
def Xj(l:List UInt8):Bool:=decide (0<l.length)&&decide (l.length<=4000)
theorem Qve(A:Nat->Prop)(w:World)(ao:Option Addr)(cap:Nat)(l:List UInt8)(h:Rd Ql A w ao cap l)(a:Xj l=false):
 Calls prog 234 #[.slice ao l.length cap] w λe w'=>e=.returned (.slice none 0 0)/\Bel w w':=by
 have c:=h.small;obtain⟨n,b⟩:=Zx l.length;simp only[Xj]at a;rw[<-b]at c a ⊢;clear h b;rcases Nat.eq_zero_or_pos n with b|b
 ·subst b
  go_enter func234,ntmps234;go_wp2;go_ret;exact⟨rfl,Bel.refl _⟩
 ·have d:(n:Int)>4000:=by simp[b]at a;omega
  have f:¬(n:Int)=0:=by omega
  clear a;go_enter func234,ntmps234;go_wp2;go_ret;exact⟨rfl,Bel.refl _⟩
theorem Qh2(A:Nat->Prop)(w:World)(ao:Option Addr)(cap:Nat)(l:List UInt8)(h:Rd Ql A w ao cap l)(j:Xj l=true):
 Calls prog 234 #[.slice ao l.length cap] w λe w'=>(∃b c,e=.returned (.slice b (6+l.length) c)/\Own Ql A w w' 5 b c (Z7 l))/\Bel w w':=by
 have H:=Zh h;obtain⟨n,d⟩:=Zx l.length;simp only[Xj,Bool.and_eq_true,decide_eq_true_eq]at j;rw[<-d]at j ⊢;have v:¬(n:Int)>4000:=by omega
 have x:¬(n:Int)=0:=by omega
 have a:=Zh d;clear h d;go_enter func234,ntmps234;go_wp2_with fail;have g:=Qh1 A w ao cap l H;rw[<-a.o]at g;refine g.mono ?_;rintro e y ⟨⟨t,s,rfl,k⟩,d⟩;obtain⟨p,m⟩:=Zh2 k d;obtain⟨xs,i,f⟩:=(H.bel d).src (P:=prog) underlying179;rw[<-a.o]at f;obtain⟨q,o⟩:=Zh2 f i;clear g k d i f;go_wp2_with(at_builtin;go_must (refine Ja (r:=Ql) (A:=A) (w0:=w) _ rfl _ _ 179 179 rfl Vn t s (sizedB l) p.o (by rw[K5];rfl) _ rfl l xs (o.mono λ_ _ _ h=>h) (by rw[<-a.o];exact q.o) (by rw[K5,<-a.o];omega) (by omega) m.o ?_);intro b c k d _ f _;have i:=Zh d;have g:=Zh f;clear d f);go_ret;exact⟨⟨b,c,by rw[K5,<-a.o];rfl,i.o⟩,g.o⟩
end Go.Proofs.YtkdpmdfcdgphlaaGreat
namespace Go.Po
inductive Qze
 | ok (what:List UInt8) (n:Nat)
 | more
 | bad
end Go.Po
namespace Go.Proofs.YtkdpmdfcdgphlaaGreat
open Tryz
open Go.RowKit Go.Mem Go.Po
def Yr(b:List UInt8):Qze:=
 if b.length<2 then .more
 else if leN (b.take 2)<1\/4000<leN (b.take 2) then .bad
 else if b.length<6+leN (b.take 2) then .more
 else if sizedB ((b.drop 6).take (leN (b.take 2)))=b.take 6 then .ok ((b.drop 6).take (leN (b.take 2))) (6+leN (b.take 2))
 else .bad
def Qx9(A:Nat->Prop)(w w':World)(e:Ending):Qze->Prop
 | .ok what n=>∃ao cap,e=.returned (.tuple #[.slice ao what.length cap,.int .i64 n,.int .i64 0])/\Own Ql A w w' 5 ao cap what
 | .more=>e=.returned (.tuple #[.slice none 0 0,.int .i64 0,.int .i64 2])
 | .bad=>e=.returned (.tuple #[.slice none 0 0,.int .i64 0,.int .i64 3])
theorem Qov(A:Nat->Prop)(w:World)(d:∀k,A k->k<w.heap.size)(ao:Option Addr)(cap:Nat)(b:List UInt8)(h:Rd Ql A w ao cap b):
 Calls prog 260 #[.slice ao b.length cap] w λe w'=>Qx9 A w w' e (Yr b)/\Bel w w':=by
 obtain⟨H,U⟩:=Zh2 h d;have ab:=h.small;have aa:=h.le;obtain⟨m,c⟩:=Zx b.length;rw[<-c]at ab aa ⊢;have i:=Zh c;by_cases K:m<2
 ·have o:Hid (Yr b=.more):=Zh (by rw[Yr,if_pos (by omega)])
  have X:(m:Int)<2:=by omega
  clear h c K d;go_enter func260,ntmps260;go_wp2;go_ret3
  exact⟨by rw[o.o];rfl,Bel.refl _⟩
 ·obtain⟨n,p⟩:=Zx (leN (b.take 2))
  have af:n<65536:=by
   have:=Qkl (b.take 2);have K:(b.take 2).length<=2:=by rw[List.length_take];omega
   have q:256 ^ (b.take 2).length<=256 ^ 2:=Nat.pow_le_pow_right (by omega) K;omega
  have f:rdV 2 b false=n:=by rw[p,rdV,if_neg (by simp;omega)]
  have E:=Zh f;have C:¬(b.length<2):=by omega
  have X:¬(m:Int)<2:=by omega
  clear h c d f;by_cases q:n<1\/4000<n
  ·have o:Hid (Yr b=.bad):=Zh (by rw[Yr,if_neg C,if_pos (by rw[<-p];exact q)])
   clear p C;rcases q with q|q
   ·have P:(n:Int)<1:=by omega
    go_enter func260,ntmps260;go_wp2_with fail;have d:=V7 A w ao cap b H;rw[<-i.o]at d;refine d.mono ?_;rintro e z ⟨y,rfl,v,l,j⟩;obtain⟨t,s⟩:=Zh2 l j;clear d l j;go_wp2_with fail;have f:=Yk _ z y b false t;rw[E.o]at f;refine f.mono ?_;rintro e D ⟨rfl,-,c⟩;have g:=Zh (s.of_kept c λk h=>by rw[h];exact v);clear f c;go_wp2;go_ret3
    exact⟨by rw[o.o];rfl,g.o⟩
   ·have P:¬(n:Int)<1:=by omega
    have Y:(n:Int)>4000:=by omega
    go_enter func260,ntmps260;go_wp2_with fail;have d:=V7 A w ao cap b H;rw[<-i.o]at d;refine d.mono ?_;rintro e z ⟨y,rfl,v,l,j⟩;obtain⟨t,s⟩:=Zh2 l j;clear d l j;go_wp2_with fail;have f:=Yk _ z y b false t;rw[E.o]at f;refine f.mono ?_;rintro e D ⟨rfl,-,c⟩;have g:=Zh (s.of_kept c λk h=>by rw[h];exact v);clear f c;go_wp2;go_ret3
    exact⟨by rw[o.o];rfl,g.o⟩
  ·have P:¬(n:Int)<1:=by omega
   have Y:¬(n:Int)>4000:=by omega
   have G:¬(leN (b.take 2)<1\/4000<leN (b.take 2)):=by rw[<-p];exact q
   by_cases L:m<6+n
   ·have o:Hid (Yr b=.more):=Zh (by rw[Yr,if_neg C,if_neg G,if_pos (by rw[<-p,<-i.o];exact L)])
    have Z:(m:Int)<6+n:=by omega
    clear p C G q L;go_enter func260,ntmps260;go_wp2_with fail;have d:=V7 A w ao cap b H;rw[<-i.o]at d;refine d.mono ?_;rintro e z ⟨y,rfl,v,l,j⟩;obtain⟨t,s⟩:=Zh2 l j;clear d l j;go_wp2_with fail;have f:=Yk _ z y b false t;rw[E.o]at f;refine f.mono ?_;rintro e D ⟨rfl,-,c⟩;have g:=Zh (s.of_kept c λk h=>by rw[h];exact v);clear f c;go_wp2;go_ret3
    exact⟨by rw[o.o];rfl,g.o⟩
   ·have Z:¬(m:Int)<6+n:=by omega
    obtain⟨ah,T⟩:∃x,b[0]?=some x:=⟨b[0]'(by have:=i.o;omega),by simp⟩;obtain⟨B,off,rfl,ad,_⟩:=Wm H.o T;have M:adv (some ⟨B,off,none⟩) cap 6 1=some ⟨B,off+6,none⟩:=by rw[adv,if_neg (by omega)];simp[Addr.add]
    have R:=λw=>Qup (some ⟨B,off,none⟩) m cap 6 (6+n) (by omega) (by omega) w
    rw[M]at R;have ae:∀w,(Instr.slice 179 (.slice (some ⟨B,off,none⟩) m cap) none (some (.int .i64 6)) none).run prog w=.ok (.slice (some ⟨B,off,none⟩) 6 cap) w:=λw=>Qbg (some ⟨B,off,none⟩) m cap 6 (by omega) w
    have ac:(6:Int)<=(cap:Int):=by omega
    obtain⟨r,I⟩:=Zx ((b.drop 6).take n);have S:r.length=n:=by rw[I,List.length_take,List.length_drop];have:=i.o;omega
    have J:=H.sub (a:=6) (b:=6+n) (by omega) (by have:=i.o;omega);rw[show 6+n-6=n by omega,<-I,show Ql.size=1 from rfl,M]at J;have N:=H.take (k:=6) (by have:=i.o;omega);have Q:(b.take 6).length=6:=by rw[List.length_take];have:=i.o;omega
    obtain⟨O,W,F,V⟩:=Zh4 J N S Q;have o:Hid (Yr b=if sizedB r=b.take 6 then .ok r (6+n) else .bad):=Zh (by rw[Yr,if_neg C,if_neg G,if_neg (by rw[<-p,<-i.o];exact L),<-p,<-I]);rw[show 6+n-6=n by omega,show(((6+n:Nat)):Int)=6+(n:Int) by omega]at R;clear p C G q I S J N Q T M;go_enter func260,ntmps260;go_wp2_with fail;have d:=V7 A w _ cap b H;rw[<-i.o]at d;refine d.mono ?_;rintro e z ⟨y,rfl,v,l,j⟩;obtain⟨t,s⟩:=Zh2 l j;clear d l j;go_wp2_with fail;have f:=Yk _ z y b false t;rw[E.o]at f;refine f.mono ?_;rintro e D ⟨rfl,-,c⟩;have g:=Zh (s.of_kept c λk h=>by rw[h];exact v);clear f c;go_wp2_with fail;go_region_held3 (λ_=>True) (trivial)
     ((first
       | (go_at_call 320;have d:=Qh1 A D.drew _ (cap-6) r ((O.bel g.o).bel (Bel.refl D).drew);rw[F.o]at d;refine d.mono ?_;rintro e G ⟨⟨C,q,rfl,l⟩,f⟩;have j:=Zh (((Bel.refl D).drew).trans f);have p:=Zh (l.rd (λk c=>Nat.lt_of_lt_of_le (U.o k c) g.size));clear d l f)
       | (go_at_call 330;have f:=Qqj A A G C _ q cap (sizedB r) (b.take 6) p.o (W.bel (g.trans j.o));rw[V.o,K5]at f;refine f.mono ?_;rintro e N ⟨rfl,l⟩;have d:=Zh (j.trans l);clear f l)))
    rcases q:decide (sizedB r=b.take 6)with _|_
    ·have f:Hid (Yr b=.bad):=Zh (by rw[o.o,if_neg (of_decide_eq_false q)])
     go_wp2;go_ret3
     exact⟨by rw[f.o];rfl,g.trans d.o⟩
    ·have f:Hid (Yr b=.ok r (6+n)):=Zh (by rw[o.o,if_pos (of_decide_eq_true q)])
     go_wp2_with fail;have j:=H7 A N _ (cap-6) r (O.bel (g.trans d.o)) (by rw[F.o];omega);rw[F.o]at j;refine j.mono ?_;rintro e Q ⟨⟨J,I,rfl,p⟩,l⟩;obtain⟨G,C⟩:=Zh2 p l;clear j p l;go_wp2;go_ret3
     have j:=g.trans d;obtain⟨xs,l,p,M⟩:=G.o;exact⟨by rw[f.o];exact⟨J,I,by rw[F.o];rfl,xs,l,p,λk c=>Nat.le_trans j.size (M k c)⟩,j.trans C.o⟩
end Go.Proofs.YtkdpmdfcdgphlaaGreat
namespace Go.Po
open Go.Mem Go.Proofs.YtkdpmdfcdgphlaaGreat
abbrev Vw:=List (ByteArray×File)
def Xi(s:ByteArray)(bs:List UInt8)(v:Vw):Vw:=match Qg s v with
 | none=>Jh s ⟨bs,0,false⟩ v
 | some _=>X6 s (more bs) v
def Zg(s:ByteArray)(v:Vw):Vw:=X6 s synced v
def Xx(s:ByteArray)(v:Vw):List UInt8:=((Qg s v).map λf=>f.b).getD []
theorem Qrj{α:Type}{k:ByteArray}{g:α->α}{l:List (ByteArray×α)}(h:Qg k l=none):X6 k g l=l:=by
 have a:=H9 h;simp only[X6];rw[List.map_congr_left (g:=id),List.map_id];intro x b;rw[if_neg];rfl;intro e;exact a (List.mem_map.2 ⟨x,b,e⟩)
end Go.Po
namespace Go.Proofs.YtkdpmdfcdgphlaaGreat
open Tryz
open Go.RowKit Go.Mem Go.Po Go.Maps Go.MapKept
def Dk(A O:Nat->Prop)(w:World)(b:Nat)(room:Int)(v:Vw):Prop:=∃mb fs,Zk A O w b room mb fs/\view fs=v/\0<=room/\room<=1048576
section
variable {A B O S : Nat → Prop} {w w' : World} {b : Nat} {room : Int} {v : Vw}
theorem Dk.keep(h:Dk A O w b room v)(i:Kept S w w')(g:∀k,O k->¬S k)(j:∀k,S k->A k)(e:∀k,k<w.heap.size->B k->A k)(f:∀k,O k->B k):Dk B O w' b room v:=by
 obtain⟨l,a,c,d⟩:=h;exact⟨l,a,c.keep i g j e f,d⟩
theorem Dk.bel(h:Dk A O w b room v)(e:Bel w w'):Dk A O w' b room v:=by
 obtain⟨f,a,c,d⟩:=h;exact⟨f,a,c.bel e,d⟩
theorem Dk.mono(h:Dk A O w b room v)(e:∀k,k<w.heap.size->B k->A k)(f:∀k,O k->B k):Dk B O w b room v:=by
 obtain⟨g,a,c,d⟩:=h;exact⟨g,a,c.mono e f,d⟩
theorem Dk.oa(h:Dk A O w b room v):∀k,O k->A k:=by obtain⟨e,c,a,d⟩:=h;exact a.oa
theorem Dk.lt(h:Dk A O w b room v):∀k,O k->k<w.heap.size:=by obtain⟨e,c,a,d⟩:=h;exact a.lt
theorem Dk.small(h:Dk A O w b room v):used v<=1048576:=by obtain⟨d,c,a,rfl,_⟩:=h;exact a.few.2.2.1
end
variable (A O : Nat → Prop) (w : World) (hA : ∀ k, A k → k < w.heap.size) (b : Nat) (room : Int) (v : Vw) (h : Dk A O w b room v)
include h in
theorem Sk(s:ByteArray)(hs:s.size<=maxLen)(hn:Qg s v=none):
 Calls prog 99 #[.pointer (some ⟨b,0,none⟩),.string s] w λe w'=>e=.returned (.tuple #[.slice none 0 0,.bool false])/\w=w':=by
 obtain⟨mb,fs,h1,rfl,_⟩:=h;rw[Ui,Option.map_eq_none_iff]at hn;exact Quf s hs A O w b room mb fs h1 hn
include h hA in
theorem Cf(s:ByteArray)(hs:s.size<=maxLen)(f:File)(hn:Qg s v=some f):
 Calls prog 99 #[.pointer (some ⟨b,0,none⟩),.string s] w λe w'=>(∃ao cap,e=.returned (.tuple #[.slice ao f.b.length cap,.bool true])/\Rd Ql A w' ao cap f.b)/\Bel w w':=by
 obtain⟨mb,fs,h1,rfl,_⟩:=h;rw[Ui,Option.map_eq_some_iff]at hn;obtain⟨⟨n,f'⟩,hg,rfl⟩:=hn;exact Qrm s hs A O w hA b room mb fs h1 n f' hg
include h in
theorem Gz(s:ByteArray)(hs:s.size<=maxLen):
 Calls prog 97 #[.pointer (some ⟨b,0,none⟩),.string s] w λe w'=>(∃c,e=.returned (.int .i64 c))/\Dk A O w' b room (Qx s v)/\Kept O w w':=by
 obtain⟨mb,fs,h1,rfl,hr⟩:=h;rcases hg:Qg s fs with _|x
 ·refine(Qhk s hs A O w b room mb fs h1 hg).zS ?_
  refine⟨⟨_,rfl⟩,⟨mb,fs,h1,?_,hr⟩,Kept.refl _ _⟩;rw[<-Qkb,Ym hg]
 ·refine(Qpv s hs A O w b room mb fs h1 x hg).mono ?_
  rintro e w' ⟨rfl,h2,h3⟩;exact⟨⟨_,rfl⟩,⟨mb,_,h2,by rw[Qkb],hr⟩,h3⟩
include h in
theorem Qck(s:ByteArray)(hs:s.size<=maxLen):
 Calls prog 261 #[.pointer (some ⟨b,0,none⟩),.string s] w λe w'=>e=.returned (.int .i64 (if (Qg s v).isSome then 0 else 6))/\Dk A O w' b room (Zg s v)/\Kept O w w':=by
 obtain⟨mb,fs,h1,rfl,hr⟩:=h;rw[Ui];rcases hg:Qg s fs with _|⟨n,f⟩
 ·refine(Qxl s hs A O w b room mb fs h1 hg).zS ?_
  refine⟨rfl,⟨mb,fs,h1,?_,hr⟩,Kept.refl _ _⟩;rw[Zg,Qrj];rw[Ui,hg];rfl
 ·refine(Qui s hs A O w b room mb fs h1 n f hg).mono ?_
  rintro e w' ⟨rfl,h2,h3⟩;exact⟨rfl,⟨mb,_,h2,by rw[Qd6];rfl,hr⟩,h3⟩
include h hA in
theorem G5(s:ByteArray)(hs:Jb s=true)(hl:s.size<=maxLen)(bo:Option Addr)(bc:Nat)(bs:List UInt8)(hbs:Rd Ql A w bo bc bs)(hfull:(used v:Int)+(bs.length:Int)<=room)(hfew:v.length<100000):
 Calls prog 236 #[.pointer (some ⟨b,0,none⟩),.string s,.slice bo bs.length bc] w λe w'=>e=.returned (.int .i64 0)/\∃O',Dk (λk=>A k\/O' k) O' w' b room (Xi s bs v)/\Kept O w w'/\∀k,O' k->O k\/w.heap.size<=k:=by
 obtain⟨mb,fs,h1,rfl,hr⟩:=h;rcases hg:Qg s fs with _|⟨n,f⟩
 ·refine(Qpx s hs hl A O w hA b room mb fs h1 hr bo bc bs hbs hfull hg (by simpa[view] using hfew)).mono ?_
  rintro e w' ⟨rfl,n,h2,h3,h4,h5⟩;refine⟨rfl,λk=>O k\/k=n,⟨mb,_,h2.mono (λk _ h=>?_) (λk h=>.inr h),?_,hr⟩,h3,λk h=>h.imp id λh=>by rw[h];exact h4⟩
  ·exact h.elim .inl λh=>h.imp (h1.oa k) id
  ·rw[Xi,Ui,hg,Que];rfl
 ·refine(Qpw s hs hl A O w hA b room mb fs h1 hr bo bc bs hbs hfull n f hg).mono ?_
  rintro e w' ⟨rfl,h2,h3⟩;refine⟨rfl,O,⟨mb,_,h2.mono (λk _ h=>h.elim id (h1.oa k)) (λk h=>.inr h),?_,hr⟩,h3,λk h=>.inl h⟩;rw[Xi,Ui,hg,Qd6];rfl
include h in
theorem Qbd(s t:ByteArray)(hs:s.size<=maxLen)(ht:t.size<=maxLen)(hg:Jb t=true)(hst:s≠t)(f:File)(hn:Qg s v=some f):
 Calls prog 262 #[.pointer (some ⟨b,0,none⟩),.string s,.string t] w λe w'=>e=.returned (.int .i64 0)/\Dk A O w' b room (moved s t (marked f) v)/\Kept O w w':=by
 obtain⟨mb,fs,h1,rfl,hr⟩:=h;rw[Ui,Option.map_eq_some_iff]at hn;obtain⟨⟨n,f'⟩,hgs,rfl⟩:=hn;refine(Qpy s t hs ht hg hst A O w b room mb fs h1 n f' hgs).mono ?_;rintro e w' ⟨rfl,h2,h3⟩;exact⟨rfl,⟨mb,_,h2,by simp only[view];rw[Qrp],hr⟩,h3⟩
include h hA in
theorem Cz(n:Int):
 Calls prog 39 #[.pointer (some ⟨b,0,none⟩),.int .i64 n] w λe w'=>∃b' v' O',e=.returned (.pointer (some ⟨b',0,none⟩))/\Dk (λk=>A k\/O' k) O' w' b' room v'/\v'.Perm (Jm n v)/\(∀k,O' k->w.heap.size<=k)/\Bel w w':=by
 obtain⟨mb,fs,h1,rfl,hr⟩:=h;refine(Quc n A O w hA b room mb fs h1 hr).mono ?_;rintro e w' ⟨b',mb',fs',O',rfl,h2,h3,h4,h5⟩;exact⟨b',_,O',rfl,⟨mb',fs',h2,rfl,hr⟩,h3,h4,h5⟩
structure Kt(A O:Nat->Prop)(w:World)(lb db last:Nat)(all:List (List UInt8)):Prop where
 blk:∃T ao cap xs,w.heap[lb]?=some (.cells #[.pointer (some ⟨db,0,none⟩),.int .i64 last,.slice ao all.length cap] T (0,0))/\Ch (Yg.R A w) 1 all xs/\Sl w 179 1 ao all.length cap xs/\¬Qc ao cap lb/\∀k,Qc ao cap k->O k
 ol:O lb
 lt:∀k,O k->k<w.heap.size
 oa:∀k,O k->A k
theorem Kt.keep{A B O S:Nat->Prop}{w w':World}{b c last:Nat}{all:List (List UInt8)}(h:Kt A O w b c last all)(a:Kept S w w')(f:∀k,O k->¬S k)(p:∀k,S k->A k)(n:∀k,k<w.heap.size->B k->A k)(o:∀k,O k->B k):Kt B O w' b c last all:=by
 obtain⟨⟨T,ao,cap,xs,g,i,j,l,d⟩,e,m,q⟩:=h;exact⟨⟨T,ao,cap,xs,a.heap (f b e) g,i.mono λ_ _ _ h=>Yg.keep h a p n,j.kept a λk h=>f k (d k h),l,d⟩,e,λk h=>Nat.lt_of_lt_of_le (m k h) a.size,o⟩
theorem Kt.bel{A O:Nat->Prop}{w w':World}{b a last:Nat}{all:List (List UInt8)}(h:Kt A O w b a last all)(c:Bel w w'):Kt A O w' b a last all:=
 h.keep (c.kept λ_=>False) (λ_ _ h=>h) (λ_ h=>h.elim) (λ_ _ h=>h) h.oa
structure Lg(A Od Ol:Nat->Prop)(w:World)(lb db:Nat)(room:Int)(v:Vw)(last:Nat)(all:List (List UInt8)):Prop where
 d:Dk A Od w db room v
 l:Kt A Ol w lb db last all
 apart:∀k,Od k->¬Ol k
theorem Lg.keep{A B a b S:Nat->Prop}{w w':World}{j c last:Nat}{l:Int}{v:Vw}{all:List (List UInt8)}(h:Lg A a b w j c l v last all)(g:Kept S w w')(f:∀k,a k\/b k->¬S k)(i:∀k,S k->A k)(d:∀k,k<w.heap.size->B k->A k)(e:∀k,a k\/b k->B k):Lg B a b w' j c l v last all:=
 ⟨h.d.keep g (λk h=>f k (.inl h)) i d (λk h=>e k (.inl h)),h.l.keep g (λk h=>f k (.inr h)) i d (λk h=>e k (.inr h)),h.apart⟩
theorem Lg.bel{A a b:Nat->Prop}{w w':World}{e c last:Nat}{f:Int}{v:Vw}{all:List (List UInt8)}(h:Lg A a b w e c f v last all)(d:Bel w w'):Lg A a b w' e c f v last all:=
 ⟨h.d.bel d,h.l.bel d,h.apart⟩
theorem Y8(n:Nat):(Qe n).size<=maxLen:=by show 6<=maxLen;simp[maxLen]
theorem Qr3(A O:Nat->Prop)(w:World)(b c last:Nat)(all:List (List UInt8))(h:Kt A O w b c last all):
 Calls prog 302 #[.pointer (some ⟨b,0,none⟩)] w λe w'=>e=.returned (.int .i64 last)/\w=w':=by
 obtain⟨⟨T,ao,cap,xs,a,_⟩,_⟩:=h;have c1:=cell_of_block a 1 _ rfl;clear a;go_enter func302,ntmps302;go_wp2;go_ret;exact⟨rfl,rfl⟩
theorem M0(A d m:Nat->Prop)(w:World)(a f:Nat)(j:Int)(v:Vw)(last:Nat)(all:List (List UInt8))(h:Lg A d m w a f j v last all)(y:last<=999):
 Calls prog 193 #[.pointer (some ⟨a,0,none⟩)] w λe w'=>e=.returned (.int .i64 0)/\Lg A d m w' a f j (Zg (Qe last) v) last all/\Kept d w w':=by
 have H:=Zh h;obtain⟨⟨T,ao,cap,xs,g,_⟩,i,_,_⟩:=h.l;have c0:=cell_of_block g 0 _ rfl;have c1:=cell_of_block g 1 _ rfl;have o:=Zh g;have r:¬d a:=λb=>h.apart a b i
 obtain⟨p,b⟩:∃c:Int,c=(if (Qg (Qe last) v).isSome then 0 else 6):=⟨_,rfl⟩;have x:p=0\/p=6:=by rw[b];split<;>simp
 have t:=Zh b;clear h g b i;go_enter func193,ntmps193;go_wp2_with fail;go_region_held3 (λw'=>w'.cell? ⟨a,0,none⟩=some (.pointer (some ⟨f,0,none⟩))/\w'.cell? ⟨a,1,none⟩=some (.int .i64 last))
  (first|go_keep|exact⟨z,B⟩|exact⟨C,D⟩)
  ((first
    | (go_at_call 174;refine(Wd last y _).mono ?_;rintro e E ⟨rfl,i⟩;have b:=Zh (((Bel.refl w).drew).trans i);have C:=b.cell c0;have D:=b.cell c1;clear i)
    | (go_at_call 261;refine(Qck A d _ f j v (H.d.bel b.o) (Qe last) (Y8 last)).mono ?_;rw[<-t.o];rintro e n ⟨rfl,q,i⟩;have s:=Zh q;have l:=Zh i;have z:n.cell? ⟨a,0,none⟩=some (.pointer (some ⟨f,0,none⟩)):=cell_of_block (i.heap r (b.heap o.o)) 0 _ rfl;have B:n.cell? ⟨a,1,none⟩=some (.int .i64 last):=cell_of_block (i.heap r (b.heap o.o)) 1 _ rfl;clear q i)))
 have q:Lg A d m n a f j (Zg (Qe last) v) last all:=⟨s.o,(H.l.bel b.o).keep l.o (λk g i=>H.apart k i g) (λk h=>H.d.oa k h) (λ_ _ h=>h) H.l.oa,H.apart⟩;have i:=Zh q;clear q;rcases x with rfl|rfl
 ·go_wp2
  go_ret;exact⟨rfl,i,(b.kept d).trans l⟩
 ·go_wp2
  go_ret;exact⟨rfl,i,(b.kept d).trans l⟩
theorem Kt.setLast{A O:Nat->Prop}{w:World}{a c last:Nat}{all:List (List UInt8)}(h:Kt A O w a c last all)(n:Nat):
 Kt A O (w.setCell ⟨a,1,none⟩ (.int .i64 n)) a c n all/\Kept (λk=>k=a) w (w.setCell ⟨a,1,none⟩ (.int .i64 n)):=by
 have b:Kept (λk=>k=a) w (w.setCell ⟨a,1,none⟩ (.int .i64 n)):=(Kept.refl (λk=>k=a) w).setCell (p:=⟨a,1,none⟩) rfl _;obtain⟨⟨T,ao,cap,xs,i,j,l,d,m⟩,f,o,g⟩:=h;refine⟨⟨⟨T,ao,cap,xs,?_,j.mono λ_ _ _ h=>Yg.keep h b (λk h=>h▸g _ f) λ_ _ h=>h,l.kept b λk h e=>d (e▸h),d,m⟩,f,λk h=>Nat.lt_of_lt_of_le (o k h) b.size,g⟩,b⟩;rw[Go.Mem.heap_setCell_same w a 1 _ _ T (0,0) i];simp
theorem Qdd(A d f:Nat->Prop)(w:World)(b g:Nat)(j:Int)(v:Vw)(last:Nat)(all:List (List UInt8))(h:Lg A d f w b g j v last all)(q:last<999):
 Calls prog 235 #[.pointer (some ⟨b,0,none⟩)] w λe w'=>e=.returned (.int .i64 0)/\Lg A d f w' b g j (Zg (Qe last) v) (last+1) all/\Kept (λk=>d k\/k=b) w w':=by
 have H:=Zh h;have r:¬((last:Int)=999):=by omega
 have s:IntKind.i64.wrap ((last:Int)+1)=last+1:=by rw[IntKind.wrap_i64];omega
 clear h;go_enter func235,ntmps235;go_wp2_with fail;refine(M0 A d f w b g j v last all H.o (by omega)).mono ?_;rintro e t ⟨rfl,c,m⟩;obtain⟨⟨T,ao,cap,xs,i,_⟩,n,_,_⟩:=c.l;have c1:=cell_of_block i 1 _ rfl;have p:=Qa i 1;obtain⟨a,o,l⟩:=Zh3 c m n;clear c m i n;go_wp2;go_ret;obtain⟨n,i⟩:=a.l.setLast (last+1);exact⟨rfl,⟨a.d.keep i (λk c m=>a.apart b (m▸c) l.o) (λk h=>h▸a.l.oa _ l.o) (λ_ _ h=>h) a.d.oa,n,a.apart⟩,(o.mono λ_ _ h=>.inl h).trans (i.mono λ_ _ h=>.inr h)⟩
theorem Qee:El prog 187 179 1 24:=El.mk' underlying187 (z:=.slice none 0 0) (by kernel_rfl) rfl
theorem Kt.reads{A O:Nat->Prop}{w:World}{a b last:Nat}{all:List (List UInt8)}(h:Kt A O w a b last all):∃ao cap,w.cell? ⟨a,2,none⟩=some (.slice ao all.length cap)/\Rd Yg (λ_=>False) w ao cap all:=by
 obtain⟨⟨T,ao,cap,xs,c,d,e,f,g⟩,i,j,l⟩:=h;exact⟨ao,cap,cell_of_block c 2 _ rfl,xs,d.mono λ_ _ _ h=>Yg.mono h λ_ _ h=>h.elim,e.sr λk _ h=>h⟩
theorem Qef{A B:Nat->Prop}{w0 w:World}{ao:Option Addr}{cap:Nat}{l:List UInt8}{e:TypeId}(h:Own Ql A w0 w e ao cap l)(a:∀k,B k->k<w0.heap.size):Rd Ql B w ao cap l:=by
 obtain⟨xs,b,c,d⟩:=h;exact Own.rd (A:=B) ⟨xs,b.mono λ_ _ _ h=>h,c,d⟩ a
theorem Lc(A O:Nat->Prop)(w:World)(b:∀k,A k->k<w.heap.size)(y L last:Nat)(all:List (List UInt8))(h:Kt A O w y L last all)(M:all.length<=1000000)(d:∀x∈all,x.length<=4000):
 Calls prog 103 #[.pointer (some ⟨y,0,none⟩)] w λe w'=>(∃ao cap,e=.returned (.slice ao all.length cap)/\Own Yg A w w' 179 ao cap all)/\Bel w w':=by
 obtain⟨W,V,c2,c⟩:=h.reads;obtain⟨F,z,H⟩:=Zh3 c b d;obtain⟨n,a⟩:=Zx all.length;rw[<-a]at c2 M ⊢;have f:=Zh a;clear h c b d a;go_enter func103,ntmps103;go_wp2;go_loopw[3,5,13] (λs _ i wr=>∃(k:Nat) (b:Option Addr) (a:Nat),k<=n/\i=.int .i64 k/\s=.slice b k a/\Hid (Own Yg A w wr 179 b a (all.take k))/\Hid (Bel w wr)) (λ_ _ i _=>n-(intOf i).toNat)
 case atStart=>exact⟨0,none,0,Nat.zero_le _,rfl,rfl,Zh (Own.nil _ _ _ _ _),Zh (Bel.refl _)⟩
 case round=>
  obtain⟨k,b,a,S,rfl,rfl,m,g⟩:=hrel;by_cases T:k<n
  ·obtain⟨x,c⟩:∃x,all[k]?=some x:=⟨all[k]'(by have:=f.o;omega),by simp⟩
   obtain⟨Q,off,J,K,rfl,R,c0,l⟩:=Md (F.bel g.o) c;obtain⟨I,G⟩:=Zh2 c l;have U:=H x (List.mem_of_getElem? c);have d:(all.take k).length=k:=by rw[List.length_take];have:=f.o;omega
   have o:=Zh d;clear c l d;go_wp2_with fail;refine(H7 _ wr J K x G.o (by omega)).mono ?_;rintro e l ⟨⟨d,c,rfl,v⟩,q⟩;have p:Hid (Bel wr (l.alloc (.cells #[.slice d x.length c] 179))):=Zh (q.alloc _);have t:Rd Ql (λj=>A j\/Qc b a j) (l.alloc (.cells #[.slice d x.length c] 179)) d c x:=(Qef v (B:=λj=>A j\/Qc b a j) λj C=>C.elim (λh=>Nat.lt_of_lt_of_le (z.o j h) g.size) λh=>m.lt h).bel ((Bel.refl l).alloc _);obtain⟨C,E⟩:=Zh2 t (m.bel p.o);clear v q t;go_wp2_with(at_builtin;go_must (refine Ja (r:=Yg) (A:=A) (w0:=w) _ rfl _ _ 187 187 rfl Qee b a (all.take k) E.o (by rw[o.o];rfl) _ rfl [x] [.slice d x.length c] (Ch.one ⟨d,c,rfl,C.o⟩ rfl) (Rt l underlying187 _ rfl _) (by rw[o.o];simp;omega) (by omega) (g.trans p.o) ?_);intro P N X q _ t _;have D:=Zh q;have v:=Zh t;clear q t);go_roundw
   case rel=>exact⟨k+1,P,N,by omega,by go_num,by rw[show min k all.length=k from by have:=f.o;omega],Zh (by rw[List.take_add_one,I.o];exact D.o),v⟩
   case measure=>simp[intOf];omega
  ·obtain rfl:k=n:=by omega
   have c:all.take k=all:=by rw[f.o,List.take_length]
   go_wp2;go_ret;exact⟨⟨b,a,rfl,by have:=m.o;rwa [c]at this⟩,g.o⟩
theorem M3(n:Nat)(d:n<=999):Jb (Qe n)=true:=by
 have g:∀m,m<=9->Bc (UInt8.ofNat (48+m))=true:=λm a=>by
  have:(UInt8.ofNat (48+m)).toNat=48+m:=by rw[UInt8.toNat_ofNat'];omega
  simp only[Bc,this];simp;omega
 have a:=g (n / 100) (by omega);have b:=g (n / 10 % 10) (by omega);have c:=g (n % 10) (by omega);show(List.all [108,111,103,UInt8.ofNat (48+n / 100),UInt8.ofNat (48+n / 10 % 10),UInt8.ofNat (48+n % 10)] Bc&&decide (0<6)&&decide (6<=12))=true;simp only[List.all_cons,List.all_nil,a,b,c];rfl
theorem Qgx(A O:Nat->Prop)(w:World)(g:∀k,A k->k<w.heap.size)(b:Nat)(c:Int)(v:Vw)(h:Dk A O w b c v)(s:ByteArray)(d:s.size<=maxLen):
 Calls prog 99 #[.pointer (some ⟨b,0,none⟩),.string s] w λe w'=>(∃ao cap,e=.returned (.tuple #[.slice ao (Xx s v).length cap,.bool (Qg s v).isSome])/\Rd Ql A w' ao cap (Xx s v))/\Bel w w':=by
 rcases a:Qg s v with _|f
 ·refine(Sk A O w b c v h s d a).zS ?_
  exact⟨⟨none,0,by simp[Xx,a],by simp only[Xx,a];exact Rd.nil _ _ _ _ _ (by simp[maxLen])⟩,Bel.refl _⟩
 ·refine(Cf A O w g b c v h s d f a).mono ?_
  rintro e w' ⟨⟨ao,cap,rfl,j⟩,i⟩;exact⟨⟨ao,cap,by simp[Xx,a],by simp only[Xx,a];exact j⟩,i⟩
theorem Qr4{A q d Od':Nat->Prop}{t N v w8 c:World}{a z:Nat}{M:Int}{ad U:Vw}{last:Nat}{all:List (List UInt8)}{bs:List UInt8}{n:Nat}{T:TypeId}{l i o:Option Addr}{j g m:Nat}{O:List Value}(Y:n=bs.length)
 (r:Lg A q d t a z M ad last all) (V:∀k,A k->k<t.heap.size) (W:Ch (Yg.R A t) 1 all O) (R:∀k,Qc l j k->d k) (Q:¬Qc l j a) (E:Bel t N) (H:Kept q N v) (F:Dk (λk=>A k\/Od' k) Od' v z M U) (K:∀k,Od' k->q k\/N.heap.size<=k)
 (P:Bel v w8) (Z:Own Ql A v.drew w8 5 o m bs) (aa:Kept (Qc l j) (w8.alloc (.cells #[.slice o n m] 179)) c) (S:Sl c 179 1 i (all.length+1) g (O++[.slice o n m])) (L:∀k,Qc i g k->Qc l j k\/k=(w8.alloc (.cells #[.slice o n m] 179)).heap.size)
 (ab:c.heap[a]?=some (.cells #[.pointer (some ⟨z,0,none⟩),.int .i64 last,.slice l all.length j] T (0,0))):
 ∃Ol',Lg (λk=>A k\/Od' k\/Ol' k) Od' Ol' (c.setCell ⟨a,2,none⟩ (.slice i (all.length+1) g)) a z M U last (all++[bs])/\Kept (λk=>q k\/d k) t (c.setCell ⟨a,2,none⟩ (.slice i (all.length+1) g))/\∀k,Od' k\/Ol' k->q k\/d k\/t.heap.size<=k:=by
 have D:Kept (λk=>k=a) c (c.setCell ⟨a,2,none⟩ (.slice i (all.length+1) g)):=(Kept.refl (λk=>k=a) c).setCell (p:=⟨a,2,none⟩) rfl _;have I:Kept (Qc l j) w8 c:=(((Bel.refl w8).alloc _).kept _).trans aa;have ae:=E.size;have af:=H.size;have ah:=P.size;have ai:=I.size;have ac:(w8.alloc (.cells #[.slice o n m] 179)).heap.size=w8.heap.size+1:=by simp
 have C:=r.l.ol;have s:=r.l.oa;have y:=r.l.lt;have J:Kept (λk=>k=a\/Qc l j k) v (c.setCell ⟨a,2,none⟩ (.slice i (all.length+1) g)):=((P.kept _).trans (I.mono λ_ _ h=>.inr h)).trans (D.mono λ_ _ h=>.inl h);have w:∀k,(k=a\/Qc l j k)->d k:=λk h=>h.elim (λh=>by rw[h];exact C) (R k)
 have G:∀k,Od' k->¬d k:=λk f b=>by
  rcases K k f with h|h
  ·exact r.apart k h b
  ·have:=y k b;omega
 have x:∀k,Qc i g k->d k\/w8.heap.size+1=k:=λk h=>(L k h).imp (R k) λh=>by rw[h,ac]
 have X:∀k,Qc i g k->k<c.heap.size:=λk h=>S.owns h
 refine⟨λk=>d k\/Qc i g k,⟨?_,⟨⟨T,i,g,O++[.slice o n m],?_,?_,?_,?_,λk h=>.inr h⟩,.inl C,λk h=>?_,λk h=>.inr (.inr h)⟩,λk f b=>?_⟩,?_,λk h=>?_⟩
 ·refine F.keep J (λk f b=>G k f (w k b)) (λk h=>.inl (s k (w k h))) (λk f b=>?_) (λk h=>.inr (.inl h))
  rcases b with h|h|h|h
  ·exact .inl h
  ·exact .inr h
  ·exact .inl (s k h)
  ·exact(x k h).elim (λh=>.inl (s k h)) λh=>by omega
 ·rw[Go.Mem.heap_setCell_same c a 2 _ _ T (0,0) ab];simp
 ·refine Ch.append (W.mono λ_ _ _ h=>?_) (Ch.one ⟨o,m,by rw[Y],?_⟩ rfl)
  ·refine Yg.keep h (((E.kept _).trans (H.mono (T:=λk=>q k\/d k) λ_ _ h=>.inl h)).trans (J.mono λk _ h=>.inr (w k h))) (λk h=>h.elim (r.d.oa k) (s k)) λk f b=>?_
   rcases b with h|h|h|h
   ·exact h
   ·exact(K k h).elim (r.d.oa k) λh=>by omega
   ·exact s k h
   ·exact(x k h).elim (s k) λh=>by omega
  ·have ab:=Qef Z (B:=λk=>A k\/Od' k\/d k) λk h=>by
    show k<v.heap.size;rcases h with h|h|h
    ·have:=V k h;omega
    ·exact F.lt k h
    ·have:=y k h;omega
   refine ab.keep ((I.mono λ_ _ h=>.inr h).trans (D.mono (T:=λk=>k=a\/Qc l j k) λ_ _ h=>.inl h)) (λk h=>.inr (.inr (w k h))) λk f b=>?_
   rcases b with h|h|h|h
   ·exact .inl h
   ·exact .inr (.inl h)
   ·exact .inr (.inr h)
   ·exact(x k h).elim (λh=>.inr (.inr h)) λh=>by omega
 ·rw[List.length_append]
  exact S.kept D λk h e=>by
   rcases L k h with h|h
   ·exact Q (e▸h)
   ·have:=y a C;have V:k=a:=e;omega
 ·intro h
  rcases L _ h with h|h
  ·exact Q h
  ·have:=y a C;omega
 ·refine Nat.lt_of_lt_of_le ?_ D.size
  rcases h with h|h
  ·have:=y k h;omega
  ·exact X k h
 ·rcases b with b|b
  ·exact G k f b
  ·rcases x k b with h|h
   ·exact G k f h
   ·have:=F.lt k f;omega
 ·exact((E.kept _).trans (H.mono λ_ _ h=>.inl h)).trans (J.mono λk _ h=>.inr (w k h))
 ·rcases h with h|h|h
  ·exact(K k h).imp id λh=>.inr (by omega)
  ·exact .inr (.inl h)
  ·exact(x k h).elim (λh=>.inr (.inl h)) λh=>.inr (.inr (by omega))
def Cn(v:Vw)(last:Nat):Bool:=decide (2000<=(Xx (Qe last) v).length)
theorem Qoj:(∀(A c g:Nat->Prop) (w:World) (j:∀k,A k->k<w.heap.size) (a d:Nat) (f:Int) (v:Vw) (last:Nat) (all:List (List UInt8)) (h:Lg A c g w a d f v last all) (b:Cn v last=false) (Y:last<=999) (t:Option Addr) (s:Nat) (bs:List UInt8) (o:Rd Ql A w t s bs) (q:Xj bs=true) (x:(used v:Int)+(6+bs.length:Nat)<=f) (r:v.length<100000) (l:all.length<=1000000),Calls prog 145 #[.pointer (some ⟨a,0,none⟩),.slice t bs.length s] w λe w'=>e=.returned (.int .i64 0)/\∃Od' Ol',Lg (λk=>A k\/Od' k\/Ol' k) Od' Ol' w' a d f (Xi (Qe last) (Z7 bs) v) last (all++[bs])/\Kept (λk=>c k\/g k) w w'/\∀k,Od' k\/Ol' k->c k\/g k\/w.heap.size<=k) ∧
 (∀(A c g:Nat->Prop) (w:World) (j:∀k,A k->k<w.heap.size) (a d:Nat) (f:Int) (v:Vw) (last:Nat) (all:List (List UInt8)) (h:Lg A c g w a d f v last all) (b:Cn v last=true) (Y:last<999) (t:Option Addr) (s:Nat) (bs:List UInt8) (o:Rd Ql A w t s bs) (q:Xj bs=true) (x:(used v:Int)+(6+bs.length:Nat)<=f) (r:v.length<100000) (l:all.length<=1000000),Calls prog 145 #[.pointer (some ⟨a,0,none⟩),.slice t bs.length s] w λe w'=>e=.returned (.int .i64 0)/\∃Od' Ol',Lg (λk=>A k\/Od' k\/Ol' k) Od' Ol' w' a d f (Xi (Qe (last+1)) (Z7 bs) (Zg (Qe last) v)) (last+1) (all++[bs])/\Kept (λk=>c k\/g k) w w'/\∀k,Od' k\/Ol' k->c k\/g k\/w.heap.size<=k):=by
 refine⟨have k1:=trivial;?_,have k2:=trivial;?_⟩;all_goals
  intro A c g w j a d f v last all h b Y t s bs o q x r l;obtain⟨H,J,ah,ai,ap,ak,ax⟩:=Zh7 h j o q x r l;obtain⟨⟨T,ao,cap,xs,i,_⟩,B,_,_⟩:=h.l;have c0:=cell_of_block i 0 _ rfl;have c1:=cell_of_block i 1 _ rfl;obtain⟨m,y⟩:=Zx ((Xx (Qe last) v).length);obtain⟨n,z⟩:=Zx bs.length;simp only[Cn,<-y]at b;first|(have k2:=k2;have aJ:(m:Int)>=2000:=by simp at b;omega)|(have aJ:¬(m:Int)>=2000:=by simp at b;omega)
  obtain⟨az,F,an⟩:=Zh3 y z B;rw[<-z];clear h j o q x r l i y b z B;go_enter func145,ntmps145;go_wp2_with fail;have l:=Qh2 A w t s bs ah ai;rw[<-F.o]at l;refine l.mono ?_;rintro e aM ⟨⟨au,K,rfl,o⟩,b⟩;have q:(Z7 bs).length=6+n:=by rw[Z7,List.length_append,K5,<-F.o]
  obtain⟨j,rfl⟩:∃j,au=some j:=by
   rcases au with _|j
   ·obtain⟨x,_,r,_⟩:=o
    have:=r.none.1;omega
   ·exact⟨j,rfl⟩
  have aT:=λw=>Lib.run_eql_slice_nil (P:=prog) w 179 5 (some j) (6+n) K 0 0 underlying179
  obtain⟨O,aj,R⟩:=Zh3 q (o.rd J.o) b;have z:=b.cell c0;have B:=b.cell c1;clear l o b q;go_wp2_with fail;go_region_held3 (λw'=>w'.cell? ⟨a,0,none⟩=some (.pointer (some ⟨d,0,none⟩))/\w'.cell? ⟨a,1,none⟩=some (.int .i64 last))
   (first|go_keep|exact⟨G,I⟩|exact⟨q,E⟩)
   ((first
     | (go_at_call 174;refine(Wd last (by omega) _).mono ?_;rintro e D ⟨rfl,x⟩;have b:=Zh (((Bel.refl aM).drew).trans x);have q:=b.cell z;have E:=b.cell B;clear x)
     | (go_at_call 99;have o:=Qgx A c _ (λk h=>Nat.lt_of_lt_of_le (J.o k h) (R.trans b.o).size) d f v (H.d.bel (R.trans b.o)) (Qe last) (Y8 last);rw[<-az.o]at o;refine o.mono ?_;rintro e C ⟨⟨y,r,rfl,-⟩,l⟩;have ad:=Zh (b.trans l);have N:=Zh (R.trans (b.trans l));have G:=l.cell q;have I:=l.cell E;clear o l)))
  first
   | (have k2:=k2
      go_wp2_with fail;refine(Qdd A c g C a d f v last all (H.bel N) Y).mono ?_;rintro e o ⟨rfl,l,b⟩;have aB:=Zh b)
   | (skip)
  first|(have k2:=k2;have r:=Zh l)|(have r:=Zh (H.bel N.o))
  first|(have k2:=k2;have y:=Zh ((N.kept (λk=>c k\/g k)).trans (b.mono λk _ h=>h.imp id λh=>by rw[h];exact an.o)))|(have y:=Zh (N.kept (λk=>c k\/g k)))
  first
   | (have k2:=k2
      clear l b G I q E z B c0 c1)
   | (obtain⟨o,b⟩:∃o,o=C:=⟨_,rfl⟩
      subst b)
  obtain⟨⟨aO,ab,aa,aN,b,C,Q,D,M⟩,L,U,ac⟩:=r.l;have av:=cell_of_block b 0 _ rfl;first|(have k2:=k2;have W:o.cell? ⟨a,1,none⟩=some (.int .i64 ((last:Int)+1)):=cell_of_block b 1 _ rfl)|(have W:o.cell? ⟨a,1,none⟩=some (.int .i64 (last:Int)):=cell_of_block b 1 _ rfl)
  have aw:¬c a:=λl=>r.apart a l L
  obtain⟨af,ay,a8,am,V⟩:=Zh5 b C Q D M;first|(have k2:=k2;have B:(used (Zg (Qe last) v):Int)+(Z7 bs).length<=f:=by have i:=ap.o;have z:=O.o;have X:=F.o;have Z:used (Zg (Qe last) v)=used v:=Ht (p:=synced) (λ_=>rfl) v;rw[Z,z,X];exact i)|(have B:(used v:Int)+(Z7 bs).length<=f:=by have i:=ap.o;have z:=O.o;have X:=F.o;have Z:used v=used v:=rfl;rw[Z,z,X];exact i)
  first|(have k2:=k2;have l:(Zg (Qe last) v).length<100000:=by have:=ak.o;simpa[Zg,X6] using this)|(have l:v.length<100000:=by have:=ak.o;simpa[Zg,X6] using this)
  obtain⟨aq,al⟩:=Zh2 B l;first|(have k2:=k2;have S:Hid (Rd Ql A o (some j) K (Z7 bs)):=Zh ((aj.bel (ad.o)).keep (aB.o) (λk h=>h.elim (H.d.oa k) λh=>by rw[h];exact H.l.oa _ an.o) (λ_ _ h=>h)))|(have S:Hid (Rd Ql A o (some j) K (Z7 bs)):=Zh (aj.bel ad.o))
  clear b C Q D M L U ac B l;go_wp2_with fail;first
   | (have k2:=k2
      go_region_held3 (λw'=>w'.cell? ⟨a,0,none⟩=some (.pointer (some ⟨d,0,none⟩))/\w'.cell? ⟨a,1,none⟩=some (.int .i64 ((last:Int)+1)))
       (first|go_keep|exact⟨G,I⟩|exact⟨q,E⟩)
       ((first
         | (go_at_call 174;refine(Wd (last+1) (by omega) _).mono ?_;rintro e ac ⟨rfl,x⟩;have b:=Zh (((Bel.refl o).drew).trans x);have q:=b.cell av;have E:=b.cell W;clear x)
         | (go_at_call 236;have B:=G5 A c ac (λk h=>Nat.lt_of_lt_of_le (J.o k h) (Nat.le_trans y.size b.size)) d f (Zg (Qe last) v) (r.d.bel b.o) (Qe (last+1)) (M3 (last+1) (by omega)) (Y8 (last+1)) (some j) K (Z7 bs) (S.bel b.o) aq.o al.o;rw[O.o]at B;refine B.mono ?_;rintro e D ⟨rfl,Od',L,C,M⟩;have ae:=Zh L;have Q:=Zh C;have ar:=Zh M;have l:=C.heap aw (b.heap af.o);have U:=Zh l;have G:D.cell? ⟨a,0,none⟩=some (.pointer (some ⟨d,0,none⟩)):=cell_of_block l 0 _ rfl;have I:D.cell? ⟨a,1,none⟩=some (.int .i64 ((last:Int)+1)):=cell_of_block l 1 _ rfl;clear B L C M l))))
   | (go_region_held3 (λw'=>w'.cell? ⟨a,0,none⟩=some (.pointer (some ⟨d,0,none⟩))/\w'.cell? ⟨a,1,none⟩=some (.int .i64 (last:Int)))
       (first|go_keep|exact⟨G,I⟩|exact⟨q,E⟩)
       ((first
         | (go_at_call 174;refine(Wd last (by omega) _).mono ?_;rintro e ac ⟨rfl,x⟩;have b:=Zh (((Bel.refl o).drew).trans x);have q:=b.cell av;have E:=b.cell W;clear x)
         | (go_at_call 236;have B:=G5 A c ac (λk h=>Nat.lt_of_lt_of_le (J.o k h) (Nat.le_trans y.size b.size)) d f v (r.d.bel b.o) (Qe last) (M3 last (by omega)) (Y8 last) (some j) K (Z7 bs) (S.bel b.o) aq.o al.o;rw[O.o]at B;refine B.mono ?_;rintro e D ⟨rfl,Od',L,C,M⟩;have ae:=Zh L;have Q:=Zh C;have ar:=Zh M;have l:=C.heap aw (b.heap af.o);have U:=Zh l;have G:D.cell? ⟨a,0,none⟩=some (.pointer (some ⟨d,0,none⟩)):=cell_of_block l 0 _ rfl;have I:D.cell? ⟨a,1,none⟩=some (.int .i64 (last:Int)):=cell_of_block l 1 _ rfl;clear B L C M l))))
  obtain⟨aL,q,l,x,B,C,E⟩:=(Qee).hi;obtain⟨I,L,M,ac,a9⟩:=Zh5 l x B C E;have k2:=cell_of_block U 2 _ rfl;have G:=Zh ((((ah.keep y (λk h=>h.elim (H.d.oa k) (H.l.oa k)) (λ_ _ h=>h)).bel b).keep Q (λk h=>H.d.oa k h) (λ_ _ h=>h)).bel ((Bel.refl D).drew));have aS:=ax.o;have aK:=am.o;have aE:=Zh ((a8.kept (b.kept c) (λk i z=>r.apart k z (V k i))).kept Q (λk i z=>r.apart k z (V k i)));clear l x B C E;go_wp2_with fail;go_region_law(first|(refine Ww _ rfl _ _ 187 187 rfl 179 aL q 1 24 underlying187 I.o L.o M.o ac.o a9.o ab all.length aa aN ((aE.kept (l.kept (λ_=>False)) (λ_ _ h=>h)).kept ((Kept.refl (λ_=>False) _).alloc _) (λ_ _ h=>h)) (by simp[Act.eval]) (.slice (some ⟨w8.heap.size,0,none⟩) 1 1) (by simp[Act.eval]) 1 [.slice aH n aG] (Rt w8 underlying187 _ rfl _) (by simp only[maxLen];omega) (by omega) ?_;intro aV aU aW C B E;have x:=B.heap aK (((Bel.refl _).alloc _).heap (l.heap U.o));have aQ:=cell_of_block x 2 _ rfl;have aR:=Qa x 2;have aD:=Zh x;have aF:=Zh C;have aA:=Zh B;have aC:=Zh E;clear C B E x)|(go_simp;go_at_call 110;have x:=H7 A _ t s bs G.o (by have:=ai.o;simp[Xj]at this;omega);rw[<-F.o]at x;refine x.mono ?_;rintro e w8 ⟨⟨aH,aG,rfl,E⟩,C⟩;have l:=Zh (((Bel.refl D).drew).trans C);have aI:w8.cell? ⟨a,2,none⟩=some (.slice ab all.length aa):=l.cell k2;have aP:∀B,(w8.alloc B).cell? ⟨a,2,none⟩=some (.slice ab all.length aa):=λB=>((Bel.refl w8).alloc B).cell aI;have B:=Zh E;clear x E C))
  all_goals
   go_wp2;go_ret;obtain⟨Ol',x,C,E⟩:=Qr4 F.o r.o (λk h=>Nat.lt_of_lt_of_le (J.o k h) y.size) ay.o V.o am.o b.o Q.o ae.o ar.o l.o B.o aA.o aF.o aC.o aD.o;exact⟨rfl,Od',Ol',x,y.trans C,λk h=>(E k h).imp id λh=>h.imp id λh=>Nat.le_trans y.size h⟩
def M4:=Qoj.1
def Qp6:=Qoj.2
end Go.Proofs.YtkdpmdfcdgphlaaGreat

/- Part of this claim's proof. Conditions: as its theorems say. -/
import Derived.Test.YtkdpmdfcdgphlaaGreatM2
import Derived.Test.YtkdpmdfcdgphlaaGreatWLWaits
import Derived.Test.YtkdpmdfcdgphlaaGreatWVotesW
import Derived.Test.YtkdpmdfcdgphlaaGreatWAtTick
set_option linter.all false
namespace Go.Po
theorem rem_5(x:Int):∃(q:Nat) (r:Int),2<=q/\q<7/\(Int.tmod (Int.tmod x 5+5) 5)=r/\IntKind.i64.wrap (Int.tmod x 5+5)=Int.tmod x 5+5/\IntKind.i64.wrap (2+r)=(q:Int):=by
 have a:-5<Int.tmod x 5/\Int.tmod x 5<5:=⟨by have:=Int.lt_tmod_of_pos x (b:=5) (by omega);omega,Int.tmod_lt_of_pos x (by omega)⟩;have c:0<=Int.tmod (Int.tmod x 5+5) 5:=Int.tmod_nonneg _ (by omega);have d:Int.tmod (Int.tmod x 5+5) 5<5:=Int.tmod_lt_of_pos _ (by omega);refine⟨(2+Int.tmod (Int.tmod x 5+5) 5).toNat,_,by omega,by omega,rfl,by rw[IntKind.wrap_i64];omega,?_⟩;rw[IntKind.wrap_i64];omega
theorem rem_v(x:Int){q:Nat}(c:0<q)(g:q<7):∃(v:Nat) (s t:Int),v<q/\Int.tmod x q=s/\IntKind.i64.wrap (s+q)=t/\Int.tmod t q=(v:Int)/\(IntKind.i64.wrap s=s):=by
 have d:-(q:Int)<Int.tmod x q/\Int.tmod x q<q:=⟨by have:=Int.lt_tmod_of_pos x (b:=q) (by omega);omega,Int.tmod_lt_of_pos x (by omega)⟩;have e:0<=Int.tmod (Int.tmod x q+q) q:=Int.tmod_nonneg _ (by omega);have f:Int.tmod (Int.tmod x q+q) q<q:=Int.tmod_lt_of_pos _ (by omega);have a:IntKind.i64.wrap (Int.tmod x q+q)=Int.tmod x q+q:=by rw[IntKind.wrap_i64];omega
 exact⟨(Int.tmod (Int.tmod x q+q) q).toNat,_,_,by omega,rfl,rfl,by rw[a];omega,by rw[IntKind.wrap_i64];omega⟩
theorem wKey_eq{x:Ye}{a b c e:Int}(h:wKey x=[a,b,c,0,e]):x.kind=a/\x.tid=b/\x.n=c/\x.yes=false/\x.to=e:=by
 simp only[wKey,List.cons.injEq]at h;refine⟨h.1,h.2.1,h.2.2.1,?_,h.2.2.2.2.1⟩;have:=h.2.2.2.1;cases d:x.yes
 ·rfl
 ·rw[d]at this;simp at this
theorem wP_at{P:List Ye}{q v i j:Nat}{x:Ye}(a:P.map wKey=wP q v i)(b:P[j]?=some x):(wP q v i)[j]?=some (wKey x):=by rw[<-a,List.getElem?_map,b];rfl
theorem wP_lo{q v i j:Nat}(h:¬2<=i)(a:j<q-v):(wP q v i)[j]?=some [1,u17,3,0,2+(v:Int)+(j:Int)]:=by simp[wP,h,a]
theorem wP_hi{q v i j:Nat}(h:2<=i)(a:j<q):(wP q v i)[j]?=some [3,u17,0,0,2+(j:Int)]:=by simp[wP,h,a]
theorem wP_len{P:List Ye}{q v i:Nat}(a:P.map wKey=wP q v i):P.length=if 2<=i then q else q-v:=by
 have:=congrArg List.length a;rw[List.length_map]at this;rw[this,wP];split<;>simp
end Go.Po
namespace Go.Proofs.YtkdpmdfcdgphlaaGreat
open Go.RowKit Go.Mem Go.Po
set_option maxHeartbeats 16000000 in
set_option maxRecDepth 100000 in
theorem coordWaitsL_any(av Qwh B:Int)(w:World):
 Calls Tryz.prog 11 #[.int .i64 av,.int .i64 Qwh,.int .i64 B] w λe w'=>e=.returned (.bool true)/\Bel w w':=by
 have W:=Zh (show i64 u17 by simp[i64,u17]);go_enter Tryz.func11,Tryz.ntmps11;go_wp2_with fail;refine(Qci w).zR λd b=>?_
 have S:=Zh b;clear b;obtain⟨q,r,ad,U,b,f,c⟩:=rem_5 av;obtain⟨v,s,t,ae,l,n,y,o⟩:=rem_v Qwh (q:=q) (by omega) U;have g:¬((q:Int)=0):=by omega
 have h:¬((q:Int)=-1):=by omega
 have aZ:¬(q=0):=by omega
 go_upto_region 6 with (fail);clear b f c l n y o g h;by_cases ac:0<=B/\B<=6
 case neg=>
  rcases Int.lt_or_le B 0 with b|b
  ·go_wp2
   go_ret;exact⟨rfl,S⟩
  ·have c:6<B:=by omega
   go_wp2;go_ret;exact⟨rfl,S⟩
 obtain⟨k,G⟩:∃k:Nat,B=k:=⟨B.toNat,by omega⟩;subst G;have aW:k<=6:=by omega
 have aU:¬((k:Int)<0):=by omega
 have aV:¬((6:Int)<k):=by omega
 clear ac;go_wp2_with fail;refine(R7 1 rfl d).mono ?_;rintro e aP ⟨l,n,f,g,O,rfl,c,b2,b⟩;have a8:=Zh (show At O a0 0 d aP f n l g from⟨c,b,b2⟩);clear c b2 b;go_wp2_with fail;refine(At.begins a8.o (by omega)).mono ?_;rw[Qx0];rintro e E ⟨rfl,ay,b,-⟩;have a9:=Zh (show At ay k1 1 d E f n l g from b);clear b;go_upto_region 14 with (fail);go_loopw[13,14] (λs a wr=>∃(i:Nat) (J:Option Addr) (I:Nat),i<=q/\a=.int .i64 i/\s=.slice J i I/\Hid (Own Fx (λk=>k<E.heap.size) E wr 73 J I ((shs q 3).take i))/\Hid (Bel E wr)) (λ_ a _=>q-(intOf a).toNat)
 case atStart=>exact⟨0,none,0,Nat.zero_le _,rfl,rfl,Zh (Own.nil _ _ _ _ _),Zh (Bel.refl _)⟩
 case round=>
  obtain⟨i,J,I,aT,rfl,rfl,ab,aa⟩:=hrel;by_cases aD:i<q
  ·have au:IntKind.i64.wrap ((i:Int)+1)=((i+1:Nat):Int):=by rw[IntKind.wrap_i64];omega
   have aL:IntKind.i64.wrap (2+(i:Int))=2+(i:Int):=by rw[IntKind.wrap_i64];omega
   have b:i=((shs q 3).take i).length:=by simp[shs];omega
   have y:=Zh b;clear b;go_wp2_with(at_builtin;go_must (refine Xe (r:=Fx) (A:=λk=>k<E.heap.size) (w0:=E) _ rfl _ _ 71 71 rfl el_share J i I ((shs q 3).take i) y.o (ab.bel ((Bel.refl _).alloc _)) rfl _ rfl [⟨2+(i:Int),3⟩] [.int .i64 (2+(i:Int)),.int .i64 3] (Ch.one rfl rfl) (srcSh _ ⟨2+(i:Int),3⟩ (heap_alloc_new _ _)) (by simp;omega) (by omega) (by have:=aa.size;simp;omega) ?_);intro C D aw c b h;have z:=Zh c;have o:=Zh b;clear c b h);go_roundw
   case rel=>exact⟨i+1,C,D,by omega,by go_num,by simp,by rw[shs_take aD];exact z,Zh ((aa.alloc _).of_kept o.o λk G=>by obtain⟨_,_,_,h⟩:=ab.o;exact h k G)⟩
   case measure=>simp[intOf];omega
  obtain rfl:i=q:=by omega
  have o:(shs i 3).length=i:=by simp[shs]
  have c:=ab.o;rw[List.take_of_length_le (by omega)]at c;have b:=At.commit a9.o aa.o (by omega) u17 W.o (shs i 3) J I (c.rd λk G=>G) (by omega);rw[o]at b;have ax:=Zh b;clear b o c;go_wp2_with fail;refine ax.mono ?_;rintro e aw ⟨aR,aS,aq,rfl,b,-,-⟩;have aA:=Zh (show At aq (wV i 0) (2+2*0) d aw f n l g from b);clear b;go_upto_region 19 with (fail);go_loopw[15] (λa wr=>∃(m:Nat) (O:Nat->Prop),m<=v/\a=.int .i64 m/\Hid (At O (wV i m) (2+2*m) d wr f n l g)) (λa _=>v-(intOf a).toNat)
  case atStart=>exact⟨0,aq,Nat.zero_le _,rfl,aA⟩
  case round=>
   obtain⟨m,az,aX,rfl,ar⟩:=hrel;by_cases aY:m<v
   ·have au:IntKind.i64.wrap ((m:Int)+1)=((m+1:Nat):Int):=by rw[IntKind.wrap_i64];omega
    have aL:IntKind.i64.wrap (2+(m:Int))=2+(m:Int):=by rw[IntKind.wrap_i64];omega
    have y:=Zh (At.vote ar.o (by omega) (2+(m:Int)) ⟨by omega,by omega⟩ u17 W.o true);go_wp2_with fail;refine y.mono ?_;rintro e z ⟨C,D,b,rfl,c,-,-⟩;have o:=Zh (show At b (wV i (m+1)) (2+2*(m+1)) d z f n l g from c);clear c;go_wp2;go_roundw
    case rel=>exact⟨m+1,b,by omega,by go_num,o⟩
    case measure=>simp[intOf];omega
   obtain rfl:m=v:=by omega
   go_upto_region 23 with (fail);go_loopw[16] (λa wr=>∃(b:Nat) (O:Nat->Prop),b<=k/\a=.int .i64 ((b:Int)+1)/\Hid (At O (wT i m b) (2+2*m+b) d wr f n l g)) (λa _=>k+1-(intOf a).toNat)
   case atStart=>exact⟨0,az,Nat.zero_le _,rfl,ar⟩
   case round=>
    obtain⟨b,aQ,ba,rfl,T⟩:=hrel;by_cases bb:b<k
    ·have aK:(b:Int)+1<=(k:Int):=by omega
     have au:IntKind.i64.wrap ((b:Int)+1+1)=((b+1:Nat):Int)+1:=by rw[IntKind.wrap_i64];omega
     have bc:IntKind.i64.wrap ((i:Int)-(m:Int))=(i:Int)-(m:Int):=by rw[IntKind.wrap_i64];omega
     obtain⟨M,D⟩:=w_tick i U ad m ae b (by omega);obtain⟨F,H⟩:=w_few i U ad m ae b (by omega);have L:oldK (wT i m b).s.opens.length (wT i m b).K:=λp ac=>by have:=List.all_eq_true.1 H p ac;simp at this;omega
     have y:=At.tick T.o (by omega) L;rw[M]at y;obtain⟨P,K⟩:=Zx ((tickX (wT i m b)).1.1);rw[<-K]at y D;have z:P.map wKey=wP i m b:=by simpa using D
     have o:=wP_len z;obtain⟨c,C⟩:=Zx P.length;rw[<-C]at y o;obtain⟨ap,ao,am,an⟩:=Zh4 y z F C;clear M D F H L y K z C;by_cases C:2<=b
     ·rw[if_pos C]at o
      have h:(3:Int)<=(b:Int)+1:=by omega
      have aI:((c:Int)!=(i:Int))=false:=by simp;omega
      obtain⟨D,V⟩:=Zh2 o C;clear o C;go_wp2_with fail;refine ap.mono ?_;rintro e w8 ⟨aB,aC,F,rfl,z,K,-⟩;obtain⟨X,Y⟩:=Zh2 (show At F (wT i m (b+1)) (2+2*m+(b+1)) d w8 f n l g from⟨Br.more z.1 (by have:=am.o;omega),z.2⟩) K;clear z K;go_upto_region 32 with (fail);go_loopw[21] (λa wr=>∃j:Nat,j<=c/\a=.int .i64 j/\Hid (wr=w8)) (λa _=>c-(intOf a).toNat)
      case atStart=>exact⟨0,Nat.zero_le _,rfl,Zh rfl⟩
      case round=>
       obtain⟨j,aE,rfl,H⟩:=hrel;have Z:=H.o;subst Z;clear H;by_cases aH:j<c
       ·obtain⟨x,y⟩:∃x,P[j]?=some x:=⟨P[j]'(by have:=an.o;omega),by simp⟩
        obtain⟨aN,aO,rfl,aJ,af,ah,ai,aj,ak,al⟩:=Nu Y.o y;obtain⟨L,N,Q,R,M⟩:=wKey_eq (Option.some.inj ((wP_at ao.o y).symm.trans (wP_hi V.o (by have:=D.o;omega))));rw[L]at af;rw[N]at aj;rw[Q]at ak;rw[R]at al;rw[M]at ai;have aG:(j:Int)<(c:Int):=by omega
        have aF:(0:Int)<=(j:Int):=by omega
        have aM:IntKind.i64.wrap ((j:Int)+1)=((j+1:Nat):Int):=by have:=D.o;rw[IntKind.wrap_i64];omega
        clear y L N Q R M ah;go_wp2;go_roundw
        case rel=>exact⟨j+1,by omega,by go_num,Zh (by trivial)⟩
        case measure=>simp[intOf];omega
       obtain rfl:j=c:=by omega
       go_wp2;go_roundw
       case rel=>exact⟨b+1,F,by omega,by go_num,X⟩
       case measure=>simp[intOf];omega
     ·rw[if_neg C]at o
      have h:¬((3:Int)<=(b:Int)+1):=by omega
      have aI:((c:Int)!=(i:Int)-(m:Int))=false:=by simp;omega
      obtain⟨D,V⟩:=Zh2 o C;clear o C;go_wp2_with fail;refine ap.mono ?_;rintro e w8 ⟨aB,aC,F,rfl,z,K,-⟩;obtain⟨X,Y⟩:=Zh2 (show At F (wT i m (b+1)) (2+2*m+(b+1)) d w8 f n l g from⟨Br.more z.1 (by have:=am.o;omega),z.2⟩) K;clear z K;go_upto_region 32 with (fail);go_loopw[21] (λa wr=>∃j:Nat,j<=c/\a=.int .i64 j/\Hid (wr=w8)) (λa _=>c-(intOf a).toNat)
      case atStart=>exact⟨0,Nat.zero_le _,rfl,Zh rfl⟩
      case round=>
       obtain⟨j,aE,rfl,H⟩:=hrel;have Z:=H.o;subst Z;clear H;by_cases aH:j<c
       ·obtain⟨x,y⟩:∃x,P[j]?=some x:=⟨P[j]'(by have:=an.o;omega),by simp⟩
        obtain⟨aN,aO,rfl,aJ,af,ah,ai,aj,ak,al⟩:=Nu Y.o y;obtain⟨L,N,Q,R,M⟩:=wKey_eq (Option.some.inj ((wP_at ao.o y).symm.trans (wP_lo V.o (by have:=D.o;omega))));rw[L]at af;rw[N]at aj;rw[Q]at ak;rw[R]at al;rw[M]at ai;have aG:(j:Int)<(c:Int):=by omega
        have aF:(0:Int)<=(j:Int):=by omega
        have aM:IntKind.i64.wrap ((j:Int)+1)=((j+1:Nat):Int):=by have:=D.o;rw[IntKind.wrap_i64];omega
        have d:IntKind.i64.wrap (2+(m:Int))=2+(m:Int):=by rw[IntKind.wrap_i64];omega
        have o:IntKind.i64.wrap (2+(m:Int)+(j:Int))=2+(m:Int)+(j:Int):=by have:=D.o;rw[IntKind.wrap_i64];omega
        clear y L N Q R M ah;go_wp2;go_roundw
        case rel=>exact⟨j+1,by omega,by go_num,Zh (by trivial)⟩
        case measure=>simp[intOf];omega
       obtain rfl:j=c:=by omega
       go_wp2;go_roundw
       case rel=>exact⟨b+1,F,by omega,by go_num,X⟩
       case measure=>simp[intOf];omega
    obtain rfl:b=k:=by omega
    have c:=At.word T Go.Po.u17 W;rw[w_word i U ad m ae b (by omega)]at c;have o:=Zh c;clear c;have aK:¬((b:Int)+1<=(b:Int)):=by omega
    by_cases h:3<=b
    ·have y:decide ((3:Int)<=(b:Int))=true:=by simp;omega
     have z:decide (3<=b)=true:=by simpa using h
     go_wp2_with fail;refine o.mono ?_;rw[if_pos h];rintro e C ⟨rfl,c⟩;have d:=Zh c;clear c;go_wp2;go_ret;exact⟨rfl,S.trans (T.2.2.trans d)⟩
    ·have y:decide ((3:Int)<=(b:Int))=false:=by simp;omega
     have z:decide (3<=b)=false:=by simpa using h
     go_wp2_with fail;refine o.mono ?_;rw[if_neg h];rintro e C ⟨rfl,c⟩;have d:=Zh c;clear c;go_wp2;go_ret;exact⟨rfl,S.trans (T.2.2.trans d)⟩
end Go.Proofs.YtkdpmdfcdgphlaaGreat

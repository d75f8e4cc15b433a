/- Part of this claim's proof. Conditions: as its theorems say. -/
import Derived.Test.YtkdpmdfcdgphlaaGreatM2
import Derived.Test.YtkdpmdfcdgphlaaGreatWLPrep
import Derived.Test.YtkdpmdfcdgphlaaGreatWAtB
import Derived.Test.YtkdpmdfcdgphlaaGreatWRefB
import Derived.Test.YtkdpmdfcdgphlaaGreatM39
set_option linter.all false
namespace Go.Proofs.YtkdpmdfcdgphlaaGreat
open Go.RowKit Go.Mem Go.Po
set_option maxHeartbeats 8000000 in
set_option maxRecDepth 100000 in
theorem Qed(p n:Int)(w:World):
 Calls Tryz.prog 4 #[.int .i64 p,.int .i64 n] w λe w'=>e=.returned (.bool true)/\Bel w w':=by
 obtain⟨h,aw⟩:=Zh2 (show i64 t3 by simp[i64,t3]) (show pq.q.size<=maxLen by simp[maxLen,pq,ByteArray.size]);go_enter Tryz.func4,Tryz.ntmps4;go_wp2_with fail;refine(Qci w).zR λq b=>?_
 have P:=Zh b;clear b;by_cases c:0<=p/\p<=12
 case neg=>
  rcases Int.lt_or_le p 0 with b|b
  ·go_wp2
   go_ret;exact⟨rfl,P⟩
  ·have d:12<p:=by omega
   go_wp2;go_ret;exact⟨rfl,P⟩
 obtain⟨k,az⟩:∃k:Nat,p=k:=⟨p.toNat,by omega⟩;subst az;have aJ:k<=12:=by omega
 have aH:¬((k:Int)<0):=by omega
 have aI:¬((12:Int)<k):=by omega
 clear c;go_wp2_with fail;refine(R7 1 rfl q).mono ?_;rintro e aB ⟨A,B,v,y,O,rfl,c,b2,b⟩;have ax:=Zh (show At O (bp 0) 0 q aB v B A y from⟨c,b,b2⟩);clear c b2 b;go_upto_region 11 with (fail);go_loopw[10] (λa wr=>∃(i:Nat) (O:Nat->Prop),i<=k/\a=.int .i64 i/\Hid (At O (bp i) i q wr v B A y)) (λa _=>k-(intOf a).toNat)
 case atStart=>exact⟨0,O,Nat.zero_le _,rfl,ax⟩
 case round=>
  obtain⟨i,aC,aF,rfl,aq⟩:=hrel;by_cases aG:i<k
  ·have b:=At.put aq.o (by omega) t3 h.o pq aw.o
   have f:=Qy8 i (by omega);obtain⟨r,c⟩:=Zx (Ga (bp i).s (bp i).G t3 pq);rw[<-c]at b f;have j:=Zh b;have z:IntKind.i64.wrap ((i:Int)+1)=((i+1:Nat):Int):=by rw[IntKind.wrap_i64];omega
   clear b c;by_cases l:i<10
   ·have o:r=0:=by simpa[l] using f
    subst o;have t:decide ((i:Int)<10)=true:=by simp;omega
    clear f;go_wp2_with fail;refine j.mono ?_;rintro e s ⟨rfl,d,c,-⟩;have b:=Zh (show At d (bp (i+1)) (i+1) q s v B A y from c);clear c;go_wp2;go_roundw
    case rel=>exact⟨i+1,d,by omega,by go_num,b⟩
    case measure=>simp[intOf];omega
   ·have o:(r==0)=false:=by simpa[l] using f
    have t:decide ((i:Int)<10)=false:=by simp;omega
    clear f;go_wp2_with fail;refine j.mono ?_;rintro e s ⟨rfl,d,c,-⟩;have b:=Zh (show At d (bp (i+1)) (i+1) q s v B A y from c);clear c;go_wp2;go_roundw
    case rel=>exact⟨i+1,d,by omega,by go_num,b⟩
    case measure=>simp[intOf];omega
  ·obtain rfl:i=k:=by omega
   obtain⟨m,F⟩:=Zx (min i 10);have aL:∀(w:World) f j,(Builtin.min_ f j #[.int .i64 i,.int .i64 10]).run Tryz.prog w=.ok (.int .i64 (m:Int)) w:=λw f j=>by
    rw[run_min_int2];congr 2;(try split)<;>omega
   have av:=Zh F;have z:=At.prep aq.o (by omega) t3 h.o n;by_cases S:0<i/\n=m
   ·obtain⟨ar,rfl⟩:=S
    have aE:(0:Int)<m:=by omega
    have aK:0<m:=by omega
    have f:=Qy9 i (by omega) ar;rw[<-F]at f;rw[f.1]at z;obtain⟨ad,Q⟩:=Zh2 z f;clear z f F;go_wp2_with fail;refine ad.mono ?_;rintro e s ⟨rfl,d,c,-⟩;have b:=Zh (show At d (bY i) (i+1) q s v B A y by rw[bY,<-av.o];exact c);clear c;go_wp2_with fail;refine(At.state b).mono ?_;rintro e M ⟨Z,U,ac,X,Y,T,ab,W,aa,V,rfl,G,j⟩;obtain⟨al,f⟩:=Zx (M.alloc (.cells #[.int .i64 (bY i).s.broker,.int .i64 (bY i).s.nextId,.int .i64 (bY i).s.nextSeq,.int .i64 (bY i).s.tx,.slice Z (bY i).s.ms.length U,.slice ac (bY i).s.waits.length X,.slice Y (bY i).s.ends.length T,.slice ab (bY i).s.opens.length W,.slice aa (bY i).s.noes.length V] 43));obtain⟨ak,C,af⟩:=Zh3 (Told.new b.o G j f) (At.bel (At.bel b.o j) (show Bel M al from f▸(Bel.refl _).alloc _)) f;obtain⟨a9,l1,J⟩:=At.locks C.o;have o:=J t3 h;rw[Q.2.1]at o;obtain⟨ah,ai⟩:=Zh2 l1 o;clear G j f l1 J o;go_wp2_with fail;rw[<-af.o];refine ah.zS ?_;go_wp2_with fail;refine ai.zS ?_;have l:=At.prep C.o (by omega) t3 h.o m;rw[Q.2.2.2.1]at l;have ae:=Zh l;clear l;go_wp2_with fail;refine ae.mono ?_;rintro e au ⟨rfl,ap,K,L⟩;obtain⟨aj,t⟩:=Zh2 K (Told.moves ak.o L);obtain⟨E,x,H,I⟩:=Hw Q.2.2.1;obtain⟨g,off,a8,aD,D,R,-,N,-⟩:=Kl t.rd.waits H;rw[I]at N;simp only[Nat.zero_mul,Nat.add_zero]at N;have am:=cell_of_block t.blk 5 _ rfl;rw[E,D]at am;have an:=At.put aj.o (by omega) t3 h.o ⟨⟨#[113]⟩,⟨#[]⟩⟩ (by simp[maxLen,ByteArray.size]);rw[Q.2.2.2.2]at an;have ao:=Zh an;clear K L H I E D an;go_wp2_with fail;refine ao.mono ?_;rintro e aA ⟨rfl,ay,q10,-⟩;have an:=Zh q10;clear q10;go_wp2;go_ret;exact⟨rfl,P.trans an.2.2⟩
   ·have R:(decide (0<(m:Int))&&(n==(m:Int)))=false:=by
     rcases Nat.eq_zero_or_pos i with Q|Q
     ·have:m=0:=by omega
      simp[this]
     ·have:n≠m:=λe=>S ⟨Q,e⟩
      simp[this]
    have an:=Qx1 (k:=i) (by omega) (n:=n) (by rw[<-F];exact S);have ar:=Qwc i (by omega);rw[an.1]at z;obtain⟨ad,ao,Q⟩:=Zh3 z an ar;clear z an ar F S;have a8:∃c1 c2:Bool,decide (0<(m:Int))=c1/\(n==(m:Int))=c2/\(c1&&c2)=false:=⟨_,_,rfl,rfl,R⟩;obtain⟨c1,c2,ay,aE,z⟩:=a8;have aD:decide (0<m)=c1:=by rw[<-ay];simp
    clear R;have F:c1=true->c2=false:=by rintro rfl;simpa using z
    clear z;go_wp2_with fail;refine ad.mono ?_;rintro e s ⟨rfl,d,c,-⟩;have b:=Zh (show At d (bN i) (i+1) q s v B A y by rw[<-ao.2.1];exact c);clear c;go_wp2_with fail;refine(At.state b).mono ?_;rintro e M ⟨Z,U,ac,X,Y,T,ab,W,aa,V,rfl,G,j⟩;obtain⟨al,f⟩:=Zx (M.alloc (.cells #[.int .i64 (bN i).s.broker,.int .i64 (bN i).s.nextId,.int .i64 (bN i).s.nextSeq,.int .i64 (bN i).s.tx,.slice Z (bN i).s.ms.length U,.slice ac (bN i).s.waits.length X,.slice Y (bN i).s.ends.length T,.slice ab (bN i).s.opens.length W,.slice aa (bN i).s.noes.length V] 43));obtain⟨ak,C,af⟩:=Zh3 (Told.new b.o G j f) (At.bel (At.bel b.o j) (show Bel M al from f▸(Bel.refl _).alloc _)) f;obtain⟨a9,l1,J⟩:=At.locks C.o;have o:=J t3 h;rw[Q.1]at o;obtain⟨ah,ai⟩:=Zh2 l1 o;have l:=At.prep C.o (by omega) t3 h.o n;rw[ao.2.2]at l;have ae:=Zh l;clear G j f l1 J o l;rcases c1 with _|_
    case' true=>obtain rfl:=F rfl
    all_goals
     clear F;go_wp2_with fail;rw[<-af.o];refine ah.zS ?_;go_wp2_with fail;refine ai.zS ?_;go_wp2_with fail;refine ae.mono ?_;rintro e au ⟨rfl,ap,K,L⟩;obtain⟨aj,t⟩:=Zh2 K (Told.moves ak.o L);have c:=Qir (bN i).s Z U ac X Y T ab W aa V t3 ap au t.rd (by have:=congrArg List.length Q.2.2.2.2;simp at this;omega);rw[Q.2.2.2.1]at c;have q:=Zh c;obtain⟨E,x,H,I⟩:=Hw Q.2.2.2.2;obtain⟨j,z⟩:=Zh2 (And.intro H I) E;obtain⟨e0,F,G,J,S,am,f,an,ar⟩:=sAt t.blk;clear K L c H I E;go_wp2_with fail;refine q.zR λaA c=>?_
     obtain⟨l,o⟩:=Zh2 (Told.bel t.o c) (Bel.trans aj.2.2 c);clear c e0 F G J S am f an ar;obtain⟨g,off,D,R,-,N⟩:=Ba l.rd.ends j.1;rw[j.2]at N;simp only[Nat.zero_mul,Nat.add_zero]at N;have f:=cell_of_block l.blk 6 _ rfl;rw[z.o,D]at f;clear D;go_wp2;go_ret;exact⟨rfl,P.trans o⟩
end Go.Proofs.YtkdpmdfcdgphlaaGreat

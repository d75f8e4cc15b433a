import Derived.Test.YtkdpmdfcdgphlaaGreatM9
import Derived.Test.YtkdpmdfcdgphlaaGreatWLAsk
import Derived.Test.YtkdpmdfcdgphlaaGreatM2
set_option linter.all false
namespace Go.Proofs.YtkdpmdfcdgphlaaGreat
open Tryz
open Go.RowKit Go.Mem Go.Po
set_option maxHeartbeats 8000000 in
set_option maxRecDepth 100000 in
theorem Qnb(a:Yes 15)(Z frm b:Int)(d:i64 b)(w:World):
 Calls prog 8 #[.int .i64 Z,.int .i64 frm,.int .i64 b] w λe w'=>e=.returned (.bool true)/\Bel w w':=by
 have aa:=Zh a;have h:i64 4294967297:=by simp[i64]
 have c:i64 2:=by simp[i64]
 obtain⟨f,G⟩:=Zh2 (show i64 u17/\i64 2 from And.intro h c) d;clear a h c d;go_enter func8,ntmps8;go_wp2_with fail;refine(aa w).zR λt a=>?_
 have i:=Zh a;clear a;go_wp2_with fail;refine(R7 1 rfl t).mono ?_;rintro e ak ⟨z,A,x,y,O,rfl,c,b2,a⟩;have ac:=Zh (show At O a0 0 t ak x A z y from⟨c,a,b2⟩);clear c b2 a;go_wp2_with fail;refine(At.begins ac.o (by omega)).mono ?_;rw[Qx0];rintro e p ⟨rfl,ab,a,-⟩;have D:=Zh (show At ab k1 1 t p x A z y from a);clear a;obtain⟨g,am⟩:∃g,bits BinOp.and IntKind.i64 Z 3=g:=⟨_,rfl⟩;by_cases al:g<=0
 ·have af:g<=1:=by omega
  have Y:g<2:=by omega
  go_wp2_with fail;refine(At.ask D frm u17 f.1).mono ?_;rw[(Qfd frm u17).1];rintro e K ⟨ao,cap,rfl,-,c1⟩;have c:=Zh c1;clear c1;by_cases a:b=u17
  ·have m:(b==u17)=true:=by simpa using a
   clear a;go_wp2;go_ret;exact⟨rfl,i.trans (At.bel D c).2.2⟩
  have m:(b==u17)=false:=by simpa using a
  clear a;go_wp2_with fail;refine(At.ask (At.bel D c) frm b G).mono ?_;rw[(Qfd frm b).1];rintro e l ⟨I,J,rfl,-,c2⟩;have h:=Zh (c.trans c2);clear c2;go_wp2_with fail;refine(Vr frm l).mono ?_;rcases Qz frm with _|_
  ·rintro e E ⟨rfl,rfl⟩
   go_wp2;go_ret;exact⟨rfl,i.trans (At.bel D h).2.2⟩
  ·rintro e E ⟨rfl,rfl⟩
   go_wp2;go_ret;exact⟨rfl,i.trans (At.bel D h).2.2⟩
 by_cases af:g<=1
 ·have Y:g<2:=by omega
  obtain⟨Q,d⟩:=Zx (p.alloc (.cells #[.int .i64 2,.int .i64 1] 73));have o:=Zb d;have n:=Zn d;have s:Rd Fx (λk=>k<p.heap.size) Q (some ⟨p.heap.size,0,none⟩) 1 [⟨2,1⟩]:=⟨[.int .i64 2,.int .i64 1],Ch.one rfl rfl,rfl,Nat.le_refl _,by simp[maxLen],λ_=>⟨p.heap.size,0,_,_,_,rfl,Qb n,λC=>by omega,n,λj F B=>by simpa using B⟩⟩;obtain⟨M,N⟩:=Zh2 (At.commit D.o o (by omega) u17 f.1 [⟨2,1⟩] (some ⟨p.heap.size,0,none⟩) 1 s (by simp)) d;clear d o n s;go_wp2_with fail;rw[<-N.o];refine M.mono ?_;rintro e w8 ⟨ad,ae,P,rfl,v,-,-⟩;have r:=Zh (show At P k2 2 t w8 x A z y from v);clear v;go_wp2_with fail;refine(At.ask r frm u17 f.1).mono ?_;rw[(Qfd frm u17).2];rintro e K ⟨ao,cap,rfl,-,c1⟩;have c:=Zh c1;clear c1;by_cases a:b=u17
  ·have m:(b==u17)=true:=by simpa using a
   clear a;go_wp2;go_ret;exact⟨rfl,i.trans (At.bel r c).2.2⟩
  have m:(b==u17)=false:=by simpa using a
  clear a;go_wp2_with fail;refine(At.ask (At.bel r c) frm b G).mono ?_;rw[(Qfd frm b).2];rintro e l ⟨I,J,rfl,-,c2⟩;have h:=Zh (c.trans c2);clear c2;go_wp2_with fail;refine(Vr frm l).mono ?_;rcases Qz frm with _|_
  ·rintro e E ⟨rfl,rfl⟩
   go_wp2;go_ret;exact⟨rfl,i.trans (At.bel r h).2.2⟩
  ·rintro e E ⟨rfl,rfl⟩
   go_wp2;go_ret;exact⟨rfl,i.trans (At.bel r h).2.2⟩
 have Y:¬g<2:=by omega
 obtain⟨Q,d⟩:=Zx (p.alloc (.cells #[.int .i64 2,.int .i64 1] 73));have o:=Zb d;have n:=Zn d;have s:Rd Fx (λk=>k<p.heap.size) Q (some ⟨p.heap.size,0,none⟩) 1 [⟨2,1⟩]:=⟨[.int .i64 2,.int .i64 1],Ch.one rfl rfl,rfl,Nat.le_refl _,by simp[maxLen],λ_=>⟨p.heap.size,0,_,_,_,rfl,Qb n,λC=>by omega,n,λj F B=>by simpa using B⟩⟩;obtain⟨M,N⟩:=Zh2 (At.commit D.o o (by omega) u17 f.1 [⟨2,1⟩] (some ⟨p.heap.size,0,none⟩) 1 s (by simp)) d;clear d o n s;go_wp2_with fail;rw[<-N.o];refine M.mono ?_;rintro e w8 ⟨ad,ae,P,rfl,v,-,-⟩;have r:=Zh (show At P k2 2 t w8 x A z y from v);clear v;obtain⟨q,d⟩:=Zx (Qz frm);have v:=Zh d;clear d;by_cases L:g=2
 ·have ah:(g==2)=true:=by simpa using L
  clear L;go_wp2_with fail;rcases q with _|_
  ·have C:=Zh (show Uo (k3 true) frm u17=[] from(Qfe true frm).trans (by rw[<-v.o];rfl))
   refine(At.vote r.o (by omega) 2 f.2 u17 f.1 true).mono ?_;rintro e F ⟨R,S,s,rfl,n,-,-⟩;have d:=Zh (show At s (k3 true) 4 t F x A z y from n);clear n;go_wp2_with fail;refine(At.ask d frm u17 f.1).mono ?_;rw[C.o];rintro e K ⟨ao,cap,rfl,o,c1⟩;obtain⟨c,H⟩:=Zh2 c1 o;clear c1 o;by_cases a:b=u17
   ·have m:(b==u17)=true:=by simpa using a
    clear a;go_wp2;go_ret;exact⟨rfl,i.trans (At.bel d c).2.2⟩
   have m:(b==u17)=false:=by simpa using a
   have B:=Zh (Qco true frm a);clear a;go_wp2_with fail;refine(At.ask (At.bel d c) frm b G).mono ?_;rw[B.o];rintro e l ⟨I,J,rfl,-,c2⟩;have h:=Zh c2;clear c2;go_wp2_with fail;refine(Vr frm l).mono ?_;rw[<-v.o];rintro e E ⟨rfl,rfl⟩;go_wp2;go_ret;exact⟨rfl,i.trans (At.bel d (c.trans h)).2.2⟩
  ·have C:=Zh (show Uo (k3 true) frm u17=[⟨3,1,frm,u17,0,true⟩] from(Qfe true frm).trans (by rw[<-v.o];rfl))
   refine(At.vote r.o (by omega) 2 f.2 u17 f.1 true).mono ?_;rintro e F ⟨R,S,s,rfl,n,-,-⟩;have d:=Zh (show At s (k3 true) 4 t F x A z y from n);clear n;go_wp2_with fail;refine(At.ask d frm u17 f.1).mono ?_;rw[C.o];rintro e K ⟨ao,cap,rfl,o,c1⟩;obtain⟨c,H⟩:=Zh2 c1 o;clear c1 o;by_cases a:b=u17
   ·have m:(b==u17)=true:=by simpa using a
    clear a;go_wp2;go_ret;exact⟨rfl,i.trans (At.bel d c).2.2⟩
   have m:(b==u17)=false:=by simpa using a
   have B:=Zh (Qco true frm a);clear a;go_wp2_with fail;refine(At.ask (At.bel d c) frm b G).mono ?_;rw[B.o];rintro e l ⟨I,J,rfl,-,c2⟩;have h:=Zh c2;clear c2;go_wp2_with fail;refine(Vr frm l).mono ?_;rw[<-v.o];rintro e E ⟨rfl,rfl⟩;obtain⟨ai,off,X,aj,e0,T,U,V,-,W⟩:=Nu (show Rd Xw s l ao cap [⟨3,1,frm,u17,0,true⟩] from H.bel h.o) (show([⟨3,1,frm,u17,0,true⟩]:List Ye)[0]?=some _ from rfl);simp only[Nat.zero_mul,Nat.add_zero]at e0 T U V W;subst X;go_wp2;go_ret;exact⟨rfl,i.trans (At.bel d (c.trans h)).2.2⟩
 ·have ah:(g==2)=false:=by simpa using L
  clear L;go_wp2_with fail;rcases q with _|_
  ·have C:=Zh (show Uo (k3 false) frm u17=[] from(Qfe false frm).trans (by rw[<-v.o];rfl))
   refine(At.vote r.o (by omega) 2 f.2 u17 f.1 false).mono ?_;rintro e F ⟨R,S,s,rfl,n,-,-⟩;have d:=Zh (show At s (k3 false) 4 t F x A z y from n);clear n;go_wp2_with fail;refine(At.ask d frm u17 f.1).mono ?_;rw[C.o];rintro e K ⟨ao,cap,rfl,o,c1⟩;obtain⟨c,H⟩:=Zh2 c1 o;clear c1 o;by_cases a:b=u17
   ·have m:(b==u17)=true:=by simpa using a
    clear a;go_wp2;go_ret;exact⟨rfl,i.trans (At.bel d c).2.2⟩
   have m:(b==u17)=false:=by simpa using a
   have B:=Zh (Qco false frm a);clear a;go_wp2_with fail;refine(At.ask (At.bel d c) frm b G).mono ?_;rw[B.o];rintro e l ⟨I,J,rfl,-,c2⟩;have h:=Zh c2;clear c2;go_wp2_with fail;refine(Vr frm l).mono ?_;rw[<-v.o];rintro e E ⟨rfl,rfl⟩;go_wp2;go_ret;exact⟨rfl,i.trans (At.bel d (c.trans h)).2.2⟩
  ·have C:=Zh (show Uo (k3 false) frm u17=[⟨3,1,frm,u17,0,false⟩] from(Qfe false frm).trans (by rw[<-v.o];rfl))
   refine(At.vote r.o (by omega) 2 f.2 u17 f.1 false).mono ?_;rintro e F ⟨R,S,s,rfl,n,-,-⟩;have d:=Zh (show At s (k3 false) 4 t F x A z y from n);clear n;go_wp2_with fail;refine(At.ask d frm u17 f.1).mono ?_;rw[C.o];rintro e K ⟨ao,cap,rfl,o,c1⟩;obtain⟨c,H⟩:=Zh2 c1 o;clear c1 o;by_cases a:b=u17
   ·have m:(b==u17)=true:=by simpa using a
    clear a;go_wp2;go_ret;exact⟨rfl,i.trans (At.bel d c).2.2⟩
   have m:(b==u17)=false:=by simpa using a
   have B:=Zh (Qco false frm a);clear a;go_wp2_with fail;refine(At.ask (At.bel d c) frm b G).mono ?_;rw[B.o];rintro e l ⟨I,J,rfl,-,c2⟩;have h:=Zh c2;clear c2;go_wp2_with fail;refine(Vr frm l).mono ?_;rw[<-v.o];rintro e E ⟨rfl,rfl⟩;obtain⟨ai,off,X,aj,e0,T,U,V,-,W⟩:=Nu (show Rd Xw s l ao cap [⟨3,1,frm,u17,0,false⟩] from H.bel h.o) (show([⟨3,1,frm,u17,0,false⟩]:List Ye)[0]?=some _ from rfl);simp only[Nat.zero_mul,Nat.add_zero]at e0 T U V W;subst X;go_wp2;go_ret;exact⟨rfl,i.trans (At.bel d (c.trans h)).2.2⟩
end Go.Proofs.YtkdpmdfcdgphlaaGreat
